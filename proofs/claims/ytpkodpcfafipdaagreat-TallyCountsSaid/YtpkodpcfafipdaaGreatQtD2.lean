/- A part of the proof: 4 texts joined. -/
import Derived.Test.YtpkodpcfafipdaaGreatQtA18
import Derived.Test.YtpkodpcfafipdaaGreatQtD1
set_option linter.all false
namespace Go.Proofs.YtpkodpcfafipdaaGreat
open Go.RowKit
def addS (T:TallyTally) (i:Nat) (n:Int):TallyTally:=⟨T.counts.set i ⟨⟨⟩,⟨⟩,min (cntT T i + n) (4611686018427387904:Int)⟩,T.once,T.names⟩
structure CntG (T:TallyTally):Prop where
 len:T.counts.length=12
 bd:∀ i,i < 12→0≤cntT T i∧cntT T i≤(4611686018427387904:Int)
theorem cnt_addS {T:TallyTally} {i:Nat} {n:Int} (hl:T.counts.length=12) (hi:i < 12) (j:Nat):cntT (addS T i n) j=if j=i then min (cntT T i + n) (4611686018427387904:Int) else cntT T j:=by
 unfold cntT addS
 by_cases h:j=i
 ·subst h
  rw [if_pos rfl]
  show ((T.counts.set j _).getD j _).v_=_
  rw [List.getD_eq_getElem?_getD,List.getElem?_set_self (by omega)];rfl
 ·rw [if_neg h]
  show ((T.counts.set i _).getD j _).v_=_
  rw [List.getD_eq_getElem?_getD,List.getElem?_set_ne (Ne.symm h),← List.getD_eq_getElem?_getD]
theorem more_s {T:TallyTally} {i:Nat} {n:Int} (h:CntG T) (hi:i < 12) (hn:0≤n∧n≤9223372036854775807):p_tally_Tally_more T (i:Int) n=some (addS T i n)∧CntG (addS T i n):=by
 have a:arr? 12 T.counts (i:Int)=some (T.counts.getD i ⟨⟨⟩,⟨⟩,0⟩):=arrT h.len hi
 have e:(T.counts.getD i ⟨⟨⟩,⟨⟩,0⟩).v_=cntT T i:=rfl
 have b:=h.bd i hi
 refine ⟨?_,by show (List.set _ _ _).length=12;rw [List.length_set];exact h.len,fun j hj=>?_⟩
 ·unfold p_tally_Tally_more
  rw [a]
  simp only [Option.bind_some,e]
  rw [w64_id (by omega),Int.toNat_natCast]
  by_cases hg:(4611686018427387904:Int) - cntT T i < n
  ·rw [decide_eq_true hg,cond_true]
   have:min (cntT T i + n) (4611686018427387904:Int)=(4611686018427387904:Int):=by show min (cntT T i + n) 4611686018427387904=4611686018427387904;omega
   unfold addS;rw [this]
  ·rw [decide_eq_false hg,cond_false,w64_id (by omega)]
   have:min (cntT T i + n) (4611686018427387904:Int)=cntT T i + n:=by show min (cntT T i + n) 4611686018427387904=_;omega
   unfold addS;rw [this]
 ·have bj:=h.bd j hj
  rw [cnt_addS h.len hi]
  show 0≤(if j=i then min (cntT T i + n) 4611686018427387904 else cntT T j)∧(if j=i then min (cntT T i + n) 4611686018427387904 else cntT T j)≤4611686018427387904
  split <;> omega
def kI (k:Int) (i:Nat):Int:=match p_tally_kind k with | some v=>if v=(i:Int) then 1 else 0 | none=>0
def incS (x:Ref33Said) (i:Nat):Int:=(if i=3 then putT x.S else 0) + kI x.S.Kind i
def sumI (i:Nat) (l:List Ref33Said):Int:=(l.map fun x=>incS x i).foldr (· + ·) 0
theorem min_min {a x y:Int} (hy:0≤y):min (min (a + x) (4611686018427387904:Int) + y) (4611686018427387904:Int)=min (a + (x + y)) (4611686018427387904:Int):=by
 show min (min (a + x) 4611686018427387904 + y) 4611686018427387904=min (a + (x + y)) 4611686018427387904
 omega
theorem kI_nn (k:Int) (i:Nat):0≤kI k i:=by
 unfold kI
 split
 ·split <;> omega
 ·omega
theorem putT_nn (s:StanzaStanza):0≤putT s∧putT s≤130:=by
 unfold putT
 split
 ·rename_i v _
  obtain ⟨_,z2,z3⟩:=fsz_p v.1
  exact ⟨z2,by omega⟩
 ·omega
theorem incS_nn (x:Ref33Said) (i:Nat):0≤incS x i:=by
 have h1:=kI_nn x.S.Kind i
 have h2:=putT_nn x.S
 unfold incS
 split <;> omega
theorem sumI_nn (i:Nat):∀ l:List Ref33Said,0≤sumI i l
 | []=>Int.le_refl 0
 | x :: l=>by
  have h1:=incS_nn x i
  have h2:=sumI_nn i l
  show 0≤incS x i + sumI i l
  omega
structure Same2 (T T' : TallyTally):Prop where
 once:T'.once=T.once
 names:T'.names=T.names
theorem note_ls (l : List Ref33Said) (hf : ∀ x ∈ l, stzFits x.S) (hl : l.length ≤ 1000) : ∀ (n k F : Nat) (T : TallyTally), k + n = l.length → n < F → CntG T → ∃ T', p_tally_Tally_Note_l1 l (l.length : Int) F (k : Int) T = some ((l.length : Int), T') ∧ CntG T' ∧ Same2 T T' ∧
      ∀ i, i < 12 → cntT T' i = min (cntT T i + sumI i (l.drop k)) (4611686018427387904 : Int)
  | 0, k, F + 1, T, hk, hF, hc => by
    rw [p_tally_Tally_Note_l1, lt_ff (by omega), show k = l.length by omega, List.drop_length]
    refine ⟨T, rfl, hc, ⟨rfl, rfl⟩, fun i hi => ?_⟩
    have := hc.bd i hi
    show cntT T i = min (cntT T i + 0) 4611686018427387904
    omega
  | n + 1, k, F + 1, T, hk, hF, hc => by
    have hlt : k < l.length := by omega
    have hs := hf _ (List.getElem_mem hlt)
    obtain ⟨v, hv⟩ : ∃ v, p_stanza_Put l[k].S = some v := by unfold p_stanza_Put; rw [if_pos hs]; exact ⟨_, rfl⟩
    obtain ⟨z1, z2, z3⟩ := fsz_p v.1
    have hput : putT l[k].S = fszT v.1 := by unfold putT; rw [hv]
    obtain ⟨m1, c1⟩ := more_s (i := 3) (n := fszT v.1) hc (by omega) ⟨z2, by omega⟩
    have m1' : p_tally_Tally_more T (3 : Int) (fszT v.1) = _ := m1
    have hd : ∀ i, sumI i (l.drop k) = incS l[k] i + sumI i (l.drop (k + 1)) := fun i => by rw [drop_at hlt]; rfl
    have e3 := cnt_addS (i := 3) (n := fszT v.1) hc.len (by omega)
    have snn : ∀ i, 0 ≤ sumI i (l.drop (k + 1)) := fun i => sumI_nn i _
    rw [p_tally_Tally_Note_l1, lt_tt hlt, at_lt hlt]
    simp only [cond_true, Option.bind_some]
    rw [hv]
    simp only [Option.bind_some]
    rw [z1]
    simp only [Option.bind_some]
    rw [m1']
    simp only [Option.bind_some]
    rcases kind_p l[k].S.Kind with hk1 | ⟨q, q4, q10, hk1⟩
    · have hkI : ∀ i : Nat, kI l[k].S.Kind i = 0 := fun i => by unfold kI; rw [hk1]; show (if (-1 : Int) = (i : Int) then (1 : Int) else 0) = 0; rw [if_neg (by omega)]
      rw [hk1]
      simp only [Option.bind_some, bne_self_eq_false, cond_false]
      rw [w64_succ (by omega)]
      obtain ⟨T', r1, r2, r3, r4⟩ := note_ls l hf hl n (k + 1) F _ (by omega) (by omega) c1
      refine ⟨T', r1, r2, ⟨r3.once, r3.names⟩, fun i hi => ?_⟩
      have b := hc.bd i hi
      have s := snn i
      rw [r4 i hi, e3, hd]
      unfold incS
      rw [hkI, hput]
      by_cases h3 : i = 3
      · subst h3; rw [if_pos rfl, if_pos rfl, min_min s, Int.add_zero]
      · rw [if_neg h3, if_neg h3, Int.add_zero, Int.zero_add]
    · have hkI : ∀ i : Nat, kI l[k].S.Kind i = if i = q then 1 else 0 := fun i => by
        unfold kI; rw [hk1]
        show (if (q : Int) = (i : Int) then (1 : Int) else 0) = _
        by_cases h : i = q
        · rw [if_pos h, if_pos (by omega)]
        · rw [if_neg h, if_neg (by omega)]
      rw [hk1]
      have hne : ((q : Int) != (-1 : Int)) = true := bne_iff_ne.2 (by omega)
      obtain ⟨m2, c2⟩ := more_s (i := q) (n := 1) c1 (by omega) (by omega)
      simp only [Option.bind_some, hne, cond_true]
      rw [m2]
      simp only [Option.bind_some]
      rw [w64_succ (by omega)]
      have eq := cnt_addS (i := q) (n := 1) c1.len (by omega)
      obtain ⟨T', r1, r2, r3, r4⟩ := note_ls l hf hl n (k + 1) F _ (by omega) (by omega) c2
      refine ⟨T', r1, r2, ⟨r3.once, r3.names⟩, fun i hi => ?_⟩
      have b := hc.bd i hi
      have s := snn i
      rw [r4 i hi, eq, e3, e3, hd]
      unfold incS
      rw [hkI, hput]
      by_cases h3 : i = 3
      · subst h3
        rw [if_neg (show ¬ (3 = q) by omega), if_pos rfl, if_pos rfl, if_neg (show ¬ (3 = q) by omega), min_min s, Int.add_zero]
      · by_cases hq : i = q
        · subst hq
          rw [if_pos rfl, if_neg h3, if_neg h3, if_pos rfl, min_min s, Int.zero_add]
        · rw [if_neg hq, if_neg h3, if_neg h3, if_neg hq, Int.add_zero, Int.zero_add]
def noteI (r:Ref33Result) (i:Nat):Int:=(if i=0 then 1 else 0) + ((if i=1∧r.E≠0 then 1 else 0) + ((if i=2 then (r.Said.length:Int) else 0) + ((if i=11 then (r.Shut.length:Int) else 0) + sumI i r.Said)))
theorem add1 {T:TallyTally} {p:Nat} {n:Int} (hc:CntG T) (hp:p < 12) (hn:0≤n) (i:Nat) (hi:i < 12):cntT (addS T p n) i=min (cntT T i + (if i=p then n else 0)) (4611686018427387904:Int):=by
 have b:=hc.bd i hi
 rw [cnt_addS hc.len hp]
 show (if i=p then min (cntT T p + n) 4611686018427387904 else cntT T i)=min (cntT T i + (if i=p then n else 0)) 4611686018427387904
 by_cases h:i=p
 ·subst h;rw [if_pos rfl,if_pos rfl]
 ·rw [if_neg h,if_neg h];omega
theorem note_s (T:TallyTally) (r:Ref33Result) (hc:CntG T) (hf:∀ x ∈ r.Said,stzFits x.S) (hl:r.Said.length≤20) (hs:r.Shut.length≤20):∃ T',p_tally_Tally_Note T r=some T'∧CntG T'∧Same2 T T'∧∀ i,i < 12→cntT T' i=min (cntT T i + noteI r i) (4611686018427387904:Int):=by
 have fp:=fuel_pos
 obtain ⟨m1,c1⟩:=more_s (i:=0) (n:=1) hc (by omega) (by omega)
 have m1' : p_tally_Tally_more T (0:Int) (1:Int)=_:=m1
 unfold p_tally_Tally_Note
 rw [m1']
 simp only [Option.bind_some]
 have fin:∀ (U:TallyTally) (d:Int),0≤d→CntG U→Same2 T U→(∀ i,i < 12→cntT U i=min (cntT T i + ((if i=0 then 1 else 0) + (if i=1 then d else 0))) (4611686018427387904:Int))→∃ T',((p_tally_Tally_more U (2:Int) (r.Said.length:Int)).bind fun v24=>(p_tally_Tally_more v24 (11:Int) (r.Shut.length:Int)).bind fun v25=>(p_tally_Tally_Note_l1 r.Said (r.Said.length:Int) fuel (0:Int) v25).bind fun q39=>some q39.2)=some T'∧CntG T'∧Same2 T T' ∧
   ∀ i,i < 12→cntT T' i=min (cntT T i + ((if i=0 then 1 else 0) + ((if i=1 then d else 0) + ((if i=2 then (r.Said.length:Int) else 0) + ((if i=11 then (r.Shut.length:Int) else 0) + sumI i r.Said))))) (4611686018427387904:Int):=by
  intro U d hd hU hS hv
  obtain ⟨m2,c2⟩:=more_s (i:=2) (n:=(r.Said.length:Int)) hU (by omega) (by omega)
  have m2' : p_tally_Tally_more U (2:Int) (r.Said.length:Int)=_:=m2
  obtain ⟨m3,c3⟩:=more_s (i:=11) (n:=(r.Shut.length:Int)) c2 (by omega) (by omega)
  have m3' : p_tally_Tally_more (addS U 2 (r.Said.length:Int)) (11:Int) (r.Shut.length:Int)=_:=m3
  obtain ⟨T',r1,r2,r3,r4⟩:=note_ls r.Said hf (by omega) r.Said.length 0 fuel _ (by omega) (by omega) c3
  have r1' : p_tally_Tally_Note_l1 r.Said (r.Said.length:Int) fuel (0:Int) (addS (addS U 2 (r.Said.length:Int)) 11 (r.Shut.length:Int))=_:=r1
  rw [m2',Option.bind_some,m3',Option.bind_some,r1']
  refine ⟨T',rfl,r2,⟨r3.once.trans hS.once,r3.names.trans hS.names⟩,fun i hi=>?_⟩
  have e2:=add1 hU (p:=2) (n:=(r.Said.length:Int)) (by omega) (by omega) i hi
  have e3:=add1 c2 (p:=11) (n:=(r.Shut.length:Int)) (by omega) (by omega) i hi
  have s:=sumI_nn i r.Said
  have q2:0≤(if i=2 then (r.Said.length:Int) else 0):=by split <;> omega
  have q3:0≤(if i=11 then (r.Shut.length:Int) else 0):=by split <;> omega
  rw [r4 i hi,List.drop_zero,e3,e2,hv i hi,min_min q2,min_min q3,min_min s]
  congr 1
  omega
 by_cases hE:r.E=0
 ·rw [hE,bne_self_eq_false,cond_false]
  obtain ⟨T',g1,g2,g3,g4⟩:=fin (addS T 0 1) 0 (Int.le_refl 0) c1 ⟨rfl,rfl⟩ (fun i hi=>by rw [add1 hc (by omega) (by omega) i hi,show (if i=1 then (0:Int) else 0)=0 by split <;> rfl,Int.add_zero])
  refine ⟨T',g1,g2,g3,fun i hi=>?_⟩
  rw [g4 i hi]
  unfold noteI
  rw [show (if i=1 then (0:Int) else 0)=0 by split <;> rfl,show (if i=1∧r.E≠0 then (1:Int) else 0)=0 by rw [if_neg (fun h=>h.2 hE)]]
 ·rw [show (r.E != (0:Int))=true from bne_iff_ne.2 hE,cond_true]
  obtain ⟨m4,c4⟩:=more_s (i:=1) (n:=1) c1 (by omega) (by omega)
  have m4' : p_tally_Tally_more (addS T 0 1) (1:Int) (1:Int)=_:=m4
  rw [m4',Option.bind_some]
  obtain ⟨T',g1,g2,g3,g4⟩:=fin (addS (addS T 0 1) 1 1) 1 (by omega) c4 ⟨rfl,rfl⟩ (fun i hi=>by
   have q:0≤(if i=1 then (1:Int) else 0):=by split <;> omega
   rw [add1 c1 (by omega) (by omega) i hi,add1 hc (by omega) (by omega) i hi,min_min q])
  refine ⟨T',g1,g2,g3,fun i hi=>?_⟩
  rw [g4 i hi]
  unfold noteI
  rw [show (if i=1∧r.E≠0 then (1:Int) else 0)=if i=1 then (1:Int) else 0 by
   by_cases h:i=1
   ·rw [if_pos ⟨h,hE⟩,if_pos h]
   ·rw [if_neg (fun q=>h q.1),if_neg h]]
def ixN (nm:ByteArray):Int:=(p_slices_Index_string namesL nm).getD (-1)
theorem names12:namesL.length=12:=rfl
theorem index_l (nm:ByteArray):∀ (n k F:Nat),k + n=12→n < F→(∃ j:Nat,j < 12∧p_slices_Index_string_l1 namesL nm (12:Int) F (k:Int)=some (.inl (j:Int)))∨p_slices_Index_string_l1 namesL nm (12:Int) F (k:Int)=some (.inr 12)
 | 0,k,F + 1,hk,hF=>by
  right
  have:k=12:=by omega
  subst this;rfl
 | n + 1,k,F + 1,hk,hF=>by
  have hlt:k < namesL.length:=by rw [names12];omega
  rw [p_slices_Index_string_l1,decide_eq_true (show (k:Int) < 12 by omega),cond_true,at_lt hlt,Option.bind_some]
  cases nm.toList == namesL[k].toList with
  | true=>rw [cond_true];exact .inl ⟨k,by omega,rfl⟩
  | false=>rw [cond_false,w64_succ (by omega)];exact index_l nm n (k + 1) F (by omega) (by omega)
theorem index_p (nm:ByteArray):p_slices_Index_string namesL nm=some (ixN nm)∧(ixN nm=-1∨∃ j:Nat,j < 12∧ixN nm=(j:Int)):=by
 have fp:=fuel_pos
 have key:(∃ j:Nat,j < 12∧p_slices_Index_string namesL nm=some (j:Int))∨p_slices_Index_string namesL nm=some (-1):=by
  unfold p_slices_Index_string
  rw [show ((namesL.length:Nat):Int)=12 by rw [names12];rfl]
  rcases index_l nm 12 0 fuel (by omega) (by omega) with ⟨j,hj,e⟩ | e
  ·have e' : p_slices_Index_string_l1 namesL nm (12:Int) fuel (0:Int)=_:=e
   rw [e'];exact .inl ⟨j,hj,rfl⟩
  ·have e' : p_slices_Index_string_l1 namesL nm (12:Int) fuel (0:Int)=_:=e
   rw [e'];exact .inr rfl
 unfold ixN
 rcases key with ⟨j,hj,e⟩ | e
 ·rw [e];exact ⟨rfl,.inr ⟨j,hj,rfl⟩⟩
 ·rw [e];exact ⟨rfl,.inl rfl⟩
def addI (nm:ByteArray) (n:Int) (i:Nat):Int:=if 0≤n∧ixN nm=(i:Int) then n else 0
theorem cntG_of {T T' : TallyTally} (h:CntG T) (e:T'.counts=T.counts):CntG T'∧∀ i,cntT T' i=cntT T i :=
 ⟨⟨by rw [e];exact h.len,fun i hi=>by have:=h.bd i hi;unfold cntT at this ⊢;rw [e];exact this⟩,fun i=>by unfold cntT;rw [e]⟩
theorem add_s (T:TallyTally) (nm:ByteArray) (n:Int) (hc:CntG T) (hp:PT T) (hn:n≤9223372036854775807):∃ T',p_tally_Tally_Add T nm n=some (T',decide (0≤n∧ixN nm≠-1))∧CntG T'∧PT T'∧∀ i,i < 12→cntT T' i=min (cntT T i + addI nm n i) (4611686018427387904:Int):=by
 have zero:∀ i,i < 12→cntT T i=min (cntT T i + 0) (4611686018427387904:Int):=fun i hi=>by have:=hc.bd i hi;show _=min (cntT T i + 0) 4611686018427387904;omega
 unfold p_tally_Tally_Add
 by_cases h0:n < 0
 ·rw [decide_eq_true h0,cond_true]
  refine ⟨T,by rw [decide_eq_false (fun h=>by omega)],hc,hp,fun i hi=>?_⟩
  unfold addI
  rw [if_neg (fun h=>by omega)];exact zero i hi
 ·rw [decide_eq_false h0,cond_false]
  obtain ⟨hix,hv⟩:=index_p nm
  obtain ⟨U,p1,p2,p3⟩:=place_p hc.len hp nm hix
  obtain ⟨cU,eU⟩:=cntG_of hc p2
  rw [p1,Option.bind_some]
  rcases hv with hv | ⟨j,hj,hv⟩
  ·rw [hv]
   refine ⟨U,by rw [beq_self_eq_true,cond_true,decide_eq_false (fun h=>h.2 rfl)],cU,p3,fun i hi=>?_⟩
   unfold addI
   rw [if_neg (fun h=>by have:=h.2;rw [hv] at this;omega),eU];exact zero i hi
  ·rw [hv]
   obtain ⟨m1,c1⟩:=more_s (i:=j) (n:=n) cU hj ⟨by omega,hn⟩
   have hne:((j:Int) == (-1:Int))=false:=beq_eq_false_iff_ne.2 (by omega)
   refine ⟨addS U j n,by rw [hne,cond_false,m1,Option.bind_some,decide_eq_true ⟨by omega,by omega⟩],c1,p3,fun i hi=>?_⟩
   rw [add1 cU hj (by omega) i hi,eU]
   unfold addI
   congr 2
   by_cases h:i=j
   ·rw [if_pos h,if_pos ⟨by omega,by rw [hv,h]⟩]
   ·rw [if_neg h,if_neg (fun q=>h (by have:=q.2;rw [hv] at this;omega))]
theorem get_s (T:TallyTally) (nm:ByteArray) (hc:CntG T) (hp:PT T):∃ T',p_tally_Tally_Get T nm=some (T',if ixN nm=-1 then 0 else cntT T (ixN nm).toNat)∧CntG T'∧PT T'∧∀ i,cntT T' i=cntT T i:=by
 obtain ⟨hix,hv⟩:=index_p nm
 rcases hv with hv | ⟨j,hj,hv⟩
 ·obtain ⟨U,p1,p2,p3⟩:=place_p hc.len hp nm hix
  obtain ⟨cU,eU⟩:=cntG_of hc p2
  refine ⟨U,?_,cU,p3,eU⟩
  unfold p_tally_Tally_Get
  rw [p1,Option.bind_some,hv,if_pos rfl];rfl
 ·rw [hv] at hix
  obtain ⟨U,g1,p2,p3⟩:=get_p hc.len hp nm hj hix
  obtain ⟨cU,eU⟩:=cntG_of hc p2
  exact ⟨U,by rw [g1,hv,if_neg (by omega),Int.toNat_natCast],cU,p3,eU⟩
end Go.Proofs.YtpkodpcfafipdaaGreat

namespace Go.Proofs.YtpkodpcfafipdaaGreat
open Go.RowKit
structure FineA (x:Law36Act):Prop where
 said:x.R.Said.length≤20
 shut:x.R.Shut.length≤20
 st:∀ y ∈ x.R.Said,Fine y.S
def KdA (x:Law36Act):Prop:=(∀ y ∈ x.R.Said,0≤y.S.Kind∧y.S.Kind≤255)∧x.N≤9223372036854775807
theorem few_l2 (l:List Law36Act) (i:Nat) (hi:i < l.length) (hk:∀ y ∈ l[i].R.Said,0≤y.S.Kind∧y.S.Kind≤255) (hl:l[i].R.Said.length≤20):∀ (n k F:Nat),k + n=l[i].R.Said.length→n < F →
  p_law36_few_l2 l (i:Int) F (k:Int)=some (.inl false)∨((∃ z,p_law36_few_l2 l (i:Int) F (k:Int)=some (.inr z))∧∀ y ∈ l[i].R.Said.drop k,Fine y.S)
 | 0,k,F + 1,hn,hF=>by
  right
  rw [p_law36_few_l2,at_lt hi,Option.bind_some,lt_ff (by omega),cond_false,show k=l[i].R.Said.length by omega,List.drop_length]
  exact ⟨⟨_,rfl⟩,fun y hy=>by cases hy⟩
 | n + 1,k,F + 1,hn,hF=>by
  have hlt:k < l[i].R.Said.length:=by omega
  rw [p_law36_few_l2,at_lt hi,Option.bind_some,lt_tt hlt,cond_true,Option.bind_some,at_lt hlt,Option.bind_some]
  rcases light_p l[i].R.Said[k].S (hk _ (List.getElem_mem hlt)) with g | ⟨g,gf⟩
  ·left;rw [g];rfl
  ·rw [g,Option.bind_some,cond_true,w64_succ (by omega)]
   rcases few_l2 l i hi hk hl n (k + 1) F (by omega) (by omega) with e | ⟨e1,e2⟩
   ·exact .inl e
   ·refine .inr ⟨e1,fun y hy=>?_⟩
    rw [drop_at hlt] at hy
    rcases List.mem_cons.1 hy with rfl | hy
    ·exact gf
    ·exact e2 y hy
theorem few_l1 (l:List Law36Act) (hk:∀ x ∈ l,KdA x) (hl:l.length≤40):∀ (n k F:Nat),k + n=l.length→n < F →
  p_law36_few_l1 l F (k:Int)=some (.inl false)∨((∃ z,p_law36_few_l1 l F (k:Int)=some (.inr z))∧∀ x ∈ l.drop k,FineA x)
 | 0,k,F + 1,hn,hF=>by
  right
  rw [p_law36_few_l1,lt_ff (by omega),cond_false,show k=l.length by omega,List.drop_length]
  exact ⟨⟨_,rfl⟩,fun y hy=>by cases hy⟩
 | n + 1,k,F + 1,hn,hF=>by
  have fp:=fuel_pos
  have hlt:k < l.length:=by omega
  rw [p_law36_few_l1,lt_tt hlt,cond_true,at_lt hlt]
  simp only [Option.bind_some]
  by_cases h1:(20:Int) < (l[k].R.Said.length:Int)
  ·rw [decide_eq_true h1];exact .inl rfl
  rw [decide_eq_false h1,cond_false]
  by_cases h2:(20:Int) < (l[k].R.Shut.length:Int)
  ·rw [decide_eq_true h2];exact .inl rfl
  rw [decide_eq_false h2,cond_false]
  by_cases h3:(20:Int) < (l[k].Name.size:Int)
  ·rw [decide_eq_true h3];exact .inl rfl
  rw [decide_eq_false h3,cond_false]
  rcases few_l2 l k hlt (hk _ (List.getElem_mem hlt)).1 (by omega) _ 0 fuel (Nat.zero_add _) (by omega) with e | ⟨⟨z,e⟩,e2⟩
  ·have e' : p_law36_few_l2 l (k:Int) fuel (0:Int)=_:=e
   rw [e'];exact .inl rfl
  ·have e' : p_law36_few_l2 l (k:Int) fuel (0:Int)=_:=e
   rw [e',Option.bind_some]
   show p_law36_few_l1 l F (w64 ((k:Int) + 1))=_∨_
   rw [w64_succ (by omega)]
   rw [List.drop_zero] at e2
   rcases few_l1 l hk hl n (k + 1) F (by omega) (by omega) with g | ⟨g1,g2⟩
   ·exact .inl g
   ·refine .inr ⟨g1,fun x hx=>?_⟩
    rw [drop_at hlt] at hx
    rcases List.mem_cons.1 hx with rfl | hx
    ·exact ⟨by omega,by omega,e2⟩
    ·exact g2 x hx
theorem few_p (l:List Law36Act) (hk:∀ x ∈ l,KdA x):p_law36_few l=some false∨(p_law36_few l=some true∧l.length≤40∧∀ x ∈ l,FineA x):=by
 have fp:=fuel_pos
 unfold p_law36_few
 by_cases h:(40:Int) < (l.length:Int)
 ·rw [decide_eq_true h];exact .inl rfl
 rw [decide_eq_false h,cond_false]
 rcases few_l1 l hk (by omega) _ 0 fuel (Nat.zero_add _) (by omega) with e | ⟨⟨z,e⟩,e2⟩
 ·have e' : p_law36_few_l1 l fuel (0:Int)=_:=e
  rw [e'];exact .inl rfl
 ·have e' : p_law36_few_l1 l fuel (0:Int)=_:=e
  rw [e']
  exact .inr ⟨rfl,by omega,fun x hx=>e2 x hx⟩
theorem result_l (r:Ref33Result) (hl:r.Said.length≤20):∀ (n k F:Nat) (E:Int) (acc:List Ref33Said) (sh:List Int),k + n=r.Said.length→n < F→acc.length≤k→p_law36_result_l1 r F (k:Int) ⟨E,acc,sh⟩=some ((r.Said.length:Int),⟨E,acc++r.Said.drop k,sh⟩)
 | 0,k,F + 1,E,acc,sh,hn,hF,ha=>by
  rw [p_law36_result_l1,lt_ff (by omega),cond_false,show k=r.Said.length by omega,List.drop_length,List.append_nil]
 | n + 1,k,F + 1,E,acc,sh,hn,hF,ha=>by
  have hlt:k < r.Said.length:=by omega
  rw [p_law36_result_l1,lt_tt hlt,cond_true,at_lt hlt]
  simp only [Option.bind_some]
  rw [app_ok (by simp;omega),Option.bind_some,w64_succ (by omega),result_l r hl n (k + 1) F _ _ _ (by omega) (by omega) (by simp;omega),drop_at hlt,List.append_assoc]
  rfl
theorem result_p (r:Ref33Result) (hl:r.Said.length≤20):p_law36_result r=some r:=by
 have fp:=fuel_pos
 unfold p_law36_result
 have e:=result_l r hl _ 0 fuel r.E [] r.Shut (Nat.zero_add _) (by omega) (Nat.le_refl _)
 have e' : p_law36_result_l1 r fuel (0:Int) (Ref33Result.mk r.E [] r.Shut)=_:=e
 rw [e',Option.bind_some,List.drop_zero,List.nil_append]
theorem PT.same {T T' : TallyTally} (h:Same2 T T') (hp:PT T):PT T':=by unfold PT at hp ⊢;rw [h.once,h.names];exact hp
theorem cntG_z:CntG zT:=⟨rfl,fun i _=>by rw [cnt_z];exact ⟨Int.le_refl 0,by decide⟩⟩
theorem pt_z:PT zT:=.inr ⟨rfl,rfl⟩
theorem name_all:(List.range 12).all (fun k=>(p_ref36_Name (k:Int)).map (·.data.toList) == some (namesL.getD k ⟨#[]⟩).data.toList && ixN (namesL.getD k ⟨#[]⟩) == (k:Int))=true:=by kernel_rfl
theorem ba_eta {a b:ByteArray} (h:a.data.toList=b.data.toList):a=b:=by
 cases a;cases b;congr 1;exact Array.ext' h
theorem name_p (k:Nat) (hk:k < 12):p_ref36_Name (k:Int)=some (namesL.getD k ⟨#[]⟩)∧ixN (namesL.getD k ⟨#[]⟩)=(k:Int):=by
 have h:=List.all_eq_true.1 name_all k (List.mem_range.2 hk)
 simp only [Bool.and_eq_true,beq_iff_eq] at h
 refine ⟨?_,h.2⟩
 cases hn:p_ref36_Name (k:Int) with
 | none=>rw [hn] at h;cases h.1
 | some v=>rw [hn] at h;simp only [Option.map_some,Option.some.injEq] at h;rw [ba_eta h.1]
end Go.Proofs.YtpkodpcfafipdaaGreat

namespace Go.Proofs.YtpkodpcfafipdaaGreat
open Go.RowKit
abbrev toI (l:List UInt8):List Int:=l.map fun b=>(b.toNat:Int)
theorem rsay_b {t:ByteArray} {m:Int} (h:(t.size:Int)≤m) (hm:m≤255):p_ref01_Say t m=some (toI (sayB t),0):=by
 unfold p_ref01_Say
 have e:(UInt8.ofNat t.size).toNat=t.size:=by rw [UInt8.toNat_ofNat'];omega
 rw [decide_eq_false (show ¬ m < (t.size:Int) by omega),decide_eq_false (show ¬ (255:Int) < (t.size:Int) by omega),cond_false,cond_false,u8_fit (show 0≤(t.size:Int)∧(t.size:Int)≤255 by omega),app_ok (by rw [List.length_singleton];unfold bytesI;rw [List.length_map,bl_len];omega),Option.bind_some]
 unfold toI sayB bytesI
 rw [List.map_cons,e];rfl
def beM:Nat→Nat→List UInt8
 | _,0=>[]
 | N,n + 1=>beM (N / 256) n++[UInt8.ofNat N]
theorem beM1 (N:Nat):beM N 1=beL N 1:=by simp [beM,beL]
theorem beM6 (N:Nat):beM N 6=beL N 6:=by
 simp only [beM,beL,Nat.div_div_eq_div_mul,List.nil_append,List.cons_append,Nat.reduceMul,Nat.reducePow,Nat.div_one]
theorem rlay_b1 (w:Nat):∀ (n j F N:Nat) (acc:List Int),j + n=w→w≤10→n < F→N < 256 ^ 7→acc.length≤j→p_ref01_Lay_l1 (w:Int) F (N:Int) acc (j:Int)=some (((N / 256 ^ n:Nat):Int),toI (beM N n)++acc,(w:Int))
 | 0,j,F + 1,N,acc,hj,hw,hF,hN,ha=>by
  rw [p_ref01_Lay_l1,lt_ff (by omega),show j=w by omega]
  simp [beM,toI]
 | n + 1,j,F + 1,N,acc,hj,hw,hF,hN,ha=>by
  have h7:(256:Nat) ^ 7=72057594037927936:=by decide
  have e1:Int.tmod (N:Int) (256:Int)=((N % 256:Nat):Int):=rfl
  have e2:Int.tdiv (N:Int) (256:Int)=((N / 256:Nat):Int):=rfl
  have e3:(UInt8.ofNat N).toNat=N % 256:=by rw [UInt8.toNat_ofNat']
  rw [p_ref01_Lay_l1,lt_tt (by omega),cond_true,e1,u8_fit (show 0≤((N % 256:Nat):Int)∧((N % 256:Nat):Int)≤255 by omega),app_ok (by simp;omega),Option.bind_some,e2,w64_id (show -9223372036854775808≤((N / 256:Nat):Int)∧((N / 256:Nat):Int)≤9223372036854775807 by omega),w64_succ (by omega)]
  rw [rlay_b1 w n (j + 1) F (N / 256) _ (by omega) hw (by omega) (Nat.lt_of_le_of_lt (Nat.div_le_self N 256) hN) (by simp;omega),Nat.div_div_eq_div_mul,← Nat.pow_succ']
  congr 3
  show toI (beM (N / 256) n)++([((N % 256:Nat):Int)]++acc)=toI (beM N (n + 1))++acc
  unfold toI
  rw [beM,List.map_append,List.append_assoc,List.map_singleton,e3]
theorem rlay_b {n:Int} {w:Nat} (hw:w=1∨w=6) (h0:0≤n) (h1:n < 256 ^ w):p_ref01_Lay n (w:Int)=some (toI (beL n.toNat w),0):=by
 obtain ⟨N,rfl⟩:=Int.eq_ofNat_of_zero_le h0
 have hN:N < 256 ^ w:=by
  rcases hw with rfl | rfl
  ·have e:(256:Int) ^ 1=256:=by decide
   have e' : (256:Nat) ^ 1=256:=by decide
   rw [e] at h1;rw [e'];omega
  ·have e:(256:Int) ^ 6=281474976710656:=by decide
   have e' : (256:Nat) ^ 6=281474976710656:=by decide
   rw [e] at h1;rw [e'];omega
 have hwd:p_ref01_wide (w:Int)=some true:=by rcases hw with rfl | rfl <;> rfl
 have hp:(256:Nat) ^ w≤256 ^ 7:=Nat.pow_le_pow_right (by decide) (by rcases hw with rfl | rfl <;> omega)
 have e:=rlay_b1 w w 0 fuel N [] (by omega) (by rcases hw with rfl | rfl <;> omega) (by have:=fuel_pos;rcases hw with rfl | rfl <;> omega) (by omega) (by simp)
 rw [Nat.div_eq_of_lt hN,List.append_nil] at e
 have hM:beM N w=beL N w:=by rcases hw with rfl | rfl;exact beM1 N;exact beM6 N
 rw [hM] at e
 have e' : p_ref01_Lay_l1 (w:Int) fuel (N:Int) [] (0:Int)=_:=e
 unfold p_ref01_Lay
 rw [hwd,Option.bind_some,cond_true,decide_eq_false (show ¬ (N:Int) < 0 by omega),cond_false,e']
 rfl
theorem field_p {x:StanzaStanza} {c:UInt8} (hc:letterS c) (ho:okF (stzOf x) c):p_ref10_field x (c.toNat:Int)=some (toI (fieldB (stzOf x) c)):=by
 rcases hc with rfl | rfl | rfl | rfl | rfl | rfl | rfl
 ·have h:x.User.size≤33:=ok117 ho
  rw [fld117]
  show (p_ref01_Say x.User 33).bind _=_
  rw [rsay_b (by omega) (by omega)];rfl
 ·have h:x.Res.size≤12:=ok114 ho
  rw [fld114]
  show (p_ref01_Say x.Res 12).bind _=_
  rw [rsay_b (by omega) (by omega)];rfl
 ·have h:x.Name.size≤24:=ok109 ho
  rw [fld109]
  show (p_ref01_Say x.Name 24).bind _=_
  rw [rsay_b (by omega) (by omega)];rfl
 ·have h:0≤x.Show∧x.Show≤63:=ok115 ho
  rw [fld115]
  show (p_ref01_Lay x.Show ((1:Nat):Int)).bind _=_
  rw [rlay_b (.inl rfl) h.1 (by show x.Show < 256;omega)];rfl
 ·have h:-128≤x.Prio∧x.Prio≤127:=ok112 ho
  rw [fld112]
  show (p_ref01_Lay (w64 (x.Prio + 128)) ((1:Nat):Int)).bind _=_
  rw [w64_id (by omega),rlay_b (.inl rfl) (by omega) (by show x.Prio + 128 < 256;omega)];rfl
 ·have h:0≤x.Code∧x.Code≤255:=ok99 ho
  rw [fld99]
  show (p_ref01_Lay x.Code ((1:Nat):Int)).bind _=_
  rw [rlay_b (.inl rfl) h.1 (by show x.Code < 256;omega)];rfl
 ·have h:0≤x.N∧x.N < 256 ^ 6:=ok110 ho
  rw [fld110]
  show (p_ref01_Lay x.N ((6:Nat):Int)).bind _=_
  rw [rlay_b (.inr rfl) h.1 h.2];rfl
theorem rput_l (x:StanzaStanza) (L:List UInt8) (hL:∀ c ∈ L,letterS c∧okF (stzOf x) c) (hn:L.length≤5):∀ (n k F:Nat) (acc:List Int),k + n=L.length→n < F→acc.length≤1 + 34 * k→p_ref10_Put_l1 (ba L) x F acc (k:Int)=some (acc++toI (bodyB (stzOf x) (L.drop k)),(L.length:Int))
 | 0,k,F + 1,acc,hk,hF,ha=>by
  rw [p_ref10_Put_l1,ba_size,lt_ff (by omega),show k=L.length by omega,List.drop_length]
  simp [bodyB,toI]
 | n + 1,k,F + 1,acc,hk,hF,ha=>by
  have hlt:k < L.length:=by omega
  obtain ⟨hc,ho⟩:=hL _ (List.getElem_mem hlt)
  obtain ⟨f1,f2⟩:=field_len ho
  have bt:byte? (ba L) (k:Int)=some ((L[k]).toNat:Int):=by
   rw [byte_at (by rw [ba_size];exact hlt),← bl_get (ba L) k (by rw [ba_size];exact hlt)]
   simp only [ba_list]
  have hfl:(toI (fieldB (stzOf x) L[k])).length≤34:=by unfold toI;rw [List.length_map];exact f2
  rw [p_ref10_Put_l1,ba_size,lt_tt hlt,cond_true,bt,Option.bind_some,field_p hc ho,Option.bind_some,app_ok (by omega),Option.bind_some,w64_succ (by omega),rput_l x L hL hn n (k + 1) F _ (by omega) (by omega) (by rw [List.length_append];omega),drop_at hlt]
  unfold bodyB toI
  rw [List.flatMap_cons,List.map_append,List.append_assoc]
theorem text_toI (l:List UInt8):text? (toI l)=some (ba l):=by
 unfold text? toI
 rw [if_pos]
 ·congr 1
  unfold ba
  congr 1
  rw [List.map_map]
  congr 1
  refine (List.map_congr_left fun b _=>?_).trans (List.map_id l)
  show UInt8.ofNat ((b.toNat:Int)).toNat=b
  rw [Int.toNat_natCast,UInt8.ofNat_toNat]
 ·rw [List.all_eq_true]
  intro y hy
  obtain ⟨b,_,rfl⟩:=List.mem_map.1 hy
  have:=b.toNat_lt
  simp;omega
theorem rhas_all:(List.range 256).all (fun k=>((p_ref10_Has (k:Int)).map (·.data.toList) == some (hasN k)))=true:=by kernel_rfl
theorem rhas_p (k:UInt8):p_ref10_Has (k.toNat:Int)=some (ba (hasN k.toNat)):=by
 have:=List.all_eq_true.1 rhas_all k.toNat (List.mem_range.2 k.toNat_lt)
 simp only [beq_iff_eq] at this
 cases h:p_ref10_Has (k.toNat:Int) with
 | none=>rw [h] at this;cases this
 | some b=>rw [h] at this;have:=Option.some.inj this;rw [← this,ba_of]
theorem rput_p {x:StanzaStanza} (h:Fine x):p_ref10_Put x=some (putP (stzOf x)):=by
 have hc:p_ref10_Check x=some (checkS (stzOf x)):=by unfold p_ref10_Check;rw [if_pos h.fits]
 unfold p_ref10_Put putP
 rw [hc,Option.bind_some]
 by_cases h0:checkS (stzOf x)=0
 ·rw [show (checkS (stzOf x) != 0)=false by simpa using h0,cond_false,if_neg (by simpa using h0)]
  have hk:=rhas_p (stzOf x).kind
  have ek:((stzOf x).kind.toNat:Int)=x.Kind:=u8_of h.kind
  rw [ek] at hk
  have hl:=rput_l x (hasN (stzOf x).kind.toNat) (let_ok h0) (hasN_len _) (hasN (stzOf x).kind.toNat).length 0 fuel [x.Kind] (by omega) (by have:=fuel_pos;have:=hasN_len (stzOf x).kind.toNat;omega) (by simp)
  rw [List.drop_zero] at hl
  have hl' : p_ref10_Put_l1 (ba (hasN (stzOf x).kind.toNat)) x fuel [x.Kind] (0:Int)=_:=hl
  rw [hk,Option.bind_some,hl']
  simp only [Option.bind_some]
  have e:[x.Kind]++toI (bodyB (stzOf x) (hasN (stzOf x).kind.toNat))=toI ((stzOf x).kind :: bodyB (stzOf x) (hasN (stzOf x).kind.toNat)):=by
   unfold toI;rw [List.map_cons,ek];rfl
  rw [e,text_toI];rfl
 ·rw [show (checkS (stzOf x) != 0)=true by simpa using h0,if_pos h0];rfl
theorem rput_frm (t:List UInt8) (h0:0 < t.length) (h:t.length≤128):p_ref11_Put (ba t)=some (ba (frm t),0):=by
 have e1:((ba t).toList == (⟨#[]⟩ : ByteArray).toList)=false:=by
  rw [Bool.eq_false_iff]
  intro g
  have:=eqT_iff.1 g
  have:=congrArg ByteArray.size this
  rw [ba_size] at this
  have e:(⟨#[]⟩ : ByteArray).size=0:=rfl
  omega
 have d1:Int.tdiv (t.length:Int) 256=0:=by
  show ((t.length / 256:Nat):Int)=0
  rw [Nat.div_eq_of_lt (by omega)];rfl
 have d2:Int.tmod (t.length:Int) 256=(t.length:Int):=by
  show ((t.length % 256:Nat):Int)=_
  rw [Nat.mod_eq_of_lt (by omega)]
 have tx:text? [0,(t.length:Int)]=some (ba [0,UInt8.ofNat t.length]):=by
  unfold text?
  rw [if_pos (by simp;omega)];rfl
 have ct:cat? (ba [0,UInt8.ofNat t.length]) (ba t)=some (ba (frm t)):=by
  unfold cat?
  rw [if_pos (by rw [ba_size,ba_size];simp;omega),ba_app];rfl
 unfold p_ref11_Put
 rw [e1,cond_false,ba_size,decide_eq_false (show ¬ (128:Int) < (t.length:Int) by omega),cond_false,d1,d2,u8_fit (n:=(t.length:Int)) (by omega),show IntKind.wrap .u8 (w64 0)=0 from rfl,tx,Option.bind_some,ct];rfl
theorem rsize_p {x:StanzaStanza} (h:Fine x):∃ v,p_ref10_Put x=some v∧p_ref11_Size v.1=some (putT x):=by
 refine ⟨_,rput_p h,?_⟩
 by_cases hc:checkS (stzOf x)=0
 ·have hl:=enc_len hc
  have hp:putP (stzOf x)=(ba (encX x),0):=by
   have h1:=put_fine h hc
   unfold p_stanza_Put at h1
   rw [if_pos h.fits] at h1
   exact Option.some.inj h1
  have h2:(encX x).length=(encS (stzOf x)).length:=rfl
  rw [hp]
  unfold p_ref11_Size
  rw [rput_frm _ (by omega) (by omega),Option.bind_some,putT_fine h]
  have ho:okS x=true:=by unfold okS;rw [hc];rfl
  rw [if_pos ho,ba_size]
  show some (((frm (encX x)).length:Nat):Int)=_
  congr 2
  show (encX x).length + 2=2 + (encX x).length
  omega
 ·have ho:¬ okS x=true:=by unfold okS;simpa using hc
  rw [putT_fine h,if_neg ho]
  unfold putP
  rw [if_pos hc]
  show p_ref11_Size ⟨#[]⟩=some 0
  unfold p_ref11_Size p_ref11_Put
  rw [show ((⟨#[]⟩ : ByteArray).toList == (⟨#[]⟩ : ByteArray).toList)=true from beq_self_eq_true _];rfl
end Go.Proofs.YtpkodpcfafipdaaGreat

namespace Go.Proofs.YtpkodpcfafipdaaGreat
open Go.RowKit
def mI (m:Ar12_Int) (i:Nat):Int:=m.toL.getD i 0
def BdM (m:Ar12_Int):Prop:=∀ i,i < 12→0≤mI m i∧mI m i≤(4611686018427387904:Int)
theorem mI_put (m:Ar12_Int) {i:Nat} (hi:i < 12) (w:Int) (j:Nat):mI (m.put i w) j=if j=i then w else mI m j:=by
 unfold mI
 rw [Ar12_Int.put_l]
 by_cases h:j=i
 ·subst h
  rw [if_pos rfl,List.getD_eq_getElem?_getD,List.getElem?_set_self (show j < m.toL.length from hi)];rfl
 ·rw [if_neg h,List.getD_eq_getElem?_getD,List.getElem?_set_ne (Ne.symm h),← List.getD_eq_getElem?_getD]
theorem rmore {m:Ar12_Int} {i:Nat} {n:Int} (h:BdM m) (hi:i < 12) (hn:0≤n∧n≤9223372036854775807):∃ m',p_ref36_Tally_more m (i:Int) n=some m'∧BdM m'∧∀ j,j < 12→mI m' j=min (mI m j + (if j=i then n else 0)) (4611686018427387904:Int):=by
 have b:=h i hi
 obtain ⟨v,hv⟩ : ∃ v,v=mI m i:=⟨_,rfl⟩
 have a:arr? 12 m.toL (i:Int)=some v:=by rw [hv];exact arrT (l:=m.toL) (d:=0) rfl hi
 unfold Ar12_Int.toL at a
 rw [← hv] at b
 have fin:∀ w,w=min (v + n) (4611686018427387904:Int)→BdM (m.put i w)∧∀ j,j < 12→mI (m.put i w) j=min (mI m j + (if j=i then n else 0)) (4611686018427387904:Int):=fun w hw=>by
  have key:∀ j,j < 12→mI (m.put i w) j=min (mI m j + (if j=i then n else 0)) (4611686018427387904:Int):=fun j hj=>by
   have bj:=h j hj
   rw [mI_put m hi]
   by_cases e:j=i
   ·subst e;rw [if_pos rfl,if_pos rfl,hw,hv]
   ·rw [if_neg e,if_neg e];omega
  refine ⟨fun j hj=>?_,key⟩
  have bj:=h j hj
  rw [key j hj]
  split <;> omega
 unfold p_ref36_Tally_more
 rw [a]
 simp only [Option.bind_some]
 rw [w64_id (by omega),Int.toNat_natCast]
 by_cases hg:(4611686018427387904:Int) - v < n
 ·rw [decide_eq_true hg,cond_true]
  obtain ⟨f1,f2⟩:=fin 4611686018427387904 (by omega)
  exact ⟨_,rfl,f1,f2⟩
 ·rw [decide_eq_false hg,cond_false,w64_id (by omega)]
  obtain ⟨f1,f2⟩:=fin (v + n) (by omega)
  exact ⟨_,rfl,f1,f2⟩
theorem rkind (k:Int):p_ref36_kind k=p_tally_kind k:=rfl
theorem rnote_l (r : Ref33Result) (hf : ∀ x ∈ r.Said, Fine x.S) (hl : r.Said.length ≤ 1000) (n : Nat) : ∀ (k F : Nat) (m : Ar12_Int), k + n = r.Said.length → n < F → BdM m → ∃ m', p_ref36_Tally_Note_l1 r F (k : Int) m = some ((r.Said.length : Int), m') ∧ BdM m' ∧
      ∀ i, i < 12 → mI m' i = min (mI m i + sumI i (r.Said.drop k)) (4611686018427387904 : Int) := by
  induction n with
  | zero =>
    intro k F m hk hF hc
    obtain ⟨F, rfl⟩ : ∃ G, F = G + 1 := ⟨F - 1, by omega⟩
    rw [p_ref36_Tally_Note_l1, lt_ff (by omega), cond_false, show k = r.Said.length by omega, List.drop_length]
    refine ⟨m, rfl, hc, fun i hi => ?_⟩
    have := hc i hi
    show mI m i = min (mI m i + 0) 4611686018427387904
    omega
  | succ n ih =>
    intro k F m hk hF hc
    obtain ⟨F, rfl⟩ : ∃ G, F = G + 1 := ⟨F - 1, by omega⟩
    have hlt : k < r.Said.length := by omega
    have hs := hf _ (List.getElem_mem hlt)
    obtain ⟨v, hv, hz⟩ := rsize_p hs
    have pn := putT_nn r.Said[k].S
    obtain ⟨m1, e1, b1, c1⟩ := rmore (i := 3) (n := putT r.Said[k].S) hc (by omega) ⟨pn.1, by omega⟩
    have e1' : p_ref36_Tally_more m (3 : Int) (putT r.Said[k].S) = _ := e1
    have hd : ∀ i, sumI i (r.Said.drop k) = incS r.Said[k] i + sumI i (r.Said.drop (k + 1)) := fun i => by rw [drop_at hlt]; rfl
    rw [p_ref36_Tally_Note_l1, lt_tt hlt, cond_true, at_lt hlt, Option.bind_some, hv, Option.bind_some, hz, Option.bind_some, e1', Option.bind_some, rkind]
    rcases kind_p r.Said[k].S.Kind with hk1 | ⟨q, q4, q10, hk1⟩
    · have hkI : ∀ i : Nat, kI r.Said[k].S.Kind i = 0 := fun i => by unfold kI; rw [hk1]; show (if (-1 : Int) = (i : Int) then (1 : Int) else 0) = 0; rw [if_neg (by omega)]
      rw [hk1, Option.bind_some, decide_eq_false (show ¬ (0 : Int) ≤ -1 by omega), cond_false, w64_succ (by omega)]
      obtain ⟨m', r1, r2, r3⟩ := ih (k + 1) F m1 (by omega) (by omega) b1
      refine ⟨m', r1, r2, fun i hi => ?_⟩
      rw [r3 i hi, c1 i hi, hd, min_min (sumI_nn i _)]
      congr 2
      unfold incS
      rw [hkI]; omega
    · have hkI : ∀ i : Nat, kI r.Said[k].S.Kind i = if i = q then 1 else 0 := fun i => by
        unfold kI; rw [hk1]
        show (if (q : Int) = (i : Int) then (1 : Int) else 0) = _
        by_cases h : i = q
        · rw [if_pos h, if_pos (by omega)]
        · rw [if_neg h, if_neg (by omega)]
      obtain ⟨m2, e2, b2, c2⟩ := rmore (i := q) (n := 1) b1 (by omega) (by omega)
      rw [hk1, Option.bind_some, decide_eq_true (show (0 : Int) ≤ (q : Int) by omega), cond_true, Option.bind_some, e2, Option.bind_some, w64_succ (by omega)]
      obtain ⟨m', r1, r2, r3⟩ := ih (k + 1) F m2 (by omega) (by omega) b2
      refine ⟨m', r1, r2, fun i hi => ?_⟩
      have q1 : 0 ≤ (if i = q then (1 : Int) else 0) := by split <;> omega
      rw [r3 i hi, c2 i hi, c1 i hi, hd, min_min q1, min_min (sumI_nn i _)]
      congr 2
      unfold incS
      rw [hkI]
theorem rnote_s (m:Ar12_Int) (r:Ref33Result) (hc:BdM m) (hf:∀ x ∈ r.Said,Fine x.S) (hl:r.Said.length≤20) (hs:r.Shut.length≤20):∃ m',p_ref36_Tally_Note m r=some m'∧BdM m'∧∀ i,i < 12→mI m' i=min (mI m i + noteI r i) (4611686018427387904:Int):=by
 have fp:=fuel_pos
 obtain ⟨m1,e1,b1,c1⟩:=rmore (i:=0) (n:=1) hc (by omega) (by omega)
 obtain ⟨m2,e2,b2,c2⟩:=rmore (i:=2) (n:=(r.Said.length:Int)) b1 (by omega) (by omega)
 obtain ⟨m3,e3,b3,c3⟩:=rmore (i:=11) (n:=(r.Shut.length:Int)) b2 (by omega) (by omega)
 have e1' : p_ref36_Tally_more m (0:Int) (1:Int)=_:=e1
 have e2' : p_ref36_Tally_more m1 (2:Int) (r.Said.length:Int)=_:=e2
 have e3' : p_ref36_Tally_more m2 (11:Int) (r.Shut.length:Int)=_:=e3
 unfold p_ref36_Tally_Note
 rw [e1',Option.bind_some,e2',Option.bind_some,e3',Option.bind_some]
 by_cases hE:r.E=0
 ·obtain ⟨m',r1,r2,r3⟩:=rnote_l r hf (by omega) _ 0 fuel m3 (Nat.zero_add _) (by omega) b3
  have r1' : p_ref36_Tally_Note_l1 r fuel (0:Int) m3=_:=r1
  rw [hE,bne_self_eq_false,cond_false,r1']
  refine ⟨m',rfl,r2,fun i hi=>?_⟩
  have q2:0≤(if i=2 then (r.Said.length:Int) else 0):=by split <;> omega
  have q3:0≤(if i=11 then (r.Shut.length:Int) else 0):=by split <;> omega
  rw [r3 i hi,List.drop_zero,c3 i hi,c2 i hi,c1 i hi,min_min q2,min_min q3,min_min (sumI_nn i _)]
  congr 2
  unfold noteI
  rw [show (if i=1∧r.E≠0 then (1:Int) else 0)=0 by rw [if_neg (fun h=>h.2 hE)]]
  omega
 ·obtain ⟨m4,e4,b4,c4⟩:=rmore (i:=1) (n:=1) b3 (by omega) (by omega)
  have e4' : p_ref36_Tally_more m3 (1:Int) (1:Int)=_:=e4
  obtain ⟨m',r1,r2,r3⟩:=rnote_l r hf (by omega) _ 0 fuel m4 (Nat.zero_add _) (by omega) b4
  have r1' : p_ref36_Tally_Note_l1 r fuel (0:Int) m4=_:=r1
  rw [show (r.E != (0:Int))=true from bne_iff_ne.2 hE,cond_true,e4',Option.bind_some,r1']
  refine ⟨m',rfl,r2,fun i hi=>?_⟩
  have q1:0≤(if i=1 then (1:Int) else 0):=by split <;> omega
  have q2:0≤(if i=2 then (r.Said.length:Int) else 0):=by split <;> omega
  have q3:0≤(if i=11 then (r.Shut.length:Int) else 0):=by split <;> omega
  rw [r3 i hi,List.drop_zero,c4 i hi,c3 i hi,c2 i hi,c1 i hi,min_min q2,min_min q3,min_min q1,min_min (sumI_nn i _)]
  congr 2
  unfold noteI
  rw [show (if i=1∧r.E≠0 then (1:Int) else 0)=if i=1 then (1:Int) else 0 by
   by_cases h:i=1
   ·rw [if_pos ⟨h,hE⟩,if_pos h]
   ·rw [if_neg (fun q=>h q.1),if_neg h]]
  omega
theorem place_l (nm:ByteArray):∀ (n k F G:Nat),k + n=12→n < F→n < G→p_ref36_Place_l1 nm F (k:Int)=p_slices_Index_string_l1 namesL nm (12:Int) G (k:Int)
 | 0,k,F + 1,G + 1,hk,hF,hG=>by
  have:k=12:=by omega
  subst this;rfl
 | n + 1,k,F + 1,G + 1,hk,hF,hG=>by
  have hlt:k < namesL.length:=by rw [names12];omega
  have hn:namesL.getD k ⟨#[]⟩=namesL[k]:=by rw [List.getD_eq_getElem?_getD,List.getElem?_eq_getElem hlt];rfl
  rw [p_ref36_Place_l1,p_slices_Index_string_l1,decide_eq_true (show (k:Int) < 12 by omega),cond_true,cond_true,(name_p k (by omega)).1,Option.bind_some,at_lt hlt,Option.bind_some,hn,w64_succ (by omega),place_l nm n (k + 1) F G (by omega) (by omega) (by omega)]
  have e:(namesL[k].toList == nm.toList)=(nm.toList == namesL[k].toList):=by
   rw [Bool.eq_iff_iff,beq_iff_eq,beq_iff_eq];exact eq_comm
  rw [e]
theorem place_ref (nm:ByteArray):p_ref36_Place nm=some (ixN nm):=by
 have fp:=fuel_pos
 have h:=(index_p nm).1
 rw [← h]
 unfold p_ref36_Place p_slices_Index_string
 have e:=place_l nm 12 0 fuel fuel (by omega) (by omega) (by omega)
 have e' : p_ref36_Place_l1 nm fuel (0:Int)=p_slices_Index_string_l1 namesL nm (12:Int) fuel (0:Int):=e
 rw [e',show ((namesL.length:Nat):Int)=12 by rw [names12];rfl]
 rfl
theorem radd_s (m:Ar12_Int) (nm:ByteArray) (n:Int) (hc:BdM m) (hn:n≤9223372036854775807):∃ m',p_ref36_Tally_Add m nm n=some (m',decide (0≤n∧ixN nm≠-1))∧BdM m'∧∀ i,i < 12→mI m' i=min (mI m i + addI nm n i) (4611686018427387904:Int):=by
 have zero:∀ i,i < 12→mI m i=min (mI m i + 0) (4611686018427387904:Int):=fun i hi=>by have:=hc i hi;omega
 unfold p_ref36_Tally_Add
 rw [place_ref,Option.bind_some]
 obtain ⟨_,hv⟩:=index_p nm
 rcases hv with hv | ⟨j,hj,hv⟩
 ·rw [hv,decide_eq_true (show (-1:Int) < 0 by omega),cond_true]
  refine ⟨m,by rw [decide_eq_false (fun h=>h.2 rfl)],hc,fun i hi=>?_⟩
  unfold addI
  rw [if_neg (fun h=>by have:=h.2;rw [hv] at this;omega)];exact zero i hi
 ·rw [hv,decide_eq_false (show ¬ (j:Int) < 0 by omega),cond_false]
  by_cases h0:n < 0
  ·rw [decide_eq_true h0,cond_true]
   refine ⟨m,by rw [decide_eq_false (fun h=>by omega)],hc,fun i hi=>?_⟩
   unfold addI
   rw [if_neg (fun h=>by omega)];exact zero i hi
  ·rw [decide_eq_false h0,cond_false]
   obtain ⟨m',e,b,c⟩:=rmore (i:=j) (n:=n) hc hj ⟨by omega,hn⟩
   rw [e,Option.bind_some,decide_eq_true ⟨by omega,by omega⟩]
   refine ⟨m',rfl,b,fun i hi=>?_⟩
   rw [c i hi]
   congr 2
   unfold addI
   by_cases h:i=j
   ·rw [if_pos h,if_pos ⟨by omega,by rw [hv,h]⟩]
   ·rw [if_neg h,if_neg (fun q=>h (by have:=q.2;rw [hv] at this;omega))]
theorem counts_l (l:List Law36Act) (hf:∀ x ∈ l,FineA x) (hk:∀ x ∈ l,KdA x) (hl:l.length≤1000) (n:Nat):∀ (k F:Nat) (T:TallyTally) (m:Ar12_Int),k + n=l.length→n < F→CntG T→PT T→BdM m→(∀ i,i < 12→mI m i=cntT T i)→∃ T' m',p_law36_TallyCounts_l1 l F (k:Int) T m=some (.inr ((l.length:Int),T',m'))∧CntG T'∧PT T'∧∀ i,i < 12→mI m' i=cntT T' i:=by
 induction n with
 | zero =>
  intro k F T m hn hF hc hp hb hv
  obtain ⟨F,rfl⟩ : ∃ G,F=G + 1:=⟨F - 1,by omega⟩
  rw [p_law36_TallyCounts_l1,lt_ff (by omega),cond_false,show k=l.length by omega]
  exact ⟨T,m,rfl,hc,hp,hv⟩
 | succ n ih =>
  intro k F T m hn hF hc hp hb hv
  obtain ⟨F,rfl⟩ : ∃ G,F=G + 1:=⟨F - 1,by omega⟩
  have hlt:k < l.length:=by omega
  have hx:=hf _ (List.getElem_mem hlt)
  have hx2:=hk _ (List.getElem_mem hlt)
  rw [p_law36_TallyCounts_l1,lt_tt hlt,cond_true,at_lt hlt]
  simp only [Option.bind_some]
  rw [w64_succ (by omega)]
  cases (l[k].Name.toList == (⟨#[]⟩ : ByteArray).toList) with
  | true =>
   obtain ⟨T1,t1,t2,t3,t4⟩:=note_s T l[k].R hc (fun y hy=>(hx.st y hy).fits) hx.said hx.shut
   obtain ⟨m1,s1,s2,s3⟩:=rnote_s m l[k].R hb hx.st hx.said hx.shut
   rw [cond_true,result_p _ hx.said,Option.bind_some,t1,Option.bind_some,s1,Option.bind_some]
   exact ih (k + 1) F T1 m1 (by omega) (by omega) t2 (hp.same t3) s2 fun i hi=>by rw [s3 i hi,t4 i hi,hv i hi]
  | false =>
   obtain ⟨T1,t1,t2,t3,t4⟩:=add_s T l[k].Name l[k].N hc hp hx2.2
   obtain ⟨m1,s1,s2,s3⟩:=radd_s m l[k].Name l[k].N hb hx2.2
   rw [cond_false,t1,Option.bind_some,s1,Option.bind_some]
   simp only [bne_self_eq_false,cond_false]
   exact ih (k + 1) F T1 m1 (by omega) (by omega) t2 t3 s2 fun i hi=>by rw [s3 i hi,t4 i hi,hv i hi]
theorem list_l (T:TallyTally) (hc:CntG T):∀ (n k F:Nat) (acc:List TallyCount),k + n=12→n < F→acc.length=k→(∀ j (h:j < acc.length),∃ h2:j < namesL.length,acc[j]=⟨namesL[j],cntT T j⟩)→∃ L z,p_tally_Tally_List_l1 namesL (12:Int) T F acc (k:Int)=some (L,z)∧L.length=12∧∀ j (h:j < L.length),∃ h2:j < namesL.length,L[j]=⟨namesL[j],cntT T j⟩
 | 0,k,F + 1,acc,hk,hF,ha,hv=>by
  have:k=12:=by omega
  subst this
  exact ⟨acc,_,rfl,ha,hv⟩
 | n + 1,k,F + 1,acc,hk,hF,ha,hv=>by
  have hlt:k < namesL.length:=by rw [names12];omega
  have a:arr? 12 T.counts (k:Int)=some (T.counts.getD k ⟨⟨⟩,⟨⟩,0⟩):=arrT hc.len (by omega)
  rw [p_tally_Tally_List_l1,decide_eq_true (show (k:Int) < 12 by omega),cond_true,at_lt hlt,Option.bind_some,a,Option.bind_some,app_ok (by simp;omega),Option.bind_some,w64_succ (by omega)]
  refine list_l T hc n (k + 1) F _ (by omega) (by omega) (by simp [ha]) fun j h=>?_
  by_cases hj:j < acc.length
  ·obtain ⟨h2,e⟩:=hv j hj
   exact ⟨h2,by rw [List.getElem_append_left hj];exact e⟩
  ·have:j=k:=by simp at h;omega
   subst this
   exact ⟨hlt,by rw [List.getElem_append_right (by omega)];simp [ha];rfl⟩
theorem counts_l2 (T:TallyTally) (m:Ar12_Int) (L:List TallyCount) (hL:L.length=12) (hv:∀ j (h:j < L.length),∃ h2:j < namesL.length,L[j]=⟨namesL[j],cntT T j⟩) (hm:∀ i,i < 12→mI m i=cntT T i):∀ (n k F:Nat) (ns:List ByteArray),k + n=12→n < F→ns.length=12→(∀ j,k≤j→ns[j]?=namesL[j]?)→∃ z,p_law36_TallyCounts_l2 L m F (k:Int) ns=some (.inr z)
 | 0,k,F + 1,ns,hk,hF,hn,he=>by
  have:k=12:=by omega
  subst this
  exact ⟨_,rfl⟩
 | n + 1,k,F + 1,ns,hk,hF,hn,he=>by
  have hlt:k < namesL.length:=by rw [names12];omega
  have hkL:k < L.length:=by omega
  obtain ⟨_,eL⟩:=hv k hkL
  have hns:namesL.getD k ⟨#[]⟩=namesL[k]:=by rw [List.getD_eq_getElem?_getD,List.getElem?_eq_getElem hlt];rfl
  have nsk:ns.getD k ⟨#[]⟩=namesL[k]:=by rw [List.getD_eq_getElem?_getD,he k (Nat.le_refl _),List.getElem?_eq_getElem hlt];rfl
  have a1:arr? 12 ns (k:Int)=some (namesL[k]):=by rw [← nsk];exact arrT hn (by omega)
  obtain ⟨v,hv2⟩ : ∃ v,v=mI m k:=⟨_,rfl⟩
  have a2:arr? 12 m.toL (k:Int)=some v:=by rw [hv2];exact arrT (l:=m.toL) (d:=0) rfl (by omega)
  unfold Ar12_Int.toL at a2
  rw [p_law36_TallyCounts_l2,decide_eq_true (show (k:Int) < 12 by omega),cond_true,a1,Option.bind_some,(name_p k (by omega)).1,hns]
  simp only [Option.bind_some,beq_self_eq_true,cond_true]
  rw [at_lt hkL,a2]
  simp only [Option.bind_some]
  rw [eL]
  simp only [beq_self_eq_true,cond_true]
  rw [show ((cntT T k) != v)=false by rw [hv2,hm k (by omega)];exact bne_self_eq_false _,cond_false,w64_succ (by omega),Int.toNat_natCast]
  exact counts_l2 T m L hL hv hm n (k + 1) F _ (by omega) (by omega) (by rw [List.length_set];exact hn) fun j hj=>by
   rw [List.getElem?_set_ne (by omega)];exact he j (by omega)
theorem tallyCounts_pure (l:List Law36Act) (nm:ByteArray) (hl:∀ x ∈ l,KdA x):p_law36_TallyCounts l nm=some true:=by
 have fp:=fuel_pos
 unfold p_law36_TallyCounts
 rcases few_p l hl with e1 | ⟨e1,l1,f1⟩
 ·rw [e1];simp only [Option.bind_some,cond_false];rw [aw36];rfl
 rw [e1]
 simp only [Option.bind_some,cond_true]
 by_cases h20:(20:Int) < (nm.size:Int)
 ·rw [decide_eq_true h20,cond_true,aw36];rfl
 rw [decide_eq_false h20,cond_false]
 simp only [Option.bind_some]
 rw [new_z]
 simp only [Option.bind_some]
 have z0:∀ i,mI (Ar12_Int.mk 0 0 0 0 0 0 0 0 0 0 0 0) i=0:=fun i=>by
  show (List.replicate 12 (0:Int)).getD i 0=0
  rw [List.getD_eq_getElem?_getD,List.getElem?_replicate]
  split <;> rfl
 obtain ⟨T,m,q1,q2,q3,q4⟩:=counts_l l f1 hl (by omega) _ 0 fuel zT (Ar12_Int.mk 0 0 0 0 0 0 0 0 0 0 0 0) (Nat.zero_add _) (by omega) cntG_z pt_z (fun i _=>by rw [z0];omega) (fun i _=>by rw [z0,cnt_z])
 have q1' : p_law36_TallyCounts_l1 l fuel (0:Int) zT (Ar12_Int.mk 0 0 0 0 0 0 0 0 0 0 0 0)=_:=q1
 rw [q1']
 simp only [Option.bind_some]
 rw [place_ref]
 simp only [Option.bind_some]
 obtain ⟨L,z,g1,g2,g3⟩:=list_l T q2 12 0 fuel [] (by omega) (by omega) rfl (fun j h=>by cases h)
 have g1' : p_tally_Tally_List_l1 namesL (12:Int) T fuel [] (0:Int)=_:=g1
 have gl:p_tally_Tally_List T=some (T,L):=by
  unfold p_tally_Tally_List
  rw [show p_tally_Names=some namesL from rfl,Option.bind_some,show ((namesL.length:Nat):Int)=12 by rw [names12];rfl,g1'];rfl
 obtain ⟨z2,g4⟩:=counts_l2 T m L g2 g3 q4 12 0 fuel namesL (by omega) (by omega) rfl (fun _ _=>rfl)
 have g4' : p_law36_TallyCounts_l2 L m fuel (0:Int) namesL=_:=g4
 obtain ⟨T',k1,_,_,_⟩:=get_s T nm q2 q3
 have tail:∀ w,w=(if ixN nm=-1 then 0 else cntT T (ixN nm).toNat)→((p_tally_Tally_List T).bind fun v46=>(p_tally_Names).bind fun l47=>((bif ((v46.2.length:Int) != (12:Int)) then some (.inl false) else bif ((12:Int) != (12:Int)) then some (.inl false) else some (.inr ())):Option (Bool ⊕ Unit)).bind fun o50=>match o50 with
   | .inl q51=>some q51
   | .inr q52=>(p_law36_TallyCounts_l2 v46.2 m fuel (0:Int) l47).bind fun o84=>match o84 with
    | .inl q85=>some q85
    | .inr q86=>(p_tally_Tally_Get v46.1 nm).bind fun v87=>bif (v87.2 == w) then (p_law36_awake).bind fun v89=>some v89 else some false)=some true:=fun w hw=>by
  rw [gl,Option.bind_some,show p_tally_Names=some namesL from rfl,Option.bind_some]
  simp only
  rw [show ((L.length:Int) != (12:Int))=false by rw [g2];rfl,cond_false,show ((12:Int) != (12:Int))=false from rfl,cond_false,Option.bind_some]
  simp only
  rw [g4',Option.bind_some]
  simp only
  rw [k1,Option.bind_some]
  simp only
  rw [hw,beq_self_eq_true,cond_true,aw36];rfl
 obtain ⟨_,hv⟩:=index_p nm
 rcases hv with hv | ⟨j,hj,hv⟩
 ·rw [hv,decide_eq_false (show ¬ (0:Int)≤-1 by omega),cond_false,Option.bind_some]
  exact tail 0 (by rw [hv,if_pos rfl])
 ·obtain ⟨v,hv2⟩ : ∃ v,v=mI m j:=⟨_,rfl⟩
  have a2:arr? 12 m.toL (j:Int)=some v:=by rw [hv2];exact arrT (l:=m.toL) (d:=0) rfl hj
  unfold Ar12_Int.toL at a2
  rw [hv,decide_eq_true (show (0:Int)≤(j:Int) by omega),cond_true,a2,Option.bind_some,Option.bind_some]
  exact tail v (by rw [hv,if_neg (by omega),Int.toNat_natCast,hv2,q4 j hj])
theorem le_i64 {n:Int} (h:(Lit.int .i64 n).wf=true):n≤9223372036854775807:=by
 simp [Lit.wf,IntKind.min,IntKind.max,IntKind.signed,IntKind.bits] at h
 omega
theorem kdA_wf (x:Law36Act) (h:Law36Act.Wf x):KdA x:=⟨fun y hy=>bounds_u8 (h.R.Said y hy).S.Kind,le_i64 h.N⟩
theorem tallyCounts_wf (l:List Law36Act) (nm:ByteArray) (h:∀ x ∈ l,Law36Act.Wf x):p_law36_TallyCounts l nm=some true :=
 tallyCounts_pure l nm fun x hx=>kdA_wf x (h x hx)
end Go.Proofs.YtpkodpcfafipdaaGreat

