/- ScriptBack: for every input the call returns true, and its arguments read as they did. -/
import Derived.Test.YtbimgghogflikaaGreatDoorSbA1
import Derived.Test.YtbimgghogflikaaGreatDoorSaA21
import Derived.Test.YtbimgghogflikaaGreatDoorSaA18
import Derived.Test.YtbimgghogflikaaGreatDoorSaA20
import Derived.Test.YtbimgghogflikaaGreatDoorSaA11
import Derived.KernelRfl
import Derived.HandedShaped
import Derived.LaidMore
import Derived.LaidLaws
import Derived.ProofKit
import Derived.OpenShut
import Derived.Stop.Joined
import Derived.Test.YtbimgghogflikaaGreatDoorRows
import Derived.Test.YtbimgghogflikaaGreatDoorCards
import Derived.Test.YtbimgghogflikaaGreatDoorTie
set_option linter.all false
namespace Go.Proofs.YtbimgghogflikaaGreatDoor
open Go.RowKit
theorem get_put {s:BrokerStep} {l R:List UInt8} {b:ByteArray} (hk:0≤s.Kind∧s.Kind≤255) (hp:putZ s=some l) (hb:b.data.toList=l++R) (hn:b.data.toList.length≤100000):p_script_Get b=some (s,(l.length:Int),0):=by
 obtain ⟨k,c,n,t⟩:=s
 have hk0:0≤k:=hk.1
 have h:k=0∨k=1∨k=2∨k=3∨k=4∨k=5∨6≤k:=by omega
 rcases h with rfl | rfl | rfl | rfl | rfl | rfl | h
 ·rw [putZ0] at hp
  split at hp
  ·rename_i hc
   obtain ⟨rfl,h1,h2⟩:=hc
   obtain ⟨c,rfl,hc⟩:=okN_get h1
   obtain ⟨n,rfl,hn2⟩:=okN_get h2
   simp only [Int.toNat_natCast,Option.some.injEq] at hp
   subst hp
   have:=got0 hn (by rw [hb,List.cons_append,List.append_assoc]) hc hn2
   rw [this,List.length_cons,List.length_append,beB_len,beB_len];rfl
  ·cases hp
 ·rw [putZ1] at hp
  split at hp
  ·rename_i hc
   obtain ⟨rfl,h1,h2⟩:=hc
   obtain ⟨c,rfl,hc⟩:=okN_get h1
   simp only [Int.toNat_natCast,Option.some.injEq] at hp
   subst hp
   have:=got1 hn (by rw [hb,List.cons_append,List.append_assoc]) hc h2
   have ht:t.data.toList.length=t.size:=by simp
   rw [this,List.length_cons,List.length_append,beB_len,List.length_cons,ht]
   congr 3
   show ((1 + 1 + (1 + t.size):Nat):Int)=_
   omega
  ·cases hp
 ·rw [putZ2] at hp
  split at hp
  ·rename_i hc
   obtain ⟨rfl,rfl,h1⟩:=hc
   obtain ⟨c,rfl,hc⟩:=okN_get h1
   simp only [Int.toNat_natCast,Option.some.injEq] at hp
   subst hp
   have:=got2 hn (by rw [hb,List.cons_append]) hc
   rw [this,List.length_cons,beB_len];rfl
  ·cases hp
 ·rw [putZ3] at hp
  split at hp
  ·rename_i hc
   obtain ⟨rfl,rfl,rfl⟩:=hc
   simp only [Option.some.injEq] at hp
   subst hp
   exact got3 hn hb
  ·cases hp
 ·rw [putZ4] at hp
  split at hp
  ·rename_i hc
   obtain ⟨rfl,h1,h2⟩:=hc
   obtain ⟨c,rfl,hc⟩:=okN_get h1
   obtain ⟨n,rfl,hn2⟩:=okN_get h2
   simp only [Int.toNat_natCast,Option.some.injEq] at hp
   subst hp
   have:=got4 hn (by rw [hb,List.cons_append,List.append_assoc]) hc hn2
   rw [this,List.length_cons,List.length_append,beB_len,beB_len];rfl
  ·cases hp
 ·rw [putZ5] at hp
  split at hp
  ·rename_i hc
   obtain ⟨rfl,rfl,h2⟩:=hc
   obtain ⟨n,rfl,hn2⟩:=okN_get h2
   simp only [Int.toNat_natCast,Option.some.injEq] at hp
   subst hp
   have:=got5 hn (by rw [hb,List.cons_append]) hn2
   rw [this,List.length_cons,beB_len];rfl
  ·cases hp
 ·exfalso
  unfold putZ at hp
  rw [if_neg (show ¬ k=0 by omega),if_neg (show ¬ k=1 by omega),if_neg (show ¬ k=2 by omega),if_neg (show ¬ k=3 by omega),if_neg (show ¬ k=4 by omega),if_neg (show ¬ k=5 by omega)] at hp
  cases hp
theorem u8_is {k:UInt8} {n:Nat} (h:k.toNat=n):k=UInt8.ofNat n:=by subst h;simp
theorem get_back {b:ByteArray} (h0:0 < b.size) (hn:b.size≤99999):(∃ s l R,b.data.toList=l++R∧putZ s=some l∧(0≤s.Kind∧s.Kind≤255)∧p_script_Get b=some (s,(l.length:Int),0))∨BadG (p_script_Get b):=by
 have hs:b.data.toList.length=b.size:=by simp
 cases hb:b.data.toList with
 | nil=>rw [hb] at hs;simp at hs;omega
 | cons k T =>
  have hT:T.length≤99999:=by rw [hb,List.length_cons] at hs;omega
  have h:k.toNat=0∨k.toNat=1∨k.toNat=2∨k.toNat=3∨k.toNat=4∨k.toNat=5∨6≤k.toNat:=by omega
  rw [← hb]
  rcases h with h | h | h | h | h | h | h
  ·obtain rfl:=u8_is h;exact back0 hb hT
  ·obtain rfl:=u8_is h;exact back1 hb hT
  ·obtain rfl:=u8_is h;exact back2 hb hT
  ·obtain rfl:=u8_is h;exact back3 hb hT
  ·obtain rfl:=u8_is h;exact back4 hb hT
  ·obtain rfl:=u8_is h;exact back5 hb hT
  ·right
   obtain ⟨g1,g2,g3,g4,g5⟩:=get_head hb hT
   have e0:((k.toNat:Int) == 0)=false:=beq_eq_false_iff_ne.2 (by omega)
   have e1:((k.toNat:Int) == 1)=false:=beq_eq_false_iff_ne.2 (by omega)
   have e2:((k.toNat:Int) == 2)=false:=beq_eq_false_iff_ne.2 (by omega)
   have e3:((k.toNat:Int) == 3)=false:=beq_eq_false_iff_ne.2 (by omega)
   have e4:((k.toNat:Int) == 4)=false:=beq_eq_false_iff_ne.2 (by omega)
   have e5:((k.toNat:Int) == 5)=false:=beq_eq_false_iff_ne.2 (by omega)
   unfold p_script_Get p_script_shapes
   simp only [g2,g3,e0,e1,e2,e3,e4,e5,cond_false,Option.bind_some]
   exact ⟨_,rfl,by show (12:Int)≠0;decide⟩
def encS (l:List BrokerStep):List UInt8:=l.flatMap fun s=>(putZ s).getD []
def GoodP (l:List BrokerStep):Prop:=∀ s ∈ l,(0≤s.Kind∧s.Kind≤255)∧∃ x,putZ s=some x
theorem encS_cons {s:BrokerStep} {l:List BrokerStep} {x:List UInt8} (h:putZ s=some x):encS (s :: l)=x++encS l:=by
 unfold encS;rw [List.flatMap_cons,h];rfl
theorem putZ_pos {s:BrokerStep} {x:List UInt8} (h:putZ s=some x):0 < x.length∧x.length≤300∧0≤s.Kind∧s.Kind≤5:=by
 unfold putZ at h
 repeat' split at h
 all_goals first | (cases h;done) | skip
 all_goals (obtain rfl:=Option.some.inj h)
 all_goals (refine ⟨by simp,?_,by omega,by omega⟩)
 all_goals (simp only [List.length_cons,List.length_append,beB_len,List.length_nil,Array.length_toList,ByteArray.size_data];omega)
theorem join_good:∀ {l:List BrokerStep} {acc:List UInt8},GoodP l→acc.length + (encS l).length≤1000000000→joinS p_script_Put l acc=some (⟨(acc++encS l).toArray⟩,0)
 | [],acc,_,_=>by rw [joinS];simp [encS]
 | s :: l,acc,h,hn=>by
  obtain ⟨hk,x,hx⟩:=h s (List.mem_cons_self ..)
  have hp:=put_z s hk
  rw [hx] at hp
  have hp' : p_script_Put s=some (⟨x.toArray⟩,0):=hp
  rw [encS_cons hx,List.length_append] at hn
  have hxs:(⟨x.toArray⟩ : ByteArray).size=x.length:=by show x.toArray.size=_;simp
  rw [joinS,hp',Option.bind_some,if_neg (by simp),if_pos (by show acc.length + (⟨x.toArray⟩ : ByteArray).size≤_;omega)]
  show joinS p_script_Put l (acc++x)=_
  rw [join_good (fun y hy=>h y (List.mem_cons_of_mem _ hy)) (by rw [List.length_append];omega),encS_cons hx,List.append_assoc]
theorem all_good:∀ (l:List BrokerStep) (F:Nat) (b:ByteArray) (acc:List BrokerStep),GoodP l→b.data.toList=encS l→b.size≤99999→l.length < F→acc.length + l.length≤100000→∃ y,p_script_All_l1 F b acc=some (.inl (y,acc++l))
 | [],F + 1,b,acc,_,hb,_,_,_=>by
  have hs:b.size=0:=by
   have:=congrArg List.length hb
   simpa [encS] using this
  rw [p_script_All_l1,emptyB,decide_eq_true hs]
  exact ⟨b,by rw [cond_true,List.append_nil]⟩
 | s :: l,F + 1,b,acc,h,hb,hn,hF,ha=>by
  obtain ⟨hk,x,hx⟩:=h s (List.mem_cons_self ..)
  obtain ⟨hx0,_⟩:=putZ_pos hx
  rw [encS_cons hx] at hb
  have hs:b.data.toList.length=b.size:=by simp
  have hsz:b.size=x.length + (encS l).length:=by rw [← hs,hb,List.length_append]
  have hg:=get_put hk hx hb (by omega)
  rw [List.length_cons] at hF ha
  rw [p_script_All_l1,emptyB,decide_eq_false (by omega),cond_false,hg]
  simp only [Option.bind_some,z0n,cond_false]
  rw [app_ok (by simp;omega),Option.bind_some,sub_suf (by omega),Option.bind_some]
  obtain ⟨y,hy⟩:=all_good l F (suf b x.length) (acc++[s]) (fun z hz=>h z (List.mem_cons_of_mem _ hz)) (by rw [suf_list,hb,List.drop_left' rfl]) (by rw [suf_size];omega) (by omega) (by simp;omega)
  exact ⟨y,by rw [hy,List.append_assoc];rfl⟩
theorem all_back:∀ (n F:Nat) (b:ByteArray) (acc:List BrokerStep),b.size≤n→n≤99999→n < F→acc.length + n≤100000→(∃ o y,p_script_All_l1 F b acc=some (.inl (y,acc++o))∧GoodP o∧encS o=b.data.toList∧o.length≤n)∨(∃ e,e≠0∧p_script_All_l1 F b acc=some (.inr ([],e)))
 | n,F + 1,b,acc,hb,hn,hF,ha=>by
  rw [p_script_All_l1,emptyB]
  by_cases h0:b.size=0
  ·left
   rw [decide_eq_true h0]
   refine ⟨[],b,by rw [cond_true,List.append_nil],fun s hs=>(by cases hs),?_,Nat.zero_le _⟩
   have:b.data.toList.length=b.size:=by simp
   rw [h0] at this
   rw [List.length_eq_zero_iff.1 this];rfl
  rw [decide_eq_false h0,cond_false]
  rcases get_back (b:=b) (by omega) (by omega) with ⟨s,l,R,h1,h2,h3,h4⟩ | ⟨x,h1,h2⟩
  ·rw [h4]
   simp only [Option.bind_some,z0n,cond_false]
   obtain ⟨n,rfl⟩ : ∃ m,n=m + 1:=⟨n - 1,by omega⟩
   obtain ⟨hl0,_⟩:=putZ_pos h2
   have hs:b.data.toList.length=b.size:=by simp
   have hsz:b.size=l.length + R.length:=by rw [← hs,h1,List.length_append]
   rw [app_ok (by simp;omega),Option.bind_some,sub_suf (by omega),Option.bind_some]
   rcases all_back n F (suf b l.length) (acc++[s]) (by rw [suf_size];omega) (by omega) (by omega) (by simp;omega) with ⟨o,y,q1,q2,q3,q4⟩ | ⟨e,q1,q2⟩
   ·left
    refine ⟨s :: o,y,by rw [q1,List.append_assoc];rfl,fun z hz=>?_,?_,by rw [List.length_cons];omega⟩
    ·rcases List.mem_cons.1 hz with rfl | hz
     ·exact ⟨h3,l,h2⟩
     ·exact q2 z hz
    ·rw [encS_cons h2,q3,suf_list,h1,List.drop_left' rfl]
   ·exact .inr ⟨e,q1,q2⟩
  ·right
   rw [h1,Option.bind_some,show (x.2.2 != (0:Int))=true from bne_iff_ne.2 h2]
   exact ⟨_,h2,rfl⟩
theorem count_l (z:List BrokerStep) (k:Int) (hn:z.length≤1000):∀ (n j F a:Nat),j + n=z.length→n < F→a≤j→p_script_Count_l1 k z (z.length:Int) F (a:Int) (j:Int)=some (((a + (z.drop j).countP (fun s=>s.Kind == k):Nat):Int),(z.length:Int))
 | 0,j,F + 1,a,hj,hF,ha=>by
  rw [p_script_Count_l1,lt_ff (by omega),show j=z.length by omega,List.drop_length];rfl
 | n + 1,j,F + 1,a,hj,hF,ha=>by
  have hlt:j < z.length:=by omega
  rw [p_script_Count_l1,lt_tt hlt,cond_true,at_lt hlt,Option.bind_some,w64_succ (by omega),w64_succ (by omega),count_l z k hn n (j + 1) F a (by omega) (by omega) (by omega),count_l z k hn n (j + 1) F (a + 1) (by omega) (by omega) (by omega),drop_at hlt,List.countP_cons]
  cases (z[j].Kind == k) with
  | true=>simp;omega
  | false=>simp
theorem count_p {z:List BrokerStep} (k:Int) (hn:z.length≤1000):p_script_Count z k=some ((z.countP (fun s=>s.Kind == k):Nat):Int):=by
 have h:p_script_Count_l1 k z (z.length:Int) fuel (0:Int) (0:Int)=_:=count_l z k hn z.length 0 fuel 0 (by omega) (by have:=fuel_pos;omega) (Nat.le_refl _)
 unfold p_script_Count
 rw [h,Nat.zero_add,List.drop_zero];rfl
theorem count_sum:∀ (z:List BrokerStep),(∀ s ∈ z,0≤s.Kind∧s.Kind≤5)→z.countP (fun s=>s.Kind == 0) + z.countP (fun s=>s.Kind == 1) + z.countP (fun s=>s.Kind == 2) + z.countP (fun s=>s.Kind == 3) + z.countP (fun s=>s.Kind == 4) + z.countP (fun s=>s.Kind == 5)=z.length
 | [],_=>rfl
 | s :: z,h=>by
  have ih:=count_sum z fun y hy=>h y (List.mem_cons_of_mem _ hy)
  obtain ⟨h1,h2⟩:=h s (List.mem_cons_self ..)
  have hk:s.Kind=0∨s.Kind=1∨s.Kind=2∨s.Kind=3∨s.Kind=4∨s.Kind=5:=by omega
  simp only [List.countP_cons,List.length_cons]
  rcases hk with hk | hk | hk | hk | hk | hk <;> rw [hk] <;> simp <;> omega
theorem sum_l {z:List BrokerStep} (hn:z.length≤1000) (h:∀ s ∈ z,0≤s.Kind∧s.Kind≤5):p_law34_ScriptBack_l2 z fuel (0:Int) (0:Int)=some ((z.length:Int),6):=by
 have c:∀ k:Int,z.countP (fun s=>s.Kind == k)≤z.length:=fun k=>List.countP_le_length
 have c0:=c 0
 have c1:=c 1
 have c2:=c 2
 have c3:=c 3
 have c4:=c 4
 have c5:=c 5
 have hs:=count_sum z h
 have step:∀ (F:Nat) (a:Nat) (k:Nat),k < 6→a≤100000→p_law34_ScriptBack_l2 z (F + 1) (a:Int) (k:Int)=p_law34_ScriptBack_l2 z F ((a + z.countP (fun s=>s.Kind == (k:Int)):Nat):Int) ((k + 1:Nat):Int):=fun F a k hk ha=>by
  have ck:=c (k:Int)
  have e:IntKind.wrap .u8 ((k:Int) + (1:Int))=((k + 1:Nat):Int):=u8_in (by omega)
  rw [p_law34_ScriptBack_l2,decide_eq_true (show (k:Int) < 6 by omega),cond_true,count_p _ hn,Option.bind_some,w64_id (by omega),e];rfl
 obtain ⟨F,hF⟩ : ∃ F,fuel=F + 7:=⟨99999993,rfl⟩
 rw [hF]
 show p_law34_ScriptBack_l2 z (F + 7) ((0:Nat):Int) ((0:Nat):Int)=_
 have c' : ∀ k:Nat,z.countP (fun s=>s.Kind == (k:Int))≤z.length:=fun k=>List.countP_le_length
 have d0:=c' 0
 have d1:=c' 1
 have d2:=c' 2
 have d3:=c' 3
 have d4:=c' 4
 rw [step _ 0 0 (by decide) (by decide),step _ _ 1 (by decide) (by omega),step _ _ 2 (by decide) (by omega),step _ _ 3 (by decide) (by omega),step _ _ 4 (by decide) (by omega),step _ _ 5 (by decide) (by omega)]
 rw [p_law34_ScriptBack_l2]
 show some (_,_)=some (_,_)
 congr 2
 have a0:z.countP (fun s=>s.Kind == ((0:Nat):Int))=z.countP (fun s=>s.Kind == 0):=rfl
 have a1:z.countP (fun s=>s.Kind == ((1:Nat):Int))=z.countP (fun s=>s.Kind == 1):=rfl
 have a2:z.countP (fun s=>s.Kind == ((2:Nat):Int))=z.countP (fun s=>s.Kind == 2):=rfl
 have a3:z.countP (fun s=>s.Kind == ((3:Nat):Int))=z.countP (fun s=>s.Kind == 3):=rfl
 have a4:z.countP (fun s=>s.Kind == ((4:Nat):Int))=z.countP (fun s=>s.Kind == 4):=rfl
 have a5:z.countP (fun s=>s.Kind == ((5:Nat):Int))=z.countP (fun s=>s.Kind == 5):=rfl
 omega
theorem fine_l (haw:p_law34_awake=some true) (l:List BrokerStep) (hl:l.length≤10) (hd:∀ s ∈ l,0≤s.Kind∧s.Kind≤255):∀ (n k F:Nat) (acc:List BrokerStep),k + n=l.length→n < F→acc.length≤k→GoodP acc →
  p_law34_ScriptBack_l1 l F acc (k:Int)=some (.inl true)∨∃ fine,p_law34_ScriptBack_l1 l F acc (k:Int)=some (.inr (fine,(l.length:Int)))∧GoodP fine∧fine.length≤l.length
 | 0,k,F + 1,acc,hk,hF,ha,hg=>by
  rw [p_law34_ScriptBack_l1,lt_ff (by omega),show k=l.length by omega]
  exact .inr ⟨acc,rfl,hg,by omega⟩
 | n + 1,k,F + 1,acc,hk,hF,ha,hg=>by
  have hlt:k < l.length:=by omega
  have hkd:=hd _ (List.getElem_mem hlt)
  rw [p_law34_ScriptBack_l1,lt_tt hlt,at_lt hlt]
  simp only [cond_true,Option.bind_some]
  by_cases ht:(300:Int) < (l[k].Text.size:Int)
  ·rw [decide_eq_true ht,haw];exact .inl rfl
  rw [decide_eq_false ht,cond_false,w64_succ (by omega)]
  have hp:=put_z l[k] hkd
  cases hz:putZ l[k] with
  | none =>
   rw [hz] at hp
   obtain ⟨e,he,hp⟩:=hp
   rw [hp,Option.bind_some,show (e == (0:Int))=false from beq_eq_false_iff_ne.2 he,cond_false]
   exact fine_l haw l hl hd n (k + 1) F acc (by omega) (by omega) (by omega) hg
  | some x =>
   rw [hz] at hp
   have hp' : p_script_Put l[k]=some (⟨x.toArray⟩,0):=hp
   rw [hp',Option.bind_some,z00,cond_true,app_ok (by simp;omega),Option.bind_some]
   refine fine_l haw l hl hd n (k + 1) F _ (by omega) (by omega) (by simp;omega) fun s hs=>?_
   rcases List.mem_append.1 hs with hs | hs
   ·exact hg s hs
   ·rw [List.mem_singleton.1 hs];exact ⟨hkd,x,hz⟩
theorem enc_len:∀ {l:List BrokerStep},GoodP l→(encS l).length≤300 * l.length
 | [],_=>Nat.zero_le _
 | s :: l,h=>by
  obtain ⟨_,x,hx⟩:=h s (List.mem_cons_self ..)
  have:=enc_len fun y hy=>h y (List.mem_cons_of_mem _ hy)
  have h2:=(putZ_pos hx).2.1
  rw [encS_cons hx,List.length_append,List.length_cons];omega
theorem scriptBack_pure (haw:p_law34_awake=some true) (l:List BrokerStep) (b:ByteArray) (hd:∀ s ∈ l,0≤s.Kind∧s.Kind≤255):p_law34_ScriptBack l b=some true:=by
 have hf:=fuel_pos
 unfold p_law34_ScriptBack
 rw [haw]
 by_cases h1:(10:Int) < (l.length:Int)
 ·rw [decide_eq_true h1];rfl
 by_cases h2:(300:Int) < (b.size:Int)
 ·rw [decide_eq_false h1,decide_eq_true h2];rfl
 rw [decide_eq_false h1,decide_eq_false h2]
 simp only [cond_false,Option.bind_some]
 rcases fine_l haw l (by omega) hd l.length 0 fuel [] (by omega) (by omega) (Nat.le_refl _) (fun s hs=>by cases hs) with e | ⟨fine,e,hg,hfl⟩
 ·have e' : p_law34_ScriptBack_l1 l fuel [] (0:Int)=_:=e
  rw [e'];rfl
 have e' : p_law34_ScriptBack_l1 l fuel [] (0:Int)=_:=e
 rw [e']
 simp only [Option.bind_some]
 have hel:=enc_len hg
 have j1:p_script_Join fine=some (⟨(encS fine).toArray⟩,0):=by
  unfold p_script_Join
  rw [if_pos (by omega),join_good hg (by simp;omega),List.nil_append]
 have hsz:(⟨(encS fine).toArray⟩ : ByteArray).size=(encS fine).length:=by show (encS fine).toArray.size=_;simp
 obtain ⟨y,ay⟩:=all_good fine fuel ⟨(encS fine).toArray⟩ [] hg rfl (by omega) (by omega) (by simp;omega)
 have a1:p_script_All ⟨(encS fine).toArray⟩=some (fine,0):=by unfold p_script_All;rw [ay];rfl
 have hk5:∀ s ∈ fine,0≤s.Kind∧s.Kind≤5:=fun s hs=>by
  obtain ⟨_,x,hx⟩:=hg s hs
  exact (putZ_pos hx).2.2
 rw [j1]
 simp only [Option.bind_some]
 rw [a1]
 simp only [Option.bind_some]
 rcases all_back 300 fuel b [] (by omega) (by decide) (by omega) (by simp) with ⟨o,y2,o1,o2,o3,o4⟩ | ⟨er,e0,o1⟩
 ·have a2:p_script_All b=some (o,0):=by unfold p_script_All;rw [o1];rfl
  have j2:p_script_Join o=some (b,0):=by
   have:=enc_len o2
   unfold p_script_Join
   rw [if_pos (by omega),join_good o2 (by simp;omega),List.nil_append,o3]
  rw [a2]
  simp only [Option.bind_some]
  rw [j2]
  simp only [Option.bind_some]
  rw [sum_l (by omega) hk5]
  simp only [Option.bind_some,z00,z0n,cond_true,cond_false,sback_p (show fine.length≤100000 by omega),ssame_p (show fine.length≤100000 by omega),eqT_refl,beq_self_eq_true]
 ·have a2:p_script_All b=some ([],er):=by unfold p_script_All;rw [o1];rfl
  have j2:p_script_Join []=some (⟨#[]⟩,0):=rfl
  rw [a2]
  simp only [Option.bind_some]
  rw [j2]
  simp only [Option.bind_some]
  rw [sum_l (by omega) hk5]
  simp only [Option.bind_some,z00,cond_true,sback_p (show fine.length≤100000 by omega),ssame_p (show fine.length≤100000 by omega),beq_self_eq_true,show (er != (0:Int))=true from bne_iff_ne.2 e0]
end Go.Proofs.YtbimgghogflikaaGreatDoor

namespace Go.Proofs.YtbimgghogflikaaGreatDoor
open Go.RowKit
theorem scriptBack_wf (l:List BrokerStep) (b:ByteArray) (h:∀ x ∈ l,BrokerStep.Wf x):p_law34_ScriptBack l b=some true :=
 scriptBack_pure p_law34_awake_true l b fun s hs=>bounds_u8 (h s hs).Kind
end Go.Proofs.YtbimgghogflikaaGreatDoor

namespace Go.Proofs.YtbimgghogflikaaGreatDoor
open Go.RowKit
set_option maxRecDepth 1000000
set_option maxHeartbeats 4000000
def gc5:BCode:=(.seq (R_ 0 [O_ 4 (.mv (b_ false)) 0]) (.join (.seq (R_ 0 [O_ 19 (.mv (t_ 0)) 0,O_ 20 (.lens (t_ 19)) 0,O_ 21 (.bin .gtr (t_ 20) (i_ 10)) 0,O_ 22 (.mv (t_ 21)) 0,⟨(some 23),.mv (t_ 1),(some (22,false)),0⟩,⟨(some 24),.lent (t_ 23),(some (22,false)),0⟩,⟨(some 25),.bin .gtr (t_ 24) (i_ 300),(some (22,false)),0⟩,O_ 26 (.pick (t_ 22) (b_ true) (t_ 25)) 0]) (.cond (t_ 26) (.seq (R_ 0 [O_ 27 (.cl 6 []) 0,O_ 4 (.mv (t_ 27)) 0]) .ret) .skip)) (.seq (R_ 0 [O_ 5 (.mv (.const (.slice none 0 0))) 0]) (.seq (.seq (R_ 0 [O_ 6 (.mv (i_ 0)) 0]) (.block 0 (.loop (.seq (.seq (R_ 0 [O_ 28 (.mv (t_ 6)) 0,O_ 29 (.mv (t_ 0)) 0,O_ 30 (.lens (t_ 29)) 0,O_ 31 (.bin .lss (t_ 28) (t_ 30)) 0]) (.cond (t_ 31) .skip (.exit 0))) (.seq (.block 1 (.seq (.seq (R_ 0 [O_ 34 (.mv (t_ 0)) 0,O_ 35 (.mv (t_ 6)) 0,O_ 36 (.ixs 4 (t_ 34) (t_ 35)) 0,O_ 37 (.fa 3 (t_ 36)) 0,O_ 38 (.ld 1 false (t_ 37)) 0,O_ 39 (.lent (t_ 38)) 0,O_ 40 (.bin .gtr (t_ 39) (i_ 300)) 0]) (.cond (t_ 40) (.seq (R_ 0 [O_ 41 (.cl 6 []) 0,O_ 4 (.mv (t_ 41)) 0]) .ret) .skip)) (.seq (R_ 0 [O_ 43 (.mv (t_ 0)) 0,O_ 44 (.mv (t_ 6)) 0,O_ 45 (.ixs 4 (t_ 43) (t_ 44)) 0,O_ 46 (.ld 4 true (t_ 45)) 0,O_ 47 (.cl 14 [(t_ 46)]) 0,O_ 42 (.mv (t_ 47)) 0,O_ 48 (.ex (t_ 42) 0) 0,O_ 49 (.ex (t_ 42) 1) 0,O_ 7 (.mv (t_ 48)) 0,O_ 8 (.mv (t_ 49)) 0]) (.seq (R_ 0 [O_ 50 (.mv (t_ 8)) 0,O_ 51 (.bin .eql (t_ 50) (i_ 0)) 0]) (.cond (t_ 51) (R_ 2 [O_ 52 (.mv (t_ 5)) 0,O_ 53 (.mv (t_ 0)) 0,O_ 54 (.mv (t_ 6)) 0,O_ 55 (.ixs 4 (t_ 53) (t_ 54)) 0,O_ 56 (.ld 4 true (t_ 55)) 0,O_ 57 (.bs 4 1 [(.lit (.int .u8 0)),(.lit (.int .i64 0)),(.lit (.int .i64 0)),(.lit (.string ⟨#[]⟩))] [(0,(t_ 56))]) 0,O_ 58 (.ap 4 40 (t_ 52) (t_ 57)) 1,O_ 5 (.mv (t_ 58)) 2]) .skip))))) (R_ 0 [O_ 32 (.mv (t_ 6)) 0,O_ 33 (.bin .add (t_ 32) (i_ 1)) 0,O_ 6 (.mv (t_ 33)) 0])))))) (.seq (R_ 0 [O_ 60 (.mv (t_ 5)) 0,O_ 61 (.cl 18 [(t_ 60)]) 0,O_ 59 (.mv (t_ 61)) 0,O_ 62 (.ex (t_ 59) 0) 0,O_ 63 (.ex (t_ 59) 1) 0,O_ 9 (.mv (t_ 62)) 0,O_ 10 (.mv (t_ 63)) 0]) (.seq (R_ 0 [O_ 65 (.mv (t_ 9)) 0,O_ 66 (.cl 9 [(t_ 65)]) 0,O_ 64 (.mv (t_ 66)) 0,O_ 67 (.ex (t_ 64) 0) 0,O_ 68 (.ex (t_ 64) 1) 0,O_ 11 (.mv (t_ 67)) 0,O_ 12 (.mv (t_ 68)) 0]) (.seq (R_ 0 [O_ 70 (.mv (t_ 1)) 0,O_ 71 (.cl 9 [(t_ 70)]) 0,O_ 69 (.mv (t_ 71)) 0,O_ 72 (.ex (t_ 69) 0) 0,O_ 73 (.ex (t_ 69) 1) 0,O_ 13 (.mv (t_ 72)) 0,O_ 14 (.mv (t_ 73)) 0]) (.seq (R_ 0 [O_ 75 (.mv (t_ 13)) 0,O_ 76 (.cl 18 [(t_ 75)]) 0,O_ 74 (.mv (t_ 76)) 0,O_ 77 (.ex (t_ 74) 0) 0,O_ 78 (.ex (t_ 74) 1) 0,O_ 15 (.mv (t_ 77)) 0,O_ 16 (.mv (t_ 78)) 0]) (.seq (R_ 0 [O_ 17 (.mv (i_ 0)) 0]) (.seq (.seq (R_ 0 [O_ 18 (.mv (.const (.int .u8 0))) 0]) (.block 2 (.loop (.seq (.seq (R_ 0 [O_ 79 (.mv (t_ 18)) 0,O_ 80 (.bin .lss (t_ 79) (.const (.int .u8 6))) 0]) (.cond (t_ 80) .skip (.exit 2))) (.seq (.block 3 (R_ 0 [O_ 83 (.mv (t_ 17)) 0,O_ 84 (.mv (t_ 5)) 0,O_ 85 (.mv (t_ 18)) 0,O_ 86 (.cl 25 [(t_ 84),(t_ 85)]) 0,O_ 87 (.bin .add (t_ 83) (t_ 86)) 0,O_ 17 (.mv (t_ 87)) 0])) (R_ 0 [O_ 81 (.mv (t_ 18)) 0,O_ 82 (.bin .add (t_ 81) (.const (.int .u8 1))) 0,O_ 18 (.mv (t_ 82)) 0])))))) (.seq (R_ 0 [O_ 88 (.mv (t_ 10)) 0,O_ 89 (.bin .eql (t_ 88) (i_ 0)) 0,O_ 90 (.mv (t_ 89)) 0,⟨(some 91),.mv (t_ 12),(some (90,true)),0⟩,⟨(some 92),.bin .eql (t_ 91) (i_ 0),(some (90,true)),0⟩,O_ 93 (.pick (t_ 90) (t_ 92) (b_ false)) 0,O_ 94 (.mv (t_ 93)) 0,⟨(some 95),.mv (t_ 11),(some (94,true)),0⟩,⟨(some 96),.cl 12 [(t_ 95)],(some (94,true)),0⟩,⟨(some 97),.mv (t_ 5),(some (94,true)),0⟩,⟨(some 98),.cl 12 [(t_ 97)],(some (94,true)),0⟩,⟨(some 99),.cl 11 [(t_ 96),(t_ 98)],(some (94,true)),0⟩,O_ 100 (.pick (t_ 94) (t_ 99) (b_ false)) 0,O_ 101 (.mv (t_ 100)) 0,⟨(some 102),.mv (t_ 14),(some (101,true)),0⟩,⟨(some 103),.bin .neq (t_ 102) (i_ 0),(some (101,true)),0⟩,⟨(some 104),.mv (t_ 103),(some (101,true)),0⟩,⟨(some 105),.mv (t_ 16),(some (104,false)),0⟩,⟨(some 106),.bin .eql (t_ 105) (i_ 0),(some (104,false)),0⟩,⟨(some 107),.mv (t_ 106),(some (104,false)),0⟩,⟨(some 108),.mv (t_ 15),(some (107,true)),0⟩,⟨(some 109),.mv (t_ 1),(some (107,true)),0⟩,⟨(some 110),.bin .eql (t_ 108) (t_ 109),(some (107,true)),0⟩,⟨(some 111),.pick (t_ 107) (t_ 110) (b_ false),(some (104,false)),0⟩,⟨(some 112),.pick (t_ 104) (b_ true) (t_ 111),(some (101,true)),0⟩,O_ 113 (.pick (t_ 101) (t_ 112) (b_ false)) 0,O_ 114 (.mv (t_ 113)) 0,⟨(some 115),.mv (t_ 17),(some (114,true)),0⟩,⟨(some 116),.mv (t_ 5),(some (114,true)),0⟩,⟨(some 117),.lens (t_ 116),(some (114,true)),0⟩,⟨(some 118),.bin .eql (t_ 115) (t_ 117),(some (114,true)),0⟩,O_ 119 (.pick (t_ 114) (t_ 118) (b_ false)) 0,O_ 120 (.mv (t_ 119)) 0,⟨(some 121),.cl 6 [],(some (120,true)),0⟩,O_ 122 (.pick (t_ 120) (t_ 121) (b_ false)) 0,O_ 4 (.mv (t_ 122)) 0]) .ret)))))))))))
theorem gc5_ok:compF Tryz.prog Tryz.f5=some (gc5.er,123,[.tmp 4]):=by unfold gc5;kernel_rfl
theorem p_law34_ScriptBack_v {u1:Bool} (a0:List BrokerStep) (a1:ByteArray):CallsO Tryz.prog 5 [.sl (List.map BrokerStep.v a0) u1,.s a1] V.b (tru? (p_law34_ScriptBack a0 a1)):=by
 refine callsO_comp mix Tryz.func5 gc5_ok fun r H=>?_
 have H1:=tru_of H
 clear H
 obtain ⟨rfl,H⟩:=H1
 rw [p_law34_ScriptBack] at H
 conv=>whnf
 obtain ⟨K1,hK2,o3,HL4,HQ5⟩:=join0_c H
 refine join_c [4] [19,20,21,22,23,24,25,26,27] (fun vals st=>(K1 (.inr ())=some true∧vals=[.b false]∧st=[])) ?_ ?_
 ·have H:=HL4
  conv=>whnf
  refine LenQ.M ?_;conv=>whnf
  refine tst_c H (fun b7 H=>?_) (fun b7 H=>?_)
  ·conv=>whnf
   iterate 4 (refine Tst.T ?_;conv=>whnf)
   refine ask_c (p_law34_awake_v) H rfl rfl (fun v8 H=>?_);conv=>whnf
   obtain rfl:=Option.some.inj H
   have H:=HQ5
   rw [hK2] at H
   try dsimp only at H
   exact fb_ H
  conv=>whnf
  iterate 3 (refine Tst.F ?_;conv=>whnf)
  refine tst_d H (fun b9 H=>?_) (fun b9 H=>?_)
  ·conv=>whnf
   obtain rfl:=Option.some.inj H
   exact arrive_c [19,20,21,22,23,24,25,26,27] 0 [] (⟨HQ5,rfl,rfl⟩) (Nat.zero_le _) rfl (by kernel_rfl) (by kernel_rfl) rfl trivial
  conv=>whnf
  refine ask_c (p_law34_awake_v) H rfl rfl (fun v10 H=>?_);conv=>whnf
  obtain rfl:=Option.some.inj H
  have H:=HQ5
  rw [hK2] at H
  try dsimp only at H
  exact fb_ H
 rintro _ _ (⟨H,rfl,rfl⟩)
 rw [hK2] at H
 try dsimp only at H
 conv=>whnf
 obtain ⟨o12,HL13,HQ14⟩:=bind_c H
 refine loop_c [4,5,6] [7,8,28,29,30,31,32,33,34,35,36,37,38,39,40,41,42,43,44,45,46,47,48,49,50,51,52,53,54,55,56,57,58] [7,8,28,29,30,31,32,33,34,35,36,37,38,39,40,41,42,43,44,45,46,47,48,49,50,51,52,53,54,55,56,57,58] (fun n vals st=>(∃ y16,p_law34_ScriptBack_l1  a0 n [] y16=some o12∧vals=[.b false,.sl (List.map BrokerStep.v []) true,.i y16]∧st=[])∨(∃ y26 y27,p_law34_ScriptBack_l1  a0 n y26 y27=some o12∧vals=[.b false,.osl 0 0 (List.length y26) 4 false,.i y27]∧st=[.live (cellsM BrokerStep.v y26) (cellsM BrokerStep.v y26).length])) fuel 0 [] (.inl (⟨_,HL13,rfl,rfl⟩)) (Nat.zero_le _) rfl (by kernel_rfl) (by kernel_rfl) rfl trivial ?_
 rintro (_ | n15) _ _ (⟨y16,H,rfl,rfl⟩ | ⟨y26,y27,H,rfl,rfl⟩)
 ·rw [p_law34_ScriptBack_l1] at H;cases H
 ·rw [p_law34_ScriptBack_l1] at H;cases H
 ·rw [p_law34_ScriptBack_l1] at H
  conv=>whnf
  refine LenQ.M ?_;conv=>whnf
  refine tst_c H (fun b17 H=>?_) (fun b17 H=>?_)
  ·conv=>whnf
   refine ixs_c (f:=BrokerStep.v) H (fun _=>rfl) (fun x18 H=>?_);conv=>whnf
   refine lq_ ?_;conv=>whnf
   refine tst_c H (fun b19 H=>?_) (fun b19 H=>?_)
   ·conv=>whnf
    refine ask_c (p_law34_awake_v) H rfl rfl (fun v20 H=>?_);conv=>whnf
    obtain rfl:=Option.some.inj H
    have H:=HQ14
    try dsimp only at H
    exact fb_ H
   conv=>whnf
   refine ixs_c (f:=BrokerStep.v) H (fun _=>rfl) (fun x21 H=>?_);conv=>whnf
   refine ask_c (p_script_Put_v _) H rfl rfl (fun v22 H=>?_);conv=>whnf
   refine tst_d H (fun b23 H=>?_) (fun b23 H=>?_)
   ·conv=>whnf
    refine Ari.w ?_;conv=>whnf
    exact again_c [7,8,28,29,30,31,32,33,34,35,36,37,38,39,40,41,42,43,44,45,46,47,48,49,50,51,52,53,54,55,56,57,58] n15 0 [] (.inl (⟨_,H,rfl,rfl⟩)) (Nat.lt_succ_self _) (Nat.zero_le _) rfl (by kernel_rfl) (by kernel_rfl) rfl trivial
   conv=>whnf
   refine ixs_c (f:=BrokerStep.v) H (fun _=>rfl) (fun x24 H=>?_);conv=>whnf
   refine appN_c (f:=BrokerStep.v) H (fun _=>rfl) (srcM (f:=BrokerStep.v) (fun _=>rfl) [] true) rfl (.v (srcOwn (f:=BrokerStep.v) (l:=[x24]) (fun _=>rfl) rfl rfl rfl)) (by decide) rfl (by simp) (fun l25 H=>?_);conv=>whnf
   refine Ari.w ?_;conv=>whnf
   exact again_c [7,8,28,29,30,31,32,33,34,35,36,37,38,39,40,41,42,43,44,45,46,47,48,49,50,51,52,53,54,55,56,57,58] n15 1 [1] (.inr (⟨_,_,H,rfl,rfl⟩)) (Nat.lt_succ_self _) (Nat.zero_le _) rfl (by kernel_rfl) (by kernel_rfl) rfl (wkB_live0 rfl (cellsM_idlt (f:=BrokerStep.v) (fun _=>rfl) _) rfl trivial)
  conv=>whnf
  obtain rfl:=Option.some.inj H
  have H:=HQ14
  try dsimp only at H
  refine ask_c (p_script_Join_v _) H rfl rfl (fun v28 H=>?_);conv=>whnf
  refine ask_c (p_script_All_v _) H rfl rfl (fun v29 H=>?_);conv=>whnf
  refine ask_c (p_script_All_v _) H rfl rfl (fun v30 H=>?_);conv=>whnf
  refine ask_c (p_script_Join_v _) H rfl rfl (fun v31 H=>?_);conv=>whnf
  obtain ⟨o33,HL34,HQ35⟩:=bind_c H
  refine loop_c [17,18] [79,80,81,82,83,84,85,86,87] [79,80,81,82,83,84,85,86,87] (fun n vals st=>(∃ y37 y38,p_law34_ScriptBack_l2  [] n y37 y38=some o33∧vals=[.i y37,.y8 y38]∧st=[])) fuel 0 [] (⟨_,_,HL34,rfl,rfl⟩) (Nat.zero_le _) rfl (by kernel_rfl) (by kernel_rfl) rfl trivial ?_
  rintro (_ | n36) _ _ (⟨y37,y38,H,rfl,rfl⟩)
  ·rw [p_law34_ScriptBack_l2] at H;cases H
  rw [p_law34_ScriptBack_l2] at H
  conv=>whnf
  refine tst_c H (fun b39 H=>?_) (fun b39 H=>?_)
  ·conv=>whnf
   refine ask_c (p_script_Count_v _ _) H rfl rfl (fun v40 H=>?_);conv=>whnf
   iterate 2 (refine Ari.w ?_;conv=>whnf)
   exact again_c [79,80,81,82,83,84,85,86,87] n36 0 [] (⟨_,_,H,rfl,rfl⟩) (Nat.lt_succ_self _) (Nat.zero_le _) rfl (by kernel_rfl) (by kernel_rfl) rfl trivial
  conv=>whnf
  obtain rfl:=Option.some.inj H
  have H:=HQ35
  try dsimp only at H
  refine tstT_c H (fun b41 H=>?_);conv=>whnf
  iterate 2 (refine Tst.T ?_;conv=>whnf)
  refine tstT_c H (fun b42 H=>?_);conv=>whnf
  refine Tst.T ?_;conv=>whnf
  refine ask_c (p_law34_back_v _) H rfl rfl (fun v43 H=>?_);conv=>whnf
  iterate 2 (refine Tst.T ?_;conv=>whnf)
  refine ask_c (p_law34_back_v _) H rfl rfl (fun v44 H=>?_);conv=>whnf
  refine Tst.T ?_;conv=>whnf
  refine ask_c (p_ref34_SameSteps_v _ _) H rfl rfl (fun v45 H=>?_);conv=>whnf
  refine Tst.T ?_;conv=>whnf
  refine tstT_c H (fun b46 H=>?_);conv=>whnf
  iterate 2 (refine Tst.T ?_;conv=>whnf)
  refine tst_c H (fun b47 H=>?_) (fun b47 H=>?_)
  ·conv=>whnf
   iterate 9 (refine Tst.T ?_;conv=>whnf)
   refine LenQ.ok ?_;conv=>whnf
   iterate 2 (refine Tst.T ?_;conv=>whnf)
   refine tstT_c H (fun b48 H=>?_);conv=>whnf
   refine ask_c (p_law34_awake_v) H rfl rfl (fun v49 H=>?_);conv=>whnf
   refine Tst.T ?_;conv=>whnf
   exact fb_ H
  conv=>whnf
  iterate 2 (refine Tst.F ?_;conv=>whnf)
  refine tstT_c H (fun b50 H=>?_);conv=>whnf
  iterate 2 (refine Tst.T ?_;conv=>whnf)
  refine Tst.F ?_;conv=>whnf
  iterate 2 (refine Tst.T ?_;conv=>whnf)
  refine Tst.F ?_;conv=>whnf
  refine Tst.T ?_;conv=>whnf
  refine tstT_c H (fun b51 H=>?_);conv=>whnf
  iterate 2 (refine Tst.T ?_;conv=>whnf)
  refine LenQ.ok ?_;conv=>whnf
  iterate 2 (refine Tst.T ?_;conv=>whnf)
  refine tstT_c H (fun b52 H=>?_);conv=>whnf
  refine ask_c (p_law34_awake_v) H rfl rfl (fun v53 H=>?_);conv=>whnf
  refine Tst.T ?_;conv=>whnf
  exact fb_ H
 rw [p_law34_ScriptBack_l1] at H
 conv=>whnf
 refine LenQ.M ?_;conv=>whnf
 refine tst_c H (fun b54 H=>?_) (fun b54 H=>?_)
 ·conv=>whnf
  refine ixs_c (f:=BrokerStep.v) H (fun _=>rfl) (fun x55 H=>?_);conv=>whnf
  refine lq_ ?_;conv=>whnf
  refine tst_c H (fun b56 H=>?_) (fun b56 H=>?_)
  ·conv=>whnf
   refine ask_c (p_law34_awake_v) H rfl rfl (fun v57 H=>?_);conv=>whnf
   obtain rfl:=Option.some.inj H
   have H:=HQ14
   try dsimp only at H
   exact fb_ H
  conv=>whnf
  refine ixs_c (f:=BrokerStep.v) H (fun _=>rfl) (fun x58 H=>?_);conv=>whnf
  refine ask_c (p_script_Put_v _) H rfl rfl (fun v59 H=>?_);conv=>whnf
  refine tst_d H (fun b60 H=>?_) (fun b60 H=>?_)
  ·conv=>whnf
   refine Ari.w ?_;conv=>whnf
   exact again_c [7,8,28,29,30,31,32,33,34,35,36,37,38,39,40,41,42,43,44,45,46,47,48,49,50,51,52,53,54,55,56,57,58] n15 1 [] (.inr (⟨_,_,H,rfl,rfl⟩)) (Nat.lt_succ_self _) (Nat.zero_le _) rfl (by kernel_rfl) (by kernel_rfl) rfl (wkB_live0 rfl (cellsM_idlt (f:=BrokerStep.v) (fun _=>rfl) _) rfl trivial)
  conv=>whnf
  refine ixs_c (f:=BrokerStep.v) H (fun _=>rfl) (fun x61 H=>?_);conv=>whnf
  refine appO_c (f:=BrokerStep.v) H (fun _=>rfl) rfl (Nat.le_refl _) (.v (srcOwn (f:=BrokerStep.v) (l:=[x61]) (fun _=>rfl) rfl rfl rfl)) (by decide) rfl (by simp) (fun l62 H=>?_);conv=>whnf
  refine Ari.w ?_;conv=>whnf
  exact again_c [7,8,28,29,30,31,32,33,34,35,36,37,38,39,40,41,42,43,44,45,46,47,48,49,50,51,52,53,54,55,56,57,58] n15 1 [2] (.inr (⟨_,_,H,rfl,rfl⟩)) (Nat.lt_succ_self _) (Nat.zero_le _) rfl (by kernel_rfl) (by kernel_rfl) rfl (wkB_live0 rfl (cellsM_idlt (f:=BrokerStep.v) (fun _=>rfl) _) rfl trivial)
 conv=>whnf
 obtain rfl:=Option.some.inj H
 have H:=HQ14
 try dsimp only at H
 refine askF_c (p_script_Join_v _) H (.cons (.c (fzown (f:=BrokerStep.v) (l:=y26) rfl rfl (fun _=>rfl) (fun _=>rfl))) (.nil)) (fun v63 H=>?_);conv=>whnf
 refine ask_c (p_script_All_v _) H rfl rfl (fun v64 H=>?_);conv=>whnf
 refine ask_c (p_script_All_v _) H rfl rfl (fun v65 H=>?_);conv=>whnf
 refine ask_c (p_script_Join_v _) H rfl rfl (fun v66 H=>?_);conv=>whnf
 obtain ⟨o68,HL69,HQ70⟩:=bind_c H
 refine loop_c [17,18] [79,80,81,82,83,84,85,86,87,60] [79,80,81,82,83,84,85,86,87,60] (fun n vals st=>(∃ y72 y73,p_law34_ScriptBack_l2  y26 n y72 y73=some o68∧vals=[.i y72,.y8 y73]∧st=[.live (cellsM BrokerStep.v y26) (cellsM BrokerStep.v y26).length])) fuel 1 [] (⟨_,_,HL69,rfl,rfl⟩) (Nat.zero_le _) rfl (by kernel_rfl) (by kernel_rfl) rfl (wkB_live0 rfl (cellsM_idlt (f:=BrokerStep.v) (fun _=>rfl) _) rfl trivial) ?_
 rintro (_ | n71) _ _ (⟨y72,y73,H,rfl,rfl⟩)
 ·rw [p_law34_ScriptBack_l2] at H;cases H
 rw [p_law34_ScriptBack_l2] at H
 conv=>whnf
 refine tst_c H (fun b74 H=>?_) (fun b74 H=>?_)
 ·conv=>whnf
  refine askF_c (p_script_Count_v _ _) H (.cons (.c (fzown (f:=BrokerStep.v) (l:=y26) rfl rfl (fun _=>rfl) (fun _=>rfl))) (.cons (.c (.id rfl)) (.nil))) (fun v75 H=>?_);conv=>whnf
  iterate 2 (refine Ari.w ?_;conv=>whnf)
  exact again_c [79,80,81,82,83,84,85,86,87,60] n71 1 [] (⟨_,_,H,rfl,rfl⟩) (Nat.lt_succ_self _) (Nat.zero_le _) rfl (by kernel_rfl) (by kernel_rfl) rfl (wkB_live0 rfl (cellsM_idlt (f:=BrokerStep.v) (fun _=>rfl) _) rfl trivial)
 conv=>whnf
 obtain rfl:=Option.some.inj H
 have H:=HQ70
 try dsimp only at H
 refine tstT_c H (fun b76 H=>?_);conv=>whnf
 iterate 2 (refine Tst.T ?_;conv=>whnf)
 refine tstT_c H (fun b77 H=>?_);conv=>whnf
 refine Tst.T ?_;conv=>whnf
 refine ask_c (p_law34_back_v _) H rfl rfl (fun v78 H=>?_);conv=>whnf
 iterate 2 (refine Tst.T ?_;conv=>whnf)
 refine askF_c (p_law34_back_v _) H (.cons (.c (fzown (f:=BrokerStep.v) (l:=y26) rfl rfl (fun _=>rfl) (fun _=>rfl))) (.nil)) (fun v79 H=>?_);conv=>whnf
 refine Tst.T ?_;conv=>whnf
 refine ask_c (p_ref34_SameSteps_v _ _) H rfl rfl (fun v80 H=>?_);conv=>whnf
 refine Tst.T ?_;conv=>whnf
 refine tstT_c H (fun b81 H=>?_);conv=>whnf
 iterate 2 (refine Tst.T ?_;conv=>whnf)
 refine tst_c H (fun b82 H=>?_) (fun b82 H=>?_)
 ·conv=>whnf
  iterate 11 (refine Tst.T ?_;conv=>whnf)
  refine tstT_c H (fun b83 H=>?_);conv=>whnf
  refine ask_c (p_law34_awake_v) H rfl rfl (fun v84 H=>?_);conv=>whnf
  refine Tst.T ?_;conv=>whnf
  exact fb_ H
 conv=>whnf
 iterate 2 (refine Tst.F ?_;conv=>whnf)
 refine tstT_c H (fun b85 H=>?_);conv=>whnf
 iterate 2 (refine Tst.T ?_;conv=>whnf)
 refine Tst.F ?_;conv=>whnf
 iterate 2 (refine Tst.T ?_;conv=>whnf)
 refine Tst.F ?_;conv=>whnf
 refine Tst.T ?_;conv=>whnf
 refine tstT_c H (fun b86 H=>?_);conv=>whnf
 iterate 4 (refine Tst.T ?_;conv=>whnf)
 refine tstT_c H (fun b87 H=>?_);conv=>whnf
 refine ask_c (p_law34_awake_v) H rfl rfl (fun v88 H=>?_);conv=>whnf
 refine Tst.T ?_;conv=>whnf
 exact fb_ H
end Go.Proofs.YtbimgghogflikaaGreatDoor

namespace Go.Proofs.YtbimgghogflikaaGreatDoor
open Go
theorem returnsInHanded_laid {H:Type} {enc:TypeId × Value→H} {a:Assume} {C:Checked} {os:Os} {f:FuncId} {fn:Func} {s:ChangeSpec} {conds:List PathCond} {apart fresh handsOn again:Bool} {X:World→Array Value→Prop}
  (hX:∀ (w w' : World) (args:Array Value),w.heap=w'.heap→X w args→X w' args)
  (own:ownKnob C.prog.godebug=none) (started:os.Started) (noInit:C.prog.inits.idxOf? f=none) (hfn:C.prog.funcs[f]?=some fn)
  (witness:∃ (w:World) (tape:Tape) (i:Input),w.os=os∧(w.forCall tape i).Shaped C.prog∧i.vars=[]∧Input.okWide C.prog (w.forCall tape i) .any w.heap.size f i ∧
   ((s.pre enc C.prog fn conds apart (w.forCall tape i).memory i.args∧X (w.forCall tape i).memory i.args)∧sizedMet enc C.prog fn (OpenSpec.ofChange s) apart (w.forCall tape i).memory i.args)∧a.holds C.prog (lone (Frame.enter C.prog f i.args .normal) [] (w.forCall tape i)))
  (contract:∀ (W:World) (base:Nat) (args:Array Value) (ds gs:List (DataW H)) (before:List MemPlace),
   (∀ (j:Nat) t v,fn.params[j]?=some t→args[j]?=some v→Value.okWide C.prog W .any base t v) →
   DataW.Whole enc C.prog fn.params.toList s.vars apart W args.toList ds gs before →
   conds.all (PathCond.test C.prog ⟨fn.params.toList,ds,s.plain.varTypes C.prog,gs⟩)=true →
   X W args→W.ShapedOpen C.prog →
   Calls C.prog f args W fun e W'=>∃ v,e=.returned v∧s.post enc C.prog fn apart fresh handsOn again W args v W') :
  ReturnsInHanded a C os f .any (fun w args=>(s.pre enc C.prog fn conds apart w args∧X w args)∧sizedMet enc C.prog fn (OpenSpec.ofChange s) apart w args) (s.post enc C.prog fn apart fresh handsOn again):=by
 refine returnsInHanded_of_calls own started noInit witness ?_
 intro w tape i _ hsh _ hok hpre hholds
 obtain ⟨_,_,_,fn',hfn',_,_,_,_,hval⟩:=hok
 have e:fn'=fn:=Option.some.inj (hfn'.symm.trans hfn)
 subst e
 obtain ⟨⟨⟨ds,gs,before,hw,hc⟩,hx⟩,hz⟩:=hpre
 have hw':=DataW.Whole.of_heap (w':=w.forCall tape i) (by rfl) hw
 refine (contract (w.forCall tape i) w.heap.size i.args ds gs before hval hw' hc (hX _ _ _ (by rfl) hx) hsh).mono fun e W' ⟨v,he,hp⟩=>?_
 subst he
 exact ChangeSpec.post_blind hp
end Go.Proofs.YtbimgghogflikaaGreatDoor

namespace Go.Proofs.YtbimgghogflikaaGreatDoor
open Go.ChangeShapes Go.WideShapes Go.ChangeAt Go.RowKit Go.Joins Go.Deep
theorem scriptBack_named:Tryz.pinned.checked.prog.funcNamed Rows.scriptBackRow.func=some 5:=by kernel_rfl
theorem scriptBack_closed:joinedFacts Tryz.pinned.checked.prog 5 Tryz.f5 Rows.scriptBackSpec Rows.scriptBackRow=true:=by kernel_rfl
end Go.Proofs.YtbimgghogflikaaGreatDoor

namespace Go.Proofs.YtbimgghogflikaaGreatDoor
open Go.ChangeShapes Go.WideShapes Go.ChangeAt Go.RowKit Go.Joins Go.Deep
theorem scriptBack_door (os:Os) (args:Array Value):laidMetH Tryz.prog Rows.scriptBackRow.laid ((World.doorLaid Tryz.prog 400 os).forCall (fun _ _=>0) ⟨#[],args,[]⟩).memory :=
 laidMetH_of_parts3 (fuel:=8) (laidMet_of_run' 8 (by kernel_rfl) (by kernel_rfl)) (by kernel_rfl) (by kernel_rfl)
set_option maxRecDepth 100000 in
theorem scriptBack_lifted (os:Os) (started:os.Started) (H:Type) (enc:TypeId × Value→H) :
  ReturnsInHanded {} Tryz.checked os 5 .any (fun w args=>(Rows.scriptBackSpec.pre enc Tryz.prog Tryz.f5 Rows.scriptBackRow.domain false w args∧laidMetH Tryz.prog Rows.scriptBackRow.laid w)∧sizedMet enc Tryz.prog Tryz.f5 (OpenSpec.ofChange Rows.scriptBackSpec) false w args) (Rows.scriptBackSpec.post enc Tryz.prog Tryz.f5 false true false false):=by
 refine returnsInHanded_laid (C:=Tryz.checked) (X:=fun w _=>laidMetH Tryz.prog Rows.scriptBackRow.laid w) (fun _ _ _ hh h=>h.of_heap hh) own0 started (by kernel_rfl) Tryz.func5
  (ChangeSpec.witness_shaped (enc:=enc) (C:=Tryz.checked) (os:=os) (X:=fun w _=>laidMetH Tryz.prog Rows.scriptBackRow.laid w) false (World.doorLaid Tryz.prog 400 os) #[.slice none 0 0,.string ⟨#[]⟩] 8 rfl (World.shaped_of_RefB (by kernel_rfl) (by kernel_rfl)) (by kernel_rfl) (by kernel_rfl) (by kernel_rfl) (scriptBack_door os _)) ?_
 intro W base args ds gs before hval0 hW hcnd hL hsh
 have hval:∀ (j:Nat) t v,Tryz.f5.params[j]?=some t→args[j]?=some v→Value.okWide Tryz.prog W .any base t v:=hval0
 have hW':=hW
 obtain ⟨p,q,hA0,hV,rfl,hfz,hnd⟩:=hW
 have hA:DataW.TrodAll enc Tryz.prog W 0 (fun _=>true) true Tryz.f5.params.toList args.toList ds p:=hA0
 rw [Tryz.params5] at hA hval
 have hA2:=hA
 obtain ⟨v0,v1,d0,d1,p0,p1,rfl,rfl,hp,h0,h1⟩:=trodAll_two hA
 obtain ⟨rfl,rfl⟩:=trodVars_none hV
 obtain ⟨fu0,hf0⟩:=h0
 obtain ⟨q0,l0,k0,rfl⟩:=okWide_slice Tryz.underlying34 (hval 0 _ v0 rfl rfl)
 obtain ⟨a0,w0,r0⟩:=rd_T34 hf0
 have hx0:Rep (MW W) noBk _ _:=r0.2 0 (by simp [Value.cells]) (by simp)
 obtain ⟨fu1,hf1⟩:=h1
 obtain ⟨q1,rfl⟩:=okWide_string Tryz.underlying9 (hval 1 _ v1 rfl rfl)
 obtain ⟨a1,r1⟩:=rd_string Tryz.underlying9 hf1
 have hx1:Rep (MW W) noBk _ _:=r1.2 0 (by simp [Value.cells]) (by simp)
 refine (rep_one (callsO_true (p_law34_ScriptBack_v a0 a1) (tru_ok (scriptBack_wf a0 a1 w0))) (maxLen_cell W hsh) (repAr2 hx0 hx1)).mono ?_
 rintro e W' ⟨rfl,bel⟩
 refine ⟨_,rfl,_,_,_,[],p,[],hW',?_,?_,?_,?_,?_⟩
 ·exact trodAll_mk1 (shut_bool Tryz.underlying4 true)
 ·exact trodAll_below laid0 bel (by
   intro t ht
   simp at ht
   rcases ht with rfl | rfl <;> exact ⟨by kernel_rfl,of_decide_eq_true (by kernel_rfl)⟩) hA2
 ·rfl
 ·exact bel.frame _
 ·exact fun h=>by cases h
theorem scriptBack_holds:Rows.ScriptBackSaid :=
 OpenClaim.holds_of_wide 5 Tryz.f5 rfl rfl rfl rfl rfl rfl rfl ⟨rfl,rfl,rfl,rfl,rfl⟩ rfl rfl rfl rfl rfl scriptBack_named Tryz.func5 scriptBack_closed
  (of_decide_eq_true (by kernel_rfl)) (by unfold Func.isWrapper;first | (rw [if_pos (by decide +kernel)];kernel_rfl) | (rw [if_neg (by decide +kernel)];exact ⟨rfl,rfl⟩))
  (fun os started H enc _=>scriptBack_lifted os started H enc)
#print axioms scriptBack_holds
theorem scriptBack_card_holds:Rows.ScriptBackCardSaid :=
 Claim7.holds_tied_plain_at .later [] [.data,.data,.data] true (true, "abeadf2c4bbb9f2e9949abc0bcfee45dd1f83af7222c4346bbfd8757d93b5057") false
  scriptBack_holds (fun _ h=>by cases h) (by kernel_rfl) (fun _ h=>by cases h) scriptBack_row_tie rfl ⟨rfl,rfl⟩ (by kernel_rfl) rfl
  (fun f fn hf hfn=>by
   obtain rfl:f=5:=Option.some.inj ((show Tryz.prog.funcNamed "callboy/callboylaw34.ScriptBack"=some 5 by kernel_rfl).symm.trans hf) |>.symm
   obtain rfl:fn=Tryz.f5:=(Option.some.inj (Tryz.func5.symm.trans hfn)).symm
   exact ⟨by kernel_rfl,fun j t ht=>by
    rw [Tryz.params5] at ht
    have hm:t ∈ [34,9]:=by simpa using Array.mem_of_getElem? ht
    have hall:([34,9].all fun u=>!Tryz.prog.wantsStandIn u)=true:=by kernel_rfl
    exact (show Tryz.prog.wantsStandIn t=false by simpa using List.all_eq_true.1 hall t hm)⟩)
  (by kernel_rfl)
#print axioms scriptBack_card_holds
end Go.Proofs.YtbimgghogflikaaGreatDoor

