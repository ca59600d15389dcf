/- ItemSorts: for every input the call returns true, and its arguments read as they did. -/
import Derived.Test.YtpmoioopjbfhkaaXaA11
import Derived.Test.YtpmoioopjbfhkaaXaA12
import Derived.Test.YtpmoioopjbfhkaaXaA14
import Derived.Test.YtpmoioopjbfhkaaXaA13
import Derived.Test.YtpmoioopjbfhkaaXaA10
import Derived.KernelRfl
import Derived.Test.YtpmoioopjbfhkaaRows
set_option linter.all false
/- Readers of ItemSorts's parameters. -/
namespace Go.Proofs.Ytpmoioopjbfhkaa
open Go.ChangeShapes Go.WideShapes Go.ChangeAt Go.RowKit Go.Joins Go.Deep
structure ItemItem.Wf (x:ItemItem):Prop where
 Sub:(Lit.int .i64 x.Sub).wf=true
 Ver:(Lit.int .i64 x.Ver).wf=true
set_option maxRecDepth 100000 in
theorem rd_T26 {H:Type} {enc:TypeId × Value→H} {W:World} {spare:Nat→Bool} {held:Bool} {fuel:Nat} {cs:List Value} {y:DataW H × List MemPlace} (h:DataW.trod enc Try.prog W 0 spare held fuel 26 cs=some y):∃ x:ItemItem,ItemItem.Wf x∧RepL (MW W) noBk cs [.s x.Contact,.s x.Name,.i x.Sub,.i x.Ver,.b x.Own]:=by
 obtain ⟨xs,n,_,_,hl,hx,hall⟩:=DataW.trod_struct Try.underlying26 h
 have hce:Try.prog.cellsOf 26=5:=by kernel_rfl
 rw [hce] at hl
 match cs,hl,hall with
 | [c0,c1,c2,c3,c4],_,hall =>
  obtain ⟨y0,hy0⟩:=get_some hx (show 0 < 5 by omega)
  have g0:DataW.trod enc Try.prog W 0 spare held n 9 [c0]=some y0:=by
   have hz:Try.prog.cellsOf 9=1:=by kernel_rfl
   have g:DataW.trod enc Try.prog W 0 spare held n 9 (([c0,c1,c2,c3,c4].drop 0).take (Try.prog.cellsOf 9))=some y0:=(hall 0 _ rfl).trans hy0
   rw [hz] at g;exact g
  obtain ⟨x0,r0⟩:=rd_string Try.underlying9 g0
  obtain ⟨y1,hy1⟩:=get_some hx (show 1 < 5 by omega)
  have g1:DataW.trod enc Try.prog W 0 spare held n 9 [c1]=some y1:=by
   have hz:Try.prog.cellsOf 9=1:=by kernel_rfl
   have g:DataW.trod enc Try.prog W 0 spare held n 9 (([c0,c1,c2,c3,c4].drop 1).take (Try.prog.cellsOf 9))=some y1:=(hall 1 _ rfl).trans hy1
   rw [hz] at g;exact g
  obtain ⟨x1,r1⟩:=rd_string Try.underlying9 g1
  obtain ⟨y2,hy2⟩:=get_some hx (show 2 < 5 by omega)
  have g2:DataW.trod enc Try.prog W 0 spare held n 3 [c2]=some y2:=by
   have hz:Try.prog.cellsOf 3=1:=by kernel_rfl
   have g:DataW.trod enc Try.prog W 0 spare held n 3 (([c0,c1,c2,c3,c4].drop 2).take (Try.prog.cellsOf 3))=some y2:=(hall 2 _ rfl).trans hy2
   rw [hz] at g;exact g
  obtain ⟨x2,w2,r2⟩:=rd_int Try.underlying3 g2
  obtain ⟨y3,hy3⟩:=get_some hx (show 3 < 5 by omega)
  have g3:DataW.trod enc Try.prog W 0 spare held n 3 [c3]=some y3:=by
   have hz:Try.prog.cellsOf 3=1:=by kernel_rfl
   have g:DataW.trod enc Try.prog W 0 spare held n 3 (([c0,c1,c2,c3,c4].drop 3).take (Try.prog.cellsOf 3))=some y3:=(hall 3 _ rfl).trans hy3
   rw [hz] at g;exact g
  obtain ⟨x3,w3,r3⟩:=rd_int Try.underlying3 g3
  obtain ⟨y4,hy4⟩:=get_some hx (show 4 < 5 by omega)
  have g4:DataW.trod enc Try.prog W 0 spare held n 4 [c4]=some y4:=by
   have hz:Try.prog.cellsOf 4=1:=by kernel_rfl
   have g:DataW.trod enc Try.prog W 0 spare held n 4 (([c0,c1,c2,c3,c4].drop 4).take (Try.prog.cellsOf 4))=some y4:=(hall 4 _ rfl).trans hy4
   rw [hz] at g;exact g
  obtain ⟨x4,r4⟩:=rd_bool Try.underlying4 g4
  exact ⟨⟨x0,x1,x2,x3,x4⟩,⟨w2,w3⟩,repL_app r0 (repL_app r1 (repL_app r2 (repL_app r3 (repL_app r4 (repL_nil)))))⟩
theorem rd_T22 {H:Type} {enc:TypeId × Value→H} {W:World} {spare:Nat→Bool} {held:Bool} {fuel:Nat} {cs:List Value} {y:DataW H × List MemPlace} (h:DataW.trod enc Try.prog W 0 spare held fuel 22 cs=some y):∃ x:List ItemItem,(∀ z ∈ x,ItemItem.Wf z)∧RepL (MW W) noBk cs [(fun l:List ItemItem=>V.sl (l.map ItemItem.v) false) x] :=
 rd_slice (f:=ItemItem.v) (es:=5) (wf:=ItemItem.Wf) Try.underlying22 (fun _=>rfl) (by intro a v hv;simp [V.cells] at hv;first | (subst hv;rfl) | (rcases hv with rfl | rfl | rfl | rfl | rfl <;> rfl)) (by omega) (by kernel_rfl) (fun n cs y h=>rd_T26 h) h
end Go.Proofs.Ytpmoioopjbfhkaa

/- Items, sorted: the program's sort and the document's in plain words. -/
namespace Go.Proofs.Ytpmoioopjbfhkaa
open Go.RowKit
def insR (x:ItemItem):List ItemItem→List ItemItem
 | []=>[x]
 | y :: ys=>if lessI x y then y :: insR x ys else x :: y :: ys
def sortR:List ItemItem→List ItemItem→List ItemItem
 | acc,[]=>acc
 | acc,x :: l=>sortR (insR x acc) l
def sortI (l:List ItemItem):List ItemItem:=(sortR [] l).reverse
theorem insR_len (x:ItemItem):∀ l,(insR x l).length=l.length + 1
 | []=>rfl
 | y :: ys=>by
  unfold insR
  split
  ·rw [List.length_cons,insR_len x ys,List.length_cons]
  ·rfl
theorem sortR_len:∀ (l acc:List ItemItem),(sortR acc l).length=acc.length + l.length
 | [],acc=>rfl
 | x :: l,acc=>by rw [sortR,sortR_len l,insR_len,List.length_cons];omega
theorem sortI_len (l:List ItemItem):(sortI l).length=l.length:=by unfold sortI;rw [List.length_reverse,sortR_len];simp
theorem set_mid {α:Type} (a:List α) (x y:α) (b:List α):(a++x :: b).set a.length y=a++y :: b:=by
 induction a with
 | nil=>rfl
 | cons c a ih=>simp [ih]
theorem get_mid {α:Type} (a:List α) (x:α) (b:List α):(a++x :: b)[a.length]?=some x:=by simp
theorem arr_mid {n:Nat} {a:List ItemItem} {x:ItemItem} {b:List ItemItem} (h:(a++x :: b).length=n):arr? n (a++x :: b) ((a.length:Nat):Int)=some x:=by
 unfold arr?
 rw [if_pos h,at_nat,get_mid]
theorem ins_l2 (a0:List ItemItem) (f:ItemItem→ItemItem→Option Int) (hf:∀ x y,∃ v,f x y=some v∧decide (v < 0)=lessI x y):∀ (ys:List ItemItem) (x:ItemItem) (post:List ItemItem) (F:Nat),ys.length < F→(ys.reverse++x :: post).length=a0.length→a0.length≤1000000 →
  ∃ k,p_slices_insertionSortCmpFunc_item_Item__l2 a0 f 0 F (ys.length:Int) (ys.reverse++x :: post)=some (k,(insR x ys).reverse++post)
 | [],x,post,F + 1,hF,hl,hn=>⟨0,by
  rw [p_slices_insertionSortCmpFunc_item_Item__l2];rfl⟩
 | y :: ys,x,post,F + 1,hF,hl,hn=>by
  have e1:(y :: ys).reverse++x :: post=ys.reverse++y :: (x :: post):=by simp
  have e2:((y :: ys).length:Int)=((ys.length + 1:Nat):Int):=by simp
  have hlen:(ys.reverse++y :: x :: post).length=a0.length:=by rw [← e1];exact hl
  have hlen' : (ys.reverse++[y]++x :: post).length=a0.length:=by rw [← hlen];simp
  have hyl:ys.length≤1000000:=by rw [List.length_append,List.length_reverse] at hlen;omega
  have hj:w64 (((ys.length + 1:Nat):Int) - 1)=((ys.reverse.length:Nat):Int):=by rw [w64_id (by omega),List.length_reverse];omega
  have a1:arr? a0.length (ys.reverse++y :: x :: post) ((ys.length + 1:Nat):Int)=some x:=by
   have:=arr_mid (a:=ys.reverse++[y]) (x:=x) (b:=post) hlen'
   rw [List.append_assoc] at this
   simpa using this
  have a2:arr? a0.length (ys.reverse++y :: x :: post) ((ys.reverse.length:Nat):Int)=some y:=arr_mid hlen
  obtain ⟨v,hv,hlt⟩:=hf x y
  rw [p_slices_insertionSortCmpFunc_item_Item__l2,e1,e2,show decide ((0:Int) < ((ys.length + 1:Nat):Int))=true by simp <;> omega,cond_true,hj,a1,a2]
  simp only [Option.bind_some,hv,hlt]
  unfold insR
  cases hb:lessI x y with
  | false =>
   simp only [cond_false,Bool.false_eq_true,if_false]
   exact ⟨((ys.length + 1:Nat):Int),by simp⟩
  | true =>
   simp only [cond_true,if_true]
   have t1:(((ys.length + 1:Nat):Int)).toNat=(ys.reverse++[y]).length:=by simp
   have s1:(ys.reverse++y :: x :: post).set (((ys.length + 1:Nat):Int)).toNat y=ys.reverse++y :: (y :: post):=by
    have:=set_mid (ys.reverse++[y]) x y post
    rw [List.append_assoc,List.append_assoc] at this
    rw [t1];exact this
   have hlen2:(ys.reverse++y :: y :: post).length=a0.length:=by rw [← hlen];simp
   rw [s1,arr_mid hlen2,Option.bind_some,Int.toNat_natCast,set_mid,List.length_reverse]
   obtain ⟨k,hk⟩:=ins_l2 a0 f hf ys x (y :: post) F (by simp at hF;omega) (by rw [← hlen];simp) hn
   exact ⟨k,by rw [hk];simp⟩
theorem ins_l1 (a0:List ItemItem) (f:ItemItem→ItemItem→Option Int) (hf:∀ x y,∃ v,f x y=some v∧decide (v < 0)=lessI x y) (hn:a0.length≤1000000):∀ (post acc:List ItemItem) (F:Nat),post.length < F→acc.length + post.length=a0.length →
  ∃ k,p_slices_insertionSortCmpFunc_item_Item__l1 a0 f 0 (a0.length:Int) F (acc.length:Int) (acc.reverse++post)=some (k,(sortR acc post).reverse)
 | [],acc,F + 1,hF,hl=>⟨(acc.length:Int),by
  rw [p_slices_insertionSortCmpFunc_item_Item__l1,lt_ff (by simp at hl;omega)]
  simp [sortR]⟩
 | x :: post,acc,F + 1,hF,hl=>by
  have hlt:acc.length < a0.length:=by simp at hl;omega
  obtain ⟨k,hk⟩:=ins_l2 a0 f hf acc x post fuel (by have:=fuel_pos;omega) (by simp at hl ⊢;omega) hn
  rw [p_slices_insertionSortCmpFunc_item_Item__l1,lt_tt hlt,cond_true,hk,Option.bind_some,w64_succ (by omega)]
  have:=ins_l1 a0 f hf hn post (insR x acc) F (by simp at hF;omega) (by rw [insR_len];simp at hl;omega)
  rw [insR_len] at this
  rw [sortR];exact this
theorem ins_p (l:List ItemItem) (f:ItemItem→ItemItem→Option Int) (hf:∀ x y,∃ v,f x y=some v∧decide (v < 0)=lessI x y) (hn:l.length≤1000000) (hl:l≠[]):p_slices_insertionSortCmpFunc_item_Item_ l 0 (l.length:Int) f=some (sortI l):=by
 obtain ⟨x,r,rfl⟩:=List.exists_cons_of_ne_nil hl
 obtain ⟨k,hk⟩:=ins_l1 (x :: r) f hf hn r [x] fuel (by have:=fuel_pos;simp at hn;omega) (by simp;omega)
 unfold p_slices_insertionSortCmpFunc_item_Item_
 show (p_slices_insertionSortCmpFunc_item_Item__l1 (x :: r) f 0 ((x :: r).length:Int) fuel 1 (x :: r)).bind _=_
 have hk2:p_slices_insertionSortCmpFunc_item_Item__l1 (x :: r) f 0 ((x :: r).length:Int) fuel 1 (x :: r)=some (k,(sortR [x] r).reverse):=hk
 rw [hk2];rfl
theorem ins_e (l:List ItemItem) (a b:Int) (f:ItemItem→ItemItem→Option Int) (h:b≤w64 (a + 1)):p_slices_insertionSortCmpFunc_item_Item_ l a b f=some l:=by
 unfold p_slices_insertionSortCmpFunc_item_Item_
 rw [show fuel=(fuel - 1) + 1 from rfl,p_slices_insertionSortCmpFunc_item_Item__l1,show decide (w64 (a + 1) < b)=false by simpa using h];rfl
theorem inG_ok {α β:Type} {n:Nat} {l:List α} {m:Option (List β)} {L:List β} (h1:l.length=n) (h2:m=some L) (h3:n=L.length):inG? n l m=some L:=by
 unfold inG?
 rw [if_pos h1,h2,Option.bind_some,if_pos h3]
theorem stable_p (l:List ItemItem) (f:ItemItem→ItemItem→Option Int) (hf:∀ x y,∃ v,f x y=some v∧decide (v < 0)=lessI x y) (hn:l.length≤20):p_slices_stableCmpFunc_item_Item_ l (l.length:Int) f=some (sortI l):=by
 unfold p_slices_stableCmpFunc_item_Item_
 have hl2:p_slices_stableCmpFunc_item_Item__l2 (l.length:Int) fuel 20=some 20:=by
  rw [show fuel=(fuel - 1) + 1 from rfl,p_slices_stableCmpFunc_item_Item__l2,show decide ((20:Int) < (l.length:Int))=false by simp;omega];rfl
 have hs:∀ m:List ItemItem,m.length≤20→p_slices_insertionSortCmpFunc_item_Item_ m 0 (m.length:Int) f=some (sortI m):=fun m hm=>by
  by_cases e:m=[]
  ·subst e;exact ins_e [] 0 0 f (by decide)
  ·exact ins_p m f hf (by omega) e
 by_cases h:l.length=20
 ·have h1:p_slices_stableCmpFunc_item_Item__l1 l f (l.length:Int) fuel 0 20 l=some (20,40,sortI l):=by
   rw [show fuel=(fuel - 2) + 2 from rfl,p_slices_stableCmpFunc_item_Item__l1,h,show decide ((20:Int)≤((20:Nat):Int))=true from rfl,cond_true]
   have:p_slices_insertionSortCmpFunc_item_Item_ l 0 20 f=some (sortI l):=by have:=hs l hn;rw [h] at this;exact this
   rw [inG_ok h this (by rw [sortI_len];exact h.symm),Option.bind_some,p_slices_stableCmpFunc_item_Item__l1];rfl
  rw [h1,Option.bind_some]
  have:p_slices_insertionSortCmpFunc_item_Item_ (sortI l) 20 (l.length:Int) f=some (sortI l):=ins_e _ _ _ _ (by rw [h];decide)
  rw [inG_ok (sortI_len l) this (sortI_len l).symm,Option.bind_some,hl2];rfl
 ·have h1:p_slices_stableCmpFunc_item_Item__l1 l f (l.length:Int) fuel 0 20 l=some (0,20,l):=by
   rw [show fuel=(fuel - 1) + 1 from rfl,p_slices_stableCmpFunc_item_Item__l1,show decide ((20:Int)≤(l.length:Int))=false by simp;omega];rfl
  rw [h1,Option.bind_some,inG_ok rfl (hs l hn) (sortI_len l).symm,Option.bind_some,hl2];rfl
theorem sort_p (l:List ItemItem) (hn:l.length≤20):p_item_Sort l=some (sortI l):=by
 unfold p_item_Sort p_slices_SortStableFunc_item_Item
 have hc:clone? l=some l:=if_pos (by omega)
 have:=stable_p l (fun x0 x1=>p_item_Item_order x0 x1) order_p hn
 rw [hc,Option.bind_some,inG_ok rfl (show ((inG? l.length l (p_slices_stableCmpFunc_item_Item_ l (l.length:Int) fun x0 x1=>p_item_Item_order x0 x1)).bind fun l2=>some l2)=some (sortI l) by rw [inG_ok rfl this (sortI_len l).symm];rfl) (sortI_len l).symm]
 rfl
theorem own_l (z:List ItemItem) (hn:z.length≤1000):∀ (n k F:Nat) (acc:List ItemItem),k + n=z.length→n < F→acc.length=k→p_law20_Own_l1 z F acc (k:Int)=some (acc++z.drop k,(z.length:Int))
 | 0,k,F + 1,acc,hk,hF,ha=>by
  have e:k=z.length:=by omega
  rw [p_law20_Own_l1,lt_ff (by omega),e,List.drop_length,List.append_nil];rfl
 | n + 1,k,F + 1,acc,hk,hF,ha=>by
  have hlt:k < z.length:=by omega
  rw [p_law20_Own_l1,lt_tt hlt,cond_true,at_lt hlt,Option.bind_some,app_ok (by simp;omega),Option.bind_some,w64_succ (by omega),own_l z hn n (k + 1) F _ (by omega) (by omega) (by simp;omega),drop_at hlt]
  simp
theorem own_p (l:List ItemItem) (hn:l.length≤1000):p_law20_Own l=some l:=by
 unfold p_law20_Own
 have h2:p_law20_Own_l1 l fuel [] 0=some (l,(l.length:Int)):=own_l l hn l.length 0 fuel [] (by omega) (by have:=fuel_pos;omega) rfl
 rw [h2];rfl
theorem back_l (z:List ItemItem) (hn:z.length≤1000):∀ (n k F:Nat) (acc:List ItemItem),k + n=z.length→n < F→acc.length=k→p_law20_Back_l1 z F acc (k:Int)=some (acc++z.drop k,(z.length:Int))
 | 0,k,F + 1,acc,hk,hF,ha=>by
  have e:k=z.length:=by omega
  rw [p_law20_Back_l1,lt_ff (by omega),e,List.drop_length,List.append_nil];rfl
 | n + 1,k,F + 1,acc,hk,hF,ha=>by
  have hlt:k < z.length:=by omega
  rw [p_law20_Back_l1,lt_tt hlt,cond_true,at_lt hlt,Option.bind_some,app_ok (by simp;omega),Option.bind_some,w64_succ (by omega),back_l z hn n (k + 1) F _ (by omega) (by omega) (by simp;omega),drop_at hlt]
  simp
theorem back_p (l:List ItemItem) (hn:l.length≤1000):p_law20_Back l=some l:=by
 unfold p_law20_Back
 have h2:p_law20_Back_l1 l fuel [] 0=some (l,(l.length:Int)):=back_l l hn l.length 0 fuel [] (by omega) (by have:=fuel_pos;omega) rfl
 rw [h2];rfl
theorem same_l (z:List ItemItem) (hn:z.length≤1000):∀ (n k F:Nat),k + n=z.length→n < F→p_ref20_SameItems_l1 z z F (k:Int)=some (.inr (z.length:Int))
 | 0,k,F + 1,hk,hF=>by
  have e:k=z.length:=by omega
  rw [p_ref20_SameItems_l1,lt_ff (by omega),e];rfl
 | n + 1,k,F + 1,hk,hF=>by
  have hlt:k < z.length:=by omega
  rw [p_ref20_SameItems_l1,lt_tt hlt,cond_true,at_lt hlt]
  simp only [Option.bind_some,eqT_refl,beq_self_eq_true,Bool.and_self,Bool.and_true,cond_true]
  rw [w64_succ (by omega),same_l z hn n (k + 1) F (by omega) (by omega)]
theorem same_p (l:List ItemItem) (hn:l.length≤1000):p_ref20_SameItems l l=some true:=by
 unfold p_ref20_SameItems
 rw [bne_self_eq_false,cond_false]
 have h2:p_ref20_SameItems_l1 l l fuel 0=some (.inr (l.length:Int)):=same_l l hn l.length 0 fuel (by omega) (by have:=fuel_pos;omega)
 rw [h2];rfl
end Go.Proofs.Ytpmoioopjbfhkaa

/- ItemSorts in plain words. -/
namespace Go.Proofs.Ytpmoioopjbfhkaa
open Go.RowKit
abbrev cmpI (x y:ItemItem):Int:=Lib.compareBytes x.Contact.data.toList y.Contact.data.toList
theorem lessI_iff (x y:ItemItem):lessI x y=true ↔ cmpI x y < 0∨(cmpI x y=0∧x.Ver < y.Ver):=by
 unfold lessI
 simp
theorem cmpI_eq {x y:ItemItem} (h:cmpI x y=0):x.Contact.data.toList=y.Contact.data.toList:=cmp_eq0 h
theorem lessI_asymm {x y:ItemItem} (h:lessI x y=true):lessI y x=false:=by
 rw [← Bool.not_eq_true]
 intro h2
 rw [lessI_iff] at h h2
 have e:cmpI y x=- cmpI x y:=cmp_anti _ _
 rw [e] at h2
 omega
theorem lessI_neg {x y z:ItemItem} (h1:lessI x y=false) (h2:lessI y z=false):lessI x z=false:=by
 rw [← Bool.not_eq_true] at h1 h2 ⊢
 intro h
 rw [lessI_iff] at h1 h2 h
 have e1:cmpI y x=- cmpI x y:=cmp_anti _ _
 have e3:cmpI z x=- cmpI x z:=cmp_anti _ _
 rcases Int.lt_trichotomy (cmpI x y) 0 with c | c | c
 ·exact h1 (.inl c)
 ·have hc:=cmpI_eq c
  have e:cmpI y z=cmpI x z:=by show Lib.compareBytes _ _=Lib.compareBytes _ _;rw [hc]
  rw [e] at h2
  rcases h with h | ⟨h,hv⟩
  ·exact h2 (.inl h)
  ·rcases Int.lt_or_le x.Ver y.Ver with k | k
   ·exact h1 (.inr ⟨c,k⟩)
   ·exact h2 (.inr ⟨h,by omega⟩)
 ·have c' : cmpI y x < 0:=by omega
  rcases h with h | ⟨h,hv⟩
  ·exact h2 (.inl (cmp_trans c' h))
  ·have hc:=cmpI_eq h
   have e:cmpI y z=cmpI y x:=by show Lib.compareBytes _ _=Lib.compareBytes _ _;rw [hc]
   exact h2 (.inl (by rw [e];exact c'))
theorem insR_perm (x:ItemItem):∀ l,(insR x l).Perm (x :: l)
 | []=>.refl _
 | y :: ys=>by
  unfold insR
  split
  ·exact ((insR_perm x ys).cons y).trans (.swap _ _ _)
  ·exact .refl _
theorem insR_srt {x:ItemItem}:∀ {l:List ItemItem},l.Pairwise (fun a b=>lessI a b=false)→(insR x l).Pairwise (fun a b=>lessI a b=false)
 | [],_=>by unfold insR;simp
 | y :: ys,h=>by
  obtain ⟨h1,h2⟩:=List.pairwise_cons.1 h
  unfold insR
  split
  ·rename_i hl
   refine List.pairwise_cons.2 ⟨fun z hz=>?_,insR_srt h2⟩
   rcases List.mem_cons.1 ((insR_perm x ys).mem_iff.1 hz) with rfl | hz
   ·exact lessI_asymm hl
   ·exact h1 z hz
  ·rename_i hl
   rw [Bool.not_eq_true] at hl
   refine List.pairwise_cons.2 ⟨fun z hz=>?_,h⟩
   rcases List.mem_cons.1 hz with rfl | hz
   ·exact hl
   ·exact lessI_neg hl (h1 z hz)
theorem sortR_perm:∀ (l acc:List ItemItem),(sortR acc l).Perm (acc++l)
 | [],acc=>by rw [sortR,List.append_nil]
 | x :: l,acc=>by
  rw [sortR]
  refine (sortR_perm l _).trans ?_
  refine ((insR_perm x acc).append_right l).trans ?_
  exact List.perm_middle.symm
theorem sortR_srt:∀ (l:List ItemItem) {acc:List ItemItem},acc.Pairwise (fun a b=>lessI a b=false)→(sortR acc l).Pairwise (fun a b=>lessI a b=false)
 | [],_,h=>h
 | _ :: l,_,h=>sortR_srt l (insR_srt h)
theorem sortI_perm (l:List ItemItem):(sortI l).Perm l:=(List.reverse_perm _).trans (by have:=sortR_perm l [];rwa [List.nil_append] at this)
theorem sortI_srt (l:List ItemItem):(sortI l).Pairwise (fun a b=>lessI b a=false):=by
 unfold sortI
 rw [List.pairwise_reverse]
 exact sortR_srt l .nil
theorem sortR_id:∀ (l acc:List ItemItem),l.Pairwise (fun a b=>lessI b a=false)→(∀ x ∈ l,∀ y ∈ acc,lessI x y=false)→sortR acc l=l.reverse++acc
 | [],acc,_,_=>by simp [sortR]
 | x :: l,acc,h,hx=>by
  obtain ⟨h1,h2⟩:=List.pairwise_cons.1 h
  have e:insR x acc=x :: acc:=by
   cases acc with
   | nil=>rfl
   | cons y ys=>unfold insR;rw [if_neg (by rw [hx x (by simp) y (by simp)];simp)]
  rw [sortR,e,sortR_id l (x :: acc) h2 fun z hz y hy=>?_]
  ·simp
  ·rcases List.mem_cons.1 hy with rfl | hy
   ·exact h1 z hz
   ·exact hx z (by simp [hz]) y hy
theorem sortI_id (l:List ItemItem):sortI (sortI l)=sortI l:=by
 show (sortR [] (sortI l)).reverse=sortI l
 rw [sortR_id (sortI l) [] (sortI_srt l) fun _ _ y hy=>by cases hy]
 simp
def sameI (x y:ItemItem):Bool:=(x.Contact.toList == y.Contact.toList) && ((x.Name.toList == y.Name.toList) && ((x.Sub == y.Sub) && ((x.Ver == y.Ver) && ((x.Own == y.Own) && true))))
theorem sorts_l3 (z s:List ItemItem) (i:Nat) (hi:i < s.length) (hz:z.length=s.length) (hn:s.length≤1000):∀ (n k F a b:Nat),k + n=s.length→n < F→a≤k→b≤k →
  p_law20_ItemSorts_l3 z s (i:Int) F (a:Int) (b:Int) (k:Int)=some (((a + (s.drop k).countP (sameI · s[i]):Nat):Int),((b + (z.drop k).countP (sameI · s[i]):Nat):Int),(s.length:Int))
 | 0,k,F + 1,a,b,hk,hF,ha,hb=>by
  rw [p_law20_ItemSorts_l3,lt_ff (by omega),show k=s.length by omega,List.drop_length,List.drop_of_length_le (by omega)];rfl
 | n + 1,k,F + 1,a,b,hk,hF,ha,hb=>by
  have h1:k < s.length:=by omega
  have h2:k < z.length:=by omega
  have key:∀ a b:Nat,a≤k + 1→b≤k + 1→p_law20_ItemSorts_l3 z s (i:Int) F (a:Int) (b:Int) ((k + 1:Nat):Int)=_:=fun a b ha hb=>sorts_l3 z s i hi hz hn n (k + 1) F a b (by omega) (by omega) ha hb
  rw [p_law20_ItemSorts_l3,lt_tt h1,cond_true,at_lt h1,at_lt hi,at_lt h2]
  simp only [Option.bind_some]
  show (bif sameI s[k] s[i] then bif sameI z[k] s[i] then _ else _ else bif sameI z[k] s[i] then _ else _)=_
  rw [drop_at h1,drop_at h2,List.countP_cons,List.countP_cons,w64_succ (k:=k) (by omega),w64_succ (k:=a) (by omega),w64_succ (k:=b) (by omega)]
  cases c1:sameI s[k] s[i] <;> cases c2:sameI z[k] s[i] <;> simp only [cond_true,cond_false,if_true,Bool.false_eq_true,if_false]
  ·rw [key a b (by omega) (by omega)];congr 3
  ·rw [key a (b + 1) (by omega) (by omega)];congr 3;congr 1;omega
  ·rw [key (a + 1) b (by omega) (by omega)];congr 2;congr 1;omega
  ·rw [key (a + 1) (b + 1) (by omega) (by omega)];congr 2
   ·congr 1;omega
   ·congr 2;omega
theorem sorts_l2 (l:List ItemItem) (hn:l.length≤20):∀ (n k F:Nat),k + n=(sortI l).length→n < F→p_law20_ItemSorts_l2 l (sortI l) F (k:Int)=some (.inr ((sortI l).length:Int))
 | 0,k,F + 1,hk,hF=>by
  rw [p_law20_ItemSorts_l2,lt_ff (by omega),show k=(sortI l).length by omega];rfl
 | n + 1,k,F + 1,hk,hF=>by
  have hlen:=sortI_len l
  have h1:k < (sortI l).length:=by omega
  have h3:=sorts_l3 l (sortI l) k h1 hlen.symm (by omega) (sortI l).length 0 fuel 0 0 (by omega) (by have:=fuel_pos;omega) (Nat.zero_le _) (Nat.zero_le _)
  rw [List.drop_zero,List.drop_zero,(sortI_perm l).countP_eq] at h3
  have z0:((0:Nat):Int)=0:=rfl
  rw [z0] at h3
  have ih:=sorts_l2 l hn n (k + 1) F (by omega) (by omega)
  rw [p_law20_ItemSorts_l2,lt_tt h1,cond_true,h3]
  simp only [Option.bind_some,bne_self_eq_false,cond_false]
  rw [w64_succ (by omega),ih]
  by_cases h0:0 < k
  ·have e:w64 ((k:Int) - 1)=((k - 1:Nat):Int):=by rw [w64_id (by omega)];omega
   have hs:=List.pairwise_iff_getElem.1 (sortI_srt l) (k - 1) k (by omega) h1 (by omega)
   rw [show decide ((0:Int) < (k:Int))=true by simpa using h0,cond_true,at_lt h1,Option.bind_some,e,at_lt (show k - 1 < (sortI l).length by omega),Option.bind_some,less_p,hs];rfl
  ·rw [show decide ((0:Int) < (k:Int))=false by simp;omega];rfl
theorem lights_l (z:List ItemItem) (hn:z.length≤1000):∀ (n k F:Nat),k + n=z.length→n < F→p_law20_ItemSorts_l1 z F (k:Int)=some (.inl true)∨p_law20_ItemSorts_l1 z F (k:Int)=some (.inr (z.length:Int))
 | 0,k,F + 1,hk,hF=>by
  right
  rw [p_law20_ItemSorts_l1,lt_ff (by omega),show k=z.length by omega];rfl
 | n + 1,k,F + 1,hk,hF=>by
  have hlt:k < z.length:=by omega
  rw [p_law20_ItemSorts_l1,lt_tt hlt,cond_true,at_lt hlt,Option.bind_some,light_p,Option.bind_some]
  cases (decide (z[k].Contact.size≤100) && decide (z[k].Name.size≤100)) with
  | true=>rw [cond_true,w64_succ (by omega)];exact lights_l z hn n (k + 1) F (by omega) (by omega)
  | false=>left;rw [cond_false,p_law20_awake_true];rfl
theorem itemSorts_pure (l:List ItemItem):p_law20_ItemSorts l=some true:=by
 unfold p_law20_ItemSorts
 rw [p_law20_awake_true]
 simp only [Option.bind_some]
 by_cases hl:(20:Int) < (l.length:Int)
 ·rw [show decide ((20:Int) < (l.length:Int))=true by simpa using hl];rfl
 rw [show decide ((20:Int) < (l.length:Int))=false by simpa using hl,cond_false]
 have hll:l.length≤20:=by omega
 have hsl:=sortI_len l
 have z0:((0:Nat):Int)=0:=rfl
 have h0:=lights_l l (by omega) l.length 0 fuel (by omega) (by have:=fuel_pos;omega)
 have h2:=sorts_l2 l hll (sortI l).length 0 fuel (by omega) (by have:=fuel_pos;omega)
 rw [z0] at h0 h2
 rcases h0 with h0 | h0
 ·rw [h0];rfl
 ·rw [h0]
  simp only [Option.bind_some,own_p l (by omega),sort_p l hll,hsl,bne_self_eq_false,cond_false,sort_p (sortI l) (by omega),sortI_id,back_p (sortI l) (by omega),same_p (sortI l) (by omega),cond_true,h2]
end Go.Proofs.Ytpmoioopjbfhkaa

/- That the program's functions yield what the plain ones tell (written by a program of mine). -/
namespace Go.Proofs.Ytpmoioopjbfhkaa
open Go.RowKit
set_option maxRecDepth 1000000
set_option maxHeartbeats 4000000
def gc3:BCode:=(.seq (.reg 0 [⟨(some 2),.mv (.const (.bool false)),none,0⟩] none 0 []) (.seq (.seq (.reg 0 [⟨(some 9),.mv (.tmp 0),none,0⟩,⟨(some 10),.lens (.tmp 9),none,0⟩,⟨(some 11),.bin .gtr (.tmp 10) (.const (.int .i64 20)),none,0⟩] none 0 []) (.cond (.tmp 11) (.seq (.reg 0 [⟨(some 12),.cl 7 [],none,0⟩,⟨(some 2),.mv (.tmp 12),none,0⟩] none 0 []) .ret) .skip)) (.seq (.seq (.reg 0 [⟨(some 3),.mv (.const (.int .i64 0)),none,0⟩] none 0 []) (.block 0 (.loop (.seq (.seq (.reg 0 [⟨(some 13),.mv (.tmp 3),none,0⟩,⟨(some 14),.mv (.tmp 0),none,0⟩,⟨(some 15),.lens (.tmp 14),none,0⟩,⟨(some 16),.bin .lss (.tmp 13) (.tmp 15),none,0⟩] none 0 []) (.cond (.tmp 16) .skip (.exit 0))) (.seq (.block 1 (.seq (.reg 0 [⟨(some 19),.mv (.tmp 0),none,0⟩,⟨(some 20),.mv (.tmp 3),none,0⟩,⟨(some 21),.ixs 5 (.tmp 19) (.tmp 20),none,0⟩,⟨(some 22),.ld 5 true (.tmp 21),none,0⟩,⟨(some 23),.cl 8 [(.tmp 22)],none,0⟩,⟨(some 24),.un .not (.tmp 23),none,0⟩] none 0 []) (.cond (.tmp 24) (.seq (.reg 0 [⟨(some 25),.cl 7 [],none,0⟩,⟨(some 2),.mv (.tmp 25),none,0⟩] none 0 []) .ret) .skip))) (.reg 0 [⟨(some 17),.mv (.tmp 3),none,0⟩,⟨(some 18),.bin .add (.tmp 17) (.const (.int .i64 1)),none,0⟩,⟨(some 3),.mv (.tmp 18),none,0⟩] none 0 [])))))) (.seq (.reg 0 [⟨(some 26),.mv (.tmp 0),none,0⟩,⟨(some 27),.cl 10 [(.tmp 26)],none,0⟩,⟨(some 28),.cl 9 [(.tmp 27)],none,0⟩,⟨(some 4),.mv (.tmp 28),none,0⟩] none 0 []) (.seq (.seq (.reg 0 [⟨(some 29),.mv (.tmp 4),none,0⟩,⟨(some 30),.lens (.tmp 29),none,0⟩,⟨(some 31),.mv (.tmp 0),none,0⟩,⟨(some 32),.lens (.tmp 31),none,0⟩,⟨(some 33),.bin .neq (.tmp 30) (.tmp 32),none,0⟩,⟨(some 34),.mv (.tmp 33),none,0⟩,⟨(some 35),.mv (.tmp 4),(some (34,false)),0⟩,⟨(some 36),.cl 9 [(.tmp 35)],(some (34,false)),0⟩,⟨(some 37),.cl 12 [(.tmp 36)],(some (34,false)),0⟩,⟨(some 38),.mv (.tmp 4),(some (34,false)),0⟩,⟨(some 39),.cl 12 [(.tmp 38)],(some (34,false)),0⟩,⟨(some 40),.cl 11 [(.tmp 37),(.tmp 39)],(some (34,false)),0⟩,⟨(some 41),.un .not (.tmp 40),(some (34,false)),0⟩,⟨(some 42),.pick (.tmp 34) (.const (.bool true)) (.tmp 41),none,0⟩] none 0 []) (.cond (.tmp 42) (.seq (.reg 0 [⟨(some 2),.mv (.const (.bool false)),none,0⟩] none 0 []) .ret) .skip)) (.seq (.seq (.reg 0 [⟨(some 5),.mv (.const (.int .i64 0)),none,0⟩] none 0 []) (.block 2 (.loop (.seq (.seq (.reg 0 [⟨(some 43),.mv (.tmp 5),none,0⟩,⟨(some 44),.mv (.tmp 4),none,0⟩,⟨(some 45),.lens (.tmp 44),none,0⟩,⟨(some 46),.bin .lss (.tmp 43) (.tmp 45),none,0⟩] none 0 []) (.cond (.tmp 46) .skip (.exit 2))) (.seq (.block 3 (.seq (.seq (.reg 0 [⟨(some 49),.mv (.tmp 5),none,0⟩,⟨(some 50),.bin .gtr (.tmp 49) (.const (.int .i64 0)),none,0⟩,⟨(some 51),.mv (.tmp 50),none,0⟩,⟨(some 52),.mv (.tmp 4),(some (51,true)),0⟩,⟨(some 53),.mv (.tmp 5),(some (51,true)),0⟩,⟨(some 54),.ixs 5 (.tmp 52) (.tmp 53),(some (51,true)),0⟩,⟨(some 55),.ld 5 true (.tmp 54),(some (51,true)),0⟩,⟨(some 56),.mv (.tmp 4),(some (51,true)),0⟩,⟨(some 57),.mv (.tmp 5),(some (51,true)),0⟩,⟨(some 58),.bin .sub (.tmp 57) (.const (.int .i64 1)),(some (51,true)),0⟩,⟨(some 59),.ixs 5 (.tmp 56) (.tmp 58),(some (51,true)),0⟩,⟨(some 60),.ld 5 true (.tmp 59),(some (51,true)),0⟩,⟨(some 61),.cl 13 [(.tmp 55),(.tmp 60)],(some (51,true)),0⟩,⟨(some 62),.pick (.tmp 51) (.tmp 61) (.const (.bool false)),none,0⟩] (some [[],[0],[0,1],[1,0,2],[1,0,2],[4,2,0,1,3],[3,1,0,2,4,5],[1,0,2],[1,0,2],[2,0,1,8],[8,9,2,0,1,7],[7,1,0,2,9,8,10],[10,8,9,7,11,5,4,2,0,1,3,6],[6,3,4,5,11,7,9,8,10,12,1,0,2]]) 0 []) (.cond (.tmp 62) (.seq (.reg 0 [⟨(some 2),.mv (.const (.bool false)),none,0⟩] none 0 []) .ret) .skip)) (.seq (.reg 0 [⟨(some 6),.mv (.const (.int .i64 0)),none,0⟩,⟨(some 7),.mv (.const (.int .i64 0)),none,0⟩] none 0 []) (.seq (.seq (.reg 0 [⟨(some 8),.mv (.const (.int .i64 0)),none,0⟩] none 0 []) (.block 4 (.loop (.seq (.seq (.reg 0 [⟨(some 63),.mv (.tmp 8),none,0⟩,⟨(some 64),.mv (.tmp 4),none,0⟩,⟨(some 65),.lens (.tmp 64),none,0⟩,⟨(some 66),.bin .lss (.tmp 63) (.tmp 65),none,0⟩] none 0 []) (.cond (.tmp 66) .skip (.exit 4))) (.seq (.block 5 (.seq (.seq (.reg 0 [⟨(some 69),.mv (.tmp 4),none,0⟩,⟨(some 70),.mv (.tmp 8),none,0⟩,⟨(some 71),.ixs 5 (.tmp 69) (.tmp 70),none,0⟩,⟨(some 72),.ld 5 true (.tmp 71),none,0⟩,⟨(some 73),.mv (.tmp 4),none,0⟩,⟨(some 74),.mv (.tmp 5),none,0⟩,⟨(some 75),.ixs 5 (.tmp 73) (.tmp 74),none,0⟩,⟨(some 76),.ld 5 true (.tmp 75),none,0⟩,⟨(some 77),.eqa false [2,2,1,1,0] (.tmp 72) (.tmp 76),none,0⟩] (some [[],[],[1,0],[0,1,2],[],[],[5,4],[4,5,6],[6,5,4,7,2,1,0,3]]) 0 []) (.cond (.tmp 77) (.reg 0 [⟨(some 78),.mv (.tmp 6),none,0⟩,⟨(some 79),.bin .add (.tmp 78) (.const (.int .i64 1)),none,0⟩,⟨(some 6),.mv (.tmp 79),none,0⟩] none 0 []) .skip)) (.seq (.reg 0 [⟨(some 80),.mv (.tmp 0),none,0⟩,⟨(some 81),.mv (.tmp 8),none,0⟩,⟨(some 82),.ixs 5 (.tmp 80) (.tmp 81),none,0⟩,⟨(some 83),.ld 5 true (.tmp 82),none,0⟩,⟨(some 84),.mv (.tmp 4),none,0⟩,⟨(some 85),.mv (.tmp 5),none,0⟩,⟨(some 86),.ixs 5 (.tmp 84) (.tmp 85),none,0⟩,⟨(some 87),.ld 5 true (.tmp 86),none,0⟩,⟨(some 88),.eqa false [2,2,1,1,0] (.tmp 83) (.tmp 87),none,0⟩] (some [[],[],[1,0],[0,1,2],[],[],[5,4],[4,5,6],[6,5,4,7,2,1,0,3]]) 0 []) (.cond (.tmp 88) (.reg 0 [⟨(some 89),.mv (.tmp 7),none,0⟩,⟨(some 90),.bin .add (.tmp 89) (.const (.int .i64 1)),none,0⟩,⟨(some 7),.mv (.tmp 90),none,0⟩] none 0 []) .skip)))) (.reg 0 [⟨(some 67),.mv (.tmp 8),none,0⟩,⟨(some 68),.bin .add (.tmp 67) (.const (.int .i64 1)),none,0⟩,⟨(some 8),.mv (.tmp 68),none,0⟩] none 0 [])))))) (.seq (.reg 0 [⟨(some 91),.mv (.tmp 6),none,0⟩,⟨(some 92),.mv (.tmp 7),none,0⟩,⟨(some 93),.bin .neq (.tmp 91) (.tmp 92),none,0⟩] none 0 []) (.cond (.tmp 93) (.seq (.reg 0 [⟨(some 2),.mv (.const (.bool false)),none,0⟩] none 0 []) .ret) .skip)))))) (.reg 0 [⟨(some 47),.mv (.tmp 5),none,0⟩,⟨(some 48),.bin .add (.tmp 47) (.const (.int .i64 1)),none,0⟩,⟨(some 5),.mv (.tmp 48),none,0⟩] none 0 [])))))) (.seq (.reg 0 [⟨(some 94),.cl 7 [],none,0⟩,⟨(some 2),.mv (.tmp 94),none,0⟩] none 0 []) .ret)))))))
theorem gc3_ok:compF Try.prog Try.f3=some (gc3.er,95,[.tmp 2]):=by unfold gc3;kernel_rfl
theorem p_law20_ItemSorts_v {u1:Bool} (a0:List ItemItem):CallsO Try.prog 3 [.sl (List.map ItemItem.v a0) u1] V.b (tru? (p_law20_ItemSorts a0)):=by
 refine callsO_comp mix Try.func3 gc3_ok fun r H=>?_
 have H1:=tru_of H
 clear H
 obtain ⟨rfl,H⟩:=H1
 rw [p_law20_ItemSorts] at H
 conv=>whnf
 refine LenQ.M ?_;conv=>whnf
 refine tst_c H (fun b1 H=>?_) (fun b1 H=>?_)
 ·conv=>whnf
  refine ask_c (p_law20_awake_v) H rfl rfl (fun v2 H=>?_);conv=>whnf
  exact fb_ H
 conv=>whnf
 obtain ⟨o4,HL5,HQ6⟩:=bind_c H
 refine loop_c [2,3] [13,14,15,16,17,18,19,20,21,22,23,24,25] [13,14,15,16,17,18,19,20,21,22,23,24,25] (fun n vals st=>(∃ y8,p_law20_ItemSorts_l1  a0 n y8=some o4∧vals=[.b false,.i y8]∧st=[])) fuel 0 [] (⟨_,HL5,rfl,rfl⟩) (Nat.zero_le _) rfl (by kernel_rfl) (by kernel_rfl) rfl trivial ?_
 rintro (_ | n7) _ _ (⟨y8,H,rfl,rfl⟩)
 ·rw [p_law20_ItemSorts_l1] at H;cases H
 rw [p_law20_ItemSorts_l1] at H
 conv=>whnf
 refine LenQ.M ?_;conv=>whnf
 refine tst_c H (fun b9 H=>?_) (fun b9 H=>?_)
 ·conv=>whnf
  refine ixs_c (f:=ItemItem.v) H (fun _=>rfl) (fun x10 H=>?_);conv=>whnf
  refine ask_c (p_ref20_Light_v _) H rfl rfl (fun v11 H=>?_);conv=>whnf
  refine Tst.not ?_
  refine tst_c H (fun b12 H=>?_) (fun b12 H=>?_)
  ·conv=>whnf
   refine Ari.w ?_;conv=>whnf
   exact again_c [13,14,15,16,17,18,19,20,21,22,23,24,25] n7 0 [] (⟨_,H,rfl,rfl⟩) (Nat.lt_succ_self _) (Nat.zero_le _) rfl (by kernel_rfl) (by kernel_rfl) rfl trivial
  conv=>whnf
  refine ask_c (p_law20_awake_v) H rfl rfl (fun v13 H=>?_);conv=>whnf
  obtain rfl:=Option.some.inj H
  have H:=HQ6
  try dsimp only at H
  exact fb_ H
 conv=>whnf
 obtain rfl:=Option.some.inj H
 have H:=HQ6
 try dsimp only at H
 refine ask_c (p_law20_Own_v _) H rfl rfl (fun v14 H=>?_);conv=>whnf
 refine ask_c (p_item_Sort_v _) H rfl rfl (fun v15 H=>?_);conv=>whnf
 iterate 2 (refine LenQ.M ?_;conv=>whnf)
 refine tstF_c H (fun b16 H=>?_);conv=>whnf
 refine Tst.F ?_;conv=>whnf
 refine ask_c (p_item_Sort_v _) H rfl rfl (fun v17 H=>?_);conv=>whnf
 refine Tst.F ?_;conv=>whnf
 refine ask_c (p_law20_Back_v _) H rfl rfl (fun v18 H=>?_);conv=>whnf
 iterate 2 (refine Tst.F ?_;conv=>whnf)
 refine ask_c (p_law20_Back_v _) H rfl rfl (fun v19 H=>?_);conv=>whnf
 refine Tst.F ?_;conv=>whnf
 refine ask_c (p_ref20_SameItems_v _ _) H rfl rfl (fun v20 H=>?_);conv=>whnf
 iterate 2 (refine Tst.F ?_;conv=>whnf)
 refine Tst.not ?_
 refine tstT_c H (fun b21 H=>?_);conv=>whnf
 obtain ⟨o23,HL24,HQ25⟩:=bind_c H
 refine loop_c [2,5] [6,7,8,43,44,45,46,47,48,49,50,51,52,53,54,55,56,57,58,59,60,61,62,63,64,65,66,67,68,69,70,71,72,73,74,75,76,77,78,79,80,81,82,83,84,85,86,87,88,89,90,91,92,93] [6,7,8,43,44,45,46,47,48,49,50,51,52,53,54,55,56,57,58,59,60,61,62,63,64,65,66,67,68,69,70,71,72,73,74,75,76,77,78,79,80,81,82,83,84,85,86,87,88,89,90,91,92,93] (fun n vals st=>(∃ y27,p_law20_ItemSorts_l2  a0 v15 n y27=some o23∧vals=[.b false,.i y27]∧st=[])) fuel 0 [] (⟨_,HL24,rfl,rfl⟩) (Nat.zero_le _) rfl (by kernel_rfl) (by kernel_rfl) rfl trivial ?_
 rintro (_ | n26) _ _ (⟨y27,H,rfl,rfl⟩)
 ·rw [p_law20_ItemSorts_l2] at H;cases H
 rw [p_law20_ItemSorts_l2] at H
 conv=>whnf
 refine LenQ.M ?_;conv=>whnf
 refine tst_d H (fun b28 H=>?_) (fun b28 H=>?_)
 ·conv=>whnf
  obtain rfl:=Option.some.inj H
  have H:=HQ25
  try dsimp only at H
  refine ask_c (p_law20_awake_v) H rfl rfl (fun v72 H=>?_);conv=>whnf
  exact fb_ H
 conv=>whnf
 refine tst_d H (fun b29 H=>?_) (fun b29 H=>?_)
 ·conv=>whnf
  iterate 10 (refine Tst.F ?_;conv=>whnf)
  refine FootQ.mk ⟨rfl,?_⟩;conv=>whnf
  refine Tst.F ?_;conv=>whnf
  obtain ⟨o54,HL55,HQ56⟩:=bind_c H
  refine loop_c [6,7,8] [63,64,65,66,67,68,69,70,71,72,73,74,75,76,77,78,79,80,81,82,83,84,85,86,87,88,89,90] [63,64,65,66,67,68,69,70,71,72,73,74,75,76,77,78,79,80,81,82,83,84,85,86,87,88,89,90] (fun n vals st=>(∃ y58 y59 y60,p_law20_ItemSorts_l3  a0 v15 y27 n y58 y59 y60=some o54∧vals=[.i y58,.i y59,.i y60]∧st=[])) fuel 0 [] (⟨_,_,_,HL55,rfl,rfl⟩) (Nat.zero_le _) rfl (by kernel_rfl) (by kernel_rfl) rfl trivial ?_
  rintro (_ | n57) _ _ (⟨y58,y59,y60,H,rfl,rfl⟩)
  ·rw [p_law20_ItemSorts_l3] at H;cases H
  rw [p_law20_ItemSorts_l3] at H
  conv=>whnf
  refine LenQ.M ?_;conv=>whnf
  refine tst_d H (fun b61 H=>?_) (fun b61 H=>?_)
  ·conv=>whnf
   obtain rfl:=Option.some.inj H
   have H:=HQ56
   try dsimp only at H
   refine tst_c H (fun b71 H=>?_) (fun b71 H=>?_)
   ·conv=>whnf
    obtain rfl:=Option.some.inj H
    have H:=HQ25
    try dsimp only at H
    exact fb_ H
   conv=>whnf
   refine Ari.w ?_;conv=>whnf
   exact again_c [6,7,8,43,44,45,46,47,48,49,50,51,52,53,54,55,56,57,58,59,60,61,62,63,64,65,66,67,68,69,70,71,72,73,74,75,76,77,78,79,80,81,82,83,84,85,86,87,88,89,90,91,92,93] n26 0 [] (⟨_,H,rfl,rfl⟩) (Nat.lt_succ_self _) (Nat.zero_le _) rfl (by kernel_rfl) (by kernel_rfl) rfl trivial
  conv=>whnf
  refine ixs_c (f:=ItemItem.v) H (fun _=>rfl) (fun x62 H=>?_);conv=>whnf
  refine ixs_c (f:=ItemItem.v) H (fun _=>rfl) (fun x63 H=>?_);conv=>whnf
  refine FootQ.mk ⟨rfl,?_⟩;conv=>whnf
  refine tst_d H (fun b64 H=>?_) (fun b64 H=>?_)
  ·conv=>whnf
   refine ixs_c (f:=ItemItem.v) H (fun _=>rfl) (fun x68 H=>?_);conv=>whnf
   refine ixs_c (f:=ItemItem.v) H (fun _=>rfl) (fun x69 H=>?_);conv=>whnf
   refine FootQ.mk ⟨rfl,?_⟩;conv=>whnf
   refine tst_d H (fun b70 H=>?_) (fun b70 H=>?_)
   ·conv=>whnf
    refine Ari.w ?_;conv=>whnf
    exact again_c [63,64,65,66,67,68,69,70,71,72,73,74,75,76,77,78,79,80,81,82,83,84,85,86,87,88,89,90] n57 0 [] (⟨_,_,_,H,rfl,rfl⟩) (Nat.lt_succ_self _) (Nat.zero_le _) rfl (by kernel_rfl) (by kernel_rfl) rfl trivial
   conv=>whnf
   iterate 2 (refine Ari.w ?_;conv=>whnf)
   exact again_c [63,64,65,66,67,68,69,70,71,72,73,74,75,76,77,78,79,80,81,82,83,84,85,86,87,88,89,90] n57 0 [] (⟨_,_,_,H,rfl,rfl⟩) (Nat.lt_succ_self _) (Nat.zero_le _) rfl (by kernel_rfl) (by kernel_rfl) rfl trivial
  conv=>whnf
  refine Ari.w ?_;conv=>whnf
  refine ixs_c (f:=ItemItem.v) H (fun _=>rfl) (fun x65 H=>?_);conv=>whnf
  refine ixs_c (f:=ItemItem.v) H (fun _=>rfl) (fun x66 H=>?_);conv=>whnf
  refine FootQ.mk ⟨rfl,?_⟩;conv=>whnf
  refine tst_d H (fun b67 H=>?_) (fun b67 H=>?_)
  ·conv=>whnf
   refine Ari.w ?_;conv=>whnf
   exact again_c [63,64,65,66,67,68,69,70,71,72,73,74,75,76,77,78,79,80,81,82,83,84,85,86,87,88,89,90] n57 0 [] (⟨_,_,_,H,rfl,rfl⟩) (Nat.lt_succ_self _) (Nat.zero_le _) rfl (by kernel_rfl) (by kernel_rfl) rfl trivial
  conv=>whnf
  iterate 2 (refine Ari.w ?_;conv=>whnf)
  exact again_c [63,64,65,66,67,68,69,70,71,72,73,74,75,76,77,78,79,80,81,82,83,84,85,86,87,88,89,90] n57 0 [] (⟨_,_,_,H,rfl,rfl⟩) (Nat.lt_succ_self _) (Nat.zero_le _) rfl (by kernel_rfl) (by kernel_rfl) rfl trivial
 conv=>whnf
 iterate 2 (refine Tst.T ?_;conv=>whnf)
 refine ixs_c (f:=ItemItem.v) H (fun _=>rfl) (fun x30 H=>?_);conv=>whnf
 iterate 4 (refine Tst.T ?_;conv=>whnf)
 refine Ari.w ?_;conv=>whnf
 refine Tst.T ?_;conv=>whnf
 refine ixs_c (f:=ItemItem.v) H (fun _=>rfl) (fun x31 H=>?_);conv=>whnf
 iterate 2 (refine Tst.T ?_;conv=>whnf)
 refine ask_c (p_item_Less_v _ _) H rfl rfl (fun v32 H=>?_);conv=>whnf
 refine Tst.T ?_;conv=>whnf
 refine FootQ.mk ⟨rfl,?_⟩;conv=>whnf
 refine tst_c H (fun b33 H=>?_) (fun b33 H=>?_)
 ·conv=>whnf
  obtain rfl:=Option.some.inj H
  have H:=HQ25
  try dsimp only at H
  exact fb_ H
 conv=>whnf
 obtain ⟨o35,HL36,HQ37⟩:=bind_c H
 refine loop_c [6,7,8] [63,64,65,66,67,68,69,70,71,72,73,74,75,76,77,78,79,80,81,82,83,84,85,86,87,88,89,90] [63,64,65,66,67,68,69,70,71,72,73,74,75,76,77,78,79,80,81,82,83,84,85,86,87,88,89,90] (fun n vals st=>(∃ y39 y40 y41,p_law20_ItemSorts_l3  a0 v15 y27 n y39 y40 y41=some o35∧vals=[.i y39,.i y40,.i y41]∧st=[])) fuel 0 [] (⟨_,_,_,HL36,rfl,rfl⟩) (Nat.zero_le _) rfl (by kernel_rfl) (by kernel_rfl) rfl trivial ?_
 rintro (_ | n38) _ _ (⟨y39,y40,y41,H,rfl,rfl⟩)
 ·rw [p_law20_ItemSorts_l3] at H;cases H
 rw [p_law20_ItemSorts_l3] at H
 conv=>whnf
 refine LenQ.M ?_;conv=>whnf
 refine tst_d H (fun b42 H=>?_) (fun b42 H=>?_)
 ·conv=>whnf
  obtain rfl:=Option.some.inj H
  have H:=HQ37
  try dsimp only at H
  refine tst_c H (fun b52 H=>?_) (fun b52 H=>?_)
  ·conv=>whnf
   obtain rfl:=Option.some.inj H
   have H:=HQ25
   try dsimp only at H
   exact fb_ H
  conv=>whnf
  refine Ari.w ?_;conv=>whnf
  exact again_c [6,7,8,43,44,45,46,47,48,49,50,51,52,53,54,55,56,57,58,59,60,61,62,63,64,65,66,67,68,69,70,71,72,73,74,75,76,77,78,79,80,81,82,83,84,85,86,87,88,89,90,91,92,93] n26 0 [] (⟨_,H,rfl,rfl⟩) (Nat.lt_succ_self _) (Nat.zero_le _) rfl (by kernel_rfl) (by kernel_rfl) rfl trivial
 conv=>whnf
 refine ixs_c (f:=ItemItem.v) H (fun _=>rfl) (fun x43 H=>?_);conv=>whnf
 refine ixs_c (f:=ItemItem.v) H (fun _=>rfl) (fun x44 H=>?_);conv=>whnf
 refine FootQ.mk ⟨rfl,?_⟩;conv=>whnf
 refine tst_d H (fun b45 H=>?_) (fun b45 H=>?_)
 ·conv=>whnf
  refine ixs_c (f:=ItemItem.v) H (fun _=>rfl) (fun x49 H=>?_);conv=>whnf
  refine ixs_c (f:=ItemItem.v) H (fun _=>rfl) (fun x50 H=>?_);conv=>whnf
  refine FootQ.mk ⟨rfl,?_⟩;conv=>whnf
  refine tst_d H (fun b51 H=>?_) (fun b51 H=>?_)
  ·conv=>whnf
   refine Ari.w ?_;conv=>whnf
   exact again_c [63,64,65,66,67,68,69,70,71,72,73,74,75,76,77,78,79,80,81,82,83,84,85,86,87,88,89,90] n38 0 [] (⟨_,_,_,H,rfl,rfl⟩) (Nat.lt_succ_self _) (Nat.zero_le _) rfl (by kernel_rfl) (by kernel_rfl) rfl trivial
  conv=>whnf
  iterate 2 (refine Ari.w ?_;conv=>whnf)
  exact again_c [63,64,65,66,67,68,69,70,71,72,73,74,75,76,77,78,79,80,81,82,83,84,85,86,87,88,89,90] n38 0 [] (⟨_,_,_,H,rfl,rfl⟩) (Nat.lt_succ_self _) (Nat.zero_le _) rfl (by kernel_rfl) (by kernel_rfl) rfl trivial
 conv=>whnf
 refine Ari.w ?_;conv=>whnf
 refine ixs_c (f:=ItemItem.v) H (fun _=>rfl) (fun x46 H=>?_);conv=>whnf
 refine ixs_c (f:=ItemItem.v) H (fun _=>rfl) (fun x47 H=>?_);conv=>whnf
 refine FootQ.mk ⟨rfl,?_⟩;conv=>whnf
 refine tst_d H (fun b48 H=>?_) (fun b48 H=>?_)
 ·conv=>whnf
  refine Ari.w ?_;conv=>whnf
  exact again_c [63,64,65,66,67,68,69,70,71,72,73,74,75,76,77,78,79,80,81,82,83,84,85,86,87,88,89,90] n38 0 [] (⟨_,_,_,H,rfl,rfl⟩) (Nat.lt_succ_self _) (Nat.zero_le _) rfl (by kernel_rfl) (by kernel_rfl) rfl trivial
 conv=>whnf
 iterate 2 (refine Ari.w ?_;conv=>whnf)
 exact again_c [63,64,65,66,67,68,69,70,71,72,73,74,75,76,77,78,79,80,81,82,83,84,85,86,87,88,89,90] n38 0 [] (⟨_,_,_,H,rfl,rfl⟩) (Nat.lt_succ_self _) (Nat.zero_le _) rfl (by kernel_rfl) (by kernel_rfl) rfl trivial
end Go.Proofs.Ytpmoioopjbfhkaa

/- Closed facts of the statement ItemSorts. -/
namespace Go.Proofs.Ytpmoioopjbfhkaa
open Go.ChangeShapes Go.WideShapes Go.ChangeAt Go.RowKit Go.Joins Go.Deep
theorem itemSorts_named:Try.pinned.checked.prog.funcNamed Rows.itemSortsRow.func=some 3:=by kernel_rfl
theorem itemSorts_closed:joinedFacts Try.pinned.checked.prog 3 Try.f3 Rows.itemSortsSpec Rows.itemSortsRow=true:=by kernel_rfl
end Go.Proofs.Ytpmoioopjbfhkaa

/- ItemSorts: for every input the call returns true, and its arguments read as they did. -/
namespace Go.Proofs.Ytpmoioopjbfhkaa
open Go.ChangeShapes Go.WideShapes Go.ChangeAt Go.RowKit Go.Joins Go.Deep
set_option maxRecDepth 100000 in
theorem itemSorts_lifted (os:Os) (started:os.Started) (H:Type) (enc:TypeId × Value→H) :
  ReturnsInHanded {} Try.checked os 3 .any (Rows.itemSortsSpec.pre6 enc Try.prog Try.f3 Rows.itemSortsRow.domain false) (Rows.itemSortsSpec.post enc Try.prog Try.f3 false true false false):=by
 refine returnsInHanded_of_change_shaped (C:=Try.checked) own0 started (by kernel_rfl) Try.func3
  (ChangeSpec.witness6 (enc:=enc) (C:=Try.checked) false ⟨#[],#[.slice none 0 0],[]⟩ 8 (by kernel_rfl) (by kernel_rfl) (by kernel_rfl) (by kernel_rfl)) ?_
 intro W base args ds gs before hval0 hW hcnd _ hsh _
 have hval:∀ (j:Nat) t v,Try.f3.params[j]?=some t→args[j]?=some v→Value.okWide Try.prog W .any base t v:=hval0
 have hW':=hW
 obtain ⟨p,q,hA0,hV,rfl,hfz,hnd⟩:=hW
 have hA:DataW.TrodAll enc Try.prog W 0 (fun _=>true) true Try.f3.params.toList args.toList ds p:=hA0
 rw [Try.params3] at hA hval
 have hA2:=hA
 obtain ⟨v0,d0,rfl,rfl,h0⟩:=trodAll_one hA
 obtain ⟨rfl,rfl⟩:=trodVars_none hV
 obtain ⟨fu0,hf0⟩:=h0
 obtain ⟨q0,l0,k0,rfl⟩:=okWide_slice Try.underlying22 (hval 0 _ v0 rfl rfl)
 obtain ⟨a0,w0,r0⟩:=rd_T22 hf0
 have hx0:Rep (MW W) noBk _ _:=r0.2 0 (by simp [Value.cells]) (by simp)
 refine (rep_one (callsO_true (p_law20_ItemSorts_v a0) (tru_ok (itemSorts_pure a0))) (maxLen_cell W hsh) (repAr1 hx0)).mono ?_
 rintro e W' ⟨rfl,bel⟩
 refine ⟨_,rfl,_,_,_,[],p,[],hW',?_,?_,?_,?_,?_⟩
 ·exact trodAll_mk1 (shut_bool Try.underlying4 true)
 ·exact trodAll_below laid0 bel (by
   intro t ht
   simp at ht
   rcases ht with rfl <;> exact ⟨by kernel_rfl,of_decide_eq_true (by kernel_rfl)⟩) hA2
 ·rfl
 ·exact bel.frame _
 ·exact fun h=>by cases h
theorem itemSorts_holds:Rows.ItemSortsSaid :=
 OpenClaim.holds_of_wide 3 Try.f3 rfl rfl rfl rfl rfl rfl rfl ⟨rfl,rfl,rfl,rfl,rfl⟩ rfl rfl rfl rfl rfl itemSorts_named Try.func3 itemSorts_closed
  (of_decide_eq_true (by kernel_rfl)) (by unfold Func.isWrapper;first | (rw [if_pos (by decide +kernel)];kernel_rfl) | (rw [if_neg (by decide +kernel)];exact ⟨rfl,rfl⟩))
  (fun os started H enc _=>itemSorts_lifted os started H enc)
#print axioms itemSorts_holds
end Go.Proofs.Ytpmoioopjbfhkaa

