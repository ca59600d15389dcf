/- A part of the proof: 7 texts joined. -/
import Derived.Test.YtpmoioopjbfhkaaGreatWbA7
import Derived.Test.YtpmoioopjbfhkaaGreatWbA8
import Derived.Test.YtpmoioopjbfhkaaGreatWcA2
import Derived.Test.YtpmoioopjbfhkaaGreatWbA9
import Derived.Test.YtpmoioopjbfhkaaGreatWbA6
import Derived.KernelRfl
import Derived.Test.YtpmoioopjbfhkaaGreatWcA1
import Derived.Test.YtpmoioopjbfhkaaGreatRows
set_option linter.all false
/- Readers of ItemReads's parameters. -/
namespace Go.Proofs.YtpmoioopjbfhkaaGreat
open Go.ChangeShapes Go.WideShapes Go.ChangeAt Go.RowKit Go.Joins Go.Deep
structure ItemItem.Wf (x:ItemItem):Prop where
 Sub:(Lit.int .i64 x.Sub).wf=true
 Ver:(Lit.int .i64 x.Ver).wf=true
set_option maxRecDepth 100000 in
theorem rd_T23 {H:Type} {enc:TypeId × Value→H} {W:World} {spare:Nat→Bool} {held:Bool} {fuel:Nat} {cs:List Value} {y:DataW H × List MemPlace} (h:DataW.trod enc Tryz.prog W 0 spare held fuel 23 cs=some y):∃ x:ItemItem,ItemItem.Wf x∧RepL (MW W) noBk cs [.s x.Contact,.s x.Name,.i x.Sub,.i x.Ver,.b x.Own]:=by
 obtain ⟨xs,n,_,_,hl,hx,hall⟩:=DataW.trod_struct Tryz.underlying23 h
 have hce:Tryz.prog.cellsOf 23=5:=by kernel_rfl
 rw [hce] at hl
 match cs,hl,hall with
 | [c0,c1,c2,c3,c4],_,hall =>
  obtain ⟨y0,hy0⟩:=get_some hx (show 0 < 5 by omega)
  have g0:DataW.trod enc Tryz.prog W 0 spare held n 9 [c0]=some y0:=by
   have hz:Tryz.prog.cellsOf 9=1:=by kernel_rfl
   have g:DataW.trod enc Tryz.prog W 0 spare held n 9 (([c0,c1,c2,c3,c4].drop 0).take (Tryz.prog.cellsOf 9))=some y0:=(hall 0 _ rfl).trans hy0
   rw [hz] at g;exact g
  obtain ⟨x0,r0⟩:=rd_string Tryz.underlying9 g0
  obtain ⟨y1,hy1⟩:=get_some hx (show 1 < 5 by omega)
  have g1:DataW.trod enc Tryz.prog W 0 spare held n 9 [c1]=some y1:=by
   have hz:Tryz.prog.cellsOf 9=1:=by kernel_rfl
   have g:DataW.trod enc Tryz.prog W 0 spare held n 9 (([c0,c1,c2,c3,c4].drop 1).take (Tryz.prog.cellsOf 9))=some y1:=(hall 1 _ rfl).trans hy1
   rw [hz] at g;exact g
  obtain ⟨x1,r1⟩:=rd_string Tryz.underlying9 g1
  obtain ⟨y2,hy2⟩:=get_some hx (show 2 < 5 by omega)
  have g2:DataW.trod enc Tryz.prog W 0 spare held n 3 [c2]=some y2:=by
   have hz:Tryz.prog.cellsOf 3=1:=by kernel_rfl
   have g:DataW.trod enc Tryz.prog W 0 spare held n 3 (([c0,c1,c2,c3,c4].drop 2).take (Tryz.prog.cellsOf 3))=some y2:=(hall 2 _ rfl).trans hy2
   rw [hz] at g;exact g
  obtain ⟨x2,w2,r2⟩:=rd_int Tryz.underlying3 g2
  obtain ⟨y3,hy3⟩:=get_some hx (show 3 < 5 by omega)
  have g3:DataW.trod enc Tryz.prog W 0 spare held n 3 [c3]=some y3:=by
   have hz:Tryz.prog.cellsOf 3=1:=by kernel_rfl
   have g:DataW.trod enc Tryz.prog W 0 spare held n 3 (([c0,c1,c2,c3,c4].drop 3).take (Tryz.prog.cellsOf 3))=some y3:=(hall 3 _ rfl).trans hy3
   rw [hz] at g;exact g
  obtain ⟨x3,w3,r3⟩:=rd_int Tryz.underlying3 g3
  obtain ⟨y4,hy4⟩:=get_some hx (show 4 < 5 by omega)
  have g4:DataW.trod enc Tryz.prog W 0 spare held n 4 [c4]=some y4:=by
   have hz:Tryz.prog.cellsOf 4=1:=by kernel_rfl
   have g:DataW.trod enc Tryz.prog W 0 spare held n 4 (([c0,c1,c2,c3,c4].drop 4).take (Tryz.prog.cellsOf 4))=some y4:=(hall 4 _ rfl).trans hy4
   rw [hz] at g;exact g
  obtain ⟨x4,r4⟩:=rd_bool Tryz.underlying4 g4
  exact ⟨⟨x0,x1,x2,x3,x4⟩,⟨w2,w3⟩,repL_app r0 (repL_app r1 (repL_app r2 (repL_app r3 (repL_app r4 (repL_nil)))))⟩
theorem rd_T42 {H:Type} {enc:TypeId × Value→H} {W:World} {spare:Nat→Bool} {held:Bool} {fuel:Nat} {cs:List Value} {y:DataW H × List MemPlace} (h:DataW.trod enc Tryz.prog W 0 spare held fuel 42 cs=some y):∃ x:List ItemItem,(∀ z ∈ x,ItemItem.Wf z)∧RepL (MW W) noBk cs [(fun l:List ItemItem=>V.sl (l.map ItemItem.v) false) x] :=
 rd_slice (f:=ItemItem.v) (es:=5) (wf:=ItemItem.Wf) Tryz.underlying42 (fun _=>rfl) (by intro a v hv;simp [V.cells] at hv;first | (subst hv;rfl) | (rcases hv with rfl | rfl | rfl | rfl | rfl <;> rfl)) (by omega) (by kernel_rfl) (fun n cs y h=>rd_T23 h) h
end Go.Proofs.YtpmoioopjbfhkaaGreat

/- Items, sorted: the program's sort and the document's in plain words. -/
namespace Go.Proofs.YtpmoioopjbfhkaaGreat
open Go.RowKit
def insR (x:ItemItem):List ItemItem→List ItemItem
 | []=>[x]
 | y :: ys=>if lessI x y then y :: insR x ys else x :: y :: ys
def sortR:List ItemItem→List ItemItem→List ItemItem
 | acc,[]=>acc
 | acc,x :: l=>sortR (insR x acc) l
def sortI (l:List ItemItem):List ItemItem:=(sortR [] l).reverse
theorem insR_len (x:ItemItem):∀ l,(insR x l).length=l.length + 1
 | []=>rfl
 | y :: ys=>by
  unfold insR
  split
  ·rw [List.length_cons,insR_len x ys,List.length_cons]
  ·rfl
theorem sortR_len:∀ (l acc:List ItemItem),(sortR acc l).length=acc.length + l.length
 | [],acc=>rfl
 | x :: l,acc=>by rw [sortR,sortR_len l,insR_len,List.length_cons];omega
theorem sortI_len (l:List ItemItem):(sortI l).length=l.length:=by unfold sortI;rw [List.length_reverse,sortR_len];simp
theorem set_mid {α:Type} (a:List α) (x y:α) (b:List α):(a++x :: b).set a.length y=a++y :: b:=by
 induction a with
 | nil=>rfl
 | cons c a ih=>simp [ih]
theorem get_mid {α:Type} (a:List α) (x:α) (b:List α):(a++x :: b)[a.length]?=some x:=by simp
theorem arr_mid {n:Nat} {a:List ItemItem} {x:ItemItem} {b:List ItemItem} (h:(a++x :: b).length=n):arr? n (a++x :: b) ((a.length:Nat):Int)=some x:=by
 unfold arr?
 rw [if_pos h,at_nat,get_mid]
theorem ins_l2 (a0:List ItemItem) (f:ItemItem→ItemItem→Option Int) (hf:∀ x y,∃ v,f x y=some v∧decide (v < 0)=lessI x y):∀ (ys:List ItemItem) (x:ItemItem) (post:List ItemItem) (F:Nat),ys.length < F→(ys.reverse++x :: post).length=a0.length→a0.length≤1000000 →
  ∃ k,p_slices_insertionSortCmpFunc_item_Item__l2 a0 f 0 F (ys.length:Int) (ys.reverse++x :: post)=some (k,(insR x ys).reverse++post)
 | [],x,post,F + 1,hF,hl,hn=>⟨0,by
  rw [p_slices_insertionSortCmpFunc_item_Item__l2];rfl⟩
 | y :: ys,x,post,F + 1,hF,hl,hn=>by
  have e1:(y :: ys).reverse++x :: post=ys.reverse++y :: (x :: post):=by simp
  have e2:((y :: ys).length:Int)=((ys.length + 1:Nat):Int):=by simp
  have hlen:(ys.reverse++y :: x :: post).length=a0.length:=by rw [← e1];exact hl
  have hlen' : (ys.reverse++[y]++x :: post).length=a0.length:=by rw [← hlen];simp
  have hyl:ys.length≤1000000:=by rw [List.length_append,List.length_reverse] at hlen;omega
  have hj:w64 (((ys.length + 1:Nat):Int) - 1)=((ys.reverse.length:Nat):Int):=by rw [w64_id (by omega),List.length_reverse];omega
  have a1:arr? a0.length (ys.reverse++y :: x :: post) ((ys.length + 1:Nat):Int)=some x:=by
   have:=arr_mid (a:=ys.reverse++[y]) (x:=x) (b:=post) hlen'
   rw [List.append_assoc] at this
   simpa using this
  have a2:arr? a0.length (ys.reverse++y :: x :: post) ((ys.reverse.length:Nat):Int)=some y:=arr_mid hlen
  obtain ⟨v,hv,hlt⟩:=hf x y
  rw [p_slices_insertionSortCmpFunc_item_Item__l2,e1,e2,show decide ((0:Int) < ((ys.length + 1:Nat):Int))=true by simp <;> omega,cond_true,hj,a1,a2]
  simp only [Option.bind_some,hv,hlt]
  unfold insR
  cases hb:lessI x y with
  | false =>
   simp only [cond_false,Bool.false_eq_true,if_false]
   exact ⟨((ys.length + 1:Nat):Int),by simp⟩
  | true =>
   simp only [cond_true,if_true]
   have t1:(((ys.length + 1:Nat):Int)).toNat=(ys.reverse++[y]).length:=by simp
   have s1:(ys.reverse++y :: x :: post).set (((ys.length + 1:Nat):Int)).toNat y=ys.reverse++y :: (y :: post):=by
    have:=set_mid (ys.reverse++[y]) x y post
    rw [List.append_assoc,List.append_assoc] at this
    rw [t1];exact this
   have hlen2:(ys.reverse++y :: y :: post).length=a0.length:=by rw [← hlen];simp
   rw [s1,arr_mid hlen2,Option.bind_some,Int.toNat_natCast,set_mid,List.length_reverse]
   obtain ⟨k,hk⟩:=ins_l2 a0 f hf ys x (y :: post) F (by simp at hF;omega) (by rw [← hlen];simp) hn
   exact ⟨k,by rw [hk];simp⟩
theorem ins_l1 (a0:List ItemItem) (f:ItemItem→ItemItem→Option Int) (hf:∀ x y,∃ v,f x y=some v∧decide (v < 0)=lessI x y) (hn:a0.length≤1000000):∀ (post acc:List ItemItem) (F:Nat),post.length < F→acc.length + post.length=a0.length →
  ∃ k,p_slices_insertionSortCmpFunc_item_Item__l1 a0 f 0 (a0.length:Int) F (acc.length:Int) (acc.reverse++post)=some (k,(sortR acc post).reverse)
 | [],acc,F + 1,hF,hl=>⟨(acc.length:Int),by
  rw [p_slices_insertionSortCmpFunc_item_Item__l1,lt_ff (by simp at hl;omega)]
  simp [sortR]⟩
 | x :: post,acc,F + 1,hF,hl=>by
  have hlt:acc.length < a0.length:=by simp at hl;omega
  obtain ⟨k,hk⟩:=ins_l2 a0 f hf acc x post fuel (by have:=fuel_pos;omega) (by simp at hl ⊢;omega) hn
  rw [p_slices_insertionSortCmpFunc_item_Item__l1,lt_tt hlt,cond_true,hk,Option.bind_some,w64_succ (by omega)]
  have:=ins_l1 a0 f hf hn post (insR x acc) F (by simp at hF;omega) (by rw [insR_len];simp at hl;omega)
  rw [insR_len] at this
  rw [sortR];exact this
theorem ins_p (l:List ItemItem) (f:ItemItem→ItemItem→Option Int) (hf:∀ x y,∃ v,f x y=some v∧decide (v < 0)=lessI x y) (hn:l.length≤1000000) (hl:l≠[]):p_slices_insertionSortCmpFunc_item_Item_ l 0 (l.length:Int) f=some (sortI l):=by
 obtain ⟨x,r,rfl⟩:=List.exists_cons_of_ne_nil hl
 obtain ⟨k,hk⟩:=ins_l1 (x :: r) f hf hn r [x] fuel (by have:=fuel_pos;simp at hn;omega) (by simp;omega)
 unfold p_slices_insertionSortCmpFunc_item_Item_
 show (p_slices_insertionSortCmpFunc_item_Item__l1 (x :: r) f 0 ((x :: r).length:Int) fuel 1 (x :: r)).bind _=_
 have hk2:p_slices_insertionSortCmpFunc_item_Item__l1 (x :: r) f 0 ((x :: r).length:Int) fuel 1 (x :: r)=some (k,(sortR [x] r).reverse):=hk
 rw [hk2];rfl
theorem ins_e (l:List ItemItem) (a b:Int) (f:ItemItem→ItemItem→Option Int) (h:b≤w64 (a + 1)):p_slices_insertionSortCmpFunc_item_Item_ l a b f=some l:=by
 unfold p_slices_insertionSortCmpFunc_item_Item_
 rw [show fuel=(fuel - 1) + 1 from rfl,p_slices_insertionSortCmpFunc_item_Item__l1,show decide (w64 (a + 1) < b)=false by simpa using h];rfl
theorem inG_ok {α β:Type} {n:Nat} {l:List α} {m:Option (List β)} {L:List β} (h1:l.length=n) (h2:m=some L) (h3:n=L.length):inG? n l m=some L:=by
 unfold inG?
 rw [if_pos h1,h2,Option.bind_some,if_pos h3]
theorem stable_p (l:List ItemItem) (f:ItemItem→ItemItem→Option Int) (hf:∀ x y,∃ v,f x y=some v∧decide (v < 0)=lessI x y) (hn:l.length≤20):p_slices_stableCmpFunc_item_Item_ l (l.length:Int) f=some (sortI l):=by
 unfold p_slices_stableCmpFunc_item_Item_
 have hl2:p_slices_stableCmpFunc_item_Item__l2 (l.length:Int) fuel 20=some 20:=by
  rw [show fuel=(fuel - 1) + 1 from rfl,p_slices_stableCmpFunc_item_Item__l2,show decide ((20:Int) < (l.length:Int))=false by simp;omega];rfl
 have hs:∀ m:List ItemItem,m.length≤20→p_slices_insertionSortCmpFunc_item_Item_ m 0 (m.length:Int) f=some (sortI m):=fun m hm=>by
  by_cases e:m=[]
  ·subst e;exact ins_e [] 0 0 f (by decide)
  ·exact ins_p m f hf (by omega) e
 by_cases h:l.length=20
 ·have h1:p_slices_stableCmpFunc_item_Item__l1 l f (l.length:Int) fuel 0 20 l=some (20,40,sortI l):=by
   rw [show fuel=(fuel - 2) + 2 from rfl,p_slices_stableCmpFunc_item_Item__l1,h,show decide ((20:Int)≤((20:Nat):Int))=true from rfl,cond_true]
   have:p_slices_insertionSortCmpFunc_item_Item_ l 0 20 f=some (sortI l):=by have:=hs l hn;rw [h] at this;exact this
   rw [inG_ok h this (by rw [sortI_len];exact h.symm),Option.bind_some,p_slices_stableCmpFunc_item_Item__l1];rfl
  rw [h1,Option.bind_some]
  have:p_slices_insertionSortCmpFunc_item_Item_ (sortI l) 20 (l.length:Int) f=some (sortI l):=ins_e _ _ _ _ (by rw [h];decide)
  rw [inG_ok (sortI_len l) this (sortI_len l).symm,Option.bind_some,hl2];rfl
 ·have h1:p_slices_stableCmpFunc_item_Item__l1 l f (l.length:Int) fuel 0 20 l=some (0,20,l):=by
   rw [show fuel=(fuel - 1) + 1 from rfl,p_slices_stableCmpFunc_item_Item__l1,show decide ((20:Int)≤(l.length:Int))=false by simp;omega];rfl
  rw [h1,Option.bind_some,inG_ok rfl (hs l hn) (sortI_len l).symm,Option.bind_some,hl2];rfl
theorem sort_p (l:List ItemItem) (hn:l.length≤20):p_item_Sort l=some (sortI l):=by
 unfold p_item_Sort p_slices_SortStableFunc_item_Item
 have hc:clone? l=some l:=if_pos (by omega)
 have:=stable_p l (fun x0 x1=>p_item_Item_order x0 x1) order_p hn
 rw [hc,Option.bind_some,inG_ok rfl (show ((inG? l.length l (p_slices_stableCmpFunc_item_Item_ l (l.length:Int) fun x0 x1=>p_item_Item_order x0 x1)).bind fun l2=>some l2)=some (sortI l) by rw [inG_ok rfl this (sortI_len l).symm];rfl) (sortI_len l).symm]
 rfl
theorem rs_l2 (z out:List ItemItem) (i:Nat) (hi:i < z.length) (hn:z.length≤1000):∀ (ys post:List ItemItem) (F:Nat),out=ys.reverse++post→ys.length < F→out.length≤1000 →
  ∃ k:Nat,p_ref20_Sort_l2 z out (i:Int) F (ys.length:Int)=some (k:Int)∧k≤ys.length∧out.take k++z[i] :: out.drop k=(insR z[i] ys).reverse++post
 | [],post,F + 1,ho,hF,hl=>⟨0,by rw [p_ref20_Sort_l2];rfl,Nat.le_refl _,by subst ho;simp [insR]⟩
 | y :: ys,post,F + 1,ho,hF,hl=>by
  have e1:out=ys.reverse++y :: post:=by rw [ho];simp
  have hg:at? out (w64 (((y :: ys).length:Int) - 1))=some y:=by
   have hyl:ys.length≤1000:=by rw [e1] at hl;simp at hl;omega
   have:w64 (((y :: ys).length:Int) - 1)=((ys.reverse.length:Nat):Int):=by rw [w64_id (by simp;omega)];simp
   rw [this,at_nat,e1,get_mid]
  rw [p_ref20_Sort_l2,show decide ((0:Int) < ((y :: ys).length:Int))=true by simp <;> omega,cond_true,at_lt hi,Option.bind_some,hg,Option.bind_some,rless_p,Option.bind_some]
  unfold insR
  cases hb:lessI z[i] y with
  | false =>
   refine ⟨(y :: ys).length,by simp,Nat.le_refl _,?_⟩
   have t1:out.take (y :: ys).length=(y :: ys).reverse:=by rw [ho];exact List.take_left' (by simp)
   have t2:out.drop (y :: ys).length=post:=by rw [ho];exact List.drop_left' (by simp)
   rw [t1,t2]
   simp
  | true =>
   have hyl:ys.length≤1000:=by rw [e1] at hl;simp at hl;omega
   obtain ⟨k,h1,h2,h3⟩:=rs_l2 z out i hi hn ys (y :: post) F e1 (by simp at hF;omega) hl
   refine ⟨k,?_,by simp;omega,by rw [h3];simp⟩
   rw [cond_true,show w64 (((y :: ys).length:Int) - 1)=((ys.length:Nat):Int) by rw [w64_id (by simp;omega)];simp]
   exact h1
theorem rs_l1 (z:List ItemItem) (hn:z.length≤400):∀ (n k F:Nat) (acc:List ItemItem),k + n=z.length→n < F→acc.length=k→p_ref20_Sort_l1 z F acc.reverse (k:Int)=some ((sortR acc (z.drop k)).reverse,(z.length:Int))
 | 0,k,F + 1,acc,hk,hF,ha=>by
  have e:k=z.length:=by omega
  rw [p_ref20_Sort_l1,lt_ff (by omega),e,List.drop_length];rfl
 | n + 1,k,F + 1,acc,hk,hF,ha=>by
  have hlt:k < z.length:=by omega
  obtain ⟨m,h1,h2,h3⟩:=rs_l2 z acc.reverse k hlt (by omega) acc [] fuel (by simp) (by have:=fuel_pos;omega) (by simp;omega)
  have hm:m≤acc.reverse.length:=by simpa using h2
  rw [p_ref20_Sort_l1,lt_tt hlt,cond_true,List.length_reverse,h1,Option.bind_some,cutTo hm,Option.bind_some,app_ok (by simp;omega),Option.bind_some,at_lt hlt,Option.bind_some,app_ok (by simp;omega),Option.bind_some,cutFrom hm,Option.bind_some,app_ok (by simp;omega),Option.bind_some,w64_succ (by omega),drop_at hlt]
  have e:[]++acc.reverse.take m++[z[k]]++acc.reverse.drop m=(insR z[k] acc).reverse:=by
   rw [List.nil_append,List.append_assoc]
   have:=h3
   rw [List.append_nil] at this
   exact this
  rw [e,rs_l1 z hn n (k + 1) F (insR z[k] acc) (by omega) (by omega) (by rw [insR_len];omega),sortR]
theorem rsort_p (l:List ItemItem) (hn:l.length≤400):p_ref20_Sort l=some (sortI l):=by
 unfold p_ref20_Sort
 have:=rs_l1 l hn l.length 0 fuel [] (by omega) (by have:=fuel_pos;omega) rfl
 rw [List.drop_zero] at this
 have h2:p_ref20_Sort_l1 l fuel [] 0=some ((sortR [] l).reverse,(l.length:Int)):=this
 rw [h2];rfl
theorem own_l (z:List ItemItem) (hn:z.length≤1000):∀ (n k F:Nat) (acc:List ItemItem),k + n=z.length→n < F→acc.length=k→p_law20_Own_l1 z F acc (k:Int)=some (acc++z.drop k,(z.length:Int))
 | 0,k,F + 1,acc,hk,hF,ha=>by
  have e:k=z.length:=by omega
  rw [p_law20_Own_l1,lt_ff (by omega),e,List.drop_length,List.append_nil];rfl
 | n + 1,k,F + 1,acc,hk,hF,ha=>by
  have hlt:k < z.length:=by omega
  rw [p_law20_Own_l1,lt_tt hlt,cond_true,at_lt hlt,Option.bind_some,app_ok (by simp;omega),Option.bind_some,w64_succ (by omega),own_l z hn n (k + 1) F _ (by omega) (by omega) (by simp;omega),drop_at hlt]
  simp
theorem own_p (l:List ItemItem) (hn:l.length≤1000):p_law20_Own l=some l:=by
 unfold p_law20_Own
 have h2:p_law20_Own_l1 l fuel [] 0=some (l,(l.length:Int)):=own_l l hn l.length 0 fuel [] (by omega) (by have:=fuel_pos;omega) rfl
 rw [h2];rfl
theorem back_l (z:List ItemItem) (hn:z.length≤1000):∀ (n k F:Nat) (acc:List ItemItem),k + n=z.length→n < F→acc.length=k→p_law20_Back_l1 z F acc (k:Int)=some (acc++z.drop k,(z.length:Int))
 | 0,k,F + 1,acc,hk,hF,ha=>by
  have e:k=z.length:=by omega
  rw [p_law20_Back_l1,lt_ff (by omega),e,List.drop_length,List.append_nil];rfl
 | n + 1,k,F + 1,acc,hk,hF,ha=>by
  have hlt:k < z.length:=by omega
  rw [p_law20_Back_l1,lt_tt hlt,cond_true,at_lt hlt,Option.bind_some,app_ok (by simp;omega),Option.bind_some,w64_succ (by omega),back_l z hn n (k + 1) F _ (by omega) (by omega) (by simp;omega),drop_at hlt]
  simp
theorem back_p (l:List ItemItem) (hn:l.length≤1000):p_law20_Back l=some l:=by
 unfold p_law20_Back
 have h2:p_law20_Back_l1 l fuel [] 0=some (l,(l.length:Int)):=back_l l hn l.length 0 fuel [] (by omega) (by have:=fuel_pos;omega) rfl
 rw [h2];rfl
theorem same_l (z:List ItemItem) (hn:z.length≤1000):∀ (n k F:Nat),k + n=z.length→n < F→p_ref20_SameItems_l1 z z F (k:Int)=some (.inr (z.length:Int))
 | 0,k,F + 1,hk,hF=>by
  have e:k=z.length:=by omega
  rw [p_ref20_SameItems_l1,lt_ff (by omega),e];rfl
 | n + 1,k,F + 1,hk,hF=>by
  have hlt:k < z.length:=by omega
  rw [p_ref20_SameItems_l1,lt_tt hlt,cond_true,at_lt hlt]
  simp only [Option.bind_some,eqT_refl,beq_self_eq_true,Bool.and_self,Bool.and_true,cond_true]
  rw [w64_succ (by omega),same_l z hn n (k + 1) F (by omega) (by omega)]
theorem same_p (l:List ItemItem) (hn:l.length≤1000):p_ref20_SameItems l l=some true:=by
 unfold p_ref20_SameItems
 rw [bne_self_eq_false,cond_false]
 have h2:p_ref20_SameItems_l1 l l fuel 0=some (.inr (l.length:Int)):=same_l l hn l.length 0 fuel (by omega) (by have:=fuel_pos;omega)
 rw [h2];rfl
end Go.Proofs.YtpmoioopjbfhkaaGreat

/- ItemReads in plain words. -/
namespace Go.Proofs.YtpmoioopjbfhkaaGreat
open Go.RowKit
def fold8 (N:Nat) (l:List UInt8):Nat:=l.foldl (fun n b=>n * 256 + b.toNat) N
theorem or8 (a:Nat) (b:UInt8) (h:a < 281474976710656):orI .i64 (shlI .i64 (a:Int) (8:Int)) (w64 (b.toNat:Int))=((a * 256 + b.toNat:Nat):Int):=by
 have hb:b.toNat < 256:=b.toNat_lt
 have hs:shlI .i64 (a:Int) (8:Int)=((a * 256:Nat):Int):=by
  unfold shlI
  rw [show min (8:Int).toNat IntKind.i64.bits=8 by decide,wrap_ok (by omega)];omega
 rw [hs,w64_id (by omega)]
 have e:(BitVec.ofInt 64 ((a * 256:Nat):Int) ||| BitVec.ofInt 64 ((b.toNat:Nat):Int)).toNat=a * 256 + b.toNat:=by
  rw [BitVec.toNat_or,BitVec.ofInt_natCast,BitVec.ofInt_natCast,BitVec.toNat_ofNat,BitVec.toNat_ofNat,Nat.mod_eq_of_lt (by omega),Nat.mod_eq_of_lt (by omega)]
  have:=Nat.shiftLeft_add_eq_or_of_lt (i:=8) (by omega:b.toNat < 2 ^ 8) a
  rw [Nat.shiftLeft_eq] at this
  exact this.symm
 show IntKind.i64.wrap ((BitVec.ofInt 64 ((a * 256:Nat):Int) ||| BitVec.ofInt 64 ((b.toNat:Nat):Int)).toNat:Int)=_
 rw [e]
 exact wrap_ok (by omega)
theorem bytesI_at {s:ByteArray} {k:Nat} (h:k < s.data.toList.length):at? (bytesI s) (k:Int)=some ((s.data.toList[k]).toNat:Int):=by
 unfold bytesI
 rw [at_nat,List.getElem?_map,List.getElem?_eq_getElem h];rfl
theorem num_l (s:ByteArray) (hl:s.data.toList.length≤6):∀ (n k F N:Nat),k + n=s.data.toList.length→n < F→N < 256 ^ k→p_octet_Num_l1 (bytesI s) ((bytesI s).length:Int) F (N:Int) (k:Int)=some (((fold8 N (s.data.toList.drop k):Nat):Int),((bytesI s).length:Int))
 | 0,k,F + 1,N,hk,hF,hN=>by
  have e:(bytesI s).length=s.data.toList.length:=by unfold bytesI;simp
  rw [p_octet_Num_l1,lt_ff (by omega),show k=s.data.toList.length by omega,List.drop_length,e];rfl
 | n + 1,k,F + 1,N,hk,hF,hN=>by
  have e:(bytesI s).length=s.data.toList.length:=by unfold bytesI;simp
  have hlt:k < s.data.toList.length:=by omega
  have hb:(s.data.toList[k]).toNat < 256:=(s.data.toList[k]).toNat_lt
  have h48:N < 281474976710656:=Nat.lt_of_lt_of_le hN (by
   have:(256:Nat) ^ k≤256 ^ 6:=Nat.pow_le_pow_right (by decide) (by omega)
   have h6:(256:Nat) ^ 6=281474976710656:=by decide
   omega)
  rw [p_octet_Num_l1,lt_tt (by omega),cond_true,bytesI_at hlt,Option.bind_some,or8 _ _ h48,w64_succ (by omega),num_l s hl n (k + 1) F _ (by omega) (by omega) (by rw [Nat.pow_succ];omega),drop_at hlt]
  rfl
theorem rnum_l (s:ByteArray) (bad:Int) (hs:s.data.toList.length≤1000) (z:Nat):∀ (n j at_ F N:Nat),j + n=z→z≤6→at_ + n≤s.data.toList.length→n < F→N < 256 ^ j→p_ref01_Num_l1 (z:Int) F (N:Int) (j:Int) ⟨s,(at_:Int),bad⟩=some (((fold8 N ((s.data.toList.drop at_).take n):Nat):Int),(z:Int),⟨s,((at_ + n:Nat):Int),bad⟩)
 | 0,j,at_,F + 1,N,hj,hz,ha,hF,hN=>by
  rw [p_ref01_Num_l1,lt_ff (by omega),show j=z by omega]
  rw [List.take_zero];rfl
 | n + 1,j,at_,F + 1,N,hj,hz,ha,hF,hN=>by
  have hlt:at_ < s.data.toList.length:=by omega
  have hsz:at_ < s.size:=by simpa using hlt
  have hb:(s.data.toList[at_]).toNat < 256:=(s.data.toList[at_]).toNat_lt
  have h48:N < 281474976710656:=Nat.lt_of_lt_of_le hN (by
   have:(256:Nat) ^ j≤256 ^ 6:=Nat.pow_le_pow_right (by decide) (by omega)
   have h6:(256:Nat) ^ 6=281474976710656:=by decide
   omega)
  have hbyte:byte? s (at_:Int)=some ((s.data.toList[at_]).toNat:Int):=by
   rw [byte_at hsz];simp [ByteArray.getElem_eq_getElem_data]
  rw [p_ref01_Num_l1,lt_tt (by omega),cond_true]
  show ((byte? s (at_:Int)).bind _)=_
  have e1:w64 (w64 ((256:Int) * (N:Int)) + w64 ((s.data.toList[at_]).toNat:Int))=((N * 256 + (s.data.toList[at_]).toNat:Nat):Int):=by
   rw [w64_id (r:=(256:Int) * (N:Int)) (by omega),w64_id (r:=((s.data.toList[at_]).toNat:Int)) (by omega),w64_id (by omega)];omega
  rw [hbyte,Option.bind_some,e1,w64_succ (k:=j) (by omega)]
  show p_ref01_Num_l1 (z:Int) F _ _ ⟨s,w64 ((at_:Int) + 1),bad⟩=_
  rw [w64_succ (by omega),rnum_l s bad hs z n (j + 1) (at_ + 1) F _ (by omega) hz (by omega) (by omega) (by rw [Nat.pow_succ];omega),drop_at hlt]
  rw [show at_ + 1 + n=at_ + (n + 1) by omega,List.take_succ_cons]
  rfl
theorem sub_list {s:ByteArray} {a n:Nat} (h:a + n≤s.data.toList.length):∃ x:ByteArray,sub? s (some (a:Int)) (some ((a + n:Nat):Int))=some x∧x.data.toList=(s.data.toList.drop a).take n:=by
 have hs:s.data.toList.length=s.size:=by simp
 refine ⟨s.extract a (a + n),?_,?_⟩
 ·unfold sub?
  simp only [Option.getD_some]
  rw [if_pos (by omega)];rfl
 ·rw [ByteArray.data_extract,Array.toList_extract,List.extract_eq_take_drop,Nat.add_sub_cancel_left]
theorem fold8_lt:∀ (l:List UInt8) (N k:Nat),N < 256 ^ k→fold8 N l < 256 ^ (k + l.length)
 | [],N,k,h=>by simpa [fold8] using h
 | b :: l,N,k,h=>by
  have hb:b.toNat < 256:=b.toNat_lt
  have:=fold8_lt l (N * 256 + b.toNat) (k + 1) (by rw [Nat.pow_succ];omega)
  rw [List.length_cons,show k + (l.length + 1)=k + 1 + l.length by omega]
  exact this
structure RdOk (r:OctetRead):Prop where
 size:r.S.data.toList.length≤1000
theorem fault_cases (r:OctetRead):∃ e,p_octet_Read_fault r=some e∧(e≠0∨(r.Bad=0∧∃ a:Nat,r.At=a∧a≤r.S.data.toList.length)):=by
 have hs:r.S.data.toList.length=r.S.size:=by simp
 unfold p_octet_Read_fault
 by_cases h:r.Bad=0
 ·rw [show (r.Bad == 0)=true by simpa using h,cond_true]
  by_cases h1:r.At < 0
  ·rw [show decide (r.At < 0)=true by simpa using h1];exact ⟨_,rfl,.inl (by decide)⟩
  ·rw [show decide (r.At < 0)=false by simpa using h1,cond_false]
   by_cases h2:(r.S.size:Int) < r.At
   ·rw [show decide ((r.S.size:Int) < r.At)=true by simpa using h2];exact ⟨_,rfl,.inl (by decide)⟩
   ·rw [show decide ((r.S.size:Int) < r.At)=false by simpa using h2]
    exact ⟨_,rfl,.inr ⟨h,r.At.toNat,by omega,by omega⟩⟩
 ·rw [show (r.Bad == 0)=false by simpa using h];exact ⟨_,rfl,.inl h⟩
theorem left_p {r:OctetRead} (hr:RdOk r):∃ n:Int,p_octet_Left r=some n∧p_ref01_Left r=some n∧∀ e,p_octet_Read_fault r=some e→e=0→n=(r.S.size:Int) - r.At:=by
 have h1:=hr.size
 have hs:r.S.data.toList.length=r.S.size:=by simp
 obtain ⟨e,he,hc⟩:=fault_cases r
 have e2:p_ref01_bad r=some e:=he
 unfold p_octet_Left p_ref01_Left
 rw [he,e2]
 simp only [Option.bind_some]
 by_cases h:e=0
 ·rw [show (e != 0)=false by simpa using h,cond_false]
  rcases hc with hc | ⟨_,a,ha,hl⟩
  ·exact absurd h hc
  ·refine ⟨_,rfl,rfl,fun _ _ _=>?_⟩
   rw [w64_id (by omega)]
 ·rw [show (e != 0)=true by simpa using h,cond_true]
  exact ⟨_,rfl,rfl,fun e' he' h0=>by
   cases he'
   exact absurd h0 h⟩
theorem num_p {r:OctetRead} (hr:RdOk r) {w:Nat} (hw:w=1∨w=6):∃ (r' : OctetRead) (n:Nat),p_octet_Num r (w:Int)=some (r',(n:Int))∧p_ref01_Num r (w:Int)=some (r',(n:Int))∧r'.S=r.S∧n < 256 ^ w∧(r'.Bad=0→∃ a:Nat,r'.At=(a:Int)∧a≤r'.S.data.toList.length):=by
 have hsz:=hr.size
 have hs:r.S.data.toList.length=r.S.size:=by simp
 have hp0:0 < 256 ^ w:=Nat.pos_of_ne_zero (by rcases hw with rfl | rfl <;> decide)
 obtain ⟨e,he,hc⟩:=fault_cases r
 have e2:p_ref01_bad r=some e:=he
 obtain ⟨lf,hl1,hl2,hl3⟩:=left_p hr
 unfold p_octet_Num p_ref01_Num
 rw [he,e2]
 simp only [Option.bind_some]
 by_cases h:e=0
 ·rw [show (e != 0)=false by simpa using h,cond_false,cond_false]
  have w1:p_octet_wide (w:Int)=some true:=by rcases hw with rfl | rfl <;> kernel_rfl
  have w2:p_ref01_wide (w:Int)=some true:=by rcases hw with rfl | rfl <;> kernel_rfl
  rw [w1,w2,hl1,hl2]
  simp only [Option.bind_some,cond_true]
  rcases hc with hc | ⟨hb,a,ha,hal⟩
  ·exact absurd h hc
  have hlf:=hl3 e he h
  by_cases h2:lf < (w:Int)
  ·rw [show decide (lf < (w:Int))=true by simpa using h2,cond_true,cond_true]
   exact ⟨_,0,rfl,rfl,rfl,hp0,fun h=>by have h3:(3:Int)=0:=h;omega⟩
  ·rw [show decide (lf < (w:Int))=false by simpa using h2,cond_false,cond_false]
   have haw:a + w≤r.S.data.toList.length:=by omega
   have hw6:w≤6:=by omega
   obtain ⟨x,hx1,hx2⟩:=sub_list haw
   have hxl:x.data.toList.length=w:=by rw [hx2,List.length_take,List.length_drop];omega
   rw [ha,w64_id (by omega),show (a:Int) + (w:Int)=((a + w:Nat):Int) by omega,hx1,Option.bind_some]
   have n1:=num_l x (by omega) w 0 fuel 0 (by omega) (by have:=fuel_pos;omega) (by decide)
   have n2:=rnum_l r.S r.Bad hsz w w 0 a fuel 0 (by omega) hw6 haw (by have:=fuel_pos;omega) (by decide)
   have er:(⟨r.S,(a:Int),r.Bad⟩ : OctetRead)=r:=by cases r;simp at ha;simp [ha]
   rw [er] at n2
   rw [List.drop_zero,hx2] at n1
   have z0:((0:Nat):Int)=0:=rfl
   rw [z0] at n1 n2
   rw [n1,n2]
   refine ⟨_,fold8 0 ((r.S.data.toList.drop a).take w),rfl,rfl,rfl,?_,fun _=>⟨a + w,rfl,haw⟩⟩
   have:=fold8_lt ((r.S.data.toList.drop a).take w) 0 0 (by decide)
   rw [Nat.zero_add,List.length_take,List.length_drop,Nat.min_eq_left (by omega)] at this
   exact this
 ·rw [show (e != 0)=true by simpa using h]
  exact ⟨_,0,rfl,rfl,rfl,hp0,fun h'=>absurd h' h⟩
theorem fault_ok {r:OctetRead} (h:r.Bad=0) {a:Nat} (ha:r.At=(a:Int)) (hl:a≤r.S.data.toList.length):p_octet_Read_fault r=some 0:=by
 have hs:r.S.data.toList.length=r.S.size:=by simp
 unfold p_octet_Read_fault
 rw [h,ha,show decide ((a:Int) < 0)=false by simp,show decide ((r.S.size:Int) < (a:Int))=false by simp;omega]
 rfl
theorem text_r {r:OctetRead} (hr:RdOk r) (m:Int):∃ (r' : OctetRead) (s:ByteArray),p_octet_Text r m=some (r',s)∧p_ref01_Text r m=some (r',s)∧r'.S=r.S∧s.size≤1000:=by
 have hsz:=hr.size
 obtain ⟨r1,n,h1,h2,h3,h4,h5⟩:=num_p hr (w:=1) (.inl rfl)
 have h1' : p_octet_Num r 1=some (r1,(n:Int)):=h1
 have h2' : p_ref01_Num r 1=some (r1,(n:Int)):=h2
 have hr1:RdOk r1:=⟨by rw [h3];exact hsz⟩
 obtain ⟨lf,l1,l2,l3⟩:=left_p hr1
 unfold p_octet_Text p_ref01_Text
 rw [h1',h2']
 simp only [Option.bind_some]
 by_cases hb:r1.Bad=0
 ·rw [show (r1.Bad != 0)=false by simpa using hb,cond_false,cond_false]
  obtain ⟨a,ha,hal⟩:=h5 hb
  have hf:=fault_ok hb ha hal
  have hlf:=l3 0 hf rfl
  have hs1:r1.S.data.toList.length=r1.S.size:=by simp
  by_cases hm:m < (n:Int)
  ·rw [show decide (m < (n:Int))=true by simpa using hm,cond_true,cond_true]
   exact ⟨_,_,rfl,rfl,rfl,by decide⟩
  ·rw [show decide (m < (n:Int))=false by simpa using hm,cond_false,cond_false,l1,l2]
   simp only [Option.bind_some]
   by_cases hn:lf < (n:Int)
   ·rw [show decide (lf < (n:Int))=true by simpa using hn,cond_true,cond_true]
    exact ⟨_,_,rfl,rfl,rfl,by decide⟩
   ·rw [show decide (lf < (n:Int))=false by simpa using hn,cond_false,cond_false]
    have hlen:a + n≤r1.S.data.toList.length:=by omega
    obtain ⟨x,hx1,hx2⟩:=sub_list hlen
    have hxl:x.size=n:=by
     have:x.data.toList.length=n:=by rw [hx2,List.length_take,List.length_drop];omega
     simpa using this
    rw [h3] at hx1
    rw [ha,h3,w64_id (by rw [h3] at hlen;omega),show (a:Int) + (n:Int)=((a + n:Nat):Int) by omega,hx1]
    exact ⟨_,_,rfl,rfl,rfl,by rw [h3] at hlen;omega⟩
 ·rw [show (r1.Bad != 0)=true by simpa using hb,cond_true,cond_true]
  exact ⟨_,_,rfl,rfl,h3,by decide⟩
theorem done_p {r:OctetRead} (hr:RdOk r):∃ e,p_octet_Done r=some e∧p_ref01_Done r=some e:=by
 have hs:r.S.data.toList.length=r.S.size:=by simp
 have h1:=hr.size
 obtain ⟨e,he,hc⟩:=fault_cases r
 have e2:p_ref01_bad r=some e:=he
 obtain ⟨lf,l1,l2,l3⟩:=left_p hr
 unfold p_octet_Done p_ref01_Done
 rw [he,e2,l2]
 simp only [Option.bind_some]
 by_cases h:e=0
 ·have:=l3 e he h
  subst h
  rw [show ((0:Int) != 0)=false from rfl,show ((0:Int) == 0)=true from rfl,cond_false,cond_true]
  by_cases h2:r.At < (r.S.size:Int)
  ·rw [show decide (r.At < (r.S.size:Int))=true by simpa using h2,show decide ((0:Int) < lf)=true by simp;omega]
   exact ⟨_,rfl,rfl⟩
  ·rw [show decide (r.At < (r.S.size:Int))=false by simpa using h2,show decide ((0:Int) < lf)=false by simp;omega]
   exact ⟨_,rfl,rfl⟩
 ·rw [show (e != 0)=true by simpa using h,show (e == 0)=false by simpa using h]
  exact ⟨_,rfl,rfl⟩
theorem bits32 {n:Nat} (h:n≤31):andNotI .i64 (n:Int) (16:Int)=Int.tmod (n:Int) 16∧(andI .i64 (n:Int) (16:Int) != 0)=decide ((16:Int)≤(n:Int)):=by
 have key:((List.range 32).all fun n:Nat=>(andNotI .i64 (n:Int) (16:Int) == Int.tmod (n:Int) 16) && ((andI .i64 (n:Int) (16:Int) != 0) == decide ((16:Int)≤(n:Int))))=true:=by kernel_rfl
 have:=List.all_eq_true.1 key n (List.mem_range.2 (by omega))
 simpa using this
theorem get_p {b:ByteArray} (hb:b.size≤150):∃ (x:ItemItem) (e:Int),p_item_Get b=some (x,e)∧p_ref20_Get b=some (x,e):=by
 have hr0:RdOk ⟨b,0,0⟩:=⟨by show b.data.toList.length≤1000;simp;omega⟩
 obtain ⟨r1,s1,a1,b1,c1,d1⟩:=text_r hr0 33
 have hr1:RdOk r1:=⟨by rw [c1];exact hr0.size⟩
 obtain ⟨r2,s2,a2,b2,c2,d2⟩:=text_r hr1 24
 have hr2:RdOk r2:=⟨by rw [c2];exact hr1.size⟩
 obtain ⟨r3,n,a3,b3,c3,d3,_⟩:=num_p hr2 (w:=1) (.inl rfl)
 have hr3:RdOk r3:=⟨by rw [c3];exact hr2.size⟩
 obtain ⟨r4,v,a4,b4,c4,d4,_⟩:=num_p hr3 (w:=6) (.inr rfl)
 have hr4:RdOk r4:=⟨by rw [c4];exact hr3.size⟩
 obtain ⟨e,a5,b5⟩:=done_p hr4
 have a3' : p_octet_Num r2 1=some (r3,(n:Int)):=a3
 have b3' : p_ref01_Num r2 1=some (r3,(n:Int)):=b3
 have a4' : p_octet_Num r3 6=some (r4,(v:Int)):=a4
 have b4' : p_ref01_Num r3 6=some (r4,(v:Int)):=b4
 unfold p_item_Get p_ref20_Get p_octet_Open p_ref01_Open
 simp only [Option.bind_some,a1,b1,a2,b2,a3',b3',a4',b4',a5,b5]
 by_cases he:e=0
 ·rw [show (e != 0)=false by simpa using he,cond_false,cond_false]
  by_cases hn:31 < n
  ·rw [show decide ((31:Int) < (n:Int))=true by simp;omega]
   exact ⟨_,_,rfl,rfl⟩
  ·obtain ⟨k1,k2⟩:=bits32 (show n≤31 by omega)
   rw [show decide ((31:Int) < (n:Int))=false by simp;omega,cond_false,cond_false,k1,k2,check_p (by show s1.size≤100000;omega) (by show s2.size≤100000;omega),rcheck_p (by show s1.size≤100000;omega) (by show s2.size≤100000;omega)]
   simp only [Option.bind_some]
   generalize chkI _=c
   by_cases hc:c=0
   ·rw [show (c != 0)=false by simpa using hc];exact ⟨_,_,rfl,rfl⟩
   ·rw [show (c != 0)=true by simpa using hc];exact ⟨_,_,rfl,rfl⟩
 ·rw [show (e != 0)=true by simpa using he]
  exact ⟨_,_,rfl,rfl⟩
theorem reads_l (z:List ItemItem) (hn:z.length≤1000):∀ (n k F:Nat),k + n=z.length→n < F→p_law20_ItemReads_l1 z F (k:Int)=some (.inl true)∨p_law20_ItemReads_l1 z F (k:Int)=some (.inr (z.length:Int))
 | 0,k,F + 1,hk,hF=>by
  right
  rw [p_law20_ItemReads_l1,lt_ff (by omega),show k=z.length by omega];rfl
 | n + 1,k,F + 1,hk,hF=>by
  have hlt:k < z.length:=by omega
  rw [p_law20_ItemReads_l1,lt_tt hlt,cond_true,at_lt hlt,Option.bind_some,light_p,Option.bind_some]
  cases (decide (z[k].Contact.size≤100) && decide (z[k].Name.size≤100)) with
  | true=>rw [cond_true,w64_succ (by omega)];exact reads_l z hn n (k + 1) F (by omega) (by omega)
  | false=>left;rw [cond_false,p_law20_awake_true];rfl
theorem itemReads_pure (b:ByteArray) (l:List ItemItem):p_law20_ItemReads b l=some true:=by
 unfold p_law20_ItemReads
 rw [p_law20_awake_true]
 simp only [Option.bind_some]
 by_cases hb:(150:Int) < (b.size:Int)
 ·rw [show decide ((150:Int) < (b.size:Int))=true by simpa using hb];rfl
 rw [show decide ((150:Int) < (b.size:Int))=false by simpa using hb,cond_false]
 by_cases hl:(20:Int) < (l.length:Int)
 ·rw [show decide ((20:Int) < (l.length:Int))=true by simpa using hl];rfl
 rw [show decide ((20:Int) < (l.length:Int))=false by simpa using hl,cond_false]
 have hll:l.length≤20:=by omega
 have h0:=reads_l l (by omega) l.length 0 fuel (by omega) (by have:=fuel_pos;omega)
 have z0:((0:Nat):Int)=0:=rfl
 rw [z0] at h0
 rcases h0 with h0 | h0
 ·rw [h0];rfl
 ·rw [h0]
  obtain ⟨x,e,g1,g2⟩:=get_p (b:=b) (by omega)
  have hsl:=sortI_len l
  simp only [Option.bind_some,g1,g2,own_p l (by omega),eqT_refl,beq_self_eq_true,Bool.and_self,Bool.and_true,cond_true,sort_p l hll,back_p (sortI l) (by omega),rsort_p l (by omega),same_p (sortI l) (by omega),back_p l (by omega),same_p l (by omega)]
end Go.Proofs.YtpmoioopjbfhkaaGreat

/- That the program's functions yield what the plain ones tell (written by a program of mine). -/
namespace Go.Proofs.YtpmoioopjbfhkaaGreat
open Go.RowKit
set_option maxRecDepth 100000
set_option maxHeartbeats 4000000
def gc98:BCode:=(.seq (.reg 2 [⟨(some 2),.bx (.tmp 0),none,0⟩,⟨(some 4),.al (.agg [(.lit (.string ⟨#[]⟩)),(.lit (.int .i64 0)),(.lit (.int .i64 0))]),none,1⟩,⟨(some 5),.mv (.const (.string ⟨#[]⟩)),none,2⟩] none 0 []) (.seq (.reg 1 [⟨(some 9),.ld 3 true (.tmp 2),none,0⟩,⟨(some 6),.al (.agg [(.lit (.string ⟨#[]⟩)),(.lit (.int .i64 0)),(.lit (.int .i64 0))]),none,0⟩,⟨none,.st 3 (.tmp 6) (.tmp 9),none,1⟩] none 0 []) (.seq (.reg 0 [⟨(some 11),.ld 3 true (.tmp 2),none,0⟩,⟨(some 12),.cl 99 [(.tmp 11),(.const (.int .i64 1))],none,0⟩,⟨(some 10),.mv (.tmp 12),none,0⟩,⟨(some 13),.ex (.tmp 10) 0,none,0⟩,⟨(some 14),.ex (.tmp 10) 1,none,0⟩,⟨none,.st 3 (.tmp 2) (.tmp 13),none,0⟩,⟨(some 7),.mv (.tmp 14),none,0⟩] none 0 []) (.seq (.block 0 (.seq (.reg 0 [⟨(some 16),.fa 2 (.tmp 2),none,0⟩,⟨(some 17),.ld 1 false (.tmp 16),none,0⟩,⟨(some 18),.bin .neq (.tmp 17) (.const (.int .i64 0)),none,0⟩,⟨(some 15),.mv (.tmp 18),none,0⟩] none 0 []) (.cond (.tmp 15) (.seq (.reg 0 [⟨(some 19),.ld 3 true (.tmp 2),none,0⟩,⟨none,.st 3 (.tmp 4) (.tmp 19),none,0⟩,⟨(some 5),.mv (.const (.string ⟨#[]⟩)),none,0⟩] none 0 []) .ret) (.seq (.reg 0 [⟨(some 21),.mv (.tmp 7),none,0⟩,⟨(some 22),.mv (.tmp 1),none,0⟩,⟨(some 23),.bin .gtr (.tmp 21) (.tmp 22),none,0⟩,⟨(some 20),.mv (.tmp 23),none,0⟩] none 0 []) (.cond (.tmp 20) (.seq (.reg 0 [⟨(some 24),.ld 3 true (.tmp 6),none,0⟩,⟨(some 25),.cl 163 [(.tmp 24),(.const (.int .i64 5))],none,0⟩,⟨none,.st 3 (.tmp 4) (.tmp 25),none,0⟩,⟨(some 5),.mv (.const (.string ⟨#[]⟩)),none,0⟩] none 0 []) .ret) (.seq (.reg 0 [⟨(some 27),.mv (.tmp 7),none,0⟩,⟨(some 28),.ld 3 true (.tmp 2),none,0⟩,⟨(some 29),.cl 164 [(.tmp 28)],none,0⟩,⟨(some 30),.bin .gtr (.tmp 27) (.tmp 29),none,0⟩,⟨(some 26),.mv (.tmp 30),none,0⟩] none 0 []) (.cond (.tmp 26) (.seq (.reg 0 [⟨(some 31),.ld 3 true (.tmp 6),none,0⟩,⟨(some 32),.cl 163 [(.tmp 31),(.const (.int .i64 3))],none,0⟩,⟨none,.st 3 (.tmp 4) (.tmp 32),none,0⟩,⟨(some 5),.mv (.const (.string ⟨#[]⟩)),none,0⟩] none 0 []) .ret) .skip))))))) (.seq (.reg 0 [⟨(some 33),.fa 0 (.tmp 2),none,0⟩,⟨(some 34),.ld 1 false (.tmp 33),none,0⟩,⟨(some 35),.fa 1 (.tmp 2),none,0⟩,⟨(some 36),.ld 1 false (.tmp 35),none,0⟩,⟨(some 37),.fa 1 (.tmp 2),none,0⟩,⟨(some 38),.ld 1 false (.tmp 37),none,0⟩,⟨(some 39),.mv (.tmp 7),none,0⟩,⟨(some 40),.bin .add (.tmp 38) (.tmp 39),none,0⟩,⟨(some 41),.slt (.tmp 34) (some (.tmp 36)) (some (.tmp 40)),none,0⟩,⟨(some 8),.mv (.tmp 41),none,0⟩] none 0 []) (.seq (.reg 0 [⟨(some 42),.fa 1 (.tmp 2),none,0⟩,⟨(some 43),.ld 1 false (.tmp 42),none,0⟩,⟨(some 44),.mv (.tmp 7),none,0⟩,⟨(some 45),.bin .add (.tmp 43) (.tmp 44),none,0⟩,⟨(some 46),.fa 1 (.tmp 2),none,0⟩,⟨none,.st 1 (.tmp 46) (.tmp 45),none,0⟩] none 0 []) (.seq (.reg 0 [⟨(some 47),.ld 3 true (.tmp 2),none,0⟩,⟨(some 48),.mv (.tmp 8),none,0⟩,⟨none,.st 3 (.tmp 4) (.tmp 47),none,0⟩,⟨(some 5),.mv (.tmp 48),none,0⟩] none 0 []) .ret)))))))
theorem gc98_ok:compF Tryz.prog Tryz.f98=some (gc98.er,49,[.cell 4 3 true,.tmp 5]):=by unfold gc98;kernel_rfl
theorem p_ref01_Text_v (a0:OctetRead) (a1:Int):CallsO Tryz.prog 98 [.agg [.s a0.S,.i a0.At,.i a0.Bad],.i a1] (fun r:OctetRead × ByteArray=>.tup [OctetRead.v r.1,V.s r.2]) (p_ref01_Text a0 a1):=by
 refine callsO_comp mix Tryz.func98 gc98_ok fun r H=>?_
 rw [p_ref01_Text] at H
 conv=>whnf
 refine ⟨Nat.le_of_ble_eq_true rfl,?_⟩;conv=>whnf
 refine ask_c (p_ref01_Num_v _ _) H rfl rfl (fun v1 H=>?_);conv=>whnf
 refine ⟨Nat.le_of_ble_eq_true rfl,?_⟩;conv=>whnf
 refine tst_c H (fun b2 H=>?_) (fun b2 H=>?_)
 ·conv=>whnf
  refine ⟨Nat.le_of_ble_eq_true rfl,?_⟩;conv=>whnf
  exact fin0_c (enc:=(fun r:OctetRead × ByteArray=>.tup [OctetRead.v r.1,V.s r.2])) H (.inr rfl) (.cons (.cell rfl rfl (Nat.le_of_ble_eq_true rfl)) (.cons (.tmp rfl) (.nil))) rfl rfl
 conv=>whnf
 refine tst_c H (fun b3 H=>?_) (fun b3 H=>?_)
 ·conv=>whnf
  refine ask_c (p_ref01_with_v _ _) H rfl rfl (fun v4 H=>?_);conv=>whnf
  refine ⟨Nat.le_of_ble_eq_true rfl,?_⟩;conv=>whnf
  exact fin0_c (enc:=(fun r:OctetRead × ByteArray=>.tup [OctetRead.v r.1,V.s r.2])) H (.inr rfl) (.cons (.cell rfl rfl (Nat.le_of_ble_eq_true rfl)) (.cons (.tmp rfl) (.nil))) rfl rfl
 conv=>whnf
 refine ask_c (p_ref01_Left_v _) H rfl rfl (fun v5 H=>?_);conv=>whnf
 refine tst_c H (fun b6 H=>?_) (fun b6 H=>?_)
 ·conv=>whnf
  refine ask_c (p_ref01_with_v _ _) H rfl rfl (fun v7 H=>?_);conv=>whnf
  refine ⟨Nat.le_of_ble_eq_true rfl,?_⟩;conv=>whnf
  exact fin0_c (enc:=(fun r:OctetRead × ByteArray=>.tup [OctetRead.v r.1,V.s r.2])) H (.inr rfl) (.cons (.cell rfl rfl (Nat.le_of_ble_eq_true rfl)) (.cons (.tmp rfl) (.nil))) rfl rfl
 conv=>whnf
 refine Ari.w ?_;conv=>whnf
 refine slt_c H (fun s8 H=>?_);conv=>whnf
 refine Ari.w ?_;conv=>whnf
 refine ⟨Nat.le_of_ble_eq_true rfl,?_⟩;conv=>whnf
 refine ⟨Nat.le_of_ble_eq_true rfl,?_⟩;conv=>whnf
 exact fin0_c (enc:=(fun r:OctetRead × ByteArray=>.tup [OctetRead.v r.1,V.s r.2])) H (.inr rfl) (.cons (.cell rfl rfl (Nat.le_of_ble_eq_true rfl)) (.cons (.tmp rfl) (.nil))) rfl rfl
def gc100:BCode:=(.seq (.reg 1 [⟨(some 1),.bx (.tmp 0),none,0⟩,⟨(some 2),.mv (.const (.int .i64 0)),none,1⟩] none 0 []) (.seq (.seq (.reg 0 [⟨(some 3),.ld 3 true (.tmp 1),none,0⟩,⟨(some 4),.cl 165 [(.tmp 3)],none,0⟩,⟨(some 5),.bin .eql (.tmp 4) (.const (.int .i64 0)),none,0⟩,⟨(some 6),.mv (.tmp 5),none,0⟩,⟨(some 7),.ld 3 true (.tmp 1),(some (6,true)),0⟩,⟨(some 8),.cl 164 [(.tmp 7)],(some (6,true)),0⟩,⟨(some 9),.bin .gtr (.tmp 8) (.const (.int .i64 0)),(some (6,true)),0⟩,⟨(some 10),.pick (.tmp 6) (.tmp 9) (.const (.bool false)),none,0⟩] none 0 []) (.cond (.tmp 10) (.seq (.reg 0 [⟨(some 2),.mv (.const (.int .i64 4)),none,0⟩] none 0 []) .ret) .skip)) (.seq (.reg 0 [⟨(some 11),.ld 3 true (.tmp 1),none,0⟩,⟨(some 12),.cl 165 [(.tmp 11)],none,0⟩,⟨(some 2),.mv (.tmp 12),none,0⟩] none 0 []) .ret)))
theorem gc100_ok:compF Tryz.prog Tryz.f100=some (gc100.er,13,[.tmp 2]):=by unfold gc100;kernel_rfl
theorem p_ref01_Done_v (a0:OctetRead):CallsO Tryz.prog 100 [.agg [.s a0.S,.i a0.At,.i a0.Bad]] V.i (p_ref01_Done a0):=by
 refine callsO_comp mix Tryz.func100 gc100_ok fun r H=>?_
 rw [p_ref01_Done] at H
 conv=>whnf
 refine ask_c (p_ref01_bad_v _) H rfl rfl (fun v1 H=>?_);conv=>whnf
 refine tst_d H (fun b2 H=>?_) (fun b2 H=>?_)
 ·conv=>whnf
  iterate 4 (refine Tst.F ?_;conv=>whnf)
  refine ask_c (p_ref01_bad_v _) H rfl rfl (fun v6 H=>?_);conv=>whnf
  exact fi_ H
 conv=>whnf
 refine Tst.T ?_;conv=>whnf
 refine ask_c (p_ref01_Left_v _) H rfl rfl (fun v3 H=>?_);conv=>whnf
 iterate 2 (refine Tst.T ?_;conv=>whnf)
 refine tst_c H (fun b4 H=>?_) (fun b4 H=>?_)
 ·conv=>whnf
  exact fi_ H
 conv=>whnf
 refine ask_c (p_ref01_bad_v _) H rfl rfl (fun v5 H=>?_);conv=>whnf
 exact fi_ H
def gc30:BCode:=(.seq (.reg 1 [⟨(some 2),.al (.agg [(.lit (.string ⟨#[]⟩)),(.lit (.string ⟨#[]⟩)),(.lit (.int .i64 0)),(.lit (.int .i64 0)),(.lit (.bool false))]),none,0⟩,⟨(some 3),.mv (.const (.int .i64 0)),none,1⟩] none 0 []) (.seq (.reg 1 [⟨(some 4),.al (.agg [(.lit (.string ⟨#[]⟩)),(.lit (.string ⟨#[]⟩)),(.lit (.int .i64 0)),(.lit (.int .i64 0)),(.lit (.bool false))]),none,0⟩] none 0 []) (.seq (.reg 1 [⟨(some 7),.mv (.tmp 0),none,0⟩,⟨(some 8),.cl 97 [(.tmp 7)],none,0⟩,⟨(some 5),.al (.agg [(.lit (.string ⟨#[]⟩)),(.lit (.int .i64 0)),(.lit (.int .i64 0))]),none,0⟩,⟨none,.st 3 (.tmp 5) (.tmp 8),none,1⟩] none 0 []) (.seq (.reg 0 [⟨(some 10),.ld 3 true (.tmp 5),none,0⟩,⟨(some 11),.cl 98 [(.tmp 10),(.const (.int .i64 33))],none,0⟩,⟨(some 9),.mv (.tmp 11),none,0⟩,⟨(some 12),.ex (.tmp 9) 0,none,0⟩,⟨(some 13),.ex (.tmp 9) 1,none,0⟩,⟨none,.st 3 (.tmp 5) (.tmp 12),none,0⟩,⟨(some 14),.fa 0 (.tmp 4),none,0⟩,⟨none,.st 1 (.tmp 14) (.tmp 13),none,0⟩] none 0 []) (.seq (.reg 0 [⟨(some 16),.ld 3 true (.tmp 5),none,0⟩,⟨(some 17),.cl 98 [(.tmp 16),(.const (.int .i64 24))],none,0⟩,⟨(some 15),.mv (.tmp 17),none,0⟩,⟨(some 18),.ex (.tmp 15) 0,none,0⟩,⟨(some 19),.ex (.tmp 15) 1,none,0⟩,⟨none,.st 3 (.tmp 5) (.tmp 18),none,0⟩,⟨(some 20),.fa 1 (.tmp 4),none,0⟩,⟨none,.st 1 (.tmp 20) (.tmp 19),none,0⟩] none 0 []) (.seq (.reg 0 [⟨(some 22),.ld 3 true (.tmp 5),none,0⟩,⟨(some 23),.cl 99 [(.tmp 22),(.const (.int .i64 1))],none,0⟩,⟨(some 21),.mv (.tmp 23),none,0⟩,⟨(some 24),.ex (.tmp 21) 0,none,0⟩,⟨(some 25),.ex (.tmp 21) 1,none,0⟩,⟨none,.st 3 (.tmp 5) (.tmp 24),none,0⟩,⟨(some 6),.mv (.tmp 25),none,0⟩] none 0 []) (.seq (.reg 0 [⟨(some 27),.ld 3 true (.tmp 5),none,0⟩,⟨(some 28),.cl 99 [(.tmp 27),(.const (.int .i64 6))],none,0⟩,⟨(some 26),.mv (.tmp 28),none,0⟩,⟨(some 29),.ex (.tmp 26) 0,none,0⟩,⟨(some 30),.ex (.tmp 26) 1,none,0⟩,⟨none,.st 3 (.tmp 5) (.tmp 29),none,0⟩,⟨(some 31),.fa 3 (.tmp 4),none,0⟩,⟨none,.st 1 (.tmp 31) (.tmp 30),none,0⟩] none 0 []) (.seq (.reg 0 [⟨(some 32),.mv (.tmp 6),none,0⟩,⟨(some 33),.bin .geq (.tmp 32) (.const (.int .i64 16)),none,0⟩,⟨(some 34),.mv (.tmp 6),none,0⟩,⟨(some 35),.bin .rem (.tmp 34) (.const (.int .i64 16)),none,0⟩,⟨(some 36),.fa 4 (.tmp 4),none,0⟩,⟨none,.st 1 (.tmp 36) (.tmp 33),none,0⟩,⟨(some 37),.fa 2 (.tmp 4),none,0⟩,⟨none,.st 1 (.tmp 37) (.tmp 35),none,0⟩] none 0 []) (.seq (.block 0 (.seq (.reg 0 [⟨(some 39),.ld 3 true (.tmp 5),none,0⟩,⟨(some 40),.cl 100 [(.tmp 39)],none,0⟩,⟨(some 41),.bin .neq (.tmp 40) (.const (.int .i64 0)),none,0⟩,⟨(some 38),.mv (.tmp 41),none,0⟩] none 0 []) (.cond (.tmp 38) (.seq (.reg 0 [⟨(some 42),.bd [(.lit (.string ⟨#[]⟩)),(.lit (.string ⟨#[]⟩)),(.lit (.int .i64 0)),(.lit (.int .i64 0)),(.lit (.bool false))] [],none,0⟩,⟨(some 43),.ld 3 true (.tmp 5),none,0⟩,⟨(some 44),.cl 100 [(.tmp 43)],none,0⟩,⟨none,.st 5 (.tmp 2) (.tmp 42),none,0⟩,⟨(some 3),.mv (.tmp 44),none,0⟩] none 0 []) .ret) (.seq (.reg 0 [⟨(some 46),.mv (.tmp 6),none,0⟩,⟨(some 47),.bin .gtr (.tmp 46) (.const (.int .i64 31)),none,0⟩,⟨(some 45),.mv (.tmp 47),none,0⟩] none 0 []) (.cond (.tmp 45) (.seq (.reg 0 [⟨(some 48),.bd [(.lit (.string ⟨#[]⟩)),(.lit (.string ⟨#[]⟩)),(.lit (.int .i64 0)),(.lit (.int .i64 0)),(.lit (.bool false))] [],none,0⟩,⟨none,.st 5 (.tmp 2) (.tmp 48),none,0⟩,⟨(some 3),.mv (.const (.int .i64 4)),none,0⟩] none 0 []) .ret) (.seq (.reg 0 [⟨(some 50),.ld 5 true (.tmp 4),none,0⟩,⟨(some 51),.cl 16 [(.tmp 50)],none,0⟩,⟨(some 52),.bin .neq (.tmp 51) (.const (.int .i64 0)),none,0⟩,⟨(some 49),.mv (.tmp 52),none,0⟩] none 0 []) (.cond (.tmp 49) (.seq (.reg 0 [⟨(some 53),.bd [(.lit (.string ⟨#[]⟩)),(.lit (.string ⟨#[]⟩)),(.lit (.int .i64 0)),(.lit (.int .i64 0)),(.lit (.bool false))] [],none,0⟩,⟨(some 54),.ld 5 true (.tmp 4),none,0⟩,⟨(some 55),.cl 16 [(.tmp 54)],none,0⟩,⟨none,.st 5 (.tmp 2) (.tmp 53),none,0⟩,⟨(some 3),.mv (.tmp 55),none,0⟩] none 0 []) .ret) .skip))))))) (.seq (.reg 0 [⟨(some 56),.ld 5 true (.tmp 4),none,0⟩,⟨none,.st 5 (.tmp 2) (.tmp 56),none,0⟩,⟨(some 3),.mv (.const (.int .i64 0)),none,0⟩] none 0 []) .ret))))))))))
theorem gc30_ok:compF Tryz.prog Tryz.f30=some (gc30.er,57,[.cell 2 5 true,.tmp 3]):=by unfold gc30;kernel_rfl
theorem p_ref20_Get_v (a0:ByteArray):CallsO Tryz.prog 30 [.s a0] (fun r:ItemItem × Int=>.tup [ItemItem.v r.1,V.i r.2]) (p_ref20_Get a0):=by
 refine callsO_comp mix Tryz.func30 gc30_ok fun r H=>?_
 rw [p_ref20_Get] at H
 conv=>whnf
 refine ask_c (p_ref01_Open_v _) H rfl rfl (fun v1 H=>?_);conv=>whnf
 refine ⟨Nat.le_of_ble_eq_true rfl,?_⟩;conv=>whnf
 refine ask_c (p_ref01_Text_v _ _) H rfl rfl (fun v2 H=>?_);conv=>whnf
 refine ⟨Nat.le_of_ble_eq_true rfl,?_⟩;conv=>whnf
 refine ⟨Nat.le_of_ble_eq_true rfl,?_⟩;conv=>whnf
 refine ask_c (p_ref01_Text_v _ _) H rfl rfl (fun v3 H=>?_);conv=>whnf
 refine ⟨Nat.le_of_ble_eq_true rfl,?_⟩;conv=>whnf
 refine ⟨Nat.le_of_ble_eq_true rfl,?_⟩;conv=>whnf
 refine ask_c (p_ref01_Num_v _ _) H rfl rfl (fun v4 H=>?_);conv=>whnf
 refine ⟨Nat.le_of_ble_eq_true rfl,?_⟩;conv=>whnf
 refine ask_c (p_ref01_Num_v _ _) H rfl rfl (fun v5 H=>?_);conv=>whnf
 refine ⟨Nat.le_of_ble_eq_true rfl,?_⟩;conv=>whnf
 refine ⟨Nat.le_of_ble_eq_true rfl,?_⟩;conv=>whnf
 refine ⟨by decide,?_⟩;conv=>whnf
 refine ⟨Nat.le_of_ble_eq_true rfl,?_⟩;conv=>whnf
 refine ⟨Nat.le_of_ble_eq_true rfl,?_⟩;conv=>whnf
 refine ask_c (p_ref01_Done_v _) H rfl rfl (fun v6 H=>?_);conv=>whnf
 refine tst_c H (fun b7 H=>?_) (fun b7 H=>?_)
 ·conv=>whnf
  refine ask_c (p_ref01_Done_v _) H rfl rfl (fun v8 H=>?_);conv=>whnf
  refine ⟨Nat.le_of_ble_eq_true rfl,?_⟩;conv=>whnf
  exact fin0_c (enc:=(fun r:ItemItem × Int=>.tup [ItemItem.v r.1,V.i r.2])) H (.inr rfl) (.cons (.cell rfl rfl (Nat.le_of_ble_eq_true rfl)) (.cons (.tmp rfl) (.nil))) rfl rfl
 conv=>whnf
 refine tst_c H (fun b9 H=>?_) (fun b9 H=>?_)
 ·conv=>whnf
  refine ⟨Nat.le_of_ble_eq_true rfl,?_⟩;conv=>whnf
  exact fin0_c (enc:=(fun r:ItemItem × Int=>.tup [ItemItem.v r.1,V.i r.2])) H (.inr rfl) (.cons (.cell rfl rfl (Nat.le_of_ble_eq_true rfl)) (.cons (.tmp rfl) (.nil))) rfl rfl
 conv=>whnf
 refine ask_c (p_ref20_Check_v _) H rfl rfl (fun v10 H=>?_);conv=>whnf
 refine tst_d H (fun b11 H=>?_) (fun b11 H=>?_)
 ·conv=>whnf
  refine ⟨Nat.le_of_ble_eq_true rfl,?_⟩;conv=>whnf
  exact fin0_c (enc:=(fun r:ItemItem × Int=>.tup [ItemItem.v r.1,V.i r.2])) H (.inr rfl) (.cons (.cell rfl rfl (Nat.le_of_ble_eq_true rfl)) (.cons (.tmp rfl) (.nil))) rfl rfl
 conv=>whnf
 refine ask_c (p_ref20_Check_v _) H rfl rfl (fun v12 H=>?_);conv=>whnf
 refine ⟨Nat.le_of_ble_eq_true rfl,?_⟩;conv=>whnf
 exact fin0_c (enc:=(fun r:ItemItem × Int=>.tup [ItemItem.v r.1,V.i r.2])) H (.inr rfl) (.cons (.cell rfl rfl (Nat.le_of_ble_eq_true rfl)) (.cons (.tmp rfl) (.nil))) rfl rfl
def gc31:BCode:=(.seq (.reg 0 [⟨(some 2),.mv (.const (.slice none 0 0)),none,0⟩] none 0 []) (.seq (.reg 0 [⟨(some 3),.mv (.const (.slice none 0 0)),none,0⟩] none 0 []) (.seq (.seq (.reg 0 [⟨(some 4),.mv (.const (.int .i64 0)),none,0⟩] none 0 []) (.block 0 (.loop (.seq (.seq (.reg 0 [⟨(some 5),.mv (.tmp 4),none,0⟩,⟨(some 6),.mv (.tmp 0),none,0⟩,⟨(some 7),.lens (.tmp 6),none,0⟩,⟨(some 8),.bin .lss (.tmp 5) (.tmp 7),none,0⟩] none 0 []) (.cond (.tmp 8) .skip (.exit 0))) (.seq (.block 1 (.reg 2 [⟨(some 11),.mv (.tmp 3),none,0⟩,⟨(some 12),.mv (.tmp 0),none,0⟩,⟨(some 13),.mv (.tmp 4),none,0⟩,⟨(some 14),.ixs 5 (.tmp 12) (.tmp 13),none,0⟩,⟨(some 15),.ld 5 true (.tmp 14),none,0⟩,⟨(some 16),.bs 5 1 [(.lit (.string ⟨#[]⟩)),(.lit (.string ⟨#[]⟩)),(.lit (.int .i64 0)),(.lit (.int .i64 0)),(.lit (.bool false))] [(0,(.tmp 15))],none,0⟩,⟨(some 17),.ap 5 56 (.tmp 11) (.tmp 16),none,1⟩,⟨(some 3),.mv (.tmp 17),none,2⟩] none 0 [])) (.reg 0 [⟨(some 9),.mv (.tmp 4),none,0⟩,⟨(some 10),.bin .add (.tmp 9) (.const (.int .i64 1)),none,0⟩,⟨(some 4),.mv (.tmp 10),none,0⟩] none 0 [])))))) (.seq (.reg 0 [⟨(some 18),.mv (.tmp 3),none,0⟩,⟨(some 2),.mv (.tmp 18),none,0⟩] none 0 []) .ret))))
theorem gc31_ok:compF Tryz.prog Tryz.f31=some (gc31.er,19,[.tmp 2]):=by unfold gc31;kernel_rfl
theorem p_law20_Own_v {u1:Bool} (a0:List ItemItem):CallsO Tryz.prog 31 [.sl (List.map ItemItem.v a0) u1] (fun l:List ItemItem=>V.sl (l.map ItemItem.v) false) (p_law20_Own a0):=by
 refine callsO_comp mix Tryz.func31 gc31_ok fun r H=>?_
 rw [p_law20_Own] at H
 conv=>whnf
 obtain ⟨o2,HL3,HQ4⟩:=bind_c H
 refine loop_c [3,4] [5,6,7,8,9,10,11,12,13,14,15,16,17] [5,6,7,8,9,10,11,12,13,14,15,16,17] (fun n vals st=>(∃ y6,p_law20_Own_l1  a0 n [] y6=some o2∧vals=[.sl (List.map ItemItem.v []) true,.i y6]∧st=[])∨(∃ y10 y11,p_law20_Own_l1  a0 n y10 y11=some o2∧vals=[.osl 0 0 (List.length y10) 5 false,.i y11]∧st=[.live (cellsM ItemItem.v y10) (cellsM ItemItem.v y10).length])) fuel 0 [] (.inl (⟨_,HL3,rfl,rfl⟩)) (Nat.zero_le _) rfl (by kernel_rfl) (by kernel_rfl) rfl trivial ?_
 rintro (_ | n5) _ _ (⟨y6,H,rfl,rfl⟩ | ⟨y10,y11,H,rfl,rfl⟩)
 ·rw [p_law20_Own_l1] at H;cases H
 ·rw [p_law20_Own_l1] at H;cases H
 ·rw [p_law20_Own_l1] at H
  conv=>whnf
  refine LenQ.M ?_;conv=>whnf
  refine tst_d H (fun b7 H=>?_) (fun b7 H=>?_)
  ·conv=>whnf
   obtain rfl:=Option.some.inj H
   have H:=HQ4
   try dsimp only at H
   refine finR_c (enc:=(fun l:List ItemItem=>V.sl (l.map ItemItem.v) false)) H ?_;conv=>whnf
   exact ⟨_,.v (.c (.slw))⟩
  conv=>whnf
  refine ixs_c (f:=ItemItem.v) H (fun _=>rfl) (fun x8 H=>?_);conv=>whnf
  refine appN_c (f:=ItemItem.v) H (fun _=>rfl) (srcM (f:=ItemItem.v) (fun _=>rfl) _ _) rfl (.v (srcOwn (f:=ItemItem.v) (l:=[x8]) (fun _=>rfl) rfl rfl rfl)) (by decide) rfl (by simp) (fun l9 H=>?_);conv=>whnf
  refine Ari.w ?_;conv=>whnf
  exact again_c [5,6,7,8,9,10,11,12,13,14,15,16,17] n5 1 [1] (.inr (⟨_,_,H,rfl,rfl⟩)) (Nat.lt_succ_self _) (Nat.zero_le _) rfl (by kernel_rfl) (by kernel_rfl) rfl (wkB_live0 rfl (cellsM_idlt (f:=ItemItem.v) (fun _=>rfl) _) rfl trivial)
 rw [p_law20_Own_l1] at H
 conv=>whnf
 refine LenQ.M ?_;conv=>whnf
 refine tst_d H (fun b12 H=>?_) (fun b12 H=>?_)
 ·conv=>whnf
  obtain rfl:=Option.some.inj H
  have H:=HQ4
  try dsimp only at H
  refine finR_c (enc:=(fun l:List ItemItem=>V.sl (l.map ItemItem.v) false)) H ?_;conv=>whnf
  exact ⟨_,.v (.c (fzown (f:=ItemItem.v) (l:=y10) rfl rfl (fun _=>rfl) (fun _=>rfl)))⟩
 conv=>whnf
 refine ixs_c (f:=ItemItem.v) H (fun _=>rfl) (fun x13 H=>?_);conv=>whnf
 refine appO_c (f:=ItemItem.v) H (fun _=>rfl) rfl (Nat.le_refl _) (.v (srcOwn (f:=ItemItem.v) (l:=[x13]) (fun _=>rfl) rfl rfl rfl)) (by decide) rfl (by simp) (fun l14 H=>?_);conv=>whnf
 refine Ari.w ?_;conv=>whnf
 exact again_c [5,6,7,8,9,10,11,12,13,14,15,16,17] n5 1 [2] (.inr (⟨_,_,H,rfl,rfl⟩)) (Nat.lt_succ_self _) (Nat.zero_le _) rfl (by kernel_rfl) (by kernel_rfl) rfl (wkB_live0 rfl (cellsM_idlt (f:=ItemItem.v) (fun _=>rfl) _) rfl trivial)
def gc33:BCode:=(.seq (.reg 0 [⟨(some 2),.mv (.const (.slice none 0 0)),none,0⟩] none 0 []) (.seq (.reg 0 [⟨(some 3),.mv (.const (.slice none 0 0)),none,0⟩] none 0 []) (.seq (.seq (.reg 0 [⟨(some 4),.mv (.const (.int .i64 0)),none,0⟩] none 0 []) (.block 0 (.loop (.seq (.seq (.reg 0 [⟨(some 5),.mv (.tmp 4),none,0⟩,⟨(some 6),.mv (.tmp 0),none,0⟩,⟨(some 7),.lens (.tmp 6),none,0⟩,⟨(some 8),.bin .lss (.tmp 5) (.tmp 7),none,0⟩] none 0 []) (.cond (.tmp 8) .skip (.exit 0))) (.seq (.block 1 (.reg 2 [⟨(some 11),.mv (.tmp 3),none,0⟩,⟨(some 12),.mv (.tmp 0),none,0⟩,⟨(some 13),.mv (.tmp 4),none,0⟩,⟨(some 14),.ixs 5 (.tmp 12) (.tmp 13),none,0⟩,⟨(some 15),.ld 5 true (.tmp 14),none,0⟩,⟨(some 16),.bs 5 1 [(.lit (.string ⟨#[]⟩)),(.lit (.string ⟨#[]⟩)),(.lit (.int .i64 0)),(.lit (.int .i64 0)),(.lit (.bool false))] [(0,(.tmp 15))],none,0⟩,⟨(some 17),.ap 5 56 (.tmp 11) (.tmp 16),none,1⟩,⟨(some 3),.mv (.tmp 17),none,2⟩] none 0 [])) (.reg 0 [⟨(some 9),.mv (.tmp 4),none,0⟩,⟨(some 10),.bin .add (.tmp 9) (.const (.int .i64 1)),none,0⟩,⟨(some 4),.mv (.tmp 10),none,0⟩] none 0 [])))))) (.seq (.reg 0 [⟨(some 18),.mv (.tmp 3),none,0⟩,⟨(some 2),.mv (.tmp 18),none,0⟩] none 0 []) .ret))))
theorem gc33_ok:compF Tryz.prog Tryz.f33=some (gc33.er,19,[.tmp 2]):=by unfold gc33;kernel_rfl
theorem p_law20_Back_v {u1:Bool} (a0:List ItemItem):CallsO Tryz.prog 33 [.sl (List.map ItemItem.v a0) u1] (fun l:List ItemItem=>V.sl (l.map ItemItem.v) false) (p_law20_Back a0):=by
 refine callsO_comp mix Tryz.func33 gc33_ok fun r H=>?_
 rw [p_law20_Back] at H
 conv=>whnf
 obtain ⟨o2,HL3,HQ4⟩:=bind_c H
 refine loop_c [3,4] [5,6,7,8,9,10,11,12,13,14,15,16,17] [5,6,7,8,9,10,11,12,13,14,15,16,17] (fun n vals st=>(∃ y6,p_law20_Back_l1  a0 n [] y6=some o2∧vals=[.sl (List.map ItemItem.v []) true,.i y6]∧st=[])∨(∃ y10 y11,p_law20_Back_l1  a0 n y10 y11=some o2∧vals=[.osl 0 0 (List.length y10) 5 false,.i y11]∧st=[.live (cellsM ItemItem.v y10) (cellsM ItemItem.v y10).length])) fuel 0 [] (.inl (⟨_,HL3,rfl,rfl⟩)) (Nat.zero_le _) rfl (by kernel_rfl) (by kernel_rfl) rfl trivial ?_
 rintro (_ | n5) _ _ (⟨y6,H,rfl,rfl⟩ | ⟨y10,y11,H,rfl,rfl⟩)
 ·rw [p_law20_Back_l1] at H;cases H
 ·rw [p_law20_Back_l1] at H;cases H
 ·rw [p_law20_Back_l1] at H
  conv=>whnf
  refine LenQ.M ?_;conv=>whnf
  refine tst_d H (fun b7 H=>?_) (fun b7 H=>?_)
  ·conv=>whnf
   obtain rfl:=Option.some.inj H
   have H:=HQ4
   try dsimp only at H
   refine finR_c (enc:=(fun l:List ItemItem=>V.sl (l.map ItemItem.v) false)) H ?_;conv=>whnf
   exact ⟨_,.v (.c (.slw))⟩
  conv=>whnf
  refine ixs_c (f:=ItemItem.v) H (fun _=>rfl) (fun x8 H=>?_);conv=>whnf
  refine appN_c (f:=ItemItem.v) H (fun _=>rfl) (srcM (f:=ItemItem.v) (fun _=>rfl) _ _) rfl (.v (srcOwn (f:=ItemItem.v) (l:=[x8]) (fun _=>rfl) rfl rfl rfl)) (by decide) rfl (by simp) (fun l9 H=>?_);conv=>whnf
  refine Ari.w ?_;conv=>whnf
  exact again_c [5,6,7,8,9,10,11,12,13,14,15,16,17] n5 1 [1] (.inr (⟨_,_,H,rfl,rfl⟩)) (Nat.lt_succ_self _) (Nat.zero_le _) rfl (by kernel_rfl) (by kernel_rfl) rfl (wkB_live0 rfl (cellsM_idlt (f:=ItemItem.v) (fun _=>rfl) _) rfl trivial)
 rw [p_law20_Back_l1] at H
 conv=>whnf
 refine LenQ.M ?_;conv=>whnf
 refine tst_d H (fun b12 H=>?_) (fun b12 H=>?_)
 ·conv=>whnf
  obtain rfl:=Option.some.inj H
  have H:=HQ4
  try dsimp only at H
  refine finR_c (enc:=(fun l:List ItemItem=>V.sl (l.map ItemItem.v) false)) H ?_;conv=>whnf
  exact ⟨_,.v (.c (fzown (f:=ItemItem.v) (l:=y10) rfl rfl (fun _=>rfl) (fun _=>rfl)))⟩
 conv=>whnf
 refine ixs_c (f:=ItemItem.v) H (fun _=>rfl) (fun x13 H=>?_);conv=>whnf
 refine appO_c (f:=ItemItem.v) H (fun _=>rfl) rfl (Nat.le_refl _) (.v (srcOwn (f:=ItemItem.v) (l:=[x13]) (fun _=>rfl) rfl rfl rfl)) (by decide) rfl (by simp) (fun l14 H=>?_);conv=>whnf
 refine Ari.w ?_;conv=>whnf
 exact again_c [5,6,7,8,9,10,11,12,13,14,15,16,17] n5 1 [2] (.inr (⟨_,_,H,rfl,rfl⟩)) (Nat.lt_succ_self _) (Nat.zero_le _) rfl (by kernel_rfl) (by kernel_rfl) rfl (wkB_live0 rfl (cellsM_idlt (f:=ItemItem.v) (fun _=>rfl) _) rfl trivial)
end Go.Proofs.YtpmoioopjbfhkaaGreat

/- That the program's functions yield what the plain ones tell (written by a program of mine). -/
namespace Go.Proofs.YtpmoioopjbfhkaaGreat
open Go.RowKit
set_option maxRecDepth 100000
set_option maxHeartbeats 4000000
def gc35:BCode:=(.seq (.reg 0 [⟨(some 2),.mv (.const (.slice none 0 0)),none,0⟩] none 0 []) (.seq (.reg 0 [⟨(some 3),.mv (.const (.slice none 0 0)),none,0⟩] none 0 []) (.seq (.seq (.reg 0 [⟨(some 4),.mv (.const (.int .i64 0)),none,0⟩] none 0 []) (.block 0 (.loop (.seq (.seq (.reg 0 [⟨(some 7),.mv (.tmp 4),none,0⟩,⟨(some 8),.mv (.tmp 0),none,0⟩,⟨(some 9),.lens (.tmp 8),none,0⟩,⟨(some 10),.bin .lss (.tmp 7) (.tmp 9),none,0⟩] none 0 []) (.cond (.tmp 10) .skip (.exit 0))) (.seq (.block 1 (.seq (.reg 0 [⟨(some 13),.mv (.tmp 3),none,0⟩,⟨(some 14),.lens (.tmp 13),none,0⟩,⟨(some 5),.mv (.tmp 14),none,0⟩] none 0 []) (.seq (.block 2 (.loop (.seq (.seq (.reg 0 [⟨(some 15),.mv (.tmp 5),none,0⟩,⟨(some 16),.bin .gtr (.tmp 15) (.const (.int .i64 0)),none,0⟩,⟨(some 17),.mv (.tmp 16),none,0⟩,⟨(some 18),.mv (.tmp 0),(some (17,true)),0⟩,⟨(some 19),.mv (.tmp 4),(some (17,true)),0⟩,⟨(some 20),.ixs 5 (.tmp 18) (.tmp 19),(some (17,true)),0⟩,⟨(some 21),.ld 5 true (.tmp 20),(some (17,true)),0⟩,⟨(some 22),.mv (.tmp 3),(some (17,true)),0⟩,⟨(some 23),.mv (.tmp 5),(some (17,true)),0⟩,⟨(some 24),.bin .sub (.tmp 23) (.const (.int .i64 1)),(some (17,true)),0⟩,⟨(some 25),.ixs 5 (.tmp 22) (.tmp 24),(some (17,true)),0⟩,⟨(some 26),.ld 5 true (.tmp 25),(some (17,true)),0⟩,⟨(some 27),.cl 28 [(.tmp 21),(.tmp 26)],(some (17,true)),0⟩,⟨(some 28),.pick (.tmp 17) (.tmp 27) (.const (.bool false)),none,0⟩] (some [[],[0],[0,1],[1,0,2],[1,0,2],[4,2,0,1,3],[3,1,0,2,4,5],[1,0,2],[1,0,2],[2,0,1,8],[8,9,2,0,1,7],[7,1,0,2,9,8,10],[10,8,9,7,11,5,4,2,0,1,3,6],[6,3,4,5,11,7,9,8,10,12,1,0,2]]) 0 []) (.cond (.tmp 28) .skip (.exit 2))) (.block 3 (.reg 0 [⟨(some 29),.mv (.tmp 5),none,0⟩,⟨(some 30),.bin .sub (.tmp 29) (.const (.int .i64 1)),none,0⟩,⟨(some 5),.mv (.tmp 30),none,0⟩] none 0 []))))) (.seq (.reg 0 [⟨(some 6),.mv (.const (.slice none 0 0)),none,0⟩] none 0 []) (.reg 4 [⟨(some 31),.mv (.tmp 6),none,0⟩,⟨(some 32),.mv (.tmp 3),none,0⟩,⟨(some 33),.mv (.tmp 5),none,0⟩,⟨(some 34),.sls 5 (.tmp 32) none (some (.tmp 33)) none,none,0⟩,⟨(some 35),.ap 5 56 (.tmp 31) (.tmp 34),none,0⟩,⟨(some 36),.mv (.tmp 0),none,1⟩,⟨(some 37),.mv (.tmp 4),none,1⟩,⟨(some 38),.ixs 5 (.tmp 36) (.tmp 37),none,1⟩,⟨(some 39),.ld 5 true (.tmp 38),none,1⟩,⟨(some 40),.bs 5 1 [(.lit (.string ⟨#[]⟩)),(.lit (.string ⟨#[]⟩)),(.lit (.int .i64 0)),(.lit (.int .i64 0)),(.lit (.bool false))] [(0,(.tmp 39))],none,1⟩,⟨(some 41),.ap 5 56 (.tmp 35) (.tmp 40),none,2⟩,⟨(some 42),.mv (.tmp 3),none,3⟩,⟨(some 43),.mv (.tmp 5),none,3⟩,⟨(some 44),.sls 5 (.tmp 42) (some (.tmp 43)) none none,none,3⟩,⟨(some 45),.ap 5 56 (.tmp 41) (.tmp 44),none,3⟩,⟨(some 3),.mv (.tmp 45),none,4⟩] (some [[],[],[],[2,1],[1,2,3,0],[],[],[6,5],[5,6,7],[7,6,5,8],[8,5,6,7,9,0,3,2,1,4],[],[],[12,11],[11,12,13,4,1,2,3,0,9,7,6,5,8,10],[10,8,5,6,7,9,0,3,2,1,4,13,12,11,14]]) 0 []))))) (.reg 0 [⟨(some 11),.mv (.tmp 4),none,0⟩,⟨(some 12),.bin .add (.tmp 11) (.const (.int .i64 1)),none,0⟩,⟨(some 4),.mv (.tmp 12),none,0⟩] none 0 [])))))) (.seq (.reg 0 [⟨(some 46),.mv (.tmp 3),none,0⟩,⟨(some 2),.mv (.tmp 46),none,0⟩] none 0 []) .ret))))
theorem gc35_ok:compF Tryz.prog Tryz.f35=some (gc35.er,47,[.tmp 2]):=by unfold gc35;kernel_rfl
theorem p_ref20_Sort_v {u1:Bool} (a0:List ItemItem):CallsO Tryz.prog 35 [.sl (List.map ItemItem.v a0) u1] (fun l:List ItemItem=>V.sl (l.map ItemItem.v) false) (p_ref20_Sort a0):=by
 refine callsO_comp mix Tryz.func35 gc35_ok fun r H=>?_
 rw [p_ref20_Sort] at H
 conv=>whnf
 obtain ⟨o2,HL3,HQ4⟩:=bind_c H
 refine loop_c [3,4] [5,6,7,8,9,10,11,12,13,14,15,16,17,18,19,20,21,22,23,24,25,26,27,28,29,30,31,32,33,34,35,36,37,38,39,40,41,42,43,44,45] [5,6,7,8,9,10,11,12,13,14,15,16,17,18,19,20,21,22,23,24,25,26,27,28,29,30,31,32,33,34,35,36,37,38,39,40,41,42,43,44,45] (fun n vals st=>(∃ y6,p_ref20_Sort_l1  a0 n [] y6=some o2∧vals=[.sl (List.map ItemItem.v []) true,.i y6]∧st=[])∨(∃ y22 y23,p_ref20_Sort_l1  a0 n y22 y23=some o2∧vals=[.osl 0 0 (List.length y22) 5 false,.i y23]∧st=[.live (cellsM ItemItem.v y22) (cellsM ItemItem.v y22).length])) fuel 0 [] (.inl (⟨_,HL3,rfl,rfl⟩)) (Nat.zero_le _) rfl (by kernel_rfl) (by kernel_rfl) rfl trivial ?_
 rintro (_ | n5) _ _ (⟨y6,H,rfl,rfl⟩ | ⟨y22,y23,H,rfl,rfl⟩)
 ·rw [p_ref20_Sort_l1] at H;cases H
 ·rw [p_ref20_Sort_l1] at H;cases H
 ·rw [p_ref20_Sort_l1] at H
  conv=>whnf
  refine LenQ.M ?_;conv=>whnf
  refine tst_d H (fun b7 H=>?_) (fun b7 H=>?_)
  ·conv=>whnf
   obtain rfl:=Option.some.inj H
   have H:=HQ4
   try dsimp only at H
   refine finR_c (enc:=(fun l:List ItemItem=>V.sl (l.map ItemItem.v) false)) H ?_;conv=>whnf
   exact ⟨_,.v (.c (.slw))⟩
  conv=>whnf
  refine LenQ.ok ?_;conv=>whnf
  obtain ⟨o9,HL10,HQ11⟩:=bind_c H
  refine loop_c [5] [15,16,17,18,19,20,21,22,23,24,25,26,27,28,29,30] [15,16,17,18,19,20,21,22,23,24,25,26,27,28,29,30] (fun n vals st=>(∃ y13,p_ref20_Sort_l2  a0 [] y6 n y13=some o9∧vals=[.i y13]∧st=[])) fuel 0 [] (⟨_,HL10,rfl,rfl⟩) (Nat.zero_le _) rfl (by kernel_rfl) (by kernel_rfl) rfl trivial ?_
  rintro (_ | n12) _ _ (⟨y13,H,rfl,rfl⟩)
  ·rw [p_ref20_Sort_l2] at H;cases H
  rw [p_ref20_Sort_l2] at H
  conv=>whnf
  refine tst_c H (fun b14 H=>?_) (fun b14 H=>?_)
  ·conv=>whnf
   iterate 2 (refine Tst.T ?_;conv=>whnf)
   refine ixs_c (f:=ItemItem.v) H (fun _=>rfl) (fun x15 H=>?_);conv=>whnf
   iterate 4 (refine Tst.T ?_;conv=>whnf)
   refine Ari.w ?_;conv=>whnf
   refine Tst.T ?_;conv=>whnf
   exact nil_at H
  conv=>whnf
  iterate 10 (refine Tst.F ?_;conv=>whnf)
  refine FootQ.mk ⟨rfl,?_⟩;conv=>whnf
  refine Tst.F ?_;conv=>whnf
  obtain rfl:=Option.some.inj H
  have H:=HQ11
  try dsimp only at H
  refine slsH_c (f:=ItemItem.v) H (fun _=>rfl) (fun x16 H=>?_);conv=>whnf
  refine appE_c (f:=ItemItem.v) H (fun _=>rfl) rfl (.v (srcM (f:=ItemItem.v) (fun _=>rfl) _ _)) (by decide) rfl (fun H=>?_) (fun l17 H=>?_)
  ·conv=>whnf
   refine ixs_c (f:=ItemItem.v) H (fun _=>rfl) (fun x24 H=>?_);conv=>whnf
   refine appN_c (f:=ItemItem.v) H (fun _=>rfl) (srcM (f:=ItemItem.v) (fun _=>rfl) _ _) rfl (.v (srcOwn (f:=ItemItem.v) (l:=[x24]) (fun _=>rfl) rfl rfl rfl)) (by decide) rfl (by simp) (fun l25 H=>?_);conv=>whnf
   refine slsE_c (f:=ItemItem.v) H (fun _=>rfl) (fun x26 H=>?_);conv=>whnf
   refine appP_c (f:=ItemItem.v) H (fun _=>rfl) rfl rfl (.v (srcM (f:=ItemItem.v) (fun _=>rfl) _ _)) (by decide) rfl (fun l27 H=>?_) (fun l27 H=>?_)
   ·conv=>whnf
    refine FootQ.mk ⟨rfl,?_⟩;conv=>whnf
    refine Ari.w ?_;conv=>whnf
    exact again_c [5,6,7,8,9,10,11,12,13,14,15,16,17,18,19,20,21,22,23,24,25,26,27,28,29,30,31,32,33,34,35,36,37,38,39,40,41,42,43,44,45] n5 1 [2] (.inr (⟨_,_,H,rfl,rfl⟩)) (Nat.lt_succ_self _) (Nat.zero_le _) rfl (by kernel_rfl) (by kernel_rfl) rfl (wkB_live0 rfl (cellsM_idlt (f:=ItemItem.v) (fun _=>rfl) _) rfl trivial)
   conv=>whnf
   refine FootQ.mk ⟨rfl,?_⟩;conv=>whnf
   refine Ari.w ?_;conv=>whnf
   exact again_c [5,6,7,8,9,10,11,12,13,14,15,16,17,18,19,20,21,22,23,24,25,26,27,28,29,30,31,32,33,34,35,36,37,38,39,40,41,42,43,44,45] n5 1 [3] (.inr (⟨_,_,H,rfl,rfl⟩)) (Nat.lt_succ_self _) (Nat.zero_le _) rfl (by kernel_rfl) (by kernel_rfl) rfl (wkB_live0 rfl (cellsM_idlt (f:=ItemItem.v) (fun _=>rfl) _) rfl trivial)
  conv=>whnf
  refine ixs_c (f:=ItemItem.v) H (fun _=>rfl) (fun x18 H=>?_);conv=>whnf
  refine appO_c (f:=ItemItem.v) H (fun _=>rfl) rfl (Nat.le_refl _) (.v (srcOwn (f:=ItemItem.v) (l:=[x18]) (fun _=>rfl) rfl rfl rfl)) (by decide) rfl (by simp) (fun l19 H=>?_);conv=>whnf
  refine slsE_c (f:=ItemItem.v) H (fun _=>rfl) (fun x20 H=>?_);conv=>whnf
  refine appP_c (f:=ItemItem.v) H (fun _=>rfl) rfl rfl (.v (srcM (f:=ItemItem.v) (fun _=>rfl) _ _)) (by decide) rfl (fun l21 H=>?_) (fun l21 H=>?_)
  ·conv=>whnf
   refine FootQ.mk ⟨rfl,?_⟩;conv=>whnf
   refine Ari.w ?_;conv=>whnf
   exact again_c [5,6,7,8,9,10,11,12,13,14,15,16,17,18,19,20,21,22,23,24,25,26,27,28,29,30,31,32,33,34,35,36,37,38,39,40,41,42,43,44,45] n5 1 [2] (.inr (⟨_,_,H,rfl,rfl⟩)) (Nat.lt_succ_self _) (Nat.zero_le _) rfl (by kernel_rfl) (by kernel_rfl) rfl (wkB_live0 rfl (cellsM_idlt (f:=ItemItem.v) (fun _=>rfl) _) rfl trivial)
  conv=>whnf
  refine FootQ.mk ⟨rfl,?_⟩;conv=>whnf
  refine Ari.w ?_;conv=>whnf
  exact again_c [5,6,7,8,9,10,11,12,13,14,15,16,17,18,19,20,21,22,23,24,25,26,27,28,29,30,31,32,33,34,35,36,37,38,39,40,41,42,43,44,45] n5 1 [3] (.inr (⟨_,_,H,rfl,rfl⟩)) (Nat.lt_succ_self _) (Nat.zero_le _) rfl (by kernel_rfl) (by kernel_rfl) rfl (wkB_live0 rfl (cellsM_idlt (f:=ItemItem.v) (fun _=>rfl) _) rfl trivial)
 rw [p_ref20_Sort_l1] at H
 conv=>whnf
 refine LenQ.M ?_;conv=>whnf
 refine tst_d H (fun b28 H=>?_) (fun b28 H=>?_)
 ·conv=>whnf
  obtain rfl:=Option.some.inj H
  have H:=HQ4
  try dsimp only at H
  refine finR_c (enc:=(fun l:List ItemItem=>V.sl (l.map ItemItem.v) false)) H ?_;conv=>whnf
  exact ⟨_,.v (.c (fzown (f:=ItemItem.v) (l:=y22) rfl rfl (fun _=>rfl) (fun _=>rfl)))⟩
 conv=>whnf
 obtain ⟨o30,HL31,HQ32⟩:=bind_c H
 refine loop_c [5] [15,16,17,18,19,20,21,22,23,24,25,26,27,28,29,30,13] [15,16,17,18,19,20,21,22,23,24,25,26,27,28,29,30,13] (fun n vals st=>(∃ y34,p_ref20_Sort_l2  a0 y22 y23 n y34=some o30∧vals=[.i y34]∧st=[.live (cellsM ItemItem.v y22) (cellsM ItemItem.v y22).length])) fuel 1 [] (⟨_,HL31,rfl,rfl⟩) (Nat.zero_le _) rfl (by kernel_rfl) (by kernel_rfl) rfl (wkB_live0 rfl (cellsM_idlt (f:=ItemItem.v) (fun _=>rfl) _) rfl trivial) ?_
 rintro (_ | n33) _ _ (⟨y34,H,rfl,rfl⟩)
 ·rw [p_ref20_Sort_l2] at H;cases H
 rw [p_ref20_Sort_l2] at H
 conv=>whnf
 refine tst_d H (fun b35 H=>?_) (fun b35 H=>?_)
 ·conv=>whnf
  iterate 10 (refine Tst.F ?_;conv=>whnf)
  refine FootQ.mk ⟨rfl,?_⟩;conv=>whnf
  refine Tst.F ?_;conv=>whnf
  obtain rfl:=Option.some.inj H
  have H:=HQ32
  try dsimp only at H
  refine ⟨rfl,?_⟩;conv=>whnf
  refine slP_c (l:=y22) H rfl (fun x62 a63 h64 h65 H=>?_);conv=>whnf
  refine appE_c (f:=ItemItem.v) H (fun _=>rfl) rfl (.v (srcTake (f:=ItemItem.v) (fun _=>rfl) rfl rfl h64 h65)) (by decide) rfl (fun H=>?_) (fun l66 H=>?_)
  ·conv=>whnf
   refine ixs_c (f:=ItemItem.v) H (fun _=>rfl) (fun x75 H=>?_);conv=>whnf
   refine appN_c (f:=ItemItem.v) H (fun _=>rfl) (srcM (f:=ItemItem.v) (fun _=>rfl) _ _) rfl (.v (srcOwn (f:=ItemItem.v) (l:=[x75]) (fun _=>rfl) rfl rfl rfl)) (by decide) rfl (by simp) (fun l76 H=>?_);conv=>whnf
   refine ⟨rfl,?_⟩;conv=>whnf
   refine slE_c (l:=y22) H rfl (fun x77 a78 h79 h80 H=>?_) (fun H=>?_)
   ·conv=>whnf
    refine appP_c (f:=ItemItem.v) H (fun _=>rfl) rfl rfl (.v (srcDrop (f:=ItemItem.v) (fun _=>rfl) rfl rfl h79 h80)) (by decide) rfl (fun l81 H=>?_) (fun l81 H=>?_)
    ·conv=>whnf
     refine FootQ.mk ⟨rfl,?_⟩;conv=>whnf
     refine Ari.w ?_;conv=>whnf
     exact again_c [5,6,7,8,9,10,11,12,13,14,15,16,17,18,19,20,21,22,23,24,25,26,27,28,29,30,31,32,33,34,35,36,37,38,39,40,41,42,43,44,45] n5 1 [3] (.inr (⟨_,_,H,rfl,rfl⟩)) (Nat.lt_succ_self _) (Nat.zero_le _) rfl (by kernel_rfl) (by kernel_rfl) rfl (wkB_live0 rfl (cellsM_idlt (f:=ItemItem.v) (fun _=>rfl) _) rfl trivial)
    conv=>whnf
    refine FootQ.mk ⟨rfl,?_⟩;conv=>whnf
    refine Ari.w ?_;conv=>whnf
    exact again_c [5,6,7,8,9,10,11,12,13,14,15,16,17,18,19,20,21,22,23,24,25,26,27,28,29,30,31,32,33,34,35,36,37,38,39,40,41,42,43,44,45] n5 1 [4] (.inr (⟨_,_,H,rfl,rfl⟩)) (Nat.lt_succ_self _) (Nat.zero_le _) rfl (by kernel_rfl) (by kernel_rfl) rfl (wkB_live0 rfl (cellsM_idlt (f:=ItemItem.v) (fun _=>rfl) _) rfl trivial)
   conv=>whnf
   refine appP_c (f:=ItemItem.v) H (fun _=>rfl) rfl rfl (.v (srcM (f:=ItemItem.v) (fun _=>rfl) [] false)) (by decide) rfl (fun l82 H=>?_) (fun l82 H=>?_)
   ·conv=>whnf
    refine FootQ.mk ⟨rfl,?_⟩;conv=>whnf
    refine Ari.w ?_;conv=>whnf
    exact again_c [5,6,7,8,9,10,11,12,13,14,15,16,17,18,19,20,21,22,23,24,25,26,27,28,29,30,31,32,33,34,35,36,37,38,39,40,41,42,43,44,45] n5 1 [3] (.inr (⟨_,_,H,rfl,rfl⟩)) (Nat.lt_succ_self _) (Nat.zero_le _) rfl (by kernel_rfl) (by kernel_rfl) rfl (wkB_live0 rfl (cellsM_idlt (f:=ItemItem.v) (fun _=>rfl) _) rfl trivial)
   conv=>whnf
   refine FootQ.mk ⟨rfl,?_⟩;conv=>whnf
   refine Ari.w ?_;conv=>whnf
   exact again_c [5,6,7,8,9,10,11,12,13,14,15,16,17,18,19,20,21,22,23,24,25,26,27,28,29,30,31,32,33,34,35,36,37,38,39,40,41,42,43,44,45] n5 1 [4] (.inr (⟨_,_,H,rfl,rfl⟩)) (Nat.lt_succ_self _) (Nat.zero_le _) rfl (by kernel_rfl) (by kernel_rfl) rfl (wkB_live0 rfl (cellsM_idlt (f:=ItemItem.v) (fun _=>rfl) _) rfl trivial)
  conv=>whnf
  refine ixs_c (f:=ItemItem.v) H (fun _=>rfl) (fun x67 H=>?_);conv=>whnf
  refine appO_c (f:=ItemItem.v) H (fun _=>rfl) rfl (Nat.le_refl _) (.v (srcOwn (f:=ItemItem.v) (l:=[x67]) (fun _=>rfl) rfl rfl rfl)) (by decide) rfl (by simp) (fun l68 H=>?_);conv=>whnf
  refine ⟨rfl,?_⟩;conv=>whnf
  refine slE_c (l:=y22) H rfl (fun x69 a70 h71 h72 H=>?_) (fun H=>?_)
  ·conv=>whnf
   refine appP_c (f:=ItemItem.v) H (fun _=>rfl) rfl rfl (.v (srcDrop (f:=ItemItem.v) (fun _=>rfl) rfl rfl h71 h72)) (by decide) rfl (fun l73 H=>?_) (fun l73 H=>?_)
   ·conv=>whnf
    refine FootQ.mk ⟨rfl,?_⟩;conv=>whnf
    refine Ari.w ?_;conv=>whnf
    exact again_c [5,6,7,8,9,10,11,12,13,14,15,16,17,18,19,20,21,22,23,24,25,26,27,28,29,30,31,32,33,34,35,36,37,38,39,40,41,42,43,44,45] n5 1 [3] (.inr (⟨_,_,H,rfl,rfl⟩)) (Nat.lt_succ_self _) (Nat.zero_le _) rfl (by kernel_rfl) (by kernel_rfl) rfl (wkB_live0 rfl (cellsM_idlt (f:=ItemItem.v) (fun _=>rfl) _) rfl trivial)
   conv=>whnf
   refine FootQ.mk ⟨rfl,?_⟩;conv=>whnf
   refine Ari.w ?_;conv=>whnf
   exact again_c [5,6,7,8,9,10,11,12,13,14,15,16,17,18,19,20,21,22,23,24,25,26,27,28,29,30,31,32,33,34,35,36,37,38,39,40,41,42,43,44,45] n5 1 [4] (.inr (⟨_,_,H,rfl,rfl⟩)) (Nat.lt_succ_self _) (Nat.zero_le _) rfl (by kernel_rfl) (by kernel_rfl) rfl (wkB_live0 rfl (cellsM_idlt (f:=ItemItem.v) (fun _=>rfl) _) rfl trivial)
  conv=>whnf
  refine appP_c (f:=ItemItem.v) H (fun _=>rfl) rfl rfl (.v (srcM (f:=ItemItem.v) (fun _=>rfl) [] false)) (by decide) rfl (fun l74 H=>?_) (fun l74 H=>?_)
  ·conv=>whnf
   refine FootQ.mk ⟨rfl,?_⟩;conv=>whnf
   refine Ari.w ?_;conv=>whnf
   exact again_c [5,6,7,8,9,10,11,12,13,14,15,16,17,18,19,20,21,22,23,24,25,26,27,28,29,30,31,32,33,34,35,36,37,38,39,40,41,42,43,44,45] n5 1 [3] (.inr (⟨_,_,H,rfl,rfl⟩)) (Nat.lt_succ_self _) (Nat.zero_le _) rfl (by kernel_rfl) (by kernel_rfl) rfl (wkB_live0 rfl (cellsM_idlt (f:=ItemItem.v) (fun _=>rfl) _) rfl trivial)
  conv=>whnf
  refine FootQ.mk ⟨rfl,?_⟩;conv=>whnf
  refine Ari.w ?_;conv=>whnf
  exact again_c [5,6,7,8,9,10,11,12,13,14,15,16,17,18,19,20,21,22,23,24,25,26,27,28,29,30,31,32,33,34,35,36,37,38,39,40,41,42,43,44,45] n5 1 [4] (.inr (⟨_,_,H,rfl,rfl⟩)) (Nat.lt_succ_self _) (Nat.zero_le _) rfl (by kernel_rfl) (by kernel_rfl) rfl (wkB_live0 rfl (cellsM_idlt (f:=ItemItem.v) (fun _=>rfl) _) rfl trivial)
 conv=>whnf
 iterate 2 (refine Tst.T ?_;conv=>whnf)
 refine ixs_c (f:=ItemItem.v) H (fun _=>rfl) (fun x36 H=>?_);conv=>whnf
 iterate 4 (refine Tst.T ?_;conv=>whnf)
 refine Ari.w ?_;conv=>whnf
 refine Tst.T ?_;conv=>whnf
 refine ⟨rfl,ixo_c H (fun x37 h38 H=>?_)⟩;conv=>whnf
 refine Tst.T ?_;conv=>whnf
 refine ldo_c (f:=ItemItem.v) (es:=5) h38 (fun _=>rfl) 0 (by omega) (by decide) ?_;conv=>whnf
 refine Tst.T ?_;conv=>whnf
 refine ask_c (p_ref20_Less_v _ _) H rfl rfl (fun v39 H=>?_);conv=>whnf
 refine Tst.T ?_;conv=>whnf
 refine FootQ.mk ⟨rfl,?_⟩;conv=>whnf
 refine tst_c H (fun b40 H=>?_) (fun b40 H=>?_)
 ·conv=>whnf
  refine Ari.w ?_;conv=>whnf
  exact again_c [15,16,17,18,19,20,21,22,23,24,25,26,27,28,29,30,13] n33 1 [] (⟨_,H,rfl,rfl⟩) (Nat.lt_succ_self _) (Nat.zero_le _) rfl (by kernel_rfl) (by kernel_rfl) rfl (wkB_live0 rfl (cellsM_idlt (f:=ItemItem.v) (fun _=>rfl) _) rfl trivial)
 conv=>whnf
 obtain rfl:=Option.some.inj H
 have H:=HQ32
 try dsimp only at H
 refine ⟨rfl,?_⟩;conv=>whnf
 refine slP_c (l:=y22) H rfl (fun x41 a42 h43 h44 H=>?_);conv=>whnf
 refine appE_c (f:=ItemItem.v) H (fun _=>rfl) rfl (.v (srcTake (f:=ItemItem.v) (fun _=>rfl) rfl rfl h43 h44)) (by decide) rfl (fun H=>?_) (fun l45 H=>?_)
 ·conv=>whnf
  refine ixs_c (f:=ItemItem.v) H (fun _=>rfl) (fun x54 H=>?_);conv=>whnf
  refine appN_c (f:=ItemItem.v) H (fun _=>rfl) (srcM (f:=ItemItem.v) (fun _=>rfl) _ _) rfl (.v (srcOwn (f:=ItemItem.v) (l:=[x54]) (fun _=>rfl) rfl rfl rfl)) (by decide) rfl (by simp) (fun l55 H=>?_);conv=>whnf
  refine ⟨rfl,?_⟩;conv=>whnf
  refine slE_c (l:=y22) H rfl (fun x56 a57 h58 h59 H=>?_) (fun H=>?_)
  ·conv=>whnf
   refine appP_c (f:=ItemItem.v) H (fun _=>rfl) rfl rfl (.v (srcDrop (f:=ItemItem.v) (fun _=>rfl) rfl rfl h58 h59)) (by decide) rfl (fun l60 H=>?_) (fun l60 H=>?_)
   ·conv=>whnf
    refine FootQ.mk ⟨rfl,?_⟩;conv=>whnf
    refine Ari.w ?_;conv=>whnf
    exact again_c [5,6,7,8,9,10,11,12,13,14,15,16,17,18,19,20,21,22,23,24,25,26,27,28,29,30,31,32,33,34,35,36,37,38,39,40,41,42,43,44,45] n5 1 [3] (.inr (⟨_,_,H,rfl,rfl⟩)) (Nat.lt_succ_self _) (Nat.zero_le _) rfl (by kernel_rfl) (by kernel_rfl) rfl (wkB_live0 rfl (cellsM_idlt (f:=ItemItem.v) (fun _=>rfl) _) rfl trivial)
   conv=>whnf
   refine FootQ.mk ⟨rfl,?_⟩;conv=>whnf
   refine Ari.w ?_;conv=>whnf
   exact again_c [5,6,7,8,9,10,11,12,13,14,15,16,17,18,19,20,21,22,23,24,25,26,27,28,29,30,31,32,33,34,35,36,37,38,39,40,41,42,43,44,45] n5 1 [4] (.inr (⟨_,_,H,rfl,rfl⟩)) (Nat.lt_succ_self _) (Nat.zero_le _) rfl (by kernel_rfl) (by kernel_rfl) rfl (wkB_live0 rfl (cellsM_idlt (f:=ItemItem.v) (fun _=>rfl) _) rfl trivial)
  conv=>whnf
  refine appP_c (f:=ItemItem.v) H (fun _=>rfl) rfl rfl (.v (srcM (f:=ItemItem.v) (fun _=>rfl) [] false)) (by decide) rfl (fun l61 H=>?_) (fun l61 H=>?_)
  ·conv=>whnf
   refine FootQ.mk ⟨rfl,?_⟩;conv=>whnf
   refine Ari.w ?_;conv=>whnf
   exact again_c [5,6,7,8,9,10,11,12,13,14,15,16,17,18,19,20,21,22,23,24,25,26,27,28,29,30,31,32,33,34,35,36,37,38,39,40,41,42,43,44,45] n5 1 [3] (.inr (⟨_,_,H,rfl,rfl⟩)) (Nat.lt_succ_self _) (Nat.zero_le _) rfl (by kernel_rfl) (by kernel_rfl) rfl (wkB_live0 rfl (cellsM_idlt (f:=ItemItem.v) (fun _=>rfl) _) rfl trivial)
  conv=>whnf
  refine FootQ.mk ⟨rfl,?_⟩;conv=>whnf
  refine Ari.w ?_;conv=>whnf
  exact again_c [5,6,7,8,9,10,11,12,13,14,15,16,17,18,19,20,21,22,23,24,25,26,27,28,29,30,31,32,33,34,35,36,37,38,39,40,41,42,43,44,45] n5 1 [4] (.inr (⟨_,_,H,rfl,rfl⟩)) (Nat.lt_succ_self _) (Nat.zero_le _) rfl (by kernel_rfl) (by kernel_rfl) rfl (wkB_live0 rfl (cellsM_idlt (f:=ItemItem.v) (fun _=>rfl) _) rfl trivial)
 conv=>whnf
 refine ixs_c (f:=ItemItem.v) H (fun _=>rfl) (fun x46 H=>?_);conv=>whnf
 refine appO_c (f:=ItemItem.v) H (fun _=>rfl) rfl (Nat.le_refl _) (.v (srcOwn (f:=ItemItem.v) (l:=[x46]) (fun _=>rfl) rfl rfl rfl)) (by decide) rfl (by simp) (fun l47 H=>?_);conv=>whnf
 refine ⟨rfl,?_⟩;conv=>whnf
 refine slE_c (l:=y22) H rfl (fun x48 a49 h50 h51 H=>?_) (fun H=>?_)
 ·conv=>whnf
  refine appP_c (f:=ItemItem.v) H (fun _=>rfl) rfl rfl (.v (srcDrop (f:=ItemItem.v) (fun _=>rfl) rfl rfl h50 h51)) (by decide) rfl (fun l52 H=>?_) (fun l52 H=>?_)
  ·conv=>whnf
   refine FootQ.mk ⟨rfl,?_⟩;conv=>whnf
   refine Ari.w ?_;conv=>whnf
   exact again_c [5,6,7,8,9,10,11,12,13,14,15,16,17,18,19,20,21,22,23,24,25,26,27,28,29,30,31,32,33,34,35,36,37,38,39,40,41,42,43,44,45] n5 1 [3] (.inr (⟨_,_,H,rfl,rfl⟩)) (Nat.lt_succ_self _) (Nat.zero_le _) rfl (by kernel_rfl) (by kernel_rfl) rfl (wkB_live0 rfl (cellsM_idlt (f:=ItemItem.v) (fun _=>rfl) _) rfl trivial)
  conv=>whnf
  refine FootQ.mk ⟨rfl,?_⟩;conv=>whnf
  refine Ari.w ?_;conv=>whnf
  exact again_c [5,6,7,8,9,10,11,12,13,14,15,16,17,18,19,20,21,22,23,24,25,26,27,28,29,30,31,32,33,34,35,36,37,38,39,40,41,42,43,44,45] n5 1 [4] (.inr (⟨_,_,H,rfl,rfl⟩)) (Nat.lt_succ_self _) (Nat.zero_le _) rfl (by kernel_rfl) (by kernel_rfl) rfl (wkB_live0 rfl (cellsM_idlt (f:=ItemItem.v) (fun _=>rfl) _) rfl trivial)
 conv=>whnf
 refine appP_c (f:=ItemItem.v) H (fun _=>rfl) rfl rfl (.v (srcM (f:=ItemItem.v) (fun _=>rfl) [] false)) (by decide) rfl (fun l53 H=>?_) (fun l53 H=>?_)
 ·conv=>whnf
  refine FootQ.mk ⟨rfl,?_⟩;conv=>whnf
  refine Ari.w ?_;conv=>whnf
  exact again_c [5,6,7,8,9,10,11,12,13,14,15,16,17,18,19,20,21,22,23,24,25,26,27,28,29,30,31,32,33,34,35,36,37,38,39,40,41,42,43,44,45] n5 1 [3] (.inr (⟨_,_,H,rfl,rfl⟩)) (Nat.lt_succ_self _) (Nat.zero_le _) rfl (by kernel_rfl) (by kernel_rfl) rfl (wkB_live0 rfl (cellsM_idlt (f:=ItemItem.v) (fun _=>rfl) _) rfl trivial)
 conv=>whnf
 refine FootQ.mk ⟨rfl,?_⟩;conv=>whnf
 refine Ari.w ?_;conv=>whnf
 exact again_c [5,6,7,8,9,10,11,12,13,14,15,16,17,18,19,20,21,22,23,24,25,26,27,28,29,30,31,32,33,34,35,36,37,38,39,40,41,42,43,44,45] n5 1 [4] (.inr (⟨_,_,H,rfl,rfl⟩)) (Nat.lt_succ_self _) (Nat.zero_le _) rfl (by kernel_rfl) (by kernel_rfl) rfl (wkB_live0 rfl (cellsM_idlt (f:=ItemItem.v) (fun _=>rfl) _) rfl trivial)
def gc32:BCode:=(.seq (.reg 0 [⟨(some 4),.mv (.const (.bool false)),none,0⟩] none 0 []) (.seq (.seq (.reg 0 [⟨(some 6),.mv (.tmp 0),none,0⟩,⟨(some 7),.lens (.tmp 6),none,0⟩,⟨(some 8),.mv (.tmp 1),none,0⟩,⟨(some 9),.lens (.tmp 8),none,0⟩,⟨(some 10),.bin .neq (.tmp 7) (.tmp 9),none,0⟩] none 0 []) (.cond (.tmp 10) (.seq (.reg 0 [⟨(some 4),.mv (.const (.bool false)),none,0⟩] none 0 []) .ret) .skip)) (.seq (.seq (.reg 0 [⟨(some 5),.mv (.const (.int .i64 0)),none,0⟩] none 0 []) (.block 0 (.loop (.seq (.seq (.reg 0 [⟨(some 11),.mv (.tmp 5),none,0⟩,⟨(some 12),.mv (.tmp 0),none,0⟩,⟨(some 13),.lens (.tmp 12),none,0⟩,⟨(some 14),.bin .lss (.tmp 11) (.tmp 13),none,0⟩] none 0 []) (.cond (.tmp 14) .skip (.exit 0))) (.seq (.block 1 (.seq (.reg 0 [⟨(some 17),.mv (.tmp 0),none,0⟩,⟨(some 18),.mv (.tmp 5),none,0⟩,⟨(some 19),.ixs 5 (.tmp 17) (.tmp 18),none,0⟩,⟨(some 20),.ld 5 true (.tmp 19),none,0⟩,⟨(some 21),.mv (.tmp 1),none,0⟩,⟨(some 22),.mv (.tmp 5),none,0⟩,⟨(some 23),.ixs 5 (.tmp 21) (.tmp 22),none,0⟩,⟨(some 24),.ld 5 true (.tmp 23),none,0⟩,⟨(some 25),.eqa true [2,2,1,1,0] (.tmp 20) (.tmp 24),none,0⟩] (some [[],[],[1,0],[0,1,2],[],[],[5,4],[4,5,6],[6,5,4,7,2,1,0,3]]) 0 []) (.cond (.tmp 25) (.seq (.reg 0 [⟨(some 4),.mv (.const (.bool false)),none,0⟩] none 0 []) .ret) .skip))) (.reg 0 [⟨(some 15),.mv (.tmp 5),none,0⟩,⟨(some 16),.bin .add (.tmp 15) (.const (.int .i64 1)),none,0⟩,⟨(some 5),.mv (.tmp 16),none,0⟩] none 0 [])))))) (.seq (.reg 0 [⟨(some 4),.mv (.const (.bool true)),none,0⟩] none 0 []) .ret))))
theorem gc32_ok:compF Tryz.prog Tryz.f32=some (gc32.er,26,[.tmp 4]):=by unfold gc32;kernel_rfl
theorem p_ref20_SameItems_v {u1 u2:Bool} (a0:List ItemItem) (a1:List ItemItem):CallsO Tryz.prog 32 [.sl (List.map ItemItem.v a0) u1,.sl (List.map ItemItem.v a1) u2] V.b (p_ref20_SameItems a0 a1):=by
 refine callsO_comp mix Tryz.func32 gc32_ok fun r H=>?_
 rw [p_ref20_SameItems] at H
 conv=>whnf
 iterate 2 (refine LenQ.M ?_;conv=>whnf)
 refine tst_c H (fun b1 H=>?_) (fun b1 H=>?_)
 ·conv=>whnf
  exact fb_ H
 conv=>whnf
 obtain ⟨o3,HL4,HQ5⟩:=bind_c H
 refine loop_c [4,5] [11,12,13,14,15,16,17,18,19,20,21,22,23,24,25] [11,12,13,14,15,16,17,18,19,20,21,22,23,24,25] (fun n vals st=>(∃ y7,p_ref20_SameItems_l1  a0 a1 n y7=some o3∧vals=[.b false,.i y7]∧st=[])) fuel 0 [] (⟨_,HL4,rfl,rfl⟩) (Nat.zero_le _) rfl (by kernel_rfl) (by kernel_rfl) rfl trivial ?_
 rintro (_ | n6) _ _ (⟨y7,H,rfl,rfl⟩)
 ·rw [p_ref20_SameItems_l1] at H;cases H
 rw [p_ref20_SameItems_l1] at H
 conv=>whnf
 refine LenQ.M ?_;conv=>whnf
 refine tst_d H (fun b8 H=>?_) (fun b8 H=>?_)
 ·conv=>whnf
  obtain rfl:=Option.some.inj H
  have H:=HQ5
  try dsimp only at H
  exact fb_ H
 conv=>whnf
 refine ixs_c (f:=ItemItem.v) H (fun _=>rfl) (fun x9 H=>?_);conv=>whnf
 refine ixs_c (f:=ItemItem.v) H (fun _=>rfl) (fun x10 H=>?_);conv=>whnf
 refine FootQ.mk ⟨rfl,?_⟩;conv=>whnf
 refine Tst.not ?_
 refine tst_d H (fun b11 H=>?_) (fun b11 H=>?_)
 ·conv=>whnf
  obtain rfl:=Option.some.inj H
  have H:=HQ5
  try dsimp only at H
  exact fb_ H
 conv=>whnf
 refine Ari.w ?_;conv=>whnf
 exact again_c [11,12,13,14,15,16,17,18,19,20,21,22,23,24,25] n6 0 [] (⟨_,H,rfl,rfl⟩) (Nat.lt_succ_self _) (Nat.zero_le _) rfl (by kernel_rfl) (by kernel_rfl) rfl trivial
end Go.Proofs.YtpmoioopjbfhkaaGreat

/- That the program's functions yield what the plain ones tell (written by a program of mine). -/
namespace Go.Proofs.YtpmoioopjbfhkaaGreat
open Go.RowKit
set_option maxRecDepth 100000
set_option maxHeartbeats 4000000
def gc4:BCode:=(.seq (.reg 0 [⟨(some 4),.mv (.const (.bool false)),none,0⟩] none 0 []) (.seq (.seq (.reg 0 [⟨(some 11),.mv (.tmp 0),none,0⟩,⟨(some 12),.lent (.tmp 11),none,0⟩,⟨(some 13),.bin .gtr (.tmp 12) (.const (.int .i64 150)),none,0⟩,⟨(some 14),.mv (.tmp 13),none,0⟩,⟨(some 15),.mv (.tmp 1),(some (14,false)),0⟩,⟨(some 16),.lens (.tmp 15),(some (14,false)),0⟩,⟨(some 17),.bin .gtr (.tmp 16) (.const (.int .i64 20)),(some (14,false)),0⟩,⟨(some 18),.pick (.tmp 14) (.const (.bool true)) (.tmp 17),none,0⟩] none 0 []) (.cond (.tmp 18) (.seq (.reg 0 [⟨(some 19),.cl 12 [],none,0⟩,⟨(some 4),.mv (.tmp 19),none,0⟩] none 0 []) .ret) .skip)) (.seq (.seq (.reg 0 [⟨(some 5),.mv (.const (.int .i64 0)),none,0⟩] none 0 []) (.block 0 (.loop (.seq (.seq (.reg 0 [⟨(some 20),.mv (.tmp 5),none,0⟩,⟨(some 21),.mv (.tmp 1),none,0⟩,⟨(some 22),.lens (.tmp 21),none,0⟩,⟨(some 23),.bin .lss (.tmp 20) (.tmp 22),none,0⟩] none 0 []) (.cond (.tmp 23) .skip (.exit 0))) (.seq (.block 1 (.seq (.reg 0 [⟨(some 26),.mv (.tmp 1),none,0⟩,⟨(some 27),.mv (.tmp 5),none,0⟩,⟨(some 28),.ixs 5 (.tmp 26) (.tmp 27),none,0⟩,⟨(some 29),.ld 5 true (.tmp 28),none,0⟩,⟨(some 30),.cl 11 [(.tmp 29)],none,0⟩,⟨(some 31),.un .not (.tmp 30),none,0⟩] none 0 []) (.cond (.tmp 31) (.seq (.reg 0 [⟨(some 32),.cl 12 [],none,0⟩,⟨(some 4),.mv (.tmp 32),none,0⟩] none 0 []) .ret) .skip))) (.reg 0 [⟨(some 24),.mv (.tmp 5),none,0⟩,⟨(some 25),.bin .add (.tmp 24) (.const (.int .i64 1)),none,0⟩,⟨(some 5),.mv (.tmp 25),none,0⟩] none 0 [])))))) (.seq (.reg 1 [⟨(some 34),.mv (.tmp 0),none,0⟩,⟨(some 35),.cl 29 [(.tmp 34)],none,0⟩,⟨(some 33),.mv (.tmp 35),none,0⟩,⟨(some 36),.ex (.tmp 33) 0,none,0⟩,⟨(some 37),.ex (.tmp 33) 1,none,0⟩,⟨(some 6),.al (.agg [(.lit (.string ⟨#[]⟩)),(.lit (.string ⟨#[]⟩)),(.lit (.int .i64 0)),(.lit (.int .i64 0)),(.lit (.bool false))]),none,0⟩,⟨none,.st 5 (.tmp 6) (.tmp 36),none,1⟩,⟨(some 7),.mv (.tmp 37),none,1⟩] none 0 []) (.seq (.reg 1 [⟨(some 39),.mv (.tmp 0),none,0⟩,⟨(some 40),.cl 30 [(.tmp 39)],none,0⟩,⟨(some 38),.mv (.tmp 40),none,0⟩,⟨(some 41),.ex (.tmp 38) 0,none,0⟩,⟨(some 42),.ex (.tmp 38) 1,none,0⟩,⟨(some 8),.al (.agg [(.lit (.string ⟨#[]⟩)),(.lit (.string ⟨#[]⟩)),(.lit (.int .i64 0)),(.lit (.int .i64 0)),(.lit (.bool false))]),none,0⟩,⟨none,.st 5 (.tmp 8) (.tmp 41),none,1⟩,⟨(some 9),.mv (.tmp 42),none,1⟩] none 0 []) (.seq (.reg 0 [⟨(some 43),.mv (.tmp 1),none,0⟩,⟨(some 44),.cl 31 [(.tmp 43)],none,0⟩,⟨(some 10),.mv (.tmp 44),none,0⟩] none 0 []) (.seq (.reg 0 [⟨(some 45),.ld 5 true (.tmp 6),none,0⟩,⟨(some 46),.ld 5 true (.tmp 8),none,0⟩,⟨(some 47),.eqa false [2,2,1,1,0] (.tmp 45) (.tmp 46),none,0⟩,⟨(some 48),.mv (.tmp 47),none,0⟩,⟨(some 49),.mv (.tmp 7),(some (48,true)),0⟩,⟨(some 50),.mv (.tmp 9),(some (48,true)),0⟩,⟨(some 51),.bin .eql (.tmp 49) (.tmp 50),(some (48,true)),0⟩,⟨(some 52),.pick (.tmp 48) (.tmp 51) (.const (.bool false)),none,0⟩,⟨(some 53),.mv (.tmp 52),none,0⟩,⟨(some 54),.mv (.tmp 10),(some (53,true)),0⟩,⟨(some 55),.cl 34 [(.tmp 54)],(some (53,true)),0⟩,⟨(some 56),.cl 33 [(.tmp 55)],(some (53,true)),0⟩,⟨(some 57),.mv (.tmp 1),(some (53,true)),0⟩,⟨(some 58),.cl 35 [(.tmp 57)],(some (53,true)),0⟩,⟨(some 59),.cl 32 [(.tmp 56),(.tmp 58)],(some (53,true)),0⟩,⟨(some 60),.pick (.tmp 53) (.tmp 59) (.const (.bool false)),none,0⟩,⟨(some 61),.mv (.tmp 60),none,0⟩,⟨(some 62),.mv (.tmp 10),(some (61,true)),0⟩,⟨(some 63),.cl 33 [(.tmp 62)],(some (61,true)),0⟩,⟨(some 64),.mv (.tmp 1),(some (61,true)),0⟩,⟨(some 65),.cl 32 [(.tmp 63),(.tmp 64)],(some (61,true)),0⟩,⟨(some 66),.pick (.tmp 61) (.tmp 65) (.const (.bool false)),none,0⟩,⟨(some 67),.mv (.tmp 66),none,0⟩,⟨(some 68),.cl 12 [],(some (67,true)),0⟩,⟨(some 69),.pick (.tmp 67) (.tmp 68) (.const (.bool false)),none,0⟩,⟨(some 4),.mv (.tmp 69),none,0⟩] none 0 []) .ret)))))))
theorem gc4_ok:compF Tryz.prog Tryz.f4=some (gc4.er,70,[.tmp 4]):=by unfold gc4;kernel_rfl
theorem p_law20_ItemReads_v {u1:Bool} (a0:ByteArray) (a1:List ItemItem):CallsO Tryz.prog 4 [.s a0,.sl (List.map ItemItem.v a1) u1] V.b (tru? (p_law20_ItemReads a0 a1)):=by
 refine callsO_comp mix Tryz.func4 gc4_ok fun r H=>?_
 have H1:=tru_of H
 clear H
 obtain ⟨rfl,H⟩:=H1
 rw [p_law20_ItemReads] at H
 conv=>whnf
 refine tst_c H (fun b1 H=>?_) (fun b1 H=>?_)
 ·conv=>whnf
  iterate 4 (refine Tst.T ?_;conv=>whnf)
  refine ask_c (p_law20_awake_v) H rfl rfl (fun v2 H=>?_);conv=>whnf
  exact fb_ H
 conv=>whnf
 refine Tst.F ?_;conv=>whnf
 refine LenQ.M ?_;conv=>whnf
 iterate 2 (refine Tst.F ?_;conv=>whnf)
 refine tst_c H (fun b3 H=>?_) (fun b3 H=>?_)
 ·conv=>whnf
  refine ask_c (p_law20_awake_v) H rfl rfl (fun v4 H=>?_);conv=>whnf
  exact fb_ H
 conv=>whnf
 obtain ⟨o6,HL7,HQ8⟩:=bind_c H
 refine loop_c [4,5] [20,21,22,23,24,25,26,27,28,29,30,31,32] [20,21,22,23,24,25,26,27,28,29,30,31,32] (fun n vals st=>(∃ y10,p_law20_ItemReads_l1  a1 n y10=some o6∧vals=[.b false,.i y10]∧st=[])) fuel 0 [] (⟨_,HL7,rfl,rfl⟩) (Nat.zero_le _) rfl (by kernel_rfl) (by kernel_rfl) rfl trivial ?_
 rintro (_ | n9) _ _ (⟨y10,H,rfl,rfl⟩)
 ·rw [p_law20_ItemReads_l1] at H;cases H
 rw [p_law20_ItemReads_l1] at H
 conv=>whnf
 refine LenQ.M ?_;conv=>whnf
 refine tst_c H (fun b11 H=>?_) (fun b11 H=>?_)
 ·conv=>whnf
  refine ixs_c (f:=ItemItem.v) H (fun _=>rfl) (fun x12 H=>?_);conv=>whnf
  refine ask_c (p_ref20_Light_v _) H rfl rfl (fun v13 H=>?_);conv=>whnf
  refine Tst.not ?_
  refine tst_c H (fun b14 H=>?_) (fun b14 H=>?_)
  ·conv=>whnf
   refine Ari.w ?_;conv=>whnf
   exact again_c [20,21,22,23,24,25,26,27,28,29,30,31,32] n9 0 [] (⟨_,H,rfl,rfl⟩) (Nat.lt_succ_self _) (Nat.zero_le _) rfl (by kernel_rfl) (by kernel_rfl) rfl trivial
  conv=>whnf
  refine ask_c (p_law20_awake_v) H rfl rfl (fun v15 H=>?_);conv=>whnf
  obtain rfl:=Option.some.inj H
  have H:=HQ8
  try dsimp only at H
  exact fb_ H
 conv=>whnf
 obtain rfl:=Option.some.inj H
 have H:=HQ8
 try dsimp only at H
 refine ask_c (p_item_Get_v _) H rfl rfl (fun v16 H=>?_);conv=>whnf
 refine ⟨Nat.le_of_ble_eq_true rfl,?_⟩;conv=>whnf
 refine ask_c (p_ref20_Get_v _) H rfl rfl (fun v17 H=>?_);conv=>whnf
 refine ⟨Nat.le_of_ble_eq_true rfl,?_⟩;conv=>whnf
 refine ask_c (p_law20_Own_v _) H rfl rfl (fun v18 H=>?_);conv=>whnf
 refine tstT_c H (fun b19 H=>?_);conv=>whnf
 iterate 3 (refine Tst.T ?_;conv=>whnf)
 refine tstT_c H (fun b20 H=>?_);conv=>whnf
 refine Tst.T ?_;conv=>whnf
 refine ask_c (p_item_Sort_v _) H rfl rfl (fun v21 H=>?_);conv=>whnf
 refine Tst.T ?_;conv=>whnf
 refine ask_c (p_law20_Back_v _) H rfl rfl (fun v22 H=>?_);conv=>whnf
 iterate 2 (refine Tst.T ?_;conv=>whnf)
 refine ask_c (p_ref20_Sort_v _) H rfl rfl (fun v23 H=>?_);conv=>whnf
 refine Tst.T ?_;conv=>whnf
 refine ask_c (p_ref20_SameItems_v _ _) H rfl rfl (fun v24 H=>?_);conv=>whnf
 refine Tst.T ?_;conv=>whnf
 refine tstT_c H (fun b25 H=>?_);conv=>whnf
 refine Tst.T ?_;conv=>whnf
 refine ask_c (p_law20_Back_v _) H rfl rfl (fun v26 H=>?_);conv=>whnf
 iterate 2 (refine Tst.T ?_;conv=>whnf)
 refine ask_c (p_ref20_SameItems_v _ _) H rfl rfl (fun v27 H=>?_);conv=>whnf
 refine Tst.T ?_;conv=>whnf
 refine tstT_c H (fun b28 H=>?_);conv=>whnf
 refine ask_c (p_law20_awake_v) H rfl rfl (fun v29 H=>?_);conv=>whnf
 refine Tst.T ?_;conv=>whnf
 exact fb_ H
end Go.Proofs.YtpmoioopjbfhkaaGreat

/- Closed facts of the statement ItemReads. -/
namespace Go.Proofs.YtpmoioopjbfhkaaGreat
open Go.ChangeShapes Go.WideShapes Go.ChangeAt Go.RowKit Go.Joins Go.Deep
theorem itemReads_named:Tryz.pinned.checked.prog.funcNamed Rows.itemReadsRow.func=some 4:=by kernel_rfl
theorem itemReads_closed:joinedFacts Tryz.pinned.checked.prog 4 Tryz.f4 Rows.itemReadsSpec Rows.itemReadsRow=true:=by kernel_rfl
end Go.Proofs.YtpmoioopjbfhkaaGreat

