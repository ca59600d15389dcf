/- A part of the proof: 7 texts joined. -/
import Derived.Test.YthnihifblmnkdaaGreatPaA13
import Derived.Test.YthnihifblmnkdaaGreatPaA18
import Derived.Test.YthnihifblmnkdaaGreatPaA19
import Derived.KernelRfl
import Derived.Test.YthnihifblmnkdaaGreatPaA20
import Derived.Test.YthnihifblmnkdaaGreatPaA17
import Derived.Test.YthnihifblmnkdaaGreatPaA14
import Derived.Test.YthnihifblmnkdaaGreatPaA15
import Derived.Test.YthnihifblmnkdaaGreatPaA16
import Derived.Test.YthnihifblmnkdaaGreatPaA22
import Derived.Test.YthnihifblmnkdaaGreatPaA12
set_option linter.all false
namespace Go.Proofs.YthnihifblmnkdaaGreat
open Go.ChangeShapes Go.WideShapes Go.ChangeAt Go.RowKit Go.Joins Go.Deep
structure Law27Deed.Wf (x:Law27Deed):Prop where
 Who:(Lit.int .u8 x.Who).wf=true
 Show:(Lit.int .u8 x.Show).wf=true
 Tell:(Lit.int .u8 x.Tell).wf=true
set_option maxRecDepth 100000 in
theorem rd_T64 {H:Type} {enc:TypeId × Value→H} {W:World} {spare:Nat→Bool} {held:Bool} {fuel:Nat} {cs:List Value} {y:DataW H × List MemPlace} (h:DataW.trod enc Tryz.prog W 0 spare held fuel 64 cs=some y):∃ x:Law27Deed,Law27Deed.Wf x∧RepL (MW W) noBk cs [.y8 x.Who,.y8 x.Show,.b x.Off,.y8 x.Tell,.b x.Anew]:=by
 obtain ⟨xs,n,_,_,hl,hx,hall⟩:=DataW.trod_struct Tryz.underlying64 h
 have hce:Tryz.prog.cellsOf 64=5:=by kernel_rfl
 rw [hce] at hl
 match cs,hl,hall with
 | [c0,c1,c2,c3,c4],_,hall =>
  obtain ⟨y0,hy0⟩:=get_some hx (show 0 < 5 by omega)
  have g0:DataW.trod enc Tryz.prog W 0 spare held n 5 [c0]=some y0:=by
   have hz:Tryz.prog.cellsOf 5=1:=by kernel_rfl
   have g:DataW.trod enc Tryz.prog W 0 spare held n 5 (([c0,c1,c2,c3,c4].drop 0).take (Tryz.prog.cellsOf 5))=some y0:=(hall 0 _ rfl).trans hy0
   rw [hz] at g;exact g
  obtain ⟨x0,w0,r0⟩:=rd_int Tryz.underlying5 g0
  obtain ⟨y1,hy1⟩:=get_some hx (show 1 < 5 by omega)
  have g1:DataW.trod enc Tryz.prog W 0 spare held n 5 [c1]=some y1:=by
   have hz:Tryz.prog.cellsOf 5=1:=by kernel_rfl
   have g:DataW.trod enc Tryz.prog W 0 spare held n 5 (([c0,c1,c2,c3,c4].drop 1).take (Tryz.prog.cellsOf 5))=some y1:=(hall 1 _ rfl).trans hy1
   rw [hz] at g;exact g
  obtain ⟨x1,w1,r1⟩:=rd_int Tryz.underlying5 g1
  obtain ⟨y2,hy2⟩:=get_some hx (show 2 < 5 by omega)
  have g2:DataW.trod enc Tryz.prog W 0 spare held n 4 [c2]=some y2:=by
   have hz:Tryz.prog.cellsOf 4=1:=by kernel_rfl
   have g:DataW.trod enc Tryz.prog W 0 spare held n 4 (([c0,c1,c2,c3,c4].drop 2).take (Tryz.prog.cellsOf 4))=some y2:=(hall 2 _ rfl).trans hy2
   rw [hz] at g;exact g
  obtain ⟨x2,r2⟩:=rd_bool Tryz.underlying4 g2
  obtain ⟨y3,hy3⟩:=get_some hx (show 3 < 5 by omega)
  have g3:DataW.trod enc Tryz.prog W 0 spare held n 5 [c3]=some y3:=by
   have hz:Tryz.prog.cellsOf 5=1:=by kernel_rfl
   have g:DataW.trod enc Tryz.prog W 0 spare held n 5 (([c0,c1,c2,c3,c4].drop 3).take (Tryz.prog.cellsOf 5))=some y3:=(hall 3 _ rfl).trans hy3
   rw [hz] at g;exact g
  obtain ⟨x3,w3,r3⟩:=rd_int Tryz.underlying5 g3
  obtain ⟨y4,hy4⟩:=get_some hx (show 4 < 5 by omega)
  have g4:DataW.trod enc Tryz.prog W 0 spare held n 4 [c4]=some y4:=by
   have hz:Tryz.prog.cellsOf 4=1:=by kernel_rfl
   have g:DataW.trod enc Tryz.prog W 0 spare held n 4 (([c0,c1,c2,c3,c4].drop 4).take (Tryz.prog.cellsOf 4))=some y4:=(hall 4 _ rfl).trans hy4
   rw [hz] at g;exact g
  obtain ⟨x4,r4⟩:=rd_bool Tryz.underlying4 g4
  exact ⟨⟨x0,x1,x2,x3,x4⟩,⟨w0,w1,w3⟩,repL_app r0 (repL_app r1 (repL_app r2 (repL_app r3 (repL_app r4 (repL_nil)))))⟩
theorem rd_T55 {H:Type} {enc:TypeId × Value→H} {W:World} {spare:Nat→Bool} {held:Bool} {fuel:Nat} {cs:List Value} {y:DataW H × List MemPlace} (h:DataW.trod enc Tryz.prog W 0 spare held fuel 55 cs=some y):∃ x:List Law27Deed,(∀ z ∈ x,Law27Deed.Wf z)∧RepL (MW W) noBk cs [(fun l:List Law27Deed=>V.sl (l.map Law27Deed.v) false) x] :=
 rd_slice (f:=Law27Deed.v) (es:=5) (wf:=Law27Deed.Wf) Tryz.underlying55 (fun _=>rfl) (by intro a v hv;simp [V.cells] at hv;first | (subst hv;rfl) | (rcases hv with rfl | rfl | rfl | rfl | rfl <;> rfl)) (by omega) (by kernel_rfl) (fun n cs y h=>rd_T64 h) h
end Go.Proofs.YthnihifblmnkdaaGreat

namespace Go.Proofs.YthnihifblmnkdaaGreat
open Go.RowKit
structure StF (F:Fam) (st:BookState) (has:List PresPres) (k:Nat):Prop where
 rows:st.Rows=tabR F has
 ok:TabOK F st.Seq has
 seq:st.Seq≤k
section
variable {F : Fam} {st : BookState} {has : List PresPres} {k : Nat}
theorem StF.small (h:StF F st has k):smallB st.Rows:=by rw [h.rows];exact tab_small F has
theorem StF.len (h:StF F st has k):st.Rows.length≤16:=by rw [h.rows];exact h.ok.cnt
theorem StF.check (h:StF F st has k) (hk:k < 900):bookCheck st.Seq st.Rows=0:=by rw [h.rows];exact tab_check h.ok (by have:=h.seq;omega)
theorem StF.up (h:StF F st has k):StF F st has (k + 1):=⟨h.rows,h.ok,by have:=h.seq;omega⟩
theorem StF.set (h:StF F st has k) (hk:k < 900) {m:Nat} (hm:m < F.n) {sh prio:Int} (hsh:0≤sh∧sh≤4) (hp:-128≤prio∧prio≤127) :
  ∃ q has',p_book_Set st (F.u m) (F.r m) sh prio=some q∧StF F q.1 has' (k + 1):=by
 have hs:=h.seq
 have h0:=h.ok.seq0
 have hl:=h.len
 have hu:=(F.ok m hm).2
 refine ⟨_,if onF has m=false∧(16≤st.Rows.length∨3≤manyL st.Rows (F.u m)) then has else has.set m ⟨true,sh,prio,st.Seq + 1⟩,set_p (by omega) h.small (by omega) (by omega),?_⟩
 have:=tab_set (sh:=sh) (prio:=prio) h.ok (by omega) hm (presOn _ _ _ hsh hp (by omega))
 rw [h.rows,this]
 split
 ·exact ⟨rfl,h.ok,by show st.Seq≤((k + 1:Nat):Int);omega⟩
 ·rename_i hno
  refine ⟨rfl,tab_ok_put h.ok hm (fun _=>⟨presOn _ _ _ hsh hp (by omega),rfl⟩) (fun _ ho=>?_),by show st.Seq + 1≤((k + 1:Nat):Int);omega⟩
  exact ⟨Nat.lt_of_not_le fun g=>hno ⟨ho,.inl g⟩,Nat.lt_of_not_le fun g=>hno ⟨ho,.inr g⟩⟩
theorem StF.off (h:StF F st has k) (hk:k < 900) {m:Nat} (hm:m < F.n):∃ q has',p_book_Off st (F.u m) (F.r m)=some q∧StF F q.1 has' (k + 1):=by
 have hs:=h.seq
 have hl:=h.len
 have hu:=(F.ok m hm).2
 refine ⟨_,if onF has m=false then has else has.set m ⟨false,0,0,st.Seq + 1⟩,off_p (by omega) h.small (by omega) (by omega),?_⟩
 have:=tab_off h.ok (by omega) hm
 rw [h.rows,this]
 split
 ·exact ⟨rfl,h.ok,by show st.Seq≤((k + 1:Nat):Int);omega⟩
 ·exact ⟨rfl,tab_ok_put h.ok hm (fun e=>by cases e) (fun e=>by cases e),by show st.Seq + 1≤((k + 1:Nat):Int);omega⟩
end
theorem ok8:(List.range 8).all (fun m=>!((keyL (u20 m) ⟨#[]⟩).toList == (⟨#[]⟩ : ByteArray).toList) && (decide ((u20 m).size≤100) && namedL (u20 m) ⟨#[]⟩))=true:=by kernel_rfl
theorem mono8:(List.range 8).all (fun j=>(List.range j).all fun i=>decide (Lib.compareBytes (keyL (u20 i) ⟨#[]⟩).data.toList (keyL (u20 j) ⟨#[]⟩).data.toList < 0) && Op.bytesLess (u20 i).toList (u20 j).toList)=true:=by kernel_rfl
theorem ok8_at {m:Nat} (h:m < 8):((keyL (u20 m) ⟨#[]⟩).toList == (⟨#[]⟩ : ByteArray).toList)=false∧(u20 m).size≤100∧namedL (u20 m) ⟨#[]⟩=true:=by
 have:=List.all_eq_true.1 ok8 m (List.mem_range.2 h)
 simpa using this
theorem mono8_at {i j:Nat} (h:i < j) (hj:j < 8):Lib.compareBytes (keyL (u20 i) ⟨#[]⟩).data.toList (keyL (u20 j) ⟨#[]⟩).data.toList < 0∧Op.bytesLess (u20 i).toList (u20 j).toList=true:=by
 have:=List.all_eq_true.1 (List.all_eq_true.1 mono8 j (List.mem_range.2 hj)) i (List.mem_range.2 h)
 simpa using this
def F8:Fam where
 n:=8
 u m:=u20 m
 r _:=⟨#[]⟩
 ok m hm:=⟨(ok8_at hm).1,(ok8_at hm).2.1,by decide⟩
 mono i j hij hj:=(mono8_at hij hj).1
theorem rep_pre (n m:Nat):preT (List.replicate n ⟨false,0,0,0⟩) m=⟨false,0,0,0⟩:=by
 unfold preT
 rw [List.getD_eq_getElem?_getD]
 by_cases h:m < n
 ·simp [h]
 ·simp [h]
theorem tab8_rows:tabR F8 (List.replicate 8 ⟨false,0,0,0⟩)=[]:=by
 unfold tabR tabA
 have:(List.range F8.n).filter (onF (List.replicate 8 ⟨false,0,0,0⟩))=[]:=List.filter_eq_nil_iff.2 fun m _=>by unfold onF;rw [rep_pre];simp
 rw [this];rfl
theorem tab8_0:TabOK F8 0 (List.replicate 8 ⟨false,0,0,0⟩):=by
 have hno:∀ m,onF (List.replicate 8 ⟨false,0,0,0⟩) m=false:=fun m=>by unfold onF;rw [rep_pre]
 refine ⟨by simp [F8],by omega,fun m _ h=>?_,fun m _ h=>?_,fun i j _ _ h=>?_,by rw [tab8_rows];simp,fun m _ h=>?_⟩ <;> rw [hno] at h <;> cases h
theorem St8.init:StF F8 ⟨0,[]⟩ (List.replicate 8 ⟨false,0,0,0⟩) 0:=⟨tab8_rows.symm,tab8_0,by simp⟩
end Go.Proofs.YthnihifblmnkdaaGreat

namespace Go.Proofs.YthnihifblmnkdaaGreat
open Go.RowKit
structure GoodM (l:List MailEntry):Prop where
 len:l.length≤16
 key:∀ x ∈ l,keyM x=true
 pres:∀ x ∈ l,presCheckL x.P=0
 srt:srtM l
 dis:disM l
theorem preE_0:∀ {l:List MailEntry},preE l=0 ↔ ∀ x ∈ l,presCheckL x.P=0
 | []=>⟨fun _ _ h=>(by cases h),fun _=>rfl⟩
 | x :: t=>by
  rw [preE]
  by_cases h:presCheckL x.P=0
  ·rw [if_neg (by simpa using h),preE_0]
   exact ⟨fun g y hy=>by rcases List.mem_cons.1 hy with rfl | hy <;> first | exact h | exact g _ hy,fun g y hy=>g y (List.mem_cons_of_mem _ hy)⟩
  ·rw [if_pos h]
   exact ⟨fun g=>absurd g h,fun g=>absurd (g x (List.mem_cons_self ..)) h⟩
theorem goodM_iff {l:List MailEntry}:mailC l=0 ↔ GoodM l:=by
 constructor
 ·intro h
  obtain ⟨h1,h2,h3,_⟩:=mailC_0.1 h
  obtain ⟨o1,o2,o3⟩:=ok_of h
  exact ⟨h1,List.all_eq_true.1 h2,preE_0.1 h3,o2,o3⟩
 ·intro h
  refine mailC_0.2 ⟨h.len,List.all_eq_true.2 h.key,preE_0.2 h.pres,(ordR_iff (by omega)).2 fun j _ hl=>⟨fun h0 hh=>?_,?_⟩⟩
  ·exact List.pairwise_iff_getElem.1 h.srt (j - 1) j (by omega) hl (by omega) hh
  ·rcases fndM_spec l[j].Key l 0 with ⟨_,g⟩ | ⟨p,y,q,e,g1,g2,g3⟩
   ·exact absurd rfl (g l[j] (List.getElem_mem hl))
   ·rw [g3]
    have hy:∀ hp:p.length < l.length,l[p.length]=y:=fun hp=>by simp only [e];rw [List.getElem_append_right (Nat.le_refl _)];simp
    have hpl:p.length < l.length:=by rw [e];simp
    rcases Nat.lt_trichotomy p.length j with c | c | c
    ·exact absurd (by rw [hy hpl,g1]) (List.pairwise_iff_getElem.1 h.dis p.length j hpl hl c)
    ·rw [Nat.zero_add,c]
    ·exfalso
     have hj:l[j]=p[j]:=by simp only [e];rw [List.getElem_append_left c]
     exact g2 p[j] (List.getElem_mem c) (by rw [hj])
theorem GoodM.sub {l r:List MailEntry} (h:GoodM l) (hs:r.Sublist l):GoodM r :=
 ⟨Nat.le_trans hs.length_le h.len,fun x hx=>h.key x (hs.subset hx),fun x hx=>h.pres x (hs.subset hx),h.srt.sublist hs,h.dis.sublist hs⟩
theorem pw_all {α:Type} {R:α→α→Prop}:∀ {l:List α},(∀ a ∈ l,∀ b ∈ l,R a b)→l.Pairwise R
 | [],_=>.nil
 | x :: t,h=>.cons (fun y hy=>h x (List.mem_cons_self ..) y (List.mem_cons_of_mem _ hy)) (pw_all fun a ha b hb=>h a (List.mem_cons_of_mem _ ha) b (List.mem_cons_of_mem _ hb))
theorem GoodM.nil:GoodM []:=⟨by simp,(fun _ h=>by cases h),(fun _ h=>by cases h),.nil,.nil⟩
theorem good_put {st:List MailEntry} {k:ByteArray} {p:PresPres} {x:List MailEntry × Int} (h:smM st) (hg:GoodM st) (hk:k.size≤100000) (hx:p_mail_Put st k p=some x) (h0:x.2=0):GoodM x.1∧smM x.1:=by
 obtain ⟨c1,_⟩:=mailC_p h
 have hn:=h.1
 have hc:mailC st=0:=goodM_iff.2 hg
 rw [hc] at c1
 obtain ⟨k1,_⟩:=mkey_p (x:=MailEntry.mk k p) hk
 have hkM:=k1
 unfold p_mail_Put at hx
 rw [mclone hn,c1,show p_mail_key k=_ from k1,pc_p,(mfind_p st k hn).1] at hx
 simp only [bne_self_eq_false,cond_false,Option.bind_some] at hx
 cases hkey:keyM (MailEntry.mk k p) with
 | false =>
  rw [hkey] at hx
  simp only [cond_false,Option.some.injEq] at hx
  rw [← hx] at h0;simp at h0
 | true =>
  rw [hkey] at hx
  simp only [cond_true] at hx
  by_cases hp:presCheckL p=0
  rotate_left
  ·have q:(presCheckL p != 0)=true:=by simpa using hp
   rw [q] at hx
   simp only [cond_true,Option.some.injEq] at hx
   rw [← hx] at h0;exact absurd h0 hp
  rw [hp] at hx
  simp only [bne_self_eq_false,cond_false] at hx
  -- a list of the same kind with the new one in it
  have fin:∀ (l:List MailEntry) (hl:srtM l) (hd:disM l) (hlen:l.length < 16) (hsub:∀ y ∈ l,y ∈ st) (hno:∀ y ∈ l,y.Key≠k) (z:List MailEntry × Int),
    (bif p.On then (insAt? l (l.length:Int) (MailEntry.mk k p)).bind fun v=>some (v,(0:Int)) else (p_mail_Off l).bind fun o=>(insAt? l o (MailEntry.mk k p)).bind fun v=>some (v,(0:Int)))=some z→GoodM z.1∧smM z.1:=fun l hl hd hlen hsub hno z hz=>by
   have hp1:=(ins_two hl (by omega) (MailEntry.mk k p)).1
   have hp2:=(ins_two hl (by omega) (MailEntry.mk k p)).2
   rw [moff_p l (by omega),Option.bind_some,hp1,hp2] at hz
   have hs:=srt_split hl
   rw [← ofalse,← otrue] at hs
   have perm:z.1.Perm (MailEntry.mk k p :: l):=by
    cases ho:p.On with
    | true =>
     rw [ho] at hz;simp only [cond_true,Option.bind_some,Option.some.injEq] at hz
     rw [← hz]
     show (_++(_++[_])).Perm _
     rw [← List.append_assoc,hs];exact List.perm_append_singleton _ _
    | false =>
     rw [ho] at hz;simp only [cond_false,Option.bind_some,Option.some.injEq] at hz
     rw [← hz]
     show ((_++[_])++_).Perm _
     rw [List.append_assoc,List.singleton_append]
     refine List.perm_middle.trans ?_
     rw [hs]
   have mem:∀ y ∈ z.1,y=MailEntry.mk k p∨y ∈ l:=fun y hy=>List.mem_cons.1 (perm.mem_iff.1 hy)
   have hof:∀ y ∈ l.filter (fun x=>x.P.On == false),y.P.On=false:=fun y hy=>by simpa using (List.mem_filter.1 hy).2
   have hon:∀ y ∈ l.filter (fun x=>x.P.On == true),y.P.On=true:=fun y hy=>by simpa using (List.mem_filter.1 hy).2
   have sz:z.1.length=l.length + 1:=by rw [perm.length_eq];rfl
   refine ⟨⟨by omega,fun y hy=>?_,fun y hy=>?_,?_,?_⟩,by show z.1.length≤1000;omega,fun y hy=>?_⟩
   ·rcases mem y hy with rfl | g
    ·exact hkey
    ·exact hg.key y (hsub y g)
   ·rcases mem y hy with rfl | g
    ·exact hp
    ·exact hg.pres y (hsub y g)
   ·cases ho:p.On with
    | true =>
     rw [ho] at hz;simp only [cond_true,Option.bind_some,Option.some.injEq] at hz
     rw [← hz]
     show srtM (_++(_++[_]))
     refine List.pairwise_append.2 ⟨pw_all fun a ha b _ h=>(by rw [hof a ha] at h;cases h),pw_all fun a _ b hb _=>?_,fun a ha b _ h=>by rw [hof a ha] at h;cases h⟩
     rcases List.mem_append.1 hb with hb | hb
     ·exact hon b hb
     ·rw [List.mem_singleton.1 hb];exact ho
    | false =>
     rw [ho] at hz;simp only [cond_false,Option.bind_some,Option.some.injEq] at hz
     rw [← hz]
     show srtM ((_++[_])++_)
     have hoff:∀ a ∈ l.filter (fun x=>x.P.On == false)++[MailEntry.mk k p],a.P.On=false:=fun a ha=>by
      rcases List.mem_append.1 ha with ha | ha
      ·exact hof a ha
      ·rw [List.mem_singleton.1 ha];exact ho
     exact List.pairwise_append.2 ⟨pw_all fun a ha b _ h=>(by rw [hoff a ha] at h;cases h),pw_all fun a _ b hb _=>hon b hb,fun a ha b _ h=>by rw [hoff a ha] at h;cases h⟩
   ·exact (perm.pairwise_iff (R:=fun u v:MailEntry=>u.Key≠v.Key) (fun {u v} huv=>Ne.symm huv)).2 (List.pairwise_cons.2 ⟨fun y hy=>(hno y hy).symm,hd⟩)
   ·rcases mem y hy with rfl | g
    ·exact hk
    ·exact h.2 y (hsub y g)
  rcases fndM_spec k st 0 with ⟨h1,h2⟩ | ⟨a,y,b,rfl,h2,h3,h4⟩
  ·rw [h1,show ((-1:Int) == -1)=true from rfl] at hx
   simp only [cond_true] at hx
   by_cases hl:st.length=16
   ·rw [hl] at hx
    simp only [show (((16:Nat):Int) == (16:Int))=true from rfl,cond_true,Option.some.injEq] at hx
    rw [← hx] at h0;simp at h0
   ·rw [show ((st.length:Int) == (16:Int))=false by simp;omega] at hx
    exact fin st hg.srt hg.dis (by have:=hg.len;omega) (fun _ h=>h) h2 x hx
  ·have e0:fndM k (a++y :: b) 0=(a.length:Int):=h4.trans (by rw [Nat.zero_add])
   have hlen:(a++y :: b).length=a.length + b.length + 1:=by rw [List.length_append,List.length_cons];omega
   have h16:=hg.len
   rw [e0,show ((a.length:Int) == -1)=false from beq_eq_false_iff_ne.2 (by omega),mat rfl] at hx
   simp only [cond_false,Option.bind_some,(newer_pr _ _).1] at hx
   cases hnw:decide (y.P.Seq < p.Seq) with
   | false =>
    rw [hnw] at hx
    simp only [cond_false,Option.some.injEq] at hx
    rw [← hx];exact ⟨hg,h⟩
   | true =>
    rw [hnw] at hx
    simp only [cond_true] at hx
    cases hs:(p.On == y.P.On) with
    | true =>
     rw [hs] at hx
     simp only [cond_true,mat rfl,Option.bind_some,Option.some.injEq] at hx
     have ho:p.On=y.P.On:=by simpa using hs
     have e1:x.1=a++MailEntry.mk y.Key p :: b:=by rw [← hx];show List.set _ _ _=_;simp
     have mem:∀ z ∈ x.1,z=MailEntry.mk y.Key p∨z ∈ a++y :: b:=fun z hz=>by
      rw [e1] at hz
      rcases List.mem_append.1 hz with hz | hz
      ·exact .inr (List.mem_append_left _ hz)
      ·rcases List.mem_cons.1 hz with hz | hz
       ·exact .inl hz
       ·exact .inr (List.mem_append_right _ (List.mem_cons_of_mem _ hz))
     refine ⟨⟨by rw [e1];simp;omega,fun z hz=>?_,fun z hz=>?_,?_,?_⟩,by rw [e1];show (_:List MailEntry).length≤1000;simp;omega,fun z hz=>?_⟩
     ·rcases mem z hz with rfl | g
      ·rw [h2];exact hkey
      ·exact hg.key z g
     ·rcases mem z hz with rfl | g
      ·exact hp
      ·exact hg.pres z g
     ·rw [e1]
      have g:=hg.srt
      unfold srtM at g ⊢
      rw [List.pairwise_append,List.pairwise_cons] at g ⊢
      refine ⟨g.1,⟨fun z hz hh=>g.2.1.1 z hz (by rw [← ho];exact hh),g.2.1.2⟩,fun u hu z hz=>?_⟩
      rcases List.mem_cons.1 hz with rfl | hz
      ·intro hh;show p.On=true;rw [ho];exact g.2.2 u hu y (List.mem_cons_self ..) hh
      ·exact g.2.2 u hu z (List.mem_cons_of_mem _ hz)
     ·rw [e1]
      have g:=hg.dis
      unfold disM at g ⊢
      rw [List.pairwise_append,List.pairwise_cons] at g ⊢
      refine ⟨g.1,⟨fun z hz=>g.2.1.1 z hz,g.2.1.2⟩,fun u hu z hz=>?_⟩
      rcases List.mem_cons.1 hz with rfl | hz
      ·exact g.2.2 u hu y (List.mem_cons_self ..)
      ·exact g.2.2 u hu z (List.mem_cons_of_mem _ hz)
     ·rcases mem z hz with rfl | g
      ·rw [h2];exact hk
      ·exact h.2 z g
    | false =>
     rw [hs] at hx
     simp only [cond_false] at hx
     rw [mdel rfl (w64_id (by omega)) hn] at hx
     simp only [Option.bind_some] at hx
     have h5:∀ x ∈ b,x.Key≠k:=fun x hx=>by have:=dis_mid hg.dis x hx;rwa [h2] at this
     refine fin (a++b) (srt_cut hg.srt) (hg.dis.sublist (List.Sublist.append (List.Sublist.refl _) (List.sublist_cons_self _ _))) (by rw [List.length_append];omega) (fun z hz=>?_) (fun z hz=>?_) x hx
     ·rcases List.mem_append.1 hz with hz | hz
      ·exact List.mem_append_left _ hz
      ·exact List.mem_append_right _ (List.mem_cons_of_mem _ hz)
     ·rcases List.mem_append.1 hz with hz | hz
      ·exact h3 z hz
      ·exact h5 z hz
theorem snapE_beg:snapE ⟨true,false,⟨#[]⟩,0⟩=0:=by unfold snapE;simp
theorem snapE_off:snapE ⟨false,false,⟨#[]⟩,0⟩=0:=by unfold snapE;simp
structure GoodS (s:Ref27State):Prop where
 sm:smM s.Mail
 mail:GoodM s.Mail
 snap:snapE s.Snap=0
 sent:0≤s.Sent∧s.Sent≤1099511627776
 lost:0≤s.Lost∧s.Lost≤1099511627776
theorem GoodS.chk {s:Ref27State} (h:GoodS s):p_outq_Check s=some 0:=by
 rw [(outC_p h.sm).1]
 unfold outC
 rw [if_neg (by simpa using goodM_iff.2 h.mail),if_neg (by simpa using h.snap),if_pos ⟨h.sent,h.lost⟩]
theorem good_add {s:Ref27State} {k:ByteArray} (p:PresPres) (h:GoodS s) (hk:k.size≤100000):∃ x,p_outq_Add s k p=some x∧GoodS x:=by
 obtain ⟨v,v1,_⟩:=covers_p s.Snap k
 obtain ⟨x,x1,_,_⟩:=put_p p h.sm hk
 unfold p_outq_Add
 rw [h.chk,v1,x1]
 simp only [bne_self_eq_false,cond_false,Option.bind_some]
 cases v with
 | true=>exact ⟨_,rfl,h⟩
 | false =>
  simp only [cond_false]
  cases h0:(x.2 == 0) with
  | true =>
   obtain ⟨g1,g2⟩:=good_put h.sm h.mail hk x1 (by simpa using h0)
   exact ⟨_,rfl,⟨g2,g1,h.snap,h.sent,h.lost⟩⟩
  | false =>
   cases h7:(x.2 == 7) with
   | true =>
    refine ⟨_,rfl,⟨⟨by simp [p_snap_Begin],fun y hy=>by cases hy⟩,GoodM.nil,snapE_beg,h.sent,?_⟩⟩
    have hl:=h.lost
    show 0≤(if (1099511627776:Int) < w64 (s.Lost + 1) then _ else _)∧(if (1099511627776:Int) < w64 (s.Lost + 1) then (1099511627776:Int) else w64 (s.Lost + 1))≤_
    rw [w64_id (by omega)]
    split <;> omega
   | false=>exact ⟨_,rfl,h⟩
def begS (s:Ref27State):Ref27State:=⟨[],⟨true,false,⟨#[]⟩,0⟩,s.Sent,s.Lost⟩
theorem begin_p {s:Ref27State} (h:GoodS s):p_outq_Begin s=some (begS s)∧GoodS (begS s):=by
 unfold p_outq_Begin
 rw [h.chk]
 exact ⟨rfl,⟨⟨by simp [begS],fun y hy=>by cases hy⟩,GoodM.nil,snapE_beg,h.sent,h.lost⟩⟩
theorem good_forget {s:Ref27State} (u:ByteArray) (h:GoodS s):p_outq_Forget s u=some ⟨s.Mail.filter (fun x=>!ofM u x),s.Snap,s.Sent,s.Lost⟩∧GoodS ⟨s.Mail.filter (fun x=>!ofM u x),s.Snap,s.Sent,s.Lost⟩:=by
 have hc:mailC s.Mail=0:=goodM_iff.2 h.mail
 obtain ⟨c1,_⟩:=mailC_p h.sm
 have hf:∀ x ∈ s.Mail,p_mail_Drop_1 x u=some (ofM u x):=fun x hx=>by
  unfold p_mail_Drop_1 p_mail_Entry_user
  rw [split_p (h.sm.2 x hx)];rfl
 have hn:=h.sm.1
 have d:delF? (fun x0=>p_mail_Drop_1 x0 u) s.Mail=some (s.Mail.filter fun x=>!ofM u x):=by
  unfold delF?
  rw [if_pos ⟨by omega,List.all_eq_true.2 fun x hx=>by show (p_mail_Drop_1 x u).isSome=true;rw [hf x hx];rfl⟩]
  congr 1
  exact List.filter_congr fun x hx=>by show (!((p_mail_Drop_1 x u).getD false))=_;rw [hf x hx];rfl
 constructor
 ·unfold p_outq_Forget p_mail_Drop
  rw [h.chk,mclone hn,c1,hc]
  simp only [Option.bind_some,bne_self_eq_false,cond_false,beq_self_eq_true,cond_true]
  rw [d];rfl
 ·exact ⟨⟨Nat.le_trans (List.length_filter_le ..) hn,fun x hx=>h.sm.2 x (List.mem_filter.1 hx).1⟩,h.mail.sub List.filter_sublist,h.snap,h.sent,h.lost⟩
def rowsB (e:SnapEyes) (b:BookState) (a:ByteArray):List BookRow:=b.Rows.filter fun x=>decide (0 < cmpR x a) && seesL e x
theorem rowsB_eq {e:SnapEyes} {b:BookState} (hc:bookCheck b.Seq b.Rows=0) (a:ByteArray):(b.Rows.drop (aftL b.Rows a)).filter (seesL e)=rowsB e b a:=by
 have e1:(b.Rows.take (aftL b.Rows a)).filter (fun x=>decide (0 < cmpR x a) && seesL e x)=[]:=List.filter_eq_nil_iff.2 fun x hx=>by
  obtain ⟨i,hi,rfl⟩:=List.getElem_of_mem hx
  rw [List.length_take] at hi
  rw [List.getElem_take,decide_eq_false (aft_lt _ (by omega))];simp
 have e2:(b.Rows.drop (aftL b.Rows a)).filter (fun x=>decide (0 < cmpR x a) && seesL e x)=(b.Rows.drop (aftL b.Rows a)).filter (seesL e):=List.filter_congr fun x hx=>by
  rw [decide_eq_true (aft_mem hc hx),Bool.true_and]
 have e3:=congrArg (List.filter (fun x=>decide (0 < cmpR x a) && seesL e x)) (List.take_append_drop (aftL b.Rows a) b.Rows)
 rw [List.filter_append,e1,e2,List.nil_append] at e3
 exact e3
theorem cmpR_tr {x y:BookRow} {a:ByteArray} (h1:0 < cmpR y (keyR x)) (h2:0 < cmpR x a):0 < cmpR y a:=by
 unfold cmpR at h1 h2 ⊢
 have e1:=cmp_anti (keyR y).data.toList (keyR x).data.toList
 have e2:=cmp_anti (keyR x).data.toList a.data.toList
 have e3:=cmp_anti (keyR y).data.toList a.data.toList
 have:=cmp_trans (a:=a.data.toList) (b:=(keyR x).data.toList) (c:=(keyR y).data.toList) (by omega) (by omega)
 omega
theorem rowsB_next {e:SnapEyes} {b:BookState} {a:ByteArray} {x:BookRow} {r:List BookRow} (hp:b.Rows.Pairwise fun x y=>cmpR x (keyR y) < 0) (h:rowsB e b a=x :: r):rowsB e b (keyR x)=r:=by
 have hx:0 < cmpR x a:=by
  have:x ∈ rowsB e b a:=by rw [h];exact List.mem_cons_self ..
  have:=(List.mem_filter.1 this).2
  simp only [Bool.and_eq_true,decide_eq_true_eq] at this
  exact this.1
 have e1:rowsB e b (keyR x)=(rowsB e b a).filter fun y=>decide (0 < cmpR y (keyR x)):=by
  unfold rowsB
  rw [List.filter_filter]
  refine List.filter_congr fun y _=>?_
  by_cases g:0 < cmpR y (keyR x)
  ·rw [decide_eq_true g,decide_eq_true (cmpR_tr g hx)];simp
  ·rw [decide_eq_false g];simp
 have hp2:(x :: r).Pairwise fun x y=>cmpR x (keyR y) < 0:=by rw [← h];exact hp.sublist List.filter_sublist
 rw [e1,h,List.filter_cons]
 have h0:¬ 0 < cmpR x (keyR x):=by unfold cmpR;rw [cmp_refl];omega
 rw [if_neg (by simpa using h0)]
 refine List.filter_eq_self.2 fun y hy=>?_
 have g:=(List.pairwise_cons.1 hp2).1 y hy
 unfold cmpR at g ⊢
 have:=cmp_anti (keyR x).data.toList (keyR y).data.toList
 simp only [decide_eq_true_eq];omega
def turnM (T:OutqTeller):Option (OutqTeller × StanzaStanza) :=
 if T.st.Snap.On=true then
  (if T.st.Snap.Begun=true then (match rowsB T.eyes T.book T.st.Snap.After with
   | []=>some (⟨⟨tnx T.counter.sent⟩,⟨T.st.Mail,snap0,T.st.Sent,T.st.Lost⟩,T.eyes,T.book⟩,doneS)
   | x :: _=>some (⟨⟨tnx T.counter.sent⟩,⟨T.st.Mail,⟨true,true,keyR x,tnx T.st.Snap.Told⟩,T.st.Sent,T.st.Lost⟩,T.eyes,T.book⟩,sayR x))
  else some (⟨⟨tnx T.counter.sent⟩,⟨T.st.Mail,⟨true,true,⟨#[]⟩,0⟩,T.st.Sent,T.st.Lost⟩,T.eyes,T.book⟩,snapS ((viewL T.eyes T.book).length:Int)))
 else match T.st.Mail with
  | []=>none
  | e :: r=>some (⟨⟨tnx T.counter.sent⟩,⟨r,T.st.Snap,T.st.Sent,T.st.Lost⟩,T.eyes,T.book⟩,sayL (splitE e.Key).1 (splitE e.Key).2.1 e.P)
theorem tnext_t {T:OutqTeller} (h:OkT T) (hc:bookCheck T.book.Seq T.book.Rows=0):p_outq_teller_next T=some (match turnM T with | some z=>(z.1,z.2,true) | none=>(T,stz0,false)):=by
 obtain ⟨t1,_⟩:=tnx_p h.sent.1 h.sent.2
 unfold p_outq_teller_next turnM p_outq_counter_told
 cases ho:T.st.Snap.On with
 | true =>
  simp only [cond_true,if_true]
  rcases snapE_on h.snap ho with ⟨g1,g2,g3⟩ | g1
  ·have hb:T.st.Snap.Begun=true:=by rw [g1]
   have n1:=next_rowT h.eyes h.rows h.small hc g2 g3 (aft_le T.book.Rows T.st.Snap.After) (nxt_at hc T.st.Snap.After)
   rw [← g1] at n1
   rw [rowsB_eq hc] at n1
   rw [n1,hb]
   cases rowsB T.eyes T.book T.st.Snap.After with
   | nil=>simp only [Option.bind_some,cond_true,if_true,t1]
   | cons x r=>simp only [Option.bind_some,cond_true,if_true,t1]
  ·have hb:T.st.Snap.Begun=false:=by rw [g1]
   rw [hb,g1,next_begin h.eyes h.rows h.small hc]
   simp only [Option.bind_some,cond_true,t1,Bool.false_eq_true,if_false]
 | false =>
  simp only [cond_false,Bool.false_eq_true,if_false]
  obtain ⟨c1,_⟩:=mailC_p h.sm
  rw [h.mail] at c1
  unfold p_mail_Take
  rw [c1]
  cases hm:T.st.Mail with
  | nil=>rfl
  | cons e r =>
   have hl:(((e :: r).length:Int) == 0)=false:=by first | (simp;done) | (simp;omega)
   have hcut:cut? (e :: r) (some (1:Int)) none=some r:=by
    have:=cutFrom (l:=e :: r) (k:=1) (by simp)
    simpa using this
   have hat:at? (e :: r) (0:Int)=some e:=rfl
   have he:e.Key.size≤100000:=h.sm.2 e (by rw [hm];exact List.mem_cons_self ..)
   obtain ⟨z1,z2⟩:=split_szs he
   simp only [cond_false,cond_true,hl,Option.bind_some,bne_self_eq_false,hcut,hat,split_p he,say_p _ z1 z2,t1]
theorem snapE_row {a:ByteArray} {t:Int} (h:0≤t∧t≤1099511627776):snapE ⟨true,true,a,t⟩=0:=by
 unfold snapE
 simp only [if_true]
 rw [if_neg (by omega),if_neg (by omega)]
theorem turn_ok {T T' : OutqTeller} {s:StanzaStanza} (h:OkT T) (ht:turnM T=some (T',s)):OkT T'∧T'.eyes=T.eyes∧T'.book=T.book:=by
 have tb:=tnx_bd h.sent.1 h.sent.2
 unfold turnM at ht
 cases ho:T.st.Snap.On with
 | true =>
  rw [ho] at ht
  simp only [if_true] at ht
  rcases snapE_on h.snap ho with ⟨g1,g2,g3⟩ | g1
  ·have hb:T.st.Snap.Begun=true:=by rw [g1]
   rw [hb] at ht
   simp only [if_true] at ht
   cases hr:rowsB T.eyes T.book T.st.Snap.After with
   | nil =>
    rw [hr] at ht
    simp only [Option.some.injEq,Prod.mk.injEq] at ht
    obtain ⟨rfl,_⟩:=ht
    exact ⟨⟨h.sm,h.mail,by show snapE snap0=0;unfold snapE snap0;simp,tb,h.lost,h.eyes,h.rows,h.small⟩,rfl,rfl⟩
   | cons x r =>
    rw [hr] at ht
    simp only [Option.some.injEq,Prod.mk.injEq] at ht
    obtain ⟨rfl,_⟩:=ht
    exact ⟨⟨h.sm,h.mail,snapE_row (tnx_bd g2 g3),tb,h.lost,h.eyes,h.rows,h.small⟩,rfl,rfl⟩
  ·have hb:T.st.Snap.Begun=false:=by rw [g1]
   rw [hb] at ht
   simp only [Bool.false_eq_true,if_false,Option.some.injEq,Prod.mk.injEq] at ht
   obtain ⟨rfl,_⟩:=ht
   exact ⟨⟨h.sm,h.mail,snapE_row ⟨by omega,by omega⟩,tb,h.lost,h.eyes,h.rows,h.small⟩,rfl,rfl⟩
 | false =>
  rw [ho] at ht
  simp only [Bool.false_eq_true,if_false] at ht
  cases hm:T.st.Mail with
  | nil=>rw [hm] at ht;cases ht
  | cons e r =>
   rw [hm] at ht
   simp only [Option.some.injEq,Prod.mk.injEq] at ht
   obtain ⟨rfl,_⟩:=ht
   have hsm:=h.sm
   have hmc:=h.mail
   rw [hm] at hsm hmc
   exact ⟨⟨⟨by show r.length≤1000;have:=hsm.1;simp at this;omega,fun y hy=>hsm.2 y (List.mem_cons_of_mem _ hy)⟩,mailC_tail hmc,h.snap,tb,h.lost,h.eyes,h.rows,h.small⟩,rfl,rfl⟩
def potT (T:OutqTeller):Nat:=(if T.st.Snap.On=true then (rowsB T.eyes T.book T.st.Snap.After).length + (if T.st.Snap.Begun=true then 1 else 2) else 0) + T.st.Mail.length
theorem turn_pot {T:OutqTeller} (h:OkT T) (hp:T.book.Rows.Pairwise fun x y=>cmpR x (keyR y) < 0):match turnM T with
  | none=>potT T=0
  | some z=>potT z.1 + 1=potT T∧(T.st.Snap.On=false→z.1.st.Snap.On=false∧∃ e,T.st.Mail=e :: z.1.st.Mail∧z.2=sayL (splitE e.Key).1 (splitE e.Key).2.1 e.P):=by
 unfold turnM potT
 cases ho:T.st.Snap.On with
 | true =>
  simp only [if_true]
  rcases snapE_on h.snap ho with ⟨g1,g2,g3⟩ | g1
  ·have hb:T.st.Snap.Begun=true:=by rw [g1]
   rw [hb]
   simp only [if_true]
   cases hr:rowsB T.eyes T.book T.st.Snap.After with
   | nil=>exact ⟨by simp [snap0];omega,fun h=>by cases h⟩
   | cons x r =>
    refine ⟨?_,fun h=>by cases h⟩
    simp only [if_true]
    rw [rowsB_next hp hr,List.length_cons];omega
  ·have hb:T.st.Snap.Begun=false:=by rw [g1]
   have ha:T.st.Snap.After=⟨#[]⟩:=by rw [g1]
   rw [hb,ha]
   simp only [Bool.false_eq_true,if_false,if_true]
   exact ⟨by omega,fun h=>by cases h⟩
 | false =>
  simp only [Bool.false_eq_true,if_false]
  cases hm:T.st.Mail with
  | nil=>simp
  | cons e r =>
   simp only [ho,Bool.false_eq_true,if_false]
   exact ⟨by simp,fun _=>⟨trivial,e,rfl,rfl⟩⟩
theorem flush_all (z:Int):∀ (n F:Nat) (acc:List StanzaStanza) (T:OutqTeller),OkT T→bookCheck T.book.Seq T.book.Rows=0→(T.book.Rows.Pairwise fun x y=>cmpR x (keyR y) < 0)→potT T≤n→((acc.length + n:Nat):Int)≤z→acc.length + n≤1000→n < F →
  ∃ out T',p_outq_Flush_l1 z F acc T=some (out,T')∧OkT T'∧potT T'=0∧out.length≤acc.length + n∧(T.st.Snap.On=false→∀ s ∈ out,s ∈ acc∨∃ m ∈ T.st.Mail,s=sayL (splitE m.Key).1 (splitE m.Key).2.1 m.P)
 | n,F + 1,acc,T,h,hc,hp,hpot,hz,hn,hF=>by
  have tp:=turn_pot h hp
  have tn:=tnext_t h hc
  rw [p_outq_Flush_l1]
  cases ht:turnM T with
  | none =>
   rw [ht] at tp tn
   have tp0:potT T=0:=tp
   cases decide ((acc.length:Int) < (if (1000:Int) < z then (1000:Int) else z)) with
   | false=>exact ⟨acc,T,rfl,h,tp0,by omega,fun _ s hs=>.inl hs⟩
   | true =>
    rw [cond_true,tn]
    exact ⟨acc,T,rfl,h,tp0,by omega,fun _ s hs=>.inl hs⟩
  | some w =>
   rw [ht] at tp tn
   obtain ⟨p1,p2⟩:=tp
   obtain ⟨n,rfl⟩ : ∃ m,n=m + 1:=⟨n - 1,by omega⟩
   have hlt:decide ((acc.length:Int) < (if (1000:Int) < z then (1000:Int) else z))=true:=decide_eq_true (by split <;> omega)
   obtain ⟨k1,k2,k3⟩:=turn_ok (T':=w.1) (s:=w.2) h ht
   obtain ⟨out,T',r1,r2,r3,r4,r5⟩:=flush_all z n F (acc++[w.2]) w.1 k1 (by rw [k3];exact hc) (by rw [k3];exact hp) (by omega) (by simp;omega) (by simp;omega) (by omega)
   rw [hlt,cond_true,tn]
   simp only [Option.bind_some,cond_true]
   rw [app_ok (by simp;omega),Option.bind_some,r1]
   refine ⟨out,T',rfl,r2,r3,by simp at r4;omega,fun ho s hs=>?_⟩
   obtain ⟨q1,e,q2,q3⟩:=p2 ho
   rcases r5 q1 s hs with g | ⟨m,g1,g2⟩
   ·rcases List.mem_append.1 g with g | g
    ·exact .inl g
    ·right
     rw [List.mem_singleton.1 g]
     exact ⟨e,by rw [q2];exact List.mem_cons_self ..,q3⟩
   ·right
    exact ⟨m,by rw [q2];exact List.mem_cons_of_mem _ g1,g2⟩
theorem okW0:(List.range 20).all (fun m=>!((keyL (u20 m) ⟨#[]⟩).toList == (⟨#[]⟩ : ByteArray).toList) && (decide ((u20 m).size≤100) && namedL (u20 m) ⟨#[]⟩))=true:=by kernel_rfl
theorem monoW0:(List.range 20).all (fun j=>(List.range j).all fun i=>decide (Lib.compareBytes (keyL (u20 i) ⟨#[]⟩).data.toList (keyL (u20 j) ⟨#[]⟩).data.toList < 0))=true:=by kernel_rfl
theorem okW {m:Nat} (h:m < 20):((keyL (u20 m) ⟨#[]⟩).toList == (⟨#[]⟩ : ByteArray).toList)=false∧(u20 m).size≤100∧namedL (u20 m) ⟨#[]⟩=true:=by
 have:=List.all_eq_true.1 okW0 m (List.mem_range.2 h)
 simpa using this
def FW:Fam where
 n:=20
 u m:=u20 m
 r _:=⟨#[]⟩
 ok m hm:=⟨(okW hm).1,(okW hm).2.1,by decide⟩
 mono i j hij hj:=by
  have:=List.all_eq_true.1 (List.all_eq_true.1 monoW0 j (List.mem_range.2 hj)) i (List.mem_range.2 hij)
  simpa using this
theorem tabW_rows:tabR FW (List.replicate 20 ⟨false,0,0,0⟩)=[]:=by
 unfold tabR tabA
 have:(List.range FW.n).filter (onF (List.replicate 20 ⟨false,0,0,0⟩))=[]:=List.filter_eq_nil_iff.2 fun m _=>by unfold onF;rw [rep_pre];simp
 rw [this];rfl
theorem tabW_0:TabOK FW 0 (List.replicate 20 ⟨false,0,0,0⟩):=by
 have hno:∀ m,onF (List.replicate 20 ⟨false,0,0,0⟩) m=false:=fun m=>by unfold onF;rw [rep_pre]
 refine ⟨by simp [FW],by omega,fun m _ h=>?_,fun m _ h=>?_,fun i j _ _ h=>?_,by rw [tabW_rows];simp,fun m _ h=>?_⟩ <;> rw [hno] at h <;> cases h
theorem StW.init:StF FW ⟨0,[]⟩ (List.replicate 20 ⟨false,0,0,0⟩) 0:=⟨tabW_rows.symm,tabW_0,by simp⟩
def BookStep (st:BookState) (has:List PresPres) (m:Nat) (q:BookState × PresPres × Int) (has' : List PresPres):Prop :=
 (q.2.2=0∧q.2.1.Seq=st.Seq + 1∧q.1.Seq=st.Seq + 1∧presCheckL q.2.1=0∧has'=has.set m q.2.1∧(q.2.1.On=false→q.2.1=⟨false,0,0,st.Seq + 1⟩))∨(q.2.2≠0∧has'=has∧q.1=st)
theorem bstep_set {F:Fam} {st:BookState} {has:List PresPres} {k m:Nat} (h:StF F st has k) (hk:k < 900) (hm:m < F.n) {sh prio:Int} (hsh:0≤sh∧sh≤4) (hp:-128≤prio∧prio≤127) :
  ∃ q has',p_book_Set st (F.u m) (F.r m) sh prio=some q∧StF F q.1 has' (k + 1)∧BookStep st has m q has':=by
 have hs:=h.seq
 have h0:=h.ok.seq0
 have hl:=h.len
 have hu:=(F.ok m hm).2
 refine ⟨_,if onF has m=false∧(16≤st.Rows.length∨3≤manyL st.Rows (F.u m)) then has else has.set m ⟨true,sh,prio,st.Seq + 1⟩,set_p (by omega) h.small (by omega) (by omega),?_⟩
 have:=tab_set (sh:=sh) (prio:=prio) h.ok (by omega) hm (presOn _ _ _ hsh hp (by omega))
 rw [h.rows,this]
 split
 ·exact ⟨⟨rfl,h.ok,by show st.Seq≤((k + 1:Nat):Int);omega⟩,.inr ⟨by show (7:Int)≠0;decide,rfl,by show BookState.mk _ _=st;rw [← h.rows]⟩⟩
 ·rename_i hno
  refine ⟨⟨rfl,tab_ok_put h.ok hm (fun _=>⟨presOn _ _ _ hsh hp (by omega),rfl⟩) (fun _ ho=>?_),by show st.Seq + 1≤((k + 1:Nat):Int);omega⟩,.inl ⟨rfl,rfl,rfl,presOn _ _ _ hsh hp (by omega),rfl,fun h=>by cases h⟩⟩
  exact ⟨Nat.lt_of_not_le fun g=>hno ⟨ho,.inl g⟩,Nat.lt_of_not_le fun g=>hno ⟨ho,.inr g⟩⟩
theorem bstep_off {F:Fam} {st:BookState} {has:List PresPres} {k m:Nat} (h:StF F st has k) (hk:k < 900) (hm:m < F.n):∃ q has',p_book_Off st (F.u m) (F.r m)=some q∧StF F q.1 has' (k + 1)∧BookStep st has m q has':=by
 have hs:=h.seq
 have h0:=h.ok.seq0
 have hl:=h.len
 have hu:=(F.ok m hm).2
 refine ⟨_,if onF has m=false then has else has.set m ⟨false,0,0,st.Seq + 1⟩,off_p (by omega) h.small (by omega) (by omega),?_⟩
 have:=tab_off h.ok (by omega) hm
 rw [h.rows,this]
 split
 ·exact ⟨⟨rfl,h.ok,by show st.Seq≤((k + 1:Nat):Int);omega⟩,.inr ⟨by show (6:Int)≠0;decide,rfl,by show BookState.mk _ _=st;rw [← h.rows]⟩⟩
 ·refine ⟨⟨rfl,tab_ok_put h.ok hm (fun e=>by cases e) (fun e=>by cases e),by show st.Seq + 1≤((k + 1:Nat):Int);omega⟩,.inl ⟨rfl,rfl,rfl,?_,rfl,fun _=>rfl⟩⟩
  show presCheckL ⟨false,0,0,st.Seq + 1⟩=0
  unfold presCheckL
  rw [if_neg (by simp;omega)];simp
end Go.Proofs.YthnihifblmnkdaaGreat

namespace Go.Proofs.YthnihifblmnkdaaGreat
open Go.RowKit
def p_law27_who (a0:Int):Option (ByteArray) :=
 (text? [IntKind.wrap .u8 ((97:Int) + (Int.tmod a0 (20:Int)))]).bind fun s1 =>
 (cat? s1 (⟨#[64,120]⟩ : ByteArray)).bind fun s2 =>
 some s2
def p_law27_OutqShort_l1:Nat→Int→SnapEyes→Option ((Int × SnapEyes))
 | 0,_,_=>none
 | n + 1,y10,y11 =>
  bif (decide (y10 < (20:Int))) then
   (p_law27_who (IntKind.wrap .u8 y10)).bind fun v13 =>
   (app? y11.Users [v13]).bind fun l14 =>
   p_law27_OutqShort_l1 n (w64 (y10 + (1:Int))) (SnapEyes.mk l14 y11.Keys)
  else
  some (y10,y11)
def p_law27_OutqShort_l2 (z24:List Law27Deed) (z27:SnapEyes):Nat→Int→BookState→Ref27State→Option (Bool ⊕ (Int × BookState × Ref27State))
 | 0,_,_,_=>none
 | n + 1,y26,y28,y29 =>
  bif (decide (y26 < (z24.length:Int))) then
   (at? z24 y26).bind fun x31 =>
   (p_law27_who x31.Who).bind fun v32 =>
   ((
    (at? z24 y26).bind fun x33 =>
    bif x33.Off then
     (p_book_Off y28 v32 (⟨#[]⟩ : ByteArray)).bind fun v35 =>
     some (v35.2.2,v35.2.1,v35.1)
    else
    (at? z24 y26).bind fun x36 =>
    (p_book_Set y28 v32 (⟨#[]⟩ : ByteArray) (w64 (Int.tmod x36.Show (5:Int))) (0:Int)).bind fun v37 =>
    some (v37.2.2,v37.2.1,v37.1)):Option ((Int × PresPres × BookState))).bind fun q39 =>
   ((
    bif (q39.1 == (0:Int)) then
     (p_pres_Key v32 (⟨#[]⟩ : ByteArray)).bind fun v41 =>
     (p_outq_Add y29 v41 q39.2.1).bind fun v42 =>
     some v42
    else
    some y29):Option (Ref27State)).bind fun q44 =>
   ((
    (at? z24 y26).bind fun x45 =>
    bif x45.Anew then
     (p_outq_Begin q44).bind fun v47 =>
     some v47
    else
    some q44):Option (Ref27State)).bind fun q49 =>
   (at? z24 y26).bind fun x50 =>
   (p_outq_Flush q49 z27 q39.2.2 (w64 (Int.tmod x50.Tell (4:Int)))).bind fun v51 =>
   (p_outq_Len v51.1).bind fun v52 =>
   bif (decide ((17:Int) < v52)) then
    some (.inl false)
   else
   p_law27_OutqShort_l2 z24 z27 n (w64 (y26 + (1:Int))) q39.2.2 v51.1
  else
  some (.inr (y26,y28,y29))
def p_law27_OutqShort_l3 (z67:Int) (z69:List StanzaStanza) (z72:Ref27State):Nat→Int→Option (Bool ⊕ Int)
 | 0,_=>none
 | n + 1,y70 =>
  bif (decide (y70 < (z69.length:Int))) then
   (at? z69 y70).bind fun x74 =>
   (p_law27_who z67).bind fun v75 =>
   bif (x74.User.toList == v75.toList) then
    bif z72.Snap.On then
     p_law27_OutqShort_l3 z67 z69 z72 n (w64 (y70 + (1:Int)))
    else
    some (.inl false)
   else
   p_law27_OutqShort_l3 z67 z69 z72 n (w64 (y70 + (1:Int)))
  else
  some (.inr y70)
def p_law27_OutqShort (a0:List Law27Deed) (a1:Int):Option (Bool) :=
 bif (decide ((60:Int) < (a0.length:Int))) then
  (p_law27_awake).bind fun v2 =>
  some v2
 else
 (p_law27_OutqShort_l1 fuel (0:Int) (SnapEyes.mk [] [])).bind fun q16 =>
 (p_law27_OutqShort_l2 a0 q16.2 fuel (0:Int) (BookState.mk (0:Int) []) (Ref27State.mk [] (SnapState.mk false false (⟨#[]⟩ : ByteArray) (0:Int)) (0:Int) (0:Int))).bind fun o54=>match o54 with
 | .inl q55 =>
  some q55
 | .inr q56 =>
  (p_law27_who a1).bind fun v57 =>
  (p_outq_Forget q56.2.2 v57).bind fun v58 =>
  (p_outq_Flush v58 q16.2 q56.2.1 (w64 (w64 ((q56.2.2.Mail.length:Int) + (q56.2.1.Rows.length:Int)) + (2:Int)))).bind fun v59 =>
  (p_law27_OutqShort_l3 a1 v59.2 q56.2.2 fuel (0:Int)).bind fun o78=>match o78 with
  | .inl q79 =>
   some q79
  | .inr q80 =>
   (p_outq_Wants v59.1).bind fun v81 =>
   bif v81 then
    some false
   else
   bif (decide ((v59.2.length:Int)≤w64 (w64 ((q56.2.2.Mail.length:Int) + (q56.2.1.Rows.length:Int)) + (2:Int)))) then
    (p_law27_awake).bind fun v84 =>
    some v84
   else
   some false
end Go.Proofs.YthnihifblmnkdaaGreat

namespace Go.Proofs.YthnihifblmnkdaaGreat
open Go.RowKit
theorem whoW_p {w:Int} (h:0≤w∧w≤255):p_law27_who w=some (u20 (w.toNat % 20)):=by
 unfold p_law27_who
 have e:=tmod_nat h.1 20
 have e2:Int.tmod w (20:Int)=((w.toNat % 20:Nat):Int):=e
 have ht:=text1 97 (w.toNat % 20) (Int.tmod w (20:Int)) 20 e2 (by omega)
 have ht2:text? [IntKind.wrap .u8 ((97:Int) + (Int.tmod w (20:Int)))]=some ⟨#[UInt8.ofNat (97 + w.toNat % 20)]⟩:=ht
 rw [ht2]
 simp only [Option.bind_some]
 have hc:cat? (⟨#[UInt8.ofNat (97 + w.toNat % 20)]⟩ : ByteArray) ⟨#[64,120]⟩=some (u20 (w.toNat % 20)):=by
  unfold cat?
  rw [if_pos (by show 1 + 2≤_;omega)];rfl
 rw [hc];rfl
structure DeedW (d:Law27Deed):Prop where
 who:0≤d.Who∧d.Who≤255
 sh:0≤d.Show∧d.Show≤255
 tell:0≤d.Tell∧d.Tell≤255
theorem keyW_sz0:(List.range 20).all (fun m=>decide ((keyL (u20 m) ⟨#[]⟩).size=4))=true:=by kernel_rfl
theorem keyW_sz {m:Nat} (h:m < 20):(keyL (u20 m) ⟨#[]⟩).size=4:=by
 have:=List.all_eq_true.1 keyW_sz0 m (List.mem_range.2 h)
 simpa using this
theorem keyW_p {m:Nat} (h:m < 20):p_pres_Key (u20 m) ⟨#[]⟩=some (keyL (u20 m) ⟨#[]⟩):=key_p (by have:=(okW h).2.1;omega) (by decide)
theorem flush_l' (z:Int):∀ (n F:Nat) (acc:List StanzaStanza) (T:OutqTeller),OkT T→bookCheck T.book.Seq T.book.Rows=0→acc.length + n=1000→n < F→∃ out T',p_outq_Flush_l1 z F acc T=some (out,T')∧OkT T'
 | n,F + 1,acc,T,h,hc,hn,hF=>by
  have tn:=tnext_t h hc
  rw [p_outq_Flush_l1]
  cases hd:decide ((acc.length:Int) < (if (1000:Int) < z then (1000:Int) else z)) with
  | false=>exact ⟨acc,T,rfl,h⟩
  | true =>
   have hlt:=of_decide_eq_true hd
   obtain ⟨n,rfl⟩ : ∃ m,n=m + 1:=⟨n - 1,by split at hlt <;> omega⟩
   rw [cond_true,tn]
   cases ht:turnM T with
   | none=>exact ⟨acc,T,rfl,h⟩
   | some w =>
    obtain ⟨k1,k2,k3⟩:=turn_ok (T':=w.1) (s:=w.2) h ht
    obtain ⟨out,T',r1,r2⟩:=flush_l' z n F (acc++[w.2]) w.1 k1 (by rw [k3];exact hc) (by simp;omega) (by omega)
    simp only [Option.bind_some,cond_true]
    rw [app_ok (by simp;omega),Option.bind_some,r1]
    exact ⟨out,T',rfl,r2⟩
theorem flush_good {s:Ref27State} {e:SnapEyes} {b:BookState} (h:GoodS s) (hc:bookCheck b.Seq b.Rows=0) (he:fewE e) (hn:b.Rows.length≤1000) (hs:smallB b.Rows) (z:Int):∃ x,p_outq_Flush s e b z=some x∧GoodS x.1:=by
 have hf:=fuel_pos
 have hT:OkT (OutqTeller.mk (OutqCounter.mk s.Sent) s e b):=⟨h.sm,goodM_iff.2 h.mail,h.snap,h.sent,h.lost,he,hn,hs⟩
 obtain ⟨out,T',r1,r4⟩:=flush_l' z 1000 fuel [] _ hT hc rfl (by omega)
 unfold p_outq_Flush
 rw [h.chk,Option.bind_some,bne_self_eq_false,cond_false,r1]
 exact ⟨_,rfl,⟨r4.sm,goodM_iff.1 r4.mail,r4.snap,r4.sent,r4.lost⟩⟩
theorem show27_p {d:Law27Deed} (h:DeedW d):w64 (Int.tmod d.Show (5:Int))=((d.Show.toNat % 5:Nat):Int):=by
 have e:Int.tmod d.Show (5:Int)=((d.Show.toNat % 5:Nat):Int):=tmod_nat h.sh.1 5
 rw [e,w64_id (by omega)]
theorem deed27 {d:Law27Deed} (hd:DeedW d) {b:BookState} {has:List PresPres} {k:Nat} (h:StF FW b has k) (hk:k < 900) :
  ∃ q has',(bif d.Off then (p_book_Off b (u20 (d.Who.toNat % 20)) (⟨#[]⟩ : ByteArray)).bind fun v35=>some (v35.2.2,v35.2.1,v35.1) else (p_book_Set b (u20 (d.Who.toNat % 20)) (⟨#[]⟩ : ByteArray) (w64 (Int.tmod d.Show (5:Int))) (0:Int)).bind fun v37=>some (v37.2.2,v37.2.1,v37.1))=some (q.2.2,q.2.1,q.1) ∧
   StF FW q.1 has' (k + 1)∧BookStep b has (d.Who.toNat % 20) q has':=by
 have hm:d.Who.toNat % 20 < FW.n:=by show _ < 20;omega
 cases d.Off with
 | true =>
  obtain ⟨q,has',e1,f1,f2⟩:=bstep_off h hk hm
  have e1' : p_book_Off b (u20 (d.Who.toNat % 20)) ⟨#[]⟩=some q:=e1
  exact ⟨q,has',by rw [cond_true,e1'];rfl,f1,f2⟩
 | false =>
  obtain ⟨q,has',e1,f1,f2⟩:=bstep_set (sh:=((d.Show.toNat % 5:Nat):Int)) (prio:=0) h hk hm (by omega) (by omega)
  have e1' : p_book_Set b (u20 (d.Who.toNat % 20)) ⟨#[]⟩ ((d.Show.toNat % 5:Nat):Int) 0=some q:=e1
  exact ⟨q,has',by rw [cond_false,show27_p hd,e1'];rfl,f1,f2⟩
theorem wraps_u8 {k:Nat} (h:k < 256):IntKind.wrap .u8 (k:Int)=(k:Int):=u8_in (by omega)
theorem short_l1:∀ (n k F:Nat) (acc:List ByteArray),k + n=20→n < F→acc.length≤k→∃ us,p_law27_OutqShort_l1 F (k:Int) ⟨acc,[]⟩=some (((20:Nat):Int),⟨us,[]⟩)∧us.length≤20
 | 0,k,F + 1,acc,hk,hF,ha=>by
  have:k=20:=by omega
  subst this
  rw [p_law27_OutqShort_l1]
  exact ⟨acc,rfl,ha⟩
 | n + 1,k,F + 1,acc,hk,hF,ha=>by
  have h8:decide ((k:Int) < (20:Int))=true:=by simp;omega
  rw [p_law27_OutqShort_l1,h8]
  simp only [cond_true]
  rw [wraps_u8 (by omega),whoW_p (by omega),w64_succ (by omega)]
  simp only [Option.bind_some]
  rw [app_ok (by simp;omega)]
  simp only [Option.bind_some]
  exact short_l1 n (k + 1) F _ (by omega) (by omega) (by simp;omega)
theorem olen_p {s:Ref27State} (h:GoodS s):∃ v,p_outq_Len s=some v∧v=(s.Mail.length:Int) + (if s.Snap.On=true then 1 else 0):=by
 have:=h.mail.len
 unfold p_outq_Len
 cases s.Snap.On with
 | true=>exact ⟨_,rfl,by rw [w64_id (by omega)];simp⟩
 | false=>exact ⟨_,rfl,by simp⟩
theorem short_l2 {e:SnapEyes} (he:fewE e) (l:List Law27Deed) (hl:l.length≤60) (hd:∀ d ∈ l,DeedW d):∀ (n k F:Nat) (b:BookState) (has:List PresPres) (s:Ref27State),k + n=l.length→n < F→StF FW b has k→GoodS s →
  ∃ b' has' s',p_law27_OutqShort_l2 l e F (k:Int) b s=some (.inr ((l.length:Int),b',s'))∧StF FW b' has' l.length∧GoodS s'
 | 0,k,F + 1,b,has,s,hk,hF,h,hg=>by
  have:k=l.length:=by omega
  subst this
  rw [p_law27_OutqShort_l2,lt_ff (Nat.le_refl _)]
  exact ⟨b,has,s,rfl,h,hg⟩
 | n + 1,k,F + 1,b,has,s,hk,hF,h,hg=>by
  have hlt:k < l.length:=by omega
  have hdd:=hd _ (List.getElem_mem hlt)
  have hm:l[k].Who.toNat % 20 < 20:=by omega
  obtain ⟨q,has',hq,f1,f2⟩:=deed27 hdd h (by omega)
  have hlen:=f1.len
  rw [p_law27_OutqShort_l2,lt_tt hlt,at_lt hlt]
  simp only [cond_true,Option.bind_some]
  rw [whoW_p hdd.who]
  simp only [Option.bind_some]
  rw [hq]
  simp only [Option.bind_some]
  rw [keyW_p hm]
  obtain ⟨a,a1,a2⟩:=good_add q.2.1 hg (k:=keyL (u20 (l[k].Who.toNat % 20)) ⟨#[]⟩) (by rw [keyW_sz hm];omega)
  obtain ⟨s1,hs1,g1⟩ : ∃ s1,(bif q.2.2 == (0:Int) then (some (keyL (u20 (l[k].Who.toNat % 20)) (⟨#[]⟩ : ByteArray))).bind fun v41=>(p_outq_Add s v41 q.2.1).bind fun v42=>some v42 else some s)=some s1∧GoodS s1:=by
   cases (q.2.2 == (0:Int)) with
   | true=>exact ⟨a,by rw [cond_true,Option.bind_some,a1];rfl,a2⟩
   | false=>exact ⟨s,rfl,hg⟩
  rw [hs1]
  simp only [Option.bind_some]
  obtain ⟨s2,hs2,g2⟩ : ∃ s2,(bif l[k].Anew then (p_outq_Begin s1).bind fun v47=>some v47 else some s1)=some s2∧GoodS s2:=by
   obtain ⟨b1,b2⟩:=begin_p g1
   cases l[k].Anew with
   | true=>exact ⟨_,by rw [cond_true,b1];rfl,b2⟩
   | false=>exact ⟨s1,rfl,g1⟩
  rw [hs2]
  simp only [Option.bind_some]
  obtain ⟨x,x1,x2⟩:=flush_good (e:=e) (b:=q.1) g2 (f1.check (by omega)) he (by omega) f1.small (w64 (Int.tmod l[k].Tell (4:Int)))
  obtain ⟨v,v1,v2⟩:=olen_p x2
  rw [x1]
  simp only [Option.bind_some]
  rw [v1]
  simp only [Option.bind_some]
  have hv:decide ((17:Int) < v)=false:=decide_eq_false (by have:=x2.mail.len;subst v2;split <;> omega)
  rw [hv,cond_false,w64_succ (by omega)]
  exact short_l2 he l hl hd n (k + 1) F _ _ _ (by omega) (by omega) f1 x2
theorem short_l3 (g:Int) (hg:0≤g∧g≤255) (m:List StanzaStanza) (s:Ref27State) (hm:m.length≤1000) (h:s.Snap.On=true∨∀ x ∈ m,(x.User.toList == (u20 (g.toNat % 20)).toList)=false):∀ (n k F:Nat),k + n=m.length→n < F→p_law27_OutqShort_l3 g m s F (k:Int)=some (.inr (m.length:Int))
 | 0,k,F + 1,hk,hF=>by
  rw [p_law27_OutqShort_l3,lt_ff (by omega),show k=m.length by omega];rfl
 | n + 1,k,F + 1,hk,hF=>by
  have hlt:k < m.length:=by omega
  have ih:=short_l3 g hg m s hm h n (k + 1) F (by omega) (by omega)
  rw [p_law27_OutqShort_l3,lt_tt hlt,at_lt hlt,whoW_p hg]
  simp only [cond_true,Option.bind_some]
  rw [w64_succ (by omega),ih]
  rcases h with h | h
  ·rw [h];cases ((m[k]).User.toList == (u20 (g.toNat % 20)).toList) <;> rfl
  ·rw [h _ (List.getElem_mem hlt)];rfl
theorem u20_ne {m:Nat} (h:m < 20):((⟨#[]⟩ : ByteArray).toList == (u20 m).toList)=false:=by
 rw [← Bool.not_eq_true]
 intro e
 have:=congrArg ByteArray.size (eqT_iff.1 e)
 have h2:(u20 m).size=3:=rfl
 rw [h2] at this
 exact absurd this (by decide)
theorem say_user {e:MailEntry} {u:ByteArray} (h0:((⟨#[]⟩ : ByteArray).toList == u.toList)=false) (h:ofM u e=false):((sayL (splitE e.Key).1 (splitE e.Key).2.1 e.P).User.toList == u.toList)=false:=by
 unfold sayL
 unfold ofM at h
 split
 ·exact h0
 ·split
  ·split <;> exact h
  ·exact h0
theorem good_rows {F:Fam} {st:BookState} {has:List PresPres} {k:Nat} (h:StF F st has k) (hk:k < 900):st.Rows.Pairwise fun x y=>cmpR x (keyR y) < 0:=by
 rw [h.rows]
 exact (tab_good h.ok (by have:=h.seq;omega)).ord
theorem outqShort_pure (haw:p_law27_awake=some true) (l:List Law27Deed) (g:Int) (hd:∀ d ∈ l,DeedW d) (hg:0≤g∧g≤255):p_law27_OutqShort l g=some true:=by
 have hf:=fuel_pos
 unfold p_law27_OutqShort
 rw [haw]
 by_cases hl:(60:Int) < (l.length:Int)
 ·rw [decide_eq_true hl];rfl
 rw [decide_eq_false hl,cond_false]
 obtain ⟨us,u1,u2⟩:=short_l1 20 0 fuel [] (by omega) (by omega) (Nat.le_refl _)
 have u1' : p_law27_OutqShort_l1 fuel (0:Int) (SnapEyes.mk [] [])=_:=u1
 have he:fewE ⟨us,[]⟩:=⟨by show us.length≤1000;omega,by simp⟩
 have g0:GoodS (Ref27State.mk [] (SnapState.mk false false (⟨#[]⟩ : ByteArray) (0:Int)) (0:Int) (0:Int)):=⟨⟨by simp,fun y hy=>by cases hy⟩,GoodM.nil,snapE_off,by simp,by simp⟩
 obtain ⟨b,has,s,r1,r2,r3⟩:=short_l2 he l (by omega) hd l.length 0 fuel ⟨0,[]⟩ _ _ (by omega) (by omega) StW.init g0
 have r1' : p_law27_OutqShort_l2 l ⟨us,[]⟩ fuel (0:Int) (BookState.mk (0:Int) []) (Ref27State.mk [] (SnapState.mk false false (⟨#[]⟩ : ByteArray) (0:Int)) (0:Int) (0:Int))=_:=r1
 rw [u1',Option.bind_some,r1',Option.bind_some]
 simp only [whoW_p hg,Option.bind_some]
 have hm20:g.toNat % 20 < 20:=by omega
 obtain ⟨f1,f2⟩:=good_forget (u20 (g.toNat % 20)) r3
 have ml:=r3.mail.len
 have bl:=r2.len
 rw [f1]
 simp only [Option.bind_some]
 have hz:w64 (w64 ((s.Mail.length:Int) + (b.Rows.length:Int)) + (2:Int))=((s.Mail.length + b.Rows.length + 2:Nat):Int):=by
  rw [w64_id (r:=(s.Mail.length:Int) + (b.Rows.length:Int)) (by omega),w64_id (by omega)];omega
 rw [hz]
 have hc:=r2.check (by omega)
 have hT:OkT (OutqTeller.mk (OutqCounter.mk s.Sent) ⟨s.Mail.filter (fun x=>!ofM (u20 (g.toNat % 20)) x),s.Snap,s.Sent,s.Lost⟩ ⟨us,[]⟩ b):=⟨f2.sm,goodM_iff.2 f2.mail,f2.snap,f2.sent,f2.lost,he,by show b.Rows.length≤1000;omega,r2.small⟩
 have hpot:potT (OutqTeller.mk (OutqCounter.mk s.Sent) ⟨s.Mail.filter (fun x=>!ofM (u20 (g.toNat % 20)) x),s.Snap,s.Sent,s.Lost⟩ ⟨us,[]⟩ b)≤s.Mail.length + b.Rows.length + 2:=by
  unfold potT
  have q1:(s.Mail.filter (fun x=>!ofM (u20 (g.toNat % 20)) x)).length≤s.Mail.length:=List.length_filter_le ..
  have q2:(rowsB ⟨us,[]⟩ b s.Snap.After).length≤b.Rows.length:=List.length_filter_le ..
  show (if s.Snap.On=true then _ else _) + _≤_
  split
  ·split <;> simp only <;> omega
  ·simp only;omega
 obtain ⟨out,T',k1,k2,k3,k4,k5⟩:=flush_all ((s.Mail.length + b.Rows.length + 2:Nat):Int) (s.Mail.length + b.Rows.length + 2) fuel [] _ hT hc (good_rows r2 (by omega)) hpot (by simp) (by simp;omega) (by omega)
 have hfl:p_outq_Flush ⟨s.Mail.filter (fun x=>!ofM (u20 (g.toNat % 20)) x),s.Snap,s.Sent,s.Lost⟩ ⟨us,[]⟩ b ((s.Mail.length + b.Rows.length + 2:Nat):Int)=some (⟨T'.st.Mail,T'.st.Snap,T'.counter.sent,T'.st.Lost⟩,out):=by
  unfold p_outq_Flush
  rw [f2.chk,Option.bind_some,bne_self_eq_false,cond_false,k1];rfl
 rw [hfl]
 simp only [Option.bind_some]
 simp only [List.length_nil,Nat.zero_add] at k4
 have h3:p_law27_OutqShort_l3 g out s fuel (0:Int)=some (.inr (out.length:Int)):=by
  refine short_l3 g hg out s (by omega) ?_ out.length 0 fuel (by omega) (by omega)
  cases ho:s.Snap.On with
  | true=>exact .inl rfl
  | false =>
   refine .inr fun x hx=>?_
   rcases k5 ho x hx with h | ⟨m,hm,rfl⟩
   ·cases h
   ·refine say_user (u20_ne hm20) ?_
    have:=(List.mem_filter.1 hm).2
    simpa using this
 rw [h3]
 simp only [Option.bind_some]
 have hoff:T'.st.Snap.On=false∧T'.st.Mail=[]:=by
  unfold potT at k3
  cases ho:T'.st.Snap.On with
  | true=>rw [ho] at k3;simp only [if_true] at k3;split at k3 <;> omega
  | false=>rw [ho] at k3;simp only [Bool.false_eq_true,if_false,Nat.zero_add] at k3;exact ⟨rfl,List.length_eq_zero_iff.1 k3⟩
 have hw:p_outq_Wants ⟨T'.st.Mail,T'.st.Snap,T'.counter.sent,T'.st.Lost⟩=some false:=by
  unfold p_outq_Wants p_outq_Len
  rw [hoff.1,hoff.2];rfl
 rw [hw]
 simp only [Option.bind_some,cond_false]
 rw [decide_eq_true (by omega)];rfl
end Go.Proofs.YthnihifblmnkdaaGreat

namespace Go.Proofs.YthnihifblmnkdaaGreat
open Go.RowKit
theorem outqShort_wf (l:List Law27Deed) (n:Int) (h:∀ x ∈ l,Law27Deed.Wf x) (h2:(Lit.int .u8 n).wf=true):p_law27_OutqShort l n=some true :=
 outqShort_pure p_law27_awake_true l n (fun d hd=>⟨bounds_u8 (h d hd).Who,bounds_u8 (h d hd).Show,bounds_u8 (h d hd).Tell⟩) (bounds_u8 h2)
end Go.Proofs.YthnihifblmnkdaaGreat

namespace Go.Proofs.YthnihifblmnkdaaGreat
open Go.RowKit
set_option maxRecDepth 100000
set_option maxHeartbeats 4000000
def gc23:BCode:=(.seq (R_ 0 [O_ 2 (.mv (.const (.string ⟨#[]⟩))) 0]) (.seq (R_ 1 [O_ 3 (.mv (t_ 0)) 0,O_ 4 (.bin .rem (t_ 3) (.const (.int .u8 20))) 0,O_ 5 (.bin .add (.const (.int .u8 97)) (t_ 4)) 0,O_ 6 (.bs 1 1 [(.lit (.int .u8 0))] [(0,(t_ 5))]) 0,O_ 7 (.b2s (t_ 6)) 1,O_ 8 (.bin .add (t_ 7) (.const (.string ⟨#[64,120]⟩))) 1,O_ 2 (.mv (t_ 8)) 1]) .ret))
theorem gc23_ok:compF Tryz.prog Tryz.f23=some (gc23.er,9,[.tmp 2]):=by unfold gc23;kernel_rfl
theorem p_law27_who_v (a0:Int):CallsO Tryz.prog 23 [.y8 a0] V.s (p_law27_who a0):=by
 refine callsO_comp mix Tryz.func23 gc23_ok fun r H=>?_
 rw [p_law27_who] at H
 conv=>whnf
 refine ⟨by decide,?_⟩;conv=>whnf
 refine Ari.w ?_;conv=>whnf
 refine b2sO_c H rfl rfl rfl (fun s1 H=>?_);conv=>whnf
 refine cat_c H (fun s2 H=>?_);conv=>whnf
 exact fin0_c (enc:=V.s) H (.inr rfl) (.cons (.tmp rfl) (.nil)) rfl rfl
end Go.Proofs.YthnihifblmnkdaaGreat

