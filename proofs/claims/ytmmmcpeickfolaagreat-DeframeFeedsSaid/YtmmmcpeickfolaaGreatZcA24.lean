/- A part of the proof: 1 texts joined. -/
import Derived.Test.YtmmmcpeickfolaaGreatZcA23
import Derived.Test.YtmmmcpeickfolaaGreatZcA14
import Derived.KernelRfl
set_option linter.all false
namespace Go.Proofs.YtmmmcpeickfolaaGreat
open Go.RowKit
set_option maxHeartbeats 1000000 in
set_option maxRecDepth 100000 in
theorem cc_used (b:Nat) (w:World) (h0:w.cell? ⟨b,0,none⟩=some (.pointer (some ⟨b,0,none⟩))) :
  Calls Tryz.prog 168 #[.pointer (some ⟨b,0,none⟩)] w fun e w'=>e=.returned (.tuple #[])∧w'=w:=by
 obtain ⟨j,hj,_⟩:=Option.map_eq_some_iff.1 Tryz.Builder_Extra_169.sizeBuilder
 have mixed:Tryz.prog.follows .mixedOrders=true:=mix
 go_enter Tryz.func168,Tryz.ntmps168
 go_wp2
 rw [Lib.run_neq_ptr_same w _ Tryz.underlying209 hj]
 go_wp2
 go_end0
 exact ⟨rfl,rfl⟩
set_option maxHeartbeats 1000000 in
set_option maxRecDepth 100000 in
theorem cc_fresh (b:Nat) (w:World) (h0:w.cell? ⟨b,0,none⟩=some (.pointer none)) (hsh:w.shape? b=some (211,2)) (hfz:w.frozen? ⟨b,0,none⟩=false) :
  Calls Tryz.prog 168 #[.pointer (some ⟨b,0,none⟩)] w fun e w'=>e=.returned (.tuple #[])∧w'=w.setCell ⟨b,0,none⟩ (.pointer (some ⟨b,0,none⟩)):=by
 obtain ⟨j,hj,hjs⟩:=Option.map_eq_some_iff.1 Tryz.Builder_Extra_169.sizeBuilder
 have mixed:Tryz.prog.follows .mixedOrders=true:=mix
 go_enter Tryz.func168,Tryz.ntmps168
 go_wp2
 rw [Lib.run_to_unsafe w ⟨b,0,none⟩ Tryz.underlying209 Tryz.underlying276 hj (by rw [hjs];decide) hsh (Nat.zero_lt_succ 1)]
 simp only [Result.andThen]
 rw [Oper.upon_value]
 go_wp2
 rw [run_callFunc_extern Tryz.func193 (by kernel_rfl) (by kernel_rfl) (by kernel_rfl) (e:=Extern.AbiNoEscape.same) (by kernel_rfl)]
 rw [Lib.run_noEscape]
 simp only [Result.andThen]
 rw [Oper.upon_value]
 go_wp2
 rw [Lib.run_from_unsafe w ⟨b,0,none⟩ Tryz.underlying276 Tryz.underlying209 hj hsh Tryz.Builder_Extra_169.liesBuilder]
 simp only [Result.andThen]
 rw [Oper.upon_value]
 go_wp2
 go_end0
 exact ⟨rfl,rfl⟩
theorem cc_any (B b:Nat) (bs:List Value) (w:World) (h:Lib.IsBuilder 211 5 B b bs w) :
  Calls Tryz.prog 168 #[.pointer (some ⟨b,0,none⟩)] w fun e w'=>e=.returned (.tuple #[])∧(Lib.BuilderAt 211 5 B b (.pointer (some ⟨b,0,none⟩)) bs w'∧Below B w w'):=by
 rcases h with h | h
 ·refine (cc_fresh b w h.cell0 h.shape h.frozen0).mono ?_
  rintro e w' ⟨rfl,rfl⟩
  exact ⟨rfl,h.used _,(Below.refl B w).setCell (p:=⟨b,0,none⟩) h.1 _⟩
 ·refine (cc_used b w h.cell0).mono ?_
  rintro e w' ⟨rfl,rfl⟩
  exact ⟨rfl,h,Below.refl B _⟩
set_option maxHeartbeats 2000000 in
set_option maxRecDepth 100000 in
theorem write_c (B b:Nat) (bs:List Value) (s:ByteArray) (w:World) (h:Lib.IsBuilder 211 5 B b bs w) (hlen:bs.length + s.size≤140737488355328) (hBw:B≤w.heap.size) :
  Calls Tryz.prog 116 #[.pointer (some ⟨b,0,none⟩),.string s] w fun e w'=>e=.returned (.tuple #[.int .i64 s.size,.nilIface])∧(Lib.BuilderAt 211 5 B b (.pointer (some ⟨b,0,none⟩)) (bs++Lib.strCells s) w'∧Below B w w'):=by
 obtain ⟨i0,hi,hz0,hz1,hz2⟩:=info_parts Tryz.Builder_Extra_169.infoByte
 have mixed:Tryz.prog.follows .mixedOrders=true:=mix
 have e240:∀ args w,(callFunc 168 args).run Tryz.prog w=.ok (.enter 168 args) w:=enters_of Tryz.func168 (by kernel_rfl) rfl
 go_enter Tryz.func116,Tryz.ntmps116
 go_wp2_with (go_at_fn 168;refine (cc_any B b bs _ h).mono ?_)
 rintro e w1 ⟨rfl,h1,hb1⟩
 obtain ⟨hB,v,hbk,hown,hne⟩:=h1
 have c0:w1.cell? ⟨b,0,none⟩=some (.pointer (some ⟨b,0,none⟩)):=by rw [Lib.cell_of_heap hbk];rfl
 have c1:w1.cell? ⟨b,1,none⟩=some v:=by rw [Lib.cell_of_heap hbk];rfl
 go_wp2_with (at_builtin;refine Lib.wpList_append_own_string _ rfl _ _ 178 9 rfl B 5 i0 Tryz.underlying178 Tryz.underlying9 hi hz0 hz1 hz2 _ _ _ rfl hown s rfl ?c3 ?c4 ?c5 ?_)
 case c3=>unfold maxLen;omega
 case c4=>omega
 case c5=>have:=hb1.size;omega
 intro v' w2 hown' hgrow _
 have hlt:b < w1.heap.size:=by
  rcases Nat.lt_or_ge b w1.heap.size with h' | h'
  ·exact h'
  ·simp [Array.getElem?_eq_none h'] at hbk
 have hb2:w2.heap[b]?=some (.cells #[.pointer (some ⟨b,0,none⟩),v] 211 (0,0)):=by
  rw [hgrow.block b hlt (fun e=>hne e.symm)]
  exact hbk
 have d0:w2.cell? ⟨b,0,none⟩=some (.pointer (some ⟨b,0,none⟩)):=by rw [Lib.cell_of_heap hb2];rfl
 have d1:w2.cell? ⟨b,1,none⟩=some v:=by rw [Lib.cell_of_heap hb2];rfl
 have f1:w2.frozen? ⟨b,1,none⟩=false:=Lib.frozen_of_heap hb2 1
 obtain ⟨ao,n',cap,rfl⟩ : ∃ ao n' cap,v'=.slice ao n' cap:=by
  rcases hown'.2 with ⟨hv,_⟩ | ⟨g,cap,cur,hv,_⟩
  ·exact ⟨_,_,_,hv⟩
  ·exact ⟨_,_,_,hv⟩
 go_wp2
 go_ret2
 refine ⟨rfl,?_,?_⟩
 ·exact Lib.BuilderAt.put (T:=211) (e:=5) hB hb2 (bs':=bs++Lib.strCells s) (by simpa [Lib.strCells_length] using hown') Tryz.Builder_Extra_169.neB5
 ·exact (hb1.grown hgrow (by have:=hb1.size;omega) (fun k hk=>(hown.lt k hk).1)).setCell (p:=⟨b,1,none⟩) hB _
theorem isb_below {T e:TypeId} {B b:Nat} {bs:List Value} {w w' : World} (h:Lib.IsBuilder T e B b bs w) (hb:Below w.heap.size w w'):Lib.IsBuilder T e B b bs w':=by
 have one:∀ p,Lib.BuilderAt T e B b p bs w→Lib.BuilderAt T e B b p bs w':=fun p hp=>by
  have hlt:=hp.lt
  obtain ⟨h1,v,h2,h3,h4⟩:=hp
  refine ⟨h1,v,(hb.block b hlt).trans h2,h3.kept (row:=none) ⟨hb.os,hb.tape,hb.output,hb.size,fun k hk _=>hb.block k hk⟩ ?_,h4⟩
  cases v.ownBlock with
  | none=>exact .inl rfl
  | some k=>exact .inr (by simp)
 rcases h with h | h
 ·exact .inl (one _ h)
 ·exact .inr (one _ h)
theorem calls_lit {P:Program} {f:FuncId} {vs rs:List Value} (h:CallsV P f (vs.map V.lit) (.tup (rs.map V.lit))) (hv:∀ v ∈ vs,v.oneCell'=true) (w:World) (hml:ML w):Calls P f vs.toArray w (Ret w (.tuple rs.toArray)):=by
 obtain ⟨_,n,hn⟩:=hml
 let m:Mem:=fun a=>if a=⟨0,0,none⟩ then some (.int .i64 n) else none
 have hm:∀ a u,m a=some u→w.cell? a=some u:=fun a u hu=>by
  by_cases e:a=⟨0,0,none⟩
  ·have:m a=some (.int .i64 n):=if_pos e
   rw [this] at hu;cases hu;rw [e];exact hn
  ·have:m a=none:=if_neg e
   rw [this] at hu;cases hu
 refine (h m w vs.toArray ⟨n,if_pos rfl⟩ hm ⟨by simp,fun j h1 h2=>?_⟩).mono ?_
 ·have hj:j < vs.length:=by simpa using h1
  have e1:vs.toArray[j]=vs[j]:=by simp
  have e2:(vs.map V.lit)[j]=V.lit vs[j]:=by simp
  rw [e1,e2]
  exact .lit (hv _ (List.getElem_mem hj))
 ·rintro e w' ⟨c,m',rfl,hb,_,_,_,hr⟩
  refine ⟨congrArg Ending.returned ?_,hb⟩
  cases hr with
  | @tup _ cs _ hl hr =>
   congr 1
   apply Array.ext
   ·simpa using hl
   ·intro j h1 h2
    have hj:j < rs.length:=by simpa using h2
    have:=hr j h1 (by simpa using hj)
    rw [List.getElem_map] at this
    rw [this.int];simp
end Go.Proofs.YtmmmcpeickfolaaGreat

