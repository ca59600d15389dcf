/- A part of the proof: 13 texts joined. -/
import Derived.Test.YtpmoioopjbfhkaaXaA5
import Derived.Test.YtpmoioopjbfhkaaXaA11
import Derived.Test.YtpmoioopjbfhkaaXaA12
import Derived.Test.YtpmoioopjbfhkaaXaA10
import Derived.Test.YtpmoioopjbfhkaaXaA9
import Derived.KernelRfl
set_option linter.all false
/- stanza and callboyref10: kinds, what they have. -/
namespace Go.Proofs.Ytpmoioopjbfhkaa
open Go.RowKit
def hasN (k:Nat):List UInt8 :=
 if k=1 then [117,114] else if k=3 then [115,112] else if k=5 then [117,115,112]
 else if k=6∨k=7∨k=8∨k=9∨k=10∨k=11∨k=14 then [117]
 else if k=12∨k=15∨k=36∨k=41 then [110]
 else if k=13 then [117,109] else if k=32 then [99,110] else if k=33 then [99,115,110]
 else if k=34 then [117,114,115,112,110] else if k=35 then [117,114,110] else if k=38 then [117,109,115,110]
 else if k=39 then [117,110] else if k=40 then [117,99] else []
set_option maxRecDepth 100000 in
set_option maxHeartbeats 2000000 in
theorem has_c (k:UInt8) (w:World):Calls Try.prog 63 #[.int .u8 k.toNat] w fun e w'=>e=.returned (.string (ba (hasN k.toNat)))∧w=w':=by
 obtain ⟨n,hn⟩ : ∃ n,k.toNat=n:=⟨_,rfl⟩
 rw [hn]
 clear hn
 go_enter Try.func63,Try.ntmps63
 go_wp2
 all_goals (go_ret;refine ⟨ret_v (congrArg Value.string ?_),rfl⟩)
 all_goals go_tidy
 all_goals (simp only [beq_iff_eq,beq_eq_false_iff_ne,ne_eq] at *)
 all_goals (unfold hasN;repeat first | rfl | rw [if_pos (by omega)] | rw [if_neg (by omega)])
end Go.Proofs.Ytpmoioopjbfhkaa

/- stanza: known, in, text, number. -/
namespace Go.Proofs.Ytpmoioopjbfhkaa
open Go.RowKit
def knownN (k:Nat):Bool:=(decide (1≤k) && decide (k≤15)) || (decide (32≤k) && decide (k≤41))
theorem asks_c (k:UInt8) (w:World):Calls Try.prog 108 #[.int .u8 k.toNat] w fun e w'=>e=.returned (.bool (decide (1≤k.toNat) && decide (k.toNat≤15)))∧w=w':=by
 obtain ⟨n,hn⟩ : ∃ n,k.toNat=n:=⟨_,rfl⟩
 rw [hn]
 clear hn
 go_enter Try.func108,Try.ntmps108
 go_wp2
 all_goals (go_ret;refine ⟨ret_b ?_,rfl⟩)
 all_goals go_tidy
 all_goals grind
theorem known_c (k:UInt8) (w:World):Calls Try.prog 64 #[.int .u8 k.toNat] w fun e w'=>e=.returned (.bool (knownN k.toNat))∧w=w':=by
 have k1:=asks_c k w
 obtain ⟨n,hn⟩ : ∃ n,k.toNat=n:=⟨_,rfl⟩
 rw [hn] at k1 ⊢
 have K1:=Lib.hid k1
 clear hn k1
 unfold knownN
 by_cases h:(decide (1≤n) && decide (n≤15))=true
 ·rw [h] at K1 ⊢
  go_enter Try.func64,Try.ntmps64
  go_wp2_with (go_at_call 108;(with_reducible refine (K1.out).mono ?_);rintro e w' ⟨rfl,rfl⟩)
  all_goals (go_ret;refine ⟨ret_b ?_,rfl⟩)
  all_goals go_tidy
  all_goals simp_all
 ·simp only [Bool.not_eq_true] at h
  rw [h] at K1 ⊢
  go_enter Try.func64,Try.ntmps64
  go_wp2_with (go_at_call 108;(with_reducible refine (K1.out).mono ?_);rintro e w' ⟨rfl,rfl⟩)
  all_goals (go_ret;refine ⟨ret_b ?_,rfl⟩)
  all_goals go_tidy
  all_goals grind
theorem stzIn_c (n a b:Int) (w:World):Calls Try.prog 66 #[.int .i64 n,.int .i64 a,.int .i64 b] w fun e w'=>e=.returned (.bool (decide (a≤n) && decide (n≤b)))∧w=w':=by
 go_enter Try.func66,Try.ntmps66
 go_wp2
 all_goals (go_ret;refine ⟨ret_b ?_,rfl⟩)
 all_goals go_tidy
 all_goals grind
end Go.Proofs.Ytpmoioopjbfhkaa

/- callboyref10: has, extra, Check. -/
namespace Go.Proofs.Ytpmoioopjbfhkaa
open Go.RowKit
structure StzD where
 kind:UInt8
 user:ByteArray
 res:ByteArray
 name:ByteArray
 show_:Int
 prio:Int
 code:Int
 n:Int
def StzD.arr (s:StzD):Array Value:=#[.int .u8 s.kind.toNat,.string s.user,.string s.res,.string s.name,.int .i64 s.show_,.int .i64 s.prio,.int .i64 s.code,.int .i64 s.n]
def hasC (k:UInt8) (c:UInt8):Bool:=(hasN k.toNat).any (· == c)
theorem ite_len {p:Prop} [Decidable p] {a b:List UInt8} {n:Nat} (ha:a.length≤n) (hb:b.length≤n):(if p then a else b).length≤n:=by
 by_cases h:p
 ·rw [if_pos h];exact ha
 ·rw [if_neg h];exact hb
theorem hasN_len (k:Nat):(hasN k).length≤5:=by
 unfold hasN
 repeat' first | (apply ite_len) | decide
def extraL (s:StzD):Bool :=
 ((!s.user.toList.isEmpty && !hasC s.kind 117) || (!s.res.toList.isEmpty && !hasC s.kind 114) || (!s.name.toList.isEmpty && !hasC s.kind 109)) ||
 ((s.show_ != 0 && !hasC s.kind 115) || (s.prio != 0 && !hasC s.kind 112) || (s.code != 0 && !hasC s.kind 99) || (s.n != 0 && !hasC s.kind 110))
def rangeL (s:StzD):Bool:=(decide (0≤s.show_) && decide (s.show_≤63)) && (decide (-128≤s.prio) && decide (s.prio≤127)) && (decide (0≤s.code) && decide (s.code≤255)) && (decide (0≤s.n) && decide (s.n≤281474976710655))
def checkS (s:StzD):Int :=
 if knownN s.kind.toNat=false then 12 else if extraL s=true then 4 else if rangeL s=false then 8 else if 24 < s.name.size then 5
 else if plainL s.name.data.toList=false then 11 else if (hasC s.kind 117 && !isBareL s.user.data.toList)=true then 11 else resL s.res.data.toList
end Go.Proofs.Ytpmoioopjbfhkaa

/- callboyref10: extra. -/
namespace Go.Proofs.Ytpmoioopjbfhkaa
open Go.RowKit
end Go.Proofs.Ytpmoioopjbfhkaa

/- callboyref10: Check, Light. -/
namespace Go.Proofs.Ytpmoioopjbfhkaa
open Go.RowKit
end Go.Proofs.Ytpmoioopjbfhkaa

/- Readers of ItemBack's parameters. -/
namespace Go.Proofs.Ytpmoioopjbfhkaa
open Go.ChangeShapes Go.WideShapes Go.ChangeAt Go.RowKit Go.Joins Go.Deep
structure ItemItem.Wf (x:ItemItem):Prop where
 Sub:(Lit.int .i64 x.Sub).wf=true
 Ver:(Lit.int .i64 x.Ver).wf=true
set_option maxRecDepth 100000 in
theorem rd_T26 {H:Type} {enc:TypeId × Value→H} {W:World} {spare:Nat→Bool} {held:Bool} {fuel:Nat} {cs:List Value} {y:DataW H × List MemPlace} (h:DataW.trod enc Try.prog W 0 spare held fuel 26 cs=some y):∃ x:ItemItem,ItemItem.Wf x∧RepL (MW W) noBk cs [.s x.Contact,.s x.Name,.i x.Sub,.i x.Ver,.b x.Own]:=by
 obtain ⟨xs,n,_,_,hl,hx,hall⟩:=DataW.trod_struct Try.underlying26 h
 have hce:Try.prog.cellsOf 26=5:=by kernel_rfl
 rw [hce] at hl
 match cs,hl,hall with
 | [c0,c1,c2,c3,c4],_,hall =>
  obtain ⟨y0,hy0⟩:=get_some hx (show 0 < 5 by omega)
  have g0:DataW.trod enc Try.prog W 0 spare held n 9 [c0]=some y0:=by
   have hz:Try.prog.cellsOf 9=1:=by kernel_rfl
   have g:DataW.trod enc Try.prog W 0 spare held n 9 (([c0,c1,c2,c3,c4].drop 0).take (Try.prog.cellsOf 9))=some y0:=(hall 0 _ rfl).trans hy0
   rw [hz] at g;exact g
  obtain ⟨x0,r0⟩:=rd_string Try.underlying9 g0
  obtain ⟨y1,hy1⟩:=get_some hx (show 1 < 5 by omega)
  have g1:DataW.trod enc Try.prog W 0 spare held n 9 [c1]=some y1:=by
   have hz:Try.prog.cellsOf 9=1:=by kernel_rfl
   have g:DataW.trod enc Try.prog W 0 spare held n 9 (([c0,c1,c2,c3,c4].drop 1).take (Try.prog.cellsOf 9))=some y1:=(hall 1 _ rfl).trans hy1
   rw [hz] at g;exact g
  obtain ⟨x1,r1⟩:=rd_string Try.underlying9 g1
  obtain ⟨y2,hy2⟩:=get_some hx (show 2 < 5 by omega)
  have g2:DataW.trod enc Try.prog W 0 spare held n 3 [c2]=some y2:=by
   have hz:Try.prog.cellsOf 3=1:=by kernel_rfl
   have g:DataW.trod enc Try.prog W 0 spare held n 3 (([c0,c1,c2,c3,c4].drop 2).take (Try.prog.cellsOf 3))=some y2:=(hall 2 _ rfl).trans hy2
   rw [hz] at g;exact g
  obtain ⟨x2,w2,r2⟩:=rd_int Try.underlying3 g2
  obtain ⟨y3,hy3⟩:=get_some hx (show 3 < 5 by omega)
  have g3:DataW.trod enc Try.prog W 0 spare held n 3 [c3]=some y3:=by
   have hz:Try.prog.cellsOf 3=1:=by kernel_rfl
   have g:DataW.trod enc Try.prog W 0 spare held n 3 (([c0,c1,c2,c3,c4].drop 3).take (Try.prog.cellsOf 3))=some y3:=(hall 3 _ rfl).trans hy3
   rw [hz] at g;exact g
  obtain ⟨x3,w3,r3⟩:=rd_int Try.underlying3 g3
  obtain ⟨y4,hy4⟩:=get_some hx (show 4 < 5 by omega)
  have g4:DataW.trod enc Try.prog W 0 spare held n 4 [c4]=some y4:=by
   have hz:Try.prog.cellsOf 4=1:=by kernel_rfl
   have g:DataW.trod enc Try.prog W 0 spare held n 4 (([c0,c1,c2,c3,c4].drop 4).take (Try.prog.cellsOf 4))=some y4:=(hall 4 _ rfl).trans hy4
   rw [hz] at g;exact g
  obtain ⟨x4,r4⟩:=rd_bool Try.underlying4 g4
  exact ⟨⟨x0,x1,x2,x3,x4⟩,⟨w2,w3⟩,repL_app r0 (repL_app r1 (repL_app r2 (repL_app r3 (repL_app r4 (repL_nil)))))⟩
end Go.Proofs.Ytpmoioopjbfhkaa

/- Items' bytes in plain words: what is laid. -/
namespace Go.Proofs.Ytpmoioopjbfhkaa
open Go.RowKit
def tx (l:List Int):ByteArray:=⟨(l.map fun b=>UInt8.ofNat b.toNat).toArray⟩
def okB (l:List Int):Prop:=∀ b ∈ l,0≤b∧b≤255
theorem text_p {l:List Int} (h:okB l):text? l=some (tx l):=by
 unfold text?
 rw [if_pos (by
  rw [List.all_eq_true]
  intro b hb
  have:=h b hb
  simp [this.1,this.2])]
 rfl
theorem okB_app {a b:List Int} (ha:okB a) (hb:okB b):okB (a++b):=fun x hx=>by
 rcases List.mem_append.1 hx with h | h
 ·exact ha x h
 ·exact hb x h
theorem ba_eq {a b:ByteArray} (h:a.data.toList=b.data.toList):a=b:=by cases a;cases b;congr 1;exact Array.ext' h
theorem bytesI_ok (s:ByteArray):okB (bytesI s):=fun b hb=>by
 unfold bytesI at hb
 obtain ⟨c,_,rfl⟩:=List.mem_map.1 hb
 have:c.toNat < 256:=c.toNat_lt
 omega
theorem u8_id {n:Int} (h:0≤n∧n≤255):IntKind.wrap .u8 n=n:=by
 simp only [IntKind.wrap,IntKind.signed,IntKind.bits]
 first | omega | (simp <;> omega)
def sayI (s:ByteArray):List Int:=(s.size:Int) :: bytesI s
theorem sayI_ok {s:ByteArray} (h:s.size≤255):okB (sayI s):=fun b hb=>by
 rcases List.mem_cons.1 hb with rfl | hb
 ·omega
 ·exact bytesI_ok s b hb
theorem bytesI_len2 (s:ByteArray):(bytesI s).length=s.size:=(bytesI_len s).symm
def sayX (s:ByteArray) (m:Int):List Int:=bif decide (m < (s.size:Int)) then [] else sayI s
theorem sayX_ok {s:ByteArray} {m:Int} (hm:m≤255):okB (sayX s m):=by
 unfold sayX
 by_cases h:decide (m < (s.size:Int))=true
 ·rw [h];exact fun b hb=>by cases hb
 ·rw [Bool.not_eq_true] at h
  rw [h,cond_false]
  simp at h
  exact sayI_ok (by omega)
theorem sayX_len {s:ByteArray} {m:Int} (hm:m≤255):(sayX s m).length≤256:=by
 unfold sayX
 by_cases h:decide (m < (s.size:Int))=true
 ·rw [h];simp
 ·rw [Bool.not_eq_true] at h
  rw [h,cond_false]
  simp at h
  unfold sayI
  rw [List.length_cons,bytesI_len2];omega
theorem say_p {s:ByteArray} {m:Int} (hm:m≤255):∃ e,p_octet_Say s m=some (sayX s m,e):=by
 unfold p_octet_Say sayX
 have e:(if (255:Int) < m then (255:Int) else m)=m:=if_neg (by omega)
 rw [e]
 by_cases h:decide (m < (s.size:Int))=true
 ·rw [h];exact ⟨_,rfl⟩
 ·rw [Bool.not_eq_true] at h
  rw [h,cond_false]
  simp at h
  rw [app_ok (by rw [bytesI_len2];simp;omega),Option.bind_some,u8_id (by omega)]
  exact ⟨_,rfl⟩
def layI (n:Nat):List Int:=[((n / 2 ^ 40 % 256:Nat):Int),((n / 2 ^ 32 % 256:Nat):Int),((n / 2 ^ 24 % 256:Nat):Int),((n / 2 ^ 16 % 256:Nat):Int),((n / 2 ^ 8 % 256:Nat):Int),((n % 256:Nat):Int)]
theorem layI_ok (n:Nat):okB (layI n):=fun b hb=>by
 simp only [layI,List.mem_cons,List.not_mem_nil,or_false] at hb
 rcases hb with rfl | rfl | rfl | rfl | rfl | rfl <;> omega
theorem shrN (n k:Nat) (hk:k≤64):shrI .i64 (n:Int) (k:Int)=((n / 2 ^ k:Nat):Int):=by
 have e:(min (k:Int).toNat IntKind.i64.bits)=k:=by
  have:IntKind.i64.bits=64:=rfl
  rw [this];omega
 unfold shrI
 rw [e,fdivN]
theorem u8_mod (n:Nat):IntKind.wrap .u8 (n:Int)=((n % 256:Nat):Int):=by
 simp only [IntKind.wrap,IntKind.signed,IntKind.bits]
 first | omega | (simp <;> omega)
theorem lay_l (n:Nat) (F:Nat):p_octet_Lay_l1 6 n 6 6 (F + 7) 0 [0,0,0,0,0,0]=some (6,layI n):=by
 have key:p_octet_Lay_l1 6 n 6 6 (F + 7) 0 [0,0,0,0,0,0]=some (6,[IntKind.wrap .u8 (shrI .i64 n (40:Nat)),IntKind.wrap .u8 (shrI .i64 n (32:Nat)),IntKind.wrap .u8 (shrI .i64 n (24:Nat)),IntKind.wrap .u8 (shrI .i64 n (16:Nat)),IntKind.wrap .u8 (shrI .i64 n (8:Nat)),IntKind.wrap .u8 (shrI .i64 n (0:Nat))]):=by kernel_rfl
 rw [key,shrN n 40 (by decide),shrN n 32 (by decide),shrN n 24 (by decide),shrN n 16 (by decide),shrN n 8 (by decide),shrN n 0 (by decide)]
 simp only [u8_mod,Nat.pow_zero,Nat.div_one]
 rfl
theorem lay_p {n:Int} (h:0≤n∧n≤1099511627776):p_octet_Lay n 6=some (layI n.toNat,0):=by
 obtain ⟨N,rfl⟩ : ∃ N:Nat,n=N:=⟨n.toNat,by omega⟩
 rw [Int.toNat_natCast]
 unfold p_octet_Lay
 have hw:p_octet_wide 6=some true:=by kernel_rfl
 have h8:w64 ((8:Int) * 6)=((48:Nat):Int):=by kernel_rfl
 have hs:shrI .i64 (N:Int) ((48:Nat):Int)=0:=by
  rw [shrN N 48 (by decide),Nat.div_eq_of_lt (by have:(2:Nat) ^ 48=281474976710656:=(by decide);omega)];rfl
 have hm:mk? (6:Int) (0:Int)=some [0,0,0,0,0,0]:=by kernel_rfl
 have hl:=lay_l N (fuel - 7)
 rw [show fuel - 7 + 7=fuel from rfl] at hl
 rw [hw,Option.bind_some,cond_true,show decide ((N:Int) < 0)=false by simp,cond_false,h8]
 have hp:pos? ((48:Nat):Int)=some ():=by kernel_rfl
 rw [hp,Option.bind_some,hs,show ((0:Int) != 0)=false from rfl,cond_false,hm,Option.bind_some,hl,Option.bind_some]
 rfl
theorem concat_l1 (z:List (List Int)) (F k:Nat) (y:Int) (h:k < z.length) (hy:0≤y∧y≤100000) (hz:z[k].length≤1000) (hk:k≤100):p_slices_Concat_byte_l1 z (z.length:Int) (F + 1) y (k:Int)=p_slices_Concat_byte_l1 z (z.length:Int) F (y + (z[k].length:Int)) ((k + 1:Nat):Int):=by
 rw [p_slices_Concat_byte_l1,lt_tt h,cond_true,at_lt h,Option.bind_some,w64_id (by omega),show decide (y + (z[k].length:Int) < 0)=false by simp;omega,cond_false,w64_succ (by omega)]
theorem concat_l2 (z:List (List Int)) (F k:Nat) (y:List Int) (h:k < z.length) (hy:y.length≤100000) (hz:z[k].length≤1000) (hk:k≤100):p_slices_Concat_byte_l2 z (z.length:Int) (F + 1) y (k:Int)=p_slices_Concat_byte_l2 z (z.length:Int) F (y++z[k]) ((k + 1:Nat):Int):=by
 rw [p_slices_Concat_byte_l2,lt_tt h,cond_true,at_lt h,Option.bind_some,app_ok (by omega),Option.bind_some,w64_succ (by omega)]
theorem concat_p {a b c d:List Int} (ha:a.length≤1000) (hb:b.length≤1000) (hc:c.length≤1000) (hd:d.length≤1000):p_slices_Concat_byte [a,b,c,d]=some (a++b++c++d):=by
 unfold p_slices_Concat_byte
 have h1:p_slices_Concat_byte_l1 [a,b,c,d] (([a,b,c,d]:List (List Int)).length:Int) fuel 0 0=some (0 + (a.length:Int) + (b.length:Int) + (c.length:Int) + (d.length:Int),4):=by
  rw [show fuel=fuel - 5 + 5 from rfl,show (0:Int)=((0:Nat):Int) from rfl]
  rw [concat_l1 [a,b,c,d] _ 0 _ (by simp) (by simp) (by simpa using ha) (by decide),concat_l1 [a,b,c,d] _ 1 _ (by simp) (by simp;omega) (by simpa using hb) (by decide),concat_l1 [a,b,c,d] _ 2 _ (by simp) (by simp;omega) (by simpa using hc) (by decide),concat_l1 [a,b,c,d] _ 3 _ (by simp) (by simp;omega) (by simpa using hd) (by decide),p_slices_Concat_byte_l1]
  rfl
 have h2:p_slices_Concat_byte_l2 [a,b,c,d] (([a,b,c,d]:List (List Int)).length:Int) fuel [] 0=some ([]++a++b++c++d,4):=by
  rw [show fuel=fuel - 5 + 5 from rfl,show (0:Int)=((0:Nat):Int) from rfl]
  rw [concat_l2 [a,b,c,d] _ 0 _ (by simp) (by simp) (by simpa using ha) (by decide),concat_l2 [a,b,c,d] _ 1 _ (by simp) (by simp;omega) (by simpa using hb) (by decide),concat_l2 [a,b,c,d] _ 2 _ (by simp) (by simp;omega) (by simpa using hc) (by decide),concat_l2 [a,b,c,d] _ 3 _ (by simp) (by simp;omega) (by simpa using hd) (by decide),p_slices_Concat_byte_l2]
  rfl
 rw [h1,Option.bind_some]
 have hg:grow? (0 + (a.length:Int) + (b.length:Int) + (c.length:Int) + (d.length:Int))=some ():=if_pos (by omega)
 rw [hg,Option.bind_some,h2]
 simp
def bytI (x:ItemItem):List Int:=sayX x.Contact 33++sayX x.Name 24++[bif x.Own then x.Sub + 16 else x.Sub]++layI x.Ver.toNat
theorem or16 {s:Int} (h:subC s=0):orI .i64 s (16:Int)=s + 16:=by
 rcases sub16 (subC_in h) with rfl | rfl | rfl | rfl | rfl | rfl | rfl | rfl | rfl | rfl | rfl | rfl | rfl | rfl | rfl | rfl <;> kernel_rfl
def putI (x:ItemItem):ByteArray × Int:=if chkI x=0 then (tx (bytI x),0) else (⟨#[]⟩,chkI x)
theorem bytI_ok {x:ItemItem} (f:FineI x):okB (bytI x):=by
 have hs:=subC_in f.sub
 refine okB_app (okB_app (okB_app (sayX_ok (by decide)) (sayX_ok (by decide))) fun b hb=>?_) (layI_ok _)
 rw [List.mem_singleton] at hb
 subst hb
 cases x.Own <;> simp only [cond_true,cond_false] <;> omega
theorem put_p {x:ItemItem} (hc:x.Contact.size≤100000) (hn:x.Name.size≤100000):p_item_Put x=some (putI x):=by
 unfold p_item_Put putI
 rw [check_p hc hn,Option.bind_some]
 by_cases h:chkI x=0
 ·have f:=fine_of h
  have hs:=subC_in f.sub
  have hb:=bytI_ok f
  obtain ⟨e1,h1⟩:=say_p (s:=x.Contact) (m:=33) (by decide)
  obtain ⟨e2,h2⟩:=say_p (s:=x.Name) (m:=24) (by decide)
  have l1:=sayX_len (s:=x.Contact) (m:=33) (by decide)
  have l2:=sayX_len (s:=x.Name) (m:=24) (by decide)
  rw [h,if_pos rfl,show ((0:Int) != 0)=false from rfl,cond_false,h1,h2,lay_p f.ver]
  simp only [Option.bind_some]
  cases ho:x.Own with
  | true =>
   rw [cond_true,or16 f.sub,u8_id (by omega),concat_p (by omega) (by omega) (by simp) (by simp [layI]),Option.bind_some]
   have e:sayX x.Contact 33++sayX x.Name 24++[x.Sub + 16]++layI x.Ver.toNat=bytI x:=by unfold bytI;rw [ho];rfl
   rw [e,text_p hb];rfl
  | false =>
   rw [cond_false,u8_id (by omega),concat_p (by omega) (by omega) (by simp) (by simp [layI]),Option.bind_some]
   have e:sayX x.Contact 33++sayX x.Name 24++[x.Sub]++layI x.Ver.toNat=bytI x:=by unfold bytI;rw [ho];rfl
   rw [e,text_p hb];rfl
 ·rw [if_neg h,show (chkI x != 0)=true by simpa using h,cond_true]
def pushI (x:ItemItem):StanzaStanza :=
 if chkI x≠0 then ⟨0,⟨#[]⟩,⟨#[]⟩,⟨#[]⟩,0,0,0,0⟩ else bif listedI x then ⟨38,x.Contact,⟨#[]⟩,x.Name,Int.tmod x.Sub 8,0,0,x.Ver⟩ else ⟨39,x.Contact,⟨#[]⟩,⟨#[]⟩,0,0,0,x.Ver⟩
theorem not8 {s:Int} (h:subC s=0):andNotI .i64 s (8:Int)=Int.tmod s 8:=by
 rcases sub16 (subC_in h) with rfl | rfl | rfl | rfl | rfl | rfl | rfl | rfl | rfl | rfl | rfl | rfl | rfl | rfl | rfl | rfl <;> kernel_rfl
theorem push_p {x:ItemItem} (hc:x.Contact.size≤100000) (hn:x.Name.size≤100000):p_item_Push x=some (pushI x):=by
 unfold p_item_Push pushI
 rw [check_p hc hn,listed_p]
 simp only [Option.bind_some]
 by_cases h:chkI x=0
 ·rw [show (chkI x != 0)=false by simpa using h,cond_false,if_neg (by simpa using h),not8 (fine_of h).sub]
  cases listedI x <;> rfl
 ·rw [show (chkI x != 0)=true by simpa using h,cond_true,if_pos h]
end Go.Proofs.Ytpmoioopjbfhkaa

/- Reading an item's bytes in plain words. -/
namespace Go.Proofs.Ytpmoioopjbfhkaa
open Go.RowKit
theorem isBare_len {l:List UInt8} (h:isBareL l=true):l.length≤33:=by
 unfold isBareL at h
 simp only [Bool.and_eq_true,decide_eq_true_eq,beq_iff_eq] at h
 obtain ⟨h1,h2⟩:=h
 unfold bareT at h2
 rw [if_pos h1] at h2
 unfold parseL at h1 h2
 split at h1
 ·exact absurd h1 (by decide)
 ·rename_i hc
  rw [if_neg hc] at h2
  split at h1
  ·rename_i hk
   rw [if_pos hk] at h2
   have hl:(ownL l).length≤16∧(placeL l).length≤16:=by
    unfold checkA at hk
    split at hk
    ·omega
    ·rename_i hn
     simp at hn
     omega
   rw [← h2]
   unfold textL
   simp
   omega
  ·rename_i hk
   exact absurd h1 hk
def fold8 (N:Nat) (l:List UInt8):Nat:=l.foldl (fun n b=>n * 256 + b.toNat) N
theorem or8 (a:Nat) (b:UInt8) (h:a < 281474976710656):orI .i64 (shlI .i64 (a:Int) (8:Int)) (w64 (b.toNat:Int))=((a * 256 + b.toNat:Nat):Int):=by
 have hb:b.toNat < 256:=b.toNat_lt
 have hs:shlI .i64 (a:Int) (8:Int)=((a * 256:Nat):Int):=by
  unfold shlI
  rw [show min (8:Int).toNat IntKind.i64.bits=8 by decide,wrap_ok (by omega)];omega
 rw [hs,w64_id (by omega)]
 have e:(BitVec.ofInt 64 ((a * 256:Nat):Int) ||| BitVec.ofInt 64 ((b.toNat:Nat):Int)).toNat=a * 256 + b.toNat:=by
  rw [BitVec.toNat_or,BitVec.ofInt_natCast,BitVec.ofInt_natCast,BitVec.toNat_ofNat,BitVec.toNat_ofNat,Nat.mod_eq_of_lt (by omega),Nat.mod_eq_of_lt (by omega)]
  have:=Nat.shiftLeft_add_eq_or_of_lt (i:=8) (by omega:b.toNat < 2 ^ 8) a
  rw [Nat.shiftLeft_eq] at this
  exact this.symm
 show IntKind.i64.wrap ((BitVec.ofInt 64 ((a * 256:Nat):Int) ||| BitVec.ofInt 64 ((b.toNat:Nat):Int)).toNat:Int)=_
 rw [e]
 exact wrap_ok (by omega)
theorem bytesI_at {s:ByteArray} {k:Nat} (h:k < s.data.toList.length):at? (bytesI s) (k:Int)=some ((s.data.toList[k]).toNat:Int):=by
 unfold bytesI
 rw [at_nat,List.getElem?_map,List.getElem?_eq_getElem h];rfl
theorem num_l (s:ByteArray) (hl:s.data.toList.length≤6):∀ (n k F N:Nat),k + n=s.data.toList.length→n < F→N < 256 ^ k→p_octet_Num_l1 (bytesI s) ((bytesI s).length:Int) F (N:Int) (k:Int)=some (((fold8 N (s.data.toList.drop k):Nat):Int),((bytesI s).length:Int))
 | 0,k,F + 1,N,hk,hF,hN=>by
  have e:(bytesI s).length=s.data.toList.length:=by unfold bytesI;simp
  rw [p_octet_Num_l1,lt_ff (by omega),show k=s.data.toList.length by omega,List.drop_length,e];rfl
 | n + 1,k,F + 1,N,hk,hF,hN=>by
  have e:(bytesI s).length=s.data.toList.length:=by unfold bytesI;simp
  have hlt:k < s.data.toList.length:=by omega
  have hb:(s.data.toList[k]).toNat < 256:=(s.data.toList[k]).toNat_lt
  have h48:N < 281474976710656:=Nat.lt_of_lt_of_le hN (by
   have:(256:Nat) ^ k≤256 ^ 6:=Nat.pow_le_pow_right (by decide) (by omega)
   have h6:(256:Nat) ^ 6=281474976710656:=by decide
   omega)
  rw [p_octet_Num_l1,lt_tt (by omega),cond_true,bytesI_at hlt,Option.bind_some,or8 _ _ h48,w64_succ (by omega),num_l s hl n (k + 1) F _ (by omega) (by omega) (by rw [Nat.pow_succ];omega),drop_at hlt]
  rfl
theorem sub_list {s:ByteArray} {a n:Nat} (h:a + n≤s.data.toList.length):∃ x:ByteArray,sub? s (some (a:Int)) (some ((a + n:Nat):Int))=some x∧x.data.toList=(s.data.toList.drop a).take n:=by
 have hs:s.data.toList.length=s.size:=by simp
 refine ⟨s.extract a (a + n),?_,?_⟩
 ·unfold sub?
  simp only [Option.getD_some]
  rw [if_pos (by omega)];rfl
 ·rw [ByteArray.data_extract,Array.toList_extract,List.extract_eq_take_drop,Nat.add_sub_cancel_left]
theorem fault_yes {r:OctetRead} (h:r.Bad=0) {a:Nat} (ha:r.At=(a:Int)) (hl:a≤r.S.data.toList.length):p_octet_Read_fault r=some 0:=by
 have hs:r.S.data.toList.length=r.S.size:=by simp
 unfold p_octet_Read_fault
 rw [h,ha,show decide ((a:Int) < 0)=false by simp,show decide ((r.S.size:Int) < (a:Int))=false by simp;omega]
 rfl
theorem fault_no {r:OctetRead} (h:¬ (r.Bad=0∧∃ a:Nat,r.At=(a:Int)∧a≤r.S.data.toList.length)):∃ e,p_octet_Read_fault r=some e∧e≠0:=by
 have hs:r.S.data.toList.length=r.S.size:=by simp
 unfold p_octet_Read_fault
 by_cases hb:r.Bad=0
 ·rw [show (r.Bad == 0)=true by simpa using hb,cond_true]
  by_cases h1:r.At < 0
  ·rw [show decide (r.At < 0)=true by simpa using h1];exact ⟨_,rfl,by decide⟩
  ·rw [show decide (r.At < 0)=false by simpa using h1,cond_false]
   by_cases h2:(r.S.size:Int) < r.At
   ·rw [show decide ((r.S.size:Int) < r.At)=true by simpa using h2];exact ⟨_,rfl,by decide⟩
   ·exact absurd ⟨hb,r.At.toNat,by omega,by omega⟩ h
 ·rw [show (r.Bad == 0)=false by simpa using hb];exact ⟨_,rfl,hb⟩
theorem left_yes {r:OctetRead} (h:r.Bad=0) {a:Nat} (ha:r.At=(a:Int)) (hl:a≤r.S.data.toList.length) (hn:r.S.data.toList.length≤1000):p_octet_Left r=some (((r.S.data.toList.length - a:Nat):Int)):=by
 have hs:r.S.data.toList.length=r.S.size:=by simp
 unfold p_octet_Left
 rw [fault_yes h ha hl,Option.bind_some,show ((0:Int) != 0)=false from rfl,cond_false,ha,w64_id (by omega)]
 congr 1;omega
def rdA (S:ByteArray) (a:Nat):OctetRead:=⟨S,(a:Int),0⟩
theorem num_yes {S:ByteArray} {a w:Nat} (hw:w=1∨w=6) (hn:S.data.toList.length≤1000) (h:a + w≤S.data.toList.length):p_octet_Num (rdA S a) (w:Int)=some (rdA S (a + w),((fold8 0 ((S.data.toList.drop a).take w):Nat):Int)):=by
 have w1:p_octet_wide (w:Int)=some true:=by rcases hw with rfl | rfl <;> kernel_rfl
 unfold p_octet_Num
 rw [fault_yes (r:=rdA S a) rfl rfl (by show a≤S.data.toList.length;omega),Option.bind_some,show ((0:Int) != 0)=false from rfl,cond_false,w1,Option.bind_some,cond_true,left_yes (r:=rdA S a) rfl rfl (by show a≤S.data.toList.length;omega) hn,Option.bind_some]
 show (bif decide (((S.data.toList.length - a:Nat):Int) < (w:Int)) then _ else _)=_
 obtain ⟨x,hx1,hx2⟩:=sub_list h
 have hxl:x.data.toList.length=w:=by rw [hx2,List.length_take,List.length_drop];omega
 have n1:=num_l x (by omega) w 0 fuel 0 (by omega) (by have:=fuel_pos;omega) (by decide)
 rw [List.drop_zero,hx2] at n1
 have z0:((0:Nat):Int)=0:=rfl
 rw [z0] at n1
 have e:w64 ((rdA S a).At + (w:Int))=((a + w:Nat):Int):=by show w64 ((a:Int) + (w:Int))=_;rw [w64_id (by omega)];omega
 rw [lt_ff (by omega),cond_false,e]
 show ((sub? S (some (a:Int)) (some ((a + w:Nat):Int))).bind _)=_
 rw [hx1,Option.bind_some,n1];rfl
theorem num_no {r:OctetRead} {w:Nat} (hw:w=1∨w=6) (hn:r.S.data.toList.length≤1000) (h:¬ ∃ a:Nat,r=rdA r.S a∧a + w≤r.S.data.toList.length):∃ r',p_octet_Num r (w:Int)=some (r',0)∧r'.Bad≠0∧r'.S=r.S:=by
 have w1:p_octet_wide (w:Int)=some true:=by rcases hw with rfl | rfl <;> kernel_rfl
 unfold p_octet_Num
 by_cases hf:r.Bad=0∧∃ a:Nat,r.At=(a:Int)∧a≤r.S.data.toList.length
 ·obtain ⟨hb,a,ha,hl⟩:=hf
  have hr:r=rdA r.S a:=by cases r;simp only at hb ha;subst hb ha;rfl
  have hlt:¬ (a + w≤r.S.data.toList.length):=fun g=>h ⟨a,hr,g⟩
  rw [fault_yes hb ha hl,Option.bind_some,show ((0:Int) != 0)=false from rfl,cond_false,w1,Option.bind_some,cond_true,left_yes hb ha hl hn,Option.bind_some,lt_tt (by omega)]
  exact ⟨_,rfl,by show (3:Int)≠0;decide,rfl⟩
 ·obtain ⟨e,he,h0⟩:=fault_no hf
  rw [he,Option.bind_some,show (e != 0)=true by simpa using h0]
  exact ⟨_,rfl,h0,rfl⟩
theorem fold1 (b:UInt8):fold8 0 [b]=b.toNat:=by simp [fold8]
theorem take1 {l:List UInt8} {a:Nat} (h:a < l.length):(l.drop a).take 1=[l[a]]:=by rw [drop_at h];rfl
theorem text_yes {S:ByteArray} {a n:Nat} {m:Int} (hn:S.data.toList.length≤1000) (h:a < S.data.toList.length) (hb:(S.data.toList[a]).toNat=n) (hm:(n:Int)≤m) (hl:a + 1 + n≤S.data.toList.length) :
  ∃ x:ByteArray,p_octet_Text (rdA S a) m=some (rdA S (a + 1 + n),x)∧x.data.toList=(S.data.toList.drop (a + 1)).take n:=by
 have h1:p_octet_Num (rdA S a) 1=some (rdA S (a + 1),(n:Int)):=by
  have:=num_yes (S:=S) (a:=a) (w:=1) (.inl rfl) hn (by omega)
  rw [take1 h,fold1,hb] at this
  exact this
 obtain ⟨x,hx1,hx2⟩:=sub_list hl
 refine ⟨x,?_,hx2⟩
 unfold p_octet_Text
 rw [h1,Option.bind_some]
 show (bif ((0:Int) != 0) then _ else _)=_
 rw [show ((0:Int) != 0)=false from rfl,cond_false]
 show (bif decide (m < (n:Int)) then _ else _)=_
 rw [show decide (m < (n:Int))=false by simpa using hm,cond_false]
 show ((p_octet_Left (rdA S (a + 1))).bind _)=_
 rw [left_yes (r:=rdA S (a + 1)) rfl rfl (by show a + 1≤S.data.toList.length;omega) hn,Option.bind_some]
 show (bif decide (((S.data.toList.length - (a + 1):Nat):Int) < (n:Int)) then _ else _)=_
 rw [lt_ff (by omega),cond_false]
 show ((sub? S (some ((a + 1:Nat):Int)) (some (w64 (((a + 1:Nat):Int) + (n:Int))))).bind fun s8=>some ((⟨S,w64 (((a + 1:Nat):Int) + (n:Int)),0⟩ : OctetRead),s8))=_
 rw [w64_id (by omega),show ((a + 1:Nat):Int) + (n:Int)=((a + 1 + n:Nat):Int) by omega,hx1];rfl
theorem text_no {r:OctetRead} {m:Int} (hn:r.S.data.toList.length≤1000) (h:¬ ∃ (a:Nat) (ha:a < r.S.data.toList.length),r=rdA r.S a∧(((r.S.data.toList[a]).toNat:Int)≤m)∧a + 1 + (r.S.data.toList[a]).toNat≤r.S.data.toList.length) :
  ∃ (r' : OctetRead) (x:ByteArray),p_octet_Text r m=some (r',x)∧r'.Bad≠0∧r'.S=r.S:=by
 unfold p_octet_Text
 by_cases hf:∃ a:Nat,r=rdA r.S a∧a + 1≤r.S.data.toList.length
 ·obtain ⟨a,hr,hl⟩:=hf
  have hlt:a < r.S.data.toList.length:=by omega
  obtain ⟨n,hb⟩ : ∃ n,(r.S.data.toList[a]).toNat=n:=⟨_,rfl⟩
  have h1:p_octet_Num r 1=some (rdA r.S (a + 1),(n:Int)):=by
   have:=num_yes (S:=r.S) (a:=a) (w:=1) (.inl rfl) hn (by omega)
   rw [take1 hlt,fold1,hb,← hr] at this
   exact this
  rw [h1,Option.bind_some]
  show ∃ r' x,(bif ((0:Int) != 0) then _ else _)=some (r',x)∧_
  rw [show ((0:Int) != 0)=false from rfl,cond_false]
  show ∃ r' x,(bif decide (m < (n:Int)) then _ else _)=some (r',x)∧_
  by_cases hm:m < (n:Int)
  ·rw [show decide (m < (n:Int))=true by simpa using hm,cond_true]
   exact ⟨_,_,rfl,by show (5:Int)≠0;decide,rfl⟩
  ·rw [show decide (m < (n:Int))=false by simpa using hm,cond_false]
   show ∃ r' x,((p_octet_Left (rdA r.S (a + 1))).bind _)=some (r',x)∧_
   rw [left_yes (r:=rdA r.S (a + 1)) rfl rfl hl hn,Option.bind_some]
   show ∃ r' x,(bif decide (((r.S.data.toList.length - (a + 1):Nat):Int) < (n:Int)) then _ else _)=some (r',x)∧_
   have hx:¬ (a + 1 + n≤r.S.data.toList.length):=fun g=>h ⟨a,hlt,hr,by rw [hb];omega,by rw [hb];exact g⟩
   rw [lt_tt (by omega),cond_true]
   exact ⟨_,_,rfl,by show (3:Int)≠0;decide,rfl⟩
 ·obtain ⟨r',h1,h2,h3⟩:=num_no (w:=1) (.inl rfl) hn hf
  have h1' : p_octet_Num r 1=some (r',0):=h1
  rw [h1',Option.bind_some]
  show ∃ r1 x,(bif (r'.Bad != 0) then _ else _)=some (r1,x)∧_
  rw [show (r'.Bad != 0)=true by simpa using h2]
  exact ⟨_,_,rfl,h2,h3⟩
theorem bad_on {r:OctetRead} (h:r.Bad≠0) (a:Nat):r≠rdA r.S a:=fun e=>h (by rw [e];rfl)
theorem done_yes {S:ByteArray} (hn:S.data.toList.length≤1000):p_octet_Done (rdA S S.data.toList.length)=some 0:=by
 have hs:S.data.toList.length=S.size:=by simp
 unfold p_octet_Done
 rw [fault_yes (r:=rdA S S.data.toList.length) rfl rfl (Nat.le_refl _),Option.bind_some]
 show (bif ((0:Int) != 0) then _ else bif decide (((S.data.toList.length:Nat):Int) < (S.size:Int)) then _ else _)=_
 rw [hs,lt_ff (Nat.le_refl _)];rfl
theorem done_no {r:OctetRead} (h:r≠rdA r.S r.S.data.toList.length):∃ e,p_octet_Done r=some e∧e≠0:=by
 have hs:r.S.data.toList.length=r.S.size:=by simp
 unfold p_octet_Done
 by_cases hf:r.Bad=0∧∃ a:Nat,r.At=(a:Int)∧a≤r.S.data.toList.length
 ·obtain ⟨hb,a,ha,hl⟩:=hf
  have hr:r=rdA r.S a:=by cases r;simp only at hb ha;subst hb ha;rfl
  have:a≠r.S.data.toList.length:=fun e=>h (by rw [e] at hr;exact hr)
  rw [fault_yes hb ha hl,Option.bind_some,show ((0:Int) != 0)=false from rfl,cond_false,ha,lt_tt (by omega)]
  exact ⟨_,rfl,by decide⟩
 ·obtain ⟨e,he,h0⟩:=fault_no hf
  rw [he,Option.bind_some,show (e != 0)=true by simpa using h0]
  exact ⟨_,rfl,h0⟩
end Go.Proofs.Ytpmoioopjbfhkaa

/- Contracts that were proved by the kit's walk, said in the abstract: stanzas. -/
namespace Go.Proofs.Ytpmoioopjbfhkaa
open Go.RowKit
abbrev V.u8 (k:UInt8):V:=.lit (.int .u8 k.toNat)
theorem has_v (k:UInt8):CallsV Try.prog 63 [.u8 k] (.s (ba (hasN k.toNat))) :=
 callsV_old #[.int .u8 k.toNat] (fun _ _ h=>lits_eq (vs:=[.int .u8 k.toNat]) h) (fun w _=>ret_of (has_c k w)) fun _=>.lit rfl
theorem known_v (k:UInt8):CallsV Try.prog 64 [.u8 k] (.b (knownN k.toNat)) :=
 callsV_old #[.int .u8 k.toNat] (fun _ _ h=>lits_eq (vs:=[.int .u8 k.toNat]) h) (fun w _=>ret_of (known_c k w)) fun _=>.lit rfl
theorem stzIn_v (n a b:Int):CallsV Try.prog 66 [.i n,.i a,.i b] (.b (decide (a≤n) && decide (n≤b))) :=
 callsV_old #[.int .i64 n,.int .i64 a,.int .i64 b] (fun _ _ h=>lits_eq (vs:=[.int .i64 n,.int .i64 a,.int .i64 b]) h) (fun w _=>ret_of (stzIn_c n a b w)) fun _=>.lit rfl
def StzD.l (s:StzD):List Value:=[.int .u8 s.kind.toNat,.string s.user,.string s.res,.string s.name,.int .i64 s.show_,.int .i64 s.prio,.int .i64 s.code,.int .i64 s.n]
def stzV (s:StzD):V:=.agg [.u8 s.kind,.s s.user,.s s.res,.s s.name,.i s.show_,.i s.prio,.i s.code,.i s.n]
end Go.Proofs.Ytpmoioopjbfhkaa

/- The abstract codes of functions, and that they are the program's (written by a program of mine). -/
namespace Go.Proofs.Ytpmoioopjbfhkaa
open Go.RowKit
def ac128:ACode:=(.seq (.reg 0 [⟨(some 4),.mv (.const (.pointer none)),none,0⟩,⟨(some 5),.mv (.const (.int .i64 0)),none,0⟩] none) (.seq (.seq (.reg 0 [⟨(some 6),.mv (.tmp 1),none,0⟩] none) (.block 0 (.seq (.reg 0 [⟨(some 8),.bin .eql (.tmp 6) (.const (.int .u8 117)),none,0⟩,⟨(some 7),.mv (.tmp 8),none,0⟩] none) (.cond (.tmp 7) (.seq (.reg 0 [⟨(some 9),.mv (.tmp 0),none,0⟩,⟨(some 10),.nc (.tmp 9),none,0⟩,⟨(some 11),.fa 1 (.tmp 10),none,0⟩,⟨(some 4),.mv (.tmp 11),none,0⟩,⟨(some 5),.mv (.const (.int .i64 33)),none,0⟩] none) .ret) (.seq (.reg 0 [⟨(some 13),.bin .eql (.tmp 6) (.const (.int .u8 114)),none,0⟩,⟨(some 12),.mv (.tmp 13),none,0⟩] none) (.cond (.tmp 12) (.seq (.reg 0 [⟨(some 14),.mv (.tmp 0),none,0⟩,⟨(some 15),.nc (.tmp 14),none,0⟩,⟨(some 16),.fa 2 (.tmp 15),none,0⟩,⟨(some 4),.mv (.tmp 16),none,0⟩,⟨(some 5),.mv (.const (.int .i64 12)),none,0⟩] none) .ret) (.seq (.reg 0 [⟨(some 18),.bin .eql (.tmp 6) (.const (.int .u8 109)),none,0⟩,⟨(some 17),.mv (.tmp 18),none,0⟩] none) (.cond (.tmp 17) (.seq (.reg 0 [⟨(some 19),.mv (.tmp 0),none,0⟩,⟨(some 20),.nc (.tmp 19),none,0⟩,⟨(some 21),.fa 3 (.tmp 20),none,0⟩,⟨(some 4),.mv (.tmp 21),none,0⟩,⟨(some 5),.mv (.const (.int .i64 24)),none,0⟩] none) .ret) .skip)))))))) (.seq (.reg 0 [⟨(some 4),.mv (.const (.pointer none)),none,0⟩,⟨(some 5),.mv (.const (.int .i64 0)),none,0⟩] none) .ret)))
theorem ac128_ok:compF Try.prog Try.f128=some (ac128,22,[.tmp 4,.tmp 5]):=by unfold ac128;kernel_rfl
def ac129:ACode:=(.seq (.reg 0 [⟨(some 4),.mv (.const (.pointer none)),none,0⟩,⟨(some 5),.mv (.const (.int .i64 0)),none,0⟩,⟨(some 6),.mv (.const (.int .i64 0)),none,0⟩] none) (.seq (.seq (.reg 0 [⟨(some 7),.mv (.tmp 1),none,0⟩] none) (.block 0 (.seq (.reg 0 [⟨(some 9),.bin .eql (.tmp 7) (.const (.int .u8 115)),none,0⟩,⟨(some 8),.mv (.tmp 9),none,0⟩] none) (.cond (.tmp 8) (.seq (.reg 0 [⟨(some 10),.mv (.tmp 0),none,0⟩,⟨(some 11),.nc (.tmp 10),none,0⟩,⟨(some 12),.fa 4 (.tmp 11),none,0⟩,⟨(some 4),.mv (.tmp 12),none,0⟩,⟨(some 5),.mv (.const (.int .i64 1)),none,0⟩,⟨(some 6),.mv (.const (.int .i64 0)),none,0⟩] none) .ret) (.seq (.reg 0 [⟨(some 14),.bin .eql (.tmp 7) (.const (.int .u8 112)),none,0⟩,⟨(some 13),.mv (.tmp 14),none,0⟩] none) (.cond (.tmp 13) (.seq (.reg 0 [⟨(some 15),.mv (.tmp 0),none,0⟩,⟨(some 16),.nc (.tmp 15),none,0⟩,⟨(some 17),.fa 5 (.tmp 16),none,0⟩,⟨(some 4),.mv (.tmp 17),none,0⟩,⟨(some 5),.mv (.const (.int .i64 1)),none,0⟩,⟨(some 6),.mv (.const (.int .i64 128)),none,0⟩] none) .ret) (.seq (.reg 0 [⟨(some 19),.bin .eql (.tmp 7) (.const (.int .u8 99)),none,0⟩,⟨(some 18),.mv (.tmp 19),none,0⟩] none) (.cond (.tmp 18) (.seq (.reg 0 [⟨(some 20),.mv (.tmp 0),none,0⟩,⟨(some 21),.nc (.tmp 20),none,0⟩,⟨(some 22),.fa 6 (.tmp 21),none,0⟩,⟨(some 4),.mv (.tmp 22),none,0⟩,⟨(some 5),.mv (.const (.int .i64 1)),none,0⟩,⟨(some 6),.mv (.const (.int .i64 0)),none,0⟩] none) .ret) .skip)))))))) (.seq (.reg 0 [⟨(some 23),.mv (.tmp 0),none,0⟩,⟨(some 24),.nc (.tmp 23),none,0⟩,⟨(some 25),.fa 7 (.tmp 24),none,0⟩,⟨(some 4),.mv (.tmp 25),none,0⟩,⟨(some 5),.mv (.const (.int .i64 6)),none,0⟩,⟨(some 6),.mv (.const (.int .i64 0)),none,0⟩] none) .ret)))
theorem ac129_ok:compF Try.prog Try.f129=some (ac129,26,[.tmp 4,.tmp 5,.tmp 6]):=by unfold ac129;kernel_rfl
def ac109:ACode:=(.seq (.reg 1 [⟨(some 10),.mv (.tmp 0),none,0⟩,⟨(some 11),.nc (.tmp 10),none,0⟩,⟨(some 12),.fa 0 (.tmp 11),none,0⟩,⟨(some 13),.ld 1 false (.tmp 12),none,0⟩,⟨(some 14),.cl 63 [(.tmp 13)],none,0⟩,⟨(some 15),.s2b (.tmp 14),none,0⟩,⟨(some 16),.lens (.tmp 15),none,1⟩,⟨(some 17),.mv (.const (.int .i64 0)),none,1⟩] none) (.block 0 (.loop (.seq (.reg 0 [⟨(some 18),.bin .lss (.tmp 17) (.tmp 16),none,0⟩] none) (.seq (.cond (.tmp 18) .skip (.exit 0)) (.seq (.block 1 (.seq (.reg 0 [⟨(some 19),.ixs 1 (.tmp 15) (.tmp 17),none,0⟩,⟨(some 20),.ld 1 false (.tmp 19),none,0⟩,⟨(some 7),.mv (.tmp 20),none,0⟩] none) (.seq (.reg 0 [⟨(some 22),.mv (.tmp 0),none,0⟩,⟨(some 23),.mv (.tmp 7),none,0⟩,⟨(some 24),.cl 128 [(.tmp 22),(.tmp 23)],none,0⟩,⟨(some 21),.mv (.tmp 24),none,0⟩,⟨(some 25),.ex (.tmp 21) 0,none,0⟩,⟨(some 26),.ex (.tmp 21) 1,none,0⟩,⟨(some 8),.mv (.tmp 25),none,0⟩,⟨(some 9),.mv (.tmp 26),none,0⟩] none) (.seq (.reg 0 [⟨(some 27),.mv (.tmp 8),none,0⟩,⟨(some 28),.eqp true (.tmp 27) (.const (.pointer none)),none,0⟩] none) (.cond (.tmp 28) (.reg 0 [⟨(some 29),.mv (.tmp 1),none,0⟩,⟨(some 30),.mv (.tmp 8),none,0⟩,⟨(some 31),.mv (.tmp 9),none,0⟩,⟨(some 32),.cv (.tmp 29) [(.tmp 30),(.tmp 31)],none,0⟩] none) (.reg 0 [⟨(some 33),.mv (.tmp 2),none,0⟩,⟨(some 34),.mv (.tmp 0),none,0⟩,⟨(some 35),.mv (.tmp 7),none,0⟩,⟨(some 36),.cl 129 [(.tmp 34),(.tmp 35)],none,0⟩,⟨(some 37),.ex (.tmp 36) 0,none,0⟩,⟨(some 38),.ex (.tmp 36) 1,none,0⟩,⟨(some 39),.ex (.tmp 36) 2,none,0⟩,⟨(some 40),.cv (.tmp 33) [(.tmp 37),(.tmp 38),(.tmp 39)],none,0⟩] none)))))) (.reg 0 [⟨(some 41),.bin .add (.tmp 17) (.const (.int .i64 1)),none,0⟩,⟨(some 17),.mv (.tmp 41),none,0⟩] none)))))))
theorem ac109_ok:compF Try.prog Try.f109=some (ac109,42,[]):=by unfold ac109;kernel_rfl
def ac110:ACode:=(.reg 0 [⟨(some 4),.mv (.tmp 0),none,0⟩,⟨(some 5),.nc (.tmp 4),none,0⟩,⟨none,.st 1 (.tmp 5) (.const (.string ⟨#[]⟩)),none,0⟩] none)
theorem ac110_ok:compF Try.prog Try.f110=some (ac110,6,[]):=by unfold ac110;kernel_rfl
def ac111:ACode:=(.reg 0 [⟨(some 6),.mv (.tmp 0),none,0⟩,⟨(some 7),.nc (.tmp 6),none,0⟩,⟨none,.st 1 (.tmp 7) (.const (.int .i64 0)),none,0⟩] none)
theorem ac111_ok:compF Try.prog Try.f111=some (ac111,8,[]):=by unfold ac111;kernel_rfl
def ac65:ACode:=(.seq (.reg 1 [⟨(some 1),.bx (.tmp 0),none,0⟩,⟨(some 2),.mv (.const (.bool false)),none,1⟩] none) (.seq (.reg 0 [⟨(some 3),.cl 109 [(.tmp 1),(.func 110),(.func 111)],none,0⟩] none) (.seq (.reg 0 [⟨(some 4),.ld 8 true (.tmp 1),none,0⟩,⟨(some 5),.fa 0 (.tmp 1),none,0⟩,⟨(some 6),.ld 1 false (.tmp 5),none,0⟩,⟨(some 7),.bd [(.lit (.int .u8 0)),(.lit (.string ⟨#[]⟩)),(.lit (.string ⟨#[]⟩)),(.lit (.string ⟨#[]⟩)),(.lit (.int .i64 0)),(.lit (.int .i64 0)),(.lit (.int .i64 0)),(.lit (.int .i64 0))] [(0,1,(.tmp 6))],none,0⟩,⟨(some 8),.eqa false [1,2,2,2,1,1,1,1] (.tmp 4) (.tmp 7),none,0⟩,⟨(some 2),.mv (.tmp 8),none,0⟩] none) .ret)))
theorem ac65_ok:compF Try.prog Try.f65=some (ac65,9,[.tmp 2]):=by unfold ac65;kernel_rfl
def ac27:ACode:=(.seq (.reg 1 [⟨(some 1),.bx (.tmp 0),none,0⟩,⟨(some 2),.mv (.const (.int .i64 0)),none,1⟩] none) (.seq (.reg 0 [⟨(some 4),.fa 0 (.tmp 1),none,0⟩,⟨(some 5),.ld 1 false (.tmp 4),none,0⟩,⟨(some 6),.cl 63 [(.tmp 5)],none,0⟩,⟨(some 3),.mv (.tmp 6),none,0⟩] none) (.seq (.block 0 (.seq (.reg 0 [⟨(some 8),.fa 0 (.tmp 1),none,0⟩,⟨(some 9),.ld 1 false (.tmp 8),none,0⟩,⟨(some 10),.cl 64 [(.tmp 9)],none,0⟩,⟨(some 11),.un .not (.tmp 10),none,0⟩,⟨(some 7),.mv (.tmp 11),none,0⟩] none) (.cond (.tmp 7) (.seq (.reg 0 [⟨(some 2),.mv (.const (.int .i64 12)),none,0⟩] none) .ret) (.seq (.reg 0 [⟨(some 13),.ld 8 true (.tmp 1),none,0⟩,⟨(some 14),.cl 65 [(.tmp 13)],none,0⟩,⟨(some 15),.un .not (.tmp 14),none,0⟩,⟨(some 12),.mv (.tmp 15),none,0⟩] none) (.cond (.tmp 12) (.seq (.reg 0 [⟨(some 2),.mv (.const (.int .i64 4)),none,0⟩] none) .ret) (.seq (.seq (.reg 0 [⟨(some 17),.fa 4 (.tmp 1),none,0⟩,⟨(some 18),.ld 1 false (.tmp 17),none,0⟩,⟨(some 19),.cl 66 [(.tmp 18),(.const (.int .i64 0)),(.const (.int .i64 63))],none,0⟩,⟨(some 20),.un .not (.tmp 19),none,0⟩,⟨(some 16),.mv (.tmp 20),none,0⟩] none) (.cond (.tmp 16) .skip (.seq (.reg 0 [⟨(some 21),.fa 5 (.tmp 1),none,0⟩,⟨(some 22),.ld 1 false (.tmp 21),none,0⟩,⟨(some 23),.cl 66 [(.tmp 22),(.const (.int .i64 (-128))),(.const (.int .i64 127))],none,0⟩,⟨(some 24),.un .not (.tmp 23),none,0⟩,⟨(some 16),.mv (.tmp 24),none,0⟩] none) (.cond (.tmp 16) .skip (.seq (.reg 0 [⟨(some 25),.fa 6 (.tmp 1),none,0⟩,⟨(some 26),.ld 1 false (.tmp 25),none,0⟩,⟨(some 27),.cl 66 [(.tmp 26),(.const (.int .i64 0)),(.const (.int .i64 255))],none,0⟩,⟨(some 28),.un .not (.tmp 27),none,0⟩,⟨(some 16),.mv (.tmp 28),none,0⟩] none) (.cond (.tmp 16) .skip (.reg 0 [⟨(some 29),.fa 7 (.tmp 1),none,0⟩,⟨(some 30),.ld 1 false (.tmp 29),none,0⟩,⟨(some 31),.cl 66 [(.tmp 30),(.const (.int .i64 0)),(.const (.int .i64 281474976710655))],none,0⟩,⟨(some 32),.un .not (.tmp 31),none,0⟩,⟨(some 16),.mv (.tmp 32),none,0⟩] none))))))) (.cond (.tmp 16) (.seq (.reg 0 [⟨(some 2),.mv (.const (.int .i64 8)),none,0⟩] none) .ret) (.seq (.reg 0 [⟨(some 34),.fa 3 (.tmp 1),none,0⟩,⟨(some 35),.ld 1 false (.tmp 34),none,0⟩,⟨(some 36),.lent (.tmp 35),none,0⟩,⟨(some 37),.bin .gtr (.tmp 36) (.const (.int .i64 24)),none,0⟩,⟨(some 33),.mv (.tmp 37),none,0⟩] none) (.cond (.tmp 33) (.seq (.reg 0 [⟨(some 2),.mv (.const (.int .i64 5)),none,0⟩] none) .ret) (.seq (.seq (.reg 0 [⟨(some 39),.fa 3 (.tmp 1),none,0⟩,⟨(some 40),.ld 1 false (.tmp 39),none,0⟩,⟨(some 41),.cl 62 [(.tmp 40)],none,0⟩,⟨(some 42),.un .not (.tmp 41),none,0⟩,⟨(some 38),.mv (.tmp 42),none,0⟩] none) (.cond (.tmp 38) .skip (.reg 0 [⟨(some 43),.mv (.tmp 3),none,0⟩,⟨(some 44),.bin .neq (.tmp 43) (.const (.string ⟨#[]⟩)),none,0⟩,⟨(some 45),.mv (.tmp 44),none,0⟩,⟨(some 46),.mv (.tmp 3),(some (45,true)),0⟩,⟨(some 47),.ixt (.tmp 46) (.const (.int .i64 0)),(some (45,true)),0⟩,⟨(some 48),.bin .eql (.tmp 47) (.const (.int .u8 117)),(some (45,true)),0⟩,⟨(some 49),.pick (.tmp 45) (.tmp 48) (.const (.bool false)),none,0⟩,⟨(some 50),.mv (.tmp 49),none,0⟩,⟨(some 51),.fa 1 (.tmp 1),(some (50,true)),0⟩,⟨(some 52),.ld 1 false (.tmp 51),(some (50,true)),0⟩,⟨(some 53),.cl 49 [(.tmp 52)],(some (50,true)),0⟩,⟨(some 54),.un .not (.tmp 53),(some (50,true)),0⟩,⟨(some 55),.pick (.tmp 50) (.tmp 54) (.const (.bool false)),none,0⟩,⟨(some 38),.mv (.tmp 55),none,0⟩] none))) (.cond (.tmp 38) (.seq (.reg 0 [⟨(some 2),.mv (.const (.int .i64 11)),none,0⟩] none) .ret) .skip))))))))))) (.seq (.reg 0 [⟨(some 56),.fa 2 (.tmp 1),none,0⟩,⟨(some 57),.ld 1 false (.tmp 56),none,0⟩,⟨(some 58),.cl 67 [(.tmp 57)],none,0⟩,⟨(some 2),.mv (.tmp 58),none,0⟩] none) .ret))))
theorem ac27_ok:compF Try.prog Try.f27=some (ac27,59,[.tmp 2]):=by unfold ac27;kernel_rfl
end Go.Proofs.Ytpmoioopjbfhkaa

/- stanza.Check in the abstract. -/
namespace Go.Proofs.Ytpmoioopjbfhkaa
open Go.RowKit
def zeroF (s:StzD) (c:UInt8):StzD:=if c=117 then { s with user:=⟨#[]⟩ } else if c=114 then { s with res:=⟨#[]⟩ } else if c=109 then { s with name:=⟨#[]⟩ } else if c=115 then { s with show_:=0 } else if c=112 then { s with prio:=0 } else if c=99 then { s with code:=0 } else { s with n:=0 }
def letV (c:UInt8):V:=if c=117 then .tup [.ptr 0 1,.i 33] else if c=114 then .tup [.ptr 0 2,.i 12] else if c=109 then .tup [.ptr 0 3,.i 24] else .tup [.lit (.pointer none),.i 0]
def numbV (c:UInt8):V:=if c=115 then .tup [.ptr 0 4,.i 1,.i 0] else if c=112 then .tup [.ptr 0 5,.i 1,.i 128] else if c=99 then .tup [.ptr 0 6,.i 1,.i 0] else .tup [.ptr 0 7,.i 6,.i 0]
theorem bytes_idlt (l:List UInt8):V.idlt.belowL 0 (l.map byteV)=true:=belowL_mem fun v hv=>by
 obtain ⟨b,_,rfl⟩:=List.mem_map.1 hv;rfl
attribute [local irreducible] AW Fin FinR seqQ blkQ regQ loopQ CallsV CallsS Callable
theorem text_s (c:UInt8) (s:StzD) (l:List UInt8) (hc:c=117∨c=114∨c=109∨c=115∨c=112∨c=99∨c=110):CallsS Try.prog 128 [.ptr 0 0,.u8 c] [.live (stzV s).cells 0] (letV c) [.live (stzV s).cells 0]:=by
 have hid:=bytes_idlt l
 refine callsR_comp mix Try.func128 ac128_ok rfl ?_
 unfold ac128
 simp only [List.length_cons,List.length_nil,List.replicate_succ,List.replicate_zero,List.cons_append,List.nil_append,Nat.reduceAdd,Nat.reduceSub]
 rcases hc with rfl | rfl | rfl | rfl | rfl | rfl | rfl
 all_goals (repeat' (first | ((try simp only [Nat.reduceAdd,Nat.reduceMul,Nat.zero_add,Nat.add_zero,Int.toNat_natCast,Int.reduceToNat,stzV]);refine hK' _ _ _ ?_;clear hK' K';first | refine q_regT ?_ | refine q_regD rfl ?_) | first | refine w_seq ?_ | refine q_seqN ?_ | (refine w_reg (by (try simp only [List.length_cons,List.length_nil,Nat.reduceAdd]);rfl) (by (try simp only [List.replicate_succ,List.replicate_zero,List.cons_append,List.nil_append,List.append_nil]);rfl) (fun K' hK'=>wpOps_ok ?_);conv=>whnf) | (refine w_condTst rfl ?_;(repeat refine Tst.not ?_);(first | refine Tst.T ?_ | refine Tst.F ?_ | refine Tst.decT (by assumption) ?_ | refine Tst.decF (by assumption) ?_ | refine Tst.eqT (by assumption) ?_ | refine Tst.eqF (by assumption) ?_ | refine Tst.neT (by assumption) ?_ | refine Tst.neF (by assumption) ?_ | refine Tst.isT (by assumption) ?_ | refine Tst.isF (by assumption) ?_ | refine Tst.dec (fun hb=>?_) (fun hb=>?_) | refine Tst.eqI (fun hb=>?_) (fun hb=>?_) | refine Tst.neI (fun hb=>?_) (fun hb=>?_) | refine Tst.not ?_ | refine Tst.any (fun hb=>?_) (fun hb=>?_)) <;> conv=>whnf) | refine w_ret ?_ | refine w_skip ?_ | refine w_blk ?_ | refine w_exit ?_ | refine q_seqR ?_ | refine q_seqE ?_ | refine q_blkN ?_ | refine q_blkR ?_ | refine q_blkH ?_ | refine q_blkE rfl ?_ | refine q_loopR ?_ | refine q_loopE ?_ | fail | first | (refine LenQ.ok ?_;conv=>whnf) | ((first | refine Tst.T ?_ | refine Tst.F ?_ | refine Tst.decT (by assumption) ?_ | refine Tst.decF (by assumption) ?_ | refine Tst.eqT (by assumption) ?_ | refine Tst.eqF (by assumption) ?_ | refine Tst.neT (by assumption) ?_ | refine Tst.neF (by assumption) ?_ | refine Tst.isT (by assumption) ?_ | refine Tst.isF (by assumption) ?_ | refine Tst.dec (fun hb=>?_) (fun hb=>?_) | refine Tst.eqI (fun hb=>?_) (fun hb=>?_) | refine Tst.neI (fun hb=>?_) (fun hb=>?_) | refine Tst.not ?_ | refine Tst.any (fun hb=>?_) (fun hb=>?_)) <;> conv=>whnf) | (refine Ari.ok (by omega) ?_;conv=>whnf) | (refine IxO.ok (by omega) (by omega) ?_;conv=>whnf) | (refine IxS.M (by omega) (by omega) (fun _=>rfl) ?_;conv=>whnf) | (refine ⟨Nat.le_of_ble_eq_true rfl,?_⟩;conv=>whnf) | (refine ⟨rfl,?_⟩;conv=>whnf) | (refine Cat.ok (by omega) ?_;conv=>whnf)))
 all_goals exact f_R0 (by simp) (ResL.cons (ResOne.tmp rfl) (ResL.cons (ResOne.tmp rfl) ResL.nil)) rfl rfl rfl rfl (by repeat' (first | exact trivial | refine wkS_f ?_ | refine wkS_d ?_ | refine ⟨rfl,?_⟩ | refine wkS_live0 (by assumption) ?_))
theorem number_s (c:UInt8) (s:StzD) (l:List UInt8) (hc:c=115∨c=112∨c=99∨c=110):CallsS Try.prog 129 [.ptr 0 0,.u8 c] [.live (stzV s).cells 0] (numbV c) [.live (stzV s).cells 0]:=by
 have hid:=bytes_idlt l
 refine callsR_comp mix Try.func129 ac129_ok rfl ?_
 unfold ac129
 simp only [List.length_cons,List.length_nil,List.replicate_succ,List.replicate_zero,List.cons_append,List.nil_append,Nat.reduceAdd,Nat.reduceSub]
 rcases hc with rfl | rfl | rfl | rfl
 all_goals (repeat' (first | ((try simp only [Nat.reduceAdd,Nat.reduceMul,Nat.zero_add,Nat.add_zero,Int.toNat_natCast,Int.reduceToNat,stzV]);refine hK' _ _ _ ?_;clear hK' K';first | refine q_regT ?_ | refine q_regD rfl ?_) | first | refine w_seq ?_ | refine q_seqN ?_ | (refine w_reg (by (try simp only [List.length_cons,List.length_nil,Nat.reduceAdd]);rfl) (by (try simp only [List.replicate_succ,List.replicate_zero,List.cons_append,List.nil_append,List.append_nil]);rfl) (fun K' hK'=>wpOps_ok ?_);conv=>whnf) | (refine w_condTst rfl ?_;(repeat refine Tst.not ?_);(first | refine Tst.T ?_ | refine Tst.F ?_ | refine Tst.decT (by assumption) ?_ | refine Tst.decF (by assumption) ?_ | refine Tst.eqT (by assumption) ?_ | refine Tst.eqF (by assumption) ?_ | refine Tst.neT (by assumption) ?_ | refine Tst.neF (by assumption) ?_ | refine Tst.isT (by assumption) ?_ | refine Tst.isF (by assumption) ?_ | refine Tst.dec (fun hb=>?_) (fun hb=>?_) | refine Tst.eqI (fun hb=>?_) (fun hb=>?_) | refine Tst.neI (fun hb=>?_) (fun hb=>?_) | refine Tst.not ?_ | refine Tst.any (fun hb=>?_) (fun hb=>?_)) <;> conv=>whnf) | refine w_ret ?_ | refine w_skip ?_ | refine w_blk ?_ | refine w_exit ?_ | refine q_seqR ?_ | refine q_seqE ?_ | refine q_blkN ?_ | refine q_blkR ?_ | refine q_blkH ?_ | refine q_blkE rfl ?_ | refine q_loopR ?_ | refine q_loopE ?_ | fail | first | (refine LenQ.ok ?_;conv=>whnf) | ((first | refine Tst.T ?_ | refine Tst.F ?_ | refine Tst.decT (by assumption) ?_ | refine Tst.decF (by assumption) ?_ | refine Tst.eqT (by assumption) ?_ | refine Tst.eqF (by assumption) ?_ | refine Tst.neT (by assumption) ?_ | refine Tst.neF (by assumption) ?_ | refine Tst.isT (by assumption) ?_ | refine Tst.isF (by assumption) ?_ | refine Tst.dec (fun hb=>?_) (fun hb=>?_) | refine Tst.eqI (fun hb=>?_) (fun hb=>?_) | refine Tst.neI (fun hb=>?_) (fun hb=>?_) | refine Tst.not ?_ | refine Tst.any (fun hb=>?_) (fun hb=>?_)) <;> conv=>whnf) | (refine Ari.ok (by omega) ?_;conv=>whnf) | (refine IxO.ok (by omega) (by omega) ?_;conv=>whnf) | (refine IxS.M (by omega) (by omega) (fun _=>rfl) ?_;conv=>whnf) | (refine ⟨Nat.le_of_ble_eq_true rfl,?_⟩;conv=>whnf) | (refine ⟨rfl,?_⟩;conv=>whnf) | (refine Cat.ok (by omega) ?_;conv=>whnf)))
 all_goals exact f_R0 (by simp) (ResL.cons (ResOne.tmp rfl) (ResL.cons (ResOne.tmp rfl) (ResL.cons (ResOne.tmp rfl) ResL.nil))) rfl rfl rfl rfl (by repeat' (first | exact trivial | refine wkS_f ?_ | refine wkS_d ?_ | refine ⟨rfl,?_⟩ | refine wkS_live0 (by assumption) ?_))
theorem bare1_s (s s' : StzD) (l:List UInt8) (off:Nat) (m:Int) (h:off=1∧s'={ s with user:=⟨#[]⟩ }∨off=2∧s'={ s with res:=⟨#[]⟩ }∨off=3∧s'={ s with name:=⟨#[]⟩ }):CallsS Try.prog 110 [.ptr 0 off,.i m] [.live (stzV s).cells 0] (.tup []) [.live (stzV s').cells 0]:=by
 have hid:=bytes_idlt l
 refine callsR_comp mix Try.func110 ac110_ok rfl ?_
 unfold ac110
 simp only [List.length_cons,List.length_nil,List.replicate_succ,List.replicate_zero,List.cons_append,List.nil_append,Nat.reduceAdd,Nat.reduceSub]
 rcases h with ⟨rfl,rfl⟩ | ⟨rfl,rfl⟩ | ⟨rfl,rfl⟩
 all_goals (repeat' (first | ((try simp only [Nat.reduceAdd,Nat.reduceMul,Nat.zero_add,Nat.add_zero,Int.toNat_natCast,Int.reduceToNat,stzV]);refine hK' _ _ _ ?_;clear hK' K';first | refine q_regT ?_ | refine q_regD rfl ?_) | first | refine w_seq ?_ | refine q_seqN ?_ | (refine w_reg (by (try simp only [List.length_cons,List.length_nil,Nat.reduceAdd]);rfl) (by (try simp only [List.replicate_succ,List.replicate_zero,List.cons_append,List.nil_append,List.append_nil]);rfl) (fun K' hK'=>wpOps_ok ?_);conv=>whnf) | (refine w_condTst rfl ?_;(repeat refine Tst.not ?_);(first | refine Tst.T ?_ | refine Tst.F ?_ | refine Tst.decT (by assumption) ?_ | refine Tst.decF (by assumption) ?_ | refine Tst.eqT (by assumption) ?_ | refine Tst.eqF (by assumption) ?_ | refine Tst.neT (by assumption) ?_ | refine Tst.neF (by assumption) ?_ | refine Tst.isT (by assumption) ?_ | refine Tst.isF (by assumption) ?_ | refine Tst.dec (fun hb=>?_) (fun hb=>?_) | refine Tst.eqI (fun hb=>?_) (fun hb=>?_) | refine Tst.neI (fun hb=>?_) (fun hb=>?_) | refine Tst.not ?_ | refine Tst.any (fun hb=>?_) (fun hb=>?_)) <;> conv=>whnf) | refine w_ret ?_ | refine w_skip ?_ | refine w_blk ?_ | refine w_exit ?_ | refine q_seqR ?_ | refine q_seqE ?_ | refine q_blkN ?_ | refine q_blkR ?_ | refine q_blkH ?_ | refine q_blkE rfl ?_ | refine q_loopR ?_ | refine q_loopE ?_ | fail | first | (refine LenQ.ok ?_;conv=>whnf) | ((first | refine Tst.T ?_ | refine Tst.F ?_ | refine Tst.decT (by assumption) ?_ | refine Tst.decF (by assumption) ?_ | refine Tst.eqT (by assumption) ?_ | refine Tst.eqF (by assumption) ?_ | refine Tst.neT (by assumption) ?_ | refine Tst.neF (by assumption) ?_ | refine Tst.isT (by assumption) ?_ | refine Tst.isF (by assumption) ?_ | refine Tst.dec (fun hb=>?_) (fun hb=>?_) | refine Tst.eqI (fun hb=>?_) (fun hb=>?_) | refine Tst.neI (fun hb=>?_) (fun hb=>?_) | refine Tst.not ?_ | refine Tst.any (fun hb=>?_) (fun hb=>?_)) <;> conv=>whnf) | (refine Ari.ok (by omega) ?_;conv=>whnf) | (refine IxO.ok (by omega) (by omega) ?_;conv=>whnf) | (refine IxS.M (by omega) (by omega) (fun _=>rfl) ?_;conv=>whnf) | (refine ⟨Nat.le_of_ble_eq_true rfl,?_⟩;conv=>whnf) | (refine ⟨rfl,?_⟩;conv=>whnf) | (refine Cat.ok (by omega) ?_;conv=>whnf)))
 all_goals exact f_R0 (by simp) .nil rfl rfl rfl rfl (by repeat' (first | exact trivial | refine wkS_f ?_ | refine wkS_d ?_ | refine ⟨rfl,?_⟩ | refine wkS_live0 (by assumption) ?_))
theorem bare2_s (s s' : StzD) (l:List UInt8) (off:Nat) (m m' : Int) (h:off=4∧s'={ s with show_:=0 }∨off=5∧s'={ s with prio:=0 }∨off=6∧s'={ s with code:=0 }∨off=7∧s'={ s with n:=0 }):CallsS Try.prog 111 [.ptr 0 off,.i m,.i m'] [.live (stzV s).cells 0] (.tup []) [.live (stzV s').cells 0]:=by
 have hid:=bytes_idlt l
 refine callsR_comp mix Try.func111 ac111_ok rfl ?_
 unfold ac111
 simp only [List.length_cons,List.length_nil,List.replicate_succ,List.replicate_zero,List.cons_append,List.nil_append,Nat.reduceAdd,Nat.reduceSub]
 rcases h with ⟨rfl,rfl⟩ | ⟨rfl,rfl⟩ | ⟨rfl,rfl⟩ | ⟨rfl,rfl⟩
 all_goals (repeat' (first | ((try simp only [Nat.reduceAdd,Nat.reduceMul,Nat.zero_add,Nat.add_zero,Int.toNat_natCast,Int.reduceToNat,stzV]);refine hK' _ _ _ ?_;clear hK' K';first | refine q_regT ?_ | refine q_regD rfl ?_) | first | refine w_seq ?_ | refine q_seqN ?_ | (refine w_reg (by (try simp only [List.length_cons,List.length_nil,Nat.reduceAdd]);rfl) (by (try simp only [List.replicate_succ,List.replicate_zero,List.cons_append,List.nil_append,List.append_nil]);rfl) (fun K' hK'=>wpOps_ok ?_);conv=>whnf) | (refine w_condTst rfl ?_;(repeat refine Tst.not ?_);(first | refine Tst.T ?_ | refine Tst.F ?_ | refine Tst.decT (by assumption) ?_ | refine Tst.decF (by assumption) ?_ | refine Tst.eqT (by assumption) ?_ | refine Tst.eqF (by assumption) ?_ | refine Tst.neT (by assumption) ?_ | refine Tst.neF (by assumption) ?_ | refine Tst.isT (by assumption) ?_ | refine Tst.isF (by assumption) ?_ | refine Tst.dec (fun hb=>?_) (fun hb=>?_) | refine Tst.eqI (fun hb=>?_) (fun hb=>?_) | refine Tst.neI (fun hb=>?_) (fun hb=>?_) | refine Tst.not ?_ | refine Tst.any (fun hb=>?_) (fun hb=>?_)) <;> conv=>whnf) | refine w_ret ?_ | refine w_skip ?_ | refine w_blk ?_ | refine w_exit ?_ | refine q_seqR ?_ | refine q_seqE ?_ | refine q_blkN ?_ | refine q_blkR ?_ | refine q_blkH ?_ | refine q_blkE rfl ?_ | refine q_loopR ?_ | refine q_loopE ?_ | fail | first | (refine LenQ.ok ?_;conv=>whnf) | ((first | refine Tst.T ?_ | refine Tst.F ?_ | refine Tst.decT (by assumption) ?_ | refine Tst.decF (by assumption) ?_ | refine Tst.eqT (by assumption) ?_ | refine Tst.eqF (by assumption) ?_ | refine Tst.neT (by assumption) ?_ | refine Tst.neF (by assumption) ?_ | refine Tst.isT (by assumption) ?_ | refine Tst.isF (by assumption) ?_ | refine Tst.dec (fun hb=>?_) (fun hb=>?_) | refine Tst.eqI (fun hb=>?_) (fun hb=>?_) | refine Tst.neI (fun hb=>?_) (fun hb=>?_) | refine Tst.not ?_ | refine Tst.any (fun hb=>?_) (fun hb=>?_)) <;> conv=>whnf) | (refine Ari.ok (by omega) ?_;conv=>whnf) | (refine IxO.ok (by omega) (by omega) ?_;conv=>whnf) | (refine IxS.M (by omega) (by omega) (fun _=>rfl) ?_;conv=>whnf) | (refine ⟨Nat.le_of_ble_eq_true rfl,?_⟩;conv=>whnf) | (refine ⟨rfl,?_⟩;conv=>whnf) | (refine Cat.ok (by omega) ?_;conv=>whnf)))
 all_goals exact f_R0 (by simp) .nil rfl rfl rfl rfl (by repeat' (first | exact trivial | refine wkS_f ?_ | refine wkS_d ?_ | refine ⟨rfl,?_⟩ | refine wkS_live0 (by assumption) ?_))
theorem bare1_ok:Callable Try.prog 110:=callable_comp Try.func110 ac110_ok (by kernel_rfl)
theorem bare2_ok:Callable Try.prog 111:=callable_comp Try.func111 ac111_ok (by kernel_rfl)
end Go.Proofs.Ytpmoioopjbfhkaa

/- stanza.Check in the abstract: each, bare, Check. -/
namespace Go.Proofs.Ytpmoioopjbfhkaa
open Go.RowKit
theorem ite_all {p:Prop} [Decidable p] {a b:List UInt8} {f:UInt8→Bool} (ha:a.all f=true) (hb:b.all f=true):(if p then a else b).all f=true:=by split <;> assumption
theorem hasN_in (k:Nat):∀ c ∈ hasN k,c=117∨c=114∨c=109∨c=115∨c=112∨c=99∨c=110:=by
 have h:(hasN k).all (fun c=>c == 117 || c == 114 || c == 109 || c == 115 || c == 112 || c == 99 || c == 110)=true:=by
  unfold hasN
  repeat' (refine ite_all ?_ ?_)
  all_goals rfl
 intro c hc
 have:=List.all_eq_true.1 h c hc
 simpa [or_assoc] using this
attribute [local irreducible] AW Fin FinR seqQ blkQ regQ loopQ CallsV CallsS Callable
theorem each_s (s:StzD):CallsS Try.prog 109 [.ptr 0 0,.clo (.func 110) [],.clo (.func 111) []] [.live (stzV s).cells 0] (.tup []) [.live (stzV ((hasN s.kind.toNat).foldl zeroF s)).cells 0]:=by
 have hc:=has_v s.kind
 have hl:=hasN_len s.kind.toNat
 have hin:=hasN_in s.kind.toNat
 have hb0:=ba_list (hasN s.kind.toNat)
 have hz:=ba_size (hasN s.kind.toNat)
 generalize hasN s.kind.toNat=L at *
 generalize ba L=u at *
 have hid:=bytes_idlt L
 refine callsR_comp mix Try.func109 ac109_ok rfl ?_
 unfold ac109
 simp only [List.length_cons,List.length_nil,List.replicate_succ,List.replicate_zero,List.cons_append,List.nil_append,Nat.reduceAdd,Nat.reduceSub]
 repeat' (first | ((try simp only [Nat.reduceAdd,Nat.reduceMul,Nat.zero_add,Nat.add_zero,Int.toNat_natCast,Int.reduceToNat,stzV]);refine hK' _ _ _ ?_;clear hK' K';first | refine q_regT ?_ | refine q_regD rfl ?_) | first | refine w_seq ?_ | refine q_seqN ?_ | (refine w_reg (by (try simp only [List.length_cons,List.length_nil,Nat.reduceAdd]);rfl) (by (try simp only [List.replicate_succ,List.replicate_zero,List.cons_append,List.nil_append,List.append_nil]);rfl) (fun K' hK'=>wpOps_ok ?_);conv=>whnf) | (refine w_condTst rfl ?_;(repeat refine Tst.not ?_);(first | refine Tst.T ?_ | refine Tst.F ?_ | refine Tst.decT (by assumption) ?_ | refine Tst.decF (by assumption) ?_ | refine Tst.eqT (by assumption) ?_ | refine Tst.eqF (by assumption) ?_ | refine Tst.neT (by assumption) ?_ | refine Tst.neF (by assumption) ?_ | refine Tst.isT (by assumption) ?_ | refine Tst.isF (by assumption) ?_ | refine Tst.dec (fun hb=>?_) (fun hb=>?_) | refine Tst.eqI (fun hb=>?_) (fun hb=>?_) | refine Tst.neI (fun hb=>?_) (fun hb=>?_) | refine Tst.not ?_ | refine Tst.any (fun hb=>?_) (fun hb=>?_)) <;> conv=>whnf) | refine w_ret ?_ | refine w_skip ?_ | refine w_blk ?_ | refine w_exit ?_ | refine q_seqR ?_ | refine q_seqE ?_ | refine q_blkN ?_ | refine q_blkR ?_ | refine q_blkH ?_ | refine q_blkE rfl ?_ | refine q_loopR ?_ | refine q_loopE ?_ | (refine Ask_V0 (hc) rfl rfl ?_;conv=>whnf) | first | (refine LenQ.ok ?_;conv=>whnf) | ((first | refine Tst.T ?_ | refine Tst.F ?_ | refine Tst.decT (by assumption) ?_ | refine Tst.decF (by assumption) ?_ | refine Tst.eqT (by assumption) ?_ | refine Tst.eqF (by assumption) ?_ | refine Tst.neT (by assumption) ?_ | refine Tst.neF (by assumption) ?_ | refine Tst.isT (by assumption) ?_ | refine Tst.isF (by assumption) ?_ | refine Tst.dec (fun hb=>?_) (fun hb=>?_) | refine Tst.eqI (fun hb=>?_) (fun hb=>?_) | refine Tst.neI (fun hb=>?_) (fun hb=>?_) | refine Tst.not ?_ | refine Tst.any (fun hb=>?_) (fun hb=>?_)) <;> conv=>whnf) | (refine Ari.ok (by omega) ?_;conv=>whnf) | (refine IxO.ok (by omega) (by omega) ?_;conv=>whnf) | (refine IxS.M (by omega) (by omega) (fun _=>rfl) ?_;conv=>whnf) | (refine ⟨Nat.le_of_ble_eq_true rfl,?_⟩;conv=>whnf) | (refine ⟨rfl,?_⟩;conv=>whnf) | (refine Cat.ok (by omega) ?_;conv=>whnf))
 try rw [hb0]
 try rw [hz]
 try simp only [List.length_map]
 refine w_loop [17] [7,8,9,18,19,20,21,22,23,24,25,26,27,28,29,30,31,32,33,34,35,36,37,38,39,40,41] (fun n vals st=>∃ k:Nat,k + n=L.length∧vals=[.i k]∧st=[.live (stzV ((L.take k).foldl zeroF s)).cells 0]) L.length 1 [] [.i 0] (by refine wk0_intro (by omega) (by simp only [setF,maskF,List.set_cons_zero,List.set_cons_succ];repeat' (first | exact trivial | refine ⟨?_,?_⟩ | exact .inr (.inl ⟨rfl,rfl,rfl⟩) | exact .inr (.inr ⟨rfl,rfl⟩) | exact .inl rfl)) rfl rfl (by repeat' (first | exact trivial | refine wkS_f ?_ | refine wkS_d ?_ | refine ⟨rfl,?_⟩ | refine wkS_live0 (by assumption) ?_))) ⟨0,by omega,rfl,rfl⟩ ?_
 rintro n vals st ⟨k,hk,rfl,rfl⟩
 simp only [setF,maskF,List.set_cons_zero,List.set_cons_succ]
 have hstep:∀ h:k < L.length,(L.take (k + 1)).foldl zeroF s=zeroF ((L.take k).foldl zeroF s) L[k]:=by
  intro h;rw [List.take_succ_eq_append_getElem h,List.foldl_append];rfl
 have hin2:∀ h:k < L.length,_:=fun h=>hin L[k] (List.getElem_mem h)
 generalize hq:(L.take k).foldl zeroF s=q at *
 simp only [putF,List.set_cons_zero,List.set_cons_succ,evO,List.getD_cons_zero,List.getD_cons_succ,V.ofValue,ofC,V.cells,partV,List.drop_zero,List.drop_succ_cons,List.take_succ_cons,List.take_zero,Nat.reduceAdd,Nat.reduceMul,Nat.zero_add,Nat.add_zero,if_true,if_false,Bool.false_eq_true,List.nil_append,List.cons_append,List.append_nil,List.map_cons,List.map_nil,stzV]
 repeat' (first | ((try simp only [Nat.reduceAdd,Nat.reduceMul,Nat.zero_add,Nat.add_zero,Int.toNat_natCast,Int.reduceToNat,stzV]);refine hK' _ _ _ ?_;clear hK' K';first | refine q_regT ?_ | refine q_regD rfl ?_) | first | refine w_seq ?_ | refine q_seqN ?_ | (refine w_reg (by (try simp only [List.length_cons,List.length_nil,Nat.reduceAdd]);rfl) (by (try simp only [List.replicate_succ,List.replicate_zero,List.cons_append,List.nil_append,List.append_nil]);rfl) (fun K' hK'=>wpOps_ok ?_);conv=>whnf) | (refine w_condTst rfl ?_;(repeat refine Tst.not ?_);(first | refine Tst.T ?_ | refine Tst.F ?_ | refine Tst.decT (by assumption) ?_ | refine Tst.decF (by assumption) ?_ | refine Tst.eqT (by assumption) ?_ | refine Tst.eqF (by assumption) ?_ | refine Tst.neT (by assumption) ?_ | refine Tst.neF (by assumption) ?_ | refine Tst.isT (by assumption) ?_ | refine Tst.isF (by assumption) ?_ | refine Tst.dec (fun hb=>?_) (fun hb=>?_) | refine Tst.eqI (fun hb=>?_) (fun hb=>?_) | refine Tst.neI (fun hb=>?_) (fun hb=>?_) | refine Tst.not ?_ | refine Tst.any (fun hb=>?_) (fun hb=>?_)) <;> conv=>whnf) | refine w_ret ?_ | refine w_skip ?_ | refine w_blk ?_ | refine w_exit ?_ | refine q_seqR ?_ | refine q_seqE ?_ | refine q_blkN ?_ | refine q_blkR ?_ | refine q_blkH ?_ | refine q_blkE rfl ?_ | refine q_loopR ?_ | refine q_loopE ?_ | fail | first | (refine LenQ.ok ?_;conv=>whnf) | ((first | refine Tst.T ?_ | refine Tst.F ?_ | refine Tst.decT (by assumption) ?_ | refine Tst.decF (by assumption) ?_ | refine Tst.eqT (by assumption) ?_ | refine Tst.eqF (by assumption) ?_ | refine Tst.neT (by assumption) ?_ | refine Tst.neF (by assumption) ?_ | refine Tst.isT (by assumption) ?_ | refine Tst.isF (by assumption) ?_ | refine Tst.dec (fun hb=>?_) (fun hb=>?_) | refine Tst.eqI (fun hb=>?_) (fun hb=>?_) | refine Tst.neI (fun hb=>?_) (fun hb=>?_) | refine Tst.not ?_ | refine Tst.any (fun hb=>?_) (fun hb=>?_)) <;> conv=>whnf) | (refine Ari.ok (by omega) ?_;conv=>whnf) | (refine IxO.ok (by omega) (by omega) ?_;conv=>whnf) | (refine IxS.M (by omega) (by omega) (fun _=>rfl) ?_;conv=>whnf) | (refine ⟨Nat.le_of_ble_eq_true rfl,?_⟩;conv=>whnf) | (refine ⟨rfl,?_⟩;conv=>whnf) | (refine Cat.ok (by omega) ?_;conv=>whnf))
 ·have hlt:k < L.length:=by omega
  replace hstep:=hstep hlt
  have hi:=hin2 hlt
  generalize L[k]=c at hstep hi ⊢
  rcases hi with rfl | rfl | rfl | rfl | rfl | rfl | rfl
  ·repeat' (first | ((try simp only [Nat.reduceAdd,Nat.reduceMul,Nat.zero_add,Nat.add_zero,Int.toNat_natCast,Int.reduceToNat,stzV]);refine hK' _ _ _ ?_;clear hK' K';first | refine q_regT ?_ | refine q_regD rfl ?_) | first | refine w_seq ?_ | refine q_seqN ?_ | (refine w_reg (by (try simp only [List.length_cons,List.length_nil,Nat.reduceAdd]);rfl) (by (try simp only [List.replicate_succ,List.replicate_zero,List.cons_append,List.nil_append,List.append_nil]);rfl) (fun K' hK'=>wpOps_ok ?_);conv=>whnf) | (refine w_condTst rfl ?_;(repeat refine Tst.not ?_);(first | refine Tst.T ?_ | refine Tst.F ?_ | refine Tst.decT (by assumption) ?_ | refine Tst.decF (by assumption) ?_ | refine Tst.eqT (by assumption) ?_ | refine Tst.eqF (by assumption) ?_ | refine Tst.neT (by assumption) ?_ | refine Tst.neF (by assumption) ?_ | refine Tst.isT (by assumption) ?_ | refine Tst.isF (by assumption) ?_ | refine Tst.dec (fun hb=>?_) (fun hb=>?_) | refine Tst.eqI (fun hb=>?_) (fun hb=>?_) | refine Tst.neI (fun hb=>?_) (fun hb=>?_) | refine Tst.not ?_ | refine Tst.any (fun hb=>?_) (fun hb=>?_)) <;> conv=>whnf) | refine w_ret ?_ | refine w_skip ?_ | refine w_blk ?_ | refine w_exit ?_ | refine q_seqR ?_ | refine q_seqE ?_ | refine q_blkN ?_ | refine q_blkR ?_ | refine q_blkH ?_ | refine q_blkE rfl ?_ | refine q_loopR ?_ | refine q_loopE ?_ | (refine Ask_S (text_s _ q L (by decide)) rfl ?_;conv=>whnf) | (refine ⟨bare1_ok,?_⟩;conv=>whnf) | (refine Ask_S (bare1_s q _ L _ _ (.inl ⟨rfl,rfl⟩)) rfl ?_;conv=>whnf) | first | (refine LenQ.ok ?_;conv=>whnf) | ((first | refine Tst.T ?_ | refine Tst.F ?_ | refine Tst.decT (by assumption) ?_ | refine Tst.decF (by assumption) ?_ | refine Tst.eqT (by assumption) ?_ | refine Tst.eqF (by assumption) ?_ | refine Tst.neT (by assumption) ?_ | refine Tst.neF (by assumption) ?_ | refine Tst.isT (by assumption) ?_ | refine Tst.isF (by assumption) ?_ | refine Tst.dec (fun hb=>?_) (fun hb=>?_) | refine Tst.eqI (fun hb=>?_) (fun hb=>?_) | refine Tst.neI (fun hb=>?_) (fun hb=>?_) | refine Tst.not ?_ | refine Tst.any (fun hb=>?_) (fun hb=>?_)) <;> conv=>whnf) | (refine Ari.ok (by omega) ?_;conv=>whnf) | (refine IxO.ok (by omega) (by omega) ?_;conv=>whnf) | (refine IxS.M (by omega) (by omega) (fun _=>rfl) ?_;conv=>whnf) | (refine ⟨Nat.le_of_ble_eq_true rfl,?_⟩;conv=>whnf) | (refine ⟨rfl,?_⟩;conv=>whnf) | (refine Cat.ok (by omega) ?_;conv=>whnf))
   exact q_loop (n - 1) 1 [] [_] (by omega) (by refine wk0_intro (by omega) (by simp only [setF,maskF,List.set_cons_zero,List.set_cons_succ];repeat' (first | exact trivial | refine ⟨?_,?_⟩ | exact .inr (.inl ⟨rfl,rfl,rfl⟩) | exact .inr (.inr ⟨rfl,rfl⟩) | exact .inl rfl)) rfl rfl (by repeat' (first | exact trivial | refine wkS_f ?_ | refine wkS_d ?_ | refine ⟨rfl,?_⟩ | refine wkS_live0 (by assumption) ?_))) ⟨k + 1,by omega,rfl,by rw [hstep];rfl⟩
  ·repeat' (first | ((try simp only [Nat.reduceAdd,Nat.reduceMul,Nat.zero_add,Nat.add_zero,Int.toNat_natCast,Int.reduceToNat,stzV]);refine hK' _ _ _ ?_;clear hK' K';first | refine q_regT ?_ | refine q_regD rfl ?_) | first | refine w_seq ?_ | refine q_seqN ?_ | (refine w_reg (by (try simp only [List.length_cons,List.length_nil,Nat.reduceAdd]);rfl) (by (try simp only [List.replicate_succ,List.replicate_zero,List.cons_append,List.nil_append,List.append_nil]);rfl) (fun K' hK'=>wpOps_ok ?_);conv=>whnf) | (refine w_condTst rfl ?_;(repeat refine Tst.not ?_);(first | refine Tst.T ?_ | refine Tst.F ?_ | refine Tst.decT (by assumption) ?_ | refine Tst.decF (by assumption) ?_ | refine Tst.eqT (by assumption) ?_ | refine Tst.eqF (by assumption) ?_ | refine Tst.neT (by assumption) ?_ | refine Tst.neF (by assumption) ?_ | refine Tst.isT (by assumption) ?_ | refine Tst.isF (by assumption) ?_ | refine Tst.dec (fun hb=>?_) (fun hb=>?_) | refine Tst.eqI (fun hb=>?_) (fun hb=>?_) | refine Tst.neI (fun hb=>?_) (fun hb=>?_) | refine Tst.not ?_ | refine Tst.any (fun hb=>?_) (fun hb=>?_)) <;> conv=>whnf) | refine w_ret ?_ | refine w_skip ?_ | refine w_blk ?_ | refine w_exit ?_ | refine q_seqR ?_ | refine q_seqE ?_ | refine q_blkN ?_ | refine q_blkR ?_ | refine q_blkH ?_ | refine q_blkE rfl ?_ | refine q_loopR ?_ | refine q_loopE ?_ | (refine Ask_S (text_s _ q L (by decide)) rfl ?_;conv=>whnf) | (refine ⟨bare1_ok,?_⟩;conv=>whnf) | (refine Ask_S (bare1_s q _ L _ _ (.inr (.inl ⟨rfl,rfl⟩))) rfl ?_;conv=>whnf) | first | (refine LenQ.ok ?_;conv=>whnf) | ((first | refine Tst.T ?_ | refine Tst.F ?_ | refine Tst.decT (by assumption) ?_ | refine Tst.decF (by assumption) ?_ | refine Tst.eqT (by assumption) ?_ | refine Tst.eqF (by assumption) ?_ | refine Tst.neT (by assumption) ?_ | refine Tst.neF (by assumption) ?_ | refine Tst.isT (by assumption) ?_ | refine Tst.isF (by assumption) ?_ | refine Tst.dec (fun hb=>?_) (fun hb=>?_) | refine Tst.eqI (fun hb=>?_) (fun hb=>?_) | refine Tst.neI (fun hb=>?_) (fun hb=>?_) | refine Tst.not ?_ | refine Tst.any (fun hb=>?_) (fun hb=>?_)) <;> conv=>whnf) | (refine Ari.ok (by omega) ?_;conv=>whnf) | (refine IxO.ok (by omega) (by omega) ?_;conv=>whnf) | (refine IxS.M (by omega) (by omega) (fun _=>rfl) ?_;conv=>whnf) | (refine ⟨Nat.le_of_ble_eq_true rfl,?_⟩;conv=>whnf) | (refine ⟨rfl,?_⟩;conv=>whnf) | (refine Cat.ok (by omega) ?_;conv=>whnf))
   exact q_loop (n - 1) 1 [] [_] (by omega) (by refine wk0_intro (by omega) (by simp only [setF,maskF,List.set_cons_zero,List.set_cons_succ];repeat' (first | exact trivial | refine ⟨?_,?_⟩ | exact .inr (.inl ⟨rfl,rfl,rfl⟩) | exact .inr (.inr ⟨rfl,rfl⟩) | exact .inl rfl)) rfl rfl (by repeat' (first | exact trivial | refine wkS_f ?_ | refine wkS_d ?_ | refine ⟨rfl,?_⟩ | refine wkS_live0 (by assumption) ?_))) ⟨k + 1,by omega,rfl,by rw [hstep];rfl⟩
  ·repeat' (first | ((try simp only [Nat.reduceAdd,Nat.reduceMul,Nat.zero_add,Nat.add_zero,Int.toNat_natCast,Int.reduceToNat,stzV]);refine hK' _ _ _ ?_;clear hK' K';first | refine q_regT ?_ | refine q_regD rfl ?_) | first | refine w_seq ?_ | refine q_seqN ?_ | (refine w_reg (by (try simp only [List.length_cons,List.length_nil,Nat.reduceAdd]);rfl) (by (try simp only [List.replicate_succ,List.replicate_zero,List.cons_append,List.nil_append,List.append_nil]);rfl) (fun K' hK'=>wpOps_ok ?_);conv=>whnf) | (refine w_condTst rfl ?_;(repeat refine Tst.not ?_);(first | refine Tst.T ?_ | refine Tst.F ?_ | refine Tst.decT (by assumption) ?_ | refine Tst.decF (by assumption) ?_ | refine Tst.eqT (by assumption) ?_ | refine Tst.eqF (by assumption) ?_ | refine Tst.neT (by assumption) ?_ | refine Tst.neF (by assumption) ?_ | refine Tst.isT (by assumption) ?_ | refine Tst.isF (by assumption) ?_ | refine Tst.dec (fun hb=>?_) (fun hb=>?_) | refine Tst.eqI (fun hb=>?_) (fun hb=>?_) | refine Tst.neI (fun hb=>?_) (fun hb=>?_) | refine Tst.not ?_ | refine Tst.any (fun hb=>?_) (fun hb=>?_)) <;> conv=>whnf) | refine w_ret ?_ | refine w_skip ?_ | refine w_blk ?_ | refine w_exit ?_ | refine q_seqR ?_ | refine q_seqE ?_ | refine q_blkN ?_ | refine q_blkR ?_ | refine q_blkH ?_ | refine q_blkE rfl ?_ | refine q_loopR ?_ | refine q_loopE ?_ | (refine Ask_S (text_s _ q L (by decide)) rfl ?_;conv=>whnf) | (refine ⟨bare1_ok,?_⟩;conv=>whnf) | (refine Ask_S (bare1_s q _ L _ _ (.inr (.inr ⟨rfl,rfl⟩))) rfl ?_;conv=>whnf) | first | (refine LenQ.ok ?_;conv=>whnf) | ((first | refine Tst.T ?_ | refine Tst.F ?_ | refine Tst.decT (by assumption) ?_ | refine Tst.decF (by assumption) ?_ | refine Tst.eqT (by assumption) ?_ | refine Tst.eqF (by assumption) ?_ | refine Tst.neT (by assumption) ?_ | refine Tst.neF (by assumption) ?_ | refine Tst.isT (by assumption) ?_ | refine Tst.isF (by assumption) ?_ | refine Tst.dec (fun hb=>?_) (fun hb=>?_) | refine Tst.eqI (fun hb=>?_) (fun hb=>?_) | refine Tst.neI (fun hb=>?_) (fun hb=>?_) | refine Tst.not ?_ | refine Tst.any (fun hb=>?_) (fun hb=>?_)) <;> conv=>whnf) | (refine Ari.ok (by omega) ?_;conv=>whnf) | (refine IxO.ok (by omega) (by omega) ?_;conv=>whnf) | (refine IxS.M (by omega) (by omega) (fun _=>rfl) ?_;conv=>whnf) | (refine ⟨Nat.le_of_ble_eq_true rfl,?_⟩;conv=>whnf) | (refine ⟨rfl,?_⟩;conv=>whnf) | (refine Cat.ok (by omega) ?_;conv=>whnf))
   exact q_loop (n - 1) 1 [] [_] (by omega) (by refine wk0_intro (by omega) (by simp only [setF,maskF,List.set_cons_zero,List.set_cons_succ];repeat' (first | exact trivial | refine ⟨?_,?_⟩ | exact .inr (.inl ⟨rfl,rfl,rfl⟩) | exact .inr (.inr ⟨rfl,rfl⟩) | exact .inl rfl)) rfl rfl (by repeat' (first | exact trivial | refine wkS_f ?_ | refine wkS_d ?_ | refine ⟨rfl,?_⟩ | refine wkS_live0 (by assumption) ?_))) ⟨k + 1,by omega,rfl,by rw [hstep];rfl⟩
  ·repeat' (first | ((try simp only [Nat.reduceAdd,Nat.reduceMul,Nat.zero_add,Nat.add_zero,Int.toNat_natCast,Int.reduceToNat,stzV]);refine hK' _ _ _ ?_;clear hK' K';first | refine q_regT ?_ | refine q_regD rfl ?_) | first | refine w_seq ?_ | refine q_seqN ?_ | (refine w_reg (by (try simp only [List.length_cons,List.length_nil,Nat.reduceAdd]);rfl) (by (try simp only [List.replicate_succ,List.replicate_zero,List.cons_append,List.nil_append,List.append_nil]);rfl) (fun K' hK'=>wpOps_ok ?_);conv=>whnf) | (refine w_condTst rfl ?_;(repeat refine Tst.not ?_);(first | refine Tst.T ?_ | refine Tst.F ?_ | refine Tst.decT (by assumption) ?_ | refine Tst.decF (by assumption) ?_ | refine Tst.eqT (by assumption) ?_ | refine Tst.eqF (by assumption) ?_ | refine Tst.neT (by assumption) ?_ | refine Tst.neF (by assumption) ?_ | refine Tst.isT (by assumption) ?_ | refine Tst.isF (by assumption) ?_ | refine Tst.dec (fun hb=>?_) (fun hb=>?_) | refine Tst.eqI (fun hb=>?_) (fun hb=>?_) | refine Tst.neI (fun hb=>?_) (fun hb=>?_) | refine Tst.not ?_ | refine Tst.any (fun hb=>?_) (fun hb=>?_)) <;> conv=>whnf) | refine w_ret ?_ | refine w_skip ?_ | refine w_blk ?_ | refine w_exit ?_ | refine q_seqR ?_ | refine q_seqE ?_ | refine q_blkN ?_ | refine q_blkR ?_ | refine q_blkH ?_ | refine q_blkE rfl ?_ | refine q_loopR ?_ | refine q_loopE ?_ | (refine Ask_S (text_s _ q L (by decide)) rfl ?_;conv=>whnf) | (refine Ask_S (number_s _ q L (by decide)) rfl ?_;conv=>whnf) | (refine ⟨bare2_ok,?_⟩;conv=>whnf) | (refine Ask_S (bare2_s q _ L _ _ _ (.inl ⟨rfl,rfl⟩)) rfl ?_;conv=>whnf) | first | (refine LenQ.ok ?_;conv=>whnf) | ((first | refine Tst.T ?_ | refine Tst.F ?_ | refine Tst.decT (by assumption) ?_ | refine Tst.decF (by assumption) ?_ | refine Tst.eqT (by assumption) ?_ | refine Tst.eqF (by assumption) ?_ | refine Tst.neT (by assumption) ?_ | refine Tst.neF (by assumption) ?_ | refine Tst.isT (by assumption) ?_ | refine Tst.isF (by assumption) ?_ | refine Tst.dec (fun hb=>?_) (fun hb=>?_) | refine Tst.eqI (fun hb=>?_) (fun hb=>?_) | refine Tst.neI (fun hb=>?_) (fun hb=>?_) | refine Tst.not ?_ | refine Tst.any (fun hb=>?_) (fun hb=>?_)) <;> conv=>whnf) | (refine Ari.ok (by omega) ?_;conv=>whnf) | (refine IxO.ok (by omega) (by omega) ?_;conv=>whnf) | (refine IxS.M (by omega) (by omega) (fun _=>rfl) ?_;conv=>whnf) | (refine ⟨Nat.le_of_ble_eq_true rfl,?_⟩;conv=>whnf) | (refine ⟨rfl,?_⟩;conv=>whnf) | (refine Cat.ok (by omega) ?_;conv=>whnf))
   exact q_loop (n - 1) 1 [] [_] (by omega) (by refine wk0_intro (by omega) (by simp only [setF,maskF,List.set_cons_zero,List.set_cons_succ];repeat' (first | exact trivial | refine ⟨?_,?_⟩ | exact .inr (.inl ⟨rfl,rfl,rfl⟩) | exact .inr (.inr ⟨rfl,rfl⟩) | exact .inl rfl)) rfl rfl (by repeat' (first | exact trivial | refine wkS_f ?_ | refine wkS_d ?_ | refine ⟨rfl,?_⟩ | refine wkS_live0 (by assumption) ?_))) ⟨k + 1,by omega,rfl,by rw [hstep];rfl⟩
  ·repeat' (first | ((try simp only [Nat.reduceAdd,Nat.reduceMul,Nat.zero_add,Nat.add_zero,Int.toNat_natCast,Int.reduceToNat,stzV]);refine hK' _ _ _ ?_;clear hK' K';first | refine q_regT ?_ | refine q_regD rfl ?_) | first | refine w_seq ?_ | refine q_seqN ?_ | (refine w_reg (by (try simp only [List.length_cons,List.length_nil,Nat.reduceAdd]);rfl) (by (try simp only [List.replicate_succ,List.replicate_zero,List.cons_append,List.nil_append,List.append_nil]);rfl) (fun K' hK'=>wpOps_ok ?_);conv=>whnf) | (refine w_condTst rfl ?_;(repeat refine Tst.not ?_);(first | refine Tst.T ?_ | refine Tst.F ?_ | refine Tst.decT (by assumption) ?_ | refine Tst.decF (by assumption) ?_ | refine Tst.eqT (by assumption) ?_ | refine Tst.eqF (by assumption) ?_ | refine Tst.neT (by assumption) ?_ | refine Tst.neF (by assumption) ?_ | refine Tst.isT (by assumption) ?_ | refine Tst.isF (by assumption) ?_ | refine Tst.dec (fun hb=>?_) (fun hb=>?_) | refine Tst.eqI (fun hb=>?_) (fun hb=>?_) | refine Tst.neI (fun hb=>?_) (fun hb=>?_) | refine Tst.not ?_ | refine Tst.any (fun hb=>?_) (fun hb=>?_)) <;> conv=>whnf) | refine w_ret ?_ | refine w_skip ?_ | refine w_blk ?_ | refine w_exit ?_ | refine q_seqR ?_ | refine q_seqE ?_ | refine q_blkN ?_ | refine q_blkR ?_ | refine q_blkH ?_ | refine q_blkE rfl ?_ | refine q_loopR ?_ | refine q_loopE ?_ | (refine Ask_S (text_s _ q L (by decide)) rfl ?_;conv=>whnf) | (refine Ask_S (number_s _ q L (by decide)) rfl ?_;conv=>whnf) | (refine ⟨bare2_ok,?_⟩;conv=>whnf) | (refine Ask_S (bare2_s q _ L _ _ _ (.inr (.inl ⟨rfl,rfl⟩))) rfl ?_;conv=>whnf) | first | (refine LenQ.ok ?_;conv=>whnf) | ((first | refine Tst.T ?_ | refine Tst.F ?_ | refine Tst.decT (by assumption) ?_ | refine Tst.decF (by assumption) ?_ | refine Tst.eqT (by assumption) ?_ | refine Tst.eqF (by assumption) ?_ | refine Tst.neT (by assumption) ?_ | refine Tst.neF (by assumption) ?_ | refine Tst.isT (by assumption) ?_ | refine Tst.isF (by assumption) ?_ | refine Tst.dec (fun hb=>?_) (fun hb=>?_) | refine Tst.eqI (fun hb=>?_) (fun hb=>?_) | refine Tst.neI (fun hb=>?_) (fun hb=>?_) | refine Tst.not ?_ | refine Tst.any (fun hb=>?_) (fun hb=>?_)) <;> conv=>whnf) | (refine Ari.ok (by omega) ?_;conv=>whnf) | (refine IxO.ok (by omega) (by omega) ?_;conv=>whnf) | (refine IxS.M (by omega) (by omega) (fun _=>rfl) ?_;conv=>whnf) | (refine ⟨Nat.le_of_ble_eq_true rfl,?_⟩;conv=>whnf) | (refine ⟨rfl,?_⟩;conv=>whnf) | (refine Cat.ok (by omega) ?_;conv=>whnf))
   exact q_loop (n - 1) 1 [] [_] (by omega) (by refine wk0_intro (by omega) (by simp only [setF,maskF,List.set_cons_zero,List.set_cons_succ];repeat' (first | exact trivial | refine ⟨?_,?_⟩ | exact .inr (.inl ⟨rfl,rfl,rfl⟩) | exact .inr (.inr ⟨rfl,rfl⟩) | exact .inl rfl)) rfl rfl (by repeat' (first | exact trivial | refine wkS_f ?_ | refine wkS_d ?_ | refine ⟨rfl,?_⟩ | refine wkS_live0 (by assumption) ?_))) ⟨k + 1,by omega,rfl,by rw [hstep];rfl⟩
  ·repeat' (first | ((try simp only [Nat.reduceAdd,Nat.reduceMul,Nat.zero_add,Nat.add_zero,Int.toNat_natCast,Int.reduceToNat,stzV]);refine hK' _ _ _ ?_;clear hK' K';first | refine q_regT ?_ | refine q_regD rfl ?_) | first | refine w_seq ?_ | refine q_seqN ?_ | (refine w_reg (by (try simp only [List.length_cons,List.length_nil,Nat.reduceAdd]);rfl) (by (try simp only [List.replicate_succ,List.replicate_zero,List.cons_append,List.nil_append,List.append_nil]);rfl) (fun K' hK'=>wpOps_ok ?_);conv=>whnf) | (refine w_condTst rfl ?_;(repeat refine Tst.not ?_);(first | refine Tst.T ?_ | refine Tst.F ?_ | refine Tst.decT (by assumption) ?_ | refine Tst.decF (by assumption) ?_ | refine Tst.eqT (by assumption) ?_ | refine Tst.eqF (by assumption) ?_ | refine Tst.neT (by assumption) ?_ | refine Tst.neF (by assumption) ?_ | refine Tst.isT (by assumption) ?_ | refine Tst.isF (by assumption) ?_ | refine Tst.dec (fun hb=>?_) (fun hb=>?_) | refine Tst.eqI (fun hb=>?_) (fun hb=>?_) | refine Tst.neI (fun hb=>?_) (fun hb=>?_) | refine Tst.not ?_ | refine Tst.any (fun hb=>?_) (fun hb=>?_)) <;> conv=>whnf) | refine w_ret ?_ | refine w_skip ?_ | refine w_blk ?_ | refine w_exit ?_ | refine q_seqR ?_ | refine q_seqE ?_ | refine q_blkN ?_ | refine q_blkR ?_ | refine q_blkH ?_ | refine q_blkE rfl ?_ | refine q_loopR ?_ | refine q_loopE ?_ | (refine Ask_S (text_s _ q L (by decide)) rfl ?_;conv=>whnf) | (refine Ask_S (number_s _ q L (by decide)) rfl ?_;conv=>whnf) | (refine ⟨bare2_ok,?_⟩;conv=>whnf) | (refine Ask_S (bare2_s q _ L _ _ _ (.inr (.inr (.inl ⟨rfl,rfl⟩)))) rfl ?_;conv=>whnf) | first | (refine LenQ.ok ?_;conv=>whnf) | ((first | refine Tst.T ?_ | refine Tst.F ?_ | refine Tst.decT (by assumption) ?_ | refine Tst.decF (by assumption) ?_ | refine Tst.eqT (by assumption) ?_ | refine Tst.eqF (by assumption) ?_ | refine Tst.neT (by assumption) ?_ | refine Tst.neF (by assumption) ?_ | refine Tst.isT (by assumption) ?_ | refine Tst.isF (by assumption) ?_ | refine Tst.dec (fun hb=>?_) (fun hb=>?_) | refine Tst.eqI (fun hb=>?_) (fun hb=>?_) | refine Tst.neI (fun hb=>?_) (fun hb=>?_) | refine Tst.not ?_ | refine Tst.any (fun hb=>?_) (fun hb=>?_)) <;> conv=>whnf) | (refine Ari.ok (by omega) ?_;conv=>whnf) | (refine IxO.ok (by omega) (by omega) ?_;conv=>whnf) | (refine IxS.M (by omega) (by omega) (fun _=>rfl) ?_;conv=>whnf) | (refine ⟨Nat.le_of_ble_eq_true rfl,?_⟩;conv=>whnf) | (refine ⟨rfl,?_⟩;conv=>whnf) | (refine Cat.ok (by omega) ?_;conv=>whnf))
   exact q_loop (n - 1) 1 [] [_] (by omega) (by refine wk0_intro (by omega) (by simp only [setF,maskF,List.set_cons_zero,List.set_cons_succ];repeat' (first | exact trivial | refine ⟨?_,?_⟩ | exact .inr (.inl ⟨rfl,rfl,rfl⟩) | exact .inr (.inr ⟨rfl,rfl⟩) | exact .inl rfl)) rfl rfl (by repeat' (first | exact trivial | refine wkS_f ?_ | refine wkS_d ?_ | refine ⟨rfl,?_⟩ | refine wkS_live0 (by assumption) ?_))) ⟨k + 1,by omega,rfl,by rw [hstep];rfl⟩
  ·repeat' (first | ((try simp only [Nat.reduceAdd,Nat.reduceMul,Nat.zero_add,Nat.add_zero,Int.toNat_natCast,Int.reduceToNat,stzV]);refine hK' _ _ _ ?_;clear hK' K';first | refine q_regT ?_ | refine q_regD rfl ?_) | first | refine w_seq ?_ | refine q_seqN ?_ | (refine w_reg (by (try simp only [List.length_cons,List.length_nil,Nat.reduceAdd]);rfl) (by (try simp only [List.replicate_succ,List.replicate_zero,List.cons_append,List.nil_append,List.append_nil]);rfl) (fun K' hK'=>wpOps_ok ?_);conv=>whnf) | (refine w_condTst rfl ?_;(repeat refine Tst.not ?_);(first | refine Tst.T ?_ | refine Tst.F ?_ | refine Tst.decT (by assumption) ?_ | refine Tst.decF (by assumption) ?_ | refine Tst.eqT (by assumption) ?_ | refine Tst.eqF (by assumption) ?_ | refine Tst.neT (by assumption) ?_ | refine Tst.neF (by assumption) ?_ | refine Tst.isT (by assumption) ?_ | refine Tst.isF (by assumption) ?_ | refine Tst.dec (fun hb=>?_) (fun hb=>?_) | refine Tst.eqI (fun hb=>?_) (fun hb=>?_) | refine Tst.neI (fun hb=>?_) (fun hb=>?_) | refine Tst.not ?_ | refine Tst.any (fun hb=>?_) (fun hb=>?_)) <;> conv=>whnf) | refine w_ret ?_ | refine w_skip ?_ | refine w_blk ?_ | refine w_exit ?_ | refine q_seqR ?_ | refine q_seqE ?_ | refine q_blkN ?_ | refine q_blkR ?_ | refine q_blkH ?_ | refine q_blkE rfl ?_ | refine q_loopR ?_ | refine q_loopE ?_ | (refine Ask_S (text_s _ q L (by decide)) rfl ?_;conv=>whnf) | (refine Ask_S (number_s _ q L (by decide)) rfl ?_;conv=>whnf) | (refine ⟨bare2_ok,?_⟩;conv=>whnf) | (refine Ask_S (bare2_s q _ L _ _ _ (.inr (.inr (.inr ⟨rfl,rfl⟩)))) rfl ?_;conv=>whnf) | first | (refine LenQ.ok ?_;conv=>whnf) | ((first | refine Tst.T ?_ | refine Tst.F ?_ | refine Tst.decT (by assumption) ?_ | refine Tst.decF (by assumption) ?_ | refine Tst.eqT (by assumption) ?_ | refine Tst.eqF (by assumption) ?_ | refine Tst.neT (by assumption) ?_ | refine Tst.neF (by assumption) ?_ | refine Tst.isT (by assumption) ?_ | refine Tst.isF (by assumption) ?_ | refine Tst.dec (fun hb=>?_) (fun hb=>?_) | refine Tst.eqI (fun hb=>?_) (fun hb=>?_) | refine Tst.neI (fun hb=>?_) (fun hb=>?_) | refine Tst.not ?_ | refine Tst.any (fun hb=>?_) (fun hb=>?_)) <;> conv=>whnf) | (refine Ari.ok (by omega) ?_;conv=>whnf) | (refine IxO.ok (by omega) (by omega) ?_;conv=>whnf) | (refine IxS.M (by omega) (by omega) (fun _=>rfl) ?_;conv=>whnf) | (refine ⟨Nat.le_of_ble_eq_true rfl,?_⟩;conv=>whnf) | (refine ⟨rfl,?_⟩;conv=>whnf) | (refine Cat.ok (by omega) ?_;conv=>whnf))
   exact q_loop (n - 1) 1 [] [_] (by omega) (by refine wk0_intro (by omega) (by simp only [setF,maskF,List.set_cons_zero,List.set_cons_succ];repeat' (first | exact trivial | refine ⟨?_,?_⟩ | exact .inr (.inl ⟨rfl,rfl,rfl⟩) | exact .inr (.inr ⟨rfl,rfl⟩) | exact .inl rfl)) rfl rfl (by repeat' (first | exact trivial | refine wkS_f ?_ | refine wkS_d ?_ | refine ⟨rfl,?_⟩ | refine wkS_live0 (by assumption) ?_))) ⟨k + 1,by omega,rfl,by rw [hstep];rfl⟩
 ·have hkl:k=L.length:=by omega
  subst hkl
  rw [List.take_length] at hq
  rw [hq]
  exact f_R0 (by simp) .nil rfl rfl rfl rfl (by repeat' (first | exact trivial | refine wkS_f ?_ | refine wkS_d ?_ | refine ⟨rfl,?_⟩ | refine wkS_live0 (by assumption) ?_))
end Go.Proofs.Ytpmoioopjbfhkaa

/- stanza.Check in the abstract: bare, Check. -/
namespace Go.Proofs.Ytpmoioopjbfhkaa
open Go.RowKit
theorem w_cond2 {P:Program} {n0:Nat} {fr:List V} {st:List Slot} {Q:AExit→List V→List Slot→Prop} {a b:ACode} {i:Nat} {t:Bool} (hc:fr.getD i .any=.lit (.bool t)) (h1:t=true→AW P n0 a Q (fr.set i (.lit (.bool true))) st) (h2:t=false→AW P n0 b Q (fr.set i (.lit (.bool false))) st):AW P n0 (.cond (.tmp i) a b) Q fr st:=by
 cases t with
 | true=>exact w_condT hc (by have:=h1 rfl;rwa [set_getD hc] at this)
 | false=>exact w_condF hc (by have:=h2 rfl;rwa [set_getD hc] at this)
attribute [local irreducible] CallsS CallsV Callable
theorem zero_fold (L:List UInt8) (hL:∀ c ∈ L,c=117∨c=114∨c=109∨c=115∨c=112∨c=99∨c=110):∀ s:StzD,L.foldl zeroF s=⟨s.kind,if L.any (· == 117) then ⟨#[]⟩ else s.user,if L.any (· == 114) then ⟨#[]⟩ else s.res,if L.any (· == 109) then ⟨#[]⟩ else s.name,if L.any (· == 115) then 0 else s.show_,if L.any (· == 112) then 0 else s.prio,if L.any (· == 99) then 0 else s.code,if L.any (· == 110) then 0 else s.n⟩:=by
 induction L with
 | nil=>intro s;rfl
 | cons c L ih =>
  intro s
  rw [List.foldl_cons,ih (fun d hd=>hL d (by simp [hd]))]
  simp only [List.any_cons]
  rcases hL c (by simp) with rfl | rfl | rfl | rfl | rfl | rfl | rfl
  all_goals simp [zeroF]
theorem emp_if (b:Bool) (u:ByteArray):((if b then (⟨#[]⟩ : ByteArray) else u).toList == (⟨#[]⟩ : ByteArray).toList)=!(!u.toList.isEmpty && !b):=by
 have e:(⟨#[]⟩ : ByteArray).toList=[]:=by simp
 rw [e]
 cases b
 ·simp only [Bool.false_eq_true,if_false,Bool.not_false,Bool.and_true,Bool.not_not]
  cases u.toList <;> rfl
 ·simp [e]
theorem int_if (b:Bool) (n:Int):((if b then (0:Int) else n) == 0)=!(n != 0 && !b):=by
 cases b <;> simp [bne]
theorem bare_l (s z:StzD) (hz:List.foldl zeroF s (hasN s.kind.toNat)=z):((z.kind.toNat:Int) == (z.kind.toNat:Int) && (z.user.toList == (⟨#[]⟩ : ByteArray).toList && (z.res.toList == (⟨#[]⟩ : ByteArray).toList && (z.name.toList == (⟨#[]⟩ : ByteArray).toList && (z.show_ == 0 && (z.prio == 0 && (z.code == 0 && (z.n == 0 && true))))))))=!extraL s:=by
 rw [zero_fold _ (hasN_in _)] at hz
 subst hz
 simp only [emp_if,int_if,extraL,hasC,beq_self_eq_true,Bool.true_and,Bool.and_true,Bool.not_or,Bool.and_assoc]
theorem bare_v (s:StzD):CallsV Try.prog 65 [stzV s] (.b (!extraL s)):=by
 refine callsV_comp mix Try.func65 ac65_ok ?_
 unfold ac65
 simp only [List.length_cons,List.length_nil,List.replicate_succ,List.replicate_zero,List.cons_append,List.nil_append,Nat.reduceAdd,Nat.reduceSub]
 repeat' (first | (first | refine w_blk ?_ | refine w_seq ?_ | refine w_reg (by (try simp only [List.length_cons,List.length_nil,Nat.reduceAdd]);rfl) (by (try simp only [List.replicate_succ,List.replicate_zero,List.cons_append,List.nil_append,List.append_nil]);rfl) (fun K' hK'=>?_) | refine w_condT rfl ?_ | refine w_condF rfl ?_ | (refine w_cond2 rfl (fun hb=>?_) (fun hb=>?_) <;> simp only [putF,List.set_cons_zero,List.set_cons_succ,evO,List.getD_cons_zero,List.getD_cons_succ,V.ofValue,ofC,V.cells,partV,List.drop_zero,List.drop_succ_cons,List.take_succ_cons,List.take_zero,Nat.reduceAdd,Nat.reduceMul,Nat.zero_add,Nat.add_zero,if_true,if_false,Bool.false_eq_true,List.nil_append,List.cons_append,List.append_nil,List.map_cons,List.map_nil,stzV,List.set,byteV,Nat.mul_one]) | refine w_ret ?_ | refine w_skip ?_ | refine w_exit ?_ | refine q_seqN ?_ | refine q_seqR ?_ | refine q_seqE ?_ | refine q_blkN ?_ | refine q_blkR ?_ | refine q_blkH ?_ | refine q_blkE rfl ?_ | refine q_loopR ?_ | refine q_loopE ?_ | (refine x_end ?_;refine hK' _ _ _ ?_;clear hK' K';first | refine q_regT ?_ | refine q_regD rfl ?_)) | ((first | refine x_mv rfl ?_ | refine x_off rfl ?_ | refine x_ldP rfl rfl rfl (Nat.le_of_ble_eq_true rfl) ?_ | refine x_faP rfl rfl ?_ | refine x_ldE rfl rfl (Nat.le_of_ble_eq_true rfl) ?_ | refine x_faE rfl rfl (Nat.le_of_ble_eq_true rfl) ?_ | refine x_add rfl rfl rfl (by omega) ?_ | refine x_sub rfl rfl rfl (by omega) ?_ | refine x_cat rfl rfl rfl (by omega) ?_ | refine x_binI rfl rfl rfl rfl ?_ | refine x_binS rfl rfl rfl rfl ?_ | refine x_pick rfl rfl ?_ | refine x_un rfl rfl rfl ?_ | refine x_bx rfl rfl rfl ?_ | refine x_al rfl rfl rfl ?_ | refine x_st rfl rfl rfl rfl rfl (Nat.le_of_ble_eq_true rfl) (Nat.le_of_ble_eq_true rfl) ?_ | refine x_eqa rfl rfl rfl rfl rfl rfl ?_ | refine x_bd rfl rfl ?_ | refine x_ex rfl rfl rfl ?_ | refine x_fd rfl rfl (Nat.le_of_ble_eq_true rfl) ?_ | refine x_lenM rfl rfl ?_ | refine x_lenS rfl rfl ?_ | refine x_lent rfl rfl ?_ | refine x_lenO rfl rfl ?_ | refine x_binb rfl rfl rfl ?_ | refine x_cvs rfl rfl ?_ | refine x_cvi0 rfl rfl (by omega) ?_ | refine x_bs rfl rfl rfl rfl ?_ | refine x_mf rfl ?_ | refine x_s2b rfl rfl ?_ | refine x_eqpP rfl rfl rfl ?_ | refine x_eqpN rfl rfl rfl ?_ | refine x_ncP rfl rfl ?_ | refine x_ncE rfl rfl ?_ | refine x_ncC rfl rfl ?_);simp only [putF,List.set_cons_zero,List.set_cons_succ,evO,List.getD_cons_zero,List.getD_cons_succ,V.ofValue,ofC,V.cells,partV,List.drop_zero,List.drop_succ_cons,List.take_succ_cons,List.take_zero,Nat.reduceAdd,Nat.reduceMul,Nat.zero_add,Nat.add_zero,if_true,if_false,Bool.false_eq_true,List.nil_append,List.cons_append,List.append_nil,List.map_cons,List.map_nil,stzV,List.set,byteV,Nat.mul_one]) | (refine x_clS rfl (each_s s) rfl ?_;simp only [putF,List.set_cons_zero,List.set_cons_succ,evO,List.getD_cons_zero,List.getD_cons_succ,V.ofValue,ofC,V.cells,partV,List.drop_zero,List.drop_succ_cons,List.take_succ_cons,List.take_zero,Nat.reduceAdd,Nat.reduceMul,Nat.zero_add,Nat.add_zero,if_true,if_false,Bool.false_eq_true,List.nil_append,List.cons_append,List.append_nil,List.map_cons,List.map_nil,stzV,List.set,byteV,Nat.mul_one]) | (refine x_case rfl (fun hb=>?_) (fun hb=>?_) <;> simp only [putF,List.set_cons_zero,List.set_cons_succ,evO,List.getD_cons_zero,List.getD_cons_succ,V.ofValue,ofC,V.cells,partV,List.drop_zero,List.drop_succ_cons,List.take_succ_cons,List.take_zero,Nat.reduceAdd,Nat.reduceMul,Nat.zero_add,Nat.add_zero,if_true,if_false,Bool.false_eq_true,List.nil_append,List.cons_append,List.append_nil,List.map_cons,List.map_nil,stzV,List.set,byteV,Nat.mul_one]))
 generalize hz:List.foldl zeroF s (hasN s.kind.toNat)=z at *
 rw [bare_l s z hz]
 exact f_lit (by simp) rfl rfl
end Go.Proofs.Ytpmoioopjbfhkaa

