/- A part of the proof: 3 texts joined. -/
import Derived.Shelf.Small.Utf8
import Derived.Shelf.Small.Strs
import Derived.Shelf.Strings.Search1
import Derived.Shelf.Strings.Search2
import Derived.Shelf.Strings.Search3
import Derived.Shelf.Strings.Cut
import Derived.Shelf.LaysM
import Derived.Shelf.Strings.Shaped
import Derived.Shelf.Strings.Runes
import Derived.Shelf.Strings.IndexAny
import Derived.Shelf.Strings.AsciiSet
import Derived.Shelf.Strings.IndexAnyAll
import Derived.Shelf.Slices.Turned
import Derived.Shelf.Slices.CompactS
import Derived.Shelf.Slices.Cells
import Derived.Test.YtljeinlapkgjeaaProg
import Derived.Test.YtljeinlapkgjeaaPwA1
import Derived.Laws.RangeAny
import Derived.Deep.LoopGhost
import Derived.Lib.OthersKept
set_option linter.all false
/- The shelf's contracts at this translation, in plain words (written by the kit's lay-plain.mjs). -/
namespace Go.Proofs
open Go.Shelf
def Try.lays119_ren : Go.Shelf.Ren := ⟨fun | 119 => 170 | n => n, fun | 21 => 21 | 4 => 4 | n => n, fun | n => n⟩
theorem Try.lays119 : Go.Proofs.Lays.n119 Try.prog Try.lays119_ren := {
  mixed := by kernel_rfl
  f119 := Try.func170.trans (congrArg some (by kernel_rfl))
  t4 := Try.underlying4
  a4 := Try.isAgg4
  z4 := Try.sizeOf4
  v4 := Try.zeroValue4
  t21 := Try.underlying21
  a21 := Try.isAgg21
  z21 := Try.sizeOf21
  v21 := Try.zeroValue21 }
theorem Try.utf8_ValidRune (r : Int) (w : World) :
    Calls Try.prog 170 #[.int .i32 r] w fun e w' => e = .returned (.bool (Lib.validRune r)) ∧ w' = w := Any.utf8_ValidRune Try.lays119 r w
def Try.lays213_ren : Go.Shelf.Ren := ⟨fun | 213 => 133 | 265 => 147 | n => n, fun | 9 => 9 | 3 => 3 | n => n, fun | n => n⟩
theorem Try.lays213 : Go.Proofs.Lays.n213 Try.prog Try.lays213_ren := {
  mixed := by kernel_rfl
  f213 := Try.func133.trans (congrArg some (by kernel_rfl))
  f265 := Try.func147.trans (congrArg some (by kernel_rfl))
  t3 := Try.underlying3
  a3 := Try.isAgg3
  z3 := Try.sizeOf3
  v3 := Try.zeroValue3
  t9 := Try.underlying9
  a9 := Try.isAgg9
  z9 := Try.sizeOf9
  v9 := Try.zeroValue9 }
open Go.RowKit in
theorem Try.bytealg_CompareString (a b : ByteArray) (w : World) :
    Calls Try.prog 133 #[.string a, .string b] w fun e w' => e = .returned (.int .i64 (Lib.compareBytes a.data.toList b.data.toList)) ∧ w' = w := Any.bytealg_CompareString Try.lays213 a b w
def Try.lays106_ren : Go.Shelf.Ren := ⟨fun | 106 => 119 | 213 => 133 | 265 => 147 | n => n, fun | 9 => 9 | 3 => 3 | n => n, fun | n => n⟩
theorem Try.lays106 : Go.Proofs.Lays.n106 Try.prog Try.lays106_ren := {
  mixed := by kernel_rfl
  f106 := Try.func119.trans (congrArg some (by kernel_rfl))
  f213 := Try.func133.trans (congrArg some (by kernel_rfl))
  f265 := Try.func147.trans (congrArg some (by kernel_rfl))
  t3 := Try.underlying3
  a3 := Try.isAgg3
  z3 := Try.sizeOf3
  v3 := Try.zeroValue3
  t9 := Try.underlying9
  a9 := Try.isAgg9
  z9 := Try.sizeOf9
  v9 := Try.zeroValue9 }
open Go.RowKit in
theorem Try.strings_Compare (a b : ByteArray) (w : World) :
    Calls Try.prog 119 #[.string a, .string b] w fun e w' => e = .returned (.int .i64 (Lib.compareBytes a.data.toList b.data.toList)) ∧ w' = w := Any.strings_Compare Try.lays106 a b w
def Try.lays137_ren : Go.Shelf.Ren := ⟨fun | 137 => 169 | 217 => 135 | 266 => 149 | n => n, fun | 9 => 9 | 5 => 5 | 3 => 3 | n => n, fun | n => n⟩
theorem Try.lays137 : Go.Proofs.Lays.n137 Try.prog Try.lays137_ren := {
  mixed := by kernel_rfl
  f137 := Try.func169.trans (congrArg some (by kernel_rfl))
  f217 := Try.func135.trans (congrArg some (by kernel_rfl))
  f266 := Try.func149.trans (congrArg some (by kernel_rfl))
  t3 := Try.underlying3
  a3 := Try.isAgg3
  z3 := Try.sizeOf3
  v3 := Try.zeroValue3
  t5 := Try.underlying5
  a5 := Try.isAgg5
  z5 := Try.sizeOf5
  v5 := Try.zeroValue5
  t9 := Try.underlying9
  a9 := Try.isAgg9
  z9 := Try.sizeOf9
  v9 := Try.zeroValue9 }
open Go.RowKit in
theorem Try.strings_IndexByte (s : ByteArray) (c : Int) (w : World) :
    Calls Try.prog 169 #[.string s, .int .u8 c] w fun e w' => e = .returned (.int .i64 (Lib.indexByte s.data.toList c.toNat.toUInt8)) ∧ w' = w := Any.strings_IndexByte Try.lays137 s c w
def Try.lays217_ren : Go.Shelf.Ren := ⟨fun | 217 => 135 | 266 => 149 | n => n, fun | 9 => 9 | 5 => 5 | 3 => 3 | n => n, fun | n => n⟩
theorem Try.lays217 : Go.Proofs.Lays.n217 Try.prog Try.lays217_ren := {
  mixed := by kernel_rfl
  f217 := Try.func135.trans (congrArg some (by kernel_rfl))
  f266 := Try.func149.trans (congrArg some (by kernel_rfl))
  t3 := Try.underlying3
  a3 := Try.isAgg3
  z3 := Try.sizeOf3
  v3 := Try.zeroValue3
  t5 := Try.underlying5
  a5 := Try.isAgg5
  z5 := Try.sizeOf5
  v5 := Try.zeroValue5
  t9 := Try.underlying9
  a9 := Try.isAgg9
  z9 := Try.sizeOf9
  v9 := Try.zeroValue9 }
open Go.RowKit Go.Lib in
theorem Try.stringslite_IndexByte (s : ByteArray) (c : Int) (w : World) :
    Calls Try.prog 135 #[.string s, .int .u8 c] w fun e w' => e = .returned (.int .i64 (Lib.indexByte s.data.toList c.toNat.toUInt8)) ∧ w' = w := Any.stringslite_IndexByte Try.lays217 s c w
def Try.lays224_ren : Go.Shelf.Ren := ⟨fun | 224 => 137 | n => n, fun | 3 => 3 | n => n, fun | n => n⟩
theorem Try.lays224 : Go.Proofs.Lays.n224 Try.prog Try.lays224_ren := {
  mixed := by kernel_rfl
  f224 := Try.func137.trans (congrArg some (by kernel_rfl))
  t3 := Try.underlying3
  a3 := Try.isAgg3
  z3 := Try.sizeOf3
  v3 := Try.zeroValue3 }
open Go.RowKit Go.Lib in
theorem Try.bytealg_Cutover (n : Int) (h0 : 0 ≤ n) (h1 : n < 4611686018427387904) (w : World) :
    Calls Try.prog 137 #[.int .i64 n] w fun e w' => e = .returned (.int .i64 ((n + 16) / 8)) ∧ w' = w := Any.bytealg_Cutover Try.lays224 n h0 h1 w
def Try.lays314_ren : Go.Shelf.Ren := ⟨fun | 314 => 150 | n => n, fun | 9 => 9 | 51 => 193 | 3 => 3 | 4 => 4 | 5 => 5 | 46 => 163 | n => n, fun | n => n⟩
theorem Try.lays314 : Go.Proofs.Lays.n314 Try.prog Try.lays314_ren := {
  mixed := by kernel_rfl
  f314 := Try.func150.trans (congrArg some (by kernel_rfl))
  t3 := Try.underlying3
  a3 := Try.isAgg3
  z3 := Try.sizeOf3
  v3 := Try.zeroValue3
  t4 := Try.underlying4
  a4 := Try.isAgg4
  z4 := Try.sizeOf4
  v4 := Try.zeroValue4
  t5 := Try.underlying5
  a5 := Try.isAgg5
  z5 := Try.sizeOf5
  v5 := Try.zeroValue5
  t9 := Try.underlying9
  a9 := Try.isAgg9
  z9 := Try.sizeOf9
  v9 := Try.zeroValue9
  t46 := Try.underlying163
  a46 := Try.isAgg163
  z46 := Try.sizeOf163
  v46 := Try.zeroValue163
  t51 := Try.underlying193
  a51 := Try.isAgg193
  z51 := Try.sizeOf193
  v51 := Try.zeroValue193 }
open Go.RowKit Go.Lib in
theorem Try.bytealg_hashStr (sep : ByteArray) (hs : sep.size < 4294967281) (w : World) :
    Calls Try.prog 150 #[.string sep] w fun e w' => e = .returned (.tuple #[.int .u32 (RK.H sep.data.toList % 4294967296), .int .u32 (16777619 ^ sep.size % 4294967296)]) ∧ w' = w := Any.bytealg_hashStr Try.lays314 sep hs w
def Try.lays267_ren : Go.Shelf.Ren := ⟨fun | 267 => 138 | 314 => 150 | n => n, fun | 9 => 9 | 3 => 3 | 146 => 194 | 51 => 193 | 4 => 4 | 5 => 5 | 46 => 163 | n => n, fun | n => n⟩
theorem Try.lays267 : Go.Proofs.Lays.n267 Try.prog Try.lays267_ren := {
  mixed := by kernel_rfl
  f267 := Try.func138.trans (congrArg some (by kernel_rfl))
  f314 := Try.func150.trans (congrArg some (by kernel_rfl))
  t3 := Try.underlying3
  a3 := Try.isAgg3
  z3 := Try.sizeOf3
  v3 := Try.zeroValue3
  t4 := Try.underlying4
  a4 := Try.isAgg4
  z4 := Try.sizeOf4
  v4 := Try.zeroValue4
  t5 := Try.underlying5
  a5 := Try.isAgg5
  z5 := Try.sizeOf5
  v5 := Try.zeroValue5
  t9 := Try.underlying9
  a9 := Try.isAgg9
  z9 := Try.sizeOf9
  v9 := Try.zeroValue9
  t46 := Try.underlying163
  a46 := Try.isAgg163
  z46 := Try.sizeOf163
  v46 := Try.zeroValue163
  t51 := Try.underlying193
  a51 := Try.isAgg193
  z51 := Try.sizeOf193
  v51 := Try.zeroValue193
  t146 := Try.underlying194
  a146 := Try.isAgg194
  z146 := Try.sizeOf194
  v146 := Try.zeroValue194 }
open Go.RowKit Go.Lib in
theorem Try.bytealg_IndexRabinKarp (s sep : ByteArray) (h1 : 1 ≤ sep.size) (h2 : sep.size ≤ s.size) (hs : s.size < 4294967281) (w : World) :
    Calls Try.prog 138 #[.string s, .string sep] w fun e w' => e = .returned (.int .i64 (Lib.index s.data.toList sep.data.toList)) ∧ w' = w := Any.bytealg_IndexRabinKarp Try.lays267 s sep h1 h2 hs w
def Try.lays219_ren : Go.Shelf.Ren := ⟨fun | 219 => 126 | 217 => 135 | 225 => 136 | 224 => 137 | 267 => 138 | 266 => 149 | 314 => 150 | n => n, fun | 9 => 9 | 3 => 3 | 4 => 4 | 5 => 5 | 46 => 163 | 146 => 194 | 51 => 193 | n => n, fun | 1 => 0 | n => n⟩
theorem Try.lays219 : Go.Proofs.Lays.n219 Try.prog Try.lays219_ren := {
  mixed := by kernel_rfl
  f217 := Try.func135.trans (congrArg some (by kernel_rfl))
  f219 := Try.func126.trans (congrArg some (by kernel_rfl))
  f224 := Try.func137.trans (congrArg some (by kernel_rfl))
  f225 := Try.func136.trans (congrArg some (by kernel_rfl))
  f266 := Try.func149.trans (congrArg some (by kernel_rfl))
  f267 := Try.func138.trans (congrArg some (by kernel_rfl))
  f314 := Try.func150.trans (congrArg some (by kernel_rfl))
  t3 := Try.underlying3
  a3 := Try.isAgg3
  z3 := Try.sizeOf3
  v3 := Try.zeroValue3
  t4 := Try.underlying4
  a4 := Try.isAgg4
  z4 := Try.sizeOf4
  v4 := Try.zeroValue4
  t5 := Try.underlying5
  a5 := Try.isAgg5
  z5 := Try.sizeOf5
  v5 := Try.zeroValue5
  t9 := Try.underlying9
  a9 := Try.isAgg9
  z9 := Try.sizeOf9
  v9 := Try.zeroValue9
  t46 := Try.underlying163
  a46 := Try.isAgg163
  z46 := Try.sizeOf163
  v46 := Try.zeroValue163
  t51 := Try.underlying193
  a51 := Try.isAgg193
  z51 := Try.sizeOf193
  v51 := Try.zeroValue193
  t146 := Try.underlying194
  a146 := Try.isAgg194
  z146 := Try.sizeOf194
  v146 := Try.zeroValue194
  g1 := by kernel_rfl }
open Go.RowKit Go.Lib in
theorem Try.stringslite_Index_one (s : ByteArray) (c : UInt8) (w : World) :
    Calls Try.prog 126 #[.string s, .string ⟨#[c]⟩] w fun e w' => e = .returned (.int .i64 (Lib.indexByte s.data.toList c)) ∧ w' = w := Any.stringslite_Index_one Try.lays219 s c w
open Go.RowKit Go.Lib in
theorem Try.stringslite_Index (s sub : ByteArray) (m : Int) (w : World) (hs : s.size < 4294967281) (hm : w.cell? ⟨0, 0, none⟩ = some (.int .i64 m)) :
    Calls Try.prog 126 #[.string s, .string sub] w fun e w' => e = .returned (.int .i64 (Lib.index s.data.toList sub.data.toList)) ∧ w' = w := Any.stringslite_Index Try.lays219 s sub m w hs hm
def Try.lays143_ren : Go.Shelf.Ren := ⟨fun | 143 => 164 | 219 => 126 | 217 => 135 | 225 => 136 | 224 => 137 | 267 => 138 | 266 => 149 | 314 => 150 | n => n, fun | 9 => 9 | 3 => 3 | 4 => 4 | 5 => 5 | 46 => 163 | 146 => 194 | 51 => 193 | n => n, fun | 1 => 0 | n => n⟩
theorem Try.lays143 : Go.Proofs.Lays.n143 Try.prog Try.lays143_ren := {
  mixed := by kernel_rfl
  f143 := Try.func164.trans (congrArg some (by kernel_rfl))
  f217 := Try.func135.trans (congrArg some (by kernel_rfl))
  f219 := Try.func126.trans (congrArg some (by kernel_rfl))
  f224 := Try.func137.trans (congrArg some (by kernel_rfl))
  f225 := Try.func136.trans (congrArg some (by kernel_rfl))
  f266 := Try.func149.trans (congrArg some (by kernel_rfl))
  f267 := Try.func138.trans (congrArg some (by kernel_rfl))
  f314 := Try.func150.trans (congrArg some (by kernel_rfl))
  t3 := Try.underlying3
  a3 := Try.isAgg3
  z3 := Try.sizeOf3
  v3 := Try.zeroValue3
  t4 := Try.underlying4
  a4 := Try.isAgg4
  z4 := Try.sizeOf4
  v4 := Try.zeroValue4
  t5 := Try.underlying5
  a5 := Try.isAgg5
  z5 := Try.sizeOf5
  v5 := Try.zeroValue5
  t9 := Try.underlying9
  a9 := Try.isAgg9
  z9 := Try.sizeOf9
  v9 := Try.zeroValue9
  t46 := Try.underlying163
  a46 := Try.isAgg163
  z46 := Try.sizeOf163
  v46 := Try.zeroValue163
  t51 := Try.underlying193
  a51 := Try.isAgg193
  z51 := Try.sizeOf193
  v51 := Try.zeroValue193
  t146 := Try.underlying194
  a146 := Try.isAgg194
  z146 := Try.sizeOf194
  v146 := Try.zeroValue194
  g1 := by kernel_rfl }
open Go.RowKit Go.Lib in
theorem Try.strings_Index_one (s : ByteArray) (c : UInt8) (w : World) :
    Calls Try.prog 164 #[.string s, .string ⟨#[c]⟩] w fun e w' => e = .returned (.int .i64 (Lib.indexByte s.data.toList c)) ∧ w' = w := Any.strings_Index_one Try.lays143 s c w
open Go.RowKit Go.Lib in
theorem Try.strings_Index (s sub : ByteArray) (m : Int) (w : World) (hs : s.size < 4294967281) (hm : w.cell? ⟨0, 0, none⟩ = some (.int .i64 m)) :
    Calls Try.prog 164 #[.string s, .string sub] w fun e w' => e = .returned (.int .i64 (Lib.index s.data.toList sub.data.toList)) ∧ w' = w := Any.strings_Index Try.lays143 s sub m w hs hm
def Try.lays144_ren : Go.Shelf.Ren := ⟨fun | 144 => 160 | 143 => 164 | 219 => 126 | 217 => 135 | 225 => 136 | 224 => 137 | 267 => 138 | 266 => 149 | 314 => 150 | n => n, fun | 9 => 9 | 4 => 4 | 3 => 3 | 5 => 5 | 46 => 163 | 146 => 194 | 51 => 193 | n => n, fun | 1 => 0 | n => n⟩
theorem Try.lays144 : Go.Proofs.Lays.n144 Try.prog Try.lays144_ren := {
  mixed := by kernel_rfl
  f143 := Try.func164.trans (congrArg some (by kernel_rfl))
  f144 := Try.func160.trans (congrArg some (by kernel_rfl))
  f217 := Try.func135.trans (congrArg some (by kernel_rfl))
  f219 := Try.func126.trans (congrArg some (by kernel_rfl))
  f224 := Try.func137.trans (congrArg some (by kernel_rfl))
  f225 := Try.func136.trans (congrArg some (by kernel_rfl))
  f266 := Try.func149.trans (congrArg some (by kernel_rfl))
  f267 := Try.func138.trans (congrArg some (by kernel_rfl))
  f314 := Try.func150.trans (congrArg some (by kernel_rfl))
  t3 := Try.underlying3
  a3 := Try.isAgg3
  z3 := Try.sizeOf3
  v3 := Try.zeroValue3
  t4 := Try.underlying4
  a4 := Try.isAgg4
  z4 := Try.sizeOf4
  v4 := Try.zeroValue4
  t5 := Try.underlying5
  a5 := Try.isAgg5
  z5 := Try.sizeOf5
  v5 := Try.zeroValue5
  t9 := Try.underlying9
  a9 := Try.isAgg9
  z9 := Try.sizeOf9
  v9 := Try.zeroValue9
  t46 := Try.underlying163
  a46 := Try.isAgg163
  z46 := Try.sizeOf163
  v46 := Try.zeroValue163
  t51 := Try.underlying193
  a51 := Try.isAgg193
  z51 := Try.sizeOf193
  v51 := Try.zeroValue193
  t146 := Try.underlying194
  a146 := Try.isAgg194
  z146 := Try.sizeOf194
  v146 := Try.zeroValue194
  g1 := by kernel_rfl }
open Go.RowKit Go.Lib in
theorem Try.strings_Contains_one (s : ByteArray) (c : UInt8) (w : World) :
    Calls Try.prog 160 #[.string s, .string ⟨#[c]⟩] w fun e w' => e = .returned (.bool (decide (0 ≤ Lib.indexByte s.data.toList c))) ∧ w' = w := Any.strings_Contains_one Try.lays144 s c w
open Go.RowKit Go.Lib in
theorem Try.strings_Contains (s sub : ByteArray) (m : Int) (w : World) (hs : s.size < 4294967281) (hm : w.cell? ⟨0, 0, none⟩ = some (.int .i64 m)) :
    Calls Try.prog 160 #[.string s, .string sub] w fun e w' => e = .returned (.bool (Lib.contains s.data.toList sub.data.toList)) ∧ w' = w := Any.strings_Contains Try.lays144 s sub m w hs hm
def Try.lays220_ren : Go.Shelf.Ren := ⟨fun | 220 => 105 | 219 => 126 | 217 => 135 | 225 => 136 | 224 => 137 | 267 => 138 | 266 => 149 | 314 => 150 | n => n, fun | 9 => 9 | 4 => 4 | 3 => 3 | 5 => 5 | 46 => 163 | 146 => 194 | 51 => 193 | n => n, fun | 1 => 0 | n => n⟩
theorem Try.lays220 : Go.Proofs.Lays.n220 Try.prog Try.lays220_ren := {
  mixed := by kernel_rfl
  f217 := Try.func135.trans (congrArg some (by kernel_rfl))
  f219 := Try.func126.trans (congrArg some (by kernel_rfl))
  f220 := Try.func105.trans (congrArg some (by kernel_rfl))
  f224 := Try.func137.trans (congrArg some (by kernel_rfl))
  f225 := Try.func136.trans (congrArg some (by kernel_rfl))
  f266 := Try.func149.trans (congrArg some (by kernel_rfl))
  f267 := Try.func138.trans (congrArg some (by kernel_rfl))
  f314 := Try.func150.trans (congrArg some (by kernel_rfl))
  t3 := Try.underlying3
  a3 := Try.isAgg3
  z3 := Try.sizeOf3
  v3 := Try.zeroValue3
  t4 := Try.underlying4
  a4 := Try.isAgg4
  z4 := Try.sizeOf4
  v4 := Try.zeroValue4
  t5 := Try.underlying5
  a5 := Try.isAgg5
  z5 := Try.sizeOf5
  v5 := Try.zeroValue5
  t9 := Try.underlying9
  a9 := Try.isAgg9
  z9 := Try.sizeOf9
  v9 := Try.zeroValue9
  t46 := Try.underlying163
  a46 := Try.isAgg163
  z46 := Try.sizeOf163
  v46 := Try.zeroValue163
  t51 := Try.underlying193
  a51 := Try.isAgg193
  z51 := Try.sizeOf193
  v51 := Try.zeroValue193
  t146 := Try.underlying194
  a146 := Try.isAgg194
  z146 := Try.sizeOf194
  v146 := Try.zeroValue194
  g1 := by kernel_rfl }
open Go.RowKit Go.Lib in
theorem Try.stringslite_Cut (s sep : ByteArray) (m : Int) (w : World) (hs : s.size < 4294967281) (hm : w.cell? ⟨0, 0, none⟩ = some (.int .i64 m)) :
    Calls Try.prog 105 #[.string s, .string sep] w fun e w' => e = .returned (.tuple #[.string ⟨(Lib.cut s.data.toList sep.data.toList).1.toArray⟩, .string ⟨(Lib.cut s.data.toList sep.data.toList).2.1.toArray⟩, .bool (Lib.cut s.data.toList sep.data.toList).2.2]) ∧ ∃ n, w' = w.drewN n := Any.stringslite_Cut Try.lays220 s sep m w hs hm
def Try.lays145_ren : Go.Shelf.Ren := ⟨fun | 145 => 59 | 220 => 105 | 219 => 126 | 217 => 135 | 225 => 136 | 224 => 137 | 267 => 138 | 266 => 149 | 314 => 150 | n => n, fun | 9 => 9 | 4 => 4 | 59 => 105 | 3 => 3 | 5 => 5 | 46 => 163 | 146 => 194 | 51 => 193 | n => n, fun | 1 => 0 | n => n⟩
theorem Try.lays145 : Go.Proofs.Lays.n145 Try.prog Try.lays145_ren := {
  mixed := by kernel_rfl
  f145 := Try.func59.trans (congrArg some (by kernel_rfl))
  f217 := Try.func135.trans (congrArg some (by kernel_rfl))
  f219 := Try.func126.trans (congrArg some (by kernel_rfl))
  f220 := Try.func105.trans (congrArg some (by kernel_rfl))
  f224 := Try.func137.trans (congrArg some (by kernel_rfl))
  f225 := Try.func136.trans (congrArg some (by kernel_rfl))
  f266 := Try.func149.trans (congrArg some (by kernel_rfl))
  f267 := Try.func138.trans (congrArg some (by kernel_rfl))
  f314 := Try.func150.trans (congrArg some (by kernel_rfl))
  t3 := Try.underlying3
  a3 := Try.isAgg3
  z3 := Try.sizeOf3
  v3 := Try.zeroValue3
  t4 := Try.underlying4
  a4 := Try.isAgg4
  z4 := Try.sizeOf4
  v4 := Try.zeroValue4
  t5 := Try.underlying5
  a5 := Try.isAgg5
  z5 := Try.sizeOf5
  v5 := Try.zeroValue5
  t9 := Try.underlying9
  a9 := Try.isAgg9
  z9 := Try.sizeOf9
  v9 := Try.zeroValue9
  t46 := Try.underlying163
  a46 := Try.isAgg163
  z46 := Try.sizeOf163
  v46 := Try.zeroValue163
  t51 := Try.underlying193
  a51 := Try.isAgg193
  z51 := Try.sizeOf193
  v51 := Try.zeroValue193
  t59 := Try.underlying105
  a59 := Try.isAgg105
  z59 := Try.sizeOf105
  v59 := Try.zeroValue105
  t146 := Try.underlying194
  a146 := Try.isAgg194
  z146 := Try.sizeOf194
  v146 := Try.zeroValue194
  g1 := by kernel_rfl }
open Go.RowKit Go.Lib in
theorem Try.strings_Cut (s sep : ByteArray) (m : Int) (w : World) (hs : s.size < 4294967281) (hm : w.cell? ⟨0, 0, none⟩ = some (.int .i64 m)) :
    Calls Try.prog 59 #[.string s, .string sep] w fun e w' => e = .returned (.tuple #[.string ⟨(Lib.cut s.data.toList sep.data.toList).1.toArray⟩, .string ⟨(Lib.cut s.data.toList sep.data.toList).2.1.toArray⟩, .bool (Lib.cut s.data.toList sep.data.toList).2.2]) ∧ ∃ n, w' = w.drewN n := Any.strings_Cut Try.lays145 s sep m w hs hm
def Try.laysM219_ren : Go.Shelf.Ren := ⟨fun | 219 => 126 | 217 => 135 | 225 => 136 | 224 => 137 | 267 => 138 | 266 => 149 | 314 => 150 | n => n, fun | 9 => 9 | 3 => 3 | 4 => 4 | 5 => 5 | 46 => 163 | 146 => 194 | 51 => 193 | n => n, fun | 1 => 0 | n => n⟩
theorem Try.laysM219 : Go.Proofs.LaysM.n219 Try.prog Try.laysM219_ren := {
  mixed := by kernel_rfl
  f217 := Try.func135.trans (congrArg some (by kernel_rfl))
  f219 := Try.func126.trans (congrArg some (by kernel_rfl))
  f224 := Try.func137.trans (congrArg some (by kernel_rfl))
  f225 := Try.func136.trans (congrArg some (by kernel_rfl))
  f266 := Try.func149.trans (congrArg some (by kernel_rfl))
  f267 := Try.func138.trans (congrArg some (by kernel_rfl))
  f314 := Try.func150.trans (congrArg some (by kernel_rfl))
  t3 := Try.underlying3
  a3 := Try.isAgg3
  z3 := Try.sizeOf3
  v3 := Try.zeroValue3
  t4 := Try.underlying4
  a4 := Try.isAgg4
  z4 := Try.sizeOf4
  v4 := Try.zeroValue4
  t5 := Try.underlying5
  a5 := Try.isAgg5
  z5 := Try.sizeOf5
  v5 := Try.zeroValue5
  t9 := Try.underlying9
  a9 := Try.isAgg9
  z9 := Try.sizeOf9
  v9 := Try.zeroValue9
  t46 := Try.underlying163
  a46 := Try.isAgg163
  z46 := Try.sizeOf163
  v46 := Try.zeroValue163
  t51 := Try.underlying193
  a51 := Try.isAgg193
  z51 := Try.sizeOf193
  v51 := Try.zeroValue193
  t146 := Try.underlying194
  a146 := Try.isAgg194
  z146 := Try.sizeOf194
  v146 := Try.zeroValue194
  g1 := by kernel_rfl
  i3 := by kernel_rfl
  i4 := by kernel_rfl
  i5 := by kernel_rfl
  i9 := by kernel_rfl
  i46 := by kernel_rfl
  i51 := by kernel_rfl
  i146 := by kernel_rfl
  m1 := by kernel_rfl
  s1_3 := fun w h => Go.Proofs.cell_of_shapedOpen_int (zero := #[.int .i64 0]) (t := 3) h (of_decide_eq_true (by kernel_rfl)) (by kernel_rfl) rfl (by kernel_rfl) (by kernel_rfl) Try.underlying3 }
open Go.RowKit Go.Lib in
theorem Try.stringslite_Index_shaped (s sub : ByteArray) (w : World) (h : w.ShapedOpen Try.prog) (hs : s.size < 4294967281) :
    Calls Try.prog 126 #[.string s, .string sub] w fun e w' => e = .returned (.int .i64 (Lib.index s.data.toList sub.data.toList)) ∧ w' = w := Any.stringslite_Index_shaped Try.laysM219 s sub w h hs
def Try.laysM143_ren : Go.Shelf.Ren := ⟨fun | 143 => 164 | 219 => 126 | 217 => 135 | 225 => 136 | 224 => 137 | 267 => 138 | 266 => 149 | 314 => 150 | n => n, fun | 9 => 9 | 3 => 3 | 4 => 4 | 5 => 5 | 46 => 163 | 146 => 194 | 51 => 193 | n => n, fun | 1 => 0 | n => n⟩
theorem Try.laysM143 : Go.Proofs.LaysM.n143 Try.prog Try.laysM143_ren := {
  mixed := by kernel_rfl
  f143 := Try.func164.trans (congrArg some (by kernel_rfl))
  f217 := Try.func135.trans (congrArg some (by kernel_rfl))
  f219 := Try.func126.trans (congrArg some (by kernel_rfl))
  f224 := Try.func137.trans (congrArg some (by kernel_rfl))
  f225 := Try.func136.trans (congrArg some (by kernel_rfl))
  f266 := Try.func149.trans (congrArg some (by kernel_rfl))
  f267 := Try.func138.trans (congrArg some (by kernel_rfl))
  f314 := Try.func150.trans (congrArg some (by kernel_rfl))
  t3 := Try.underlying3
  a3 := Try.isAgg3
  z3 := Try.sizeOf3
  v3 := Try.zeroValue3
  t4 := Try.underlying4
  a4 := Try.isAgg4
  z4 := Try.sizeOf4
  v4 := Try.zeroValue4
  t5 := Try.underlying5
  a5 := Try.isAgg5
  z5 := Try.sizeOf5
  v5 := Try.zeroValue5
  t9 := Try.underlying9
  a9 := Try.isAgg9
  z9 := Try.sizeOf9
  v9 := Try.zeroValue9
  t46 := Try.underlying163
  a46 := Try.isAgg163
  z46 := Try.sizeOf163
  v46 := Try.zeroValue163
  t51 := Try.underlying193
  a51 := Try.isAgg193
  z51 := Try.sizeOf193
  v51 := Try.zeroValue193
  t146 := Try.underlying194
  a146 := Try.isAgg194
  z146 := Try.sizeOf194
  v146 := Try.zeroValue194
  g1 := by kernel_rfl
  i3 := by kernel_rfl
  i4 := by kernel_rfl
  i5 := by kernel_rfl
  i9 := by kernel_rfl
  i46 := by kernel_rfl
  i51 := by kernel_rfl
  i146 := by kernel_rfl
  m1 := by kernel_rfl
  s1_3 := fun w h => Go.Proofs.cell_of_shapedOpen_int (zero := #[.int .i64 0]) (t := 3) h (of_decide_eq_true (by kernel_rfl)) (by kernel_rfl) rfl (by kernel_rfl) (by kernel_rfl) Try.underlying3 }
open Go.RowKit Go.Lib in
theorem Try.strings_Index_shaped (s sub : ByteArray) (w : World) (h : w.ShapedOpen Try.prog) (hs : s.size < 4294967281) :
    Calls Try.prog 164 #[.string s, .string sub] w fun e w' => e = .returned (.int .i64 (Lib.index s.data.toList sub.data.toList)) ∧ w' = w := Any.strings_Index_shaped Try.laysM143 s sub w h hs
def Try.laysM144_ren : Go.Shelf.Ren := ⟨fun | 144 => 160 | 143 => 164 | 219 => 126 | 217 => 135 | 225 => 136 | 224 => 137 | 267 => 138 | 266 => 149 | 314 => 150 | n => n, fun | 9 => 9 | 4 => 4 | 3 => 3 | 5 => 5 | 46 => 163 | 146 => 194 | 51 => 193 | n => n, fun | 1 => 0 | n => n⟩
theorem Try.laysM144 : Go.Proofs.LaysM.n144 Try.prog Try.laysM144_ren := {
  mixed := by kernel_rfl
  f143 := Try.func164.trans (congrArg some (by kernel_rfl))
  f144 := Try.func160.trans (congrArg some (by kernel_rfl))
  f217 := Try.func135.trans (congrArg some (by kernel_rfl))
  f219 := Try.func126.trans (congrArg some (by kernel_rfl))
  f224 := Try.func137.trans (congrArg some (by kernel_rfl))
  f225 := Try.func136.trans (congrArg some (by kernel_rfl))
  f266 := Try.func149.trans (congrArg some (by kernel_rfl))
  f267 := Try.func138.trans (congrArg some (by kernel_rfl))
  f314 := Try.func150.trans (congrArg some (by kernel_rfl))
  t3 := Try.underlying3
  a3 := Try.isAgg3
  z3 := Try.sizeOf3
  v3 := Try.zeroValue3
  t4 := Try.underlying4
  a4 := Try.isAgg4
  z4 := Try.sizeOf4
  v4 := Try.zeroValue4
  t5 := Try.underlying5
  a5 := Try.isAgg5
  z5 := Try.sizeOf5
  v5 := Try.zeroValue5
  t9 := Try.underlying9
  a9 := Try.isAgg9
  z9 := Try.sizeOf9
  v9 := Try.zeroValue9
  t46 := Try.underlying163
  a46 := Try.isAgg163
  z46 := Try.sizeOf163
  v46 := Try.zeroValue163
  t51 := Try.underlying193
  a51 := Try.isAgg193
  z51 := Try.sizeOf193
  v51 := Try.zeroValue193
  t146 := Try.underlying194
  a146 := Try.isAgg194
  z146 := Try.sizeOf194
  v146 := Try.zeroValue194
  g1 := by kernel_rfl
  i3 := by kernel_rfl
  i4 := by kernel_rfl
  i5 := by kernel_rfl
  i9 := by kernel_rfl
  i46 := by kernel_rfl
  i51 := by kernel_rfl
  i146 := by kernel_rfl
  m1 := by kernel_rfl
  s1_3 := fun w h => Go.Proofs.cell_of_shapedOpen_int (zero := #[.int .i64 0]) (t := 3) h (of_decide_eq_true (by kernel_rfl)) (by kernel_rfl) rfl (by kernel_rfl) (by kernel_rfl) Try.underlying3 }
open Go.RowKit Go.Lib in
theorem Try.strings_Contains_shaped (s sub : ByteArray) (w : World) (h : w.ShapedOpen Try.prog) (hs : s.size < 4294967281) :
    Calls Try.prog 160 #[.string s, .string sub] w fun e w' => e = .returned (.bool (Lib.contains s.data.toList sub.data.toList)) ∧ w' = w := Any.strings_Contains_shaped Try.laysM144 s sub w h hs
def Try.laysM220_ren : Go.Shelf.Ren := ⟨fun | 220 => 105 | 219 => 126 | 217 => 135 | 225 => 136 | 224 => 137 | 267 => 138 | 266 => 149 | 314 => 150 | n => n, fun | 9 => 9 | 4 => 4 | 3 => 3 | 5 => 5 | 46 => 163 | 146 => 194 | 51 => 193 | n => n, fun | 1 => 0 | n => n⟩
theorem Try.laysM220 : Go.Proofs.LaysM.n220 Try.prog Try.laysM220_ren := {
  mixed := by kernel_rfl
  f217 := Try.func135.trans (congrArg some (by kernel_rfl))
  f219 := Try.func126.trans (congrArg some (by kernel_rfl))
  f220 := Try.func105.trans (congrArg some (by kernel_rfl))
  f224 := Try.func137.trans (congrArg some (by kernel_rfl))
  f225 := Try.func136.trans (congrArg some (by kernel_rfl))
  f266 := Try.func149.trans (congrArg some (by kernel_rfl))
  f267 := Try.func138.trans (congrArg some (by kernel_rfl))
  f314 := Try.func150.trans (congrArg some (by kernel_rfl))
  t3 := Try.underlying3
  a3 := Try.isAgg3
  z3 := Try.sizeOf3
  v3 := Try.zeroValue3
  t4 := Try.underlying4
  a4 := Try.isAgg4
  z4 := Try.sizeOf4
  v4 := Try.zeroValue4
  t5 := Try.underlying5
  a5 := Try.isAgg5
  z5 := Try.sizeOf5
  v5 := Try.zeroValue5
  t9 := Try.underlying9
  a9 := Try.isAgg9
  z9 := Try.sizeOf9
  v9 := Try.zeroValue9
  t46 := Try.underlying163
  a46 := Try.isAgg163
  z46 := Try.sizeOf163
  v46 := Try.zeroValue163
  t51 := Try.underlying193
  a51 := Try.isAgg193
  z51 := Try.sizeOf193
  v51 := Try.zeroValue193
  t146 := Try.underlying194
  a146 := Try.isAgg194
  z146 := Try.sizeOf194
  v146 := Try.zeroValue194
  g1 := by kernel_rfl
  i3 := by kernel_rfl
  i4 := by kernel_rfl
  i5 := by kernel_rfl
  i9 := by kernel_rfl
  i46 := by kernel_rfl
  i51 := by kernel_rfl
  i146 := by kernel_rfl
  m1 := by kernel_rfl
  s1_3 := fun w h => Go.Proofs.cell_of_shapedOpen_int (zero := #[.int .i64 0]) (t := 3) h (of_decide_eq_true (by kernel_rfl)) (by kernel_rfl) rfl (by kernel_rfl) (by kernel_rfl) Try.underlying3 }
open Go.RowKit Go.Lib in
theorem Try.stringslite_Cut_shaped (s sep : ByteArray) (w : World) (h : w.ShapedOpen Try.prog) (hs : s.size < 4294967281) :
    Calls Try.prog 105 #[.string s, .string sep] w fun e w' => e = .returned (.tuple #[.string ⟨(Lib.cut s.data.toList sep.data.toList).1.toArray⟩, .string ⟨(Lib.cut s.data.toList sep.data.toList).2.1.toArray⟩, .bool (Lib.cut s.data.toList sep.data.toList).2.2]) ∧ ∃ n, w' = w.drewN n := Any.stringslite_Cut_shaped Try.laysM220 s sep w h hs
def Try.laysM145_ren : Go.Shelf.Ren := ⟨fun | 145 => 59 | 220 => 105 | 219 => 126 | 217 => 135 | 225 => 136 | 224 => 137 | 267 => 138 | 266 => 149 | 314 => 150 | n => n, fun | 9 => 9 | 4 => 4 | 59 => 105 | 3 => 3 | 5 => 5 | 46 => 163 | 146 => 194 | 51 => 193 | n => n, fun | 1 => 0 | n => n⟩
theorem Try.laysM145 : Go.Proofs.LaysM.n145 Try.prog Try.laysM145_ren := {
  mixed := by kernel_rfl
  f145 := Try.func59.trans (congrArg some (by kernel_rfl))
  f217 := Try.func135.trans (congrArg some (by kernel_rfl))
  f219 := Try.func126.trans (congrArg some (by kernel_rfl))
  f220 := Try.func105.trans (congrArg some (by kernel_rfl))
  f224 := Try.func137.trans (congrArg some (by kernel_rfl))
  f225 := Try.func136.trans (congrArg some (by kernel_rfl))
  f266 := Try.func149.trans (congrArg some (by kernel_rfl))
  f267 := Try.func138.trans (congrArg some (by kernel_rfl))
  f314 := Try.func150.trans (congrArg some (by kernel_rfl))
  t3 := Try.underlying3
  a3 := Try.isAgg3
  z3 := Try.sizeOf3
  v3 := Try.zeroValue3
  t4 := Try.underlying4
  a4 := Try.isAgg4
  z4 := Try.sizeOf4
  v4 := Try.zeroValue4
  t5 := Try.underlying5
  a5 := Try.isAgg5
  z5 := Try.sizeOf5
  v5 := Try.zeroValue5
  t9 := Try.underlying9
  a9 := Try.isAgg9
  z9 := Try.sizeOf9
  v9 := Try.zeroValue9
  t46 := Try.underlying163
  a46 := Try.isAgg163
  z46 := Try.sizeOf163
  v46 := Try.zeroValue163
  t51 := Try.underlying193
  a51 := Try.isAgg193
  z51 := Try.sizeOf193
  v51 := Try.zeroValue193
  t59 := Try.underlying105
  a59 := Try.isAgg105
  z59 := Try.sizeOf105
  v59 := Try.zeroValue105
  t146 := Try.underlying194
  a146 := Try.isAgg194
  z146 := Try.sizeOf194
  v146 := Try.zeroValue194
  g1 := by kernel_rfl
  i3 := by kernel_rfl
  i4 := by kernel_rfl
  i5 := by kernel_rfl
  i9 := by kernel_rfl
  i46 := by kernel_rfl
  i51 := by kernel_rfl
  i59 := by kernel_rfl
  i146 := by kernel_rfl
  m1 := by kernel_rfl
  s1_3 := fun w h => Go.Proofs.cell_of_shapedOpen_int (zero := #[.int .i64 0]) (t := 3) h (of_decide_eq_true (by kernel_rfl)) (by kernel_rfl) rfl (by kernel_rfl) (by kernel_rfl) Try.underlying3 }
open Go.RowKit Go.Lib in
theorem Try.strings_Cut_shaped (s sep : ByteArray) (w : World) (h : w.ShapedOpen Try.prog) (hs : s.size < 4294967281) :
    Calls Try.prog 59 #[.string s, .string sep] w fun e w' => e = .returned (.tuple #[.string ⟨(Lib.cut s.data.toList sep.data.toList).1.toArray⟩, .string ⟨(Lib.cut s.data.toList sep.data.toList).2.1.toArray⟩, .bool (Lib.cut s.data.toList sep.data.toList).2.2]) ∧ ∃ n, w' = w.drewN n := Any.strings_Cut_shaped Try.laysM145 s sep w h hs
def Try.lays152_ren : Go.Shelf.Ren := ⟨fun | 152 => 165 | 137 => 169 | 119 => 170 | 224 => 137 | 225 => 136 | 217 => 135 | 266 => 149 | n => n, fun | 9 => 9 | 21 => 21 | 3 => 3 | 4 => 4 | 5 => 5 | 0 => 0 | 46 => 163 | n => n, fun | n => n⟩
theorem Try.lays152 : Go.Proofs.Lays.n152 Try.prog Try.lays152_ren := {
  mixed := by kernel_rfl
  f119 := Try.func170.trans (congrArg some (by kernel_rfl))
  f137 := Try.func169.trans (congrArg some (by kernel_rfl))
  f152 := Try.func165.trans (congrArg some (by kernel_rfl))
  f217 := Try.func135.trans (congrArg some (by kernel_rfl))
  f224 := Try.func137.trans (congrArg some (by kernel_rfl))
  f225 := Try.func136.trans (congrArg some (by kernel_rfl))
  f266 := Try.func149.trans (congrArg some (by kernel_rfl))
  t0 := Try.underlying0
  a0 := Try.isAgg0
  z0 := Try.sizeOf0
  v0 := Try.zeroValue0
  t3 := Try.underlying3
  a3 := Try.isAgg3
  z3 := Try.sizeOf3
  v3 := Try.zeroValue3
  t4 := Try.underlying4
  a4 := Try.isAgg4
  z4 := Try.sizeOf4
  v4 := Try.zeroValue4
  t5 := Try.underlying5
  a5 := Try.isAgg5
  z5 := Try.sizeOf5
  v5 := Try.zeroValue5
  t9 := Try.underlying9
  a9 := Try.isAgg9
  z9 := Try.sizeOf9
  v9 := Try.zeroValue9
  t21 := Try.underlying21
  a21 := Try.isAgg21
  z21 := Try.sizeOf21
  v21 := Try.zeroValue21
  t46 := Try.underlying163
  a46 := Try.isAgg163
  z46 := Try.sizeOf163
  v46 := Try.zeroValue163 }
open Go.RowKit Go.Lib in
theorem Try.strings_IndexRune_ascii (s : ByteArray) (r : Int) (w : World) (h0 : 0 ≤ r) (h1 : r < 128) :
    Calls Try.prog 165 #[.string s, .int .i32 r] w fun e w' => e = .returned (.int .i64 (Lib.indexByte s.data.toList r.toNat.toUInt8)) ∧ w' = w := Any.strings_IndexRune_ascii Try.lays152 s r w h0 h1
def Try.lays226_ren : Go.Shelf.Ren := ⟨fun | 226 => 166 | n => n, fun | 3 => 3 | 4 => 4 | n => n, fun | n => n⟩
theorem Try.lays226 : Go.Proofs.Lays.n226 Try.prog Try.lays226_ren := {
  mixed := by kernel_rfl
  f226 := Try.func166.trans (congrArg some (by kernel_rfl))
  t3 := Try.underlying3
  a3 := Try.isAgg3
  z3 := Try.sizeOf3
  v3 := Try.zeroValue3
  t4 := Try.underlying4
  a4 := Try.isAgg4
  z4 := Try.sizeOf4
  v4 := Try.zeroValue4 }
open Go.RowKit Go.Lib in
theorem Try.strings_shouldUseASCIISet (n : Int) (w : World) :
    Calls Try.prog 166 #[.int .i64 n] w fun e w' => e = .returned (.bool (decide (8 < n))) ∧ w' = w := Any.strings_shouldUseASCIISet Try.lays226 n w
def Try.lays153_ren : Go.Shelf.Ren := ⟨fun | 153 => 163 | 152 => 165 | 226 => 166 | 227 => 167 | 228 => 168 | 137 => 169 | 119 => 170 | 224 => 137 | 225 => 136 | 217 => 135 | 266 => 149 | n => n, fun | 9 => 9 | 3 => 3 | 4 => 4 | 5 => 5 | 21 => 21 | 117 => 203 | 116 => 202 | 0 => 0 | 46 => 163 | 124 => 206 | n => n, fun | n => n⟩
theorem Try.lays153 : Go.Proofs.Lays.n153 Try.prog Try.lays153_ren := {
  mixed := by kernel_rfl
  f119 := Try.func170.trans (congrArg some (by kernel_rfl))
  f137 := Try.func169.trans (congrArg some (by kernel_rfl))
  f152 := Try.func165.trans (congrArg some (by kernel_rfl))
  f153 := Try.func163.trans (congrArg some (by kernel_rfl))
  f217 := Try.func135.trans (congrArg some (by kernel_rfl))
  f224 := Try.func137.trans (congrArg some (by kernel_rfl))
  f225 := Try.func136.trans (congrArg some (by kernel_rfl))
  f226 := Try.func166.trans (congrArg some (by kernel_rfl))
  f227 := Try.func167.trans (congrArg some (by kernel_rfl))
  f228 := Try.func168.trans (congrArg some (by kernel_rfl))
  f266 := Try.func149.trans (congrArg some (by kernel_rfl))
  t0 := Try.underlying0
  a0 := Try.isAgg0
  z0 := Try.sizeOf0
  v0 := Try.zeroValue0
  t3 := Try.underlying3
  a3 := Try.isAgg3
  z3 := Try.sizeOf3
  v3 := Try.zeroValue3
  t4 := Try.underlying4
  a4 := Try.isAgg4
  z4 := Try.sizeOf4
  v4 := Try.zeroValue4
  t5 := Try.underlying5
  a5 := Try.isAgg5
  z5 := Try.sizeOf5
  v5 := Try.zeroValue5
  t9 := Try.underlying9
  a9 := Try.isAgg9
  z9 := Try.sizeOf9
  v9 := Try.zeroValue9
  t21 := Try.underlying21
  a21 := Try.isAgg21
  z21 := Try.sizeOf21
  v21 := Try.zeroValue21
  t46 := Try.underlying163
  a46 := Try.isAgg163
  z46 := Try.sizeOf163
  v46 := Try.zeroValue163
  t116 := Try.underlying202
  a116 := Try.isAgg202
  z116 := Try.sizeOf202
  t117 := Try.underlying203
  a117 := Try.isAgg203
  z117 := Try.sizeOf203
  v117 := Try.zeroValue203
  t124 := Try.underlying206
  a124 := Try.isAgg206
  z124 := Try.sizeOf206
  v124 := Try.zeroValue206 }
open Go.RowKit Go.Lib in
theorem Try.strings_IndexAny_none (s chars : ByteArray) (w : World) (h0 : chars.size = 0) :
    Calls Try.prog 163 #[.string s, .string chars] w fun e w' => e = .returned (.int .i64 (Lib.indexAny s.data.toList chars.data.toList)) ∧ w' = w := Any.strings_IndexAny_none Try.lays153 s chars w h0
open Go.RowKit Go.Lib in
theorem Try.strings_IndexAny_one (s chars : ByteArray) (w : World) (h1 : chars.size = 1) (hascii : ∀ (j : Nat) b, chars.data.toList[j]? = some b → b.toNat < 128) :
    Calls Try.prog 163 #[.string s, .string chars] w fun e w' => e = .returned (.int .i64 (Lib.indexAny s.data.toList chars.data.toList)) ∧ w' = w := Any.strings_IndexAny_one Try.lays153 s chars w h1 hascii
open Go.RowKit Go.Lib in
theorem Try.strings_IndexAny_short (s chars : ByteArray) (w : World) (h2 : 2 ≤ chars.size) (h8 : s.size ≤ 8) (hascii : ∀ (j : Nat) b, s.data.toList[j]? = some b → b.toNat < 128) :
    Calls Try.prog 163 #[.string s, .string chars] w fun e w' => e = .returned (.int .i64 (Lib.indexAny s.data.toList chars.data.toList)) ∧ ∃ pos, w' = w.iter s pos := Any.strings_IndexAny_short Try.lays153 s chars w h2 h8 hascii
def Try.lays227_ren : Go.Shelf.Ren := ⟨fun | 227 => 167 | n => n, fun | 9 => 9 | 116 => 202 | 4 => 4 | 0 => 0 | 3 => 3 | 5 => 5 | n => n, fun | n => n⟩
theorem Try.lays227 : Go.Proofs.Lays.n227 Try.prog Try.lays227_ren := {
  mixed := by kernel_rfl
  f227 := Try.func167.trans (congrArg some (by kernel_rfl))
  t0 := Try.underlying0
  a0 := Try.isAgg0
  z0 := Try.sizeOf0
  v0 := Try.zeroValue0
  t3 := Try.underlying3
  a3 := Try.isAgg3
  z3 := Try.sizeOf3
  v3 := Try.zeroValue3
  t4 := Try.underlying4
  a4 := Try.isAgg4
  z4 := Try.sizeOf4
  v4 := Try.zeroValue4
  t5 := Try.underlying5
  a5 := Try.isAgg5
  z5 := Try.sizeOf5
  v5 := Try.zeroValue5
  t9 := Try.underlying9
  a9 := Try.isAgg9
  z9 := Try.sizeOf9
  v9 := Try.zeroValue9
  t116 := Try.underlying202
  a116 := Try.isAgg202
  z116 := Try.sizeOf202 }
open Go.RowKit Go.Lib in
theorem Try.strings_makeASCIISet (hv116 : ∀ w, (zeroValue 202).run Try.prog w = .ok (.agg (Array.replicate 256 (.bool false))) w) (chars : ByteArray) (w : World) (hs : chars.size < 4294967281) (hascii : ∀ (j : Nat) b, chars.data.toList[j]? = some b → b.toNat < 128) :
    Calls Try.prog 167 #[.string chars] w fun e w' => e = .returned (.tuple #[.agg (Lib.setCells chars.data.toList), .bool true]) ∧ w' = w.alloc (.cells (Lib.setCells chars.data.toList) 202) := Any.strings_makeASCIISet Try.lays227 hv116 (by kernel_rfl) chars w hs hascii
def Try.lays228_ren : Go.Shelf.Ren := ⟨fun | 228 => 168 | n => n, fun | 124 => 206 | 5 => 5 | 4 => 4 | 0 => 0 | 116 => 202 | n => n, fun | n => n⟩
theorem Try.lays228 : Go.Proofs.Lays.n228 Try.prog Try.lays228_ren := {
  mixed := by kernel_rfl
  f228 := Try.func168.trans (congrArg some (by kernel_rfl))
  t0 := Try.underlying0
  a0 := Try.isAgg0
  z0 := Try.sizeOf0
  v0 := Try.zeroValue0
  t4 := Try.underlying4
  a4 := Try.isAgg4
  z4 := Try.sizeOf4
  v4 := Try.zeroValue4
  t5 := Try.underlying5
  a5 := Try.isAgg5
  z5 := Try.sizeOf5
  v5 := Try.zeroValue5
  t116 := Try.underlying202
  a116 := Try.isAgg202
  z116 := Try.sizeOf202
  t124 := Try.underlying206
  a124 := Try.isAgg206
  z124 := Try.sizeOf206
  v124 := Try.zeroValue206 }
open Go.RowKit Go.Lib in
theorem Try.asciiSet_contains (b : Nat) (x : UInt8) (v : Bool) (w : World) (hc : w.cell? ⟨b, x.toNat, none⟩ = some (.bool v)) :
    Calls Try.prog 168 #[.pointer (some ⟨b, 0, none⟩), .int .u8 x.toNat] w fun e w' => e = .returned (.bool v) ∧ w' = w := Any.asciiSet_contains Try.lays228 b x v w hc
open Go.RowKit Go.Lib in
theorem Try.strings_IndexAny_long (hv116 : ∀ w, (zeroValue 202).run Try.prog w = .ok (.agg (Array.replicate 256 (.bool false))) w) (s chars : ByteArray) (w : World) (h2 : 2 ≤ chars.size) (h8 : 8 < s.size) (hs : s.size < 4294967281) (hcs : chars.size < 4294967281) (hascii : ∀ (j : Nat) b, chars.data.toList[j]? = some b → b.toNat < 128) :
    Calls Try.prog 163 #[.string s, .string chars] w fun e w' => e = .returned (.int .i64 (Lib.indexAny s.data.toList chars.data.toList)) ∧ w' = ((w.alloc (.cells (Lib.setCells chars.data.toList) 202)).alloc (.cells (Lib.setCells chars.data.toList) 202)) := Any.strings_IndexAny_long Try.lays153 hv116 (by kernel_rfl) s chars w h2 h8 hs hcs hascii
open Go.RowKit Go.Lib in
theorem Try.strings_IndexAny (hv116 : ∀ w, (zeroValue 202).run Try.prog w = .ok (.agg (Array.replicate 256 (.bool false))) w) (s chars : ByteArray) (w : World) (hs : s.size < 4294967281) (hcs : chars.size < 4294967281) (has : ∀ (j : Nat) b, s.data.toList[j]? = some b → b.toNat < 128) (hac : ∀ (j : Nat) b, chars.data.toList[j]? = some b → b.toNat < 128) :
    Calls Try.prog 163 #[.string s, .string chars] w fun e w' => e = .returned (.int .i64 (Lib.indexAny s.data.toList chars.data.toList)) ∧ Below w.heap.size w w' := Any.strings_IndexAny Try.lays153 hv116 (by kernel_rfl) s chars w hs hcs has hac
def Try.lays150_ren : Go.Shelf.Ren := ⟨fun | 150 => 158 | 153 => 163 | 152 => 165 | 226 => 166 | 227 => 167 | 228 => 168 | 137 => 169 | 119 => 170 | 224 => 137 | 225 => 136 | 217 => 135 | 266 => 149 | n => n, fun | 9 => 9 | 4 => 4 | 3 => 3 | 5 => 5 | 21 => 21 | 117 => 203 | 116 => 202 | 0 => 0 | 46 => 163 | 124 => 206 | n => n, fun | n => n⟩
theorem Try.lays150 : Go.Proofs.Lays.n150 Try.prog Try.lays150_ren := {
  mixed := by kernel_rfl
  f119 := Try.func170.trans (congrArg some (by kernel_rfl))
  f137 := Try.func169.trans (congrArg some (by kernel_rfl))
  f150 := Try.func158.trans (congrArg some (by kernel_rfl))
  f152 := Try.func165.trans (congrArg some (by kernel_rfl))
  f153 := Try.func163.trans (congrArg some (by kernel_rfl))
  f217 := Try.func135.trans (congrArg some (by kernel_rfl))
  f224 := Try.func137.trans (congrArg some (by kernel_rfl))
  f225 := Try.func136.trans (congrArg some (by kernel_rfl))
  f226 := Try.func166.trans (congrArg some (by kernel_rfl))
  f227 := Try.func167.trans (congrArg some (by kernel_rfl))
  f228 := Try.func168.trans (congrArg some (by kernel_rfl))
  f266 := Try.func149.trans (congrArg some (by kernel_rfl))
  t0 := Try.underlying0
  a0 := Try.isAgg0
  z0 := Try.sizeOf0
  v0 := Try.zeroValue0
  t3 := Try.underlying3
  a3 := Try.isAgg3
  z3 := Try.sizeOf3
  v3 := Try.zeroValue3
  t4 := Try.underlying4
  a4 := Try.isAgg4
  z4 := Try.sizeOf4
  v4 := Try.zeroValue4
  t5 := Try.underlying5
  a5 := Try.isAgg5
  z5 := Try.sizeOf5
  v5 := Try.zeroValue5
  t9 := Try.underlying9
  a9 := Try.isAgg9
  z9 := Try.sizeOf9
  v9 := Try.zeroValue9
  t21 := Try.underlying21
  a21 := Try.isAgg21
  z21 := Try.sizeOf21
  v21 := Try.zeroValue21
  t46 := Try.underlying163
  a46 := Try.isAgg163
  z46 := Try.sizeOf163
  v46 := Try.zeroValue163
  t116 := Try.underlying202
  a116 := Try.isAgg202
  z116 := Try.sizeOf202
  t117 := Try.underlying203
  a117 := Try.isAgg203
  z117 := Try.sizeOf203
  v117 := Try.zeroValue203
  t124 := Try.underlying206
  a124 := Try.isAgg206
  z124 := Try.sizeOf206
  v124 := Try.zeroValue206 }
open Go.RowKit Go.Lib in
theorem Try.strings_ContainsAny (hv116 : ∀ w, (zeroValue 202).run Try.prog w = .ok (.agg (Array.replicate 256 (.bool false))) w) (s chars : ByteArray) (w : World) (hs : s.size < 4294967281) (hcs : chars.size < 4294967281) (has : ∀ (j : Nat) b, s.data.toList[j]? = some b → b.toNat < 128) (hac : ∀ (j : Nat) b, chars.data.toList[j]? = some b → b.toNat < 128) :
    Calls Try.prog 158 #[.string s, .string chars] w fun e w' => e = .returned (.bool (Lib.containsAny s.data.toList chars.data.toList)) ∧ Below w.heap.size w w' := Any.strings_ContainsAny Try.lays150 hv116 (by kernel_rfl) s chars w hs hcs has hac
open Go.RowKit Go.Lib in
theorem Try.strings_IndexAny_laid (s chars : ByteArray) (w : World) (hs : s.size < 4294967281) (hcs : chars.size < 4294967281) (has : ∀ (j : Nat) b, s.data.toList[j]? = some b → b.toNat < 128) (hac : ∀ (j : Nat) b, chars.data.toList[j]? = some b → b.toNat < 128) :
    Calls Try.prog 163 #[.string s, .string chars] w fun e w' => e = .returned (.int .i64 (Lib.indexAny s.data.toList chars.data.toList)) ∧ Below w.heap.size w w' := Any.strings_IndexAny_laid Try.lays153 (by kernel_rfl) s chars w hs hcs has hac
open Go.RowKit Go.Lib in
theorem Try.strings_ContainsAny_laid (s chars : ByteArray) (w : World) (hs : s.size < 4294967281) (hcs : chars.size < 4294967281) (has : ∀ (j : Nat) b, s.data.toList[j]? = some b → b.toNat < 128) (hac : ∀ (j : Nat) b, chars.data.toList[j]? = some b → b.toNat < 128) :
    Calls Try.prog 158 #[.string s, .string chars] w fun e w' => e = .returned (.bool (Lib.containsAny s.data.toList chars.data.toList)) ∧ Below w.heap.size w w' := Any.strings_ContainsAny_laid Try.lays150 (by kernel_rfl) s chars w hs hcs has hac
def Try.lays109_ren : Go.Shelf.Ren := ⟨fun | 109 => 121 | n => n, fun | 31 => 68 | 9 => 9 | 3 => 3 | 0 => 0 | 4 => 4 | n => n, fun | n => n⟩
theorem Try.lays109 : Go.Proofs.Lays.n109 Try.prog Try.lays109_ren := {
  mixed := by kernel_rfl
  f109 := Try.func121.trans (congrArg some (by kernel_rfl))
  t0 := Try.underlying0
  a0 := Try.isAgg0
  z0 := Try.sizeOf0
  v0 := Try.zeroValue0
  t3 := Try.underlying3
  a3 := Try.isAgg3
  z3 := Try.sizeOf3
  v3 := Try.zeroValue3
  t4 := Try.underlying4
  a4 := Try.isAgg4
  z4 := Try.sizeOf4
  v4 := Try.zeroValue4
  t9 := Try.underlying9
  a9 := Try.isAgg9
  z9 := Try.sizeOf9
  v9 := Try.zeroValue9
  t31 := Try.underlying68
  a31 := Try.isAgg68
  z31 := Try.sizeOf68
  v31 := Try.zeroValue68 }
open Go.Lib in
theorem Try.slices_Index_string (b off n c : Nat) (zs : List ByteArray) (x : ByteArray) (w : World) (hz : n ≤ zs.length) (hbig : n ≤ 9223372036854775807) (hc : ∀ j, j < zs.length → w.cell? ⟨b, off + j, none⟩ = some (.string (zs.getD j ByteArray.empty))) :
    Calls Try.prog 121 #[.slice (some ⟨b, off, none⟩) n c, .string x] w fun e w' => e = .returned (.int .i64 (Lib.idxOfS (zs.take n) x)) ∧ w' = w := Any.slices_Index_string Try.lays109 b off n c zs x w hz hbig hc
open Go.Lib in
theorem Try.slices_Index_string_empty (a : Option Addr) (c : Nat) (x : ByteArray) (w : World) :
    Calls Try.prog 121 #[.slice a 0 c, .string x] w fun e w' => e = .returned (.int .i64 (Lib.idxOfS [] x)) ∧ w' = w := Any.slices_Index_string_empty Try.lays109 a c x w
def Try.lays110_ren : Go.Shelf.Ren := ⟨fun | 110 => 91 | 109 => 121 | n => n, fun | 31 => 68 | 9 => 9 | 4 => 4 | 3 => 3 | 0 => 0 | n => n, fun | n => n⟩
theorem Try.lays110 : Go.Proofs.Lays.n110 Try.prog Try.lays110_ren := {
  mixed := by kernel_rfl
  f109 := Try.func121.trans (congrArg some (by kernel_rfl))
  f110 := Try.func91.trans (congrArg some (by kernel_rfl))
  t0 := Try.underlying0
  a0 := Try.isAgg0
  z0 := Try.sizeOf0
  v0 := Try.zeroValue0
  t3 := Try.underlying3
  a3 := Try.isAgg3
  z3 := Try.sizeOf3
  v3 := Try.zeroValue3
  t4 := Try.underlying4
  a4 := Try.isAgg4
  z4 := Try.sizeOf4
  v4 := Try.zeroValue4
  t9 := Try.underlying9
  a9 := Try.isAgg9
  z9 := Try.sizeOf9
  v9 := Try.zeroValue9
  t31 := Try.underlying68
  a31 := Try.isAgg68
  z31 := Try.sizeOf68
  v31 := Try.zeroValue68 }
open Go.Lib in
theorem Try.slices_Contains_string (b off n c : Nat) (zs : List ByteArray) (x : ByteArray) (w : World) (hz : n ≤ zs.length) (hbig : n ≤ 9223372036854775807) (hc : ∀ j, j < zs.length → w.cell? ⟨b, off + j, none⟩ = some (.string (zs.getD j ByteArray.empty))) :
    Calls Try.prog 91 #[.slice (some ⟨b, off, none⟩) n c, .string x] w fun e w' => e = .returned (.bool (Lib.containsS (zs.take n) x)) ∧ w' = w := Any.slices_Contains_string Try.lays110 b off n c zs x w hz hbig hc
open Go.Lib in
theorem Try.slices_Contains_string_empty (a : Option Addr) (c : Nat) (x : ByteArray) (w : World) :
    Calls Try.prog 91 #[.slice a 0 c, .string x] w fun e w' => e = .returned (.bool false) ∧ w' = w := Any.slices_Contains_string_empty Try.lays110 a c x w
def Try.lays194_ren : Go.Shelf.Ren := ⟨fun | 194 => 99 | n => n, fun | 31 => 68 | 9 => 9 | 3 => 3 | 4 => 4 | 0 => 0 | n => n, fun | n => n⟩
theorem Try.lays194 : Go.Proofs.Lays.n194 Try.prog Try.lays194_ren := {
  mixed := by kernel_rfl
  f194 := Try.func99.trans (congrArg some (by kernel_rfl))
  t0 := Try.underlying0
  a0 := Try.isAgg0
  z0 := Try.sizeOf0
  v0 := Try.zeroValue0
  t3 := Try.underlying3
  a3 := Try.isAgg3
  z3 := Try.sizeOf3
  v3 := Try.zeroValue3
  t4 := Try.underlying4
  a4 := Try.isAgg4
  z4 := Try.sizeOf4
  v4 := Try.zeroValue4
  t9 := Try.underlying9
  a9 := Try.isAgg9
  z9 := Try.sizeOf9
  v9 := Try.zeroValue9
  t31 := Try.underlying68
  a31 := Try.isAgg68
  z31 := Try.sizeOf68
  v31 := Try.zeroValue68 }
open Go.RowKit Go.Lib Go.Sort in
theorem Try.slices_Compact_string_arr (blk off cap : Nat) (d : Array (List UInt8)) (w : World) (hH : Holds encStr w blk off d) (hsz : d.size ≤ 9223372036854775807) (hcap : d.size ≤ cap) :
    Calls Try.prog 99 #[.slice (some ⟨blk, off, none⟩) d.size cap] w fun e w' => e = .returned (.slice (some ⟨blk, off, none⟩) (compactUpTo d d.size).length cap) ∧ ∃ q, w' = putRow encStr (Sort.ahead w q) blk off (compactUpTo d d.size ++ List.replicate (d.size - (compactUpTo d d.size).length) []).toArray := Any.slices_Compact_string_arr Try.lays194 blk off cap d w hH hsz hcap
open Go.RowKit Go.Lib Go.Sort in
theorem Try.slices_Compact_string (blk off cap : Nat) (zs : List (List UInt8)) (w : World) (hH : Holds encStr w blk off zs.toArray) (hsz : zs.length ≤ 9223372036854775807) (hcap : zs.length ≤ cap) :
    Calls Try.prog 99 #[.slice (some ⟨blk, off, none⟩) zs.length cap] w fun e w' => e = .returned (.slice (some ⟨blk, off, none⟩) (Lib.compact zs).length cap) ∧ ∃ q, w' = putRow encStr (Sort.ahead w q) blk off (Lib.compact zs ++ List.replicate (zs.length - (Lib.compact zs).length) []).toArray := Any.slices_Compact_string Try.lays194 blk off cap zs w hH hsz hcap
open Go.RowKit Go.Lib Go.Sort in
theorem Try.slices_Compact_string_empty (a : Option Addr) (cap : Nat) (w : World) :
    Calls Try.prog 99 #[.slice a 0 cap] w fun e w' => e = .returned (.slice a 0 cap) ∧ w' = w := Any.slices_Compact_string_empty Try.lays194 a cap w
open Go.RowKit Go.Lib Go.Sort in
theorem Try.slices_Compact_string_cells (b off n c : Nat) (Sx : Nat → ByteArray) (w : World) (hbig : n ≤ 9223372036854775807) (hcap : n ≤ c) (hc : ∀ i, i < n → w.cell? ⟨b, off + i, none⟩ = some (.string (Sx i))) (hf : ∀ j, j < n → w.frozen? ⟨b, off + j, none⟩ = false) :
    Calls Try.prog 99 #[.slice (some ⟨b, off, none⟩) n c] w fun e w' => e = .returned (.slice (some ⟨b, off, none⟩) (Lib.compact (Lib.strsOf Sx n)).length c) ∧ ∃ q, w' = (w.drewN q).setCells b off ((Lib.compact (Lib.strsOf Sx n) ++ List.replicate (n - (Lib.compact (Lib.strsOf Sx n)).length) []).map encStr) := Any.slices_Compact_string_cells Try.lays194 b off n c Sx w hbig hcap hc hf
end Go.Proofs
/- strings.ContainsAny at ' @/', at every text. -/
namespace Go.Proofs.Ytljeinlapkgjeaa
open Go.RowKit
/-- a quiet call behind a quiet region. -/
theorem quiet_more {P : Program} {f : FuncId} {args : Array Value} {w : World} {a n : Nat} {v : Value}
    (h : Calls P f args (w.drewN (a + n)) fun e w' => e = .returned v ∧ w' = w.drewN (a + n)) :
    Calls P f args (w.drewN (a + n)) fun e w'' => e = .returned v ∧ ∃ m, w'' = w.drewN (a + m) :=
  h.mono fun _ _ ⟨he, hm⟩ => ⟨he, n, hm⟩
theorem getB_at (s : ByteArray) (j : Nat) (hj : j < s.size) : (s.get! j) = s[j] := by
  simp [ByteArray.get!, getElem!_pos, hj]
  rfl
theorem decode_hi (s : ByteArray) (i : Nat) (h : i < s.size) (hb : 128 ≤ (s[i]'h).toNat) :
    128 ≤ (Utf8.decode s i).1 ∧ 1 ≤ (Utf8.decode s i).2 ∧ i + (Utf8.decode s i).2 ≤ s.size ∧ (Utf8.valid (Utf8.decode s i).1 = true ∨ (Utf8.decode s i).1 = 65533) ∧ ∀ j (hj : j < s.size), i ≤ j → j < i + (Utf8.decode s i).2 → 128 ≤ (s[j]'hj).toNat := by
  have e0 : (s.get! (i + 0)).toNat = (s[i]).toNat := by rw [Nat.add_zero, getB_at s i h]
  have hlt : ∀ k, (s.get! k).toNat < 256 := fun k => (s.get! k).toNat_lt
  have l1 := hlt (i + 1)
  have l2 := hlt (i + 2)
  have l3 := hlt (i + 3)
  have l0 := (s[i]).toNat_lt
  obtain ⟨b1, hb1⟩ : ∃ b, (s.get! (i + 1)).toNat = b := ⟨_, rfl⟩
  obtain ⟨b2, hb2⟩ : ∃ b, (s.get! (i + 2)).toNat = b := ⟨_, rfl⟩
  obtain ⟨b3, hb3⟩ : ∃ b, (s.get! (i + 3)).toNat = b := ⟨_, rfl⟩
  have g1 : ∀ h1 : i + 1 < s.size, (s[i + 1]).toNat = b1 := fun h1 => by rw [← hb1, getB_at s _ h1]
  have g2 : ∀ h1 : i + 2 < s.size, (s[i + 2]).toNat = b2 := fun h1 => by rw [← hb2, getB_at s _ h1]
  have g3 : ∀ h1 : i + 3 < s.size, (s[i + 3]).toNat = b3 := fun h1 => by rw [← hb3, getB_at s _ h1]
  rw [hb1] at l1; rw [hb2] at l2; rw [hb3] at l3
  have key : ∀ j (hj : j < s.size), i ≤ j → j < i + 1 → 128 ≤ (s[j]'hj).toNat := by
    intro j hj h1 h2
    obtain rfl : j = i := by omega
    exact hb
  simp only [Utf8.decode, e0, hb1, hb2, hb3]
  rw [if_neg (by omega)]
  split
  · rename_i hc
    simp only [Bool.and_eq_true, decide_eq_true_eq, beq_iff_eq] at hc
    obtain ⟨c0, c1, c2⟩ := hc
    split
    · refine ⟨by assumption, by simp, by simp; omega, .inl ?_, ?_⟩
      · simp only [Utf8.valid]; simp; omega
      · intro j hj h1 h2
        rcases (show j = i ∨ j = i + 1 by simp at h2; omega) with rfl | rfl
        · exact hb
        · rw [g1 hj]; omega
    · exact ⟨by decide, by simp, by simp; omega, .inr rfl, key⟩
  · split
    · rename_i hc
      simp only [Bool.and_eq_true, decide_eq_true_eq, beq_iff_eq] at hc
      obtain ⟨⟨c0, c1, c2⟩, c3, c4⟩ := hc
      split
      · rename_i hv
        simp only [Bool.and_eq_true, decide_eq_true_eq] at hv
        refine ⟨by dsimp only; omega, by simp, by simp; omega, .inl hv.2, ?_⟩
        intro j hj h1 h2
        rcases (show j = i ∨ j = i + 1 ∨ j = i + 2 by simp at h2; omega) with rfl | rfl | rfl
        · exact hb
        · rw [g1 hj]; omega
        · rw [g2 hj]; omega
      · exact ⟨by decide, by simp, by simp; omega, .inr rfl, key⟩
    · split
      · rename_i hc
        simp only [Bool.and_eq_true, decide_eq_true_eq, beq_iff_eq] at hc
        obtain ⟨⟨⟨c0, c1, c2⟩, c3, c4⟩, c5, c6⟩ := hc
        split
        · rename_i hv
          simp only [Bool.and_eq_true, decide_eq_true_eq] at hv
          refine ⟨by dsimp only; omega, by simp, by simp; omega, .inl hv.2, ?_⟩
          intro j hj h1 h2
          rcases (show j = i ∨ j = i + 1 ∨ j = i + 2 ∨ j = i + 3 by simp at h2; omega) with rfl | rfl | rfl | rfl
          · exact hb
          · rw [g1 hj]; omega
          · rw [g2 hj]; omega
          · rw [g3 hj]; omega
        · exact ⟨by decide, by simp, by simp; omega, .inr rfl, key⟩
      · exact ⟨by decide, by simp, by simp; omega, .inr rfl, key⟩
set_option maxRecDepth 100000 in
set_option maxHeartbeats 400000 in
theorem indexRune_err (w : World) : Calls Try.prog 165 #[.string ⟨#[32, 64, 47]⟩, .int .i32 65533] w (Ret w (.int .i64 (-1))) := by
  have n0 := fun ty => run_next_ascii (P := Try.prog) w ⟨#[32, 64, 47]⟩ 0 ty (by decide) (by decide)
  have n1 := fun ty => run_next_ascii (P := Try.prog) w ⟨#[32, 64, 47]⟩ 1 ty (by decide) (by decide)
  have n2 := fun ty => run_next_ascii (P := Try.prog) w ⟨#[32, 64, 47]⟩ 2 ty (by decide) (by decide)
  have n3 := run_next_end (P := Try.prog) w ⟨#[32, 64, 47]⟩ 3
  go_enter Try.func165, Try.ntmps165
  go_wp2_with fail
  refine wp_loop_rounds 4 ?_
  rw [rounds_succ]
  go_wp2
  rw [rounds_succ]
  go_wp2
  rw [rounds_succ]
  go_wp2
  rw [rounds_succ]
  go_wp2
  go_ret
  exact ⟨rfl, (Below.refl _ _).alloc (Nat.le_refl _) _⟩
theorem indexByte_nil (c : UInt8) : Lib.indexByte [] c = -1 := rfl
theorem indexByte_hi : ∀ (l : List UInt8) (c : UInt8), (∀ b ∈ l, b.toNat < 128) → 128 ≤ c.toNat → Lib.indexByte l c = -1
  | [], _, _, _ => rfl
  | b :: l, c, h, hc => by
    have hb := h b (by simp)
    have ih := indexByte_hi l c (fun x hx => h x (by simp [hx])) hc
    unfold Lib.indexByte
    have : (b == c) = false := by
      rw [beq_eq_false_iff_ne]
      rintro rfl
      omega
    rw [this, ih]; rfl
set_option maxRecDepth 10000000 in
set_option maxHeartbeats 1000000 in
theorem indexRune_hi (r : Nat) (w : World) (hv : Utf8.valid r = true) (h : 128 ≤ r) (hr : r ≠ 65533) : Calls Try.prog 165 #[.string ⟨#[32, 64, 47]⟩, .int .i32 r] w (Ret w (.int .i64 (-1))) := by
  obtain ⟨e1, e2, e3⟩ := encode_facts r hv (by omega)
  have hval : Lib.validRune (r : Int) = true := by
    unfold Utf8.valid at hv
    unfold Lib.validRune
    simp only [Bool.or_eq_true, Bool.and_eq_true, decide_eq_true_eq] at hv ⊢
    omega
  have hr' : ((r : Int) == 65533) = false := by simp; omega
  have h' : decide ((r : Int) < 128) = false := by simp; omega
  obtain ⟨E, hE⟩ : ∃ E, Utf8.encode (r : Int) = E := ⟨_, rfl⟩
  rw [hE] at e1 e2 e3
  clear hv hr h
  rcases (show E.size = 2 ∨ E.size = 3 ∨ E.size = 4 by omega) with hs | hs | hs
  · have hlt : 1 < E.size := by omega
    obtain ⟨c, hc⟩ : ∃ c, E[1] = c := ⟨_, rfl⟩
    have hc2 : 128 ≤ c.toNat := by
      have := e3 (by omega)
      simp only [hs] at this
      rw [← hc]; exact this
    have hne : (((((⟨#[32, 64, 47]⟩ : ByteArray)[1]'(by decide)).toNat : Nat) : Int) != (c.toNat : Int)) = true := by
      have : ((⟨#[32, 64, 47]⟩ : ByteArray)[1]'(by decide)).toNat = 64 := rfl
      rw [this]; simp; omega
    have hix := indexByte_hi [47] c (by decide) hc2
    clear e1 e2 e3
    go_enter Try.func165, Try.ntmps165
    go_wp2_with (go_at_call 170; (with_reducible refine (Try.utf8_ValidRune _ _).mono ?_); rintro e w' ⟨rfl, hw⟩; subst hw)
    go_step3
    go_wp2_with fail
    refine wp_loop_rounds 1 ?_
    rw [rounds_succ]
    go_wp2
    go_step3
    go_wp2
    go_quiet (fail)
    go_wp2
    go_quiet ((go_at_call 169; exact quiet_more (Try.strings_IndexByte _ _ _)))
    go_wp2
    simp only [Exit.noGoto_ret, Exit.inBlock, Exit.then]
    go_ret
    exact ⟨rfl, (by (with_reducible repeat (first | assumption | exact Below.refl _ _ | (refine below_alloc ?_ _) | (refine Below.setCell ?_ (by first | exact Nat.le_refl _ | (simp; done) | (simp at *; omega)) _) | (refine below_drewN ?_ _) | (refine Below.drew ?_))))⟩
  · have hlt : 2 < E.size := by omega
    obtain ⟨c, hc⟩ : ∃ c, E[2] = c := ⟨_, rfl⟩
    have hc2 : 128 ≤ c.toNat := by
      have := e3 (by omega)
      simp only [hs] at this
      rw [← hc]; exact this
    have hne : (((((⟨#[32, 64, 47]⟩ : ByteArray)[2]'(by decide)).toNat : Nat) : Int) != (c.toNat : Int)) = true := by
      have : ((⟨#[32, 64, 47]⟩ : ByteArray)[2]'(by decide)).toNat = 47 := rfl
      rw [this]; simp; omega
    have hix := indexByte_hi [] c (by decide) hc2
    clear e1 e2 e3
    go_enter Try.func165, Try.ntmps165
    go_wp2_with (go_at_call 170; (with_reducible refine (Try.utf8_ValidRune _ _).mono ?_); rintro e w' ⟨rfl, hw⟩; subst hw)
    go_step3
    go_wp2_with fail
    refine wp_loop_rounds 1 ?_
    rw [rounds_succ]
    go_wp2
    go_step3
    go_wp2
    go_quiet (fail)
    go_wp2
    go_quiet ((go_at_call 169; exact quiet_more (Try.strings_IndexByte _ _ _)))
    go_wp2
    simp only [Exit.noGoto_ret, Exit.inBlock, Exit.then]
    go_ret
    exact ⟨rfl, (by (with_reducible repeat (first | assumption | exact Below.refl _ _ | (refine below_alloc ?_ _) | (refine Below.setCell ?_ (by first | exact Nat.le_refl _ | (simp; done) | (simp at *; omega)) _) | (refine below_drewN ?_ _) | (refine Below.drew ?_))))⟩
  · clear e1 e2 e3
    go_enter Try.func165, Try.ntmps165
    go_wp2_with (go_at_call 170; (with_reducible refine (Try.utf8_ValidRune _ _).mono ?_); rintro e w' ⟨rfl, hw⟩; subst hw)
    go_step3
    go_wp2_with fail
    refine wp_loop_rounds 1 ?_
    rw [rounds_succ]
    go_wp2
    go_goals
    simp only [Exit.noGoto_ret, Exit.inBlock, Exit.then]
    go_ret
    exact ⟨rfl, (by (with_reducible repeat (first | assumption | exact Below.refl _ _ | (refine below_alloc ?_ _) | (refine Below.setCell ?_ (by first | exact Nat.le_refl _ | (simp; done) | (simp at *; omega)) _) | (refine below_drewN ?_ _) | (refine Below.drew ?_))))⟩
end Go.Proofs.Ytljeinlapkgjeaa
/- strings.ContainsAny at ' @/', at every text. -/
namespace Go.Proofs.Ytljeinlapkgjeaa
open Go.RowKit
theorem lt_some2 {W : World} {k : Nat} {o : Obj} (h : W.heap[k]? = some o) : k < W.heap.size := (Array.getElem?_eq_some_iff.1 h).1
def sepC (b : UInt8) : Bool := b == 32 || b == 64 || b == 47
def NoSep (l : List UInt8) (i : Nat) : Prop := ∀ j (hj : j < l.length), j < i → sepC l[j] = false
theorem NoSep.zero (l : List UInt8) : NoSep l 0 := fun _ _ h => absurd h (by omega)
theorem NoSep.succ {l : List UInt8} {i : Nat} (h : NoSep l i) {x : UInt8} {hi : i < l.length} (hx : l[i] = x) (hs : sepC x = false) : NoSep l (i + 1) := by
  intro j hj hlt
  rcases Nat.lt_or_ge j i with h1 | h1
  · exact h j hj h1
  · obtain rfl : j = i := by omega
    rw [hx]; exact hs
theorem NoSep.more {l : List UInt8} {i k : Nat} (h : NoSep l i) (hk : ∀ j (hj : j < l.length), i ≤ j → j < i + k → 128 ≤ (l[j]).toNat) (hh : ∀ b : UInt8, 128 ≤ b.toNat → sepC b = false) : NoSep l (i + k) := by
  intro j hj hlt
  rcases Nat.lt_or_ge j i with h1 | h1
  · exact h j hj h1
  · exact hh _ (hk j hj h1 hlt)
theorem NoSep.all {l : List UInt8} {i : Nat} (h : NoSep l i) (hi : l.length ≤ i) : l.any sepC = false := by
  rw [List.any_eq_false]
  intro x hx
  obtain ⟨j, hj, rfl⟩ := List.getElem_of_mem hx
  simp [h j hj (by omega)]
theorem any_of_at {l : List UInt8} {i : Nat} (hi : i < l.length) (h : sepC l[i] = true) : l.any sepC = true :=
  List.any_eq_true.2 ⟨l[i], List.getElem_mem hi, h⟩
theorem sep_hi {b : UInt8} (h : 128 ≤ b.toNat) : sepC b = false := by
  unfold sepC
  have h1 : ¬ b = 32 := by rintro rfl; simp at h
  have h2 : ¬ b = 64 := by rintro rfl; simp at h
  have h3 : ¬ b = 47 := by rintro rfl; simp at h
  simp [h1, h2, h3]
theorem sep_index (b : UInt8) : decide (0 ≤ Lib.indexByte (⟨#[32, 64, 47]⟩ : ByteArray).data.toList b) = sepC b := by
  have := fin256 (p := fun n => decide (0 ≤ Lib.indexByte (⟨#[32, 64, 47]⟩ : ByteArray).data.toList (UInt8.ofNat n)) = sepC (UInt8.ofNat n)) (by decide +kernel) b
  simpa using this
def IdxPost (w : World) (b : Bool) (e : Ending) (w' : World) : Prop := ∃ v : Int, e = .returned (.int .i64 v) ∧ decide (0 ≤ v) = b ∧ Below w.heap.size w w'
theorem bl_len (s : ByteArray) : s.data.toList.length = s.size := Array.length_toList
theorem bl_get (s : ByteArray) (i : Nat) (h : i < s.size) : s.data.toList[i]'(by rw [bl_len]; exact h) = s[i] := by
  simp [ByteArray.getElem_eq_getElem_data]
theorem below_iterAt {w wr : World} (h : Below w.heap.size w wr) {k : Nat} (hk : w.heap.size ≤ k) (s : ByteArray) (p : Nat) : Below w.heap.size w (wr.iterAt k s p) :=
  h.trans ⟨rfl, rfl, rfl, by simp [World.iterAt], fun j hj => by simp [World.iterAt, Array.getElem?_setIfInBounds]; omega⟩
set_option maxRecDepth 100000 in
set_option maxHeartbeats 1000000 in
theorem indexAny_short (s : ByteArray) (w : World) (hs : s.size ≤ 8) : Calls Try.prog 163 #[.string s, .string ⟨#[32, 64, 47]⟩] w (IdxPost w (s.data.toList.any sepC)) := by
  have h8z : decide ((8 : Int) < (s.size : Int)) = false := decide_eq_false (by omega)
  go_enter Try.func163, Try.ntmps163
  go_wp2_with (go_at_call 166; (with_reducible refine (Try.strings_shouldUseASCIISet _ _).mono ?_); rintro e w' ⟨rfl, hw⟩; rw [hw, h8z])
  go_loopg [9, 10] s.size (fun g _ _ wx => ∃ i : Nat, i + g = s.size ∧ wx.heap[w.heap.size]? = some (.stringIter s i) ∧ Below w.heap.size w wx ∧ NoSep s.data.toList i)
  case atStart => exact ⟨0, by omega, World.iter_heap _ _ _, (Below.refl _ _).alloc (Nat.le_refl _) _, NoSep.zero _⟩
  case round =>
    obtain ⟨i, hig, hit, hB, hno⟩ := hrel
    have HN := Lib.hid hno
    clear hno
    cases gk with
    | zero =>
      obtain rfl : i = s.size := by omega
      have hnx := fun ty => Lib.run_next_end_at (P := Try.prog) wr w.heap.size s s.size ty hit (by omega)
      have HI := Lib.hid hit
      clear hit
      go_wp2
      go_ret
      exact ⟨-1, rfl, by rw [HN.out.all (by rw [bl_len]; exact Nat.le_refl _)]; rfl, hB⟩
    | succ g =>
      have hi : i < s.size := by omega
      obtain ⟨x, hx⟩ : ∃ x : UInt8, s[i]'hi = x := ⟨_, rfl⟩
      have hxl : s.data.toList[i]'(by rw [bl_len]; exact hi) = x := by rw [bl_get s i hi]; exact hx
      have HX := Lib.hid hxl
      clear hxl
      by_cases hlo : x.toNat < 128
      · have hnx := fun ty => Lib.run_next_ascii_at (P := Try.prog) wr w.heap.size s i ty hit hi (by rw [hx]; exact hlo)
        rw [hx] at hnx
        have hcon := sep_index x
        have hit2 := Lib.iterAt_heap wr w.heap.size s i (i + 1) hit
        have HI := Lib.hid hit
        have HI2 := Lib.hid hit2
        clear hit hx hit2
        have hback : ((x.toNat : Int)).toNat.toUInt8 = x := by simp
        cases hin : sepC x with
        | false =>
          rw [hin] at hcon
          have hlt : ¬ ((0 : Int) ≤ Lib.indexByte (⟨#[32, 64, 47]⟩ : ByteArray).data.toList x) := of_decide_eq_false hcon
          have HIN := Lib.hid hin
          clear hcon hin
          go_wp2_with (go_at_call 165; (with_reducible refine (Try.strings_IndexRune_ascii _ _ _ (by omega) (by omega)).mono ?_); rintro e w' ⟨rfl, hw⟩; rw [hw, hback])
          go_roundg g
          case measure => omega
          case rel => exact ⟨i + 1, by omega, HI2.out, below_iterAt hB (Nat.le_refl _) _ _, HN.out.succ HX.out HIN.out⟩
        | true =>
          rw [hin] at hcon
          have hge : (0 : Int) ≤ Lib.indexByte (⟨#[32, 64, 47]⟩ : ByteArray).data.toList x := of_decide_eq_true hcon
          have HIN := Lib.hid hin
          clear hcon hin
          go_wp2_with (go_at_call 165; (with_reducible refine (Try.strings_IndexRune_ascii _ _ _ (by omega) (by omega)).mono ?_); rintro e w' ⟨rfl, hw⟩; rw [hw, hback])
          go_ret
          exact ⟨_, rfl, by rw [any_of_at (l := s.data.toList) (i := i) (by rw [bl_len]; exact hi) (by rw [HX.out]; exact HIN.out)]; simp [hge], below_iterAt hB (Nat.le_refl _) _ _⟩
      · obtain ⟨d1, d2, d3, d4, d5⟩ := decode_hi s i hi (by rw [hx]; omega)
        have hnx := fun ty => Lib.run_next_any_at (P := Try.prog) wr w.heap.size s i ty hit hi
        obtain ⟨c, wd, hcw⟩ : ∃ c wd, Utf8.decode s i = (c, wd) := ⟨_, _, rfl⟩
        rw [hcw] at d1 d2 d3 d4 d5 hnx
        dsimp only at d1 d2 d3 d4 d5 hnx
        have hit2 := Lib.iterAt_heap wr w.heap.size s i (i + wd) hit
        have HI := Lib.hid hit
        have HI2 := Lib.hid hit2
        have hn2 := HN.out.more (k := wd) (fun j hj h1 h2 => by rw [bl_get s j (by rw [bl_len] at hj; exact hj)]; exact d5 j (by rw [bl_len] at hj; exact hj) h1 h2) (fun _ h => sep_hi h)
        have HN2 := Lib.hid hn2
        have HCW := Lib.hid hcw
        have HD := Lib.hid d4
        have hcon : ∀ W, Calls Try.prog 165 #[.string ⟨#[32, 64, 47]⟩, .int .i32 c] W (Ret W (.int .i64 (-1))) := by
          intro W
          by_cases hc : c = 65533
          · subst hc; exact indexRune_err W
          · exact indexRune_hi c W (by rcases d4 with h | h; exact h; exact absurd h hc) d1 hc
        have HCON := Lib.hid hcon
        clear hit hx hit2 hn2 d5 d4 hcw hcon
        go_wp2_with (go_at_call 165; (with_reducible refine (HCON.out _).mono ?_); rintro e w1 ⟨rfl, hb1⟩)
        go_roundg (s.size - (i + wd))
        case measure => omega
        case rel => exact ⟨i + wd, by omega, (hb1.block _ (lt_some2 HI2.out)).trans HI2.out, below_then (below_iterAt hB (Nat.le_refl _) _ _) hb1, HN2.out⟩
theorem zero202 (w : World) : (zeroValue 202).run Try.prog w = .ok (.agg (Array.replicate 256 (.bool false))) w := by kernel_rfl
theorem indexAny_any : ∀ l : List UInt8, decide (0 ≤ Lib.indexAny l [32, 64, 47]) = l.any sepC
  | [] => rfl
  | b :: l => by
    have ih := indexAny_any l
    have hge := Lib.indexAny_ge [32, 64, 47] l
    have hc : [32, 64, 47].contains b = sepC b := by simp [List.contains, List.elem, sepC]; grind
    unfold Lib.indexAny
    rw [hc, List.any_cons]
    cases sepC b with
    | true => simp
    | false =>
      rw [← ih]
      simp only [Bool.false_or, Bool.false_eq_true, if_false]
      by_cases h : Lib.indexAny l [32, 64, 47] = -1
      · rw [h]; rfl
      · rw [if_neg (by simpa using h)]
        have : (0 ≤ Lib.indexAny l [32, 64, 47]) = (0 ≤ Lib.indexAny l [32, 64, 47] + 1) := by simp; omega
        simp only [this]
set_option maxHeartbeats 400000 in
theorem containsAny_c (s : ByteArray) (w : World) (hs : s.size ≤ 1000000) : Calls Try.prog 158 #[.string s, .string ⟨#[32, 64, 47]⟩] w (Ret w (.bool (s.data.toList.any sepC))) := by
  have hix : Calls Try.prog 163 #[.string s, .string ⟨#[32, 64, 47]⟩] w (IdxPost w (s.data.toList.any sepC)) := by
    by_cases h : s.size ≤ 8
    · exact indexAny_short s w h
    · refine (Try.strings_IndexAny_long zero202 s ⟨#[32, 64, 47]⟩ w (by decide) (by omega) (by omega) (by decide) ?_).mono ?_
      · intro j b hj
        match j, hj with
        | 0, hj => simp at hj; subst hj; decide
        | 1, hj => simp at hj; subst hj; decide
        | 2, hj => simp at hj; subst hj; decide
        | j + 3, hj => simp at hj
      · rintro e w' ⟨rfl, rfl⟩
        exact ⟨_, rfl, indexAny_any _, (by (with_reducible repeat (first | assumption | exact Below.refl _ _ | (refine below_alloc ?_ _) | (refine Below.setCell ?_ (by first | exact Nat.le_refl _ | (simp; done) | (simp at *; omega)) _) | (refine below_drewN ?_ _) | (refine Below.drew ?_))))⟩
  have H := Lib.hid hix
  clear hix
  go_enter Try.func158, Try.ntmps158
  go_wp2_with (go_at_call 163; (with_reducible refine (H.out).mono ?_); rintro e w1 ⟨v, rfl, hv, hb1⟩)
  go_ret
  refine ⟨?_, hb1⟩
  simp [hv]
end Go.Proofs.Ytljeinlapkgjeaa
