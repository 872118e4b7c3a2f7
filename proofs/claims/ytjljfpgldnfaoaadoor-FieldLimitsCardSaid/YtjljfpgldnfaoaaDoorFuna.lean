/- Contracts of the functions that the law reaches, and the plain law. -/
import Derived.Test.YtjljfpgldnfaoaaDoorLibb
import Derived.Shelf.Strings.Builder1
import Derived.Shelf.Strings.Builder2
import Derived.Shelf.Small.Utf8
import Derived.Shelf.Small.Strs
import Derived.Shelf.Strings.BuilderF
import Derived.Shelf.Utf8.RuneCount
import Derived.Shelf.Strconv.Itoa0
import Derived.Shelf.Strconv.Itoa1
import Derived.Shelf.LaysM
import Derived.Shelf.Strconv.Itoa2
import Derived.Shelf.Strconv.Itoa3
import Derived.Shelf.Strings.Search1
import Derived.Shelf.Strings.Search2
import Derived.Shelf.Strings.Search3
import Derived.Shelf.Strings.Cut
import Derived.Shelf.Strings.Count
import Derived.Shelf.Strings.Shaped
import Derived.Shelf.Strings.Prefix
import Derived.Shelf.Strings.Split
import Derived.Shelf.Strings.Replace
import Derived.Shelf.Strings.SplitShaped
import Derived.Shelf.Unicode.Decode
import Derived.Shelf.Strings.Runes
import Derived.Shelf.Strings.RuneCount
import Derived.Shelf.Strings.IndexAny
import Derived.Shelf.Strings.AsciiSet
import Derived.Shelf.Strings.IndexAnyAll
import Derived.Shelf.Strings.Explode
import Derived.Shelf.Bits.Mul64
import Derived.Shelf.Strings.Repeat
import Derived.Shelf.Unicode.DecodeSlow
import Derived.Shelf.Unicode.DecodeAny
import Derived.Test.YtjljfpgldnfaoaaDoorProg
import Derived.Laws.RangeAny
import Derived.Lib.IndexAny
import Derived.Laws.Runes
/-
  DERIVED: THE SHELF's CONTRACTS AT THIS DUMP, IN PLAIN WORDS (tools/lay-plain.mjs out of 'TrydShelf.lean', which tools/lay-shelf.mjs wrote): THE SAME DECLARATIONS UNDER THE SAME NAMES: 'import', 'namespace', 'open', 'def', 'theorem' AND NOTHING ELSE: no command of the shelf's: FOR A HAND-IN. Each laying: the table of numbers ('.._ren') and one theorem, a field a fact of the dump's own or the kernel's comparison; each contract: ONE APPLICATION.
-/
namespace Go.Proofs
open Go.Shelf
def Tryd.lays170_ren : Go.Shelf.Ren := ⟨fun | 170 => 44 | n => n, fun | 70 => 62 | 3 => 3 | 0 => 0 | 72 => 64 | 37 => 44 | 5 => 5 | n => n, fun | n => n⟩
theorem Tryd.lays170 : Go.Proofs.Lays.n170 Tryd.prog Tryd.lays170_ren := {
  mixed := by kernel_rfl
  f170 := Tryd.func44.trans (congrArg some (by kernel_rfl))
  t0 := Tryd.underlying0
  a0 := Tryd.isAgg0
  z0 := Tryd.sizeOf0
  v0 := Tryd.zeroValue0
  t3 := Tryd.underlying3
  a3 := Tryd.isAgg3
  z3 := Tryd.sizeOf3
  v3 := Tryd.zeroValue3
  t37 := Tryd.underlying44
  a37 := Tryd.isAgg44
  z37 := Tryd.sizeOf44
  v37 := Tryd.zeroValue44
  t70 := Tryd.underlying62
  a70 := Tryd.isAgg62
  z70 := Tryd.sizeOf62
  v70 := Tryd.zeroValue62
  t72 := Tryd.underlying64
  a72 := Tryd.isAgg64
  z72 := Tryd.sizeOf64
  v72 := Tryd.zeroValue64 }
open Go.RowKit in
/-- (*strings.Builder).Len: "Len returns the number of accumulated bytes; b.Len() == len(b.String()).": the world is as it was. (LAID: no walk: one application.) -/
theorem Tryd.Builder_Len (B b : Nat) (bs : List Value) (w : World) (h : Lib.IsBuilder 64 5 B b bs w) :
    Calls Tryd.prog 44 #[.pointer (some ⟨b, 0, none⟩)] w fun e w' => e = .returned (.int .i64 bs.length) ∧ w' = w := Any.Builder_Len Tryd.lays170 B b bs w h
def Tryd.lays169_ren : Go.Shelf.Ren := ⟨fun | 169 => 45 | n => n, fun | 70 => 62 | 9 => 9 | 0 => 0 | 72 => 64 | 37 => 44 | 127 => 82 | 3 => 3 | 5 => 5 | n => n, fun | n => n⟩
theorem Tryd.lays169 : Go.Proofs.Lays.n169 Tryd.prog Tryd.lays169_ren := {
  mixed := by kernel_rfl
  f169 := Tryd.func45.trans (congrArg some (by kernel_rfl))
  t0 := Tryd.underlying0
  a0 := Tryd.isAgg0
  z0 := Tryd.sizeOf0
  v0 := Tryd.zeroValue0
  t3 := Tryd.underlying3
  a3 := Tryd.isAgg3
  z3 := Tryd.sizeOf3
  v3 := Tryd.zeroValue3
  t9 := Tryd.underlying9
  a9 := Tryd.isAgg9
  z9 := Tryd.sizeOf9
  v9 := Tryd.zeroValue9
  t37 := Tryd.underlying44
  a37 := Tryd.isAgg44
  z37 := Tryd.sizeOf44
  v37 := Tryd.zeroValue44
  t70 := Tryd.underlying62
  a70 := Tryd.isAgg62
  z70 := Tryd.sizeOf62
  v70 := Tryd.zeroValue62
  t72 := Tryd.underlying64
  a72 := Tryd.isAgg64
  z72 := Tryd.sizeOf64
  v72 := Tryd.zeroValue64
  t127 := Tryd.underlying82
  a127 := Tryd.isAgg82
  z127 := Tryd.sizeOf82
  v127 := Tryd.zeroValue82 }
theorem Tryd.Builder_Extra_169 : Builder.Extra Tryd.prog Tryd.lays169_ren := {
  sizeBuilder := by kernel_rfl
  liesBuilder := by kernel_rfl
  t5 := Tryd.underlying5
  a5 := Tryd.isAgg5
  z5 := Tryd.sizeOf5
  v5 := Tryd.zeroValue5
  infoByte := by kernel_rfl
  cellsByte := by kernel_rfl
  sizeByte := by kernel_rfl
  neB5 := by decide }
open Go.RowKit in
/-- (*strings.Builder).String: "String returns the accumulated string.": OF A BUILDER THAT HOLDS AT LEAST ONE BYTE. ✋ THE MODEL FREEZES THOSE BYTES IN THE BUFFER (unsafe.String): a later write INTO them ends the model's run without an answer; a later append BEHIND them goes on. The statement's order of evaluation is drawn: one draw. (LAID: no walk: one application.) -/
theorem Tryd.Builder_String (B b : Nat) (l : List UInt8) (w : World) (h : Lib.IsBuilder 64 5 B b (Lib.byteCells l) w) (h0 : l ≠ []) :
    Calls Tryd.prog 45 #[.pointer (some ⟨b, 0, none⟩)] w fun e w' => e = .returned (.string ⟨l.toArray⟩) ∧ Below B w w' := Any.Builder_String Tryd.lays169 Tryd.Builder_Extra_169 B b l w h h0
open Go.RowKit in
/-- (*strings.Builder).String OF A BUILDER THAT HOLDS NO BYTE: the empty string. (Its buffer is nil, or a row of which it has taken nothing yet; where that row has NO capacity the model lays one new block for unsafe.SliceData's 'some address'.) One draw. (LAID: no walk: one application.) -/
theorem Tryd.Builder_String_empty (B b : Nat) (w : World) (h : Lib.IsBuilder 64 5 B b [] w) (hBw : B ≤ w.heap.size) :
    Calls Tryd.prog 45 #[.pointer (some ⟨b, 0, none⟩)] w fun e w' => e = .returned (.string ⟨#[]⟩) ∧ Below B w w' := Any.Builder_String_empty Tryd.lays169 Tryd.Builder_Extra_169 B b w h hBw
open Go.RowKit in
/-- (*strings.Builder).String: "String returns the accumulated string.": WHATEVER THE BUILDER HOLDS. (LAID: no walk: one application.) -/
theorem Tryd.Builder_String_any (B b : Nat) (l : List UInt8) (w : World) (h : Lib.IsBuilder 64 5 B b (Lib.byteCells l) w) (hBw : B ≤ w.heap.size) :
    Calls Tryd.prog 45 #[.pointer (some ⟨b, 0, none⟩)] w fun e w' => e = .returned (.string ⟨l.toArray⟩) ∧ Below B w w' := Any.Builder_String_any Tryd.lays169 Tryd.Builder_Extra_169 B b l w h hBw
def Tryd.lays241_ren : Go.Shelf.Ren := ⟨fun | 241 => 59 | 277 => 68 | n => n, fun | 70 => 62 | 3 => 3 | 0 => 0 | 72 => 64 | 37 => 44 | 5 => 5 | n => n, fun | n => n⟩
theorem Tryd.lays241 : Go.Proofs.Lays.n241 Tryd.prog Tryd.lays241_ren := {
  mixed := by kernel_rfl
  f241 := Tryd.func59.trans (congrArg some (by kernel_rfl))
  f277 := Tryd.func68.trans (congrArg some (by kernel_rfl))
  t0 := Tryd.underlying0
  a0 := Tryd.isAgg0
  z0 := Tryd.sizeOf0
  v0 := Tryd.zeroValue0
  t3 := Tryd.underlying3
  a3 := Tryd.isAgg3
  z3 := Tryd.sizeOf3
  v3 := Tryd.zeroValue3
  t37 := Tryd.underlying44
  a37 := Tryd.isAgg44
  z37 := Tryd.sizeOf44
  v37 := Tryd.zeroValue44
  t70 := Tryd.underlying62
  a70 := Tryd.isAgg62
  z70 := Tryd.sizeOf62
  v70 := Tryd.zeroValue62
  t72 := Tryd.underlying64
  a72 := Tryd.isAgg64
  z72 := Tryd.sizeOf64
  v72 := Tryd.zeroValue64 }
theorem Tryd.Builder_Extra_241 : Builder.Extra Tryd.prog Tryd.lays241_ren := {
  sizeBuilder := by kernel_rfl
  liesBuilder := by kernel_rfl
  t5 := Tryd.underlying5
  a5 := Tryd.isAgg5
  z5 := Tryd.sizeOf5
  v5 := Tryd.zeroValue5
  infoByte := by kernel_rfl
  cellsByte := by kernel_rfl
  sizeByte := by kernel_rfl
  neB5 := by decide }
open Go.RowKit in
/-- (*strings.Builder).grow (no doc but "grow copies the buffer to a new, larger buffer so that there are at least n bytes of capacity beyond len(b.buf)."): AT A BUILDER WITHOUT A BUFFER: a new row of whatever bytes for its buffer, none of them its own yet. Three draws. (LAID: no walk: one application.) -/
theorem Tryd.Builder_grow_fresh (B b n : Nat) (w : World) (hB : B ≤ b) (hbk : w.heap[b]? = some (.cells #[.pointer (some ⟨b, 0, none⟩), .slice none 0 0] 64 (0, 0))) (hBw : B ≤ w.heap.size) (hn : n ≤ 281474976710656) :
    Calls Tryd.prog 59 #[.pointer (some ⟨b, 0, none⟩), .int .i64 n] w fun e w' => e = .returned (.tuple #[]) ∧ (Lib.BuilderAt 64 5 B b (.pointer (some ⟨b, 0, none⟩)) [] w' ∧ Below B w w') := Any.Builder_grow_fresh Tryd.lays241 Tryd.Builder_Extra_241 B b n w hB hbk hBw hn
def Tryd.lays165_ren : Go.Shelf.Ren := ⟨fun | 165 => 42 | 240 => 58 | 241 => 59 | 276 => 67 | 277 => 68 | n => n, fun | 70 => 62 | 3 => 3 | 0 => 0 | 4 => 4 | 9 => 9 | 20 => 20 | 72 => 64 | 37 => 44 | 164 => 87 | 5 => 5 | n => n, fun | n => n⟩
theorem Tryd.lays165 : Go.Proofs.Lays.n165 Tryd.prog Tryd.lays165_ren := {
  mixed := by kernel_rfl
  f165 := Tryd.func42.trans (congrArg some (by kernel_rfl))
  f240 := Tryd.func58.trans (congrArg some (by kernel_rfl))
  f241 := Tryd.func59.trans (congrArg some (by kernel_rfl))
  f276 := Tryd.func67.trans (congrArg some (by kernel_rfl))
  f277 := Tryd.func68.trans (congrArg some (by kernel_rfl))
  t0 := Tryd.underlying0
  a0 := Tryd.isAgg0
  z0 := Tryd.sizeOf0
  v0 := Tryd.zeroValue0
  t3 := Tryd.underlying3
  a3 := Tryd.isAgg3
  z3 := Tryd.sizeOf3
  v3 := Tryd.zeroValue3
  t4 := Tryd.underlying4
  a4 := Tryd.isAgg4
  z4 := Tryd.sizeOf4
  v4 := Tryd.zeroValue4
  t9 := Tryd.underlying9
  a9 := Tryd.isAgg9
  z9 := Tryd.sizeOf9
  v9 := Tryd.zeroValue9
  t20 := Tryd.underlying20
  a20 := Tryd.isAgg20
  z20 := Tryd.sizeOf20
  v20 := Tryd.zeroValue20
  t37 := Tryd.underlying44
  a37 := Tryd.isAgg44
  z37 := Tryd.sizeOf44
  v37 := Tryd.zeroValue44
  t70 := Tryd.underlying62
  a70 := Tryd.isAgg62
  z70 := Tryd.sizeOf62
  v70 := Tryd.zeroValue62
  t72 := Tryd.underlying64
  a72 := Tryd.isAgg64
  z72 := Tryd.sizeOf64
  v72 := Tryd.zeroValue64
  t164 := Tryd.underlying87
  a164 := Tryd.isAgg87
  z164 := Tryd.sizeOf87
  v164 := Tryd.zeroValue87 }
theorem Tryd.Builder_Extra_165 : Builder.Extra Tryd.prog Tryd.lays165_ren := {
  sizeBuilder := by kernel_rfl
  liesBuilder := by kernel_rfl
  t5 := Tryd.underlying5
  a5 := Tryd.isAgg5
  z5 := Tryd.sizeOf5
  v5 := Tryd.zeroValue5
  infoByte := by kernel_rfl
  cellsByte := by kernel_rfl
  sizeByte := by kernel_rfl
  neB5 := by decide }
open Go.RowKit in
/-- (*strings.Builder).Grow AT A BUILDER THAT HAS NOT BEEN WRITTEN ('var b strings.Builder; b.Grow(n)'): "Grow grows b's capacity, if necessary, to guarantee space for another n bytes.": it holds no byte behind it as before it. (LAID: no walk: one application.) -/
theorem Tryd.Builder_Grow_fresh (B b n : Nat) (w : World) (hB : B ≤ b) (hbk : w.heap[b]? = some (.cells #[.pointer none, .slice none 0 0] 64 (0, 0))) (hBw : B ≤ w.heap.size) (hn : n ≤ 281474976710656) :
    Calls Tryd.prog 42 #[.pointer (some ⟨b, 0, none⟩), .int .i64 n] w fun e w' => e = .returned (.tuple #[]) ∧ (Lib.BuilderAt 64 5 B b (.pointer (some ⟨b, 0, none⟩)) [] w' ∧ Below B w w') := Any.Builder_Grow_fresh Tryd.lays165 Tryd.Builder_Extra_165 B b n w hB hbk hBw hn
def Tryd.lays119_ren : Go.Shelf.Ren := ⟨fun | 119 => 86 | n => n, fun | 21 => 21 | 4 => 4 | n => n, fun | n => n⟩
theorem Tryd.lays119 : Go.Proofs.Lays.n119 Tryd.prog Tryd.lays119_ren := {
  mixed := by kernel_rfl
  f119 := Tryd.func86.trans (congrArg some (by kernel_rfl))
  t4 := Tryd.underlying4
  a4 := Tryd.isAgg4
  z4 := Tryd.sizeOf4
  v4 := Tryd.zeroValue4
  t21 := Tryd.underlying21
  a21 := Tryd.isAgg21
  z21 := Tryd.sizeOf21
  v21 := Tryd.zeroValue21 }
/-- utf8.ValidRune: "ValidRune reports whether r can be legally encoded as UTF-8. Code points that are out of range or a surrogate half are illegal.": IT RETURNS 'Lib.validRune r'; the world is as it was. (LAID: no walk: one application.) -/
theorem Tryd.utf8_ValidRune (r : Int) (w : World) :
    Calls Tryd.prog 86 #[.int .i32 r] w fun e w' => e = .returned (.bool (Lib.validRune r)) ∧ w' = w := Any.utf8_ValidRune Tryd.lays119 r w
def Tryd.lays137_ren : Go.Shelf.Ren := ⟨fun | 137 => 33 | 217 => 50 | 266 => 63 | n => n, fun | 9 => 9 | 5 => 5 | 3 => 3 | n => n, fun | n => n⟩
theorem Tryd.lays137 : Go.Proofs.Lays.n137 Tryd.prog Tryd.lays137_ren := {
  mixed := by kernel_rfl
  f137 := Tryd.func33.trans (congrArg some (by kernel_rfl))
  f217 := Tryd.func50.trans (congrArg some (by kernel_rfl))
  f266 := Tryd.func63.trans (congrArg some (by kernel_rfl))
  t3 := Tryd.underlying3
  a3 := Tryd.isAgg3
  z3 := Tryd.sizeOf3
  v3 := Tryd.zeroValue3
  t5 := Tryd.underlying5
  a5 := Tryd.isAgg5
  z5 := Tryd.sizeOf5
  v5 := Tryd.zeroValue5
  t9 := Tryd.underlying9
  a9 := Tryd.isAgg9
  z9 := Tryd.sizeOf9
  v9 := Tryd.zeroValue9 }
open Go.RowKit in
/-- strings.IndexByte: "IndexByte returns the index of the first instance of c in s, or -1 if c is not present in s.": IT RETURNS 'Lib.indexByte s c'; the world is as it was. (LAID: no walk: one application.) -/
theorem Tryd.strings_IndexByte (s : ByteArray) (c : Int) (w : World) :
    Calls Tryd.prog 33 #[.string s, .int .u8 c] w fun e w' => e = .returned (.int .i64 (Lib.indexByte s.data.toList c.toNat.toUInt8)) ∧ w' = w := Any.strings_IndexByte Tryd.lays137 s c w
open Go.RowKit in
/-- (*strings.Builder).Len: "Len returns the number of accumulated bytes; b.Len() == len(b.String()).": the world is as it was. (THE FORM '_f': 'Lib.IsBuilderF'.) (LAID: no walk: one application.) -/
theorem Tryd.Builder_Len_f (B b : Nat) (bs : List Value) (w : World) (h : Lib.IsBuilderF 64 5 B b bs w) :
    Calls Tryd.prog 44 #[.pointer (some ⟨b, 0, none⟩)] w fun e w' => e = .returned (.int .i64 bs.length) ∧ w' = w := Any.Builder_Len_f Tryd.lays170 B b bs w h
open Go.RowKit in
/-- (*strings.Builder).String: "String returns the accumulated string.": OF A BUILDER THAT HOLDS AT LEAST ONE BYTE. ✋ THE MODEL FREEZES THOSE BYTES IN THE BUFFER (unsafe.String): a later write INTO them ends the model's run without an answer; a later append BEHIND them goes on. The statement's order of evaluation is drawn: one draw. THE FORM '_f': IT SAYS BESIDES THAT THE BUILDER IS A BUILDER STILL ('Lib.IsBuilderF', the same bytes): SO IT CAN BE WRITTEN ON: 'b.WriteString(b.String()[:k])'. (LAID: no walk: one application.) -/
theorem Tryd.Builder_String_f (B b : Nat) (l : List UInt8) (w : World) (h : Lib.IsBuilderF 64 5 B b (Lib.byteCells l) w) (h0 : l ≠ []) :
    Calls Tryd.prog 45 #[.pointer (some ⟨b, 0, none⟩)] w fun e w' => e = .returned (.string ⟨l.toArray⟩) ∧ (Lib.IsBuilderF 64 5 B b (Lib.byteCells l) w' ∧ Below B w w') := Any.Builder_String_f Tryd.lays169 Tryd.Builder_Extra_169 B b l w h h0
open Go.RowKit in
/-- (*strings.Builder).String OF A BUILDER THAT HOLDS NO BYTE: the empty string; THE FORM '_f': a builder still. (LAID: no walk: one application.) -/
theorem Tryd.Builder_String_empty_f (B b : Nat) (w : World) (h : Lib.IsBuilderF 64 5 B b [] w) (hBw : B ≤ w.heap.size) :
    Calls Tryd.prog 45 #[.pointer (some ⟨b, 0, none⟩)] w fun e w' => e = .returned (.string ⟨#[]⟩) ∧ (Lib.IsBuilderF 64 5 B b [] w' ∧ Below B w w') := Any.Builder_String_empty_f Tryd.lays169 Tryd.Builder_Extra_169 B b w h hBw
open Go.RowKit in
/-- (*strings.Builder).String: "String returns the accumulated string.": WHATEVER THE BUILDER HOLDS; THE FORM '_f': OF A BUILDER THAT MAY HAVE BEEN READ BEFORE; AND IT IS A BUILDER STILL, holding the same bytes: it can be written on. (LAID: no walk: one application.) -/
theorem Tryd.Builder_String_any_f (B b : Nat) (l : List UInt8) (w : World) (h : Lib.IsBuilderF 64 5 B b (Lib.byteCells l) w) (hBw : B ≤ w.heap.size) :
    Calls Tryd.prog 45 #[.pointer (some ⟨b, 0, none⟩)] w fun e w' => e = .returned (.string ⟨l.toArray⟩) ∧ (Lib.IsBuilderF 64 5 B b (Lib.byteCells l) w' ∧ Below B w w') := Any.Builder_String_any_f Tryd.lays169 Tryd.Builder_Extra_169 B b l w h hBw
def Tryd.lays195_ren : Go.Shelf.Ren := ⟨fun | 195 => 65 | n => n, fun | 9 => 9 | 3 => 3 | 0 => 0 | 4 => 4 | n => n, fun | n => n⟩
theorem Tryd.lays195 : Go.Proofs.Lays.n195 Tryd.prog Tryd.lays195_ren := {
  mixed := by kernel_rfl
  f195 := Tryd.func65.trans (congrArg some (by kernel_rfl))
  t0 := Tryd.underlying0
  a0 := Tryd.isAgg0
  z0 := Tryd.sizeOf0
  v0 := Tryd.zeroValue0
  t3 := Tryd.underlying3
  a3 := Tryd.isAgg3
  z3 := Tryd.sizeOf3
  v3 := Tryd.zeroValue3
  t4 := Tryd.underlying4
  a4 := Tryd.isAgg4
  z4 := Tryd.sizeOf4
  v4 := Tryd.zeroValue4
  t9 := Tryd.underlying9
  a9 := Tryd.isAgg9
  z9 := Tryd.sizeOf9
  v9 := Tryd.zeroValue9 }
open Go.RowKit in
/-- unicode/utf8.RuneCountInString: "RuneCountInString is like RuneCount but its input is a string." ("RuneCount returns the number of runes in p. Erroneous and short encodings are treated as single runes of width 1 byte."): EVERY STRING, valid UTF-8 or not: 'Lib.runeCount s' (plain Lean over the model's own 'Utf8.decode'; 'Lib.runeCount_le': at most len(s); 'Lib.runeCount_ascii': on ASCII: len(s)). THE ONE CONDITION: len(s) below 2^63 - 1 (the counter does not wrap): the form's reach pays it. THE WORLD BEHIND THE CALL: ONE BLOCK MORE: the model's iterator over s, at its end: all else as it was. (LAID: no walk: one application.) -/
theorem Tryd.utf8_RuneCountInString (s : ByteArray) (w : World) (hs : s.size < 9223372036854775807) :
    Calls Tryd.prog 65 #[.string s] w fun e w' => e = .returned (.int .i64 (Lib.runeCount s)) ∧ ∃ pos, w' = w.iter s pos := Any.utf8_RuneCountInString Tryd.lays195 s w hs
def Tryd.lays129_ren : Go.Shelf.Ren := ⟨fun | 129 => 82 | n => n, fun | 53 => 79 | 3 => 3 | 4 => 4 | 46 => 59 | 5 => 5 | 9 => 9 | n => n, fun | n => n⟩
theorem Tryd.lays129 : Go.Proofs.Lays.n129 Tryd.prog Tryd.lays129_ren := {
  mixed := by kernel_rfl
  f129 := Tryd.func82.trans (congrArg some (by kernel_rfl))
  t3 := Tryd.underlying3
  a3 := Tryd.isAgg3
  z3 := Tryd.sizeOf3
  v3 := Tryd.zeroValue3
  t4 := Tryd.underlying4
  a4 := Tryd.isAgg4
  z4 := Tryd.sizeOf4
  v4 := Tryd.zeroValue4
  t5 := Tryd.underlying5
  a5 := Tryd.isAgg5
  z5 := Tryd.sizeOf5
  v5 := Tryd.zeroValue5
  t9 := Tryd.underlying9
  a9 := Tryd.isAgg9
  z9 := Tryd.sizeOf9
  v9 := Tryd.zeroValue9
  t46 := Tryd.underlying59
  a46 := Tryd.isAgg59
  z46 := Tryd.sizeOf59
  v46 := Tryd.zeroValue59
  t53 := Tryd.underlying79
  a53 := Tryd.isAgg79
  z53 := Tryd.sizeOf79
  v53 := Tryd.zeroValue79 }
/-- bits.Len64: "Len64 returns the minimum number of bits required to represent x; the result is 0 for x == 0.": IT RETURNS 'Lib.bitLen x'; the world is as it was. ('h0', 'h1': x is a uint64.) (LAID: no walk: one application.) -/
theorem Tryd.bits_Len64 (x : Int) (w : World) (h0 : 0 ≤ x) (h1 : x ≤ 18446744073709551615) :
    Calls Tryd.prog 82 #[.int .u64 x] w fun e w' => e = .returned (.int .i64 (Lib.bitLen x.toNat)) ∧ w' = w := Any.bits_Len64 Tryd.lays129 x w h0 h1
def Tryd.lays317_ren : Go.Shelf.Ren := ⟨fun | 317 => 81 | n => n, fun | 3 => 3 | 46 => 59 | n => n, fun | n => n⟩
theorem Tryd.lays317 : Go.Proofs.Lays.n317 Tryd.prog Tryd.lays317_ren := {
  mixed := by kernel_rfl
  f317 := Tryd.func81.trans (congrArg some (by kernel_rfl))
  t3 := Tryd.underlying3
  a3 := Tryd.isAgg3
  z3 := Tryd.sizeOf3
  v3 := Tryd.zeroValue3
  t46 := Tryd.underlying59
  a46 := Tryd.isAgg59
  z46 := Tryd.sizeOf59
  v46 := Tryd.zeroValue59 }
open Go.Lib in
/-- internal/strconv.log10Pow2: "log10Pow2(x) returns ⌊log₁₀ 2**x⌋ = ⌊x * log₁₀ 2⌋.": '(x * 78913) >> 18', at an x up to 64 (a length in bits). The world is as it was. (LAID: no walk: one application.) -/
theorem Tryd.internal_strconv_log10Pow2 (x : Nat) (h : x ≤ 64) (w : World) :
    Calls Tryd.prog 81 #[.int .i64 x] w fun e w' => e = .returned (.int .i64 (Lib.l10 x)) ∧ w' = w := Any.internal_strconv_log10Pow2 Tryd.lays317 x h w
def Tryd.lays318_ren : Go.Shelf.Ren := ⟨fun | 318 => 83 | n => n, fun | 3 => 3 | 4 => 4 | n => n, fun | n => n⟩
theorem Tryd.lays318 : Go.Proofs.Lays.n318 Tryd.prog Tryd.lays318_ren := {
  mixed := by kernel_rfl
  f318 := Tryd.func83.trans (congrArg some (by kernel_rfl))
  t3 := Tryd.underlying3
  a3 := Tryd.isAgg3
  z3 := Tryd.sizeOf3
  v3 := Tryd.zeroValue3
  t4 := Tryd.underlying4
  a4 := Tryd.isAgg4
  z4 := Tryd.sizeOf4
  v4 := Tryd.zeroValue4 }
open Go.Lib in
/-- internal/strconv.bool2: "bool2 converts b to an integer: 1 for true, 0 for false." The world is as it was. (LAID: no walk: one application.) -/
theorem Tryd.internal_strconv_bool2_int (b : Bool) (w : World) :
    Calls Tryd.prog 83 #[.bool b] w fun e w' => e = .returned (.int .i64 (if b then 1 else 0)) ∧ w' = w := Any.internal_strconv_bool2_int Tryd.lays318 b w
def Tryd.lays283_ren : Go.Shelf.Ren := ⟨fun | 283 => 69 | n => n, fun | 3 => 3 | 9 => 9 | 4 => 4 | n => n, fun | n => n⟩
theorem Tryd.lays283 : Go.Proofs.Lays.n283 Tryd.prog Tryd.lays283_ren := {
  mixed := by kernel_rfl
  f283 := Tryd.func69.trans (congrArg some (by kernel_rfl))
  t3 := Tryd.underlying3
  a3 := Tryd.isAgg3
  z3 := Tryd.sizeOf3
  v3 := Tryd.zeroValue3
  t4 := Tryd.underlying4
  a4 := Tryd.isAgg4
  z4 := Tryd.sizeOf4
  v4 := Tryd.zeroValue4
  t9 := Tryd.underlying9
  a9 := Tryd.isAgg9
  z9 := Tryd.sizeOf9
  v9 := Tryd.zeroValue9 }
open Go.Lib in
/-- internal/strconv.small: "small returns the string for an i with 0 <= i < nSmalls.": i's decimal numeral. The world is as it was. (LAID: no walk: one application.) -/
theorem Tryd.internal_strconv_small (i : Nat) (h : i < 100) (w : World) :
    Calls Tryd.prog 69 #[.int .i64 i] w fun e w' => e = .returned (.string ⟨(Lib.decDigits i).toArray⟩) ∧ w' = w := Any.internal_strconv_small Tryd.lays283 i h w
def Tryd.laysM284_ren : Go.Shelf.Ren := ⟨fun | 284 => 70 | 129 => 82 | 317 => 81 | 318 => 83 | n => n, fun | 53 => 79 | 3 => 3 | 212 => 104 | 0 => 0 | 4 => 4 | 46 => 59 | 5 => 5 | 9 => 9 | n => n, fun | 17 => 1 | n => n⟩
theorem Tryd.laysM284 : Go.Proofs.LaysM.n284 Tryd.prog Tryd.laysM284_ren := {
  mixed := by kernel_rfl
  f129 := Tryd.func82.trans (congrArg some (by kernel_rfl))
  f284 := Tryd.func70.trans (congrArg some (by kernel_rfl))
  f317 := Tryd.func81.trans (congrArg some (by kernel_rfl))
  f318 := Tryd.func83.trans (congrArg some (by kernel_rfl))
  t0 := Tryd.underlying0
  a0 := Tryd.isAgg0
  z0 := Tryd.sizeOf0
  v0 := Tryd.zeroValue0
  t3 := Tryd.underlying3
  a3 := Tryd.isAgg3
  z3 := Tryd.sizeOf3
  v3 := Tryd.zeroValue3
  t4 := Tryd.underlying4
  a4 := Tryd.isAgg4
  z4 := Tryd.sizeOf4
  v4 := Tryd.zeroValue4
  t5 := Tryd.underlying5
  a5 := Tryd.isAgg5
  z5 := Tryd.sizeOf5
  v5 := Tryd.zeroValue5
  t9 := Tryd.underlying9
  a9 := Tryd.isAgg9
  z9 := Tryd.sizeOf9
  v9 := Tryd.zeroValue9
  t46 := Tryd.underlying59
  a46 := Tryd.isAgg59
  z46 := Tryd.sizeOf59
  v46 := Tryd.zeroValue59
  t53 := Tryd.underlying79
  a53 := Tryd.isAgg79
  z53 := Tryd.sizeOf79
  v53 := Tryd.zeroValue79
  t212 := Tryd.underlying104
  a212 := Tryd.isAgg104
  z212 := Tryd.sizeOf104
  v212 := Tryd.zeroValue104
  g17 := by kernel_rfl
  i0 := by kernel_rfl
  i3 := by kernel_rfl
  i4 := by kernel_rfl
  i5 := by kernel_rfl
  i9 := by kernel_rfl
  i46 := by kernel_rfl
  i53 := by kernel_rfl
  i212 := by kernel_rfl
  m17 := by kernel_rfl }
open Go.Lib in
/-- internal/strconv.numDigits, at a d that is not 0: THE NUMBER OF d's DECIMAL DIGITS. The world is as it was. (LAID: no walk: one application.) -/
theorem Tryd.internal_strconv_numDigits (u : Nat) (h1 : 1 ≤ u) (h2 : u < 18446744073709551616) (w : World) (htab : Lib.TabIs Tryd.prog w "internal/strconv.uint64pow10" .u64 Lib.pow10Tab) :
    Calls Tryd.prog 70 #[.int .u64 u] w fun e w' => e = .returned (.int .i64 (Lib.nDigits u)) ∧ w' = w := Any.internal_strconv_numDigits Tryd.laysM284 u h1 h2 w htab
def Tryd.lays285_ren : Go.Shelf.Ren := ⟨fun | 285 => 71 | n => n, fun | 37 => 44 | 53 => 79 | 3 => 3 | 4 => 4 | 51 => 76 | 9 => 9 | 5 => 5 | 0 => 0 | n => n, fun | n => n⟩
theorem Tryd.lays285 : Go.Proofs.Lays.n285 Tryd.prog Tryd.lays285_ren := {
  mixed := by kernel_rfl
  f285 := Tryd.func71.trans (congrArg some (by kernel_rfl))
  t0 := Tryd.underlying0
  a0 := Tryd.isAgg0
  z0 := Tryd.sizeOf0
  v0 := Tryd.zeroValue0
  t3 := Tryd.underlying3
  a3 := Tryd.isAgg3
  z3 := Tryd.sizeOf3
  v3 := Tryd.zeroValue3
  t4 := Tryd.underlying4
  a4 := Tryd.isAgg4
  z4 := Tryd.sizeOf4
  v4 := Tryd.zeroValue4
  t5 := Tryd.underlying5
  a5 := Tryd.isAgg5
  z5 := Tryd.sizeOf5
  v5 := Tryd.zeroValue5
  t9 := Tryd.underlying9
  a9 := Tryd.isAgg9
  z9 := Tryd.sizeOf9
  v9 := Tryd.zeroValue9
  t37 := Tryd.underlying44
  a37 := Tryd.isAgg44
  z37 := Tryd.sizeOf44
  v37 := Tryd.zeroValue44
  t51 := Tryd.underlying76
  a51 := Tryd.isAgg76
  z51 := Tryd.sizeOf76
  v51 := Tryd.zeroValue76
  t53 := Tryd.underlying79
  a53 := Tryd.isAgg79
  z53 := Tryd.sizeOf79
  v53 := Tryd.zeroValue79 }
open Go.RowKit Go.Sort Go.Lib in
/-- internal/strconv.formatBase10: "formatBase10 formats the decimal representation of u into a. The caller is responsible for ensuring that a is big enough to hold u. If a is too big, leading zeros will be filled in as needed.": THE ROW HOLDS u's DIGITS ('FmtInv .. 0 ..': every place t holds 'dg u (len - 1 - t)'); all else is as it was but for the count of draws. (LAID: no walk: one application.) -/
theorem Tryd.internal_strconv_formatBase10 (blk off cap : Nat) (u : Nat) (d : Array UInt8) (w : World) (hH : Holds (fun (b : UInt8) => Value.int .u8 (b.toNat : Int)) w blk off d) (hu : u < 10 ^ d.size) (hu64 : u < 18446744073709551616) (hsz : d.size < 4611686018427387904) :
    Calls Tryd.prog 71 #[.slice (some ⟨blk, off, none⟩) d.size cap, .int .u64 u] w fun e w' =>
      e = .returned (.tuple #[]) ∧ ∃ (n v' : Nat) (dk : Array UInt8), w' = (putRow (fun (b : UInt8) => Value.int .u8 (b.toNat : Int)) w blk off dk).drewN n ∧ FmtInv d.size u 0 v' dk := Any.internal_strconv_formatBase10 Tryd.lays285 blk off cap u d w hH hu hu64 hsz
def Tryd.laysM246_ren : Go.Shelf.Ren := ⟨fun | 246 => 60 | 283 => 69 | 284 => 70 | 285 => 71 | 286 => 72 | 129 => 82 | 317 => 81 | 318 => 83 | 319 => 84 | 320 => 85 | 337 => 88 | 338 => 89 | n => n, fun | 2 => 2 | 3 => 3 | 9 => 9 | 4 => 4 | 171 => 90 | 0 => 0 | 53 => 79 | 37 => 44 | 5 => 5 | 173 => 93 | 212 => 104 | 51 => 76 | 20 => 20 | 213 => 105 | 46 => 59 | 232 => 115 | 233 => 116 | n => n, fun | 17 => 1 | 18 => 4 | 19 => 5 | n => n⟩
theorem Tryd.laysM246 : Go.Proofs.LaysM.n246 Tryd.prog Tryd.laysM246_ren := {
  mixed := by kernel_rfl
  f129 := Tryd.func82.trans (congrArg some (by kernel_rfl))
  f246 := Tryd.func60.trans (congrArg some (by kernel_rfl))
  f283 := Tryd.func69.trans (congrArg some (by kernel_rfl))
  f284 := Tryd.func70.trans (congrArg some (by kernel_rfl))
  f285 := Tryd.func71.trans (congrArg some (by kernel_rfl))
  f286 := Tryd.func72.trans (congrArg some (by kernel_rfl))
  f317 := Tryd.func81.trans (congrArg some (by kernel_rfl))
  f318 := Tryd.func83.trans (congrArg some (by kernel_rfl))
  f319 := Tryd.func84.trans (congrArg some (by kernel_rfl))
  f320 := Tryd.func85.trans (congrArg some (by kernel_rfl))
  f337 := Tryd.func88.trans (congrArg some (by kernel_rfl))
  f338 := Tryd.func89.trans (congrArg some (by kernel_rfl))
  t0 := Tryd.underlying0
  a0 := Tryd.isAgg0
  z0 := Tryd.sizeOf0
  v0 := Tryd.zeroValue0
  t2 := Tryd.underlying2
  a2 := Tryd.isAgg2
  z2 := Tryd.sizeOf2
  v2 := Tryd.zeroValue2
  t3 := Tryd.underlying3
  a3 := Tryd.isAgg3
  z3 := Tryd.sizeOf3
  v3 := Tryd.zeroValue3
  t4 := Tryd.underlying4
  a4 := Tryd.isAgg4
  z4 := Tryd.sizeOf4
  v4 := Tryd.zeroValue4
  t5 := Tryd.underlying5
  a5 := Tryd.isAgg5
  z5 := Tryd.sizeOf5
  v5 := Tryd.zeroValue5
  t9 := Tryd.underlying9
  a9 := Tryd.isAgg9
  z9 := Tryd.sizeOf9
  v9 := Tryd.zeroValue9
  t20 := Tryd.underlying20
  a20 := Tryd.isAgg20
  z20 := Tryd.sizeOf20
  v20 := Tryd.zeroValue20
  t37 := Tryd.underlying44
  a37 := Tryd.isAgg44
  z37 := Tryd.sizeOf44
  v37 := Tryd.zeroValue44
  t46 := Tryd.underlying59
  a46 := Tryd.isAgg59
  z46 := Tryd.sizeOf59
  v46 := Tryd.zeroValue59
  t51 := Tryd.underlying76
  a51 := Tryd.isAgg76
  z51 := Tryd.sizeOf76
  v51 := Tryd.zeroValue76
  t53 := Tryd.underlying79
  a53 := Tryd.isAgg79
  z53 := Tryd.sizeOf79
  v53 := Tryd.zeroValue79
  t171 := Tryd.underlying90
  a171 := Tryd.isAgg90
  z171 := Tryd.sizeOf90
  v171 := Tryd.zeroValue90
  t173 := Tryd.underlying93
  a173 := Tryd.isAgg93
  z173 := Tryd.sizeOf93
  v173 := Tryd.zeroValue93
  t212 := Tryd.underlying104
  a212 := Tryd.isAgg104
  z212 := Tryd.sizeOf104
  v212 := Tryd.zeroValue104
  t213 := Tryd.underlying105
  a213 := Tryd.isAgg105
  z213 := Tryd.sizeOf105
  t232 := Tryd.underlying115
  a232 := Tryd.isAgg115
  z232 := Tryd.sizeOf115
  v232 := Tryd.zeroValue115
  t233 := Tryd.underlying116
  a233 := Tryd.isAgg116
  z233 := Tryd.sizeOf116
  v233 := Tryd.zeroValue116
  g17 := by kernel_rfl
  g18 := by kernel_rfl
  g19 := by kernel_rfl
  i0 := by kernel_rfl
  i2 := by kernel_rfl
  i3 := by kernel_rfl
  i4 := by kernel_rfl
  i5 := by kernel_rfl
  i9 := by kernel_rfl
  i20 := by kernel_rfl
  i37 := by kernel_rfl
  i46 := by kernel_rfl
  i51 := by kernel_rfl
  i53 := by kernel_rfl
  i171 := by kernel_rfl
  i173 := by kernel_rfl
  i212 := by kernel_rfl
  i232 := by kernel_rfl
  i233 := by kernel_rfl
  m17 := by kernel_rfl
  m18 := by kernel_rfl
  m19 := by kernel_rfl }
open Go.RowKit Go.Sort Go.Lib in
/-- internal/strconv.FormatInt: "FormatInt returns the string representation of i in the given base": AT BASE 10: i's decimal numeral, for every int64. The world behind the call: the world before it, new blocks behind the heap, draws. (LAID: no walk: one application.) -/
theorem Tryd.internal_strconv_FormatInt_10 (n : Int) (h0 : -9223372036854775808 ≤ n) (h1 : n ≤ 9223372036854775807) (w : World) (htab : Lib.TabIs Tryd.prog w "internal/strconv.uint64pow10" .u64 Lib.pow10Tab) :
    Calls Tryd.prog 60 #[.int .i64 n, .int .i64 10] w fun e w' => e = .returned (.string ⟨(Lib.itoa n).toArray⟩) ∧ ∃ k os, w' = grow (w.drewN k) os := Any.internal_strconv_FormatInt_10 Tryd.laysM246 n h0 h1 w htab
def Tryd.lays246_ren : Go.Shelf.Ren := ⟨fun | 246 => 60 | 283 => 69 | 284 => 70 | 285 => 71 | 286 => 72 | 129 => 82 | 317 => 81 | 318 => 83 | 319 => 84 | 320 => 85 | 337 => 88 | 338 => 89 | n => n, fun | 2 => 2 | 3 => 3 | 9 => 9 | 4 => 4 | 171 => 90 | 0 => 0 | 53 => 79 | 37 => 44 | 5 => 5 | 173 => 93 | 212 => 104 | 51 => 76 | 20 => 20 | 213 => 105 | 46 => 59 | 232 => 115 | 233 => 116 | n => n, fun | 17 => 1 | 18 => 4 | 19 => 5 | n => n⟩
theorem Tryd.lays246 : Go.Proofs.Lays.n246 Tryd.prog Tryd.lays246_ren := {
  mixed := by kernel_rfl
  f129 := Tryd.func82.trans (congrArg some (by kernel_rfl))
  f246 := Tryd.func60.trans (congrArg some (by kernel_rfl))
  f283 := Tryd.func69.trans (congrArg some (by kernel_rfl))
  f284 := Tryd.func70.trans (congrArg some (by kernel_rfl))
  f285 := Tryd.func71.trans (congrArg some (by kernel_rfl))
  f286 := Tryd.func72.trans (congrArg some (by kernel_rfl))
  f317 := Tryd.func81.trans (congrArg some (by kernel_rfl))
  f318 := Tryd.func83.trans (congrArg some (by kernel_rfl))
  f319 := Tryd.func84.trans (congrArg some (by kernel_rfl))
  f320 := Tryd.func85.trans (congrArg some (by kernel_rfl))
  f337 := Tryd.func88.trans (congrArg some (by kernel_rfl))
  f338 := Tryd.func89.trans (congrArg some (by kernel_rfl))
  t0 := Tryd.underlying0
  a0 := Tryd.isAgg0
  z0 := Tryd.sizeOf0
  v0 := Tryd.zeroValue0
  t2 := Tryd.underlying2
  a2 := Tryd.isAgg2
  z2 := Tryd.sizeOf2
  v2 := Tryd.zeroValue2
  t3 := Tryd.underlying3
  a3 := Tryd.isAgg3
  z3 := Tryd.sizeOf3
  v3 := Tryd.zeroValue3
  t4 := Tryd.underlying4
  a4 := Tryd.isAgg4
  z4 := Tryd.sizeOf4
  v4 := Tryd.zeroValue4
  t5 := Tryd.underlying5
  a5 := Tryd.isAgg5
  z5 := Tryd.sizeOf5
  v5 := Tryd.zeroValue5
  t9 := Tryd.underlying9
  a9 := Tryd.isAgg9
  z9 := Tryd.sizeOf9
  v9 := Tryd.zeroValue9
  t20 := Tryd.underlying20
  a20 := Tryd.isAgg20
  z20 := Tryd.sizeOf20
  v20 := Tryd.zeroValue20
  t37 := Tryd.underlying44
  a37 := Tryd.isAgg44
  z37 := Tryd.sizeOf44
  v37 := Tryd.zeroValue44
  t46 := Tryd.underlying59
  a46 := Tryd.isAgg59
  z46 := Tryd.sizeOf59
  v46 := Tryd.zeroValue59
  t51 := Tryd.underlying76
  a51 := Tryd.isAgg76
  z51 := Tryd.sizeOf76
  v51 := Tryd.zeroValue76
  t53 := Tryd.underlying79
  a53 := Tryd.isAgg79
  z53 := Tryd.sizeOf79
  v53 := Tryd.zeroValue79
  t171 := Tryd.underlying90
  a171 := Tryd.isAgg90
  z171 := Tryd.sizeOf90
  v171 := Tryd.zeroValue90
  t173 := Tryd.underlying93
  a173 := Tryd.isAgg93
  z173 := Tryd.sizeOf93
  v173 := Tryd.zeroValue93
  t212 := Tryd.underlying104
  a212 := Tryd.isAgg104
  z212 := Tryd.sizeOf104
  v212 := Tryd.zeroValue104
  t213 := Tryd.underlying105
  a213 := Tryd.isAgg105
  z213 := Tryd.sizeOf105
  t232 := Tryd.underlying115
  a232 := Tryd.isAgg115
  z232 := Tryd.sizeOf115
  v232 := Tryd.zeroValue115
  t233 := Tryd.underlying116
  a233 := Tryd.isAgg116
  z233 := Tryd.sizeOf116
  v233 := Tryd.zeroValue116
  g17 := by kernel_rfl
  g18 := by kernel_rfl
  g19 := by kernel_rfl }
open Go.RowKit Go.Sort Go.Lib in
/-- THE ROAD WITHOUT THE TABLE: 0 <= i < 100: two constants are read, nothing is laid: no premise on the world, and the world is as it was. (LAID: no walk: one application.) -/
theorem Tryd.internal_strconv_FormatInt_10_small (i : Nat) (hi : i < 100) (w : World) :
    Calls Tryd.prog 60 #[.int .i64 i, .int .i64 10] w fun e w' => e = .returned (.string ⟨(Lib.decDigits i).toArray⟩) ∧ w' = w := Any.internal_strconv_FormatInt_10_small Tryd.lays246 i hi w
def Tryd.laysM243_ren : Go.Shelf.Ren := ⟨fun | 243 => 46 | 246 => 60 | 283 => 69 | 284 => 70 | 285 => 71 | 286 => 72 | 129 => 82 | 317 => 81 | 318 => 83 | 319 => 84 | 320 => 85 | 337 => 88 | 338 => 89 | n => n, fun | 3 => 3 | 9 => 9 | 2 => 2 | 4 => 4 | 171 => 90 | 0 => 0 | 53 => 79 | 37 => 44 | 5 => 5 | 173 => 93 | 212 => 104 | 51 => 76 | 20 => 20 | 213 => 105 | 46 => 59 | 232 => 115 | 233 => 116 | n => n, fun | 17 => 1 | 18 => 4 | 19 => 5 | n => n⟩
theorem Tryd.laysM243 : Go.Proofs.LaysM.n243 Tryd.prog Tryd.laysM243_ren := {
  mixed := by kernel_rfl
  f129 := Tryd.func82.trans (congrArg some (by kernel_rfl))
  f243 := Tryd.func46.trans (congrArg some (by kernel_rfl))
  f246 := Tryd.func60.trans (congrArg some (by kernel_rfl))
  f283 := Tryd.func69.trans (congrArg some (by kernel_rfl))
  f284 := Tryd.func70.trans (congrArg some (by kernel_rfl))
  f285 := Tryd.func71.trans (congrArg some (by kernel_rfl))
  f286 := Tryd.func72.trans (congrArg some (by kernel_rfl))
  f317 := Tryd.func81.trans (congrArg some (by kernel_rfl))
  f318 := Tryd.func83.trans (congrArg some (by kernel_rfl))
  f319 := Tryd.func84.trans (congrArg some (by kernel_rfl))
  f320 := Tryd.func85.trans (congrArg some (by kernel_rfl))
  f337 := Tryd.func88.trans (congrArg some (by kernel_rfl))
  f338 := Tryd.func89.trans (congrArg some (by kernel_rfl))
  t0 := Tryd.underlying0
  a0 := Tryd.isAgg0
  z0 := Tryd.sizeOf0
  v0 := Tryd.zeroValue0
  t2 := Tryd.underlying2
  a2 := Tryd.isAgg2
  z2 := Tryd.sizeOf2
  v2 := Tryd.zeroValue2
  t3 := Tryd.underlying3
  a3 := Tryd.isAgg3
  z3 := Tryd.sizeOf3
  v3 := Tryd.zeroValue3
  t4 := Tryd.underlying4
  a4 := Tryd.isAgg4
  z4 := Tryd.sizeOf4
  v4 := Tryd.zeroValue4
  t5 := Tryd.underlying5
  a5 := Tryd.isAgg5
  z5 := Tryd.sizeOf5
  v5 := Tryd.zeroValue5
  t9 := Tryd.underlying9
  a9 := Tryd.isAgg9
  z9 := Tryd.sizeOf9
  v9 := Tryd.zeroValue9
  t20 := Tryd.underlying20
  a20 := Tryd.isAgg20
  z20 := Tryd.sizeOf20
  v20 := Tryd.zeroValue20
  t37 := Tryd.underlying44
  a37 := Tryd.isAgg44
  z37 := Tryd.sizeOf44
  v37 := Tryd.zeroValue44
  t46 := Tryd.underlying59
  a46 := Tryd.isAgg59
  z46 := Tryd.sizeOf59
  v46 := Tryd.zeroValue59
  t51 := Tryd.underlying76
  a51 := Tryd.isAgg76
  z51 := Tryd.sizeOf76
  v51 := Tryd.zeroValue76
  t53 := Tryd.underlying79
  a53 := Tryd.isAgg79
  z53 := Tryd.sizeOf79
  v53 := Tryd.zeroValue79
  t171 := Tryd.underlying90
  a171 := Tryd.isAgg90
  z171 := Tryd.sizeOf90
  v171 := Tryd.zeroValue90
  t173 := Tryd.underlying93
  a173 := Tryd.isAgg93
  z173 := Tryd.sizeOf93
  v173 := Tryd.zeroValue93
  t212 := Tryd.underlying104
  a212 := Tryd.isAgg104
  z212 := Tryd.sizeOf104
  v212 := Tryd.zeroValue104
  t213 := Tryd.underlying105
  a213 := Tryd.isAgg105
  z213 := Tryd.sizeOf105
  t232 := Tryd.underlying115
  a232 := Tryd.isAgg115
  z232 := Tryd.sizeOf115
  v232 := Tryd.zeroValue115
  t233 := Tryd.underlying116
  a233 := Tryd.isAgg116
  z233 := Tryd.sizeOf116
  v233 := Tryd.zeroValue116
  g17 := by kernel_rfl
  g18 := by kernel_rfl
  g19 := by kernel_rfl
  i0 := by kernel_rfl
  i2 := by kernel_rfl
  i3 := by kernel_rfl
  i4 := by kernel_rfl
  i5 := by kernel_rfl
  i9 := by kernel_rfl
  i20 := by kernel_rfl
  i37 := by kernel_rfl
  i46 := by kernel_rfl
  i51 := by kernel_rfl
  i53 := by kernel_rfl
  i171 := by kernel_rfl
  i173 := by kernel_rfl
  i212 := by kernel_rfl
  i232 := by kernel_rfl
  i233 := by kernel_rfl
  m17 := by kernel_rfl
  m18 := by kernel_rfl
  m19 := by kernel_rfl }
open Go.RowKit Go.Sort Go.Lib in
/-- internal/strconv.Itoa: "Itoa is equivalent to FormatInt(int64(i), 10).": i's decimal numeral, for every int. (LAID: no walk: one application.) -/
theorem Tryd.internal_strconv_Itoa (n : Int) (h0 : -9223372036854775808 ≤ n) (h1 : n ≤ 9223372036854775807) (w : World) (htab : Lib.TabIs Tryd.prog w "internal/strconv.uint64pow10" .u64 Lib.pow10Tab) :
    Calls Tryd.prog 46 #[.int .i64 n] w fun e w' => e = .returned (.string ⟨(Lib.itoa n).toArray⟩) ∧ ∃ k os, w' = grow (w.drewN k) os := Any.internal_strconv_Itoa Tryd.laysM243 n h0 h1 w htab
def Tryd.lays243_ren : Go.Shelf.Ren := ⟨fun | 243 => 46 | 246 => 60 | 283 => 69 | 284 => 70 | 285 => 71 | 286 => 72 | 129 => 82 | 317 => 81 | 318 => 83 | 319 => 84 | 320 => 85 | 337 => 88 | 338 => 89 | n => n, fun | 3 => 3 | 9 => 9 | 2 => 2 | 4 => 4 | 171 => 90 | 0 => 0 | 53 => 79 | 37 => 44 | 5 => 5 | 173 => 93 | 212 => 104 | 51 => 76 | 20 => 20 | 213 => 105 | 46 => 59 | 232 => 115 | 233 => 116 | n => n, fun | 17 => 1 | 18 => 4 | 19 => 5 | n => n⟩
theorem Tryd.lays243 : Go.Proofs.Lays.n243 Tryd.prog Tryd.lays243_ren := {
  mixed := by kernel_rfl
  f129 := Tryd.func82.trans (congrArg some (by kernel_rfl))
  f243 := Tryd.func46.trans (congrArg some (by kernel_rfl))
  f246 := Tryd.func60.trans (congrArg some (by kernel_rfl))
  f283 := Tryd.func69.trans (congrArg some (by kernel_rfl))
  f284 := Tryd.func70.trans (congrArg some (by kernel_rfl))
  f285 := Tryd.func71.trans (congrArg some (by kernel_rfl))
  f286 := Tryd.func72.trans (congrArg some (by kernel_rfl))
  f317 := Tryd.func81.trans (congrArg some (by kernel_rfl))
  f318 := Tryd.func83.trans (congrArg some (by kernel_rfl))
  f319 := Tryd.func84.trans (congrArg some (by kernel_rfl))
  f320 := Tryd.func85.trans (congrArg some (by kernel_rfl))
  f337 := Tryd.func88.trans (congrArg some (by kernel_rfl))
  f338 := Tryd.func89.trans (congrArg some (by kernel_rfl))
  t0 := Tryd.underlying0
  a0 := Tryd.isAgg0
  z0 := Tryd.sizeOf0
  v0 := Tryd.zeroValue0
  t2 := Tryd.underlying2
  a2 := Tryd.isAgg2
  z2 := Tryd.sizeOf2
  v2 := Tryd.zeroValue2
  t3 := Tryd.underlying3
  a3 := Tryd.isAgg3
  z3 := Tryd.sizeOf3
  v3 := Tryd.zeroValue3
  t4 := Tryd.underlying4
  a4 := Tryd.isAgg4
  z4 := Tryd.sizeOf4
  v4 := Tryd.zeroValue4
  t5 := Tryd.underlying5
  a5 := Tryd.isAgg5
  z5 := Tryd.sizeOf5
  v5 := Tryd.zeroValue5
  t9 := Tryd.underlying9
  a9 := Tryd.isAgg9
  z9 := Tryd.sizeOf9
  v9 := Tryd.zeroValue9
  t20 := Tryd.underlying20
  a20 := Tryd.isAgg20
  z20 := Tryd.sizeOf20
  v20 := Tryd.zeroValue20
  t37 := Tryd.underlying44
  a37 := Tryd.isAgg44
  z37 := Tryd.sizeOf44
  v37 := Tryd.zeroValue44
  t46 := Tryd.underlying59
  a46 := Tryd.isAgg59
  z46 := Tryd.sizeOf59
  v46 := Tryd.zeroValue59
  t51 := Tryd.underlying76
  a51 := Tryd.isAgg76
  z51 := Tryd.sizeOf76
  v51 := Tryd.zeroValue76
  t53 := Tryd.underlying79
  a53 := Tryd.isAgg79
  z53 := Tryd.sizeOf79
  v53 := Tryd.zeroValue79
  t171 := Tryd.underlying90
  a171 := Tryd.isAgg90
  z171 := Tryd.sizeOf90
  v171 := Tryd.zeroValue90
  t173 := Tryd.underlying93
  a173 := Tryd.isAgg93
  z173 := Tryd.sizeOf93
  v173 := Tryd.zeroValue93
  t212 := Tryd.underlying104
  a212 := Tryd.isAgg104
  z212 := Tryd.sizeOf104
  v212 := Tryd.zeroValue104
  t213 := Tryd.underlying105
  a213 := Tryd.isAgg105
  z213 := Tryd.sizeOf105
  t232 := Tryd.underlying115
  a232 := Tryd.isAgg115
  z232 := Tryd.sizeOf115
  v232 := Tryd.zeroValue115
  t233 := Tryd.underlying116
  a233 := Tryd.isAgg116
  z233 := Tryd.sizeOf116
  v233 := Tryd.zeroValue116
  g17 := by kernel_rfl
  g18 := by kernel_rfl
  g19 := by kernel_rfl }
open Go.RowKit Go.Sort Go.Lib in
/-- THE ROAD WITHOUT THE TABLE: 0 <= i < 100. (LAID: no walk: one application.) -/
theorem Tryd.internal_strconv_Itoa_small (i : Nat) (hi : i < 100) (w : World) :
    Calls Tryd.prog 46 #[.int .i64 i] w fun e w' => e = .returned (.string ⟨(Lib.decDigits i).toArray⟩) ∧ w' = w := Any.internal_strconv_Itoa_small Tryd.lays243 i hi w
def Tryd.laysM171_ren : Go.Shelf.Ren := ⟨fun | 171 => 28 | 243 => 46 | 246 => 60 | 283 => 69 | 284 => 70 | 285 => 71 | 286 => 72 | 129 => 82 | 317 => 81 | 318 => 83 | 319 => 84 | 320 => 85 | 337 => 88 | 338 => 89 | n => n, fun | 3 => 3 | 9 => 9 | 2 => 2 | 4 => 4 | 171 => 90 | 0 => 0 | 53 => 79 | 37 => 44 | 5 => 5 | 173 => 93 | 212 => 104 | 51 => 76 | 20 => 20 | 213 => 105 | 46 => 59 | 232 => 115 | 233 => 116 | n => n, fun | 17 => 1 | 18 => 4 | 19 => 5 | n => n⟩
theorem Tryd.laysM171 : Go.Proofs.LaysM.n171 Tryd.prog Tryd.laysM171_ren := {
  mixed := by kernel_rfl
  f129 := Tryd.func82.trans (congrArg some (by kernel_rfl))
  f171 := Tryd.func28.trans (congrArg some (by kernel_rfl))
  f243 := Tryd.func46.trans (congrArg some (by kernel_rfl))
  f246 := Tryd.func60.trans (congrArg some (by kernel_rfl))
  f283 := Tryd.func69.trans (congrArg some (by kernel_rfl))
  f284 := Tryd.func70.trans (congrArg some (by kernel_rfl))
  f285 := Tryd.func71.trans (congrArg some (by kernel_rfl))
  f286 := Tryd.func72.trans (congrArg some (by kernel_rfl))
  f317 := Tryd.func81.trans (congrArg some (by kernel_rfl))
  f318 := Tryd.func83.trans (congrArg some (by kernel_rfl))
  f319 := Tryd.func84.trans (congrArg some (by kernel_rfl))
  f320 := Tryd.func85.trans (congrArg some (by kernel_rfl))
  f337 := Tryd.func88.trans (congrArg some (by kernel_rfl))
  f338 := Tryd.func89.trans (congrArg some (by kernel_rfl))
  t0 := Tryd.underlying0
  a0 := Tryd.isAgg0
  z0 := Tryd.sizeOf0
  v0 := Tryd.zeroValue0
  t2 := Tryd.underlying2
  a2 := Tryd.isAgg2
  z2 := Tryd.sizeOf2
  v2 := Tryd.zeroValue2
  t3 := Tryd.underlying3
  a3 := Tryd.isAgg3
  z3 := Tryd.sizeOf3
  v3 := Tryd.zeroValue3
  t4 := Tryd.underlying4
  a4 := Tryd.isAgg4
  z4 := Tryd.sizeOf4
  v4 := Tryd.zeroValue4
  t5 := Tryd.underlying5
  a5 := Tryd.isAgg5
  z5 := Tryd.sizeOf5
  v5 := Tryd.zeroValue5
  t9 := Tryd.underlying9
  a9 := Tryd.isAgg9
  z9 := Tryd.sizeOf9
  v9 := Tryd.zeroValue9
  t20 := Tryd.underlying20
  a20 := Tryd.isAgg20
  z20 := Tryd.sizeOf20
  v20 := Tryd.zeroValue20
  t37 := Tryd.underlying44
  a37 := Tryd.isAgg44
  z37 := Tryd.sizeOf44
  v37 := Tryd.zeroValue44
  t46 := Tryd.underlying59
  a46 := Tryd.isAgg59
  z46 := Tryd.sizeOf59
  v46 := Tryd.zeroValue59
  t51 := Tryd.underlying76
  a51 := Tryd.isAgg76
  z51 := Tryd.sizeOf76
  v51 := Tryd.zeroValue76
  t53 := Tryd.underlying79
  a53 := Tryd.isAgg79
  z53 := Tryd.sizeOf79
  v53 := Tryd.zeroValue79
  t171 := Tryd.underlying90
  a171 := Tryd.isAgg90
  z171 := Tryd.sizeOf90
  v171 := Tryd.zeroValue90
  t173 := Tryd.underlying93
  a173 := Tryd.isAgg93
  z173 := Tryd.sizeOf93
  v173 := Tryd.zeroValue93
  t212 := Tryd.underlying104
  a212 := Tryd.isAgg104
  z212 := Tryd.sizeOf104
  v212 := Tryd.zeroValue104
  t213 := Tryd.underlying105
  a213 := Tryd.isAgg105
  z213 := Tryd.sizeOf105
  t232 := Tryd.underlying115
  a232 := Tryd.isAgg115
  z232 := Tryd.sizeOf115
  v232 := Tryd.zeroValue115
  t233 := Tryd.underlying116
  a233 := Tryd.isAgg116
  z233 := Tryd.sizeOf116
  v233 := Tryd.zeroValue116
  g17 := by kernel_rfl
  g18 := by kernel_rfl
  g19 := by kernel_rfl
  i0 := by kernel_rfl
  i2 := by kernel_rfl
  i3 := by kernel_rfl
  i4 := by kernel_rfl
  i5 := by kernel_rfl
  i9 := by kernel_rfl
  i20 := by kernel_rfl
  i37 := by kernel_rfl
  i46 := by kernel_rfl
  i51 := by kernel_rfl
  i53 := by kernel_rfl
  i171 := by kernel_rfl
  i173 := by kernel_rfl
  i212 := by kernel_rfl
  i232 := by kernel_rfl
  i233 := by kernel_rfl
  m17 := by kernel_rfl
  m18 := by kernel_rfl
  m19 := by kernel_rfl }
open Go.RowKit Go.Sort Go.Lib in
/-- strconv.Itoa: "Itoa is equivalent to FormatInt(int64(i), 10).": i's DECIMAL NUMERAL ('Lib.itoa': a '-' where i is negative, then the digits), FOR EVERY int. The world behind the call: the world before it, new blocks behind the heap (the library's 'var a [24]byte'), draws. (LAID: no walk: one application.) -/
theorem Tryd.strconv_Itoa (n : Int) (h0 : -9223372036854775808 ≤ n) (h1 : n ≤ 9223372036854775807) (w : World) (htab : Lib.TabIs Tryd.prog w "internal/strconv.uint64pow10" .u64 Lib.pow10Tab) :
    Calls Tryd.prog 28 #[.int .i64 n] w fun e w' => e = .returned (.string ⟨(Lib.itoa n).toArray⟩) ∧ ∃ k os, w' = grow (w.drewN k) os := Any.strconv_Itoa Tryd.laysM171 n h0 h1 w htab
def Tryd.lays171_ren : Go.Shelf.Ren := ⟨fun | 171 => 28 | 243 => 46 | 246 => 60 | 283 => 69 | 284 => 70 | 285 => 71 | 286 => 72 | 129 => 82 | 317 => 81 | 318 => 83 | 319 => 84 | 320 => 85 | 337 => 88 | 338 => 89 | n => n, fun | 3 => 3 | 9 => 9 | 2 => 2 | 4 => 4 | 171 => 90 | 0 => 0 | 53 => 79 | 37 => 44 | 5 => 5 | 173 => 93 | 212 => 104 | 51 => 76 | 20 => 20 | 213 => 105 | 46 => 59 | 232 => 115 | 233 => 116 | n => n, fun | 17 => 1 | 18 => 4 | 19 => 5 | n => n⟩
theorem Tryd.lays171 : Go.Proofs.Lays.n171 Tryd.prog Tryd.lays171_ren := {
  mixed := by kernel_rfl
  f129 := Tryd.func82.trans (congrArg some (by kernel_rfl))
  f171 := Tryd.func28.trans (congrArg some (by kernel_rfl))
  f243 := Tryd.func46.trans (congrArg some (by kernel_rfl))
  f246 := Tryd.func60.trans (congrArg some (by kernel_rfl))
  f283 := Tryd.func69.trans (congrArg some (by kernel_rfl))
  f284 := Tryd.func70.trans (congrArg some (by kernel_rfl))
  f285 := Tryd.func71.trans (congrArg some (by kernel_rfl))
  f286 := Tryd.func72.trans (congrArg some (by kernel_rfl))
  f317 := Tryd.func81.trans (congrArg some (by kernel_rfl))
  f318 := Tryd.func83.trans (congrArg some (by kernel_rfl))
  f319 := Tryd.func84.trans (congrArg some (by kernel_rfl))
  f320 := Tryd.func85.trans (congrArg some (by kernel_rfl))
  f337 := Tryd.func88.trans (congrArg some (by kernel_rfl))
  f338 := Tryd.func89.trans (congrArg some (by kernel_rfl))
  t0 := Tryd.underlying0
  a0 := Tryd.isAgg0
  z0 := Tryd.sizeOf0
  v0 := Tryd.zeroValue0
  t2 := Tryd.underlying2
  a2 := Tryd.isAgg2
  z2 := Tryd.sizeOf2
  v2 := Tryd.zeroValue2
  t3 := Tryd.underlying3
  a3 := Tryd.isAgg3
  z3 := Tryd.sizeOf3
  v3 := Tryd.zeroValue3
  t4 := Tryd.underlying4
  a4 := Tryd.isAgg4
  z4 := Tryd.sizeOf4
  v4 := Tryd.zeroValue4
  t5 := Tryd.underlying5
  a5 := Tryd.isAgg5
  z5 := Tryd.sizeOf5
  v5 := Tryd.zeroValue5
  t9 := Tryd.underlying9
  a9 := Tryd.isAgg9
  z9 := Tryd.sizeOf9
  v9 := Tryd.zeroValue9
  t20 := Tryd.underlying20
  a20 := Tryd.isAgg20
  z20 := Tryd.sizeOf20
  v20 := Tryd.zeroValue20
  t37 := Tryd.underlying44
  a37 := Tryd.isAgg44
  z37 := Tryd.sizeOf44
  v37 := Tryd.zeroValue44
  t46 := Tryd.underlying59
  a46 := Tryd.isAgg59
  z46 := Tryd.sizeOf59
  v46 := Tryd.zeroValue59
  t51 := Tryd.underlying76
  a51 := Tryd.isAgg76
  z51 := Tryd.sizeOf76
  v51 := Tryd.zeroValue76
  t53 := Tryd.underlying79
  a53 := Tryd.isAgg79
  z53 := Tryd.sizeOf79
  v53 := Tryd.zeroValue79
  t171 := Tryd.underlying90
  a171 := Tryd.isAgg90
  z171 := Tryd.sizeOf90
  v171 := Tryd.zeroValue90
  t173 := Tryd.underlying93
  a173 := Tryd.isAgg93
  z173 := Tryd.sizeOf93
  v173 := Tryd.zeroValue93
  t212 := Tryd.underlying104
  a212 := Tryd.isAgg104
  z212 := Tryd.sizeOf104
  v212 := Tryd.zeroValue104
  t213 := Tryd.underlying105
  a213 := Tryd.isAgg105
  z213 := Tryd.sizeOf105
  t232 := Tryd.underlying115
  a232 := Tryd.isAgg115
  z232 := Tryd.sizeOf115
  v232 := Tryd.zeroValue115
  t233 := Tryd.underlying116
  a233 := Tryd.isAgg116
  z233 := Tryd.sizeOf116
  v233 := Tryd.zeroValue116
  g17 := by kernel_rfl
  g18 := by kernel_rfl
  g19 := by kernel_rfl }
open Go.RowKit Go.Sort Go.Lib in
/-- THE ROAD WITHOUT THE TABLE: 0 <= i < 100: NO PREMISE ON THE WORLD, AND THE WORLD IS AS IT WAS: a row that keeps its argument in that range need list no table ('laid = []'). (LAID: no walk: one application.) -/
theorem Tryd.strconv_Itoa_small (i : Nat) (hi : i < 100) (w : World) :
    Calls Tryd.prog 28 #[.int .i64 i] w fun e w' => e = .returned (.string ⟨(Lib.decDigits i).toArray⟩) ∧ w' = w := Any.strconv_Itoa_small Tryd.lays171 i hi w
def Tryd.lays217_ren : Go.Shelf.Ren := ⟨fun | 217 => 50 | 266 => 63 | n => n, fun | 9 => 9 | 5 => 5 | 3 => 3 | n => n, fun | n => n⟩
theorem Tryd.lays217 : Go.Proofs.Lays.n217 Tryd.prog Tryd.lays217_ren := {
  mixed := by kernel_rfl
  f217 := Tryd.func50.trans (congrArg some (by kernel_rfl))
  f266 := Tryd.func63.trans (congrArg some (by kernel_rfl))
  t3 := Tryd.underlying3
  a3 := Tryd.isAgg3
  z3 := Tryd.sizeOf3
  v3 := Tryd.zeroValue3
  t5 := Tryd.underlying5
  a5 := Tryd.isAgg5
  z5 := Tryd.sizeOf5
  v5 := Tryd.zeroValue5
  t9 := Tryd.underlying9
  a9 := Tryd.isAgg9
  z9 := Tryd.sizeOf9
  v9 := Tryd.zeroValue9 }
open Go.RowKit Go.Lib in
/-- internal/stringslite.IndexByte (what strings.IndexByte calls): IT RETURNS 'Lib.indexByte s c'; the world is as it was. (LAID: no walk: one application.) -/
theorem Tryd.stringslite_IndexByte (s : ByteArray) (c : Int) (w : World) :
    Calls Tryd.prog 50 #[.string s, .int .u8 c] w fun e w' => e = .returned (.int .i64 (Lib.indexByte s.data.toList c.toNat.toUInt8)) ∧ w' = w := Any.stringslite_IndexByte Tryd.lays217 s c w
def Tryd.lays224_ren : Go.Shelf.Ren := ⟨fun | 224 => 79 | n => n, fun | 3 => 3 | n => n, fun | n => n⟩
theorem Tryd.lays224 : Go.Proofs.Lays.n224 Tryd.prog Tryd.lays224_ren := {
  mixed := by kernel_rfl
  f224 := Tryd.func79.trans (congrArg some (by kernel_rfl))
  t3 := Tryd.underlying3
  a3 := Tryd.isAgg3
  z3 := Tryd.sizeOf3
  v3 := Tryd.zeroValue3 }
open Go.RowKit Go.Lib in
/-- internal/bytealg.Cutover: "Cutover reports the number of failures of IndexByte we should tolerate before switching over to Index. n is the number of bytes processed so far.": on amd64: (n + 16) / 8. (LAID: no walk: one application.) -/
theorem Tryd.bytealg_Cutover (n : Int) (h0 : 0 ≤ n) (h1 : n < 4611686018427387904) (w : World) :
    Calls Tryd.prog 79 #[.int .i64 n] w fun e w' => e = .returned (.int .i64 ((n + 16) / 8)) ∧ w' = w := Any.bytealg_Cutover Tryd.lays224 n h0 h1 w
def Tryd.lays314_ren : Go.Shelf.Ren := ⟨fun | 314 => 87 | n => n, fun | 9 => 9 | 51 => 76 | 3 => 3 | 4 => 4 | 5 => 5 | 46 => 59 | n => n, fun | n => n⟩
theorem Tryd.lays314 : Go.Proofs.Lays.n314 Tryd.prog Tryd.lays314_ren := {
  mixed := by kernel_rfl
  f314 := Tryd.func87.trans (congrArg some (by kernel_rfl))
  t3 := Tryd.underlying3
  a3 := Tryd.isAgg3
  z3 := Tryd.sizeOf3
  v3 := Tryd.zeroValue3
  t4 := Tryd.underlying4
  a4 := Tryd.isAgg4
  z4 := Tryd.sizeOf4
  v4 := Tryd.zeroValue4
  t5 := Tryd.underlying5
  a5 := Tryd.isAgg5
  z5 := Tryd.sizeOf5
  v5 := Tryd.zeroValue5
  t9 := Tryd.underlying9
  a9 := Tryd.isAgg9
  z9 := Tryd.sizeOf9
  v9 := Tryd.zeroValue9
  t46 := Tryd.underlying59
  a46 := Tryd.isAgg59
  z46 := Tryd.sizeOf59
  v46 := Tryd.zeroValue59
  t51 := Tryd.underlying76
  a51 := Tryd.isAgg76
  z51 := Tryd.sizeOf76
  v51 := Tryd.zeroValue76 }
open Go.RowKit Go.Lib in
/-- hashStr: "returns the hash and the appropriate multiplicative factor for use in Rabin-Karp algorithm": THE HASH OF ALL OF sep, AND 16777619 ^ len(sep), both in uint32. (LAID: no walk: one application.) -/
theorem Tryd.bytealg_hashStr (sep : ByteArray) (hs : sep.size < 4294967281) (w : World) :
    Calls Tryd.prog 87 #[.string sep] w fun e w' => e = .returned (.tuple #[.int .u32 (RK.H sep.data.toList % 4294967296), .int .u32 (16777619 ^ sep.size % 4294967296)]) ∧ w' = w := Any.bytealg_hashStr Tryd.lays314 sep hs w
def Tryd.lays267_ren : Go.Shelf.Ren := ⟨fun | 267 => 80 | 314 => 87 | n => n, fun | 9 => 9 | 3 => 3 | 146 => 77 | 51 => 76 | 4 => 4 | 5 => 5 | 46 => 59 | n => n, fun | n => n⟩
theorem Tryd.lays267 : Go.Proofs.Lays.n267 Tryd.prog Tryd.lays267_ren := {
  mixed := by kernel_rfl
  f267 := Tryd.func80.trans (congrArg some (by kernel_rfl))
  f314 := Tryd.func87.trans (congrArg some (by kernel_rfl))
  t3 := Tryd.underlying3
  a3 := Tryd.isAgg3
  z3 := Tryd.sizeOf3
  v3 := Tryd.zeroValue3
  t4 := Tryd.underlying4
  a4 := Tryd.isAgg4
  z4 := Tryd.sizeOf4
  v4 := Tryd.zeroValue4
  t5 := Tryd.underlying5
  a5 := Tryd.isAgg5
  z5 := Tryd.sizeOf5
  v5 := Tryd.zeroValue5
  t9 := Tryd.underlying9
  a9 := Tryd.isAgg9
  z9 := Tryd.sizeOf9
  v9 := Tryd.zeroValue9
  t46 := Tryd.underlying59
  a46 := Tryd.isAgg59
  z46 := Tryd.sizeOf59
  v46 := Tryd.zeroValue59
  t51 := Tryd.underlying76
  a51 := Tryd.isAgg76
  z51 := Tryd.sizeOf76
  v51 := Tryd.zeroValue76
  t146 := Tryd.underlying77
  a146 := Tryd.isAgg77
  z146 := Tryd.sizeOf77
  v146 := Tryd.zeroValue77 }
open Go.RowKit Go.Lib in
theorem Tryd.bytealg_IndexRabinKarp (s sep : ByteArray) (h1 : 1 ≤ sep.size) (h2 : sep.size ≤ s.size) (hs : s.size < 4294967281) (w : World) :
    Calls Tryd.prog 80 #[.string s, .string sep] w fun e w' => e = .returned (.int .i64 (Lib.index s.data.toList sep.data.toList)) ∧ w' = w := Any.bytealg_IndexRabinKarp Tryd.lays267 s sep h1 h2 hs w
def Tryd.lays219_ren : Go.Shelf.Ren := ⟨fun | 219 => 64 | 217 => 50 | 225 => 78 | 224 => 79 | 267 => 80 | 266 => 63 | 314 => 87 | n => n, fun | 9 => 9 | 3 => 3 | 4 => 4 | 5 => 5 | 46 => 59 | 146 => 77 | 51 => 76 | n => n, fun | 1 => 0 | n => n⟩
theorem Tryd.lays219 : Go.Proofs.Lays.n219 Tryd.prog Tryd.lays219_ren := {
  mixed := by kernel_rfl
  f217 := Tryd.func50.trans (congrArg some (by kernel_rfl))
  f219 := Tryd.func64.trans (congrArg some (by kernel_rfl))
  f224 := Tryd.func79.trans (congrArg some (by kernel_rfl))
  f225 := Tryd.func78.trans (congrArg some (by kernel_rfl))
  f266 := Tryd.func63.trans (congrArg some (by kernel_rfl))
  f267 := Tryd.func80.trans (congrArg some (by kernel_rfl))
  f314 := Tryd.func87.trans (congrArg some (by kernel_rfl))
  t3 := Tryd.underlying3
  a3 := Tryd.isAgg3
  z3 := Tryd.sizeOf3
  v3 := Tryd.zeroValue3
  t4 := Tryd.underlying4
  a4 := Tryd.isAgg4
  z4 := Tryd.sizeOf4
  v4 := Tryd.zeroValue4
  t5 := Tryd.underlying5
  a5 := Tryd.isAgg5
  z5 := Tryd.sizeOf5
  v5 := Tryd.zeroValue5
  t9 := Tryd.underlying9
  a9 := Tryd.isAgg9
  z9 := Tryd.sizeOf9
  v9 := Tryd.zeroValue9
  t46 := Tryd.underlying59
  a46 := Tryd.isAgg59
  z46 := Tryd.sizeOf59
  v46 := Tryd.zeroValue59
  t51 := Tryd.underlying76
  a51 := Tryd.isAgg76
  z51 := Tryd.sizeOf76
  v51 := Tryd.zeroValue76
  t146 := Tryd.underlying77
  a146 := Tryd.isAgg77
  z146 := Tryd.sizeOf77
  v146 := Tryd.zeroValue77
  g1 := by kernel_rfl }
open Go.RowKit Go.Lib in
/-- internal/stringslite.Index (what strings.Index calls) AT A substr OF ONE BYTE c: IT RETURNS 'Lib.indexByte s c'; the world is as it was. (LAID: no walk: one application.) -/
theorem Tryd.stringslite_Index_one (s : ByteArray) (c : UInt8) (w : World) :
    Calls Tryd.prog 64 #[.string s, .string ⟨#[c]⟩] w fun e w' => e = .returned (.int .i64 (Lib.indexByte s.data.toList c)) ∧ w' = w := Any.stringslite_Index_one Tryd.lays219 s c w
open Go.RowKit Go.Lib in
/-- internal/stringslite.Index (what strings.Index calls) AT A substr OF WHATEVER LENGTH: IT RETURNS 'Lib.index s substr'; the world is as it was. 'm': what internal/bytealg.MaxLen holds: whatever. (LAID: no walk: one application.) -/
theorem Tryd.stringslite_Index (s sub : ByteArray) (m : Int) (w : World) (hs : s.size < 4294967281) (hm : w.cell? ⟨0, 0, none⟩ = some (.int .i64 m)) :
    Calls Tryd.prog 64 #[.string s, .string sub] w fun e w' => e = .returned (.int .i64 (Lib.index s.data.toList sub.data.toList)) ∧ w' = w := Any.stringslite_Index Tryd.lays219 s sub m w hs hm
def Tryd.lays143_ren : Go.Shelf.Ren := ⟨fun | 143 => 55 | 219 => 64 | 217 => 50 | 225 => 78 | 224 => 79 | 267 => 80 | 266 => 63 | 314 => 87 | n => n, fun | 9 => 9 | 3 => 3 | 4 => 4 | 5 => 5 | 46 => 59 | 146 => 77 | 51 => 76 | n => n, fun | 1 => 0 | n => n⟩
theorem Tryd.lays143 : Go.Proofs.Lays.n143 Tryd.prog Tryd.lays143_ren := {
  mixed := by kernel_rfl
  f143 := Tryd.func55.trans (congrArg some (by kernel_rfl))
  f217 := Tryd.func50.trans (congrArg some (by kernel_rfl))
  f219 := Tryd.func64.trans (congrArg some (by kernel_rfl))
  f224 := Tryd.func79.trans (congrArg some (by kernel_rfl))
  f225 := Tryd.func78.trans (congrArg some (by kernel_rfl))
  f266 := Tryd.func63.trans (congrArg some (by kernel_rfl))
  f267 := Tryd.func80.trans (congrArg some (by kernel_rfl))
  f314 := Tryd.func87.trans (congrArg some (by kernel_rfl))
  t3 := Tryd.underlying3
  a3 := Tryd.isAgg3
  z3 := Tryd.sizeOf3
  v3 := Tryd.zeroValue3
  t4 := Tryd.underlying4
  a4 := Tryd.isAgg4
  z4 := Tryd.sizeOf4
  v4 := Tryd.zeroValue4
  t5 := Tryd.underlying5
  a5 := Tryd.isAgg5
  z5 := Tryd.sizeOf5
  v5 := Tryd.zeroValue5
  t9 := Tryd.underlying9
  a9 := Tryd.isAgg9
  z9 := Tryd.sizeOf9
  v9 := Tryd.zeroValue9
  t46 := Tryd.underlying59
  a46 := Tryd.isAgg59
  z46 := Tryd.sizeOf59
  v46 := Tryd.zeroValue59
  t51 := Tryd.underlying76
  a51 := Tryd.isAgg76
  z51 := Tryd.sizeOf76
  v51 := Tryd.zeroValue76
  t146 := Tryd.underlying77
  a146 := Tryd.isAgg77
  z146 := Tryd.sizeOf77
  v146 := Tryd.zeroValue77
  g1 := by kernel_rfl }
open Go.RowKit Go.Lib in
/-- strings.Index: "Index returns the index of the first instance of substr in s, or -1 if substr is not present in s.": AT A substr OF ONE BYTE c: IT RETURNS 'Lib.indexByte s c'; the world is as it was. (LAID: no walk: one application.) -/
theorem Tryd.strings_Index_one (s : ByteArray) (c : UInt8) (w : World) :
    Calls Tryd.prog 55 #[.string s, .string ⟨#[c]⟩] w fun e w' => e = .returned (.int .i64 (Lib.indexByte s.data.toList c)) ∧ w' = w := Any.strings_Index_one Tryd.lays143 s c w
open Go.RowKit Go.Lib in
/-- strings.Index: "Index returns the index of the first instance of substr in s, or -1 if substr is not present in s.": IT RETURNS 'Lib.index s substr'; the world is as it was. (LAID: no walk: one application.) -/
theorem Tryd.strings_Index (s sub : ByteArray) (m : Int) (w : World) (hs : s.size < 4294967281) (hm : w.cell? ⟨0, 0, none⟩ = some (.int .i64 m)) :
    Calls Tryd.prog 55 #[.string s, .string sub] w fun e w' => e = .returned (.int .i64 (Lib.index s.data.toList sub.data.toList)) ∧ w' = w := Any.strings_Index Tryd.lays143 s sub m w hs hm
def Tryd.lays220_ren : Go.Shelf.Ren := ⟨fun | 220 => 51 | 219 => 64 | 217 => 50 | 225 => 78 | 224 => 79 | 267 => 80 | 266 => 63 | 314 => 87 | n => n, fun | 9 => 9 | 4 => 4 | 3 => 3 | 5 => 5 | 46 => 59 | 146 => 77 | 51 => 76 | n => n, fun | 1 => 0 | n => n⟩
theorem Tryd.lays220 : Go.Proofs.Lays.n220 Tryd.prog Tryd.lays220_ren := {
  mixed := by kernel_rfl
  f217 := Tryd.func50.trans (congrArg some (by kernel_rfl))
  f219 := Tryd.func64.trans (congrArg some (by kernel_rfl))
  f220 := Tryd.func51.trans (congrArg some (by kernel_rfl))
  f224 := Tryd.func79.trans (congrArg some (by kernel_rfl))
  f225 := Tryd.func78.trans (congrArg some (by kernel_rfl))
  f266 := Tryd.func63.trans (congrArg some (by kernel_rfl))
  f267 := Tryd.func80.trans (congrArg some (by kernel_rfl))
  f314 := Tryd.func87.trans (congrArg some (by kernel_rfl))
  t3 := Tryd.underlying3
  a3 := Tryd.isAgg3
  z3 := Tryd.sizeOf3
  v3 := Tryd.zeroValue3
  t4 := Tryd.underlying4
  a4 := Tryd.isAgg4
  z4 := Tryd.sizeOf4
  v4 := Tryd.zeroValue4
  t5 := Tryd.underlying5
  a5 := Tryd.isAgg5
  z5 := Tryd.sizeOf5
  v5 := Tryd.zeroValue5
  t9 := Tryd.underlying9
  a9 := Tryd.isAgg9
  z9 := Tryd.sizeOf9
  v9 := Tryd.zeroValue9
  t46 := Tryd.underlying59
  a46 := Tryd.isAgg59
  z46 := Tryd.sizeOf59
  v46 := Tryd.zeroValue59
  t51 := Tryd.underlying76
  a51 := Tryd.isAgg76
  z51 := Tryd.sizeOf76
  v51 := Tryd.zeroValue76
  t146 := Tryd.underlying77
  a146 := Tryd.isAgg77
  z146 := Tryd.sizeOf77
  v146 := Tryd.zeroValue77
  g1 := by kernel_rfl }
open Go.RowKit Go.Lib in
/-- internal/stringslite.Cut (what strings.Cut calls): IT RETURNS 'Lib.cut s sep'; the world is as it was but for the count of draws. (LAID: no walk: one application.) -/
theorem Tryd.stringslite_Cut (s sep : ByteArray) (m : Int) (w : World) (hs : s.size < 4294967281) (hm : w.cell? ⟨0, 0, none⟩ = some (.int .i64 m)) :
    Calls Tryd.prog 51 #[.string s, .string sep] w fun e w' => e = .returned (.tuple #[.string ⟨(Lib.cut s.data.toList sep.data.toList).1.toArray⟩, .string ⟨(Lib.cut s.data.toList sep.data.toList).2.1.toArray⟩, .bool (Lib.cut s.data.toList sep.data.toList).2.2]) ∧ ∃ n, w' = w.drewN n := Any.stringslite_Cut Tryd.lays220 s sep m w hs hm
def Tryd.lays145_ren : Go.Shelf.Ren := ⟨fun | 145 => 36 | 220 => 51 | 219 => 64 | 217 => 50 | 225 => 78 | 224 => 79 | 267 => 80 | 266 => 63 | 314 => 87 | n => n, fun | 9 => 9 | 4 => 4 | 59 => 54 | 3 => 3 | 5 => 5 | 46 => 59 | 146 => 77 | 51 => 76 | n => n, fun | 1 => 0 | n => n⟩
theorem Tryd.lays145 : Go.Proofs.Lays.n145 Tryd.prog Tryd.lays145_ren := {
  mixed := by kernel_rfl
  f145 := Tryd.func36.trans (congrArg some (by kernel_rfl))
  f217 := Tryd.func50.trans (congrArg some (by kernel_rfl))
  f219 := Tryd.func64.trans (congrArg some (by kernel_rfl))
  f220 := Tryd.func51.trans (congrArg some (by kernel_rfl))
  f224 := Tryd.func79.trans (congrArg some (by kernel_rfl))
  f225 := Tryd.func78.trans (congrArg some (by kernel_rfl))
  f266 := Tryd.func63.trans (congrArg some (by kernel_rfl))
  f267 := Tryd.func80.trans (congrArg some (by kernel_rfl))
  f314 := Tryd.func87.trans (congrArg some (by kernel_rfl))
  t3 := Tryd.underlying3
  a3 := Tryd.isAgg3
  z3 := Tryd.sizeOf3
  v3 := Tryd.zeroValue3
  t4 := Tryd.underlying4
  a4 := Tryd.isAgg4
  z4 := Tryd.sizeOf4
  v4 := Tryd.zeroValue4
  t5 := Tryd.underlying5
  a5 := Tryd.isAgg5
  z5 := Tryd.sizeOf5
  v5 := Tryd.zeroValue5
  t9 := Tryd.underlying9
  a9 := Tryd.isAgg9
  z9 := Tryd.sizeOf9
  v9 := Tryd.zeroValue9
  t46 := Tryd.underlying59
  a46 := Tryd.isAgg59
  z46 := Tryd.sizeOf59
  v46 := Tryd.zeroValue59
  t51 := Tryd.underlying76
  a51 := Tryd.isAgg76
  z51 := Tryd.sizeOf76
  v51 := Tryd.zeroValue76
  t59 := Tryd.underlying54
  a59 := Tryd.isAgg54
  z59 := Tryd.sizeOf54
  v59 := Tryd.zeroValue54
  t146 := Tryd.underlying77
  a146 := Tryd.isAgg77
  z146 := Tryd.sizeOf77
  v146 := Tryd.zeroValue77
  g1 := by kernel_rfl }
open Go.RowKit Go.Lib in
/-- strings.Cut: "Cut slices s around the first instance of sep, returning the text before and after sep. The found result reports whether sep appears in s. If sep does not appear in s, cut returns s, "", false.": IT RETURNS 'Lib.cut s sep'; the world is as it was but for the count of draws. (LAID: no walk: one application.) -/
theorem Tryd.strings_Cut (s sep : ByteArray) (m : Int) (w : World) (hs : s.size < 4294967281) (hm : w.cell? ⟨0, 0, none⟩ = some (.int .i64 m)) :
    Calls Tryd.prog 36 #[.string s, .string sep] w fun e w' => e = .returned (.tuple #[.string ⟨(Lib.cut s.data.toList sep.data.toList).1.toArray⟩, .string ⟨(Lib.cut s.data.toList sep.data.toList).2.1.toArray⟩, .bool (Lib.cut s.data.toList sep.data.toList).2.2]) ∧ ∃ n, w' = w.drewN n := Any.strings_Cut Tryd.lays145 s sep m w hs hm
def Tryd.lays138_ren : Go.Shelf.Ren := ⟨fun | 138 => 54 | 195 => 65 | 218 => 66 | 143 => 55 | 219 => 64 | 217 => 50 | 225 => 78 | 224 => 79 | 267 => 80 | 266 => 63 | 314 => 87 | n => n, fun | 9 => 9 | 3 => 3 | 4 => 4 | 5 => 5 | 0 => 0 | 46 => 59 | 146 => 77 | 51 => 76 | n => n, fun | 1 => 0 | n => n⟩
theorem Tryd.lays138 : Go.Proofs.Lays.n138 Tryd.prog Tryd.lays138_ren := {
  mixed := by kernel_rfl
  f138 := Tryd.func54.trans (congrArg some (by kernel_rfl))
  f143 := Tryd.func55.trans (congrArg some (by kernel_rfl))
  f195 := Tryd.func65.trans (congrArg some (by kernel_rfl))
  f217 := Tryd.func50.trans (congrArg some (by kernel_rfl))
  f218 := Tryd.func66.trans (congrArg some (by kernel_rfl))
  f219 := Tryd.func64.trans (congrArg some (by kernel_rfl))
  f224 := Tryd.func79.trans (congrArg some (by kernel_rfl))
  f225 := Tryd.func78.trans (congrArg some (by kernel_rfl))
  f266 := Tryd.func63.trans (congrArg some (by kernel_rfl))
  f267 := Tryd.func80.trans (congrArg some (by kernel_rfl))
  f314 := Tryd.func87.trans (congrArg some (by kernel_rfl))
  t0 := Tryd.underlying0
  a0 := Tryd.isAgg0
  z0 := Tryd.sizeOf0
  v0 := Tryd.zeroValue0
  t3 := Tryd.underlying3
  a3 := Tryd.isAgg3
  z3 := Tryd.sizeOf3
  v3 := Tryd.zeroValue3
  t4 := Tryd.underlying4
  a4 := Tryd.isAgg4
  z4 := Tryd.sizeOf4
  v4 := Tryd.zeroValue4
  t5 := Tryd.underlying5
  a5 := Tryd.isAgg5
  z5 := Tryd.sizeOf5
  v5 := Tryd.zeroValue5
  t9 := Tryd.underlying9
  a9 := Tryd.isAgg9
  z9 := Tryd.sizeOf9
  v9 := Tryd.zeroValue9
  t46 := Tryd.underlying59
  a46 := Tryd.isAgg59
  z46 := Tryd.sizeOf59
  v46 := Tryd.zeroValue59
  t51 := Tryd.underlying76
  a51 := Tryd.isAgg76
  z51 := Tryd.sizeOf76
  v51 := Tryd.zeroValue76
  t146 := Tryd.underlying77
  a146 := Tryd.isAgg77
  z146 := Tryd.sizeOf77
  v146 := Tryd.zeroValue77
  g1 := by kernel_rfl }
open Go.RowKit Go.Lib in
/-- strings.Count AT A substr OF ONE BYTE ('hp'): "Count counts the number of non-overlapping instances of substr in s.": IT RETURNS 'Lib.countByte s (that byte)'; the world is as it was. ✋ NO CONTRACT HERE YET at an empty substr (utf8.RuneCountInString) or at a longer one (a loop over strings.Index). (LAID: no walk: one application.) -/
theorem Tryd.strings_Count_one (s : ByteArray) (c : UInt8) (w : World) :
    Calls Tryd.prog 54 #[.string s, .string ⟨#[c]⟩] w fun e w' => e = .returned (.int .i64 (Lib.countByte s.data.toList c)) ∧ w' = w := Any.strings_Count_one Tryd.lays138 s c w
open Go.RowKit Go.Lib in
/-- strings.Count AT A substr OF TWO BYTES OR MORE: "Count counts the number of non-overlapping instances of substr in s.": IT RETURNS 'Lib.count s substr'; the world is as it was. (LAID: no walk: one application.) -/
theorem Tryd.strings_Count (s sub : ByteArray) (m : Int) (w : World) (hs : s.size < 4294967281) (hm : w.cell? ⟨0, 0, none⟩ = some (.int .i64 m)) (h2 : 2 ≤ sub.size) :
    Calls Tryd.prog 54 #[.string s, .string sub] w fun e w' => e = .returned (.int .i64 (Lib.countB s sub)) ∧ w' = w := Any.strings_Count Tryd.lays138 s sub m w hs hm h2
def Tryd.laysM219_ren : Go.Shelf.Ren := ⟨fun | 219 => 64 | 217 => 50 | 225 => 78 | 224 => 79 | 267 => 80 | 266 => 63 | 314 => 87 | n => n, fun | 9 => 9 | 3 => 3 | 4 => 4 | 5 => 5 | 46 => 59 | 146 => 77 | 51 => 76 | n => n, fun | 1 => 0 | n => n⟩
theorem Tryd.laysM219 : Go.Proofs.LaysM.n219 Tryd.prog Tryd.laysM219_ren := {
  mixed := by kernel_rfl
  f217 := Tryd.func50.trans (congrArg some (by kernel_rfl))
  f219 := Tryd.func64.trans (congrArg some (by kernel_rfl))
  f224 := Tryd.func79.trans (congrArg some (by kernel_rfl))
  f225 := Tryd.func78.trans (congrArg some (by kernel_rfl))
  f266 := Tryd.func63.trans (congrArg some (by kernel_rfl))
  f267 := Tryd.func80.trans (congrArg some (by kernel_rfl))
  f314 := Tryd.func87.trans (congrArg some (by kernel_rfl))
  t3 := Tryd.underlying3
  a3 := Tryd.isAgg3
  z3 := Tryd.sizeOf3
  v3 := Tryd.zeroValue3
  t4 := Tryd.underlying4
  a4 := Tryd.isAgg4
  z4 := Tryd.sizeOf4
  v4 := Tryd.zeroValue4
  t5 := Tryd.underlying5
  a5 := Tryd.isAgg5
  z5 := Tryd.sizeOf5
  v5 := Tryd.zeroValue5
  t9 := Tryd.underlying9
  a9 := Tryd.isAgg9
  z9 := Tryd.sizeOf9
  v9 := Tryd.zeroValue9
  t46 := Tryd.underlying59
  a46 := Tryd.isAgg59
  z46 := Tryd.sizeOf59
  v46 := Tryd.zeroValue59
  t51 := Tryd.underlying76
  a51 := Tryd.isAgg76
  z51 := Tryd.sizeOf76
  v51 := Tryd.zeroValue76
  t146 := Tryd.underlying77
  a146 := Tryd.isAgg77
  z146 := Tryd.sizeOf77
  v146 := Tryd.zeroValue77
  g1 := by kernel_rfl
  i3 := by kernel_rfl
  i4 := by kernel_rfl
  i5 := by kernel_rfl
  i9 := by kernel_rfl
  i46 := by kernel_rfl
  i51 := by kernel_rfl
  i146 := by kernel_rfl
  m1 := by kernel_rfl
  s1_3 := fun w h => Go.Proofs.cell_of_shapedOpen_int (zero := #[.int .i64 0]) (t := 3) h (of_decide_eq_true (by kernel_rfl)) (by kernel_rfl) rfl (by kernel_rfl) (by kernel_rfl) Tryd.underlying3 }
open Go.RowKit Go.Lib in
theorem Tryd.stringslite_Index_shaped (s sub : ByteArray) (w : World) (h : w.ShapedOpen Tryd.prog) (hs : s.size < 4294967281) :
    Calls Tryd.prog 64 #[.string s, .string sub] w fun e w' => e = .returned (.int .i64 (Lib.index s.data.toList sub.data.toList)) ∧ w' = w := Any.stringslite_Index_shaped Tryd.laysM219 s sub w h hs
def Tryd.laysM143_ren : Go.Shelf.Ren := ⟨fun | 143 => 55 | 219 => 64 | 217 => 50 | 225 => 78 | 224 => 79 | 267 => 80 | 266 => 63 | 314 => 87 | n => n, fun | 9 => 9 | 3 => 3 | 4 => 4 | 5 => 5 | 46 => 59 | 146 => 77 | 51 => 76 | n => n, fun | 1 => 0 | n => n⟩
theorem Tryd.laysM143 : Go.Proofs.LaysM.n143 Tryd.prog Tryd.laysM143_ren := {
  mixed := by kernel_rfl
  f143 := Tryd.func55.trans (congrArg some (by kernel_rfl))
  f217 := Tryd.func50.trans (congrArg some (by kernel_rfl))
  f219 := Tryd.func64.trans (congrArg some (by kernel_rfl))
  f224 := Tryd.func79.trans (congrArg some (by kernel_rfl))
  f225 := Tryd.func78.trans (congrArg some (by kernel_rfl))
  f266 := Tryd.func63.trans (congrArg some (by kernel_rfl))
  f267 := Tryd.func80.trans (congrArg some (by kernel_rfl))
  f314 := Tryd.func87.trans (congrArg some (by kernel_rfl))
  t3 := Tryd.underlying3
  a3 := Tryd.isAgg3
  z3 := Tryd.sizeOf3
  v3 := Tryd.zeroValue3
  t4 := Tryd.underlying4
  a4 := Tryd.isAgg4
  z4 := Tryd.sizeOf4
  v4 := Tryd.zeroValue4
  t5 := Tryd.underlying5
  a5 := Tryd.isAgg5
  z5 := Tryd.sizeOf5
  v5 := Tryd.zeroValue5
  t9 := Tryd.underlying9
  a9 := Tryd.isAgg9
  z9 := Tryd.sizeOf9
  v9 := Tryd.zeroValue9
  t46 := Tryd.underlying59
  a46 := Tryd.isAgg59
  z46 := Tryd.sizeOf59
  v46 := Tryd.zeroValue59
  t51 := Tryd.underlying76
  a51 := Tryd.isAgg76
  z51 := Tryd.sizeOf76
  v51 := Tryd.zeroValue76
  t146 := Tryd.underlying77
  a146 := Tryd.isAgg77
  z146 := Tryd.sizeOf77
  v146 := Tryd.zeroValue77
  g1 := by kernel_rfl
  i3 := by kernel_rfl
  i4 := by kernel_rfl
  i5 := by kernel_rfl
  i9 := by kernel_rfl
  i46 := by kernel_rfl
  i51 := by kernel_rfl
  i146 := by kernel_rfl
  m1 := by kernel_rfl
  s1_3 := fun w h => Go.Proofs.cell_of_shapedOpen_int (zero := #[.int .i64 0]) (t := 3) h (of_decide_eq_true (by kernel_rfl)) (by kernel_rfl) rfl (by kernel_rfl) (by kernel_rfl) Tryd.underlying3 }
open Go.RowKit Go.Lib in
theorem Tryd.strings_Index_shaped (s sub : ByteArray) (w : World) (h : w.ShapedOpen Tryd.prog) (hs : s.size < 4294967281) :
    Calls Tryd.prog 55 #[.string s, .string sub] w fun e w' => e = .returned (.int .i64 (Lib.index s.data.toList sub.data.toList)) ∧ w' = w := Any.strings_Index_shaped Tryd.laysM143 s sub w h hs
def Tryd.laysM220_ren : Go.Shelf.Ren := ⟨fun | 220 => 51 | 219 => 64 | 217 => 50 | 225 => 78 | 224 => 79 | 267 => 80 | 266 => 63 | 314 => 87 | n => n, fun | 9 => 9 | 4 => 4 | 3 => 3 | 5 => 5 | 46 => 59 | 146 => 77 | 51 => 76 | n => n, fun | 1 => 0 | n => n⟩
theorem Tryd.laysM220 : Go.Proofs.LaysM.n220 Tryd.prog Tryd.laysM220_ren := {
  mixed := by kernel_rfl
  f217 := Tryd.func50.trans (congrArg some (by kernel_rfl))
  f219 := Tryd.func64.trans (congrArg some (by kernel_rfl))
  f220 := Tryd.func51.trans (congrArg some (by kernel_rfl))
  f224 := Tryd.func79.trans (congrArg some (by kernel_rfl))
  f225 := Tryd.func78.trans (congrArg some (by kernel_rfl))
  f266 := Tryd.func63.trans (congrArg some (by kernel_rfl))
  f267 := Tryd.func80.trans (congrArg some (by kernel_rfl))
  f314 := Tryd.func87.trans (congrArg some (by kernel_rfl))
  t3 := Tryd.underlying3
  a3 := Tryd.isAgg3
  z3 := Tryd.sizeOf3
  v3 := Tryd.zeroValue3
  t4 := Tryd.underlying4
  a4 := Tryd.isAgg4
  z4 := Tryd.sizeOf4
  v4 := Tryd.zeroValue4
  t5 := Tryd.underlying5
  a5 := Tryd.isAgg5
  z5 := Tryd.sizeOf5
  v5 := Tryd.zeroValue5
  t9 := Tryd.underlying9
  a9 := Tryd.isAgg9
  z9 := Tryd.sizeOf9
  v9 := Tryd.zeroValue9
  t46 := Tryd.underlying59
  a46 := Tryd.isAgg59
  z46 := Tryd.sizeOf59
  v46 := Tryd.zeroValue59
  t51 := Tryd.underlying76
  a51 := Tryd.isAgg76
  z51 := Tryd.sizeOf76
  v51 := Tryd.zeroValue76
  t146 := Tryd.underlying77
  a146 := Tryd.isAgg77
  z146 := Tryd.sizeOf77
  v146 := Tryd.zeroValue77
  g1 := by kernel_rfl
  i3 := by kernel_rfl
  i4 := by kernel_rfl
  i5 := by kernel_rfl
  i9 := by kernel_rfl
  i46 := by kernel_rfl
  i51 := by kernel_rfl
  i146 := by kernel_rfl
  m1 := by kernel_rfl
  s1_3 := fun w h => Go.Proofs.cell_of_shapedOpen_int (zero := #[.int .i64 0]) (t := 3) h (of_decide_eq_true (by kernel_rfl)) (by kernel_rfl) rfl (by kernel_rfl) (by kernel_rfl) Tryd.underlying3 }
open Go.RowKit Go.Lib in
theorem Tryd.stringslite_Cut_shaped (s sep : ByteArray) (w : World) (h : w.ShapedOpen Tryd.prog) (hs : s.size < 4294967281) :
    Calls Tryd.prog 51 #[.string s, .string sep] w fun e w' => e = .returned (.tuple #[.string ⟨(Lib.cut s.data.toList sep.data.toList).1.toArray⟩, .string ⟨(Lib.cut s.data.toList sep.data.toList).2.1.toArray⟩, .bool (Lib.cut s.data.toList sep.data.toList).2.2]) ∧ ∃ n, w' = w.drewN n := Any.stringslite_Cut_shaped Tryd.laysM220 s sep w h hs
def Tryd.laysM145_ren : Go.Shelf.Ren := ⟨fun | 145 => 36 | 220 => 51 | 219 => 64 | 217 => 50 | 225 => 78 | 224 => 79 | 267 => 80 | 266 => 63 | 314 => 87 | n => n, fun | 9 => 9 | 4 => 4 | 59 => 54 | 3 => 3 | 5 => 5 | 46 => 59 | 146 => 77 | 51 => 76 | n => n, fun | 1 => 0 | n => n⟩
theorem Tryd.laysM145 : Go.Proofs.LaysM.n145 Tryd.prog Tryd.laysM145_ren := {
  mixed := by kernel_rfl
  f145 := Tryd.func36.trans (congrArg some (by kernel_rfl))
  f217 := Tryd.func50.trans (congrArg some (by kernel_rfl))
  f219 := Tryd.func64.trans (congrArg some (by kernel_rfl))
  f220 := Tryd.func51.trans (congrArg some (by kernel_rfl))
  f224 := Tryd.func79.trans (congrArg some (by kernel_rfl))
  f225 := Tryd.func78.trans (congrArg some (by kernel_rfl))
  f266 := Tryd.func63.trans (congrArg some (by kernel_rfl))
  f267 := Tryd.func80.trans (congrArg some (by kernel_rfl))
  f314 := Tryd.func87.trans (congrArg some (by kernel_rfl))
  t3 := Tryd.underlying3
  a3 := Tryd.isAgg3
  z3 := Tryd.sizeOf3
  v3 := Tryd.zeroValue3
  t4 := Tryd.underlying4
  a4 := Tryd.isAgg4
  z4 := Tryd.sizeOf4
  v4 := Tryd.zeroValue4
  t5 := Tryd.underlying5
  a5 := Tryd.isAgg5
  z5 := Tryd.sizeOf5
  v5 := Tryd.zeroValue5
  t9 := Tryd.underlying9
  a9 := Tryd.isAgg9
  z9 := Tryd.sizeOf9
  v9 := Tryd.zeroValue9
  t46 := Tryd.underlying59
  a46 := Tryd.isAgg59
  z46 := Tryd.sizeOf59
  v46 := Tryd.zeroValue59
  t51 := Tryd.underlying76
  a51 := Tryd.isAgg76
  z51 := Tryd.sizeOf76
  v51 := Tryd.zeroValue76
  t59 := Tryd.underlying54
  a59 := Tryd.isAgg54
  z59 := Tryd.sizeOf54
  v59 := Tryd.zeroValue54
  t146 := Tryd.underlying77
  a146 := Tryd.isAgg77
  z146 := Tryd.sizeOf77
  v146 := Tryd.zeroValue77
  g1 := by kernel_rfl
  i3 := by kernel_rfl
  i4 := by kernel_rfl
  i5 := by kernel_rfl
  i9 := by kernel_rfl
  i46 := by kernel_rfl
  i51 := by kernel_rfl
  i59 := by kernel_rfl
  i146 := by kernel_rfl
  m1 := by kernel_rfl
  s1_3 := fun w h => Go.Proofs.cell_of_shapedOpen_int (zero := #[.int .i64 0]) (t := 3) h (of_decide_eq_true (by kernel_rfl)) (by kernel_rfl) rfl (by kernel_rfl) (by kernel_rfl) Tryd.underlying3 }
open Go.RowKit Go.Lib in
theorem Tryd.strings_Cut_shaped (s sep : ByteArray) (w : World) (h : w.ShapedOpen Tryd.prog) (hs : s.size < 4294967281) :
    Calls Tryd.prog 36 #[.string s, .string sep] w fun e w' => e = .returned (.tuple #[.string ⟨(Lib.cut s.data.toList sep.data.toList).1.toArray⟩, .string ⟨(Lib.cut s.data.toList sep.data.toList).2.1.toArray⟩, .bool (Lib.cut s.data.toList sep.data.toList).2.2]) ∧ ∃ n, w' = w.drewN n := Any.strings_Cut_shaped Tryd.laysM145 s sep w h hs
def Tryd.laysM138_ren : Go.Shelf.Ren := ⟨fun | 138 => 54 | 195 => 65 | 218 => 66 | 143 => 55 | 219 => 64 | 217 => 50 | 225 => 78 | 224 => 79 | 267 => 80 | 266 => 63 | 314 => 87 | n => n, fun | 9 => 9 | 3 => 3 | 4 => 4 | 5 => 5 | 0 => 0 | 46 => 59 | 146 => 77 | 51 => 76 | n => n, fun | 1 => 0 | n => n⟩
theorem Tryd.laysM138 : Go.Proofs.LaysM.n138 Tryd.prog Tryd.laysM138_ren := {
  mixed := by kernel_rfl
  f138 := Tryd.func54.trans (congrArg some (by kernel_rfl))
  f143 := Tryd.func55.trans (congrArg some (by kernel_rfl))
  f195 := Tryd.func65.trans (congrArg some (by kernel_rfl))
  f217 := Tryd.func50.trans (congrArg some (by kernel_rfl))
  f218 := Tryd.func66.trans (congrArg some (by kernel_rfl))
  f219 := Tryd.func64.trans (congrArg some (by kernel_rfl))
  f224 := Tryd.func79.trans (congrArg some (by kernel_rfl))
  f225 := Tryd.func78.trans (congrArg some (by kernel_rfl))
  f266 := Tryd.func63.trans (congrArg some (by kernel_rfl))
  f267 := Tryd.func80.trans (congrArg some (by kernel_rfl))
  f314 := Tryd.func87.trans (congrArg some (by kernel_rfl))
  t0 := Tryd.underlying0
  a0 := Tryd.isAgg0
  z0 := Tryd.sizeOf0
  v0 := Tryd.zeroValue0
  t3 := Tryd.underlying3
  a3 := Tryd.isAgg3
  z3 := Tryd.sizeOf3
  v3 := Tryd.zeroValue3
  t4 := Tryd.underlying4
  a4 := Tryd.isAgg4
  z4 := Tryd.sizeOf4
  v4 := Tryd.zeroValue4
  t5 := Tryd.underlying5
  a5 := Tryd.isAgg5
  z5 := Tryd.sizeOf5
  v5 := Tryd.zeroValue5
  t9 := Tryd.underlying9
  a9 := Tryd.isAgg9
  z9 := Tryd.sizeOf9
  v9 := Tryd.zeroValue9
  t46 := Tryd.underlying59
  a46 := Tryd.isAgg59
  z46 := Tryd.sizeOf59
  v46 := Tryd.zeroValue59
  t51 := Tryd.underlying76
  a51 := Tryd.isAgg76
  z51 := Tryd.sizeOf76
  v51 := Tryd.zeroValue76
  t146 := Tryd.underlying77
  a146 := Tryd.isAgg77
  z146 := Tryd.sizeOf77
  v146 := Tryd.zeroValue77
  g1 := by kernel_rfl
  i0 := by kernel_rfl
  i3 := by kernel_rfl
  i4 := by kernel_rfl
  i5 := by kernel_rfl
  i9 := by kernel_rfl
  i46 := by kernel_rfl
  i51 := by kernel_rfl
  i146 := by kernel_rfl
  m1 := by kernel_rfl
  s1_3 := fun w h => Go.Proofs.cell_of_shapedOpen_int (zero := #[.int .i64 0]) (t := 3) h (of_decide_eq_true (by kernel_rfl)) (by kernel_rfl) rfl (by kernel_rfl) (by kernel_rfl) Tryd.underlying3 }
open Go.RowKit Go.Lib in
theorem Tryd.strings_Count_shaped (s sub : ByteArray) (w : World) (h : w.ShapedOpen Tryd.prog) (hs : s.size < 4294967281) (h2 : 2 ≤ sub.size) :
    Calls Tryd.prog 54 #[.string s, .string sub] w fun e w' => e = .returned (.int .i64 (Lib.countB s sub)) ∧ w' = w := Any.strings_Count_shaped Tryd.laysM138 s sub w h hs h2
def Tryd.lays206_ren : Go.Shelf.Ren := ⟨fun | 206 => 40 | n => n, fun | 9 => 9 | 4 => 4 | 3 => 3 | n => n, fun | n => n⟩
theorem Tryd.lays206 : Go.Proofs.Lays.n206 Tryd.prog Tryd.lays206_ren := {
  mixed := by kernel_rfl
  f206 := Tryd.func40.trans (congrArg some (by kernel_rfl))
  t3 := Tryd.underlying3
  a3 := Tryd.isAgg3
  z3 := Tryd.sizeOf3
  v3 := Tryd.zeroValue3
  t4 := Tryd.underlying4
  a4 := Tryd.isAgg4
  z4 := Tryd.sizeOf4
  v4 := Tryd.zeroValue4
  t9 := Tryd.underlying9
  a9 := Tryd.isAgg9
  z9 := Tryd.sizeOf9
  v9 := Tryd.zeroValue9 }
open Go.RowKit Go.Lib in
/-- internal/stringslite.HasPrefix (what strings.HasPrefix calls). (LAID: no walk: one application.) -/
theorem Tryd.stringslite_HasPrefix (s p : ByteArray) (w : World) :
    Calls Tryd.prog 40 #[.string s, .string p] w fun e w' => e = .returned (.bool (Lib.hasPrefix s.data.toList p.data.toList)) ∧ w' = w := Any.stringslite_HasPrefix Tryd.lays206 s p w
def Tryd.lays99_ren : Go.Shelf.Ren := ⟨fun | 99 => 26 | 206 => 40 | n => n, fun | 9 => 9 | 4 => 4 | 3 => 3 | n => n, fun | n => n⟩
theorem Tryd.lays99 : Go.Proofs.Lays.n99 Tryd.prog Tryd.lays99_ren := {
  mixed := by kernel_rfl
  f99 := Tryd.func26.trans (congrArg some (by kernel_rfl))
  f206 := Tryd.func40.trans (congrArg some (by kernel_rfl))
  t3 := Tryd.underlying3
  a3 := Tryd.isAgg3
  z3 := Tryd.sizeOf3
  v3 := Tryd.zeroValue3
  t4 := Tryd.underlying4
  a4 := Tryd.isAgg4
  z4 := Tryd.sizeOf4
  v4 := Tryd.zeroValue4
  t9 := Tryd.underlying9
  a9 := Tryd.isAgg9
  z9 := Tryd.sizeOf9
  v9 := Tryd.zeroValue9 }
open Go.RowKit Go.Lib in
/-- strings.HasPrefix: "HasPrefix reports whether the string s begins with prefix.": IT RETURNS 'Lib.hasPrefix s prefix'; the world is as it was. (LAID: no walk: one application.) -/
theorem Tryd.strings_HasPrefix (s p : ByteArray) (w : World) :
    Calls Tryd.prog 26 #[.string s, .string p] w fun e w' => e = .returned (.bool (Lib.hasPrefix s.data.toList p.data.toList)) ∧ w' = w := Any.strings_HasPrefix Tryd.lays99 s p w
def Tryd.lays207_ren : Go.Shelf.Ren := ⟨fun | 207 => 38 | n => n, fun | 9 => 9 | 4 => 4 | 3 => 3 | n => n, fun | n => n⟩
theorem Tryd.lays207 : Go.Proofs.Lays.n207 Tryd.prog Tryd.lays207_ren := {
  mixed := by kernel_rfl
  f207 := Tryd.func38.trans (congrArg some (by kernel_rfl))
  t3 := Tryd.underlying3
  a3 := Tryd.isAgg3
  z3 := Tryd.sizeOf3
  v3 := Tryd.zeroValue3
  t4 := Tryd.underlying4
  a4 := Tryd.isAgg4
  z4 := Tryd.sizeOf4
  v4 := Tryd.zeroValue4
  t9 := Tryd.underlying9
  a9 := Tryd.isAgg9
  z9 := Tryd.sizeOf9
  v9 := Tryd.zeroValue9 }
open Go.RowKit Go.Lib in
/-- internal/stringslite.HasSuffix (what strings.HasSuffix calls). (LAID: no walk: one application.) -/
theorem Tryd.stringslite_HasSuffix (s p : ByteArray) (w : World) (hs : s.size ≤ 9223372036854775807) :
    Calls Tryd.prog 38 #[.string s, .string p] w fun e w' => e = .returned (.bool (Lib.hasSuffix s.data.toList p.data.toList)) ∧ w' = w := Any.stringslite_HasSuffix Tryd.lays207 s p w hs
def Tryd.lays100_ren : Go.Shelf.Ren := ⟨fun | 100 => 24 | 207 => 38 | n => n, fun | 9 => 9 | 4 => 4 | 3 => 3 | n => n, fun | n => n⟩
theorem Tryd.lays100 : Go.Proofs.Lays.n100 Tryd.prog Tryd.lays100_ren := {
  mixed := by kernel_rfl
  f100 := Tryd.func24.trans (congrArg some (by kernel_rfl))
  f207 := Tryd.func38.trans (congrArg some (by kernel_rfl))
  t3 := Tryd.underlying3
  a3 := Tryd.isAgg3
  z3 := Tryd.sizeOf3
  v3 := Tryd.zeroValue3
  t4 := Tryd.underlying4
  a4 := Tryd.isAgg4
  z4 := Tryd.sizeOf4
  v4 := Tryd.zeroValue4
  t9 := Tryd.underlying9
  a9 := Tryd.isAgg9
  z9 := Tryd.sizeOf9
  v9 := Tryd.zeroValue9 }
open Go.RowKit Go.Lib in
/-- strings.HasSuffix: "HasSuffix reports whether the string s ends with suffix.": IT RETURNS 'Lib.hasSuffix s suffix'; the world is as it was. ('hs': no Go string is longer: a caller has it of every string that it was handed.) (LAID: no walk: one application.) -/
theorem Tryd.strings_HasSuffix (s p : ByteArray) (w : World) (hs : s.size ≤ 9223372036854775807) :
    Calls Tryd.prog 24 #[.string s, .string p] w fun e w' => e = .returned (.bool (Lib.hasSuffix s.data.toList p.data.toList)) ∧ w' = w := Any.strings_HasSuffix Tryd.lays100 s p w hs
open Go.RowKit Go.Lib in
/-- strings.Count at whatever sep that is not empty: the two roads under one statement. (LAID: no walk: one application.) -/
theorem Tryd.strings_Count_any (s sep : ByteArray) (m : Int) (w : World) (hs : s.size < 4294967281) (hm : w.cell? ⟨0, 0, none⟩ = some (.int .i64 m)) (h1 : 1 ≤ sep.size) :
    Calls Tryd.prog 54 #[.string s, .string sep] w fun e w' => e = .returned (.int .i64 (Lib.countB s sep)) ∧ w' = w := Any.strings_Count_any Tryd.lays138 s sep m w hs hm h1
def Tryd.lays221_ren : Go.Shelf.Ren := ⟨fun | 221 => 39 | 268 => 53 | 138 => 54 | 143 => 55 | 195 => 65 | 197 => 62 | 218 => 66 | 219 => 64 | 260 => 77 | 217 => 50 | 225 => 78 | 224 => 79 | 267 => 80 | 266 => 63 | 314 => 87 | n => n, fun | 9 => 9 | 3 => 3 | 31 => 22 | 4 => 4 | 0 => 0 | 105 => 84 | 21 => 21 | 5 => 5 | 46 => 59 | 119 => 109 | 139 => 112 | 138 => 111 | 146 => 77 | 51 => 76 | n => n, fun | 1 => 0 | 3 => 2 | 4 => 3 | n => n⟩
theorem Tryd.lays221 : Go.Proofs.Lays.n221 Tryd.prog Tryd.lays221_ren := {
  mixed := by kernel_rfl
  f138 := Tryd.func54.trans (congrArg some (by kernel_rfl))
  f143 := Tryd.func55.trans (congrArg some (by kernel_rfl))
  f195 := Tryd.func65.trans (congrArg some (by kernel_rfl))
  f197 := Tryd.func62.trans (congrArg some (by kernel_rfl))
  f217 := Tryd.func50.trans (congrArg some (by kernel_rfl))
  f218 := Tryd.func66.trans (congrArg some (by kernel_rfl))
  f219 := Tryd.func64.trans (congrArg some (by kernel_rfl))
  f221 := Tryd.func39.trans (congrArg some (by kernel_rfl))
  f224 := Tryd.func79.trans (congrArg some (by kernel_rfl))
  f225 := Tryd.func78.trans (congrArg some (by kernel_rfl))
  f260 := Tryd.func77.trans (congrArg some (by kernel_rfl))
  f266 := Tryd.func63.trans (congrArg some (by kernel_rfl))
  f267 := Tryd.func80.trans (congrArg some (by kernel_rfl))
  f268 := Tryd.func53.trans (congrArg some (by kernel_rfl))
  f314 := Tryd.func87.trans (congrArg some (by kernel_rfl))
  t0 := Tryd.underlying0
  a0 := Tryd.isAgg0
  z0 := Tryd.sizeOf0
  v0 := Tryd.zeroValue0
  t3 := Tryd.underlying3
  a3 := Tryd.isAgg3
  z3 := Tryd.sizeOf3
  v3 := Tryd.zeroValue3
  t4 := Tryd.underlying4
  a4 := Tryd.isAgg4
  z4 := Tryd.sizeOf4
  v4 := Tryd.zeroValue4
  t5 := Tryd.underlying5
  a5 := Tryd.isAgg5
  z5 := Tryd.sizeOf5
  v5 := Tryd.zeroValue5
  t9 := Tryd.underlying9
  a9 := Tryd.isAgg9
  z9 := Tryd.sizeOf9
  v9 := Tryd.zeroValue9
  t21 := Tryd.underlying21
  a21 := Tryd.isAgg21
  z21 := Tryd.sizeOf21
  v21 := Tryd.zeroValue21
  t31 := Tryd.underlying22
  a31 := Tryd.isAgg22
  z31 := Tryd.sizeOf22
  v31 := Tryd.zeroValue22
  t46 := Tryd.underlying59
  a46 := Tryd.isAgg59
  z46 := Tryd.sizeOf59
  v46 := Tryd.zeroValue59
  t51 := Tryd.underlying76
  a51 := Tryd.isAgg76
  z51 := Tryd.sizeOf76
  v51 := Tryd.zeroValue76
  t105 := Tryd.underlying84
  a105 := Tryd.isAgg84
  z105 := Tryd.sizeOf84
  v105 := Tryd.zeroValue84
  t119 := Tryd.underlying109
  a119 := Tryd.isAgg109
  z119 := Tryd.sizeOf109
  t138 := Tryd.underlying111
  a138 := Tryd.isAgg111
  z138 := Tryd.sizeOf111
  v138 := Tryd.zeroValue111
  t139 := Tryd.underlying112
  a139 := Tryd.isAgg112
  z139 := Tryd.sizeOf112
  v139 := Tryd.zeroValue112
  t146 := Tryd.underlying77
  a146 := Tryd.isAgg77
  z146 := Tryd.sizeOf77
  v146 := Tryd.zeroValue77
  g1 := by kernel_rfl
  g3 := by kernel_rfl
  g4 := by kernel_rfl }
open Go.RowKit Go.Lib in
theorem Tryd.strings_genSplit (s sep : ByteArray) (sv : Nat) (n : Int) (N : Nat) (m : Int) (w : World) (hs : s.size < 4294967281) (hm : w.cell? ⟨0, 0, none⟩ = some (.int .i64 m)) (h1 : 1 ≤ sep.size) (hsv : sv ≤ sep.size) (hn0 : n ≠ 0) (hn63 : n ≤ 9223372036854775807) (hN : (N : Int) = min (if n < 0 then (Lib.countB s sep : Int) + 1 else n) ((s.size : Int) + 1)) :
    Calls Tryd.prog 39 #[.string s, .string sep, .int .i64 sv, .int .i64 n] w fun e w' =>
      e = .returned (.slice (some ⟨w.heap.size, 0, none⟩) (Lib.splitB sep sv (N - 1) s).length N) ∧ w' = w.alloc (.cells (Lib.cellsOf (Lib.splitB sep sv (N - 1) s) N) 9) := Any.strings_genSplit Tryd.lays221 (by kernel_rfl) s sep sv n N m w hs hm h1 hsv hn0 hn63 hN
def Tryd.lays146_ren : Go.Shelf.Ren := ⟨fun | 146 => 25 | 221 => 39 | 268 => 53 | 138 => 54 | 143 => 55 | 195 => 65 | 197 => 62 | 218 => 66 | 219 => 64 | 260 => 77 | 217 => 50 | 225 => 78 | 224 => 79 | 267 => 80 | 266 => 63 | 314 => 87 | n => n, fun | 9 => 9 | 31 => 22 | 3 => 3 | 4 => 4 | 0 => 0 | 105 => 84 | 21 => 21 | 5 => 5 | 46 => 59 | 119 => 109 | 139 => 112 | 138 => 111 | 146 => 77 | 51 => 76 | n => n, fun | 1 => 0 | 3 => 2 | 4 => 3 | n => n⟩
theorem Tryd.lays146 : Go.Proofs.Lays.n146 Tryd.prog Tryd.lays146_ren := {
  mixed := by kernel_rfl
  f138 := Tryd.func54.trans (congrArg some (by kernel_rfl))
  f143 := Tryd.func55.trans (congrArg some (by kernel_rfl))
  f146 := Tryd.func25.trans (congrArg some (by kernel_rfl))
  f195 := Tryd.func65.trans (congrArg some (by kernel_rfl))
  f197 := Tryd.func62.trans (congrArg some (by kernel_rfl))
  f217 := Tryd.func50.trans (congrArg some (by kernel_rfl))
  f218 := Tryd.func66.trans (congrArg some (by kernel_rfl))
  f219 := Tryd.func64.trans (congrArg some (by kernel_rfl))
  f221 := Tryd.func39.trans (congrArg some (by kernel_rfl))
  f224 := Tryd.func79.trans (congrArg some (by kernel_rfl))
  f225 := Tryd.func78.trans (congrArg some (by kernel_rfl))
  f260 := Tryd.func77.trans (congrArg some (by kernel_rfl))
  f266 := Tryd.func63.trans (congrArg some (by kernel_rfl))
  f267 := Tryd.func80.trans (congrArg some (by kernel_rfl))
  f268 := Tryd.func53.trans (congrArg some (by kernel_rfl))
  f314 := Tryd.func87.trans (congrArg some (by kernel_rfl))
  t0 := Tryd.underlying0
  a0 := Tryd.isAgg0
  z0 := Tryd.sizeOf0
  v0 := Tryd.zeroValue0
  t3 := Tryd.underlying3
  a3 := Tryd.isAgg3
  z3 := Tryd.sizeOf3
  v3 := Tryd.zeroValue3
  t4 := Tryd.underlying4
  a4 := Tryd.isAgg4
  z4 := Tryd.sizeOf4
  v4 := Tryd.zeroValue4
  t5 := Tryd.underlying5
  a5 := Tryd.isAgg5
  z5 := Tryd.sizeOf5
  v5 := Tryd.zeroValue5
  t9 := Tryd.underlying9
  a9 := Tryd.isAgg9
  z9 := Tryd.sizeOf9
  v9 := Tryd.zeroValue9
  t21 := Tryd.underlying21
  a21 := Tryd.isAgg21
  z21 := Tryd.sizeOf21
  v21 := Tryd.zeroValue21
  t31 := Tryd.underlying22
  a31 := Tryd.isAgg22
  z31 := Tryd.sizeOf22
  v31 := Tryd.zeroValue22
  t46 := Tryd.underlying59
  a46 := Tryd.isAgg59
  z46 := Tryd.sizeOf59
  v46 := Tryd.zeroValue59
  t51 := Tryd.underlying76
  a51 := Tryd.isAgg76
  z51 := Tryd.sizeOf76
  v51 := Tryd.zeroValue76
  t105 := Tryd.underlying84
  a105 := Tryd.isAgg84
  z105 := Tryd.sizeOf84
  v105 := Tryd.zeroValue84
  t119 := Tryd.underlying109
  a119 := Tryd.isAgg109
  z119 := Tryd.sizeOf109
  t138 := Tryd.underlying111
  a138 := Tryd.isAgg111
  z138 := Tryd.sizeOf111
  v138 := Tryd.zeroValue111
  t139 := Tryd.underlying112
  a139 := Tryd.isAgg112
  z139 := Tryd.sizeOf112
  v139 := Tryd.zeroValue112
  t146 := Tryd.underlying77
  a146 := Tryd.isAgg77
  z146 := Tryd.sizeOf77
  v146 := Tryd.zeroValue77
  g1 := by kernel_rfl
  g3 := by kernel_rfl
  g4 := by kernel_rfl }
open Go.RowKit Go.Lib in
/-- strings.Split. (LAID: no walk: one application.) -/
theorem Tryd.strings_Split (s sep : ByteArray) (m : Int) (w : World) (hs : s.size < 4294967281) (hm : w.cell? ⟨0, 0, none⟩ = some (.int .i64 m)) (h1 : 1 ≤ sep.size) :
    Calls Tryd.prog 25 #[.string s, .string sep] w fun e w' =>
      e = .returned (.slice (some ⟨w.heap.size, 0, none⟩) (Lib.countB s sep + 1) (Lib.countB s sep + 1)) ∧ w' = w.alloc (.cells ((Lib.splitB sep 0 (Lib.countB s sep) s).map Value.string).toArray 9) := Any.strings_Split Tryd.lays146 (by kernel_rfl) s sep m w hs hm h1
def Tryd.lays154_ren : Go.Shelf.Ren := ⟨fun | 154 => 48 | 138 => 54 | 165 => 42 | 143 => 55 | 166 => 43 | 197 => 62 | 169 => 45 | 195 => 65 | 218 => 66 | 240 => 58 | 241 => 59 | 219 => 64 | 260 => 77 | 276 => 67 | 277 => 68 | 217 => 50 | 225 => 78 | 224 => 79 | 267 => 80 | 266 => 63 | 314 => 87 | n => n, fun | 9 => 9 | 3 => 3 | 4 => 4 | 72 => 64 | 0 => 0 | 76 => 68 | 105 => 84 | 21 => 21 | 5 => 5 | 70 => 62 | 20 => 20 | 37 => 44 | 75 => 67 | 127 => 82 | 164 => 87 | 46 => 59 | 119 => 109 | 139 => 112 | 138 => 111 | 146 => 77 | 51 => 76 | 80 => 71 | n => n, fun | 1 => 0 | 3 => 2 | 4 => 3 | n => n⟩
theorem Tryd.lays154 : Go.Proofs.Lays.n154 Tryd.prog Tryd.lays154_ren := {
  mixed := by kernel_rfl
  f138 := Tryd.func54.trans (congrArg some (by kernel_rfl))
  f143 := Tryd.func55.trans (congrArg some (by kernel_rfl))
  f154 := Tryd.func48.trans (congrArg some (by kernel_rfl))
  f165 := Tryd.func42.trans (congrArg some (by kernel_rfl))
  f166 := Tryd.func43.trans (congrArg some (by kernel_rfl))
  f169 := Tryd.func45.trans (congrArg some (by kernel_rfl))
  f195 := Tryd.func65.trans (congrArg some (by kernel_rfl))
  f197 := Tryd.func62.trans (congrArg some (by kernel_rfl))
  f217 := Tryd.func50.trans (congrArg some (by kernel_rfl))
  f218 := Tryd.func66.trans (congrArg some (by kernel_rfl))
  f219 := Tryd.func64.trans (congrArg some (by kernel_rfl))
  f224 := Tryd.func79.trans (congrArg some (by kernel_rfl))
  f225 := Tryd.func78.trans (congrArg some (by kernel_rfl))
  f240 := Tryd.func58.trans (congrArg some (by kernel_rfl))
  f241 := Tryd.func59.trans (congrArg some (by kernel_rfl))
  f260 := Tryd.func77.trans (congrArg some (by kernel_rfl))
  f266 := Tryd.func63.trans (congrArg some (by kernel_rfl))
  f267 := Tryd.func80.trans (congrArg some (by kernel_rfl))
  f276 := Tryd.func67.trans (congrArg some (by kernel_rfl))
  f277 := Tryd.func68.trans (congrArg some (by kernel_rfl))
  f314 := Tryd.func87.trans (congrArg some (by kernel_rfl))
  t0 := Tryd.underlying0
  a0 := Tryd.isAgg0
  z0 := Tryd.sizeOf0
  v0 := Tryd.zeroValue0
  t3 := Tryd.underlying3
  a3 := Tryd.isAgg3
  z3 := Tryd.sizeOf3
  v3 := Tryd.zeroValue3
  t4 := Tryd.underlying4
  a4 := Tryd.isAgg4
  z4 := Tryd.sizeOf4
  v4 := Tryd.zeroValue4
  t5 := Tryd.underlying5
  a5 := Tryd.isAgg5
  z5 := Tryd.sizeOf5
  v5 := Tryd.zeroValue5
  t9 := Tryd.underlying9
  a9 := Tryd.isAgg9
  z9 := Tryd.sizeOf9
  v9 := Tryd.zeroValue9
  t20 := Tryd.underlying20
  a20 := Tryd.isAgg20
  z20 := Tryd.sizeOf20
  v20 := Tryd.zeroValue20
  t21 := Tryd.underlying21
  a21 := Tryd.isAgg21
  z21 := Tryd.sizeOf21
  v21 := Tryd.zeroValue21
  t37 := Tryd.underlying44
  a37 := Tryd.isAgg44
  z37 := Tryd.sizeOf44
  v37 := Tryd.zeroValue44
  t46 := Tryd.underlying59
  a46 := Tryd.isAgg59
  z46 := Tryd.sizeOf59
  v46 := Tryd.zeroValue59
  t51 := Tryd.underlying76
  a51 := Tryd.isAgg76
  z51 := Tryd.sizeOf76
  v51 := Tryd.zeroValue76
  t70 := Tryd.underlying62
  a70 := Tryd.isAgg62
  z70 := Tryd.sizeOf62
  v70 := Tryd.zeroValue62
  t72 := Tryd.underlying64
  a72 := Tryd.isAgg64
  z72 := Tryd.sizeOf64
  v72 := Tryd.zeroValue64
  t75 := Tryd.underlying67
  a75 := Tryd.isAgg67
  z75 := Tryd.sizeOf67
  v75 := Tryd.zeroValue67
  t76 := Tryd.underlying68
  a76 := Tryd.isAgg68
  z76 := Tryd.sizeOf68
  v76 := Tryd.zeroValue68
  t105 := Tryd.underlying84
  a105 := Tryd.isAgg84
  z105 := Tryd.sizeOf84
  v105 := Tryd.zeroValue84
  t119 := Tryd.underlying109
  a119 := Tryd.isAgg109
  z119 := Tryd.sizeOf109
  t127 := Tryd.underlying82
  a127 := Tryd.isAgg82
  z127 := Tryd.sizeOf82
  v127 := Tryd.zeroValue82
  t138 := Tryd.underlying111
  a138 := Tryd.isAgg111
  z138 := Tryd.sizeOf111
  v138 := Tryd.zeroValue111
  t139 := Tryd.underlying112
  a139 := Tryd.isAgg112
  z139 := Tryd.sizeOf112
  v139 := Tryd.zeroValue112
  t146 := Tryd.underlying77
  a146 := Tryd.isAgg77
  z146 := Tryd.sizeOf77
  v146 := Tryd.zeroValue77
  t164 := Tryd.underlying87
  a164 := Tryd.isAgg87
  z164 := Tryd.sizeOf87
  v164 := Tryd.zeroValue87
  g1 := by kernel_rfl
  g3 := by kernel_rfl
  g4 := by kernel_rfl }
theorem Tryd.Builder_Extra_154 : Builder.Extra Tryd.prog Tryd.lays154_ren := {
  sizeBuilder := by kernel_rfl
  liesBuilder := by kernel_rfl
  t5 := Tryd.underlying5
  a5 := Tryd.isAgg5
  z5 := Tryd.sizeOf5
  v5 := Tryd.zeroValue5
  infoByte := by kernel_rfl
  cellsByte := by kernel_rfl
  sizeByte := by kernel_rfl
  neB5 := by decide }
open Go.RowKit Go.Lib in
/-- WHERE SOMETHING IS REPLACED: old is not new, n is not 0, there is an instance. (LAID: no walk: one application.) -/
theorem Tryd.strings_Replace_some (s old new : ByteArray) (n : Int) (m : Int) (w : World) (hs : s.size < 4294967281) (hm : w.cell? ⟨0, 0, none⟩ = some (.int .i64 m)) (h1 : 1 ≤ old.size) (hne : old ≠ new) (hn0 : n ≠ 0) (hc0 : Lib.countB s old ≠ 0) (hlen : s.size + Lib.countB s old * new.size ≤ 140737488355328) :
    Calls Tryd.prog 48 #[.string s, .string old, .string new, .int .i64 n] w fun e w' =>
      e = .returned (.string ⟨(Lib.replaceK old.data.toList new.data.toList (Lib.replaceNum s.data.toList old.data.toList n) s.data.toList).toArray⟩) ∧ Below w.heap.size w w' := Any.strings_Replace_some Tryd.lays154 Tryd.Builder_Extra_154 s old new n m w hs hm h1 hne hn0 hc0 hlen
open Go.RowKit Go.Lib in
/-- 'if old == new || n == 0 { return s }'. (LAID: no walk: one application.) -/
theorem Tryd.strings_Replace_none (s old new : ByteArray) (n : Int) (w : World) (h : old = new ∨ n = 0) :
    Calls Tryd.prog 48 #[.string s, .string old, .string new, .int .i64 n] w fun e w' => e = .returned (.string s) ∧ w' = w := Any.strings_Replace_none Tryd.lays154 s old new n w h
open Go.RowKit Go.Lib in
/-- 'if m := Count(s, old); m == 0 { return s }'. (LAID: no walk: one application.) -/
theorem Tryd.strings_Replace_absent (s old new : ByteArray) (n : Int) (m : Int) (w : World) (hs : s.size < 4294967281) (hm : w.cell? ⟨0, 0, none⟩ = some (.int .i64 m)) (h1 : 1 ≤ old.size) (hne : old ≠ new) (hn0 : n ≠ 0) (hc0 : Lib.countB s old = 0) :
    Calls Tryd.prog 48 #[.string s, .string old, .string new, .int .i64 n] w fun e w' => e = .returned (.string s) ∧ w' = w := Any.strings_Replace_absent Tryd.lays154 s old new n m w hs hm h1 hne hn0 hc0
open Go.RowKit Go.Lib in
/-- strings.Replace: "Replace returns a copy of the string s with the first n non-overlapping instances of old replaced by new. .. If n < 0, there is no limit on the number of replacements.": AT AN old THAT IS NOT EMPTY: IT RETURNS 'Lib.replace s old new n'. Below the heap's end the world is as it was. IT ASKS, as strings.Index's contract: 'len(s) < 4294967281', 'hm'; and that what comes out has room: 'len(s) + Count(s, old) * len(new) ≤ 2^47'. (LAID: no walk: one application.) -/
theorem Tryd.strings_Replace (s old new : ByteArray) (n : Int) (m : Int) (w : World) (hs : s.size < 4294967281) (hm : w.cell? ⟨0, 0, none⟩ = some (.int .i64 m)) (h1 : 1 ≤ old.size) (hlen : s.size + Lib.countB s old * new.size ≤ 140737488355328) :
    Calls Tryd.prog 48 #[.string s, .string old, .string new, .int .i64 n] w fun e w' =>
      e = .returned (.string ⟨(Lib.replace s.data.toList old.data.toList new.data.toList n).toArray⟩) ∧ Below w.heap.size w w' := Any.strings_Replace Tryd.lays154 Tryd.Builder_Extra_154 s old new n m w hs hm h1 hlen
def Tryd.lays155_ren : Go.Shelf.Ren := ⟨fun | 155 => 31 | 154 => 48 | 138 => 54 | 165 => 42 | 143 => 55 | 166 => 43 | 197 => 62 | 169 => 45 | 195 => 65 | 218 => 66 | 240 => 58 | 241 => 59 | 219 => 64 | 260 => 77 | 276 => 67 | 277 => 68 | 217 => 50 | 225 => 78 | 224 => 79 | 267 => 80 | 266 => 63 | 314 => 87 | n => n, fun | 9 => 9 | 3 => 3 | 4 => 4 | 72 => 64 | 0 => 0 | 76 => 68 | 105 => 84 | 21 => 21 | 5 => 5 | 70 => 62 | 20 => 20 | 37 => 44 | 75 => 67 | 127 => 82 | 164 => 87 | 46 => 59 | 119 => 109 | 139 => 112 | 138 => 111 | 146 => 77 | 51 => 76 | 80 => 71 | n => n, fun | 1 => 0 | 3 => 2 | 4 => 3 | n => n⟩
theorem Tryd.lays155 : Go.Proofs.Lays.n155 Tryd.prog Tryd.lays155_ren := {
  mixed := by kernel_rfl
  f138 := Tryd.func54.trans (congrArg some (by kernel_rfl))
  f143 := Tryd.func55.trans (congrArg some (by kernel_rfl))
  f154 := Tryd.func48.trans (congrArg some (by kernel_rfl))
  f155 := Tryd.func31.trans (congrArg some (by kernel_rfl))
  f165 := Tryd.func42.trans (congrArg some (by kernel_rfl))
  f166 := Tryd.func43.trans (congrArg some (by kernel_rfl))
  f169 := Tryd.func45.trans (congrArg some (by kernel_rfl))
  f195 := Tryd.func65.trans (congrArg some (by kernel_rfl))
  f197 := Tryd.func62.trans (congrArg some (by kernel_rfl))
  f217 := Tryd.func50.trans (congrArg some (by kernel_rfl))
  f218 := Tryd.func66.trans (congrArg some (by kernel_rfl))
  f219 := Tryd.func64.trans (congrArg some (by kernel_rfl))
  f224 := Tryd.func79.trans (congrArg some (by kernel_rfl))
  f225 := Tryd.func78.trans (congrArg some (by kernel_rfl))
  f240 := Tryd.func58.trans (congrArg some (by kernel_rfl))
  f241 := Tryd.func59.trans (congrArg some (by kernel_rfl))
  f260 := Tryd.func77.trans (congrArg some (by kernel_rfl))
  f266 := Tryd.func63.trans (congrArg some (by kernel_rfl))
  f267 := Tryd.func80.trans (congrArg some (by kernel_rfl))
  f276 := Tryd.func67.trans (congrArg some (by kernel_rfl))
  f277 := Tryd.func68.trans (congrArg some (by kernel_rfl))
  f314 := Tryd.func87.trans (congrArg some (by kernel_rfl))
  t0 := Tryd.underlying0
  a0 := Tryd.isAgg0
  z0 := Tryd.sizeOf0
  v0 := Tryd.zeroValue0
  t3 := Tryd.underlying3
  a3 := Tryd.isAgg3
  z3 := Tryd.sizeOf3
  v3 := Tryd.zeroValue3
  t4 := Tryd.underlying4
  a4 := Tryd.isAgg4
  z4 := Tryd.sizeOf4
  v4 := Tryd.zeroValue4
  t5 := Tryd.underlying5
  a5 := Tryd.isAgg5
  z5 := Tryd.sizeOf5
  v5 := Tryd.zeroValue5
  t9 := Tryd.underlying9
  a9 := Tryd.isAgg9
  z9 := Tryd.sizeOf9
  v9 := Tryd.zeroValue9
  t20 := Tryd.underlying20
  a20 := Tryd.isAgg20
  z20 := Tryd.sizeOf20
  v20 := Tryd.zeroValue20
  t21 := Tryd.underlying21
  a21 := Tryd.isAgg21
  z21 := Tryd.sizeOf21
  v21 := Tryd.zeroValue21
  t37 := Tryd.underlying44
  a37 := Tryd.isAgg44
  z37 := Tryd.sizeOf44
  v37 := Tryd.zeroValue44
  t46 := Tryd.underlying59
  a46 := Tryd.isAgg59
  z46 := Tryd.sizeOf59
  v46 := Tryd.zeroValue59
  t51 := Tryd.underlying76
  a51 := Tryd.isAgg76
  z51 := Tryd.sizeOf76
  v51 := Tryd.zeroValue76
  t70 := Tryd.underlying62
  a70 := Tryd.isAgg62
  z70 := Tryd.sizeOf62
  v70 := Tryd.zeroValue62
  t72 := Tryd.underlying64
  a72 := Tryd.isAgg64
  z72 := Tryd.sizeOf64
  v72 := Tryd.zeroValue64
  t75 := Tryd.underlying67
  a75 := Tryd.isAgg67
  z75 := Tryd.sizeOf67
  v75 := Tryd.zeroValue67
  t76 := Tryd.underlying68
  a76 := Tryd.isAgg68
  z76 := Tryd.sizeOf68
  v76 := Tryd.zeroValue68
  t105 := Tryd.underlying84
  a105 := Tryd.isAgg84
  z105 := Tryd.sizeOf84
  v105 := Tryd.zeroValue84
  t119 := Tryd.underlying109
  a119 := Tryd.isAgg109
  z119 := Tryd.sizeOf109
  t127 := Tryd.underlying82
  a127 := Tryd.isAgg82
  z127 := Tryd.sizeOf82
  v127 := Tryd.zeroValue82
  t138 := Tryd.underlying111
  a138 := Tryd.isAgg111
  z138 := Tryd.sizeOf111
  v138 := Tryd.zeroValue111
  t139 := Tryd.underlying112
  a139 := Tryd.isAgg112
  z139 := Tryd.sizeOf112
  v139 := Tryd.zeroValue112
  t146 := Tryd.underlying77
  a146 := Tryd.isAgg77
  z146 := Tryd.sizeOf77
  v146 := Tryd.zeroValue77
  t164 := Tryd.underlying87
  a164 := Tryd.isAgg87
  z164 := Tryd.sizeOf87
  v164 := Tryd.zeroValue87
  g1 := by kernel_rfl
  g3 := by kernel_rfl
  g4 := by kernel_rfl }
theorem Tryd.Builder_Extra_155 : Builder.Extra Tryd.prog Tryd.lays155_ren := {
  sizeBuilder := by kernel_rfl
  liesBuilder := by kernel_rfl
  t5 := Tryd.underlying5
  a5 := Tryd.isAgg5
  z5 := Tryd.sizeOf5
  v5 := Tryd.zeroValue5
  infoByte := by kernel_rfl
  cellsByte := by kernel_rfl
  sizeByte := by kernel_rfl
  neB5 := by decide }
open Go.RowKit Go.Lib in
/-- strings.ReplaceAll: "ReplaceAll returns a copy of the string s with all non-overlapping instances of old replaced by new.": AT AN old THAT IS NOT EMPTY: 'Lib.replaceAll s old new'. (LAID: no walk: one application.) -/
theorem Tryd.strings_ReplaceAll (s old new : ByteArray) (m : Int) (w : World) (hs : s.size < 4294967281) (hm : w.cell? ⟨0, 0, none⟩ = some (.int .i64 m)) (h1 : 1 ≤ old.size) (hlen : s.size + Lib.countB s old * new.size ≤ 140737488355328) :
    Calls Tryd.prog 31 #[.string s, .string old, .string new] w fun e w' =>
      e = .returned (.string ⟨(Lib.replaceAll s.data.toList old.data.toList new.data.toList).toArray⟩) ∧ Below w.heap.size w w' := Any.strings_ReplaceAll Tryd.lays155 Tryd.Builder_Extra_155 s old new m w hs hm h1 hlen
def Tryd.laysM146_ren : Go.Shelf.Ren := ⟨fun | 146 => 25 | 221 => 39 | 268 => 53 | 138 => 54 | 143 => 55 | 195 => 65 | 197 => 62 | 218 => 66 | 219 => 64 | 260 => 77 | 217 => 50 | 225 => 78 | 224 => 79 | 267 => 80 | 266 => 63 | 314 => 87 | n => n, fun | 9 => 9 | 31 => 22 | 3 => 3 | 4 => 4 | 0 => 0 | 105 => 84 | 21 => 21 | 5 => 5 | 46 => 59 | 119 => 109 | 139 => 112 | 138 => 111 | 146 => 77 | 51 => 76 | n => n, fun | 1 => 0 | 3 => 2 | 4 => 3 | n => n⟩
theorem Tryd.laysM146 : Go.Proofs.LaysM.n146 Tryd.prog Tryd.laysM146_ren := {
  mixed := by kernel_rfl
  f138 := Tryd.func54.trans (congrArg some (by kernel_rfl))
  f143 := Tryd.func55.trans (congrArg some (by kernel_rfl))
  f146 := Tryd.func25.trans (congrArg some (by kernel_rfl))
  f195 := Tryd.func65.trans (congrArg some (by kernel_rfl))
  f197 := Tryd.func62.trans (congrArg some (by kernel_rfl))
  f217 := Tryd.func50.trans (congrArg some (by kernel_rfl))
  f218 := Tryd.func66.trans (congrArg some (by kernel_rfl))
  f219 := Tryd.func64.trans (congrArg some (by kernel_rfl))
  f221 := Tryd.func39.trans (congrArg some (by kernel_rfl))
  f224 := Tryd.func79.trans (congrArg some (by kernel_rfl))
  f225 := Tryd.func78.trans (congrArg some (by kernel_rfl))
  f260 := Tryd.func77.trans (congrArg some (by kernel_rfl))
  f266 := Tryd.func63.trans (congrArg some (by kernel_rfl))
  f267 := Tryd.func80.trans (congrArg some (by kernel_rfl))
  f268 := Tryd.func53.trans (congrArg some (by kernel_rfl))
  f314 := Tryd.func87.trans (congrArg some (by kernel_rfl))
  t0 := Tryd.underlying0
  a0 := Tryd.isAgg0
  z0 := Tryd.sizeOf0
  v0 := Tryd.zeroValue0
  t3 := Tryd.underlying3
  a3 := Tryd.isAgg3
  z3 := Tryd.sizeOf3
  v3 := Tryd.zeroValue3
  t4 := Tryd.underlying4
  a4 := Tryd.isAgg4
  z4 := Tryd.sizeOf4
  v4 := Tryd.zeroValue4
  t5 := Tryd.underlying5
  a5 := Tryd.isAgg5
  z5 := Tryd.sizeOf5
  v5 := Tryd.zeroValue5
  t9 := Tryd.underlying9
  a9 := Tryd.isAgg9
  z9 := Tryd.sizeOf9
  v9 := Tryd.zeroValue9
  t21 := Tryd.underlying21
  a21 := Tryd.isAgg21
  z21 := Tryd.sizeOf21
  v21 := Tryd.zeroValue21
  t31 := Tryd.underlying22
  a31 := Tryd.isAgg22
  z31 := Tryd.sizeOf22
  v31 := Tryd.zeroValue22
  t46 := Tryd.underlying59
  a46 := Tryd.isAgg59
  z46 := Tryd.sizeOf59
  v46 := Tryd.zeroValue59
  t51 := Tryd.underlying76
  a51 := Tryd.isAgg76
  z51 := Tryd.sizeOf76
  v51 := Tryd.zeroValue76
  t105 := Tryd.underlying84
  a105 := Tryd.isAgg84
  z105 := Tryd.sizeOf84
  v105 := Tryd.zeroValue84
  t119 := Tryd.underlying109
  a119 := Tryd.isAgg109
  z119 := Tryd.sizeOf109
  t138 := Tryd.underlying111
  a138 := Tryd.isAgg111
  z138 := Tryd.sizeOf111
  v138 := Tryd.zeroValue111
  t139 := Tryd.underlying112
  a139 := Tryd.isAgg112
  z139 := Tryd.sizeOf112
  v139 := Tryd.zeroValue112
  t146 := Tryd.underlying77
  a146 := Tryd.isAgg77
  z146 := Tryd.sizeOf77
  v146 := Tryd.zeroValue77
  g1 := by kernel_rfl
  g3 := by kernel_rfl
  g4 := by kernel_rfl
  i0 := by kernel_rfl
  i3 := by kernel_rfl
  i4 := by kernel_rfl
  i5 := by kernel_rfl
  i9 := by kernel_rfl
  i21 := by kernel_rfl
  i31 := by kernel_rfl
  i46 := by kernel_rfl
  i51 := by kernel_rfl
  i105 := by kernel_rfl
  i138 := by kernel_rfl
  i139 := by kernel_rfl
  i146 := by kernel_rfl
  m1 := by kernel_rfl
  s1_3 := fun w h => Go.Proofs.cell_of_shapedOpen_int (zero := #[.int .i64 0]) (t := 3) h (of_decide_eq_true (by kernel_rfl)) (by kernel_rfl) rfl (by kernel_rfl) (by kernel_rfl) Tryd.underlying3
  m3 := by kernel_rfl
  m4 := by kernel_rfl }
open Go.RowKit Go.Lib in
/-- strings.Split, sep not empty. (LAID: no walk: one application.) -/
theorem Tryd.strings_Split_shaped (s sep : ByteArray) (w : World) (h : w.ShapedOpen Tryd.prog) (hs : s.size < 4294967281) (h1 : 1 ≤ sep.size) :
    Calls Tryd.prog 25 #[.string s, .string sep] w fun e w' =>
      e = .returned (.slice (some ⟨w.heap.size, 0, none⟩) (Lib.countB s sep + 1) (Lib.countB s sep + 1)) ∧ w' = w.alloc (.cells ((Lib.splitB sep 0 (Lib.countB s sep) s).map Value.string).toArray 9) := Any.strings_Split_shaped Tryd.laysM146 s sep w h hs h1
def Tryd.laysM154_ren : Go.Shelf.Ren := ⟨fun | 154 => 48 | 138 => 54 | 165 => 42 | 143 => 55 | 166 => 43 | 197 => 62 | 169 => 45 | 195 => 65 | 218 => 66 | 240 => 58 | 241 => 59 | 219 => 64 | 260 => 77 | 276 => 67 | 277 => 68 | 217 => 50 | 225 => 78 | 224 => 79 | 267 => 80 | 266 => 63 | 314 => 87 | n => n, fun | 9 => 9 | 3 => 3 | 4 => 4 | 72 => 64 | 0 => 0 | 76 => 68 | 105 => 84 | 21 => 21 | 5 => 5 | 70 => 62 | 20 => 20 | 37 => 44 | 75 => 67 | 127 => 82 | 164 => 87 | 46 => 59 | 119 => 109 | 139 => 112 | 138 => 111 | 146 => 77 | 51 => 76 | 80 => 71 | n => n, fun | 1 => 0 | 3 => 2 | 4 => 3 | n => n⟩
theorem Tryd.laysM154 : Go.Proofs.LaysM.n154 Tryd.prog Tryd.laysM154_ren := {
  mixed := by kernel_rfl
  f138 := Tryd.func54.trans (congrArg some (by kernel_rfl))
  f143 := Tryd.func55.trans (congrArg some (by kernel_rfl))
  f154 := Tryd.func48.trans (congrArg some (by kernel_rfl))
  f165 := Tryd.func42.trans (congrArg some (by kernel_rfl))
  f166 := Tryd.func43.trans (congrArg some (by kernel_rfl))
  f169 := Tryd.func45.trans (congrArg some (by kernel_rfl))
  f195 := Tryd.func65.trans (congrArg some (by kernel_rfl))
  f197 := Tryd.func62.trans (congrArg some (by kernel_rfl))
  f217 := Tryd.func50.trans (congrArg some (by kernel_rfl))
  f218 := Tryd.func66.trans (congrArg some (by kernel_rfl))
  f219 := Tryd.func64.trans (congrArg some (by kernel_rfl))
  f224 := Tryd.func79.trans (congrArg some (by kernel_rfl))
  f225 := Tryd.func78.trans (congrArg some (by kernel_rfl))
  f240 := Tryd.func58.trans (congrArg some (by kernel_rfl))
  f241 := Tryd.func59.trans (congrArg some (by kernel_rfl))
  f260 := Tryd.func77.trans (congrArg some (by kernel_rfl))
  f266 := Tryd.func63.trans (congrArg some (by kernel_rfl))
  f267 := Tryd.func80.trans (congrArg some (by kernel_rfl))
  f276 := Tryd.func67.trans (congrArg some (by kernel_rfl))
  f277 := Tryd.func68.trans (congrArg some (by kernel_rfl))
  f314 := Tryd.func87.trans (congrArg some (by kernel_rfl))
  t0 := Tryd.underlying0
  a0 := Tryd.isAgg0
  z0 := Tryd.sizeOf0
  v0 := Tryd.zeroValue0
  t3 := Tryd.underlying3
  a3 := Tryd.isAgg3
  z3 := Tryd.sizeOf3
  v3 := Tryd.zeroValue3
  t4 := Tryd.underlying4
  a4 := Tryd.isAgg4
  z4 := Tryd.sizeOf4
  v4 := Tryd.zeroValue4
  t5 := Tryd.underlying5
  a5 := Tryd.isAgg5
  z5 := Tryd.sizeOf5
  v5 := Tryd.zeroValue5
  t9 := Tryd.underlying9
  a9 := Tryd.isAgg9
  z9 := Tryd.sizeOf9
  v9 := Tryd.zeroValue9
  t20 := Tryd.underlying20
  a20 := Tryd.isAgg20
  z20 := Tryd.sizeOf20
  v20 := Tryd.zeroValue20
  t21 := Tryd.underlying21
  a21 := Tryd.isAgg21
  z21 := Tryd.sizeOf21
  v21 := Tryd.zeroValue21
  t37 := Tryd.underlying44
  a37 := Tryd.isAgg44
  z37 := Tryd.sizeOf44
  v37 := Tryd.zeroValue44
  t46 := Tryd.underlying59
  a46 := Tryd.isAgg59
  z46 := Tryd.sizeOf59
  v46 := Tryd.zeroValue59
  t51 := Tryd.underlying76
  a51 := Tryd.isAgg76
  z51 := Tryd.sizeOf76
  v51 := Tryd.zeroValue76
  t70 := Tryd.underlying62
  a70 := Tryd.isAgg62
  z70 := Tryd.sizeOf62
  v70 := Tryd.zeroValue62
  t72 := Tryd.underlying64
  a72 := Tryd.isAgg64
  z72 := Tryd.sizeOf64
  v72 := Tryd.zeroValue64
  t75 := Tryd.underlying67
  a75 := Tryd.isAgg67
  z75 := Tryd.sizeOf67
  v75 := Tryd.zeroValue67
  t76 := Tryd.underlying68
  a76 := Tryd.isAgg68
  z76 := Tryd.sizeOf68
  v76 := Tryd.zeroValue68
  t105 := Tryd.underlying84
  a105 := Tryd.isAgg84
  z105 := Tryd.sizeOf84
  v105 := Tryd.zeroValue84
  t119 := Tryd.underlying109
  a119 := Tryd.isAgg109
  z119 := Tryd.sizeOf109
  t127 := Tryd.underlying82
  a127 := Tryd.isAgg82
  z127 := Tryd.sizeOf82
  v127 := Tryd.zeroValue82
  t138 := Tryd.underlying111
  a138 := Tryd.isAgg111
  z138 := Tryd.sizeOf111
  v138 := Tryd.zeroValue111
  t139 := Tryd.underlying112
  a139 := Tryd.isAgg112
  z139 := Tryd.sizeOf112
  v139 := Tryd.zeroValue112
  t146 := Tryd.underlying77
  a146 := Tryd.isAgg77
  z146 := Tryd.sizeOf77
  v146 := Tryd.zeroValue77
  t164 := Tryd.underlying87
  a164 := Tryd.isAgg87
  z164 := Tryd.sizeOf87
  v164 := Tryd.zeroValue87
  g1 := by kernel_rfl
  g3 := by kernel_rfl
  g4 := by kernel_rfl
  t80 := Tryd.underlying71
  a80 := Tryd.isAgg71
  z80 := Tryd.sizeOf71
  v80 := Tryd.zeroValue71
  i0 := by kernel_rfl
  i3 := by kernel_rfl
  i4 := by kernel_rfl
  i5 := by kernel_rfl
  i9 := by kernel_rfl
  i20 := by kernel_rfl
  i21 := by kernel_rfl
  i37 := by kernel_rfl
  i46 := by kernel_rfl
  i51 := by kernel_rfl
  i70 := by kernel_rfl
  i72 := by kernel_rfl
  i75 := by kernel_rfl
  i76 := by kernel_rfl
  i80 := by kernel_rfl
  i105 := by kernel_rfl
  i127 := by kernel_rfl
  i138 := by kernel_rfl
  i139 := by kernel_rfl
  i146 := by kernel_rfl
  i164 := by kernel_rfl
  m1 := by kernel_rfl
  s1_3 := fun w h => Go.Proofs.cell_of_shapedOpen_int (zero := #[.int .i64 0]) (t := 3) h (of_decide_eq_true (by kernel_rfl)) (by kernel_rfl) rfl (by kernel_rfl) (by kernel_rfl) Tryd.underlying3
  m3 := by kernel_rfl
  m4 := by kernel_rfl }
theorem Tryd.Builder_Extra_M154 : Builder.Extra Tryd.prog Tryd.laysM154_ren := {
  sizeBuilder := by kernel_rfl
  liesBuilder := by kernel_rfl
  t5 := Tryd.underlying5
  a5 := Tryd.isAgg5
  z5 := Tryd.sizeOf5
  v5 := Tryd.zeroValue5
  infoByte := by kernel_rfl
  cellsByte := by kernel_rfl
  sizeByte := by kernel_rfl
  neB5 := by decide }
open Go.RowKit Go.Lib in
/-- strings.Replace, old not empty. (LAID: no walk: one application.) -/
theorem Tryd.strings_Replace_shaped (s old new : ByteArray) (n : Int) (w : World) (h : w.ShapedOpen Tryd.prog) (hs : s.size < 4294967281) (h1 : 1 ≤ old.size) (hlen : s.size + Lib.countB s old * new.size ≤ 140737488355328) :
    Calls Tryd.prog 48 #[.string s, .string old, .string new, .int .i64 n] w fun e w' =>
      e = .returned (.string ⟨(Lib.replace s.data.toList old.data.toList new.data.toList n).toArray⟩) ∧ Below w.heap.size w w' := Any.strings_Replace_shaped Tryd.laysM154 Tryd.Builder_Extra_M154 s old new n w h hs h1 hlen
def Tryd.laysM155_ren : Go.Shelf.Ren := ⟨fun | 155 => 31 | 154 => 48 | 138 => 54 | 165 => 42 | 143 => 55 | 166 => 43 | 197 => 62 | 169 => 45 | 195 => 65 | 218 => 66 | 240 => 58 | 241 => 59 | 219 => 64 | 260 => 77 | 276 => 67 | 277 => 68 | 217 => 50 | 225 => 78 | 224 => 79 | 267 => 80 | 266 => 63 | 314 => 87 | n => n, fun | 9 => 9 | 3 => 3 | 4 => 4 | 72 => 64 | 0 => 0 | 76 => 68 | 105 => 84 | 21 => 21 | 5 => 5 | 70 => 62 | 20 => 20 | 37 => 44 | 75 => 67 | 127 => 82 | 164 => 87 | 46 => 59 | 119 => 109 | 139 => 112 | 138 => 111 | 146 => 77 | 51 => 76 | 80 => 71 | n => n, fun | 1 => 0 | 3 => 2 | 4 => 3 | n => n⟩
theorem Tryd.laysM155 : Go.Proofs.LaysM.n155 Tryd.prog Tryd.laysM155_ren := {
  mixed := by kernel_rfl
  f138 := Tryd.func54.trans (congrArg some (by kernel_rfl))
  f143 := Tryd.func55.trans (congrArg some (by kernel_rfl))
  f154 := Tryd.func48.trans (congrArg some (by kernel_rfl))
  f155 := Tryd.func31.trans (congrArg some (by kernel_rfl))
  f165 := Tryd.func42.trans (congrArg some (by kernel_rfl))
  f166 := Tryd.func43.trans (congrArg some (by kernel_rfl))
  f169 := Tryd.func45.trans (congrArg some (by kernel_rfl))
  f195 := Tryd.func65.trans (congrArg some (by kernel_rfl))
  f197 := Tryd.func62.trans (congrArg some (by kernel_rfl))
  f217 := Tryd.func50.trans (congrArg some (by kernel_rfl))
  f218 := Tryd.func66.trans (congrArg some (by kernel_rfl))
  f219 := Tryd.func64.trans (congrArg some (by kernel_rfl))
  f224 := Tryd.func79.trans (congrArg some (by kernel_rfl))
  f225 := Tryd.func78.trans (congrArg some (by kernel_rfl))
  f240 := Tryd.func58.trans (congrArg some (by kernel_rfl))
  f241 := Tryd.func59.trans (congrArg some (by kernel_rfl))
  f260 := Tryd.func77.trans (congrArg some (by kernel_rfl))
  f266 := Tryd.func63.trans (congrArg some (by kernel_rfl))
  f267 := Tryd.func80.trans (congrArg some (by kernel_rfl))
  f276 := Tryd.func67.trans (congrArg some (by kernel_rfl))
  f277 := Tryd.func68.trans (congrArg some (by kernel_rfl))
  f314 := Tryd.func87.trans (congrArg some (by kernel_rfl))
  t0 := Tryd.underlying0
  a0 := Tryd.isAgg0
  z0 := Tryd.sizeOf0
  v0 := Tryd.zeroValue0
  t3 := Tryd.underlying3
  a3 := Tryd.isAgg3
  z3 := Tryd.sizeOf3
  v3 := Tryd.zeroValue3
  t4 := Tryd.underlying4
  a4 := Tryd.isAgg4
  z4 := Tryd.sizeOf4
  v4 := Tryd.zeroValue4
  t5 := Tryd.underlying5
  a5 := Tryd.isAgg5
  z5 := Tryd.sizeOf5
  v5 := Tryd.zeroValue5
  t9 := Tryd.underlying9
  a9 := Tryd.isAgg9
  z9 := Tryd.sizeOf9
  v9 := Tryd.zeroValue9
  t20 := Tryd.underlying20
  a20 := Tryd.isAgg20
  z20 := Tryd.sizeOf20
  v20 := Tryd.zeroValue20
  t21 := Tryd.underlying21
  a21 := Tryd.isAgg21
  z21 := Tryd.sizeOf21
  v21 := Tryd.zeroValue21
  t37 := Tryd.underlying44
  a37 := Tryd.isAgg44
  z37 := Tryd.sizeOf44
  v37 := Tryd.zeroValue44
  t46 := Tryd.underlying59
  a46 := Tryd.isAgg59
  z46 := Tryd.sizeOf59
  v46 := Tryd.zeroValue59
  t51 := Tryd.underlying76
  a51 := Tryd.isAgg76
  z51 := Tryd.sizeOf76
  v51 := Tryd.zeroValue76
  t70 := Tryd.underlying62
  a70 := Tryd.isAgg62
  z70 := Tryd.sizeOf62
  v70 := Tryd.zeroValue62
  t72 := Tryd.underlying64
  a72 := Tryd.isAgg64
  z72 := Tryd.sizeOf64
  v72 := Tryd.zeroValue64
  t75 := Tryd.underlying67
  a75 := Tryd.isAgg67
  z75 := Tryd.sizeOf67
  v75 := Tryd.zeroValue67
  t76 := Tryd.underlying68
  a76 := Tryd.isAgg68
  z76 := Tryd.sizeOf68
  v76 := Tryd.zeroValue68
  t105 := Tryd.underlying84
  a105 := Tryd.isAgg84
  z105 := Tryd.sizeOf84
  v105 := Tryd.zeroValue84
  t119 := Tryd.underlying109
  a119 := Tryd.isAgg109
  z119 := Tryd.sizeOf109
  t127 := Tryd.underlying82
  a127 := Tryd.isAgg82
  z127 := Tryd.sizeOf82
  v127 := Tryd.zeroValue82
  t138 := Tryd.underlying111
  a138 := Tryd.isAgg111
  z138 := Tryd.sizeOf111
  v138 := Tryd.zeroValue111
  t139 := Tryd.underlying112
  a139 := Tryd.isAgg112
  z139 := Tryd.sizeOf112
  v139 := Tryd.zeroValue112
  t146 := Tryd.underlying77
  a146 := Tryd.isAgg77
  z146 := Tryd.sizeOf77
  v146 := Tryd.zeroValue77
  t164 := Tryd.underlying87
  a164 := Tryd.isAgg87
  z164 := Tryd.sizeOf87
  v164 := Tryd.zeroValue87
  g1 := by kernel_rfl
  g3 := by kernel_rfl
  g4 := by kernel_rfl
  t80 := Tryd.underlying71
  a80 := Tryd.isAgg71
  z80 := Tryd.sizeOf71
  v80 := Tryd.zeroValue71
  i0 := by kernel_rfl
  i3 := by kernel_rfl
  i4 := by kernel_rfl
  i5 := by kernel_rfl
  i9 := by kernel_rfl
  i20 := by kernel_rfl
  i21 := by kernel_rfl
  i37 := by kernel_rfl
  i46 := by kernel_rfl
  i51 := by kernel_rfl
  i70 := by kernel_rfl
  i72 := by kernel_rfl
  i75 := by kernel_rfl
  i76 := by kernel_rfl
  i80 := by kernel_rfl
  i105 := by kernel_rfl
  i127 := by kernel_rfl
  i138 := by kernel_rfl
  i139 := by kernel_rfl
  i146 := by kernel_rfl
  i164 := by kernel_rfl
  m1 := by kernel_rfl
  s1_3 := fun w h => Go.Proofs.cell_of_shapedOpen_int (zero := #[.int .i64 0]) (t := 3) h (of_decide_eq_true (by kernel_rfl)) (by kernel_rfl) rfl (by kernel_rfl) (by kernel_rfl) Tryd.underlying3
  m3 := by kernel_rfl
  m4 := by kernel_rfl }
theorem Tryd.Builder_Extra_M155 : Builder.Extra Tryd.prog Tryd.laysM155_ren := {
  sizeBuilder := by kernel_rfl
  liesBuilder := by kernel_rfl
  t5 := Tryd.underlying5
  a5 := Tryd.isAgg5
  z5 := Tryd.sizeOf5
  v5 := Tryd.zeroValue5
  infoByte := by kernel_rfl
  cellsByte := by kernel_rfl
  sizeByte := by kernel_rfl
  neB5 := by decide }
open Go.RowKit Go.Lib in
/-- strings.ReplaceAll, old not empty. (LAID: no walk: one application.) -/
theorem Tryd.strings_ReplaceAll_shaped (s old new : ByteArray) (w : World) (h : w.ShapedOpen Tryd.prog) (hs : s.size < 4294967281) (h1 : 1 ≤ old.size) (hlen : s.size + Lib.countB s old * new.size ≤ 140737488355328) :
    Calls Tryd.prog 31 #[.string s, .string old, .string new] w fun e w' =>
      e = .returned (.string ⟨(Lib.replaceAll s.data.toList old.data.toList new.data.toList).toArray⟩) ∧ Below w.heap.size w w' := Any.strings_ReplaceAll_shaped Tryd.laysM155 Tryd.Builder_Extra_M155 s old new w h hs h1 hlen
def Tryd.lays197_ren : Go.Shelf.Ren := ⟨fun | 197 => 62 | 260 => 77 | n => n, fun | 9 => 9 | 21 => 21 | 3 => 3 | 4 => 4 | 5 => 5 | 105 => 84 | 119 => 109 | 0 => 0 | 46 => 59 | 139 => 112 | 138 => 111 | n => n, fun | 3 => 2 | 4 => 3 | n => n⟩
theorem Tryd.lays197 : Go.Proofs.Lays.n197 Tryd.prog Tryd.lays197_ren := {
  mixed := by kernel_rfl
  f197 := Tryd.func62.trans (congrArg some (by kernel_rfl))
  f260 := Tryd.func77.trans (congrArg some (by kernel_rfl))
  t0 := Tryd.underlying0
  a0 := Tryd.isAgg0
  z0 := Tryd.sizeOf0
  v0 := Tryd.zeroValue0
  t3 := Tryd.underlying3
  a3 := Tryd.isAgg3
  z3 := Tryd.sizeOf3
  v3 := Tryd.zeroValue3
  t4 := Tryd.underlying4
  a4 := Tryd.isAgg4
  z4 := Tryd.sizeOf4
  v4 := Tryd.zeroValue4
  t5 := Tryd.underlying5
  a5 := Tryd.isAgg5
  z5 := Tryd.sizeOf5
  v5 := Tryd.zeroValue5
  t9 := Tryd.underlying9
  a9 := Tryd.isAgg9
  z9 := Tryd.sizeOf9
  v9 := Tryd.zeroValue9
  t21 := Tryd.underlying21
  a21 := Tryd.isAgg21
  z21 := Tryd.sizeOf21
  v21 := Tryd.zeroValue21
  t46 := Tryd.underlying59
  a46 := Tryd.isAgg59
  z46 := Tryd.sizeOf59
  v46 := Tryd.zeroValue59
  t105 := Tryd.underlying84
  a105 := Tryd.isAgg84
  z105 := Tryd.sizeOf84
  v105 := Tryd.zeroValue84
  t119 := Tryd.underlying109
  a119 := Tryd.isAgg109
  z119 := Tryd.sizeOf109
  t138 := Tryd.underlying111
  a138 := Tryd.isAgg111
  z138 := Tryd.sizeOf111
  v138 := Tryd.zeroValue111
  t139 := Tryd.underlying112
  a139 := Tryd.isAgg112
  z139 := Tryd.sizeOf112
  v139 := Tryd.zeroValue112
  g3 := by kernel_rfl
  g4 := by kernel_rfl }
open Go.RowKit Go.Lib in
/-- unicode/utf8.DecodeRuneInString: "DecodeRuneInString is like DecodeRune but its input is a string.": ("DecodeRune unpacks the first UTF-8 encoding in p and returns the rune and its width in bytes."): WHERE s BEGINS WITH AN ASCII BYTE x: (x, 1). (LAID: no walk: one application.) -/
theorem Tryd.utf8_DecodeRuneInString_ascii (s : ByteArray) (x : UInt8) (w : World) (h0 : s.data.toList[0]? = some x) (hx : x.toNat < 128) :
    Calls Tryd.prog 62 #[.string s] w fun e w' => e = .returned (.tuple #[.int .i32 x.toNat, .int .i64 1]) ∧ w' = w := Any.utf8_DecodeRuneInString_ascii Tryd.lays197 s x w h0 hx
def Tryd.lays152_ren : Go.Shelf.Ren := ⟨fun | 152 => 73 | 137 => 33 | 119 => 86 | 224 => 79 | 225 => 78 | 217 => 50 | 266 => 63 | n => n, fun | 9 => 9 | 21 => 21 | 3 => 3 | 4 => 4 | 5 => 5 | 0 => 0 | 46 => 59 | n => n, fun | n => n⟩
theorem Tryd.lays152 : Go.Proofs.Lays.n152 Tryd.prog Tryd.lays152_ren := {
  mixed := by kernel_rfl
  f119 := Tryd.func86.trans (congrArg some (by kernel_rfl))
  f137 := Tryd.func33.trans (congrArg some (by kernel_rfl))
  f152 := Tryd.func73.trans (congrArg some (by kernel_rfl))
  f217 := Tryd.func50.trans (congrArg some (by kernel_rfl))
  f224 := Tryd.func79.trans (congrArg some (by kernel_rfl))
  f225 := Tryd.func78.trans (congrArg some (by kernel_rfl))
  f266 := Tryd.func63.trans (congrArg some (by kernel_rfl))
  t0 := Tryd.underlying0
  a0 := Tryd.isAgg0
  z0 := Tryd.sizeOf0
  v0 := Tryd.zeroValue0
  t3 := Tryd.underlying3
  a3 := Tryd.isAgg3
  z3 := Tryd.sizeOf3
  v3 := Tryd.zeroValue3
  t4 := Tryd.underlying4
  a4 := Tryd.isAgg4
  z4 := Tryd.sizeOf4
  v4 := Tryd.zeroValue4
  t5 := Tryd.underlying5
  a5 := Tryd.isAgg5
  z5 := Tryd.sizeOf5
  v5 := Tryd.zeroValue5
  t9 := Tryd.underlying9
  a9 := Tryd.isAgg9
  z9 := Tryd.sizeOf9
  v9 := Tryd.zeroValue9
  t21 := Tryd.underlying21
  a21 := Tryd.isAgg21
  z21 := Tryd.sizeOf21
  v21 := Tryd.zeroValue21
  t46 := Tryd.underlying59
  a46 := Tryd.isAgg59
  z46 := Tryd.sizeOf59
  v46 := Tryd.zeroValue59 }
open Go.RowKit Go.Lib in
theorem Tryd.strings_IndexRune_ascii (s : ByteArray) (r : Int) (w : World) (h0 : 0 ≤ r) (h1 : r < 128) :
    Calls Tryd.prog 73 #[.string s, .int .i32 r] w fun e w' => e = .returned (.int .i64 (Lib.indexByte s.data.toList r.toNat.toUInt8)) ∧ w' = w := Any.strings_IndexRune_ascii Tryd.lays152 s r w h0 h1
open Go.RowKit Go.Lib in
theorem Tryd.utf8_RuneCountInString_ascii (s : ByteArray) (w : World) (hs : s.size < 4294967281) (hascii : ∀ (j : Nat) b, s.data.toList[j]? = some b → b.toNat < 128) :
    Calls Tryd.prog 65 #[.string s] w fun e w' => e = .returned (.int .i64 s.size) ∧ w' = w.iter s s.size := Any.utf8_RuneCountInString_ascii Tryd.lays195 s w hs hascii
def Tryd.lays226_ren : Go.Shelf.Ren := ⟨fun | 226 => 74 | n => n, fun | 3 => 3 | 4 => 4 | n => n, fun | n => n⟩
theorem Tryd.lays226 : Go.Proofs.Lays.n226 Tryd.prog Tryd.lays226_ren := {
  mixed := by kernel_rfl
  f226 := Tryd.func74.trans (congrArg some (by kernel_rfl))
  t3 := Tryd.underlying3
  a3 := Tryd.isAgg3
  z3 := Tryd.sizeOf3
  v3 := Tryd.zeroValue3
  t4 := Tryd.underlying4
  a4 := Tryd.isAgg4
  z4 := Tryd.sizeOf4
  v4 := Tryd.zeroValue4 }
open Go.RowKit Go.Lib in
theorem Tryd.strings_shouldUseASCIISet (n : Int) (w : World) :
    Calls Tryd.prog 74 #[.int .i64 n] w fun e w' => e = .returned (.bool (decide (8 < n))) ∧ w' = w := Any.strings_shouldUseASCIISet Tryd.lays226 n w
def Tryd.lays153_ren : Go.Shelf.Ren := ⟨fun | 153 => 61 | 152 => 73 | 226 => 74 | 227 => 75 | 228 => 76 | 137 => 33 | 119 => 86 | 224 => 79 | 225 => 78 | 217 => 50 | 266 => 63 | n => n, fun | 9 => 9 | 3 => 3 | 4 => 4 | 5 => 5 | 21 => 21 | 117 => 99 | 116 => 98 | 0 => 0 | 46 => 59 | 124 => 108 | n => n, fun | n => n⟩
theorem Tryd.lays153 : Go.Proofs.Lays.n153 Tryd.prog Tryd.lays153_ren := {
  mixed := by kernel_rfl
  f119 := Tryd.func86.trans (congrArg some (by kernel_rfl))
  f137 := Tryd.func33.trans (congrArg some (by kernel_rfl))
  f152 := Tryd.func73.trans (congrArg some (by kernel_rfl))
  f153 := Tryd.func61.trans (congrArg some (by kernel_rfl))
  f217 := Tryd.func50.trans (congrArg some (by kernel_rfl))
  f224 := Tryd.func79.trans (congrArg some (by kernel_rfl))
  f225 := Tryd.func78.trans (congrArg some (by kernel_rfl))
  f226 := Tryd.func74.trans (congrArg some (by kernel_rfl))
  f227 := Tryd.func75.trans (congrArg some (by kernel_rfl))
  f228 := Tryd.func76.trans (congrArg some (by kernel_rfl))
  f266 := Tryd.func63.trans (congrArg some (by kernel_rfl))
  t0 := Tryd.underlying0
  a0 := Tryd.isAgg0
  z0 := Tryd.sizeOf0
  v0 := Tryd.zeroValue0
  t3 := Tryd.underlying3
  a3 := Tryd.isAgg3
  z3 := Tryd.sizeOf3
  v3 := Tryd.zeroValue3
  t4 := Tryd.underlying4
  a4 := Tryd.isAgg4
  z4 := Tryd.sizeOf4
  v4 := Tryd.zeroValue4
  t5 := Tryd.underlying5
  a5 := Tryd.isAgg5
  z5 := Tryd.sizeOf5
  v5 := Tryd.zeroValue5
  t9 := Tryd.underlying9
  a9 := Tryd.isAgg9
  z9 := Tryd.sizeOf9
  v9 := Tryd.zeroValue9
  t21 := Tryd.underlying21
  a21 := Tryd.isAgg21
  z21 := Tryd.sizeOf21
  v21 := Tryd.zeroValue21
  t46 := Tryd.underlying59
  a46 := Tryd.isAgg59
  z46 := Tryd.sizeOf59
  v46 := Tryd.zeroValue59
  t116 := Tryd.underlying98
  a116 := Tryd.isAgg98
  z116 := Tryd.sizeOf98
  t117 := Tryd.underlying99
  a117 := Tryd.isAgg99
  z117 := Tryd.sizeOf99
  v117 := Tryd.zeroValue99
  t124 := Tryd.underlying108
  a124 := Tryd.isAgg108
  z124 := Tryd.sizeOf108
  v124 := Tryd.zeroValue108 }
open Go.RowKit Go.Lib in
/-- chars is empty. (LAID: no walk: one application.) -/
theorem Tryd.strings_IndexAny_none (s chars : ByteArray) (w : World) (h0 : chars.size = 0) :
    Calls Tryd.prog 61 #[.string s, .string chars] w fun e w' => e = .returned (.int .i64 (Lib.indexAny s.data.toList chars.data.toList)) ∧ w' = w := Any.strings_IndexAny_none Tryd.lays153 s chars w h0
open Go.RowKit Go.Lib in
/-- chars is one ASCII byte. (LAID: no walk: one application.) -/
theorem Tryd.strings_IndexAny_one (s chars : ByteArray) (w : World) (h1 : chars.size = 1) (hascii : ∀ (j : Nat) b, chars.data.toList[j]? = some b → b.toNat < 128) :
    Calls Tryd.prog 61 #[.string s, .string chars] w fun e w' => e = .returned (.int .i64 (Lib.indexAny s.data.toList chars.data.toList)) ∧ w' = w := Any.strings_IndexAny_one Tryd.lays153 s chars w h1 hascii
open Go.RowKit Go.Lib in
/-- s of at most 8 bytes; chars of two or more: 'for i, c := range s { if IndexRune(chars, c) >= 0 { return i } }'. One block more: the model's iterator over s. (LAID: no walk: one application.) -/
theorem Tryd.strings_IndexAny_short (s chars : ByteArray) (w : World) (h2 : 2 ≤ chars.size) (h8 : s.size ≤ 8) (hascii : ∀ (j : Nat) b, s.data.toList[j]? = some b → b.toNat < 128) :
    Calls Tryd.prog 61 #[.string s, .string chars] w fun e w' => e = .returned (.int .i64 (Lib.indexAny s.data.toList chars.data.toList)) ∧ ∃ pos, w' = w.iter s pos := Any.strings_IndexAny_short Tryd.lays153 s chars w h2 h8 hascii
def Tryd.lays227_ren : Go.Shelf.Ren := ⟨fun | 227 => 75 | n => n, fun | 9 => 9 | 116 => 98 | 4 => 4 | 0 => 0 | 3 => 3 | 5 => 5 | n => n, fun | n => n⟩
theorem Tryd.lays227 : Go.Proofs.Lays.n227 Tryd.prog Tryd.lays227_ren := {
  mixed := by kernel_rfl
  f227 := Tryd.func75.trans (congrArg some (by kernel_rfl))
  t0 := Tryd.underlying0
  a0 := Tryd.isAgg0
  z0 := Tryd.sizeOf0
  v0 := Tryd.zeroValue0
  t3 := Tryd.underlying3
  a3 := Tryd.isAgg3
  z3 := Tryd.sizeOf3
  v3 := Tryd.zeroValue3
  t4 := Tryd.underlying4
  a4 := Tryd.isAgg4
  z4 := Tryd.sizeOf4
  v4 := Tryd.zeroValue4
  t5 := Tryd.underlying5
  a5 := Tryd.isAgg5
  z5 := Tryd.sizeOf5
  v5 := Tryd.zeroValue5
  t9 := Tryd.underlying9
  a9 := Tryd.isAgg9
  z9 := Tryd.sizeOf9
  v9 := Tryd.zeroValue9
  t116 := Tryd.underlying98
  a116 := Tryd.isAgg98
  z116 := Tryd.sizeOf98 }
open Go.RowKit Go.Lib in
theorem Tryd.strings_makeASCIISet (hv116 : ∀ w, (zeroValue 98).run Tryd.prog w = .ok (.agg (Array.replicate 256 (.bool false))) w) (chars : ByteArray) (w : World) (hs : chars.size < 4294967281) (hascii : ∀ (j : Nat) b, chars.data.toList[j]? = some b → b.toNat < 128) :
    Calls Tryd.prog 75 #[.string chars] w fun e w' => e = .returned (.tuple #[.agg (Lib.setCells chars.data.toList), .bool true]) ∧ w' = w.alloc (.cells (Lib.setCells chars.data.toList) 98) := Any.strings_makeASCIISet Tryd.lays227 hv116 (by kernel_rfl) chars w hs hascii
def Tryd.lays228_ren : Go.Shelf.Ren := ⟨fun | 228 => 76 | n => n, fun | 124 => 108 | 5 => 5 | 4 => 4 | 0 => 0 | 116 => 98 | n => n, fun | n => n⟩
theorem Tryd.lays228 : Go.Proofs.Lays.n228 Tryd.prog Tryd.lays228_ren := {
  mixed := by kernel_rfl
  f228 := Tryd.func76.trans (congrArg some (by kernel_rfl))
  t0 := Tryd.underlying0
  a0 := Tryd.isAgg0
  z0 := Tryd.sizeOf0
  v0 := Tryd.zeroValue0
  t4 := Tryd.underlying4
  a4 := Tryd.isAgg4
  z4 := Tryd.sizeOf4
  v4 := Tryd.zeroValue4
  t5 := Tryd.underlying5
  a5 := Tryd.isAgg5
  z5 := Tryd.sizeOf5
  v5 := Tryd.zeroValue5
  t116 := Tryd.underlying98
  a116 := Tryd.isAgg98
  z116 := Tryd.sizeOf98
  t124 := Tryd.underlying108
  a124 := Tryd.isAgg108
  z124 := Tryd.sizeOf108
  v124 := Tryd.zeroValue108 }
open Go.RowKit Go.Lib in
/-- '(as *asciiSet) contains(c)': 'as[c]': the set lies at block b, whole. (LAID: no walk: one application.) -/
theorem Tryd.asciiSet_contains (b : Nat) (x : UInt8) (v : Bool) (w : World) (hc : w.cell? ⟨b, x.toNat, none⟩ = some (.bool v)) :
    Calls Tryd.prog 76 #[.pointer (some ⟨b, 0, none⟩), .int .u8 x.toNat] w fun e w' => e = .returned (.bool v) ∧ w' = w := Any.asciiSet_contains Tryd.lays228 b x v w hc
open Go.RowKit Go.Lib in
theorem Tryd.strings_IndexAny_long (hv116 : ∀ w, (zeroValue 98).run Tryd.prog w = .ok (.agg (Array.replicate 256 (.bool false))) w) (s chars : ByteArray) (w : World) (h2 : 2 ≤ chars.size) (h8 : 8 < s.size) (hs : s.size < 4294967281) (hcs : chars.size < 4294967281) (hascii : ∀ (j : Nat) b, chars.data.toList[j]? = some b → b.toNat < 128) :
    Calls Tryd.prog 61 #[.string s, .string chars] w fun e w' => e = .returned (.int .i64 (Lib.indexAny s.data.toList chars.data.toList)) ∧ w' = ((w.alloc (.cells (Lib.setCells chars.data.toList) 98)).alloc (.cells (Lib.setCells chars.data.toList) 98)) := Any.strings_IndexAny_long Tryd.lays153 hv116 (by kernel_rfl) s chars w h2 h8 hs hcs hascii
open Go.RowKit Go.Lib in
/-- strings.IndexAny ON ASCII BYTES: the four roads under one statement. (LAID: no walk: one application.) -/
theorem Tryd.strings_IndexAny (hv116 : ∀ w, (zeroValue 98).run Tryd.prog w = .ok (.agg (Array.replicate 256 (.bool false))) w) (s chars : ByteArray) (w : World) (hs : s.size < 4294967281) (hcs : chars.size < 4294967281) (has : ∀ (j : Nat) b, s.data.toList[j]? = some b → b.toNat < 128) (hac : ∀ (j : Nat) b, chars.data.toList[j]? = some b → b.toNat < 128) :
    Calls Tryd.prog 61 #[.string s, .string chars] w fun e w' => e = .returned (.int .i64 (Lib.indexAny s.data.toList chars.data.toList)) ∧ Below w.heap.size w w' := Any.strings_IndexAny Tryd.lays153 hv116 (by kernel_rfl) s chars w hs hcs has hac
def Tryd.lays150_ren : Go.Shelf.Ren := ⟨fun | 150 => 47 | 153 => 61 | 152 => 73 | 226 => 74 | 227 => 75 | 228 => 76 | 137 => 33 | 119 => 86 | 224 => 79 | 225 => 78 | 217 => 50 | 266 => 63 | n => n, fun | 9 => 9 | 4 => 4 | 3 => 3 | 5 => 5 | 21 => 21 | 117 => 99 | 116 => 98 | 0 => 0 | 46 => 59 | 124 => 108 | n => n, fun | n => n⟩
theorem Tryd.lays150 : Go.Proofs.Lays.n150 Tryd.prog Tryd.lays150_ren := {
  mixed := by kernel_rfl
  f119 := Tryd.func86.trans (congrArg some (by kernel_rfl))
  f137 := Tryd.func33.trans (congrArg some (by kernel_rfl))
  f150 := Tryd.func47.trans (congrArg some (by kernel_rfl))
  f152 := Tryd.func73.trans (congrArg some (by kernel_rfl))
  f153 := Tryd.func61.trans (congrArg some (by kernel_rfl))
  f217 := Tryd.func50.trans (congrArg some (by kernel_rfl))
  f224 := Tryd.func79.trans (congrArg some (by kernel_rfl))
  f225 := Tryd.func78.trans (congrArg some (by kernel_rfl))
  f226 := Tryd.func74.trans (congrArg some (by kernel_rfl))
  f227 := Tryd.func75.trans (congrArg some (by kernel_rfl))
  f228 := Tryd.func76.trans (congrArg some (by kernel_rfl))
  f266 := Tryd.func63.trans (congrArg some (by kernel_rfl))
  t0 := Tryd.underlying0
  a0 := Tryd.isAgg0
  z0 := Tryd.sizeOf0
  v0 := Tryd.zeroValue0
  t3 := Tryd.underlying3
  a3 := Tryd.isAgg3
  z3 := Tryd.sizeOf3
  v3 := Tryd.zeroValue3
  t4 := Tryd.underlying4
  a4 := Tryd.isAgg4
  z4 := Tryd.sizeOf4
  v4 := Tryd.zeroValue4
  t5 := Tryd.underlying5
  a5 := Tryd.isAgg5
  z5 := Tryd.sizeOf5
  v5 := Tryd.zeroValue5
  t9 := Tryd.underlying9
  a9 := Tryd.isAgg9
  z9 := Tryd.sizeOf9
  v9 := Tryd.zeroValue9
  t21 := Tryd.underlying21
  a21 := Tryd.isAgg21
  z21 := Tryd.sizeOf21
  v21 := Tryd.zeroValue21
  t46 := Tryd.underlying59
  a46 := Tryd.isAgg59
  z46 := Tryd.sizeOf59
  v46 := Tryd.zeroValue59
  t116 := Tryd.underlying98
  a116 := Tryd.isAgg98
  z116 := Tryd.sizeOf98
  t117 := Tryd.underlying99
  a117 := Tryd.isAgg99
  z117 := Tryd.sizeOf99
  v117 := Tryd.zeroValue99
  t124 := Tryd.underlying108
  a124 := Tryd.isAgg108
  z124 := Tryd.sizeOf108
  v124 := Tryd.zeroValue108 }
open Go.RowKit Go.Lib in
/-- strings.ContainsAny ON ASCII BYTES. (LAID: no walk: one application.) -/
theorem Tryd.strings_ContainsAny (hv116 : ∀ w, (zeroValue 98).run Tryd.prog w = .ok (.agg (Array.replicate 256 (.bool false))) w) (s chars : ByteArray) (w : World) (hs : s.size < 4294967281) (hcs : chars.size < 4294967281) (has : ∀ (j : Nat) b, s.data.toList[j]? = some b → b.toNat < 128) (hac : ∀ (j : Nat) b, chars.data.toList[j]? = some b → b.toNat < 128) :
    Calls Tryd.prog 47 #[.string s, .string chars] w fun e w' => e = .returned (.bool (Lib.containsAny s.data.toList chars.data.toList)) ∧ Below w.heap.size w w' := Any.strings_ContainsAny Tryd.lays150 hv116 (by kernel_rfl) s chars w hs hcs has hac
open Go.RowKit Go.Lib in
theorem Tryd.strings_IndexAny_laid (s chars : ByteArray) (w : World) (hs : s.size < 4294967281) (hcs : chars.size < 4294967281) (has : ∀ (j : Nat) b, s.data.toList[j]? = some b → b.toNat < 128) (hac : ∀ (j : Nat) b, chars.data.toList[j]? = some b → b.toNat < 128) :
    Calls Tryd.prog 61 #[.string s, .string chars] w fun e w' => e = .returned (.int .i64 (Lib.indexAny s.data.toList chars.data.toList)) ∧ Below w.heap.size w w' := Any.strings_IndexAny_laid Tryd.lays153 (by kernel_rfl) s chars w hs hcs has hac
open Go.RowKit Go.Lib in
theorem Tryd.strings_ContainsAny_laid (s chars : ByteArray) (w : World) (hs : s.size < 4294967281) (hcs : chars.size < 4294967281) (has : ∀ (j : Nat) b, s.data.toList[j]? = some b → b.toNat < 128) (hac : ∀ (j : Nat) b, chars.data.toList[j]? = some b → b.toNat < 128) :
    Calls Tryd.prog 47 #[.string s, .string chars] w fun e w' => e = .returned (.bool (Lib.containsAny s.data.toList chars.data.toList)) ∧ Below w.heap.size w w' := Any.strings_ContainsAny_laid Tryd.lays150 (by kernel_rfl) s chars w hs hcs has hac
def Tryd.lays268_ren : Go.Shelf.Ren := ⟨fun | 268 => 53 | 195 => 65 | 197 => 62 | 260 => 77 | n => n, fun | 9 => 9 | 3 => 3 | 31 => 22 | 4 => 4 | 105 => 84 | 21 => 21 | 0 => 0 | 5 => 5 | 119 => 109 | 46 => 59 | 139 => 112 | 138 => 111 | n => n, fun | 3 => 2 | 4 => 3 | n => n⟩
theorem Tryd.lays268 : Go.Proofs.Lays.n268 Tryd.prog Tryd.lays268_ren := {
  mixed := by kernel_rfl
  f195 := Tryd.func65.trans (congrArg some (by kernel_rfl))
  f197 := Tryd.func62.trans (congrArg some (by kernel_rfl))
  f260 := Tryd.func77.trans (congrArg some (by kernel_rfl))
  f268 := Tryd.func53.trans (congrArg some (by kernel_rfl))
  t0 := Tryd.underlying0
  a0 := Tryd.isAgg0
  z0 := Tryd.sizeOf0
  v0 := Tryd.zeroValue0
  t3 := Tryd.underlying3
  a3 := Tryd.isAgg3
  z3 := Tryd.sizeOf3
  v3 := Tryd.zeroValue3
  t4 := Tryd.underlying4
  a4 := Tryd.isAgg4
  z4 := Tryd.sizeOf4
  v4 := Tryd.zeroValue4
  t5 := Tryd.underlying5
  a5 := Tryd.isAgg5
  z5 := Tryd.sizeOf5
  v5 := Tryd.zeroValue5
  t9 := Tryd.underlying9
  a9 := Tryd.isAgg9
  z9 := Tryd.sizeOf9
  v9 := Tryd.zeroValue9
  t21 := Tryd.underlying21
  a21 := Tryd.isAgg21
  z21 := Tryd.sizeOf21
  v21 := Tryd.zeroValue21
  t31 := Tryd.underlying22
  a31 := Tryd.isAgg22
  z31 := Tryd.sizeOf22
  v31 := Tryd.zeroValue22
  t46 := Tryd.underlying59
  a46 := Tryd.isAgg59
  z46 := Tryd.sizeOf59
  v46 := Tryd.zeroValue59
  t105 := Tryd.underlying84
  a105 := Tryd.isAgg84
  z105 := Tryd.sizeOf84
  v105 := Tryd.zeroValue84
  t119 := Tryd.underlying109
  a119 := Tryd.isAgg109
  z119 := Tryd.sizeOf109
  t138 := Tryd.underlying111
  a138 := Tryd.isAgg111
  z138 := Tryd.sizeOf111
  v138 := Tryd.zeroValue111
  t139 := Tryd.underlying112
  a139 := Tryd.isAgg112
  z139 := Tryd.sizeOf112
  v139 := Tryd.zeroValue112
  g3 := by kernel_rfl
  g4 := by kernel_rfl }
open Go.RowKit Go.Lib in
theorem Tryd.strings_explode_all (s : ByteArray) (n : Int) (w : World) (hn : n < 0) (hs : s.size < 4294967281) (hascii : ∀ (j : Nat) b, s.data.toList[j]? = some b → b.toNat < 128) :
    Calls Tryd.prog 53 #[.string s, .int .i64 n] w fun e w' =>
      e = .returned (.slice (some ⟨(w.iter s s.size).heap.size, 0, none⟩) s.size s.size) ∧ w' = (w.iter s s.size).alloc (.cells ((Lib.charsB s).map Value.string).toArray 9) := Any.strings_explode_all Tryd.lays268 (by kernel_rfl) s n w hn hs hascii
open Go.RowKit Go.Lib in
/-- strings.genSplit at sep == "", n < 0: 'return explode(s, n)'. (LAID: no walk: one application.) -/
theorem Tryd.strings_genSplit_chars (s sep : ByteArray) (sv n : Int) (w : World) (h0 : sep.size = 0) (hn : n < 0) (hs : s.size < 4294967281) (hascii : ∀ (j : Nat) b, s.data.toList[j]? = some b → b.toNat < 128) :
    Calls Tryd.prog 39 #[.string s, .string sep, .int .i64 sv, .int .i64 n] w fun e w' =>
      e = .returned (.slice (some ⟨(w.iter s s.size).heap.size, 0, none⟩) s.size s.size) ∧ w' = (w.iter s s.size).alloc (.cells ((Lib.charsB s).map Value.string).toArray 9) := Any.strings_genSplit_chars Tryd.lays221 (by kernel_rfl) s sep sv n w h0 hn hs hascii
open Go.RowKit Go.Lib in
/-- strings.Split(s, ""), s ASCII: a piece a byte. (LAID: no walk: one application.) -/
theorem Tryd.strings_Split_chars (s sep : ByteArray) (w : World) (h0 : sep.size = 0) (hs : s.size < 4294967281) (hascii : ∀ (j : Nat) b, s.data.toList[j]? = some b → b.toNat < 128) :
    Calls Tryd.prog 25 #[.string s, .string sep] w fun e w' =>
      e = .returned (.slice (some ⟨(w.iter s s.size).heap.size, 0, none⟩) s.size s.size) ∧ w' = (w.iter s s.size).alloc (.cells ((Lib.charsB s).map Value.string).toArray 9) := Any.strings_Split_chars Tryd.lays146 (by kernel_rfl) s sep w h0 hs hascii
def Tryd.lays264_ren : Go.Shelf.Ren := ⟨fun | 264 => 57 | n => n, fun | 53 => 79 | 46 => 59 | n => n, fun | n => n⟩
theorem Tryd.lays264 : Go.Proofs.Lays.n264 Tryd.prog Tryd.lays264_ren := {
  mixed := by kernel_rfl
  f264 := Tryd.func57.trans (congrArg some (by kernel_rfl))
  t46 := Tryd.underlying59
  a46 := Tryd.isAgg59
  z46 := Tryd.sizeOf59
  v46 := Tryd.zeroValue59
  t53 := Tryd.underlying79
  a53 := Tryd.isAgg79
  z53 := Tryd.sizeOf79
  v53 := Tryd.zeroValue79 }
open Go.RowKit Go.Lib in
theorem Tryd.bits_Mul64 (x y : Nat) (hx : x < 18446744073709551616) (hy : y < 18446744073709551616) (w : World) :
    Calls Tryd.prog 57 #[.int .u64 x, .int .u64 y] w fun e w' => e = .returned (.tuple #[.int .u64 ((x * y / 18446744073709551616 : Nat) : Int), .int .u64 ((x * y % 18446744073709551616 : Nat) : Int)]) ∧ w' = w := Any.bits_Mul64 Tryd.lays264 x y hx hy w
def Tryd.lays212_ren : Go.Shelf.Ren := ⟨fun | 212 => 41 | 263 => 56 | 264 => 57 | n => n, fun | 46 => 59 | 51 => 76 | 146 => 77 | 53 => 79 | 148 => 80 | n => n, fun | n => n⟩
theorem Tryd.lays212 : Go.Proofs.Lays.n212 Tryd.prog Tryd.lays212_ren := {
  mixed := by kernel_rfl
  f212 := Tryd.func41.trans (congrArg some (by kernel_rfl))
  f263 := Tryd.func56.trans (congrArg some (by kernel_rfl))
  f264 := Tryd.func57.trans (congrArg some (by kernel_rfl))
  t46 := Tryd.underlying59
  a46 := Tryd.isAgg59
  z46 := Tryd.sizeOf59
  v46 := Tryd.zeroValue59
  t51 := Tryd.underlying76
  a51 := Tryd.isAgg76
  z51 := Tryd.sizeOf76
  v51 := Tryd.zeroValue76
  t53 := Tryd.underlying79
  a53 := Tryd.isAgg79
  z53 := Tryd.sizeOf79
  v53 := Tryd.zeroValue79
  t146 := Tryd.underlying77
  a146 := Tryd.isAgg77
  z146 := Tryd.sizeOf77
  v146 := Tryd.zeroValue77
  t148 := Tryd.underlying80
  a148 := Tryd.isAgg80
  z148 := Tryd.sizeOf80
  v148 := Tryd.zeroValue80 }
open Go.RowKit Go.Lib in
/-- math/bits.Mul: "Mul returns the full-width product of x and y": on a machine of 64 bits: Mul64's. (LAID: no walk: one application.) -/
theorem Tryd.bits_Mul (x y : Nat) (hx : x < 18446744073709551616) (hy : y < 18446744073709551616) (w : World) :
    Calls Tryd.prog 41 #[.int .u64 x, .int .u64 y] w fun e w' => e = .returned (.tuple #[.int .u64 ((x * y / 18446744073709551616 : Nat) : Int), .int .u64 ((x * y % 18446744073709551616 : Nat) : Int)]) ∧ w' = w := Any.bits_Mul Tryd.lays212 x y hx hy w
def Tryd.lays105_ren : Go.Shelf.Ren := ⟨fun | 105 => 27 | 212 => 41 | 99 => 26 | 165 => 42 | 166 => 43 | 170 => 44 | 169 => 45 | 263 => 56 | 264 => 57 | 206 => 40 | 240 => 58 | 241 => 59 | 276 => 67 | 277 => 68 | n => n, fun | 9 => 9 | 3 => 3 | 4 => 4 | 20 => 20 | 0 => 0 | 46 => 59 | 109 => 60 | 5 => 5 | 72 => 64 | 76 => 68 | 51 => 76 | 146 => 77 | 53 => 79 | 148 => 80 | 70 => 62 | 37 => 44 | 75 => 67 | 127 => 82 | 164 => 87 | 80 => 71 | n => n, fun | n => n⟩
theorem Tryd.lays105 : Go.Proofs.Lays.n105 Tryd.prog Tryd.lays105_ren := {
  mixed := by kernel_rfl
  f99 := Tryd.func26.trans (congrArg some (by kernel_rfl))
  f105 := Tryd.func27.trans (congrArg some (by kernel_rfl))
  f165 := Tryd.func42.trans (congrArg some (by kernel_rfl))
  f166 := Tryd.func43.trans (congrArg some (by kernel_rfl))
  f169 := Tryd.func45.trans (congrArg some (by kernel_rfl))
  f170 := Tryd.func44.trans (congrArg some (by kernel_rfl))
  f206 := Tryd.func40.trans (congrArg some (by kernel_rfl))
  f212 := Tryd.func41.trans (congrArg some (by kernel_rfl))
  f240 := Tryd.func58.trans (congrArg some (by kernel_rfl))
  f241 := Tryd.func59.trans (congrArg some (by kernel_rfl))
  f263 := Tryd.func56.trans (congrArg some (by kernel_rfl))
  f264 := Tryd.func57.trans (congrArg some (by kernel_rfl))
  f276 := Tryd.func67.trans (congrArg some (by kernel_rfl))
  f277 := Tryd.func68.trans (congrArg some (by kernel_rfl))
  t0 := Tryd.underlying0
  a0 := Tryd.isAgg0
  z0 := Tryd.sizeOf0
  v0 := Tryd.zeroValue0
  t3 := Tryd.underlying3
  a3 := Tryd.isAgg3
  z3 := Tryd.sizeOf3
  v3 := Tryd.zeroValue3
  t4 := Tryd.underlying4
  a4 := Tryd.isAgg4
  z4 := Tryd.sizeOf4
  v4 := Tryd.zeroValue4
  t5 := Tryd.underlying5
  a5 := Tryd.isAgg5
  z5 := Tryd.sizeOf5
  v5 := Tryd.zeroValue5
  t9 := Tryd.underlying9
  a9 := Tryd.isAgg9
  z9 := Tryd.sizeOf9
  v9 := Tryd.zeroValue9
  t20 := Tryd.underlying20
  a20 := Tryd.isAgg20
  z20 := Tryd.sizeOf20
  v20 := Tryd.zeroValue20
  t37 := Tryd.underlying44
  a37 := Tryd.isAgg44
  z37 := Tryd.sizeOf44
  v37 := Tryd.zeroValue44
  t46 := Tryd.underlying59
  a46 := Tryd.isAgg59
  z46 := Tryd.sizeOf59
  v46 := Tryd.zeroValue59
  t51 := Tryd.underlying76
  a51 := Tryd.isAgg76
  z51 := Tryd.sizeOf76
  v51 := Tryd.zeroValue76
  t53 := Tryd.underlying79
  a53 := Tryd.isAgg79
  z53 := Tryd.sizeOf79
  v53 := Tryd.zeroValue79
  t70 := Tryd.underlying62
  a70 := Tryd.isAgg62
  z70 := Tryd.sizeOf62
  v70 := Tryd.zeroValue62
  t72 := Tryd.underlying64
  a72 := Tryd.isAgg64
  z72 := Tryd.sizeOf64
  v72 := Tryd.zeroValue64
  t75 := Tryd.underlying67
  a75 := Tryd.isAgg67
  z75 := Tryd.sizeOf67
  v75 := Tryd.zeroValue67
  t76 := Tryd.underlying68
  a76 := Tryd.isAgg68
  z76 := Tryd.sizeOf68
  v76 := Tryd.zeroValue68
  t109 := Tryd.underlying60
  a109 := Tryd.isAgg60
  z109 := Tryd.sizeOf60
  v109 := Tryd.zeroValue60
  t127 := Tryd.underlying82
  a127 := Tryd.isAgg82
  z127 := Tryd.sizeOf82
  v127 := Tryd.zeroValue82
  t146 := Tryd.underlying77
  a146 := Tryd.isAgg77
  z146 := Tryd.sizeOf77
  v146 := Tryd.zeroValue77
  t148 := Tryd.underlying80
  a148 := Tryd.isAgg80
  z148 := Tryd.sizeOf80
  v148 := Tryd.zeroValue80
  t164 := Tryd.underlying87
  a164 := Tryd.isAgg87
  z164 := Tryd.sizeOf87
  v164 := Tryd.zeroValue87 }
theorem Tryd.Builder_Extra_105 : Builder.Extra Tryd.prog Tryd.lays105_ren := {
  sizeBuilder := by kernel_rfl
  liesBuilder := by kernel_rfl
  t5 := Tryd.underlying5
  a5 := Tryd.isAgg5
  z5 := Tryd.sizeOf5
  v5 := Tryd.zeroValue5
  infoByte := by kernel_rfl
  cellsByte := by kernel_rfl
  sizeByte := by kernel_rfl
  neB5 := by decide }
open Go.RowKit Go.Lib in
/-- THE MAIN CASE: at least two copies of a string that is not empty. (LAID: no walk: one application.) -/
theorem Tryd.strings_Repeat_main (s : ByteArray) (c : Nat) (w : World) (hc2 : 2 ≤ c) (hc : c ≤ 9223372036854775807) (hlen : s.size * c ≤ 140737488355328) (h0 : 0 < s.size) :
    Calls Tryd.prog 27 #[.string s, .int .i64 c] w fun e w' => e = .returned (.string ⟨(Lib.repeatL s.data.toList c).toArray⟩) ∧ Below w.heap.size w w' := Any.strings_Repeat_main Tryd.lays105 Tryd.Builder_Extra_105 s c w hc2 hc hlen h0
open Go.RowKit Go.Lib in
theorem Tryd.strings_Repeat_zero (s : ByteArray) (w : World) :
    Calls Tryd.prog 27 #[.string s, .int .i64 0] w fun e w' => e = .returned (.string ⟨#[]⟩) ∧ w' = w := Any.strings_Repeat_zero Tryd.lays105 s w
open Go.RowKit Go.Lib in
theorem Tryd.strings_Repeat_one (s : ByteArray) (w : World) :
    Calls Tryd.prog 27 #[.string s, .int .i64 1] w fun e w' => e = .returned (.string s) ∧ w' = w := Any.strings_Repeat_one Tryd.lays105 s w
open Go.RowKit Go.Lib in
/-- Copies of the empty string. (LAID: no walk: one application.) -/
theorem Tryd.strings_Repeat_empty (s : ByteArray) (c : Nat) (w : World) (hc2 : 2 ≤ c) (hc : c ≤ 9223372036854775807) (h0 : s.size = 0) :
    Calls Tryd.prog 27 #[.string s, .int .i64 c] w fun e w' => e = .returned (.string ⟨#[]⟩) ∧ w' = w := Any.strings_Repeat_empty Tryd.lays105 s c w hc2 hc h0
open Go.RowKit Go.Lib in
/-- count < 0: "It panics if count is negative". (LAID: no walk: one application.) -/
theorem Tryd.strings_Repeat_negative (s : ByteArray) (c : Int) (w : World) (hc : c < 0) :
    Calls Tryd.prog 27 #[.string s, .int .i64 c] w fun e w' => e = .panicked [{ v := repeatPanic Tryd.lays105_ren "strings: negative Repeat count", recovered := false }] ∧ w' = w := Any.strings_Repeat_negative Tryd.lays105 s c w hc
open Go.RowKit Go.Lib in
/-- len(s) * count is no int: ".. or if the result of (len(s) * count) overflows". (LAID: no walk: one application.) -/
theorem Tryd.strings_Repeat_overflow (s : ByteArray) (c : Nat) (w : World) (hc : c ≤ 9223372036854775807) (hs : s.size ≤ 9223372036854775807) (hbig : 9223372036854775807 < s.size * c) :
    Calls Tryd.prog 27 #[.string s, .int .i64 c] w fun e w' => e = .panicked [{ v := repeatPanic Tryd.lays105_ren "strings: Repeat output length overflow", recovered := false }] ∧ w' = w := Any.strings_Repeat_overflow Tryd.lays105 s c w hc hs hbig
open Go.RowKit Go.Lib in
/-- **strings.Repeat: count ≥ 0, the result within one allocation: count copies of s.** (LAID: no walk: one application.) -/
theorem Tryd.strings_Repeat (s : ByteArray) (c : Nat) (w : World) (hc : c ≤ 9223372036854775807) (hlen : s.size * c ≤ 140737488355328) :
    Calls Tryd.prog 27 #[.string s, .int .i64 c] w fun e w' => e = .returned (.string ⟨(Lib.repeatL s.data.toList c).toArray⟩) ∧ Below w.heap.size w w' := Any.strings_Repeat Tryd.lays105 Tryd.Builder_Extra_105 s c w hc hlen
def Tryd.lays260_ren : Go.Shelf.Ren := ⟨fun | 260 => 77 | n => n, fun | 9 => 9 | 21 => 21 | 3 => 3 | 4 => 4 | 5 => 5 | 119 => 109 | 0 => 0 | 46 => 59 | 139 => 112 | 138 => 111 | n => n, fun | 3 => 2 | 4 => 3 | n => n⟩
theorem Tryd.lays260 : Go.Proofs.Lays.n260 Tryd.prog Tryd.lays260_ren := {
  mixed := by kernel_rfl
  f260 := Tryd.func77.trans (congrArg some (by kernel_rfl))
  t0 := Tryd.underlying0
  a0 := Tryd.isAgg0
  z0 := Tryd.sizeOf0
  v0 := Tryd.zeroValue0
  t3 := Tryd.underlying3
  a3 := Tryd.isAgg3
  z3 := Tryd.sizeOf3
  v3 := Tryd.zeroValue3
  t4 := Tryd.underlying4
  a4 := Tryd.isAgg4
  z4 := Tryd.sizeOf4
  v4 := Tryd.zeroValue4
  t5 := Tryd.underlying5
  a5 := Tryd.isAgg5
  z5 := Tryd.sizeOf5
  v5 := Tryd.zeroValue5
  t9 := Tryd.underlying9
  a9 := Tryd.isAgg9
  z9 := Tryd.sizeOf9
  v9 := Tryd.zeroValue9
  t21 := Tryd.underlying21
  a21 := Tryd.isAgg21
  z21 := Tryd.sizeOf21
  v21 := Tryd.zeroValue21
  t46 := Tryd.underlying59
  a46 := Tryd.isAgg59
  z46 := Tryd.sizeOf59
  v46 := Tryd.zeroValue59
  t119 := Tryd.underlying109
  a119 := Tryd.isAgg109
  z119 := Tryd.sizeOf109
  t138 := Tryd.underlying111
  a138 := Tryd.isAgg111
  z138 := Tryd.sizeOf111
  v138 := Tryd.zeroValue111
  t139 := Tryd.underlying112
  a139 := Tryd.isAgg112
  z139 := Tryd.sizeOf112
  v139 := Tryd.zeroValue112
  g3 := by kernel_rfl
  g4 := by kernel_rfl }
open Go.RowKit Go.Lib in
theorem Tryd.utf8_decodeRuneInStringSlow (s : ByteArray) (w : World) (hT : Lib.Utf8Tabs 2 3 w) :
    Calls Tryd.prog 77 #[.string s] w fun e w' => e = .returned (.tuple #[.int .i32 (Lib.decodeGo s).1, .int .i64 (Lib.decodeGo s).2]) ∧ Below w.heap.size w w' := Any.utf8_decodeRuneInStringSlow Tryd.lays260 s w hT
open Go.RowKit Go.Lib in
/-- **unicode/utf8.DecodeRuneInString AT EVERY STRING.** (LAID: no walk: one application.) -/
theorem Tryd.utf8_DecodeRuneInString (s : ByteArray) (w : World) (hT : Lib.Utf8Tabs 2 3 w) :
    Calls Tryd.prog 62 #[.string s] w fun e w' => e = .returned (.tuple #[.int .i32 (Lib.decodeGo s).1, .int .i64 (Lib.decodeGo s).2]) ∧ Below w.heap.size w w' := Any.utf8_DecodeRuneInString Tryd.lays197 s w hT
end Go.Proofs
namespace Go.AM
open Go Go.Proofs
set_option linter.unusedVariables false
noncomputable section
theorem cond_t {α : Type} {b : Bool} {x y : α} (c : b = true) : cond b x y = x := by subst c; rfl
theorem cond_f {α : Type} {b : Bool} {x y : α} (c : b = false) : cond b x y = y := by subst c; rfl
abbrev I : RTy := .int .i64
abbrev t7 : RTy := (RTy.pair I (RTy.pair I (RTy.pair RTy.bool (RTy.int .u8))))
abbrev t8 : RTy := (RTy.pair I (RTy.pair I (RTy.pair RTy.bool (RTy.int .u8))))
abbrev t13 : RTy := (RTy.pair RTy.str (RTy.int .u64))
abbrev t14 : RTy := (RTy.pair RTy.str (RTy.int .u64))
abbrev t90 : RTy := (RTy.pair (RTy.int .u8) (RTy.pair (RTy.int .u8) (RTy.pair (RTy.int .u8) (RTy.pair (RTy.int .u8) (RTy.pair (RTy.int .u8) (RTy.pair (RTy.int .u8) (RTy.pair (RTy.int .u8) (RTy.pair (RTy.int .u8) (RTy.pair (RTy.int .u8) (RTy.pair (RTy.int .u8) (RTy.pair (RTy.int .u8) (RTy.pair (RTy.int .u8) (RTy.pair (RTy.int .u8) (RTy.pair (RTy.int .u8) (RTy.pair (RTy.int .u8) (RTy.pair (RTy.int .u8) (RTy.pair (RTy.int .u8) (RTy.pair (RTy.int .u8) (RTy.pair (RTy.int .u8) (RTy.pair (RTy.int .u8) (RTy.pair (RTy.int .u8) (RTy.pair (RTy.int .u8) (RTy.pair (RTy.int .u8) (RTy.int .u8))))))))))))))))))))))))
abbrev t104 : RTy := (RTy.pair (RTy.int .u64) (RTy.pair (RTy.int .u64) (RTy.pair (RTy.int .u64) (RTy.pair (RTy.int .u64) (RTy.pair (RTy.int .u64) (RTy.pair (RTy.int .u64) (RTy.pair (RTy.int .u64) (RTy.pair (RTy.int .u64) (RTy.pair (RTy.int .u64) (RTy.pair (RTy.int .u64) (RTy.pair (RTy.int .u64) (RTy.pair (RTy.int .u64) (RTy.pair (RTy.int .u64) (RTy.pair (RTy.int .u64) (RTy.pair (RTy.int .u64) (RTy.pair (RTy.int .u64) (RTy.pair (RTy.int .u64) (RTy.pair (RTy.int .u64) (RTy.pair (RTy.int .u64) (RTy.int .u64))))))))))))))))))))
abbrev t110 : RTy := (RTy.pair (RTy.int .u8) (RTy.int .u8))
abbrev t111 : RTy := (RTy.pair (RTy.int .u8) (RTy.int .u8))
abbrev t112 : RTy := (RTy.pair t111 (RTy.pair t111 (RTy.pair t111 (RTy.pair t111 (RTy.pair t111 (RTy.pair t111 (RTy.pair t111 (RTy.pair t111 (RTy.pair t111 (RTy.pair t111 (RTy.pair t111 (RTy.pair t111 (RTy.pair t111 (RTy.pair t111 (RTy.pair t111 t111)))))))))))))))
abbrev t115 : RTy := (RTy.pair (RTy.int .u8) (RTy.pair (RTy.int .u8) (RTy.pair (RTy.int .u8) (RTy.pair (RTy.int .u8) (RTy.pair (RTy.int .u8) (RTy.pair (RTy.int .u8) (RTy.pair (RTy.int .u8) (RTy.pair (RTy.int .u8) (RTy.pair (RTy.int .u8) (RTy.pair (RTy.int .u8) (RTy.pair (RTy.int .u8) (RTy.pair (RTy.int .u8) (RTy.pair (RTy.int .u8) (RTy.pair (RTy.int .u8) (RTy.pair (RTy.int .u8) (RTy.pair (RTy.int .u8) (RTy.pair (RTy.int .u8) (RTy.pair (RTy.int .u8) (RTy.pair (RTy.int .u8) (RTy.pair (RTy.int .u8) (RTy.pair (RTy.int .u8) (RTy.pair (RTy.int .u8) (RTy.pair (RTy.int .u8) (RTy.pair (RTy.int .u8) (RTy.pair (RTy.int .u8) (RTy.pair (RTy.int .u8) (RTy.pair (RTy.int .u8) (RTy.pair (RTy.int .u8) (RTy.pair (RTy.int .u8) (RTy.pair (RTy.int .u8) (RTy.pair (RTy.int .u8) (RTy.int .u8))))))))))))))))))))))))))))))))
abbrev t116 : RTy := (RTy.pair (RTy.int .u8) (RTy.pair (RTy.int .u8) (RTy.pair (RTy.int .u8) (RTy.pair (RTy.int .u8) (RTy.pair (RTy.int .u8) (RTy.pair (RTy.int .u8) (RTy.pair (RTy.int .u8) (RTy.pair (RTy.int .u8) (RTy.pair (RTy.int .u8) (RTy.pair (RTy.int .u8) (RTy.pair (RTy.int .u8) (RTy.pair (RTy.int .u8) (RTy.pair (RTy.int .u8) (RTy.pair (RTy.int .u8) (RTy.pair (RTy.int .u8) (RTy.pair (RTy.int .u8) (RTy.pair (RTy.int .u8) (RTy.pair (RTy.int .u8) (RTy.pair (RTy.int .u8) (RTy.pair (RTy.int .u8) (RTy.pair (RTy.int .u8) (RTy.pair (RTy.int .u8) (RTy.pair (RTy.int .u8) (RTy.pair (RTy.int .u8) (RTy.pair (RTy.int .u8) (RTy.pair (RTy.int .u8) (RTy.pair (RTy.int .u8) (RTy.pair (RTy.int .u8) (RTy.pair (RTy.int .u8) (RTy.pair (RTy.int .u8) (RTy.pair (RTy.int .u8) (RTy.pair (RTy.int .u8) (RTy.pair (RTy.int .u8) (RTy.pair (RTy.int .u8) (RTy.pair (RTy.int .u8) (RTy.pair (RTy.int .u8) (RTy.pair (RTy.int .u8) (RTy.pair (RTy.int .u8) (RTy.pair (RTy.int .u8) (RTy.pair (RTy.int .u8) (RTy.pair (RTy.int .u8) (RTy.pair (RTy.int .u8) (RTy.pair (RTy.int .u8) (RTy.pair (RTy.int .u8) (RTy.pair (RTy.int .u8) (RTy.pair (RTy.int .u8) (RTy.pair (RTy.int .u8) (RTy.pair (RTy.int .u8) (RTy.pair (RTy.int .u8) (RTy.pair (RTy.int .u8) (RTy.pair (RTy.int .u8) (RTy.pair (RTy.int .u8) (RTy.pair (RTy.int .u8) (RTy.pair (RTy.int .u8) (RTy.pair (RTy.int .u8) (RTy.pair (RTy.int .u8) (RTy.pair (RTy.int .u8) (RTy.pair (RTy.int .u8) (RTy.pair (RTy.int .u8) (RTy.pair (RTy.int .u8) (RTy.pair (RTy.int .u8) (RTy.pair (RTy.int .u8) (RTy.pair (RTy.int .u8) (RTy.int .u8))))))))))))))))))))))))))))))))))))))))))))))))))))))))))))))))
abbrev t120 : RTy := RTy.unit
abbrev t121 : RTy := RTy.unit
instance : GT Tryd.prog := ⟨fun w => ∃ m, w.cell? ⟨0, 0, none⟩ = some (.int .i64 m), fun w w' hk h => cell_keep hk h⟩
def asc (s : ByteArray) : Bool := s.data.toList.all fun b => Nat.blt b.toNat 128
theorem asc_at {s : ByteArray} (h : asc s = true) (j : Nat) (b : UInt8) (e : s.data.toList[j]? = some b) : b.toNat < 128 := by
  have := List.all_eq_true.1 h b (List.mem_of_getElem? e)
  simpa [Nat.blt_eq] using this
def mkL (l : List UInt8) : ByteArray := ⟨l.toArray⟩
def Rt : Tab := lookT [(1, RTy.fn), (2, I), (3, I), (4, RTy.bool), (5, (RTy.int .u8)), (6, (RTy.int .u8)), (7, t7), (8, t8), (9, RTy.str), (10, RTy.str), (11, RTy.str), (12, (RTy.int .u64)), (13, t13), (14, t14), (21, (RTy.int .i32)), (22, (RTy.list RTy.str)), (23, RTy.fn), (24, RTy.fn), (25, I), (27, RTy.fn), (28, RTy.fn), (30, RTy.fn), (31, RTy.fn), (32, RTy.fn), (33, (RTy.list (RTy.list RTy.str))), (35, RTy.fn), (36, RTy.fn), (38, RTy.fn), (39, RTy.fn), (40, RTy.fn), (41, RTy.fn), (42, (RTy.int .u16)), (43, RTy.fn), (44, (RTy.list (RTy.int .u8))), (45, RTy.fn), (46, RTy.fn), (47, RTy.fn), (48, RTy.fn), (49, RTy.fn), (50, RTy.fn), (51, RTy.fn), (53, RTy.fn), (55, RTy.fn), (57, RTy.fn), (58, RTy.fn), (59, (RTy.int .u64)), (61, RTy.fn), (65, RTy.fn), (69, RTy.fn), (70, RTy.fn), (71, RTy.fn), (72, RTy.fn), (73, RTy.fn), (74, RTy.fn), (75, RTy.fn), (76, (RTy.int .u32)), (78, RTy.fn), (79, (RTy.int .u64)), (81, RTy.fn), (83, RTy.fn), (85, RTy.fn), (86, RTy.fn), (88, RTy.fn), (89, RTy.fn), (90, t90), (91, RTy.fn), (92, RTy.fn), (94, RTy.fn), (95, RTy.fn), (96, RTy.fn), (100, RTy.fn), (101, RTy.fn), (102, RTy.fn), (103, RTy.fn), (104, t104), (106, RTy.fn), (107, RTy.fn), (110, t110), (111, t111), (112, t112), (113, RTy.fn), (114, RTy.fn), (115, t115), (116, t116), (119, RTy.unit), (120, t120), (121, t121), (122, (RTy.int .u8)), (123, (RTy.int .u8)), (124, RTy.fn), (125, (RTy.int .i32)), (126, (RTy.int .i32))]
theorem hm : Tryd.prog.follows .mixedOrders = true := by kernel_rfl

end
end Go.AM
namespace Go.AM
open Go Go.Proofs
set_option linter.unusedVariables false
noncomputable section
/-! ### function 29: papermill/field.check -/
def K29 (k : Nat) : Calld := ⟨fun g => match g with
  | _ => none, fun g xs _ => match g with
  | _ => none⟩
abbrev R29 : Type := Int
def res29 (r : R29) : AV := .r (.v (.int .i64 r))
def bo29 (r : R29) : List (Nat × Blk) := []
def st29_4 (x0 : ByteArray) (x1 : Int) (x2 : Int) : St := ⟨mkS 23 [(0, .r (.v (.string x0))), (8, .r (.v (.int .i64 x1))), (9, .r (.v (.int .i64 x2)))], []⟩
def f29_4 (k : Nat) : Nat → ByteArray → Int → Int → Option R29
  | 0, _, _, _ => none
  | j + 1, x0, x1, x2 =>
    bif (decide (x2 < x1)) then
      if ((0 : Int) ≤ x2) ∧ (x2 < (↑x0.size : Int)) ∧ (decide (bAt x0 x2 < (32 : Int)) = false → (0 : Int) ≤ x2) ∧ (decide (bAt x0 x2 < (32 : Int)) = false → x2 < (↑x0.size : Int)) then
        bif (decide (bAt x0 x2 < (32 : Int)) || decide (bAt x0 x2 > (126 : Int))) then
          some 3
        else
          f29_4 k j x0 x1 ((IntKind.i64.wrap (x2 + 1)))
      else none
    else
      some 0
def f29 (k : Nat) (s_ : ByteArray) : Option R29 :=
  bif (decide ((↑s_.size : Int) > (256 : Int))) then
    some 8
  else
    f29_4 k k s_ ((↑s_.size : Int)) 0
def args29 (s_ : ByteArray) : List AV := [.r (.v (.string s_))]
def v29 (k : Nat) (s_ : ByteArray) : R29 := (f29 k s_).getD 0
theorem ev29 (k : Nat) : ∀ j, (∀ (x0 : ByteArray) (x1 : Int) (x2 : Int) (r : R29), f29_4 k j x0 x1 x2 = some r → Ev Tryd.prog Tryd.f29 0 (placeAt Tryd.f29 4) (st29_4 x0 x1 x2) (res29 r) (bo29 r))
  | 0 => by
    intros; rename_i h; simp [f29_4] at h
  | j + 1 => by
    have ih := ev29 k j
    · intro x0 x1 x2 r h
      rw [f29_4] at h
      refine Ev.tree hm (R := Rt) (K := (K29 k)) (l := []) (C := [(4, [.auto [0, 8, 9] false])]) (E := [.auto [2] true]) (n := 1000) (T := .test ((decide (x2 < x1))) (.need [(0 : Int) ≤ x2, x2 < (↑x0.size : Int), decide (bAt x0 x2 < (32 : Int)) = false → (0 : Int) ≤ x2, decide (bAt x0 x2 < (32 : Int)) = false → x2 < (↑x0.size : Int)] (.test ((decide (bAt x0 x2 < (32 : Int)) || decide (bAt x0 x2 > (126 : Int)))) (.leaf (res29 3) (bo29 3)) (.cut 4 (placeAt Tryd.f29 4) (st29_4 x0 x1 ((IntKind.i64.wrap (x2 + 1))))))) (.leaf (res29 0) (bo29 0))) (by kernel_rfl) ?_
      refine ⟨fun c => ?_, fun c => ?_⟩
      · rw [cond_t c] at h
        by_cases q : ((0 : Int) ≤ x2) ∧ (x2 < (↑x0.size : Int)) ∧ (decide (bAt x0 x2 < (32 : Int)) = false → (0 : Int) ≤ x2) ∧ (decide (bAt x0 x2 < (32 : Int)) = false → x2 < (↑x0.size : Int))
        · rw [if_pos q] at h
          refine ⟨(conjC q.1 (conjC q.2.1 (conjC q.2.2.1 (conjC q.2.2.2 conj0)))), ?_⟩
          refine ⟨fun c => ?_, fun c => ?_⟩
          · rw [cond_t c] at h
            cases h; exact ⟨rfl, rfl⟩
          · rw [cond_f c] at h
            exact ih x0 x1 ((IntKind.i64.wrap (x2 + 1))) _ h
        · rw [if_neg q] at h; cases h
      · rw [cond_f c] at h
        cases h; exact ⟨rfl, rfl⟩
theorem of29 (k : Nat) (s_ : ByteArray) (r : R29) (h : f29 k s_ = some r) : CC Tryd.prog 29 (args29 s_) [] (res29 r) (bo29 r) := by
  refine CC.of (fn := Tryd.f29) (by kernel_rfl) (by kernel_rfl) (by kernel_rfl) (by kernel_rfl) ?_
  unfold f29 at h
  refine Ev.tree hm (R := Rt) (K := (K29 k)) (l := []) (C := [(4, [.auto [0, 8, 9] false])]) (E := [.auto [2] true]) (n := 1000) (T := .test ((decide ((↑s_.size : Int) > (256 : Int)))) (.leaf (res29 8) (bo29 8)) (.cut 4 (placeAt Tryd.f29 4) (st29_4 s_ ((↑s_.size : Int)) 0))) (by kernel_rfl) ?_
  refine ⟨fun c => ?_, fun c => ?_⟩
  · rw [cond_t c] at h
    cases h; exact ⟨rfl, rfl⟩
  · rw [cond_f c] at h
    exact (ev29 k k) s_ ((↑s_.size : Int)) 0 _ h
theorem cc29 (k : Nat) (s_ : ByteArray) (h : (f29 k s_).isSome = true) : CC Tryd.prog 29 (args29 s_) [] (res29 (v29 k s_)) (bo29 (v29 k s_)) := by
  cases e : f29 k s_ with
  | none => rw [e] at h; cases h
  | some r => rw [show v29 k s_ = r by simp [v29, e]]; exact of29 k s_ r e

end
end Go.AM
namespace Go.AM
open Go

theorem decode_skip (s : ByteArray) (pos : Nat) (h : pos < s.size) (ha : 128 ≤ (s[pos]'h).toNat) :
    pos + (Utf8.decode s pos).2 ≤ s.size ∧ ∀ j, pos ≤ j → j < pos + (Utf8.decode s pos).2 → 128 ≤ (s.get! j).toNat := by
  have h0 : 128 ≤ (s.get! (pos + 0)).toNat := by rw [get_at s pos h]; exact ha
  have hn : ¬ (s.get! (pos + 0)).toNat < 128 := by omega
  have one : pos + 1 ≤ s.size ∧ ∀ j, pos ≤ j → j < pos + 1 → 128 ≤ (s.get! j).toNat :=
    ⟨by omega, fun j h1 h2 => by obtain rfl : j = pos + 0 := by omega
                                 exact h0⟩
  simp only [Utf8.decode, if_neg hn]
  split
  · rename_i h1
    simp only [Bool.and_eq_true, decide_eq_true_eq, beq_iff_eq] at h1
    split
    · refine ⟨by simp only; omega, fun j g1 g2 => ?_⟩
      simp only at g2
      obtain rfl | rfl : j = pos + 0 ∨ j = pos + 1 := by omega
      · exact h0
      · omega
    · exact one
  · split
    · rename_i h1
      simp only [Bool.and_eq_true, decide_eq_true_eq, beq_iff_eq] at h1
      split
      · refine ⟨by simp only; omega, fun j g1 g2 => ?_⟩
        simp only at g2
        obtain rfl | rfl | rfl : j = pos + 0 ∨ j = pos + 1 ∨ j = pos + 2 := by omega
        · exact h0
        · omega
        · omega
      · exact one
    · split
      · rename_i h1
        simp only [Bool.and_eq_true, decide_eq_true_eq, beq_iff_eq] at h1
        split
        · refine ⟨by simp only; omega, fun j g1 g2 => ?_⟩
          simp only at g2
          obtain rfl | rfl | rfl | rfl : j = pos + 0 ∨ j = pos + 1 ∨ j = pos + 2 ∨ j = pos + 3 := by omega
          · exact h0
          · omega
          · omega
          · omega
        · exact one
      · exact one

end Go.AM
namespace Go.AM
open Go Go.Proofs Go.Shelf Go.RowKit Go.Lib
variable {P : Program} {ρ : Ren}

set_option maxHeartbeats 4000000 in
set_option maxRecDepth 1000000 in
theorem indexRune_err (L : Lays.n152 P ρ) (s : ByteArray) (w : World) (hascii : ∀ (j : Nat) b, s.data.toList[j]? = some b → b.toNat < 128) :
    Calls P (ρ.f 152) #[.string s, .int .i32 65533] w fun e w' => e = .returned (.int .i64 (-1)) ∧ ∃ pos, w' = w.iter s pos := by
  have HA : Aside (∀ (j : Nat) b, s.data.toList[j]? = some b → b.toNat < 128) := hascii
  clear hascii
  have t3 := L.t3; have a3 := L.a3; have z3 := L.z3; have v3 := L.v3
  have t4 := L.t4; have a4 := L.a4; have z4 := L.z4; have v4 := L.v4
  have t5 := L.t5; have a5 := L.a5; have z5 := L.z5; have v5 := L.v5
  have t9 := L.t9; have a9 := L.a9; have z9 := L.z9; have v9 := L.v9
  have t21 := L.t21; have a21 := L.a21; have z21 := L.z21; have v21 := L.v21
  go_enter L.f152, Body.n152_ntmps ρ
  go_wp2
  go_loopg [5, 6] s.size (fun g _ _ wx => ∃ i : Nat, i + g = s.size ∧ wx = w.iter s i)
  case atStart => exact ⟨0, by omega, rfl⟩
  case round =>
    obtain ⟨i, hig, rfl⟩ := hrel
    cases gk with
    | zero =>
      obtain rfl : i = s.size := by omega
      have hnx := run_next_end (P := P) w s s.size
      go_wp2
      go_ret
      exact ⟨rfl, _, rfl⟩
    | succ g =>
      have hi : i < s.size := by omega
      obtain ⟨x, hx⟩ : ∃ x : UInt8, s[i]'hi = x := ⟨_, rfl⟩
      have hxl : s.data.toList[i]? = some x := by rw [← hx]; exact Lib.data_getElem? s i hi
      have hx128 : x.toNat < 128 := HA.out i x hxl
      have hnx := fun ty => run_next_ascii (P := P) w s i ty hi (by rw [hx]; exact hx128)
      rw [hx] at hnx
      have hne : ((x.toNat : Int) == 65533) = false := beq_eq_false_iff_ne.2 (by omega)
      go_wp2
      go_roundg g
      case measure => omega
      case rel => exact ⟨i + 1, by omega, rfl⟩

end Go.AM
namespace Go.AM
open Go Go.Proofs Go.Shelf Go.RowKit Go.Lib
variable {P : Program} {ρ : Ren}

/-- the memory has grown, and what lay there lies as it lay -/
structure Ext (w w' : World) : Prop where
  grew : Grew w w'
  frame : ∀ B, B < w.heap.size → w'.heap[B]? = w.heap[B]?
theorem Ext.refl (w : World) : Ext w w := ⟨.refl w, fun _ _ => rfl⟩
theorem Ext.trans {a b c : World} (h : Ext a b) (k : Ext b c) : Ext a c := ⟨h.grew.trans k.grew, fun B hB => (k.frame B (Nat.lt_of_lt_of_le hB h.grew.size)).trans (h.frame B hB)⟩
theorem Ext.of_below {w w' : World} (h : Below w.heap.size w w') : Ext w w' := ⟨below_grew h, below_frame h⟩
theorem Ext.iter (w : World) (s : ByteArray) (p : Nat) : Ext w (w.iter s p) := .of_below ((Below.refl _ _).alloc (Nat.le_refl _) _)
theorem Ext.turn {w W : World} (h : Ext w W) {B : Nat} (hB : w.heap.size ≤ B) (o : Obj) : Ext w { W with heap := W.heap.setIfInBounds B o } :=
  ⟨⟨by simpa using h.grew.size, h.grew.os, h.grew.out⟩, fun C hC => by
    show (W.heap.setIfInBounds B o)[C]? = _
    rw [Array.getElem?_setIfInBounds_ne (by omega)]
    exact h.frame C hC⟩

/-- from a contract to a plain call -/
theorem cc_calls [GT P] {f : FuncId} {xs : List Value} {v : Value} (h : CC P f (rvals xs) [] (.r (.v v)) []) {w : World} (hG : GT.G P w) : Calls P f xs.toArray w fun e w' => e = .returned v ∧ Ext w w' := by
  have hlen : ∀ l : List Value, (rvals l).length = l.length := fun l => by induction l <;> simp [rvals, *]
  have hget : ∀ (l : List Value) (i : Nat), i < l.length → (rvals l).getD i .undef = .r (.v (l.getD i Go.undef)) := fun l => by
    induction l with
    | nil => intro i h; simp at h
    | cons x l ih =>
      intro i h
      cases i with
      | zero => rfl
      | succ i => simpa [rvals] using ih i (by simpa using h)
  obtain ⟨_, h⟩ := h
  refine (h { okb := fun _ => False, w0 := w, ent := fun _ => none } (fun _ => none) xs.toArray ⟨fun B hB => hB.elim, fun B hB => hB.elim⟩ ⟨w, hG, Nat.le_refl _, fun _ _ => rfl, fun B ⟨nm, h, e, _⟩ => by cases e⟩ (fun _ h => h) (fun nm h => by simp) ⟨fun nm ver b e => by simp [numB, zeroB, getB] at e, fun _ _ _ => rfl, fun _ h => h.elim, fun nm nm' v v' h h' B e => by simp at e, fun nm v h B e => by simp at e, .refl w, fun _ _ _ => rfl, fun nm h h0 e => by simp at e, fun nm h0 e => by simp at e⟩ (by rw [hlen]; simp) fun i hi => ?_).mono fun e w' ⟨v', env', he, hm, hr⟩ => ?_
  · rw [hlen] at hi
    rw [hget xs i hi]
    have : xs.toArray.getD i Go.undef = xs.getD i Go.undef := by simp [hi]
    rw [this]
    exact rep_v _
  · rw [rep_v_inv hr] at he
    exact ⟨he, hm.gr, fun B hB => hm.frame B hB fun ⟨nm, h, e, _⟩ => by cases e⟩

theorem run_next_at (W : World) (s : ByteArray) (B pos : Nat) (ty : TypeId) (hB : W.heap[B]? = some (.stringIter s pos)) (h : pos < s.size) :
    (Instr.next (.pointer (some ⟨B, 0, none⟩)) true ty).run P W =
      .ok (.tuple #[.bool true, .int .i64 pos, .int .i32 (Utf8.decode s pos).1]) { W with heap := W.heap.setIfInBounds B (.stringIter s (pos + (Utf8.decode s pos).2)) } := by
  simp [Instr.next, getObj, setObj, Sem.run, hB, h, goInt]
theorem run_next_end_at (W : World) (s : ByteArray) (B pos : Nat) (ty : TypeId) (hB : W.heap[B]? = some (.stringIter s pos)) (h : ¬ pos < s.size) :
    (Instr.next (.pointer (some ⟨B, 0, none⟩)) true ty).run P W = .ok (.tuple #[.bool false]) W := by
  simp [Instr.next, getObj, Sem.run, hB, h]

theorem noAny_skip {s chars : ByteArray} {i : Nat} (h : NoAny s.data.toList chars.data.toList i) (hi : i < s.size) (ha : 128 ≤ (s[i]'hi).toNat) (hascii : ∀ (j : Nat) b, chars.data.toList[j]? = some b → b.toNat < 128) :
    NoAny s.data.toList chars.data.toList (i + (Utf8.decode s i).2) := fun j b hj hb => by
  by_cases hji : j < i
  · exact h j b hji hb
  · obtain ⟨h1, h2⟩ := decode_skip s i hi ha
    have h3 := h2 j (by omega) hj
    have hjs : j < s.size := by omega
    have e : s.get! j = b := by
      have e1 := get_at s j hjs
      rw [Nat.add_zero] at e1
      rw [e1]
      have := Lib.data_getElem? s j hjs
      rw [this] at hb
      exact Option.some.inj hb
    rw [e] at h3
    cases hc : chars.data.toList.contains b
    · rfl
    · have hm : b ∈ chars.data.toList := by simpa using hc
      obtain ⟨k, hk, hkb⟩ := List.getElem_of_mem hm
      have := hascii k b (by simp [← hkb, hk])
      omega

theorem decode_valid (s : ByteArray) (i : Nat) : Lib.validRune ((Utf8.decode s i).1 : Int) = true := by
  have hb : ∀ k, (s.get! (i + k)).toNat < 256 := fun k => (s.get! (i + k)).toNat_lt
  have h0 := hb 0; have h1 := hb 1; have h2 := hb 2; have h3 := hb 3
  simp only [Utf8.decode, Lib.validRune, decide_eq_true_eq]
  repeat' split
  all_goals simp_all [Utf8.runeError, Utf8.valid]
  all_goals omega

set_option maxHeartbeats 8000000 in
set_option maxRecDepth 1000000 in
/-- s of at most 8 bytes, whatever they are; chars of two or more, all ASCII -/
theorem indexAny_shortU (L : Lays.n153 P ρ) (s chars : ByteArray) (w : World) (h2 : 2 ≤ chars.size) (h8 : s.size ≤ 8) (hascii : ∀ (j : Nat) b, chars.data.toList[j]? = some b → b.toNat < 128)
    (hIR : ∀ r W, Ext w W → 128 ≤ r → Lib.validRune r = true → Calls P (ρ.f 152) #[.string chars, .int .i32 r] W fun e w' => e = .returned (.int .i64 (-1)) ∧ Ext W w') :
    Calls P (ρ.f 153) #[.string s, .string chars] w fun e w' => e = .returned (.int .i64 (Lib.indexAny s.data.toList chars.data.toList)) ∧ Ext w w' := by
  have HA : Aside (∀ (j : Nat) b, chars.data.toList[j]? = some b → b.toNat < 128) := hascii
  have HI : Aside (∀ r W, Ext w W → 128 ≤ r → Lib.validRune r = true → Calls P (ρ.f 152) #[.string chars, .int .i32 r] W fun e w' => e = .returned (.int .i64 (-1)) ∧ Ext W w') := hIR
  clear hascii hIR
  have hemp : chars.toList.isEmpty = false := by
    rw [Lib.toList_data]
    cases h : chars.data.toList with
    | nil => have := Lib.size_eq chars; rw [h, List.length_nil] at this; omega
    | cons _ _ => rfl
  have hn1 : ((chars.size : Int) == 1) = false := beq_eq_false_iff_ne.2 (by omega)
  have h8z : decide ((8 : Int) < (s.size : Int)) = false := decide_eq_false (by omega)
  have t3 := L.t3; have a3 := L.a3; have z3 := L.z3; have v3 := L.v3
  have t4 := L.t4; have a4 := L.a4; have z4 := L.z4; have v4 := L.v4
  have t5 := L.t5; have a5 := L.a5; have z5 := L.z5; have v5 := L.v5
  have t9 := L.t9; have a9 := L.a9; have z9 := L.z9; have v9 := L.v9
  have t21 := L.t21; have a21 := L.a21; have z21 := L.z21; have v21 := L.v21
  have e152 : ∀ args w, (callFunc (ρ.f 152) args).run P w = .ok (.enter (ρ.f 152) args) w := enters_of L.f152 (by kernel_rfl) rfl
  have e226 : ∀ args w, (callFunc (ρ.f 226) args).run P w = .ok (.enter (ρ.f 226) args) w := enters_of L.f226 (by kernel_rfl) rfl
  go_enter L.f153, Body.n153_ntmps ρ
  go_wp2_with (go_at_fn (ρ.f 226); refine (Any.strings_shouldUseASCIISet { L with } _ _).mono ?_; rintro e w' ⟨rfl, hw⟩; rw [hw, h8z])
  go_loopg [9, 10] s.size (fun g _ _ wx => ∃ i : Nat, i + g = s.size ∧ wx.heap[w.heap.size]? = some (.stringIter s i) ∧ Ext w wx ∧ Lib.NoAny s.data.toList chars.data.toList i)
  case atStart => exact ⟨0, by omega, World.iter_heap _ _ _, .iter _ _ _, Lib.NoAny.zero _ _⟩
  case round =>
    obtain ⟨i, hig, hit, hext, hno⟩ := hrel
    have HN : Aside (Lib.NoAny s.data.toList chars.data.toList i) := hno
    have HE : Aside (Ext w wr) := hext
    have HT : Aside (wr.heap[w.heap.size]? = some (.stringIter s i)) := hit
    clear hno hext hit
    cases gk with
    | zero =>
      obtain rfl : i = s.size := by omega
      have hnx := fun ty => run_next_end_at (P := P) wr s w.heap.size s.size ty HT.out (Nat.lt_irrefl _)
      go_wp2
      go_ret
      exact ⟨by rw [Lib.indexAny_none (by rw [← Lib.size_eq]; exact HN.out)]; rfl, HE.out⟩
    | succ g =>
      have hi : i < s.size := by omega
      have hnx := fun ty => run_next_at (P := P) wr s w.heap.size i ty HT.out hi
      have hext' : Ext w { wr with heap := wr.heap.setIfInBounds w.heap.size (.stringIter s (i + (Utf8.decode s i).2)) } := HE.out.turn (Nat.le_refl _) _
      have hit' : ({ wr with heap := wr.heap.setIfInBounds w.heap.size (.stringIter s (i + (Utf8.decode s i).2)) } : World).heap[w.heap.size]? = some (.stringIter s (i + (Utf8.decode s i).2)) := by
        have hlt : w.heap.size < wr.heap.size := by
          by_cases hlt : w.heap.size < wr.heap.size
          · exact hlt
          · have hn : wr.heap[w.heap.size]? = none := by simp; omega
            have := HT.out
            rw [hn] at this; cases this
        simp [hlt]
      generalize hW : ({ wr with heap := wr.heap.setIfInBounds w.heap.size (.stringIter s (i + (Utf8.decode s i).2)) } : World) = W at hnx hext' hit'
      have HE' : Aside (Ext w W) := hext'
      have HT' : Aside (W.heap[w.heap.size]? = some (.stringIter s (i + (Utf8.decode s i).2))) := hit'
      clear hext' hit' hW
      obtain ⟨x, hx⟩ : ∃ x : UInt8, s[i]'hi = x := ⟨_, rfl⟩
      by_cases hx128 : x.toNat < 128
      · have hd : Utf8.decode s i = (x.toNat, 1) := by rw [decode_ascii s i hi (by rw [hx]; exact hx128), hx]
        have hxl : s.data.toList[i]? = some x := by rw [← hx]; exact Lib.data_getElem? s i hi
        simp only [hd] at hnx HT'
        have Hx : Aside (s.data.toList[i]? = some x) := hxl
        clear hxl hx
        have hcon := Lib.contains_iff_indexByte chars.data.toList x
        have hback : ((x.toNat : Int)).toNat.toUInt8 = x := by simp
        cases hin : chars.data.toList.contains x
        · rw [hin] at hcon
          have hlt : ¬ ((0 : Int) ≤ Lib.indexByte chars.data.toList x) := of_decide_eq_false hcon.symm
          clear hcon
          go_wp2_with (go_at_fn (ρ.f 152); refine (Any.strings_IndexRune_ascii { L with } _ _ _ (by omega) (by omega)).mono ?_; rintro e w' ⟨rfl, hw⟩; rw [hw, hback])
          go_roundg g
          case measure => omega
          case rel => exact ⟨i + 1, by omega, HT'.out, HE'.out, HN.out.succ Hx.out hin⟩
        · rw [hin] at hcon
          have hge : (0 : Int) ≤ Lib.indexByte chars.data.toList x := of_decide_eq_true hcon.symm
          clear hcon
          go_wp2_with (go_at_fn (ρ.f 152); refine (Any.strings_IndexRune_ascii { L with } _ _ _ (by omega) (by omega)).mono ?_; rintro e w' ⟨rfl, hw⟩; rw [hw, hback])
          go_ret
          exact ⟨by rw [Lib.indexAny_hit HN.out Hx.out hin]; rfl, HE'.out⟩
      · have hhi := decode_high s i hi (by rw [hx]; omega)
        have hsk := decode_skip s i hi (by rw [hx]; omega)
        have hvr := decode_valid s i
        have hno' : Lib.NoAny s.data.toList chars.data.toList (i + (Utf8.decode s i).2) := noAny_skip HN.out hi (by rw [hx]; omega) HA.out
        obtain ⟨r, wd, hd⟩ : ∃ r wd, Utf8.decode s i = (r, wd) := ⟨_, _, rfl⟩
        rw [hd] at hhi hsk hvr hno'
        simp only [hd] at hnx HT'
        have hle : i + wd ≤ s.size := hsk.1
        have h1w : 1 ≤ wd := hhi.2
        have h1r : 128 ≤ r := hhi.1
        have HV : Aside (Lib.validRune (r : Int) = true) := hvr
        have HM : Aside (Lib.NoAny s.data.toList chars.data.toList (i + wd)) := hno'
        clear hsk hhi hvr hno' hx hd
        have hIR := HI.out (r : Int) W HE'.out (by omega) HV.out
        go_wp2_with (go_at_fn (ρ.f 152); refine hIR.mono ?_; rintro e w' ⟨rfl, hw⟩)
        clear hIR
        go_roundg (s.size - (i + wd))
        case measure => omega
        case rel => exact ⟨i + wd, by omega, by rw [hw.frame _ (by
            have := HT'.out
            exact (Array.getElem?_eq_some_iff.1 this).1)]; exact HT'.out, HE'.out.trans hw, HM.out⟩

end Go.AM
namespace Go.AM
open Go Go.Proofs
set_option linter.unusedVariables false
noncomputable section
abbrev R33 : Type := Int
def res33 (r : R33) : AV := .r (.v (.int .i64 r))
def bo33 (r : R33) : List (Nat × Blk) := []
def f33 (k : Nat) (s_ : ByteArray) (c_ : Int) : Option R33 := bif (Nat.ble 0 s_.size) then some (Lib.indexByte s_.data.toList c_.toNat.toUInt8) else none
def args33 (s_ : ByteArray) (c_ : Int) : List AV := [.r (.v (.string s_)), .r (.v (.int .u8 c_))]
def v33 (k : Nat) (s_ : ByteArray) (c_ : Int) : R33 := (f33 k s_ c_).getD 0
theorem of33 (k : Nat) (s_ : ByteArray) (c_ : Int) (r : R33) (h : f33 k s_ c_ = some r) : CC Tryd.prog 33 (args33 s_ c_) [] (res33 r) (bo33 r) := by
  unfold f33 at h
  cases q : (Nat.ble 0 s_.size) <;> rw [q] at h
  · cases h
  · cases h
    refine cc_plain (xs := [.string s_, .int .u8 c_]) ⟨Tryd.f33, _, Tryd.func33, rfl, by kernel_rfl⟩ fun w hG => ?_
    refine (Tryd.strings_IndexByte s_ c_ w).mono fun e w' ⟨he, hw⟩ => ?_
    subst hw
    exact ⟨he, Grew.refl _, fun B hB => rfl⟩
theorem cc33 (k : Nat) (s_ : ByteArray) (c_ : Int) (h : (f33 k s_ c_).isSome = true) : CC Tryd.prog 33 (args33 s_ c_) [] (res33 (v33 k s_ c_)) (bo33 (v33 k s_ c_)) := by
  cases e : f33 k s_ c_ with
  | none => rw [e] at h; cases h
  | some r => rw [show v33 k s_ c_ = r by simp [v33, e]]; exact of33 k s_ c_ r e

end
end Go.AM
namespace Go.AM
open Go Go.Proofs
set_option linter.unusedVariables false
noncomputable section
/-! ### function 79: internal/bytealg.Cutover -/
def K79 (k : Nat) : Calld := ⟨fun g => match g with
  | _ => none, fun g xs _ => match g with
  | _ => none⟩
abbrev R79 : Type := Int
def res79 (r : R79) : AV := .r (.v (.int .i64 r))
def bo79 (r : R79) : List (Nat × Blk) := []
def f79 (k : Nat) (n_ : Int) : Option R79 :=
  if ((8 : Int) ≠ (0 : Int)) then
    some (IntKind.i64.wrap ((IntKind.i64.wrap (n_ + 16)).tdiv 8))
  else none
def args79 (n_ : Int) : List AV := [.r (.v (.int .i64 n_))]
def v79 (k : Nat) (n_ : Int) : R79 := (f79 k n_).getD 0
theorem of79 (k : Nat) (n_ : Int) (r : R79) (h : f79 k n_ = some r) : CC Tryd.prog 79 (args79 n_) [] (res79 r) (bo79 r) := by
  refine CC.of (fn := Tryd.f79) (by kernel_rfl) (by kernel_rfl) (by kernel_rfl) (by kernel_rfl) ?_
  unfold f79 at h
  refine Ev.tree hm (R := Rt) (K := (K79 k)) (l := []) (C := []) (E := [.auto [2] true]) (n := 1000) (T := .need [(8 : Int) ≠ (0 : Int)] (.leaf (res79 (IntKind.i64.wrap ((IntKind.i64.wrap (n_ + 16)).tdiv 8))) (bo79 (IntKind.i64.wrap ((IntKind.i64.wrap (n_ + 16)).tdiv 8))))) (by kernel_rfl) ?_
  by_cases q : ((8 : Int) ≠ (0 : Int))
  · rw [if_pos q] at h
    refine ⟨(conjC q conj0), ?_⟩
    cases h; exact ⟨rfl, rfl⟩
  · rw [if_neg q] at h; cases h
theorem cc79 (k : Nat) (n_ : Int) (h : (f79 k n_).isSome = true) : CC Tryd.prog 79 (args79 n_) [] (res79 (v79 k n_)) (bo79 (v79 k n_)) := by
  cases e : f79 k n_ with
  | none => rw [e] at h; cases h
  | some r => rw [show v79 k n_ = r by simp [v79, e]]; exact of79 k n_ r e

end
end Go.AM
namespace Go.AM
open Go Go.Proofs
set_option linter.unusedVariables false
noncomputable section
/-! ### function 86: unicode/utf8.ValidRune -/
def K86 (k : Nat) : Calld := ⟨fun g => match g with
  | _ => none, fun g xs _ => match g with
  | _ => none⟩
abbrev R86 : Type := Bool
def res86 (r : R86) : AV := .r (.v (.bool r))
def bo86 (r : R86) : List (Nat × Blk) := []
def f86 (k : Nat) (r_ : Int) : Option R86 :=
  bif (decide ((0 : Int) ≤ r_) && decide (r_ < (55296 : Int))) then
    some true
  else
    bif (decide ((57343 : Int) < r_) && decide (r_ ≤ (1114111 : Int))) then
      some true
    else
      some false
def args86 (r_ : Int) : List AV := [.r (.v (.int .i32 r_))]
def v86 (k : Nat) (r_ : Int) : R86 := (f86 k r_).getD false
theorem of86 (k : Nat) (r_ : Int) (r : R86) (h : f86 k r_ = some r) : CC Tryd.prog 86 (args86 r_) [] (res86 r) (bo86 r) := by
  refine CC.of (fn := Tryd.f86) (by kernel_rfl) (by kernel_rfl) (by kernel_rfl) (by kernel_rfl) ?_
  unfold f86 at h
  refine Ev.tree hm (R := Rt) (K := (K86 k)) (l := []) (C := []) (E := [.auto [2] true]) (n := 1000) (T := .test ((decide ((0 : Int) ≤ r_) && decide (r_ < (55296 : Int)))) (.leaf (res86 true) (bo86 true)) (.test ((decide ((57343 : Int) < r_) && decide (r_ ≤ (1114111 : Int)))) (.leaf (res86 true) (bo86 true)) (.leaf (res86 false) (bo86 false)))) (by kernel_rfl) ?_
  refine ⟨fun c => ?_, fun c => ?_⟩
  · rw [cond_t c] at h
    cases h; exact ⟨rfl, rfl⟩
  · rw [cond_f c] at h
    refine ⟨fun c => ?_, fun c => ?_⟩
    · rw [cond_t c] at h
      cases h; exact ⟨rfl, rfl⟩
    · rw [cond_f c] at h
      cases h; exact ⟨rfl, rfl⟩
theorem cc86 (k : Nat) (r_ : Int) (h : (f86 k r_).isSome = true) : CC Tryd.prog 86 (args86 r_) [] (res86 (v86 k r_)) (bo86 (v86 k r_)) := by
  cases e : f86 k r_ with
  | none => rw [e] at h; cases h
  | some r => rw [show v86 k r_ = r by simp [v86, e]]; exact of86 k r_ r e

end
end Go.AM
namespace Go.AM
open Go Go.Proofs
set_option linter.unusedVariables false
noncomputable section
/-! ### function 73: strings.IndexRune -/
def K73 (k : Nat) : Calld := ⟨fun g => match g with
  | 33 => some [false, false]
  | 79 => some [false]
  | 86 => some [false]
  | _ => none, fun g xs _ => match g with
  | 33 => match xs with
    | [.r (.v (.string s_)), .r (.v (.int .u8 c_))] => some (res33 (v33 k s_ c_), bo33 (v33 k s_ c_))
    | _ => none
  | 79 => match xs with
    | [.r (.v (.int .i64 n_))] => some (res79 (v79 k n_), bo79 (v79 k n_))
    | _ => none
  | 86 => match xs with
    | [.r (.v (.int .i32 r_))] => some (res86 (v86 k r_), bo86 (v86 k r_))
    | _ => none
  | _ => none⟩
abbrev R73 : Type := Int
def res73 (r : R73) : AV := .r (.v (.int .i64 r))
def bo73 (r : R73) : List (Nat × Blk) := []
def st73_5 (x0 : ByteArray) (x1 : Int) (x2 : ByteArray) (x3 : Int) (x4 : Int) (x5 : Int) : St := ⟨mkS 187 [(0, .r (.v (.string x0))), (1, .r (.v (.int .i32 x1))), (7, .r (.v (.string x2))), (8, .r (.v (.int .i64 x3))), (9, .r (.v (.int .i64 x4))), (10, .r (.v (.int .i64 x5)))], []⟩
def st73_12 (x0 : ByteArray) (x1 : Int) (x2 : ByteArray) (x3 : Int) (x4 : Int) (x5 : Int) (x6 : Int) : St := ⟨mkS 187 [(0, .r (.v (.string x0))), (1, .r (.v (.int .i32 x1))), (7, .r (.v (.string x2))), (8, .r (.v (.int .i64 x3))), (9, .r (.v (.int .i64 x4))), (10, .r (.v (.int .i64 x5))), (12, .r (.v (.int .i64 x6)))], []⟩
mutual
def f73_5 (k : Nat) : Nat → ByteArray → Int → ByteArray → Int → Int → Int → Option R73
  | 0, _, _, _, _, _, _ => none
  | j + 1, x0, x1, x2, x3, x4, x5 =>
    bif (decide (x4 < (↑x0.size : Int))) then
      if ((0 : Int) ≤ x4) ∧ (x4 < (↑x0.size : Int)) ∧ ((0 : Int) ≤ x3) ∧ (x3 < (↑x2.size : Int)) then
        bif (bAt x0 x4 != bAt x2 x3) then
          if ((0 : Int) ≤ IntKind.i64.wrap (x4 + (1 : Int))) ∧ (IntKind.i64.wrap (x4 + (1 : Int)) ≤ (↑x0.size : Int)) ∧ ((↑x0.size : Int) ≤ (↑x0.size : Int)) ∧ ((0 : Int) ≤ x3) ∧ (x3 < (↑x2.size : Int)) ∧ ((f33 k (x0.extract (IntKind.i64.wrap (x4 + 1)).toNat (↑x0.size : Int).toNat) (bAt x2 x3)).isSome = true) then
            bif (decide (v33 k (x0.extract (IntKind.i64.wrap (x4 + (1 : Int))).toNat (↑x0.size : Int).toNat) (bAt x2 x3) < (0 : Int))) then
              some (-1)
            else
              f73_12 k j x0 x1 x2 x3 ((IntKind.i64.wrap (x4 + IntKind.i64.wrap (v33 k (x0.extract (IntKind.i64.wrap (x4 + 1)).toNat (↑x0.size : Int).toNat) (bAt x2 x3) + 1)))) x5 1
          else none
        else
          f73_12 k j x0 x1 x2 x3 x4 x5 1
      else none
    else
      some (-1)
def f73_12 (k : Nat) : Nat → ByteArray → Int → ByteArray → Int → Int → Int → Int → Option R73
  | 0, _, _, _, _, _, _, _ => none
  | j + 1, x0, x1, x2, x3, x4, x5, x6 =>
    bif (decide (x6 < (↑x2.size : Int))) then
      if ((0 : Int) ≤ IntKind.i64.wrap (x4 - x6)) ∧ (IntKind.i64.wrap (x4 - x6) < (↑x0.size : Int)) ∧ ((0 : Int) ≤ IntKind.i64.wrap (x3 - x6)) ∧ (IntKind.i64.wrap (x3 - x6) < (↑x2.size : Int)) then
        bif (bAt x0 (IntKind.i64.wrap (x4 - x6)) != bAt x2 (IntKind.i64.wrap (x3 - x6))) then
          none
        else
          f73_12 k j x0 x1 x2 x3 x4 x5 ((IntKind.i64.wrap (x6 + 1)))
      else none
    else
      some (IntKind.i64.wrap (x4 - x3))
end
def f73 (k : Nat) (t_ : ByteArray) (o_ : Int) : Option R73 :=
  bif (decide ((0 : Int) ≤ o_) && decide (o_ < (128 : Int))) then
    if ((f33 k t_ (IntKind.u8.wrap o_)).isSome = true) then
      some (v33 k t_ (IntKind.u8.wrap o_))
    else none
  else
    bif (o_ == (65533 : Int)) then
      none
    else
      if ((f86 k o_).isSome = true) then
        bif (!v86 k o_) then
          some (-1)
        else
          f73_5 k k t_ o_ ((Utf8.encode o_)) ((IntKind.i64.wrap ((↑ (Utf8.encode o_).size : Int) - 1))) ((IntKind.i64.wrap ((↑ (Utf8.encode o_).size : Int) - 1))) 0
      else none
def args73 (t_ : ByteArray) (o_ : Int) : List AV := [.r (.v (.string t_)), .r (.v (.int .i32 o_))]
def v73 (k : Nat) (t_ : ByteArray) (o_ : Int) : R73 := (f73 k t_ o_).getD 0
theorem ev73 (k : Nat) : ∀ j, (∀ (x0 : ByteArray) (x1 : Int) (x2 : ByteArray) (x3 : Int) (x4 : Int) (x5 : Int) (r : R73), f73_5 k j x0 x1 x2 x3 x4 x5 = some r → Ev Tryd.prog Tryd.f73 0 (placeAt Tryd.f73 5) (st73_5 x0 x1 x2 x3 x4 x5) (res73 r) (bo73 r)) ∧ (∀ (x0 : ByteArray) (x1 : Int) (x2 : ByteArray) (x3 : Int) (x4 : Int) (x5 : Int) (x6 : Int) (r : R73), f73_12 k j x0 x1 x2 x3 x4 x5 x6 = some r → Ev Tryd.prog Tryd.f73 0 (placeAt Tryd.f73 12) (st73_12 x0 x1 x2 x3 x4 x5 x6) (res73 r) (bo73 r))
  | 0 => by
    refine ⟨?_, ?_⟩ <;> intros <;> rename_i h <;> simp [f73_5, f73_12] at h
  | j + 1 => by
    have ih := ev73 k j
    refine ⟨?_, ?_⟩
    · intro x0 x1 x2 x3 x4 x5 r h
      rw [f73_5] at h
      refine Ev.tree hm (R := Rt) (K := (K73 k)) (l := []) (C := [(5, [.auto [0, 1, 7, 8, 9, 10] false]), (12, [.auto [0, 1, 7, 8, 9, 10, 12] false]), (25, [.auto [0, 7, 8, 9, 14, 15] false]), (29, [.auto [0, 7, 8, 9, 14, 15, 16] false]), (38, [.auto [175] false])]) (E := [.auto [4] true]) (n := 1000) (T := .test ((decide (x4 < (↑x0.size : Int)))) (.need [(0 : Int) ≤ x4, x4 < (↑x0.size : Int), (0 : Int) ≤ x3, x3 < (↑x2.size : Int)] (.test ((bAt x0 x4 != bAt x2 x3)) (.need [(0 : Int) ≤ IntKind.i64.wrap (x4 + (1 : Int)), IntKind.i64.wrap (x4 + (1 : Int)) ≤ (↑x0.size : Int), (↑x0.size : Int) ≤ (↑x0.size : Int), (0 : Int) ≤ x3, x3 < (↑x2.size : Int), CC Tryd.prog 33 (args33 (x0.extract (IntKind.i64.wrap (x4 + 1)).toNat (↑x0.size : Int).toNat) (bAt x2 x3)) [] (res33 (v33 k (x0.extract (IntKind.i64.wrap (x4 + 1)).toNat (↑x0.size : Int).toNat) (bAt x2 x3))) (bo33 (v33 k (x0.extract (IntKind.i64.wrap (x4 + 1)).toNat (↑x0.size : Int).toNat) (bAt x2 x3)))] (.test ((decide (v33 k (x0.extract (IntKind.i64.wrap (x4 + (1 : Int))).toNat (↑x0.size : Int).toNat) (bAt x2 x3) < (0 : Int)))) (.leaf (res73 (-1)) (bo73 (-1))) (.cut 12 (placeAt Tryd.f73 12) (st73_12 x0 x1 x2 x3 ((IntKind.i64.wrap (x4 + IntKind.i64.wrap (v33 k (x0.extract (IntKind.i64.wrap (x4 + 1)).toNat (↑x0.size : Int).toNat) (bAt x2 x3) + 1)))) x5 1)))) (.cut 12 (placeAt Tryd.f73 12) (st73_12 x0 x1 x2 x3 x4 x5 1)))) (.leaf (res73 (-1)) (bo73 (-1)))) (by kernel_rfl) ?_
      refine ⟨fun c => ?_, fun c => ?_⟩
      · rw [cond_t c] at h
        by_cases q : ((0 : Int) ≤ x4) ∧ (x4 < (↑x0.size : Int)) ∧ ((0 : Int) ≤ x3) ∧ (x3 < (↑x2.size : Int))
        · rw [if_pos q] at h
          refine ⟨(conjC q.1 (conjC q.2.1 (conjC q.2.2.1 (conjC q.2.2.2 conj0)))), ?_⟩
          refine ⟨fun c => ?_, fun c => ?_⟩
          · rw [cond_t c] at h
            by_cases q : ((0 : Int) ≤ IntKind.i64.wrap (x4 + (1 : Int))) ∧ (IntKind.i64.wrap (x4 + (1 : Int)) ≤ (↑x0.size : Int)) ∧ ((↑x0.size : Int) ≤ (↑x0.size : Int)) ∧ ((0 : Int) ≤ x3) ∧ (x3 < (↑x2.size : Int)) ∧ ((f33 k (x0.extract (IntKind.i64.wrap (x4 + 1)).toNat (↑x0.size : Int).toNat) (bAt x2 x3)).isSome = true)
            · rw [if_pos q] at h
              refine ⟨(conjC q.1 (conjC q.2.1 (conjC q.2.2.1 (conjC q.2.2.2.1 (conjC q.2.2.2.2.1 (conjC (cc33 k (x0.extract (IntKind.i64.wrap (x4 + 1)).toNat (↑x0.size : Int).toNat) (bAt x2 x3) q.2.2.2.2.2) conj0)))))), ?_⟩
              refine ⟨fun c => ?_, fun c => ?_⟩
              · rw [cond_t c] at h
                cases h; exact ⟨rfl, rfl⟩
              · rw [cond_f c] at h
                exact ih.2 x0 x1 x2 x3 ((IntKind.i64.wrap (x4 + IntKind.i64.wrap (v33 k (x0.extract (IntKind.i64.wrap (x4 + 1)).toNat (↑x0.size : Int).toNat) (bAt x2 x3) + 1)))) x5 1 _ h
            · rw [if_neg q] at h; cases h
          · rw [cond_f c] at h
            exact ih.2 x0 x1 x2 x3 x4 x5 1 _ h
        · rw [if_neg q] at h; cases h
      · rw [cond_f c] at h
        cases h; exact ⟨rfl, rfl⟩
    · intro x0 x1 x2 x3 x4 x5 x6 r h
      rw [f73_12] at h
      refine Ev.tree hm (R := Rt) (K := (K73 k)) (l := []) (C := [(5, [.auto [0, 1, 7, 8, 9, 10] false]), (12, [.auto [0, 1, 7, 8, 9, 10, 12] false]), (25, [.auto [0, 7, 8, 9, 14, 15] false]), (29, [.auto [0, 7, 8, 9, 14, 15, 16] false]), (38, [.auto [175] false])]) (E := [.auto [4] true]) (n := 1000) (T := .test ((decide (x6 < (↑x2.size : Int)))) (.need [(0 : Int) ≤ IntKind.i64.wrap (x4 - x6), IntKind.i64.wrap (x4 - x6) < (↑x0.size : Int), (0 : Int) ≤ IntKind.i64.wrap (x3 - x6), IntKind.i64.wrap (x3 - x6) < (↑x2.size : Int)] (.test ((bAt x0 (IntKind.i64.wrap (x4 - x6)) != bAt x2 (IntKind.i64.wrap (x3 - x6)))) (.stuck 5) (.cut 12 (placeAt Tryd.f73 12) (st73_12 x0 x1 x2 x3 x4 x5 ((IntKind.i64.wrap (x6 + 1))))))) (.leaf (res73 (IntKind.i64.wrap (x4 - x3))) (bo73 (IntKind.i64.wrap (x4 - x3))))) (by kernel_rfl) ?_
      refine ⟨fun c => ?_, fun c => ?_⟩
      · rw [cond_t c] at h
        by_cases q : ((0 : Int) ≤ IntKind.i64.wrap (x4 - x6)) ∧ (IntKind.i64.wrap (x4 - x6) < (↑x0.size : Int)) ∧ ((0 : Int) ≤ IntKind.i64.wrap (x3 - x6)) ∧ (IntKind.i64.wrap (x3 - x6) < (↑x2.size : Int))
        · rw [if_pos q] at h
          refine ⟨(conjC q.1 (conjC q.2.1 (conjC q.2.2.1 (conjC q.2.2.2 conj0)))), ?_⟩
          refine ⟨fun c => ?_, fun c => ?_⟩
          · rw [cond_t c] at h
            cases h
          · rw [cond_f c] at h
            exact ih.2 x0 x1 x2 x3 x4 x5 ((IntKind.i64.wrap (x6 + 1))) _ h
        · rw [if_neg q] at h; cases h
      · rw [cond_f c] at h
        cases h; exact ⟨rfl, rfl⟩
theorem of73 (k : Nat) (t_ : ByteArray) (o_ : Int) (r : R73) (h : f73 k t_ o_ = some r) : CC Tryd.prog 73 (args73 t_ o_) [] (res73 r) (bo73 r) := by
  refine CC.of (fn := Tryd.f73) (by kernel_rfl) (by kernel_rfl) (by kernel_rfl) (by kernel_rfl) ?_
  unfold f73 at h
  refine Ev.tree hm (R := Rt) (K := (K73 k)) (l := []) (C := [(5, [.auto [0, 1, 7, 8, 9, 10] false]), (12, [.auto [0, 1, 7, 8, 9, 10, 12] false]), (25, [.auto [0, 7, 8, 9, 14, 15] false]), (29, [.auto [0, 7, 8, 9, 14, 15, 16] false]), (38, [.auto [175] false])]) (E := [.auto [4] true]) (n := 1000) (T := .test ((decide ((0 : Int) ≤ o_) && decide (o_ < (128 : Int)))) (.need [CC Tryd.prog 33 (args33 t_ (IntKind.u8.wrap o_)) [] (res33 (v33 k t_ (IntKind.u8.wrap o_))) (bo33 (v33 k t_ (IntKind.u8.wrap o_)))] (.leaf (res73 (v33 k t_ (IntKind.u8.wrap o_))) (bo73 (v33 k t_ (IntKind.u8.wrap o_))))) (.test ((o_ == (65533 : Int))) (.stuck 5001) (.need [CC Tryd.prog 86 (args86 o_) [] (res86 (v86 k o_)) (bo86 (v86 k o_))] (.test ((!v86 k o_)) (.leaf (res73 (-1)) (bo73 (-1))) (.cut 5 (placeAt Tryd.f73 5) (st73_5 t_ o_ ((Utf8.encode o_)) ((IntKind.i64.wrap ((↑ (Utf8.encode o_).size : Int) - 1))) ((IntKind.i64.wrap ((↑ (Utf8.encode o_).size : Int) - 1))) 0)))))) (by kernel_rfl) ?_
  refine ⟨fun c => ?_, fun c => ?_⟩
  · rw [cond_t c] at h
    by_cases q : ((f33 k t_ (IntKind.u8.wrap o_)).isSome = true)
    · rw [if_pos q] at h
      refine ⟨(conjC (cc33 k t_ (IntKind.u8.wrap o_) q) conj0), ?_⟩
      cases h; exact ⟨rfl, rfl⟩
    · rw [if_neg q] at h; cases h
  · rw [cond_f c] at h
    refine ⟨fun c => ?_, fun c => ?_⟩
    · rw [cond_t c] at h
      cases h
    · rw [cond_f c] at h
      by_cases q : ((f86 k o_).isSome = true)
      · rw [if_pos q] at h
        refine ⟨(conjC (cc86 k o_ q) conj0), ?_⟩
        refine ⟨fun c => ?_, fun c => ?_⟩
        · rw [cond_t c] at h
          cases h; exact ⟨rfl, rfl⟩
        · rw [cond_f c] at h
          exact (ev73 k k).1 t_ o_ ((Utf8.encode o_)) ((IntKind.i64.wrap ((↑ (Utf8.encode o_).size : Int) - 1))) ((IntKind.i64.wrap ((↑ (Utf8.encode o_).size : Int) - 1))) 0 _ h
      · rw [if_neg q] at h; cases h
theorem cc73 (k : Nat) (t_ : ByteArray) (o_ : Int) (h : (f73 k t_ o_).isSome = true) : CC Tryd.prog 73 (args73 t_ o_) [] (res73 (v73 k t_ o_)) (bo73 (v73 k t_ o_)) := by
  cases e : f73 k t_ o_ with
  | none => rw [e] at h; cases h
  | some r => rw [show v73 k t_ o_ = r by simp [v73, e]]; exact of73 k t_ o_ r e

end
end Go.AM
namespace Go.AM
open Go Go.Proofs Go.Shelf Go.RowKit Go.Lib

theorem indexByte_no (c : UInt8) (hc : 128 ≤ c.toNat) : ∀ l : List UInt8, (∀ b ∈ l, b.toNat < 128) → Lib.indexByte l c = -1
  | [], _ => rfl
  | b :: l, h => by
    have ih := indexByte_no c hc l fun x hx => h x (List.mem_cons_of_mem _ hx)
    have hb := h b List.mem_cons_self
    have hne : (b == c) = false := by
      cases e : b == c
      · rfl
      · have := beq_iff_eq.1 e; subst this; omega
    rw [Lib.indexByte, hne, ih]
    rfl

theorem f73_high (s : ByteArray) (r : Int) (hs : s.size ≤ 1000000000) (hascii : ∀ b ∈ s.data.toList, b.toNat < 128) (h0 : 128 ≤ r) (h1 : r ≠ 65533) (hv : Lib.validRune r = true) : f73 600 s r = some (-1) := by
  have hv0 := hv
  simp only [Lib.validRune, decide_eq_true_eq] at hv
  have hval : Utf8.valid r = true := by rw [validRune_eq]; exact hv0
  obtain ⟨hz2, hz4, hb⟩ := encode_facts r hval h0
  have e86 : f86 600 r = some true := by
    unfold f86
    by_cases h : r < 55296
    · rw [decide_eq_true (show (0 : Int) ≤ r by omega), decide_eq_true h]; rfl
    · rw [decide_eq_false h, Bool.and_false, cond_false, decide_eq_true (show (57343 : Int) < r by omega), decide_eq_true (show r ≤ 1114111 by omega)]; rfl
  have v86e : v86 600 r = true := by unfold v86; rw [e86]; rfl
  unfold f73
  rw [decide_eq_false (show ¬ r < 128 by omega), Bool.and_false, cond_false, show (r == 65533) = false from beq_eq_false_iff_ne.2 h1, cond_false, e86, v86e]
  generalize Utf8.encode r = rs at hz2 hz4 hb
  have hw : IntKind.i64.wrap ((rs.size : Int) - 1) = (rs.size : Int) - 1 := wrap_small _ (by omega) (by omega)
  rw [hw]
  show f73_5 600 600 s r rs ((rs.size : Int) - 1) ((rs.size : Int) - 1) 0 = some (-1)
  rw [f73_5]
  by_cases hlt : (rs.size : Int) - 1 < (s.size : Int)
  · rw [decide_eq_true hlt, cond_true, if_pos ⟨by omega, hlt, by omega, by omega⟩]
    have hx : 128 ≤ (rs.data.toList.getD (rs.size - 1) 0).toNat := by
      have := hb (by omega)
      have e : rs.data.toList[rs.size - 1]? = some (rs[rs.size - 1]'(by omega)) := Lib.data_getElem? rs (rs.size - 1) (by omega)
      rw [List.getD_eq_getElem?_getD, e]; exact this
    have ha : (s.data.toList.getD (rs.size - 1) 0).toNat < 128 := by
      rw [List.getD_eq_getElem?_getD]
      cases e : s.data.toList[rs.size - 1]? with
      | none => decide
      | some y => exact hascii y (List.mem_of_getElem? e)
    have hi : ((rs.size : Int) - 1).toNat = rs.size - 1 := by omega
    have hne : (bAt s ((rs.size : Int) - 1) != bAt rs ((rs.size : Int) - 1)) = true := by
      unfold bAt
      rw [hi]
      simp only [bne_iff_ne, ne_eq]
      omega
    rw [hne, cond_true]
    have hw2 : IntKind.i64.wrap ((rs.size : Int) - 1 + 1) = (rs.size : Int) := by rw [wrap_small _ (by omega) (by omega)]; omega
    rw [hw2]
    have e33 : ∀ (t : ByteArray), f33 600 t (bAt rs ((rs.size : Int) - 1)) = some (Lib.indexByte t.data.toList (bAt rs ((rs.size : Int) - 1)).toNat.toUInt8) := fun t => by
      unfold f33
      rw [show Nat.ble 0 t.size = true from Nat.ble_eq_true_of_le (Nat.zero_le _)]; rfl
    have hno : v33 600 (s.extract (rs.size : Int).toNat (s.size : Int).toNat) (bAt rs ((rs.size : Int) - 1)) = -1 := by
      unfold v33
      rw [e33]
      refine indexByte_no _ ?_ _ fun b hb' => hascii b (mem_extract hb')
      unfold bAt
      rw [hi]
      simpa using hx
    rw [e33, hno, if_pos ⟨by omega, by omega, by omega, by omega, by omega, rfl⟩]
    rfl
  · rw [decide_eq_false hlt]; rfl

variable {P : Program} {ρ : Ren}
set_option maxHeartbeats 1000000 in
theorem containsAny_of (L : Lays.n150 P ρ) (s chars : ByteArray) (w : World)
    (c : Calls P (ρ.f 153) #[.string s, .string chars] w fun e w' => e = .returned (.int .i64 (Lib.indexAny s.data.toList chars.data.toList)) ∧ Ext w w') :
    Calls P (ρ.f 150) #[.string s, .string chars] w fun e w' => e = .returned (.bool (Lib.containsAny s.data.toList chars.data.toList)) ∧ Ext w w' := by
  have t3 := L.t3; have a3 := L.a3; have z3 := L.z3; have v3 := L.v3
  have t4 := L.t4; have a4 := L.a4; have z4 := L.z4; have v4 := L.v4
  have t9 := L.t9; have a9 := L.a9; have z9 := L.z9; have v9 := L.v9
  have e153 : ∀ args w, (callFunc (ρ.f 153) args).run P w = .ok (.enter (ρ.f 153) args) w := enters_of L.f153 (by kernel_rfl) rfl
  go_enter L.f150, Body.n150_ntmps ρ
  go_wp2_with (go_at_fn (ρ.f 153); refine c.mono ?_; rintro e w' ⟨rfl, hw⟩)
  go_ret
  exact ⟨rfl, hw⟩

theorem containsAny_any (s chars : ByteArray) (w : World) (hG : GT.G Tryd.prog w) (hs : s.size < 4294967281) (hc2 : 2 ≤ chars.size) (hcs : chars.size ≤ 1000) (hac : ∀ (j : Nat) b, chars.data.toList[j]? = some b → b.toNat < 128) :
    Calls Tryd.prog 47 #[.string s, .string chars] w fun e w' => e = .returned (.bool (Lib.containsAny s.data.toList chars.data.toList)) ∧ Ext w w' := by
  refine containsAny_of Tryd.lays150 s chars w ?_
  by_cases h8 : s.size ≤ 8
  · refine indexAny_shortU Tryd.lays153 s chars w hc2 h8 hac fun r W hE h128 hv => ?_
    by_cases h : r = 65533
    · subst h
      exact (indexRune_err Tryd.lays152 chars W hac).mono fun e w' ⟨he, pos, hw⟩ => ⟨he, hw ▸ .iter _ _ _⟩
    · have h73 := of73 600 chars r (-1) (f73_high chars r (by omega) (fun b hb => by
        obtain ⟨j, hj, rfl⟩ := List.getElem_of_mem hb
        exact hac j _ (by simp [hj])) h128 h hv)
      exact cc_calls (xs := [.string chars, .int .i32 r]) h73 (GT.keep _ _ hE.frame hG)
  · exact (Tryd.strings_IndexAny_long (zero_of_info (n := 256) (t := 98) (P := Tryd.prog) (by kernel_rfl)).1 s chars w hc2 (by omega) hs (by omega) hac).mono fun e w' ⟨he, hw⟩ => ⟨he, by
      rw [hw]; exact .of_below (((Below.refl _ _).alloc (Nat.le_refl _) _).alloc (by simp) _)⟩

end Go.AM
namespace Go.AM
open Go Go.Proofs
set_option linter.unusedVariables false
noncomputable section
abbrev R47 : Type := Bool
def res47 (r : R47) : AV := .r (.v (.bool r))
def bo47 (r : R47) : List (Nat × Blk) := []
def f47 (k : Nat) (s_ : ByteArray) (c_ : ByteArray) : Option R47 := bif (Nat.ble s_.size 1000000000 && (Nat.ble 2 c_.size && (Nat.ble c_.size 1000 && asc c_))) then some (Lib.containsAny s_.data.toList c_.data.toList) else none
def args47 (s_ : ByteArray) (c_ : ByteArray) : List AV := [.r (.v (.string s_)), .r (.v (.string c_))]
def v47 (k : Nat) (s_ : ByteArray) (c_ : ByteArray) : R47 := (f47 k s_ c_).getD false
theorem of47 (k : Nat) (s_ : ByteArray) (c_ : ByteArray) (r : R47) (h : f47 k s_ c_ = some r) : CC Tryd.prog 47 (args47 s_ c_) [] (res47 r) (bo47 r) := by
  unfold f47 at h
  cases q : (Nat.ble s_.size 1000000000 && (Nat.ble 2 c_.size && (Nat.ble c_.size 1000 && asc c_))) <;> rw [q] at h
  · cases h
  · cases h
    simp only [Bool.and_eq_true, Nat.ble_eq] at q
    refine cc_plain (xs := [.string s_, .string c_]) ⟨Tryd.f47, _, Tryd.func47, rfl, by kernel_rfl⟩ fun w hG => ?_
    exact (containsAny_any s_ c_ w hG (by omega) (by omega) (by omega) (asc_at q.2.2.2)).mono fun e w' ⟨he, hw⟩ => ⟨he, hw.grew, hw.frame⟩
theorem cc47 (k : Nat) (s_ : ByteArray) (c_ : ByteArray) (h : (f47 k s_ c_).isSome = true) : CC Tryd.prog 47 (args47 s_ c_) [] (res47 (v47 k s_ c_)) (bo47 (v47 k s_ c_)) := by
  cases e : f47 k s_ c_ with
  | none => rw [e] at h; cases h
  | some r => rw [show v47 k s_ c_ = r by simp [v47, e]]; exact of47 k s_ c_ r e

end
end Go.AM
namespace Go.AM
open Go Go.Proofs
set_option linter.unusedVariables false
noncomputable section
/-! ### function 30: papermill/field.quoted -/
def K30 (k : Nat) : Calld := ⟨fun g => match g with
  | 47 => some [false, false]
  | _ => none, fun g xs _ => match g with
  | 47 => match xs with
    | [.r (.v (.string s_)), .r (.v (.string chars_))] => some (res47 (v47 k s_ chars_), bo47 (v47 k s_ chars_))
    | _ => none
  | _ => none⟩
abbrev R30 : Type := Bool
def res30 (r : R30) : AV := .r (.v (.bool r))
def bo30 (r : R30) : List (Nat × Blk) := []
def f30 (k : Nat) (s_ : ByteArray) : Option R30 :=
  bif (s_.toList == (ByteArray.mk #[]).toList) then
    if ((s_.toList == (ByteArray.mk #[]).toList) = true) then
      some true
    else none
  else
    if ((s_.toList == (ByteArray.mk #[]).toList) = false) ∧ ((f47 k s_ (ByteArray.mk #[32, 34, 92])).isSome = true) then
      some (false || v47 k s_ (ByteArray.mk #[32, 34, 92]))
    else none
def args30 (s_ : ByteArray) : List AV := [.r (.v (.string s_))]
def v30 (k : Nat) (s_ : ByteArray) : R30 := (f30 k s_).getD false
theorem of30 (k : Nat) (s_ : ByteArray) (r : R30) (h : f30 k s_ = some r) : CC Tryd.prog 30 (args30 s_) [] (res30 r) (bo30 r) := by
  refine CC.of (fn := Tryd.f30) (by kernel_rfl) (by kernel_rfl) (by kernel_rfl) (by kernel_rfl) ?_
  unfold f30 at h
  refine Ev.tree hm (R := Rt) (K := (K30 k)) (l := []) (C := []) (E := [.auto [2] true]) (n := 1000) (T := .test ((s_.toList == (ByteArray.mk #[]).toList)) (.need [(s_.toList == (ByteArray.mk #[]).toList) = true] (.leaf (res30 true) (bo30 true))) (.need [(s_.toList == (ByteArray.mk #[]).toList) = false, CC Tryd.prog 47 (args47 s_ (ByteArray.mk #[32, 34, 92])) [] (res47 (v47 k s_ (ByteArray.mk #[32, 34, 92]))) (bo47 (v47 k s_ (ByteArray.mk #[32, 34, 92])))] (.leaf (res30 (false || v47 k s_ (ByteArray.mk #[32, 34, 92]))) (bo30 (false || v47 k s_ (ByteArray.mk #[32, 34, 92])))))) (by kernel_rfl) ?_
  refine ⟨fun c => ?_, fun c => ?_⟩
  · rw [cond_t c] at h
    by_cases q : ((s_.toList == (ByteArray.mk #[]).toList) = true)
    · rw [if_pos q] at h
      refine ⟨(conjC q conj0), ?_⟩
      cases h; exact ⟨rfl, rfl⟩
    · rw [if_neg q] at h; cases h
  · rw [cond_f c] at h
    by_cases q : ((s_.toList == (ByteArray.mk #[]).toList) = false) ∧ ((f47 k s_ (ByteArray.mk #[32, 34, 92])).isSome = true)
    · rw [if_pos q] at h
      refine ⟨(conjC q.1 (conjC (cc47 k s_ (ByteArray.mk #[32, 34, 92]) q.2) conj0)), ?_⟩
      cases h; exact ⟨rfl, rfl⟩
    · rw [if_neg q] at h; cases h
theorem cc30 (k : Nat) (s_ : ByteArray) (h : (f30 k s_).isSome = true) : CC Tryd.prog 30 (args30 s_) [] (res30 (v30 k s_)) (bo30 (v30 k s_)) := by
  cases e : f30 k s_ with
  | none => rw [e] at h; cases h
  | some r => rw [show v30 k s_ = r by simp [v30, e]]; exact of30 k s_ r e

end
end Go.AM
namespace Go.AM
open Go Go.Proofs
set_option linter.unusedVariables false
noncomputable section
abbrev R31 : Type := ByteArray
def res31 (r : R31) : AV := .r (.v (.string r))
def bo31 (r : R31) : List (Nat × Blk) := []
def f31 (k : Nat) (s_ : ByteArray) (old_ : ByteArray) (new_ : ByteArray) : Option R31 := bif (Nat.ble s_.size 10000000 && (Nat.ble 1 old_.size && (Nat.ble old_.size 100 && Nat.ble new_.size 100))) then some (mkL (Lib.replaceAll s_.data.toList old_.data.toList new_.data.toList)) else none
def args31 (s_ : ByteArray) (old_ : ByteArray) (new_ : ByteArray) : List AV := [.r (.v (.string s_)), .r (.v (.string old_)), .r (.v (.string new_))]
def v31 (k : Nat) (s_ : ByteArray) (old_ : ByteArray) (new_ : ByteArray) : R31 := (f31 k s_ old_ new_).getD ByteArray.empty
theorem of31 (k : Nat) (s_ : ByteArray) (old_ : ByteArray) (new_ : ByteArray) (r : R31) (h : f31 k s_ old_ new_ = some r) : CC Tryd.prog 31 (args31 s_ old_ new_) [] (res31 r) (bo31 r) := by
  unfold f31 at h
  cases q : (Nat.ble s_.size 10000000 && (Nat.ble 1 old_.size && (Nat.ble old_.size 100 && Nat.ble new_.size 100))) <;> rw [q] at h
  · cases h
  · cases h
    simp only [Bool.and_eq_true, Nat.ble_eq] at q
    refine cc_plain (xs := [.string s_, .string old_, .string new_]) ⟨Tryd.f31, _, Tryd.func31, rfl, by kernel_rfl⟩ fun w hG => ?_
    obtain ⟨m, hm⟩ := hG
    have hc := Lib.countB_le old_ q.2.1 _ s_ (Nat.le_refl _)
    refine (Tryd.strings_ReplaceAll s_ old_ new_ m w (by omega) hm q.2.1 (by
      have := Nat.mul_le_mul hc q.2.2.2
      omega)).mono fun e w' ⟨he, hw⟩ => ?_
    exact ⟨he, below_grew hw, below_frame hw⟩
theorem cc31 (k : Nat) (s_ : ByteArray) (old_ : ByteArray) (new_ : ByteArray) (h : (f31 k s_ old_ new_).isSome = true) : CC Tryd.prog 31 (args31 s_ old_ new_) [] (res31 (v31 k s_ old_ new_)) (bo31 (v31 k s_ old_ new_)) := by
  cases e : f31 k s_ old_ new_ with
  | none => rw [e] at h; cases h
  | some r => rw [show v31 k s_ old_ new_ = r by simp [v31, e]]; exact of31 k s_ old_ new_ r e

end
end Go.AM
namespace Go.AM
open Go Go.Proofs
set_option linter.unusedVariables false
noncomputable section
/-! ### function 14: papermill/field.Join -/
def K14 (k : Nat) : Calld := ⟨fun g => match g with
  | 29 => some [false]
  | 30 => some [false]
  | 31 => some [false, false, false]
  | _ => none, fun g xs _ => match g with
  | 29 => match xs with
    | [.r (.v (.string s_))] => some (res29 (v29 k s_), bo29 (v29 k s_))
    | _ => none
  | 30 => match xs with
    | [.r (.v (.string s_))] => some (res30 (v30 k s_), bo30 (v30 k s_))
    | _ => none
  | 31 => match xs with
    | [.r (.v (.string s_)), .r (.v (.string old_)), .r (.v (.string new_))] => some (res31 (v31 k s_ old_ new_), bo31 (v31 k s_ old_ new_))
    | _ => none
  | _ => none⟩
abbrev R14 : Type := ByteArray × Int
def res14 (r : R14) : AV := .tup [.r (.v (.string r.1)), .r (.v (.int .i64 r.2))]
def bo14 (r : R14) : List (Nat × Blk) := []
def st14_2 (x0 : List (RTy.str).T) (x1 : List (RTy.str).T) (x2 : Int) (x3 : Int) : St := ⟨mkS 49 [(0, .r (.ro RTy.str x0)), (10, .r (.ro RTy.str x1)), (11, .r (.v (.int .i64 x2))), (12, .r (.v (.int .i64 x3)))], []⟩
def st14_10 (x0 : ByteArray) (x1 : List (RTy.str).T) (x2 : Int) (x3 : Int) : St := ⟨mkS 49 [(7, .r (.v (.string x0))), (22, .r (.ro RTy.str x1)), (23, .r (.v (.int .i64 x2))), (24, .r (.v (.int .i64 x3)))], []⟩
mutual
def f14_2 (k : Nat) : Nat → List (RTy.str).T → List (RTy.str).T → Int → Int → Option R14
  | 0, _, _, _, _ => none
  | j + 1, x0, x1, x2, x3 =>
    bif (decide (x3 < x2)) then
      if ((0 : Int) ≤ x3) ∧ (x3 < (↑x1.length : Int)) then
        if ((f29 k (x1.getD x3.toNat RTy.str.dflt)).isSome = true) then
          bif (v29 k (x1.getD x3.toNat RTy.str.dflt) != (0 : Int)) then
            some ((ByteArray.mk #[], v29 k (x1.getD x3.toNat RTy.str.dflt)))
          else
            f14_2 k j x0 x1 x2 ((IntKind.i64.wrap (x3 + 1)))
        else none
      else none
    else
      f14_10 k j ((ByteArray.mk #[])) x0 ((↑x0.length : Int)) 0
def f14_10 (k : Nat) : Nat → ByteArray → List (RTy.str).T → Int → Int → Option R14
  | 0, _, _, _, _ => none
  | j + 1, x0, x1, x2, x3 =>
    bif (decide (x3 < x2)) then
      if ((0 : Int) ≤ x3) ∧ (x3 < (↑x1.length : Int)) then
        if ((f30 k (x1.getD x3.toNat RTy.str.dflt)).isSome = true) then
          bif (v30 k (x1.getD x3.toNat RTy.str.dflt)) then
            if ((f31 k (x1.getD x3.toNat RTy.str.dflt) (ByteArray.mk #[92]) (ByteArray.mk #[92, 92])).isSome = true) then
              if ((f31 k (v31 k (x1.getD x3.toNat RTy.str.dflt) (ByteArray.mk #[92]) (ByteArray.mk #[92, 92])) (ByteArray.mk #[34]) (ByteArray.mk #[92, 34])).isSome = true) ∧ ((↑ ((ByteArray.mk #[(34 : UInt8)]).size + ByteArray.size (v31 k (v31 k (x1.getD x3.toNat RTy.str.dflt) (ByteArray.mk #[(92 : UInt8)]) (ByteArray.mk #[(92 : UInt8), (92 : UInt8)])) (ByteArray.mk #[(34 : UInt8)]) (ByteArray.mk #[(92 : UInt8), (34 : UInt8)]))) : Int) ≤ IntKind.i64.max) ∧ ((↑ (((ByteArray.mk #[(34 : UInt8)]) ++ v31 k (v31 k (x1.getD x3.toNat RTy.str.dflt) (ByteArray.mk #[(92 : UInt8)]) (ByteArray.mk #[(92 : UInt8), (92 : UInt8)])) (ByteArray.mk #[(34 : UInt8)]) (ByteArray.mk #[(92 : UInt8), (34 : UInt8)])).size + (ByteArray.mk #[(34 : UInt8)]).size) : Int) ≤ IntKind.i64.max) then
                bif (decide (x3 > (0 : Int))) then
                  if ((↑ (x0.size + (ByteArray.mk #[(32 : UInt8)]).size) : Int) ≤ IntKind.i64.max) then
                    if ((↑ ((x0 ++ (ByteArray.mk #[(32 : UInt8)])).size + ((ByteArray.mk #[(34 : UInt8)]) ++ v31 k (v31 k (x1.getD x3.toNat RTy.str.dflt) (ByteArray.mk #[(92 : UInt8)]) (ByteArray.mk #[(92 : UInt8), (92 : UInt8)])) (ByteArray.mk #[(34 : UInt8)]) (ByteArray.mk #[(92 : UInt8), (34 : UInt8)]) ++ (ByteArray.mk #[(34 : UInt8)])).size) : Int) ≤ IntKind.i64.max) then
                      bif (decide ((↑ (x0 ++ (ByteArray.mk #[(32 : UInt8)]) ++ ((ByteArray.mk #[(34 : UInt8)]) ++ v31 k (v31 k (x1.getD x3.toNat RTy.str.dflt) (ByteArray.mk #[(92 : UInt8)]) (ByteArray.mk #[(92 : UInt8), (92 : UInt8)])) (ByteArray.mk #[(34 : UInt8)]) (ByteArray.mk #[(92 : UInt8), (34 : UInt8)]) ++ (ByteArray.mk #[(34 : UInt8)]))).size : Int) > (1024 : Int))) then
                        some ((ByteArray.mk #[], 8))
                      else
                        f14_10 k j ((x0 ++ (ByteArray.mk #[32]) ++ ((ByteArray.mk #[34]) ++ v31 k (v31 k (x1.getD x3.toNat RTy.str.dflt) (ByteArray.mk #[92]) (ByteArray.mk #[92, 92])) (ByteArray.mk #[34]) (ByteArray.mk #[92, 34]) ++ (ByteArray.mk #[34])))) x1 x2 ((IntKind.i64.wrap (x3 + 1)))
                    else none
                  else none
                else
                  if ((↑ (x0.size + ((ByteArray.mk #[(34 : UInt8)]) ++ v31 k (v31 k (x1.getD x3.toNat RTy.str.dflt) (ByteArray.mk #[(92 : UInt8)]) (ByteArray.mk #[(92 : UInt8), (92 : UInt8)])) (ByteArray.mk #[(34 : UInt8)]) (ByteArray.mk #[(92 : UInt8), (34 : UInt8)]) ++ (ByteArray.mk #[(34 : UInt8)])).size) : Int) ≤ IntKind.i64.max) then
                    bif (decide ((↑ (x0 ++ ((ByteArray.mk #[(34 : UInt8)]) ++ v31 k (v31 k (x1.getD x3.toNat RTy.str.dflt) (ByteArray.mk #[(92 : UInt8)]) (ByteArray.mk #[(92 : UInt8), (92 : UInt8)])) (ByteArray.mk #[(34 : UInt8)]) (ByteArray.mk #[(92 : UInt8), (34 : UInt8)]) ++ (ByteArray.mk #[(34 : UInt8)]))).size : Int) > (1024 : Int))) then
                      some ((ByteArray.mk #[], 8))
                    else
                      f14_10 k j ((x0 ++ ((ByteArray.mk #[34]) ++ v31 k (v31 k (x1.getD x3.toNat RTy.str.dflt) (ByteArray.mk #[92]) (ByteArray.mk #[92, 92])) (ByteArray.mk #[34]) (ByteArray.mk #[92, 34]) ++ (ByteArray.mk #[34])))) x1 x2 ((IntKind.i64.wrap (x3 + 1)))
                  else none
              else none
            else none
          else
            bif (decide (x3 > (0 : Int))) then
              if ((↑ (x0.size + (ByteArray.mk #[(32 : UInt8)]).size) : Int) ≤ IntKind.i64.max) then
                if ((↑ ((x0 ++ (ByteArray.mk #[(32 : UInt8)])).size + ByteArray.size (x1.getD x3.toNat RTy.str.dflt)) : Int) ≤ IntKind.i64.max) then
                  bif (decide ((↑ (x0 ++ (ByteArray.mk #[(32 : UInt8)]) ++ x1.getD x3.toNat RTy.str.dflt).size : Int) > (1024 : Int))) then
                    some ((ByteArray.mk #[], 8))
                  else
                    f14_10 k j ((x0 ++ (ByteArray.mk #[32]) ++ x1.getD x3.toNat RTy.str.dflt)) x1 x2 ((IntKind.i64.wrap (x3 + 1)))
                else none
              else none
            else
              if ((↑ (x0.size + ByteArray.size (x1.getD x3.toNat RTy.str.dflt)) : Int) ≤ IntKind.i64.max) then
                bif (decide ((↑ (x0 ++ x1.getD x3.toNat RTy.str.dflt).size : Int) > (1024 : Int))) then
                  some ((ByteArray.mk #[], 8))
                else
                  f14_10 k j ((x0 ++ x1.getD x3.toNat RTy.str.dflt)) x1 x2 ((IntKind.i64.wrap (x3 + 1)))
              else none
        else none
      else none
    else
      some ((x0, 0))
end
def f14 (k : Nat) (fields_ : List (RTy.str).T) : Option R14 :=
  f14_2 k k fields_ fields_ ((↑fields_.length : Int)) 0
def args14 (fields_ : List (RTy.str).T) : List AV := [.r (.ro RTy.str fields_)]
def v14 (k : Nat) (fields_ : List (RTy.str).T) : R14 := (f14 k fields_).getD (ByteArray.empty, 0)
theorem ev14 (k : Nat) : ∀ j, (∀ (x0 : List (RTy.str).T) (x1 : List (RTy.str).T) (x2 : Int) (x3 : Int) (r : R14), f14_2 k j x0 x1 x2 x3 = some r → Ev Tryd.prog Tryd.f14 0 (placeAt Tryd.f14 2) (st14_2 x0 x1 x2 x3) (res14 r) (bo14 r)) ∧ (∀ (x0 : ByteArray) (x1 : List (RTy.str).T) (x2 : Int) (x3 : Int) (r : R14), f14_10 k j x0 x1 x2 x3 = some r → Ev Tryd.prog Tryd.f14 0 (placeAt Tryd.f14 10) (st14_10 x0 x1 x2 x3) (res14 r) (bo14 r))
  | 0 => by
    refine ⟨?_, ?_⟩ <;> intros <;> rename_i h <;> simp [f14_2, f14_10] at h
  | j + 1 => by
    have ih := ev14 k j
    refine ⟨?_, ?_⟩
    · intro x0 x1 x2 x3 r h
      rw [f14_2] at h
      refine Ev.tree hm (R := Rt) (K := (K14 k)) (l := []) (C := [(2, [.auto [0, 10, 11, 12] false]), (10, [.auto [7, 22, 23, 24] false])]) (E := [.auto [2, 3] true]) (n := 1000) (T := .test ((decide (x3 < x2))) (.need [(0 : Int) ≤ x3, x3 < (↑x1.length : Int)] (.need [CC Tryd.prog 29 (args29 (x1.getD x3.toNat RTy.str.dflt)) [] (res29 (v29 k (x1.getD x3.toNat RTy.str.dflt))) (bo29 (v29 k (x1.getD x3.toNat RTy.str.dflt)))] (.test ((v29 k (x1.getD x3.toNat RTy.str.dflt) != (0 : Int))) (.leaf (res14 ((ByteArray.mk #[], v29 k (x1.getD x3.toNat RTy.str.dflt)))) (bo14 ((ByteArray.mk #[], v29 k (x1.getD x3.toNat RTy.str.dflt))))) (.cut 2 (placeAt Tryd.f14 2) (st14_2 x0 x1 x2 ((IntKind.i64.wrap (x3 + 1)))))))) (.cut 10 (placeAt Tryd.f14 10) (st14_10 ((ByteArray.mk #[])) x0 ((↑x0.length : Int)) 0))) (by kernel_rfl) ?_
      refine ⟨fun c => ?_, fun c => ?_⟩
      · rw [cond_t c] at h
        by_cases q : ((0 : Int) ≤ x3) ∧ (x3 < (↑x1.length : Int))
        · rw [if_pos q] at h
          refine ⟨(conjC q.1 (conjC q.2 conj0)), ?_⟩
          by_cases q : ((f29 k (x1.getD x3.toNat RTy.str.dflt)).isSome = true)
          · rw [if_pos q] at h
            refine ⟨(conjC (cc29 k (x1.getD x3.toNat RTy.str.dflt) q) conj0), ?_⟩
            refine ⟨fun c => ?_, fun c => ?_⟩
            · rw [cond_t c] at h
              cases h; exact ⟨rfl, rfl⟩
            · rw [cond_f c] at h
              exact ih.1 x0 x1 x2 ((IntKind.i64.wrap (x3 + 1))) _ h
          · rw [if_neg q] at h; cases h
        · rw [if_neg q] at h; cases h
      · rw [cond_f c] at h
        exact ih.2 ((ByteArray.mk #[])) x0 ((↑x0.length : Int)) 0 _ h
    · intro x0 x1 x2 x3 r h
      rw [f14_10] at h
      refine Ev.tree hm (R := Rt) (K := (K14 k)) (l := []) (C := [(2, [.auto [0, 10, 11, 12] false]), (10, [.auto [7, 22, 23, 24] false])]) (E := [.auto [2, 3] true]) (n := 1000) (T := .test ((decide (x3 < x2))) (.need [(0 : Int) ≤ x3, x3 < (↑x1.length : Int)] (.need [CC Tryd.prog 30 (args30 (x1.getD x3.toNat RTy.str.dflt)) [] (res30 (v30 k (x1.getD x3.toNat RTy.str.dflt))) (bo30 (v30 k (x1.getD x3.toNat RTy.str.dflt)))] (.test ((v30 k (x1.getD x3.toNat RTy.str.dflt))) (.need [CC Tryd.prog 31 (args31 (x1.getD x3.toNat RTy.str.dflt) (ByteArray.mk #[92]) (ByteArray.mk #[92, 92])) [] (res31 (v31 k (x1.getD x3.toNat RTy.str.dflt) (ByteArray.mk #[92]) (ByteArray.mk #[92, 92]))) (bo31 (v31 k (x1.getD x3.toNat RTy.str.dflt) (ByteArray.mk #[92]) (ByteArray.mk #[92, 92])))] (.need [CC Tryd.prog 31 (args31 (v31 k (x1.getD x3.toNat RTy.str.dflt) (ByteArray.mk #[92]) (ByteArray.mk #[92, 92])) (ByteArray.mk #[34]) (ByteArray.mk #[92, 34])) [] (res31 (v31 k (v31 k (x1.getD x3.toNat RTy.str.dflt) (ByteArray.mk #[92]) (ByteArray.mk #[92, 92])) (ByteArray.mk #[34]) (ByteArray.mk #[92, 34]))) (bo31 (v31 k (v31 k (x1.getD x3.toNat RTy.str.dflt) (ByteArray.mk #[92]) (ByteArray.mk #[92, 92])) (ByteArray.mk #[34]) (ByteArray.mk #[92, 34]))), (↑ ((ByteArray.mk #[(34 : UInt8)]).size + ByteArray.size (v31 k (v31 k (x1.getD x3.toNat RTy.str.dflt) (ByteArray.mk #[(92 : UInt8)]) (ByteArray.mk #[(92 : UInt8), (92 : UInt8)])) (ByteArray.mk #[(34 : UInt8)]) (ByteArray.mk #[(92 : UInt8), (34 : UInt8)]))) : Int) ≤ IntKind.i64.max, (↑ (((ByteArray.mk #[(34 : UInt8)]) ++ v31 k (v31 k (x1.getD x3.toNat RTy.str.dflt) (ByteArray.mk #[(92 : UInt8)]) (ByteArray.mk #[(92 : UInt8), (92 : UInt8)])) (ByteArray.mk #[(34 : UInt8)]) (ByteArray.mk #[(92 : UInt8), (34 : UInt8)])).size + (ByteArray.mk #[(34 : UInt8)]).size) : Int) ≤ IntKind.i64.max] (.test ((decide (x3 > (0 : Int)))) (.need [(↑ (x0.size + (ByteArray.mk #[(32 : UInt8)]).size) : Int) ≤ IntKind.i64.max] (.need [(↑ ((x0 ++ (ByteArray.mk #[(32 : UInt8)])).size + ((ByteArray.mk #[(34 : UInt8)]) ++ v31 k (v31 k (x1.getD x3.toNat RTy.str.dflt) (ByteArray.mk #[(92 : UInt8)]) (ByteArray.mk #[(92 : UInt8), (92 : UInt8)])) (ByteArray.mk #[(34 : UInt8)]) (ByteArray.mk #[(92 : UInt8), (34 : UInt8)]) ++ (ByteArray.mk #[(34 : UInt8)])).size) : Int) ≤ IntKind.i64.max] (.test ((decide ((↑ (x0 ++ (ByteArray.mk #[(32 : UInt8)]) ++ ((ByteArray.mk #[(34 : UInt8)]) ++ v31 k (v31 k (x1.getD x3.toNat RTy.str.dflt) (ByteArray.mk #[(92 : UInt8)]) (ByteArray.mk #[(92 : UInt8), (92 : UInt8)])) (ByteArray.mk #[(34 : UInt8)]) (ByteArray.mk #[(92 : UInt8), (34 : UInt8)]) ++ (ByteArray.mk #[(34 : UInt8)]))).size : Int) > (1024 : Int)))) (.leaf (res14 ((ByteArray.mk #[], 8))) (bo14 ((ByteArray.mk #[], 8)))) (.cut 10 (placeAt Tryd.f14 10) (st14_10 ((x0 ++ (ByteArray.mk #[32]) ++ ((ByteArray.mk #[34]) ++ v31 k (v31 k (x1.getD x3.toNat RTy.str.dflt) (ByteArray.mk #[92]) (ByteArray.mk #[92, 92])) (ByteArray.mk #[34]) (ByteArray.mk #[92, 34]) ++ (ByteArray.mk #[34])))) x1 x2 ((IntKind.i64.wrap (x3 + 1)))))))) (.need [(↑ (x0.size + ((ByteArray.mk #[(34 : UInt8)]) ++ v31 k (v31 k (x1.getD x3.toNat RTy.str.dflt) (ByteArray.mk #[(92 : UInt8)]) (ByteArray.mk #[(92 : UInt8), (92 : UInt8)])) (ByteArray.mk #[(34 : UInt8)]) (ByteArray.mk #[(92 : UInt8), (34 : UInt8)]) ++ (ByteArray.mk #[(34 : UInt8)])).size) : Int) ≤ IntKind.i64.max] (.test ((decide ((↑ (x0 ++ ((ByteArray.mk #[(34 : UInt8)]) ++ v31 k (v31 k (x1.getD x3.toNat RTy.str.dflt) (ByteArray.mk #[(92 : UInt8)]) (ByteArray.mk #[(92 : UInt8), (92 : UInt8)])) (ByteArray.mk #[(34 : UInt8)]) (ByteArray.mk #[(92 : UInt8), (34 : UInt8)]) ++ (ByteArray.mk #[(34 : UInt8)]))).size : Int) > (1024 : Int)))) (.leaf (res14 ((ByteArray.mk #[], 8))) (bo14 ((ByteArray.mk #[], 8)))) (.cut 10 (placeAt Tryd.f14 10) (st14_10 ((x0 ++ ((ByteArray.mk #[34]) ++ v31 k (v31 k (x1.getD x3.toNat RTy.str.dflt) (ByteArray.mk #[92]) (ByteArray.mk #[92, 92])) (ByteArray.mk #[34]) (ByteArray.mk #[92, 34]) ++ (ByteArray.mk #[34])))) x1 x2 ((IntKind.i64.wrap (x3 + 1)))))))))) (.test ((decide (x3 > (0 : Int)))) (.need [(↑ (x0.size + (ByteArray.mk #[(32 : UInt8)]).size) : Int) ≤ IntKind.i64.max] (.need [(↑ ((x0 ++ (ByteArray.mk #[(32 : UInt8)])).size + ByteArray.size (x1.getD x3.toNat RTy.str.dflt)) : Int) ≤ IntKind.i64.max] (.test ((decide ((↑ (x0 ++ (ByteArray.mk #[(32 : UInt8)]) ++ x1.getD x3.toNat RTy.str.dflt).size : Int) > (1024 : Int)))) (.leaf (res14 ((ByteArray.mk #[], 8))) (bo14 ((ByteArray.mk #[], 8)))) (.cut 10 (placeAt Tryd.f14 10) (st14_10 ((x0 ++ (ByteArray.mk #[32]) ++ x1.getD x3.toNat RTy.str.dflt)) x1 x2 ((IntKind.i64.wrap (x3 + 1)))))))) (.need [(↑ (x0.size + ByteArray.size (x1.getD x3.toNat RTy.str.dflt)) : Int) ≤ IntKind.i64.max] (.test ((decide ((↑ (x0 ++ x1.getD x3.toNat RTy.str.dflt).size : Int) > (1024 : Int)))) (.leaf (res14 ((ByteArray.mk #[], 8))) (bo14 ((ByteArray.mk #[], 8)))) (.cut 10 (placeAt Tryd.f14 10) (st14_10 ((x0 ++ x1.getD x3.toNat RTy.str.dflt)) x1 x2 ((IntKind.i64.wrap (x3 + 1))))))))))) (.leaf (res14 ((x0, 0))) (bo14 ((x0, 0))))) (by kernel_rfl) ?_
      refine ⟨fun c => ?_, fun c => ?_⟩
      · rw [cond_t c] at h
        by_cases q : ((0 : Int) ≤ x3) ∧ (x3 < (↑x1.length : Int))
        · rw [if_pos q] at h
          refine ⟨(conjC q.1 (conjC q.2 conj0)), ?_⟩
          by_cases q : ((f30 k (x1.getD x3.toNat RTy.str.dflt)).isSome = true)
          · rw [if_pos q] at h
            refine ⟨(conjC (cc30 k (x1.getD x3.toNat RTy.str.dflt) q) conj0), ?_⟩
            refine ⟨fun c => ?_, fun c => ?_⟩
            · rw [cond_t c] at h
              by_cases q : ((f31 k (x1.getD x3.toNat RTy.str.dflt) (ByteArray.mk #[92]) (ByteArray.mk #[92, 92])).isSome = true)
              · rw [if_pos q] at h
                refine ⟨(conjC (cc31 k (x1.getD x3.toNat RTy.str.dflt) (ByteArray.mk #[92]) (ByteArray.mk #[92, 92]) q) conj0), ?_⟩
                by_cases q : ((f31 k (v31 k (x1.getD x3.toNat RTy.str.dflt) (ByteArray.mk #[92]) (ByteArray.mk #[92, 92])) (ByteArray.mk #[34]) (ByteArray.mk #[92, 34])).isSome = true) ∧ ((↑ ((ByteArray.mk #[(34 : UInt8)]).size + ByteArray.size (v31 k (v31 k (x1.getD x3.toNat RTy.str.dflt) (ByteArray.mk #[(92 : UInt8)]) (ByteArray.mk #[(92 : UInt8), (92 : UInt8)])) (ByteArray.mk #[(34 : UInt8)]) (ByteArray.mk #[(92 : UInt8), (34 : UInt8)]))) : Int) ≤ IntKind.i64.max) ∧ ((↑ (((ByteArray.mk #[(34 : UInt8)]) ++ v31 k (v31 k (x1.getD x3.toNat RTy.str.dflt) (ByteArray.mk #[(92 : UInt8)]) (ByteArray.mk #[(92 : UInt8), (92 : UInt8)])) (ByteArray.mk #[(34 : UInt8)]) (ByteArray.mk #[(92 : UInt8), (34 : UInt8)])).size + (ByteArray.mk #[(34 : UInt8)]).size) : Int) ≤ IntKind.i64.max)
                · rw [if_pos q] at h
                  refine ⟨(conjC (cc31 k (v31 k (x1.getD x3.toNat RTy.str.dflt) (ByteArray.mk #[92]) (ByteArray.mk #[92, 92])) (ByteArray.mk #[34]) (ByteArray.mk #[92, 34]) q.1) (conjC q.2.1 (conjC q.2.2 conj0))), ?_⟩
                  refine ⟨fun c => ?_, fun c => ?_⟩
                  · rw [cond_t c] at h
                    by_cases q : ((↑ (x0.size + (ByteArray.mk #[(32 : UInt8)]).size) : Int) ≤ IntKind.i64.max)
                    · rw [if_pos q] at h
                      refine ⟨(conjC q conj0), ?_⟩
                      by_cases q : ((↑ ((x0 ++ (ByteArray.mk #[(32 : UInt8)])).size + ((ByteArray.mk #[(34 : UInt8)]) ++ v31 k (v31 k (x1.getD x3.toNat RTy.str.dflt) (ByteArray.mk #[(92 : UInt8)]) (ByteArray.mk #[(92 : UInt8), (92 : UInt8)])) (ByteArray.mk #[(34 : UInt8)]) (ByteArray.mk #[(92 : UInt8), (34 : UInt8)]) ++ (ByteArray.mk #[(34 : UInt8)])).size) : Int) ≤ IntKind.i64.max)
                      · rw [if_pos q] at h
                        refine ⟨(conjC q conj0), ?_⟩
                        refine ⟨fun c => ?_, fun c => ?_⟩
                        · rw [cond_t c] at h
                          cases h; exact ⟨rfl, rfl⟩
                        · rw [cond_f c] at h
                          exact ih.2 ((x0 ++ (ByteArray.mk #[32]) ++ ((ByteArray.mk #[34]) ++ v31 k (v31 k (x1.getD x3.toNat RTy.str.dflt) (ByteArray.mk #[92]) (ByteArray.mk #[92, 92])) (ByteArray.mk #[34]) (ByteArray.mk #[92, 34]) ++ (ByteArray.mk #[34])))) x1 x2 ((IntKind.i64.wrap (x3 + 1))) _ h
                      · rw [if_neg q] at h; cases h
                    · rw [if_neg q] at h; cases h
                  · rw [cond_f c] at h
                    by_cases q : ((↑ (x0.size + ((ByteArray.mk #[(34 : UInt8)]) ++ v31 k (v31 k (x1.getD x3.toNat RTy.str.dflt) (ByteArray.mk #[(92 : UInt8)]) (ByteArray.mk #[(92 : UInt8), (92 : UInt8)])) (ByteArray.mk #[(34 : UInt8)]) (ByteArray.mk #[(92 : UInt8), (34 : UInt8)]) ++ (ByteArray.mk #[(34 : UInt8)])).size) : Int) ≤ IntKind.i64.max)
                    · rw [if_pos q] at h
                      refine ⟨(conjC q conj0), ?_⟩
                      refine ⟨fun c => ?_, fun c => ?_⟩
                      · rw [cond_t c] at h
                        cases h; exact ⟨rfl, rfl⟩
                      · rw [cond_f c] at h
                        exact ih.2 ((x0 ++ ((ByteArray.mk #[34]) ++ v31 k (v31 k (x1.getD x3.toNat RTy.str.dflt) (ByteArray.mk #[92]) (ByteArray.mk #[92, 92])) (ByteArray.mk #[34]) (ByteArray.mk #[92, 34]) ++ (ByteArray.mk #[34])))) x1 x2 ((IntKind.i64.wrap (x3 + 1))) _ h
                    · rw [if_neg q] at h; cases h
                · rw [if_neg q] at h; cases h
              · rw [if_neg q] at h; cases h
            · rw [cond_f c] at h
              refine ⟨fun c => ?_, fun c => ?_⟩
              · rw [cond_t c] at h
                by_cases q : ((↑ (x0.size + (ByteArray.mk #[(32 : UInt8)]).size) : Int) ≤ IntKind.i64.max)
                · rw [if_pos q] at h
                  refine ⟨(conjC q conj0), ?_⟩
                  by_cases q : ((↑ ((x0 ++ (ByteArray.mk #[(32 : UInt8)])).size + ByteArray.size (x1.getD x3.toNat RTy.str.dflt)) : Int) ≤ IntKind.i64.max)
                  · rw [if_pos q] at h
                    refine ⟨(conjC q conj0), ?_⟩
                    refine ⟨fun c => ?_, fun c => ?_⟩
                    · rw [cond_t c] at h
                      cases h; exact ⟨rfl, rfl⟩
                    · rw [cond_f c] at h
                      exact ih.2 ((x0 ++ (ByteArray.mk #[32]) ++ x1.getD x3.toNat RTy.str.dflt)) x1 x2 ((IntKind.i64.wrap (x3 + 1))) _ h
                  · rw [if_neg q] at h; cases h
                · rw [if_neg q] at h; cases h
              · rw [cond_f c] at h
                by_cases q : ((↑ (x0.size + ByteArray.size (x1.getD x3.toNat RTy.str.dflt)) : Int) ≤ IntKind.i64.max)
                · rw [if_pos q] at h
                  refine ⟨(conjC q conj0), ?_⟩
                  refine ⟨fun c => ?_, fun c => ?_⟩
                  · rw [cond_t c] at h
                    cases h; exact ⟨rfl, rfl⟩
                  · rw [cond_f c] at h
                    exact ih.2 ((x0 ++ x1.getD x3.toNat RTy.str.dflt)) x1 x2 ((IntKind.i64.wrap (x3 + 1))) _ h
                · rw [if_neg q] at h; cases h
          · rw [if_neg q] at h; cases h
        · rw [if_neg q] at h; cases h
      · rw [cond_f c] at h
        cases h; exact ⟨rfl, rfl⟩
theorem of14 (k : Nat) (fields_ : List (RTy.str).T) (r : R14) (h : f14 k fields_ = some r) : CC Tryd.prog 14 (args14 fields_) [] (res14 r) (bo14 r) := by
  refine CC.of (fn := Tryd.f14) (by kernel_rfl) (by kernel_rfl) (by kernel_rfl) (by kernel_rfl) ?_
  unfold f14 at h
  refine Ev.tree hm (R := Rt) (K := (K14 k)) (l := []) (C := [(2, [.auto [0, 10, 11, 12] false]), (10, [.auto [7, 22, 23, 24] false])]) (E := [.auto [2, 3] true]) (n := 1000) (T := .cut 2 (placeAt Tryd.f14 2) (st14_2 fields_ fields_ ((↑fields_.length : Int)) 0)) (by kernel_rfl) ?_
  exact (ev14 k k).1 fields_ fields_ ((↑fields_.length : Int)) 0 _ h
theorem cc14 (k : Nat) (fields_ : List (RTy.str).T) (h : (f14 k fields_).isSome = true) : CC Tryd.prog 14 (args14 fields_) [] (res14 (v14 k fields_)) (bo14 (v14 k fields_)) := by
  cases e : f14 k fields_ with
  | none => rw [e] at h; cases h
  | some r => rw [show v14 k fields_ = r by simp [v14, e]]; exact of14 k fields_ r e

end
end Go.AM
namespace Go.AM
open Go Go.Proofs
set_option linter.unusedVariables false
noncomputable section
/-! ### function 40: internal/stringslite.HasPrefix -/
def K40 (k : Nat) : Calld := ⟨fun g => match g with
  | _ => none, fun g xs _ => match g with
  | _ => none⟩
abbrev R40 : Type := Bool
def res40 (r : R40) : AV := .r (.v (.bool r))
def bo40 (r : R40) : List (Nat × Blk) := []
def f40 (k : Nat) (s_ : ByteArray) (prefix_ : ByteArray) : Option R40 :=
  if (decide ((↑s_.size : Int) ≥ (↑prefix_.size : Int)) = true → (0 : Int) ≤ (0 : Int)) ∧ (decide ((↑s_.size : Int) ≥ (↑prefix_.size : Int)) = true → (0 : Int) ≤ (↑prefix_.size : Int)) ∧ (decide ((↑s_.size : Int) ≥ (↑prefix_.size : Int)) = true → (↑prefix_.size : Int) ≤ (↑s_.size : Int)) then
    some (decide ((↑s_.size : Int) ≥ (↑prefix_.size : Int)) && (s_.extract (Int.toNat 0) (↑prefix_.size : Int).toNat).toList == prefix_.toList)
  else none
def args40 (s_ : ByteArray) (prefix_ : ByteArray) : List AV := [.r (.v (.string s_)), .r (.v (.string prefix_))]
def v40 (k : Nat) (s_ : ByteArray) (prefix_ : ByteArray) : R40 := (f40 k s_ prefix_).getD false
theorem of40 (k : Nat) (s_ : ByteArray) (prefix_ : ByteArray) (r : R40) (h : f40 k s_ prefix_ = some r) : CC Tryd.prog 40 (args40 s_ prefix_) [] (res40 r) (bo40 r) := by
  refine CC.of (fn := Tryd.f40) (by kernel_rfl) (by kernel_rfl) (by kernel_rfl) (by kernel_rfl) ?_
  unfold f40 at h
  refine Ev.tree hm (R := Rt) (K := (K40 k)) (l := []) (C := []) (E := [.auto [4] true]) (n := 1000) (T := .need [decide ((↑s_.size : Int) ≥ (↑prefix_.size : Int)) = true → (0 : Int) ≤ (0 : Int), decide ((↑s_.size : Int) ≥ (↑prefix_.size : Int)) = true → (0 : Int) ≤ (↑prefix_.size : Int), decide ((↑s_.size : Int) ≥ (↑prefix_.size : Int)) = true → (↑prefix_.size : Int) ≤ (↑s_.size : Int)] (.leaf (res40 (decide ((↑s_.size : Int) ≥ (↑prefix_.size : Int)) && (s_.extract (Int.toNat 0) (↑prefix_.size : Int).toNat).toList == prefix_.toList)) (bo40 (decide ((↑s_.size : Int) ≥ (↑prefix_.size : Int)) && (s_.extract (Int.toNat 0) (↑prefix_.size : Int).toNat).toList == prefix_.toList)))) (by kernel_rfl) ?_
  by_cases q : (decide ((↑s_.size : Int) ≥ (↑prefix_.size : Int)) = true → (0 : Int) ≤ (0 : Int)) ∧ (decide ((↑s_.size : Int) ≥ (↑prefix_.size : Int)) = true → (0 : Int) ≤ (↑prefix_.size : Int)) ∧ (decide ((↑s_.size : Int) ≥ (↑prefix_.size : Int)) = true → (↑prefix_.size : Int) ≤ (↑s_.size : Int))
  · rw [if_pos q] at h
    refine ⟨(conjC q.1 (conjC q.2.1 (conjC q.2.2 conj0))), ?_⟩
    cases h; exact ⟨rfl, rfl⟩
  · rw [if_neg q] at h; cases h
theorem cc40 (k : Nat) (s_ : ByteArray) (prefix_ : ByteArray) (h : (f40 k s_ prefix_).isSome = true) : CC Tryd.prog 40 (args40 s_ prefix_) [] (res40 (v40 k s_ prefix_)) (bo40 (v40 k s_ prefix_)) := by
  cases e : f40 k s_ prefix_ with
  | none => rw [e] at h; cases h
  | some r => rw [show v40 k s_ prefix_ = r by simp [v40, e]]; exact of40 k s_ prefix_ r e

end
end Go.AM
namespace Go.AM
open Go Go.Proofs
set_option linter.unusedVariables false
noncomputable section
/-! ### function 26: strings.HasPrefix -/
def K26 (k : Nat) : Calld := ⟨fun g => match g with
  | 40 => some [false, false]
  | _ => none, fun g xs _ => match g with
  | 40 => match xs with
    | [.r (.v (.string s_)), .r (.v (.string prefix_))] => some (res40 (v40 k s_ prefix_), bo40 (v40 k s_ prefix_))
    | _ => none
  | _ => none⟩
abbrev R26 : Type := Bool
def res26 (r : R26) : AV := .r (.v (.bool r))
def bo26 (r : R26) : List (Nat × Blk) := []
def f26 (k : Nat) (s_ : ByteArray) (prefix_ : ByteArray) : Option R26 :=
  if ((f40 k s_ prefix_).isSome = true) then
    some (v40 k s_ prefix_)
  else none
def args26 (s_ : ByteArray) (prefix_ : ByteArray) : List AV := [.r (.v (.string s_)), .r (.v (.string prefix_))]
def v26 (k : Nat) (s_ : ByteArray) (prefix_ : ByteArray) : R26 := (f26 k s_ prefix_).getD false
theorem of26 (k : Nat) (s_ : ByteArray) (prefix_ : ByteArray) (r : R26) (h : f26 k s_ prefix_ = some r) : CC Tryd.prog 26 (args26 s_ prefix_) [] (res26 r) (bo26 r) := by
  refine CC.of (fn := Tryd.f26) (by kernel_rfl) (by kernel_rfl) (by kernel_rfl) (by kernel_rfl) ?_
  unfold f26 at h
  refine Ev.tree hm (R := Rt) (K := (K26 k)) (l := []) (C := []) (E := [.auto [4] true]) (n := 1000) (T := .need [CC Tryd.prog 40 (args40 s_ prefix_) [] (res40 (v40 k s_ prefix_)) (bo40 (v40 k s_ prefix_))] (.leaf (res26 (v40 k s_ prefix_)) (bo26 (v40 k s_ prefix_)))) (by kernel_rfl) ?_
  by_cases q : ((f40 k s_ prefix_).isSome = true)
  · rw [if_pos q] at h
    refine ⟨(conjC (cc40 k s_ prefix_ q) conj0), ?_⟩
    cases h; exact ⟨rfl, rfl⟩
  · rw [if_neg q] at h; cases h
theorem cc26 (k : Nat) (s_ : ByteArray) (prefix_ : ByteArray) (h : (f26 k s_ prefix_).isSome = true) : CC Tryd.prog 26 (args26 s_ prefix_) [] (res26 (v26 k s_ prefix_)) (bo26 (v26 k s_ prefix_)) := by
  cases e : f26 k s_ prefix_ with
  | none => rw [e] at h; cases h
  | some r => rw [show v26 k s_ prefix_ = r by simp [v26, e]]; exact of26 k s_ prefix_ r e

end
end Go.AM
namespace Go.AM
open Go Go.Proofs
set_option linter.unusedVariables false
noncomputable section
/-! ### function 34: papermill/field.unquote -/
def K34 (k : Nat) : Calld := ⟨fun g => match g with
  | _ => none, fun g xs _ => match g with
  | _ => none⟩
abbrev R34 : Type := ByteArray × Int
def res34 (r : R34) : AV := .tup [.r (.v (.string r.1)), .r (.v (.int .i64 r.2))]
def bo34 (r : R34) : List (Nat × Blk) := []
def st34_3 (x0 : ByteArray) (x1 : Int) (x2 : List (RTy.int IntKind.u8).T) : St := ⟨mkS 53 [(0, .r (.v (.string x0))), (4, .own 1000000 0), (5, .r (.v (.int .i64 x1)))], [(1000000, 0, .row 5 ((RTy.int IntKind.u8)) x2)]⟩
def f34_3 (k : Nat) : Nat → ByteArray → Int → List (RTy.int IntKind.u8).T → Option R34
  | 0, _, _, _ => none
  | j + 1, x0, x1, x2 =>
    bif (decide (x1 < (↑x0.size : Int))) then
      if ((0 : Int) ≤ x1) ∧ (x1 < (↑x0.size : Int)) then
        bif (bAt x0 x1 == (34 : Int)) then
          some ((bytesOf8 x2, IntKind.i64.wrap (x1 + 1)))
        else
          bif (bAt x0 x1 == (92 : Int)) then
            if ((IntKind.i64.wrap (x1 + (1 : Int)) == (↑x0.size : Int)) = false → (0 : Int) ≤ IntKind.i64.wrap (x1 + (1 : Int))) ∧ ((IntKind.i64.wrap (x1 + (1 : Int)) == (↑x0.size : Int)) = false → IntKind.i64.wrap (x1 + (1 : Int)) < (↑x0.size : Int)) ∧ ((IntKind.i64.wrap (x1 + (1 : Int)) == (↑x0.size : Int)) = false → (bAt x0 (IntKind.i64.wrap (x1 + (1 : Int))) != (34 : Int)) = true → (0 : Int) ≤ IntKind.i64.wrap (x1 + (1 : Int))) ∧ ((IntKind.i64.wrap (x1 + (1 : Int)) == (↑x0.size : Int)) = false → (bAt x0 (IntKind.i64.wrap (x1 + (1 : Int))) != (34 : Int)) = true → IntKind.i64.wrap (x1 + (1 : Int)) < (↑x0.size : Int)) then
              bif (IntKind.i64.wrap (x1 + (1 : Int)) == (↑x0.size : Int) || bAt x0 (IntKind.i64.wrap (x1 + (1 : Int))) != (34 : Int) && bAt x0 (IntKind.i64.wrap (x1 + (1 : Int))) != (92 : Int)) then
                some ((ByteArray.mk #[], 0))
              else
                if ((0 : Int) ≤ IntKind.i64.wrap (x1 + (1 : Int))) ∧ (IntKind.i64.wrap (x1 + (1 : Int)) < (↑x0.size : Int)) ∧ ((x2.length + [bAt x0 (IntKind.i64.wrap (x1 + (1 : Int)))].length) * (1 : Nat) ≤ (140737488355328 : Nat)) then
                  f34_3 k j x0 ((IntKind.i64.wrap (IntKind.i64.wrap (x1 + 1) + 1))) ((x2 ++ [bAt x0 (IntKind.i64.wrap (x1 + 1))]))
                else none
            else none
          else
            if ((x2.length + [bAt x0 x1].length) * (1 : Nat) ≤ (140737488355328 : Nat)) then
              f34_3 k j x0 ((IntKind.i64.wrap (x1 + 1))) ((x2 ++ [bAt x0 x1]))
            else none
      else none
    else
      some ((ByteArray.mk #[], 0))
def f34 (k : Nat) (s_ : ByteArray) : Option R34 :=
  f34_3 k k s_ 1 ([])
def args34 (s_ : ByteArray) : List AV := [.r (.v (.string s_))]
def v34 (k : Nat) (s_ : ByteArray) : R34 := (f34 k s_).getD (ByteArray.empty, 0)
theorem ev34 (k : Nat) : ∀ j, (∀ (x0 : ByteArray) (x1 : Int) (x2 : List (RTy.int IntKind.u8).T) (r : R34), f34_3 k j x0 x1 x2 = some r → Ev Tryd.prog Tryd.f34 0 (placeAt Tryd.f34 3) (st34_3 x0 x1 x2) (res34 r) (bo34 r))
  | 0 => by
    intros; rename_i h; simp [f34_3] at h
  | j + 1 => by
    have ih := ev34 k j
    · intro x0 x1 x2 r h
      rw [f34_3] at h
      refine Ev.tree hm (R := Rt) (K := (K34 k)) (l := []) (C := [(3, [.row 4 5 (((RTy.int IntKind.u8))), .auto [0, 4, 5] false])]) (E := [.auto [2, 3] true]) (n := 1000) (T := .test ((decide (x1 < (↑x0.size : Int)))) (.need [(0 : Int) ≤ x1, x1 < (↑x0.size : Int)] (.test ((bAt x0 x1 == (34 : Int))) (.leaf (res34 ((bytesOf8 x2, IntKind.i64.wrap (x1 + 1)))) (bo34 ((bytesOf8 x2, IntKind.i64.wrap (x1 + 1))))) (.test ((bAt x0 x1 == (92 : Int))) (.need [(IntKind.i64.wrap (x1 + (1 : Int)) == (↑x0.size : Int)) = false → (0 : Int) ≤ IntKind.i64.wrap (x1 + (1 : Int)), (IntKind.i64.wrap (x1 + (1 : Int)) == (↑x0.size : Int)) = false → IntKind.i64.wrap (x1 + (1 : Int)) < (↑x0.size : Int), (IntKind.i64.wrap (x1 + (1 : Int)) == (↑x0.size : Int)) = false → (bAt x0 (IntKind.i64.wrap (x1 + (1 : Int))) != (34 : Int)) = true → (0 : Int) ≤ IntKind.i64.wrap (x1 + (1 : Int)), (IntKind.i64.wrap (x1 + (1 : Int)) == (↑x0.size : Int)) = false → (bAt x0 (IntKind.i64.wrap (x1 + (1 : Int))) != (34 : Int)) = true → IntKind.i64.wrap (x1 + (1 : Int)) < (↑x0.size : Int)] (.test ((IntKind.i64.wrap (x1 + (1 : Int)) == (↑x0.size : Int) || bAt x0 (IntKind.i64.wrap (x1 + (1 : Int))) != (34 : Int) && bAt x0 (IntKind.i64.wrap (x1 + (1 : Int))) != (92 : Int))) (.leaf (res34 ((ByteArray.mk #[], 0))) (bo34 ((ByteArray.mk #[], 0)))) (.need [(0 : Int) ≤ IntKind.i64.wrap (x1 + (1 : Int)), IntKind.i64.wrap (x1 + (1 : Int)) < (↑x0.size : Int), (x2.length + [bAt x0 (IntKind.i64.wrap (x1 + (1 : Int)))].length) * (1 : Nat) ≤ (140737488355328 : Nat)] (.cut 3 (placeAt Tryd.f34 3) (st34_3 x0 ((IntKind.i64.wrap (IntKind.i64.wrap (x1 + 1) + 1))) ((x2 ++ [bAt x0 (IntKind.i64.wrap (x1 + 1))]))))))) (.need [(x2.length + [bAt x0 x1].length) * (1 : Nat) ≤ (140737488355328 : Nat)] (.cut 3 (placeAt Tryd.f34 3) (st34_3 x0 ((IntKind.i64.wrap (x1 + 1))) ((x2 ++ [bAt x0 x1])))))))) (.leaf (res34 ((ByteArray.mk #[], 0))) (bo34 ((ByteArray.mk #[], 0))))) (by kernel_rfl) ?_
      refine ⟨fun c => ?_, fun c => ?_⟩
      · rw [cond_t c] at h
        by_cases q : ((0 : Int) ≤ x1) ∧ (x1 < (↑x0.size : Int))
        · rw [if_pos q] at h
          refine ⟨(conjC q.1 (conjC q.2 conj0)), ?_⟩
          refine ⟨fun c => ?_, fun c => ?_⟩
          · rw [cond_t c] at h
            cases h; exact ⟨rfl, rfl⟩
          · rw [cond_f c] at h
            refine ⟨fun c => ?_, fun c => ?_⟩
            · rw [cond_t c] at h
              by_cases q : ((IntKind.i64.wrap (x1 + (1 : Int)) == (↑x0.size : Int)) = false → (0 : Int) ≤ IntKind.i64.wrap (x1 + (1 : Int))) ∧ ((IntKind.i64.wrap (x1 + (1 : Int)) == (↑x0.size : Int)) = false → IntKind.i64.wrap (x1 + (1 : Int)) < (↑x0.size : Int)) ∧ ((IntKind.i64.wrap (x1 + (1 : Int)) == (↑x0.size : Int)) = false → (bAt x0 (IntKind.i64.wrap (x1 + (1 : Int))) != (34 : Int)) = true → (0 : Int) ≤ IntKind.i64.wrap (x1 + (1 : Int))) ∧ ((IntKind.i64.wrap (x1 + (1 : Int)) == (↑x0.size : Int)) = false → (bAt x0 (IntKind.i64.wrap (x1 + (1 : Int))) != (34 : Int)) = true → IntKind.i64.wrap (x1 + (1 : Int)) < (↑x0.size : Int))
              · rw [if_pos q] at h
                refine ⟨(conjC q.1 (conjC q.2.1 (conjC q.2.2.1 (conjC q.2.2.2 conj0)))), ?_⟩
                refine ⟨fun c => ?_, fun c => ?_⟩
                · rw [cond_t c] at h
                  cases h; exact ⟨rfl, rfl⟩
                · rw [cond_f c] at h
                  by_cases q : ((0 : Int) ≤ IntKind.i64.wrap (x1 + (1 : Int))) ∧ (IntKind.i64.wrap (x1 + (1 : Int)) < (↑x0.size : Int)) ∧ ((x2.length + [bAt x0 (IntKind.i64.wrap (x1 + (1 : Int)))].length) * (1 : Nat) ≤ (140737488355328 : Nat))
                  · rw [if_pos q] at h
                    refine ⟨(conjC q.1 (conjC q.2.1 (conjC q.2.2 conj0))), ?_⟩
                    exact ih x0 ((IntKind.i64.wrap (IntKind.i64.wrap (x1 + 1) + 1))) ((x2 ++ [bAt x0 (IntKind.i64.wrap (x1 + 1))])) _ h
                  · rw [if_neg q] at h; cases h
              · rw [if_neg q] at h; cases h
            · rw [cond_f c] at h
              by_cases q : ((x2.length + [bAt x0 x1].length) * (1 : Nat) ≤ (140737488355328 : Nat))
              · rw [if_pos q] at h
                refine ⟨(conjC q conj0), ?_⟩
                exact ih x0 ((IntKind.i64.wrap (x1 + 1))) ((x2 ++ [bAt x0 x1])) _ h
              · rw [if_neg q] at h; cases h
        · rw [if_neg q] at h; cases h
      · rw [cond_f c] at h
        cases h; exact ⟨rfl, rfl⟩
theorem of34 (k : Nat) (s_ : ByteArray) (r : R34) (h : f34 k s_ = some r) : CC Tryd.prog 34 (args34 s_) [] (res34 r) (bo34 r) := by
  refine CC.of (fn := Tryd.f34) (by kernel_rfl) (by kernel_rfl) (by kernel_rfl) (by kernel_rfl) ?_
  unfold f34 at h
  refine Ev.tree hm (R := Rt) (K := (K34 k)) (l := []) (C := [(3, [.row 4 5 (((RTy.int IntKind.u8))), .auto [0, 4, 5] false])]) (E := [.auto [2, 3] true]) (n := 1000) (T := .cut 3 (placeAt Tryd.f34 3) (st34_3 s_ 1 ([]))) (by kernel_rfl) ?_
  exact (ev34 k k) s_ 1 ([]) _ h
theorem cc34 (k : Nat) (s_ : ByteArray) (h : (f34 k s_).isSome = true) : CC Tryd.prog 34 (args34 s_) [] (res34 (v34 k s_)) (bo34 (v34 k s_)) := by
  cases e : f34 k s_ with
  | none => rw [e] at h; cases h
  | some r => rw [show v34 k s_ = r by simp [v34, e]]; exact of34 k s_ r e

end
end Go.AM
namespace Go.AM
open Go Go.Proofs
set_option linter.unusedVariables false
noncomputable section
/-! ### function 16: papermill/field.Split -/
def K16 (k : Nat) : Calld := ⟨fun g => match g with
  | 29 => some [false]
  | 30 => some [false]
  | 26 => some [false, false]
  | 33 => some [false, false]
  | 34 => some [false]
  | _ => none, fun g xs _ => match g with
  | 29 => match xs with
    | [.r (.v (.string s_))] => some (res29 (v29 k s_), bo29 (v29 k s_))
    | _ => none
  | 30 => match xs with
    | [.r (.v (.string s_))] => some (res30 (v30 k s_), bo30 (v30 k s_))
    | _ => none
  | 26 => match xs with
    | [.r (.v (.string s_)), .r (.v (.string prefix_))] => some (res26 (v26 k s_ prefix_), bo26 (v26 k s_ prefix_))
    | _ => none
  | 33 => match xs with
    | [.r (.v (.string s_)), .r (.v (.int .u8 c_))] => some (res33 (v33 k s_ c_), bo33 (v33 k s_ c_))
    | _ => none
  | 34 => match xs with
    | [.r (.v (.string s_))] => some (res34 (v34 k s_), bo34 (v34 k s_))
    | _ => none
  | _ => none⟩
abbrev R16 : Type := Int × List (RTy.str).T
def res16 (r : R16) : AV := .tup [.own 0 0, .r (.v (.int .i64 r.1))]
def bo16 (r : R16) : List (Nat × Blk) := [(0, .row 9 RTy.str r.2)]
def st16_5 (x0 : ByteArray) (x1 : Bool) (x2 : List (RTy.str).T) : St := ⟨mkS 73 [(4, .own 1000000 0), (5, .r (.v (.string x0))), (6, .r (.v (.bool x1)))], [(1000000, 0, .row 9 RTy.str x2)]⟩
def st16_9 (x0 : ByteArray) (x1 : Int) (x2 : List (RTy.str).T) : St := ⟨mkS 73 [(4, .own 1000000 0), (5, .r (.v (.string x0))), (8, .r (.v (.int .i64 x1)))], [(1000000, 0, .row 9 RTy.str x2)]⟩
def st16_13 (x0 : ByteArray) (x1 : ByteArray) (x2 : Int) (x3 : Bool) (x4 : List (RTy.str).T) : St := ⟨mkS 73 [(4, .own 1000000 0), (5, .r (.v (.string x0))), (7, .r (.v (.string x1))), (8, .r (.v (.int .i64 x2))), (9, .r (.v (.bool x3)))], [(1000000, 0, .row 9 RTy.str x4)]⟩
def st16_15 (x0 : ByteArray) (x1 : ByteArray) (x2 : Int) (x3 : List (RTy.str).T) : St := ⟨mkS 73 [(4, .own 1000000 0), (5, .r (.v (.string x0))), (7, .r (.v (.string x1))), (8, .r (.v (.int .i64 x2)))], [(1000000, 0, .row 9 RTy.str x3)]⟩
mutual
def f16_5 (k : Nat) : Nat → ByteArray → Bool → List (RTy.str).T → Option R16
  | 0, _, _, _ => none
  | j + 1, x0, x1, x2 =>
    bif x1 then
      if ((f33 k x0 32).isSome = true) then
        bif (decide (v33 k x0 (32 : Int) < (0 : Int))) then
          f16_9 k j x0 ((↑x0.size : Int)) x2
        else
          f16_9 k j x0 ((v33 k x0 32)) x2
      else none
    else
      some ((0, x2))
def f16_9 (k : Nat) : Nat → ByteArray → Int → List (RTy.str).T → Option R16
  | 0, _, _, _ => none
  | j + 1, x0, x1, x2 =>
    if ((0 : Int) ≤ (0 : Int)) ∧ ((0 : Int) ≤ x1) ∧ (x1 ≤ (↑x0.size : Int)) then
      if ((f26 k x0 (ByteArray.mk #[34])).isSome = true) then
        bif (v26 k x0 (ByteArray.mk #[(34 : UInt8)])) then
          if ((f34 k x0).isSome = true) then
            f16_13 k j x0 ((v34 k x0).fst) ((v34 k x0).snd) ((v26 k x0 (ByteArray.mk #[34]))) x2
          else none
        else
          f16_13 k j x0 ((x0.extract (Int.toNat 0) x1.toNat)) x1 ((v26 k x0 (ByteArray.mk #[34]))) x2
      else none
    else none
def f16_13 (k : Nat) : Nat → ByteArray → ByteArray → Int → Bool → List (RTy.str).T → Option R16
  | 0, _, _, _, _, _ => none
  | j + 1, x0, x1, x2, x3, x4 =>
    bif (x2 == (0 : Int)) then
      if ((x2 == (0 : Int)) = true) ∧ (true = true) ∧ (true = false → decide (x2 < (↑x0.size : Int)) = true → (0 : Int) ≤ x2) ∧ (true = false → decide (x2 < (↑x0.size : Int)) = true → x2 < (↑x0.size : Int)) then
        bif (true || decide (x2 < (↑x0.size : Int)) && bAt x0 x2 != (32 : Int)) then
          some ((3, []))
        else
          f16_15 k j x0 x1 x2 x4
      else none
    else
      bif (false || (!v30 k x1 == x3)) then
        if ((x2 == (0 : Int)) = false) ∧ ((f30 k x1).isSome = true) ∧ ((false || (!v30 k x1 == x3)) = true) ∧ (true = false → decide (x2 < (↑x0.size : Int)) = true → (0 : Int) ≤ x2) ∧ (true = false → decide (x2 < (↑x0.size : Int)) = true → x2 < (↑x0.size : Int)) then
          bif (true || decide (x2 < (↑x0.size : Int)) && bAt x0 x2 != (32 : Int)) then
            some ((3, []))
          else
            f16_15 k j x0 x1 x2 x4
        else none
      else
        if ((x2 == (0 : Int)) = false) ∧ ((f30 k x1).isSome = true) ∧ ((false || (!v30 k x1 == x3)) = false) ∧ ((f29 k x1).isSome = true) ∧ ((false || v29 k x1 != (0 : Int)) = false → decide (x2 < (↑x0.size : Int)) = true → (0 : Int) ≤ x2) ∧ ((false || v29 k x1 != (0 : Int)) = false → decide (x2 < (↑x0.size : Int)) = true → x2 < (↑x0.size : Int)) then
          bif (false || v29 k x1 != (0 : Int) || decide (x2 < (↑x0.size : Int)) && bAt x0 x2 != (32 : Int)) then
            some ((3, []))
          else
            f16_15 k j x0 x1 x2 x4
        else none
def f16_15 (k : Nat) : Nat → ByteArray → ByteArray → Int → List (RTy.str).T → Option R16
  | 0, _, _, _, _ => none
  | j + 1, x0, x1, x2, x3 =>
    if ((x3.length + [x1].length) * (16 : Nat) ≤ (140737488355328 : Nat)) then
      bif (decide (x2 < (↑x0.size : Int))) then
        if ((0 : Int) ≤ IntKind.i64.wrap (x2 + (1 : Int))) ∧ (IntKind.i64.wrap (x2 + (1 : Int)) ≤ (↑x0.size : Int)) ∧ ((↑x0.size : Int) ≤ (↑x0.size : Int)) then
          f16_5 k j ((x0.extract (IntKind.i64.wrap (x2 + 1)).toNat (↑x0.size : Int).toNat)) ((decide (x2 < (↑x0.size : Int)))) ((x3 ++ [x1]))
        else none
      else
        f16_5 k j x0 ((decide (x2 < (↑x0.size : Int)))) ((x3 ++ [x1]))
    else none
end
def f16 (k : Nat) (line_ : ByteArray) : Option R16 :=
  bif (decide ((↑line_.size : Int) > (1024 : Int))) then
    some ((8, []))
  else
    f16_5 k k line_ ((!line_.toList == (ByteArray.mk #[]).toList)) ([])
def args16 (line_ : ByteArray) : List AV := [.r (.v (.string line_))]
def v16 (k : Nat) (line_ : ByteArray) : R16 := (f16 k line_).getD (0, [])
theorem ev16 (k : Nat) : ∀ j, (∀ (x0 : ByteArray) (x1 : Bool) (x2 : List (RTy.str).T) (r : R16), f16_5 k j x0 x1 x2 = some r → Ev Tryd.prog Tryd.f16 0 (placeAt Tryd.f16 5) (st16_5 x0 x1 x2) (res16 r) (bo16 r)) ∧ (∀ (x0 : ByteArray) (x1 : Int) (x2 : List (RTy.str).T) (r : R16), f16_9 k j x0 x1 x2 = some r → Ev Tryd.prog Tryd.f16 0 (placeAt Tryd.f16 9) (st16_9 x0 x1 x2) (res16 r) (bo16 r)) ∧ (∀ (x0 : ByteArray) (x1 : ByteArray) (x2 : Int) (x3 : Bool) (x4 : List (RTy.str).T) (r : R16), f16_13 k j x0 x1 x2 x3 x4 = some r → Ev Tryd.prog Tryd.f16 0 (placeAt Tryd.f16 13) (st16_13 x0 x1 x2 x3 x4) (res16 r) (bo16 r)) ∧ (∀ (x0 : ByteArray) (x1 : ByteArray) (x2 : Int) (x3 : List (RTy.str).T) (r : R16), f16_15 k j x0 x1 x2 x3 = some r → Ev Tryd.prog Tryd.f16 0 (placeAt Tryd.f16 15) (st16_15 x0 x1 x2 x3) (res16 r) (bo16 r))
  | 0 => by
    refine ⟨?_, ?_, ?_, ?_⟩ <;> intros <;> rename_i h <;> simp [f16_5, f16_9, f16_13, f16_15] at h
  | j + 1 => by
    have ih := ev16 k j
    refine ⟨?_, ?_, ?_, ?_⟩
    · intro x0 x1 x2 r h
      rw [f16_5] at h
      refine Ev.tree hm (R := Rt) (K := (K16 k)) (l := [9, 13, 15]) (C := [(5, [.row 4 9 RTy.str, .auto [4, 5, 6] false]), (9, [.auto [4, 5, 8] false]), (13, [.auto [4, 5, 7, 8, 9] false]), (15, [.auto [4, 5, 7, 8] false])]) (E := [.row 2 9 RTy.str, .auto [2, 3] true]) (n := 1000) (T := .test (x1) (.need [CC Tryd.prog 33 (args33 x0 32) [] (res33 (v33 k x0 32)) (bo33 (v33 k x0 32))] (.test ((decide (v33 k x0 (32 : Int) < (0 : Int)))) (.cut 9 (placeAt Tryd.f16 9) (st16_9 x0 ((↑x0.size : Int)) x2)) (.cut 9 (placeAt Tryd.f16 9) (st16_9 x0 ((v33 k x0 32)) x2)))) (.leaf (res16 ((0, x2))) (bo16 ((0, x2))))) (by kernel_rfl) ?_
      refine ⟨fun c => ?_, fun c => ?_⟩
      · rw [cond_t c] at h
        by_cases q : ((f33 k x0 32).isSome = true)
        · rw [if_pos q] at h
          refine ⟨(conjC (cc33 k x0 32 q) conj0), ?_⟩
          refine ⟨fun c => ?_, fun c => ?_⟩
          · rw [cond_t c] at h
            exact ih.2.1 x0 ((↑x0.size : Int)) x2 _ h
          · rw [cond_f c] at h
            exact ih.2.1 x0 ((v33 k x0 32)) x2 _ h
        · rw [if_neg q] at h; cases h
      · rw [cond_f c] at h
        cases h; exact ⟨rfl, rfl⟩
    · intro x0 x1 x2 r h
      rw [f16_9] at h
      refine Ev.tree hm (R := Rt) (K := (K16 k)) (l := [9, 13, 15]) (C := [(5, [.row 4 9 RTy.str, .auto [4, 5, 6] false]), (9, [.auto [4, 5, 8] false]), (13, [.auto [4, 5, 7, 8, 9] false]), (15, [.auto [4, 5, 7, 8] false])]) (E := [.row 2 9 RTy.str, .auto [2, 3] true]) (n := 1000) (T := .need [(0 : Int) ≤ (0 : Int), (0 : Int) ≤ x1, x1 ≤ (↑x0.size : Int)] (.need [CC Tryd.prog 26 (args26 x0 (ByteArray.mk #[34])) [] (res26 (v26 k x0 (ByteArray.mk #[34]))) (bo26 (v26 k x0 (ByteArray.mk #[34])))] (.test ((v26 k x0 (ByteArray.mk #[(34 : UInt8)]))) (.need [CC Tryd.prog 34 (args34 x0) [] (res34 (v34 k x0)) (bo34 (v34 k x0))] (.cut 13 (placeAt Tryd.f16 13) (st16_13 x0 ((v34 k x0).fst) ((v34 k x0).snd) ((v26 k x0 (ByteArray.mk #[34]))) x2))) (.cut 13 (placeAt Tryd.f16 13) (st16_13 x0 ((x0.extract (Int.toNat 0) x1.toNat)) x1 ((v26 k x0 (ByteArray.mk #[34]))) x2))))) (by kernel_rfl) ?_
      by_cases q : ((0 : Int) ≤ (0 : Int)) ∧ ((0 : Int) ≤ x1) ∧ (x1 ≤ (↑x0.size : Int))
      · rw [if_pos q] at h
        refine ⟨(conjC q.1 (conjC q.2.1 (conjC q.2.2 conj0))), ?_⟩
        by_cases q : ((f26 k x0 (ByteArray.mk #[34])).isSome = true)
        · rw [if_pos q] at h
          refine ⟨(conjC (cc26 k x0 (ByteArray.mk #[34]) q) conj0), ?_⟩
          refine ⟨fun c => ?_, fun c => ?_⟩
          · rw [cond_t c] at h
            by_cases q : ((f34 k x0).isSome = true)
            · rw [if_pos q] at h
              refine ⟨(conjC (cc34 k x0 q) conj0), ?_⟩
              exact ih.2.2.1 x0 ((v34 k x0).fst) ((v34 k x0).snd) ((v26 k x0 (ByteArray.mk #[34]))) x2 _ h
            · rw [if_neg q] at h; cases h
          · rw [cond_f c] at h
            exact ih.2.2.1 x0 ((x0.extract (Int.toNat 0) x1.toNat)) x1 ((v26 k x0 (ByteArray.mk #[34]))) x2 _ h
        · rw [if_neg q] at h; cases h
      · rw [if_neg q] at h; cases h
    · intro x0 x1 x2 x3 x4 r h
      rw [f16_13] at h
      refine Ev.tree hm (R := Rt) (K := (K16 k)) (l := [9, 13, 15]) (C := [(5, [.row 4 9 RTy.str, .auto [4, 5, 6] false]), (9, [.auto [4, 5, 8] false]), (13, [.auto [4, 5, 7, 8, 9] false]), (15, [.auto [4, 5, 7, 8] false])]) (E := [.row 2 9 RTy.str, .auto [2, 3] true]) (n := 1000) (T := .test ((x2 == (0 : Int))) (.test (true) (.need [(x2 == (0 : Int)) = true, true = true, true = false → decide (x2 < (↑x0.size : Int)) = true → (0 : Int) ≤ x2, true = false → decide (x2 < (↑x0.size : Int)) = true → x2 < (↑x0.size : Int)] (.test ((true || decide (x2 < (↑x0.size : Int)) && bAt x0 x2 != (32 : Int))) (.leaf (res16 ((3, []))) (bo16 ((3, [])))) (.cut 15 (placeAt Tryd.f16 15) (st16_15 x0 x1 x2 x4)))) (.need [(x2 == (0 : Int)) = true, true = false, CC Tryd.prog 29 (args29 x1) [] (res29 (v29 k x1)) (bo29 (v29 k x1)), (false || v29 k x1 != (0 : Int)) = false → decide (x2 < (↑x0.size : Int)) = true → (0 : Int) ≤ x2, (false || v29 k x1 != (0 : Int)) = false → decide (x2 < (↑x0.size : Int)) = true → x2 < (↑x0.size : Int)] (.test ((false || v29 k x1 != (0 : Int) || decide (x2 < (↑x0.size : Int)) && bAt x0 x2 != (32 : Int))) (.leaf (res16 ((3, []))) (bo16 ((3, [])))) (.cut 15 (placeAt Tryd.f16 15) (st16_15 x0 x1 x2 x4))))) (.test ((false || (!v30 k x1 == x3))) (.need [(x2 == (0 : Int)) = false, CC Tryd.prog 30 (args30 x1) [] (res30 (v30 k x1)) (bo30 (v30 k x1)), (false || (!v30 k x1 == x3)) = true, true = false → decide (x2 < (↑x0.size : Int)) = true → (0 : Int) ≤ x2, true = false → decide (x2 < (↑x0.size : Int)) = true → x2 < (↑x0.size : Int)] (.test ((true || decide (x2 < (↑x0.size : Int)) && bAt x0 x2 != (32 : Int))) (.leaf (res16 ((3, []))) (bo16 ((3, [])))) (.cut 15 (placeAt Tryd.f16 15) (st16_15 x0 x1 x2 x4)))) (.need [(x2 == (0 : Int)) = false, CC Tryd.prog 30 (args30 x1) [] (res30 (v30 k x1)) (bo30 (v30 k x1)), (false || (!v30 k x1 == x3)) = false, CC Tryd.prog 29 (args29 x1) [] (res29 (v29 k x1)) (bo29 (v29 k x1)), (false || v29 k x1 != (0 : Int)) = false → decide (x2 < (↑x0.size : Int)) = true → (0 : Int) ≤ x2, (false || v29 k x1 != (0 : Int)) = false → decide (x2 < (↑x0.size : Int)) = true → x2 < (↑x0.size : Int)] (.test ((false || v29 k x1 != (0 : Int) || decide (x2 < (↑x0.size : Int)) && bAt x0 x2 != (32 : Int))) (.leaf (res16 ((3, []))) (bo16 ((3, [])))) (.cut 15 (placeAt Tryd.f16 15) (st16_15 x0 x1 x2 x4)))))) (by kernel_rfl) ?_
      refine ⟨fun c => ?_, fun c => ?_⟩
      · rw [cond_t c] at h
        refine ⟨fun c => ?_, fun c => ?_⟩
        rotate_left
        · cases c
        by_cases q : ((x2 == (0 : Int)) = true) ∧ (true = true) ∧ (true = false → decide (x2 < (↑x0.size : Int)) = true → (0 : Int) ≤ x2) ∧ (true = false → decide (x2 < (↑x0.size : Int)) = true → x2 < (↑x0.size : Int))
        · rw [if_pos q] at h
          refine ⟨(conjC q.1 (conjC q.2.1 (conjC q.2.2.1 (conjC q.2.2.2 conj0)))), ?_⟩
          refine ⟨fun c => ?_, fun c => ?_⟩
          · rw [cond_t c] at h
            cases h; exact ⟨rfl, rfl⟩
          · rw [cond_f c] at h
            exact ih.2.2.2 x0 x1 x2 x4 _ h
        · rw [if_neg q] at h; cases h
      · rw [cond_f c] at h
        refine ⟨fun c => ?_, fun c => ?_⟩
        · rw [cond_t c] at h
          by_cases q : ((x2 == (0 : Int)) = false) ∧ ((f30 k x1).isSome = true) ∧ ((false || (!v30 k x1 == x3)) = true) ∧ (true = false → decide (x2 < (↑x0.size : Int)) = true → (0 : Int) ≤ x2) ∧ (true = false → decide (x2 < (↑x0.size : Int)) = true → x2 < (↑x0.size : Int))
          · rw [if_pos q] at h
            refine ⟨(conjC q.1 (conjC (cc30 k x1 q.2.1) (conjC q.2.2.1 (conjC q.2.2.2.1 (conjC q.2.2.2.2 conj0))))), ?_⟩
            refine ⟨fun c => ?_, fun c => ?_⟩
            · rw [cond_t c] at h
              cases h; exact ⟨rfl, rfl⟩
            · rw [cond_f c] at h
              exact ih.2.2.2 x0 x1 x2 x4 _ h
          · rw [if_neg q] at h; cases h
        · rw [cond_f c] at h
          by_cases q : ((x2 == (0 : Int)) = false) ∧ ((f30 k x1).isSome = true) ∧ ((false || (!v30 k x1 == x3)) = false) ∧ ((f29 k x1).isSome = true) ∧ ((false || v29 k x1 != (0 : Int)) = false → decide (x2 < (↑x0.size : Int)) = true → (0 : Int) ≤ x2) ∧ ((false || v29 k x1 != (0 : Int)) = false → decide (x2 < (↑x0.size : Int)) = true → x2 < (↑x0.size : Int))
          · rw [if_pos q] at h
            refine ⟨(conjC q.1 (conjC (cc30 k x1 q.2.1) (conjC q.2.2.1 (conjC (cc29 k x1 q.2.2.2.1) (conjC q.2.2.2.2.1 (conjC q.2.2.2.2.2 conj0)))))), ?_⟩
            refine ⟨fun c => ?_, fun c => ?_⟩
            · rw [cond_t c] at h
              cases h; exact ⟨rfl, rfl⟩
            · rw [cond_f c] at h
              exact ih.2.2.2 x0 x1 x2 x4 _ h
          · rw [if_neg q] at h; cases h
    · intro x0 x1 x2 x3 r h
      rw [f16_15] at h
      refine Ev.tree hm (R := Rt) (K := (K16 k)) (l := [9, 13, 15]) (C := [(5, [.row 4 9 RTy.str, .auto [4, 5, 6] false]), (9, [.auto [4, 5, 8] false]), (13, [.auto [4, 5, 7, 8, 9] false]), (15, [.auto [4, 5, 7, 8] false])]) (E := [.row 2 9 RTy.str, .auto [2, 3] true]) (n := 1000) (T := .need [(x3.length + [x1].length) * (16 : Nat) ≤ (140737488355328 : Nat)] (.test ((decide (x2 < (↑x0.size : Int)))) (.need [(0 : Int) ≤ IntKind.i64.wrap (x2 + (1 : Int)), IntKind.i64.wrap (x2 + (1 : Int)) ≤ (↑x0.size : Int), (↑x0.size : Int) ≤ (↑x0.size : Int)] (.cut 5 (placeAt Tryd.f16 5) (st16_5 ((x0.extract (IntKind.i64.wrap (x2 + 1)).toNat (↑x0.size : Int).toNat)) ((decide (x2 < (↑x0.size : Int)))) ((x3 ++ [x1]))))) (.cut 5 (placeAt Tryd.f16 5) (st16_5 x0 ((decide (x2 < (↑x0.size : Int)))) ((x3 ++ [x1])))))) (by kernel_rfl) ?_
      by_cases q : ((x3.length + [x1].length) * (16 : Nat) ≤ (140737488355328 : Nat))
      · rw [if_pos q] at h
        refine ⟨(conjC q conj0), ?_⟩
        refine ⟨fun c => ?_, fun c => ?_⟩
        · rw [cond_t c] at h
          by_cases q : ((0 : Int) ≤ IntKind.i64.wrap (x2 + (1 : Int))) ∧ (IntKind.i64.wrap (x2 + (1 : Int)) ≤ (↑x0.size : Int)) ∧ ((↑x0.size : Int) ≤ (↑x0.size : Int))
          · rw [if_pos q] at h
            refine ⟨(conjC q.1 (conjC q.2.1 (conjC q.2.2 conj0))), ?_⟩
            exact ih.1 ((x0.extract (IntKind.i64.wrap (x2 + 1)).toNat (↑x0.size : Int).toNat)) ((decide (x2 < (↑x0.size : Int)))) ((x3 ++ [x1])) _ h
          · rw [if_neg q] at h; cases h
        · rw [cond_f c] at h
          exact ih.1 x0 ((decide (x2 < (↑x0.size : Int)))) ((x3 ++ [x1])) _ h
      · rw [if_neg q] at h; cases h
theorem of16 (k : Nat) (line_ : ByteArray) (r : R16) (h : f16 k line_ = some r) : CC Tryd.prog 16 (args16 line_) [] (res16 r) (bo16 r) := by
  refine CC.of (fn := Tryd.f16) (by kernel_rfl) (by kernel_rfl) (by kernel_rfl) (by kernel_rfl) ?_
  unfold f16 at h
  refine Ev.tree hm (R := Rt) (K := (K16 k)) (l := [9, 13, 15]) (C := [(5, [.row 4 9 RTy.str, .auto [4, 5, 6] false]), (9, [.auto [4, 5, 8] false]), (13, [.auto [4, 5, 7, 8, 9] false]), (15, [.auto [4, 5, 7, 8] false])]) (E := [.row 2 9 RTy.str, .auto [2, 3] true]) (n := 1000) (T := .test ((decide ((↑line_.size : Int) > (1024 : Int)))) (.leaf (res16 ((8, []))) (bo16 ((8, [])))) (.cut 5 (placeAt Tryd.f16 5) (st16_5 line_ ((!line_.toList == (ByteArray.mk #[]).toList)) ([])))) (by kernel_rfl) ?_
  refine ⟨fun c => ?_, fun c => ?_⟩
  · rw [cond_t c] at h
    cases h; exact ⟨rfl, rfl⟩
  · rw [cond_f c] at h
    exact (ev16 k k).1 line_ ((!line_.toList == (ByteArray.mk #[]).toList)) ([]) _ h
theorem cc16 (k : Nat) (line_ : ByteArray) (h : (f16 k line_).isSome = true) : CC Tryd.prog 16 (args16 line_) [] (res16 (v16 k line_)) (bo16 (v16 k line_)) := by
  cases e : f16 k line_ with
  | none => rw [e] at h; cases h
  | some r => rw [show v16 k line_ = r by simp [v16, e]]; exact of16 k line_ r e

end
end Go.AM
namespace Go.AM
open Go Go.Proofs
set_option linter.unusedVariables false
noncomputable section
/-! ### function 18: papermill/papermillref07.Same -/
def K18 (k : Nat) : Calld := ⟨fun g => match g with
  | _ => none, fun g xs _ => match g with
  | _ => none⟩
abbrev R18 : Type := Bool
def res18 (r : R18) : AV := .r (.v (.bool r))
def bo18 (r : R18) : List (Nat × Blk) := []
def st18_4 (x0 : List (RTy.str).T) (x1 : List (RTy.str).T) (x2 : Int) : St := ⟨mkS 26 [(0, .r (.ro RTy.str x0)), (1, .r (.ro RTy.str x1)), (5, .r (.v (.int .i64 x2)))], []⟩
def f18_4 (k : Nat) : Nat → List (RTy.str).T → List (RTy.str).T → Int → Option R18
  | 0, _, _, _ => none
  | j + 1, x0, x1, x2 =>
    bif (decide (x2 < (↑x0.length : Int))) then
      if ((0 : Int) ≤ x2) ∧ (x2 < (↑x0.length : Int)) ∧ ((0 : Int) ≤ x2) ∧ (x2 < (↑x1.length : Int)) then
        bif (!ByteArray.toList (x0.getD x2.toNat RTy.str.dflt) == ByteArray.toList (x1.getD x2.toNat RTy.str.dflt)) then
          some false
        else
          f18_4 k j x0 x1 ((IntKind.i64.wrap (x2 + 1)))
      else none
    else
      some true
def f18 (k : Nat) (a_ : List (RTy.str).T) (b_ : List (RTy.str).T) : Option R18 :=
  bif ((↑a_.length : Int) != (↑b_.length : Int)) then
    some false
  else
    f18_4 k k a_ b_ 0
def args18 (a_ : List (RTy.str).T) (b_ : List (RTy.str).T) : List AV := [.r (.ro RTy.str a_), .r (.ro RTy.str b_)]
def v18 (k : Nat) (a_ : List (RTy.str).T) (b_ : List (RTy.str).T) : R18 := (f18 k a_ b_).getD false
theorem ev18 (k : Nat) : ∀ j, (∀ (x0 : List (RTy.str).T) (x1 : List (RTy.str).T) (x2 : Int) (r : R18), f18_4 k j x0 x1 x2 = some r → Ev Tryd.prog Tryd.f18 0 (placeAt Tryd.f18 4) (st18_4 x0 x1 x2) (res18 r) (bo18 r))
  | 0 => by
    intros; rename_i h; simp [f18_4] at h
  | j + 1 => by
    have ih := ev18 k j
    · intro x0 x1 x2 r h
      rw [f18_4] at h
      refine Ev.tree hm (R := Rt) (K := (K18 k)) (l := []) (C := [(4, [.auto [0, 1, 5] false])]) (E := [.auto [4] true]) (n := 1000) (T := .test ((decide (x2 < (↑x0.length : Int)))) (.need [(0 : Int) ≤ x2, x2 < (↑x0.length : Int), (0 : Int) ≤ x2, x2 < (↑x1.length : Int)] (.test ((!ByteArray.toList (x0.getD x2.toNat RTy.str.dflt) == ByteArray.toList (x1.getD x2.toNat RTy.str.dflt))) (.leaf (res18 false) (bo18 false)) (.cut 4 (placeAt Tryd.f18 4) (st18_4 x0 x1 ((IntKind.i64.wrap (x2 + 1))))))) (.leaf (res18 true) (bo18 true))) (by kernel_rfl) ?_
      refine ⟨fun c => ?_, fun c => ?_⟩
      · rw [cond_t c] at h
        by_cases q : ((0 : Int) ≤ x2) ∧ (x2 < (↑x0.length : Int)) ∧ ((0 : Int) ≤ x2) ∧ (x2 < (↑x1.length : Int))
        · rw [if_pos q] at h
          refine ⟨(conjC q.1 (conjC q.2.1 (conjC q.2.2.1 (conjC q.2.2.2 conj0)))), ?_⟩
          refine ⟨fun c => ?_, fun c => ?_⟩
          · rw [cond_t c] at h
            cases h; exact ⟨rfl, rfl⟩
          · rw [cond_f c] at h
            exact ih x0 x1 ((IntKind.i64.wrap (x2 + 1))) _ h
        · rw [if_neg q] at h; cases h
      · rw [cond_f c] at h
        cases h; exact ⟨rfl, rfl⟩
theorem of18 (k : Nat) (a_ : List (RTy.str).T) (b_ : List (RTy.str).T) (r : R18) (h : f18 k a_ b_ = some r) : CC Tryd.prog 18 (args18 a_ b_) [] (res18 r) (bo18 r) := by
  refine CC.of (fn := Tryd.f18) (by kernel_rfl) (by kernel_rfl) (by kernel_rfl) (by kernel_rfl) ?_
  unfold f18 at h
  refine Ev.tree hm (R := Rt) (K := (K18 k)) (l := []) (C := [(4, [.auto [0, 1, 5] false])]) (E := [.auto [4] true]) (n := 1000) (T := .test (((↑a_.length : Int) != (↑b_.length : Int))) (.leaf (res18 false) (bo18 false)) (.cut 4 (placeAt Tryd.f18 4) (st18_4 a_ b_ 0))) (by kernel_rfl) ?_
  refine ⟨fun c => ?_, fun c => ?_⟩
  · rw [cond_t c] at h
    cases h; exact ⟨rfl, rfl⟩
  · rw [cond_f c] at h
    exact (ev18 k k) a_ b_ 0 _ h
theorem cc18 (k : Nat) (a_ : List (RTy.str).T) (b_ : List (RTy.str).T) (h : (f18 k a_ b_).isSome = true) : CC Tryd.prog 18 (args18 a_ b_) [] (res18 (v18 k a_ b_)) (bo18 (v18 k a_ b_)) := by
  cases e : f18 k a_ b_ with
  | none => rw [e] at h; cases h
  | some r => rw [show v18 k a_ b_ = r by simp [v18, e]]; exact of18 k a_ b_ r e

end
end Go.AM
namespace Go.AM
open Go Go.Proofs
set_option linter.unusedVariables false
noncomputable section
/-! ### function 38: internal/stringslite.HasSuffix -/
def K38 (k : Nat) : Calld := ⟨fun g => match g with
  | _ => none, fun g xs _ => match g with
  | _ => none⟩
abbrev R38 : Type := Bool
def res38 (r : R38) : AV := .r (.v (.bool r))
def bo38 (r : R38) : List (Nat × Blk) := []
def f38 (k : Nat) (s_ : ByteArray) (suffix_ : ByteArray) : Option R38 :=
  if (decide ((↑s_.size : Int) ≥ (↑suffix_.size : Int)) = true → (0 : Int) ≤ IntKind.i64.wrap ((↑s_.size : Int) - (↑suffix_.size : Int))) ∧ (decide ((↑s_.size : Int) ≥ (↑suffix_.size : Int)) = true → IntKind.i64.wrap ((↑s_.size : Int) - (↑suffix_.size : Int)) ≤ (↑s_.size : Int)) ∧ (decide ((↑s_.size : Int) ≥ (↑suffix_.size : Int)) = true → (↑s_.size : Int) ≤ (↑s_.size : Int)) then
    some (decide ((↑s_.size : Int) ≥ (↑suffix_.size : Int)) && (s_.extract (IntKind.i64.wrap ((↑s_.size : Int) - (↑suffix_.size : Int))).toNat (↑s_.size : Int).toNat).toList == suffix_.toList)
  else none
def args38 (s_ : ByteArray) (suffix_ : ByteArray) : List AV := [.r (.v (.string s_)), .r (.v (.string suffix_))]
def v38 (k : Nat) (s_ : ByteArray) (suffix_ : ByteArray) : R38 := (f38 k s_ suffix_).getD false
theorem of38 (k : Nat) (s_ : ByteArray) (suffix_ : ByteArray) (r : R38) (h : f38 k s_ suffix_ = some r) : CC Tryd.prog 38 (args38 s_ suffix_) [] (res38 r) (bo38 r) := by
  refine CC.of (fn := Tryd.f38) (by kernel_rfl) (by kernel_rfl) (by kernel_rfl) (by kernel_rfl) ?_
  unfold f38 at h
  refine Ev.tree hm (R := Rt) (K := (K38 k)) (l := []) (C := []) (E := [.auto [4] true]) (n := 1000) (T := .need [decide ((↑s_.size : Int) ≥ (↑suffix_.size : Int)) = true → (0 : Int) ≤ IntKind.i64.wrap ((↑s_.size : Int) - (↑suffix_.size : Int)), decide ((↑s_.size : Int) ≥ (↑suffix_.size : Int)) = true → IntKind.i64.wrap ((↑s_.size : Int) - (↑suffix_.size : Int)) ≤ (↑s_.size : Int), decide ((↑s_.size : Int) ≥ (↑suffix_.size : Int)) = true → (↑s_.size : Int) ≤ (↑s_.size : Int)] (.leaf (res38 (decide ((↑s_.size : Int) ≥ (↑suffix_.size : Int)) && (s_.extract (IntKind.i64.wrap ((↑s_.size : Int) - (↑suffix_.size : Int))).toNat (↑s_.size : Int).toNat).toList == suffix_.toList)) (bo38 (decide ((↑s_.size : Int) ≥ (↑suffix_.size : Int)) && (s_.extract (IntKind.i64.wrap ((↑s_.size : Int) - (↑suffix_.size : Int))).toNat (↑s_.size : Int).toNat).toList == suffix_.toList)))) (by kernel_rfl) ?_
  by_cases q : (decide ((↑s_.size : Int) ≥ (↑suffix_.size : Int)) = true → (0 : Int) ≤ IntKind.i64.wrap ((↑s_.size : Int) - (↑suffix_.size : Int))) ∧ (decide ((↑s_.size : Int) ≥ (↑suffix_.size : Int)) = true → IntKind.i64.wrap ((↑s_.size : Int) - (↑suffix_.size : Int)) ≤ (↑s_.size : Int)) ∧ (decide ((↑s_.size : Int) ≥ (↑suffix_.size : Int)) = true → (↑s_.size : Int) ≤ (↑s_.size : Int))
  · rw [if_pos q] at h
    refine ⟨(conjC q.1 (conjC q.2.1 (conjC q.2.2 conj0))), ?_⟩
    cases h; exact ⟨rfl, rfl⟩
  · rw [if_neg q] at h; cases h
theorem cc38 (k : Nat) (s_ : ByteArray) (suffix_ : ByteArray) (h : (f38 k s_ suffix_).isSome = true) : CC Tryd.prog 38 (args38 s_ suffix_) [] (res38 (v38 k s_ suffix_)) (bo38 (v38 k s_ suffix_)) := by
  cases e : f38 k s_ suffix_ with
  | none => rw [e] at h; cases h
  | some r => rw [show v38 k s_ suffix_ = r by simp [v38, e]]; exact of38 k s_ suffix_ r e

end
end Go.AM
namespace Go.AM
open Go Go.Proofs
set_option linter.unusedVariables false
noncomputable section
/-! ### function 24: strings.HasSuffix -/
def K24 (k : Nat) : Calld := ⟨fun g => match g with
  | 38 => some [false, false]
  | _ => none, fun g xs _ => match g with
  | 38 => match xs with
    | [.r (.v (.string s_)), .r (.v (.string suffix_))] => some (res38 (v38 k s_ suffix_), bo38 (v38 k s_ suffix_))
    | _ => none
  | _ => none⟩
abbrev R24 : Type := Bool
def res24 (r : R24) : AV := .r (.v (.bool r))
def bo24 (r : R24) : List (Nat × Blk) := []
def f24 (k : Nat) (s_ : ByteArray) (suffix_ : ByteArray) : Option R24 :=
  if ((f38 k s_ suffix_).isSome = true) then
    some (v38 k s_ suffix_)
  else none
def args24 (s_ : ByteArray) (suffix_ : ByteArray) : List AV := [.r (.v (.string s_)), .r (.v (.string suffix_))]
def v24 (k : Nat) (s_ : ByteArray) (suffix_ : ByteArray) : R24 := (f24 k s_ suffix_).getD false
theorem of24 (k : Nat) (s_ : ByteArray) (suffix_ : ByteArray) (r : R24) (h : f24 k s_ suffix_ = some r) : CC Tryd.prog 24 (args24 s_ suffix_) [] (res24 r) (bo24 r) := by
  refine CC.of (fn := Tryd.f24) (by kernel_rfl) (by kernel_rfl) (by kernel_rfl) (by kernel_rfl) ?_
  unfold f24 at h
  refine Ev.tree hm (R := Rt) (K := (K24 k)) (l := []) (C := []) (E := [.auto [4] true]) (n := 1000) (T := .need [CC Tryd.prog 38 (args38 s_ suffix_) [] (res38 (v38 k s_ suffix_)) (bo38 (v38 k s_ suffix_))] (.leaf (res24 (v38 k s_ suffix_)) (bo24 (v38 k s_ suffix_)))) (by kernel_rfl) ?_
  by_cases q : ((f38 k s_ suffix_).isSome = true)
  · rw [if_pos q] at h
    refine ⟨(conjC (cc38 k s_ suffix_ q) conj0), ?_⟩
    cases h; exact ⟨rfl, rfl⟩
  · rw [if_neg q] at h; cases h
theorem cc24 (k : Nat) (s_ : ByteArray) (suffix_ : ByteArray) (h : (f24 k s_ suffix_).isSome = true) : CC Tryd.prog 24 (args24 s_ suffix_) [] (res24 (v24 k s_ suffix_)) (bo24 (v24 k s_ suffix_)) := by
  cases e : f24 k s_ suffix_ with
  | none => rw [e] at h; cases h
  | some r => rw [show v24 k s_ suffix_ = r by simp [v24, e]]; exact of24 k s_ suffix_ r e

end
end Go.AM
namespace Go.AM
open Go Go.Proofs
set_option linter.unusedVariables false
noncomputable section
abbrev R36 : Type := ByteArray × ByteArray × Bool
def res36 (r : R36) : AV := .tup [.r (.v (.string r.1)), .r (.v (.string r.2.1)), .r (.v (.bool r.2.2))]
def bo36 (r : R36) : List (Nat × Blk) := []
def f36 (k : Nat) (s_ : ByteArray) (sep_ : ByteArray) : Option R36 := bif (Nat.ble s_.size 1000000000) then some (mkL (Lib.cut s_.data.toList sep_.data.toList).1, mkL (Lib.cut s_.data.toList sep_.data.toList).2.1, (Lib.cut s_.data.toList sep_.data.toList).2.2) else none
def args36 (s_ : ByteArray) (sep_ : ByteArray) : List AV := [.r (.v (.string s_)), .r (.v (.string sep_))]
def v36 (k : Nat) (s_ : ByteArray) (sep_ : ByteArray) : R36 := (f36 k s_ sep_).getD (ByteArray.empty, ByteArray.empty, false)
theorem of36 (k : Nat) (s_ : ByteArray) (sep_ : ByteArray) (r : R36) (h : f36 k s_ sep_ = some r) : CC Tryd.prog 36 (args36 s_ sep_) [] (res36 r) (bo36 r) := by
  unfold f36 at h
  cases q : (Nat.ble s_.size 1000000000) <;> rw [q] at h
  · cases h
  · cases h
    rw [Nat.ble_eq] at q
    refine cc_res (xs := [.string s_, .string sep_]) (v := .tuple #[.string (mkL (Lib.cut s_.data.toList sep_.data.toList).1), .string (mkL (Lib.cut s_.data.toList sep_.data.toList).2.1), .bool (Lib.cut s_.data.toList sep_.data.toList).2.2]) (fun w ok env => ?_) ⟨Tryd.f36, _, Tryd.func36, rfl, by kernel_rfl⟩ fun w hG => ?_
    · exact Rep.tup _ _ rfl fun i hi => by
        match i, hi with
        | 0, _ => exact rep_v _
        | 1, _ => exact rep_v _
        | 2, _ => exact rep_v _
    · obtain ⟨m, hm⟩ := hG
      refine (Tryd.strings_Cut s_ sep_ m w (by omega) hm).mono fun e w' ⟨he, n, hw⟩ => ?_
      subst hw
      exact ⟨he, ⟨Nat.le_refl _, rfl, rfl⟩, fun B hB => rfl⟩
theorem cc36 (k : Nat) (s_ : ByteArray) (sep_ : ByteArray) (h : (f36 k s_ sep_).isSome = true) : CC Tryd.prog 36 (args36 s_ sep_) [] (res36 (v36 k s_ sep_)) (bo36 (v36 k s_ sep_)) := by
  cases e : f36 k s_ sep_ with
  | none => rw [e] at h; cases h
  | some r => rw [show v36 k s_ sep_ = r by simp [v36, e]]; exact of36 k s_ sep_ r e

end
end Go.AM
namespace Go.AM
open Go Go.Proofs
set_option linter.unusedVariables false
noncomputable section
/-! ### function 19: papermill/field.Lines -/
def K19 (k : Nat) : Calld := ⟨fun g => match g with
  | 16 => some [false]
  | 24 => some [false, false]
  | 36 => some [false, false]
  | _ => none, fun g xs _ => match g with
  | 16 => match xs with
    | [.r (.v (.string line_))] => some (res16 (v16 k line_), bo16 (v16 k line_))
    | _ => none
  | 24 => match xs with
    | [.r (.v (.string s_)), .r (.v (.string suffix_))] => some (res24 (v24 k s_ suffix_), bo24 (v24 k s_ suffix_))
    | _ => none
  | 36 => match xs with
    | [.r (.v (.string s_)), .r (.v (.string sep_))] => some (res36 (v36 k s_ sep_), bo36 (v36 k s_ sep_))
    | _ => none
  | _ => none⟩
abbrev R19 : Type := Int × List (RTy.str.list).T
def res19 (r : R19) : AV := .tup [.own 0 0, .r (.v (.int .i64 r.1))]
def bo19 (r : R19) : List (Nat × Blk) := [(0, .row 22 RTy.str.list r.2)]
def st19_4 (x0 : ByteArray) (x1 : List (RTy.str.list).T) : St := ⟨mkS 46 [(0, .r (.v (.string x0))), (4, .own 1000000 0)], [(1000000, 0, .row 22 RTy.str.list x1)]⟩
def f19_4 (k : Nat) : Nat → ByteArray → List (RTy.str.list).T → Option R19
  | 0, _, _ => none
  | j + 1, x0, x1 =>
    bif (!x0.toList == (ByteArray.mk #[]).toList) then
      if ((f36 k x0 (ByteArray.mk #[10])).isSome = true) then
        if (((v36 k x0 (ByteArray.mk #[(10 : UInt8)])).fst.toList == (ByteArray.mk #[]).toList) = false → (0 : Int) ≤ (0 : Int)) ∧ (((v36 k x0 (ByteArray.mk #[(10 : UInt8)])).fst.toList == (ByteArray.mk #[]).toList) = false → (0 : Int) < (↑ (v36 k x0 (ByteArray.mk #[(10 : UInt8)])).fst.size : Int)) then
          bif ((v36 k x0 (ByteArray.mk #[(10 : UInt8)])).fst.toList == (ByteArray.mk #[]).toList || bAt (v36 k x0 (ByteArray.mk #[(10 : UInt8)])).fst (0 : Int) == (35 : Int)) then
            f19_4 k j ((v36 k x0 (ByteArray.mk #[10])).snd.fst) x1
          else
            if ((f16 k (v36 k x0 (ByteArray.mk #[10])).fst).isSome = true) then
              bif ((v16 k (v36 k x0 (ByteArray.mk #[(10 : UInt8)])).fst).fst != (0 : Int)) then
                some (((v16 k (v36 k x0 (ByteArray.mk #[10])).fst).fst, []))
              else
                if ((x1.length + [(v16 k (v36 k x0 (ByteArray.mk #[(10 : UInt8)])).fst).snd].length) * (24 : Nat) ≤ (140737488355328 : Nat)) then
                  f19_4 k j ((v36 k x0 (ByteArray.mk #[10])).snd.fst) ((x1 ++ [(v16 k (v36 k x0 (ByteArray.mk #[10])).fst).snd]))
                else none
            else none
        else none
      else none
    else
      some ((0, x1))
def f19 (k : Nat) (text_ : ByteArray) : Option R19 :=
  bif (!text_.toList == (ByteArray.mk #[]).toList) then
    if ((!text_.toList == (ByteArray.mk #[]).toList) = true) ∧ ((f24 k text_ (ByteArray.mk #[10])).isSome = true) then
      bif (true && (!v24 k text_ (ByteArray.mk #[(10 : UInt8)]))) then
        some ((3, []))
      else
        f19_4 k k text_ ([])
    else none
  else
    if ((!text_.toList == (ByteArray.mk #[]).toList) = false) then
      f19_4 k k text_ ([])
    else none
def args19 (text_ : ByteArray) : List AV := [.r (.v (.string text_))]
def v19 (k : Nat) (text_ : ByteArray) : R19 := (f19 k text_).getD (0, [])
theorem ev19 (k : Nat) : ∀ j, (∀ (x0 : ByteArray) (x1 : List (RTy.str.list).T) (r : R19), f19_4 k j x0 x1 = some r → Ev Tryd.prog Tryd.f19 0 (placeAt Tryd.f19 4) (st19_4 x0 x1) (res19 r) (bo19 r))
  | 0 => by
    intros; rename_i h; simp [f19_4] at h
  | j + 1 => by
    have ih := ev19 k j
    · intro x0 x1 r h
      rw [f19_4] at h
      refine Ev.tree hm (R := Rt) (K := (K19 k)) (l := []) (C := [(4, [.row 4 22 RTy.str.list, .auto [0, 4] false])]) (E := [.row 2 22 RTy.str.list, .auto [2, 3] true]) (n := 1000) (T := .test ((!x0.toList == (ByteArray.mk #[]).toList)) (.need [CC Tryd.prog 36 (args36 x0 (ByteArray.mk #[10])) [] (res36 (v36 k x0 (ByteArray.mk #[10]))) (bo36 (v36 k x0 (ByteArray.mk #[10])))] (.need [((v36 k x0 (ByteArray.mk #[(10 : UInt8)])).fst.toList == (ByteArray.mk #[]).toList) = false → (0 : Int) ≤ (0 : Int), ((v36 k x0 (ByteArray.mk #[(10 : UInt8)])).fst.toList == (ByteArray.mk #[]).toList) = false → (0 : Int) < (↑ (v36 k x0 (ByteArray.mk #[(10 : UInt8)])).fst.size : Int)] (.test (((v36 k x0 (ByteArray.mk #[(10 : UInt8)])).fst.toList == (ByteArray.mk #[]).toList || bAt (v36 k x0 (ByteArray.mk #[(10 : UInt8)])).fst (0 : Int) == (35 : Int))) (.cut 4 (placeAt Tryd.f19 4) (st19_4 ((v36 k x0 (ByteArray.mk #[10])).snd.fst) x1)) (.need [CC Tryd.prog 16 (args16 (v36 k x0 (ByteArray.mk #[10])).fst) [] (res16 (v16 k (v36 k x0 (ByteArray.mk #[10])).fst)) (bo16 (v16 k (v36 k x0 (ByteArray.mk #[10])).fst))] (.test (((v16 k (v36 k x0 (ByteArray.mk #[(10 : UInt8)])).fst).fst != (0 : Int))) (.leaf (res19 (((v16 k (v36 k x0 (ByteArray.mk #[10])).fst).fst, []))) (bo19 (((v16 k (v36 k x0 (ByteArray.mk #[10])).fst).fst, [])))) (.need [(x1.length + [(v16 k (v36 k x0 (ByteArray.mk #[(10 : UInt8)])).fst).snd].length) * (24 : Nat) ≤ (140737488355328 : Nat)] (.cut 4 (placeAt Tryd.f19 4) (st19_4 ((v36 k x0 (ByteArray.mk #[10])).snd.fst) ((x1 ++ [(v16 k (v36 k x0 (ByteArray.mk #[10])).fst).snd])))))))))) (.leaf (res19 ((0, x1))) (bo19 ((0, x1))))) (by kernel_rfl) ?_
      refine ⟨fun c => ?_, fun c => ?_⟩
      · rw [cond_t c] at h
        by_cases q : ((f36 k x0 (ByteArray.mk #[10])).isSome = true)
        · rw [if_pos q] at h
          refine ⟨(conjC (cc36 k x0 (ByteArray.mk #[10]) q) conj0), ?_⟩
          by_cases q : (((v36 k x0 (ByteArray.mk #[(10 : UInt8)])).fst.toList == (ByteArray.mk #[]).toList) = false → (0 : Int) ≤ (0 : Int)) ∧ (((v36 k x0 (ByteArray.mk #[(10 : UInt8)])).fst.toList == (ByteArray.mk #[]).toList) = false → (0 : Int) < (↑ (v36 k x0 (ByteArray.mk #[(10 : UInt8)])).fst.size : Int))
          · rw [if_pos q] at h
            refine ⟨(conjC q.1 (conjC q.2 conj0)), ?_⟩
            refine ⟨fun c => ?_, fun c => ?_⟩
            · rw [cond_t c] at h
              exact ih ((v36 k x0 (ByteArray.mk #[10])).snd.fst) x1 _ h
            · rw [cond_f c] at h
              by_cases q : ((f16 k (v36 k x0 (ByteArray.mk #[10])).fst).isSome = true)
              · rw [if_pos q] at h
                refine ⟨(conjC (cc16 k (v36 k x0 (ByteArray.mk #[10])).fst q) conj0), ?_⟩
                refine ⟨fun c => ?_, fun c => ?_⟩
                · rw [cond_t c] at h
                  cases h; exact ⟨rfl, rfl⟩
                · rw [cond_f c] at h
                  by_cases q : ((x1.length + [(v16 k (v36 k x0 (ByteArray.mk #[(10 : UInt8)])).fst).snd].length) * (24 : Nat) ≤ (140737488355328 : Nat))
                  · rw [if_pos q] at h
                    refine ⟨(conjC q conj0), ?_⟩
                    exact ih ((v36 k x0 (ByteArray.mk #[10])).snd.fst) ((x1 ++ [(v16 k (v36 k x0 (ByteArray.mk #[10])).fst).snd])) _ h
                  · rw [if_neg q] at h; cases h
              · rw [if_neg q] at h; cases h
          · rw [if_neg q] at h; cases h
        · rw [if_neg q] at h; cases h
      · rw [cond_f c] at h
        cases h; exact ⟨rfl, rfl⟩
theorem of19 (k : Nat) (text_ : ByteArray) (r : R19) (h : f19 k text_ = some r) : CC Tryd.prog 19 (args19 text_) [] (res19 r) (bo19 r) := by
  refine CC.of (fn := Tryd.f19) (by kernel_rfl) (by kernel_rfl) (by kernel_rfl) (by kernel_rfl) ?_
  unfold f19 at h
  refine Ev.tree hm (R := Rt) (K := (K19 k)) (l := []) (C := [(4, [.row 4 22 RTy.str.list, .auto [0, 4] false])]) (E := [.row 2 22 RTy.str.list, .auto [2, 3] true]) (n := 1000) (T := .test ((!text_.toList == (ByteArray.mk #[]).toList)) (.need [(!text_.toList == (ByteArray.mk #[]).toList) = true, CC Tryd.prog 24 (args24 text_ (ByteArray.mk #[10])) [] (res24 (v24 k text_ (ByteArray.mk #[10]))) (bo24 (v24 k text_ (ByteArray.mk #[10])))] (.test ((true && (!v24 k text_ (ByteArray.mk #[(10 : UInt8)])))) (.leaf (res19 ((3, []))) (bo19 ((3, [])))) (.cut 4 (placeAt Tryd.f19 4) (st19_4 text_ ([]))))) (.need [(!text_.toList == (ByteArray.mk #[]).toList) = false] (.test (false) (.leaf (res19 ((3, []))) (bo19 ((3, [])))) (.cut 4 (placeAt Tryd.f19 4) (st19_4 text_ ([])))))) (by kernel_rfl) ?_
  refine ⟨fun c => ?_, fun c => ?_⟩
  · rw [cond_t c] at h
    by_cases q : ((!text_.toList == (ByteArray.mk #[]).toList) = true) ∧ ((f24 k text_ (ByteArray.mk #[10])).isSome = true)
    · rw [if_pos q] at h
      refine ⟨(conjC q.1 (conjC (cc24 k text_ (ByteArray.mk #[10]) q.2) conj0)), ?_⟩
      refine ⟨fun c => ?_, fun c => ?_⟩
      · rw [cond_t c] at h
        cases h; exact ⟨rfl, rfl⟩
      · rw [cond_f c] at h
        exact (ev19 k k) text_ ([]) _ h
    · rw [if_neg q] at h; cases h
  · rw [cond_f c] at h
    by_cases q : ((!text_.toList == (ByteArray.mk #[]).toList) = false)
    · rw [if_pos q] at h
      refine ⟨(conjC q conj0), ?_⟩
      refine ⟨fun c => ?_, fun c => ?_⟩
      · cases c
      exact (ev19 k k) text_ ([]) _ h
    · rw [if_neg q] at h; cases h
theorem cc19 (k : Nat) (text_ : ByteArray) (h : (f19 k text_).isSome = true) : CC Tryd.prog 19 (args19 text_) [] (res19 (v19 k text_)) (bo19 (v19 k text_)) := by
  cases e : f19 k text_ with
  | none => rw [e] at h; cases h
  | some r => rw [show v19 k text_ = r by simp [v19, e]]; exact of19 k text_ r e

end
end Go.AM
