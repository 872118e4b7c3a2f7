/- Contracts of the functions that the law reaches, and the plain law. -/
import Derived.Test.YticaonjigdicfaaDoorLibb
import Derived.Shelf.Strconv.Itoa0
import Derived.Shelf.Strconv.Itoa1
import Derived.Shelf.LaysM
import Derived.Shelf.Strconv.Itoa2
import Derived.Shelf.Strconv.Itoa3
import Derived.Test.YticaonjigdicfaaDoorProg
import Derived.KernelRfl
import Derived.Lib.Strings
/-
  DERIVED: THE SHELF's CONTRACTS AT THIS DUMP, IN PLAIN WORDS (tools/lay-plain.mjs out of 'TrydShelf.lean', which tools/lay-shelf.mjs wrote): THE SAME DECLARATIONS UNDER THE SAME NAMES: 'import', 'namespace', 'open', 'def', 'theorem' AND NOTHING ELSE: no command of the shelf's: FOR A HAND-IN. Each laying: the table of numbers ('.._ren') and one theorem, a field a fact of the dump's own or the kernel's comparison; each contract: ONE APPLICATION.
-/
namespace Go.Proofs
open Go.Shelf
def Tryd.lays129_ren : Go.Shelf.Ren := ⟨fun | 129 => 44 | n => n, fun | 53 => 59 | 3 => 3 | 4 => 4 | 46 => 70 | 5 => 5 | 9 => 9 | n => n, fun | n => n⟩
theorem Tryd.lays129 : Go.Proofs.Lays.n129 Tryd.prog Tryd.lays129_ren := {
  mixed := by kernel_rfl
  f129 := Tryd.func44.trans (congrArg some (by kernel_rfl))
  t3 := Tryd.underlying3
  a3 := Tryd.isAgg3
  z3 := Tryd.sizeOf3
  v3 := Tryd.zeroValue3
  t4 := Tryd.underlying4
  a4 := Tryd.isAgg4
  z4 := Tryd.sizeOf4
  v4 := Tryd.zeroValue4
  t5 := Tryd.underlying5
  a5 := Tryd.isAgg5
  z5 := Tryd.sizeOf5
  v5 := Tryd.zeroValue5
  t9 := Tryd.underlying9
  a9 := Tryd.isAgg9
  z9 := Tryd.sizeOf9
  v9 := Tryd.zeroValue9
  t46 := Tryd.underlying70
  a46 := Tryd.isAgg70
  z46 := Tryd.sizeOf70
  v46 := Tryd.zeroValue70
  t53 := Tryd.underlying59
  a53 := Tryd.isAgg59
  z53 := Tryd.sizeOf59
  v53 := Tryd.zeroValue59 }
/-- bits.Len64: "Len64 returns the minimum number of bits required to represent x; the result is 0 for x == 0.": IT RETURNS 'Lib.bitLen x'; the world is as it was. ('h0', 'h1': x is a uint64.) (LAID: no walk: one application.) -/
theorem Tryd.bits_Len64 (x : Int) (w : World) (h0 : 0 ≤ x) (h1 : x ≤ 18446744073709551615) :
    Calls Tryd.prog 44 #[.int .u64 x] w fun e w' => e = .returned (.int .i64 (Lib.bitLen x.toNat)) ∧ w' = w := Any.bits_Len64 Tryd.lays129 x w h0 h1
def Tryd.lays317_ren : Go.Shelf.Ren := ⟨fun | 317 => 43 | n => n, fun | 3 => 3 | 46 => 70 | n => n, fun | n => n⟩
theorem Tryd.lays317 : Go.Proofs.Lays.n317 Tryd.prog Tryd.lays317_ren := {
  mixed := by kernel_rfl
  f317 := Tryd.func43.trans (congrArg some (by kernel_rfl))
  t3 := Tryd.underlying3
  a3 := Tryd.isAgg3
  z3 := Tryd.sizeOf3
  v3 := Tryd.zeroValue3
  t46 := Tryd.underlying70
  a46 := Tryd.isAgg70
  z46 := Tryd.sizeOf70
  v46 := Tryd.zeroValue70 }
open Go.Lib in
/-- internal/strconv.log10Pow2: "log10Pow2(x) returns ⌊log₁₀ 2**x⌋ = ⌊x * log₁₀ 2⌋.": '(x * 78913) >> 18', at an x up to 64 (a length in bits). The world is as it was. (LAID: no walk: one application.) -/
theorem Tryd.internal_strconv_log10Pow2 (x : Nat) (h : x ≤ 64) (w : World) :
    Calls Tryd.prog 43 #[.int .i64 x] w fun e w' => e = .returned (.int .i64 (Lib.l10 x)) ∧ w' = w := Any.internal_strconv_log10Pow2 Tryd.lays317 x h w
def Tryd.lays318_ren : Go.Shelf.Ren := ⟨fun | 318 => 45 | n => n, fun | 3 => 3 | 4 => 4 | n => n, fun | n => n⟩
theorem Tryd.lays318 : Go.Proofs.Lays.n318 Tryd.prog Tryd.lays318_ren := {
  mixed := by kernel_rfl
  f318 := Tryd.func45.trans (congrArg some (by kernel_rfl))
  t3 := Tryd.underlying3
  a3 := Tryd.isAgg3
  z3 := Tryd.sizeOf3
  v3 := Tryd.zeroValue3
  t4 := Tryd.underlying4
  a4 := Tryd.isAgg4
  z4 := Tryd.sizeOf4
  v4 := Tryd.zeroValue4 }
open Go.Lib in
/-- internal/strconv.bool2: "bool2 converts b to an integer: 1 for true, 0 for false." The world is as it was. (LAID: no walk: one application.) -/
theorem Tryd.internal_strconv_bool2_int (b : Bool) (w : World) :
    Calls Tryd.prog 45 #[.bool b] w fun e w' => e = .returned (.int .i64 (if b then 1 else 0)) ∧ w' = w := Any.internal_strconv_bool2_int Tryd.lays318 b w
def Tryd.lays283_ren : Go.Shelf.Ren := ⟨fun | 283 => 39 | n => n, fun | 3 => 3 | 9 => 9 | 4 => 4 | n => n, fun | n => n⟩
theorem Tryd.lays283 : Go.Proofs.Lays.n283 Tryd.prog Tryd.lays283_ren := {
  mixed := by kernel_rfl
  f283 := Tryd.func39.trans (congrArg some (by kernel_rfl))
  t3 := Tryd.underlying3
  a3 := Tryd.isAgg3
  z3 := Tryd.sizeOf3
  v3 := Tryd.zeroValue3
  t4 := Tryd.underlying4
  a4 := Tryd.isAgg4
  z4 := Tryd.sizeOf4
  v4 := Tryd.zeroValue4
  t9 := Tryd.underlying9
  a9 := Tryd.isAgg9
  z9 := Tryd.sizeOf9
  v9 := Tryd.zeroValue9 }
open Go.Lib in
/-- internal/strconv.small: "small returns the string for an i with 0 <= i < nSmalls.": i's decimal numeral. The world is as it was. (LAID: no walk: one application.) -/
theorem Tryd.internal_strconv_small (i : Nat) (h : i < 100) (w : World) :
    Calls Tryd.prog 39 #[.int .i64 i] w fun e w' => e = .returned (.string ⟨(Lib.decDigits i).toArray⟩) ∧ w' = w := Any.internal_strconv_small Tryd.lays283 i h w
def Tryd.laysM284_ren : Go.Shelf.Ren := ⟨fun | 284 => 40 | 129 => 44 | 317 => 43 | 318 => 45 | n => n, fun | 53 => 59 | 3 => 3 | 212 => 67 | 0 => 0 | 4 => 4 | 46 => 70 | 5 => 5 | 9 => 9 | n => n, fun | 17 => 0 | n => n⟩
theorem Tryd.laysM284 : Go.Proofs.LaysM.n284 Tryd.prog Tryd.laysM284_ren := {
  mixed := by kernel_rfl
  f129 := Tryd.func44.trans (congrArg some (by kernel_rfl))
  f284 := Tryd.func40.trans (congrArg some (by kernel_rfl))
  f317 := Tryd.func43.trans (congrArg some (by kernel_rfl))
  f318 := Tryd.func45.trans (congrArg some (by kernel_rfl))
  t0 := Tryd.underlying0
  a0 := Tryd.isAgg0
  z0 := Tryd.sizeOf0
  v0 := Tryd.zeroValue0
  t3 := Tryd.underlying3
  a3 := Tryd.isAgg3
  z3 := Tryd.sizeOf3
  v3 := Tryd.zeroValue3
  t4 := Tryd.underlying4
  a4 := Tryd.isAgg4
  z4 := Tryd.sizeOf4
  v4 := Tryd.zeroValue4
  t5 := Tryd.underlying5
  a5 := Tryd.isAgg5
  z5 := Tryd.sizeOf5
  v5 := Tryd.zeroValue5
  t9 := Tryd.underlying9
  a9 := Tryd.isAgg9
  z9 := Tryd.sizeOf9
  v9 := Tryd.zeroValue9
  t46 := Tryd.underlying70
  a46 := Tryd.isAgg70
  z46 := Tryd.sizeOf70
  v46 := Tryd.zeroValue70
  t53 := Tryd.underlying59
  a53 := Tryd.isAgg59
  z53 := Tryd.sizeOf59
  v53 := Tryd.zeroValue59
  t212 := Tryd.underlying67
  a212 := Tryd.isAgg67
  z212 := Tryd.sizeOf67
  v212 := Tryd.zeroValue67
  g17 := by kernel_rfl
  i0 := by kernel_rfl
  i3 := by kernel_rfl
  i4 := by kernel_rfl
  i5 := by kernel_rfl
  i9 := by kernel_rfl
  i46 := by kernel_rfl
  i53 := by kernel_rfl
  i212 := by kernel_rfl
  m17 := by kernel_rfl }
open Go.Lib in
/-- internal/strconv.numDigits, at a d that is not 0: THE NUMBER OF d's DECIMAL DIGITS. The world is as it was. (LAID: no walk: one application.) -/
theorem Tryd.internal_strconv_numDigits (u : Nat) (h1 : 1 ≤ u) (h2 : u < 18446744073709551616) (w : World) (htab : Lib.TabIs Tryd.prog w "internal/strconv.uint64pow10" .u64 Lib.pow10Tab) :
    Calls Tryd.prog 40 #[.int .u64 u] w fun e w' => e = .returned (.int .i64 (Lib.nDigits u)) ∧ w' = w := Any.internal_strconv_numDigits Tryd.laysM284 u h1 h2 w htab
def Tryd.lays285_ren : Go.Shelf.Ren := ⟨fun | 285 => 41 | n => n, fun | 37 => 62 | 53 => 59 | 3 => 3 | 4 => 4 | 51 => 68 | 9 => 9 | 5 => 5 | 0 => 0 | n => n, fun | n => n⟩
theorem Tryd.lays285 : Go.Proofs.Lays.n285 Tryd.prog Tryd.lays285_ren := {
  mixed := by kernel_rfl
  f285 := Tryd.func41.trans (congrArg some (by kernel_rfl))
  t0 := Tryd.underlying0
  a0 := Tryd.isAgg0
  z0 := Tryd.sizeOf0
  v0 := Tryd.zeroValue0
  t3 := Tryd.underlying3
  a3 := Tryd.isAgg3
  z3 := Tryd.sizeOf3
  v3 := Tryd.zeroValue3
  t4 := Tryd.underlying4
  a4 := Tryd.isAgg4
  z4 := Tryd.sizeOf4
  v4 := Tryd.zeroValue4
  t5 := Tryd.underlying5
  a5 := Tryd.isAgg5
  z5 := Tryd.sizeOf5
  v5 := Tryd.zeroValue5
  t9 := Tryd.underlying9
  a9 := Tryd.isAgg9
  z9 := Tryd.sizeOf9
  v9 := Tryd.zeroValue9
  t37 := Tryd.underlying62
  a37 := Tryd.isAgg62
  z37 := Tryd.sizeOf62
  v37 := Tryd.zeroValue62
  t51 := Tryd.underlying68
  a51 := Tryd.isAgg68
  z51 := Tryd.sizeOf68
  v51 := Tryd.zeroValue68
  t53 := Tryd.underlying59
  a53 := Tryd.isAgg59
  z53 := Tryd.sizeOf59
  v53 := Tryd.zeroValue59 }
open Go.RowKit Go.Sort Go.Lib in
/-- internal/strconv.formatBase10: "formatBase10 formats the decimal representation of u into a. The caller is responsible for ensuring that a is big enough to hold u. If a is too big, leading zeros will be filled in as needed.": THE ROW HOLDS u's DIGITS ('FmtInv .. 0 ..': every place t holds 'dg u (len - 1 - t)'); all else is as it was but for the count of draws. (LAID: no walk: one application.) -/
theorem Tryd.internal_strconv_formatBase10 (blk off cap : Nat) (u : Nat) (d : Array UInt8) (w : World) (hH : Holds (fun (b : UInt8) => Value.int .u8 (b.toNat : Int)) w blk off d) (hu : u < 10 ^ d.size) (hu64 : u < 18446744073709551616) (hsz : d.size < 4611686018427387904) :
    Calls Tryd.prog 41 #[.slice (some ⟨blk, off, none⟩) d.size cap, .int .u64 u] w fun e w' =>
      e = .returned (.tuple #[]) ∧ ∃ (n v' : Nat) (dk : Array UInt8), w' = (putRow (fun (b : UInt8) => Value.int .u8 (b.toNat : Int)) w blk off dk).drewN n ∧ FmtInv d.size u 0 v' dk := Any.internal_strconv_formatBase10 Tryd.lays285 blk off cap u d w hH hu hu64 hsz
def Tryd.laysM246_ren : Go.Shelf.Ren := ⟨fun | 246 => 38 | 283 => 39 | 284 => 40 | 285 => 41 | 286 => 42 | 129 => 44 | 317 => 43 | 318 => 45 | 319 => 46 | 320 => 47 | 337 => 48 | 338 => 49 | n => n, fun | 2 => 2 | 3 => 3 | 9 => 9 | 4 => 4 | 171 => 58 | 0 => 0 | 53 => 59 | 37 => 62 | 5 => 5 | 173 => 63 | 212 => 67 | 51 => 68 | 20 => 20 | 213 => 69 | 46 => 70 | 232 => 73 | 233 => 74 | n => n, fun | 17 => 0 | 18 => 1 | 19 => 2 | n => n⟩
theorem Tryd.laysM246 : Go.Proofs.LaysM.n246 Tryd.prog Tryd.laysM246_ren := {
  mixed := by kernel_rfl
  f129 := Tryd.func44.trans (congrArg some (by kernel_rfl))
  f246 := Tryd.func38.trans (congrArg some (by kernel_rfl))
  f283 := Tryd.func39.trans (congrArg some (by kernel_rfl))
  f284 := Tryd.func40.trans (congrArg some (by kernel_rfl))
  f285 := Tryd.func41.trans (congrArg some (by kernel_rfl))
  f286 := Tryd.func42.trans (congrArg some (by kernel_rfl))
  f317 := Tryd.func43.trans (congrArg some (by kernel_rfl))
  f318 := Tryd.func45.trans (congrArg some (by kernel_rfl))
  f319 := Tryd.func46.trans (congrArg some (by kernel_rfl))
  f320 := Tryd.func47.trans (congrArg some (by kernel_rfl))
  f337 := Tryd.func48.trans (congrArg some (by kernel_rfl))
  f338 := Tryd.func49.trans (congrArg some (by kernel_rfl))
  t0 := Tryd.underlying0
  a0 := Tryd.isAgg0
  z0 := Tryd.sizeOf0
  v0 := Tryd.zeroValue0
  t2 := Tryd.underlying2
  a2 := Tryd.isAgg2
  z2 := Tryd.sizeOf2
  v2 := Tryd.zeroValue2
  t3 := Tryd.underlying3
  a3 := Tryd.isAgg3
  z3 := Tryd.sizeOf3
  v3 := Tryd.zeroValue3
  t4 := Tryd.underlying4
  a4 := Tryd.isAgg4
  z4 := Tryd.sizeOf4
  v4 := Tryd.zeroValue4
  t5 := Tryd.underlying5
  a5 := Tryd.isAgg5
  z5 := Tryd.sizeOf5
  v5 := Tryd.zeroValue5
  t9 := Tryd.underlying9
  a9 := Tryd.isAgg9
  z9 := Tryd.sizeOf9
  v9 := Tryd.zeroValue9
  t20 := Tryd.underlying20
  a20 := Tryd.isAgg20
  z20 := Tryd.sizeOf20
  v20 := Tryd.zeroValue20
  t37 := Tryd.underlying62
  a37 := Tryd.isAgg62
  z37 := Tryd.sizeOf62
  v37 := Tryd.zeroValue62
  t46 := Tryd.underlying70
  a46 := Tryd.isAgg70
  z46 := Tryd.sizeOf70
  v46 := Tryd.zeroValue70
  t51 := Tryd.underlying68
  a51 := Tryd.isAgg68
  z51 := Tryd.sizeOf68
  v51 := Tryd.zeroValue68
  t53 := Tryd.underlying59
  a53 := Tryd.isAgg59
  z53 := Tryd.sizeOf59
  v53 := Tryd.zeroValue59
  t171 := Tryd.underlying58
  a171 := Tryd.isAgg58
  z171 := Tryd.sizeOf58
  v171 := Tryd.zeroValue58
  t173 := Tryd.underlying63
  a173 := Tryd.isAgg63
  z173 := Tryd.sizeOf63
  v173 := Tryd.zeroValue63
  t212 := Tryd.underlying67
  a212 := Tryd.isAgg67
  z212 := Tryd.sizeOf67
  v212 := Tryd.zeroValue67
  t213 := Tryd.underlying69
  a213 := Tryd.isAgg69
  z213 := Tryd.sizeOf69
  t232 := Tryd.underlying73
  a232 := Tryd.isAgg73
  z232 := Tryd.sizeOf73
  v232 := Tryd.zeroValue73
  t233 := Tryd.underlying74
  a233 := Tryd.isAgg74
  z233 := Tryd.sizeOf74
  v233 := Tryd.zeroValue74
  g17 := by kernel_rfl
  g18 := by kernel_rfl
  g19 := by kernel_rfl
  i0 := by kernel_rfl
  i2 := by kernel_rfl
  i3 := by kernel_rfl
  i4 := by kernel_rfl
  i5 := by kernel_rfl
  i9 := by kernel_rfl
  i20 := by kernel_rfl
  i37 := by kernel_rfl
  i46 := by kernel_rfl
  i51 := by kernel_rfl
  i53 := by kernel_rfl
  i171 := by kernel_rfl
  i173 := by kernel_rfl
  i212 := by kernel_rfl
  i232 := by kernel_rfl
  i233 := by kernel_rfl
  m17 := by kernel_rfl
  m18 := by kernel_rfl
  m19 := by kernel_rfl }
open Go.RowKit Go.Sort Go.Lib in
/-- internal/strconv.FormatInt: "FormatInt returns the string representation of i in the given base": AT BASE 10: i's decimal numeral, for every int64. The world behind the call: the world before it, new blocks behind the heap, draws. (LAID: no walk: one application.) -/
theorem Tryd.internal_strconv_FormatInt_10 (n : Int) (h0 : -9223372036854775808 ≤ n) (h1 : n ≤ 9223372036854775807) (w : World) (htab : Lib.TabIs Tryd.prog w "internal/strconv.uint64pow10" .u64 Lib.pow10Tab) :
    Calls Tryd.prog 38 #[.int .i64 n, .int .i64 10] w fun e w' => e = .returned (.string ⟨(Lib.itoa n).toArray⟩) ∧ ∃ k os, w' = grow (w.drewN k) os := Any.internal_strconv_FormatInt_10 Tryd.laysM246 n h0 h1 w htab
def Tryd.lays246_ren : Go.Shelf.Ren := ⟨fun | 246 => 38 | 283 => 39 | 284 => 40 | 285 => 41 | 286 => 42 | 129 => 44 | 317 => 43 | 318 => 45 | 319 => 46 | 320 => 47 | 337 => 48 | 338 => 49 | n => n, fun | 2 => 2 | 3 => 3 | 9 => 9 | 4 => 4 | 171 => 58 | 0 => 0 | 53 => 59 | 37 => 62 | 5 => 5 | 173 => 63 | 212 => 67 | 51 => 68 | 20 => 20 | 213 => 69 | 46 => 70 | 232 => 73 | 233 => 74 | n => n, fun | 17 => 0 | 18 => 1 | 19 => 2 | n => n⟩
theorem Tryd.lays246 : Go.Proofs.Lays.n246 Tryd.prog Tryd.lays246_ren := {
  mixed := by kernel_rfl
  f129 := Tryd.func44.trans (congrArg some (by kernel_rfl))
  f246 := Tryd.func38.trans (congrArg some (by kernel_rfl))
  f283 := Tryd.func39.trans (congrArg some (by kernel_rfl))
  f284 := Tryd.func40.trans (congrArg some (by kernel_rfl))
  f285 := Tryd.func41.trans (congrArg some (by kernel_rfl))
  f286 := Tryd.func42.trans (congrArg some (by kernel_rfl))
  f317 := Tryd.func43.trans (congrArg some (by kernel_rfl))
  f318 := Tryd.func45.trans (congrArg some (by kernel_rfl))
  f319 := Tryd.func46.trans (congrArg some (by kernel_rfl))
  f320 := Tryd.func47.trans (congrArg some (by kernel_rfl))
  f337 := Tryd.func48.trans (congrArg some (by kernel_rfl))
  f338 := Tryd.func49.trans (congrArg some (by kernel_rfl))
  t0 := Tryd.underlying0
  a0 := Tryd.isAgg0
  z0 := Tryd.sizeOf0
  v0 := Tryd.zeroValue0
  t2 := Tryd.underlying2
  a2 := Tryd.isAgg2
  z2 := Tryd.sizeOf2
  v2 := Tryd.zeroValue2
  t3 := Tryd.underlying3
  a3 := Tryd.isAgg3
  z3 := Tryd.sizeOf3
  v3 := Tryd.zeroValue3
  t4 := Tryd.underlying4
  a4 := Tryd.isAgg4
  z4 := Tryd.sizeOf4
  v4 := Tryd.zeroValue4
  t5 := Tryd.underlying5
  a5 := Tryd.isAgg5
  z5 := Tryd.sizeOf5
  v5 := Tryd.zeroValue5
  t9 := Tryd.underlying9
  a9 := Tryd.isAgg9
  z9 := Tryd.sizeOf9
  v9 := Tryd.zeroValue9
  t20 := Tryd.underlying20
  a20 := Tryd.isAgg20
  z20 := Tryd.sizeOf20
  v20 := Tryd.zeroValue20
  t37 := Tryd.underlying62
  a37 := Tryd.isAgg62
  z37 := Tryd.sizeOf62
  v37 := Tryd.zeroValue62
  t46 := Tryd.underlying70
  a46 := Tryd.isAgg70
  z46 := Tryd.sizeOf70
  v46 := Tryd.zeroValue70
  t51 := Tryd.underlying68
  a51 := Tryd.isAgg68
  z51 := Tryd.sizeOf68
  v51 := Tryd.zeroValue68
  t53 := Tryd.underlying59
  a53 := Tryd.isAgg59
  z53 := Tryd.sizeOf59
  v53 := Tryd.zeroValue59
  t171 := Tryd.underlying58
  a171 := Tryd.isAgg58
  z171 := Tryd.sizeOf58
  v171 := Tryd.zeroValue58
  t173 := Tryd.underlying63
  a173 := Tryd.isAgg63
  z173 := Tryd.sizeOf63
  v173 := Tryd.zeroValue63
  t212 := Tryd.underlying67
  a212 := Tryd.isAgg67
  z212 := Tryd.sizeOf67
  v212 := Tryd.zeroValue67
  t213 := Tryd.underlying69
  a213 := Tryd.isAgg69
  z213 := Tryd.sizeOf69
  t232 := Tryd.underlying73
  a232 := Tryd.isAgg73
  z232 := Tryd.sizeOf73
  v232 := Tryd.zeroValue73
  t233 := Tryd.underlying74
  a233 := Tryd.isAgg74
  z233 := Tryd.sizeOf74
  v233 := Tryd.zeroValue74
  g17 := by kernel_rfl
  g18 := by kernel_rfl
  g19 := by kernel_rfl }
open Go.RowKit Go.Sort Go.Lib in
/-- THE ROAD WITHOUT THE TABLE: 0 <= i < 100: two constants are read, nothing is laid: no premise on the world, and the world is as it was. (LAID: no walk: one application.) -/
theorem Tryd.internal_strconv_FormatInt_10_small (i : Nat) (hi : i < 100) (w : World) :
    Calls Tryd.prog 38 #[.int .i64 i, .int .i64 10] w fun e w' => e = .returned (.string ⟨(Lib.decDigits i).toArray⟩) ∧ w' = w := Any.internal_strconv_FormatInt_10_small Tryd.lays246 i hi w
def Tryd.laysM243_ren : Go.Shelf.Ren := ⟨fun | 243 => 37 | 246 => 38 | 283 => 39 | 284 => 40 | 285 => 41 | 286 => 42 | 129 => 44 | 317 => 43 | 318 => 45 | 319 => 46 | 320 => 47 | 337 => 48 | 338 => 49 | n => n, fun | 3 => 3 | 9 => 9 | 2 => 2 | 4 => 4 | 171 => 58 | 0 => 0 | 53 => 59 | 37 => 62 | 5 => 5 | 173 => 63 | 212 => 67 | 51 => 68 | 20 => 20 | 213 => 69 | 46 => 70 | 232 => 73 | 233 => 74 | n => n, fun | 17 => 0 | 18 => 1 | 19 => 2 | n => n⟩
theorem Tryd.laysM243 : Go.Proofs.LaysM.n243 Tryd.prog Tryd.laysM243_ren := {
  mixed := by kernel_rfl
  f129 := Tryd.func44.trans (congrArg some (by kernel_rfl))
  f243 := Tryd.func37.trans (congrArg some (by kernel_rfl))
  f246 := Tryd.func38.trans (congrArg some (by kernel_rfl))
  f283 := Tryd.func39.trans (congrArg some (by kernel_rfl))
  f284 := Tryd.func40.trans (congrArg some (by kernel_rfl))
  f285 := Tryd.func41.trans (congrArg some (by kernel_rfl))
  f286 := Tryd.func42.trans (congrArg some (by kernel_rfl))
  f317 := Tryd.func43.trans (congrArg some (by kernel_rfl))
  f318 := Tryd.func45.trans (congrArg some (by kernel_rfl))
  f319 := Tryd.func46.trans (congrArg some (by kernel_rfl))
  f320 := Tryd.func47.trans (congrArg some (by kernel_rfl))
  f337 := Tryd.func48.trans (congrArg some (by kernel_rfl))
  f338 := Tryd.func49.trans (congrArg some (by kernel_rfl))
  t0 := Tryd.underlying0
  a0 := Tryd.isAgg0
  z0 := Tryd.sizeOf0
  v0 := Tryd.zeroValue0
  t2 := Tryd.underlying2
  a2 := Tryd.isAgg2
  z2 := Tryd.sizeOf2
  v2 := Tryd.zeroValue2
  t3 := Tryd.underlying3
  a3 := Tryd.isAgg3
  z3 := Tryd.sizeOf3
  v3 := Tryd.zeroValue3
  t4 := Tryd.underlying4
  a4 := Tryd.isAgg4
  z4 := Tryd.sizeOf4
  v4 := Tryd.zeroValue4
  t5 := Tryd.underlying5
  a5 := Tryd.isAgg5
  z5 := Tryd.sizeOf5
  v5 := Tryd.zeroValue5
  t9 := Tryd.underlying9
  a9 := Tryd.isAgg9
  z9 := Tryd.sizeOf9
  v9 := Tryd.zeroValue9
  t20 := Tryd.underlying20
  a20 := Tryd.isAgg20
  z20 := Tryd.sizeOf20
  v20 := Tryd.zeroValue20
  t37 := Tryd.underlying62
  a37 := Tryd.isAgg62
  z37 := Tryd.sizeOf62
  v37 := Tryd.zeroValue62
  t46 := Tryd.underlying70
  a46 := Tryd.isAgg70
  z46 := Tryd.sizeOf70
  v46 := Tryd.zeroValue70
  t51 := Tryd.underlying68
  a51 := Tryd.isAgg68
  z51 := Tryd.sizeOf68
  v51 := Tryd.zeroValue68
  t53 := Tryd.underlying59
  a53 := Tryd.isAgg59
  z53 := Tryd.sizeOf59
  v53 := Tryd.zeroValue59
  t171 := Tryd.underlying58
  a171 := Tryd.isAgg58
  z171 := Tryd.sizeOf58
  v171 := Tryd.zeroValue58
  t173 := Tryd.underlying63
  a173 := Tryd.isAgg63
  z173 := Tryd.sizeOf63
  v173 := Tryd.zeroValue63
  t212 := Tryd.underlying67
  a212 := Tryd.isAgg67
  z212 := Tryd.sizeOf67
  v212 := Tryd.zeroValue67
  t213 := Tryd.underlying69
  a213 := Tryd.isAgg69
  z213 := Tryd.sizeOf69
  t232 := Tryd.underlying73
  a232 := Tryd.isAgg73
  z232 := Tryd.sizeOf73
  v232 := Tryd.zeroValue73
  t233 := Tryd.underlying74
  a233 := Tryd.isAgg74
  z233 := Tryd.sizeOf74
  v233 := Tryd.zeroValue74
  g17 := by kernel_rfl
  g18 := by kernel_rfl
  g19 := by kernel_rfl
  i0 := by kernel_rfl
  i2 := by kernel_rfl
  i3 := by kernel_rfl
  i4 := by kernel_rfl
  i5 := by kernel_rfl
  i9 := by kernel_rfl
  i20 := by kernel_rfl
  i37 := by kernel_rfl
  i46 := by kernel_rfl
  i51 := by kernel_rfl
  i53 := by kernel_rfl
  i171 := by kernel_rfl
  i173 := by kernel_rfl
  i212 := by kernel_rfl
  i232 := by kernel_rfl
  i233 := by kernel_rfl
  m17 := by kernel_rfl
  m18 := by kernel_rfl
  m19 := by kernel_rfl }
open Go.RowKit Go.Sort Go.Lib in
/-- internal/strconv.Itoa: "Itoa is equivalent to FormatInt(int64(i), 10).": i's decimal numeral, for every int. (LAID: no walk: one application.) -/
theorem Tryd.internal_strconv_Itoa (n : Int) (h0 : -9223372036854775808 ≤ n) (h1 : n ≤ 9223372036854775807) (w : World) (htab : Lib.TabIs Tryd.prog w "internal/strconv.uint64pow10" .u64 Lib.pow10Tab) :
    Calls Tryd.prog 37 #[.int .i64 n] w fun e w' => e = .returned (.string ⟨(Lib.itoa n).toArray⟩) ∧ ∃ k os, w' = grow (w.drewN k) os := Any.internal_strconv_Itoa Tryd.laysM243 n h0 h1 w htab
def Tryd.lays243_ren : Go.Shelf.Ren := ⟨fun | 243 => 37 | 246 => 38 | 283 => 39 | 284 => 40 | 285 => 41 | 286 => 42 | 129 => 44 | 317 => 43 | 318 => 45 | 319 => 46 | 320 => 47 | 337 => 48 | 338 => 49 | n => n, fun | 3 => 3 | 9 => 9 | 2 => 2 | 4 => 4 | 171 => 58 | 0 => 0 | 53 => 59 | 37 => 62 | 5 => 5 | 173 => 63 | 212 => 67 | 51 => 68 | 20 => 20 | 213 => 69 | 46 => 70 | 232 => 73 | 233 => 74 | n => n, fun | 17 => 0 | 18 => 1 | 19 => 2 | n => n⟩
theorem Tryd.lays243 : Go.Proofs.Lays.n243 Tryd.prog Tryd.lays243_ren := {
  mixed := by kernel_rfl
  f129 := Tryd.func44.trans (congrArg some (by kernel_rfl))
  f243 := Tryd.func37.trans (congrArg some (by kernel_rfl))
  f246 := Tryd.func38.trans (congrArg some (by kernel_rfl))
  f283 := Tryd.func39.trans (congrArg some (by kernel_rfl))
  f284 := Tryd.func40.trans (congrArg some (by kernel_rfl))
  f285 := Tryd.func41.trans (congrArg some (by kernel_rfl))
  f286 := Tryd.func42.trans (congrArg some (by kernel_rfl))
  f317 := Tryd.func43.trans (congrArg some (by kernel_rfl))
  f318 := Tryd.func45.trans (congrArg some (by kernel_rfl))
  f319 := Tryd.func46.trans (congrArg some (by kernel_rfl))
  f320 := Tryd.func47.trans (congrArg some (by kernel_rfl))
  f337 := Tryd.func48.trans (congrArg some (by kernel_rfl))
  f338 := Tryd.func49.trans (congrArg some (by kernel_rfl))
  t0 := Tryd.underlying0
  a0 := Tryd.isAgg0
  z0 := Tryd.sizeOf0
  v0 := Tryd.zeroValue0
  t2 := Tryd.underlying2
  a2 := Tryd.isAgg2
  z2 := Tryd.sizeOf2
  v2 := Tryd.zeroValue2
  t3 := Tryd.underlying3
  a3 := Tryd.isAgg3
  z3 := Tryd.sizeOf3
  v3 := Tryd.zeroValue3
  t4 := Tryd.underlying4
  a4 := Tryd.isAgg4
  z4 := Tryd.sizeOf4
  v4 := Tryd.zeroValue4
  t5 := Tryd.underlying5
  a5 := Tryd.isAgg5
  z5 := Tryd.sizeOf5
  v5 := Tryd.zeroValue5
  t9 := Tryd.underlying9
  a9 := Tryd.isAgg9
  z9 := Tryd.sizeOf9
  v9 := Tryd.zeroValue9
  t20 := Tryd.underlying20
  a20 := Tryd.isAgg20
  z20 := Tryd.sizeOf20
  v20 := Tryd.zeroValue20
  t37 := Tryd.underlying62
  a37 := Tryd.isAgg62
  z37 := Tryd.sizeOf62
  v37 := Tryd.zeroValue62
  t46 := Tryd.underlying70
  a46 := Tryd.isAgg70
  z46 := Tryd.sizeOf70
  v46 := Tryd.zeroValue70
  t51 := Tryd.underlying68
  a51 := Tryd.isAgg68
  z51 := Tryd.sizeOf68
  v51 := Tryd.zeroValue68
  t53 := Tryd.underlying59
  a53 := Tryd.isAgg59
  z53 := Tryd.sizeOf59
  v53 := Tryd.zeroValue59
  t171 := Tryd.underlying58
  a171 := Tryd.isAgg58
  z171 := Tryd.sizeOf58
  v171 := Tryd.zeroValue58
  t173 := Tryd.underlying63
  a173 := Tryd.isAgg63
  z173 := Tryd.sizeOf63
  v173 := Tryd.zeroValue63
  t212 := Tryd.underlying67
  a212 := Tryd.isAgg67
  z212 := Tryd.sizeOf67
  v212 := Tryd.zeroValue67
  t213 := Tryd.underlying69
  a213 := Tryd.isAgg69
  z213 := Tryd.sizeOf69
  t232 := Tryd.underlying73
  a232 := Tryd.isAgg73
  z232 := Tryd.sizeOf73
  v232 := Tryd.zeroValue73
  t233 := Tryd.underlying74
  a233 := Tryd.isAgg74
  z233 := Tryd.sizeOf74
  v233 := Tryd.zeroValue74
  g17 := by kernel_rfl
  g18 := by kernel_rfl
  g19 := by kernel_rfl }
open Go.RowKit Go.Sort Go.Lib in
/-- THE ROAD WITHOUT THE TABLE: 0 <= i < 100. (LAID: no walk: one application.) -/
theorem Tryd.internal_strconv_Itoa_small (i : Nat) (hi : i < 100) (w : World) :
    Calls Tryd.prog 37 #[.int .i64 i] w fun e w' => e = .returned (.string ⟨(Lib.decDigits i).toArray⟩) ∧ w' = w := Any.internal_strconv_Itoa_small Tryd.lays243 i hi w
def Tryd.laysM171_ren : Go.Shelf.Ren := ⟨fun | 171 => 33 | 243 => 37 | 246 => 38 | 283 => 39 | 284 => 40 | 285 => 41 | 286 => 42 | 129 => 44 | 317 => 43 | 318 => 45 | 319 => 46 | 320 => 47 | 337 => 48 | 338 => 49 | n => n, fun | 3 => 3 | 9 => 9 | 2 => 2 | 4 => 4 | 171 => 58 | 0 => 0 | 53 => 59 | 37 => 62 | 5 => 5 | 173 => 63 | 212 => 67 | 51 => 68 | 20 => 20 | 213 => 69 | 46 => 70 | 232 => 73 | 233 => 74 | n => n, fun | 17 => 0 | 18 => 1 | 19 => 2 | n => n⟩
theorem Tryd.laysM171 : Go.Proofs.LaysM.n171 Tryd.prog Tryd.laysM171_ren := {
  mixed := by kernel_rfl
  f129 := Tryd.func44.trans (congrArg some (by kernel_rfl))
  f171 := Tryd.func33.trans (congrArg some (by kernel_rfl))
  f243 := Tryd.func37.trans (congrArg some (by kernel_rfl))
  f246 := Tryd.func38.trans (congrArg some (by kernel_rfl))
  f283 := Tryd.func39.trans (congrArg some (by kernel_rfl))
  f284 := Tryd.func40.trans (congrArg some (by kernel_rfl))
  f285 := Tryd.func41.trans (congrArg some (by kernel_rfl))
  f286 := Tryd.func42.trans (congrArg some (by kernel_rfl))
  f317 := Tryd.func43.trans (congrArg some (by kernel_rfl))
  f318 := Tryd.func45.trans (congrArg some (by kernel_rfl))
  f319 := Tryd.func46.trans (congrArg some (by kernel_rfl))
  f320 := Tryd.func47.trans (congrArg some (by kernel_rfl))
  f337 := Tryd.func48.trans (congrArg some (by kernel_rfl))
  f338 := Tryd.func49.trans (congrArg some (by kernel_rfl))
  t0 := Tryd.underlying0
  a0 := Tryd.isAgg0
  z0 := Tryd.sizeOf0
  v0 := Tryd.zeroValue0
  t2 := Tryd.underlying2
  a2 := Tryd.isAgg2
  z2 := Tryd.sizeOf2
  v2 := Tryd.zeroValue2
  t3 := Tryd.underlying3
  a3 := Tryd.isAgg3
  z3 := Tryd.sizeOf3
  v3 := Tryd.zeroValue3
  t4 := Tryd.underlying4
  a4 := Tryd.isAgg4
  z4 := Tryd.sizeOf4
  v4 := Tryd.zeroValue4
  t5 := Tryd.underlying5
  a5 := Tryd.isAgg5
  z5 := Tryd.sizeOf5
  v5 := Tryd.zeroValue5
  t9 := Tryd.underlying9
  a9 := Tryd.isAgg9
  z9 := Tryd.sizeOf9
  v9 := Tryd.zeroValue9
  t20 := Tryd.underlying20
  a20 := Tryd.isAgg20
  z20 := Tryd.sizeOf20
  v20 := Tryd.zeroValue20
  t37 := Tryd.underlying62
  a37 := Tryd.isAgg62
  z37 := Tryd.sizeOf62
  v37 := Tryd.zeroValue62
  t46 := Tryd.underlying70
  a46 := Tryd.isAgg70
  z46 := Tryd.sizeOf70
  v46 := Tryd.zeroValue70
  t51 := Tryd.underlying68
  a51 := Tryd.isAgg68
  z51 := Tryd.sizeOf68
  v51 := Tryd.zeroValue68
  t53 := Tryd.underlying59
  a53 := Tryd.isAgg59
  z53 := Tryd.sizeOf59
  v53 := Tryd.zeroValue59
  t171 := Tryd.underlying58
  a171 := Tryd.isAgg58
  z171 := Tryd.sizeOf58
  v171 := Tryd.zeroValue58
  t173 := Tryd.underlying63
  a173 := Tryd.isAgg63
  z173 := Tryd.sizeOf63
  v173 := Tryd.zeroValue63
  t212 := Tryd.underlying67
  a212 := Tryd.isAgg67
  z212 := Tryd.sizeOf67
  v212 := Tryd.zeroValue67
  t213 := Tryd.underlying69
  a213 := Tryd.isAgg69
  z213 := Tryd.sizeOf69
  t232 := Tryd.underlying73
  a232 := Tryd.isAgg73
  z232 := Tryd.sizeOf73
  v232 := Tryd.zeroValue73
  t233 := Tryd.underlying74
  a233 := Tryd.isAgg74
  z233 := Tryd.sizeOf74
  v233 := Tryd.zeroValue74
  g17 := by kernel_rfl
  g18 := by kernel_rfl
  g19 := by kernel_rfl
  i0 := by kernel_rfl
  i2 := by kernel_rfl
  i3 := by kernel_rfl
  i4 := by kernel_rfl
  i5 := by kernel_rfl
  i9 := by kernel_rfl
  i20 := by kernel_rfl
  i37 := by kernel_rfl
  i46 := by kernel_rfl
  i51 := by kernel_rfl
  i53 := by kernel_rfl
  i171 := by kernel_rfl
  i173 := by kernel_rfl
  i212 := by kernel_rfl
  i232 := by kernel_rfl
  i233 := by kernel_rfl
  m17 := by kernel_rfl
  m18 := by kernel_rfl
  m19 := by kernel_rfl }
open Go.RowKit Go.Sort Go.Lib in
/-- strconv.Itoa: "Itoa is equivalent to FormatInt(int64(i), 10).": i's DECIMAL NUMERAL ('Lib.itoa': a '-' where i is negative, then the digits), FOR EVERY int. The world behind the call: the world before it, new blocks behind the heap (the library's 'var a [24]byte'), draws. (LAID: no walk: one application.) -/
theorem Tryd.strconv_Itoa (n : Int) (h0 : -9223372036854775808 ≤ n) (h1 : n ≤ 9223372036854775807) (w : World) (htab : Lib.TabIs Tryd.prog w "internal/strconv.uint64pow10" .u64 Lib.pow10Tab) :
    Calls Tryd.prog 33 #[.int .i64 n] w fun e w' => e = .returned (.string ⟨(Lib.itoa n).toArray⟩) ∧ ∃ k os, w' = grow (w.drewN k) os := Any.strconv_Itoa Tryd.laysM171 n h0 h1 w htab
def Tryd.lays171_ren : Go.Shelf.Ren := ⟨fun | 171 => 33 | 243 => 37 | 246 => 38 | 283 => 39 | 284 => 40 | 285 => 41 | 286 => 42 | 129 => 44 | 317 => 43 | 318 => 45 | 319 => 46 | 320 => 47 | 337 => 48 | 338 => 49 | n => n, fun | 3 => 3 | 9 => 9 | 2 => 2 | 4 => 4 | 171 => 58 | 0 => 0 | 53 => 59 | 37 => 62 | 5 => 5 | 173 => 63 | 212 => 67 | 51 => 68 | 20 => 20 | 213 => 69 | 46 => 70 | 232 => 73 | 233 => 74 | n => n, fun | 17 => 0 | 18 => 1 | 19 => 2 | n => n⟩
theorem Tryd.lays171 : Go.Proofs.Lays.n171 Tryd.prog Tryd.lays171_ren := {
  mixed := by kernel_rfl
  f129 := Tryd.func44.trans (congrArg some (by kernel_rfl))
  f171 := Tryd.func33.trans (congrArg some (by kernel_rfl))
  f243 := Tryd.func37.trans (congrArg some (by kernel_rfl))
  f246 := Tryd.func38.trans (congrArg some (by kernel_rfl))
  f283 := Tryd.func39.trans (congrArg some (by kernel_rfl))
  f284 := Tryd.func40.trans (congrArg some (by kernel_rfl))
  f285 := Tryd.func41.trans (congrArg some (by kernel_rfl))
  f286 := Tryd.func42.trans (congrArg some (by kernel_rfl))
  f317 := Tryd.func43.trans (congrArg some (by kernel_rfl))
  f318 := Tryd.func45.trans (congrArg some (by kernel_rfl))
  f319 := Tryd.func46.trans (congrArg some (by kernel_rfl))
  f320 := Tryd.func47.trans (congrArg some (by kernel_rfl))
  f337 := Tryd.func48.trans (congrArg some (by kernel_rfl))
  f338 := Tryd.func49.trans (congrArg some (by kernel_rfl))
  t0 := Tryd.underlying0
  a0 := Tryd.isAgg0
  z0 := Tryd.sizeOf0
  v0 := Tryd.zeroValue0
  t2 := Tryd.underlying2
  a2 := Tryd.isAgg2
  z2 := Tryd.sizeOf2
  v2 := Tryd.zeroValue2
  t3 := Tryd.underlying3
  a3 := Tryd.isAgg3
  z3 := Tryd.sizeOf3
  v3 := Tryd.zeroValue3
  t4 := Tryd.underlying4
  a4 := Tryd.isAgg4
  z4 := Tryd.sizeOf4
  v4 := Tryd.zeroValue4
  t5 := Tryd.underlying5
  a5 := Tryd.isAgg5
  z5 := Tryd.sizeOf5
  v5 := Tryd.zeroValue5
  t9 := Tryd.underlying9
  a9 := Tryd.isAgg9
  z9 := Tryd.sizeOf9
  v9 := Tryd.zeroValue9
  t20 := Tryd.underlying20
  a20 := Tryd.isAgg20
  z20 := Tryd.sizeOf20
  v20 := Tryd.zeroValue20
  t37 := Tryd.underlying62
  a37 := Tryd.isAgg62
  z37 := Tryd.sizeOf62
  v37 := Tryd.zeroValue62
  t46 := Tryd.underlying70
  a46 := Tryd.isAgg70
  z46 := Tryd.sizeOf70
  v46 := Tryd.zeroValue70
  t51 := Tryd.underlying68
  a51 := Tryd.isAgg68
  z51 := Tryd.sizeOf68
  v51 := Tryd.zeroValue68
  t53 := Tryd.underlying59
  a53 := Tryd.isAgg59
  z53 := Tryd.sizeOf59
  v53 := Tryd.zeroValue59
  t171 := Tryd.underlying58
  a171 := Tryd.isAgg58
  z171 := Tryd.sizeOf58
  v171 := Tryd.zeroValue58
  t173 := Tryd.underlying63
  a173 := Tryd.isAgg63
  z173 := Tryd.sizeOf63
  v173 := Tryd.zeroValue63
  t212 := Tryd.underlying67
  a212 := Tryd.isAgg67
  z212 := Tryd.sizeOf67
  v212 := Tryd.zeroValue67
  t213 := Tryd.underlying69
  a213 := Tryd.isAgg69
  z213 := Tryd.sizeOf69
  t232 := Tryd.underlying73
  a232 := Tryd.isAgg73
  z232 := Tryd.sizeOf73
  v232 := Tryd.zeroValue73
  t233 := Tryd.underlying74
  a233 := Tryd.isAgg74
  z233 := Tryd.sizeOf74
  v233 := Tryd.zeroValue74
  g17 := by kernel_rfl
  g18 := by kernel_rfl
  g19 := by kernel_rfl }
open Go.RowKit Go.Sort Go.Lib in
/-- THE ROAD WITHOUT THE TABLE: 0 <= i < 100: NO PREMISE ON THE WORLD, AND THE WORLD IS AS IT WAS: a row that keeps its argument in that range need list no table ('laid = []'). (LAID: no walk: one application.) -/
theorem Tryd.strconv_Itoa_small (i : Nat) (hi : i < 100) (w : World) :
    Calls Tryd.prog 33 #[.int .i64 i] w fun e w' => e = .returned (.string ⟨(Lib.decDigits i).toArray⟩) ∧ w' = w := Any.strconv_Itoa_small Tryd.lays171 i hi w
end Go.Proofs
namespace Go.AM
open Go Go.Proofs
set_option linter.unusedVariables false
noncomputable section
theorem cond_t {α : Type} {b : Bool} {x y : α} (c : b = true) : cond b x y = x := by subst c; rfl
theorem cond_f {α : Type} {b : Bool} {x y : α} (c : b = false) : cond b x y = y := by subst c; rfl
abbrev I : RTy := .int .i64
abbrev t7 : RTy := (.pair I (.pair I (.pair .bool (.int .u8))))
abbrev t8 : RTy := (.pair I (.pair I (.pair .bool (.int .u8))))
abbrev t13 : RTy := (.pair .str (.int .u64))
abbrev t14 : RTy := (.pair .str (.int .u64))
abbrev t33 : RTy := (.pair I I)
abbrev t34 : RTy := (.pair I I)
abbrev t50 : RTy := (.pair I (.pair I I))
abbrev t53 : RTy := (.pair .str (.pair .str (.pair .str .str)))
abbrev t54 : RTy := (.pair I (.pair I (.pair I I)))
abbrev t58 : RTy := (.pair (.int .u8) (.pair (.int .u8) (.pair (.int .u8) (.pair (.int .u8) (.pair (.int .u8) (.pair (.int .u8) (.pair (.int .u8) (.pair (.int .u8) (.pair (.int .u8) (.pair (.int .u8) (.pair (.int .u8) (.pair (.int .u8) (.pair (.int .u8) (.pair (.int .u8) (.pair (.int .u8) (.pair (.int .u8) (.pair (.int .u8) (.pair (.int .u8) (.pair (.int .u8) (.pair (.int .u8) (.pair (.int .u8) (.pair (.int .u8) (.pair (.int .u8) (.int .u8))))))))))))))))))))))))
abbrev t67 : RTy := (.pair (.int .u64) (.pair (.int .u64) (.pair (.int .u64) (.pair (.int .u64) (.pair (.int .u64) (.pair (.int .u64) (.pair (.int .u64) (.pair (.int .u64) (.pair (.int .u64) (.pair (.int .u64) (.pair (.int .u64) (.pair (.int .u64) (.pair (.int .u64) (.pair (.int .u64) (.pair (.int .u64) (.pair (.int .u64) (.pair (.int .u64) (.pair (.int .u64) (.pair (.int .u64) (.int .u64))))))))))))))))))))
abbrev t73 : RTy := (.pair (.int .u8) (.pair (.int .u8) (.pair (.int .u8) (.pair (.int .u8) (.pair (.int .u8) (.pair (.int .u8) (.pair (.int .u8) (.pair (.int .u8) (.pair (.int .u8) (.pair (.int .u8) (.pair (.int .u8) (.pair (.int .u8) (.pair (.int .u8) (.pair (.int .u8) (.pair (.int .u8) (.pair (.int .u8) (.pair (.int .u8) (.pair (.int .u8) (.pair (.int .u8) (.pair (.int .u8) (.pair (.int .u8) (.pair (.int .u8) (.pair (.int .u8) (.pair (.int .u8) (.pair (.int .u8) (.pair (.int .u8) (.pair (.int .u8) (.pair (.int .u8) (.pair (.int .u8) (.pair (.int .u8) (.pair (.int .u8) (.int .u8))))))))))))))))))))))))))))))))
abbrev t74 : RTy := (.pair (.int .u8) (.pair (.int .u8) (.pair (.int .u8) (.pair (.int .u8) (.pair (.int .u8) (.pair (.int .u8) (.pair (.int .u8) (.pair (.int .u8) (.pair (.int .u8) (.pair (.int .u8) (.pair (.int .u8) (.pair (.int .u8) (.pair (.int .u8) (.pair (.int .u8) (.pair (.int .u8) (.pair (.int .u8) (.pair (.int .u8) (.pair (.int .u8) (.pair (.int .u8) (.pair (.int .u8) (.pair (.int .u8) (.pair (.int .u8) (.pair (.int .u8) (.pair (.int .u8) (.pair (.int .u8) (.pair (.int .u8) (.pair (.int .u8) (.pair (.int .u8) (.pair (.int .u8) (.pair (.int .u8) (.pair (.int .u8) (.pair (.int .u8) (.pair (.int .u8) (.pair (.int .u8) (.pair (.int .u8) (.pair (.int .u8) (.pair (.int .u8) (.pair (.int .u8) (.pair (.int .u8) (.pair (.int .u8) (.pair (.int .u8) (.pair (.int .u8) (.pair (.int .u8) (.pair (.int .u8) (.pair (.int .u8) (.pair (.int .u8) (.pair (.int .u8) (.pair (.int .u8) (.pair (.int .u8) (.pair (.int .u8) (.pair (.int .u8) (.pair (.int .u8) (.pair (.int .u8) (.pair (.int .u8) (.pair (.int .u8) (.pair (.int .u8) (.pair (.int .u8) (.pair (.int .u8) (.pair (.int .u8) (.pair (.int .u8) (.pair (.int .u8) (.pair (.int .u8) (.pair (.int .u8) (.int .u8))))))))))))))))))))))))))))))))))))))))))))))))))))))))))))))))
abbrev t79 : RTy := .unit
abbrev t80 : RTy := .unit
def pow10Name : String := "internal/strconv.uint64pow10"
instance : GT Tryd.prog := ⟨fun w => Lib.TabIs Tryd.prog w pow10Name .u64 Lib.pow10Tab, fun w w' hk h => tabIs_keep w w' hk h⟩
def Rt : Tab := lookT [(1, .fn), (2, I), (3, I), (4, .bool), (5, (.int .u8)), (6, (.int .u8)), (7, t7), (8, t8), (9, .str), (10, .str), (11, .str), (12, (.int .u64)), (13, t13), (14, t14), (21, (.int .i32)), (22, I), (24, .fn), (25, .fn), (26, .fn), (27, (.list I)), (29, .fn), (30, .fn), (31, .fn), (32, .fn), (33, t33), (34, t34), (35, (.list t34)), (37, .fn), (38, .fn), (39, .fn), (40, .fn), (41, .fn), (42, .fn), (44, .fn), (45, .fn), (46, .fn), (47, .fn), (48, .fn), (49, .fn), (50, t50), (51, .fn), (52, .fn), (53, t53), (54, t54), (56, .fn), (57, .fn), (58, t58), (59, (.int .u64)), (60, .fn), (61, .fn), (62, (.list (.int .u8))), (64, .fn), (65, .fn), (66, .fn), (67, t67), (68, (.int .u32)), (70, (.int .u64)), (71, .fn), (72, .fn), (73, t73), (74, t74), (75, .fn), (78, .unit), (79, t79), (80, t80), (81, .fn), (82, (.int .u8)), (83, (.int .u8)), (84, .fn), (86, (.int .i32)), (87, (.int .i32))]
theorem hm : Tryd.prog.follows .mixedOrders = true := by kernel_rfl

end
end Go.AM
namespace Go.AM
open Go Go.Proofs
set_option linter.unusedVariables false
noncomputable section
/-! ### function 27: papermill/clock.moment -/
def K27 (k : Nat) : Calld := ⟨fun g => match g with
  | _ => none, fun g xs _ => match g with
  | _ => none⟩
abbrev R27 : Type := Bool
def res27 (r : R27) : AV := .r (.v (.bool r))
def bo27 (r : R27) : List (Nat × Blk) := []
def f27 (k : Nat) (t_ : Int) : Option R27 :=
  some (decide (t_ ≥ 0) && decide (t_ ≤ 2147483647))
def args27 (t_ : Int) : List AV := [.r (.v (.int .i64 t_))]
def v27 (k : Nat) (t_ : Int) : R27 := (f27 k t_).getD false
theorem of27 (k : Nat) (t_ : Int) (r : R27) (h : f27 k t_ = some r) : CC Tryd.prog 27 (args27 t_) [] (res27 r) (bo27 r) := by
  refine CC.of (fn := Tryd.f27) (by kernel_rfl) (by kernel_rfl) (by kernel_rfl) (by kernel_rfl) ?_
  unfold f27 at h
  refine Ev.tree hm (R := Rt) (K := (K27 k)) (l := []) (C := []) (E := [.auto [2] true]) (n := 1000) (T := .leaf (res27 (decide (t_ ≥ 0) && decide (t_ ≤ 2147483647))) (bo27 (decide (t_ ≥ 0) && decide (t_ ≤ 2147483647)))) (by kernel_rfl) ?_
  cases h; exact ⟨rfl, rfl⟩
theorem cc27 (k : Nat) (t_ : Int) (h : (f27 k t_).isSome = true) : CC Tryd.prog 27 (args27 t_) [] (res27 (v27 k t_)) (bo27 (v27 k t_)) := by
  cases e : f27 k t_ with
  | none => rw [e] at h; cases h
  | some r => rw [show v27 k t_ = r by simp [v27, e]]; exact of27 k t_ r e

end
end Go.AM
namespace Go.AM
open Go Go.Proofs
set_option linter.unusedVariables false
noncomputable section
/-! ### strconv.Itoa -/
abbrev R33 : Type := ByteArray
def res33 (r : R33) : AV := .r (.v (.string r))
def bo33 (r : R33) : List (Nat × Blk) := []
def itoaB (n : Int) : ByteArray := ⟨(Lib.itoa n).toArray⟩
def f33 (k : Nat) (i_ : Int) : Option R33 := if -9223372036854775808 ≤ i_ ∧ i_ ≤ 9223372036854775807 then some (itoaB i_) else none
def args33 (i_ : Int) : List AV := [.r (.v (.int .i64 i_))]
def v33 (k : Nat) (i_ : Int) : R33 := (f33 k i_).getD ByteArray.empty
theorem of33 (k : Nat) (i_ : Int) (r : R33) (h : f33 k i_ = some r) : CC Tryd.prog 33 (args33 i_) [] (res33 r) (bo33 r) := by
  unfold f33 at h
  by_cases q : -9223372036854775808 ≤ i_ ∧ i_ ≤ 9223372036854775807
  · rw [if_pos q] at h
    cases h
    refine cc_plain (xs := [.int .i64 i_]) ⟨Tryd.f33, _, Tryd.func33, rfl, by kernel_rfl⟩ fun w hG => ?_
    refine (Tryd.strconv_Itoa i_ q.1 q.2 w hG).mono fun e w' ⟨he, k, os, hw⟩ => ?_
    subst hw
    exact ⟨he, grow_grew w k os, fun B hB => grow_frame w k os B hB⟩
  · rw [if_neg q] at h; cases h
theorem cc33 (k : Nat) (i_ : Int) (h : (f33 k i_).isSome = true) : CC Tryd.prog 33 (args33 i_) [] (res33 (v33 k i_)) (bo33 (v33 k i_)) := by
  cases e : f33 k i_ with
  | none => rw [e] at h; cases h
  | some r => rw [show v33 k i_ = r by simp [v33, e]]; exact of33 k i_ r e

end
end Go.AM
namespace Go.AM
open Go Go.Proofs
set_option linter.unusedVariables false
noncomputable section
/-! ### function 34: papermill/clock.fields -/
def K34 (k : Nat) : Calld := ⟨fun g => match g with
  | _ => none, fun g xs _ => match g with
  | _ => none⟩
abbrev R34 : Type := Int × Int × Int
def res34 (r : R34) : AV := .agg [.r (.v (.int .i64 r.1)), .r (.v (.int .i64 r.2.1)), .r (.v (.int .i64 r.2.2))]
def bo34 (r : R34) : List (Nat × Blk) := []
def f34 (k : Nat) (t_ : Int) : Option R34 :=
  if ((86400 : Int) ≠ (0 : Int)) ∧ ((3600 : Int) ≠ (0 : Int)) ∧ ((3600 : Int) ≠ (0 : Int)) ∧ ((60 : Int) ≠ (0 : Int)) ∧ ((60 : Int) ≠ (0 : Int)) then
    some ((IntKind.i64.wrap ((t_.tmod 86400).tdiv 3600), IntKind.i64.wrap ((t_.tmod 3600).tdiv 60), t_.tmod 60))
  else none
def args34 (t_ : Int) : List AV := [.r (.v (.int .i64 t_))]
def v34 (k : Nat) (t_ : Int) : R34 := (f34 k t_).getD (0, 0, 0)
theorem of34 (k : Nat) (t_ : Int) (r : R34) (h : f34 k t_ = some r) : CC Tryd.prog 34 (args34 t_) [] (res34 r) (bo34 r) := by
  refine CC.of (fn := Tryd.f34) (by kernel_rfl) (by kernel_rfl) (by kernel_rfl) (by kernel_rfl) ?_
  unfold f34 at h
  refine Ev.tree hm (R := Rt) (K := (K34 k)) (l := []) (C := []) (E := [.auto [2] true]) (n := 1000) (T := .need [(86400 : Int) ≠ (0 : Int), (3600 : Int) ≠ (0 : Int), (3600 : Int) ≠ (0 : Int), (60 : Int) ≠ (0 : Int), (60 : Int) ≠ (0 : Int)] (.leaf (res34 ((IntKind.i64.wrap ((t_.tmod 86400).tdiv 3600), IntKind.i64.wrap ((t_.tmod 3600).tdiv 60), t_.tmod 60))) (bo34 ((IntKind.i64.wrap ((t_.tmod 86400).tdiv 3600), IntKind.i64.wrap ((t_.tmod 3600).tdiv 60), t_.tmod 60))))) (by kernel_rfl) ?_
  by_cases q : ((86400 : Int) ≠ (0 : Int)) ∧ ((3600 : Int) ≠ (0 : Int)) ∧ ((3600 : Int) ≠ (0 : Int)) ∧ ((60 : Int) ≠ (0 : Int)) ∧ ((60 : Int) ≠ (0 : Int))
  · rw [if_pos q] at h
    refine ⟨(conjC q.1 (conjC q.2.1 (conjC q.2.2.1 (conjC q.2.2.2.1 (conjC q.2.2.2.2 conj0))))), ?_⟩
    cases h; exact ⟨rfl, rfl⟩
  · rw [if_neg q] at h; cases h
theorem cc34 (k : Nat) (t_ : Int) (h : (f34 k t_).isSome = true) : CC Tryd.prog 34 (args34 t_) [] (res34 (v34 k t_)) (bo34 (v34 k t_)) := by
  cases e : f34 k t_ with
  | none => rw [e] at h; cases h
  | some r => rw [show v34 k t_ = r by simp [v34, e]]; exact of34 k t_ r e

end
end Go.AM
namespace Go.AM
open Go Go.Proofs
set_option linter.unusedVariables false
noncomputable section
/-! ### function 23: papermill/clock.Format -/
def K23 (k : Nat) : Calld := ⟨fun g => match g with
  | 27 => some [false]
  | 33 => some [false]
  | 34 => some [false]
  | _ => none, fun g xs _ => match g with
  | 27 => match xs with
    | [.r (.v (.int .i64 t_))] => some (res27 (v27 k t_), bo27 (v27 k t_))
    | _ => none
  | 33 => match xs with
    | [.r (.v (.int .i64 i_))] => some (res33 (v33 k i_), bo33 (v33 k i_))
    | _ => none
  | 34 => match xs with
    | [.r (.v (.int .i64 t_))] => some (res34 (v34 k t_), bo34 (v34 k t_))
    | _ => none
  | _ => none⟩
abbrev R23 : Type := ByteArray × Int
def res23 (r : R23) : AV := .tup [.r (.v (.string r.1)), .r (.v (.int .i64 r.2))]
def bo23 (r : R23) : List (Nat × Blk) := []
def st23_10006 (x0 : ByteArray) (x1 : ByteArray) (x2 : Int) (x3 : Int) (x4 : Int) : St := ⟨mkS 32 [(4, .r (.v (.string x0))), (5, .r (.v (.string x1))), (15, .agg [.r (.v (.int .i64 x2)), .r (.v (.int .i64 x3)), .r (.v (.int .i64 x4))]), (16, .r (.v (.int .i64 0)))], []⟩
def st23_20006 (x0 : ByteArray) (x1 : ByteArray) (x2 : Int) (x3 : Int) (x4 : Int) : St := ⟨mkS 32 [(4, .r (.v (.string x0))), (5, .r (.v (.string x1))), (15, .agg [.r (.v (.int .i64 x2)), .r (.v (.int .i64 x3)), .r (.v (.int .i64 x4))]), (16, .r (.v (.int .i64 1)))], []⟩
def st23_30006 (x0 : ByteArray) (x1 : ByteArray) (x2 : Int) (x3 : Int) (x4 : Int) : St := ⟨mkS 32 [(4, .r (.v (.string x0))), (5, .r (.v (.string x1))), (15, .agg [.r (.v (.int .i64 x2)), .r (.v (.int .i64 x3)), .r (.v (.int .i64 x4))]), (16, .r (.v (.int .i64 2)))], []⟩
def st23_40006 (x0 : ByteArray) (x1 : ByteArray) (x2 : Int) (x3 : Int) (x4 : Int) : St := ⟨mkS 32 [(4, .r (.v (.string x0))), (5, .r (.v (.string x1))), (15, .agg [.r (.v (.int .i64 x2)), .r (.v (.int .i64 x3)), .r (.v (.int .i64 x4))]), (16, .r (.v (.int .i64 3)))], []⟩
mutual
def f23_10006 (k : Nat) : Nat → ByteArray → ByteArray → Int → Int → Int → Option R23
  | 0, _, _, _, _, _ => none
  | j + 1, x0, x1, x2, x3, x4 =>
    if ((0 : Int) ≤ (0 : Int)) ∧ ((0 : Int) < (↑ (3 : Nat) : Int)) then
      if ((10 : Int) ≠ (0 : Int)) ∧ ((f33 k (IntKind.i64.wrap (x2.tdiv 10))).isSome = true) ∧ ((↑ (x1.size + ByteArray.size (v33 k (IntKind.i64.wrap (x2.tdiv (10 : Int))))) : Int) ≤ IntKind.i64.max) ∧ ((10 : Int) ≠ (0 : Int)) ∧ ((f33 k (x2.tmod 10)).isSome = true) ∧ ((↑ ((x1 ++ v33 k (IntKind.i64.wrap (x2.tdiv (10 : Int)))).size + ByteArray.size (v33 k (x2.tmod (10 : Int)))) : Int) ≤ IntKind.i64.max) ∧ ((↑ (x0.size + (x1 ++ v33 k (IntKind.i64.wrap (x2.tdiv (10 : Int))) ++ v33 k (x2.tmod (10 : Int))).size) : Int) ≤ IntKind.i64.max) then
        f23_20006 k j ((x0 ++ (x1 ++ v33 k (IntKind.i64.wrap (x2.tdiv 10)) ++ v33 k (x2.tmod 10)))) ((ByteArray.mk #[58])) x2 x3 x4
      else none
    else none
def f23_20006 (k : Nat) : Nat → ByteArray → ByteArray → Int → Int → Int → Option R23
  | 0, _, _, _, _, _ => none
  | j + 1, x0, x1, x2, x3, x4 =>
    if ((0 : Int) ≤ (1 : Int)) ∧ ((1 : Int) < (↑ (3 : Nat) : Int)) then
      if ((10 : Int) ≠ (0 : Int)) ∧ ((f33 k (IntKind.i64.wrap (x3.tdiv 10))).isSome = true) ∧ ((↑ (x1.size + ByteArray.size (v33 k (IntKind.i64.wrap (x3.tdiv (10 : Int))))) : Int) ≤ IntKind.i64.max) ∧ ((10 : Int) ≠ (0 : Int)) ∧ ((f33 k (x3.tmod 10)).isSome = true) ∧ ((↑ ((x1 ++ v33 k (IntKind.i64.wrap (x3.tdiv (10 : Int)))).size + ByteArray.size (v33 k (x3.tmod (10 : Int)))) : Int) ≤ IntKind.i64.max) ∧ ((↑ (x0.size + (x1 ++ v33 k (IntKind.i64.wrap (x3.tdiv (10 : Int))) ++ v33 k (x3.tmod (10 : Int))).size) : Int) ≤ IntKind.i64.max) then
        f23_30006 k j ((x0 ++ (x1 ++ v33 k (IntKind.i64.wrap (x3.tdiv 10)) ++ v33 k (x3.tmod 10)))) ((ByteArray.mk #[58])) x2 x3 x4
      else none
    else none
def f23_30006 (k : Nat) : Nat → ByteArray → ByteArray → Int → Int → Int → Option R23
  | 0, _, _, _, _, _ => none
  | j + 1, x0, x1, x2, x3, x4 =>
    if ((0 : Int) ≤ (2 : Int)) ∧ ((2 : Int) < (↑ (3 : Nat) : Int)) then
      if ((10 : Int) ≠ (0 : Int)) ∧ ((f33 k (IntKind.i64.wrap (x4.tdiv 10))).isSome = true) ∧ ((↑ (x1.size + ByteArray.size (v33 k (IntKind.i64.wrap (x4.tdiv (10 : Int))))) : Int) ≤ IntKind.i64.max) ∧ ((10 : Int) ≠ (0 : Int)) ∧ ((f33 k (x4.tmod 10)).isSome = true) ∧ ((↑ ((x1 ++ v33 k (IntKind.i64.wrap (x4.tdiv (10 : Int)))).size + ByteArray.size (v33 k (x4.tmod (10 : Int)))) : Int) ≤ IntKind.i64.max) ∧ ((↑ (x0.size + (x1 ++ v33 k (IntKind.i64.wrap (x4.tdiv (10 : Int))) ++ v33 k (x4.tmod (10 : Int))).size) : Int) ≤ IntKind.i64.max) then
        f23_40006 k j ((x0 ++ (x1 ++ v33 k (IntKind.i64.wrap (x4.tdiv 10)) ++ v33 k (x4.tmod 10)))) ((ByteArray.mk #[58])) x2 x3 x4
      else none
    else none
def f23_40006 (k : Nat) : Nat → ByteArray → ByteArray → Int → Int → Int → Option R23
  | 0, _, _, _, _, _ => none
  | j + 1, x0, x1, x2, x3, x4 =>
    some ((x0, 0))
end
def f23 (k : Nat) (t_ : Int) : Option R23 :=
  if ((f27 k t_).isSome = true) then
    bif (!v27 k t_) then
      some ((ByteArray.mk #[], 1))
    else
      if ((86400 : Int) ≠ (0 : Int)) ∧ ((f33 k (IntKind.i64.wrap (t_.tdiv 86400))).isSome = true) then
        if ((f34 k t_).isSome = true) then
          f23_10006 k k ((v33 k (IntKind.i64.wrap (t_.tdiv 86400)))) ((ByteArray.mk #[32])) ((v34 k t_).fst) ((v34 k t_).snd.fst) ((v34 k t_).snd.snd)
        else none
      else none
  else none
def args23 (t_ : Int) : List AV := [.r (.v (.int .i64 t_))]
def v23 (k : Nat) (t_ : Int) : R23 := (f23 k t_).getD (ByteArray.empty, 0)
theorem ev23 (k : Nat) : ∀ j, (∀ (x0 : ByteArray) (x1 : ByteArray) (x2 : Int) (x3 : Int) (x4 : Int) (r : R23), f23_10006 k j x0 x1 x2 x3 x4 = some r → Ev Tryd.prog Tryd.f23 0 (placeAt Tryd.f23 6) (st23_10006 x0 x1 x2 x3 x4) (res23 r) (bo23 r)) ∧ (∀ (x0 : ByteArray) (x1 : ByteArray) (x2 : Int) (x3 : Int) (x4 : Int) (r : R23), f23_20006 k j x0 x1 x2 x3 x4 = some r → Ev Tryd.prog Tryd.f23 0 (placeAt Tryd.f23 6) (st23_20006 x0 x1 x2 x3 x4) (res23 r) (bo23 r)) ∧ (∀ (x0 : ByteArray) (x1 : ByteArray) (x2 : Int) (x3 : Int) (x4 : Int) (r : R23), f23_30006 k j x0 x1 x2 x3 x4 = some r → Ev Tryd.prog Tryd.f23 0 (placeAt Tryd.f23 6) (st23_30006 x0 x1 x2 x3 x4) (res23 r) (bo23 r)) ∧ (∀ (x0 : ByteArray) (x1 : ByteArray) (x2 : Int) (x3 : Int) (x4 : Int) (r : R23), f23_40006 k j x0 x1 x2 x3 x4 = some r → Ev Tryd.prog Tryd.f23 0 (placeAt Tryd.f23 6) (st23_40006 x0 x1 x2 x3 x4) (res23 r) (bo23 r))
  | 0 => by
    refine ⟨?_, ?_, ?_, ?_⟩ <;> intros <;> rename_i h <;> simp [f23_10006, f23_20006, f23_30006, f23_40006] at h
  | j + 1 => by
    have ih := ev23 k j
    refine ⟨?_, ?_, ?_, ?_⟩
    · intro x0 x1 x2 x3 x4 r h
      rw [f23_10006] at h
      refine Ev.tree hm (R := Rt) (K := (K23 k)) (l := []) (C := [(6, [.key 16, .auto [4, 5, 15, 16] false])]) (E := [.auto [2, 3] true]) (n := 1000) (T := .test (true) (.need [(0 : Int) ≤ (0 : Int), (0 : Int) < (↑ (3 : Nat) : Int)] (.need [(10 : Int) ≠ (0 : Int), CC Tryd.prog 33 (args33 (IntKind.i64.wrap (x2.tdiv 10))) [] (res33 (v33 k (IntKind.i64.wrap (x2.tdiv 10)))) (bo33 (v33 k (IntKind.i64.wrap (x2.tdiv 10)))), (↑ (x1.size + ByteArray.size (v33 k (IntKind.i64.wrap (x2.tdiv (10 : Int))))) : Int) ≤ IntKind.i64.max, (10 : Int) ≠ (0 : Int), CC Tryd.prog 33 (args33 (x2.tmod 10)) [] (res33 (v33 k (x2.tmod 10))) (bo33 (v33 k (x2.tmod 10))), (↑ ((x1 ++ v33 k (IntKind.i64.wrap (x2.tdiv (10 : Int)))).size + ByteArray.size (v33 k (x2.tmod (10 : Int)))) : Int) ≤ IntKind.i64.max, (↑ (x0.size + (x1 ++ v33 k (IntKind.i64.wrap (x2.tdiv (10 : Int))) ++ v33 k (x2.tmod (10 : Int))).size) : Int) ≤ IntKind.i64.max] (.cut 20006 (placeAt Tryd.f23 6) (st23_20006 ((x0 ++ (x1 ++ v33 k (IntKind.i64.wrap (x2.tdiv 10)) ++ v33 k (x2.tmod 10)))) ((ByteArray.mk #[58])) x2 x3 x4)))) (.leaf (res23 ((x0, 0))) (bo23 ((x0, 0))))) (by kernel_rfl) ?_
      refine ⟨fun c => ?_, fun c => ?_⟩
      rotate_left
      · cases c
      by_cases q : ((0 : Int) ≤ (0 : Int)) ∧ ((0 : Int) < (↑ (3 : Nat) : Int))
      · rw [if_pos q] at h
        refine ⟨(conjC q.1 (conjC q.2 conj0)), ?_⟩
        by_cases q : ((10 : Int) ≠ (0 : Int)) ∧ ((f33 k (IntKind.i64.wrap (x2.tdiv 10))).isSome = true) ∧ ((↑ (x1.size + ByteArray.size (v33 k (IntKind.i64.wrap (x2.tdiv (10 : Int))))) : Int) ≤ IntKind.i64.max) ∧ ((10 : Int) ≠ (0 : Int)) ∧ ((f33 k (x2.tmod 10)).isSome = true) ∧ ((↑ ((x1 ++ v33 k (IntKind.i64.wrap (x2.tdiv (10 : Int)))).size + ByteArray.size (v33 k (x2.tmod (10 : Int)))) : Int) ≤ IntKind.i64.max) ∧ ((↑ (x0.size + (x1 ++ v33 k (IntKind.i64.wrap (x2.tdiv (10 : Int))) ++ v33 k (x2.tmod (10 : Int))).size) : Int) ≤ IntKind.i64.max)
        · rw [if_pos q] at h
          refine ⟨(conjC q.1 (conjC (cc33 k (IntKind.i64.wrap (x2.tdiv 10)) q.2.1) (conjC q.2.2.1 (conjC q.2.2.2.1 (conjC (cc33 k (x2.tmod 10) q.2.2.2.2.1) (conjC q.2.2.2.2.2.1 (conjC q.2.2.2.2.2.2 conj0))))))), ?_⟩
          exact ih.2.1 ((x0 ++ (x1 ++ v33 k (IntKind.i64.wrap (x2.tdiv 10)) ++ v33 k (x2.tmod 10)))) ((ByteArray.mk #[58])) x2 x3 x4 _ h
        · rw [if_neg q] at h; cases h
      · rw [if_neg q] at h; cases h
    · intro x0 x1 x2 x3 x4 r h
      rw [f23_20006] at h
      refine Ev.tree hm (R := Rt) (K := (K23 k)) (l := []) (C := [(6, [.key 16, .auto [4, 5, 15, 16] false])]) (E := [.auto [2, 3] true]) (n := 1000) (T := .test (true) (.need [(0 : Int) ≤ (1 : Int), (1 : Int) < (↑ (3 : Nat) : Int)] (.need [(10 : Int) ≠ (0 : Int), CC Tryd.prog 33 (args33 (IntKind.i64.wrap (x3.tdiv 10))) [] (res33 (v33 k (IntKind.i64.wrap (x3.tdiv 10)))) (bo33 (v33 k (IntKind.i64.wrap (x3.tdiv 10)))), (↑ (x1.size + ByteArray.size (v33 k (IntKind.i64.wrap (x3.tdiv (10 : Int))))) : Int) ≤ IntKind.i64.max, (10 : Int) ≠ (0 : Int), CC Tryd.prog 33 (args33 (x3.tmod 10)) [] (res33 (v33 k (x3.tmod 10))) (bo33 (v33 k (x3.tmod 10))), (↑ ((x1 ++ v33 k (IntKind.i64.wrap (x3.tdiv (10 : Int)))).size + ByteArray.size (v33 k (x3.tmod (10 : Int)))) : Int) ≤ IntKind.i64.max, (↑ (x0.size + (x1 ++ v33 k (IntKind.i64.wrap (x3.tdiv (10 : Int))) ++ v33 k (x3.tmod (10 : Int))).size) : Int) ≤ IntKind.i64.max] (.cut 30006 (placeAt Tryd.f23 6) (st23_30006 ((x0 ++ (x1 ++ v33 k (IntKind.i64.wrap (x3.tdiv 10)) ++ v33 k (x3.tmod 10)))) ((ByteArray.mk #[58])) x2 x3 x4)))) (.leaf (res23 ((x0, 0))) (bo23 ((x0, 0))))) (by kernel_rfl) ?_
      refine ⟨fun c => ?_, fun c => ?_⟩
      rotate_left
      · cases c
      by_cases q : ((0 : Int) ≤ (1 : Int)) ∧ ((1 : Int) < (↑ (3 : Nat) : Int))
      · rw [if_pos q] at h
        refine ⟨(conjC q.1 (conjC q.2 conj0)), ?_⟩
        by_cases q : ((10 : Int) ≠ (0 : Int)) ∧ ((f33 k (IntKind.i64.wrap (x3.tdiv 10))).isSome = true) ∧ ((↑ (x1.size + ByteArray.size (v33 k (IntKind.i64.wrap (x3.tdiv (10 : Int))))) : Int) ≤ IntKind.i64.max) ∧ ((10 : Int) ≠ (0 : Int)) ∧ ((f33 k (x3.tmod 10)).isSome = true) ∧ ((↑ ((x1 ++ v33 k (IntKind.i64.wrap (x3.tdiv (10 : Int)))).size + ByteArray.size (v33 k (x3.tmod (10 : Int)))) : Int) ≤ IntKind.i64.max) ∧ ((↑ (x0.size + (x1 ++ v33 k (IntKind.i64.wrap (x3.tdiv (10 : Int))) ++ v33 k (x3.tmod (10 : Int))).size) : Int) ≤ IntKind.i64.max)
        · rw [if_pos q] at h
          refine ⟨(conjC q.1 (conjC (cc33 k (IntKind.i64.wrap (x3.tdiv 10)) q.2.1) (conjC q.2.2.1 (conjC q.2.2.2.1 (conjC (cc33 k (x3.tmod 10) q.2.2.2.2.1) (conjC q.2.2.2.2.2.1 (conjC q.2.2.2.2.2.2 conj0))))))), ?_⟩
          exact ih.2.2.1 ((x0 ++ (x1 ++ v33 k (IntKind.i64.wrap (x3.tdiv 10)) ++ v33 k (x3.tmod 10)))) ((ByteArray.mk #[58])) x2 x3 x4 _ h
        · rw [if_neg q] at h; cases h
      · rw [if_neg q] at h; cases h
    · intro x0 x1 x2 x3 x4 r h
      rw [f23_30006] at h
      refine Ev.tree hm (R := Rt) (K := (K23 k)) (l := []) (C := [(6, [.key 16, .auto [4, 5, 15, 16] false])]) (E := [.auto [2, 3] true]) (n := 1000) (T := .test (true) (.need [(0 : Int) ≤ (2 : Int), (2 : Int) < (↑ (3 : Nat) : Int)] (.need [(10 : Int) ≠ (0 : Int), CC Tryd.prog 33 (args33 (IntKind.i64.wrap (x4.tdiv 10))) [] (res33 (v33 k (IntKind.i64.wrap (x4.tdiv 10)))) (bo33 (v33 k (IntKind.i64.wrap (x4.tdiv 10)))), (↑ (x1.size + ByteArray.size (v33 k (IntKind.i64.wrap (x4.tdiv (10 : Int))))) : Int) ≤ IntKind.i64.max, (10 : Int) ≠ (0 : Int), CC Tryd.prog 33 (args33 (x4.tmod 10)) [] (res33 (v33 k (x4.tmod 10))) (bo33 (v33 k (x4.tmod 10))), (↑ ((x1 ++ v33 k (IntKind.i64.wrap (x4.tdiv (10 : Int)))).size + ByteArray.size (v33 k (x4.tmod (10 : Int)))) : Int) ≤ IntKind.i64.max, (↑ (x0.size + (x1 ++ v33 k (IntKind.i64.wrap (x4.tdiv (10 : Int))) ++ v33 k (x4.tmod (10 : Int))).size) : Int) ≤ IntKind.i64.max] (.cut 40006 (placeAt Tryd.f23 6) (st23_40006 ((x0 ++ (x1 ++ v33 k (IntKind.i64.wrap (x4.tdiv 10)) ++ v33 k (x4.tmod 10)))) ((ByteArray.mk #[58])) x2 x3 x4)))) (.leaf (res23 ((x0, 0))) (bo23 ((x0, 0))))) (by kernel_rfl) ?_
      refine ⟨fun c => ?_, fun c => ?_⟩
      rotate_left
      · cases c
      by_cases q : ((0 : Int) ≤ (2 : Int)) ∧ ((2 : Int) < (↑ (3 : Nat) : Int))
      · rw [if_pos q] at h
        refine ⟨(conjC q.1 (conjC q.2 conj0)), ?_⟩
        by_cases q : ((10 : Int) ≠ (0 : Int)) ∧ ((f33 k (IntKind.i64.wrap (x4.tdiv 10))).isSome = true) ∧ ((↑ (x1.size + ByteArray.size (v33 k (IntKind.i64.wrap (x4.tdiv (10 : Int))))) : Int) ≤ IntKind.i64.max) ∧ ((10 : Int) ≠ (0 : Int)) ∧ ((f33 k (x4.tmod 10)).isSome = true) ∧ ((↑ ((x1 ++ v33 k (IntKind.i64.wrap (x4.tdiv (10 : Int)))).size + ByteArray.size (v33 k (x4.tmod (10 : Int)))) : Int) ≤ IntKind.i64.max) ∧ ((↑ (x0.size + (x1 ++ v33 k (IntKind.i64.wrap (x4.tdiv (10 : Int))) ++ v33 k (x4.tmod (10 : Int))).size) : Int) ≤ IntKind.i64.max)
        · rw [if_pos q] at h
          refine ⟨(conjC q.1 (conjC (cc33 k (IntKind.i64.wrap (x4.tdiv 10)) q.2.1) (conjC q.2.2.1 (conjC q.2.2.2.1 (conjC (cc33 k (x4.tmod 10) q.2.2.2.2.1) (conjC q.2.2.2.2.2.1 (conjC q.2.2.2.2.2.2 conj0))))))), ?_⟩
          exact ih.2.2.2 ((x0 ++ (x1 ++ v33 k (IntKind.i64.wrap (x4.tdiv 10)) ++ v33 k (x4.tmod 10)))) ((ByteArray.mk #[58])) x2 x3 x4 _ h
        · rw [if_neg q] at h; cases h
      · rw [if_neg q] at h; cases h
    · intro x0 x1 x2 x3 x4 r h
      rw [f23_40006] at h
      refine Ev.tree hm (R := Rt) (K := (K23 k)) (l := []) (C := [(6, [.key 16, .auto [4, 5, 15, 16] false])]) (E := [.auto [2, 3] true]) (n := 1000) (T := .test (false) (.stuck 5000) (.leaf (res23 ((x0, 0))) (bo23 ((x0, 0))))) (by kernel_rfl) ?_
      refine ⟨fun c => ?_, fun c => ?_⟩
      · cases c
      cases h; exact ⟨rfl, rfl⟩
theorem of23 (k : Nat) (t_ : Int) (r : R23) (h : f23 k t_ = some r) : CC Tryd.prog 23 (args23 t_) [] (res23 r) (bo23 r) := by
  refine CC.of (fn := Tryd.f23) (by kernel_rfl) (by kernel_rfl) (by kernel_rfl) (by kernel_rfl) ?_
  unfold f23 at h
  refine Ev.tree hm (R := Rt) (K := (K23 k)) (l := []) (C := [(6, [.key 16, .auto [4, 5, 15, 16] false])]) (E := [.auto [2, 3] true]) (n := 1000) (T := .need [CC Tryd.prog 27 (args27 t_) [] (res27 (v27 k t_)) (bo27 (v27 k t_))] (.test ((!v27 k t_)) (.leaf (res23 ((ByteArray.mk #[], 1))) (bo23 ((ByteArray.mk #[], 1)))) (.need [(86400 : Int) ≠ (0 : Int), CC Tryd.prog 33 (args33 (IntKind.i64.wrap (t_.tdiv 86400))) [] (res33 (v33 k (IntKind.i64.wrap (t_.tdiv 86400)))) (bo33 (v33 k (IntKind.i64.wrap (t_.tdiv 86400))))] (.need [CC Tryd.prog 34 (args34 t_) [] (res34 (v34 k t_)) (bo34 (v34 k t_))] (.cut 10006 (placeAt Tryd.f23 6) (st23_10006 ((v33 k (IntKind.i64.wrap (t_.tdiv 86400)))) ((ByteArray.mk #[32])) ((v34 k t_).fst) ((v34 k t_).snd.fst) ((v34 k t_).snd.snd))))))) (by kernel_rfl) ?_
  by_cases q : ((f27 k t_).isSome = true)
  · rw [if_pos q] at h
    refine ⟨(conjC (cc27 k t_ q) conj0), ?_⟩
    refine ⟨fun c => ?_, fun c => ?_⟩
    · rw [cond_t c] at h
      cases h; exact ⟨rfl, rfl⟩
    · rw [cond_f c] at h
      by_cases q : ((86400 : Int) ≠ (0 : Int)) ∧ ((f33 k (IntKind.i64.wrap (t_.tdiv 86400))).isSome = true)
      · rw [if_pos q] at h
        refine ⟨(conjC q.1 (conjC (cc33 k (IntKind.i64.wrap (t_.tdiv 86400)) q.2) conj0)), ?_⟩
        by_cases q : ((f34 k t_).isSome = true)
        · rw [if_pos q] at h
          refine ⟨(conjC (cc34 k t_ q) conj0), ?_⟩
          exact (ev23 k k).1 ((v33 k (IntKind.i64.wrap (t_.tdiv 86400)))) ((ByteArray.mk #[32])) ((v34 k t_).fst) ((v34 k t_).snd.fst) ((v34 k t_).snd.snd) _ h
        · rw [if_neg q] at h; cases h
      · rw [if_neg q] at h; cases h
  · rw [if_neg q] at h; cases h
theorem cc23 (k : Nat) (t_ : Int) (h : (f23 k t_).isSome = true) : CC Tryd.prog 23 (args23 t_) [] (res23 (v23 k t_)) (bo23 (v23 k t_)) := by
  cases e : f23 k t_ with
  | none => rw [e] at h; cases h
  | some r => rw [show v23 k t_ = r by simp [v23, e]]; exact of23 k t_ r e

end
end Go.AM
namespace Go.AM
open Go Go.Proofs
set_option linter.unusedVariables false
noncomputable section
/-! ### function 11: papermill/clock.Shift -/
def K11 (k : Nat) : Calld := ⟨fun g => match g with
  | 27 => some [false]
  | _ => none, fun g xs _ => match g with
  | 27 => match xs with
    | [.r (.v (.int .i64 t_))] => some (res27 (v27 k t_), bo27 (v27 k t_))
    | _ => none
  | _ => none⟩
abbrev R11 : Type := Int × Int × Int
def res11 (r : R11) : AV := .tup [.r (.v (.int .i64 r.1)), .r (.v (.int .i64 r.2.1)), .r (.v (.int .i64 r.2.2))]
def bo11 (r : R11) : List (Nat × Blk) := []
def f11 (k : Nat) (t_ : Int) : Option R11 :=
  if ((f27 k t_).isSome = true) then
    bif (!v27 k t_) then
      some ((0, 0, 1))
    else
      if ((86400 : Int) ≠ (0 : Int)) ∧ ((86400 : Int) ≠ (0 : Int)) ∧ ((28800 : Int) ≠ (0 : Int)) then
        some ((IntKind.i64.wrap (t_.tdiv 86400), IntKind.i64.wrap ((t_.tmod 86400).tdiv 28800), 0))
      else none
  else none
def args11 (t_ : Int) : List AV := [.r (.v (.int .i64 t_))]
def v11 (k : Nat) (t_ : Int) : R11 := (f11 k t_).getD (0, 0, 0)
theorem of11 (k : Nat) (t_ : Int) (r : R11) (h : f11 k t_ = some r) : CC Tryd.prog 11 (args11 t_) [] (res11 r) (bo11 r) := by
  refine CC.of (fn := Tryd.f11) (by kernel_rfl) (by kernel_rfl) (by kernel_rfl) (by kernel_rfl) ?_
  unfold f11 at h
  refine Ev.tree hm (R := Rt) (K := (K11 k)) (l := []) (C := []) (E := [.auto [2, 3, 4] true]) (n := 1000) (T := .need [CC Tryd.prog 27 (args27 t_) [] (res27 (v27 k t_)) (bo27 (v27 k t_))] (.test ((!v27 k t_)) (.leaf (res11 ((0, 0, 1))) (bo11 ((0, 0, 1)))) (.need [(86400 : Int) ≠ (0 : Int), (86400 : Int) ≠ (0 : Int), (28800 : Int) ≠ (0 : Int)] (.leaf (res11 ((IntKind.i64.wrap (t_.tdiv 86400), IntKind.i64.wrap ((t_.tmod 86400).tdiv 28800), 0))) (bo11 ((IntKind.i64.wrap (t_.tdiv 86400), IntKind.i64.wrap ((t_.tmod 86400).tdiv 28800), 0))))))) (by kernel_rfl) ?_
  by_cases q : ((f27 k t_).isSome = true)
  · rw [if_pos q] at h
    refine ⟨(conjC (cc27 k t_ q) conj0), ?_⟩
    refine ⟨fun c => ?_, fun c => ?_⟩
    · rw [cond_t c] at h
      cases h; exact ⟨rfl, rfl⟩
    · rw [cond_f c] at h
      by_cases q : ((86400 : Int) ≠ (0 : Int)) ∧ ((86400 : Int) ≠ (0 : Int)) ∧ ((28800 : Int) ≠ (0 : Int))
      · rw [if_pos q] at h
        refine ⟨(conjC q.1 (conjC q.2.1 (conjC q.2.2 conj0))), ?_⟩
        cases h; exact ⟨rfl, rfl⟩
      · rw [if_neg q] at h; cases h
  · rw [if_neg q] at h; cases h
theorem cc11 (k : Nat) (t_ : Int) (h : (f11 k t_).isSome = true) : CC Tryd.prog 11 (args11 t_) [] (res11 (v11 k t_)) (bo11 (v11 k t_)) := by
  cases e : f11 k t_ with
  | none => rw [e] at h; cases h
  | some r => rw [show v11 k t_ = r by simp [v11, e]]; exact of11 k t_ r e

end
end Go.AM
namespace Go.AM
open Go Go.Proofs
set_option linter.unusedVariables false
noncomputable section
/-! ### function 14: papermill/clock.Crew -/
def K14 (k : Nat) : Calld := ⟨fun g => match g with
  | 27 => some [false]
  | _ => none, fun g xs _ => match g with
  | 27 => match xs with
    | [.r (.v (.int .i64 t_))] => some (res27 (v27 k t_), bo27 (v27 k t_))
    | _ => none
  | _ => none⟩
abbrev R14 : Type := Int × Int
def res14 (r : R14) : AV := .tup [.r (.v (.int .i64 r.1)), .r (.v (.int .i64 r.2))]
def bo14 (r : R14) : List (Nat × Blk) := []
def st14_6 (x0 : List (I).T) (x1 : Int) (x2 : List (I).T) (x3 : Int) (x4 : Int) : St := ⟨mkS 38 [(0, .r (.ro I x0)), (1, .r (.v (.int .i64 x1))), (14, .r (.ro I x2)), (15, .r (.v (.int .i64 x3))), (16, .r (.v (.int .i64 x4)))], []⟩
def f14_6 (k : Nat) : Nat → List (I).T → Int → List (I).T → Int → Int → Option R14
  | 0, _, _, _, _, _ => none
  | j + 1, x0, x1, x2, x3, x4 =>
    bif (decide (x4 < x3)) then
      if ((0 : Int) ≤ x4) ∧ (x4 < (↑x2.length : Int)) then
        bif (decide (x2.getD x4.toNat I.dflt < (0 : Int)) || decide (x2.getD x4.toNat I.dflt ≥ (16 : Int))) then
          some ((0, 1))
        else
          f14_6 k j x0 x1 x2 x3 ((IntKind.i64.wrap (x4 + 1)))
      else none
    else
      if ((f27 k x1).isSome = true) then
        bif (!v27 k x1) then
          some ((0, 1))
        else
          if ((28800 : Int) ≠ (0 : Int)) ∧ ((↑x0.length : Int) ≠ (0 : Int)) ∧ ((0 : Int) ≤ (IntKind.i64.wrap (x1.tdiv (28800 : Int))).tmod (↑x0.length : Int)) ∧ ((IntKind.i64.wrap (x1.tdiv (28800 : Int))).tmod (↑x0.length : Int) < (↑x0.length : Int)) then
            some ((x0.getD ((IntKind.i64.wrap (x1.tdiv 28800)).tmod (↑x0.length : Int)).toNat I.dflt, 0))
          else none
      else none
def f14 (k : Nat) (pattern_ : List (I).T) (t_ : Int) : Option R14 :=
  bif ((↑pattern_.length : Int) == (0 : Int)) then
    some ((0, 10))
  else
    bif (decide ((↑pattern_.length : Int) > (64 : Int))) then
      some ((0, 8))
    else
      f14_6 k k pattern_ t_ pattern_ ((↑pattern_.length : Int)) 0
def args14 (pattern_ : List (I).T) (t_ : Int) : List AV := [.r (.ro I pattern_), .r (.v (.int .i64 t_))]
def v14 (k : Nat) (pattern_ : List (I).T) (t_ : Int) : R14 := (f14 k pattern_ t_).getD (0, 0)
theorem ev14 (k : Nat) : ∀ j, (∀ (x0 : List (I).T) (x1 : Int) (x2 : List (I).T) (x3 : Int) (x4 : Int) (r : R14), f14_6 k j x0 x1 x2 x3 x4 = some r → Ev Tryd.prog Tryd.f14 0 (placeAt Tryd.f14 6) (st14_6 x0 x1 x2 x3 x4) (res14 r) (bo14 r))
  | 0 => by
    intros; rename_i h; simp [f14_6] at h
  | j + 1 => by
    have ih := ev14 k j
    · intro x0 x1 x2 x3 x4 r h
      rw [f14_6] at h
      refine Ev.tree hm (R := Rt) (K := (K14 k)) (l := []) (C := [(6, [.auto [0, 1, 14, 15, 16] false])]) (E := [.auto [4, 5] true]) (n := 1000) (T := .test ((decide (x4 < x3))) (.need [(0 : Int) ≤ x4, x4 < (↑x2.length : Int)] (.test ((decide (x2.getD x4.toNat I.dflt < (0 : Int)) || decide (x2.getD x4.toNat I.dflt ≥ (16 : Int)))) (.leaf (res14 ((0, 1))) (bo14 ((0, 1)))) (.cut 6 (placeAt Tryd.f14 6) (st14_6 x0 x1 x2 x3 ((IntKind.i64.wrap (x4 + 1))))))) (.need [CC Tryd.prog 27 (args27 x1) [] (res27 (v27 k x1)) (bo27 (v27 k x1))] (.test ((!v27 k x1)) (.leaf (res14 ((0, 1))) (bo14 ((0, 1)))) (.need [(28800 : Int) ≠ (0 : Int), (↑x0.length : Int) ≠ (0 : Int), (0 : Int) ≤ (IntKind.i64.wrap (x1.tdiv (28800 : Int))).tmod (↑x0.length : Int), (IntKind.i64.wrap (x1.tdiv (28800 : Int))).tmod (↑x0.length : Int) < (↑x0.length : Int)] (.leaf (res14 ((x0.getD ((IntKind.i64.wrap (x1.tdiv 28800)).tmod (↑x0.length : Int)).toNat I.dflt, 0))) (bo14 ((x0.getD ((IntKind.i64.wrap (x1.tdiv 28800)).tmod (↑x0.length : Int)).toNat I.dflt, 0)))))))) (by kernel_rfl) ?_
      refine ⟨fun c => ?_, fun c => ?_⟩
      · rw [cond_t c] at h
        by_cases q : ((0 : Int) ≤ x4) ∧ (x4 < (↑x2.length : Int))
        · rw [if_pos q] at h
          refine ⟨(conjC q.1 (conjC q.2 conj0)), ?_⟩
          refine ⟨fun c => ?_, fun c => ?_⟩
          · rw [cond_t c] at h
            cases h; exact ⟨rfl, rfl⟩
          · rw [cond_f c] at h
            exact ih x0 x1 x2 x3 ((IntKind.i64.wrap (x4 + 1))) _ h
        · rw [if_neg q] at h; cases h
      · rw [cond_f c] at h
        by_cases q : ((f27 k x1).isSome = true)
        · rw [if_pos q] at h
          refine ⟨(conjC (cc27 k x1 q) conj0), ?_⟩
          refine ⟨fun c => ?_, fun c => ?_⟩
          · rw [cond_t c] at h
            cases h; exact ⟨rfl, rfl⟩
          · rw [cond_f c] at h
            by_cases q : ((28800 : Int) ≠ (0 : Int)) ∧ ((↑x0.length : Int) ≠ (0 : Int)) ∧ ((0 : Int) ≤ (IntKind.i64.wrap (x1.tdiv (28800 : Int))).tmod (↑x0.length : Int)) ∧ ((IntKind.i64.wrap (x1.tdiv (28800 : Int))).tmod (↑x0.length : Int) < (↑x0.length : Int))
            · rw [if_pos q] at h
              refine ⟨(conjC q.1 (conjC q.2.1 (conjC q.2.2.1 (conjC q.2.2.2 conj0)))), ?_⟩
              cases h; exact ⟨rfl, rfl⟩
            · rw [if_neg q] at h; cases h
        · rw [if_neg q] at h; cases h
theorem of14 (k : Nat) (pattern_ : List (I).T) (t_ : Int) (r : R14) (h : f14 k pattern_ t_ = some r) : CC Tryd.prog 14 (args14 pattern_ t_) [] (res14 r) (bo14 r) := by
  refine CC.of (fn := Tryd.f14) (by kernel_rfl) (by kernel_rfl) (by kernel_rfl) (by kernel_rfl) ?_
  unfold f14 at h
  refine Ev.tree hm (R := Rt) (K := (K14 k)) (l := []) (C := [(6, [.auto [0, 1, 14, 15, 16] false])]) (E := [.auto [4, 5] true]) (n := 1000) (T := .test (((↑pattern_.length : Int) == (0 : Int))) (.leaf (res14 ((0, 10))) (bo14 ((0, 10)))) (.test ((decide ((↑pattern_.length : Int) > (64 : Int)))) (.leaf (res14 ((0, 8))) (bo14 ((0, 8)))) (.cut 6 (placeAt Tryd.f14 6) (st14_6 pattern_ t_ pattern_ ((↑pattern_.length : Int)) 0)))) (by kernel_rfl) ?_
  refine ⟨fun c => ?_, fun c => ?_⟩
  · rw [cond_t c] at h
    cases h; exact ⟨rfl, rfl⟩
  · rw [cond_f c] at h
    refine ⟨fun c => ?_, fun c => ?_⟩
    · rw [cond_t c] at h
      cases h; exact ⟨rfl, rfl⟩
    · rw [cond_f c] at h
      exact (ev14 k k) pattern_ t_ pattern_ ((↑pattern_.length : Int)) 0 _ h
theorem cc14 (k : Nat) (pattern_ : List (I).T) (t_ : Int) (h : (f14 k pattern_ t_).isSome = true) : CC Tryd.prog 14 (args14 pattern_ t_) [] (res14 (v14 k pattern_ t_)) (bo14 (v14 k pattern_ t_)) := by
  cases e : f14 k pattern_ t_ with
  | none => rw [e] at h; cases h
  | some r => rw [show v14 k pattern_ t_ = r by simp [v14, e]]; exact of14 k pattern_ t_ r e

end
end Go.AM
namespace Go.AM
open Go Go.Proofs
set_option linter.unusedVariables false
noncomputable section
/-! ### function 16: papermill/clock.Next -/
def K16 (k : Nat) : Calld := ⟨fun g => match g with
  | 27 => some [false]
  | _ => none, fun g xs _ => match g with
  | 27 => match xs with
    | [.r (.v (.int .i64 t_))] => some (res27 (v27 k t_), bo27 (v27 k t_))
    | _ => none
  | _ => none⟩
abbrev R16 : Type := Int × Int
def res16 (r : R16) : AV := .tup [.r (.v (.int .i64 r.1)), .r (.v (.int .i64 r.2))]
def bo16 (r : R16) : List (Nat × Blk) := []
def f16 (k : Nat) (t_ : Int) (shift_ : Int) : Option R16 :=
  if ((f27 k t_).isSome = true) then
    bif (!v27 k t_) then
      some ((0, 1))
    else
      bif (decide (shift_ < (0 : Int)) || decide (shift_ ≥ (3 : Int))) then
        some ((0, 17))
      else
        if ((86400 : Int) ≠ (0 : Int)) then
          bif (decide (IntKind.i64.wrap (IntKind.i64.wrap (IntKind.i64.wrap (t_.tdiv (86400 : Int)) * (86400 : Int)) + IntKind.i64.wrap (shift_ * (28800 : Int))) < t_)) then
            if ((f27 k (IntKind.i64.wrap (IntKind.i64.wrap (IntKind.i64.wrap (IntKind.i64.wrap (t_.tdiv 86400) * 86400) + IntKind.i64.wrap (shift_ * 28800)) + 86400))).isSome = true) then
              bif (!v27 k (IntKind.i64.wrap (IntKind.i64.wrap (IntKind.i64.wrap (IntKind.i64.wrap (t_.tdiv (86400 : Int)) * (86400 : Int)) + IntKind.i64.wrap (shift_ * (28800 : Int))) + (86400 : Int)))) then
                some ((0, 7))
              else
                some ((IntKind.i64.wrap (IntKind.i64.wrap (IntKind.i64.wrap (IntKind.i64.wrap (t_.tdiv 86400) * 86400) + IntKind.i64.wrap (shift_ * 28800)) + 86400), 0))
            else none
          else
            if ((f27 k (IntKind.i64.wrap (IntKind.i64.wrap (IntKind.i64.wrap (t_.tdiv 86400) * 86400) + IntKind.i64.wrap (shift_ * 28800)))).isSome = true) then
              bif (!v27 k (IntKind.i64.wrap (IntKind.i64.wrap (IntKind.i64.wrap (t_.tdiv (86400 : Int)) * (86400 : Int)) + IntKind.i64.wrap (shift_ * (28800 : Int))))) then
                some ((0, 7))
              else
                some ((IntKind.i64.wrap (IntKind.i64.wrap (IntKind.i64.wrap (t_.tdiv 86400) * 86400) + IntKind.i64.wrap (shift_ * 28800)), 0))
            else none
        else none
  else none
def args16 (t_ : Int) (shift_ : Int) : List AV := [.r (.v (.int .i64 t_)), .r (.v (.int .i64 shift_))]
def v16 (k : Nat) (t_ : Int) (shift_ : Int) : R16 := (f16 k t_ shift_).getD (0, 0)
theorem of16 (k : Nat) (t_ : Int) (shift_ : Int) (r : R16) (h : f16 k t_ shift_ = some r) : CC Tryd.prog 16 (args16 t_ shift_) [] (res16 r) (bo16 r) := by
  refine CC.of (fn := Tryd.f16) (by kernel_rfl) (by kernel_rfl) (by kernel_rfl) (by kernel_rfl) ?_
  unfold f16 at h
  refine Ev.tree hm (R := Rt) (K := (K16 k)) (l := []) (C := []) (E := [.auto [4, 5] true]) (n := 1000) (T := .need [CC Tryd.prog 27 (args27 t_) [] (res27 (v27 k t_)) (bo27 (v27 k t_))] (.test ((!v27 k t_)) (.leaf (res16 ((0, 1))) (bo16 ((0, 1)))) (.test ((decide (shift_ < (0 : Int)) || decide (shift_ ≥ (3 : Int)))) (.leaf (res16 ((0, 17))) (bo16 ((0, 17)))) (.need [(86400 : Int) ≠ (0 : Int)] (.test ((decide (IntKind.i64.wrap (IntKind.i64.wrap (IntKind.i64.wrap (t_.tdiv (86400 : Int)) * (86400 : Int)) + IntKind.i64.wrap (shift_ * (28800 : Int))) < t_))) (.need [CC Tryd.prog 27 (args27 (IntKind.i64.wrap (IntKind.i64.wrap (IntKind.i64.wrap (IntKind.i64.wrap (t_.tdiv 86400) * 86400) + IntKind.i64.wrap (shift_ * 28800)) + 86400))) [] (res27 (v27 k (IntKind.i64.wrap (IntKind.i64.wrap (IntKind.i64.wrap (IntKind.i64.wrap (t_.tdiv 86400) * 86400) + IntKind.i64.wrap (shift_ * 28800)) + 86400)))) (bo27 (v27 k (IntKind.i64.wrap (IntKind.i64.wrap (IntKind.i64.wrap (IntKind.i64.wrap (t_.tdiv 86400) * 86400) + IntKind.i64.wrap (shift_ * 28800)) + 86400))))] (.test ((!v27 k (IntKind.i64.wrap (IntKind.i64.wrap (IntKind.i64.wrap (IntKind.i64.wrap (t_.tdiv (86400 : Int)) * (86400 : Int)) + IntKind.i64.wrap (shift_ * (28800 : Int))) + (86400 : Int))))) (.leaf (res16 ((0, 7))) (bo16 ((0, 7)))) (.leaf (res16 ((IntKind.i64.wrap (IntKind.i64.wrap (IntKind.i64.wrap (IntKind.i64.wrap (t_.tdiv 86400) * 86400) + IntKind.i64.wrap (shift_ * 28800)) + 86400), 0))) (bo16 ((IntKind.i64.wrap (IntKind.i64.wrap (IntKind.i64.wrap (IntKind.i64.wrap (t_.tdiv 86400) * 86400) + IntKind.i64.wrap (shift_ * 28800)) + 86400), 0)))))) (.need [CC Tryd.prog 27 (args27 (IntKind.i64.wrap (IntKind.i64.wrap (IntKind.i64.wrap (t_.tdiv 86400) * 86400) + IntKind.i64.wrap (shift_ * 28800)))) [] (res27 (v27 k (IntKind.i64.wrap (IntKind.i64.wrap (IntKind.i64.wrap (t_.tdiv 86400) * 86400) + IntKind.i64.wrap (shift_ * 28800))))) (bo27 (v27 k (IntKind.i64.wrap (IntKind.i64.wrap (IntKind.i64.wrap (t_.tdiv 86400) * 86400) + IntKind.i64.wrap (shift_ * 28800)))))] (.test ((!v27 k (IntKind.i64.wrap (IntKind.i64.wrap (IntKind.i64.wrap (t_.tdiv (86400 : Int)) * (86400 : Int)) + IntKind.i64.wrap (shift_ * (28800 : Int)))))) (.leaf (res16 ((0, 7))) (bo16 ((0, 7)))) (.leaf (res16 ((IntKind.i64.wrap (IntKind.i64.wrap (IntKind.i64.wrap (t_.tdiv 86400) * 86400) + IntKind.i64.wrap (shift_ * 28800)), 0))) (bo16 ((IntKind.i64.wrap (IntKind.i64.wrap (IntKind.i64.wrap (t_.tdiv 86400) * 86400) + IntKind.i64.wrap (shift_ * 28800)), 0))))))))))) (by kernel_rfl) ?_
  by_cases q : ((f27 k t_).isSome = true)
  · rw [if_pos q] at h
    refine ⟨(conjC (cc27 k t_ q) conj0), ?_⟩
    refine ⟨fun c => ?_, fun c => ?_⟩
    · rw [cond_t c] at h
      cases h; exact ⟨rfl, rfl⟩
    · rw [cond_f c] at h
      refine ⟨fun c => ?_, fun c => ?_⟩
      · rw [cond_t c] at h
        cases h; exact ⟨rfl, rfl⟩
      · rw [cond_f c] at h
        by_cases q : ((86400 : Int) ≠ (0 : Int))
        · rw [if_pos q] at h
          refine ⟨(conjC q conj0), ?_⟩
          refine ⟨fun c => ?_, fun c => ?_⟩
          · rw [cond_t c] at h
            by_cases q : ((f27 k (IntKind.i64.wrap (IntKind.i64.wrap (IntKind.i64.wrap (IntKind.i64.wrap (t_.tdiv 86400) * 86400) + IntKind.i64.wrap (shift_ * 28800)) + 86400))).isSome = true)
            · rw [if_pos q] at h
              refine ⟨(conjC (cc27 k (IntKind.i64.wrap (IntKind.i64.wrap (IntKind.i64.wrap (IntKind.i64.wrap (t_.tdiv 86400) * 86400) + IntKind.i64.wrap (shift_ * 28800)) + 86400)) q) conj0), ?_⟩
              refine ⟨fun c => ?_, fun c => ?_⟩
              · rw [cond_t c] at h
                cases h; exact ⟨rfl, rfl⟩
              · rw [cond_f c] at h
                cases h; exact ⟨rfl, rfl⟩
            · rw [if_neg q] at h; cases h
          · rw [cond_f c] at h
            by_cases q : ((f27 k (IntKind.i64.wrap (IntKind.i64.wrap (IntKind.i64.wrap (t_.tdiv 86400) * 86400) + IntKind.i64.wrap (shift_ * 28800)))).isSome = true)
            · rw [if_pos q] at h
              refine ⟨(conjC (cc27 k (IntKind.i64.wrap (IntKind.i64.wrap (IntKind.i64.wrap (t_.tdiv 86400) * 86400) + IntKind.i64.wrap (shift_ * 28800))) q) conj0), ?_⟩
              refine ⟨fun c => ?_, fun c => ?_⟩
              · rw [cond_t c] at h
                cases h; exact ⟨rfl, rfl⟩
              · rw [cond_f c] at h
                cases h; exact ⟨rfl, rfl⟩
            · rw [if_neg q] at h; cases h
        · rw [if_neg q] at h; cases h
  · rw [if_neg q] at h; cases h
theorem cc16 (k : Nat) (t_ : Int) (shift_ : Int) (h : (f16 k t_ shift_).isSome = true) : CC Tryd.prog 16 (args16 t_ shift_) [] (res16 (v16 k t_ shift_)) (bo16 (v16 k t_ shift_)) := by
  cases e : f16 k t_ shift_ with
  | none => rw [e] at h; cases h
  | some r => rw [show v16 k t_ shift_ = r by simp [v16, e]]; exact of16 k t_ shift_ r e

end
end Go.AM
namespace Go.AM
open Go Go.Proofs
set_option linter.unusedVariables false
noncomputable section
/-! ### function 29: papermill/clock.span -/
def K29 (k : Nat) : Calld := ⟨fun g => match g with
  | _ => none, fun g xs _ => match g with
  | _ => none⟩
abbrev R29 : Type := Bool
def res29 (r : R29) : AV := .r (.v (.bool r))
def bo29 (r : R29) : List (Nat × Blk) := []
def f29 (k : Nat) (s_ : t34.T) : Option R29 :=
  some (decide (s_.fst ≥ 0) && decide (s_.fst ≤ s_.snd) && decide (s_.snd ≤ 2147483648))
def args29 (s_ : t34.T) : List AV := [.agg (rvs (enc t34 s_))]
def v29 (k : Nat) (s_ : t34.T) : R29 := (f29 k s_).getD false
theorem of29 (k : Nat) (s_ : t34.T) (r : R29) (h : f29 k s_ = some r) : CC Tryd.prog 29 (args29 s_) [] (res29 r) (bo29 r) := by
  refine CC.of (fn := Tryd.f29) (by kernel_rfl) (by kernel_rfl) (by kernel_rfl) (by kernel_rfl) ?_
  unfold f29 at h
  refine Ev.tree hm (R := Rt) (K := (K29 k)) (l := []) (C := []) (E := [.auto [2] true]) (n := 1000) (T := .leaf (res29 (decide (s_.fst ≥ 0) && decide (s_.fst ≤ s_.snd) && decide (s_.snd ≤ 2147483648))) (bo29 (decide (s_.fst ≥ 0) && decide (s_.fst ≤ s_.snd) && decide (s_.snd ≤ 2147483648)))) (by kernel_rfl) ?_
  cases h; exact ⟨rfl, rfl⟩
theorem cc29 (k : Nat) (s_ : t34.T) (h : (f29 k s_).isSome = true) : CC Tryd.prog 29 (args29 s_) [] (res29 (v29 k s_)) (bo29 (v29 k s_)) := by
  cases e : f29 k s_ with
  | none => rw [e] at h; cases h
  | some r => rw [show v29 k s_ = r by simp [v29, e]]; exact of29 k s_ r e

end
end Go.AM
namespace Go.AM
open Go Go.Proofs
set_option linter.unusedVariables false
noncomputable section
/-! ### function 18: papermill/clock.Parts -/
def K18 (k : Nat) : Calld := ⟨fun g => match g with
  | 29 => some [false]
  | _ => none, fun g xs _ => match g with
  | 29 => match xs with
    | [.agg q0] => (decS [] t34 q0).bind fun s_ => some (res29 (v29 k s_), bo29 (v29 k s_))
    | _ => none
  | _ => none⟩
abbrev R18 : Type := Int × List (t34).T
def res18 (r : R18) : AV := .tup [.own 0 0, .r (.v (.int .i64 r.1))]
def bo18 (r : R18) : List (Nat × Blk) := [(0, .row 34 t34 r.2)]
def st18_7 (x0 : Int) (x1 : t34.T) (x2 : List (t34).T) : St := ⟨mkS 47 [(1, .ptr 1000000 0 0), (4, .own 1000001 0), (5, .r (.v (.int .i64 x0)))], [(1000000, 0, .var 34 (rvs (enc t34 x1))), (1000001, 0, .row 34 t34 x2)]⟩
def f18_7 (k : Nat) : Nat → Int → t34.T → List (t34).T → Option R18
  | 0, _, _, _ => none
  | j + 1, x0, x1, x2 =>
    bif (decide (x0 < x1.snd)) then
      if ((28800 : Int) ≠ (0 : Int)) then
        if ((x2.length + [(x0, if IntKind.i64.wrap (IntKind.i64.wrap (IntKind.i64.wrap (x0.tdiv (28800 : Int)) + (1 : Int)) * (28800 : Int)) < x1.snd then IntKind.i64.wrap (IntKind.i64.wrap (IntKind.i64.wrap (x0.tdiv (28800 : Int)) + (1 : Int)) * (28800 : Int)) else x1.snd)].length) * (16 : Nat) ≤ (140737488355328 : Nat)) then
          f18_7 k j ((if IntKind.i64.wrap (IntKind.i64.wrap (IntKind.i64.wrap (x0.tdiv 28800) + 1) * 28800) < x1.snd then IntKind.i64.wrap (IntKind.i64.wrap (IntKind.i64.wrap (x0.tdiv 28800) + 1) * 28800) else x1.snd)) x1 ((x2 ++ [(x0, if IntKind.i64.wrap (IntKind.i64.wrap (IntKind.i64.wrap (x0.tdiv 28800) + 1) * 28800) < x1.snd then IntKind.i64.wrap (IntKind.i64.wrap (IntKind.i64.wrap (x0.tdiv 28800) + 1) * 28800) else x1.snd)]))
        else none
      else none
    else
      some ((0, x2))
def f18 (k : Nat) (s_ : t34.T) : Option R18 :=
  if ((f29 k s_).isSome = true) then
    bif (!v29 k s_) then
      some ((1, []))
    else
      if (decide (s_.fst < s_.snd) = true → (28800 : Int) ≠ (0 : Int)) ∧ (decide (s_.fst < s_.snd) = true → (28800 : Int) ≠ (0 : Int)) then
        bif (decide (s_.fst < s_.snd) && decide (IntKind.i64.wrap (IntKind.i64.wrap ((IntKind.i64.wrap (s_.snd - (1 : Int))).tdiv (28800 : Int)) - IntKind.i64.wrap (Int.tdiv s_.fst (28800 : Int))) ≥ (256 : Int))) then
          some ((8, []))
        else
          f18_7 k k s_.fst s_ ([])
      else none
  else none
def args18 (s_ : t34.T) : List AV := [.agg (rvs (enc t34 s_))]
def v18 (k : Nat) (s_ : t34.T) : R18 := (f18 k s_).getD (0, [])
theorem ev18 (k : Nat) : ∀ j, (∀ (x0 : Int) (x1 : t34.T) (x2 : List (t34).T) (r : R18), f18_7 k j x0 x1 x2 = some r → Ev Tryd.prog Tryd.f18 0 (placeAt Tryd.f18 7) (st18_7 x0 x1 x2) (res18 r) (bo18 r))
  | 0 => by
    intros; rename_i h; simp [f18_7] at h
  | j + 1 => by
    have ih := ev18 k j
    · intro x0 x1 x2 r h
      rw [f18_7] at h
      refine Ev.tree hm (R := Rt) (K := (K18 k)) (l := []) (C := [(7, [.row 4 34 t34, .auto [1, 4, 5] false])]) (E := [.row 2 34 t34, .auto [2, 3] true]) (n := 1000) (T := .test ((decide (x0 < x1.snd))) (.need [(28800 : Int) ≠ (0 : Int)] (.need [(x2.length + [(x0, if IntKind.i64.wrap (IntKind.i64.wrap (IntKind.i64.wrap (x0.tdiv (28800 : Int)) + (1 : Int)) * (28800 : Int)) < x1.snd then IntKind.i64.wrap (IntKind.i64.wrap (IntKind.i64.wrap (x0.tdiv (28800 : Int)) + (1 : Int)) * (28800 : Int)) else x1.snd)].length) * (16 : Nat) ≤ (140737488355328 : Nat)] (.cut 7 (placeAt Tryd.f18 7) (st18_7 ((if IntKind.i64.wrap (IntKind.i64.wrap (IntKind.i64.wrap (x0.tdiv 28800) + 1) * 28800) < x1.snd then IntKind.i64.wrap (IntKind.i64.wrap (IntKind.i64.wrap (x0.tdiv 28800) + 1) * 28800) else x1.snd)) x1 ((x2 ++ [(x0, if IntKind.i64.wrap (IntKind.i64.wrap (IntKind.i64.wrap (x0.tdiv 28800) + 1) * 28800) < x1.snd then IntKind.i64.wrap (IntKind.i64.wrap (IntKind.i64.wrap (x0.tdiv 28800) + 1) * 28800) else x1.snd)])))))) (.leaf (res18 ((0, x2))) (bo18 ((0, x2))))) (by kernel_rfl) ?_
      refine ⟨fun c => ?_, fun c => ?_⟩
      · rw [cond_t c] at h
        by_cases q : ((28800 : Int) ≠ (0 : Int))
        · rw [if_pos q] at h
          refine ⟨(conjC q conj0), ?_⟩
          by_cases q : ((x2.length + [(x0, if IntKind.i64.wrap (IntKind.i64.wrap (IntKind.i64.wrap (x0.tdiv (28800 : Int)) + (1 : Int)) * (28800 : Int)) < x1.snd then IntKind.i64.wrap (IntKind.i64.wrap (IntKind.i64.wrap (x0.tdiv (28800 : Int)) + (1 : Int)) * (28800 : Int)) else x1.snd)].length) * (16 : Nat) ≤ (140737488355328 : Nat))
          · rw [if_pos q] at h
            refine ⟨(conjC q conj0), ?_⟩
            exact ih ((if IntKind.i64.wrap (IntKind.i64.wrap (IntKind.i64.wrap (x0.tdiv 28800) + 1) * 28800) < x1.snd then IntKind.i64.wrap (IntKind.i64.wrap (IntKind.i64.wrap (x0.tdiv 28800) + 1) * 28800) else x1.snd)) x1 ((x2 ++ [(x0, if IntKind.i64.wrap (IntKind.i64.wrap (IntKind.i64.wrap (x0.tdiv 28800) + 1) * 28800) < x1.snd then IntKind.i64.wrap (IntKind.i64.wrap (IntKind.i64.wrap (x0.tdiv 28800) + 1) * 28800) else x1.snd)])) _ h
          · rw [if_neg q] at h; cases h
        · rw [if_neg q] at h; cases h
      · rw [cond_f c] at h
        cases h; exact ⟨rfl, rfl⟩
theorem of18 (k : Nat) (s_ : t34.T) (r : R18) (h : f18 k s_ = some r) : CC Tryd.prog 18 (args18 s_) [] (res18 r) (bo18 r) := by
  refine CC.of (fn := Tryd.f18) (by kernel_rfl) (by kernel_rfl) (by kernel_rfl) (by kernel_rfl) ?_
  unfold f18 at h
  refine Ev.tree hm (R := Rt) (K := (K18 k)) (l := []) (C := [(7, [.row 4 34 t34, .auto [1, 4, 5] false])]) (E := [.row 2 34 t34, .auto [2, 3] true]) (n := 1000) (T := .need [CC Tryd.prog 29 (args29 s_) [] (res29 (v29 k s_)) (bo29 (v29 k s_))] (.test ((!v29 k s_)) (.leaf (res18 ((1, []))) (bo18 ((1, [])))) (.need [decide (s_.fst < s_.snd) = true → (28800 : Int) ≠ (0 : Int), decide (s_.fst < s_.snd) = true → (28800 : Int) ≠ (0 : Int)] (.test ((decide (s_.fst < s_.snd) && decide (IntKind.i64.wrap (IntKind.i64.wrap ((IntKind.i64.wrap (s_.snd - (1 : Int))).tdiv (28800 : Int)) - IntKind.i64.wrap (Int.tdiv s_.fst (28800 : Int))) ≥ (256 : Int)))) (.leaf (res18 ((8, []))) (bo18 ((8, [])))) (.cut 7 (placeAt Tryd.f18 7) (st18_7 s_.fst s_ ([]))))))) (by kernel_rfl) ?_
  by_cases q : ((f29 k s_).isSome = true)
  · rw [if_pos q] at h
    refine ⟨(conjC (cc29 k s_ q) conj0), ?_⟩
    refine ⟨fun c => ?_, fun c => ?_⟩
    · rw [cond_t c] at h
      cases h; exact ⟨rfl, rfl⟩
    · rw [cond_f c] at h
      by_cases q : (decide (s_.fst < s_.snd) = true → (28800 : Int) ≠ (0 : Int)) ∧ (decide (s_.fst < s_.snd) = true → (28800 : Int) ≠ (0 : Int))
      · rw [if_pos q] at h
        refine ⟨(conjC q.1 (conjC q.2 conj0)), ?_⟩
        refine ⟨fun c => ?_, fun c => ?_⟩
        · rw [cond_t c] at h
          cases h; exact ⟨rfl, rfl⟩
        · rw [cond_f c] at h
          exact (ev18 k k) s_.fst s_ ([]) _ h
      · rw [if_neg q] at h; cases h
  · rw [if_neg q] at h; cases h
theorem cc18 (k : Nat) (s_ : t34.T) (h : (f18 k s_).isSome = true) : CC Tryd.prog 18 (args18 s_) [] (res18 (v18 k s_)) (bo18 (v18 k s_)) := by
  cases e : f18 k s_ with
  | none => rw [e] at h; cases h
  | some r => rw [show v18 k s_ = r by simp [v18, e]]; exact of18 k s_ r e

end
end Go.AM
namespace Go.AM
open Go Go.Proofs
set_option linter.unusedVariables false
noncomputable section
/-! ### function 20: papermill/papermilllaw05.spans -/
def K20 (k : Nat) : Calld := ⟨fun g => match g with
  | _ => none, fun g xs _ => match g with
  | _ => none⟩
abbrev R20 : Type := Bool
def res20 (r : R20) : AV := .r (.v (.bool r))
def bo20 (r : R20) : List (Nat × Blk) := []
def st20_4 (x0 : List (t34).T) (x1 : List (t34).T) (x2 : Int) : St := ⟨mkS 26 [(0, .r (.ro t34 x0)), (1, .r (.ro t34 x1)), (5, .r (.v (.int .i64 x2)))], []⟩
def f20_4 (k : Nat) : Nat → List (t34).T → List (t34).T → Int → Option R20
  | 0, _, _, _ => none
  | j + 1, x0, x1, x2 =>
    bif (decide (x2 < (↑x0.length : Int))) then
      if ((0 : Int) ≤ x2) ∧ (x2 < (↑x0.length : Int)) ∧ ((0 : Int) ≤ x2) ∧ (x2 < (↑x1.length : Int)) then
        bif (!eqT t34 (x0.getD x2.toNat t34.dflt) (x1.getD x2.toNat t34.dflt)) then
          some false
        else
          f20_4 k j x0 x1 ((IntKind.i64.wrap (x2 + 1)))
      else none
    else
      some true
def f20 (k : Nat) (a_ : List (t34).T) (b_ : List (t34).T) : Option R20 :=
  bif ((↑a_.length : Int) != (↑b_.length : Int)) then
    some false
  else
    f20_4 k k a_ b_ 0
def args20 (a_ : List (t34).T) (b_ : List (t34).T) : List AV := [.r (.ro t34 a_), .r (.ro t34 b_)]
def v20 (k : Nat) (a_ : List (t34).T) (b_ : List (t34).T) : R20 := (f20 k a_ b_).getD false
theorem ev20 (k : Nat) : ∀ j, (∀ (x0 : List (t34).T) (x1 : List (t34).T) (x2 : Int) (r : R20), f20_4 k j x0 x1 x2 = some r → Ev Tryd.prog Tryd.f20 0 (placeAt Tryd.f20 4) (st20_4 x0 x1 x2) (res20 r) (bo20 r))
  | 0 => by
    intros; rename_i h; simp [f20_4] at h
  | j + 1 => by
    have ih := ev20 k j
    · intro x0 x1 x2 r h
      rw [f20_4] at h
      refine Ev.tree hm (R := Rt) (K := (K20 k)) (l := []) (C := [(4, [.auto [0, 1, 5] false])]) (E := [.auto [4] true]) (n := 1000) (T := .test ((decide (x2 < (↑x0.length : Int)))) (.need [(0 : Int) ≤ x2, x2 < (↑x0.length : Int), (0 : Int) ≤ x2, x2 < (↑x1.length : Int)] (.test ((!eqT t34 (x0.getD x2.toNat t34.dflt) (x1.getD x2.toNat t34.dflt))) (.leaf (res20 false) (bo20 false)) (.cut 4 (placeAt Tryd.f20 4) (st20_4 x0 x1 ((IntKind.i64.wrap (x2 + 1))))))) (.leaf (res20 true) (bo20 true))) (by kernel_rfl) ?_
      refine ⟨fun c => ?_, fun c => ?_⟩
      · rw [cond_t c] at h
        by_cases q : ((0 : Int) ≤ x2) ∧ (x2 < (↑x0.length : Int)) ∧ ((0 : Int) ≤ x2) ∧ (x2 < (↑x1.length : Int))
        · rw [if_pos q] at h
          refine ⟨(conjC q.1 (conjC q.2.1 (conjC q.2.2.1 (conjC q.2.2.2 conj0)))), ?_⟩
          refine ⟨fun c => ?_, fun c => ?_⟩
          · rw [cond_t c] at h
            cases h; exact ⟨rfl, rfl⟩
          · rw [cond_f c] at h
            exact ih x0 x1 ((IntKind.i64.wrap (x2 + 1))) _ h
        · rw [if_neg q] at h; cases h
      · rw [cond_f c] at h
        cases h; exact ⟨rfl, rfl⟩
theorem of20 (k : Nat) (a_ : List (t34).T) (b_ : List (t34).T) (r : R20) (h : f20 k a_ b_ = some r) : CC Tryd.prog 20 (args20 a_ b_) [] (res20 r) (bo20 r) := by
  refine CC.of (fn := Tryd.f20) (by kernel_rfl) (by kernel_rfl) (by kernel_rfl) (by kernel_rfl) ?_
  unfold f20 at h
  refine Ev.tree hm (R := Rt) (K := (K20 k)) (l := []) (C := [(4, [.auto [0, 1, 5] false])]) (E := [.auto [4] true]) (n := 1000) (T := .test (((↑a_.length : Int) != (↑b_.length : Int))) (.leaf (res20 false) (bo20 false)) (.cut 4 (placeAt Tryd.f20 4) (st20_4 a_ b_ 0))) (by kernel_rfl) ?_
  refine ⟨fun c => ?_, fun c => ?_⟩
  · rw [cond_t c] at h
    cases h; exact ⟨rfl, rfl⟩
  · rw [cond_f c] at h
    exact (ev20 k k) a_ b_ 0 _ h
theorem cc20 (k : Nat) (a_ : List (t34).T) (b_ : List (t34).T) (h : (f20 k a_ b_).isSome = true) : CC Tryd.prog 20 (args20 a_ b_) [] (res20 (v20 k a_ b_)) (bo20 (v20 k a_ b_)) := by
  cases e : f20 k a_ b_ with
  | none => rw [e] at h; cases h
  | some r => rw [show v20 k a_ b_ = r by simp [v20, e]]; exact of20 k a_ b_ r e

end
end Go.AM
namespace Go.AM
open Go Go.Proofs
set_option linter.unusedVariables false
noncomputable section
def bs_H05f13_0 : ByteArray := ByteArray.mk #[(49 : UInt8), (32 : UInt8), (48 : UInt8), (51 : UInt8), (58 : UInt8), (52 : UInt8), (54 : UInt8), (58 : UInt8), (52 : UInt8), (48 : UInt8)]
/-! ### function 13: papermill/papermilllaw05.awake -/
def K13 (k : Nat) : Calld := ⟨fun g => match g with
  | 11 => some [false]
  | 14 => some [false, false]
  | 16 => some [false, false]
  | 18 => some [false]
  | 20 => some [false, false]
  | 23 => some [false]
  | _ => none, fun g xs _ => match g with
  | 11 => match xs with
    | [.r (.v (.int .i64 t_))] => some (res11 (v11 k t_), bo11 (v11 k t_))
    | _ => none
  | 14 => match xs with
    | [.r (.ro t0_ q0), .r (.v (.int .i64 t_))] => (castL t0_ I q0).bind fun pattern_ => some (res14 (v14 k pattern_ t_), bo14 (v14 k pattern_ t_))
    | _ => none
  | 16 => match xs with
    | [.r (.v (.int .i64 t_)), .r (.v (.int .i64 shift_))] => some (res16 (v16 k t_ shift_), bo16 (v16 k t_ shift_))
    | _ => none
  | 18 => match xs with
    | [.agg q0] => (decS [] t34 q0).bind fun s_ => some (res18 (v18 k s_), bo18 (v18 k s_))
    | _ => none
  | 20 => match xs with
    | [.r (.ro t0_ q0), .r (.ro t1_ q1)] => (castL t0_ t34 q0).bind fun a_ => (castL t1_ t34 q1).bind fun b_ => some (res20 (v20 k a_ b_), bo20 (v20 k a_ b_))
    | _ => none
  | 23 => match xs with
    | [.r (.v (.int .i64 t_))] => some (res23 (v23 k t_), bo23 (v23 k t_))
    | _ => none
  | _ => none⟩
abbrev R13 : Type := Bool
def res13 (r : R13) : AV := .r (.v (.bool r))
def bo13 (r : R13) : List (Nat × Blk) := []
def f13 (k : Nat)  : Option R13 :=
  if ((f23 k 100000).isSome = true) then
    if ((f11 k 100000).isSome = true) then
      if ((f16 k 1 0).isSome = true) then
        if ((f18 k (28000, 30000)).isSome = true) then
          if ((f14 k [4, 9] 57600).isSome = true) then
            bif ((v23 k (100000 : Int)).snd == (0 : Int) && (v11 k (100000 : Int)).snd.snd == (0 : Int) && (v16 k (1 : Int) (0 : Int)).snd == (0 : Int) && (v18 k ((28000 : Int), (30000 : Int))).fst == (0 : Int) && (v14 k [(4 : Int), (9 : Int)] (57600 : Int)).snd == (0 : Int) && (v23 k (100000 : Int)).fst.toList == bs_H05f13_0.toList && (v11 k (100000 : Int)).fst == (1 : Int) && (v11 k (100000 : Int)).snd.fst == (0 : Int) && (v16 k (1 : Int) (0 : Int)).fst == (86400 : Int) && (v14 k [(4 : Int), (9 : Int)] (57600 : Int)).fst == (4 : Int)) then
              if (((v23 k (100000 : Int)).snd == (0 : Int) && (v11 k (100000 : Int)).snd.snd == (0 : Int) && (v16 k (1 : Int) (0 : Int)).snd == (0 : Int) && (v18 k ((28000 : Int), (30000 : Int))).fst == (0 : Int) && (v14 k [(4 : Int), (9 : Int)] (57600 : Int)).snd == (0 : Int) && (v23 k (100000 : Int)).fst.toList == bs_H05f13_0.toList && (v11 k (100000 : Int)).fst == (1 : Int) && (v11 k (100000 : Int)).snd.fst == (0 : Int) && (v16 k (1 : Int) (0 : Int)).fst == (86400 : Int) && (v14 k [(4 : Int), (9 : Int)] (57600 : Int)).fst == (4 : Int)) = true) ∧ ((f20 k (v18 k (28000, 30000)).snd [(28000, 28800), (28800, 30000)]).isSome = true) then
                some (true && v20 k (v18 k (28000, 30000)).snd [(28000, 28800), (28800, 30000)])
              else none
            else
              if (((v23 k (100000 : Int)).snd == (0 : Int) && (v11 k (100000 : Int)).snd.snd == (0 : Int) && (v16 k (1 : Int) (0 : Int)).snd == (0 : Int) && (v18 k ((28000 : Int), (30000 : Int))).fst == (0 : Int) && (v14 k [(4 : Int), (9 : Int)] (57600 : Int)).snd == (0 : Int) && (v23 k (100000 : Int)).fst.toList == bs_H05f13_0.toList && (v11 k (100000 : Int)).fst == (1 : Int) && (v11 k (100000 : Int)).snd.fst == (0 : Int) && (v16 k (1 : Int) (0 : Int)).fst == (86400 : Int) && (v14 k [(4 : Int), (9 : Int)] (57600 : Int)).fst == (4 : Int)) = false) then
                some false
              else none
          else none
        else none
      else none
    else none
  else none
def args13  : List AV := []
def v13 (k : Nat)  : R13 := (f13 k ).getD false
theorem of13 (k : Nat)  (r : R13) (h : f13 k  = some r) : CC Tryd.prog 13 (args13 ) [] (res13 r) (bo13 r) := by
  refine CC.of (fn := Tryd.f13) (by kernel_rfl) (by kernel_rfl) (by kernel_rfl) (by kernel_rfl) ?_
  unfold f13 at h
  refine Ev.tree hm (R := Rt) (K := (K13 k)) (l := []) (C := []) (E := [.auto [0] true]) (n := 1000) (T := .need [CC Tryd.prog 23 (args23 100000) [] (res23 (v23 k 100000)) (bo23 (v23 k 100000))] (.need [CC Tryd.prog 11 (args11 100000) [] (res11 (v11 k 100000)) (bo11 (v11 k 100000))] (.need [CC Tryd.prog 16 (args16 1 0) [] (res16 (v16 k 1 0)) (bo16 (v16 k 1 0))] (.need [CC Tryd.prog 18 (args18 (28000, 30000)) [] (res18 (v18 k (28000, 30000))) (bo18 (v18 k (28000, 30000)))] (.need [CC Tryd.prog 14 (args14 [4, 9] 57600) [] (res14 (v14 k [4, 9] 57600)) (bo14 (v14 k [4, 9] 57600))] (.test (((v23 k (100000 : Int)).snd == (0 : Int) && (v11 k (100000 : Int)).snd.snd == (0 : Int) && (v16 k (1 : Int) (0 : Int)).snd == (0 : Int) && (v18 k ((28000 : Int), (30000 : Int))).fst == (0 : Int) && (v14 k [(4 : Int), (9 : Int)] (57600 : Int)).snd == (0 : Int) && (v23 k (100000 : Int)).fst.toList == bs_H05f13_0.toList && (v11 k (100000 : Int)).fst == (1 : Int) && (v11 k (100000 : Int)).snd.fst == (0 : Int) && (v16 k (1 : Int) (0 : Int)).fst == (86400 : Int) && (v14 k [(4 : Int), (9 : Int)] (57600 : Int)).fst == (4 : Int))) (.need [((v23 k (100000 : Int)).snd == (0 : Int) && (v11 k (100000 : Int)).snd.snd == (0 : Int) && (v16 k (1 : Int) (0 : Int)).snd == (0 : Int) && (v18 k ((28000 : Int), (30000 : Int))).fst == (0 : Int) && (v14 k [(4 : Int), (9 : Int)] (57600 : Int)).snd == (0 : Int) && (v23 k (100000 : Int)).fst.toList == bs_H05f13_0.toList && (v11 k (100000 : Int)).fst == (1 : Int) && (v11 k (100000 : Int)).snd.fst == (0 : Int) && (v16 k (1 : Int) (0 : Int)).fst == (86400 : Int) && (v14 k [(4 : Int), (9 : Int)] (57600 : Int)).fst == (4 : Int)) = true, CC Tryd.prog 20 (args20 (v18 k (28000, 30000)).snd [(28000, 28800), (28800, 30000)]) [] (res20 (v20 k (v18 k (28000, 30000)).snd [(28000, 28800), (28800, 30000)])) (bo20 (v20 k (v18 k (28000, 30000)).snd [(28000, 28800), (28800, 30000)]))] (.leaf (res13 (true && v20 k (v18 k (28000, 30000)).snd [(28000, 28800), (28800, 30000)])) (bo13 (true && v20 k (v18 k (28000, 30000)).snd [(28000, 28800), (28800, 30000)])))) (.need [((v23 k (100000 : Int)).snd == (0 : Int) && (v11 k (100000 : Int)).snd.snd == (0 : Int) && (v16 k (1 : Int) (0 : Int)).snd == (0 : Int) && (v18 k ((28000 : Int), (30000 : Int))).fst == (0 : Int) && (v14 k [(4 : Int), (9 : Int)] (57600 : Int)).snd == (0 : Int) && (v23 k (100000 : Int)).fst.toList == bs_H05f13_0.toList && (v11 k (100000 : Int)).fst == (1 : Int) && (v11 k (100000 : Int)).snd.fst == (0 : Int) && (v16 k (1 : Int) (0 : Int)).fst == (86400 : Int) && (v14 k [(4 : Int), (9 : Int)] (57600 : Int)).fst == (4 : Int)) = false] (.leaf (res13 false) (bo13 false))))))))) (by kernel_rfl) ?_
  by_cases q : ((f23 k 100000).isSome = true)
  · rw [if_pos q] at h
    refine ⟨(conjC (cc23 k 100000 q) conj0), ?_⟩
    by_cases q : ((f11 k 100000).isSome = true)
    · rw [if_pos q] at h
      refine ⟨(conjC (cc11 k 100000 q) conj0), ?_⟩
      by_cases q : ((f16 k 1 0).isSome = true)
      · rw [if_pos q] at h
        refine ⟨(conjC (cc16 k 1 0 q) conj0), ?_⟩
        by_cases q : ((f18 k (28000, 30000)).isSome = true)
        · rw [if_pos q] at h
          refine ⟨(conjC (cc18 k (28000, 30000) q) conj0), ?_⟩
          by_cases q : ((f14 k [4, 9] 57600).isSome = true)
          · rw [if_pos q] at h
            refine ⟨(conjC (cc14 k [4, 9] 57600 q) conj0), ?_⟩
            refine ⟨fun c => ?_, fun c => ?_⟩
            · rw [cond_t c] at h
              by_cases q : (((v23 k (100000 : Int)).snd == (0 : Int) && (v11 k (100000 : Int)).snd.snd == (0 : Int) && (v16 k (1 : Int) (0 : Int)).snd == (0 : Int) && (v18 k ((28000 : Int), (30000 : Int))).fst == (0 : Int) && (v14 k [(4 : Int), (9 : Int)] (57600 : Int)).snd == (0 : Int) && (v23 k (100000 : Int)).fst.toList == bs_H05f13_0.toList && (v11 k (100000 : Int)).fst == (1 : Int) && (v11 k (100000 : Int)).snd.fst == (0 : Int) && (v16 k (1 : Int) (0 : Int)).fst == (86400 : Int) && (v14 k [(4 : Int), (9 : Int)] (57600 : Int)).fst == (4 : Int)) = true) ∧ ((f20 k (v18 k (28000, 30000)).snd [(28000, 28800), (28800, 30000)]).isSome = true)
              · rw [if_pos q] at h
                refine ⟨(conjC q.1 (conjC (cc20 k (v18 k (28000, 30000)).snd [(28000, 28800), (28800, 30000)] q.2) conj0)), ?_⟩
                cases h; exact ⟨rfl, rfl⟩
              · rw [if_neg q] at h; cases h
            · rw [cond_f c] at h
              by_cases q : (((v23 k (100000 : Int)).snd == (0 : Int) && (v11 k (100000 : Int)).snd.snd == (0 : Int) && (v16 k (1 : Int) (0 : Int)).snd == (0 : Int) && (v18 k ((28000 : Int), (30000 : Int))).fst == (0 : Int) && (v14 k [(4 : Int), (9 : Int)] (57600 : Int)).snd == (0 : Int) && (v23 k (100000 : Int)).fst.toList == bs_H05f13_0.toList && (v11 k (100000 : Int)).fst == (1 : Int) && (v11 k (100000 : Int)).snd.fst == (0 : Int) && (v16 k (1 : Int) (0 : Int)).fst == (86400 : Int) && (v14 k [(4 : Int), (9 : Int)] (57600 : Int)).fst == (4 : Int)) = false)
              · rw [if_pos q] at h
                refine ⟨(conjC q conj0), ?_⟩
                cases h; exact ⟨rfl, rfl⟩
              · rw [if_neg q] at h; cases h
          · rw [if_neg q] at h; cases h
        · rw [if_neg q] at h; cases h
      · rw [if_neg q] at h; cases h
    · rw [if_neg q] at h; cases h
  · rw [if_neg q] at h; cases h
theorem cc13 (k : Nat)  (h : (f13 k ).isSome = true) : CC Tryd.prog 13 (args13 ) [] (res13 (v13 k )) (bo13 (v13 k )) := by
  cases e : f13 k  with
  | none => rw [e] at h; cases h
  | some r => rw [show v13 k  = r by simp [v13, e]]; exact of13 k  r e

end
end Go.AM
namespace Go.AM
open Go Go.Proofs
set_option linter.unusedVariables false
noncomputable section
/-! ### function 28: papermill/papermillref05.Moment -/
def K28 (k : Nat) : Calld := ⟨fun g => match g with
  | _ => none, fun g xs _ => match g with
  | _ => none⟩
abbrev R28 : Type := Bool
def res28 (r : R28) : AV := .r (.v (.bool r))
def bo28 (r : R28) : List (Nat × Blk) := []
def f28 (k : Nat) (t_ : Int) : Option R28 :=
  some (decide (t_ ≥ 0) && decide (t_ ≤ 2147483647))
def args28 (t_ : Int) : List AV := [.r (.v (.int .i64 t_))]
def v28 (k : Nat) (t_ : Int) : R28 := (f28 k t_).getD false
theorem of28 (k : Nat) (t_ : Int) (r : R28) (h : f28 k t_ = some r) : CC Tryd.prog 28 (args28 t_) [] (res28 r) (bo28 r) := by
  refine CC.of (fn := Tryd.f28) (by kernel_rfl) (by kernel_rfl) (by kernel_rfl) (by kernel_rfl) ?_
  unfold f28 at h
  refine Ev.tree hm (R := Rt) (K := (K28 k)) (l := []) (C := []) (E := [.auto [2] true]) (n := 1000) (T := .leaf (res28 (decide (t_ ≥ 0) && decide (t_ ≤ 2147483647))) (bo28 (decide (t_ ≥ 0) && decide (t_ ≤ 2147483647)))) (by kernel_rfl) ?_
  cases h; exact ⟨rfl, rfl⟩
theorem cc28 (k : Nat) (t_ : Int) (h : (f28 k t_).isSome = true) : CC Tryd.prog 28 (args28 t_) [] (res28 (v28 k t_)) (bo28 (v28 k t_)) := by
  cases e : f28 k t_ with
  | none => rw [e] at h; cases h
  | some r => rw [show v28 k t_ = r by simp [v28, e]]; exact of28 k t_ r e

end
end Go.AM
namespace Go.AM
open Go Go.Proofs
set_option linter.unusedVariables false
noncomputable section
def bs_H05f35_0 : ByteArray := ByteArray.mk #[(48 : UInt8), (49 : UInt8), (50 : UInt8), (51 : UInt8), (52 : UInt8), (53 : UInt8), (54 : UInt8), (55 : UInt8), (56 : UInt8), (57 : UInt8)]
def bs_H05f35_1 : ByteArray := ByteArray.mk #[48, 49, 50, 51, 52, 53, 54, 55, 56, 57]
/-! ### function 35: papermill/papermillref05.digits -/
def K35 (k : Nat) : Calld := ⟨fun g => match g with
  | _ => none, fun g xs _ => match g with
  | _ => none⟩
abbrev R35 : Type := ByteArray
def res35 (r : R35) : AV := .r (.v (.string r))
def bo35 (r : R35) : List (Nat × Blk) := []
def st35_3 (x0 : Int) (x1 : Int) (x2 : ByteArray) (x3 : Int) : St := ⟨mkS 27 [(0, .r (.v (.int .i64 x0))), (1, .r (.v (.int .i64 x1))), (5, .r (.v (.string x2))), (6, .r (.v (.int .i64 x3)))], []⟩
def f35_3 (k : Nat) : Nat → Int → Int → ByteArray → Int → Option R35
  | 0, _, _, _, _ => none
  | j + 1, x0, x1, x2, x3 =>
    bif (decide (x3 < x1) || decide (x0 > (0 : Int))) then
      if ((10 : Int) ≠ (0 : Int)) ∧ ((10 : Int) ≠ (0 : Int)) ∧ ((0 : Int) ≤ x0.tmod (10 : Int)) ∧ (x0.tmod (10 : Int) ≤ IntKind.i64.wrap (x0.tmod (10 : Int) + (1 : Int))) ∧ (IntKind.i64.wrap (x0.tmod (10 : Int) + (1 : Int)) ≤ (↑ bs_H05f35_0.size : Int)) ∧ ((↑ ((bs_H05f35_0.extract (x0.tmod (10 : Int)).toNat (IntKind.i64.wrap (x0.tmod (10 : Int) + (1 : Int))).toNat).size + x2.size) : Int) ≤ IntKind.i64.max) then
        if ((10 : Int) ≠ (0 : Int)) then
          f35_3 k j ((IntKind.i64.wrap (x0.tdiv 10))) x1 ((bs_H05f35_1.extract (x0.tmod 10).toNat (IntKind.i64.wrap (x0.tmod 10 + 1)).toNat ++ x2)) ((IntKind.i64.wrap (x3 + 1)))
        else none
      else none
    else
      some x2
def f35 (k : Nat) (n_ : Int) (least_ : Int) : Option R35 :=
  f35_3 k k n_ least_ ((ByteArray.mk #[])) 0
def args35 (n_ : Int) (least_ : Int) : List AV := [.r (.v (.int .i64 n_)), .r (.v (.int .i64 least_))]
def v35 (k : Nat) (n_ : Int) (least_ : Int) : R35 := (f35 k n_ least_).getD ByteArray.empty
theorem ev35 (k : Nat) : ∀ j, (∀ (x0 : Int) (x1 : Int) (x2 : ByteArray) (x3 : Int) (r : R35), f35_3 k j x0 x1 x2 x3 = some r → Ev Tryd.prog Tryd.f35 0 (placeAt Tryd.f35 3) (st35_3 x0 x1 x2 x3) (res35 r) (bo35 r))
  | 0 => by
    intros; rename_i h; simp [f35_3] at h
  | j + 1 => by
    have ih := ev35 k j
    · intro x0 x1 x2 x3 r h
      rw [f35_3] at h
      refine Ev.tree hm (R := Rt) (K := (K35 k)) (l := []) (C := [(3, [.auto [0, 1, 5, 6] false])]) (E := [.auto [4] true]) (n := 1000) (T := .test ((decide (x3 < x1) || decide (x0 > (0 : Int)))) (.need [(10 : Int) ≠ (0 : Int), (10 : Int) ≠ (0 : Int), (0 : Int) ≤ x0.tmod (10 : Int), x0.tmod (10 : Int) ≤ IntKind.i64.wrap (x0.tmod (10 : Int) + (1 : Int)), IntKind.i64.wrap (x0.tmod (10 : Int) + (1 : Int)) ≤ (↑ bs_H05f35_0.size : Int), (↑ ((bs_H05f35_0.extract (x0.tmod (10 : Int)).toNat (IntKind.i64.wrap (x0.tmod (10 : Int) + (1 : Int))).toNat).size + x2.size) : Int) ≤ IntKind.i64.max] (.need [(10 : Int) ≠ (0 : Int)] (.cut 3 (placeAt Tryd.f35 3) (st35_3 ((IntKind.i64.wrap (x0.tdiv 10))) x1 ((bs_H05f35_1.extract (x0.tmod 10).toNat (IntKind.i64.wrap (x0.tmod 10 + 1)).toNat ++ x2)) ((IntKind.i64.wrap (x3 + 1))))))) (.leaf (res35 x2) (bo35 x2))) (by kernel_rfl) ?_
      refine ⟨fun c => ?_, fun c => ?_⟩
      · rw [cond_t c] at h
        by_cases q : ((10 : Int) ≠ (0 : Int)) ∧ ((10 : Int) ≠ (0 : Int)) ∧ ((0 : Int) ≤ x0.tmod (10 : Int)) ∧ (x0.tmod (10 : Int) ≤ IntKind.i64.wrap (x0.tmod (10 : Int) + (1 : Int))) ∧ (IntKind.i64.wrap (x0.tmod (10 : Int) + (1 : Int)) ≤ (↑ bs_H05f35_0.size : Int)) ∧ ((↑ ((bs_H05f35_0.extract (x0.tmod (10 : Int)).toNat (IntKind.i64.wrap (x0.tmod (10 : Int) + (1 : Int))).toNat).size + x2.size) : Int) ≤ IntKind.i64.max)
        · rw [if_pos q] at h
          refine ⟨(conjC q.1 (conjC q.2.1 (conjC q.2.2.1 (conjC q.2.2.2.1 (conjC q.2.2.2.2.1 (conjC q.2.2.2.2.2 conj0)))))), ?_⟩
          by_cases q : ((10 : Int) ≠ (0 : Int))
          · rw [if_pos q] at h
            refine ⟨(conjC q conj0), ?_⟩
            exact ih ((IntKind.i64.wrap (x0.tdiv 10))) x1 ((bs_H05f35_1.extract (x0.tmod 10).toNat (IntKind.i64.wrap (x0.tmod 10 + 1)).toNat ++ x2)) ((IntKind.i64.wrap (x3 + 1))) _ h
          · rw [if_neg q] at h; cases h
        · rw [if_neg q] at h; cases h
      · rw [cond_f c] at h
        cases h; exact ⟨rfl, rfl⟩
theorem of35 (k : Nat) (n_ : Int) (least_ : Int) (r : R35) (h : f35 k n_ least_ = some r) : CC Tryd.prog 35 (args35 n_ least_) [] (res35 r) (bo35 r) := by
  refine CC.of (fn := Tryd.f35) (by kernel_rfl) (by kernel_rfl) (by kernel_rfl) (by kernel_rfl) ?_
  unfold f35 at h
  refine Ev.tree hm (R := Rt) (K := (K35 k)) (l := []) (C := [(3, [.auto [0, 1, 5, 6] false])]) (E := [.auto [4] true]) (n := 1000) (T := .cut 3 (placeAt Tryd.f35 3) (st35_3 n_ least_ ((ByteArray.mk #[])) 0)) (by kernel_rfl) ?_
  exact (ev35 k k) n_ least_ ((ByteArray.mk #[])) 0 _ h
theorem cc35 (k : Nat) (n_ : Int) (least_ : Int) (h : (f35 k n_ least_).isSome = true) : CC Tryd.prog 35 (args35 n_ least_) [] (res35 (v35 k n_ least_)) (bo35 (v35 k n_ least_)) := by
  cases e : f35 k n_ least_ with
  | none => rw [e] at h; cases h
  | some r => rw [show v35 k n_ least_ = r by simp [v35, e]]; exact of35 k n_ least_ r e

end
end Go.AM
namespace Go.AM
open Go Go.Proofs
set_option linter.unusedVariables false
noncomputable section
/-! ### function 24: papermill/papermillref05.Format -/
def K24 (k : Nat) : Calld := ⟨fun g => match g with
  | 28 => some [false]
  | 35 => some [false, false]
  | _ => none, fun g xs _ => match g with
  | 28 => match xs with
    | [.r (.v (.int .i64 t_))] => some (res28 (v28 k t_), bo28 (v28 k t_))
    | _ => none
  | 35 => match xs with
    | [.r (.v (.int .i64 n_)), .r (.v (.int .i64 least_))] => some (res35 (v35 k n_ least_), bo35 (v35 k n_ least_))
    | _ => none
  | _ => none⟩
abbrev R24 : Type := ByteArray × Int
def res24 (r : R24) : AV := .tup [.r (.v (.string r.1)), .r (.v (.int .i64 r.2))]
def bo24 (r : R24) : List (Nat × Blk) := []
def f24 (k : Nat) (t_ : Int) : Option R24 :=
  if ((f28 k t_).isSome = true) then
    bif (!v28 k t_) then
      some ((ByteArray.mk #[], 1))
    else
      if ((86400 : Int) ≠ (0 : Int)) then
        if ((86400 : Int) ≠ (0 : Int)) ∧ ((f35 k (IntKind.i64.wrap (t_.tdiv 86400)) 1).isSome = true) ∧ ((↑ (ByteArray.size (v35 k (IntKind.i64.wrap (t_.tdiv (86400 : Int))) (1 : Int)) + (ByteArray.mk #[(32 : UInt8)]).size) : Int) ≤ IntKind.i64.max) ∧ ((3600 : Int) ≠ (0 : Int)) ∧ ((f35 k (IntKind.i64.wrap ((t_.tmod 86400).tdiv 3600)) 2).isSome = true) ∧ ((↑ ((v35 k (IntKind.i64.wrap (t_.tdiv (86400 : Int))) (1 : Int) ++ (ByteArray.mk #[(32 : UInt8)])).size + ByteArray.size (v35 k (IntKind.i64.wrap ((t_.tmod (86400 : Int)).tdiv (3600 : Int))) (2 : Int))) : Int) ≤ IntKind.i64.max) ∧ ((↑ ((v35 k (IntKind.i64.wrap (t_.tdiv (86400 : Int))) (1 : Int) ++ (ByteArray.mk #[(32 : UInt8)]) ++ v35 k (IntKind.i64.wrap ((t_.tmod (86400 : Int)).tdiv (3600 : Int))) (2 : Int)).size + (ByteArray.mk #[(58 : UInt8)]).size) : Int) ≤ IntKind.i64.max) ∧ ((60 : Int) ≠ (0 : Int)) ∧ ((60 : Int) ≠ (0 : Int)) ∧ ((f35 k ((IntKind.i64.wrap ((t_.tmod 86400).tdiv 60)).tmod 60) 2).isSome = true) ∧ ((↑ ((v35 k (IntKind.i64.wrap (t_.tdiv (86400 : Int))) (1 : Int) ++ (ByteArray.mk #[(32 : UInt8)]) ++ v35 k (IntKind.i64.wrap ((t_.tmod (86400 : Int)).tdiv (3600 : Int))) (2 : Int) ++ (ByteArray.mk #[(58 : UInt8)])).size + ByteArray.size (v35 k ((IntKind.i64.wrap ((t_.tmod (86400 : Int)).tdiv (60 : Int))).tmod (60 : Int)) (2 : Int))) : Int) ≤ IntKind.i64.max) ∧ ((↑ ((v35 k (IntKind.i64.wrap (t_.tdiv (86400 : Int))) (1 : Int) ++ (ByteArray.mk #[(32 : UInt8)]) ++ v35 k (IntKind.i64.wrap ((t_.tmod (86400 : Int)).tdiv (3600 : Int))) (2 : Int) ++ (ByteArray.mk #[(58 : UInt8)]) ++ v35 k ((IntKind.i64.wrap ((t_.tmod (86400 : Int)).tdiv (60 : Int))).tmod (60 : Int)) (2 : Int)).size + (ByteArray.mk #[(58 : UInt8)]).size) : Int) ≤ IntKind.i64.max) ∧ ((60 : Int) ≠ (0 : Int)) ∧ ((f35 k ((t_.tmod 86400).tmod 60) 2).isSome = true) ∧ ((↑ ((v35 k (IntKind.i64.wrap (t_.tdiv (86400 : Int))) (1 : Int) ++ (ByteArray.mk #[(32 : UInt8)]) ++ v35 k (IntKind.i64.wrap ((t_.tmod (86400 : Int)).tdiv (3600 : Int))) (2 : Int) ++ (ByteArray.mk #[(58 : UInt8)]) ++ v35 k ((IntKind.i64.wrap ((t_.tmod (86400 : Int)).tdiv (60 : Int))).tmod (60 : Int)) (2 : Int) ++ (ByteArray.mk #[(58 : UInt8)])).size + ByteArray.size (v35 k ((t_.tmod (86400 : Int)).tmod (60 : Int)) (2 : Int))) : Int) ≤ IntKind.i64.max) then
          some ((v35 k (IntKind.i64.wrap (t_.tdiv 86400)) 1 ++ (ByteArray.mk #[32]) ++ v35 k (IntKind.i64.wrap ((t_.tmod 86400).tdiv 3600)) 2 ++ (ByteArray.mk #[58]) ++ v35 k ((IntKind.i64.wrap ((t_.tmod 86400).tdiv 60)).tmod 60) 2 ++ (ByteArray.mk #[58]) ++ v35 k ((t_.tmod 86400).tmod 60) 2, 0))
        else none
      else none
  else none
def args24 (t_ : Int) : List AV := [.r (.v (.int .i64 t_))]
def v24 (k : Nat) (t_ : Int) : R24 := (f24 k t_).getD (ByteArray.empty, 0)
theorem of24 (k : Nat) (t_ : Int) (r : R24) (h : f24 k t_ = some r) : CC Tryd.prog 24 (args24 t_) [] (res24 r) (bo24 r) := by
  refine CC.of (fn := Tryd.f24) (by kernel_rfl) (by kernel_rfl) (by kernel_rfl) (by kernel_rfl) ?_
  unfold f24 at h
  refine Ev.tree hm (R := Rt) (K := (K24 k)) (l := []) (C := []) (E := [.auto [2, 3] true]) (n := 1000) (T := .need [CC Tryd.prog 28 (args28 t_) [] (res28 (v28 k t_)) (bo28 (v28 k t_))] (.test ((!v28 k t_)) (.leaf (res24 ((ByteArray.mk #[], 1))) (bo24 ((ByteArray.mk #[], 1)))) (.need [(86400 : Int) ≠ (0 : Int)] (.need [(86400 : Int) ≠ (0 : Int), CC Tryd.prog 35 (args35 (IntKind.i64.wrap (t_.tdiv 86400)) 1) [] (res35 (v35 k (IntKind.i64.wrap (t_.tdiv 86400)) 1)) (bo35 (v35 k (IntKind.i64.wrap (t_.tdiv 86400)) 1)), (↑ (ByteArray.size (v35 k (IntKind.i64.wrap (t_.tdiv (86400 : Int))) (1 : Int)) + (ByteArray.mk #[(32 : UInt8)]).size) : Int) ≤ IntKind.i64.max, (3600 : Int) ≠ (0 : Int), CC Tryd.prog 35 (args35 (IntKind.i64.wrap ((t_.tmod 86400).tdiv 3600)) 2) [] (res35 (v35 k (IntKind.i64.wrap ((t_.tmod 86400).tdiv 3600)) 2)) (bo35 (v35 k (IntKind.i64.wrap ((t_.tmod 86400).tdiv 3600)) 2)), (↑ ((v35 k (IntKind.i64.wrap (t_.tdiv (86400 : Int))) (1 : Int) ++ (ByteArray.mk #[(32 : UInt8)])).size + ByteArray.size (v35 k (IntKind.i64.wrap ((t_.tmod (86400 : Int)).tdiv (3600 : Int))) (2 : Int))) : Int) ≤ IntKind.i64.max, (↑ ((v35 k (IntKind.i64.wrap (t_.tdiv (86400 : Int))) (1 : Int) ++ (ByteArray.mk #[(32 : UInt8)]) ++ v35 k (IntKind.i64.wrap ((t_.tmod (86400 : Int)).tdiv (3600 : Int))) (2 : Int)).size + (ByteArray.mk #[(58 : UInt8)]).size) : Int) ≤ IntKind.i64.max, (60 : Int) ≠ (0 : Int), (60 : Int) ≠ (0 : Int), CC Tryd.prog 35 (args35 ((IntKind.i64.wrap ((t_.tmod 86400).tdiv 60)).tmod 60) 2) [] (res35 (v35 k ((IntKind.i64.wrap ((t_.tmod 86400).tdiv 60)).tmod 60) 2)) (bo35 (v35 k ((IntKind.i64.wrap ((t_.tmod 86400).tdiv 60)).tmod 60) 2)), (↑ ((v35 k (IntKind.i64.wrap (t_.tdiv (86400 : Int))) (1 : Int) ++ (ByteArray.mk #[(32 : UInt8)]) ++ v35 k (IntKind.i64.wrap ((t_.tmod (86400 : Int)).tdiv (3600 : Int))) (2 : Int) ++ (ByteArray.mk #[(58 : UInt8)])).size + ByteArray.size (v35 k ((IntKind.i64.wrap ((t_.tmod (86400 : Int)).tdiv (60 : Int))).tmod (60 : Int)) (2 : Int))) : Int) ≤ IntKind.i64.max, (↑ ((v35 k (IntKind.i64.wrap (t_.tdiv (86400 : Int))) (1 : Int) ++ (ByteArray.mk #[(32 : UInt8)]) ++ v35 k (IntKind.i64.wrap ((t_.tmod (86400 : Int)).tdiv (3600 : Int))) (2 : Int) ++ (ByteArray.mk #[(58 : UInt8)]) ++ v35 k ((IntKind.i64.wrap ((t_.tmod (86400 : Int)).tdiv (60 : Int))).tmod (60 : Int)) (2 : Int)).size + (ByteArray.mk #[(58 : UInt8)]).size) : Int) ≤ IntKind.i64.max, (60 : Int) ≠ (0 : Int), CC Tryd.prog 35 (args35 ((t_.tmod 86400).tmod 60) 2) [] (res35 (v35 k ((t_.tmod 86400).tmod 60) 2)) (bo35 (v35 k ((t_.tmod 86400).tmod 60) 2)), (↑ ((v35 k (IntKind.i64.wrap (t_.tdiv (86400 : Int))) (1 : Int) ++ (ByteArray.mk #[(32 : UInt8)]) ++ v35 k (IntKind.i64.wrap ((t_.tmod (86400 : Int)).tdiv (3600 : Int))) (2 : Int) ++ (ByteArray.mk #[(58 : UInt8)]) ++ v35 k ((IntKind.i64.wrap ((t_.tmod (86400 : Int)).tdiv (60 : Int))).tmod (60 : Int)) (2 : Int) ++ (ByteArray.mk #[(58 : UInt8)])).size + ByteArray.size (v35 k ((t_.tmod (86400 : Int)).tmod (60 : Int)) (2 : Int))) : Int) ≤ IntKind.i64.max] (.leaf (res24 ((v35 k (IntKind.i64.wrap (t_.tdiv 86400)) 1 ++ (ByteArray.mk #[32]) ++ v35 k (IntKind.i64.wrap ((t_.tmod 86400).tdiv 3600)) 2 ++ (ByteArray.mk #[58]) ++ v35 k ((IntKind.i64.wrap ((t_.tmod 86400).tdiv 60)).tmod 60) 2 ++ (ByteArray.mk #[58]) ++ v35 k ((t_.tmod 86400).tmod 60) 2, 0))) (bo24 ((v35 k (IntKind.i64.wrap (t_.tdiv 86400)) 1 ++ (ByteArray.mk #[32]) ++ v35 k (IntKind.i64.wrap ((t_.tmod 86400).tdiv 3600)) 2 ++ (ByteArray.mk #[58]) ++ v35 k ((IntKind.i64.wrap ((t_.tmod 86400).tdiv 60)).tmod 60) 2 ++ (ByteArray.mk #[58]) ++ v35 k ((t_.tmod 86400).tmod 60) 2, 0)))))))) (by kernel_rfl) ?_
  by_cases q : ((f28 k t_).isSome = true)
  · rw [if_pos q] at h
    refine ⟨(conjC (cc28 k t_ q) conj0), ?_⟩
    refine ⟨fun c => ?_, fun c => ?_⟩
    · rw [cond_t c] at h
      cases h; exact ⟨rfl, rfl⟩
    · rw [cond_f c] at h
      by_cases q : ((86400 : Int) ≠ (0 : Int))
      · rw [if_pos q] at h
        refine ⟨(conjC q conj0), ?_⟩
        by_cases q : ((86400 : Int) ≠ (0 : Int)) ∧ ((f35 k (IntKind.i64.wrap (t_.tdiv 86400)) 1).isSome = true) ∧ ((↑ (ByteArray.size (v35 k (IntKind.i64.wrap (t_.tdiv (86400 : Int))) (1 : Int)) + (ByteArray.mk #[(32 : UInt8)]).size) : Int) ≤ IntKind.i64.max) ∧ ((3600 : Int) ≠ (0 : Int)) ∧ ((f35 k (IntKind.i64.wrap ((t_.tmod 86400).tdiv 3600)) 2).isSome = true) ∧ ((↑ ((v35 k (IntKind.i64.wrap (t_.tdiv (86400 : Int))) (1 : Int) ++ (ByteArray.mk #[(32 : UInt8)])).size + ByteArray.size (v35 k (IntKind.i64.wrap ((t_.tmod (86400 : Int)).tdiv (3600 : Int))) (2 : Int))) : Int) ≤ IntKind.i64.max) ∧ ((↑ ((v35 k (IntKind.i64.wrap (t_.tdiv (86400 : Int))) (1 : Int) ++ (ByteArray.mk #[(32 : UInt8)]) ++ v35 k (IntKind.i64.wrap ((t_.tmod (86400 : Int)).tdiv (3600 : Int))) (2 : Int)).size + (ByteArray.mk #[(58 : UInt8)]).size) : Int) ≤ IntKind.i64.max) ∧ ((60 : Int) ≠ (0 : Int)) ∧ ((60 : Int) ≠ (0 : Int)) ∧ ((f35 k ((IntKind.i64.wrap ((t_.tmod 86400).tdiv 60)).tmod 60) 2).isSome = true) ∧ ((↑ ((v35 k (IntKind.i64.wrap (t_.tdiv (86400 : Int))) (1 : Int) ++ (ByteArray.mk #[(32 : UInt8)]) ++ v35 k (IntKind.i64.wrap ((t_.tmod (86400 : Int)).tdiv (3600 : Int))) (2 : Int) ++ (ByteArray.mk #[(58 : UInt8)])).size + ByteArray.size (v35 k ((IntKind.i64.wrap ((t_.tmod (86400 : Int)).tdiv (60 : Int))).tmod (60 : Int)) (2 : Int))) : Int) ≤ IntKind.i64.max) ∧ ((↑ ((v35 k (IntKind.i64.wrap (t_.tdiv (86400 : Int))) (1 : Int) ++ (ByteArray.mk #[(32 : UInt8)]) ++ v35 k (IntKind.i64.wrap ((t_.tmod (86400 : Int)).tdiv (3600 : Int))) (2 : Int) ++ (ByteArray.mk #[(58 : UInt8)]) ++ v35 k ((IntKind.i64.wrap ((t_.tmod (86400 : Int)).tdiv (60 : Int))).tmod (60 : Int)) (2 : Int)).size + (ByteArray.mk #[(58 : UInt8)]).size) : Int) ≤ IntKind.i64.max) ∧ ((60 : Int) ≠ (0 : Int)) ∧ ((f35 k ((t_.tmod 86400).tmod 60) 2).isSome = true) ∧ ((↑ ((v35 k (IntKind.i64.wrap (t_.tdiv (86400 : Int))) (1 : Int) ++ (ByteArray.mk #[(32 : UInt8)]) ++ v35 k (IntKind.i64.wrap ((t_.tmod (86400 : Int)).tdiv (3600 : Int))) (2 : Int) ++ (ByteArray.mk #[(58 : UInt8)]) ++ v35 k ((IntKind.i64.wrap ((t_.tmod (86400 : Int)).tdiv (60 : Int))).tmod (60 : Int)) (2 : Int) ++ (ByteArray.mk #[(58 : UInt8)])).size + ByteArray.size (v35 k ((t_.tmod (86400 : Int)).tmod (60 : Int)) (2 : Int))) : Int) ≤ IntKind.i64.max)
        · rw [if_pos q] at h
          refine ⟨(conjC q.1 (conjC (cc35 k (IntKind.i64.wrap (t_.tdiv 86400)) 1 q.2.1) (conjC q.2.2.1 (conjC q.2.2.2.1 (conjC (cc35 k (IntKind.i64.wrap ((t_.tmod 86400).tdiv 3600)) 2 q.2.2.2.2.1) (conjC q.2.2.2.2.2.1 (conjC q.2.2.2.2.2.2.1 (conjC q.2.2.2.2.2.2.2.1 (conjC q.2.2.2.2.2.2.2.2.1 (conjC (cc35 k ((IntKind.i64.wrap ((t_.tmod 86400).tdiv 60)).tmod 60) 2 q.2.2.2.2.2.2.2.2.2.1) (conjC q.2.2.2.2.2.2.2.2.2.2.1 (conjC q.2.2.2.2.2.2.2.2.2.2.2.1 (conjC q.2.2.2.2.2.2.2.2.2.2.2.2.1 (conjC (cc35 k ((t_.tmod 86400).tmod 60) 2 q.2.2.2.2.2.2.2.2.2.2.2.2.2.1) (conjC q.2.2.2.2.2.2.2.2.2.2.2.2.2.2 conj0))))))))))))))), ?_⟩
          cases h; exact ⟨rfl, rfl⟩
        · rw [if_neg q] at h; cases h
      · rw [if_neg q] at h; cases h
  · rw [if_neg q] at h; cases h
theorem cc24 (k : Nat) (t_ : Int) (h : (f24 k t_).isSome = true) : CC Tryd.prog 24 (args24 t_) [] (res24 (v24 k t_)) (bo24 (v24 k t_)) := by
  cases e : f24 k t_ with
  | none => rw [e] at h; cases h
  | some r => rw [show v24 k t_ = r by simp [v24, e]]; exact of24 k t_ r e

end
end Go.AM
namespace Go.AM
open Go Go.Proofs
set_option linter.unusedVariables false
noncomputable section
/-! ### function 36: papermill/clock.number -/
def K36 (k : Nat) : Calld := ⟨fun g => match g with
  | _ => none, fun g xs _ => match g with
  | _ => none⟩
abbrev R36 : Type := Int × Bool
def res36 (r : R36) : AV := .tup [.r (.v (.int .i64 r.1)), .r (.v (.bool r.2))]
def bo36 (r : R36) : List (Nat × Blk) := []
def st36_5 (x0 : ByteArray) (x1 : Int) (x2 : Int) (x3 : Int) : St := ⟨mkS 38 [(0, .r (.v (.string x0))), (4, .r (.v (.int .i64 x1))), (14, .r (.v (.int .i64 x2))), (15, .r (.v (.int .i64 x3)))], []⟩
def f36_5 (k : Nat) : Nat → ByteArray → Int → Int → Int → Option R36
  | 0, _, _, _, _ => none
  | j + 1, x0, x1, x2, x3 =>
    bif (decide (x3 < x2)) then
      if ((0 : Int) ≤ x3) ∧ (x3 < (↑x0.size : Int)) ∧ (decide (bAt x0 x3 < (48 : Int)) = false → (0 : Int) ≤ x3) ∧ (decide (bAt x0 x3 < (48 : Int)) = false → x3 < (↑x0.size : Int)) then
        bif (decide (bAt x0 x3 < (48 : Int)) || decide (bAt x0 x3 > (57 : Int))) then
          some ((0, false))
        else
          if ((0 : Int) ≤ x3) ∧ (x3 < (↑x0.size : Int)) then
            f36_5 k j x0 ((IntKind.i64.wrap (IntKind.i64.wrap (10 * x1) + IntKind.i64.wrap (IntKind.u8.wrap (bAt x0 x3 - 48))))) x2 ((IntKind.i64.wrap (x3 + 1)))
          else none
      else none
    else
      some ((x1, true))
def f36 (k : Nat) (s_ : ByteArray) : Option R36 :=
  bif (s_.toList == (ByteArray.mk #[]).toList || decide ((↑s_.size : Int) > (6 : Int))) then
    some ((0, false))
  else
    f36_5 k k s_ 0 ((↑s_.size : Int)) 0
def args36 (s_ : ByteArray) : List AV := [.r (.v (.string s_))]
def v36 (k : Nat) (s_ : ByteArray) : R36 := (f36 k s_).getD (0, false)
theorem ev36 (k : Nat) : ∀ j, (∀ (x0 : ByteArray) (x1 : Int) (x2 : Int) (x3 : Int) (r : R36), f36_5 k j x0 x1 x2 x3 = some r → Ev Tryd.prog Tryd.f36 0 (placeAt Tryd.f36 5) (st36_5 x0 x1 x2 x3) (res36 r) (bo36 r))
  | 0 => by
    intros; rename_i h; simp [f36_5] at h
  | j + 1 => by
    have ih := ev36 k j
    · intro x0 x1 x2 x3 r h
      rw [f36_5] at h
      refine Ev.tree hm (R := Rt) (K := (K36 k)) (l := []) (C := [(5, [.auto [0, 4, 14, 15] false])]) (E := [.auto [2, 3] true]) (n := 1000) (T := .test ((decide (x3 < x2))) (.need [(0 : Int) ≤ x3, x3 < (↑x0.size : Int), decide (bAt x0 x3 < (48 : Int)) = false → (0 : Int) ≤ x3, decide (bAt x0 x3 < (48 : Int)) = false → x3 < (↑x0.size : Int)] (.test ((decide (bAt x0 x3 < (48 : Int)) || decide (bAt x0 x3 > (57 : Int)))) (.leaf (res36 ((0, false))) (bo36 ((0, false)))) (.need [(0 : Int) ≤ x3, x3 < (↑x0.size : Int)] (.cut 5 (placeAt Tryd.f36 5) (st36_5 x0 ((IntKind.i64.wrap (IntKind.i64.wrap (10 * x1) + IntKind.i64.wrap (IntKind.u8.wrap (bAt x0 x3 - 48))))) x2 ((IntKind.i64.wrap (x3 + 1)))))))) (.leaf (res36 ((x1, true))) (bo36 ((x1, true))))) (by kernel_rfl) ?_
      refine ⟨fun c => ?_, fun c => ?_⟩
      · rw [cond_t c] at h
        by_cases q : ((0 : Int) ≤ x3) ∧ (x3 < (↑x0.size : Int)) ∧ (decide (bAt x0 x3 < (48 : Int)) = false → (0 : Int) ≤ x3) ∧ (decide (bAt x0 x3 < (48 : Int)) = false → x3 < (↑x0.size : Int))
        · rw [if_pos q] at h
          refine ⟨(conjC q.1 (conjC q.2.1 (conjC q.2.2.1 (conjC q.2.2.2 conj0)))), ?_⟩
          refine ⟨fun c => ?_, fun c => ?_⟩
          · rw [cond_t c] at h
            cases h; exact ⟨rfl, rfl⟩
          · rw [cond_f c] at h
            by_cases q : ((0 : Int) ≤ x3) ∧ (x3 < (↑x0.size : Int))
            · rw [if_pos q] at h
              refine ⟨(conjC q.1 (conjC q.2 conj0)), ?_⟩
              exact ih x0 ((IntKind.i64.wrap (IntKind.i64.wrap (10 * x1) + IntKind.i64.wrap (IntKind.u8.wrap (bAt x0 x3 - 48))))) x2 ((IntKind.i64.wrap (x3 + 1))) _ h
            · rw [if_neg q] at h; cases h
        · rw [if_neg q] at h; cases h
      · rw [cond_f c] at h
        cases h; exact ⟨rfl, rfl⟩
theorem of36 (k : Nat) (s_ : ByteArray) (r : R36) (h : f36 k s_ = some r) : CC Tryd.prog 36 (args36 s_) [] (res36 r) (bo36 r) := by
  refine CC.of (fn := Tryd.f36) (by kernel_rfl) (by kernel_rfl) (by kernel_rfl) (by kernel_rfl) ?_
  unfold f36 at h
  refine Ev.tree hm (R := Rt) (K := (K36 k)) (l := []) (C := [(5, [.auto [0, 4, 14, 15] false])]) (E := [.auto [2, 3] true]) (n := 1000) (T := .test ((s_.toList == (ByteArray.mk #[]).toList || decide ((↑s_.size : Int) > (6 : Int)))) (.leaf (res36 ((0, false))) (bo36 ((0, false)))) (.cut 5 (placeAt Tryd.f36 5) (st36_5 s_ 0 ((↑s_.size : Int)) 0))) (by kernel_rfl) ?_
  refine ⟨fun c => ?_, fun c => ?_⟩
  · rw [cond_t c] at h
    cases h; exact ⟨rfl, rfl⟩
  · rw [cond_f c] at h
    exact (ev36 k k) s_ 0 ((↑s_.size : Int)) 0 _ h
theorem cc36 (k : Nat) (s_ : ByteArray) (h : (f36 k s_).isSome = true) : CC Tryd.prog 36 (args36 s_) [] (res36 (v36 k s_)) (bo36 (v36 k s_)) := by
  cases e : f36 k s_ with
  | none => rw [e] at h; cases h
  | some r => rw [show v36 k s_ = r by simp [v36, e]]; exact of36 k s_ r e

end
end Go.AM
namespace Go.AM
open Go Go.Proofs
set_option linter.unusedVariables false
noncomputable section
/-! ### function 25: papermill/clock.Parse -/
def K25 (k : Nat) : Calld := ⟨fun g => match g with
  | 23 => some [false]
  | 36 => some [false]
  | _ => none, fun g xs _ => match g with
  | 23 => match xs with
    | [.r (.v (.int .i64 t_))] => some (res23 (v23 k t_), bo23 (v23 k t_))
    | _ => none
  | 36 => match xs with
    | [.r (.v (.string s_))] => some (res36 (v36 k s_), bo36 (v36 k s_))
    | _ => none
  | _ => none⟩
abbrev R25 : Type := Int × Int
def res25 (r : R25) : AV := .tup [.r (.v (.int .i64 r.1)), .r (.v (.int .i64 r.2))]
def bo25 (r : R25) : List (Nat × Blk) := []
def st25_10008 (x0 : ByteArray) (x1 : Int) (x2 : ByteArray) (x3 : ByteArray) (x4 : ByteArray) (x5 : ByteArray) (x6 : t54.T) : St := ⟨mkS 76 [(0, .r (.v (.string x0))), (6, .ptr 1000000 0 0), (7, .r (.v (.int .i64 x1))), (43, .agg [.r (.v (.string x2)), .r (.v (.string x3)), .r (.v (.string x4)), .r (.v (.string x5))]), (44, .r (.v (.int .i64 0)))], [(1000000, 0, .var 54 (rvs (enc t54 x6)))]⟩
def st25_20008 (x0 : ByteArray) (x1 : Int) (x2 : ByteArray) (x3 : ByteArray) (x4 : ByteArray) (x5 : ByteArray) (x6 : t54.T) : St := ⟨mkS 76 [(0, .r (.v (.string x0))), (6, .ptr 1000000 0 0), (7, .r (.v (.int .i64 x1))), (43, .agg [.r (.v (.string x2)), .r (.v (.string x3)), .r (.v (.string x4)), .r (.v (.string x5))]), (44, .r (.v (.int .i64 1)))], [(1000000, 0, .var 54 (rvs (enc t54 x6)))]⟩
def st25_30008 (x0 : ByteArray) (x1 : Int) (x2 : ByteArray) (x3 : ByteArray) (x4 : ByteArray) (x5 : ByteArray) (x6 : t54.T) : St := ⟨mkS 76 [(0, .r (.v (.string x0))), (6, .ptr 1000000 0 0), (7, .r (.v (.int .i64 x1))), (43, .agg [.r (.v (.string x2)), .r (.v (.string x3)), .r (.v (.string x4)), .r (.v (.string x5))]), (44, .r (.v (.int .i64 2)))], [(1000000, 0, .var 54 (rvs (enc t54 x6)))]⟩
def st25_40008 (x0 : ByteArray) (x1 : Int) (x2 : ByteArray) (x3 : ByteArray) (x4 : ByteArray) (x5 : ByteArray) (x6 : t54.T) : St := ⟨mkS 76 [(0, .r (.v (.string x0))), (6, .ptr 1000000 0 0), (7, .r (.v (.int .i64 x1))), (43, .agg [.r (.v (.string x2)), .r (.v (.string x3)), .r (.v (.string x4)), .r (.v (.string x5))]), (44, .r (.v (.int .i64 3)))], [(1000000, 0, .var 54 (rvs (enc t54 x6)))]⟩
def st25_50008 (x0 : ByteArray) (x1 : Int) (x2 : ByteArray) (x3 : ByteArray) (x4 : ByteArray) (x5 : ByteArray) (x6 : t54.T) : St := ⟨mkS 76 [(0, .r (.v (.string x0))), (6, .ptr 1000000 0 0), (7, .r (.v (.int .i64 x1))), (43, .agg [.r (.v (.string x2)), .r (.v (.string x3)), .r (.v (.string x4)), .r (.v (.string x5))]), (44, .r (.v (.int .i64 4)))], [(1000000, 0, .var 54 (rvs (enc t54 x6)))]⟩
mutual
def f25_10008 (k : Nat) : Nat → ByteArray → Int → ByteArray → ByteArray → ByteArray → ByteArray → t54.T → Option R25
  | 0, _, _, _, _, _, _, _ => none
  | j + 1, x0, x1, x2, x3, x4, x5, x6 =>
    if ((0 : Int) ≤ (0 : Int)) ∧ ((0 : Int) < (↑ (4 : Nat) : Int)) then
      if ((f36 k x2).isSome = true) then
        bif (! (v36 k x2).snd) then
          some ((0, 3))
        else
          if ((0 : Int) ≤ (0 : Int)) ∧ ((0 : Int) < (↑ (4 : Nat) : Int)) then
            f25_20008 k j x0 ((IntKind.i64.wrap (x1 + IntKind.i64.wrap ((v36 k x2).fst * x6.fst)))) x2 x3 x4 x5 x6
          else none
      else none
    else none
def f25_20008 (k : Nat) : Nat → ByteArray → Int → ByteArray → ByteArray → ByteArray → ByteArray → t54.T → Option R25
  | 0, _, _, _, _, _, _, _ => none
  | j + 1, x0, x1, x2, x3, x4, x5, x6 =>
    if ((0 : Int) ≤ (1 : Int)) ∧ ((1 : Int) < (↑ (4 : Nat) : Int)) then
      if ((f36 k x3).isSome = true) then
        bif (! (v36 k x3).snd) then
          some ((0, 3))
        else
          if ((0 : Int) ≤ (1 : Int)) ∧ ((1 : Int) < (↑ (4 : Nat) : Int)) then
            f25_30008 k j x0 ((IntKind.i64.wrap (x1 + IntKind.i64.wrap ((v36 k x3).fst * x6.snd.fst)))) x2 x3 x4 x5 x6
          else none
      else none
    else none
def f25_30008 (k : Nat) : Nat → ByteArray → Int → ByteArray → ByteArray → ByteArray → ByteArray → t54.T → Option R25
  | 0, _, _, _, _, _, _, _ => none
  | j + 1, x0, x1, x2, x3, x4, x5, x6 =>
    if ((0 : Int) ≤ (2 : Int)) ∧ ((2 : Int) < (↑ (4 : Nat) : Int)) then
      if ((f36 k x4).isSome = true) then
        bif (! (v36 k x4).snd) then
          some ((0, 3))
        else
          if ((0 : Int) ≤ (2 : Int)) ∧ ((2 : Int) < (↑ (4 : Nat) : Int)) then
            f25_40008 k j x0 ((IntKind.i64.wrap (x1 + IntKind.i64.wrap ((v36 k x4).fst * x6.snd.snd.fst)))) x2 x3 x4 x5 x6
          else none
      else none
    else none
def f25_40008 (k : Nat) : Nat → ByteArray → Int → ByteArray → ByteArray → ByteArray → ByteArray → t54.T → Option R25
  | 0, _, _, _, _, _, _, _ => none
  | j + 1, x0, x1, x2, x3, x4, x5, x6 =>
    if ((0 : Int) ≤ (3 : Int)) ∧ ((3 : Int) < (↑ (4 : Nat) : Int)) then
      if ((f36 k x5).isSome = true) then
        bif (! (v36 k x5).snd) then
          some ((0, 3))
        else
          if ((0 : Int) ≤ (3 : Int)) ∧ ((3 : Int) < (↑ (4 : Nat) : Int)) then
            f25_50008 k j x0 ((IntKind.i64.wrap (x1 + IntKind.i64.wrap ((v36 k x5).fst * x6.snd.snd.snd)))) x2 x3 x4 x5 x6
          else none
      else none
    else none
def f25_50008 (k : Nat) : Nat → ByteArray → Int → ByteArray → ByteArray → ByteArray → ByteArray → t54.T → Option R25
  | 0, _, _, _, _, _, _, _ => none
  | j + 1, x0, x1, x2, x3, x4, x5, x6 =>
    if ((f23 k x1).isSome = true) then
      bif ((v23 k x1).snd != (0 : Int) || ! (v23 k x1).fst.toList == x0.toList) then
        some ((0, 3))
      else
        some ((x1, 0))
    else none
end
def f25 (k : Nat) (s_ : ByteArray) : Option R25 :=
  bif (decide ((↑s_.size : Int) ≤ (9 : Int))) then
    some ((0, 3))
  else
    if ((0 : Int) ≤ (0 : Int)) ∧ ((0 : Int) ≤ IntKind.i64.wrap ((↑s_.size : Int) - (9 : Int))) ∧ (IntKind.i64.wrap ((↑s_.size : Int) - (9 : Int)) ≤ (↑s_.size : Int)) ∧ ((0 : Int) ≤ IntKind.i64.wrap (IntKind.i64.wrap ((↑s_.size : Int) - (9 : Int)) + (1 : Int))) ∧ (IntKind.i64.wrap (IntKind.i64.wrap ((↑s_.size : Int) - (9 : Int)) + (1 : Int)) ≤ IntKind.i64.wrap (IntKind.i64.wrap ((↑s_.size : Int) - (9 : Int)) + (3 : Int))) ∧ (IntKind.i64.wrap (IntKind.i64.wrap ((↑s_.size : Int) - (9 : Int)) + (3 : Int)) ≤ (↑s_.size : Int)) ∧ ((0 : Int) ≤ IntKind.i64.wrap (IntKind.i64.wrap ((↑s_.size : Int) - (9 : Int)) + (4 : Int))) ∧ (IntKind.i64.wrap (IntKind.i64.wrap ((↑s_.size : Int) - (9 : Int)) + (4 : Int)) ≤ IntKind.i64.wrap (IntKind.i64.wrap ((↑s_.size : Int) - (9 : Int)) + (6 : Int))) ∧ (IntKind.i64.wrap (IntKind.i64.wrap ((↑s_.size : Int) - (9 : Int)) + (6 : Int)) ≤ (↑s_.size : Int)) ∧ ((0 : Int) ≤ IntKind.i64.wrap (IntKind.i64.wrap ((↑s_.size : Int) - (9 : Int)) + (7 : Int))) ∧ (IntKind.i64.wrap (IntKind.i64.wrap ((↑s_.size : Int) - (9 : Int)) + (7 : Int)) ≤ IntKind.i64.wrap (IntKind.i64.wrap ((↑s_.size : Int) - (9 : Int)) + (9 : Int))) ∧ (IntKind.i64.wrap (IntKind.i64.wrap ((↑s_.size : Int) - (9 : Int)) + (9 : Int)) ≤ (↑s_.size : Int)) then
      f25_10008 k k s_ 0 ((s_.extract (Int.toNat 0) (IntKind.i64.wrap ((↑s_.size : Int) - 9)).toNat)) ((s_.extract (IntKind.i64.wrap (IntKind.i64.wrap ((↑s_.size : Int) - 9) + 1)).toNat (IntKind.i64.wrap (IntKind.i64.wrap ((↑s_.size : Int) - 9) + 3)).toNat)) ((s_.extract (IntKind.i64.wrap (IntKind.i64.wrap ((↑s_.size : Int) - 9) + 4)).toNat (IntKind.i64.wrap (IntKind.i64.wrap ((↑s_.size : Int) - 9) + 6)).toNat)) ((s_.extract (IntKind.i64.wrap (IntKind.i64.wrap ((↑s_.size : Int) - 9) + 7)).toNat (IntKind.i64.wrap (IntKind.i64.wrap ((↑s_.size : Int) - 9) + 9)).toNat)) ((86400, (3600, (60, 1))))
    else none
def args25 (s_ : ByteArray) : List AV := [.r (.v (.string s_))]
def v25 (k : Nat) (s_ : ByteArray) : R25 := (f25 k s_).getD (0, 0)
theorem ev25 (k : Nat) : ∀ j, (∀ (x0 : ByteArray) (x1 : Int) (x2 : ByteArray) (x3 : ByteArray) (x4 : ByteArray) (x5 : ByteArray) (x6 : t54.T) (r : R25), f25_10008 k j x0 x1 x2 x3 x4 x5 x6 = some r → Ev Tryd.prog Tryd.f25 0 (placeAt Tryd.f25 8) (st25_10008 x0 x1 x2 x3 x4 x5 x6) (res25 r) (bo25 r)) ∧ (∀ (x0 : ByteArray) (x1 : Int) (x2 : ByteArray) (x3 : ByteArray) (x4 : ByteArray) (x5 : ByteArray) (x6 : t54.T) (r : R25), f25_20008 k j x0 x1 x2 x3 x4 x5 x6 = some r → Ev Tryd.prog Tryd.f25 0 (placeAt Tryd.f25 8) (st25_20008 x0 x1 x2 x3 x4 x5 x6) (res25 r) (bo25 r)) ∧ (∀ (x0 : ByteArray) (x1 : Int) (x2 : ByteArray) (x3 : ByteArray) (x4 : ByteArray) (x5 : ByteArray) (x6 : t54.T) (r : R25), f25_30008 k j x0 x1 x2 x3 x4 x5 x6 = some r → Ev Tryd.prog Tryd.f25 0 (placeAt Tryd.f25 8) (st25_30008 x0 x1 x2 x3 x4 x5 x6) (res25 r) (bo25 r)) ∧ (∀ (x0 : ByteArray) (x1 : Int) (x2 : ByteArray) (x3 : ByteArray) (x4 : ByteArray) (x5 : ByteArray) (x6 : t54.T) (r : R25), f25_40008 k j x0 x1 x2 x3 x4 x5 x6 = some r → Ev Tryd.prog Tryd.f25 0 (placeAt Tryd.f25 8) (st25_40008 x0 x1 x2 x3 x4 x5 x6) (res25 r) (bo25 r)) ∧ (∀ (x0 : ByteArray) (x1 : Int) (x2 : ByteArray) (x3 : ByteArray) (x4 : ByteArray) (x5 : ByteArray) (x6 : t54.T) (r : R25), f25_50008 k j x0 x1 x2 x3 x4 x5 x6 = some r → Ev Tryd.prog Tryd.f25 0 (placeAt Tryd.f25 8) (st25_50008 x0 x1 x2 x3 x4 x5 x6) (res25 r) (bo25 r))
  | 0 => by
    refine ⟨?_, ?_, ?_, ?_, ?_⟩ <;> intros <;> rename_i h <;> simp [f25_10008, f25_20008, f25_30008, f25_40008, f25_50008] at h
  | j + 1 => by
    have ih := ev25 k j
    refine ⟨?_, ?_, ?_, ?_, ?_⟩
    · intro x0 x1 x2 x3 x4 x5 x6 r h
      rw [f25_10008] at h
      refine Ev.tree hm (R := Rt) (K := (K25 k)) (l := []) (C := [(8, [.key 44, .auto [0, 6, 7, 43, 44] false])]) (E := [.auto [2, 3] true]) (n := 1000) (T := .test (true) (.need [(0 : Int) ≤ (0 : Int), (0 : Int) < (↑ (4 : Nat) : Int)] (.need [CC Tryd.prog 36 (args36 x2) [] (res36 (v36 k x2)) (bo36 (v36 k x2))] (.test ((! (v36 k x2).snd)) (.leaf (res25 ((0, 3))) (bo25 ((0, 3)))) (.need [(0 : Int) ≤ (0 : Int), (0 : Int) < (↑ (4 : Nat) : Int)] (.cut 20008 (placeAt Tryd.f25 8) (st25_20008 x0 ((IntKind.i64.wrap (x1 + IntKind.i64.wrap ((v36 k x2).fst * x6.fst)))) x2 x3 x4 x5 x6)))))) (.need [CC Tryd.prog 23 (args23 x1) [] (res23 (v23 k x1)) (bo23 (v23 k x1))] (.test (((v23 k x1).snd != (0 : Int) || ! (v23 k x1).fst.toList == x0.toList)) (.leaf (res25 ((0, 3))) (bo25 ((0, 3)))) (.leaf (res25 ((x1, 0))) (bo25 ((x1, 0))))))) (by kernel_rfl) ?_
      refine ⟨fun c => ?_, fun c => ?_⟩
      rotate_left
      · cases c
      by_cases q : ((0 : Int) ≤ (0 : Int)) ∧ ((0 : Int) < (↑ (4 : Nat) : Int))
      · rw [if_pos q] at h
        refine ⟨(conjC q.1 (conjC q.2 conj0)), ?_⟩
        by_cases q : ((f36 k x2).isSome = true)
        · rw [if_pos q] at h
          refine ⟨(conjC (cc36 k x2 q) conj0), ?_⟩
          refine ⟨fun c => ?_, fun c => ?_⟩
          · rw [cond_t c] at h
            cases h; exact ⟨rfl, rfl⟩
          · rw [cond_f c] at h
            by_cases q : ((0 : Int) ≤ (0 : Int)) ∧ ((0 : Int) < (↑ (4 : Nat) : Int))
            · rw [if_pos q] at h
              refine ⟨(conjC q.1 (conjC q.2 conj0)), ?_⟩
              exact ih.2.1 x0 ((IntKind.i64.wrap (x1 + IntKind.i64.wrap ((v36 k x2).fst * x6.fst)))) x2 x3 x4 x5 x6 _ h
            · rw [if_neg q] at h; cases h
        · rw [if_neg q] at h; cases h
      · rw [if_neg q] at h; cases h
    · intro x0 x1 x2 x3 x4 x5 x6 r h
      rw [f25_20008] at h
      refine Ev.tree hm (R := Rt) (K := (K25 k)) (l := []) (C := [(8, [.key 44, .auto [0, 6, 7, 43, 44] false])]) (E := [.auto [2, 3] true]) (n := 1000) (T := .test (true) (.need [(0 : Int) ≤ (1 : Int), (1 : Int) < (↑ (4 : Nat) : Int)] (.need [CC Tryd.prog 36 (args36 x3) [] (res36 (v36 k x3)) (bo36 (v36 k x3))] (.test ((! (v36 k x3).snd)) (.leaf (res25 ((0, 3))) (bo25 ((0, 3)))) (.need [(0 : Int) ≤ (1 : Int), (1 : Int) < (↑ (4 : Nat) : Int)] (.cut 30008 (placeAt Tryd.f25 8) (st25_30008 x0 ((IntKind.i64.wrap (x1 + IntKind.i64.wrap ((v36 k x3).fst * x6.snd.fst)))) x2 x3 x4 x5 x6)))))) (.need [CC Tryd.prog 23 (args23 x1) [] (res23 (v23 k x1)) (bo23 (v23 k x1))] (.test (((v23 k x1).snd != (0 : Int) || ! (v23 k x1).fst.toList == x0.toList)) (.leaf (res25 ((0, 3))) (bo25 ((0, 3)))) (.leaf (res25 ((x1, 0))) (bo25 ((x1, 0))))))) (by kernel_rfl) ?_
      refine ⟨fun c => ?_, fun c => ?_⟩
      rotate_left
      · cases c
      by_cases q : ((0 : Int) ≤ (1 : Int)) ∧ ((1 : Int) < (↑ (4 : Nat) : Int))
      · rw [if_pos q] at h
        refine ⟨(conjC q.1 (conjC q.2 conj0)), ?_⟩
        by_cases q : ((f36 k x3).isSome = true)
        · rw [if_pos q] at h
          refine ⟨(conjC (cc36 k x3 q) conj0), ?_⟩
          refine ⟨fun c => ?_, fun c => ?_⟩
          · rw [cond_t c] at h
            cases h; exact ⟨rfl, rfl⟩
          · rw [cond_f c] at h
            by_cases q : ((0 : Int) ≤ (1 : Int)) ∧ ((1 : Int) < (↑ (4 : Nat) : Int))
            · rw [if_pos q] at h
              refine ⟨(conjC q.1 (conjC q.2 conj0)), ?_⟩
              exact ih.2.2.1 x0 ((IntKind.i64.wrap (x1 + IntKind.i64.wrap ((v36 k x3).fst * x6.snd.fst)))) x2 x3 x4 x5 x6 _ h
            · rw [if_neg q] at h; cases h
        · rw [if_neg q] at h; cases h
      · rw [if_neg q] at h; cases h
    · intro x0 x1 x2 x3 x4 x5 x6 r h
      rw [f25_30008] at h
      refine Ev.tree hm (R := Rt) (K := (K25 k)) (l := []) (C := [(8, [.key 44, .auto [0, 6, 7, 43, 44] false])]) (E := [.auto [2, 3] true]) (n := 1000) (T := .test (true) (.need [(0 : Int) ≤ (2 : Int), (2 : Int) < (↑ (4 : Nat) : Int)] (.need [CC Tryd.prog 36 (args36 x4) [] (res36 (v36 k x4)) (bo36 (v36 k x4))] (.test ((! (v36 k x4).snd)) (.leaf (res25 ((0, 3))) (bo25 ((0, 3)))) (.need [(0 : Int) ≤ (2 : Int), (2 : Int) < (↑ (4 : Nat) : Int)] (.cut 40008 (placeAt Tryd.f25 8) (st25_40008 x0 ((IntKind.i64.wrap (x1 + IntKind.i64.wrap ((v36 k x4).fst * x6.snd.snd.fst)))) x2 x3 x4 x5 x6)))))) (.need [CC Tryd.prog 23 (args23 x1) [] (res23 (v23 k x1)) (bo23 (v23 k x1))] (.test (((v23 k x1).snd != (0 : Int) || ! (v23 k x1).fst.toList == x0.toList)) (.leaf (res25 ((0, 3))) (bo25 ((0, 3)))) (.leaf (res25 ((x1, 0))) (bo25 ((x1, 0))))))) (by kernel_rfl) ?_
      refine ⟨fun c => ?_, fun c => ?_⟩
      rotate_left
      · cases c
      by_cases q : ((0 : Int) ≤ (2 : Int)) ∧ ((2 : Int) < (↑ (4 : Nat) : Int))
      · rw [if_pos q] at h
        refine ⟨(conjC q.1 (conjC q.2 conj0)), ?_⟩
        by_cases q : ((f36 k x4).isSome = true)
        · rw [if_pos q] at h
          refine ⟨(conjC (cc36 k x4 q) conj0), ?_⟩
          refine ⟨fun c => ?_, fun c => ?_⟩
          · rw [cond_t c] at h
            cases h; exact ⟨rfl, rfl⟩
          · rw [cond_f c] at h
            by_cases q : ((0 : Int) ≤ (2 : Int)) ∧ ((2 : Int) < (↑ (4 : Nat) : Int))
            · rw [if_pos q] at h
              refine ⟨(conjC q.1 (conjC q.2 conj0)), ?_⟩
              exact ih.2.2.2.1 x0 ((IntKind.i64.wrap (x1 + IntKind.i64.wrap ((v36 k x4).fst * x6.snd.snd.fst)))) x2 x3 x4 x5 x6 _ h
            · rw [if_neg q] at h; cases h
        · rw [if_neg q] at h; cases h
      · rw [if_neg q] at h; cases h
    · intro x0 x1 x2 x3 x4 x5 x6 r h
      rw [f25_40008] at h
      refine Ev.tree hm (R := Rt) (K := (K25 k)) (l := []) (C := [(8, [.key 44, .auto [0, 6, 7, 43, 44] false])]) (E := [.auto [2, 3] true]) (n := 1000) (T := .test (true) (.need [(0 : Int) ≤ (3 : Int), (3 : Int) < (↑ (4 : Nat) : Int)] (.need [CC Tryd.prog 36 (args36 x5) [] (res36 (v36 k x5)) (bo36 (v36 k x5))] (.test ((! (v36 k x5).snd)) (.leaf (res25 ((0, 3))) (bo25 ((0, 3)))) (.need [(0 : Int) ≤ (3 : Int), (3 : Int) < (↑ (4 : Nat) : Int)] (.cut 50008 (placeAt Tryd.f25 8) (st25_50008 x0 ((IntKind.i64.wrap (x1 + IntKind.i64.wrap ((v36 k x5).fst * x6.snd.snd.snd)))) x2 x3 x4 x5 x6)))))) (.need [CC Tryd.prog 23 (args23 x1) [] (res23 (v23 k x1)) (bo23 (v23 k x1))] (.test (((v23 k x1).snd != (0 : Int) || ! (v23 k x1).fst.toList == x0.toList)) (.leaf (res25 ((0, 3))) (bo25 ((0, 3)))) (.leaf (res25 ((x1, 0))) (bo25 ((x1, 0))))))) (by kernel_rfl) ?_
      refine ⟨fun c => ?_, fun c => ?_⟩
      rotate_left
      · cases c
      by_cases q : ((0 : Int) ≤ (3 : Int)) ∧ ((3 : Int) < (↑ (4 : Nat) : Int))
      · rw [if_pos q] at h
        refine ⟨(conjC q.1 (conjC q.2 conj0)), ?_⟩
        by_cases q : ((f36 k x5).isSome = true)
        · rw [if_pos q] at h
          refine ⟨(conjC (cc36 k x5 q) conj0), ?_⟩
          refine ⟨fun c => ?_, fun c => ?_⟩
          · rw [cond_t c] at h
            cases h; exact ⟨rfl, rfl⟩
          · rw [cond_f c] at h
            by_cases q : ((0 : Int) ≤ (3 : Int)) ∧ ((3 : Int) < (↑ (4 : Nat) : Int))
            · rw [if_pos q] at h
              refine ⟨(conjC q.1 (conjC q.2 conj0)), ?_⟩
              exact ih.2.2.2.2 x0 ((IntKind.i64.wrap (x1 + IntKind.i64.wrap ((v36 k x5).fst * x6.snd.snd.snd)))) x2 x3 x4 x5 x6 _ h
            · rw [if_neg q] at h; cases h
        · rw [if_neg q] at h; cases h
      · rw [if_neg q] at h; cases h
    · intro x0 x1 x2 x3 x4 x5 x6 r h
      rw [f25_50008] at h
      refine Ev.tree hm (R := Rt) (K := (K25 k)) (l := []) (C := [(8, [.key 44, .auto [0, 6, 7, 43, 44] false])]) (E := [.auto [2, 3] true]) (n := 1000) (T := .test (false) (.stuck 5001) (.need [CC Tryd.prog 23 (args23 x1) [] (res23 (v23 k x1)) (bo23 (v23 k x1))] (.test (((v23 k x1).snd != (0 : Int) || ! (v23 k x1).fst.toList == x0.toList)) (.leaf (res25 ((0, 3))) (bo25 ((0, 3)))) (.leaf (res25 ((x1, 0))) (bo25 ((x1, 0))))))) (by kernel_rfl) ?_
      refine ⟨fun c => ?_, fun c => ?_⟩
      · cases c
      by_cases q : ((f23 k x1).isSome = true)
      · rw [if_pos q] at h
        refine ⟨(conjC (cc23 k x1 q) conj0), ?_⟩
        refine ⟨fun c => ?_, fun c => ?_⟩
        · rw [cond_t c] at h
          cases h; exact ⟨rfl, rfl⟩
        · rw [cond_f c] at h
          cases h; exact ⟨rfl, rfl⟩
      · rw [if_neg q] at h; cases h
theorem of25 (k : Nat) (s_ : ByteArray) (r : R25) (h : f25 k s_ = some r) : CC Tryd.prog 25 (args25 s_) [] (res25 r) (bo25 r) := by
  refine CC.of (fn := Tryd.f25) (by kernel_rfl) (by kernel_rfl) (by kernel_rfl) (by kernel_rfl) ?_
  unfold f25 at h
  refine Ev.tree hm (R := Rt) (K := (K25 k)) (l := []) (C := [(8, [.key 44, .auto [0, 6, 7, 43, 44] false])]) (E := [.auto [2, 3] true]) (n := 1000) (T := .test ((decide ((↑s_.size : Int) ≤ (9 : Int)))) (.leaf (res25 ((0, 3))) (bo25 ((0, 3)))) (.need [(0 : Int) ≤ (0 : Int), (0 : Int) ≤ IntKind.i64.wrap ((↑s_.size : Int) - (9 : Int)), IntKind.i64.wrap ((↑s_.size : Int) - (9 : Int)) ≤ (↑s_.size : Int), (0 : Int) ≤ IntKind.i64.wrap (IntKind.i64.wrap ((↑s_.size : Int) - (9 : Int)) + (1 : Int)), IntKind.i64.wrap (IntKind.i64.wrap ((↑s_.size : Int) - (9 : Int)) + (1 : Int)) ≤ IntKind.i64.wrap (IntKind.i64.wrap ((↑s_.size : Int) - (9 : Int)) + (3 : Int)), IntKind.i64.wrap (IntKind.i64.wrap ((↑s_.size : Int) - (9 : Int)) + (3 : Int)) ≤ (↑s_.size : Int), (0 : Int) ≤ IntKind.i64.wrap (IntKind.i64.wrap ((↑s_.size : Int) - (9 : Int)) + (4 : Int)), IntKind.i64.wrap (IntKind.i64.wrap ((↑s_.size : Int) - (9 : Int)) + (4 : Int)) ≤ IntKind.i64.wrap (IntKind.i64.wrap ((↑s_.size : Int) - (9 : Int)) + (6 : Int)), IntKind.i64.wrap (IntKind.i64.wrap ((↑s_.size : Int) - (9 : Int)) + (6 : Int)) ≤ (↑s_.size : Int), (0 : Int) ≤ IntKind.i64.wrap (IntKind.i64.wrap ((↑s_.size : Int) - (9 : Int)) + (7 : Int)), IntKind.i64.wrap (IntKind.i64.wrap ((↑s_.size : Int) - (9 : Int)) + (7 : Int)) ≤ IntKind.i64.wrap (IntKind.i64.wrap ((↑s_.size : Int) - (9 : Int)) + (9 : Int)), IntKind.i64.wrap (IntKind.i64.wrap ((↑s_.size : Int) - (9 : Int)) + (9 : Int)) ≤ (↑s_.size : Int)] (.cut 10008 (placeAt Tryd.f25 8) (st25_10008 s_ 0 ((s_.extract (Int.toNat 0) (IntKind.i64.wrap ((↑s_.size : Int) - 9)).toNat)) ((s_.extract (IntKind.i64.wrap (IntKind.i64.wrap ((↑s_.size : Int) - 9) + 1)).toNat (IntKind.i64.wrap (IntKind.i64.wrap ((↑s_.size : Int) - 9) + 3)).toNat)) ((s_.extract (IntKind.i64.wrap (IntKind.i64.wrap ((↑s_.size : Int) - 9) + 4)).toNat (IntKind.i64.wrap (IntKind.i64.wrap ((↑s_.size : Int) - 9) + 6)).toNat)) ((s_.extract (IntKind.i64.wrap (IntKind.i64.wrap ((↑s_.size : Int) - 9) + 7)).toNat (IntKind.i64.wrap (IntKind.i64.wrap ((↑s_.size : Int) - 9) + 9)).toNat)) ((86400, (3600, (60, 1)))))))) (by kernel_rfl) ?_
  refine ⟨fun c => ?_, fun c => ?_⟩
  · rw [cond_t c] at h
    cases h; exact ⟨rfl, rfl⟩
  · rw [cond_f c] at h
    by_cases q : ((0 : Int) ≤ (0 : Int)) ∧ ((0 : Int) ≤ IntKind.i64.wrap ((↑s_.size : Int) - (9 : Int))) ∧ (IntKind.i64.wrap ((↑s_.size : Int) - (9 : Int)) ≤ (↑s_.size : Int)) ∧ ((0 : Int) ≤ IntKind.i64.wrap (IntKind.i64.wrap ((↑s_.size : Int) - (9 : Int)) + (1 : Int))) ∧ (IntKind.i64.wrap (IntKind.i64.wrap ((↑s_.size : Int) - (9 : Int)) + (1 : Int)) ≤ IntKind.i64.wrap (IntKind.i64.wrap ((↑s_.size : Int) - (9 : Int)) + (3 : Int))) ∧ (IntKind.i64.wrap (IntKind.i64.wrap ((↑s_.size : Int) - (9 : Int)) + (3 : Int)) ≤ (↑s_.size : Int)) ∧ ((0 : Int) ≤ IntKind.i64.wrap (IntKind.i64.wrap ((↑s_.size : Int) - (9 : Int)) + (4 : Int))) ∧ (IntKind.i64.wrap (IntKind.i64.wrap ((↑s_.size : Int) - (9 : Int)) + (4 : Int)) ≤ IntKind.i64.wrap (IntKind.i64.wrap ((↑s_.size : Int) - (9 : Int)) + (6 : Int))) ∧ (IntKind.i64.wrap (IntKind.i64.wrap ((↑s_.size : Int) - (9 : Int)) + (6 : Int)) ≤ (↑s_.size : Int)) ∧ ((0 : Int) ≤ IntKind.i64.wrap (IntKind.i64.wrap ((↑s_.size : Int) - (9 : Int)) + (7 : Int))) ∧ (IntKind.i64.wrap (IntKind.i64.wrap ((↑s_.size : Int) - (9 : Int)) + (7 : Int)) ≤ IntKind.i64.wrap (IntKind.i64.wrap ((↑s_.size : Int) - (9 : Int)) + (9 : Int))) ∧ (IntKind.i64.wrap (IntKind.i64.wrap ((↑s_.size : Int) - (9 : Int)) + (9 : Int)) ≤ (↑s_.size : Int))
    · rw [if_pos q] at h
      refine ⟨(conjC q.1 (conjC q.2.1 (conjC q.2.2.1 (conjC q.2.2.2.1 (conjC q.2.2.2.2.1 (conjC q.2.2.2.2.2.1 (conjC q.2.2.2.2.2.2.1 (conjC q.2.2.2.2.2.2.2.1 (conjC q.2.2.2.2.2.2.2.2.1 (conjC q.2.2.2.2.2.2.2.2.2.1 (conjC q.2.2.2.2.2.2.2.2.2.2.1 (conjC q.2.2.2.2.2.2.2.2.2.2.2 conj0)))))))))))), ?_⟩
      exact (ev25 k k).1 s_ 0 ((s_.extract (Int.toNat 0) (IntKind.i64.wrap ((↑s_.size : Int) - 9)).toNat)) ((s_.extract (IntKind.i64.wrap (IntKind.i64.wrap ((↑s_.size : Int) - 9) + 1)).toNat (IntKind.i64.wrap (IntKind.i64.wrap ((↑s_.size : Int) - 9) + 3)).toNat)) ((s_.extract (IntKind.i64.wrap (IntKind.i64.wrap ((↑s_.size : Int) - 9) + 4)).toNat (IntKind.i64.wrap (IntKind.i64.wrap ((↑s_.size : Int) - 9) + 6)).toNat)) ((s_.extract (IntKind.i64.wrap (IntKind.i64.wrap ((↑s_.size : Int) - 9) + 7)).toNat (IntKind.i64.wrap (IntKind.i64.wrap ((↑s_.size : Int) - 9) + 9)).toNat)) ((86400, (3600, (60, 1)))) _ h
    · rw [if_neg q] at h; cases h
theorem cc25 (k : Nat) (s_ : ByteArray) (h : (f25 k s_).isSome = true) : CC Tryd.prog 25 (args25 s_) [] (res25 (v25 k s_)) (bo25 (v25 k s_)) := by
  cases e : f25 k s_ with
  | none => rw [e] at h; cases h
  | some r => rw [show v25 k s_ = r by simp [v25, e]]; exact of25 k s_ r e

end
end Go.AM
namespace Go.AM
open Go Go.Proofs
set_option linter.unusedVariables false
noncomputable section
/-! ### function 26: papermill/papermillref05.Parse -/
def K26 (k : Nat) : Calld := ⟨fun g => match g with
  | 24 => some [false]
  | _ => none, fun g xs _ => match g with
  | 24 => match xs with
    | [.r (.v (.int .i64 t_))] => some (res24 (v24 k t_), bo24 (v24 k t_))
    | _ => none
  | _ => none⟩
abbrev R26 : Type := Int × Int
def res26 (r : R26) : AV := .tup [.r (.v (.int .i64 r.1)), .r (.v (.int .i64 r.2))]
def bo26 (r : R26) : List (Nat × Blk) := []
def st26_6 (x0 : ByteArray) (x1 : Int) (x2 : Int) (x3 : List (I).T) : St := ⟨mkS 118 [(0, .r (.v (.string x0))), (4, .own 1000000 0), (5, .r (.v (.int .i64 x1))), (6, .r (.v (.int .i64 x2)))], [(1000000, 0, .row 3 I x3)]⟩
def f26_6 (k : Nat) : Nat → ByteArray → Int → Int → List (I).T → Option R26
  | 0, _, _, _, _ => none
  | j + 1, x0, x1, x2, x3 =>
    bif (decide (x2 < (↑x0.size : Int))) then
      if ((0 : Int) ≤ x2) ∧ (x2 < (↑x0.size : Int)) ∧ ((bAt x0 x2 == (32 : Int)) = false → (0 : Int) ≤ x2) ∧ ((bAt x0 x2 == (32 : Int)) = false → x2 < (↑x0.size : Int)) then
        bif (bAt x0 x2 == (32 : Int) || bAt x0 x2 == (58 : Int)) then
          bif (decide (IntKind.i64.wrap (x1 + (1 : Int)) > (3 : Int))) then
            some ((0, 3))
          else
            f26_6 k j x0 ((IntKind.i64.wrap (x1 + 1))) ((IntKind.i64.wrap (x2 + 1))) x3
        else
          if ((0 : Int) ≤ x2) ∧ (x2 < (↑x0.size : Int)) ∧ (decide (bAt x0 x2 < (48 : Int)) = false → (0 : Int) ≤ x2) ∧ (decide (bAt x0 x2 < (48 : Int)) = false → x2 < (↑x0.size : Int)) ∧ ((decide (bAt x0 x2 < (48 : Int)) || decide (bAt x0 x2 > (57 : Int))) = false → (0 : Int) ≤ x1) ∧ ((decide (bAt x0 x2 < (48 : Int)) || decide (bAt x0 x2 > (57 : Int))) = false → x1 < (↑x3.length : Int)) then
            bif (decide (bAt x0 x2 < (48 : Int)) || decide (bAt x0 x2 > (57 : Int)) || decide (x3.getD x1.toNat I.dflt > (2147483647 : Int))) then
              some ((0, 3))
            else
              if ((0 : Int) ≤ x1) ∧ (x1 < (↑x3.length : Int)) ∧ ((0 : Int) ≤ x2) ∧ (x2 < (↑x0.size : Int)) ∧ ((0 : Int) ≤ x1) ∧ (x1 < (↑x3.length : Int)) then
                f26_6 k j x0 x1 ((IntKind.i64.wrap (x2 + 1))) ((x3.set x1.toNat (IntKind.i64.wrap (IntKind.i64.wrap (10 * x3.getD x1.toNat I.dflt) + IntKind.i64.wrap (IntKind.u8.wrap (bAt x0 x2 - 48))))))
              else none
          else none
      else none
    else
      if ((0 : Int) ≤ (0 : Int)) ∧ ((0 : Int) < (↑x3.length : Int)) ∧ (decide (x3.getD (Int.toNat (0 : Int)) I.dflt > (24855 : Int)) = false → (0 : Int) ≤ (1 : Int)) ∧ (decide (x3.getD (Int.toNat (0 : Int)) I.dflt > (24855 : Int)) = false → (1 : Int) < (↑x3.length : Int)) ∧ ((decide (x3.getD (Int.toNat (0 : Int)) I.dflt > (24855 : Int)) || decide (x3.getD (Int.toNat (1 : Int)) I.dflt > (23 : Int))) = false → (0 : Int) ≤ (2 : Int)) ∧ ((decide (x3.getD (Int.toNat (0 : Int)) I.dflt > (24855 : Int)) || decide (x3.getD (Int.toNat (1 : Int)) I.dflt > (23 : Int))) = false → (2 : Int) < (↑x3.length : Int)) ∧ ((decide (x3.getD (Int.toNat (0 : Int)) I.dflt > (24855 : Int)) || decide (x3.getD (Int.toNat (1 : Int)) I.dflt > (23 : Int)) || decide (x3.getD (Int.toNat (2 : Int)) I.dflt > (59 : Int))) = false → (0 : Int) ≤ (3 : Int)) ∧ ((decide (x3.getD (Int.toNat (0 : Int)) I.dflt > (24855 : Int)) || decide (x3.getD (Int.toNat (1 : Int)) I.dflt > (23 : Int)) || decide (x3.getD (Int.toNat (2 : Int)) I.dflt > (59 : Int))) = false → (3 : Int) < (↑x3.length : Int)) then
        bif (decide (x3.getD (Int.toNat (0 : Int)) I.dflt > (24855 : Int)) || decide (x3.getD (Int.toNat (1 : Int)) I.dflt > (23 : Int)) || decide (x3.getD (Int.toNat (2 : Int)) I.dflt > (59 : Int)) || decide (x3.getD (Int.toNat (3 : Int)) I.dflt > (59 : Int))) then
          some ((0, 3))
        else
          if ((0 : Int) ≤ (0 : Int)) ∧ ((0 : Int) < (↑x3.length : Int)) ∧ ((0 : Int) ≤ (1 : Int)) ∧ ((1 : Int) < (↑x3.length : Int)) ∧ ((0 : Int) ≤ (2 : Int)) ∧ ((2 : Int) < (↑x3.length : Int)) ∧ ((0 : Int) ≤ (3 : Int)) ∧ ((3 : Int) < (↑x3.length : Int)) then
            if ((f24 k (IntKind.i64.wrap (IntKind.i64.wrap (IntKind.i64.wrap (IntKind.i64.wrap (x3.getD (Int.toNat 0) I.dflt * 86400) + IntKind.i64.wrap (x3.getD (Int.toNat 1) I.dflt * 3600)) + IntKind.i64.wrap (x3.getD (Int.toNat 2) I.dflt * 60)) + x3.getD (Int.toNat 3) I.dflt))).isSome = true) then
              bif ((v24 k (IntKind.i64.wrap (IntKind.i64.wrap (IntKind.i64.wrap (IntKind.i64.wrap (x3.getD (Int.toNat (0 : Int)) I.dflt * (86400 : Int)) + IntKind.i64.wrap (x3.getD (Int.toNat (1 : Int)) I.dflt * (3600 : Int))) + IntKind.i64.wrap (x3.getD (Int.toNat (2 : Int)) I.dflt * (60 : Int))) + x3.getD (Int.toNat (3 : Int)) I.dflt))).snd != (0 : Int) || ! (v24 k (IntKind.i64.wrap (IntKind.i64.wrap (IntKind.i64.wrap (IntKind.i64.wrap (x3.getD (Int.toNat (0 : Int)) I.dflt * (86400 : Int)) + IntKind.i64.wrap (x3.getD (Int.toNat (1 : Int)) I.dflt * (3600 : Int))) + IntKind.i64.wrap (x3.getD (Int.toNat (2 : Int)) I.dflt * (60 : Int))) + x3.getD (Int.toNat (3 : Int)) I.dflt))).fst.toList == x0.toList) then
                some ((0, 3))
              else
                some ((IntKind.i64.wrap (IntKind.i64.wrap (IntKind.i64.wrap (IntKind.i64.wrap (x3.getD (Int.toNat 0) I.dflt * 86400) + IntKind.i64.wrap (x3.getD (Int.toNat 1) I.dflt * 3600)) + IntKind.i64.wrap (x3.getD (Int.toNat 2) I.dflt * 60)) + x3.getD (Int.toNat 3) I.dflt), 0))
            else none
          else none
      else none
def f26 (k : Nat) (s_ : ByteArray) : Option R26 :=
  bif (decide ((↑s_.size : Int) > (20 : Int))) then
    some ((0, 3))
  else
    f26_6 k k s_ 0 0 ([0, 0, 0, 0])
def args26 (s_ : ByteArray) : List AV := [.r (.v (.string s_))]
def v26 (k : Nat) (s_ : ByteArray) : R26 := (f26 k s_).getD (0, 0)
theorem ev26 (k : Nat) : ∀ j, (∀ (x0 : ByteArray) (x1 : Int) (x2 : Int) (x3 : List (I).T) (r : R26), f26_6 k j x0 x1 x2 x3 = some r → Ev Tryd.prog Tryd.f26 0 (placeAt Tryd.f26 6) (st26_6 x0 x1 x2 x3) (res26 r) (bo26 r))
  | 0 => by
    intros; rename_i h; simp [f26_6] at h
  | j + 1 => by
    have ih := ev26 k j
    · intro x0 x1 x2 x3 r h
      rw [f26_6] at h
      refine Ev.tree hm (R := Rt) (K := (K26 k)) (l := []) (C := [(6, [.auto [0, 4, 5, 6] false])]) (E := [.auto [2, 3] true]) (n := 1000) (T := .test ((decide (x2 < (↑x0.size : Int)))) (.need [(0 : Int) ≤ x2, x2 < (↑x0.size : Int), (bAt x0 x2 == (32 : Int)) = false → (0 : Int) ≤ x2, (bAt x0 x2 == (32 : Int)) = false → x2 < (↑x0.size : Int)] (.test ((bAt x0 x2 == (32 : Int) || bAt x0 x2 == (58 : Int))) (.test ((decide (IntKind.i64.wrap (x1 + (1 : Int)) > (3 : Int)))) (.leaf (res26 ((0, 3))) (bo26 ((0, 3)))) (.cut 6 (placeAt Tryd.f26 6) (st26_6 x0 ((IntKind.i64.wrap (x1 + 1))) ((IntKind.i64.wrap (x2 + 1))) x3))) (.need [(0 : Int) ≤ x2, x2 < (↑x0.size : Int), decide (bAt x0 x2 < (48 : Int)) = false → (0 : Int) ≤ x2, decide (bAt x0 x2 < (48 : Int)) = false → x2 < (↑x0.size : Int), (decide (bAt x0 x2 < (48 : Int)) || decide (bAt x0 x2 > (57 : Int))) = false → (0 : Int) ≤ x1, (decide (bAt x0 x2 < (48 : Int)) || decide (bAt x0 x2 > (57 : Int))) = false → x1 < (↑x3.length : Int)] (.test ((decide (bAt x0 x2 < (48 : Int)) || decide (bAt x0 x2 > (57 : Int)) || decide (x3.getD x1.toNat I.dflt > (2147483647 : Int)))) (.leaf (res26 ((0, 3))) (bo26 ((0, 3)))) (.need [(0 : Int) ≤ x1, x1 < (↑x3.length : Int), (0 : Int) ≤ x2, x2 < (↑x0.size : Int), (0 : Int) ≤ x1, x1 < (↑x3.length : Int)] (.cut 6 (placeAt Tryd.f26 6) (st26_6 x0 x1 ((IntKind.i64.wrap (x2 + 1))) ((x3.set x1.toNat (IntKind.i64.wrap (IntKind.i64.wrap (10 * x3.getD x1.toNat I.dflt) + IntKind.i64.wrap (IntKind.u8.wrap (bAt x0 x2 - 48))))))))))))) (.need [(0 : Int) ≤ (0 : Int), (0 : Int) < (↑x3.length : Int), decide (x3.getD (Int.toNat (0 : Int)) I.dflt > (24855 : Int)) = false → (0 : Int) ≤ (1 : Int), decide (x3.getD (Int.toNat (0 : Int)) I.dflt > (24855 : Int)) = false → (1 : Int) < (↑x3.length : Int), (decide (x3.getD (Int.toNat (0 : Int)) I.dflt > (24855 : Int)) || decide (x3.getD (Int.toNat (1 : Int)) I.dflt > (23 : Int))) = false → (0 : Int) ≤ (2 : Int), (decide (x3.getD (Int.toNat (0 : Int)) I.dflt > (24855 : Int)) || decide (x3.getD (Int.toNat (1 : Int)) I.dflt > (23 : Int))) = false → (2 : Int) < (↑x3.length : Int), (decide (x3.getD (Int.toNat (0 : Int)) I.dflt > (24855 : Int)) || decide (x3.getD (Int.toNat (1 : Int)) I.dflt > (23 : Int)) || decide (x3.getD (Int.toNat (2 : Int)) I.dflt > (59 : Int))) = false → (0 : Int) ≤ (3 : Int), (decide (x3.getD (Int.toNat (0 : Int)) I.dflt > (24855 : Int)) || decide (x3.getD (Int.toNat (1 : Int)) I.dflt > (23 : Int)) || decide (x3.getD (Int.toNat (2 : Int)) I.dflt > (59 : Int))) = false → (3 : Int) < (↑x3.length : Int)] (.test ((decide (x3.getD (Int.toNat (0 : Int)) I.dflt > (24855 : Int)) || decide (x3.getD (Int.toNat (1 : Int)) I.dflt > (23 : Int)) || decide (x3.getD (Int.toNat (2 : Int)) I.dflt > (59 : Int)) || decide (x3.getD (Int.toNat (3 : Int)) I.dflt > (59 : Int)))) (.leaf (res26 ((0, 3))) (bo26 ((0, 3)))) (.need [(0 : Int) ≤ (0 : Int), (0 : Int) < (↑x3.length : Int), (0 : Int) ≤ (1 : Int), (1 : Int) < (↑x3.length : Int), (0 : Int) ≤ (2 : Int), (2 : Int) < (↑x3.length : Int), (0 : Int) ≤ (3 : Int), (3 : Int) < (↑x3.length : Int)] (.need [CC Tryd.prog 24 (args24 (IntKind.i64.wrap (IntKind.i64.wrap (IntKind.i64.wrap (IntKind.i64.wrap (x3.getD (Int.toNat 0) I.dflt * 86400) + IntKind.i64.wrap (x3.getD (Int.toNat 1) I.dflt * 3600)) + IntKind.i64.wrap (x3.getD (Int.toNat 2) I.dflt * 60)) + x3.getD (Int.toNat 3) I.dflt))) [] (res24 (v24 k (IntKind.i64.wrap (IntKind.i64.wrap (IntKind.i64.wrap (IntKind.i64.wrap (x3.getD (Int.toNat 0) I.dflt * 86400) + IntKind.i64.wrap (x3.getD (Int.toNat 1) I.dflt * 3600)) + IntKind.i64.wrap (x3.getD (Int.toNat 2) I.dflt * 60)) + x3.getD (Int.toNat 3) I.dflt)))) (bo24 (v24 k (IntKind.i64.wrap (IntKind.i64.wrap (IntKind.i64.wrap (IntKind.i64.wrap (x3.getD (Int.toNat 0) I.dflt * 86400) + IntKind.i64.wrap (x3.getD (Int.toNat 1) I.dflt * 3600)) + IntKind.i64.wrap (x3.getD (Int.toNat 2) I.dflt * 60)) + x3.getD (Int.toNat 3) I.dflt))))] (.test (((v24 k (IntKind.i64.wrap (IntKind.i64.wrap (IntKind.i64.wrap (IntKind.i64.wrap (x3.getD (Int.toNat (0 : Int)) I.dflt * (86400 : Int)) + IntKind.i64.wrap (x3.getD (Int.toNat (1 : Int)) I.dflt * (3600 : Int))) + IntKind.i64.wrap (x3.getD (Int.toNat (2 : Int)) I.dflt * (60 : Int))) + x3.getD (Int.toNat (3 : Int)) I.dflt))).snd != (0 : Int) || ! (v24 k (IntKind.i64.wrap (IntKind.i64.wrap (IntKind.i64.wrap (IntKind.i64.wrap (x3.getD (Int.toNat (0 : Int)) I.dflt * (86400 : Int)) + IntKind.i64.wrap (x3.getD (Int.toNat (1 : Int)) I.dflt * (3600 : Int))) + IntKind.i64.wrap (x3.getD (Int.toNat (2 : Int)) I.dflt * (60 : Int))) + x3.getD (Int.toNat (3 : Int)) I.dflt))).fst.toList == x0.toList)) (.leaf (res26 ((0, 3))) (bo26 ((0, 3)))) (.leaf (res26 ((IntKind.i64.wrap (IntKind.i64.wrap (IntKind.i64.wrap (IntKind.i64.wrap (x3.getD (Int.toNat 0) I.dflt * 86400) + IntKind.i64.wrap (x3.getD (Int.toNat 1) I.dflt * 3600)) + IntKind.i64.wrap (x3.getD (Int.toNat 2) I.dflt * 60)) + x3.getD (Int.toNat 3) I.dflt), 0))) (bo26 ((IntKind.i64.wrap (IntKind.i64.wrap (IntKind.i64.wrap (IntKind.i64.wrap (x3.getD (Int.toNat 0) I.dflt * 86400) + IntKind.i64.wrap (x3.getD (Int.toNat 1) I.dflt * 3600)) + IntKind.i64.wrap (x3.getD (Int.toNat 2) I.dflt * 60)) + x3.getD (Int.toNat 3) I.dflt), 0)))))))))) (by kernel_rfl) ?_
      refine ⟨fun c => ?_, fun c => ?_⟩
      · rw [cond_t c] at h
        by_cases q : ((0 : Int) ≤ x2) ∧ (x2 < (↑x0.size : Int)) ∧ ((bAt x0 x2 == (32 : Int)) = false → (0 : Int) ≤ x2) ∧ ((bAt x0 x2 == (32 : Int)) = false → x2 < (↑x0.size : Int))
        · rw [if_pos q] at h
          refine ⟨(conjC q.1 (conjC q.2.1 (conjC q.2.2.1 (conjC q.2.2.2 conj0)))), ?_⟩
          refine ⟨fun c => ?_, fun c => ?_⟩
          · rw [cond_t c] at h
            refine ⟨fun c => ?_, fun c => ?_⟩
            · rw [cond_t c] at h
              cases h; exact ⟨rfl, rfl⟩
            · rw [cond_f c] at h
              exact ih x0 ((IntKind.i64.wrap (x1 + 1))) ((IntKind.i64.wrap (x2 + 1))) x3 _ h
          · rw [cond_f c] at h
            by_cases q : ((0 : Int) ≤ x2) ∧ (x2 < (↑x0.size : Int)) ∧ (decide (bAt x0 x2 < (48 : Int)) = false → (0 : Int) ≤ x2) ∧ (decide (bAt x0 x2 < (48 : Int)) = false → x2 < (↑x0.size : Int)) ∧ ((decide (bAt x0 x2 < (48 : Int)) || decide (bAt x0 x2 > (57 : Int))) = false → (0 : Int) ≤ x1) ∧ ((decide (bAt x0 x2 < (48 : Int)) || decide (bAt x0 x2 > (57 : Int))) = false → x1 < (↑x3.length : Int))
            · rw [if_pos q] at h
              refine ⟨(conjC q.1 (conjC q.2.1 (conjC q.2.2.1 (conjC q.2.2.2.1 (conjC q.2.2.2.2.1 (conjC q.2.2.2.2.2 conj0)))))), ?_⟩
              refine ⟨fun c => ?_, fun c => ?_⟩
              · rw [cond_t c] at h
                cases h; exact ⟨rfl, rfl⟩
              · rw [cond_f c] at h
                by_cases q : ((0 : Int) ≤ x1) ∧ (x1 < (↑x3.length : Int)) ∧ ((0 : Int) ≤ x2) ∧ (x2 < (↑x0.size : Int)) ∧ ((0 : Int) ≤ x1) ∧ (x1 < (↑x3.length : Int))
                · rw [if_pos q] at h
                  refine ⟨(conjC q.1 (conjC q.2.1 (conjC q.2.2.1 (conjC q.2.2.2.1 (conjC q.2.2.2.2.1 (conjC q.2.2.2.2.2 conj0)))))), ?_⟩
                  exact ih x0 x1 ((IntKind.i64.wrap (x2 + 1))) ((x3.set x1.toNat (IntKind.i64.wrap (IntKind.i64.wrap (10 * x3.getD x1.toNat I.dflt) + IntKind.i64.wrap (IntKind.u8.wrap (bAt x0 x2 - 48)))))) _ h
                · rw [if_neg q] at h; cases h
            · rw [if_neg q] at h; cases h
        · rw [if_neg q] at h; cases h
      · rw [cond_f c] at h
        by_cases q : ((0 : Int) ≤ (0 : Int)) ∧ ((0 : Int) < (↑x3.length : Int)) ∧ (decide (x3.getD (Int.toNat (0 : Int)) I.dflt > (24855 : Int)) = false → (0 : Int) ≤ (1 : Int)) ∧ (decide (x3.getD (Int.toNat (0 : Int)) I.dflt > (24855 : Int)) = false → (1 : Int) < (↑x3.length : Int)) ∧ ((decide (x3.getD (Int.toNat (0 : Int)) I.dflt > (24855 : Int)) || decide (x3.getD (Int.toNat (1 : Int)) I.dflt > (23 : Int))) = false → (0 : Int) ≤ (2 : Int)) ∧ ((decide (x3.getD (Int.toNat (0 : Int)) I.dflt > (24855 : Int)) || decide (x3.getD (Int.toNat (1 : Int)) I.dflt > (23 : Int))) = false → (2 : Int) < (↑x3.length : Int)) ∧ ((decide (x3.getD (Int.toNat (0 : Int)) I.dflt > (24855 : Int)) || decide (x3.getD (Int.toNat (1 : Int)) I.dflt > (23 : Int)) || decide (x3.getD (Int.toNat (2 : Int)) I.dflt > (59 : Int))) = false → (0 : Int) ≤ (3 : Int)) ∧ ((decide (x3.getD (Int.toNat (0 : Int)) I.dflt > (24855 : Int)) || decide (x3.getD (Int.toNat (1 : Int)) I.dflt > (23 : Int)) || decide (x3.getD (Int.toNat (2 : Int)) I.dflt > (59 : Int))) = false → (3 : Int) < (↑x3.length : Int))
        · rw [if_pos q] at h
          refine ⟨(conjC q.1 (conjC q.2.1 (conjC q.2.2.1 (conjC q.2.2.2.1 (conjC q.2.2.2.2.1 (conjC q.2.2.2.2.2.1 (conjC q.2.2.2.2.2.2.1 (conjC q.2.2.2.2.2.2.2 conj0)))))))), ?_⟩
          refine ⟨fun c => ?_, fun c => ?_⟩
          · rw [cond_t c] at h
            cases h; exact ⟨rfl, rfl⟩
          · rw [cond_f c] at h
            by_cases q : ((0 : Int) ≤ (0 : Int)) ∧ ((0 : Int) < (↑x3.length : Int)) ∧ ((0 : Int) ≤ (1 : Int)) ∧ ((1 : Int) < (↑x3.length : Int)) ∧ ((0 : Int) ≤ (2 : Int)) ∧ ((2 : Int) < (↑x3.length : Int)) ∧ ((0 : Int) ≤ (3 : Int)) ∧ ((3 : Int) < (↑x3.length : Int))
            · rw [if_pos q] at h
              refine ⟨(conjC q.1 (conjC q.2.1 (conjC q.2.2.1 (conjC q.2.2.2.1 (conjC q.2.2.2.2.1 (conjC q.2.2.2.2.2.1 (conjC q.2.2.2.2.2.2.1 (conjC q.2.2.2.2.2.2.2 conj0)))))))), ?_⟩
              by_cases q : ((f24 k (IntKind.i64.wrap (IntKind.i64.wrap (IntKind.i64.wrap (IntKind.i64.wrap (x3.getD (Int.toNat 0) I.dflt * 86400) + IntKind.i64.wrap (x3.getD (Int.toNat 1) I.dflt * 3600)) + IntKind.i64.wrap (x3.getD (Int.toNat 2) I.dflt * 60)) + x3.getD (Int.toNat 3) I.dflt))).isSome = true)
              · rw [if_pos q] at h
                refine ⟨(conjC (cc24 k (IntKind.i64.wrap (IntKind.i64.wrap (IntKind.i64.wrap (IntKind.i64.wrap (x3.getD (Int.toNat 0) I.dflt * 86400) + IntKind.i64.wrap (x3.getD (Int.toNat 1) I.dflt * 3600)) + IntKind.i64.wrap (x3.getD (Int.toNat 2) I.dflt * 60)) + x3.getD (Int.toNat 3) I.dflt)) q) conj0), ?_⟩
                refine ⟨fun c => ?_, fun c => ?_⟩
                · rw [cond_t c] at h
                  cases h; exact ⟨rfl, rfl⟩
                · rw [cond_f c] at h
                  cases h; exact ⟨rfl, rfl⟩
              · rw [if_neg q] at h; cases h
            · rw [if_neg q] at h; cases h
        · rw [if_neg q] at h; cases h
theorem of26 (k : Nat) (s_ : ByteArray) (r : R26) (h : f26 k s_ = some r) : CC Tryd.prog 26 (args26 s_) [] (res26 r) (bo26 r) := by
  refine CC.of (fn := Tryd.f26) (by kernel_rfl) (by kernel_rfl) (by kernel_rfl) (by kernel_rfl) ?_
  unfold f26 at h
  refine Ev.tree hm (R := Rt) (K := (K26 k)) (l := []) (C := [(6, [.auto [0, 4, 5, 6] false])]) (E := [.auto [2, 3] true]) (n := 1000) (T := .test ((decide ((↑s_.size : Int) > (20 : Int)))) (.leaf (res26 ((0, 3))) (bo26 ((0, 3)))) (.cut 6 (placeAt Tryd.f26 6) (st26_6 s_ 0 0 ([0, 0, 0, 0])))) (by kernel_rfl) ?_
  refine ⟨fun c => ?_, fun c => ?_⟩
  · rw [cond_t c] at h
    cases h; exact ⟨rfl, rfl⟩
  · rw [cond_f c] at h
    exact (ev26 k k) s_ 0 0 ([0, 0, 0, 0]) _ h
theorem cc26 (k : Nat) (s_ : ByteArray) (h : (f26 k s_).isSome = true) : CC Tryd.prog 26 (args26 s_) [] (res26 (v26 k s_)) (bo26 (v26 k s_)) := by
  cases e : f26 k s_ with
  | none => rw [e] at h; cases h
  | some r => rw [show v26 k s_ = r by simp [v26, e]]; exact of26 k s_ r e

end
end Go.AM
namespace Go.AM
open Go Go.Proofs
set_option linter.unusedVariables false
noncomputable section
/-! ### function 9: papermill/papermilllaw05.ClockForms -/
def K9 (k : Nat) : Calld := ⟨fun g => match g with
  | 23 => some [false]
  | 13 => some []
  | 24 => some [false]
  | 25 => some [false]
  | 26 => some [false]
  | _ => none, fun g xs _ => match g with
  | 23 => match xs with
    | [.r (.v (.int .i64 t_))] => some (res23 (v23 k t_), bo23 (v23 k t_))
    | _ => none
  | 13 => match xs with
    | [] => some (res13 (v13 k ), bo13 (v13 k ))
    | _ => none
  | 24 => match xs with
    | [.r (.v (.int .i64 t_))] => some (res24 (v24 k t_), bo24 (v24 k t_))
    | _ => none
  | 25 => match xs with
    | [.r (.v (.string s_))] => some (res25 (v25 k s_), bo25 (v25 k s_))
    | _ => none
  | 26 => match xs with
    | [.r (.v (.string s_))] => some (res26 (v26 k s_), bo26 (v26 k s_))
    | _ => none
  | _ => none⟩
abbrev R9 : Type := Bool
def res9 (r : R9) : AV := .r (.v (.bool r))
def bo9 (r : R9) : List (Nat × Blk) := []
def f9 (k : Nat) (t_ : Int) (s_ : ByteArray) : Option R9 :=
  bif (decide ((↑s_.size : Int) > (100 : Int))) then
    if ((f13 k ).isSome = true) then
      some (v13 k)
    else none
  else
    if ((f23 k t_).isSome = true) then
      if ((f24 k t_).isSome = true) then
        if ((f25 k s_).isSome = true) then
          if ((f26 k s_).isSome = true) then
            bif ((v23 k t_).fst.toList == (v24 k t_).fst.toList && (v23 k t_).snd == (v24 k t_).snd && (v25 k s_).fst == (v26 k s_).fst && (v25 k s_).snd == (v26 k s_).snd) then
              if (((v23 k t_).fst.toList == (v24 k t_).fst.toList && (v23 k t_).snd == (v24 k t_).snd && (v25 k s_).fst == (v26 k s_).fst && (v25 k s_).snd == (v26 k s_).snd) = true) ∧ ((f13 k ).isSome = true) then
                some (true && v13 k)
              else none
            else
              if (((v23 k t_).fst.toList == (v24 k t_).fst.toList && (v23 k t_).snd == (v24 k t_).snd && (v25 k s_).fst == (v26 k s_).fst && (v25 k s_).snd == (v26 k s_).snd) = false) then
                some false
              else none
          else none
        else none
      else none
    else none
def args9 (t_ : Int) (s_ : ByteArray) : List AV := [.r (.v (.int .i64 t_)), .r (.v (.string s_))]
def v9 (k : Nat) (t_ : Int) (s_ : ByteArray) : R9 := (f9 k t_ s_).getD false
theorem of9 (k : Nat) (t_ : Int) (s_ : ByteArray) (r : R9) (h : f9 k t_ s_ = some r) : CC Tryd.prog 9 (args9 t_ s_) [] (res9 r) (bo9 r) := by
  refine CC.of (fn := Tryd.f9) (by kernel_rfl) (by kernel_rfl) (by kernel_rfl) (by kernel_rfl) ?_
  unfold f9 at h
  refine Ev.tree hm (R := Rt) (K := (K9 k)) (l := []) (C := []) (E := [.auto [4] true]) (n := 1000) (T := .test ((decide ((↑s_.size : Int) > (100 : Int)))) (.need [CC Tryd.prog 13 (args13 ) [] (res13 (v13 k )) (bo13 (v13 k ))] (.leaf (res9 (v13 k)) (bo9 (v13 k)))) (.need [CC Tryd.prog 23 (args23 t_) [] (res23 (v23 k t_)) (bo23 (v23 k t_))] (.need [CC Tryd.prog 24 (args24 t_) [] (res24 (v24 k t_)) (bo24 (v24 k t_))] (.need [CC Tryd.prog 25 (args25 s_) [] (res25 (v25 k s_)) (bo25 (v25 k s_))] (.need [CC Tryd.prog 26 (args26 s_) [] (res26 (v26 k s_)) (bo26 (v26 k s_))] (.test (((v23 k t_).fst.toList == (v24 k t_).fst.toList && (v23 k t_).snd == (v24 k t_).snd && (v25 k s_).fst == (v26 k s_).fst && (v25 k s_).snd == (v26 k s_).snd)) (.need [((v23 k t_).fst.toList == (v24 k t_).fst.toList && (v23 k t_).snd == (v24 k t_).snd && (v25 k s_).fst == (v26 k s_).fst && (v25 k s_).snd == (v26 k s_).snd) = true, CC Tryd.prog 13 (args13 ) [] (res13 (v13 k )) (bo13 (v13 k ))] (.leaf (res9 (true && v13 k)) (bo9 (true && v13 k)))) (.need [((v23 k t_).fst.toList == (v24 k t_).fst.toList && (v23 k t_).snd == (v24 k t_).snd && (v25 k s_).fst == (v26 k s_).fst && (v25 k s_).snd == (v26 k s_).snd) = false] (.leaf (res9 false) (bo9 false))))))))) (by kernel_rfl) ?_
  refine ⟨fun c => ?_, fun c => ?_⟩
  · rw [cond_t c] at h
    by_cases q : ((f13 k ).isSome = true)
    · rw [if_pos q] at h
      refine ⟨(conjC (cc13 k  q) conj0), ?_⟩
      cases h; exact ⟨rfl, rfl⟩
    · rw [if_neg q] at h; cases h
  · rw [cond_f c] at h
    by_cases q : ((f23 k t_).isSome = true)
    · rw [if_pos q] at h
      refine ⟨(conjC (cc23 k t_ q) conj0), ?_⟩
      by_cases q : ((f24 k t_).isSome = true)
      · rw [if_pos q] at h
        refine ⟨(conjC (cc24 k t_ q) conj0), ?_⟩
        by_cases q : ((f25 k s_).isSome = true)
        · rw [if_pos q] at h
          refine ⟨(conjC (cc25 k s_ q) conj0), ?_⟩
          by_cases q : ((f26 k s_).isSome = true)
          · rw [if_pos q] at h
            refine ⟨(conjC (cc26 k s_ q) conj0), ?_⟩
            refine ⟨fun c => ?_, fun c => ?_⟩
            · rw [cond_t c] at h
              by_cases q : (((v23 k t_).fst.toList == (v24 k t_).fst.toList && (v23 k t_).snd == (v24 k t_).snd && (v25 k s_).fst == (v26 k s_).fst && (v25 k s_).snd == (v26 k s_).snd) = true) ∧ ((f13 k ).isSome = true)
              · rw [if_pos q] at h
                refine ⟨(conjC q.1 (conjC (cc13 k  q.2) conj0)), ?_⟩
                cases h; exact ⟨rfl, rfl⟩
              · rw [if_neg q] at h; cases h
            · rw [cond_f c] at h
              by_cases q : (((v23 k t_).fst.toList == (v24 k t_).fst.toList && (v23 k t_).snd == (v24 k t_).snd && (v25 k s_).fst == (v26 k s_).fst && (v25 k s_).snd == (v26 k s_).snd) = false)
              · rw [if_pos q] at h
                refine ⟨(conjC q conj0), ?_⟩
                cases h; exact ⟨rfl, rfl⟩
              · rw [if_neg q] at h; cases h
          · rw [if_neg q] at h; cases h
        · rw [if_neg q] at h; cases h
      · rw [if_neg q] at h; cases h
    · rw [if_neg q] at h; cases h
theorem cc9 (k : Nat) (t_ : Int) (s_ : ByteArray) (h : (f9 k t_ s_).isSome = true) : CC Tryd.prog 9 (args9 t_ s_) [] (res9 (v9 k t_ s_)) (bo9 (v9 k t_ s_)) := by
  cases e : f9 k t_ s_ with
  | none => rw [e] at h; cases h
  | some r => rw [show v9 k t_ s_ = r by simp [v9, e]]; exact of9 k t_ s_ r e

end
end Go.AM
namespace Go.AM
open Go Go.Proofs
set_option linter.unusedVariables false
noncomputable section
/-! ### function 10: papermill/papermilllaw05.ClockRoundTrip -/
def K10 (k : Nat) : Calld := ⟨fun g => match g with
  | 11 => some [false]
  | 18 => some [false]
  | 23 => some [false]
  | 13 => some []
  | 25 => some [false]
  | _ => none, fun g xs _ => match g with
  | 11 => match xs with
    | [.r (.v (.int .i64 t_))] => some (res11 (v11 k t_), bo11 (v11 k t_))
    | _ => none
  | 18 => match xs with
    | [.agg q0] => (decS [] t34 q0).bind fun s_ => some (res18 (v18 k s_), bo18 (v18 k s_))
    | _ => none
  | 23 => match xs with
    | [.r (.v (.int .i64 t_))] => some (res23 (v23 k t_), bo23 (v23 k t_))
    | _ => none
  | 13 => match xs with
    | [] => some (res13 (v13 k ), bo13 (v13 k ))
    | _ => none
  | 25 => match xs with
    | [.r (.v (.string s_))] => some (res25 (v25 k s_), bo25 (v25 k s_))
    | _ => none
  | _ => none⟩
abbrev R10 : Type := Bool
def res10 (r : R10) : AV := .r (.v (.bool r))
def bo10 (r : R10) : List (Nat × Blk) := []
def st10_18 (x0 : Int) (x1 : Int) (x2 : t34.T) (x3 : List (t34).T) : St := ⟨mkS 157 [(5, .ptr 1000000 0 0), (15, .own 1000001 0), (17, .r (.v (.int .i64 x0))), (18, .r (.v (.int .i64 x1)))], [(1000000, 0, .var 34 (rvs (enc t34 x2))), (1000001, 0, .row 34 t34 x3)]⟩
def f10_18 (k : Nat) : Nat → Int → Int → t34.T → List (t34).T → Option R10
  | 0, _, _, _, _ => none
  | j + 1, x0, x1, x2, x3 =>
    bif (decide (x1 < (↑x3.length : Int))) then
      if ((0 : Int) ≤ x1) ∧ (x1 < (↑x3.length : Int)) ∧ (((x3.getD x1.toNat t34.dflt).fst != x0) = false → (0 : Int) ≤ x1) ∧ (((x3.getD x1.toNat t34.dflt).fst != x0) = false → x1 < (↑x3.length : Int)) then
        bif ((x3.getD x1.toNat t34.dflt).fst != x0 || decide ((x3.getD x1.toNat t34.dflt).snd ≤ x0)) then
          some false
        else
          if ((0 : Int) ≤ x1) ∧ (x1 < (↑x3.length : Int)) then
            if ((0 : Int) ≤ x1) ∧ (x1 < (↑x3.length : Int)) ∧ ((f11 k (x3.getD x1.toNat t34.dflt).fst).isSome = true) then
              if ((f11 k (IntKind.i64.wrap ((x3.getD x1.toNat t34.dflt).snd - 1))).isSome = true) then
                bif ((v11 k (x3.getD x1.toNat t34.dflt).fst).snd.snd != (0 : Int) || (v11 k (IntKind.i64.wrap ((x3.getD x1.toNat t34.dflt).snd - (1 : Int)))).snd.snd != (0 : Int) || (v11 k (x3.getD x1.toNat t34.dflt).fst).fst != (v11 k (IntKind.i64.wrap ((x3.getD x1.toNat t34.dflt).snd - (1 : Int)))).fst || (v11 k (x3.getD x1.toNat t34.dflt).fst).snd.fst != (v11 k (IntKind.i64.wrap ((x3.getD x1.toNat t34.dflt).snd - (1 : Int)))).snd.fst) then
                  some false
                else
                  f10_18 k j ((x3.getD x1.toNat t34.dflt).snd) ((IntKind.i64.wrap (x1 + 1))) x2 x3
              else none
            else none
          else none
      else none
    else
      bif (x0 == x2.snd) then
        if ((x0 == x2.snd) = true) ∧ ((f13 k ).isSome = true) then
          some (true && v13 k)
        else none
      else
        if ((x0 == x2.snd) = false) then
          some false
        else none
def f10 (k : Nat) (t_ : Int) (o_ : ByteArray) (A_ : t34.T) : Option R10 :=
  bif (decide ((↑o_.size : Int) > (100 : Int))) then
    if ((f13 k ).isSome = true) then
      some (v13 k)
    else none
  else
    bif (decide (t_ ≥ (0 : Int)) && decide (t_ ≤ (2147483647 : Int))) then
      if ((f23 k t_).isSome = true) then
        if ((f25 k (v23 k t_).fst).isSome = true) then
          bif ((v23 k t_).snd != (0 : Int) || (v25 k (v23 k t_).fst).snd != (0 : Int) || (v25 k (v23 k t_).fst).fst != t_) then
            some false
          else
            if ((f25 k o_).isSome = true) then
              bif ((v25 k o_).snd == (0 : Int)) then
                if ((f23 k (v25 k o_).fst).isSome = true) then
                  bif ((v23 k (v25 k o_).fst).snd != (0 : Int) || ! (v23 k (v25 k o_).fst).fst.toList == o_.toList) then
                    some false
                  else
                    if ((f18 k A_).isSome = true) then
                      bif ((v18 k A_).fst != (0 : Int)) then
                        bif ((↑ (v18 k A_).snd.length : Int) == (0 : Int)) then
                          if (((↑ (v18 k A_).snd.length : Int) == (0 : Int)) = true) ∧ ((f13 k ).isSome = true) then
                            some (true && v13 k)
                          else none
                        else
                          if (((↑ (v18 k A_).snd.length : Int) == (0 : Int)) = false) then
                            some false
                          else none
                      else
                        f10_18 k k A_.fst 0 A_ ((v18 k A_).snd)
                    else none
                else none
              else
                if ((f18 k A_).isSome = true) then
                  bif ((v18 k A_).fst != (0 : Int)) then
                    bif ((↑ (v18 k A_).snd.length : Int) == (0 : Int)) then
                      if (((↑ (v18 k A_).snd.length : Int) == (0 : Int)) = true) ∧ ((f13 k ).isSome = true) then
                        some (true && v13 k)
                      else none
                    else
                      if (((↑ (v18 k A_).snd.length : Int) == (0 : Int)) = false) then
                        some false
                      else none
                  else
                    f10_18 k k A_.fst 0 A_ ((v18 k A_).snd)
                else none
            else none
        else none
      else none
    else
      if ((f25 k o_).isSome = true) then
        bif ((v25 k o_).snd == (0 : Int)) then
          if ((f23 k (v25 k o_).fst).isSome = true) then
            bif ((v23 k (v25 k o_).fst).snd != (0 : Int) || ! (v23 k (v25 k o_).fst).fst.toList == o_.toList) then
              some false
            else
              if ((f18 k A_).isSome = true) then
                bif ((v18 k A_).fst != (0 : Int)) then
                  bif ((↑ (v18 k A_).snd.length : Int) == (0 : Int)) then
                    if (((↑ (v18 k A_).snd.length : Int) == (0 : Int)) = true) ∧ ((f13 k ).isSome = true) then
                      some (true && v13 k)
                    else none
                  else
                    if (((↑ (v18 k A_).snd.length : Int) == (0 : Int)) = false) then
                      some false
                    else none
                else
                  f10_18 k k A_.fst 0 A_ ((v18 k A_).snd)
              else none
          else none
        else
          if ((f18 k A_).isSome = true) then
            bif ((v18 k A_).fst != (0 : Int)) then
              bif ((↑ (v18 k A_).snd.length : Int) == (0 : Int)) then
                if (((↑ (v18 k A_).snd.length : Int) == (0 : Int)) = true) ∧ ((f13 k ).isSome = true) then
                  some (true && v13 k)
                else none
              else
                if (((↑ (v18 k A_).snd.length : Int) == (0 : Int)) = false) then
                  some false
                else none
            else
              f10_18 k k A_.fst 0 A_ ((v18 k A_).snd)
          else none
      else none
def args10 (t_ : Int) (o_ : ByteArray) (A_ : t34.T) : List AV := [.r (.v (.int .i64 t_)), .r (.v (.string o_)), .agg (rvs (enc t34 A_))]
def v10 (k : Nat) (t_ : Int) (o_ : ByteArray) (A_ : t34.T) : R10 := (f10 k t_ o_ A_).getD false
theorem ev10 (k : Nat) : ∀ j, (∀ (x0 : Int) (x1 : Int) (x2 : t34.T) (x3 : List (t34).T) (r : R10), f10_18 k j x0 x1 x2 x3 = some r → Ev Tryd.prog Tryd.f10 0 (placeAt Tryd.f10 18) (st10_18 x0 x1 x2 x3) (res10 r) (bo10 r))
  | 0 => by
    intros; rename_i h; simp [f10_18] at h
  | j + 1 => by
    have ih := ev10 k j
    · intro x0 x1 x2 x3 r h
      rw [f10_18] at h
      refine Ev.tree hm (R := Rt) (K := (K10 k)) (l := []) (C := [(18, [.auto [5, 15, 17, 18] false])]) (E := [.auto [6] true]) (n := 1000) (T := .test ((decide (x1 < (↑x3.length : Int)))) (.need [(0 : Int) ≤ x1, x1 < (↑x3.length : Int), ((x3.getD x1.toNat t34.dflt).fst != x0) = false → (0 : Int) ≤ x1, ((x3.getD x1.toNat t34.dflt).fst != x0) = false → x1 < (↑x3.length : Int)] (.test (((x3.getD x1.toNat t34.dflt).fst != x0 || decide ((x3.getD x1.toNat t34.dflt).snd ≤ x0))) (.leaf (res10 false) (bo10 false)) (.need [(0 : Int) ≤ x1, x1 < (↑x3.length : Int)] (.need [(0 : Int) ≤ x1, x1 < (↑x3.length : Int), CC Tryd.prog 11 (args11 (x3.getD x1.toNat t34.dflt).fst) [] (res11 (v11 k (x3.getD x1.toNat t34.dflt).fst)) (bo11 (v11 k (x3.getD x1.toNat t34.dflt).fst))] (.need [CC Tryd.prog 11 (args11 (IntKind.i64.wrap ((x3.getD x1.toNat t34.dflt).snd - 1))) [] (res11 (v11 k (IntKind.i64.wrap ((x3.getD x1.toNat t34.dflt).snd - 1)))) (bo11 (v11 k (IntKind.i64.wrap ((x3.getD x1.toNat t34.dflt).snd - 1))))] (.test (((v11 k (x3.getD x1.toNat t34.dflt).fst).snd.snd != (0 : Int) || (v11 k (IntKind.i64.wrap ((x3.getD x1.toNat t34.dflt).snd - (1 : Int)))).snd.snd != (0 : Int) || (v11 k (x3.getD x1.toNat t34.dflt).fst).fst != (v11 k (IntKind.i64.wrap ((x3.getD x1.toNat t34.dflt).snd - (1 : Int)))).fst || (v11 k (x3.getD x1.toNat t34.dflt).fst).snd.fst != (v11 k (IntKind.i64.wrap ((x3.getD x1.toNat t34.dflt).snd - (1 : Int)))).snd.fst)) (.leaf (res10 false) (bo10 false)) (.cut 18 (placeAt Tryd.f10 18) (st10_18 ((x3.getD x1.toNat t34.dflt).snd) ((IntKind.i64.wrap (x1 + 1))) x2 x3)))))))) (.test ((x0 == x2.snd)) (.need [(x0 == x2.snd) = true, CC Tryd.prog 13 (args13 ) [] (res13 (v13 k )) (bo13 (v13 k ))] (.leaf (res10 (true && v13 k)) (bo10 (true && v13 k)))) (.need [(x0 == x2.snd) = false] (.leaf (res10 false) (bo10 false))))) (by kernel_rfl) ?_
      refine ⟨fun c => ?_, fun c => ?_⟩
      · rw [cond_t c] at h
        by_cases q : ((0 : Int) ≤ x1) ∧ (x1 < (↑x3.length : Int)) ∧ (((x3.getD x1.toNat t34.dflt).fst != x0) = false → (0 : Int) ≤ x1) ∧ (((x3.getD x1.toNat t34.dflt).fst != x0) = false → x1 < (↑x3.length : Int))
        · rw [if_pos q] at h
          refine ⟨(conjC q.1 (conjC q.2.1 (conjC q.2.2.1 (conjC q.2.2.2 conj0)))), ?_⟩
          refine ⟨fun c => ?_, fun c => ?_⟩
          · rw [cond_t c] at h
            cases h; exact ⟨rfl, rfl⟩
          · rw [cond_f c] at h
            by_cases q : ((0 : Int) ≤ x1) ∧ (x1 < (↑x3.length : Int))
            · rw [if_pos q] at h
              refine ⟨(conjC q.1 (conjC q.2 conj0)), ?_⟩
              by_cases q : ((0 : Int) ≤ x1) ∧ (x1 < (↑x3.length : Int)) ∧ ((f11 k (x3.getD x1.toNat t34.dflt).fst).isSome = true)
              · rw [if_pos q] at h
                refine ⟨(conjC q.1 (conjC q.2.1 (conjC (cc11 k (x3.getD x1.toNat t34.dflt).fst q.2.2) conj0))), ?_⟩
                by_cases q : ((f11 k (IntKind.i64.wrap ((x3.getD x1.toNat t34.dflt).snd - 1))).isSome = true)
                · rw [if_pos q] at h
                  refine ⟨(conjC (cc11 k (IntKind.i64.wrap ((x3.getD x1.toNat t34.dflt).snd - 1)) q) conj0), ?_⟩
                  refine ⟨fun c => ?_, fun c => ?_⟩
                  · rw [cond_t c] at h
                    cases h; exact ⟨rfl, rfl⟩
                  · rw [cond_f c] at h
                    exact ih ((x3.getD x1.toNat t34.dflt).snd) ((IntKind.i64.wrap (x1 + 1))) x2 x3 _ h
                · rw [if_neg q] at h; cases h
              · rw [if_neg q] at h; cases h
            · rw [if_neg q] at h; cases h
        · rw [if_neg q] at h; cases h
      · rw [cond_f c] at h
        refine ⟨fun c => ?_, fun c => ?_⟩
        · rw [cond_t c] at h
          by_cases q : ((x0 == x2.snd) = true) ∧ ((f13 k ).isSome = true)
          · rw [if_pos q] at h
            refine ⟨(conjC q.1 (conjC (cc13 k  q.2) conj0)), ?_⟩
            cases h; exact ⟨rfl, rfl⟩
          · rw [if_neg q] at h; cases h
        · rw [cond_f c] at h
          by_cases q : ((x0 == x2.snd) = false)
          · rw [if_pos q] at h
            refine ⟨(conjC q conj0), ?_⟩
            cases h; exact ⟨rfl, rfl⟩
          · rw [if_neg q] at h; cases h
theorem of10 (k : Nat) (t_ : Int) (o_ : ByteArray) (A_ : t34.T) (r : R10) (h : f10 k t_ o_ A_ = some r) : CC Tryd.prog 10 (args10 t_ o_ A_) [] (res10 r) (bo10 r) := by
  refine CC.of (fn := Tryd.f10) (by kernel_rfl) (by kernel_rfl) (by kernel_rfl) (by kernel_rfl) ?_
  unfold f10 at h
  refine Ev.tree hm (R := Rt) (K := (K10 k)) (l := []) (C := [(18, [.auto [5, 15, 17, 18] false])]) (E := [.auto [6] true]) (n := 1000) (T := .test ((decide ((↑o_.size : Int) > (100 : Int)))) (.need [CC Tryd.prog 13 (args13 ) [] (res13 (v13 k )) (bo13 (v13 k ))] (.leaf (res10 (v13 k)) (bo10 (v13 k)))) (.test ((decide (t_ ≥ (0 : Int)) && decide (t_ ≤ (2147483647 : Int)))) (.need [CC Tryd.prog 23 (args23 t_) [] (res23 (v23 k t_)) (bo23 (v23 k t_))] (.need [CC Tryd.prog 25 (args25 (v23 k t_).fst) [] (res25 (v25 k (v23 k t_).fst)) (bo25 (v25 k (v23 k t_).fst))] (.test (((v23 k t_).snd != (0 : Int) || (v25 k (v23 k t_).fst).snd != (0 : Int) || (v25 k (v23 k t_).fst).fst != t_)) (.leaf (res10 false) (bo10 false)) (.need [CC Tryd.prog 25 (args25 o_) [] (res25 (v25 k o_)) (bo25 (v25 k o_))] (.test (((v25 k o_).snd == (0 : Int))) (.need [CC Tryd.prog 23 (args23 (v25 k o_).fst) [] (res23 (v23 k (v25 k o_).fst)) (bo23 (v23 k (v25 k o_).fst))] (.test (((v23 k (v25 k o_).fst).snd != (0 : Int) || ! (v23 k (v25 k o_).fst).fst.toList == o_.toList)) (.leaf (res10 false) (bo10 false)) (.need [CC Tryd.prog 18 (args18 A_) [] (res18 (v18 k A_)) (bo18 (v18 k A_))] (.test (((v18 k A_).fst != (0 : Int))) (.test (((↑ (v18 k A_).snd.length : Int) == (0 : Int))) (.need [((↑ (v18 k A_).snd.length : Int) == (0 : Int)) = true, CC Tryd.prog 13 (args13 ) [] (res13 (v13 k )) (bo13 (v13 k ))] (.leaf (res10 (true && v13 k)) (bo10 (true && v13 k)))) (.need [((↑ (v18 k A_).snd.length : Int) == (0 : Int)) = false] (.leaf (res10 false) (bo10 false)))) (.cut 18 (placeAt Tryd.f10 18) (st10_18 A_.fst 0 A_ ((v18 k A_).snd))))))) (.need [CC Tryd.prog 18 (args18 A_) [] (res18 (v18 k A_)) (bo18 (v18 k A_))] (.test (((v18 k A_).fst != (0 : Int))) (.test (((↑ (v18 k A_).snd.length : Int) == (0 : Int))) (.need [((↑ (v18 k A_).snd.length : Int) == (0 : Int)) = true, CC Tryd.prog 13 (args13 ) [] (res13 (v13 k )) (bo13 (v13 k ))] (.leaf (res10 (true && v13 k)) (bo10 (true && v13 k)))) (.need [((↑ (v18 k A_).snd.length : Int) == (0 : Int)) = false] (.leaf (res10 false) (bo10 false)))) (.cut 18 (placeAt Tryd.f10 18) (st10_18 A_.fst 0 A_ ((v18 k A_).snd)))))))))) (.need [CC Tryd.prog 25 (args25 o_) [] (res25 (v25 k o_)) (bo25 (v25 k o_))] (.test (((v25 k o_).snd == (0 : Int))) (.need [CC Tryd.prog 23 (args23 (v25 k o_).fst) [] (res23 (v23 k (v25 k o_).fst)) (bo23 (v23 k (v25 k o_).fst))] (.test (((v23 k (v25 k o_).fst).snd != (0 : Int) || ! (v23 k (v25 k o_).fst).fst.toList == o_.toList)) (.leaf (res10 false) (bo10 false)) (.need [CC Tryd.prog 18 (args18 A_) [] (res18 (v18 k A_)) (bo18 (v18 k A_))] (.test (((v18 k A_).fst != (0 : Int))) (.test (((↑ (v18 k A_).snd.length : Int) == (0 : Int))) (.need [((↑ (v18 k A_).snd.length : Int) == (0 : Int)) = true, CC Tryd.prog 13 (args13 ) [] (res13 (v13 k )) (bo13 (v13 k ))] (.leaf (res10 (true && v13 k)) (bo10 (true && v13 k)))) (.need [((↑ (v18 k A_).snd.length : Int) == (0 : Int)) = false] (.leaf (res10 false) (bo10 false)))) (.cut 18 (placeAt Tryd.f10 18) (st10_18 A_.fst 0 A_ ((v18 k A_).snd))))))) (.need [CC Tryd.prog 18 (args18 A_) [] (res18 (v18 k A_)) (bo18 (v18 k A_))] (.test (((v18 k A_).fst != (0 : Int))) (.test (((↑ (v18 k A_).snd.length : Int) == (0 : Int))) (.need [((↑ (v18 k A_).snd.length : Int) == (0 : Int)) = true, CC Tryd.prog 13 (args13 ) [] (res13 (v13 k )) (bo13 (v13 k ))] (.leaf (res10 (true && v13 k)) (bo10 (true && v13 k)))) (.need [((↑ (v18 k A_).snd.length : Int) == (0 : Int)) = false] (.leaf (res10 false) (bo10 false)))) (.cut 18 (placeAt Tryd.f10 18) (st10_18 A_.fst 0 A_ ((v18 k A_).snd))))))))) (by kernel_rfl) ?_
  refine ⟨fun c => ?_, fun c => ?_⟩
  · rw [cond_t c] at h
    by_cases q : ((f13 k ).isSome = true)
    · rw [if_pos q] at h
      refine ⟨(conjC (cc13 k  q) conj0), ?_⟩
      cases h; exact ⟨rfl, rfl⟩
    · rw [if_neg q] at h; cases h
  · rw [cond_f c] at h
    refine ⟨fun c => ?_, fun c => ?_⟩
    · rw [cond_t c] at h
      by_cases q : ((f23 k t_).isSome = true)
      · rw [if_pos q] at h
        refine ⟨(conjC (cc23 k t_ q) conj0), ?_⟩
        by_cases q : ((f25 k (v23 k t_).fst).isSome = true)
        · rw [if_pos q] at h
          refine ⟨(conjC (cc25 k (v23 k t_).fst q) conj0), ?_⟩
          refine ⟨fun c => ?_, fun c => ?_⟩
          · rw [cond_t c] at h
            cases h; exact ⟨rfl, rfl⟩
          · rw [cond_f c] at h
            by_cases q : ((f25 k o_).isSome = true)
            · rw [if_pos q] at h
              refine ⟨(conjC (cc25 k o_ q) conj0), ?_⟩
              refine ⟨fun c => ?_, fun c => ?_⟩
              · rw [cond_t c] at h
                by_cases q : ((f23 k (v25 k o_).fst).isSome = true)
                · rw [if_pos q] at h
                  refine ⟨(conjC (cc23 k (v25 k o_).fst q) conj0), ?_⟩
                  refine ⟨fun c => ?_, fun c => ?_⟩
                  · rw [cond_t c] at h
                    cases h; exact ⟨rfl, rfl⟩
                  · rw [cond_f c] at h
                    by_cases q : ((f18 k A_).isSome = true)
                    · rw [if_pos q] at h
                      refine ⟨(conjC (cc18 k A_ q) conj0), ?_⟩
                      refine ⟨fun c => ?_, fun c => ?_⟩
                      · rw [cond_t c] at h
                        refine ⟨fun c => ?_, fun c => ?_⟩
                        · rw [cond_t c] at h
                          by_cases q : (((↑ (v18 k A_).snd.length : Int) == (0 : Int)) = true) ∧ ((f13 k ).isSome = true)
                          · rw [if_pos q] at h
                            refine ⟨(conjC q.1 (conjC (cc13 k  q.2) conj0)), ?_⟩
                            cases h; exact ⟨rfl, rfl⟩
                          · rw [if_neg q] at h; cases h
                        · rw [cond_f c] at h
                          by_cases q : (((↑ (v18 k A_).snd.length : Int) == (0 : Int)) = false)
                          · rw [if_pos q] at h
                            refine ⟨(conjC q conj0), ?_⟩
                            cases h; exact ⟨rfl, rfl⟩
                          · rw [if_neg q] at h; cases h
                      · rw [cond_f c] at h
                        exact (ev10 k k) A_.fst 0 A_ ((v18 k A_).snd) _ h
                    · rw [if_neg q] at h; cases h
                · rw [if_neg q] at h; cases h
              · rw [cond_f c] at h
                by_cases q : ((f18 k A_).isSome = true)
                · rw [if_pos q] at h
                  refine ⟨(conjC (cc18 k A_ q) conj0), ?_⟩
                  refine ⟨fun c => ?_, fun c => ?_⟩
                  · rw [cond_t c] at h
                    refine ⟨fun c => ?_, fun c => ?_⟩
                    · rw [cond_t c] at h
                      by_cases q : (((↑ (v18 k A_).snd.length : Int) == (0 : Int)) = true) ∧ ((f13 k ).isSome = true)
                      · rw [if_pos q] at h
                        refine ⟨(conjC q.1 (conjC (cc13 k  q.2) conj0)), ?_⟩
                        cases h; exact ⟨rfl, rfl⟩
                      · rw [if_neg q] at h; cases h
                    · rw [cond_f c] at h
                      by_cases q : (((↑ (v18 k A_).snd.length : Int) == (0 : Int)) = false)
                      · rw [if_pos q] at h
                        refine ⟨(conjC q conj0), ?_⟩
                        cases h; exact ⟨rfl, rfl⟩
                      · rw [if_neg q] at h; cases h
                  · rw [cond_f c] at h
                    exact (ev10 k k) A_.fst 0 A_ ((v18 k A_).snd) _ h
                · rw [if_neg q] at h; cases h
            · rw [if_neg q] at h; cases h
        · rw [if_neg q] at h; cases h
      · rw [if_neg q] at h; cases h
    · rw [cond_f c] at h
      by_cases q : ((f25 k o_).isSome = true)
      · rw [if_pos q] at h
        refine ⟨(conjC (cc25 k o_ q) conj0), ?_⟩
        refine ⟨fun c => ?_, fun c => ?_⟩
        · rw [cond_t c] at h
          by_cases q : ((f23 k (v25 k o_).fst).isSome = true)
          · rw [if_pos q] at h
            refine ⟨(conjC (cc23 k (v25 k o_).fst q) conj0), ?_⟩
            refine ⟨fun c => ?_, fun c => ?_⟩
            · rw [cond_t c] at h
              cases h; exact ⟨rfl, rfl⟩
            · rw [cond_f c] at h
              by_cases q : ((f18 k A_).isSome = true)
              · rw [if_pos q] at h
                refine ⟨(conjC (cc18 k A_ q) conj0), ?_⟩
                refine ⟨fun c => ?_, fun c => ?_⟩
                · rw [cond_t c] at h
                  refine ⟨fun c => ?_, fun c => ?_⟩
                  · rw [cond_t c] at h
                    by_cases q : (((↑ (v18 k A_).snd.length : Int) == (0 : Int)) = true) ∧ ((f13 k ).isSome = true)
                    · rw [if_pos q] at h
                      refine ⟨(conjC q.1 (conjC (cc13 k  q.2) conj0)), ?_⟩
                      cases h; exact ⟨rfl, rfl⟩
                    · rw [if_neg q] at h; cases h
                  · rw [cond_f c] at h
                    by_cases q : (((↑ (v18 k A_).snd.length : Int) == (0 : Int)) = false)
                    · rw [if_pos q] at h
                      refine ⟨(conjC q conj0), ?_⟩
                      cases h; exact ⟨rfl, rfl⟩
                    · rw [if_neg q] at h; cases h
                · rw [cond_f c] at h
                  exact (ev10 k k) A_.fst 0 A_ ((v18 k A_).snd) _ h
              · rw [if_neg q] at h; cases h
          · rw [if_neg q] at h; cases h
        · rw [cond_f c] at h
          by_cases q : ((f18 k A_).isSome = true)
          · rw [if_pos q] at h
            refine ⟨(conjC (cc18 k A_ q) conj0), ?_⟩
            refine ⟨fun c => ?_, fun c => ?_⟩
            · rw [cond_t c] at h
              refine ⟨fun c => ?_, fun c => ?_⟩
              · rw [cond_t c] at h
                by_cases q : (((↑ (v18 k A_).snd.length : Int) == (0 : Int)) = true) ∧ ((f13 k ).isSome = true)
                · rw [if_pos q] at h
                  refine ⟨(conjC q.1 (conjC (cc13 k  q.2) conj0)), ?_⟩
                  cases h; exact ⟨rfl, rfl⟩
                · rw [if_neg q] at h; cases h
              · rw [cond_f c] at h
                by_cases q : (((↑ (v18 k A_).snd.length : Int) == (0 : Int)) = false)
                · rw [if_pos q] at h
                  refine ⟨(conjC q conj0), ?_⟩
                  cases h; exact ⟨rfl, rfl⟩
                · rw [if_neg q] at h; cases h
            · rw [cond_f c] at h
              exact (ev10 k k) A_.fst 0 A_ ((v18 k A_).snd) _ h
          · rw [if_neg q] at h; cases h
      · rw [if_neg q] at h; cases h
theorem cc10 (k : Nat) (t_ : Int) (o_ : ByteArray) (A_ : t34.T) (h : (f10 k t_ o_ A_).isSome = true) : CC Tryd.prog 10 (args10 t_ o_ A_) [] (res10 (v10 k t_ o_ A_)) (bo10 (v10 k t_ o_ A_)) := by
  cases e : f10 k t_ o_ A_ with
  | none => rw [e] at h; cases h
  | some r => rw [show v10 k t_ o_ A_ = r by simp [v10, e]]; exact of10 k t_ o_ A_ r e

end
end Go.AM
namespace Go.AM
open Go

/-! ### forms of moments -/
abbrev KK : Nat := 600
theorem awake05 : f13 KK = some true := by kernel_rfl
theorem vawake05 : v13 KK = true := by unfold v13; rw [awake05]; rfl
theorem td {x n : Int} (h : 0 ≤ x) : x.tdiv n = x / n := Int.tdiv_eq_ediv_of_nonneg h
theorem tm {x n : Int} (h : 0 ≤ x) : x.tmod n = x % n := Int.tmod_eq_emod_of_nonneg h
def mom (t : Int) : Bool := decide (t ≥ 0) && decide (t ≤ 2147483647)
theorem if_some {α β : Type} (x : α) (a b : β) : (if (some x).isSome = true then a else b) = a := rfl
theorem f27_s (t : Int) : f27 KK t = some (mom t) := rfl
theorem v27_s (t : Int) : v27 KK t = mom t := rfl
theorem f28_s (t : Int) : f28 KK t = some (mom t) := rfl
theorem v28_s (t : Int) : v28 KK t = mom t := rfl
theorem mom_iff (t : Int) : mom t = true ↔ 0 ≤ t ∧ t ≤ 2147483647 := by simp [mom]

def mkB (l : List UInt8) : ByteArray := ⟨l.toArray⟩
theorem mkB_append (l m : List UInt8) : mkB l ++ mkB m = mkB (l ++ m) := by
  apply ByteArray.ext
  simp [mkB]
theorem mkB_size (l : List UInt8) : (mkB l).size = l.length := by simp [mkB, ByteArray.size]
theorem mkB_list (b : ByteArray) : mkB b.data.toList = b := by
  apply ByteArray.ext
  simp [mkB]
theorem mkB_inj {l m : List UInt8} (h : mkB l = mkB m) : l = m := by
  have := congrArg (fun b => b.data.toList) h
  simpa [mkB] using this
theorem mkB_toList (l : List UInt8) : (mkB l).data.toList = l := by simp [mkB]

def dg (x : Nat) : UInt8 := UInt8.ofNat (48 + x)
def two (x : Nat) : List UInt8 := [dg (x / 10), dg (x % 10)]
def fmtL (t : Int) : List UInt8 := Lib.decDigits (t / 86400).toNat ++ (32 :: two (t % 86400 / 3600).toNat) ++ (58 :: two (t % 3600 / 60).toNat) ++ (58 :: two (t % 60).toNat)
def formS (t : Int) : ByteArray × Int := if mom t = true then (mkB (fmtL t), 0) else (mkB [], 1)

theorem dec_small {n : Nat} (h : n < 10) : Lib.decDigits n = [dg n] := by rw [Lib.decDigits, dif_pos h]; rfl
theorem dec_big {n : Nat} (h : ¬ n < 10) : Lib.decDigits n = Lib.decDigits (n / 10) ++ [dg (n % 10)] := by
  conv => lhs; rw [Lib.decDigits, dif_neg h]
  rfl
theorem dec_len : ∀ (e n : Nat), n < 10 ^ (e + 1) → (Lib.decDigits n).length ≤ e + 1 ∧ 1 ≤ (Lib.decDigits n).length
  | 0, n, h => by rw [dec_small (by omega)]; simp
  | e + 1, n, h => by
    by_cases hn : n < 10
    · rw [dec_small hn]; simp
    · have := dec_len e (n / 10) (by rw [Nat.pow_succ] at h; omega)
      rw [dec_big hn]
      simp; omega

theorem itoa_nn {n : Int} (h : 0 ≤ n) : itoaB n = mkB (Lib.decDigits n.toNat) := by
  unfold itoaB Lib.itoa
  rw [if_neg (by omega)]
  rfl
theorem f33_s {n : Int} (h0 : 0 ≤ n) (h1 : n ≤ 2147483647) : f33 KK n = some (mkB (Lib.decDigits n.toNat)) := by
  unfold f33
  rw [if_pos ⟨by omega, by omega⟩, itoa_nn h0]
theorem v33_s {n : Int} (h0 : 0 ≤ n) (h1 : n ≤ 2147483647) : v33 KK n = mkB (Lib.decDigits n.toNat) := by unfold v33; rw [f33_s h0 h1]; rfl
theorem v33_d {n : Int} (h0 : 0 ≤ n) (h1 : n < 10) : v33 KK n = mkB [dg n.toNat] := by rw [v33_s h0 (by omega), dec_small (by omega)]

theorem max64 : IntKind.i64.max = 9223372036854775807 := by decide

theorem piece (x : Int) (h0 : 0 ≤ x) (h1 : x < 100) : v33 KK (IntKind.i64.wrap (x.tdiv 10)) = mkB [dg (x.toNat / 10)] ∧ v33 KK (x.tmod 10) = mkB [dg (x.toNat % 10)] ∧ (f33 KK (IntKind.i64.wrap (x.tdiv 10))).isSome = true ∧ (f33 KK (x.tmod 10)).isSome = true := by
  rw [td h0, tm h0, wrap_id (by omega) (by omega), v33_d (by omega) (by omega), v33_d (by omega) (by omega), f33_s (n := x / 10) (by omega) (by omega), f33_s (n := x % 10) (by omega) (by omega)]
  refine ⟨?_, ?_, rfl, rfl⟩
  · rw [show (x / 10).toNat = x.toNat / 10 by omega]
  · rw [show (x % 10).toNat = x.toNat % 10 by omega]

theorem f34_s {t : Int} (h0 : 0 ≤ t) (_h1 : t ≤ 2147483647) : f34 KK t = some (t % 86400 / 3600, t % 3600 / 60, t % 60) := by
  unfold f34
  rw [if_pos ⟨by decide, by decide, by decide, by decide, by decide⟩, tm h0, tm h0, tm h0, td (by omega), td (by omega), wrap_id (by omega) (by omega), wrap_id (by omega) (by omega)]

theorem f23_loop (j : Nat) (d : List UInt8) (hd : d.length ≤ 20) (h m s : Int) (h0 : 0 ≤ h ∧ h < 100) (m0 : 0 ≤ m ∧ m < 100) (s0 : 0 ≤ s ∧ s < 100) :
    f23_10006 KK (j + 4) (mkB d) (ByteArray.mk #[32]) h m s = some (mkB (d ++ (32 :: two h.toNat) ++ (58 :: two m.toNat) ++ (58 :: two s.toNat)), 0) := by
  obtain ⟨a1, a2, a3, a4⟩ := piece h h0.1 h0.2
  obtain ⟨b1, b2, b3, b4⟩ := piece m m0.1 m0.2
  obtain ⟨c1, c2, c3, c4⟩ := piece s s0.1 s0.2
  have sz : ∀ l : List UInt8, l.length ≤ 100 → ∀ x : Nat, x = l.length → ((x : Nat) : Int) ≤ IntKind.i64.max := fun l hl x hx => by rw [max64]; omega
  have q1 : ∀ (x y z w : ByteArray) (l1 l2 l3 l4 : List UInt8), x = mkB l1 → y = mkB l2 → z = mkB l3 → w = mkB l4 → l1.length + l2.length + l3.length + l4.length ≤ 100 →
      (((y.size + z.size : Nat) : Int) ≤ IntKind.i64.max ∧ (((y ++ z).size + w.size : Nat) : Int) ≤ IntKind.i64.max ∧ ((x.size + (y ++ z ++ w).size : Nat) : Int) ≤ IntKind.i64.max) := fun x y z w l1 l2 l3 l4 e1 e2 e3 e4 hl => by
    subst e1 e2 e3 e4
    simp only [mkB_append, mkB_size, max64, List.length_append]
    omega
  have A := q1 (mkB d) (ByteArray.mk #[32]) (mkB [dg (h.toNat / 10)]) (mkB [dg (h.toNat % 10)]) d [32] _ _ rfl rfl rfl rfl (by simp; omega)
  have e1 : mkB d ++ ((ByteArray.mk #[32]) ++ mkB [dg (h.toNat / 10)] ++ mkB [dg (h.toNat % 10)]) = mkB (d ++ (32 :: two h.toNat)) := by
    rw [show (ByteArray.mk #[32]) = mkB [32] from rfl, mkB_append, mkB_append, mkB_append]; rfl
  have B := q1 (mkB (d ++ (32 :: two h.toNat))) (ByteArray.mk #[58]) (mkB [dg (m.toNat / 10)]) (mkB [dg (m.toNat % 10)]) _ [58] _ _ rfl rfl rfl rfl (by simp [two]; omega)
  have e2 : mkB (d ++ (32 :: two h.toNat)) ++ ((ByteArray.mk #[58]) ++ mkB [dg (m.toNat / 10)] ++ mkB [dg (m.toNat % 10)]) = mkB (d ++ (32 :: two h.toNat) ++ (58 :: two m.toNat)) := by
    rw [show (ByteArray.mk #[58]) = mkB [58] from rfl, mkB_append, mkB_append, mkB_append]; rfl
  have C := q1 (mkB (d ++ (32 :: two h.toNat) ++ (58 :: two m.toNat))) (ByteArray.mk #[58]) (mkB [dg (s.toNat / 10)]) (mkB [dg (s.toNat % 10)]) _ [58] _ _ rfl rfl rfl rfl (by simp [two]; omega)
  have e3 : mkB (d ++ (32 :: two h.toNat) ++ (58 :: two m.toNat)) ++ ((ByteArray.mk #[58]) ++ mkB [dg (s.toNat / 10)] ++ mkB [dg (s.toNat % 10)]) = mkB (d ++ (32 :: two h.toNat) ++ (58 :: two m.toNat) ++ (58 :: two s.toNat)) := by
    rw [show (ByteArray.mk #[58]) = mkB [58] from rfl, mkB_append, mkB_append, mkB_append]; rfl
  rw [f23_10006, if_pos (by decide), a1, a2, if_pos ⟨by decide, a3, A.1, by decide, a4, A.2.1, A.2.2⟩, e1]
  rw [f23_20006, if_pos (by decide), b1, b2, if_pos ⟨by decide, b3, B.1, by decide, b4, B.2.1, B.2.2⟩, e2]
  rw [f23_30006, if_pos (by decide), c1, c2, if_pos ⟨by decide, c3, C.1, by decide, c4, C.2.1, C.2.2⟩, e3, f23_40006]

theorem f23_s (t : Int) : f23 KK t = some (formS t) := by
  unfold f23 formS
  rw [f27_s, if_some, v27_s]
  by_cases hm : mom t = true
  · obtain ⟨h0, h1⟩ := (mom_iff t).1 hm
    have e34 : v34 KK t = (t % 86400 / 3600, t % 3600 / 60, t % 60) := by unfold v34; rw [f34_s h0 h1]; rfl
    have eD : IntKind.i64.wrap (t.tdiv 86400) = t / 86400 := by rw [td h0, wrap_id (by omega) (by omega)]
    rw [hm, Bool.not_true, cond_false, eD, f33_s (by omega) (by omega), v33_s (by omega) (by omega), f34_s h0 h1, e34]
    rw [if_pos ⟨by decide, rfl⟩, if_some, if_pos (show true = true from rfl)]
    have hl := dec_len 4 (t / 86400).toNat (by omega)
    exact f23_loop 596 _ (by omega) (t % 86400 / 3600) (t % 3600 / 60) (t % 60) (by omega) (by omega) (by omega)
  · have : mom t = false := by simpa using hm
    rw [this]; rfl

/-! the reference's digits -/
theorem ext10 : ∀ d : Fin 10, bs_H05f35_1.extract d.val (d.val + 1) = mkB [dg d.val] := by decide
theorem ext10' {x : Int} (h0 : 0 ≤ x) (h1 : x < 10) : bs_H05f35_1.extract x.toNat (IntKind.i64.wrap (x + 1)).toNat = mkB [dg x.toNat] := by
  rw [wrap_id (by omega) (by omega)]
  have := ext10 ⟨x.toNat, by omega⟩
  simp only at this
  rw [show (x + 1).toNat = x.toNat + 1 by omega]
  exact this
theorem f35_step (j : Nat) (n least i : Int) (s : List UInt8) (hn : 0 ≤ n ∧ n ≤ 2147483647) (hs : s.length ≤ 1000) (hi : 0 ≤ i ∧ i ≤ 1000) (hc : i < least ∨ n > 0) :
    f35_3 KK (j + 1) n least (mkB s) i = f35_3 KK j (n / 10) least (mkB (dg (n % 10).toNat :: s)) (i + 1) := by
  have hx : 0 ≤ n % 10 ∧ n % 10 < 10 := by omega
  rw [f35_3, show (decide (i < least) || decide (n > (0 : Int))) = true by simpa using hc, cond_true, tm hn.1]
  have e1 := ext10' hx.1 hx.2
  rw [if_pos, if_pos (by decide), e1, mkB_append, td hn.1, wrap_id (i := n / 10) (by omega) (by omega), wrap_id (i := i + 1) (by omega) (by omega)]
  · rfl
  · refine ⟨by decide, by decide, hx.1, ?_, ?_, ?_⟩
    · rw [wrap_id (by omega) (by omega)]; omega
    · rw [wrap_id (by omega) (by omega)]
      show n % 10 + 1 ≤ 10
      omega
    · have : (bs_H05f35_0.extract (n % 10).toNat (IntKind.i64.wrap (n % 10 + 1)).toNat) = mkB [dg (n % 10).toNat] := e1
      rw [this, mkB_size, mkB_size, max64]
      simp
      omega
theorem f35_stop (j : Nat) (n least i : Int) (s : ByteArray) (hc : ¬ i < least ∧ ¬ n > 0) : f35_3 KK (j + 1) n least s i = some s := by
  rw [f35_3, show (decide (i < least) || decide (n > (0 : Int))) = false by simpa using hc, cond_false]
theorem f35_loop : ∀ (e j : Nat) (n least i : Int) (s : List UInt8), 0 ≤ n → n < 10 ^ e → n ≤ 2147483647 → s.length + e ≤ 1000 → 0 ≤ i → i + e ≤ 1000 → least ≤ i → e < j →
    f35_3 KK j n least (mkB s) i = some (mkB ((if n > 0 then Lib.decDigits n.toNat else []) ++ s))
  | 0, j, n, least, i, s, h0, h1, h2, hs, hi, hi2, hl, hj => by
    obtain ⟨j, rfl⟩ := fuel1 hj
    have : n = 0 := by simp at h1; omega
    subst this
    rw [f35_stop _ _ _ _ _ ⟨by omega, by omega⟩]
    simp
  | e + 1, j, n, least, i, s, h0, h1, h2, hs, hi, hi2, hl, hj => by
    obtain ⟨j, rfl⟩ := fuel1 hj
    by_cases hn : n > 0
    · have h1' : n / 10 < 10 ^ e := by
        rw [Int.pow_succ] at h1
        omega
      rw [f35_step j n least i s ⟨h0, h2⟩ (by omega) (by omega) (.inr hn), f35_loop e j (n / 10) least (i + 1) _ (by omega) h1' (by omega) (by simp; omega) (by omega) (by omega) (by omega) (by omega), if_pos hn]
      by_cases hb : n < 10
      · rw [if_neg (by omega), dec_small (by omega), show (n % 10).toNat = n.toNat by omega]
        rfl
      · rw [if_pos (by omega), dec_big (n := n.toNat) (by omega), show (n / 10).toNat = n.toNat / 10 by omega, show (n % 10).toNat = n.toNat % 10 by omega, List.append_assoc]
        rfl
    · rw [f35_stop _ _ _ _ _ ⟨by omega, hn⟩, if_neg hn]
      rfl
theorem f35_one {n : Int} (h0 : 0 ≤ n) (h1 : n < 100000) : f35 KK n 1 = some (mkB (Lib.decDigits n.toNat)) := by
  unfold f35
  have e := f35_step 599 n 1 0 [] ⟨h0, by omega⟩ (by simp) (by omega) (.inl (by omega))
  refine Eq.trans e ?_
  rw [f35_loop 4 599 (n / 10) 1 (0 + 1) _ (by omega) (by omega) (by omega) (by simp) (by omega) (by omega) (by omega) (by omega)]
  by_cases hb : n < 10
  · rw [if_neg (by omega), dec_small (by omega), show (n % 10).toNat = n.toNat by omega]
    rfl
  · rw [if_pos (by omega), dec_big (n := n.toNat) (by omega), show (n / 10).toNat = n.toNat / 10 by omega, show (n % 10).toNat = n.toNat % 10 by omega]
theorem f35_two {n : Int} (h0 : 0 ≤ n) (h1 : n < 100) : f35 KK n 2 = some (mkB (two n.toNat)) := by
  unfold f35
  refine Eq.trans (f35_step 599 n 2 0 [] ⟨h0, by omega⟩ (by simp) (by omega) (.inl (by omega))) ?_
  refine Eq.trans (f35_step 598 (n / 10) 2 (0 + 1) _ ⟨by omega, by omega⟩ (by simp) (by omega) (.inl (by omega))) ?_
  refine Eq.trans (f35_stop 597 _ _ _ _ ⟨by omega, by omega⟩) ?_
  rw [show (n / 10 % 10).toNat = n.toNat / 10 by omega, show (n % 10).toNat = n.toNat % 10 by omega]
  rfl

theorem v35_one {n : Int} (h0 : 0 ≤ n) (h1 : n < 100000) : v35 KK n 1 = mkB (Lib.decDigits n.toNat) := by unfold v35; rw [f35_one h0 h1]; rfl
theorem v35_two {n : Int} (h0 : 0 ≤ n) (h1 : n < 100) : v35 KK n 2 = mkB (two n.toNat) := by unfold v35; rw [f35_two h0 h1]; rfl
theorem f24_s (t : Int) : f24 KK t = some (formS t) := by
  unfold f24 formS
  rw [f28_s, if_some, v28_s]
  by_cases hm : mom t = true
  · obtain ⟨h0, h1⟩ := (mom_iff t).1 hm
    have eD : IntKind.i64.wrap (t.tdiv 86400) = t / 86400 := by rw [td h0, wrap_id (by omega) (by omega)]
    have eH : IntKind.i64.wrap ((t.tmod 86400).tdiv 3600) = t % 86400 / 3600 := by rw [tm h0, td (by omega), wrap_id (by omega) (by omega)]
    have eM : (IntKind.i64.wrap ((t.tmod 86400).tdiv 60)).tmod 60 = t % 3600 / 60 := by rw [tm h0, td (by omega), wrap_id (by omega) (by omega), tm (by omega)]; omega
    have eS : (t.tmod 86400).tmod 60 = t % 60 := by rw [tm h0, tm (by omega)]; omega
    have hl := dec_len 4 (t / 86400).toNat (by omega)
    rw [hm, Bool.not_true, cond_false, if_pos (by decide), eD, eH, eM, eS]
    simp only [f35_one (n := t / 86400) (by omega) (by omega), f35_two (n := t % 86400 / 3600) (by omega) (by omega), f35_two (n := t % 3600 / 60) (by omega) (by omega), f35_two (n := t % 60) (by omega) (by omega),
      v35_one (n := t / 86400) (by omega) (by omega), v35_two (n := t % 86400 / 3600) (by omega) (by omega), v35_two (n := t % 3600 / 60) (by omega) (by omega), v35_two (n := t % 60) (by omega) (by omega),
      show (ByteArray.mk #[32]) = mkB [32] from rfl, show (ByteArray.mk #[58]) = mkB [58] from rfl, mkB_append, mkB_size, max64]
    refine (if_pos ?_).trans ?_
    · simp [two]
      omega
    · rw [if_pos trivial]
      congr 3
      simp [fmtL]
  · have : mom t = false := by simpa using hm
    rw [this]; rfl
theorem v23_s (t : Int) : v23 KK t = formS t := by unfold v23; rw [f23_s]; rfl
theorem v24_s (t : Int) : v24 KK t = formS t := by unfold v24; rw [f24_s]; rfl
end Go.AM
namespace Go.AM
open Go

/-! ### reading forms -/
theorem btl (b c : ByteArray) : (b.toList == c.toList) = decide (b = c) := by
  have h : b.toList = c.toList ↔ b = c := by
    rw [ByteArray.toList_eq, ByteArray.toList_eq]
    exact ⟨fun h => by rw [← mkB_list b, ← mkB_list c, h], fun h => by rw [h]⟩
  by_cases e : b = c
  · simp [e]
  · have : ¬ b.toList = c.toList := fun q => e (h.1 q)
    simp [e, this]

def Told (s : ByteArray) (r : Int × Int) : Prop := r = (0, 3) ∨ (r.2 = 0 ∧ mom r.1 = true ∧ mkB (fmtL r.1) = s)
def endP (x : Int) (s : ByteArray) : Int × Int := bif ((formS x).snd != (0 : Int) || !((formS x).fst.toList == s.toList)) then (0, 3) else (x, 0)
theorem endP_told (x : Int) (s : ByteArray) : Told s (endP x s) := by
  unfold endP formS
  by_cases h : mom x = true
  · rw [if_pos h, btl]
    by_cases e : mkB (fmtL x) = s
    · simp [e]
      exact .inr ⟨rfl, h, e⟩
    · simp [e]
      exact .inl rfl
  · rw [if_neg h]
    exact .inl rfl
theorem endP_form {x : Int} (h : mom x = true) : endP x (mkB (fmtL x)) = (x, 0) := by
  unfold endP formS
  rw [if_pos h, btl]
  simp

theorem f36_some (s : ByteArray) (h6 : s.size ≤ 6) : ∀ (d j i : Nat) (x : Int), i + d = s.size → d < j → (f36_5 KK j s x (s.size : Int) (i : Int)).isSome = true := by
  intro d
  induction d with
  | zero =>
    intro j i x h hj
    obtain ⟨j, rfl⟩ := fuel1 hj
    rw [f36_5, decide_eq_false (by omega), cond_false]; rfl
  | succ d ih =>
    intro j i x h hj
    obtain ⟨j, rfl⟩ := fuel1 hj
    have p1 : (0 : Int) ≤ (i : Int) := by omega
    have p2 : (i : Int) < (s.size : Int) := by omega
    rw [f36_5, decide_eq_true p2, cond_true, if_pos ⟨p1, p2, fun _ => p1, fun _ => p2⟩, if_pos ⟨p1, p2⟩, wrapS i (by omega)]
    cases (decide (bAt s (i : Int) < (48 : Int)) || decide (bAt s (i : Int) > (57 : Int)))
    · exact ih j (i + 1) _ (by omega) (by omega)
    · rfl
theorem f36_tot (s : ByteArray) : (f36 KK s).isSome = true := by
  unfold f36
  cases h : (s.toList == (ByteArray.mk #[]).toList || decide ((s.size : Int) > (6 : Int)))
  · rw [cond_false]
    have : s.size ≤ 6 := by simp at h; omega
    exact f36_some s this s.size KK 0 0 (by omega) (show s.size < 600 by omega)
  · rfl

/-- digits, read -/
def isDg (c : UInt8) : Bool := decide (48 ≤ c.toNat) && decide (c.toNat ≤ 57)
def numL : Int → List UInt8 → Int
  | a, [] => a
  | a, c :: l => numL (10 * a + ((c.toNat : Int) - 48)) l
theorem bAt_mk (l : List UInt8) (i : Nat) : bAt (mkB l) (i : Int) = ((l.getD i 0).toNat : Int) := by
  unfold bAt
  rw [mkB_toList, Int.toNat_natCast]
theorem dg_ok {c : UInt8} (h : isDg c = true) : (decide ((c.toNat : Int) < (48 : Int)) || decide ((c.toNat : Int) > (57 : Int))) = false := by
  simp [isDg] at h
  simp; omega
theorem dg_step {c : UInt8} (h : isDg c = true) {a : Int} (h0 : 0 ≤ a) (h1 : a ≤ 100000000000) :
    IntKind.i64.wrap (IntKind.i64.wrap (10 * a) + IntKind.i64.wrap (IntKind.u8.wrap ((c.toNat : Int) - 48))) = 10 * a + ((c.toNat : Int) - 48) := by
  simp [isDg] at h
  have hu : IntKind.u8.wrap ((c.toNat : Int) - 48) = (c.toNat : Int) - 48 := by
    simp [IntKind.wrap, IntKind.bits, IntKind.signed]
    omega
  rw [hu, wrap_id (i := 10 * a) (by omega) (by omega), wrap_id (i := (c.toNat : Int) - 48) (by omega) (by omega), wrap_id (by omega) (by omega)]
theorem f36_dig (l : List UInt8) (hd : l.all isDg = true) : ∀ (d j i B : Nat) (a : Int), i + d = l.length → d < j → 0 ≤ a → a < B → B * 10 ^ d ≤ 10000000000 → l.length ≤ 100 →
    f36_5 KK j (mkB l) a (l.length : Int) (i : Int) = some (numL a (l.drop i), true) := by
  intro d
  induction d with
  | zero =>
    intro j i B a h hj h0 h1 hB hl
    obtain ⟨j, rfl⟩ := fuel1 hj
    rw [f36_5, decide_eq_false (by omega), cond_false, drop_all l i (by omega)]; rfl
  | succ d ih =>
    intro j i B a h hj h0 h1 hB hl
    obtain ⟨j, rfl⟩ := fuel1 hj
    have hi : i < l.length := by omega
    have p1 : (0 : Int) ≤ (i : Int) := by omega
    have p2 : (i : Int) < ((mkB l).size : Int) := by rw [mkB_size]; omega
    have hb : B ≤ 10000000000 := Nat.le_trans (Nat.le_mul_of_pos_right B (Nat.pow_pos (by decide))) hB
    have hc : isDg (l.getD i 0) = true := by
      rw [List.getD_eq_getElem?_getD, List.getElem?_eq_getElem hi]
      exact List.all_eq_true.1 hd _ (List.getElem_mem hi)
    have hc2 : (l.getD i 0).toNat ≤ 57 := by simp [isDg] at hc; exact hc.2
    have hc3 : 48 ≤ (l.getD i 0).toNat := by simp [isDg] at hc; exact hc.1
    rw [f36_5, decide_eq_true (by omega), cond_true, if_pos ⟨p1, p2, fun _ => p1, fun _ => p2⟩, bAt_mk, dg_ok hc, cond_false, if_pos ⟨p1, p2⟩, dg_step hc h0 (by omega), wrapS i (by omega),
      ih j (i + 1) (10 * B) _ (by omega) (by omega) (by omega) (by omega) (by rw [Nat.pow_succ] at hB; rw [Nat.mul_comm 10 B, Nat.mul_assoc, Nat.mul_comm 10]; exact hB) hl, drop_cons' l i 0 hi, numL]
theorem f36_num (l : List UInt8) (hd : l.all isDg = true) (h1 : 1 ≤ l.length) (h6 : l.length ≤ 6) : f36 KK (mkB l) = some (numL 0 l, true) := by
  unfold f36
  have e : ((mkB l).toList == (ByteArray.mk #[]).toList || decide (((mkB l).size : Int) > (6 : Int))) = false := by
    rw [show (ByteArray.mk #[]) = mkB [] from rfl, btl, mkB_size]
    have : ¬ mkB l = mkB [] := fun h => by have := mkB_inj h; rw [this] at h1; simp at h1
    simp [this]; omega
  rw [e, cond_false, mkB_size]
  have := f36_dig l hd l.length KK 0 1 0 (by omega) (show l.length < 600 by omega) (by omega) (by omega) (by
    have : 10 ^ l.length ≤ 10 ^ 6 := Nat.pow_le_pow_right (by decide) h6
    omega) (by omega)
  simpa using this
theorem numL_app (a : Int) (l m : List UInt8) : numL a (l ++ m) = numL (numL a l) m := by
  induction l generalizing a with
  | nil => rfl
  | cons c l ih => exact ih _
theorem dg_nat {x : Nat} (h : x < 10) : (dg x).toNat = 48 + x := by
  unfold dg
  simp
  omega
theorem dg_isDg {x : Nat} (h : x < 10) : isDg (dg x) = true := by simp [isDg, dg_nat h]; omega
theorem dec_all : ∀ (n : Nat), (Lib.decDigits n).all isDg = true := by
  intro n
  induction n using Nat.strongRecOn with
  | ind n ih =>
    by_cases h : n < 10
    · rw [dec_small h]; simp [dg_isDg h]
    · rw [dec_big h]
      simp [ih (n / 10) (by omega), dg_isDg (show n % 10 < 10 by omega)]
theorem dec_num : ∀ (n : Nat), numL 0 (Lib.decDigits n) = n := by
  intro n
  induction n using Nat.strongRecOn with
  | ind n ih =>
    by_cases h : n < 10
    · rw [dec_small h]; simp [numL, dg_nat h]; omega
    · rw [dec_big h, numL_app, ih (n / 10) (by omega)]
      simp [numL, dg_nat (show n % 10 < 10 by omega)]
      omega
theorem two_all {x : Nat} (h : x < 100) : (two x).all isDg = true := by
  simp [two, dg_isDg (show x / 10 < 10 by omega), dg_isDg (show x % 10 < 10 by omega)]
theorem two_num {x : Nat} (h : x < 100) : numL 0 (two x) = x := by
  simp [two, numL, dg_nat (show x / 10 < 10 by omega), dg_nat (show x % 10 < 10 by omega)]
  omega

theorem mkB_extract (l : List UInt8) (i j : Nat) : (mkB l).extract i j = mkB ((l.drop i).take (j - i)) := by
  apply ByteArray.ext
  simp [mkB]
end Go.AM
namespace Go.AM
open Go

theorem end_some (x : Int) (s : ByteArray) : (bif ((formS x).snd != (0 : Int) || !((formS x).fst.toList == s.toList)) then some ((0 : Int), (3 : Int)) else some (x, 0)) = some (endP x s) := by
  unfold endP
  cases ((formS x).snd != (0 : Int) || !((formS x).fst.toList == s.toList)) <;> rfl

theorem f25_told (s p1 p2 p3 p4 : ByteArray) (w : t54.T) (j : Nat) (x : Int) : ∃ r, f25_10008 KK (j + 5) s x p1 p2 p3 p4 w = some r ∧ Told s r := by
  rw [f25_10008, if_pos (by decide), if_pos (f36_tot _)]
  cases (v36 KK p1).snd
  · exact ⟨_, rfl, .inl rfl⟩
  rw [Bool.not_true, cond_false, if_pos (by decide), f25_20008, if_pos (by decide), if_pos (f36_tot _)]
  cases (v36 KK p2).snd
  · exact ⟨_, rfl, .inl rfl⟩
  rw [Bool.not_true, cond_false, if_pos (by decide), f25_30008, if_pos (by decide), if_pos (f36_tot _)]
  cases (v36 KK p3).snd
  · exact ⟨_, rfl, .inl rfl⟩
  rw [Bool.not_true, cond_false, if_pos (by decide), f25_40008, if_pos (by decide), if_pos (f36_tot _)]
  cases (v36 KK p4).snd
  · exact ⟨_, rfl, .inl rfl⟩
  rw [Bool.not_true, cond_false, if_pos (by decide), f25_50008, f23_s, if_some, v23_s]
  exact ⟨_, end_some _ _, endP_told _ _⟩

theorem f25_eq (s : ByteArray) (h : 9 < s.size) (h2 : s.size ≤ 1000) : f25 KK s = f25_10008 KK KK s 0 (s.extract 0 (s.size - 9)) (s.extract (s.size - 8) (s.size - 6)) (s.extract (s.size - 5) (s.size - 3)) (s.extract (s.size - 2) s.size) (86400, (3600, (60, 1))) := by
  unfold f25
  rw [decide_eq_false (by omega), cond_false]
  have w0 : IntKind.i64.wrap ((s.size : Int) - 9) = (s.size : Int) - 9 := wrap_id (by omega) (by omega)
  have w1 : ∀ c : Int, 0 ≤ c → c ≤ 9 → IntKind.i64.wrap ((s.size : Int) - 9 + c) = (s.size : Int) - 9 + c := fun c h0 h1 => wrap_id (by omega) (by omega)
  rw [w0, w1 1 (by decide) (by decide), w1 3 (by decide) (by decide), w1 4 (by decide) (by decide), w1 6 (by decide) (by decide), w1 7 (by decide) (by decide), w1 9 (by decide) (by decide)]
  rw [if_pos ⟨by omega, by omega, by omega, by omega, by omega, by omega, by omega, by omega, by omega, by omega, by omega, by omega⟩]
  rw [show ((s.size : Int) - 9).toNat = s.size - 9 by omega, show ((s.size : Int) - 9 + 1).toNat = s.size - 8 by omega, show ((s.size : Int) - 9 + 3).toNat = s.size - 6 by omega, show ((s.size : Int) - 9 + 4).toNat = s.size - 5 by omega,
    show ((s.size : Int) - 9 + 6).toNat = s.size - 3 by omega, show ((s.size : Int) - 9 + 7).toNat = s.size - 2 by omega, show ((s.size : Int) - 9 + 9).toNat = s.size by omega]
  rfl
theorem f25_tot (s : ByteArray) (h2 : s.size ≤ 1000) : ∃ r, f25 KK s = some r ∧ Told s r := by
  by_cases h : 9 < s.size
  · rw [f25_eq s h h2]
    exact f25_told s _ _ _ _ _ 595 0
  · unfold f25
    rw [decide_eq_true (by omega), cond_true]
    exact ⟨_, rfl, .inl rfl⟩

theorem fmtL_eq (t : Int) : fmtL t = Lib.decDigits (t / 86400).toNat ++ [32, dg ((t % 86400 / 3600).toNat / 10), dg ((t % 86400 / 3600).toNat % 10), 58, dg ((t % 3600 / 60).toNat / 10), dg ((t % 3600 / 60).toNat % 10), 58, dg ((t % 60).toNat / 10), dg ((t % 60).toNat % 10)] := by
  simp [fmtL, two]
theorem v36_num (l : List UInt8) (hd : l.all isDg = true) (h1 : 1 ≤ l.length) (h6 : l.length ≤ 6) : v36 KK (mkB l) = (numL 0 l, true) := by unfold v36; rw [f36_num l hd h1 h6]; rfl

theorem f25_form {t : Int} (hm : mom t = true) : f25 KK (mkB (fmtL t)) = some (t, 0) := by
  obtain ⟨h0, h1⟩ := (mom_iff t).1 hm
  have hl := dec_len 4 (t / 86400).toNat (by omega)
  have hsz : (mkB (fmtL t)).size = (Lib.decDigits (t / 86400).toNat).length + 9 := by rw [mkB_size, fmtL_eq]; simp
  rw [f25_eq _ (by omega) (by omega), hsz]
  have E : ∀ (i j : Nat) (l : List UInt8), ((fmtL t).drop i).take (j - i) = l → (mkB (fmtL t)).extract i j = mkB l := fun i j l h => by rw [mkB_extract, h]
  have dr : ∀ i : Nat, (fmtL t).drop ((Lib.decDigits (t / 86400).toNat).length + i) = [32, dg ((t % 86400 / 3600).toNat / 10), dg ((t % 86400 / 3600).toNat % 10), 58, dg ((t % 3600 / 60).toNat / 10), dg ((t % 3600 / 60).toNat % 10), 58, dg ((t % 60).toNat / 10), dg ((t % 60).toNat % 10)].drop i := fun i => by
    rw [fmtL_eq, ← List.drop_drop, List.drop_left]
  generalize hL : (Lib.decDigits (t / 86400).toNat).length = L at *
  rw [E 0 (L + 9 - 9) (Lib.decDigits (t / 86400).toNat) (by rw [fmtL_eq, List.drop_zero, show L + 9 - 9 - 0 = L by omega, ← hL, List.take_left']; rfl),
    E (L + 9 - 8) (L + 9 - 6) (two (t % 86400 / 3600).toNat) (by rw [show L + 9 - 8 = L + 1 by omega, dr, show L + 9 - 6 - (L + 1) = 2 by omega]; rfl),
    E (L + 9 - 5) (L + 9 - 3) (two (t % 3600 / 60).toNat) (by rw [show L + 9 - 5 = L + 4 by omega, dr, show L + 9 - 3 - (L + 4) = 2 by omega]; rfl),
    E (L + 9 - 2) (L + 9) (two (t % 60).toNat) (by rw [show L + 9 - 2 = L + 7 by omega, dr, show L + 9 - (L + 7) = 2 by omega]; rfl)]
  have n1 := v36_num _ (dec_all (t / 86400).toNat) (by omega) (by omega)
  have n2 := v36_num (two (t % 86400 / 3600).toNat) (two_all (by omega)) (by simp [two]) (by simp [two])
  have n3 := v36_num (two (t % 3600 / 60).toNat) (two_all (by omega)) (by simp [two]) (by simp [two])
  have n4 := v36_num (two (t % 60).toNat) (two_all (by omega)) (by simp [two]) (by simp [two])
  rw [dec_num] at n1
  rw [two_num (by omega)] at n2 n3 n4
  refine Eq.trans (show _ = f25_10008 KK (595 + 5) _ _ _ _ _ _ _ from rfl) ?_
  rw [f25_10008, if_pos (by decide), if_pos (f36_tot _), n1, Bool.not_true, cond_false, if_pos (by decide), f25_20008, if_pos (by decide), if_pos (f36_tot _), n2, Bool.not_true, cond_false, if_pos (by decide),
    f25_30008, if_pos (by decide), if_pos (f36_tot _), n3, Bool.not_true, cond_false, if_pos (by decide), f25_40008, if_pos (by decide), if_pos (f36_tot _), n4, Bool.not_true, cond_false, if_pos (by decide), f25_50008, f23_s, if_some, v23_s, end_some]
  simp only
  rw [wrap_id (i := ((t / 86400).toNat : Int) * 86400) (by omega) (by omega), wrap_id (i := ((t % 86400 / 3600).toNat : Int) * 3600) (by omega) (by omega), wrap_id (i := ((t % 3600 / 60).toNat : Int) * 60) (by omega) (by omega), wrap_id (i := ((t % 60).toNat : Int) * 1) (by omega) (by omega)]
  rw [wrap_id (i := 0 + ((t / 86400).toNat : Int) * 86400) (by omega) (by omega), wrap_id (i := 0 + ((t / 86400).toNat : Int) * 86400 + ((t % 86400 / 3600).toNat : Int) * 3600) (by omega) (by omega),
    wrap_id (i := 0 + ((t / 86400).toNat : Int) * 86400 + ((t % 86400 / 3600).toNat : Int) * 3600 + ((t % 3600 / 60).toNat : Int) * 60) (by omega) (by omega),
    wrap_id (i := 0 + ((t / 86400).toNat : Int) * 86400 + ((t % 86400 / 3600).toNat : Int) * 3600 + ((t % 3600 / 60).toNat : Int) * 60 + ((t % 60).toNat : Int) * 1) (by omega) (by omega)]
  rw [show 0 + ((t / 86400).toNat : Int) * 86400 + ((t % 86400 / 3600).toNat : Int) * 3600 + ((t % 3600 / 60).toNat : Int) * 60 + ((t % 60).toNat : Int) * 1 = t by omega, endP_form hm]
end Go.AM
namespace Go.AM
open Go

/-! ### the reference's Parse -/
theorem f26_fin (s : ByteArray) (j : Nat) (k : Int) (i : Nat) (x : List Int) (hi : s.size ≤ i) (hx : x.length = 4) : f26_6 KK (j + 1) s k (i : Int) x = some (bif (decide (x.getD 0 0 > (24855 : Int)) || decide (x.getD 1 0 > (23 : Int)) || decide (x.getD 2 0 > (59 : Int)) || decide (x.getD 3 0 > (59 : Int))) then (0, 3) else
    endP (IntKind.i64.wrap (IntKind.i64.wrap (IntKind.i64.wrap (IntKind.i64.wrap (x.getD 0 0 * 86400) + IntKind.i64.wrap (x.getD 1 0 * 3600)) + IntKind.i64.wrap (x.getD 2 0 * 60)) + x.getD 3 0)) s) := by
  rw [f26_6, decide_eq_false (by omega), cond_false, if_pos (by simp [hx])]
  have e : ∀ n : Nat, x.getD (Int.toNat (n : Int)) I.dflt = x.getD n 0 := fun n => by rw [Int.toNat_natCast]; rfl
  have e0 : x.getD (Int.toNat 0) I.dflt = x.getD 0 0 := e 0
  have e1 : x.getD (Int.toNat 1) I.dflt = x.getD 1 0 := e 1
  have e2 : x.getD (Int.toNat 2) I.dflt = x.getD 2 0 := e 2
  have e3 : x.getD (Int.toNat 3) I.dflt = x.getD 3 0 := e 3
  rw [e0, e1, e2, e3]
  cases (decide (x.getD 0 0 > (24855 : Int)) || decide (x.getD 1 0 > (23 : Int)) || decide (x.getD 2 0 > (59 : Int)) || decide (x.getD 3 0 > (59 : Int)))
  · rw [cond_false, cond_false, if_pos (by simp [hx]), f24_s, if_some, v24_s, end_some]
  · rfl

theorem f26_told (s : ByteArray) (h2 : s.size ≤ 1000) : ∀ (d j i k : Nat) (x : List Int), i + d = s.size → d < j → k ≤ 3 → x.length = 4 → ∃ r, f26_6 KK j s (k : Int) (i : Int) x = some r ∧ Told s r := by
  intro d
  induction d with
  | zero =>
    intro j i k x h hj hk hx
    obtain ⟨j, rfl⟩ := fuel1 hj
    rw [f26_fin s j _ i x (by omega) hx]
    cases (decide (x.getD 0 0 > (24855 : Int)) || decide (x.getD 1 0 > (23 : Int)) || decide (x.getD 2 0 > (59 : Int)) || decide (x.getD 3 0 > (59 : Int)))
    · exact ⟨_, rfl, endP_told _ _⟩
    · exact ⟨_, rfl, .inl rfl⟩
  | succ d ih =>
    intro j i k x h hj hk hx
    obtain ⟨j, rfl⟩ := fuel1 hj
    have p1 : (0 : Int) ≤ (i : Int) := by omega
    have p2 : (i : Int) < (s.size : Int) := by omega
    have q1 : (0 : Int) ≤ (k : Int) := by omega
    have q2 : (k : Int) < (x.length : Int) := by omega
    rw [f26_6, decide_eq_true p2, cond_true, if_pos ⟨p1, p2, fun _ => p1, fun _ => p2⟩]
    cases (bAt s (i : Int) == (32 : Int) || bAt s (i : Int) == (58 : Int))
    · rw [cond_false, if_pos ⟨p1, p2, fun _ => p1, fun _ => p2, fun _ => q1, fun _ => q2⟩]
      cases (decide (bAt s (i : Int) < (48 : Int)) || decide (bAt s (i : Int) > (57 : Int)) || decide (x.getD (k : Int).toNat I.dflt > (2147483647 : Int)))
      · rw [cond_false, if_pos ⟨q1, q2, p1, p2, q1, q2⟩, wrapS i (by omega)]
        exact ih j (i + 1) k _ (by omega) (by omega) hk (by simp [hx])
      · exact ⟨_, rfl, .inl rfl⟩
    · rw [cond_true, wrapS k (by omega), wrapS i (by omega)]
      by_cases hk3 : k + 1 ≤ 3
      · rw [decide_eq_false (by omega), cond_false]
        exact ih j (i + 1) (k + 1) x (by omega) (by omega) hk3 hx
      · rw [decide_eq_true (by omega), cond_true]
        exact ⟨_, rfl, .inl rfl⟩
theorem f26_tot (s : ByteArray) (h2 : s.size ≤ 500) : ∃ r, f26 KK s = some r ∧ Told s r := by
  unfold f26
  by_cases h : s.size > 20
  · rw [decide_eq_true (by omega), cond_true]
    exact ⟨_, rfl, .inl rfl⟩
  · rw [decide_eq_false (by omega), cond_false]
    exact f26_told s (by omega) s.size KK 0 0 _ (by omega) (show s.size < 600 by omega) (by omega) rfl

theorem f26_sep (l : List UInt8) (j i k : Nat) (x : List Int) (hi : i < l.length) (hl : l.length ≤ 1000) (hk : k + 1 ≤ 3) (hc : (l.getD i 0).toNat = 32 ∨ (l.getD i 0).toNat = 58) :
    f26_6 KK (j + 1) (mkB l) (k : Int) (i : Int) x = f26_6 KK j (mkB l) ((k + 1 : Nat) : Int) ((i + 1 : Nat) : Int) x := by
  have p1 : (0 : Int) ≤ (i : Int) := by omega
  have p2 : (i : Int) < ((mkB l).size : Int) := by rw [mkB_size]; omega
  rw [f26_6, decide_eq_true p2, cond_true, if_pos ⟨p1, p2, fun _ => p1, fun _ => p2⟩, bAt_mk, wrapS k (by omega), wrapS i (by omega)]
  have gen : ∀ n : Nat, n = 32 ∨ n = 58 → ((n : Int) == (32 : Int) || (n : Int) == (58 : Int)) = true := fun n h => by rcases h with rfl | rfl <;> rfl
  have := gen _ hc
  rw [this, cond_true, decide_eq_false (by omega), cond_false]
theorem f26_dig (l : List UInt8) (j i k : Nat) (x : List Int) (hi : i < l.length) (hl : l.length ≤ 1000) (hk : k ≤ 3) (hx : x.length = 4) (hc : isDg (l.getD i 0) = true) (h0 : 0 ≤ x.getD k 0) (h1 : x.getD k 0 ≤ 100000000) :
    f26_6 KK (j + 1) (mkB l) (k : Int) (i : Int) x = f26_6 KK j (mkB l) (k : Int) ((i + 1 : Nat) : Int) (x.set k (10 * x.getD k 0 + (((l.getD i 0).toNat : Int) - 48))) := by
  have p1 : (0 : Int) ≤ (i : Int) := by omega
  have p2 : (i : Int) < ((mkB l).size : Int) := by rw [mkB_size]; omega
  have q1 : (0 : Int) ≤ (k : Int) := by omega
  have q2 : (k : Int) < (x.length : Int) := by omega
  have ek : x.getD (k : Int).toNat I.dflt = x.getD k 0 := by rw [Int.toNat_natCast]; rfl
  have hc' := hc
  simp [isDg] at hc'
  have gen : ∀ n : Nat, 48 ≤ n ∧ n ≤ 57 → ((n : Int) == (32 : Int) || (n : Int) == (58 : Int)) = false := fun n h => by
    simp
    omega
  have hcn : 48 ≤ (l.getD i 0).toNat ∧ (l.getD i 0).toNat ≤ 57 := by simpa [isDg] using hc
  have hs := gen _ hcn
  have hle : ¬ (x.getD k 0 > (2147483647 : Int)) := by omega
  rw [f26_6, decide_eq_true p2, cond_true, if_pos ⟨p1, p2, fun _ => p1, fun _ => p2⟩, bAt_mk, hs, cond_false, if_pos ⟨p1, p2, fun _ => p1, fun _ => p2, fun _ => q1, fun _ => q2⟩, dg_ok hc, ek, decide_eq_false hle, Bool.or_false, cond_false, if_pos ⟨q1, q2, p1, p2, q1, q2⟩, wrapS i (by omega), dg_step hc h0 (by omega), Int.toNat_natCast]
theorem f26_seg (l : List UInt8) (hl : l.length ≤ 1000) (k : Nat) (hk : k ≤ 3) : ∀ (m : List UInt8) (j i B : Nat) (x : List Int), m.all isDg = true → (l.drop i).take m.length = m → x.length = 4 → 0 ≤ x.getD k 0 → x.getD k 0 < B → B * 10 ^ m.length ≤ 100000000 →
    f26_6 KK (m.length + j) (mkB l) (k : Int) (i : Int) x = f26_6 KK j (mkB l) (k : Int) ((i + m.length : Nat) : Int) (x.set k (numL (x.getD k 0) m))
  | [], j, i, B, x, _, _, hx, _, _, _ => by
    have : x.set k (numL (x.getD k 0) []) = x := by
      simp only [numL]
      apply List.ext_getElem (by simp)
      intro n h1 h2
      rw [List.getElem_set]
      split
      · rename_i h; subst h
        rw [List.getD_eq_getElem?_getD, List.getElem?_eq_getElem h2]; rfl
      · rfl
    rw [this]; simp
  | c :: m, j, i, B, x, hd, hm, hx, h0, h1, hB => by
    have hi : i < l.length := by
      by_cases hi : i < l.length
      · exact hi
      · rw [drop_all l i (by omega)] at hm; simp at hm
    rw [drop_cons' l i 0 hi, List.length_cons, List.take_succ_cons] at hm
    have hc : l.getD i 0 = c := (List.cons.inj hm).1
    have hm2 := (List.cons.inj hm).2
    simp only [List.all_cons, Bool.and_eq_true] at hd
    have hb : B ≤ 100000000 := Nat.le_trans (Nat.le_mul_of_pos_right B (Nat.pow_pos (by decide))) hB
    have hcc := hd.1
    simp [isDg] at hcc
    have ge : (x.set k (10 * x.getD k 0 + ((c.toNat : Int) - 48))).getD k 0 = 10 * x.getD k 0 + ((c.toNat : Int) - 48) := by
      rw [List.getD_eq_getElem?_getD, List.getElem?_set_self (by omega)]; rfl
    rw [List.length_cons, show m.length + 1 + j = (m.length + j) + 1 by omega, f26_dig l (m.length + j) i k x hi hl hk hx (by rw [hc]; exact hd.1) h0 (by omega), hc,
      f26_seg l hl k hk m j (i + 1) (10 * B) _ hd.2 hm2 (by simp [hx]) (by rw [ge]; omega) (by rw [ge]; omega) (by rw [List.length_cons, Nat.pow_succ] at hB; rw [Nat.mul_comm 10 B, Nat.mul_assoc, Nat.mul_comm 10]; exact hB), ge, List.set_set, numL, show i + 1 + m.length = i + (m.length + 1) by omega]

theorem f26_form {t : Int} (hm : mom t = true) : f26 KK (mkB (fmtL t)) = some (t, 0) := by
  obtain ⟨h0, h1⟩ := (mom_iff t).1 hm
  have hl := dec_len 4 (t / 86400).toNat (by omega)
  have hlen : (fmtL t).length = (Lib.decDigits (t / 86400).toNat).length + 9 := by rw [fmtL_eq]; simp
  have dr : ∀ i : Nat, (fmtL t).drop ((Lib.decDigits (t / 86400).toNat).length + i) = [32, dg ((t % 86400 / 3600).toNat / 10), dg ((t % 86400 / 3600).toNat % 10), 58, dg ((t % 3600 / 60).toNat / 10), dg ((t % 3600 / 60).toNat % 10), 58, dg ((t % 60).toNat / 10), dg ((t % 60).toNat % 10)].drop i := fun i => by
    rw [fmtL_eq, ← List.drop_drop, List.drop_left]
  have gt : ∀ i : Nat, i < 9 → (fmtL t).getD ((Lib.decDigits (t / 86400).toNat).length + i) 0 = [32, dg ((t % 86400 / 3600).toNat / 10), dg ((t % 86400 / 3600).toNat % 10), 58, dg ((t % 3600 / 60).toNat / 10), dg ((t % 3600 / 60).toNat % 10), 58, dg ((t % 60).toNat / 10), dg ((t % 60).toNat % 10)].getD i 0 := fun i hi => by
    rw [fmtL_eq, List.getD_eq_getElem?_getD, List.getElem?_append_right (by omega), List.getD_eq_getElem?_getD, Nat.add_sub_cancel_left]
  have s0 : ((fmtL t).drop 0).take (Lib.decDigits (t / 86400).toNat).length = Lib.decDigits (t / 86400).toNat := by rw [fmtL_eq, List.drop_zero, List.take_left']; rfl
  unfold f26
  rw [decide_eq_false (by rw [mkB_size, hlen]; omega), cond_false]
  have a1 := f26_seg (fmtL t) (by omega) 0 (by decide) (Lib.decDigits (t / 86400).toNat) (600 - (Lib.decDigits (t / 86400).toNat).length) 0 1 [0, 0, 0, 0] (dec_all _) s0 rfl (by decide) (by decide) (by
    have : 10 ^ (Lib.decDigits (t / 86400).toNat).length ≤ 10 ^ 6 := Nat.pow_le_pow_right (by decide) (by omega)
    omega)
  generalize hL : (Lib.decDigits (t / 86400).toNat).length = L at *
  rw [show L + (600 - L) = 600 by omega, Nat.zero_add] at a1
  have z0 : ([0, 0, 0, 0] : List Int).getD 0 0 = 0 := rfl
  rw [z0, dec_num] at a1
  refine a1.trans ?_
  obtain ⟨J, hJ⟩ : ∃ J, 600 - L = ((((((J + 1) + 2) + 1) + 2) + 1) + 2) + 1 := ⟨600 - L - 10, by omega⟩
  rw [hJ]
  have b1 := f26_sep (fmtL t) (((((J + 1 + 2) + 1) + 2) + 1) + 2) L 0 [((t / 86400).toNat : Int), 0, 0, 0] (by omega) (by omega) (by omega) (.inl (by have := gt 0 (by decide); rw [Nat.add_zero] at this; rw [this]; rfl))
  refine b1.trans ?_
  have t1 := f26_seg (fmtL t) (by omega) 1 (by decide) (two (t % 86400 / 3600).toNat) ((((J + 1 + 2) + 1) + 2) + 1) (L + 1) 1 [((t / 86400).toNat : Int), 0, 0, 0] (two_all (by omega)) (by rw [dr]; rfl) rfl (show (0 : Int) ≤ 0 by decide) (show (0 : Int) < 1 by decide) (show 1 * 10 ^ 2 ≤ 100000000 by decide)
  rw [show ((((J + 1 + 2) + 1) + 2) + 1) + 2 = (two (t % 86400 / 3600).toNat).length + ((((J + 1 + 2) + 1) + 2) + 1) by simp [two]; omega]
  refine t1.trans ?_
  have z1 : ([((t / 86400).toNat : Int), 0, 0, 0] : List Int).getD 1 0 = 0 := rfl
  rw [z1, two_num (by omega), show L + 1 + (two (t % 86400 / 3600).toNat).length = L + 3 from rfl]
  have b2 := f26_sep (fmtL t) (((J + 1 + 2) + 1) + 2) (L + 3) 1 [((t / 86400).toNat : Int), ((t % 86400 / 3600).toNat : Int), 0, 0] (by omega) (by omega) (by omega) (.inr (by rw [gt 3 (by decide)]; rfl))
  refine b2.trans ?_
  have t2 := f26_seg (fmtL t) (by omega) 2 (by decide) (two (t % 3600 / 60).toNat) ((J + 1 + 2) + 1) (L + 4) 1 [((t / 86400).toNat : Int), ((t % 86400 / 3600).toNat : Int), 0, 0] (two_all (by omega)) (by rw [dr]; rfl) rfl (show (0 : Int) ≤ 0 by decide) (show (0 : Int) < 1 by decide) (show 1 * 10 ^ 2 ≤ 100000000 by decide)
  rw [show ((J + 1 + 2) + 1) + 2 = (two (t % 3600 / 60).toNat).length + ((J + 1 + 2) + 1) by simp [two]; omega]
  refine t2.trans ?_
  have z2 : ([((t / 86400).toNat : Int), ((t % 86400 / 3600).toNat : Int), 0, 0] : List Int).getD 2 0 = 0 := rfl
  rw [z2, two_num (by omega), show L + 4 + (two (t % 3600 / 60).toNat).length = L + 6 from rfl]
  have b3 := f26_sep (fmtL t) (J + 1 + 2) (L + 6) 2 [((t / 86400).toNat : Int), ((t % 86400 / 3600).toNat : Int), ((t % 3600 / 60).toNat : Int), 0] (by omega) (by omega) (by omega) (.inr (by rw [gt 6 (by decide)]; rfl))
  refine b3.trans ?_
  have t3 := f26_seg (fmtL t) (by omega) 3 (by decide) (two (t % 60).toNat) (J + 1) (L + 7) 1 [((t / 86400).toNat : Int), ((t % 86400 / 3600).toNat : Int), ((t % 3600 / 60).toNat : Int), 0] (two_all (by omega)) (by rw [dr]; rfl) rfl (show (0 : Int) ≤ 0 by decide) (show (0 : Int) < 1 by decide) (show 1 * 10 ^ 2 ≤ 100000000 by decide)
  rw [show J + 1 + 2 = (two (t % 60).toNat).length + (J + 1) by simp [two]; omega]
  refine t3.trans ?_
  have z3 : ([((t / 86400).toNat : Int), ((t % 86400 / 3600).toNat : Int), ((t % 3600 / 60).toNat : Int), 0] : List Int).getD 3 0 = 0 := rfl
  rw [z3, two_num (by omega), show L + 7 + (two (t % 60).toNat).length = L + 9 from rfl]
  refine (f26_fin (mkB (fmtL t)) J _ (L + 9) [((t / 86400).toNat : Int), ((t % 86400 / 3600).toNat : Int), ((t % 3600 / 60).toNat : Int), ((t % 60).toNat : Int)] (by rw [mkB_size]; omega) rfl).trans ?_
  have g0 : ([((t / 86400).toNat : Int), ((t % 86400 / 3600).toNat : Int), ((t % 3600 / 60).toNat : Int), ((t % 60).toNat : Int)] : List Int).getD 0 0 = ((t / 86400).toNat : Int) := rfl
  have g1 : ([((t / 86400).toNat : Int), ((t % 86400 / 3600).toNat : Int), ((t % 3600 / 60).toNat : Int), ((t % 60).toNat : Int)] : List Int).getD 1 0 = ((t % 86400 / 3600).toNat : Int) := rfl
  have g2 : ([((t / 86400).toNat : Int), ((t % 86400 / 3600).toNat : Int), ((t % 3600 / 60).toNat : Int), ((t % 60).toNat : Int)] : List Int).getD 2 0 = ((t % 3600 / 60).toNat : Int) := rfl
  have g3 : ([((t / 86400).toNat : Int), ((t % 86400 / 3600).toNat : Int), ((t % 3600 / 60).toNat : Int), ((t % 60).toNat : Int)] : List Int).getD 3 0 = ((t % 60).toNat : Int) := rfl
  rw [g0, g1, g2, g3]
  have cnd : (decide (((t / 86400).toNat : Int) > (24855 : Int)) || decide (((t % 86400 / 3600).toNat : Int) > (23 : Int)) || decide (((t % 3600 / 60).toNat : Int) > (59 : Int)) || decide (((t % 60).toNat : Int) > (59 : Int))) = false := by
    simp; omega
  rw [cnd, cond_false, wrap_id (i := ((t / 86400).toNat : Int) * 86400) (by omega) (by omega), wrap_id (i := ((t % 86400 / 3600).toNat : Int) * 3600) (by omega) (by omega), wrap_id (i := ((t % 3600 / 60).toNat : Int) * 60) (by omega) (by omega)]
  rw [wrap_id (i := ((t / 86400).toNat : Int) * 86400 + ((t % 86400 / 3600).toNat : Int) * 3600) (by omega) (by omega),
    wrap_id (i := ((t / 86400).toNat : Int) * 86400 + ((t % 86400 / 3600).toNat : Int) * 3600 + ((t % 3600 / 60).toNat : Int) * 60) (by omega) (by omega),
    wrap_id (i := ((t / 86400).toNat : Int) * 86400 + ((t % 86400 / 3600).toNat : Int) * 3600 + ((t % 3600 / 60).toNat : Int) * 60 + ((t % 60).toNat : Int)) (by omega) (by omega)]
  rw [show ((t / 86400).toNat : Int) * 86400 + ((t % 86400 / 3600).toNat : Int) * 3600 + ((t % 3600 / 60).toNat : Int) * 60 + ((t % 60).toNat : Int) = t by omega, endP_form hm]

theorem parse_same (s : ByteArray) (h : s.size ≤ 500) : f25 KK s = f26 KK s := by
  obtain ⟨r, e1, h1⟩ := f25_tot s (by omega)
  obtain ⟨q, e2, h2⟩ := f26_tot s h
  rcases h1 with rfl | ⟨a1, a2, a3⟩
  · rcases h2 with rfl | ⟨b1, b2, b3⟩
    · rw [e1, e2]
    · rw [← b3, f25_form b2] at e1
      have := Option.some.inj e1
      have h3 := congrArg Prod.snd this
      simp at h3
  · rw [e1]
    rw [← a3, f26_form a2]
    rw [show r = (r.1, 0) from Prod.ext rfl a1]

theorem f9_j (t : Int) (s : ByteArray) : f9 KK t s = some true := by
  unfold f9
  by_cases h : s.size > 100
  · rw [decide_eq_true (by omega), cond_true, awake05, if_some, vawake05]
  · rw [decide_eq_false (by omega), cond_false]
    obtain ⟨r, e1, _⟩ := f25_tot s (by omega)
    have e2 := (parse_same s (by omega)).symm.trans e1
    have v1 : v25 KK s = r := by unfold v25; rw [e1]; rfl
    have v2 : v26 KK s = r := by unfold v26; rw [e2]; rfl
    simp only [f23_s, f24_s, e1, e2, v23_s, v24_s, v1, v2, awake05, vawake05, Option.isSome_some]
    simp
end Go.AM
namespace Go.AM
open Go

/-! ### the round trip -/
def shiftS (t : Int) : Int × Int × Int := if mom t = true then (t / 86400, t % 86400 / 28800, 0) else (0, 0, 1)
theorem f11_s (t : Int) : f11 KK t = some (shiftS t) := by
  unfold f11
  rw [f27_s, if_some, v27_s]
  unfold shiftS
  by_cases h : mom t = true
  · obtain ⟨h0, h1⟩ := (mom_iff t).1 h
    rw [h, Bool.not_true, cond_false, if_pos ⟨by decide, by decide, by decide⟩, if_pos (show true = true from rfl), td h0, tm h0, td (by omega), wrap_id (by omega) (by omega), wrap_id (by omega) (by omega)]
  · have : mom t = false := by simpa using h
    rw [this]; rfl
def wthn (a b : Int) : Bool := decide (a ≥ 0) && decide (a ≤ b) && decide (b ≤ 2147483648)
theorem f29_s (a b : Int) : f29 KK (a, b) = some (wthn a b) := rfl
theorem v29_s (a b : Int) : v29 KK (a, b) = wthn a b := rfl
def partE (x b : Int) : Int := if (x / 28800 + 1) * 28800 < b then (x / 28800 + 1) * 28800 else b
def pS : Nat → Int → Int → List (Int × Int)
  | 0, _, _ => []
  | n + 1, x, b => if x < b then (x, partE x b) :: pS n (partE x b) b else []
theorem partE_w {x b : Int} (h0 : 0 ≤ x) (h1 : x < b) (h2 : b ≤ 2147483648) : (if IntKind.i64.wrap (IntKind.i64.wrap (IntKind.i64.wrap (x.tdiv (28800 : Int)) + (1 : Int)) * (28800 : Int)) < b then IntKind.i64.wrap (IntKind.i64.wrap (IntKind.i64.wrap (x.tdiv (28800 : Int)) + (1 : Int)) * (28800 : Int)) else b) = partE x b := by
  rw [td h0, wrap_id (i := x / 28800) (by omega) (by omega), wrap_id (i := x / 28800 + 1) (by omega) (by omega), wrap_id (i := (x / 28800 + 1) * 28800) (by omega) (by omega)]
  rfl
theorem partE_lt {x b : Int} (h1 : x < b) : x < partE x b ∧ partE x b ≤ b := by
  unfold partE; split <;> omega
theorem partE_m {x b : Int} (n : Nat) (_h0 : 0 ≤ x) (_h1 : x < b) (hn : (b - 1) / 28800 - x / 28800 < (n : Int) + 1) : partE x b < b → (b - 1) / 28800 - partE x b / 28800 < (n : Int) := by
  unfold partE; split <;> omega

theorem f18_loop (a b : Int) (hb : b ≤ 2147483648) : ∀ (n j : Nat) (x : Int) (acc : List (Int × Int)), 0 ≤ x → (x < b → (b - 1) / 28800 - x / 28800 < n) → n < j → acc.length + n ≤ 1000 →
    f18_7 KK j x (a, b) acc = some (0, acc ++ pS n x b) := by
  intro n
  induction n with
  | zero =>
    intro j x acc h0 h1 hj ha
    obtain ⟨j, rfl⟩ := fuel1 hj
    have : ¬ x < b := fun h => by have := h1 h; omega
    rw [f18_7, decide_eq_false this, cond_false, pS, List.append_nil]
  | succ n ih =>
    intro j x acc h0 h1 hj ha
    obtain ⟨j, rfl⟩ := fuel1 hj
    by_cases h : x < b
    · have hp := partE_lt h
      rw [f18_7, decide_eq_true h, cond_true, if_pos (by decide)]
      simp only [partE_w h0 h hb]
      rw [if_pos (by simp; omega), ih j _ _ (by omega) (partE_m n h0 h (by have := h1 h; omega)) (by omega) (by simp; omega), pS, if_pos h, List.append_assoc]
      rfl
    · rw [f18_7, decide_eq_false h, cond_false, pS, if_neg h, List.append_nil]
def partsS (a b : Int) : Int × List (Int × Int) := if wthn a b = true then (if a < b ∧ (b - 1) / 28800 - a / 28800 ≥ 256 then (8, []) else (0, pS 300 a b)) else (1, [])
theorem f18_s (a b : Int) : f18 KK (a, b) = some (partsS a b) := by
  unfold f18 partsS
  rw [f29_s, if_some, v29_s]
  cases hw : wthn a b
  · rfl
  · have hw' : 0 ≤ a ∧ a ≤ b ∧ b ≤ 2147483648 := by simpa [wthn, and_assoc] using hw
    rw [Bool.not_true, cond_false, if_pos ⟨fun _ => by decide, fun _ => by decide⟩]
    by_cases h : a < b
    · simp only [h, decide_true, Bool.true_and, true_and, if_true]
      rw [wrap_id (i := b - 1) (by omega) (by omega), td (by omega), td (by omega), wrap_id (i := (b - 1) / 28800) (by omega) (by omega), wrap_id (i := a / 28800) (by omega) (by omega), wrap_id (i := (b - 1) / 28800 - a / 28800) (by omega) (by omega)]
      by_cases h2 : (b - 1) / 28800 - a / 28800 ≥ 256
      · rw [decide_eq_true h2, cond_true, if_pos h2]
      · rw [decide_eq_false h2, cond_false, if_neg h2]
        exact f18_loop a b (by omega) 300 KK a [] (by omega) (fun _ => by omega) (by decide) (by simp)
    · simp only [h, decide_false, Bool.false_and, cond_false, false_and, if_false, if_true]
      exact f18_loop a b (by omega) 300 KK a [] (by omega) (fun h2 => absurd h2 h) (by decide) (by simp)

theorem v11_s (t : Int) : v11 KK t = shiftS t := by unfold v11; rw [f11_s]; rfl
theorem v18_s (a b : Int) : v18 KK (a, b) = partsS a b := by unfold v18; rw [f18_s]; rfl
theorem shift_same {x e : Int} (h0 : 0 ≤ x) (h1 : x < e) (h2 : e ≤ (x / 28800 + 1) * 28800) (h3 : e ≤ 2147483648) : shiftS x = (x / 86400, x % 86400 / 28800, 0) ∧ shiftS (e - 1) = (x / 86400, x % 86400 / 28800, 0) := by
  unfold shiftS
  rw [if_pos ((mom_iff x).2 ⟨h0, by omega⟩), if_pos ((mom_iff (e - 1)).2 ⟨by omega, by omega⟩)]
  refine ⟨rfl, ?_⟩
  rw [show (e - 1) / 86400 = x / 86400 by omega, show (e - 1) % 86400 / 28800 = x % 86400 / 28800 by omega]
theorem f10_loop (a b : Int) (hb : b ≤ 2147483648) (l : List (Int × Int)) (hl : l.length ≤ 1000) : ∀ (n j i : Nat) (x : Int), l.drop i = pS n x b → 0 ≤ x → x ≤ b → (x < b → (b - 1) / 28800 - x / 28800 < n) → n < j →
    f10_18 KK j x (i : Int) (a, b) l = some true := by
  have stop : ∀ (j i : Nat) (x : Int), l.drop i = [] → x = b → f10_18 KK (j + 1) x (i : Int) (a, b) l = some true := fun j i x h hx => by
    have : l.length ≤ i := by
      by_cases hi : l.length ≤ i
      · exact hi
      · rw [drop_cons' l i t34.dflt (by omega)] at h; cases h
    rw [f10_18, decide_eq_false (by omega), cond_false, hx, awake05, vawake05]
    simp
  intro n
  induction n with
  | zero =>
    intro j i x h h0 h1 h2 hj
    obtain ⟨j, rfl⟩ := fuel1 hj
    refine stop j i x h ?_
    by_cases hx : x < b
    · have := h2 hx; omega
    · omega
  | succ n ih =>
    intro j i x h h0 h1 h2 hj
    obtain ⟨j, rfl⟩ := fuel1 hj
    by_cases hx : x < b
    · rw [pS, if_pos hx] at h
      have hi : i < l.length := by
        by_cases hi : i < l.length
        · exact hi
        · rw [drop_all l i (by omega)] at h; cases h
      rw [drop_cons' l i t34.dflt hi] at h
      have hc : l.getD i t34.dflt = (x, partE x b) := (List.cons.inj h).1
      have hr := (List.cons.inj h).2
      have hp := partE_lt hx
      have he : partE x b ≤ (x / 28800 + 1) * 28800 := by unfold partE; split <;> omega
      obtain ⟨s1, s2⟩ := shift_same h0 hp.1 he (by omega)
      have p1 : (0 : Int) ≤ (i : Int) := by omega
      have p2 : (i : Int) < (l.length : Int) := by omega
      rw [f10_18, decide_eq_true p2, cond_true, if_pos ⟨p1, p2, fun _ => p1, fun _ => p2⟩, Int.toNat_natCast, hc]
      have e1 : ((x, partE x b).fst != x || decide ((x, partE x b).snd ≤ x)) = false := by
        simp
        omega
      refine (cond_f e1).trans ?_
      rw [if_pos ⟨p1, p2⟩, f11_s, f11_s, v11_s, v11_s, wrap_id (i := (x, partE x b).snd - 1) (by simp only; omega) (by simp only; omega)]
      simp only [s1, s2]
      rw [if_pos ⟨p1, p2, rfl⟩, if_some]
      have e2 : ((0 : Int) != (0 : Int) || (0 : Int) != (0 : Int) || x / 86400 != x / 86400 || x % 86400 / 28800 != x % 86400 / 28800) = false := by simp
      refine (cond_f e2).trans ?_
      rw [wrapS i (by omega)]
      exact ih j (i + 1) (partE x b) hr (by omega) hp.2 (partE_m n h0 hx (by have := h2 hx; omega)) (by omega)
    · rw [pS, if_neg hx] at h
      exact stop j i x h (by omega)

theorem pS_len (b : Int) : ∀ (n : Nat) (x : Int), (pS n x b).length ≤ n
  | 0, _ => by simp [pS]
  | n + 1, x => by
    rw [pS]
    split
    · have := pS_len b n (partE x b); simp; omega
    · simp
theorem tailP (a b : Int) : (if ((f18 KK (a, b)).isSome = true) then
      bif ((v18 KK (a, b)).fst != (0 : Int)) then
        bif ((↑ (v18 KK (a, b)).snd.length : Int) == (0 : Int)) then
          if (((↑ (v18 KK (a, b)).snd.length : Int) == (0 : Int)) = true) ∧ ((f13 KK ).isSome = true) then
            some (true && v13 KK)
          else none
        else
          if (((↑ (v18 KK (a, b)).snd.length : Int) == (0 : Int)) = false) then
            some false
          else none
      else
        f10_18 KK KK a 0 (a, b) ((v18 KK (a, b)).snd)
    else none) = some true := by
  rw [f18_s, if_some, v18_s, awake05, vawake05]
  unfold partsS
  cases hw : wthn a b
  · rfl
  · have hw' : 0 ≤ a ∧ a ≤ b ∧ b ≤ 2147483648 := by simpa [wthn, and_assoc] using hw
    rw [if_pos rfl]
    by_cases h : a < b ∧ (b - 1) / 28800 - a / 28800 ≥ 256
    · rw [if_pos h]; rfl
    · rw [if_neg h]
      refine (cond_f (b := ((0 : Int) != (0 : Int))) rfl).trans ?_
      have hn : a < b → (b - 1) / 28800 - a / 28800 < ((300 : Nat) : Int) := fun hx => by
        have : ¬ (b - 1) / 28800 - a / 28800 ≥ 256 := fun q => h ⟨hx, q⟩
        omega
      exact f10_loop a b hw'.2.2 (pS 300 a b) (by have := pS_len b 300 a; omega) 300 KK 0 a rfl hw'.1 hw'.2.1 hn (by decide)

theorem f10_j (t : Int) (s : ByteArray) (a b : Int) : f10 KK t s (a, b) = some true := by
  unfold f10
  by_cases h : s.size > 100
  · rw [decide_eq_true (by omega), cond_true, awake05, if_some, vawake05]
  · rw [decide_eq_false (by omega), cond_false]
    obtain ⟨r, e1, hr⟩ := f25_tot s (by omega)
    have v1 : v25 KK s = r := by unfold v25; rw [e1]; rfl
    have mid : (if ((f25 KK s).isSome = true) then
        bif ((v25 KK s).snd == (0 : Int)) then
          if ((f23 KK (v25 KK s).fst).isSome = true) then
            bif ((v23 KK (v25 KK s).fst).snd != (0 : Int) || ! (v23 KK (v25 KK s).fst).fst.toList == s.toList) then
              some false
            else (if ((f18 KK (a, b)).isSome = true) then
      bif ((v18 KK (a, b)).fst != (0 : Int)) then
        bif ((↑ (v18 KK (a, b)).snd.length : Int) == (0 : Int)) then
          if (((↑ (v18 KK (a, b)).snd.length : Int) == (0 : Int)) = true) ∧ ((f13 KK ).isSome = true) then
            some (true && v13 KK)
          else none
        else
          if (((↑ (v18 KK (a, b)).snd.length : Int) == (0 : Int)) = false) then
            some false
          else none
      else
        f10_18 KK KK a 0 (a, b) ((v18 KK (a, b)).snd)
    else none)
          else none
        else (if ((f18 KK (a, b)).isSome = true) then
      bif ((v18 KK (a, b)).fst != (0 : Int)) then
        bif ((↑ (v18 KK (a, b)).snd.length : Int) == (0 : Int)) then
          if (((↑ (v18 KK (a, b)).snd.length : Int) == (0 : Int)) = true) ∧ ((f13 KK ).isSome = true) then
            some (true && v13 KK)
          else none
        else
          if (((↑ (v18 KK (a, b)).snd.length : Int) == (0 : Int)) = false) then
            some false
          else none
      else
        f10_18 KK KK a 0 (a, b) ((v18 KK (a, b)).snd)
    else none)
      else none) = some true := by
      rw [tailP, e1, if_some, v1]
      rcases hr with rfl | ⟨q1, q2, q3⟩
      · rfl
      · rw [q1, f23_s, if_some, v23_s]
        have ef : formS r.1 = (s, 0) := by unfold formS; rw [if_pos q2, q3]
        rw [ef, btl]
        simp
    cases hm : (decide (t ≥ (0 : Int)) && decide (t ≤ (2147483647 : Int)))
    · rw [cond_false]; exact mid
    · have hm' : mom t = true := hm
      have ef : formS t = (mkB (fmtL t), 0) := by unfold formS; rw [if_pos hm']
      have v2 : v25 KK (mkB (fmtL t)) = (t, 0) := by unfold v25; rw [f25_form hm']; rfl
      rw [cond_true, f23_s, if_some, v23_s, ef]
      simp only
      rw [f25_form hm', if_some, v2]
      refine (cond_f (by simp)).trans ?_
      exact mid
end Go.AM
