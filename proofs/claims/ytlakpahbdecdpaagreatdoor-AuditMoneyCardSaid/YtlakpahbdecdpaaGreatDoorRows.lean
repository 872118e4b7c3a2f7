/-
  NARROWER THAN 'FOR EVERY INPUT', by the rows' own cells (each row's printed sentence says how): AuditBalance: laid · AuditWeb: laid · AuditRolls: laid · AuditOrders: laid · AuditClaims: laid · AuditMoney: laid · AuditTexts: laid · AuditCredited: laid.
  DERIVED. THE GIVEN ROWS OF THIS SEAT. 8 by the template 'for every input the law returns true; each argument reads behind the call as it read before'; 0 by the template 'total and deterministic' (their statements: YtlakpahbdecdpaaGreatDoorTotals.lean).
  GIVEN WITH THE SEED: the statements are not yours to turn. If you find one false, say at which input.
  Laid BY PROGRAM, IN A SANDBOX (cutbox-rows.mjs): the forced cells as the released guide's own fill.sh prints them over the translation 7016a45b62926d5d… (all of the seat's roots in one cut). By AI agents, Wed Nov 11 2026. No macro, syntax, notation, axiom, sorry.
-/
import Derived.Test.YtlakpahbdecdpaaGreatDoorChecked
import GoSem.Claim
import GoSem.ClaimJoined
import GoSem.ClaimMapViews
import Derived.JoinedTies
import Derived.KernelRfl
namespace Go.Proofs.YtlakpahbdecdpaaGreatDoor
/- THE CELL 'sum', in the pinned program and in every row, IS THE sha256 OF THE DUMP (.gsa) THAT YtlakpahbdecdpaaGreatDoorProg.lean LOADS. Nothing in Lean hashes anything: it is a label: what it is worth is what the hold of that sum in a sandbox is worth. -/
noncomputable def Tryz.pinned : Pinned := { name := "ytlakpahbdecdpaagreatdoor", sum := "7016a45b62926d5d92c1a4fec3aadd3b54ddd8e4b307b82406141c799fb57fe3", checked := Tryz.checked }
namespace Rows
def none {H : Type} : Left H := { results := [], args := [] }

/- WHAT THE LISTED PACKAGE-LEVEL VARIABLES READ AS WHEN THE CALL BEGINS. Each datum BY PROGRAM (the guide's laid-datum.mjs) off the statement by which the dump's own 'gosem.cut.vars' lays the variable. In a bare row this is a premise. The card (YtlakpahbdecdpaaGreatDoorCards.lean) ties it to the program's text. -/
def laid_math_bits_deBruijn32tab {H : Type} : DataW H := .agg [.lit (.int .u8 0), .lit (.int .u8 1), .lit (.int .u8 28), .lit (.int .u8 2), .lit (.int .u8 29), .lit (.int .u8 14), .lit (.int .u8 24), .lit (.int .u8 3), .lit (.int .u8 30), .lit (.int .u8 22), .lit (.int .u8 20), .lit (.int .u8 15), .lit (.int .u8 25), .lit (.int .u8 17), .lit (.int .u8 4), .lit (.int .u8 8), .lit (.int .u8 31), .lit (.int .u8 27), .lit (.int .u8 13), .lit (.int .u8 23), .lit (.int .u8 21), .lit (.int .u8 19), .lit (.int .u8 16), .lit (.int .u8 7), .lit (.int .u8 26), .lit (.int .u8 12), .lit (.int .u8 18), .lit (.int .u8 6), .lit (.int .u8 11), .lit (.int .u8 5), .lit (.int .u8 10), .lit (.int .u8 9)]
def laid_math_bits_deBruijn64tab {H : Type} : DataW H := .agg [.lit (.int .u8 0), .lit (.int .u8 1), .lit (.int .u8 56), .lit (.int .u8 2), .lit (.int .u8 57), .lit (.int .u8 49), .lit (.int .u8 28), .lit (.int .u8 3), .lit (.int .u8 61), .lit (.int .u8 58), .lit (.int .u8 42), .lit (.int .u8 50), .lit (.int .u8 38), .lit (.int .u8 29), .lit (.int .u8 17), .lit (.int .u8 4), .lit (.int .u8 62), .lit (.int .u8 47), .lit (.int .u8 59), .lit (.int .u8 36), .lit (.int .u8 45), .lit (.int .u8 43), .lit (.int .u8 51), .lit (.int .u8 22), .lit (.int .u8 53), .lit (.int .u8 39), .lit (.int .u8 33), .lit (.int .u8 30), .lit (.int .u8 24), .lit (.int .u8 18), .lit (.int .u8 12), .lit (.int .u8 5), .lit (.int .u8 63), .lit (.int .u8 55), .lit (.int .u8 48), .lit (.int .u8 27), .lit (.int .u8 60), .lit (.int .u8 41), .lit (.int .u8 37), .lit (.int .u8 16), .lit (.int .u8 46), .lit (.int .u8 35), .lit (.int .u8 44), .lit (.int .u8 21), .lit (.int .u8 52), .lit (.int .u8 32), .lit (.int .u8 23), .lit (.int .u8 11), .lit (.int .u8 54), .lit (.int .u8 26), .lit (.int .u8 40), .lit (.int .u8 15), .lit (.int .u8 34), .lit (.int .u8 20), .lit (.int .u8 31), .lit (.int .u8 10), .lit (.int .u8 25), .lit (.int .u8 14), .lit (.int .u8 19), .lit (.int .u8 9), .lit (.int .u8 13), .lit (.int .u8 8), .lit (.int .u8 7), .lit (.int .u8 6)]
def laid_internal_strconv_uint64pow10 {H : Type} : DataW H := .agg [.lit (.int .u64 1), .lit (.int .u64 10), .lit (.int .u64 100), .lit (.int .u64 1000), .lit (.int .u64 10000), .lit (.int .u64 100000), .lit (.int .u64 1000000), .lit (.int .u64 10000000), .lit (.int .u64 100000000), .lit (.int .u64 1000000000), .lit (.int .u64 10000000000), .lit (.int .u64 100000000000), .lit (.int .u64 1000000000000), .lit (.int .u64 10000000000000), .lit (.int .u64 100000000000000), .lit (.int .u64 1000000000000000), .lit (.int .u64 10000000000000000), .lit (.int .u64 100000000000000000), .lit (.int .u64 1000000000000000000), .lit (.int .u64 10000000000000000000)]

/-- 'papermilllaw62.AuditBalance': WHATEVER THE INPUT: true; the input reads as it did. -/
def auditBalanceSpec : ChangeSpec := { name := "auditBalance", fn := fun _ => fun
  | [d] => { results := [.lit (.bool true)], args := [d] }
  | _ => none }
def auditBalanceRow : OpenClaim := { program := "ytlakpahbdecdpaagreatdoor", sum := "7016a45b62926d5d92c1a4fec3aadd3b54ddd8e4b307b82406141c799fb57fe3", func := "papermill/papermilllaw62.AuditBalance", spec := "auditBalance", unfollowed := true, recurses := true, named := ["internal/strconv.uint64pow10", "math/bits.deBruijn32tab", "math/bits.deBruijn64tab"], apart := false, laid := [("math/bits.deBruijn32tab", laid_math_bits_deBruijn32tab), ("math/bits.deBruijn64tab", laid_math_bits_deBruijn64tab), ("internal/strconv.uint64pow10", laid_internal_strconv_uint64pow10)] }
def AuditBalanceSaid : Prop := auditBalanceRow.holds Tryz.pinned (OpenSpec.ofChange auditBalanceSpec)

/-- ITS FALSE NEIGHBOUR: 'it returns false'. Refute it at one input. -/
def auditBalanceWrong : ChangeSpec := { name := "auditBalance", fn := fun _ => fun
  | [d] => { results := [.lit (.bool false)], args := [d] }
  | _ => none }
def AuditBalanceWrongFalsely : Prop := auditBalanceRow.holds Tryz.pinned (OpenSpec.ofChange auditBalanceWrong)

/-- 'papermilllaw62.AuditWeb': WHATEVER THE INPUT: true; the input reads as it did. -/
def auditWebSpec : ChangeSpec := { name := "auditWeb", fn := fun _ => fun
  | [d] => { results := [.lit (.bool true)], args := [d] }
  | _ => none }
def auditWebRow : OpenClaim := { program := "ytlakpahbdecdpaagreatdoor", sum := "7016a45b62926d5d92c1a4fec3aadd3b54ddd8e4b307b82406141c799fb57fe3", func := "papermill/papermilllaw62.AuditWeb", spec := "auditWeb", unfollowed := true, recurses := true, named := ["internal/strconv.uint64pow10", "math/bits.deBruijn32tab", "math/bits.deBruijn64tab"], apart := false, laid := [("math/bits.deBruijn32tab", laid_math_bits_deBruijn32tab), ("math/bits.deBruijn64tab", laid_math_bits_deBruijn64tab), ("internal/strconv.uint64pow10", laid_internal_strconv_uint64pow10)] }
def AuditWebSaid : Prop := auditWebRow.holds Tryz.pinned (OpenSpec.ofChange auditWebSpec)

/-- ITS FALSE NEIGHBOUR: 'it returns false'. Refute it at one input. -/
def auditWebWrong : ChangeSpec := { name := "auditWeb", fn := fun _ => fun
  | [d] => { results := [.lit (.bool false)], args := [d] }
  | _ => none }
def AuditWebWrongFalsely : Prop := auditWebRow.holds Tryz.pinned (OpenSpec.ofChange auditWebWrong)

/-- 'papermilllaw62.AuditRolls': WHATEVER THE INPUT: true; the input reads as it did. -/
def auditRollsSpec : ChangeSpec := { name := "auditRolls", fn := fun _ => fun
  | [d] => { results := [.lit (.bool true)], args := [d] }
  | _ => none }
def auditRollsRow : OpenClaim := { program := "ytlakpahbdecdpaagreatdoor", sum := "7016a45b62926d5d92c1a4fec3aadd3b54ddd8e4b307b82406141c799fb57fe3", func := "papermill/papermilllaw62.AuditRolls", spec := "auditRolls", unfollowed := true, recurses := true, named := ["internal/strconv.uint64pow10", "math/bits.deBruijn32tab", "math/bits.deBruijn64tab"], apart := false, laid := [("math/bits.deBruijn32tab", laid_math_bits_deBruijn32tab), ("math/bits.deBruijn64tab", laid_math_bits_deBruijn64tab), ("internal/strconv.uint64pow10", laid_internal_strconv_uint64pow10)] }
def AuditRollsSaid : Prop := auditRollsRow.holds Tryz.pinned (OpenSpec.ofChange auditRollsSpec)

/-- ITS FALSE NEIGHBOUR: 'it returns false'. Refute it at one input. -/
def auditRollsWrong : ChangeSpec := { name := "auditRolls", fn := fun _ => fun
  | [d] => { results := [.lit (.bool false)], args := [d] }
  | _ => none }
def AuditRollsWrongFalsely : Prop := auditRollsRow.holds Tryz.pinned (OpenSpec.ofChange auditRollsWrong)

/-- 'papermilllaw62.AuditOrders': WHATEVER THE INPUT: true; the input reads as it did. -/
def auditOrdersSpec : ChangeSpec := { name := "auditOrders", fn := fun _ => fun
  | [d] => { results := [.lit (.bool true)], args := [d] }
  | _ => none }
def auditOrdersRow : OpenClaim := { program := "ytlakpahbdecdpaagreatdoor", sum := "7016a45b62926d5d92c1a4fec3aadd3b54ddd8e4b307b82406141c799fb57fe3", func := "papermill/papermilllaw62.AuditOrders", spec := "auditOrders", unfollowed := true, recurses := true, named := ["internal/strconv.uint64pow10", "math/bits.deBruijn32tab", "math/bits.deBruijn64tab"], apart := false, laid := [("math/bits.deBruijn32tab", laid_math_bits_deBruijn32tab), ("math/bits.deBruijn64tab", laid_math_bits_deBruijn64tab), ("internal/strconv.uint64pow10", laid_internal_strconv_uint64pow10)] }
def AuditOrdersSaid : Prop := auditOrdersRow.holds Tryz.pinned (OpenSpec.ofChange auditOrdersSpec)

/-- ITS FALSE NEIGHBOUR: 'it returns false'. Refute it at one input. -/
def auditOrdersWrong : ChangeSpec := { name := "auditOrders", fn := fun _ => fun
  | [d] => { results := [.lit (.bool false)], args := [d] }
  | _ => none }
def AuditOrdersWrongFalsely : Prop := auditOrdersRow.holds Tryz.pinned (OpenSpec.ofChange auditOrdersWrong)

/-- 'papermilllaw62.AuditClaims': WHATEVER THE INPUT: true; the input reads as it did. -/
def auditClaimsSpec : ChangeSpec := { name := "auditClaims", fn := fun _ => fun
  | [d] => { results := [.lit (.bool true)], args := [d] }
  | _ => none }
def auditClaimsRow : OpenClaim := { program := "ytlakpahbdecdpaagreatdoor", sum := "7016a45b62926d5d92c1a4fec3aadd3b54ddd8e4b307b82406141c799fb57fe3", func := "papermill/papermilllaw62.AuditClaims", spec := "auditClaims", unfollowed := true, recurses := true, named := ["internal/strconv.uint64pow10", "math/bits.deBruijn32tab", "math/bits.deBruijn64tab"], apart := false, laid := [("math/bits.deBruijn32tab", laid_math_bits_deBruijn32tab), ("math/bits.deBruijn64tab", laid_math_bits_deBruijn64tab), ("internal/strconv.uint64pow10", laid_internal_strconv_uint64pow10)] }
def AuditClaimsSaid : Prop := auditClaimsRow.holds Tryz.pinned (OpenSpec.ofChange auditClaimsSpec)

/-- ITS FALSE NEIGHBOUR: 'it returns false'. Refute it at one input. -/
def auditClaimsWrong : ChangeSpec := { name := "auditClaims", fn := fun _ => fun
  | [d] => { results := [.lit (.bool false)], args := [d] }
  | _ => none }
def AuditClaimsWrongFalsely : Prop := auditClaimsRow.holds Tryz.pinned (OpenSpec.ofChange auditClaimsWrong)

/-- 'papermilllaw62.AuditMoney': WHATEVER THE INPUT: true; the input reads as it did. -/
def auditMoneySpec : ChangeSpec := { name := "auditMoney", fn := fun _ => fun
  | [d] => { results := [.lit (.bool true)], args := [d] }
  | _ => none }
def auditMoneyRow : OpenClaim := { program := "ytlakpahbdecdpaagreatdoor", sum := "7016a45b62926d5d92c1a4fec3aadd3b54ddd8e4b307b82406141c799fb57fe3", func := "papermill/papermilllaw62.AuditMoney", spec := "auditMoney", unfollowed := true, recurses := true, named := ["internal/strconv.uint64pow10", "math/bits.deBruijn32tab", "math/bits.deBruijn64tab"], apart := false, laid := [("math/bits.deBruijn32tab", laid_math_bits_deBruijn32tab), ("math/bits.deBruijn64tab", laid_math_bits_deBruijn64tab), ("internal/strconv.uint64pow10", laid_internal_strconv_uint64pow10)] }
def AuditMoneySaid : Prop := auditMoneyRow.holds Tryz.pinned (OpenSpec.ofChange auditMoneySpec)

/-- ITS FALSE NEIGHBOUR: 'it returns false'. Refute it at one input. -/
def auditMoneyWrong : ChangeSpec := { name := "auditMoney", fn := fun _ => fun
  | [d] => { results := [.lit (.bool false)], args := [d] }
  | _ => none }
def AuditMoneyWrongFalsely : Prop := auditMoneyRow.holds Tryz.pinned (OpenSpec.ofChange auditMoneyWrong)

/-- 'papermilllaw62.AuditTexts': WHATEVER THE INPUT: true; the input reads as it did. -/
def auditTextsSpec : ChangeSpec := { name := "auditTexts", fn := fun _ => fun
  | [d1, d2] => { results := [.lit (.bool true)], args := [d1, d2] }
  | _ => none }
def auditTextsRow : OpenClaim := { program := "ytlakpahbdecdpaagreatdoor", sum := "7016a45b62926d5d92c1a4fec3aadd3b54ddd8e4b307b82406141c799fb57fe3", func := "papermill/papermilllaw62.AuditTexts", spec := "auditTexts", unfollowed := true, recurses := true, named := ["internal/strconv.uint64pow10", "math/bits.deBruijn32tab", "math/bits.deBruijn64tab"], apart := false, laid := [("math/bits.deBruijn32tab", laid_math_bits_deBruijn32tab), ("math/bits.deBruijn64tab", laid_math_bits_deBruijn64tab), ("internal/strconv.uint64pow10", laid_internal_strconv_uint64pow10)] }
def AuditTextsSaid : Prop := auditTextsRow.holds Tryz.pinned (OpenSpec.ofChange auditTextsSpec)

/-- ITS FALSE NEIGHBOUR: 'it returns false'. Refute it at one input. -/
def auditTextsWrong : ChangeSpec := { name := "auditTexts", fn := fun _ => fun
  | [d1, d2] => { results := [.lit (.bool false)], args := [d1, d2] }
  | _ => none }
def AuditTextsWrongFalsely : Prop := auditTextsRow.holds Tryz.pinned (OpenSpec.ofChange auditTextsWrong)

/-- 'papermilllaw62.AuditCredited': WHATEVER THE INPUT: true; the input reads as it did. -/
def auditCreditedSpec : ChangeSpec := { name := "auditCredited", fn := fun _ => fun
  | [d1, d2] => { results := [.lit (.bool true)], args := [d1, d2] }
  | _ => none }
def auditCreditedRow : OpenClaim := { program := "ytlakpahbdecdpaagreatdoor", sum := "7016a45b62926d5d92c1a4fec3aadd3b54ddd8e4b307b82406141c799fb57fe3", func := "papermill/papermilllaw62.AuditCredited", spec := "auditCredited", unfollowed := true, recurses := true, named := ["internal/strconv.uint64pow10", "math/bits.deBruijn32tab", "math/bits.deBruijn64tab"], apart := false, laid := [("math/bits.deBruijn32tab", laid_math_bits_deBruijn32tab), ("math/bits.deBruijn64tab", laid_math_bits_deBruijn64tab), ("internal/strconv.uint64pow10", laid_internal_strconv_uint64pow10)] }
def AuditCreditedSaid : Prop := auditCreditedRow.holds Tryz.pinned (OpenSpec.ofChange auditCreditedSpec)

/-- ITS FALSE NEIGHBOUR: 'it returns false'. Refute it at one input. -/
def auditCreditedWrong : ChangeSpec := { name := "auditCredited", fn := fun _ => fun
  | [d1, d2] => { results := [.lit (.bool false)], args := [d1, d2] }
  | _ => none }
def AuditCreditedWrongFalsely : Prop := auditCreditedRow.holds Tryz.pinned (OpenSpec.ofChange auditCreditedWrong)

/- THE SECOND FORM. 'bulk': how many values and letters a reading holds, each counted each time it is reached (what is shared counts as often as it is met; a slice's spare places count too). A statement '..UptoSaid' is the law's where the arguments, and the package variables that the reading takes, are together of bulk at most 1048576: NARROWER than '..Said'. Prove '..Said' where nothing that the law and all that it calls make is longer than what came in: it says more and counts as full. Else prove '..UptoSaid'. A law counts once. -/
mutual
def uptoBulk {H : Type} : DataW H → Nat
  | .lit (.string bytes) => bytes.length + 1
  | .lit _ => 1
  | .nil => 1
  | .ptr d => uptoBulk d + 1
  | .slice elems spare => uptoBulkAll elems + uptoBulkAll spare + 1
  | .agg parts => uptoBulkAll parts + 1
  | .iface _ d => uptoBulk d + 1
  | .map entries => uptoBulkEntries entries + 1
  | .held _ => 1
def uptoBulkAll {H : Type} : List (DataW H) → Nat
  | [] => 0
  | d :: r => uptoBulk d + uptoBulkAll r
def uptoBulkEntries {H : Type} : List (Lit × DataW H) → Nat
  | [] => 0
  | x :: r => uptoBulkEntry x + uptoBulkEntries r
def uptoBulkEntry {H : Type} : Lit × DataW H → Nat
  | (.string bytes, d) => bytes.length + uptoBulk d + 1
  | (_, d) => uptoBulk d + 1
 end
def uptoSmall : (H : Type) → List (DataW H) → Bool := fun _ ds => decide (uptoBulkAll ds ≤ 1048576)
def OpenSpec.upto (s : _root_.Go.ChangeSpec) : _root_.Go.OpenSpec := { _root_.Go.OpenSpec.ofChange s with cond := some uptoSmall }

/-- 'papermilllaw62.AuditBalance', WHERE WHAT IT READS IS OF BULK AT MOST 1048576: true; the input reads as it did. -/
def auditBalanceUptoRow : OpenClaim := { program := "ytlakpahbdecdpaagreatdoor", sum := "7016a45b62926d5d92c1a4fec3aadd3b54ddd8e4b307b82406141c799fb57fe3", func := "papermill/papermilllaw62.AuditBalance", spec := "auditBalance", unfollowed := true, recurses := true, named := ["internal/strconv.uint64pow10", "math/bits.deBruijn32tab", "math/bits.deBruijn64tab"], apart := false, laid := [("math/bits.deBruijn32tab", laid_math_bits_deBruijn32tab), ("math/bits.deBruijn64tab", laid_math_bits_deBruijn64tab), ("internal/strconv.uint64pow10", laid_internal_strconv_uint64pow10)], narrowed := true }
def AuditBalanceUptoSaid : Prop := auditBalanceUptoRow.holds Tryz.pinned (OpenSpec.upto auditBalanceSpec)

/-- 'papermilllaw62.AuditWeb', WHERE WHAT IT READS IS OF BULK AT MOST 1048576: true; the input reads as it did. -/
def auditWebUptoRow : OpenClaim := { program := "ytlakpahbdecdpaagreatdoor", sum := "7016a45b62926d5d92c1a4fec3aadd3b54ddd8e4b307b82406141c799fb57fe3", func := "papermill/papermilllaw62.AuditWeb", spec := "auditWeb", unfollowed := true, recurses := true, named := ["internal/strconv.uint64pow10", "math/bits.deBruijn32tab", "math/bits.deBruijn64tab"], apart := false, laid := [("math/bits.deBruijn32tab", laid_math_bits_deBruijn32tab), ("math/bits.deBruijn64tab", laid_math_bits_deBruijn64tab), ("internal/strconv.uint64pow10", laid_internal_strconv_uint64pow10)], narrowed := true }
def AuditWebUptoSaid : Prop := auditWebUptoRow.holds Tryz.pinned (OpenSpec.upto auditWebSpec)

/-- 'papermilllaw62.AuditRolls', WHERE WHAT IT READS IS OF BULK AT MOST 1048576: true; the input reads as it did. -/
def auditRollsUptoRow : OpenClaim := { program := "ytlakpahbdecdpaagreatdoor", sum := "7016a45b62926d5d92c1a4fec3aadd3b54ddd8e4b307b82406141c799fb57fe3", func := "papermill/papermilllaw62.AuditRolls", spec := "auditRolls", unfollowed := true, recurses := true, named := ["internal/strconv.uint64pow10", "math/bits.deBruijn32tab", "math/bits.deBruijn64tab"], apart := false, laid := [("math/bits.deBruijn32tab", laid_math_bits_deBruijn32tab), ("math/bits.deBruijn64tab", laid_math_bits_deBruijn64tab), ("internal/strconv.uint64pow10", laid_internal_strconv_uint64pow10)], narrowed := true }
def AuditRollsUptoSaid : Prop := auditRollsUptoRow.holds Tryz.pinned (OpenSpec.upto auditRollsSpec)

/-- 'papermilllaw62.AuditOrders', WHERE WHAT IT READS IS OF BULK AT MOST 1048576: true; the input reads as it did. -/
def auditOrdersUptoRow : OpenClaim := { program := "ytlakpahbdecdpaagreatdoor", sum := "7016a45b62926d5d92c1a4fec3aadd3b54ddd8e4b307b82406141c799fb57fe3", func := "papermill/papermilllaw62.AuditOrders", spec := "auditOrders", unfollowed := true, recurses := true, named := ["internal/strconv.uint64pow10", "math/bits.deBruijn32tab", "math/bits.deBruijn64tab"], apart := false, laid := [("math/bits.deBruijn32tab", laid_math_bits_deBruijn32tab), ("math/bits.deBruijn64tab", laid_math_bits_deBruijn64tab), ("internal/strconv.uint64pow10", laid_internal_strconv_uint64pow10)], narrowed := true }
def AuditOrdersUptoSaid : Prop := auditOrdersUptoRow.holds Tryz.pinned (OpenSpec.upto auditOrdersSpec)

/-- 'papermilllaw62.AuditClaims', WHERE WHAT IT READS IS OF BULK AT MOST 1048576: true; the input reads as it did. -/
def auditClaimsUptoRow : OpenClaim := { program := "ytlakpahbdecdpaagreatdoor", sum := "7016a45b62926d5d92c1a4fec3aadd3b54ddd8e4b307b82406141c799fb57fe3", func := "papermill/papermilllaw62.AuditClaims", spec := "auditClaims", unfollowed := true, recurses := true, named := ["internal/strconv.uint64pow10", "math/bits.deBruijn32tab", "math/bits.deBruijn64tab"], apart := false, laid := [("math/bits.deBruijn32tab", laid_math_bits_deBruijn32tab), ("math/bits.deBruijn64tab", laid_math_bits_deBruijn64tab), ("internal/strconv.uint64pow10", laid_internal_strconv_uint64pow10)], narrowed := true }
def AuditClaimsUptoSaid : Prop := auditClaimsUptoRow.holds Tryz.pinned (OpenSpec.upto auditClaimsSpec)

/-- 'papermilllaw62.AuditMoney', WHERE WHAT IT READS IS OF BULK AT MOST 1048576: true; the input reads as it did. -/
def auditMoneyUptoRow : OpenClaim := { program := "ytlakpahbdecdpaagreatdoor", sum := "7016a45b62926d5d92c1a4fec3aadd3b54ddd8e4b307b82406141c799fb57fe3", func := "papermill/papermilllaw62.AuditMoney", spec := "auditMoney", unfollowed := true, recurses := true, named := ["internal/strconv.uint64pow10", "math/bits.deBruijn32tab", "math/bits.deBruijn64tab"], apart := false, laid := [("math/bits.deBruijn32tab", laid_math_bits_deBruijn32tab), ("math/bits.deBruijn64tab", laid_math_bits_deBruijn64tab), ("internal/strconv.uint64pow10", laid_internal_strconv_uint64pow10)], narrowed := true }
def AuditMoneyUptoSaid : Prop := auditMoneyUptoRow.holds Tryz.pinned (OpenSpec.upto auditMoneySpec)

/-- 'papermilllaw62.AuditTexts', WHERE WHAT IT READS IS OF BULK AT MOST 1048576: true; the input reads as it did. -/
def auditTextsUptoRow : OpenClaim := { program := "ytlakpahbdecdpaagreatdoor", sum := "7016a45b62926d5d92c1a4fec3aadd3b54ddd8e4b307b82406141c799fb57fe3", func := "papermill/papermilllaw62.AuditTexts", spec := "auditTexts", unfollowed := true, recurses := true, named := ["internal/strconv.uint64pow10", "math/bits.deBruijn32tab", "math/bits.deBruijn64tab"], apart := false, laid := [("math/bits.deBruijn32tab", laid_math_bits_deBruijn32tab), ("math/bits.deBruijn64tab", laid_math_bits_deBruijn64tab), ("internal/strconv.uint64pow10", laid_internal_strconv_uint64pow10)], narrowed := true }
def AuditTextsUptoSaid : Prop := auditTextsUptoRow.holds Tryz.pinned (OpenSpec.upto auditTextsSpec)

/-- 'papermilllaw62.AuditCredited', WHERE WHAT IT READS IS OF BULK AT MOST 1048576: true; the input reads as it did. -/
def auditCreditedUptoRow : OpenClaim := { program := "ytlakpahbdecdpaagreatdoor", sum := "7016a45b62926d5d92c1a4fec3aadd3b54ddd8e4b307b82406141c799fb57fe3", func := "papermill/papermilllaw62.AuditCredited", spec := "auditCredited", unfollowed := true, recurses := true, named := ["internal/strconv.uint64pow10", "math/bits.deBruijn32tab", "math/bits.deBruijn64tab"], apart := false, laid := [("math/bits.deBruijn32tab", laid_math_bits_deBruijn32tab), ("math/bits.deBruijn64tab", laid_math_bits_deBruijn64tab), ("internal/strconv.uint64pow10", laid_internal_strconv_uint64pow10)], narrowed := true }
def AuditCreditedUptoSaid : Prop := auditCreditedUptoRow.holds Tryz.pinned (OpenSpec.upto auditCreditedSpec)

end Rows
end Go.Proofs.YtlakpahbdecdpaaGreatDoor
