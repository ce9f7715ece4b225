/-
  NARROWER THAN 'FOR EVERY INPUT', by the rows' own cells (each row's printed sentence says how): RulesParses: laid · RulesPrints: laid · RulesEnough: laid · RulesMore: laid · RulesRound: laid.
  DERIVED. THE GIVEN ROWS OF THIS SEAT. 5 by the template 'for every input the law returns true; each argument reads behind the call as it read before'; 0 by the template 'total and deterministic' (their statements: YtoehhfhjnjfgiaaDoorTotals.lean).
  GIVEN WITH THE SEED: the statements are not yours to turn. If you find one false, say at which input.
  Laid BY PROGRAM, IN A SANDBOX (cutbox-rows.mjs): the forced cells as the released guide's own fill.sh prints them over the translation a50c379734b23d53… (all of the seat's roots in one cut). By AI agents, Wed Nov 11 2026. No macro, syntax, notation, axiom, sorry.
-/
import Derived.Test.YtoehhfhjnjfgiaaDoorChecked
import GoSem.Claim
import GoSem.ClaimJoined
import GoSem.ClaimMapViews
import Derived.JoinedTies
import Derived.KernelRfl
namespace Go.Proofs.YtoehhfhjnjfgiaaDoor
/- THE CELL 'sum', in the pinned program and in every row, IS THE sha256 OF THE DUMP (.gsa) THAT YtoehhfhjnjfgiaaDoorProg.lean LOADS. Nothing in Lean hashes anything: it is a label: what it is worth is what the hold of that sum in a sandbox is worth. -/
noncomputable def Tryd.pinned : Pinned := { name := "ytoehhfhjnjfgiaadoor", sum := "a50c379734b23d53ed45e477ba5adb7fb84600dc3b29f5f51e97b711f1acdcc6", checked := Tryd.checked }
namespace Rows
def none {H : Type} : Left H := { results := [], args := [] }

/- WHAT THE LISTED PACKAGE-LEVEL VARIABLES READ AS WHEN THE CALL BEGINS. Each datum BY PROGRAM (the guide's laid-datum.mjs) off the statement by which the dump's own 'gosem.cut.vars' lays the variable. In a bare row this is a premise. The card (YtoehhfhjnjfgiaaDoorCards.lean) ties it to the program's text. -/
def laid_math_bits_deBruijn32tab {H : Type} : DataW H := .agg [.lit (.int .u8 0), .lit (.int .u8 1), .lit (.int .u8 28), .lit (.int .u8 2), .lit (.int .u8 29), .lit (.int .u8 14), .lit (.int .u8 24), .lit (.int .u8 3), .lit (.int .u8 30), .lit (.int .u8 22), .lit (.int .u8 20), .lit (.int .u8 15), .lit (.int .u8 25), .lit (.int .u8 17), .lit (.int .u8 4), .lit (.int .u8 8), .lit (.int .u8 31), .lit (.int .u8 27), .lit (.int .u8 13), .lit (.int .u8 23), .lit (.int .u8 21), .lit (.int .u8 19), .lit (.int .u8 16), .lit (.int .u8 7), .lit (.int .u8 26), .lit (.int .u8 12), .lit (.int .u8 18), .lit (.int .u8 6), .lit (.int .u8 11), .lit (.int .u8 5), .lit (.int .u8 10), .lit (.int .u8 9)]
def laid_math_bits_deBruijn64tab {H : Type} : DataW H := .agg [.lit (.int .u8 0), .lit (.int .u8 1), .lit (.int .u8 56), .lit (.int .u8 2), .lit (.int .u8 57), .lit (.int .u8 49), .lit (.int .u8 28), .lit (.int .u8 3), .lit (.int .u8 61), .lit (.int .u8 58), .lit (.int .u8 42), .lit (.int .u8 50), .lit (.int .u8 38), .lit (.int .u8 29), .lit (.int .u8 17), .lit (.int .u8 4), .lit (.int .u8 62), .lit (.int .u8 47), .lit (.int .u8 59), .lit (.int .u8 36), .lit (.int .u8 45), .lit (.int .u8 43), .lit (.int .u8 51), .lit (.int .u8 22), .lit (.int .u8 53), .lit (.int .u8 39), .lit (.int .u8 33), .lit (.int .u8 30), .lit (.int .u8 24), .lit (.int .u8 18), .lit (.int .u8 12), .lit (.int .u8 5), .lit (.int .u8 63), .lit (.int .u8 55), .lit (.int .u8 48), .lit (.int .u8 27), .lit (.int .u8 60), .lit (.int .u8 41), .lit (.int .u8 37), .lit (.int .u8 16), .lit (.int .u8 46), .lit (.int .u8 35), .lit (.int .u8 44), .lit (.int .u8 21), .lit (.int .u8 52), .lit (.int .u8 32), .lit (.int .u8 23), .lit (.int .u8 11), .lit (.int .u8 54), .lit (.int .u8 26), .lit (.int .u8 40), .lit (.int .u8 15), .lit (.int .u8 34), .lit (.int .u8 20), .lit (.int .u8 31), .lit (.int .u8 10), .lit (.int .u8 25), .lit (.int .u8 14), .lit (.int .u8 19), .lit (.int .u8 9), .lit (.int .u8 13), .lit (.int .u8 8), .lit (.int .u8 7), .lit (.int .u8 6)]
def laid_internal_strconv_uint64pow10 {H : Type} : DataW H := .agg [.lit (.int .u64 1), .lit (.int .u64 10), .lit (.int .u64 100), .lit (.int .u64 1000), .lit (.int .u64 10000), .lit (.int .u64 100000), .lit (.int .u64 1000000), .lit (.int .u64 10000000), .lit (.int .u64 100000000), .lit (.int .u64 1000000000), .lit (.int .u64 10000000000), .lit (.int .u64 100000000000), .lit (.int .u64 1000000000000), .lit (.int .u64 10000000000000), .lit (.int .u64 100000000000000), .lit (.int .u64 1000000000000000), .lit (.int .u64 10000000000000000), .lit (.int .u64 100000000000000000), .lit (.int .u64 1000000000000000000), .lit (.int .u64 10000000000000000000)]
def laid_strconv_ErrRange {H : Type} : DataW H := .iface "*errors.errorString" (.ptr (.agg [.lit (.string [118, 97, 108, 117, 101, 32, 111, 117, 116, 32, 111, 102, 32, 114, 97, 110, 103, 101])]))
def laid_strconv_ErrSyntax {H : Type} : DataW H := .iface "*errors.errorString" (.ptr (.agg [.lit (.string [105, 110, 118, 97, 108, 105, 100, 32, 115, 121, 110, 116, 97, 120])]))
def laid_splicery_lex_signs {H : Type} : DataW H := .agg [.lit (.string [61, 61]), .lit (.string [45, 62]), .lit (.string [40]), .lit (.string [41]), .lit (.string [123]), .lit (.string [125]), .lit (.string [91]), .lit (.string [93]), .lit (.string [44]), .lit (.string [58]), .lit (.string [46]), .lit (.string [61]), .lit (.string [43]), .lit (.string [45]), .lit (.string [42]), .lit (.string [47]), .lit (.string [37]), .lit (.string [60])]
def laid_splicery_lex_kinds {H : Type} : DataW H := .iface "func table" (.agg [.agg [.iface "func" (.lit (.string [115, 112, 108, 105, 99, 101, 114, 121, 47, 108, 101, 120, 46, 108, 101, 116, 116, 101, 114])), .iface "func" (.lit (.string [115, 112, 108, 105, 99, 101, 114, 121, 47, 108, 101, 120, 46, 101, 105, 116, 104, 101, 114]))], .agg [.iface "func" (.lit (.string [115, 112, 108, 105, 99, 101, 114, 121, 47, 108, 101, 120, 46, 100, 105, 103, 105, 116])), .iface "func" (.lit (.string [115, 112, 108, 105, 99, 101, 114, 121, 47, 108, 101, 120, 46, 100, 105, 103, 105, 116]))]])
def laid_splicery_lex_keywords {H : Type} : DataW H := .agg [.lit (.string [109, 111, 100, 117, 108, 101]), .lit (.string [117, 115, 101]), .lit (.string [114, 101, 99]), .lit (.string [99, 97, 115, 101]), .lit (.string [102, 117, 110]), .lit (.string [111, 110]), .lit (.string [116, 101, 115, 116]), .lit (.string [99, 111, 110, 118]), .lit (.string [116, 114, 117, 101]), .lit (.string [102, 97, 108, 115, 101]), .lit (.string [110, 111, 116]), .lit (.string [97, 110, 100]), .lit (.string [111, 114]), .lit (.string [105, 102]), .lit (.string [116, 104, 101, 110]), .lit (.string [101, 108, 115, 101]), .lit (.string [108, 101, 116]), .lit (.string [105, 110]), .lit (.string [109, 97, 116, 99, 104]), .lit (.string [102, 111, 108, 100]), .lit (.string [111, 118, 101, 114]), .lit (.string [100, 111]), .lit (.string [108, 101, 110]), .lit (.string [106, 111, 105, 110]), .lit (.string [76, 105, 115, 116]), .lit (.string [73, 110, 116]), .lit (.string [66, 111, 111, 108])]
def laid_splicery_rules_kinds {H : Type} : DataW H := .agg [.lit (.string [109, 97, 107, 101]), .lit (.string [109, 97, 107, 101]), .lit (.string [109, 97, 107, 101]), .lit (.string [116, 121, 112, 101]), .lit (.string [98, 111, 100, 121]), .lit (.string [110, 97, 109, 101]), .lit (.string [109, 111, 118, 101]), .lit (.string [109, 111, 118, 101]), .lit (.string [109, 97, 107, 101]), .lit (.string [116, 121, 112, 101]), .lit (.string [116, 121, 112, 101]), .lit (.string [98, 111, 100, 121]), .lit (.string [98, 111, 100, 121]), .lit (.string [108, 97, 121, 111, 117, 116])]

/-- 'splicerylaw36.RulesParses': WHATEVER THE INPUT: true; the input reads as it did. -/
def rulesParsesSpec : ChangeSpec := { name := "rulesParses", fn := fun _ => fun
  | [d1, d2, d3, d4, d5] => { results := [.lit (.bool true)], args := [d1, d2, d3, d4, d5] }
  | _ => none }
def rulesParsesRow : OpenClaim := { program := "ytoehhfhjnjfgiaadoor", sum := "a50c379734b23d53ed45e477ba5adb7fb84600dc3b29f5f51e97b711f1acdcc6", func := "splicery/splicerylaw36.RulesParses", spec := "rulesParses", inPlace := ["internal/bytealg.IndexByteString", "internal/abi.NoEscape"], unfollowed := true, recurses := true, named := ["splicery/lex.kinds", "splicery/lex.signs", "splicery/rules.kinds", "splicery/lex.keywords", "strconv.ErrSyntax", "strconv.ErrRange", "internal/strconv.uint64pow10", "math/bits.deBruijn32tab", "math/bits.deBruijn64tab"], apart := false, laid := [("math/bits.deBruijn32tab", laid_math_bits_deBruijn32tab), ("math/bits.deBruijn64tab", laid_math_bits_deBruijn64tab), ("internal/strconv.uint64pow10", laid_internal_strconv_uint64pow10), ("strconv.ErrRange", laid_strconv_ErrRange), ("strconv.ErrSyntax", laid_strconv_ErrSyntax), ("splicery/lex.signs", laid_splicery_lex_signs), ("splicery/lex.kinds", laid_splicery_lex_kinds), ("splicery/lex.keywords", laid_splicery_lex_keywords), ("splicery/rules.kinds", laid_splicery_rules_kinds)] }
def RulesParsesSaid : Prop := rulesParsesRow.holds Tryd.pinned (OpenSpec.ofChange rulesParsesSpec)

/-- ITS FALSE NEIGHBOUR: 'it returns false'. Refute it at one input. -/
def rulesParsesWrong : ChangeSpec := { name := "rulesParses", fn := fun _ => fun
  | [d1, d2, d3, d4, d5] => { results := [.lit (.bool false)], args := [d1, d2, d3, d4, d5] }
  | _ => none }
def RulesParsesWrongFalsely : Prop := rulesParsesRow.holds Tryd.pinned (OpenSpec.ofChange rulesParsesWrong)

/-- 'splicerylaw36.RulesPrints': WHATEVER THE INPUT: true; the input reads as it did. -/
def rulesPrintsSpec : ChangeSpec := { name := "rulesPrints", fn := fun _ => fun
  | [d1, d2, d3, d4, d5] => { results := [.lit (.bool true)], args := [d1, d2, d3, d4, d5] }
  | _ => none }
def rulesPrintsRow : OpenClaim := { program := "ytoehhfhjnjfgiaadoor", sum := "a50c379734b23d53ed45e477ba5adb7fb84600dc3b29f5f51e97b711f1acdcc6", func := "splicery/splicerylaw36.RulesPrints", spec := "rulesPrints", inPlace := ["internal/abi.NoEscape", "internal/bytealg.IndexByteString"], unfollowed := true, recurses := true, named := ["splicery/rules.kinds", "splicery/lex.keywords", "splicery/lex.kinds", "splicery/lex.signs", "internal/strconv.uint64pow10", "math/bits.deBruijn32tab", "math/bits.deBruijn64tab", "strconv.ErrSyntax", "strconv.ErrRange"], apart := false, laid := [("math/bits.deBruijn32tab", laid_math_bits_deBruijn32tab), ("math/bits.deBruijn64tab", laid_math_bits_deBruijn64tab), ("internal/strconv.uint64pow10", laid_internal_strconv_uint64pow10), ("strconv.ErrRange", laid_strconv_ErrRange), ("strconv.ErrSyntax", laid_strconv_ErrSyntax), ("splicery/lex.signs", laid_splicery_lex_signs), ("splicery/lex.kinds", laid_splicery_lex_kinds), ("splicery/lex.keywords", laid_splicery_lex_keywords), ("splicery/rules.kinds", laid_splicery_rules_kinds)] }
def RulesPrintsSaid : Prop := rulesPrintsRow.holds Tryd.pinned (OpenSpec.ofChange rulesPrintsSpec)

/-- ITS FALSE NEIGHBOUR: 'it returns false'. Refute it at one input. -/
def rulesPrintsWrong : ChangeSpec := { name := "rulesPrints", fn := fun _ => fun
  | [d1, d2, d3, d4, d5] => { results := [.lit (.bool false)], args := [d1, d2, d3, d4, d5] }
  | _ => none }
def RulesPrintsWrongFalsely : Prop := rulesPrintsRow.holds Tryd.pinned (OpenSpec.ofChange rulesPrintsWrong)

/-- 'splicerylaw36.RulesEnough': WHATEVER THE INPUT: true; the input reads as it did. -/
def rulesEnoughSpec : ChangeSpec := { name := "rulesEnough", fn := fun _ => fun
  | [d1, d2, d3, d4, d5] => { results := [.lit (.bool true)], args := [d1, d2, d3, d4, d5] }
  | _ => none }
def rulesEnoughRow : OpenClaim := { program := "ytoehhfhjnjfgiaadoor", sum := "a50c379734b23d53ed45e477ba5adb7fb84600dc3b29f5f51e97b711f1acdcc6", func := "splicery/splicerylaw36.RulesEnough", spec := "rulesEnough", inPlace := ["internal/bytealg.IndexByteString", "internal/abi.NoEscape"], unfollowed := true, recurses := true, named := ["splicery/lex.kinds", "splicery/lex.signs", "splicery/rules.kinds", "splicery/lex.keywords", "strconv.ErrSyntax", "strconv.ErrRange", "internal/strconv.uint64pow10", "math/bits.deBruijn32tab", "math/bits.deBruijn64tab"], apart := false, laid := [("math/bits.deBruijn32tab", laid_math_bits_deBruijn32tab), ("math/bits.deBruijn64tab", laid_math_bits_deBruijn64tab), ("internal/strconv.uint64pow10", laid_internal_strconv_uint64pow10), ("strconv.ErrRange", laid_strconv_ErrRange), ("strconv.ErrSyntax", laid_strconv_ErrSyntax), ("splicery/lex.signs", laid_splicery_lex_signs), ("splicery/lex.kinds", laid_splicery_lex_kinds), ("splicery/lex.keywords", laid_splicery_lex_keywords), ("splicery/rules.kinds", laid_splicery_rules_kinds)] }
def RulesEnoughSaid : Prop := rulesEnoughRow.holds Tryd.pinned (OpenSpec.ofChange rulesEnoughSpec)

/-- ITS FALSE NEIGHBOUR: 'it returns false'. Refute it at one input. -/
def rulesEnoughWrong : ChangeSpec := { name := "rulesEnough", fn := fun _ => fun
  | [d1, d2, d3, d4, d5] => { results := [.lit (.bool false)], args := [d1, d2, d3, d4, d5] }
  | _ => none }
def RulesEnoughWrongFalsely : Prop := rulesEnoughRow.holds Tryd.pinned (OpenSpec.ofChange rulesEnoughWrong)

/-- 'splicerylaw36.RulesMore': WHATEVER THE INPUT: true; the input reads as it did. -/
def rulesMoreSpec : ChangeSpec := { name := "rulesMore", fn := fun _ => fun
  | [d1, d2, d3, d4, d5] => { results := [.lit (.bool true)], args := [d1, d2, d3, d4, d5] }
  | _ => none }
def rulesMoreRow : OpenClaim := { program := "ytoehhfhjnjfgiaadoor", sum := "a50c379734b23d53ed45e477ba5adb7fb84600dc3b29f5f51e97b711f1acdcc6", func := "splicery/splicerylaw36.RulesMore", spec := "rulesMore", inPlace := ["internal/bytealg.IndexByteString", "internal/abi.NoEscape"], unfollowed := true, recurses := true, named := ["splicery/lex.kinds", "splicery/lex.signs", "splicery/rules.kinds", "splicery/lex.keywords", "strconv.ErrSyntax", "strconv.ErrRange", "internal/strconv.uint64pow10", "math/bits.deBruijn32tab", "math/bits.deBruijn64tab"], apart := false, laid := [("math/bits.deBruijn32tab", laid_math_bits_deBruijn32tab), ("math/bits.deBruijn64tab", laid_math_bits_deBruijn64tab), ("internal/strconv.uint64pow10", laid_internal_strconv_uint64pow10), ("strconv.ErrRange", laid_strconv_ErrRange), ("strconv.ErrSyntax", laid_strconv_ErrSyntax), ("splicery/lex.signs", laid_splicery_lex_signs), ("splicery/lex.kinds", laid_splicery_lex_kinds), ("splicery/lex.keywords", laid_splicery_lex_keywords), ("splicery/rules.kinds", laid_splicery_rules_kinds)] }
def RulesMoreSaid : Prop := rulesMoreRow.holds Tryd.pinned (OpenSpec.ofChange rulesMoreSpec)

/-- ITS FALSE NEIGHBOUR: 'it returns false'. Refute it at one input. -/
def rulesMoreWrong : ChangeSpec := { name := "rulesMore", fn := fun _ => fun
  | [d1, d2, d3, d4, d5] => { results := [.lit (.bool false)], args := [d1, d2, d3, d4, d5] }
  | _ => none }
def RulesMoreWrongFalsely : Prop := rulesMoreRow.holds Tryd.pinned (OpenSpec.ofChange rulesMoreWrong)

/-- 'splicerylaw36.RulesRound': WHATEVER THE INPUT: true; the input reads as it did. -/
def rulesRoundSpec : ChangeSpec := { name := "rulesRound", fn := fun _ => fun
  | [d1, d2, d3] => { results := [.lit (.bool true)], args := [d1, d2, d3] }
  | _ => none }
def rulesRoundRow : OpenClaim := { program := "ytoehhfhjnjfgiaadoor", sum := "a50c379734b23d53ed45e477ba5adb7fb84600dc3b29f5f51e97b711f1acdcc6", func := "splicery/splicerylaw36.RulesRound", spec := "rulesRound", inPlace := ["internal/abi.NoEscape", "internal/bytealg.IndexByteString"], unfollowed := true, recurses := true, named := ["splicery/rules.kinds", "splicery/lex.keywords", "splicery/lex.kinds", "splicery/lex.signs", "internal/strconv.uint64pow10", "math/bits.deBruijn32tab", "math/bits.deBruijn64tab", "strconv.ErrSyntax", "strconv.ErrRange"], apart := false, laid := [("math/bits.deBruijn32tab", laid_math_bits_deBruijn32tab), ("math/bits.deBruijn64tab", laid_math_bits_deBruijn64tab), ("internal/strconv.uint64pow10", laid_internal_strconv_uint64pow10), ("strconv.ErrRange", laid_strconv_ErrRange), ("strconv.ErrSyntax", laid_strconv_ErrSyntax), ("splicery/lex.signs", laid_splicery_lex_signs), ("splicery/lex.kinds", laid_splicery_lex_kinds), ("splicery/lex.keywords", laid_splicery_lex_keywords), ("splicery/rules.kinds", laid_splicery_rules_kinds)] }
def RulesRoundSaid : Prop := rulesRoundRow.holds Tryd.pinned (OpenSpec.ofChange rulesRoundSpec)

/-- ITS FALSE NEIGHBOUR: 'it returns false'. Refute it at one input. -/
def rulesRoundWrong : ChangeSpec := { name := "rulesRound", fn := fun _ => fun
  | [d1, d2, d3] => { results := [.lit (.bool false)], args := [d1, d2, d3] }
  | _ => none }
def RulesRoundWrongFalsely : Prop := rulesRoundRow.holds Tryd.pinned (OpenSpec.ofChange rulesRoundWrong)

/- THE SECOND FORM. 'bulk': how many values and letters a reading holds, each counted each time it is reached (what is shared counts as often as it is met; a slice's spare places count too). A statement '..UptoSaid' is the law's where the arguments, and the package variables that the reading takes, are together of bulk at most 1048576: NARROWER than '..Said'. Prove '..Said' where nothing that the law and all that it calls make is longer than what came in: it says more and counts as full. Else prove '..UptoSaid'. A law counts once. -/
mutual
def uptoBulk {H : Type} : DataW H → Nat
  | .lit (.string bytes) => bytes.length + 1
  | .lit _ => 1
  | .nil => 1
  | .ptr d => uptoBulk d + 1
  | .slice elems spare => uptoBulkAll elems + uptoBulkAll spare + 1
  | .agg parts => uptoBulkAll parts + 1
  | .iface _ d => uptoBulk d + 1
  | .map entries => uptoBulkEntries entries + 1
  | .held _ => 1
def uptoBulkAll {H : Type} : List (DataW H) → Nat
  | [] => 0
  | d :: r => uptoBulk d + uptoBulkAll r
def uptoBulkEntries {H : Type} : List (Lit × DataW H) → Nat
  | [] => 0
  | x :: r => uptoBulkEntry x + uptoBulkEntries r
def uptoBulkEntry {H : Type} : Lit × DataW H → Nat
  | (.string bytes, d) => bytes.length + uptoBulk d + 1
  | (_, d) => uptoBulk d + 1
 end
def uptoSmall : (H : Type) → List (DataW H) → Bool := fun _ ds => decide (uptoBulkAll ds ≤ 1048576)
def OpenSpec.upto (s : _root_.Go.ChangeSpec) : _root_.Go.OpenSpec := { _root_.Go.OpenSpec.ofChange s with cond := some uptoSmall }

/-- 'splicerylaw36.RulesParses', WHERE WHAT IT READS IS OF BULK AT MOST 1048576: true; the input reads as it did. -/
def rulesParsesUptoRow : OpenClaim := { program := "ytoehhfhjnjfgiaadoor", sum := "a50c379734b23d53ed45e477ba5adb7fb84600dc3b29f5f51e97b711f1acdcc6", func := "splicery/splicerylaw36.RulesParses", spec := "rulesParses", inPlace := ["internal/bytealg.IndexByteString", "internal/abi.NoEscape"], unfollowed := true, recurses := true, named := ["splicery/lex.kinds", "splicery/lex.signs", "splicery/rules.kinds", "splicery/lex.keywords", "strconv.ErrSyntax", "strconv.ErrRange", "internal/strconv.uint64pow10", "math/bits.deBruijn32tab", "math/bits.deBruijn64tab"], apart := false, laid := [("math/bits.deBruijn32tab", laid_math_bits_deBruijn32tab), ("math/bits.deBruijn64tab", laid_math_bits_deBruijn64tab), ("internal/strconv.uint64pow10", laid_internal_strconv_uint64pow10), ("strconv.ErrRange", laid_strconv_ErrRange), ("strconv.ErrSyntax", laid_strconv_ErrSyntax), ("splicery/lex.signs", laid_splicery_lex_signs), ("splicery/lex.kinds", laid_splicery_lex_kinds), ("splicery/lex.keywords", laid_splicery_lex_keywords), ("splicery/rules.kinds", laid_splicery_rules_kinds)], narrowed := true }
def RulesParsesUptoSaid : Prop := rulesParsesUptoRow.holds Tryd.pinned (OpenSpec.upto rulesParsesSpec)

/-- 'splicerylaw36.RulesPrints', WHERE WHAT IT READS IS OF BULK AT MOST 1048576: true; the input reads as it did. -/
def rulesPrintsUptoRow : OpenClaim := { program := "ytoehhfhjnjfgiaadoor", sum := "a50c379734b23d53ed45e477ba5adb7fb84600dc3b29f5f51e97b711f1acdcc6", func := "splicery/splicerylaw36.RulesPrints", spec := "rulesPrints", inPlace := ["internal/abi.NoEscape", "internal/bytealg.IndexByteString"], unfollowed := true, recurses := true, named := ["splicery/rules.kinds", "splicery/lex.keywords", "splicery/lex.kinds", "splicery/lex.signs", "internal/strconv.uint64pow10", "math/bits.deBruijn32tab", "math/bits.deBruijn64tab", "strconv.ErrSyntax", "strconv.ErrRange"], apart := false, laid := [("math/bits.deBruijn32tab", laid_math_bits_deBruijn32tab), ("math/bits.deBruijn64tab", laid_math_bits_deBruijn64tab), ("internal/strconv.uint64pow10", laid_internal_strconv_uint64pow10), ("strconv.ErrRange", laid_strconv_ErrRange), ("strconv.ErrSyntax", laid_strconv_ErrSyntax), ("splicery/lex.signs", laid_splicery_lex_signs), ("splicery/lex.kinds", laid_splicery_lex_kinds), ("splicery/lex.keywords", laid_splicery_lex_keywords), ("splicery/rules.kinds", laid_splicery_rules_kinds)], narrowed := true }
def RulesPrintsUptoSaid : Prop := rulesPrintsUptoRow.holds Tryd.pinned (OpenSpec.upto rulesPrintsSpec)

/-- 'splicerylaw36.RulesEnough', WHERE WHAT IT READS IS OF BULK AT MOST 1048576: true; the input reads as it did. -/
def rulesEnoughUptoRow : OpenClaim := { program := "ytoehhfhjnjfgiaadoor", sum := "a50c379734b23d53ed45e477ba5adb7fb84600dc3b29f5f51e97b711f1acdcc6", func := "splicery/splicerylaw36.RulesEnough", spec := "rulesEnough", inPlace := ["internal/bytealg.IndexByteString", "internal/abi.NoEscape"], unfollowed := true, recurses := true, named := ["splicery/lex.kinds", "splicery/lex.signs", "splicery/rules.kinds", "splicery/lex.keywords", "strconv.ErrSyntax", "strconv.ErrRange", "internal/strconv.uint64pow10", "math/bits.deBruijn32tab", "math/bits.deBruijn64tab"], apart := false, laid := [("math/bits.deBruijn32tab", laid_math_bits_deBruijn32tab), ("math/bits.deBruijn64tab", laid_math_bits_deBruijn64tab), ("internal/strconv.uint64pow10", laid_internal_strconv_uint64pow10), ("strconv.ErrRange", laid_strconv_ErrRange), ("strconv.ErrSyntax", laid_strconv_ErrSyntax), ("splicery/lex.signs", laid_splicery_lex_signs), ("splicery/lex.kinds", laid_splicery_lex_kinds), ("splicery/lex.keywords", laid_splicery_lex_keywords), ("splicery/rules.kinds", laid_splicery_rules_kinds)], narrowed := true }
def RulesEnoughUptoSaid : Prop := rulesEnoughUptoRow.holds Tryd.pinned (OpenSpec.upto rulesEnoughSpec)

/-- 'splicerylaw36.RulesMore', WHERE WHAT IT READS IS OF BULK AT MOST 1048576: true; the input reads as it did. -/
def rulesMoreUptoRow : OpenClaim := { program := "ytoehhfhjnjfgiaadoor", sum := "a50c379734b23d53ed45e477ba5adb7fb84600dc3b29f5f51e97b711f1acdcc6", func := "splicery/splicerylaw36.RulesMore", spec := "rulesMore", inPlace := ["internal/bytealg.IndexByteString", "internal/abi.NoEscape"], unfollowed := true, recurses := true, named := ["splicery/lex.kinds", "splicery/lex.signs", "splicery/rules.kinds", "splicery/lex.keywords", "strconv.ErrSyntax", "strconv.ErrRange", "internal/strconv.uint64pow10", "math/bits.deBruijn32tab", "math/bits.deBruijn64tab"], apart := false, laid := [("math/bits.deBruijn32tab", laid_math_bits_deBruijn32tab), ("math/bits.deBruijn64tab", laid_math_bits_deBruijn64tab), ("internal/strconv.uint64pow10", laid_internal_strconv_uint64pow10), ("strconv.ErrRange", laid_strconv_ErrRange), ("strconv.ErrSyntax", laid_strconv_ErrSyntax), ("splicery/lex.signs", laid_splicery_lex_signs), ("splicery/lex.kinds", laid_splicery_lex_kinds), ("splicery/lex.keywords", laid_splicery_lex_keywords), ("splicery/rules.kinds", laid_splicery_rules_kinds)], narrowed := true }
def RulesMoreUptoSaid : Prop := rulesMoreUptoRow.holds Tryd.pinned (OpenSpec.upto rulesMoreSpec)

/-- 'splicerylaw36.RulesRound', WHERE WHAT IT READS IS OF BULK AT MOST 1048576: true; the input reads as it did. -/
def rulesRoundUptoRow : OpenClaim := { program := "ytoehhfhjnjfgiaadoor", sum := "a50c379734b23d53ed45e477ba5adb7fb84600dc3b29f5f51e97b711f1acdcc6", func := "splicery/splicerylaw36.RulesRound", spec := "rulesRound", inPlace := ["internal/abi.NoEscape", "internal/bytealg.IndexByteString"], unfollowed := true, recurses := true, named := ["splicery/rules.kinds", "splicery/lex.keywords", "splicery/lex.kinds", "splicery/lex.signs", "internal/strconv.uint64pow10", "math/bits.deBruijn32tab", "math/bits.deBruijn64tab", "strconv.ErrSyntax", "strconv.ErrRange"], apart := false, laid := [("math/bits.deBruijn32tab", laid_math_bits_deBruijn32tab), ("math/bits.deBruijn64tab", laid_math_bits_deBruijn64tab), ("internal/strconv.uint64pow10", laid_internal_strconv_uint64pow10), ("strconv.ErrRange", laid_strconv_ErrRange), ("strconv.ErrSyntax", laid_strconv_ErrSyntax), ("splicery/lex.signs", laid_splicery_lex_signs), ("splicery/lex.kinds", laid_splicery_lex_kinds), ("splicery/lex.keywords", laid_splicery_lex_keywords), ("splicery/rules.kinds", laid_splicery_rules_kinds)], narrowed := true }
def RulesRoundUptoSaid : Prop := rulesRoundUptoRow.holds Tryd.pinned (OpenSpec.upto rulesRoundSpec)

end Rows
end Go.Proofs.YtoehhfhjnjfgiaaDoor
