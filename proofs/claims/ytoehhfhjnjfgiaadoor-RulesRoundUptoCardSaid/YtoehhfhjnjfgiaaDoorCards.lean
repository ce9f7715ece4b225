/-
  DERIVED. GIVEN WITH THE SEED: THE CARDS: each row of YtoehhfhjnjfgiaaDoorRows.lean that lists a variable, with what it lists TIED to the program's text (the seventh form; the later family's looks); each row that meets fmt, with fmt's text TOLD by the authors' own Lean function (tested against real Go, not proved from fmt's source: count such statements apart). THE CARD IS WHAT COUNTS. Prove the row's statement (the work); the ties are given (YtoehhfhjnjfgiaaDoorTie.lean); close each card by the builder's one call (the guide's Derived/Test/ToyasCard.lean, 'card_holds'). Laid BY PROGRAM, IN A SANDBOX (cutbox-door.mjs). By AI agents, Wed Nov 11 2026. No macro, syntax, notation, axiom, sorry.
-/
import Derived.Test.YtoehhfhjnjfgiaaDoorRows
import GoSem.ClaimSeven
namespace Go.Proofs.YtoehhfhjnjfgiaaDoor
namespace Rows

/-- THE TIED CARD OF 'splicerylaw36.RulesParses'. -/
def rulesParsesCard : Claim7 := { stood := { row := rulesParsesRow, standIns := [], harness := (true, "5e8a1f2298215bfb3a81ab5265c6c93f3a314ea6ef3747548ffa94759c1de041"), looks := true }, kinds := [], alts := [], laidByText := true, laidKinds := [.data, .data, .data, .sentinel, .sentinel, .data, .funcs, .widerDeep, .widerDeep], laidTests := true, laidLooks := .later }
def RulesParsesCardSaid : Prop := Claim7.holds Tryd.pinned (.plain (OpenSpec.ofChange rulesParsesSpec)) rulesParsesCard

/-- THE TIED CARD OF 'splicerylaw36.RulesPrints'. -/
def rulesPrintsCard : Claim7 := { stood := { row := rulesPrintsRow, standIns := [], harness := (true, "5e8a1f2298215bfb3a81ab5265c6c93f3a314ea6ef3747548ffa94759c1de041"), looks := true }, kinds := [], alts := [], laidByText := true, laidKinds := [.data, .data, .data, .sentinel, .sentinel, .data, .funcs, .widerDeep, .widerDeep], laidTests := true, laidLooks := .later }
def RulesPrintsCardSaid : Prop := Claim7.holds Tryd.pinned (.plain (OpenSpec.ofChange rulesPrintsSpec)) rulesPrintsCard

/-- THE TIED CARD OF 'splicerylaw36.RulesEnough'. -/
def rulesEnoughCard : Claim7 := { stood := { row := rulesEnoughRow, standIns := [], harness := (true, "5e8a1f2298215bfb3a81ab5265c6c93f3a314ea6ef3747548ffa94759c1de041"), looks := true }, kinds := [], alts := [], laidByText := true, laidKinds := [.data, .data, .data, .sentinel, .sentinel, .data, .funcs, .widerDeep, .widerDeep], laidTests := true, laidLooks := .later }
def RulesEnoughCardSaid : Prop := Claim7.holds Tryd.pinned (.plain (OpenSpec.ofChange rulesEnoughSpec)) rulesEnoughCard

/-- THE TIED CARD OF 'splicerylaw36.RulesMore'. -/
def rulesMoreCard : Claim7 := { stood := { row := rulesMoreRow, standIns := [], harness := (true, "5e8a1f2298215bfb3a81ab5265c6c93f3a314ea6ef3747548ffa94759c1de041"), looks := true }, kinds := [], alts := [], laidByText := true, laidKinds := [.data, .data, .data, .sentinel, .sentinel, .data, .funcs, .widerDeep, .widerDeep], laidTests := true, laidLooks := .later }
def RulesMoreCardSaid : Prop := Claim7.holds Tryd.pinned (.plain (OpenSpec.ofChange rulesMoreSpec)) rulesMoreCard

/-- THE TIED CARD OF 'splicerylaw36.RulesRound'. -/
def rulesRoundCard : Claim7 := { stood := { row := rulesRoundRow, standIns := [], harness := (true, "5e8a1f2298215bfb3a81ab5265c6c93f3a314ea6ef3747548ffa94759c1de041"), looks := true }, kinds := [], alts := [], laidByText := true, laidKinds := [.data, .data, .data, .sentinel, .sentinel, .data, .funcs, .widerDeep, .widerDeep], laidTests := true, laidLooks := .later }
def RulesRoundCardSaid : Prop := Claim7.holds Tryd.pinned (.plain (OpenSpec.ofChange rulesRoundSpec)) rulesRoundCard

/-- THE SECOND FORM's CARD OF 'splicerylaw36.RulesParses'. -/
def rulesParsesUptoCard : Claim7 := { stood := { row := rulesParsesUptoRow, standIns := [], harness := (true, "5e8a1f2298215bfb3a81ab5265c6c93f3a314ea6ef3747548ffa94759c1de041"), looks := true }, kinds := [], alts := [], laidByText := true, laidKinds := [.data, .data, .data, .sentinel, .sentinel, .data, .funcs, .widerDeep, .widerDeep], laidTests := true, laidLooks := .later }
def RulesParsesUptoCardSaid : Prop := Claim7.holds Tryd.pinned (.plain (OpenSpec.upto rulesParsesSpec)) rulesParsesUptoCard

/-- THE SECOND FORM's CARD OF 'splicerylaw36.RulesPrints'. -/
def rulesPrintsUptoCard : Claim7 := { stood := { row := rulesPrintsUptoRow, standIns := [], harness := (true, "5e8a1f2298215bfb3a81ab5265c6c93f3a314ea6ef3747548ffa94759c1de041"), looks := true }, kinds := [], alts := [], laidByText := true, laidKinds := [.data, .data, .data, .sentinel, .sentinel, .data, .funcs, .widerDeep, .widerDeep], laidTests := true, laidLooks := .later }
def RulesPrintsUptoCardSaid : Prop := Claim7.holds Tryd.pinned (.plain (OpenSpec.upto rulesPrintsSpec)) rulesPrintsUptoCard

/-- THE SECOND FORM's CARD OF 'splicerylaw36.RulesEnough'. -/
def rulesEnoughUptoCard : Claim7 := { stood := { row := rulesEnoughUptoRow, standIns := [], harness := (true, "5e8a1f2298215bfb3a81ab5265c6c93f3a314ea6ef3747548ffa94759c1de041"), looks := true }, kinds := [], alts := [], laidByText := true, laidKinds := [.data, .data, .data, .sentinel, .sentinel, .data, .funcs, .widerDeep, .widerDeep], laidTests := true, laidLooks := .later }
def RulesEnoughUptoCardSaid : Prop := Claim7.holds Tryd.pinned (.plain (OpenSpec.upto rulesEnoughSpec)) rulesEnoughUptoCard

/-- THE SECOND FORM's CARD OF 'splicerylaw36.RulesMore'. -/
def rulesMoreUptoCard : Claim7 := { stood := { row := rulesMoreUptoRow, standIns := [], harness := (true, "5e8a1f2298215bfb3a81ab5265c6c93f3a314ea6ef3747548ffa94759c1de041"), looks := true }, kinds := [], alts := [], laidByText := true, laidKinds := [.data, .data, .data, .sentinel, .sentinel, .data, .funcs, .widerDeep, .widerDeep], laidTests := true, laidLooks := .later }
def RulesMoreUptoCardSaid : Prop := Claim7.holds Tryd.pinned (.plain (OpenSpec.upto rulesMoreSpec)) rulesMoreUptoCard

/-- THE SECOND FORM's CARD OF 'splicerylaw36.RulesRound'. -/
def rulesRoundUptoCard : Claim7 := { stood := { row := rulesRoundUptoRow, standIns := [], harness := (true, "5e8a1f2298215bfb3a81ab5265c6c93f3a314ea6ef3747548ffa94759c1de041"), looks := true }, kinds := [], alts := [], laidByText := true, laidKinds := [.data, .data, .data, .sentinel, .sentinel, .data, .funcs, .widerDeep, .widerDeep], laidTests := true, laidLooks := .later }
def RulesRoundUptoCardSaid : Prop := Claim7.holds Tryd.pinned (.plain (OpenSpec.upto rulesRoundSpec)) rulesRoundUptoCard
end Rows
end Go.Proofs.YtoehhfhjnjfgiaaDoor
