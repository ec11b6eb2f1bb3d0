/-
  DERIVED. GIVEN WITH THE SEED: THE CARDS: each row of YtdheakalfleleaaDoorRows.lean that lists a variable, with what it lists TIED to the program's text (the seventh form; the later family's looks); each row that meets fmt, with fmt's text TOLD by the authors' own Lean function (tested against real Go, not proved from fmt's source: count such statements apart). THE CARD IS WHAT COUNTS. Prove the row's statement (the work); the ties are given (YtdheakalfleleaaDoorTie.lean); close each card by the builder's one call (the guide's Derived/Test/ToyasCard.lean, 'card_holds'). Laid BY PROGRAM, IN A SANDBOX (cutbox-door.mjs). By AI agents, Wed Nov 11 2026. No macro, syntax, notation, axiom, sorry.
-/
import Derived.Test.YtdheakalfleleaaDoorRows
import GoSem.ClaimSeven
namespace Go.Proofs.YtdheakalfleleaaDoor
namespace Rows

/-- THE TIED CARD OF 'gussetlaw24.OperUnary'. -/
def operUnaryCard : Claim7 := { stood := { row := operUnaryRow, standIns := [], harness := (true, "8f90b812393ba91a0ce7b4cbd54f352dfe0693f5874101eadbd8525554f27c49"), looks := true }, kinds := [], alts := [], laidByText := true, laidKinds := [.data, .data, .data, .sentinel, .sentinel, .data], laidTests := true, laidLooks := .later }
def OperUnaryCardSaid : Prop := Claim7.holds Tryd.pinned (.plain (OpenSpec.ofChange operUnarySpec)) operUnaryCard

/-- THE TIED CARD OF 'gussetlaw24.OperBinary'. -/
def operBinaryCard : Claim7 := { stood := { row := operBinaryRow, standIns := [], harness := (true, "8f90b812393ba91a0ce7b4cbd54f352dfe0693f5874101eadbd8525554f27c49"), looks := true }, kinds := [], alts := [], laidByText := true, laidKinds := [.data, .data, .data, .sentinel, .sentinel, .data], laidTests := true, laidLooks := .later }
def OperBinaryCardSaid : Prop := Claim7.holds Tryd.pinned (.plain (OpenSpec.ofChange operBinarySpec)) operBinaryCard

/-- THE TIED CARD OF 'gussetlaw24.OperMembers'. -/
def operMembersCard : Claim7 := { stood := { row := operMembersRow, standIns := [], harness := (true, "8f90b812393ba91a0ce7b4cbd54f352dfe0693f5874101eadbd8525554f27c49"), looks := true }, kinds := [], alts := [], laidByText := true, laidKinds := [.data, .data, .data, .sentinel, .sentinel, .data], laidTests := true, laidLooks := .later }
def OperMembersCardSaid : Prop := Claim7.holds Tryd.pinned (.plain (OpenSpec.ofChange operMembersSpec)) operMembersCard

/-- THE TIED CARD OF 'gussetlaw24.OperActs'. -/
def operActsCard : Claim7 := { stood := { row := operActsRow, standIns := [], harness := (true, "8f90b812393ba91a0ce7b4cbd54f352dfe0693f5874101eadbd8525554f27c49"), looks := true }, kinds := [], alts := [], laidByText := true, laidKinds := [.data, .data, .data, .sentinel, .sentinel, .data], laidTests := true, laidLooks := .later }
def OperActsCardSaid : Prop := Claim7.holds Tryd.pinned (.plain (OpenSpec.ofChange operActsSpec)) operActsCard

/-- THE TIED CARD OF 'gussetlaw24.OperNumbers'. -/
def operNumbersCard : Claim7 := { stood := { row := operNumbersRow, standIns := [], harness := (true, "8f90b812393ba91a0ce7b4cbd54f352dfe0693f5874101eadbd8525554f27c49"), looks := true }, kinds := [], alts := [], laidByText := true, laidKinds := [.data, .data, .data, .sentinel, .sentinel, .data], laidTests := true, laidLooks := .later }
def OperNumbersCardSaid : Prop := Claim7.holds Tryd.pinned (.plain (OpenSpec.ofChange operNumbersSpec)) operNumbersCard

/-- THE TIED CARD OF 'gussetlaw24.OperOrders'. -/
def operOrdersCard : Claim7 := { stood := { row := operOrdersRow, standIns := [], harness := (true, "8f90b812393ba91a0ce7b4cbd54f352dfe0693f5874101eadbd8525554f27c49"), looks := true }, kinds := [], alts := [], laidByText := true, laidKinds := [.data, .data, .data, .sentinel, .sentinel, .data], laidTests := true, laidLooks := .later }
def OperOrdersCardSaid : Prop := Claim7.holds Tryd.pinned (.plain (OpenSpec.ofChange operOrdersSpec)) operOrdersCard

/-- THE TIED CARD OF 'gussetlaw24.OperTexts'. -/
def operTextsCard : Claim7 := { stood := { row := operTextsRow, standIns := [], harness := (true, "8f90b812393ba91a0ce7b4cbd54f352dfe0693f5874101eadbd8525554f27c49"), looks := true }, kinds := [], alts := [], laidByText := true, laidKinds := [.data, .data, .data, .sentinel, .sentinel, .data], laidTests := true, laidLooks := .later }
def OperTextsCardSaid : Prop := Claim7.holds Tryd.pinned (.plain (OpenSpec.ofChange operTextsSpec)) operTextsCard

/-- THE SECOND FORM's CARD OF 'gussetlaw24.OperUnary'. -/
def operUnaryUptoCard : Claim7 := { stood := { row := operUnaryUptoRow, standIns := [], harness := (true, "8f90b812393ba91a0ce7b4cbd54f352dfe0693f5874101eadbd8525554f27c49"), looks := true }, kinds := [], alts := [], laidByText := true, laidKinds := [.data, .data, .data, .sentinel, .sentinel, .data], laidTests := true, laidLooks := .later }
def OperUnaryUptoCardSaid : Prop := Claim7.holds Tryd.pinned (.plain (OpenSpec.upto operUnarySpec)) operUnaryUptoCard

/-- THE SECOND FORM's CARD OF 'gussetlaw24.OperBinary'. -/
def operBinaryUptoCard : Claim7 := { stood := { row := operBinaryUptoRow, standIns := [], harness := (true, "8f90b812393ba91a0ce7b4cbd54f352dfe0693f5874101eadbd8525554f27c49"), looks := true }, kinds := [], alts := [], laidByText := true, laidKinds := [.data, .data, .data, .sentinel, .sentinel, .data], laidTests := true, laidLooks := .later }
def OperBinaryUptoCardSaid : Prop := Claim7.holds Tryd.pinned (.plain (OpenSpec.upto operBinarySpec)) operBinaryUptoCard

/-- THE SECOND FORM's CARD OF 'gussetlaw24.OperMembers'. -/
def operMembersUptoCard : Claim7 := { stood := { row := operMembersUptoRow, standIns := [], harness := (true, "8f90b812393ba91a0ce7b4cbd54f352dfe0693f5874101eadbd8525554f27c49"), looks := true }, kinds := [], alts := [], laidByText := true, laidKinds := [.data, .data, .data, .sentinel, .sentinel, .data], laidTests := true, laidLooks := .later }
def OperMembersUptoCardSaid : Prop := Claim7.holds Tryd.pinned (.plain (OpenSpec.upto operMembersSpec)) operMembersUptoCard

/-- THE SECOND FORM's CARD OF 'gussetlaw24.OperActs'. -/
def operActsUptoCard : Claim7 := { stood := { row := operActsUptoRow, standIns := [], harness := (true, "8f90b812393ba91a0ce7b4cbd54f352dfe0693f5874101eadbd8525554f27c49"), looks := true }, kinds := [], alts := [], laidByText := true, laidKinds := [.data, .data, .data, .sentinel, .sentinel, .data], laidTests := true, laidLooks := .later }
def OperActsUptoCardSaid : Prop := Claim7.holds Tryd.pinned (.plain (OpenSpec.upto operActsSpec)) operActsUptoCard

/-- THE SECOND FORM's CARD OF 'gussetlaw24.OperNumbers'. -/
def operNumbersUptoCard : Claim7 := { stood := { row := operNumbersUptoRow, standIns := [], harness := (true, "8f90b812393ba91a0ce7b4cbd54f352dfe0693f5874101eadbd8525554f27c49"), looks := true }, kinds := [], alts := [], laidByText := true, laidKinds := [.data, .data, .data, .sentinel, .sentinel, .data], laidTests := true, laidLooks := .later }
def OperNumbersUptoCardSaid : Prop := Claim7.holds Tryd.pinned (.plain (OpenSpec.upto operNumbersSpec)) operNumbersUptoCard

/-- THE SECOND FORM's CARD OF 'gussetlaw24.OperOrders'. -/
def operOrdersUptoCard : Claim7 := { stood := { row := operOrdersUptoRow, standIns := [], harness := (true, "8f90b812393ba91a0ce7b4cbd54f352dfe0693f5874101eadbd8525554f27c49"), looks := true }, kinds := [], alts := [], laidByText := true, laidKinds := [.data, .data, .data, .sentinel, .sentinel, .data], laidTests := true, laidLooks := .later }
def OperOrdersUptoCardSaid : Prop := Claim7.holds Tryd.pinned (.plain (OpenSpec.upto operOrdersSpec)) operOrdersUptoCard

/-- THE SECOND FORM's CARD OF 'gussetlaw24.OperTexts'. -/
def operTextsUptoCard : Claim7 := { stood := { row := operTextsUptoRow, standIns := [], harness := (true, "8f90b812393ba91a0ce7b4cbd54f352dfe0693f5874101eadbd8525554f27c49"), looks := true }, kinds := [], alts := [], laidByText := true, laidKinds := [.data, .data, .data, .sentinel, .sentinel, .data], laidTests := true, laidLooks := .later }
def OperTextsUptoCardSaid : Prop := Claim7.holds Tryd.pinned (.plain (OpenSpec.upto operTextsSpec)) operTextsUptoCard
end Rows
end Go.Proofs.YtdheakalfleleaaDoor
