/-
  DERIVED. GIVEN WITH THE SEED: THE CARDS: each row of YtjcajpkgamolkaaDoorRows.lean that lists a variable, with what it lists TIED to the program's text (the seventh form; the later family's looks); each row that meets fmt, with fmt's text TOLD by the authors' own Lean function (tested against real Go, not proved from fmt's source: count such statements apart). THE CARD IS WHAT COUNTS. Prove the row's statement (the work); the ties are given (YtjcajpkgamolkaaDoorTie.lean); close each card by the builder's one call (the guide's Derived/Test/ToyasCard.lean, 'card_holds'). Laid BY PROGRAM, IN A SANDBOX (cutbox-door.mjs). By AI agents, Wed Nov 11 2026. No macro, syntax, notation, axiom, sorry.
-/
import Derived.Test.YtjcajpkgamolkaaDoorRows
import GoSem.ClaimSeven
namespace Go.Proofs.YtjcajpkgamolkaaDoor
namespace Rows

/-- THE TIED CARD OF 'gussetlaw14.TypesChecks'. -/
def typesChecksCard : Claim7 := { stood := { row := typesChecksRow, standIns := [], harness := (true, "eaf32eb69fc07427a74d2bec413f038da0b76b449b696f9936208369a9d4c4b9"), looks := false }, kinds := [], alts := [], laidByText := true, laidKinds := [.data, .data, .data], laidTests := true, laidLooks := .later }
def TypesChecksCardSaid : Prop := Claim7.holds Tryd.pinned (.plain (OpenSpec.ofChange typesChecksSpec)) typesChecksCard

/-- THE TIED CARD OF 'gussetlaw14.TypesCompares'. -/
def typesComparesCard : Claim7 := { stood := { row := typesComparesRow, standIns := [], harness := (true, "eaf32eb69fc07427a74d2bec413f038da0b76b449b696f9936208369a9d4c4b9"), looks := false }, kinds := [], alts := [], laidByText := true, laidKinds := [.data, .data, .data], laidTests := true, laidLooks := .later }
def TypesComparesCardSaid : Prop := Claim7.holds Tryd.pinned (.plain (OpenSpec.ofChange typesComparesSpec)) typesComparesCard

/-- THE TIED CARD OF 'gussetlaw14.TypesUnions'. -/
def typesUnionsCard : Claim7 := { stood := { row := typesUnionsRow, standIns := [], harness := (true, "eaf32eb69fc07427a74d2bec413f038da0b76b449b696f9936208369a9d4c4b9"), looks := false }, kinds := [], alts := [], laidByText := true, laidKinds := [.data, .data, .data], laidTests := true, laidLooks := .later }
def TypesUnionsCardSaid : Prop := Claim7.holds Tryd.pinned (.plain (OpenSpec.ofChange typesUnionsSpec)) typesUnionsCard

/-- THE TIED CARD OF 'gussetlaw14.TypesRecords'. -/
def typesRecordsCard : Claim7 := { stood := { row := typesRecordsRow, standIns := [], harness := (true, "eaf32eb69fc07427a74d2bec413f038da0b76b449b696f9936208369a9d4c4b9"), looks := false }, kinds := [], alts := [], laidByText := true, laidKinds := [.data, .data, .data], laidTests := true, laidLooks := .later }
def TypesRecordsCardSaid : Prop := Claim7.holds Tryd.pinned (.plain (OpenSpec.ofChange typesRecordsSpec)) typesRecordsCard

/-- THE TIED CARD OF 'gussetlaw14.TypesOrder'. -/
def typesOrderCard : Claim7 := { stood := { row := typesOrderRow, standIns := [], harness := (true, "eaf32eb69fc07427a74d2bec413f038da0b76b449b696f9936208369a9d4c4b9"), looks := false }, kinds := [], alts := [], laidByText := true, laidKinds := [.data, .data, .data], laidTests := true, laidLooks := .later }
def TypesOrderCardSaid : Prop := Claim7.holds Tryd.pinned (.plain (OpenSpec.ofChange typesOrderSpec)) typesOrderCard

/-- THE TIED CARD OF 'gussetlaw14.TypesSets'. -/
def typesSetsCard : Claim7 := { stood := { row := typesSetsRow, standIns := [], harness := (true, "eaf32eb69fc07427a74d2bec413f038da0b76b449b696f9936208369a9d4c4b9"), looks := false }, kinds := [], alts := [], laidByText := true, laidKinds := [.data, .data, .data], laidTests := true, laidLooks := .later }
def TypesSetsCardSaid : Prop := Claim7.holds Tryd.pinned (.plain (OpenSpec.ofChange typesSetsSpec)) typesSetsCard

/-- THE TIED CARD OF 'gussetlaw14.TypesApart'. -/
def typesApartCard : Claim7 := { stood := { row := typesApartRow, standIns := [], harness := (true, "eaf32eb69fc07427a74d2bec413f038da0b76b449b696f9936208369a9d4c4b9"), looks := false }, kinds := [], alts := [], laidByText := true, laidKinds := [.data, .data, .data], laidTests := true, laidLooks := .later }
def TypesApartCardSaid : Prop := Claim7.holds Tryd.pinned (.plain (OpenSpec.ofChange typesApartSpec)) typesApartCard

/-- THE TIED CARD OF 'gussetlaw14.TypesLarge'. -/
def typesLargeCard : Claim7 := { stood := { row := typesLargeRow, standIns := [], harness := (true, "eaf32eb69fc07427a74d2bec413f038da0b76b449b696f9936208369a9d4c4b9"), looks := false }, kinds := [], alts := [], laidByText := true, laidKinds := [.data, .data, .data], laidTests := true, laidLooks := .later }
def TypesLargeCardSaid : Prop := Claim7.holds Tryd.pinned (.plain (OpenSpec.ofChange typesLargeSpec)) typesLargeCard

/-- THE TIED CARD OF 'gussetlaw17.FlowTypeof'. -/
def flowTypeofCard : Claim7 := { stood := { row := flowTypeofRow, standIns := [], harness := (true, "eaf32eb69fc07427a74d2bec413f038da0b76b449b696f9936208369a9d4c4b9"), looks := false }, kinds := [], alts := [], laidByText := true, laidKinds := [.data, .pinned], laidTests := true, laidLooks := .later }
def FlowTypeofCardSaid : Prop := Claim7.holds Tryd.pinned (.plain (OpenSpec.ofChange flowTypeofSpec)) flowTypeofCard

/-- THE SECOND FORM's CARD OF 'gussetlaw14.TypesChecks'. -/
def typesChecksUptoCard : Claim7 := { stood := { row := typesChecksUptoRow, standIns := [], harness := (true, "eaf32eb69fc07427a74d2bec413f038da0b76b449b696f9936208369a9d4c4b9"), looks := false }, kinds := [], alts := [], laidByText := true, laidKinds := [.data, .data, .data], laidTests := true, laidLooks := .later }
def TypesChecksUptoCardSaid : Prop := Claim7.holds Tryd.pinned (.plain (OpenSpec.upto typesChecksSpec)) typesChecksUptoCard

/-- THE SECOND FORM's CARD OF 'gussetlaw14.TypesCompares'. -/
def typesComparesUptoCard : Claim7 := { stood := { row := typesComparesUptoRow, standIns := [], harness := (true, "eaf32eb69fc07427a74d2bec413f038da0b76b449b696f9936208369a9d4c4b9"), looks := false }, kinds := [], alts := [], laidByText := true, laidKinds := [.data, .data, .data], laidTests := true, laidLooks := .later }
def TypesComparesUptoCardSaid : Prop := Claim7.holds Tryd.pinned (.plain (OpenSpec.upto typesComparesSpec)) typesComparesUptoCard

/-- THE SECOND FORM's CARD OF 'gussetlaw14.TypesUnions'. -/
def typesUnionsUptoCard : Claim7 := { stood := { row := typesUnionsUptoRow, standIns := [], harness := (true, "eaf32eb69fc07427a74d2bec413f038da0b76b449b696f9936208369a9d4c4b9"), looks := false }, kinds := [], alts := [], laidByText := true, laidKinds := [.data, .data, .data], laidTests := true, laidLooks := .later }
def TypesUnionsUptoCardSaid : Prop := Claim7.holds Tryd.pinned (.plain (OpenSpec.upto typesUnionsSpec)) typesUnionsUptoCard

/-- THE SECOND FORM's CARD OF 'gussetlaw14.TypesRecords'. -/
def typesRecordsUptoCard : Claim7 := { stood := { row := typesRecordsUptoRow, standIns := [], harness := (true, "eaf32eb69fc07427a74d2bec413f038da0b76b449b696f9936208369a9d4c4b9"), looks := false }, kinds := [], alts := [], laidByText := true, laidKinds := [.data, .data, .data], laidTests := true, laidLooks := .later }
def TypesRecordsUptoCardSaid : Prop := Claim7.holds Tryd.pinned (.plain (OpenSpec.upto typesRecordsSpec)) typesRecordsUptoCard

/-- THE SECOND FORM's CARD OF 'gussetlaw14.TypesOrder'. -/
def typesOrderUptoCard : Claim7 := { stood := { row := typesOrderUptoRow, standIns := [], harness := (true, "eaf32eb69fc07427a74d2bec413f038da0b76b449b696f9936208369a9d4c4b9"), looks := false }, kinds := [], alts := [], laidByText := true, laidKinds := [.data, .data, .data], laidTests := true, laidLooks := .later }
def TypesOrderUptoCardSaid : Prop := Claim7.holds Tryd.pinned (.plain (OpenSpec.upto typesOrderSpec)) typesOrderUptoCard

/-- THE SECOND FORM's CARD OF 'gussetlaw14.TypesSets'. -/
def typesSetsUptoCard : Claim7 := { stood := { row := typesSetsUptoRow, standIns := [], harness := (true, "eaf32eb69fc07427a74d2bec413f038da0b76b449b696f9936208369a9d4c4b9"), looks := false }, kinds := [], alts := [], laidByText := true, laidKinds := [.data, .data, .data], laidTests := true, laidLooks := .later }
def TypesSetsUptoCardSaid : Prop := Claim7.holds Tryd.pinned (.plain (OpenSpec.upto typesSetsSpec)) typesSetsUptoCard

/-- THE SECOND FORM's CARD OF 'gussetlaw14.TypesApart'. -/
def typesApartUptoCard : Claim7 := { stood := { row := typesApartUptoRow, standIns := [], harness := (true, "eaf32eb69fc07427a74d2bec413f038da0b76b449b696f9936208369a9d4c4b9"), looks := false }, kinds := [], alts := [], laidByText := true, laidKinds := [.data, .data, .data], laidTests := true, laidLooks := .later }
def TypesApartUptoCardSaid : Prop := Claim7.holds Tryd.pinned (.plain (OpenSpec.upto typesApartSpec)) typesApartUptoCard

/-- THE SECOND FORM's CARD OF 'gussetlaw14.TypesLarge'. -/
def typesLargeUptoCard : Claim7 := { stood := { row := typesLargeUptoRow, standIns := [], harness := (true, "eaf32eb69fc07427a74d2bec413f038da0b76b449b696f9936208369a9d4c4b9"), looks := false }, kinds := [], alts := [], laidByText := true, laidKinds := [.data, .data, .data], laidTests := true, laidLooks := .later }
def TypesLargeUptoCardSaid : Prop := Claim7.holds Tryd.pinned (.plain (OpenSpec.upto typesLargeSpec)) typesLargeUptoCard

/-- THE SECOND FORM's CARD OF 'gussetlaw17.FlowTypeof'. -/
def flowTypeofUptoCard : Claim7 := { stood := { row := flowTypeofUptoRow, standIns := [], harness := (true, "eaf32eb69fc07427a74d2bec413f038da0b76b449b696f9936208369a9d4c4b9"), looks := false }, kinds := [], alts := [], laidByText := true, laidKinds := [.data, .pinned], laidTests := true, laidLooks := .later }
def FlowTypeofUptoCardSaid : Prop := Claim7.holds Tryd.pinned (.plain (OpenSpec.upto flowTypeofSpec)) flowTypeofUptoCard
end Rows
end Go.Proofs.YtjcajpkgamolkaaDoor
