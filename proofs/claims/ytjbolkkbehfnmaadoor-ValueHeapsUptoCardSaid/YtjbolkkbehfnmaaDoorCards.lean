/-
  DERIVED. GIVEN WITH THE SEED: THE CARDS: each row of YtjbolkkbehfnmaaDoorRows.lean that lists a variable, with what it lists TIED to the program's text (the seventh form; the later family's looks); each row that meets fmt, with fmt's text TOLD by the authors' own Lean function (tested against real Go, not proved from fmt's source: count such statements apart). THE CARD IS WHAT COUNTS. Prove the row's statement (the work); the ties are given (YtjbolkkbehfnmaaDoorTie.lean); close each card by the builder's one call (the guide's Derived/Test/ToyasCard.lean, 'card_holds'). Laid BY PROGRAM, IN A SANDBOX (cutbox-door.mjs). By AI agents, Wed Nov 11 2026. No macro, syntax, notation, axiom, sorry.
-/
import Derived.Test.YtjbolkkbehfnmaaDoorRows
import GoSem.ClaimSeven
namespace Go.Proofs.YtjbolkkbehfnmaaDoor
namespace Rows

/-- THE TIED CARD OF 'gussetlaw23.ValueHeaps'. -/
def valueHeapsCard : Claim7 := { stood := { row := valueHeapsRow, standIns := [], harness := (true, "abbc0d38a887d5990d0a0ace6c480498c9b7a318ec0df262d90ba634e68463a9"), looks := true }, kinds := [], alts := [], laidByText := true, laidKinds := [.data, .data, .data], laidTests := true, laidLooks := .later }
def ValueHeapsCardSaid : Prop := Claim7.holds Tryd.pinned (.plain (OpenSpec.ofChange valueHeapsSpec)) valueHeapsCard

/-- THE TIED CARD OF 'gussetlaw23.ValueNone'. -/
def valueNoneCard : Claim7 := { stood := { row := valueNoneRow, standIns := [], harness := (true, "abbc0d38a887d5990d0a0ace6c480498c9b7a318ec0df262d90ba634e68463a9"), looks := true }, kinds := [], alts := [], laidByText := true, laidKinds := [.data, .data, .data], laidTests := true, laidLooks := .later }
def ValueNoneCardSaid : Prop := Claim7.holds Tryd.pinned (.plain (OpenSpec.ofChange valueNoneSpec)) valueNoneCard

/-- THE TIED CARD OF 'gussetlaw23.ValueApart'. -/
def valueApartCard : Claim7 := { stood := { row := valueApartRow, standIns := [], harness := (true, "abbc0d38a887d5990d0a0ace6c480498c9b7a318ec0df262d90ba634e68463a9"), looks := true }, kinds := [], alts := [], laidByText := true, laidKinds := [.data, .data, .data], laidTests := true, laidLooks := .later }
def ValueApartCardSaid : Prop := Claim7.holds Tryd.pinned (.plain (OpenSpec.ofChange valueApartSpec)) valueApartCard

/-- THE SECOND FORM's CARD OF 'gussetlaw23.ValueHeaps'. -/
def valueHeapsUptoCard : Claim7 := { stood := { row := valueHeapsUptoRow, standIns := [], harness := (true, "abbc0d38a887d5990d0a0ace6c480498c9b7a318ec0df262d90ba634e68463a9"), looks := true }, kinds := [], alts := [], laidByText := true, laidKinds := [.data, .data, .data], laidTests := true, laidLooks := .later }
def ValueHeapsUptoCardSaid : Prop := Claim7.holds Tryd.pinned (.plain (OpenSpec.upto valueHeapsSpec)) valueHeapsUptoCard

/-- THE SECOND FORM's CARD OF 'gussetlaw23.ValueNone'. -/
def valueNoneUptoCard : Claim7 := { stood := { row := valueNoneUptoRow, standIns := [], harness := (true, "abbc0d38a887d5990d0a0ace6c480498c9b7a318ec0df262d90ba634e68463a9"), looks := true }, kinds := [], alts := [], laidByText := true, laidKinds := [.data, .data, .data], laidTests := true, laidLooks := .later }
def ValueNoneUptoCardSaid : Prop := Claim7.holds Tryd.pinned (.plain (OpenSpec.upto valueNoneSpec)) valueNoneUptoCard

/-- THE SECOND FORM's CARD OF 'gussetlaw23.ValueApart'. -/
def valueApartUptoCard : Claim7 := { stood := { row := valueApartUptoRow, standIns := [], harness := (true, "abbc0d38a887d5990d0a0ace6c480498c9b7a318ec0df262d90ba634e68463a9"), looks := true }, kinds := [], alts := [], laidByText := true, laidKinds := [.data, .data, .data], laidTests := true, laidLooks := .later }
def ValueApartUptoCardSaid : Prop := Claim7.holds Tryd.pinned (.plain (OpenSpec.upto valueApartSpec)) valueApartUptoCard
end Rows
end Go.Proofs.YtjbolkkbehfnmaaDoor
