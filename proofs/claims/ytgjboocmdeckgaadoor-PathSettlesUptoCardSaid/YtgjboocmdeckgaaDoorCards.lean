/-
  DERIVED. GIVEN WITH THE SEED: THE CARDS: each row of YtgjboocmdeckgaaDoorRows.lean that lists a variable, with what it lists TIED to the program's text (the seventh form; the later family's looks); each row that meets fmt, with fmt's text TOLD by the authors' own Lean function (tested against real Go, not proved from fmt's source: count such statements apart). THE CARD IS WHAT COUNTS. Prove the row's statement (the work); the ties are given (YtgjboocmdeckgaaDoorTie.lean); close each card by the builder's one call (the guide's Derived/Test/ToyasCard.lean, 'card_holds'). Laid BY PROGRAM, IN A SANDBOX (cutbox-door.mjs). By AI agents, Wed Nov 11 2026. No macro, syntax, notation, axiom, sorry.
-/
import Derived.Test.YtgjboocmdeckgaaDoorRows
import GoSem.ClaimSeven
namespace Go.Proofs.YtgjboocmdeckgaaDoor
namespace Rows

/-- THE TIED CARD OF 'gussetlaw03.PathNormals'. -/
def pathNormalsCard : Claim7 := { stood := { row := pathNormalsRow, standIns := [], harness := (true, "a5d06a85f9672731eb43a0fc96307a00fc5489447debba957dbeaae9fa8a634c"), looks := false }, kinds := [], alts := [], laidByText := true, laidKinds := [.data, .pinned], laidTests := true, laidLooks := .later }
def PathNormalsCardSaid : Prop := Claim7.holds Tryd.pinned (.plain (OpenSpec.ofChange pathNormalsSpec)) pathNormalsCard

/-- THE TIED CARD OF 'gussetlaw03.PathJoins'. -/
def pathJoinsCard : Claim7 := { stood := { row := pathJoinsRow, standIns := [], harness := (true, "a5d06a85f9672731eb43a0fc96307a00fc5489447debba957dbeaae9fa8a634c"), looks := false }, kinds := [], alts := [], laidByText := true, laidKinds := [.data, .pinned], laidTests := true, laidLooks := .later }
def PathJoinsCardSaid : Prop := Claim7.holds Tryd.pinned (.plain (OpenSpec.ofChange pathJoinsSpec)) pathJoinsCard

/-- THE TIED CARD OF 'gussetlaw03.PathProbes'. -/
def pathProbesCard : Claim7 := { stood := { row := pathProbesRow, standIns := [], harness := (true, "a5d06a85f9672731eb43a0fc96307a00fc5489447debba957dbeaae9fa8a634c"), looks := false }, kinds := [], alts := [], laidByText := true, laidKinds := [.data, .pinned], laidTests := true, laidLooks := .later }
def PathProbesCardSaid : Prop := Claim7.holds Tryd.pinned (.plain (OpenSpec.ofChange pathProbesSpec)) pathProbesCard

/-- THE TIED CARD OF 'gussetlaw03.PathSettles'. -/
def pathSettlesCard : Claim7 := { stood := { row := pathSettlesRow, standIns := [], harness := (true, "a5d06a85f9672731eb43a0fc96307a00fc5489447debba957dbeaae9fa8a634c"), looks := false }, kinds := [], alts := [], laidByText := true, laidKinds := [.data, .pinned], laidTests := true, laidLooks := .later }
def PathSettlesCardSaid : Prop := Claim7.holds Tryd.pinned (.plain (OpenSpec.ofChange pathSettlesSpec)) pathSettlesCard

/-- THE TIED CARD OF 'gussetlaw03.PathUp'. -/
def pathUpCard : Claim7 := { stood := { row := pathUpRow, standIns := [], harness := (true, "a5d06a85f9672731eb43a0fc96307a00fc5489447debba957dbeaae9fa8a634c"), looks := false }, kinds := [], alts := [], laidByText := true, laidKinds := [.data, .pinned], laidTests := true, laidLooks := .later }
def PathUpCardSaid : Prop := Claim7.holds Tryd.pinned (.plain (OpenSpec.ofChange pathUpSpec)) pathUpCard

/-- THE SECOND FORM's CARD OF 'gussetlaw03.PathNormals'. -/
def pathNormalsUptoCard : Claim7 := { stood := { row := pathNormalsUptoRow, standIns := [], harness := (true, "a5d06a85f9672731eb43a0fc96307a00fc5489447debba957dbeaae9fa8a634c"), looks := false }, kinds := [], alts := [], laidByText := true, laidKinds := [.data, .pinned], laidTests := true, laidLooks := .later }
def PathNormalsUptoCardSaid : Prop := Claim7.holds Tryd.pinned (.plain (OpenSpec.upto pathNormalsSpec)) pathNormalsUptoCard

/-- THE SECOND FORM's CARD OF 'gussetlaw03.PathJoins'. -/
def pathJoinsUptoCard : Claim7 := { stood := { row := pathJoinsUptoRow, standIns := [], harness := (true, "a5d06a85f9672731eb43a0fc96307a00fc5489447debba957dbeaae9fa8a634c"), looks := false }, kinds := [], alts := [], laidByText := true, laidKinds := [.data, .pinned], laidTests := true, laidLooks := .later }
def PathJoinsUptoCardSaid : Prop := Claim7.holds Tryd.pinned (.plain (OpenSpec.upto pathJoinsSpec)) pathJoinsUptoCard

/-- THE SECOND FORM's CARD OF 'gussetlaw03.PathProbes'. -/
def pathProbesUptoCard : Claim7 := { stood := { row := pathProbesUptoRow, standIns := [], harness := (true, "a5d06a85f9672731eb43a0fc96307a00fc5489447debba957dbeaae9fa8a634c"), looks := false }, kinds := [], alts := [], laidByText := true, laidKinds := [.data, .pinned], laidTests := true, laidLooks := .later }
def PathProbesUptoCardSaid : Prop := Claim7.holds Tryd.pinned (.plain (OpenSpec.upto pathProbesSpec)) pathProbesUptoCard

/-- THE SECOND FORM's CARD OF 'gussetlaw03.PathSettles'. -/
def pathSettlesUptoCard : Claim7 := { stood := { row := pathSettlesUptoRow, standIns := [], harness := (true, "a5d06a85f9672731eb43a0fc96307a00fc5489447debba957dbeaae9fa8a634c"), looks := false }, kinds := [], alts := [], laidByText := true, laidKinds := [.data, .pinned], laidTests := true, laidLooks := .later }
def PathSettlesUptoCardSaid : Prop := Claim7.holds Tryd.pinned (.plain (OpenSpec.upto pathSettlesSpec)) pathSettlesUptoCard

/-- THE SECOND FORM's CARD OF 'gussetlaw03.PathUp'. -/
def pathUpUptoCard : Claim7 := { stood := { row := pathUpUptoRow, standIns := [], harness := (true, "a5d06a85f9672731eb43a0fc96307a00fc5489447debba957dbeaae9fa8a634c"), looks := false }, kinds := [], alts := [], laidByText := true, laidKinds := [.data, .pinned], laidTests := true, laidLooks := .later }
def PathUpUptoCardSaid : Prop := Claim7.holds Tryd.pinned (.plain (OpenSpec.upto pathUpSpec)) pathUpUptoCard
end Rows
end Go.Proofs.YtgjboocmdeckgaaDoor
