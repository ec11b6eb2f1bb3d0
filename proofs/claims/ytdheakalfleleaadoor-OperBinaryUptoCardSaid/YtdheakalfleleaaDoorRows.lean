/-
  NARROWER THAN 'FOR EVERY INPUT', by the rows' own cells (each row's printed sentence says how): OperUnary: laid · OperBinary: laid · OperMembers: laid · OperActs: laid · OperNumbers: laid · OperOrders: laid · OperTexts: laid.
  DERIVED. THE GIVEN ROWS OF THIS SEAT. 7 by the template 'for every input the law returns true; each argument reads behind the call as it read before'; 0 by the template 'total and deterministic' (their statements: YtdheakalfleleaaDoorTotals.lean).
  GIVEN WITH THE SEED: the statements are not yours to turn. If you find one false, say at which input.
  Laid BY PROGRAM, IN A SANDBOX (cutbox-rows.mjs): the forced cells as the released guide's own fill.sh prints them over the translation 2d19f328147db1da… (all of the seat's roots in one cut). By AI agents, Wed Nov 11 2026. No macro, syntax, notation, axiom, sorry.
-/
import Derived.Test.YtdheakalfleleaaDoorChecked
import GoSem.Claim
import GoSem.ClaimJoined
import GoSem.ClaimMapViews
import Derived.JoinedTies
import Derived.KernelRfl
namespace Go.Proofs.YtdheakalfleleaaDoor
/- THE CELL 'sum', in the pinned program and in every row, IS THE sha256 OF THE DUMP (.gsa) THAT YtdheakalfleleaaDoorProg.lean LOADS. Nothing in Lean hashes anything: it is a label: what it is worth is what the hold of that sum in a sandbox is worth. -/
noncomputable def Tryd.pinned : Pinned := { name := "ytdheakalfleleaadoor", sum := "2d19f328147db1dae575560cd22e628b60a7bd2e893025e67a5d4d2e96f7d2fd", checked := Tryd.checked }
namespace Rows
def none {H : Type} : Left H := { results := [], args := [] }

/- WHAT THE LISTED PACKAGE-LEVEL VARIABLES READ AS WHEN THE CALL BEGINS. Each datum BY PROGRAM (the guide's laid-datum.mjs) off the statement by which the dump's own 'gosem.cut.vars' lays the variable. In a bare row this is a premise. The card (YtdheakalfleleaaDoorCards.lean) ties it to the program's text. -/
def laid_math_bits_deBruijn32tab {H : Type} : DataW H := .agg [.lit (.int .u8 0), .lit (.int .u8 1), .lit (.int .u8 28), .lit (.int .u8 2), .lit (.int .u8 29), .lit (.int .u8 14), .lit (.int .u8 24), .lit (.int .u8 3), .lit (.int .u8 30), .lit (.int .u8 22), .lit (.int .u8 20), .lit (.int .u8 15), .lit (.int .u8 25), .lit (.int .u8 17), .lit (.int .u8 4), .lit (.int .u8 8), .lit (.int .u8 31), .lit (.int .u8 27), .lit (.int .u8 13), .lit (.int .u8 23), .lit (.int .u8 21), .lit (.int .u8 19), .lit (.int .u8 16), .lit (.int .u8 7), .lit (.int .u8 26), .lit (.int .u8 12), .lit (.int .u8 18), .lit (.int .u8 6), .lit (.int .u8 11), .lit (.int .u8 5), .lit (.int .u8 10), .lit (.int .u8 9)]
def laid_math_bits_deBruijn64tab {H : Type} : DataW H := .agg [.lit (.int .u8 0), .lit (.int .u8 1), .lit (.int .u8 56), .lit (.int .u8 2), .lit (.int .u8 57), .lit (.int .u8 49), .lit (.int .u8 28), .lit (.int .u8 3), .lit (.int .u8 61), .lit (.int .u8 58), .lit (.int .u8 42), .lit (.int .u8 50), .lit (.int .u8 38), .lit (.int .u8 29), .lit (.int .u8 17), .lit (.int .u8 4), .lit (.int .u8 62), .lit (.int .u8 47), .lit (.int .u8 59), .lit (.int .u8 36), .lit (.int .u8 45), .lit (.int .u8 43), .lit (.int .u8 51), .lit (.int .u8 22), .lit (.int .u8 53), .lit (.int .u8 39), .lit (.int .u8 33), .lit (.int .u8 30), .lit (.int .u8 24), .lit (.int .u8 18), .lit (.int .u8 12), .lit (.int .u8 5), .lit (.int .u8 63), .lit (.int .u8 55), .lit (.int .u8 48), .lit (.int .u8 27), .lit (.int .u8 60), .lit (.int .u8 41), .lit (.int .u8 37), .lit (.int .u8 16), .lit (.int .u8 46), .lit (.int .u8 35), .lit (.int .u8 44), .lit (.int .u8 21), .lit (.int .u8 52), .lit (.int .u8 32), .lit (.int .u8 23), .lit (.int .u8 11), .lit (.int .u8 54), .lit (.int .u8 26), .lit (.int .u8 40), .lit (.int .u8 15), .lit (.int .u8 34), .lit (.int .u8 20), .lit (.int .u8 31), .lit (.int .u8 10), .lit (.int .u8 25), .lit (.int .u8 14), .lit (.int .u8 19), .lit (.int .u8 9), .lit (.int .u8 13), .lit (.int .u8 8), .lit (.int .u8 7), .lit (.int .u8 6)]
def laid_internal_strconv_uint64pow10 {H : Type} : DataW H := .agg [.lit (.int .u64 1), .lit (.int .u64 10), .lit (.int .u64 100), .lit (.int .u64 1000), .lit (.int .u64 10000), .lit (.int .u64 100000), .lit (.int .u64 1000000), .lit (.int .u64 10000000), .lit (.int .u64 100000000), .lit (.int .u64 1000000000), .lit (.int .u64 10000000000), .lit (.int .u64 100000000000), .lit (.int .u64 1000000000000), .lit (.int .u64 10000000000000), .lit (.int .u64 100000000000000), .lit (.int .u64 1000000000000000), .lit (.int .u64 10000000000000000), .lit (.int .u64 100000000000000000), .lit (.int .u64 1000000000000000000), .lit (.int .u64 10000000000000000000)]
def laid_strconv_ErrRange {H : Type} : DataW H := .iface "*errors.errorString" (.ptr (.agg [.lit (.string [118, 97, 108, 117, 101, 32, 111, 117, 116, 32, 111, 102, 32, 114, 97, 110, 103, 101])]))
def laid_strconv_ErrSyntax {H : Type} : DataW H := .iface "*errors.errorString" (.ptr (.agg [.lit (.string [105, 110, 118, 97, 108, 105, 100, 32, 115, 121, 110, 116, 97, 120])]))
def laid_gusset_oper_takes {H : Type} : DataW H := .agg [.lit (.bool true), .lit (.bool true), .lit (.bool true), .lit (.bool true), .lit (.bool true), .lit (.bool false), .lit (.bool false), .lit (.bool false), .lit (.bool false), .lit (.bool false)]

/-- 'gussetlaw24.OperUnary': WHATEVER THE INPUT: true; the input reads as it did. -/
def operUnarySpec : ChangeSpec := { name := "operUnary", fn := fun _ => fun
  | [d1, d2] => { results := [.lit (.bool true)], args := [d1, d2] }
  | _ => none }
def operUnaryRow : OpenClaim := { program := "ytdheakalfleleaadoor", sum := "2d19f328147db1dae575560cd22e628b60a7bd2e893025e67a5d4d2e96f7d2fd", func := "gusset/gussetlaw24.OperUnary", spec := "operUnary", named := ["gusset/oper.takes", "internal/strconv.uint64pow10", "math/bits.deBruijn32tab", "math/bits.deBruijn64tab", "strconv.ErrSyntax", "strconv.ErrRange"], apart := false, laid := [("math/bits.deBruijn32tab", laid_math_bits_deBruijn32tab), ("math/bits.deBruijn64tab", laid_math_bits_deBruijn64tab), ("internal/strconv.uint64pow10", laid_internal_strconv_uint64pow10), ("strconv.ErrRange", laid_strconv_ErrRange), ("strconv.ErrSyntax", laid_strconv_ErrSyntax), ("gusset/oper.takes", laid_gusset_oper_takes)] }
def OperUnarySaid : Prop := operUnaryRow.holds Tryd.pinned (OpenSpec.ofChange operUnarySpec)

/-- ITS FALSE NEIGHBOUR: 'it returns false'. Refute it at one input. -/
def operUnaryWrong : ChangeSpec := { name := "operUnary", fn := fun _ => fun
  | [d1, d2] => { results := [.lit (.bool false)], args := [d1, d2] }
  | _ => none }
def OperUnaryWrongFalsely : Prop := operUnaryRow.holds Tryd.pinned (OpenSpec.ofChange operUnaryWrong)

/-- 'gussetlaw24.OperBinary': WHATEVER THE INPUT: true; the input reads as it did. -/
def operBinarySpec : ChangeSpec := { name := "operBinary", fn := fun _ => fun
  | [d1, d2, d3] => { results := [.lit (.bool true)], args := [d1, d2, d3] }
  | _ => none }
def operBinaryRow : OpenClaim := { program := "ytdheakalfleleaadoor", sum := "2d19f328147db1dae575560cd22e628b60a7bd2e893025e67a5d4d2e96f7d2fd", func := "gusset/gussetlaw24.OperBinary", spec := "operBinary", named := ["gusset/oper.takes", "internal/strconv.uint64pow10", "math/bits.deBruijn32tab", "math/bits.deBruijn64tab", "strconv.ErrSyntax", "strconv.ErrRange"], apart := false, laid := [("math/bits.deBruijn32tab", laid_math_bits_deBruijn32tab), ("math/bits.deBruijn64tab", laid_math_bits_deBruijn64tab), ("internal/strconv.uint64pow10", laid_internal_strconv_uint64pow10), ("strconv.ErrRange", laid_strconv_ErrRange), ("strconv.ErrSyntax", laid_strconv_ErrSyntax), ("gusset/oper.takes", laid_gusset_oper_takes)] }
def OperBinarySaid : Prop := operBinaryRow.holds Tryd.pinned (OpenSpec.ofChange operBinarySpec)

/-- ITS FALSE NEIGHBOUR: 'it returns false'. Refute it at one input. -/
def operBinaryWrong : ChangeSpec := { name := "operBinary", fn := fun _ => fun
  | [d1, d2, d3] => { results := [.lit (.bool false)], args := [d1, d2, d3] }
  | _ => none }
def OperBinaryWrongFalsely : Prop := operBinaryRow.holds Tryd.pinned (OpenSpec.ofChange operBinaryWrong)

/-- 'gussetlaw24.OperMembers': WHATEVER THE INPUT: true; the input reads as it did. -/
def operMembersSpec : ChangeSpec := { name := "operMembers", fn := fun _ => fun
  | [d1, d2, d3] => { results := [.lit (.bool true)], args := [d1, d2, d3] }
  | _ => none }
def operMembersRow : OpenClaim := { program := "ytdheakalfleleaadoor", sum := "2d19f328147db1dae575560cd22e628b60a7bd2e893025e67a5d4d2e96f7d2fd", func := "gusset/gussetlaw24.OperMembers", spec := "operMembers", named := ["gusset/oper.takes", "internal/strconv.uint64pow10", "math/bits.deBruijn32tab", "math/bits.deBruijn64tab", "strconv.ErrSyntax", "strconv.ErrRange"], apart := false, laid := [("math/bits.deBruijn32tab", laid_math_bits_deBruijn32tab), ("math/bits.deBruijn64tab", laid_math_bits_deBruijn64tab), ("internal/strconv.uint64pow10", laid_internal_strconv_uint64pow10), ("strconv.ErrRange", laid_strconv_ErrRange), ("strconv.ErrSyntax", laid_strconv_ErrSyntax), ("gusset/oper.takes", laid_gusset_oper_takes)] }
def OperMembersSaid : Prop := operMembersRow.holds Tryd.pinned (OpenSpec.ofChange operMembersSpec)

/-- ITS FALSE NEIGHBOUR: 'it returns false'. Refute it at one input. -/
def operMembersWrong : ChangeSpec := { name := "operMembers", fn := fun _ => fun
  | [d1, d2, d3] => { results := [.lit (.bool false)], args := [d1, d2, d3] }
  | _ => none }
def OperMembersWrongFalsely : Prop := operMembersRow.holds Tryd.pinned (OpenSpec.ofChange operMembersWrong)

/-- 'gussetlaw24.OperActs': WHATEVER THE INPUT: true; the input reads as it did. -/
def operActsSpec : ChangeSpec := { name := "operActs", fn := fun _ => fun
  | [d] => { results := [.lit (.bool true)], args := [d] }
  | _ => none }
def operActsRow : OpenClaim := { program := "ytdheakalfleleaadoor", sum := "2d19f328147db1dae575560cd22e628b60a7bd2e893025e67a5d4d2e96f7d2fd", func := "gusset/gussetlaw24.OperActs", spec := "operActs", named := ["internal/strconv.uint64pow10", "math/bits.deBruijn32tab", "math/bits.deBruijn64tab", "strconv.ErrSyntax", "strconv.ErrRange", "gusset/oper.takes"], apart := false, laid := [("math/bits.deBruijn32tab", laid_math_bits_deBruijn32tab), ("math/bits.deBruijn64tab", laid_math_bits_deBruijn64tab), ("internal/strconv.uint64pow10", laid_internal_strconv_uint64pow10), ("strconv.ErrRange", laid_strconv_ErrRange), ("strconv.ErrSyntax", laid_strconv_ErrSyntax), ("gusset/oper.takes", laid_gusset_oper_takes)] }
def OperActsSaid : Prop := operActsRow.holds Tryd.pinned (OpenSpec.ofChange operActsSpec)

/-- ITS FALSE NEIGHBOUR: 'it returns false'. Refute it at one input. -/
def operActsWrong : ChangeSpec := { name := "operActs", fn := fun _ => fun
  | [d] => { results := [.lit (.bool false)], args := [d] }
  | _ => none }
def OperActsWrongFalsely : Prop := operActsRow.holds Tryd.pinned (OpenSpec.ofChange operActsWrong)

/-- 'gussetlaw24.OperNumbers': WHATEVER THE INPUT: true; the input reads as it did. -/
def operNumbersSpec : ChangeSpec := { name := "operNumbers", fn := fun _ => fun
  | [d1, d2] => { results := [.lit (.bool true)], args := [d1, d2] }
  | _ => none }
def operNumbersRow : OpenClaim := { program := "ytdheakalfleleaadoor", sum := "2d19f328147db1dae575560cd22e628b60a7bd2e893025e67a5d4d2e96f7d2fd", func := "gusset/gussetlaw24.OperNumbers", spec := "operNumbers", named := ["gusset/oper.takes", "internal/strconv.uint64pow10", "math/bits.deBruijn32tab", "math/bits.deBruijn64tab", "strconv.ErrSyntax", "strconv.ErrRange"], apart := false, laid := [("math/bits.deBruijn32tab", laid_math_bits_deBruijn32tab), ("math/bits.deBruijn64tab", laid_math_bits_deBruijn64tab), ("internal/strconv.uint64pow10", laid_internal_strconv_uint64pow10), ("strconv.ErrRange", laid_strconv_ErrRange), ("strconv.ErrSyntax", laid_strconv_ErrSyntax), ("gusset/oper.takes", laid_gusset_oper_takes)] }
def OperNumbersSaid : Prop := operNumbersRow.holds Tryd.pinned (OpenSpec.ofChange operNumbersSpec)

/-- ITS FALSE NEIGHBOUR: 'it returns false'. Refute it at one input. -/
def operNumbersWrong : ChangeSpec := { name := "operNumbers", fn := fun _ => fun
  | [d1, d2] => { results := [.lit (.bool false)], args := [d1, d2] }
  | _ => none }
def OperNumbersWrongFalsely : Prop := operNumbersRow.holds Tryd.pinned (OpenSpec.ofChange operNumbersWrong)

/-- 'gussetlaw24.OperOrders': WHATEVER THE INPUT: true; the input reads as it did. -/
def operOrdersSpec : ChangeSpec := { name := "operOrders", fn := fun _ => fun
  | [d1, d2, d3] => { results := [.lit (.bool true)], args := [d1, d2, d3] }
  | _ => none }
def operOrdersRow : OpenClaim := { program := "ytdheakalfleleaadoor", sum := "2d19f328147db1dae575560cd22e628b60a7bd2e893025e67a5d4d2e96f7d2fd", func := "gusset/gussetlaw24.OperOrders", spec := "operOrders", named := ["gusset/oper.takes", "internal/strconv.uint64pow10", "math/bits.deBruijn32tab", "math/bits.deBruijn64tab", "strconv.ErrSyntax", "strconv.ErrRange"], apart := false, laid := [("math/bits.deBruijn32tab", laid_math_bits_deBruijn32tab), ("math/bits.deBruijn64tab", laid_math_bits_deBruijn64tab), ("internal/strconv.uint64pow10", laid_internal_strconv_uint64pow10), ("strconv.ErrRange", laid_strconv_ErrRange), ("strconv.ErrSyntax", laid_strconv_ErrSyntax), ("gusset/oper.takes", laid_gusset_oper_takes)] }
def OperOrdersSaid : Prop := operOrdersRow.holds Tryd.pinned (OpenSpec.ofChange operOrdersSpec)

/-- ITS FALSE NEIGHBOUR: 'it returns false'. Refute it at one input. -/
def operOrdersWrong : ChangeSpec := { name := "operOrders", fn := fun _ => fun
  | [d1, d2, d3] => { results := [.lit (.bool false)], args := [d1, d2, d3] }
  | _ => none }
def OperOrdersWrongFalsely : Prop := operOrdersRow.holds Tryd.pinned (OpenSpec.ofChange operOrdersWrong)

/-- 'gussetlaw24.OperTexts': WHATEVER THE INPUT: true; the input reads as it did. -/
def operTextsSpec : ChangeSpec := { name := "operTexts", fn := fun _ => fun
  | [d1, d2, d3] => { results := [.lit (.bool true)], args := [d1, d2, d3] }
  | _ => none }
def operTextsRow : OpenClaim := { program := "ytdheakalfleleaadoor", sum := "2d19f328147db1dae575560cd22e628b60a7bd2e893025e67a5d4d2e96f7d2fd", func := "gusset/gussetlaw24.OperTexts", spec := "operTexts", named := ["gusset/oper.takes", "internal/strconv.uint64pow10", "math/bits.deBruijn32tab", "math/bits.deBruijn64tab", "strconv.ErrSyntax", "strconv.ErrRange"], apart := false, laid := [("math/bits.deBruijn32tab", laid_math_bits_deBruijn32tab), ("math/bits.deBruijn64tab", laid_math_bits_deBruijn64tab), ("internal/strconv.uint64pow10", laid_internal_strconv_uint64pow10), ("strconv.ErrRange", laid_strconv_ErrRange), ("strconv.ErrSyntax", laid_strconv_ErrSyntax), ("gusset/oper.takes", laid_gusset_oper_takes)] }
def OperTextsSaid : Prop := operTextsRow.holds Tryd.pinned (OpenSpec.ofChange operTextsSpec)

/-- ITS FALSE NEIGHBOUR: 'it returns false'. Refute it at one input. -/
def operTextsWrong : ChangeSpec := { name := "operTexts", fn := fun _ => fun
  | [d1, d2, d3] => { results := [.lit (.bool false)], args := [d1, d2, d3] }
  | _ => none }
def OperTextsWrongFalsely : Prop := operTextsRow.holds Tryd.pinned (OpenSpec.ofChange operTextsWrong)

/- THE SECOND FORM. 'bulk': how many values and letters a reading holds, each counted each time it is reached (what is shared counts as often as it is met; a slice's spare places count too). A statement '..UptoSaid' is the law's where the arguments, and the package variables that the reading takes, are together of bulk at most 1048576: NARROWER than '..Said'. Prove '..Said' where nothing that the law and all that it calls make is longer than what came in: it says more and counts as full. Else prove '..UptoSaid'. A law counts once. -/
mutual
def uptoBulk {H : Type} : DataW H → Nat
  | .lit (.string bytes) => bytes.length + 1
  | .lit _ => 1
  | .nil => 1
  | .ptr d => uptoBulk d + 1
  | .slice elems spare => uptoBulkAll elems + uptoBulkAll spare + 1
  | .agg parts => uptoBulkAll parts + 1
  | .iface _ d => uptoBulk d + 1
  | .map entries => uptoBulkEntries entries + 1
  | .held _ => 1
def uptoBulkAll {H : Type} : List (DataW H) → Nat
  | [] => 0
  | d :: r => uptoBulk d + uptoBulkAll r
def uptoBulkEntries {H : Type} : List (Lit × DataW H) → Nat
  | [] => 0
  | x :: r => uptoBulkEntry x + uptoBulkEntries r
def uptoBulkEntry {H : Type} : Lit × DataW H → Nat
  | (.string bytes, d) => bytes.length + uptoBulk d + 1
  | (_, d) => uptoBulk d + 1
 end
def uptoSmall : (H : Type) → List (DataW H) → Bool := fun _ ds => decide (uptoBulkAll ds ≤ 1048576)
def OpenSpec.upto (s : _root_.Go.ChangeSpec) : _root_.Go.OpenSpec := { _root_.Go.OpenSpec.ofChange s with cond := some uptoSmall }

/-- 'gussetlaw24.OperUnary', WHERE WHAT IT READS IS OF BULK AT MOST 1048576: true; the input reads as it did. -/
def operUnaryUptoRow : OpenClaim := { program := "ytdheakalfleleaadoor", sum := "2d19f328147db1dae575560cd22e628b60a7bd2e893025e67a5d4d2e96f7d2fd", func := "gusset/gussetlaw24.OperUnary", spec := "operUnary", named := ["gusset/oper.takes", "internal/strconv.uint64pow10", "math/bits.deBruijn32tab", "math/bits.deBruijn64tab", "strconv.ErrSyntax", "strconv.ErrRange"], apart := false, laid := [("math/bits.deBruijn32tab", laid_math_bits_deBruijn32tab), ("math/bits.deBruijn64tab", laid_math_bits_deBruijn64tab), ("internal/strconv.uint64pow10", laid_internal_strconv_uint64pow10), ("strconv.ErrRange", laid_strconv_ErrRange), ("strconv.ErrSyntax", laid_strconv_ErrSyntax), ("gusset/oper.takes", laid_gusset_oper_takes)], narrowed := true }
def OperUnaryUptoSaid : Prop := operUnaryUptoRow.holds Tryd.pinned (OpenSpec.upto operUnarySpec)

/-- 'gussetlaw24.OperBinary', WHERE WHAT IT READS IS OF BULK AT MOST 1048576: true; the input reads as it did. -/
def operBinaryUptoRow : OpenClaim := { program := "ytdheakalfleleaadoor", sum := "2d19f328147db1dae575560cd22e628b60a7bd2e893025e67a5d4d2e96f7d2fd", func := "gusset/gussetlaw24.OperBinary", spec := "operBinary", named := ["gusset/oper.takes", "internal/strconv.uint64pow10", "math/bits.deBruijn32tab", "math/bits.deBruijn64tab", "strconv.ErrSyntax", "strconv.ErrRange"], apart := false, laid := [("math/bits.deBruijn32tab", laid_math_bits_deBruijn32tab), ("math/bits.deBruijn64tab", laid_math_bits_deBruijn64tab), ("internal/strconv.uint64pow10", laid_internal_strconv_uint64pow10), ("strconv.ErrRange", laid_strconv_ErrRange), ("strconv.ErrSyntax", laid_strconv_ErrSyntax), ("gusset/oper.takes", laid_gusset_oper_takes)], narrowed := true }
def OperBinaryUptoSaid : Prop := operBinaryUptoRow.holds Tryd.pinned (OpenSpec.upto operBinarySpec)

/-- 'gussetlaw24.OperMembers', WHERE WHAT IT READS IS OF BULK AT MOST 1048576: true; the input reads as it did. -/
def operMembersUptoRow : OpenClaim := { program := "ytdheakalfleleaadoor", sum := "2d19f328147db1dae575560cd22e628b60a7bd2e893025e67a5d4d2e96f7d2fd", func := "gusset/gussetlaw24.OperMembers", spec := "operMembers", named := ["gusset/oper.takes", "internal/strconv.uint64pow10", "math/bits.deBruijn32tab", "math/bits.deBruijn64tab", "strconv.ErrSyntax", "strconv.ErrRange"], apart := false, laid := [("math/bits.deBruijn32tab", laid_math_bits_deBruijn32tab), ("math/bits.deBruijn64tab", laid_math_bits_deBruijn64tab), ("internal/strconv.uint64pow10", laid_internal_strconv_uint64pow10), ("strconv.ErrRange", laid_strconv_ErrRange), ("strconv.ErrSyntax", laid_strconv_ErrSyntax), ("gusset/oper.takes", laid_gusset_oper_takes)], narrowed := true }
def OperMembersUptoSaid : Prop := operMembersUptoRow.holds Tryd.pinned (OpenSpec.upto operMembersSpec)

/-- 'gussetlaw24.OperActs', WHERE WHAT IT READS IS OF BULK AT MOST 1048576: true; the input reads as it did. -/
def operActsUptoRow : OpenClaim := { program := "ytdheakalfleleaadoor", sum := "2d19f328147db1dae575560cd22e628b60a7bd2e893025e67a5d4d2e96f7d2fd", func := "gusset/gussetlaw24.OperActs", spec := "operActs", named := ["internal/strconv.uint64pow10", "math/bits.deBruijn32tab", "math/bits.deBruijn64tab", "strconv.ErrSyntax", "strconv.ErrRange", "gusset/oper.takes"], apart := false, laid := [("math/bits.deBruijn32tab", laid_math_bits_deBruijn32tab), ("math/bits.deBruijn64tab", laid_math_bits_deBruijn64tab), ("internal/strconv.uint64pow10", laid_internal_strconv_uint64pow10), ("strconv.ErrRange", laid_strconv_ErrRange), ("strconv.ErrSyntax", laid_strconv_ErrSyntax), ("gusset/oper.takes", laid_gusset_oper_takes)], narrowed := true }
def OperActsUptoSaid : Prop := operActsUptoRow.holds Tryd.pinned (OpenSpec.upto operActsSpec)

/-- 'gussetlaw24.OperNumbers', WHERE WHAT IT READS IS OF BULK AT MOST 1048576: true; the input reads as it did. -/
def operNumbersUptoRow : OpenClaim := { program := "ytdheakalfleleaadoor", sum := "2d19f328147db1dae575560cd22e628b60a7bd2e893025e67a5d4d2e96f7d2fd", func := "gusset/gussetlaw24.OperNumbers", spec := "operNumbers", named := ["gusset/oper.takes", "internal/strconv.uint64pow10", "math/bits.deBruijn32tab", "math/bits.deBruijn64tab", "strconv.ErrSyntax", "strconv.ErrRange"], apart := false, laid := [("math/bits.deBruijn32tab", laid_math_bits_deBruijn32tab), ("math/bits.deBruijn64tab", laid_math_bits_deBruijn64tab), ("internal/strconv.uint64pow10", laid_internal_strconv_uint64pow10), ("strconv.ErrRange", laid_strconv_ErrRange), ("strconv.ErrSyntax", laid_strconv_ErrSyntax), ("gusset/oper.takes", laid_gusset_oper_takes)], narrowed := true }
def OperNumbersUptoSaid : Prop := operNumbersUptoRow.holds Tryd.pinned (OpenSpec.upto operNumbersSpec)

/-- 'gussetlaw24.OperOrders', WHERE WHAT IT READS IS OF BULK AT MOST 1048576: true; the input reads as it did. -/
def operOrdersUptoRow : OpenClaim := { program := "ytdheakalfleleaadoor", sum := "2d19f328147db1dae575560cd22e628b60a7bd2e893025e67a5d4d2e96f7d2fd", func := "gusset/gussetlaw24.OperOrders", spec := "operOrders", named := ["gusset/oper.takes", "internal/strconv.uint64pow10", "math/bits.deBruijn32tab", "math/bits.deBruijn64tab", "strconv.ErrSyntax", "strconv.ErrRange"], apart := false, laid := [("math/bits.deBruijn32tab", laid_math_bits_deBruijn32tab), ("math/bits.deBruijn64tab", laid_math_bits_deBruijn64tab), ("internal/strconv.uint64pow10", laid_internal_strconv_uint64pow10), ("strconv.ErrRange", laid_strconv_ErrRange), ("strconv.ErrSyntax", laid_strconv_ErrSyntax), ("gusset/oper.takes", laid_gusset_oper_takes)], narrowed := true }
def OperOrdersUptoSaid : Prop := operOrdersUptoRow.holds Tryd.pinned (OpenSpec.upto operOrdersSpec)

/-- 'gussetlaw24.OperTexts', WHERE WHAT IT READS IS OF BULK AT MOST 1048576: true; the input reads as it did. -/
def operTextsUptoRow : OpenClaim := { program := "ytdheakalfleleaadoor", sum := "2d19f328147db1dae575560cd22e628b60a7bd2e893025e67a5d4d2e96f7d2fd", func := "gusset/gussetlaw24.OperTexts", spec := "operTexts", named := ["gusset/oper.takes", "internal/strconv.uint64pow10", "math/bits.deBruijn32tab", "math/bits.deBruijn64tab", "strconv.ErrSyntax", "strconv.ErrRange"], apart := false, laid := [("math/bits.deBruijn32tab", laid_math_bits_deBruijn32tab), ("math/bits.deBruijn64tab", laid_math_bits_deBruijn64tab), ("internal/strconv.uint64pow10", laid_internal_strconv_uint64pow10), ("strconv.ErrRange", laid_strconv_ErrRange), ("strconv.ErrSyntax", laid_strconv_ErrSyntax), ("gusset/oper.takes", laid_gusset_oper_takes)], narrowed := true }
def OperTextsUptoSaid : Prop := operTextsUptoRow.holds Tryd.pinned (OpenSpec.upto operTextsSpec)

end Rows
end Go.Proofs.YtdheakalfleleaaDoor
