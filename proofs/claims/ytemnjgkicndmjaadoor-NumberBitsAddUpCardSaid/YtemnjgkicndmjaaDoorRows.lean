/-
  NARROWER THAN 'FOR EVERY INPUT', by the rows' own cells (each row's printed sentence says how): NumberCheckMatchesSpec: laid · NumberFormatRoundTrip: laid · NumberParseMatchesSpec: laid · NumberOrderIsTotal: laid · NumberArithmeticMatchesSpec: laid · NumberFieldLaws: laid · NumberIntsRoundTrip: laid · NumberToIntMatchesSpec: laid · NumberBitsAddUp: laid · NumberPowersAdd: laid · NumberRoundMatchesSpec: laid.
  DERIVED. THE GIVEN ROWS OF THIS SEAT. 11 by the template 'for every input the law returns true; each argument reads behind the call as it read before'; 0 by the template 'total and deterministic' (their statements: YtemnjgkicndmjaaDoorTotals.lean).
  GIVEN WITH THE SEED: the statements are not yours to turn. If you find one false, say at which input.
  Laid BY PROGRAM, IN A SANDBOX (cutbox-rows.mjs): the forced cells as the released guide's own fill.sh prints them over the translation 7d546a2d54ff529f… (all of the seat's roots in one cut). By AI agents, Wed Nov 11 2026. No macro, syntax, notation, axiom, sorry.
-/
import Derived.Test.YtemnjgkicndmjaaDoorChecked
import GoSem.PinnedTables
import GoSem.Claim
import GoSem.ClaimJoined
import GoSem.ClaimMapViews
import Derived.JoinedTies
import Derived.KernelRfl
namespace Go.Proofs.YtemnjgkicndmjaaDoor
/- THE CELL 'sum', in the pinned program and in every row, IS THE sha256 OF THE DUMP (.gsa) THAT YtemnjgkicndmjaaDoorProg.lean LOADS. Nothing in Lean hashes anything: it is a label: what it is worth is what the hold of that sum in a sandbox is worth. -/
noncomputable def Tryd.pinned : Pinned := { name := "ytemnjgkicndmjaadoor", sum := "7d546a2d54ff529fd6bc01b547d356c47293ed03c0125a92e12c9e0698e01af5", checked := Tryd.checked }
namespace Rows
def none {H : Type} : Left H := { results := [], args := [] }

/- WHAT THE LISTED PACKAGE-LEVEL VARIABLES READ AS WHEN THE CALL BEGINS. Each datum BY PROGRAM (the guide's laid-datum.mjs) off the statement by which the dump's own 'gosem.cut.vars' lays the variable. In a bare row this is a premise. The card (YtemnjgkicndmjaaDoorCards.lean) ties it to the program's text. -/
def laid_unicode_utf8_acceptRanges {H : Type} : DataW H := .agg [.agg [.lit (.int .u8 128), .lit (.int .u8 191)], .agg [.lit (.int .u8 160), .lit (.int .u8 191)], .agg [.lit (.int .u8 128), .lit (.int .u8 159)], .agg [.lit (.int .u8 144), .lit (.int .u8 191)], .agg [.lit (.int .u8 128), .lit (.int .u8 143)], .agg [.lit (.int .u8 0), .lit (.int .u8 0)], .agg [.lit (.int .u8 0), .lit (.int .u8 0)], .agg [.lit (.int .u8 0), .lit (.int .u8 0)], .agg [.lit (.int .u8 0), .lit (.int .u8 0)], .agg [.lit (.int .u8 0), .lit (.int .u8 0)], .agg [.lit (.int .u8 0), .lit (.int .u8 0)], .agg [.lit (.int .u8 0), .lit (.int .u8 0)], .agg [.lit (.int .u8 0), .lit (.int .u8 0)], .agg [.lit (.int .u8 0), .lit (.int .u8 0)], .agg [.lit (.int .u8 0), .lit (.int .u8 0)], .agg [.lit (.int .u8 0), .lit (.int .u8 0)]]
/-- One of Go's own tables, pinned by name: the form's constant. -/
def laid_unicode_utf8_first : DataW Unit := Go.Pinned.utf8First

/-- 'fetterlocklaw1.NumberCheckMatchesSpec': WHATEVER THE INPUT: true; the input reads as it did. -/
def numberCheckMatchesSpecSpec : ChangeSpec := { name := "numberCheckMatchesSpec", fn := fun _ => fun
  | [d] => { results := [.lit (.bool true)], args := [d] }
  | _ => none }
def numberCheckMatchesSpecRow : OpenClaim := { program := "ytemnjgkicndmjaadoor", sum := "7d546a2d54ff529fd6bc01b547d356c47293ed03c0125a92e12c9e0698e01af5", func := "fetterlock/fetterlocklaw1.NumberCheckMatchesSpec", spec := "numberCheckMatchesSpec", inPlace := ["internal/bytealg.IndexByteString", "internal/bytealg.IndexString"], unfollowed := true, recurses := true, named := ["internal/bytealg.MaxLen", "unicode/utf8.first", "unicode/utf8.acceptRanges"], apart := false, laid := [("unicode/utf8.acceptRanges", laid_unicode_utf8_acceptRanges), ("unicode/utf8.first", laid_unicode_utf8_first)] }
def NumberCheckMatchesSpecSaid : Prop := numberCheckMatchesSpecRow.holds Tryd.pinned (OpenSpec.ofChange numberCheckMatchesSpecSpec)

/-- ITS FALSE NEIGHBOUR: 'it returns false'. Refute it at one input. -/
def numberCheckMatchesSpecWrong : ChangeSpec := { name := "numberCheckMatchesSpec", fn := fun _ => fun
  | [d] => { results := [.lit (.bool false)], args := [d] }
  | _ => none }
def NumberCheckMatchesSpecWrongFalsely : Prop := numberCheckMatchesSpecRow.holds Tryd.pinned (OpenSpec.ofChange numberCheckMatchesSpecWrong)

/-- 'fetterlocklaw1.NumberFormatRoundTrip': WHATEVER THE INPUT: true; the input reads as it did. -/
def numberFormatRoundTripSpec : ChangeSpec := { name := "numberFormatRoundTrip", fn := fun _ => fun
  | [d] => { results := [.lit (.bool true)], args := [d] }
  | _ => none }
def numberFormatRoundTripRow : OpenClaim := { program := "ytemnjgkicndmjaadoor", sum := "7d546a2d54ff529fd6bc01b547d356c47293ed03c0125a92e12c9e0698e01af5", func := "fetterlock/fetterlocklaw1.NumberFormatRoundTrip", spec := "numberFormatRoundTrip", inPlace := ["internal/bytealg.IndexByteString", "internal/bytealg.IndexString"], unfollowed := true, recurses := true, named := ["internal/bytealg.MaxLen", "unicode/utf8.first", "unicode/utf8.acceptRanges"], apart := false, laid := [("unicode/utf8.acceptRanges", laid_unicode_utf8_acceptRanges), ("unicode/utf8.first", laid_unicode_utf8_first)] }
def NumberFormatRoundTripSaid : Prop := numberFormatRoundTripRow.holds Tryd.pinned (OpenSpec.ofChange numberFormatRoundTripSpec)

/-- ITS FALSE NEIGHBOUR: 'it returns false'. Refute it at one input. -/
def numberFormatRoundTripWrong : ChangeSpec := { name := "numberFormatRoundTrip", fn := fun _ => fun
  | [d] => { results := [.lit (.bool false)], args := [d] }
  | _ => none }
def NumberFormatRoundTripWrongFalsely : Prop := numberFormatRoundTripRow.holds Tryd.pinned (OpenSpec.ofChange numberFormatRoundTripWrong)

/-- 'fetterlocklaw1.NumberParseMatchesSpec': WHATEVER THE INPUT: true; the input reads as it did. -/
def numberParseMatchesSpecSpec : ChangeSpec := { name := "numberParseMatchesSpec", fn := fun _ => fun
  | [d] => { results := [.lit (.bool true)], args := [d] }
  | _ => none }
def numberParseMatchesSpecRow : OpenClaim := { program := "ytemnjgkicndmjaadoor", sum := "7d546a2d54ff529fd6bc01b547d356c47293ed03c0125a92e12c9e0698e01af5", func := "fetterlock/fetterlocklaw1.NumberParseMatchesSpec", spec := "numberParseMatchesSpec", inPlace := ["internal/bytealg.IndexByteString", "internal/bytealg.IndexString"], unfollowed := true, recurses := true, named := ["internal/bytealg.MaxLen", "unicode/utf8.first", "unicode/utf8.acceptRanges"], apart := false, laid := [("unicode/utf8.acceptRanges", laid_unicode_utf8_acceptRanges), ("unicode/utf8.first", laid_unicode_utf8_first)] }
def NumberParseMatchesSpecSaid : Prop := numberParseMatchesSpecRow.holds Tryd.pinned (OpenSpec.ofChange numberParseMatchesSpecSpec)

/-- ITS FALSE NEIGHBOUR: 'it returns false'. Refute it at one input. -/
def numberParseMatchesSpecWrong : ChangeSpec := { name := "numberParseMatchesSpec", fn := fun _ => fun
  | [d] => { results := [.lit (.bool false)], args := [d] }
  | _ => none }
def NumberParseMatchesSpecWrongFalsely : Prop := numberParseMatchesSpecRow.holds Tryd.pinned (OpenSpec.ofChange numberParseMatchesSpecWrong)

/-- 'fetterlocklaw1.NumberOrderIsTotal': WHATEVER THE INPUT: true; the input reads as it did. -/
def numberOrderIsTotalSpec : ChangeSpec := { name := "numberOrderIsTotal", fn := fun _ => fun
  | [d1, d2, d3] => { results := [.lit (.bool true)], args := [d1, d2, d3] }
  | _ => none }
def numberOrderIsTotalRow : OpenClaim := { program := "ytemnjgkicndmjaadoor", sum := "7d546a2d54ff529fd6bc01b547d356c47293ed03c0125a92e12c9e0698e01af5", func := "fetterlock/fetterlocklaw1.NumberOrderIsTotal", spec := "numberOrderIsTotal", inPlace := ["internal/bytealg.IndexByteString", "internal/bytealg.IndexString"], unfollowed := true, recurses := true, named := ["internal/bytealg.MaxLen", "unicode/utf8.first", "unicode/utf8.acceptRanges"], apart := false, laid := [("unicode/utf8.acceptRanges", laid_unicode_utf8_acceptRanges), ("unicode/utf8.first", laid_unicode_utf8_first)] }
def NumberOrderIsTotalSaid : Prop := numberOrderIsTotalRow.holds Tryd.pinned (OpenSpec.ofChange numberOrderIsTotalSpec)

/-- ITS FALSE NEIGHBOUR: 'it returns false'. Refute it at one input. -/
def numberOrderIsTotalWrong : ChangeSpec := { name := "numberOrderIsTotal", fn := fun _ => fun
  | [d1, d2, d3] => { results := [.lit (.bool false)], args := [d1, d2, d3] }
  | _ => none }
def NumberOrderIsTotalWrongFalsely : Prop := numberOrderIsTotalRow.holds Tryd.pinned (OpenSpec.ofChange numberOrderIsTotalWrong)

/-- 'fetterlocklaw1.NumberArithmeticMatchesSpec': WHATEVER THE INPUT: true; the input reads as it did. -/
def numberArithmeticMatchesSpecSpec : ChangeSpec := { name := "numberArithmeticMatchesSpec", fn := fun _ => fun
  | [d1, d2] => { results := [.lit (.bool true)], args := [d1, d2] }
  | _ => none }
def numberArithmeticMatchesSpecRow : OpenClaim := { program := "ytemnjgkicndmjaadoor", sum := "7d546a2d54ff529fd6bc01b547d356c47293ed03c0125a92e12c9e0698e01af5", func := "fetterlock/fetterlocklaw1.NumberArithmeticMatchesSpec", spec := "numberArithmeticMatchesSpec", inPlace := ["internal/bytealg.IndexByteString", "internal/bytealg.IndexString"], unfollowed := true, recurses := true, named := ["internal/bytealg.MaxLen", "unicode/utf8.first", "unicode/utf8.acceptRanges"], apart := false, laid := [("unicode/utf8.acceptRanges", laid_unicode_utf8_acceptRanges), ("unicode/utf8.first", laid_unicode_utf8_first)] }
def NumberArithmeticMatchesSpecSaid : Prop := numberArithmeticMatchesSpecRow.holds Tryd.pinned (OpenSpec.ofChange numberArithmeticMatchesSpecSpec)

/-- ITS FALSE NEIGHBOUR: 'it returns false'. Refute it at one input. -/
def numberArithmeticMatchesSpecWrong : ChangeSpec := { name := "numberArithmeticMatchesSpec", fn := fun _ => fun
  | [d1, d2] => { results := [.lit (.bool false)], args := [d1, d2] }
  | _ => none }
def NumberArithmeticMatchesSpecWrongFalsely : Prop := numberArithmeticMatchesSpecRow.holds Tryd.pinned (OpenSpec.ofChange numberArithmeticMatchesSpecWrong)

/-- 'fetterlocklaw1.NumberFieldLaws': WHATEVER THE INPUT: true; the input reads as it did. -/
def numberFieldLawsSpec : ChangeSpec := { name := "numberFieldLaws", fn := fun _ => fun
  | [d1, d2, d3] => { results := [.lit (.bool true)], args := [d1, d2, d3] }
  | _ => none }
def numberFieldLawsRow : OpenClaim := { program := "ytemnjgkicndmjaadoor", sum := "7d546a2d54ff529fd6bc01b547d356c47293ed03c0125a92e12c9e0698e01af5", func := "fetterlock/fetterlocklaw1.NumberFieldLaws", spec := "numberFieldLaws", inPlace := ["internal/bytealg.IndexByteString", "internal/bytealg.IndexString"], unfollowed := true, recurses := true, named := ["internal/bytealg.MaxLen", "unicode/utf8.first", "unicode/utf8.acceptRanges"], apart := false, laid := [("unicode/utf8.acceptRanges", laid_unicode_utf8_acceptRanges), ("unicode/utf8.first", laid_unicode_utf8_first)] }
def NumberFieldLawsSaid : Prop := numberFieldLawsRow.holds Tryd.pinned (OpenSpec.ofChange numberFieldLawsSpec)

/-- ITS FALSE NEIGHBOUR: 'it returns false'. Refute it at one input. -/
def numberFieldLawsWrong : ChangeSpec := { name := "numberFieldLaws", fn := fun _ => fun
  | [d1, d2, d3] => { results := [.lit (.bool false)], args := [d1, d2, d3] }
  | _ => none }
def NumberFieldLawsWrongFalsely : Prop := numberFieldLawsRow.holds Tryd.pinned (OpenSpec.ofChange numberFieldLawsWrong)

/-- 'fetterlocklaw1.NumberIntsRoundTrip': WHATEVER THE INPUT: true; the input reads as it did. -/
def numberIntsRoundTripSpec : ChangeSpec := { name := "numberIntsRoundTrip", fn := fun _ => fun
  | [d] => { results := [.lit (.bool true)], args := [d] }
  | _ => none }
def numberIntsRoundTripRow : OpenClaim := { program := "ytemnjgkicndmjaadoor", sum := "7d546a2d54ff529fd6bc01b547d356c47293ed03c0125a92e12c9e0698e01af5", func := "fetterlock/fetterlocklaw1.NumberIntsRoundTrip", spec := "numberIntsRoundTrip", inPlace := ["internal/bytealg.IndexByteString", "internal/bytealg.IndexString"], unfollowed := true, recurses := true, named := ["internal/bytealg.MaxLen", "unicode/utf8.first", "unicode/utf8.acceptRanges"], apart := false, laid := [("unicode/utf8.acceptRanges", laid_unicode_utf8_acceptRanges), ("unicode/utf8.first", laid_unicode_utf8_first)] }
def NumberIntsRoundTripSaid : Prop := numberIntsRoundTripRow.holds Tryd.pinned (OpenSpec.ofChange numberIntsRoundTripSpec)

/-- ITS FALSE NEIGHBOUR: 'it returns false'. Refute it at one input. -/
def numberIntsRoundTripWrong : ChangeSpec := { name := "numberIntsRoundTrip", fn := fun _ => fun
  | [d] => { results := [.lit (.bool false)], args := [d] }
  | _ => none }
def NumberIntsRoundTripWrongFalsely : Prop := numberIntsRoundTripRow.holds Tryd.pinned (OpenSpec.ofChange numberIntsRoundTripWrong)

/-- 'fetterlocklaw1.NumberToIntMatchesSpec': WHATEVER THE INPUT: true; the input reads as it did. -/
def numberToIntMatchesSpecSpec : ChangeSpec := { name := "numberToIntMatchesSpec", fn := fun _ => fun
  | [d] => { results := [.lit (.bool true)], args := [d] }
  | _ => none }
def numberToIntMatchesSpecRow : OpenClaim := { program := "ytemnjgkicndmjaadoor", sum := "7d546a2d54ff529fd6bc01b547d356c47293ed03c0125a92e12c9e0698e01af5", func := "fetterlock/fetterlocklaw1.NumberToIntMatchesSpec", spec := "numberToIntMatchesSpec", inPlace := ["internal/bytealg.IndexByteString", "internal/bytealg.IndexString"], unfollowed := true, recurses := true, named := ["internal/bytealg.MaxLen", "unicode/utf8.first", "unicode/utf8.acceptRanges"], apart := false, laid := [("unicode/utf8.acceptRanges", laid_unicode_utf8_acceptRanges), ("unicode/utf8.first", laid_unicode_utf8_first)] }
def NumberToIntMatchesSpecSaid : Prop := numberToIntMatchesSpecRow.holds Tryd.pinned (OpenSpec.ofChange numberToIntMatchesSpecSpec)

/-- ITS FALSE NEIGHBOUR: 'it returns false'. Refute it at one input. -/
def numberToIntMatchesSpecWrong : ChangeSpec := { name := "numberToIntMatchesSpec", fn := fun _ => fun
  | [d] => { results := [.lit (.bool false)], args := [d] }
  | _ => none }
def NumberToIntMatchesSpecWrongFalsely : Prop := numberToIntMatchesSpecRow.holds Tryd.pinned (OpenSpec.ofChange numberToIntMatchesSpecWrong)

/-- 'fetterlocklaw1.NumberBitsAddUp': WHATEVER THE INPUT: true; the input reads as it did. -/
def numberBitsAddUpSpec : ChangeSpec := { name := "numberBitsAddUp", fn := fun _ => fun
  | [d1, d2] => { results := [.lit (.bool true)], args := [d1, d2] }
  | _ => none }
def numberBitsAddUpRow : OpenClaim := { program := "ytemnjgkicndmjaadoor", sum := "7d546a2d54ff529fd6bc01b547d356c47293ed03c0125a92e12c9e0698e01af5", func := "fetterlock/fetterlocklaw1.NumberBitsAddUp", spec := "numberBitsAddUp", inPlace := ["internal/bytealg.IndexByteString", "internal/bytealg.IndexString"], unfollowed := true, recurses := true, named := ["internal/bytealg.MaxLen", "unicode/utf8.first", "unicode/utf8.acceptRanges"], apart := false, laid := [("unicode/utf8.acceptRanges", laid_unicode_utf8_acceptRanges), ("unicode/utf8.first", laid_unicode_utf8_first)] }
def NumberBitsAddUpSaid : Prop := numberBitsAddUpRow.holds Tryd.pinned (OpenSpec.ofChange numberBitsAddUpSpec)

/-- ITS FALSE NEIGHBOUR: 'it returns false'. Refute it at one input. -/
def numberBitsAddUpWrong : ChangeSpec := { name := "numberBitsAddUp", fn := fun _ => fun
  | [d1, d2] => { results := [.lit (.bool false)], args := [d1, d2] }
  | _ => none }
def NumberBitsAddUpWrongFalsely : Prop := numberBitsAddUpRow.holds Tryd.pinned (OpenSpec.ofChange numberBitsAddUpWrong)

/-- 'fetterlocklaw1.NumberPowersAdd': WHATEVER THE INPUT: true; the input reads as it did. -/
def numberPowersAddSpec : ChangeSpec := { name := "numberPowersAdd", fn := fun _ => fun
  | [d1, d2, d3] => { results := [.lit (.bool true)], args := [d1, d2, d3] }
  | _ => none }
def numberPowersAddRow : OpenClaim := { program := "ytemnjgkicndmjaadoor", sum := "7d546a2d54ff529fd6bc01b547d356c47293ed03c0125a92e12c9e0698e01af5", func := "fetterlock/fetterlocklaw1.NumberPowersAdd", spec := "numberPowersAdd", inPlace := ["internal/bytealg.IndexByteString", "internal/bytealg.IndexString"], unfollowed := true, recurses := true, named := ["internal/bytealg.MaxLen", "unicode/utf8.first", "unicode/utf8.acceptRanges"], apart := false, laid := [("unicode/utf8.acceptRanges", laid_unicode_utf8_acceptRanges), ("unicode/utf8.first", laid_unicode_utf8_first)] }
def NumberPowersAddSaid : Prop := numberPowersAddRow.holds Tryd.pinned (OpenSpec.ofChange numberPowersAddSpec)

/-- ITS FALSE NEIGHBOUR: 'it returns false'. Refute it at one input. -/
def numberPowersAddWrong : ChangeSpec := { name := "numberPowersAdd", fn := fun _ => fun
  | [d1, d2, d3] => { results := [.lit (.bool false)], args := [d1, d2, d3] }
  | _ => none }
def NumberPowersAddWrongFalsely : Prop := numberPowersAddRow.holds Tryd.pinned (OpenSpec.ofChange numberPowersAddWrong)

/-- 'fetterlocklaw1.NumberRoundMatchesSpec': WHATEVER THE INPUT: true; the input reads as it did. -/
def numberRoundMatchesSpecSpec : ChangeSpec := { name := "numberRoundMatchesSpec", fn := fun _ => fun
  | [d1, d2] => { results := [.lit (.bool true)], args := [d1, d2] }
  | _ => none }
def numberRoundMatchesSpecRow : OpenClaim := { program := "ytemnjgkicndmjaadoor", sum := "7d546a2d54ff529fd6bc01b547d356c47293ed03c0125a92e12c9e0698e01af5", func := "fetterlock/fetterlocklaw1.NumberRoundMatchesSpec", spec := "numberRoundMatchesSpec", inPlace := ["internal/bytealg.IndexByteString", "internal/bytealg.IndexString"], unfollowed := true, recurses := true, named := ["internal/bytealg.MaxLen", "unicode/utf8.first", "unicode/utf8.acceptRanges"], apart := false, laid := [("unicode/utf8.acceptRanges", laid_unicode_utf8_acceptRanges), ("unicode/utf8.first", laid_unicode_utf8_first)] }
def NumberRoundMatchesSpecSaid : Prop := numberRoundMatchesSpecRow.holds Tryd.pinned (OpenSpec.ofChange numberRoundMatchesSpecSpec)

/-- ITS FALSE NEIGHBOUR: 'it returns false'. Refute it at one input. -/
def numberRoundMatchesSpecWrong : ChangeSpec := { name := "numberRoundMatchesSpec", fn := fun _ => fun
  | [d1, d2] => { results := [.lit (.bool false)], args := [d1, d2] }
  | _ => none }
def NumberRoundMatchesSpecWrongFalsely : Prop := numberRoundMatchesSpecRow.holds Tryd.pinned (OpenSpec.ofChange numberRoundMatchesSpecWrong)

/- THE SECOND FORM. 'bulk': how many values and letters a reading holds, each counted each time it is reached (what is shared counts as often as it is met; a slice's spare places count too). A statement '..UptoSaid' is the law's where the arguments, and the package variables that the reading takes, are together of bulk at most 1048576: NARROWER than '..Said'. Prove '..Said' where nothing that the law and all that it calls make is longer than what came in: it says more and counts as full. Else prove '..UptoSaid'. A law counts once. -/
mutual
def uptoBulk {H : Type} : DataW H → Nat
  | .lit (.string bytes) => bytes.length + 1
  | .lit _ => 1
  | .nil => 1
  | .ptr d => uptoBulk d + 1
  | .slice elems spare => uptoBulkAll elems + uptoBulkAll spare + 1
  | .agg parts => uptoBulkAll parts + 1
  | .iface _ d => uptoBulk d + 1
  | .map entries => uptoBulkEntries entries + 1
  | .held _ => 1
def uptoBulkAll {H : Type} : List (DataW H) → Nat
  | [] => 0
  | d :: r => uptoBulk d + uptoBulkAll r
def uptoBulkEntries {H : Type} : List (Lit × DataW H) → Nat
  | [] => 0
  | x :: r => uptoBulkEntry x + uptoBulkEntries r
def uptoBulkEntry {H : Type} : Lit × DataW H → Nat
  | (.string bytes, d) => bytes.length + uptoBulk d + 1
  | (_, d) => uptoBulk d + 1
 end
def uptoSmall : (H : Type) → List (DataW H) → Bool := fun _ ds => decide (uptoBulkAll ds ≤ 1048576)
def OpenSpec.upto (s : _root_.Go.ChangeSpec) : _root_.Go.OpenSpec := { _root_.Go.OpenSpec.ofChange s with cond := some uptoSmall }

/-- 'fetterlocklaw1.NumberCheckMatchesSpec', WHERE WHAT IT READS IS OF BULK AT MOST 1048576: true; the input reads as it did. -/
def numberCheckMatchesSpecUptoRow : OpenClaim := { program := "ytemnjgkicndmjaadoor", sum := "7d546a2d54ff529fd6bc01b547d356c47293ed03c0125a92e12c9e0698e01af5", func := "fetterlock/fetterlocklaw1.NumberCheckMatchesSpec", spec := "numberCheckMatchesSpec", inPlace := ["internal/bytealg.IndexByteString", "internal/bytealg.IndexString"], unfollowed := true, recurses := true, named := ["internal/bytealg.MaxLen", "unicode/utf8.first", "unicode/utf8.acceptRanges"], apart := false, laid := [("unicode/utf8.acceptRanges", laid_unicode_utf8_acceptRanges), ("unicode/utf8.first", laid_unicode_utf8_first)], narrowed := true }
def NumberCheckMatchesSpecUptoSaid : Prop := numberCheckMatchesSpecUptoRow.holds Tryd.pinned (OpenSpec.upto numberCheckMatchesSpecSpec)

/-- 'fetterlocklaw1.NumberFormatRoundTrip', WHERE WHAT IT READS IS OF BULK AT MOST 1048576: true; the input reads as it did. -/
def numberFormatRoundTripUptoRow : OpenClaim := { program := "ytemnjgkicndmjaadoor", sum := "7d546a2d54ff529fd6bc01b547d356c47293ed03c0125a92e12c9e0698e01af5", func := "fetterlock/fetterlocklaw1.NumberFormatRoundTrip", spec := "numberFormatRoundTrip", inPlace := ["internal/bytealg.IndexByteString", "internal/bytealg.IndexString"], unfollowed := true, recurses := true, named := ["internal/bytealg.MaxLen", "unicode/utf8.first", "unicode/utf8.acceptRanges"], apart := false, laid := [("unicode/utf8.acceptRanges", laid_unicode_utf8_acceptRanges), ("unicode/utf8.first", laid_unicode_utf8_first)], narrowed := true }
def NumberFormatRoundTripUptoSaid : Prop := numberFormatRoundTripUptoRow.holds Tryd.pinned (OpenSpec.upto numberFormatRoundTripSpec)

/-- 'fetterlocklaw1.NumberParseMatchesSpec', WHERE WHAT IT READS IS OF BULK AT MOST 1048576: true; the input reads as it did. -/
def numberParseMatchesSpecUptoRow : OpenClaim := { program := "ytemnjgkicndmjaadoor", sum := "7d546a2d54ff529fd6bc01b547d356c47293ed03c0125a92e12c9e0698e01af5", func := "fetterlock/fetterlocklaw1.NumberParseMatchesSpec", spec := "numberParseMatchesSpec", inPlace := ["internal/bytealg.IndexByteString", "internal/bytealg.IndexString"], unfollowed := true, recurses := true, named := ["internal/bytealg.MaxLen", "unicode/utf8.first", "unicode/utf8.acceptRanges"], apart := false, laid := [("unicode/utf8.acceptRanges", laid_unicode_utf8_acceptRanges), ("unicode/utf8.first", laid_unicode_utf8_first)], narrowed := true }
def NumberParseMatchesSpecUptoSaid : Prop := numberParseMatchesSpecUptoRow.holds Tryd.pinned (OpenSpec.upto numberParseMatchesSpecSpec)

/-- 'fetterlocklaw1.NumberOrderIsTotal', WHERE WHAT IT READS IS OF BULK AT MOST 1048576: true; the input reads as it did. -/
def numberOrderIsTotalUptoRow : OpenClaim := { program := "ytemnjgkicndmjaadoor", sum := "7d546a2d54ff529fd6bc01b547d356c47293ed03c0125a92e12c9e0698e01af5", func := "fetterlock/fetterlocklaw1.NumberOrderIsTotal", spec := "numberOrderIsTotal", inPlace := ["internal/bytealg.IndexByteString", "internal/bytealg.IndexString"], unfollowed := true, recurses := true, named := ["internal/bytealg.MaxLen", "unicode/utf8.first", "unicode/utf8.acceptRanges"], apart := false, laid := [("unicode/utf8.acceptRanges", laid_unicode_utf8_acceptRanges), ("unicode/utf8.first", laid_unicode_utf8_first)], narrowed := true }
def NumberOrderIsTotalUptoSaid : Prop := numberOrderIsTotalUptoRow.holds Tryd.pinned (OpenSpec.upto numberOrderIsTotalSpec)

/-- 'fetterlocklaw1.NumberArithmeticMatchesSpec', WHERE WHAT IT READS IS OF BULK AT MOST 1048576: true; the input reads as it did. -/
def numberArithmeticMatchesSpecUptoRow : OpenClaim := { program := "ytemnjgkicndmjaadoor", sum := "7d546a2d54ff529fd6bc01b547d356c47293ed03c0125a92e12c9e0698e01af5", func := "fetterlock/fetterlocklaw1.NumberArithmeticMatchesSpec", spec := "numberArithmeticMatchesSpec", inPlace := ["internal/bytealg.IndexByteString", "internal/bytealg.IndexString"], unfollowed := true, recurses := true, named := ["internal/bytealg.MaxLen", "unicode/utf8.first", "unicode/utf8.acceptRanges"], apart := false, laid := [("unicode/utf8.acceptRanges", laid_unicode_utf8_acceptRanges), ("unicode/utf8.first", laid_unicode_utf8_first)], narrowed := true }
def NumberArithmeticMatchesSpecUptoSaid : Prop := numberArithmeticMatchesSpecUptoRow.holds Tryd.pinned (OpenSpec.upto numberArithmeticMatchesSpecSpec)

/-- 'fetterlocklaw1.NumberFieldLaws', WHERE WHAT IT READS IS OF BULK AT MOST 1048576: true; the input reads as it did. -/
def numberFieldLawsUptoRow : OpenClaim := { program := "ytemnjgkicndmjaadoor", sum := "7d546a2d54ff529fd6bc01b547d356c47293ed03c0125a92e12c9e0698e01af5", func := "fetterlock/fetterlocklaw1.NumberFieldLaws", spec := "numberFieldLaws", inPlace := ["internal/bytealg.IndexByteString", "internal/bytealg.IndexString"], unfollowed := true, recurses := true, named := ["internal/bytealg.MaxLen", "unicode/utf8.first", "unicode/utf8.acceptRanges"], apart := false, laid := [("unicode/utf8.acceptRanges", laid_unicode_utf8_acceptRanges), ("unicode/utf8.first", laid_unicode_utf8_first)], narrowed := true }
def NumberFieldLawsUptoSaid : Prop := numberFieldLawsUptoRow.holds Tryd.pinned (OpenSpec.upto numberFieldLawsSpec)

/-- 'fetterlocklaw1.NumberIntsRoundTrip', WHERE WHAT IT READS IS OF BULK AT MOST 1048576: true; the input reads as it did. -/
def numberIntsRoundTripUptoRow : OpenClaim := { program := "ytemnjgkicndmjaadoor", sum := "7d546a2d54ff529fd6bc01b547d356c47293ed03c0125a92e12c9e0698e01af5", func := "fetterlock/fetterlocklaw1.NumberIntsRoundTrip", spec := "numberIntsRoundTrip", inPlace := ["internal/bytealg.IndexByteString", "internal/bytealg.IndexString"], unfollowed := true, recurses := true, named := ["internal/bytealg.MaxLen", "unicode/utf8.first", "unicode/utf8.acceptRanges"], apart := false, laid := [("unicode/utf8.acceptRanges", laid_unicode_utf8_acceptRanges), ("unicode/utf8.first", laid_unicode_utf8_first)], narrowed := true }
def NumberIntsRoundTripUptoSaid : Prop := numberIntsRoundTripUptoRow.holds Tryd.pinned (OpenSpec.upto numberIntsRoundTripSpec)

/-- 'fetterlocklaw1.NumberToIntMatchesSpec', WHERE WHAT IT READS IS OF BULK AT MOST 1048576: true; the input reads as it did. -/
def numberToIntMatchesSpecUptoRow : OpenClaim := { program := "ytemnjgkicndmjaadoor", sum := "7d546a2d54ff529fd6bc01b547d356c47293ed03c0125a92e12c9e0698e01af5", func := "fetterlock/fetterlocklaw1.NumberToIntMatchesSpec", spec := "numberToIntMatchesSpec", inPlace := ["internal/bytealg.IndexByteString", "internal/bytealg.IndexString"], unfollowed := true, recurses := true, named := ["internal/bytealg.MaxLen", "unicode/utf8.first", "unicode/utf8.acceptRanges"], apart := false, laid := [("unicode/utf8.acceptRanges", laid_unicode_utf8_acceptRanges), ("unicode/utf8.first", laid_unicode_utf8_first)], narrowed := true }
def NumberToIntMatchesSpecUptoSaid : Prop := numberToIntMatchesSpecUptoRow.holds Tryd.pinned (OpenSpec.upto numberToIntMatchesSpecSpec)

/-- 'fetterlocklaw1.NumberBitsAddUp', WHERE WHAT IT READS IS OF BULK AT MOST 1048576: true; the input reads as it did. -/
def numberBitsAddUpUptoRow : OpenClaim := { program := "ytemnjgkicndmjaadoor", sum := "7d546a2d54ff529fd6bc01b547d356c47293ed03c0125a92e12c9e0698e01af5", func := "fetterlock/fetterlocklaw1.NumberBitsAddUp", spec := "numberBitsAddUp", inPlace := ["internal/bytealg.IndexByteString", "internal/bytealg.IndexString"], unfollowed := true, recurses := true, named := ["internal/bytealg.MaxLen", "unicode/utf8.first", "unicode/utf8.acceptRanges"], apart := false, laid := [("unicode/utf8.acceptRanges", laid_unicode_utf8_acceptRanges), ("unicode/utf8.first", laid_unicode_utf8_first)], narrowed := true }
def NumberBitsAddUpUptoSaid : Prop := numberBitsAddUpUptoRow.holds Tryd.pinned (OpenSpec.upto numberBitsAddUpSpec)

/-- 'fetterlocklaw1.NumberPowersAdd', WHERE WHAT IT READS IS OF BULK AT MOST 1048576: true; the input reads as it did. -/
def numberPowersAddUptoRow : OpenClaim := { program := "ytemnjgkicndmjaadoor", sum := "7d546a2d54ff529fd6bc01b547d356c47293ed03c0125a92e12c9e0698e01af5", func := "fetterlock/fetterlocklaw1.NumberPowersAdd", spec := "numberPowersAdd", inPlace := ["internal/bytealg.IndexByteString", "internal/bytealg.IndexString"], unfollowed := true, recurses := true, named := ["internal/bytealg.MaxLen", "unicode/utf8.first", "unicode/utf8.acceptRanges"], apart := false, laid := [("unicode/utf8.acceptRanges", laid_unicode_utf8_acceptRanges), ("unicode/utf8.first", laid_unicode_utf8_first)], narrowed := true }
def NumberPowersAddUptoSaid : Prop := numberPowersAddUptoRow.holds Tryd.pinned (OpenSpec.upto numberPowersAddSpec)

/-- 'fetterlocklaw1.NumberRoundMatchesSpec', WHERE WHAT IT READS IS OF BULK AT MOST 1048576: true; the input reads as it did. -/
def numberRoundMatchesSpecUptoRow : OpenClaim := { program := "ytemnjgkicndmjaadoor", sum := "7d546a2d54ff529fd6bc01b547d356c47293ed03c0125a92e12c9e0698e01af5", func := "fetterlock/fetterlocklaw1.NumberRoundMatchesSpec", spec := "numberRoundMatchesSpec", inPlace := ["internal/bytealg.IndexByteString", "internal/bytealg.IndexString"], unfollowed := true, recurses := true, named := ["internal/bytealg.MaxLen", "unicode/utf8.first", "unicode/utf8.acceptRanges"], apart := false, laid := [("unicode/utf8.acceptRanges", laid_unicode_utf8_acceptRanges), ("unicode/utf8.first", laid_unicode_utf8_first)], narrowed := true }
def NumberRoundMatchesSpecUptoSaid : Prop := numberRoundMatchesSpecUptoRow.holds Tryd.pinned (OpenSpec.upto numberRoundMatchesSpecSpec)

end Rows
end Go.Proofs.YtemnjgkicndmjaaDoor
