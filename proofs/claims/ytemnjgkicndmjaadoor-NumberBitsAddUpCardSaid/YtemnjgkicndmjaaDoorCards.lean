/-
  DERIVED. GIVEN WITH THE SEED: THE CARDS: each row of YtemnjgkicndmjaaDoorRows.lean that lists a variable, with what it lists TIED to the program's text (the seventh form; the later family's looks); each row that meets fmt, with fmt's text TOLD by the authors' own Lean function (tested against real Go, not proved from fmt's source: count such statements apart). THE CARD IS WHAT COUNTS. Prove the row's statement (the work); the ties are given (YtemnjgkicndmjaaDoorTie.lean); close each card by the builder's one call (the guide's Derived/Test/ToyasCard.lean, 'card_holds'). Laid BY PROGRAM, IN A SANDBOX (cutbox-door.mjs). By AI agents, Wed Nov 11 2026. No macro, syntax, notation, axiom, sorry.
-/
import Derived.Test.YtemnjgkicndmjaaDoorRows
import GoSem.ClaimSeven
namespace Go.Proofs.YtemnjgkicndmjaaDoor
namespace Rows

/-- THE TIED CARD OF 'fetterlocklaw1.NumberCheckMatchesSpec'. -/
def numberCheckMatchesSpecCard : Claim7 := { stood := { row := numberCheckMatchesSpecRow, standIns := [], harness := (true, "4deab0b961176021a905852927a35f69e03380854d43b3be6e252957b43b4ec1"), looks := false }, kinds := [], alts := [], laidByText := true, laidKinds := [.data, .pinned], laidTests := true, laidLooks := .later }
def NumberCheckMatchesSpecCardSaid : Prop := Claim7.holds Tryd.pinned (.plain (OpenSpec.ofChange numberCheckMatchesSpecSpec)) numberCheckMatchesSpecCard

/-- THE TIED CARD OF 'fetterlocklaw1.NumberFormatRoundTrip'. -/
def numberFormatRoundTripCard : Claim7 := { stood := { row := numberFormatRoundTripRow, standIns := [], harness := (true, "4deab0b961176021a905852927a35f69e03380854d43b3be6e252957b43b4ec1"), looks := false }, kinds := [], alts := [], laidByText := true, laidKinds := [.data, .pinned], laidTests := true, laidLooks := .later }
def NumberFormatRoundTripCardSaid : Prop := Claim7.holds Tryd.pinned (.plain (OpenSpec.ofChange numberFormatRoundTripSpec)) numberFormatRoundTripCard

/-- THE TIED CARD OF 'fetterlocklaw1.NumberParseMatchesSpec'. -/
def numberParseMatchesSpecCard : Claim7 := { stood := { row := numberParseMatchesSpecRow, standIns := [], harness := (true, "4deab0b961176021a905852927a35f69e03380854d43b3be6e252957b43b4ec1"), looks := false }, kinds := [], alts := [], laidByText := true, laidKinds := [.data, .pinned], laidTests := true, laidLooks := .later }
def NumberParseMatchesSpecCardSaid : Prop := Claim7.holds Tryd.pinned (.plain (OpenSpec.ofChange numberParseMatchesSpecSpec)) numberParseMatchesSpecCard

/-- THE TIED CARD OF 'fetterlocklaw1.NumberOrderIsTotal'. -/
def numberOrderIsTotalCard : Claim7 := { stood := { row := numberOrderIsTotalRow, standIns := [], harness := (true, "4deab0b961176021a905852927a35f69e03380854d43b3be6e252957b43b4ec1"), looks := false }, kinds := [], alts := [], laidByText := true, laidKinds := [.data, .pinned], laidTests := true, laidLooks := .later }
def NumberOrderIsTotalCardSaid : Prop := Claim7.holds Tryd.pinned (.plain (OpenSpec.ofChange numberOrderIsTotalSpec)) numberOrderIsTotalCard

/-- THE TIED CARD OF 'fetterlocklaw1.NumberArithmeticMatchesSpec'. -/
def numberArithmeticMatchesSpecCard : Claim7 := { stood := { row := numberArithmeticMatchesSpecRow, standIns := [], harness := (true, "4deab0b961176021a905852927a35f69e03380854d43b3be6e252957b43b4ec1"), looks := false }, kinds := [], alts := [], laidByText := true, laidKinds := [.data, .pinned], laidTests := true, laidLooks := .later }
def NumberArithmeticMatchesSpecCardSaid : Prop := Claim7.holds Tryd.pinned (.plain (OpenSpec.ofChange numberArithmeticMatchesSpecSpec)) numberArithmeticMatchesSpecCard

/-- THE TIED CARD OF 'fetterlocklaw1.NumberFieldLaws'. -/
def numberFieldLawsCard : Claim7 := { stood := { row := numberFieldLawsRow, standIns := [], harness := (true, "4deab0b961176021a905852927a35f69e03380854d43b3be6e252957b43b4ec1"), looks := false }, kinds := [], alts := [], laidByText := true, laidKinds := [.data, .pinned], laidTests := true, laidLooks := .later }
def NumberFieldLawsCardSaid : Prop := Claim7.holds Tryd.pinned (.plain (OpenSpec.ofChange numberFieldLawsSpec)) numberFieldLawsCard

/-- THE TIED CARD OF 'fetterlocklaw1.NumberIntsRoundTrip'. -/
def numberIntsRoundTripCard : Claim7 := { stood := { row := numberIntsRoundTripRow, standIns := [], harness := (true, "4deab0b961176021a905852927a35f69e03380854d43b3be6e252957b43b4ec1"), looks := false }, kinds := [], alts := [], laidByText := true, laidKinds := [.data, .pinned], laidTests := true, laidLooks := .later }
def NumberIntsRoundTripCardSaid : Prop := Claim7.holds Tryd.pinned (.plain (OpenSpec.ofChange numberIntsRoundTripSpec)) numberIntsRoundTripCard

/-- THE TIED CARD OF 'fetterlocklaw1.NumberToIntMatchesSpec'. -/
def numberToIntMatchesSpecCard : Claim7 := { stood := { row := numberToIntMatchesSpecRow, standIns := [], harness := (true, "4deab0b961176021a905852927a35f69e03380854d43b3be6e252957b43b4ec1"), looks := false }, kinds := [], alts := [], laidByText := true, laidKinds := [.data, .pinned], laidTests := true, laidLooks := .later }
def NumberToIntMatchesSpecCardSaid : Prop := Claim7.holds Tryd.pinned (.plain (OpenSpec.ofChange numberToIntMatchesSpecSpec)) numberToIntMatchesSpecCard

/-- THE TIED CARD OF 'fetterlocklaw1.NumberBitsAddUp'. -/
def numberBitsAddUpCard : Claim7 := { stood := { row := numberBitsAddUpRow, standIns := [], harness := (true, "4deab0b961176021a905852927a35f69e03380854d43b3be6e252957b43b4ec1"), looks := false }, kinds := [], alts := [], laidByText := true, laidKinds := [.data, .pinned], laidTests := true, laidLooks := .later }
def NumberBitsAddUpCardSaid : Prop := Claim7.holds Tryd.pinned (.plain (OpenSpec.ofChange numberBitsAddUpSpec)) numberBitsAddUpCard

/-- THE TIED CARD OF 'fetterlocklaw1.NumberPowersAdd'. -/
def numberPowersAddCard : Claim7 := { stood := { row := numberPowersAddRow, standIns := [], harness := (true, "4deab0b961176021a905852927a35f69e03380854d43b3be6e252957b43b4ec1"), looks := false }, kinds := [], alts := [], laidByText := true, laidKinds := [.data, .pinned], laidTests := true, laidLooks := .later }
def NumberPowersAddCardSaid : Prop := Claim7.holds Tryd.pinned (.plain (OpenSpec.ofChange numberPowersAddSpec)) numberPowersAddCard

/-- THE TIED CARD OF 'fetterlocklaw1.NumberRoundMatchesSpec'. -/
def numberRoundMatchesSpecCard : Claim7 := { stood := { row := numberRoundMatchesSpecRow, standIns := [], harness := (true, "4deab0b961176021a905852927a35f69e03380854d43b3be6e252957b43b4ec1"), looks := false }, kinds := [], alts := [], laidByText := true, laidKinds := [.data, .pinned], laidTests := true, laidLooks := .later }
def NumberRoundMatchesSpecCardSaid : Prop := Claim7.holds Tryd.pinned (.plain (OpenSpec.ofChange numberRoundMatchesSpecSpec)) numberRoundMatchesSpecCard

/-- THE SECOND FORM's CARD OF 'fetterlocklaw1.NumberCheckMatchesSpec'. -/
def numberCheckMatchesSpecUptoCard : Claim7 := { stood := { row := numberCheckMatchesSpecUptoRow, standIns := [], harness := (true, "4deab0b961176021a905852927a35f69e03380854d43b3be6e252957b43b4ec1"), looks := false }, kinds := [], alts := [], laidByText := true, laidKinds := [.data, .pinned], laidTests := true, laidLooks := .later }
def NumberCheckMatchesSpecUptoCardSaid : Prop := Claim7.holds Tryd.pinned (.plain (OpenSpec.upto numberCheckMatchesSpecSpec)) numberCheckMatchesSpecUptoCard

/-- THE SECOND FORM's CARD OF 'fetterlocklaw1.NumberFormatRoundTrip'. -/
def numberFormatRoundTripUptoCard : Claim7 := { stood := { row := numberFormatRoundTripUptoRow, standIns := [], harness := (true, "4deab0b961176021a905852927a35f69e03380854d43b3be6e252957b43b4ec1"), looks := false }, kinds := [], alts := [], laidByText := true, laidKinds := [.data, .pinned], laidTests := true, laidLooks := .later }
def NumberFormatRoundTripUptoCardSaid : Prop := Claim7.holds Tryd.pinned (.plain (OpenSpec.upto numberFormatRoundTripSpec)) numberFormatRoundTripUptoCard

/-- THE SECOND FORM's CARD OF 'fetterlocklaw1.NumberParseMatchesSpec'. -/
def numberParseMatchesSpecUptoCard : Claim7 := { stood := { row := numberParseMatchesSpecUptoRow, standIns := [], harness := (true, "4deab0b961176021a905852927a35f69e03380854d43b3be6e252957b43b4ec1"), looks := false }, kinds := [], alts := [], laidByText := true, laidKinds := [.data, .pinned], laidTests := true, laidLooks := .later }
def NumberParseMatchesSpecUptoCardSaid : Prop := Claim7.holds Tryd.pinned (.plain (OpenSpec.upto numberParseMatchesSpecSpec)) numberParseMatchesSpecUptoCard

/-- THE SECOND FORM's CARD OF 'fetterlocklaw1.NumberOrderIsTotal'. -/
def numberOrderIsTotalUptoCard : Claim7 := { stood := { row := numberOrderIsTotalUptoRow, standIns := [], harness := (true, "4deab0b961176021a905852927a35f69e03380854d43b3be6e252957b43b4ec1"), looks := false }, kinds := [], alts := [], laidByText := true, laidKinds := [.data, .pinned], laidTests := true, laidLooks := .later }
def NumberOrderIsTotalUptoCardSaid : Prop := Claim7.holds Tryd.pinned (.plain (OpenSpec.upto numberOrderIsTotalSpec)) numberOrderIsTotalUptoCard

/-- THE SECOND FORM's CARD OF 'fetterlocklaw1.NumberArithmeticMatchesSpec'. -/
def numberArithmeticMatchesSpecUptoCard : Claim7 := { stood := { row := numberArithmeticMatchesSpecUptoRow, standIns := [], harness := (true, "4deab0b961176021a905852927a35f69e03380854d43b3be6e252957b43b4ec1"), looks := false }, kinds := [], alts := [], laidByText := true, laidKinds := [.data, .pinned], laidTests := true, laidLooks := .later }
def NumberArithmeticMatchesSpecUptoCardSaid : Prop := Claim7.holds Tryd.pinned (.plain (OpenSpec.upto numberArithmeticMatchesSpecSpec)) numberArithmeticMatchesSpecUptoCard

/-- THE SECOND FORM's CARD OF 'fetterlocklaw1.NumberFieldLaws'. -/
def numberFieldLawsUptoCard : Claim7 := { stood := { row := numberFieldLawsUptoRow, standIns := [], harness := (true, "4deab0b961176021a905852927a35f69e03380854d43b3be6e252957b43b4ec1"), looks := false }, kinds := [], alts := [], laidByText := true, laidKinds := [.data, .pinned], laidTests := true, laidLooks := .later }
def NumberFieldLawsUptoCardSaid : Prop := Claim7.holds Tryd.pinned (.plain (OpenSpec.upto numberFieldLawsSpec)) numberFieldLawsUptoCard

/-- THE SECOND FORM's CARD OF 'fetterlocklaw1.NumberIntsRoundTrip'. -/
def numberIntsRoundTripUptoCard : Claim7 := { stood := { row := numberIntsRoundTripUptoRow, standIns := [], harness := (true, "4deab0b961176021a905852927a35f69e03380854d43b3be6e252957b43b4ec1"), looks := false }, kinds := [], alts := [], laidByText := true, laidKinds := [.data, .pinned], laidTests := true, laidLooks := .later }
def NumberIntsRoundTripUptoCardSaid : Prop := Claim7.holds Tryd.pinned (.plain (OpenSpec.upto numberIntsRoundTripSpec)) numberIntsRoundTripUptoCard

/-- THE SECOND FORM's CARD OF 'fetterlocklaw1.NumberToIntMatchesSpec'. -/
def numberToIntMatchesSpecUptoCard : Claim7 := { stood := { row := numberToIntMatchesSpecUptoRow, standIns := [], harness := (true, "4deab0b961176021a905852927a35f69e03380854d43b3be6e252957b43b4ec1"), looks := false }, kinds := [], alts := [], laidByText := true, laidKinds := [.data, .pinned], laidTests := true, laidLooks := .later }
def NumberToIntMatchesSpecUptoCardSaid : Prop := Claim7.holds Tryd.pinned (.plain (OpenSpec.upto numberToIntMatchesSpecSpec)) numberToIntMatchesSpecUptoCard

/-- THE SECOND FORM's CARD OF 'fetterlocklaw1.NumberBitsAddUp'. -/
def numberBitsAddUpUptoCard : Claim7 := { stood := { row := numberBitsAddUpUptoRow, standIns := [], harness := (true, "4deab0b961176021a905852927a35f69e03380854d43b3be6e252957b43b4ec1"), looks := false }, kinds := [], alts := [], laidByText := true, laidKinds := [.data, .pinned], laidTests := true, laidLooks := .later }
def NumberBitsAddUpUptoCardSaid : Prop := Claim7.holds Tryd.pinned (.plain (OpenSpec.upto numberBitsAddUpSpec)) numberBitsAddUpUptoCard

/-- THE SECOND FORM's CARD OF 'fetterlocklaw1.NumberPowersAdd'. -/
def numberPowersAddUptoCard : Claim7 := { stood := { row := numberPowersAddUptoRow, standIns := [], harness := (true, "4deab0b961176021a905852927a35f69e03380854d43b3be6e252957b43b4ec1"), looks := false }, kinds := [], alts := [], laidByText := true, laidKinds := [.data, .pinned], laidTests := true, laidLooks := .later }
def NumberPowersAddUptoCardSaid : Prop := Claim7.holds Tryd.pinned (.plain (OpenSpec.upto numberPowersAddSpec)) numberPowersAddUptoCard

/-- THE SECOND FORM's CARD OF 'fetterlocklaw1.NumberRoundMatchesSpec'. -/
def numberRoundMatchesSpecUptoCard : Claim7 := { stood := { row := numberRoundMatchesSpecUptoRow, standIns := [], harness := (true, "4deab0b961176021a905852927a35f69e03380854d43b3be6e252957b43b4ec1"), looks := false }, kinds := [], alts := [], laidByText := true, laidKinds := [.data, .pinned], laidTests := true, laidLooks := .later }
def NumberRoundMatchesSpecUptoCardSaid : Prop := Claim7.holds Tryd.pinned (.plain (OpenSpec.upto numberRoundMatchesSpecSpec)) numberRoundMatchesSpecUptoCard
end Rows
end Go.Proofs.YtemnjgkicndmjaaDoor
