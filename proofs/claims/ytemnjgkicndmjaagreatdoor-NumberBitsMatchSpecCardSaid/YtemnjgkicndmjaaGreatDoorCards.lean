/-
  DERIVED. GIVEN WITH THE SEED: THE CARDS: each row of YtemnjgkicndmjaaGreatDoorRows.lean that lists a variable, with what it lists TIED to the program's text (the seventh form; the later family's looks); each row that meets fmt, with fmt's text TOLD by the authors' own Lean function (tested against real Go, not proved from fmt's source: count such statements apart). THE CARD IS WHAT COUNTS. Prove the row's statement (the work); the ties are given (YtemnjgkicndmjaaGreatDoorTie.lean); close each card by the builder's one call (the guide's Derived/Test/ToyasCard.lean, 'card_holds'). Laid BY PROGRAM, IN A SANDBOX (cutbox-door.mjs). By AI agents, Wed Nov 11 2026. No macro, syntax, notation, axiom, sorry.
-/
import Derived.Test.YtemnjgkicndmjaaGreatDoorRows
import GoSem.ClaimSeven
namespace Go.Proofs.YtemnjgkicndmjaaGreatDoor
namespace Rows

/-- THE TIED CARD OF 'fetterlocklaw1.NumberDivModMatchesSpec'. -/
def numberDivModMatchesSpecCard : Claim7 := { stood := { row := numberDivModMatchesSpecRow, standIns := [], harness := (true, "54f3aeaf58a7e14ffa22b96c1137058715197c1fa48a3ef57165eda8abe11897"), looks := false }, kinds := [], alts := [], laidByText := true, laidKinds := [.data, .pinned], laidTests := true, laidLooks := .later }
def NumberDivModMatchesSpecCardSaid : Prop := Claim7.holds Tryz.pinned (.plain (OpenSpec.ofChange numberDivModMatchesSpecSpec)) numberDivModMatchesSpecCard

/-- THE TIED CARD OF 'fetterlocklaw1.NumberGcdIsGreatest'. -/
def numberGcdIsGreatestCard : Claim7 := { stood := { row := numberGcdIsGreatestRow, standIns := [], harness := (true, "54f3aeaf58a7e14ffa22b96c1137058715197c1fa48a3ef57165eda8abe11897"), looks := false }, kinds := [], alts := [], laidByText := true, laidKinds := [.data, .pinned], laidTests := true, laidLooks := .later }
def NumberGcdIsGreatestCardSaid : Prop := Claim7.holds Tryz.pinned (.plain (OpenSpec.ofChange numberGcdIsGreatestSpec)) numberGcdIsGreatestCard

/-- THE TIED CARD OF 'fetterlocklaw1.NumberShiftMatchesSpec'. -/
def numberShiftMatchesSpecCard : Claim7 := { stood := { row := numberShiftMatchesSpecRow, standIns := [], harness := (true, "54f3aeaf58a7e14ffa22b96c1137058715197c1fa48a3ef57165eda8abe11897"), looks := false }, kinds := [], alts := [], laidByText := true, laidKinds := [.data, .pinned], laidTests := true, laidLooks := .later }
def NumberShiftMatchesSpecCardSaid : Prop := Claim7.holds Tryz.pinned (.plain (OpenSpec.ofChange numberShiftMatchesSpecSpec)) numberShiftMatchesSpecCard

/-- THE TIED CARD OF 'fetterlocklaw1.NumberBitsMatchSpec'. -/
def numberBitsMatchSpecCard : Claim7 := { stood := { row := numberBitsMatchSpecRow, standIns := [], harness := (true, "54f3aeaf58a7e14ffa22b96c1137058715197c1fa48a3ef57165eda8abe11897"), looks := false }, kinds := [], alts := [], laidByText := true, laidKinds := [.data, .pinned], laidTests := true, laidLooks := .later }
def NumberBitsMatchSpecCardSaid : Prop := Claim7.holds Tryz.pinned (.plain (OpenSpec.ofChange numberBitsMatchSpecSpec)) numberBitsMatchSpecCard

/-- THE TIED CARD OF 'fetterlocklaw1.NumberPowerMatchesSpec'. -/
def numberPowerMatchesSpecCard : Claim7 := { stood := { row := numberPowerMatchesSpecRow, standIns := [], harness := (true, "54f3aeaf58a7e14ffa22b96c1137058715197c1fa48a3ef57165eda8abe11897"), looks := false }, kinds := [], alts := [], laidByText := true, laidKinds := [.data, .pinned], laidTests := true, laidLooks := .later }
def NumberPowerMatchesSpecCardSaid : Prop := Claim7.holds Tryz.pinned (.plain (OpenSpec.ofChange numberPowerMatchesSpecSpec)) numberPowerMatchesSpecCard

/-- THE SECOND FORM's CARD OF 'fetterlocklaw1.NumberDivModMatchesSpec'. -/
def numberDivModMatchesSpecUptoCard : Claim7 := { stood := { row := numberDivModMatchesSpecUptoRow, standIns := [], harness := (true, "54f3aeaf58a7e14ffa22b96c1137058715197c1fa48a3ef57165eda8abe11897"), looks := false }, kinds := [], alts := [], laidByText := true, laidKinds := [.data, .pinned], laidTests := true, laidLooks := .later }
def NumberDivModMatchesSpecUptoCardSaid : Prop := Claim7.holds Tryz.pinned (.plain (OpenSpec.upto numberDivModMatchesSpecSpec)) numberDivModMatchesSpecUptoCard

/-- THE SECOND FORM's CARD OF 'fetterlocklaw1.NumberGcdIsGreatest'. -/
def numberGcdIsGreatestUptoCard : Claim7 := { stood := { row := numberGcdIsGreatestUptoRow, standIns := [], harness := (true, "54f3aeaf58a7e14ffa22b96c1137058715197c1fa48a3ef57165eda8abe11897"), looks := false }, kinds := [], alts := [], laidByText := true, laidKinds := [.data, .pinned], laidTests := true, laidLooks := .later }
def NumberGcdIsGreatestUptoCardSaid : Prop := Claim7.holds Tryz.pinned (.plain (OpenSpec.upto numberGcdIsGreatestSpec)) numberGcdIsGreatestUptoCard

/-- THE SECOND FORM's CARD OF 'fetterlocklaw1.NumberShiftMatchesSpec'. -/
def numberShiftMatchesSpecUptoCard : Claim7 := { stood := { row := numberShiftMatchesSpecUptoRow, standIns := [], harness := (true, "54f3aeaf58a7e14ffa22b96c1137058715197c1fa48a3ef57165eda8abe11897"), looks := false }, kinds := [], alts := [], laidByText := true, laidKinds := [.data, .pinned], laidTests := true, laidLooks := .later }
def NumberShiftMatchesSpecUptoCardSaid : Prop := Claim7.holds Tryz.pinned (.plain (OpenSpec.upto numberShiftMatchesSpecSpec)) numberShiftMatchesSpecUptoCard

/-- THE SECOND FORM's CARD OF 'fetterlocklaw1.NumberBitsMatchSpec'. -/
def numberBitsMatchSpecUptoCard : Claim7 := { stood := { row := numberBitsMatchSpecUptoRow, standIns := [], harness := (true, "54f3aeaf58a7e14ffa22b96c1137058715197c1fa48a3ef57165eda8abe11897"), looks := false }, kinds := [], alts := [], laidByText := true, laidKinds := [.data, .pinned], laidTests := true, laidLooks := .later }
def NumberBitsMatchSpecUptoCardSaid : Prop := Claim7.holds Tryz.pinned (.plain (OpenSpec.upto numberBitsMatchSpecSpec)) numberBitsMatchSpecUptoCard

/-- THE SECOND FORM's CARD OF 'fetterlocklaw1.NumberPowerMatchesSpec'. -/
def numberPowerMatchesSpecUptoCard : Claim7 := { stood := { row := numberPowerMatchesSpecUptoRow, standIns := [], harness := (true, "54f3aeaf58a7e14ffa22b96c1137058715197c1fa48a3ef57165eda8abe11897"), looks := false }, kinds := [], alts := [], laidByText := true, laidKinds := [.data, .pinned], laidTests := true, laidLooks := .later }
def NumberPowerMatchesSpecUptoCardSaid : Prop := Claim7.holds Tryz.pinned (.plain (OpenSpec.upto numberPowerMatchesSpecSpec)) numberPowerMatchesSpecUptoCard
end Rows
end Go.Proofs.YtemnjgkicndmjaaGreatDoor
