/-
  DERIVED. GIVEN WITH THE SEED: THE CARDS: each row of YtckmfkgppohnmaaGreatDoorRows.lean that lists a variable, with what it lists TIED to the program's text (the seventh form; the later family's looks); each row that meets fmt, with fmt's text TOLD by the authors' own Lean function (tested against real Go, not proved from fmt's source: count such statements apart). THE CARD IS WHAT COUNTS. Prove the row's statement (the work); the ties are given (YtckmfkgppohnmaaGreatDoorTie.lean); close each card by the builder's one call (the guide's Derived/Test/ToyasCard.lean, 'card_holds'). Laid BY PROGRAM, IN A SANDBOX (cutbox-door.mjs). By AI agents, Wed Nov 11 2026. No macro, syntax, notation, axiom, sorry.
-/
import Derived.Test.YtckmfkgppohnmaaGreatDoorRows
import GoSem.ClaimSeven
namespace Go.Proofs.YtckmfkgppohnmaaGreatDoor
namespace Rows

/-- THE TIED CARD OF 'parviselaw09.LendSteps'. -/
def lendStepsCard : Claim7 := { stood := { row := lendStepsRow, standIns := [], harness := (true, "58faa61de3eff3aedc16e69c27c048a92a6db18e7103f1e09a0cb20b9d907ff5"), looks := true }, kinds := [], alts := [], laidByText := true, laidKinds := [.data, .data, .data], laidTests := true, laidLooks := .later }
def LendStepsCardSaid : Prop := Claim7.holds Tryz.pinned (.plain (OpenSpec.ofChange lendStepsSpec)) lendStepsCard

/-- THE TIED CARD OF 'parviselaw09.LendValid'. -/
def lendValidCard : Claim7 := { stood := { row := lendValidRow, standIns := [], harness := (true, "58faa61de3eff3aedc16e69c27c048a92a6db18e7103f1e09a0cb20b9d907ff5"), looks := true }, kinds := [], alts := [], laidByText := true, laidKinds := [.data, .data, .data], laidTests := true, laidLooks := .later }
def LendValidCardSaid : Prop := Claim7.holds Tryz.pinned (.plain (OpenSpec.ofChange lendValidSpec)) lendValidCard

/-- THE TIED CARD OF 'parviselaw09.LendTells'. -/
def lendTellsCard : Claim7 := { stood := { row := lendTellsRow, standIns := [], harness := (true, "58faa61de3eff3aedc16e69c27c048a92a6db18e7103f1e09a0cb20b9d907ff5"), looks := true }, kinds := [], alts := [], laidByText := true, laidKinds := [.data, .data, .data], laidTests := true, laidLooks := .later }
def LendTellsCardSaid : Prop := Claim7.holds Tryz.pinned (.plain (OpenSpec.ofChange lendTellsSpec)) lendTellsCard

/-- THE TIED CARD OF 'parviselaw09.LendChecks'. -/
def lendChecksCard : Claim7 := { stood := { row := lendChecksRow, standIns := [], harness := (true, "58faa61de3eff3aedc16e69c27c048a92a6db18e7103f1e09a0cb20b9d907ff5"), looks := true }, kinds := [], alts := [], laidByText := true, laidKinds := [.data, .data, .data], laidTests := true, laidLooks := .later }
def LendChecksCardSaid : Prop := Claim7.holds Tryz.pinned (.plain (OpenSpec.ofChange lendChecksSpec)) lendChecksCard

/-- THE TIED CARD OF 'parviselaw09.LendTexts'. -/
def lendTextsCard : Claim7 := { stood := { row := lendTextsRow, standIns := [], harness := (true, "58faa61de3eff3aedc16e69c27c048a92a6db18e7103f1e09a0cb20b9d907ff5"), looks := true }, kinds := [], alts := [], laidByText := true, laidKinds := [.data, .data, .data, .data, .sentinel, .sentinel, .pinned], laidTests := true, laidLooks := .later }
def LendTextsCardSaid : Prop := Claim7.holds Tryz.pinned (.plain (OpenSpec.ofChange lendTextsSpec)) lendTextsCard

/-- THE SECOND FORM's CARD OF 'parviselaw09.LendSteps'. -/
def lendStepsUptoCard : Claim7 := { stood := { row := lendStepsUptoRow, standIns := [], harness := (true, "58faa61de3eff3aedc16e69c27c048a92a6db18e7103f1e09a0cb20b9d907ff5"), looks := true }, kinds := [], alts := [], laidByText := true, laidKinds := [.data, .data, .data], laidTests := true, laidLooks := .later }
def LendStepsUptoCardSaid : Prop := Claim7.holds Tryz.pinned (.plain (OpenSpec.upto lendStepsSpec)) lendStepsUptoCard

/-- THE SECOND FORM's CARD OF 'parviselaw09.LendValid'. -/
def lendValidUptoCard : Claim7 := { stood := { row := lendValidUptoRow, standIns := [], harness := (true, "58faa61de3eff3aedc16e69c27c048a92a6db18e7103f1e09a0cb20b9d907ff5"), looks := true }, kinds := [], alts := [], laidByText := true, laidKinds := [.data, .data, .data], laidTests := true, laidLooks := .later }
def LendValidUptoCardSaid : Prop := Claim7.holds Tryz.pinned (.plain (OpenSpec.upto lendValidSpec)) lendValidUptoCard

/-- THE SECOND FORM's CARD OF 'parviselaw09.LendTells'. -/
def lendTellsUptoCard : Claim7 := { stood := { row := lendTellsUptoRow, standIns := [], harness := (true, "58faa61de3eff3aedc16e69c27c048a92a6db18e7103f1e09a0cb20b9d907ff5"), looks := true }, kinds := [], alts := [], laidByText := true, laidKinds := [.data, .data, .data], laidTests := true, laidLooks := .later }
def LendTellsUptoCardSaid : Prop := Claim7.holds Tryz.pinned (.plain (OpenSpec.upto lendTellsSpec)) lendTellsUptoCard

/-- THE SECOND FORM's CARD OF 'parviselaw09.LendChecks'. -/
def lendChecksUptoCard : Claim7 := { stood := { row := lendChecksUptoRow, standIns := [], harness := (true, "58faa61de3eff3aedc16e69c27c048a92a6db18e7103f1e09a0cb20b9d907ff5"), looks := true }, kinds := [], alts := [], laidByText := true, laidKinds := [.data, .data, .data], laidTests := true, laidLooks := .later }
def LendChecksUptoCardSaid : Prop := Claim7.holds Tryz.pinned (.plain (OpenSpec.upto lendChecksSpec)) lendChecksUptoCard

/-- THE SECOND FORM's CARD OF 'parviselaw09.LendTexts'. -/
def lendTextsUptoCard : Claim7 := { stood := { row := lendTextsUptoRow, standIns := [], harness := (true, "58faa61de3eff3aedc16e69c27c048a92a6db18e7103f1e09a0cb20b9d907ff5"), looks := true }, kinds := [], alts := [], laidByText := true, laidKinds := [.data, .data, .data, .data, .sentinel, .sentinel, .pinned], laidTests := true, laidLooks := .later }
def LendTextsUptoCardSaid : Prop := Claim7.holds Tryz.pinned (.plain (OpenSpec.upto lendTextsSpec)) lendTextsUptoCard
end Rows
end Go.Proofs.YtckmfkgppohnmaaGreatDoor
