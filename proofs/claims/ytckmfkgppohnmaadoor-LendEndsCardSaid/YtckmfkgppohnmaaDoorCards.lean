/-
  DERIVED. GIVEN WITH THE SEED: THE CARDS: each row of YtckmfkgppohnmaaDoorRows.lean that lists a variable, with what it lists TIED to the program's text (the seventh form; the later family's looks); each row that meets fmt, with fmt's text TOLD by the authors' own Lean function (tested against real Go, not proved from fmt's source: count such statements apart). THE CARD IS WHAT COUNTS. Prove the row's statement (the work); the ties are given (YtckmfkgppohnmaaDoorTie.lean); close each card by the builder's one call (the guide's Derived/Test/ToyasCard.lean, 'card_holds'). Laid BY PROGRAM, IN A SANDBOX (cutbox-door.mjs). By AI agents, Wed Nov 11 2026. No macro, syntax, notation, axiom, sorry.
-/
import Derived.Test.YtckmfkgppohnmaaDoorRows
import GoSem.ClaimSeven
namespace Go.Proofs.YtckmfkgppohnmaaDoor
namespace Rows

/-- THE TIED CARD OF 'parviselaw09.LendOnce'. -/
def lendOnceCard : Claim7 := { stood := { row := lendOnceRow, standIns := [], harness := (true, "28cfda519c54781c81308c4dc0b3570512b8921263a288a3040a4d524312a115"), looks := false }, kinds := [], alts := [], laidByText := true, laidKinds := [.data, .data, .data], laidTests := true, laidLooks := .later }
def LendOnceCardSaid : Prop := Claim7.holds Tryd.pinned (.plain (OpenSpec.ofChange lendOnceSpec)) lendOnceCard

/-- THE TIED CARD OF 'parviselaw09.LendOrder'. -/
def lendOrderCard : Claim7 := { stood := { row := lendOrderRow, standIns := [], harness := (true, "28cfda519c54781c81308c4dc0b3570512b8921263a288a3040a4d524312a115"), looks := false }, kinds := [], alts := [], laidByText := true, laidKinds := [.data, .data, .data], laidTests := true, laidLooks := .later }
def LendOrderCardSaid : Prop := Claim7.holds Tryd.pinned (.plain (OpenSpec.ofChange lendOrderSpec)) lendOrderCard

/-- THE TIED CARD OF 'parviselaw09.LendAll'. -/
def lendAllCard : Claim7 := { stood := { row := lendAllRow, standIns := [], harness := (true, "28cfda519c54781c81308c4dc0b3570512b8921263a288a3040a4d524312a115"), looks := false }, kinds := [], alts := [], laidByText := true, laidKinds := [.data, .data, .data], laidTests := true, laidLooks := .later }
def LendAllCardSaid : Prop := Claim7.holds Tryd.pinned (.plain (OpenSpec.ofChange lendAllSpec)) lendAllCard

/-- THE TIED CARD OF 'parviselaw09.LendEnds'. -/
def lendEndsCard : Claim7 := { stood := { row := lendEndsRow, standIns := [], harness := (true, "28cfda519c54781c81308c4dc0b3570512b8921263a288a3040a4d524312a115"), looks := false }, kinds := [], alts := [], laidByText := true, laidKinds := [.data, .data, .data], laidTests := true, laidLooks := .later }
def LendEndsCardSaid : Prop := Claim7.holds Tryd.pinned (.plain (OpenSpec.ofChange lendEndsSpec)) lendEndsCard

/-- THE SECOND FORM's CARD OF 'parviselaw09.LendOnce'. -/
def lendOnceUptoCard : Claim7 := { stood := { row := lendOnceUptoRow, standIns := [], harness := (true, "28cfda519c54781c81308c4dc0b3570512b8921263a288a3040a4d524312a115"), looks := false }, kinds := [], alts := [], laidByText := true, laidKinds := [.data, .data, .data], laidTests := true, laidLooks := .later }
def LendOnceUptoCardSaid : Prop := Claim7.holds Tryd.pinned (.plain (OpenSpec.upto lendOnceSpec)) lendOnceUptoCard

/-- THE SECOND FORM's CARD OF 'parviselaw09.LendOrder'. -/
def lendOrderUptoCard : Claim7 := { stood := { row := lendOrderUptoRow, standIns := [], harness := (true, "28cfda519c54781c81308c4dc0b3570512b8921263a288a3040a4d524312a115"), looks := false }, kinds := [], alts := [], laidByText := true, laidKinds := [.data, .data, .data], laidTests := true, laidLooks := .later }
def LendOrderUptoCardSaid : Prop := Claim7.holds Tryd.pinned (.plain (OpenSpec.upto lendOrderSpec)) lendOrderUptoCard

/-- THE SECOND FORM's CARD OF 'parviselaw09.LendAll'. -/
def lendAllUptoCard : Claim7 := { stood := { row := lendAllUptoRow, standIns := [], harness := (true, "28cfda519c54781c81308c4dc0b3570512b8921263a288a3040a4d524312a115"), looks := false }, kinds := [], alts := [], laidByText := true, laidKinds := [.data, .data, .data], laidTests := true, laidLooks := .later }
def LendAllUptoCardSaid : Prop := Claim7.holds Tryd.pinned (.plain (OpenSpec.upto lendAllSpec)) lendAllUptoCard

/-- THE SECOND FORM's CARD OF 'parviselaw09.LendEnds'. -/
def lendEndsUptoCard : Claim7 := { stood := { row := lendEndsUptoRow, standIns := [], harness := (true, "28cfda519c54781c81308c4dc0b3570512b8921263a288a3040a4d524312a115"), looks := false }, kinds := [], alts := [], laidByText := true, laidKinds := [.data, .data, .data], laidTests := true, laidLooks := .later }
def LendEndsUptoCardSaid : Prop := Claim7.holds Tryd.pinned (.plain (OpenSpec.upto lendEndsSpec)) lendEndsUptoCard
end Rows
end Go.Proofs.YtckmfkgppohnmaaDoor
