/-
  No cell of these rows narrows 'for every input' (looked for: loops, veiled, ifaces, maps, wideKeys, modest, calm, conditions, laid).
  DERIVED. THE GIVEN ROWS OF THIS SEAT. 11 by the template 'for every input the law returns true; each argument reads behind the call as it read before'; 0 by the template 'total and deterministic' (their statements: YtepaolcgegdpoaaGreatTotals.lean).
  GIVEN WITH THE SEED: the statements are not yours to turn. If you find one false, say at which input.
  Laid BY PROGRAM, IN A SANDBOX (cutbox-rows.mjs): the forced cells as the released guide's own fill.sh prints them over the translation 22409c571c722f62… (all of the seat's roots in one cut). By AI agents, Wed Nov 11 2026. No macro, syntax, notation, axiom, sorry.
-/
import Derived.Test.YtepaolcgegdpoaaGreatChecked
import GoSem.Claim
import GoSem.ClaimJoined
import GoSem.ClaimMapViews
import Derived.JoinedTies
import Derived.KernelRfl
namespace Go.Proofs.YtepaolcgegdpoaaGreat
/- THE CELL 'sum', in the pinned program and in every row, IS THE sha256 OF THE DUMP (.gsa) THAT YtepaolcgegdpoaaGreatProg.lean LOADS. Nothing in Lean hashes anything: it is a label: what it is worth is what the hold of that sum in a sandbox is worth. -/
noncomputable def Tryz.pinned : Pinned := { name := "ytepaolcgegdpoaagreat", sum := "22409c571c722f62f0717d596021d8549c8489289bf975ae0857ad6b353232eb", checked := Tryz.checked }
namespace Rows
def none {H : Type} : Left H := { results := [], args := [] }

/-- 'parviselaw02.LoanBack': WHATEVER THE INPUT: true; the input reads as it did. -/
def loanBackSpec : ChangeSpec := { name := "loanBack", fn := fun _ => fun
  | [d] => { results := [.lit (.bool true)], args := [d] }
  | _ => none }
def loanBackRow : OpenClaim := { program := "ytepaolcgegdpoaagreat", sum := "22409c571c722f62f0717d596021d8549c8489289bf975ae0857ad6b353232eb", func := "parvise/parviselaw02.LoanBack", spec := "loanBack", unfollowed := true, recurses := true, plainKeys := false, apart := false }
def LoanBackSaid : Prop := loanBackRow.holds Tryz.pinned (OpenSpec.ofChange loanBackSpec)

/-- ITS FALSE NEIGHBOUR: 'it returns false'. Refute it at one input. -/
def loanBackWrong : ChangeSpec := { name := "loanBack", fn := fun _ => fun
  | [d] => { results := [.lit (.bool false)], args := [d] }
  | _ => none }
def LoanBackWrongFalsely : Prop := loanBackRow.holds Tryz.pinned (OpenSpec.ofChange loanBackWrong)

/-- 'parviselaw02.LoanMoves': WHATEVER THE INPUT: true; the input reads as it did. -/
def loanMovesSpec : ChangeSpec := { name := "loanMoves", fn := fun _ => fun
  | [d1, d2] => { results := [.lit (.bool true)], args := [d1, d2] }
  | _ => none }
def loanMovesRow : OpenClaim := { program := "ytepaolcgegdpoaagreat", sum := "22409c571c722f62f0717d596021d8549c8489289bf975ae0857ad6b353232eb", func := "parvise/parviselaw02.LoanMoves", spec := "loanMoves", unfollowed := true, recurses := true, plainKeys := false, apart := false }
def LoanMovesSaid : Prop := loanMovesRow.holds Tryz.pinned (OpenSpec.ofChange loanMovesSpec)

/-- ITS FALSE NEIGHBOUR: 'it returns false'. Refute it at one input. -/
def loanMovesWrong : ChangeSpec := { name := "loanMoves", fn := fun _ => fun
  | [d1, d2] => { results := [.lit (.bool false)], args := [d1, d2] }
  | _ => none }
def LoanMovesWrongFalsely : Prop := loanMovesRow.holds Tryz.pinned (OpenSpec.ofChange loanMovesWrong)

/-- 'parviselaw02.LoanWheres': WHATEVER THE INPUT: true; the input reads as it did. -/
def loanWheresSpec : ChangeSpec := { name := "loanWheres", fn := fun _ => fun
  | [d1, d2] => { results := [.lit (.bool true)], args := [d1, d2] }
  | _ => none }
def loanWheresRow : OpenClaim := { program := "ytepaolcgegdpoaagreat", sum := "22409c571c722f62f0717d596021d8549c8489289bf975ae0857ad6b353232eb", func := "parvise/parviselaw02.LoanWheres", spec := "loanWheres", unfollowed := true, recurses := true, plainKeys := false, apart := false }
def LoanWheresSaid : Prop := loanWheresRow.holds Tryz.pinned (OpenSpec.ofChange loanWheresSpec)

/-- ITS FALSE NEIGHBOUR: 'it returns false'. Refute it at one input. -/
def loanWheresWrong : ChangeSpec := { name := "loanWheres", fn := fun _ => fun
  | [d1, d2] => { results := [.lit (.bool false)], args := [d1, d2] }
  | _ => none }
def LoanWheresWrongFalsely : Prop := loanWheresRow.holds Tryz.pinned (OpenSpec.ofChange loanWheresWrong)

/-- 'parviselaw02.LoanTrue': WHATEVER THE INPUT: true; the input reads as it did. -/
def loanTrueSpec : ChangeSpec := { name := "loanTrue", fn := fun _ => fun
  | [d1, d2] => { results := [.lit (.bool true)], args := [d1, d2] }
  | _ => none }
def loanTrueRow : OpenClaim := { program := "ytepaolcgegdpoaagreat", sum := "22409c571c722f62f0717d596021d8549c8489289bf975ae0857ad6b353232eb", func := "parvise/parviselaw02.LoanTrue", spec := "loanTrue", unfollowed := true, recurses := true, plainKeys := false, apart := false }
def LoanTrueSaid : Prop := loanTrueRow.holds Tryz.pinned (OpenSpec.ofChange loanTrueSpec)

/-- ITS FALSE NEIGHBOUR: 'it returns false'. Refute it at one input. -/
def loanTrueWrong : ChangeSpec := { name := "loanTrue", fn := fun _ => fun
  | [d1, d2] => { results := [.lit (.bool false)], args := [d1, d2] }
  | _ => none }
def LoanTrueWrongFalsely : Prop := loanTrueRow.holds Tryz.pinned (OpenSpec.ofChange loanTrueWrong)

/-- 'parviselaw02.LoanSince': WHATEVER THE INPUT: true; the input reads as it did. -/
def loanSinceSpec : ChangeSpec := { name := "loanSince", fn := fun _ => fun
  | [d1, d2] => { results := [.lit (.bool true)], args := [d1, d2] }
  | _ => none }
def loanSinceRow : OpenClaim := { program := "ytepaolcgegdpoaagreat", sum := "22409c571c722f62f0717d596021d8549c8489289bf975ae0857ad6b353232eb", func := "parvise/parviselaw02.LoanSince", spec := "loanSince", unfollowed := true, recurses := true, plainKeys := false, apart := false }
def LoanSinceSaid : Prop := loanSinceRow.holds Tryz.pinned (OpenSpec.ofChange loanSinceSpec)

/-- ITS FALSE NEIGHBOUR: 'it returns false'. Refute it at one input. -/
def loanSinceWrong : ChangeSpec := { name := "loanSince", fn := fun _ => fun
  | [d1, d2] => { results := [.lit (.bool false)], args := [d1, d2] }
  | _ => none }
def LoanSinceWrongFalsely : Prop := loanSinceRow.holds Tryz.pinned (OpenSpec.ofChange loanSinceWrong)

/-- 'parviselaw02.LoanPlaces': WHATEVER THE INPUT: true; the input reads as it did. -/
def loanPlacesSpec : ChangeSpec := { name := "loanPlaces", fn := fun _ => fun
  | [d1, d2, d3] => { results := [.lit (.bool true)], args := [d1, d2, d3] }
  | _ => none }
def loanPlacesRow : OpenClaim := { program := "ytepaolcgegdpoaagreat", sum := "22409c571c722f62f0717d596021d8549c8489289bf975ae0857ad6b353232eb", func := "parvise/parviselaw02.LoanPlaces", spec := "loanPlaces", unfollowed := true, recurses := true, plainKeys := false, apart := false }
def LoanPlacesSaid : Prop := loanPlacesRow.holds Tryz.pinned (OpenSpec.ofChange loanPlacesSpec)

/-- ITS FALSE NEIGHBOUR: 'it returns false'. Refute it at one input. -/
def loanPlacesWrong : ChangeSpec := { name := "loanPlaces", fn := fun _ => fun
  | [d1, d2, d3] => { results := [.lit (.bool false)], args := [d1, d2, d3] }
  | _ => none }
def LoanPlacesWrongFalsely : Prop := loanPlacesRow.holds Tryz.pinned (OpenSpec.ofChange loanPlacesWrong)

/-- 'parviselaw02.LoanAttained': WHATEVER THE INPUT: true; the input reads as it did. -/
def loanAttainedSpec : ChangeSpec := { name := "loanAttained", fn := fun _ => fun
  | [d1, d2] => { results := [.lit (.bool true)], args := [d1, d2] }
  | _ => none }
def loanAttainedRow : OpenClaim := { program := "ytepaolcgegdpoaagreat", sum := "22409c571c722f62f0717d596021d8549c8489289bf975ae0857ad6b353232eb", func := "parvise/parviselaw02.LoanAttained", spec := "loanAttained", unfollowed := true, recurses := true, plainKeys := false, apart := false }
def LoanAttainedSaid : Prop := loanAttainedRow.holds Tryz.pinned (OpenSpec.ofChange loanAttainedSpec)

/-- ITS FALSE NEIGHBOUR: 'it returns false'. Refute it at one input. -/
def loanAttainedWrong : ChangeSpec := { name := "loanAttained", fn := fun _ => fun
  | [d1, d2] => { results := [.lit (.bool false)], args := [d1, d2] }
  | _ => none }
def LoanAttainedWrongFalsely : Prop := loanAttainedRow.holds Tryz.pinned (OpenSpec.ofChange loanAttainedWrong)

/-- 'parviselaw02.LoanTwo': WHATEVER THE INPUT: true; the input reads as it did. -/
def loanTwoSpec : ChangeSpec := { name := "loanTwo", fn := fun _ => fun
  | [d1, d2, d3] => { results := [.lit (.bool true)], args := [d1, d2, d3] }
  | _ => none }
def loanTwoRow : OpenClaim := { program := "ytepaolcgegdpoaagreat", sum := "22409c571c722f62f0717d596021d8549c8489289bf975ae0857ad6b353232eb", func := "parvise/parviselaw02.LoanTwo", spec := "loanTwo", unfollowed := true, recurses := true, plainKeys := false, apart := false }
def LoanTwoSaid : Prop := loanTwoRow.holds Tryz.pinned (OpenSpec.ofChange loanTwoSpec)

/-- ITS FALSE NEIGHBOUR: 'it returns false'. Refute it at one input. -/
def loanTwoWrong : ChangeSpec := { name := "loanTwo", fn := fun _ => fun
  | [d1, d2, d3] => { results := [.lit (.bool false)], args := [d1, d2, d3] }
  | _ => none }
def LoanTwoWrongFalsely : Prop := loanTwoRow.holds Tryz.pinned (OpenSpec.ofChange loanTwoWrong)

/-- 'parviselaw02.LoanDoubles': WHATEVER THE INPUT: true; the input reads as it did. -/
def loanDoublesSpec : ChangeSpec := { name := "loanDoubles", fn := fun _ => fun
  | [d1, d2, d3] => { results := [.lit (.bool true)], args := [d1, d2, d3] }
  | _ => none }
def loanDoublesRow : OpenClaim := { program := "ytepaolcgegdpoaagreat", sum := "22409c571c722f62f0717d596021d8549c8489289bf975ae0857ad6b353232eb", func := "parvise/parviselaw02.LoanDoubles", spec := "loanDoubles", unfollowed := true, recurses := true, plainKeys := false, apart := false }
def LoanDoublesSaid : Prop := loanDoublesRow.holds Tryz.pinned (OpenSpec.ofChange loanDoublesSpec)

/-- ITS FALSE NEIGHBOUR: 'it returns false'. Refute it at one input. -/
def loanDoublesWrong : ChangeSpec := { name := "loanDoubles", fn := fun _ => fun
  | [d1, d2, d3] => { results := [.lit (.bool false)], args := [d1, d2, d3] }
  | _ => none }
def LoanDoublesWrongFalsely : Prop := loanDoublesRow.holds Tryz.pinned (OpenSpec.ofChange loanDoublesWrong)

/-- 'parviselaw02.LoanChecks': WHATEVER THE INPUT: true; the input reads as it did. -/
def loanChecksSpec : ChangeSpec := { name := "loanChecks", fn := fun _ => fun
  | [d1, d2] => { results := [.lit (.bool true)], args := [d1, d2] }
  | _ => none }
def loanChecksRow : OpenClaim := { program := "ytepaolcgegdpoaagreat", sum := "22409c571c722f62f0717d596021d8549c8489289bf975ae0857ad6b353232eb", func := "parvise/parviselaw02.LoanChecks", spec := "loanChecks", inPlace := ["slices.overlaps[parvise/api.Sight]"], unfollowed := true, recurses := true, plainKeys := false, apart := false }
def LoanChecksSaid : Prop := loanChecksRow.holds Tryz.pinned (OpenSpec.ofChange loanChecksSpec)

/-- ITS FALSE NEIGHBOUR: 'it returns false'. Refute it at one input. -/
def loanChecksWrong : ChangeSpec := { name := "loanChecks", fn := fun _ => fun
  | [d1, d2] => { results := [.lit (.bool false)], args := [d1, d2] }
  | _ => none }
def LoanChecksWrongFalsely : Prop := loanChecksRow.holds Tryz.pinned (OpenSpec.ofChange loanChecksWrong)

/-- 'parviselaw02.LoanNarrows': WHATEVER THE INPUT: true; the input reads as it did. -/
def loanNarrowsSpec : ChangeSpec := { name := "loanNarrows", fn := fun _ => fun
  | [d1, d2] => { results := [.lit (.bool true)], args := [d1, d2] }
  | _ => none }
def loanNarrowsRow : OpenClaim := { program := "ytepaolcgegdpoaagreat", sum := "22409c571c722f62f0717d596021d8549c8489289bf975ae0857ad6b353232eb", func := "parvise/parviselaw02.LoanNarrows", spec := "loanNarrows", inPlace := ["slices.overlaps[parvise/api.Sight]"], unfollowed := true, recurses := true, plainKeys := false, apart := false }
def LoanNarrowsSaid : Prop := loanNarrowsRow.holds Tryz.pinned (OpenSpec.ofChange loanNarrowsSpec)

/-- ITS FALSE NEIGHBOUR: 'it returns false'. Refute it at one input. -/
def loanNarrowsWrong : ChangeSpec := { name := "loanNarrows", fn := fun _ => fun
  | [d1, d2] => { results := [.lit (.bool false)], args := [d1, d2] }
  | _ => none }
def LoanNarrowsWrongFalsely : Prop := loanNarrowsRow.holds Tryz.pinned (OpenSpec.ofChange loanNarrowsWrong)

/- THE SECOND FORM. 'bulk': how many values and letters a reading holds, each counted each time it is reached (what is shared counts as often as it is met; a slice's spare places count too). A statement '..UptoSaid' is the law's where the arguments, and the package variables that the reading takes, are together of bulk at most 1048576: NARROWER than '..Said'. Prove '..Said' where nothing that the law and all that it calls make is longer than what came in: it says more and counts as full. Else prove '..UptoSaid'. A law counts once. -/
mutual
def uptoBulk {H : Type} : DataW H → Nat
  | .lit (.string bytes) => bytes.length + 1
  | .lit _ => 1
  | .nil => 1
  | .ptr d => uptoBulk d + 1
  | .slice elems spare => uptoBulkAll elems + uptoBulkAll spare + 1
  | .agg parts => uptoBulkAll parts + 1
  | .iface _ d => uptoBulk d + 1
  | .map entries => uptoBulkEntries entries + 1
  | .held _ => 1
def uptoBulkAll {H : Type} : List (DataW H) → Nat
  | [] => 0
  | d :: r => uptoBulk d + uptoBulkAll r
def uptoBulkEntries {H : Type} : List (Lit × DataW H) → Nat
  | [] => 0
  | x :: r => uptoBulkEntry x + uptoBulkEntries r
def uptoBulkEntry {H : Type} : Lit × DataW H → Nat
  | (.string bytes, d) => bytes.length + uptoBulk d + 1
  | (_, d) => uptoBulk d + 1
 end
def uptoSmall : (H : Type) → List (DataW H) → Bool := fun _ ds => decide (uptoBulkAll ds ≤ 1048576)
def OpenSpec.upto (s : _root_.Go.ChangeSpec) : _root_.Go.OpenSpec := { _root_.Go.OpenSpec.ofChange s with cond := some uptoSmall }

/-- 'parviselaw02.LoanBack', WHERE WHAT IT READS IS OF BULK AT MOST 1048576: true; the input reads as it did. -/
def loanBackUptoRow : OpenClaim := { program := "ytepaolcgegdpoaagreat", sum := "22409c571c722f62f0717d596021d8549c8489289bf975ae0857ad6b353232eb", func := "parvise/parviselaw02.LoanBack", spec := "loanBack", unfollowed := true, recurses := true, plainKeys := false, apart := false, narrowed := true }
def LoanBackUptoSaid : Prop := loanBackUptoRow.holds Tryz.pinned (OpenSpec.upto loanBackSpec)

/-- 'parviselaw02.LoanMoves', WHERE WHAT IT READS IS OF BULK AT MOST 1048576: true; the input reads as it did. -/
def loanMovesUptoRow : OpenClaim := { program := "ytepaolcgegdpoaagreat", sum := "22409c571c722f62f0717d596021d8549c8489289bf975ae0857ad6b353232eb", func := "parvise/parviselaw02.LoanMoves", spec := "loanMoves", unfollowed := true, recurses := true, plainKeys := false, apart := false, narrowed := true }
def LoanMovesUptoSaid : Prop := loanMovesUptoRow.holds Tryz.pinned (OpenSpec.upto loanMovesSpec)

/-- 'parviselaw02.LoanWheres', WHERE WHAT IT READS IS OF BULK AT MOST 1048576: true; the input reads as it did. -/
def loanWheresUptoRow : OpenClaim := { program := "ytepaolcgegdpoaagreat", sum := "22409c571c722f62f0717d596021d8549c8489289bf975ae0857ad6b353232eb", func := "parvise/parviselaw02.LoanWheres", spec := "loanWheres", unfollowed := true, recurses := true, plainKeys := false, apart := false, narrowed := true }
def LoanWheresUptoSaid : Prop := loanWheresUptoRow.holds Tryz.pinned (OpenSpec.upto loanWheresSpec)

/-- 'parviselaw02.LoanTrue', WHERE WHAT IT READS IS OF BULK AT MOST 1048576: true; the input reads as it did. -/
def loanTrueUptoRow : OpenClaim := { program := "ytepaolcgegdpoaagreat", sum := "22409c571c722f62f0717d596021d8549c8489289bf975ae0857ad6b353232eb", func := "parvise/parviselaw02.LoanTrue", spec := "loanTrue", unfollowed := true, recurses := true, plainKeys := false, apart := false, narrowed := true }
def LoanTrueUptoSaid : Prop := loanTrueUptoRow.holds Tryz.pinned (OpenSpec.upto loanTrueSpec)

/-- 'parviselaw02.LoanSince', WHERE WHAT IT READS IS OF BULK AT MOST 1048576: true; the input reads as it did. -/
def loanSinceUptoRow : OpenClaim := { program := "ytepaolcgegdpoaagreat", sum := "22409c571c722f62f0717d596021d8549c8489289bf975ae0857ad6b353232eb", func := "parvise/parviselaw02.LoanSince", spec := "loanSince", unfollowed := true, recurses := true, plainKeys := false, apart := false, narrowed := true }
def LoanSinceUptoSaid : Prop := loanSinceUptoRow.holds Tryz.pinned (OpenSpec.upto loanSinceSpec)

/-- 'parviselaw02.LoanPlaces', WHERE WHAT IT READS IS OF BULK AT MOST 1048576: true; the input reads as it did. -/
def loanPlacesUptoRow : OpenClaim := { program := "ytepaolcgegdpoaagreat", sum := "22409c571c722f62f0717d596021d8549c8489289bf975ae0857ad6b353232eb", func := "parvise/parviselaw02.LoanPlaces", spec := "loanPlaces", unfollowed := true, recurses := true, plainKeys := false, apart := false, narrowed := true }
def LoanPlacesUptoSaid : Prop := loanPlacesUptoRow.holds Tryz.pinned (OpenSpec.upto loanPlacesSpec)

/-- 'parviselaw02.LoanAttained', WHERE WHAT IT READS IS OF BULK AT MOST 1048576: true; the input reads as it did. -/
def loanAttainedUptoRow : OpenClaim := { program := "ytepaolcgegdpoaagreat", sum := "22409c571c722f62f0717d596021d8549c8489289bf975ae0857ad6b353232eb", func := "parvise/parviselaw02.LoanAttained", spec := "loanAttained", unfollowed := true, recurses := true, plainKeys := false, apart := false, narrowed := true }
def LoanAttainedUptoSaid : Prop := loanAttainedUptoRow.holds Tryz.pinned (OpenSpec.upto loanAttainedSpec)

/-- 'parviselaw02.LoanTwo', WHERE WHAT IT READS IS OF BULK AT MOST 1048576: true; the input reads as it did. -/
def loanTwoUptoRow : OpenClaim := { program := "ytepaolcgegdpoaagreat", sum := "22409c571c722f62f0717d596021d8549c8489289bf975ae0857ad6b353232eb", func := "parvise/parviselaw02.LoanTwo", spec := "loanTwo", unfollowed := true, recurses := true, plainKeys := false, apart := false, narrowed := true }
def LoanTwoUptoSaid : Prop := loanTwoUptoRow.holds Tryz.pinned (OpenSpec.upto loanTwoSpec)

/-- 'parviselaw02.LoanDoubles', WHERE WHAT IT READS IS OF BULK AT MOST 1048576: true; the input reads as it did. -/
def loanDoublesUptoRow : OpenClaim := { program := "ytepaolcgegdpoaagreat", sum := "22409c571c722f62f0717d596021d8549c8489289bf975ae0857ad6b353232eb", func := "parvise/parviselaw02.LoanDoubles", spec := "loanDoubles", unfollowed := true, recurses := true, plainKeys := false, apart := false, narrowed := true }
def LoanDoublesUptoSaid : Prop := loanDoublesUptoRow.holds Tryz.pinned (OpenSpec.upto loanDoublesSpec)

/-- 'parviselaw02.LoanChecks', WHERE WHAT IT READS IS OF BULK AT MOST 1048576: true; the input reads as it did. -/
def loanChecksUptoRow : OpenClaim := { program := "ytepaolcgegdpoaagreat", sum := "22409c571c722f62f0717d596021d8549c8489289bf975ae0857ad6b353232eb", func := "parvise/parviselaw02.LoanChecks", spec := "loanChecks", inPlace := ["slices.overlaps[parvise/api.Sight]"], unfollowed := true, recurses := true, plainKeys := false, apart := false, narrowed := true }
def LoanChecksUptoSaid : Prop := loanChecksUptoRow.holds Tryz.pinned (OpenSpec.upto loanChecksSpec)

/-- 'parviselaw02.LoanNarrows', WHERE WHAT IT READS IS OF BULK AT MOST 1048576: true; the input reads as it did. -/
def loanNarrowsUptoRow : OpenClaim := { program := "ytepaolcgegdpoaagreat", sum := "22409c571c722f62f0717d596021d8549c8489289bf975ae0857ad6b353232eb", func := "parvise/parviselaw02.LoanNarrows", spec := "loanNarrows", inPlace := ["slices.overlaps[parvise/api.Sight]"], unfollowed := true, recurses := true, plainKeys := false, apart := false, narrowed := true }
def LoanNarrowsUptoSaid : Prop := loanNarrowsUptoRow.holds Tryz.pinned (OpenSpec.upto loanNarrowsSpec)

end Rows
end Go.Proofs.YtepaolcgegdpoaaGreat
