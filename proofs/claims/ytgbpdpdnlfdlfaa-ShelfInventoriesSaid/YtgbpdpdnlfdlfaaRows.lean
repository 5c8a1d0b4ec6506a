/-
  No cell of these rows narrows 'for every input' (looked for: loops, veiled, ifaces, maps, wideKeys, modest, calm, conditions, laid).
  DERIVED. THE GIVEN ROWS OF THIS SEAT. 6 by the template 'for every input the law returns true; each argument reads behind the call as it read before'; 0 by the template 'total and deterministic' (their statements: YtgbpdpdnlfdlfaaTotals.lean).
  GIVEN WITH THE SEED: the statements are not yours to turn. If you find one false, say at which input.
  Laid BY PROGRAM, IN A SANDBOX (cutbox-rows.mjs): the forced cells as the released guide's own fill.sh prints them over the translation bd2da756dbb4492a… (all of the seat's roots in one cut). By AI agents, Wed Nov 11 2026. No macro, syntax, notation, axiom, sorry.
-/
import Derived.Test.YtgbpdpdnlfdlfaaChecked
import GoSem.Claim
import GoSem.ClaimJoined
import GoSem.ClaimMapViews
import Derived.JoinedTies
import Derived.KernelRfl
namespace Go.Proofs.Ytgbpdpdnlfdlfaa
/- THE CELL 'sum', in the pinned program and in every row, IS THE sha256 OF THE DUMP (.gsa) THAT YtgbpdpdnlfdlfaaProg.lean LOADS. Nothing in Lean hashes anything: it is a label: what it is worth is what the hold of that sum in a sandbox is worth. -/
noncomputable def Try.pinned : Pinned := { name := "ytgbpdpdnlfdlfaa", sum := "bd2da756dbb4492aea49d73ba60e67c47976fbda736ed01fb52494f731485de7", checked := Try.checked }
namespace Rows
def none {H : Type} : Left H := { results := [], args := [] }

/-- 'parviselaw03.ShelfClashes': WHATEVER THE INPUT: true; the input reads as it did. -/
def shelfClashesSpec : ChangeSpec := { name := "shelfClashes", fn := fun _ => fun
  | [d1, d2, d3] => { results := [.lit (.bool true)], args := [d1, d2, d3] }
  | _ => none }
def shelfClashesRow : OpenClaim := { program := "ytgbpdpdnlfdlfaa", sum := "bd2da756dbb4492aea49d73ba60e67c47976fbda736ed01fb52494f731485de7", func := "parvise/parviselaw03.ShelfClashes", spec := "shelfClashes", unfollowed := true, recurses := true, apart := false }
def ShelfClashesSaid : Prop := shelfClashesRow.holds Try.pinned (OpenSpec.ofChange shelfClashesSpec)

/-- ITS FALSE NEIGHBOUR: 'it returns false'. Refute it at one input. -/
def shelfClashesWrong : ChangeSpec := { name := "shelfClashes", fn := fun _ => fun
  | [d1, d2, d3] => { results := [.lit (.bool false)], args := [d1, d2, d3] }
  | _ => none }
def ShelfClashesWrongFalsely : Prop := shelfClashesRow.holds Try.pinned (OpenSpec.ofChange shelfClashesWrong)

/-- 'parviselaw03.ShelfEither': WHATEVER THE INPUT: true; the input reads as it did. -/
def shelfEitherSpec : ChangeSpec := { name := "shelfEither", fn := fun _ => fun
  | [d1, d2, d3] => { results := [.lit (.bool true)], args := [d1, d2, d3] }
  | _ => none }
def shelfEitherRow : OpenClaim := { program := "ytgbpdpdnlfdlfaa", sum := "bd2da756dbb4492aea49d73ba60e67c47976fbda736ed01fb52494f731485de7", func := "parvise/parviselaw03.ShelfEither", spec := "shelfEither", unfollowed := true, recurses := true, apart := false }
def ShelfEitherSaid : Prop := shelfEitherRow.holds Try.pinned (OpenSpec.ofChange shelfEitherSpec)

/-- ITS FALSE NEIGHBOUR: 'it returns false'. Refute it at one input. -/
def shelfEitherWrong : ChangeSpec := { name := "shelfEither", fn := fun _ => fun
  | [d1, d2, d3] => { results := [.lit (.bool false)], args := [d1, d2, d3] }
  | _ => none }
def ShelfEitherWrongFalsely : Prop := shelfEitherRow.holds Try.pinned (OpenSpec.ofChange shelfEitherWrong)

/-- 'parviselaw03.ShelfShown': WHATEVER THE INPUT: true; the input reads as it did. -/
def shelfShownSpec : ChangeSpec := { name := "shelfShown", fn := fun _ => fun
  | [d1, d2] => { results := [.lit (.bool true)], args := [d1, d2] }
  | _ => none }
def shelfShownRow : OpenClaim := { program := "ytgbpdpdnlfdlfaa", sum := "bd2da756dbb4492aea49d73ba60e67c47976fbda736ed01fb52494f731485de7", func := "parvise/parviselaw03.ShelfShown", spec := "shelfShown", inPlace := ["slices.overlaps[parvise/api.Glimpse]"], unfollowed := true, recurses := true, apart := false }
def ShelfShownSaid : Prop := shelfShownRow.holds Try.pinned (OpenSpec.ofChange shelfShownSpec)

/-- ITS FALSE NEIGHBOUR: 'it returns false'. Refute it at one input. -/
def shelfShownWrong : ChangeSpec := { name := "shelfShown", fn := fun _ => fun
  | [d1, d2] => { results := [.lit (.bool false)], args := [d1, d2] }
  | _ => none }
def ShelfShownWrongFalsely : Prop := shelfShownRow.holds Try.pinned (OpenSpec.ofChange shelfShownWrong)

/-- 'parviselaw03.ShelfNarrows': WHATEVER THE INPUT: true; the input reads as it did. -/
def shelfNarrowsSpec : ChangeSpec := { name := "shelfNarrows", fn := fun _ => fun
  | [d1, d2] => { results := [.lit (.bool true)], args := [d1, d2] }
  | _ => none }
def shelfNarrowsRow : OpenClaim := { program := "ytgbpdpdnlfdlfaa", sum := "bd2da756dbb4492aea49d73ba60e67c47976fbda736ed01fb52494f731485de7", func := "parvise/parviselaw03.ShelfNarrows", spec := "shelfNarrows", inPlace := ["slices.overlaps[parvise/api.Glimpse]"], unfollowed := true, recurses := true, apart := false }
def ShelfNarrowsSaid : Prop := shelfNarrowsRow.holds Try.pinned (OpenSpec.ofChange shelfNarrowsSpec)

/-- ITS FALSE NEIGHBOUR: 'it returns false'. Refute it at one input. -/
def shelfNarrowsWrong : ChangeSpec := { name := "shelfNarrows", fn := fun _ => fun
  | [d1, d2] => { results := [.lit (.bool false)], args := [d1, d2] }
  | _ => none }
def ShelfNarrowsWrongFalsely : Prop := shelfNarrowsRow.holds Try.pinned (OpenSpec.ofChange shelfNarrowsWrong)

/-- 'parviselaw03.ShelfTold': WHATEVER THE INPUT: true; the input reads as it did. -/
def shelfToldSpec : ChangeSpec := { name := "shelfTold", fn := fun _ => fun
  | [d1, d2] => { results := [.lit (.bool true)], args := [d1, d2] }
  | _ => none }
def shelfToldRow : OpenClaim := { program := "ytgbpdpdnlfdlfaa", sum := "bd2da756dbb4492aea49d73ba60e67c47976fbda736ed01fb52494f731485de7", func := "parvise/parviselaw03.ShelfTold", spec := "shelfTold", inPlace := ["slices.overlaps[parvise/api.Glimpse]"], unfollowed := true, recurses := true, apart := false }
def ShelfToldSaid : Prop := shelfToldRow.holds Try.pinned (OpenSpec.ofChange shelfToldSpec)

/-- ITS FALSE NEIGHBOUR: 'it returns false'. Refute it at one input. -/
def shelfToldWrong : ChangeSpec := { name := "shelfTold", fn := fun _ => fun
  | [d1, d2] => { results := [.lit (.bool false)], args := [d1, d2] }
  | _ => none }
def ShelfToldWrongFalsely : Prop := shelfToldRow.holds Try.pinned (OpenSpec.ofChange shelfToldWrong)

/-- 'parviselaw03.ShelfInventories': WHATEVER THE INPUT: true; the input reads as it did. -/
def shelfInventoriesSpec : ChangeSpec := { name := "shelfInventories", fn := fun _ => fun
  | [d1, d2, d3] => { results := [.lit (.bool true)], args := [d1, d2, d3] }
  | _ => none }
def shelfInventoriesRow : OpenClaim := { program := "ytgbpdpdnlfdlfaa", sum := "bd2da756dbb4492aea49d73ba60e67c47976fbda736ed01fb52494f731485de7", func := "parvise/parviselaw03.ShelfInventories", spec := "shelfInventories", inPlace := ["slices.overlaps[parvise/api.Glimpse]"], unfollowed := true, recurses := true, apart := false }
def ShelfInventoriesSaid : Prop := shelfInventoriesRow.holds Try.pinned (OpenSpec.ofChange shelfInventoriesSpec)

/-- ITS FALSE NEIGHBOUR: 'it returns false'. Refute it at one input. -/
def shelfInventoriesWrong : ChangeSpec := { name := "shelfInventories", fn := fun _ => fun
  | [d1, d2, d3] => { results := [.lit (.bool false)], args := [d1, d2, d3] }
  | _ => none }
def ShelfInventoriesWrongFalsely : Prop := shelfInventoriesRow.holds Try.pinned (OpenSpec.ofChange shelfInventoriesWrong)

/- THE SECOND FORM. 'bulk': how many values and letters a reading holds, each counted each time it is reached (what is shared counts as often as it is met; a slice's spare places count too). A statement '..UptoSaid' is the law's where the arguments, and the package variables that the reading takes, are together of bulk at most 1048576: NARROWER than '..Said'. Prove '..Said' where nothing that the law and all that it calls make is longer than what came in: it says more and counts as full. Else prove '..UptoSaid'. A law counts once. -/
mutual
def uptoBulk {H : Type} : DataW H → Nat
  | .lit (.string bytes) => bytes.length + 1
  | .lit _ => 1
  | .nil => 1
  | .ptr d => uptoBulk d + 1
  | .slice elems spare => uptoBulkAll elems + uptoBulkAll spare + 1
  | .agg parts => uptoBulkAll parts + 1
  | .iface _ d => uptoBulk d + 1
  | .map entries => uptoBulkEntries entries + 1
  | .held _ => 1
def uptoBulkAll {H : Type} : List (DataW H) → Nat
  | [] => 0
  | d :: r => uptoBulk d + uptoBulkAll r
def uptoBulkEntries {H : Type} : List (Lit × DataW H) → Nat
  | [] => 0
  | x :: r => uptoBulkEntry x + uptoBulkEntries r
def uptoBulkEntry {H : Type} : Lit × DataW H → Nat
  | (.string bytes, d) => bytes.length + uptoBulk d + 1
  | (_, d) => uptoBulk d + 1
 end
def uptoSmall : (H : Type) → List (DataW H) → Bool := fun _ ds => decide (uptoBulkAll ds ≤ 1048576)
def OpenSpec.upto (s : _root_.Go.ChangeSpec) : _root_.Go.OpenSpec := { _root_.Go.OpenSpec.ofChange s with cond := some uptoSmall }

/-- 'parviselaw03.ShelfClashes', WHERE WHAT IT READS IS OF BULK AT MOST 1048576: true; the input reads as it did. -/
def shelfClashesUptoRow : OpenClaim := { program := "ytgbpdpdnlfdlfaa", sum := "bd2da756dbb4492aea49d73ba60e67c47976fbda736ed01fb52494f731485de7", func := "parvise/parviselaw03.ShelfClashes", spec := "shelfClashes", unfollowed := true, recurses := true, apart := false, narrowed := true }
def ShelfClashesUptoSaid : Prop := shelfClashesUptoRow.holds Try.pinned (OpenSpec.upto shelfClashesSpec)

/-- 'parviselaw03.ShelfEither', WHERE WHAT IT READS IS OF BULK AT MOST 1048576: true; the input reads as it did. -/
def shelfEitherUptoRow : OpenClaim := { program := "ytgbpdpdnlfdlfaa", sum := "bd2da756dbb4492aea49d73ba60e67c47976fbda736ed01fb52494f731485de7", func := "parvise/parviselaw03.ShelfEither", spec := "shelfEither", unfollowed := true, recurses := true, apart := false, narrowed := true }
def ShelfEitherUptoSaid : Prop := shelfEitherUptoRow.holds Try.pinned (OpenSpec.upto shelfEitherSpec)

/-- 'parviselaw03.ShelfShown', WHERE WHAT IT READS IS OF BULK AT MOST 1048576: true; the input reads as it did. -/
def shelfShownUptoRow : OpenClaim := { program := "ytgbpdpdnlfdlfaa", sum := "bd2da756dbb4492aea49d73ba60e67c47976fbda736ed01fb52494f731485de7", func := "parvise/parviselaw03.ShelfShown", spec := "shelfShown", inPlace := ["slices.overlaps[parvise/api.Glimpse]"], unfollowed := true, recurses := true, apart := false, narrowed := true }
def ShelfShownUptoSaid : Prop := shelfShownUptoRow.holds Try.pinned (OpenSpec.upto shelfShownSpec)

/-- 'parviselaw03.ShelfNarrows', WHERE WHAT IT READS IS OF BULK AT MOST 1048576: true; the input reads as it did. -/
def shelfNarrowsUptoRow : OpenClaim := { program := "ytgbpdpdnlfdlfaa", sum := "bd2da756dbb4492aea49d73ba60e67c47976fbda736ed01fb52494f731485de7", func := "parvise/parviselaw03.ShelfNarrows", spec := "shelfNarrows", inPlace := ["slices.overlaps[parvise/api.Glimpse]"], unfollowed := true, recurses := true, apart := false, narrowed := true }
def ShelfNarrowsUptoSaid : Prop := shelfNarrowsUptoRow.holds Try.pinned (OpenSpec.upto shelfNarrowsSpec)

/-- 'parviselaw03.ShelfTold', WHERE WHAT IT READS IS OF BULK AT MOST 1048576: true; the input reads as it did. -/
def shelfToldUptoRow : OpenClaim := { program := "ytgbpdpdnlfdlfaa", sum := "bd2da756dbb4492aea49d73ba60e67c47976fbda736ed01fb52494f731485de7", func := "parvise/parviselaw03.ShelfTold", spec := "shelfTold", inPlace := ["slices.overlaps[parvise/api.Glimpse]"], unfollowed := true, recurses := true, apart := false, narrowed := true }
def ShelfToldUptoSaid : Prop := shelfToldUptoRow.holds Try.pinned (OpenSpec.upto shelfToldSpec)

/-- 'parviselaw03.ShelfInventories', WHERE WHAT IT READS IS OF BULK AT MOST 1048576: true; the input reads as it did. -/
def shelfInventoriesUptoRow : OpenClaim := { program := "ytgbpdpdnlfdlfaa", sum := "bd2da756dbb4492aea49d73ba60e67c47976fbda736ed01fb52494f731485de7", func := "parvise/parviselaw03.ShelfInventories", spec := "shelfInventories", inPlace := ["slices.overlaps[parvise/api.Glimpse]"], unfollowed := true, recurses := true, apart := false, narrowed := true }
def ShelfInventoriesUptoSaid : Prop := shelfInventoriesUptoRow.holds Try.pinned (OpenSpec.upto shelfInventoriesSpec)

end Rows
end Go.Proofs.Ytgbpdpdnlfdlfaa
