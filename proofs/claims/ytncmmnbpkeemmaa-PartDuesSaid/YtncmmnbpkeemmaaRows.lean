/-
  No cell of these rows narrows 'for every input' (looked for: loops, veiled, ifaces, maps, wideKeys, modest, calm, conditions, laid).
  DERIVED. THE GIVEN ROWS OF THIS SEAT. 10 by the template 'for every input the law returns true; each argument reads behind the call as it read before'; 0 by the template 'total and deterministic' (their statements: YtncmmnbpkeemmaaTotals.lean).
  GIVEN WITH THE SEED: the statements are not yours to turn. If you find one false, say at which input.
  Laid BY PROGRAM, IN A SANDBOX (cutbox-rows.mjs): the forced cells as the released guide's own fill.sh prints them over the translation 5b1e8a4918e5cf84… (all of the seat's roots in one cut). By AI agents, Wed Nov 11 2026. No macro, syntax, notation, axiom, sorry.
-/
import Derived.Test.YtncmmnbpkeemmaaChecked
import GoSem.Claim
import GoSem.ClaimJoined
import GoSem.ClaimMapViews
import Derived.JoinedTies
import Derived.KernelRfl
namespace Go.Proofs.Ytncmmnbpkeemmaa
/- THE CELL 'sum', in the pinned program and in every row, IS THE sha256 OF THE DUMP (.gsa) THAT YtncmmnbpkeemmaaProg.lean LOADS. Nothing in Lean hashes anything: it is a label: what it is worth is what the hold of that sum in a sandbox is worth. -/
noncomputable def Try.pinned : Pinned := { name := "ytncmmnbpkeemmaa", sum := "5b1e8a4918e5cf84cfb35d40c5d79aea5654bfa1efb57d0472f00dd0b6191cf6", checked := Try.checked }
namespace Rows
def none {H : Type} : Left H := { results := [], args := [] }

/-- 'ossuarylaw04.CivilLeaps': WHATEVER THE INPUT: true; the input reads as it did. -/
def civilLeapsSpec : ChangeSpec := { name := "civilLeaps", fn := fun _ => fun
  | [d1, d2] => { results := [.lit (.bool true)], args := [d1, d2] }
  | _ => none }
def civilLeapsRow : OpenClaim := { program := "ytncmmnbpkeemmaa", sum := "5b1e8a4918e5cf84cfb35d40c5d79aea5654bfa1efb57d0472f00dd0b6191cf6", func := "ossuary/ossuarylaw04.CivilLeaps", spec := "civilLeaps", unfollowed := true, recurses := true, apart := false }
def CivilLeapsSaid : Prop := civilLeapsRow.holds Try.pinned (OpenSpec.ofChange civilLeapsSpec)

/-- ITS FALSE NEIGHBOUR: 'it returns false'. Refute it at one input. -/
def civilLeapsWrong : ChangeSpec := { name := "civilLeaps", fn := fun _ => fun
  | [d1, d2] => { results := [.lit (.bool false)], args := [d1, d2] }
  | _ => none }
def CivilLeapsWrongFalsely : Prop := civilLeapsRow.holds Try.pinned (OpenSpec.ofChange civilLeapsWrong)

/-- 'ossuarylaw04.CivilMonths': WHATEVER THE INPUT: true; the input reads as it did. -/
def civilMonthsSpec : ChangeSpec := { name := "civilMonths", fn := fun _ => fun
  | [d1, d2, d3] => { results := [.lit (.bool true)], args := [d1, d2, d3] }
  | _ => none }
def civilMonthsRow : OpenClaim := { program := "ytncmmnbpkeemmaa", sum := "5b1e8a4918e5cf84cfb35d40c5d79aea5654bfa1efb57d0472f00dd0b6191cf6", func := "ossuary/ossuarylaw04.CivilMonths", spec := "civilMonths", unfollowed := true, recurses := true, apart := false }
def CivilMonthsSaid : Prop := civilMonthsRow.holds Try.pinned (OpenSpec.ofChange civilMonthsSpec)

/-- ITS FALSE NEIGHBOUR: 'it returns false'. Refute it at one input. -/
def civilMonthsWrong : ChangeSpec := { name := "civilMonths", fn := fun _ => fun
  | [d1, d2, d3] => { results := [.lit (.bool false)], args := [d1, d2, d3] }
  | _ => none }
def CivilMonthsWrongFalsely : Prop := civilMonthsRow.holds Try.pinned (OpenSpec.ofChange civilMonthsWrong)

/-- 'ossuarylaw04.CivilDates': WHATEVER THE INPUT: true; the input reads as it did. -/
def civilDatesSpec : ChangeSpec := { name := "civilDates", fn := fun _ => fun
  | [d1, d2, d3, d4] => { results := [.lit (.bool true)], args := [d1, d2, d3, d4] }
  | _ => none }
def civilDatesRow : OpenClaim := { program := "ytncmmnbpkeemmaa", sum := "5b1e8a4918e5cf84cfb35d40c5d79aea5654bfa1efb57d0472f00dd0b6191cf6", func := "ossuary/ossuarylaw04.CivilDates", spec := "civilDates", unfollowed := true, recurses := true, apart := false }
def CivilDatesSaid : Prop := civilDatesRow.holds Try.pinned (OpenSpec.ofChange civilDatesSpec)

/-- ITS FALSE NEIGHBOUR: 'it returns false'. Refute it at one input. -/
def civilDatesWrong : ChangeSpec := { name := "civilDates", fn := fun _ => fun
  | [d1, d2, d3, d4] => { results := [.lit (.bool false)], args := [d1, d2, d3, d4] }
  | _ => none }
def CivilDatesWrongFalsely : Prop := civilDatesRow.holds Try.pinned (OpenSpec.ofChange civilDatesWrong)

/-- 'ossuarylaw04.CivilFollows': WHATEVER THE INPUT: true; the input reads as it did. -/
def civilFollowsSpec : ChangeSpec := { name := "civilFollows", fn := fun _ => fun
  | [d] => { results := [.lit (.bool true)], args := [d] }
  | _ => none }
def civilFollowsRow : OpenClaim := { program := "ytncmmnbpkeemmaa", sum := "5b1e8a4918e5cf84cfb35d40c5d79aea5654bfa1efb57d0472f00dd0b6191cf6", func := "ossuary/ossuarylaw04.CivilFollows", spec := "civilFollows", unfollowed := true, recurses := true, apart := false }
def CivilFollowsSaid : Prop := civilFollowsRow.holds Try.pinned (OpenSpec.ofChange civilFollowsSpec)

/-- ITS FALSE NEIGHBOUR: 'it returns false'. Refute it at one input. -/
def civilFollowsWrong : ChangeSpec := { name := "civilFollows", fn := fun _ => fun
  | [d] => { results := [.lit (.bool false)], args := [d] }
  | _ => none }
def CivilFollowsWrongFalsely : Prop := civilFollowsRow.holds Try.pinned (OpenSpec.ofChange civilFollowsWrong)

/-- 'ossuarylaw19.PartSpans': WHATEVER THE INPUT: true; the input reads as it did. -/
def partSpansSpec : ChangeSpec := { name := "partSpans", fn := fun _ => fun
  | [d1, d2, d3] => { results := [.lit (.bool true)], args := [d1, d2, d3] }
  | _ => none }
def partSpansRow : OpenClaim := { program := "ytncmmnbpkeemmaa", sum := "5b1e8a4918e5cf84cfb35d40c5d79aea5654bfa1efb57d0472f00dd0b6191cf6", func := "ossuary/ossuarylaw19.PartSpans", spec := "partSpans", unfollowed := true, recurses := true, apart := false }
def PartSpansSaid : Prop := partSpansRow.holds Try.pinned (OpenSpec.ofChange partSpansSpec)

/-- ITS FALSE NEIGHBOUR: 'it returns false'. Refute it at one input. -/
def partSpansWrong : ChangeSpec := { name := "partSpans", fn := fun _ => fun
  | [d1, d2, d3] => { results := [.lit (.bool false)], args := [d1, d2, d3] }
  | _ => none }
def PartSpansWrongFalsely : Prop := partSpansRow.holds Try.pinned (OpenSpec.ofChange partSpansWrong)

/-- 'ossuarylaw19.PartPairs': WHATEVER THE INPUT: true; the input reads as it did. -/
def partPairsSpec : ChangeSpec := { name := "partPairs", fn := fun _ => fun
  | [d1, d2] => { results := [.lit (.bool true)], args := [d1, d2] }
  | _ => none }
def partPairsRow : OpenClaim := { program := "ytncmmnbpkeemmaa", sum := "5b1e8a4918e5cf84cfb35d40c5d79aea5654bfa1efb57d0472f00dd0b6191cf6", func := "ossuary/ossuarylaw19.PartPairs", spec := "partPairs", unfollowed := true, recurses := true, apart := false }
def PartPairsSaid : Prop := partPairsRow.holds Try.pinned (OpenSpec.ofChange partPairsSpec)

/-- ITS FALSE NEIGHBOUR: 'it returns false'. Refute it at one input. -/
def partPairsWrong : ChangeSpec := { name := "partPairs", fn := fun _ => fun
  | [d1, d2] => { results := [.lit (.bool false)], args := [d1, d2] }
  | _ => none }
def PartPairsWrongFalsely : Prop := partPairsRow.holds Try.pinned (OpenSpec.ofChange partPairsWrong)

/-- 'ossuarylaw19.PartNests': WHATEVER THE INPUT: true; the input reads as it did. -/
def partNestsSpec : ChangeSpec := { name := "partNests", fn := fun _ => fun
  | [d1, d2, d3] => { results := [.lit (.bool true)], args := [d1, d2, d3] }
  | _ => none }
def partNestsRow : OpenClaim := { program := "ytncmmnbpkeemmaa", sum := "5b1e8a4918e5cf84cfb35d40c5d79aea5654bfa1efb57d0472f00dd0b6191cf6", func := "ossuary/ossuarylaw19.PartNests", spec := "partNests", unfollowed := true, recurses := true, apart := false }
def PartNestsSaid : Prop := partNestsRow.holds Try.pinned (OpenSpec.ofChange partNestsSpec)

/-- ITS FALSE NEIGHBOUR: 'it returns false'. Refute it at one input. -/
def partNestsWrong : ChangeSpec := { name := "partNests", fn := fun _ => fun
  | [d1, d2, d3] => { results := [.lit (.bool false)], args := [d1, d2, d3] }
  | _ => none }
def PartNestsWrongFalsely : Prop := partNestsRow.holds Try.pinned (OpenSpec.ofChange partNestsWrong)

/-- 'ossuarylaw04.CivilTexts': WHATEVER THE INPUT: true; the input reads as it did. -/
def civilTextsSpec : ChangeSpec := { name := "civilTexts", fn := fun _ => fun
  | [d1, d2] => { results := [.lit (.bool true)], args := [d1, d2] }
  | _ => none }
def civilTextsRow : OpenClaim := { program := "ytncmmnbpkeemmaa", sum := "5b1e8a4918e5cf84cfb35d40c5d79aea5654bfa1efb57d0472f00dd0b6191cf6", func := "ossuary/ossuarylaw04.CivilTexts", spec := "civilTexts", unfollowed := true, recurses := true, apart := false }
def CivilTextsSaid : Prop := civilTextsRow.holds Try.pinned (OpenSpec.ofChange civilTextsSpec)

/-- ITS FALSE NEIGHBOUR: 'it returns false'. Refute it at one input. -/
def civilTextsWrong : ChangeSpec := { name := "civilTexts", fn := fun _ => fun
  | [d1, d2] => { results := [.lit (.bool false)], args := [d1, d2] }
  | _ => none }
def CivilTextsWrongFalsely : Prop := civilTextsRow.holds Try.pinned (OpenSpec.ofChange civilTextsWrong)

/-- 'ossuarylaw04.CivilBack': WHATEVER THE INPUT: true; the input reads as it did. -/
def civilBackSpec : ChangeSpec := { name := "civilBack", fn := fun _ => fun
  | [d1, d2] => { results := [.lit (.bool true)], args := [d1, d2] }
  | _ => none }
def civilBackRow : OpenClaim := { program := "ytncmmnbpkeemmaa", sum := "5b1e8a4918e5cf84cfb35d40c5d79aea5654bfa1efb57d0472f00dd0b6191cf6", func := "ossuary/ossuarylaw04.CivilBack", spec := "civilBack", unfollowed := true, recurses := true, apart := false }
def CivilBackSaid : Prop := civilBackRow.holds Try.pinned (OpenSpec.ofChange civilBackSpec)

/-- ITS FALSE NEIGHBOUR: 'it returns false'. Refute it at one input. -/
def civilBackWrong : ChangeSpec := { name := "civilBack", fn := fun _ => fun
  | [d1, d2] => { results := [.lit (.bool false)], args := [d1, d2] }
  | _ => none }
def CivilBackWrongFalsely : Prop := civilBackRow.holds Try.pinned (OpenSpec.ofChange civilBackWrong)

/-- 'ossuarylaw19.PartDues': WHATEVER THE INPUT: true; the input reads as it did. -/
def partDuesSpec : ChangeSpec := { name := "partDues", fn := fun _ => fun
  | [d1, d2, d3, d4] => { results := [.lit (.bool true)], args := [d1, d2, d3, d4] }
  | _ => none }
def partDuesRow : OpenClaim := { program := "ytncmmnbpkeemmaa", sum := "5b1e8a4918e5cf84cfb35d40c5d79aea5654bfa1efb57d0472f00dd0b6191cf6", func := "ossuary/ossuarylaw19.PartDues", spec := "partDues", unfollowed := true, recurses := true, apart := false }
def PartDuesSaid : Prop := partDuesRow.holds Try.pinned (OpenSpec.ofChange partDuesSpec)

/-- ITS FALSE NEIGHBOUR: 'it returns false'. Refute it at one input. -/
def partDuesWrong : ChangeSpec := { name := "partDues", fn := fun _ => fun
  | [d1, d2, d3, d4] => { results := [.lit (.bool false)], args := [d1, d2, d3, d4] }
  | _ => none }
def PartDuesWrongFalsely : Prop := partDuesRow.holds Try.pinned (OpenSpec.ofChange partDuesWrong)

/- THE SECOND FORM. 'bulk': how many values and letters a reading holds, each counted each time it is reached (what is shared counts as often as it is met; a slice's spare places count too). A statement '..UptoSaid' is the law's where the arguments, and the package variables that the reading takes, are together of bulk at most 1048576: NARROWER than '..Said'. Prove '..Said' where nothing that the law and all that it calls make is longer than what came in: it says more and counts as full. Else prove '..UptoSaid'. A law counts once. -/
mutual
def uptoBulk {H : Type} : DataW H → Nat
  | .lit (.string bytes) => bytes.length + 1
  | .lit _ => 1
  | .nil => 1
  | .ptr d => uptoBulk d + 1
  | .slice elems spare => uptoBulkAll elems + uptoBulkAll spare + 1
  | .agg parts => uptoBulkAll parts + 1
  | .iface _ d => uptoBulk d + 1
  | .map entries => uptoBulkEntries entries + 1
  | .held _ => 1
def uptoBulkAll {H : Type} : List (DataW H) → Nat
  | [] => 0
  | d :: r => uptoBulk d + uptoBulkAll r
def uptoBulkEntries {H : Type} : List (Lit × DataW H) → Nat
  | [] => 0
  | x :: r => uptoBulkEntry x + uptoBulkEntries r
def uptoBulkEntry {H : Type} : Lit × DataW H → Nat
  | (.string bytes, d) => bytes.length + uptoBulk d + 1
  | (_, d) => uptoBulk d + 1
 end
def uptoSmall : (H : Type) → List (DataW H) → Bool := fun _ ds => decide (uptoBulkAll ds ≤ 1048576)
def OpenSpec.upto (s : _root_.Go.ChangeSpec) : _root_.Go.OpenSpec := { _root_.Go.OpenSpec.ofChange s with cond := some uptoSmall }

/-- 'ossuarylaw04.CivilLeaps', WHERE WHAT IT READS IS OF BULK AT MOST 1048576: true; the input reads as it did. -/
def civilLeapsUptoRow : OpenClaim := { program := "ytncmmnbpkeemmaa", sum := "5b1e8a4918e5cf84cfb35d40c5d79aea5654bfa1efb57d0472f00dd0b6191cf6", func := "ossuary/ossuarylaw04.CivilLeaps", spec := "civilLeaps", unfollowed := true, recurses := true, apart := false, narrowed := true }
def CivilLeapsUptoSaid : Prop := civilLeapsUptoRow.holds Try.pinned (OpenSpec.upto civilLeapsSpec)

/-- 'ossuarylaw04.CivilMonths', WHERE WHAT IT READS IS OF BULK AT MOST 1048576: true; the input reads as it did. -/
def civilMonthsUptoRow : OpenClaim := { program := "ytncmmnbpkeemmaa", sum := "5b1e8a4918e5cf84cfb35d40c5d79aea5654bfa1efb57d0472f00dd0b6191cf6", func := "ossuary/ossuarylaw04.CivilMonths", spec := "civilMonths", unfollowed := true, recurses := true, apart := false, narrowed := true }
def CivilMonthsUptoSaid : Prop := civilMonthsUptoRow.holds Try.pinned (OpenSpec.upto civilMonthsSpec)

/-- 'ossuarylaw04.CivilDates', WHERE WHAT IT READS IS OF BULK AT MOST 1048576: true; the input reads as it did. -/
def civilDatesUptoRow : OpenClaim := { program := "ytncmmnbpkeemmaa", sum := "5b1e8a4918e5cf84cfb35d40c5d79aea5654bfa1efb57d0472f00dd0b6191cf6", func := "ossuary/ossuarylaw04.CivilDates", spec := "civilDates", unfollowed := true, recurses := true, apart := false, narrowed := true }
def CivilDatesUptoSaid : Prop := civilDatesUptoRow.holds Try.pinned (OpenSpec.upto civilDatesSpec)

/-- 'ossuarylaw04.CivilFollows', WHERE WHAT IT READS IS OF BULK AT MOST 1048576: true; the input reads as it did. -/
def civilFollowsUptoRow : OpenClaim := { program := "ytncmmnbpkeemmaa", sum := "5b1e8a4918e5cf84cfb35d40c5d79aea5654bfa1efb57d0472f00dd0b6191cf6", func := "ossuary/ossuarylaw04.CivilFollows", spec := "civilFollows", unfollowed := true, recurses := true, apart := false, narrowed := true }
def CivilFollowsUptoSaid : Prop := civilFollowsUptoRow.holds Try.pinned (OpenSpec.upto civilFollowsSpec)

/-- 'ossuarylaw19.PartSpans', WHERE WHAT IT READS IS OF BULK AT MOST 1048576: true; the input reads as it did. -/
def partSpansUptoRow : OpenClaim := { program := "ytncmmnbpkeemmaa", sum := "5b1e8a4918e5cf84cfb35d40c5d79aea5654bfa1efb57d0472f00dd0b6191cf6", func := "ossuary/ossuarylaw19.PartSpans", spec := "partSpans", unfollowed := true, recurses := true, apart := false, narrowed := true }
def PartSpansUptoSaid : Prop := partSpansUptoRow.holds Try.pinned (OpenSpec.upto partSpansSpec)

/-- 'ossuarylaw19.PartPairs', WHERE WHAT IT READS IS OF BULK AT MOST 1048576: true; the input reads as it did. -/
def partPairsUptoRow : OpenClaim := { program := "ytncmmnbpkeemmaa", sum := "5b1e8a4918e5cf84cfb35d40c5d79aea5654bfa1efb57d0472f00dd0b6191cf6", func := "ossuary/ossuarylaw19.PartPairs", spec := "partPairs", unfollowed := true, recurses := true, apart := false, narrowed := true }
def PartPairsUptoSaid : Prop := partPairsUptoRow.holds Try.pinned (OpenSpec.upto partPairsSpec)

/-- 'ossuarylaw19.PartNests', WHERE WHAT IT READS IS OF BULK AT MOST 1048576: true; the input reads as it did. -/
def partNestsUptoRow : OpenClaim := { program := "ytncmmnbpkeemmaa", sum := "5b1e8a4918e5cf84cfb35d40c5d79aea5654bfa1efb57d0472f00dd0b6191cf6", func := "ossuary/ossuarylaw19.PartNests", spec := "partNests", unfollowed := true, recurses := true, apart := false, narrowed := true }
def PartNestsUptoSaid : Prop := partNestsUptoRow.holds Try.pinned (OpenSpec.upto partNestsSpec)

/-- 'ossuarylaw04.CivilTexts', WHERE WHAT IT READS IS OF BULK AT MOST 1048576: true; the input reads as it did. -/
def civilTextsUptoRow : OpenClaim := { program := "ytncmmnbpkeemmaa", sum := "5b1e8a4918e5cf84cfb35d40c5d79aea5654bfa1efb57d0472f00dd0b6191cf6", func := "ossuary/ossuarylaw04.CivilTexts", spec := "civilTexts", unfollowed := true, recurses := true, apart := false, narrowed := true }
def CivilTextsUptoSaid : Prop := civilTextsUptoRow.holds Try.pinned (OpenSpec.upto civilTextsSpec)

/-- 'ossuarylaw04.CivilBack', WHERE WHAT IT READS IS OF BULK AT MOST 1048576: true; the input reads as it did. -/
def civilBackUptoRow : OpenClaim := { program := "ytncmmnbpkeemmaa", sum := "5b1e8a4918e5cf84cfb35d40c5d79aea5654bfa1efb57d0472f00dd0b6191cf6", func := "ossuary/ossuarylaw04.CivilBack", spec := "civilBack", unfollowed := true, recurses := true, apart := false, narrowed := true }
def CivilBackUptoSaid : Prop := civilBackUptoRow.holds Try.pinned (OpenSpec.upto civilBackSpec)

/-- 'ossuarylaw19.PartDues', WHERE WHAT IT READS IS OF BULK AT MOST 1048576: true; the input reads as it did. -/
def partDuesUptoRow : OpenClaim := { program := "ytncmmnbpkeemmaa", sum := "5b1e8a4918e5cf84cfb35d40c5d79aea5654bfa1efb57d0472f00dd0b6191cf6", func := "ossuary/ossuarylaw19.PartDues", spec := "partDues", unfollowed := true, recurses := true, apart := false, narrowed := true }
def PartDuesUptoSaid : Prop := partDuesUptoRow.holds Try.pinned (OpenSpec.upto partDuesSpec)

end Rows
end Go.Proofs.Ytncmmnbpkeemmaa
