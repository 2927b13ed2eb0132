/-
  No cell of these rows narrows 'for every input' (looked for: loops, veiled, ifaces, maps, wideKeys, modest, calm, conditions, laid).
  DERIVED. THE GIVEN ROWS OF THIS SEAT. 12 by the template 'for every input the law returns true; each argument reads behind the call as it read before'; 0 by the template 'total and deterministic' (their statements: YtjegkfdcelodeaaTotals.lean).
  GIVEN WITH THE SEED: the statements are not yours to turn. If you find one false, say at which input.
  Laid BY PROGRAM, IN A SANDBOX (cutbox-rows.mjs): the forced cells as the released guide's own fill.sh prints them over the translation e63b359abfc6c093… (all of the seat's roots in one cut). By AI agents, Wed Nov 11 2026. No macro, syntax, notation, axiom, sorry.
-/
import Derived.Test.YtjegkfdcelodeaaChecked
import GoSem.Claim
import GoSem.ClaimJoined
import GoSem.ClaimMapViews
import Derived.JoinedTies
import Derived.KernelRfl
namespace Go.Proofs.Ytjegkfdcelodeaa
/- THE CELL 'sum', in the pinned program and in every row, IS THE sha256 OF THE DUMP (.gsa) THAT YtjegkfdcelodeaaProg.lean LOADS. Nothing in Lean hashes anything: it is a label: what it is worth is what the hold of that sum in a sandbox is worth. -/
noncomputable def Try.pinned : Pinned := { name := "ytjegkfdcelodeaa", sum := "e63b359abfc6c093b148015f4c598a24f3f2b83d5168873d364c3b02e0737a40", checked := Try.checked }
namespace Rows
def none {H : Type} : Left H := { results := [], args := [] }

/-- 'ossuarylaw18.PolicyTimes': WHATEVER THE INPUT: true; the input reads as it did. -/
def policyTimesSpec : ChangeSpec := { name := "policyTimes", fn := fun _ => fun
  | [d1, d2, d3, d4] => { results := [.lit (.bool true)], args := [d1, d2, d3, d4] }
  | _ => none }
def policyTimesRow : OpenClaim := { program := "ytjegkfdcelodeaa", sum := "e63b359abfc6c093b148015f4c598a24f3f2b83d5168873d364c3b02e0737a40", func := "ossuary/ossuarylaw18.PolicyTimes", spec := "policyTimes", apart := false }
def PolicyTimesSaid : Prop := policyTimesRow.holds Try.pinned (OpenSpec.ofChange policyTimesSpec)

/-- ITS FALSE NEIGHBOUR: 'it returns false'. Refute it at one input. -/
def policyTimesWrong : ChangeSpec := { name := "policyTimes", fn := fun _ => fun
  | [d1, d2, d3, d4] => { results := [.lit (.bool false)], args := [d1, d2, d3, d4] }
  | _ => none }
def PolicyTimesWrongFalsely : Prop := policyTimesRow.holds Try.pinned (OpenSpec.ofChange policyTimesWrong)

/-- 'ossuarylaw18.PolicyChecks': WHATEVER THE INPUT: true; the input reads as it did. -/
def policyChecksSpec : ChangeSpec := { name := "policyChecks", fn := fun _ => fun
  | [d] => { results := [.lit (.bool true)], args := [d] }
  | _ => none }
def policyChecksRow : OpenClaim := { program := "ytjegkfdcelodeaa", sum := "e63b359abfc6c093b148015f4c598a24f3f2b83d5168873d364c3b02e0737a40", func := "ossuary/ossuarylaw18.PolicyChecks", spec := "policyChecks", unfollowed := true, recurses := true, apart := false }
def PolicyChecksSaid : Prop := policyChecksRow.holds Try.pinned (OpenSpec.ofChange policyChecksSpec)

/-- ITS FALSE NEIGHBOUR: 'it returns false'. Refute it at one input. -/
def policyChecksWrong : ChangeSpec := { name := "policyChecks", fn := fun _ => fun
  | [d] => { results := [.lit (.bool false)], args := [d] }
  | _ => none }
def PolicyChecksWrongFalsely : Prop := policyChecksRow.holds Try.pinned (OpenSpec.ofChange policyChecksWrong)

/-- 'ossuarylaw01.PackNums': WHATEVER THE INPUT: true; the input reads as it did. -/
def packNumsSpec : ChangeSpec := { name := "packNums", fn := fun _ => fun
  | [d] => { results := [.lit (.bool true)], args := [d] }
  | _ => none }
def packNumsRow : OpenClaim := { program := "ytjegkfdcelodeaa", sum := "e63b359abfc6c093b148015f4c598a24f3f2b83d5168873d364c3b02e0737a40", func := "ossuary/ossuarylaw01.PackNums", spec := "packNums", unfollowed := true, recurses := true, apart := false }
def PackNumsSaid : Prop := packNumsRow.holds Try.pinned (OpenSpec.ofChange packNumsSpec)

/-- ITS FALSE NEIGHBOUR: 'it returns false'. Refute it at one input. -/
def packNumsWrong : ChangeSpec := { name := "packNums", fn := fun _ => fun
  | [d] => { results := [.lit (.bool false)], args := [d] }
  | _ => none }
def PackNumsWrongFalsely : Prop := packNumsRow.holds Try.pinned (OpenSpec.ofChange packNumsWrong)

/-- 'ossuarylaw01.PackInts': WHATEVER THE INPUT: true; the input reads as it did. -/
def packIntsSpec : ChangeSpec := { name := "packInts", fn := fun _ => fun
  | [d] => { results := [.lit (.bool true)], args := [d] }
  | _ => none }
def packIntsRow : OpenClaim := { program := "ytjegkfdcelodeaa", sum := "e63b359abfc6c093b148015f4c598a24f3f2b83d5168873d364c3b02e0737a40", func := "ossuary/ossuarylaw01.PackInts", spec := "packInts", unfollowed := true, recurses := true, apart := false }
def PackIntsSaid : Prop := packIntsRow.holds Try.pinned (OpenSpec.ofChange packIntsSpec)

/-- ITS FALSE NEIGHBOUR: 'it returns false'. Refute it at one input. -/
def packIntsWrong : ChangeSpec := { name := "packInts", fn := fun _ => fun
  | [d] => { results := [.lit (.bool false)], args := [d] }
  | _ => none }
def PackIntsWrongFalsely : Prop := packIntsRow.holds Try.pinned (OpenSpec.ofChange packIntsWrong)

/-- 'ossuarylaw01.PackPuts': WHATEVER THE INPUT: true; the input reads as it did. -/
def packPutsSpec : ChangeSpec := { name := "packPuts", fn := fun _ => fun
  | [d] => { results := [.lit (.bool true)], args := [d] }
  | _ => none }
def packPutsRow : OpenClaim := { program := "ytjegkfdcelodeaa", sum := "e63b359abfc6c093b148015f4c598a24f3f2b83d5168873d364c3b02e0737a40", func := "ossuary/ossuarylaw01.PackPuts", spec := "packPuts", unfollowed := true, recurses := true, apart := false }
def PackPutsSaid : Prop := packPutsRow.holds Try.pinned (OpenSpec.ofChange packPutsSpec)

/-- ITS FALSE NEIGHBOUR: 'it returns false'. Refute it at one input. -/
def packPutsWrong : ChangeSpec := { name := "packPuts", fn := fun _ => fun
  | [d] => { results := [.lit (.bool false)], args := [d] }
  | _ => none }
def PackPutsWrongFalsely : Prop := packPutsRow.holds Try.pinned (OpenSpec.ofChange packPutsWrong)

/-- 'ossuarylaw13.AskMatches': WHATEVER THE INPUT: true; the input reads as it did. -/
def askMatchesSpec : ChangeSpec := { name := "askMatches", fn := fun _ => fun
  | [d1, d2] => { results := [.lit (.bool true)], args := [d1, d2] }
  | _ => none }
def askMatchesRow : OpenClaim := { program := "ytjegkfdcelodeaa", sum := "e63b359abfc6c093b148015f4c598a24f3f2b83d5168873d364c3b02e0737a40", func := "ossuary/ossuarylaw13.AskMatches", spec := "askMatches", unfollowed := true, recurses := true, apart := false }
def AskMatchesSaid : Prop := askMatchesRow.holds Try.pinned (OpenSpec.ofChange askMatchesSpec)

/-- ITS FALSE NEIGHBOUR: 'it returns false'. Refute it at one input. -/
def askMatchesWrong : ChangeSpec := { name := "askMatches", fn := fun _ => fun
  | [d1, d2] => { results := [.lit (.bool false)], args := [d1, d2] }
  | _ => none }
def AskMatchesWrongFalsely : Prop := askMatchesRow.holds Try.pinned (OpenSpec.ofChange askMatchesWrong)

/-- 'ossuarylaw18.PolicyReads': WHATEVER THE INPUT: true; the input reads as it did. -/
def policyReadsSpec : ChangeSpec := { name := "policyReads", fn := fun _ => fun
  | [d] => { results := [.lit (.bool true)], args := [d] }
  | _ => none }
def policyReadsRow : OpenClaim := { program := "ytjegkfdcelodeaa", sum := "e63b359abfc6c093b148015f4c598a24f3f2b83d5168873d364c3b02e0737a40", func := "ossuary/ossuarylaw18.PolicyReads", spec := "policyReads", unfollowed := true, recurses := true, apart := false }
def PolicyReadsSaid : Prop := policyReadsRow.holds Try.pinned (OpenSpec.ofChange policyReadsSpec)

/-- ITS FALSE NEIGHBOUR: 'it returns false'. Refute it at one input. -/
def policyReadsWrong : ChangeSpec := { name := "policyReads", fn := fun _ => fun
  | [d] => { results := [.lit (.bool false)], args := [d] }
  | _ => none }
def PolicyReadsWrongFalsely : Prop := policyReadsRow.holds Try.pinned (OpenSpec.ofChange policyReadsWrong)

/-- 'ossuarylaw01.PackNils': WHATEVER THE INPUT: true; the input reads as it did. -/
def packNilsSpec : ChangeSpec := { name := "packNils", fn := fun _ => fun
  | [d] => { results := [.lit (.bool true)], args := [d] }
  | _ => none }
def packNilsRow : OpenClaim := { program := "ytjegkfdcelodeaa", sum := "e63b359abfc6c093b148015f4c598a24f3f2b83d5168873d364c3b02e0737a40", func := "ossuary/ossuarylaw01.PackNils", spec := "packNils", unfollowed := true, recurses := true, apart := false }
def PackNilsSaid : Prop := packNilsRow.holds Try.pinned (OpenSpec.ofChange packNilsSpec)

/-- ITS FALSE NEIGHBOUR: 'it returns false'. Refute it at one input. -/
def packNilsWrong : ChangeSpec := { name := "packNils", fn := fun _ => fun
  | [d] => { results := [.lit (.bool false)], args := [d] }
  | _ => none }
def PackNilsWrongFalsely : Prop := packNilsRow.holds Try.pinned (OpenSpec.ofChange packNilsWrong)

/-- 'ossuarylaw01.PackBack': WHATEVER THE INPUT: true; the input reads as it did. -/
def packBackSpec : ChangeSpec := { name := "packBack", fn := fun _ => fun
  | [d1, d2] => { results := [.lit (.bool true)], args := [d1, d2] }
  | _ => none }
def packBackRow : OpenClaim := { program := "ytjegkfdcelodeaa", sum := "e63b359abfc6c093b148015f4c598a24f3f2b83d5168873d364c3b02e0737a40", func := "ossuary/ossuarylaw01.PackBack", spec := "packBack", unfollowed := true, recurses := true, apart := false }
def PackBackSaid : Prop := packBackRow.holds Try.pinned (OpenSpec.ofChange packBackSpec)

/-- ITS FALSE NEIGHBOUR: 'it returns false'. Refute it at one input. -/
def packBackWrong : ChangeSpec := { name := "packBack", fn := fun _ => fun
  | [d1, d2] => { results := [.lit (.bool false)], args := [d1, d2] }
  | _ => none }
def PackBackWrongFalsely : Prop := packBackRow.holds Try.pinned (OpenSpec.ofChange packBackWrong)

/-- 'ossuarylaw18.PolicyBack': WHATEVER THE INPUT: true; the input reads as it did. -/
def policyBackSpec : ChangeSpec := { name := "policyBack", fn := fun _ => fun
  | [d1, d2, d3] => { results := [.lit (.bool true)], args := [d1, d2, d3] }
  | _ => none }
def policyBackRow : OpenClaim := { program := "ytjegkfdcelodeaa", sum := "e63b359abfc6c093b148015f4c598a24f3f2b83d5168873d364c3b02e0737a40", func := "ossuary/ossuarylaw18.PolicyBack", spec := "policyBack", unfollowed := true, recurses := true, apart := false }
def PolicyBackSaid : Prop := policyBackRow.holds Try.pinned (OpenSpec.ofChange policyBackSpec)

/-- ITS FALSE NEIGHBOUR: 'it returns false'. Refute it at one input. -/
def policyBackWrong : ChangeSpec := { name := "policyBack", fn := fun _ => fun
  | [d1, d2, d3] => { results := [.lit (.bool false)], args := [d1, d2, d3] }
  | _ => none }
def PolicyBackWrongFalsely : Prop := policyBackRow.holds Try.pinned (OpenSpec.ofChange policyBackWrong)

/-- 'ossuarylaw13.AskCodes': WHATEVER THE INPUT: true; the input reads as it did. -/
def askCodesSpec : ChangeSpec := { name := "askCodes", fn := fun _ => fun
  | [d1, d2, d3] => { results := [.lit (.bool true)], args := [d1, d2, d3] }
  | _ => none }
def askCodesRow : OpenClaim := { program := "ytjegkfdcelodeaa", sum := "e63b359abfc6c093b148015f4c598a24f3f2b83d5168873d364c3b02e0737a40", func := "ossuary/ossuarylaw13.AskCodes", spec := "askCodes", unfollowed := true, recurses := true, apart := false }
def AskCodesSaid : Prop := askCodesRow.holds Try.pinned (OpenSpec.ofChange askCodesSpec)

/-- ITS FALSE NEIGHBOUR: 'it returns false'. Refute it at one input. -/
def askCodesWrong : ChangeSpec := { name := "askCodes", fn := fun _ => fun
  | [d1, d2, d3] => { results := [.lit (.bool false)], args := [d1, d2, d3] }
  | _ => none }
def AskCodesWrongFalsely : Prop := askCodesRow.holds Try.pinned (OpenSpec.ofChange askCodesWrong)

/-- 'ossuarylaw13.AskBack': WHATEVER THE INPUT: true; the input reads as it did. -/
def askBackSpec : ChangeSpec := { name := "askBack", fn := fun _ => fun
  | [d1, d2, d3, d4, d5] => { results := [.lit (.bool true)], args := [d1, d2, d3, d4, d5] }
  | _ => none }
def askBackRow : OpenClaim := { program := "ytjegkfdcelodeaa", sum := "e63b359abfc6c093b148015f4c598a24f3f2b83d5168873d364c3b02e0737a40", func := "ossuary/ossuarylaw13.AskBack", spec := "askBack", unfollowed := true, recurses := true, apart := false }
def AskBackSaid : Prop := askBackRow.holds Try.pinned (OpenSpec.ofChange askBackSpec)

/-- ITS FALSE NEIGHBOUR: 'it returns false'. Refute it at one input. -/
def askBackWrong : ChangeSpec := { name := "askBack", fn := fun _ => fun
  | [d1, d2, d3, d4, d5] => { results := [.lit (.bool false)], args := [d1, d2, d3, d4, d5] }
  | _ => none }
def AskBackWrongFalsely : Prop := askBackRow.holds Try.pinned (OpenSpec.ofChange askBackWrong)

/- THE SECOND FORM. 'bulk': how many values and letters a reading holds, each counted each time it is reached (what is shared counts as often as it is met; a slice's spare places count too). A statement '..UptoSaid' is the law's where the arguments, and the package variables that the reading takes, are together of bulk at most 1048576: NARROWER than '..Said'. Prove '..Said' where nothing that the law and all that it calls make is longer than what came in: it says more and counts as full. Else prove '..UptoSaid'. A law counts once. -/
mutual
def uptoBulk {H : Type} : DataW H → Nat
  | .lit (.string bytes) => bytes.length + 1
  | .lit _ => 1
  | .nil => 1
  | .ptr d => uptoBulk d + 1
  | .slice elems spare => uptoBulkAll elems + uptoBulkAll spare + 1
  | .agg parts => uptoBulkAll parts + 1
  | .iface _ d => uptoBulk d + 1
  | .map entries => uptoBulkEntries entries + 1
  | .held _ => 1
def uptoBulkAll {H : Type} : List (DataW H) → Nat
  | [] => 0
  | d :: r => uptoBulk d + uptoBulkAll r
def uptoBulkEntries {H : Type} : List (Lit × DataW H) → Nat
  | [] => 0
  | x :: r => uptoBulkEntry x + uptoBulkEntries r
def uptoBulkEntry {H : Type} : Lit × DataW H → Nat
  | (.string bytes, d) => bytes.length + uptoBulk d + 1
  | (_, d) => uptoBulk d + 1
 end
def uptoSmall : (H : Type) → List (DataW H) → Bool := fun _ ds => decide (uptoBulkAll ds ≤ 1048576)
def OpenSpec.upto (s : _root_.Go.ChangeSpec) : _root_.Go.OpenSpec := { _root_.Go.OpenSpec.ofChange s with cond := some uptoSmall }

/-- 'ossuarylaw18.PolicyTimes', WHERE WHAT IT READS IS OF BULK AT MOST 1048576: true; the input reads as it did. -/
def policyTimesUptoRow : OpenClaim := { program := "ytjegkfdcelodeaa", sum := "e63b359abfc6c093b148015f4c598a24f3f2b83d5168873d364c3b02e0737a40", func := "ossuary/ossuarylaw18.PolicyTimes", spec := "policyTimes", apart := false, narrowed := true }
def PolicyTimesUptoSaid : Prop := policyTimesUptoRow.holds Try.pinned (OpenSpec.upto policyTimesSpec)

/-- 'ossuarylaw18.PolicyChecks', WHERE WHAT IT READS IS OF BULK AT MOST 1048576: true; the input reads as it did. -/
def policyChecksUptoRow : OpenClaim := { program := "ytjegkfdcelodeaa", sum := "e63b359abfc6c093b148015f4c598a24f3f2b83d5168873d364c3b02e0737a40", func := "ossuary/ossuarylaw18.PolicyChecks", spec := "policyChecks", unfollowed := true, recurses := true, apart := false, narrowed := true }
def PolicyChecksUptoSaid : Prop := policyChecksUptoRow.holds Try.pinned (OpenSpec.upto policyChecksSpec)

/-- 'ossuarylaw01.PackNums', WHERE WHAT IT READS IS OF BULK AT MOST 1048576: true; the input reads as it did. -/
def packNumsUptoRow : OpenClaim := { program := "ytjegkfdcelodeaa", sum := "e63b359abfc6c093b148015f4c598a24f3f2b83d5168873d364c3b02e0737a40", func := "ossuary/ossuarylaw01.PackNums", spec := "packNums", unfollowed := true, recurses := true, apart := false, narrowed := true }
def PackNumsUptoSaid : Prop := packNumsUptoRow.holds Try.pinned (OpenSpec.upto packNumsSpec)

/-- 'ossuarylaw01.PackInts', WHERE WHAT IT READS IS OF BULK AT MOST 1048576: true; the input reads as it did. -/
def packIntsUptoRow : OpenClaim := { program := "ytjegkfdcelodeaa", sum := "e63b359abfc6c093b148015f4c598a24f3f2b83d5168873d364c3b02e0737a40", func := "ossuary/ossuarylaw01.PackInts", spec := "packInts", unfollowed := true, recurses := true, apart := false, narrowed := true }
def PackIntsUptoSaid : Prop := packIntsUptoRow.holds Try.pinned (OpenSpec.upto packIntsSpec)

/-- 'ossuarylaw01.PackPuts', WHERE WHAT IT READS IS OF BULK AT MOST 1048576: true; the input reads as it did. -/
def packPutsUptoRow : OpenClaim := { program := "ytjegkfdcelodeaa", sum := "e63b359abfc6c093b148015f4c598a24f3f2b83d5168873d364c3b02e0737a40", func := "ossuary/ossuarylaw01.PackPuts", spec := "packPuts", unfollowed := true, recurses := true, apart := false, narrowed := true }
def PackPutsUptoSaid : Prop := packPutsUptoRow.holds Try.pinned (OpenSpec.upto packPutsSpec)

/-- 'ossuarylaw13.AskMatches', WHERE WHAT IT READS IS OF BULK AT MOST 1048576: true; the input reads as it did. -/
def askMatchesUptoRow : OpenClaim := { program := "ytjegkfdcelodeaa", sum := "e63b359abfc6c093b148015f4c598a24f3f2b83d5168873d364c3b02e0737a40", func := "ossuary/ossuarylaw13.AskMatches", spec := "askMatches", unfollowed := true, recurses := true, apart := false, narrowed := true }
def AskMatchesUptoSaid : Prop := askMatchesUptoRow.holds Try.pinned (OpenSpec.upto askMatchesSpec)

/-- 'ossuarylaw18.PolicyReads', WHERE WHAT IT READS IS OF BULK AT MOST 1048576: true; the input reads as it did. -/
def policyReadsUptoRow : OpenClaim := { program := "ytjegkfdcelodeaa", sum := "e63b359abfc6c093b148015f4c598a24f3f2b83d5168873d364c3b02e0737a40", func := "ossuary/ossuarylaw18.PolicyReads", spec := "policyReads", unfollowed := true, recurses := true, apart := false, narrowed := true }
def PolicyReadsUptoSaid : Prop := policyReadsUptoRow.holds Try.pinned (OpenSpec.upto policyReadsSpec)

/-- 'ossuarylaw01.PackNils', WHERE WHAT IT READS IS OF BULK AT MOST 1048576: true; the input reads as it did. -/
def packNilsUptoRow : OpenClaim := { program := "ytjegkfdcelodeaa", sum := "e63b359abfc6c093b148015f4c598a24f3f2b83d5168873d364c3b02e0737a40", func := "ossuary/ossuarylaw01.PackNils", spec := "packNils", unfollowed := true, recurses := true, apart := false, narrowed := true }
def PackNilsUptoSaid : Prop := packNilsUptoRow.holds Try.pinned (OpenSpec.upto packNilsSpec)

/-- 'ossuarylaw01.PackBack', WHERE WHAT IT READS IS OF BULK AT MOST 1048576: true; the input reads as it did. -/
def packBackUptoRow : OpenClaim := { program := "ytjegkfdcelodeaa", sum := "e63b359abfc6c093b148015f4c598a24f3f2b83d5168873d364c3b02e0737a40", func := "ossuary/ossuarylaw01.PackBack", spec := "packBack", unfollowed := true, recurses := true, apart := false, narrowed := true }
def PackBackUptoSaid : Prop := packBackUptoRow.holds Try.pinned (OpenSpec.upto packBackSpec)

/-- 'ossuarylaw18.PolicyBack', WHERE WHAT IT READS IS OF BULK AT MOST 1048576: true; the input reads as it did. -/
def policyBackUptoRow : OpenClaim := { program := "ytjegkfdcelodeaa", sum := "e63b359abfc6c093b148015f4c598a24f3f2b83d5168873d364c3b02e0737a40", func := "ossuary/ossuarylaw18.PolicyBack", spec := "policyBack", unfollowed := true, recurses := true, apart := false, narrowed := true }
def PolicyBackUptoSaid : Prop := policyBackUptoRow.holds Try.pinned (OpenSpec.upto policyBackSpec)

/-- 'ossuarylaw13.AskCodes', WHERE WHAT IT READS IS OF BULK AT MOST 1048576: true; the input reads as it did. -/
def askCodesUptoRow : OpenClaim := { program := "ytjegkfdcelodeaa", sum := "e63b359abfc6c093b148015f4c598a24f3f2b83d5168873d364c3b02e0737a40", func := "ossuary/ossuarylaw13.AskCodes", spec := "askCodes", unfollowed := true, recurses := true, apart := false, narrowed := true }
def AskCodesUptoSaid : Prop := askCodesUptoRow.holds Try.pinned (OpenSpec.upto askCodesSpec)

/-- 'ossuarylaw13.AskBack', WHERE WHAT IT READS IS OF BULK AT MOST 1048576: true; the input reads as it did. -/
def askBackUptoRow : OpenClaim := { program := "ytjegkfdcelodeaa", sum := "e63b359abfc6c093b148015f4c598a24f3f2b83d5168873d364c3b02e0737a40", func := "ossuary/ossuarylaw13.AskBack", spec := "askBack", unfollowed := true, recurses := true, apart := false, narrowed := true }
def AskBackUptoSaid : Prop := askBackUptoRow.holds Try.pinned (OpenSpec.upto askBackSpec)

end Rows
end Go.Proofs.Ytjegkfdcelodeaa
