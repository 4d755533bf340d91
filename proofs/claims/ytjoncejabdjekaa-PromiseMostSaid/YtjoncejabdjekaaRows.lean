/-
  No cell of these rows narrows 'for every input' (looked for: loops, veiled, ifaces, maps, wideKeys, modest, calm, conditions, laid).
  DERIVED. THE GIVEN ROWS OF THIS SEAT. 6 by the template 'for every input the law returns true; each argument reads behind the call as it read before'; 0 by the template 'total and deterministic' (their statements: YtjoncejabdjekaaTotals.lean).
  GIVEN WITH THE SEED: the statements are not yours to turn. If you find one false, say at which input.
  Laid BY PROGRAM, IN A SANDBOX (cutbox-rows.mjs): the forced cells as the released guide's own fill.sh prints them over the translation 839c1fe6b19c6b7f… (all of the seat's roots in one cut). By AI agents, Wed Nov 11 2026. No macro, syntax, notation, axiom, sorry.
-/
import Derived.Test.YtjoncejabdjekaaChecked
import GoSem.Claim
import GoSem.ClaimJoined
import GoSem.ClaimMapViews
import Derived.JoinedTies
import Derived.KernelRfl
namespace Go.Proofs.Ytjoncejabdjekaa
/- THE CELL 'sum', in the pinned program and in every row, IS THE sha256 OF THE DUMP (.gsa) THAT YtjoncejabdjekaaProg.lean LOADS. Nothing in Lean hashes anything: it is a label: what it is worth is what the hold of that sum in a sandbox is worth. -/
noncomputable def Try.pinned : Pinned := { name := "ytjoncejabdjekaa", sum := "839c1fe6b19c6b7fb239396146a5097f779a1ef01ec629b9e89dda80ee1c47a9", checked := Try.checked }
namespace Rows
def none {H : Type} : Left H := { results := [], args := [] }

/-- 'bijoulaw07.PromiseCounts': WHATEVER THE INPUT: true; the input reads as it did. -/
def promiseCountsSpec : ChangeSpec := { name := "promiseCounts", fn := fun _ => fun
  | [d1, d2] => { results := [.lit (.bool true)], args := [d1, d2] }
  | _ => none }
def promiseCountsRow : OpenClaim := { program := "ytjoncejabdjekaa", sum := "839c1fe6b19c6b7fb239396146a5097f779a1ef01ec629b9e89dda80ee1c47a9", func := "bijou/bijoulaw07.PromiseCounts", spec := "promiseCounts", unfollowed := true, recurses := true, plainKeys := false, apart := false }
def PromiseCountsSaid : Prop := promiseCountsRow.holds Try.pinned (OpenSpec.ofChange promiseCountsSpec)

/-- ITS FALSE NEIGHBOUR: 'it returns false'. Refute it at one input. -/
def promiseCountsWrong : ChangeSpec := { name := "promiseCounts", fn := fun _ => fun
  | [d1, d2] => { results := [.lit (.bool false)], args := [d1, d2] }
  | _ => none }
def PromiseCountsWrongFalsely : Prop := promiseCountsRow.holds Try.pinned (OpenSpec.ofChange promiseCountsWrong)

/-- 'bijoulaw07.PromiseOwed': WHATEVER THE INPUT: true; the input reads as it did. -/
def promiseOwedSpec : ChangeSpec := { name := "promiseOwed", fn := fun _ => fun
  | [d1, d2, d3] => { results := [.lit (.bool true)], args := [d1, d2, d3] }
  | _ => none }
def promiseOwedRow : OpenClaim := { program := "ytjoncejabdjekaa", sum := "839c1fe6b19c6b7fb239396146a5097f779a1ef01ec629b9e89dda80ee1c47a9", func := "bijou/bijoulaw07.PromiseOwed", spec := "promiseOwed", unfollowed := true, recurses := true, plainKeys := false, apart := false }
def PromiseOwedSaid : Prop := promiseOwedRow.holds Try.pinned (OpenSpec.ofChange promiseOwedSpec)

/-- ITS FALSE NEIGHBOUR: 'it returns false'. Refute it at one input. -/
def promiseOwedWrong : ChangeSpec := { name := "promiseOwed", fn := fun _ => fun
  | [d1, d2, d3] => { results := [.lit (.bool false)], args := [d1, d2, d3] }
  | _ => none }
def PromiseOwedWrongFalsely : Prop := promiseOwedRow.holds Try.pinned (OpenSpec.ofChange promiseOwedWrong)

/-- 'bijoulaw07.PromiseRoom': WHATEVER THE INPUT: true; the input reads as it did. -/
def promiseRoomSpec : ChangeSpec := { name := "promiseRoom", fn := fun _ => fun
  | [d1, d2] => { results := [.lit (.bool true)], args := [d1, d2] }
  | _ => none }
def promiseRoomRow : OpenClaim := { program := "ytjoncejabdjekaa", sum := "839c1fe6b19c6b7fb239396146a5097f779a1ef01ec629b9e89dda80ee1c47a9", func := "bijou/bijoulaw07.PromiseRoom", spec := "promiseRoom", unfollowed := true, recurses := true, plainKeys := false, apart := false }
def PromiseRoomSaid : Prop := promiseRoomRow.holds Try.pinned (OpenSpec.ofChange promiseRoomSpec)

/-- ITS FALSE NEIGHBOUR: 'it returns false'. Refute it at one input. -/
def promiseRoomWrong : ChangeSpec := { name := "promiseRoom", fn := fun _ => fun
  | [d1, d2] => { results := [.lit (.bool false)], args := [d1, d2] }
  | _ => none }
def PromiseRoomWrongFalsely : Prop := promiseRoomRow.holds Try.pinned (OpenSpec.ofChange promiseRoomWrong)

/-- 'bijoulaw07.PromiseReports': WHATEVER THE INPUT: true; the input reads as it did. -/
def promiseReportsSpec : ChangeSpec := { name := "promiseReports", fn := fun _ => fun
  | [d1, d2, d3] => { results := [.lit (.bool true)], args := [d1, d2, d3] }
  | _ => none }
def promiseReportsRow : OpenClaim := { program := "ytjoncejabdjekaa", sum := "839c1fe6b19c6b7fb239396146a5097f779a1ef01ec629b9e89dda80ee1c47a9", func := "bijou/bijoulaw07.PromiseReports", spec := "promiseReports", unfollowed := true, recurses := true, plainKeys := false, apart := false }
def PromiseReportsSaid : Prop := promiseReportsRow.holds Try.pinned (OpenSpec.ofChange promiseReportsSpec)

/-- ITS FALSE NEIGHBOUR: 'it returns false'. Refute it at one input. -/
def promiseReportsWrong : ChangeSpec := { name := "promiseReports", fn := fun _ => fun
  | [d1, d2, d3] => { results := [.lit (.bool false)], args := [d1, d2, d3] }
  | _ => none }
def PromiseReportsWrongFalsely : Prop := promiseReportsRow.holds Try.pinned (OpenSpec.ofChange promiseReportsWrong)

/-- 'bijoulaw07.PromiseMost': WHATEVER THE INPUT: true; the input reads as it did. -/
def promiseMostSpec : ChangeSpec := { name := "promiseMost", fn := fun _ => fun
  | [d] => { results := [.lit (.bool true)], args := [d] }
  | _ => none }
def promiseMostRow : OpenClaim := { program := "ytjoncejabdjekaa", sum := "839c1fe6b19c6b7fb239396146a5097f779a1ef01ec629b9e89dda80ee1c47a9", func := "bijou/bijoulaw07.PromiseMost", spec := "promiseMost", unfollowed := true, recurses := true, plainKeys := false, apart := false }
def PromiseMostSaid : Prop := promiseMostRow.holds Try.pinned (OpenSpec.ofChange promiseMostSpec)

/-- ITS FALSE NEIGHBOUR: 'it returns false'. Refute it at one input. -/
def promiseMostWrong : ChangeSpec := { name := "promiseMost", fn := fun _ => fun
  | [d] => { results := [.lit (.bool false)], args := [d] }
  | _ => none }
def PromiseMostWrongFalsely : Prop := promiseMostRow.holds Try.pinned (OpenSpec.ofChange promiseMostWrong)

/-- 'bijoulaw07.PromiseProof': WHATEVER THE INPUT: true; the input reads as it did. -/
def promiseProofSpec : ChangeSpec := { name := "promiseProof", fn := fun _ => fun
  | [d1, d2, d3] => { results := [.lit (.bool true)], args := [d1, d2, d3] }
  | _ => none }
def promiseProofRow : OpenClaim := { program := "ytjoncejabdjekaa", sum := "839c1fe6b19c6b7fb239396146a5097f779a1ef01ec629b9e89dda80ee1c47a9", func := "bijou/bijoulaw07.PromiseProof", spec := "promiseProof", unfollowed := true, recurses := true, plainKeys := false, apart := false }
def PromiseProofSaid : Prop := promiseProofRow.holds Try.pinned (OpenSpec.ofChange promiseProofSpec)

/-- ITS FALSE NEIGHBOUR: 'it returns false'. Refute it at one input. -/
def promiseProofWrong : ChangeSpec := { name := "promiseProof", fn := fun _ => fun
  | [d1, d2, d3] => { results := [.lit (.bool false)], args := [d1, d2, d3] }
  | _ => none }
def PromiseProofWrongFalsely : Prop := promiseProofRow.holds Try.pinned (OpenSpec.ofChange promiseProofWrong)

/- THE SECOND FORM. 'bulk': how many values and letters a reading holds, each counted each time it is reached (what is shared counts as often as it is met; a slice's spare places count too). A statement '..UptoSaid' is the law's where the arguments, and the package variables that the reading takes, are together of bulk at most 1048576: NARROWER than '..Said'. Prove '..Said' where nothing that the law and all that it calls make is longer than what came in: it says more and counts as full. Else prove '..UptoSaid'. A law counts once. -/
mutual
def uptoBulk {H : Type} : DataW H → Nat
  | .lit (.string bytes) => bytes.length + 1
  | .lit _ => 1
  | .nil => 1
  | .ptr d => uptoBulk d + 1
  | .slice elems spare => uptoBulkAll elems + uptoBulkAll spare + 1
  | .agg parts => uptoBulkAll parts + 1
  | .iface _ d => uptoBulk d + 1
  | .map entries => uptoBulkEntries entries + 1
  | .held _ => 1
def uptoBulkAll {H : Type} : List (DataW H) → Nat
  | [] => 0
  | d :: r => uptoBulk d + uptoBulkAll r
def uptoBulkEntries {H : Type} : List (Lit × DataW H) → Nat
  | [] => 0
  | x :: r => uptoBulkEntry x + uptoBulkEntries r
def uptoBulkEntry {H : Type} : Lit × DataW H → Nat
  | (.string bytes, d) => bytes.length + uptoBulk d + 1
  | (_, d) => uptoBulk d + 1
 end
def uptoSmall : (H : Type) → List (DataW H) → Bool := fun _ ds => decide (uptoBulkAll ds ≤ 1048576)
def OpenSpec.upto (s : _root_.Go.ChangeSpec) : _root_.Go.OpenSpec := { _root_.Go.OpenSpec.ofChange s with cond := some uptoSmall }

/-- 'bijoulaw07.PromiseCounts', WHERE WHAT IT READS IS OF BULK AT MOST 1048576: true; the input reads as it did. -/
def promiseCountsUptoRow : OpenClaim := { program := "ytjoncejabdjekaa", sum := "839c1fe6b19c6b7fb239396146a5097f779a1ef01ec629b9e89dda80ee1c47a9", func := "bijou/bijoulaw07.PromiseCounts", spec := "promiseCounts", unfollowed := true, recurses := true, plainKeys := false, apart := false, narrowed := true }
def PromiseCountsUptoSaid : Prop := promiseCountsUptoRow.holds Try.pinned (OpenSpec.upto promiseCountsSpec)

/-- 'bijoulaw07.PromiseOwed', WHERE WHAT IT READS IS OF BULK AT MOST 1048576: true; the input reads as it did. -/
def promiseOwedUptoRow : OpenClaim := { program := "ytjoncejabdjekaa", sum := "839c1fe6b19c6b7fb239396146a5097f779a1ef01ec629b9e89dda80ee1c47a9", func := "bijou/bijoulaw07.PromiseOwed", spec := "promiseOwed", unfollowed := true, recurses := true, plainKeys := false, apart := false, narrowed := true }
def PromiseOwedUptoSaid : Prop := promiseOwedUptoRow.holds Try.pinned (OpenSpec.upto promiseOwedSpec)

/-- 'bijoulaw07.PromiseRoom', WHERE WHAT IT READS IS OF BULK AT MOST 1048576: true; the input reads as it did. -/
def promiseRoomUptoRow : OpenClaim := { program := "ytjoncejabdjekaa", sum := "839c1fe6b19c6b7fb239396146a5097f779a1ef01ec629b9e89dda80ee1c47a9", func := "bijou/bijoulaw07.PromiseRoom", spec := "promiseRoom", unfollowed := true, recurses := true, plainKeys := false, apart := false, narrowed := true }
def PromiseRoomUptoSaid : Prop := promiseRoomUptoRow.holds Try.pinned (OpenSpec.upto promiseRoomSpec)

/-- 'bijoulaw07.PromiseReports', WHERE WHAT IT READS IS OF BULK AT MOST 1048576: true; the input reads as it did. -/
def promiseReportsUptoRow : OpenClaim := { program := "ytjoncejabdjekaa", sum := "839c1fe6b19c6b7fb239396146a5097f779a1ef01ec629b9e89dda80ee1c47a9", func := "bijou/bijoulaw07.PromiseReports", spec := "promiseReports", unfollowed := true, recurses := true, plainKeys := false, apart := false, narrowed := true }
def PromiseReportsUptoSaid : Prop := promiseReportsUptoRow.holds Try.pinned (OpenSpec.upto promiseReportsSpec)

/-- 'bijoulaw07.PromiseMost', WHERE WHAT IT READS IS OF BULK AT MOST 1048576: true; the input reads as it did. -/
def promiseMostUptoRow : OpenClaim := { program := "ytjoncejabdjekaa", sum := "839c1fe6b19c6b7fb239396146a5097f779a1ef01ec629b9e89dda80ee1c47a9", func := "bijou/bijoulaw07.PromiseMost", spec := "promiseMost", unfollowed := true, recurses := true, plainKeys := false, apart := false, narrowed := true }
def PromiseMostUptoSaid : Prop := promiseMostUptoRow.holds Try.pinned (OpenSpec.upto promiseMostSpec)

/-- 'bijoulaw07.PromiseProof', WHERE WHAT IT READS IS OF BULK AT MOST 1048576: true; the input reads as it did. -/
def promiseProofUptoRow : OpenClaim := { program := "ytjoncejabdjekaa", sum := "839c1fe6b19c6b7fb239396146a5097f779a1ef01ec629b9e89dda80ee1c47a9", func := "bijou/bijoulaw07.PromiseProof", spec := "promiseProof", unfollowed := true, recurses := true, plainKeys := false, apart := false, narrowed := true }
def PromiseProofUptoSaid : Prop := promiseProofUptoRow.holds Try.pinned (OpenSpec.upto promiseProofSpec)

end Rows
end Go.Proofs.Ytjoncejabdjekaa
