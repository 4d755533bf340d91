/-
  No cell of these rows narrows 'for every input' (looked for: loops, veiled, ifaces, maps, wideKeys, modest, calm, conditions, laid).
  DERIVED. THE GIVEN ROWS OF THIS SEAT. 9 by the template 'for every input the law returns true; each argument reads behind the call as it read before'; 0 by the template 'total and deterministic' (their statements: YtdkaijofmigmbaaTotals.lean).
  GIVEN WITH THE SEED: the statements are not yours to turn. If you find one false, say at which input.
  Laid BY PROGRAM, IN A SANDBOX (cutbox-rows.mjs): the forced cells as the released guide's own fill.sh prints them over the translation e82d3016e4e3eefc… (all of the seat's roots in one cut). By AI agents, Wed Nov 11 2026. No macro, syntax, notation, axiom, sorry.
-/
import Derived.Test.YtdkaijofmigmbaaChecked
import GoSem.Claim
import GoSem.ClaimJoined
import GoSem.ClaimMapViews
import Derived.JoinedTies
import Derived.KernelRfl
namespace Go.Proofs.Ytdkaijofmigmbaa
/- THE CELL 'sum', in the pinned program and in every row, IS THE sha256 OF THE DUMP (.gsa) THAT YtdkaijofmigmbaaProg.lean LOADS. Nothing in Lean hashes anything: it is a label: what it is worth is what the hold of that sum in a sandbox is worth. -/
noncomputable def Try.pinned : Pinned := { name := "ytdkaijofmigmbaa", sum := "e82d3016e4e3eefc877571a79c02e103155d23a6755513031ab426acd5b2a37e", checked := Try.checked }
namespace Rows
def none {H : Type} : Left H := { results := [], args := [] }

/-- 'bijoulaw04.SeatsHold': WHATEVER THE INPUT: true; the input reads as it did. -/
def seatsHoldSpec : ChangeSpec := { name := "seatsHold", fn := fun _ => fun
  | [d1, d2, d3] => { results := [.lit (.bool true)], args := [d1, d2, d3] }
  | _ => none }
def seatsHoldRow : OpenClaim := { program := "ytdkaijofmigmbaa", sum := "e82d3016e4e3eefc877571a79c02e103155d23a6755513031ab426acd5b2a37e", func := "bijou/bijoulaw04.SeatsHold", spec := "seatsHold", unfollowed := true, recurses := true, apart := false }
def SeatsHoldSaid : Prop := seatsHoldRow.holds Try.pinned (OpenSpec.ofChange seatsHoldSpec)

/-- ITS FALSE NEIGHBOUR: 'it returns false'. Refute it at one input. -/
def seatsHoldWrong : ChangeSpec := { name := "seatsHold", fn := fun _ => fun
  | [d1, d2, d3] => { results := [.lit (.bool false)], args := [d1, d2, d3] }
  | _ => none }
def SeatsHoldWrongFalsely : Prop := seatsHoldRow.holds Try.pinned (OpenSpec.ofChange seatsHoldWrong)

/-- 'bijoulaw04.SeatsVain': WHATEVER THE INPUT: true; the input reads as it did. -/
def seatsVainSpec : ChangeSpec := { name := "seatsVain", fn := fun _ => fun
  | [d1, d2, d3] => { results := [.lit (.bool true)], args := [d1, d2, d3] }
  | _ => none }
def seatsVainRow : OpenClaim := { program := "ytdkaijofmigmbaa", sum := "e82d3016e4e3eefc877571a79c02e103155d23a6755513031ab426acd5b2a37e", func := "bijou/bijoulaw04.SeatsVain", spec := "seatsVain", unfollowed := true, recurses := true, apart := false }
def SeatsVainSaid : Prop := seatsVainRow.holds Try.pinned (OpenSpec.ofChange seatsVainSpec)

/-- ITS FALSE NEIGHBOUR: 'it returns false'. Refute it at one input. -/
def seatsVainWrong : ChangeSpec := { name := "seatsVain", fn := fun _ => fun
  | [d1, d2, d3] => { results := [.lit (.bool false)], args := [d1, d2, d3] }
  | _ => none }
def SeatsVainWrongFalsely : Prop := seatsVainRow.holds Try.pinned (OpenSpec.ofChange seatsVainWrong)

/-- 'bijoulaw04.SeatsOnce': WHATEVER THE INPUT: true; the input reads as it did. -/
def seatsOnceSpec : ChangeSpec := { name := "seatsOnce", fn := fun _ => fun
  | [d1, d2, d3] => { results := [.lit (.bool true)], args := [d1, d2, d3] }
  | _ => none }
def seatsOnceRow : OpenClaim := { program := "ytdkaijofmigmbaa", sum := "e82d3016e4e3eefc877571a79c02e103155d23a6755513031ab426acd5b2a37e", func := "bijou/bijoulaw04.SeatsOnce", spec := "seatsOnce", unfollowed := true, recurses := true, apart := false }
def SeatsOnceSaid : Prop := seatsOnceRow.holds Try.pinned (OpenSpec.ofChange seatsOnceSpec)

/-- ITS FALSE NEIGHBOUR: 'it returns false'. Refute it at one input. -/
def seatsOnceWrong : ChangeSpec := { name := "seatsOnce", fn := fun _ => fun
  | [d1, d2, d3] => { results := [.lit (.bool false)], args := [d1, d2, d3] }
  | _ => none }
def SeatsOnceWrongFalsely : Prop := seatsOnceRow.holds Try.pinned (OpenSpec.ofChange seatsOnceWrong)

/-- 'bijoulaw04.SeatsOrder': WHATEVER THE INPUT: true; the input reads as it did. -/
def seatsOrderSpec : ChangeSpec := { name := "seatsOrder", fn := fun _ => fun
  | [d1, d2, d3] => { results := [.lit (.bool true)], args := [d1, d2, d3] }
  | _ => none }
def seatsOrderRow : OpenClaim := { program := "ytdkaijofmigmbaa", sum := "e82d3016e4e3eefc877571a79c02e103155d23a6755513031ab426acd5b2a37e", func := "bijou/bijoulaw04.SeatsOrder", spec := "seatsOrder", unfollowed := true, recurses := true, apart := false }
def SeatsOrderSaid : Prop := seatsOrderRow.holds Try.pinned (OpenSpec.ofChange seatsOrderSpec)

/-- ITS FALSE NEIGHBOUR: 'it returns false'. Refute it at one input. -/
def seatsOrderWrong : ChangeSpec := { name := "seatsOrder", fn := fun _ => fun
  | [d1, d2, d3] => { results := [.lit (.bool false)], args := [d1, d2, d3] }
  | _ => none }
def SeatsOrderWrongFalsely : Prop := seatsOrderRow.holds Try.pinned (OpenSpec.ofChange seatsOrderWrong)

/-- 'bijoulaw04.SeatsGets': WHATEVER THE INPUT: true; the input reads as it did. -/
def seatsGetsSpec : ChangeSpec := { name := "seatsGets", fn := fun _ => fun
  | [d1, d2, d3] => { results := [.lit (.bool true)], args := [d1, d2, d3] }
  | _ => none }
def seatsGetsRow : OpenClaim := { program := "ytdkaijofmigmbaa", sum := "e82d3016e4e3eefc877571a79c02e103155d23a6755513031ab426acd5b2a37e", func := "bijou/bijoulaw04.SeatsGets", spec := "seatsGets", unfollowed := true, recurses := true, apart := false }
def SeatsGetsSaid : Prop := seatsGetsRow.holds Try.pinned (OpenSpec.ofChange seatsGetsSpec)

/-- ITS FALSE NEIGHBOUR: 'it returns false'. Refute it at one input. -/
def seatsGetsWrong : ChangeSpec := { name := "seatsGets", fn := fun _ => fun
  | [d1, d2, d3] => { results := [.lit (.bool false)], args := [d1, d2, d3] }
  | _ => none }
def SeatsGetsWrongFalsely : Prop := seatsGetsRow.holds Try.pinned (OpenSpec.ofChange seatsGetsWrong)

/-- 'bijoulaw04.SeatsMap': WHATEVER THE INPUT: true; the input reads as it did. -/
def seatsMapSpec : ChangeSpec := { name := "seatsMap", fn := fun _ => fun
  | [d1, d2, d3] => { results := [.lit (.bool true)], args := [d1, d2, d3] }
  | _ => none }
def seatsMapRow : OpenClaim := { program := "ytdkaijofmigmbaa", sum := "e82d3016e4e3eefc877571a79c02e103155d23a6755513031ab426acd5b2a37e", func := "bijou/bijoulaw04.SeatsMap", spec := "seatsMap", unfollowed := true, recurses := true, apart := false }
def SeatsMapSaid : Prop := seatsMapRow.holds Try.pinned (OpenSpec.ofChange seatsMapSpec)

/-- ITS FALSE NEIGHBOUR: 'it returns false'. Refute it at one input. -/
def seatsMapWrong : ChangeSpec := { name := "seatsMap", fn := fun _ => fun
  | [d1, d2, d3] => { results := [.lit (.bool false)], args := [d1, d2, d3] }
  | _ => none }
def SeatsMapWrongFalsely : Prop := seatsMapRow.holds Try.pinned (OpenSpec.ofChange seatsMapWrong)

/-- 'bijoulaw04.SeatsGroups': WHATEVER THE INPUT: true; the input reads as it did. -/
def seatsGroupsSpec : ChangeSpec := { name := "seatsGroups", fn := fun _ => fun
  | [d1, d2, d3] => { results := [.lit (.bool true)], args := [d1, d2, d3] }
  | _ => none }
def seatsGroupsRow : OpenClaim := { program := "ytdkaijofmigmbaa", sum := "e82d3016e4e3eefc877571a79c02e103155d23a6755513031ab426acd5b2a37e", func := "bijou/bijoulaw04.SeatsGroups", spec := "seatsGroups", unfollowed := true, recurses := true, apart := false }
def SeatsGroupsSaid : Prop := seatsGroupsRow.holds Try.pinned (OpenSpec.ofChange seatsGroupsSpec)

/-- ITS FALSE NEIGHBOUR: 'it returns false'. Refute it at one input. -/
def seatsGroupsWrong : ChangeSpec := { name := "seatsGroups", fn := fun _ => fun
  | [d1, d2, d3] => { results := [.lit (.bool false)], args := [d1, d2, d3] }
  | _ => none }
def SeatsGroupsWrongFalsely : Prop := seatsGroupsRow.holds Try.pinned (OpenSpec.ofChange seatsGroupsWrong)

/-- 'bijoulaw04.SeatsFree': WHATEVER THE INPUT: true; the input reads as it did. -/
def seatsFreeSpec : ChangeSpec := { name := "seatsFree", fn := fun _ => fun
  | [d1, d2, d3] => { results := [.lit (.bool true)], args := [d1, d2, d3] }
  | _ => none }
def seatsFreeRow : OpenClaim := { program := "ytdkaijofmigmbaa", sum := "e82d3016e4e3eefc877571a79c02e103155d23a6755513031ab426acd5b2a37e", func := "bijou/bijoulaw04.SeatsFree", spec := "seatsFree", unfollowed := true, recurses := true, apart := false }
def SeatsFreeSaid : Prop := seatsFreeRow.holds Try.pinned (OpenSpec.ofChange seatsFreeSpec)

/-- ITS FALSE NEIGHBOUR: 'it returns false'. Refute it at one input. -/
def seatsFreeWrong : ChangeSpec := { name := "seatsFree", fn := fun _ => fun
  | [d1, d2, d3] => { results := [.lit (.bool false)], args := [d1, d2, d3] }
  | _ => none }
def SeatsFreeWrongFalsely : Prop := seatsFreeRow.holds Try.pinned (OpenSpec.ofChange seatsFreeWrong)

/-- 'bijoulaw04.SeatsPacked': WHATEVER THE INPUT: true; the input reads as it did. -/
def seatsPackedSpec : ChangeSpec := { name := "seatsPacked", fn := fun _ => fun
  | [d1, d2, d3] => { results := [.lit (.bool true)], args := [d1, d2, d3] }
  | _ => none }
def seatsPackedRow : OpenClaim := { program := "ytdkaijofmigmbaa", sum := "e82d3016e4e3eefc877571a79c02e103155d23a6755513031ab426acd5b2a37e", func := "bijou/bijoulaw04.SeatsPacked", spec := "seatsPacked", unfollowed := true, recurses := true, apart := false }
def SeatsPackedSaid : Prop := seatsPackedRow.holds Try.pinned (OpenSpec.ofChange seatsPackedSpec)

/-- ITS FALSE NEIGHBOUR: 'it returns false'. Refute it at one input. -/
def seatsPackedWrong : ChangeSpec := { name := "seatsPacked", fn := fun _ => fun
  | [d1, d2, d3] => { results := [.lit (.bool false)], args := [d1, d2, d3] }
  | _ => none }
def SeatsPackedWrongFalsely : Prop := seatsPackedRow.holds Try.pinned (OpenSpec.ofChange seatsPackedWrong)

/- THE SECOND FORM. 'bulk': how many values and letters a reading holds, each counted each time it is reached (what is shared counts as often as it is met; a slice's spare places count too). A statement '..UptoSaid' is the law's where the arguments, and the package variables that the reading takes, are together of bulk at most 1048576: NARROWER than '..Said'. Prove '..Said' where nothing that the law and all that it calls make is longer than what came in: it says more and counts as full. Else prove '..UptoSaid'. A law counts once. -/
mutual
def uptoBulk {H : Type} : DataW H → Nat
  | .lit (.string bytes) => bytes.length + 1
  | .lit _ => 1
  | .nil => 1
  | .ptr d => uptoBulk d + 1
  | .slice elems spare => uptoBulkAll elems + uptoBulkAll spare + 1
  | .agg parts => uptoBulkAll parts + 1
  | .iface _ d => uptoBulk d + 1
  | .map entries => uptoBulkEntries entries + 1
  | .held _ => 1
def uptoBulkAll {H : Type} : List (DataW H) → Nat
  | [] => 0
  | d :: r => uptoBulk d + uptoBulkAll r
def uptoBulkEntries {H : Type} : List (Lit × DataW H) → Nat
  | [] => 0
  | x :: r => uptoBulkEntry x + uptoBulkEntries r
def uptoBulkEntry {H : Type} : Lit × DataW H → Nat
  | (.string bytes, d) => bytes.length + uptoBulk d + 1
  | (_, d) => uptoBulk d + 1
 end
def uptoSmall : (H : Type) → List (DataW H) → Bool := fun _ ds => decide (uptoBulkAll ds ≤ 1048576)
def OpenSpec.upto (s : _root_.Go.ChangeSpec) : _root_.Go.OpenSpec := { _root_.Go.OpenSpec.ofChange s with cond := some uptoSmall }

/-- 'bijoulaw04.SeatsHold', WHERE WHAT IT READS IS OF BULK AT MOST 1048576: true; the input reads as it did. -/
def seatsHoldUptoRow : OpenClaim := { program := "ytdkaijofmigmbaa", sum := "e82d3016e4e3eefc877571a79c02e103155d23a6755513031ab426acd5b2a37e", func := "bijou/bijoulaw04.SeatsHold", spec := "seatsHold", unfollowed := true, recurses := true, apart := false, narrowed := true }
def SeatsHoldUptoSaid : Prop := seatsHoldUptoRow.holds Try.pinned (OpenSpec.upto seatsHoldSpec)

/-- 'bijoulaw04.SeatsVain', WHERE WHAT IT READS IS OF BULK AT MOST 1048576: true; the input reads as it did. -/
def seatsVainUptoRow : OpenClaim := { program := "ytdkaijofmigmbaa", sum := "e82d3016e4e3eefc877571a79c02e103155d23a6755513031ab426acd5b2a37e", func := "bijou/bijoulaw04.SeatsVain", spec := "seatsVain", unfollowed := true, recurses := true, apart := false, narrowed := true }
def SeatsVainUptoSaid : Prop := seatsVainUptoRow.holds Try.pinned (OpenSpec.upto seatsVainSpec)

/-- 'bijoulaw04.SeatsOnce', WHERE WHAT IT READS IS OF BULK AT MOST 1048576: true; the input reads as it did. -/
def seatsOnceUptoRow : OpenClaim := { program := "ytdkaijofmigmbaa", sum := "e82d3016e4e3eefc877571a79c02e103155d23a6755513031ab426acd5b2a37e", func := "bijou/bijoulaw04.SeatsOnce", spec := "seatsOnce", unfollowed := true, recurses := true, apart := false, narrowed := true }
def SeatsOnceUptoSaid : Prop := seatsOnceUptoRow.holds Try.pinned (OpenSpec.upto seatsOnceSpec)

/-- 'bijoulaw04.SeatsOrder', WHERE WHAT IT READS IS OF BULK AT MOST 1048576: true; the input reads as it did. -/
def seatsOrderUptoRow : OpenClaim := { program := "ytdkaijofmigmbaa", sum := "e82d3016e4e3eefc877571a79c02e103155d23a6755513031ab426acd5b2a37e", func := "bijou/bijoulaw04.SeatsOrder", spec := "seatsOrder", unfollowed := true, recurses := true, apart := false, narrowed := true }
def SeatsOrderUptoSaid : Prop := seatsOrderUptoRow.holds Try.pinned (OpenSpec.upto seatsOrderSpec)

/-- 'bijoulaw04.SeatsGets', WHERE WHAT IT READS IS OF BULK AT MOST 1048576: true; the input reads as it did. -/
def seatsGetsUptoRow : OpenClaim := { program := "ytdkaijofmigmbaa", sum := "e82d3016e4e3eefc877571a79c02e103155d23a6755513031ab426acd5b2a37e", func := "bijou/bijoulaw04.SeatsGets", spec := "seatsGets", unfollowed := true, recurses := true, apart := false, narrowed := true }
def SeatsGetsUptoSaid : Prop := seatsGetsUptoRow.holds Try.pinned (OpenSpec.upto seatsGetsSpec)

/-- 'bijoulaw04.SeatsMap', WHERE WHAT IT READS IS OF BULK AT MOST 1048576: true; the input reads as it did. -/
def seatsMapUptoRow : OpenClaim := { program := "ytdkaijofmigmbaa", sum := "e82d3016e4e3eefc877571a79c02e103155d23a6755513031ab426acd5b2a37e", func := "bijou/bijoulaw04.SeatsMap", spec := "seatsMap", unfollowed := true, recurses := true, apart := false, narrowed := true }
def SeatsMapUptoSaid : Prop := seatsMapUptoRow.holds Try.pinned (OpenSpec.upto seatsMapSpec)

/-- 'bijoulaw04.SeatsGroups', WHERE WHAT IT READS IS OF BULK AT MOST 1048576: true; the input reads as it did. -/
def seatsGroupsUptoRow : OpenClaim := { program := "ytdkaijofmigmbaa", sum := "e82d3016e4e3eefc877571a79c02e103155d23a6755513031ab426acd5b2a37e", func := "bijou/bijoulaw04.SeatsGroups", spec := "seatsGroups", unfollowed := true, recurses := true, apart := false, narrowed := true }
def SeatsGroupsUptoSaid : Prop := seatsGroupsUptoRow.holds Try.pinned (OpenSpec.upto seatsGroupsSpec)

/-- 'bijoulaw04.SeatsFree', WHERE WHAT IT READS IS OF BULK AT MOST 1048576: true; the input reads as it did. -/
def seatsFreeUptoRow : OpenClaim := { program := "ytdkaijofmigmbaa", sum := "e82d3016e4e3eefc877571a79c02e103155d23a6755513031ab426acd5b2a37e", func := "bijou/bijoulaw04.SeatsFree", spec := "seatsFree", unfollowed := true, recurses := true, apart := false, narrowed := true }
def SeatsFreeUptoSaid : Prop := seatsFreeUptoRow.holds Try.pinned (OpenSpec.upto seatsFreeSpec)

/-- 'bijoulaw04.SeatsPacked', WHERE WHAT IT READS IS OF BULK AT MOST 1048576: true; the input reads as it did. -/
def seatsPackedUptoRow : OpenClaim := { program := "ytdkaijofmigmbaa", sum := "e82d3016e4e3eefc877571a79c02e103155d23a6755513031ab426acd5b2a37e", func := "bijou/bijoulaw04.SeatsPacked", spec := "seatsPacked", unfollowed := true, recurses := true, apart := false, narrowed := true }
def SeatsPackedUptoSaid : Prop := seatsPackedUptoRow.holds Try.pinned (OpenSpec.upto seatsPackedSpec)

end Rows
end Go.Proofs.Ytdkaijofmigmbaa
