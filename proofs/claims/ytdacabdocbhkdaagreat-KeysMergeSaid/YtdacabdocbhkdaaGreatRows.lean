/-
  No cell of these rows narrows 'for every input' (looked for: loops, veiled, ifaces, maps, wideKeys, modest, calm, conditions, laid).
  DERIVED. THE GIVEN ROWS OF THIS SEAT. 11 by the template 'for every input the law returns true; each argument reads behind the call as it read before'; 0 by the template 'total and deterministic' (their statements: YtdacabdocbhkdaaGreatTotals.lean).
  GIVEN WITH THE SEED: the statements are not yours to turn. If you find one false, say at which input.
  Laid BY PROGRAM, IN A SANDBOX (cutbox-rows.mjs): the forced cells as the released guide's own fill.sh prints them over the translation 83390f3ec3909ef7… (all of the seat's roots in one cut). By AI agents, Wed Nov 11 2026. No macro, syntax, notation, axiom, sorry.
-/
import Derived.Test.YtdacabdocbhkdaaGreatChecked
import GoSem.Claim
import GoSem.ClaimJoined
import GoSem.ClaimMapViews
import Derived.JoinedTies
import Derived.KernelRfl
namespace Go.Proofs.YtdacabdocbhkdaaGreat
/- THE CELL 'sum', in the pinned program and in every row, IS THE sha256 OF THE DUMP (.gsa) THAT YtdacabdocbhkdaaGreatProg.lean LOADS. Nothing in Lean hashes anything: it is a label: what it is worth is what the hold of that sum in a sandbox is worth. -/
noncomputable def Tryz.pinned : Pinned := { name := "ytdacabdocbhkdaagreat", sum := "83390f3ec3909ef78f1068b1398d926be620fbc516e047d65477bc907f9091a2", checked := Tryz.checked }
namespace Rows
def none {H : Type} : Left H := { results := [], args := [] }

/-- 'bijoulaw02.KeysFewest': WHATEVER THE INPUT: true; the input reads as it did. -/
def keysFewestSpec : ChangeSpec := { name := "keysFewest", fn := fun _ => fun
  | [d1, d2] => { results := [.lit (.bool true)], args := [d1, d2] }
  | _ => none }
def keysFewestRow : OpenClaim := { program := "ytdacabdocbhkdaagreat", sum := "83390f3ec3909ef78f1068b1398d926be620fbc516e047d65477bc907f9091a2", func := "bijou/bijoulaw02.KeysFewest", spec := "keysFewest", unfollowed := true, recurses := true, apart := false }
def KeysFewestSaid : Prop := keysFewestRow.holds Tryz.pinned (OpenSpec.ofChange keysFewestSpec)

/-- ITS FALSE NEIGHBOUR: 'it returns false'. Refute it at one input. -/
def keysFewestWrong : ChangeSpec := { name := "keysFewest", fn := fun _ => fun
  | [d1, d2] => { results := [.lit (.bool false)], args := [d1, d2] }
  | _ => none }
def KeysFewestWrongFalsely : Prop := keysFewestRow.holds Tryz.pinned (OpenSpec.ofChange keysFewestWrong)

/-- 'bijoulaw02.KeysMinutes': WHATEVER THE INPUT: true; the input reads as it did. -/
def keysMinutesSpec : ChangeSpec := { name := "keysMinutes", fn := fun _ => fun
  | [d1, d2] => { results := [.lit (.bool true)], args := [d1, d2] }
  | _ => none }
def keysMinutesRow : OpenClaim := { program := "ytdacabdocbhkdaagreat", sum := "83390f3ec3909ef78f1068b1398d926be620fbc516e047d65477bc907f9091a2", func := "bijou/bijoulaw02.KeysMinutes", spec := "keysMinutes", unfollowed := true, recurses := true, apart := false }
def KeysMinutesSaid : Prop := keysMinutesRow.holds Tryz.pinned (OpenSpec.ofChange keysMinutesSpec)

/-- ITS FALSE NEIGHBOUR: 'it returns false'. Refute it at one input. -/
def keysMinutesWrong : ChangeSpec := { name := "keysMinutes", fn := fun _ => fun
  | [d1, d2] => { results := [.lit (.bool false)], args := [d1, d2] }
  | _ => none }
def KeysMinutesWrongFalsely : Prop := keysMinutesRow.holds Tryz.pinned (OpenSpec.ofChange keysMinutesWrong)

/-- 'bijoulaw02.KeysMore': WHATEVER THE INPUT: true; the input reads as it did. -/
def keysMoreSpec : ChangeSpec := { name := "keysMore", fn := fun _ => fun
  | [d1, d2, d3] => { results := [.lit (.bool true)], args := [d1, d2, d3] }
  | _ => none }
def keysMoreRow : OpenClaim := { program := "ytdacabdocbhkdaagreat", sum := "83390f3ec3909ef78f1068b1398d926be620fbc516e047d65477bc907f9091a2", func := "bijou/bijoulaw02.KeysMore", spec := "keysMore", unfollowed := true, recurses := true, apart := false }
def KeysMoreSaid : Prop := keysMoreRow.holds Tryz.pinned (OpenSpec.ofChange keysMoreSpec)

/-- ITS FALSE NEIGHBOUR: 'it returns false'. Refute it at one input. -/
def keysMoreWrong : ChangeSpec := { name := "keysMore", fn := fun _ => fun
  | [d1, d2, d3] => { results := [.lit (.bool false)], args := [d1, d2, d3] }
  | _ => none }
def KeysMoreWrongFalsely : Prop := keysMoreRow.holds Tryz.pinned (OpenSpec.ofChange keysMoreWrong)

/-- 'bijoulaw02.KeysLoad': WHATEVER THE INPUT: true; the input reads as it did. -/
def keysLoadSpec : ChangeSpec := { name := "keysLoad", fn := fun _ => fun
  | [d1, d2] => { results := [.lit (.bool true)], args := [d1, d2] }
  | _ => none }
def keysLoadRow : OpenClaim := { program := "ytdacabdocbhkdaagreat", sum := "83390f3ec3909ef78f1068b1398d926be620fbc516e047d65477bc907f9091a2", func := "bijou/bijoulaw02.KeysLoad", spec := "keysLoad", unfollowed := true, recurses := true, apart := false }
def KeysLoadSaid : Prop := keysLoadRow.holds Tryz.pinned (OpenSpec.ofChange keysLoadSpec)

/-- ITS FALSE NEIGHBOUR: 'it returns false'. Refute it at one input. -/
def keysLoadWrong : ChangeSpec := { name := "keysLoad", fn := fun _ => fun
  | [d1, d2] => { results := [.lit (.bool false)], args := [d1, d2] }
  | _ => none }
def KeysLoadWrongFalsely : Prop := keysLoadRow.holds Tryz.pinned (OpenSpec.ofChange keysLoadWrong)

/-- 'bijoulaw02.KeysDevice': WHATEVER THE INPUT: true; the input reads as it did. -/
def keysDeviceSpec : ChangeSpec := { name := "keysDevice", fn := fun _ => fun
  | [d1, d2, d3] => { results := [.lit (.bool true)], args := [d1, d2, d3] }
  | _ => none }
def keysDeviceRow : OpenClaim := { program := "ytdacabdocbhkdaagreat", sum := "83390f3ec3909ef78f1068b1398d926be620fbc516e047d65477bc907f9091a2", func := "bijou/bijoulaw02.KeysDevice", spec := "keysDevice", unfollowed := true, recurses := true, apart := false }
def KeysDeviceSaid : Prop := keysDeviceRow.holds Tryz.pinned (OpenSpec.ofChange keysDeviceSpec)

/-- ITS FALSE NEIGHBOUR: 'it returns false'. Refute it at one input. -/
def keysDeviceWrong : ChangeSpec := { name := "keysDevice", fn := fun _ => fun
  | [d1, d2, d3] => { results := [.lit (.bool false)], args := [d1, d2, d3] }
  | _ => none }
def KeysDeviceWrongFalsely : Prop := keysDeviceRow.holds Tryz.pinned (OpenSpec.ofChange keysDeviceWrong)

/-- 'bijoulaw02.KeysOpen': WHATEVER THE INPUT: true; the input reads as it did. -/
def keysOpenSpec : ChangeSpec := { name := "keysOpen", fn := fun _ => fun
  | [d1, d2] => { results := [.lit (.bool true)], args := [d1, d2] }
  | _ => none }
def keysOpenRow : OpenClaim := { program := "ytdacabdocbhkdaagreat", sum := "83390f3ec3909ef78f1068b1398d926be620fbc516e047d65477bc907f9091a2", func := "bijou/bijoulaw02.KeysOpen", spec := "keysOpen", unfollowed := true, recurses := true, apart := false }
def KeysOpenSaid : Prop := keysOpenRow.holds Tryz.pinned (OpenSpec.ofChange keysOpenSpec)

/-- ITS FALSE NEIGHBOUR: 'it returns false'. Refute it at one input. -/
def keysOpenWrong : ChangeSpec := { name := "keysOpen", fn := fun _ => fun
  | [d1, d2] => { results := [.lit (.bool false)], args := [d1, d2] }
  | _ => none }
def KeysOpenWrongFalsely : Prop := keysOpenRow.holds Tryz.pinned (OpenSpec.ofChange keysOpenWrong)

/-- 'bijoulaw02.KeysNext': WHATEVER THE INPUT: true; the input reads as it did. -/
def keysNextSpec : ChangeSpec := { name := "keysNext", fn := fun _ => fun
  | [d1, d2, d3] => { results := [.lit (.bool true)], args := [d1, d2, d3] }
  | _ => none }
def keysNextRow : OpenClaim := { program := "ytdacabdocbhkdaagreat", sum := "83390f3ec3909ef78f1068b1398d926be620fbc516e047d65477bc907f9091a2", func := "bijou/bijoulaw02.KeysNext", spec := "keysNext", unfollowed := true, recurses := true, apart := false }
def KeysNextSaid : Prop := keysNextRow.holds Tryz.pinned (OpenSpec.ofChange keysNextSpec)

/-- ITS FALSE NEIGHBOUR: 'it returns false'. Refute it at one input. -/
def keysNextWrong : ChangeSpec := { name := "keysNext", fn := fun _ => fun
  | [d1, d2, d3] => { results := [.lit (.bool false)], args := [d1, d2, d3] }
  | _ => none }
def KeysNextWrongFalsely : Prop := keysNextRow.holds Tryz.pinned (OpenSpec.ofChange keysNextWrong)

/-- 'bijoulaw02.KeysWhy': WHATEVER THE INPUT: true; the input reads as it did. -/
def keysWhySpec : ChangeSpec := { name := "keysWhy", fn := fun _ => fun
  | [d1, d2] => { results := [.lit (.bool true)], args := [d1, d2] }
  | _ => none }
def keysWhyRow : OpenClaim := { program := "ytdacabdocbhkdaagreat", sum := "83390f3ec3909ef78f1068b1398d926be620fbc516e047d65477bc907f9091a2", func := "bijou/bijoulaw02.KeysWhy", spec := "keysWhy", unfollowed := true, recurses := true, apart := false }
def KeysWhySaid : Prop := keysWhyRow.holds Tryz.pinned (OpenSpec.ofChange keysWhySpec)

/-- ITS FALSE NEIGHBOUR: 'it returns false'. Refute it at one input. -/
def keysWhyWrong : ChangeSpec := { name := "keysWhy", fn := fun _ => fun
  | [d1, d2] => { results := [.lit (.bool false)], args := [d1, d2] }
  | _ => none }
def KeysWhyWrongFalsely : Prop := keysWhyRow.holds Tryz.pinned (OpenSpec.ofChange keysWhyWrong)

/-- 'bijoulaw02.KeysFind': WHATEVER THE INPUT: true; the input reads as it did. -/
def keysFindSpec : ChangeSpec := { name := "keysFind", fn := fun _ => fun
  | [d1, d2, d3] => { results := [.lit (.bool true)], args := [d1, d2, d3] }
  | _ => none }
def keysFindRow : OpenClaim := { program := "ytdacabdocbhkdaagreat", sum := "83390f3ec3909ef78f1068b1398d926be620fbc516e047d65477bc907f9091a2", func := "bijou/bijoulaw02.KeysFind", spec := "keysFind", unfollowed := true, recurses := true, apart := false }
def KeysFindSaid : Prop := keysFindRow.holds Tryz.pinned (OpenSpec.ofChange keysFindSpec)

/-- ITS FALSE NEIGHBOUR: 'it returns false'. Refute it at one input. -/
def keysFindWrong : ChangeSpec := { name := "keysFind", fn := fun _ => fun
  | [d1, d2, d3] => { results := [.lit (.bool false)], args := [d1, d2, d3] }
  | _ => none }
def KeysFindWrongFalsely : Prop := keysFindRow.holds Tryz.pinned (OpenSpec.ofChange keysFindWrong)

/-- 'bijoulaw02.KeysOrder': WHATEVER THE INPUT: true; the input reads as it did. -/
def keysOrderSpec : ChangeSpec := { name := "keysOrder", fn := fun _ => fun
  | [d1, d2, d3] => { results := [.lit (.bool true)], args := [d1, d2, d3] }
  | _ => none }
def keysOrderRow : OpenClaim := { program := "ytdacabdocbhkdaagreat", sum := "83390f3ec3909ef78f1068b1398d926be620fbc516e047d65477bc907f9091a2", func := "bijou/bijoulaw02.KeysOrder", spec := "keysOrder", unfollowed := true, recurses := true, apart := false }
def KeysOrderSaid : Prop := keysOrderRow.holds Tryz.pinned (OpenSpec.ofChange keysOrderSpec)

/-- ITS FALSE NEIGHBOUR: 'it returns false'. Refute it at one input. -/
def keysOrderWrong : ChangeSpec := { name := "keysOrder", fn := fun _ => fun
  | [d1, d2, d3] => { results := [.lit (.bool false)], args := [d1, d2, d3] }
  | _ => none }
def KeysOrderWrongFalsely : Prop := keysOrderRow.holds Tryz.pinned (OpenSpec.ofChange keysOrderWrong)

/-- 'bijoulaw02.KeysMerge': WHATEVER THE INPUT: true; the input reads as it did. -/
def keysMergeSpec : ChangeSpec := { name := "keysMerge", fn := fun _ => fun
  | [d1, d2, d3] => { results := [.lit (.bool true)], args := [d1, d2, d3] }
  | _ => none }
def keysMergeRow : OpenClaim := { program := "ytdacabdocbhkdaagreat", sum := "83390f3ec3909ef78f1068b1398d926be620fbc516e047d65477bc907f9091a2", func := "bijou/bijoulaw02.KeysMerge", spec := "keysMerge", unfollowed := true, recurses := true, apart := false }
def KeysMergeSaid : Prop := keysMergeRow.holds Tryz.pinned (OpenSpec.ofChange keysMergeSpec)

/-- ITS FALSE NEIGHBOUR: 'it returns false'. Refute it at one input. -/
def keysMergeWrong : ChangeSpec := { name := "keysMerge", fn := fun _ => fun
  | [d1, d2, d3] => { results := [.lit (.bool false)], args := [d1, d2, d3] }
  | _ => none }
def KeysMergeWrongFalsely : Prop := keysMergeRow.holds Tryz.pinned (OpenSpec.ofChange keysMergeWrong)

/- THE SECOND FORM. 'bulk': how many values and letters a reading holds, each counted each time it is reached (what is shared counts as often as it is met; a slice's spare places count too). A statement '..UptoSaid' is the law's where the arguments, and the package variables that the reading takes, are together of bulk at most 1048576: NARROWER than '..Said'. Prove '..Said' where nothing that the law and all that it calls make is longer than what came in: it says more and counts as full. Else prove '..UptoSaid'. A law counts once. -/
mutual
def uptoBulk {H : Type} : DataW H → Nat
  | .lit (.string bytes) => bytes.length + 1
  | .lit _ => 1
  | .nil => 1
  | .ptr d => uptoBulk d + 1
  | .slice elems spare => uptoBulkAll elems + uptoBulkAll spare + 1
  | .agg parts => uptoBulkAll parts + 1
  | .iface _ d => uptoBulk d + 1
  | .map entries => uptoBulkEntries entries + 1
  | .held _ => 1
def uptoBulkAll {H : Type} : List (DataW H) → Nat
  | [] => 0
  | d :: r => uptoBulk d + uptoBulkAll r
def uptoBulkEntries {H : Type} : List (Lit × DataW H) → Nat
  | [] => 0
  | x :: r => uptoBulkEntry x + uptoBulkEntries r
def uptoBulkEntry {H : Type} : Lit × DataW H → Nat
  | (.string bytes, d) => bytes.length + uptoBulk d + 1
  | (_, d) => uptoBulk d + 1
 end
def uptoSmall : (H : Type) → List (DataW H) → Bool := fun _ ds => decide (uptoBulkAll ds ≤ 1048576)
def OpenSpec.upto (s : _root_.Go.ChangeSpec) : _root_.Go.OpenSpec := { _root_.Go.OpenSpec.ofChange s with cond := some uptoSmall }

/-- 'bijoulaw02.KeysFewest', WHERE WHAT IT READS IS OF BULK AT MOST 1048576: true; the input reads as it did. -/
def keysFewestUptoRow : OpenClaim := { program := "ytdacabdocbhkdaagreat", sum := "83390f3ec3909ef78f1068b1398d926be620fbc516e047d65477bc907f9091a2", func := "bijou/bijoulaw02.KeysFewest", spec := "keysFewest", unfollowed := true, recurses := true, apart := false, narrowed := true }
def KeysFewestUptoSaid : Prop := keysFewestUptoRow.holds Tryz.pinned (OpenSpec.upto keysFewestSpec)

/-- 'bijoulaw02.KeysMinutes', WHERE WHAT IT READS IS OF BULK AT MOST 1048576: true; the input reads as it did. -/
def keysMinutesUptoRow : OpenClaim := { program := "ytdacabdocbhkdaagreat", sum := "83390f3ec3909ef78f1068b1398d926be620fbc516e047d65477bc907f9091a2", func := "bijou/bijoulaw02.KeysMinutes", spec := "keysMinutes", unfollowed := true, recurses := true, apart := false, narrowed := true }
def KeysMinutesUptoSaid : Prop := keysMinutesUptoRow.holds Tryz.pinned (OpenSpec.upto keysMinutesSpec)

/-- 'bijoulaw02.KeysMore', WHERE WHAT IT READS IS OF BULK AT MOST 1048576: true; the input reads as it did. -/
def keysMoreUptoRow : OpenClaim := { program := "ytdacabdocbhkdaagreat", sum := "83390f3ec3909ef78f1068b1398d926be620fbc516e047d65477bc907f9091a2", func := "bijou/bijoulaw02.KeysMore", spec := "keysMore", unfollowed := true, recurses := true, apart := false, narrowed := true }
def KeysMoreUptoSaid : Prop := keysMoreUptoRow.holds Tryz.pinned (OpenSpec.upto keysMoreSpec)

/-- 'bijoulaw02.KeysLoad', WHERE WHAT IT READS IS OF BULK AT MOST 1048576: true; the input reads as it did. -/
def keysLoadUptoRow : OpenClaim := { program := "ytdacabdocbhkdaagreat", sum := "83390f3ec3909ef78f1068b1398d926be620fbc516e047d65477bc907f9091a2", func := "bijou/bijoulaw02.KeysLoad", spec := "keysLoad", unfollowed := true, recurses := true, apart := false, narrowed := true }
def KeysLoadUptoSaid : Prop := keysLoadUptoRow.holds Tryz.pinned (OpenSpec.upto keysLoadSpec)

/-- 'bijoulaw02.KeysDevice', WHERE WHAT IT READS IS OF BULK AT MOST 1048576: true; the input reads as it did. -/
def keysDeviceUptoRow : OpenClaim := { program := "ytdacabdocbhkdaagreat", sum := "83390f3ec3909ef78f1068b1398d926be620fbc516e047d65477bc907f9091a2", func := "bijou/bijoulaw02.KeysDevice", spec := "keysDevice", unfollowed := true, recurses := true, apart := false, narrowed := true }
def KeysDeviceUptoSaid : Prop := keysDeviceUptoRow.holds Tryz.pinned (OpenSpec.upto keysDeviceSpec)

/-- 'bijoulaw02.KeysOpen', WHERE WHAT IT READS IS OF BULK AT MOST 1048576: true; the input reads as it did. -/
def keysOpenUptoRow : OpenClaim := { program := "ytdacabdocbhkdaagreat", sum := "83390f3ec3909ef78f1068b1398d926be620fbc516e047d65477bc907f9091a2", func := "bijou/bijoulaw02.KeysOpen", spec := "keysOpen", unfollowed := true, recurses := true, apart := false, narrowed := true }
def KeysOpenUptoSaid : Prop := keysOpenUptoRow.holds Tryz.pinned (OpenSpec.upto keysOpenSpec)

/-- 'bijoulaw02.KeysNext', WHERE WHAT IT READS IS OF BULK AT MOST 1048576: true; the input reads as it did. -/
def keysNextUptoRow : OpenClaim := { program := "ytdacabdocbhkdaagreat", sum := "83390f3ec3909ef78f1068b1398d926be620fbc516e047d65477bc907f9091a2", func := "bijou/bijoulaw02.KeysNext", spec := "keysNext", unfollowed := true, recurses := true, apart := false, narrowed := true }
def KeysNextUptoSaid : Prop := keysNextUptoRow.holds Tryz.pinned (OpenSpec.upto keysNextSpec)

/-- 'bijoulaw02.KeysWhy', WHERE WHAT IT READS IS OF BULK AT MOST 1048576: true; the input reads as it did. -/
def keysWhyUptoRow : OpenClaim := { program := "ytdacabdocbhkdaagreat", sum := "83390f3ec3909ef78f1068b1398d926be620fbc516e047d65477bc907f9091a2", func := "bijou/bijoulaw02.KeysWhy", spec := "keysWhy", unfollowed := true, recurses := true, apart := false, narrowed := true }
def KeysWhyUptoSaid : Prop := keysWhyUptoRow.holds Tryz.pinned (OpenSpec.upto keysWhySpec)

/-- 'bijoulaw02.KeysFind', WHERE WHAT IT READS IS OF BULK AT MOST 1048576: true; the input reads as it did. -/
def keysFindUptoRow : OpenClaim := { program := "ytdacabdocbhkdaagreat", sum := "83390f3ec3909ef78f1068b1398d926be620fbc516e047d65477bc907f9091a2", func := "bijou/bijoulaw02.KeysFind", spec := "keysFind", unfollowed := true, recurses := true, apart := false, narrowed := true }
def KeysFindUptoSaid : Prop := keysFindUptoRow.holds Tryz.pinned (OpenSpec.upto keysFindSpec)

/-- 'bijoulaw02.KeysOrder', WHERE WHAT IT READS IS OF BULK AT MOST 1048576: true; the input reads as it did. -/
def keysOrderUptoRow : OpenClaim := { program := "ytdacabdocbhkdaagreat", sum := "83390f3ec3909ef78f1068b1398d926be620fbc516e047d65477bc907f9091a2", func := "bijou/bijoulaw02.KeysOrder", spec := "keysOrder", unfollowed := true, recurses := true, apart := false, narrowed := true }
def KeysOrderUptoSaid : Prop := keysOrderUptoRow.holds Tryz.pinned (OpenSpec.upto keysOrderSpec)

/-- 'bijoulaw02.KeysMerge', WHERE WHAT IT READS IS OF BULK AT MOST 1048576: true; the input reads as it did. -/
def keysMergeUptoRow : OpenClaim := { program := "ytdacabdocbhkdaagreat", sum := "83390f3ec3909ef78f1068b1398d926be620fbc516e047d65477bc907f9091a2", func := "bijou/bijoulaw02.KeysMerge", spec := "keysMerge", unfollowed := true, recurses := true, apart := false, narrowed := true }
def KeysMergeUptoSaid : Prop := keysMergeUptoRow.holds Tryz.pinned (OpenSpec.upto keysMergeSpec)

end Rows
end Go.Proofs.YtdacabdocbhkdaaGreat
