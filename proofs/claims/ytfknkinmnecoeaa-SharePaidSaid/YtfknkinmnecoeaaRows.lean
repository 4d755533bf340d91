/-
  No cell of these rows narrows 'for every input' (looked for: loops, veiled, ifaces, maps, wideKeys, modest, calm, conditions, laid).
  DERIVED. THE GIVEN ROWS OF THIS SEAT. 11 by the template 'for every input the law returns true; each argument reads behind the call as it read before'; 0 by the template 'total and deterministic' (their statements: YtfknkinmnecoeaaTotals.lean).
  GIVEN WITH THE SEED: the statements are not yours to turn. If you find one false, say at which input.
  Laid BY PROGRAM, IN A SANDBOX (cutbox-rows.mjs): the forced cells as the released guide's own fill.sh prints them over the translation 6b9a24b304439ccb… (all of the seat's roots in one cut). By AI agents, Wed Nov 11 2026. No macro, syntax, notation, axiom, sorry.
-/
import Derived.Test.YtfknkinmnecoeaaChecked
import GoSem.Claim
import GoSem.ClaimJoined
import GoSem.ClaimMapViews
import Derived.JoinedTies
import Derived.KernelRfl
namespace Go.Proofs.Ytfknkinmnecoeaa
/- THE CELL 'sum', in the pinned program and in every row, IS THE sha256 OF THE DUMP (.gsa) THAT YtfknkinmnecoeaaProg.lean LOADS. Nothing in Lean hashes anything: it is a label: what it is worth is what the hold of that sum in a sandbox is worth. -/
noncomputable def Try.pinned : Pinned := { name := "ytfknkinmnecoeaa", sum := "6b9a24b304439ccbb3df6420cbd7459e62d59b68eee74b5e50a33c2b992b2078", checked := Try.checked }
namespace Rows
def none {H : Type} : Left H := { results := [], args := [] }

/-- 'bijoulaw08.ShareRule': WHATEVER THE INPUT: true; the input reads as it did. -/
def shareRuleSpec : ChangeSpec := { name := "shareRule", fn := fun _ => fun
  | [d1, d2] => { results := [.lit (.bool true)], args := [d1, d2] }
  | _ => none }
def shareRuleRow : OpenClaim := { program := "ytfknkinmnecoeaa", sum := "6b9a24b304439ccbb3df6420cbd7459e62d59b68eee74b5e50a33c2b992b2078", func := "bijou/bijoulaw08.ShareRule", spec := "shareRule", unfollowed := true, recurses := true, plainKeys := false, apart := false }
def ShareRuleSaid : Prop := shareRuleRow.holds Try.pinned (OpenSpec.ofChange shareRuleSpec)

/-- ITS FALSE NEIGHBOUR: 'it returns false'. Refute it at one input. -/
def shareRuleWrong : ChangeSpec := { name := "shareRule", fn := fun _ => fun
  | [d1, d2] => { results := [.lit (.bool false)], args := [d1, d2] }
  | _ => none }
def ShareRuleWrongFalsely : Prop := shareRuleRow.holds Try.pinned (OpenSpec.ofChange shareRuleWrong)

/-- 'bijoulaw08.ShareMore': WHATEVER THE INPUT: true; the input reads as it did. -/
def shareMoreSpec : ChangeSpec := { name := "shareMore", fn := fun _ => fun
  | [d1, d2] => { results := [.lit (.bool true)], args := [d1, d2] }
  | _ => none }
def shareMoreRow : OpenClaim := { program := "ytfknkinmnecoeaa", sum := "6b9a24b304439ccbb3df6420cbd7459e62d59b68eee74b5e50a33c2b992b2078", func := "bijou/bijoulaw08.ShareMore", spec := "shareMore", unfollowed := true, recurses := true, plainKeys := false, apart := false }
def ShareMoreSaid : Prop := shareMoreRow.holds Try.pinned (OpenSpec.ofChange shareMoreSpec)

/-- ITS FALSE NEIGHBOUR: 'it returns false'. Refute it at one input. -/
def shareMoreWrong : ChangeSpec := { name := "shareMore", fn := fun _ => fun
  | [d1, d2] => { results := [.lit (.bool false)], args := [d1, d2] }
  | _ => none }
def ShareMoreWrongFalsely : Prop := shareMoreRow.holds Try.pinned (OpenSpec.ofChange shareMoreWrong)

/-- 'bijoulaw08.ShareDue': WHATEVER THE INPUT: true; the input reads as it did. -/
def shareDueSpec : ChangeSpec := { name := "shareDue", fn := fun _ => fun
  | [d1, d2] => { results := [.lit (.bool true)], args := [d1, d2] }
  | _ => none }
def shareDueRow : OpenClaim := { program := "ytfknkinmnecoeaa", sum := "6b9a24b304439ccbb3df6420cbd7459e62d59b68eee74b5e50a33c2b992b2078", func := "bijou/bijoulaw08.ShareDue", spec := "shareDue", unfollowed := true, recurses := true, plainKeys := false, apart := false }
def ShareDueSaid : Prop := shareDueRow.holds Try.pinned (OpenSpec.ofChange shareDueSpec)

/-- ITS FALSE NEIGHBOUR: 'it returns false'. Refute it at one input. -/
def shareDueWrong : ChangeSpec := { name := "shareDue", fn := fun _ => fun
  | [d1, d2] => { results := [.lit (.bool false)], args := [d1, d2] }
  | _ => none }
def ShareDueWrongFalsely : Prop := shareDueRow.holds Try.pinned (OpenSpec.ofChange shareDueWrong)

/-- 'bijoulaw08.ShareReach': WHATEVER THE INPUT: true; the input reads as it did. -/
def shareReachSpec : ChangeSpec := { name := "shareReach", fn := fun _ => fun
  | [d1, d2] => { results := [.lit (.bool true)], args := [d1, d2] }
  | _ => none }
def shareReachRow : OpenClaim := { program := "ytfknkinmnecoeaa", sum := "6b9a24b304439ccbb3df6420cbd7459e62d59b68eee74b5e50a33c2b992b2078", func := "bijou/bijoulaw08.ShareReach", spec := "shareReach", unfollowed := true, recurses := true, plainKeys := false, apart := false }
def ShareReachSaid : Prop := shareReachRow.holds Try.pinned (OpenSpec.ofChange shareReachSpec)

/-- ITS FALSE NEIGHBOUR: 'it returns false'. Refute it at one input. -/
def shareReachWrong : ChangeSpec := { name := "shareReach", fn := fun _ => fun
  | [d1, d2] => { results := [.lit (.bool false)], args := [d1, d2] }
  | _ => none }
def ShareReachWrongFalsely : Prop := shareReachRow.holds Try.pinned (OpenSpec.ofChange shareReachWrong)

/-- 'bijoulaw08.ShareReaches': WHATEVER THE INPUT: true; the input reads as it did. -/
def shareReachesSpec : ChangeSpec := { name := "shareReaches", fn := fun _ => fun
  | [d1, d2] => { results := [.lit (.bool true)], args := [d1, d2] }
  | _ => none }
def shareReachesRow : OpenClaim := { program := "ytfknkinmnecoeaa", sum := "6b9a24b304439ccbb3df6420cbd7459e62d59b68eee74b5e50a33c2b992b2078", func := "bijou/bijoulaw08.ShareReaches", spec := "shareReaches", unfollowed := true, recurses := true, plainKeys := false, apart := false }
def ShareReachesSaid : Prop := shareReachesRow.holds Try.pinned (OpenSpec.ofChange shareReachesSpec)

/-- ITS FALSE NEIGHBOUR: 'it returns false'. Refute it at one input. -/
def shareReachesWrong : ChangeSpec := { name := "shareReaches", fn := fun _ => fun
  | [d1, d2] => { results := [.lit (.bool false)], args := [d1, d2] }
  | _ => none }
def ShareReachesWrongFalsely : Prop := shareReachesRow.holds Try.pinned (OpenSpec.ofChange shareReachesWrong)

/-- 'bijoulaw08.ShareCents': WHATEVER THE INPUT: true; the input reads as it did. -/
def shareCentsSpec : ChangeSpec := { name := "shareCents", fn := fun _ => fun
  | [d1, d2] => { results := [.lit (.bool true)], args := [d1, d2] }
  | _ => none }
def shareCentsRow : OpenClaim := { program := "ytfknkinmnecoeaa", sum := "6b9a24b304439ccbb3df6420cbd7459e62d59b68eee74b5e50a33c2b992b2078", func := "bijou/bijoulaw08.ShareCents", spec := "shareCents", unfollowed := true, recurses := true, plainKeys := false, apart := false }
def ShareCentsSaid : Prop := shareCentsRow.holds Try.pinned (OpenSpec.ofChange shareCentsSpec)

/-- ITS FALSE NEIGHBOUR: 'it returns false'. Refute it at one input. -/
def shareCentsWrong : ChangeSpec := { name := "shareCents", fn := fun _ => fun
  | [d1, d2] => { results := [.lit (.bool false)], args := [d1, d2] }
  | _ => none }
def ShareCentsWrongFalsely : Prop := shareCentsRow.holds Try.pinned (OpenSpec.ofChange shareCentsWrong)

/-- 'bijoulaw08.ShareWeeks': WHATEVER THE INPUT: true; the input reads as it did. -/
def shareWeeksSpec : ChangeSpec := { name := "shareWeeks", fn := fun _ => fun
  | [d1, d2] => { results := [.lit (.bool true)], args := [d1, d2] }
  | _ => none }
def shareWeeksRow : OpenClaim := { program := "ytfknkinmnecoeaa", sum := "6b9a24b304439ccbb3df6420cbd7459e62d59b68eee74b5e50a33c2b992b2078", func := "bijou/bijoulaw08.ShareWeeks", spec := "shareWeeks", unfollowed := true, recurses := true, plainKeys := false, apart := false }
def ShareWeeksSaid : Prop := shareWeeksRow.holds Try.pinned (OpenSpec.ofChange shareWeeksSpec)

/-- ITS FALSE NEIGHBOUR: 'it returns false'. Refute it at one input. -/
def shareWeeksWrong : ChangeSpec := { name := "shareWeeks", fn := fun _ => fun
  | [d1, d2] => { results := [.lit (.bool false)], args := [d1, d2] }
  | _ => none }
def ShareWeeksWrongFalsely : Prop := shareWeeksRow.holds Try.pinned (OpenSpec.ofChange shareWeeksWrong)

/-- 'bijoulaw08.ShareOrder': WHATEVER THE INPUT: true; the input reads as it did. -/
def shareOrderSpec : ChangeSpec := { name := "shareOrder", fn := fun _ => fun
  | [d1, d2, d3] => { results := [.lit (.bool true)], args := [d1, d2, d3] }
  | _ => none }
def shareOrderRow : OpenClaim := { program := "ytfknkinmnecoeaa", sum := "6b9a24b304439ccbb3df6420cbd7459e62d59b68eee74b5e50a33c2b992b2078", func := "bijou/bijoulaw08.ShareOrder", spec := "shareOrder", unfollowed := true, recurses := true, plainKeys := false, apart := false }
def ShareOrderSaid : Prop := shareOrderRow.holds Try.pinned (OpenSpec.ofChange shareOrderSpec)

/-- ITS FALSE NEIGHBOUR: 'it returns false'. Refute it at one input. -/
def shareOrderWrong : ChangeSpec := { name := "shareOrder", fn := fun _ => fun
  | [d1, d2, d3] => { results := [.lit (.bool false)], args := [d1, d2, d3] }
  | _ => none }
def ShareOrderWrongFalsely : Prop := shareOrderRow.holds Try.pinned (OpenSpec.ofChange shareOrderWrong)

/-- 'bijoulaw08.ShareMerges': WHATEVER THE INPUT: true; the input reads as it did. -/
def shareMergesSpec : ChangeSpec := { name := "shareMerges", fn := fun _ => fun
  | [d1, d2] => { results := [.lit (.bool true)], args := [d1, d2] }
  | _ => none }
def shareMergesRow : OpenClaim := { program := "ytfknkinmnecoeaa", sum := "6b9a24b304439ccbb3df6420cbd7459e62d59b68eee74b5e50a33c2b992b2078", func := "bijou/bijoulaw08.ShareMerges", spec := "shareMerges", unfollowed := true, recurses := true, plainKeys := false, apart := false }
def ShareMergesSaid : Prop := shareMergesRow.holds Try.pinned (OpenSpec.ofChange shareMergesSpec)

/-- ITS FALSE NEIGHBOUR: 'it returns false'. Refute it at one input. -/
def shareMergesWrong : ChangeSpec := { name := "shareMerges", fn := fun _ => fun
  | [d1, d2] => { results := [.lit (.bool false)], args := [d1, d2] }
  | _ => none }
def ShareMergesWrongFalsely : Prop := shareMergesRow.holds Try.pinned (OpenSpec.ofChange shareMergesWrong)

/-- 'bijoulaw08.SharePaid': WHATEVER THE INPUT: true; the input reads as it did. -/
def sharePaidSpec : ChangeSpec := { name := "sharePaid", fn := fun _ => fun
  | [d1, d2, d3] => { results := [.lit (.bool true)], args := [d1, d2, d3] }
  | _ => none }
def sharePaidRow : OpenClaim := { program := "ytfknkinmnecoeaa", sum := "6b9a24b304439ccbb3df6420cbd7459e62d59b68eee74b5e50a33c2b992b2078", func := "bijou/bijoulaw08.SharePaid", spec := "sharePaid", unfollowed := true, recurses := true, plainKeys := false, apart := false }
def SharePaidSaid : Prop := sharePaidRow.holds Try.pinned (OpenSpec.ofChange sharePaidSpec)

/-- ITS FALSE NEIGHBOUR: 'it returns false'. Refute it at one input. -/
def sharePaidWrong : ChangeSpec := { name := "sharePaid", fn := fun _ => fun
  | [d1, d2, d3] => { results := [.lit (.bool false)], args := [d1, d2, d3] }
  | _ => none }
def SharePaidWrongFalsely : Prop := sharePaidRow.holds Try.pinned (OpenSpec.ofChange sharePaidWrong)

/-- 'bijoulaw08.SharePays': WHATEVER THE INPUT: true; the input reads as it did. -/
def sharePaysSpec : ChangeSpec := { name := "sharePays", fn := fun _ => fun
  | [d1, d2, d3] => { results := [.lit (.bool true)], args := [d1, d2, d3] }
  | _ => none }
def sharePaysRow : OpenClaim := { program := "ytfknkinmnecoeaa", sum := "6b9a24b304439ccbb3df6420cbd7459e62d59b68eee74b5e50a33c2b992b2078", func := "bijou/bijoulaw08.SharePays", spec := "sharePays", unfollowed := true, recurses := true, plainKeys := false, apart := false }
def SharePaysSaid : Prop := sharePaysRow.holds Try.pinned (OpenSpec.ofChange sharePaysSpec)

/-- ITS FALSE NEIGHBOUR: 'it returns false'. Refute it at one input. -/
def sharePaysWrong : ChangeSpec := { name := "sharePays", fn := fun _ => fun
  | [d1, d2, d3] => { results := [.lit (.bool false)], args := [d1, d2, d3] }
  | _ => none }
def SharePaysWrongFalsely : Prop := sharePaysRow.holds Try.pinned (OpenSpec.ofChange sharePaysWrong)

/- THE SECOND FORM. 'bulk': how many values and letters a reading holds, each counted each time it is reached (what is shared counts as often as it is met; a slice's spare places count too). A statement '..UptoSaid' is the law's where the arguments, and the package variables that the reading takes, are together of bulk at most 1048576: NARROWER than '..Said'. Prove '..Said' where nothing that the law and all that it calls make is longer than what came in: it says more and counts as full. Else prove '..UptoSaid'. A law counts once. -/
mutual
def uptoBulk {H : Type} : DataW H → Nat
  | .lit (.string bytes) => bytes.length + 1
  | .lit _ => 1
  | .nil => 1
  | .ptr d => uptoBulk d + 1
  | .slice elems spare => uptoBulkAll elems + uptoBulkAll spare + 1
  | .agg parts => uptoBulkAll parts + 1
  | .iface _ d => uptoBulk d + 1
  | .map entries => uptoBulkEntries entries + 1
  | .held _ => 1
def uptoBulkAll {H : Type} : List (DataW H) → Nat
  | [] => 0
  | d :: r => uptoBulk d + uptoBulkAll r
def uptoBulkEntries {H : Type} : List (Lit × DataW H) → Nat
  | [] => 0
  | x :: r => uptoBulkEntry x + uptoBulkEntries r
def uptoBulkEntry {H : Type} : Lit × DataW H → Nat
  | (.string bytes, d) => bytes.length + uptoBulk d + 1
  | (_, d) => uptoBulk d + 1
 end
def uptoSmall : (H : Type) → List (DataW H) → Bool := fun _ ds => decide (uptoBulkAll ds ≤ 1048576)
def OpenSpec.upto (s : _root_.Go.ChangeSpec) : _root_.Go.OpenSpec := { _root_.Go.OpenSpec.ofChange s with cond := some uptoSmall }

/-- 'bijoulaw08.ShareRule', WHERE WHAT IT READS IS OF BULK AT MOST 1048576: true; the input reads as it did. -/
def shareRuleUptoRow : OpenClaim := { program := "ytfknkinmnecoeaa", sum := "6b9a24b304439ccbb3df6420cbd7459e62d59b68eee74b5e50a33c2b992b2078", func := "bijou/bijoulaw08.ShareRule", spec := "shareRule", unfollowed := true, recurses := true, plainKeys := false, apart := false, narrowed := true }
def ShareRuleUptoSaid : Prop := shareRuleUptoRow.holds Try.pinned (OpenSpec.upto shareRuleSpec)

/-- 'bijoulaw08.ShareMore', WHERE WHAT IT READS IS OF BULK AT MOST 1048576: true; the input reads as it did. -/
def shareMoreUptoRow : OpenClaim := { program := "ytfknkinmnecoeaa", sum := "6b9a24b304439ccbb3df6420cbd7459e62d59b68eee74b5e50a33c2b992b2078", func := "bijou/bijoulaw08.ShareMore", spec := "shareMore", unfollowed := true, recurses := true, plainKeys := false, apart := false, narrowed := true }
def ShareMoreUptoSaid : Prop := shareMoreUptoRow.holds Try.pinned (OpenSpec.upto shareMoreSpec)

/-- 'bijoulaw08.ShareDue', WHERE WHAT IT READS IS OF BULK AT MOST 1048576: true; the input reads as it did. -/
def shareDueUptoRow : OpenClaim := { program := "ytfknkinmnecoeaa", sum := "6b9a24b304439ccbb3df6420cbd7459e62d59b68eee74b5e50a33c2b992b2078", func := "bijou/bijoulaw08.ShareDue", spec := "shareDue", unfollowed := true, recurses := true, plainKeys := false, apart := false, narrowed := true }
def ShareDueUptoSaid : Prop := shareDueUptoRow.holds Try.pinned (OpenSpec.upto shareDueSpec)

/-- 'bijoulaw08.ShareReach', WHERE WHAT IT READS IS OF BULK AT MOST 1048576: true; the input reads as it did. -/
def shareReachUptoRow : OpenClaim := { program := "ytfknkinmnecoeaa", sum := "6b9a24b304439ccbb3df6420cbd7459e62d59b68eee74b5e50a33c2b992b2078", func := "bijou/bijoulaw08.ShareReach", spec := "shareReach", unfollowed := true, recurses := true, plainKeys := false, apart := false, narrowed := true }
def ShareReachUptoSaid : Prop := shareReachUptoRow.holds Try.pinned (OpenSpec.upto shareReachSpec)

/-- 'bijoulaw08.ShareReaches', WHERE WHAT IT READS IS OF BULK AT MOST 1048576: true; the input reads as it did. -/
def shareReachesUptoRow : OpenClaim := { program := "ytfknkinmnecoeaa", sum := "6b9a24b304439ccbb3df6420cbd7459e62d59b68eee74b5e50a33c2b992b2078", func := "bijou/bijoulaw08.ShareReaches", spec := "shareReaches", unfollowed := true, recurses := true, plainKeys := false, apart := false, narrowed := true }
def ShareReachesUptoSaid : Prop := shareReachesUptoRow.holds Try.pinned (OpenSpec.upto shareReachesSpec)

/-- 'bijoulaw08.ShareCents', WHERE WHAT IT READS IS OF BULK AT MOST 1048576: true; the input reads as it did. -/
def shareCentsUptoRow : OpenClaim := { program := "ytfknkinmnecoeaa", sum := "6b9a24b304439ccbb3df6420cbd7459e62d59b68eee74b5e50a33c2b992b2078", func := "bijou/bijoulaw08.ShareCents", spec := "shareCents", unfollowed := true, recurses := true, plainKeys := false, apart := false, narrowed := true }
def ShareCentsUptoSaid : Prop := shareCentsUptoRow.holds Try.pinned (OpenSpec.upto shareCentsSpec)

/-- 'bijoulaw08.ShareWeeks', WHERE WHAT IT READS IS OF BULK AT MOST 1048576: true; the input reads as it did. -/
def shareWeeksUptoRow : OpenClaim := { program := "ytfknkinmnecoeaa", sum := "6b9a24b304439ccbb3df6420cbd7459e62d59b68eee74b5e50a33c2b992b2078", func := "bijou/bijoulaw08.ShareWeeks", spec := "shareWeeks", unfollowed := true, recurses := true, plainKeys := false, apart := false, narrowed := true }
def ShareWeeksUptoSaid : Prop := shareWeeksUptoRow.holds Try.pinned (OpenSpec.upto shareWeeksSpec)

/-- 'bijoulaw08.ShareOrder', WHERE WHAT IT READS IS OF BULK AT MOST 1048576: true; the input reads as it did. -/
def shareOrderUptoRow : OpenClaim := { program := "ytfknkinmnecoeaa", sum := "6b9a24b304439ccbb3df6420cbd7459e62d59b68eee74b5e50a33c2b992b2078", func := "bijou/bijoulaw08.ShareOrder", spec := "shareOrder", unfollowed := true, recurses := true, plainKeys := false, apart := false, narrowed := true }
def ShareOrderUptoSaid : Prop := shareOrderUptoRow.holds Try.pinned (OpenSpec.upto shareOrderSpec)

/-- 'bijoulaw08.ShareMerges', WHERE WHAT IT READS IS OF BULK AT MOST 1048576: true; the input reads as it did. -/
def shareMergesUptoRow : OpenClaim := { program := "ytfknkinmnecoeaa", sum := "6b9a24b304439ccbb3df6420cbd7459e62d59b68eee74b5e50a33c2b992b2078", func := "bijou/bijoulaw08.ShareMerges", spec := "shareMerges", unfollowed := true, recurses := true, plainKeys := false, apart := false, narrowed := true }
def ShareMergesUptoSaid : Prop := shareMergesUptoRow.holds Try.pinned (OpenSpec.upto shareMergesSpec)

/-- 'bijoulaw08.SharePaid', WHERE WHAT IT READS IS OF BULK AT MOST 1048576: true; the input reads as it did. -/
def sharePaidUptoRow : OpenClaim := { program := "ytfknkinmnecoeaa", sum := "6b9a24b304439ccbb3df6420cbd7459e62d59b68eee74b5e50a33c2b992b2078", func := "bijou/bijoulaw08.SharePaid", spec := "sharePaid", unfollowed := true, recurses := true, plainKeys := false, apart := false, narrowed := true }
def SharePaidUptoSaid : Prop := sharePaidUptoRow.holds Try.pinned (OpenSpec.upto sharePaidSpec)

/-- 'bijoulaw08.SharePays', WHERE WHAT IT READS IS OF BULK AT MOST 1048576: true; the input reads as it did. -/
def sharePaysUptoRow : OpenClaim := { program := "ytfknkinmnecoeaa", sum := "6b9a24b304439ccbb3df6420cbd7459e62d59b68eee74b5e50a33c2b992b2078", func := "bijou/bijoulaw08.SharePays", spec := "sharePays", unfollowed := true, recurses := true, plainKeys := false, apart := false, narrowed := true }
def SharePaysUptoSaid : Prop := sharePaysUptoRow.holds Try.pinned (OpenSpec.upto sharePaysSpec)

end Rows
end Go.Proofs.Ytfknkinmnecoeaa
