/-
  No cell of these rows narrows 'for every input' (looked for: loops, veiled, ifaces, maps, wideKeys, modest, calm, conditions, laid).
  DERIVED. THE GIVEN ROWS OF THIS SEAT. 11 by the template 'for every input the law returns true; each argument reads behind the call as it read before'; 0 by the template 'total and deterministic' (their statements: YtjjapdagllclkaaGreatTotals.lean).
  GIVEN WITH THE SEED: the statements are not yours to turn. If you find one false, say at which input.
  Laid BY PROGRAM, IN A SANDBOX (cutbox-rows.mjs): the forced cells as the released guide's own fill.sh prints them over the translation 80c414f457ca33b2… (all of the seat's roots in one cut). By AI agents, Wed Nov 11 2026. No macro, syntax, notation, axiom, sorry.
-/
import Derived.Test.YtjjapdagllclkaaGreatChecked
import GoSem.Claim
import GoSem.ClaimJoined
import GoSem.ClaimMapViews
import Derived.JoinedTies
import Derived.KernelRfl
namespace Go.Proofs.YtjjapdagllclkaaGreat
/- THE CELL 'sum', in the pinned program and in every row, IS THE sha256 OF THE DUMP (.gsa) THAT YtjjapdagllclkaaGreatProg.lean LOADS. Nothing in Lean hashes anything: it is a label: what it is worth is what the hold of that sum in a sandbox is worth. -/
noncomputable def Tryz.pinned : Pinned := { name := "ytjjapdagllclkaagreat", sum := "80c414f457ca33b201a2f68f12298c52f4b13a65edf69ad53bc626b813b49527", checked := Tryz.checked }
namespace Rows
def none {H : Type} : Left H := { results := [], args := [] }

/-- 'testlinerlaw10.FlowLates': WHATEVER THE INPUT: true; the input reads as it did. -/
def flowLatesSpec : ChangeSpec := { name := "flowLates", fn := fun _ => fun
  | [d1, d2, d3] => { results := [.lit (.bool true)], args := [d1, d2, d3] }
  | _ => none }
def flowLatesRow : OpenClaim := { program := "ytjjapdagllclkaagreat", sum := "80c414f457ca33b201a2f68f12298c52f4b13a65edf69ad53bc626b813b49527", func := "testliner/testlinerlaw10.FlowLates", spec := "flowLates", unfollowed := true, recurses := true, plainKeys := false, apart := false }
def FlowLatesSaid : Prop := flowLatesRow.holds Tryz.pinned (OpenSpec.ofChange flowLatesSpec)

/-- ITS FALSE NEIGHBOUR: 'it returns false'. Refute it at one input. -/
def flowLatesWrong : ChangeSpec := { name := "flowLates", fn := fun _ => fun
  | [d1, d2, d3] => { results := [.lit (.bool false)], args := [d1, d2, d3] }
  | _ => none }
def FlowLatesWrongFalsely : Prop := flowLatesRow.holds Tryz.pinned (OpenSpec.ofChange flowLatesWrong)

/-- 'testlinerlaw10.FlowBests': WHATEVER THE INPUT: true; the input reads as it did. -/
def flowBestsSpec : ChangeSpec := { name := "flowBests", fn := fun _ => fun
  | [d1, d2] => { results := [.lit (.bool true)], args := [d1, d2] }
  | _ => none }
def flowBestsRow : OpenClaim := { program := "ytjjapdagllclkaagreat", sum := "80c414f457ca33b201a2f68f12298c52f4b13a65edf69ad53bc626b813b49527", func := "testliner/testlinerlaw10.FlowBests", spec := "flowBests", unfollowed := true, recurses := true, plainKeys := false, apart := false }
def FlowBestsSaid : Prop := flowBestsRow.holds Tryz.pinned (OpenSpec.ofChange flowBestsSpec)

/-- ITS FALSE NEIGHBOUR: 'it returns false'. Refute it at one input. -/
def flowBestsWrong : ChangeSpec := { name := "flowBests", fn := fun _ => fun
  | [d1, d2] => { results := [.lit (.bool false)], args := [d1, d2] }
  | _ => none }
def FlowBestsWrongFalsely : Prop := flowBestsRow.holds Tryz.pinned (OpenSpec.ofChange flowBestsWrong)

/-- 'testlinerlaw10.FlowNevers': WHATEVER THE INPUT: true; the input reads as it did. -/
def flowNeversSpec : ChangeSpec := { name := "flowNevers", fn := fun _ => fun
  | [d1, d2] => { results := [.lit (.bool true)], args := [d1, d2] }
  | _ => none }
def flowNeversRow : OpenClaim := { program := "ytjjapdagllclkaagreat", sum := "80c414f457ca33b201a2f68f12298c52f4b13a65edf69ad53bc626b813b49527", func := "testliner/testlinerlaw10.FlowNevers", spec := "flowNevers", unfollowed := true, recurses := true, plainKeys := false, apart := false }
def FlowNeversSaid : Prop := flowNeversRow.holds Tryz.pinned (OpenSpec.ofChange flowNeversSpec)

/-- ITS FALSE NEIGHBOUR: 'it returns false'. Refute it at one input. -/
def flowNeversWrong : ChangeSpec := { name := "flowNevers", fn := fun _ => fun
  | [d1, d2] => { results := [.lit (.bool false)], args := [d1, d2] }
  | _ => none }
def FlowNeversWrongFalsely : Prop := flowNeversRow.holds Tryz.pinned (OpenSpec.ofChange flowNeversWrong)

/-- 'testlinerlaw10.FlowBreaks': WHATEVER THE INPUT: true; the input reads as it did. -/
def flowBreaksSpec : ChangeSpec := { name := "flowBreaks", fn := fun _ => fun
  | [d1, d2, d3] => { results := [.lit (.bool true)], args := [d1, d2, d3] }
  | _ => none }
def flowBreaksRow : OpenClaim := { program := "ytjjapdagllclkaagreat", sum := "80c414f457ca33b201a2f68f12298c52f4b13a65edf69ad53bc626b813b49527", func := "testliner/testlinerlaw10.FlowBreaks", spec := "flowBreaks", unfollowed := true, recurses := true, plainKeys := false, apart := false }
def FlowBreaksSaid : Prop := flowBreaksRow.holds Tryz.pinned (OpenSpec.ofChange flowBreaksSpec)

/-- ITS FALSE NEIGHBOUR: 'it returns false'. Refute it at one input. -/
def flowBreaksWrong : ChangeSpec := { name := "flowBreaks", fn := fun _ => fun
  | [d1, d2, d3] => { results := [.lit (.bool false)], args := [d1, d2, d3] }
  | _ => none }
def FlowBreaksWrongFalsely : Prop := flowBreaksRow.holds Tryz.pinned (OpenSpec.ofChange flowBreaksWrong)

/-- 'testlinerlaw10.FlowSlacks': WHATEVER THE INPUT: true; the input reads as it did. -/
def flowSlacksSpec : ChangeSpec := { name := "flowSlacks", fn := fun _ => fun
  | [d1, d2, d3] => { results := [.lit (.bool true)], args := [d1, d2, d3] }
  | _ => none }
def flowSlacksRow : OpenClaim := { program := "ytjjapdagllclkaagreat", sum := "80c414f457ca33b201a2f68f12298c52f4b13a65edf69ad53bc626b813b49527", func := "testliner/testlinerlaw10.FlowSlacks", spec := "flowSlacks", unfollowed := true, recurses := true, plainKeys := false, apart := false }
def FlowSlacksSaid : Prop := flowSlacksRow.holds Tryz.pinned (OpenSpec.ofChange flowSlacksSpec)

/-- ITS FALSE NEIGHBOUR: 'it returns false'. Refute it at one input. -/
def flowSlacksWrong : ChangeSpec := { name := "flowSlacks", fn := fun _ => fun
  | [d1, d2, d3] => { results := [.lit (.bool false)], args := [d1, d2, d3] }
  | _ => none }
def FlowSlacksWrongFalsely : Prop := flowSlacksRow.holds Tryz.pinned (OpenSpec.ofChange flowSlacksWrong)

/-- 'testlinerlaw10.FlowKept': WHATEVER THE INPUT: true; the input reads as it did. -/
def flowKeptSpec : ChangeSpec := { name := "flowKept", fn := fun _ => fun
  | [d1, d2] => { results := [.lit (.bool true)], args := [d1, d2] }
  | _ => none }
def flowKeptRow : OpenClaim := { program := "ytjjapdagllclkaagreat", sum := "80c414f457ca33b201a2f68f12298c52f4b13a65edf69ad53bc626b813b49527", func := "testliner/testlinerlaw10.FlowKept", spec := "flowKept", unfollowed := true, recurses := true, plainKeys := false, apart := false }
def FlowKeptSaid : Prop := flowKeptRow.holds Tryz.pinned (OpenSpec.ofChange flowKeptSpec)

/-- ITS FALSE NEIGHBOUR: 'it returns false'. Refute it at one input. -/
def flowKeptWrong : ChangeSpec := { name := "flowKept", fn := fun _ => fun
  | [d1, d2] => { results := [.lit (.bool false)], args := [d1, d2] }
  | _ => none }
def FlowKeptWrongFalsely : Prop := flowKeptRow.holds Tryz.pinned (OpenSpec.ofChange flowKeptWrong)

/-- 'testlinerlaw10.FlowNone': WHATEVER THE INPUT: true; the input reads as it did. -/
def flowNoneSpec : ChangeSpec := { name := "flowNone", fn := fun _ => fun
  | [d1, d2] => { results := [.lit (.bool true)], args := [d1, d2] }
  | _ => none }
def flowNoneRow : OpenClaim := { program := "ytjjapdagllclkaagreat", sum := "80c414f457ca33b201a2f68f12298c52f4b13a65edf69ad53bc626b813b49527", func := "testliner/testlinerlaw10.FlowNone", spec := "flowNone", unfollowed := true, recurses := true, plainKeys := false, apart := false }
def FlowNoneSaid : Prop := flowNoneRow.holds Tryz.pinned (OpenSpec.ofChange flowNoneSpec)

/-- ITS FALSE NEIGHBOUR: 'it returns false'. Refute it at one input. -/
def flowNoneWrong : ChangeSpec := { name := "flowNone", fn := fun _ => fun
  | [d1, d2] => { results := [.lit (.bool false)], args := [d1, d2] }
  | _ => none }
def FlowNoneWrongFalsely : Prop := flowNoneRow.holds Tryz.pinned (OpenSpec.ofChange flowNoneWrong)

/-- 'testlinerlaw10.FlowLater': WHATEVER THE INPUT: true; the input reads as it did. -/
def flowLaterSpec : ChangeSpec := { name := "flowLater", fn := fun _ => fun
  | [d1, d2] => { results := [.lit (.bool true)], args := [d1, d2] }
  | _ => none }
def flowLaterRow : OpenClaim := { program := "ytjjapdagllclkaagreat", sum := "80c414f457ca33b201a2f68f12298c52f4b13a65edf69ad53bc626b813b49527", func := "testliner/testlinerlaw10.FlowLater", spec := "flowLater", unfollowed := true, recurses := true, plainKeys := false, apart := false }
def FlowLaterSaid : Prop := flowLaterRow.holds Tryz.pinned (OpenSpec.ofChange flowLaterSpec)

/-- ITS FALSE NEIGHBOUR: 'it returns false'. Refute it at one input. -/
def flowLaterWrong : ChangeSpec := { name := "flowLater", fn := fun _ => fun
  | [d1, d2] => { results := [.lit (.bool false)], args := [d1, d2] }
  | _ => none }
def FlowLaterWrongFalsely : Prop := flowLaterRow.holds Tryz.pinned (OpenSpec.ofChange flowLaterWrong)

/-- 'testlinerlaw10.FlowQueue': WHATEVER THE INPUT: true; the input reads as it did. -/
def flowQueueSpec : ChangeSpec := { name := "flowQueue", fn := fun _ => fun
  | [d1, d2] => { results := [.lit (.bool true)], args := [d1, d2] }
  | _ => none }
def flowQueueRow : OpenClaim := { program := "ytjjapdagllclkaagreat", sum := "80c414f457ca33b201a2f68f12298c52f4b13a65edf69ad53bc626b813b49527", func := "testliner/testlinerlaw10.FlowQueue", spec := "flowQueue", unfollowed := true, recurses := true, plainKeys := false, apart := false }
def FlowQueueSaid : Prop := flowQueueRow.holds Tryz.pinned (OpenSpec.ofChange flowQueueSpec)

/-- ITS FALSE NEIGHBOUR: 'it returns false'. Refute it at one input. -/
def flowQueueWrong : ChangeSpec := { name := "flowQueue", fn := fun _ => fun
  | [d1, d2] => { results := [.lit (.bool false)], args := [d1, d2] }
  | _ => none }
def FlowQueueWrongFalsely : Prop := flowQueueRow.holds Tryz.pinned (OpenSpec.ofChange flowQueueWrong)

/-- 'testlinerlaw10.FlowStarts': WHATEVER THE INPUT: true; the input reads as it did. -/
def flowStartsSpec : ChangeSpec := { name := "flowStarts", fn := fun _ => fun
  | [d1, d2, d3] => { results := [.lit (.bool true)], args := [d1, d2, d3] }
  | _ => none }
def flowStartsRow : OpenClaim := { program := "ytjjapdagllclkaagreat", sum := "80c414f457ca33b201a2f68f12298c52f4b13a65edf69ad53bc626b813b49527", func := "testliner/testlinerlaw10.FlowStarts", spec := "flowStarts", unfollowed := true, recurses := true, plainKeys := false, apart := false }
def FlowStartsSaid : Prop := flowStartsRow.holds Tryz.pinned (OpenSpec.ofChange flowStartsSpec)

/-- ITS FALSE NEIGHBOUR: 'it returns false'. Refute it at one input. -/
def flowStartsWrong : ChangeSpec := { name := "flowStarts", fn := fun _ => fun
  | [d1, d2, d3] => { results := [.lit (.bool false)], args := [d1, d2, d3] }
  | _ => none }
def FlowStartsWrongFalsely : Prop := flowStartsRow.holds Tryz.pinned (OpenSpec.ofChange flowStartsWrong)

/-- 'testlinertop.TopWashFlow': WHATEVER THE INPUT: true; the input reads as it did. -/
def topWashFlowSpec : ChangeSpec := { name := "topWashFlow", fn := fun _ => fun
  | [d] => { results := [.lit (.bool true)], args := [d] }
  | _ => none }
def topWashFlowRow : OpenClaim := { program := "ytjjapdagllclkaagreat", sum := "80c414f457ca33b201a2f68f12298c52f4b13a65edf69ad53bc626b813b49527", func := "testliner/testlinertop.TopWashFlow", spec := "topWashFlow", unfollowed := true, recurses := true, plainKeys := false, apart := false }
def TopWashFlowSaid : Prop := topWashFlowRow.holds Tryz.pinned (OpenSpec.ofChange topWashFlowSpec)

/-- ITS FALSE NEIGHBOUR: 'it returns false'. Refute it at one input. -/
def topWashFlowWrong : ChangeSpec := { name := "topWashFlow", fn := fun _ => fun
  | [d] => { results := [.lit (.bool false)], args := [d] }
  | _ => none }
def TopWashFlowWrongFalsely : Prop := topWashFlowRow.holds Tryz.pinned (OpenSpec.ofChange topWashFlowWrong)

/- THE SECOND FORM. 'bulk': how many values and letters a reading holds, each counted each time it is reached (what is shared counts as often as it is met; a slice's spare places count too). A statement '..UptoSaid' is the law's where the arguments, and the package variables that the reading takes, are together of bulk at most 1048576: NARROWER than '..Said'. Prove '..Said' where nothing that the law and all that it calls make is longer than what came in: it says more and counts as full. Else prove '..UptoSaid'. A law counts once. -/
mutual
def uptoBulk {H : Type} : DataW H → Nat
  | .lit (.string bytes) => bytes.length + 1
  | .lit _ => 1
  | .nil => 1
  | .ptr d => uptoBulk d + 1
  | .slice elems spare => uptoBulkAll elems + uptoBulkAll spare + 1
  | .agg parts => uptoBulkAll parts + 1
  | .iface _ d => uptoBulk d + 1
  | .map entries => uptoBulkEntries entries + 1
  | .held _ => 1
def uptoBulkAll {H : Type} : List (DataW H) → Nat
  | [] => 0
  | d :: r => uptoBulk d + uptoBulkAll r
def uptoBulkEntries {H : Type} : List (Lit × DataW H) → Nat
  | [] => 0
  | x :: r => uptoBulkEntry x + uptoBulkEntries r
def uptoBulkEntry {H : Type} : Lit × DataW H → Nat
  | (.string bytes, d) => bytes.length + uptoBulk d + 1
  | (_, d) => uptoBulk d + 1
 end
def uptoSmall : (H : Type) → List (DataW H) → Bool := fun _ ds => decide (uptoBulkAll ds ≤ 1048576)
def OpenSpec.upto (s : _root_.Go.ChangeSpec) : _root_.Go.OpenSpec := { _root_.Go.OpenSpec.ofChange s with cond := some uptoSmall }

/-- 'testlinerlaw10.FlowLates', WHERE WHAT IT READS IS OF BULK AT MOST 1048576: true; the input reads as it did. -/
def flowLatesUptoRow : OpenClaim := { program := "ytjjapdagllclkaagreat", sum := "80c414f457ca33b201a2f68f12298c52f4b13a65edf69ad53bc626b813b49527", func := "testliner/testlinerlaw10.FlowLates", spec := "flowLates", unfollowed := true, recurses := true, plainKeys := false, apart := false, narrowed := true }
def FlowLatesUptoSaid : Prop := flowLatesUptoRow.holds Tryz.pinned (OpenSpec.upto flowLatesSpec)

/-- 'testlinerlaw10.FlowBests', WHERE WHAT IT READS IS OF BULK AT MOST 1048576: true; the input reads as it did. -/
def flowBestsUptoRow : OpenClaim := { program := "ytjjapdagllclkaagreat", sum := "80c414f457ca33b201a2f68f12298c52f4b13a65edf69ad53bc626b813b49527", func := "testliner/testlinerlaw10.FlowBests", spec := "flowBests", unfollowed := true, recurses := true, plainKeys := false, apart := false, narrowed := true }
def FlowBestsUptoSaid : Prop := flowBestsUptoRow.holds Tryz.pinned (OpenSpec.upto flowBestsSpec)

/-- 'testlinerlaw10.FlowNevers', WHERE WHAT IT READS IS OF BULK AT MOST 1048576: true; the input reads as it did. -/
def flowNeversUptoRow : OpenClaim := { program := "ytjjapdagllclkaagreat", sum := "80c414f457ca33b201a2f68f12298c52f4b13a65edf69ad53bc626b813b49527", func := "testliner/testlinerlaw10.FlowNevers", spec := "flowNevers", unfollowed := true, recurses := true, plainKeys := false, apart := false, narrowed := true }
def FlowNeversUptoSaid : Prop := flowNeversUptoRow.holds Tryz.pinned (OpenSpec.upto flowNeversSpec)

/-- 'testlinerlaw10.FlowBreaks', WHERE WHAT IT READS IS OF BULK AT MOST 1048576: true; the input reads as it did. -/
def flowBreaksUptoRow : OpenClaim := { program := "ytjjapdagllclkaagreat", sum := "80c414f457ca33b201a2f68f12298c52f4b13a65edf69ad53bc626b813b49527", func := "testliner/testlinerlaw10.FlowBreaks", spec := "flowBreaks", unfollowed := true, recurses := true, plainKeys := false, apart := false, narrowed := true }
def FlowBreaksUptoSaid : Prop := flowBreaksUptoRow.holds Tryz.pinned (OpenSpec.upto flowBreaksSpec)

/-- 'testlinerlaw10.FlowSlacks', WHERE WHAT IT READS IS OF BULK AT MOST 1048576: true; the input reads as it did. -/
def flowSlacksUptoRow : OpenClaim := { program := "ytjjapdagllclkaagreat", sum := "80c414f457ca33b201a2f68f12298c52f4b13a65edf69ad53bc626b813b49527", func := "testliner/testlinerlaw10.FlowSlacks", spec := "flowSlacks", unfollowed := true, recurses := true, plainKeys := false, apart := false, narrowed := true }
def FlowSlacksUptoSaid : Prop := flowSlacksUptoRow.holds Tryz.pinned (OpenSpec.upto flowSlacksSpec)

/-- 'testlinerlaw10.FlowKept', WHERE WHAT IT READS IS OF BULK AT MOST 1048576: true; the input reads as it did. -/
def flowKeptUptoRow : OpenClaim := { program := "ytjjapdagllclkaagreat", sum := "80c414f457ca33b201a2f68f12298c52f4b13a65edf69ad53bc626b813b49527", func := "testliner/testlinerlaw10.FlowKept", spec := "flowKept", unfollowed := true, recurses := true, plainKeys := false, apart := false, narrowed := true }
def FlowKeptUptoSaid : Prop := flowKeptUptoRow.holds Tryz.pinned (OpenSpec.upto flowKeptSpec)

/-- 'testlinerlaw10.FlowNone', WHERE WHAT IT READS IS OF BULK AT MOST 1048576: true; the input reads as it did. -/
def flowNoneUptoRow : OpenClaim := { program := "ytjjapdagllclkaagreat", sum := "80c414f457ca33b201a2f68f12298c52f4b13a65edf69ad53bc626b813b49527", func := "testliner/testlinerlaw10.FlowNone", spec := "flowNone", unfollowed := true, recurses := true, plainKeys := false, apart := false, narrowed := true }
def FlowNoneUptoSaid : Prop := flowNoneUptoRow.holds Tryz.pinned (OpenSpec.upto flowNoneSpec)

/-- 'testlinerlaw10.FlowLater', WHERE WHAT IT READS IS OF BULK AT MOST 1048576: true; the input reads as it did. -/
def flowLaterUptoRow : OpenClaim := { program := "ytjjapdagllclkaagreat", sum := "80c414f457ca33b201a2f68f12298c52f4b13a65edf69ad53bc626b813b49527", func := "testliner/testlinerlaw10.FlowLater", spec := "flowLater", unfollowed := true, recurses := true, plainKeys := false, apart := false, narrowed := true }
def FlowLaterUptoSaid : Prop := flowLaterUptoRow.holds Tryz.pinned (OpenSpec.upto flowLaterSpec)

/-- 'testlinerlaw10.FlowQueue', WHERE WHAT IT READS IS OF BULK AT MOST 1048576: true; the input reads as it did. -/
def flowQueueUptoRow : OpenClaim := { program := "ytjjapdagllclkaagreat", sum := "80c414f457ca33b201a2f68f12298c52f4b13a65edf69ad53bc626b813b49527", func := "testliner/testlinerlaw10.FlowQueue", spec := "flowQueue", unfollowed := true, recurses := true, plainKeys := false, apart := false, narrowed := true }
def FlowQueueUptoSaid : Prop := flowQueueUptoRow.holds Tryz.pinned (OpenSpec.upto flowQueueSpec)

/-- 'testlinerlaw10.FlowStarts', WHERE WHAT IT READS IS OF BULK AT MOST 1048576: true; the input reads as it did. -/
def flowStartsUptoRow : OpenClaim := { program := "ytjjapdagllclkaagreat", sum := "80c414f457ca33b201a2f68f12298c52f4b13a65edf69ad53bc626b813b49527", func := "testliner/testlinerlaw10.FlowStarts", spec := "flowStarts", unfollowed := true, recurses := true, plainKeys := false, apart := false, narrowed := true }
def FlowStartsUptoSaid : Prop := flowStartsUptoRow.holds Tryz.pinned (OpenSpec.upto flowStartsSpec)

/-- 'testlinertop.TopWashFlow', WHERE WHAT IT READS IS OF BULK AT MOST 1048576: true; the input reads as it did. -/
def topWashFlowUptoRow : OpenClaim := { program := "ytjjapdagllclkaagreat", sum := "80c414f457ca33b201a2f68f12298c52f4b13a65edf69ad53bc626b813b49527", func := "testliner/testlinertop.TopWashFlow", spec := "topWashFlow", unfollowed := true, recurses := true, plainKeys := false, apart := false, narrowed := true }
def TopWashFlowUptoSaid : Prop := topWashFlowUptoRow.holds Tryz.pinned (OpenSpec.upto topWashFlowSpec)

end Rows
end Go.Proofs.YtjjapdagllclkaaGreat
