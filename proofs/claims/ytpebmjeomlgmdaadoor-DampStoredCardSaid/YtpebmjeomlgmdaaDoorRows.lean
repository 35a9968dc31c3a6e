/-
  NARROWER THAN 'FOR EVERY INPUT', by the rows' own cells (each row's printed sentence says how): DampAfters: laid · DampHours: laid · DampExplains: laid · DampLooks: laid · DampTruly: laid · DampLonger: laid · DampStored: laid · DampJust: laid · DampNext: laid.
  DERIVED. THE GIVEN ROWS OF THIS SEAT. 9 by the template 'for every input the law returns true; each argument reads behind the call as it read before'; 0 by the template 'total and deterministic' (their statements: YtpebmjeomlgmdaaDoorTotals.lean).
  GIVEN WITH THE SEED: the statements are not yours to turn. If you find one false, say at which input.
  Laid BY PROGRAM, IN A SANDBOX (cutbox-rows.mjs): the forced cells as the released guide's own fill.sh prints them over the translation d7fd5451b239f1a9… (all of the seat's roots in one cut). By AI agents, Wed Nov 11 2026. No macro, syntax, notation, axiom, sorry.
-/
import Derived.Test.YtpebmjeomlgmdaaDoorChecked
import GoSem.Claim
import GoSem.ClaimJoined
import GoSem.ClaimMapViews
import Derived.JoinedTies
import Derived.KernelRfl
namespace Go.Proofs.YtpebmjeomlgmdaaDoor
/- THE CELL 'sum', in the pinned program and in every row, IS THE sha256 OF THE DUMP (.gsa) THAT YtpebmjeomlgmdaaDoorProg.lean LOADS. Nothing in Lean hashes anything: it is a label: what it is worth is what the hold of that sum in a sandbox is worth. -/
noncomputable def Tryd.pinned : Pinned := { name := "ytpebmjeomlgmdaadoor", sum := "d7fd5451b239f1a99651b00d70113af59222f878f53e9e5adc09c970ce34dda7", checked := Tryd.checked }
namespace Rows
def none {H : Type} : Left H := { results := [], args := [] }

/- WHAT THE LISTED PACKAGE-LEVEL VARIABLES READ AS WHEN THE CALL BEGINS. Each datum BY PROGRAM (the guide's laid-datum.mjs) off the statement by which the dump's own 'gosem.cut.vars' lays the variable. In a bare row this is a premise. The card (YtpebmjeomlgmdaaDoorCards.lean) ties it to the program's text. -/
def laid_math_bits_deBruijn32tab {H : Type} : DataW H := .agg [.lit (.int .u8 0), .lit (.int .u8 1), .lit (.int .u8 28), .lit (.int .u8 2), .lit (.int .u8 29), .lit (.int .u8 14), .lit (.int .u8 24), .lit (.int .u8 3), .lit (.int .u8 30), .lit (.int .u8 22), .lit (.int .u8 20), .lit (.int .u8 15), .lit (.int .u8 25), .lit (.int .u8 17), .lit (.int .u8 4), .lit (.int .u8 8), .lit (.int .u8 31), .lit (.int .u8 27), .lit (.int .u8 13), .lit (.int .u8 23), .lit (.int .u8 21), .lit (.int .u8 19), .lit (.int .u8 16), .lit (.int .u8 7), .lit (.int .u8 26), .lit (.int .u8 12), .lit (.int .u8 18), .lit (.int .u8 6), .lit (.int .u8 11), .lit (.int .u8 5), .lit (.int .u8 10), .lit (.int .u8 9)]
def laid_math_bits_deBruijn64tab {H : Type} : DataW H := .agg [.lit (.int .u8 0), .lit (.int .u8 1), .lit (.int .u8 56), .lit (.int .u8 2), .lit (.int .u8 57), .lit (.int .u8 49), .lit (.int .u8 28), .lit (.int .u8 3), .lit (.int .u8 61), .lit (.int .u8 58), .lit (.int .u8 42), .lit (.int .u8 50), .lit (.int .u8 38), .lit (.int .u8 29), .lit (.int .u8 17), .lit (.int .u8 4), .lit (.int .u8 62), .lit (.int .u8 47), .lit (.int .u8 59), .lit (.int .u8 36), .lit (.int .u8 45), .lit (.int .u8 43), .lit (.int .u8 51), .lit (.int .u8 22), .lit (.int .u8 53), .lit (.int .u8 39), .lit (.int .u8 33), .lit (.int .u8 30), .lit (.int .u8 24), .lit (.int .u8 18), .lit (.int .u8 12), .lit (.int .u8 5), .lit (.int .u8 63), .lit (.int .u8 55), .lit (.int .u8 48), .lit (.int .u8 27), .lit (.int .u8 60), .lit (.int .u8 41), .lit (.int .u8 37), .lit (.int .u8 16), .lit (.int .u8 46), .lit (.int .u8 35), .lit (.int .u8 44), .lit (.int .u8 21), .lit (.int .u8 52), .lit (.int .u8 32), .lit (.int .u8 23), .lit (.int .u8 11), .lit (.int .u8 54), .lit (.int .u8 26), .lit (.int .u8 40), .lit (.int .u8 15), .lit (.int .u8 34), .lit (.int .u8 20), .lit (.int .u8 31), .lit (.int .u8 10), .lit (.int .u8 25), .lit (.int .u8 14), .lit (.int .u8 19), .lit (.int .u8 9), .lit (.int .u8 13), .lit (.int .u8 8), .lit (.int .u8 7), .lit (.int .u8 6)]

/-- 'testlinerlaw11.DampAfters': WHATEVER THE INPUT: true; the input reads as it did. -/
def dampAftersSpec : ChangeSpec := { name := "dampAfters", fn := fun _ => fun
  | [d1, d2, d3] => { results := [.lit (.bool true)], args := [d1, d2, d3] }
  | _ => none }
def dampAftersRow : OpenClaim := { program := "ytpebmjeomlgmdaadoor", sum := "d7fd5451b239f1a99651b00d70113af59222f878f53e9e5adc09c970ce34dda7", func := "testliner/testlinerlaw11.DampAfters", spec := "dampAfters", unfollowed := true, recurses := true, named := ["math/bits.deBruijn32tab", "math/bits.deBruijn64tab"], apart := false, laid := [("math/bits.deBruijn32tab", laid_math_bits_deBruijn32tab), ("math/bits.deBruijn64tab", laid_math_bits_deBruijn64tab)] }
def DampAftersSaid : Prop := dampAftersRow.holds Tryd.pinned (OpenSpec.ofChange dampAftersSpec)

/-- ITS FALSE NEIGHBOUR: 'it returns false'. Refute it at one input. -/
def dampAftersWrong : ChangeSpec := { name := "dampAfters", fn := fun _ => fun
  | [d1, d2, d3] => { results := [.lit (.bool false)], args := [d1, d2, d3] }
  | _ => none }
def DampAftersWrongFalsely : Prop := dampAftersRow.holds Tryd.pinned (OpenSpec.ofChange dampAftersWrong)

/-- 'testlinerlaw11.DampHours': WHATEVER THE INPUT: true; the input reads as it did. -/
def dampHoursSpec : ChangeSpec := { name := "dampHours", fn := fun _ => fun
  | [d1, d2, d3] => { results := [.lit (.bool true)], args := [d1, d2, d3] }
  | _ => none }
def dampHoursRow : OpenClaim := { program := "ytpebmjeomlgmdaadoor", sum := "d7fd5451b239f1a99651b00d70113af59222f878f53e9e5adc09c970ce34dda7", func := "testliner/testlinerlaw11.DampHours", spec := "dampHours", unfollowed := true, recurses := true, named := ["math/bits.deBruijn32tab", "math/bits.deBruijn64tab"], apart := false, laid := [("math/bits.deBruijn32tab", laid_math_bits_deBruijn32tab), ("math/bits.deBruijn64tab", laid_math_bits_deBruijn64tab)] }
def DampHoursSaid : Prop := dampHoursRow.holds Tryd.pinned (OpenSpec.ofChange dampHoursSpec)

/-- ITS FALSE NEIGHBOUR: 'it returns false'. Refute it at one input. -/
def dampHoursWrong : ChangeSpec := { name := "dampHours", fn := fun _ => fun
  | [d1, d2, d3] => { results := [.lit (.bool false)], args := [d1, d2, d3] }
  | _ => none }
def DampHoursWrongFalsely : Prop := dampHoursRow.holds Tryd.pinned (OpenSpec.ofChange dampHoursWrong)

/-- 'testlinerlaw11.DampExplains': WHATEVER THE INPUT: true; the input reads as it did. -/
def dampExplainsSpec : ChangeSpec := { name := "dampExplains", fn := fun _ => fun
  | [d1, d2, d3] => { results := [.lit (.bool true)], args := [d1, d2, d3] }
  | _ => none }
def dampExplainsRow : OpenClaim := { program := "ytpebmjeomlgmdaadoor", sum := "d7fd5451b239f1a99651b00d70113af59222f878f53e9e5adc09c970ce34dda7", func := "testliner/testlinerlaw11.DampExplains", spec := "dampExplains", unfollowed := true, recurses := true, named := ["math/bits.deBruijn32tab", "math/bits.deBruijn64tab"], apart := false, laid := [("math/bits.deBruijn32tab", laid_math_bits_deBruijn32tab), ("math/bits.deBruijn64tab", laid_math_bits_deBruijn64tab)] }
def DampExplainsSaid : Prop := dampExplainsRow.holds Tryd.pinned (OpenSpec.ofChange dampExplainsSpec)

/-- ITS FALSE NEIGHBOUR: 'it returns false'. Refute it at one input. -/
def dampExplainsWrong : ChangeSpec := { name := "dampExplains", fn := fun _ => fun
  | [d1, d2, d3] => { results := [.lit (.bool false)], args := [d1, d2, d3] }
  | _ => none }
def DampExplainsWrongFalsely : Prop := dampExplainsRow.holds Tryd.pinned (OpenSpec.ofChange dampExplainsWrong)

/-- 'testlinerlaw11.DampLooks': WHATEVER THE INPUT: true; the input reads as it did. -/
def dampLooksSpec : ChangeSpec := { name := "dampLooks", fn := fun _ => fun
  | [d1, d2, d3] => { results := [.lit (.bool true)], args := [d1, d2, d3] }
  | _ => none }
def dampLooksRow : OpenClaim := { program := "ytpebmjeomlgmdaadoor", sum := "d7fd5451b239f1a99651b00d70113af59222f878f53e9e5adc09c970ce34dda7", func := "testliner/testlinerlaw11.DampLooks", spec := "dampLooks", unfollowed := true, recurses := true, named := ["math/bits.deBruijn32tab", "math/bits.deBruijn64tab"], apart := false, laid := [("math/bits.deBruijn32tab", laid_math_bits_deBruijn32tab), ("math/bits.deBruijn64tab", laid_math_bits_deBruijn64tab)] }
def DampLooksSaid : Prop := dampLooksRow.holds Tryd.pinned (OpenSpec.ofChange dampLooksSpec)

/-- ITS FALSE NEIGHBOUR: 'it returns false'. Refute it at one input. -/
def dampLooksWrong : ChangeSpec := { name := "dampLooks", fn := fun _ => fun
  | [d1, d2, d3] => { results := [.lit (.bool false)], args := [d1, d2, d3] }
  | _ => none }
def DampLooksWrongFalsely : Prop := dampLooksRow.holds Tryd.pinned (OpenSpec.ofChange dampLooksWrong)

/-- 'testlinerlaw11.DampTruly': WHATEVER THE INPUT: true; the input reads as it did. -/
def dampTrulySpec : ChangeSpec := { name := "dampTruly", fn := fun _ => fun
  | [d1, d2] => { results := [.lit (.bool true)], args := [d1, d2] }
  | _ => none }
def dampTrulyRow : OpenClaim := { program := "ytpebmjeomlgmdaadoor", sum := "d7fd5451b239f1a99651b00d70113af59222f878f53e9e5adc09c970ce34dda7", func := "testliner/testlinerlaw11.DampTruly", spec := "dampTruly", unfollowed := true, recurses := true, named := ["math/bits.deBruijn32tab", "math/bits.deBruijn64tab"], apart := false, laid := [("math/bits.deBruijn32tab", laid_math_bits_deBruijn32tab), ("math/bits.deBruijn64tab", laid_math_bits_deBruijn64tab)] }
def DampTrulySaid : Prop := dampTrulyRow.holds Tryd.pinned (OpenSpec.ofChange dampTrulySpec)

/-- ITS FALSE NEIGHBOUR: 'it returns false'. Refute it at one input. -/
def dampTrulyWrong : ChangeSpec := { name := "dampTruly", fn := fun _ => fun
  | [d1, d2] => { results := [.lit (.bool false)], args := [d1, d2] }
  | _ => none }
def DampTrulyWrongFalsely : Prop := dampTrulyRow.holds Tryd.pinned (OpenSpec.ofChange dampTrulyWrong)

/-- 'testlinerlaw11.DampLonger': WHATEVER THE INPUT: true; the input reads as it did. -/
def dampLongerSpec : ChangeSpec := { name := "dampLonger", fn := fun _ => fun
  | [d1, d2, d3] => { results := [.lit (.bool true)], args := [d1, d2, d3] }
  | _ => none }
def dampLongerRow : OpenClaim := { program := "ytpebmjeomlgmdaadoor", sum := "d7fd5451b239f1a99651b00d70113af59222f878f53e9e5adc09c970ce34dda7", func := "testliner/testlinerlaw11.DampLonger", spec := "dampLonger", unfollowed := true, recurses := true, named := ["math/bits.deBruijn32tab", "math/bits.deBruijn64tab"], apart := false, laid := [("math/bits.deBruijn32tab", laid_math_bits_deBruijn32tab), ("math/bits.deBruijn64tab", laid_math_bits_deBruijn64tab)] }
def DampLongerSaid : Prop := dampLongerRow.holds Tryd.pinned (OpenSpec.ofChange dampLongerSpec)

/-- ITS FALSE NEIGHBOUR: 'it returns false'. Refute it at one input. -/
def dampLongerWrong : ChangeSpec := { name := "dampLonger", fn := fun _ => fun
  | [d1, d2, d3] => { results := [.lit (.bool false)], args := [d1, d2, d3] }
  | _ => none }
def DampLongerWrongFalsely : Prop := dampLongerRow.holds Tryd.pinned (OpenSpec.ofChange dampLongerWrong)

/-- 'testlinerlaw11.DampStored': WHATEVER THE INPUT: true; the input reads as it did. -/
def dampStoredSpec : ChangeSpec := { name := "dampStored", fn := fun _ => fun
  | [d1, d2, d3] => { results := [.lit (.bool true)], args := [d1, d2, d3] }
  | _ => none }
def dampStoredRow : OpenClaim := { program := "ytpebmjeomlgmdaadoor", sum := "d7fd5451b239f1a99651b00d70113af59222f878f53e9e5adc09c970ce34dda7", func := "testliner/testlinerlaw11.DampStored", spec := "dampStored", unfollowed := true, recurses := true, named := ["math/bits.deBruijn32tab", "math/bits.deBruijn64tab"], apart := false, laid := [("math/bits.deBruijn32tab", laid_math_bits_deBruijn32tab), ("math/bits.deBruijn64tab", laid_math_bits_deBruijn64tab)] }
def DampStoredSaid : Prop := dampStoredRow.holds Tryd.pinned (OpenSpec.ofChange dampStoredSpec)

/-- ITS FALSE NEIGHBOUR: 'it returns false'. Refute it at one input. -/
def dampStoredWrong : ChangeSpec := { name := "dampStored", fn := fun _ => fun
  | [d1, d2, d3] => { results := [.lit (.bool false)], args := [d1, d2, d3] }
  | _ => none }
def DampStoredWrongFalsely : Prop := dampStoredRow.holds Tryd.pinned (OpenSpec.ofChange dampStoredWrong)

/-- 'testlinerlaw11.DampJust': WHATEVER THE INPUT: true; the input reads as it did. -/
def dampJustSpec : ChangeSpec := { name := "dampJust", fn := fun _ => fun
  | [d1, d2, d3] => { results := [.lit (.bool true)], args := [d1, d2, d3] }
  | _ => none }
def dampJustRow : OpenClaim := { program := "ytpebmjeomlgmdaadoor", sum := "d7fd5451b239f1a99651b00d70113af59222f878f53e9e5adc09c970ce34dda7", func := "testliner/testlinerlaw11.DampJust", spec := "dampJust", unfollowed := true, recurses := true, named := ["math/bits.deBruijn32tab", "math/bits.deBruijn64tab"], apart := false, laid := [("math/bits.deBruijn32tab", laid_math_bits_deBruijn32tab), ("math/bits.deBruijn64tab", laid_math_bits_deBruijn64tab)] }
def DampJustSaid : Prop := dampJustRow.holds Tryd.pinned (OpenSpec.ofChange dampJustSpec)

/-- ITS FALSE NEIGHBOUR: 'it returns false'. Refute it at one input. -/
def dampJustWrong : ChangeSpec := { name := "dampJust", fn := fun _ => fun
  | [d1, d2, d3] => { results := [.lit (.bool false)], args := [d1, d2, d3] }
  | _ => none }
def DampJustWrongFalsely : Prop := dampJustRow.holds Tryd.pinned (OpenSpec.ofChange dampJustWrong)

/-- 'testlinerlaw11.DampNext': WHATEVER THE INPUT: true; the input reads as it did. -/
def dampNextSpec : ChangeSpec := { name := "dampNext", fn := fun _ => fun
  | [d1, d2, d3] => { results := [.lit (.bool true)], args := [d1, d2, d3] }
  | _ => none }
def dampNextRow : OpenClaim := { program := "ytpebmjeomlgmdaadoor", sum := "d7fd5451b239f1a99651b00d70113af59222f878f53e9e5adc09c970ce34dda7", func := "testliner/testlinerlaw11.DampNext", spec := "dampNext", unfollowed := true, recurses := true, named := ["math/bits.deBruijn32tab", "math/bits.deBruijn64tab"], apart := false, laid := [("math/bits.deBruijn32tab", laid_math_bits_deBruijn32tab), ("math/bits.deBruijn64tab", laid_math_bits_deBruijn64tab)] }
def DampNextSaid : Prop := dampNextRow.holds Tryd.pinned (OpenSpec.ofChange dampNextSpec)

/-- ITS FALSE NEIGHBOUR: 'it returns false'. Refute it at one input. -/
def dampNextWrong : ChangeSpec := { name := "dampNext", fn := fun _ => fun
  | [d1, d2, d3] => { results := [.lit (.bool false)], args := [d1, d2, d3] }
  | _ => none }
def DampNextWrongFalsely : Prop := dampNextRow.holds Tryd.pinned (OpenSpec.ofChange dampNextWrong)

/- THE SECOND FORM. 'bulk': how many values and letters a reading holds, each counted each time it is reached (what is shared counts as often as it is met; a slice's spare places count too). A statement '..UptoSaid' is the law's where the arguments, and the package variables that the reading takes, are together of bulk at most 1048576: NARROWER than '..Said'. Prove '..Said' where nothing that the law and all that it calls make is longer than what came in: it says more and counts as full. Else prove '..UptoSaid'. A law counts once. -/
mutual
def uptoBulk {H : Type} : DataW H → Nat
  | .lit (.string bytes) => bytes.length + 1
  | .lit _ => 1
  | .nil => 1
  | .ptr d => uptoBulk d + 1
  | .slice elems spare => uptoBulkAll elems + uptoBulkAll spare + 1
  | .agg parts => uptoBulkAll parts + 1
  | .iface _ d => uptoBulk d + 1
  | .map entries => uptoBulkEntries entries + 1
  | .held _ => 1
def uptoBulkAll {H : Type} : List (DataW H) → Nat
  | [] => 0
  | d :: r => uptoBulk d + uptoBulkAll r
def uptoBulkEntries {H : Type} : List (Lit × DataW H) → Nat
  | [] => 0
  | x :: r => uptoBulkEntry x + uptoBulkEntries r
def uptoBulkEntry {H : Type} : Lit × DataW H → Nat
  | (.string bytes, d) => bytes.length + uptoBulk d + 1
  | (_, d) => uptoBulk d + 1
 end
def uptoSmall : (H : Type) → List (DataW H) → Bool := fun _ ds => decide (uptoBulkAll ds ≤ 1048576)
def OpenSpec.upto (s : _root_.Go.ChangeSpec) : _root_.Go.OpenSpec := { _root_.Go.OpenSpec.ofChange s with cond := some uptoSmall }

/-- 'testlinerlaw11.DampAfters', WHERE WHAT IT READS IS OF BULK AT MOST 1048576: true; the input reads as it did. -/
def dampAftersUptoRow : OpenClaim := { program := "ytpebmjeomlgmdaadoor", sum := "d7fd5451b239f1a99651b00d70113af59222f878f53e9e5adc09c970ce34dda7", func := "testliner/testlinerlaw11.DampAfters", spec := "dampAfters", unfollowed := true, recurses := true, named := ["math/bits.deBruijn32tab", "math/bits.deBruijn64tab"], apart := false, laid := [("math/bits.deBruijn32tab", laid_math_bits_deBruijn32tab), ("math/bits.deBruijn64tab", laid_math_bits_deBruijn64tab)], narrowed := true }
def DampAftersUptoSaid : Prop := dampAftersUptoRow.holds Tryd.pinned (OpenSpec.upto dampAftersSpec)

/-- 'testlinerlaw11.DampHours', WHERE WHAT IT READS IS OF BULK AT MOST 1048576: true; the input reads as it did. -/
def dampHoursUptoRow : OpenClaim := { program := "ytpebmjeomlgmdaadoor", sum := "d7fd5451b239f1a99651b00d70113af59222f878f53e9e5adc09c970ce34dda7", func := "testliner/testlinerlaw11.DampHours", spec := "dampHours", unfollowed := true, recurses := true, named := ["math/bits.deBruijn32tab", "math/bits.deBruijn64tab"], apart := false, laid := [("math/bits.deBruijn32tab", laid_math_bits_deBruijn32tab), ("math/bits.deBruijn64tab", laid_math_bits_deBruijn64tab)], narrowed := true }
def DampHoursUptoSaid : Prop := dampHoursUptoRow.holds Tryd.pinned (OpenSpec.upto dampHoursSpec)

/-- 'testlinerlaw11.DampExplains', WHERE WHAT IT READS IS OF BULK AT MOST 1048576: true; the input reads as it did. -/
def dampExplainsUptoRow : OpenClaim := { program := "ytpebmjeomlgmdaadoor", sum := "d7fd5451b239f1a99651b00d70113af59222f878f53e9e5adc09c970ce34dda7", func := "testliner/testlinerlaw11.DampExplains", spec := "dampExplains", unfollowed := true, recurses := true, named := ["math/bits.deBruijn32tab", "math/bits.deBruijn64tab"], apart := false, laid := [("math/bits.deBruijn32tab", laid_math_bits_deBruijn32tab), ("math/bits.deBruijn64tab", laid_math_bits_deBruijn64tab)], narrowed := true }
def DampExplainsUptoSaid : Prop := dampExplainsUptoRow.holds Tryd.pinned (OpenSpec.upto dampExplainsSpec)

/-- 'testlinerlaw11.DampLooks', WHERE WHAT IT READS IS OF BULK AT MOST 1048576: true; the input reads as it did. -/
def dampLooksUptoRow : OpenClaim := { program := "ytpebmjeomlgmdaadoor", sum := "d7fd5451b239f1a99651b00d70113af59222f878f53e9e5adc09c970ce34dda7", func := "testliner/testlinerlaw11.DampLooks", spec := "dampLooks", unfollowed := true, recurses := true, named := ["math/bits.deBruijn32tab", "math/bits.deBruijn64tab"], apart := false, laid := [("math/bits.deBruijn32tab", laid_math_bits_deBruijn32tab), ("math/bits.deBruijn64tab", laid_math_bits_deBruijn64tab)], narrowed := true }
def DampLooksUptoSaid : Prop := dampLooksUptoRow.holds Tryd.pinned (OpenSpec.upto dampLooksSpec)

/-- 'testlinerlaw11.DampTruly', WHERE WHAT IT READS IS OF BULK AT MOST 1048576: true; the input reads as it did. -/
def dampTrulyUptoRow : OpenClaim := { program := "ytpebmjeomlgmdaadoor", sum := "d7fd5451b239f1a99651b00d70113af59222f878f53e9e5adc09c970ce34dda7", func := "testliner/testlinerlaw11.DampTruly", spec := "dampTruly", unfollowed := true, recurses := true, named := ["math/bits.deBruijn32tab", "math/bits.deBruijn64tab"], apart := false, laid := [("math/bits.deBruijn32tab", laid_math_bits_deBruijn32tab), ("math/bits.deBruijn64tab", laid_math_bits_deBruijn64tab)], narrowed := true }
def DampTrulyUptoSaid : Prop := dampTrulyUptoRow.holds Tryd.pinned (OpenSpec.upto dampTrulySpec)

/-- 'testlinerlaw11.DampLonger', WHERE WHAT IT READS IS OF BULK AT MOST 1048576: true; the input reads as it did. -/
def dampLongerUptoRow : OpenClaim := { program := "ytpebmjeomlgmdaadoor", sum := "d7fd5451b239f1a99651b00d70113af59222f878f53e9e5adc09c970ce34dda7", func := "testliner/testlinerlaw11.DampLonger", spec := "dampLonger", unfollowed := true, recurses := true, named := ["math/bits.deBruijn32tab", "math/bits.deBruijn64tab"], apart := false, laid := [("math/bits.deBruijn32tab", laid_math_bits_deBruijn32tab), ("math/bits.deBruijn64tab", laid_math_bits_deBruijn64tab)], narrowed := true }
def DampLongerUptoSaid : Prop := dampLongerUptoRow.holds Tryd.pinned (OpenSpec.upto dampLongerSpec)

/-- 'testlinerlaw11.DampStored', WHERE WHAT IT READS IS OF BULK AT MOST 1048576: true; the input reads as it did. -/
def dampStoredUptoRow : OpenClaim := { program := "ytpebmjeomlgmdaadoor", sum := "d7fd5451b239f1a99651b00d70113af59222f878f53e9e5adc09c970ce34dda7", func := "testliner/testlinerlaw11.DampStored", spec := "dampStored", unfollowed := true, recurses := true, named := ["math/bits.deBruijn32tab", "math/bits.deBruijn64tab"], apart := false, laid := [("math/bits.deBruijn32tab", laid_math_bits_deBruijn32tab), ("math/bits.deBruijn64tab", laid_math_bits_deBruijn64tab)], narrowed := true }
def DampStoredUptoSaid : Prop := dampStoredUptoRow.holds Tryd.pinned (OpenSpec.upto dampStoredSpec)

/-- 'testlinerlaw11.DampJust', WHERE WHAT IT READS IS OF BULK AT MOST 1048576: true; the input reads as it did. -/
def dampJustUptoRow : OpenClaim := { program := "ytpebmjeomlgmdaadoor", sum := "d7fd5451b239f1a99651b00d70113af59222f878f53e9e5adc09c970ce34dda7", func := "testliner/testlinerlaw11.DampJust", spec := "dampJust", unfollowed := true, recurses := true, named := ["math/bits.deBruijn32tab", "math/bits.deBruijn64tab"], apart := false, laid := [("math/bits.deBruijn32tab", laid_math_bits_deBruijn32tab), ("math/bits.deBruijn64tab", laid_math_bits_deBruijn64tab)], narrowed := true }
def DampJustUptoSaid : Prop := dampJustUptoRow.holds Tryd.pinned (OpenSpec.upto dampJustSpec)

/-- 'testlinerlaw11.DampNext', WHERE WHAT IT READS IS OF BULK AT MOST 1048576: true; the input reads as it did. -/
def dampNextUptoRow : OpenClaim := { program := "ytpebmjeomlgmdaadoor", sum := "d7fd5451b239f1a99651b00d70113af59222f878f53e9e5adc09c970ce34dda7", func := "testliner/testlinerlaw11.DampNext", spec := "dampNext", unfollowed := true, recurses := true, named := ["math/bits.deBruijn32tab", "math/bits.deBruijn64tab"], apart := false, laid := [("math/bits.deBruijn32tab", laid_math_bits_deBruijn32tab), ("math/bits.deBruijn64tab", laid_math_bits_deBruijn64tab)], narrowed := true }
def DampNextUptoSaid : Prop := dampNextUptoRow.holds Tryd.pinned (OpenSpec.upto dampNextSpec)

end Rows
end Go.Proofs.YtpebmjeomlgmdaaDoor
