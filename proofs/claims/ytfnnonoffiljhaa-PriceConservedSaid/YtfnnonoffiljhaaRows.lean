/-
  No cell of these rows narrows 'for every input' (looked for: loops, veiled, ifaces, maps, wideKeys, modest, calm, conditions, laid).
  DERIVED. THE GIVEN ROWS OF THIS SEAT. 12 by the template 'for every input the law returns true; each argument reads behind the call as it read before'; 0 by the template 'total and deterministic' (their statements: YtfnnonoffiljhaaTotals.lean).
  GIVEN WITH THE SEED: the statements are not yours to turn. If you find one false, say at which input.
  Laid BY PROGRAM, IN A SANDBOX (cutbox-rows.mjs): the forced cells as the released guide's own fill.sh prints them over the translation 952497ec81378a67… (all of the seat's roots in one cut). By AI agents, Wed Nov 11 2026. No macro, syntax, notation, axiom, sorry.
-/
import Derived.Test.YtfnnonoffiljhaaChecked
import GoSem.Claim
import GoSem.ClaimJoined
import GoSem.ClaimMapViews
import Derived.JoinedTies
import Derived.KernelRfl
namespace Go.Proofs.Ytfnnonoffiljhaa
/- THE CELL 'sum', in the pinned program and in every row, IS THE sha256 OF THE DUMP (.gsa) THAT YtfnnonoffiljhaaProg.lean LOADS. Nothing in Lean hashes anything: it is a label: what it is worth is what the hold of that sum in a sandbox is worth. -/
noncomputable def Try.pinned : Pinned := { name := "ytfnnonoffiljhaa", sum := "952497ec81378a672cdf98174fbb695b8c1b41be7244a58219629d0539ae16f9", checked := Try.checked }
namespace Rows
def none {H : Type} : Left H := { results := [], args := [] }

/-- 'testlinerlaw12.PriceCheapests': WHATEVER THE INPUT: true; the input reads as it did. -/
def priceCheapestsSpec : ChangeSpec := { name := "priceCheapests", fn := fun _ => fun
  | [d1, d2] => { results := [.lit (.bool true)], args := [d1, d2] }
  | _ => none }
def priceCheapestsRow : OpenClaim := { program := "ytfnnonoffiljhaa", sum := "952497ec81378a672cdf98174fbb695b8c1b41be7244a58219629d0539ae16f9", func := "testliner/testlinerlaw12.PriceCheapests", spec := "priceCheapests", unfollowed := true, recurses := true, apart := false }
def PriceCheapestsSaid : Prop := priceCheapestsRow.holds Try.pinned (OpenSpec.ofChange priceCheapestsSpec)

/-- ITS FALSE NEIGHBOUR: 'it returns false'. Refute it at one input. -/
def priceCheapestsWrong : ChangeSpec := { name := "priceCheapests", fn := fun _ => fun
  | [d1, d2] => { results := [.lit (.bool false)], args := [d1, d2] }
  | _ => none }
def PriceCheapestsWrongFalsely : Prop := priceCheapestsRow.holds Try.pinned (OpenSpec.ofChange priceCheapestsWrong)

/-- 'testlinerlaw12.PriceBudgets': WHATEVER THE INPUT: true; the input reads as it did. -/
def priceBudgetsSpec : ChangeSpec := { name := "priceBudgets", fn := fun _ => fun
  | [d1, d2, d3] => { results := [.lit (.bool true)], args := [d1, d2, d3] }
  | _ => none }
def priceBudgetsRow : OpenClaim := { program := "ytfnnonoffiljhaa", sum := "952497ec81378a672cdf98174fbb695b8c1b41be7244a58219629d0539ae16f9", func := "testliner/testlinerlaw12.PriceBudgets", spec := "priceBudgets", unfollowed := true, recurses := true, apart := false }
def PriceBudgetsSaid : Prop := priceBudgetsRow.holds Try.pinned (OpenSpec.ofChange priceBudgetsSpec)

/-- ITS FALSE NEIGHBOUR: 'it returns false'. Refute it at one input. -/
def priceBudgetsWrong : ChangeSpec := { name := "priceBudgets", fn := fun _ => fun
  | [d1, d2, d3] => { results := [.lit (.bool false)], args := [d1, d2, d3] }
  | _ => none }
def PriceBudgetsWrongFalsely : Prop := priceBudgetsRow.holds Try.pinned (OpenSpec.ofChange priceBudgetsWrong)

/-- 'testlinerlaw12.PriceCredits': WHATEVER THE INPUT: true; the input reads as it did. -/
def priceCreditsSpec : ChangeSpec := { name := "priceCredits", fn := fun _ => fun
  | [d1, d2, d3] => { results := [.lit (.bool true)], args := [d1, d2, d3] }
  | _ => none }
def priceCreditsRow : OpenClaim := { program := "ytfnnonoffiljhaa", sum := "952497ec81378a672cdf98174fbb695b8c1b41be7244a58219629d0539ae16f9", func := "testliner/testlinerlaw12.PriceCredits", spec := "priceCredits", unfollowed := true, recurses := true, apart := false }
def PriceCreditsSaid : Prop := priceCreditsRow.holds Try.pinned (OpenSpec.ofChange priceCreditsSpec)

/-- ITS FALSE NEIGHBOUR: 'it returns false'. Refute it at one input. -/
def priceCreditsWrong : ChangeSpec := { name := "priceCredits", fn := fun _ => fun
  | [d1, d2, d3] => { results := [.lit (.bool false)], args := [d1, d2, d3] }
  | _ => none }
def PriceCreditsWrongFalsely : Prop := priceCreditsRow.holds Try.pinned (OpenSpec.ofChange priceCreditsWrong)

/-- 'testlinerlaw12.PriceFills': WHATEVER THE INPUT: true; the input reads as it did. -/
def priceFillsSpec : ChangeSpec := { name := "priceFills", fn := fun _ => fun
  | [d] => { results := [.lit (.bool true)], args := [d] }
  | _ => none }
def priceFillsRow : OpenClaim := { program := "ytfnnonoffiljhaa", sum := "952497ec81378a672cdf98174fbb695b8c1b41be7244a58219629d0539ae16f9", func := "testliner/testlinerlaw12.PriceFills", spec := "priceFills", unfollowed := true, recurses := true, apart := false }
def PriceFillsSaid : Prop := priceFillsRow.holds Try.pinned (OpenSpec.ofChange priceFillsSpec)

/-- ITS FALSE NEIGHBOUR: 'it returns false'. Refute it at one input. -/
def priceFillsWrong : ChangeSpec := { name := "priceFills", fn := fun _ => fun
  | [d] => { results := [.lit (.bool false)], args := [d] }
  | _ => none }
def PriceFillsWrongFalsely : Prop := priceFillsRow.holds Try.pinned (OpenSpec.ofChange priceFillsWrong)

/-- 'testlinerlaw12.PriceSlips': WHATEVER THE INPUT: true; the input reads as it did. -/
def priceSlipsSpec : ChangeSpec := { name := "priceSlips", fn := fun _ => fun
  | [d] => { results := [.lit (.bool true)], args := [d] }
  | _ => none }
def priceSlipsRow : OpenClaim := { program := "ytfnnonoffiljhaa", sum := "952497ec81378a672cdf98174fbb695b8c1b41be7244a58219629d0539ae16f9", func := "testliner/testlinerlaw12.PriceSlips", spec := "priceSlips", unfollowed := true, recurses := true, apart := false }
def PriceSlipsSaid : Prop := priceSlipsRow.holds Try.pinned (OpenSpec.ofChange priceSlipsSpec)

/-- ITS FALSE NEIGHBOUR: 'it returns false'. Refute it at one input. -/
def priceSlipsWrong : ChangeSpec := { name := "priceSlips", fn := fun _ => fun
  | [d] => { results := [.lit (.bool false)], args := [d] }
  | _ => none }
def PriceSlipsWrongFalsely : Prop := priceSlipsRow.holds Try.pinned (OpenSpec.ofChange priceSlipsWrong)

/-- 'testlinerlaw12.PriceFarthing': WHATEVER THE INPUT: true; the input reads as it did. -/
def priceFarthingSpec : ChangeSpec := { name := "priceFarthing", fn := fun _ => fun
  | [d1, d2] => { results := [.lit (.bool true)], args := [d1, d2] }
  | _ => none }
def priceFarthingRow : OpenClaim := { program := "ytfnnonoffiljhaa", sum := "952497ec81378a672cdf98174fbb695b8c1b41be7244a58219629d0539ae16f9", func := "testliner/testlinerlaw12.PriceFarthing", spec := "priceFarthing", unfollowed := true, recurses := true, apart := false }
def PriceFarthingSaid : Prop := priceFarthingRow.holds Try.pinned (OpenSpec.ofChange priceFarthingSpec)

/-- ITS FALSE NEIGHBOUR: 'it returns false'. Refute it at one input. -/
def priceFarthingWrong : ChangeSpec := { name := "priceFarthing", fn := fun _ => fun
  | [d1, d2] => { results := [.lit (.bool false)], args := [d1, d2] }
  | _ => none }
def PriceFarthingWrongFalsely : Prop := priceFarthingRow.holds Try.pinned (OpenSpec.ofChange priceFarthingWrong)

/-- 'testlinerlaw12.PriceChosen': WHATEVER THE INPUT: true; the input reads as it did. -/
def priceChosenSpec : ChangeSpec := { name := "priceChosen", fn := fun _ => fun
  | [d1, d2, d3] => { results := [.lit (.bool true)], args := [d1, d2, d3] }
  | _ => none }
def priceChosenRow : OpenClaim := { program := "ytfnnonoffiljhaa", sum := "952497ec81378a672cdf98174fbb695b8c1b41be7244a58219629d0539ae16f9", func := "testliner/testlinerlaw12.PriceChosen", spec := "priceChosen", unfollowed := true, recurses := true, apart := false }
def PriceChosenSaid : Prop := priceChosenRow.holds Try.pinned (OpenSpec.ofChange priceChosenSpec)

/-- ITS FALSE NEIGHBOUR: 'it returns false'. Refute it at one input. -/
def priceChosenWrong : ChangeSpec := { name := "priceChosen", fn := fun _ => fun
  | [d1, d2, d3] => { results := [.lit (.bool false)], args := [d1, d2, d3] }
  | _ => none }
def PriceChosenWrongFalsely : Prop := priceChosenRow.holds Try.pinned (OpenSpec.ofChange priceChosenWrong)

/-- 'testlinerlaw12.PriceTruth': WHATEVER THE INPUT: true; the input reads as it did. -/
def priceTruthSpec : ChangeSpec := { name := "priceTruth", fn := fun _ => fun
  | [d] => { results := [.lit (.bool true)], args := [d] }
  | _ => none }
def priceTruthRow : OpenClaim := { program := "ytfnnonoffiljhaa", sum := "952497ec81378a672cdf98174fbb695b8c1b41be7244a58219629d0539ae16f9", func := "testliner/testlinerlaw12.PriceTruth", spec := "priceTruth", unfollowed := true, recurses := true, apart := false }
def PriceTruthSaid : Prop := priceTruthRow.holds Try.pinned (OpenSpec.ofChange priceTruthSpec)

/-- ITS FALSE NEIGHBOUR: 'it returns false'. Refute it at one input. -/
def priceTruthWrong : ChangeSpec := { name := "priceTruth", fn := fun _ => fun
  | [d] => { results := [.lit (.bool false)], args := [d] }
  | _ => none }
def PriceTruthWrongFalsely : Prop := priceTruthRow.holds Try.pinned (OpenSpec.ofChange priceTruthWrong)

/-- 'testlinerlaw12.PriceConserved': WHATEVER THE INPUT: true; the input reads as it did. -/
def priceConservedSpec : ChangeSpec := { name := "priceConserved", fn := fun _ => fun
  | [d1, d2] => { results := [.lit (.bool true)], args := [d1, d2] }
  | _ => none }
def priceConservedRow : OpenClaim := { program := "ytfnnonoffiljhaa", sum := "952497ec81378a672cdf98174fbb695b8c1b41be7244a58219629d0539ae16f9", func := "testliner/testlinerlaw12.PriceConserved", spec := "priceConserved", unfollowed := true, recurses := true, apart := false }
def PriceConservedSaid : Prop := priceConservedRow.holds Try.pinned (OpenSpec.ofChange priceConservedSpec)

/-- ITS FALSE NEIGHBOUR: 'it returns false'. Refute it at one input. -/
def priceConservedWrong : ChangeSpec := { name := "priceConserved", fn := fun _ => fun
  | [d1, d2] => { results := [.lit (.bool false)], args := [d1, d2] }
  | _ => none }
def PriceConservedWrongFalsely : Prop := priceConservedRow.holds Try.pinned (OpenSpec.ofChange priceConservedWrong)

/-- 'testlinerlaw12.PriceWay': WHATEVER THE INPUT: true; the input reads as it did. -/
def priceWaySpec : ChangeSpec := { name := "priceWay", fn := fun _ => fun
  | [d1, d2, d3] => { results := [.lit (.bool true)], args := [d1, d2, d3] }
  | _ => none }
def priceWayRow : OpenClaim := { program := "ytfnnonoffiljhaa", sum := "952497ec81378a672cdf98174fbb695b8c1b41be7244a58219629d0539ae16f9", func := "testliner/testlinerlaw12.PriceWay", spec := "priceWay", unfollowed := true, recurses := true, apart := false }
def PriceWaySaid : Prop := priceWayRow.holds Try.pinned (OpenSpec.ofChange priceWaySpec)

/-- ITS FALSE NEIGHBOUR: 'it returns false'. Refute it at one input. -/
def priceWayWrong : ChangeSpec := { name := "priceWay", fn := fun _ => fun
  | [d1, d2, d3] => { results := [.lit (.bool false)], args := [d1, d2, d3] }
  | _ => none }
def PriceWayWrongFalsely : Prop := priceWayRow.holds Try.pinned (OpenSpec.ofChange priceWayWrong)

/-- 'testlinerlaw12.PriceQuotes': WHATEVER THE INPUT: true; the input reads as it did. -/
def priceQuotesSpec : ChangeSpec := { name := "priceQuotes", fn := fun _ => fun
  | [d1, d2] => { results := [.lit (.bool true)], args := [d1, d2] }
  | _ => none }
def priceQuotesRow : OpenClaim := { program := "ytfnnonoffiljhaa", sum := "952497ec81378a672cdf98174fbb695b8c1b41be7244a58219629d0539ae16f9", func := "testliner/testlinerlaw12.PriceQuotes", spec := "priceQuotes", unfollowed := true, recurses := true, apart := false }
def PriceQuotesSaid : Prop := priceQuotesRow.holds Try.pinned (OpenSpec.ofChange priceQuotesSpec)

/-- ITS FALSE NEIGHBOUR: 'it returns false'. Refute it at one input. -/
def priceQuotesWrong : ChangeSpec := { name := "priceQuotes", fn := fun _ => fun
  | [d1, d2] => { results := [.lit (.bool false)], args := [d1, d2] }
  | _ => none }
def PriceQuotesWrongFalsely : Prop := priceQuotesRow.holds Try.pinned (OpenSpec.ofChange priceQuotesWrong)

/-- 'testlinerlaw12.PriceBalances': WHATEVER THE INPUT: true; the input reads as it did. -/
def priceBalancesSpec : ChangeSpec := { name := "priceBalances", fn := fun _ => fun
  | [d] => { results := [.lit (.bool true)], args := [d] }
  | _ => none }
def priceBalancesRow : OpenClaim := { program := "ytfnnonoffiljhaa", sum := "952497ec81378a672cdf98174fbb695b8c1b41be7244a58219629d0539ae16f9", func := "testliner/testlinerlaw12.PriceBalances", spec := "priceBalances", unfollowed := true, recurses := true, apart := false }
def PriceBalancesSaid : Prop := priceBalancesRow.holds Try.pinned (OpenSpec.ofChange priceBalancesSpec)

/-- ITS FALSE NEIGHBOUR: 'it returns false'. Refute it at one input. -/
def priceBalancesWrong : ChangeSpec := { name := "priceBalances", fn := fun _ => fun
  | [d] => { results := [.lit (.bool false)], args := [d] }
  | _ => none }
def PriceBalancesWrongFalsely : Prop := priceBalancesRow.holds Try.pinned (OpenSpec.ofChange priceBalancesWrong)

/- THE SECOND FORM. 'bulk': how many values and letters a reading holds, each counted each time it is reached (what is shared counts as often as it is met; a slice's spare places count too). A statement '..UptoSaid' is the law's where the arguments, and the package variables that the reading takes, are together of bulk at most 1048576: NARROWER than '..Said'. Prove '..Said' where nothing that the law and all that it calls make is longer than what came in: it says more and counts as full. Else prove '..UptoSaid'. A law counts once. -/
mutual
def uptoBulk {H : Type} : DataW H → Nat
  | .lit (.string bytes) => bytes.length + 1
  | .lit _ => 1
  | .nil => 1
  | .ptr d => uptoBulk d + 1
  | .slice elems spare => uptoBulkAll elems + uptoBulkAll spare + 1
  | .agg parts => uptoBulkAll parts + 1
  | .iface _ d => uptoBulk d + 1
  | .map entries => uptoBulkEntries entries + 1
  | .held _ => 1
def uptoBulkAll {H : Type} : List (DataW H) → Nat
  | [] => 0
  | d :: r => uptoBulk d + uptoBulkAll r
def uptoBulkEntries {H : Type} : List (Lit × DataW H) → Nat
  | [] => 0
  | x :: r => uptoBulkEntry x + uptoBulkEntries r
def uptoBulkEntry {H : Type} : Lit × DataW H → Nat
  | (.string bytes, d) => bytes.length + uptoBulk d + 1
  | (_, d) => uptoBulk d + 1
 end
def uptoSmall : (H : Type) → List (DataW H) → Bool := fun _ ds => decide (uptoBulkAll ds ≤ 1048576)
def OpenSpec.upto (s : _root_.Go.ChangeSpec) : _root_.Go.OpenSpec := { _root_.Go.OpenSpec.ofChange s with cond := some uptoSmall }

/-- 'testlinerlaw12.PriceCheapests', WHERE WHAT IT READS IS OF BULK AT MOST 1048576: true; the input reads as it did. -/
def priceCheapestsUptoRow : OpenClaim := { program := "ytfnnonoffiljhaa", sum := "952497ec81378a672cdf98174fbb695b8c1b41be7244a58219629d0539ae16f9", func := "testliner/testlinerlaw12.PriceCheapests", spec := "priceCheapests", unfollowed := true, recurses := true, apart := false, narrowed := true }
def PriceCheapestsUptoSaid : Prop := priceCheapestsUptoRow.holds Try.pinned (OpenSpec.upto priceCheapestsSpec)

/-- 'testlinerlaw12.PriceBudgets', WHERE WHAT IT READS IS OF BULK AT MOST 1048576: true; the input reads as it did. -/
def priceBudgetsUptoRow : OpenClaim := { program := "ytfnnonoffiljhaa", sum := "952497ec81378a672cdf98174fbb695b8c1b41be7244a58219629d0539ae16f9", func := "testliner/testlinerlaw12.PriceBudgets", spec := "priceBudgets", unfollowed := true, recurses := true, apart := false, narrowed := true }
def PriceBudgetsUptoSaid : Prop := priceBudgetsUptoRow.holds Try.pinned (OpenSpec.upto priceBudgetsSpec)

/-- 'testlinerlaw12.PriceCredits', WHERE WHAT IT READS IS OF BULK AT MOST 1048576: true; the input reads as it did. -/
def priceCreditsUptoRow : OpenClaim := { program := "ytfnnonoffiljhaa", sum := "952497ec81378a672cdf98174fbb695b8c1b41be7244a58219629d0539ae16f9", func := "testliner/testlinerlaw12.PriceCredits", spec := "priceCredits", unfollowed := true, recurses := true, apart := false, narrowed := true }
def PriceCreditsUptoSaid : Prop := priceCreditsUptoRow.holds Try.pinned (OpenSpec.upto priceCreditsSpec)

/-- 'testlinerlaw12.PriceFills', WHERE WHAT IT READS IS OF BULK AT MOST 1048576: true; the input reads as it did. -/
def priceFillsUptoRow : OpenClaim := { program := "ytfnnonoffiljhaa", sum := "952497ec81378a672cdf98174fbb695b8c1b41be7244a58219629d0539ae16f9", func := "testliner/testlinerlaw12.PriceFills", spec := "priceFills", unfollowed := true, recurses := true, apart := false, narrowed := true }
def PriceFillsUptoSaid : Prop := priceFillsUptoRow.holds Try.pinned (OpenSpec.upto priceFillsSpec)

/-- 'testlinerlaw12.PriceSlips', WHERE WHAT IT READS IS OF BULK AT MOST 1048576: true; the input reads as it did. -/
def priceSlipsUptoRow : OpenClaim := { program := "ytfnnonoffiljhaa", sum := "952497ec81378a672cdf98174fbb695b8c1b41be7244a58219629d0539ae16f9", func := "testliner/testlinerlaw12.PriceSlips", spec := "priceSlips", unfollowed := true, recurses := true, apart := false, narrowed := true }
def PriceSlipsUptoSaid : Prop := priceSlipsUptoRow.holds Try.pinned (OpenSpec.upto priceSlipsSpec)

/-- 'testlinerlaw12.PriceFarthing', WHERE WHAT IT READS IS OF BULK AT MOST 1048576: true; the input reads as it did. -/
def priceFarthingUptoRow : OpenClaim := { program := "ytfnnonoffiljhaa", sum := "952497ec81378a672cdf98174fbb695b8c1b41be7244a58219629d0539ae16f9", func := "testliner/testlinerlaw12.PriceFarthing", spec := "priceFarthing", unfollowed := true, recurses := true, apart := false, narrowed := true }
def PriceFarthingUptoSaid : Prop := priceFarthingUptoRow.holds Try.pinned (OpenSpec.upto priceFarthingSpec)

/-- 'testlinerlaw12.PriceChosen', WHERE WHAT IT READS IS OF BULK AT MOST 1048576: true; the input reads as it did. -/
def priceChosenUptoRow : OpenClaim := { program := "ytfnnonoffiljhaa", sum := "952497ec81378a672cdf98174fbb695b8c1b41be7244a58219629d0539ae16f9", func := "testliner/testlinerlaw12.PriceChosen", spec := "priceChosen", unfollowed := true, recurses := true, apart := false, narrowed := true }
def PriceChosenUptoSaid : Prop := priceChosenUptoRow.holds Try.pinned (OpenSpec.upto priceChosenSpec)

/-- 'testlinerlaw12.PriceTruth', WHERE WHAT IT READS IS OF BULK AT MOST 1048576: true; the input reads as it did. -/
def priceTruthUptoRow : OpenClaim := { program := "ytfnnonoffiljhaa", sum := "952497ec81378a672cdf98174fbb695b8c1b41be7244a58219629d0539ae16f9", func := "testliner/testlinerlaw12.PriceTruth", spec := "priceTruth", unfollowed := true, recurses := true, apart := false, narrowed := true }
def PriceTruthUptoSaid : Prop := priceTruthUptoRow.holds Try.pinned (OpenSpec.upto priceTruthSpec)

/-- 'testlinerlaw12.PriceConserved', WHERE WHAT IT READS IS OF BULK AT MOST 1048576: true; the input reads as it did. -/
def priceConservedUptoRow : OpenClaim := { program := "ytfnnonoffiljhaa", sum := "952497ec81378a672cdf98174fbb695b8c1b41be7244a58219629d0539ae16f9", func := "testliner/testlinerlaw12.PriceConserved", spec := "priceConserved", unfollowed := true, recurses := true, apart := false, narrowed := true }
def PriceConservedUptoSaid : Prop := priceConservedUptoRow.holds Try.pinned (OpenSpec.upto priceConservedSpec)

/-- 'testlinerlaw12.PriceWay', WHERE WHAT IT READS IS OF BULK AT MOST 1048576: true; the input reads as it did. -/
def priceWayUptoRow : OpenClaim := { program := "ytfnnonoffiljhaa", sum := "952497ec81378a672cdf98174fbb695b8c1b41be7244a58219629d0539ae16f9", func := "testliner/testlinerlaw12.PriceWay", spec := "priceWay", unfollowed := true, recurses := true, apart := false, narrowed := true }
def PriceWayUptoSaid : Prop := priceWayUptoRow.holds Try.pinned (OpenSpec.upto priceWaySpec)

/-- 'testlinerlaw12.PriceQuotes', WHERE WHAT IT READS IS OF BULK AT MOST 1048576: true; the input reads as it did. -/
def priceQuotesUptoRow : OpenClaim := { program := "ytfnnonoffiljhaa", sum := "952497ec81378a672cdf98174fbb695b8c1b41be7244a58219629d0539ae16f9", func := "testliner/testlinerlaw12.PriceQuotes", spec := "priceQuotes", unfollowed := true, recurses := true, apart := false, narrowed := true }
def PriceQuotesUptoSaid : Prop := priceQuotesUptoRow.holds Try.pinned (OpenSpec.upto priceQuotesSpec)

/-- 'testlinerlaw12.PriceBalances', WHERE WHAT IT READS IS OF BULK AT MOST 1048576: true; the input reads as it did. -/
def priceBalancesUptoRow : OpenClaim := { program := "ytfnnonoffiljhaa", sum := "952497ec81378a672cdf98174fbb695b8c1b41be7244a58219629d0539ae16f9", func := "testliner/testlinerlaw12.PriceBalances", spec := "priceBalances", unfollowed := true, recurses := true, apart := false, narrowed := true }
def PriceBalancesUptoSaid : Prop := priceBalancesUptoRow.holds Try.pinned (OpenSpec.upto priceBalancesSpec)

end Rows
end Go.Proofs.Ytfnnonoffiljhaa
