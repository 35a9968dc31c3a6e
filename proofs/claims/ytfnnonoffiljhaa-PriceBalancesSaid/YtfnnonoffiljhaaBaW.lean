/- What the rows of the price seat share. No condition. -/
import Derived.Test.YtfnnonoffiljhaaBaC
import Derived.Test.YtfnnonoffiljhaaBaR
import Derived.Test.YtfnnonoffiljhaaRows
import Derived.Test.YtfnnonoffiljhaaChecked
import Derived.OpenShut
import Derived.JoinedOf
import Derived.Handed
set_option linter.unusedSimpArgs false
set_option linter.unusedVariables false
namespace Go.Proofs.Ytfnnonoffiljhaa
open Go Go.Abs Go.Proofs Go.ChangeShapes Go.WideShapes Go.ChangeAt Go.RowKit
theorem own : ownKnob Try.prog.godebug = none := by kernel_rfl
theorem laidOut : laidOutB Try.prog = true := by kernel_rfl
/-- The cells of a quote. -/
theorem fits_quote {xs : List AVal} (h : FitsR [.int .i64, .int .i64, .int .i64, .int .i64, .int .i64, .int .i64, .int .i64, .int .i64, .int .i64, .int .i64, .sl [.int .i64, .int .i64]] xs) : ∃ (q : Tab.PQ) (x : AVal), .agg xs = Tab.vQ q x ∧ rowsV x = some (q.steps.map Tab.rP) := by
  obtain ⟨x1, ys, rfl, g1, h⟩ := fitsR_cons h
  obtain ⟨x2, ys, rfl, g2, h⟩ := fitsR_cons h
  obtain ⟨x3, ys, rfl, g3, h⟩ := fitsR_cons h
  obtain ⟨x4, ys, rfl, g4, h⟩ := fitsR_cons h
  obtain ⟨x5, ys, rfl, g5, h⟩ := fitsR_cons h
  obtain ⟨x6, ys, rfl, g6, h⟩ := fitsR_cons h
  obtain ⟨x7, ys, rfl, g7, h⟩ := fitsR_cons h
  obtain ⟨x8, ys, rfl, g8, h⟩ := fitsR_cons h
  obtain ⟨x9, ys, rfl, g9, h⟩ := fitsR_cons h
  obtain ⟨x10, ys, rfl, g10, h⟩ := fitsR_cons h
  obtain ⟨x, rfl, g⟩ := fitsR_one h
  obtain ⟨n1, rfl, _⟩ := fits_int g1
  obtain ⟨n2, rfl, _⟩ := fits_int g2
  obtain ⟨n3, rfl, _⟩ := fits_int g3
  obtain ⟨n4, rfl, _⟩ := fits_int g4
  obtain ⟨n5, rfl, _⟩ := fits_int g5
  obtain ⟨n6, rfl, _⟩ := fits_int g6
  obtain ⟨n7, rfl, _⟩ := fits_int g7
  obtain ⟨n8, rfl, _⟩ := fits_int g8
  obtain ⟨n9, rfl, _⟩ := fits_int g9
  obtain ⟨n10, rfl, _⟩ := fits_int g10
  obtain ⟨rs, hx, hrs⟩ := fits_rows g
  obtain ⟨ss, rfl⟩ := map_of (enc := Tab.rP) (l := rs) fun a ha => by
    obtain ⟨a, b, rfl⟩ := fits_i2 (hrs a ha)
    exact ⟨(a, b), rfl⟩
  refine ⟨⟨n1, n2, n3, n4, n5, n6, n7, n8, n9, n10, ss⟩, x, rfl, ?_⟩
  rcases hx with ⟨rfl, h0⟩ | ⟨t, rfl⟩
  · show some [] = some _
    exact congrArg some h0.symm
  · rfl
end Go.Proofs.Ytfnnonoffiljhaa
