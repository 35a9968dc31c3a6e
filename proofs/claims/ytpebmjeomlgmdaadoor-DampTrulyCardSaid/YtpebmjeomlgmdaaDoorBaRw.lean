/- known(), by the kernel: the whole. No condition. -/
import Derived.Test.YtpebmjeomlgmdaaDoorBaKo
import Derived.Test.YtpebmjeomlgmdaaDoorBaK
import Derived.Test.YtpebmjeomlgmdaaDoorBaC
import Derived.Test.YtpebmjeomlgmdaaDoorCards
import Derived.Test.YtpebmjeomlgmdaaDoorTie
import Derived.SevenTiedAt
import Derived.Stop.Joined
set_option linter.unusedSimpArgs false
set_option linter.unusedVariables false
namespace Go.Proofs.YtpebmjeomlgmdaaDoor.Tab
open Go Go.Abs Go.Proofs
set_option maxRecDepth 1000000
theorem kn : isR (.bool true) (callF TK5 (exec Tryd.prog TK5 3000) 12 [] []) = true := by kernel_rfl
def o12 : List AVal → Option AVal
  | [] => some (.bool true)
  | _ => none
noncomputable def TK : Nat → Option CFn := upd TK5 12 true o12
theorem TK_ok : TabOk Tryd.prog GG TK := tab_add mixed TK5_ok fun args v ho => by
  unfold o12 at ho; split at ho <;> simp at ho
  subst ho
  exact isR_answers kn
end Go.Proofs.YtpebmjeomlgmdaaDoor.Tab

namespace Go.Proofs.YtpebmjeomlgmdaaDoor
open Go Go.Abs Go.Proofs Go.ChangeShapes Go.WideShapes Go.ChangeAt Go.RowKit
theorem own : ownKnob Tryd.prog.godebug = none := by kernel_rfl
theorem laidOut : laidOutB Tryd.prog = true := by kernel_rfl
theorem gA : Tryd.prog.globalNamed "math/bits.deBruijn32tab" = some 0 := by kernel_rfl
theorem gB : Tryd.prog.globalNamed "math/bits.deBruijn64tab" = some 1 := by kernel_rfl
abbrev laid : List (String × DataW Unit) := [("math/bits.deBruijn32tab", Rows.laid_math_bits_deBruijn32tab), ("math/bits.deBruijn64tab", Rows.laid_math_bits_deBruijn64tab)]
theorem door_met (os : Os) (args : Array Value) : laidMetH Tryd.prog laid ((World.doorLaid Tryd.prog 400 os).forCall (fun _ _ => 0) ⟨#[], args, []⟩).memory :=
  laidMetH_of_parts3 (fuel := 8) (laidMet_of_run' 8 (by kernel_rfl) (by kernel_rfl)) (by kernel_rfl) (by kernel_rfl)

theorem tA : (Tryd.prog.globals[0]?).map (·.type) = some 199 := by kernel_rfl
theorem tB : (Tryd.prog.globals[1]?).map (·.type) = some 200 := by kernel_rfl
theorem u199 : Tryd.prog.underlying 199 = some (.array 32 5) := by kernel_rfl
theorem u200 : Tryd.prog.underlying 200 = some (.array 64 5) := by kernel_rfl
theorem u5 : Tryd.prog.underlying 5 = some (.int .u8) := by kernel_rfl

/-- The tables of math/bits, as the condition lays them. -/
theorem hglob {W : World} (h : laidMetH Tryd.prog laid W) (g : Nat) (r : List AVal) (hg : Tab.GG g = some r) : Abs.VR ρ0 (fun b => b < W.heap.size) W (fun _ => False) (.pv r 0) (.pointer (some ⟨g, 0, Option.none⟩)) := by
  rw [MakeChecks.laidMetH_plain _ _ _ (by kernel_rfl)] at h
  obtain ⟨ps, ⟨g0, t0, cs0, f0, p0, q0, hg0, ht0, hv0, hd0, ⟨g1, t1, cs1, f1, p1, q1, hg1, ht1, hv1, hd1, _, _⟩, _⟩, _, _⟩ := h
  obtain rfl := Option.some.inj (gA.symm.trans hg0)
  obtain rfl := Option.some.inj (gB.symm.trans hg1)
  obtain rfl := Option.some.inj (tA.symm.trans ht0)
  obtain rfl := Option.some.inj (tB.symm.trans ht1)
  have key : ∀ (g : Nat) (n : String) (cs : Array Value) (ns : List Int), Tryd.prog.globalNamed n = some g → W.var? Tryd.prog n = some cs → cs.toList = ns.map (fun m => Value.int .u8 m) → 0 < ns.length →
      Abs.VR ρ0 (fun b => b < W.heap.size) W (fun _ => False) (.pv (ns.map fun n => .int .u8 n) 0) (.pointer (some ⟨g, 0, Option.none⟩)) := by
    intro g n cs ns hn hv hcs hlen
    have hcell : ∀ j, j < ns.length → W.cell? ⟨g, j, Option.none⟩ = some (.int .u8 (ns.getD j 0)) := fun j hj => by
      rw [World.var?_cell hn hv j]
      have : cs.toList[j]? = some (.int .u8 (ns.getD j 0)) := by
        rw [hcs, List.getElem?_map, List.getElem?_eq_getElem hj]
        simp [hj]
      simpa using this
    refine table_vr hcell ?_
    have := hcell 0 hlen
    unfold World.cell? at this
    split at this
    · rename_i hh; exact (Array.getElem?_eq_some_iff.1 hh).1
    · simp at this
  match g, hg with
  | 0, hg =>
    have e : r = Tab.deBruijn32.map fun n => AVal.int .u8 n := (Option.some.inj hg).symm
    rw [e]
    exact key 0 _ cs0 Tab.deBruijn32 gA hv0 (trod_ints (ns := Tab.deBruijn32) u199 u5 (by kernel_rfl) (by kernel_rfl) f0 hd0) (by decide)
  | 1, hg =>
    have e : r = Tab.deBruijn64.map fun n => AVal.int .u8 n := (Option.some.inj hg).symm
    rw [e]
    exact key 1 _ cs1 Tab.deBruijn64 gB hv1 (trod_ints (ns := Tab.deBruijn64) u200 u5 (by kernel_rfl) (by kernel_rfl) f1 hd1) (by decide)
  | n + 2, hg => simp [Tab.GG] at hg
end Go.Proofs.YtpebmjeomlgmdaaDoor
