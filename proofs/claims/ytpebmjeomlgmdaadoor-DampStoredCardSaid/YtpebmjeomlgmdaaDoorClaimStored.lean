/- DampStored, proved: for all pallets and rooms in bytes the law returns true, and the arguments read as before. Condition: the two tables of math/bits hold what the program lays (tied by the card). -/
import Derived.OpenShut
import Derived.Test.YtpebmjeomlgmdaaDoorPzFDz
set_option linter.unusedSimpArgs false
set_option linter.unusedVariables false
namespace Go.Proofs.YtpebmjeomlgmdaaDoor
open Go Go.Abs Go.Proofs Go.ChangeShapes Go.WideShapes Go.ChangeAt Go.RowKit
set_option maxRecDepth 100000 in
theorem stored_lifted (os : Os) (started : os.Started) (H : Type) (enc : TypeId × Value → H) :
    ReturnsInHanded {} Tryd.checked os 9 .any (fun w args => (Rows.dampStoredSpec.pre enc Tryd.prog Tryd.f9 [] false w args ∧ laidMetH Tryd.prog laid w) ∧ sizedMet enc Tryd.prog Tryd.f9 (OpenSpec.ofChange Rows.dampStoredSpec) false w args)
      (Rows.dampStoredSpec.post enc Tryd.prog Tryd.f9 false true false false) := by
  refine returnsInHanded_of_change_and (C := Tryd.checked) (X := fun w _ => laidMetH Tryd.prog laid w) (fun _ _ _ hh h => h.of_heap hh) own started (by kernel_rfl) Tryd.func9
    (ChangeSpec.witness_shaped (enc := enc) (C := Tryd.checked) (os := os) (X := fun w _ => laidMetH Tryd.prog laid w) false (World.doorLaid Tryd.prog 400 os) #[.agg #[.slice Option.none 0 0, .slice Option.none 0 0], .agg #[.int .u8 0, .int .u8 0], .slice Option.none 0 0] 8 rfl (World.shaped_of_RefB (by kernel_rfl) (by kernel_rfl)) (by kernel_rfl) (by kernel_rfl) (by kernel_rfl) (door_met os _)) ?_
  intro W base args ds gs before hval0 hW _ _ hL _
  have hval : ∀ (j : Nat) t v, Tryd.f9.params[j]? = some t → args[j]? = some v → Value.okWide Tryd.prog W .any base t v := hval0
  have hW' := hW
  obtain ⟨p, q, hA0, hV, rfl, hfz, hnd⟩ := hW
  have hA : DataW.TrodAll enc Tryd.prog W 0 (fun _ => true) true Tryd.f9.params.toList args.toList ds p := hA0
  rw [Tryd.params9] at hA hval
  obtain ⟨v0, vs0, d0, ds0, p0, q0, hargs, rfl, rfl, h0, r0⟩ := trodAll_cons hA
  obtain ⟨v1, vs1, d1, ds1, p1, q1, rfl, rfl, rfl, h1, r1⟩ := trodAll_cons r0
  obtain ⟨v2, vs2, d2, ds2, p2, q2, rfl, rfl, rfl, h2, r2⟩ := trodAll_cons r1
  obtain ⟨rfl, rfl, rfl⟩ := trodAll_nil r2
  obtain rfl : args = #[v0, v1, v2] := by cases args; simp_all
  obtain ⟨rfl, rfl⟩ := trodVars_none hV
  have lt0 : ∀ x ∈ p0, x.block < W.heap.size := by obtain ⟨m, hm⟩ := h0; exact DataW.trod_lt m _ _ _ hm
  have lt1 : ∀ x ∈ p1, x.block < W.heap.size := by obtain ⟨m, hm⟩ := h1; exact DataW.trod_lt m _ _ _ hm
  have lt2 : ∀ x ∈ p2, x.block < W.heap.size := by obtain ⟨m, hm⟩ := h2; exact DataW.trod_lt m _ _ _ hm
  obtain ⟨x0, e0, f0⟩ := open_struct Tryd.underlying90 (L := [.sl [.int .u8, .int .u8, .int .u8, .int .u8], .sl [.int .u8, .int .u8, .int .u8]]) (by kernel_rfl) (hval 0 _ v0 rfl rfl) h0
  obtain ⟨xd, yd, rs4, rs3, rfl, hxd, hrs4, hyd, hrs3⟩ := fits_depot f0
  obtain ⟨x1, e1, f1⟩ := open_array Tryd.underlying70 (L := [.int .u8, .int .u8]) (by kernel_rfl) (hval 1 _ v1 rfl rfl) h1
  obtain ⟨l0, l1, rfl, hl0, hl1⟩ := fits_8 f1
  obtain ⟨sa2, sn2, sc2, rfl⟩ := okWide_slice Tryd.underlying74 (hval 2 _ v2 rfl rfl)
  obtain ⟨x2, e2, f2⟩ := open_cell (l := .sl [.int .u8]) (by kernel_rfl) rfl h2
  obtain ⟨mix, hmix, hmb⟩ := fits_list f2 fun r => fits_r1
  refine (law_callsC (fun g r hg => hglob hL g r hg) (xs := [.agg [xd, yd], .agg [.int .u8 (l0 : Nat), .int .u8 (l1 : Nat)], x2]) (rowR_cons e0 (rowR_cons e1 (rowR_cons e2 rowR_nil))) (Tab.law9 xd yd x2 rs4 rs3 mix hxd hyd hmix hrs4 hrs3 hmb l0 l1 hl0 hl1)).mono fun e W' ⟨he, bel⟩ => ?_
  subst he
  exact ⟨_, rfl, _, _, _, [], _, [], hW', trodAll_mk1 (shut_bool Tryd.underlying4 _), (trodAll_cons_mk (Below.trod laidOut (by kernel_rfl) (of_decide_eq_true (by kernel_rfl)) h0 bel lt0) (trodAll_cons_mk (Below.trod laidOut (by kernel_rfl) (of_decide_eq_true (by kernel_rfl)) h1 bel lt1) (trodAll_cons_mk (Below.trod laidOut (by kernel_rfl) (of_decide_eq_true (by kernel_rfl)) h2 bel lt2) trodAll_mk0))), rfl, bel.frame _, fun h => by cases h⟩
theorem stored_row : Rows.DampStoredSaid :=
  OpenClaim.holds_of_wide 9 Tryd.f9 rfl rfl rfl rfl rfl rfl rfl ⟨rfl, rfl, rfl, rfl, rfl⟩ rfl rfl rfl rfl rfl (by kernel_rfl) Tryd.func9 (by kernel_rfl)
    (of_decide_eq_true (by kernel_rfl)) (by unfold Func.isWrapper; first | (rw [if_pos (by decide +kernel)]; kernel_rfl) | (rw [if_neg (by decide +kernel)]; exact ⟨rfl, rfl⟩))
    (fun os started H enc _ => stored_lifted os started H enc)
/-- THE CARD. -/
theorem stored_holds : Rows.DampStoredCardSaid :=
  Claim7.holds_tied_plain_at .later [] [.data, .data] true (true, "56bad9879500f7b0b6633073609d1ea05cb756ca03497bd711519f01bbe68a63") false
    stored_row (fun _ h => by cases h) (by kernel_rfl) (fun _ h => by cases h) dampStored_row_tie rfl ⟨rfl, rfl⟩ (by kernel_rfl) rfl
    (fun f fn hf hfn => by
      obtain rfl : f = 9 := Option.some.inj ((show Tryd.prog.funcNamed "testliner/testlinerlaw11.DampStored" = some 9 by kernel_rfl).symm.trans hf) |>.symm
      obtain rfl : fn = Tryd.f9 := (Option.some.inj (Tryd.func9.symm.trans hfn)).symm
      exact ⟨by kernel_rfl, fun j t ht => by
        rw [Tryd.params9] at ht
        have hm : t ∈ [90, 70, 74] := by simpa using Array.mem_of_getElem? ht
        have hall : ([90, 70, 74].all fun u => !Tryd.prog.wantsStandIn u) = true := by kernel_rfl
        exact (show Tryd.prog.wantsStandIn t = false by simpa using List.all_eq_true.1 hall t hm)⟩)
    (by kernel_rfl)
#print axioms stored_holds
end Go.Proofs.YtpebmjeomlgmdaaDoor
