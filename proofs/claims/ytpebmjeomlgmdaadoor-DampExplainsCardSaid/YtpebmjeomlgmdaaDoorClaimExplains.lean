/- DampExplains, proved: for every list of causes, signs seen and signs missing the law returns true, and the arguments read as before. Condition: the two tables of math/bits hold what the program lays (tied by the card). -/
import Derived.OpenShut
import Derived.Test.YtpebmjeomlgmdaaDoorPzCDx
import Derived.Test.YtpebmjeomlgmdaaDoorPzEDx
set_option linter.unusedSimpArgs false
set_option linter.unusedVariables false
namespace Go.Proofs.YtpebmjeomlgmdaaDoor
open Go Go.Abs Go.Proofs Go.ChangeShapes Go.WideShapes Go.ChangeAt Go.RowKit
set_option maxRecDepth 100000 in
theorem explains_lifted (os : Os) (started : os.Started) (H : Type) (enc : TypeId × Value → H) :
    ReturnsInHanded {} Tryd.checked os 5 .any (fun w args => (Rows.dampExplainsSpec.pre enc Tryd.prog Tryd.f5 [] false w args ∧ laidMetH Tryd.prog laid w) ∧ sizedMet enc Tryd.prog Tryd.f5 (OpenSpec.ofChange Rows.dampExplainsSpec) false w args)
      (Rows.dampExplainsSpec.post enc Tryd.prog Tryd.f5 false true false false) := by
  refine returnsInHanded_of_change_and (C := Tryd.checked) (X := fun w _ => laidMetH Tryd.prog laid w) (fun _ _ _ hh h => h.of_heap hh) own started (by kernel_rfl) Tryd.func5
    (ChangeSpec.witness_shaped (enc := enc) (C := Tryd.checked) (os := os) (X := fun w _ => laidMetH Tryd.prog laid w) false (World.doorLaid Tryd.prog 400 os) #[.slice Option.none 0 0, .int .i64 0, .int .i64 0] 8 rfl (World.shaped_of_RefB (by kernel_rfl) (by kernel_rfl)) (by kernel_rfl) (by kernel_rfl) (by kernel_rfl) (door_met os _)) ?_
  intro W base args ds gs before hval0 hW _ _ hL _
  have hval : ∀ (j : Nat) t v, Tryd.f5.params[j]? = some t → args[j]? = some v → Value.okWide Tryd.prog W .any base t v := hval0
  have hW' := hW
  obtain ⟨p, q, hA0, hV, rfl, hfz, hnd⟩ := hW
  have hA : DataW.TrodAll enc Tryd.prog W 0 (fun _ => true) true Tryd.f5.params.toList args.toList ds p := hA0
  rw [Tryd.params5] at hA hval
  obtain ⟨v0, vs0, d0, ds0, p0, q0, hargs, rfl, rfl, h0, r0⟩ := trodAll_cons hA
  obtain ⟨v1, vs1, d1, ds1, p1, q1, rfl, rfl, rfl, h1, r1⟩ := trodAll_cons r0
  obtain ⟨v2, vs2, d2, ds2, p2, q2, rfl, rfl, rfl, h2, r2⟩ := trodAll_cons r1
  obtain ⟨rfl, rfl, rfl⟩ := trodAll_nil r2
  obtain rfl : args = #[v0, v1, v2] := by cases args; simp_all
  obtain ⟨rfl, rfl⟩ := trodVars_none hV
  have lt0 : ∀ x ∈ p0, x.block < W.heap.size := by obtain ⟨m, hm⟩ := h0; exact DataW.trod_lt m _ _ _ hm
  have lt1 : ∀ x ∈ p1, x.block < W.heap.size := by obtain ⟨m, hm⟩ := h1; exact DataW.trod_lt m _ _ _ hm
  have lt2 : ∀ x ∈ p2, x.block < W.heap.size := by obtain ⟨m, hm⟩ := h2; exact DataW.trod_lt m _ _ _ hm
  obtain ⟨sa0, sn0, sc0, rfl⟩ := okWide_slice Tryd.underlying55 (hval 0 _ v0 rfl rfl)
  obtain ⟨x0, e0, f0⟩ := open_cell (l := .sl [.int .i64, .int .i64]) (by kernel_rfl) rfl h0
  obtain ⟨rs, hx, hrs⟩ := fits_rows f0
  obtain ⟨ss, rfl⟩ := map_of (enc := fun s : Int × Int => [Za.int .i64 s.1, .int .i64 s.2]) (l := rs) fun a ha => by
    obtain ⟨a, b, rfl⟩ := fits_i2 (hrs a ha)
    exact ⟨(a, b), rfl⟩
  have hxx : Zs x0 = some (ss.map Tab.rQ) := by
    rcases hx with ⟨rfl, h⟩ | ⟨t, rfl⟩
    · show some [] = some _
      exact congrArg some h.symm
    · rfl
  obtain ⟨n1, rfl⟩ := okWide_int Tryd.underlying3 (hval 1 _ v1 rfl rfl)
  obtain ⟨x1, e1, f1⟩ := open_cell (l := .int .i64) (by kernel_rfl) rfl h1
  obtain ⟨m1, rfl, _⟩ := fits_int f1
  obtain ⟨n2, rfl⟩ := okWide_int Tryd.underlying3 (hval 2 _ v2 rfl rfl)
  obtain ⟨x2, e2, f2⟩ := open_cell (l := .int .i64) (by kernel_rfl) rfl h2
  obtain ⟨m2, rfl, _⟩ := fits_int f2
  refine (law_calls Tab.mixed Tab.DP3_ok (fun g r hg => hglob hL g r hg) (xs := [x0, .int .i64 m1, .int .i64 m2]) (rowR_cons e0 (rowR_cons e1 (rowR_cons e2 rowR_nil))) (Tab.law5 x0 ss hxx m1 m2)).mono fun e W' ⟨he, bel⟩ => ?_
  subst he
  exact ⟨_, rfl, _, _, _, [], _, [], hW', trodAll_mk1 (shut_bool Tryd.underlying4 _), (trodAll_cons_mk (Below.trod laidOut (by kernel_rfl) (of_decide_eq_true (by kernel_rfl)) h0 bel lt0) (trodAll_cons_mk (Below.trod laidOut (by kernel_rfl) (of_decide_eq_true (by kernel_rfl)) h1 bel lt1) (trodAll_cons_mk (Below.trod laidOut (by kernel_rfl) (of_decide_eq_true (by kernel_rfl)) h2 bel lt2) trodAll_mk0))), rfl, bel.frame _, fun h => by cases h⟩
theorem explains_row : Rows.DampExplainsSaid :=
  OpenClaim.holds_of_wide 5 Tryd.f5 rfl rfl rfl rfl rfl rfl rfl ⟨rfl, rfl, rfl, rfl, rfl⟩ rfl rfl rfl rfl rfl (by kernel_rfl) Tryd.func5 (by kernel_rfl)
    (of_decide_eq_true (by kernel_rfl)) (by unfold Func.isWrapper; first | (rw [if_pos (by decide +kernel)]; kernel_rfl) | (rw [if_neg (by decide +kernel)]; exact ⟨rfl, rfl⟩))
    (fun os started H enc _ => explains_lifted os started H enc)
/-- THE CARD. -/
theorem explains_holds : Rows.DampExplainsCardSaid :=
  Claim7.holds_tied_plain_at .later [] [.data, .data] true (true, "56bad9879500f7b0b6633073609d1ea05cb756ca03497bd711519f01bbe68a63") false
    explains_row (fun _ h => by cases h) (by kernel_rfl) (fun _ h => by cases h) dampExplains_row_tie rfl ⟨rfl, rfl⟩ (by kernel_rfl) rfl
    (fun f fn hf hfn => by
      obtain rfl : f = 5 := Option.some.inj ((show Tryd.prog.funcNamed "testliner/testlinerlaw11.DampExplains" = some 5 by kernel_rfl).symm.trans hf) |>.symm
      obtain rfl : fn = Tryd.f5 := (Option.some.inj (Tryd.func5.symm.trans hfn)).symm
      exact ⟨by kernel_rfl, fun j t ht => by
        rw [Tryd.params5] at ht
        have hm : t ∈ [55, 3] := by simpa using Array.mem_of_getElem? ht
        have hall : ([55, 3].all fun u => !Tryd.prog.wantsStandIn u) = true := by kernel_rfl
        exact (show Tryd.prog.wantsStandIn t = false by simpa using List.all_eq_true.1 hall t hm)⟩)
    (by kernel_rfl)
#print axioms explains_holds
end Go.Proofs.YtpebmjeomlgmdaaDoor
