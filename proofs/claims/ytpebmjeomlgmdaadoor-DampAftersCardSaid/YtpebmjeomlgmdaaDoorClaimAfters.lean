/- DampAfters, proved: for every rule, moisture and list of stays the law returns true, and the arguments read as before. Condition: the two tables of math/bits hold what the program's text lays (tied by the card). -/
import Derived.Test.YtpebmjeomlgmdaaDoorBaRw
import Derived.OpenShut
set_option linter.unusedSimpArgs false
set_option linter.unusedVariables false
namespace Go.Proofs.YtpebmjeomlgmdaaDoor.Tab
open Go Go.Abs Go.Proofs
set_option maxRecDepth 100000
section
attribute [local simp] frz_int frz_bool frz_vl frz_pv frz_agg frz_tup frz_fn frz_ref frz_sl frz_nils optAll orcF rb_int rb_bool rb_agg rb_tup rb_int' rb_bool' rb_vl rb_pv rb_yld rb_nilf rb_nilp rb_nils rb_any rb_und rb_ref rb_sl rb_fn slE chunk fillA evParts evParts3 putAt List.range_succ List.range_zero List.range'_succ List.range'_zero runX_nil' unary_not evalS_pure evAll_nil evAll_cons runX_cons stepX wantedA dop CV.ev cellsOf putK_eq setK_eq appK_eq fA_eq fI_eq fN_eq fRow_eq fRows_eq nth_eq Out.v putT List.replicate_succ AEx.thn AEx.blk arI pointee Abs.rowAt ldRow allV toV toC ofV ofC Builtin.min_ Builtin.min2 Builtin.max_ Builtin.max2 min_if max_if resA tupA kill trim_self trim_len trim_emp trim_nil lenA
attribute [local simp] runD_nil' runD_cons' stepD actK_eq actD clash disj masks holes maskH unmaskH diffs news eqB allB eqA ldRowN wrote toCs ofCs stA storable rowsV_vl rowsV_nils rowsOf dI1 dI2 dI3 dI5 elt
theorem o17_eq (u d l r : Int) (x : AVal) (ss : List Stay) (hx : rowsV x = some (ss.map rStay)) (hl : ss.length ≤ 1000) : o17 [.agg [I u, I d], .agg [I l, I r], x] = some (I (rcheckI u d l r ss)) := by
  simp only [o17, hx]
  rw [optAll_map (d := dI3) (enc := rStay) (fun _ => rfl)]
  simp [hl]
theorem o15_eq (u d l r : Int) (x : AVal) (ss : List Stay) (hx : rowsV x = some (ss.map rStay)) (hl : ss.length ≤ 1000) : o15 [.agg [I u, I d], .agg [I l, I r], x] = some (.tup [outV (if checkI u d l r ss = 0 then pRun u d ss (l, r) else []), I (checkI u d l r ss)]) := by
  simp only [o15, hx]
  rw [optAll_map (d := dI3) (enc := rStay) (fun _ => rfl)]
  simp [hl]
theorem o16_eq (u d l r : Int) (x : AVal) (ss : List Stay) (hx : rowsV x = some (ss.map rStay)) (hl : ss.length ≤ 1000) : o16 [.agg [I u, I d], .agg [I l, I r], x] = some (if checkI u d l r ss = 0 then .tup [I (kRun u d ss ⟨l, r, r, 0, 0⟩).most, I (kRun u d ss ⟨l, r, r, 0, 0⟩).hour, I 0] else .tup [I 0, I 0, I (checkI u d l r ss)]) := by
  simp only [o16, hx]
  rw [optAll_map (d := dI3) (enc := rStay) (fun _ => rfl)]
  simp [hl]
theorem o19_eq (u d l r : Int) (x : AVal) (ss : List Stay) (hx : rowsV x = some (ss.map rStay)) (hok : rcheckI u d l r ss = 0) : o19 [.agg [I u, I d], .agg [I l, I r], x] = some (.tup [.vl ((rRun u d ss ⟨l, r, r, 0, 0⟩).1.map fun p => [I p.1, I p.2]) (rRun u d ss ⟨l, r, r, 0, 0⟩).1.isEmpty, I (rRun u d ss ⟨l, r, r, 0, 0⟩).2.peak, I (rRun u d ss ⟨l, r, r, 0, 0⟩).2.first]) := by
  simp only [o19, hx]
  rw [optAll_map (d := dI3) (enc := rStay) (fun _ => rfl)]
  simp [okB, hok]
theorem oOwn_eq (x : AVal) (ss : List Stay) (hx : rowsV x = some (ss.map rStay)) (hl : ss.length ≤ 1000) : oOwn 3 [x] = some (.vl (ss.map rStay) (ss.length == 0)) := by
  simp only [oOwn, hx]
  simp [hl, rStay, flat]
theorem oSame_eq (s : Nat) (x y : AVal) (rs : List (List AVal)) (hx : rowsV x = some rs) (hy : rowsV y = some rs) (hl : rs.length ≤ 1000) (hr : ∀ r ∈ rs, r.length = s ∧ ∀ v ∈ r, isI v = true) : oSame s [x, y] = some (.bool true) := by
  simp only [oSame, hx, hy]
  rw [if_pos]
  refine ⟨hl, ?_, allB_self rs fun r h => (hr r h).2⟩
  simp only [List.all_eq_true, Bool.and_eq_true, beq_iff_eq]
  exact fun r h => ⟨(hr r h).1, (hr r h).2⟩
theorem outV_rows (rows : List (Int × Int)) : rowsV (outV rows) = some (rows.map fun p => [I p.1, I p.2]) := by
  unfold outV; cases rows <;> simp [rowsV]

theorem pRun_len (u d : Int) : ∀ (ss : List Stay) (p : Int × Int), (pRun u d ss p).length = ss.length
  | [], _ => rfl
  | t :: ss, p => by simp [pRun, pRun_len u d ss]

theorem law3 (u d l r : Int) (x : AVal) (ss : List Stay) (hx : rowsV x = some (ss.map rStay)) : Answers Tryd.prog TK 3 [.agg [I u, I d], .agg [I l, I r], x] [] fun v _ => v = .bool true := by
  have hT : TK 3 = some c3 := rfl
  have h12 : TK 12 = some { c12 with frsh := true, orc := o12 } := rfl
  have h13 : TK 13 = some { c13 with frsh := true, orc := oOwn 3 } := rfl
  have h14 : TK 14 = some { c14 with frsh := true, orc := o14 } := rfl
  have h15 : TK 15 = some { c15 with frsh := true, orc := o15 } := rfl
  have h16 : TK 16 = some { c16 with frsh := true, orc := o16 } := rfl
  have h17 : TK 17 = some { c17 with frsh := true, orc := o17 } := rfl
  have h18 : TK 18 = some { c18 with frsh := true, orc := oSame 3 } := rfl
  have h19 : TK 19 = some { c19 with frsh := true, orc := o19 } := rfl
  have h20 : TK 20 = some { c20 with frsh := true, orc := oSame 2 } := rfl
  have lx := rowsV_len hx
  rw [List.length_map] at lx
  refine answers_of hT (orcF_none rfl) ?_
  simp only [c3]
  refine runs_seq (runs_reg (ops_run (by simp; rfl) ?_))
  simp only [AEx.thn, AEx.blk]
  refine runs_seq (runs_seq (runs_reg (ops_run (by simp [lx, -lenA]; rfl) ?_)))
  simp only [AEx.thn, AEx.blk]
  refine runs_cond_split (x := decide ((15:Int) < (ss.length:Int))) (by simp) (fun h1 => ?_) (fun h1 => ?_)
  · refine runs_seq (runs_reg (ops_run (by simp [lop, loud, callA, calleeA, callF_step h12, h12, o12]; rfl) ?_))
    simp only [AEx.thn, AEx.blk]
    refine runs_ret ?_
    simp
  · have hl : ss.length ≤ 15 := by have := of_decide_eq_false h1; omega
    have hl' : ss.length ≤ 1000 := by omega
    refine runs_skip ?_
    simp only [AEx.thn, AEx.blk]
    have ho := oOwn_eq x ss hx hl'
    refine runs_seq (runs_reg (ops_run (by simp [lop, loud, callA, calleeA, callF_step h13, h13, ho, rowsV_frz hx]; rfl) ?_))
    simp only [AEx.thn, AEx.blk]
    have hin : rowsV (.vl (ss.map rStay) (ss.length == 0)) = some (ss.map rStay) := rfl
    have w14 := o14_eq u d l r _ ss hin hl'
    have w15 := o15_eq u d l r _ ss hin hl'
    have w16 := o16_eq u d l r _ ss hin hl'
    have w17 := o17_eq u d l r x ss hx hl'
    have hsm := oSame_eq 3 (.vl (ss.map rStay) (ss.length == 0)) x (ss.map rStay) hin hx (by simpa using hl') (by intro q hq; obtain ⟨t, _, rfl⟩ := List.mem_map.1 hq; exact ⟨rfl, by intro v hv; simp [rStay] at hv; rcases hv with rfl | rfl | rfl <;> rfl⟩)
    have w19 := o19_eq u d l r x ss hx
    rw [← check_same] at w17 w19
    have hok := checkI_ok (u := u) (d := d) (l := l) (r := r) (ss := ss)
    generalize checkI u d l r ss = e at *
    refine runs_seq (runs_reg (ops_run (by simp [lop, loud, callA, calleeA, callF_step h14, h14, w14]; rfl) ?_))
    simp only [AEx.thn, AEx.blk]
    refine runs_seq (runs_reg (ops_run (by simp [lop, loud, callA, calleeA, callF_step h15, h15, w15]; rfl) ?_))
    simp only [AEx.thn, AEx.blk]
    by_cases he : e = 0
    · subst he
      obtain ⟨hu, hd, hl0, hr0, _, _, hss⟩ := hok rfl
      have hrun := run_same hu hd ss ⟨l, r, r, 0, 0⟩ ⟨l, r, r, 0, 0⟩ (fun t ht => (hss t ht).1) ⟨rfl, rfl, rfl, rfl, rfl, Int.le_refl _, hl0, hr0⟩
      have w19 := w19 rfl
      rw [hrun.1, hrun.2.1, hrun.2.2] at w19
      simp only [if_true] at w15 w16 ⊢
      have hlen : (pRun u d ss (l, r)).length ≤ 1000 := by rw [pRun_len]; omega
      generalize pRun u d ss (l, r) = rows at *
      generalize kRun u d ss ⟨l, r, r, 0, 0⟩ = ks at *
      have hsp := oSame_eq 2 (outV rows) (.vl (rows.map fun p => [I p.1, I p.2]) rows.isEmpty) (rows.map fun p => [I p.1, I p.2]) (outV_rows rows) rfl (by simpa using hlen) (by intro q hq; obtain ⟨t, _, rfl⟩ := List.mem_map.1 hq; exact ⟨rfl, by intro v hv; simp at hv; rcases hv with rfl | rfl <;> rfl⟩)
      have hfo := rowsV_frz (outV_rows rows)
      generalize outV rows = ov at *
      refine runs_seq (runs_reg (ops_run (by simp [lop, loud, callA, calleeA, callF_step h16, h16, w16]; rfl) ?_))
      simp only [AEx.thn, AEx.blk]
      refine runs_seq (runs_reg (ops_run (by simp [lop, loud, callA, calleeA, callF_step h17, h17, w17, rowsV_frz hx]; rfl) ?_))
      simp only [AEx.thn, AEx.blk]
      refine runs_seq (runs_seq (runs_reg (ops_run (by simp [lop, loud, callA, calleeA, callF_step h18, h18, hsm, rowsV_frz hx]; rfl) ?_)))
      simp only [AEx.thn, AEx.blk]
      refine runs_cond (x := false) (by simp) ?_
      refine runs_skip ?_
      simp only [AEx.thn, AEx.blk]
      refine runs_seq (runs_seq (runs_reg (ops_run (by simp; rfl) ?_)))
      simp only [AEx.thn, AEx.blk]
      refine runs_cond (x := false) (by simp) ?_
      refine runs_skip ?_
      simp only [AEx.thn, AEx.blk]
      refine runs_seq (runs_reg (ops_run (by simp [lop, loud, callA, calleeA, callF_step h19, h19, w19, rowsV_frz hx]; rfl) ?_))
      simp only [AEx.thn, AEx.blk]
      refine runs_seq (runs_reg (ops_run (by simp [lop, loud, callA, calleeA, callF_step h20, h20, callF_step h12, h12, o12, hsp, hfo]; rfl) ?_))
      simp only [AEx.thn, AEx.blk]
      refine runs_ret ?_
      simp
    · have w15' : o15 [.agg [I u, I d], .agg [I l, I r], .vl (ss.map rStay) (ss.length == 0)] = some (.tup [.nils, I e]) := by rw [w15, if_neg he]; rfl
      have w16' : o16 [.agg [I u, I d], .agg [I l, I r], .vl (ss.map rStay) (ss.length == 0)] = some (.tup [I 0, I 0, I e]) := by rw [w16, if_neg he]
      simp only [he, if_false]
      refine runs_seq (runs_reg (ops_run (by simp [lop, loud, callA, calleeA, callF_step h16, h16, w16']; rfl) ?_))
      simp only [AEx.thn, AEx.blk]
      refine runs_seq (runs_reg (ops_run (by simp [lop, loud, callA, calleeA, callF_step h17, h17, w17, rowsV_frz hx]; rfl) ?_))
      simp only [AEx.thn, AEx.blk]
      refine runs_seq (runs_seq (runs_reg (ops_run (by simp [lop, loud, callA, calleeA, callF_step h18, h18, hsm, rowsV_frz hx]; rfl) ?_)))
      simp only [AEx.thn, AEx.blk]
      refine runs_cond (x := false) (by simp) ?_
      refine runs_skip ?_
      simp only [AEx.thn, AEx.blk]
      refine runs_seq (runs_seq (runs_reg (ops_run (by simp; rfl) ?_)))
      simp only [AEx.thn, AEx.blk]
      refine runs_cond (x := true) (by simp [he]) ?_
      refine runs_seq (runs_reg (ops_run (by simp [lop, loud, callA, calleeA, callF_step h12, h12, o12, outV]; rfl) ?_))
      simp only [AEx.thn, AEx.blk]
      refine runs_ret ?_
      simp

end
end Go.Proofs.YtpebmjeomlgmdaaDoor.Tab

namespace Go.Proofs.YtpebmjeomlgmdaaDoor
open Go Go.Abs Go.Proofs Go.ChangeShapes Go.WideShapes Go.ChangeAt Go.RowKit
set_option maxRecDepth 100000 in
theorem afters_lifted (os : Os) (started : os.Started) (H : Type) (enc : TypeId × Value → H) :
    ReturnsInHanded {} Tryd.checked os 3 .any (fun w args => (Rows.dampAftersSpec.pre enc Tryd.prog Tryd.f3 [] false w args ∧ laidMetH Tryd.prog laid w) ∧ sizedMet enc Tryd.prog Tryd.f3 (OpenSpec.ofChange Rows.dampAftersSpec) false w args)
      (Rows.dampAftersSpec.post enc Tryd.prog Tryd.f3 false true false false) := by
  refine returnsInHanded_of_change_and (C := Tryd.checked) (X := fun w _ => laidMetH Tryd.prog laid w) (fun _ _ _ hh h => h.of_heap hh) own started (by kernel_rfl) Tryd.func3
    (ChangeSpec.witness_shaped (enc := enc) (C := Tryd.checked) (os := os) (X := fun w _ => laidMetH Tryd.prog laid w) false (World.doorLaid Tryd.prog 400 os) #[.agg #[.int .i64 0, .int .i64 0], .agg #[.int .i64 0, .int .i64 0], .slice Option.none 0 0] 8 rfl (World.shaped_of_RefB (by kernel_rfl) (by kernel_rfl)) (by kernel_rfl) (by kernel_rfl) (by kernel_rfl) (door_met os _)) ?_
  intro W base args ds gs before hval0 hW _ _ hL _
  have hval : ∀ (j : Nat) t v, Tryd.f3.params[j]? = some t → args[j]? = some v → Value.okWide Tryd.prog W .any base t v := hval0
  have hW' := hW
  obtain ⟨p, q, hA0, hV, rfl, hfz, hnd⟩ := hW
  have hA : DataW.TrodAll enc Tryd.prog W 0 (fun _ => true) true Tryd.f3.params.toList args.toList ds p := hA0
  rw [Tryd.params3] at hA hval
  obtain ⟨v0, vs0, d0, ds0, p0, q0, hargs, rfl, rfl, h0, r0⟩ := trodAll_cons hA
  obtain ⟨v1, vs1, d1, ds1, p1, q1, rfl, rfl, rfl, h1, r1⟩ := trodAll_cons r0
  obtain ⟨v2, vs2, d2, ds2, p2, q2, rfl, rfl, rfl, h2, r2⟩ := trodAll_cons r1
  obtain ⟨rfl, rfl, rfl⟩ := trodAll_nil r2
  obtain rfl : args = #[v0, v1, v2] := by cases args; simp_all
  obtain ⟨rfl, rfl⟩ := trodVars_none hV
  have lt0 : ∀ x ∈ p0, x.block < W.heap.size := by obtain ⟨m, hm⟩ := h0; exact DataW.trod_lt m _ _ _ hm
  have lt1 : ∀ x ∈ p1, x.block < W.heap.size := by obtain ⟨m, hm⟩ := h1; exact DataW.trod_lt m _ _ _ hm
  have lt2 : ∀ x ∈ p2, x.block < W.heap.size := by obtain ⟨m, hm⟩ := h2; exact DataW.trod_lt m _ _ _ hm
  obtain ⟨x0, e0, f0⟩ := open_struct Tryd.underlying23 (L := [.int .i64, .int .i64]) (by kernel_rfl) (hval 0 _ v0 rfl rfl) h0
  obtain ⟨x1, e1, f1⟩ := open_struct Tryd.underlying25 (L := [.int .i64, .int .i64]) (by kernel_rfl) (hval 1 _ v1 rfl rfl) h1
  obtain ⟨a2, len2, cap2, rfl⟩ := okWide_slice Tryd.underlying26 (hval 2 _ v2 rfl rfl)
  obtain ⟨x2, e2, f2⟩ := open_cell (l := .sl [.int .i64, .int .i64, .int .i64]) (by kernel_rfl) rfl h2
  obtain ⟨u, d, rfl⟩ := fits_i2 f0
  obtain ⟨l, r, rfl⟩ := fits_i2 f1
  obtain ⟨rs, hx, hrs⟩ := fits_rows f2
  obtain ⟨ss, rfl⟩ := map_of (enc := fun s : Int × Int × Int => [AVal.int .i64 s.1, .int .i64 s.2.1, .int .i64 s.2.2]) (l := rs) fun a ha => by
    obtain ⟨a, b, c, rfl⟩ := fits_i3 (hrs a ha)
    exact ⟨(a, b, c), rfl⟩
  have hxx : rowsV x2 = some (ss.map Tab.rStay) := by
    rcases hx with ⟨rfl, h⟩ | ⟨t, rfl⟩
    · show some [] = some _
      exact congrArg some h.symm
    · rfl
  refine (law_calls Tab.mixed Tab.TK_ok (fun g r hg => hglob hL g r hg) (xs := [.agg [.int .i64 u, .int .i64 d], .agg [.int .i64 l, .int .i64 r], x2]) (rowR_cons e0 (rowR_cons e1 (rowR_cons e2 rowR_nil))) (Tab.law3 u d l r x2 ss hxx)).mono fun e W' ⟨he, bel⟩ => ?_
  subst he
  exact ⟨_, rfl, _, _, _, [], _, [], hW', trodAll_mk1 (shut_bool Tryd.underlying4 _), (trodAll_cons_mk (Below.trod laidOut (by kernel_rfl) (of_decide_eq_true (by kernel_rfl)) h0 bel lt0) (trodAll_cons_mk (Below.trod laidOut (by kernel_rfl) (of_decide_eq_true (by kernel_rfl)) h1 bel lt1) (trodAll_cons_mk (Below.trod laidOut (by kernel_rfl) (of_decide_eq_true (by kernel_rfl)) h2 bel lt2) trodAll_mk0))), rfl, bel.frame _, fun h => by cases h⟩

theorem afters_row : Rows.DampAftersSaid :=
  OpenClaim.holds_of_wide 3 Tryd.f3 rfl rfl rfl rfl rfl rfl rfl ⟨rfl, rfl, rfl, rfl, rfl⟩ rfl rfl rfl rfl rfl (by kernel_rfl) Tryd.func3 (by kernel_rfl)
    (of_decide_eq_true (by kernel_rfl)) (by unfold Func.isWrapper; first | (rw [if_pos (by decide +kernel)]; kernel_rfl) | (rw [if_neg (by decide +kernel)]; exact ⟨rfl, rfl⟩))
    (fun os started H enc _ => afters_lifted os started H enc)

/-- THE CARD. -/
theorem afters_holds : Rows.DampAftersCardSaid :=
  Claim7.holds_tied_plain_at .later [] [.data, .data] true (true, "56bad9879500f7b0b6633073609d1ea05cb756ca03497bd711519f01bbe68a63") false
    afters_row (fun _ h => by cases h) (by kernel_rfl) (fun _ h => by cases h) dampAfters_row_tie rfl ⟨rfl, rfl⟩ (by kernel_rfl) rfl
    (fun f fn hf hfn => by
      obtain rfl : f = 3 := Option.some.inj ((show Tryd.prog.funcNamed "testliner/testlinerlaw11.DampAfters" = some 3 by kernel_rfl).symm.trans hf) |>.symm
      obtain rfl : fn = Tryd.f3 := (Option.some.inj (Tryd.func3.symm.trans hfn)).symm
      exact ⟨by kernel_rfl, fun j t ht => by
        rw [Tryd.params3] at ht
        have hm : t ∈ [23, 25, 26] := by simpa using Array.mem_of_getElem? ht
        have hall : ([23, 25, 26].all fun u => !Tryd.prog.wantsStandIn u) = true := by kernel_rfl
        exact (show Tryd.prog.wantsStandIn t = false by simpa using List.all_eq_true.1 hall t hm)⟩)
    (by kernel_rfl)
end Go.Proofs.YtpebmjeomlgmdaaDoor
