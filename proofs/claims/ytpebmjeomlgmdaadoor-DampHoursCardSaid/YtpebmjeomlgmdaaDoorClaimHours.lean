/- DampHours, proved: for every rule, bed and table the law returns true, and the arguments read as before. Condition: the two tables of math/bits hold what the program's text lays (tied by the card). -/
import Derived.Test.YtpebmjeomlgmdaaDoorBaCu
import Derived.Test.YtpebmjeomlgmdaaDoorBaRw
import Derived.OpenShut
set_option linter.unusedSimpArgs false
set_option linter.unusedVariables false
namespace Go.Proofs.YtpebmjeomlgmdaaDoor.Tab
open Go Go.Abs Go.Proofs
set_option maxRecDepth 100000
set_option maxHeartbeats 4000000
section
attribute [local simp] frz_int frz_bool frz_vl frz_pv frz_agg frz_tup frz_fn frz_ref frz_sl frz_nils optAll orcF rb_int rb_bool rb_agg rb_tup rb_int' rb_bool' rb_vl rb_pv rb_yld rb_nilf rb_nilp rb_nils rb_any rb_und rb_ref rb_sl rb_fn slE chunk fillA evParts evParts3 putAt List.range_succ List.range_zero List.range'_succ List.range'_zero runX_nil' unary_not evalS_pure evAll_nil evAll_cons runX_cons stepX wantedA dop CV.ev cellsOf putK_eq setK_eq appK_eq fA_eq fI_eq fN_eq fRow_eq fRows_eq nth_eq Out.v putT List.replicate_succ AEx.thn AEx.blk arI pointee Abs.rowAt ldRow allV toV toC ofV ofC Builtin.min_ Builtin.min2 Builtin.max_ Builtin.max2 min_if max_if resA tupA kill trim_self trim_len trim_emp trim_nil lenA
attribute [local simp] runD_nil' runD_cons' stepD actK_eq actD clash disj masks holes maskH unmaskH diffs news eqB allB eqA ldRowN wrote toCs ofCs stA storable rowsV_vl rowsV_nils rowsOf dI1 dI2 dI3 dI5 elt
theorem o22_eq (x : AVal) (l h : Int) (ts : List Step) (hx : rowsV x = some (ts.map rStep)) (hl : ts.length ≤ 1000) : o22 [x, .agg [I l, I h]] = some (if keepE ts l h = 0 then .tup [.agg [I (kept h ts), I (kept l ts)], I 0] else .tup [.agg [I 0, I 0], I (keepE ts l h)]) := by
  simp only [o22, hx]
  rw [optAll_map (d := dI2) (enc := rStep) (fun _ => rfl)]
  simp [hl]
theorem o24_eq (x : AVal) (ts : List Step) (hx : rowsV x = some (ts.map rStep)) (hl : ts.length ≤ 1000) : o24 [x] = some (.bool (tableB ts)) := by
  simp only [o24, hx]
  rw [optAll_map (d := dI2) (enc := rStep) (fun _ => rfl)]
  simp [hl]
theorem o26_eq (x : AVal) (l h : Int) (ts : List Step) (hx : rowsV x = some (ts.map rStep)) (hl : ts.length ≤ 1000) (hb : spanB l h 0 300 = true) : o26 [x, .agg [I l, I h]] = some (.agg [I (rKeep ts l h).1, I (rKeep ts l h).2]) := by
  simp only [o26, hx]
  rw [optAll_map (d := dI2) (enc := rStep) (fun _ => rfl)]
  simp [hl, hb]
theorem o28_eq (u d sl sh rl rh ll lh : Int) : o28 [.agg [I u, I d], .agg [I sl, I sh], .agg [I rl, I rh], .agg [I ll, I lh], I 500] = some (I (rhRun u d rl rh ll lh 500 501 0 sl sh (-1))) := by
  simp [o28]

theorem law4b (u d sl sh rl rh ll lh n e : Int) (v0 v1 v2 v5 v6 v7 v10 v11 v12 v13 v14 v15 v16 v17 v18 v19 v20 v21 v22 v23 v24 v25 v26 v27 v28 v29 v30 v31 v32 v33 v34 v35 v36 v37 v38 v39 v40 v41 v42 v43 v44 v45 v46 v47 v48 v49 v50 v51 v52 v53 v54 v55 v56 v57 v58 v59 v60 v61 v62 v63 v64 v65 v66 v67 v68 v69 v70 v71 v72 v73 v74 v75 v76 v77 v78 v79 v80 v81 v82 v83 v84 v85 v86 v87 v88 v89 v90 v91 v92 v93 v94 v95 v96 v97 v98 v99 v100 v101 v102 v103 v104 v105 v106 v107 v108 v109 v110 v111 v112 v113 v114 v115 v116 v117 v118 v119 v120 v121 v122 v123 v124 v125 v126 v127 v128 v129 : AVal) (g : Heap) (hn : n = if hoursE u d sl sh rl rh ll lh = 0 then hRun u d sl sh rl rh ll lh 500 0 else 0) (he : e = hoursE u d sl sh rl rh ll lh) :
    Runs Tryd.prog TM none (.seq (.reg [⟨(some 13), (.mv (.c (.int .i64 (0)))), none, []⟩, ⟨(some 14), (.mv (.c (.int .i64 (0)))), none, []⟩]) (.seq (.seq (.reg [⟨(some 79), (.ldn 2 (.t 3)), none, []⟩, ⟨(some 80), (.call (.c (.fn 27 [] [])) [(.t 79)]), none, []⟩, ⟨(some 81), (.un .not (.t 80)), none, []⟩]) (.cond (.t 81) (.reg [⟨(some 13), (.mv (.c (.int .i64 (2)))), none, []⟩]) (.seq (.reg [⟨(some 82), (.fa 0 (.t 4)), none, []⟩, ⟨(some 83), (.ldn 2 (.t 82)), none, []⟩, ⟨(some 84), (.call (.c (.fn 25 [] [])) [(.t 83)]), none, []⟩, ⟨(some 85), (.un .not (.t 84)), none, []⟩, ⟨(some 86), (.mv (.t 85)), none, []⟩, ⟨(some 87), (.fa 2 (.t 4)), (some (86, false)), []⟩, ⟨(some 88), (.ldn 2 (.t 87)), (some (86, false)), []⟩, ⟨(some 89), (.call (.c (.fn 25 [] [])) [(.t 88)]), (some (86, false)), []⟩, ⟨(some 90), (.un .not (.t 89)), (some (86, false)), []⟩, ⟨(some 91), (.pick (.t 86) (.c (.bool true)) (.t 90)), none, []⟩, ⟨(some 92), (.mv (.t 91)), none, []⟩, ⟨(some 93), (.fa 4 (.t 4)), (some (92, false)), []⟩, ⟨(some 94), (.ldn 2 (.t 93)), (some (92, false)), []⟩, ⟨(some 95), (.call (.c (.fn 25 [] [])) [(.t 94)]), (some (92, false)), []⟩, ⟨(some 96), (.un .not (.t 95)), (some (92, false)), []⟩, ⟨(some 97), (.pick (.t 92) (.c (.bool true)) (.t 96)), none, []⟩]) (.cond (.t 97) (.reg [⟨(some 13), (.mv (.c (.int .i64 (3)))), none, []⟩]) (.seq (.reg [⟨(some 98), (.ldn 2 (.t 3)), none, []⟩, ⟨(some 99), (.fa 0 (.t 4)), none, []⟩, ⟨(some 100), (.ldn 2 (.t 99)), none, []⟩, ⟨(some 101), (.fa 2 (.t 4)), none, []⟩, ⟨(some 102), (.ldn 2 (.t 101)), none, []⟩, ⟨(some 103), (.fa 4 (.t 4)), none, []⟩, ⟨(some 104), (.ldn 2 (.t 103)), none, []⟩, ⟨(some 105), (.call (.c (.fn 28 [] [])) [(.t 98), (.t 100), (.t 102), (.t 104), (.c (.int .i64 (500)))]), none, []⟩, ⟨(some 14), (.mv (.t 105)), none, []⟩]) (.seq (.reg [⟨(some 106), (.mv (.t 14)), none, []⟩, ⟨(some 107), (.ar .lss (.t 106) (.c (.int .i64 (0)))), none, []⟩]) (.cond (.t 107) (.reg [⟨(some 13), (.mv (.c (.int .i64 (9)))), none, []⟩]) .skip))))))) (.seq (.seq (.reg [⟨(some 108), (.mv (.t 13)), none, []⟩, ⟨(some 109), (.ar .neq (.t 108) (.c (.int .i64 (0)))), none, []⟩]) (.cond (.t 109) (.seq (.reg [⟨(some 110), (.mv (.t 9)), none, []⟩, ⟨(some 111), (.mv (.t 13)), none, []⟩, ⟨(some 112), (.ar .eql (.t 110) (.t 111)), none, []⟩, ⟨(some 113), (.mv (.t 112)), none, []⟩, ⟨(some 114), (.mv (.t 8)), (some (113, true)), []⟩, ⟨(some 115), (.ar .eql (.t 114) (.c (.int .i64 (0)))), (some (113, true)), []⟩, ⟨(some 116), (.pick (.t 113) (.t 115) (.c (.bool false))), none, []⟩, ⟨(some 117), (.mv (.t 116)), none, []⟩, ⟨(some 118), (.call (.c (.fn 12 [] [])) []), (some (117, true)), []⟩, ⟨(some 119), (.pick (.t 117) (.t 118) (.c (.bool false))), none, []⟩, ⟨(some 6), (.mv (.t 119)), none, []⟩]) .ret) .skip)) (.seq (.reg [⟨(some 120), (.mv (.t 9)), none, []⟩, ⟨(some 121), (.ar .eql (.t 120) (.c (.int .i64 (0)))), none, []⟩, ⟨(some 122), (.mv (.t 121)), none, []⟩, ⟨(some 123), (.mv (.t 8)), (some (122, true)), []⟩, ⟨(some 124), (.mv (.t 14)), (some (122, true)), []⟩, ⟨(some 125), (.ar .eql (.t 123) (.t 124)), (some (122, true)), []⟩, ⟨(some 126), (.pick (.t 122) (.t 125) (.c (.bool false))), none, []⟩, ⟨(some 127), (.mv (.t 126)), none, []⟩, ⟨(some 128), (.call (.c (.fn 12 [] [])) []), (some (127, true)), []⟩, ⟨(some 129), (.pick (.t 127) (.t 128) (.c (.bool false))), none, []⟩, ⟨(some 6), (.mv (.t 129)), none, []⟩]) .ret)))) ⟨[v0, v1, v2, .ref 0 0 0, .ref 1 0 0, v5, v6, v7, I n, I e, v10, v11, v12, v13, v14, v15, v16, v17, v18, v19, v20, v21, v22, v23, v24, v25, v26, v27, v28, v29, v30, v31, v32, v33, v34, v35, v36, v37, v38, v39, v40, v41, v42, v43, v44, v45, v46, v47, v48, v49, v50, v51, v52, v53, v54, v55, v56, v57, v58, v59, v60, v61, v62, v63, v64, v65, v66, v67, v68, v69, v70, v71, v72, v73, v74, v75, v76, v77, v78, v79, v80, v81, v82, v83, v84, v85, v86, v87, v88, v89, v90, v91, v92, v93, v94, v95, v96, v97, v98, v99, v100, v101, v102, v103, v104, v105, v106, v107, v108, v109, v110, v111, v112, v113, v114, v115, v116, v117, v118, v119, v120, v121, v122, v123, v124, v125, v126, v127, v128, v129], some (.row 2 [[I u, I d]]) :: some (.row 6 [[I sl, I sh, I rl, I rh, I ll, I lh]]) :: g⟩ (fun x σ => (∀ id, x ≠ .exit id) ∧ ∃ vs, resA σ.t σ.h [.tmp 6] = some vs ∧ tupA vs = .bool true) := by
  have h12 : TM 12 = some { c12 with frsh := true, orc := o12 } := rfl
  have h21 : TM 21 = some { c21 with frsh := true, orc := o21 } := rfl
  have h22 : TM 22 = some { c22 with frsh := true, orc := o22 } := rfl
  have h23 : TM 23 = some { c23 with frsh := true, orc := oSame 2 } := rfl
  have h24 : TM 24 = some { c24 with frsh := true, orc := o24 } := rfl
  have h25 : TM 25 = some { c25 with frsh := true, orc := o25 } := rfl
  have h26 : TM 26 = some { c26 with frsh := true, orc := o26 } := rfl
  have h27 : TM 27 = some { c27 with frsh := true, orc := o27 } := rfl
  have h28 : TM 28 = some { c28 with frsh := true, orc := o28 } := rfl
  have w28 := o28_eq u d sl sh rl rh ll lh
  have hlaw := hours_law u d sl sh rl rh ll lh
  unfold hoursE at hn he
  rw [rule_rB, moist_span, moist_span, moist_span] at hn he
  refine runs_seq (runs_reg (ops_run (by simp; rfl) ?_))
  simp only [AEx.thn, AEx.blk]
  refine runs_seq (runs_seq (runs_reg (ops_run (by simp [lop, loud, callA, calleeA, callF_step h27, h27, o27]; rfl) ?_)))
  simp only [AEx.thn, AEx.blk]
  cases c1 : rB u d
  · simp [c1] at hn he
    subst hn; subst he
    refine runs_cond (x := true) (by simp [c1]) ?_
    refine runs_reg (ops_run (by simp; rfl) ?_)
    simp only [AEx.thn, AEx.blk]
    refine runs_seq (runs_seq (runs_reg (ops_run (by simp; rfl) ?_)))
    simp only [AEx.thn, AEx.blk]
    refine runs_cond (x := true) (by simp) ?_
    refine runs_seq (runs_reg (ops_run (by simp [lop, loud, callA, calleeA, callF_step h12, h12, o12]; rfl) ?_))
    simp only [AEx.thn, AEx.blk]
    refine runs_ret ?_
    simp
  refine runs_cond (x := false) (by simp [c1]) ?_
  cases c2 : spanB sl sh 0 300
  · simp [c1, c2] at hn he
    subst hn; subst he
    refine runs_seq (runs_reg (ops_run (by simp [lop, loud, callA, calleeA, callF_step h25, h25, o25, c2]; rfl) ?_))
    simp only [AEx.thn, AEx.blk]
    refine runs_cond (x := true) (by simp) ?_
    refine runs_reg (ops_run (by simp; rfl) ?_)
    simp only [AEx.thn, AEx.blk]
    refine runs_seq (runs_seq (runs_reg (ops_run (by simp; rfl) ?_)))
    simp only [AEx.thn, AEx.blk]
    refine runs_cond (x := true) (by simp) ?_
    refine runs_seq (runs_reg (ops_run (by simp [lop, loud, callA, calleeA, callF_step h12, h12, o12]; rfl) ?_))
    simp only [AEx.thn, AEx.blk]
    refine runs_ret ?_
    simp
  cases c3 : spanB rl rh 0 300
  · simp [c1, c2, c3] at hn he
    subst hn; subst he
    refine runs_seq (runs_reg (ops_run (by simp [lop, loud, callA, calleeA, callF_step h25, h25, o25, c2, c3]; rfl) ?_))
    simp only [AEx.thn, AEx.blk]
    refine runs_cond (x := true) (by simp) ?_
    refine runs_reg (ops_run (by simp; rfl) ?_)
    simp only [AEx.thn, AEx.blk]
    refine runs_seq (runs_seq (runs_reg (ops_run (by simp; rfl) ?_)))
    simp only [AEx.thn, AEx.blk]
    refine runs_cond (x := true) (by simp) ?_
    refine runs_seq (runs_reg (ops_run (by simp [lop, loud, callA, calleeA, callF_step h12, h12, o12]; rfl) ?_))
    simp only [AEx.thn, AEx.blk]
    refine runs_ret ?_
    simp
  cases c4 : spanB ll lh 0 300
  · simp [c1, c2, c3, c4] at hn he
    subst hn; subst he
    refine runs_seq (runs_reg (ops_run (by simp [lop, loud, callA, calleeA, callF_step h25, h25, o25, c2, c3, c4]; rfl) ?_))
    simp only [AEx.thn, AEx.blk]
    refine runs_cond (x := true) (by simp) ?_
    refine runs_reg (ops_run (by simp; rfl) ?_)
    simp only [AEx.thn, AEx.blk]
    refine runs_seq (runs_seq (runs_reg (ops_run (by simp; rfl) ?_)))
    simp only [AEx.thn, AEx.blk]
    refine runs_cond (x := true) (by simp) ?_
    refine runs_seq (runs_reg (ops_run (by simp [lop, loud, callA, calleeA, callF_step h12, h12, o12]; rfl) ?_))
    simp only [AEx.thn, AEx.blk]
    refine runs_ret ?_
    simp
  refine runs_seq (runs_reg (ops_run (by simp [lop, loud, callA, calleeA, callF_step h25, h25, o25, c2, c3, c4]; rfl) ?_))
  simp only [AEx.thn, AEx.blk]
  refine runs_cond (x := false) (by simp) ?_
  have hl := hlaw c1 c2 c3 c4
  rw [hl] at w28
  refine runs_seq (runs_reg (ops_run (by simp [lop, loud, callA, calleeA, callF_step h28, h28, w28]; rfl) ?_))
  simp only [AEx.thn, AEx.blk]
  refine runs_seq (runs_reg (ops_run (by simp; rfl) ?_))
  simp only [AEx.thn, AEx.blk]
  cases c5 : liesB sl sh ll lh
  · simp [c1, c2, c3, c4, c5] at hn he
    subst hn; subst he
    refine runs_cond (x := true) (by simp [c5]) ?_
    refine runs_reg (ops_run (by simp; rfl) ?_)
    simp only [AEx.thn, AEx.blk]
    refine runs_seq (runs_seq (runs_reg (ops_run (by simp; rfl) ?_)))
    simp only [AEx.thn, AEx.blk]
    refine runs_cond (x := true) (by simp) ?_
    refine runs_seq (runs_reg (ops_run (by simp [lop, loud, callA, calleeA, callF_step h12, h12, o12]; rfl) ?_))
    simp only [AEx.thn, AEx.blk]
    refine runs_ret ?_
    simp
  simp [c1, c2, c3, c4, c5] at hn he
  subst he
  have hge := hRun_ge u d sl sh rl rh ll lh 500 0
  rw [← hn] at hge
  rw [← hn]
  have hnn : ¬ n < 0 := by omega
  refine runs_cond (x := false) (by simp [c5, hnn]) ?_
  refine runs_skip ?_
  simp only [AEx.thn, AEx.blk]
  refine runs_seq (runs_seq (runs_reg (ops_run (by simp; rfl) ?_)))
  simp only [AEx.thn, AEx.blk]
  refine runs_cond (x := false) (by simp) ?_
  refine runs_skip ?_
  simp only [AEx.thn, AEx.blk]
  refine runs_seq (runs_reg (ops_run (by simp [lop, loud, callA, calleeA, callF_step h12, h12, o12, c5]; rfl) ?_))
  simp only [AEx.thn, AEx.blk]
  refine runs_ret ?_
  simp

end
end Go.Proofs.YtpebmjeomlgmdaaDoor.Tab

namespace Go.Proofs.YtpebmjeomlgmdaaDoor.Tab
open Go Go.Abs Go.Proofs
set_option maxRecDepth 100000
section
attribute [local simp] frz_int frz_bool frz_vl frz_pv frz_agg frz_tup frz_fn frz_ref frz_sl frz_nils optAll orcF rb_int rb_bool rb_agg rb_tup rb_int' rb_bool' rb_vl rb_pv rb_yld rb_nilf rb_nilp rb_nils rb_any rb_und rb_ref rb_sl rb_fn slE chunk fillA evParts evParts3 putAt List.range_succ List.range_zero List.range'_succ List.range'_zero runX_nil' unary_not evalS_pure evAll_nil evAll_cons runX_cons stepX wantedA dop CV.ev cellsOf putK_eq setK_eq appK_eq fA_eq fI_eq fN_eq fRow_eq fRows_eq nth_eq Out.v putT List.replicate_succ AEx.thn AEx.blk arI pointee Abs.rowAt ldRow allV toV toC ofV ofC Builtin.min_ Builtin.min2 Builtin.max_ Builtin.max2 min_if max_if resA tupA kill trim_self trim_len trim_emp trim_nil lenA
attribute [local simp] runD_nil' runD_cons' stepD actK_eq actD clash disj masks holes maskH unmaskH diffs news eqB allB eqA ldRowN wrote toCs ofCs stA storable rowsV_vl rowsV_nils rowsOf dI1 dI2 dI3 dI5 elt
theorem o17_eq (u d l r : Int) (x : AVal) (ss : List Stay) (hx : rowsV x = some (ss.map rStay)) (hl : ss.length ≤ 1000) : o17 [.agg [I u, I d], .agg [I l, I r], x] = some (I (rcheckI u d l r ss)) := by
  simp only [o17, hx]
  rw [optAll_map (d := dI3) (enc := rStay) (fun _ => rfl)]
  simp [hl]
theorem o15_eq (u d l r : Int) (x : AVal) (ss : List Stay) (hx : rowsV x = some (ss.map rStay)) (hl : ss.length ≤ 1000) : o15 [.agg [I u, I d], .agg [I l, I r], x] = some (.tup [outV (if checkI u d l r ss = 0 then pRun u d ss (l, r) else []), I (checkI u d l r ss)]) := by
  simp only [o15, hx]
  rw [optAll_map (d := dI3) (enc := rStay) (fun _ => rfl)]
  simp [hl]
theorem o16_eq (u d l r : Int) (x : AVal) (ss : List Stay) (hx : rowsV x = some (ss.map rStay)) (hl : ss.length ≤ 1000) : o16 [.agg [I u, I d], .agg [I l, I r], x] = some (if checkI u d l r ss = 0 then .tup [I (kRun u d ss ⟨l, r, r, 0, 0⟩).most, I (kRun u d ss ⟨l, r, r, 0, 0⟩).hour, I 0] else .tup [I 0, I 0, I (checkI u d l r ss)]) := by
  simp only [o16, hx]
  rw [optAll_map (d := dI3) (enc := rStay) (fun _ => rfl)]
  simp [hl]
theorem o19_eq (u d l r : Int) (x : AVal) (ss : List Stay) (hx : rowsV x = some (ss.map rStay)) (hok : rcheckI u d l r ss = 0) : o19 [.agg [I u, I d], .agg [I l, I r], x] = some (.tup [.vl ((rRun u d ss ⟨l, r, r, 0, 0⟩).1.map fun p => [I p.1, I p.2]) (rRun u d ss ⟨l, r, r, 0, 0⟩).1.isEmpty, I (rRun u d ss ⟨l, r, r, 0, 0⟩).2.peak, I (rRun u d ss ⟨l, r, r, 0, 0⟩).2.first]) := by
  simp only [o19, hx]
  rw [optAll_map (d := dI3) (enc := rStay) (fun _ => rfl)]
  simp [okB, hok]
theorem oOwn_eq (x : AVal) (ss : List Stay) (hx : rowsV x = some (ss.map rStay)) (hl : ss.length ≤ 1000) : oOwn 3 [x] = some (.vl (ss.map rStay) (ss.length == 0)) := by
  simp only [oOwn, hx]
  simp [hl, rStay, flat]
theorem oSame_eq (s : Nat) (x y : AVal) (rs : List (List AVal)) (hx : rowsV x = some rs) (hy : rowsV y = some rs) (hl : rs.length ≤ 1000) (hr : ∀ r ∈ rs, r.length = s ∧ ∀ v ∈ r, isI v = true) : oSame s [x, y] = some (.bool true) := by
  simp only [oSame, hx, hy]
  rw [if_pos]
  refine ⟨hl, ?_, allB_self rs fun r h => (hr r h).2⟩
  simp only [List.all_eq_true, Bool.and_eq_true, beq_iff_eq]
  exact fun r h => ⟨(hr r h).1, (hr r h).2⟩
theorem outV_rows (rows : List (Int × Int)) : rowsV (outV rows) = some (rows.map fun p => [I p.1, I p.2]) := by
  unfold outV; cases rows <;> simp [rowsV]

theorem pRun_len (u d : Int) : ∀ (ss : List Stay) (p : Int × Int), (pRun u d ss p).length = ss.length
  | [], _ => rfl
  | t :: ss, p => by simp [pRun, pRun_len u d ss]

theorem law3 (u d l r : Int) (x : AVal) (ss : List Stay) (hx : rowsV x = some (ss.map rStay)) : Answers Tryd.prog TK 3 [.agg [I u, I d], .agg [I l, I r], x] [] fun v _ => v = .bool true := by
  have hT : TK 3 = some c3 := rfl
  have h12 : TK 12 = some { c12 with frsh := true, orc := o12 } := rfl
  have h13 : TK 13 = some { c13 with frsh := true, orc := oOwn 3 } := rfl
  have h14 : TK 14 = some { c14 with frsh := true, orc := o14 } := rfl
  have h15 : TK 15 = some { c15 with frsh := true, orc := o15 } := rfl
  have h16 : TK 16 = some { c16 with frsh := true, orc := o16 } := rfl
  have h17 : TK 17 = some { c17 with frsh := true, orc := o17 } := rfl
  have h18 : TK 18 = some { c18 with frsh := true, orc := oSame 3 } := rfl
  have h19 : TK 19 = some { c19 with frsh := true, orc := o19 } := rfl
  have h20 : TK 20 = some { c20 with frsh := true, orc := oSame 2 } := rfl
  have lx := rowsV_len hx
  rw [List.length_map] at lx
  refine answers_of hT (orcF_none rfl) ?_
  simp only [c3]
  refine runs_seq (runs_reg (ops_run (by simp; rfl) ?_))
  simp only [AEx.thn, AEx.blk]
  refine runs_seq (runs_seq (runs_reg (ops_run (by simp [lx, -lenA]; rfl) ?_)))
  simp only [AEx.thn, AEx.blk]
  refine runs_cond_split (x := decide ((15:Int) < (ss.length:Int))) (by simp) (fun h1 => ?_) (fun h1 => ?_)
  · refine runs_seq (runs_reg (ops_run (by simp [lop, loud, callA, calleeA, callF_step h12, h12, o12]; rfl) ?_))
    simp only [AEx.thn, AEx.blk]
    refine runs_ret ?_
    simp
  · have hl : ss.length ≤ 15 := by have := of_decide_eq_false h1; omega
    have hl' : ss.length ≤ 1000 := by omega
    refine runs_skip ?_
    simp only [AEx.thn, AEx.blk]
    have ho := oOwn_eq x ss hx hl'
    refine runs_seq (runs_reg (ops_run (by simp [lop, loud, callA, calleeA, callF_step h13, h13, ho, rowsV_frz hx]; rfl) ?_))
    simp only [AEx.thn, AEx.blk]
    have hin : rowsV (.vl (ss.map rStay) (ss.length == 0)) = some (ss.map rStay) := rfl
    have w14 := o14_eq u d l r _ ss hin hl'
    have w15 := o15_eq u d l r _ ss hin hl'
    have w16 := o16_eq u d l r _ ss hin hl'
    have w17 := o17_eq u d l r x ss hx hl'
    have hsm := oSame_eq 3 (.vl (ss.map rStay) (ss.length == 0)) x (ss.map rStay) hin hx (by simpa using hl') (by intro q hq; obtain ⟨t, _, rfl⟩ := List.mem_map.1 hq; exact ⟨rfl, by intro v hv; simp [rStay] at hv; rcases hv with rfl | rfl | rfl <;> rfl⟩)
    have w19 := o19_eq u d l r x ss hx
    rw [← check_same] at w17 w19
    have hok := checkI_ok (u := u) (d := d) (l := l) (r := r) (ss := ss)
    generalize checkI u d l r ss = e at *
    refine runs_seq (runs_reg (ops_run (by simp [lop, loud, callA, calleeA, callF_step h14, h14, w14]; rfl) ?_))
    simp only [AEx.thn, AEx.blk]
    refine runs_seq (runs_reg (ops_run (by simp [lop, loud, callA, calleeA, callF_step h15, h15, w15]; rfl) ?_))
    simp only [AEx.thn, AEx.blk]
    by_cases he : e = 0
    · subst he
      obtain ⟨hu, hd, hl0, hr0, _, _, hss⟩ := hok rfl
      have hrun := run_same hu hd ss ⟨l, r, r, 0, 0⟩ ⟨l, r, r, 0, 0⟩ (fun t ht => (hss t ht).1) ⟨rfl, rfl, rfl, rfl, rfl, Int.le_refl _, hl0, hr0⟩
      have w19 := w19 rfl
      rw [hrun.1, hrun.2.1, hrun.2.2] at w19
      simp only [if_true] at w15 w16 ⊢
      have hlen : (pRun u d ss (l, r)).length ≤ 1000 := by rw [pRun_len]; omega
      generalize pRun u d ss (l, r) = rows at *
      generalize kRun u d ss ⟨l, r, r, 0, 0⟩ = ks at *
      have hsp := oSame_eq 2 (outV rows) (.vl (rows.map fun p => [I p.1, I p.2]) rows.isEmpty) (rows.map fun p => [I p.1, I p.2]) (outV_rows rows) rfl (by simpa using hlen) (by intro q hq; obtain ⟨t, _, rfl⟩ := List.mem_map.1 hq; exact ⟨rfl, by intro v hv; simp at hv; rcases hv with rfl | rfl <;> rfl⟩)
      have hfo := rowsV_frz (outV_rows rows)
      generalize outV rows = ov at *
      refine runs_seq (runs_reg (ops_run (by simp [lop, loud, callA, calleeA, callF_step h16, h16, w16]; rfl) ?_))
      simp only [AEx.thn, AEx.blk]
      refine runs_seq (runs_reg (ops_run (by simp [lop, loud, callA, calleeA, callF_step h17, h17, w17, rowsV_frz hx]; rfl) ?_))
      simp only [AEx.thn, AEx.blk]
      refine runs_seq (runs_seq (runs_reg (ops_run (by simp [lop, loud, callA, calleeA, callF_step h18, h18, hsm, rowsV_frz hx]; rfl) ?_)))
      simp only [AEx.thn, AEx.blk]
      refine runs_cond (x := false) (by simp) ?_
      refine runs_skip ?_
      simp only [AEx.thn, AEx.blk]
      refine runs_seq (runs_seq (runs_reg (ops_run (by simp; rfl) ?_)))
      simp only [AEx.thn, AEx.blk]
      refine runs_cond (x := false) (by simp) ?_
      refine runs_skip ?_
      simp only [AEx.thn, AEx.blk]
      refine runs_seq (runs_reg (ops_run (by simp [lop, loud, callA, calleeA, callF_step h19, h19, w19, rowsV_frz hx]; rfl) ?_))
      simp only [AEx.thn, AEx.blk]
      refine runs_seq (runs_reg (ops_run (by simp [lop, loud, callA, calleeA, callF_step h20, h20, callF_step h12, h12, o12, hsp, hfo]; rfl) ?_))
      simp only [AEx.thn, AEx.blk]
      refine runs_ret ?_
      simp
    · have w15' : o15 [.agg [I u, I d], .agg [I l, I r], .vl (ss.map rStay) (ss.length == 0)] = some (.tup [.nils, I e]) := by rw [w15, if_neg he]; rfl
      have w16' : o16 [.agg [I u, I d], .agg [I l, I r], .vl (ss.map rStay) (ss.length == 0)] = some (.tup [I 0, I 0, I e]) := by rw [w16, if_neg he]
      simp only [he, if_false]
      refine runs_seq (runs_reg (ops_run (by simp [lop, loud, callA, calleeA, callF_step h16, h16, w16']; rfl) ?_))
      simp only [AEx.thn, AEx.blk]
      refine runs_seq (runs_reg (ops_run (by simp [lop, loud, callA, calleeA, callF_step h17, h17, w17, rowsV_frz hx]; rfl) ?_))
      simp only [AEx.thn, AEx.blk]
      refine runs_seq (runs_seq (runs_reg (ops_run (by simp [lop, loud, callA, calleeA, callF_step h18, h18, hsm, rowsV_frz hx]; rfl) ?_)))
      simp only [AEx.thn, AEx.blk]
      refine runs_cond (x := false) (by simp) ?_
      refine runs_skip ?_
      simp only [AEx.thn, AEx.blk]
      refine runs_seq (runs_seq (runs_reg (ops_run (by simp; rfl) ?_)))
      simp only [AEx.thn, AEx.blk]
      refine runs_cond (x := true) (by simp [he]) ?_
      refine runs_seq (runs_reg (ops_run (by simp [lop, loud, callA, calleeA, callF_step h12, h12, o12, outV]; rfl) ?_))
      simp only [AEx.thn, AEx.blk]
      refine runs_ret ?_
      simp

end
end Go.Proofs.YtpebmjeomlgmdaaDoor.Tab

namespace Go.Proofs.YtpebmjeomlgmdaaDoor.Tab
open Go Go.Abs Go.Proofs
set_option maxRecDepth 100000
set_option maxHeartbeats 4000000
section
attribute [local simp] frz_int frz_bool frz_vl frz_pv frz_agg frz_tup frz_fn frz_ref frz_sl frz_nils optAll orcF rb_int rb_bool rb_agg rb_tup rb_int' rb_bool' rb_vl rb_pv rb_yld rb_nilf rb_nilp rb_nils rb_any rb_und rb_ref rb_sl rb_fn slE chunk fillA evParts evParts3 putAt List.range_succ List.range_zero List.range'_succ List.range'_zero runX_nil' unary_not evalS_pure evAll_nil evAll_cons runX_cons stepX wantedA dop CV.ev cellsOf putK_eq setK_eq appK_eq fA_eq fI_eq fN_eq fRow_eq fRows_eq nth_eq Out.v putT List.replicate_succ AEx.thn AEx.blk arI pointee Abs.rowAt ldRow allV toV toC ofV ofC Builtin.min_ Builtin.min2 Builtin.max_ Builtin.max2 min_if max_if resA tupA kill trim_self trim_len trim_emp trim_nil lenA
attribute [local simp] runD_nil' runD_cons' stepD actK_eq actD clash disj masks holes maskH unmaskH diffs news eqB allB eqA ldRowN wrote toCs ofCs stA storable rowsV_vl rowsV_nils rowsOf dI1 dI2 dI3 dI5 elt
theorem law4a (u d sl sh rl rh ll lh : Int) (x vin vin' : AVal) (ts : List Step) (hx : rowsV x = some (ts.map rStep)) (hl : ts.length ≤ 1000) (hv : rowsV vin' = some (ts.map rStep)) (v0 v1 v5 v6 v8 v9 v10 v11 v12 v13 v14 v15 v16 v17 v18 v19 v20 v21 v22 v23 v24 v25 v26 v27 v28 v29 v30 v31 v32 v33 v34 v35 v36 v37 v38 v39 v40 v41 v42 v43 v44 v45 v46 v47 v48 v49 v50 v51 v52 v53 v54 v55 v56 v57 v58 v59 v60 v61 v62 v63 v64 v65 v66 v67 v68 v69 v70 v71 v72 v73 v74 v75 v76 v77 v78 v79 v80 v81 v82 v83 v84 v85 v86 v87 v88 v89 v90 v91 v92 v93 v94 v95 v96 v97 v98 v99 v100 v101 v102 v103 v104 v105 v106 v107 v108 v109 v110 v111 v112 v113 v114 v115 v116 v117 v118 v119 v120 v121 v122 v123 v124 v125 v126 v127 v128 v129 : AVal) (g : Heap)
    (hfv : ∀ y, frz false (some (.row 2 [[I u, I d]]) :: some (.row 6 [[I sl, I sh, I rl, I rh, I ll, I lh]]) :: (g ++ y)) 5 vin = some vin') :
    Runs Tryd.prog TM none (.seq (.reg [⟨(some 23), (.ldn 2 (.t 3)), none, []⟩, ⟨(some 24), (.fa 0 (.t 4)), none, []⟩, ⟨(some 25), (.ldn 2 (.t 24)), none, []⟩, ⟨(some 26), (.fa 2 (.t 4)), none, []⟩, ⟨(some 27), (.ldn 2 (.t 26)), none, []⟩, ⟨(some 28), (.fa 4 (.t 4)), none, []⟩, ⟨(some 29), (.ldn 2 (.t 28)), none, []⟩, ⟨(some 30), (.call (.c (.fn 21 [] [])) [(.t 23), (.t 25), (.t 27), (.t 29)]), none, []⟩, ⟨(some 22), (.mv (.t 30)), none, []⟩, ⟨(some 31), (.ext 0 (.t 22)), none, []⟩, ⟨(some 32), (.ext 1 (.t 22)), none, []⟩, ⟨(some 8), (.mv (.t 31)), none, []⟩, ⟨(some 9), (.mv (.t 32)), none, []⟩]) (.seq (.reg [⟨(some 34), (.mv (.t 7)), none, []⟩, ⟨(some 35), (.fa 0 (.t 4)), none, []⟩, ⟨(some 36), (.ldn 2 (.t 35)), none, []⟩, ⟨(some 37), (.call (.c (.fn 22 [] [])) [(.t 34), (.t 36)]), none, []⟩, ⟨(some 33), (.mv (.t 37)), none, []⟩, ⟨(some 38), (.ext 0 (.t 33)), none, []⟩, ⟨(some 39), (.ext 1 (.t 33)), none, []⟩, ⟨(some 10), (.new [(.int .i64 (0)), (.int .i64 (0))]), none, []⟩, ⟨none, (.st 2 (.t 10) (.t 38)), none, []⟩, ⟨(some 11), (.mv (.t 39)), none, []⟩]) (.seq (.seq (.reg [⟨(some 40), (.mv (.t 7)), none, []⟩, ⟨(some 41), (.mv (.t 2)), none, []⟩, ⟨(some 42), (.call (.c (.fn 23 [] [])) [(.t 40), (.t 41)]), none, []⟩, ⟨(some 43), (.un .not (.t 42)), none, []⟩]) (.cond (.t 43) (.seq (.reg [⟨(some 6), (.mv (.c (.bool false))), none, []⟩]) .ret) .skip)) (.seq (.reg [⟨(some 12), (.mv (.c (.int .i64 (0)))), none, []⟩]) (.seq (.seq (.reg [⟨(some 44), (.mv (.t 2)), none, []⟩, ⟨(some 45), (.call (.c (.fn 24 [] [])) [(.t 44)]), none, []⟩, ⟨(some 46), (.un .not (.t 45)), none, []⟩]) (.cond (.t 46) (.reg [⟨(some 12), (.mv (.c (.int .i64 (4)))), none, []⟩]) (.seq (.reg [⟨(some 47), (.fa 0 (.t 4)), none, []⟩, ⟨(some 48), (.ldn 2 (.t 47)), none, []⟩, ⟨(some 49), (.call (.c (.fn 25 [] [])) [(.t 48)]), none, []⟩, ⟨(some 50), (.un .not (.t 49)), none, []⟩]) (.cond (.t 50) (.reg [⟨(some 12), (.mv (.c (.int .i64 (3)))), none, []⟩]) .skip)))) (.seq (.seq (.drw [⟨(some 51), (.mv (.t 12)), none, []⟩, ⟨(some 52), (.ar .neq (.t 51) (.c (.int .i64 (0)))), none, []⟩, ⟨(some 53), (.mv (.t 52)), none, []⟩, ⟨(some 54), (.mv (.t 11)), (some (53, true)), []⟩, ⟨(some 55), (.mv (.t 12)), (some (53, true)), [3]⟩, ⟨(some 56), (.ar .neq (.t 54) (.t 55)), (some (53, true)), []⟩, ⟨(some 57), (.mv (.t 56)), (some (53, true)), []⟩, ⟨(some 58), (.ldn 2 (.t 10)), (some (57, false)), []⟩, ⟨(some 59), (.bld [(.int .i64 (0)), (.int .i64 (0))] []), (some (57, false)), [7]⟩, ⟨(some 60), (.eqv true 25 (.tmp 58) (.tmp 59) (.t 58) (.t 59)), (some (57, false)), []⟩, ⟨(some 61), (.pick (.t 57) (.c (.bool true)) (.t 60)), (some (53, true)), []⟩, ⟨(some 62), (.pick (.t 53) (.t 61) (.c (.bool false))), none, []⟩, ⟨(some 63), (.mv (.t 62)), none, []⟩, ⟨(some 64), (.mv (.t 12)), (some (63, false)), []⟩, ⟨(some 65), (.ar .eql (.t 64) (.c (.int .i64 (0)))), (some (63, false)), []⟩, ⟨(some 66), (.mv (.t 65)), (some (63, false)), []⟩, ⟨(some 67), (.mv (.t 11)), (some (66, true)), []⟩, ⟨(some 68), (.ar .neq (.t 67) (.c (.int .i64 (0)))), (some (66, true)), []⟩, ⟨(some 69), (.mv (.t 68)), (some (66, true)), []⟩, ⟨(some 70), (.ldn 2 (.t 10)), (some (69, false)), []⟩, ⟨(some 71), (.mv (.t 2)), (some (69, false)), [19]⟩, ⟨(some 72), (.fa 0 (.t 4)), (some (69, false)), [19, 20]⟩, ⟨(some 73), (.ldn 2 (.t 72)), (some (69, false)), [19, 20]⟩, ⟨(some 74), (.call (.c (.fn 26 [] [])) [(.t 71), (.t 73)]), (some (69, false)), [19]⟩, ⟨(some 75), (.eqv true 25 (.tmp 70) (.tmp 74) (.t 70) (.t 74)), (some (69, false)), []⟩, ⟨(some 76), (.pick (.t 69) (.c (.bool true)) (.t 75)), (some (66, true)), []⟩, ⟨(some 77), (.pick (.t 66) (.t 76) (.c (.bool false))), (some (63, false)), []⟩, ⟨(some 78), (.pick (.t 63) (.c (.bool true)) (.t 77)), none, []⟩]) (.cond (.t 78) (.seq (.reg [⟨(some 6), (.mv (.c (.bool false))), none, []⟩]) .ret) .skip)) (.seq (.reg [⟨(some 13), (.mv (.c (.int .i64 (0)))), none, []⟩, ⟨(some 14), (.mv (.c (.int .i64 (0)))), none, []⟩]) (.seq (.seq (.reg [⟨(some 79), (.ldn 2 (.t 3)), none, []⟩, ⟨(some 80), (.call (.c (.fn 27 [] [])) [(.t 79)]), none, []⟩, ⟨(some 81), (.un .not (.t 80)), none, []⟩]) (.cond (.t 81) (.reg [⟨(some 13), (.mv (.c (.int .i64 (2)))), none, []⟩]) (.seq (.reg [⟨(some 82), (.fa 0 (.t 4)), none, []⟩, ⟨(some 83), (.ldn 2 (.t 82)), none, []⟩, ⟨(some 84), (.call (.c (.fn 25 [] [])) [(.t 83)]), none, []⟩, ⟨(some 85), (.un .not (.t 84)), none, []⟩, ⟨(some 86), (.mv (.t 85)), none, []⟩, ⟨(some 87), (.fa 2 (.t 4)), (some (86, false)), []⟩, ⟨(some 88), (.ldn 2 (.t 87)), (some (86, false)), []⟩, ⟨(some 89), (.call (.c (.fn 25 [] [])) [(.t 88)]), (some (86, false)), []⟩, ⟨(some 90), (.un .not (.t 89)), (some (86, false)), []⟩, ⟨(some 91), (.pick (.t 86) (.c (.bool true)) (.t 90)), none, []⟩, ⟨(some 92), (.mv (.t 91)), none, []⟩, ⟨(some 93), (.fa 4 (.t 4)), (some (92, false)), []⟩, ⟨(some 94), (.ldn 2 (.t 93)), (some (92, false)), []⟩, ⟨(some 95), (.call (.c (.fn 25 [] [])) [(.t 94)]), (some (92, false)), []⟩, ⟨(some 96), (.un .not (.t 95)), (some (92, false)), []⟩, ⟨(some 97), (.pick (.t 92) (.c (.bool true)) (.t 96)), none, []⟩]) (.cond (.t 97) (.reg [⟨(some 13), (.mv (.c (.int .i64 (3)))), none, []⟩]) (.seq (.reg [⟨(some 98), (.ldn 2 (.t 3)), none, []⟩, ⟨(some 99), (.fa 0 (.t 4)), none, []⟩, ⟨(some 100), (.ldn 2 (.t 99)), none, []⟩, ⟨(some 101), (.fa 2 (.t 4)), none, []⟩, ⟨(some 102), (.ldn 2 (.t 101)), none, []⟩, ⟨(some 103), (.fa 4 (.t 4)), none, []⟩, ⟨(some 104), (.ldn 2 (.t 103)), none, []⟩, ⟨(some 105), (.call (.c (.fn 28 [] [])) [(.t 98), (.t 100), (.t 102), (.t 104), (.c (.int .i64 (500)))]), none, []⟩, ⟨(some 14), (.mv (.t 105)), none, []⟩]) (.seq (.reg [⟨(some 106), (.mv (.t 14)), none, []⟩, ⟨(some 107), (.ar .lss (.t 106) (.c (.int .i64 (0)))), none, []⟩]) (.cond (.t 107) (.reg [⟨(some 13), (.mv (.c (.int .i64 (9)))), none, []⟩]) .skip))))))) (.seq (.seq (.reg [⟨(some 108), (.mv (.t 13)), none, []⟩, ⟨(some 109), (.ar .neq (.t 108) (.c (.int .i64 (0)))), none, []⟩]) (.cond (.t 109) (.seq (.reg [⟨(some 110), (.mv (.t 9)), none, []⟩, ⟨(some 111), (.mv (.t 13)), none, []⟩, ⟨(some 112), (.ar .eql (.t 110) (.t 111)), none, []⟩, ⟨(some 113), (.mv (.t 112)), none, []⟩, ⟨(some 114), (.mv (.t 8)), (some (113, true)), []⟩, ⟨(some 115), (.ar .eql (.t 114) (.c (.int .i64 (0)))), (some (113, true)), []⟩, ⟨(some 116), (.pick (.t 113) (.t 115) (.c (.bool false))), none, []⟩, ⟨(some 117), (.mv (.t 116)), none, []⟩, ⟨(some 118), (.call (.c (.fn 12 [] [])) []), (some (117, true)), []⟩, ⟨(some 119), (.pick (.t 117) (.t 118) (.c (.bool false))), none, []⟩, ⟨(some 6), (.mv (.t 119)), none, []⟩]) .ret) .skip)) (.seq (.reg [⟨(some 120), (.mv (.t 9)), none, []⟩, ⟨(some 121), (.ar .eql (.t 120) (.c (.int .i64 (0)))), none, []⟩, ⟨(some 122), (.mv (.t 121)), none, []⟩, ⟨(some 123), (.mv (.t 8)), (some (122, true)), []⟩, ⟨(some 124), (.mv (.t 14)), (some (122, true)), []⟩, ⟨(some 125), (.ar .eql (.t 123) (.t 124)), (some (122, true)), []⟩, ⟨(some 126), (.pick (.t 122) (.t 125) (.c (.bool false))), none, []⟩, ⟨(some 127), (.mv (.t 126)), none, []⟩, ⟨(some 128), (.call (.c (.fn 12 [] [])) []), (some (127, true)), []⟩, ⟨(some 129), (.pick (.t 127) (.t 128) (.c (.bool false))), none, []⟩, ⟨(some 6), (.mv (.t 129)), none, []⟩]) .ret)))))))))) ⟨[v0, v1, x, .ref 0 0 0, .ref 1 0 0, v5, v6, vin, v8, v9, v10, v11, v12, v13, v14, v15, v16, v17, v18, v19, v20, v21, v22, v23, v24, v25, v26, v27, v28, v29, v30, v31, v32, v33, v34, v35, v36, v37, v38, v39, v40, v41, v42, v43, v44, v45, v46, v47, v48, v49, v50, v51, v52, v53, v54, v55, v56, v57, v58, v59, v60, v61, v62, v63, v64, v65, v66, v67, v68, v69, v70, v71, v72, v73, v74, v75, v76, v77, v78, v79, v80, v81, v82, v83, v84, v85, v86, v87, v88, v89, v90, v91, v92, v93, v94, v95, v96, v97, v98, v99, v100, v101, v102, v103, v104, v105, v106, v107, v108, v109, v110, v111, v112, v113, v114, v115, v116, v117, v118, v119, v120, v121, v122, v123, v124, v125, v126, v127, v128, v129], some (.row 2 [[I u, I d]]) :: some (.row 6 [[I sl, I sh, I rl, I rh, I ll, I lh]]) :: g⟩ (fun x σ => (∀ id, x ≠ .exit id) ∧ ∃ vs, resA σ.t σ.h [.tmp 6] = some vs ∧ tupA vs = .bool true) := by
  have h12 : TM 12 = some { c12 with frsh := true, orc := o12 } := rfl
  have h21 : TM 21 = some { c21 with frsh := true, orc := o21 } := rfl
  have h22 : TM 22 = some { c22 with frsh := true, orc := o22 } := rfl
  have h23 : TM 23 = some { c23 with frsh := true, orc := oSame 2 } := rfl
  have h24 : TM 24 = some { c24 with frsh := true, orc := o24 } := rfl
  have h25 : TM 25 = some { c25 with frsh := true, orc := o25 } := rfl
  have h26 : TM 26 = some { c26 with frsh := true, orc := o26 } := rfl
  have h27 : TM 27 = some { c27 with frsh := true, orc := o27 } := rfl
  have h28 : TM 28 = some { c28 with frsh := true, orc := o28 } := rfl
  have hfv0 : frz false (some (.row 2 [[I u, I d]]) :: some (.row 6 [[I sl, I sh, I rl, I rh, I ll, I lh]]) :: g) 5 vin = some vin' := by simpa using hfv []
  have hfx := rowsV_frz hx
  have w22 := o22_eq vin' sl sh ts hv hl
  have w24 := o24_eq x ts hx hl
  have w26 := o26_eq x sl sh ts hx hl
  have hsm := oSame_eq 2 vin' x (ts.map rStep) hv hx (by simpa using hl) (by intro q hq; obtain ⟨t, _, rfl⟩ := List.mem_map.1 hq; exact ⟨rfl, by intro v hv; simp [rStep] at hv; rcases hv with rfl | rfl <;> rfl⟩)
  obtain ⟨a, b, f, w22, hrel⟩ : ∃ a b f, o22 [vin', .agg [I sl, I sh]] = some (.tup [.agg [I a, I b], I f]) ∧ ((keepE ts sl sh = 0 ∧ f = 0 ∧ a = kept sh ts ∧ b = kept sl ts) ∨ (keepE ts sl sh ≠ 0 ∧ f = keepE ts sl sh ∧ a = 0 ∧ b = 0)) := by
    by_cases h : keepE ts sl sh = 0
    · exact ⟨_, _, _, by rw [w22, if_pos h], .inl ⟨h, rfl, rfl, rfl⟩⟩
    · exact ⟨_, _, _, by rw [w22, if_neg h], .inr ⟨h, rfl, rfl, rfl⟩⟩
  refine runs_seq (runs_reg (ops_run (by simp [lop, loud, callA, calleeA, callF_step h21, h21, o21]; rfl) ?_))
  simp only [AEx.thn, AEx.blk]
  refine runs_seq (runs_reg (ops_run (by simp [lop, loud, callA, calleeA, callF_step h22, h22, hfv0, w22, get_appK0, get_appK, set_app, set_app0]; rfl) ?_))
  simp only [AEx.thn, AEx.blk]
  refine runs_seq (runs_seq (runs_reg (ops_run (by simp [lop, loud, callA, calleeA, callF_step h23, h23, hfv, hfx, hsm]; rfl) ?_)))
  simp only [AEx.thn, AEx.blk]
  refine runs_cond (x := false) (by simp) ?_
  refine runs_skip ?_
  simp only [AEx.thn, AEx.blk]
  refine runs_seq (runs_reg (ops_run (by simp; rfl) ?_))
  simp only [AEx.thn, AEx.blk]
  refine runs_seq (runs_seq (runs_reg (ops_run (by simp [lop, loud, callA, calleeA, callF_step h24, h24, w24, hfx]; rfl) ?_)))
  simp only [AEx.thn, AEx.blk]
  unfold keepE at hrel
  rw [moist_span] at hrel
  cases c1 : tableB ts
  · simp [c1] at hrel
    obtain ⟨rfl, rfl, rfl⟩ := hrel
    refine runs_cond (x := true) (by simp [c1]) ?_
    refine runs_reg (ops_run (by simp; rfl) ?_)
    simp only [AEx.thn, AEx.blk]
    refine runs_seq (runs_seq (runs_drw (by simp [get_appK0, get_appK, set_app, set_app0, eq25n]; rfl) ?_))
    simp only [AEx.thn, AEx.blk]
    refine runs_cond (x := false) (by simp) ?_
    refine runs_skip ?_
    simp only [AEx.thn, AEx.blk]
    exact law4b u d sl sh rl rh ll lh _ _ _ _ _ _ _ _ _ _ _ _ _ _ _ _ _ _ _ _ _ _ _ _ _ _ _ _ _ _ _ _ _ _ _ _ _ _ _ _ _ _ _ _ _ _ _ _ _ _ _ _ _ _ _ _ _ _ _ _ _ _ _ _ _ _ _ _ _ _ _ _ _ _ _ _ _ _ _ _ _ _ _ _ _ _ _ _ _ _ _ _ _ _ _ _ _ _ _ _ _ _ _ _ _ _ _ _ _ _ _ _ _ _ _ _ _ _ _ _ _ _ _ _ _ _ _ _ _ rfl rfl
  refine runs_cond (x := false) (by simp [c1]) ?_
  refine runs_seq (runs_reg (ops_run (by simp [lop, loud, callA, calleeA, callF_step h25, h25, o25]; rfl) ?_))
  simp only [AEx.thn, AEx.blk]
  cases c2 : spanB sl sh 0 300
  · simp [c1, c2] at hrel
    obtain ⟨rfl, rfl, rfl⟩ := hrel
    refine runs_cond (x := true) (by simp [c2]) ?_
    refine runs_reg (ops_run (by simp; rfl) ?_)
    simp only [AEx.thn, AEx.blk]
    refine runs_seq (runs_seq (runs_drw (by simp [get_appK0, get_appK, set_app, set_app0, eq25n]; rfl) ?_))
    simp only [AEx.thn, AEx.blk]
    refine runs_cond (x := false) (by simp) ?_
    refine runs_skip ?_
    simp only [AEx.thn, AEx.blk]
    exact law4b u d sl sh rl rh ll lh _ _ _ _ _ _ _ _ _ _ _ _ _ _ _ _ _ _ _ _ _ _ _ _ _ _ _ _ _ _ _ _ _ _ _ _ _ _ _ _ _ _ _ _ _ _ _ _ _ _ _ _ _ _ _ _ _ _ _ _ _ _ _ _ _ _ _ _ _ _ _ _ _ _ _ _ _ _ _ _ _ _ _ _ _ _ _ _ _ _ _ _ _ _ _ _ _ _ _ _ _ _ _ _ _ _ _ _ _ _ _ _ _ _ _ _ _ _ _ _ _ _ _ _ _ _ _ _ _ rfl rfl
  simp [c1, c2] at hrel
  obtain ⟨rfl, rfl, rfl⟩ := hrel
  have w26 := w26 c2
  rw [keep_law c1 c2] at w26
  refine runs_cond (x := false) (by simp [c2]) ?_
  refine runs_skip ?_
  simp only [AEx.thn, AEx.blk]
  refine runs_seq (runs_seq (runs_drw (by simp [lop, loud, callA, calleeA, callF_step h26, h26, get_appK0, get_appK, set_app, set_app0, eq25n, w26, hfx]; rfl) ?_))
  simp only [AEx.thn, AEx.blk]
  refine runs_cond (x := false) (by simp) ?_
  refine runs_skip ?_
  simp only [AEx.thn, AEx.blk]
  exact law4b u d sl sh rl rh ll lh _ _ _ _ _ _ _ _ _ _ _ _ _ _ _ _ _ _ _ _ _ _ _ _ _ _ _ _ _ _ _ _ _ _ _ _ _ _ _ _ _ _ _ _ _ _ _ _ _ _ _ _ _ _ _ _ _ _ _ _ _ _ _ _ _ _ _ _ _ _ _ _ _ _ _ _ _ _ _ _ _ _ _ _ _ _ _ _ _ _ _ _ _ _ _ _ _ _ _ _ _ _ _ _ _ _ _ _ _ _ _ _ _ _ _ _ _ _ _ _ _ _ _ _ _ _ _ _ _ rfl rfl

theorem law4 (u d sl sh rl rh ll lh : Int) (x : AVal) (ts : List Step) (hx : rowsV x = some (ts.map rStep)) : Answers Tryd.prog TM 4 [.agg [I u, I d], .agg [I sl, I sh, I rl, I rh, I ll, I lh], x] [] fun v _ => v = .bool true := by
  have hT : TM 4 = some c4 := rfl
  have h12 : TM 12 = some { c12 with frsh := true, orc := o12 } := rfl
  have lx := rowsV_len hx
  rw [List.length_map] at lx
  refine answers_of hT (orcF_none rfl) ?_
  simp only [c4]
  refine runs_seq (runs_reg (ops_run (by simp; rfl) ?_))
  simp only [AEx.thn, AEx.blk]
  refine runs_seq (runs_seq (runs_reg (ops_run (by simp [lx, -lenA]; rfl) ?_)))
  simp only [AEx.thn, AEx.blk]
  refine runs_cond_split (x := decide ((15:Int) < (ts.length:Int))) (by simp) (fun h1 => ?_) (fun h1 => ?_)
  · refine runs_seq (runs_reg (ops_run (by simp [lop, loud, callA, calleeA, callF_step h12, h12, o12]; rfl) ?_))
    simp only [AEx.thn, AEx.blk]
    refine runs_ret ?_
    simp
  · have hl : ts.length ≤ 15 := by have := of_decide_eq_false h1; omega
    refine runs_skip ?_
    simp only [AEx.thn, AEx.blk]
    have hst : ∀ r ∈ ts.map rStep, r.length = 2 ∧ ∀ y ∈ r, storable y = true := fun r hr => by
      obtain ⟨t, _, rfl⟩ := List.mem_map.1 hr
      exact ⟨rfl, fun y hy => by simp [rStep] at hy; rcases hy with rfl | rfl <;> rfl⟩
    have hfl : ∀ (nv : Bool) (H : Heap), optAll (optAll (frz nv H 4)) (ts.map rStep) = some (ts.map rStep) := fun nv H => frz_rows nv H 3 _ fun r hr y hy => by
      obtain ⟨t, _, rfl⟩ := List.mem_map.1 hr
      simp [rStep] at hy; rcases hy with rfl | rfl <;> rfl
    rcases rowsV_cases hx with ⟨rfl, h0⟩ | ⟨t, rfl⟩
    · refine runs_seq (runs_reg (ops_run (by simp [lop, loud]; rfl) ?_))
      simp only [AEx.thn, AEx.blk]
      refine law4a u d sl sh rl rh ll lh _ _ (.vl [] true) ts hx (by omega) (by rw [h0]; rfl) _ _ _ _ _ _ _ _ _ _ _ _ _ _ _ _ _ _ _ _ _ _ _ _ _ _ _ _ _ _ _ _ _ _ _ _ _ _ _ _ _ _ _ _ _ _ _ _ _ _ _ _ _ _ _ _ _ _ _ _ _ _ _ _ _ _ _ _ _ _ _ _ _ _ _ _ _ _ _ _ _ _ _ _ _ _ _ _ _ _ _ _ _ _ _ _ _ _ _ _ _ _ _ _ _ _ _ _ _ _ _ _ _ _ _ _ _ _ _ _ _ _ _ _ _ _ [some (.row 2 [])] fun y => ?_
      simp
    · cases hts : ts with
      | nil =>
        subst hts
        refine runs_seq (runs_reg (ops_run (by simp [lop, loud]; rfl) ?_))
        simp only [AEx.thn, AEx.blk]
        refine law4a u d sl sh rl rh ll lh _ _ (.vl [] true) [] rfl (by omega) rfl _ _ _ _ _ _ _ _ _ _ _ _ _ _ _ _ _ _ _ _ _ _ _ _ _ _ _ _ _ _ _ _ _ _ _ _ _ _ _ _ _ _ _ _ _ _ _ _ _ _ _ _ _ _ _ _ _ _ _ _ _ _ _ _ _ _ _ _ _ _ _ _ _ _ _ _ _ _ _ _ _ _ _ _ _ _ _ _ _ _ _ _ _ _ _ _ _ _ _ _ _ _ _ _ _ _ _ _ _ _ _ _ _ _ _ _ _ _ _ _ _ _ _ _ _ _ [some (.row 2 [])] fun y => ?_
        simp
      | cons q qs =>
        rw [← hts]
        have hne : ¬ ts.map rStep = [] := by rw [hts]; simp
        have hlm : (ts.map rStep).length ≤ 1048576 := by simp; omega
        generalize hrs : ts.map rStep = rs at *
        refine runs_seq (runs_reg (ops_run (by simp [lop, loud, lim, hne, -storable]; rw [if_pos ⟨hlm, fun r hr => (hst r hr).1, fun r hr => (hst r hr).2⟩]; rfl) ?_))
        simp only [AEx.thn, AEx.blk]
        refine law4a u d sl sh rl rh ll lh _ _ (.vl rs false) ts (by rw [hrs]; rfl) (by omega) (by rw [hrs]; rfl) _ _ _ _ _ _ _ _ _ _ _ _ _ _ _ _ _ _ _ _ _ _ _ _ _ _ _ _ _ _ _ _ _ _ _ _ _ _ _ _ _ _ _ _ _ _ _ _ _ _ _ _ _ _ _ _ _ _ _ _ _ _ _ _ _ _ _ _ _ _ _ _ _ _ _ _ _ _ _ _ _ _ _ _ _ _ _ _ _ _ _ _ _ _ _ _ _ _ _ _ _ _ _ _ _ _ _ _ _ _ _ _ _ _ _ _ _ _ _ _ _ _ _ _ _ _ [some (.row 2 []), some (.row 2 rs)] fun y => ?_
        exact frz_row false _ 4 3 _ 2 false rs rfl rfl (hfl _ _)

end
end Go.Proofs.YtpebmjeomlgmdaaDoor.Tab

namespace Go.Proofs.YtpebmjeomlgmdaaDoor
open Go Go.Abs Go.Proofs Go.ChangeShapes Go.WideShapes Go.ChangeAt Go.RowKit
theorem fits_i6 {xs : List AVal} (h : FitsR [.int .i64, .int .i64, .int .i64, .int .i64, .int .i64, .int .i64] xs) : ∃ a b c d e f : Int, xs = [.int .i64 a, .int .i64 b, .int .i64 c, .int .i64 d, .int .i64 e, .int .i64 f] := by
  obtain ⟨x, ys, rfl, hx, h1⟩ := fitsR_cons h
  obtain ⟨a, rfl, _⟩ := fits_int hx
  obtain ⟨y, zs, rfl, hy, h2⟩ := fitsR_cons h1
  obtain ⟨b, rfl, _⟩ := fits_int hy
  obtain ⟨z, us, rfl, hz, h3⟩ := fitsR_cons h2
  obtain ⟨c, rfl, _⟩ := fits_int hz
  obtain ⟨d, e, f, rfl⟩ := fits_i3 h3
  exact ⟨a, b, c, d, e, f, rfl⟩

set_option maxRecDepth 100000 in
theorem hours_lifted (os : Os) (started : os.Started) (H : Type) (enc : TypeId × Value → H) :
    ReturnsInHanded {} Tryd.checked os 4 .any (fun w args => (Rows.dampHoursSpec.pre enc Tryd.prog Tryd.f4 [] false w args ∧ laidMetH Tryd.prog laid w) ∧ sizedMet enc Tryd.prog Tryd.f4 (OpenSpec.ofChange Rows.dampHoursSpec) false w args)
      (Rows.dampHoursSpec.post enc Tryd.prog Tryd.f4 false true false false) := by
  refine returnsInHanded_of_change_and (C := Tryd.checked) (X := fun w _ => laidMetH Tryd.prog laid w) (fun _ _ _ hh h => h.of_heap hh) own started (by kernel_rfl) Tryd.func4
    (ChangeSpec.witness_shaped (enc := enc) (C := Tryd.checked) (os := os) (X := fun w _ => laidMetH Tryd.prog laid w) false (World.doorLaid Tryd.prog 400 os) #[.agg #[.int .i64 0, .int .i64 0], .agg #[.int .i64 0, .int .i64 0, .int .i64 0, .int .i64 0, .int .i64 0, .int .i64 0], .slice Option.none 0 0] 8 rfl (World.shaped_of_RefB (by kernel_rfl) (by kernel_rfl)) (by kernel_rfl) (by kernel_rfl) (by kernel_rfl) (door_met os _)) ?_
  intro W base args ds gs before hval0 hW _ _ hL _
  have hval : ∀ (j : Nat) t v, Tryd.f4.params[j]? = some t → args[j]? = some v → Value.okWide Tryd.prog W .any base t v := hval0
  have hW' := hW
  obtain ⟨p, q, hA0, hV, rfl, hfz, hnd⟩ := hW
  have hA : DataW.TrodAll enc Tryd.prog W 0 (fun _ => true) true Tryd.f4.params.toList args.toList ds p := hA0
  rw [Tryd.params4] at hA hval
  obtain ⟨v0, vs0, d0, ds0, p0, q0, hargs, rfl, rfl, h0, r0⟩ := trodAll_cons hA
  obtain ⟨v1, vs1, d1, ds1, p1, q1, rfl, rfl, rfl, h1, r1⟩ := trodAll_cons r0
  obtain ⟨v2, vs2, d2, ds2, p2, q2, rfl, rfl, rfl, h2, r2⟩ := trodAll_cons r1
  obtain ⟨rfl, rfl, rfl⟩ := trodAll_nil r2
  obtain rfl : args = #[v0, v1, v2] := by cases args; simp_all
  obtain ⟨rfl, rfl⟩ := trodVars_none hV
  have lt0 : ∀ x ∈ p0, x.block < W.heap.size := by obtain ⟨m, hm⟩ := h0; exact DataW.trod_lt m _ _ _ hm
  have lt1 : ∀ x ∈ p1, x.block < W.heap.size := by obtain ⟨m, hm⟩ := h1; exact DataW.trod_lt m _ _ _ hm
  have lt2 : ∀ x ∈ p2, x.block < W.heap.size := by obtain ⟨m, hm⟩ := h2; exact DataW.trod_lt m _ _ _ hm
  obtain ⟨x0, e0, f0⟩ := open_struct Tryd.underlying23 (L := [.int .i64, .int .i64]) (by kernel_rfl) (hval 0 _ v0 rfl rfl) h0
  obtain ⟨x1, e1, f1⟩ := open_struct Tryd.underlying42 (L := [.int .i64, .int .i64, .int .i64, .int .i64, .int .i64, .int .i64]) (by kernel_rfl) (hval 1 _ v1 rfl rfl) h1
  obtain ⟨a2, len2, cap2, rfl⟩ := okWide_slice Tryd.underlying43 (hval 2 _ v2 rfl rfl)
  obtain ⟨x2, e2, f2⟩ := open_cell (l := .sl [.int .i64, .int .i64]) (by kernel_rfl) rfl h2
  obtain ⟨u, d, rfl⟩ := fits_i2 f0
  obtain ⟨sl, sh, rl, rh, ll, lh, rfl⟩ := fits_i6 f1
  obtain ⟨rs, hx, hrs⟩ := fits_rows f2
  obtain ⟨ss, rfl⟩ := map_of (enc := fun s : Int × Int => [AVal.int .i64 s.1, .int .i64 s.2]) (l := rs) fun a ha => by
    obtain ⟨a, b, rfl⟩ := fits_i2 (hrs a ha)
    exact ⟨(a, b), rfl⟩
  have hxx : rowsV x2 = some (ss.map Tab.rStep) := by
    rcases hx with ⟨rfl, h⟩ | ⟨t, rfl⟩
    · show some [] = some _
      exact congrArg some h.symm
    · rfl
  refine (law_calls Tab.mixed Tab.TM_ok (fun g r hg => hglob hL g r hg) (xs := [.agg [.int .i64 u, .int .i64 d], .agg [.int .i64 sl, .int .i64 sh, .int .i64 rl, .int .i64 rh, .int .i64 ll, .int .i64 lh], x2]) (rowR_cons e0 (rowR_cons e1 (rowR_cons e2 rowR_nil))) (Tab.law4 u d sl sh rl rh ll lh x2 ss hxx)).mono fun e W' ⟨he, bel⟩ => ?_
  subst he
  exact ⟨_, rfl, _, _, _, [], _, [], hW', trodAll_mk1 (shut_bool Tryd.underlying4 _), (trodAll_cons_mk (Below.trod laidOut (by kernel_rfl) (of_decide_eq_true (by kernel_rfl)) h0 bel lt0) (trodAll_cons_mk (Below.trod laidOut (by kernel_rfl) (of_decide_eq_true (by kernel_rfl)) h1 bel lt1) (trodAll_cons_mk (Below.trod laidOut (by kernel_rfl) (of_decide_eq_true (by kernel_rfl)) h2 bel lt2) trodAll_mk0))), rfl, bel.frame _, fun h => by cases h⟩

theorem hours_row : Rows.DampHoursSaid :=
  OpenClaim.holds_of_wide 4 Tryd.f4 rfl rfl rfl rfl rfl rfl rfl ⟨rfl, rfl, rfl, rfl, rfl⟩ rfl rfl rfl rfl rfl (by kernel_rfl) Tryd.func4 (by kernel_rfl)
    (of_decide_eq_true (by kernel_rfl)) (by unfold Func.isWrapper; first | (rw [if_pos (by decide +kernel)]; kernel_rfl) | (rw [if_neg (by decide +kernel)]; exact ⟨rfl, rfl⟩))
    (fun os started H enc _ => hours_lifted os started H enc)

/-- THE CARD. -/
theorem hours_holds : Rows.DampHoursCardSaid :=
  Claim7.holds_tied_plain_at .later [] [.data, .data] true (true, "56bad9879500f7b0b6633073609d1ea05cb756ca03497bd711519f01bbe68a63") false
    hours_row (fun _ h => by cases h) (by kernel_rfl) (fun _ h => by cases h) dampHours_row_tie rfl ⟨rfl, rfl⟩ (by kernel_rfl) rfl
    (fun f fn hf hfn => by
      obtain rfl : f = 4 := Option.some.inj ((show Tryd.prog.funcNamed "testliner/testlinerlaw11.DampHours" = some 4 by kernel_rfl).symm.trans hf) |>.symm
      obtain rfl : fn = Tryd.f4 := (Option.some.inj (Tryd.func4.symm.trans hfn)).symm
      exact ⟨by kernel_rfl, fun j t ht => by
        rw [Tryd.params4] at ht
        have hm : t ∈ [23, 42, 43] := by simpa using Array.mem_of_getElem? ht
        have hall : ([23, 42, 43].all fun u => !Tryd.prog.wantsStandIn u) = true := by kernel_rfl
        exact (show Tryd.prog.wantsStandIn t = false by simpa using List.all_eq_true.1 hall t hm)⟩)
    (by kernel_rfl)
end Go.Proofs.YtpebmjeomlgmdaaDoor
