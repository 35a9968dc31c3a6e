/- The walk of DampAfters. No condition. -/
import Derived.Test.YtpebmjeomlgmdaaDoorBaRw
import Derived.Test.YtpebmjeomlgmdaaDoorBaCu
import Derived.Test.YtpebmjeomlgmdaaDoorBaB
set_option linter.unusedSimpArgs false
set_option linter.unusedVariables false
namespace Go.Proofs.YtpebmjeomlgmdaaDoor.Tab
open Go Go.Abs Go.Proofs
set_option maxRecDepth 100000
section
attribute [local simp] frz_int frz_bool frz_vl frz_pv frz_agg frz_tup frz_fn frz_ref frz_sl frz_nils optAll orcF rb_int rb_bool rb_agg rb_tup rb_int' rb_bool' rb_vl rb_pv rb_yld rb_nilf rb_nilp rb_nils rb_any rb_und rb_ref rb_sl rb_fn slE chunk fillA evParts evParts3 putAt List.range_succ List.range_zero List.range'_succ List.range'_zero runX_nil' unary_not evalS_pure evAll_nil evAll_cons runX_cons stepX wantedA dop CV.ev cellsOf putK_eq setK_eq appK_eq fA_eq fI_eq fN_eq fRow_eq fRows_eq nth_eq Out.v putT List.replicate_succ AEx.thn AEx.blk arI pointee Abs.rowAt ldRow allV toV toC ofV ofC Builtin.min_ Builtin.min2 Builtin.max_ Builtin.max2 min_if max_if resA tupA kill trim_self trim_len trim_emp trim_nil lenA
attribute [local simp] runD_nil' runD_cons' stepD actK_eq actD clash disj masks holes maskH unmaskH diffs news eqB allB eqA ldRowN wrote toCs ofCs stA storable rowsV_vl rowsV_nils rowsOf dI1 dI2 dI3 dI5 elt
theorem o17_eq (u d l r : Int) (x : AVal) (ss : List Stay) (hx : rowsV x = some (ss.map rStay)) (hl : ss.length ≤ 1000) : o17 [.agg [I u, I d], .agg [I l, I r], x] = some (I (rcheckI u d l r ss)) := by
  simp only [o17, hx]
  rw [optAll_map (d := dI3) (enc := rStay) (fun _ => rfl)]
  simp [hl]
theorem o15_eq (u d l r : Int) (x : AVal) (ss : List Stay) (hx : rowsV x = some (ss.map rStay)) (hl : ss.length ≤ 1000) : o15 [.agg [I u, I d], .agg [I l, I r], x] = some (.tup [outV (if checkI u d l r ss = 0 then pRun u d ss (l, r) else []), I (checkI u d l r ss)]) := by
  simp only [o15, hx]
  rw [optAll_map (d := dI3) (enc := rStay) (fun _ => rfl)]
  simp [hl]
theorem o16_eq (u d l r : Int) (x : AVal) (ss : List Stay) (hx : rowsV x = some (ss.map rStay)) (hl : ss.length ≤ 1000) : o16 [.agg [I u, I d], .agg [I l, I r], x] = some (if checkI u d l r ss = 0 then .tup [I (kRun u d ss ⟨l, r, r, 0, 0⟩).most, I (kRun u d ss ⟨l, r, r, 0, 0⟩).hour, I 0] else .tup [I 0, I 0, I (checkI u d l r ss)]) := by
  simp only [o16, hx]
  rw [optAll_map (d := dI3) (enc := rStay) (fun _ => rfl)]
  simp [hl]
theorem o19_eq (u d l r : Int) (x : AVal) (ss : List Stay) (hx : rowsV x = some (ss.map rStay)) (hok : rcheckI u d l r ss = 0) : o19 [.agg [I u, I d], .agg [I l, I r], x] = some (.tup [.vl ((rRun u d ss ⟨l, r, r, 0, 0⟩).1.map fun p => [I p.1, I p.2]) (rRun u d ss ⟨l, r, r, 0, 0⟩).1.isEmpty, I (rRun u d ss ⟨l, r, r, 0, 0⟩).2.peak, I (rRun u d ss ⟨l, r, r, 0, 0⟩).2.first]) := by
  simp only [o19, hx]
  rw [optAll_map (d := dI3) (enc := rStay) (fun _ => rfl)]
  simp [okB, hok]
theorem oOwn_eq (x : AVal) (ss : List Stay) (hx : rowsV x = some (ss.map rStay)) (hl : ss.length ≤ 1000) : oOwn 3 [x] = some (.vl (ss.map rStay) (ss.length == 0)) := by
  simp only [oOwn, hx]
  simp [hl, rStay, flat]
theorem oSame_eq (s : Nat) (x y : AVal) (rs : List (List AVal)) (hx : rowsV x = some rs) (hy : rowsV y = some rs) (hl : rs.length ≤ 1000) (hr : ∀ r ∈ rs, r.length = s ∧ ∀ v ∈ r, isI v = true) : oSame s [x, y] = some (.bool true) := by
  simp only [oSame, hx, hy]
  rw [if_pos]
  refine ⟨hl, ?_, allB_self rs fun r h => (hr r h).2⟩
  simp only [List.all_eq_true, Bool.and_eq_true, beq_iff_eq]
  exact fun r h => ⟨(hr r h).1, (hr r h).2⟩
theorem outV_rows (rows : List (Int × Int)) : rowsV (outV rows) = some (rows.map fun p => [I p.1, I p.2]) := by
  unfold outV; cases rows <;> simp [rowsV]

theorem pRun_len (u d : Int) : ∀ (ss : List Stay) (p : Int × Int), (pRun u d ss p).length = ss.length
  | [], _ => rfl
  | t :: ss, p => by simp [pRun, pRun_len u d ss]

theorem law3 (u d l r : Int) (x : AVal) (ss : List Stay) (hx : rowsV x = some (ss.map rStay)) : Answers Tryd.prog TK 3 [.agg [I u, I d], .agg [I l, I r], x] [] fun v _ => v = .bool true := by
  have hT : TK 3 = some c3 := rfl
  have h12 : TK 12 = some { c12 with frsh := true, orc := o12 } := rfl
  have h13 : TK 13 = some { c13 with frsh := true, orc := oOwn 3 } := rfl
  have h14 : TK 14 = some { c14 with frsh := true, orc := o14 } := rfl
  have h15 : TK 15 = some { c15 with frsh := true, orc := o15 } := rfl
  have h16 : TK 16 = some { c16 with frsh := true, orc := o16 } := rfl
  have h17 : TK 17 = some { c17 with frsh := true, orc := o17 } := rfl
  have h18 : TK 18 = some { c18 with frsh := true, orc := oSame 3 } := rfl
  have h19 : TK 19 = some { c19 with frsh := true, orc := o19 } := rfl
  have h20 : TK 20 = some { c20 with frsh := true, orc := oSame 2 } := rfl
  have lx := rowsV_len hx
  rw [List.length_map] at lx
  refine answers_of hT (orcF_none rfl) ?_
  simp only [c3]
  refine runs_seq (runs_reg (ops_run (by simp; rfl) ?_))
  simp only [AEx.thn, AEx.blk]
  refine runs_seq (runs_seq (runs_reg (ops_run (by simp [lx, -lenA]; rfl) ?_)))
  simp only [AEx.thn, AEx.blk]
  refine runs_cond_split (x := decide ((15:Int) < (ss.length:Int))) (by simp) (fun h1 => ?_) (fun h1 => ?_)
  · refine runs_seq (runs_reg (ops_run (by simp [lop, loud, callA, calleeA, callF_step h12, h12, o12]; rfl) ?_))
    simp only [AEx.thn, AEx.blk]
    refine runs_ret ?_
    simp
  · have hl : ss.length ≤ 15 := by have := of_decide_eq_false h1; omega
    have hl' : ss.length ≤ 1000 := by omega
    refine runs_skip ?_
    simp only [AEx.thn, AEx.blk]
    have ho := oOwn_eq x ss hx hl'
    refine runs_seq (runs_reg (ops_run (by simp [lop, loud, callA, calleeA, callF_step h13, h13, ho, rowsV_frz hx]; rfl) ?_))
    simp only [AEx.thn, AEx.blk]
    have hin : rowsV (.vl (ss.map rStay) (ss.length == 0)) = some (ss.map rStay) := rfl
    have w14 := o14_eq u d l r _ ss hin hl'
    have w15 := o15_eq u d l r _ ss hin hl'
    have w16 := o16_eq u d l r _ ss hin hl'
    have w17 := o17_eq u d l r x ss hx hl'
    have hsm := oSame_eq 3 (.vl (ss.map rStay) (ss.length == 0)) x (ss.map rStay) hin hx (by simpa using hl') (by intro q hq; obtain ⟨t, _, rfl⟩ := List.mem_map.1 hq; exact ⟨rfl, by intro v hv; simp [rStay] at hv; rcases hv with rfl | rfl | rfl <;> rfl⟩)
    have w19 := o19_eq u d l r x ss hx
    rw [← check_same] at w17 w19
    have hok := checkI_ok (u := u) (d := d) (l := l) (r := r) (ss := ss)
    generalize checkI u d l r ss = e at *
    refine runs_seq (runs_reg (ops_run (by simp [lop, loud, callA, calleeA, callF_step h14, h14, w14]; rfl) ?_))
    simp only [AEx.thn, AEx.blk]
    refine runs_seq (runs_reg (ops_run (by simp [lop, loud, callA, calleeA, callF_step h15, h15, w15]; rfl) ?_))
    simp only [AEx.thn, AEx.blk]
    by_cases he : e = 0
    · subst he
      obtain ⟨hu, hd, hl0, hr0, _, _, hss⟩ := hok rfl
      have hrun := run_same hu hd ss ⟨l, r, r, 0, 0⟩ ⟨l, r, r, 0, 0⟩ (fun t ht => (hss t ht).1) ⟨rfl, rfl, rfl, rfl, rfl, Int.le_refl _, hl0, hr0⟩
      have w19 := w19 rfl
      rw [hrun.1, hrun.2.1, hrun.2.2] at w19
      simp only [if_true] at w15 w16 ⊢
      have hlen : (pRun u d ss (l, r)).length ≤ 1000 := by rw [pRun_len]; omega
      generalize pRun u d ss (l, r) = rows at *
      generalize kRun u d ss ⟨l, r, r, 0, 0⟩ = ks at *
      have hsp := oSame_eq 2 (outV rows) (.vl (rows.map fun p => [I p.1, I p.2]) rows.isEmpty) (rows.map fun p => [I p.1, I p.2]) (outV_rows rows) rfl (by simpa using hlen) (by intro q hq; obtain ⟨t, _, rfl⟩ := List.mem_map.1 hq; exact ⟨rfl, by intro v hv; simp at hv; rcases hv with rfl | rfl <;> rfl⟩)
      have hfo := rowsV_frz (outV_rows rows)
      generalize outV rows = ov at *
      refine runs_seq (runs_reg (ops_run (by simp [lop, loud, callA, calleeA, callF_step h16, h16, w16]; rfl) ?_))
      simp only [AEx.thn, AEx.blk]
      refine runs_seq (runs_reg (ops_run (by simp [lop, loud, callA, calleeA, callF_step h17, h17, w17, rowsV_frz hx]; rfl) ?_))
      simp only [AEx.thn, AEx.blk]
      refine runs_seq (runs_seq (runs_reg (ops_run (by simp [lop, loud, callA, calleeA, callF_step h18, h18, hsm, rowsV_frz hx]; rfl) ?_)))
      simp only [AEx.thn, AEx.blk]
      refine runs_cond (x := false) (by simp) ?_
      refine runs_skip ?_
      simp only [AEx.thn, AEx.blk]
      refine runs_seq (runs_seq (runs_reg (ops_run (by simp; rfl) ?_)))
      simp only [AEx.thn, AEx.blk]
      refine runs_cond (x := false) (by simp) ?_
      refine runs_skip ?_
      simp only [AEx.thn, AEx.blk]
      refine runs_seq (runs_reg (ops_run (by simp [lop, loud, callA, calleeA, callF_step h19, h19, w19, rowsV_frz hx]; rfl) ?_))
      simp only [AEx.thn, AEx.blk]
      refine runs_seq (runs_reg (ops_run (by simp [lop, loud, callA, calleeA, callF_step h20, h20, callF_step h12, h12, o12, hsp, hfo]; rfl) ?_))
      simp only [AEx.thn, AEx.blk]
      refine runs_ret ?_
      simp
    · have w15' : o15 [.agg [I u, I d], .agg [I l, I r], .vl (ss.map rStay) (ss.length == 0)] = some (.tup [.nils, I e]) := by rw [w15, if_neg he]; rfl
      have w16' : o16 [.agg [I u, I d], .agg [I l, I r], .vl (ss.map rStay) (ss.length == 0)] = some (.tup [I 0, I 0, I e]) := by rw [w16, if_neg he]
      simp only [he, if_false]
      refine runs_seq (runs_reg (ops_run (by simp [lop, loud, callA, calleeA, callF_step h16, h16, w16']; rfl) ?_))
      simp only [AEx.thn, AEx.blk]
      refine runs_seq (runs_reg (ops_run (by simp [lop, loud, callA, calleeA, callF_step h17, h17, w17, rowsV_frz hx]; rfl) ?_))
      simp only [AEx.thn, AEx.blk]
      refine runs_seq (runs_seq (runs_reg (ops_run (by simp [lop, loud, callA, calleeA, callF_step h18, h18, hsm, rowsV_frz hx]; rfl) ?_)))
      simp only [AEx.thn, AEx.blk]
      refine runs_cond (x := false) (by simp) ?_
      refine runs_skip ?_
      simp only [AEx.thn, AEx.blk]
      refine runs_seq (runs_seq (runs_reg (ops_run (by simp; rfl) ?_)))
      simp only [AEx.thn, AEx.blk]
      refine runs_cond (x := true) (by simp [he]) ?_
      refine runs_seq (runs_reg (ops_run (by simp [lop, loud, callA, calleeA, callF_step h12, h12, o12, outV]; rfl) ?_))
      simp only [AEx.thn, AEx.blk]
      refine runs_ret ?_
      simp

end
end Go.Proofs.YtpebmjeomlgmdaaDoor.Tab

namespace Go.Proofs.YtpebmjeomlgmdaaDoor.Tab
open Go Go.Abs Go.Proofs
set_option maxRecDepth 100000
set_option maxHeartbeats 4000000
section
attribute [local simp] frz_int frz_bool frz_vl frz_pv frz_agg frz_tup frz_fn frz_ref frz_sl frz_nils optAll orcF rb_int rb_bool rb_agg rb_tup rb_int' rb_bool' rb_vl rb_pv rb_yld rb_nilf rb_nilp rb_nils rb_any rb_und rb_ref rb_sl rb_fn slE chunk fillA evParts evParts3 putAt List.range_succ List.range_zero List.range'_succ List.range'_zero runX_nil' unary_not evalS_pure evAll_nil evAll_cons runX_cons stepX wantedA dop CV.ev cellsOf putK_eq setK_eq appK_eq fA_eq fI_eq fN_eq fRow_eq fRows_eq nth_eq Out.v putT List.replicate_succ AEx.thn AEx.blk arI pointee Abs.rowAt ldRow allV toV toC ofV ofC Builtin.min_ Builtin.min2 Builtin.max_ Builtin.max2 min_if max_if resA tupA kill trim_self trim_len trim_emp trim_nil lenA
attribute [local simp] runD_nil' runD_cons' stepD actK_eq actD clash disj masks holes maskH unmaskH diffs news eqB allB eqA ldRowN wrote toCs ofCs stA storable rowsV_vl rowsV_nils rowsOf dI1 dI2 dI3 dI5 elt
theorem o22_eq (x : AVal) (l h : Int) (ts : List Step) (hx : rowsV x = some (ts.map rStep)) (hl : ts.length ≤ 1000) : o22 [x, .agg [I l, I h]] = some (if keepE ts l h = 0 then .tup [.agg [I (kept h ts), I (kept l ts)], I 0] else .tup [.agg [I 0, I 0], I (keepE ts l h)]) := by
  simp only [o22, hx]
  rw [optAll_map (d := dI2) (enc := rStep) (fun _ => rfl)]
  simp [hl]
theorem o24_eq (x : AVal) (ts : List Step) (hx : rowsV x = some (ts.map rStep)) (hl : ts.length ≤ 1000) : o24 [x] = some (.bool (tableB ts)) := by
  simp only [o24, hx]
  rw [optAll_map (d := dI2) (enc := rStep) (fun _ => rfl)]
  simp [hl]
theorem o26_eq (x : AVal) (l h : Int) (ts : List Step) (hx : rowsV x = some (ts.map rStep)) (hl : ts.length ≤ 1000) (hb : spanB l h 0 300 = true) : o26 [x, .agg [I l, I h]] = some (.agg [I (rKeep ts l h).1, I (rKeep ts l h).2]) := by
  simp only [o26, hx]
  rw [optAll_map (d := dI2) (enc := rStep) (fun _ => rfl)]
  simp [hl, hb]
theorem o28_eq (u d sl sh rl rh ll lh : Int) : o28 [.agg [I u, I d], .agg [I sl, I sh], .agg [I rl, I rh], .agg [I ll, I lh], I 500] = some (I (rhRun u d rl rh ll lh 500 501 0 sl sh (-1))) := by
  simp [o28]

theorem law4b (u d sl sh rl rh ll lh n e : Int) (v0 v1 v2 v5 v6 v7 v10 v11 v12 v13 v14 v15 v16 v17 v18 v19 v20 v21 v22 v23 v24 v25 v26 v27 v28 v29 v30 v31 v32 v33 v34 v35 v36 v37 v38 v39 v40 v41 v42 v43 v44 v45 v46 v47 v48 v49 v50 v51 v52 v53 v54 v55 v56 v57 v58 v59 v60 v61 v62 v63 v64 v65 v66 v67 v68 v69 v70 v71 v72 v73 v74 v75 v76 v77 v78 v79 v80 v81 v82 v83 v84 v85 v86 v87 v88 v89 v90 v91 v92 v93 v94 v95 v96 v97 v98 v99 v100 v101 v102 v103 v104 v105 v106 v107 v108 v109 v110 v111 v112 v113 v114 v115 v116 v117 v118 v119 v120 v121 v122 v123 v124 v125 v126 v127 v128 v129 : AVal) (g : Heap) (hn : n = if hoursE u d sl sh rl rh ll lh = 0 then hRun u d sl sh rl rh ll lh 500 0 else 0) (he : e = hoursE u d sl sh rl rh ll lh) :
    Runs Tryd.prog TM none (.seq (.reg [⟨(some 13), (.mv (.c (.int .i64 (0)))), none, []⟩, ⟨(some 14), (.mv (.c (.int .i64 (0)))), none, []⟩]) (.seq (.seq (.reg [⟨(some 79), (.ldn 2 (.t 3)), none, []⟩, ⟨(some 80), (.call (.c (.fn 27 [] [])) [(.t 79)]), none, []⟩, ⟨(some 81), (.un .not (.t 80)), none, []⟩]) (.cond (.t 81) (.reg [⟨(some 13), (.mv (.c (.int .i64 (2)))), none, []⟩]) (.seq (.reg [⟨(some 82), (.fa 0 (.t 4)), none, []⟩, ⟨(some 83), (.ldn 2 (.t 82)), none, []⟩, ⟨(some 84), (.call (.c (.fn 25 [] [])) [(.t 83)]), none, []⟩, ⟨(some 85), (.un .not (.t 84)), none, []⟩, ⟨(some 86), (.mv (.t 85)), none, []⟩, ⟨(some 87), (.fa 2 (.t 4)), (some (86, false)), []⟩, ⟨(some 88), (.ldn 2 (.t 87)), (some (86, false)), []⟩, ⟨(some 89), (.call (.c (.fn 25 [] [])) [(.t 88)]), (some (86, false)), []⟩, ⟨(some 90), (.un .not (.t 89)), (some (86, false)), []⟩, ⟨(some 91), (.pick (.t 86) (.c (.bool true)) (.t 90)), none, []⟩, ⟨(some 92), (.mv (.t 91)), none, []⟩, ⟨(some 93), (.fa 4 (.t 4)), (some (92, false)), []⟩, ⟨(some 94), (.ldn 2 (.t 93)), (some (92, false)), []⟩, ⟨(some 95), (.call (.c (.fn 25 [] [])) [(.t 94)]), (some (92, false)), []⟩, ⟨(some 96), (.un .not (.t 95)), (some (92, false)), []⟩, ⟨(some 97), (.pick (.t 92) (.c (.bool true)) (.t 96)), none, []⟩]) (.cond (.t 97) (.reg [⟨(some 13), (.mv (.c (.int .i64 (3)))), none, []⟩]) (.seq (.reg [⟨(some 98), (.ldn 2 (.t 3)), none, []⟩, ⟨(some 99), (.fa 0 (.t 4)), none, []⟩, ⟨(some 100), (.ldn 2 (.t 99)), none, []⟩, ⟨(some 101), (.fa 2 (.t 4)), none, []⟩, ⟨(some 102), (.ldn 2 (.t 101)), none, []⟩, ⟨(some 103), (.fa 4 (.t 4)), none, []⟩, ⟨(some 104), (.ldn 2 (.t 103)), none, []⟩, ⟨(some 105), (.call (.c (.fn 28 [] [])) [(.t 98), (.t 100), (.t 102), (.t 104), (.c (.int .i64 (500)))]), none, []⟩, ⟨(some 14), (.mv (.t 105)), none, []⟩]) (.seq (.reg [⟨(some 106), (.mv (.t 14)), none, []⟩, ⟨(some 107), (.ar .lss (.t 106) (.c (.int .i64 (0)))), none, []⟩]) (.cond (.t 107) (.reg [⟨(some 13), (.mv (.c (.int .i64 (9)))), none, []⟩]) .skip))))))) (.seq (.seq (.reg [⟨(some 108), (.mv (.t 13)), none, []⟩, ⟨(some 109), (.ar .neq (.t 108) (.c (.int .i64 (0)))), none, []⟩]) (.cond (.t 109) (.seq (.reg [⟨(some 110), (.mv (.t 9)), none, []⟩, ⟨(some 111), (.mv (.t 13)), none, []⟩, ⟨(some 112), (.ar .eql (.t 110) (.t 111)), none, []⟩, ⟨(some 113), (.mv (.t 112)), none, []⟩, ⟨(some 114), (.mv (.t 8)), (some (113, true)), []⟩, ⟨(some 115), (.ar .eql (.t 114) (.c (.int .i64 (0)))), (some (113, true)), []⟩, ⟨(some 116), (.pick (.t 113) (.t 115) (.c (.bool false))), none, []⟩, ⟨(some 117), (.mv (.t 116)), none, []⟩, ⟨(some 118), (.call (.c (.fn 12 [] [])) []), (some (117, true)), []⟩, ⟨(some 119), (.pick (.t 117) (.t 118) (.c (.bool false))), none, []⟩, ⟨(some 6), (.mv (.t 119)), none, []⟩]) .ret) .skip)) (.seq (.reg [⟨(some 120), (.mv (.t 9)), none, []⟩, ⟨(some 121), (.ar .eql (.t 120) (.c (.int .i64 (0)))), none, []⟩, ⟨(some 122), (.mv (.t 121)), none, []⟩, ⟨(some 123), (.mv (.t 8)), (some (122, true)), []⟩, ⟨(some 124), (.mv (.t 14)), (some (122, true)), []⟩, ⟨(some 125), (.ar .eql (.t 123) (.t 124)), (some (122, true)), []⟩, ⟨(some 126), (.pick (.t 122) (.t 125) (.c (.bool false))), none, []⟩, ⟨(some 127), (.mv (.t 126)), none, []⟩, ⟨(some 128), (.call (.c (.fn 12 [] [])) []), (some (127, true)), []⟩, ⟨(some 129), (.pick (.t 127) (.t 128) (.c (.bool false))), none, []⟩, ⟨(some 6), (.mv (.t 129)), none, []⟩]) .ret)))) ⟨[v0, v1, v2, .ref 0 0 0, .ref 1 0 0, v5, v6, v7, I n, I e, v10, v11, v12, v13, v14, v15, v16, v17, v18, v19, v20, v21, v22, v23, v24, v25, v26, v27, v28, v29, v30, v31, v32, v33, v34, v35, v36, v37, v38, v39, v40, v41, v42, v43, v44, v45, v46, v47, v48, v49, v50, v51, v52, v53, v54, v55, v56, v57, v58, v59, v60, v61, v62, v63, v64, v65, v66, v67, v68, v69, v70, v71, v72, v73, v74, v75, v76, v77, v78, v79, v80, v81, v82, v83, v84, v85, v86, v87, v88, v89, v90, v91, v92, v93, v94, v95, v96, v97, v98, v99, v100, v101, v102, v103, v104, v105, v106, v107, v108, v109, v110, v111, v112, v113, v114, v115, v116, v117, v118, v119, v120, v121, v122, v123, v124, v125, v126, v127, v128, v129], some (.row 2 [[I u, I d]]) :: some (.row 6 [[I sl, I sh, I rl, I rh, I ll, I lh]]) :: g⟩ (fun x σ => (∀ id, x ≠ .exit id) ∧ ∃ vs, resA σ.t σ.h [.tmp 6] = some vs ∧ tupA vs = .bool true) := by
  have h12 : TM 12 = some { c12 with frsh := true, orc := o12 } := rfl
  have h21 : TM 21 = some { c21 with frsh := true, orc := o21 } := rfl
  have h22 : TM 22 = some { c22 with frsh := true, orc := o22 } := rfl
  have h23 : TM 23 = some { c23 with frsh := true, orc := oSame 2 } := rfl
  have h24 : TM 24 = some { c24 with frsh := true, orc := o24 } := rfl
  have h25 : TM 25 = some { c25 with frsh := true, orc := o25 } := rfl
  have h26 : TM 26 = some { c26 with frsh := true, orc := o26 } := rfl
  have h27 : TM 27 = some { c27 with frsh := true, orc := o27 } := rfl
  have h28 : TM 28 = some { c28 with frsh := true, orc := o28 } := rfl
  have w28 := o28_eq u d sl sh rl rh ll lh
  have hlaw := hours_law u d sl sh rl rh ll lh
  unfold hoursE at hn he
  rw [rule_rB, moist_span, moist_span, moist_span] at hn he
  refine runs_seq (runs_reg (ops_run (by simp; rfl) ?_))
  simp only [AEx.thn, AEx.blk]
  refine runs_seq (runs_seq (runs_reg (ops_run (by simp [lop, loud, callA, calleeA, callF_step h27, h27, o27]; rfl) ?_)))
  simp only [AEx.thn, AEx.blk]
  cases c1 : rB u d
  · simp [c1] at hn he
    subst hn; subst he
    refine runs_cond (x := true) (by simp [c1]) ?_
    refine runs_reg (ops_run (by simp; rfl) ?_)
    simp only [AEx.thn, AEx.blk]
    refine runs_seq (runs_seq (runs_reg (ops_run (by simp; rfl) ?_)))
    simp only [AEx.thn, AEx.blk]
    refine runs_cond (x := true) (by simp) ?_
    refine runs_seq (runs_reg (ops_run (by simp [lop, loud, callA, calleeA, callF_step h12, h12, o12]; rfl) ?_))
    simp only [AEx.thn, AEx.blk]
    refine runs_ret ?_
    simp
  refine runs_cond (x := false) (by simp [c1]) ?_
  cases c2 : spanB sl sh 0 300
  · simp [c1, c2] at hn he
    subst hn; subst he
    refine runs_seq (runs_reg (ops_run (by simp [lop, loud, callA, calleeA, callF_step h25, h25, o25, c2]; rfl) ?_))
    simp only [AEx.thn, AEx.blk]
    refine runs_cond (x := true) (by simp) ?_
    refine runs_reg (ops_run (by simp; rfl) ?_)
    simp only [AEx.thn, AEx.blk]
    refine runs_seq (runs_seq (runs_reg (ops_run (by simp; rfl) ?_)))
    simp only [AEx.thn, AEx.blk]
    refine runs_cond (x := true) (by simp) ?_
    refine runs_seq (runs_reg (ops_run (by simp [lop, loud, callA, calleeA, callF_step h12, h12, o12]; rfl) ?_))
    simp only [AEx.thn, AEx.blk]
    refine runs_ret ?_
    simp
  cases c3 : spanB rl rh 0 300
  · simp [c1, c2, c3] at hn he
    subst hn; subst he
    refine runs_seq (runs_reg (ops_run (by simp [lop, loud, callA, calleeA, callF_step h25, h25, o25, c2, c3]; rfl) ?_))
    simp only [AEx.thn, AEx.blk]
    refine runs_cond (x := true) (by simp) ?_
    refine runs_reg (ops_run (by simp; rfl) ?_)
    simp only [AEx.thn, AEx.blk]
    refine runs_seq (runs_seq (runs_reg (ops_run (by simp; rfl) ?_)))
    simp only [AEx.thn, AEx.blk]
    refine runs_cond (x := true) (by simp) ?_
    refine runs_seq (runs_reg (ops_run (by simp [lop, loud, callA, calleeA, callF_step h12, h12, o12]; rfl) ?_))
    simp only [AEx.thn, AEx.blk]
    refine runs_ret ?_
    simp
  cases c4 : spanB ll lh 0 300
  · simp [c1, c2, c3, c4] at hn he
    subst hn; subst he
    refine runs_seq (runs_reg (ops_run (by simp [lop, loud, callA, calleeA, callF_step h25, h25, o25, c2, c3, c4]; rfl) ?_))
    simp only [AEx.thn, AEx.blk]
    refine runs_cond (x := true) (by simp) ?_
    refine runs_reg (ops_run (by simp; rfl) ?_)
    simp only [AEx.thn, AEx.blk]
    refine runs_seq (runs_seq (runs_reg (ops_run (by simp; rfl) ?_)))
    simp only [AEx.thn, AEx.blk]
    refine runs_cond (x := true) (by simp) ?_
    refine runs_seq (runs_reg (ops_run (by simp [lop, loud, callA, calleeA, callF_step h12, h12, o12]; rfl) ?_))
    simp only [AEx.thn, AEx.blk]
    refine runs_ret ?_
    simp
  refine runs_seq (runs_reg (ops_run (by simp [lop, loud, callA, calleeA, callF_step h25, h25, o25, c2, c3, c4]; rfl) ?_))
  simp only [AEx.thn, AEx.blk]
  refine runs_cond (x := false) (by simp) ?_
  have hl := hlaw c1 c2 c3 c4
  rw [hl] at w28
  refine runs_seq (runs_reg (ops_run (by simp [lop, loud, callA, calleeA, callF_step h28, h28, w28]; rfl) ?_))
  simp only [AEx.thn, AEx.blk]
  refine runs_seq (runs_reg (ops_run (by simp; rfl) ?_))
  simp only [AEx.thn, AEx.blk]
  cases c5 : liesB sl sh ll lh
  · simp [c1, c2, c3, c4, c5] at hn he
    subst hn; subst he
    refine runs_cond (x := true) (by simp [c5]) ?_
    refine runs_reg (ops_run (by simp; rfl) ?_)
    simp only [AEx.thn, AEx.blk]
    refine runs_seq (runs_seq (runs_reg (ops_run (by simp; rfl) ?_)))
    simp only [AEx.thn, AEx.blk]
    refine runs_cond (x := true) (by simp) ?_
    refine runs_seq (runs_reg (ops_run (by simp [lop, loud, callA, calleeA, callF_step h12, h12, o12]; rfl) ?_))
    simp only [AEx.thn, AEx.blk]
    refine runs_ret ?_
    simp
  simp [c1, c2, c3, c4, c5] at hn he
  subst he
  have hge := hRun_ge u d sl sh rl rh ll lh 500 0
  rw [← hn] at hge
  rw [← hn]
  have hnn : ¬ n < 0 := by omega
  refine runs_cond (x := false) (by simp [c5, hnn]) ?_
  refine runs_skip ?_
  simp only [AEx.thn, AEx.blk]
  refine runs_seq (runs_seq (runs_reg (ops_run (by simp; rfl) ?_)))
  simp only [AEx.thn, AEx.blk]
  refine runs_cond (x := false) (by simp) ?_
  refine runs_skip ?_
  simp only [AEx.thn, AEx.blk]
  refine runs_seq (runs_reg (ops_run (by simp [lop, loud, callA, calleeA, callF_step h12, h12, o12, c5]; rfl) ?_))
  simp only [AEx.thn, AEx.blk]
  refine runs_ret ?_
  simp

end
end Go.Proofs.YtpebmjeomlgmdaaDoor.Tab

namespace Go.Proofs.YtpebmjeomlgmdaaDoor.Tab
open Go Go.Abs Go.Proofs
set_option maxRecDepth 100000
set_option maxHeartbeats 4000000
section
attribute [local simp] frz_int frz_bool frz_vl frz_pv frz_agg frz_tup frz_fn frz_ref frz_sl frz_nils optAll orcF rb_int rb_bool rb_agg rb_tup rb_int' rb_bool' rb_vl rb_pv rb_yld rb_nilf rb_nilp rb_nils rb_any rb_und rb_ref rb_sl rb_fn slE chunk fillA evParts evParts3 putAt List.range_succ List.range_zero List.range'_succ List.range'_zero runX_nil' unary_not evalS_pure evAll_nil evAll_cons runX_cons stepX wantedA dop CV.ev cellsOf putK_eq setK_eq appK_eq fA_eq fI_eq fN_eq fRow_eq fRows_eq nth_eq Out.v putT List.replicate_succ AEx.thn AEx.blk arI pointee Abs.rowAt ldRow allV toV toC ofV ofC Builtin.min_ Builtin.min2 Builtin.max_ Builtin.max2 min_if max_if resA tupA kill trim_self trim_len trim_emp trim_nil lenA
attribute [local simp] runD_nil' runD_cons' stepD actK_eq actD clash disj masks holes maskH unmaskH diffs news eqB allB eqA ldRowN wrote toCs ofCs stA storable rowsV_vl rowsV_nils rowsOf dI1 dI2 dI3 dI5 elt
theorem law4a (u d sl sh rl rh ll lh : Int) (x vin vin' : AVal) (ts : List Step) (hx : rowsV x = some (ts.map rStep)) (hl : ts.length ≤ 1000) (hv : rowsV vin' = some (ts.map rStep)) (v0 v1 v5 v6 v8 v9 v10 v11 v12 v13 v14 v15 v16 v17 v18 v19 v20 v21 v22 v23 v24 v25 v26 v27 v28 v29 v30 v31 v32 v33 v34 v35 v36 v37 v38 v39 v40 v41 v42 v43 v44 v45 v46 v47 v48 v49 v50 v51 v52 v53 v54 v55 v56 v57 v58 v59 v60 v61 v62 v63 v64 v65 v66 v67 v68 v69 v70 v71 v72 v73 v74 v75 v76 v77 v78 v79 v80 v81 v82 v83 v84 v85 v86 v87 v88 v89 v90 v91 v92 v93 v94 v95 v96 v97 v98 v99 v100 v101 v102 v103 v104 v105 v106 v107 v108 v109 v110 v111 v112 v113 v114 v115 v116 v117 v118 v119 v120 v121 v122 v123 v124 v125 v126 v127 v128 v129 : AVal) (g : Heap)
    (hfv : ∀ y, frz false (some (.row 2 [[I u, I d]]) :: some (.row 6 [[I sl, I sh, I rl, I rh, I ll, I lh]]) :: (g ++ y)) 5 vin = some vin') :
    Runs Tryd.prog TM none (.seq (.reg [⟨(some 23), (.ldn 2 (.t 3)), none, []⟩, ⟨(some 24), (.fa 0 (.t 4)), none, []⟩, ⟨(some 25), (.ldn 2 (.t 24)), none, []⟩, ⟨(some 26), (.fa 2 (.t 4)), none, []⟩, ⟨(some 27), (.ldn 2 (.t 26)), none, []⟩, ⟨(some 28), (.fa 4 (.t 4)), none, []⟩, ⟨(some 29), (.ldn 2 (.t 28)), none, []⟩, ⟨(some 30), (.call (.c (.fn 21 [] [])) [(.t 23), (.t 25), (.t 27), (.t 29)]), none, []⟩, ⟨(some 22), (.mv (.t 30)), none, []⟩, ⟨(some 31), (.ext 0 (.t 22)), none, []⟩, ⟨(some 32), (.ext 1 (.t 22)), none, []⟩, ⟨(some 8), (.mv (.t 31)), none, []⟩, ⟨(some 9), (.mv (.t 32)), none, []⟩]) (.seq (.reg [⟨(some 34), (.mv (.t 7)), none, []⟩, ⟨(some 35), (.fa 0 (.t 4)), none, []⟩, ⟨(some 36), (.ldn 2 (.t 35)), none, []⟩, ⟨(some 37), (.call (.c (.fn 22 [] [])) [(.t 34), (.t 36)]), none, []⟩, ⟨(some 33), (.mv (.t 37)), none, []⟩, ⟨(some 38), (.ext 0 (.t 33)), none, []⟩, ⟨(some 39), (.ext 1 (.t 33)), none, []⟩, ⟨(some 10), (.new [(.int .i64 (0)), (.int .i64 (0))]), none, []⟩, ⟨none, (.st 2 (.t 10) (.t 38)), none, []⟩, ⟨(some 11), (.mv (.t 39)), none, []⟩]) (.seq (.seq (.reg [⟨(some 40), (.mv (.t 7)), none, []⟩, ⟨(some 41), (.mv (.t 2)), none, []⟩, ⟨(some 42), (.call (.c (.fn 23 [] [])) [(.t 40), (.t 41)]), none, []⟩, ⟨(some 43), (.un .not (.t 42)), none, []⟩]) (.cond (.t 43) (.seq (.reg [⟨(some 6), (.mv (.c (.bool false))), none, []⟩]) .ret) .skip)) (.seq (.reg [⟨(some 12), (.mv (.c (.int .i64 (0)))), none, []⟩]) (.seq (.seq (.reg [⟨(some 44), (.mv (.t 2)), none, []⟩, ⟨(some 45), (.call (.c (.fn 24 [] [])) [(.t 44)]), none, []⟩, ⟨(some 46), (.un .not (.t 45)), none, []⟩]) (.cond (.t 46) (.reg [⟨(some 12), (.mv (.c (.int .i64 (4)))), none, []⟩]) (.seq (.reg [⟨(some 47), (.fa 0 (.t 4)), none, []⟩, ⟨(some 48), (.ldn 2 (.t 47)), none, []⟩, ⟨(some 49), (.call (.c (.fn 25 [] [])) [(.t 48)]), none, []⟩, ⟨(some 50), (.un .not (.t 49)), none, []⟩]) (.cond (.t 50) (.reg [⟨(some 12), (.mv (.c (.int .i64 (3)))), none, []⟩]) .skip)))) (.seq (.seq (.drw [⟨(some 51), (.mv (.t 12)), none, []⟩, ⟨(some 52), (.ar .neq (.t 51) (.c (.int .i64 (0)))), none, []⟩, ⟨(some 53), (.mv (.t 52)), none, []⟩, ⟨(some 54), (.mv (.t 11)), (some (53, true)), []⟩, ⟨(some 55), (.mv (.t 12)), (some (53, true)), [3]⟩, ⟨(some 56), (.ar .neq (.t 54) (.t 55)), (some (53, true)), []⟩, ⟨(some 57), (.mv (.t 56)), (some (53, true)), []⟩, ⟨(some 58), (.ldn 2 (.t 10)), (some (57, false)), []⟩, ⟨(some 59), (.bld [(.int .i64 (0)), (.int .i64 (0))] []), (some (57, false)), [7]⟩, ⟨(some 60), (.eqv true 25 (.tmp 58) (.tmp 59) (.t 58) (.t 59)), (some (57, false)), []⟩, ⟨(some 61), (.pick (.t 57) (.c (.bool true)) (.t 60)), (some (53, true)), []⟩, ⟨(some 62), (.pick (.t 53) (.t 61) (.c (.bool false))), none, []⟩, ⟨(some 63), (.mv (.t 62)), none, []⟩, ⟨(some 64), (.mv (.t 12)), (some (63, false)), []⟩, ⟨(some 65), (.ar .eql (.t 64) (.c (.int .i64 (0)))), (some (63, false)), []⟩, ⟨(some 66), (.mv (.t 65)), (some (63, false)), []⟩, ⟨(some 67), (.mv (.t 11)), (some (66, true)), []⟩, ⟨(some 68), (.ar .neq (.t 67) (.c (.int .i64 (0)))), (some (66, true)), []⟩, ⟨(some 69), (.mv (.t 68)), (some (66, true)), []⟩, ⟨(some 70), (.ldn 2 (.t 10)), (some (69, false)), []⟩, ⟨(some 71), (.mv (.t 2)), (some (69, false)), [19]⟩, ⟨(some 72), (.fa 0 (.t 4)), (some (69, false)), [19, 20]⟩, ⟨(some 73), (.ldn 2 (.t 72)), (some (69, false)), [19, 20]⟩, ⟨(some 74), (.call (.c (.fn 26 [] [])) [(.t 71), (.t 73)]), (some (69, false)), [19]⟩, ⟨(some 75), (.eqv true 25 (.tmp 70) (.tmp 74) (.t 70) (.t 74)), (some (69, false)), []⟩, ⟨(some 76), (.pick (.t 69) (.c (.bool true)) (.t 75)), (some (66, true)), []⟩, ⟨(some 77), (.pick (.t 66) (.t 76) (.c (.bool false))), (some (63, false)), []⟩, ⟨(some 78), (.pick (.t 63) (.c (.bool true)) (.t 77)), none, []⟩]) (.cond (.t 78) (.seq (.reg [⟨(some 6), (.mv (.c (.bool false))), none, []⟩]) .ret) .skip)) (.seq (.reg [⟨(some 13), (.mv (.c (.int .i64 (0)))), none, []⟩, ⟨(some 14), (.mv (.c (.int .i64 (0)))), none, []⟩]) (.seq (.seq (.reg [⟨(some 79), (.ldn 2 (.t 3)), none, []⟩, ⟨(some 80), (.call (.c (.fn 27 [] [])) [(.t 79)]), none, []⟩, ⟨(some 81), (.un .not (.t 80)), none, []⟩]) (.cond (.t 81) (.reg [⟨(some 13), (.mv (.c (.int .i64 (2)))), none, []⟩]) (.seq (.reg [⟨(some 82), (.fa 0 (.t 4)), none, []⟩, ⟨(some 83), (.ldn 2 (.t 82)), none, []⟩, ⟨(some 84), (.call (.c (.fn 25 [] [])) [(.t 83)]), none, []⟩, ⟨(some 85), (.un .not (.t 84)), none, []⟩, ⟨(some 86), (.mv (.t 85)), none, []⟩, ⟨(some 87), (.fa 2 (.t 4)), (some (86, false)), []⟩, ⟨(some 88), (.ldn 2 (.t 87)), (some (86, false)), []⟩, ⟨(some 89), (.call (.c (.fn 25 [] [])) [(.t 88)]), (some (86, false)), []⟩, ⟨(some 90), (.un .not (.t 89)), (some (86, false)), []⟩, ⟨(some 91), (.pick (.t 86) (.c (.bool true)) (.t 90)), none, []⟩, ⟨(some 92), (.mv (.t 91)), none, []⟩, ⟨(some 93), (.fa 4 (.t 4)), (some (92, false)), []⟩, ⟨(some 94), (.ldn 2 (.t 93)), (some (92, false)), []⟩, ⟨(some 95), (.call (.c (.fn 25 [] [])) [(.t 94)]), (some (92, false)), []⟩, ⟨(some 96), (.un .not (.t 95)), (some (92, false)), []⟩, ⟨(some 97), (.pick (.t 92) (.c (.bool true)) (.t 96)), none, []⟩]) (.cond (.t 97) (.reg [⟨(some 13), (.mv (.c (.int .i64 (3)))), none, []⟩]) (.seq (.reg [⟨(some 98), (.ldn 2 (.t 3)), none, []⟩, ⟨(some 99), (.fa 0 (.t 4)), none, []⟩, ⟨(some 100), (.ldn 2 (.t 99)), none, []⟩, ⟨(some 101), (.fa 2 (.t 4)), none, []⟩, ⟨(some 102), (.ldn 2 (.t 101)), none, []⟩, ⟨(some 103), (.fa 4 (.t 4)), none, []⟩, ⟨(some 104), (.ldn 2 (.t 103)), none, []⟩, ⟨(some 105), (.call (.c (.fn 28 [] [])) [(.t 98), (.t 100), (.t 102), (.t 104), (.c (.int .i64 (500)))]), none, []⟩, ⟨(some 14), (.mv (.t 105)), none, []⟩]) (.seq (.reg [⟨(some 106), (.mv (.t 14)), none, []⟩, ⟨(some 107), (.ar .lss (.t 106) (.c (.int .i64 (0)))), none, []⟩]) (.cond (.t 107) (.reg [⟨(some 13), (.mv (.c (.int .i64 (9)))), none, []⟩]) .skip))))))) (.seq (.seq (.reg [⟨(some 108), (.mv (.t 13)), none, []⟩, ⟨(some 109), (.ar .neq (.t 108) (.c (.int .i64 (0)))), none, []⟩]) (.cond (.t 109) (.seq (.reg [⟨(some 110), (.mv (.t 9)), none, []⟩, ⟨(some 111), (.mv (.t 13)), none, []⟩, ⟨(some 112), (.ar .eql (.t 110) (.t 111)), none, []⟩, ⟨(some 113), (.mv (.t 112)), none, []⟩, ⟨(some 114), (.mv (.t 8)), (some (113, true)), []⟩, ⟨(some 115), (.ar .eql (.t 114) (.c (.int .i64 (0)))), (some (113, true)), []⟩, ⟨(some 116), (.pick (.t 113) (.t 115) (.c (.bool false))), none, []⟩, ⟨(some 117), (.mv (.t 116)), none, []⟩, ⟨(some 118), (.call (.c (.fn 12 [] [])) []), (some (117, true)), []⟩, ⟨(some 119), (.pick (.t 117) (.t 118) (.c (.bool false))), none, []⟩, ⟨(some 6), (.mv (.t 119)), none, []⟩]) .ret) .skip)) (.seq (.reg [⟨(some 120), (.mv (.t 9)), none, []⟩, ⟨(some 121), (.ar .eql (.t 120) (.c (.int .i64 (0)))), none, []⟩, ⟨(some 122), (.mv (.t 121)), none, []⟩, ⟨(some 123), (.mv (.t 8)), (some (122, true)), []⟩, ⟨(some 124), (.mv (.t 14)), (some (122, true)), []⟩, ⟨(some 125), (.ar .eql (.t 123) (.t 124)), (some (122, true)), []⟩, ⟨(some 126), (.pick (.t 122) (.t 125) (.c (.bool false))), none, []⟩, ⟨(some 127), (.mv (.t 126)), none, []⟩, ⟨(some 128), (.call (.c (.fn 12 [] [])) []), (some (127, true)), []⟩, ⟨(some 129), (.pick (.t 127) (.t 128) (.c (.bool false))), none, []⟩, ⟨(some 6), (.mv (.t 129)), none, []⟩]) .ret)))))))))) ⟨[v0, v1, x, .ref 0 0 0, .ref 1 0 0, v5, v6, vin, v8, v9, v10, v11, v12, v13, v14, v15, v16, v17, v18, v19, v20, v21, v22, v23, v24, v25, v26, v27, v28, v29, v30, v31, v32, v33, v34, v35, v36, v37, v38, v39, v40, v41, v42, v43, v44, v45, v46, v47, v48, v49, v50, v51, v52, v53, v54, v55, v56, v57, v58, v59, v60, v61, v62, v63, v64, v65, v66, v67, v68, v69, v70, v71, v72, v73, v74, v75, v76, v77, v78, v79, v80, v81, v82, v83, v84, v85, v86, v87, v88, v89, v90, v91, v92, v93, v94, v95, v96, v97, v98, v99, v100, v101, v102, v103, v104, v105, v106, v107, v108, v109, v110, v111, v112, v113, v114, v115, v116, v117, v118, v119, v120, v121, v122, v123, v124, v125, v126, v127, v128, v129], some (.row 2 [[I u, I d]]) :: some (.row 6 [[I sl, I sh, I rl, I rh, I ll, I lh]]) :: g⟩ (fun x σ => (∀ id, x ≠ .exit id) ∧ ∃ vs, resA σ.t σ.h [.tmp 6] = some vs ∧ tupA vs = .bool true) := by
  have h12 : TM 12 = some { c12 with frsh := true, orc := o12 } := rfl
  have h21 : TM 21 = some { c21 with frsh := true, orc := o21 } := rfl
  have h22 : TM 22 = some { c22 with frsh := true, orc := o22 } := rfl
  have h23 : TM 23 = some { c23 with frsh := true, orc := oSame 2 } := rfl
  have h24 : TM 24 = some { c24 with frsh := true, orc := o24 } := rfl
  have h25 : TM 25 = some { c25 with frsh := true, orc := o25 } := rfl
  have h26 : TM 26 = some { c26 with frsh := true, orc := o26 } := rfl
  have h27 : TM 27 = some { c27 with frsh := true, orc := o27 } := rfl
  have h28 : TM 28 = some { c28 with frsh := true, orc := o28 } := rfl
  have hfv0 : frz false (some (.row 2 [[I u, I d]]) :: some (.row 6 [[I sl, I sh, I rl, I rh, I ll, I lh]]) :: g) 5 vin = some vin' := by simpa using hfv []
  have hfx := rowsV_frz hx
  have w22 := o22_eq vin' sl sh ts hv hl
  have w24 := o24_eq x ts hx hl
  have w26 := o26_eq x sl sh ts hx hl
  have hsm := oSame_eq 2 vin' x (ts.map rStep) hv hx (by simpa using hl) (by intro q hq; obtain ⟨t, _, rfl⟩ := List.mem_map.1 hq; exact ⟨rfl, by intro v hv; simp [rStep] at hv; rcases hv with rfl | rfl <;> rfl⟩)
  obtain ⟨a, b, f, w22, hrel⟩ : ∃ a b f, o22 [vin', .agg [I sl, I sh]] = some (.tup [.agg [I a, I b], I f]) ∧ ((keepE ts sl sh = 0 ∧ f = 0 ∧ a = kept sh ts ∧ b = kept sl ts) ∨ (keepE ts sl sh ≠ 0 ∧ f = keepE ts sl sh ∧ a = 0 ∧ b = 0)) := by
    by_cases h : keepE ts sl sh = 0
    · exact ⟨_, _, _, by rw [w22, if_pos h], .inl ⟨h, rfl, rfl, rfl⟩⟩
    · exact ⟨_, _, _, by rw [w22, if_neg h], .inr ⟨h, rfl, rfl, rfl⟩⟩
  refine runs_seq (runs_reg (ops_run (by simp [lop, loud, callA, calleeA, callF_step h21, h21, o21]; rfl) ?_))
  simp only [AEx.thn, AEx.blk]
  refine runs_seq (runs_reg (ops_run (by simp [lop, loud, callA, calleeA, callF_step h22, h22, hfv0, w22, get_appK0, get_appK, set_app, set_app0]; rfl) ?_))
  simp only [AEx.thn, AEx.blk]
  refine runs_seq (runs_seq (runs_reg (ops_run (by simp [lop, loud, callA, calleeA, callF_step h23, h23, hfv, hfx, hsm]; rfl) ?_)))
  simp only [AEx.thn, AEx.blk]
  refine runs_cond (x := false) (by simp) ?_
  refine runs_skip ?_
  simp only [AEx.thn, AEx.blk]
  refine runs_seq (runs_reg (ops_run (by simp; rfl) ?_))
  simp only [AEx.thn, AEx.blk]
  refine runs_seq (runs_seq (runs_reg (ops_run (by simp [lop, loud, callA, calleeA, callF_step h24, h24, w24, hfx]; rfl) ?_)))
  simp only [AEx.thn, AEx.blk]
  unfold keepE at hrel
  rw [moist_span] at hrel
  cases c1 : tableB ts
  · simp [c1] at hrel
    obtain ⟨rfl, rfl, rfl⟩ := hrel
    refine runs_cond (x := true) (by simp [c1]) ?_
    refine runs_reg (ops_run (by simp; rfl) ?_)
    simp only [AEx.thn, AEx.blk]
    refine runs_seq (runs_seq (runs_drw (by simp [get_appK0, get_appK, set_app, set_app0, eq25n]; rfl) ?_))
    simp only [AEx.thn, AEx.blk]
    refine runs_cond (x := false) (by simp) ?_
    refine runs_skip ?_
    simp only [AEx.thn, AEx.blk]
    exact law4b u d sl sh rl rh ll lh _ _ _ _ _ _ _ _ _ _ _ _ _ _ _ _ _ _ _ _ _ _ _ _ _ _ _ _ _ _ _ _ _ _ _ _ _ _ _ _ _ _ _ _ _ _ _ _ _ _ _ _ _ _ _ _ _ _ _ _ _ _ _ _ _ _ _ _ _ _ _ _ _ _ _ _ _ _ _ _ _ _ _ _ _ _ _ _ _ _ _ _ _ _ _ _ _ _ _ _ _ _ _ _ _ _ _ _ _ _ _ _ _ _ _ _ _ _ _ _ _ _ _ _ _ _ _ _ _ rfl rfl
  refine runs_cond (x := false) (by simp [c1]) ?_
  refine runs_seq (runs_reg (ops_run (by simp [lop, loud, callA, calleeA, callF_step h25, h25, o25]; rfl) ?_))
  simp only [AEx.thn, AEx.blk]
  cases c2 : spanB sl sh 0 300
  · simp [c1, c2] at hrel
    obtain ⟨rfl, rfl, rfl⟩ := hrel
    refine runs_cond (x := true) (by simp [c2]) ?_
    refine runs_reg (ops_run (by simp; rfl) ?_)
    simp only [AEx.thn, AEx.blk]
    refine runs_seq (runs_seq (runs_drw (by simp [get_appK0, get_appK, set_app, set_app0, eq25n]; rfl) ?_))
    simp only [AEx.thn, AEx.blk]
    refine runs_cond (x := false) (by simp) ?_
    refine runs_skip ?_
    simp only [AEx.thn, AEx.blk]
    exact law4b u d sl sh rl rh ll lh _ _ _ _ _ _ _ _ _ _ _ _ _ _ _ _ _ _ _ _ _ _ _ _ _ _ _ _ _ _ _ _ _ _ _ _ _ _ _ _ _ _ _ _ _ _ _ _ _ _ _ _ _ _ _ _ _ _ _ _ _ _ _ _ _ _ _ _ _ _ _ _ _ _ _ _ _ _ _ _ _ _ _ _ _ _ _ _ _ _ _ _ _ _ _ _ _ _ _ _ _ _ _ _ _ _ _ _ _ _ _ _ _ _ _ _ _ _ _ _ _ _ _ _ _ _ _ _ _ rfl rfl
  simp [c1, c2] at hrel
  obtain ⟨rfl, rfl, rfl⟩ := hrel
  have w26 := w26 c2
  rw [keep_law c1 c2] at w26
  refine runs_cond (x := false) (by simp [c2]) ?_
  refine runs_skip ?_
  simp only [AEx.thn, AEx.blk]
  refine runs_seq (runs_seq (runs_drw (by simp [lop, loud, callA, calleeA, callF_step h26, h26, get_appK0, get_appK, set_app, set_app0, eq25n, w26, hfx]; rfl) ?_))
  simp only [AEx.thn, AEx.blk]
  refine runs_cond (x := false) (by simp) ?_
  refine runs_skip ?_
  simp only [AEx.thn, AEx.blk]
  exact law4b u d sl sh rl rh ll lh _ _ _ _ _ _ _ _ _ _ _ _ _ _ _ _ _ _ _ _ _ _ _ _ _ _ _ _ _ _ _ _ _ _ _ _ _ _ _ _ _ _ _ _ _ _ _ _ _ _ _ _ _ _ _ _ _ _ _ _ _ _ _ _ _ _ _ _ _ _ _ _ _ _ _ _ _ _ _ _ _ _ _ _ _ _ _ _ _ _ _ _ _ _ _ _ _ _ _ _ _ _ _ _ _ _ _ _ _ _ _ _ _ _ _ _ _ _ _ _ _ _ _ _ _ _ _ _ _ rfl rfl

theorem law4 (u d sl sh rl rh ll lh : Int) (x : AVal) (ts : List Step) (hx : rowsV x = some (ts.map rStep)) : Answers Tryd.prog TM 4 [.agg [I u, I d], .agg [I sl, I sh, I rl, I rh, I ll, I lh], x] [] fun v _ => v = .bool true := by
  have hT : TM 4 = some c4 := rfl
  have h12 : TM 12 = some { c12 with frsh := true, orc := o12 } := rfl
  have lx := rowsV_len hx
  rw [List.length_map] at lx
  refine answers_of hT (orcF_none rfl) ?_
  simp only [c4]
  refine runs_seq (runs_reg (ops_run (by simp; rfl) ?_))
  simp only [AEx.thn, AEx.blk]
  refine runs_seq (runs_seq (runs_reg (ops_run (by simp [lx, -lenA]; rfl) ?_)))
  simp only [AEx.thn, AEx.blk]
  refine runs_cond_split (x := decide ((15:Int) < (ts.length:Int))) (by simp) (fun h1 => ?_) (fun h1 => ?_)
  · refine runs_seq (runs_reg (ops_run (by simp [lop, loud, callA, calleeA, callF_step h12, h12, o12]; rfl) ?_))
    simp only [AEx.thn, AEx.blk]
    refine runs_ret ?_
    simp
  · have hl : ts.length ≤ 15 := by have := of_decide_eq_false h1; omega
    refine runs_skip ?_
    simp only [AEx.thn, AEx.blk]
    have hst : ∀ r ∈ ts.map rStep, r.length = 2 ∧ ∀ y ∈ r, storable y = true := fun r hr => by
      obtain ⟨t, _, rfl⟩ := List.mem_map.1 hr
      exact ⟨rfl, fun y hy => by simp [rStep] at hy; rcases hy with rfl | rfl <;> rfl⟩
    have hfl : ∀ (nv : Bool) (H : Heap), optAll (optAll (frz nv H 4)) (ts.map rStep) = some (ts.map rStep) := fun nv H => frz_rows nv H 3 _ fun r hr y hy => by
      obtain ⟨t, _, rfl⟩ := List.mem_map.1 hr
      simp [rStep] at hy; rcases hy with rfl | rfl <;> rfl
    rcases rowsV_cases hx with ⟨rfl, h0⟩ | ⟨t, rfl⟩
    · refine runs_seq (runs_reg (ops_run (by simp [lop, loud]; rfl) ?_))
      simp only [AEx.thn, AEx.blk]
      refine law4a u d sl sh rl rh ll lh _ _ (.vl [] true) ts hx (by omega) (by rw [h0]; rfl) _ _ _ _ _ _ _ _ _ _ _ _ _ _ _ _ _ _ _ _ _ _ _ _ _ _ _ _ _ _ _ _ _ _ _ _ _ _ _ _ _ _ _ _ _ _ _ _ _ _ _ _ _ _ _ _ _ _ _ _ _ _ _ _ _ _ _ _ _ _ _ _ _ _ _ _ _ _ _ _ _ _ _ _ _ _ _ _ _ _ _ _ _ _ _ _ _ _ _ _ _ _ _ _ _ _ _ _ _ _ _ _ _ _ _ _ _ _ _ _ _ _ _ _ _ _ [some (.row 2 [])] fun y => ?_
      simp
    · cases hts : ts with
      | nil =>
        subst hts
        refine runs_seq (runs_reg (ops_run (by simp [lop, loud]; rfl) ?_))
        simp only [AEx.thn, AEx.blk]
        refine law4a u d sl sh rl rh ll lh _ _ (.vl [] true) [] rfl (by omega) rfl _ _ _ _ _ _ _ _ _ _ _ _ _ _ _ _ _ _ _ _ _ _ _ _ _ _ _ _ _ _ _ _ _ _ _ _ _ _ _ _ _ _ _ _ _ _ _ _ _ _ _ _ _ _ _ _ _ _ _ _ _ _ _ _ _ _ _ _ _ _ _ _ _ _ _ _ _ _ _ _ _ _ _ _ _ _ _ _ _ _ _ _ _ _ _ _ _ _ _ _ _ _ _ _ _ _ _ _ _ _ _ _ _ _ _ _ _ _ _ _ _ _ _ _ _ _ [some (.row 2 [])] fun y => ?_
        simp
      | cons q qs =>
        rw [← hts]
        have hne : ¬ ts.map rStep = [] := by rw [hts]; simp
        have hlm : (ts.map rStep).length ≤ 1048576 := by simp; omega
        generalize hrs : ts.map rStep = rs at *
        refine runs_seq (runs_reg (ops_run (by simp [lop, loud, lim, hne, -storable]; rw [if_pos ⟨hlm, fun r hr => (hst r hr).1, fun r hr => (hst r hr).2⟩]; rfl) ?_))
        simp only [AEx.thn, AEx.blk]
        refine law4a u d sl sh rl rh ll lh _ _ (.vl rs false) ts (by rw [hrs]; rfl) (by omega) (by rw [hrs]; rfl) _ _ _ _ _ _ _ _ _ _ _ _ _ _ _ _ _ _ _ _ _ _ _ _ _ _ _ _ _ _ _ _ _ _ _ _ _ _ _ _ _ _ _ _ _ _ _ _ _ _ _ _ _ _ _ _ _ _ _ _ _ _ _ _ _ _ _ _ _ _ _ _ _ _ _ _ _ _ _ _ _ _ _ _ _ _ _ _ _ _ _ _ _ _ _ _ _ _ _ _ _ _ _ _ _ _ _ _ _ _ _ _ _ _ _ _ _ _ _ _ _ _ _ _ _ _ [some (.row 2 []), some (.row 2 rs)] fun y => ?_
        exact frz_row false _ 4 3 _ 2 false rs rfl rfl (hfl _ _)

end
end Go.Proofs.YtpebmjeomlgmdaaDoor.Tab

namespace Go.Proofs.YtpebmjeomlgmdaaDoor.Tab
open Go Go.Abs Go.Proofs
set_option maxRecDepth 100000
set_option maxHeartbeats 4000000
section
attribute [local simp] frz_int frz_bool frz_vl frz_pv frz_agg frz_tup frz_fn frz_ref frz_sl frz_nils optAll orcF rb_int rb_bool rb_agg rb_tup rb_int' rb_bool' rb_vl rb_pv rb_yld rb_nilf rb_nilp rb_nils rb_any rb_und rb_ref rb_sl rb_fn slE chunk fillA evParts evParts3 putAt List.range_succ List.range_zero List.range'_succ List.range'_zero runX_nil' unary_not evalS_pure evAll_nil evAll_cons runX_cons stepX wantedA dop CV.ev cellsOf putK_eq setK_eq appK_eq fA_eq fI_eq fN_eq fRow_eq fRows_eq nth_eq Out.v putT List.replicate_succ AEx.thn AEx.blk arI pointee Abs.rowAt ldRow allV toV toC ofV ofC Builtin.min_ Builtin.min2 Builtin.max_ Builtin.max2 min_if max_if resA tupA kill trim_self trim_len trim_emp trim_nil lenA
attribute [local simp] runD_nil' runD_cons' stepD actK_eq actD clash disj masks holes maskH unmaskH diffs news eqB allB eqA ldRowN wrote toCs ofCs stA storable rowsV_vl rowsV_nils rowsOf dI1 dI2 dI3 dI5 elt
def o42 : List AVal → Option AVal
  | [.int .i64 a, .int .i64 b] => some (.agg [.int .i64 a, .int .i64 b])
  | _ => none
/-- The law's own hour. -/
def aft (u d m room : Int) : Int := if m < room then min (W .i64 (m + u)) room else max (W .i64 (m - d)) room
def o41 : List AVal → Option AVal
  | [.agg [.int .i64 u, .int .i64 d], .int .i64 m, .int .i64 room] => some (.int .i64 (aft u d m room))
  | _ => none
def insideI (l h b : Int) : Int := W .i64 (l + W .i64 ((W .i64 (b * W .i64 (h - l))).tdiv 255))
def o39 : List AVal → Option AVal
  | [.agg [.int .i64 l, .int .i64 h], .int .i64 b] => some (.int .i64 (insideI l h b))
  | _ => none
def U (n : Int) : AVal := .int .u8 n
def dU1 : List AVal → Option Int
  | [.int .u8 n] => if 0 ≤ n ∧ n ≤ 255 then some n else none
  | _ => none
def dU3 : List AVal → Option (Int × Int × Int)
  | [.int .u8 a, .int .u8 b, .int .u8 c] => if (0 ≤ a ∧ a ≤ 255) ∧ (0 ≤ b ∧ b ≤ 255) ∧ (0 ≤ c ∧ c ≤ 255) then some (a, b, c) else none
  | _ => none
def rU3 (t : Int × Int × Int) : List AVal := [.int .u8 t.1, .int .u8 t.2.1, .int .u8 t.2.2]
def rU1 (n : Int) : List AVal := [.int .u8 n]
theorem dU1_eq (r : List AVal) (n : Int) (h : dU1 r = some n) : r = rU1 n ∧ 0 ≤ n ∧ n ≤ 255 := by
  unfold dU1 at h; split at h <;> (try simp at h)
  obtain ⟨h1, rfl⟩ := h; exact ⟨rfl, h1⟩
theorem dU3_eq (r : List AVal) (t : Int × Int × Int) (h : dU3 r = some t) : r = rU3 t ∧ (0 ≤ t.1 ∧ t.1 ≤ 255) ∧ (0 ≤ t.2.1 ∧ t.2.1 ≤ 255) ∧ (0 ≤ t.2.2 ∧ t.2.2 ≤ 255) := by
  unfold dU3 at h; split at h <;> (try simp at h)
  obtain ⟨h1, rfl⟩ := h; exact ⟨rfl, h1⟩
theorem optAll_facts {α β : Type} {d : α → Option β} {enc : β → α} {p : β → Prop} (h : ∀ r x, d r = some x → r = enc x ∧ p x) : ∀ {rs : List α} {xs : List β}, optAll d rs = some xs → rs = xs.map enc ∧ ∀ x ∈ xs, p x
  | [], xs, e => by simp [optAll] at e; subst e; exact ⟨rfl, by simp⟩
  | r :: rs, xs, e => by
    simp only [optAll] at e
    split at e <;> simp at e
    rename_i y ys h1 h2
    subst e
    obtain ⟨e1, e2⟩ := optAll_facts h h2
    obtain ⟨e3, e4⟩ := h r y h1
    exact ⟨by rw [e3, e1]; rfl, by simpa using ⟨e4, e2⟩⟩
def byteI (bs : List Int) (i : Int) : Int := if bs.isEmpty then 0 else bs.getD (i.tmod bs.length).toNat 0
def o40 : List AVal → Option AVal
  | [x, .int .i64 i] => match rowsV x with
    | some rs => match optAll dU1 rs with
      | some bs => if 0 ≤ i then some (.int .i64 (byteI bs i)) else none
      | none => none
    | none => none
  | _ => none

theorem a42 (P : Program) (T : Nat → Option CFn) (hT : T 42 = some c42) (a b : Int) : Answers P T 42 [I a, I b] [] fun v h => v = .agg [I a, I b] ∧ h = [] := by
  refine answers_of hT (orcF_none rfl) ?_
  simp only [c42]
  refine runs_seq (runs_reg (ops_run (by simp; rfl) ?_))
  simp only [AEx.thn, AEx.blk]
  refine runs_seq (runs_reg (ops_run (by simp [lop, loud]; rfl) ?_))
  simp only [AEx.thn, AEx.blk]
  refine runs_ret ?_
  simp
theorem a41 (P : Program) (T : Nat → Option CFn) (hT : T 41 = some c41) (u d m room : Int) : Answers P T 41 [.agg [I u, I d], I m, I room] [] fun v h => v = I (aft u d m room) ∧ h = [] := by
  refine answers_of hT (orcF_none rfl) ?_
  simp only [c41]
  refine runs_seq (runs_reg (ops_run (by simp; rfl) ?_))
  simp only [AEx.thn, AEx.blk]
  refine runs_seq (runs_seq (runs_reg (ops_run (by simp; rfl) ?_)))
  simp only [AEx.thn, AEx.blk]
  refine runs_cond_split (x := decide (m < room)) (by simp) (fun hc => ?_) (fun hc => ?_)
  · refine runs_seq (runs_reg (ops_run (by simp; rfl) ?_))
    simp only [AEx.thn, AEx.blk]
    have hc : m < room := by simpa using hc
    refine runs_ret ?_
    simp [aft, hc]
  · refine runs_skip ?_
    simp only [AEx.thn, AEx.blk]
    refine runs_seq (runs_reg (ops_run (by simp; rfl) ?_))
    simp only [AEx.thn, AEx.blk]
    have hc : ¬ m < room := by simpa using hc
    refine runs_ret ?_
    simp [aft, hc]
theorem a39 (P : Program) (T : Nat → Option CFn) (hT : T 39 = some c39) (l r b : Int) : Answers P T 39 [.agg [I l, I r], I b] [] fun v h => v = I (insideI l r b) ∧ h = [] := by
  refine answers_of hT (orcF_none rfl) ?_
  simp only [c39]
  refine runs_seq (runs_reg (ops_run (by simp; rfl) ?_))
  simp only [AEx.thn, AEx.blk]
  refine runs_seq (runs_reg (ops_run (by simp; rfl) ?_))
  simp only [AEx.thn, AEx.blk]
  refine runs_ret ?_
  simp [insideI]
theorem W_byte {n : Int} (h : 0 ≤ n ∧ n ≤ 255) : W .i64 n = n := W_small (by omega)
theorem a40 (P : Program) (T : Nat → Option CFn) (hT : T 40 = some c40) (x : AVal) (bs : List Int) (hx : rowsV x = some (bs.map rU1)) (hb : ∀ b ∈ bs, 0 ≤ b ∧ b ≤ 255) (i : Int) (hi : 0 ≤ i) : Answers P T 40 [x, I i] [] fun v h => v = I (byteI bs i) ∧ h = [] := by
  have lx := rowsV_len hx
  rw [List.length_map] at lx
  refine answers_of hT (orcF_none rfl) ?_
  simp only [c40]
  refine runs_seq (runs_reg (ops_run (by simp; rfl) ?_))
  simp only [AEx.thn, AEx.blk]
  refine runs_seq (runs_seq (runs_reg (ops_run (by simp [lx, -lenA]; rfl) ?_)))
  simp only [AEx.thn, AEx.blk]
  cases bs with
  | nil =>
    refine runs_cond (x := true) (by simp) ?_
    refine runs_seq (runs_reg (ops_run (by simp; rfl) ?_))
    simp only [AEx.thn, AEx.blk]
    refine runs_ret ?_
    simp [byteI]
  | cons b0 bs =>
    refine runs_cond (x := false) (by simp; omega) ?_
    refine runs_skip ?_
    simp only [AEx.thn, AEx.blk]
    obtain ⟨tt, rfl⟩ := rowsV_get hx (k := 0) (by simp)
    generalize hL : b0 :: bs = L at *
    have hne : (L.length : Int) ≠ 0 := by rw [← hL]; simp; omega
    have hLe : ¬ L = [] := by rw [← hL]; simp
    have hpos : (0 : Int) < L.length := by omega
    have hq0 : 0 ≤ i.tmod L.length := Int.tmod_nonneg _ hi
    have hq1 : i.tmod L.length < L.length := Int.tmod_lt_of_pos _ hpos
    have hk : (i.tmod L.length).toNat < L.length := by omega
    have hbk := hb _ (List.getElem_mem hk)
    generalize hq : i.tmod (L.length : Int) = q at *
    refine runs_seq (runs_reg (ops_run (by simp [lx, -lenA, hLe, hq, hq0, hk, rU1, W_byte hbk]; rfl) ?_))
    simp only [AEx.thn, AEx.blk]
    refine runs_ret ?_
    have hie : L.isEmpty = false := by rw [← hL]; rfl
    simp [byteI, hie, hq, hk]

noncomputable def TP1_42 : Nat → Option CFn := upd TM 42 true (o42)
theorem TP1_42_ok : TabOk Tryd.prog GG TP1_42 := tab_add mixed TM_ok fun args v ho => by
  unfold o42 at ho; split at ho <;> simp at ho
  rename_i a b
  subst ho
  refine (a42 Tryd.prog TM rfl a b).mono ?_
  rintro v h ⟨rfl, rfl⟩
  simp [frz_agg, frz_int, optAll]
noncomputable def TP1_41 : Nat → Option CFn := upd TP1_42 41 true (o41)
theorem TP1_41_ok : TabOk Tryd.prog GG TP1_41 := tab_add mixed TP1_42_ok fun args v ho => by
  unfold o41 at ho; split at ho <;> simp at ho
  rename_i a b c e
  subst ho
  refine (a41 Tryd.prog TP1_42 rfl a b c e).mono ?_
  rintro v h ⟨rfl, rfl⟩
  simp [frz_agg, frz_int, optAll]
noncomputable def TP1_39 : Nat → Option CFn := upd TP1_41 39 true (o39)
theorem TP1_39_ok : TabOk Tryd.prog GG TP1_39 := tab_add mixed TP1_41_ok fun args v ho => by
  unfold o39 at ho; split at ho <;> simp at ho
  rename_i a b c
  subst ho
  refine (a39 Tryd.prog TP1_41 rfl a b c).mono ?_
  rintro v h ⟨rfl, rfl⟩
  simp [frz_agg, frz_int, optAll]
noncomputable def TP1 : Nat → Option CFn := upd TP1_39 40 true (o40)
theorem TP1_ok : TabOk Tryd.prog GG TP1 := tab_add mixed TP1_39_ok fun args v ho => by
  unfold o40 at ho; split at ho <;> (try simp at ho)
  rename_i x i
  split at ho <;> (try simp at ho)
  rename_i rs hx
  split at ho <;> (try simp at ho)
  rename_i bs hbs
  obtain ⟨hi, rfl⟩ := ho
  obtain ⟨rfl, hb⟩ := optAll_facts dU1_eq hbs
  refine (a40 Tryd.prog TP1_39 rfl x bs hx hb i hi).mono ?_
  rintro v h ⟨rfl, rfl⟩
  rfl
end
end Go.Proofs.YtpebmjeomlgmdaaDoor.Tab

namespace Go.Proofs.YtpebmjeomlgmdaaDoor.Tab
open Go Go.Abs Go.Proofs
set_option maxRecDepth 100000
set_option maxHeartbeats 4000000
section
attribute [local simp] frz_int frz_bool frz_vl frz_pv frz_agg frz_tup frz_fn frz_ref frz_sl frz_nils optAll orcF rb_int rb_bool rb_agg rb_tup rb_int' rb_bool' rb_vl rb_pv rb_yld rb_nilf rb_nilp rb_nils rb_any rb_und rb_ref rb_sl rb_fn slE chunk fillA evParts evParts3 putAt List.range_succ List.range_zero List.range'_succ List.range'_zero runX_nil' unary_not evalS_pure evAll_nil evAll_cons runX_cons stepX wantedA dop CV.ev cellsOf putK_eq setK_eq appK_eq fA_eq fI_eq fN_eq fRow_eq fRows_eq nth_eq Out.v putT List.replicate_succ AEx.thn AEx.blk arI pointee Abs.rowAt ldRow allV toV toC ofV ofC Builtin.min_ Builtin.min2 Builtin.max_ Builtin.max2 min_if max_if resA tupA kill trim_self trim_len trim_emp trim_nil lenA
attribute [local simp] runD_nil' runD_cons' stepD actK_eq actD clash disj masks holes maskH unmaskH diffs news eqB allB eqA ldRowN wrote toCs ofCs stA storable rowsV_vl rowsV_nils rowsOf dI1 dI2 dI3 dI5 elt
/-- A stay, out of three bytes. -/
def bStay (v : Int × Int × Int) : Stay := (v.1, v.1 + v.2.1.tmod 30, v.2.2.tmod 25)
def tripStays (vs : List (Int × Int × Int)) : List Stay := (vs.take 6).map bStay
def OutS (h : Heap) (v : AVal) (b s lo : Nat) (rows : List (List AVal)) : Prop :=
  (v = .sl b 0 0 true ∧ rows = [] ∧ h[b]? = some (some (.row s []))) ∨ ∃ j, lo ≤ j ∧ (rows ≠ [] ∧ v = .sl j 0 rows.length false) ∧ h[j]? = some (some (.row s rows))

theorem a38 (P : Program) (T : Nat → Option CFn) (hT : T 38 = some c38) (h42 : T 42 = some { c42 with frsh := true, orc := o42 }) (r0 r1 s0 s1 : Int) (x : AVal) (vs : List (Int × Int × Int)) (hx : rowsV x = some (vs.map rU3)) (hr0 : 0 ≤ r0 ∧ r0 ≤ 255) (hr1 : 0 ≤ r1 ∧ r1 ≤ 255) (hs0 : 0 ≤ s0 ∧ s0 ≤ 255) (hs1 : 0 ≤ s1 ∧ s1 ≤ 255)
    (hv : ∀ v ∈ vs, (0 ≤ v.1 ∧ v.1 ≤ 255) ∧ (0 ≤ v.2.1 ∧ v.2.1 ≤ 255) ∧ (0 ≤ v.2.2 ∧ v.2.2 ≤ 255)) :
    Answers P T 38 [.agg [U r0, U r1, U s0, U s1, x]] [] fun v h => frz true h 5 v = some (.tup [.agg [I (r0.tmod 21), I (r1.tmod 21)], .agg [I s0, I (s0 + s1.tmod 40)], .vl ((tripStays vs).map rStay) (tripStays vs).isEmpty]) := by
  have lx := rowsV_len hx
  rw [List.length_map] at lx
  unfold U at *
  refine answers_of hT (orcF_none rfl) ?_
  simp only [c38]
  refine runs_seq (runs_reg (ops_run (by simp; rfl) ?_))
  simp only [AEx.thn, AEx.blk]
  refine runs_seq (runs_reg (ops_run (by simp; rfl) ?_))
  simp only [AEx.thn, AEx.blk]
  refine runs_seq (runs_seq (runs_reg (ops_run (by simp; rfl) ?_)))
  simp only [AEx.thn, AEx.blk]
  refine runs_block ?_
  refine runs_loop_inv (fun q σ => ∃ (k : Nat) (i : Int) (vo : AVal) (H : Heap), i = k ∧ q = 6 - k ∧ k ≤ 6 ∧ k ≤ vs.length ∧ 4 ≤ H.length ∧ H[0]? = some (some (.row 5 [[AVal.int .u8 r0, AVal.int .u8 r1, AVal.int .u8 s0, AVal.int .u8 s1, x]])) ∧ OutS H vo 3 3 4 (((vs.take k).map bStay).map rStay) ∧ H[1]? = some (some (.row 2 [[I 0, I 0]])) ∧ H[2]? = some (some (.row 2 [[I 0, I 0]])) ∧
    σ = ⟨[.any, .ref 0 0 0, .ref 1 0 0, .ref 2 0 0, .any, vo, I i, .any, .any, .any, .any, .any, .any, .any, .any, .any, .any, .any, .any, .any, .any, .any, .any, .any, .any, .any, .any, .any, .any, .any, .any, .any, .any, .any, .any, .any, .any, .any, .any, .any, .any, .any, .any, .any, .any, .any, .any, .any, .any, .any, .any, .any, .any, .any, .any, .any, .any, .any, .any, .any, .any, .any, .any, .any, .any, .any, .any, .any, .any, .any, .any, .any], H⟩) ?_ (6 - 0) _ ⟨0, 0, .sl 3 0 0 true, _, rfl, rfl, by omega, Nat.zero_le _, ?hln, rfl, .inl ⟨rfl, rfl, rfl⟩, rfl, rfl, by simp; rfl⟩
  case hln => simp
  rintro q σ ⟨k, i, vo, H, hik, rfl, hk, hkl, hlen, hH0, hout, hH1, hH2, rfl⟩
  have h0 : 0 ≤ i := by omega
  have htn : i.toNat = k := by omega
  have l0 : 0 < H.length := by omega
  have l1 : 1 < H.length := by omega
  have l2 : 2 < H.length := by omega
  have g0 := get_of hH0 l0
  have g1 := get_of hH1 l1
  have g2 := get_of hH2 l2
  by_cases hlt : i < (vs.length : Int)
  · refine runs_seq (runs_seq (runs_reg (ops_run (by simp [g0, l0, lx, -lenA, hlt]; rfl) ?_)))
    simp only [AEx.thn, AEx.blk]
    refine runs_cond_split (x := decide (i < 6)) (by simp) (fun h6 => ?_) (fun h6 => ?_)
    · have h6 := of_decide_eq_true h6
      refine runs_skip ?_
      simp only [AEx.thn, AEx.blk]
      have hlt' : k < vs.length := by omega
      obtain ⟨tt, rfl⟩ := rowsV_get hx (k := k) (by simpa using hlt')
      have hvk := hv _ (List.getElem_mem hlt')
      generalize hs : vs[k] = v at hvk
      obtain ⟨v0, v1, v2⟩ := v
      obtain ⟨hv0, hv1, hv2⟩ := hvk
      simp only at hv0 hv1 hv2
      have hm1 : 0 ≤ v1.tmod 30 ∧ v1.tmod 30 < 30 := ⟨Int.tmod_nonneg _ hv1.1, Int.tmod_lt_of_pos _ (by omega)⟩
      have hw2 : W .i64 (v0 + v1.tmod 30) = v0 + v1.tmod 30 := W_small (by omega)
      have hw : W .i64 (i + 1) = i + 1 := W_small (by omega)
      have htk : vs.take (k + 1) = vs.take k ++ [(v0, v1, v2)] := by rw [List.take_add_one, List.getElem?_eq_getElem hlt', hs]; rfl
      have hrows : ((vs.take (k + 1)).map bStay).map rStay = ((vs.take k).map bStay).map rStay ++ [[I v0, I (v0 + v1.tmod 30), I (v2.tmod 25)]] := by rw [htk]; simp [bStay, rStay]
      have hrl : (((vs.take k).map bStay).map rStay).length = k := by simp; omega
      have hflr : ∀ r ∈ ((vs.take k).map bStay).map rStay, r.length = 3 ∧ ∀ y ∈ r, storable y = true := fun r hr => by
        obtain ⟨t, _, rfl⟩ := List.mem_map.1 hr
        exact ⟨rfl, fun y hy => by simp [rStay] at hy; rcases hy with rfl | rfl | rfl <;> rfl⟩
      generalize hold : (vs.take k).map bStay = os at hout hrows hrl hflr
      rw [List.length_map] at hrl
      rcases hout with ⟨rfl, hr0', h2⟩ | ⟨j, hj, ⟨hne, rfl⟩, h2⟩
      · have l3 : 3 < H.length := by omega
        have g3 := get_of h2 l3
        have hos : os = [] := by simpa using hr0'
        subst hos
        refine runs_seq (runs_block (runs_seq (runs_reg (ops_run (by simp [g0, l0, h0, htn, hlt', hs, rU3, lop, loud, List.getElem?_append_left]; rfl) ?_))))
        simp only [AEx.thn, AEx.blk]
        refine runs_drw (by simp [lop, loud, callA, calleeA, callF_step h42, h42, o42, g0, l0, g3, l3, W_byte hv0, W_byte hv1, W_byte hv2, hw2, lim, List.getElem?_append_left, List.set_append_left, set_app, set_app0, get_appK, get_appK0, List.take_of_length_le, Nat.add_assoc]; rfl) ?_
        simp only [AEx.thn, AEx.blk]
        refine runs_reg (ops_run (by simp [hw]; rfl) ?_)
        simp only [AEx.thn, AEx.blk]
        refine ⟨6 - (k + 1), by omega, k + 1, i + 1, .sl (H.length + 22) 0 (1) false, H ++ [some (Blk.row 3 [[AVal.int .u8 v0, AVal.int .u8 v1, AVal.int .u8 v2]]), none, none, none, none, none, none, none, none, none, none, none, none, none, none, none, none, none, none, some (Blk.row 3 [[I v0, I (v0 + v1.tmod 30), I (v2.tmod 25)]]), none, none, some (Blk.row 3 ([[I v0, I (v0 + v1.tmod 30), I (v2.tmod 25)]]))], by omega, rfl, by omega, by omega, (by simp; try omega), ?_, .inr ⟨H.length + 22, by omega, ⟨by rw [hrows]; simp, by rw [hrows]; simp⟩, ?_⟩, ?_, ?_, ?_⟩
        · rw [List.getElem?_append_left (by first | omega | (simp; omega))]; exact hH0
        · rw [hrows, get_appK (by simp)]; simp
        · rw [List.getElem?_append_left (by first | omega | (simp; omega))]; exact hH1
        · rw [List.getElem?_append_left (by first | omega | (simp; omega))]; exact hH2
        · simp [trim]; try (intros; omega)

      · have lj : j < H.length := (List.getElem?_eq_some_iff.1 h2).1
        have gj := get_of h2 lj
        have hlim : os.length + 1 ≤ 1048576 := by omega
        have hlim2 : os.length ≤ 1048575 := by omega
        have ha1 : ∀ r : Stay, (rStay r).length = 3 := fun r => rfl
        refine runs_seq (runs_block (runs_seq (runs_reg (ops_run (by simp [g0, l0, h0, htn, hlt', hs, rU3, lop, loud, List.getElem?_append_left]; rfl) ?_))))
        simp only [AEx.thn, AEx.blk]
        refine runs_drw (by simp [lop, loud, callA, calleeA, callF_step h42, h42, o42, g0, l0, gj, lj, hlim, hlim2, ha1, W_byte hv0, W_byte hv1, W_byte hv2, hw2, lim, List.getElem?_append_left, List.set_append_left, set_app, set_app0, get_appK, get_appK0, List.take_of_length_le, Nat.add_assoc]; rfl) ?_
        simp only [AEx.thn, AEx.blk]
        refine runs_reg (ops_run (by simp [hw]; rfl) ?_)
        simp only [AEx.thn, AEx.blk]
        refine ⟨6 - (k + 1), by omega, k + 1, i + 1, .sl (H.length + 22) 0 (os.length + 1) false, (H.set j none) ++ [some (Blk.row 3 [[AVal.int .u8 v0, AVal.int .u8 v1, AVal.int .u8 v2]]), none, none, none, none, none, none, none, none, none, none, none, none, none, none, none, none, none, none, some (Blk.row 3 [[I v0, I (v0 + v1.tmod 30), I (v2.tmod 25)]]), none, none, some (Blk.row 3 (os.map rStay ++ [[I v0, I (v0 + v1.tmod 30), I (v2.tmod 25)]]))], by omega, rfl, by omega, by omega, (by simp; try omega), ?_, .inr ⟨H.length + 22, by omega, ⟨by rw [hrows]; simp, by rw [hrows]; simp⟩, ?_⟩, ?_, ?_, ?_⟩
        · rw [List.getElem?_append_left (by first | omega | (simp; omega))]; rw [List.getElem?_set_ne (by omega)]; exact hH0
        · rw [hrows, get_appK (by simp)]; simp
        · rw [List.getElem?_append_left (by first | omega | (simp; omega))]; rw [List.getElem?_set_ne (by omega)]; exact hH1
        · rw [List.getElem?_append_left (by first | omega | (simp; omega))]; rw [List.getElem?_set_ne (by omega)]; exact hH2
        · simp [trim]; try (intros; omega)

    · have h6 := of_decide_eq_false h6
      have hk6 : k = 6 := by omega
      subst hk6
      refine runs_exit ?_
      simp only [AEx.thn, AEx.blk, if_true]
      unfold tripStays
      generalize hR : (vs.take 6).map bStay = ss at hout ⊢
      have hfl : ∀ nv H d, optAll (optAll (frz nv H (d + 1))) (ss.map rStay) = some (ss.map rStay) := fun nv H d => frz_rows nv H d _ fun r hr y hy => by
        obtain ⟨t, _, rfl⟩ := List.mem_map.1 hr
        simp [rStay] at hy; rcases hy with rfl | rfl | rfl <;> rfl
      have wr0 := W_byte hr0
      have wr1 := W_byte hr1
      have ws0 := W_byte hs0
      have ws1 := W_byte hs1
      have hm1 : 0 ≤ s1.tmod 40 ∧ s1.tmod 40 < 40 := ⟨Int.tmod_nonneg _ hs1.1, Int.tmod_lt_of_pos _ (by omega)⟩
      have wss : W .i64 (s0 + s1.tmod 40) = s0 + s1.tmod 40 := W_small (by omega)
      refine runs_seq (runs_drw (by simp [lop, loud, callA, calleeA, callF_step h42, h42, o42, g0, l0, g1, l1, g2, l2, wr0, wr1, ws0, ws1, wss, List.getElem?_append_left, List.set_append_left, set_app, set_app0, get_appK, get_appK0, Nat.add_assoc]; rfl) ?_)
      simp only [AEx.thn, AEx.blk]
      refine runs_ret ?_
      rcases hout with ⟨rfl, hr0', h2⟩ | ⟨j, hj, ⟨hne, rfl⟩, h2⟩
      · have hos : ss = [] := by simpa using hr0'
        subst hos
        have l3 : 3 < H.length := by omega
        have g3 := get_of h2 l3
        refine ⟨by simp, _, by simp [l1, l2, List.getElem?_append_left, List.getElem?_set_ne]; rfl, ?_⟩
        simp [trim, g3, l3, l1, l2, List.getElem?_append_left, List.getElem?_set_ne]
      · have lj : j < H.length := (List.getElem?_eq_some_iff.1 h2).1
        have gj := get_of h2 lj
        have hj1 : 1 ≠ j := by omega
        have hj2 : 2 ≠ j := by omega
        have hie : ss.isEmpty = false := by cases ss <;> simp at hne ⊢
        have e : ∀ H' : Heap, H'[j]? = some (some (.row 3 (ss.map rStay))) → frz true H' 4 (.sl j 0 ss.length false) = some (.vl (ss.map rStay) false) := fun H' h2' => frz_row true H' 3 j _ 3 false _ h2' (by simp) (hfl true H' 2)
        refine ⟨by simp, _, by simp [l1, l2, List.getElem?_append_left, List.getElem?_set_ne]; rfl, ?_⟩
        have e' := e _ (show ((H.set 1 (some (Blk.row 2 [[I (r0.tmod 21), I (r1.tmod 21)]]))).set 2 (some (Blk.row 2 [[I s0, I (s0 + s1.tmod 40)]])) ++ List.replicate 30 none)[j]? = _ by rw [List.getElem?_append_left (by simpa using lj), List.getElem?_set_ne hj2, List.getElem?_set_ne hj1]; exact h2)
        simp only [List.replicate] at e'
        simp [trim, -frz_sl, e', hie, l1, l2, List.getElem?_append_left, List.getElem?_set_ne]
  · have hkl2 : k = vs.length := by omega
    have htk : vs.take 6 = vs.take k := by rw [hkl2, List.take_length, List.take_of_length_le (by omega)]
    refine runs_seq (runs_seq (runs_reg (ops_run (by simp [g0, l0, lx, -lenA, hlt]; rfl) ?_)))
    simp only [AEx.thn, AEx.blk]
    refine runs_cond (x := false) (by simp) ?_
    refine runs_exit ?_
    simp only [AEx.thn, AEx.blk, if_true]
    rw [← htk] at hout
    unfold tripStays
    generalize hR : (vs.take 6).map bStay = ss at hout ⊢
    have hfl : ∀ nv H d, optAll (optAll (frz nv H (d + 1))) (ss.map rStay) = some (ss.map rStay) := fun nv H d => frz_rows nv H d _ fun r hr y hy => by
      obtain ⟨t, _, rfl⟩ := List.mem_map.1 hr
      simp [rStay] at hy; rcases hy with rfl | rfl | rfl <;> rfl
    have wr0 := W_byte hr0
    have wr1 := W_byte hr1
    have ws0 := W_byte hs0
    have ws1 := W_byte hs1
    have hm1 : 0 ≤ s1.tmod 40 ∧ s1.tmod 40 < 40 := ⟨Int.tmod_nonneg _ hs1.1, Int.tmod_lt_of_pos _ (by omega)⟩
    have wss : W .i64 (s0 + s1.tmod 40) = s0 + s1.tmod 40 := W_small (by omega)
    refine runs_seq (runs_drw (by simp [lop, loud, callA, calleeA, callF_step h42, h42, o42, g0, l0, g1, l1, g2, l2, wr0, wr1, ws0, ws1, wss, List.getElem?_append_left, List.set_append_left, set_app, set_app0, get_appK, get_appK0, Nat.add_assoc]; rfl) ?_)
    simp only [AEx.thn, AEx.blk]
    refine runs_ret ?_
    rcases hout with ⟨rfl, hr0', h2⟩ | ⟨j, hj, ⟨hne, rfl⟩, h2⟩
    · have hos : ss = [] := by simpa using hr0'
      subst hos
      have l3 : 3 < H.length := by omega
      have g3 := get_of h2 l3
      refine ⟨by simp, _, by simp [l1, l2, List.getElem?_append_left, List.getElem?_set_ne]; rfl, ?_⟩
      simp [trim, g3, l3, l1, l2, List.getElem?_append_left, List.getElem?_set_ne]
    · have lj : j < H.length := (List.getElem?_eq_some_iff.1 h2).1
      have gj := get_of h2 lj
      have hj1 : 1 ≠ j := by omega
      have hj2 : 2 ≠ j := by omega
      have hie : ss.isEmpty = false := by cases ss <;> simp at hne ⊢
      have e : ∀ H' : Heap, H'[j]? = some (some (.row 3 (ss.map rStay))) → frz true H' 4 (.sl j 0 ss.length false) = some (.vl (ss.map rStay) false) := fun H' h2' => frz_row true H' 3 j _ 3 false _ h2' (by simp) (hfl true H' 2)
      refine ⟨by simp, _, by simp [l1, l2, List.getElem?_append_left, List.getElem?_set_ne]; rfl, ?_⟩
      have e' := e _ (show ((H.set 1 (some (Blk.row 2 [[I (r0.tmod 21), I (r1.tmod 21)]]))).set 2 (some (Blk.row 2 [[I s0, I (s0 + s1.tmod 40)]])) ++ List.replicate 30 none)[j]? = _ by rw [List.getElem?_append_left (by simpa using lj), List.getElem?_set_ne hj2, List.getElem?_set_ne hj1]; exact h2)
      simp only [List.replicate] at e'
      simp [trim, -frz_sl, e', hie, l1, l2, List.getElem?_append_left, List.getElem?_set_ne]

end
end Go.Proofs.YtpebmjeomlgmdaaDoor.Tab

namespace Go.Proofs.YtpebmjeomlgmdaaDoor.Tab
open Go Go.Abs Go.Proofs


theorem step1_mono {u d m m' room room' : Int} (hu : Rate u) (hd : Rate d) (hm : m ≤ m') (hr : room ≤ room') : step1 u d m room ≤ step1 u d m' room' := by
  unfold Rate at *; unfold step1; split <;> split <;> omega
theorem tw_next {u d frm room n : Int} (hu : Rate u) (hd : Rate d) (hn : 0 ≤ n) : step1 u d (twI u d frm room n) room = twI u d frm room (n + 1) := by
  have h1 : 0 ≤ u * n := Int.mul_nonneg hu.1 hn
  have h2 : 0 ≤ d * n := Int.mul_nonneg hd.1 hn
  have e1 : u * (n + 1) = u * n + u := by rw [Int.mul_add, Int.mul_one]
  have e2 : d * (n + 1) = d * n + d := by rw [Int.mul_add, Int.mul_one]
  unfold Rate at *
  unfold step1 twI
  rw [e1, e2]
  generalize u * n = a at *
  generalize d * n = b at *
  split <;> split <;> omega
theorem tw_in {u d frm room n : Int} (hu : Rate u) (hd : Rate d) (hn : 0 ≤ n) (hf : In300 frm) (hr : In300 room) : In300 (twI u d frm room n) := by
  have h1 : 0 ≤ u * n := Int.mul_nonneg hu.1 hn
  have h2 : 0 ≤ d * n := Int.mul_nonneg hd.1 hn
  unfold In300 at *
  unfold twI
  split <;> omega
theorem tw_twI' {u d frm room n : Int} (hu : Rate u) (hd : Rate d) (hn : 0 ≤ n) (hn2 : n ≤ 501) (hf : In300 frm) (hr : In300 room) : tw u d frm room n = twI u d frm room n := by
  have h1 : 0 ≤ u * n := Int.mul_nonneg hu.1 hn
  have h2 : 0 ≤ d * n := Int.mul_nonneg hd.1 hn
  have h3 : u * n ≤ 50 * 501 := Int.mul_le_mul hu.2 hn2 hn (by decide)
  have h4 : d * n ≤ 50 * 501 := Int.mul_le_mul hd.2 hn2 hn (by decide)
  unfold In300 at *
  unfold tw twI
  rw [W_small (n := u * n) (by omega), W_small (n := d * n) (by omega), W_small (by omega), W_small (by omega)]
theorem aft_step1 {u d frm room : Int} (hu : Rate u) (hd : Rate d) (hf : In300 frm) (hr : In300 room) : aft u d frm room = step1 u d frm room := by
  unfold In300 Rate at *; unfold aft step1
  rw [W_small (by omega), W_small (by omega)]
  split <;> omega
theorem hRun_facts (u d sl sh rl rh ll lh : Int) : ∀ (f : Nat) (n : Int), 
    hRun u d sl sh rl rh ll lh f n ≤ n + f ∧ (∀ j, n < j → j ≤ hRun u d sl sh rl rh ll lh f n → liesB (tw u d sl rl j) (tw u d sh rh j) ll lh = true) ∧
    (hRun u d sl sh rl rh ll lh f n < n + f → liesB (tw u d sl rl (hRun u d sl sh rl rh ll lh f n + 1)) (tw u d sh rh (hRun u d sl sh rl rh ll lh f n + 1)) ll lh = false)
  | 0, n => ⟨by simp [hRun], fun j h1 h2 => by simp [hRun] at h2; omega, fun h => by simp [hRun] at h⟩
  | f + 1, n => by
    by_cases h : liesB (tw u d sl rl (n + 1)) (tw u d sh rh (n + 1)) ll lh = true
    · have e : hRun u d sl sh rl rh ll lh (f + 1) n = hRun u d sl sh rl rh ll lh f (n + 1) := by simp [hRun, h]
      rw [e]
      have ih := hRun_facts u d sl sh rl rh ll lh f (n + 1)
      refine ⟨by omega, fun j h1 h2 => ?_, fun h' => ih.2.2 (by omega)⟩
      by_cases hj : j = n + 1
      · rw [hj]; exact h
      · exact ih.2.1 j (by omega) h2
    · have e : hRun u d sl sh rl rh ll lh (f + 1) n = n := by simp [hRun, h]
      rw [e]
      exact ⟨by omega, fun j h1 h2 => by omega, fun _ => by simpa using h⟩
theorem inside_in {l h b : Int} (hb : 0 ≤ b ∧ b ≤ 255) (hl : In300 l) (hh : In300 h) (hle : l ≤ h) : l ≤ insideI l h b ∧ insideI l h b ≤ h := by
  unfold In300 at *
  unfold insideI
  have h1 : 0 ≤ b * (h - l) := Int.mul_nonneg hb.1 (by omega)
  have h2 : b * (h - l) ≤ 255 * (h - l) := Int.mul_le_mul_of_nonneg_right hb.2 (by omega)
  have e1 : W .i64 (h - l) = h - l := W_small (by omega)
  rw [e1]
  have e2 : W .i64 (b * (h - l)) = b * (h - l) := W_small (by omega)
  rw [e2]
  generalize b * (h - l) = q at *
  have h3 : 0 ≤ q.tdiv 255 := Int.tdiv_nonneg h1 (by decide)
  have h4 : q.tdiv 255 ≤ h - l := by
    rw [Int.tdiv_eq_ediv_of_nonneg h1]; omega
  rw [W_small (n := q.tdiv 255) (by omega), W_small (by omega)]
  omega
theorem byteI_in (bs : List Int) (hb : ∀ b ∈ bs, 0 ≤ b ∧ b ≤ 255) (i : Int) : 0 ≤ byteI bs i ∧ byteI bs i ≤ 255 := by
  unfold byteI
  split
  · decide
  · rename_i he
    rw [List.getD_eq_getElem?_getD]
    cases hq : bs[(i.tmod bs.length).toNat]? with
    | none => decide
    | some b => exact hb b (List.mem_of_getElem? hq)
end Go.Proofs.YtpebmjeomlgmdaaDoor.Tab

namespace Go.Proofs.YtpebmjeomlgmdaaDoor.Tab
open Go Go.Abs Go.Proofs
set_option maxRecDepth 100000
set_option maxHeartbeats 4000000
section
attribute [local simp] frz_int frz_bool frz_vl frz_pv frz_agg frz_tup frz_fn frz_ref frz_sl frz_nils optAll orcF rb_int rb_bool rb_agg rb_tup rb_int' rb_bool' rb_vl rb_pv rb_yld rb_nilf rb_nilp rb_nils rb_any rb_und rb_ref rb_sl rb_fn slE chunk fillA evParts evParts3 putAt List.range_succ List.range_zero List.range'_succ List.range'_zero runX_nil' unary_not evalS_pure evAll_nil evAll_cons runX_cons stepX wantedA dop CV.ev cellsOf putK_eq setK_eq appK_eq fA_eq fI_eq fN_eq fRow_eq fRows_eq nth_eq Out.v putT List.replicate_succ AEx.thn AEx.blk arI pointee Abs.rowAt ldRow allV toV toC ofV ofC Builtin.min_ Builtin.min2 Builtin.max_ Builtin.max2 min_if max_if resA tupA kill trim_self trim_len trim_emp trim_nil lenA
attribute [local simp] runD_nil' runD_cons' stepD actK_eq actD clash disj masks holes maskH unmaskH diffs news eqB allB eqA ldRowN wrote toCs ofCs stA storable rowsV_vl rowsV_nils rowsOf dI1 dI2 dI3 dI5 elt
def o38 : List AVal → Option AVal
  | [.agg [.int .u8 r0, .int .u8 r1, .int .u8 s0, .int .u8 s1, x]] => match rowsV x with
    | some rs => match optAll dU3 rs with
      | some vs => if (0 ≤ r0 ∧ r0 ≤ 255) ∧ (0 ≤ r1 ∧ r1 ≤ 255) ∧ (0 ≤ s0 ∧ s0 ≤ 255) ∧ (0 ≤ s1 ∧ s1 ≤ 255) then some (.tup [.agg [I (r0.tmod 21), I (r1.tmod 21)], .agg [I s0, I (s0 + s1.tmod 40)], .vl ((tripStays vs).map rStay) (tripStays vs).isEmpty]) else none
      | none => none
    | none => none
  | _ => none

noncomputable def TQ : Nat → Option CFn := upd TP1 38 true (o38)
theorem TQ_ok : TabOk Tryd.prog GG TQ := tab_add mixed TP1_ok fun args v ho => by
  unfold o38 at ho; split at ho <;> (try simp at ho)
  rename_i r0 r1 s0 s1 x
  split at ho <;> (try simp at ho)
  rename_i rs hx
  split at ho <;> (try simp at ho)
  rename_i vs hvs
  obtain ⟨⟨h0, h1, h2, h3⟩, rfl⟩ := ho
  obtain ⟨rfl, hv⟩ := optAll_facts dU3_eq hvs
  exact a38 Tryd.prog TP1 rfl rfl r0 r1 s0 s1 x vs hx h0 h1 h2 h3 hv
theorem dU3_enc {t : Int × Int × Int} (h : (0 ≤ t.1 ∧ t.1 ≤ 255) ∧ (0 ≤ t.2.1 ∧ t.2.1 ≤ 255) ∧ (0 ≤ t.2.2 ∧ t.2.2 ≤ 255)) : dU3 (rU3 t) = some t := by simp [dU3, rU3, h]
theorem dU1_enc {t : Int} (h : 0 ≤ t ∧ t ≤ 255) : dU1 (rU1 t) = some t := by simp [dU1, rU1, h]
theorem optAll_enc {α β : Type} {d : α → Option β} {enc : β → α} : ∀ (xs : List β), (∀ x ∈ xs, d (enc x) = some x) → optAll d (xs.map enc) = some xs
  | [], _ => rfl
  | x :: xs, h => by simp [optAll, h x, optAll_enc xs fun y hy => h y (by simp [hy])]
theorem o40_eq (y : AVal) (bs : List Int) (hy : rowsV y = some (bs.map rU1)) (hb : ∀ b ∈ bs, 0 ≤ b ∧ b ≤ 255) (i : Int) (hi : 0 ≤ i) : o40 [y, I i] = some (I (byteI bs i)) := by
  simp only [o40, hy]
  rw [optAll_enc bs fun b h => dU1_enc (hb b h)]
  simp [hi]
/-- A room as a trip has it. -/
def RoomOk (t : Stay) : Prop := In300 t.1 ∧ In300 t.2.1 ∧ t.1 ≤ t.2.1 ∧ 0 ≤ t.2.2 ∧ t.2.2 ≤ 25
theorem o38_eq (r0 r1 s0 s1 : Int) (x : AVal) (vs : List (Int × Int × Int)) (hx : rowsV x = some (vs.map rU3)) (hr0 : 0 ≤ r0 ∧ r0 ≤ 255) (hr1 : 0 ≤ r1 ∧ r1 ≤ 255) (hs0 : 0 ≤ s0 ∧ s0 ≤ 255) (hs1 : 0 ≤ s1 ∧ s1 ≤ 255)
    (hv : ∀ v ∈ vs, (0 ≤ v.1 ∧ v.1 ≤ 255) ∧ (0 ≤ v.2.1 ∧ v.2.1 ≤ 255) ∧ (0 ≤ v.2.2 ∧ v.2.2 ≤ 255)) :
    ∃ (u d sl sh : Int) (os : List Stay), o38 [.agg [.int .u8 r0, .int .u8 r1, .int .u8 s0, .int .u8 s1, x]] = some (.tup [.agg [I u, I d], .agg [I sl, I sh], .vl (os.map rStay) os.isEmpty]) ∧ Rate u ∧ Rate d ∧ 0 ≤ sl ∧ sl ≤ sh ∧ sh ≤ 294 ∧ os.length ≤ 6 ∧ ∀ t ∈ os, RoomOk t := by
  refine ⟨r0.tmod 21, r1.tmod 21, s0, s0 + s1.tmod 40, tripStays vs, ?_, ?_, ?_, hs0.1, ?_, ?_, ?_, ?_⟩
  · simp only [o38, hx]
    rw [optAll_enc vs fun v h => dU3_enc (hv v h)]
    simp [hr0, hr1, hs0, hs1]
  · have := Int.tmod_nonneg 21 hr0.1; have := Int.tmod_lt_of_pos r0 (show (0:Int) < 21 by decide); unfold Rate; omega
  · have := Int.tmod_nonneg 21 hr1.1; have := Int.tmod_lt_of_pos r1 (show (0:Int) < 21 by decide); unfold Rate; omega
  · have := Int.tmod_nonneg 40 hs1.1; omega
  · have := Int.tmod_lt_of_pos s1 (show (0:Int) < 40 by decide); omega
  · simp [tripStays]; omega
  · intro t ht
    obtain ⟨v, hv', rfl⟩ := List.mem_map.1 ht
    obtain ⟨a, b, c⟩ := hv v (List.mem_of_mem_take hv')
    have := Int.tmod_nonneg 30 b.1; have := Int.tmod_lt_of_pos v.2.1 (show (0:Int) < 30 by decide)
    have := Int.tmod_nonneg 25 c.1; have := Int.tmod_lt_of_pos v.2.2 (show (0:Int) < 25 by decide)
    simp only [RoomOk, bStay, In300]; omega

attribute [-simp] eqB
theorem eqB_row (e f : Nat) (a b : List (List AVal)) : eqB (some (.row e a)) (some (.row f b)) = (e == f && allB (allB (eqA 12)) a b) := rfl
theorem eqB_none : eqB none none = true := rfl
theorem eqB_rn (e : Nat) (a : List (List AVal)) : eqB (some (.row e a)) none = false := rfl
theorem eqB_nr (e : Nat) (a : List (List AVal)) : eqB none (some (.row e a)) = false := rfl
attribute [local simp] eqB_row eqB_none eqB_rn eqB_nr

theorem law8d (b0 : Option Blk) (hb0 : eqB b0 b0 = true) (hbb : ∀ n, rbB n b0 = true) (u d sl sh rl rh ll lh l0 l1 : Int) (v0 v1 v2 v3 v5 v6 v7 v9 v10 v11 v12 v13 v14 v15 v16 v17 v18 v19 v20 v21 v22 v23 v24 v25 v26 v27 v28 v29 v30 v31 v32 v33 v34 v35 v36 v37 v38 v39 v40 v41 v42 v43 v44 v45 v46 v47 v48 v49 v50 v51 v52 v53 v54 v55 v56 v57 v58 v59 v60 v61 v62 v63 v64 v65 v66 v67 v68 v69 v70 v71 v72 v73 v74 v75 v76 v77 v78 v79 v80 v81 v82 v83 v84 v85 v86 v87 v88 v89 v90 v91 v92 v93 v94 v95 v96 v97 v98 v99 v100 v101 v102 v103 v104 v105 v106 v107 v108 v109 v110 v111 v112 v113 v114 v115 v116 v117 v118 v119 v120 v121 v122 v123 v124 v125 v126 v127 v128 v129 v130 v131 v132 v133 v134 v135 v136 v137 v138 v139 v140 v141 v142 v143 v144 v145 v146 v147 v148 v149 v150 v151 v152 v153 v154 v155 v156 v157 v158 v159 v160 v161 v162 v163 v164 v165 v166 v167 v168 v169 v170 v171 v172 v173 v174 v175 v176 v177 v178 v179 v180 v181 v182 v183 v184 v185 v186 v187 v188 v189 v190 v191 v192 v193 v194 v195 v196 v197 v198 v199 v200 v201 v202 v203 v204 v205 v206 v207 v208 v209 v210 v211 v212 v213 : AVal) (hl0 : 0 ≤ l0 ∧ l0 ≤ 255) (hl1 : 0 ≤ l1 ∧ l1 ≤ 255) (h0 : 0 ≤ sl) (hle : sl ≤ sh) (h300 : sh ≤ 300) :
    Runs Tryd.prog TQ none (.seq (.reg [⟨(some 154), (.bld [(.int .i64 (0)), (.int .i64 (0))] [(1, (1, (.c (.int .i64 (1000)))))]), none, []⟩, ⟨(some 155), (.iaa 2 1 (.t 4) (.c (.int .i64 (0)))), none, []⟩, ⟨(some 156), (.ld (.t 155)), none, []⟩, ⟨(some 157), (.conv .i64 (.t 156)), none, []⟩, ⟨(some 158), (.ar .add (.c (.int .i64 (1))) (.t 157)), none, []⟩, ⟨(some 159), (.iaa 2 1 (.t 4) (.c (.int .i64 (1)))), none, []⟩, ⟨(some 160), (.ld (.t 159)), none, []⟩, ⟨(some 161), (.conv .i64 (.t 160)), none, []⟩, ⟨(some 162), (.ar .mul (.t 161) (.c (.int .i64 (3)))), none, []⟩, ⟨(some 163), (.ar .sub (.c (.int .i64 (1000))) (.t 162)), none, []⟩, ⟨(some 164), (.bld [(.int .i64 (0)), (.int .i64 (0))] [(0, (1, (.t 158))), (1, (1, (.t 163)))]), none, []⟩, ⟨(some 165), (.bsl 2 2 [(.int .i64 (0)), (.int .i64 (0))] [(0, (.t 154)), (1, (.t 164))]), none, []⟩, ⟨(some 18), (.mv (.t 165)), none, []⟩]) (.seq (.drw [⟨(some 167), (.bsl 2 0 [(.int .i64 (0)), (.int .i64 (0))] []), none, []⟩, ⟨(some 168), (.mv (.t 18)), none, [0]⟩, ⟨(some 169), (.app 2 (.t 167) (.t 168)), none, []⟩, ⟨(some 170), (.ldn 2 (.t 8)), none, [0, 1, 2]⟩, ⟨(some 171), (.call (.c (.fn 22 [] [])) [(.t 169), (.t 170)]), none, []⟩, ⟨(some 166), (.mv (.t 171)), none, []⟩, ⟨(some 172), (.ext 0 (.t 166)), none, []⟩, ⟨(some 173), (.ext 1 (.t 166)), none, [6]⟩, ⟨(some 19), (.new [(.int .i64 (0)), (.int .i64 (0))]), none, [0, 1, 2, 3, 4, 5, 6, 7]⟩, ⟨none, (.st 2 (.t 19) (.t 172)), none, [7]⟩, ⟨(some 20), (.mv (.t 173)), none, []⟩]) (.seq (.reg [⟨(some 175), (.mv (.t 18)), none, []⟩, ⟨(some 176), (.fa 1 (.t 8)), none, []⟩, ⟨(some 177), (.ld (.t 176)), none, []⟩, ⟨(some 178), (.fa 1 (.t 8)), none, []⟩, ⟨(some 179), (.ld (.t 178)), none, []⟩, ⟨(some 180), (.call (.c (.fn 42 [] [])) [(.t 177), (.t 179)]), none, []⟩, ⟨(some 181), (.call (.c (.fn 22 [] [])) [(.t 175), (.t 180)]), none, []⟩, ⟨(some 174), (.mv (.t 181)), none, []⟩, ⟨(some 182), (.ext 0 (.t 174)), none, []⟩, ⟨(some 183), (.ext 1 (.t 174)), none, []⟩, ⟨(some 21), (.new [(.int .i64 (0)), (.int .i64 (0))]), none, []⟩, ⟨none, (.st 2 (.t 21) (.t 182)), none, []⟩, ⟨(some 22), (.mv (.t 183)), none, []⟩]) (.seq (.reg [⟨(some 184), (.mv (.t 20)), none, []⟩, ⟨(some 185), (.ar .eql (.t 184) (.c (.int .i64 (0)))), none, []⟩, ⟨(some 186), (.mv (.t 185)), none, []⟩, ⟨(some 187), (.mv (.t 22)), (some (186, true)), []⟩, ⟨(some 188), (.ar .eql (.t 187) (.c (.int .i64 (0)))), (some (186, true)), []⟩, ⟨(some 189), (.pick (.t 186) (.t 188) (.c (.bool false))), none, []⟩, ⟨(some 190), (.mv (.t 189)), none, []⟩, ⟨(some 191), (.fa 0 (.t 19)), (some (190, true)), []⟩, ⟨(some 192), (.ld (.t 191)), (some (190, true)), []⟩, ⟨(some 193), (.fa 1 (.t 19)), (some (190, true)), []⟩, ⟨(some 194), (.ld (.t 193)), (some (190, true)), []⟩, ⟨(some 195), (.ar .leq (.t 192) (.t 194)), (some (190, true)), []⟩, ⟨(some 196), (.pick (.t 190) (.t 195) (.c (.bool false))), none, []⟩, ⟨(some 197), (.mv (.t 196)), none, []⟩, ⟨(some 198), (.fa 0 (.t 21)), (some (197, true)), []⟩, ⟨(some 199), (.ld (.t 198)), (some (197, true)), []⟩, ⟨(some 200), (.fa 1 (.t 21)), (some (197, true)), []⟩, ⟨(some 201), (.ld (.t 200)), (some (197, true)), []⟩, ⟨(some 202), (.ar .eql (.t 199) (.t 201)), (some (197, true)), []⟩, ⟨(some 203), (.pick (.t 197) (.t 202) (.c (.bool false))), none, []⟩, ⟨(some 204), (.mv (.t 203)), none, []⟩, ⟨(some 205), (.fa 0 (.t 21)), (some (204, true)), []⟩, ⟨(some 206), (.ld (.t 205)), (some (204, true)), []⟩, ⟨(some 207), (.fa 0 (.t 19)), (some (204, true)), []⟩, ⟨(some 208), (.ld (.t 207)), (some (204, true)), []⟩, ⟨(some 209), (.ar .eql (.t 206) (.t 208)), (some (204, true)), []⟩, ⟨(some 210), (.pick (.t 204) (.t 209) (.c (.bool false))), none, []⟩, ⟨(some 211), (.mv (.t 210)), none, []⟩, ⟨(some 212), (.call (.c (.fn 12 [] [])) []), (some (211, true)), []⟩, ⟨(some 213), (.pick (.t 211) (.t 212) (.c (.bool false))), none, []⟩, ⟨(some 6), (.mv (.t 213)), none, []⟩]) .ret)))) ⟨[v0, v1, v2, v3, .ref 1 0 0, v5, v6, v7, .ref 3 0 0, v9, v10, v11, v12, v13, v14, v15, v16, v17, v18, v19, v20, v21, v22, v23, v24, v25, v26, v27, v28, v29, v30, v31, v32, v33, v34, v35, v36, v37, v38, v39, v40, v41, v42, v43, v44, v45, v46, v47, v48, v49, v50, v51, v52, v53, v54, v55, v56, v57, v58, v59, v60, v61, v62, v63, v64, v65, v66, v67, v68, v69, v70, v71, v72, v73, v74, v75, v76, v77, v78, v79, v80, v81, v82, v83, v84, v85, v86, v87, v88, v89, v90, v91, v92, v93, v94, v95, v96, v97, v98, v99, v100, v101, v102, v103, v104, v105, v106, v107, v108, v109, v110, v111, v112, v113, v114, v115, v116, v117, v118, v119, v120, v121, v122, v123, v124, v125, v126, v127, v128, v129, v130, v131, v132, v133, v134, v135, v136, v137, v138, v139, v140, v141, v142, v143, v144, v145, v146, v147, v148, v149, v150, v151, v152, v153, v154, v155, v156, v157, v158, v159, v160, v161, v162, v163, v164, v165, v166, v167, v168, v169, v170, v171, v172, v173, v174, v175, v176, v177, v178, v179, v180, v181, v182, v183, v184, v185, v186, v187, v188, v189, v190, v191, v192, v193, v194, v195, v196, v197, v198, v199, v200, v201, v202, v203, v204, v205, v206, v207, v208, v209, v210, v211, v212, v213], [b0, some (.row 2 [[.int .u8 l0, .int .u8 l1]]), some (.row 2 [[I u, I d]]), some (.row 2 [[I sl, I sh]]), some (.row 2 [[I rl, I rh]]), some (.row 2 [[I ll, I lh]]), none, none, none, none, none, none, none, none, none, none, none]⟩ (fun x σ => (∀ id, x ≠ .exit id) ∧ ∃ vs, resA σ.t σ.h [.tmp 6] = some vs ∧ tupA vs = .bool true) := by
  have h12 : TQ 12 = some { c12 with frsh := true, orc := o12 } := rfl
  have h21 : TQ 21 = some { c21 with frsh := true, orc := o21 } := rfl
  have h22 : TQ 22 = some { c22 with frsh := true, orc := o22 } := rfl
  have h38 : TQ 38 = some { c38 with frsh := true, orc := o38 } := rfl
  have h39 : TQ 39 = some { c39 with frsh := true, orc := o39 } := rfl
  have h40 : TQ 40 = some { c40 with frsh := true, orc := o40 } := rfl
  have h41 : TQ 41 = some { c41 with frsh := true, orc := o41 } := rfl
  have h42 : TQ 42 = some { c42 with frsh := true, orc := o42 } := rfl
  have w0 := W_byte hl0
  have w1 := W_byte hl1
  have w2 : W .i64 (1 + l0) = 1 + l0 := W_small (by omega)
  have w3 : W .i64 (l1 * 3) = l1 * 3 := W_small (by omega)
  have w4 : W .i64 (1000 - l1 * 3) = 1000 - l1 * 3 := W_small (by omega)
  refine runs_seq (runs_reg (ops_run (by simp [w0, w1, w2, w3, w4]; rfl) ?_))
  simp only [AEx.thn, AEx.blk]
  have ht : tableB [(0, 1000), (1 + l0, 1000 - l1 * 3)] = true := by
    simp [tableB, goodFrom, stepBad, inB]; omega
  have hk1 : keepE [(0, 1000), (1 + l0, 1000 - l1 * 3)] sl sh = 0 := by
    unfold keepE; rw [ht, moist_span]; simp [spanB, inB]; omega
  have hk2 : keepE [(0, 1000), (1 + l0, 1000 - l1 * 3)] sh sh = 0 := by
    unfold keepE; rw [ht, moist_span]; simp [spanB, inB]; omega
  have wk1 : ∀ t, o22 [.vl [[I 0, I 1000], [I (1 + l0), I (1000 - l1 * 3)]] t, .agg [I sl, I sh]] = _ := fun t => o22_eq _ sl sh [(0, 1000), (1 + l0, 1000 - l1 * 3)] rfl (by simp)
  have wk2 : ∀ t, o22 [.vl [[I 0, I 1000], [I (1 + l0), I (1000 - l1 * 3)]] t, .agg [I sh, I sh]] = _ := fun t => o22_eq _ sh sh [(0, 1000), (1 + l0, 1000 - l1 * 3)] rfl (by simp)
  simp only [hk1, if_true] at wk1
  simp only [hk2, if_true] at wk2
  have hkl : kept sh [(0, 1000), (1 + l0, 1000 - l1 * 3)] ≤ kept sl [(0, 1000), (1 + l0, 1000 - l1 * 3)] := kept_le ht h0 hle
  generalize kept sh [(0, 1000), (1 + l0, 1000 - l1 * 3)] = ka at *
  generalize kept sl [(0, 1000), (1 + l0, 1000 - l1 * 3)] = kb at *
  refine runs_seq (runs_drw (by simp [lop, loud, lim, lop, loud, callA, calleeA, callF_step h22, h22, wk1, hb0]; rfl) ?_)
  simp only [AEx.thn, AEx.blk]
  refine runs_seq (runs_reg (ops_run (by simp [lop, loud, callA, calleeA, callF_step h42, h42, o42, callF_step h22, h22, wk2]; rfl) ?_))
  simp only [AEx.thn, AEx.blk]
  refine runs_seq (runs_reg (ops_run (by simp [hkl, lop, loud, callA, calleeA, callF_step h12, h12, o12]; rfl) ?_))
  simp only [AEx.thn, AEx.blk]
  refine runs_ret ?_
  simp

theorem law8c (b0 : Option Blk) (hb0 : eqB b0 b0 = true) (hbb : ∀ n, rbB n b0 = true) (u d sl sh rl rh ll lh l0 l1 : Int) (y : AVal) (bs : List Int) (hy : rowsV y = some (bs.map rU1)) (hb : ∀ b ∈ bs, 0 ≤ b ∧ b ≤ 255) (v0 v1 v3 v5 v6 v9 v12 v13 v14 v15 v16 v17 v18 v19 v20 v21 v22 v23 v24 v25 v26 v27 v28 v29 v30 v31 v32 v33 v34 v35 v36 v37 v38 v39 v40 v41 v42 v43 v44 v45 v46 v47 v48 v49 v50 v51 v52 v53 v54 v55 v56 v57 v58 v59 v60 v61 v62 v63 v64 v65 v66 v67 v68 v69 v70 v71 v72 v73 v74 v75 v76 v77 v78 v79 v80 v81 v82 v83 v84 v85 v86 v87 v88 v89 v90 v91 v92 v93 v94 v95 v96 v97 v98 v99 v100 v101 v102 v103 v104 v105 v106 v107 v108 v109 v110 v111 v112 v113 v114 v115 v116 v117 v118 v119 v120 v121 v122 v123 v124 v125 v126 v127 v128 v129 v130 v131 v132 v133 v134 v135 v136 v137 v138 v139 v140 v141 v142 v143 v144 v145 v146 v147 v148 v149 v150 v151 v152 v153 v154 v155 v156 v157 v158 v159 v160 v161 v162 v163 v164 v165 v166 v167 v168 v169 v170 v171 v172 v173 v174 v175 v176 v177 v178 v179 v180 v181 v182 v183 v184 v185 v186 v187 v188 v189 v190 v191 v192 v193 v194 v195 v196 v197 v198 v199 v200 v201 v202 v203 v204 v205 v206 v207 v208 v209 v210 v211 v212 v213 : AVal) (hl0 : 0 ≤ l0 ∧ l0 ≤ 255) (hl1 : 0 ≤ l1 ∧ l1 ≤ 255) (hu : Rate u) (hd : Rate d) (h0 : 0 ≤ sl) (hle : sl ≤ sh) (h300 : sh ≤ 300)
    (hrl : In300 rl) (hrh : In300 rh) (hrle : rl ≤ rh) (hll : 0 ≤ ll) (hlls : ll ≤ sl) (hlh : lh ≤ 300) (hshl : sh ≤ lh) :
    Runs Tryd.prog TQ none (.seq (.seq (.reg [⟨(some 57), (.fa 1 (.t 8)), none, []⟩, ⟨(some 58), (.ld (.t 57)), none, []⟩, ⟨(some 59), (.ar .gtr (.t 58) (.c (.int .i64 (300)))), none, []⟩, ⟨(some 60), (.mv (.t 59)), none, []⟩, ⟨(some 61), (.fa 1 (.t 11)), (some (60, false)), []⟩, ⟨(some 62), (.ld (.t 61)), (some (60, false)), []⟩, ⟨(some 63), (.fa 1 (.t 8)), (some (60, false)), []⟩, ⟨(some 64), (.ld (.t 63)), (some (60, false)), []⟩, ⟨(some 65), (.ar .lss (.t 62) (.t 64)), (some (60, false)), []⟩, ⟨(some 66), (.pick (.t 60) (.c (.bool true)) (.t 65)), none, []⟩]) (.cond (.t 66) (.seq (.reg [⟨(some 67), (.call (.c (.fn 12 [] [])) []), none, []⟩, ⟨(some 6), (.mv (.t 67)), none, []⟩]) .ret) .skip)) (.seq (.reg [⟨(some 69), (.ldn 2 (.t 7)), none, []⟩, ⟨(some 70), (.ldn 2 (.t 8)), none, []⟩, ⟨(some 71), (.ldn 2 (.t 10)), none, []⟩, ⟨(some 72), (.ldn 2 (.t 11)), none, []⟩, ⟨(some 73), (.call (.c (.fn 21 [] [])) [(.t 69), (.t 70), (.t 71), (.t 72)]), none, []⟩, ⟨(some 68), (.mv (.t 73)), none, []⟩, ⟨(some 74), (.ext 0 (.t 68)), none, []⟩, ⟨(some 75), (.ext 1 (.t 68)), none, []⟩, ⟨(some 12), (.mv (.t 74)), none, []⟩, ⟨(some 13), (.mv (.t 75)), none, []⟩]) (.seq (.seq (.reg [⟨(some 76), (.mv (.t 13)), none, []⟩, ⟨(some 77), (.ar .neq (.t 76) (.c (.int .i64 (0)))), none, []⟩, ⟨(some 78), (.mv (.t 77)), none, []⟩, ⟨(some 79), (.mv (.t 12)), (some (78, false)), []⟩, ⟨(some 80), (.ar .lss (.t 79) (.c (.int .i64 (0)))), (some (78, false)), []⟩, ⟨(some 81), (.pick (.t 78) (.c (.bool true)) (.t 80)), none, []⟩, ⟨(some 82), (.mv (.t 81)), none, []⟩, ⟨(some 83), (.mv (.t 12)), (some (82, false)), []⟩, ⟨(some 84), (.ar .gtr (.t 83) (.c (.int .i64 (500)))), (some (82, false)), []⟩, ⟨(some 85), (.pick (.t 82) (.c (.bool true)) (.t 84)), none, []⟩]) (.cond (.t 85) (.seq (.reg [⟨(some 6), (.mv (.c (.bool false))), none, []⟩]) .ret) .skip)) (.seq (.drw [⟨(some 86), (.ldn 2 (.t 8)), none, []⟩, ⟨(some 87), (.mv (.t 2)), none, [0]⟩, ⟨(some 88), (.call (.c (.fn 40 [] [])) [(.t 87), (.c (.int .i64 (0)))]), none, [0]⟩, ⟨(some 89), (.call (.c (.fn 39 [] [])) [(.t 86), (.t 88)]), none, []⟩, ⟨(some 90), (.fa 0 (.t 8)), none, [0, 1, 2, 3]⟩, ⟨(some 91), (.ld (.t 90)), none, [0, 1, 2, 3]⟩, ⟨(some 92), (.fa 1 (.t 8)), none, [0, 1, 2, 3, 4, 5]⟩, ⟨(some 93), (.ld (.t 92)), none, [0, 1, 2, 3, 4, 5]⟩, ⟨(some 14), (.mv (.t 89)), none, [4, 5, 6, 7]⟩, ⟨(some 15), (.mv (.t 91)), none, [6, 7]⟩, ⟨(some 16), (.mv (.t 93)), none, []⟩]) (.seq (.seq (.reg [⟨(some 17), (.mv (.c (.int .i64 (0)))), none, []⟩]) (.block 0 (.loop 253332 (.seq (.seq (.reg [⟨(some 94), (.mv (.t 17)), none, []⟩, ⟨(some 95), (.mv (.t 12)), none, []⟩, ⟨(some 96), (.ar .leq (.t 94) (.t 95)), none, []⟩]) (.cond (.t 96) .skip (.exit 0))) (.seq (.block 1 (.seq (.seq (.reg [⟨(some 99), (.mv (.t 14)), none, []⟩, ⟨(some 100), (.fa 0 (.t 11)), none, []⟩, ⟨(some 101), (.ld (.t 100)), none, []⟩, ⟨(some 102), (.ar .lss (.t 99) (.t 101)), none, []⟩, ⟨(some 103), (.mv (.t 102)), none, []⟩, ⟨(some 104), (.mv (.t 14)), (some (103, false)), []⟩, ⟨(some 105), (.fa 1 (.t 11)), (some (103, false)), []⟩, ⟨(some 106), (.ld (.t 105)), (some (103, false)), []⟩, ⟨(some 107), (.ar .gtr (.t 104) (.t 106)), (some (103, false)), []⟩, ⟨(some 108), (.pick (.t 103) (.c (.bool true)) (.t 107)), none, []⟩, ⟨(some 109), (.mv (.t 108)), none, []⟩, ⟨(some 110), (.mv (.t 15)), (some (109, false)), []⟩, ⟨(some 111), (.fa 0 (.t 11)), (some (109, false)), []⟩, ⟨(some 112), (.ld (.t 111)), (some (109, false)), []⟩, ⟨(some 113), (.ar .lss (.t 110) (.t 112)), (some (109, false)), []⟩, ⟨(some 114), (.pick (.t 109) (.c (.bool true)) (.t 113)), none, []⟩, ⟨(some 115), (.mv (.t 114)), none, []⟩, ⟨(some 116), (.mv (.t 16)), (some (115, false)), []⟩, ⟨(some 117), (.fa 1 (.t 11)), (some (115, false)), []⟩, ⟨(some 118), (.ld (.t 117)), (some (115, false)), []⟩, ⟨(some 119), (.ar .gtr (.t 116) (.t 118)), (some (115, false)), []⟩, ⟨(some 120), (.pick (.t 115) (.c (.bool true)) (.t 119)), none, []⟩]) (.cond (.t 120) (.seq (.reg [⟨(some 6), (.mv (.c (.bool false))), none, []⟩]) .ret) .skip)) (.drw [⟨(some 121), (.ldn 2 (.t 7)), none, []⟩, ⟨(some 122), (.mv (.t 14)), none, [0]⟩, ⟨(some 123), (.ldn 2 (.t 10)), none, [0, 1]⟩, ⟨(some 124), (.mv (.t 2)), none, [0, 1, 2]⟩, ⟨(some 125), (.mv (.t 17)), none, [0, 1, 2, 3]⟩, ⟨(some 126), (.ar .add (.t 125) (.c (.int .i64 (1)))), none, [0, 1, 2, 3]⟩, ⟨(some 127), (.call (.c (.fn 40 [] [])) [(.t 124), (.t 126)]), none, [0, 1, 2]⟩, ⟨(some 128), (.call (.c (.fn 39 [] [])) [(.t 123), (.t 127)]), none, [0, 1]⟩, ⟨(some 129), (.call (.c (.fn 41 [] [])) [(.t 121), (.t 122), (.t 128)]), none, []⟩, ⟨(some 130), (.ldn 2 (.t 7)), none, [0, 1, 2, 3, 4, 5, 6, 7, 8]⟩, ⟨(some 131), (.mv (.t 15)), none, [0, 1, 2, 3, 4, 5, 6, 7, 8, 9]⟩, ⟨(some 132), (.fa 0 (.t 10)), none, [0, 1, 2, 3, 4, 5, 6, 7, 8, 9, 10]⟩, ⟨(some 133), (.ld (.t 132)), none, [0, 1, 2, 3, 4, 5, 6, 7, 8, 9, 10]⟩, ⟨(some 134), (.call (.c (.fn 41 [] [])) [(.t 130), (.t 131), (.t 133)]), none, []⟩, ⟨(some 135), (.ldn 2 (.t 7)), none, [0, 1, 2, 3, 4, 5, 6, 7, 8, 9, 10, 11, 12, 13]⟩, ⟨(some 136), (.mv (.t 16)), none, [0, 1, 2, 3, 4, 5, 6, 7, 8, 9, 10, 11, 12, 13, 14]⟩, ⟨(some 137), (.fa 1 (.t 10)), none, [0, 1, 2, 3, 4, 5, 6, 7, 8, 9, 10, 11, 12, 13, 14, 15]⟩, ⟨(some 138), (.ld (.t 137)), none, [0, 1, 2, 3, 4, 5, 6, 7, 8, 9, 10, 11, 12, 13, 14, 15]⟩, ⟨(some 139), (.call (.c (.fn 41 [] [])) [(.t 135), (.t 136), (.t 138)]), none, []⟩, ⟨(some 14), (.mv (.t 129)), none, []⟩, ⟨(some 15), (.mv (.t 134)), none, []⟩, ⟨(some 16), (.mv (.t 139)), none, []⟩]))) (.reg [⟨(some 97), (.mv (.t 17)), none, []⟩, ⟨(some 98), (.ar .add (.t 97) (.c (.int .i64 (1)))), none, []⟩, ⟨(some 17), (.mv (.t 98)), none, []⟩])))))) (.seq (.seq (.reg [⟨(some 140), (.mv (.t 12)), none, []⟩, ⟨(some 141), (.ar .lss (.t 140) (.c (.int .i64 (500)))), none, []⟩, ⟨(some 142), (.mv (.t 141)), none, []⟩, ⟨(some 143), (.mv (.t 15)), (some (142, true)), []⟩, ⟨(some 144), (.fa 0 (.t 11)), (some (142, true)), []⟩, ⟨(some 145), (.ld (.t 144)), (some (142, true)), []⟩, ⟨(some 146), (.ar .geq (.t 143) (.t 145)), (some (142, true)), []⟩, ⟨(some 147), (.pick (.t 142) (.t 146) (.c (.bool false))), none, []⟩, ⟨(some 148), (.mv (.t 147)), none, []⟩, ⟨(some 149), (.mv (.t 16)), (some (148, true)), []⟩, ⟨(some 150), (.fa 1 (.t 11)), (some (148, true)), []⟩, ⟨(some 151), (.ld (.t 150)), (some (148, true)), []⟩, ⟨(some 152), (.ar .leq (.t 149) (.t 151)), (some (148, true)), []⟩, ⟨(some 153), (.pick (.t 148) (.t 152) (.c (.bool false))), none, []⟩]) (.cond (.t 153) (.seq (.reg [⟨(some 6), (.mv (.c (.bool false))), none, []⟩]) .ret) .skip)) (.seq (.reg [⟨(some 154), (.bld [(.int .i64 (0)), (.int .i64 (0))] [(1, (1, (.c (.int .i64 (1000)))))]), none, []⟩, ⟨(some 155), (.iaa 2 1 (.t 4) (.c (.int .i64 (0)))), none, []⟩, ⟨(some 156), (.ld (.t 155)), none, []⟩, ⟨(some 157), (.conv .i64 (.t 156)), none, []⟩, ⟨(some 158), (.ar .add (.c (.int .i64 (1))) (.t 157)), none, []⟩, ⟨(some 159), (.iaa 2 1 (.t 4) (.c (.int .i64 (1)))), none, []⟩, ⟨(some 160), (.ld (.t 159)), none, []⟩, ⟨(some 161), (.conv .i64 (.t 160)), none, []⟩, ⟨(some 162), (.ar .mul (.t 161) (.c (.int .i64 (3)))), none, []⟩, ⟨(some 163), (.ar .sub (.c (.int .i64 (1000))) (.t 162)), none, []⟩, ⟨(some 164), (.bld [(.int .i64 (0)), (.int .i64 (0))] [(0, (1, (.t 158))), (1, (1, (.t 163)))]), none, []⟩, ⟨(some 165), (.bsl 2 2 [(.int .i64 (0)), (.int .i64 (0))] [(0, (.t 154)), (1, (.t 164))]), none, []⟩, ⟨(some 18), (.mv (.t 165)), none, []⟩]) (.seq (.drw [⟨(some 167), (.bsl 2 0 [(.int .i64 (0)), (.int .i64 (0))] []), none, []⟩, ⟨(some 168), (.mv (.t 18)), none, [0]⟩, ⟨(some 169), (.app 2 (.t 167) (.t 168)), none, []⟩, ⟨(some 170), (.ldn 2 (.t 8)), none, [0, 1, 2]⟩, ⟨(some 171), (.call (.c (.fn 22 [] [])) [(.t 169), (.t 170)]), none, []⟩, ⟨(some 166), (.mv (.t 171)), none, []⟩, ⟨(some 172), (.ext 0 (.t 166)), none, []⟩, ⟨(some 173), (.ext 1 (.t 166)), none, [6]⟩, ⟨(some 19), (.new [(.int .i64 (0)), (.int .i64 (0))]), none, [0, 1, 2, 3, 4, 5, 6, 7]⟩, ⟨none, (.st 2 (.t 19) (.t 172)), none, [7]⟩, ⟨(some 20), (.mv (.t 173)), none, []⟩]) (.seq (.reg [⟨(some 175), (.mv (.t 18)), none, []⟩, ⟨(some 176), (.fa 1 (.t 8)), none, []⟩, ⟨(some 177), (.ld (.t 176)), none, []⟩, ⟨(some 178), (.fa 1 (.t 8)), none, []⟩, ⟨(some 179), (.ld (.t 178)), none, []⟩, ⟨(some 180), (.call (.c (.fn 42 [] [])) [(.t 177), (.t 179)]), none, []⟩, ⟨(some 181), (.call (.c (.fn 22 [] [])) [(.t 175), (.t 180)]), none, []⟩, ⟨(some 174), (.mv (.t 181)), none, []⟩, ⟨(some 182), (.ext 0 (.t 174)), none, []⟩, ⟨(some 183), (.ext 1 (.t 174)), none, []⟩, ⟨(some 21), (.new [(.int .i64 (0)), (.int .i64 (0))]), none, []⟩, ⟨none, (.st 2 (.t 21) (.t 182)), none, []⟩, ⟨(some 22), (.mv (.t 183)), none, []⟩]) (.seq (.reg [⟨(some 184), (.mv (.t 20)), none, []⟩, ⟨(some 185), (.ar .eql (.t 184) (.c (.int .i64 (0)))), none, []⟩, ⟨(some 186), (.mv (.t 185)), none, []⟩, ⟨(some 187), (.mv (.t 22)), (some (186, true)), []⟩, ⟨(some 188), (.ar .eql (.t 187) (.c (.int .i64 (0)))), (some (186, true)), []⟩, ⟨(some 189), (.pick (.t 186) (.t 188) (.c (.bool false))), none, []⟩, ⟨(some 190), (.mv (.t 189)), none, []⟩, ⟨(some 191), (.fa 0 (.t 19)), (some (190, true)), []⟩, ⟨(some 192), (.ld (.t 191)), (some (190, true)), []⟩, ⟨(some 193), (.fa 1 (.t 19)), (some (190, true)), []⟩, ⟨(some 194), (.ld (.t 193)), (some (190, true)), []⟩, ⟨(some 195), (.ar .leq (.t 192) (.t 194)), (some (190, true)), []⟩, ⟨(some 196), (.pick (.t 190) (.t 195) (.c (.bool false))), none, []⟩, ⟨(some 197), (.mv (.t 196)), none, []⟩, ⟨(some 198), (.fa 0 (.t 21)), (some (197, true)), []⟩, ⟨(some 199), (.ld (.t 198)), (some (197, true)), []⟩, ⟨(some 200), (.fa 1 (.t 21)), (some (197, true)), []⟩, ⟨(some 201), (.ld (.t 200)), (some (197, true)), []⟩, ⟨(some 202), (.ar .eql (.t 199) (.t 201)), (some (197, true)), []⟩, ⟨(some 203), (.pick (.t 197) (.t 202) (.c (.bool false))), none, []⟩, ⟨(some 204), (.mv (.t 203)), none, []⟩, ⟨(some 205), (.fa 0 (.t 21)), (some (204, true)), []⟩, ⟨(some 206), (.ld (.t 205)), (some (204, true)), []⟩, ⟨(some 207), (.fa 0 (.t 19)), (some (204, true)), []⟩, ⟨(some 208), (.ld (.t 207)), (some (204, true)), []⟩, ⟨(some 209), (.ar .eql (.t 206) (.t 208)), (some (204, true)), []⟩, ⟨(some 210), (.pick (.t 204) (.t 209) (.c (.bool false))), none, []⟩, ⟨(some 211), (.mv (.t 210)), none, []⟩, ⟨(some 212), (.call (.c (.fn 12 [] [])) []), (some (211, true)), []⟩, ⟨(some 213), (.pick (.t 211) (.t 212) (.c (.bool false))), none, []⟩, ⟨(some 6), (.mv (.t 213)), none, []⟩]) .ret)))))))))) ⟨[v0, v1, y, v3, .ref 1 0 0, v5, v6, .ref 2 0 0, .ref 3 0 0, v9, .ref 4 0 0, .ref 5 0 0, v12, v13, v14, v15, v16, v17, v18, v19, v20, v21, v22, v23, v24, v25, v26, v27, v28, v29, v30, v31, v32, v33, v34, v35, v36, v37, v38, v39, v40, v41, v42, v43, v44, v45, v46, v47, v48, v49, v50, v51, v52, v53, v54, v55, v56, v57, v58, v59, v60, v61, v62, v63, v64, v65, v66, v67, v68, v69, v70, v71, v72, v73, v74, v75, v76, v77, v78, v79, v80, v81, v82, v83, v84, v85, v86, v87, v88, v89, v90, v91, v92, v93, v94, v95, v96, v97, v98, v99, v100, v101, v102, v103, v104, v105, v106, v107, v108, v109, v110, v111, v112, v113, v114, v115, v116, v117, v118, v119, v120, v121, v122, v123, v124, v125, v126, v127, v128, v129, v130, v131, v132, v133, v134, v135, v136, v137, v138, v139, v140, v141, v142, v143, v144, v145, v146, v147, v148, v149, v150, v151, v152, v153, v154, v155, v156, v157, v158, v159, v160, v161, v162, v163, v164, v165, v166, v167, v168, v169, v170, v171, v172, v173, v174, v175, v176, v177, v178, v179, v180, v181, v182, v183, v184, v185, v186, v187, v188, v189, v190, v191, v192, v193, v194, v195, v196, v197, v198, v199, v200, v201, v202, v203, v204, v205, v206, v207, v208, v209, v210, v211, v212, v213], [b0, some (.row 2 [[.int .u8 l0, .int .u8 l1]]), some (.row 2 [[I u, I d]]), some (.row 2 [[I sl, I sh]]), some (.row 2 [[I rl, I rh]]), some (.row 2 [[I ll, I lh]])]⟩ (fun x σ => (∀ id, x ≠ .exit id) ∧ ∃ vs, resA σ.t σ.h [.tmp 6] = some vs ∧ tupA vs = .bool true) := by
  have h12 : TQ 12 = some { c12 with frsh := true, orc := o12 } := rfl
  have h21 : TQ 21 = some { c21 with frsh := true, orc := o21 } := rfl
  have h22 : TQ 22 = some { c22 with frsh := true, orc := o22 } := rfl
  have h38 : TQ 38 = some { c38 with frsh := true, orc := o38 } := rfl
  have h39 : TQ 39 = some { c39 with frsh := true, orc := o39 } := rfl
  have h40 : TQ 40 = some { c40 with frsh := true, orc := o40 } := rfl
  have h41 : TQ 41 = some { c41 with frsh := true, orc := o41 } := rfl
  have h42 : TQ 42 = some { c42 with frsh := true, orc := o42 } := rfl
  have hsl : In300 sl := by unfold In300; omega
  have hsh : In300 sh := by unfold In300; omega
  have n1 : ¬ 300 < sh := by omega
  have n2 : ¬ lh < sh := by omega
  refine runs_seq (runs_seq (runs_reg (ops_run (by simp [n1, n2]; rfl) ?_)))
  simp only [AEx.thn, AEx.blk]
  refine runs_cond (x := false) (by simp) ?_
  refine runs_skip ?_
  simp only [AEx.thn, AEx.blk]
  have hE : hoursE u d sl sh rl rh ll lh = 0 := by
    unfold hoursE
    rw [rule_rB, moist_span, moist_span, moist_span]
    unfold In300 Rate at *
    simp [rB, spanB, inB, liesB]
    omega
  have w21 : o21 [.agg [I u, I d], .agg [I sl, I sh], .agg [I rl, I rh], .agg [I ll, I lh]] = some (.tup [I (hRun u d sl sh rl rh ll lh 500 0), I 0]) := by simp [o21, hE]
  obtain ⟨hr1, hr2, hr3⟩ := hRun_facts u d sl sh rl rh ll lh 500 0
  have hr0 := hRun_ge u d sl sh rl rh ll lh 500 0
  generalize hRun u d sl sh rl rh ll lh 500 0 = n at *
  have hn500 : n ≤ 500 := by simpa using hr1
  have n3 : ¬ n < 0 := by omega
  have n4 : ¬ 500 < n := by omega
  refine runs_seq (runs_reg (ops_run (by simp [lop, loud, callA, calleeA, callF_step h21, h21, w21]; rfl) ?_))
  simp only [AEx.thn, AEx.blk]
  refine runs_seq (runs_seq (runs_reg (ops_run (by simp [n3, n4]; rfl) ?_)))
  simp only [AEx.thn, AEx.blk]
  refine runs_cond (x := false) (by simp) ?_
  refine runs_skip ?_
  simp only [AEx.thn, AEx.blk]
  have w40 := fun i hi => o40_eq y bs hy hb i hi
  have w400 := w40 0 (by decide)
  have hin0 := inside_in (byteI_in bs hb 0) hsl hsh hle
  generalize hm0 : insideI sl sh (byteI bs 0) = m0 at *
  have w39 : o39 [.agg [I sl, I sh], I (byteI bs 0)] = some (I m0) := by simp [o39, hm0]
  have fy := rowsV_frz hy
  refine runs_seq (runs_drw (by simp [lop, loud, callA, calleeA, callF_step h39, h39, callF_step h40, h40, w39, w400, fy, hb0]; rfl) ?_)
  simp only [AEx.thn, AEx.blk]
  refine runs_seq (runs_seq (runs_reg (ops_run (by simp; rfl) ?_)))
  simp only [AEx.thn, AEx.blk]
  refine runs_block ?_
  refine runs_loop_inv (fun q σ => ∃ (k : Nat) (i m D E : Int), i = k ∧ q = (n + 1).toNat - k ∧ i ≤ n + 1 ∧ D = twI u d sl rl i ∧ E = twI u d sh rh i ∧ D ≤ m ∧ m ≤ E ∧
    σ = ⟨[.any, .any, y, .any, .ref 1 0 0, .any, .any, .ref 2 0 0, .ref 3 0 0, .any, .ref 4 0 0, .ref 5 0 0, I n, .any, I m, I D, I E, I i, .any, .any, .any, .any, .any, .any, .any, .any, .any, .any, .any, .any, .any, .any, .any, .any, .any, .any, .any, .any, .any, .any, .any, .any, .any, .any, .any, .any, .any, .any, .any, .any, .any, .any, .any, .any, .any, .any, .any, .any, .any, .any, .any, .any, .any, .any, .any, .any, .any, .any, .any, .any, .any, .any, .any, .any, .any, .any, .any, .any, .any, .any, .any, .any, .any, .any, .any, .any, .any, .any, .any, .any, .any, .any, .any, .any, .any, .any, .any, .any, .any, .any, .any, .any, .any, .any, .any, .any, .any, .any, .any, .any, .any, .any, .any, .any, .any, .any, .any, .any, .any, .any, .any, .any, .any, .any, .any, .any, .any, .any, .any, .any, .any, .any, .any, .any, .any, .any, .any, .any, .any, .any, .any, .any, .any, .any, .any, .any, .any, .any, .any, .any, .any, .any, .any, .any, .any, .any, .any, .any, .any, .any, .any, .any, .any, .any, .any, .any, .any, .any, .any, .any, .any, .any, .any, .any, .any, .any, .any, .any, .any, .any, .any, .any, .any, .any, .any, .any, .any, .any, .any, .any, .any, .any, .any, .any, .any, .any, .any, .any, .any, .any, .any, .any, .any, .any, .any, .any, .any, .any, .any, .any, .any, .any, .any, .any], [b0, some (.row 2 [[.int .u8 l0, .int .u8 l1]]), some (.row 2 [[I u, I d]]), some (.row 2 [[I sl, I sh]]), some (.row 2 [[I rl, I rh]]), some (.row 2 [[I ll, I lh]]), none, none, none, none, none, none, none, none, none, none, none]⟩) ?_ ((n + 1).toNat - 0) _ ⟨0, 0, m0, sl, sh, rfl, rfl, by omega, by simp [tw0], by simp [tw0], hin0.1, hin0.2, (by simp; try rfl)⟩
  rintro q σ ⟨k, i, m, D, E, hik, rfl, hin, hD, hE', hDm, hmE, rfl⟩
  have h0i : 0 ≤ i := by omega
  have hDi := tw_in hu hd h0i hsl hrl
  have hEi := tw_in hu hd h0i hsh hrh
  rw [← hD] at hDi
  rw [← hE'] at hEi
  have hmi : In300 m := by unfold In300 at *; omega
  by_cases hin2 : i ≤ n
  · refine runs_seq (runs_seq (runs_reg (ops_run (by simp [hin2]; rfl) ?_)))
    simp only [AEx.thn, AEx.blk]
    refine runs_cond (x := true) (by simp) ?_
    refine runs_skip ?_
    simp only [AEx.thn, AEx.blk]
    have lies : ll ≤ D ∧ E ≤ lh := by
      by_cases hz : i = 0
      · rw [hD, hE', hz, tw0, tw0]; exact ⟨hlls, hshl⟩
      · have := hr2 i (by omega) hin2
        rw [tw_twI' hu hd h0i (by omega) hsl hrl, tw_twI' hu hd h0i (by omega) hsh hrh, ← hD, ← hE'] at this
        simpa [liesB] using this
    have a1 : ¬ m < ll := by omega
    have a2 : ¬ lh < m := by omega
    have a3 : ¬ D < ll := by omega
    have a4 : ¬ lh < E := by omega
    have hwi : W .i64 (i + 1) = i + 1 := W_small (by omega)
    have w40i := w40 (i + 1) (by omega)
    have hro := inside_in (byteI_in bs hb (i + 1)) hrl hrh hrle
    generalize hrm : insideI rl rh (byteI bs (i + 1)) = room at *
    have w39i : o39 [.agg [I rl, I rh], I (byteI bs (i + 1))] = some (I room) := by simp [o39, hrm]
    have hroi : In300 room := by unfold In300 at *; omega
    have w41a : o41 [.agg [I u, I d], I m, I room] = some (I (step1 u d m room)) := by simp [o41, aft_step1 hu hd hmi hroi]
    have w41b : o41 [.agg [I u, I d], I D, I rl] = some (I (step1 u d D rl)) := by simp [o41, aft_step1 hu hd hDi hrl]
    have w41c : o41 [.agg [I u, I d], I E, I rh] = some (I (step1 u d E rh)) := by simp [o41, aft_step1 hu hd hEi hrh]
    refine runs_seq (runs_block (runs_seq (runs_seq (runs_reg (ops_run (by simp [a1, a2, a3, a4]; rfl) ?_)))))
    simp only [AEx.thn, AEx.blk]
    refine runs_cond (x := false) (by simp) ?_
    refine runs_skip ?_
    simp only [AEx.thn, AEx.blk]
    refine runs_drw (by simp [lop, loud, callA, calleeA, callF_step h39, h39, callF_step h40, h40, callF_step h41, h41, w39i, w40i, w41a, w41b, w41c, hwi, fy, hb0]; rfl) ?_
    simp only [AEx.thn, AEx.blk]
    refine runs_reg (ops_run (by simp [hwi]; rfl) ?_)
    simp only [AEx.thn, AEx.blk]
    refine ⟨(n + 1).toNat - (k + 1), by omega, k + 1, i + 1, step1 u d m room, step1 u d D rl, step1 u d E rh, by omega, rfl, by omega, ?_, ?_, step1_mono hu hd hDm hro.1, step1_mono hu hd hmE hro.2, ?_⟩
    · rw [hD]; exact tw_next hu hd h0i
    · rw [hE']; exact tw_next hu hd h0i
    · have ry : rb 17 5 y = true := by rcases rowsV_cases hy with ⟨rfl, _⟩ | ⟨t, rfl⟩ <;> simp [rU1]
      simp [trim]
      exact ⟨ry, hbb _, by simp [rbB], by simp [rbB], by simp [rbB], by simp [rbB], by simp [rbB], rfl⟩
  · have hieq : i = n + 1 := by omega
    refine runs_seq (runs_seq (runs_reg (ops_run (by simp [hin2]; rfl) ?_)))
    simp only [AEx.thn, AEx.blk]
    refine runs_cond (x := false) (by simp) ?_
    refine runs_exit ?_
    simp only [AEx.thn, AEx.blk, if_true]
    have hend : n < 500 → ¬ (ll ≤ D ∧ E ≤ lh) := by
      intro hn
      have := hr3 (by simpa using hn)
      rw [tw_twI' hu hd (by omega) (by omega) hsl hrl, tw_twI' hu hd (by omega) (by omega) hsh hrh, ← hieq, ← hD, ← hE'] at this
      simpa [liesB] using this
    by_cases c1 : n < 500
    · by_cases c2 : ll ≤ D
      · have c3 : ¬ E ≤ lh := fun h => hend c1 ⟨c2, h⟩
        refine runs_seq (runs_seq (runs_reg (ops_run (by simp [c1, c2, c3]; rfl) ?_)))
        simp only [AEx.thn, AEx.blk]
        refine runs_cond (x := false) (by simp) ?_
        refine runs_skip ?_
        simp only [AEx.thn, AEx.blk]
        exact law8d b0 hb0 hbb u d sl sh rl rh ll lh l0 l1 _ _ _ _ _ _ _ _ _ _ _ _ _ _ _ _ _ _ _ _ _ _ _ _ _ _ _ _ _ _ _ _ _ _ _ _ _ _ _ _ _ _ _ _ _ _ _ _ _ _ _ _ _ _ _ _ _ _ _ _ _ _ _ _ _ _ _ _ _ _ _ _ _ _ _ _ _ _ _ _ _ _ _ _ _ _ _ _ _ _ _ _ _ _ _ _ _ _ _ _ _ _ _ _ _ _ _ _ _ _ _ _ _ _ _ _ _ _ _ _ _ _ _ _ _ _ _ _ _ _ _ _ _ _ _ _ _ _ _ _ _ _ _ _ _ _ _ _ _ _ _ _ _ _ _ _ _ _ _ _ _ _ _ _ _ _ _ _ _ _ _ _ _ _ _ _ _ _ _ _ _ _ _ _ _ _ _ _ _ _ _ _ _ _ _ _ _ _ _ _ _ _ _ _ _ _ _ _ _ _ _ _ hl0 hl1 h0 hle h300
      · refine runs_seq (runs_seq (runs_reg (ops_run (by simp [c1, c2]; rfl) ?_)))
        simp only [AEx.thn, AEx.blk]
        refine runs_cond (x := false) (by simp) ?_
        refine runs_skip ?_
        simp only [AEx.thn, AEx.blk]
        exact law8d b0 hb0 hbb u d sl sh rl rh ll lh l0 l1 _ _ _ _ _ _ _ _ _ _ _ _ _ _ _ _ _ _ _ _ _ _ _ _ _ _ _ _ _ _ _ _ _ _ _ _ _ _ _ _ _ _ _ _ _ _ _ _ _ _ _ _ _ _ _ _ _ _ _ _ _ _ _ _ _ _ _ _ _ _ _ _ _ _ _ _ _ _ _ _ _ _ _ _ _ _ _ _ _ _ _ _ _ _ _ _ _ _ _ _ _ _ _ _ _ _ _ _ _ _ _ _ _ _ _ _ _ _ _ _ _ _ _ _ _ _ _ _ _ _ _ _ _ _ _ _ _ _ _ _ _ _ _ _ _ _ _ _ _ _ _ _ _ _ _ _ _ _ _ _ _ _ _ _ _ _ _ _ _ _ _ _ _ _ _ _ _ _ _ _ _ _ _ _ _ _ _ _ _ _ _ _ _ _ _ _ _ _ _ _ _ _ _ _ _ _ _ _ _ _ _ _ hl0 hl1 h0 hle h300
    · refine runs_seq (runs_seq (runs_reg (ops_run (by simp [c1]; rfl) ?_)))
      simp only [AEx.thn, AEx.blk]
      refine runs_cond (x := false) (by simp) ?_
      refine runs_skip ?_
      simp only [AEx.thn, AEx.blk]
      exact law8d b0 hb0 hbb u d sl sh rl rh ll lh l0 l1 _ _ _ _ _ _ _ _ _ _ _ _ _ _ _ _ _ _ _ _ _ _ _ _ _ _ _ _ _ _ _ _ _ _ _ _ _ _ _ _ _ _ _ _ _ _ _ _ _ _ _ _ _ _ _ _ _ _ _ _ _ _ _ _ _ _ _ _ _ _ _ _ _ _ _ _ _ _ _ _ _ _ _ _ _ _ _ _ _ _ _ _ _ _ _ _ _ _ _ _ _ _ _ _ _ _ _ _ _ _ _ _ _ _ _ _ _ _ _ _ _ _ _ _ _ _ _ _ _ _ _ _ _ _ _ _ _ _ _ _ _ _ _ _ _ _ _ _ _ _ _ _ _ _ _ _ _ _ _ _ _ _ _ _ _ _ _ _ _ _ _ _ _ _ _ _ _ _ _ _ _ _ _ _ _ _ _ _ _ _ _ _ _ _ _ _ _ _ _ _ _ _ _ _ _ _ _ _ _ _ _ _ hl0 hl1 h0 hle h300

end
end Go.Proofs.YtpebmjeomlgmdaaDoor.Tab

namespace Go.Proofs.YtpebmjeomlgmdaaDoor.Tab
open Go Go.Abs Go.Proofs
set_option maxRecDepth 100000
set_option maxHeartbeats 4000000
section
attribute [local simp] frz_int frz_bool frz_vl frz_pv frz_agg frz_tup frz_fn frz_ref frz_sl frz_nils optAll orcF rb_int rb_bool rb_agg rb_tup rb_int' rb_bool' rb_vl rb_pv rb_yld rb_nilf rb_nilp rb_nils rb_any rb_und rb_ref rb_sl rb_fn slE chunk fillA evParts evParts3 putAt List.range_succ List.range_zero List.range'_succ List.range'_zero runX_nil' unary_not evalS_pure evAll_nil evAll_cons runX_cons stepX wantedA dop CV.ev cellsOf putK_eq setK_eq appK_eq fA_eq fI_eq fN_eq fRow_eq fRows_eq nth_eq Out.v putT List.replicate_succ AEx.thn AEx.blk arI pointee Abs.rowAt ldRow allV toV toC ofV ofC Builtin.min_ Builtin.min2 Builtin.max_ Builtin.max2 min_if max_if resA tupA kill trim_self trim_len trim_emp trim_nil lenA
attribute [local simp] runD_nil' runD_cons' stepD actK_eq actD clash disj masks holes maskH unmaskH diffs news eqB allB eqA ldRowN wrote toCs ofCs stA storable rowsV_vl rowsV_nils rowsOf dI1 dI2 dI3 dI5 elt
attribute [-simp] eqB
attribute [local simp] eqB_row eqB_none eqB_rn eqB_nr
theorem law8b (b0 : Option Blk) (hb0 : eqB b0 b0 = true) (hbb : ∀ n, rbB n b0 = true) (u d sl sh rl rh l0 l1 : Int) (y : AVal) (bs : List Int) (hy : rowsV y = some (bs.map rU1)) (hb : ∀ b ∈ bs, 0 ≤ b ∧ b ≤ 255) (v0 v1 v5 v6 v9 v11 v12 v13 v14 v15 v16 v17 v18 v19 v20 v21 v22 v23 v24 v25 v26 v27 v28 v29 v30 v31 v32 v33 v34 v35 v36 v37 v38 v39 v40 v41 v42 v43 v44 v45 v46 v47 v48 v49 v50 v51 v52 v53 v54 v55 v56 v57 v58 v59 v60 v61 v62 v63 v64 v65 v66 v67 v68 v69 v70 v71 v72 v73 v74 v75 v76 v77 v78 v79 v80 v81 v82 v83 v84 v85 v86 v87 v88 v89 v90 v91 v92 v93 v94 v95 v96 v97 v98 v99 v100 v101 v102 v103 v104 v105 v106 v107 v108 v109 v110 v111 v112 v113 v114 v115 v116 v117 v118 v119 v120 v121 v122 v123 v124 v125 v126 v127 v128 v129 v130 v131 v132 v133 v134 v135 v136 v137 v138 v139 v140 v141 v142 v143 v144 v145 v146 v147 v148 v149 v150 v151 v152 v153 v154 v155 v156 v157 v158 v159 v160 v161 v162 v163 v164 v165 v166 v167 v168 v169 v170 v171 v172 v173 v174 v175 v176 v177 v178 v179 v180 v181 v182 v183 v184 v185 v186 v187 v188 v189 v190 v191 v192 v193 v194 v195 v196 v197 v198 v199 v200 v201 v202 v203 v204 v205 v206 v207 v208 v209 v210 v211 v212 v213 : AVal) (hl0 : 0 ≤ l0 ∧ l0 ≤ 255) (hl1 : 0 ≤ l1 ∧ l1 ≤ 255) (hu : Rate u) (hd : Rate d) (h0 : 0 ≤ sl) (hle : sl ≤ sh) (h300 : sh ≤ 294)
    (hrl : In300 rl) (hrh : In300 rh) (hrle : rl ≤ rh) :
    Runs Tryd.prog TQ none (.seq (.reg [⟨(some 37), (.fa 0 (.t 8)), none, []⟩, ⟨(some 38), (.ld (.t 37)), none, []⟩, ⟨(some 39), (.iaa 2 1 (.t 4) (.c (.int .i64 (0)))), none, []⟩, ⟨(some 40), (.ld (.t 39)), none, []⟩, ⟨(some 41), (.conv .i64 (.t 40)), none, []⟩, ⟨(some 42), (.ar .rem (.t 41) (.c (.int .i64 (80)))), none, []⟩, ⟨(some 43), (.ar .sub (.t 38) (.t 42)), none, []⟩, ⟨(some 44), (.mx [(.c (.int .i64 (0))), (.t 43)]), none, []⟩, ⟨(some 45), (.fa 1 (.t 8)), none, []⟩, ⟨(some 46), (.ld (.t 45)), none, []⟩, ⟨(some 47), (.iaa 2 1 (.t 4) (.c (.int .i64 (1)))), none, []⟩, ⟨(some 48), (.ld (.t 47)), none, []⟩, ⟨(some 49), (.conv .i64 (.t 48)), none, []⟩, ⟨(some 50), (.ar .rem (.t 49) (.c (.int .i64 (60)))), none, []⟩, ⟨(some 51), (.ar .add (.t 46) (.t 50)), none, []⟩, ⟨(some 52), (.call (.c (.fn 42 [] [])) [(.t 44), (.t 51)]), none, []⟩, ⟨(some 11), (.new [(.int .i64 (0)), (.int .i64 (0))]), none, []⟩, ⟨none, (.st 2 (.t 11) (.t 52)), none, []⟩]) (.seq (.seq (.reg [⟨(some 53), (.fa 1 (.t 11)), none, []⟩, ⟨(some 54), (.ld (.t 53)), none, []⟩, ⟨(some 55), (.ar .gtr (.t 54) (.c (.int .i64 (300)))), none, []⟩]) (.cond (.t 55) (.reg [⟨(some 56), (.fa 1 (.t 11)), none, []⟩, ⟨none, (.st 1 (.t 56) (.c (.int .i64 (300)))), none, []⟩]) .skip)) (.seq (.seq (.reg [⟨(some 57), (.fa 1 (.t 8)), none, []⟩, ⟨(some 58), (.ld (.t 57)), none, []⟩, ⟨(some 59), (.ar .gtr (.t 58) (.c (.int .i64 (300)))), none, []⟩, ⟨(some 60), (.mv (.t 59)), none, []⟩, ⟨(some 61), (.fa 1 (.t 11)), (some (60, false)), []⟩, ⟨(some 62), (.ld (.t 61)), (some (60, false)), []⟩, ⟨(some 63), (.fa 1 (.t 8)), (some (60, false)), []⟩, ⟨(some 64), (.ld (.t 63)), (some (60, false)), []⟩, ⟨(some 65), (.ar .lss (.t 62) (.t 64)), (some (60, false)), []⟩, ⟨(some 66), (.pick (.t 60) (.c (.bool true)) (.t 65)), none, []⟩]) (.cond (.t 66) (.seq (.reg [⟨(some 67), (.call (.c (.fn 12 [] [])) []), none, []⟩, ⟨(some 6), (.mv (.t 67)), none, []⟩]) .ret) .skip)) (.seq (.reg [⟨(some 69), (.ldn 2 (.t 7)), none, []⟩, ⟨(some 70), (.ldn 2 (.t 8)), none, []⟩, ⟨(some 71), (.ldn 2 (.t 10)), none, []⟩, ⟨(some 72), (.ldn 2 (.t 11)), none, []⟩, ⟨(some 73), (.call (.c (.fn 21 [] [])) [(.t 69), (.t 70), (.t 71), (.t 72)]), none, []⟩, ⟨(some 68), (.mv (.t 73)), none, []⟩, ⟨(some 74), (.ext 0 (.t 68)), none, []⟩, ⟨(some 75), (.ext 1 (.t 68)), none, []⟩, ⟨(some 12), (.mv (.t 74)), none, []⟩, ⟨(some 13), (.mv (.t 75)), none, []⟩]) (.seq (.seq (.reg [⟨(some 76), (.mv (.t 13)), none, []⟩, ⟨(some 77), (.ar .neq (.t 76) (.c (.int .i64 (0)))), none, []⟩, ⟨(some 78), (.mv (.t 77)), none, []⟩, ⟨(some 79), (.mv (.t 12)), (some (78, false)), []⟩, ⟨(some 80), (.ar .lss (.t 79) (.c (.int .i64 (0)))), (some (78, false)), []⟩, ⟨(some 81), (.pick (.t 78) (.c (.bool true)) (.t 80)), none, []⟩, ⟨(some 82), (.mv (.t 81)), none, []⟩, ⟨(some 83), (.mv (.t 12)), (some (82, false)), []⟩, ⟨(some 84), (.ar .gtr (.t 83) (.c (.int .i64 (500)))), (some (82, false)), []⟩, ⟨(some 85), (.pick (.t 82) (.c (.bool true)) (.t 84)), none, []⟩]) (.cond (.t 85) (.seq (.reg [⟨(some 6), (.mv (.c (.bool false))), none, []⟩]) .ret) .skip)) (.seq (.drw [⟨(some 86), (.ldn 2 (.t 8)), none, []⟩, ⟨(some 87), (.mv (.t 2)), none, [0]⟩, ⟨(some 88), (.call (.c (.fn 40 [] [])) [(.t 87), (.c (.int .i64 (0)))]), none, [0]⟩, ⟨(some 89), (.call (.c (.fn 39 [] [])) [(.t 86), (.t 88)]), none, []⟩, ⟨(some 90), (.fa 0 (.t 8)), none, [0, 1, 2, 3]⟩, ⟨(some 91), (.ld (.t 90)), none, [0, 1, 2, 3]⟩, ⟨(some 92), (.fa 1 (.t 8)), none, [0, 1, 2, 3, 4, 5]⟩, ⟨(some 93), (.ld (.t 92)), none, [0, 1, 2, 3, 4, 5]⟩, ⟨(some 14), (.mv (.t 89)), none, [4, 5, 6, 7]⟩, ⟨(some 15), (.mv (.t 91)), none, [6, 7]⟩, ⟨(some 16), (.mv (.t 93)), none, []⟩]) (.seq (.seq (.reg [⟨(some 17), (.mv (.c (.int .i64 (0)))), none, []⟩]) (.block 0 (.loop 253332 (.seq (.seq (.reg [⟨(some 94), (.mv (.t 17)), none, []⟩, ⟨(some 95), (.mv (.t 12)), none, []⟩, ⟨(some 96), (.ar .leq (.t 94) (.t 95)), none, []⟩]) (.cond (.t 96) .skip (.exit 0))) (.seq (.block 1 (.seq (.seq (.reg [⟨(some 99), (.mv (.t 14)), none, []⟩, ⟨(some 100), (.fa 0 (.t 11)), none, []⟩, ⟨(some 101), (.ld (.t 100)), none, []⟩, ⟨(some 102), (.ar .lss (.t 99) (.t 101)), none, []⟩, ⟨(some 103), (.mv (.t 102)), none, []⟩, ⟨(some 104), (.mv (.t 14)), (some (103, false)), []⟩, ⟨(some 105), (.fa 1 (.t 11)), (some (103, false)), []⟩, ⟨(some 106), (.ld (.t 105)), (some (103, false)), []⟩, ⟨(some 107), (.ar .gtr (.t 104) (.t 106)), (some (103, false)), []⟩, ⟨(some 108), (.pick (.t 103) (.c (.bool true)) (.t 107)), none, []⟩, ⟨(some 109), (.mv (.t 108)), none, []⟩, ⟨(some 110), (.mv (.t 15)), (some (109, false)), []⟩, ⟨(some 111), (.fa 0 (.t 11)), (some (109, false)), []⟩, ⟨(some 112), (.ld (.t 111)), (some (109, false)), []⟩, ⟨(some 113), (.ar .lss (.t 110) (.t 112)), (some (109, false)), []⟩, ⟨(some 114), (.pick (.t 109) (.c (.bool true)) (.t 113)), none, []⟩, ⟨(some 115), (.mv (.t 114)), none, []⟩, ⟨(some 116), (.mv (.t 16)), (some (115, false)), []⟩, ⟨(some 117), (.fa 1 (.t 11)), (some (115, false)), []⟩, ⟨(some 118), (.ld (.t 117)), (some (115, false)), []⟩, ⟨(some 119), (.ar .gtr (.t 116) (.t 118)), (some (115, false)), []⟩, ⟨(some 120), (.pick (.t 115) (.c (.bool true)) (.t 119)), none, []⟩]) (.cond (.t 120) (.seq (.reg [⟨(some 6), (.mv (.c (.bool false))), none, []⟩]) .ret) .skip)) (.drw [⟨(some 121), (.ldn 2 (.t 7)), none, []⟩, ⟨(some 122), (.mv (.t 14)), none, [0]⟩, ⟨(some 123), (.ldn 2 (.t 10)), none, [0, 1]⟩, ⟨(some 124), (.mv (.t 2)), none, [0, 1, 2]⟩, ⟨(some 125), (.mv (.t 17)), none, [0, 1, 2, 3]⟩, ⟨(some 126), (.ar .add (.t 125) (.c (.int .i64 (1)))), none, [0, 1, 2, 3]⟩, ⟨(some 127), (.call (.c (.fn 40 [] [])) [(.t 124), (.t 126)]), none, [0, 1, 2]⟩, ⟨(some 128), (.call (.c (.fn 39 [] [])) [(.t 123), (.t 127)]), none, [0, 1]⟩, ⟨(some 129), (.call (.c (.fn 41 [] [])) [(.t 121), (.t 122), (.t 128)]), none, []⟩, ⟨(some 130), (.ldn 2 (.t 7)), none, [0, 1, 2, 3, 4, 5, 6, 7, 8]⟩, ⟨(some 131), (.mv (.t 15)), none, [0, 1, 2, 3, 4, 5, 6, 7, 8, 9]⟩, ⟨(some 132), (.fa 0 (.t 10)), none, [0, 1, 2, 3, 4, 5, 6, 7, 8, 9, 10]⟩, ⟨(some 133), (.ld (.t 132)), none, [0, 1, 2, 3, 4, 5, 6, 7, 8, 9, 10]⟩, ⟨(some 134), (.call (.c (.fn 41 [] [])) [(.t 130), (.t 131), (.t 133)]), none, []⟩, ⟨(some 135), (.ldn 2 (.t 7)), none, [0, 1, 2, 3, 4, 5, 6, 7, 8, 9, 10, 11, 12, 13]⟩, ⟨(some 136), (.mv (.t 16)), none, [0, 1, 2, 3, 4, 5, 6, 7, 8, 9, 10, 11, 12, 13, 14]⟩, ⟨(some 137), (.fa 1 (.t 10)), none, [0, 1, 2, 3, 4, 5, 6, 7, 8, 9, 10, 11, 12, 13, 14, 15]⟩, ⟨(some 138), (.ld (.t 137)), none, [0, 1, 2, 3, 4, 5, 6, 7, 8, 9, 10, 11, 12, 13, 14, 15]⟩, ⟨(some 139), (.call (.c (.fn 41 [] [])) [(.t 135), (.t 136), (.t 138)]), none, []⟩, ⟨(some 14), (.mv (.t 129)), none, []⟩, ⟨(some 15), (.mv (.t 134)), none, []⟩, ⟨(some 16), (.mv (.t 139)), none, []⟩]))) (.reg [⟨(some 97), (.mv (.t 17)), none, []⟩, ⟨(some 98), (.ar .add (.t 97) (.c (.int .i64 (1)))), none, []⟩, ⟨(some 17), (.mv (.t 98)), none, []⟩])))))) (.seq (.seq (.reg [⟨(some 140), (.mv (.t 12)), none, []⟩, ⟨(some 141), (.ar .lss (.t 140) (.c (.int .i64 (500)))), none, []⟩, ⟨(some 142), (.mv (.t 141)), none, []⟩, ⟨(some 143), (.mv (.t 15)), (some (142, true)), []⟩, ⟨(some 144), (.fa 0 (.t 11)), (some (142, true)), []⟩, ⟨(some 145), (.ld (.t 144)), (some (142, true)), []⟩, ⟨(some 146), (.ar .geq (.t 143) (.t 145)), (some (142, true)), []⟩, ⟨(some 147), (.pick (.t 142) (.t 146) (.c (.bool false))), none, []⟩, ⟨(some 148), (.mv (.t 147)), none, []⟩, ⟨(some 149), (.mv (.t 16)), (some (148, true)), []⟩, ⟨(some 150), (.fa 1 (.t 11)), (some (148, true)), []⟩, ⟨(some 151), (.ld (.t 150)), (some (148, true)), []⟩, ⟨(some 152), (.ar .leq (.t 149) (.t 151)), (some (148, true)), []⟩, ⟨(some 153), (.pick (.t 148) (.t 152) (.c (.bool false))), none, []⟩]) (.cond (.t 153) (.seq (.reg [⟨(some 6), (.mv (.c (.bool false))), none, []⟩]) .ret) .skip)) (.seq (.reg [⟨(some 154), (.bld [(.int .i64 (0)), (.int .i64 (0))] [(1, (1, (.c (.int .i64 (1000)))))]), none, []⟩, ⟨(some 155), (.iaa 2 1 (.t 4) (.c (.int .i64 (0)))), none, []⟩, ⟨(some 156), (.ld (.t 155)), none, []⟩, ⟨(some 157), (.conv .i64 (.t 156)), none, []⟩, ⟨(some 158), (.ar .add (.c (.int .i64 (1))) (.t 157)), none, []⟩, ⟨(some 159), (.iaa 2 1 (.t 4) (.c (.int .i64 (1)))), none, []⟩, ⟨(some 160), (.ld (.t 159)), none, []⟩, ⟨(some 161), (.conv .i64 (.t 160)), none, []⟩, ⟨(some 162), (.ar .mul (.t 161) (.c (.int .i64 (3)))), none, []⟩, ⟨(some 163), (.ar .sub (.c (.int .i64 (1000))) (.t 162)), none, []⟩, ⟨(some 164), (.bld [(.int .i64 (0)), (.int .i64 (0))] [(0, (1, (.t 158))), (1, (1, (.t 163)))]), none, []⟩, ⟨(some 165), (.bsl 2 2 [(.int .i64 (0)), (.int .i64 (0))] [(0, (.t 154)), (1, (.t 164))]), none, []⟩, ⟨(some 18), (.mv (.t 165)), none, []⟩]) (.seq (.drw [⟨(some 167), (.bsl 2 0 [(.int .i64 (0)), (.int .i64 (0))] []), none, []⟩, ⟨(some 168), (.mv (.t 18)), none, [0]⟩, ⟨(some 169), (.app 2 (.t 167) (.t 168)), none, []⟩, ⟨(some 170), (.ldn 2 (.t 8)), none, [0, 1, 2]⟩, ⟨(some 171), (.call (.c (.fn 22 [] [])) [(.t 169), (.t 170)]), none, []⟩, ⟨(some 166), (.mv (.t 171)), none, []⟩, ⟨(some 172), (.ext 0 (.t 166)), none, []⟩, ⟨(some 173), (.ext 1 (.t 166)), none, [6]⟩, ⟨(some 19), (.new [(.int .i64 (0)), (.int .i64 (0))]), none, [0, 1, 2, 3, 4, 5, 6, 7]⟩, ⟨none, (.st 2 (.t 19) (.t 172)), none, [7]⟩, ⟨(some 20), (.mv (.t 173)), none, []⟩]) (.seq (.reg [⟨(some 175), (.mv (.t 18)), none, []⟩, ⟨(some 176), (.fa 1 (.t 8)), none, []⟩, ⟨(some 177), (.ld (.t 176)), none, []⟩, ⟨(some 178), (.fa 1 (.t 8)), none, []⟩, ⟨(some 179), (.ld (.t 178)), none, []⟩, ⟨(some 180), (.call (.c (.fn 42 [] [])) [(.t 177), (.t 179)]), none, []⟩, ⟨(some 181), (.call (.c (.fn 22 [] [])) [(.t 175), (.t 180)]), none, []⟩, ⟨(some 174), (.mv (.t 181)), none, []⟩, ⟨(some 182), (.ext 0 (.t 174)), none, []⟩, ⟨(some 183), (.ext 1 (.t 174)), none, []⟩, ⟨(some 21), (.new [(.int .i64 (0)), (.int .i64 (0))]), none, []⟩, ⟨none, (.st 2 (.t 21) (.t 182)), none, []⟩, ⟨(some 22), (.mv (.t 183)), none, []⟩]) (.seq (.reg [⟨(some 184), (.mv (.t 20)), none, []⟩, ⟨(some 185), (.ar .eql (.t 184) (.c (.int .i64 (0)))), none, []⟩, ⟨(some 186), (.mv (.t 185)), none, []⟩, ⟨(some 187), (.mv (.t 22)), (some (186, true)), []⟩, ⟨(some 188), (.ar .eql (.t 187) (.c (.int .i64 (0)))), (some (186, true)), []⟩, ⟨(some 189), (.pick (.t 186) (.t 188) (.c (.bool false))), none, []⟩, ⟨(some 190), (.mv (.t 189)), none, []⟩, ⟨(some 191), (.fa 0 (.t 19)), (some (190, true)), []⟩, ⟨(some 192), (.ld (.t 191)), (some (190, true)), []⟩, ⟨(some 193), (.fa 1 (.t 19)), (some (190, true)), []⟩, ⟨(some 194), (.ld (.t 193)), (some (190, true)), []⟩, ⟨(some 195), (.ar .leq (.t 192) (.t 194)), (some (190, true)), []⟩, ⟨(some 196), (.pick (.t 190) (.t 195) (.c (.bool false))), none, []⟩, ⟨(some 197), (.mv (.t 196)), none, []⟩, ⟨(some 198), (.fa 0 (.t 21)), (some (197, true)), []⟩, ⟨(some 199), (.ld (.t 198)), (some (197, true)), []⟩, ⟨(some 200), (.fa 1 (.t 21)), (some (197, true)), []⟩, ⟨(some 201), (.ld (.t 200)), (some (197, true)), []⟩, ⟨(some 202), (.ar .eql (.t 199) (.t 201)), (some (197, true)), []⟩, ⟨(some 203), (.pick (.t 197) (.t 202) (.c (.bool false))), none, []⟩, ⟨(some 204), (.mv (.t 203)), none, []⟩, ⟨(some 205), (.fa 0 (.t 21)), (some (204, true)), []⟩, ⟨(some 206), (.ld (.t 205)), (some (204, true)), []⟩, ⟨(some 207), (.fa 0 (.t 19)), (some (204, true)), []⟩, ⟨(some 208), (.ld (.t 207)), (some (204, true)), []⟩, ⟨(some 209), (.ar .eql (.t 206) (.t 208)), (some (204, true)), []⟩, ⟨(some 210), (.pick (.t 204) (.t 209) (.c (.bool false))), none, []⟩, ⟨(some 211), (.mv (.t 210)), none, []⟩, ⟨(some 212), (.call (.c (.fn 12 [] [])) []), (some (211, true)), []⟩, ⟨(some 213), (.pick (.t 211) (.t 212) (.c (.bool false))), none, []⟩, ⟨(some 6), (.mv (.t 213)), none, []⟩]) .ret)))))))))))) ⟨[v0, v1, y, .ref 0 0 0, .ref 1 0 0, v5, v6, .ref 2 0 0, .ref 3 0 0, v9, .ref 4 0 0, v11, v12, v13, v14, v15, v16, v17, v18, v19, v20, v21, v22, v23, v24, v25, v26, v27, v28, v29, v30, v31, v32, v33, v34, v35, v36, v37, v38, v39, v40, v41, v42, v43, v44, v45, v46, v47, v48, v49, v50, v51, v52, v53, v54, v55, v56, v57, v58, v59, v60, v61, v62, v63, v64, v65, v66, v67, v68, v69, v70, v71, v72, v73, v74, v75, v76, v77, v78, v79, v80, v81, v82, v83, v84, v85, v86, v87, v88, v89, v90, v91, v92, v93, v94, v95, v96, v97, v98, v99, v100, v101, v102, v103, v104, v105, v106, v107, v108, v109, v110, v111, v112, v113, v114, v115, v116, v117, v118, v119, v120, v121, v122, v123, v124, v125, v126, v127, v128, v129, v130, v131, v132, v133, v134, v135, v136, v137, v138, v139, v140, v141, v142, v143, v144, v145, v146, v147, v148, v149, v150, v151, v152, v153, v154, v155, v156, v157, v158, v159, v160, v161, v162, v163, v164, v165, v166, v167, v168, v169, v170, v171, v172, v173, v174, v175, v176, v177, v178, v179, v180, v181, v182, v183, v184, v185, v186, v187, v188, v189, v190, v191, v192, v193, v194, v195, v196, v197, v198, v199, v200, v201, v202, v203, v204, v205, v206, v207, v208, v209, v210, v211, v212, v213], [b0, some (.row 2 [[.int .u8 l0, .int .u8 l1]]), some (.row 2 [[I u, I d]]), some (.row 2 [[I sl, I sh]]), some (.row 2 [[I rl, I rh]])]⟩ (fun x σ => (∀ id, x ≠ .exit id) ∧ ∃ vs, resA σ.t σ.h [.tmp 6] = some vs ∧ tupA vs = .bool true) := by
  have h12 : TQ 12 = some { c12 with frsh := true, orc := o12 } := rfl
  have h21 : TQ 21 = some { c21 with frsh := true, orc := o21 } := rfl
  have h22 : TQ 22 = some { c22 with frsh := true, orc := o22 } := rfl
  have h38 : TQ 38 = some { c38 with frsh := true, orc := o38 } := rfl
  have h39 : TQ 39 = some { c39 with frsh := true, orc := o39 } := rfl
  have h40 : TQ 40 = some { c40 with frsh := true, orc := o40 } := rfl
  have h41 : TQ 41 = some { c41 with frsh := true, orc := o41 } := rfl
  have h42 : TQ 42 = some { c42 with frsh := true, orc := o42 } := rfl
  have w0 := W_byte hl0
  have w1 := W_byte hl1
  have q0 : 0 ≤ l0.tmod 80 ∧ l0.tmod 80 < 80 := ⟨Int.tmod_nonneg _ hl0.1, Int.tmod_lt_of_pos _ (by omega)⟩
  have q1 : 0 ≤ l1.tmod 60 ∧ l1.tmod 60 < 60 := ⟨Int.tmod_nonneg _ hl1.1, Int.tmod_lt_of_pos _ (by omega)⟩
  have w2 : W .i64 (sl - l0.tmod 80) = sl - l0.tmod 80 := W_small (by omega)
  have w3 : W .i64 (sh + l1.tmod 60) = sh + l1.tmod 60 := W_small (by omega)
  have hllf : 0 ≤ (if l0.tmod 80 < sl then sl - l0.tmod 80 else 0) ∧ (if l0.tmod 80 < sl then sl - l0.tmod 80 else 0) ≤ sl := by split <;> omega
  generalize hll : (if l0.tmod 80 < sl then sl - l0.tmod 80 else 0) = ll at *
  generalize hlh : sh + l1.tmod 60 = lh at *
  refine runs_seq (runs_reg (ops_run (by simp [w0, w1, w2, w3, hlh, hll, lop, loud, callA, calleeA, callF_step h42, h42, o42]; rfl) ?_))
  simp only [AEx.thn, AEx.blk]
  refine runs_seq (runs_seq (runs_reg (ops_run (by simp; rfl) ?_)))
  simp only [AEx.thn, AEx.blk]
  by_cases c1 : 300 < lh
  · refine runs_cond (x := true) (by simp [c1]) ?_
    refine runs_reg (ops_run (by simp [lop, loud]; rfl) ?_)
    simp only [AEx.thn, AEx.blk]
    exact law8c b0 hb0 hbb u d sl sh rl rh ll 300 l0 l1 y bs hy hb _ _ _ _ _ _ _ _ _ _ _ _ _ _ _ _ _ _ _ _ _ _ _ _ _ _ _ _ _ _ _ _ _ _ _ _ _ _ _ _ _ _ _ _ _ _ _ _ _ _ _ _ _ _ _ _ _ _ _ _ _ _ _ _ _ _ _ _ _ _ _ _ _ _ _ _ _ _ _ _ _ _ _ _ _ _ _ _ _ _ _ _ _ _ _ _ _ _ _ _ _ _ _ _ _ _ _ _ _ _ _ _ _ _ _ _ _ _ _ _ _ _ _ _ _ _ _ _ _ _ _ _ _ _ _ _ _ _ _ _ _ _ _ _ _ _ _ _ _ _ _ _ _ _ _ _ _ _ _ _ _ _ _ _ _ _ _ _ _ _ _ _ _ _ _ _ _ _ _ _ _ _ _ _ _ _ _ _ _ _ _ _ _ _ _ _ _ _ _ _ _ _ _ _ _ _ _ _ hl0 hl1 hu hd h0 hle (by omega) hrl hrh hrle (by omega) (by omega) (by omega) (by omega)
  · refine runs_cond (x := false) (by simp [c1]) ?_
    refine runs_skip ?_
    simp only [AEx.thn, AEx.blk]
    exact law8c b0 hb0 hbb u d sl sh rl rh ll lh l0 l1 y bs hy hb _ _ _ _ _ _ _ _ _ _ _ _ _ _ _ _ _ _ _ _ _ _ _ _ _ _ _ _ _ _ _ _ _ _ _ _ _ _ _ _ _ _ _ _ _ _ _ _ _ _ _ _ _ _ _ _ _ _ _ _ _ _ _ _ _ _ _ _ _ _ _ _ _ _ _ _ _ _ _ _ _ _ _ _ _ _ _ _ _ _ _ _ _ _ _ _ _ _ _ _ _ _ _ _ _ _ _ _ _ _ _ _ _ _ _ _ _ _ _ _ _ _ _ _ _ _ _ _ _ _ _ _ _ _ _ _ _ _ _ _ _ _ _ _ _ _ _ _ _ _ _ _ _ _ _ _ _ _ _ _ _ _ _ _ _ _ _ _ _ _ _ _ _ _ _ _ _ _ _ _ _ _ _ _ _ _ _ _ _ _ _ _ _ _ _ _ _ _ _ _ _ _ _ _ _ _ _ _ hl0 hl1 hu hd h0 hle (by omega) hrl hrh hrle (by omega) (by omega) (by omega) (by omega)

theorem eq_rows : ∀ (vs : List (Int × Int × Int)) (n : Nat), allB (allB (eqA (n + 1))) (vs.map rU3) (vs.map rU3) = true
  | [], _ => rfl
  | v :: vs, n => by
    rw [List.map_cons]
    show (allB (eqA (n + 1)) (rU3 v) (rU3 v) && allB (allB (eqA (n + 1))) (vs.map rU3) (vs.map rU3)) = true
    rw [eq_rows vs n]
    simp [rU3, allB, eqA]

theorem law8 (r0 r1 s0 s1 l0 l1 : Int) (x y : AVal) (vs : List (Int × Int × Int)) (bs : List Int) (hx : rowsV x = some (vs.map rU3)) (hr0 : 0 ≤ r0 ∧ r0 ≤ 255) (hr1 : 0 ≤ r1 ∧ r1 ≤ 255) (hs0 : 0 ≤ s0 ∧ s0 ≤ 255) (hs1 : 0 ≤ s1 ∧ s1 ≤ 255)
    (hv : ∀ v ∈ vs, (0 ≤ v.1 ∧ v.1 ≤ 255) ∧ (0 ≤ v.2.1 ∧ v.2.1 ≤ 255) ∧ (0 ≤ v.2.2 ∧ v.2.2 ≤ 255)) (hy : rowsV y = some (bs.map rU1)) (hb : ∀ b ∈ bs, 0 ≤ b ∧ b ≤ 255) (hl0 : 0 ≤ l0 ∧ l0 ≤ 255) (hl1 : 0 ≤ l1 ∧ l1 ≤ 255) :
    Answers Tryd.prog TQ 8 [.agg [.int .u8 r0, .int .u8 r1, .int .u8 s0, .int .u8 s1, x], .agg [.int .u8 l0, .int .u8 l1], y] [] fun v _ => v = .bool true := by
  have hT : TQ 8 = some c8 := rfl
  have h12 : TQ 12 = some { c12 with frsh := true, orc := o12 } := rfl
  have h21 : TQ 21 = some { c21 with frsh := true, orc := o21 } := rfl
  have h22 : TQ 22 = some { c22 with frsh := true, orc := o22 } := rfl
  have h38 : TQ 38 = some { c38 with frsh := true, orc := o38 } := rfl
  have h39 : TQ 39 = some { c39 with frsh := true, orc := o39 } := rfl
  have h40 : TQ 40 = some { c40 with frsh := true, orc := o40 } := rfl
  have h41 : TQ 41 = some { c41 with frsh := true, orc := o41 } := rfl
  have h42 : TQ 42 = some { c42 with frsh := true, orc := o42 } := rfl
  obtain ⟨u, d, sl, sh, os, w38, hu, hd, h0, hle, h294, hos, hrooms⟩ := o38_eq r0 r1 s0 s1 x vs hx hr0 hr1 hs0 hs1 hv
  have fx := rowsV_frz hx
  have hb0 : eqB (some (.row 5 [[.int .u8 r0, .int .u8 r1, .int .u8 s0, .int .u8 s1, x]])) (some (.row 5 [[.int .u8 r0, .int .u8 r1, .int .u8 s0, .int .u8 s1, x]])) = true := by
    have e : eqA 12 x x = true := by
      rcases rowsV_cases hx with ⟨rfl, _⟩ | ⟨t, rfl⟩
      · rfl
      · show (allB (allB (eqA 11)) (vs.map rU3) (vs.map rU3) && t == t) = true
        rw [eq_rows vs 10]; simp
    rw [eqB_row]
    simp only [allB, e]
    simp [eqA]
  have hbb : ∀ n, rbB n (some (.row 5 [[.int .u8 r0, .int .u8 r1, .int .u8 s0, .int .u8 s1, x]])) = true := fun n => by simp [rbB, rowsV_rb hx n 4]
  refine answers_of hT (orcF_none rfl) ?_
  simp only [c8]
  refine runs_seq (runs_reg (ops_run (by simp; rfl) ?_))
  simp only [AEx.thn, AEx.blk]
  refine runs_seq (runs_reg (ops_run (by simp [lop, loud, callA, calleeA, callF_step h38, h38, fx, w38]; rfl) ?_))
  simp only [AEx.thn, AEx.blk]
  refine runs_seq (runs_reg (ops_run (by simp [lop, loud, callA, calleeA, callF_step h42, h42, o42]; rfl) ?_))
  simp only [AEx.thn, AEx.blk]
  refine runs_seq (runs_seq (runs_reg (ops_run (by simp; rfl) ?_)))
  simp only [AEx.thn, AEx.blk]
  cases os with
  | nil =>
    refine runs_cond (x := false) (by simp) ?_
    refine runs_skip ?_
    simp only [AEx.thn, AEx.blk]
    exact law8b _ hb0 hbb u d sl sh 100 110 l0 l1 y bs hy hb _ _ _ _ _ _ _ _ _ _ _ _ _ _ _ _ _ _ _ _ _ _ _ _ _ _ _ _ _ _ _ _ _ _ _ _ _ _ _ _ _ _ _ _ _ _ _ _ _ _ _ _ _ _ _ _ _ _ _ _ _ _ _ _ _ _ _ _ _ _ _ _ _ _ _ _ _ _ _ _ _ _ _ _ _ _ _ _ _ _ _ _ _ _ _ _ _ _ _ _ _ _ _ _ _ _ _ _ _ _ _ _ _ _ _ _ _ _ _ _ _ _ _ _ _ _ _ _ _ _ _ _ _ _ _ _ _ _ _ _ _ _ _ _ _ _ _ _ _ _ _ _ _ _ _ _ _ _ _ _ _ _ _ _ _ _ _ _ _ _ _ _ _ _ _ _ _ _ _ _ _ _ _ _ _ _ _ _ _ _ _ _ _ _ _ _ _ _ _ _ _ _ _ _ _ _ _ _ hl0 hl1 hu hd h0 hle h294 (by unfold In300; omega) (by unfold In300; omega) (by omega)
  | cons t os =>
    obtain ⟨tl, th, tn⟩ := t
    have ht := hrooms (tl, th, tn) (by simp)
    obtain ⟨ht1, ht2, ht3, _⟩ := ht
    refine runs_cond (x := true) (by simp; try omega) ?_
    refine runs_reg (ops_run (by simp [rStay, lop, loud]; rfl) ?_)
    simp only [AEx.thn, AEx.blk]
    exact law8b _ hb0 hbb u d sl sh tl th l0 l1 y bs hy hb _ _ _ _ _ _ _ _ _ _ _ _ _ _ _ _ _ _ _ _ _ _ _ _ _ _ _ _ _ _ _ _ _ _ _ _ _ _ _ _ _ _ _ _ _ _ _ _ _ _ _ _ _ _ _ _ _ _ _ _ _ _ _ _ _ _ _ _ _ _ _ _ _ _ _ _ _ _ _ _ _ _ _ _ _ _ _ _ _ _ _ _ _ _ _ _ _ _ _ _ _ _ _ _ _ _ _ _ _ _ _ _ _ _ _ _ _ _ _ _ _ _ _ _ _ _ _ _ _ _ _ _ _ _ _ _ _ _ _ _ _ _ _ _ _ _ _ _ _ _ _ _ _ _ _ _ _ _ _ _ _ _ _ _ _ _ _ _ _ _ _ _ _ _ _ _ _ _ _ _ _ _ _ _ _ _ _ _ _ _ _ _ _ _ _ _ _ _ _ _ _ _ _ _ _ _ _ _ hl0 hl1 hu hd h0 hle h294 ht1 ht2 ht3

end
end Go.Proofs.YtpebmjeomlgmdaaDoor.Tab
