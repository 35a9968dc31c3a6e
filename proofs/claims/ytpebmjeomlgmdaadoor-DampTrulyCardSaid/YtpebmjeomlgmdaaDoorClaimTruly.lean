/- DampTruly, proved: for every trip and truth the law returns true, and the arguments read as before. Condition: the two tables of math/bits hold what the program's text lays (tied by the card). -/
import Derived.Test.YtpebmjeomlgmdaaDoorBaTr
import Derived.Test.YtpebmjeomlgmdaaDoorBaRw
import Derived.OpenShut
set_option linter.unusedSimpArgs false
set_option linter.unusedVariables false
namespace Go.Proofs.YtpebmjeomlgmdaaDoor.Tab
open Go Go.Abs Go.Proofs

/-- What a state's peak is, seen from the end. -/
def Fin_ (s R : RS) : Prop := s.peak ≤ R.peak ∧ (s.peak = R.peak → s.first = R.first)
theorem fin_hour {u d rl rh : Int} {s R : RS} (h : Fin_ (rHour u d rl rh s) R) : Fin_ s R := by
  unfold Fin_ rHour at *
  split at h
  · rename_i hc
    simp only at h
    exact ⟨by omega, fun e => by omega⟩
  · exact h
theorem fin_hours {u d rl rh : Int} {R : RS} : ∀ (n : Nat) (s : RS), Fin_ (rHours u d rl rh n s) R → Fin_ s R
  | 0, _, h => h
  | n + 1, s, h => fin_hour (fin_hours n _ h)
theorem fin_run {u d : Int} : ∀ (ss : List Stay) (s : RS), Fin_ s (rRun u d ss s).2
  | [], s => ⟨Int.le_refl _, fun _ => rfl⟩
  | t :: ss, s => fin_hours _ _ (fin_run ss _)

/-- A truth: k = 1 the driest, k = 2 the dampest. -/
def Tr (k P F : Int) (s : RS) (m reached : Int) : Prop :=
  s.lo ≤ m ∧ m ≤ s.hi ∧ s.hi ≤ s.peak ∧ s.peak ≤ P ∧ (s.peak = P → s.first = F) ∧ s.first ≤ s.hour ∧ 0 ≤ s.hour ∧
  (reached = -1 ∨ (0 ≤ reached ∧ s.peak = P ∧ s.first ≤ reached)) ∧ (k = 1 → m = s.lo) ∧
  (k = 2 → m = s.hi ∧ (reached = -1 → s.peak < P) ∧ (reached ≠ -1 → reached = s.first))
theorem tr_step {u d rl rh room k P F : Int} {s : RS} {m reached m' reached' : Int} (hu : Rate u) (hd : Rate d) (h : Tr k P F s m reached)
    (hf : Fin_ (rHour u d rl rh s) ⟨0, 0, P, F, 0⟩) (h1 : rl ≤ room) (h2 : room ≤ rh) (hk1 : k = 1 → room = rl) (hk2 : k = 2 → room = rh)
    (hm : m' = step1 u d m room) (hr : reached' = if P ≤ m' ∧ reached < 0 then s.hour + 1 else reached) : Tr k P F (rHour u d rl rh s) m' reached' ∧ m' ≤ P := by
  obtain ⟨a1, a2, a3, a4, a5, a6, a7, a8, a9, a10⟩ := h
  have m1 := step1_mono hu hd a1 h1
  have m2 := step1_mono hu hd a2 h2
  rw [← hm] at m1 m2
  have e1 : k = 1 → m' = step1 u d s.lo rl := fun h => by rw [hm, a9 h, hk1 h]
  have e2 : k = 2 → m' = step1 u d s.hi rh := fun h => by rw [hm, (a10 h).1, hk2 h]
  unfold Tr
  unfold Fin_ rHour at *
  generalize step1 u d s.lo rl = lo' at *
  generalize step1 u d s.hi rh = hi' at *
  by_cases hc : s.peak < hi'
  · simp only [if_pos hc] at hf ⊢
    obtain ⟨f1, f2⟩ := hf
    refine ⟨⟨m1, m2, Int.le_refl _, f1, f2, Int.le_refl _, by omega, ?_, e1, ?_⟩, by omega⟩
    · rw [hr]; split <;> omega
    · intro h
      have := a10 h
      have := e2 h
      refine ⟨this, ?_, ?_⟩ <;> (rw [hr]; split <;> omega)
  · simp only [if_neg hc] at hf ⊢
    obtain ⟨f1, f2⟩ := hf
    refine ⟨⟨m1, m2, by omega, f1, f2, by omega, by omega, ?_, e1, ?_⟩, by omega⟩
    · rw [hr]; split <;> omega
    · intro h
      have := a10 h
      have := e2 h
      refine ⟨this, ?_, ?_⟩ <;> (rw [hr]; split <;> omega)
theorem inside_low (l h : Int) (hl : In300 l) : insideI l h 0 = l := by
  unfold In300 at hl
  simp [insideI, W_small (n := (0 : Int)) (by omega), W_small (n := l) (by omega)]
theorem inside_high {l h : Int} (hl : In300 l) (hh : In300 h) (hle : l ≤ h) : insideI l h 255 = h := by
  unfold In300 at *
  unfold insideI
  rw [W_small (n := h - l) (by omega), W_small (n := 255 * (h - l)) (by omega)]
  have e : (255 * (h - l)).tdiv 255 = h - l := by
    rw [Int.tdiv_eq_ediv_of_nonneg (by omega)]; omega
  rw [e, W_small (n := h - l) (by omega), W_small (by omega)]
  omega
end Go.Proofs.YtpebmjeomlgmdaaDoor.Tab

namespace Go.Proofs.YtpebmjeomlgmdaaDoor.Tab
open Go Go.Abs Go.Proofs
set_option maxRecDepth 100000
set_option maxHeartbeats 4000000
section
attribute [local simp] frz_int frz_bool frz_vl frz_pv frz_agg frz_tup frz_fn frz_ref frz_sl frz_nils optAll orcF rb_int rb_bool rb_agg rb_tup rb_int' rb_bool' rb_vl rb_pv rb_yld rb_nilf rb_nilp rb_nils rb_any rb_und rb_ref rb_sl rb_fn slE chunk fillA evParts evParts3 putAt List.range_succ List.range_zero List.range'_succ List.range'_zero runX_nil' unary_not evalS_pure evAll_nil evAll_cons runX_cons stepX wantedA dop CV.ev cellsOf putK_eq setK_eq appK_eq fA_eq fI_eq fN_eq fRow_eq fRows_eq nth_eq Out.v putT List.replicate_succ AEx.thn AEx.blk arI pointee Abs.rowAt ldRow allV toV toC ofV ofC Builtin.min_ Builtin.min2 Builtin.max_ Builtin.max2 min_if max_if resA tupA kill trim_self trim_len trim_emp trim_nil lenA
attribute [local simp] runD_nil' runD_cons' stepD actK_eq actD clash disj masks holes maskH unmaskH diffs news eqB allB eqA ldRowN wrote toCs ofCs stA storable rowsV_vl rowsV_nils rowsOf dI1 dI2 dI3 dI5 elt
attribute [-simp] eqB
attribute [local simp] eqB_row eqB_none eqB_rn eqB_nr
theorem check_trip {u d sl sh : Int} {os : List Stay} (hu : Rate u) (hd : Rate d) (h0 : 0 ≤ sl) (hle : sl ≤ sh) (h300 : sh ≤ 294) (hos : os.length ≤ 6) (hr : ∀ t ∈ os, RoomOk t) : checkI u d sl sh os = 0 := by
  have ha : (os.any fun s => isNoneB s.1 s.2.1 s.2.2) = false := by
    rw [List.any_eq_false]
    intro t ht
    have := hr t ht
    unfold RoomOk In300 at this
    simp [isNoneB, moist_span, spanB, inB, wB]; omega
  unfold checkI
  rw [ha, rule_rB, moist_span]
  unfold Rate at *
  simp [rB, spanB, inB]
  omega
theorem okstay_of {t : Stay} (h : RoomOk t) : OkStay t := by unfold RoomOk at h; unfold OkStay; exact ⟨h.1, h.2.1, h.2.2.2.1, by omega⟩

theorem byteI_one (b i : Int) : byteI [b] i = b := by simp [byteI]
theorem law7b (b0 : Option Blk) (hb0 : eqB b0 b0 = true) (hbb : ∀ n, rbB n b0 = true) (u d sl sh pk fi : Int) (os : List Stay) (tt : Bool) (ov y : AVal) (bs : List Int) (hy : rowsV y = some (bs.map rU1)) (hb : ∀ b ∈ bs, 0 ≤ b ∧ b ≤ 255)
    (hu : Rate u) (hd : Rate d) (h0 : 0 ≤ sl) (hle : sl ≤ sh) (h294 : sh ≤ 294) (hos : os.length ≤ 6) (hrooms : ∀ t ∈ os, RoomOk t) (hov : rowsV ov = some ((rRun u d os ⟨sl, sh, sh, 0, 0⟩).1.map fun p => [I p.1, I p.2])) (hpk : pk = (rRun u d os ⟨sl, sh, sh, 0, 0⟩).2.peak) (hfi : fi = (rRun u d os ⟨sl, sh, sh, 0, 0⟩).2.first) (v0 v2 v3 v4 v9 v12 v13 v14 v15 v16 v17 v18 v19 v20 v21 v22 v23 v24 v25 v26 v27 v28 v29 v30 v31 v32 v33 v34 v35 v36 v37 v38 v39 v40 v41 v42 v43 v44 v45 v46 v47 v48 v49 v50 v51 v52 v53 v54 v55 v56 v57 v58 v59 v60 v61 v62 v63 v64 v65 v66 v67 v68 v69 v70 v71 v72 v73 v74 v75 v76 v77 v78 v79 v80 v81 v82 v83 v84 v85 v86 v87 v88 v89 v90 v91 v92 v93 v94 v95 v96 v97 v98 v99 v100 v101 v102 v103 v104 v105 v106 v107 v108 v109 v110 v111 v112 v113 v114 v115 v116 v117 v118 v119 v120 v121 v122 v123 v124 v125 v126 v127 v128 v129 v130 v131 v132 v133 v134 v135 v136 v137 v138 v139 v140 v141 v142 v143 v144 v145 v146 v147 v148 v149 v150 v151 v152 v153 v154 v155 v156 v157 v158 v159 v160 v161 v162 v163 v164 v165 v166 v167 v168 v169 v170 v171 : AVal) :
    Runs Tryd.prog TQ none (.seq (.seq (.reg [⟨(some 13), (.mv (.c (.int .i64 (0)))), none, []⟩]) (.block 0 (.loop 11746 (.seq (.seq (.reg [⟨(some 56), (.mv (.t 13)), none, []⟩, ⟨(some 57), (.ar .lss (.t 56) (.c (.int .i64 (3)))), none, []⟩]) (.cond (.t 57) .skip (.exit 0))) (.seq (.block 1 (.seq (.reg [⟨(some 60), (.mv (.t 1)), none, []⟩, ⟨(some 61), (.bsl 1 1 [(.int .u8 (0))] [(0, (.c (.int .u8 (0))))]), none, []⟩, ⟨(some 62), (.bsl 1 1 [(.int .u8 (0))] [(0, (.c (.int .u8 (255))))]), none, []⟩, ⟨(some 63), (.bld [.nils, .nils, .nils] [(0, (1, (.t 60))), (1, (1, (.t 61))), (2, (1, (.t 62)))]), none, []⟩, ⟨(some 64), (.mv (.t 13)), none, []⟩, ⟨(some 65), (.ix 3 1 (.t 63) (.t 64)), none, []⟩, ⟨(some 14), (.mv (.t 65)), none, []⟩]) (.seq (.drw [⟨(some 66), (.ldn 2 (.t 6)), none, []⟩, ⟨(some 67), (.mv (.t 14)), none, [0]⟩, ⟨(some 68), (.call (.c (.fn 40 [] [])) [(.t 67), (.c (.int .i64 (0)))]), none, [0]⟩, ⟨(some 69), (.call (.c (.fn 39 [] [])) [(.t 66), (.t 68)]), none, []⟩, ⟨(some 15), (.mv (.t 69)), none, []⟩, ⟨(some 16), (.mv (.c (.int .i64 (0)))), none, []⟩, ⟨(some 17), (.mv (.c (.int .i64 (-1)))), none, []⟩]) (.seq (.seq (.reg [⟨(some 70), (.mv (.t 15)), none, []⟩, ⟨(some 71), (.mv (.t 10)), none, []⟩, ⟨(some 72), (.ar .geq (.t 70) (.t 71)), none, []⟩]) (.cond (.t 72) (.reg [⟨(some 17), (.mv (.c (.int .i64 (0)))), none, []⟩]) .skip)) (.seq (.seq (.reg [⟨(some 18), (.mv (.c (.int .i64 (0)))), none, []⟩]) (.block 2 (.loop 519650 (.seq (.seq (.reg [⟨(some 73), (.mv (.t 18)), none, []⟩, ⟨(some 74), (.mv (.t 7)), none, []⟩, ⟨(some 75), (.len (.t 74)), none, []⟩, ⟨(some 76), (.ar .lss (.t 73) (.t 75)), none, []⟩]) (.cond (.t 76) .skip (.exit 2))) (.seq (.block 3 (.seq (.seq (.reg [⟨(some 19), (.mv (.c (.int .i64 (0)))), none, []⟩]) (.block 4 (.loop 1043938 (.seq (.seq (.reg [⟨(some 79), (.mv (.t 19)), none, []⟩, ⟨(some 80), (.mv (.t 7)), none, []⟩, ⟨(some 81), (.mv (.t 18)), none, []⟩, ⟨(some 82), (.ias 3 (.t 80) (.t 81)), none, []⟩, ⟨(some 83), (.fa 2 (.t 82)), none, []⟩, ⟨(some 84), (.ld (.t 83)), none, []⟩, ⟨(some 85), (.ar .lss (.t 79) (.t 84)), none, []⟩]) (.cond (.t 85) .skip (.exit 4))) (.seq (.block 5 (.seq (.reg [⟨(some 88), (.mv (.t 16)), none, []⟩, ⟨(some 89), (.ar .add (.t 88) (.c (.int .i64 (1)))), none, []⟩, ⟨(some 16), (.mv (.t 89)), none, []⟩]) (.seq (.seq (.drw [⟨(some 90), (.ldn 2 (.t 5)), none, []⟩, ⟨(some 91), (.mv (.t 15)), none, [0]⟩, ⟨(some 92), (.mv (.t 7)), none, [0, 1]⟩, ⟨(some 93), (.mv (.t 18)), none, [0, 1, 2]⟩, ⟨(some 94), (.ias 3 (.t 92) (.t 93)), none, [0, 1]⟩, ⟨(some 95), (.fa 0 (.t 94)), none, [0, 1]⟩, ⟨(some 96), (.ldn 2 (.t 95)), none, [0, 1]⟩, ⟨(some 97), (.mv (.t 14)), none, [0, 1, 2, 3, 4, 5, 6]⟩, ⟨(some 98), (.mv (.t 16)), none, [0, 1, 2, 3, 4, 5, 6, 7]⟩, ⟨(some 99), (.call (.c (.fn 40 [] [])) [(.t 97), (.t 98)]), none, [0, 1, 2, 3, 4, 5, 6]⟩, ⟨(some 100), (.call (.c (.fn 39 [] [])) [(.t 96), (.t 99)]), none, [0, 1]⟩, ⟨(some 101), (.call (.c (.fn 41 [] [])) [(.t 90), (.t 91), (.t 100)]), none, []⟩, ⟨(some 15), (.mv (.t 101)), none, []⟩]) (.seq (.reg [⟨(some 102), (.mv (.t 15)), none, []⟩, ⟨(some 103), (.mv (.t 10)), none, []⟩, ⟨(some 104), (.ar .geq (.t 102) (.t 103)), none, []⟩, ⟨(some 105), (.mv (.t 104)), none, []⟩, ⟨(some 106), (.mv (.t 17)), (some (105, true)), []⟩, ⟨(some 107), (.ar .lss (.t 106) (.c (.int .i64 (0)))), (some (105, true)), []⟩, ⟨(some 108), (.pick (.t 105) (.t 107) (.c (.bool false))), none, []⟩]) (.cond (.t 108) (.reg [⟨(some 109), (.mv (.t 16)), none, []⟩, ⟨(some 17), (.mv (.t 109)), none, []⟩]) .skip))) (.seq (.reg [⟨(some 110), (.mv (.t 15)), none, []⟩, ⟨(some 111), (.mv (.t 10)), none, []⟩, ⟨(some 112), (.ar .gtr (.t 110) (.t 111)), none, []⟩]) (.cond (.t 112) (.seq (.reg [⟨(some 4), (.mv (.c (.bool false))), none, []⟩]) .ret) .skip))))) (.reg [⟨(some 86), (.mv (.t 19)), none, []⟩, ⟨(some 87), (.ar .add (.t 86) (.c (.int .i64 (1)))), none, []⟩, ⟨(some 19), (.mv (.t 87)), none, []⟩])))))) (.seq (.reg [⟨(some 113), (.mv (.t 15)), none, []⟩, ⟨(some 114), (.mv (.t 8)), none, []⟩, ⟨(some 115), (.mv (.t 18)), none, []⟩, ⟨(some 116), (.ias 2 (.t 114) (.t 115)), none, []⟩, ⟨(some 117), (.fa 0 (.t 116)), none, []⟩, ⟨(some 118), (.ld (.t 117)), none, []⟩, ⟨(some 119), (.ar .lss (.t 113) (.t 118)), none, []⟩, ⟨(some 120), (.mv (.t 119)), none, []⟩, ⟨(some 121), (.mv (.t 15)), (some (120, false)), []⟩, ⟨(some 122), (.mv (.t 8)), (some (120, false)), []⟩, ⟨(some 123), (.mv (.t 18)), (some (120, false)), []⟩, ⟨(some 124), (.ias 2 (.t 122) (.t 123)), (some (120, false)), []⟩, ⟨(some 125), (.fa 1 (.t 124)), (some (120, false)), []⟩, ⟨(some 126), (.ld (.t 125)), (some (120, false)), []⟩, ⟨(some 127), (.ar .gtr (.t 121) (.t 126)), (some (120, false)), []⟩, ⟨(some 128), (.pick (.t 120) (.c (.bool true)) (.t 127)), none, []⟩, ⟨(some 129), (.mv (.t 128)), none, []⟩, ⟨(some 130), (.mv (.t 13)), (some (129, false)), []⟩, ⟨(some 131), (.ar .eql (.t 130) (.c (.int .i64 (1)))), (some (129, false)), []⟩, ⟨(some 132), (.mv (.t 131)), (some (129, false)), []⟩, ⟨(some 133), (.mv (.t 15)), (some (132, true)), []⟩, ⟨(some 134), (.mv (.t 8)), (some (132, true)), []⟩, ⟨(some 135), (.mv (.t 18)), (some (132, true)), []⟩, ⟨(some 136), (.ias 2 (.t 134) (.t 135)), (some (132, true)), []⟩, ⟨(some 137), (.fa 0 (.t 136)), (some (132, true)), []⟩, ⟨(some 138), (.ld (.t 137)), (some (132, true)), []⟩, ⟨(some 139), (.ar .neq (.t 133) (.t 138)), (some (132, true)), []⟩, ⟨(some 140), (.pick (.t 132) (.t 139) (.c (.bool false))), (some (129, false)), []⟩, ⟨(some 141), (.pick (.t 129) (.c (.bool true)) (.t 140)), none, []⟩, ⟨(some 142), (.mv (.t 141)), none, []⟩, ⟨(some 143), (.mv (.t 13)), (some (142, false)), []⟩, ⟨(some 144), (.ar .eql (.t 143) (.c (.int .i64 (2)))), (some (142, false)), []⟩, ⟨(some 145), (.mv (.t 144)), (some (142, false)), []⟩, ⟨(some 146), (.mv (.t 15)), (some (145, true)), []⟩, ⟨(some 147), (.mv (.t 8)), (some (145, true)), []⟩, ⟨(some 148), (.mv (.t 18)), (some (145, true)), []⟩, ⟨(some 149), (.ias 2 (.t 147) (.t 148)), (some (145, true)), []⟩, ⟨(some 150), (.fa 1 (.t 149)), (some (145, true)), []⟩, ⟨(some 151), (.ld (.t 150)), (some (145, true)), []⟩, ⟨(some 152), (.ar .neq (.t 146) (.t 151)), (some (145, true)), []⟩, ⟨(some 153), (.pick (.t 145) (.t 152) (.c (.bool false))), (some (142, false)), []⟩, ⟨(some 154), (.pick (.t 142) (.c (.bool true)) (.t 153)), none, []⟩]) (.cond (.t 154) (.seq (.reg [⟨(some 4), (.mv (.c (.bool false))), none, []⟩]) .ret) .skip)))) (.reg [⟨(some 77), (.mv (.t 18)), none, []⟩, ⟨(some 78), (.ar .add (.t 77) (.c (.int .i64 (1)))), none, []⟩, ⟨(some 18), (.mv (.t 78)), none, []⟩])))))) (.seq (.reg [⟨(some 155), (.mv (.t 17)), none, []⟩, ⟨(some 156), (.ar .geq (.t 155) (.c (.int .i64 (0)))), none, []⟩, ⟨(some 157), (.mv (.t 156)), none, []⟩, ⟨(some 158), (.mv (.t 17)), (some (157, true)), []⟩, ⟨(some 159), (.mv (.t 11)), (some (157, true)), []⟩, ⟨(some 160), (.ar .lss (.t 158) (.t 159)), (some (157, true)), []⟩, ⟨(some 161), (.pick (.t 157) (.t 160) (.c (.bool false))), none, []⟩, ⟨(some 162), (.mv (.t 161)), none, []⟩, ⟨(some 163), (.mv (.t 13)), (some (162, false)), []⟩, ⟨(some 164), (.ar .eql (.t 163) (.c (.int .i64 (2)))), (some (162, false)), []⟩, ⟨(some 165), (.mv (.t 164)), (some (162, false)), []⟩, ⟨(some 166), (.mv (.t 17)), (some (165, true)), []⟩, ⟨(some 167), (.mv (.t 11)), (some (165, true)), []⟩, ⟨(some 168), (.ar .neq (.t 166) (.t 167)), (some (165, true)), []⟩, ⟨(some 169), (.pick (.t 165) (.t 168) (.c (.bool false))), (some (162, false)), []⟩, ⟨(some 170), (.pick (.t 162) (.c (.bool true)) (.t 169)), none, []⟩]) (.cond (.t 170) (.seq (.reg [⟨(some 4), (.mv (.c (.bool false))), none, []⟩]) .ret) .skip))))))) (.reg [⟨(some 58), (.mv (.t 13)), none, []⟩, ⟨(some 59), (.ar .add (.t 58) (.c (.int .i64 (1)))), none, []⟩, ⟨(some 13), (.mv (.t 59)), none, []⟩])))))) (.seq (.reg [⟨(some 171), (.call (.c (.fn 12 [] [])) []), none, []⟩, ⟨(some 4), (.mv (.t 171)), none, []⟩]) .ret)) ⟨[v0, y, v2, v3, v4, .ref 1 0 0, .ref 2 0 0, .vl (os.map rStay) tt, ov, v9, I pk, I fi, v12, v13, v14, v15, v16, v17, v18, v19, v20, v21, v22, v23, v24, v25, v26, v27, v28, v29, v30, v31, v32, v33, v34, v35, v36, v37, v38, v39, v40, v41, v42, v43, v44, v45, v46, v47, v48, v49, v50, v51, v52, v53, v54, v55, v56, v57, v58, v59, v60, v61, v62, v63, v64, v65, v66, v67, v68, v69, v70, v71, v72, v73, v74, v75, v76, v77, v78, v79, v80, v81, v82, v83, v84, v85, v86, v87, v88, v89, v90, v91, v92, v93, v94, v95, v96, v97, v98, v99, v100, v101, v102, v103, v104, v105, v106, v107, v108, v109, v110, v111, v112, v113, v114, v115, v116, v117, v118, v119, v120, v121, v122, v123, v124, v125, v126, v127, v128, v129, v130, v131, v132, v133, v134, v135, v136, v137, v138, v139, v140, v141, v142, v143, v144, v145, v146, v147, v148, v149, v150, v151, v152, v153, v154, v155, v156, v157, v158, v159, v160, v161, v162, v163, v164, v165, v166, v167, v168, v169, v170, v171], [b0, some (.row 2 [[I u, I d]]), some (.row 2 [[I sl, I sh]]), none, none, none, none, none, none, none, none, none, none, none, none, none, none, none, none, none, none, none, none, none, none]⟩ (fun x σ => (∀ id, x ≠ .exit id) ∧ ∃ vs, resA σ.t σ.h [.tmp 4] = some vs ∧ tupA vs = .bool true) := by
  have h12 : TQ 12 = some { c12 with frsh := true, orc := o12 } := rfl
  have h13 : TQ 13 = some { c13 with frsh := true, orc := oOwn 3 } := rfl
  have h15 : TQ 15 = some { c15 with frsh := true, orc := o15 } := rfl
  have h16 : TQ 16 = some { c16 with frsh := true, orc := o16 } := rfl
  have h38 : TQ 38 = some { c38 with frsh := true, orc := o38 } := rfl
  have h39 : TQ 39 = some { c39 with frsh := true, orc := o39 } := rfl
  have h40 : TQ 40 = some { c40 with frsh := true, orc := o40 } := rfl
  have h41 : TQ 41 = some { c41 with frsh := true, orc := o41 } := rfl
  have h42 : TQ 42 = some { c42 with frsh := true, orc := o42 } := rfl
  have hsl : In300 sl := by unfold In300; omega
  have hsh : In300 sh := by unfold In300; omega
  have hfR := fin_run (u := u) (d := d) os ⟨sl, sh, sh, 0, 0⟩
  obtain ⟨rws, R, hRR⟩ : ∃ rws R, rRun u d os ⟨sl, sh, sh, 0, 0⟩ = (rws, R) := ⟨_, _, rfl⟩
  rw [hRR] at hov hpk hfi hfR
  simp only at hov hpk hfi hfR
  refine runs_seq (runs_seq (runs_reg (ops_run (by simp; rfl) ?_)))
  simp only [AEx.thn, AEx.blk]
  refine runs_block ?_
  refine runs_loop_inv (fun q σ => ∃ (kk : Nat) (k : Int), k = kk ∧ q = 3 - kk ∧ kk ≤ 3 ∧ σ = ⟨[.any, y, .any, .any, .any, .ref 1 0 0, .ref 2 0 0, .vl (os.map rStay) tt, ov, .any, I pk, I fi, .any, I k, .any, .any, .any, .any, .any, .any, .any, .any, .any, .any, .any, .any, .any, .any, .any, .any, .any, .any, .any, .any, .any, .any, .any, .any, .any, .any, .any, .any, .any, .any, .any, .any, .any, .any, .any, .any, .any, .any, .any, .any, .any, .any, .any, .any, .any, .any, .any, .any, .any, .any, .any, .any, .any, .any, .any, .any, .any, .any, .any, .any, .any, .any, .any, .any, .any, .any, .any, .any, .any, .any, .any, .any, .any, .any, .any, .any, .any, .any, .any, .any, .any, .any, .any, .any, .any, .any, .any, .any, .any, .any, .any, .any, .any, .any, .any, .any, .any, .any, .any, .any, .any, .any, .any, .any, .any, .any, .any, .any, .any, .any, .any, .any, .any, .any, .any, .any, .any, .any, .any, .any, .any, .any, .any, .any, .any, .any, .any, .any, .any, .any, .any, .any, .any, .any, .any, .any, .any, .any, .any, .any, .any, .any, .any, .any, .any, .any, .any, .any, .any, .any, .any, .any, .any, .any, .any, .any, .any, .any], [b0, some (.row 2 [[I u, I d]]), some (.row 2 [[I sl, I sh]]), none, none, none, none, none, none, none, none, none, none, none, none, none, none, none, none, none, none, none, none, none, none]⟩) ?_ (3 - 0) _ ⟨0, 0, rfl, rfl, by omega, (by simp; try rfl)⟩
  rintro q σ ⟨kk, k, hk, rfl, hk3, rfl⟩
  by_cases hlt : k < 3
  · refine runs_seq (runs_seq (runs_reg (ops_run (by simp [hlt]; rfl) ?_)))
    simp only [AEx.thn, AEx.blk]
    refine runs_cond (x := true) (by simp) ?_
    refine runs_skip ?_
    simp only [AEx.thn, AEx.blk]
    have hkn : 0 ≤ k := by omega
    have htn : k.toNat = kk := by omega
    have hk3' : kk < 3 := by omega
    have hcy : cellsOf y = some [y] := by rcases rowsV_cases hy with ⟨rfl, _⟩ | ⟨t, rfl⟩ <;> rfl
    have hcs : ∀ a b c t, cellsOf (.sl a b c t) = some [.sl a b c t] := fun _ _ _ _ => rfl
    have hci : ∀ k n, cellsOf (.int k n) = some [.int k n] := fun _ _ => rfl
    have hcn : cellsOf .nils = some [.nils] := rfl
    have hca : ∀ xs, cellsOf (.agg xs) = some xs := fun _ => rfl
    obtain ⟨w, hw⟩ : ∃ w, [y, AVal.sl 25 0 1 true, AVal.sl 26 0 1 true][kk]? = some w := ⟨_, List.getElem?_eq_getElem (by simpa using hk3')⟩
    refine runs_seq (runs_block (runs_seq (runs_reg (ops_run (by simp [lop, loud, hlt, hkn, htn, hw, hcy, hcs, hci, hcn, hca, -cellsOf]; rfl) ?_))))
    simp only [AEx.thn, AEx.blk]
    obtain ⟨w', bs', hrbw, hfw, hw', hbs', hb1, hb2⟩ : ∃ w' bs', rb 34 5 w = true ∧ (∀ g, frz false ([b0, some (.row 2 [[I u, I d]]), some (.row 2 [[I sl, I sh]]), none, none, none, none, none, none, none, none, none, none, none, none, none, none, none, none, none, none, none, none, none, none, some (.row 1 [[.int .u8 0]]), some (.row 1 [[.int .u8 255]])] ++ g) 5 w = some w') ∧ rowsV w' = some (bs'.map rU1) ∧ (∀ b ∈ bs', 0 ≤ b ∧ b ≤ 255) ∧ (k = 1 → bs' = [0]) ∧ (k = 2 → bs' = [255]) := by
      rcases (by omega : kk = 0 ∨ kk = 1 ∨ kk = 2) with rfl | rfl | rfl
      · obtain rfl : w = y := by simpa using hw.symm
        exact ⟨w, bs, rowsV_rb hy _ _, fun g => rowsV_frz hy .., hy, hb, fun h => by omega, fun h => by omega⟩
      · obtain rfl : w = .sl 25 0 1 true := by simpa using hw.symm
        exact ⟨.vl [[.int .u8 0]] true, [0], by simp, fun g => by simp, rfl, by simp, fun h => rfl, fun h => by omega⟩
      · obtain rfl : w = .sl 26 0 1 true := by simpa using hw.symm
        exact ⟨.vl [[.int .u8 255]] true, [255], by simp, fun g => by simp, rfl, by simp, fun h => by omega, fun h => rfl⟩
    have hfw0 := hfw [none, none, none, none, none, none, none]
    have hfw1 := hfw ([none, none, none, none, none, none, none] ++ [none, none, none, none, none, none, none, none, none, none, none, none, none])
    simp only [List.cons_append, List.nil_append] at hfw0 hfw1
    have w40 := fun i hi => o40_eq w' bs' hw' hbs' i hi
    have w400 := w40 0 (by decide)
    have hin0 := inside_in (byteI_in bs' hbs' 0) hsl hsh hle
    have hm1 : k = 1 → insideI sl sh (byteI bs' 0) = sl := fun h => by rw [hb1 h]; exact inside_low sl sh hsl
    have hm2 : k = 2 → insideI sl sh (byteI bs' 0) = sh := fun h => by rw [hb2 h]; exact inside_high hsl hsh hle
    generalize hm0 : insideI sl sh (byteI bs' 0) = m0 at *
    have w39 : o39 [.agg [I sl, I sh], I (byteI bs' 0)] = some (I m0) := by simp [o39, hm0]
    refine runs_seq (runs_drw (by simp [lop, loud, callA, calleeA, callF_step h39, h39, callF_step h40, h40, w39, w400, hfw0, hb0]; rfl) ?_)
    simp only [AEx.thn, AEx.blk]
    refine runs_seq (runs_seq (runs_reg (ops_run (by simp; rfl) ?_)))
    simp only [AEx.thn, AEx.blk]
    have tr0 : Tr k pk fi ⟨sl, sh, sh, 0, 0⟩ m0 (if pk ≤ m0 then 0 else -1) := by
      unfold Fin_ at hfR
      rw [← hpk, ← hfi] at hfR
      simp only at hfR
      unfold Tr
      refine ⟨hin0.1, hin0.2, Int.le_refl _, hfR.1, hfR.2, Int.le_refl _, Int.le_refl _, ?_, hm1, fun h => ⟨hm2 h, ?_, ?_⟩⟩ <;> (have := hm2; simp only; split <;> omega)
    refine runs_cond_split (x := decide (pk ≤ m0)) (by simp) (fun hge => ?_) (fun hge => ?_)
    · have hge := of_decide_eq_true hge
      rw [if_pos hge] at tr0
      refine runs_reg (ops_run (by simp; rfl) ?_)
      simp only [AEx.thn, AEx.blk]
      refine runs_seq (runs_seq (runs_reg (ops_run (by simp; rfl) ?_)))
      simp only [AEx.thn, AEx.blk]
      refine runs_block ?_
      refine runs_loop_inv (fun q σ => ∃ (i : Nat) (ii m hour reached : Int) (s : RS), ii = i ∧ q = os.length - i ∧ i ≤ os.length ∧ rRun u d (os.drop i) s = (rws.drop i, R) ∧ Tr k pk fi s m reached ∧ s.hour = hour ∧ hour ≤ 25 * ii ∧ In300 s.lo ∧ In300 s.hi ∧
        σ = ⟨[.any, y, .any, .any, .any, .ref 1 0 0, .ref 2 0 0, .vl (os.map rStay) tt, ov, .any, I pk, I fi, .any, I k, w, I m, I hour, I reached, I ii, .any, .any, .any, .any, .any, .any, .any, .any, .any, .any, .any, .any, .any, .any, .any, .any, .any, .any, .any, .any, .any, .any, .any, .any, .any, .any, .any, .any, .any, .any, .any, .any, .any, .any, .any, .any, .any, .any, .any, .any, .any, .any, .any, .any, .any, .any, .any, .any, .any, .any, .any, .any, .any, .any, .any, .any, .any, .any, .any, .any, .any, .any, .any, .any, .any, .any, .any, .any, .any, .any, .any, .any, .any, .any, .any, .any, .any, .any, .any, .any, .any, .any, .any, .any, .any, .any, .any, .any, .any, .any, .any, .any, .any, .any, .any, .any, .any, .any, .any, .any, .any, .any, .any, .any, .any, .any, .any, .any, .any, .any, .any, .any, .any, .any, .any, .any, .any, .any, .any, .any, .any, .any, .any, .any, .any, .any, .any, .any, .any, .any, .any, .any, .any, .any, .any, .any, .any, .any, .any, .any, .any, .any, .any, .any, .any, .any, .any, .any, .any, .any, .any, .any, .any], [b0, some (.row 2 [[I u, I d]]), some (.row 2 [[I sl, I sh]]), none, none, none, none, none, none, none, none, none, none, none, none, none, none, none, none, none, none, none, none, none, none, some (.row 1 [[.int .u8 0]]), some (.row 1 [[.int .u8 255]]), none, none, none, none, none, none, none]⟩) ?_ (os.length - 0) _ ⟨0, 0, m0, 0, 0, ⟨sl, sh, sh, 0, 0⟩, rfl, rfl, Nat.zero_le _, hRR, tr0, rfl, by omega, hsl, hsh, (by simp; try rfl)⟩
      rintro q σ ⟨i, ii, m, hour, reached, s, hii, rfl, hil, hrun, tr, hhr, hh25, hlo, hhi, rfl⟩
      have hi0 : 0 ≤ ii := by omega
      have hti : ii.toNat = i := by omega
      by_cases hlt2 : ii < (os.length : Int)
      · refine runs_seq (runs_seq (runs_reg (ops_run (by simp [hlt2]; rfl) ?_)))
        simp only [AEx.thn, AEx.blk]
        refine runs_cond (x := true) (by simp) ?_
        refine runs_skip ?_
        simp only [AEx.thn, AEx.blk]
        have hlt' : i < os.length := by omega
        rw [List.drop_eq_getElem_cons hlt'] at hrun
        have hroom := hrooms _ (List.getElem_mem hlt')
        generalize hst : os[i] = t at hrun hroom
        obtain ⟨rl, rh, n⟩ := t
        obtain ⟨hrl, hrh, hrle, hn0, hn25⟩ := hroom
        simp only at hrl hrh hrle hn0 hn25
        simp only [rRun, Prod.mk.injEq] at hrun
        generalize hSe : rHours u d rl rh n.toNat s = S at hrun
        obtain ⟨hs1, hs2⟩ := hrun
        have hri' : rws[i]? = some (S.lo, S.hi) := by have : (rws.drop i)[0]? = some (S.lo, S.hi) := by rw [← hs1]; rfl
                                                      simpa using this
        obtain ⟨hirw, hri⟩ := List.getElem?_eq_some_iff.1 hri'
        have hs3 : rRun u d (os.drop (i + 1)) S = (rws.drop (i + 1), R) := by
          have h1 : (rRun u d (os.drop (i + 1)) S).1 = rws.drop (i + 1) := by have := congrArg List.tail hs1; simpa using this
          rw [← h1, ← hs2]
        have hfS : Fin_ S ⟨0, 0, pk, fi, 0⟩ := by have := fin_run (u := u) (d := d) (os.drop (i + 1)) S; rw [hs2] at this; unfold Fin_ at *; rw [hpk, hfi]; exact this
        refine runs_seq (runs_block (runs_seq (runs_seq (runs_reg (ops_run (by simp; rfl) ?_)))))
        simp only [AEx.thn, AEx.blk]
        refine runs_block ?_
        refine runs_loop_inv (fun q σ => ∃ (h : Nat) (hh m hour reached : Int) (s' : RS), hh = h ∧ q = n.toNat - h ∧ hh ≤ n ∧ rHours u d rl rh (n.toNat - h) s' = S ∧ Tr k pk fi s' m reached ∧ s'.hour = hour ∧ hour ≤ 25 * ii + hh ∧ In300 s'.lo ∧ In300 s'.hi ∧
          σ = ⟨[.any, y, .any, .any, .any, .ref 1 0 0, .ref 2 0 0, .vl (os.map rStay) tt, ov, .any, I pk, I fi, .any, I k, w, I m, I hour, I reached, I ii, I hh, .any, .any, .any, .any, .any, .any, .any, .any, .any, .any, .any, .any, .any, .any, .any, .any, .any, .any, .any, .any, .any, .any, .any, .any, .any, .any, .any, .any, .any, .any, .any, .any, .any, .any, .any, .any, .any, .any, .any, .any, .any, .any, .any, .any, .any, .any, .any, .any, .any, .any, .any, .any, .any, .any, .any, .any, .any, .any, .any, .any, .any, .any, .any, .any, .any, .any, .any, .any, .any, .any, .any, .any, .any, .any, .any, .any, .any, .any, .any, .any, .any, .any, .any, .any, .any, .any, .any, .any, .any, .any, .any, .any, .any, .any, .any, .any, .any, .any, .any, .any, .any, .any, .any, .any, .any, .any, .any, .any, .any, .any, .any, .any, .any, .any, .any, .any, .any, .any, .any, .any, .any, .any, .any, .any, .any, .any, .any, .any, .any, .any, .any, .any, .any, .any, .any, .any, .any, .any, .any, .any, .any, .any, .any, .any, .any, .any, .any, .any, .any, .any, .any, .any], [b0, some (.row 2 [[I u, I d]]), some (.row 2 [[I sl, I sh]]), none, none, none, none, none, none, none, none, none, none, none, none, none, none, none, none, none, none, none, none, none, none, some (.row 1 [[.int .u8 0]]), some (.row 1 [[.int .u8 255]]), none, none, none, none, none, none, none]⟩) ?_ (n.toNat - 0) _ ⟨0, 0, m, hour, reached, s, rfl, rfl, hn0, hSe, tr, hhr, by omega, hlo, hhi, (by simp; try rfl)⟩
        clear tr hhr hh25 hlo hhi hSe
        rintro q σ ⟨h, hh, m, hour, reached, s', hhh, rfl, hhn, hSe, tr, hhr, hh25, hlo, hhi, rfl⟩
        by_cases hltn : hh < n
        · refine runs_seq (runs_seq (runs_reg (ops_run (by simp [hi0, hti, hlt', hst, rStay, hltn]; rfl) ?_)))
          simp only [AEx.thn, AEx.blk]
          refine runs_cond (x := true) (by simp) ?_
          refine runs_skip ?_
          simp only [AEx.thn, AEx.blk]
          have hour0 : 0 ≤ hour := by have := tr.2.2.2.2.2.2.1; omega
          have hwh : W .i64 (hour + 1) = hour + 1 := W_small (by omega)
          have hwhh : W .i64 (hh + 1) = hh + 1 := W_small (by omega)
          have hnsub : n.toNat - h = (n.toNat - (h + 1)) + 1 := by omega
          rw [hnsub] at hSe
          simp only [rHours] at hSe
          have hf1 : Fin_ (rHour u d rl rh s') ⟨0, 0, pk, fi, 0⟩ := fin_hours _ _ (by rw [hSe]; exact hfS)
          have hhr' : (rHour u d rl rh s').hour = hour + 1 := by rw [← hhr]; unfold rHour; split <;> rfl
          have hlo' : In300 (rHour u d rl rh s').lo := by have := step1_in hu hd hlo hrl; unfold rHour; split <;> exact this
          have hhi' : In300 (rHour u d rl rh s').hi := by have := step1_in hu hd hhi hrh; unfold rHour; split <;> exact this
          have w40h := w40 (hour + 1) (by omega)
          have hro := inside_in (byteI_in bs' hbs' (hour + 1)) hrl hrh hrle
          have hk1r : k = 1 → insideI rl rh (byteI bs' (hour + 1)) = rl := fun h => by rw [hb1 h, byteI_one]; exact inside_low rl rh hrl
          have hk2r : k = 2 → insideI rl rh (byteI bs' (hour + 1)) = rh := fun h => by rw [hb2 h, byteI_one]; exact inside_high hrl hrh hrle
          generalize hrm : insideI rl rh (byteI bs' (hour + 1)) = room at hro hk1r hk2r
          have w39h : o39 [.agg [I rl, I rh], I (byteI bs' (hour + 1))] = some (I room) := by simp [o39, hrm]
          have hroi : In300 room := by unfold In300 at *; omega
          have hmi : In300 m := by have := tr.1; have := tr.2.1; unfold In300 at *; omega
          have w41 : o41 [.agg [I u, I d], I m, I room] = some (I (step1 u d m room)) := by simp [o41, aft_step1 hu hd hmi hroi]
          generalize hm' : step1 u d m room = m' at w41
          have hts := fun r' hr' => tr_step (reached' := r') hu hd tr hf1 hro.1 hro.2 hk1r hk2r hm'.symm hr'
          rw [hhr] at hts
          refine runs_seq (runs_block (runs_seq (runs_reg (ops_run (by simp [hwh]; rfl) ?_))))
          simp only [AEx.thn, AEx.blk]
          refine runs_seq (runs_seq (runs_drw (by simp [lop, loud, callA, calleeA, callF_step h39, h39, callF_step h40, h40, callF_step h41, h41, w39h, w40h, w41, hfw1, hb0, hi0, hti, hlt', hst, rStay]; rfl) ?_))
          simp only [AEx.thn, AEx.blk]
          by_cases hp : pk ≤ m'
          · by_cases hr : reached < 0
            · refine runs_seq (runs_reg (ops_run (by simp [hp, hr]; rfl) ?_))
              simp only [AEx.thn, AEx.blk]
              refine runs_cond (x := true) (by simp) ?_
              refine runs_reg (ops_run (by simp; rfl) ?_)
              simp only [AEx.thn, AEx.blk]
              have htr := hts (hour + 1) (by simp [hp, hr])
              have hmp : ¬ pk < m' := by have := htr.2; omega
              refine runs_seq (runs_reg (ops_run (by simp [hmp]; rfl) ?_))
              simp only [AEx.thn, AEx.blk]
              refine runs_cond (x := false) (by simp) ?_
              refine runs_skip ?_
              simp only [AEx.thn, AEx.blk]
              refine runs_reg (ops_run (by simp [hwhh]; rfl) ?_)
              simp only [AEx.thn, AEx.blk]
              exact ⟨n.toNat - (h + 1), by omega, h + 1, hh + 1, m', hour + 1, hour + 1, rHour u d rl rh s', by omega, rfl, by omega, hSe, htr.1, hhr', by omega, hlo', hhi', (by simp [trim]; exact ⟨rowsV_rb hy _ _, rowsV_rb hov _ _, hrbw, hbb _, by simp [rbB], by simp [rbB], by simp [rbB], by simp [rbB], by simp [rbB], by simp [rbB]⟩)⟩
            · refine runs_seq (runs_reg (ops_run (by simp [hp, hr]; rfl) ?_))
              simp only [AEx.thn, AEx.blk]
              refine runs_cond (x := false) (by simp) ?_
              refine runs_skip ?_
              simp only [AEx.thn, AEx.blk]
              have htr := hts (reached) (by simp [hp, hr])
              have hmp : ¬ pk < m' := by have := htr.2; omega
              refine runs_seq (runs_reg (ops_run (by simp [hmp]; rfl) ?_))
              simp only [AEx.thn, AEx.blk]
              refine runs_cond (x := false) (by simp) ?_
              refine runs_skip ?_
              simp only [AEx.thn, AEx.blk]
              refine runs_reg (ops_run (by simp [hwhh]; rfl) ?_)
              simp only [AEx.thn, AEx.blk]
              exact ⟨n.toNat - (h + 1), by omega, h + 1, hh + 1, m', hour + 1, reached, rHour u d rl rh s', by omega, rfl, by omega, hSe, htr.1, hhr', by omega, hlo', hhi', (by simp [trim]; exact ⟨rowsV_rb hy _ _, rowsV_rb hov _ _, hrbw, hbb _, by simp [rbB], by simp [rbB], by simp [rbB], by simp [rbB], by simp [rbB], by simp [rbB]⟩)⟩
          · refine runs_seq (runs_reg (ops_run (by simp [hp]; rfl) ?_))
            simp only [AEx.thn, AEx.blk]
            refine runs_cond (x := false) (by simp) ?_
            refine runs_skip ?_
            simp only [AEx.thn, AEx.blk]
            have htr := hts (reached) (by simp [hp])
            have hmp : ¬ pk < m' := by have := htr.2; omega
            refine runs_seq (runs_reg (ops_run (by simp [hmp]; rfl) ?_))
            simp only [AEx.thn, AEx.blk]
            refine runs_cond (x := false) (by simp) ?_
            refine runs_skip ?_
            simp only [AEx.thn, AEx.blk]
            refine runs_reg (ops_run (by simp [hwhh]; rfl) ?_)
            simp only [AEx.thn, AEx.blk]
            exact ⟨n.toNat - (h + 1), by omega, h + 1, hh + 1, m', hour + 1, reached, rHour u d rl rh s', by omega, rfl, by omega, hSe, htr.1, hhr', by omega, hlo', hhi', (by simp [trim]; exact ⟨rowsV_rb hy _ _, rowsV_rb hov _ _, hrbw, hbb _, by simp [rbB], by simp [rbB], by simp [rbB], by simp [rbB], by simp [rbB], by simp [rbB]⟩)⟩
        · refine runs_seq (runs_seq (runs_reg (ops_run (by simp [hi0, hti, hlt', hst, rStay, hltn]; rfl) ?_)))
          simp only [AEx.thn, AEx.blk]
          refine runs_cond (x := false) (by simp) ?_
          refine runs_exit ?_
          simp only [AEx.thn, AEx.blk, if_true]
          have hz : n.toNat - h = 0 := by omega
          rw [hz] at hSe
          obtain rfl : s' = S := hSe
          have hwii : W .i64 (ii + 1) = ii + 1 := W_small (by omega)
          have a1 : ¬ m < s'.lo := by have := tr.1; omega
          have a2 : ¬ s'.hi < m := by have := tr.2.1; omega
          have a3 := tr.2.2.2.2.2.2.2.2.1
          have a4 := tr.2.2.2.2.2.2.2.2.2
          obtain ⟨t2, rfl⟩ := rowsV_get hov (k := i) (by simpa using hirw)
          rcases (by omega : k = 0 ∨ k = 1 ∨ k = 2) with rfl | rfl | rfl
          · refine runs_seq (runs_reg (ops_run (by simp [hi0, hti, hirw, hri, a1, a2]; rfl) ?_))
            simp only [AEx.thn, AEx.blk]
            refine runs_cond (x := false) (by simp) ?_
            refine runs_skip ?_
            simp only [AEx.thn, AEx.blk]
            refine runs_reg (ops_run (by simp [hwii]; rfl) ?_)
            simp only [AEx.thn, AEx.blk]
            exact ⟨os.length - (i + 1), by omega, i + 1, ii + 1, m, hour, reached, s', by omega, rfl, by omega, hs3, tr, hhr, by omega, hlo, hhi, (by simp [trim])⟩
          · obtain rfl := a3 rfl
            refine runs_seq (runs_reg (ops_run (by simp [hi0, hti, hirw, hri, a1, a2]; rfl) ?_))
            simp only [AEx.thn, AEx.blk]
            refine runs_cond (x := false) (by simp) ?_
            refine runs_skip ?_
            simp only [AEx.thn, AEx.blk]
            refine runs_reg (ops_run (by simp [hwii]; rfl) ?_)
            simp only [AEx.thn, AEx.blk]
            exact ⟨os.length - (i + 1), by omega, i + 1, ii + 1, _, hour, reached, s', by omega, rfl, by omega, hs3, tr, hhr, by omega, hlo, hhi, (by simp [trim])⟩
          · obtain rfl := (a4 rfl).1
            refine runs_seq (runs_reg (ops_run (by simp [hi0, hti, hirw, hri, a1, a2]; rfl) ?_))
            simp only [AEx.thn, AEx.blk]
            refine runs_cond (x := false) (by simp) ?_
            refine runs_skip ?_
            simp only [AEx.thn, AEx.blk]
            refine runs_reg (ops_run (by simp [hwii]; rfl) ?_)
            simp only [AEx.thn, AEx.blk]
            exact ⟨os.length - (i + 1), by omega, i + 1, ii + 1, _, hour, reached, s', by omega, rfl, by omega, hs3, tr, hhr, by omega, hlo, hhi, (by simp [trim])⟩
      · refine runs_seq (runs_seq (runs_reg (ops_run (by simp [hlt2]; rfl) ?_)))
        simp only [AEx.thn, AEx.blk]
        refine runs_cond (x := false) (by simp) ?_
        refine runs_exit ?_
        simp only [AEx.thn, AEx.blk, if_true]
        have hie : i = os.length := by omega
        subst hie
        rw [List.drop_length] at hrun
        simp only [rRun, Prod.mk.injEq] at hrun
        obtain ⟨_, rfl⟩ := hrun
        have b8 := tr.2.2.2.2.2.2.2.1
        have b5 := tr.2.2.2.2.1 hpk.symm
        have b10 := tr.2.2.2.2.2.2.2.2.2
        have hwk : W .i64 (k + 1) = k + 1 := W_small (by omega)
        by_cases hr0 : 0 ≤ reached
        · have hw3 : W .i64 3 = 3 := by decide
          have hc : ¬ reached < fi := by omega
          by_cases hk2 : k = 2
          · have e2 : reached = fi := by have := (b10 hk2).2.2 (by omega); omega
            subst e2
            subst hk2
            refine runs_seq (runs_reg (ops_run (by simp [hr0, Int.lt_irrefl]; rfl) ?_))
            simp only [AEx.thn, AEx.blk]
            refine runs_cond (x := false) (by simp) ?_
            refine runs_skip ?_
            simp only [AEx.thn, AEx.blk]
            refine runs_reg (ops_run (by simp [hw3]; rfl) ?_)
            simp only [AEx.thn, AEx.blk]
            exact ⟨3 - (kk + 1), by omega, kk + 1, 3, by omega, rfl, by omega, (by simp [trim]; exact ⟨rowsV_rb hy _ _, rowsV_rb hov _ _, hbb _, by simp [rbB], by simp [rbB], by simp [rbB]⟩)⟩
          · have hk2' : (k == 2) = false := by simp [hk2]
            refine runs_seq (runs_reg (ops_run (by simp [hr0, hc, hk2']; rfl) ?_))
            simp only [AEx.thn, AEx.blk]
            refine runs_cond (x := false) (by simp) ?_
            refine runs_skip ?_
            simp only [AEx.thn, AEx.blk]
            refine runs_reg (ops_run (by simp [hwk]; rfl) ?_)
            simp only [AEx.thn, AEx.blk]
            exact ⟨3 - (kk + 1), by omega, kk + 1, k + 1, by omega, rfl, by omega, (by simp [trim]; exact ⟨rowsV_rb hy _ _, rowsV_rb hov _ _, hbb _, by simp [rbB], by simp [rbB], by simp [rbB]⟩)⟩
        · have hk2 : ¬ k = 2 := by intro h; have := (b10 h).2.1 (by omega); omega
          have hk2' : (k == 2) = false := by simp [hk2]
          refine runs_seq (runs_reg (ops_run (by simp [hr0, hk2']; rfl) ?_))
          simp only [AEx.thn, AEx.blk]
          refine runs_cond (x := false) (by simp) ?_
          refine runs_skip ?_
          simp only [AEx.thn, AEx.blk]
          refine runs_reg (ops_run (by simp [hwk]; rfl) ?_)
          simp only [AEx.thn, AEx.blk]
          exact ⟨3 - (kk + 1), by omega, kk + 1, k + 1, by omega, rfl, by omega, (by simp [trim]; exact ⟨rowsV_rb hy _ _, rowsV_rb hov _ _, hbb _, by simp [rbB], by simp [rbB], by simp [rbB]⟩)⟩
    · have hge := of_decide_eq_false hge
      rw [if_neg hge] at tr0
      refine runs_skip ?_
      simp only [AEx.thn, AEx.blk]
      refine runs_seq (runs_seq (runs_reg (ops_run (by simp; rfl) ?_)))
      simp only [AEx.thn, AEx.blk]
      refine runs_block ?_
      refine runs_loop_inv (fun q σ => ∃ (i : Nat) (ii m hour reached : Int) (s : RS), ii = i ∧ q = os.length - i ∧ i ≤ os.length ∧ rRun u d (os.drop i) s = (rws.drop i, R) ∧ Tr k pk fi s m reached ∧ s.hour = hour ∧ hour ≤ 25 * ii ∧ In300 s.lo ∧ In300 s.hi ∧
        σ = ⟨[.any, y, .any, .any, .any, .ref 1 0 0, .ref 2 0 0, .vl (os.map rStay) tt, ov, .any, I pk, I fi, .any, I k, w, I m, I hour, I reached, I ii, .any, .any, .any, .any, .any, .any, .any, .any, .any, .any, .any, .any, .any, .any, .any, .any, .any, .any, .any, .any, .any, .any, .any, .any, .any, .any, .any, .any, .any, .any, .any, .any, .any, .any, .any, .any, .any, .any, .any, .any, .any, .any, .any, .any, .any, .any, .any, .any, .any, .any, .any, .any, .any, .any, .any, .any, .any, .any, .any, .any, .any, .any, .any, .any, .any, .any, .any, .any, .any, .any, .any, .any, .any, .any, .any, .any, .any, .any, .any, .any, .any, .any, .any, .any, .any, .any, .any, .any, .any, .any, .any, .any, .any, .any, .any, .any, .any, .any, .any, .any, .any, .any, .any, .any, .any, .any, .any, .any, .any, .any, .any, .any, .any, .any, .any, .any, .any, .any, .any, .any, .any, .any, .any, .any, .any, .any, .any, .any, .any, .any, .any, .any, .any, .any, .any, .any, .any, .any, .any, .any, .any, .any, .any, .any, .any, .any, .any, .any, .any, .any, .any, .any, .any], [b0, some (.row 2 [[I u, I d]]), some (.row 2 [[I sl, I sh]]), none, none, none, none, none, none, none, none, none, none, none, none, none, none, none, none, none, none, none, none, none, none, some (.row 1 [[.int .u8 0]]), some (.row 1 [[.int .u8 255]]), none, none, none, none, none, none, none]⟩) ?_ (os.length - 0) _ ⟨0, 0, m0, 0, -1, ⟨sl, sh, sh, 0, 0⟩, rfl, rfl, Nat.zero_le _, hRR, tr0, rfl, by omega, hsl, hsh, (by simp; try rfl)⟩
      rintro q σ ⟨i, ii, m, hour, reached, s, hii, rfl, hil, hrun, tr, hhr, hh25, hlo, hhi, rfl⟩
      have hi0 : 0 ≤ ii := by omega
      have hti : ii.toNat = i := by omega
      by_cases hlt2 : ii < (os.length : Int)
      · refine runs_seq (runs_seq (runs_reg (ops_run (by simp [hlt2]; rfl) ?_)))
        simp only [AEx.thn, AEx.blk]
        refine runs_cond (x := true) (by simp) ?_
        refine runs_skip ?_
        simp only [AEx.thn, AEx.blk]
        have hlt' : i < os.length := by omega
        rw [List.drop_eq_getElem_cons hlt'] at hrun
        have hroom := hrooms _ (List.getElem_mem hlt')
        generalize hst : os[i] = t at hrun hroom
        obtain ⟨rl, rh, n⟩ := t
        obtain ⟨hrl, hrh, hrle, hn0, hn25⟩ := hroom
        simp only at hrl hrh hrle hn0 hn25
        simp only [rRun, Prod.mk.injEq] at hrun
        generalize hSe : rHours u d rl rh n.toNat s = S at hrun
        obtain ⟨hs1, hs2⟩ := hrun
        have hri' : rws[i]? = some (S.lo, S.hi) := by have : (rws.drop i)[0]? = some (S.lo, S.hi) := by rw [← hs1]; rfl
                                                      simpa using this
        obtain ⟨hirw, hri⟩ := List.getElem?_eq_some_iff.1 hri'
        have hs3 : rRun u d (os.drop (i + 1)) S = (rws.drop (i + 1), R) := by
          have h1 : (rRun u d (os.drop (i + 1)) S).1 = rws.drop (i + 1) := by have := congrArg List.tail hs1; simpa using this
          rw [← h1, ← hs2]
        have hfS : Fin_ S ⟨0, 0, pk, fi, 0⟩ := by have := fin_run (u := u) (d := d) (os.drop (i + 1)) S; rw [hs2] at this; unfold Fin_ at *; rw [hpk, hfi]; exact this
        refine runs_seq (runs_block (runs_seq (runs_seq (runs_reg (ops_run (by simp; rfl) ?_)))))
        simp only [AEx.thn, AEx.blk]
        refine runs_block ?_
        refine runs_loop_inv (fun q σ => ∃ (h : Nat) (hh m hour reached : Int) (s' : RS), hh = h ∧ q = n.toNat - h ∧ hh ≤ n ∧ rHours u d rl rh (n.toNat - h) s' = S ∧ Tr k pk fi s' m reached ∧ s'.hour = hour ∧ hour ≤ 25 * ii + hh ∧ In300 s'.lo ∧ In300 s'.hi ∧
          σ = ⟨[.any, y, .any, .any, .any, .ref 1 0 0, .ref 2 0 0, .vl (os.map rStay) tt, ov, .any, I pk, I fi, .any, I k, w, I m, I hour, I reached, I ii, I hh, .any, .any, .any, .any, .any, .any, .any, .any, .any, .any, .any, .any, .any, .any, .any, .any, .any, .any, .any, .any, .any, .any, .any, .any, .any, .any, .any, .any, .any, .any, .any, .any, .any, .any, .any, .any, .any, .any, .any, .any, .any, .any, .any, .any, .any, .any, .any, .any, .any, .any, .any, .any, .any, .any, .any, .any, .any, .any, .any, .any, .any, .any, .any, .any, .any, .any, .any, .any, .any, .any, .any, .any, .any, .any, .any, .any, .any, .any, .any, .any, .any, .any, .any, .any, .any, .any, .any, .any, .any, .any, .any, .any, .any, .any, .any, .any, .any, .any, .any, .any, .any, .any, .any, .any, .any, .any, .any, .any, .any, .any, .any, .any, .any, .any, .any, .any, .any, .any, .any, .any, .any, .any, .any, .any, .any, .any, .any, .any, .any, .any, .any, .any, .any, .any, .any, .any, .any, .any, .any, .any, .any, .any, .any, .any, .any, .any, .any, .any, .any, .any, .any, .any], [b0, some (.row 2 [[I u, I d]]), some (.row 2 [[I sl, I sh]]), none, none, none, none, none, none, none, none, none, none, none, none, none, none, none, none, none, none, none, none, none, none, some (.row 1 [[.int .u8 0]]), some (.row 1 [[.int .u8 255]]), none, none, none, none, none, none, none]⟩) ?_ (n.toNat - 0) _ ⟨0, 0, m, hour, reached, s, rfl, rfl, hn0, hSe, tr, hhr, by omega, hlo, hhi, (by simp; try rfl)⟩
        clear tr hhr hh25 hlo hhi hSe
        rintro q σ ⟨h, hh, m, hour, reached, s', hhh, rfl, hhn, hSe, tr, hhr, hh25, hlo, hhi, rfl⟩
        by_cases hltn : hh < n
        · refine runs_seq (runs_seq (runs_reg (ops_run (by simp [hi0, hti, hlt', hst, rStay, hltn]; rfl) ?_)))
          simp only [AEx.thn, AEx.blk]
          refine runs_cond (x := true) (by simp) ?_
          refine runs_skip ?_
          simp only [AEx.thn, AEx.blk]
          have hour0 : 0 ≤ hour := by have := tr.2.2.2.2.2.2.1; omega
          have hwh : W .i64 (hour + 1) = hour + 1 := W_small (by omega)
          have hwhh : W .i64 (hh + 1) = hh + 1 := W_small (by omega)
          have hnsub : n.toNat - h = (n.toNat - (h + 1)) + 1 := by omega
          rw [hnsub] at hSe
          simp only [rHours] at hSe
          have hf1 : Fin_ (rHour u d rl rh s') ⟨0, 0, pk, fi, 0⟩ := fin_hours _ _ (by rw [hSe]; exact hfS)
          have hhr' : (rHour u d rl rh s').hour = hour + 1 := by rw [← hhr]; unfold rHour; split <;> rfl
          have hlo' : In300 (rHour u d rl rh s').lo := by have := step1_in hu hd hlo hrl; unfold rHour; split <;> exact this
          have hhi' : In300 (rHour u d rl rh s').hi := by have := step1_in hu hd hhi hrh; unfold rHour; split <;> exact this
          have w40h := w40 (hour + 1) (by omega)
          have hro := inside_in (byteI_in bs' hbs' (hour + 1)) hrl hrh hrle
          have hk1r : k = 1 → insideI rl rh (byteI bs' (hour + 1)) = rl := fun h => by rw [hb1 h, byteI_one]; exact inside_low rl rh hrl
          have hk2r : k = 2 → insideI rl rh (byteI bs' (hour + 1)) = rh := fun h => by rw [hb2 h, byteI_one]; exact inside_high hrl hrh hrle
          generalize hrm : insideI rl rh (byteI bs' (hour + 1)) = room at hro hk1r hk2r
          have w39h : o39 [.agg [I rl, I rh], I (byteI bs' (hour + 1))] = some (I room) := by simp [o39, hrm]
          have hroi : In300 room := by unfold In300 at *; omega
          have hmi : In300 m := by have := tr.1; have := tr.2.1; unfold In300 at *; omega
          have w41 : o41 [.agg [I u, I d], I m, I room] = some (I (step1 u d m room)) := by simp [o41, aft_step1 hu hd hmi hroi]
          generalize hm' : step1 u d m room = m' at w41
          have hts := fun r' hr' => tr_step (reached' := r') hu hd tr hf1 hro.1 hro.2 hk1r hk2r hm'.symm hr'
          rw [hhr] at hts
          refine runs_seq (runs_block (runs_seq (runs_reg (ops_run (by simp [hwh]; rfl) ?_))))
          simp only [AEx.thn, AEx.blk]
          refine runs_seq (runs_seq (runs_drw (by simp [lop, loud, callA, calleeA, callF_step h39, h39, callF_step h40, h40, callF_step h41, h41, w39h, w40h, w41, hfw1, hb0, hi0, hti, hlt', hst, rStay]; rfl) ?_))
          simp only [AEx.thn, AEx.blk]
          by_cases hp : pk ≤ m'
          · by_cases hr : reached < 0
            · refine runs_seq (runs_reg (ops_run (by simp [hp, hr]; rfl) ?_))
              simp only [AEx.thn, AEx.blk]
              refine runs_cond (x := true) (by simp) ?_
              refine runs_reg (ops_run (by simp; rfl) ?_)
              simp only [AEx.thn, AEx.blk]
              have htr := hts (hour + 1) (by simp [hp, hr])
              have hmp : ¬ pk < m' := by have := htr.2; omega
              refine runs_seq (runs_reg (ops_run (by simp [hmp]; rfl) ?_))
              simp only [AEx.thn, AEx.blk]
              refine runs_cond (x := false) (by simp) ?_
              refine runs_skip ?_
              simp only [AEx.thn, AEx.blk]
              refine runs_reg (ops_run (by simp [hwhh]; rfl) ?_)
              simp only [AEx.thn, AEx.blk]
              exact ⟨n.toNat - (h + 1), by omega, h + 1, hh + 1, m', hour + 1, hour + 1, rHour u d rl rh s', by omega, rfl, by omega, hSe, htr.1, hhr', by omega, hlo', hhi', (by simp [trim]; exact ⟨rowsV_rb hy _ _, rowsV_rb hov _ _, hrbw, hbb _, by simp [rbB], by simp [rbB], by simp [rbB], by simp [rbB], by simp [rbB], by simp [rbB]⟩)⟩
            · refine runs_seq (runs_reg (ops_run (by simp [hp, hr]; rfl) ?_))
              simp only [AEx.thn, AEx.blk]
              refine runs_cond (x := false) (by simp) ?_
              refine runs_skip ?_
              simp only [AEx.thn, AEx.blk]
              have htr := hts (reached) (by simp [hp, hr])
              have hmp : ¬ pk < m' := by have := htr.2; omega
              refine runs_seq (runs_reg (ops_run (by simp [hmp]; rfl) ?_))
              simp only [AEx.thn, AEx.blk]
              refine runs_cond (x := false) (by simp) ?_
              refine runs_skip ?_
              simp only [AEx.thn, AEx.blk]
              refine runs_reg (ops_run (by simp [hwhh]; rfl) ?_)
              simp only [AEx.thn, AEx.blk]
              exact ⟨n.toNat - (h + 1), by omega, h + 1, hh + 1, m', hour + 1, reached, rHour u d rl rh s', by omega, rfl, by omega, hSe, htr.1, hhr', by omega, hlo', hhi', (by simp [trim]; exact ⟨rowsV_rb hy _ _, rowsV_rb hov _ _, hrbw, hbb _, by simp [rbB], by simp [rbB], by simp [rbB], by simp [rbB], by simp [rbB], by simp [rbB]⟩)⟩
          · refine runs_seq (runs_reg (ops_run (by simp [hp]; rfl) ?_))
            simp only [AEx.thn, AEx.blk]
            refine runs_cond (x := false) (by simp) ?_
            refine runs_skip ?_
            simp only [AEx.thn, AEx.blk]
            have htr := hts (reached) (by simp [hp])
            have hmp : ¬ pk < m' := by have := htr.2; omega
            refine runs_seq (runs_reg (ops_run (by simp [hmp]; rfl) ?_))
            simp only [AEx.thn, AEx.blk]
            refine runs_cond (x := false) (by simp) ?_
            refine runs_skip ?_
            simp only [AEx.thn, AEx.blk]
            refine runs_reg (ops_run (by simp [hwhh]; rfl) ?_)
            simp only [AEx.thn, AEx.blk]
            exact ⟨n.toNat - (h + 1), by omega, h + 1, hh + 1, m', hour + 1, reached, rHour u d rl rh s', by omega, rfl, by omega, hSe, htr.1, hhr', by omega, hlo', hhi', (by simp [trim]; exact ⟨rowsV_rb hy _ _, rowsV_rb hov _ _, hrbw, hbb _, by simp [rbB], by simp [rbB], by simp [rbB], by simp [rbB], by simp [rbB], by simp [rbB]⟩)⟩
        · refine runs_seq (runs_seq (runs_reg (ops_run (by simp [hi0, hti, hlt', hst, rStay, hltn]; rfl) ?_)))
          simp only [AEx.thn, AEx.blk]
          refine runs_cond (x := false) (by simp) ?_
          refine runs_exit ?_
          simp only [AEx.thn, AEx.blk, if_true]
          have hz : n.toNat - h = 0 := by omega
          rw [hz] at hSe
          obtain rfl : s' = S := hSe
          have hwii : W .i64 (ii + 1) = ii + 1 := W_small (by omega)
          have a1 : ¬ m < s'.lo := by have := tr.1; omega
          have a2 : ¬ s'.hi < m := by have := tr.2.1; omega
          have a3 := tr.2.2.2.2.2.2.2.2.1
          have a4 := tr.2.2.2.2.2.2.2.2.2
          obtain ⟨t2, rfl⟩ := rowsV_get hov (k := i) (by simpa using hirw)
          rcases (by omega : k = 0 ∨ k = 1 ∨ k = 2) with rfl | rfl | rfl
          · refine runs_seq (runs_reg (ops_run (by simp [hi0, hti, hirw, hri, a1, a2]; rfl) ?_))
            simp only [AEx.thn, AEx.blk]
            refine runs_cond (x := false) (by simp) ?_
            refine runs_skip ?_
            simp only [AEx.thn, AEx.blk]
            refine runs_reg (ops_run (by simp [hwii]; rfl) ?_)
            simp only [AEx.thn, AEx.blk]
            exact ⟨os.length - (i + 1), by omega, i + 1, ii + 1, m, hour, reached, s', by omega, rfl, by omega, hs3, tr, hhr, by omega, hlo, hhi, (by simp [trim])⟩
          · obtain rfl := a3 rfl
            refine runs_seq (runs_reg (ops_run (by simp [hi0, hti, hirw, hri, a1, a2]; rfl) ?_))
            simp only [AEx.thn, AEx.blk]
            refine runs_cond (x := false) (by simp) ?_
            refine runs_skip ?_
            simp only [AEx.thn, AEx.blk]
            refine runs_reg (ops_run (by simp [hwii]; rfl) ?_)
            simp only [AEx.thn, AEx.blk]
            exact ⟨os.length - (i + 1), by omega, i + 1, ii + 1, _, hour, reached, s', by omega, rfl, by omega, hs3, tr, hhr, by omega, hlo, hhi, (by simp [trim])⟩
          · obtain rfl := (a4 rfl).1
            refine runs_seq (runs_reg (ops_run (by simp [hi0, hti, hirw, hri, a1, a2]; rfl) ?_))
            simp only [AEx.thn, AEx.blk]
            refine runs_cond (x := false) (by simp) ?_
            refine runs_skip ?_
            simp only [AEx.thn, AEx.blk]
            refine runs_reg (ops_run (by simp [hwii]; rfl) ?_)
            simp only [AEx.thn, AEx.blk]
            exact ⟨os.length - (i + 1), by omega, i + 1, ii + 1, _, hour, reached, s', by omega, rfl, by omega, hs3, tr, hhr, by omega, hlo, hhi, (by simp [trim])⟩
      · refine runs_seq (runs_seq (runs_reg (ops_run (by simp [hlt2]; rfl) ?_)))
        simp only [AEx.thn, AEx.blk]
        refine runs_cond (x := false) (by simp) ?_
        refine runs_exit ?_
        simp only [AEx.thn, AEx.blk, if_true]
        have hie : i = os.length := by omega
        subst hie
        rw [List.drop_length] at hrun
        simp only [rRun, Prod.mk.injEq] at hrun
        obtain ⟨_, rfl⟩ := hrun
        have b8 := tr.2.2.2.2.2.2.2.1
        have b5 := tr.2.2.2.2.1 hpk.symm
        have b10 := tr.2.2.2.2.2.2.2.2.2
        have hwk : W .i64 (k + 1) = k + 1 := W_small (by omega)
        by_cases hr0 : 0 ≤ reached
        · have hw3 : W .i64 3 = 3 := by decide
          have hc : ¬ reached < fi := by omega
          by_cases hk2 : k = 2
          · have e2 : reached = fi := by have := (b10 hk2).2.2 (by omega); omega
            subst e2
            subst hk2
            refine runs_seq (runs_reg (ops_run (by simp [hr0, Int.lt_irrefl]; rfl) ?_))
            simp only [AEx.thn, AEx.blk]
            refine runs_cond (x := false) (by simp) ?_
            refine runs_skip ?_
            simp only [AEx.thn, AEx.blk]
            refine runs_reg (ops_run (by simp [hw3]; rfl) ?_)
            simp only [AEx.thn, AEx.blk]
            exact ⟨3 - (kk + 1), by omega, kk + 1, 3, by omega, rfl, by omega, (by simp [trim]; exact ⟨rowsV_rb hy _ _, rowsV_rb hov _ _, hbb _, by simp [rbB], by simp [rbB], by simp [rbB]⟩)⟩
          · have hk2' : (k == 2) = false := by simp [hk2]
            refine runs_seq (runs_reg (ops_run (by simp [hr0, hc, hk2']; rfl) ?_))
            simp only [AEx.thn, AEx.blk]
            refine runs_cond (x := false) (by simp) ?_
            refine runs_skip ?_
            simp only [AEx.thn, AEx.blk]
            refine runs_reg (ops_run (by simp [hwk]; rfl) ?_)
            simp only [AEx.thn, AEx.blk]
            exact ⟨3 - (kk + 1), by omega, kk + 1, k + 1, by omega, rfl, by omega, (by simp [trim]; exact ⟨rowsV_rb hy _ _, rowsV_rb hov _ _, hbb _, by simp [rbB], by simp [rbB], by simp [rbB]⟩)⟩
        · have hk2 : ¬ k = 2 := by intro h; have := (b10 h).2.1 (by omega); omega
          have hk2' : (k == 2) = false := by simp [hk2]
          refine runs_seq (runs_reg (ops_run (by simp [hr0, hk2']; rfl) ?_))
          simp only [AEx.thn, AEx.blk]
          refine runs_cond (x := false) (by simp) ?_
          refine runs_skip ?_
          simp only [AEx.thn, AEx.blk]
          refine runs_reg (ops_run (by simp [hwk]; rfl) ?_)
          simp only [AEx.thn, AEx.blk]
          exact ⟨3 - (kk + 1), by omega, kk + 1, k + 1, by omega, rfl, by omega, (by simp [trim]; exact ⟨rowsV_rb hy _ _, rowsV_rb hov _ _, hbb _, by simp [rbB], by simp [rbB], by simp [rbB]⟩)⟩
  · refine runs_seq (runs_seq (runs_reg (ops_run (by simp [hlt]; rfl) ?_)))
    simp only [AEx.thn, AEx.blk]
    refine runs_cond (x := false) (by simp) ?_
    refine runs_exit ?_
    simp only [AEx.thn, AEx.blk, if_true]
    refine runs_seq (runs_reg (ops_run (by simp [lop, loud, callA, calleeA, callF_step h12, h12, o12]; rfl) ?_))
    simp only [AEx.thn, AEx.blk]
    refine runs_ret ?_
    simp
theorem law7 (r0 r1 s0 s1 : Int) (x y : AVal) (vs : List (Int × Int × Int)) (bs : List Int) (hx : rowsV x = some (vs.map rU3)) (hr0 : 0 ≤ r0 ∧ r0 ≤ 255) (hr1 : 0 ≤ r1 ∧ r1 ≤ 255) (hs0 : 0 ≤ s0 ∧ s0 ≤ 255) (hs1 : 0 ≤ s1 ∧ s1 ≤ 255)
    (hv : ∀ v ∈ vs, (0 ≤ v.1 ∧ v.1 ≤ 255) ∧ (0 ≤ v.2.1 ∧ v.2.1 ≤ 255) ∧ (0 ≤ v.2.2 ∧ v.2.2 ≤ 255)) (hy : rowsV y = some (bs.map rU1)) (hb : ∀ b ∈ bs, 0 ≤ b ∧ b ≤ 255) :
    Answers Tryd.prog TQ 7 [.agg [.int .u8 r0, .int .u8 r1, .int .u8 s0, .int .u8 s1, x], y] [] fun v _ => v = .bool true := by
  have hT : TQ 7 = some c7 := rfl
  have h12 : TQ 12 = some { c12 with frsh := true, orc := o12 } := rfl
  have h13 : TQ 13 = some { c13 with frsh := true, orc := oOwn 3 } := rfl
  have h15 : TQ 15 = some { c15 with frsh := true, orc := o15 } := rfl
  have h16 : TQ 16 = some { c16 with frsh := true, orc := o16 } := rfl
  have h38 : TQ 38 = some { c38 with frsh := true, orc := o38 } := rfl
  have h39 : TQ 39 = some { c39 with frsh := true, orc := o39 } := rfl
  have h40 : TQ 40 = some { c40 with frsh := true, orc := o40 } := rfl
  have h41 : TQ 41 = some { c41 with frsh := true, orc := o41 } := rfl
  have h42 : TQ 42 = some { c42 with frsh := true, orc := o42 } := rfl
  obtain ⟨u, d, sl, sh, os, w38, hu, hd, h0, hle, h294, hos, hrooms⟩ := o38_eq r0 r1 s0 s1 x vs hx hr0 hr1 hs0 hs1 hv
  have fx := rowsV_frz hx
  have hb0 : eqB (some (.row 5 [[.int .u8 r0, .int .u8 r1, .int .u8 s0, .int .u8 s1, x]])) (some (.row 5 [[.int .u8 r0, .int .u8 r1, .int .u8 s0, .int .u8 s1, x]])) = true := by
    have e : eqA 12 x x = true := by
      rcases rowsV_cases hx with ⟨rfl, _⟩ | ⟨t, rfl⟩
      · rfl
      · show (allB (allB (eqA 11)) (vs.map rU3) (vs.map rU3) && t == t) = true
        rw [eq_rows vs 10]; simp
    rw [eqB_row]
    simp only [allB, e]
    simp [eqA]
  have hbb : ∀ n, rbB n (some (.row 5 [[.int .u8 r0, .int .u8 r1, .int .u8 s0, .int .u8 s1, x]])) = true := fun n => by simp [rbB, rowsV_rb hx n 4]
  have hE := check_trip hu hd h0 hle h294 hos hrooms
  have hl' : os.length ≤ 1000 := by omega
  have ho := oOwn_eq (.vl (os.map rStay) os.isEmpty) os rfl hl'
  have hin : rowsV (.vl (os.map rStay) (os.length == 0)) = some (os.map rStay) := rfl
  have w15 := o15_eq u d sl sh _ os hin hl'
  have w16 := o16_eq u d sl sh _ os hin hl'
  simp only [hE, if_true] at w15 w16
  have hsl : In300 sl := by unfold In300; omega
  have hsh : In300 sh := by unfold In300; omega
  have hrun := run_same hu hd os ⟨sl, sh, sh, 0, 0⟩ ⟨sl, sh, sh, 0, 0⟩ (fun t ht => okstay_of (hrooms t ht)) ⟨rfl, rfl, rfl, rfl, rfl, Int.le_refl _, hsl, hsh⟩
  have hlen : (pRun u d os (sl, sh)).length = os.length := pRun_len u d os (sl, sh)
  have hov := outV_rows (pRun u d os (sl, sh))
  have lov := rowsV_len hov
  rw [List.length_map, hlen] at lov
  generalize outV (pRun u d os (sl, sh)) = ov at *
  rw [← hrun.1] at hov
  obtain ⟨_, hp, hf⟩ := hrun
  generalize (kRun u d os ⟨sl, sh, sh, 0, 0⟩).most = pk at *
  generalize (kRun u d os ⟨sl, sh, sh, 0, 0⟩).hour = fi at *
  refine answers_of hT (orcF_none rfl) ?_
  simp only [c7]
  refine runs_seq (runs_reg (ops_run (by simp; rfl) ?_))
  simp only [AEx.thn, AEx.blk]
  refine runs_seq (runs_reg (ops_run (by simp [lop, loud, callA, calleeA, callF_step h38, h38, fx, w38]; rfl) ?_))
  simp only [AEx.thn, AEx.blk]
  have fin : ∀ H, frz false H 5 (.vl (os.map rStay) os.isEmpty) = some (.vl (os.map rStay) os.isEmpty) := fun H => rfl
  refine runs_seq (runs_drw (by simp [lop, loud, callA, calleeA, callF_step h13, h13, callF_step h15, h15, ho, w15, hb0]; rfl) ?_)
  simp only [AEx.thn, AEx.blk]
  refine runs_seq (runs_drw (by simp [lop, loud, callA, calleeA, callF_step h13, h13, callF_step h16, h16, ho, w16, hb0]; rfl) ?_)
  simp only [AEx.thn, AEx.blk]
  refine runs_seq (runs_seq (runs_reg (ops_run (by simp [lov, -lenA]; rfl) ?_)))
  simp only [AEx.thn, AEx.blk]
  refine runs_cond (x := false) (by simp) ?_
  refine runs_skip ?_
  simp only [AEx.thn, AEx.blk]
  exact law7b _ hb0 hbb u d sl sh pk fi os _ ov y bs hy hb hu hd h0 hle h294 hos hrooms hov hp.symm hf.symm _ _ _ _ _ _ _ _ _ _ _ _ _ _ _ _ _ _ _ _ _ _ _ _ _ _ _ _ _ _ _ _ _ _ _ _ _ _ _ _ _ _ _ _ _ _ _ _ _ _ _ _ _ _ _ _ _ _ _ _ _ _ _ _ _ _ _ _ _ _ _ _ _ _ _ _ _ _ _ _ _ _ _ _ _ _ _ _ _ _ _ _ _ _ _ _ _ _ _ _ _ _ _ _ _ _ _ _ _ _ _ _ _ _ _ _ _ _ _ _ _ _ _ _ _ _ _ _ _ _ _ _ _ _ _ _ _ _ _ _ _ _ _ _ _ _ _ _ _ _ _ _ _ _ _ _ _ _ _ _ _ _ _ _ _ 

end
end Go.Proofs.YtpebmjeomlgmdaaDoor.Tab

namespace Go.Proofs.YtpebmjeomlgmdaaDoor
open Go Go.Abs Go.Proofs Go.ChangeShapes Go.WideShapes Go.ChangeAt Go.RowKit
theorem u8_wf {n : Int} (h : (Lit.int .u8 n).wf = true) : 0 ≤ n ∧ n ≤ 255 := by
  have e1 : IntKind.u8.min = 0 := rfl
  have e2 : IntKind.u8.max = 255 := rfl
  simp only [Lit.wf, e1, e2, Bool.and_eq_true, decide_eq_true_eq] at h
  exact h
theorem fits_u {Ls : List Ly} {xs : List AVal} (h : FitsR (.int .u8 :: Ls) xs) : ∃ (a : Int) (ys : List AVal), xs = .int .u8 a :: ys ∧ (0 ≤ a ∧ a ≤ 255) ∧ FitsR Ls ys := by
  obtain ⟨x, ys, rfl, hx, h1⟩ := fitsR_cons h
  obtain ⟨a, rfl, ha⟩ := fits_int hx
  exact ⟨a, ys, rfl, u8_wf ha, h1⟩
theorem fits_nil {xs : List AVal} (h : FitsR [] xs) : xs = [] := List.length_eq_zero_iff.1 h.1
theorem fits_trip {xs : List AVal} (h : FitsR [.int .u8, .int .u8, .int .u8, .int .u8, .sl [.int .u8, .int .u8, .int .u8]] xs) : ∃ (a b c d : Int) (x : AVal) (vs : List (Int × Int × Int)), xs = [.int .u8 a, .int .u8 b, .int .u8 c, .int .u8 d, x] ∧
    (0 ≤ a ∧ a ≤ 255) ∧ (0 ≤ b ∧ b ≤ 255) ∧ (0 ≤ c ∧ c ≤ 255) ∧ (0 ≤ d ∧ d ≤ 255) ∧ rowsV x = some (vs.map Tab.rU3) ∧ ∀ v ∈ vs, (0 ≤ v.1 ∧ v.1 ≤ 255) ∧ (0 ≤ v.2.1 ∧ v.2.1 ≤ 255) ∧ (0 ≤ v.2.2 ∧ v.2.2 ≤ 255) := by
  obtain ⟨a, ys, rfl, ha, h⟩ := fits_u h
  obtain ⟨b, ys, rfl, hb, h⟩ := fits_u h
  obtain ⟨c, ys, rfl, hc, h⟩ := fits_u h
  obtain ⟨d, ys, rfl, hd, h⟩ := fits_u h
  obtain ⟨x, rfl, hx⟩ := fitsR_one h
  obtain ⟨rs, hx, hrs⟩ := fits_rows hx
  have hb3 : ∀ r ∈ rs, ∃ v : Int × Int × Int, r = Tab.rU3 v ∧ (0 ≤ v.1 ∧ v.1 ≤ 255) ∧ (0 ≤ v.2.1 ∧ v.2.1 ≤ 255) ∧ (0 ≤ v.2.2 ∧ v.2.2 ≤ 255) := fun r hr => by
    obtain ⟨p, ys, rfl, hp, h⟩ := fits_u (hrs r hr)
    obtain ⟨q, ys, rfl, hq, h⟩ := fits_u h
    obtain ⟨s, ys, rfl, hs, h⟩ := fits_u h
    obtain rfl := fits_nil h
    exact ⟨(p, q, s), rfl, hp, hq, hs⟩
  obtain ⟨vs, rfl, hvs⟩ : ∃ vs : List (Int × Int × Int), rs = vs.map Tab.rU3 ∧ ∀ v ∈ vs, (0 ≤ v.1 ∧ v.1 ≤ 255) ∧ (0 ≤ v.2.1 ∧ v.2.1 ≤ 255) ∧ (0 ≤ v.2.2 ∧ v.2.2 ≤ 255) := by
    clear hx hrs
    induction rs with
    | nil => exact ⟨[], rfl, by simp⟩
    | cons r rs ih =>
      obtain ⟨v, rfl, hv⟩ := hb3 r (by simp)
      obtain ⟨vs, rfl, hvs⟩ := ih fun r hr => hb3 r (by simp [hr])
      exact ⟨v :: vs, rfl, fun w hw => by
        rcases List.mem_cons.1 hw with rfl | hw
        · exact hv
        · exact hvs w hw⟩
  refine ⟨a, b, c, d, x, vs, rfl, ha, hb, hc, hd, ?_, hvs⟩
  rcases hx with ⟨rfl, h0⟩ | ⟨t, rfl⟩
  · show some [] = some _
    exact congrArg some h0.symm
  · rfl
theorem fits_bytes {x : AVal} (h : Fits (.sl [.int .u8]) x) : ∃ bs : List Int, rowsV x = some (bs.map Tab.rU1) ∧ ∀ b ∈ bs, 0 ≤ b ∧ b ≤ 255 := by
  obtain ⟨rs, hx, hrs⟩ := fits_rows h
  have hb1 : ∀ r ∈ rs, ∃ v : Int, r = Tab.rU1 v ∧ (0 ≤ v ∧ v ≤ 255) := fun r hr => by
    obtain ⟨p, ys, rfl, hp, h⟩ := fits_u (hrs r hr)
    obtain rfl := fits_nil h
    exact ⟨p, rfl, hp⟩
  obtain ⟨vs, rfl, hvs⟩ : ∃ vs : List Int, rs = vs.map Tab.rU1 ∧ ∀ v ∈ vs, 0 ≤ v ∧ v ≤ 255 := by
    clear hx hrs
    induction rs with
    | nil => exact ⟨[], rfl, by simp⟩
    | cons r rs ih =>
      obtain ⟨v, rfl, hv⟩ := hb1 r (by simp)
      obtain ⟨vs, rfl, hvs⟩ := ih fun r hr => hb1 r (by simp [hr])
      exact ⟨v :: vs, rfl, fun w hw => by
        rcases List.mem_cons.1 hw with rfl | hw
        · exact hv
        · exact hvs w hw⟩
  refine ⟨vs, ?_, hvs⟩
  rcases hx with ⟨rfl, h0⟩ | ⟨t, rfl⟩
  · show some [] = some _
    exact congrArg some h0.symm
  · rfl

set_option maxRecDepth 100000 in
theorem truly_lifted (os : Os) (started : os.Started) (H : Type) (enc : TypeId × Value → H) :
    ReturnsInHanded {} Tryd.checked os 7 .any (fun w args => (Rows.dampTrulySpec.pre enc Tryd.prog Tryd.f7 [] false w args ∧ laidMetH Tryd.prog laid w) ∧ sizedMet enc Tryd.prog Tryd.f7 (OpenSpec.ofChange Rows.dampTrulySpec) false w args)
      (Rows.dampTrulySpec.post enc Tryd.prog Tryd.f7 false true false false) := by
  refine returnsInHanded_of_change_and (C := Tryd.checked) (X := fun w _ => laidMetH Tryd.prog laid w) (fun _ _ _ hh h => h.of_heap hh) own started (by kernel_rfl) Tryd.func7
    (ChangeSpec.witness_shaped (enc := enc) (C := Tryd.checked) (os := os) (X := fun w _ => laidMetH Tryd.prog laid w) false (World.doorLaid Tryd.prog 400 os) #[.agg #[.int .u8 0, .int .u8 0, .int .u8 0, .int .u8 0, .slice Option.none 0 0], .slice Option.none 0 0] 7 rfl (World.shaped_of_RefB (by kernel_rfl) (by kernel_rfl)) (by kernel_rfl) (by kernel_rfl) (by kernel_rfl) (door_met os _)) ?_
  intro W base args ds gs before hval0 hW _ _ hL _
  have hval : ∀ (j : Nat) t v, Tryd.f7.params[j]? = some t → args[j]? = some v → Value.okWide Tryd.prog W .any base t v := hval0
  have hW' := hW
  obtain ⟨p, q, hA0, hV, rfl, hfz, hnd⟩ := hW
  have hA : DataW.TrodAll enc Tryd.prog W 0 (fun _ => true) true Tryd.f7.params.toList args.toList ds p := hA0
  rw [Tryd.params7] at hA hval
  obtain ⟨v0, vs0, d0, ds0, p0, q0, hargs, rfl, rfl, h0, r0⟩ := trodAll_cons hA
  obtain ⟨v1, vs1, d1, ds1, p1, q1, rfl, rfl, rfl, h1, r1⟩ := trodAll_cons r0
  obtain ⟨rfl, rfl, rfl⟩ := trodAll_nil r1
  obtain rfl : args = #[v0, v1] := by cases args; simp_all
  obtain ⟨rfl, rfl⟩ := trodVars_none hV
  have lt0 : ∀ x ∈ p0, x.block < W.heap.size := by obtain ⟨m, hm⟩ := h0; exact DataW.trod_lt m _ _ _ hm
  have lt1 : ∀ x ∈ p1, x.block < W.heap.size := by obtain ⟨m, hm⟩ := h1; exact DataW.trod_lt m _ _ _ hm
  obtain ⟨x0, e0, f0⟩ := open_struct Tryd.underlying73 (L := [.int .u8, .int .u8, .int .u8, .int .u8, .sl [.int .u8, .int .u8, .int .u8]]) (by kernel_rfl) (hval 0 _ v0 rfl rfl) h0
  obtain ⟨a2, len2, cap2, rfl⟩ := okWide_slice Tryd.underlying74 (hval 1 _ v1 rfl rfl)
  obtain ⟨x2, e2, f2⟩ := open_cell (l := .sl [.int .u8]) (by kernel_rfl) rfl h1
  obtain ⟨r0', r1', s0, s1, x, vs, rfl, hr0, hr1, hs0, hs1, hx, hvs⟩ := fits_trip f0
  obtain ⟨bs, hy, hb⟩ := fits_bytes f2
  refine (law_calls Tab.mixed Tab.TQ_ok (fun g r hg => hglob hL g r hg) (xs := [.agg [.int .u8 r0', .int .u8 r1', .int .u8 s0, .int .u8 s1, x], x2]) (rowR_cons e0 (rowR_cons e2 rowR_nil)) (Tab.law7 r0' r1' s0 s1 x x2 vs bs hx hr0 hr1 hs0 hs1 hvs hy hb)).mono fun e W' ⟨he, bel⟩ => ?_
  subst he
  exact ⟨_, rfl, _, _, _, [], _, [], hW', trodAll_mk1 (shut_bool Tryd.underlying4 _), (trodAll_cons_mk (Below.trod laidOut (by kernel_rfl) (of_decide_eq_true (by kernel_rfl)) h0 bel lt0) (trodAll_cons_mk (Below.trod laidOut (by kernel_rfl) (of_decide_eq_true (by kernel_rfl)) h1 bel lt1) trodAll_mk0)), rfl, bel.frame _, fun h => by cases h⟩

theorem truly_row : Rows.DampTrulySaid :=
  OpenClaim.holds_of_wide 7 Tryd.f7 rfl rfl rfl rfl rfl rfl rfl ⟨rfl, rfl, rfl, rfl, rfl⟩ rfl rfl rfl rfl rfl (by kernel_rfl) Tryd.func7 (by kernel_rfl)
    (of_decide_eq_true (by kernel_rfl)) (by unfold Func.isWrapper; first | (rw [if_pos (by decide +kernel)]; kernel_rfl) | (rw [if_neg (by decide +kernel)]; exact ⟨rfl, rfl⟩))
    (fun os started H enc _ => truly_lifted os started H enc)

/-- THE CARD. -/
theorem truly_holds : Rows.DampTrulyCardSaid :=
  Claim7.holds_tied_plain_at .later [] [.data, .data] true (true, "56bad9879500f7b0b6633073609d1ea05cb756ca03497bd711519f01bbe68a63") false
    truly_row (fun _ h => by cases h) (by kernel_rfl) (fun _ h => by cases h) dampTruly_row_tie rfl ⟨rfl, rfl⟩ (by kernel_rfl) rfl
    (fun f fn hf hfn => by
      obtain rfl : f = 7 := Option.some.inj ((show Tryd.prog.funcNamed "testliner/testlinerlaw11.DampTruly" = some 7 by kernel_rfl).symm.trans hf) |>.symm
      obtain rfl : fn = Tryd.f7 := (Option.some.inj (Tryd.func7.symm.trans hfn)).symm
      exact ⟨by kernel_rfl, fun j t ht => by
        rw [Tryd.params7] at ht
        have hm : t ∈ [73, 74] := by simpa using Array.mem_of_getElem? ht
        have hall : ([73, 74].all fun u => !Tryd.prog.wantsStandIn u) = true := by kernel_rfl
        exact (show Tryd.prog.wantsStandIn t = false by simpa using List.all_eq_true.1 hall t hm)⟩)
    (by kernel_rfl)
end Go.Proofs.YtpebmjeomlgmdaaDoor
