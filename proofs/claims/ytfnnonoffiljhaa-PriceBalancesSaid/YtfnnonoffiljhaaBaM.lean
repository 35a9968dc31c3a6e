/- The stretches of a quote, yielded. No condition. -/
import Derived.Test.YtfnnonoffiljhaaBaR
import Derived.Test.YtfnnonoffiljhaaBaC
import Derived.Test.YtfnnonoffiljhaaBaP
set_option linter.unusedSimpArgs false
set_option linter.unusedVariables false
namespace Go.Proofs.Ytfnnonoffiljhaa.Tab
open Go Go.Abs Go.Proofs
set_option maxRecDepth 100000
set_option maxHeartbeats 4000000
set_option linter.unusedSimpArgs false
set_option linter.unusedVariables false
section
attribute [local simp] frz_int frz_bool frz_vl frz_pv frz_agg frz_tup frz_fn frz_ref frz_sl frz_nils optAll orcF rb_int rb_bool rb_agg rb_tup rb_int' rb_bool' rb_vl rb_pv rb_yld rb_nilf rb_nilp rb_nils rb_any rb_und rb_ref rb_sl rb_fn slE chunk fillA evParts evParts3 putAt List.range_succ List.range_zero List.range'_succ List.range'_zero runX_nil' unary_not evalS_pure evAll_nil evAll_cons runX_cons stepX wantedA dop CV.ev putK_eq setK_eq appK_eq fA_eq fI_eq fN_eq fRow_eq fRows_eq nth_eq Out.v putT List.replicate_succ AEx.thn AEx.blk arI pointee Abs.rowAt ldRow allV toV toC ofV ofC Builtin.min_ Builtin.min2 Builtin.max_ Builtin.max2 min_if max_if resA tupA kill trim_self trim_len trim_emp trim_nil lenA
attribute [local simp] runD_nil' runD_cons' stepD actK_eq actD clash disj masks holes maskH unmaskH diffs news eqB allB eqA ldRowN wrote toCs ofCs stA rowsV_vl rowsV_nils rowsOf dI1 dI2 dI3 dI5 elt
attribute [local simp] st_any st_und st_agg st_tup st_bool st_int st_nilp st_ref st_pv st_nils st_sl st_vl st_nilm st_mp st_fn st_nilf st_yld co_any co_und co_agg co_tup co_bool co_int co_nilp co_ref co_pv co_nils co_sl co_vl co_nilm co_mp co_fn co_nilf co_yld
def asg60 : CC := (.reg [⟨(some 5), (.new [(.int .i64 (0)), (.int .i64 (0))]), none, []⟩, ⟨none, (.st 2 (.t 5) (.t 9)), none, []⟩])
def bd60 : CC := (.kil 28 (.block 1 (.seq (.seq (.drw [⟨(some 10), (.fa 0 (.t 5)), none, []⟩, ⟨(some 11), (.ld (.t 10)), none, []⟩, ⟨(some 12), (.fa 1 (.t 5)), none, [0, 1]⟩, ⟨(some 13), (.ld (.t 12)), none, [0, 1]⟩, ⟨(some 14), (.ar .gtr (.t 11) (.t 13)), none, []⟩, ⟨(some 15), (.mv (.t 14)), none, []⟩, ⟨(some 16), (.ldn 11 (.t 2)), (some (15, false)), []⟩, ⟨(some 17), (.fa 0 (.t 5)), (some (15, false)), [6]⟩, ⟨(some 18), (.ld (.t 17)), (some (15, false)), [6]⟩, ⟨(some 19), (.call (.c (.fn 59 [] [])) [(.t 16), (.t 18)]), (some (15, false)), []⟩, ⟨(some 20), (.ld (.t 3)), (some (15, false)), [6, 7, 8, 9]⟩, ⟨(some 21), (.ar .gtr (.t 19) (.t 20)), (some (15, false)), []⟩, ⟨(some 22), (.pick (.t 15) (.c (.bool true)) (.t 21)), none, []⟩]) (.cond (.t 22) (.exit 1) .skip)) (.seq (.block 2 (.loop 60 (.seq (.seq (.reg [⟨(some 23), (.fa 0 (.t 5)), none, []⟩, ⟨(some 24), (.ld (.t 23)), none, []⟩, ⟨(some 25), (.fa 1 (.t 5)), none, []⟩, ⟨(some 26), (.ld (.t 25)), none, []⟩, ⟨(some 27), (.ar .lss (.t 24) (.t 26)), none, []⟩]) (.cond (.t 27) .skip (.exit 2))) (.block 3 (.seq (.reg [⟨(some 28), (.fa 0 (.t 5)), none, []⟩, ⟨(some 29), (.ld (.t 28)), none, []⟩, ⟨(some 30), (.fa 1 (.t 5)), none, []⟩, ⟨(some 31), (.ld (.t 30)), none, []⟩, ⟨(some 32), (.ar .add (.t 29) (.t 31)), none, []⟩, ⟨(some 33), (.ar .add (.t 32) (.c (.int .i64 (1)))), none, []⟩, ⟨(some 34), (.ar .quo (.t 33) (.c (.int .i64 (2)))), none, []⟩, ⟨(some 6), (.mv (.t 34)), none, []⟩]) (.seq (.drw [⟨(some 35), (.ldn 11 (.t 2)), none, []⟩, ⟨(some 36), (.mv (.t 6)), none, [0]⟩, ⟨(some 37), (.call (.c (.fn 59 [] [])) [(.t 35), (.t 36)]), none, []⟩, ⟨(some 38), (.ld (.t 3)), none, [0, 1, 2]⟩, ⟨(some 39), (.ar .gtr (.t 37) (.t 38)), none, []⟩]) (.cond (.t 39) (.reg [⟨(some 40), (.mv (.t 6)), none, []⟩, ⟨(some 41), (.ar .sub (.t 40) (.c (.int .i64 (1)))), none, []⟩, ⟨(some 42), (.fa 1 (.t 5)), none, []⟩, ⟨none, (.st 1 (.t 42) (.t 41)), none, []⟩]) (.reg [⟨(some 43), (.mv (.t 6)), none, []⟩, ⟨(some 44), (.fa 0 (.t 5)), none, []⟩, ⟨none, (.st 1 (.t 44) (.t 43)), none, []⟩])))))))) (.seq (.reg [⟨(some 45), (.fa 0 (.t 5)), none, []⟩, ⟨(some 46), (.ld (.t 45)), none, []⟩, ⟨none, (.st 1 (.t 4) (.t 46)), none, []⟩]) .ret)))))
def asg92 : CC := (.reg [⟨(some 6), (.new [(.int .i64 (0)), (.int .i64 (0))]), none, []⟩, ⟨none, (.st 2 (.t 6) (.t 12)), none, []⟩])
def bd92 : CC := (.kil 24 (.block 1 (.seq (.seq (.reg [⟨(some 13), (.ld (.t 3)), none, []⟩, ⟨(some 14), (.fa 0 (.t 6)), none, []⟩, ⟨(some 15), (.ld (.t 14)), none, []⟩, ⟨(some 16), (.ld (.t 4)), none, []⟩, ⟨(some 17), (.bld [(.int .i64 (0)), (.int .i64 (0))] [(0, (1, (.t 15))), (1, (1, (.t 16)))]), none, []⟩, ⟨(some 18), (.call (.t 13) [(.t 17)]), none, []⟩, ⟨(some 19), (.un .not (.t 18)), none, []⟩]) (.cond (.t 19) .ret .skip)) (.reg [⟨(some 20), (.fa 0 (.t 6)), none, []⟩, ⟨(some 21), (.ld (.t 20)), none, []⟩, ⟨(some 22), (.ar .sub (.t 21) (.c (.int .i64 (1)))), none, []⟩, ⟨none, (.st 1 (.t 4) (.t 22)), none, []⟩]))))
/-- What goes backward yields: the numbers and the elements, the last one first. -/
theorem it120 (P : Program) (T : Nat → Option CFn) (hT : T 120 = some c120) (x : AVal) (xs : List (Int × Int)) (hx : rowsV x = some (xs.map rP)) (hl : xs.length ≤ 1000) (J : Nat → Heap → Prop) (S : Heap → Prop)
    (hJ : ∀ k h, J k h → h.length = 9 ∧ h[7]? = some (some (.row 1 [[x]])))
    (step : ∀ (j : Nat) (h : Heap) (hj : j < xs.length), J (j + 1) h → Ylds P T 8 [I (j : Int), .agg [I xs[j].1, I xs[j].2]] h fun v h' => (v = .bool true ∧ J j h') ∨ (v = .bool false ∧ S h')) :
    ∀ h, J xs.length h → Answers P T 120 [.yld 8, .ref 7 0 0] h fun _ h2 => J 0 h2 ∨ ∃ h', S h' ∧ (h2 = h' ∨ h2 = h'.take 9) := by
  have lx := rowsV_len hx
  rw [List.length_map] at lx
  intro h hh
  obtain ⟨hlen, h7⟩ := hJ _ _ hh
  have h7l : 7 < h.length := by omega
  have g7 := get_of h7 h7l
  have hwl : W .i64 ((xs.length : Int) - 1) = (xs.length : Int) - 1 := W_small (by omega)
  refine answers_of hT (orcF_none rfl) ?_
  simp only [c120]
  refine runs_seq ?_
  refine runs_reg (ops_run (by simp [lop, loud, callA, calleeA, lx, -lenA, rowAt, h7, g7, h7l, hwl]; rfl) ?_)
  simp only [AEx.thn, AEx.blk]
  refine runs_block ?_
  refine runs_loop_inv (fun m σ => ∃ (k : Nat) (i : Int) (g : Heap), i = (k : Int) - 1 ∧ k = m ∧ k ≤ xs.length ∧ J k g ∧ σ = ⟨[.yld 8, .ref 7 0 0, .any, I i, .any, .any, .any, .any, .any, .any, .any, .any, .any, .any, .any, .any, .any, .any, .any], g⟩) ?_ xs.length _ ⟨xs.length, (xs.length : Int) - 1, h, rfl, rfl, Nat.le_refl _, hh, by simp⟩
  rintro m σ ⟨k, i, g, hik, rfl, hk, hj, rfl⟩
  obtain ⟨hlen', h7⟩ := hJ _ _ hj
  have h7l : 7 < g.length := by omega
  have g7 := get_of h7 h7l
  refine runs_seq ?_
  refine runs_seq ?_
  refine runs_reg (ops_run (by simp [lop, loud, callA, calleeA, lx, -lenA, rowAt, h7, g7, h7l, hwl]; rfl) ?_)
  simp only [AEx.thn, AEx.blk]
  refine runs_cond_split (x := decide (0 ≤ i)) (by simp) (fun hlt => ?_) (fun hlt => ?_)
  · have hlt := of_decide_eq_true hlt
    obtain ⟨j, rfl⟩ : ∃ j, k = j + 1 := ⟨k - 1, by omega⟩
    have hj0 : j < xs.length := by omega
    obtain ⟨tt, rfl⟩ := rowsV_get hx (k := j) (by rw [List.length_map]; omega)
    have htn : i.toNat = j := by omega
    have hi0 : 0 ≤ i := by omega
    have hwi : W .i64 (i - 1) = i - 1 := W_small (by omega)
    have hie : i = (j : Int) := by omega
    refine runs_skip ?_
    simp only [AEx.thn, AEx.blk]
    refine runs_seq ?_
    refine runs_block ?_
    refine runs_seq ?_
    refine runs_reg (ops_take 6 (by simp [lop, loud, callA, calleeA, lx, -lenA, rowAt, h7, g7, h7l, hwl, htn, hi0, hj0, hwi, hlt, rP]; rfl) ?_)
    simp only [List.drop_succ_cons, List.drop_zero]
    refine ops_ylds (i := 8) (args := [I i, .agg [I xs[j].1, I xs[j].2]]) (by simp) (by simp) (by simp [lop]) (by simp [calleeA]) ?_
    have hst := step j g hj0 (by rw [hie] at *; exact hj)
    rw [← hie] at hst
    refine hst.mono ?_
    rintro v h' (⟨rfl, hj'⟩ | ⟨rfl, hs'⟩)
    · refine ops_run (by simp; rfl) ?_
      simp only [AEx.thn, AEx.blk]
      refine runs_cond (x := false) (by simp) ?_
      refine runs_skip ?_
      simp only [AEx.thn, AEx.blk]
      refine runs_reg (ops_run (by simp [lop, loud, callA, calleeA, lx, -lenA, rowAt, h7, g7, h7l, hwl, htn, hi0, hj0, hwi, hlt, rP]; rfl) ?_)
      simp only [AEx.thn, AEx.blk]
      have hl2 := (hJ _ _ hj').1
      refine ⟨j, by omega, j, i - 1, h', by omega, rfl, by omega, hj', ?_⟩
      simp [hwi, trim_same (n := g.length) (h := h') (by omega)]
    · refine ops_run (by simp; rfl) ?_
      simp only [AEx.thn, AEx.blk]
      refine runs_cond (x := true) (by simp) ?_
      refine runs_ret ?_
      refine ⟨by simp, _, by simp [resA]; rfl, .inr ⟨h', hs', ?_⟩⟩
      rw [hlen]
      exact trim_cases _ _ _
  · have hlt := of_decide_eq_false hlt
    obtain rfl : k = 0 := by omega
    refine runs_exit ?_
    simp only [AEx.thn, AEx.blk, if_true, if_false, reduceIte, Nat.reduceEqDiff, Nat.succ_ne_zero, Nat.one_ne_zero, Nat.zero_ne_one]
    refine ⟨by simp, _, by simp [resA]; rfl, .inl ?_⟩
    rw [trim_same (by omega)]
    exact hj
end
end Go.Proofs.Ytfnnonoffiljhaa.Tab

namespace Go.Proofs.Ytfnnonoffiljhaa.Tab
open Go Go.Abs Go.Proofs
set_option maxRecDepth 100000
set_option maxHeartbeats 4000000
set_option linter.unusedSimpArgs false
set_option linter.unusedVariables false
section
attribute [local simp] frz_int frz_bool frz_vl frz_pv frz_agg frz_tup frz_fn frz_ref frz_sl frz_nils optAll orcF rb_int rb_bool rb_agg rb_tup rb_int' rb_bool' rb_vl rb_pv rb_yld rb_nilf rb_nilp rb_nils rb_any rb_und rb_ref rb_sl rb_fn slE chunk fillA evParts evParts3 putAt List.range_succ List.range_zero List.range'_succ List.range'_zero runX_nil' unary_not evalS_pure evAll_nil evAll_cons runX_cons stepX wantedA dop CV.ev putK_eq setK_eq appK_eq fA_eq fI_eq fN_eq fRow_eq fRows_eq nth_eq Out.v putT List.replicate_succ AEx.thn AEx.blk arI pointee Abs.rowAt ldRow allV toV toC ofV ofC Builtin.min_ Builtin.min2 Builtin.max_ Builtin.max2 min_if max_if resA tupA kill trim_self trim_len trim_emp trim_nil lenA
attribute [local simp] runD_nil' runD_cons' stepD actK_eq actD clash disj masks holes maskH unmaskH diffs news eqB allB eqA ldRowN wrote toCs ofCs stA rowsV_vl rowsV_nils rowsOf dI1 dI2 dI3 dI5 elt
attribute [local simp] st_any st_und st_agg st_tup st_bool st_int st_nilp st_ref st_pv st_nils st_sl st_vl st_nilm st_mp st_fn st_nilf st_yld co_any co_und co_agg co_tup co_bool co_int co_nilp co_ref co_pv co_nils co_sl co_vl co_nilm co_mp co_fn co_nilf co_yld
theorem b60_5 (P : Program) (T : Nat → Option CFn) (h59 : T 59 = some { c59 with frsh := true, orc := oPrice }) (q : PQ) (x : AVal) (hx : rowsV x = some (q.steps.map rP)) (hl : q.steps.length ≤ 1000) (hg : checkQ q = 0) (money lo hi : Int) (hlo : 1 ≤ lo) (hhi : hi ≤ 100000) (hlh : lo ≤ hi → lo ≤ 100000) (hm : ∀ a b, lo ≤ a → a ≤ b → b ≤ hi → priceI q a ≤ priceI q b)
    (y3 y4 y5 y6 y7 y8 : Option Blk) (hy3 : ∀ n, 9 ≤ n → rbB n y3 = true) (hy4 : ∀ n, 9 ≤ n → rbB n y4 = true) (hy5 : ∀ n, 9 ≤ n → rbB n y5 = true) (hy6 : ∀ n, 9 ≤ n → rbB n y6 = true) (hy7 : ∀ n, 9 ≤ n → rbB n y7 = true) (hy8 : ∀ n, 9 ≤ n → rbB n y8 = true) (v0 v1 v6 v7 v8 v9 v10 v11 v12 v13 v14 v15 v16 v17 v18 v19 v20 v21 v22 v23 v24 v25 v26 v27 v28 v29 v30 v31 v32 v33 v34 v35 v36 v37 v38 v39 v40 v41 v42 v43 v44 v45 v46 : AVal) :
    Runs P T (some 3) bd60 ⟨[v0, v1, .ref 0 0 0, .ref 1 0 0, .ref 2 0 0, .ref 9 0 0, v6, v7, v8, v9, v10, v11, v12, v13, v14, v15, v16, v17, v18, v19, v20, v21, v22, v23, v24, v25, v26, v27, v28, v29, v30, v31, v32, v33, v34, v35, v36, v37, v38, v39, v40, v41, v42, v43, v44, v45, v46], [some (.row 11 [[I q.area, I q.board, I q.waste, I q.tool, I q.setup, I q.run, I q.work, I q.pallet, I q.freight, I q.margin, x]]), some (.row 1 [[I money]]), some (.row 1 [[I 0]]), y3, y4, y5, y6, y7, y8, some (.row 2 [[I lo, I hi]])]⟩ fun e σ => (e = .normal ∧ (hi < lo ∨ money < priceI q lo) ∧ ∃ G, σ = ⟨[.any, .any, .ref 0 0 0, .ref 1 0 0, .ref 2 0 0, .any, .any, .any, .any, .any, .any, .any, .any, .any, .any, .any, .any, .any, .any, .any, .any, .any, .any, .any, .any, .any, .any, .any, .any, .any, .any, .any, .any, .any, .any, .any, .any, .any, .any, .any, .any, .any, .any, .any, .any, .any, .any], [some (.row 11 [[I q.area, I q.board, I q.waste, I q.tool, I q.setup, I q.run, I q.work, I q.pallet, I q.freight, I q.margin, x]]), some (.row 1 [[I money]]), some (.row 1 [[I 0]]), y3, y4, y5, y6, y7, y8, some (.row 2 [[I lo, I hi]])] ++ G⟩) ∨
      (e = .ret ∧ ∃ r, lo ≤ r ∧ r ≤ hi ∧ priceI q r ≤ money ∧ (∀ m, r < m → m ≤ hi → money < priceI q m) ∧ ∃ t G, σ = ⟨t, [some (.row 11 [[I q.area, I q.board, I q.waste, I q.tool, I q.setup, I q.run, I q.work, I q.pallet, I q.freight, I q.margin, x]]), some (.row 1 [[I money]]), some (.row 1 [[I r]]), y3, y4, y5, y6, y7, y8] ++ G⟩) := by
  have fx := fun H d => rowsV_frz hx H d
  have rx := fun n d => rowsV_rb hx n d
  have hd := dQ_vQ hx hl
  obtain ⟨cx1, cx2⟩ := rowsV_cells hx
  simp only [vQ] at hd
  unfold bd60
  refine runs_kil ?_
  refine runs_block ?_
  refine runs_seq ?_
  refine runs_seq ?_
  by_cases hc : hi < lo
  · refine runs_drw (by simp (maxSteps := 3000000) [lop, loud, callA, calleeA, callF_step h59, h59, oPrice, hg, fx, rx, hd, cx1, cx2, hc]; rfl) ?_
    simp only [AEx.thn, AEx.blk]
    refine runs_cond (x := true) (by simp) ?_
    refine runs_exit ?_
    simp only [AEx.thn, AEx.blk, if_true, if_false, reduceIte, Nat.reduceEqDiff, Nat.succ_ne_zero, Nat.one_ne_zero, Nat.zero_ne_one]
    exact .inl ⟨trivial, .inl hc, List.replicate 13 none, by simp [kill]⟩
  · have hlo2 : lo ≤ 100000 := hlh (by omega)
    have hle : lo ≤ hi := by omega
    by_cases hp : money < priceI q lo
    · refine runs_drw (by simp (maxSteps := 3000000) [lop, loud, callA, calleeA, callF_step h59, h59, oPrice, hg, fx, rx, hd, cx1, cx2, hlo, hlo2, hc, hp]; rfl) ?_
      simp only [AEx.thn, AEx.blk]
      refine runs_cond (x := true) (by simp) ?_
      refine runs_exit ?_
      simp only [AEx.thn, AEx.blk, if_true, if_false, reduceIte, Nat.reduceEqDiff, Nat.succ_ne_zero, Nat.one_ne_zero, Nat.zero_ne_one]
      exact .inl ⟨trivial, .inr hp, List.replicate 13 none, by simp [kill]⟩
    · refine runs_drw (by simp (maxSteps := 3000000) [lop, loud, callA, calleeA, callF_step h59, h59, oPrice, hg, fx, rx, hd, cx1, cx2, hlo, hlo2, hc, hp]; rfl) ?_
      simp only [AEx.thn, AEx.blk]
      refine runs_cond (x := false) (by simp) ?_
      refine runs_skip ?_
      simp only [AEx.thn, AEx.blk]
      refine runs_seq ?_
      refine runs_block ?_
      have ry3 := hy3 23 (by decide)
      have ry4 := hy4 23 (by decide)
      have ry5 := hy5 23 (by decide)
      have ry6 := hy6 23 (by decide)
      have ry7 := hy7 23 (by decide)
      have ry8 := hy8 23 (by decide)
      refine runs_loop_inv (fun m σ => ∃ (a b : Int), (b - a).toNat = m ∧ lo ≤ a ∧ a ≤ b ∧ b ≤ hi ∧ priceI q a ≤ money ∧ (∀ m, b < m → m ≤ hi → money < priceI q m) ∧ σ = ⟨[.any, .any, .ref 0 0 0, .ref 1 0 0, .ref 2 0 0, .ref 9 0 0, .any, .any, .any, .any, .any, .any, .any, .any, .any, .any, .any, .any, .any, .any, .any, .any, .any, .any, .any, .any, .any, .any, .any, .any, .any, .any, .any, .any, .any, .any, .any, .any, .any, .any, .any, .any, .any, .any, .any, .any, .any], [some (.row 11 [[I q.area, I q.board, I q.waste, I q.tool, I q.setup, I q.run, I q.work, I q.pallet, I q.freight, I q.margin, x]]), some (.row 1 [[I money]]), some (.row 1 [[I 0]]), y3, y4, y5, y6, y7, y8, some (.row 2 [[I a, I b]]), none, none, none, none, none, none, none, none, none, none, none, none, none]⟩) ?_ (hi - lo).toNat _ ⟨lo, hi, rfl, by omega, hle, by omega, by omega, fun m a b => by omega, by simp⟩
      rintro m σ ⟨a, b, rfl, h1, h2, h3, h4, h5, rfl⟩
      refine runs_seq ?_
      refine runs_seq ?_
      refine runs_reg (ops_run (by simp [lop, loud, callA, calleeA, callF_step h59, h59, oPrice, hg, fx, rx, hd, cx1, cx2, hlo, hlo2, hc, hp, ry3, ry4, ry5, ry6, ry7, ry8]; rfl) ?_)
      simp only [AEx.thn, AEx.blk]
      refine runs_cond_split (x := decide (a < b)) (by simp) (fun hlt => ?_) (fun hlt => ?_)
      · have hlt := of_decide_eq_true hlt
        have wa : W .i64 (a + b) = a + b := W_small (by omega)
        have wb : W .i64 (a + b + 1) = a + b + 1 := W_small (by omega)
        have hdv : (a + b + 1).tdiv 2 = (a + b + 1) / 2 := tdiv_pos (by omega)
        have hmid : a < (a + b + 1) / 2 ∧ (a + b + 1) / 2 ≤ b := by omega
        have wc : W .i64 ((a + b + 1) / 2) = (a + b + 1) / 2 := W_small (by omega)
        refine runs_skip ?_
        simp only [AEx.thn, AEx.blk]
        refine runs_block ?_
        refine runs_seq ?_
        refine runs_reg (ops_run (by simp [lop, loud, callA, calleeA, callF_step h59, h59, oPrice, hg, fx, rx, hd, cx1, cx2, hlo, hlo2, hc, hp, ry3, ry4, ry5, ry6, ry7, ry8, wa, wb, hdv, wc]; rfl) ?_)
        simp only [AEx.thn, AEx.blk]
        generalize hM : (a + b + 1) / 2 = M at *
        have wd : W .i64 (M - 1) = M - 1 := W_small (by omega)
        have hM1 : 1 ≤ M := by omega
        have hM2 : M ≤ 100000 := by omega
        refine runs_seq ?_
        refine runs_drw (by simp (maxSteps := 3000000) [lop, loud, callA, calleeA, callF_step h59, h59, oPrice, hg, fx, rx, hd, cx1, cx2, hlo, hlo2, hc, hp, ry3, ry4, ry5, ry6, ry7, ry8, wd, hM1, hM2]; rfl) ?_
        simp only [AEx.thn, AEx.blk]
        refine runs_cond_split (x := decide (money < priceI q M)) (by simp) (fun hc => ?_) (fun hc => ?_)
        · have hc := of_decide_eq_true hc
          refine runs_reg (ops_run (by simp [lop, loud, callA, calleeA, callF_step h59, h59, oPrice, hg, fx, rx, hd, cx1, cx2, hlo, hlo2, hc, hp, ry3, ry4, ry5, ry6, ry7, ry8, wd, hM1, hM2]; rfl) ?_)
          simp only [AEx.thn, AEx.blk]
          refine ⟨(M - 1 - a).toNat, by omega, a, M - 1, rfl, by omega, by omega, by omega, h4, fun m m1 m2 => ?_, by simp [trim, rbB_row, rbB_none, lop, loud, callA, calleeA, callF_step h59, h59, oPrice, hg, fx, rx, hd, cx1, cx2, hlo, hlo2, hc, hp, ry3, ry4, ry5, ry6, ry7, ry8, wd, hM1, hM2]⟩
          by_cases hmb : b < m
          · exact h5 m hmb m2
          · have := hm M m (by omega) (by omega) (by omega); omega
        · have hc := of_decide_eq_false hc
          refine runs_reg (ops_run (by simp [lop, loud, callA, calleeA, callF_step h59, h59, oPrice, hg, fx, rx, hd, cx1, cx2, hlo, hlo2, hc, hp, ry3, ry4, ry5, ry6, ry7, ry8, wd, hM1, hM2]; rfl) ?_)
          simp only [AEx.thn, AEx.blk]
          exact ⟨(b - M).toNat, by omega, M, b, rfl, by omega, by omega, by omega, by omega, h5, by simp [trim, rbB_row, rbB_none, lop, loud, callA, calleeA, callF_step h59, h59, oPrice, hg, fx, rx, hd, cx1, cx2, hlo, hlo2, hc, hp, ry3, ry4, ry5, ry6, ry7, ry8, wd, hM1, hM2]⟩
      · have hlt := of_decide_eq_false hlt
        obtain rfl : a = b := by omega
        refine runs_exit ?_
        simp only [AEx.thn, AEx.blk, if_true, if_false, reduceIte, Nat.reduceEqDiff, Nat.succ_ne_zero, Nat.one_ne_zero, Nat.zero_ne_one]
        refine runs_seq ?_
        refine runs_reg (ops_run (by simp [lop, loud, callA, calleeA, callF_step h59, h59, oPrice, hg, fx, rx, hd, cx1, cx2, hlo, hlo2, hc, hp, ry3, ry4, ry5, ry6, ry7, ry8]; rfl) ?_)
        simp only [AEx.thn, AEx.blk]
        refine runs_ret ?_
        simp only [AEx.thn, AEx.blk, if_true, if_false, reduceIte, Nat.reduceEqDiff, Nat.succ_ne_zero, Nat.one_ne_zero, Nat.zero_ne_one]
        exact .inr ⟨trivial, a, h1, h3, h4, h5, _, _, rfl⟩
theorem b60_6 (P : Program) (T : Nat → Option CFn) (h59 : T 59 = some { c59 with frsh := true, orc := oPrice }) (q : PQ) (x : AVal) (hx : rowsV x = some (q.steps.map rP)) (hl : q.steps.length ≤ 1000) (hg : checkQ q = 0) (money lo hi : Int) (hlo : 1 ≤ lo) (hhi : hi ≤ 100000) (hlh : lo ≤ hi → lo ≤ 100000) (hm : ∀ a b, lo ≤ a → a ≤ b → b ≤ hi → priceI q a ≤ priceI q b)
    (y3 y4 y5 y6 y7 y8 y9 : Option Blk) (hy3 : ∀ n, 10 ≤ n → rbB n y3 = true) (hy4 : ∀ n, 10 ≤ n → rbB n y4 = true) (hy5 : ∀ n, 10 ≤ n → rbB n y5 = true) (hy6 : ∀ n, 10 ≤ n → rbB n y6 = true) (hy7 : ∀ n, 10 ≤ n → rbB n y7 = true) (hy8 : ∀ n, 10 ≤ n → rbB n y8 = true) (hy9 : ∀ n, 10 ≤ n → rbB n y9 = true) (v0 v1 v6 v7 v8 v9 v10 v11 v12 v13 v14 v15 v16 v17 v18 v19 v20 v21 v22 v23 v24 v25 v26 v27 v28 v29 v30 v31 v32 v33 v34 v35 v36 v37 v38 v39 v40 v41 v42 v43 v44 v45 v46 : AVal) :
    Runs P T (some 3) bd60 ⟨[v0, v1, .ref 0 0 0, .ref 1 0 0, .ref 2 0 0, .ref 10 0 0, v6, v7, v8, v9, v10, v11, v12, v13, v14, v15, v16, v17, v18, v19, v20, v21, v22, v23, v24, v25, v26, v27, v28, v29, v30, v31, v32, v33, v34, v35, v36, v37, v38, v39, v40, v41, v42, v43, v44, v45, v46], [some (.row 11 [[I q.area, I q.board, I q.waste, I q.tool, I q.setup, I q.run, I q.work, I q.pallet, I q.freight, I q.margin, x]]), some (.row 1 [[I money]]), some (.row 1 [[I 0]]), y3, y4, y5, y6, y7, y8, y9, some (.row 2 [[I lo, I hi]])]⟩ fun e σ => (e = .normal ∧ (hi < lo ∨ money < priceI q lo) ∧ ∃ G, σ = ⟨[.any, .any, .ref 0 0 0, .ref 1 0 0, .ref 2 0 0, .any, .any, .any, .any, .any, .any, .any, .any, .any, .any, .any, .any, .any, .any, .any, .any, .any, .any, .any, .any, .any, .any, .any, .any, .any, .any, .any, .any, .any, .any, .any, .any, .any, .any, .any, .any, .any, .any, .any, .any, .any, .any], [some (.row 11 [[I q.area, I q.board, I q.waste, I q.tool, I q.setup, I q.run, I q.work, I q.pallet, I q.freight, I q.margin, x]]), some (.row 1 [[I money]]), some (.row 1 [[I 0]]), y3, y4, y5, y6, y7, y8, y9, some (.row 2 [[I lo, I hi]])] ++ G⟩) ∨
      (e = .ret ∧ ∃ r, lo ≤ r ∧ r ≤ hi ∧ priceI q r ≤ money ∧ (∀ m, r < m → m ≤ hi → money < priceI q m) ∧ ∃ t G, σ = ⟨t, [some (.row 11 [[I q.area, I q.board, I q.waste, I q.tool, I q.setup, I q.run, I q.work, I q.pallet, I q.freight, I q.margin, x]]), some (.row 1 [[I money]]), some (.row 1 [[I r]]), y3, y4, y5, y6, y7, y8, y9] ++ G⟩) := by
  have fx := fun H d => rowsV_frz hx H d
  have rx := fun n d => rowsV_rb hx n d
  have hd := dQ_vQ hx hl
  obtain ⟨cx1, cx2⟩ := rowsV_cells hx
  simp only [vQ] at hd
  unfold bd60
  refine runs_kil ?_
  refine runs_block ?_
  refine runs_seq ?_
  refine runs_seq ?_
  by_cases hc : hi < lo
  · refine runs_drw (by simp (maxSteps := 3000000) [lop, loud, callA, calleeA, callF_step h59, h59, oPrice, hg, fx, rx, hd, cx1, cx2, hc]; rfl) ?_
    simp only [AEx.thn, AEx.blk]
    refine runs_cond (x := true) (by simp) ?_
    refine runs_exit ?_
    simp only [AEx.thn, AEx.blk, if_true, if_false, reduceIte, Nat.reduceEqDiff, Nat.succ_ne_zero, Nat.one_ne_zero, Nat.zero_ne_one]
    exact .inl ⟨trivial, .inl hc, List.replicate 13 none, by simp [kill]⟩
  · have hlo2 : lo ≤ 100000 := hlh (by omega)
    have hle : lo ≤ hi := by omega
    by_cases hp : money < priceI q lo
    · refine runs_drw (by simp (maxSteps := 3000000) [lop, loud, callA, calleeA, callF_step h59, h59, oPrice, hg, fx, rx, hd, cx1, cx2, hlo, hlo2, hc, hp]; rfl) ?_
      simp only [AEx.thn, AEx.blk]
      refine runs_cond (x := true) (by simp) ?_
      refine runs_exit ?_
      simp only [AEx.thn, AEx.blk, if_true, if_false, reduceIte, Nat.reduceEqDiff, Nat.succ_ne_zero, Nat.one_ne_zero, Nat.zero_ne_one]
      exact .inl ⟨trivial, .inr hp, List.replicate 13 none, by simp [kill]⟩
    · refine runs_drw (by simp (maxSteps := 3000000) [lop, loud, callA, calleeA, callF_step h59, h59, oPrice, hg, fx, rx, hd, cx1, cx2, hlo, hlo2, hc, hp]; rfl) ?_
      simp only [AEx.thn, AEx.blk]
      refine runs_cond (x := false) (by simp) ?_
      refine runs_skip ?_
      simp only [AEx.thn, AEx.blk]
      refine runs_seq ?_
      refine runs_block ?_
      have ry3 := hy3 24 (by decide)
      have ry4 := hy4 24 (by decide)
      have ry5 := hy5 24 (by decide)
      have ry6 := hy6 24 (by decide)
      have ry7 := hy7 24 (by decide)
      have ry8 := hy8 24 (by decide)
      have ry9 := hy9 24 (by decide)
      refine runs_loop_inv (fun m σ => ∃ (a b : Int), (b - a).toNat = m ∧ lo ≤ a ∧ a ≤ b ∧ b ≤ hi ∧ priceI q a ≤ money ∧ (∀ m, b < m → m ≤ hi → money < priceI q m) ∧ σ = ⟨[.any, .any, .ref 0 0 0, .ref 1 0 0, .ref 2 0 0, .ref 10 0 0, .any, .any, .any, .any, .any, .any, .any, .any, .any, .any, .any, .any, .any, .any, .any, .any, .any, .any, .any, .any, .any, .any, .any, .any, .any, .any, .any, .any, .any, .any, .any, .any, .any, .any, .any, .any, .any, .any, .any, .any, .any], [some (.row 11 [[I q.area, I q.board, I q.waste, I q.tool, I q.setup, I q.run, I q.work, I q.pallet, I q.freight, I q.margin, x]]), some (.row 1 [[I money]]), some (.row 1 [[I 0]]), y3, y4, y5, y6, y7, y8, y9, some (.row 2 [[I a, I b]]), none, none, none, none, none, none, none, none, none, none, none, none, none]⟩) ?_ (hi - lo).toNat _ ⟨lo, hi, rfl, by omega, hle, by omega, by omega, fun m a b => by omega, by simp⟩
      rintro m σ ⟨a, b, rfl, h1, h2, h3, h4, h5, rfl⟩
      refine runs_seq ?_
      refine runs_seq ?_
      refine runs_reg (ops_run (by simp [lop, loud, callA, calleeA, callF_step h59, h59, oPrice, hg, fx, rx, hd, cx1, cx2, hlo, hlo2, hc, hp, ry3, ry4, ry5, ry6, ry7, ry8, ry9]; rfl) ?_)
      simp only [AEx.thn, AEx.blk]
      refine runs_cond_split (x := decide (a < b)) (by simp) (fun hlt => ?_) (fun hlt => ?_)
      · have hlt := of_decide_eq_true hlt
        have wa : W .i64 (a + b) = a + b := W_small (by omega)
        have wb : W .i64 (a + b + 1) = a + b + 1 := W_small (by omega)
        have hdv : (a + b + 1).tdiv 2 = (a + b + 1) / 2 := tdiv_pos (by omega)
        have hmid : a < (a + b + 1) / 2 ∧ (a + b + 1) / 2 ≤ b := by omega
        have wc : W .i64 ((a + b + 1) / 2) = (a + b + 1) / 2 := W_small (by omega)
        refine runs_skip ?_
        simp only [AEx.thn, AEx.blk]
        refine runs_block ?_
        refine runs_seq ?_
        refine runs_reg (ops_run (by simp [lop, loud, callA, calleeA, callF_step h59, h59, oPrice, hg, fx, rx, hd, cx1, cx2, hlo, hlo2, hc, hp, ry3, ry4, ry5, ry6, ry7, ry8, ry9, wa, wb, hdv, wc]; rfl) ?_)
        simp only [AEx.thn, AEx.blk]
        generalize hM : (a + b + 1) / 2 = M at *
        have wd : W .i64 (M - 1) = M - 1 := W_small (by omega)
        have hM1 : 1 ≤ M := by omega
        have hM2 : M ≤ 100000 := by omega
        refine runs_seq ?_
        refine runs_drw (by simp (maxSteps := 3000000) [lop, loud, callA, calleeA, callF_step h59, h59, oPrice, hg, fx, rx, hd, cx1, cx2, hlo, hlo2, hc, hp, ry3, ry4, ry5, ry6, ry7, ry8, ry9, wd, hM1, hM2]; rfl) ?_
        simp only [AEx.thn, AEx.blk]
        refine runs_cond_split (x := decide (money < priceI q M)) (by simp) (fun hc => ?_) (fun hc => ?_)
        · have hc := of_decide_eq_true hc
          refine runs_reg (ops_run (by simp [lop, loud, callA, calleeA, callF_step h59, h59, oPrice, hg, fx, rx, hd, cx1, cx2, hlo, hlo2, hc, hp, ry3, ry4, ry5, ry6, ry7, ry8, ry9, wd, hM1, hM2]; rfl) ?_)
          simp only [AEx.thn, AEx.blk]
          refine ⟨(M - 1 - a).toNat, by omega, a, M - 1, rfl, by omega, by omega, by omega, h4, fun m m1 m2 => ?_, by simp [trim, rbB_row, rbB_none, lop, loud, callA, calleeA, callF_step h59, h59, oPrice, hg, fx, rx, hd, cx1, cx2, hlo, hlo2, hc, hp, ry3, ry4, ry5, ry6, ry7, ry8, ry9, wd, hM1, hM2]⟩
          by_cases hmb : b < m
          · exact h5 m hmb m2
          · have := hm M m (by omega) (by omega) (by omega); omega
        · have hc := of_decide_eq_false hc
          refine runs_reg (ops_run (by simp [lop, loud, callA, calleeA, callF_step h59, h59, oPrice, hg, fx, rx, hd, cx1, cx2, hlo, hlo2, hc, hp, ry3, ry4, ry5, ry6, ry7, ry8, ry9, wd, hM1, hM2]; rfl) ?_)
          simp only [AEx.thn, AEx.blk]
          exact ⟨(b - M).toNat, by omega, M, b, rfl, by omega, by omega, by omega, by omega, h5, by simp [trim, rbB_row, rbB_none, lop, loud, callA, calleeA, callF_step h59, h59, oPrice, hg, fx, rx, hd, cx1, cx2, hlo, hlo2, hc, hp, ry3, ry4, ry5, ry6, ry7, ry8, ry9, wd, hM1, hM2]⟩
      · have hlt := of_decide_eq_false hlt
        obtain rfl : a = b := by omega
        refine runs_exit ?_
        simp only [AEx.thn, AEx.blk, if_true, if_false, reduceIte, Nat.reduceEqDiff, Nat.succ_ne_zero, Nat.one_ne_zero, Nat.zero_ne_one]
        refine runs_seq ?_
        refine runs_reg (ops_run (by simp [lop, loud, callA, calleeA, callF_step h59, h59, oPrice, hg, fx, rx, hd, cx1, cx2, hlo, hlo2, hc, hp, ry3, ry4, ry5, ry6, ry7, ry8, ry9]; rfl) ?_)
        simp only [AEx.thn, AEx.blk]
        refine runs_ret ?_
        simp only [AEx.thn, AEx.blk, if_true, if_false, reduceIte, Nat.reduceEqDiff, Nat.succ_ne_zero, Nat.one_ne_zero, Nat.zero_ne_one]
        exact .inr ⟨trivial, a, h1, h3, h4, h5, _, _, rfl⟩
end
end Go.Proofs.Ytfnnonoffiljhaa.Tab

namespace Go.Proofs.Ytfnnonoffiljhaa.Tab
open Go Go.Abs Go.Proofs
set_option maxRecDepth 100000
set_option maxHeartbeats 4000000
set_option linter.unusedSimpArgs false
set_option linter.unusedVariables false
section
attribute [local simp] frz_int frz_bool frz_vl frz_pv frz_agg frz_tup frz_fn frz_ref frz_sl frz_nils optAll orcF rb_int rb_bool rb_agg rb_tup rb_int' rb_bool' rb_vl rb_pv rb_yld rb_nilf rb_nilp rb_nils rb_any rb_und rb_ref rb_sl rb_fn slE chunk fillA evParts evParts3 putAt List.range_succ List.range_zero List.range'_succ List.range'_zero runX_nil' unary_not evalS_pure evAll_nil evAll_cons runX_cons stepX wantedA dop CV.ev putK_eq setK_eq appK_eq fA_eq fI_eq fN_eq fRow_eq fRows_eq nth_eq Out.v putT List.replicate_succ AEx.thn AEx.blk arI pointee Abs.rowAt ldRow allV toV toC ofV ofC Builtin.min_ Builtin.min2 Builtin.max_ Builtin.max2 min_if max_if resA tupA kill trim_self trim_len trim_emp trim_nil lenA
attribute [local simp] runD_nil' runD_cons' stepD actK_eq actD clash disj masks holes maskH unmaskH diffs news eqB allB eqA ldRowN wrote toCs ofCs stA rowsV_vl rowsV_nils rowsOf dI1 dI2 dI3 dI5 elt
attribute [local simp] st_any st_und st_agg st_tup st_bool st_int st_nilp st_ref st_pv st_nils st_sl st_vl st_nilm st_mp st_fn st_nilf st_yld co_any co_und co_agg co_tup co_bool co_int co_nilp co_ref co_pv co_nils co_sl co_vl co_nilm co_mp co_fn co_nilf co_yld
theorem y60_5 (P : Program) (T : Nat → Option CFn) (h59 : T 59 = some { c59 with frsh := true, orc := oPrice }) (q : PQ) (x : AVal) (hx : rowsV x = some (q.steps.map rP)) (hl : q.steps.length ≤ 1000) (hg : checkQ q = 0) (money lo hi : Int) (hlo : 1 ≤ lo) (hhi : hi ≤ 100000) (hlh : lo ≤ hi → lo ≤ 100000) (hm : ∀ a b, lo ≤ a → a ≤ b → b ≤ hi → priceI q a ≤ priceI q b)
    (y4 y5 y6 y7 y8 : Option Blk) (hy4 : ∀ n, 9 ≤ n → rbB n y4 = true) (hy5 : ∀ n, 9 ≤ n → rbB n y5 = true) (hy6 : ∀ n, 9 ≤ n → rbB n y6 = true) (hy7 : ∀ n, 9 ≤ n → rbB n y7 = true) (hy8 : ∀ n, 9 ≤ n → rbB n y8 = true) (v0 v1 v5 v6 v7 v8 v9 v10 v11 v12 v13 v14 v15 v16 v17 v18 v19 v20 v21 v22 v23 v24 v25 v26 v27 v28 v29 v30 v31 v32 v33 v34 v35 v36 v37 v38 v39 v40 v41 v42 v43 v44 v45 v46 : AVal) (hv : ∀ n, 4 ≤ n → ([v0, v1, .ref 0 0 0, .ref 1 0 0, .ref 2 0 0, v5, v6, v7, v8, v9, v10, v11, v12, v13, v14, v15, v16, v17, v18, v19, v20, v21, v22, v23, v24, v25, v26, v27, v28, v29, v30, v31, v32, v33, v34, v35, v36, v37, v38, v39, v40, v41, v42, v43, v44, v45, v46]).all (rb n 5) = true) :
    Ylds P T 3 [.agg [I lo, I hi]] [some (.row 11 [[I q.area, I q.board, I q.waste, I q.tool, I q.setup, I q.run, I q.work, I q.pallet, I q.freight, I q.margin, x]]), some (.row 1 [[I money]]), some (.row 1 [[I 0]]), some (.loop [v0, v1, .ref 0 0 0, .ref 1 0 0, .ref 2 0 0, v5, v6, v7, v8, v9, v10, v11, v12, v13, v14, v15, v16, v17, v18, v19, v20, v21, v22, v23, v24, v25, v26, v27, v28, v29, v30, v31, v32, v33, v34, v35, v36, v37, v38, v39, v40, v41, v42, v43, v44, v45, v46] [9] asg60 bd60 .ready none), y4, y5, y6, y7, y8] fun v h' => (v = .bool true ∧ (hi < lo ∨ money < priceI q lo) ∧ h' = [some (.row 11 [[I q.area, I q.board, I q.waste, I q.tool, I q.setup, I q.run, I q.work, I q.pallet, I q.freight, I q.margin, x]]), some (.row 1 [[I money]]), some (.row 1 [[I 0]]), some (.loop [v0, v1, .ref 0 0 0, .ref 1 0 0, .ref 2 0 0, v5, v6, v7, v8, v9, v10, v11, v12, v13, v14, v15, v16, v17, v18, v19, v20, v21, v22, v23, v24, v25, v26, v27, v28, v29, v30, v31, v32, v33, v34, v35, v36, v37, v38, v39, v40, v41, v42, v43, v44, v45, v46] [9] asg60 bd60 .ready none), y4, y5, y6, y7, y8]) ∨
      (v = .bool false ∧ ∃ r, lo ≤ r ∧ r ≤ hi ∧ priceI q r ≤ money ∧ (∀ m, r < m → m ≤ hi → money < priceI q m) ∧ ∃ t G, h' = [some (.row 11 [[I q.area, I q.board, I q.waste, I q.tool, I q.setup, I q.run, I q.work, I q.pallet, I q.freight, I q.margin, x]]), some (.row 1 [[I money]]), some (.row 1 [[I r]]), some (.loop t [9] asg60 bd60 .done (some .ret)), y4, y5, y6, y7, y8] ++ G) := by
  have rx := fun n d => rowsV_rb hx n d
  refine ylds_of rfl rfl ?_
  show Runs P T (some 3) asg60 ⟨[v0, v1, .ref 0 0 0, .ref 1 0 0, .ref 2 0 0, v5, v6, v7, v8, .agg [I lo, I hi], v10, v11, v12, v13, v14, v15, v16, v17, v18, v19, v20, v21, v22, v23, v24, v25, v26, v27, v28, v29, v30, v31, v32, v33, v34, v35, v36, v37, v38, v39, v40, v41, v42, v43, v44, v45, v46], [some (.row 11 [[I q.area, I q.board, I q.waste, I q.tool, I q.setup, I q.run, I q.work, I q.pallet, I q.freight, I q.margin, x]]), some (.row 1 [[I money]]), some (.row 1 [[I 0]]), some (.loop [v0, v1, .ref 0 0 0, .ref 1 0 0, .ref 2 0 0, v5, v6, v7, v8, v9, v10, v11, v12, v13, v14, v15, v16, v17, v18, v19, v20, v21, v22, v23, v24, v25, v26, v27, v28, v29, v30, v31, v32, v33, v34, v35, v36, v37, v38, v39, v40, v41, v42, v43, v44, v45, v46] [9] asg60 bd60 .ready none), y4, y5, y6, y7, y8]⟩ _
  refine runs_reg (ops_run (by simp [lop, loud]; rfl) ?_)
  refine ⟨rfl, _, _, _, _, _, rfl, ?_⟩
  have hr3 : ∀ n, 9 ≤ n → rbB n (some (.loop [v0, v1, .ref 0 0 0, .ref 1 0 0, .ref 2 0 0, v5, v6, v7, v8, v9, v10, v11, v12, v13, v14, v15, v16, v17, v18, v19, v20, v21, v22, v23, v24, v25, v26, v27, v28, v29, v30, v31, v32, v33, v34, v35, v36, v37, v38, v39, v40, v41, v42, v43, v44, v45, v46] [9] asg60 bd60 .busy none)) = true := fun n hn => hv n (by omega)
  refine (b60_5 P T h59 q x hx hl hg money lo hi hlo hhi hlh hm (some (.loop [v0, v1, .ref 0 0 0, .ref 1 0 0, .ref 2 0 0, v5, v6, v7, v8, v9, v10, v11, v12, v13, v14, v15, v16, v17, v18, v19, v20, v21, v22, v23, v24, v25, v26, v27, v28, v29, v30, v31, v32, v33, v34, v35, v36, v37, v38, v39, v40, v41, v42, v43, v44, v45, v46] [9] asg60 bd60 .busy none)) y4 y5 y6 y7 y8 hr3 (fun n hn => hy4 n hn) (fun n hn => hy5 n hn) (fun n hn => hy6 n hn) (fun n hn => hy7 n hn) (fun n hn => hy8 n hn) v0 v1 v6 v7 v8 (.agg [I lo, I hi]) v10 v11 v12 v13 v14 v15 v16 v17 v18 v19 v20 v21 v22 v23 v24 v25 v26 v27 v28 v29 v30 v31 v32 v33 v34 v35 v36 v37 v38 v39 v40 v41 v42 v43 v44 v45 v46).mono ?_
  rintro e σ (⟨rfl, h1, G, rfl⟩ | ⟨rfl, r, g1, g2, g3, g4, t, G, rfl⟩)
  · have ry4 := hy4 9 (by decide)
    have ry5 := hy5 9 (by decide)
    have ry6 := hy6 9 (by decide)
    have ry7 := hy7 9 (by decide)
    have ry8 := hy8 9 (by decide)
    refine ⟨_, _, _, _, _, _, rfl, .inl ⟨rfl, h1, ?_⟩⟩
    have hvk := hv 9 (by decide)
    simp [trim, rbB_row, rbB_none, rbB_loop, rx, hvk, -List.all_cons, ry4, ry5, ry6, ry7, ry8]
  · exact ⟨_, _, _, _, _, _, rfl, .inr ⟨rfl, r, g1, g2, g3, g4, _, G, rfl⟩⟩
theorem y60_6 (P : Program) (T : Nat → Option CFn) (h59 : T 59 = some { c59 with frsh := true, orc := oPrice }) (q : PQ) (x : AVal) (hx : rowsV x = some (q.steps.map rP)) (hl : q.steps.length ≤ 1000) (hg : checkQ q = 0) (money lo hi : Int) (hlo : 1 ≤ lo) (hhi : hi ≤ 100000) (hlh : lo ≤ hi → lo ≤ 100000) (hm : ∀ a b, lo ≤ a → a ≤ b → b ≤ hi → priceI q a ≤ priceI q b)
    (y4 y5 y6 y7 y8 y9 : Option Blk) (hy4 : ∀ n, 10 ≤ n → rbB n y4 = true) (hy5 : ∀ n, 10 ≤ n → rbB n y5 = true) (hy6 : ∀ n, 10 ≤ n → rbB n y6 = true) (hy7 : ∀ n, 10 ≤ n → rbB n y7 = true) (hy8 : ∀ n, 10 ≤ n → rbB n y8 = true) (hy9 : ∀ n, 10 ≤ n → rbB n y9 = true) (v0 v1 v5 v6 v7 v8 v9 v10 v11 v12 v13 v14 v15 v16 v17 v18 v19 v20 v21 v22 v23 v24 v25 v26 v27 v28 v29 v30 v31 v32 v33 v34 v35 v36 v37 v38 v39 v40 v41 v42 v43 v44 v45 v46 : AVal) (hv : ∀ n, 4 ≤ n → ([v0, v1, .ref 0 0 0, .ref 1 0 0, .ref 2 0 0, v5, v6, v7, v8, v9, v10, v11, v12, v13, v14, v15, v16, v17, v18, v19, v20, v21, v22, v23, v24, v25, v26, v27, v28, v29, v30, v31, v32, v33, v34, v35, v36, v37, v38, v39, v40, v41, v42, v43, v44, v45, v46]).all (rb n 5) = true) :
    Ylds P T 3 [.agg [I lo, I hi]] [some (.row 11 [[I q.area, I q.board, I q.waste, I q.tool, I q.setup, I q.run, I q.work, I q.pallet, I q.freight, I q.margin, x]]), some (.row 1 [[I money]]), some (.row 1 [[I 0]]), some (.loop [v0, v1, .ref 0 0 0, .ref 1 0 0, .ref 2 0 0, v5, v6, v7, v8, v9, v10, v11, v12, v13, v14, v15, v16, v17, v18, v19, v20, v21, v22, v23, v24, v25, v26, v27, v28, v29, v30, v31, v32, v33, v34, v35, v36, v37, v38, v39, v40, v41, v42, v43, v44, v45, v46] [9] asg60 bd60 .ready none), y4, y5, y6, y7, y8, y9] fun v h' => (v = .bool true ∧ (hi < lo ∨ money < priceI q lo) ∧ h' = [some (.row 11 [[I q.area, I q.board, I q.waste, I q.tool, I q.setup, I q.run, I q.work, I q.pallet, I q.freight, I q.margin, x]]), some (.row 1 [[I money]]), some (.row 1 [[I 0]]), some (.loop [v0, v1, .ref 0 0 0, .ref 1 0 0, .ref 2 0 0, v5, v6, v7, v8, v9, v10, v11, v12, v13, v14, v15, v16, v17, v18, v19, v20, v21, v22, v23, v24, v25, v26, v27, v28, v29, v30, v31, v32, v33, v34, v35, v36, v37, v38, v39, v40, v41, v42, v43, v44, v45, v46] [9] asg60 bd60 .ready none), y4, y5, y6, y7, y8, y9]) ∨
      (v = .bool false ∧ ∃ r, lo ≤ r ∧ r ≤ hi ∧ priceI q r ≤ money ∧ (∀ m, r < m → m ≤ hi → money < priceI q m) ∧ ∃ t G, h' = [some (.row 11 [[I q.area, I q.board, I q.waste, I q.tool, I q.setup, I q.run, I q.work, I q.pallet, I q.freight, I q.margin, x]]), some (.row 1 [[I money]]), some (.row 1 [[I r]]), some (.loop t [9] asg60 bd60 .done (some .ret)), y4, y5, y6, y7, y8, y9] ++ G) := by
  have rx := fun n d => rowsV_rb hx n d
  refine ylds_of rfl rfl ?_
  show Runs P T (some 3) asg60 ⟨[v0, v1, .ref 0 0 0, .ref 1 0 0, .ref 2 0 0, v5, v6, v7, v8, .agg [I lo, I hi], v10, v11, v12, v13, v14, v15, v16, v17, v18, v19, v20, v21, v22, v23, v24, v25, v26, v27, v28, v29, v30, v31, v32, v33, v34, v35, v36, v37, v38, v39, v40, v41, v42, v43, v44, v45, v46], [some (.row 11 [[I q.area, I q.board, I q.waste, I q.tool, I q.setup, I q.run, I q.work, I q.pallet, I q.freight, I q.margin, x]]), some (.row 1 [[I money]]), some (.row 1 [[I 0]]), some (.loop [v0, v1, .ref 0 0 0, .ref 1 0 0, .ref 2 0 0, v5, v6, v7, v8, v9, v10, v11, v12, v13, v14, v15, v16, v17, v18, v19, v20, v21, v22, v23, v24, v25, v26, v27, v28, v29, v30, v31, v32, v33, v34, v35, v36, v37, v38, v39, v40, v41, v42, v43, v44, v45, v46] [9] asg60 bd60 .ready none), y4, y5, y6, y7, y8, y9]⟩ _
  refine runs_reg (ops_run (by simp [lop, loud]; rfl) ?_)
  refine ⟨rfl, _, _, _, _, _, rfl, ?_⟩
  have hr3 : ∀ n, 10 ≤ n → rbB n (some (.loop [v0, v1, .ref 0 0 0, .ref 1 0 0, .ref 2 0 0, v5, v6, v7, v8, v9, v10, v11, v12, v13, v14, v15, v16, v17, v18, v19, v20, v21, v22, v23, v24, v25, v26, v27, v28, v29, v30, v31, v32, v33, v34, v35, v36, v37, v38, v39, v40, v41, v42, v43, v44, v45, v46] [9] asg60 bd60 .busy none)) = true := fun n hn => hv n (by omega)
  refine (b60_6 P T h59 q x hx hl hg money lo hi hlo hhi hlh hm (some (.loop [v0, v1, .ref 0 0 0, .ref 1 0 0, .ref 2 0 0, v5, v6, v7, v8, v9, v10, v11, v12, v13, v14, v15, v16, v17, v18, v19, v20, v21, v22, v23, v24, v25, v26, v27, v28, v29, v30, v31, v32, v33, v34, v35, v36, v37, v38, v39, v40, v41, v42, v43, v44, v45, v46] [9] asg60 bd60 .busy none)) y4 y5 y6 y7 y8 y9 hr3 (fun n hn => hy4 n hn) (fun n hn => hy5 n hn) (fun n hn => hy6 n hn) (fun n hn => hy7 n hn) (fun n hn => hy8 n hn) (fun n hn => hy9 n hn) v0 v1 v6 v7 v8 (.agg [I lo, I hi]) v10 v11 v12 v13 v14 v15 v16 v17 v18 v19 v20 v21 v22 v23 v24 v25 v26 v27 v28 v29 v30 v31 v32 v33 v34 v35 v36 v37 v38 v39 v40 v41 v42 v43 v44 v45 v46).mono ?_
  rintro e σ (⟨rfl, h1, G, rfl⟩ | ⟨rfl, r, g1, g2, g3, g4, t, G, rfl⟩)
  · have ry4 := hy4 10 (by decide)
    have ry5 := hy5 10 (by decide)
    have ry6 := hy6 10 (by decide)
    have ry7 := hy7 10 (by decide)
    have ry8 := hy8 10 (by decide)
    have ry9 := hy9 10 (by decide)
    refine ⟨_, _, _, _, _, _, rfl, .inl ⟨rfl, h1, ?_⟩⟩
    have hvk := hv 10 (by decide)
    simp [trim, rbB_row, rbB_none, rbB_loop, rx, hvk, -List.all_cons, ry4, ry5, ry6, ry7, ry8, ry9]
  · exact ⟨_, _, _, _, _, _, rfl, .inr ⟨rfl, r, g1, g2, g3, g4, _, G, rfl⟩⟩
theorem a105 (P : Program) (T : Nat → Option CFn) (hT : T 105 = some c105) (x : AVal) (hc : cellsOf x = some [x]) (a0 a1 a2 a3 a4 a5 a6 : Option Blk) : Answers P T 105 [x] [a0, a1, a2, a3, a4, a5, a6] fun v h => v = .fn 120 [] [.ref 7 0 0] ∧ h = [a0, a1, a2, a3, a4, a5, a6, some (.row 1 [[x]])] := by
  refine answers_of hT (orcF_none rfl) ?_
  simp only [c105]
  refine runs_seq ?_
  refine runs_reg (ops_run (by simp [hc, lop, loud, callA, calleeA]; rfl) ?_)
  simp only [AEx.thn, AEx.blk]
  refine runs_seq ?_
  refine runs_reg (ops_run (by simp [hc, lop, loud, callA, calleeA]; rfl) ?_)
  simp only [AEx.thn, AEx.blk]
  refine runs_ret ?_
  simp [hc, lop, loud, callA, calleeA, trim, rb_fn, rb_ref]
theorem list4 {α : Type} {l : List α} (h : l.length = 4) : ∃ a b c d, l = [a, b, c, d] := by
  match l, h with
  | [a, b, c, d], _ => exact ⟨a, b, c, d, rfl⟩
theorem list5 {α : Type} {l : List α} (h : l.length = 5) : ∃ a b c d e, l = [a, b, c, d, e] := by
  match l, h with
  | [a, b, c, d, e], _ => exact ⟨a, b, c, d, e, rfl⟩
theorem list6 {α : Type} {l : List α} (h : l.length = 6) : ∃ a b c d e f, l = [a, b, c, d, e, f] := by
  match l, h with
  | [a, b, c, d, e, f], _ => exact ⟨a, b, c, d, e, f, rfl⟩
theorem y92 (P : Program) (T : Nat → Option CFn) (q : PQ) (x : AVal) (hx : rowsV x = some (q.steps.map rP)) (J : List (Int × Int) → Heap → Prop) (S : Heap → Prop) (hJ : ∀ l h, J l h → h.length = 4 ∧ ∀ n, 4 ≤ n → h.all (rbB n) = true) (hS : ∀ h, S h → h.length = 4)
    (step : ∀ lo hi rest h G, J ((lo, hi) :: rest) h → (G.length = 5 ∨ G.length = 6) → (∀ b ∈ G, ∀ n, 4 + G.length ≤ n → rbB n b = true) → Ylds P T 3 [.agg [I lo, I hi]] (h ++ G) fun v h' => (v = .bool true ∧ ∃ h1, h' = h1 ++ G ∧ J rest h1) ∨ (v = .bool false ∧ ∃ h1 G2, h' = h1 ++ (G ++ G2) ∧ S h1)) (s1 s2 high : Int) (hs1 : 1 ≤ s1 ∧ s1 ≤ 100000) (rest : List (Int × Int)) (ix : Int)
    (c0 c1 c2 c3 : Option Blk) (hJ0 : J ((s1, high) :: rest) [c0, c1, c2, c3]) (v0 v1 v2 v5 v6 v7 v8 v9 v10 v11 v12 v13 v14 v15 v16 v17 v18 v19 v20 v21 v22 v23 v24 v25 v26 v27 v28 : AVal) (hw : ∀ n, 9 ≤ n → ([v0, v1, v2, .ref 5 0 0, .ref 6 0 0, v5, v6, v7, v8, v9, v10, v11, v12, v13, v14, v15, v16, v17, v18, v19, v20, v21, v22, v23, v24, v25, v26, v27, v28]).all (rb n 5) = true) :
    Ylds P T 8 [I ix, .agg [I s1, I s2]] [c0, c1, c2, c3, some (.row 11 [[I q.area, I q.board, I q.waste, I q.tool, I q.setup, I q.run, I q.work, I q.pallet, I q.freight, I q.margin, x]]), some (.row 1 [[.yld 3]]), some (.row 1 [[I high]]), some (.row 1 [[x]]), some (.loop [v0, v1, v2, .ref 5 0 0, .ref 6 0 0, v5, v6, v7, v8, v9, v10, v11, v12, v13, v14, v15, v16, v17, v18, v19, v20, v21, v22, v23, v24, v25, v26, v27, v28] [11, 12] asg92 bd92 .ready none)] fun v h' => (v = .bool true ∧ ∃ d0 d1 d2 d3, h' = [d0, d1, d2, d3, some (.row 11 [[I q.area, I q.board, I q.waste, I q.tool, I q.setup, I q.run, I q.work, I q.pallet, I q.freight, I q.margin, x]]), some (.row 1 [[.yld 3]]), some (.row 1 [[I (s1 - 1)]]), some (.row 1 [[x]]), some (.loop [v0, v1, v2, .ref 5 0 0, .ref 6 0 0, v5, v6, v7, v8, v9, v10, v11, v12, v13, v14, v15, v16, v17, v18, v19, v20, v21, v22, v23, v24, v25, v26, v27, v28] [11, 12] asg92 bd92 .ready none)] ∧ J rest [d0, d1, d2, d3]) ∨
      (v = .bool false ∧ ∃ d0 d1 d2 d3 b4 b5 b6 b7 t G, h' = [d0, d1, d2, d3, b4, b5, b6, b7, some (.loop t [11, 12] asg92 bd92 .done (some .ret))] ++ G ∧ S [d0, d1, d2, d3]) := by
  obtain ⟨cx1, cx2⟩ := rowsV_cells hx
  have rx := fun n d => rowsV_rb hx n d
  refine ylds_of rfl rfl ?_
  show Runs P T (some 8) asg92 ⟨[v0, v1, v2, .ref 5 0 0, .ref 6 0 0, v5, v6, v7, v8, v9, v10, I ix, .agg [I s1, I s2], v13, v14, v15, v16, v17, v18, v19, v20, v21, v22, v23, v24, v25, v26, v27, v28], [c0, c1, c2, c3, some (.row 11 [[I q.area, I q.board, I q.waste, I q.tool, I q.setup, I q.run, I q.work, I q.pallet, I q.freight, I q.margin, x]]), some (.row 1 [[.yld 3]]), some (.row 1 [[I high]]), some (.row 1 [[x]]), some (.loop [v0, v1, v2, .ref 5 0 0, .ref 6 0 0, v5, v6, v7, v8, v9, v10, v11, v12, v13, v14, v15, v16, v17, v18, v19, v20, v21, v22, v23, v24, v25, v26, v27, v28] [11, 12] asg92 bd92 .ready none)]⟩ _
  refine runs_reg (ops_run (by simp [lop, loud]; rfl) ?_)
  refine ⟨rfl, _, _, _, _, _, rfl, ?_⟩
  refine runs_kil ?_
  refine runs_block ?_
  refine runs_seq ?_
  refine runs_seq ?_
  refine runs_reg (ops_take 5 (by simp; rfl) ?_)
  simp only [List.drop_succ_cons, List.drop_zero]
  refine ops_ylds (i := 3) (args := [.agg [I s1, I high]]) (by simp) (by simp) (by simp [lop]) (by simp [calleeA]) ?_
  have hG : ∀ b ∈ [some (.row 11 [[I q.area, I q.board, I q.waste, I q.tool, I q.setup, I q.run, I q.work, I q.pallet, I q.freight, I q.margin, x]]), some (.row 1 [[.yld 3]]), some (.row 1 [[I high]]), some (.row 1 [[x]]), some (.loop [v0, v1, v2, .ref 5 0 0, .ref 6 0 0, v5, v6, v7, v8, v9, v10, v11, v12, v13, v14, v15, v16, v17, v18, v19, v20, v21, v22, v23, v24, v25, v26, v27, v28] [11, 12] asg92 bd92 .busy none), some (.row 2 [[I s1, I s2]])], ∀ n, 4 + 6 ≤ n → rbB n b = true := by
    intro b hb n hn
    simp only [List.mem_cons, List.not_mem_nil, or_false] at hb
    have e1 : decide (3 < n) = true := by simp; omega
    rcases hb with rfl | rfl | rfl | rfl | rfl | rfl
    · simp [rbB_row, rx]
    · simp [rbB_row]; omega
    · simp [rbB_row]
    · simp [rbB_row, rx]
    · exact hw n (by omega)
    · simp [rbB_row]
  refine (step s1 high rest [c0, c1, c2, c3] _ hJ0 (.inr rfl) hG).mono ?_
  rintro v h' (⟨rfl, h1, rfl, hj1⟩ | ⟨rfl, h1, G2, rfl, hs1⟩)
  · obtain ⟨hlen, hrb⟩ := hJ _ _ hj1
    obtain ⟨d0, d1, d2, d3, rfl⟩ := list4 hlen
    simp only [List.cons_append, List.nil_append]
    refine ops_run (by simp; rfl) ?_
    simp only [AEx.thn, AEx.blk]
    refine runs_cond (x := false) (by simp) ?_
    have hwi : W .i64 (s1 - 1) = s1 - 1 := W_fit (by omega)
    refine runs_skip ?_
    simp only [AEx.thn, AEx.blk]
    refine runs_reg (ops_run (by simp [lop, loud, callA, calleeA, rbB_row, rbB_none, rbB_loop, cx1, cx2, hwi]; rfl) ?_)
    simp only [AEx.thn, AEx.blk]
    have hr9 := hrb 9 (by decide)
    simp only [List.all_cons, List.all_nil, Bool.and_true, Bool.and_eq_true] at hr9
    obtain ⟨e0, e1, e2, e3⟩ := hr9
    refine ⟨_, _, _, _, _, _, rfl, .inl ⟨trivial, d0, d1, d2, d3, ?_, hj1⟩⟩
    have hwk := hw 9 (by decide)
    simp [trim, kill, rbB_row, rbB_none, rbB_loop, rx, e0, e1, e2, e3, hwk]
  · have hlen := hS _ hs1
    obtain ⟨d0, d1, d2, d3, rfl⟩ := list4 hlen
    simp only [List.cons_append, List.nil_append]
    refine ops_run (by simp; rfl) ?_
    simp only [AEx.thn, AEx.blk]
    refine runs_cond (x := true) (by simp) ?_
    refine runs_ret ?_
    simp only [AEx.thn, AEx.blk, if_true, if_false, reduceIte, Nat.reduceEqDiff, Nat.succ_ne_zero, Nat.one_ne_zero, Nat.zero_ne_one]
    exact ⟨_, _, _, _, _, _, rfl, .inr ⟨trivial, d0, d1, d2, d3, _, _, _, _, _, _, rfl, hs1⟩⟩
end
end Go.Proofs.Ytfnnonoffiljhaa.Tab

namespace Go.Proofs.Ytfnnonoffiljhaa.Tab
open Go Go.Abs Go.Proofs
set_option maxRecDepth 100000
set_option maxHeartbeats 4000000
set_option linter.unusedSimpArgs false
set_option linter.unusedVariables false
section
attribute [local simp] frz_int frz_bool frz_vl frz_pv frz_agg frz_tup frz_fn frz_ref frz_sl frz_nils optAll orcF rb_int rb_bool rb_agg rb_tup rb_int' rb_bool' rb_vl rb_pv rb_yld rb_nilf rb_nilp rb_nils rb_any rb_und rb_ref rb_sl rb_fn slE chunk fillA evParts evParts3 putAt List.range_succ List.range_zero List.range'_succ List.range'_zero runX_nil' unary_not evalS_pure evAll_nil evAll_cons runX_cons stepX wantedA dop CV.ev putK_eq setK_eq appK_eq fA_eq fI_eq fN_eq fRow_eq fRows_eq nth_eq Out.v putT List.replicate_succ AEx.thn AEx.blk arI pointee Abs.rowAt ldRow allV toV toC ofV ofC Builtin.min_ Builtin.min2 Builtin.max_ Builtin.max2 min_if max_if resA tupA kill trim_self trim_len trim_emp trim_nil lenA
attribute [local simp] runD_nil' runD_cons' stepD actK_eq actD clash disj masks holes maskH unmaskH diffs news eqB allB eqA ldRowN wrote toCs ofCs stA rowsV_vl rowsV_nils rowsOf dI1 dI2 dI3 dI5 elt
attribute [local simp] st_any st_und st_agg st_tup st_bool st_int st_nilp st_ref st_pv st_nils st_sl st_vl st_nilm st_mp st_fn st_nilf st_yld co_any co_und co_agg co_tup co_bool co_int co_nilp co_ref co_pv co_nils co_sl co_vl co_nilm co_mp co_fn co_nilf co_yld
theorem it92 (P : Program) (T : Nat → Option CFn) (hT : T 92 = some { c92 with body := annK [] [([11, 12], 24)] c92.body }) (h105 : T 105 = some c105) (h120 : T 120 = some c120) (q : PQ) (x : AVal) (hx : rowsV x = some (q.steps.map rP)) (hl : q.steps.length ≤ 1000) (hsts : ∀ s ∈ q.steps, 1 ≤ s.1 ∧ s.1 ≤ 100000)
    (J : List (Int × Int) → Heap → Prop) (S : Heap → Prop) (hJ : ∀ l h, J l h → h.length = 4 ∧ ∀ n, 4 ≤ n → h.all (rbB n) = true) (hS : ∀ h, S h → h.length = 4)
    (step : ∀ lo hi rest h G, J ((lo, hi) :: rest) h → (G.length = 5 ∨ G.length = 6) → (∀ b ∈ G, ∀ n, 4 + G.length ≤ n → rbB n b = true) → Ylds P T 3 [.agg [I lo, I hi]] (h ++ G) fun v h' => (v = .bool true ∧ ∃ h1, h' = h1 ++ G ∧ J rest h1) ∨ (v = .bool false ∧ ∃ h1 G2, h' = h1 ++ (G ++ G2) ∧ S h1)) :
    ∀ h, J (spansB q.steps.reverse 100000) h → Answers P T 92 [vQ q x, .yld 3] h fun _ h2 => J [] h2 ∨ ∃ h1 G, S h1 ∧ h2 = h1 ++ G := by
  intro h hh
  obtain ⟨hlen, hrb⟩ := hJ _ _ hh
  obtain ⟨a0, a1, a2, a3, rfl⟩ := list4 hlen
  obtain ⟨cx1, cx2⟩ := rowsV_cells hx
  have rx := fun n d => rowsV_rb hx n d
  simp only [vQ]
  refine answers_of hT (orcF_none rfl) ?_
  simp only [c92, annK, lkG, lkR, reduceIte, Nat.reduceEqDiff, reduceCtorEq, List.cons.injEq, and_true, and_false, false_and, true_and]
  refine runs_seq ?_
  refine runs_reg (ops_run (by simp [lop, loud, callA, calleeA, cx1, cx2]; rfl) ?_)
  simp only [AEx.thn, AEx.blk]
  refine runs_seq ?_
  refine runs_reg (ops_run (by simp [lop, loud, callA, calleeA, cx1, cx2]; rfl) ?_)
  simp only [AEx.thn, AEx.blk]
  refine runs_seq ?_
  refine runs_seq ?_
  refine runs_reg (ops_take 3 (by simp; rfl) ?_)
  simp only [List.drop_succ_cons, List.drop_zero]
  refine ops_call (f := 105) (args := [x]) (by simp) (by simp) (by simp [lop]) (by simp [calleeA]) ?_
  refine (a105 P T h105 x cx1 _ _ _ _ _ _ _).mono ?_
  rintro v h' ⟨rfl, rfl⟩
  refine ops_run (by simp; rfl) ?_
  simp only [AEx.thn, AEx.blk]
  refine runs_block ?_
  refine runs_rf (f := 120) (a := []) (b := [.ref 7 0 0]) (by simp [inLoop]) (by simp) ?_
  have hT9 : ∀ n, 9 ≤ n → ([.agg [I q.area, I q.board, I q.waste, I q.tool, I q.setup, I q.run, I q.work, I q.pallet, I q.freight, I q.margin, x], .yld 3, .ref 4 0 0, .ref 5 0 0, .ref 6 0 0, .und, .und, .ref 4 0 0, .ref 4 0 10, x, .fn 120 [] [.ref 7 0 0], .und, .und, .und, .und, .und, .und, .und, .und, .und, .und, .und, .und, .und, .und, .und, .und, .und, .und] : List AVal).all (rb n 5) = true := by
    intro n hn
    simp [rb_agg, rb_yld, rb_ref, rb_fn, rx]; omega
  refine (it120 P T h120 x q.steps hx hl (fun k g => ∃ c0 c1 c2 c3 high, g = [c0, c1, c2, c3, some (.row 11 [[I q.area, I q.board, I q.waste, I q.tool, I q.setup, I q.run, I q.work, I q.pallet, I q.freight, I q.margin, x]]), some (.row 1 [[.yld 3]]), some (.row 1 [[I high]]), some (.row 1 [[x]]), some (.loop [.agg [I q.area, I q.board, I q.waste, I q.tool, I q.setup, I q.run, I q.work, I q.pallet, I q.freight, I q.margin, x], .yld 3, .ref 4 0 0, .ref 5 0 0, .ref 6 0 0, .und, .und, .ref 4 0 0, .ref 4 0 10, x, .fn 120 [] [.ref 7 0 0], .und, .und, .und, .und, .und, .und, .und, .und, .und, .und, .und, .und, .und, .und, .und, .und, .und, .und] [11, 12] asg92 bd92 .ready none)] ∧ J (spansB (q.steps.take k).reverse high) [c0, c1, c2, c3]) (fun h' => ∃ d0 d1 d2 d3 b4 b5 b6 b7 t G, h' = [d0, d1, d2, d3, b4, b5, b6, b7, some (.loop t [11, 12] asg92 bd92 .done (some .ret))] ++ G ∧ S [d0, d1, d2, d3]) ?_ ?_ _ ?_).mono ?_
  · rintro k g ⟨c0, c1, c2, c3, high, rfl, _⟩
    exact ⟨rfl, rfl⟩
  · rintro j g hj ⟨c0, c1, c2, c3, high, rfl, hjj⟩
    have e : (q.steps.take (j + 1)).reverse = q.steps[j] :: (q.steps.take j).reverse := by
      rw [List.take_succ_eq_append_getElem hj, List.reverse_append]; rfl
    rw [e] at hjj
    simp only [spansB] at hjj
    have hst := hsts _ (List.getElem_mem hj)
    refine (y92 P T q x hx J S hJ hS step q.steps[j].1 q.steps[j].2 high hst _ (j : Int) c0 c1 c2 c3 hjj (.agg [I q.area, I q.board, I q.waste, I q.tool, I q.setup, I q.run, I q.work, I q.pallet, I q.freight, I q.margin, x]) (.yld 3) (.ref 4 0 0) .und .und (.ref 4 0 0) (.ref 4 0 10) x (.fn 120 [] [.ref 7 0 0]) .und .und .und .und .und .und .und .und .und .und .und .und .und .und .und .und .und .und hT9).mono ?_
    rintro v h' (⟨rfl, d0, d1, d2, d3, rfl, hj2⟩ | ⟨rfl, d0, d1, d2, d3, b4, b5, b6, b7, t, G, rfl, hs2⟩)
    · exact .inl ⟨rfl, d0, d1, d2, d3, _, rfl, hj2⟩
    · exact .inr ⟨rfl, d0, d1, d2, d3, b4, b5, b6, b7, t, G, rfl, hs2⟩
  · refine ⟨a0, a1, a2, a3, 100000, rfl, ?_⟩
    rw [List.take_length]; exact hh
  rintro v h2 (⟨c0, c1, c2, c3, high, rfl, hj2⟩ | ⟨h', ⟨d0, d1, d2, d3, b4, b5, b6, b7, t, G, rfl, hs2⟩, h2e⟩)
  · refine ⟨_, _, _, _, _, _, rfl, by simp, ?_⟩
    simp only [List.take_zero, List.reverse_nil] at hj2
    obtain ⟨hlen2, hrb2⟩ := hJ _ _ hj2
    simp only [AEx.thn, AEx.blk, if_true, if_false, reduceIte, Nat.reduceEqDiff, Nat.succ_ne_zero, Nat.one_ne_zero, Nat.zero_ne_one]
    refine runs_seq ?_
    refine runs_reg (ops_run (by simp; rfl) ?_)
    simp only [AEx.thn, AEx.blk]
    refine runs_cond_split (x := decide (0 < high)) (by simp) (fun hp => ?_) (fun hp => ?_)
    · have hp := of_decide_eq_true hp
      have e : spansB [] high = [(1, high)] := by simp [spansB, hp]
      rw [e] at hj2
      refine runs_reg (ops_take 3 (by simp; rfl) ?_)
      simp only [List.drop_succ_cons, List.drop_zero]
      refine ops_ylds (i := 3) (args := [.agg [I 1, I high]]) (by simp) (by simp) (by simp [lop]) (by simp [calleeA]) ?_
      refine (step 1 high [] [c0, c1, c2, c3] [some (.row 11 [[I q.area, I q.board, I q.waste, I q.tool, I q.setup, I q.run, I q.work, I q.pallet, I q.freight, I q.margin, x]]), some (.row 1 [[.yld 3]]), some (.row 1 [[I high]]), some (.row 1 [[x]]), none] hj2 (.inl rfl) ?_).mono ?_
      · intro b hb n hn
        simp only [List.mem_cons, List.not_mem_nil, or_false] at hb
        rcases hb with rfl | rfl | rfl | rfl | rfl
        · simp [rbB_row, rx]
        · simp [rbB_row] at hn ⊢; omega
        · simp [rbB_row]
        · simp [rbB_row, rx]
        · rfl
      rintro v h' (⟨rfl, h1, rfl, hj3⟩ | ⟨rfl, h1, G2, rfl, hs3⟩)
      · refine ops_nil ?_
        obtain ⟨hl3, hr3⟩ := hJ _ _ hj3
        refine ⟨by simp, [], by simp [resA], .inl ?_⟩
        show J [] (trim 4 [.tup []] _)
        rw [trim_app2 hl3 (by simp) (hr3 4 (by decide))]
        exact hj3
      · refine ops_nil ?_
        refine ⟨by simp, [], by simp [resA], .inr ?_⟩
        show ∃ h1' G', S h1' ∧ trim 4 [.tup []] _ = h1' ++ G'
        rcases trim_cases 4 [.tup []] (h1 ++ ([some (.row 11 [[I q.area, I q.board, I q.waste, I q.tool, I q.setup, I q.run, I q.work, I q.pallet, I q.freight, I q.margin, x]]), some (.row 1 [[.yld 3]]), some (.row 1 [[I high]]), some (.row 1 [[x]]), none] ++ G2)) with e | e
        · exact ⟨h1, _, hs3, e⟩
        · exact ⟨h1, [], hs3, by rw [e, List.take_left' (hS _ hs3)]; simp⟩
    · have hp := of_decide_eq_false hp
      have e : spansB [] high = [] := by simp [spansB, hp]
      rw [e] at hj2
      refine runs_skip ?_
      simp only [AEx.thn, AEx.blk]
      refine ⟨by simp, [], by simp [resA], .inl ?_⟩
      show J [] (trim 4 [.tup []] ([c0, c1, c2, c3] ++ _))
      rw [trim_app2 hlen2 (by simp) (hrb2 4 (by decide))]
      exact hj2
  · refine ⟨t, [11, 12], asg92, bd92, .done, some .ret, ?_, by simp, ?_⟩
    · rcases h2e with rfl | rfl <;> rfl
    refine runs_ret ?_
    simp only [AEx.thn, AEx.blk, if_true, if_false, reduceIte, Nat.reduceEqDiff, Nat.succ_ne_zero, Nat.one_ne_zero, Nat.zero_ne_one]
    refine ⟨by simp, [], by simp [resA], .inr ?_⟩
    obtain ⟨g, hg⟩ : ∃ g, h2.set 8 none = [d0, d1, d2, d3] ++ g := by
      rcases h2e with rfl | rfl <;> exact ⟨_, rfl⟩
    show ∃ h1' G', S h1' ∧ trim 4 [.tup []] (h2.set 8 none) = h1' ++ G'
    rcases trim_cases 4 [.tup []] (h2.set 8 none) with e | e
    · exact ⟨[d0, d1, d2, d3], g, hs2, by rw [e, hg]⟩
    · exact ⟨[d0, d1, d2, d3], [], hs2, by rw [e, hg]; rfl⟩
end
end Go.Proofs.Ytfnnonoffiljhaa.Tab

namespace Go.Proofs.Ytfnnonoffiljhaa.Tab
open Go Go.Abs Go.Proofs
set_option maxRecDepth 100000
set_option maxHeartbeats 4000000
set_option linter.unusedSimpArgs false
set_option linter.unusedVariables false
section
attribute [local simp] frz_int frz_bool frz_vl frz_pv frz_agg frz_tup frz_fn frz_ref frz_sl frz_nils optAll orcF rb_int rb_bool rb_agg rb_tup rb_int' rb_bool' rb_vl rb_pv rb_yld rb_nilf rb_nilp rb_nils rb_any rb_und rb_ref rb_sl rb_fn slE chunk fillA evParts evParts3 putAt List.range_succ List.range_zero List.range'_succ List.range'_zero runX_nil' unary_not evalS_pure evAll_nil evAll_cons runX_cons stepX wantedA dop CV.ev putK_eq setK_eq appK_eq fA_eq fI_eq fN_eq fRow_eq fRows_eq nth_eq Out.v putT List.replicate_succ AEx.thn AEx.blk arI pointee Abs.rowAt ldRow allV toV toC ofV ofC Builtin.min_ Builtin.min2 Builtin.max_ Builtin.max2 min_if max_if resA tupA kill trim_self trim_len trim_emp trim_nil lenA
attribute [local simp] runD_nil' runD_cons' stepD actK_eq actD clash disj masks holes maskH unmaskH diffs news eqB allB eqA ldRowN wrote toCs ofCs stA rowsV_vl rowsV_nils rowsOf dI1 dI2 dI3 dI5 elt
attribute [local simp] st_any st_und st_agg st_tup st_bool st_int st_nilp st_ref st_pv st_nils st_sl st_vl st_nilm st_mp st_fn st_nilf st_yld co_any co_und co_agg co_tup co_bool co_int co_nilp co_ref co_pv co_nils co_sl co_vl co_nilm co_mp co_fn co_nilf co_yld
abbrev annC (c : CFn) (m : List (Nat × List GL)) (n : List (List Nat × Nat)) : CFn := { c with body := annK m n c.body }
theorem a60 (P : Program) (T : Nat → Option CFn) (hT : T 60 = some { c60 with body := annK [] [([9], 28)] c60.body }) (h92 : T 92 = some { c92 with body := annK [] [([11, 12], 24)] c92.body }) (h105 : T 105 = some c105) (h120 : T 120 = some c120) (h59 : T 59 = some { c59 with frsh := true, orc := oPrice }) (q : PQ) (x : AVal) (hx : rowsV x = some (q.steps.map rP)) (hl : q.steps.length ≤ 1000) (hg : checkQ q = 0) (money : Int) :
    Answers P T 60 [vQ q x, I money] [] fun v h => frz true h 5 v = some (I (mostQ q money)) := by
  obtain ⟨cx1, cx2⟩ := rowsV_cells hx
  have rx := fun n d => rowsV_rb hx n d
  simp only [vQ]
  refine answers_of hT (orcF_none rfl) ?_
  simp only [c60, annK, lkG, lkR, reduceIte, Nat.reduceEqDiff, reduceCtorEq, List.cons.injEq, and_true, and_false, false_and, true_and]
  refine runs_seq ?_
  refine runs_reg (ops_run (by simp [lop, loud, callA, calleeA, cx1, cx2]; rfl) ?_)
  simp only [AEx.thn, AEx.blk]
  refine runs_seq ?_
  refine runs_seq ?_
  refine runs_reg (ops_run (by simp [lop, loud, callA, calleeA, cx1, cx2]; rfl) ?_)
  simp only [AEx.thn, AEx.blk]
  refine runs_block ?_
  have hT0 : ∀ n, 4 ≤ n → ([.agg [I q.area, I q.board, I q.waste, I q.tool, I q.setup, I q.run, I q.work, I q.pallet, I q.freight, I q.margin, x], I money, .ref 0 0 0, .ref 1 0 0, .ref 2 0 0, .und, .und, .agg [I q.area, I q.board, I q.waste, I q.tool, I q.setup, I q.run, I q.work, I q.pallet, I q.freight, I q.margin, x], .fn 92 [.agg [I q.area, I q.board, I q.waste, I q.tool, I q.setup, I q.run, I q.work, I q.pallet, I q.freight, I q.margin, x]] [], .und, .und, .und, .und, .und, .und, .und, .und, .und, .und, .und, .und, .und, .und, .und, .und, .und, .und, .und, .und, .und, .und, .und, .und, .und, .und, .und, .und, .und, .und, .und, .und, .und, .und, .und, .und, .und, .und] : List AVal).all (rb n 5) = true := by
    intro n hn
    simp [rb_agg, rb_yld, rb_ref, rb_fn, rx]; omega
  refine runs_rf (f := 92) (a := [.agg [I q.area, I q.board, I q.waste, I q.tool, I q.setup, I q.run, I q.work, I q.pallet, I q.freight, I q.margin, x]]) (b := []) (by simp [inLoop]) (by simp) ?_
  refine (it92 P T h92 h105 h120 q x hx hl (fun s hs => ((check_ok hg).2.2.1 s hs).1) (fun rest h => ∃ high, h = [some (.row 11 [[I q.area, I q.board, I q.waste, I q.tool, I q.setup, I q.run, I q.work, I q.pallet, I q.freight, I q.margin, x]]), some (.row 1 [[I money]]), some (.row 1 [[I 0]]), some (.loop [.agg [I q.area, I q.board, I q.waste, I q.tool, I q.setup, I q.run, I q.work, I q.pallet, I q.freight, I q.margin, x], I money, .ref 0 0 0, .ref 1 0 0, .ref 2 0 0, .und, .und, .agg [I q.area, I q.board, I q.waste, I q.tool, I q.setup, I q.run, I q.work, I q.pallet, I q.freight, I q.margin, x], .fn 92 [.agg [I q.area, I q.board, I q.waste, I q.tool, I q.setup, I q.run, I q.work, I q.pallet, I q.freight, I q.margin, x]] [], .und, .und, .und, .und, .und, .und, .und, .und, .und, .und, .und, .und, .und, .und, .und, .und, .und, .und, .und, .und, .und, .und, .und, .und, .und, .und, .und, .und, .und, .und, .und, .und, .und, .und, .und, .und, .und, .und] [9] asg60 bd60 .ready none)] ∧ Rem q rest high ∧ Done q money high) (fun h => ∃ t, h = [some (.row 11 [[I q.area, I q.board, I q.waste, I q.tool, I q.setup, I q.run, I q.work, I q.pallet, I q.freight, I q.margin, x]]), some (.row 1 [[I money]]), some (.row 1 [[I (mostQ q money)]]), some (.loop t [9] asg60 bd60 .done (some .ret))]) ?_ ?_ ?_ _ ?_).mono ?_
  · rintro l h ⟨high, rfl, _, _⟩
    refine ⟨rfl, fun n hn => ?_⟩
    have := hT0 n hn
    simp only [List.all_cons, List.all_nil, rbB_row, rbB_loop] at this ⊢
    simp [rx, this]; omega
  · rintro h ⟨t, rfl⟩
    rfl
  · rintro lo hi rest h G ⟨high, rfl, hrem, hdone⟩ hG hGb
    obtain ⟨rfl, h1, h2, h3, hm, hrem'⟩ := rem_step hg hrem
    rcases hG with hG | hG
    · obtain ⟨y4, y5, y6, y7, y8, rfl⟩ := list5 hG
      refine (y60_5 P T h59 q x hx hl hg money lo hi h1 h2 h3 hm y4 y5 y6 y7 y8 (fun n hn => hGb _ (by simp) n (by simpa using hn)) (fun n hn => hGb _ (by simp) n (by simpa using hn)) (fun n hn => hGb _ (by simp) n (by simpa using hn)) (fun n hn => hGb _ (by simp) n (by simpa using hn)) (fun n hn => hGb _ (by simp) n (by simpa using hn)) (.agg [I q.area, I q.board, I q.waste, I q.tool, I q.setup, I q.run, I q.work, I q.pallet, I q.freight, I q.margin, x]) (I money) .und .und (.agg [I q.area, I q.board, I q.waste, I q.tool, I q.setup, I q.run, I q.work, I q.pallet, I q.freight, I q.margin, x]) (.fn 92 [.agg [I q.area, I q.board, I q.waste, I q.tool, I q.setup, I q.run, I q.work, I q.pallet, I q.freight, I q.margin, x]] []) .und .und .und .und .und .und .und .und .und .und .und .und .und .und .und .und .und .und .und .und .und .und .und .und .und .und .und .und .und .und .und .und .und .und .und .und .und .und hT0).mono ?_
      rintro v h' (⟨rfl, hc, rfl⟩ | ⟨rfl, r, g1, g2, g3, g4, t, G2, rfl⟩)
      · exact .inl ⟨rfl, _, rfl, lo - 1, rfl, hrem', done_skip hdone hm hc⟩
      · have hmr := done_found hdone h1 g1 g2 h2 g3 g4
        exact .inr ⟨rfl, _, G2, rfl, t, by rw [hmr]⟩
    · obtain ⟨y4, y5, y6, y7, y8, y9, rfl⟩ := list6 hG
      refine (y60_6 P T h59 q x hx hl hg money lo hi h1 h2 h3 hm y4 y5 y6 y7 y8 y9 (fun n hn => hGb _ (by simp) n (by simpa using hn)) (fun n hn => hGb _ (by simp) n (by simpa using hn)) (fun n hn => hGb _ (by simp) n (by simpa using hn)) (fun n hn => hGb _ (by simp) n (by simpa using hn)) (fun n hn => hGb _ (by simp) n (by simpa using hn)) (fun n hn => hGb _ (by simp) n (by simpa using hn)) (.agg [I q.area, I q.board, I q.waste, I q.tool, I q.setup, I q.run, I q.work, I q.pallet, I q.freight, I q.margin, x]) (I money) .und .und (.agg [I q.area, I q.board, I q.waste, I q.tool, I q.setup, I q.run, I q.work, I q.pallet, I q.freight, I q.margin, x]) (.fn 92 [.agg [I q.area, I q.board, I q.waste, I q.tool, I q.setup, I q.run, I q.work, I q.pallet, I q.freight, I q.margin, x]] []) .und .und .und .und .und .und .und .und .und .und .und .und .und .und .und .und .und .und .und .und .und .und .und .und .und .und .und .und .und .und .und .und .und .und .und .und .und .und hT0).mono ?_
      rintro v h' (⟨rfl, hc, rfl⟩ | ⟨rfl, r, g1, g2, g3, g4, t, G2, rfl⟩)
      · exact .inl ⟨rfl, _, rfl, lo - 1, rfl, hrem', done_skip hdone hm hc⟩
      · have hmr := done_found hdone h1 g1 g2 h2 g3 g4
        exact .inr ⟨rfl, _, G2, rfl, t, by rw [hmr]⟩
  · exact ⟨100000, rfl, rem_first q, done_first q money⟩
  rintro v h2 (⟨high, rfl, hrem, hdone⟩ | ⟨h1, G, ⟨t, rfl⟩, rfl⟩)
  · refine ⟨_, _, _, _, _, _, rfl, by simp, ?_⟩
    simp only [AEx.thn, AEx.blk, if_true, if_false, reduceIte, Nat.reduceEqDiff, Nat.succ_ne_zero, Nat.one_ne_zero, Nat.zero_ne_one]
    have hz := done_none hdone (rem_nil hrem)
    refine runs_seq ?_
    refine runs_reg (ops_run (by simp [lop, loud, callA, calleeA, cx1, cx2, hz]; rfl) ?_)
    simp only [AEx.thn, AEx.blk]
    refine runs_ret ?_
    simp [lop, loud, callA, calleeA, cx1, cx2, hz]
  · refine ⟨_, _, _, _, _, _, rfl, by simp, ?_⟩
    refine runs_ret ?_
    simp only [AEx.thn, AEx.blk, if_true, if_false, reduceIte, Nat.reduceEqDiff, Nat.succ_ne_zero, Nat.one_ne_zero, Nat.zero_ne_one]
    simp
noncomputable def PL1 : Nat → Option CFn := updG PK 92 [] [([11, 12], 24)]
theorem PL1_ok : TabOk Try.prog GG PL1 := tab_updG PK_ok
noncomputable def PL2 : Nat → Option CFn := updG PL1 60 [] [([9], 28)]
theorem PL2_ok : TabOk Try.prog GG PL2 := tab_updG PL1_ok
noncomputable def PL3 : Nat → Option CFn := upd PL2 60 true (oMost)
theorem PL3_ok : TabOk Try.prog GG PL3 := tab_add mixed PL2_ok fun args v ho => by
  unfold oMost at ho; split at ho <;> (try simp at ho)
  rename_i v n
  split at ho <;> (try simp at ho)
  rename_i q hq
  obtain ⟨x, rfl, hx, hl⟩ := dQ_eq hq
  try simp at ho
  obtain ⟨hg, rfl⟩ := ho
  exact a60 Try.prog PL2 rfl rfl rfl rfl rfl q x hx hl hg n
theorem most_bd (q : PQ) (m : Int) : 0 ≤ mostQ q m ∧ mostQ q m ≤ 100000 := mostQ_bd q m
theorem a22 (P : Program) (T : Nat → Option CFn) (hT : T 22 = some c22) (h57 : T 57 = some { c57 with frsh := false, orc := oOpen }) (h60 : T 60 = some { (annC c60 [] [([9], 28)]) with frsh := true, orc := oMost }) (q : PQ) (x : AVal) (hx : rowsV x = some (q.steps.map rP)) (hl : q.steps.length ≤ 1000) (money : Int) : Answers P T 22 [vQ q x, I money] [] fun v h => frz true h 5 v = some (.tup [I (if errB q money = 0 then mostQ q money else 0), I (errB q money)]) := by
  have fx := fun H d => rowsV_frz hx H d
  have rx := fun n d => rowsV_rb hx n d
  have hd := dQ_vQ hx hl
  have cx := rowsV_cells hx
  obtain ⟨cx1, cx2⟩ := cx
  simp only [vQ] at hd ⊢
  refine answers_of hT (orcF_none rfl) ?_
  simp only [c22]
  by_cases h0 : checkQ q = 0
  · refine runs_seq ?_
    refine runs_reg (ops_run (by simp [lop, loud, callA, calleeA, callF_step h57, h57, fx, hd, cx1, cx2, rx, W_fit0, zQ, vP, callF_step h60, h60, annC, oMost, oOpen, h0]; rfl) ?_)
    simp only [AEx.thn, AEx.blk]
    refine runs_seq ?_
    refine runs_reg (ops_run (by simp [lop, loud, callA, calleeA, callF_step h57, h57, fx, hd, cx1, cx2, rx, W_fit0, zQ, vP, callF_step h60, h60, annC, oMost, oOpen, h0]; rfl) ?_)
    simp only [AEx.thn, AEx.blk]
    refine runs_seq ?_
    refine runs_block ?_
    refine runs_seq ?_
    refine runs_reg (ops_run (by simp [lop, loud, callA, calleeA, callF_step h57, h57, fx, hd, cx1, cx2, rx, W_fit0, zQ, vP, callF_step h60, h60, annC, oMost, oOpen, h0]; rfl) ?_)
    simp only [AEx.thn, AEx.blk]
    refine runs_cond (x := false) (by simp) ?_
    refine runs_seq ?_
    refine runs_reg (ops_run (by simp [lop, loud, callA, calleeA, callF_step h57, h57, fx, hd, cx1, cx2, rx, W_fit0, zQ, vP, callF_step h60, h60, annC, oMost, oOpen, h0]; rfl) ?_)
    simp only [AEx.thn, AEx.blk]
    refine runs_cond_split (x := decide (money < 0)) (by simp) (fun hm => ?_) (fun hm => ?_)
    · have hm := of_decide_eq_true hm
      refine runs_seq ?_
      refine runs_reg (ops_run (by simp [lop, loud, callA, calleeA, callF_step h57, h57, fx, hd, cx1, cx2, rx, W_fit0, zQ, vP, callF_step h60, h60, annC, oMost, oOpen, h0]; rfl) ?_)
      simp only [AEx.thn, AEx.blk]
      refine runs_ret ?_
      simp [lop, loud, callA, calleeA, callF_step h57, h57, fx, hd, cx1, cx2, rx, W_fit0, zQ, vP, callF_step h60, h60, annC, oMost, oOpen, h0, errB, h0, hm]
    have hm := of_decide_eq_false hm
    refine runs_skip ?_
    simp only [AEx.thn, AEx.blk]
    refine runs_seq ?_
    refine runs_reg (ops_run (by simp [lop, loud, callA, calleeA, callF_step h57, h57, fx, hd, cx1, cx2, rx, W_fit0, zQ, vP, callF_step h60, h60, annC, oMost, oOpen, h0]; rfl) ?_)
    simp only [AEx.thn, AEx.blk]
    refine runs_seq ?_
    refine runs_seq ?_
    refine runs_reg (ops_run (by simp [lop, loud, callA, calleeA, callF_step h57, h57, fx, hd, cx1, cx2, rx, W_fit0, zQ, vP, callF_step h60, h60, annC, oMost, oOpen, h0]; rfl) ?_)
    simp only [AEx.thn, AEx.blk]
    by_cases hz : mostQ q money = 0
    · refine runs_cond (x := true) (by simp [hz]) ?_
      refine runs_seq ?_
      refine runs_reg (ops_run (by simp [lop, loud, callA, calleeA, callF_step h57, h57, fx, hd, cx1, cx2, rx, W_fit0, zQ, vP, callF_step h60, h60, annC, oMost, oOpen, h0]; rfl) ?_)
      simp only [AEx.thn, AEx.blk]
      refine runs_ret ?_
      simp [lop, loud, callA, calleeA, callF_step h57, h57, fx, hd, cx1, cx2, rx, W_fit0, zQ, vP, callF_step h60, h60, annC, oMost, oOpen, h0, errB, h0, hm, hz]
    · refine runs_cond (x := false) (by simp [hz]) ?_
      refine runs_skip ?_
      simp only [AEx.thn, AEx.blk]
      refine runs_seq ?_
      refine runs_reg (ops_run (by simp [lop, loud, callA, calleeA, callF_step h57, h57, fx, hd, cx1, cx2, rx, W_fit0, zQ, vP, callF_step h60, h60, annC, oMost, oOpen, h0]; rfl) ?_)
      simp only [AEx.thn, AEx.blk]
      refine runs_ret ?_
      simp [lop, loud, callA, calleeA, callF_step h57, h57, fx, hd, cx1, cx2, rx, W_fit0, zQ, vP, callF_step h60, h60, annC, oMost, oOpen, h0, errB, h0, hm, hz]
  · have h0b : (checkQ q == 0) = false := by simpa using h0
    refine runs_seq ?_
    refine runs_reg (ops_run (by simp [lop, loud, callA, calleeA, callF_step h57, h57, fx, hd, cx1, cx2, rx, W_fit0, zQ, vP, callF_step h60, h60, annC, oMost, oOpen, h0, h0b]; rfl) ?_)
    simp only [AEx.thn, AEx.blk]
    refine runs_seq ?_
    refine runs_reg (ops_run (by simp [lop, loud, callA, calleeA, callF_step h57, h57, fx, hd, cx1, cx2, rx, W_fit0, zQ, vP, callF_step h60, h60, annC, oMost, oOpen, h0, h0b]; rfl) ?_)
    simp only [AEx.thn, AEx.blk]
    refine runs_seq ?_
    refine runs_block ?_
    refine runs_seq ?_
    refine runs_reg (ops_run (by simp [lop, loud, callA, calleeA, callF_step h57, h57, fx, hd, cx1, cx2, rx, W_fit0, zQ, vP, callF_step h60, h60, annC, oMost, oOpen, h0, h0b]; rfl) ?_)
    simp only [AEx.thn, AEx.blk]
    refine runs_cond (x := true) (by simp [h0]) ?_
    refine runs_seq ?_
    refine runs_reg (ops_run (by simp [lop, loud, callA, calleeA, callF_step h57, h57, fx, hd, cx1, cx2, rx, W_fit0, zQ, vP, callF_step h60, h60, annC, oMost, oOpen, h0, h0b]; rfl) ?_)
    simp only [AEx.thn, AEx.blk]
    refine runs_ret ?_
    simp [lop, loud, callA, calleeA, callF_step h57, h57, fx, hd, cx1, cx2, rx, W_fit0, zQ, vP, callF_step h60, h60, annC, oMost, oOpen, h0, h0b, errB]
theorem a23 (P : Program) (T : Nat → Option CFn) (hT : T 23 = some c23) (h61 : T 61 = some { c61 with frsh := false, orc := oOpenN }) (h59 : T 59 = some { c59 with frsh := true, orc := oPrice }) (h60 : T 60 = some { (annC c60 [] [([9], 28)]) with frsh := true, orc := oMost }) (q : PQ) (x : AVal) (hx : rowsV x = some (q.steps.map rP)) (hl : q.steps.length ≤ 1000) (n : Int) : Answers P T 23 [vQ q x, I n] [] fun v h => frz true h 5 v = some (.tup [I (if errN q n = 0 then mostQ q (priceI q n) else 0), I (errN q n)]) := by
  have hck : errN q n = 0 → checkQ q = 0 ∧ 1 ≤ n ∧ n ≤ 100000 := by
    unfold errN
    split
    · rename_i h; split
      · rename_i h2; exact fun _ => ⟨h, h2⟩
      · intro h; simp at h
    · rename_i h; intro h'; exact absurd h' h
  have fx := fun H d => rowsV_frz hx H d
  have rx := fun n d => rowsV_rb hx n d
  have hd := dQ_vQ hx hl
  have cx := rowsV_cells hx
  obtain ⟨cx1, cx2⟩ := cx
  simp only [vQ] at hd ⊢
  refine answers_of hT (orcF_none rfl) ?_
  simp only [c23]
  by_cases h0 : errN q n = 0
  · obtain ⟨hc, hn1, hn2⟩ := hck h0
    refine runs_seq ?_
    refine runs_reg (ops_run (by simp [lop, loud, callA, calleeA, callF_step h61, h61, callF_step h59, h59, fx, hd, cx1, cx2, rx, W_fit0, zQ, vP, callF_step h60, h60, annC, oMost, oOpen, oOpenN, oPrice, h0, hc, hn1, hn2]; rfl) ?_)
    simp only [AEx.thn, AEx.blk]
    refine runs_seq ?_
    refine runs_reg (ops_run (by simp [lop, loud, callA, calleeA, callF_step h61, h61, callF_step h59, h59, fx, hd, cx1, cx2, rx, W_fit0, zQ, vP, callF_step h60, h60, annC, oMost, oOpen, oOpenN, oPrice, h0, hc, hn1, hn2]; rfl) ?_)
    simp only [AEx.thn, AEx.blk]
    refine runs_seq ?_
    refine runs_seq ?_
    refine runs_reg (ops_run (by simp [lop, loud, callA, calleeA, callF_step h61, h61, callF_step h59, h59, fx, hd, cx1, cx2, rx, W_fit0, zQ, vP, callF_step h60, h60, annC, oMost, oOpen, oOpenN, oPrice, h0, hc, hn1, hn2]; rfl) ?_)
    simp only [AEx.thn, AEx.blk]
    refine runs_cond (x := false) (by simp) ?_
    refine runs_skip ?_
    simp only [AEx.thn, AEx.blk]
    refine runs_seq ?_
    refine runs_drw (by simp (maxSteps := 3000000) [lop, loud, callA, calleeA, callF_step h61, h61, callF_step h59, h59, fx, hd, cx1, cx2, rx, W_fit0, zQ, vP, callF_step h60, h60, annC, oMost, oOpen, oOpenN, oPrice, h0, hc, hn1, hn2]; rfl) ?_
    simp only [AEx.thn, AEx.blk]
    refine runs_ret ?_
    simp [lop, loud, callA, calleeA, callF_step h61, h61, callF_step h59, h59, fx, hd, cx1, cx2, rx, W_fit0, zQ, vP, callF_step h60, h60, annC, oMost, oOpen, oOpenN, oPrice, h0, hc, hn1, hn2]
  · have h0b : (errN q n == 0) = false := by simpa using h0
    by_cases hc : checkQ q = 0
    · refine runs_seq ?_
      refine runs_reg (ops_run (by simp [lop, loud, callA, calleeA, callF_step h61, h61, callF_step h59, h59, fx, hd, cx1, cx2, rx, W_fit0, zQ, vP, callF_step h60, h60, annC, oMost, oOpen, oOpenN, oPrice, h0, h0b, hc]; rfl) ?_)
      simp only [AEx.thn, AEx.blk]
      refine runs_seq ?_
      refine runs_reg (ops_run (by simp [lop, loud, callA, calleeA, callF_step h61, h61, callF_step h59, h59, fx, hd, cx1, cx2, rx, W_fit0, zQ, vP, callF_step h60, h60, annC, oMost, oOpen, oOpenN, oPrice, h0, h0b, hc]; rfl) ?_)
      simp only [AEx.thn, AEx.blk]
      refine runs_seq ?_
      refine runs_seq ?_
      refine runs_reg (ops_run (by simp [lop, loud, callA, calleeA, callF_step h61, h61, callF_step h59, h59, fx, hd, cx1, cx2, rx, W_fit0, zQ, vP, callF_step h60, h60, annC, oMost, oOpen, oOpenN, oPrice, h0, h0b, hc]; rfl) ?_)
      simp only [AEx.thn, AEx.blk]
      refine runs_cond (x := true) (by simp [h0]) ?_
      refine runs_seq ?_
      refine runs_reg (ops_run (by simp [lop, loud, callA, calleeA, callF_step h61, h61, callF_step h59, h59, fx, hd, cx1, cx2, rx, W_fit0, zQ, vP, callF_step h60, h60, annC, oMost, oOpen, oOpenN, oPrice, h0, h0b, hc]; rfl) ?_)
      simp only [AEx.thn, AEx.blk]
      refine runs_ret ?_
      simp [lop, loud, callA, calleeA, callF_step h61, h61, callF_step h59, h59, fx, hd, cx1, cx2, rx, W_fit0, zQ, vP, callF_step h60, h60, annC, oMost, oOpen, oOpenN, oPrice, h0, h0b, hc]
    · refine runs_seq ?_
      refine runs_reg (ops_run (by simp [lop, loud, callA, calleeA, callF_step h61, h61, callF_step h59, h59, fx, hd, cx1, cx2, rx, W_fit0, zQ, vP, callF_step h60, h60, annC, oMost, oOpen, oOpenN, oPrice, h0, h0b, hc]; rfl) ?_)
      simp only [AEx.thn, AEx.blk]
      refine runs_seq ?_
      refine runs_reg (ops_run (by simp [lop, loud, callA, calleeA, callF_step h61, h61, callF_step h59, h59, fx, hd, cx1, cx2, rx, W_fit0, zQ, vP, callF_step h60, h60, annC, oMost, oOpen, oOpenN, oPrice, h0, h0b, hc]; rfl) ?_)
      simp only [AEx.thn, AEx.blk]
      refine runs_seq ?_
      refine runs_seq ?_
      refine runs_reg (ops_run (by simp [lop, loud, callA, calleeA, callF_step h61, h61, callF_step h59, h59, fx, hd, cx1, cx2, rx, W_fit0, zQ, vP, callF_step h60, h60, annC, oMost, oOpen, oOpenN, oPrice, h0, h0b, hc]; rfl) ?_)
      simp only [AEx.thn, AEx.blk]
      refine runs_cond (x := true) (by simp [h0]) ?_
      refine runs_seq ?_
      refine runs_reg (ops_run (by simp [lop, loud, callA, calleeA, callF_step h61, h61, callF_step h59, h59, fx, hd, cx1, cx2, rx, W_fit0, zQ, vP, callF_step h60, h60, annC, oMost, oOpen, oOpenN, oPrice, h0, h0b, hc]; rfl) ?_)
      simp only [AEx.thn, AEx.blk]
      refine runs_ret ?_
      simp [lop, loud, callA, calleeA, callF_step h61, h61, callF_step h59, h59, fx, hd, cx1, cx2, rx, W_fit0, zQ, vP, callF_step h60, h60, annC, oMost, oOpen, oOpenN, oPrice, h0, h0b, hc]
noncomputable def PL_22 : Nat → Option CFn := upd PL3 22 true (oBudget)
theorem PL_22_ok : TabOk Try.prog GG PL_22 := tab_add mixed PL3_ok fun args v ho => by
  unfold oBudget at ho; split at ho <;> (try simp at ho)
  rename_i v n
  split at ho <;> (try simp at ho)
  rename_i q hq
  obtain ⟨x, rfl, hx, hl⟩ := dQ_eq hq
  try simp at ho
  subst ho
  exact a22 Try.prog PL3 rfl rfl rfl q x hx hl n
noncomputable def PL : Nat → Option CFn := upd PL_22 23 true (oMore)
theorem PL_ok : TabOk Try.prog GG PL := tab_add mixed PL_22_ok fun args v ho => by
  unfold oMore at ho; split at ho <;> (try simp at ho)
  rename_i v n
  split at ho <;> (try simp at ho)
  rename_i q hq
  obtain ⟨x, rfl, hx, hl⟩ := dQ_eq hq
  try simp at ho
  subst ho
  exact a23 Try.prog PL_22 rfl rfl rfl rfl q x hx hl n
end
end Go.Proofs.Ytfnnonoffiljhaa.Tab
