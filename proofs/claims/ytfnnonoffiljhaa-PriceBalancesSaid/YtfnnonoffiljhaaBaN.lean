/- Contracts of price: quotes in bytes, what is taken off, all parts. No condition. -/
import Derived.Test.YtfnnonoffiljhaaBaM
set_option linter.unusedSimpArgs false
set_option linter.unusedVariables false
namespace Go.Proofs.Ytfnnonoffiljhaa.Tab
open Go Go.Abs Go.Proofs
set_option maxRecDepth 100000
set_option maxHeartbeats 4000000
set_option linter.unusedSimpArgs false
set_option linter.unusedVariables false
section
attribute [local simp] frz_int frz_bool frz_vl frz_pv frz_agg frz_tup frz_fn frz_ref frz_sl frz_nils optAll orcF rb_int rb_bool rb_agg rb_tup rb_int' rb_bool' rb_vl rb_pv rb_yld rb_nilf rb_nilp rb_nils rb_any rb_und rb_ref rb_sl rb_fn slE chunk fillA evParts evParts3 putAt List.range_succ List.range_zero List.range'_succ List.range'_zero runX_nil' unary_not evalS_pure evAll_nil evAll_cons runX_cons stepX wantedA dop CV.ev putK_eq setK_eq appK_eq fA_eq fI_eq fN_eq fRow_eq fRows_eq nth_eq Out.v putT List.replicate_succ AEx.thn AEx.blk arI pointee Abs.rowAt ldRow allV toV toC ofV ofC Builtin.min_ Builtin.min2 Builtin.max_ Builtin.max2 min_if max_if resA tupA kill trim_self trim_len trim_emp trim_nil lenA
attribute [local simp] runD_nil' runD_cons' stepD actK_eq actD clash disj masks holes maskH unmaskH diffs news eqB allB eqA ldRowN wrote toCs ofCs stA rowsV_vl rowsV_nils rowsOf dI1 dI2 dI3 dI5 elt
attribute [local simp] st_any st_und st_agg st_tup st_bool st_int st_nilp st_ref st_pv st_nils st_sl st_vl st_nilm st_mp st_fn st_nilf st_yld co_any co_und co_agg co_tup co_bool co_int co_nilp co_ref co_pv co_nils co_sl co_vl co_nilm co_mp co_fn co_nilf co_yld
theorem a43 (P : Program) (T : Nat → Option CFn) (hT : T 43 = some c43) (a b c d e : Int) (hg : (0 ≤ a ∧ a ≤ 1000000000000) ∧ (0 ≤ b ∧ b ≤ 1000000000000) ∧ (0 ≤ c ∧ c ≤ 1000000000000) ∧ (0 ≤ d ∧ d ≤ 1000000000000) ∧ (0 ≤ e ∧ e ≤ 1000000000000)) : Answers P T 43 [.agg [I a, I b, I c, I d, I e]] [] fun v h => frz true h 5 v = some (I (a + b + c + d + e)) := by
  have w1 : W .i64 (a + b) = a + b := W_fit (by omega)
  have w2 : W .i64 (a + b + c) = a + b + c := W_fit (by omega)
  have w3 : W .i64 (a + b + c + d) = a + b + c + d := W_fit (by omega)
  have w4 : W .i64 (a + b + c + d + e) = a + b + c + d + e := W_fit (by omega)
  refine answers_of hT (orcF_none rfl) ?_
  simp only [c43]
  refine runs_seq ?_
  refine runs_reg (ops_run (by simp [lop, loud, callA, calleeA, w1, w2, w3, w4]; rfl) ?_)
  simp only [AEx.thn, AEx.blk]
  refine runs_seq ?_
  refine runs_reg (ops_run (by simp [lop, loud, callA, calleeA, w1, w2, w3, w4]; rfl) ?_)
  simp only [AEx.thn, AEx.blk]
  refine runs_ret ?_
  simp [lop, loud, callA, calleeA, w1, w2, w3, w4]
def oOffL : List AVal → Option AVal
  | [v, .int .i64 n] => match dQ v with
    | some q => some (.tup [I (offGo n q.steps 0 (0, 0)).1, I (offGo n q.steps 0 (0, 0)).2])
    | none => none
  | _ => none
theorem a42 (P : Program) (T : Nat → Option CFn) (hT : T 42 = some c42) (q : PQ) (x : AVal) (hx : rowsV x = some (q.steps.map rP)) (hl : q.steps.length ≤ 1000) (n : Int) : Answers P T 42 [vQ q x, I n] [] fun v h => frz true h 5 v = some (.tup [I (offGo n q.steps 0 (0, 0)).1, I (offGo n q.steps 0 (0, 0)).2]) := by
  have lx := rowsV_len hx
  rw [List.length_map] at lx
  have fx := fun H d => rowsV_frz hx H d
  have rx := fun n d => rowsV_rb hx n d
  have hd := dQ_vQ hx hl
  have cx := rowsV_cells hx
  obtain ⟨cx1, cx2⟩ := cx
  simp only [vQ] at hd ⊢
  refine answers_of hT (orcF_none rfl) ?_
  simp only [c42]
  refine runs_seq ?_
  refine runs_reg (ops_run (by simp [lop, loud, callA, calleeA, lx, -lenA, fx, hd, cx1, cx2, rx, W_fit0, zQ, vP]; rfl) ?_)
  simp only [AEx.thn, AEx.blk]
  refine runs_seq ?_
  refine runs_seq ?_
  refine runs_reg (ops_run (by simp [lop, loud, callA, calleeA, lx, -lenA, fx, hd, cx1, cx2, rx, W_fit0, zQ, vP]; rfl) ?_)
  simp only [AEx.thn, AEx.blk]
  refine runs_block ?_
  refine runs_loop_inv (fun m σ => ∃ (k : Nat) (i o1 o2 : Int), i = k ∧ q.steps.length - k = m ∧ k ≤ q.steps.length ∧ offGo n (q.steps.drop k) i (o1, o2) = offGo n q.steps 0 (0, 0) ∧ σ = ⟨[.any, I n, .ref 0 0 0, .any, I o1, I o2, I i, .any, .any, .any, .any, .any, .any, .any, .any, .any, .any, .any, .any, .any, .any, .any, .any, .any, .any, .any, .any, .any, .any, .any, .any, .any], [some (.row 11 [[I q.area, I q.board, I q.waste, I q.tool, I q.setup, I q.run, I q.work, I q.pallet, I q.freight, I q.margin, x]])]⟩) ?_ (q.steps.length - 0) _ ⟨0, 0, 0, 0, rfl, rfl, Nat.zero_le _, rfl, by simp⟩
  rintro m σ ⟨k, i, o1, o2, hik, rfl, hkl, hinv, rfl⟩
  refine runs_seq ?_
  refine runs_seq ?_
  refine runs_reg (ops_run (by simp [lop, loud, callA, calleeA, lx, -lenA, fx, hd, cx1, cx2, rx, W_fit0, zQ, vP]; rfl) ?_)
  simp only [AEx.thn, AEx.blk]
  refine runs_cond_split (x := decide (i < (q.steps.length : Int))) (by simp) (fun hlt => ?_) (fun hlt => ?_)
  · have hlt := of_decide_eq_true hlt
    have hk0 : k < q.steps.length := by omega
    obtain ⟨tt, rfl⟩ := rowsV_get hx (k := k) (by rw [List.length_map]; omega)
    have h0 : 0 ≤ i := by omega
    have htn : i.toNat = k := by omega
    rw [List.drop_eq_getElem_cons hk0] at hinv
    simp only [offGo] at hinv
    generalize hs : q.steps[k] = s at *
    obtain ⟨s1, s2⟩ := s
    have hwi : W .i64 (i + 1) = i + 1 := W_small (by omega)
    refine runs_skip ?_
    simp only [AEx.thn, AEx.blk]
    refine runs_seq ?_
    refine runs_block ?_
    refine runs_seq ?_
    refine runs_reg (ops_run (by simp [lop, loud, callA, calleeA, lx, -lenA, fx, hd, cx1, cx2, rx, W_fit0, zQ, vP, h0, htn, hk0, hs, rP, hwi]; rfl) ?_)
    simp only [AEx.thn, AEx.blk]
    refine runs_cond_split (x := decide (s1 ≤ n)) (by simp) (fun hc => ?_) (fun hc => ?_)
    · have hc := of_decide_eq_true hc
      rw [if_pos hc] at hinv
      refine runs_reg (ops_run (by simp [lop, loud, callA, calleeA, lx, -lenA, fx, hd, cx1, cx2, rx, W_fit0, zQ, vP, h0, htn, hk0, hs, rP, hwi]; rfl) ?_)
      simp only [AEx.thn, AEx.blk]
      refine runs_reg (ops_run (by simp [lop, loud, callA, calleeA, lx, -lenA, fx, hd, cx1, cx2, rx, W_fit0, zQ, vP, h0, htn, hk0, hs, rP, hwi]; rfl) ?_)
      simp only [AEx.thn, AEx.blk]
      exact ⟨q.steps.length - (k + 1), by omega, k + 1, i + 1, s2, i + 1, by omega, rfl, by omega, hinv, by simp [trim, rbB, lop, loud, callA, calleeA, lx, -lenA, fx, hd, cx1, cx2, rx, W_fit0, zQ, vP, h0, htn, hk0, hs, rP, hwi]⟩
    · have hc := of_decide_eq_false hc
      rw [if_neg hc] at hinv
      refine runs_skip ?_
      simp only [AEx.thn, AEx.blk]
      refine runs_reg (ops_run (by simp [lop, loud, callA, calleeA, lx, -lenA, fx, hd, cx1, cx2, rx, W_fit0, zQ, vP, h0, htn, hk0, hs, rP, hwi]; rfl) ?_)
      simp only [AEx.thn, AEx.blk]
      exact ⟨q.steps.length - (k + 1), by omega, k + 1, i + 1, o1, o2, by omega, rfl, by omega, hinv, by simp [trim, rbB, lop, loud, callA, calleeA, lx, -lenA, fx, hd, cx1, cx2, rx, W_fit0, zQ, vP, h0, htn, hk0, hs, rP, hwi]⟩
  · have hlt := of_decide_eq_false hlt
    obtain rfl : k = q.steps.length := by omega
    rw [List.drop_length] at hinv
    simp only [offGo] at hinv
    refine runs_exit ?_
    simp only [AEx.thn, AEx.blk, if_true, if_false, reduceIte, Nat.reduceEqDiff, Nat.succ_ne_zero, Nat.one_ne_zero, Nat.zero_ne_one]
    refine runs_seq ?_
    refine runs_reg (ops_run (by simp [lop, loud, callA, calleeA, lx, -lenA, fx, hd, cx1, cx2, rx, W_fit0, zQ, vP, ← hinv]; rfl) ?_)
    simp only [AEx.thn, AEx.blk]
    refine runs_ret ?_
    simp [lop, loud, callA, calleeA, lx, -lenA, fx, hd, cx1, cx2, rx, W_fit0, zQ, vP, ← hinv]
/-- How many steps an offer has. -/
def offN (z : Int) : Nat := (z.tmod 4).toNat
def offL (e0 e1 g0 g1 h0 h1 z : Int) : List (Int × Int) := [(e0, e1), (g0, g1), (h0, h1)].take (offN z)
def offY (l : List (Int × Int)) : AVal := match l with
  | [] => .nils
  | _ => .vl ((stepsFrom 0 l).map rP) false
def oOffer : List AVal → Option AVal
  | [.agg [.int .u16 a, .int .u16 b, .int .u8 w, .int .u8 m, .int .u16 t, .int .u16 s, .int .u8 r, .int .u8 p, .int .u16 k, .int .u16 f, .int .u8 e0, .int .u8 e1, .int .u8 g0, .int .u8 g1, .int .u8 h0, .int .u8 h1, .int .u8 z]] => if (0 ≤ a ∧ a ≤ 65535) ∧ (0 ≤ b ∧ b ≤ 65535) ∧ (0 ≤ w ∧ w ≤ 255) ∧ (0 ≤ m ∧ m ≤ 255) ∧ (0 ≤ t ∧ t ≤ 65535) ∧ (0 ≤ s ∧ s ≤ 65535) ∧ (0 ≤ r ∧ r ≤ 255) ∧ (0 ≤ p ∧ p ≤ 255) ∧ (0 ≤ k ∧ k ≤ 65535) ∧ (0 ≤ f ∧ f ≤ 65535) ∧ (0 ≤ e0 ∧ e0 ≤ 255) ∧ (0 ≤ e1 ∧ e1 ≤ 255) ∧ (0 ≤ g0 ∧ g0 ≤ 255) ∧ (0 ≤ g1 ∧ g1 ≤ 255) ∧ (0 ≤ h0 ∧ h0 ≤ 255) ∧ (0 ≤ h1 ∧ h1 ≤ 255) ∧ (0 ≤ z ∧ z ≤ 255) then some (vQ (offerQ a b w m t s r p k f (offL e0 e1 g0 g1 h0 h1 z)) (offY (offL e0 e1 g0 g1 h0 h1 z))) else none
  | _ => none
theorem a39 (P : Program) (T : Nat → Option CFn) (hT : T 39 = some { c39 with body := annK [(62, [.cell 3 10])] [] c39.body }) (a b w m t s r p k f e0 e1 g0 g1 h0 h1 z : Int) (hg : (0 ≤ a ∧ a ≤ 65535) ∧ (0 ≤ b ∧ b ≤ 65535) ∧ (0 ≤ w ∧ w ≤ 255) ∧ (0 ≤ m ∧ m ≤ 255) ∧ (0 ≤ t ∧ t ≤ 65535) ∧ (0 ≤ s ∧ s ≤ 65535) ∧ (0 ≤ r ∧ r ≤ 255) ∧ (0 ≤ p ∧ p ≤ 255) ∧ (0 ≤ k ∧ k ≤ 65535) ∧ (0 ≤ f ∧ f ≤ 65535) ∧ (0 ≤ e0 ∧ e0 ≤ 255) ∧ (0 ≤ e1 ∧ e1 ≤ 255) ∧ (0 ≤ g0 ∧ g0 ≤ 255) ∧ (0 ≤ g1 ∧ g1 ≤ 255) ∧ (0 ≤ h0 ∧ h0 ≤ 255) ∧ (0 ≤ h1 ∧ h1 ≤ 255) ∧ (0 ≤ z ∧ z ≤ 255)) :
    Answers P T 39 [.agg [.int .u16 a, .int .u16 b, .int .u8 w, .int .u8 m, .int .u16 t, .int .u16 s, .int .u8 r, .int .u8 p, .int .u16 k, .int .u16 f, .int .u8 e0, .int .u8 e1, .int .u8 g0, .int .u8 g1, .int .u8 h0, .int .u8 h1, .int .u8 z]] [] fun v h => frz true h 5 v = some (vQ (offerQ a b w m t s r p k f (offL e0 e1 g0 g1 h0 h1 z)) (offY (offL e0 e1 g0 g1 h0 h1 z))) := by
  obtain ⟨ba, bb, bw, bm, bt, bs, br, bp, bk, bf, be0, be1, bg0, bg1, bh0, bh1, bz⟩ := hg
  have wa : W .i64 a = a := W_fit (by omega)
  have wb : W .i64 b = b := W_fit (by omega)
  have ww : W .i64 w = w := W_fit (by omega)
  have wm : W .i64 m = m := W_fit (by omega)
  have wt : W .i64 t = t := W_fit (by omega)
  have ws : W .i64 s = s := W_fit (by omega)
  have wr : W .i64 r = r := W_fit (by omega)
  have wp : W .i64 p = p := W_fit (by omega)
  have wk : W .i64 k = k := W_fit (by omega)
  have wf : W .i64 f = f := W_fit (by omega)
  have we0 : W .i64 e0 = e0 := W_fit (by omega)
  have we1 : W .i64 e1 = e1 := W_fit (by omega)
  have wg0 : W .i64 g0 = g0 := W_fit (by omega)
  have wg1 : W .i64 g1 = g1 := W_fit (by omega)
  have wh0 : W .i64 h0 = h0 := W_fit (by omega)
  have wh1 : W .i64 h1 = h1 := W_fit (by omega)
  have wz : W .i64 z = z := W_fit (by omega)
  have wx1 : W .i64 (1 + a) = 1 + a := W_fit (by omega)
  have wx2 : W .i64 (3 * m) = 3 * m := W_fit (by omega)
  have wx3 : W .i64 (3 * t) = 3 * t := W_fit (by omega)
  have wx4 : W .i64 (10 * r) = 10 * r := W_fit (by omega)
  have wx5 : W .i64 (1 + 10 * r) = 1 + 10 * r := W_fit (by omega)
  have wx6 : W .i64 (3 * p) = 3 * p := W_fit (by omega)
  have wx7 : W .i64 (1 + 3 * p) = 1 + 3 * p := W_fit (by omega)
  have wy00 : W .i64 (7 * e0) = 7 * e0 := W_fit (by omega)
  have wy01 : W .i64 (1 + 7 * e0) = 1 + 7 * e0 := W_fit (by omega)
  have wy02 : W .i64 (1 + 7 * e0) = (1 + 7 * e0) := W_fit (by omega)
  have wz0 : W .i64 (2 * e1) = 2 * e1 := W_fit (by omega)
  have wi0 : W .i64 1 = 1 := by decide
  have wy10 : W .i64 (7 * g0) = 7 * g0 := W_fit (by omega)
  have wy11 : W .i64 (1 + 7 * g0) = 1 + 7 * g0 := W_fit (by omega)
  have wy12 : W .i64 (1 + 7 * e0 + (1 + 7 * g0)) = (1 + 7 * e0 + (1 + 7 * g0)) := W_fit (by omega)
  have wz1 : W .i64 (2 * g1) = 2 * g1 := W_fit (by omega)
  have wi1 : W .i64 2 = 2 := by decide
  have wy20 : W .i64 (7 * h0) = 7 * h0 := W_fit (by omega)
  have wy21 : W .i64 (1 + 7 * h0) = 1 + 7 * h0 := W_fit (by omega)
  have wy22 : W .i64 (1 + 7 * e0 + (1 + 7 * g0) + (1 + 7 * h0)) = (1 + 7 * e0 + (1 + 7 * g0) + (1 + 7 * h0)) := W_fit (by omega)
  have wz2 : W .i64 (2 * h1) = 2 * h1 := W_fit (by omega)
  have wi2 : W .i64 3 = 3 := by decide
  have hz0 : 0 ≤ z.tmod 4 := Int.tmod_nonneg 4 bz.1
  have hz4 : z.tmod 4 < 4 := Int.tmod_lt_of_pos z (by decide)
  generalize hz : z.tmod 4 = u at *
  have hoff : offN z = u.toNat := by unfold offN; rw [hz]
  unfold offL
  rw [hoff]
  refine answers_of hT (orcF_none rfl) ?_
  simp only [c39, annK, lkG, lkR, reduceIte, Nat.reduceEqDiff, reduceCtorEq, List.cons.injEq, and_true, and_false, false_and, true_and]
  refine runs_seq ?_
  refine runs_reg (ops_run (by simp [lop, loud, callA, calleeA, lim, wa, wb, ww, wm, wt, ws, wr, wp, wk, wf, we0, we1, wg0, wg1, wh0, wh1, wz, wx1, wx2, wx3, wx4, wx5, wx6, wx7, wy00, wy01, wy02, wy10, wy11, wy12, wy20, wy21, wy22, wz0, wz1, wz2, wi0, wi1, wi2, hz, gather, takeG, resG, getR, putR, putG, okG, lowR, rowAt, rbB_row, rbB_none, rb_ref, rb_any]; rfl) ?_)
  simp only [AEx.thn, AEx.blk]
  refine runs_seq ?_
  refine runs_reg (ops_run (by simp [lop, loud, callA, calleeA, lim, wa, wb, ww, wm, wt, ws, wr, wp, wk, wf, we0, we1, wg0, wg1, wh0, wh1, wz, wx1, wx2, wx3, wx4, wx5, wx6, wx7, wy00, wy01, wy02, wy10, wy11, wy12, wy20, wy21, wy22, wz0, wz1, wz2, wi0, wi1, wi2, hz, gather, takeG, resG, getR, putR, putG, okG, lowR, rowAt, rbB_row, rbB_none, rb_ref, rb_any]; rfl) ?_)
  simp only [AEx.thn, AEx.blk]
  refine runs_seq ?_
  refine runs_reg (ops_run (by simp [lop, loud, callA, calleeA, lim, wa, wb, ww, wm, wt, ws, wr, wp, wk, wf, we0, we1, wg0, wg1, wh0, wh1, wz, wx1, wx2, wx3, wx4, wx5, wx6, wx7, wy00, wy01, wy02, wy10, wy11, wy12, wy20, wy21, wy22, wz0, wz1, wz2, wi0, wi1, wi2, hz, gather, takeG, resG, getR, putR, putG, okG, lowR, rowAt, rbB_row, rbB_none, rb_ref, rb_any]; rfl) ?_)
  simp only [AEx.thn, AEx.blk]
  refine runs_seq ?_
  refine runs_seq ?_
  refine runs_reg (ops_run (by simp [lop, loud, callA, calleeA, lim, wa, wb, ww, wm, wt, ws, wr, wp, wk, wf, we0, we1, wg0, wg1, wh0, wh1, wz, wx1, wx2, wx3, wx4, wx5, wx6, wx7, wy00, wy01, wy02, wy10, wy11, wy12, wy20, wy21, wy22, wz0, wz1, wz2, wi0, wi1, wi2, hz, gather, takeG, resG, getR, putR, putG, okG, lowR, rowAt, rbB_row, rbB_none, rb_ref, rb_any]; rfl) ?_)
  simp only [AEx.thn, AEx.blk]
  refine runs_block ?_
  refine runs_loopG_inv (fun mm σ => ∃ kk : Nat, (kk : Int) ≤ u ∧ u.toNat - kk = mm ∧ ((kk = 0 ∧ σ = ⟨[.any, .ref 0 0 0, .ref 1 0 0, .ref 2 0 0, I 0, I 0, .any, .any, .any, .any, .any, .any, .any, .any, .any, .any, .any, .any, .any, .any, .any, .any, .any, .any, .any, .any, .any, .any, .any, .any, .any, .any, .any, .any, .any, .any, .any, .any, .any, .any, .any, .any, .any, .any, .any, .any, .any, .any, .any, .any, .any, .any, .any, .any, .any, .any, .any, .any, .any, .any, .any, .any, .any, .any, .any, .any, .any, .any, .any, .any, .any, .any, .any, .any, .any, .any, .any], [some (.row 17 [[.int .u16 a, .int .u16 b, .int .u8 w, .int .u8 m, .int .u16 t, .int .u16 s, .int .u8 r, .int .u8 p, .int .u16 k, .int .u16 f, .int .u8 e0, .int .u8 e1, .int .u8 g0, .int .u8 g1, .int .u8 h0, .int .u8 h1, .int .u8 z]]), some (.row 11 [[I 0, I 0, I 0, I 0, I 0, I 0, I 0, I 0, I 0, I 0, .nils]]), some (.row 11 [[I (1 + a), I b, I w, I (3 * t), I s, I (1 + 10 * r), I k, I (1 + 3 * p), I f, I (3 * m), .nils]]), none]⟩) ∨ (kk = 1 ∧ σ = ⟨[.any, .ref 0 0 0, .ref 1 0 0, .ref 2 0 0, I (1 + 7 * e0), I 1, .any, .any, .any, .any, .any, .any, .any, .any, .any, .any, .any, .any, .any, .any, .any, .any, .any, .any, .any, .any, .any, .any, .any, .any, .any, .any, .any, .any, .any, .any, .any, .any, .any, .any, .any, .any, .any, .any, .any, .any, .any, .any, .any, .any, .any, .any, .any, .any, .any, .any, .any, .any, .any, .any, .any, .any, .any, .any, .any, .any, .any, .any, .any, .any, .any, .any, .any, .any, .any, .any, .any], [some (.row 17 [[.int .u16 a, .int .u16 b, .int .u8 w, .int .u8 m, .int .u16 t, .int .u16 s, .int .u8 r, .int .u8 p, .int .u16 k, .int .u16 f, .int .u8 e0, .int .u8 e1, .int .u8 g0, .int .u8 g1, .int .u8 h0, .int .u8 h1, .int .u8 z]]), some (.row 11 [[I 0, I 0, I 0, I 0, I 0, I 0, I 0, I 0, I 0, I 0, .nils]]), some (.row 11 [[I (1 + a), I b, I w, I (3 * t), I s, I (1 + 10 * r), I k, I (1 + 3 * p), I f, I (3 * m), .sl 3 0 1 false]]), some (.row 2 [[I (1 + 7 * e0), I (2 * e1)]])]⟩) ∨ (kk = 2 ∧ σ = ⟨[.any, .ref 0 0 0, .ref 1 0 0, .ref 2 0 0, I (1 + 7 * e0 + (1 + 7 * g0)), I 2, .any, .any, .any, .any, .any, .any, .any, .any, .any, .any, .any, .any, .any, .any, .any, .any, .any, .any, .any, .any, .any, .any, .any, .any, .any, .any, .any, .any, .any, .any, .any, .any, .any, .any, .any, .any, .any, .any, .any, .any, .any, .any, .any, .any, .any, .any, .any, .any, .any, .any, .any, .any, .any, .any, .any, .any, .any, .any, .any, .any, .any, .any, .any, .any, .any, .any, .any, .any, .any, .any, .any], [some (.row 17 [[.int .u16 a, .int .u16 b, .int .u8 w, .int .u8 m, .int .u16 t, .int .u16 s, .int .u8 r, .int .u8 p, .int .u16 k, .int .u16 f, .int .u8 e0, .int .u8 e1, .int .u8 g0, .int .u8 g1, .int .u8 h0, .int .u8 h1, .int .u8 z]]), some (.row 11 [[I 0, I 0, I 0, I 0, I 0, I 0, I 0, I 0, I 0, I 0, .nils]]), some (.row 11 [[I (1 + a), I b, I w, I (3 * t), I s, I (1 + 10 * r), I k, I (1 + 3 * p), I f, I (3 * m), .sl 3 0 2 false]]), some (.row 2 [[I (1 + 7 * e0), I (2 * e1)], [I (1 + 7 * e0 + (1 + 7 * g0)), I (2 * g1)]])]⟩) ∨ (kk = 3 ∧ σ = ⟨[.any, .ref 0 0 0, .ref 1 0 0, .ref 2 0 0, I (1 + 7 * e0 + (1 + 7 * g0) + (1 + 7 * h0)), I 3, .any, .any, .any, .any, .any, .any, .any, .any, .any, .any, .any, .any, .any, .any, .any, .any, .any, .any, .any, .any, .any, .any, .any, .any, .any, .any, .any, .any, .any, .any, .any, .any, .any, .any, .any, .any, .any, .any, .any, .any, .any, .any, .any, .any, .any, .any, .any, .any, .any, .any, .any, .any, .any, .any, .any, .any, .any, .any, .any, .any, .any, .any, .any, .any, .any, .any, .any, .any, .any, .any, .any], [some (.row 17 [[.int .u16 a, .int .u16 b, .int .u8 w, .int .u8 m, .int .u16 t, .int .u16 s, .int .u8 r, .int .u8 p, .int .u16 k, .int .u16 f, .int .u8 e0, .int .u8 e1, .int .u8 g0, .int .u8 g1, .int .u8 h0, .int .u8 h1, .int .u8 z]]), some (.row 11 [[I 0, I 0, I 0, I 0, I 0, I 0, I 0, I 0, I 0, I 0, .nils]]), some (.row 11 [[I (1 + a), I b, I w, I (3 * t), I s, I (1 + 10 * r), I k, I (1 + 3 * p), I f, I (3 * m), .sl 3 0 3 false]]), some (.row 2 [[I (1 + 7 * e0), I (2 * e1)], [I (1 + 7 * e0 + (1 + 7 * g0)), I (2 * g1)], [I (1 + 7 * e0 + (1 + 7 * g0) + (1 + 7 * h0)), I (2 * h1)]])]⟩))) (by simp [lop, loud, callA, calleeA, lim, wa, wb, ww, wm, wt, ws, wr, wp, wk, wf, we0, we1, wg0, wg1, wh0, wh1, wz, wx1, wx2, wx3, wx4, wx5, wx6, wx7, wy00, wy01, wy02, wy10, wy11, wy12, wy20, wy21, wy22, wz0, wz1, wz2, wi0, wi1, wi2, hz, gather, takeG, resG, getR, putR, putG, okG, lowR, rowAt, rbB_row, rbB_none, rb_ref, rb_any] <;> rfl) (⟨0, by omega, rfl, .inl ⟨rfl, rfl⟩⟩) ?_
  rintro mm σ ⟨kk, hku, rfl, ⟨rfl, rfl⟩ | ⟨rfl, rfl⟩ | ⟨rfl, rfl⟩ | ⟨rfl, rfl⟩⟩
  · refine runs_seq ?_
    refine runs_seq ?_
    refine runs_reg (ops_run (by simp [lop, loud, callA, calleeA, lim, wa, wb, ww, wm, wt, ws, wr, wp, wk, wf, we0, we1, wg0, wg1, wh0, wh1, wz, wx1, wx2, wx3, wx4, wx5, wx6, wx7, wy00, wy01, wy02, wy10, wy11, wy12, wy20, wy21, wy22, wz0, wz1, wz2, wi0, wi1, wi2, hz, gather, takeG, resG, getR, putR, putG, okG, lowR, rowAt, rbB_row, rbB_none, rb_ref, rb_any]; rfl) ?_)
    simp only [AEx.thn, AEx.blk]
    refine runs_cond_split (x := decide ((0 : Int) < u)) (by simp) (fun hlt => ?_) (fun hlt => ?_)
    · have hlt := of_decide_eq_true hlt
      refine runs_skip ?_
      simp only [AEx.thn, AEx.blk]
      refine runs_seq ?_
      refine runs_block ?_
      refine runs_seq ?_
      refine runs_reg (ops_run (by simp [lop, loud, callA, calleeA, lim, wa, wb, ww, wm, wt, ws, wr, wp, wk, wf, we0, we1, wg0, wg1, wh0, wh1, wz, wx1, wx2, wx3, wx4, wx5, wx6, wx7, wy00, wy01, wy02, wy10, wy11, wy12, wy20, wy21, wy22, wz0, wz1, wz2, wi0, wi1, wi2, hz, gather, takeG, resG, getR, putR, putG, okG, lowR, rowAt, rbB_row, rbB_none, rb_ref, rb_any]; rfl) ?_)
      simp only [AEx.thn, AEx.blk]
      refine runs_drw (by simp (maxSteps := 3000000) [lop, loud, callA, calleeA, lim, wa, wb, ww, wm, wt, ws, wr, wp, wk, wf, we0, we1, wg0, wg1, wh0, wh1, wz, wx1, wx2, wx3, wx4, wx5, wx6, wx7, wy00, wy01, wy02, wy10, wy11, wy12, wy20, wy21, wy22, wz0, wz1, wz2, wi0, wi1, wi2, hz, gather, takeG, resG, getR, putR, putG, okG, lowR, rowAt, rbB_row, rbB_none, rb_ref, rb_any]; rfl) ?_
      simp only [AEx.thn, AEx.blk]
      refine runs_reg (ops_run (by simp [lop, loud, callA, calleeA, lim, wa, wb, ww, wm, wt, ws, wr, wp, wk, wf, we0, we1, wg0, wg1, wh0, wh1, wz, wx1, wx2, wx3, wx4, wx5, wx6, wx7, wy00, wy01, wy02, wy10, wy11, wy12, wy20, wy21, wy22, wz0, wz1, wz2, wi0, wi1, wi2, hz, gather, takeG, resG, getR, putR, putG, okG, lowR, rowAt, rbB_row, rbB_none, rb_ref, rb_any]; rfl) ?_)
      simp only [AEx.thn, AEx.blk]
      refine ⟨u.toNat - 1, _, _, by omega, by simp [lop, loud, callA, calleeA, lim, wa, wb, ww, wm, wt, ws, wr, wp, wk, wf, we0, we1, wg0, wg1, wh0, wh1, wz, wx1, wx2, wx3, wx4, wx5, wx6, wx7, wy00, wy01, wy02, wy10, wy11, wy12, wy20, wy21, wy22, wz0, wz1, wz2, wi0, wi1, wi2, hz, gather, takeG, resG, getR, putR, putG, okG, lowR, rowAt, rbB_row, rbB_none, rb_ref, rb_any] <;> rfl, 1, by omega, rfl, .inr (.inl ⟨rfl, rfl⟩)⟩
    · have hlt := of_decide_eq_false hlt
      obtain rfl : u = 0 := by omega
      refine runs_exit ?_
      simp only [AEx.thn, AEx.blk, if_true, if_false, reduceIte, Nat.reduceEqDiff, Nat.succ_ne_zero, Nat.one_ne_zero, Nat.zero_ne_one]
      refine runs_seq ?_
      refine runs_reg (ops_run (by simp [lop, loud, callA, calleeA, lim, wa, wb, ww, wm, wt, ws, wr, wp, wk, wf, we0, we1, wg0, wg1, wh0, wh1, wz, wx1, wx2, wx3, wx4, wx5, wx6, wx7, wy00, wy01, wy02, wy10, wy11, wy12, wy20, wy21, wy22, wz0, wz1, wz2, wi0, wi1, wi2, gather, takeG, resG, getR, putR, putG, okG, lowR, rowAt, rbB_row, rbB_none, rb_ref, rb_any]; rfl) ?_)
      simp only [AEx.thn, AEx.blk]
      refine runs_ret ?_
      simp [lop, loud, callA, calleeA, lim, wa, wb, ww, wm, wt, ws, wr, wp, wk, wf, we0, we1, wg0, wg1, wh0, wh1, wz, wx1, wx2, wx3, wx4, wx5, wx6, wx7, wy00, wy01, wy02, wy10, wy11, wy12, wy20, wy21, wy22, wz0, wz1, wz2, wi0, wi1, wi2, gather, takeG, resG, getR, putR, putG, okG, lowR, rowAt, rbB_row, rbB_none, rb_ref, rb_any, trim, vQ, offerQ, offY, stepsFrom, rP]
  · refine runs_seq ?_
    refine runs_seq ?_
    refine runs_reg (ops_run (by simp [lop, loud, callA, calleeA, lim, wa, wb, ww, wm, wt, ws, wr, wp, wk, wf, we0, we1, wg0, wg1, wh0, wh1, wz, wx1, wx2, wx3, wx4, wx5, wx6, wx7, wy00, wy01, wy02, wy10, wy11, wy12, wy20, wy21, wy22, wz0, wz1, wz2, wi0, wi1, wi2, hz, gather, takeG, resG, getR, putR, putG, okG, lowR, rowAt, rbB_row, rbB_none, rb_ref, rb_any]; rfl) ?_)
    simp only [AEx.thn, AEx.blk]
    refine runs_cond_split (x := decide ((1 : Int) < u)) (by simp) (fun hlt => ?_) (fun hlt => ?_)
    · have hlt := of_decide_eq_true hlt
      refine runs_skip ?_
      simp only [AEx.thn, AEx.blk]
      refine runs_seq ?_
      refine runs_block ?_
      refine runs_seq ?_
      refine runs_reg (ops_run (by simp [lop, loud, callA, calleeA, lim, wa, wb, ww, wm, wt, ws, wr, wp, wk, wf, we0, we1, wg0, wg1, wh0, wh1, wz, wx1, wx2, wx3, wx4, wx5, wx6, wx7, wy00, wy01, wy02, wy10, wy11, wy12, wy20, wy21, wy22, wz0, wz1, wz2, wi0, wi1, wi2, hz, gather, takeG, resG, getR, putR, putG, okG, lowR, rowAt, rbB_row, rbB_none, rb_ref, rb_any]; rfl) ?_)
      simp only [AEx.thn, AEx.blk]
      refine runs_drw (by simp (maxSteps := 3000000) [lop, loud, callA, calleeA, lim, wa, wb, ww, wm, wt, ws, wr, wp, wk, wf, we0, we1, wg0, wg1, wh0, wh1, wz, wx1, wx2, wx3, wx4, wx5, wx6, wx7, wy00, wy01, wy02, wy10, wy11, wy12, wy20, wy21, wy22, wz0, wz1, wz2, wi0, wi1, wi2, hz, gather, takeG, resG, getR, putR, putG, okG, lowR, rowAt, rbB_row, rbB_none, rb_ref, rb_any]; rfl) ?_
      simp only [AEx.thn, AEx.blk]
      refine runs_reg (ops_run (by simp [lop, loud, callA, calleeA, lim, wa, wb, ww, wm, wt, ws, wr, wp, wk, wf, we0, we1, wg0, wg1, wh0, wh1, wz, wx1, wx2, wx3, wx4, wx5, wx6, wx7, wy00, wy01, wy02, wy10, wy11, wy12, wy20, wy21, wy22, wz0, wz1, wz2, wi0, wi1, wi2, hz, gather, takeG, resG, getR, putR, putG, okG, lowR, rowAt, rbB_row, rbB_none, rb_ref, rb_any]; rfl) ?_)
      simp only [AEx.thn, AEx.blk]
      refine ⟨u.toNat - 2, _, _, by omega, by simp [lop, loud, callA, calleeA, lim, wa, wb, ww, wm, wt, ws, wr, wp, wk, wf, we0, we1, wg0, wg1, wh0, wh1, wz, wx1, wx2, wx3, wx4, wx5, wx6, wx7, wy00, wy01, wy02, wy10, wy11, wy12, wy20, wy21, wy22, wz0, wz1, wz2, wi0, wi1, wi2, hz, gather, takeG, resG, getR, putR, putG, okG, lowR, rowAt, rbB_row, rbB_none, rb_ref, rb_any] <;> rfl, 2, by omega, rfl, .inr (.inr (.inl ⟨rfl, rfl⟩))⟩
    · have hlt := of_decide_eq_false hlt
      obtain rfl : u = 1 := by omega
      refine runs_exit ?_
      simp only [AEx.thn, AEx.blk, if_true, if_false, reduceIte, Nat.reduceEqDiff, Nat.succ_ne_zero, Nat.one_ne_zero, Nat.zero_ne_one]
      refine runs_seq ?_
      refine runs_reg (ops_run (by simp [lop, loud, callA, calleeA, lim, wa, wb, ww, wm, wt, ws, wr, wp, wk, wf, we0, we1, wg0, wg1, wh0, wh1, wz, wx1, wx2, wx3, wx4, wx5, wx6, wx7, wy00, wy01, wy02, wy10, wy11, wy12, wy20, wy21, wy22, wz0, wz1, wz2, wi0, wi1, wi2, gather, takeG, resG, getR, putR, putG, okG, lowR, rowAt, rbB_row, rbB_none, rb_ref, rb_any]; rfl) ?_)
      simp only [AEx.thn, AEx.blk]
      refine runs_ret ?_
      simp [lop, loud, callA, calleeA, lim, wa, wb, ww, wm, wt, ws, wr, wp, wk, wf, we0, we1, wg0, wg1, wh0, wh1, wz, wx1, wx2, wx3, wx4, wx5, wx6, wx7, wy00, wy01, wy02, wy10, wy11, wy12, wy20, wy21, wy22, wz0, wz1, wz2, wi0, wi1, wi2, gather, takeG, resG, getR, putR, putG, okG, lowR, rowAt, rbB_row, rbB_none, rb_ref, rb_any, trim, vQ, offerQ, offY, stepsFrom, rP]
  · refine runs_seq ?_
    refine runs_seq ?_
    refine runs_reg (ops_run (by simp [lop, loud, callA, calleeA, lim, wa, wb, ww, wm, wt, ws, wr, wp, wk, wf, we0, we1, wg0, wg1, wh0, wh1, wz, wx1, wx2, wx3, wx4, wx5, wx6, wx7, wy00, wy01, wy02, wy10, wy11, wy12, wy20, wy21, wy22, wz0, wz1, wz2, wi0, wi1, wi2, hz, gather, takeG, resG, getR, putR, putG, okG, lowR, rowAt, rbB_row, rbB_none, rb_ref, rb_any]; rfl) ?_)
    simp only [AEx.thn, AEx.blk]
    refine runs_cond_split (x := decide ((2 : Int) < u)) (by simp) (fun hlt => ?_) (fun hlt => ?_)
    · have hlt := of_decide_eq_true hlt
      refine runs_skip ?_
      simp only [AEx.thn, AEx.blk]
      refine runs_seq ?_
      refine runs_block ?_
      refine runs_seq ?_
      refine runs_reg (ops_run (by simp [lop, loud, callA, calleeA, lim, wa, wb, ww, wm, wt, ws, wr, wp, wk, wf, we0, we1, wg0, wg1, wh0, wh1, wz, wx1, wx2, wx3, wx4, wx5, wx6, wx7, wy00, wy01, wy02, wy10, wy11, wy12, wy20, wy21, wy22, wz0, wz1, wz2, wi0, wi1, wi2, hz, gather, takeG, resG, getR, putR, putG, okG, lowR, rowAt, rbB_row, rbB_none, rb_ref, rb_any]; rfl) ?_)
      simp only [AEx.thn, AEx.blk]
      refine runs_drw (by simp (maxSteps := 3000000) [lop, loud, callA, calleeA, lim, wa, wb, ww, wm, wt, ws, wr, wp, wk, wf, we0, we1, wg0, wg1, wh0, wh1, wz, wx1, wx2, wx3, wx4, wx5, wx6, wx7, wy00, wy01, wy02, wy10, wy11, wy12, wy20, wy21, wy22, wz0, wz1, wz2, wi0, wi1, wi2, hz, gather, takeG, resG, getR, putR, putG, okG, lowR, rowAt, rbB_row, rbB_none, rb_ref, rb_any]; rfl) ?_
      simp only [AEx.thn, AEx.blk]
      refine runs_reg (ops_run (by simp [lop, loud, callA, calleeA, lim, wa, wb, ww, wm, wt, ws, wr, wp, wk, wf, we0, we1, wg0, wg1, wh0, wh1, wz, wx1, wx2, wx3, wx4, wx5, wx6, wx7, wy00, wy01, wy02, wy10, wy11, wy12, wy20, wy21, wy22, wz0, wz1, wz2, wi0, wi1, wi2, hz, gather, takeG, resG, getR, putR, putG, okG, lowR, rowAt, rbB_row, rbB_none, rb_ref, rb_any]; rfl) ?_)
      simp only [AEx.thn, AEx.blk]
      refine ⟨u.toNat - 3, _, _, by omega, by simp [lop, loud, callA, calleeA, lim, wa, wb, ww, wm, wt, ws, wr, wp, wk, wf, we0, we1, wg0, wg1, wh0, wh1, wz, wx1, wx2, wx3, wx4, wx5, wx6, wx7, wy00, wy01, wy02, wy10, wy11, wy12, wy20, wy21, wy22, wz0, wz1, wz2, wi0, wi1, wi2, hz, gather, takeG, resG, getR, putR, putG, okG, lowR, rowAt, rbB_row, rbB_none, rb_ref, rb_any] <;> rfl, 3, by omega, rfl, .inr (.inr (.inr (⟨rfl, rfl⟩)))⟩
    · have hlt := of_decide_eq_false hlt
      obtain rfl : u = 2 := by omega
      refine runs_exit ?_
      simp only [AEx.thn, AEx.blk, if_true, if_false, reduceIte, Nat.reduceEqDiff, Nat.succ_ne_zero, Nat.one_ne_zero, Nat.zero_ne_one]
      refine runs_seq ?_
      refine runs_reg (ops_run (by simp [lop, loud, callA, calleeA, lim, wa, wb, ww, wm, wt, ws, wr, wp, wk, wf, we0, we1, wg0, wg1, wh0, wh1, wz, wx1, wx2, wx3, wx4, wx5, wx6, wx7, wy00, wy01, wy02, wy10, wy11, wy12, wy20, wy21, wy22, wz0, wz1, wz2, wi0, wi1, wi2, gather, takeG, resG, getR, putR, putG, okG, lowR, rowAt, rbB_row, rbB_none, rb_ref, rb_any]; rfl) ?_)
      simp only [AEx.thn, AEx.blk]
      refine runs_ret ?_
      simp [lop, loud, callA, calleeA, lim, wa, wb, ww, wm, wt, ws, wr, wp, wk, wf, we0, we1, wg0, wg1, wh0, wh1, wz, wx1, wx2, wx3, wx4, wx5, wx6, wx7, wy00, wy01, wy02, wy10, wy11, wy12, wy20, wy21, wy22, wz0, wz1, wz2, wi0, wi1, wi2, gather, takeG, resG, getR, putR, putG, okG, lowR, rowAt, rbB_row, rbB_none, rb_ref, rb_any, trim, vQ, offerQ, offY, stepsFrom, rP]
  · obtain rfl : u = 3 := by omega
    refine runs_seq ?_
    refine runs_seq ?_
    refine runs_reg (ops_run (by simp [lop, loud, callA, calleeA, lim, wa, wb, ww, wm, wt, ws, wr, wp, wk, wf, we0, we1, wg0, wg1, wh0, wh1, wz, wx1, wx2, wx3, wx4, wx5, wx6, wx7, wy00, wy01, wy02, wy10, wy11, wy12, wy20, wy21, wy22, wz0, wz1, wz2, wi0, wi1, wi2, hz, gather, takeG, resG, getR, putR, putG, okG, lowR, rowAt, rbB_row, rbB_none, rb_ref, rb_any]; rfl) ?_)
    simp only [AEx.thn, AEx.blk]
    refine runs_cond (x := false) (by simp) ?_
    refine runs_exit ?_
    simp only [AEx.thn, AEx.blk, if_true, if_false, reduceIte, Nat.reduceEqDiff, Nat.succ_ne_zero, Nat.one_ne_zero, Nat.zero_ne_one]
    refine runs_seq ?_
    refine runs_reg (ops_run (by simp [lop, loud, callA, calleeA, lim, wa, wb, ww, wm, wt, ws, wr, wp, wk, wf, we0, we1, wg0, wg1, wh0, wh1, wz, wx1, wx2, wx3, wx4, wx5, wx6, wx7, wy00, wy01, wy02, wy10, wy11, wy12, wy20, wy21, wy22, wz0, wz1, wz2, wi0, wi1, wi2, hz, gather, takeG, resG, getR, putR, putG, okG, lowR, rowAt, rbB_row, rbB_none, rb_ref, rb_any]; rfl) ?_)
    simp only [AEx.thn, AEx.blk]
    refine runs_ret ?_
    simp [lop, loud, callA, calleeA, lim, wa, wb, ww, wm, wt, ws, wr, wp, wk, wf, we0, we1, wg0, wg1, wh0, wh1, wz, wx1, wx2, wx3, wx4, wx5, wx6, wx7, wy00, wy01, wy02, wy10, wy11, wy12, wy20, wy21, wy22, wz0, wz1, wz2, wi0, wi1, wi2, hz, gather, takeG, resG, getR, putR, putG, okG, lowR, rowAt, rbB_row, rbB_none, rb_ref, rb_any, trim, vQ, offerQ, offY, stepsFrom, rP]
noncomputable def PM1 : Nat → Option CFn := updG PL 39 [(62, [.cell 3 10])] []
theorem PM1_ok : TabOk Try.prog GG PM1 := tab_updG PL_ok
noncomputable def PM_39 : Nat → Option CFn := upd PM1 39 true (oOffer)
theorem PM_39_ok : TabOk Try.prog GG PM_39 := tab_add mixed PM1_ok fun args v ho => by
  unfold oOffer at ho; split at ho <;> (try simp at ho)
  rename_i a b w m t s r p k f e0 e1 g0 g1 h0 h1 z
  obtain ⟨hg, rfl⟩ := ho
  exact a39 Try.prog PM1 rfl a b w m t s r p k f e0 e1 g0 g1 h0 h1 z hg
noncomputable def PM_42 : Nat → Option CFn := upd PM_39 42 true (oOffL)
theorem PM_42_ok : TabOk Try.prog GG PM_42 := tab_add mixed PM_39_ok fun args v ho => by
  unfold oOffL at ho; split at ho <;> (try simp at ho)
  rename_i v n
  split at ho <;> (try simp at ho)
  rename_i q hq
  obtain ⟨x, rfl, hx, hl⟩ := dQ_eq hq
  try simp at ho
  subst ho
  exact a42 Try.prog PM_39 rfl q x hx hl n
noncomputable def PM : Nat → Option CFn := upd PM_42 43 true (oCost)
theorem PM_ok : TabOk Try.prog GG PM := tab_add mixed PM_42_ok fun args v ho => by
  unfold oCost at ho; split at ho <;> (try simp at ho)
  rename_i a b c d e
  obtain ⟨hg, rfl⟩ := ho
  exact a43 Try.prog PM_42 rfl  a b c d e hg
end
end Go.Proofs.Ytfnnonoffiljhaa.Tab

namespace Go.Proofs.Ytfnnonoffiljhaa.Tab
open Go Go.Abs Go.Proofs
set_option maxRecDepth 100000
set_option maxHeartbeats 4000000
set_option linter.unusedSimpArgs false
set_option linter.unusedVariables false
section
attribute [local simp] frz_int frz_bool frz_vl frz_pv frz_agg frz_tup frz_fn frz_ref frz_sl frz_nils optAll orcF rb_int rb_bool rb_agg rb_tup rb_int' rb_bool' rb_vl rb_pv rb_yld rb_nilf rb_nilp rb_nils rb_any rb_und rb_ref rb_sl rb_fn slE chunk fillA evParts evParts3 putAt List.range_succ List.range_zero List.range'_succ List.range'_zero runX_nil' unary_not evalS_pure evAll_nil evAll_cons runX_cons stepX wantedA dop CV.ev putK_eq setK_eq appK_eq fA_eq fI_eq fN_eq fRow_eq fRows_eq nth_eq Out.v putT List.replicate_succ AEx.thn AEx.blk arI pointee Abs.rowAt ldRow allV toV toC ofV ofC Builtin.min_ Builtin.min2 Builtin.max_ Builtin.max2 min_if max_if resA tupA kill trim_self trim_len trim_emp trim_nil lenA
attribute [local simp] runD_nil' runD_cons' stepD actK_eq actD clash disj masks holes maskH unmaskH diffs news eqB allB eqA ldRowN wrote toCs ofCs stA rowsV_vl rowsV_nils rowsOf dI1 dI2 dI3 dI5 elt
attribute [local simp] st_any st_und st_agg st_tup st_bool st_int st_nilp st_ref st_pv st_nils st_sl st_vl st_nilm st_mp st_fn st_nilf st_yld co_any co_und co_agg co_tup co_bool co_int co_nilp co_ref co_pv co_nils co_sl co_vl co_nilm co_mp co_fn co_nilf co_yld
/-- A quote in bytes is valid. -/
theorem offer_ex (za zb zw zm zt zs zr zp zk zf ze0 ze1 zg0 zg1 zh0 zh1 zz : Int) (hg : (0 ≤ za ∧ za ≤ 65535) ∧ (0 ≤ zb ∧ zb ≤ 65535) ∧ (0 ≤ zw ∧ zw ≤ 255) ∧ (0 ≤ zm ∧ zm ≤ 255) ∧ (0 ≤ zt ∧ zt ≤ 65535) ∧ (0 ≤ zs ∧ zs ≤ 65535) ∧ (0 ≤ zr ∧ zr ≤ 255) ∧ (0 ≤ zp ∧ zp ≤ 255) ∧ (0 ≤ zk ∧ zk ≤ 65535) ∧ (0 ≤ zf ∧ zf ≤ 65535) ∧ (0 ≤ ze0 ∧ ze0 ≤ 255) ∧ (0 ≤ ze1 ∧ ze1 ≤ 255) ∧ (0 ≤ zg0 ∧ zg0 ≤ 255) ∧ (0 ≤ zg1 ∧ zg1 ≤ 255) ∧ (0 ≤ zh0 ∧ zh0 ≤ 255) ∧ (0 ≤ zh1 ∧ zh1 ≤ 255) ∧ (0 ≤ zz ∧ zz ≤ 255)) : ∃ (q : PQ) (x : AVal), oOffer [.agg [.int .u16 za, .int .u16 zb, .int .u8 zw, .int .u8 zm, .int .u16 zt, .int .u16 zs, .int .u8 zr, .int .u8 zp, .int .u16 zk, .int .u16 zf, .int .u8 ze0, .int .u8 ze1, .int .u8 zg0, .int .u8 zg1, .int .u8 zh0, .int .u8 zh1, .int .u8 zz]] = some (vQ q x) ∧ rowsV x = some (q.steps.map rP) ∧ checkQ q = 0 ∧ q.steps.length ≤ 3 := by
  refine ⟨offerQ za zb zw zm zt zs zr zp zk zf (offL ze0 ze1 zg0 zg1 zh0 zh1 zz), offY (offL ze0 ze1 zg0 zg1 zh0 zh1 zz), ?_, ?_, ?_, ?_⟩
  · simp only [oOffer]; rw [if_pos hg]
  · show rowsV (offY (offL ze0 ze1 zg0 zg1 zh0 zh1 zz)) = some ((stepsFrom 0 (offL ze0 ze1 zg0 zg1 zh0 zh1 zz)).map rP)
    generalize offL ze0 ze1 zg0 zg1 zh0 zh1 zz = l
    cases l <;> rfl
  · obtain ⟨bza, bzb, bzw, bzm, bzt, bzs, bzr, bzp, bzk, bzf, bze0, bze1, bzg0, bzg1, bzh0, bzh1, bzz⟩ := hg
    refine offer_ok bza bzb bzw bzm bzt bzs bzr bzp bzk bzf ?_ ?_
    · unfold offL; rw [List.length_take]; exact Nat.le_trans (Nat.min_le_right _ _) (Nat.le_refl _)
    · intro s hs
      have hs := List.mem_of_mem_take (show s ∈ [(ze0, ze1), (zg0, zg1), (zh0, zh1)].take (offN zz) from hs)
      simp only [List.mem_cons, List.not_mem_nil, or_false] at hs
      rcases hs with rfl | rfl | rfl
      · exact ⟨bze0, bze1⟩
      · exact ⟨bzg0, bzg1⟩
      · exact ⟨bzh0, bzh1⟩
  · show (stepsFrom 0 (offL ze0 ze1 zg0 zg1 zh0 zh1 zz)).length ≤ 3
    rw [stepsFrom_len]
    unfold offL; rw [List.length_take]; exact Nat.le_trans (Nat.min_le_right _ _) (Nat.le_refl _)
theorem wv16 {n : Int} (h : 0 ≤ n ∧ n ≤ 65535) : W .i64 n = n := W_fit (by omega)
end
end Go.Proofs.Ytfnnonoffiljhaa.Tab
