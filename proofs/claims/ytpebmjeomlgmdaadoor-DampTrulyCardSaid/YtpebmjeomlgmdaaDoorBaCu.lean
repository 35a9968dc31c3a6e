/- Contracts of the reference's Hours and Kept. No condition. -/
import Derived.Test.YtpebmjeomlgmdaaDoorBaRw
import Derived.Test.YtpebmjeomlgmdaaDoorBaCt
set_option linter.unusedSimpArgs false
set_option linter.unusedVariables false
namespace Go.Proofs.YtpebmjeomlgmdaaDoor.Tab
open Go Go.Abs Go.Proofs
set_option maxRecDepth 100000
set_option maxHeartbeats 4000000
section
attribute [local simp] frz_int frz_bool frz_vl frz_pv frz_agg frz_tup frz_fn frz_ref frz_sl frz_nils optAll orcF rb_int rb_bool rb_agg rb_tup rb_int' rb_bool' rb_vl rb_pv rb_yld rb_nilf rb_nilp rb_nils rb_any rb_und rb_ref rb_sl rb_fn slE chunk fillA evParts evParts3 putAt List.range_succ List.range_zero List.range'_succ List.range'_zero runX_nil' unary_not evalS_pure evAll_nil evAll_cons runX_cons stepX wantedA dop CV.ev cellsOf putK_eq setK_eq appK_eq fA_eq fI_eq fN_eq fRow_eq fRows_eq nth_eq Out.v putT List.replicate_succ AEx.thn AEx.blk arI pointee Abs.rowAt ldRow allV toV toC ofV ofC Builtin.min_ Builtin.min2 Builtin.max_ Builtin.max2 min_if max_if resA tupA kill trim_self trim_len trim_emp trim_nil lenA
attribute [local simp] runD_nil' runD_cons' stepD actK_eq actD clash disj masks holes maskH unmaskH diffs news eqB allB eqA ldRowN wrote toCs ofCs stA storable rowsV_vl rowsV_nils rowsOf dI1 dI2 dI3 dI5 elt
abbrev Step := Int × Int
def rStep (t : Step) : List AVal := [I t.1, I t.2]
def o66 : List AVal → Option AVal
  | [.agg [.int .i64 l, .int .i64 h], .agg [.int .i64 a, .int .i64 b]] => some (.bool (liesB l h a b))
  | _ => none
/-- How much is kept at a moisture. -/
def kept (m : Int) (ts : List Step) : Int := ts.foldl (fun n t => if t.1 ≤ m then t.2 else n) 0
def o65 : List AVal → Option AVal
  | [x, .int .i64 m] => match rowsV x with
    | some rs => match optAll dI2 rs with
      | some ts => if ts.length ≤ 1000 then some (.int .i64 (kept m ts)) else none
      | none => none
    | none => none
  | _ => none

theorem a66 (P : Program) (T : Nat → Option CFn) (hT : T 66 = some c66) (l r a b : Int) : Answers P T 66 [.agg [I l, I r], .agg [I a, I b]] [] fun v h => v = .bool (liesB l r a b) ∧ h = [] := by
  refine answers_of hT (orcF_none rfl) ?_
  simp only [c66]
  refine runs_seq (runs_reg (ops_run (by simp; rfl) ?_))
  simp only [AEx.thn, AEx.blk]
  unfold liesB
  by_cases hx : a ≤ l
  · refine runs_seq (runs_reg (ops_run (by simp [hx]; rfl) ?_))
    simp only [AEx.thn, AEx.blk]
    refine runs_ret ?_
    simp [hx]
  · refine runs_seq (runs_reg (ops_run (by simp [hx]; rfl) ?_))
    simp only [AEx.thn, AEx.blk]
    refine runs_ret ?_
    simp [hx]
theorem a65 (P : Program) (T : Nat → Option CFn) (hT : T 65 = some c65) (m : Int) (x : AVal) (ts : List Step) (hx : rowsV x = some (ts.map rStep)) (hl : ts.length ≤ 1000) : Answers P T 65 [x, I m] [] fun v h => v = I (kept m ts) ∧ h = [] := by
  have lx := rowsV_len hx
  rw [List.length_map] at lx
  refine answers_of hT (orcF_none rfl) ?_
  simp only [c65]
  refine runs_seq (runs_reg (ops_run (by simp; rfl) ?_))
  simp only [AEx.thn, AEx.blk]
  refine runs_seq (runs_reg (ops_run (by simp; rfl) ?_))
  simp only [AEx.thn, AEx.blk]
  refine runs_seq (runs_seq (runs_reg (ops_run (by simp; rfl) ?_)))
  simp only [AEx.thn, AEx.blk]
  refine runs_block ?_
  refine runs_loop_inv (fun q σ => ∃ (k : Nat) (i n : Int), i = k ∧ q = ts.length - k ∧ k ≤ ts.length ∧ (ts.drop k).foldl (fun n t => if t.1 ≤ m then t.2 else n) n = kept m ts ∧
    σ = ⟨[x, I m, .any, .any, .any, I n, I i, .any, .any, .any, .any, .any, .any, .any, .any, .any, .any, .any, .any, .any, .any, .any, .any, .any, .any, .any], []⟩) ?_ (ts.length - 0) _ ⟨0, 0, 0, rfl, rfl, Nat.zero_le _, rfl, by simp⟩
  rintro q σ ⟨k, i, n, hik, rfl, hk, hn, rfl⟩
  have h0 : 0 ≤ i := by omega
  have htn : i.toNat = k := by omega
  refine runs_seq (runs_seq (runs_reg (ops_run (by simp [lx, -lenA]; rfl) ?_)))
  simp only [AEx.thn, AEx.blk]
  refine runs_cond_split (x := decide (i < (ts.length : Int))) (by simp) (fun hlt => ?_) (fun hge => ?_)
  · refine runs_skip ?_
    simp only [AEx.thn, AEx.blk]
    have hlt' : k < ts.length := by have := of_decide_eq_true hlt; omega
    have hw : W .i64 (i + 1) = i + 1 := W_small (by omega)
    obtain ⟨tt, rfl⟩ := rowsV_get hx (k := k) (by simpa using hlt')
    rw [List.drop_eq_getElem_cons hlt'] at hn
    generalize hs : ts[k] = t at hn
    obtain ⟨tm, tk⟩ := t
    rw [List.foldl_cons] at hn
    refine runs_seq (runs_block (runs_seq (runs_reg (ops_run (by simp [h0, htn, hlt', hs, rStep]; rfl) ?_))))
    simp only [AEx.thn, AEx.blk]
    refine runs_cond_split (x := decide (tm ≤ m)) (by simp) (fun hc => ?_) (fun hc => ?_)
    · have hc := of_decide_eq_true hc
      rw [if_pos hc] at hn
      refine runs_reg (ops_run (by simp [h0, htn, hlt', hs, rStep]; rfl) ?_)
      simp only [AEx.thn, AEx.blk]
      refine runs_reg (ops_run (by simp [hw]; rfl) ?_)
      simp only [AEx.thn, AEx.blk]
      exact ⟨ts.length - (k + 1), by omega, k + 1, i + 1, tk, by omega, rfl, by omega, hn, by simp⟩
    · have hc := of_decide_eq_false hc
      rw [if_neg hc] at hn
      refine runs_skip ?_
      simp only [AEx.thn, AEx.blk]
      refine runs_reg (ops_run (by simp [hw]; rfl) ?_)
      simp only [AEx.thn, AEx.blk]
      exact ⟨ts.length - (k + 1), by omega, k + 1, i + 1, n, by omega, rfl, by omega, hn, by simp⟩
  · refine runs_exit ?_
    simp only [AEx.thn, AEx.blk, if_true]
    have hke : k = ts.length := by
      have := of_decide_eq_false hge
      omega
    subst hke
    rw [List.drop_length] at hn
    simp only [List.foldl_nil] at hn
    refine runs_seq (runs_reg (ops_run (by simp; rfl) ?_))
    simp only [AEx.thn, AEx.blk]
    refine runs_ret ?_
    simp [hn]

theorem eq86n (x y : Operand) (a0 a1 b0 b1 : Int) : evalS Tryd.prog (do eqGuard .neq 86 x y (.agg #[.int .i64 a0, .int .i64 a1]) (.agg #[.int .i64 b0, .int .i64 b1]); binOp .neq 86 (.agg #[.int .i64 a0, .int .i64 a1]) (.agg #[.int .i64 b0, .int .i64 b1])) = some (.bool (!((a0 == b0) && ((a1 == b1) && true)))) := by
  have h := evalS_eqv (P := Tryd.prog) (ne := true) (t := 86) (x := x) (y := y) (xs := #[.int .i64 a0, .int .i64 a1]) (ys := #[.int .i64 b0, .int .i64 b1]) (b := ((a0 == b0) && ((a1 == b1) && true))) (by kernel_rfl) (by kernel_rfl)
  simpa only [if_true, if_false, Bool.false_eq_true, Bool.bne_true, Bool.bne_false] using h

theorem eq86e (x y : Operand) (a0 a1 b0 b1 : Int) : evalS Tryd.prog (do eqGuard .eql 86 x y (.agg #[.int .i64 a0, .int .i64 a1]) (.agg #[.int .i64 b0, .int .i64 b1]); binOp .eql 86 (.agg #[.int .i64 a0, .int .i64 a1]) (.agg #[.int .i64 b0, .int .i64 b1])) = some (.bool (((a0 == b0) && ((a1 == b1) && true)))) := by
  have h := evalS_eqv (P := Tryd.prog) (ne := false) (t := 86) (x := x) (y := y) (xs := #[.int .i64 a0, .int .i64 a1]) (ys := #[.int .i64 b0, .int .i64 b1]) (b := ((a0 == b0) && ((a1 == b1) && true))) (by kernel_rfl) (by kernel_rfl)
  simpa only [if_true, if_false, Bool.false_eq_true, Bool.bne_true, Bool.bne_false] using h

theorem a23 (T : Nat → Option CFn) (hT : T 23 = some c23) (x y : AVal) (rs : List (List AVal)) (hx : rowsV x = some rs) (hy : rowsV y = some rs) (hl : rs.length ≤ 1000) (hr : ∀ r ∈ rs, ∃ y0 y1 : Int, r = [I y0, I y1]) : Answers Tryd.prog T 23 [x, y] [] fun v h => v = .bool true ∧ h = [] := by
  refine answers_of hT (orcF_none rfl) ?_
  simp only [c23]
  have lx := rowsV_len hx
  have ly := rowsV_len hy
  refine runs_seq (runs_reg (ops_run (by simp; rfl) ?_))
  simp only [AEx.thn, AEx.blk]
  refine runs_seq (runs_seq (runs_reg (ops_run (by simp [lx, ly, -lenA]; rfl) ?_)))
  simp only [AEx.thn, AEx.blk]
  refine runs_cond (x := false) (by simp) ?_
  refine runs_skip ?_
  simp only [AEx.thn, AEx.blk]
  refine runs_seq (runs_seq (runs_reg (ops_run (by simp; rfl) ?_)))
  simp only [AEx.thn, AEx.blk]
  refine runs_block ?_
  refine runs_loop_inv (fun m σ => ∃ (k : Nat) (i : Int), i = k ∧ m = rs.length - k ∧ k ≤ rs.length ∧
     σ = ⟨[x, y, .any, .any, .any, I i, .any, .any, .any, .any, .any, .any, .any, .any, .any, .any, .any, .any, .any, .any, .any, .any, .any, .any, .any, .any], []⟩) ?_ (rs.length - 0) _ ⟨0, 0, rfl, rfl, Nat.zero_le _, by simp⟩
  rintro m σ ⟨k, i, hik, rfl, hk, rfl⟩
  have h0 : 0 ≤ i := by omega
  have htn : i.toNat = k := by omega
  refine runs_seq (runs_seq (runs_reg (ops_run (by simp [lx, -lenA]; rfl) ?_)))
  simp only [AEx.thn, AEx.blk]
  refine runs_cond_split (x := decide (i < rs.length)) (by simp) (fun hlt => ?_) (fun hge => ?_)
  · refine runs_skip ?_
    simp only [AEx.thn, AEx.blk]
    have hlt' : k < rs.length := by have := of_decide_eq_true hlt; omega
    obtain ⟨t1, rfl⟩ := rowsV_get hx hlt'
    obtain ⟨t2, rfl⟩ := rowsV_get hy hlt'
    obtain ⟨y0, y1, hrk⟩ := hr _ (List.getElem_mem hlt')
    refine runs_seq (runs_block ?_)
    refine runs_seq (runs_drw (by simp [h0, htn, hlt', hrk, eq86n]; rfl) ?_)
    simp only [AEx.thn, AEx.blk]
    refine runs_cond (x := false) (by simp) ?_
    refine runs_skip ?_
    simp only [AEx.thn, AEx.blk]
    refine runs_reg (ops_run (by simp; rfl) ?_)
    simp only [AEx.thn, AEx.blk]
    refine ⟨rs.length - (k + 1), by omega, k + 1, i + 1, by omega, rfl, by omega, ?_⟩
    simp [W_small (show -1000000 ≤ i + 1 ∧ i + 1 ≤ 1000000 by omega)]
  · refine runs_exit ?_
    simp only [AEx.thn, AEx.blk, if_true]
    refine runs_seq (runs_reg (ops_run (by simp; rfl) ?_))
    simp only [AEx.thn, AEx.blk]
    refine runs_ret ?_
    simp

noncomputable def TM1_66 : Nat → Option CFn := upd TK 66 true (o66)
theorem TM1_66_ok : TabOk Tryd.prog GG TM1_66 := tab_add mixed TK_ok fun args v ho => by
  unfold o66 at ho; split at ho <;> simp at ho
  rename_i a b c e
  subst ho
  refine (a66 Tryd.prog TK rfl a b c e).mono ?_
  rintro v h ⟨rfl, rfl⟩
  rfl
noncomputable def TM1_65 : Nat → Option CFn := upd TM1_66 65 true (o65)
theorem TM1_65_ok : TabOk Tryd.prog GG TM1_65 := tab_add mixed TM1_66_ok fun args v ho => by
  unfold o65 at ho; split at ho <;> (try simp at ho)
  rename_i x m
  split at ho <;> (try simp at ho)
  rename_i rs hx
  split at ho <;> (try simp at ho)
  rename_i xs hxs
  obtain ⟨hl, rfl⟩ := ho
  have e := optAll_eq dI2_eq hxs
  subst e
  refine (a65 Tryd.prog TM1_66 rfl m x xs hx hl).mono ?_
  rintro v h ⟨rfl, rfl⟩
  rfl
noncomputable def TM1 : Nat → Option CFn := upd TM1_65 23 true (oSame 2)
theorem TM1_ok : TabOk Tryd.prog GG TM1 := tab_add mixed TM1_65_ok fun args v ho => by
  unfold oSame at ho; split at ho <;> (try simp at ho)
  rename_i x y
  split at ho <;> simp at ho
  rename_i rs rs' hx hy
  obtain ⟨⟨hl, hr, he⟩, rfl⟩ := ho
  have e : rs' = rs := allB_rows rs rs' he fun r h => (hr r h).2
  subst e
  refine (a23 TM1_65 rfl x y rs' hx hy hl fun r h => ints2 (hr r h).1 (hr r h).2).mono ?_
  rintro v h ⟨rfl, rfl⟩
  rfl
/-- The reference's Hours, hour by hour. -/
def rhRun (u d rl rh ll lh most : Int) : Nat → Int → Int → Int → Int → Int
  | 0, _, _, _, n => n
  | f + 1, hour, lo, hi, n => if decide (hour ≤ most) && liesB lo hi ll lh then rhRun u d rl rh ll lh most f (hour + 1) (hr u d lo rl) (hr u d hi rh) hour else n
def o28 : List AVal → Option AVal
  | [.agg [.int .i64 u, .int .i64 d], .agg [.int .i64 sl, .int .i64 sh], .agg [.int .i64 rl, .int .i64 rh], .agg [.int .i64 ll, .int .i64 lh], .int .i64 most] =>
    if 0 ≤ most ∧ most ≤ 1000 then some (.int .i64 (rhRun u d rl rh ll lh most (most.toNat + 1) 0 sl sh (-1))) else none
  | _ => none

theorem a28 (P : Program) (T : Nat → Option CFn) (hT : T 28 = some c28) (h66 : T 66 = some { c66 with frsh := true, orc := o66 }) (h61 : T 61 = some { c61 with frsh := true, orc := o61 }) (u d sl sh rl rh ll lh most : Int) (hm0 : 0 ≤ most) (hm1 : most ≤ 1000) :
    Answers P T 28 [.agg [I u, I d], .agg [I sl, I sh], .agg [I rl, I rh], .agg [I ll, I lh], I most] [] fun v h => v = I (rhRun u d rl rh ll lh most (most.toNat + 1) 0 sl sh (-1)) ∧ h = [] := by
  refine answers_of hT (orcF_none rfl) ?_
  simp only [c28]
  refine runs_seq (runs_reg (ops_run (by simp; rfl) ?_))
  simp only [AEx.thn, AEx.blk]
  refine runs_seq (runs_drw (by simp [lop, loud, callA, calleeA]; rfl) ?_)
  simp only [AEx.thn, AEx.blk]
  refine runs_seq (runs_seq (runs_reg (ops_run (by simp; rfl) ?_)))
  simp only [AEx.thn, AEx.blk]
  refine runs_block ?_
  generalize hR : rhRun u d rl rh ll lh most (most.toNat + 1) 0 sl sh (-1) = R
  refine runs_loop_inv (fun q σ => ∃ (k : Nat) (i lo hi n : Int), i = k ∧ q = most.toNat + 1 - k ∧ k ≤ most.toNat + 1 ∧ rhRun u d rl rh ll lh most (most.toNat + 1 - k) i lo hi n = R ∧
    σ = ⟨[.any, .any, .any, .any, I most, .ref 0 0 0, .any, .ref 2 0 0, .ref 3 0 0, .any, .any, I n, .ref 5 0 0, I i, .any, .any, .any, .any, .any, .any, .any, .any, .any, .any, .any, .any, .any, .any, .any, .any, .any], [some (.row 2 [[I u, I d]]), some (.row 2 [[I sl, I sh]]), some (.row 2 [[I rl, I rh]]), some (.row 2 [[I ll, I lh]]), none, some (.row 2 [[I lo, I hi]]), none, none]⟩) ?_ (most.toNat + 1 - 0) _ ⟨0, 0, sl, sh, -1, rfl, rfl, Nat.zero_le _, hR, by simp⟩
  clear hR
  rintro q σ ⟨k, i, lo, hi, n, hik, rfl, hk, hn, rfl⟩
  have hw : W .i64 (i + 1) = i + 1 := W_small (by omega)
  by_cases him : i ≤ most
  · rw [show most.toNat + 1 - k = (most.toNat + 1 - (k + 1)) + 1 by omega, rhRun] at hn
    simp only [him, decide_true, Bool.true_and] at hn
    refine runs_seq (runs_seq (runs_reg (ops_run (by simp [him, lop, loud, callA, calleeA, callF_step h66, h66, o66]; rfl) ?_)))
    simp only [AEx.thn, AEx.blk]
    refine runs_cond_split (x := liesB lo hi ll lh) (by simp) (fun hc => ?_) (fun hc => ?_)
    · rw [if_pos hc] at hn
      refine runs_skip ?_
      simp only [AEx.thn, AEx.blk]
      refine runs_seq (runs_block (runs_reg (ops_run (by simp [lop, loud, callA, calleeA, callF_step h61, h61, o61]; rfl) ?_)))
      simp only [AEx.thn, AEx.blk]
      refine runs_reg (ops_run (by simp [hw]; rfl) ?_)
      simp only [AEx.thn, AEx.blk]
      refine ⟨most.toNat + 1 - (k + 1), by omega, k + 1, i + 1, hr u d lo rl, hr u d hi rh, i, by omega, rfl, by omega, hn, ?_⟩
      simp
    · rw [hc] at hn
      simp only [Bool.false_eq_true, if_false] at hn
      refine runs_exit ?_
      simp only [AEx.thn, AEx.blk, if_true]
      refine runs_seq (runs_reg (ops_run (by simp; rfl) ?_))
      simp only [AEx.thn, AEx.blk]
      refine runs_ret ?_
      simp [hn]
  · have hk2 : most.toNat + 1 - k = 0 := by omega
    rw [hk2, rhRun] at hn
    refine runs_seq (runs_seq (runs_reg (ops_run (by simp [him]; rfl) ?_)))
    simp only [AEx.thn, AEx.blk]
    refine runs_cond (x := false) (by simp) ?_
    refine runs_exit ?_
    simp only [AEx.thn, AEx.blk, if_true]
    refine runs_seq (runs_reg (ops_run (by simp; rfl) ?_))
    simp only [AEx.thn, AEx.blk]
    refine runs_ret ?_
    simp [hn]

noncomputable def TM2 : Nat → Option CFn := upd TM1 28 true (o28)
theorem TM2_ok : TabOk Tryd.prog GG TM2 := tab_add mixed TM1_ok fun args v ho => by
  unfold o28 at ho; split at ho <;> (try simp at ho)
  rename_i u d sl sh rl rh ll lh most
  obtain ⟨⟨h1, h2⟩, rfl⟩ := ho
  refine (a28 Tryd.prog TM1 rfl rfl rfl u d sl sh rl rh ll lh most h1 h2).mono ?_
  rintro v h ⟨rfl, rfl⟩
  rfl
end
end Go.Proofs.YtpebmjeomlgmdaaDoor.Tab

namespace Go.Proofs.YtpebmjeomlgmdaaDoor.Tab
open Go Go.Abs Go.Proofs
set_option maxRecDepth 100000
set_option maxHeartbeats 4000000
section
attribute [local simp] frz_int frz_bool frz_vl frz_pv frz_agg frz_tup frz_fn frz_ref frz_sl frz_nils optAll orcF rb_int rb_bool rb_agg rb_tup rb_int' rb_bool' rb_vl rb_pv rb_yld rb_nilf rb_nilp rb_nils rb_any rb_und rb_ref rb_sl rb_fn slE chunk fillA evParts evParts3 putAt List.range_succ List.range_zero List.range'_succ List.range'_zero runX_nil' unary_not evalS_pure evAll_nil evAll_cons runX_cons stepX wantedA dop CV.ev cellsOf putK_eq setK_eq appK_eq fA_eq fI_eq fN_eq fRow_eq fRows_eq nth_eq Out.v putT List.replicate_succ AEx.thn AEx.blk arI pointee Abs.rowAt ldRow allV toV toC ofV ofC Builtin.min_ Builtin.min2 Builtin.max_ Builtin.max2 min_if max_if resA tupA kill trim_self trim_len trim_emp trim_nil lenA
attribute [local simp] runD_nil' runD_cons' stepD actK_eq actD clash disj masks holes maskH unmaskH diffs news eqB allB eqA ldRowN wrote toCs ofCs stA storable rowsV_vl rowsV_nils rowsOf dI1 dI2 dI3 dI5 elt
theorem o65_eq (x : AVal) (m : Int) (ts : List Step) (hx : rowsV x = some (ts.map rStep)) (hl : ts.length ≤ 1000) : o65 [x, I m] = some (I (kept m ts)) := by
  simp only [o65, hx]
  rw [optAll_map (d := dI2) (enc := rStep) (fun _ => rfl)]
  simp [hl]
/-- The reference's Keep, moisture by moisture. -/
def kpRun (ts : List Step) : Nat → Int → Int → Int → Int × Int
  | 0, _, a, b => (a, b)
  | f + 1, m, a, b => kpRun ts f (m + 1) (min a (kept m ts)) (max b (kept m ts))
def rKeep (ts : List Step) (l h : Int) : Int × Int := kpRun ts (h + 1 - l).toNat l (kept l ts) (kept l ts)
def o26 : List AVal → Option AVal
  | [x, .agg [.int .i64 l, .int .i64 h]] => match rowsV x with
    | some rs => match optAll dI2 rs with
      | some ts => if ts.length ≤ 1000 ∧ spanB l h 0 300 = true then some (.agg [.int .i64 (rKeep ts l h).1, .int .i64 (rKeep ts l h).2]) else none
      | none => none
    | none => none
  | _ => none

theorem a26 (P : Program) (T : Nat → Option CFn) (hT : T 26 = some c26) (h65 : T 65 = some { c65 with frsh := true, orc := o65 }) (l r : Int) (x : AVal) (ts : List Step) (hx : rowsV x = some (ts.map rStep)) (hl : ts.length ≤ 1000) (hb : spanB l r 0 300 = true) :
    Answers P T 26 [x, .agg [I l, I r]] [] fun v h => v = .agg [I (rKeep ts l r).1, I (rKeep ts l r).2] ∧ h = [] := by
  have ho := fun m => o65_eq x m ts hx hl
  have hfx := rowsV_frz hx
  have hrbx := rowsV_rb hx
  have hbb : 0 ≤ l ∧ l ≤ r ∧ r ≤ 300 := by
    simp only [spanB, inB, Bool.and_eq_true, decide_eq_true_eq] at hb
    exact ⟨hb.1.1, hb.1.2, hb.2⟩
  refine answers_of hT (orcF_none rfl) ?_
  simp only [c26]
  refine runs_seq (runs_reg (ops_run (by simp; rfl) ?_))
  simp only [AEx.thn, AEx.blk]
  refine runs_seq (runs_drw (by simp [lop, loud, callA, calleeA, callF_step h65, h65, lop, loud, ho, hfx]; rfl) ?_)
  simp only [AEx.thn, AEx.blk]
  refine runs_seq (runs_seq (runs_reg (ops_run (by simp; rfl) ?_)))
  simp only [AEx.thn, AEx.blk]
  refine runs_block ?_
  unfold rKeep
  generalize hR : kpRun ts (r + 1 - l).toNat l (kept l ts) (kept l ts) = R
  refine runs_loop_inv (fun q σ => ∃ (m a b : Int), q = (r + 1 - m).toNat ∧ l ≤ m ∧ m ≤ r + 1 ∧ kpRun ts (r + 1 - m).toNat m a b = R ∧
    σ = ⟨[x, .any, .any, .ref 0 0 0, .ref 1 0 0, .ref 11 0 0, I m, .any, .any, .any, .any, .any, .any, .any, .any, .any, .any, .any, .any, .any, .any, .any, .any, .any, .any, .any, .any, .any, .any, .any, .any, .any, .any, .any, .any, .any, .any, .any], [some (.row 2 [[I l, I r]]), some (.row 2 [[I 0, I 0]]), none, none, none, none, none, none, none, none, none, some (.row 2 [[I a, I b]]), none]⟩) ?_ _ _ ⟨l, kept l ts, kept l ts, rfl, Int.le_refl _, by omega, hR, by simp⟩
  clear hR
  rintro q σ ⟨m, a, b, rfl, h1, h2, hn, rfl⟩
  have hw : W .i64 (m + 1) = m + 1 := W_small (by omega)
  refine runs_seq (runs_seq (runs_reg (ops_run (by simp; rfl) ?_)))
  simp only [AEx.thn, AEx.blk]
  refine runs_cond_split (x := decide (m ≤ r)) (by simp) (fun hc => ?_) (fun hc => ?_)
  · have hc := of_decide_eq_true hc
    rw [show (r + 1 - m).toNat = (r + 1 - (m + 1)).toNat + 1 by omega, kpRun] at hn
    refine runs_skip ?_
    simp only [AEx.thn, AEx.blk]
    refine runs_seq (runs_block (runs_drw (by simp [lop, loud, callA, calleeA, callF_step h65, h65, lop, loud, ho, hfx]; rfl) ?_))
    simp only [AEx.thn, AEx.blk]
    refine runs_reg (ops_run (by simp [hw]; rfl) ?_)
    simp only [AEx.thn, AEx.blk]
    refine ⟨_, by omega, m + 1, min a (kept m ts), max b (kept m ts), rfl, by omega, by omega, hn, ?_⟩
    simp [trim, rbB, hrbx]
  · have hc := of_decide_eq_false hc
    rw [show (r + 1 - m).toNat = 0 by omega, kpRun] at hn
    subst hn
    refine runs_exit ?_
    simp only [AEx.thn, AEx.blk, if_true]
    refine runs_seq (runs_reg (ops_run (by simp [lop, loud]; rfl) ?_))
    simp only [AEx.thn, AEx.blk]
    refine runs_ret ?_
    simp

noncomputable def TL1 : Nat → Option CFn := upd TM2 26 true (o26)
theorem TL1_ok : TabOk Tryd.prog GG TL1 := tab_add mixed TM2_ok fun args v ho => by
  unfold o26 at ho; split at ho <;> (try simp at ho)
  rename_i x l r
  split at ho <;> (try simp at ho)
  rename_i rs hx
  split at ho <;> (try simp at ho)
  rename_i xs hxs
  obtain ⟨⟨hl, hb⟩, rfl⟩ := ho
  have e := optAll_eq dI2_eq hxs
  subst e
  refine (a26 Tryd.prog TM2 rfl rfl l r x xs hx hl hb).mono ?_
  rintro v h ⟨rfl, rfl⟩
  simp [frz_agg, frz_int, optAll]
/-- Is the i-th step wrong? -/
def stepBad (ts : List Step) (k : Nat) : Bool :=
  !inB (ts.getD k (0, 0)).1 0 300 || !inB (ts.getD k (0, 0)).2 0 1000 || (decide (0 < k) && (decide ((ts.getD k (0, 0)).1 ≤ (ts.getD (k - 1) (0, 0)).1) || decide ((ts.getD (k - 1) (0, 0)).2 < (ts.getD k (0, 0)).2)))
/-- None of the steps from the k-th on is wrong. -/
def goodFrom (ts : List Step) : Nat → Nat → Bool
  | 0, _ => true
  | f + 1, k => !stepBad ts k && goodFrom ts f (k + 1)
def tableB (ts : List Step) : Bool := inB ts.length 1 10 && ((ts.getD 0 (0, 0)).1 == 0 && goodFrom ts ts.length 0)
def o24 : List AVal → Option AVal
  | [x] => match rowsV x with
    | some rs => match optAll dI2 rs with
      | some ts => if ts.length ≤ 1000 then some (.bool (tableB ts)) else none
      | none => none
    | none => none
  | _ => none
theorem tab_first {x : AVal} {ts : List Step} (hx : rowsV x = some (ts.map rStep)) (h : 0 < ts.length) : ∃ t, x = .vl (ts.map rStep) t := rowsV_get hx (k := 0) (by simpa using h)

theorem a24 (P : Program) (T : Nat → Option CFn) (hT : T 24 = some c24) (h60 : T 60 = some { c60 with frsh := true, orc := o60 }) (x : AVal) (ts : List Step) (hx : rowsV x = some (ts.map rStep)) (hl : ts.length ≤ 1000) : Answers P T 24 [x] [] fun v h => v = .bool (tableB ts) ∧ h = [] := by
  have lx := rowsV_len hx
  rw [List.length_map] at lx
  unfold tableB
  refine answers_of hT (orcF_none rfl) ?_
  simp only [c24]
  refine runs_seq (runs_reg (ops_run (by simp; rfl) ?_))
  simp only [AEx.thn, AEx.blk]
  cases hb : inB ts.length 1 10
  · refine runs_seq (runs_seq (runs_reg (ops_run (by simp [lx, -lenA, lop, loud, callA, calleeA, callF_step h60, h60, o60, inB_eq, hb]; rfl) ?_)))
    simp only [AEx.thn, AEx.blk]
    refine runs_cond (x := true) (by simp) ?_
    refine runs_seq (runs_reg (ops_run (by simp; rfl) ?_))
    simp only [AEx.thn, AEx.blk]
    refine runs_ret ?_
    simp
  have hlen : 1 ≤ ts.length ∧ ts.length ≤ 10 := by
    simp only [inB, Bool.and_eq_true, decide_eq_true_eq] at hb
    omega
  obtain ⟨tt, rfl⟩ := tab_first hx (by omega)
  have l0 : 0 < ts.length := by omega
  generalize hg0 : ts[0] = t0
  have hgd0 : ts.getD 0 (0, 0) = t0 := by rw [List.getD_eq_getElem?_getD, List.getElem?_eq_getElem l0, hg0]; rfl
  rw [hgd0]
  obtain ⟨m0, k0⟩ := t0
  refine runs_seq (runs_seq (runs_reg (ops_run (by simp [lop, loud, callA, calleeA, callF_step h60, h60, o60, inB_eq, hb, l0, hg0, rStep]; rfl) ?_)))
  simp only [AEx.thn, AEx.blk]
  refine runs_cond_split (x := m0 != 0) (by simp) (fun h1 => ?_) (fun h1 => ?_)
  · refine runs_seq (runs_reg (ops_run (by simp; rfl) ?_))
    simp only [AEx.thn, AEx.blk]
    refine runs_ret ?_
    have : (m0 == 0) = false := by simpa using h1
    simp [this]
  have h1 : (m0 == 0) = true := by simpa using h1
  rw [h1]
  simp only [Bool.true_and]
  refine runs_skip ?_
  simp only [AEx.thn, AEx.blk]
  refine runs_seq (runs_seq (runs_reg (ops_run (by simp; rfl) ?_)))
  simp only [AEx.thn, AEx.blk]
  refine runs_block ?_
  generalize hR : goodFrom ts ts.length 0 = R
  refine runs_loop_inv (fun q σ => ∃ (k : Nat) (i : Int), i = k ∧ q = ts.length - k ∧ k ≤ ts.length ∧ goodFrom ts (ts.length - k) k = R ∧
    σ = ⟨[(.vl (ts.map rStep) tt), .any, .any, I i, .any, .any, .any, .any, .any, .any, .any, .any, .any, .any, .any, .any, .any, .any, .any, .any, .any, .any, .any, .any, .any, .any, .any, .any, .any, .any, .any, .any, .any, .any, .any, .any, .any, .any, .any, .any, .any, .any, .any, .any, .any, .any, .any, .any, .any, .any, .any, .any, .any, .any, .any, .any, .any, .any, .any, .any, .any, .any, .any, .any, .any, .any, .any, .any, .any], []⟩) ?_ (ts.length - 0) _ ⟨0, 0, rfl, rfl, Nat.zero_le _, hR, by simp⟩
  clear hR
  rintro q σ ⟨k, i, hik, rfl, hk, hg, rfl⟩
  have h0 : 0 ≤ i := by omega
  have htn : i.toNat = k := by omega
  refine runs_seq (runs_seq (runs_reg (ops_run (by simp; rfl) ?_)))
  simp only [AEx.thn, AEx.blk]
  refine runs_cond_split (x := decide (i < (ts.length : Int))) (by simp) (fun hlt => ?_) (fun hge => ?_)
  · refine runs_skip ?_
    simp only [AEx.thn, AEx.blk]
    have hlt' : k < ts.length := by have := of_decide_eq_true hlt; omega
    have hw : W .i64 (i + 1) = i + 1 := W_small (by omega)
    have hw1 : W .i64 (i - 1) = i - 1 := W_small (by omega)
    rw [show ts.length - k = (ts.length - (k + 1)) + 1 by omega, goodFrom] at hg
    have hgk : ts.getD k (0, 0) = ts[k] := by rw [List.getD_eq_getElem?_getD, List.getElem?_eq_getElem hlt']; rfl
    generalize hs : ts[k] = t at hgk
    obtain ⟨tm, tk⟩ := t
    refine runs_seq (runs_block ?_)
    cases hb1 : inB tm 0 300
    · refine runs_seq (runs_drw (by simp [h0, htn, hlt', hs, rStep, lop, loud, callA, calleeA, callF_step h60, h60, o60, inB_eq, hb1]; rfl) ?_)
      simp only [AEx.thn, AEx.blk]
      refine runs_cond (x := true) (by simp) ?_
      refine runs_seq (runs_reg (ops_run (by simp; rfl) ?_))
      simp only [AEx.thn, AEx.blk]
      refine runs_ret ?_
      have hbad : stepBad ts k = true := by unfold stepBad; rw [hgk]; simp [hb1]
      have hRf : R = false := by rw [← hg, hbad]; rfl
      simp [hRf]
    cases hb2 : inB tk 0 1000
    · refine runs_seq (runs_drw (by simp [h0, htn, hlt', hs, rStep, lop, loud, callA, calleeA, callF_step h60, h60, o60, inB_eq, hb1, hb2]; rfl) ?_)
      simp only [AEx.thn, AEx.blk]
      refine runs_cond (x := true) (by simp) ?_
      refine runs_seq (runs_reg (ops_run (by simp; rfl) ?_))
      simp only [AEx.thn, AEx.blk]
      refine runs_ret ?_
      have hbad : stepBad ts k = true := by unfold stepBad; rw [hgk]; simp [hb1, hb2]
      have hRf : R = false := by rw [← hg, hbad]; rfl
      simp [hRf]
    by_cases hi : 0 < i
    · have hkp : 0 < k := by omega
      have hlt1 : k - 1 < ts.length := by omega
      have h01 : 0 ≤ i - 1 := by omega
      have h1i : 1 ≤ i := by omega
      have htn1 : (i - 1).toNat = k - 1 := by omega
      have hgp : ts.getD (k - 1) (0, 0) = ts[k - 1] := by rw [List.getD_eq_getElem?_getD, List.getElem?_eq_getElem hlt1]; rfl
      generalize hsp : ts[k - 1] = p at hgp
      obtain ⟨pm, pk⟩ := p
      by_cases hb3 : tm ≤ pm
      · refine runs_seq (runs_drw (by simp [h0, htn, hlt', hs, rStep, lop, loud, callA, calleeA, callF_step h60, h60, o60, inB_eq, hb1, hb2, hi, hw1, h01, h1i, htn1, hlt1, hsp, hb3, hkp]; rfl) ?_)
        simp only [AEx.thn, AEx.blk]
        refine runs_cond (x := true) (by simp) ?_
        refine runs_seq (runs_reg (ops_run (by simp; rfl) ?_))
        simp only [AEx.thn, AEx.blk]
        refine runs_ret ?_
        have hbad : stepBad ts k = true := by unfold stepBad; rw [hgk, hgp]; simp [hb1, hb2, hi, hw1, h01, h1i, htn1, hlt1, hsp, hb3, hkp]
        have hRf : R = false := by rw [← hg, hbad]; rfl
        simp [hRf]
      by_cases hb4 : pk < tk
      · refine runs_seq (runs_drw (by simp [h0, htn, hlt', hs, rStep, lop, loud, callA, calleeA, callF_step h60, h60, o60, inB_eq, hb1, hb2, hi, hw1, h01, h1i, htn1, hlt1, hsp, hb3, hb4, hkp]; rfl) ?_)
        simp only [AEx.thn, AEx.blk]
        refine runs_cond (x := true) (by simp) ?_
        refine runs_seq (runs_reg (ops_run (by simp; rfl) ?_))
        simp only [AEx.thn, AEx.blk]
        refine runs_ret ?_
        have hbad : stepBad ts k = true := by unfold stepBad; rw [hgk, hgp]; simp [hb1, hb2, hi, hw1, h01, h1i, htn1, hlt1, hsp, hb3, hb4, hkp]
        have hRf : R = false := by rw [← hg, hbad]; rfl
        simp [hRf]
      refine runs_seq (runs_drw (by simp [h0, htn, hlt', hs, rStep, lop, loud, callA, calleeA, callF_step h60, h60, o60, inB_eq, hb1, hb2, hi, hw1, h01, h1i, htn1, hlt1, hsp, hb3, hb4, hkp]; rfl) ?_)
      simp only [AEx.thn, AEx.blk]
      refine runs_cond (x := false) (by simp) ?_
      refine runs_skip ?_
      simp only [AEx.thn, AEx.blk]
      refine runs_reg (ops_run (by simp [hw]; rfl) ?_)
      simp only [AEx.thn, AEx.blk]
      have hgd : stepBad ts k = false := by unfold stepBad; rw [hgk, hgp]; simp [hb1, hb2, hi, hw1, h01, h1i, htn1, hlt1, hsp, hb3, hb4, hkp]
      rw [hgd] at hg
      refine ⟨ts.length - (k + 1), by omega, k + 1, i + 1, by omega, rfl, by omega, by simpa using hg, ?_⟩
      simp [trim, rbB]
    · have hk0 : k = 0 := by omega
      have hkn : ¬ 0 < k := by omega
      refine runs_seq (runs_drw (by simp [h0, htn, hlt', hs, rStep, lop, loud, callA, calleeA, callF_step h60, h60, o60, inB_eq, hb1, hb2, hi, hkn]; rfl) ?_)
      simp only [AEx.thn, AEx.blk]
      refine runs_cond (x := false) (by simp) ?_
      refine runs_skip ?_
      simp only [AEx.thn, AEx.blk]
      refine runs_reg (ops_run (by simp [hw]; rfl) ?_)
      simp only [AEx.thn, AEx.blk]
      have hgd : stepBad ts k = false := by unfold stepBad; rw [hgk]; simp [hb1, hb2, hi, hkn]
      rw [hgd] at hg
      refine ⟨ts.length - (k + 1), by omega, k + 1, i + 1, by omega, rfl, by omega, by simpa using hg, ?_⟩
      simp [trim, rbB]
  · refine runs_exit ?_
    simp only [AEx.thn, AEx.blk, if_true]
    have hke : ts.length - k = 0 := by
      have := of_decide_eq_false hge
      omega
    rw [hke, goodFrom] at hg
    refine runs_seq (runs_reg (ops_run (by simp; rfl) ?_))
    simp only [AEx.thn, AEx.blk]
    refine runs_ret ?_
    simp [hg]

noncomputable def TL2 : Nat → Option CFn := upd TL1 24 true (o24)
theorem TL2_ok : TabOk Tryd.prog GG TL2 := tab_add mixed TL1_ok fun args v ho => by
  unfold o24 at ho; split at ho <;> (try simp at ho)
  rename_i x
  split at ho <;> (try simp at ho)
  rename_i rs hx
  split at ho <;> (try simp at ho)
  rename_i xs hxs
  obtain ⟨hl, rfl⟩ := ho
  have e := optAll_eq dI2_eq hxs
  subst e
  refine (a24 Tryd.prog TL1 rfl rfl x xs hx hl).mono ?_
  rintro v h ⟨rfl, rfl⟩
  rfl
end
end Go.Proofs.YtpebmjeomlgmdaaDoor.Tab

namespace Go.Proofs.YtpebmjeomlgmdaaDoor.Tab
open Go Go.Abs Go.Proofs
set_option maxRecDepth 100000
set_option maxHeartbeats 4000000
section
attribute [local simp] frz_int frz_bool frz_vl frz_pv frz_agg frz_tup frz_fn frz_ref frz_sl frz_nils optAll orcF rb_int rb_bool rb_agg rb_tup rb_int' rb_bool' rb_vl rb_pv rb_yld rb_nilf rb_nilp rb_nils rb_any rb_und rb_ref rb_sl rb_fn slE chunk fillA evParts evParts3 putAt List.range_succ List.range_zero List.range'_succ List.range'_zero runX_nil' unary_not evalS_pure evAll_nil evAll_cons runX_cons stepX wantedA dop CV.ev cellsOf putK_eq setK_eq appK_eq fA_eq fI_eq fN_eq fRow_eq fRows_eq nth_eq Out.v putT List.replicate_succ AEx.thn AEx.blk arI pointee Abs.rowAt ldRow allV toV toC ofV ofC Builtin.min_ Builtin.min2 Builtin.max_ Builtin.max2 min_if max_if resA tupA kill trim_self trim_len trim_emp trim_nil lenA
attribute [local simp] runD_nil' runD_cons' stepD actK_eq actD clash disj masks holes maskH unmaskH diffs news eqB allB eqA ldRowN wrote toCs ofCs stA storable rowsV_vl rowsV_nils rowsOf dI1 dI2 dI3 dI5 elt
theorem wB_one (a b x : Int) : wB a b [x] = inB x a b := by simp [wB, inB]
def keepE (ts : List Step) (l h : Int) : Int := if !tableB ts then 4 else if !moistB l h then 3 else 0
def o22 : List AVal → Option AVal
  | [x, .agg [.int .i64 l, .int .i64 h]] => match rowsV x with
    | some rs => match optAll dI2 rs with
      | some ts => if ts.length ≤ 1000 then some (if keepE ts l h = 0 then .tup [.agg [I (kept h ts), I (kept l ts)], I 0] else .tup [.agg [I 0, I 0], I (keepE ts l h)]) else none
      | none => none
    | none => none
  | _ => none

theorem a22 (P : Program) (T : Nat → Option CFn) (hT : T 22 = some c22) (h56 : T 56 = some { c56 with frsh := true, orc := o56 }) (h55 : T 55 = some { c55 with frsh := true, orc := o55 }) (l r : Int) (x : AVal) (ts : List Step) (hx : rowsV x = some (ts.map rStep)) (hl : ts.length ≤ 1000) :
    Answers P T 22 [x, .agg [I l, I r]] [] fun v h => v = (if keepE ts l r = 0 then .tup [.agg [I (kept r ts), I (kept l ts)], I 0] else .tup [.agg [I 0, I 0], I (keepE ts l r)]) ∧ h = [] := by
  have lx := rowsV_len hx
  rw [List.length_map] at lx
  unfold keepE tableB
  refine answers_of hT (orcF_none rfl) ?_
  simp only [c22]
  refine runs_seq (runs_reg (ops_run (by simp; rfl) ?_))
  simp only [AEx.thn, AEx.blk]
  cases hb : inB ts.length 1 10
  · refine runs_seq (runs_seq (runs_reg (ops_run (by simp [lx, -lenA, lop, loud, callA, calleeA, callF_step h56, h56, o56, wB_one, hb]; rfl) ?_)))
    simp only [AEx.thn, AEx.blk]
    refine runs_cond (x := true) (by simp) ?_
    refine runs_seq (runs_reg (ops_run (by simp [lop, loud]; rfl) ?_))
    simp only [AEx.thn, AEx.blk]
    refine runs_ret ?_
    simp
  have hlen : 1 ≤ ts.length ∧ ts.length ≤ 10 := by
    simp only [inB, Bool.and_eq_true, decide_eq_true_eq] at hb
    omega
  obtain ⟨tt, rfl⟩ := tab_first hx (by omega)
  have l0 : 0 < ts.length := by omega
  generalize hg0 : ts[0] = t0
  have hgd0 : ts.getD 0 (0, 0) = t0 := by rw [List.getD_eq_getElem?_getD, List.getElem?_eq_getElem l0, hg0]; rfl
  rw [hgd0]
  obtain ⟨m0, k0⟩ := t0
  refine runs_seq (runs_seq (runs_reg (ops_run (by simp [lop, loud, callA, calleeA, callF_step h56, h56, o56, wB_one, hb, l0, hg0, rStep]; rfl) ?_)))
  simp only [AEx.thn, AEx.blk]
  refine runs_cond_split (x := m0 != 0) (by simp) (fun h1 => ?_) (fun h1 => ?_)
  · refine runs_seq (runs_reg (ops_run (by simp [lop, loud]; rfl) ?_))
    simp only [AEx.thn, AEx.blk]
    refine runs_ret ?_
    have : (m0 == 0) = false := by simpa using h1
    simp [this]
  have h1 : (m0 == 0) = true := by simpa using h1
  rw [h1]
  simp only [Bool.true_and]
  refine runs_skip ?_
  simp only [AEx.thn, AEx.blk]
  refine runs_seq (runs_seq (runs_reg (ops_run (by simp; rfl) ?_)))
  simp only [AEx.thn, AEx.blk]
  generalize hR : goodFrom ts ts.length 0 = R
  refine runs_block ?_
  refine runs_loop_inv (fun q σ => ∃ (k : Nat) (i : Int), i = k ∧ q = ts.length - k ∧ k ≤ ts.length ∧ goodFrom ts (ts.length - k) k = R ∧
    σ = ⟨[(.vl (ts.map rStep) tt), .any, .any, .ref 0 0 0, .ref 1 0 0, .any, .any, .any, .any, .any, .any, .any, .any, .any, .any, .any, .any, .any, .any, .any, .any, .any, .any, (.vl (ts.map rStep) tt), I ts.length, I i, .any, .any, .any, .any, .any, .any, .any, .any, .any, .any, .any, .any, .any, .any, .any, .any, .any, .any, .any, .any, .any, .any, .any, .any, .any, .any, .any, .any, .any, .any, .any, .any, .any, .any, .any, .any, .any, .any, .any, .any, .any, .any, .any, .any, .any, .any, .any, .any, .any, .any, .any, .any, .any, .any, .any, .any, .any, .any, .any, .any, .any, .any, .any, .any, .any, .any, .any, .any, .any, .any, .any, .any, .any], [some (.row 2 [[I l, I r]]), some (.row 2 [[I 0, I 0]]), some (.row 1 [[I ts.length]])]⟩) ?_ (ts.length - 0) _ ⟨0, 0, rfl, rfl, Nat.zero_le _, hR, by simp⟩
  clear hR
  rintro q σ ⟨k, i, hik, rfl, hk, hg, rfl⟩
  have h0 : 0 ≤ i := by omega
  have htn : i.toNat = k := by omega
  refine runs_seq (runs_reg (ops_run (by simp; rfl) ?_))
  simp only [AEx.thn, AEx.blk]
  refine runs_seq (runs_cond_split (x := decide (i < (ts.length : Int))) (by simp) (fun hlt => ?_) (fun hge => ?_))
  · refine runs_skip ?_
    simp only [AEx.thn, AEx.blk]
    have hlt' : k < ts.length := by have := of_decide_eq_true hlt; omega
    have hw : W .i64 (i + 1) = i + 1 := W_small (by omega)
    have hw1 : W .i64 (i - 1) = i - 1 := W_small (by omega)
    rw [show ts.length - k = (ts.length - (k + 1)) + 1 by omega, goodFrom] at hg
    have hgk : ts.getD k (0, 0) = ts[k] := by rw [List.getD_eq_getElem?_getD, List.getElem?_eq_getElem hlt']; rfl
    generalize hs : ts[k] = t at hgk
    obtain ⟨tm, tk⟩ := t
    refine runs_seq (runs_block ?_)
    refine runs_seq (runs_reg (ops_run (by simp [h0, htn, hlt', hs, rStep, lop, loud]; rfl) ?_))
    simp only [AEx.thn, AEx.blk]
    cases hb1 : inB tm 0 300
    · refine runs_seq (runs_drw (by simp [h0, htn, hlt', hs, rStep, lop, loud, callA, calleeA, callF_step h56, h56, o56, wB_one, hb1]; rfl) ?_)
      simp only [AEx.thn, AEx.blk]
      refine runs_cond (x := true) (by simp) ?_
      refine runs_seq (runs_reg (ops_run (by simp [lop, loud]; rfl) ?_))
      simp only [AEx.thn, AEx.blk]
      refine runs_ret ?_
      have hbad : stepBad ts k = true := by unfold stepBad; rw [hgk]; simp [hb1]
      have hRf : R = false := by rw [← hg, hbad]; rfl
      simp [hRf]
    cases hb2 : inB tk 0 1000
    · refine runs_seq (runs_drw (by simp [h0, htn, hlt', hs, rStep, lop, loud, callA, calleeA, callF_step h56, h56, o56, wB_one, hb1, hb2]; rfl) ?_)
      simp only [AEx.thn, AEx.blk]
      refine runs_cond (x := true) (by simp) ?_
      refine runs_seq (runs_reg (ops_run (by simp [lop, loud]; rfl) ?_))
      simp only [AEx.thn, AEx.blk]
      refine runs_ret ?_
      have hbad : stepBad ts k = true := by unfold stepBad; rw [hgk]; simp [hb1, hb2]
      have hRf : R = false := by rw [← hg, hbad]; rfl
      simp [hRf]
    by_cases hi : 0 < i
    · have hkp : 0 < k := by omega
      have hlt1 : k - 1 < ts.length := by omega
      have h01 : 0 ≤ i - 1 := by omega
      have h1i : 1 ≤ i := by omega
      have htn1 : (i - 1).toNat = k - 1 := by omega
      have hgp : ts.getD (k - 1) (0, 0) = ts[k - 1] := by rw [List.getD_eq_getElem?_getD, List.getElem?_eq_getElem hlt1]; rfl
      generalize hsp : ts[k - 1] = p at hgp
      obtain ⟨pm, pk⟩ := p
      by_cases hb3 : tm ≤ pm
      · refine runs_seq (runs_drw (by simp [h0, htn, hlt', hs, rStep, lop, loud, callA, calleeA, callF_step h56, h56, o56, wB_one, hb1, hb2, hi, hw1, h01, h1i, htn1, hlt1, hsp, hb3, hkp]; rfl) ?_)
        simp only [AEx.thn, AEx.blk]
        refine runs_cond (x := true) (by simp) ?_
        refine runs_seq (runs_reg (ops_run (by simp [lop, loud]; rfl) ?_))
        simp only [AEx.thn, AEx.blk]
        refine runs_ret ?_
        have hbad : stepBad ts k = true := by unfold stepBad; rw [hgk, hgp]; simp [hb1, hb2, hi, hw1, h01, h1i, htn1, hlt1, hsp, hb3, hkp]
        have hRf : R = false := by rw [← hg, hbad]; rfl
        simp [hRf]
      by_cases hb4 : pk < tk
      · refine runs_seq (runs_drw (by simp [h0, htn, hlt', hs, rStep, lop, loud, callA, calleeA, callF_step h56, h56, o56, wB_one, hb1, hb2, hi, hw1, h01, h1i, htn1, hlt1, hsp, hb3, hb4, hkp]; rfl) ?_)
        simp only [AEx.thn, AEx.blk]
        refine runs_cond (x := true) (by simp) ?_
        refine runs_seq (runs_reg (ops_run (by simp [lop, loud]; rfl) ?_))
        simp only [AEx.thn, AEx.blk]
        refine runs_ret ?_
        have hbad : stepBad ts k = true := by unfold stepBad; rw [hgk, hgp]; simp [hb1, hb2, hi, hw1, h01, h1i, htn1, hlt1, hsp, hb3, hb4, hkp]
        have hRf : R = false := by rw [← hg, hbad]; rfl
        simp [hRf]
      refine runs_seq (runs_drw (by simp [h0, htn, hlt', hs, rStep, lop, loud, callA, calleeA, callF_step h56, h56, o56, wB_one, hb1, hb2, hi, hw1, h01, h1i, htn1, hlt1, hsp, hb3, hb4, hkp]; rfl) ?_)
      simp only [AEx.thn, AEx.blk]
      refine runs_cond (x := false) (by simp) ?_
      refine runs_skip ?_
      simp only [AEx.thn, AEx.blk]
      refine runs_reg (ops_run (by simp [hw]; rfl) ?_)
      simp only [AEx.thn, AEx.blk]
      have hgd : stepBad ts k = false := by unfold stepBad; rw [hgk, hgp]; simp [hb1, hb2, hi, hw1, h01, h1i, htn1, hlt1, hsp, hb3, hb4, hkp]
      rw [hgd] at hg
      refine ⟨ts.length - (k + 1), by omega, k + 1, i + 1, by omega, rfl, by omega, by simpa using hg, ?_⟩
      simp [trim, rbB]
    · have hk0 : k = 0 := by omega
      have hkn : ¬ 0 < k := by omega
      refine runs_seq (runs_drw (by simp [h0, htn, hlt', hs, rStep, lop, loud, callA, calleeA, callF_step h56, h56, o56, wB_one, hb1, hb2, hi, hkn]; rfl) ?_)
      simp only [AEx.thn, AEx.blk]
      refine runs_cond (x := false) (by simp) ?_
      refine runs_skip ?_
      simp only [AEx.thn, AEx.blk]
      refine runs_reg (ops_run (by simp [hw]; rfl) ?_)
      simp only [AEx.thn, AEx.blk]
      have hgd : stepBad ts k = false := by unfold stepBad; rw [hgk]; simp [hb1, hb2, hi, hkn]
      rw [hgd] at hg
      refine ⟨ts.length - (k + 1), by omega, k + 1, i + 1, by omega, rfl, by omega, by simpa using hg, ?_⟩
      simp [trim, rbB]
  · refine runs_exit ?_
    simp only [AEx.thn, AEx.blk, if_true]
    have hke : ts.length - k = 0 := by
      have := of_decide_eq_false hge
      omega
    rw [hke, goodFrom] at hg
    subst hg
    clear hge hke hk hik htn h0
    refine runs_seq (runs_seq (runs_reg (ops_run (by simp [lop, loud, callA, calleeA, callF_step h55, h55, o55]; rfl) ?_)))
    simp only [AEx.thn, AEx.blk]
    refine runs_cond_split (x := !moistB l r) (by simp) (fun h2 => ?_) (fun h2 => ?_)
    · refine runs_seq (runs_reg (ops_run (by simp [lop, loud]; rfl) ?_))
      simp only [AEx.thn, AEx.blk]
      refine runs_ret ?_
      simp [h2]
    refine runs_skip ?_
    simp only [AEx.thn, AEx.blk]
    rw [h2]
    refine runs_seq (runs_seq (runs_reg (ops_run (by simp; rfl) ?_)))
    simp only [AEx.thn, AEx.blk]
    refine runs_block ?_
    refine runs_loop_inv (fun q σ => ∃ (k : Nat) (i a b : Int), i = k ∧ q = ts.length - k ∧ k ≤ ts.length ∧ (ts.drop k).foldl (fun n t => if t.1 ≤ r then t.2 else n) a = kept r ts ∧ (ts.drop k).foldl (fun n t => if t.1 ≤ l then t.2 else n) b = kept l ts ∧
      σ = ⟨[.any, .any, .any, .ref 0 0 0, .ref 1 0 0, .any, .any, .any, .any, .any, .any, .any, .any, .any, .any, .any, .any, .any, .any, .any, .any, .any, .any, .any, .any, .any, .any, .any, .any, .any, .any, .any, .any, .any, .any, .any, .any, .any, .any, .any, .any, .any, .any, .any, .any, .any, .any, .any, .any, .any, .any, .any, .any, .any, .any, .any, .any, .any, .any, .any, .any, .any, .any, .any, .any, .any, .any, .any, .any, .any, .any, .any, .any, .any, .any, (.vl (ts.map rStep) tt), I ts.length, I i, .any, .any, .any, .any, .any, .any, .any, .any, .any, .any, .any, .any, .any, .any, .any, .any, .any, .any, .any, .any, .any], [some (.row 2 [[I l, I r]]), some (.row 2 [[I a, I b]]), some (.row 1 [[I ts.length]]), some (.row 2 [[I l, I r]])]⟩) ?_ (ts.length - 0) _ ⟨0, 0, 0, 0, rfl, rfl, Nat.zero_le _, rfl, rfl, by simp⟩
    rintro q σ ⟨k, i, a, b, hik, rfl, hk, ha, hb', rfl⟩
    have h0 : 0 ≤ i := by omega
    have htn : i.toNat = k := by omega
    refine runs_seq (runs_reg (ops_run (by simp; rfl) ?_))
    simp only [AEx.thn, AEx.blk]
    refine runs_seq (runs_cond_split (x := decide (i < (ts.length : Int))) (by simp) (fun hlt => ?_) (fun hge => ?_))
    · refine runs_skip ?_
      simp only [AEx.thn, AEx.blk]
      have hlt' : k < ts.length := by have := of_decide_eq_true hlt; omega
      have hw : W .i64 (i + 1) = i + 1 := W_small (by omega)
      rw [List.drop_eq_getElem_cons hlt', List.foldl_cons] at ha hb'
      generalize hs : ts[k] = t at ha hb'
      obtain ⟨tm, tk⟩ := t
      simp only at ha hb'
      refine runs_seq (runs_block ?_)
      refine runs_seq (runs_reg (ops_run (by simp [h0, htn, hlt', hs, rStep, lop, loud]; rfl) ?_))
      simp only [AEx.thn, AEx.blk]
      refine runs_seq (runs_seq (runs_reg (ops_run (by simp; rfl) ?_)))
      simp only [AEx.thn, AEx.blk]
      have fin : ∀ (a' b' : Int), a' = (if tm ≤ r then tk else a) → b' = (if tm ≤ l then tk else b) → (ts.drop (k + 1)).foldl (fun n t => if t.1 ≤ r then t.2 else n) a' = kept r ts ∧ (ts.drop (k + 1)).foldl (fun n t => if t.1 ≤ l then t.2 else n) b' = kept l ts := fun a' b' e1 e2 => by subst e1; subst e2; exact ⟨ha, hb'⟩
      refine runs_cond_split (x := decide (tm ≤ l)) (by simp) (fun c1 => ?_) (fun c1 => ?_)
      · have c1 := of_decide_eq_true c1
        refine runs_reg (ops_run (by simp [lop, loud]; rfl) ?_)
        simp only [AEx.thn, AEx.blk]
        refine runs_seq (runs_reg (ops_run (by simp; rfl) ?_))
        simp only [AEx.thn, AEx.blk]
        refine runs_cond_split (x := decide (tm ≤ r)) (by simp) (fun c2 => ?_) (fun c2 => ?_)
        · have c2 := of_decide_eq_true c2
          refine runs_reg (ops_run (by simp [lop, loud]; rfl) ?_)
          simp only [AEx.thn, AEx.blk]
          refine runs_reg (ops_run (by simp [hw]; rfl) ?_)
          simp only [AEx.thn, AEx.blk]
          obtain ⟨f1, f2⟩ := fin tk tk (by rw [if_pos c2]) (by rw [if_pos c1])
          refine ⟨ts.length - (k + 1), by omega, k + 1, i + 1, tk, tk, by omega, rfl, by omega, f1, f2, ?_⟩
          simp [trim, rbB]
        · have c2 := of_decide_eq_false c2
          refine runs_skip ?_
          simp only [AEx.thn, AEx.blk]
          refine runs_reg (ops_run (by simp [hw]; rfl) ?_)
          simp only [AEx.thn, AEx.blk]
          obtain ⟨f1, f2⟩ := fin a tk (by rw [if_neg c2]) (by rw [if_pos c1])
          refine ⟨ts.length - (k + 1), by omega, k + 1, i + 1, a, tk, by omega, rfl, by omega, f1, f2, ?_⟩
          simp [trim, rbB]
      · have c1 := of_decide_eq_false c1
        refine runs_skip ?_
        simp only [AEx.thn, AEx.blk]
        refine runs_seq (runs_reg (ops_run (by simp; rfl) ?_))
        simp only [AEx.thn, AEx.blk]
        refine runs_cond_split (x := decide (tm ≤ r)) (by simp) (fun c2 => ?_) (fun c2 => ?_)
        · have c2 := of_decide_eq_true c2
          refine runs_reg (ops_run (by simp [lop, loud]; rfl) ?_)
          simp only [AEx.thn, AEx.blk]
          refine runs_reg (ops_run (by simp [hw]; rfl) ?_)
          simp only [AEx.thn, AEx.blk]
          obtain ⟨f1, f2⟩ := fin tk b (by rw [if_pos c2]) (by rw [if_neg c1])
          refine ⟨ts.length - (k + 1), by omega, k + 1, i + 1, tk, b, by omega, rfl, by omega, f1, f2, ?_⟩
          simp [trim, rbB]
        · have c2 := of_decide_eq_false c2
          refine runs_skip ?_
          simp only [AEx.thn, AEx.blk]
          refine runs_reg (ops_run (by simp [hw]; rfl) ?_)
          simp only [AEx.thn, AEx.blk]
          obtain ⟨f1, f2⟩ := fin a b (by rw [if_neg c2]) (by rw [if_neg c1])
          refine ⟨ts.length - (k + 1), by omega, k + 1, i + 1, a, b, by omega, rfl, by omega, f1, f2, ?_⟩
          simp [trim, rbB]
    · refine runs_exit ?_
      simp only [AEx.thn, AEx.blk, if_true]
      have hke : k = ts.length := by
        have := of_decide_eq_false hge
        omega
      subst hke
      rw [List.drop_length] at ha hb'
      simp only [List.foldl_nil] at ha hb'
      refine runs_seq (runs_reg (ops_run (by simp [lop, loud]; rfl) ?_))
      simp only [AEx.thn, AEx.blk]
      refine runs_ret ?_
      simp [ha, hb']

noncomputable def TM : Nat → Option CFn := upd TL2 22 true (o22)
theorem TM_ok : TabOk Tryd.prog GG TM := tab_add mixed TL2_ok fun args v ho => by
  unfold o22 at ho; split at ho <;> (try simp at ho)
  rename_i x l r
  split at ho <;> (try simp at ho)
  rename_i rs hx
  split at ho <;> (try simp at ho)
  rename_i xs hxs
  obtain ⟨hl, rfl⟩ := ho
  have e := optAll_eq dI2_eq hxs
  subst e
  refine (a22 Tryd.prog TL2 rfl rfl rfl l r x xs hx hl).mono ?_
  rintro v h ⟨rfl, rfl⟩
  split <;> simp [frz_tup, frz_agg, frz_int, optAll]
end
end Go.Proofs.YtpebmjeomlgmdaaDoor.Tab

namespace Go.Proofs.YtpebmjeomlgmdaaDoor.Tab
open Go Go.Abs Go.Proofs

theorem moist_span (a b : Int) : moistB a b = spanB a b 0 300 := by
  rw [Bool.eq_iff_iff]
  simp only [moistB, spanB, wB, inB, List.all_cons, List.all_nil, Bool.and_true, Bool.and_eq_true, decide_eq_true_eq]
  omega
theorem rule_rB (u d : Int) : ruleB u d = rB u d := by simp [ruleB, rB, wB, inB]
theorem span_in {a b : Int} (h : spanB a b 0 300 = true) : In300 a ∧ In300 b := by
  simp only [spanB, inB, Bool.and_eq_true, decide_eq_true_eq] at h
  unfold In300; omega
theorem rB_rate {u d : Int} (h : rB u d = true) : Rate u ∧ Rate d := by
  simp only [rB, inB, Bool.and_eq_true, decide_eq_true_eq] at h
  unfold Rate; omega

theorem hours_same {u d sl sh rl rh ll lh : Int} (hu : Rate u) (hd : Rate d) (h1 : In300 sl) (h2 : In300 sh) (h3 : In300 rl) (h4 : In300 rh) : ∀ (j k : Nat), j + k = 500 →
    rhRun u d rl rh ll lh 500 (j + 1) k (twI u d sl rl k) (twI u d sh rh k) ((k : Int) - 1) = if liesB (twI u d sl rl k) (twI u d sh rh k) ll lh then hRun u d sl sh rl rh ll lh j k else (k : Int) - 1
  | 0, k, hk => by
    have : k = 500 := by omega
    subst this
    rw [rhRun]
    cases hb : liesB (twI u d sl rl (500 : Nat)) (twI u d sh rh (500 : Nat)) ll lh
    · simp [hb]
    · simp [hb, rhRun, hRun]
  | j + 1, k, hk => by
    have hk5 : (k : Int) ≤ 500 := by omega
    rw [rhRun]
    simp only [hk5, decide_true, Bool.true_and]
    cases hb : liesB (twI u d sl rl k) (twI u d sh rh k) ll lh
    · simp
    · have i1 := twI_in (u := u) (d := d) (frm := sl) (room := rl) (n := k) hu hd h1 h3 (by omega) (by omega)
      have i2 := twI_in (u := u) (d := d) (frm := sh) (room := rh) (n := k) hu hd h2 h4 (by omega) (by omega)
      have s1 := hr_step1 (u := u) (d := d) (room := rl) hu hd i1
      have s2 := hr_step1 (u := u) (d := d) (room := rh) hu hd i2
      have t1 := step_last (frm := sl) (room := rl) (n := k) hu hd (by omega)
      have t2 := step_last (frm := sh) (room := rh) (n := k) hu hd (by omega)
      have ih := hours_same (ll := ll) (lh := lh) hu hd h1 h2 h3 h4 j (k + 1) (by omega)
      have hc : ((k + 1 : Nat) : Int) = (k : Int) + 1 := by omega
      rw [hc] at ih
      rw [s1, s2, t1, t2]
      simp only [if_true]
      have w1 := tw_twI (room := rl) (n := (k : Int) + 1) hu hd h1 (by omega) (by omega)
      have w2 := tw_twI (room := rh) (n := (k : Int) + 1) hu hd h2 (by omega) (by omega)
      rw [hRun, w1, w2]
      rw [show (k : Int) + 1 - 1 = k by omega] at ih
      exact ih
where
  step_last {u d frm room n : Int} (hu : Rate u) (hd : Rate d) (hn : 0 ≤ n) : step1 u d (twI u d frm room n) room = twI u d frm room (n + 1) := by
    have a := Int.mul_nonneg hu.1 hn
    have b := Int.mul_nonneg hd.1 hn
    have p0 : u = 0 → u * n = 0 := fun h => by rw [h, Int.zero_mul]
    have q0 : d = 0 → d * n = 0 := fun h => by rw [h, Int.zero_mul]
    unfold Rate at hu hd
    unfold twI step1
    rw [show u * (n + 1) = u * n + u by rw [Int.mul_add, Int.mul_one], show d * (n + 1) = d * n + d by rw [Int.mul_add, Int.mul_one]]
    generalize u * n = p at *
    generalize d * n = q at *
    by_cases hc : frm < room
    · simp only [hc, if_true]
      by_cases h5 : min room (frm + p) < room
      · simp only [h5, if_true]; omega
      · simp only [h5, if_false]; omega
    · simp only [hc, if_false]
      by_cases h5 : max room (frm - q) < room
      · simp only [h5, if_true]; omega
      · simp only [h5, if_false]; omega

theorem hRun_ge (u d sl sh rl rh ll lh : Int) : ∀ (f : Nat) (n : Int), n ≤ hRun u d sl sh rl rh ll lh f n
  | 0, n => Int.le_refl _
  | f + 1, n => by
    rw [hRun]
    split
    · have := hRun_ge u d sl sh rl rh ll lh f (n + 1); omega
    · exact Int.le_refl _

/-- Hours: the error and the number, both ways. -/
theorem hours_law (u d sl sh rl rh ll lh : Int) : 
    (rB u d = true → spanB sl sh 0 300 = true → spanB rl rh 0 300 = true → spanB ll lh 0 300 = true → rhRun u d rl rh ll lh 500 501 0 sl sh (-1) = if liesB sl sh ll lh then hRun u d sl sh rl rh ll lh 500 0 else -1) := by
  intro h1 h2 h3 h4
  obtain ⟨hu, hd⟩ := rB_rate h1
  obtain ⟨a1, a2⟩ := span_in h2
  obtain ⟨a3, a4⟩ := span_in h3
  have := hours_same (ll := ll) (lh := lh) hu hd a1 a2 a3 a4 500 0 rfl
  simpa [tw0] using this

/-! ### How much is kept -/

theorem good_step {ts : List Step} : ∀ {f k : Nat}, goodFrom ts f k = true → ∀ j, k ≤ j → j < k + f → stepBad ts j = false
  | 0, k, _, j, h1, h2 => by omega
  | f + 1, k, h, j, h1, h2 => by
    simp only [goodFrom, Bool.and_eq_true, Bool.not_eq_true'] at h
    by_cases e : j = k
    · subst e; exact h.1
    · exact good_step h.2 j (by omega) (by omega)

/-- A list whose moistures rise and whose parts do not. -/
def Falls : List Step → Prop
  | [] => True
  | [_] => True
  | a :: b :: ts => a.1 < b.1 ∧ b.2 ≤ a.2 ∧ Falls (b :: ts)

theorem falls_of {ts : List Step} (h : ∀ j, j < ts.length → stepBad ts j = false) : Falls ts := by
  have key : ∀ (n : Nat), n ≤ ts.length → Falls (ts.drop (ts.length - n)) := by
    intro n
    induction n with
    | zero => intro _; simp [Falls]
    | succ n ih =>
      intro hn
      have ih := ih (by omega)
      rw [List.drop_eq_getElem_cons (by omega)]
      rw [show ts.length - (n + 1) + 1 = ts.length - n by omega]
      cases n with
      | zero => simp [Falls]
      | succ n =>
        have hlt : ts.length - (n + 1) < ts.length := by omega
        rw [List.drop_eq_getElem_cons hlt] at ih ⊢
        have hb := h (ts.length - (n + 1)) hlt
        have e1 : ts.getD (ts.length - (n + 1)) (0, 0) = ts[ts.length - (n + 1)] := by rw [List.getD_eq_getElem?_getD, List.getElem?_eq_getElem hlt]; rfl
        have hlt2 : ts.length - (n + 1 + 1) < ts.length := by omega
        have e2 : ts.getD (ts.length - (n + 1) - 1) (0, 0) = ts[ts.length - (n + 1 + 1)] := by
          rw [show ts.length - (n + 1) - 1 = ts.length - (n + 1 + 1) by omega, List.getD_eq_getElem?_getD, List.getElem?_eq_getElem hlt2]; rfl
        unfold stepBad at hb
        rw [e1, e2] at hb
        have hp : 0 < ts.length - (n + 1) := by omega
        simp [hp] at hb
        exact ⟨by omega, by omega, ih⟩
  have := key ts.length (Nat.le_refl _)
  simpa using this

theorem falls_ge : ∀ {ts : List Step} {a : Step}, Falls (a :: ts) → ∀ t ∈ ts, a.1 < t.1 ∧ t.2 ≤ a.2
  | [], _, _, t, ht => by simp at ht
  | b :: ts, a, h, t, ht => by
    obtain ⟨h1, h2, h3⟩ := h
    rcases List.mem_cons.1 ht with rfl | ht
    · exact ⟨h1, h2⟩
    · have := falls_ge h3 t ht; omega

theorem fold_none {m : Int} : ∀ (ts : List Step) (n : Int), (∀ t ∈ ts, ¬ t.1 ≤ m) → ts.foldl (fun n t => if t.1 ≤ m then t.2 else n) n = n
  | [], _, _ => rfl
  | t :: ts, n, h => by
    rw [List.foldl_cons, if_neg (h t (by simp)), fold_none ts n fun t ht => h t (by simp [ht])]

theorem fold_le {m m' : Int} (hm : m ≤ m') : ∀ (ts : List Step) (n n' : Int), Falls ts → (∀ t ∈ ts, t.2 ≤ n) → n' ≤ n → ts.foldl (fun n t => if t.1 ≤ m' then t.2 else n) n' ≤ ts.foldl (fun n t => if t.1 ≤ m then t.2 else n) n
  | [], n, n', _, _, h => h
  | t :: ts, n, n', hf, hn, h => by
    rw [List.foldl_cons, List.foldl_cons]
    have hg := falls_ge hf
    have hf' : Falls ts := by cases ts with | nil => trivial | cons b ts => exact hf.2.2
    by_cases h1 : t.1 ≤ m
    · rw [if_pos h1, if_pos (by omega)]
      exact fold_le hm ts _ _ hf' (fun s hs => (hg s hs).2) (Int.le_refl _)
    · rw [if_neg h1]
      rw [fold_none ts n fun s hs => by have := (hg s hs).1; omega]
      by_cases h2 : t.1 ≤ m'
      · rw [if_pos h2]
        have := fold_le (Int.le_refl m') ts t.2 t.2 hf' (fun s hs => (hg s hs).2) (Int.le_refl _)
        refine Int.le_trans (fold_max ts t.2 n (hn t (by simp)) fun s hs => hn s (by simp [hs])) (Int.le_refl _)
      · rw [if_neg h2, fold_none ts n' fun s hs => by have := (hg s hs).1; omega]
        exact h
where
  fold_max {m : Int} : ∀ (ts : List Step) (n b : Int), n ≤ b → (∀ t ∈ ts, t.2 ≤ b) → ts.foldl (fun n t => if t.1 ≤ m then t.2 else n) n ≤ b
    | [], n, b, h, _ => h
    | t :: ts, n, b, h, hb => by
      rw [List.foldl_cons]
      refine fold_max ts _ b ?_ fun s hs => hb s (by simp [hs])
      split
      · exact hb t (by simp)
      · exact h

theorem kept_le {ts : List Step} (h : tableB ts = true) {m m' : Int} (h0 : 0 ≤ m) (hm : m ≤ m') : kept m' ts ≤ kept m ts := by
  simp only [tableB, Bool.and_eq_true, beq_iff_eq] at h
  obtain ⟨h1, h2, h3⟩ := h
  have hf := falls_of fun j hj => good_step h3 j (by omega) (by omega)
  cases ts with
  | nil => simp [inB] at h1
  | cons t ts =>
    simp at h2
    unfold kept
    rw [List.foldl_cons, List.foldl_cons, if_pos (by omega), if_pos (by omega)]
    have hg := falls_ge hf
    have hf' : Falls ts := by cases ts with | nil => trivial | cons b ts => exact hf.2.2
    exact fold_le hm ts _ _ hf' (fun s hs => (hg s hs).2) (Int.le_refl _)

theorem kpRun_eq {ts : List Step} (h : tableB ts = true) {l : Int} (h0 : 0 ≤ l) : ∀ (f : Nat) (m a b : Int), l ≤ m → a = kept (if m = l then l else m - 1) ts → b = kept l ts → kpRun ts f m a b = (kept (if m + f = l then l else if f = 0 ∧ m = l then l else m + f - 1) ts, kept l ts)
  | 0, m, a, b, hm, ha, hb => by
    simp only [kpRun, ha, hb]
    by_cases e : m = l
    · simp [e]
    · simp [e]
  | f + 1, m, a, b, hm, ha, hb => by
    rw [kpRun]
    have h1 : min a (kept m ts) = kept m ts := by
      rw [ha]
      have := kept_le h (m := if m = l then l else m - 1) (m' := m) (by split <;> omega) (by split <;> omega)
      omega
    have h2 : max b (kept m ts) = kept l ts := by
      rw [hb]
      have := kept_le h h0 hm
      omega
    rw [h1, h2]
    have ih := kpRun_eq h h0 f (m + 1) (kept m ts) (kept l ts) (by omega) (by rw [if_neg (by omega)]; congr 1; omega) rfl
    rw [ih]
    congr 1
    rw [if_neg (by omega), if_neg (by omega), if_neg (by omega), if_neg (by omega)]
    congr 1
    omega

theorem keep_law {ts : List Step} (h : tableB ts = true) {l r : Int} (hb : spanB l r 0 300 = true) : rKeep ts l r = (kept r ts, kept l ts) := by
  simp only [spanB, inB, Bool.and_eq_true, decide_eq_true_eq] at hb
  unfold rKeep
  rw [kpRun_eq h (by omega) _ _ _ _ (Int.le_refl l) (by simp) rfl]
  congr 1
  rw [if_neg (by omega), if_neg (by omega)]
  congr 1
  omega

end Go.Proofs.YtpebmjeomlgmdaaDoor.Tab
