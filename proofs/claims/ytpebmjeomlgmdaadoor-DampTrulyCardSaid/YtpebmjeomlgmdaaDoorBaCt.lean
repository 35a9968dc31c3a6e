/- Contracts of inner functions. No condition. -/
import Derived.Test.YtpebmjeomlgmdaaDoorBaB
import Derived.Test.YtpebmjeomlgmdaaDoorBaK
set_option linter.unusedSimpArgs false
set_option linter.unusedVariables false
namespace Go.Proofs.YtpebmjeomlgmdaaDoor.Tab
open Go Go.Abs Go.Proofs
set_option maxRecDepth 100000
set_option maxHeartbeats 4000000
section
variable (P : Program)
attribute [local simp] frz_int frz_bool frz_vl frz_pv frz_agg frz_tup frz_fn frz_ref frz_sl frz_nils optAll orcF rb_int rb_bool rb_agg rb_tup rb_int' rb_bool' rb_vl rb_pv rb_yld rb_nilf rb_nilp rb_nils rb_any rb_und rb_ref rb_sl rb_fn slE chunk fillA evParts evParts3 putAt List.range_succ List.range_zero List.range'_succ List.range'_zero runX_nil' unary_not evalS_pure evAll_nil evAll_cons runX_cons stepX wantedA dop CV.ev cellsOf putK_eq setK_eq appK_eq fA_eq fI_eq fN_eq fRow_eq fRows_eq nth_eq Out.v putT List.replicate_succ AEx.thn AEx.blk arI pointee Abs.rowAt ldRow allV toV toC ofV ofC Builtin.min_ Builtin.min2 Builtin.max_ Builtin.max2 min_if max_if resA tupA kill trim_self trim_len trim_emp trim_nil lenA
attribute [local simp] runD_nil' runD_cons' stepD actK_eq actD clash disj masks holes maskH unmaskH diffs news eqB allB eqA ldRowN wrote toCs ofCs stA storable rowsV_vl rowsV_nils rowsOf dI1 dI2 dI3 dI5 elt
def o84 : List AVal → Option AVal
  | [.int .i64 x, .pv [.int .i64 a] 0, .pv [.int .i64 b] 0] => some (.bool (decide (x < a) || decide (b < x)))
  | _ => none

theorem a84 (T : Nat → Option CFn) (hT : T 84 = some c84) (x a b : Int) : Answers P T 84 [I x, .pv [I a] 0, .pv [I b] 0] [] fun v h => v = .bool (decide (x < a) || decide (b < x)) ∧ h = [] := by
  refine answers_of hT (orcF_none rfl) ?_
  simp only [c84]
  refine runs_seq (runs_reg (ops_run (by simp; rfl) ?_))
  simp only [AEx.thn, AEx.blk]
  by_cases hx : x < a
  · refine runs_seq (runs_reg (ops_run (by simp [hx]; rfl) ?_))
    simp only [AEx.thn, AEx.blk]
    refine runs_ret ?_
    simp [hx]
  · refine runs_seq (runs_reg (ops_run (by simp [hx]; rfl) ?_))
    simp only [AEx.thn, AEx.blk]
    refine runs_ret ?_
    simp [hx]
def tw (up down frm room hours : Int) : Int := if frm < room then min room (W .i64 (frm + W .i64 (up * hours))) else max room (W .i64 (frm - W .i64 (down * hours)))
def o88 : List AVal → Option AVal
  | [.agg [.int .i64 up, .int .i64 down], .int .i64 frm, .int .i64 room, .int .i64 hours] => some (.int .i64 (tw up down frm room hours))
  | _ => none
def hr (up down frm room : Int) : Int := if frm < room then min room (W .i64 (frm + up)) else max room (W .i64 (frm - down))
def o87 : List AVal → Option AVal
  | [.agg [.int .i64 up, .int .i64 down], .int .i64 frm, .int .i64 room] => some (.int .i64 (hr up down frm room))
  | _ => none

theorem a88 (T : Nat → Option CFn) (hT : T 88 = some c88) (up down frm room hours : Int) : Answers P T 88 [.agg [I up, I down], I frm, I room, I hours] [] fun v h => v = I (tw up down frm room hours) ∧ h = [] := by
  refine answers_of hT (orcF_none rfl) ?_
  simp only [c88]
  refine runs_seq (runs_reg (ops_run (by simp; rfl) ?_))
  simp only [AEx.thn, AEx.blk]
  refine runs_seq (runs_seq (runs_reg (ops_run (by simp; rfl) ?_)))
  simp only [AEx.thn, AEx.blk]
  refine runs_cond_split (x := decide (frm < room)) (by simp) (fun hc => ?_) (fun hc => ?_)
  · refine runs_seq (runs_reg (ops_run (by simp; rfl) ?_))
    simp only [AEx.thn, AEx.blk]
    have hc : frm < room := by simpa using hc
    refine runs_ret ?_
    simp [tw, hc]
  · refine runs_skip ?_
    simp only [AEx.thn, AEx.blk]
    refine runs_seq (runs_reg (ops_run (by simp; rfl) ?_))
    simp only [AEx.thn, AEx.blk]
    have hc : ¬ frm < room := by simpa using hc
    refine runs_ret ?_
    simp [tw, hc]
theorem a87 (T : Nat → Option CFn) (hT : T 87 = some c87) (up down frm room : Int) : Answers P T 87 [.agg [I up, I down], I frm, I room] [] fun v h => v = I (hr up down frm room) ∧ h = [] := by
  refine answers_of hT (orcF_none rfl) ?_
  simp only [c87]
  refine runs_seq (runs_reg (ops_run (by simp; rfl) ?_))
  simp only [AEx.thn, AEx.blk]
  refine runs_seq (runs_seq (runs_reg (ops_run (by simp; rfl) ?_)))
  simp only [AEx.thn, AEx.blk]
  refine runs_cond_split (x := decide (frm < room)) (by simp) (fun hc => ?_) (fun hc => ?_)
  · refine runs_seq (runs_reg (ops_run (by simp; rfl) ?_))
    simp only [AEx.thn, AEx.blk]
    have hc : frm < room := by simpa using hc
    refine runs_ret ?_
    simp [hr, hc]
  · refine runs_skip ?_
    simp only [AEx.thn, AEx.blk]
    refine runs_seq (runs_reg (ops_run (by simp; rfl) ?_))
    simp only [AEx.thn, AEx.blk]
    have hc : ¬ frm < room := by simpa using hc
    refine runs_ret ?_
    simp [hr, hc]
def o60 : List AVal → Option AVal
  | [.int .i64 n, .int .i64 a, .int .i64 b] => some (.bool (decide (a ≤ n) && decide (n ≤ b)))
  | _ => none

theorem a60 (T : Nat → Option CFn) (hT : T 60 = some c60) (n a b : Int) : Answers P T 60 [I n, I a, I b] [] fun v h => v = .bool (decide (a ≤ n) && decide (n ≤ b)) ∧ h = [] := by
  refine answers_of hT (orcF_none rfl) ?_
  simp only [c60]
  refine runs_seq (runs_reg (ops_run (by simp; rfl) ?_))
  simp only [AEx.thn, AEx.blk]
  by_cases hx : a ≤ n
  · refine runs_seq (runs_reg (ops_run (by simp [hx]; rfl) ?_))
    simp only [AEx.thn, AEx.blk]
    refine runs_ret ?_
    simp [hx]
  · refine runs_seq (runs_reg (ops_run (by simp [hx]; rfl) ?_))
    simp only [AEx.thn, AEx.blk]
    refine runs_ret ?_
    simp [hx]
def oOwn (s : Nat) : List AVal → Option AVal
  | [x] => match rowsV x with
    | some rs => if rs.length ≤ 1000 ∧ rs.all (fun r => r.length == s && r.all flat) = true then some (.vl rs (rs.length == 0)) else none
    | none => none
  | _ => none

theorem a13 (T : Nat → Option CFn) (hT : T 13 = some c13) (x : AVal) (rs : List (List AVal)) (hx : rowsV x = some rs) (hl : rs.length ≤ 1000) (hr : ∀ r ∈ rs, r.length = 3 ∧ ∀ y ∈ r, flat y = true) : Answers P T 13 [x] [] fun v h => frz true h 5 v = some (.vl rs (rs.length == 0)) := by
  refine answers_of hT (orcF_none rfl) ?_
  simp only [c13]
  refine runs_seq (runs_reg (ops_run (by simp; rfl) ?_))
  simp only [AEx.thn, AEx.blk]
  have hst : ∀ r ∈ rs, ∀ y ∈ r, storable y = true := fun r h1 y h2 => by
    have := (hr r h1).2 y h2
    cases y <;> simp [flat] at this <;> rfl
  cases x <;> simp [rowsV] at hx
  · subst hx
    refine runs_seq (runs_reg (ops_run (by simp [lop, loud]; rfl) ?_))
    simp only [AEx.thn, AEx.blk]
    refine runs_ret ?_
    simp [trim]
  · subst hx
    rename_i rs tt
    cases rs with
    | nil =>
      refine runs_seq (runs_reg (ops_run (by simp [lop, loud]; rfl) ?_))
      simp only [AEx.thn, AEx.blk]
      refine runs_ret ?_
      simp [trim]
    | cons r rs =>
      refine runs_seq (runs_reg (ops_run (by simp [lop, loud, lim, -storable]; rw [if_pos (by refine ⟨by simp at hl; omega, ⟨(hr r (by simp)).1, fun q hq => (hr q (by simp [hq])).1⟩, hst r (by simp), fun q hq => hst q (by simp [hq])⟩)]; rfl) ?_))
      simp only [AEx.thn, AEx.blk]
      refine runs_ret ?_
      refine ⟨by simp, _, by simp; rfl, ?_⟩
      have hh : frz true [some (.row 3 []), some (.row 3 (r :: rs))] 5 (.sl 1 0 (rs.length + 1) false) = some (.vl (r :: rs) false) := frz_row true _ 4 1 _ 3 false (r :: rs) rfl rfl (frz_rows true _ 3 _ fun q hq y hy => (hr q hq).2 y hy)
      simpa [trim, rb_sl] using hh

theorem eq25n (x y : Operand) (a0 a1 b0 b1 : Int) : evalS Tryd.prog (do eqGuard .neq 25 x y (.agg #[.int .i64 a0, .int .i64 a1]) (.agg #[.int .i64 b0, .int .i64 b1]); binOp .neq 25 (.agg #[.int .i64 a0, .int .i64 a1]) (.agg #[.int .i64 b0, .int .i64 b1])) = some (.bool (!((a0 == b0) && ((a1 == b1) && true)))) := by
  have h := evalS_eqv (P := Tryd.prog) (ne := true) (t := 25) (x := x) (y := y) (xs := #[.int .i64 a0, .int .i64 a1]) (ys := #[.int .i64 b0, .int .i64 b1]) (b := ((a0 == b0) && ((a1 == b1) && true))) (by kernel_rfl) (by kernel_rfl)
  simpa only [if_true, if_false, Bool.false_eq_true, Bool.bne_true, Bool.bne_false] using h

theorem eq25e (x y : Operand) (a0 a1 b0 b1 : Int) : evalS Tryd.prog (do eqGuard .eql 25 x y (.agg #[.int .i64 a0, .int .i64 a1]) (.agg #[.int .i64 b0, .int .i64 b1]); binOp .eql 25 (.agg #[.int .i64 a0, .int .i64 a1]) (.agg #[.int .i64 b0, .int .i64 b1])) = some (.bool (((a0 == b0) && ((a1 == b1) && true)))) := by
  have h := evalS_eqv (P := Tryd.prog) (ne := false) (t := 25) (x := x) (y := y) (xs := #[.int .i64 a0, .int .i64 a1]) (ys := #[.int .i64 b0, .int .i64 b1]) (b := ((a0 == b0) && ((a1 == b1) && true))) (by kernel_rfl) (by kernel_rfl)
  simpa only [if_true, if_false, Bool.false_eq_true, Bool.bne_true, Bool.bne_false] using h

theorem eq81n (x y : Operand) (a0 a1 a2 b0 b1 b2 : Int) : evalS Tryd.prog (do eqGuard .neq 81 x y (.agg #[.int .i64 a0, .int .i64 a1, .int .i64 a2]) (.agg #[.int .i64 b0, .int .i64 b1, .int .i64 b2]); binOp .neq 81 (.agg #[.int .i64 a0, .int .i64 a1, .int .i64 a2]) (.agg #[.int .i64 b0, .int .i64 b1, .int .i64 b2])) = some (.bool (!(((a0 == b0) && ((a1 == b1) && true)) && ((a2 == b2) && true)))) := by
  have h := evalS_eqv (P := Tryd.prog) (ne := true) (t := 81) (x := x) (y := y) (xs := #[.int .i64 a0, .int .i64 a1, .int .i64 a2]) (ys := #[.int .i64 b0, .int .i64 b1, .int .i64 b2]) (b := (((a0 == b0) && ((a1 == b1) && true)) && ((a2 == b2) && true))) (by kernel_rfl) (by kernel_rfl)
  simpa only [if_true, if_false, Bool.false_eq_true, Bool.bne_true, Bool.bne_false] using h

theorem eq81e (x y : Operand) (a0 a1 a2 b0 b1 b2 : Int) : evalS Tryd.prog (do eqGuard .eql 81 x y (.agg #[.int .i64 a0, .int .i64 a1, .int .i64 a2]) (.agg #[.int .i64 b0, .int .i64 b1, .int .i64 b2]); binOp .eql 81 (.agg #[.int .i64 a0, .int .i64 a1, .int .i64 a2]) (.agg #[.int .i64 b0, .int .i64 b1, .int .i64 b2])) = some (.bool ((((a0 == b0) && ((a1 == b1) && true)) && ((a2 == b2) && true)))) := by
  have h := evalS_eqv (P := Tryd.prog) (ne := false) (t := 81) (x := x) (y := y) (xs := #[.int .i64 a0, .int .i64 a1, .int .i64 a2]) (ys := #[.int .i64 b0, .int .i64 b1, .int .i64 b2]) (b := (((a0 == b0) && ((a1 == b1) && true)) && ((a2 == b2) && true))) (by kernel_rfl) (by kernel_rfl)
  simpa only [if_true, if_false, Bool.false_eq_true, Bool.bne_true, Bool.bne_false] using h

theorem a18 (T : Nat → Option CFn) (hT : T 18 = some c18) (x y : AVal) (rs : List (List AVal)) (hx : rowsV x = some rs) (hy : rowsV y = some rs) (hl : rs.length ≤ 1000) (hr : ∀ r ∈ rs, ∃ y0 y1 y2 : Int, r = [I y0, I y1, I y2]) : Answers Tryd.prog T 18 [x, y] [] fun v h => v = .bool true ∧ h = [] := by
  refine answers_of hT (orcF_none rfl) ?_
  simp only [c18]
  have lx := rowsV_len hx
  have ly := rowsV_len hy
  refine runs_seq (runs_reg (ops_run (by simp; rfl) ?_))
  simp only [AEx.thn, AEx.blk]
  refine runs_seq (runs_seq (runs_reg (ops_run (by simp [lx, ly, -lenA]; rfl) ?_)))
  simp only [AEx.thn, AEx.blk]
  refine runs_cond (x := false) (by simp) ?_
  refine runs_skip ?_
  simp only [AEx.thn, AEx.blk]
  refine runs_seq (runs_seq (runs_reg (ops_run (by simp; rfl) ?_)))
  simp only [AEx.thn, AEx.blk]
  refine runs_block ?_
  refine runs_loop_inv (fun m σ => ∃ (k : Nat) (i : Int), i = k ∧ m = rs.length - k ∧ k ≤ rs.length ∧
     σ = ⟨[x, y, .any, .any, .any, I i, .any, .any, .any, .any, .any, .any, .any, .any, .any, .any, .any, .any, .any, .any, .any, .any, .any, .any, .any, .any], []⟩) ?_ (rs.length - 0) _ ⟨0, 0, rfl, rfl, Nat.zero_le _, by simp⟩
  rintro m σ ⟨k, i, hik, rfl, hk, rfl⟩
  have h0 : 0 ≤ i := by omega
  have htn : i.toNat = k := by omega
  refine runs_seq (runs_seq (runs_reg (ops_run (by simp [lx, -lenA]; rfl) ?_)))
  simp only [AEx.thn, AEx.blk]
  refine runs_cond_split (x := decide (i < rs.length)) (by simp) (fun hlt => ?_) (fun hge => ?_)
  · refine runs_skip ?_
    simp only [AEx.thn, AEx.blk]
    have hlt' : k < rs.length := by have := of_decide_eq_true hlt; omega
    obtain ⟨t1, rfl⟩ := rowsV_get hx hlt'
    obtain ⟨t2, rfl⟩ := rowsV_get hy hlt'
    obtain ⟨y0, y1, y2, hrk⟩ := hr _ (List.getElem_mem hlt')
    refine runs_seq (runs_block ?_)
    refine runs_seq (runs_drw (by simp [h0, htn, hlt', hrk, eq81n]; rfl) ?_)
    simp only [AEx.thn, AEx.blk]
    refine runs_cond (x := false) (by simp) ?_
    refine runs_skip ?_
    simp only [AEx.thn, AEx.blk]
    refine runs_reg (ops_run (by simp; rfl) ?_)
    simp only [AEx.thn, AEx.blk]
    refine ⟨rs.length - (k + 1), by omega, k + 1, i + 1, by omega, rfl, by omega, ?_⟩
    simp [W_small (show -1000000 ≤ i + 1 ∧ i + 1 ≤ 1000000 by omega)]
  · refine runs_exit ?_
    simp only [AEx.thn, AEx.blk, if_true]
    refine runs_seq (runs_reg (ops_run (by simp; rfl) ?_))
    simp only [AEx.thn, AEx.blk]
    refine runs_ret ?_
    simp

theorem a20 (T : Nat → Option CFn) (hT : T 20 = some c20) (x y : AVal) (rs : List (List AVal)) (hx : rowsV x = some rs) (hy : rowsV y = some rs) (hl : rs.length ≤ 1000) (hr : ∀ r ∈ rs, ∃ y0 y1 : Int, r = [I y0, I y1]) : Answers Tryd.prog T 20 [x, y] [] fun v h => v = .bool true ∧ h = [] := by
  refine answers_of hT (orcF_none rfl) ?_
  simp only [c20]
  have lx := rowsV_len hx
  have ly := rowsV_len hy
  refine runs_seq (runs_reg (ops_run (by simp; rfl) ?_))
  simp only [AEx.thn, AEx.blk]
  refine runs_seq (runs_seq (runs_reg (ops_run (by simp [lx, ly, -lenA]; rfl) ?_)))
  simp only [AEx.thn, AEx.blk]
  refine runs_cond (x := false) (by simp) ?_
  refine runs_skip ?_
  simp only [AEx.thn, AEx.blk]
  refine runs_seq (runs_seq (runs_reg (ops_run (by simp; rfl) ?_)))
  simp only [AEx.thn, AEx.blk]
  refine runs_block ?_
  refine runs_loop_inv (fun m σ => ∃ (k : Nat) (i : Int), i = k ∧ m = rs.length - k ∧ k ≤ rs.length ∧
     σ = ⟨[x, y, .any, .any, .any, I i, .any, .any, .any, .any, .any, .any, .any, .any, .any, .any, .any, .any, .any, .any, .any, .any, .any, .any, .any, .any], []⟩) ?_ (rs.length - 0) _ ⟨0, 0, rfl, rfl, Nat.zero_le _, by simp⟩
  rintro m σ ⟨k, i, hik, rfl, hk, rfl⟩
  have h0 : 0 ≤ i := by omega
  have htn : i.toNat = k := by omega
  refine runs_seq (runs_seq (runs_reg (ops_run (by simp [lx, -lenA]; rfl) ?_)))
  simp only [AEx.thn, AEx.blk]
  refine runs_cond_split (x := decide (i < rs.length)) (by simp) (fun hlt => ?_) (fun hge => ?_)
  · refine runs_skip ?_
    simp only [AEx.thn, AEx.blk]
    have hlt' : k < rs.length := by have := of_decide_eq_true hlt; omega
    obtain ⟨t1, rfl⟩ := rowsV_get hx hlt'
    obtain ⟨t2, rfl⟩ := rowsV_get hy hlt'
    obtain ⟨y0, y1, hrk⟩ := hr _ (List.getElem_mem hlt')
    refine runs_seq (runs_block ?_)
    refine runs_seq (runs_drw (by simp [h0, htn, hlt', hrk, eq25n]; rfl) ?_)
    simp only [AEx.thn, AEx.blk]
    refine runs_cond (x := false) (by simp) ?_
    refine runs_skip ?_
    simp only [AEx.thn, AEx.blk]
    refine runs_reg (ops_run (by simp; rfl) ?_)
    simp only [AEx.thn, AEx.blk]
    refine ⟨rs.length - (k + 1), by omega, k + 1, i + 1, by omega, rfl, by omega, ?_⟩
    simp [W_small (show -1000000 ≤ i + 1 ∧ i + 1 ≤ 1000000 by omega)]
  · refine runs_exit ?_
    simp only [AEx.thn, AEx.blk, if_true]
    refine runs_seq (runs_reg (ops_run (by simp; rfl) ?_))
    simp only [AEx.thn, AEx.blk]
    refine runs_ret ?_
    simp

end
end Go.Proofs.YtpebmjeomlgmdaaDoor.Tab

namespace Go.Proofs.YtpebmjeomlgmdaaDoor.Tab
open Go Go.Abs Go.Proofs
set_option maxRecDepth 100000
set_option maxHeartbeats 4000000
section
attribute [local simp] frz_int frz_bool frz_vl frz_pv frz_agg frz_tup frz_fn frz_ref frz_sl frz_nils optAll orcF rb_int rb_bool rb_agg rb_tup rb_int' rb_bool' rb_vl rb_pv rb_yld rb_nilf rb_nilp rb_nils rb_any rb_und rb_ref rb_sl rb_fn slE chunk fillA evParts evParts3 putAt List.range_succ List.range_zero List.range'_succ List.range'_zero runX_nil' unary_not evalS_pure evAll_nil evAll_cons runX_cons stepX wantedA dop CV.ev cellsOf putK_eq setK_eq appK_eq fA_eq fI_eq fN_eq fRow_eq fRows_eq nth_eq Out.v putT List.replicate_succ AEx.thn AEx.blk arI pointee Abs.rowAt ldRow allV toV toC ofV ofC Builtin.min_ Builtin.min2 Builtin.max_ Builtin.max2 min_if max_if resA tupA kill trim_self trim_len trim_emp trim_nil lenA
attribute [local simp] runD_nil' runD_cons' stepD actK_eq actD clash disj masks holes maskH unmaskH diffs news eqB allB eqA ldRowN wrote toCs ofCs stA storable rowsV_vl rowsV_nils rowsOf dI1 dI2 dI3 dI5 elt
theorem T_ok : TabOk Tryd.prog GG T := tabOk
def oSame (s : Nat) : List AVal → Option AVal
  | [x, y] => match rowsV x, rowsV y with
    | some rs, some rs' => if rs.length ≤ 1000 ∧ rs.all (fun r => r.length == s && r.all isI) = true ∧ allB (allB (eqA 3)) rs rs' = true then some (.bool true) else none
    | _, _ => none
  | _ => none

noncomputable def TA_84 : Nat → Option CFn := upd T 84 true (o84)
theorem TA_84_ok : TabOk Tryd.prog GG TA_84 := tab_add mixed T_ok fun args v ho => by
  unfold o84 at ho; split at ho <;> simp at ho
  rename_i x a b
  subst ho
  refine (a84 Tryd.prog T rfl x a b).mono ?_
  rintro v h ⟨rfl, rfl⟩
  rfl
noncomputable def TA_88 : Nat → Option CFn := upd TA_84 88 true (o88)
theorem TA_88_ok : TabOk Tryd.prog GG TA_88 := tab_add mixed TA_84_ok fun args v ho => by
  unfold o88 at ho; split at ho <;> simp at ho
  rename_i a b c d e
  subst ho
  refine (a88 Tryd.prog TA_84 rfl a b c d e).mono ?_
  rintro v h ⟨rfl, rfl⟩
  rfl
noncomputable def TA_87 : Nat → Option CFn := upd TA_88 87 true (o87)
theorem TA_87_ok : TabOk Tryd.prog GG TA_87 := tab_add mixed TA_88_ok fun args v ho => by
  unfold o87 at ho; split at ho <;> simp at ho
  rename_i a b c d
  subst ho
  refine (a87 Tryd.prog TA_88 rfl a b c d).mono ?_
  rintro v h ⟨rfl, rfl⟩
  rfl
noncomputable def TA_60 : Nat → Option CFn := upd TA_87 60 true (o60)
theorem TA_60_ok : TabOk Tryd.prog GG TA_60 := tab_add mixed TA_87_ok fun args v ho => by
  unfold o60 at ho; split at ho <;> simp at ho
  rename_i a b c
  subst ho
  refine (a60 Tryd.prog TA_87 rfl a b c).mono ?_
  rintro v h ⟨rfl, rfl⟩
  rfl
noncomputable def TA_13 : Nat → Option CFn := upd TA_60 13 true (oOwn 3)
theorem TA_13_ok : TabOk Tryd.prog GG TA_13 := tab_add mixed TA_60_ok fun args v ho => by
  unfold oOwn at ho; split at ho <;> (try simp at ho)
  rename_i x
  split at ho <;> simp at ho
  rename_i rs hx
  obtain ⟨⟨hl, hr⟩, rfl⟩ := ho
  exact a13 Tryd.prog TA_60 rfl x rs hx hl fun r h => ⟨(hr r h).1, (hr r h).2⟩
noncomputable def TA_18 : Nat → Option CFn := upd TA_13 18 true (oSame 3)
theorem TA_18_ok : TabOk Tryd.prog GG TA_18 := tab_add mixed TA_13_ok fun args v ho => by
  unfold oSame at ho; split at ho <;> (try simp at ho)
  rename_i x y
  split at ho <;> simp at ho
  rename_i rs rs' hx hy
  obtain ⟨⟨hl, hr, he⟩, rfl⟩ := ho
  have e : rs' = rs := allB_rows rs rs' he fun r h => (hr r h).2
  subst e
  refine (a18 TA_13 rfl x y rs' hx hy hl fun r h => ints3 (hr r h).1 (hr r h).2).mono ?_
  rintro v h ⟨rfl, rfl⟩
  rfl
noncomputable def TA : Nat → Option CFn := upd TA_18 20 true (oSame 2)
theorem TA_ok : TabOk Tryd.prog GG TA := tab_add mixed TA_18_ok fun args v ho => by
  unfold oSame at ho; split at ho <;> (try simp at ho)
  rename_i x y
  split at ho <;> simp at ho
  rename_i rs rs' hx hy
  obtain ⟨⟨hl, hr, he⟩, rfl⟩ := ho
  have e : rs' = rs := allB_rows rs rs' he fun r h => (hr r h).2
  subst e
  refine (a20 TA_18 rfl x y rs' hx hy hl fun r h => ints2 (hr r h).1 (hr r h).2).mono ?_
  rintro v h ⟨rfl, rfl⟩
  rfl
end
end Go.Proofs.YtpebmjeomlgmdaaDoor.Tab

namespace Go.Proofs.YtpebmjeomlgmdaaDoor.Tab
open Go Go.Abs Go.Proofs
set_option maxRecDepth 100000
section
attribute [local simp] frz_int frz_bool frz_vl frz_pv frz_agg frz_tup frz_fn frz_ref frz_sl frz_nils optAll orcF rb_int rb_bool rb_agg rb_tup rb_int' rb_bool' rb_vl rb_pv rb_yld rb_nilf rb_nilp rb_nils rb_any rb_und rb_ref rb_sl rb_fn slE chunk fillA evParts evParts3 putAt List.range_succ List.range_zero List.range'_succ List.range'_zero runX_nil' unary_not evalS_pure evAll_nil evAll_cons runX_cons stepX wantedA dop CV.ev cellsOf putK_eq setK_eq appK_eq fA_eq fI_eq fN_eq fRow_eq fRows_eq nth_eq Out.v putT List.replicate_succ AEx.thn AEx.blk arI pointee Abs.rowAt ldRow allV toV toC ofV ofC Builtin.min_ Builtin.min2 Builtin.max_ Builtin.max2 min_if max_if resA tupA kill trim_self trim_len trim_emp trim_nil lenA
attribute [local simp] runD_nil' runD_cons' stepD actK_eq actD clash disj masks holes maskH unmaskH diffs news eqB allB eqA ldRowN wrote toCs ofCs stA storable rowsV_vl rowsV_nils rowsOf dI1 dI2 dI3 dI5 elt
theorem a103 (P : Program) (T : Nat → Option CFn) (hT : T 103 = some c103) (x : AVal) (rs : List (List AVal)) (hx : rowsV x = some rs) (g : Nat) (a b : List AVal) (r : Int) (hl : rs.length ≤ 1000) (hr : rs.all (fun r => r.length == 1 && r.all isI) = true)
    (hq : idxA (fun r => known T g (a ++ [elt r] ++ b)) 0 rs = some r) : Answers P T 103 [x, .fn g a b] [] fun v h => v = .int .i64 r ∧ h = [] := by
  have lx := rowsV_len hx
  refine answers_of hT (orcF_none rfl) ?_
  simp only [c103]
  refine runs_seq (runs_reg (ops_run (by simp; rfl) ?_))
  simp only [AEx.thn, AEx.blk]
  refine runs_seq (runs_seq (runs_reg (ops_run (by simp [lx, -lenA]; rfl) ?_)))
  simp only [AEx.thn, AEx.blk]
  refine runs_block ?_
  refine runs_loop_inv (fun m σ => ∃ (k : Nat) (i : Int), i = k ∧ m = rs.length - k ∧ k ≤ rs.length ∧ idxA (fun r => known T g (a ++ [elt r] ++ b)) k (rs.drop k) = some r ∧
    σ = ⟨[x, .fn g a b, .any, .any, .any, .any, .any, I rs.length, I i, .any, .any, .any, .any, .any, .any, .any, .any, .any, .any], []⟩) ?_ (rs.length - 0) _ ⟨0, 0, rfl, rfl, Nat.zero_le _, hq, by simp⟩
  rintro m σ ⟨k, i, hik, rfl, hk, hi, rfl⟩
  have h0 : 0 ≤ i := by omega
  have htn : i.toNat = k := by omega
  refine runs_seq (runs_reg (ops_run (by simp; rfl) ?_))
  simp only [AEx.thn, AEx.blk]
  refine runs_seq (runs_cond_split (x := decide (i < rs.length)) (by simp) (fun hlt => ?_) (fun hge => ?_))
  · refine runs_skip ?_
    simp only [AEx.thn, AEx.blk]
    have hlt' : k < rs.length := by have := of_decide_eq_true hlt; omega
    obtain ⟨tt, rfl⟩ := rowsV_get hx hlt'
    have hr1 := List.all_eq_true.1 hr _ (List.getElem_mem hlt')
    simp only [Bool.and_eq_true, beq_iff_eq, List.all_eq_true] at hr1
    obtain ⟨y0, hrk⟩ := ints1 hr1.1 hr1.2
    rw [List.drop_eq_getElem_cons hlt'] at hi
    simp only [idxA] at hi
    refine runs_seq (runs_block ?_)
    refine runs_seq (runs_reg (ops_run (by simp; rfl) ?_))
    simp only [AEx.thn, AEx.blk]
    split at hi
    · rename_i hb
      simp at hi; rw [← hik] at hi; subst hi
      rw [hrk] at hb; simp only [elt, List.append_assoc, List.cons_append, List.nil_append] at hb
      refine runs_seq (runs_reg (ops_run (by simp [h0, htn, hlt', hrk, lop, loud, callA, calleeA, callF_known hb]; rfl) ?_))
      simp only [AEx.thn, AEx.blk]
      refine runs_cond (x := true) (by simp) ?_
      refine runs_seq (runs_reg (ops_run (by simp; rfl) ?_))
      simp only [AEx.thn, AEx.blk]
      refine runs_ret ?_
      simp
    · rename_i hb
      rw [hrk] at hb; simp only [elt, List.append_assoc, List.cons_append, List.nil_append] at hb
      refine runs_seq (runs_reg (ops_run (by simp [h0, htn, hlt', hrk, lop, loud, callA, calleeA, callF_known hb]; rfl) ?_))
      simp only [AEx.thn, AEx.blk]
      refine runs_cond (x := false) (by simp) ?_
      refine runs_skip ?_
      simp only [AEx.thn, AEx.blk]
      refine runs_reg (ops_run (by simp; rfl) ?_)
      simp only [AEx.thn, AEx.blk]
      refine ⟨rs.length - (k + 1), by omega, k + 1, i + 1, by omega, rfl, by omega, hi, ?_⟩
      simp [W_small (show -1000000 ≤ i + 1 ∧ i + 1 ≤ 1000000 by omega)]
    · simp at hi
  · refine runs_exit ?_
    simp only [AEx.thn, AEx.blk, if_true]
    have hke : k = rs.length := by
      have := of_decide_eq_false hge
      omega
    subst hke
    rw [List.drop_length] at hi
    simp [idxA] at hi
    subst hi
    refine runs_seq (runs_reg (ops_run (by simp; rfl) ?_))
    simp only [AEx.thn, AEx.blk]
    refine runs_ret ?_
    simp

theorem a102 (P : Program) (T : Nat → Option CFn) (hT : T 102 = some c102) (x : AVal) (rs : List (List AVal)) (hx : rowsV x = some rs) (g : Nat) (a b : List AVal) (r : Int) (hl : rs.length ≤ 1000) (hr : rs.all (fun r => r.length == 2 && r.all isI) = true)
    (hq : idxA (fun r => known T g (a ++ [elt r] ++ b)) 0 rs = some r) : Answers P T 102 [x, .fn g a b] [] fun v h => v = .int .i64 r ∧ h = [] := by
  have lx := rowsV_len hx
  refine answers_of hT (orcF_none rfl) ?_
  simp only [c102]
  refine runs_seq (runs_reg (ops_run (by simp; rfl) ?_))
  simp only [AEx.thn, AEx.blk]
  refine runs_seq (runs_seq (runs_reg (ops_run (by simp [lx, -lenA]; rfl) ?_)))
  simp only [AEx.thn, AEx.blk]
  refine runs_block ?_
  refine runs_loop_inv (fun m σ => ∃ (k : Nat) (i : Int), i = k ∧ m = rs.length - k ∧ k ≤ rs.length ∧ idxA (fun r => known T g (a ++ [elt r] ++ b)) k (rs.drop k) = some r ∧
    σ = ⟨[x, .fn g a b, .any, .any, .any, .any, .any, I rs.length, I i, .any, .any, .any, .any, .any, .any, .any, .any, .any, .any], []⟩) ?_ (rs.length - 0) _ ⟨0, 0, rfl, rfl, Nat.zero_le _, hq, by simp⟩
  rintro m σ ⟨k, i, hik, rfl, hk, hi, rfl⟩
  have h0 : 0 ≤ i := by omega
  have htn : i.toNat = k := by omega
  refine runs_seq (runs_reg (ops_run (by simp; rfl) ?_))
  simp only [AEx.thn, AEx.blk]
  refine runs_seq (runs_cond_split (x := decide (i < rs.length)) (by simp) (fun hlt => ?_) (fun hge => ?_))
  · refine runs_skip ?_
    simp only [AEx.thn, AEx.blk]
    have hlt' : k < rs.length := by have := of_decide_eq_true hlt; omega
    obtain ⟨tt, rfl⟩ := rowsV_get hx hlt'
    have hr1 := List.all_eq_true.1 hr _ (List.getElem_mem hlt')
    simp only [Bool.and_eq_true, beq_iff_eq, List.all_eq_true] at hr1
    obtain ⟨y0, y1, hrk⟩ := ints2 hr1.1 hr1.2
    rw [List.drop_eq_getElem_cons hlt'] at hi
    simp only [idxA] at hi
    refine runs_seq (runs_block ?_)
    refine runs_seq (runs_reg (ops_run (by simp; rfl) ?_))
    simp only [AEx.thn, AEx.blk]
    split at hi
    · rename_i hb
      simp at hi; rw [← hik] at hi; subst hi
      rw [hrk] at hb; simp only [elt, List.append_assoc, List.cons_append, List.nil_append] at hb
      refine runs_seq (runs_reg (ops_run (by simp [h0, htn, hlt', hrk, lop, loud, callA, calleeA, callF_known hb]; rfl) ?_))
      simp only [AEx.thn, AEx.blk]
      refine runs_cond (x := true) (by simp) ?_
      refine runs_seq (runs_reg (ops_run (by simp; rfl) ?_))
      simp only [AEx.thn, AEx.blk]
      refine runs_ret ?_
      simp
    · rename_i hb
      rw [hrk] at hb; simp only [elt, List.append_assoc, List.cons_append, List.nil_append] at hb
      refine runs_seq (runs_reg (ops_run (by simp [h0, htn, hlt', hrk, lop, loud, callA, calleeA, callF_known hb]; rfl) ?_))
      simp only [AEx.thn, AEx.blk]
      refine runs_cond (x := false) (by simp) ?_
      refine runs_skip ?_
      simp only [AEx.thn, AEx.blk]
      refine runs_reg (ops_run (by simp; rfl) ?_)
      simp only [AEx.thn, AEx.blk]
      refine ⟨rs.length - (k + 1), by omega, k + 1, i + 1, by omega, rfl, by omega, hi, ?_⟩
      simp [W_small (show -1000000 ≤ i + 1 ∧ i + 1 ≤ 1000000 by omega)]
    · simp at hi
  · refine runs_exit ?_
    simp only [AEx.thn, AEx.blk, if_true]
    have hke : k = rs.length := by
      have := of_decide_eq_false hge
      omega
    subst hke
    rw [List.drop_length] at hi
    simp [idxA] at hi
    subst hi
    refine runs_seq (runs_reg (ops_run (by simp; rfl) ?_))
    simp only [AEx.thn, AEx.blk]
    refine runs_ret ?_
    simp

theorem a85 (P : Program) (T : Nat → Option CFn) (hT : T 85 = some c85) (x : AVal) (rs : List (List AVal)) (hx : rowsV x = some rs) (g : Nat) (a b : List AVal) (r : Int) (hl : rs.length ≤ 1000) (hr : rs.all (fun r => r.length == 3 && r.all isI) = true)
    (hq : idxA (fun r => known T g (a ++ [elt r] ++ b)) 0 rs = some r) : Answers P T 85 [x, .fn g a b] [] fun v h => v = .int .i64 r ∧ h = [] := by
  have lx := rowsV_len hx
  refine answers_of hT (orcF_none rfl) ?_
  simp only [c85]
  refine runs_seq (runs_reg (ops_run (by simp; rfl) ?_))
  simp only [AEx.thn, AEx.blk]
  refine runs_seq (runs_seq (runs_reg (ops_run (by simp [lx, -lenA]; rfl) ?_)))
  simp only [AEx.thn, AEx.blk]
  refine runs_block ?_
  refine runs_loop_inv (fun m σ => ∃ (k : Nat) (i : Int), i = k ∧ m = rs.length - k ∧ k ≤ rs.length ∧ idxA (fun r => known T g (a ++ [elt r] ++ b)) k (rs.drop k) = some r ∧
    σ = ⟨[x, .fn g a b, .any, .any, .any, .any, .any, I rs.length, I i, .any, .any, .any, .any, .any, .any, .any, .any, .any, .any], []⟩) ?_ (rs.length - 0) _ ⟨0, 0, rfl, rfl, Nat.zero_le _, hq, by simp⟩
  rintro m σ ⟨k, i, hik, rfl, hk, hi, rfl⟩
  have h0 : 0 ≤ i := by omega
  have htn : i.toNat = k := by omega
  refine runs_seq (runs_reg (ops_run (by simp; rfl) ?_))
  simp only [AEx.thn, AEx.blk]
  refine runs_seq (runs_cond_split (x := decide (i < rs.length)) (by simp) (fun hlt => ?_) (fun hge => ?_))
  · refine runs_skip ?_
    simp only [AEx.thn, AEx.blk]
    have hlt' : k < rs.length := by have := of_decide_eq_true hlt; omega
    obtain ⟨tt, rfl⟩ := rowsV_get hx hlt'
    have hr1 := List.all_eq_true.1 hr _ (List.getElem_mem hlt')
    simp only [Bool.and_eq_true, beq_iff_eq, List.all_eq_true] at hr1
    obtain ⟨y0, y1, y2, hrk⟩ := ints3 hr1.1 hr1.2
    rw [List.drop_eq_getElem_cons hlt'] at hi
    simp only [idxA] at hi
    refine runs_seq (runs_block ?_)
    refine runs_seq (runs_reg (ops_run (by simp; rfl) ?_))
    simp only [AEx.thn, AEx.blk]
    split at hi
    · rename_i hb
      simp at hi; rw [← hik] at hi; subst hi
      rw [hrk] at hb; simp only [elt, List.append_assoc, List.cons_append, List.nil_append] at hb
      refine runs_seq (runs_reg (ops_run (by simp [h0, htn, hlt', hrk, lop, loud, callA, calleeA, callF_known hb]; rfl) ?_))
      simp only [AEx.thn, AEx.blk]
      refine runs_cond (x := true) (by simp) ?_
      refine runs_seq (runs_reg (ops_run (by simp; rfl) ?_))
      simp only [AEx.thn, AEx.blk]
      refine runs_ret ?_
      simp
    · rename_i hb
      rw [hrk] at hb; simp only [elt, List.append_assoc, List.cons_append, List.nil_append] at hb
      refine runs_seq (runs_reg (ops_run (by simp [h0, htn, hlt', hrk, lop, loud, callA, calleeA, callF_known hb]; rfl) ?_))
      simp only [AEx.thn, AEx.blk]
      refine runs_cond (x := false) (by simp) ?_
      refine runs_skip ?_
      simp only [AEx.thn, AEx.blk]
      refine runs_reg (ops_run (by simp; rfl) ?_)
      simp only [AEx.thn, AEx.blk]
      refine ⟨rs.length - (k + 1), by omega, k + 1, i + 1, by omega, rfl, by omega, hi, ?_⟩
      simp [W_small (show -1000000 ≤ i + 1 ∧ i + 1 ≤ 1000000 by omega)]
    · simp at hi
  · refine runs_exit ?_
    simp only [AEx.thn, AEx.blk, if_true]
    have hke : k = rs.length := by
      have := of_decide_eq_false hge
      omega
    subst hke
    rw [List.drop_length] at hi
    simp [idxA] at hi
    subst hi
    refine runs_seq (runs_reg (ops_run (by simp; rfl) ?_))
    simp only [AEx.thn, AEx.blk]
    refine runs_ret ?_
    simp

theorem a83 (P : Program) (T : Nat → Option CFn) (hT : T 83 = some c83) (hj : T 103 = some c103) (x : AVal) (rs : List (List AVal)) (hx : rowsV x = some rs) (g : Nat) (a b : List AVal) (r : Int) (hl : rs.length ≤ 1000) (hr : rs.all (fun r => r.length == 1 && r.all isI) = true)
    (hq : idxA (fun r => known T g (a ++ [elt r] ++ b)) 0 rs = some r) : Answers P T 83 [x, .fn g a b] [] fun v h => v = .bool (decide (0 ≤ r)) ∧ h = [] := by
  refine answers_of hT (orcF_none rfl) ?_
  simp only [c83]
  refine runs_seq (runs_reg (ops_run (by simp; rfl) ?_))
  simp only [AEx.thn, AEx.blk]
  refine runs_seq (runs_reg ?_)
  refine ops_cons 0 (by simp; rfl) (ops_cons 0 (by simp; rfl) ?_)
  refine ops_call (f := 103) (args := [x, .fn g a b]) (by simp) (by simp) (by simp [lop]) (by simp [calleeA]) ?_
  refine (a103 P T hj x rs hx g a b r hl hr hq).mono ?_
  rintro v h' ⟨rfl, rfl⟩
  refine ops_run (by simp; rfl) ?_
  simp only [AEx.thn, AEx.blk]
  refine runs_ret ?_
  simp

theorem a80 (P : Program) (T : Nat → Option CFn) (hT : T 80 = some c80) (hj : T 102 = some c102) (x : AVal) (rs : List (List AVal)) (hx : rowsV x = some rs) (g : Nat) (a b : List AVal) (r : Int) (hl : rs.length ≤ 1000) (hr : rs.all (fun r => r.length == 2 && r.all isI) = true)
    (hq : idxA (fun r => known T g (a ++ [elt r] ++ b)) 0 rs = some r) : Answers P T 80 [x, .fn g a b] [] fun v h => v = .bool (decide (0 ≤ r)) ∧ h = [] := by
  refine answers_of hT (orcF_none rfl) ?_
  simp only [c80]
  refine runs_seq (runs_reg (ops_run (by simp; rfl) ?_))
  simp only [AEx.thn, AEx.blk]
  refine runs_seq (runs_reg ?_)
  refine ops_cons 0 (by simp; rfl) (ops_cons 0 (by simp; rfl) ?_)
  refine ops_call (f := 102) (args := [x, .fn g a b]) (by simp) (by simp) (by simp [lop]) (by simp [calleeA]) ?_
  refine (a102 P T hj x rs hx g a b r hl hr hq).mono ?_
  rintro v h' ⟨rfl, rfl⟩
  refine ops_run (by simp; rfl) ?_
  simp only [AEx.thn, AEx.blk]
  refine runs_ret ?_
  simp

theorem a58 (P : Program) (T : Nat → Option CFn) (hT : T 58 = some c58) (hj : T 85 = some c85) (x : AVal) (rs : List (List AVal)) (hx : rowsV x = some rs) (g : Nat) (a b : List AVal) (r : Int) (hl : rs.length ≤ 1000) (hr : rs.all (fun r => r.length == 3 && r.all isI) = true)
    (hq : idxA (fun r => known T g (a ++ [elt r] ++ b)) 0 rs = some r) : Answers P T 58 [x, .fn g a b] [] fun v h => v = .bool (decide (0 ≤ r)) ∧ h = [] := by
  refine answers_of hT (orcF_none rfl) ?_
  simp only [c58]
  refine runs_seq (runs_reg (ops_run (by simp; rfl) ?_))
  simp only [AEx.thn, AEx.blk]
  refine runs_seq (runs_reg ?_)
  refine ops_cons 0 (by simp; rfl) (ops_cons 0 (by simp; rfl) ?_)
  refine ops_call (f := 85) (args := [x, .fn g a b]) (by simp) (by simp) (by simp [lop]) (by simp [calleeA]) ?_
  refine (a85 P T hj x rs hx g a b r hl hr hq).mono ?_
  rintro v h' ⟨rfl, rfl⟩
  refine ops_run (by simp; rfl) ?_
  simp only [AEx.thn, AEx.blk]
  refine runs_ret ?_
  simp

noncomputable def TB : Nat → Option CFn := upd TA 83 true (oCF TA 1)
theorem TB_ok : TabOk Tryd.prog GG TB := tab_add mixed TA_ok fun args v ho => by
  unfold oCF at ho; split at ho <;> (try simp at ho)
  rename_i x g a b
  split at ho <;> (try simp at ho)
  rename_i rs hx
  obtain ⟨⟨hl, hr⟩, ho⟩ := ho
  split at ho <;> simp at ho
  rename_i r hq
  subst ho
  refine (a83 Tryd.prog TA rfl rfl x rs hx g a b r hl (by simpa using hr) (by simpa using hq)).mono ?_
  rintro v h ⟨rfl, rfl⟩
  rfl
/-- Integers lie between two others. -/
def wB (a b : Int) (xs : List Int) : Bool := xs.all fun x => decide (a ≤ x) && decide (x ≤ b)
def o56 : List AVal → Option AVal
  | [.int .i64 a, .int .i64 b, x] => match rowsV x with
    | some rs => match optAll dI1 rs with
      | some xs => if xs.length ≤ 1000 then some (.bool (wB a b xs)) else none
      | none => none
    | none => none
  | _ => none
theorem a56 (P : Program) (T : Nat → Option CFn) (hT : T 56 = some c56) (h83 : T 83 = some { c83 with frsh := true, orc := oCF TA 1 }) (a b : Int) (x : AVal) (xs : List Int) (hx : rowsV x = some (xs.map fun x => [I x])) (hl : xs.length ≤ 1000) :
    Answers P T 56 [I a, I b, x] [] fun v h => v = .bool (wB a b xs) ∧ h = [] := by
  have hcf : oCF TA 1 [x, .fn 84 [] [.pv [I a] 0, .pv [I b] 0]] = some (.bool ((xs.map fun x => [I x]).any fun r => match r with | [.int .i64 n] => decide (n < a) || decide (b < n) | _ => false)) := by
    refine oCF_any hx (by simpa using hl) (by simp [isI]) ?_
    intro r hr
    obtain ⟨n, _, rfl⟩ := List.mem_map.1 hr
    rfl
  have hv : (!((xs.map fun x => [I x]).any fun r => match r with | [.int .i64 n] => decide (n < a) || decide (b < n) | _ => false)) = wB a b xs := by
    simp only [wB, List.any_map, List.not_any_eq_all_not]
    congr 1
    funext n
    simp only [Function.comp]
    rw [Bool.eq_iff_iff]
    simp
  rw [← hv]
  generalize hbb : ((xs.map fun x => [I x]).any fun r => match r with | [.int .i64 n] => decide (n < a) || decide (b < n) | _ => false) = bb at hcf
  refine answers_of hT (orcF_none rfl) ?_
  simp only [c56]
  refine runs_seq (runs_reg (ops_run (by simp; rfl) ?_))
  simp only [AEx.thn, AEx.blk]
  refine runs_seq (runs_reg (ops_run (by simp [lop, loud, callA, calleeA, callF_step h83, rowsV_frz hx, hcf]; rfl) ?_))
  simp only [AEx.thn, AEx.blk]
  refine runs_ret ?_
  simp

noncomputable def TC : Nat → Option CFn := upd TB 56 true (o56)
theorem TC_ok : TabOk Tryd.prog GG TC := tab_add mixed TB_ok fun args v ho => by
  unfold o56 at ho; split at ho <;> (try simp at ho)
  rename_i a b x
  split at ho <;> (try simp at ho)
  rename_i rs hx
  split at ho <;> (try simp at ho)
  rename_i xs hxs
  obtain ⟨hl, rfl⟩ := ho
  have e := optAll_eq dI1_eq hxs
  subst e
  refine (a56 Tryd.prog TB rfl rfl a b x xs hx hl).mono ?_
  rintro v h ⟨rfl, rfl⟩
  rfl
end
end Go.Proofs.YtpebmjeomlgmdaaDoor.Tab

namespace Go.Proofs.YtpebmjeomlgmdaaDoor.Tab
open Go Go.Abs Go.Proofs
set_option maxRecDepth 100000
section
attribute [local simp] frz_int frz_bool frz_vl frz_pv frz_agg frz_tup frz_fn frz_ref frz_sl frz_nils optAll orcF rb_int rb_bool rb_agg rb_tup rb_int' rb_bool' rb_vl rb_pv rb_yld rb_nilf rb_nilp rb_nils rb_any rb_und rb_ref rb_sl rb_fn slE chunk fillA evParts evParts3 putAt List.range_succ List.range_zero List.range'_succ List.range'_zero runX_nil' unary_not evalS_pure evAll_nil evAll_cons runX_cons stepX wantedA dop CV.ev cellsOf putK_eq setK_eq appK_eq fA_eq fI_eq fN_eq fRow_eq fRows_eq nth_eq Out.v putT List.replicate_succ AEx.thn AEx.blk arI pointee Abs.rowAt ldRow allV toV toC ofV ofC Builtin.min_ Builtin.min2 Builtin.max_ Builtin.max2 min_if max_if resA tupA kill trim_self trim_len trim_emp trim_nil lenA
attribute [local simp] runD_nil' runD_cons' stepD actK_eq actD clash disj masks holes maskH unmaskH diffs news eqB allB eqA ldRowN wrote toCs ofCs stA storable rowsV_vl rowsV_nils rowsOf dI1 dI2 dI3 dI5 elt
def ruleB (u d : Int) : Bool := wB 0 50 [u, d]
def moistB (l h : Int) : Bool := wB 0 300 [l, h] && decide (l ≤ h)
def o57 : List AVal → Option AVal
  | [.agg [.int .i64 u, .int .i64 d]] => some (.bool (ruleB u d))
  | _ => none
def o82 : List AVal → Option AVal
  | [.agg [.int .i64 l, .int .i64 h]] => some (.bool (moistB l h))
  | _ => none
def o81 : List AVal → Option AVal
  | [.agg [.int .i64 l, .int .i64 h]] => some (.bool (!moistB l h))
  | _ => none
def o55 : List AVal → Option AVal
  | [x] => match rowsV x with
    | some rs => match optAll dI2 rs with
      | some xs => if xs.length ≤ 1000 then some (.bool (xs.all fun s => moistB s.1 s.2)) else none
      | none => none
    | none => none
  | _ => none

theorem a57 (P : Program) (T : Nat → Option CFn) (hT : T 57 = some c57) (h56 : T 56 = some { c56 with frsh := true, orc := o56 }) (u d : Int) : Answers P T 57 [.agg [I u, I d]] [] fun v h => v = .bool (ruleB u d) ∧ h = [] := by
  refine answers_of hT (orcF_none rfl) ?_
  simp only [c57]
  refine runs_seq (runs_reg (ops_run (by simp; rfl) ?_))
  simp only [AEx.thn, AEx.blk]
  refine runs_seq (runs_reg (ops_run (by simp [lop, loud, callA, calleeA, callF_step h56, h56, o56, optAll]; rfl) ?_))
  simp only [AEx.thn, AEx.blk]
  refine runs_ret ?_
  simp [ruleB]
theorem a82 (P : Program) (T : Nat → Option CFn) (hT : T 82 = some c82) (h56 : T 56 = some { c56 with frsh := true, orc := o56 }) (l r : Int) : Answers P T 82 [.agg [I l, I r]] [] fun v h => v = .bool (moistB l r) ∧ h = [] := by
  refine answers_of hT (orcF_none rfl) ?_
  simp only [c82]
  refine runs_seq (runs_reg (ops_run (by simp; rfl) ?_))
  simp only [AEx.thn, AEx.blk]
  unfold moistB
  cases hb : wB 0 300 [l, r]
  · refine runs_seq (runs_reg (ops_run (by simp [lop, loud, callA, calleeA, callF_step h56, h56, o56, optAll, hb]; rfl) ?_))
    simp only [AEx.thn, AEx.blk]
    refine runs_ret ?_
    simp [hb]
  · refine runs_seq (runs_reg (ops_run (by simp [lop, loud, callA, calleeA, callF_step h56, h56, o56, optAll, hb]; rfl) ?_))
    simp only [AEx.thn, AEx.blk]
    refine runs_ret ?_
    simp [hb]
theorem a81 (P : Program) (T : Nat → Option CFn) (hT : T 81 = some c81) (h82 : T 82 = some { c82 with frsh := true, orc := o82 }) (l r : Int) : Answers P T 81 [.agg [I l, I r]] [] fun v h => v = .bool (!moistB l r) ∧ h = [] := by
  refine answers_of hT (orcF_none rfl) ?_
  simp only [c81]
  refine runs_seq (runs_reg (ops_run (by simp; rfl) ?_))
  simp only [AEx.thn, AEx.blk]
  refine runs_seq (runs_reg (ops_run (by simp [lop, loud, callA, calleeA, callF_step h82, h82, o82]; rfl) ?_))
  simp only [AEx.thn, AEx.blk]
  refine runs_ret ?_
  simp
noncomputable def TD0_57 : Nat → Option CFn := upd TC 57 true (o57)
theorem TD0_57_ok : TabOk Tryd.prog GG TD0_57 := tab_add mixed TC_ok fun args v ho => by
  unfold o57 at ho; split at ho <;> simp at ho
  rename_i a b
  subst ho
  refine (a57 Tryd.prog TC rfl rfl a b).mono ?_
  rintro v h ⟨rfl, rfl⟩
  rfl
noncomputable def TD0_82 : Nat → Option CFn := upd TD0_57 82 true (o82)
theorem TD0_82_ok : TabOk Tryd.prog GG TD0_82 := tab_add mixed TD0_57_ok fun args v ho => by
  unfold o82 at ho; split at ho <;> simp at ho
  rename_i a b
  subst ho
  refine (a82 Tryd.prog TD0_57 rfl rfl a b).mono ?_
  rintro v h ⟨rfl, rfl⟩
  rfl
noncomputable def TD0 : Nat → Option CFn := upd TD0_82 81 true (o81)
theorem TD0_ok : TabOk Tryd.prog GG TD0 := tab_add mixed TD0_82_ok fun args v ho => by
  unfold o81 at ho; split at ho <;> simp at ho
  rename_i a b
  subst ho
  refine (a81 Tryd.prog TD0_82 rfl rfl a b).mono ?_
  rintro v h ⟨rfl, rfl⟩
  rfl
noncomputable def TD1 : Nat → Option CFn := upd TD0 80 true (oCF TD0 2)
theorem TD1_ok : TabOk Tryd.prog GG TD1 := tab_add mixed TD0_ok fun args v ho => by
  unfold oCF at ho; split at ho <;> (try simp at ho)
  rename_i x g a b
  split at ho <;> (try simp at ho)
  rename_i rs hx
  obtain ⟨⟨hl, hr⟩, ho⟩ := ho
  split at ho <;> simp at ho
  rename_i r hq
  subst ho
  refine (a80 Tryd.prog TD0 rfl rfl x rs hx g a b r hl (by simpa using hr) (by simpa using hq)).mono ?_
  rintro v h ⟨rfl, rfl⟩
  rfl
theorem a55 (P : Program) (T : Nat → Option CFn) (hT : T 55 = some c55) (h80 : T 80 = some { c80 with frsh := true, orc := oCF TD0 2 }) (x : AVal) (xs : List (Int × Int)) (hx : rowsV x = some (xs.map fun s => [I s.1, I s.2])) (hl : xs.length ≤ 1000) :
    Answers P T 55 [x] [] fun v h => v = .bool (xs.all fun s => moistB s.1 s.2) ∧ h = [] := by
  have hcf : oCF TD0 2 [x, .fn 81 [] []] = some (.bool ((xs.map fun s => [I s.1, I s.2]).any fun r => match r with | [.int .i64 l, .int .i64 h] => !moistB l h | _ => false)) := by
    refine oCF_any hx (by simpa using hl) (by simp [isI]) ?_
    intro r hr
    obtain ⟨n, _, rfl⟩ := List.mem_map.1 hr
    rfl
  have hv : (!((xs.map fun s => [I s.1, I s.2]).any fun r => match r with | [.int .i64 l, .int .i64 h] => !moistB l h | _ => false)) = xs.all fun s => moistB s.1 s.2 := by
    simp [List.any_map, List.not_any_eq_all_not, Function.comp_def]
  rw [← hv]
  generalize hbb : ((xs.map fun s => [I s.1, I s.2]).any fun r => match r with | [.int .i64 l, .int .i64 h] => !moistB l h | _ => false) = bb at hcf
  refine answers_of hT (orcF_none rfl) ?_
  simp only [c55]
  refine runs_seq (runs_reg (ops_run (by simp; rfl) ?_))
  simp only [AEx.thn, AEx.blk]
  refine runs_seq (runs_reg (ops_run (by simp [lop, loud, callA, calleeA, callF_step h80, h80, rowsV_frz hx, hcf]; rfl) ?_))
  simp only [AEx.thn, AEx.blk]
  refine runs_ret ?_
  simp
def isNoneB (l h n : Int) : Bool := !moistB l h || !wB 0 500 [n]
def o54 : List AVal → Option AVal
  | [.agg [.int .i64 l, .int .i64 h, .int .i64 n]] => some (.bool (isNoneB l h n))
  | _ => none

noncomputable def TD2 : Nat → Option CFn := upd TD1 55 true (o55)
theorem TD2_ok : TabOk Tryd.prog GG TD2 := tab_add mixed TD1_ok fun args v ho => by
  unfold o55 at ho; split at ho <;> (try simp at ho)
  rename_i x
  split at ho <;> (try simp at ho)
  rename_i rs hx
  split at ho <;> (try simp at ho)
  rename_i xs hxs
  obtain ⟨hl, rfl⟩ := ho
  have e := optAll_eq dI2_eq hxs
  subst e
  refine (a55 Tryd.prog TD1 rfl rfl x xs hx hl).mono ?_
  rintro v h ⟨rfl, rfl⟩
  simp [frz_bool]
theorem a54 (P : Program) (T : Nat → Option CFn) (hT : T 54 = some c54) (h55 : T 55 = some { c55 with frsh := true, orc := o55 }) (h56 : T 56 = some { c56 with frsh := true, orc := o56 }) (l r n : Int) : Answers P T 54 [.agg [I l, I r, I n]] [] fun v h => v = .bool (isNoneB l r n) ∧ h = [] := by
  refine answers_of hT (orcF_none rfl) ?_
  simp only [c54]
  refine runs_seq (runs_reg (ops_run (by simp; rfl) ?_))
  simp only [AEx.thn, AEx.blk]
  unfold isNoneB
  cases hb : moistB l r
  · refine runs_seq (runs_reg (ops_run (by simp [lop, loud, callA, calleeA, callF_step h55, h55, callF_step h56, h56, o55, o56, hb]; rfl) ?_))
    simp only [AEx.thn, AEx.blk]
    refine runs_ret ?_
    simp [hb]
  · refine runs_seq (runs_reg (ops_run (by simp [lop, loud, callA, calleeA, callF_step h55, h55, callF_step h56, h56, o55, o56, hb]; rfl) ?_))
    simp only [AEx.thn, AEx.blk]
    refine runs_ret ?_
    simp [hb]
noncomputable def TD3 : Nat → Option CFn := upd TD2 54 true (o54)
theorem TD3_ok : TabOk Tryd.prog GG TD3 := tab_add mixed TD2_ok fun args v ho => by
  unfold o54 at ho; split at ho <;> simp at ho
  rename_i a b c
  subst ho
  refine (a54 Tryd.prog TD2 rfl rfl rfl a b c).mono ?_
  rintro v h ⟨rfl, rfl⟩
  rfl
noncomputable def TD4 : Nat → Option CFn := upd TD3 58 true (oCF TD3 3)
theorem TD4_ok : TabOk Tryd.prog GG TD4 := tab_add mixed TD3_ok fun args v ho => by
  unfold oCF at ho; split at ho <;> (try simp at ho)
  rename_i x g a b
  split at ho <;> (try simp at ho)
  rename_i rs hx
  obtain ⟨⟨hl, hr⟩, ho⟩ := ho
  split at ho <;> simp at ho
  rename_i r hq
  subst ho
  refine (a58 Tryd.prog TD3 rfl rfl x rs hx g a b r hl (by simpa using hr) (by simpa using hq)).mono ?_
  rintro v h ⟨rfl, rfl⟩
  rfl
abbrev Stay := Int × Int × Int
def rStay (s : Stay) : List AVal := [I s.1, I s.2.1, I s.2.2]
def checkI (u d l h : Int) (ss : List Stay) : Int :=
  if !ruleB u d then 2 else if !moistB l h then 3 else if 10 < ss.length then 5 else if ss.any fun s => isNoneB s.1 s.2.1 s.2.2 then 4 else 0
def o14 : List AVal → Option AVal
  | [.agg [.int .i64 u, .int .i64 d], .agg [.int .i64 l, .int .i64 h], x] => match rowsV x with
    | some rs => match optAll dI3 rs with
      | some ss => if ss.length ≤ 1000 then some (.int .i64 (checkI u d l h ss)) else none
      | none => none
    | none => none
  | _ => none
theorem a14 (P : Program) (T : Nat → Option CFn) (hT : T 14 = some c14) (h57 : T 57 = some { c57 with frsh := true, orc := o57 }) (h55 : T 55 = some { c55 with frsh := true, orc := o55 }) (h58 : T 58 = some { c58 with frsh := true, orc := oCF TD3 3 })
    (u d l r : Int) (x : AVal) (ss : List Stay) (hx : rowsV x = some (ss.map rStay)) (hl : ss.length ≤ 1000) : Answers P T 14 [.agg [I u, I d], .agg [I l, I r], x] [] fun v h => v = I (checkI u d l r ss) ∧ h = [] := by
  have lx := rowsV_len hx
  rw [List.length_map] at lx
  have hcf : oCF TD3 3 [x, .fn 54 [] []] = some (.bool ((ss.map rStay).any fun r => match r with | [.int .i64 l, .int .i64 h, .int .i64 n] => isNoneB l h n | _ => false)) := by
    refine oCF_any hx (by simpa using hl) (by simp [isI, rStay]) ?_
    intro r hr
    obtain ⟨n, _, rfl⟩ := List.mem_map.1 hr
    rfl
  have hv : ((ss.map rStay).any fun r => match r with | [.int .i64 l, .int .i64 h, .int .i64 n] => isNoneB l h n | _ => false) = ss.any fun s => isNoneB s.1 s.2.1 s.2.2 := by
    simp [List.any_map, Function.comp_def, rStay]
  rw [hv] at hcf
  unfold checkI
  generalize hbb : (ss.any fun s => isNoneB s.1 s.2.1 s.2.2) = bb at hcf
  refine answers_of hT (orcF_none rfl) ?_
  simp only [c14]
  refine runs_seq (runs_reg (ops_run (by simp; rfl) ?_))
  simp only [AEx.thn, AEx.blk]
  refine runs_seq (runs_reg (ops_run (by simp; rfl) ?_))
  simp only [AEx.thn, AEx.blk]
  refine runs_seq (runs_block ?_)
  refine runs_seq (runs_reg (ops_run (by simp [lop, loud, callA, calleeA, callF_step h57, h57, o57]; rfl) ?_))
  simp only [AEx.thn, AEx.blk]
  refine runs_cond_split (x := !ruleB u d) (by simp) (fun h1 => ?_) (fun h1 => ?_)
  · refine runs_seq (runs_reg (ops_run (by simp; rfl) ?_))
    simp only [AEx.thn, AEx.blk]
    refine runs_ret ?_
    simp [h1]
  refine runs_seq (runs_reg (ops_run (by simp [lop, loud, callA, calleeA, callF_step h55, h55, o55]; rfl) ?_))
  simp only [AEx.thn, AEx.blk]
  refine runs_cond_split (x := !moistB l r) (by simp) (fun h2 => ?_) (fun h2 => ?_)
  · refine runs_seq (runs_reg (ops_run (by simp; rfl) ?_))
    simp only [AEx.thn, AEx.blk]
    refine runs_ret ?_
    simp [h1, h2]
  refine runs_seq (runs_reg (ops_run (by simp [lx, -lenA]; rfl) ?_))
  simp only [AEx.thn, AEx.blk]
  refine runs_cond_split (x := decide ((10:Int) < (ss.length:Int))) (by simp) (fun h3 => ?_) (fun h3 => ?_)
  · refine runs_seq (runs_reg (ops_run (by simp; rfl) ?_))
    simp only [AEx.thn, AEx.blk]
    have h3 : 10 < ss.length := by have := of_decide_eq_true h3; omega
    refine runs_ret ?_
    simp [h1, h2, h3]
  have h3 : ¬ 10 < ss.length := by have := of_decide_eq_false h3; omega
  refine runs_seq (runs_reg (ops_run (by simp [lop, loud, callA, calleeA, callF_step h58, h58, rowsV_frz hx, hcf]; rfl) ?_))
  simp only [AEx.thn, AEx.blk]
  refine runs_cond_split (x := bb) (by simp) (fun h4 => ?_) (fun h4 => ?_)
  · refine runs_seq (runs_reg (ops_run (by simp; rfl) ?_))
    simp only [AEx.thn, AEx.blk]
    refine runs_ret ?_
    simp [h1, h2, h3, h4]
  refine runs_skip ?_
  simp only [AEx.thn, AEx.blk]
  refine runs_seq (runs_reg (ops_run (by simp; rfl) ?_))
  simp only [AEx.thn, AEx.blk]
  refine runs_ret ?_
  simp [h1, h2, h3, h4]
noncomputable def TD : Nat → Option CFn := upd TD4 14 true (o14)
theorem TD_ok : TabOk Tryd.prog GG TD := tab_add mixed TD4_ok fun args v ho => by
  unfold o14 at ho; split at ho <;> (try simp at ho)
  rename_i u d l r x
  split at ho <;> (try simp at ho)
  rename_i rs hx
  split at ho <;> (try simp at ho)
  rename_i xs hxs
  obtain ⟨hl, rfl⟩ := ho
  have e := optAll_eq dI3_eq hxs
  subst e
  refine (a14 Tryd.prog TD4 rfl rfl rfl rfl u d l r x xs hx hl).mono ?_
  rintro v h ⟨rfl, rfl⟩
  rfl
end
end Go.Proofs.YtpebmjeomlgmdaaDoor.Tab

namespace Go.Proofs.YtpebmjeomlgmdaaDoor.Tab
open Go Go.Abs Go.Proofs
set_option maxRecDepth 100000
section
attribute [local simp] frz_int frz_bool frz_vl frz_pv frz_agg frz_tup frz_fn frz_ref frz_sl frz_nils optAll orcF rb_int rb_bool rb_agg rb_tup rb_int' rb_bool' rb_vl rb_pv rb_yld rb_nilf rb_nilp rb_nils rb_any rb_und rb_ref rb_sl rb_fn slE chunk fillA evParts evParts3 putAt List.range_succ List.range_zero List.range'_succ List.range'_zero runX_nil' unary_not evalS_pure evAll_nil evAll_cons runX_cons stepX wantedA dop CV.ev cellsOf putK_eq setK_eq appK_eq fA_eq fI_eq fN_eq fRow_eq fRows_eq nth_eq Out.v putT List.replicate_succ AEx.thn AEx.blk arI pointee Abs.rowAt ldRow allV toV toC ofV ofC Builtin.min_ Builtin.min2 Builtin.max_ Builtin.max2 min_if max_if resA tupA kill trim_self trim_len trim_emp trim_nil lenA
attribute [local simp] runD_nil' runD_cons' stepD actK_eq actD clash disj masks holes maskH unmaskH diffs news eqB allB eqA ldRowN wrote toCs ofCs stA storable rowsV_vl rowsV_nils rowsOf dI1 dI2 dI3 dI5 elt
def o63 : List AVal → Option AVal
  | [.agg [.int .i64 l, .int .i64 h], .agg [.int .i64 u, .int .i64 d], .agg [.int .i64 rl, .int .i64 rh], .int .i64 n] => some (.agg [.int .i64 (tw u d l rl n), .int .i64 (tw u d h rh n)])
  | _ => none
def o61 : List AVal → Option AVal
  | [.agg [.int .i64 u, .int .i64 d], .agg [.int .i64 l, .int .i64 h], .agg [.int .i64 rl, .int .i64 rh]] => some (.agg [.int .i64 (hr u d l rl), .int .i64 (hr u d h rh)])
  | _ => none
def inB (n a b : Int) : Bool := decide (a ≤ n) && decide (n ≤ b)
def spanB (l h a b : Int) : Bool := inB l a h && decide (h ≤ b)
def o64 : List AVal → Option AVal
  | [.agg [.int .i64 l, .int .i64 h], .int .i64 a, .int .i64 b] => some (.bool (spanB l h a b))
  | _ => none
def o60' : List AVal → Option AVal
  | [.int .i64 n, .int .i64 a, .int .i64 b] => some (.bool (inB n a b))
  | _ => none
def o25 : List AVal → Option AVal
  | [.agg [.int .i64 l, .int .i64 h]] => some (.bool (spanB l h 0 300))
  | _ => none
def rB (u d : Int) : Bool := inB u 0 50 && inB d 0 50
def o27 : List AVal → Option AVal
  | [.agg [.int .i64 u, .int .i64 d]] => some (.bool (rB u d))
  | _ => none

theorem a63 (P : Program) (T : Nat → Option CFn) (hT : T 63 = some c63) (h88 : T 88 = some { c88 with frsh := true, orc := o88 }) (l r u d rl rh n : Int) : Answers P T 63 [.agg [I l, I r], .agg [I u, I d], .agg [I rl, I rh], I n] [] fun v h => v = .agg [I (tw u d l rl n), I (tw u d r rh n)] ∧ h = [] := by
  refine answers_of hT (orcF_none rfl) ?_
  simp only [c63]
  refine runs_seq (runs_reg (ops_run (by simp; rfl) ?_))
  simp only [AEx.thn, AEx.blk]
  refine runs_seq (runs_drw (by simp [lop, loud, callA, calleeA, callF_step h88, h88, o88]; rfl) ?_)
  simp only [AEx.thn, AEx.blk]
  refine runs_ret ?_
  simp
theorem a61 (P : Program) (T : Nat → Option CFn) (hT : T 61 = some c61) (h87 : T 87 = some { c87 with frsh := true, orc := o87 }) (l r u d rl rh : Int) : Answers P T 61 [.agg [I u, I d], .agg [I l, I r], .agg [I rl, I rh]] [] fun v h => v = .agg [I (hr u d l rl), I (hr u d r rh)] ∧ h = [] := by
  refine answers_of hT (orcF_none rfl) ?_
  simp only [c61]
  refine runs_seq (runs_reg (ops_run (by simp; rfl) ?_))
  simp only [AEx.thn, AEx.blk]
  refine runs_seq (runs_drw (by simp [lop, loud, callA, calleeA, callF_step h87, h87, o87]; rfl) ?_)
  simp only [AEx.thn, AEx.blk]
  refine runs_ret ?_
  simp
theorem inB_eq (n a b : Int) : (decide (a ≤ n) && decide (n ≤ b)) = inB n a b := rfl

theorem a64 (P : Program) (T : Nat → Option CFn) (hT : T 64 = some c64) (h60 : T 60 = some { c60 with frsh := true, orc := o60 }) (l r a b : Int) : Answers P T 64 [.agg [I l, I r], I a, I b] [] fun v h => v = .bool (spanB l r a b) ∧ h = [] := by
  refine answers_of hT (orcF_none rfl) ?_
  simp only [c64]
  refine runs_seq (runs_reg (ops_run (by simp; rfl) ?_))
  simp only [AEx.thn, AEx.blk]
  unfold spanB
  cases hb : inB l a r
  · refine runs_seq (runs_reg (ops_run (by simp [lop, loud, callA, calleeA, callF_step h60, h60, o60, inB_eq, hb]; rfl) ?_))
    simp only [AEx.thn, AEx.blk]
    refine runs_ret ?_
    simp [hb]
  · refine runs_seq (runs_reg (ops_run (by simp [lop, loud, callA, calleeA, callF_step h60, h60, o60, inB_eq, hb]; rfl) ?_))
    simp only [AEx.thn, AEx.blk]
    refine runs_ret ?_
    simp [hb]
noncomputable def TE1_63 : Nat → Option CFn := upd TD 63 true (o63)
theorem TE1_63_ok : TabOk Tryd.prog GG TE1_63 := tab_add mixed TD_ok fun args v ho => by
  unfold o63 at ho; split at ho <;> simp at ho
  rename_i l h u d rl rh n
  subst ho
  refine (a63 Tryd.prog TD rfl rfl l h u d rl rh n).mono ?_
  rintro v h ⟨rfl, rfl⟩
  simp [frz_agg, frz_int, frz_bool, optAll]
noncomputable def TE1_61 : Nat → Option CFn := upd TE1_63 61 true (o61)
theorem TE1_61_ok : TabOk Tryd.prog GG TE1_61 := tab_add mixed TE1_63_ok fun args v ho => by
  unfold o61 at ho; split at ho <;> simp at ho
  rename_i u d l h rl rh
  subst ho
  refine (a61 Tryd.prog TE1_63 rfl rfl l h u d rl rh).mono ?_
  rintro v h ⟨rfl, rfl⟩
  simp [frz_agg, frz_int, frz_bool, optAll]
noncomputable def TE1 : Nat → Option CFn := upd TE1_61 64 true (o64)
theorem TE1_ok : TabOk Tryd.prog GG TE1 := tab_add mixed TE1_61_ok fun args v ho => by
  unfold o64 at ho; split at ho <;> simp at ho
  rename_i l h a b
  subst ho
  refine (a64 Tryd.prog TE1_61 rfl rfl l h a b).mono ?_
  rintro v h ⟨rfl, rfl⟩
  simp [frz_agg, frz_int, frz_bool, optAll]
theorem a25 (P : Program) (T : Nat → Option CFn) (hT : T 25 = some c25) (h64 : T 64 = some { c64 with frsh := true, orc := o64 }) (l r : Int) : Answers P T 25 [.agg [I l, I r]] [] fun v h => v = .bool (spanB l r 0 300) ∧ h = [] := by
  refine answers_of hT (orcF_none rfl) ?_
  simp only [c25]
  refine runs_seq (runs_reg (ops_run (by simp; rfl) ?_))
  simp only [AEx.thn, AEx.blk]
  refine runs_seq (runs_reg (ops_run (by simp [lop, loud, callA, calleeA, callF_step h64, h64, o64]; rfl) ?_))
  simp only [AEx.thn, AEx.blk]
  refine runs_ret ?_
  simp
theorem a27 (P : Program) (T : Nat → Option CFn) (hT : T 27 = some c27) (h60 : T 60 = some { c60 with frsh := true, orc := o60 }) (u d : Int) : Answers P T 27 [.agg [I u, I d]] [] fun v h => v = .bool (rB u d) ∧ h = [] := by
  refine answers_of hT (orcF_none rfl) ?_
  simp only [c27]
  refine runs_seq (runs_reg (ops_run (by simp; rfl) ?_))
  simp only [AEx.thn, AEx.blk]
  unfold rB
  cases hb : inB u 0 50
  · refine runs_seq (runs_reg (ops_run (by simp [lop, loud, callA, calleeA, callF_step h60, h60, o60, inB_eq, hb]; rfl) ?_))
    simp only [AEx.thn, AEx.blk]
    refine runs_ret ?_
    simp [hb]
  · refine runs_seq (runs_reg (ops_run (by simp [lop, loud, callA, calleeA, callF_step h60, h60, o60, inB_eq, hb]; rfl) ?_))
    simp only [AEx.thn, AEx.blk]
    refine runs_ret ?_
    simp [hb]
noncomputable def TE2_25 : Nat → Option CFn := upd TE1 25 true (o25)
theorem TE2_25_ok : TabOk Tryd.prog GG TE2_25 := tab_add mixed TE1_ok fun args v ho => by
  unfold o25 at ho; split at ho <;> simp at ho
  rename_i l h
  subst ho
  refine (a25 Tryd.prog TE1 rfl rfl l h).mono ?_
  rintro v h ⟨rfl, rfl⟩
  simp [frz_agg, frz_int, frz_bool, optAll]
noncomputable def TE2 : Nat → Option CFn := upd TE2_25 27 true (o27)
theorem TE2_ok : TabOk Tryd.prog GG TE2 := tab_add mixed TE2_25_ok fun args v ho => by
  unfold o27 at ho; split at ho <;> simp at ho
  rename_i u d
  subst ho
  refine (a27 Tryd.prog TE2_25 rfl rfl u d).mono ?_
  rintro v h ⟨rfl, rfl⟩
  simp [frz_agg, frz_int, frz_bool, optAll]
def badB (l h n : Int) : Bool := !spanB l h 0 300 || !inB n 0 500
def rcheckI (u d l h : Int) (ss : List Stay) : Int :=
  if !rB u d then 2 else if !spanB l h 0 300 then 3 else if 10 < ss.length then 5 else if ss.any fun s => badB s.1 s.2.1 s.2.2 then 4 else 0
def o17 : List AVal → Option AVal
  | [.agg [.int .i64 u, .int .i64 d], .agg [.int .i64 l, .int .i64 h], x] => match rowsV x with
    | some rs => match optAll dI3 rs with
      | some ss => if ss.length ≤ 1000 then some (.int .i64 (rcheckI u d l h ss)) else none
      | none => none
    | none => none
  | _ => none
theorem a17 (P : Program) (T : Nat → Option CFn) (hT : T 17 = some c17) (h27 : T 27 = some { c27 with frsh := true, orc := o27 }) (h25 : T 25 = some { c25 with frsh := true, orc := o25 }) (h60 : T 60 = some { c60 with frsh := true, orc := o60 })
    (u d l r : Int) (x : AVal) (ss : List Stay) (hx : rowsV x = some (ss.map rStay)) (hl : ss.length ≤ 1000) : Answers P T 17 [.agg [I u, I d], .agg [I l, I r], x] [] fun v h => v = I (rcheckI u d l r ss) ∧ h = [] := by
  have lx := rowsV_len hx
  rw [List.length_map] at lx
  unfold rcheckI
  refine answers_of hT (orcF_none rfl) ?_
  simp only [c17]
  refine runs_seq (runs_reg (ops_run (by simp; rfl) ?_))
  simp only [AEx.thn, AEx.blk]
  refine runs_seq (runs_seq (runs_reg (ops_run (by simp [lop, loud, callA, calleeA, callF_step h27, h27, o27]; rfl) ?_)))
  simp only [AEx.thn, AEx.blk]
  refine runs_cond_split (x := !rB u d) (by simp) (fun h1 => ?_) (fun h1 => ?_)
  · refine runs_seq (runs_reg (ops_run (by simp; rfl) ?_))
    simp only [AEx.thn, AEx.blk]
    refine runs_ret ?_
    simp [h1]
  refine runs_skip ?_
  simp only [AEx.thn, AEx.blk]
  refine runs_seq (runs_seq (runs_reg (ops_run (by simp [lop, loud, callA, calleeA, callF_step h25, h25, o25]; rfl) ?_)))
  simp only [AEx.thn, AEx.blk]
  refine runs_cond_split (x := !spanB l r 0 300) (by simp) (fun h2 => ?_) (fun h2 => ?_)
  · refine runs_seq (runs_reg (ops_run (by simp; rfl) ?_))
    simp only [AEx.thn, AEx.blk]
    refine runs_ret ?_
    simp [h1, h2]
  refine runs_skip ?_
  simp only [AEx.thn, AEx.blk]
  refine runs_seq (runs_seq (runs_reg (ops_run (by simp [lx, -lenA]; rfl) ?_)))
  simp only [AEx.thn, AEx.blk]
  refine runs_cond_split (x := decide ((10:Int) < (ss.length:Int))) (by simp) (fun h3 => ?_) (fun h3 => ?_)
  · refine runs_seq (runs_reg (ops_run (by simp; rfl) ?_))
    simp only [AEx.thn, AEx.blk]
    have h3 : 10 < ss.length := by have := of_decide_eq_true h3; omega
    refine runs_ret ?_
    simp [h1, h2, h3]
  have h3 : ¬ 10 < ss.length := by have := of_decide_eq_false h3; omega
  refine runs_skip ?_
  simp only [AEx.thn, AEx.blk]
  refine runs_seq (runs_seq (runs_reg (ops_run (by simp; rfl) ?_)))
  simp only [AEx.thn, AEx.blk]
  refine runs_block ?_
  refine runs_loop_inv (fun m σ => ∃ (k : Nat) (i : Int), i = k ∧ m = ss.length - k ∧ k ≤ ss.length ∧ (ss.any fun s => badB s.1 s.2.1 s.2.2) = ((ss.drop k).any fun s => badB s.1 s.2.1 s.2.2) ∧
    σ = ⟨[.any, .any, x, .any, .any, .any, .any, I i, .any, .any, .any, .any, .any, .any, .any, .any, .any, .any, .any, .any, .any, .any, .any, .any, .any, .any, .any, .any, .any, .any, .any, .any, .any, .any, .any, .any, .any, .any, .any], [some (.row 2 [[I u, I d]]), some (.row 2 [[I l, I r]])]⟩) ?_ (ss.length - 0) _ ⟨0, 0, rfl, rfl, Nat.zero_le _, rfl, by simp⟩
  rintro m σ ⟨k, i, hik, rfl, hk, hi, rfl⟩
  have h0 : 0 ≤ i := by omega
  have htn : i.toNat = k := by omega
  refine runs_seq (runs_seq (runs_reg (ops_run (by simp [lx, -lenA]; rfl) ?_)))
  simp only [AEx.thn, AEx.blk]
  refine runs_cond_split (x := decide (i < (ss.length : Int))) (by simp) (fun hlt => ?_) (fun hge => ?_)
  · refine runs_skip ?_
    simp only [AEx.thn, AEx.blk]
    have hlt' : k < ss.length := by have := of_decide_eq_true hlt; omega
    obtain ⟨tt, rfl⟩ := rowsV_get hx (k := k) (by simpa using hlt')
    rw [List.drop_eq_getElem_cons hlt', List.any_cons] at hi
    refine runs_seq (runs_block ?_)
    generalize hs : ss[k] = s at hi
    obtain ⟨sl, sh, sn⟩ := s
    cases hb : spanB sl sh 0 300
    · refine runs_seq (runs_reg (ops_run (by simp [lop, loud, callA, calleeA, callF_step h25, h25, callF_step h60, h60, o25, o60, inB_eq, h0, htn, hlt', hs, rStay, hb]; rfl) ?_))
      simp only [AEx.thn, AEx.blk]
      refine runs_cond (x := true) (by simp) ?_
      refine runs_seq (runs_reg (ops_run (by simp; rfl) ?_))
      simp only [AEx.thn, AEx.blk]
      refine runs_ret ?_
      have : badB sl sh sn = true := by simp [badB, hb]
      simp [h1, h2, h3, hi, this]
    · refine runs_seq (runs_reg (ops_run (by simp [lop, loud, callA, calleeA, callF_step h25, h25, callF_step h60, h60, o25, o60, inB_eq, h0, htn, hlt', hs, rStay, hb]; rfl) ?_))
      simp only [AEx.thn, AEx.blk]
      refine runs_cond_split (x := !inB sn 0 500) (by simp) (fun h4 => ?_) (fun h4 => ?_)
      · refine runs_seq (runs_reg (ops_run (by simp; rfl) ?_))
        simp only [AEx.thn, AEx.blk]
        refine runs_ret ?_
        have : badB sl sh sn = true := by simp [badB, hb, h4]
        simp [h1, h2, h3, hi, this]
      · refine runs_skip ?_
        simp only [AEx.thn, AEx.blk]
        refine runs_reg (ops_run (by simp; rfl) ?_)
        simp only [AEx.thn, AEx.blk]
        have : badB sl sh sn = false := by simp only [badB, hb, h4]; rfl
        refine ⟨ss.length - (k + 1), by omega, k + 1, i + 1, by omega, rfl, by omega, by simpa [this] using hi, ?_⟩
        simp [W_small (show -1000000 ≤ i + 1 ∧ i + 1 ≤ 1000000 by omega)]
  · refine runs_exit ?_
    simp only [AEx.thn, AEx.blk, if_true]
    have hke : k = ss.length := by
      have := of_decide_eq_false hge
      omega
    subst hke
    rw [List.drop_length] at hi
    refine runs_seq (runs_reg (ops_run (by simp; rfl) ?_))
    simp only [AEx.thn, AEx.blk]
    refine runs_ret ?_
    simp [h1, h2, h3, hi]
noncomputable def TE : Nat → Option CFn := upd TE2 17 true (o17)
theorem TE_ok : TabOk Tryd.prog GG TE := tab_add mixed TE2_ok fun args v ho => by
  unfold o17 at ho; split at ho <;> (try simp at ho)
  rename_i u d l r x
  split at ho <;> (try simp at ho)
  rename_i rs hx
  split at ho <;> (try simp at ho)
  rename_i xs hxs
  obtain ⟨hl, rfl⟩ := ho
  have e := optAll_eq dI3_eq hxs
  subst e
  refine (a17 Tryd.prog TE2 rfl rfl rfl rfl u d l r x xs hx hl).mono ?_
  rintro v h ⟨rfl, rfl⟩
  rfl
end
end Go.Proofs.YtpebmjeomlgmdaaDoor.Tab

namespace Go.Proofs.YtpebmjeomlgmdaaDoor.Tab
open Go Go.Abs Go.Proofs
set_option maxRecDepth 100000
section
attribute [local simp] frz_int frz_bool frz_vl frz_pv frz_agg frz_tup frz_fn frz_ref frz_sl frz_nils optAll orcF rb_int rb_bool rb_agg rb_tup rb_int' rb_bool' rb_vl rb_pv rb_yld rb_nilf rb_nilp rb_nils rb_any rb_und rb_ref rb_sl rb_fn slE chunk fillA evParts evParts3 putAt List.range_succ List.range_zero List.range'_succ List.range'_zero runX_nil' unary_not evalS_pure evAll_nil evAll_cons runX_cons stepX wantedA dop CV.ev cellsOf putK_eq setK_eq appK_eq fA_eq fI_eq fN_eq fRow_eq fRows_eq nth_eq Out.v putT List.replicate_succ AEx.thn AEx.blk arI pointee Abs.rowAt ldRow allV toV toC ofV ofC Builtin.min_ Builtin.min2 Builtin.max_ Builtin.max2 min_if max_if resA tupA kill trim_self trim_len trim_emp trim_nil lenA
attribute [local simp] runD_nil' runD_cons' stepD actK_eq actD clash disj masks holes maskH unmaskH diffs news eqB allB eqA ldRowN wrote toCs ofCs stA storable rowsV_vl rowsV_nils rowsOf dI1 dI2 dI3 dI5 elt
/-- The reference's state: what is known now, the peak, its hour, the hour. -/
structure RS where
  lo : Int
  hi : Int
  peak : Int
  first : Int
  hour : Int
def step1 (u d frm room : Int) : Int := if frm < room then min room (frm + u) else max room (frm - d)
def rHour (u d rl rh : Int) (s : RS) : RS :=
  if s.peak < step1 u d s.hi rh then ⟨step1 u d s.lo rl, step1 u d s.hi rh, step1 u d s.hi rh, s.hour + 1, s.hour + 1⟩ else ⟨step1 u d s.lo rl, step1 u d s.hi rh, s.peak, s.first, s.hour + 1⟩
def rHours (u d rl rh : Int) : Nat → RS → RS
  | 0, s => s
  | n + 1, s => rHours u d rl rh n (rHour u d rl rh s)
def rRun (u d : Int) : List Stay → RS → List (Int × Int) × RS
  | [], s => ([], s)
  | t :: ts, s =>
    let s' := rHours u d t.1 t.2.1 t.2.2.toNat s
    let r := rRun u d ts s'
    ((s'.lo, s'.hi) :: r.1, r.2)
def In300 (n : Int) : Prop := 0 ≤ n ∧ n ≤ 300
def Rate (u : Int) : Prop := 0 ≤ u ∧ u ≤ 50
theorem step1_in {u d frm room : Int} (hu : Rate u) (hd : Rate d) (hf : In300 frm) (hr : In300 room) : In300 (step1 u d frm room) := by
  unfold In300 Rate at *; unfold step1; split <;> omega
theorem hr_step1 {u d frm room : Int} (hu : Rate u) (hd : Rate d) (hf : In300 frm) : hr u d frm room = step1 u d frm room := by
  unfold In300 Rate at *; unfold hr step1
  rw [W_small (by omega), W_small (by omega)]
theorem rHour_in {u d rl rh : Int} {s : RS} (hu : Rate u) (hd : Rate d) (h1 : In300 s.lo) (h2 : In300 s.hi) (h3 : In300 rl) (h4 : In300 rh) : In300 (rHour u d rl rh s).lo ∧ In300 (rHour u d rl rh s).hi ∧ (rHour u d rl rh s).hour = s.hour + 1 := by
  unfold rHour
  split <;> exact ⟨step1_in hu hd h1 h3, step1_in hu hd h2 h4, rfl⟩
/-- Where the rows of a growing slice lie. -/
def OutAt (h : Heap) (v : AVal) (b : Nat) (rows : List (List AVal)) : Prop :=
  (v = .sl b 0 0 true ∧ rows = [] ∧ h[b]? = some (some (.row 2 []))) ∨ ∃ j, 11 < j ∧ (rows ≠ [] ∧ v = .sl j 0 rows.length false) ∧ h[j]? = some (some (.row 2 rows))

theorem a19 (T : Nat → Option CFn) (hT : T 19 = some c19) (h61 : T 61 = some { c61 with frsh := true, orc := o61 }) (u d l r : Int) (x : AVal) (ss : List Stay) (hx : rowsV x = some (ss.map rStay)) (hl : ss.length ≤ 10)
    (hu : Rate u) (hd : Rate d) (hl0 : In300 l) (hr0 : In300 r) (hss : ∀ t ∈ ss, In300 t.1 ∧ In300 t.2.1 ∧ 0 ≤ t.2.2 ∧ t.2.2 ≤ 500) (P : Program) :
    Answers P T 19 [.agg [I u, I d], .agg [I l, I r], x] [] fun v h => frz true h 5 v = some (.tup [.vl ((rRun u d ss ⟨l, r, r, 0, 0⟩).1.map fun p => [I p.1, I p.2]) (rRun u d ss ⟨l, r, r, 0, 0⟩).1.isEmpty, I (rRun u d ss ⟨l, r, r, 0, 0⟩).2.peak, I (rRun u d ss ⟨l, r, r, 0, 0⟩).2.first]) := by
  have lx := rowsV_len hx
  rw [List.length_map] at lx
  refine answers_of hT (orcF_none rfl) ?_
  simp only [c19]
  refine runs_seq (runs_reg (ops_run (by simp; rfl) ?_))
  simp only [AEx.thn, AEx.blk]
  refine runs_seq (runs_drw (by simp [lop, loud, callA, calleeA]; rfl) ?_)
  simp only [AEx.thn, AEx.blk]
  refine runs_seq (runs_seq (runs_reg (ops_run (by simp; rfl) ?_)))
  simp only [AEx.thn, AEx.blk]
  refine runs_block ?_
  refine runs_loop_inv (fun m σ => ∃ (k : Nat) (i : Int) (s : RS) (rows : List (Int × Int)) (vo : AVal) (H : Heap), i = k ∧ m = ss.length - k ∧ k ≤ ss.length ∧ rows ++ (rRun u d (ss.drop k) s).1 = (rRun u d ss ⟨l, r, r, 0, 0⟩).1 ∧ (rRun u d (ss.drop k) s).2 = (rRun u d ss ⟨l, r, r, 0, 0⟩).2 ∧
    In300 s.lo ∧ In300 s.hi ∧ 0 ≤ s.hour ∧ s.hour ≤ 500 * k ∧ FlatH H ∧ 12 ≤ H.length ∧ H[0]? = some (some (.row 2 [[I u, I d]])) ∧ H[6]? = some (some (.row 2 [[I s.lo, I s.hi]])) ∧ OutAt H vo 2 (rows.map fun p => [I p.1, I p.2]) ∧ rows.length = k ∧
    σ = ⟨[.any, .any, x, .ref 0 0 0, .any, .any, .any, .any, .any, vo, .ref 6 0 0, I s.peak, I s.first, I s.hour, I i, .any, .any, .any, .any, .any, .any, .any, .any, .any, .any, .any, .any, .any, .any, .any, .any, .any, .any, .any, .any, .any, .any, .any, .any, .any, .any, .any, .any, .any, .any, .any, .any, .any, .any, .any, .any, .any, .any, .any, .any, .any, .any, .any, .any], H⟩) ?_ (ss.length - 0) _ ⟨0, 0, ⟨l, r, r, 0, 0⟩, [], .sl 2 0 0 true, _, rfl, rfl, Nat.zero_le _, rfl, rfl, hl0, hr0, by simp, by simp, ?hflat, ?hln, rfl, rfl, .inl ⟨rfl, rfl, rfl⟩, rfl, by simp; rfl⟩
  case hflat => intro b hb; simp at hb; rcases hb with rfl | rfl | rfl | rfl | rfl | rfl <;> first | trivial | (intro r hr x hx; simp at hr; subst hr; simp at hx; rcases hx with rfl | rfl <;> rfl) | (intro r hr; simp at hr)
  case hln => simp
  rintro m σ ⟨k, i, s, rows, vo, H, hik, rfl, hk, hrun1, hrun2, hslo, hshi, hh0, hhk, hf, hlen, h0, h6, hout, hrl, rfl⟩
  have hi0 : 0 ≤ i := by omega
  have htn : i.toNat = k := by omega
  refine runs_seq (runs_seq (runs_reg (ops_run (by simp [lx, -lenA]; rfl) ?_)))
  simp only [AEx.thn, AEx.blk]
  refine runs_cond_split (x := decide (i < (ss.length : Int))) (by simp) (fun hlt => ?_) (fun hge => ?_)
  · refine runs_skip ?_
    simp only [AEx.thn, AEx.blk]
    have hlt' : k < ss.length := by have := of_decide_eq_true hlt; omega
    obtain ⟨tt, rfl⟩ := rowsV_get hx (k := k) (by simpa using hlt')
    rw [List.drop_eq_getElem_cons hlt'] at hrun1 hrun2
    have hsk := hss _ (List.getElem_mem hlt')
    generalize hs : ss[k] = t at hrun1 hrun2 hsk
    obtain ⟨tl, th, tn⟩ := t
    simp only [rRun] at hrun1 hrun2
    obtain ⟨ht1, ht2, ht3, ht4⟩ := hsk
    simp only at ht1 ht2 ht3 ht4
    refine runs_seq (runs_block ?_)
    refine runs_seq (runs_seq (runs_reg (ops_run (by simp; rfl) ?_)))
    simp only [AEx.thn, AEx.blk]
    refine runs_block ?_
    generalize hs0 : s = s0 at *
    clear hs0
    refine runs_loop_inv (fun m σ => ∃ (j : Nat) (q : Int) (s : RS) (H' : Heap), q = j ∧ m = tn.toNat - j ∧ j ≤ tn.toNat ∧ rHours u d tl th (tn.toNat - j) s = rHours u d tl th tn.toNat s0 ∧
      In300 s.lo ∧ In300 s.hi ∧ 0 ≤ s.hour ∧ s.hour = s0.hour + j ∧ FlatH H' ∧ H'.length = H.length ∧ H'[0]? = some (some (.row 2 [[I u, I d]])) ∧ H'[6]? = some (some (.row 2 [[I s.lo, I s.hi]])) ∧ OutAt H' vo 2 (rows.map fun p => [I p.1, I p.2]) ∧
      σ = ⟨[.any, .any, (.vl (ss.map rStay) tt), .ref 0 0 0, .any, .any, .any, .any, .any, vo, .ref 6 0 0, I s.peak, I s.first, I s.hour, I i, I q, .any, .any, .any, .any, .any, .any, .any, .any, .any, .any, .any, .any, .any, .any, .any, .any, .any, .any, .any, .any, .any, .any, .any, .any, .any, .any, .any, .any, .any, .any, .any, .any, .any, .any, .any, .any, .any, .any, .any, .any, .any, .any, .any], H'⟩) ?_ (tn.toNat - 0) _ ⟨0, 0, s0, H, rfl, rfl, Nat.zero_le _, rfl, hslo, hshi, hh0, by simp, hf, rfl, h0, h6, hout, by simp⟩
    clear h0 h6 hout hf hh0 hslo hshi
    rintro m σ ⟨j, q, s, H', hqj, rfl, hj, hrh, hslo, hshi, hh0, hhj, hf, hlen', h0, h6, hout, rfl⟩
    have l0 : 0 < H'.length := by omega
    have l6 : 6 < H'.length := by omega
    have g0 := get_of h0 l0
    have g6 := get_of h6 l6
    refine runs_seq (runs_seq (runs_reg (ops_run (by simp [hi0, htn, hlt', hs, rStay]; rfl) ?_)))
    simp only [AEx.thn, AEx.blk]
    refine runs_cond_split (x := decide (q < tn)) (by simp) (fun hlt2 => ?_) (fun hge2 => ?_)
    · refine runs_skip ?_
      simp only [AEx.thn, AEx.blk]
      refine runs_seq (runs_block ?_)
      refine runs_seq (runs_drw (by simp [hi0, htn, hlt', hs, rStay, lop, loud, callA, calleeA, callF_step h61, h61, o61, g0, g6, l0, l6, List.getElem?_append_left, List.set_append_left, set_app, get_appK]; rfl) ?_)
      simp only [AEx.thn, AEx.blk]
      have e1 := hr_step1 (room := tl) hu hd hslo
      have e2 := hr_step1 (room := th) hu hd hshi
      have hin := rHour_in (rl := tl) (rh := th) hu hd hslo hshi ht1 ht2
      rw [e1, e2]
      have hjt : j < tn.toNat := by have := of_decide_eq_true hlt2; omega
      have hnext : rHours u d tl th (tn.toNat - (j + 1)) (rHour u d tl th s) = rHours u d tl th tn.toNat s0 := by
        rw [← hrh, show tn.toNat - j = (tn.toNat - (j + 1)) + 1 by omega]; rfl
      have hw : W .i64 (s.hour + 1) = s.hour + 1 := W_small (by omega)
      have hwq : W .i64 (q + 1) = q + 1 := W_small (by omega)
      have ho2 : OutAt (H'.set 6 (some (.row 2 [[I (step1 u d s.lo tl), I (step1 u d s.hi th)]]))) vo 2 (rows.map fun p => [I p.1, I p.2]) := by
        rcases hout with ⟨h1, h2, h3⟩ | ⟨j, h1, h2, h3⟩
        · exact .inl ⟨h1, h2, by rw [List.getElem?_set_ne (by omega)]; exact h3⟩
        · exact .inr ⟨j, h1, h2, by rw [List.getElem?_set_ne (by omega)]; exact h3⟩
      have hf2 : FlatH (H'.set 6 (some (.row 2 [[I (step1 u d s.lo tl), I (step1 u d s.hi th)]]))) := hf.set (by intro r hr x hx; simp at hr; subst hr; simp at hx; rcases hx with rfl | rfl <;> rfl)
      have h02 : (H'.set 6 (some (.row 2 [[I (step1 u d s.lo tl), I (step1 u d s.hi th)]])))[0]? = some (some (.row 2 [[I u, I d]])) := by rw [List.getElem?_set_ne (by omega)]; exact h0
      have h62 : (H'.set 6 (some (.row 2 [[I (step1 u d s.lo tl), I (step1 u d s.hi th)]])))[6]? = some (some (.row 2 [[I (step1 u d s.lo tl), I (step1 u d s.hi th)]])) := List.getElem?_set_self l6
      have hln2 : (H'.set 6 (some (.row 2 [[I (step1 u d s.lo tl), I (step1 u d s.hi th)]]))).length = H'.length := by simp
      generalize H'.set 6 (some (.row 2 [[I (step1 u d s.lo tl), I (step1 u d s.hi th)]])) = H2 at *
      have l62 : 6 < H2.length := by omega
      have g62 := get_of h62 l62
      refine runs_seq (runs_reg (ops_run (by simp [hw]; rfl) ?_))
      simp only [AEx.thn, AEx.blk]
      refine runs_seq (runs_reg (ops_run (by simp [g62, l62, List.getElem?_append_left]; rfl) ?_))
      simp only [AEx.thn, AEx.blk]
      have hlo : (rHour u d tl th s).lo = step1 u d s.lo tl := by unfold rHour; split <;> rfl
      have hhi : (rHour u d tl th s).hi = step1 u d s.hi th := by unfold rHour; split <;> rfl
      refine runs_cond_split (x := decide (s.peak < step1 u d s.hi th)) (by simp) (fun hpk => ?_) (fun hpk => ?_)
      · have hp : (rHour u d tl th s).peak = step1 u d s.hi th ∧ (rHour u d tl th s).first = s.hour + 1 := by
          have := of_decide_eq_true hpk; unfold rHour; rw [if_pos this]; exact ⟨rfl, rfl⟩
        refine runs_reg (ops_run (by simp [g62, l62, List.getElem?_append_left]; rfl) ?_)
        simp only [AEx.thn, AEx.blk]
        refine runs_reg (ops_run (by simp [hwq]; rfl) ?_)
        simp only [AEx.thn, AEx.blk]
        refine ⟨tn.toNat - (j + 1), by omega, j + 1, q + 1, rHour u d tl th s, H2, by omega, rfl, by omega, hnext, hin.1, hin.2.1, by rw [hin.2.2]; omega, by rw [hin.2.2]; omega, hf2, by omega, h02, by rw [hlo, hhi]; exact h62, ho2, ?_⟩
        rw [hp.1, hp.2, hin.2.2]
        have hrbo : rb H'.length 5 vo = true := by
          rcases hout with ⟨h1, h2, h3⟩ | ⟨j, h1, h2, h3⟩
          · rw [h1, rb_sl]; simp; omega
          · rw [h2.2, rb_sl]; simp; exact (List.getElem?_eq_some_iff.1 h3).1
        simp [trim_flat hln2 hf2, hrbo, l6, l0]
      · have hp : (rHour u d tl th s).peak = s.peak ∧ (rHour u d tl th s).first = s.first := by
          have := of_decide_eq_false hpk; unfold rHour; rw [if_neg this]; exact ⟨rfl, rfl⟩
        refine runs_skip ?_
        simp only [AEx.thn, AEx.blk]
        refine runs_reg (ops_run (by simp [hwq]; rfl) ?_)
        simp only [AEx.thn, AEx.blk]
        refine ⟨tn.toNat - (j + 1), by omega, j + 1, q + 1, rHour u d tl th s, H2, by omega, rfl, by omega, hnext, hin.1, hin.2.1, by rw [hin.2.2]; omega, by rw [hin.2.2]; omega, hf2, by omega, h02, by rw [hlo, hhi]; exact h62, ho2, ?_⟩
        rw [hp.1, hp.2, hin.2.2]
        have hrbo : rb H'.length 5 vo = true := by
          rcases hout with ⟨h1, h2, h3⟩ | ⟨j, h1, h2, h3⟩
          · rw [h1, rb_sl]; simp; omega
          · rw [h2.2, rb_sl]; simp; exact (List.getElem?_eq_some_iff.1 h3).1
        simp [trim_flat hln2 hf2, hrbo, l6, l0]
    · refine runs_exit ?_
      simp only [AEx.thn, AEx.blk, if_true]
      have hjt : j = tn.toNat := by have := of_decide_eq_false hge2; omega
      subst hjt
      rw [Nat.sub_self] at hrh
      simp only [rHours] at hrh
      rw [← hrh] at hrun1 hrun2
      have hwi : W .i64 (i + 1) = i + 1 := W_small (by omega)
      have hlim1 : rows.length + 1 ≤ 1048576 := by omega
      have hlim2 : rows.length ≤ 1048575 := by omega
      have hge3 : ¬ (H'.length + 1 < H.length) := by omega
      have hge4 : H.length ≤ H'.length + 1 := by omega
      have hflr : FlatB (some (.row 2 ((rows.map fun p => [I p.1, I p.2]) ++ [[I s.lo, I s.hi]]))) := by
        intro r hr x hx
        simp at hr
        rcases hr with ⟨a, b, _, rfl⟩ | rfl <;> (simp at hx; rcases hx with rfl | rfl <;> rfl)
      have hfl1 : FlatB (some (.row 2 [[I s.lo, I s.hi]])) := by
        intro r hr x hx
        simp at hr; subst hr
        simp at hx; rcases hx with rfl | rfl <;> rfl
      rcases hout with ⟨rfl, hr0', h2⟩ | ⟨j, hj, ⟨hne, rfl⟩, h2⟩
      · have hrows : rows = [] := by simpa using hr0'
        subst hrows
        have l2 : 2 < H'.length := by omega
        have g2 := get_of h2 l2
        refine runs_reg (ops_run (by simp [g6, l6, g2, l2, lop, loud, lim, List.getElem?_append_left]; rfl) ?_)
        simp only [AEx.thn, AEx.blk]
        refine runs_reg (ops_run (by simp [hwi]; rfl) ?_)
        simp only [AEx.thn, AEx.blk]
        refine ⟨ss.length - (k + 1), by omega, k + 1, i + 1, s, [(s.lo, s.hi)], .sl (H'.length + 1) 0 1 false, H' ++ [some (.row 2 [[I s.lo, I s.hi]]), some (.row 2 [[I s.lo, I s.hi]])], by omega, rfl, by omega, hrun1, hrun2, hslo, hshi, hh0, by omega, ?_, by simp; omega, ?_, ?_, .inr ⟨H'.length + 1, by omega, ⟨by simp, rfl⟩, ?_⟩, by simp at hrl ⊢; omega, ?_⟩
        · exact hf.app fun b hb => by simp at hb; subst hb; exact hfl1
        · rw [List.getElem?_append_left l0]; exact h0
        · rw [List.getElem?_append_left l6]; exact h6
        · rw [get_app]; rfl
        · simp [trim, hge3]
      · have lj : j < H'.length := (List.getElem?_eq_some_iff.1 h2).1
        have gj := get_of h2 lj
        refine runs_reg (ops_run (by simp [g6, l6, gj, lj, lop, loud, lim, hlim1, hlim2, List.getElem?_append_left, List.take_of_length_le]; rfl) ?_)
        simp only [AEx.thn, AEx.blk]
        refine runs_reg (ops_run (by simp [hwi]; rfl) ?_)
        simp only [AEx.thn, AEx.blk]
        refine ⟨ss.length - (k + 1), by omega, k + 1, i + 1, s, rows ++ [(s.lo, s.hi)], .sl (H'.length + 1) 0 (rows.length + 1) false, (H' ++ [some (Blk.row 2 [[I s.lo, I s.hi]])]).set j none ++ [some (Blk.row 2 ((rows.map fun p => [I p.1, I p.2]) ++ [[I s.lo, I s.hi]]))], by omega, rfl, by omega, by simpa using hrun1, hrun2, hslo, hshi, hh0, by omega, ?_, by simp; omega, ?_, ?_, .inr ⟨H'.length + 1, by omega, ⟨by simp, by simp⟩, ?_⟩, by simp; omega, ?_⟩
        · refine FlatH.app (FlatH.set (hf.app fun b hb => by simp at hb; subst hb; exact hfl1) trivial) fun b hb => by simp at hb; subst hb; simpa using hflr
        · rw [List.getElem?_append_left (by simp), List.getElem?_set_ne (by omega), List.getElem?_append_left l0]; exact h0
        · rw [List.getElem?_append_left (by simp; omega), List.getElem?_set_ne (by omega), List.getElem?_append_left l6]; exact h6
        · rw [show H'.length + 1 = ((H' ++ [some (Blk.row 2 [[I s.lo, I s.hi]])]).set j none).length by simp, get_app0]; simp
        · simp [trim, hge3, set_app, lj, List.set_append_left]
  · refine runs_exit ?_
    simp only [AEx.thn, AEx.blk, if_true]
    have hke : k = ss.length := by
      have := of_decide_eq_false hge
      omega
    subst hke
    rw [List.drop_length] at hrun1 hrun2
    simp only [rRun, List.append_nil] at hrun1 hrun2
    refine runs_seq (runs_reg (ops_run (by simp; rfl) ?_))
    simp only [AEx.thn, AEx.blk]
    refine runs_ret ?_
    rw [← hrun1, ← hrun2]
    rcases hout with ⟨rfl, hr0', h2⟩ | ⟨j, hj, ⟨hne, rfl⟩, h2⟩
    · have hrows : rows = [] := by simpa using hr0'
      subst hrows
      have l2 : 2 < H.length := by omega
      have g2 := get_of h2 l2
      simp [trim, g2, l2]
    · refine ⟨by simp, _, by simp; rfl, ?_⟩
      have e : frz true H 4 (.sl j 0 rows.length false) = some (.vl (rows.map fun p => [I p.1, I p.2]) false) := frz_row true H 3 j _ 2 false _ h2 (by simp) (frz_rows true H 2 _ fun r hr x hx => by simp at hr; obtain ⟨a, b, _, rfl⟩ := hr; simp at hx; rcases hx with rfl | rfl <;> rfl)
      have hie : rows.isEmpty = false := by cases rows <;> simp at hne ⊢
      simp [trim, -frz_sl, e, hie]

end
end Go.Proofs.YtpebmjeomlgmdaaDoor.Tab

namespace Go.Proofs.YtpebmjeomlgmdaaDoor.Tab
open Go Go.Abs Go.Proofs
set_option maxRecDepth 100000
section
attribute [local simp] frz_int frz_bool frz_vl frz_pv frz_agg frz_tup frz_fn frz_ref frz_sl frz_nils optAll orcF rb_int rb_bool rb_agg rb_tup rb_int' rb_bool' rb_vl rb_pv rb_yld rb_nilf rb_nilp rb_nils rb_any rb_und rb_ref rb_sl rb_fn slE chunk fillA evParts evParts3 putAt List.range_succ List.range_zero List.range'_succ List.range'_zero runX_nil' unary_not evalS_pure evAll_nil evAll_cons runX_cons stepX wantedA dop CV.ev cellsOf putK_eq setK_eq appK_eq fA_eq fI_eq fN_eq fRow_eq fRows_eq nth_eq Out.v putT List.replicate_succ AEx.thn AEx.blk arI pointee Abs.rowAt ldRow allV toV toC ofV ofC Builtin.min_ Builtin.min2 Builtin.max_ Builtin.max2 min_if max_if resA tupA kill trim_self trim_len trim_emp trim_nil lenA
attribute [local simp] runD_nil' runD_cons' stepD actK_eq actD clash disj masks holes maskH unmaskH diffs news eqB allB eqA ldRowN wrote toCs ofCs stA storable rowsV_vl rowsV_nils rowsOf dI1 dI2 dI3 dI5 elt
def outV (rows : List (Int × Int)) : AVal := if rows.isEmpty then .nils else .vl (rows.map fun p => [I p.1, I p.2]) false
/-- The program's moistures after each stay. -/
def pRun (u d : Int) : List Stay → Int × Int → List (Int × Int)
  | [], _ => []
  | t :: ts, s => (tw u d s.1 t.1 t.2.2, tw u d s.2 t.2.1 t.2.2) :: pRun u d ts (tw u d s.1 t.1 t.2.2, tw u d s.2 t.2.1 t.2.2)
theorem a59 (P : Program) (T : Nat → Option CFn) (hT : T 59 = some c59) (l r u d : Int) (x : AVal) (rs : List (List AVal)) (hx : rowsV x = some rs) (h : Heap) :
    Answers P T 59 [.agg [I l, I r], .agg [I u, I d], x] h fun v h' => v = .fn 86 [] [.ref (h.length + 2) 0 0, .ref h.length 0 0, .ref (h.length + 1) 0 0] ∧ h' = h ++ [some (.row 2 [[I l, I r]]), some (.row 2 [[I u, I d]]), some (.row 1 [[x]])] := by
  rcases rowsV_cases hx with ⟨rfl, _⟩ | ⟨t, rfl⟩
  · refine answers_of hT (orcF_none rfl) ?_
    simp only [c59]
    refine runs_seq (runs_reg (ops_run (by simp; rfl) ?_))
    simp only [AEx.thn, AEx.blk]
    refine runs_seq (runs_reg (ops_run (by simp; rfl) ?_))
    simp only [AEx.thn, AEx.blk]
    refine runs_ret ?_
    simp [trim_keep]
  · refine answers_of hT (orcF_none rfl) ?_
    simp only [c59]
    refine runs_seq (runs_reg (ops_run (by simp; rfl) ?_))
    simp only [AEx.thn, AEx.blk]
    refine runs_seq (runs_reg (ops_run (by simp; rfl) ?_))
    simp only [AEx.thn, AEx.blk]
    refine runs_ret ?_
    simp [trim_keep]

/-- Where the rows of a growing slice lie, behind seven blocks. -/
def OutG (g : Heap) (v : AVal) (rows : List (List AVal)) : Prop := (v = .nils ∧ rows = []) ∨ ∃ q, (rows ≠ [] ∧ v = .sl (q + 7) 0 rows.length false) ∧ g[q]? = some (some (.row 2 rows))

/-- The iterator, as After ranges over it. -/
theorem a86_15 (P : Program) (T : Nat → Option CFn) (hT : T 86 = some c86) (h63 : T 63 = some { c63 with frsh := true, orc := o63 }) (u d l r : Int) (x : AVal) (ss : List Stay) (hx : rowsV x = some (ss.map rStay)) (hl : ss.length ≤ 10) :
    Answers P T 86 [.yld 6, .ref 5 0 0, .ref 3 0 0, .ref 4 0 0] (some (.row 2 [[I u, I d]]) :: some (.row 2 [[I l, I r]]) :: some (.row 1 [[.nils]]) :: some (.row 2 [[I l, I r]]) :: some (.row 2 [[I u, I d]]) :: some (.row 1 [[x]]) :: some (.loop [.agg [I u, I d], .agg [I l, I r], x, .ref 0 0 0, .ref 1 0 0, .und, .ref 2 0 0, I 0, I 0, .und, .und, .agg [I u, I d], .agg [I l, I r], x, I 0, I 0, B false, .und, .agg [I l, I r], .agg [I l, I r], .agg [I u, I d], x, .fn 86 [] [.ref 5 0 0, .ref 3 0 0, .ref 4 0 0], .und, .und, .und, .und, .und, .und, .und, .und] [23, 24] (.reg [⟨(some 10), (.new [(.int .i64 (0)), (.int .i64 (0))]), none, []⟩, ⟨none, (.st 2 (.t 10) (.t 24)), none, []⟩]) (.block 1 (.reg [⟨(some 25), (.ld (.t 6)), none, []⟩, ⟨(some 26), (.fa 0 (.t 10)), none, []⟩, ⟨(some 27), (.ldn 2 (.t 26)), none, []⟩, ⟨(some 28), (.bsl 2 1 [(.int .i64 (0)), (.int .i64 (0))] [(0, (.t 27))]), none, []⟩, ⟨(some 29), (.app 2 (.t 25) (.t 28)), none, []⟩, ⟨none, (.st 1 (.t 6) (.t 29)), none, []⟩])) .ready none) :: []) fun _ h => ∃ lv k1 k2 g, h = some (.row 2 [[I u, I d]]) :: some (.row 2 [[I l, I r]]) :: some (.row 1 [[lv]]) :: some (.row 2 [[I k1, I k2]]) :: some (.row 2 [[I u, I d]]) :: some (.row 1 [[x]]) :: some (.loop [.agg [I u, I d], .agg [I l, I r], x, .ref 0 0 0, .ref 1 0 0, .und, .ref 2 0 0, I 0, I 0, .und, .und, .agg [I u, I d], .agg [I l, I r], x, I 0, I 0, B false, .und, .agg [I l, I r], .agg [I l, I r], .agg [I u, I d], x, .fn 86 [] [.ref 5 0 0, .ref 3 0 0, .ref 4 0 0], .und, .und, .und, .und, .und, .und, .und, .und] [23, 24] (.reg [⟨(some 10), (.new [(.int .i64 (0)), (.int .i64 (0))]), none, []⟩, ⟨none, (.st 2 (.t 10) (.t 24)), none, []⟩]) (.block 1 (.reg [⟨(some 25), (.ld (.t 6)), none, []⟩, ⟨(some 26), (.fa 0 (.t 10)), none, []⟩, ⟨(some 27), (.ldn 2 (.t 26)), none, []⟩, ⟨(some 28), (.bsl 2 1 [(.int .i64 (0)), (.int .i64 (0))] [(0, (.t 27))]), none, []⟩, ⟨(some 29), (.app 2 (.t 25) (.t 28)), none, []⟩, ⟨none, (.st 1 (.t 6) (.t 29)), none, []⟩])) .ready none) :: g ∧ OutG g lv ((pRun u d ss (l, r)).map fun p => [I p.1, I p.2]) := by
  have lx := rowsV_len hx
  rw [List.length_map] at lx
  have hrbx := rowsV_rb hx
  refine answers_of hT (orcF_none rfl) ?_
  simp only [c86]
  refine runs_seq (runs_reg (ops_run (by simp [lx, -lenA]; rfl) ?_))
  simp only [AEx.thn, AEx.blk]
  refine runs_block ?_
  refine runs_loop_inv (fun m σ => ∃ (k : Nat) (i : Int) (rows : List (Int × Int)) (lv : AVal) (k1 k2 : Int) (g : Heap), i = k ∧ m = ss.length - k ∧ k ≤ ss.length ∧ rows ++ pRun u d (ss.drop k) (k1, k2) = pRun u d ss (l, r) ∧ rows.length = k ∧
    OutG g lv (rows.map fun p => [I p.1, I p.2]) ∧ σ = ⟨[.yld 6, .any, .ref 3 0 0, .ref 4 0 0, .any, .any, .any, x, I ss.length, I i, .any, .any, .any, .any, .any, .any, .any, .any, .any, .any, .any, .any, .any, .any, .any, .any], some (.row 2 [[I u, I d]]) :: some (.row 2 [[I l, I r]]) :: some (.row 1 [[lv]]) :: some (.row 2 [[I k1, I k2]]) :: some (.row 2 [[I u, I d]]) :: some (.row 1 [[x]]) :: some (.loop [.agg [I u, I d], .agg [I l, I r], x, .ref 0 0 0, .ref 1 0 0, .und, .ref 2 0 0, I 0, I 0, .und, .und, .agg [I u, I d], .agg [I l, I r], x, I 0, I 0, B false, .und, .agg [I l, I r], .agg [I l, I r], .agg [I u, I d], x, .fn 86 [] [.ref 5 0 0, .ref 3 0 0, .ref 4 0 0], .und, .und, .und, .und, .und, .und, .und, .und] [23, 24] (.reg [⟨(some 10), (.new [(.int .i64 (0)), (.int .i64 (0))]), none, []⟩, ⟨none, (.st 2 (.t 10) (.t 24)), none, []⟩]) (.block 1 (.reg [⟨(some 25), (.ld (.t 6)), none, []⟩, ⟨(some 26), (.fa 0 (.t 10)), none, []⟩, ⟨(some 27), (.ldn 2 (.t 26)), none, []⟩, ⟨(some 28), (.bsl 2 1 [(.int .i64 (0)), (.int .i64 (0))] [(0, (.t 27))]), none, []⟩, ⟨(some 29), (.app 2 (.t 25) (.t 28)), none, []⟩, ⟨none, (.st 1 (.t 6) (.t 29)), none, []⟩])) .ready none) :: g⟩) ?_ (ss.length - 0) _ ⟨0, 0, [], .nils, l, r, [], rfl, rfl, Nat.zero_le _, rfl, rfl, .inl ⟨rfl, rfl⟩, by simp⟩
  rintro m σ ⟨k, i, rows, lv, k1, k2, g, hik, rfl, hk, hrun, hrl, hout, rfl⟩
  have hi0 : 0 ≤ i := by omega
  have htn : i.toNat = k := by omega
  refine runs_seq (runs_reg (ops_run (by simp; rfl) ?_))
  simp only [AEx.thn, AEx.blk]
  refine runs_seq (runs_cond_split (x := decide (i < (ss.length : Int))) (by simp) (fun hlt => ?_) (fun hge => ?_))
  · refine runs_skip ?_
    simp only [AEx.thn, AEx.blk]
    have hlt' : k < ss.length := by have := of_decide_eq_true hlt; omega
    obtain ⟨tt, rfl⟩ := rowsV_get hx (k := k) (by simpa using hlt')
    rw [List.drop_eq_getElem_cons hlt'] at hrun
    generalize hs : ss[k] = t at hrun
    obtain ⟨tl, th, tn⟩ := t
    simp only [pRun] at hrun
    refine runs_seq (runs_block ?_)
    refine runs_seq (runs_reg (ops_run (by simp [hi0, htn, hlt', hs, rStay, lop, loud]; rfl) ?_))
    simp only [AEx.thn, AEx.blk]
    have hwi : W .i64 (i + 1) = i + 1 := W_small (by omega)
    rcases hout with ⟨rfl, hrw⟩ | ⟨q, ⟨hne, rfl⟩, hq⟩
    · have hrows : rows = [] := by simpa using hrw
      subst hrows
      refine runs_seq (runs_reg (ops_run (by simp [lop, loud, callA, calleeA, callF_step h63, h63, o63, get_appK0, get_appK]; rfl) ?_))
      simp only [AEx.thn, AEx.blk]
      refine runs_seq (runs_reg ?_)
      refine ops_cons 0 (by simp; rfl) (ops_cons 0 (by simp [get_appK0, get_appK]; rfl) (ops_cons 0 (by simp; rfl) ?_))
      refine ops_yield (i := 6) (by simp) (by simp) (by simp [lop]) (by simp [calleeA]; rfl) rfl rfl ?_
      refine runs_reg (ops_run (by simp [setAll, lop, loud, get_appK0, get_appK, set_app, set_app0]; rfl) ?_)
      refine ⟨rfl, _, _, _, _, _, rfl, ?_⟩
      refine runs_block (runs_reg (ops_run (by simp [lop, loud, lim, get_appK0, get_appK, set_app, set_app0]; rfl) ?_))
      refine ⟨_, _, _, _, _, _, rfl, ?_⟩
      simp only
      refine ops_run (by simp; rfl) ?_
      simp only [AEx.thn, AEx.blk]
      refine runs_cond (x := false) (by simp) ?_
      refine runs_skip ?_
      simp only [AEx.thn, AEx.blk]
      refine runs_reg (ops_run (by simp [hwi]; rfl) ?_)
      simp only [AEx.thn, AEx.blk]
      refine ⟨ss.length - (k + 1), by omega, k + 1, i + 1, [(tw u d k1 tl tn, tw u d k2 th tn)], .sl (g.length + 3 + 7) 0 1 false, tw u d k1 tl tn, tw u d k2 th tn, g ++ [some (.row 3 [[I tl, I th, I tn]]), some (.row 2 [[I (tw u d k1 tl tn), I (tw u d k2 th tn)]]), some (.row 2 [[I (tw u d k1 tl tn), I (tw u d k2 th tn)]]), some (.row 2 [[I (tw u d k1 tl tn), I (tw u d k2 th tn)]])], by omega, rfl, by omega, by simpa using hrun, by simp at hrl ⊢; try omega, .inr ⟨g.length + 3, ⟨by simp, by simp⟩, ?_⟩, ?_⟩
      · rw [get_appK rfl]; rfl
      · have hA : ¬ (g.length + 3 + 1 + 1 + 1 + 1 + 1 + 1 + 1 < g.length + 1 + 1 + 1 + 1 + 1 + 1 + 1) := by omega
        have hB : ¬ (g.length + 3 + 1 + 1 + 1 + 1 + 1 + 1 + 1 < g.length + 1 + 1 + 1 + 1 + 1 + 1 + 1 + 1) := by omega
        simp [trim, rbB, hA, hB]
    · have lq : q < g.length := (List.getElem?_eq_some_iff.1 hq).1
      have gq := get_of hq lq
      have hlim1 : rows.length + 1 ≤ 1048576 := by omega
      have hlim2 : rows.length ≤ 1048575 := by omega
      refine runs_seq (runs_reg (ops_run (by simp [lop, loud, callA, calleeA, callF_step h63, h63, o63, get_appK0, get_appK]; rfl) ?_))
      simp only [AEx.thn, AEx.blk]
      refine runs_seq (runs_reg ?_)
      refine ops_cons 0 (by simp; rfl) (ops_cons 0 (by simp [get_appK0, get_appK]; rfl) (ops_cons 0 (by simp; rfl) ?_))
      refine ops_yield (i := 6) (by simp) (by simp) (by simp [lop]) (by simp [calleeA]; rfl) rfl rfl ?_
      refine runs_reg (ops_run (by simp [setAll, lop, loud, get_appK0, get_appK, set_app, set_app0]; rfl) ?_)
      refine ⟨rfl, _, _, _, _, _, rfl, ?_⟩
      refine runs_block (runs_reg (ops_run (by simp [lop, loud, lim, hlim1, hlim2, List.take_of_length_le, get_appK0, get_appK, set_app, set_app0, List.getElem?_append_left, List.set_append_left, gq, lq]; rfl) ?_))
      refine ⟨_, _, _, _, _, _, rfl, ?_⟩
      simp only
      refine ops_run (by simp; rfl) ?_
      simp only [AEx.thn, AEx.blk]
      refine runs_cond (x := false) (by simp) ?_
      refine runs_skip ?_
      simp only [AEx.thn, AEx.blk]
      refine runs_reg (ops_run (by simp [hwi]; rfl) ?_)
      simp only [AEx.thn, AEx.blk]
      refine ⟨ss.length - (k + 1), by omega, k + 1, i + 1, rows ++ [(tw u d k1 tl tn, tw u d k2 th tn)], .sl (g.length + 3 + 7) 0 (rows.length + 1) false, tw u d k1 tl tn, tw u d k2 th tn, (g.set q none) ++ [some (Blk.row 3 [[I tl, I th, I tn]]), some (Blk.row 2 [[I (tw u d k1 tl tn), I (tw u d k2 th tn)]]), some (Blk.row 2 [[I (tw u d k1 tl tn), I (tw u d k2 th tn)]]), some (Blk.row 2 ((rows.map fun p => [I p.1, I p.2]) ++ [[I (tw u d k1 tl tn), I (tw u d k2 th tn)]]))], by omega, rfl, by omega, by simpa using hrun, by simp at hrl ⊢; try omega, .inr ⟨g.length + 3, ⟨by simp, by simp⟩, ?_⟩, ?_⟩
      · rw [get_appK (by simp)]; simp
      · have hA : ¬ (g.length + 3 + 1 + 1 + 1 + 1 + 1 + 1 + 1 < g.length + 1 + 1 + 1 + 1 + 1 + 1 + 1) := by omega
        have hB : ¬ (g.length + 3 + 1 + 1 + 1 + 1 + 1 + 1 + 1 < g.length + 1 + 1 + 1 + 1 + 1 + 1 + 1 + 1) := by omega
        simp [trim, rbB, hA, hB]
  · refine runs_exit ?_
    simp only [AEx.thn, AEx.blk, if_true]
    have hke : k = ss.length := by
      have := of_decide_eq_false hge
      omega
    subst hke
    rw [List.drop_length] at hrun
    simp only [pRun, List.append_nil] at hrun
    refine ⟨by simp, [], by simp, ?_⟩
    rw [← hrun]
    rcases hout with ⟨rfl, hrw⟩ | ⟨q, ⟨hne, rfl⟩, hq⟩
    · obtain ⟨g', e⟩ := trim_or [tupA []] (some (.row 2 [[I u, I d]]) :: some (.row 2 [[I l, I r]]) :: some (.row 1 [[.nils]]) :: some (.row 2 [[I k1, I k2]]) :: some (.row 2 [[I u, I d]]) :: some (.row 1 [[x]]) :: some (.loop [.agg [I u, I d], .agg [I l, I r], x, .ref 0 0 0, .ref 1 0 0, .und, .ref 2 0 0, I 0, I 0, .und, .und, .agg [I u, I d], .agg [I l, I r], x, I 0, I 0, B false, .und, .agg [I l, I r], .agg [I l, I r], .agg [I u, I d], x, .fn 86 [] [.ref 5 0 0, .ref 3 0 0, .ref 4 0 0], .und, .und, .und, .und, .und, .und, .und, .und] [23, 24] (.reg [⟨(some 10), (.new [(.int .i64 (0)), (.int .i64 (0))]), none, []⟩, ⟨none, (.st 2 (.t 10) (.t 24)), none, []⟩]) (.block 1 (.reg [⟨(some 25), (.ld (.t 6)), none, []⟩, ⟨(some 26), (.fa 0 (.t 10)), none, []⟩, ⟨(some 27), (.ldn 2 (.t 26)), none, []⟩, ⟨(some 28), (.bsl 2 1 [(.int .i64 (0)), (.int .i64 (0))] [(0, (.t 27))]), none, []⟩, ⟨(some 29), (.app 2 (.t 25) (.t 28)), none, []⟩, ⟨none, (.st 1 (.t 6) (.t 29)), none, []⟩])) .ready none) :: []) g
      exact ⟨.nils, k1, k2, g', e, .inl ⟨rfl, hrw⟩⟩
    · refine ⟨_, k1, k2, g, ?_, .inr ⟨q, ⟨hne, rfl⟩, hq⟩⟩
      simp [trim, rbB]
      intro h; omega

theorem o14_eq (u d l r : Int) (x : AVal) (ss : List Stay) (hx : rowsV x = some (ss.map rStay)) (hl : ss.length ≤ 1000) : o14 [.agg [I u, I d], .agg [I l, I r], x] = some (I (checkI u d l r ss)) := by
  simp only [o14, hx]
  rw [optAll_map (d := dI3) (enc := rStay) (fun _ => rfl)]
  simp [hl]
theorem checkI_len {u d l r : Int} {ss : List Stay} (h : checkI u d l r ss = 0) : ss.length ≤ 10 := by
  unfold checkI at h
  (repeat' split at h) <;> simp at h <;> omega

theorem a15 (P : Program) (T : Nat → Option CFn) (hT : T 15 = some c15) (h14 : T 14 = some { c14 with frsh := true, orc := o14 }) (h59 : T 59 = some c59) (h86 : T 86 = some c86) (h63 : T 63 = some { c63 with frsh := true, orc := o63 })
    (u d l r : Int) (x : AVal) (ss : List Stay) (hx : rowsV x = some (ss.map rStay)) (hl : ss.length ≤ 1000) :
    Answers P T 15 [.agg [I u, I d], .agg [I l, I r], x] [] fun v h => frz true h 5 v = some (.tup [outV (if checkI u d l r ss = 0 then pRun u d ss (l, r) else []), I (checkI u d l r ss)]) := by
  have ho := o14_eq u d l r x ss hx hl
  have hlen := checkI_len (u := u) (d := d) (l := l) (r := r) (ss := ss)
  generalize checkI u d l r ss = e at ho hlen
  refine answers_of hT (orcF_none rfl) ?_
  simp only [c15]
  refine runs_seq (runs_reg (ops_run (by simp; rfl) ?_))
  simp only [AEx.thn, AEx.blk]
  refine runs_seq (runs_seq (runs_reg (ops_run (by simp [lop, loud, callA, calleeA, callF_step h14, h14, ho, rowsV_frz hx]; rfl) ?_)))
  simp only [AEx.thn, AEx.blk]
  refine runs_seq (runs_reg (ops_run (by simp; rfl) ?_))
  simp only [AEx.thn, AEx.blk]
  refine runs_cond_split (x := e != 0) (by simp) (fun h1 => ?_) (fun h1 => ?_)
  · have h1 : ¬ e = 0 := by simpa using h1
    refine runs_seq (runs_reg (ops_run (by simp [lop, loud]; rfl) ?_))
    simp only [AEx.thn, AEx.blk]
    refine runs_ret ?_
    simp [trim, outV, h1]
  · have h1 : e = 0 := by simpa using h1
    subst h1
    refine runs_skip ?_
    simp only [AEx.thn, AEx.blk]
    refine runs_seq (runs_seq (runs_reg ?_))
    refine ops_cons 0 (by simp; rfl) (ops_cons 0 (by simp; rfl) (ops_cons 0 (by simp; rfl) (ops_cons 0 (by simp; rfl) ?_)))
    refine ops_call (f := 59) (args := [.agg [I l, I r], .agg [I u, I d], x]) (by simp) (by simp) (by simp [lop]) (by simp [calleeA]) ?_
    refine (a59 P T h59 l r u d x _ hx _).mono ?_
    rintro v h' ⟨rfl, rfl⟩
    refine ops_nil ?_
    simp only [AEx.thn, AEx.blk]
    refine runs_block ?_
    refine runs_rf (f := 86) (a := []) (b := [.ref 5 0 0, .ref 3 0 0, .ref 4 0 0]) (by simp [inLoop]) (by simp) ?_
    refine Answers.mono (Q := fun _ h => ∃ lv k1 k2 g, h = some (.row 2 [[I u, I d]]) :: some (.row 2 [[I l, I r]]) :: some (.row 1 [[lv]]) :: some (.row 2 [[I k1, I k2]]) :: some (.row 2 [[I u, I d]]) :: some (.row 1 [[x]]) :: some (.loop [.agg [I u, I d], .agg [I l, I r], x, .ref 0 0 0, .ref 1 0 0, .und, .ref 2 0 0, I 0, I 0, .und, .und, .agg [I u, I d], .agg [I l, I r], x, I 0, I 0, B false, .und, .agg [I l, I r], .agg [I l, I r], .agg [I u, I d], x, .fn 86 [] [.ref 5 0 0, .ref 3 0 0, .ref 4 0 0], .und, .und, .und, .und, .und, .und, .und, .und] [23, 24] (.reg [⟨(some 10), (.new [(.int .i64 (0)), (.int .i64 (0))]), none, []⟩, ⟨none, (.st 2 (.t 10) (.t 24)), none, []⟩]) (.block 1 (.reg [⟨(some 25), (.ld (.t 6)), none, []⟩, ⟨(some 26), (.fa 0 (.t 10)), none, []⟩, ⟨(some 27), (.ldn 2 (.t 26)), none, []⟩, ⟨(some 28), (.bsl 2 1 [(.int .i64 (0)), (.int .i64 (0))] [(0, (.t 27))]), none, []⟩, ⟨(some 29), (.app 2 (.t 25) (.t 28)), none, []⟩, ⟨none, (.st 1 (.t 6) (.t 29)), none, []⟩])) .ready none) :: g ∧ OutG g lv ((pRun u d ss (l, r)).map fun p => [I p.1, I p.2])) ?_ ?_
    · have := a86_15 P T h86 h63 u d l r x ss hx (hlen rfl)
      simpa using this
    · rintro v h ⟨lv, k1, k2, g, rfl, hout⟩
      refine ⟨_, _, _, _, _, _, rfl, by simp, ?_⟩
      simp only [AEx.thn, AEx.blk]
      generalize pRun u d ss (l, r) = rows at hout
      rcases hout with ⟨rfl, hrw⟩ | ⟨q, ⟨hne, rfl⟩, hq⟩
      · have hrows : rows = [] := by simpa using hrw
        subst hrows
        refine runs_seq (runs_reg (ops_run (by simp [lop, loud]; rfl) ?_))
        simp only [AEx.thn, AEx.blk]
        refine runs_ret ?_
        simp [trim, outV]
      · refine runs_seq (runs_reg (ops_run (by simp [lop, loud]; rfl) ?_))
        simp only [AEx.thn, AEx.blk]
        refine runs_ret ?_
        refine ⟨by simp, _, by simp; rfl, ?_⟩
        have hie : rows.isEmpty = false := by cases rows <;> simp at hne ⊢
        have e : frz true (some (.row 2 [[I u, I d]]) :: some (.row 2 [[I l, I r]]) :: some (.row 1 [[.sl (q + 7) 0 rows.length false]]) :: some (.row 2 [[I k1, I k2]]) :: some (.row 2 [[I u, I d]]) :: some (.row 1 [[x]]) :: none :: g) 4 (.sl (q + 7) 0 rows.length false) = some (.vl (rows.map fun p => [I p.1, I p.2]) false) :=
          frz_row true _ 3 (q + 7) _ 2 false _ (by simpa using hq) (by simp) (frz_rows true _ 2 _ fun r hr x hx => by simp at hr; obtain ⟨a, b, _, rfl⟩ := hr; simp at hx; rcases hx with rfl | rfl <;> rfl)
        simp [trim, outV, hie, -frz_sl, e]

end
end Go.Proofs.YtpebmjeomlgmdaaDoor.Tab

namespace Go.Proofs.YtpebmjeomlgmdaaDoor.Tab
open Go Go.Abs Go.Proofs
set_option maxRecDepth 100000
section
attribute [local simp] frz_int frz_bool frz_vl frz_pv frz_agg frz_tup frz_fn frz_ref frz_sl frz_nils optAll orcF rb_int rb_bool rb_agg rb_tup rb_int' rb_bool' rb_vl rb_pv rb_yld rb_nilf rb_nilp rb_nils rb_any rb_und rb_ref rb_sl rb_fn slE chunk fillA evParts evParts3 putAt List.range_succ List.range_zero List.range'_succ List.range'_zero runX_nil' unary_not evalS_pure evAll_nil evAll_cons runX_cons stepX wantedA dop CV.ev cellsOf putK_eq setK_eq appK_eq fA_eq fI_eq fN_eq fRow_eq fRows_eq nth_eq Out.v putT List.replicate_succ AEx.thn AEx.blk arI pointee Abs.rowAt ldRow allV toV toC ofV ofC Builtin.min_ Builtin.min2 Builtin.max_ Builtin.max2 min_if max_if resA tupA kill trim_self trim_len trim_emp trim_nil lenA
attribute [local simp] runD_nil' runD_cons' stepD actK_eq actD clash disj masks holes maskH unmaskH diffs news eqB allB eqA ldRowN wrote toCs ofCs stA storable rowsV_vl rowsV_nils rowsOf dI1 dI2 dI3 dI5 elt
/-- The program's state: what is known now, the most, its hour, the hours begun. -/
structure KS where
  lo : Int
  hi : Int
  most : Int
  hour : Int
  begun : Int
def twI (u d frm room n : Int) : Int := if frm < room then min room (frm + u * n) else max room (frm - d * n)
def kStay (u d : Int) (t : Stay) (s : KS) : KS :=
  if s.most < twI u d s.hi t.2.1 t.2.2 then ⟨twI u d s.lo t.1 t.2.2, twI u d s.hi t.2.1 t.2.2, twI u d s.hi t.2.1 t.2.2, s.begun + (twI u d s.hi t.2.1 t.2.2 - s.hi + u - 1).tdiv u, s.begun + t.2.2⟩
  else ⟨twI u d s.lo t.1 t.2.2, twI u d s.hi t.2.1 t.2.2, s.most, s.hour, s.begun + t.2.2⟩
def kRun (u d : Int) (ss : List Stay) (s : KS) : KS := ss.foldl (fun s t => kStay u d t s) s
def OkStay (t : Stay) : Prop := In300 t.1 ∧ In300 t.2.1 ∧ 0 ≤ t.2.2 ∧ t.2.2 ≤ 500
theorem mul_le500 {u n : Int} (hu : Rate u) (h0 : 0 ≤ n) (h1 : n ≤ 500) : 0 ≤ u * n ∧ u * n ≤ 25000 := by
  unfold Rate at hu
  refine ⟨Int.mul_nonneg hu.1 h0, ?_⟩
  calc u * n ≤ 50 * n := Int.mul_le_mul_of_nonneg_right hu.2 h0
    _ ≤ 50 * 500 := Int.mul_le_mul_of_nonneg_left h1 (by omega)
    _ = 25000 := by omega
theorem tw_twI {u d frm room n : Int} (hu : Rate u) (hd : Rate d) (hf : In300 frm) (h0 : 0 ≤ n) (h1 : n ≤ 500) : tw u d frm room n = twI u d frm room n := by
  have a := mul_le500 hu h0 h1
  have b := mul_le500 hd h0 h1
  unfold In300 at hf
  unfold tw twI
  rw [W_small (n := u * n) (by omega), W_small (n := d * n) (by omega), W_small (by omega), W_small (by omega)]
theorem twI_in {u d frm room n : Int} (hu : Rate u) (hd : Rate d) (hf : In300 frm) (hr : In300 room) (h0 : 0 ≤ n) (h1 : n ≤ 500) : In300 (twI u d frm room n) := by
  have a := mul_le500 hu h0 h1
  have b := mul_le500 hd h0 h1
  unfold In300 at *
  unfold twI; split <;> omega
theorem twI_zero {d frm room n : Int} (hd : Rate d) (h0 : 0 ≤ n) (h1 : n ≤ 500) : twI 0 d frm room n ≤ frm := by
  have b := mul_le500 hd h0 h1
  unfold twI; rw [Int.zero_mul]; split <;> omega

theorem a86_16 (P : Program) (T : Nat → Option CFn) (hT : T 86 = some c86) (h63 : T 63 = some { c63 with frsh := true, orc := o63 }) (u d l r : Int) (x : AVal) (ss : List Stay) (hx : rowsV x = some (ss.map rStay)) (hl : ss.length ≤ 10)
    (hu : Rate u) (hd : Rate d) (hss : ∀ t ∈ ss, OkStay t) (s0 : KS) (hs1 : In300 s0.lo) (hs2 : In300 s0.hi) (hs3 : s0.hi ≤ s0.most) (hs4 : s0.begun = 0) (rec : Blk) (hrec : rec = .loop [.agg [I u, I d], .agg [I l, I r], x, .ref 0 0 0, .ref 1 0 0, .und, .ref 2 0 0, .ref 3 0 0, I 0, I 0, .ref 4 0 0, .ref 5 0 0, .und, .und, .agg [I u, I d], .agg [I l, I r], x, I 0, I 0, B false, .und, .agg [I l, I r], .agg [I l, I r], .ref 1 0 1, I r, .agg [I l, I r], .agg [I u, I d], x, .fn 86 [] [.ref 8 0 0, .ref 6 0 0, .ref 7 0 0], .und, .und, .und, .und, .und, .und, .und, .und, .und, .und, .und, .und, .und, .und, .und, .und, .und, .und, .und, .und, .und, .und, .und, .und, .und, .und, .und, .und, .und, .und, .und, .und, .und] [29, 30] (.seq (.reg [⟨(some 12), (.new [(.int .i64 (0)), (.int .i64 (0)), (.int .i64 (0))]), none, []⟩, ⟨none, (.st 3 (.t 12) (.t 29)), none, []⟩]) (.reg [⟨(some 13), (.new [(.int .i64 (0)), (.int .i64 (0))]), none, []⟩, ⟨none, (.st 2 (.t 13) (.t 30)), none, []⟩])) (.block 1 (.seq (.seq (.reg [⟨(some 31), (.fa 0 (.t 13)), none, []⟩, ⟨(some 32), (.fa 1 (.t 31)), none, []⟩, ⟨(some 33), (.ld (.t 32)), none, []⟩, ⟨(some 34), (.ld (.t 6)), none, []⟩, ⟨(some 35), (.ar .gtr (.t 33) (.t 34)), none, []⟩]) (.cond (.t 35) (.drw [⟨(some 36), (.fa 0 (.t 13)), none, []⟩, ⟨(some 37), (.fa 1 (.t 36)), none, []⟩, ⟨(some 38), (.ld (.t 37)), none, []⟩, ⟨(some 39), (.ld (.t 11)), none, [0, 1, 2]⟩, ⟨(some 40), (.fa 0 (.t 13)), none, [0, 1, 2, 3]⟩, ⟨(some 41), (.fa 1 (.t 40)), none, [0, 1, 2, 3]⟩, ⟨(some 42), (.ld (.t 41)), none, [0, 1, 2, 3]⟩, ⟨(some 43), (.fa 0 (.t 10)), none, [0, 1, 2, 3, 4, 5, 6]⟩, ⟨(some 44), (.fa 1 (.t 43)), none, [0, 1, 2, 3, 4, 5, 6]⟩, ⟨(some 45), (.ld (.t 44)), none, [0, 1, 2, 3, 4, 5, 6]⟩, ⟨(some 46), (.ar .sub (.t 42) (.t 45)), none, [0, 1, 2, 3]⟩, ⟨(some 47), (.fa 0 (.t 3)), none, [0, 1, 2, 3, 4, 5, 6, 7, 8, 9, 10]⟩, ⟨(some 48), (.ld (.t 47)), none, [0, 1, 2, 3, 4, 5, 6, 7, 8, 9, 10]⟩, ⟨(some 49), (.ar .add (.t 46) (.t 48)), none, [0, 1, 2, 3]⟩, ⟨(some 50), (.ar .sub (.t 49) (.c (.int .i64 (1)))), none, [0, 1, 2, 3]⟩, ⟨(some 51), (.fa 0 (.t 3)), none, [0, 1, 2, 3, 4, 5, 6, 7, 8, 9, 10, 11, 12, 13, 14]⟩, ⟨(some 52), (.ld (.t 51)), none, [0, 1, 2, 3, 4, 5, 6, 7, 8, 9, 10, 11, 12, 13, 14]⟩, ⟨(some 53), (.ar .quo (.t 50) (.t 52)), none, [0, 1, 2, 3]⟩, ⟨(some 54), (.ar .add (.t 39) (.t 53)), none, [0, 1, 2]⟩, ⟨none, (.st 1 (.t 6) (.t 38)), none, [3, 4, 5, 6, 7, 8, 9, 10, 11, 12, 13, 14, 15, 16, 17, 18]⟩, ⟨none, (.st 1 (.t 7) (.t 54)), none, []⟩]) .skip)) (.drw [⟨(some 55), (.ldn 2 (.t 13)), none, []⟩, ⟨(some 56), (.ld (.t 11)), none, [0]⟩, ⟨(some 57), (.fa 2 (.t 12)), none, [0, 1]⟩, ⟨(some 58), (.ld (.t 57)), none, [0, 1]⟩, ⟨(some 59), (.ar .add (.t 56) (.t 58)), none, [0]⟩, ⟨none, (.st 2 (.t 10) (.t 55)), none, [1, 2, 3, 4]⟩, ⟨none, (.st 1 (.t 11) (.t 59)), none, []⟩]))) .ready none) :
    Answers P T 86 [.yld 9, .ref 8 0 0, .ref 6 0 0, .ref 7 0 0] [some (.row 2 [[I u, I d]]), some (.row 2 [[I l, I r]]), some (.row 1 [[I s0.most]]), some (.row 1 [[I s0.hour]]), some (.row 2 [[I s0.lo, I s0.hi]]), some (.row 1 [[I s0.begun]]), some (.row 2 [[I s0.lo, I s0.hi]]), some (.row 2 [[I u, I d]]), some (.row 1 [[x]]), some rec] fun _ h => ∃ s, s = kRun u d ss s0 ∧ h = [some (.row 2 [[I u, I d]]), some (.row 2 [[I l, I r]]), some (.row 1 [[I s.most]]), some (.row 1 [[I s.hour]]), some (.row 2 [[I s.lo, I s.hi]]), some (.row 1 [[I s.begun]]), some (.row 2 [[I s.lo, I s.hi]]), some (.row 2 [[I u, I d]]), some (.row 1 [[x]]), some rec] := by
  have lx := rowsV_len hx
  rw [List.length_map] at lx
  have hrbx := rowsV_rb hx
  have hrecB : rbB 11 (some rec) = true := by subst hrec; simp [rbB, hrbx]
  have hrecC : rbB 10 (some rec) = true := by subst hrec; simp [rbB, hrbx]
  refine answers_of hT (orcF_none rfl) ?_
  simp only [c86]
  refine runs_seq (runs_reg (ops_run (by simp [lx, -lenA]; rfl) ?_))
  simp only [AEx.thn, AEx.blk]
  refine runs_block ?_
  refine runs_loop_inv (fun m σ => ∃ (k : Nat) (i : Int) (s : KS), i = k ∧ m = ss.length - k ∧ k ≤ ss.length ∧ kRun u d (ss.drop k) s = kRun u d ss s0 ∧ In300 s.lo ∧ In300 s.hi ∧ s.hi ≤ s.most ∧ 0 ≤ s.begun ∧ s.begun ≤ 500 * k ∧
    σ = ⟨[.yld 9, .any, .ref 6 0 0, .ref 7 0 0, .any, .any, .any, x, I ss.length, I i, .any, .any, .any, .any, .any, .any, .any, .any, .any, .any, .any, .any, .any, .any, .any, .any], [some (.row 2 [[I u, I d]]), some (.row 2 [[I l, I r]]), some (.row 1 [[I s.most]]), some (.row 1 [[I s.hour]]), some (.row 2 [[I s.lo, I s.hi]]), some (.row 1 [[I s.begun]]), some (.row 2 [[I s.lo, I s.hi]]), some (.row 2 [[I u, I d]]), some (.row 1 [[x]]), some rec]⟩) ?_ (ss.length - 0) _ ⟨0, 0, s0, rfl, rfl, Nat.zero_le _, rfl, hs1, hs2, hs3, by omega, by omega, by simp⟩
  rintro m σ ⟨k, i, s, hik, rfl, hk, hrun, hslo, hshi, hsm, hb0, hb1, rfl⟩
  have hi0 : 0 ≤ i := by omega
  have htn : i.toNat = k := by omega
  refine runs_seq (runs_reg (ops_run (by simp; rfl) ?_))
  simp only [AEx.thn, AEx.blk]
  refine runs_seq (runs_cond_split (x := decide (i < (ss.length : Int))) (by simp) (fun hlt => ?_) (fun hge => ?_))
  · refine runs_skip ?_
    simp only [AEx.thn, AEx.blk]
    have hlt' : k < ss.length := by have := of_decide_eq_true hlt; omega
    obtain ⟨tt, rfl⟩ := rowsV_get hx (k := k) (by simpa using hlt')
    rw [List.drop_eq_getElem_cons hlt'] at hrun
    have hsk := hss _ (List.getElem_mem hlt')
    generalize hs : ss[k] = t at hrun hsk
    have hstep : kRun u d (ss.drop (k + 1)) (kStay u d t s) = kRun u d ss s0 := hrun
    have hwi : W .i64 (i + 1) = i + 1 := W_small (by omega)
    obtain ⟨tl, th, tn⟩ := t
    obtain ⟨ht1, ht2, ht3, ht4⟩ := hsk
    simp only at ht1 ht2 ht3 ht4
    have e1 := tw_twI (room := tl) hu hd hslo ht3 ht4
    have e2 := tw_twI (room := th) hu hd hshi ht3 ht4
    have i1 := twI_in hu hd hslo ht1 ht3 ht4
    have i2 := twI_in hu hd hshi ht2 ht3 ht4
    refine runs_seq (runs_block ?_)
    refine runs_seq (runs_reg (ops_run (by simp [hi0, htn, hlt', hs, rStay, lop, loud]; rfl) ?_))
    simp only [AEx.thn, AEx.blk]
    refine runs_seq (runs_reg (ops_run (by simp [lop, loud, callA, calleeA, callF_step h63, h63, o63]; rfl) ?_))
    simp only [AEx.thn, AEx.blk]
    rw [e1, e2]
    have hz : s.most < twI u d s.hi th tn → u ≠ 0 := fun h hu0 => by
      subst hu0
      have := twI_zero (frm := s.hi) (room := th) hd ht3 ht4
      omega
    have hk1 : (kStay u d (tl, th, tn) s).lo = twI u d s.lo tl tn ∧ (kStay u d (tl, th, tn) s).hi = twI u d s.hi th tn ∧ (kStay u d (tl, th, tn) s).begun = s.begun + tn := by unfold kStay; split <;> exact ⟨rfl, rfl, rfl⟩
    have hwb : W .i64 (s.begun + tn) = s.begun + tn := W_small (by omega)
    generalize hlo : twI u d s.lo tl tn = lo' at *
    generalize hhi : twI u d s.hi th tn = hi' at *
    refine runs_seq (runs_reg ?_)
    refine ops_cons 0 (by simp; rfl) (ops_cons 0 (by simp; rfl) (ops_cons 0 (by simp; rfl) ?_))
    refine ops_yield (i := 9) (by simp) (by simp) (by simp [lop]) (by simp [calleeA]; rfl) (by rw [hrec]; rfl) rfl ?_
    refine runs_seq (runs_reg (ops_run (by simp [setAll, lop, loud]; rfl) ?_))
    simp only [AEx.thn, AEx.blk]
    refine runs_reg (ops_run (by simp [setAll, lop, loud]; rfl) ?_)
    refine ⟨rfl, _, _, _, _, _, by rw [hrec]; rfl, ?_⟩
    refine runs_block (runs_seq (runs_seq (runs_reg (ops_run (by simp; rfl) ?_))))
    simp only [AEx.thn, AEx.blk]
    refine runs_cond_split (x := decide (s.most < hi')) (by simp) (fun hm => ?_) (fun hm => ?_)
    · have hm := of_decide_eq_true hm
      have hu0 := hz hm
      have hk2 : (kStay u d (tl, th, tn) s).most = hi' ∧ (kStay u d (tl, th, tn) s).hour = s.begun + (hi' - s.hi + u - 1).tdiv u := by unfold kStay; simp only [hlo, hhi, hm, if_true, and_self]
      have w1 : W .i64 (hi' - s.hi) = hi' - s.hi := W_small (by unfold In300 at *; omega)
      have w2 : W .i64 (hi' - s.hi + u) = hi' - s.hi + u := W_small (by unfold In300 Rate at *; omega)
      have w3 : W .i64 (hi' - s.hi + u - 1) = hi' - s.hi + u - 1 := W_small (by unfold In300 Rate at *; omega)
      have hq : 0 ≤ (hi' - s.hi + u - 1).tdiv u ∧ (hi' - s.hi + u - 1).tdiv u ≤ 400 := by
        unfold In300 Rate at *
        have h1 : 0 ≤ hi' - s.hi + u - 1 := by omega
        refine ⟨Int.tdiv_nonneg h1 hu.1, ?_⟩
        rw [Int.tdiv_eq_ediv_of_nonneg h1]
        exact Int.le_trans (Int.ediv_le_self _ h1) (by omega)
      have w4 : W .i64 ((hi' - s.hi + u - 1).tdiv u) = (hi' - s.hi + u - 1).tdiv u := W_small (by omega)
      have w5 : W .i64 (s.begun + (hi' - s.hi + u - 1).tdiv u) = s.begun + (hi' - s.hi + u - 1).tdiv u := W_small (by omega)
      refine runs_drw (by simp [lop, loud, w1, w2, w3, w4, w5, hu0]; rfl) ?_
      simp only [AEx.thn, AEx.blk]
      refine runs_drw (by simp [lop, loud, hwb]; rfl) ?_
      refine ⟨_, _, _, _, _, _, rfl, ?_⟩
      simp only
      refine ops_run (by simp [trim, rbB, hrbx]; rfl) ?_
      simp only [AEx.thn, AEx.blk]
      refine runs_cond (x := false) (by simp) ?_
      refine runs_skip ?_
      simp only [AEx.thn, AEx.blk]
      refine runs_reg (ops_run (by simp [hwi]; rfl) ?_)
      simp only [AEx.thn, AEx.blk]
      refine ⟨ss.length - (k + 1), by omega, k + 1, i + 1, kStay u d (tl, th, tn) s, by omega, rfl, by omega, hstep, by rw [hk1.1]; exact i1, by rw [hk1.2.1]; exact i2, by rw [hk1.2.1, hk2.1]; omega, by rw [hk1.2.2]; omega, by rw [hk1.2.2]; omega, ?_⟩
      rw [hk1.1, hk1.2.1, hk1.2.2, hk2.1, hk2.2]
      simp only [hrec]
      simp [trim, rbB, hrbx]
    · have hm := of_decide_eq_false hm
      have hk2 : (kStay u d (tl, th, tn) s).most = s.most ∧ (kStay u d (tl, th, tn) s).hour = s.hour := by unfold kStay; simp only [hlo, hhi, hm, if_false, and_self]
      refine runs_skip ?_
      simp only [AEx.thn, AEx.blk]
      refine runs_drw (by simp [lop, loud, hwb]; rfl) ?_
      refine ⟨_, _, _, _, _, _, by first | rfl | (rw [hrec]; rfl), ?_⟩
      simp only
      refine ops_run (by simp [trim, rbB, hrbx]; rfl) ?_
      simp only [AEx.thn, AEx.blk]
      refine runs_cond (x := false) (by simp) ?_
      refine runs_skip ?_
      simp only [AEx.thn, AEx.blk]
      refine runs_reg (ops_run (by simp [hwi]; rfl) ?_)
      simp only [AEx.thn, AEx.blk]
      refine ⟨ss.length - (k + 1), by omega, k + 1, i + 1, kStay u d (tl, th, tn) s, by omega, rfl, by omega, hstep, by rw [hk1.1]; exact i1, by rw [hk1.2.1]; exact i2, by rw [hk1.2.1, hk2.1]; omega, by rw [hk1.2.2]; omega, by rw [hk1.2.2]; omega, ?_⟩
      rw [hk1.1, hk1.2.1, hk1.2.2, hk2.1, hk2.2]
      simp only [hrec]
      simp [trim, rbB, hrbx]
  · refine runs_exit ?_
    simp only [AEx.thn, AEx.blk, if_true]
    have hke : k = ss.length := by
      have := of_decide_eq_false hge
      omega
    subst hke
    rw [List.drop_length] at hrun
    refine ⟨by simp, [], by simp, s, hrun, ?_⟩
    simp [trim]

theorem checkI_ok {u d l r : Int} {ss : List Stay} (h : checkI u d l r ss = 0) : Rate u ∧ Rate d ∧ In300 l ∧ In300 r ∧ l ≤ r ∧ ss.length ≤ 10 ∧ ∀ t ∈ ss, OkStay t ∧ t.1 ≤ t.2.1 := by
  have hw : ∀ a b xs, wB a b xs = true → ∀ x ∈ xs, a ≤ x ∧ x ≤ b := fun a b xs h x hx => by
    simp only [wB, List.all_eq_true, Bool.and_eq_true, decide_eq_true_eq] at h
    exact h x hx
  have hm : ∀ a b, moistB a b = true → In300 a ∧ In300 b ∧ a ≤ b := fun a b h => by
    simp only [moistB, Bool.and_eq_true, decide_eq_true_eq] at h
    exact ⟨hw _ _ _ h.1 a (by simp), hw _ _ _ h.1 b (by simp), h.2⟩
  unfold checkI at h
  split at h
  · simp at h
  · rename_i h1
    split at h
    · simp at h
    · rename_i h2
      split at h
      · simp at h
      · rename_i h3
        split at h
        · simp at h
        · rename_i h4
          have h1 : wB 0 50 [u, d] = true := by simpa [ruleB] using h1
          have h2 := hm l r (by simpa using h2)
          refine ⟨hw _ _ _ h1 u (by simp), hw _ _ _ h1 d (by simp), h2.1, h2.2.1, h2.2.2, by omega, fun t ht => ?_⟩
          have h5 : isNoneB t.1 t.2.1 t.2.2 = false := by
            cases hb : isNoneB t.1 t.2.1 t.2.2 with
            | false => rfl
            | true => exact absurd (List.any_eq_true.2 ⟨t, ht, hb⟩) h4
          simp only [isNoneB, Bool.or_eq_false_iff, Bool.not_eq_false'] at h5
          have h6 := hm _ _ h5.1
          have h7 := hw _ _ _ h5.2 t.2.2 (by simp)
          exact ⟨⟨h6.1, h6.2.1, h7.1, h7.2⟩, h6.2.2⟩

theorem a16 (P : Program) (T : Nat → Option CFn) (hT : T 16 = some c16) (h14 : T 14 = some { c14 with frsh := true, orc := o14 }) (h59 : T 59 = some c59) (h86 : T 86 = some c86) (h63 : T 63 = some { c63 with frsh := true, orc := o63 })
    (u d l r : Int) (x : AVal) (ss : List Stay) (hx : rowsV x = some (ss.map rStay)) (hl : ss.length ≤ 1000) :
    Answers P T 16 [.agg [I u, I d], .agg [I l, I r], x] [] fun v h => v = (if checkI u d l r ss = 0 then .tup [I (kRun u d ss ⟨l, r, r, 0, 0⟩).most, I (kRun u d ss ⟨l, r, r, 0, 0⟩).hour, I 0] else .tup [I 0, I 0, I (checkI u d l r ss)]) ∧ h = [] := by
  have ho := o14_eq u d l r x ss hx hl
  have hok := checkI_ok (u := u) (d := d) (l := l) (r := r) (ss := ss)
  generalize checkI u d l r ss = e at ho hok
  refine answers_of hT (orcF_none rfl) ?_
  simp only [c16]
  refine runs_seq (runs_reg (ops_run (by simp; rfl) ?_))
  simp only [AEx.thn, AEx.blk]
  refine runs_seq (runs_seq (runs_reg (ops_run (by simp [lop, loud, callA, calleeA, callF_step h14, h14, ho, rowsV_frz hx]; rfl) ?_)))
  simp only [AEx.thn, AEx.blk]
  refine runs_seq (runs_reg (ops_run (by simp; rfl) ?_))
  simp only [AEx.thn, AEx.blk]
  refine runs_cond_split (x := e != 0) (by simp) (fun h1 => ?_) (fun h1 => ?_)
  · have h1 : ¬ e = 0 := by simpa using h1
    refine runs_seq (runs_reg (ops_run (by simp [lop, loud]; rfl) ?_))
    simp only [AEx.thn, AEx.blk]
    refine runs_ret ?_
    simp [h1]
  · have h1 : e = 0 := by simpa using h1
    subst h1
    obtain ⟨hu, hd, hl1, hr1, hlr, hlen, hss⟩ := hok rfl
    refine runs_skip ?_
    simp only [AEx.thn, AEx.blk]
    refine runs_seq (runs_reg (ops_run (by simp [lop, loud]; rfl) ?_))
    simp only [AEx.thn, AEx.blk]
    refine runs_seq (runs_reg (ops_run (by simp [lop, loud]; rfl) ?_))
    simp only [AEx.thn, AEx.blk]
    refine runs_seq (runs_seq (runs_reg ?_))
    refine ops_cons 0 (by simp; rfl) (ops_cons 0 (by simp; rfl) (ops_cons 0 (by simp; rfl) ?_))
    refine ops_call (f := 59) (args := [.agg [I l, I r], .agg [I u, I d], x]) (by simp) (by simp) (by simp [lop]) (by simp [calleeA]) ?_
    refine (a59 P T h59 l r u d x _ hx _).mono ?_
    rintro v h' ⟨rfl, rfl⟩
    refine ops_nil ?_
    simp only [AEx.thn, AEx.blk]
    refine runs_block ?_
    refine runs_rf (f := 86) (a := []) (b := [.ref 8 0 0, .ref 6 0 0, .ref 7 0 0]) (by simp [inLoop]) (by simp) ?_
    refine Answers.mono (a86_16 P T h86 h63 u d l r x ss hx hlen hu hd (fun t ht => (hss t ht).1) ⟨l, r, r, 0, 0⟩ hl1 hr1 (Int.le_refl _) rfl _ rfl) ?_
    rintro v h ⟨s, rfl, rfl⟩
    refine ⟨_, _, _, _, _, _, rfl, by simp, ?_⟩
    simp only [AEx.thn, AEx.blk]
    refine runs_seq (runs_drw (by simp [lop, loud]; rfl) ?_)
    simp only [AEx.thn, AEx.blk]
    refine runs_ret ?_
    simp

end
end Go.Proofs.YtpebmjeomlgmdaaDoor.Tab

namespace Go.Proofs.YtpebmjeomlgmdaaDoor.Tab
open Go Go.Abs Go.Proofs

theorem check_same (u d l r : Int) (ss : List Stay) : checkI u d l r ss = rcheckI u d l r ss := by
  have h1 : ruleB u d = rB u d := by simp [ruleB, rB, wB, inB]
  have h2 : ∀ a b, moistB a b = spanB a b 0 300 := fun a b => by
    rw [Bool.eq_iff_iff]
    simp only [moistB, spanB, wB, inB, List.all_cons, List.all_nil, Bool.and_true, Bool.and_eq_true, decide_eq_true_eq]
    omega
  have h3 : ∀ a b c, isNoneB a b c = badB a b c := fun a b c => by
    simp [isNoneB, badB, h2, wB, inB]
  unfold checkI rcheckI
  simp only [h1, h2, h3]

theorem step_tw {u d frm room n : Int} (hu : Rate u) (hd : Rate d) (hn : 0 ≤ n) : twI u d (step1 u d frm room) room n = twI u d frm room (n + 1) := by
  have e1 : u * (n + 1) = u * n + u := by rw [Int.mul_add, Int.mul_one]
  have e2 : d * (n + 1) = d * n + d := by rw [Int.mul_add, Int.mul_one]
  have a := Int.mul_nonneg hu.1 hn
  have b := Int.mul_nonneg hd.1 hn
  unfold Rate at hu hd
  unfold twI step1
  rw [e1, e2]
  generalize u * n = p at *
  generalize d * n = q at *
  (repeat' split) <;> omega

theorem tw0 (u d frm room : Int) : twI u d frm room 0 = frm := by
  unfold twI; rw [Int.mul_zero, Int.mul_zero]; split <;> omega

theorem ceil_step {a u : Int} (hu : 0 < u) (ha : 0 ≤ a) : (a + u + u - 1).tdiv u = (a + u - 1).tdiv u + 1 := by
  rw [Int.tdiv_eq_ediv_of_nonneg (by omega), Int.tdiv_eq_ediv_of_nonneg (by omega)]
  rw [show a + u + u - 1 = (a + u - 1) + u * 1 by omega, Int.add_mul_ediv_left _ _ (by omega)]

theorem ceil_one {a u : Int} (h0 : 0 < a) (h1 : a ≤ u) : (a + u - 1).tdiv u = 1 := by
  rw [Int.tdiv_eq_ediv_of_nonneg (by omega)]
  rw [show a + u - 1 = (a - 1) + u * 1 by omega, Int.add_mul_ediv_left _ _ (by omega), Int.ediv_eq_zero_of_lt (by omega) (by omega)]
  rfl

/-- What some hours make of the reference's state. -/
def after (u d rl rh : Int) (n : Nat) (s : RS) : RS :=
  if s.peak < twI u d s.hi rh n then ⟨twI u d s.lo rl n, twI u d s.hi rh n, twI u d s.hi rh n, s.hour + (twI u d s.hi rh n - s.hi + u - 1).tdiv u, s.hour + n⟩
  else ⟨twI u d s.lo rl n, twI u d s.hi rh n, s.peak, s.first, s.hour + n⟩

theorem rHours_after {u d rl rh : Int} (hu : Rate u) (hd : Rate d) : ∀ (n : Nat) (s : RS), s.hi ≤ s.peak → rHours u d rl rh n s = after u d rl rh n s
  | 0, s, hp => by
    have e1 : twI u d s.lo rl (0 : Nat) = s.lo := tw0 _ _ _ _
    have e2 : twI u d s.hi rh (0 : Nat) = s.hi := tw0 _ _ _ _
    simp only [rHours, after, e1, e2]
    rw [if_neg (by omega)]
    simp
  | n + 1, s, hp => by
    have hn : (0 : Int) ≤ n := by omega
    have e1 := step_tw (frm := s.lo) (room := rl) hu hd hn
    have e2 := step_tw (frm := s.hi) (room := rh) hu hd hn
    have hc : ((n + 1 : Nat) : Int) = (n : Int) + 1 := by omega
    have hm := Int.mul_nonneg hu.1 hn
    have hp0 : u = 0 → u * (n : Int) = 0 := fun h => by rw [h, Int.zero_mul]
    have hm2 := Int.mul_nonneg hd.1 hn
    have hhi : (rHour u d rl rh s).hi = step1 u d s.hi rh := by unfold rHour; split <;> rfl
    have hlo : (rHour u d rl rh s).lo = step1 u d s.lo rl := by unfold rHour; split <;> rfl
    have hpk : (rHour u d rl rh s).hi ≤ (rHour u d rl rh s).peak := by unfold rHour; split <;> simp only <;> omega
    have hhr : (rHour u d rl rh s).hour = s.hour + 1 := by unfold rHour; split <;> rfl
    show rHours u d rl rh n (rHour u d rl rh s) = _
    rw [rHours_after hu hd n _ hpk]
    unfold after
    rw [hhi, hlo, hhr, e1, e2, hc]
    -- how the dampest rises
    have rise : step1 u d s.hi rh < twI u d s.hi rh (n + 1) → step1 u d s.hi rh = s.hi + u ∧ 0 < u := by
      intro h
      rw [← e2] at h
      unfold twI at h
      unfold step1 at h ⊢
      unfold Rate at hu hd
      generalize u * n = p at *
      generalize d * n = q at *
      by_cases hc : s.hi < rh
      · simp only [hc, if_true] at h ⊢
        by_cases h5 : min rh (s.hi + u) < rh
        · simp only [h5, if_true] at h; omega
        · simp only [h5, if_false] at h; omega
      · simp only [hc, if_false] at h ⊢
        by_cases h5 : max rh (s.hi - d) < rh
        · simp only [h5, if_true] at h; omega
        · simp only [h5, if_false] at h; omega
    have keep : s.hi < twI u d s.hi rh (n + 1) → step1 u d s.hi rh ≤ twI u d s.hi rh (n + 1) ∧ s.hi < step1 u d s.hi rh ∧ step1 u d s.hi rh ≤ s.hi + u := by
      intro h
      have h' := h
      rw [← e2] at h'
      rw [← e2]
      clear h
      unfold twI at h' ⊢
      unfold step1 at h' ⊢
      unfold Rate at hu hd
      generalize u * n = p at *
      generalize d * n = q at *
      by_cases hc : s.hi < rh
      · simp only [hc, if_true] at h' ⊢
        by_cases h5 : min rh (s.hi + u) < rh
        · simp only [h5, if_true] at h' ⊢; omega
        · simp only [h5, if_false] at h' ⊢; omega
      · simp only [hc, if_false] at h' ⊢
        by_cases h5 : max rh (s.hi - d) < rh
        · simp only [h5, if_true] at h' ⊢; omega
        · simp only [h5, if_false] at h' ⊢; omega
    by_cases h1 : s.peak < step1 u d s.hi rh
    · have hp1 : (rHour u d rl rh s).peak = step1 u d s.hi rh := by unfold rHour; rw [if_pos h1]
      have hf1 : (rHour u d rl rh s).first = s.hour + 1 := by unfold rHour; rw [if_pos h1]
      rw [hp1, hf1]
      by_cases h2 : step1 u d s.hi rh < twI u d s.hi rh (n + 1)
      · obtain ⟨g1, g2⟩ := rise h2
        rw [if_pos h2, if_pos (by omega)]
        have := ceil_step (a := twI u d s.hi rh (n + 1) - step1 u d s.hi rh) g2 (by omega)
        congr 1
        · rw [show twI u d s.hi rh (n + 1) - s.hi + u - 1 = twI u d s.hi rh (n + 1) - step1 u d s.hi rh + u + u - 1 by omega, this]; omega
        · omega
      · rw [if_neg h2]
        have hT : twI u d s.hi rh (n + 1) = step1 u d s.hi rh := by
          -- the dampest does not fall again
          have h3 : s.hi < step1 u d s.hi rh := by omega
          rw [← e2] at h2 ⊢
          unfold twI at h2 ⊢
          unfold step1 at h2 h3 ⊢
          unfold Rate at hu hd
          generalize u * n = p at *
          generalize d * n = q at *
          by_cases hc : s.hi < rh
          · simp only [hc, if_true] at h2 h3 ⊢
            by_cases h5 : min rh (s.hi + u) < rh
            · simp only [h5, if_true] at h2 ⊢; omega
            · simp only [h5, if_false] at h2 ⊢; omega
          · simp only [hc, if_false] at h2 h3 ⊢
            by_cases h5 : max rh (s.hi - d) < rh
            · simp only [h5, if_true] at h2 ⊢; omega
            · simp only [h5, if_false] at h2 ⊢; omega
        rw [hT]
        rw [if_pos h1]
        have hk : s.hi < step1 u d s.hi rh ∧ step1 u d s.hi rh ≤ s.hi + u := by
          have := keep (by rw [hT]; omega)
          omega
        have := ceil_one (a := step1 u d s.hi rh - s.hi) (u := u) (by omega) (by omega)
        congr 1
        · rw [this]
        · omega
    · have hp1 : (rHour u d rl rh s).peak = s.peak := by unfold rHour; rw [if_neg h1]
      have hf1 : (rHour u d rl rh s).first = s.first := by unfold rHour; rw [if_neg h1]
      rw [hp1, hf1]
      by_cases h2 : s.peak < twI u d s.hi rh (n + 1)
      · obtain ⟨g1, g2⟩ := rise (by omega)
        rw [if_pos h2, if_pos h2]
        have := ceil_step (a := twI u d s.hi rh (n + 1) - step1 u d s.hi rh) g2 (by omega)
        congr 1
        · rw [show twI u d s.hi rh (n + 1) - s.hi + u - 1 = twI u d s.hi rh (n + 1) - step1 u d s.hi rh + u + u - 1 by omega, this]; omega
        · omega
      · rw [if_neg h2, if_neg h2]
        congr 1
        omega

/-- The two states. -/
def Like (k : KS) (s : RS) : Prop := k.lo = s.lo ∧ k.hi = s.hi ∧ k.most = s.peak ∧ k.hour = s.first ∧ k.begun = s.hour ∧ s.hi ≤ s.peak ∧ In300 s.lo ∧ In300 s.hi

theorem run_same {u d : Int} (hu : Rate u) (hd : Rate d) : ∀ (ss : List Stay) (k : KS) (s : RS), (∀ t ∈ ss, OkStay t) → Like k s →
    (rRun u d ss s).1 = pRun u d ss (s.lo, s.hi) ∧ (rRun u d ss s).2.peak = (kRun u d ss k).most ∧ (rRun u d ss s).2.first = (kRun u d ss k).hour
  | [], k, s, _, h => ⟨rfl, h.2.2.1.symm, h.2.2.2.1.symm⟩
  | t :: ss, k, s, hss, ⟨h1, h2, h3, h4, h5, h6, h7, h8⟩ => by
    obtain ⟨o1, o2, o3, o4⟩ := hss t (by simp)
    have hn : (t.2.2.toNat : Int) = t.2.2 := by omega
    have e := rHours_after (rl := t.1) (rh := t.2.1) hu hd t.2.2.toNat s h6
    have i1 := twI_in (frm := s.lo) hu hd h7 o1 o3 o4
    have i2 := twI_in (frm := s.hi) hu hd h8 o2 o3 o4
    have w1 := tw_twI (room := t.1) hu hd h7 o3 o4
    have w2 := tw_twI (room := t.2.1) hu hd h8 o3 o4
    have hl : Like (kStay u d t k) (rHours u d t.1 t.2.1 t.2.2.toNat s) := by
      rw [e]
      unfold after kStay
      rw [hn, h1, h2, h3, h4, h5]
      split <;> exact ⟨rfl, rfl, rfl, rfl, rfl, by simp only <;> omega, i1, i2⟩
    have ih := run_same hu hd ss _ _ (fun t ht => hss t (by simp [ht])) hl
    have elo : (rHours u d t.1 t.2.1 t.2.2.toNat s).lo = twI u d s.lo t.1 t.2.2 := by rw [e]; unfold after; rw [hn]; split <;> rfl
    have ehi : (rHours u d t.1 t.2.1 t.2.2.toNat s).hi = twI u d s.hi t.2.1 t.2.2 := by rw [e]; unfold after; rw [hn]; split <;> rfl
    simp only [rRun, pRun, w1, w2]
    rw [elo, ehi] at ih ⊢
    exact ⟨by rw [ih.1], ih.2.1, ih.2.2⟩

end Go.Proofs.YtpebmjeomlgmdaaDoor.Tab

namespace Go.Proofs.YtpebmjeomlgmdaaDoor.Tab
open Go Go.Abs Go.Proofs
set_option maxRecDepth 100000
section
attribute [local simp] frz_int frz_bool frz_vl frz_pv frz_agg frz_tup frz_fn frz_ref frz_sl frz_nils optAll orcF rb_int rb_bool rb_agg rb_tup rb_int' rb_bool' rb_vl rb_pv rb_yld rb_nilf rb_nilp rb_nils rb_any rb_und rb_ref rb_sl rb_fn slE chunk fillA evParts evParts3 putAt List.range_succ List.range_zero List.range'_succ List.range'_zero runX_nil' unary_not evalS_pure evAll_nil evAll_cons runX_cons stepX wantedA dop CV.ev cellsOf putK_eq setK_eq appK_eq fA_eq fI_eq fN_eq fRow_eq fRows_eq nth_eq Out.v putT List.replicate_succ AEx.thn AEx.blk arI pointee Abs.rowAt ldRow allV toV toC ofV ofC Builtin.min_ Builtin.min2 Builtin.max_ Builtin.max2 min_if max_if resA tupA kill trim_self trim_len trim_emp trim_nil lenA
attribute [local simp] runD_nil' runD_cons' stepD actK_eq actD clash disj masks holes maskH unmaskH diffs news eqB allB eqA ldRowN wrote toCs ofCs stA storable rowsV_vl rowsV_nils rowsOf dI1 dI2 dI3 dI5 elt
def okB (u d l h : Int) (ss : List Stay) : Bool := rcheckI u d l h ss == 0
def o19 : List AVal → Option AVal
  | [.agg [.int .i64 u, .int .i64 d], .agg [.int .i64 l, .int .i64 h], x] => match rowsV x with
    | some rs => match optAll dI3 rs with
      | some ss => if okB u d l h ss then some (.tup [.vl ((rRun u d ss ⟨l, h, h, 0, 0⟩).1.map fun p => [I p.1, I p.2]) (rRun u d ss ⟨l, h, h, 0, 0⟩).1.isEmpty, I (rRun u d ss ⟨l, h, h, 0, 0⟩).2.peak, I (rRun u d ss ⟨l, h, h, 0, 0⟩).2.first]) else none
      | none => none
    | none => none
  | _ => none
def o15 : List AVal → Option AVal
  | [.agg [.int .i64 u, .int .i64 d], .agg [.int .i64 l, .int .i64 h], x] => match rowsV x with
    | some rs => match optAll dI3 rs with
      | some ss => if ss.length ≤ 1000 then some (.tup [outV (if checkI u d l h ss = 0 then pRun u d ss (l, h) else []), I (checkI u d l h ss)]) else none
      | none => none
    | none => none
  | _ => none
def o16 : List AVal → Option AVal
  | [.agg [.int .i64 u, .int .i64 d], .agg [.int .i64 l, .int .i64 h], x] => match rowsV x with
    | some rs => match optAll dI3 rs with
      | some ss => if ss.length ≤ 1000 then some (if checkI u d l h ss = 0 then .tup [I (kRun u d ss ⟨l, h, h, 0, 0⟩).most, I (kRun u d ss ⟨l, h, h, 0, 0⟩).hour, I 0] else .tup [I 0, I 0, I (checkI u d l h ss)]) else none
      | none => none
    | none => none
  | _ => none
def liesB (l h a b : Int) : Bool := decide (a ≤ l) && decide (h ≤ b)
def o62 : List AVal → Option AVal
  | [.agg [.int .i64 l, .int .i64 h], .agg [.int .i64 a, .int .i64 b]] => some (.bool (liesB l h a b))
  | _ => none

theorem a62 (P : Program) (T : Nat → Option CFn) (hT : T 62 = some c62) (l r a b : Int) : Answers P T 62 [.agg [I l, I r], .agg [I a, I b]] [] fun v h => v = .bool (liesB l r a b) ∧ h = [] := by
  refine answers_of hT (orcF_none rfl) ?_
  simp only [c62]
  refine runs_seq (runs_reg (ops_run (by simp; rfl) ?_))
  simp only [AEx.thn, AEx.blk]
  unfold liesB
  by_cases hx : a ≤ l
  · refine runs_seq (runs_reg (ops_run (by simp [hx]; rfl) ?_))
    simp only [AEx.thn, AEx.blk]
    refine runs_ret ?_
    simp [hx]
  · refine runs_seq (runs_reg (ops_run (by simp [hx]; rfl) ?_))
    simp only [AEx.thn, AEx.blk]
    refine runs_ret ?_
    simp [hx]
noncomputable def TI1_15 : Nat → Option CFn := upd TE 15 true (o15)
theorem TI1_15_ok : TabOk Tryd.prog GG TI1_15 := tab_add mixed TE_ok fun args v ho => by
  unfold o15 at ho; split at ho <;> (try simp at ho)
  rename_i u d l r x
  split at ho <;> (try simp at ho)
  rename_i rs hx
  split at ho <;> (try simp at ho)
  rename_i xs hxs
  obtain ⟨hl, rfl⟩ := ho
  have e := optAll_eq dI3_eq hxs
  subst e
  exact a15 Tryd.prog TE rfl rfl rfl rfl rfl u d l r x xs hx hl
noncomputable def TI1_16 : Nat → Option CFn := upd TI1_15 16 true (o16)
theorem TI1_16_ok : TabOk Tryd.prog GG TI1_16 := tab_add mixed TI1_15_ok fun args v ho => by
  unfold o16 at ho; split at ho <;> (try simp at ho)
  rename_i u d l r x
  split at ho <;> (try simp at ho)
  rename_i rs hx
  split at ho <;> (try simp at ho)
  rename_i xs hxs
  obtain ⟨hl, rfl⟩ := ho
  have e := optAll_eq dI3_eq hxs
  subst e
  refine (a16 Tryd.prog TI1_15 rfl rfl rfl rfl rfl u d l r x xs hx hl).mono ?_
  rintro v h ⟨rfl, rfl⟩
  split <;> simp [frz_tup, frz_int, optAll]
noncomputable def TI1_19 : Nat → Option CFn := upd TI1_16 19 true (o19)
theorem TI1_19_ok : TabOk Tryd.prog GG TI1_19 := tab_add mixed TI1_16_ok fun args v ho => by
  unfold o19 at ho; split at ho <;> (try simp at ho)
  rename_i u d l r x
  split at ho <;> (try simp at ho)
  rename_i rs hx
  split at ho <;> (try simp at ho)
  rename_i xs hxs
  obtain ⟨hl, rfl⟩ := ho
  have e := optAll_eq dI3_eq hxs
  subst e
  have hc : checkI u d l r xs = 0 := by rw [check_same]; simpa [okB] using hl
  obtain ⟨h1, h2, h3, h4, _, h5, h6⟩ := checkI_ok hc
  exact a19 TI1_16 rfl rfl u d l r x xs hx h5 h1 h2 h3 h4 (fun t ht => (h6 t ht).1) Tryd.prog
noncomputable def TI1 : Nat → Option CFn := upd TI1_19 62 true (o62)
theorem TI1_ok : TabOk Tryd.prog GG TI1 := tab_add mixed TI1_19_ok fun args v ho => by
  unfold o62 at ho; split at ho <;> simp at ho
  rename_i a b c e
  subst ho
  refine (a62 Tryd.prog TI1_19 rfl a b c e).mono ?_
  rintro v h ⟨rfl, rfl⟩
  rfl
/-- Hours, round by round. -/
def hRun (u d sl sh rl rh ll lh : Int) : Nat → Int → Int
  | 0, n => n
  | f + 1, n => if liesB (tw u d sl rl (n + 1)) (tw u d sh rh (n + 1)) ll lh then hRun u d sl sh rl rh ll lh f (n + 1) else n
def hoursE (u d sl sh rl rh ll lh : Int) : Int := if !ruleB u d then 2 else if !(moistB sl sh && (moistB rl rh && moistB ll lh)) then 3 else if !liesB sl sh ll lh then 9 else 0
def o21 : List AVal → Option AVal
  | [.agg [.int .i64 u, .int .i64 d], .agg [.int .i64 sl, .int .i64 sh], .agg [.int .i64 rl, .int .i64 rh], .agg [.int .i64 ll, .int .i64 lh]] =>
    some (.tup [I (if hoursE u d sl sh rl rh ll lh = 0 then hRun u d sl sh rl rh ll lh 500 0 else 0), I (hoursE u d sl sh rl rh ll lh)])
  | _ => none

theorem a21 (P : Program) (T : Nat → Option CFn) (hT : T 21 = some c21) (h57 : T 57 = some { c57 with frsh := true, orc := o57 }) (h55 : T 55 = some { c55 with frsh := true, orc := o55 }) (h62 : T 62 = some { c62 with frsh := true, orc := o62 }) (h63 : T 63 = some { c63 with frsh := true, orc := o63 }) (u d sl sh rl rh ll lh : Int) :
    Answers P T 21 [.agg [I u, I d], .agg [I sl, I sh], .agg [I rl, I rh], .agg [I ll, I lh]] [] fun v h => v = .tup [I (if hoursE u d sl sh rl rh ll lh = 0 then hRun u d sl sh rl rh ll lh 500 0 else 0), I (hoursE u d sl sh rl rh ll lh)] ∧ h = [] := by
  unfold hoursE
  refine answers_of hT (orcF_none rfl) ?_
  simp only [c21]
  refine runs_seq (runs_reg (ops_run (by simp; rfl) ?_))
  simp only [AEx.thn, AEx.blk]
  refine runs_seq (runs_block ?_)
  refine runs_seq (runs_reg (ops_run (by simp [lop, loud, callA, calleeA, callF_step h57, h57, o57]; rfl) ?_))
  simp only [AEx.thn, AEx.blk]
  refine runs_cond_split (x := !ruleB u d) (by simp) (fun h1 => ?_) (fun h1 => ?_)
  · refine runs_seq (runs_reg (ops_run (by simp; rfl) ?_))
    simp only [AEx.thn, AEx.blk]
    refine runs_ret ?_
    simp [h1]
  refine runs_seq (runs_reg (ops_run (by simp [lop, loud, callA, calleeA, callF_step h55, h55, o55]; rfl) ?_))
  simp only [AEx.thn, AEx.blk]
  refine runs_cond_split (x := !(moistB sl sh && (moistB rl rh && moistB ll lh))) (by simp) (fun h2 => ?_) (fun h2 => ?_)
  · refine runs_seq (runs_reg (ops_run (by simp; rfl) ?_))
    simp only [AEx.thn, AEx.blk]
    refine runs_ret ?_
    rw [h1, h2]
    simp
  refine runs_seq (runs_reg (ops_run (by simp [lop, loud, callA, calleeA, callF_step h62, h62, o62]; rfl) ?_))
  simp only [AEx.thn, AEx.blk]
  refine runs_cond_split (x := !liesB sl sh ll lh) (by simp) (fun h3 => ?_) (fun h3 => ?_)
  · refine runs_seq (runs_reg (ops_run (by simp; rfl) ?_))
    simp only [AEx.thn, AEx.blk]
    refine runs_ret ?_
    rw [h1, h2, h3]
    simp
  refine runs_skip ?_
  simp only [AEx.thn, AEx.blk]
  rw [h1, h2, h3]
  simp only [Bool.false_eq_true, if_false, if_true]
  refine runs_seq (runs_reg (ops_run (by simp; rfl) ?_))
  simp only [AEx.thn, AEx.blk]
  generalize hR : hRun u d sl sh rl rh ll lh 500 0 = R
  refine runs_seq (runs_block ?_)
  refine runs_loop_inv (fun m σ => ∃ (k : Nat) (n : Int), n = k ∧ m = 500 - k ∧ k ≤ 500 ∧ hRun u d sl sh rl rh ll lh (500 - k) n = R ∧
    σ = ⟨[.any, .any, .any, .any, .ref 0 0 0, .ref 1 0 0, .ref 2 0 0, .ref 3 0 0, .any, .any, I n, .any, .any, .any, .any, .any, .any, .any, .any, .any, .any, .any, .any, .any, .any, .any, .any, .any, .any, .any, .any, .any, .any, .any, .any, .any, .any, .any, .any, .any, .any, .any, .any, .any], [some (.row 2 [[I u, I d]]), some (.row 2 [[I sl, I sh]]), some (.row 2 [[I rl, I rh]]), some (.row 2 [[I ll, I lh]]), some (.row 2 [[I sl, I sh], [I rl, I rh], [I ll, I lh]])]⟩) ?_ (500 - 0) _ ⟨0, 0, rfl, rfl, Nat.zero_le _, hR, by simp⟩
  clear hR
  rintro m σ ⟨k, n, hnk, rfl, hk, hrun, rfl⟩
  have hw : W .i64 (n + 1) = n + 1 := W_small (by omega)
  by_cases hn : n < 500
  · refine runs_seq (runs_seq (runs_drw (by simp [hn, hw, lop, loud, callA, calleeA, callF_step h62, h62, callF_step h63, h63, o62, o63]; rfl) ?_))
    simp only [AEx.thn, AEx.blk]
    rw [show 500 - k = (500 - (k + 1)) + 1 by omega] at hrun
    refine runs_cond_split (x := liesB (tw u d sl rl (n + 1)) (tw u d sh rh (n + 1)) ll lh) (by simp) (fun h4 => ?_) (fun h4 => ?_)
    · refine runs_skip ?_
      simp only [AEx.thn, AEx.blk]
      refine runs_block (runs_reg (ops_run (by simp [hw]; rfl) ?_))
      simp only [AEx.thn, AEx.blk]
      rw [hRun, if_pos h4] at hrun
      refine ⟨500 - (k + 1), by omega, k + 1, n + 1, by omega, rfl, by omega, hrun, ?_⟩
      simp [trim, rbB]
    · refine runs_exit ?_
      simp only [AEx.thn, AEx.blk, if_true]
      rw [hRun, h4] at hrun
      simp only [Bool.false_eq_true, if_false] at hrun
      rw [← hrun]
      refine runs_seq (runs_reg (ops_run (by simp; rfl) ?_))
      simp only [AEx.thn, AEx.blk]
      refine runs_ret ?_
      simp
  · have hk5 : k = 500 := by omega
    subst hk5
    refine runs_seq (runs_seq (runs_drw (by simp [hn]; rfl) ?_))
    simp only [AEx.thn, AEx.blk]
    refine runs_cond (x := false) (by simp) ?_
    refine runs_exit ?_
    simp only [AEx.thn, AEx.blk, if_true]
    simp only [Nat.sub_self, hRun] at hrun
    rw [← hrun]
    refine runs_seq (runs_reg (ops_run (by simp; rfl) ?_))
    simp only [AEx.thn, AEx.blk]
    refine runs_ret ?_
    simp
noncomputable def TI : Nat → Option CFn := upd TI1 21 true (o21)
theorem TI_ok : TabOk Tryd.prog GG TI := tab_add mixed TI1_ok fun args v ho => by
  unfold o21 at ho; split at ho <;> simp at ho
  rename_i a b c e f g h i
  subst ho
  refine (a21 Tryd.prog TI1 rfl rfl rfl rfl rfl a b c e f g h i).mono ?_
  rintro v h ⟨rfl, rfl⟩
  simp [frz_tup, frz_int, optAll]
end
end Go.Proofs.YtpebmjeomlgmdaaDoor.Tab
