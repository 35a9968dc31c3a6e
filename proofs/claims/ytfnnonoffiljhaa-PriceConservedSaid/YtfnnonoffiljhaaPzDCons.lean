/- Contracts of books: slips, where none is found. No condition. -/
import Derived.Test.YtfnnonoffiljhaaPzCCons
import Derived.Test.YtfnnonoffiljhaaPzBCons
set_option linter.unusedSimpArgs false
set_option linter.unusedVariables false
namespace Go.Proofs.Ytfnnonoffiljhaa.Tab
open Go Go.Abs Go.Proofs
set_option maxRecDepth 100000
set_option maxHeartbeats 4000000
set_option linter.unusedSimpArgs false
set_option linter.unusedVariables false
section
attribute [local simp] frz_int frz_bool frz_vl frz_pv frz_agg frz_tup frz_fn frz_ref frz_sl frz_nils optAll orcF rb_int rb_bool rb_agg rb_tup rb_int' rb_bool' rb_vl rb_pv rb_yld rb_nilf rb_nilp rb_nils rb_any rb_und rb_ref rb_sl rb_fn slE chunk fillA evParts evParts3 putAt List.range_succ List.range_zero List.range'_succ List.range'_zero runX_nil' unary_not evalS_pure evAll_nil evAll_cons runX_cons stepX wantedA dop CV.ev putK_eq setK_eq appK_eq fA_eq fI_eq fN_eq fRow_eq fRows_eq nth_eq Out.v putT List.replicate_succ AEx.thn AEx.blk arI pointee Abs.rowAt ldRow allV toV toC ofV ofC Builtin.min_ Builtin.min2 Builtin.max_ Builtin.max2 min_if max_if resA tupA kill trim_self trim_len trim_emp trim_nil lenA
attribute [local simp] runD_nil' runD_cons' stepD actK_eq actD clash disj masks holes maskH unmaskH diffs news eqB allB eqA ldRowN wrote toCs ofCs stA rowsV_vl rowsV_nils rowsOf dI1 dI2 dI3 dI5 elt
attribute [local simp] st_any st_und st_agg st_tup st_bool st_int st_nilp st_ref st_pv st_nils st_sl st_vl st_nilm st_mp st_fn st_nilf st_yld co_any co_und co_agg co_tup co_bool co_int co_nilp co_ref co_pv co_nils co_sl co_vl co_nilm co_mp co_fn co_nilf co_yld
theorem a96 (P : Program) (T : Nat → Option CFn) (hT : T 96 = some c96) (h107 : T 107 = some c107) (x y : AVal) (xs ys : List Int) (tq : Bool) (hx : rowsV x = some (xs.map rI)) (hy : rowsV y = some (ys.map rI)) (hx0 : xs ≠ []) (hy0 : ys ≠ []) (hl : xs.length ≤ 1000 ∧ ys.length ≤ 1000) :
    Answers P T 96 [.vl [[x], [y]] tq] [] fun v h => frz true h 5 v = some (.vl ((xs ++ ys).map rI) false) := by
  obtain ⟨tx, rfl⟩ : ∃ t, x = .vl (xs.map rI) t := (rowsV_cases hx).resolve_left fun h => hx0 (by simpa using h.2)
  obtain ⟨ty, rfl⟩ : ∃ t, y = .vl (ys.map rI) t := (rowsV_cases hy).resolve_left fun h => hy0 (by simpa using h.2)
  have lxp : 0 < xs.length := List.length_pos_iff.2 hx0
  have lyp : 0 < ys.length := List.length_pos_iff.2 hy0
  have e1 : W .i64 (0 + (xs.length : Int)) = xs.length := by rw [Int.zero_add]; exact W_small (by omega)
  have e1' : W .i64 (xs.length : Int) = xs.length := W_small (by omega)
  have e2 : W .i64 ((xs.length : Int) + (ys.length : Int)) = (xs.length : Int) + (ys.length : Int) := W_small (by omega)
  have n1 : ¬ (xs.length : Int) < 0 := by omega
  have n2 : ¬ (xs.length : Int) + (ys.length : Int) < 0 := by omega
  have i1 : W .i64 1 = 1 := by decide
  have i2 : W .i64 2 = 2 := by decide
  have l1 : xs.length ≤ 1048576 := by omega
  have l2 : xs.length + ys.length ≤ 1048576 := by omega
  have tk : (xs.map rI).take xs.length = xs.map rI := List.take_of_length_le (by simp)
  refine answers_of hT (orcF_none rfl) ?_
  simp only [c96]
  refine runs_seq ?_
  refine runs_reg (ops_run (by simp [lop, loud, callA, calleeA, e1, e1', e2, n1, n2, i1, i2]; rfl) ?_)
  simp only [AEx.thn, AEx.blk]
  refine runs_seq ?_
  refine runs_reg (ops_run (by simp [lop, loud, callA, calleeA, e1, e1', e2, n1, n2, i1, i2]; rfl) ?_)
  simp only [AEx.thn, AEx.blk]
  refine runs_seq ?_
  refine runs_seq ?_
  refine runs_reg (ops_run (by simp [lop, loud, callA, calleeA, e1, e1', e2, n1, n2, i1, i2]; rfl) ?_)
  simp only [AEx.thn, AEx.blk]
  refine runs_block ?_
  refine runs_loop_inv (fun m σ => ∃ (k : Nat) (i sz : Int), 2 - k = m ∧ i = k ∧ k ≤ 2 ∧ ((k = 0 ∧ sz = 0) ∨ (k = 1 ∧ sz = xs.length) ∨ (k = 2 ∧ sz = (xs.length : Int) + (ys.length : Int))) ∧ σ = ⟨[.vl [[.vl (xs.map rI) tx], [.vl (ys.map rI) ty]] tq, .any, .any, I sz, .any, .any, .any, .any, .any, .vl [[.vl (xs.map rI) tx], [.vl (ys.map rI) ty]] tq, I 2, I i, .any, .any, .any, .any, .any, .any, .any, .any, .any, .any, .any, .any, .any, .any, .any, .any, .any, .any, .any, .any, .any, .any, .any, .any], []⟩) ?_ 2 _ ⟨0, 0, 0, rfl, rfl, by decide, .inl ⟨rfl, rfl⟩, by simp⟩
  rintro m σ ⟨k, i, sz, rfl, rfl, hk, ⟨rfl, rfl⟩ | ⟨rfl, rfl⟩ | ⟨rfl, rfl⟩, rfl⟩
  · refine runs_seq ?_
    refine runs_reg (ops_run (by simp [lop, loud, callA, calleeA, e1, e1', e2, n1, n2, i1, i2]; rfl) ?_)
    simp only [AEx.thn, AEx.blk]
    refine runs_seq ?_
    refine runs_cond (x := true) (by simp) ?_
    refine runs_skip ?_
    simp only [AEx.thn, AEx.blk]
    refine runs_seq ?_
    refine runs_block ?_
    refine runs_seq ?_
    refine runs_reg (ops_run (by simp [lop, loud, callA, calleeA, e1, e1', e2, n1, n2, i1, i2]; rfl) ?_)
    simp only [AEx.thn, AEx.blk]
    refine runs_seq ?_
    refine runs_reg (ops_run (by simp [lop, loud, callA, calleeA, e1, e1', e2, n1, n2, i1, i2]; rfl) ?_)
    simp only [AEx.thn, AEx.blk]
    refine runs_seq ?_
    refine runs_reg (ops_run (by simp [lop, loud, callA, calleeA, e1, e1', e2, n1, n2, i1, i2]; rfl) ?_)
    simp only [AEx.thn, AEx.blk]
    refine runs_cond (x := false) (by simp) ?_
    refine runs_skip ?_
    simp only [AEx.thn, AEx.blk]
    refine runs_reg (ops_run (by simp [lop, loud, callA, calleeA, e1, e1', e2, n1, n2, i1, i2]; rfl) ?_)
    simp only [AEx.thn, AEx.blk]
    exact ⟨1, by decide, 1, 1, _, rfl, rfl, by decide, .inr (.inl ⟨rfl, rfl⟩), by simp [lop, loud, callA, calleeA, e1, e1', e2, n1, n2, i1, i2]⟩
  · refine runs_seq ?_
    refine runs_reg (ops_run (by simp [lop, loud, callA, calleeA, e1, e1', e2, n1, n2, i1, i2]; rfl) ?_)
    simp only [AEx.thn, AEx.blk]
    refine runs_seq ?_
    refine runs_cond (x := true) (by simp) ?_
    refine runs_skip ?_
    simp only [AEx.thn, AEx.blk]
    refine runs_seq ?_
    refine runs_block ?_
    refine runs_seq ?_
    refine runs_reg (ops_run (by simp [lop, loud, callA, calleeA, e1, e1', e2, n1, n2, i1, i2]; rfl) ?_)
    simp only [AEx.thn, AEx.blk]
    refine runs_seq ?_
    refine runs_reg (ops_run (by simp [lop, loud, callA, calleeA, e1, e1', e2, n1, n2, i1, i2]; rfl) ?_)
    simp only [AEx.thn, AEx.blk]
    refine runs_seq ?_
    refine runs_reg (ops_run (by simp [lop, loud, callA, calleeA, e1, e1', e2, n1, n2, i1, i2]; rfl) ?_)
    simp only [AEx.thn, AEx.blk]
    refine runs_cond (x := false) (by simp) ?_
    refine runs_skip ?_
    simp only [AEx.thn, AEx.blk]
    refine runs_reg (ops_run (by simp [lop, loud, callA, calleeA, e1, e1', e2, n1, n2, i1, i2]; rfl) ?_)
    simp only [AEx.thn, AEx.blk]
    exact ⟨0, by decide, 2, 2, _, rfl, rfl, by decide, .inr (.inr ⟨rfl, rfl⟩), by simp [lop, loud, callA, calleeA, e1, e1', e2, n1, n2, i1, i2]⟩
  · refine runs_seq ?_
    refine runs_reg (ops_run (by simp [lop, loud, callA, calleeA, e1, e1', e2, n1, n2, i1, i2]; rfl) ?_)
    simp only [AEx.thn, AEx.blk]
    refine runs_seq ?_
    refine runs_cond (x := false) (by simp) ?_
    refine runs_exit ?_
    simp only [AEx.thn, AEx.blk, if_true, if_false, reduceIte, Nat.reduceEqDiff, Nat.succ_ne_zero, Nat.one_ne_zero, Nat.zero_ne_one]
    refine runs_seq ?_
    refine runs_reg (ops_take 1 (by simp; rfl) ?_)
    simp only [List.drop_succ_cons, List.drop_zero]
    refine ops_call (f := 107) (args := [.nils, I ((xs.length + ys.length : Nat) : Int)]) (by simp) (by simp) (by simp [lop]) (by simp [calleeA]) ?_
    refine (a107 P T h107 (xs.length + ys.length) (by omega)).mono ?_
    rintro v h' ⟨rfl, rfl⟩
    refine ops_run (by simp; rfl) ?_
    simp only [AEx.thn, AEx.blk]
    refine runs_seq ?_
    refine runs_seq ?_
    refine runs_reg (ops_run (by simp [lop, loud, callA, calleeA, e1, e1', e2, n1, n2, i1, i2]; rfl) ?_)
    simp only [AEx.thn, AEx.blk]
    refine runs_block ?_
    refine runs_loop_inv (fun m σ => ∃ (k : Nat) (i : Int) (v : AVal) (g : Heap), 2 - k = m ∧ i = k ∧ k ≤ 2 ∧ ((k = 0 ∧ v = .sl 0 0 0 false ∧ g = [some (.row 1 (List.replicate (xs.length + ys.length) [I 0]))]) ∨ (k = 1 ∧ v = .sl 1 0 xs.length false ∧ g = [none, some (.row 1 (xs.map rI))]) ∨ (k = 2 ∧ v = .sl 2 0 (xs.length + ys.length) false ∧ g = [none, none, some (.row 1 ((xs ++ ys).map rI))])) ∧ σ = ⟨[.any, .any, .any, .any, .any, .any, v, .any, .any, .any, .any, .any, .any, .any, .any, .any, .any, .any, .any, .any, .any, .any, .any, .any, .any, .vl [[.vl (xs.map rI) tx], [.vl (ys.map rI) ty]] tq, I 2, I i, .any, .any, .any, .any, .any, .any, .any, .any], g⟩) ?_ 2 _ ⟨0, 0, _, _, rfl, rfl, by decide, .inl ⟨rfl, rfl, rfl⟩, by simp⟩
    rintro m σ ⟨k, i, v, g, rfl, rfl, hk, ⟨rfl, rfl, rfl⟩ | ⟨rfl, rfl, rfl⟩ | ⟨rfl, rfl, rfl⟩, rfl⟩
    · refine runs_seq ?_
      refine runs_reg (ops_run (by simp [lop, loud, callA, calleeA, e1, e1', e2, n1, n2, i1, i2, hx0, hy0, l1, l2, tk, lim, slE, rI, List.all_map, Function.comp_def]; rfl) ?_)
      simp only [AEx.thn, AEx.blk]
      refine runs_seq ?_
      refine runs_cond (x := true) (by simp) ?_
      refine runs_skip ?_
      simp only [AEx.thn, AEx.blk]
      refine runs_seq ?_
      refine runs_block ?_
      refine runs_seq ?_
      refine runs_reg (ops_run (by simp [lop, loud, callA, calleeA, e1, e1', e2, n1, n2, i1, i2, hx0, hy0, l1, l2, tk, lim, slE, rI, List.all_map, Function.comp_def]; rfl) ?_)
      simp only [AEx.thn, AEx.blk]
      refine runs_reg (ops_run (by simp [lop, loud, callA, calleeA, e1, e1', e2, n1, n2, i1, i2, hx0, hy0, l1, l2, tk, lim, slE, rI, List.all_map, Function.comp_def]; rfl) ?_)
      simp only [AEx.thn, AEx.blk]
      refine runs_reg (ops_run (by simp [lop, loud, callA, calleeA, e1, e1', e2, n1, n2, i1, i2, hx0, hy0, l1, l2, tk, lim, slE, rI, List.all_map, Function.comp_def]; rfl) ?_)
      simp only [AEx.thn, AEx.blk]
      refine ⟨1, by decide, 1, 1, _, _, rfl, rfl, by decide, .inr (.inl ⟨rfl, rfl, rfl⟩), ?_⟩
      simp [trim, rbB_row, rbB_none, lop, loud, callA, calleeA, e1, e1', e2, n1, n2, i1, i2, hx0, hy0, l1, l2, tk, lim, slE, rI, List.all_map, Function.comp_def]
    · refine runs_seq ?_
      refine runs_reg (ops_run (by simp [lop, loud, callA, calleeA, e1, e1', e2, n1, n2, i1, i2, hx0, hy0, l1, l2, tk, lim, slE, rI, List.all_map, Function.comp_def]; rfl) ?_)
      simp only [AEx.thn, AEx.blk]
      refine runs_seq ?_
      refine runs_cond (x := true) (by simp) ?_
      refine runs_skip ?_
      simp only [AEx.thn, AEx.blk]
      refine runs_seq ?_
      refine runs_block ?_
      refine runs_seq ?_
      refine runs_reg (ops_run (by simp [lop, loud, callA, calleeA, e1, e1', e2, n1, n2, i1, i2, hx0, hy0, l1, l2, tk, lim, slE, rI, List.all_map, Function.comp_def]; rfl) ?_)
      simp only [AEx.thn, AEx.blk]
      refine runs_reg (ops_run (by simp [lop, loud, callA, calleeA, e1, e1', e2, n1, n2, i1, i2, hx0, hy0, l1, l2, tk, lim, slE, rI, List.all_map, Function.comp_def]; rfl) ?_)
      simp only [AEx.thn, AEx.blk]
      refine runs_reg (ops_run (by simp [lop, loud, callA, calleeA, e1, e1', e2, n1, n2, i1, i2, hx0, hy0, l1, l2, tk, lim, slE, rI, List.all_map, Function.comp_def]; rfl) ?_)
      simp only [AEx.thn, AEx.blk]
      refine ⟨0, by decide, 2, 2, _, _, rfl, rfl, by decide, .inr (.inr ⟨rfl, rfl, rfl⟩), ?_⟩
      simp [trim, rbB_row, rbB_none, lop, loud, callA, calleeA, e1, e1', e2, n1, n2, i1, i2, hx0, hy0, l1, l2, tk, lim, slE, rI, List.all_map, Function.comp_def]
    · refine runs_seq ?_
      refine runs_reg (ops_run (by simp [lop, loud, callA, calleeA, e1, e1', e2, n1, n2, i1, i2, hx0, hy0, l1, l2, tk, lim, slE, rI, List.all_map, Function.comp_def]; rfl) ?_)
      simp only [AEx.thn, AEx.blk]
      refine runs_seq ?_
      refine runs_cond (x := false) (by simp) ?_
      refine runs_exit ?_
      simp only [AEx.thn, AEx.blk, if_true, if_false, reduceIte, Nat.reduceEqDiff, Nat.succ_ne_zero, Nat.one_ne_zero, Nat.zero_ne_one]
      refine runs_seq ?_
      refine runs_reg (ops_run (by simp [lop, loud, callA, calleeA, e1, e1', e2, n1, n2, i1, i2, hx0, hy0, l1, l2, tk, lim, slE, rI, List.all_map, Function.comp_def]; rfl) ?_)
      simp only [AEx.thn, AEx.blk]
      refine runs_ret ?_
      refine ⟨by simp, _, by simp; rfl, ?_⟩
      have e : frz true [none, none, some (.row 1 ((xs ++ ys).map rI))] 5 (.sl 2 0 (xs.length + ys.length) false) = some (.vl ((xs ++ ys).map rI) false) := frz_row true _ 4 2 _ 1 false _ rfl (by simp) (frz_rows true _ 3 _ fun r hr z hz => by
        obtain ⟨a, _, rfl⟩ := List.mem_map.1 hr
        simp [rI] at hz; subst hz; rfl)
      rw [List.map_append] at e
      simp [trim, -frz_sl, e]
def oConcat : List AVal → Option AVal
  | [.vl [[x], [y]] _] => match rowsV x, rowsV y with
    | some rx, some ry => match optAll dI1 rx, optAll dI1 ry with
      | some xs, some ys => if xs ≠ [] ∧ ys ≠ [] ∧ xs.length ≤ 1000 ∧ ys.length ≤ 1000 then some (.vl ((xs ++ ys).map rI) false) else none
      | _, _ => none
    | _, _ => none
  | _ => none
theorem dI1_rI (xs : List Int) : optAll dI1 (xs.map rI) = some xs := optAll_map (d := dI1) (enc := rI) (fun _ => rfl) xs
theorem oConcat_eq {x y : AVal} {xs ys : List Int} (t : Bool) (hx : rowsV x = some (xs.map rI)) (hy : rowsV y = some (ys.map rI)) (hx0 : xs ≠ []) (hy0 : ys ≠ []) (hl : xs.length ≤ 1000 ∧ ys.length ≤ 1000) : oConcat [.vl [[x], [y]] t] = some (.vl ((xs ++ ys).map rI) false) := by
  simp only [oConcat, hx, hy, dI1_rI]
  rw [if_pos ⟨hx0, hy0, hl⟩]
noncomputable def PP4 : Nat → Option CFn := upd PP3 96 true (oConcat)
theorem PP4_ok : TabOk Try.prog GG PP4 := tab_add mixed PP3_ok fun args v ho => by
  unfold oConcat at ho; split at ho <;> (try simp at ho)
  rename_i x y t
  split at ho <;> (try simp at ho)
  rename_i rx ry hx hy
  split at ho <;> (try simp at ho)
  rename_i xs ys h1 h2
  obtain ⟨⟨h3, h4, h5⟩, rfl⟩ := ho
  have e1 := optAll_eq dI1_eq h1
  have e2 := optAll_eq dI1_eq h2
  subst e1 e2
  exact (a96 Try.prog PP3 rfl rfl x y xs ys t hx hy h3 h4 h5).mono fun v h e => by simpa using e
end
end Go.Proofs.Ytfnnonoffiljhaa.Tab

namespace Go.Proofs.Ytfnnonoffiljhaa.Tab
open Go Go.Abs Go.Proofs
set_option maxRecDepth 100000
set_option maxHeartbeats 4000000
set_option linter.unusedSimpArgs false
set_option linter.unusedVariables false
section
attribute [local simp] frz_int frz_bool frz_vl frz_pv frz_agg frz_tup frz_fn frz_ref frz_sl frz_nils optAll orcF rb_int rb_bool rb_agg rb_tup rb_int' rb_bool' rb_vl rb_pv rb_yld rb_nilf rb_nilp rb_nils rb_any rb_und rb_ref rb_sl rb_fn slE chunk fillA evParts evParts3 putAt List.range_succ List.range_zero List.range'_succ List.range'_zero runX_nil' unary_not evalS_pure evAll_nil evAll_cons runX_cons stepX wantedA dop CV.ev putK_eq setK_eq appK_eq fA_eq fI_eq fN_eq fRow_eq fRows_eq nth_eq Out.v putT List.replicate_succ AEx.thn AEx.blk arI pointee Abs.rowAt ldRow allV toV toC ofV ofC Builtin.min_ Builtin.min2 Builtin.max_ Builtin.max2 min_if max_if resA tupA kill trim_self trim_len trim_emp trim_nil lenA
attribute [local simp] runD_nil' runD_cons' stepD actK_eq actD clash disj masks holes maskH unmaskH diffs news eqB allB eqA ldRowN wrote toCs ofCs stA rowsV_vl rowsV_nils rowsOf dI1 dI2 dI3 dI5 elt
attribute [local simp] st_any st_und st_agg st_tup st_bool st_int st_nilp st_ref st_pv st_nils st_sl st_vl st_nilm st_mp st_fn st_nilf st_yld co_any co_und co_agg co_tup co_bool co_int co_nilp co_ref co_pv co_nils co_sl co_vl co_nilm co_mp co_fn co_nilf co_yld
def oOpenB : List AVal → Option AVal
  | [v] => match dB v with
    | some b => some (.tup [if bookE b = 0 then v else zB, I (bookE b)])
    | none => none
  | _ => none
/-- The error of a book all of whose amounts must be read. -/
def readE (b : PB) : Int := if bookE b = 0 then (if b.entries.any (fun e => e.2.2 == -1) then 9 else 0) else bookE b
def oRead : List AVal → Option AVal
  | [v] => match dB v with
    | some b => some (.tup [if bookE b = 0 then v else zB, I (readE b)])
    | none => none
  | _ => none
theorem cfEnt {z : AVal} {es : List Ent} {n : Int} (hn : 0 ≤ n ∧ n ≤ 1000) (hz : rowsV z = some (es.map rE)) (hl : es.length ≤ 1000) : oCF PP2 3 [z, .fn 95 [] [.pv [I n] 0]] = some (.bool (!(es.all (entryOk n)))) := by
  have h := oCF_any (T := PP2) (s := 3) (g := 95) (a := []) (b := [.pv [I n] 0]) (p := fun r => match r with | [.int .i64 f, .int .i64 t, .int .i64 a] => !entryOk n (f, t, a) | _ => false) hz (by simpa using hl) (by simp [isI, rE]) (by
    intro r hr
    obtain ⟨e, _, rfl⟩ := List.mem_map.1 hr
    have : oNone [elt (rE e), .pv [I n] 0] = some (.bool (!entryOk n e)) := by
      show (if 0 ≤ n ∧ n ≤ 1000 then _ else _) = _
      rw [if_pos hn]
    exact this)
  rw [h]
  simp [List.any_map, Function.comp_def, rE, List.not_all_eq_any_not]
theorem cfBlot {z : AVal} {es : List Ent} (hz : rowsV z = some (es.map rE)) (hl : es.length ≤ 1000) : oCF PP2 3 [z, .fn 67 [] []] = some (.bool (es.any fun e => e.2.2 == -1)) := by
  have h := oCF_any (T := PP2) (s := 3) (g := 67) (a := []) (b := []) (p := fun r => match r with | [.int .i64 f, .int .i64 t, .int .i64 a] => a == -1 | _ => false) hz (by simpa using hl) (by simp [isI, rE]) (by
    intro r hr
    obtain ⟨e, _, rfl⟩ := List.mem_map.1 hr
    rfl)
  rw [h]
  simp [List.any_map, Function.comp_def, rE]
theorem wB_all (xs : List Int) : wB (-1000000000) 1000000000 xs = xs.all sumOk := rfl
theorem a66 (P : Program) (T : Nat → Option CFn) (hT : T 66 = some c66) (h96 : T 96 = some { c96 with frsh := true, orc := oConcat }) (h65 : T 65 = some { c65 with frsh := true, orc := oWithin }) (h97 : T 97 = some { c97 with frsh := true, orc := oCF PP2 3 }) (b : PB) (x y z : AVal) (hx : rowsV x = some (b.opening.map rI)) (hy : rowsV y = some (b.closing.map rI)) (hz : rowsV z = some (b.entries.map rE)) (hl : b.opening.length ≤ 1000 ∧ b.closing.length ≤ 1000 ∧ b.entries.length ≤ 1000) : Answers P T 66 [vB x y z] [] fun v h => frz false h 5 v = some (.tup [if bookE b = 0 then vB x y z else zB, I (bookE b)]) := by
  have fx := fun H d => rowsV_frz hx H d
  have fy := fun H d => rowsV_frz hy H d
  have fz := fun H d => rowsV_frz hz H d
  have rx := fun n d => rowsV_rb hx n d
  have ry := fun n d => rowsV_rb hy n d
  have rz := fun n d => rowsV_rb hz n d
  have hd := dB_vB hx hy hz hl
  have lx := rowsV_len hx
  have ly := rowsV_len hy
  have lz := rowsV_len hz
  rw [List.length_map] at lx ly lz
  obtain ⟨cx1, cx2⟩ := rowsV_cells hx
  obtain ⟨cy1, cy2⟩ := rowsV_cells hy
  obtain ⟨cz1, cz2⟩ := rowsV_cells hz
  simp only [vB] at hd ⊢
  refine answers_of hT (orcF_none rfl) ?_
  simp only [c66]
  refine runs_seq ?_
  refine runs_reg (ops_run (by simp [lop, loud, callA, calleeA, callF_step h96, h96, callF_step h65, h65, callF_step h97, h97, fx, fy, fz, rx, ry, rz, hd, lx, ly, lz, -lenA, cx1, cx2, cy1, cy2, cz1, cz2, zB, vB]; rfl) ?_)
  simp only [AEx.thn, AEx.blk]
  refine runs_seq ?_
  refine runs_reg (ops_run (by simp [lop, loud, callA, calleeA, callF_step h96, h96, callF_step h65, h65, callF_step h97, h97, fx, fy, fz, rx, ry, rz, hd, lx, ly, lz, -lenA, cx1, cx2, cy1, cy2, cz1, cz2, zB, vB]; rfl) ?_)
  simp only [AEx.thn, AEx.blk]
  refine runs_seq ?_
  refine runs_reg (ops_run (by simp [lop, loud, callA, calleeA, callF_step h96, h96, callF_step h65, h65, callF_step h97, h97, fx, fy, fz, rx, ry, rz, hd, lx, ly, lz, -lenA, cx1, cx2, cy1, cy2, cz1, cz2, zB, vB]; rfl) ?_)
  simp only [AEx.thn, AEx.blk]
  refine runs_seq ?_
  refine runs_block ?_
  refine runs_seq ?_
  refine runs_seq ?_
  refine runs_reg (ops_run (by simp [lop, loud, callA, calleeA, callF_step h96, h96, callF_step h65, h65, callF_step h97, h97, fx, fy, fz, rx, ry, rz, hd, lx, ly, lz, -lenA, cx1, cx2, cy1, cy2, cz1, cz2, zB, vB]; rfl) ?_)
  simp only [AEx.thn, AEx.blk]
  refine runs_cond_split (x := decide ((5 : Int) < (b.opening.length : Int))) (by simp) (fun h1 => ?_) (fun h1 => ?_)
  · have h1 := of_decide_eq_true h1
    refine runs_skip ?_
    simp only [AEx.thn, AEx.blk]
    refine runs_cond (x := true) (by simp; omega) ?_
    have he : bookE b = 5 := by unfold bookE; rw [if_pos (by omega)]
    refine runs_seq ?_
    refine runs_reg (ops_run (by simp [lop, loud, callA, calleeA, callF_step h96, h96, callF_step h65, h65, callF_step h97, h97, fx, fy, fz, rx, ry, rz, hd, lx, ly, lz, -lenA, cx1, cx2, cy1, cy2, cz1, cz2, zB, vB]; rfl) ?_)
    simp only [AEx.thn, AEx.blk]
    refine runs_ret ?_
    simp [lop, loud, callA, calleeA, callF_step h96, h96, callF_step h65, h65, callF_step h97, h97, fx, fy, fz, rx, ry, rz, hd, lx, ly, lz, -lenA, cx1, cx2, cy1, cy2, cz1, cz2, zB, vB, he]
  have h1 := of_decide_eq_false h1
  refine runs_reg (ops_run (by simp [lop, loud, callA, calleeA, callF_step h96, h96, callF_step h65, h65, callF_step h97, h97, fx, fy, fz, rx, ry, rz, hd, lx, ly, lz, -lenA, cx1, cx2, cy1, cy2, cz1, cz2, zB, vB]; rfl) ?_)
  simp only [AEx.thn, AEx.blk]
  refine runs_cond_split (x := decide ((12 : Int) < (b.entries.length : Int))) (by simp) (fun h2 => ?_) (fun h2 => ?_)
  · have h2 := of_decide_eq_true h2
    have he : bookE b = 5 := by unfold bookE; rw [if_pos (by omega)]
    refine runs_seq ?_
    refine runs_reg (ops_run (by simp [lop, loud, callA, calleeA, callF_step h96, h96, callF_step h65, h65, callF_step h97, h97, fx, fy, fz, rx, ry, rz, hd, lx, ly, lz, -lenA, cx1, cx2, cy1, cy2, cz1, cz2, zB, vB]; rfl) ?_)
    simp only [AEx.thn, AEx.blk]
    refine runs_ret ?_
    simp [lop, loud, callA, calleeA, callF_step h96, h96, callF_step h65, h65, callF_step h97, h97, fx, fy, fz, rx, ry, rz, hd, lx, ly, lz, -lenA, cx1, cx2, cy1, cy2, cz1, cz2, zB, vB, he]
  have h2 := of_decide_eq_false h2
  have h12 : ¬ (5 < b.opening.length ∨ 12 < b.entries.length) := by omega
  refine runs_seq ?_
  refine runs_seq ?_
  refine runs_reg (ops_run (by simp [lop, loud, callA, calleeA, callF_step h96, h96, callF_step h65, h65, callF_step h97, h97, fx, fy, fz, rx, ry, rz, hd, lx, ly, lz, -lenA, cx1, cx2, cy1, cy2, cz1, cz2, zB, vB]; rfl) ?_)
  simp only [AEx.thn, AEx.blk]
  refine runs_cond_split (x := ((b.opening.length : Int) == 0)) (by simp) (fun h3 => ?_) (fun h3 => ?_)
  · have h3 : b.opening.length = 0 := by simpa using h3
    have hb4 : b.opening.length = 0 ∨ b.closing.length ≠ b.opening.length ∨ ¬ (b.opening.all sumOk && b.closing.all sumOk) = true := .inl h3
    refine runs_skip ?_
    simp only [AEx.thn, AEx.blk]
    refine runs_cond (x := true) (by simp [h3]) ?_
    have he : bookE b = 4 := by unfold bookE; rw [if_neg h12, if_pos hb4]
    refine runs_seq ?_
    refine runs_reg (ops_run (by simp [lop, loud, callA, calleeA, callF_step h96, h96, callF_step h65, h65, callF_step h97, h97, fx, fy, fz, rx, ry, rz, hd, lx, ly, lz, -lenA, cx1, cx2, cy1, cy2, cz1, cz2, zB, vB]; rfl) ?_)
    simp only [AEx.thn, AEx.blk]
    refine runs_ret ?_
    simp [lop, loud, callA, calleeA, callF_step h96, h96, callF_step h65, h65, callF_step h97, h97, fx, fy, fz, rx, ry, rz, hd, lx, ly, lz, -lenA, cx1, cx2, cy1, cy2, cz1, cz2, zB, vB, he]
  have h3 : ¬ b.opening.length = 0 := by simpa using h3
  refine runs_seq ?_
  refine runs_reg (ops_run (by simp [lop, loud, callA, calleeA, callF_step h96, h96, callF_step h65, h65, callF_step h97, h97, fx, fy, fz, rx, ry, rz, hd, lx, ly, lz, -lenA, cx1, cx2, cy1, cy2, cz1, cz2, zB, vB]; rfl) ?_)
  simp only [AEx.thn, AEx.blk]
  refine runs_cond_split (x := ((b.closing.length : Int) != (b.opening.length : Int))) (by simp) (fun h4 => ?_) (fun h4 => ?_)
  · have h4 : ¬ (b.closing.length : Int) = (b.opening.length : Int) := by simpa using h4
    have hb4 : b.opening.length = 0 ∨ b.closing.length ≠ b.opening.length ∨ ¬ (b.opening.all sumOk && b.closing.all sumOk) = true := .inr (.inl (by omega))
    refine runs_skip ?_
    simp only [AEx.thn, AEx.blk]
    refine runs_cond (x := true) (by simp [h4]; try omega) ?_
    have he : bookE b = 4 := by unfold bookE; rw [if_neg h12, if_pos hb4]
    refine runs_seq ?_
    refine runs_reg (ops_run (by simp [lop, loud, callA, calleeA, callF_step h96, h96, callF_step h65, h65, callF_step h97, h97, fx, fy, fz, rx, ry, rz, hd, lx, ly, lz, -lenA, cx1, cx2, cy1, cy2, cz1, cz2, zB, vB]; rfl) ?_)
    simp only [AEx.thn, AEx.blk]
    refine runs_ret ?_
    simp [lop, loud, callA, calleeA, callF_step h96, h96, callF_step h65, h65, callF_step h97, h97, fx, fy, fz, rx, ry, rz, hd, lx, ly, lz, -lenA, cx1, cx2, cy1, cy2, cz1, cz2, zB, vB, he]
  have h4i : (b.closing.length : Int) = (b.opening.length : Int) := by simpa using h4
  have h4 : b.closing.length = b.opening.length := by omega
  have ho0 : b.opening ≠ [] := by intro h; rw [h] at h3; simp at h3
  have hc0 : b.closing ≠ [] := by intro h; rw [h] at h4; simp at h4; omega
  have hcc := fun t => oConcat_eq t hx hy ho0 hc0 (by omega)
  have hw := oWithin_eq (x := .vl ((b.opening ++ b.closing).map rI) false) (xs := b.opening ++ b.closing) (-1000000000) 1000000000 rfl (by simp; omega)
  rw [wB_all, List.all_append] at hw
  simp only [List.map_append] at hcc hw
  generalize hA : (b.opening.all sumOk && b.closing.all sumOk) = A at *
  refine runs_reg (ops_run (by simp [lop, loud, callA, calleeA, callF_step h96, h96, callF_step h65, h65, callF_step h97, h97, fx, fy, fz, rx, ry, rz, hd, lx, ly, lz, -lenA, cx1, cx2, cy1, cy2, cz1, cz2, zB, vB, hcc, hw]; rfl) ?_)
  simp only [AEx.thn, AEx.blk]
  refine runs_cond_split (x := !A) (by simp) (fun h5 => ?_) (fun h5 => ?_)
  · have hb4 : b.opening.length = 0 ∨ b.closing.length ≠ b.opening.length ∨ ¬ (b.opening.all sumOk && b.closing.all sumOk) = true := .inr (.inr (by rw [hA]; simpa using h5))
    have he : bookE b = 4 := by unfold bookE; rw [if_neg h12, if_pos hb4]
    refine runs_seq ?_
    refine runs_reg (ops_run (by simp [lop, loud, callA, calleeA, callF_step h96, h96, callF_step h65, h65, callF_step h97, h97, fx, fy, fz, rx, ry, rz, hd, lx, ly, lz, -lenA, cx1, cx2, cy1, cy2, cz1, cz2, zB, vB, hcc, hw]; rfl) ?_)
    simp only [AEx.thn, AEx.blk]
    refine runs_ret ?_
    simp [lop, loud, callA, calleeA, callF_step h96, h96, callF_step h65, h65, callF_step h97, h97, fx, fy, fz, rx, ry, rz, hd, lx, ly, lz, -lenA, cx1, cx2, cy1, cy2, cz1, cz2, zB, vB, hcc, hw, he]
  have h5 : A = true := by simpa using h5
  have hn4 : ¬ (b.opening.length = 0 ∨ b.closing.length ≠ b.opening.length ∨ ¬ (b.opening.all sumOk && b.closing.all sumOk) = true) := fun h => h.elim h3 fun h => h.elim (fun h => h h4) fun h => h (hA.trans h5)
  have hcf := cfEnt (n := (b.opening.length : Int)) (by omega) hz hl.2.2
  generalize hE : b.entries.all (entryOk b.opening.length) = E at hcf
  refine runs_seq ?_
  refine runs_reg (ops_run (by simp [lop, loud, callA, calleeA, callF_step h96, h96, callF_step h65, h65, callF_step h97, h97, fx, fy, fz, rx, ry, rz, hd, lx, ly, lz, -lenA, cx1, cx2, cy1, cy2, cz1, cz2, zB, vB, hcc, hw, hcf]; rfl) ?_)
  simp only [AEx.thn, AEx.blk]
  refine runs_cond_split (x := !E) (by simp) (fun h6 => ?_) (fun h6 => ?_)
  · have he : bookE b = 2 := by unfold bookE; rw [if_neg h12, if_neg hn4, hE, if_neg (by simpa using h6)]
    refine runs_seq ?_
    refine runs_reg (ops_run (by simp [lop, loud, callA, calleeA, callF_step h96, h96, callF_step h65, h65, callF_step h97, h97, fx, fy, fz, rx, ry, rz, hd, lx, ly, lz, -lenA, cx1, cx2, cy1, cy2, cz1, cz2, zB, vB, hcc, hw, hcf]; rfl) ?_)
    simp only [AEx.thn, AEx.blk]
    refine runs_ret ?_
    simp [lop, loud, callA, calleeA, callF_step h96, h96, callF_step h65, h65, callF_step h97, h97, fx, fy, fz, rx, ry, rz, hd, lx, ly, lz, -lenA, cx1, cx2, cy1, cy2, cz1, cz2, zB, vB, hcc, hw, hcf, he]
  have he : bookE b = 0 := by unfold bookE; rw [if_neg h12, if_neg hn4, hE, if_pos (by simpa using h6)]
  refine runs_skip ?_
  simp only [AEx.thn, AEx.blk]
  refine runs_seq ?_
  refine runs_reg (ops_run (by simp [lop, loud, callA, calleeA, callF_step h96, h96, callF_step h65, h65, callF_step h97, h97, fx, fy, fz, rx, ry, rz, hd, lx, ly, lz, -lenA, cx1, cx2, cy1, cy2, cz1, cz2, zB, vB, hcc, hw, hcf]; rfl) ?_)
  simp only [AEx.thn, AEx.blk]
  refine runs_ret ?_
  simp [lop, loud, callA, calleeA, callF_step h96, h96, callF_step h65, h65, callF_step h97, h97, fx, fy, fz, rx, ry, rz, hd, lx, ly, lz, -lenA, cx1, cx2, cy1, cy2, cz1, cz2, zB, vB, hcc, hw, hcf, he]
noncomputable def PP5 : Nat → Option CFn := upd PP4 66 false (oOpenB)
theorem PP5_ok : TabOk Try.prog GG PP5 := tab_add mixed PP4_ok fun args v ho => by
  unfold oOpenB at ho; split at ho <;> (try simp at ho)
  rename_i v
  split at ho <;> (try simp at ho)
  rename_i b hb
  obtain ⟨x, y, z, rfl, hx, hy, hz, hl⟩ := dB_eq hb
  try simp at ho
  subst ho
  exact a66 Try.prog PP4 rfl rfl rfl rfl b x y z hx hy hz hl
theorem a74 (P : Program) (T : Nat → Option CFn) (hT : T 74 = some c74) (h66 : T 66 = some { c66 with frsh := false, orc := oOpenB }) (h97 : T 97 = some { c97 with frsh := true, orc := oCF PP2 3 }) (b : PB) (x y z : AVal) (hx : rowsV x = some (b.opening.map rI)) (hy : rowsV y = some (b.closing.map rI)) (hz : rowsV z = some (b.entries.map rE)) (hl : b.opening.length ≤ 1000 ∧ b.closing.length ≤ 1000 ∧ b.entries.length ≤ 1000) : Answers P T 74 [vB x y z] [] fun v h => frz false h 5 v = some (.tup [if bookE b = 0 then vB x y z else zB, I (readE b)]) := by
  have fx := fun H d => rowsV_frz hx H d
  have fy := fun H d => rowsV_frz hy H d
  have fz := fun H d => rowsV_frz hz H d
  have rx := fun n d => rowsV_rb hx n d
  have ry := fun n d => rowsV_rb hy n d
  have rz := fun n d => rowsV_rb hz n d
  have hd := dB_vB hx hy hz hl
  have lx := rowsV_len hx
  have ly := rowsV_len hy
  have lz := rowsV_len hz
  rw [List.length_map] at lx ly lz
  obtain ⟨cx1, cx2⟩ := rowsV_cells hx
  obtain ⟨cy1, cy2⟩ := rowsV_cells hy
  obtain ⟨cz1, cz2⟩ := rowsV_cells hz
  simp only [vB] at hd ⊢
  refine answers_of hT (orcF_none rfl) ?_
  simp only [c74]
  by_cases h0 : bookE b = 0
  · have hcf := cfBlot hz hl.2.2
    generalize hA : (b.entries.any fun e => e.2.2 == -1) = A at hcf
    refine runs_seq ?_
    refine runs_reg (ops_run (by simp [lop, loud, callA, calleeA, callF_step h66, h66, callF_step h97, h97, fx, fy, fz, rx, ry, rz, hd, lx, ly, lz, -lenA, cx1, cx2, cy1, cy2, cz1, cz2, zB, oOpenB, vB, h0, hcf]; rfl) ?_)
    simp only [AEx.thn, AEx.blk]
    refine runs_seq ?_
    refine runs_reg (ops_run (by simp [lop, loud, callA, calleeA, callF_step h66, h66, callF_step h97, h97, fx, fy, fz, rx, ry, rz, hd, lx, ly, lz, -lenA, cx1, cx2, cy1, cy2, cz1, cz2, zB, oOpenB, vB, h0, hcf]; rfl) ?_)
    simp only [AEx.thn, AEx.blk]
    refine runs_seq ?_
    refine runs_seq ?_
    refine runs_reg (ops_run (by simp [lop, loud, callA, calleeA, callF_step h66, h66, callF_step h97, h97, fx, fy, fz, rx, ry, rz, hd, lx, ly, lz, -lenA, cx1, cx2, cy1, cy2, cz1, cz2, zB, oOpenB, vB, h0, hcf]; rfl) ?_)
    simp only [AEx.thn, AEx.blk]
    refine runs_cond_split (x := A) (by simp) (fun h1 => ?_) (fun h1 => ?_)
    · refine runs_reg (ops_run (by simp [lop, loud, callA, calleeA, callF_step h66, h66, callF_step h97, h97, fx, fy, fz, rx, ry, rz, hd, lx, ly, lz, -lenA, cx1, cx2, cy1, cy2, cz1, cz2, zB, oOpenB, vB, h0, hcf]; rfl) ?_)
      simp only [AEx.thn, AEx.blk]
      refine runs_seq ?_
      refine runs_reg (ops_run (by simp [lop, loud, callA, calleeA, callF_step h66, h66, callF_step h97, h97, fx, fy, fz, rx, ry, rz, hd, lx, ly, lz, -lenA, cx1, cx2, cy1, cy2, cz1, cz2, zB, oOpenB, vB, h0, hcf]; rfl) ?_)
      simp only [AEx.thn, AEx.blk]
      refine runs_ret ?_
      simp [lop, loud, callA, calleeA, callF_step h66, h66, callF_step h97, h97, fx, fy, fz, rx, ry, rz, hd, lx, ly, lz, -lenA, cx1, cx2, cy1, cy2, cz1, cz2, zB, oOpenB, vB, h0, hcf, readE, h0, hA, h1]
    · refine runs_skip ?_
      simp only [AEx.thn, AEx.blk]
      refine runs_seq ?_
      refine runs_reg (ops_run (by simp [lop, loud, callA, calleeA, callF_step h66, h66, callF_step h97, h97, fx, fy, fz, rx, ry, rz, hd, lx, ly, lz, -lenA, cx1, cx2, cy1, cy2, cz1, cz2, zB, oOpenB, vB, h0, hcf]; rfl) ?_)
      simp only [AEx.thn, AEx.blk]
      refine runs_ret ?_
      simp [lop, loud, callA, calleeA, callF_step h66, h66, callF_step h97, h97, fx, fy, fz, rx, ry, rz, hd, lx, ly, lz, -lenA, cx1, cx2, cy1, cy2, cz1, cz2, zB, oOpenB, vB, h0, hcf, readE, h0, hA, h1]
  · have h0b : (bookE b == 0) = false := by simpa using h0
    refine runs_seq ?_
    refine runs_reg (ops_run (by simp [lop, loud, callA, calleeA, callF_step h66, h66, callF_step h97, h97, fx, fy, fz, rx, ry, rz, hd, lx, ly, lz, -lenA, cx1, cx2, cy1, cy2, cz1, cz2, zB, oOpenB, vB, h0, h0b]; rfl) ?_)
    simp only [AEx.thn, AEx.blk]
    refine runs_seq ?_
    refine runs_reg (ops_run (by simp [lop, loud, callA, calleeA, callF_step h66, h66, callF_step h97, h97, fx, fy, fz, rx, ry, rz, hd, lx, ly, lz, -lenA, cx1, cx2, cy1, cy2, cz1, cz2, zB, oOpenB, vB, h0, h0b]; rfl) ?_)
    simp only [AEx.thn, AEx.blk]
    refine runs_seq ?_
    refine runs_seq ?_
    refine runs_reg (ops_run (by simp [lop, loud, callA, calleeA, callF_step h66, h66, callF_step h97, h97, fx, fy, fz, rx, ry, rz, hd, lx, ly, lz, -lenA, cx1, cx2, cy1, cy2, cz1, cz2, zB, oOpenB, vB, h0, h0b]; rfl) ?_)
    simp only [AEx.thn, AEx.blk]
    refine runs_cond (x := false) (by simp) ?_
    refine runs_skip ?_
    simp only [AEx.thn, AEx.blk]
    refine runs_seq ?_
    refine runs_reg (ops_run (by simp [lop, loud, callA, calleeA, callF_step h66, h66, callF_step h97, h97, fx, fy, fz, rx, ry, rz, hd, lx, ly, lz, -lenA, cx1, cx2, cy1, cy2, cz1, cz2, zB, oOpenB, vB, h0, h0b]; rfl) ?_)
    simp only [AEx.thn, AEx.blk]
    refine runs_ret ?_
    simp [lop, loud, callA, calleeA, callF_step h66, h66, callF_step h97, h97, fx, fy, fz, rx, ry, rz, hd, lx, ly, lz, -lenA, cx1, cx2, cy1, cy2, cz1, cz2, zB, oOpenB, vB, h0, h0b, readE, h0]
noncomputable def PP6_52 : Nat → Option CFn := PP5
theorem PP6_52_ok : TabOk Try.prog GG PP6_52 := PP5_ok
noncomputable def PP6 : Nat → Option CFn := upd PP6_52 74 false (oRead)
theorem PP6_ok : TabOk Try.prog GG PP6 := tab_add mixed PP6_52_ok fun args v ho => by
  unfold oRead at ho; split at ho <;> (try simp at ho)
  rename_i v
  split at ho <;> (try simp at ho)
  rename_i b hb
  obtain ⟨x, y, z, rfl, hx, hy, hz, hl⟩ := dB_eq hb
  try simp at ho
  subst ho
  exact a74 Try.prog PP6_52 rfl rfl rfl b x y z hx hy hz hl
theorem a98_1 (P : Program) (T : Nat → Option CFn) (hT : T 98 = some c98) (a0 : Option Blk) (xs : List Int) (t : Bool) (h0 : xs ≠ []) (hl : xs.length ≤ 1000) : Answers P T 98 [.vl (xs.map rI) t] [a0] fun v h => v = .sl 2 0 xs.length false ∧ h = [a0, some (.row 1 []), some (.row 1 (xs.map rI))] := by
  have hs : ¬ xs = [] := h0
  have hl1 : xs.length ≤ 1048576 := by omega
  have hl2 : 0 < xs.length := List.length_pos_iff.2 h0
  refine answers_of hT (orcF_none rfl) ?_
  simp only [c98]
  refine runs_seq ?_
  refine runs_reg (ops_run (by simp [lop, loud, callA, calleeA, lim, hl1, hl2, hs, List.all_map, Function.comp_def, rI]; rfl) ?_)
  simp only [AEx.thn, AEx.blk]
  refine runs_seq ?_
  refine runs_seq ?_
  refine runs_reg (ops_run (by simp [lop, loud, callA, calleeA, lim, hl1, hl2, hs, List.all_map, Function.comp_def, rI]; rfl) ?_)
  simp only [AEx.thn, AEx.blk]
  refine runs_cond (x := false) (by simp) ?_
  refine runs_skip ?_
  simp only [AEx.thn, AEx.blk]
  refine runs_seq ?_
  refine runs_reg (ops_run (by simp [lop, loud, callA, calleeA, lim, hl1, hl2, hs, List.all_map, Function.comp_def, rI]; rfl) ?_)
  simp only [AEx.thn, AEx.blk]
  refine runs_ret ?_
  refine ⟨by simp, _, by simp; rfl, ?_⟩
  exact ⟨rfl, by simp [trim, rI]⟩
theorem a98_2 (P : Program) (T : Nat → Option CFn) (hT : T 98 = some c98) (a0 a1 : Option Blk) (xs : List Int) (t : Bool) (h0 : xs ≠ []) (hl : xs.length ≤ 1000) : Answers P T 98 [.vl (xs.map rI) t] [a0, a1] fun v h => v = .sl 3 0 xs.length false ∧ h = [a0, a1, some (.row 1 []), some (.row 1 (xs.map rI))] := by
  have hs : ¬ xs = [] := h0
  have hl1 : xs.length ≤ 1048576 := by omega
  have hl2 : 0 < xs.length := List.length_pos_iff.2 h0
  refine answers_of hT (orcF_none rfl) ?_
  simp only [c98]
  refine runs_seq ?_
  refine runs_reg (ops_run (by simp [lop, loud, callA, calleeA, lim, hl1, hl2, hs, List.all_map, Function.comp_def, rI]; rfl) ?_)
  simp only [AEx.thn, AEx.blk]
  refine runs_seq ?_
  refine runs_seq ?_
  refine runs_reg (ops_run (by simp [lop, loud, callA, calleeA, lim, hl1, hl2, hs, List.all_map, Function.comp_def, rI]; rfl) ?_)
  simp only [AEx.thn, AEx.blk]
  refine runs_cond (x := false) (by simp) ?_
  refine runs_skip ?_
  simp only [AEx.thn, AEx.blk]
  refine runs_seq ?_
  refine runs_reg (ops_run (by simp [lop, loud, callA, calleeA, lim, hl1, hl2, hs, List.all_map, Function.comp_def, rI]; rfl) ?_)
  simp only [AEx.thn, AEx.blk]
  refine runs_ret ?_
  refine ⟨by simp, _, by simp; rfl, ?_⟩
  exact ⟨rfl, by simp [trim, rI]⟩
end
end Go.Proofs.Ytfnnonoffiljhaa.Tab

namespace Go.Proofs.Ytfnnonoffiljhaa.Tab
open Go Go.Abs Go.Proofs
set_option maxRecDepth 100000
set_option maxHeartbeats 4000000
set_option linter.unusedSimpArgs false
set_option linter.unusedVariables false
section
attribute [local simp] frz_int frz_bool frz_vl frz_pv frz_agg frz_tup frz_fn frz_ref frz_sl frz_nils optAll orcF rb_int rb_bool rb_agg rb_tup rb_int' rb_bool' rb_vl rb_pv rb_yld rb_nilf rb_nilp rb_nils rb_any rb_und rb_ref rb_sl rb_fn slE chunk fillA evParts evParts3 putAt List.range_succ List.range_zero List.range'_succ List.range'_zero runX_nil' unary_not evalS_pure evAll_nil evAll_cons runX_cons stepX wantedA dop CV.ev putK_eq setK_eq appK_eq fA_eq fI_eq fN_eq fRow_eq fRows_eq nth_eq Out.v putT List.replicate_succ AEx.thn AEx.blk arI pointee Abs.rowAt ldRow allV toV toC ofV ofC Builtin.min_ Builtin.min2 Builtin.max_ Builtin.max2 min_if max_if resA tupA kill trim_self trim_len trim_emp trim_nil lenA
attribute [local simp] runD_nil' runD_cons' stepD actK_eq actD clash disj masks holes maskH unmaskH diffs news eqB allB eqA ldRowN wrote toCs ofCs stA rowsV_vl rowsV_nils rowsOf dI1 dI2 dI3 dI5 elt
attribute [local simp] st_any st_und st_agg st_tup st_bool st_int st_nilp st_ref st_pv st_nils st_sl st_vl st_nilm st_mp st_fn st_nilf st_yld co_any co_und co_agg co_tup co_bool co_int co_nilp co_ref co_pv co_nils co_sl co_vl co_nilm co_mp co_fn co_nilf co_yld
theorem a84_0 (P : Program) (T : Nat → Option CFn) (hT : T 84 = some c84) (h98 : T 98 = some c98) (h67 : T 67 = some { c67 with frsh := true, orc := oBlot }) (b : PB) (x y z : AVal) (hx : rowsV x = some (b.opening.map rI)) (hy : rowsV y = some (b.closing.map rI)) (hz : rowsV z = some (b.entries.map rE)) (hl : b.opening.length ≤ 1000 ∧ b.closing.length ≤ 1000 ∧ b.entries.length ≤ 1000) (h0 : bookE b = 0) : Answers P T 84 [vB x y z] [] fun v h => frz true h 5 v = some (.vl ((balI b).map rI) false) := by
  have hok := book_ok h0
  obtain ⟨hn5, he12, hn0, hcl, hop, hco, hen⟩ := hok
  obtain ⟨tx, rfl⟩ : ∃ t, x = .vl (b.opening.map rI) t := (rowsV_cases hx).resolve_left fun h => hn0 (by have := h.2; simp at this; rw [this]; rfl)
  have ho0 : b.opening ≠ [] := by intro h; rw [h] at hn0; simp at hn0
  have fx := fun H d => rowsV_frz hx H d
  have fy := fun H d => rowsV_frz hy H d
  have fz := fun H d => rowsV_frz hz H d
  have rx := fun n d => rowsV_rb hx n d
  have ry := fun n d => rowsV_rb hy n d
  have rz := fun n d => rowsV_rb hz n d
  have hd := dB_vB hx hy hz hl
  have lx := rowsV_len hx
  have ly := rowsV_len hy
  have lz := rowsV_len hz
  rw [List.length_map] at lx ly lz
  obtain ⟨cx1, cx2⟩ := rowsV_cells hx
  obtain ⟨cy1, cy2⟩ := rowsV_cells hy
  obtain ⟨cz1, cz2⟩ := rowsV_cells hz
  simp only [vB] at hd ⊢
  refine answers_of hT (orcF_none rfl) ?_
  simp only [c84]
  refine runs_seq ?_
  refine runs_reg (ops_run (by simp [lop, loud, callA, calleeA, callF_step h67, h67, oBlot, fx, fy, fz, rx, ry, rz, hd, lx, ly, lz, -lenA, cx1, cx2, cy1, cy2, cz1, cz2, zB, lim]; rfl) ?_)
  simp only [AEx.thn, AEx.blk]
  refine runs_seq ?_
  refine runs_reg (ops_take 3 (by simp; rfl) ?_)
  simp only [List.drop_succ_cons, List.drop_zero]
  refine ops_call (f := 98) (args := [.vl (b.opening.map rI) tx]) (by simp) (by simp) (by simp [lop]) (by simp [calleeA]) ?_
  refine (a98_1 P T h98 _ b.opening tx ho0 hl.1).mono ?_
  rintro v h' ⟨rfl, rfl⟩
  refine ops_run (by simp; rfl) ?_
  simp only [AEx.thn, AEx.blk]
  refine runs_seq ?_
  refine runs_seq ?_
  refine runs_reg (ops_run (by simp [lop, loud, callA, calleeA, callF_step h67, h67, oBlot, fx, fy, fz, rx, ry, rz, hd, lx, ly, lz, -lenA, cx1, cx2, cy1, cy2, cz1, cz2, zB, lim]; rfl) ?_)
  simp only [AEx.thn, AEx.blk]
  refine runs_block ?_
  refine runs_loop_inv (fun m σ => ∃ (k : Nat) (i : Int) (out : List Int), i = k ∧ b.entries.length - k = m ∧ k ≤ b.entries.length ∧ out.length = b.opening.length ∧ (∀ j, j < out.length → -(1000000000 + 1000000 * (k : Int)) ≤ out.getD j 0 ∧ out.getD j 0 ≤ 1000000000 + 1000000 * (k : Int)) ∧ (b.entries.drop k).foldl balStep out = balI b ∧ σ = ⟨[.any, .any, .any, .sl 2 0 b.opening.length false, .any, .any, .any, .any, .any, .any, .any, .any, z, I b.entries.length, I i, .any, .any, .any, .any, .any, .any, .any, .any, .any, .any, .any, .any, .any, .any, .any, .any, .any, .any, .any, .any, .any, .any, .any, .any, .any, .any], [some (.row 3 [[.vl (b.opening.map rI) tx, y, z]]), some (.row 1 []), some (.row 1 (out.map rI))]⟩) ?_ (b.entries.length - 0) _ ⟨0, 0, b.opening, rfl, rfl, Nat.zero_le _, rfl, fun j hj => by rw [List.getD_eq_getElem?_getD, List.getElem?_eq_getElem hj]; have := hop _ (List.getElem_mem hj); simp only [Option.getD_some]; omega, rfl, by simp⟩
  rintro m σ ⟨k, i, out, hik, rfl, hkl, hol, hbd, hinv, rfl⟩
  refine runs_seq ?_
  refine runs_reg (ops_run (by simp [lop, loud, callA, calleeA, callF_step h67, h67, oBlot, fx, fy, fz, rx, ry, rz, hd, lx, ly, lz, -lenA, cx1, cx2, cy1, cy2, cz1, cz2, zB, lim]; rfl) ?_)
  simp only [AEx.thn, AEx.blk]
  refine runs_seq ?_
  refine runs_cond_split (x := decide (i < (b.entries.length : Int))) (by simp) (fun hlt => ?_) (fun hlt => ?_)
  · have hlt := of_decide_eq_true hlt
    have hk0 : k < b.entries.length := by omega
    have hne := hen _ (List.getElem_mem hk0)
    obtain ⟨tz, rfl⟩ := rowsV_get hz (k := k) (by rw [List.length_map]; omega)
    have hi0 : 0 ≤ i := by omega
    have htn : i.toNat = k := by omega
    have hwi : W .i64 (i + 1) = i + 1 := W_small (by omega)
    rw [List.drop_eq_getElem_cons hk0, List.foldl_cons] at hinv
    generalize hs : b.entries[k] = e at *
    obtain ⟨f, t, a⟩ := e
    simp only at hne
    obtain ⟨⟨hf0, hf1⟩, ⟨ht0, ht1⟩, hft, ha0, ha1⟩ := hne
    refine runs_skip ?_
    simp only [AEx.thn, AEx.blk]
    refine runs_seq ?_
    refine runs_block ?_
    refine runs_seq ?_
    refine runs_reg (ops_run (by simp [lop, loud, callA, calleeA, callF_step h67, h67, oBlot, fx, fy, fz, rx, ry, rz, hd, lx, ly, lz, -lenA, cx1, cx2, cy1, cy2, cz1, cz2, zB, lim, hi0, htn, hk0, hs, hwi, rE]; rfl) ?_)
    simp only [AEx.thn, AEx.blk]
    refine runs_seq ?_
    refine runs_reg (ops_run (by simp [lop, loud, callA, calleeA, callF_step h67, h67, oBlot, fx, fy, fz, rx, ry, rz, hd, lx, ly, lz, -lenA, cx1, cx2, cy1, cy2, cz1, cz2, zB, lim, hi0, htn, hk0, hs, hwi, rE]; rfl) ?_)
    simp only [AEx.thn, AEx.blk]
    refine runs_cond_split (x := !(a == -1)) (by simp) (fun hb => ?_) (fun hb => ?_)
    · have ha : ¬ a = -1 := by simpa using hb
      have hfl : f.toNat < out.length := by omega
      have htl : t.toNat < out.length := by omega
      have b1 := hbd f.toNat hfl
      have b2 := hbd t.toNat htl
      have g1 : out[f.toNat]? = some (out.getD f.toNat 0) := by rw [List.getD_eq_getElem?_getD, List.getElem?_eq_getElem hfl]; rfl
      have hk13 : (k : Int) ≤ 12 := by omega
      have w1 : W .i64 (out.getD f.toNat 0 - a) = out.getD f.toNat 0 - a := W_fit (by omega)
      have w2 : W .i64 (out.getD t.toNat 0 + a) = out.getD t.toNat 0 + a := W_fit (by omega)
      have hl1 : f.toNat < b.opening.length := by omega
      have hl2 : t.toNat < b.opening.length := by omega
      have e0 : (out.map rI).set f.toNat [I (out.getD f.toNat 0 - a)] = (out.set f.toNat (out.getD f.toNat 0 - a)).map rI := by rw [List.map_set]; rfl
      have hno : f.toNat ≠ t.toNat := by omega
      have g2 : (out.set f.toNat (out.getD f.toNat 0 - a))[t.toNat]? = some (out.getD t.toNat 0) := by
        rw [List.getElem?_set_ne hno, List.getD_eq_getElem?_getD, List.getElem?_eq_getElem htl]; rfl
      have e1 : balStep out (f, t, a) = (out.set f.toNat (out.getD f.toNat 0 - a)).set t.toNat (out.getD t.toNat 0 + a) := by
        unfold balStep
        simp only [ha, if_false]
        rw [List.getD_eq_getElem?_getD (l := out.set _ _), g2]; rfl
      generalize hV1 : out.getD f.toNat 0 = V1 at *
      generalize hV2 : out.getD t.toNat 0 = V2 at *
      generalize hO1 : out.set f.toNat (V1 - a) = o1 at *
      have hol1 : o1.length = b.opening.length := by rw [← hO1, List.length_set]; exact hol
      have e2 : (o1.map rI).set t.toNat [I (V2 + a)] = (o1.set t.toNat (V2 + a)).map rI := by rw [List.map_set]; rfl
      generalize hO2 : o1.set t.toNat (V2 + a) = o2 at *
      have hol2 : o2.length = b.opening.length := by rw [← hO2, List.length_set]; exact hol1
      have hr1 : ∀ v : Int, rI v = [I v] := fun _ => rfl
      have hv1 : ∀ h, out[f.toNat]'h = V1 := fun h => by rw [List.getElem?_eq_getElem h] at g1; exact Option.some.inj g1
      have hv2 : ∀ h, o1[t.toNat]'h = V2 := fun h => by rw [List.getElem?_eq_getElem h] at g2; exact Option.some.inj g2
      refine runs_seq ?_
      refine runs_drw (by simp (maxSteps := 3000000) [lop, loud, callA, calleeA, callF_step h67, h67, oBlot, fx, fy, fz, rx, ry, rz, hd, lx, ly, lz, -lenA, cx1, cx2, cy1, cy2, cz1, cz2, zB, lim, hi0, htn, hk0, hs, hwi, rE, hf0, hf1, ht0, ht1, hl1, hl2, g1, g2, w1, w2, hol, hol1, hr1, hv1, hv2, e0, e2]; rfl) ?_
      simp only [AEx.thn, AEx.blk]
      refine runs_drw (by simp (maxSteps := 3000000) [lop, loud, callA, calleeA, callF_step h67, h67, oBlot, fx, fy, fz, rx, ry, rz, hd, lx, ly, lz, -lenA, cx1, cx2, cy1, cy2, cz1, cz2, zB, lim, hi0, htn, hk0, hs, hwi, rE, hf0, hf1, ht0, ht1, hl1, hl2, g1, g2, w1, w2, hol, hol1, hr1, hv1, hv2, e0, e2]; rfl) ?_
      simp only [AEx.thn, AEx.blk]
      refine runs_reg (ops_run (by simp [lop, loud, callA, calleeA, callF_step h67, h67, oBlot, fx, fy, fz, rx, ry, rz, hd, lx, ly, lz, -lenA, cx1, cx2, cy1, cy2, cz1, cz2, zB, lim, hi0, htn, hk0, hs, hwi, rE, hf0, hf1, ht0, ht1, hl1, hl2, g1, g2, w1, w2, hol, hol1, hr1, hv1, hv2, e0, e2]; rfl) ?_)
      simp only [AEx.thn, AEx.blk]
      refine ⟨b.entries.length - (k + 1), by omega, k + 1, i + 1, o2, by omega, rfl, by omega, hol2, fun j hj => ?_, ?_, by (simp [trim, rbB_row, rbB_none, lop, loud, callA, calleeA, callF_step h67, h67, oBlot, fx, fy, fz, rx, ry, rz, hd, lx, ly, lz, -lenA, cx1, cx2, cy1, cy2, cz1, cz2, zB, lim, hi0, htn, hk0, hs, hwi, rE]; try (intro x _ y hy; simp [rI] at hy; subst hy; rfl))⟩
      · rw [← hO2, ← hO1] at hj ⊢
        simp only [List.length_set] at hj
        have hbj := hbd j hj
        rw [List.getD_eq_getElem?_getD, List.getElem?_set, List.getElem?_set] at *
        simp only [List.length_set]
        split
        · try rw [if_pos (by omega)]
          simp only [Option.getD_some]; omega
        · split
          · try rw [if_pos (by omega)]
            simp only [Option.getD_some]; omega
          · omega
      · rw [e1] at hinv; exact hinv
    · obtain rfl : a = -1 := by simpa using hb
      have e1 : balStep out (f, t, -1) = out := by simp [balStep]
      rw [e1] at hinv
      refine runs_skip ?_
      simp only [AEx.thn, AEx.blk]
      refine runs_reg (ops_run (by simp [lop, loud, callA, calleeA, callF_step h67, h67, oBlot, fx, fy, fz, rx, ry, rz, hd, lx, ly, lz, -lenA, cx1, cx2, cy1, cy2, cz1, cz2, zB, lim, hi0, htn, hk0, hs, hwi, rE]; rfl) ?_)
      simp only [AEx.thn, AEx.blk]
      exact ⟨b.entries.length - (k + 1), by omega, k + 1, i + 1, out, by omega, rfl, by omega, hol, fun j hj => by have := hbd j hj; omega, hinv, by (simp [trim, rbB_row, rbB_none, lop, loud, callA, calleeA, callF_step h67, h67, oBlot, fx, fy, fz, rx, ry, rz, hd, lx, ly, lz, -lenA, cx1, cx2, cy1, cy2, cz1, cz2, zB, lim, hi0, htn, hk0, hs, hwi, rE]; try (intro x _ y hy; simp [rI] at hy; subst hy; rfl))⟩
  · have hlt := of_decide_eq_false hlt
    obtain rfl : k = b.entries.length := by omega
    rw [List.drop_length] at hinv
    simp only [List.foldl_nil] at hinv
    subst hinv
    refine runs_exit ?_
    simp only [AEx.thn, AEx.blk, if_true, if_false, reduceIte, Nat.reduceEqDiff, Nat.succ_ne_zero, Nat.one_ne_zero, Nat.zero_ne_one]
    refine runs_seq ?_
    refine runs_reg (ops_run (by simp [lop, loud, callA, calleeA, callF_step h67, h67, oBlot, fx, fy, fz, rx, ry, rz, hd, lx, ly, lz, -lenA, cx1, cx2, cy1, cy2, cz1, cz2, zB, lim]; rfl) ?_)
    simp only [AEx.thn, AEx.blk]
    refine runs_ret ?_
    refine ⟨by simp, _, by simp; rfl, ?_⟩
    have e : frz true [some (.row 3 [[.vl (b.opening.map rI) tx, y, z]]), some (.row 1 []), some (.row 1 ((balI b).map rI))] 5 (.sl 2 0 b.opening.length false) = some (.vl ((balI b).map rI) false) := frz_row true _ 4 2 _ 1 false _ rfl (by simp [hol]) (frz_rows true _ 3 _ fun r hr z hz => by
      obtain ⟨a, _, rfl⟩ := List.mem_map.1 hr
      simp [rI] at hz; subst hz; rfl)
    simp [trim, -frz_sl, e]
def oBal : List AVal → Option AVal
  | [v] => match dB v with
    | some b => if bookE b = 0 then some (.vl ((balI b).map rI) false) else none
    | none => none
  | _ => none
def oBalance : List AVal → Option AVal
  | [v] => match dB v with
    | some b => some (.tup [if readE b = 0 then .vl ((balI b).map rI) false else .nils, I (readE b)])
    | none => none
  | _ => none
theorem read_book {b : PB} (h : readE b = 0) : bookE b = 0 := by
  unfold readE at h
  split at h
  · assumption
  · rename_i h0; exact absurd h h0
theorem a47 (P : Program) (T : Nat → Option CFn) (hT : T 47 = some c47) (h74 : T 74 = some { c74 with frsh := false, orc := oRead }) (h84 : T 84 = some { c84 with frsh := true, orc := oBal }) (b : PB) (x y z : AVal) (hx : rowsV x = some (b.opening.map rI)) (hy : rowsV y = some (b.closing.map rI)) (hz : rowsV z = some (b.entries.map rE)) (hl : b.opening.length ≤ 1000 ∧ b.closing.length ≤ 1000 ∧ b.entries.length ≤ 1000) : Answers P T 47 [vB x y z] [] fun v h => frz false h 5 v = some (.tup [if readE b = 0 then .vl ((balI b).map rI) false else .nils, I (readE b)]) := by
  have fx := fun H d => rowsV_frz hx H d
  have fy := fun H d => rowsV_frz hy H d
  have fz := fun H d => rowsV_frz hz H d
  have rx := fun n d => rowsV_rb hx n d
  have ry := fun n d => rowsV_rb hy n d
  have rz := fun n d => rowsV_rb hz n d
  have hd := dB_vB hx hy hz hl
  have lx := rowsV_len hx
  have ly := rowsV_len hy
  have lz := rowsV_len hz
  rw [List.length_map] at lx ly lz
  obtain ⟨cx1, cx2⟩ := rowsV_cells hx
  obtain ⟨cy1, cy2⟩ := rowsV_cells hy
  obtain ⟨cz1, cz2⟩ := rowsV_cells hz
  simp only [vB] at hd ⊢
  refine answers_of hT (orcF_none rfl) ?_
  simp only [c47]
  by_cases h0 : readE b = 0
  · have hb := read_book h0
    refine runs_seq ?_
    refine runs_reg (ops_run (by simp [lop, loud, callA, calleeA, callF_step h74, h74, callF_step h84, h84, fx, fy, fz, rx, ry, rz, hd, lx, ly, lz, -lenA, cx1, cx2, cy1, cy2, cz1, cz2, zB, oRead, oBal, vB, h0, hb]; rfl) ?_)
    simp only [AEx.thn, AEx.blk]
    refine runs_seq ?_
    refine runs_reg (ops_run (by simp [lop, loud, callA, calleeA, callF_step h74, h74, callF_step h84, h84, fx, fy, fz, rx, ry, rz, hd, lx, ly, lz, -lenA, cx1, cx2, cy1, cy2, cz1, cz2, zB, oRead, oBal, vB, h0, hb]; rfl) ?_)
    simp only [AEx.thn, AEx.blk]
    refine runs_seq ?_
    refine runs_seq ?_
    refine runs_reg (ops_run (by simp [lop, loud, callA, calleeA, callF_step h74, h74, callF_step h84, h84, fx, fy, fz, rx, ry, rz, hd, lx, ly, lz, -lenA, cx1, cx2, cy1, cy2, cz1, cz2, zB, oRead, oBal, vB, h0, hb]; rfl) ?_)
    simp only [AEx.thn, AEx.blk]
    refine runs_cond (x := false) (by simp) ?_
    refine runs_skip ?_
    simp only [AEx.thn, AEx.blk]
    refine runs_seq ?_
    refine runs_reg (ops_run (by simp [lop, loud, callA, calleeA, callF_step h74, h74, callF_step h84, h84, fx, fy, fz, rx, ry, rz, hd, lx, ly, lz, -lenA, cx1, cx2, cy1, cy2, cz1, cz2, zB, oRead, oBal, vB, h0, hb]; rfl) ?_)
    simp only [AEx.thn, AEx.blk]
    refine runs_ret ?_
    simp [lop, loud, callA, calleeA, callF_step h74, h74, callF_step h84, h84, fx, fy, fz, rx, ry, rz, hd, lx, ly, lz, -lenA, cx1, cx2, cy1, cy2, cz1, cz2, zB, oRead, oBal, vB, h0, hb]
  · have h0b : (readE b == 0) = false := by simpa using h0
    by_cases hc : bookE b = 0
    · refine runs_seq ?_
      refine runs_reg (ops_run (by simp [lop, loud, callA, calleeA, callF_step h74, h74, callF_step h84, h84, fx, fy, fz, rx, ry, rz, hd, lx, ly, lz, -lenA, cx1, cx2, cy1, cy2, cz1, cz2, zB, oRead, oBal, vB, h0, h0b, hc]; rfl) ?_)
      simp only [AEx.thn, AEx.blk]
      refine runs_seq ?_
      refine runs_reg (ops_run (by simp [lop, loud, callA, calleeA, callF_step h74, h74, callF_step h84, h84, fx, fy, fz, rx, ry, rz, hd, lx, ly, lz, -lenA, cx1, cx2, cy1, cy2, cz1, cz2, zB, oRead, oBal, vB, h0, h0b, hc]; rfl) ?_)
      simp only [AEx.thn, AEx.blk]
      refine runs_seq ?_
      refine runs_seq ?_
      refine runs_reg (ops_run (by simp [lop, loud, callA, calleeA, callF_step h74, h74, callF_step h84, h84, fx, fy, fz, rx, ry, rz, hd, lx, ly, lz, -lenA, cx1, cx2, cy1, cy2, cz1, cz2, zB, oRead, oBal, vB, h0, h0b, hc]; rfl) ?_)
      simp only [AEx.thn, AEx.blk]
      refine runs_cond (x := true) (by simp [h0]) ?_
      refine runs_seq ?_
      refine runs_reg (ops_run (by simp [lop, loud, callA, calleeA, callF_step h74, h74, callF_step h84, h84, fx, fy, fz, rx, ry, rz, hd, lx, ly, lz, -lenA, cx1, cx2, cy1, cy2, cz1, cz2, zB, oRead, oBal, vB, h0, h0b, hc]; rfl) ?_)
      simp only [AEx.thn, AEx.blk]
      refine runs_ret ?_
      simp [lop, loud, callA, calleeA, callF_step h74, h74, callF_step h84, h84, fx, fy, fz, rx, ry, rz, hd, lx, ly, lz, -lenA, cx1, cx2, cy1, cy2, cz1, cz2, zB, oRead, oBal, vB, h0, h0b, hc]
    · refine runs_seq ?_
      refine runs_reg (ops_run (by simp [lop, loud, callA, calleeA, callF_step h74, h74, callF_step h84, h84, fx, fy, fz, rx, ry, rz, hd, lx, ly, lz, -lenA, cx1, cx2, cy1, cy2, cz1, cz2, zB, oRead, oBal, vB, h0, h0b, hc]; rfl) ?_)
      simp only [AEx.thn, AEx.blk]
      refine runs_seq ?_
      refine runs_reg (ops_run (by simp [lop, loud, callA, calleeA, callF_step h74, h74, callF_step h84, h84, fx, fy, fz, rx, ry, rz, hd, lx, ly, lz, -lenA, cx1, cx2, cy1, cy2, cz1, cz2, zB, oRead, oBal, vB, h0, h0b, hc]; rfl) ?_)
      simp only [AEx.thn, AEx.blk]
      refine runs_seq ?_
      refine runs_seq ?_
      refine runs_reg (ops_run (by simp [lop, loud, callA, calleeA, callF_step h74, h74, callF_step h84, h84, fx, fy, fz, rx, ry, rz, hd, lx, ly, lz, -lenA, cx1, cx2, cy1, cy2, cz1, cz2, zB, oRead, oBal, vB, h0, h0b, hc]; rfl) ?_)
      simp only [AEx.thn, AEx.blk]
      refine runs_cond (x := true) (by simp [h0]) ?_
      refine runs_seq ?_
      refine runs_reg (ops_run (by simp [lop, loud, callA, calleeA, callF_step h74, h74, callF_step h84, h84, fx, fy, fz, rx, ry, rz, hd, lx, ly, lz, -lenA, cx1, cx2, cy1, cy2, cz1, cz2, zB, oRead, oBal, vB, h0, h0b, hc]; rfl) ?_)
      simp only [AEx.thn, AEx.blk]
      refine runs_ret ?_
      simp [lop, loud, callA, calleeA, callF_step h74, h74, callF_step h84, h84, fx, fy, fz, rx, ry, rz, hd, lx, ly, lz, -lenA, cx1, cx2, cy1, cy2, cz1, cz2, zB, oRead, oBal, vB, h0, h0b, hc]
end
end Go.Proofs.Ytfnnonoffiljhaa.Tab

namespace Go.Proofs.Ytfnnonoffiljhaa.Tab
open Go Go.Abs Go.Proofs
set_option maxRecDepth 100000
set_option maxHeartbeats 4000000
set_option linter.unusedSimpArgs false
set_option linter.unusedVariables false
section
attribute [local simp] frz_int frz_bool frz_vl frz_pv frz_agg frz_tup frz_fn frz_ref frz_sl frz_nils optAll orcF rb_int rb_bool rb_agg rb_tup rb_int' rb_bool' rb_vl rb_pv rb_yld rb_nilf rb_nilp rb_nils rb_any rb_und rb_ref rb_sl rb_fn slE chunk fillA evParts evParts3 putAt List.range_succ List.range_zero List.range'_succ List.range'_zero runX_nil' unary_not evalS_pure evAll_nil evAll_cons runX_cons stepX wantedA dop CV.ev putK_eq setK_eq appK_eq fA_eq fI_eq fN_eq fRow_eq fRows_eq nth_eq Out.v putT List.replicate_succ AEx.thn AEx.blk arI pointee Abs.rowAt ldRow allV toV toC ofV ofC Builtin.min_ Builtin.min2 Builtin.max_ Builtin.max2 min_if max_if resA tupA kill trim_self trim_len trim_emp trim_nil lenA
attribute [local simp] runD_nil' runD_cons' stepD actK_eq actD clash disj masks holes maskH unmaskH diffs news eqB allB eqA ldRowN wrote toCs ofCs stA rowsV_vl rowsV_nils rowsOf dI1 dI2 dI3 dI5 elt
attribute [local simp] st_any st_und st_agg st_tup st_bool st_int st_nilp st_ref st_pv st_nils st_sl st_vl st_nilm st_mp st_fn st_nilf st_yld co_any co_und co_agg co_tup co_bool co_int co_nilp co_ref co_pv co_nils co_sl co_vl co_nilm co_mp co_fn co_nilf co_yld
theorem frz_mapI (nv : Bool) (h : Heap) (d : Nat) (xs : List Int) : optAll (optAll (frz nv h (d + 1))) (xs.map rI) = some (xs.map rI) := frz_rows nv h d _ fun r hr z hz => by
  obtain ⟨a, _, rfl⟩ := List.mem_map.1 hr
  simp [rI] at hz; subst hz; rfl
theorem frz_mapE (nv : Bool) (h : Heap) (d : Nat) (xs : List Ent) : optAll (optAll (frz nv h (d + 1))) (xs.map rE) = some (xs.map rE) := frz_rows nv h d _ fun r hr z hz => by
  obtain ⟨a, _, rfl⟩ := List.mem_map.1 hr
  simp [rE] at hz; rcases hz with rfl | rfl | rfl <;> rfl
theorem ro_sl (h : Heap) (i k n : Nat) (t : Bool) : rowsOf h (.sl i k n t) = match Abs.rowAt h i with
    | some (_, rs) => if k + n ≤ rs.length then some ((rs.drop k).take n) else none
    | none => none := rfl
theorem ro_vl (h : Heap) (rs : List (List AVal)) (t : Bool) : rowsOf h (.vl rs t) = some rs := rfl
theorem ro_nils (h : Heap) : rowsOf h .nils = some [] := rfl
theorem ro_of {x : AVal} {rs : List (List AVal)} (hx : rowsV x = some rs) (h : Heap) : rowsOf h x = some rs := by
  cases x <;> simp [rowsV] at hx <;> subst hx <;> rfl
theorem eq_rI (n : Nat) : ∀ xs : List Int, allB (allB (eqA (n + 1))) (xs.map rI) (xs.map rI) = true
  | [] => rfl
  | v :: vs => by
    rw [List.map_cons]
    show (allB (eqA (n + 1)) (rI v) (rI v) && allB (allB (eqA (n + 1))) (vs.map rI) (vs.map rI)) = true
    rw [eq_rI n vs]; simp [rI]
theorem eq_rE (n : Nat) : ∀ xs : List Ent, allB (allB (eqA (n + 1))) (xs.map rE) (xs.map rE) = true
  | [] => rfl
  | v :: vs => by
    rw [List.map_cons]
    show (allB (eqA (n + 1)) (rE v) (rE v) && allB (allB (eqA (n + 1))) (vs.map rE) (vs.map rE)) = true
    rw [eq_rE n vs]; simp [rE]
theorem eq_rIc (n : Nat) (c : Int) (xs : List Int) : allB (allB (eqA (n + 1))) ([I c] :: xs.map rI) ([I c] :: xs.map rI) = true := eq_rI n (c :: xs)
theorem eq_rEc (n : Nat) (e : Ent) (xs : List Ent) : allB (allB (eqA (n + 1))) ([I e.1, I e.2.1, I e.2.2] :: xs.map rE) ([I e.1, I e.2.1, I e.2.2] :: xs.map rE) = true := eq_rE n (e :: xs)
theorem tk_rI (xs : List Int) : (xs.map rI).take xs.length = xs.map rI := List.take_of_length_le (by simp)
theorem tk_rE (xs : List Ent) : (xs.map rE).take xs.length = xs.map rE := List.take_of_length_le (by simp)
theorem eq_of {x : AVal} {rs : List (List AVal)} (hx : rowsV x = some rs) (n : Nat) (h : allB (allB (eqA (n + 1))) rs rs = true) : eqA (n + 2) x x = true := by
  rcases rowsV_cases hx with ⟨rfl, _⟩ | ⟨t, rfl⟩
  · rfl
  · show (allB (allB (eqA (n + 1))) rs rs && t == t) = true
    rw [h]; simp
theorem eq92n (x y : Operand) (a0 a1 a2 b0 b1 b2 : Int) : evalS Try.prog (do eqGuard .neq 92 x y (.agg #[.int .i64 a0, .int .i64 a1, .int .i64 a2]) (.agg #[.int .i64 b0, .int .i64 b1, .int .i64 b2]); binOp .neq 92 (.agg #[.int .i64 a0, .int .i64 a1, .int .i64 a2]) (.agg #[.int .i64 b0, .int .i64 b1, .int .i64 b2])) = some (.bool (!((a0 == b0) && ((a1 == b1) && ((a2 == b2) && true))))) := by
  have h := evalS_eqv (P := Try.prog) (ne := true) (t := 92) (x := x) (y := y) (xs := #[.int .i64 a0, .int .i64 a1, .int .i64 a2]) (ys := #[.int .i64 b0, .int .i64 b1, .int .i64 b2]) (b := ((a0 == b0) && ((a1 == b1) && ((a2 == b2) && true)))) (by kernel_rfl) (by kernel_rfl)
  simpa only [if_true, if_false, Bool.false_eq_true, Bool.bne_true, Bool.bne_false] using h
end
end Go.Proofs.Ytfnnonoffiljhaa.Tab

namespace Go.Proofs.Ytfnnonoffiljhaa.Tab
open Go Go.Abs Go.Proofs
set_option maxRecDepth 100000
set_option maxHeartbeats 4000000
set_option linter.unusedSimpArgs false
set_option linter.unusedVariables false
section
attribute [local simp] frz_int frz_bool frz_vl frz_pv frz_agg frz_tup frz_fn frz_ref frz_sl frz_nils optAll orcF rb_int rb_bool rb_agg rb_tup rb_int' rb_bool' rb_vl rb_pv rb_yld rb_nilf rb_nilp rb_nils rb_any rb_und rb_ref rb_sl rb_fn slE chunk fillA evParts evParts3 putAt List.range_succ List.range_zero List.range'_succ List.range'_zero runX_nil' unary_not evalS_pure evAll_nil evAll_cons runX_cons stepX wantedA dop CV.ev putK_eq setK_eq appK_eq fA_eq fI_eq fN_eq fRow_eq fRows_eq nth_eq Out.v putT List.replicate_succ AEx.thn AEx.blk arI pointee Abs.rowAt ldRow allV toV toC ofV ofC Builtin.min_ Builtin.min2 Builtin.max_ Builtin.max2 min_if max_if resA tupA kill trim_self trim_len trim_emp trim_nil lenA
attribute [local simp] runD_nil' runD_cons' stepD actK_eq actD clash disj masks holes maskH unmaskH diffs news eqB allB eqA ldRowN wrote toCs ofCs stA rowsV_vl rowsV_nils rowsOf dI1 dI2 dI3 dI5 elt
attribute [local simp] st_any st_und st_agg st_tup st_bool st_int st_nilp st_ref st_pv st_nils st_sl st_vl st_nilm st_mp st_fn st_nilf st_yld co_any co_und co_agg co_tup co_bool co_int co_nilp co_ref co_pv co_nils co_sl co_vl co_nilm co_mp co_fn co_nilf co_yld
theorem a84_1 (P : Program) (T : Nat → Option CFn) (hT : T 84 = some c84) (h98 : T 98 = some c98) (h67 : T 67 = some { c67 with frsh := true, orc := oBlot }) (b : PB) (x y z : AVal) (hx : rowsV x = some (b.opening.map rI)) (hy : rowsV y = some (b.closing.map rI)) (hz : rowsV z = some (b.entries.map rE)) (hl : b.opening.length ≤ 1000 ∧ b.closing.length ≤ 1000 ∧ b.entries.length ≤ 1000) (h0 : bookE b = 0) (a0 : Option Blk) (ra0 : ∀ n, 1 ≤ n → rbB n a0 = true) : Answers P T 84 [vB x y z] [a0] fun v h => v = .sl 3 0 b.opening.length false ∧ h = [a0, some (.row 3 [[x, y, z]]), some (.row 1 []), some (.row 1 ((balI b).map rI))] := by
  have hok := book_ok h0
  obtain ⟨hn5, he12, hn0, hcl, hop, hco, hen⟩ := hok
  obtain ⟨tx, rfl⟩ : ∃ t, x = .vl (b.opening.map rI) t := (rowsV_cases hx).resolve_left fun h => hn0 (by have := h.2; simp at this; rw [this]; rfl)
  have ho0 : b.opening ≠ [] := by intro h; rw [h] at hn0; simp at hn0
  have fx := fun H d => rowsV_frz hx H d
  have fy := fun H d => rowsV_frz hy H d
  have fz := fun H d => rowsV_frz hz H d
  have rx := fun n d => rowsV_rb hx n d
  have ry := fun n d => rowsV_rb hy n d
  have rz := fun n d => rowsV_rb hz n d
  have hd := dB_vB hx hy hz hl
  have lx := rowsV_len hx
  have ly := rowsV_len hy
  have lz := rowsV_len hz
  rw [List.length_map] at lx ly lz
  obtain ⟨cx1, cx2⟩ := rowsV_cells hx
  obtain ⟨cy1, cy2⟩ := rowsV_cells hy
  obtain ⟨cz1, cz2⟩ := rowsV_cells hz
  simp only [vB] at hd ⊢
  refine answers_of hT (orcF_none rfl) ?_
  simp only [c84]
  refine runs_seq ?_
  refine runs_reg (ops_run (by simp [lop, loud, callA, calleeA, callF_step h67, h67, oBlot, fx, fy, fz, rx, ry, rz, hd, lx, ly, lz, -lenA, cx1, cx2, cy1, cy2, cz1, cz2, zB, lim]; rfl) ?_)
  simp only [AEx.thn, AEx.blk]
  refine runs_seq ?_
  refine runs_reg (ops_take 3 (by simp; rfl) ?_)
  simp only [List.drop_succ_cons, List.drop_zero]
  refine ops_call (f := 98) (args := [.vl (b.opening.map rI) tx]) (by simp) (by simp) (by simp [lop]) (by simp [calleeA]) ?_
  refine (a98_2 P T h98 _ _ b.opening tx ho0 hl.1).mono ?_
  rintro v h' ⟨rfl, rfl⟩
  refine ops_run (by simp; rfl) ?_
  simp only [AEx.thn, AEx.blk]
  refine runs_seq ?_
  refine runs_seq ?_
  refine runs_reg (ops_run (by simp [lop, loud, callA, calleeA, callF_step h67, h67, oBlot, fx, fy, fz, rx, ry, rz, hd, lx, ly, lz, -lenA, cx1, cx2, cy1, cy2, cz1, cz2, zB, lim]; rfl) ?_)
  simp only [AEx.thn, AEx.blk]
  refine runs_block ?_
  refine runs_loop_inv (fun m σ => ∃ (k : Nat) (i : Int) (out : List Int), i = k ∧ b.entries.length - k = m ∧ k ≤ b.entries.length ∧ out.length = b.opening.length ∧ (∀ j, j < out.length → -(1000000000 + 1000000 * (k : Int)) ≤ out.getD j 0 ∧ out.getD j 0 ≤ 1000000000 + 1000000 * (k : Int)) ∧ (b.entries.drop k).foldl balStep out = balI b ∧ σ = ⟨[.any, .any, .any, .sl 3 0 b.opening.length false, .any, .any, .any, .any, .any, .any, .any, .any, z, I b.entries.length, I i, .any, .any, .any, .any, .any, .any, .any, .any, .any, .any, .any, .any, .any, .any, .any, .any, .any, .any, .any, .any, .any, .any, .any, .any, .any, .any], [a0, some (.row 3 [[.vl (b.opening.map rI) tx, y, z]]), some (.row 1 []), some (.row 1 (out.map rI))]⟩) ?_ (b.entries.length - 0) _ ⟨0, 0, b.opening, rfl, rfl, Nat.zero_le _, rfl, fun j hj => by rw [List.getD_eq_getElem?_getD, List.getElem?_eq_getElem hj]; have := hop _ (List.getElem_mem hj); simp only [Option.getD_some]; omega, rfl, by simp⟩
  rintro m σ ⟨k, i, out, hik, rfl, hkl, hol, hbd, hinv, rfl⟩
  refine runs_seq ?_
  refine runs_reg (ops_run (by simp [lop, loud, callA, calleeA, callF_step h67, h67, oBlot, fx, fy, fz, rx, ry, rz, hd, lx, ly, lz, -lenA, cx1, cx2, cy1, cy2, cz1, cz2, zB, lim]; rfl) ?_)
  simp only [AEx.thn, AEx.blk]
  refine runs_seq ?_
  refine runs_cond_split (x := decide (i < (b.entries.length : Int))) (by simp) (fun hlt => ?_) (fun hlt => ?_)
  · have hlt := of_decide_eq_true hlt
    have hk0 : k < b.entries.length := by omega
    have hne := hen _ (List.getElem_mem hk0)
    obtain ⟨tz, rfl⟩ := rowsV_get hz (k := k) (by rw [List.length_map]; omega)
    have hi0 : 0 ≤ i := by omega
    have htn : i.toNat = k := by omega
    have hwi : W .i64 (i + 1) = i + 1 := W_small (by omega)
    rw [List.drop_eq_getElem_cons hk0, List.foldl_cons] at hinv
    generalize hs : b.entries[k] = e at *
    obtain ⟨f, t, a⟩ := e
    simp only at hne
    obtain ⟨⟨hf0, hf1⟩, ⟨ht0, ht1⟩, hft, ha0, ha1⟩ := hne
    refine runs_skip ?_
    simp only [AEx.thn, AEx.blk]
    refine runs_seq ?_
    refine runs_block ?_
    refine runs_seq ?_
    refine runs_reg (ops_run (by simp [lop, loud, callA, calleeA, callF_step h67, h67, oBlot, fx, fy, fz, rx, ry, rz, hd, lx, ly, lz, -lenA, cx1, cx2, cy1, cy2, cz1, cz2, zB, lim, hi0, htn, hk0, hs, hwi, rE]; rfl) ?_)
    simp only [AEx.thn, AEx.blk]
    refine runs_seq ?_
    refine runs_reg (ops_run (by simp [lop, loud, callA, calleeA, callF_step h67, h67, oBlot, fx, fy, fz, rx, ry, rz, hd, lx, ly, lz, -lenA, cx1, cx2, cy1, cy2, cz1, cz2, zB, lim, hi0, htn, hk0, hs, hwi, rE]; rfl) ?_)
    simp only [AEx.thn, AEx.blk]
    refine runs_cond_split (x := !(a == -1)) (by simp) (fun hb => ?_) (fun hb => ?_)
    · have ha : ¬ a = -1 := by simpa using hb
      have hfl : f.toNat < out.length := by omega
      have htl : t.toNat < out.length := by omega
      have b1 := hbd f.toNat hfl
      have b2 := hbd t.toNat htl
      have g1 : out[f.toNat]? = some (out.getD f.toNat 0) := by rw [List.getD_eq_getElem?_getD, List.getElem?_eq_getElem hfl]; rfl
      have hk13 : (k : Int) ≤ 12 := by omega
      have w1 : W .i64 (out.getD f.toNat 0 - a) = out.getD f.toNat 0 - a := W_fit (by omega)
      have w2 : W .i64 (out.getD t.toNat 0 + a) = out.getD t.toNat 0 + a := W_fit (by omega)
      have hl1 : f.toNat < b.opening.length := by omega
      have hl2 : t.toNat < b.opening.length := by omega
      have e0 : (out.map rI).set f.toNat [I (out.getD f.toNat 0 - a)] = (out.set f.toNat (out.getD f.toNat 0 - a)).map rI := by rw [List.map_set]; rfl
      have hno : f.toNat ≠ t.toNat := by omega
      have g2 : (out.set f.toNat (out.getD f.toNat 0 - a))[t.toNat]? = some (out.getD t.toNat 0) := by
        rw [List.getElem?_set_ne hno, List.getD_eq_getElem?_getD, List.getElem?_eq_getElem htl]; rfl
      have e1 : balStep out (f, t, a) = (out.set f.toNat (out.getD f.toNat 0 - a)).set t.toNat (out.getD t.toNat 0 + a) := by
        unfold balStep
        simp only [ha, if_false]
        rw [List.getD_eq_getElem?_getD (l := out.set _ _), g2]; rfl
      generalize hV1 : out.getD f.toNat 0 = V1 at *
      generalize hV2 : out.getD t.toNat 0 = V2 at *
      generalize hO1 : out.set f.toNat (V1 - a) = o1 at *
      have hol1 : o1.length = b.opening.length := by rw [← hO1, List.length_set]; exact hol
      have e2 : (o1.map rI).set t.toNat [I (V2 + a)] = (o1.set t.toNat (V2 + a)).map rI := by rw [List.map_set]; rfl
      generalize hO2 : o1.set t.toNat (V2 + a) = o2 at *
      have hol2 : o2.length = b.opening.length := by rw [← hO2, List.length_set]; exact hol1
      have hr1 : ∀ v : Int, rI v = [I v] := fun _ => rfl
      have hv1 : ∀ h, out[f.toNat]'h = V1 := fun h => by rw [List.getElem?_eq_getElem h] at g1; exact Option.some.inj g1
      have hv2 : ∀ h, o1[t.toNat]'h = V2 := fun h => by rw [List.getElem?_eq_getElem h] at g2; exact Option.some.inj g2
      refine runs_seq ?_
      refine runs_drw (by simp (maxSteps := 3000000) [lop, loud, callA, calleeA, callF_step h67, h67, oBlot, fx, fy, fz, rx, ry, rz, hd, lx, ly, lz, -lenA, cx1, cx2, cy1, cy2, cz1, cz2, zB, lim, hi0, htn, hk0, hs, hwi, rE, hf0, hf1, ht0, ht1, hl1, hl2, g1, g2, w1, w2, hol, hol1, hr1, hv1, hv2, e0, e2]; rfl) ?_
      simp only [AEx.thn, AEx.blk]
      refine runs_drw (by simp (maxSteps := 3000000) [lop, loud, callA, calleeA, callF_step h67, h67, oBlot, fx, fy, fz, rx, ry, rz, hd, lx, ly, lz, -lenA, cx1, cx2, cy1, cy2, cz1, cz2, zB, lim, hi0, htn, hk0, hs, hwi, rE, hf0, hf1, ht0, ht1, hl1, hl2, g1, g2, w1, w2, hol, hol1, hr1, hv1, hv2, e0, e2]; rfl) ?_
      simp only [AEx.thn, AEx.blk]
      refine runs_reg (ops_run (by simp [lop, loud, callA, calleeA, callF_step h67, h67, oBlot, fx, fy, fz, rx, ry, rz, hd, lx, ly, lz, -lenA, cx1, cx2, cy1, cy2, cz1, cz2, zB, lim, hi0, htn, hk0, hs, hwi, rE, hf0, hf1, ht0, ht1, hl1, hl2, g1, g2, w1, w2, hol, hol1, hr1, hv1, hv2, e0, e2]; rfl) ?_)
      simp only [AEx.thn, AEx.blk]
      refine ⟨b.entries.length - (k + 1), by omega, k + 1, i + 1, o2, by omega, rfl, by omega, hol2, fun j hj => ?_, ?_, by (simp [trim, rbB_row, rbB_none, ra0 4 (by decide), lop, loud, callA, calleeA, callF_step h67, h67, oBlot, fx, fy, fz, rx, ry, rz, hd, lx, ly, lz, -lenA, cx1, cx2, cy1, cy2, cz1, cz2, zB, lim, hi0, htn, hk0, hs, hwi, rE]; try (intro x _ y hy; simp [rI] at hy; subst hy; rfl))⟩
      · rw [← hO2, ← hO1] at hj ⊢
        simp only [List.length_set] at hj
        have hbj := hbd j hj
        rw [List.getD_eq_getElem?_getD, List.getElem?_set, List.getElem?_set] at *
        simp only [List.length_set]
        split
        · try rw [if_pos (by omega)]
          simp only [Option.getD_some]; omega
        · split
          · try rw [if_pos (by omega)]
            simp only [Option.getD_some]; omega
          · omega
      · rw [e1] at hinv; exact hinv
    · obtain rfl : a = -1 := by simpa using hb
      have e1 : balStep out (f, t, -1) = out := by simp [balStep]
      rw [e1] at hinv
      refine runs_skip ?_
      simp only [AEx.thn, AEx.blk]
      refine runs_reg (ops_run (by simp [lop, loud, callA, calleeA, callF_step h67, h67, oBlot, fx, fy, fz, rx, ry, rz, hd, lx, ly, lz, -lenA, cx1, cx2, cy1, cy2, cz1, cz2, zB, lim, hi0, htn, hk0, hs, hwi, rE]; rfl) ?_)
      simp only [AEx.thn, AEx.blk]
      exact ⟨b.entries.length - (k + 1), by omega, k + 1, i + 1, out, by omega, rfl, by omega, hol, fun j hj => by have := hbd j hj; omega, hinv, by (simp [trim, rbB_row, rbB_none, ra0 4 (by decide), lop, loud, callA, calleeA, callF_step h67, h67, oBlot, fx, fy, fz, rx, ry, rz, hd, lx, ly, lz, -lenA, cx1, cx2, cy1, cy2, cz1, cz2, zB, lim, hi0, htn, hk0, hs, hwi, rE]; try (intro x _ y hy; simp [rI] at hy; subst hy; rfl))⟩
  · have hlt := of_decide_eq_false hlt
    obtain rfl : k = b.entries.length := by omega
    rw [List.drop_length] at hinv
    simp only [List.foldl_nil] at hinv
    subst hinv
    refine runs_exit ?_
    simp only [AEx.thn, AEx.blk, if_true, if_false, reduceIte, Nat.reduceEqDiff, Nat.succ_ne_zero, Nat.one_ne_zero, Nat.zero_ne_one]
    refine runs_seq ?_
    refine runs_reg (ops_run (by simp [lop, loud, callA, calleeA, callF_step h67, h67, oBlot, fx, fy, fz, rx, ry, rz, hd, lx, ly, lz, -lenA, cx1, cx2, cy1, cy2, cz1, cz2, zB, lim]; rfl) ?_)
    simp only [AEx.thn, AEx.blk]
    refine runs_ret ?_
    refine ⟨by simp, _, by simp; rfl, ?_⟩
    exact ⟨rfl, by simp [trim]⟩
/-- What is missing in each account. -/
def missI (b : PB) : List Int := List.zipWith (· - ·) b.closing (balI b)
def oMiss : List AVal → Option AVal
  | [v] => match dB v with
    | some b => if bookE b = 0 then some (.vl ((missI b).map rI) false) else none
    | none => none
  | _ => none
theorem set_mid {α : Type} (A B : List α) (k : Nat) (v : α) (hA : A.length = B.length) (hk : k < A.length) (hv : A[k] = v) : (A.take k ++ B.drop k).set k v = A.take (k + 1) ++ B.drop (k + 1) := by
  have hkB : k < B.length := by omega
  have l1 : (A.take k).length = k := by rw [List.length_take]; omega
  rw [List.set_append_right _ _ (by omega), l1, Nat.sub_self, List.drop_eq_getElem_cons hkB, List.set_cons_zero, List.take_succ_eq_append_getElem hk, hv]
  simp
theorem get_mid {α : Type} (A B : List α) (k : Nat) (hA : A.length = B.length) (hk : k < A.length) : (A.take k ++ B.drop k)[k]? = B[k]? := by
  have l1 : (A.take k).length = k := by rw [List.length_take]; omega
  rw [List.getElem?_append_right (by omega), l1, Nat.sub_self, List.getElem?_drop]; simp
/-- The accounts of a book stay in their range. -/
theorem balI_bd {b : PB} (h : bookE b = 0) (k : Nat) (hk : k < (balI b).length) : -2000000000 ≤ (balI b)[k] ∧ (balI b)[k] ≤ 2000000000 := by
  have ok := book_ok h
  have hbl : (balI b).length = b.opening.length := bal_len b.entries b.opening
  have e := balI_at ok (a := k) (by omega)
  rw [List.getD_eq_getElem?_getD, List.getElem?_eq_getElem hk] at e
  simp only [Option.getD_some] at e
  have hko : k < b.opening.length := by omega
  have h1 := ok.op _ (List.getElem_mem hko)
  have h2 := acc_bd (k : Int) b.entries (b.opening.getD k 0) 1000000000 (fun e he => ⟨(ok.en e he).2.2.2.1, (ok.en e he).2.2.2.2⟩) (by rw [List.getD_eq_getElem?_getD, List.getElem?_eq_getElem hko]; simp only [Option.getD_some]; omega)
  have h3 := ok.e12
  unfold accI at e
  rw [e]
  simp only [Int.toNat_natCast] at *
  omega
theorem a69 (P : Program) (T : Nat → Option CFn) (hT : T 69 = some c69) (h84 : T 84 = some c84) (h98 : T 98 = some c98) (h67 : T 67 = some { c67 with frsh := true, orc := oBlot }) (b : PB) (x y z : AVal) (hx : rowsV x = some (b.opening.map rI)) (hy : rowsV y = some (b.closing.map rI)) (hz : rowsV z = some (b.entries.map rE)) (hl : b.opening.length ≤ 1000 ∧ b.closing.length ≤ 1000 ∧ b.entries.length ≤ 1000) (h0 : bookE b = 0) : Answers P T 69 [vB x y z] [] fun v h => frz true h 5 v = some (.vl ((missI b).map rI) false) := by
  have hok := book_ok h0
  obtain ⟨hn5, he12, hn0, hcl, hop, hco, hen⟩ := hok
  have hn1 : ¬ b.closing.length = 0 := by omega
  obtain ⟨ty, rfl⟩ : ∃ t, y = .vl (b.closing.map rI) t := (rowsV_cases hy).resolve_left fun h => hn1 (by have := h.2; simp at this; rw [this]; rfl)
  have hbl : (balI b).length = b.opening.length := bal_len b.entries b.opening
  have hml : (missI b).length = b.opening.length := by unfold missI; rw [List.length_zipWith]; omega
  have fx := fun H d => rowsV_frz hx H d
  have fy := fun H d => rowsV_frz hy H d
  have fz := fun H d => rowsV_frz hz H d
  have rx := fun n d => rowsV_rb hx n d
  have ry := fun n d => rowsV_rb hy n d
  have rz := fun n d => rowsV_rb hz n d
  have hd := dB_vB hx hy hz hl
  have lx := rowsV_len hx
  have ly := rowsV_len hy
  have lz := rowsV_len hz
  rw [List.length_map] at lx ly lz
  obtain ⟨cx1, cx2⟩ := rowsV_cells hx
  obtain ⟨cy1, cy2⟩ := rowsV_cells hy
  obtain ⟨cz1, cz2⟩ := rowsV_cells hz
  simp only [vB] at hd ⊢
  refine answers_of hT (orcF_none rfl) ?_
  simp only [c69]
  refine runs_seq ?_
  refine runs_reg (ops_run (by simp [lop, loud, callA, calleeA, fx, fy, fz, rx, ry, rz, hd, lx, ly, lz, -lenA, cx1, cx2, cy1, cy2, cz1, cz2, zB]; rfl) ?_)
  simp only [AEx.thn, AEx.blk]
  refine runs_seq ?_
  refine runs_reg (ops_take 1 (by simp [lop, loud, callA, calleeA, fx, fy, fz, rx, ry, rz, hd, lx, ly, lz, -lenA, cx1, cx2, cy1, cy2, cz1, cz2, zB]; rfl) ?_)
  simp only [List.drop_succ_cons, List.drop_zero]
  refine ops_call (f := 84) (args := [.agg [x, .vl (b.closing.map rI) ty, z]]) (by simp) (by simp) (by simp [lop]) (by simp [calleeA]) ?_
  refine (a84_1 P T h84 h98 h67 b x (.vl (b.closing.map rI) ty) z hx hy hz hl h0 (some (.row 3 [[x, .vl (b.closing.map rI) ty, z]])) (fun n hn => by simp [rbB_row, rx, rz])).mono ?_
  rintro v h' ⟨rfl, rfl⟩
  refine ops_run (by simp; rfl) ?_
  simp only [AEx.thn, AEx.blk]
  refine runs_seq ?_
  refine runs_seq ?_
  refine runs_reg (ops_run (by simp [lop, loud, callA, calleeA, fx, fy, fz, rx, ry, rz, hd, lx, ly, lz, -lenA, cx1, cx2, cy1, cy2, cz1, cz2, zB]; rfl) ?_)
  simp only [AEx.thn, AEx.blk]
  refine runs_block ?_
  refine runs_loop_inv (fun m σ => ∃ (k : Nat) (i : Int) (cur : List Int), i = k ∧ b.opening.length - k = m ∧ k ≤ b.opening.length ∧ cur = (missI b).take k ++ (balI b).drop k ∧ σ = ⟨[.any, .any, .any, .sl 3 0 b.opening.length false, .any, .any, .any, .any, .any, .any, .vl (b.closing.map rI) ty, I b.closing.length, I i, .any, .any, .any, .any, .any, .any, .any, .any, .any, .any, .any, .any, .any, .any, .any], [some (.row 3 [[x, .vl (b.closing.map rI) ty, z]]), some (.row 3 [[x, .vl (b.closing.map rI) ty, z]]), some (.row 1 []), some (.row 1 (cur.map rI))]⟩) ?_ (b.opening.length - 0) _ ⟨0, 0, balI b, rfl, rfl, Nat.zero_le _, by simp, by simp⟩
  rintro m σ ⟨k, i, cur, hik, rfl, hkl, hcur, rfl⟩
  refine runs_seq ?_
  refine runs_reg (ops_run (by simp [lop, loud, callA, calleeA, fx, fy, fz, rx, ry, rz, hd, lx, ly, lz, -lenA, cx1, cx2, cy1, cy2, cz1, cz2, zB]; rfl) ?_)
  simp only [AEx.thn, AEx.blk]
  refine runs_seq ?_
  refine runs_cond_split (x := decide (i < (b.closing.length : Int))) (by simp) (fun hlt => ?_) (fun hlt => ?_)
  · have hlt := of_decide_eq_true hlt
    have hk0 : k < b.closing.length := by omega
    have hi0 : 0 ≤ i := by omega
    have htn : i.toNat = k := by omega
    have hwi : W .i64 (i + 1) = i + 1 := W_small (by omega)
    have hkb : k < (balI b).length := by omega
    have hkm : k < (missI b).length := by omega
    have hbb := balI_bd h0 k hkb
    have hcb := hco _ (List.getElem_mem hk0)
    have hmk : (missI b)[k] = b.closing[k] - (balI b)[k] := by simp [missI]
    have hgm := get_mid (missI b) (balI b) k (by omega) hkm
    rw [List.getElem?_eq_getElem hkb] at hgm
    subst hcur
    have hsm := set_mid (missI b) (balI b) k _ (by omega) hkm hmk
    have hlm : ((missI b).take k ++ (balI b).drop k).length = b.opening.length := by rw [List.length_append, List.length_take, List.length_drop]; omega
    have hwm : W .i64 (b.closing[k] - (balI b)[k]) = b.closing[k] - (balI b)[k] := W_fit (by omega)
    have hsm' : (((missI b).take k ++ (balI b).drop k).map rI).set k [I (b.closing[k] - (balI b)[k])] = ((missI b).take (k + 1) ++ (balI b).drop (k + 1)).map rI := by
      rw [← hsm, List.map_set]; rfl
    generalize ((missI b).take k ++ (balI b).drop k) = cur at *
    generalize hnx : ((missI b).take (k + 1) ++ (balI b).drop (k + 1)) = nxt at *
    generalize hV : (balI b)[k] = V at *
    generalize hC : b.closing[k] = C at *
    have hgc : ∀ h, cur[k]'h = V := fun h => by rw [List.getElem?_eq_getElem h] at hgm; exact Option.some.inj hgm
    have hr1 : ∀ v : Int, rI v = [I v] := fun _ => rfl
    have hkn : k < b.opening.length := by omega
    have hki : i < (b.opening.length : Int) := by omega
    refine runs_skip ?_
    simp only [AEx.thn, AEx.blk]
    refine runs_seq ?_
    refine runs_block ?_
    refine runs_seq ?_
    refine runs_reg (ops_run (by simp [lop, loud, callA, calleeA, fx, fy, fz, rx, ry, rz, hd, lx, ly, lz, -lenA, cx1, cx2, cy1, cy2, cz1, cz2, zB, hi0, htn, hk0, hwi, hlm, hC, hgm, hgc, hwm, hsm', hr1, hkn, hki]; rfl) ?_)
    simp only [AEx.thn, AEx.blk]
    refine runs_reg (ops_run (by simp [lop, loud, callA, calleeA, fx, fy, fz, rx, ry, rz, hd, lx, ly, lz, -lenA, cx1, cx2, cy1, cy2, cz1, cz2, zB, hi0, htn, hk0, hwi, hlm, hC, hgm, hgc, hwm, hsm', hr1, hkn, hki]; rfl) ?_)
    simp only [AEx.thn, AEx.blk]
    refine runs_reg (ops_run (by simp [lop, loud, callA, calleeA, fx, fy, fz, rx, ry, rz, hd, lx, ly, lz, -lenA, cx1, cx2, cy1, cy2, cz1, cz2, zB, hi0, htn, hk0, hwi, hlm, hC, hgm, hgc, hwm, hsm', hr1, hkn, hki]; rfl) ?_)
    simp only [AEx.thn, AEx.blk]
    exact ⟨b.opening.length - (k + 1), by omega, k + 1, i + 1, nxt, by omega, rfl, by omega, hnx.symm, by (simp [trim, rbB_row, rbB_none, lop, loud, callA, calleeA, fx, fy, fz, rx, ry, rz, hd, lx, ly, lz, -lenA, cx1, cx2, cy1, cy2, cz1, cz2, zB, hwi]; try (intro x _ y hy; simp [rI] at hy; subst hy; rfl))⟩
  · have hlt := of_decide_eq_false hlt
    obtain rfl : k = b.opening.length := by omega
    rw [List.take_of_length_le (by omega), List.drop_eq_nil_of_le (by omega), List.append_nil] at hcur
    subst hcur
    refine runs_exit ?_
    simp only [AEx.thn, AEx.blk, if_true, if_false, reduceIte, Nat.reduceEqDiff, Nat.succ_ne_zero, Nat.one_ne_zero, Nat.zero_ne_one]
    refine runs_seq ?_
    refine runs_reg (ops_run (by simp [lop, loud, callA, calleeA, fx, fy, fz, rx, ry, rz, hd, lx, ly, lz, -lenA, cx1, cx2, cy1, cy2, cz1, cz2, zB]; rfl) ?_)
    simp only [AEx.thn, AEx.blk]
    refine runs_ret ?_
    refine ⟨by simp, _, by simp; rfl, ?_⟩
    have e : frz true [some (.row 3 [[x, .vl (b.closing.map rI) ty, z]]), some (.row 3 [[x, .vl (b.closing.map rI) ty, z]]), some (.row 1 []), some (.row 1 ((missI b).map rI))] 5 (.sl 3 0 b.opening.length false) = some (.vl ((missI b).map rI) false) := frz_row true _ 4 3 _ 1 false _ rfl (by simp [hml]) (frz_rows true _ 3 _ fun r hr z hz => by
      obtain ⟨a, _, rfl⟩ := List.mem_map.1 hr
      simp [rI] at hz; subst hz; rfl)
    simp [trim, -frz_sl, e]
noncomputable def PS1 : Nat → Option CFn := upd PP6 69 true (oMiss)
theorem PS1_ok : TabOk Try.prog GG PS1 := tab_add mixed PP6_ok fun args v ho => by
  unfold oMiss at ho; split at ho <;> (try simp at ho)
  rename_i v
  split at ho <;> (try simp at ho)
  rename_i b hb
  obtain ⟨x, y, z, rfl, hx, hy, hz, hl⟩ := dB_eq hb
  try simp at ho
  obtain ⟨h0, rfl⟩ := ho
  exact a69 Try.prog PP6 rfl rfl rfl rfl b x y z hx hy hz hl h0
end
end Go.Proofs.Ytfnnonoffiljhaa.Tab

namespace Go.Proofs.Ytfnnonoffiljhaa.Tab
open Go Go.Abs Go.Proofs
set_option maxRecDepth 100000
set_option maxHeartbeats 4000000
set_option linter.unusedSimpArgs false
set_option linter.unusedVariables false
section
attribute [local simp] frz_int frz_bool frz_vl frz_pv frz_agg frz_tup frz_fn frz_ref frz_sl frz_nils optAll orcF rb_int rb_bool rb_agg rb_tup rb_int' rb_bool' rb_vl rb_pv rb_yld rb_nilf rb_nilp rb_nils rb_any rb_und rb_ref rb_sl rb_fn slE chunk fillA evParts evParts3 putAt List.range_succ List.range_zero List.range'_succ List.range'_zero runX_nil' unary_not evalS_pure evAll_nil evAll_cons runX_cons stepX wantedA dop CV.ev putK_eq setK_eq appK_eq fA_eq fI_eq fN_eq fRow_eq fRows_eq nth_eq Out.v putT List.replicate_succ AEx.thn AEx.blk arI pointee Abs.rowAt ldRow allV toV toC ofV ofC Builtin.min_ Builtin.min2 Builtin.max_ Builtin.max2 min_if max_if resA tupA kill trim_self trim_len trim_emp trim_nil lenA
attribute [local simp] runD_nil' runD_cons' stepD actK_eq actD clash disj masks holes maskH unmaskH diffs news eqB allB eqA ldRowN wrote toCs ofCs stA rowsV_vl rowsV_nils rowsOf dI1 dI2 dI3 dI5 elt
attribute [local simp] st_any st_und st_agg st_tup st_bool st_int st_nilp st_ref st_pv st_nils st_sl st_vl st_nilm st_mp st_fn st_nilf st_yld co_any co_und co_agg co_tup co_bool co_int co_nilp co_ref co_pv co_nils co_sl co_vl co_nilm co_mp co_fn co_nilf co_yld
theorem a46 (P : Program) (T : Nat → Option CFn) (hT : T 46 = some c46) (b : PB) (x y z : AVal) (hx : rowsV x = some (b.opening.map rI)) (hy : rowsV y = some (b.closing.map rI)) (hz : rowsV z = some (b.entries.map rE)) (hl : b.opening.length ≤ 1000 ∧ b.closing.length ≤ 1000 ∧ b.entries.length ≤ 1000) : Answers P T 46 [vB x y z] [] fun v h => frz true h 5 v = some (vB (.vl (b.opening.map rI) (b.opening.length == 0)) (.vl (b.closing.map rI) (b.closing.length == 0)) (.vl (b.entries.map rE) (b.entries.length == 0))) := by
  have rox := fun h => ro_of hx h
  have roy := fun h => ro_of hy h
  have roz := fun h => ro_of hz h
  have eqx := fun n => eq_of hx n (eq_rI n _)
  have eqy := fun n => eq_of hy n (eq_rI n _)
  have eqz := fun n => eq_of hz n (eq_rE n _)
  have fx := fun H d => rowsV_frz hx H d
  have fy := fun H d => rowsV_frz hy H d
  have fz := fun H d => rowsV_frz hz H d
  have rx := fun n d => rowsV_rb hx n d
  have ry := fun n d => rowsV_rb hy n d
  have rz := fun n d => rowsV_rb hz n d
  have hd := dB_vB hx hy hz hl
  have lx := rowsV_len hx
  have ly := rowsV_len hy
  have lz := rowsV_len hz
  rw [List.length_map] at lx ly lz
  obtain ⟨cx1, cx2⟩ := rowsV_cells hx
  obtain ⟨cy1, cy2⟩ := rowsV_cells hy
  obtain ⟨cz1, cz2⟩ := rowsV_cells hz
  simp only [vB] at hd ⊢
  refine answers_of hT (orcF_none rfl) ?_
  simp only [c46]
  refine runs_seq ?_
  refine runs_reg (ops_run (by simp [lop, loud, callA, calleeA, fx, fy, fz, rx, ry, rz, hd, lx, ly, lz, -lenA, cx1, cx2, cy1, cy2, cz1, cz2, zB, ↓eqx, ↓eqy, ↓eqz, ↓eq_rI, ↓eq_rE, ↓eq_rIc, ↓eq_rEc, tk_rI, tk_rE, vB, rox, roy, roz, ro_sl, ro_vl, ro_nils, -rowsOf, lim, List.all_map, Function.comp_def, rI, rE]; rfl) ?_)
  simp only [AEx.thn, AEx.blk]
  refine runs_seq ?_
  rcases hopening : b.opening with _ | ⟨o0, os⟩
  · skip
    rcases hclosing : b.closing with _ | ⟨c0, cs⟩
    · skip
      rcases hentries : b.entries with _ | ⟨e0, es⟩
      · skip
        refine runs_drw (by simp (maxSteps := 3000000) [lop, loud, callA, calleeA, fx, fy, fz, rx, ry, rz, hd, lx, ly, lz, -lenA, cx1, cx2, cy1, cy2, cz1, cz2, zB, ↓eqx, ↓eqy, ↓eqz, ↓eq_rI, ↓eq_rE, ↓eq_rIc, ↓eq_rEc, tk_rI, tk_rE, vB, rox, roy, roz, ro_sl, ro_vl, ro_nils, -rowsOf, lim, List.all_map, Function.comp_def, rI, rE, hopening, hclosing, hentries]; rfl) ?_
        simp only [AEx.thn, AEx.blk]
        refine runs_ret ?_
        simp [lop, loud, callA, calleeA, fx, fy, fz, rx, ry, rz, hd, lx, ly, lz, -lenA, cx1, cx2, cy1, cy2, cz1, cz2, zB, ↓eqx, ↓eqy, ↓eqz, ↓eq_rI, ↓eq_rE, ↓eq_rIc, ↓eq_rEc, tk_rI, tk_rE, vB, rox, roy, roz, ro_sl, ro_vl, ro_nils, -rowsOf, lim, List.all_map, Function.comp_def, rI, rE, hopening, hclosing, hentries, trim, frz_mapI, frz_mapE, rI, rE, optAll]
      · have lentries : es.length + 1 ≤ 1048576 := by have := hl; rw [hentries] at this; simp at this; omega
        have lentries' : es.length ≤ 1048575 := by omega
        refine runs_drw (by simp (maxSteps := 3000000) [lop, loud, callA, calleeA, fx, fy, fz, rx, ry, rz, hd, lx, ly, lz, -lenA, cx1, cx2, cy1, cy2, cz1, cz2, zB, ↓eqx, ↓eqy, ↓eqz, ↓eq_rI, ↓eq_rE, ↓eq_rIc, ↓eq_rEc, tk_rI, tk_rE, vB, rox, roy, roz, ro_sl, ro_vl, ro_nils, -rowsOf, lim, List.all_map, Function.comp_def, rI, rE, hopening, hclosing, hentries, lentries, lentries']; rfl) ?_
        simp only [AEx.thn, AEx.blk]
        refine runs_ret ?_
        simp [lop, loud, callA, calleeA, fx, fy, fz, rx, ry, rz, hd, lx, ly, lz, -lenA, cx1, cx2, cy1, cy2, cz1, cz2, zB, ↓eqx, ↓eqy, ↓eqz, ↓eq_rI, ↓eq_rE, ↓eq_rIc, ↓eq_rEc, tk_rI, tk_rE, vB, rox, roy, roz, ro_sl, ro_vl, ro_nils, -rowsOf, lim, List.all_map, Function.comp_def, rI, rE, hopening, hclosing, hentries, lentries, lentries', trim, frz_mapI, frz_mapE, rI, rE, optAll]
    · have lclosing : cs.length + 1 ≤ 1048576 := by have := hl; rw [hclosing] at this; simp at this; omega
      have lclosing' : cs.length ≤ 1048575 := by omega
      rcases hentries : b.entries with _ | ⟨e0, es⟩
      · skip
        refine runs_drw (by simp (maxSteps := 3000000) [lop, loud, callA, calleeA, fx, fy, fz, rx, ry, rz, hd, lx, ly, lz, -lenA, cx1, cx2, cy1, cy2, cz1, cz2, zB, ↓eqx, ↓eqy, ↓eqz, ↓eq_rI, ↓eq_rE, ↓eq_rIc, ↓eq_rEc, tk_rI, tk_rE, vB, rox, roy, roz, ro_sl, ro_vl, ro_nils, -rowsOf, lim, List.all_map, Function.comp_def, rI, rE, hopening, hclosing, lclosing, lclosing', hentries]; rfl) ?_
        simp only [AEx.thn, AEx.blk]
        refine runs_ret ?_
        simp [lop, loud, callA, calleeA, fx, fy, fz, rx, ry, rz, hd, lx, ly, lz, -lenA, cx1, cx2, cy1, cy2, cz1, cz2, zB, ↓eqx, ↓eqy, ↓eqz, ↓eq_rI, ↓eq_rE, ↓eq_rIc, ↓eq_rEc, tk_rI, tk_rE, vB, rox, roy, roz, ro_sl, ro_vl, ro_nils, -rowsOf, lim, List.all_map, Function.comp_def, rI, rE, hopening, hclosing, lclosing, lclosing', hentries, trim, frz_mapI, frz_mapE, rI, rE, optAll]
      · have lentries : es.length + 1 ≤ 1048576 := by have := hl; rw [hentries] at this; simp at this; omega
        have lentries' : es.length ≤ 1048575 := by omega
        refine runs_drw (by simp (maxSteps := 3000000) [lop, loud, callA, calleeA, fx, fy, fz, rx, ry, rz, hd, lx, ly, lz, -lenA, cx1, cx2, cy1, cy2, cz1, cz2, zB, ↓eqx, ↓eqy, ↓eqz, ↓eq_rI, ↓eq_rE, ↓eq_rIc, ↓eq_rEc, tk_rI, tk_rE, vB, rox, roy, roz, ro_sl, ro_vl, ro_nils, -rowsOf, lim, List.all_map, Function.comp_def, rI, rE, hopening, hclosing, lclosing, lclosing', hentries, lentries, lentries']; rfl) ?_
        simp only [AEx.thn, AEx.blk]
        refine runs_ret ?_
        simp [lop, loud, callA, calleeA, fx, fy, fz, rx, ry, rz, hd, lx, ly, lz, -lenA, cx1, cx2, cy1, cy2, cz1, cz2, zB, ↓eqx, ↓eqy, ↓eqz, ↓eq_rI, ↓eq_rE, ↓eq_rIc, ↓eq_rEc, tk_rI, tk_rE, vB, rox, roy, roz, ro_sl, ro_vl, ro_nils, -rowsOf, lim, List.all_map, Function.comp_def, rI, rE, hopening, hclosing, lclosing, lclosing', hentries, lentries, lentries', trim, frz_mapI, frz_mapE, rI, rE, optAll]
  · have lopening : os.length + 1 ≤ 1048576 := by have := hl; rw [hopening] at this; simp at this; omega
    have lopening' : os.length ≤ 1048575 := by omega
    rcases hclosing : b.closing with _ | ⟨c0, cs⟩
    · skip
      rcases hentries : b.entries with _ | ⟨e0, es⟩
      · skip
        refine runs_drw (by simp (maxSteps := 3000000) [lop, loud, callA, calleeA, fx, fy, fz, rx, ry, rz, hd, lx, ly, lz, -lenA, cx1, cx2, cy1, cy2, cz1, cz2, zB, ↓eqx, ↓eqy, ↓eqz, ↓eq_rI, ↓eq_rE, ↓eq_rIc, ↓eq_rEc, tk_rI, tk_rE, vB, rox, roy, roz, ro_sl, ro_vl, ro_nils, -rowsOf, lim, List.all_map, Function.comp_def, rI, rE, hopening, lopening, lopening', hclosing, hentries]; rfl) ?_
        simp only [AEx.thn, AEx.blk]
        refine runs_ret ?_
        simp [lop, loud, callA, calleeA, fx, fy, fz, rx, ry, rz, hd, lx, ly, lz, -lenA, cx1, cx2, cy1, cy2, cz1, cz2, zB, ↓eqx, ↓eqy, ↓eqz, ↓eq_rI, ↓eq_rE, ↓eq_rIc, ↓eq_rEc, tk_rI, tk_rE, vB, rox, roy, roz, ro_sl, ro_vl, ro_nils, -rowsOf, lim, List.all_map, Function.comp_def, rI, rE, hopening, lopening, lopening', hclosing, hentries, trim, frz_mapI, frz_mapE, rI, rE, optAll]
      · have lentries : es.length + 1 ≤ 1048576 := by have := hl; rw [hentries] at this; simp at this; omega
        have lentries' : es.length ≤ 1048575 := by omega
        refine runs_drw (by simp (maxSteps := 3000000) [lop, loud, callA, calleeA, fx, fy, fz, rx, ry, rz, hd, lx, ly, lz, -lenA, cx1, cx2, cy1, cy2, cz1, cz2, zB, ↓eqx, ↓eqy, ↓eqz, ↓eq_rI, ↓eq_rE, ↓eq_rIc, ↓eq_rEc, tk_rI, tk_rE, vB, rox, roy, roz, ro_sl, ro_vl, ro_nils, -rowsOf, lim, List.all_map, Function.comp_def, rI, rE, hopening, lopening, lopening', hclosing, hentries, lentries, lentries']; rfl) ?_
        simp only [AEx.thn, AEx.blk]
        refine runs_ret ?_
        simp [lop, loud, callA, calleeA, fx, fy, fz, rx, ry, rz, hd, lx, ly, lz, -lenA, cx1, cx2, cy1, cy2, cz1, cz2, zB, ↓eqx, ↓eqy, ↓eqz, ↓eq_rI, ↓eq_rE, ↓eq_rIc, ↓eq_rEc, tk_rI, tk_rE, vB, rox, roy, roz, ro_sl, ro_vl, ro_nils, -rowsOf, lim, List.all_map, Function.comp_def, rI, rE, hopening, lopening, lopening', hclosing, hentries, lentries, lentries', trim, frz_mapI, frz_mapE, rI, rE, optAll]
    · have lclosing : cs.length + 1 ≤ 1048576 := by have := hl; rw [hclosing] at this; simp at this; omega
      have lclosing' : cs.length ≤ 1048575 := by omega
      rcases hentries : b.entries with _ | ⟨e0, es⟩
      · skip
        refine runs_drw (by simp (maxSteps := 3000000) [lop, loud, callA, calleeA, fx, fy, fz, rx, ry, rz, hd, lx, ly, lz, -lenA, cx1, cx2, cy1, cy2, cz1, cz2, zB, ↓eqx, ↓eqy, ↓eqz, ↓eq_rI, ↓eq_rE, ↓eq_rIc, ↓eq_rEc, tk_rI, tk_rE, vB, rox, roy, roz, ro_sl, ro_vl, ro_nils, -rowsOf, lim, List.all_map, Function.comp_def, rI, rE, hopening, lopening, lopening', hclosing, lclosing, lclosing', hentries]; rfl) ?_
        simp only [AEx.thn, AEx.blk]
        refine runs_ret ?_
        simp [lop, loud, callA, calleeA, fx, fy, fz, rx, ry, rz, hd, lx, ly, lz, -lenA, cx1, cx2, cy1, cy2, cz1, cz2, zB, ↓eqx, ↓eqy, ↓eqz, ↓eq_rI, ↓eq_rE, ↓eq_rIc, ↓eq_rEc, tk_rI, tk_rE, vB, rox, roy, roz, ro_sl, ro_vl, ro_nils, -rowsOf, lim, List.all_map, Function.comp_def, rI, rE, hopening, lopening, lopening', hclosing, lclosing, lclosing', hentries, trim, frz_mapI, frz_mapE, rI, rE, optAll]
      · have lentries : es.length + 1 ≤ 1048576 := by have := hl; rw [hentries] at this; simp at this; omega
        have lentries' : es.length ≤ 1048575 := by omega
        refine runs_drw (by simp (maxSteps := 3000000) [lop, loud, callA, calleeA, fx, fy, fz, rx, ry, rz, hd, lx, ly, lz, -lenA, cx1, cx2, cy1, cy2, cz1, cz2, zB, ↓eqx, ↓eqy, ↓eqz, ↓eq_rI, ↓eq_rE, ↓eq_rIc, ↓eq_rEc, tk_rI, tk_rE, vB, rox, roy, roz, ro_sl, ro_vl, ro_nils, -rowsOf, lim, List.all_map, Function.comp_def, rI, rE, hopening, lopening, lopening', hclosing, lclosing, lclosing', hentries, lentries, lentries']; rfl) ?_
        simp only [AEx.thn, AEx.blk]
        refine runs_ret ?_
        simp [lop, loud, callA, calleeA, fx, fy, fz, rx, ry, rz, hd, lx, ly, lz, -lenA, cx1, cx2, cy1, cy2, cz1, cz2, zB, ↓eqx, ↓eqy, ↓eqz, ↓eq_rI, ↓eq_rE, ↓eq_rIc, ↓eq_rEc, tk_rI, tk_rE, vB, rox, roy, roz, ro_sl, ro_vl, ro_nils, -rowsOf, lim, List.all_map, Function.comp_def, rI, rE, hopening, lopening, lopening', hclosing, lclosing, lclosing', hentries, lentries, lentries', trim, frz_mapI, frz_mapE, rI, rE, optAll]
def oSettle0 : List AVal → Option AVal
  | [.nils, z] => match rowsV z with
    | some rz => match optAll dI1 rz with
      | some ms => if ms ≠ [] ∧ ms.length ≤ 1000 ∧ (∀ m ∈ ms, 0 ≤ m) then some (.bool (wB 0 0 ms)) else none
      | none => none
    | none => none
  | _ => none
theorem rI_eq (v : Int) : rI v = [I v] := rfl
theorem a98_0 (P : Program) (T : Nat → Option CFn) (hT : T 98 = some c98) (xs : List Int) (t : Bool) (h0 : xs ≠ []) (hl : xs.length ≤ 1000) : Answers P T 98 [.vl (xs.map rI) t] [] fun v h => v = .sl 1 0 xs.length false ∧ h = [some (.row 1 []), some (.row 1 (xs.map rI))] := by
  have hs : ¬ xs = [] := h0
  have hl1 : xs.length ≤ 1048576 := by omega
  have hl2 : 0 < xs.length := List.length_pos_iff.2 h0
  refine answers_of hT (orcF_none rfl) ?_
  simp only [c98]
  refine runs_seq ?_
  refine runs_reg (ops_run (by simp [lop, loud, callA, calleeA, lim, hl1, hl2, hs, List.all_map, Function.comp_def, rI]; rfl) ?_)
  simp only [AEx.thn, AEx.blk]
  refine runs_seq ?_
  refine runs_seq ?_
  refine runs_reg (ops_run (by simp [lop, loud, callA, calleeA, lim, hl1, hl2, hs, List.all_map, Function.comp_def, rI]; rfl) ?_)
  simp only [AEx.thn, AEx.blk]
  refine runs_cond (x := false) (by simp) ?_
  refine runs_skip ?_
  simp only [AEx.thn, AEx.blk]
  refine runs_seq ?_
  refine runs_reg (ops_run (by simp [lop, loud, callA, calleeA, lim, hl1, hl2, hs, List.all_map, Function.comp_def, rI]; rfl) ?_)
  simp only [AEx.thn, AEx.blk]
  refine runs_ret ?_
  refine ⟨by simp, _, by simp; rfl, ?_⟩
  exact ⟨rfl, by simp [trim, rI]⟩
theorem a68 (P : Program) (T : Nat → Option CFn) (hT : T 68 = some c68) (h98 : T 98 = some c98) (h65 : T 65 = some { c65 with frsh := true, orc := oWithin }) (z : AVal) (ms : List Int) (hz : rowsV z = some (ms.map rI)) (hm0 : ms ≠ []) (hl : ms.length ≤ 1000) (hm : ∀ m ∈ ms, 0 ≤ m) :
    Answers P T 68 [.nils, z] [] fun v h => frz true h 5 v = some (.bool (wB 0 0 ms)) := by
  have lz := rowsV_len hz
  rw [List.length_map] at lz
  have fz := fun H d => rowsV_frz hz H d
  have rz := fun n d => rowsV_rb hz n d
  obtain ⟨tz, rfl⟩ : ∃ t, z = .vl (ms.map rI) t := (rowsV_cases hz).resolve_left fun h => hm0 (by simpa using h.2)
  refine answers_of hT (orcF_none rfl) ?_
  simp only [c68]
  refine runs_seq ?_
  refine runs_reg (ops_run (by simp [lop, loud, callA, calleeA, callF_step h65, h65, oWithin, lz, -lenA, rz, fz, rI_eq]; rfl) ?_)
  simp only [AEx.thn, AEx.blk]
  refine runs_seq ?_
  refine runs_reg (ops_take 1 (by simp; rfl) ?_)
  simp only [List.drop_succ_cons, List.drop_zero]
  refine ops_call (f := 98) (args := [.vl (ms.map rI) tz]) (by simp) (by simp) (by simp [lop]) (by simp [calleeA]) ?_
  refine (a98_0 P T h98 ms tz hm0 hl).mono ?_
  rintro v h' ⟨rfl, rfl⟩
  refine ops_run (by simp; rfl) ?_
  simp only [AEx.thn, AEx.blk]
  refine runs_seq ?_
  refine runs_seq ?_
  refine runs_reg (ops_run (by simp [lop, loud, callA, calleeA, callF_step h65, h65, oWithin, lz, -lenA, rz, fz, rI_eq]; rfl) ?_)
  simp only [AEx.thn, AEx.blk]
  refine runs_block ?_
  refine runs_loop_inv (fun mo σ => ∃ (c : Nat) (s : Int), c = mo ∧ ((c = 1 ∧ s = 1) ∨ (c = 0 ∧ s = 0)) ∧ σ = ⟨[.nils, .any, .any, .any, .any, .sl 1 0 ms.length false, I s, .any, .any, .any, .any, .any, .any, .any, .any, .any, .any, .any, .any, .any, .any, .any, .any, .any, .any, .any, .any, .any, .any, .any, .any, .any, .any, .any, .any, .any, .any, .any, .any, .any, .any, .any, .any, .any, .any, .any, .any, .any, .any, .any, .any, .any, .any, .any, .any, .any, .any, .any, .any, .any, .any, .any, .any, .any, .any, .any, .any, .any, .any, .any, .any, .any, .any, .any, .any], [some (.row 1 []), some (.row 1 (ms.map rI))]⟩) ?_ 1 _ ⟨1, 1, rfl, .inl ⟨rfl, rfl⟩, by simp⟩
  rintro mo σ ⟨c, s, rfl, ⟨rfl, rfl⟩ | ⟨rfl, rfl⟩, rfl⟩
  · refine runs_seq ?_
    refine runs_seq ?_
    refine runs_reg (ops_run (by simp [lop, loud, callA, calleeA, callF_step h65, h65, oWithin, lz, -lenA, rz, fz, rI_eq]; rfl) ?_)
    simp only [AEx.thn, AEx.blk]
    refine runs_cond (x := true) (by simp) ?_
    refine runs_skip ?_
    simp only [AEx.thn, AEx.blk]
    refine runs_block ?_
    refine runs_seq ?_
    refine runs_reg (ops_run (by simp [lop, loud, callA, calleeA, callF_step h65, h65, oWithin, lz, -lenA, rz, fz, rI_eq]; rfl) ?_)
    simp only [AEx.thn, AEx.blk]
    refine runs_seq ?_
    refine runs_reg (ops_run (by simp [lop, loud, callA, calleeA, callF_step h65, h65, oWithin, lz, -lenA, rz, fz, rI_eq]; rfl) ?_)
    simp only [AEx.thn, AEx.blk]
    refine runs_block ?_
    refine runs_loop_inv (fun m1 σ => ∃ (k : Nat) (i : Int), i = k ∧ ms.length - k = m1 ∧ k ≤ ms.length ∧ σ = ⟨[.nils, .any, .any, .any, .any, .sl 1 0 ms.length false, I 0, .any, .any, .any, .any, .any, .any, .any, .any, I ms.length, I i, .any, .any, .any, .any, .any, .any, .any, .any, .any, .any, .any, .any, .any, .any, .any, .any, .any, .any, .any, .any, .any, .any, .any, .any, .any, .any, .any, .any, .any, .any, .any, .any, .any, .any, .any, .any, .any, .any, .any, .any, .any, .any, .any, .any, .any, .any, .any, .any, .any, .any, .any, .any, .any, .any, .any, .any, .any, .any], [some (.row 1 []), some (.row 1 (ms.map rI))]⟩) ?_ (ms.length - 0) _ ⟨0, 0, rfl, rfl, Nat.zero_le _, by simp⟩
    rintro m1 σ ⟨k, i, hik, rfl, hkl, rfl⟩
    refine runs_seq ?_
    refine runs_reg (ops_run (by simp [lop, loud, callA, calleeA, callF_step h65, h65, oWithin, lz, -lenA, rz, fz, rI_eq]; rfl) ?_)
    simp only [AEx.thn, AEx.blk]
    refine runs_seq ?_
    refine runs_cond_split (x := decide (i < (ms.length : Int))) (by simp) (fun hlt => ?_) (fun hlt => ?_)
    · have hlt := of_decide_eq_true hlt
      have hk0 : k < ms.length := by omega
      have hi0 : 0 ≤ i := by omega
      have htn : i.toNat = k := by omega
      have hki : i < (ms.length : Int) := by omega
      have hwi : W .i64 (i + 1) = i + 1 := W_small (by omega)
      have hmk := hm _ (List.getElem_mem hk0)
      have hmn : ¬ ms[k] < 0 := by omega
      have hd : decide (ms[k] < 0) = false := by simpa using hmn
      refine runs_skip ?_
      simp only [AEx.thn, AEx.blk]
      refine runs_seq ?_
      refine runs_block ?_
      refine runs_seq ?_
      refine runs_reg (ops_run (by simp [lop, loud, callA, calleeA, callF_step h65, h65, oWithin, lz, -lenA, rz, fz, rI_eq, hi0, htn, hk0, hki, hwi, hmn]; rfl) ?_)
      simp only [AEx.thn, AEx.blk]
      refine runs_seq ?_
      refine runs_reg (ops_run (by simp [lop, loud, callA, calleeA, callF_step h65, h65, oWithin, lz, -lenA, rz, fz, rI_eq, hi0, htn, hk0, hki, hwi, hmn]; rfl) ?_)
      simp only [AEx.thn, AEx.blk]
      refine runs_block ?_
      refine runs_loop_inv (fun m2 σ => ∃ (j : Nat) (i2 : Int), i2 = j ∧ ms.length - j = m2 ∧ j ≤ ms.length ∧ σ = ⟨[.nils, .any, .any, .any, .any, .sl 1 0 ms.length false, I 0, I i, .any, .any, .any, .any, .any, .any, .any, I ms.length, I i, .any, .any, .any, I ms.length, I i2, .any, .any, .any, .any, .any, .any, .any, .any, .any, .any, .any, .any, .any, .any, .any, .any, .any, .any, .any, .any, .any, .any, .any, .any, .any, .any, .any, .any, .any, .any, .any, .any, .any, .any, .any, .any, .any, .any, .any, .any, .any, .any, .any, .any, .any, .any, .any, .any, .any, .any, .any, .any, .any], [some (.row 1 []), some (.row 1 (ms.map rI))]⟩) ?_ (ms.length - 0) _ ⟨0, 0, rfl, rfl, Nat.zero_le _, by simp⟩
      rintro m2 σ ⟨j, i2, hij, rfl, hjl, rfl⟩
      refine runs_seq ?_
      refine runs_reg (ops_run (by simp [lop, loud, callA, calleeA, callF_step h65, h65, oWithin, lz, -lenA, rz, fz, rI_eq, hi0, htn, hk0, hki, hwi, hmn]; rfl) ?_)
      simp only [AEx.thn, AEx.blk]
      refine runs_seq ?_
      refine runs_cond_split (x := decide (i2 < (ms.length : Int))) (by simp) (fun hlt2 => ?_) (fun hlt2 => ?_)
      · have hlt2 := of_decide_eq_true hlt2
        have hj0 : j < ms.length := by omega
        have hi20 : 0 ≤ i2 := by omega
        have htn2 : i2.toNat = j := by omega
        have hki2 : i2 < (ms.length : Int) := by omega
        have hwi2 : W .i64 (i2 + 1) = i2 + 1 := W_small (by omega)
        refine runs_skip ?_
        simp only [AEx.thn, AEx.blk]
        refine runs_seq ?_
        refine runs_block ?_
        refine runs_seq ?_
        refine runs_reg (ops_run (by simp [lop, loud, callA, calleeA, callF_step h65, h65, oWithin, lz, -lenA, rz, fz, rI_eq, hi0, htn, hk0, hki, hwi, hmn, hi20, htn2, hj0, hki2, hwi2]; rfl) ?_)
        simp only [AEx.thn, AEx.blk]
        refine runs_seq ?_
        refine runs_reg (ops_run (by simp [lop, loud, callA, calleeA, callF_step h65, h65, oWithin, lz, -lenA, rz, fz, rI_eq, hi0, htn, hk0, hki, hwi, hmn, hi20, htn2, hj0, hki2, hwi2]; rfl) ?_)
        simp only [AEx.thn, AEx.blk]
        refine runs_cond (x := false) (by simp) ?_
        refine runs_skip ?_
        simp only [AEx.thn, AEx.blk]
        refine runs_reg (ops_run (by simp [lop, loud, callA, calleeA, callF_step h65, h65, oWithin, lz, -lenA, rz, fz, rI_eq, hi0, htn, hk0, hki, hwi, hmn, hi20, htn2, hj0, hki2, hwi2]; rfl) ?_)
        simp only [AEx.thn, AEx.blk]
        exact ⟨ms.length - (j + 1), by omega, j + 1, i2 + 1, by omega, rfl, by omega, by simp [trim, rbB_row, rbB_none, lop, loud, callA, calleeA, callF_step h65, h65, oWithin, lz, -lenA, rz, fz, rI_eq, hi0, htn, hk0, hki, hwi, hmn, hi20, htn2, hj0, hki2, hwi2]⟩
      · refine runs_exit ?_
        simp only [AEx.thn, AEx.blk, if_true, if_false, reduceIte, Nat.reduceEqDiff, Nat.succ_ne_zero, Nat.one_ne_zero, Nat.zero_ne_one]
        refine runs_reg (ops_run (by simp [lop, loud, callA, calleeA, callF_step h65, h65, oWithin, lz, -lenA, rz, fz, rI_eq, hi0, htn, hk0, hki, hwi, hmn]; rfl) ?_)
        simp only [AEx.thn, AEx.blk]
        exact ⟨ms.length - (k + 1), by omega, k + 1, i + 1, by omega, rfl, by omega, by simp [trim, rbB_row, rbB_none, lop, loud, callA, calleeA, callF_step h65, h65, oWithin, lz, -lenA, rz, fz, rI_eq, hi0, htn, hk0, hki, hwi, hmn]⟩
    · refine runs_exit ?_
      simp only [AEx.thn, AEx.blk, if_true, if_false, reduceIte, Nat.reduceEqDiff, Nat.succ_ne_zero, Nat.one_ne_zero, Nat.zero_ne_one]
      exact ⟨0, by omega, 0, 0, rfl, .inr ⟨rfl, rfl⟩, by simp [trim, rbB_row, rbB_none, lop, loud, callA, calleeA, callF_step h65, h65, oWithin, lz, -lenA, rz, fz, rI_eq]⟩
  · refine runs_seq ?_
    refine runs_seq ?_
    refine runs_reg (ops_run (by simp [lop, loud, callA, calleeA, callF_step h65, h65, oWithin, lz, -lenA, rz, fz, rI_eq]; rfl) ?_)
    simp only [AEx.thn, AEx.blk]
    refine runs_cond (x := false) (by simp) ?_
    have e : ∀ d, frz true [some (.row 1 []), some (.row 1 (ms.map rI))] (d + 2) (.sl 1 0 ms.length false) = some (.vl (ms.map rI) false) := fun d => frz_row true _ (d + 1) 1 _ 1 false _ rfl (by simp) (frz_mapI true _ d ms)
    have e' : ∀ d, frz false [some (.row 1 []), some (.row 1 (ms.map rI))] (d + 2) (.sl 1 0 ms.length false) = some (.vl (ms.map rI) false) := fun d => frz_row false _ (d + 1) 1 _ 1 false _ rfl (by simp) (frz_mapI false _ d ms)
    have hw : oWithin [.int .i64 0, .int .i64 0, .vl (ms.map rI) false] = some (.bool (wB 0 0 ms)) := oWithin_eq 0 0 rfl hl
    refine runs_exit ?_
    simp only [AEx.thn, AEx.blk, if_true, if_false, reduceIte, Nat.reduceEqDiff, Nat.succ_ne_zero, Nat.one_ne_zero, Nat.zero_ne_one]
    refine runs_seq ?_
    refine runs_reg (ops_run (by simp [lop, loud, callA, calleeA, callF_step h65, h65, lz, -lenA, rz, fz, rI_eq, -frz_sl, e, e', hw]; rfl) ?_)
    simp only [AEx.thn, AEx.blk]
    refine runs_ret ?_
    simp [lop, loud, callA, calleeA, callF_step h65, h65, lz, -lenA, rz, fz, rI_eq, -frz_sl, e, e', hw, trim]
end
end Go.Proofs.Ytfnnonoffiljhaa.Tab

namespace Go.Proofs.Ytfnnonoffiljhaa.Tab
open Go Go.Abs Go.Proofs
set_option maxRecDepth 100000
set_option maxHeartbeats 4000000
set_option linter.unusedSimpArgs false
set_option linter.unusedVariables false
section
attribute [local simp] frz_int frz_bool frz_vl frz_pv frz_agg frz_tup frz_fn frz_ref frz_sl frz_nils optAll orcF rb_int rb_bool rb_agg rb_tup rb_int' rb_bool' rb_vl rb_pv rb_yld rb_nilf rb_nilp rb_nils rb_any rb_und rb_ref rb_sl rb_fn slE chunk fillA evParts evParts3 putAt List.range_succ List.range_zero List.range'_succ List.range'_zero runX_nil' unary_not evalS_pure evAll_nil evAll_cons runX_cons stepX wantedA dop CV.ev putK_eq setK_eq appK_eq fA_eq fI_eq fN_eq fRow_eq fRows_eq nth_eq Out.v putT List.replicate_succ AEx.thn AEx.blk arI pointee Abs.rowAt ldRow allV toV toC ofV ofC Builtin.min_ Builtin.min2 Builtin.max_ Builtin.max2 min_if max_if resA tupA kill trim_self trim_len trim_emp trim_nil lenA
attribute [local simp] runD_nil' runD_cons' stepD actK_eq actD clash disj masks holes maskH unmaskH diffs news eqB allB eqA ldRowN wrote toCs ofCs stA rowsV_vl rowsV_nils rowsOf dI1 dI2 dI3 dI5 elt
attribute [local simp] st_any st_und st_agg st_tup st_bool st_int st_nilp st_ref st_pv st_nils st_sl st_vl st_nilm st_mp st_fn st_nilf st_yld co_any co_und co_agg co_tup co_bool co_int co_nilp co_ref co_pv co_nils co_sl co_vl co_nilm co_mp co_fn co_nilf co_yld
def oCopied : List AVal → Option AVal
  | [v] => match dB v with
    | some b => some (vB (.vl (b.opening.map rI) (b.opening.length == 0)) (.vl (b.closing.map rI) (b.closing.length == 0)) (.vl (b.entries.map rE) (b.entries.length == 0)))
    | none => none
  | _ => none
def rS2 (e : Ent) : List AVal := [I e.2.2, I e.2.2]
theorem frz_mapS (nv : Bool) (h : Heap) (d : Nat) (xs : List Ent) : optAll (optAll (frz nv h (d + 1))) (xs.map rS2) = some (xs.map rS2) := frz_rows nv h d _ fun r hr z hz => by
  obtain ⟨a, _, rfl⟩ := List.mem_map.1 hr
  simp [rS2] at hz; subst hz; rfl
theorem rbS (n : Nat) (xs : List Ent) : ((xs.map rS2).all fun r => r.all (rb n 5)) = true := by
  simp only [List.all_eq_true]
  intro r hr z hz
  obtain ⟨a, _, rfl⟩ := List.mem_map.1 hr
  simp [rS2] at hz; subst hz; rfl
def sV' (rows : List (List AVal)) : AVal := match rows with
  | [] => .nils
  | _ => .vl rows false
def oFill0 : List AVal → Option AVal
  | [v] => match dB v with
    | some b => if bookE b = 0 ∧ (∀ e ∈ b.entries, e.2.2 ≠ -1) ∧ (∀ m ∈ missI b, 0 ≤ m) then some (.tup [if wB 0 0 (missI b) = true then sV' (b.entries.map rS2) else .nils, I (if wB 0 0 (missI b) = true then 0 else 9)]) else none
    | none => none
  | _ => none
noncomputable def PS2_46 : Nat → Option CFn := upd PS1 46 true (oCopied)
theorem PS2_46_ok : TabOk Try.prog GG PS2_46 := tab_add mixed PS1_ok fun args v ho => by
  unfold oCopied at ho; split at ho <;> (try simp at ho)
  rename_i v
  split at ho <;> (try simp at ho)
  rename_i b hb
  obtain ⟨x, y, z, rfl, hx, hy, hz, hl⟩ := dB_eq hb
  try simp at ho
  subst ho
  exact a46 Try.prog PS1 rfl b x y z hx hy hz hl
noncomputable def PS2 : Nat → Option CFn := upd PS2_46 68 true (oSettle0)
theorem PS2_ok : TabOk Try.prog GG PS2 := tab_add mixed PS2_46_ok fun args v ho => by
  unfold oSettle0 at ho; split at ho <;> (try simp at ho)
  rename_i z
  split at ho <;> (try simp at ho)
  rename_i rz hz
  split at ho <;> (try simp at ho)
  rename_i ms hms
  obtain ⟨⟨h1, h2, h3⟩, rfl⟩ := ho
  have e := optAll_eq dI1_eq hms
  subst e
  exact a68 Try.prog PS2_46 rfl rfl rfl z ms hz h1 h2 h3
theorem a29 (P : Program) (T : Nat → Option CFn) (hT : T 29 = some { c29 with body := annK [(3940649673949476, [.slot 2])] [] c29.body }) (h66 : T 66 = some { c66 with frsh := false, orc := oOpenB }) (h67 : T 67 = some { c67 with frsh := true, orc := oBlot }) (h68 : T 68 = some { c68 with frsh := true, orc := oSettle0 }) (h69 : T 69 = some { c69 with frsh := true, orc := oMiss }) (b : PB) (x y z : AVal) (hx : rowsV x = some (b.opening.map rI)) (hy : rowsV y = some (b.closing.map rI)) (hz : rowsV z = some (b.entries.map rE)) (hl : b.opening.length ≤ 1000 ∧ b.closing.length ≤ 1000 ∧ b.entries.length ≤ 1000) (hg : bookE b = 0 ∧ (∀ e ∈ b.entries, e.2.2 ≠ -1) ∧ (∀ m ∈ missI b, 0 ≤ m)) :
    Answers P T 29 [vB x y z] [] fun v h => frz true h 5 v = some (.tup [if wB 0 0 (missI b) = true then sV' (b.entries.map rS2) else .nils, I (if wB 0 0 (missI b) = true then 0 else 9)]) := by
  obtain ⟨h0, hnb, hmn⟩ := hg
  have hok := book_ok h0
  obtain ⟨hn5, he12, hn0, hcl, hop, hco, hen⟩ := hok
  have hbl : (balI b).length = b.opening.length := bal_len b.entries b.opening
  have hml : (missI b).length = b.opening.length := by unfold missI; rw [List.length_zipWith]; omega
  have hm0 : missI b ≠ [] := by intro h; rw [h] at hml; simp at hml; omega
  have hbm : oMiss [.agg [x, y, z]] = some (.vl ((missI b).map rI) false) := by
    have := dB_vB hx hy hz hl
    simp only [vB] at this
    simp only [oMiss, this]; rw [if_pos h0]
  have hst : oSettle0 [.nils, .vl ((missI b).map rI) false] = some (.bool (wB 0 0 (missI b))) := by
    simp only [oSettle0, rowsV_vl, dI1_rI]
    rw [if_pos ⟨hm0, by omega, hmn⟩]
  generalize hA : wB 0 0 (missI b) = A at *
  have fx := fun H d => rowsV_frz hx H d
  have fy := fun H d => rowsV_frz hy H d
  have fz := fun H d => rowsV_frz hz H d
  have rx := fun n d => rowsV_rb hx n d
  have ry := fun n d => rowsV_rb hy n d
  have rz := fun n d => rowsV_rb hz n d
  have hd := dB_vB hx hy hz hl
  have lx := rowsV_len hx
  have ly := rowsV_len hy
  have lz := rowsV_len hz
  rw [List.length_map] at lx ly lz
  obtain ⟨cx1, cx2⟩ := rowsV_cells hx
  obtain ⟨cy1, cy2⟩ := rowsV_cells hy
  obtain ⟨cz1, cz2⟩ := rowsV_cells hz
  simp only [vB] at hd ⊢
  refine answers_of hT (orcF_none rfl) ?_
  simp only [c29, annK, lkG, lkR, reduceIte, Nat.reduceEqDiff, reduceCtorEq, List.cons.injEq, and_true, and_false, false_and, true_and]
  refine runs_seq ?_
  refine runs_reg (ops_run (by simp [lop, loud, callA, calleeA, callF_step h66, h66, callF_step h67, h67, callF_step h68, h68, callF_step h69, h69, oOpenB, oBlot, hbm, hst, fx, fy, fz, rx, ry, rz, hd, lx, ly, lz, -lenA, cx1, cx2, cy1, cy2, cz1, cz2, zB, vB, h0, lim, gather, takeG, resG, getR, putR, putG, okG, lowR, rowAt, rbB_row, rbB_none, rb_ref, rb_any]; rfl) ?_)
  simp only [AEx.thn, AEx.blk]
  refine runs_seq ?_
  refine runs_reg (ops_run (by simp [lop, loud, callA, calleeA, callF_step h66, h66, callF_step h67, h67, callF_step h68, h68, callF_step h69, h69, oOpenB, oBlot, hbm, hst, fx, fy, fz, rx, ry, rz, hd, lx, ly, lz, -lenA, cx1, cx2, cy1, cy2, cz1, cz2, zB, vB, h0, lim, gather, takeG, resG, getR, putR, putG, okG, lowR, rowAt, rbB_row, rbB_none, rb_ref, rb_any]; rfl) ?_)
  simp only [AEx.thn, AEx.blk]
  refine runs_seq ?_
  refine runs_seq ?_
  refine runs_reg (ops_run (by simp [lop, loud, callA, calleeA, callF_step h66, h66, callF_step h67, h67, callF_step h68, h68, callF_step h69, h69, oOpenB, oBlot, hbm, hst, fx, fy, fz, rx, ry, rz, hd, lx, ly, lz, -lenA, cx1, cx2, cy1, cy2, cz1, cz2, zB, vB, h0, lim, gather, takeG, resG, getR, putR, putG, okG, lowR, rowAt, rbB_row, rbB_none, rb_ref, rb_any]; rfl) ?_)
  simp only [AEx.thn, AEx.blk]
  refine runs_cond (x := false) (by simp) ?_
  refine runs_skip ?_
  simp only [AEx.thn, AEx.blk]
  refine runs_seq ?_
  refine runs_reg (ops_run (by simp [lop, loud, callA, calleeA, callF_step h66, h66, callF_step h67, h67, callF_step h68, h68, callF_step h69, h69, oOpenB, oBlot, hbm, hst, fx, fy, fz, rx, ry, rz, hd, lx, ly, lz, -lenA, cx1, cx2, cy1, cy2, cz1, cz2, zB, vB, h0, lim, gather, takeG, resG, getR, putR, putG, okG, lowR, rowAt, rbB_row, rbB_none, rb_ref, rb_any]; rfl) ?_)
  simp only [AEx.thn, AEx.blk]
  refine runs_seq ?_
  refine runs_seq ?_
  refine runs_reg (ops_run (by simp [lop, loud, callA, calleeA, callF_step h66, h66, callF_step h67, h67, callF_step h68, h68, callF_step h69, h69, oOpenB, oBlot, hbm, hst, fx, fy, fz, rx, ry, rz, hd, lx, ly, lz, -lenA, cx1, cx2, cy1, cy2, cz1, cz2, zB, vB, h0, lim, gather, takeG, resG, getR, putR, putG, okG, lowR, rowAt, rbB_row, rbB_none, rb_ref, rb_any]; rfl) ?_)
  simp only [AEx.thn, AEx.blk]
  refine runs_block ?_
  refine runs_loop_inv (fun m σ => ∃ (k : Nat) (i : Int), i = k ∧ b.entries.length - k = m ∧ k ≤ b.entries.length ∧ σ = ⟨[.any, .ref 0 0 0, .nils, .any, .ref 1 0 0, .nils, .any, .any, .any, .any, .any, .any, .any, .any, .any, .any, .any, .any, .any, .any, .any, z, I b.entries.length, I i, .any, .any, .any, .any, .any, .any, .any, .any, .any, .any, .any, .any, .any, .any, .any, .any, .any, .any, .any, .any, .any, .any, .any, .any, .any, .any, .any, .any, .any, .any, .any, .any, .any, .any, .any, .any, .any, .any, .any, .any, .any, .any, .any, .any, .any, .any, .any, .any, .any], [some (.row 3 [[x, y, z]]), some (.row 3 [[x, y, z]])]⟩) ?_ (b.entries.length - 0) _ ⟨0, 0, rfl, rfl, Nat.zero_le _, by simp⟩
  rintro m σ ⟨k, i, hik, rfl, hkl, rfl⟩
  refine runs_seq ?_
  refine runs_reg (ops_run (by simp [lop, loud, callA, calleeA, callF_step h66, h66, callF_step h67, h67, callF_step h68, h68, callF_step h69, h69, oOpenB, oBlot, hbm, hst, fx, fy, fz, rx, ry, rz, hd, lx, ly, lz, -lenA, cx1, cx2, cy1, cy2, cz1, cz2, zB, vB, h0, lim, gather, takeG, resG, getR, putR, putG, okG, lowR, rowAt, rbB_row, rbB_none, rb_ref, rb_any]; rfl) ?_)
  simp only [AEx.thn, AEx.blk]
  refine runs_seq ?_
  refine runs_cond_split (x := decide (i < (b.entries.length : Int))) (by simp) (fun hlt => ?_) (fun hlt => ?_)
  · have hlt := of_decide_eq_true hlt
    have hk0 : k < b.entries.length := by omega
    have hna := hnb _ (List.getElem_mem hk0)
    obtain ⟨tz, rfl⟩ := rowsV_get hz (k := k) (by rw [List.length_map]; omega)
    have hi0 : 0 ≤ i := by omega
    have htn : i.toNat = k := by omega
    have hwi : W .i64 (i + 1) = i + 1 := W_small (by omega)
    generalize hs : b.entries[k] = e at *
    obtain ⟨f, t, a⟩ := e
    simp only at hna
    have hab : (a == -1) = false := by simpa using hna
    refine runs_skip ?_
    simp only [AEx.thn, AEx.blk]
    refine runs_seq ?_
    refine runs_block ?_
    refine runs_seq ?_
    refine runs_reg (ops_run (by simp [lop, loud, callA, calleeA, callF_step h66, h66, callF_step h67, h67, callF_step h68, h68, callF_step h69, h69, oOpenB, oBlot, hbm, hst, fx, fy, fz, rx, ry, rz, hd, lx, ly, lz, -lenA, cx1, cx2, cy1, cy2, cz1, cz2, zB, vB, h0, lim, gather, takeG, resG, getR, putR, putG, okG, lowR, rowAt, rbB_row, rbB_none, rb_ref, rb_any, hi0, htn, hk0, hs, hwi, rE, hab, hna]; rfl) ?_)
    simp only [AEx.thn, AEx.blk]
    refine runs_seq ?_
    refine runs_reg (ops_run (by simp [lop, loud, callA, calleeA, callF_step h66, h66, callF_step h67, h67, callF_step h68, h68, callF_step h69, h69, oOpenB, oBlot, hbm, hst, fx, fy, fz, rx, ry, rz, hd, lx, ly, lz, -lenA, cx1, cx2, cy1, cy2, cz1, cz2, zB, vB, h0, lim, gather, takeG, resG, getR, putR, putG, okG, lowR, rowAt, rbB_row, rbB_none, rb_ref, rb_any, hi0, htn, hk0, hs, hwi, rE, hab, hna]; rfl) ?_)
    simp only [AEx.thn, AEx.blk]
    refine runs_cond (x := false) (by simp) ?_
    refine runs_skip ?_
    simp only [AEx.thn, AEx.blk]
    refine runs_reg (ops_run (by simp [lop, loud, callA, calleeA, callF_step h66, h66, callF_step h67, h67, callF_step h68, h68, callF_step h69, h69, oOpenB, oBlot, hbm, hst, fx, fy, fz, rx, ry, rz, hd, lx, ly, lz, -lenA, cx1, cx2, cy1, cy2, cz1, cz2, zB, vB, h0, lim, gather, takeG, resG, getR, putR, putG, okG, lowR, rowAt, rbB_row, rbB_none, rb_ref, rb_any, hi0, htn, hk0, hs, hwi, rE, hab, hna]; rfl) ?_)
    simp only [AEx.thn, AEx.blk]
    exact ⟨b.entries.length - (k + 1), by omega, k + 1, i + 1, by omega, rfl, by omega, by simp [trim, rbB_row, rbB_none, lop, loud, callA, calleeA, callF_step h66, h66, callF_step h67, h67, callF_step h68, h68, callF_step h69, h69, oOpenB, oBlot, hbm, hst, fx, fy, fz, rx, ry, rz, hd, lx, ly, lz, -lenA, cx1, cx2, cy1, cy2, cz1, cz2, zB, vB, h0, lim, gather, takeG, resG, getR, putR, putG, okG, lowR, rowAt, rbB_row, rbB_none, rb_ref, rb_any, hi0, htn, hk0, hs, hwi, rE, hab, hna]⟩
  · refine runs_exit ?_
    simp only [AEx.thn, AEx.blk, if_true, if_false, reduceIte, Nat.reduceEqDiff, Nat.succ_ne_zero, Nat.one_ne_zero, Nat.zero_ne_one]
    refine runs_seq ?_
    refine runs_block ?_
    refine runs_seq ?_
    refine runs_reg (ops_run (by simp [lop, loud, callA, calleeA, callF_step h66, h66, callF_step h67, h67, callF_step h68, h68, callF_step h69, h69, oOpenB, oBlot, hbm, hst, fx, fy, fz, rx, ry, rz, hd, lx, ly, lz, -lenA, cx1, cx2, cy1, cy2, cz1, cz2, zB, vB, h0, lim, gather, takeG, resG, getR, putR, putG, okG, lowR, rowAt, rbB_row, rbB_none, rb_ref, rb_any]; rfl) ?_)
    simp only [AEx.thn, AEx.blk]
    refine runs_cond (x := false) (by simp) ?_
    refine runs_seq ?_
    refine runs_reg (ops_run (by simp [lop, loud, callA, calleeA, callF_step h66, h66, callF_step h67, h67, callF_step h68, h68, callF_step h69, h69, oOpenB, oBlot, hbm, hst, fx, fy, fz, rx, ry, rz, hd, lx, ly, lz, -lenA, cx1, cx2, cy1, cy2, cz1, cz2, zB, vB, h0, lim, gather, takeG, resG, getR, putR, putG, okG, lowR, rowAt, rbB_row, rbB_none, rb_ref, rb_any]; rfl) ?_)
    simp only [AEx.thn, AEx.blk]
    refine runs_cond_split (x := !A) (by simp) (fun hA2 => ?_) (fun hA2 => ?_)
    · obtain rfl : A = false := by simpa using hA2
      refine runs_seq ?_
      refine runs_reg (ops_run (by simp [lop, loud, callA, calleeA, callF_step h66, h66, callF_step h67, h67, callF_step h68, h68, callF_step h69, h69, oOpenB, oBlot, hbm, hst, fx, fy, fz, rx, ry, rz, hd, lx, ly, lz, -lenA, cx1, cx2, cy1, cy2, cz1, cz2, zB, vB, h0, lim, gather, takeG, resG, getR, putR, putG, okG, lowR, rowAt, rbB_row, rbB_none, rb_ref, rb_any]; rfl) ?_)
      simp only [AEx.thn, AEx.blk]
      refine runs_ret ?_
      simp [lop, loud, callA, calleeA, callF_step h66, h66, callF_step h67, h67, callF_step h68, h68, callF_step h69, h69, oOpenB, oBlot, hbm, hst, fx, fy, fz, rx, ry, rz, hd, lx, ly, lz, -lenA, cx1, cx2, cy1, cy2, cz1, cz2, zB, vB, h0, lim, gather, takeG, resG, getR, putR, putG, okG, lowR, rowAt, rbB_row, rbB_none, rb_ref, rb_any, trim]
    · obtain rfl : A = true := by simpa using hA2
      refine runs_skip ?_
      simp only [AEx.thn, AEx.blk]
      refine runs_seq ?_
      refine runs_reg (ops_run (by simp [lop, loud, callA, calleeA, callF_step h66, h66, callF_step h67, h67, callF_step h68, h68, callF_step h69, h69, oOpenB, oBlot, hbm, hst, fx, fy, fz, rx, ry, rz, hd, lx, ly, lz, -lenA, cx1, cx2, cy1, cy2, cz1, cz2, zB, vB, h0, lim, gather, takeG, resG, getR, putR, putG, okG, lowR, rowAt, rbB_row, rbB_none, rb_ref, rb_any]; rfl) ?_)
      simp only [AEx.thn, AEx.blk]
      refine runs_seq ?_
      refine runs_seq ?_
      refine runs_reg (ops_run (by simp [lop, loud, callA, calleeA, callF_step h66, h66, callF_step h67, h67, callF_step h68, h68, callF_step h69, h69, oOpenB, oBlot, hbm, hst, fx, fy, fz, rx, ry, rz, hd, lx, ly, lz, -lenA, cx1, cx2, cy1, cy2, cz1, cz2, zB, vB, h0, lim, gather, takeG, resG, getR, putR, putG, okG, lowR, rowAt, rbB_row, rbB_none, rb_ref, rb_any]; rfl) ?_)
      simp only [AEx.thn, AEx.blk]
      refine runs_block ?_
      refine runs_loopG_inv (fun mm σ => ∃ (k : Nat) (i : Int), i = k ∧ b.entries.length - k = mm ∧ k ≤ b.entries.length ∧ ((k = 0 ∧ σ = ⟨[.any, .any, .nils, .any, .any, .nils, .any, .any, I 0, .any, .any, .any, .any, .any, .any, .any, .any, .any, .any, .any, .any, .any, .any, .any, .any, .any, .any, .any, .any, .any, .any, .any, .any, .any, .any, .any, .any, .any, .any, .any, .any, .any, .any, .any, .any, .any, .any, .any, .any, z, I b.entries.length, I i, .any, .any, .any, .any, .any, .any, .any, .any, .any, .any, .any, .any, .any, .any, .any, .any, .any, .any, .any, .any, .any], [some (.row 3 [[x, y, z]]), some (.row 3 [[x, y, z]]), none]⟩) ∨ (∃ (p : Nat) (ac : List Ent), k = p + 1 ∧ ac = b.entries.take k ∧ ac.length = p + 1 ∧ σ = ⟨[.any, .any, .sl 2 0 (p + 1) false, .any, .any, .nils, .any, .any, I 0, .any, .any, .any, .any, .any, .any, .any, .any, .any, .any, .any, .any, .any, .any, .any, .any, .any, .any, .any, .any, .any, .any, .any, .any, .any, .any, .any, .any, .any, .any, .any, .any, .any, .any, .any, .any, .any, .any, .any, .any, z, I b.entries.length, I i, .any, .any, .any, .any, .any, .any, .any, .any, .any, .any, .any, .any, .any, .any, .any, .any, .any, .any, .any, .any, .any], [some (.row 3 [[x, y, z]]), some (.row 3 [[x, y, z]]), some (.row 2 (ac.map rS2))]⟩))) (by simp [lop, loud, callA, calleeA, callF_step h66, h66, callF_step h67, h67, callF_step h68, h68, callF_step h69, h69, oOpenB, oBlot, hbm, hst, fx, fy, fz, rx, ry, rz, hd, lx, ly, lz, -lenA, cx1, cx2, cy1, cy2, cz1, cz2, zB, vB, h0, lim, gather, takeG, resG, getR, putR, putG, okG, lowR, rowAt, rbB_row, rbB_none, rb_ref, rb_any] <;> rfl) (⟨0, 0, rfl, rfl, Nat.zero_le _, .inl ⟨rfl, rfl⟩⟩) ?_
      rintro mm σ ⟨k, i, hik, rfl, hkl, ⟨hk0', rfl⟩ | ⟨p, ac, hkp, hac, hacl, rfl⟩⟩
      · refine runs_seq ?_
        refine runs_reg (ops_run (by simp [lop, loud, callA, calleeA, callF_step h66, h66, callF_step h67, h67, callF_step h68, h68, callF_step h69, h69, oOpenB, oBlot, hbm, hst, fx, fy, fz, rx, ry, rz, hd, lx, ly, lz, -lenA, cx1, cx2, cy1, cy2, cz1, cz2, zB, vB, h0, lim, gather, takeG, resG, getR, putR, putG, okG, lowR, rowAt, rbB_row, rbB_none, rb_ref, rb_any]; rfl) ?_)
        simp only [AEx.thn, AEx.blk]
        refine runs_seq ?_
        refine runs_cond_split (x := decide (i < (b.entries.length : Int))) (by simp) (fun hlt2 => ?_) (fun hlt2 => ?_)
        · have hlt2 := of_decide_eq_true hlt2
          have hk0 : k < b.entries.length := by omega
          have hna := hnb _ (List.getElem_mem hk0)
          have hEt : b.entries.take (k + 1) = b.entries.take k ++ [b.entries[k]] := List.take_succ_eq_append_getElem hk0
          obtain ⟨tz, rfl⟩ := rowsV_get hz (k := k) (by rw [List.length_map]; omega)
          have hi0 : 0 ≤ i := by omega
          have htn : i.toNat = k := by omega
          have hwi : W .i64 (i + 1) = i + 1 := W_small (by omega)
          generalize hs : b.entries[k] = e at *
          obtain ⟨f, t, a⟩ := e
          simp only at hna
          have hab : (a == -1) = false := by simpa using hna
          have hnx : [(f, t, a)] = b.entries.take (k + 1) := by rw [hEt, hk0']; rfl
          refine runs_skip ?_
          simp only [AEx.thn, AEx.blk]
          refine runs_seq ?_
          refine runs_block ?_
          refine runs_seq ?_
          refine runs_reg (ops_run (by simp [lop, loud, callA, calleeA, callF_step h66, h66, callF_step h67, h67, callF_step h68, h68, callF_step h69, h69, oOpenB, oBlot, hbm, hst, fx, fy, fz, rx, ry, rz, hd, lx, ly, lz, -lenA, cx1, cx2, cy1, cy2, cz1, cz2, zB, vB, h0, lim, gather, takeG, resG, getR, putR, putG, okG, lowR, rowAt, rbB_row, rbB_none, rb_ref, rb_any, hi0, htn, hk0, hs, hwi, rE, hab, hna]; rfl) ?_)
          simp only [AEx.thn, AEx.blk]
          refine runs_seq ?_
          refine runs_reg (ops_run (by simp [lop, loud, callA, calleeA, callF_step h66, h66, callF_step h67, h67, callF_step h68, h68, callF_step h69, h69, oOpenB, oBlot, hbm, hst, fx, fy, fz, rx, ry, rz, hd, lx, ly, lz, -lenA, cx1, cx2, cy1, cy2, cz1, cz2, zB, vB, h0, lim, gather, takeG, resG, getR, putR, putG, okG, lowR, rowAt, rbB_row, rbB_none, rb_ref, rb_any, hi0, htn, hk0, hs, hwi, rE, hab, hna]; rfl) ?_)
          simp only [AEx.thn, AEx.blk]
          refine runs_seq ?_
          refine runs_seq ?_
          refine runs_reg (ops_run (by simp [lop, loud, callA, calleeA, callF_step h66, h66, callF_step h67, h67, callF_step h68, h68, callF_step h69, h69, oOpenB, oBlot, hbm, hst, fx, fy, fz, rx, ry, rz, hd, lx, ly, lz, -lenA, cx1, cx2, cy1, cy2, cz1, cz2, zB, vB, h0, lim, gather, takeG, resG, getR, putR, putG, okG, lowR, rowAt, rbB_row, rbB_none, rb_ref, rb_any, hi0, htn, hk0, hs, hwi, rE, hab, hna]; rfl) ?_)
          simp only [AEx.thn, AEx.blk]
          refine runs_cond (x := false) (by simp) ?_
          refine runs_skip ?_
          simp only [AEx.thn, AEx.blk]
          refine runs_reg (ops_run (by simp [lop, loud, callA, calleeA, callF_step h66, h66, callF_step h67, h67, callF_step h68, h68, callF_step h69, h69, oOpenB, oBlot, hbm, hst, fx, fy, fz, rx, ry, rz, hd, lx, ly, lz, -lenA, cx1, cx2, cy1, cy2, cz1, cz2, zB, vB, h0, lim, gather, takeG, resG, getR, putR, putG, okG, lowR, rowAt, rbB_row, rbB_none, rb_ref, rb_any, hi0, htn, hk0, hs, hwi, rE, hab, hna]; rfl) ?_)
          simp only [AEx.thn, AEx.blk]
          refine runs_reg (ops_run (by simp [lop, loud, callA, calleeA, callF_step h66, h66, callF_step h67, h67, callF_step h68, h68, callF_step h69, h69, oOpenB, oBlot, hbm, hst, fx, fy, fz, rx, ry, rz, hd, lx, ly, lz, -lenA, cx1, cx2, cy1, cy2, cz1, cz2, zB, vB, h0, lim, gather, takeG, resG, getR, putR, putG, okG, lowR, rowAt, rbB_row, rbB_none, rb_ref, rb_any, hi0, htn, hk0, hs, hwi, rE, hab, hna]; rfl) ?_)
          simp only [AEx.thn, AEx.blk]
          exact ⟨b.entries.length - (k + 1), _, _, by omega, by simp [lop, loud, callA, calleeA, callF_step h66, h66, callF_step h67, h67, callF_step h68, h68, callF_step h69, h69, oOpenB, oBlot, hbm, hst, fx, fy, fz, rx, ry, rz, hd, lx, ly, lz, -lenA, cx1, cx2, cy1, cy2, cz1, cz2, zB, vB, h0, lim, gather, takeG, resG, getR, putR, putG, okG, lowR, rowAt, rbB_row, rbB_none, rb_ref, rb_any, hi0, htn, hk0, hs, hwi, rE, hab, hna, ↓rbS] <;> rfl, k + 1, i + 1, by omega, rfl, by omega, .inr ⟨0, [(f, t, a)], by omega, hnx, rfl, rfl⟩⟩
        · have hx1 := of_decide_eq_false hlt2
          have hkE : k = b.entries.length := by omega
          have htE : b.entries.take k = b.entries := List.take_of_length_le (by omega)
          have hE0 : b.entries = [] := List.eq_nil_of_length_eq_zero (by omega)
          refine runs_exit ?_
          simp only [AEx.thn, AEx.blk, if_true, if_false, reduceIte, Nat.reduceEqDiff, Nat.succ_ne_zero, Nat.one_ne_zero, Nat.zero_ne_one]
          refine runs_seq ?_
          refine runs_reg (ops_run (by simp [lop, loud, callA, calleeA, callF_step h66, h66, callF_step h67, h67, callF_step h68, h68, callF_step h69, h69, oOpenB, oBlot, hbm, hst, fx, fy, fz, rx, ry, rz, hd, lx, ly, lz, -lenA, cx1, cx2, cy1, cy2, cz1, cz2, zB, vB, h0, lim, gather, takeG, resG, getR, putR, putG, okG, lowR, rowAt, rbB_row, rbB_none, rb_ref, rb_any]; rfl) ?_)
          simp only [AEx.thn, AEx.blk]
          refine runs_ret ?_
          simp [lop, loud, callA, calleeA, callF_step h66, h66, callF_step h67, h67, callF_step h68, h68, callF_step h69, h69, oOpenB, oBlot, hbm, hst, fx, fy, fz, rx, ry, rz, hd, lx, ly, lz, -lenA, cx1, cx2, cy1, cy2, cz1, cz2, zB, vB, h0, lim, gather, takeG, resG, getR, putR, putG, okG, lowR, rowAt, rbB_row, rbB_none, rb_ref, rb_any, trim, frz_mapS, rS2, optAll, sV', hE0]
      · have tk : (ac.map rS2).take (p + 1) = ac.map rS2 := List.take_of_length_le (by simp [hacl])
        have hlac : p + 1 + 1 ≤ 1048576 := by omega
        have hr3 : ∀ e : Ent, (rS2 e).length = 2 := fun _ => rfl
        refine runs_seq ?_
        refine runs_reg (ops_run (by simp [lop, loud, callA, calleeA, callF_step h66, h66, callF_step h67, h67, callF_step h68, h68, callF_step h69, h69, oOpenB, oBlot, hbm, hst, fx, fy, fz, rx, ry, rz, hd, lx, ly, lz, -lenA, cx1, cx2, cy1, cy2, cz1, cz2, zB, vB, h0, lim, gather, takeG, resG, getR, putR, putG, okG, lowR, rowAt, rbB_row, rbB_none, rb_ref, rb_any, tk, hlac, hacl, hr3, slE, List.all_map, Function.comp_def]; rfl) ?_)
        simp only [AEx.thn, AEx.blk]
        refine runs_seq ?_
        refine runs_cond_split (x := decide (i < (b.entries.length : Int))) (by simp) (fun hlt2 => ?_) (fun hlt2 => ?_)
        · have hlt2 := of_decide_eq_true hlt2
          have hk0 : k < b.entries.length := by omega
          have hna := hnb _ (List.getElem_mem hk0)
          have hEt : b.entries.take (k + 1) = b.entries.take k ++ [b.entries[k]] := List.take_succ_eq_append_getElem hk0
          obtain ⟨tz, rfl⟩ := rowsV_get hz (k := k) (by rw [List.length_map]; omega)
          have hi0 : 0 ≤ i := by omega
          have htn : i.toNat = k := by omega
          have hwi : W .i64 (i + 1) = i + 1 := W_small (by omega)
          generalize hs : b.entries[k] = e at *
          obtain ⟨f, t, a⟩ := e
          simp only at hna
          have hab : (a == -1) = false := by simpa using hna
          have hap : ac.map rS2 ++ [[I a, I a]] = (ac ++ [(f, t, a)]).map rS2 := by rw [List.map_append]; rfl
          have hnx : ac ++ [(f, t, a)] = b.entries.take (k + 1) := by rw [hEt, ← hac]
          have hnl : (ac ++ [(f, t, a)]).length = p + 1 + 1 := by simp [hacl]
          generalize ac ++ [(f, t, a)] = nx at *
          refine runs_skip ?_
          simp only [AEx.thn, AEx.blk]
          refine runs_seq ?_
          refine runs_block ?_
          refine runs_seq ?_
          refine runs_reg (ops_run (by simp [lop, loud, callA, calleeA, callF_step h66, h66, callF_step h67, h67, callF_step h68, h68, callF_step h69, h69, oOpenB, oBlot, hbm, hst, fx, fy, fz, rx, ry, rz, hd, lx, ly, lz, -lenA, cx1, cx2, cy1, cy2, cz1, cz2, zB, vB, h0, lim, gather, takeG, resG, getR, putR, putG, okG, lowR, rowAt, rbB_row, rbB_none, rb_ref, rb_any, tk, hlac, hacl, hr3, slE, List.all_map, Function.comp_def, hi0, htn, hk0, hs, hwi, rE, hab, hna, hap]; rfl) ?_)
          simp only [AEx.thn, AEx.blk]
          refine runs_seq ?_
          refine runs_reg (ops_run (by simp [lop, loud, callA, calleeA, callF_step h66, h66, callF_step h67, h67, callF_step h68, h68, callF_step h69, h69, oOpenB, oBlot, hbm, hst, fx, fy, fz, rx, ry, rz, hd, lx, ly, lz, -lenA, cx1, cx2, cy1, cy2, cz1, cz2, zB, vB, h0, lim, gather, takeG, resG, getR, putR, putG, okG, lowR, rowAt, rbB_row, rbB_none, rb_ref, rb_any, tk, hlac, hacl, hr3, slE, List.all_map, Function.comp_def, hi0, htn, hk0, hs, hwi, rE, hab, hna, hap]; rfl) ?_)
          simp only [AEx.thn, AEx.blk]
          refine runs_seq ?_
          refine runs_seq ?_
          refine runs_reg (ops_run (by simp [lop, loud, callA, calleeA, callF_step h66, h66, callF_step h67, h67, callF_step h68, h68, callF_step h69, h69, oOpenB, oBlot, hbm, hst, fx, fy, fz, rx, ry, rz, hd, lx, ly, lz, -lenA, cx1, cx2, cy1, cy2, cz1, cz2, zB, vB, h0, lim, gather, takeG, resG, getR, putR, putG, okG, lowR, rowAt, rbB_row, rbB_none, rb_ref, rb_any, tk, hlac, hacl, hr3, slE, List.all_map, Function.comp_def, hi0, htn, hk0, hs, hwi, rE, hab, hna, hap]; rfl) ?_)
          simp only [AEx.thn, AEx.blk]
          refine runs_cond (x := false) (by simp) ?_
          refine runs_skip ?_
          simp only [AEx.thn, AEx.blk]
          refine runs_reg (ops_run (by simp [lop, loud, callA, calleeA, callF_step h66, h66, callF_step h67, h67, callF_step h68, h68, callF_step h69, h69, oOpenB, oBlot, hbm, hst, fx, fy, fz, rx, ry, rz, hd, lx, ly, lz, -lenA, cx1, cx2, cy1, cy2, cz1, cz2, zB, vB, h0, lim, gather, takeG, resG, getR, putR, putG, okG, lowR, rowAt, rbB_row, rbB_none, rb_ref, rb_any, tk, hlac, hacl, hr3, slE, List.all_map, Function.comp_def, hi0, htn, hk0, hs, hwi, rE, hab, hna, hap]; rfl) ?_)
          simp only [AEx.thn, AEx.blk]
          refine runs_reg (ops_run (by simp [lop, loud, callA, calleeA, callF_step h66, h66, callF_step h67, h67, callF_step h68, h68, callF_step h69, h69, oOpenB, oBlot, hbm, hst, fx, fy, fz, rx, ry, rz, hd, lx, ly, lz, -lenA, cx1, cx2, cy1, cy2, cz1, cz2, zB, vB, h0, lim, gather, takeG, resG, getR, putR, putG, okG, lowR, rowAt, rbB_row, rbB_none, rb_ref, rb_any, tk, hlac, hacl, hr3, slE, List.all_map, Function.comp_def, hi0, htn, hk0, hs, hwi, rE, hab, hna, hap]; rfl) ?_)
          simp only [AEx.thn, AEx.blk]
          exact ⟨b.entries.length - (k + 1), _, _, by omega, by simp [lop, loud, callA, calleeA, callF_step h66, h66, callF_step h67, h67, callF_step h68, h68, callF_step h69, h69, oOpenB, oBlot, hbm, hst, fx, fy, fz, rx, ry, rz, hd, lx, ly, lz, -lenA, cx1, cx2, cy1, cy2, cz1, cz2, zB, vB, h0, lim, gather, takeG, resG, getR, putR, putG, okG, lowR, rowAt, rbB_row, rbB_none, rb_ref, rb_any, tk, hlac, hacl, hr3, slE, List.all_map, Function.comp_def, hi0, htn, hk0, hs, hwi, rE, hab, hna, hap, ↓rbS] <;> rfl, k + 1, i + 1, by omega, rfl, by omega, .inr ⟨p + 1, nx, by omega, hnx, hnl, rfl⟩⟩
        · have hx1 := of_decide_eq_false hlt2
          have hkE : k = b.entries.length := by omega
          have htE : b.entries.take k = b.entries := List.take_of_length_le (by omega)
          rw [htE] at hac
          rw [← hac]
          obtain ⟨e0, es0, rfl⟩ : ∃ e0 es0, ac = e0 :: es0 := by
            cases ac with
            | nil => simp at hacl
            | cons e0 es0 => exact ⟨e0, es0, rfl⟩
          obtain rfl : p = es0.length := by simpa using hacl.symm
          have tke : (es0.map rS2).take es0.length = es0.map rS2 := List.take_of_length_le (by simp)
          refine runs_exit ?_
          simp only [AEx.thn, AEx.blk, if_true, if_false, reduceIte, Nat.reduceEqDiff, Nat.succ_ne_zero, Nat.one_ne_zero, Nat.zero_ne_one]
          refine runs_seq ?_
          refine runs_reg (ops_run (by simp [lop, loud, callA, calleeA, callF_step h66, h66, callF_step h67, h67, callF_step h68, h68, callF_step h69, h69, oOpenB, oBlot, hbm, hst, fx, fy, fz, rx, ry, rz, hd, lx, ly, lz, -lenA, cx1, cx2, cy1, cy2, cz1, cz2, zB, vB, h0, lim, gather, takeG, resG, getR, putR, putG, okG, lowR, rowAt, rbB_row, rbB_none, rb_ref, rb_any, tk, hlac, hacl, hr3, slE, List.all_map, Function.comp_def]; rfl) ?_)
          simp only [AEx.thn, AEx.blk]
          refine runs_ret ?_
          simp [lop, loud, callA, calleeA, callF_step h66, h66, callF_step h67, h67, callF_step h68, h68, callF_step h69, h69, oOpenB, oBlot, hbm, hst, fx, fy, fz, rx, ry, rz, hd, lx, ly, lz, -lenA, cx1, cx2, cy1, cy2, cz1, cz2, zB, vB, h0, lim, gather, takeG, resG, getR, putR, putG, okG, lowR, rowAt, rbB_row, rbB_none, rb_ref, rb_any, tk, hlac, hacl, hr3, slE, List.all_map, Function.comp_def, trim, frz_mapS, rS2, optAll, sV', tke]
end
end Go.Proofs.Ytfnnonoffiljhaa.Tab

namespace Go.Proofs.Ytfnnonoffiljhaa.Tab
open Go Go.Abs Go.Proofs
def pgAmt (a : Option Int) (d : Int) : Int := match a with
  | some a => 15 * a
  | none => d
def pgEnt (n : Int) (v : Int × Int × Int) (a : Option Int) : Ent := (v.1.tmod n, (v.1.tmod n + 1 + v.2.1.tmod (n - 1)).tmod n, pgAmt a v.2.2)
def pgEs (n : Int) (es : List (Int × Int × Int)) (am : List Int) : List Ent := (List.range (min es.length 10)).map fun k => pgEnt n (es.getD k (0, 0, 0)) am[k]?
def pgOs (acc : Int) (os : List Int) : List Int := os.take (2 + acc.tmod 4).toNat
def pgB (acc : Int) (os : List Int) (es : List (Int × Int × Int)) (am : List Int) : PB :=
  ⟨pgOs acc os, (pgEs (2 + acc.tmod 4) es am).foldl balStep (pgOs acc os), pgEs (2 + acc.tmod 4) es am⟩
theorem pgEs_len (n : Int) (es : List (Int × Int × Int)) (am : List Int) : (pgEs n es am).length = min es.length 10 := by simp [pgEs]
theorem pgEs_at (n : Int) (es : List (Int × Int × Int)) (am : List Int) (k : Nat) (h : k < es.length) (h10 : k < 10) : (pgEs n es am).take (k + 1) = (pgEs n es am).take k ++ [pgEnt n es[k] am[k]?] := by
  have hl : k < (pgEs n es am).length := by rw [pgEs_len]; omega
  rw [List.take_succ_eq_append_getElem hl]
  congr 2
  simp [pgEs, h]
theorem pg_to {n f r : Int} (hn : 2 ≤ n ∧ n ≤ 5) (hf : 0 ≤ f ∧ f < n) (hr : 0 ≤ r ∧ r < n - 1) : 0 ≤ (f + 1 + r).tmod n ∧ (f + 1 + r).tmod n < n ∧ (f + 1 + r).tmod n ≠ f := by
  rw [Int.tmod_eq_emod_of_nonneg (by omega)]
  obtain rfl | rfl | rfl | rfl : n = 2 ∨ n = 3 ∨ n = 4 ∨ n = 5 := by omega
  all_goals omega
theorem pgEnt_ok {n : Int} {v : Int × Int × Int} {a : Option Int} (hn : 2 ≤ n ∧ n ≤ 5) (hv : (0 ≤ v.1 ∧ v.1 ≤ 255) ∧ (0 ≤ v.2.1 ∧ v.2.1 ≤ 255) ∧ (0 ≤ v.2.2 ∧ v.2.2 ≤ 255)) (ha : ∀ x, a = some x → 0 ≤ x ∧ x ≤ 65535) :
    (0 ≤ (pgEnt n v a).1 ∧ (pgEnt n v a).1 < n) ∧ (0 ≤ (pgEnt n v a).2.1 ∧ (pgEnt n v a).2.1 < n) ∧ (pgEnt n v a).1 ≠ (pgEnt n v a).2.1 ∧ 0 ≤ (pgEnt n v a).2.2 ∧ (pgEnt n v a).2.2 ≤ 983025 := by
  have hf : 0 ≤ v.1.tmod n ∧ v.1.tmod n < n := ⟨Int.tmod_nonneg n hv.1.1, Int.tmod_lt_of_pos v.1 (by omega)⟩
  have hr : 0 ≤ v.2.1.tmod (n - 1) ∧ v.2.1.tmod (n - 1) < n - 1 := ⟨Int.tmod_nonneg _ hv.2.1.1, Int.tmod_lt_of_pos _ (by omega)⟩
  have ht := pg_to hn hf hr
  refine ⟨hf, ⟨ht.1, ht.2.1⟩, fun e => ht.2.2 e.symm, ?_⟩
  unfold pgEnt pgAmt
  cases a with
  | none => simp only; omega
  | some x => have := ha x rfl; simp only; omega
end Go.Proofs.Ytfnnonoffiljhaa.Tab

namespace Go.Proofs.Ytfnnonoffiljhaa.Tab
open Go Go.Abs Go.Proofs
theorem sum_set : ∀ (l : List Int) (k : Nat) (v : Int), k < l.length → (l.set k v).sum = l.sum - l.getD k 0 + v
  | [], _, _, h => absurd h (by simp)
  | x :: xs, 0, v, _ => by simp; omega
  | x :: xs, k + 1, v, h => by
    have := sum_set xs k v (by simpa using h)
    simp only [List.set_cons_succ, List.sum_cons, List.getD_cons_succ, this]
    omega
theorem balStep_sum {out : List Int} {e : Ent} (h1 : 0 ≤ e.1 ∧ e.1 < out.length) (h2 : 0 ≤ e.2.1 ∧ e.2.1 < out.length) (h3 : e.1 ≠ e.2.1) : (balStep out e).sum = out.sum := by
  unfold balStep
  split
  · rfl
  · have l1 : e.1.toNat < out.length := by omega
    have l2 : e.2.1.toNat < (out.set e.1.toNat (out.getD e.1.toNat 0 - e.2.2)).length := by rw [List.length_set]; omega
    simp only
    rw [sum_set _ _ _ l2, sum_set _ _ _ l1]
    omega
theorem bal_sum : ∀ (es : List Ent) (out : List Int), (∀ e ∈ es, (0 ≤ e.1 ∧ e.1 < out.length) ∧ (0 ≤ e.2.1 ∧ e.2.1 < out.length) ∧ e.1 ≠ e.2.1) → (es.foldl balStep out).sum = out.sum
  | [], _, _ => rfl
  | e :: es, out, h => by
    obtain ⟨h1, h2, h3⟩ := h e (by simp)
    rw [List.foldl_cons, bal_sum es (balStep out e) (fun e' he' => by rw [balStep_len]; exact h e' (by simp [he'])), balStep_sum h1 h2 h3]
theorem zip_sum : ∀ (xs ys : List Int), xs.length = ys.length → (List.zipWith (· - ·) xs ys).sum = xs.sum - ys.sum
  | [], [], _ => by simp
  | x :: xs, y :: ys, h => by
    have := zip_sum xs ys (by simpa using h)
    simp only [List.zipWith_cons_cons, List.sum_cons, this]; omega
  | [], _ :: _, h => by simp at h
  | _ :: _, [], h => by simp at h
/-- What is missing in all accounts together is not altered by entries. -/
theorem missI_sum {b : PB} (h : bookE b = 0) : (missI b).sum = b.closing.sum - b.opening.sum := by
  have ok := book_ok h
  have hbl : (balI b).length = b.opening.length := bal_len b.entries b.opening
  unfold missI
  rw [zip_sum _ _ (by rw [hbl]; exact ok.cl)]
  have : (balI b).sum = b.opening.sum := bal_sum _ _ fun e he => ⟨(ok.en e he).1, (ok.en e he).2.1, (ok.en e he).2.2.1⟩
  rw [this]
theorem wB_zero : ∀ (xs : List Int), wB 0 0 xs = true → xs.sum = 0
  | [], _ => rfl
  | x :: xs, h => by
    simp only [wB, List.all_cons, Bool.and_eq_true, decide_eq_true_eq] at h
    have := wB_zero xs (by simpa [wB] using h.2)
    rw [List.sum_cons, this]; omega
/-- A book with another entry that is right has no error either. -/
theorem bookE_set {b : PB} (h : bookE b = 0) (k : Nat) (e : Ent) (he : entryOk b.opening.length e = true) : bookE ⟨b.opening, b.closing, b.entries.set k e⟩ = 0 := by
  unfold bookE at h ⊢
  simp only [List.length_set]
  split at h
  · simp at h
  split at h
  · simp at h
  split at h
  · rename_i h1 h2 h3
    rw [if_neg h1, if_neg h2, if_pos]
    simp only [List.all_eq_true] at h3 ⊢
    intro x hx
    rcases List.mem_or_eq_of_mem_set hx with hx | rfl
    · exact h3 x hx
    · exact he
  · simp at h
end Go.Proofs.Ytfnnonoffiljhaa.Tab

namespace Go.Proofs.Ytfnnonoffiljhaa.Tab
open Go Go.Abs Go.Proofs
set_option maxRecDepth 100000
set_option maxHeartbeats 4000000
set_option linter.unusedSimpArgs false
set_option linter.unusedVariables false
section
attribute [local simp] frz_int frz_bool frz_vl frz_pv frz_agg frz_tup frz_fn frz_ref frz_sl frz_nils optAll orcF rb_int rb_bool rb_agg rb_tup rb_int' rb_bool' rb_vl rb_pv rb_yld rb_nilf rb_nilp rb_nils rb_any rb_und rb_ref rb_sl rb_fn slE chunk fillA evParts evParts3 putAt List.range_succ List.range_zero List.range'_succ List.range'_zero runX_nil' unary_not evalS_pure evAll_nil evAll_cons runX_cons stepX wantedA dop CV.ev putK_eq setK_eq appK_eq fA_eq fI_eq fN_eq fRow_eq fRows_eq nth_eq Out.v putT List.replicate_succ AEx.thn AEx.blk arI pointee Abs.rowAt ldRow allV toV toC ofV ofC Builtin.min_ Builtin.min2 Builtin.max_ Builtin.max2 min_if max_if resA tupA kill trim_self trim_len trim_emp trim_nil lenA
attribute [local simp] runD_nil' runD_cons' stepD actK_eq actD clash disj masks holes maskH unmaskH diffs news eqB allB eqA ldRowN wrote toCs ofCs stA rowsV_vl rowsV_nils rowsOf dI1 dI2 dI3 dI5 elt
attribute [local simp] st_any st_und st_agg st_tup st_bool st_int st_nilp st_ref st_pv st_nils st_sl st_vl st_nilm st_mp st_fn st_nilf st_yld co_any co_und co_agg co_tup co_bool co_int co_nilp co_ref co_pv co_nils co_sl co_vl co_nilm co_mp co_fn co_nilf co_yld
noncomputable def L78 : List (List AVal × AVal) := [([.nils, .fn 79 [] []], .tup [])]
theorem k78 : isR (.tup []) (callF PS2 (exec Try.prog PS2 3000) 78 [.nils, .fn 79 [] []] []) = true := by kernel_rfl
noncomputable def PS3 : Nat → Option CFn := upd PS2 78 true (oAt L78)
theorem PS3_ok : TabOk Try.prog GG PS3 := tab_add mixed PS2_ok (oAt_ok fun p hp => by
  simp only [L78, List.mem_cons, List.not_mem_nil, or_false] at hp
  subst hp
  exact isR_answers k78)
def oOthers : List AVal → Option AVal
  | [v, .agg [.int .i64 f, .int .i64 t, .int .i64 a], w] => match dB v, rowsV w with
    | some _, some _ => some (.fn 101 [] [.pv [I f, I t, I a] 0, .pv [w] 0, .pv (match v with | .agg c => c | _ => []) 0])
    | _, _ => none
  | _ => none
theorem a75 (P : Program) (T : Nat → Option CFn) (hT : T 75 = some c75) (b : PB) (x y z : AVal) (hx : rowsV x = some (b.opening.map rI)) (hy : rowsV y = some (b.closing.map rI)) (hz : rowsV z = some (b.entries.map rE)) (hl : b.opening.length ≤ 1000 ∧ b.closing.length ≤ 1000 ∧ b.entries.length ≤ 1000) (f t a : Int) (u : AVal) (ru : List (List AVal)) (hu : rowsV u = some ru) : Answers P T 75 [vB x y z, .agg [I f, I t, I a], u] [] fun v h => frz false h 5 v = some (.fn 101 [] [.pv [I f, I t, I a] 0, .pv [u] 0, .pv [x, y, z] 0]) := by
  have fx := fun H d => rowsV_frz hx H d
  have fy := fun H d => rowsV_frz hy H d
  have fz := fun H d => rowsV_frz hz H d
  have rx := fun n d => rowsV_rb hx n d
  have ry := fun n d => rowsV_rb hy n d
  have rz := fun n d => rowsV_rb hz n d
  have hd := dB_vB hx hy hz hl
  have lx := rowsV_len hx
  have ly := rowsV_len hy
  have lz := rowsV_len hz
  rw [List.length_map] at lx ly lz
  obtain ⟨cx1, cx2⟩ := rowsV_cells hx
  obtain ⟨cy1, cy2⟩ := rowsV_cells hy
  obtain ⟨cz1, cz2⟩ := rowsV_cells hz
  simp only [vB] at hd ⊢
  have fu := fun H d => rowsV_frz hu H d
  have ru' := fun n d => rowsV_rb hu n d
  obtain ⟨cu1, cu2⟩ := rowsV_cells hu
  refine answers_of hT (orcF_none rfl) ?_
  simp only [c75]
  refine runs_seq ?_
  refine runs_reg (ops_run (by simp [lop, loud, callA, calleeA, fx, fy, fz, rx, ry, rz, hd, lx, ly, lz, -lenA, cx1, cx2, cy1, cy2, cz1, cz2, zB, vB, fu, ru', cu1, cu2]; rfl) ?_)
  simp only [AEx.thn, AEx.blk]
  refine runs_seq ?_
  refine runs_reg (ops_run (by simp [lop, loud, callA, calleeA, fx, fy, fz, rx, ry, rz, hd, lx, ly, lz, -lenA, cx1, cx2, cy1, cy2, cz1, cz2, zB, vB, fu, ru', cu1, cu2]; rfl) ?_)
  simp only [AEx.thn, AEx.blk]
  refine runs_ret ?_
  simp [lop, loud, callA, calleeA, fx, fy, fz, rx, ry, rz, hd, lx, ly, lz, -lenA, cx1, cx2, cy1, cy2, cz1, cz2, zB, vB, fu, ru', cu1, cu2, trim, frz_fn, frz_ref, rb_fn, rb_ref]
theorem a76_19 (P : Program) (T : Nat → Option CFn) (hT : T 76 = some c76) (a0 a1 a2 a3 a4 a5 a6 a7 a8 a9 a10 a11 a12 a13 a14 a15 a16 a17 a18 : Option Blk) (xs : List Ent) (t : Bool) (h0 : xs ≠ []) (hl : xs.length ≤ 1000) : Answers P T 76 [.vl (xs.map rE) t] [a0, a1, a2, a3, a4, a5, a6, a7, a8, a9, a10, a11, a12, a13, a14, a15, a16, a17, a18] fun v h => v = .sl 20 0 xs.length false ∧ h = [a0, a1, a2, a3, a4, a5, a6, a7, a8, a9, a10, a11, a12, a13, a14, a15, a16, a17, a18, some (.row 3 []), some (.row 3 (xs.map rE))] := by
  have hs : ¬ xs = [] := h0
  have hl1 : xs.length ≤ 1048576 := by omega
  have hl2 : 0 < xs.length := List.length_pos_iff.2 h0
  refine answers_of hT (orcF_none rfl) ?_
  simp only [c76]
  refine runs_seq ?_
  refine runs_reg (ops_run (by simp [lop, loud, callA, calleeA, lim, hl1, hl2, hs, List.all_map, Function.comp_def, rE]; rfl) ?_)
  simp only [AEx.thn, AEx.blk]
  refine runs_seq ?_
  refine runs_seq ?_
  refine runs_reg (ops_run (by simp [lop, loud, callA, calleeA, lim, hl1, hl2, hs, List.all_map, Function.comp_def, rE]; rfl) ?_)
  simp only [AEx.thn, AEx.blk]
  refine runs_cond (x := false) (by simp) ?_
  refine runs_skip ?_
  simp only [AEx.thn, AEx.blk]
  refine runs_seq ?_
  refine runs_reg (ops_run (by simp [lop, loud, callA, calleeA, lim, hl1, hl2, hs, List.all_map, Function.comp_def, rE]; rfl) ?_)
  simp only [AEx.thn, AEx.blk]
  refine runs_ret ?_
  refine ⟨by simp, _, by simp; rfl, ?_⟩
  exact ⟨rfl, by simp [trim, rE]⟩
theorem a76_25 (P : Program) (T : Nat → Option CFn) (hT : T 76 = some c76) (a0 a1 a2 a3 a4 a5 a6 a7 a8 a9 a10 a11 a12 a13 a14 a15 a16 a17 a18 a19 a20 a21 a22 a23 a24 : Option Blk) (xs : List Ent) (t : Bool) (h0 : xs ≠ []) (hl : xs.length ≤ 1000) : Answers P T 76 [.vl (xs.map rE) t] [a0, a1, a2, a3, a4, a5, a6, a7, a8, a9, a10, a11, a12, a13, a14, a15, a16, a17, a18, a19, a20, a21, a22, a23, a24] fun v h => v = .sl 26 0 xs.length false ∧ h = [a0, a1, a2, a3, a4, a5, a6, a7, a8, a9, a10, a11, a12, a13, a14, a15, a16, a17, a18, a19, a20, a21, a22, a23, a24, some (.row 3 []), some (.row 3 (xs.map rE))] := by
  have hs : ¬ xs = [] := h0
  have hl1 : xs.length ≤ 1048576 := by omega
  have hl2 : 0 < xs.length := List.length_pos_iff.2 h0
  refine answers_of hT (orcF_none rfl) ?_
  simp only [c76]
  refine runs_seq ?_
  refine runs_reg (ops_run (by simp [lop, loud, callA, calleeA, lim, hl1, hl2, hs, List.all_map, Function.comp_def, rE]; rfl) ?_)
  simp only [AEx.thn, AEx.blk]
  refine runs_seq ?_
  refine runs_seq ?_
  refine runs_reg (ops_run (by simp [lop, loud, callA, calleeA, lim, hl1, hl2, hs, List.all_map, Function.comp_def, rE]; rfl) ?_)
  simp only [AEx.thn, AEx.blk]
  refine runs_cond (x := false) (by simp) ?_
  refine runs_skip ?_
  simp only [AEx.thn, AEx.blk]
  refine runs_seq ?_
  refine runs_reg (ops_run (by simp [lop, loud, callA, calleeA, lim, hl1, hl2, hs, List.all_map, Function.comp_def, rE]; rfl) ?_)
  simp only [AEx.thn, AEx.blk]
  refine runs_ret ?_
  refine ⟨by simp, _, by simp; rfl, ?_⟩
  exact ⟨rfl, by simp [trim, rE]⟩
end
end Go.Proofs.Ytfnnonoffiljhaa.Tab

namespace Go.Proofs.Ytfnnonoffiljhaa.Tab
open Go Go.Abs Go.Proofs
set_option maxRecDepth 100000
set_option maxHeartbeats 4000000
set_option linter.unusedSimpArgs false
set_option linter.unusedVariables false
section
attribute [local simp] frz_int frz_bool frz_vl frz_pv frz_agg frz_tup frz_fn frz_ref frz_sl frz_nils optAll orcF rb_int rb_bool rb_agg rb_tup rb_int' rb_bool' rb_vl rb_pv rb_yld rb_nilf rb_nilp rb_nils rb_any rb_und rb_ref rb_sl rb_fn slE chunk fillA evParts evParts3 putAt List.range_succ List.range_zero List.range'_succ List.range'_zero runX_nil' unary_not evalS_pure evAll_nil evAll_cons runX_cons stepX wantedA dop CV.ev putK_eq setK_eq appK_eq fA_eq fI_eq fN_eq fRow_eq fRows_eq nth_eq Out.v putT List.replicate_succ AEx.thn AEx.blk arI pointee Abs.rowAt ldRow allV toV toC ofV ofC Builtin.min_ Builtin.min2 Builtin.max_ Builtin.max2 min_if max_if resA tupA kill trim_self trim_len trim_emp trim_nil lenA
attribute [local simp] runD_nil' runD_cons' stepD actK_eq actD clash disj masks holes maskH unmaskH diffs news eqB allB eqA ldRowN wrote toCs ofCs stA rowsV_vl rowsV_nils rowsOf dI1 dI2 dI3 dI5 elt
attribute [local simp] st_any st_und st_agg st_tup st_bool st_int st_nilp st_ref st_pv st_nils st_sl st_vl st_nilm st_mp st_fn st_nilf st_yld co_any co_und co_agg co_tup co_bool co_int co_nilp co_ref co_pv co_nils co_sl co_vl co_nilm co_mp co_fn co_nilf co_yld
def asg37 : CC := (.reg [⟨(some 8), (.new [(.int .i64 (0)), (.int .i64 (0)), (.int .i64 (0))]), none, []⟩, ⟨none, (.st 3 (.t 8) (.t 34)), none, []⟩])
def bd37 : CC := (.block 3 (.seq (.reg [⟨(some 35), (.ldn 3 (.t 1)), none, []⟩, ⟨(some 36), (.bld [.nils, .nils, .nils] [(0, (3, (.t 35)))]), none, []⟩, ⟨(some 9), (.new [.nils, .nils, .nils]), none, []⟩, ⟨none, (.st 3 (.t 9) (.t 36)), none, []⟩]) (.seq (.reg [⟨(some 37), (.fa 2 (.t 1)), none, []⟩, ⟨(some 38), (.ld (.t 37)), none, []⟩, ⟨(some 39), (.call (.c (.fn 76 [] [])) [(.t 38)]), none, []⟩, ⟨(some 40), (.fa 0 (.t 9)), none, []⟩, ⟨(some 41), (.fa 2 (.t 40)), none, []⟩, ⟨none, (.st 1 (.t 41) (.t 39)), none, []⟩]) (.seq (.reg [⟨(some 42), (.fa 0 (.t 9)), none, []⟩, ⟨(some 43), (.fa 2 (.t 42)), none, []⟩, ⟨(some 44), (.ld (.t 43)), none, []⟩, ⟨(some 45), (.ld (.t 6)), none, []⟩, ⟨(some 46), (.ldn 3 (.t 8)), none, []⟩, ⟨(some 47), (.ias 3 (.t 44) (.t 45)), none, []⟩, ⟨none, (.st 3 (.t 47) (.t 46)), none, []⟩]) (.seq (.reg [⟨(some 48), (.ldn 3 (.t 8)), none, []⟩, ⟨(some 49), (.ldn 3 (.t 7)), none, []⟩, ⟨(some 50), (.eqv true 92 (.tmp 48) (.tmp 49) (.t 48) (.t 49)), none, []⟩, ⟨(some 51), (.mv (.t 50)), none, []⟩, ⟨(some 52), (.ldn 3 (.t 8)), (some (51, true)), []⟩, ⟨(some 53), (.fa 0 (.t 1)), (some (51, true)), []⟩, ⟨(some 54), (.ld (.t 53)), (some (51, true)), []⟩, ⟨(some 55), (.len (.t 54)), (some (51, true)), []⟩, ⟨(some 56), (.call (.c (.fn 77 [] [])) [(.t 52), (.t 55)]), (some (51, true)), []⟩, ⟨(some 57), (.pick (.t 51) (.t 56) (.c (.bool false))), none, []⟩, ⟨(some 58), (.mv (.t 57)), none, []⟩, ⟨(some 59), (.ldn 3 (.t 8)), (some (58, true)), []⟩, ⟨(some 60), (.call (.c (.fn 67 [] [])) [(.t 59)]), (some (58, true)), []⟩, ⟨(some 61), (.un .not (.t 60)), (some (58, true)), []⟩, ⟨(some 62), (.pick (.t 58) (.t 61) (.c (.bool false))), none, []⟩, ⟨(some 63), (.mv (.t 62)), none, []⟩, ⟨(some 64), (.ldn 3 (.t 9)), (some (63, true)), []⟩, ⟨(some 65), (.call (.c (.fn 69 [] [])) [(.t 64)]), (some (63, true)), []⟩, ⟨(some 66), (.call (.c (.fn 65 [] [])) [(.c (.int .i64 (0))), (.c (.int .i64 (0))), (.t 65)]), (some (63, true)), []⟩, ⟨(some 67), (.pick (.t 63) (.t 66) (.c (.bool false))), none, []⟩]) (.cond (.t 67) (.reg [⟨(some 68), (.ld (.t 2)), none, []⟩, ⟨(some 69), (.ld (.t 6)), none, []⟩, ⟨(some 70), (.fa 0 (.t 8)), none, []⟩, ⟨(some 71), (.ld (.t 70)), none, []⟩, ⟨(some 72), (.fa 1 (.t 8)), none, []⟩, ⟨(some 73), (.ld (.t 72)), none, []⟩, ⟨(some 74), (.fa 2 (.t 8)), none, []⟩, ⟨(some 75), (.ld (.t 74)), none, []⟩, ⟨(some 76), (.bld [(.int .i64 (0)), (.int .i64 (0)), (.int .i64 (0)), (.int .i64 (0))] [(0, (1, (.t 69))), (1, (1, (.t 71))), (2, (1, (.t 73))), (3, (1, (.t 75)))]), none, []⟩, ⟨(some 77), (.bsl 4 1 [(.int .i64 (0)), (.int .i64 (0)), (.int .i64 (0)), (.int .i64 (0))] [(0, (.t 76))]), none, []⟩, ⟨(some 78), (.app 4 (.t 68) (.t 77)), none, []⟩, ⟨none, (.st 1 (.t 2) (.t 78)), none, []⟩]) .skip))))))
def neE (a b : Ent) : Bool := !((a.1 == b.1) && ((a.2.1 == b.2.1) && ((a.2.2 == b.2.2) && true)))
theorem eq92n' (x y : Operand) (a0 a1 a2 b0 b1 b2 : Int) : evalS Try.prog (do eqGuard .neq 92 x y (.agg #[.int .i64 a0, .int .i64 a1, .int .i64 a2]) (.agg #[.int .i64 b0, .int .i64 b1, .int .i64 b2]); binOp .neq 92 (.agg #[.int .i64 a0, .int .i64 a1, .int .i64 a2]) (.agg #[.int .i64 b0, .int .i64 b1, .int .i64 b2])) = some (.bool (neE (a0, a1, a2) (b0, b1, b2))) := eq92n x y a0 a1 a2 b0 b1 b2
theorem y37_11 (T : Nat → Option CFn) (h76 : T 76 = some c76) (h77 : T 77 = some { c77 with frsh := true, orc := oEntry }) (h67 : T 67 = some { c67 with frsh := true, orc := oBlot }) (h69 : T 69 = some { c69 with frsh := true, orc := oMiss }) (h65 : T 65 = some { c65 with frsh := true, orc := oWithin }) (b : PB) (x y : AVal) (tz : Bool) (hx : rowsV x = some (b.opening.map rI)) (hy : rowsV y = some (b.closing.map rI)) (hz : rowsV (.vl (b.entries.map rE) tz) = some (b.entries.map rE)) (hl : b.opening.length ≤ 1000 ∧ b.closing.length ≤ 1000 ∧ b.entries.length ≤ 1000) (h0 : bookE b = 0) (hsum : (missI b).sum ≠ 0) (k : Nat) (i : Int) (hik : i = k) (hk : k < b.entries.length) (f t a c1 c2 c3 : Int)
    (y0 y1 y2 y3 y4 y5 y6 y7 y8 y9 y10 : Option Blk) (hy0 : ∀ n, 17 ≤ n → rbB n y0 = true) (hy1 : ∀ n, 17 ≤ n → rbB n y1 = true) (hy2 : ∀ n, 17 ≤ n → rbB n y2 = true) (hy3 : ∀ n, 17 ≤ n → rbB n y3 = true) (hy4 : ∀ n, 17 ≤ n → rbB n y4 = true) (hy5 : ∀ n, 17 ≤ n → rbB n y5 = true) (hy6 : ∀ n, 17 ≤ n → rbB n y6 = true) (hy7 : ∀ n, 17 ≤ n → rbB n y7 = true) (hy8 : ∀ n, 17 ≤ n → rbB n y8 = true) (hy9 : ∀ n, 17 ≤ n → rbB n y9 = true) (hy10 : ∀ n, 17 ≤ n → rbB n y10 = true) (v0 v3 v5 v8 v9 v10 v11 v12 v13 v14 v15 v16 v17 v18 v19 v20 v21 v22 v23 v24 v25 v26 v27 v28 v29 v30 v31 v32 v33 v34 v35 v36 v37 v38 v39 v40 v41 v42 v43 v44 v45 v46 v47 v48 v49 v50 v51 v52 v53 v54 v55 v56 v57 v58 v59 v60 v61 v62 v63 v64 v65 v66 v67 v68 v69 v70 v71 v72 v73 v74 v75 v76 v77 v78 v79 v80 v81 v82 v83 v84 v85 v86 : AVal) (hv : ∀ n, 6 ≤ n → ([v0, .ref 0 0 0, .ref 1 0 0, v3, .ref 2 0 0, v5, .ref 3 0 0, .ref 4 0 0, v8, v9, v10, v11, v12, v13, v14, v15, v16, v17, v18, v19, v20, v21, v22, v23, v24, v25, v26, v27, v28, v29, v30, v31, v32, v33, v34, v35, v36, v37, v38, v39, v40, v41, v42, v43, v44, v45, v46, v47, v48, v49, v50, v51, v52, v53, v54, v55, v56, v57, v58, v59, v60, v61, v62, v63, v64, v65, v66, v67, v68, v69, v70, v71, v72, v73, v74, v75, v76, v77, v78, v79, v80, v81, v82, v83, v84, v85, v86]).all (rb n 5) = true) :
    Ylds Try.prog T 5 [.agg [I c1, I c2, I c3]] [some (.row 3 [[x, y, .vl (b.entries.map rE) tz]]), some (.row 1 [[.nils]]), some (.row 3 [[x, y, .vl (b.entries.map rE) tz]]), some (.row 1 [[I i]]), some (.row 3 [[I f, I t, I a]]), some (.loop [v0, .ref 0 0 0, .ref 1 0 0, v3, .ref 2 0 0, v5, .ref 3 0 0, .ref 4 0 0, v8, v9, v10, v11, v12, v13, v14, v15, v16, v17, v18, v19, v20, v21, v22, v23, v24, v25, v26, v27, v28, v29, v30, v31, v32, v33, v34, v35, v36, v37, v38, v39, v40, v41, v42, v43, v44, v45, v46, v47, v48, v49, v50, v51, v52, v53, v54, v55, v56, v57, v58, v59, v60, v61, v62, v63, v64, v65, v66, v67, v68, v69, v70, v71, v72, v73, v74, v75, v76, v77, v78, v79, v80, v81, v82, v83, v84, v85, v86] [34] asg37 bd37 .ready none), y0, y1, y2, y3, y4, y5, y6, y7, y8, y9, y10] fun v h' => v = .bool true ∧ h' = [some (.row 3 [[x, y, .vl (b.entries.map rE) tz]]), some (.row 1 [[.nils]]), some (.row 3 [[x, y, .vl (b.entries.map rE) tz]]), some (.row 1 [[I i]]), some (.row 3 [[I f, I t, I a]]), some (.loop [v0, .ref 0 0 0, .ref 1 0 0, v3, .ref 2 0 0, v5, .ref 3 0 0, .ref 4 0 0, v8, v9, v10, v11, v12, v13, v14, v15, v16, v17, v18, v19, v20, v21, v22, v23, v24, v25, v26, v27, v28, v29, v30, v31, v32, v33, v34, v35, v36, v37, v38, v39, v40, v41, v42, v43, v44, v45, v46, v47, v48, v49, v50, v51, v52, v53, v54, v55, v56, v57, v58, v59, v60, v61, v62, v63, v64, v65, v66, v67, v68, v69, v70, v71, v72, v73, v74, v75, v76, v77, v78, v79, v80, v81, v82, v83, v84, v85, v86] [34] asg37 bd37 .ready none), y0, y1, y2, y3, y4, y5, y6, y7, y8, y9, y10] := by
  have fx := fun H d => rowsV_frz hx H d
  have fy := fun H d => rowsV_frz hy H d
  have fz := fun H d => rowsV_frz hz H d
  have rx := fun n d => rowsV_rb hx n d
  have ry := fun n d => rowsV_rb hy n d
  have rz := fun n d => rowsV_rb hz n d
  have hd := dB_vB hx hy hz hl
  have lx := rowsV_len hx
  have ly := rowsV_len hy
  have lz := rowsV_len hz
  rw [List.length_map] at lx ly lz
  obtain ⟨cx1, cx2⟩ := rowsV_cells hx
  obtain ⟨cy1, cy2⟩ := rowsV_cells hy
  obtain ⟨cz1, cz2⟩ := rowsV_cells hz
  simp only [vB] at hd
  have hi0 : 0 ≤ i := by omega
  have htn : i.toNat = k := by omega
  have hki : i < (b.entries.length : Int) := by omega
  have hE0 : b.entries ≠ [] := by intro h; rw [h] at hk; simp at hk
  have hn0 : (0 : Int) ≤ (b.opening.length : Int) := by omega
  have hn1 : (b.opening.length : Int) ≤ 1000 := by omega
  have hles : (b.entries.set k (c1, c2, c3)).length = b.entries.length := by simp
  have hset : (b.entries.map rE).set k [I c1, I c2, I c3] = (b.entries.set k (c1, c2, c3)).map rE := by rw [List.map_set]; rfl
  have tk' : ((b.entries.set k (c1, c2, c3)).map rE).take b.entries.length = (b.entries.set k (c1, c2, c3)).map rE := List.take_of_length_le (by simp)
  have hfE : ∀ nv H d, optAll (optAll (frz nv H (d + 1))) ((b.entries.set k (c1, c2, c3)).map rE) = some ((b.entries.set k (c1, c2, c3)).map rE) := fun nv H d => frz_mapE nv H d _
  have hmiss : ∀ tt, entryOk b.opening.length (c1, c2, c3) = true → oMiss [.agg [x, y, .vl ((b.entries.set k (c1, c2, c3)).map rE) tt]] = some (.vl ((missI ⟨b.opening, b.closing, b.entries.set k (c1, c2, c3)⟩).map rI) false) := fun tt hok => by
    have hd' : dB (vB x y (.vl ((b.entries.set k (c1, c2, c3)).map rE) tt)) = some ⟨b.opening, b.closing, b.entries.set k (c1, c2, c3)⟩ := dB_vB hx hy rfl (by simp; omega)
    simp only [vB] at hd'
    simp only [oMiss, hd']
    rw [if_pos (bookE_set h0 k _ hok)]
  have hwz : entryOk b.opening.length (c1, c2, c3) = true → oWithin [.int .i64 0, .int .i64 0, .vl ((missI ⟨b.opening, b.closing, b.entries.set k (c1, c2, c3)⟩).map rI) false] = some (.bool false) := fun hok => by
    have hbk := bookE_set h0 k _ hok
    have hs1 := missI_sum hbk
    simp only at hs1
    have hw := oWithin_eq (x := .vl ((missI ⟨b.opening, b.closing, b.entries.set k (c1, c2, c3)⟩).map rI) false) (xs := missI ⟨b.opening, b.closing, b.entries.set k (c1, c2, c3)⟩) 0 0 rfl (by
      unfold missI; rw [List.length_zipWith]; simp only; omega)
    rw [hw]
    cases hb : wB 0 0 (missI ⟨b.opening, b.closing, b.entries.set k (c1, c2, c3)⟩)
    · rfl
    · exact absurd (wB_zero _ hb) (by rw [hs1, ← missI_sum h0]; exact hsum)
  have rI3 : ∀ e : Ent, rE e = [I e.1, I e.2.1, I e.2.2] := fun _ => rfl
  generalize b.entries.set k (c1, c2, c3) = es' at *
  generalize hne : neE (c1, c2, c3) (f, t, a) = ne
  generalize hok : entryOk (b.opening.length : Int) (c1, c2, c3) = ok at *
  generalize hbe : (c3 == -1) = bl
  refine ylds_of rfl rfl ?_
  show Runs Try.prog T (some 5) asg37 ⟨[v0, .ref 0 0 0, .ref 1 0 0, v3, .ref 2 0 0, v5, .ref 3 0 0, .ref 4 0 0, v8, v9, v10, v11, v12, v13, v14, v15, v16, v17, v18, v19, v20, v21, v22, v23, v24, v25, v26, v27, v28, v29, v30, v31, v32, v33, .agg [I c1, I c2, I c3], v35, v36, v37, v38, v39, v40, v41, v42, v43, v44, v45, v46, v47, v48, v49, v50, v51, v52, v53, v54, v55, v56, v57, v58, v59, v60, v61, v62, v63, v64, v65, v66, v67, v68, v69, v70, v71, v72, v73, v74, v75, v76, v77, v78, v79, v80, v81, v82, v83, v84, v85, v86], [some (.row 3 [[x, y, .vl (b.entries.map rE) tz]]), some (.row 1 [[.nils]]), some (.row 3 [[x, y, .vl (b.entries.map rE) tz]]), some (.row 1 [[I i]]), some (.row 3 [[I f, I t, I a]]), some (.loop [v0, .ref 0 0 0, .ref 1 0 0, v3, .ref 2 0 0, v5, .ref 3 0 0, .ref 4 0 0, v8, v9, v10, v11, v12, v13, v14, v15, v16, v17, v18, v19, v20, v21, v22, v23, v24, v25, v26, v27, v28, v29, v30, v31, v32, v33, v34, v35, v36, v37, v38, v39, v40, v41, v42, v43, v44, v45, v46, v47, v48, v49, v50, v51, v52, v53, v54, v55, v56, v57, v58, v59, v60, v61, v62, v63, v64, v65, v66, v67, v68, v69, v70, v71, v72, v73, v74, v75, v76, v77, v78, v79, v80, v81, v82, v83, v84, v85, v86] [34] asg37 bd37 .ready none), y0, y1, y2, y3, y4, y5, y6, y7, y8, y9, y10]⟩ _
  refine runs_reg (ops_run (by simp [lop, loud]; rfl) ?_)
  refine ⟨rfl, _, _, _, _, _, rfl, ?_⟩
  unfold bd37
  refine runs_block ?_
  refine runs_seq ?_
  refine runs_reg (ops_run (by simp [lop, loud, callA, calleeA, callF_step h77, h77, callF_step h67, h67, callF_step h69, h69, callF_step h65, h65, oEntry, oBlot, eq92n', hbe, hne, hok, lim, rbB_row, rbB_none, rbB_loop, rb_ref, rb_any, hi0, htn, hki, hk, hset, hles, tk', hfE, hn0, hn1, -lenA, lx, rI3, fx, fy, fz, rx, ry, rz, cx1, cx2, cy1, cy2, cz1, cz2]; rfl) ?_)
  simp only [AEx.thn, AEx.blk]
  refine runs_seq ?_
  refine runs_reg (ops_take 2 (by simp [lop, loud, callA, calleeA, callF_step h77, h77, callF_step h67, h67, callF_step h69, h69, callF_step h65, h65, oEntry, oBlot, eq92n', hbe, hne, hok, lim, rbB_row, rbB_none, rbB_loop, rb_ref, rb_any, hi0, htn, hki, hk, hset, hles, tk', hfE, hn0, hn1, -lenA, lx, rI3, fx, fy, fz, rx, ry, rz, cx1, cx2, cy1, cy2, cz1, cz2]; rfl) ?_)
  simp only [List.drop_succ_cons, List.drop_zero]
  refine ops_call (f := 76) (args := [.vl (b.entries.map rE) tz]) (by simp) (by simp) (by simp [lop]) (by simp [calleeA]) ?_
  refine (a76_19 Try.prog T h76 _ _ _ _ _ _ _ _ _ _ _ _ _ _ _ _ _ _ _ b.entries tz hE0 hl.2.2).mono ?_
  rintro v h' ⟨rfl, rfl⟩
  refine ops_run (by simp [lop, loud, callA, calleeA, callF_step h77, h77, callF_step h67, h67, callF_step h69, h69, callF_step h65, h65, oEntry, oBlot, eq92n', hbe, hne, hok, lim, rbB_row, rbB_none, rbB_loop, rb_ref, rb_any, hi0, htn, hki, hk, hset, hles, tk', hfE, hn0, hn1, -lenA, lx, rI3, fx, fy, fz, rx, ry, rz, cx1, cx2, cy1, cy2, cz1, cz2]; rfl) ?_
  simp only [AEx.thn, AEx.blk]
  refine runs_seq ?_
  refine runs_reg (ops_run (by simp [lop, loud, callA, calleeA, callF_step h77, h77, callF_step h67, h67, callF_step h69, h69, callF_step h65, h65, oEntry, oBlot, eq92n', hbe, hne, hok, lim, rbB_row, rbB_none, rbB_loop, rb_ref, rb_any, hi0, htn, hki, hk, hset, hles, tk', hfE, hn0, hn1, -lenA, lx, rI3, fx, fy, fz, rx, ry, rz, cx1, cx2, cy1, cy2, cz1, cz2]; rfl) ?_)
  simp only [AEx.thn, AEx.blk]
  refine runs_seq ?_
  cases ne
  · refine runs_reg (ops_run (by simp [lop, loud, callA, calleeA, callF_step h77, h77, callF_step h67, h67, callF_step h69, h69, callF_step h65, h65, oEntry, oBlot, eq92n', hbe, hne, hok, lim, rbB_row, rbB_none, rbB_loop, rb_ref, rb_any, hi0, htn, hki, hk, hset, hles, tk', hfE, hn0, hn1, -lenA, lx, rI3, fx, fy, fz, rx, ry, rz, cx1, cx2, cy1, cy2, cz1, cz2]; rfl) ?_)
    simp only [AEx.thn, AEx.blk]
    refine runs_cond (x := false) (by simp) ?_
    refine runs_skip ?_
    simp only [AEx.thn, AEx.blk]
    have ry0 := hy0 17 (by decide)
    have ry1 := hy1 17 (by decide)
    have ry2 := hy2 17 (by decide)
    have ry3 := hy3 17 (by decide)
    have ry4 := hy4 17 (by decide)
    have ry5 := hy5 17 (by decide)
    have ry6 := hy6 17 (by decide)
    have ry7 := hy7 17 (by decide)
    have ry8 := hy8 17 (by decide)
    have ry9 := hy9 17 (by decide)
    have ry10 := hy10 17 (by decide)
    have hvk := hv 17 (by decide)
    refine ⟨_, _, _, _, _, _, rfl, trivial, ?_⟩
    simp [trim, rbB_row, rbB_none, rbB_loop, rx, ry, rz, hvk, -List.all_cons, ry0, ry1, ry2, ry3, ry4, ry5, ry6, ry7, ry8, ry9, ry10]
  · cases ok
    · refine runs_reg (ops_run (by simp [lop, loud, callA, calleeA, callF_step h77, h77, callF_step h67, h67, callF_step h69, h69, callF_step h65, h65, oEntry, oBlot, eq92n', hbe, hne, hok, lim, rbB_row, rbB_none, rbB_loop, rb_ref, rb_any, hi0, htn, hki, hk, hset, hles, tk', hfE, hn0, hn1, -lenA, lx, rI3, fx, fy, fz, rx, ry, rz, cx1, cx2, cy1, cy2, cz1, cz2]; rfl) ?_)
      simp only [AEx.thn, AEx.blk]
      refine runs_cond (x := false) (by simp) ?_
      refine runs_skip ?_
      simp only [AEx.thn, AEx.blk]
      have ry0 := hy0 17 (by decide)
      have ry1 := hy1 17 (by decide)
      have ry2 := hy2 17 (by decide)
      have ry3 := hy3 17 (by decide)
      have ry4 := hy4 17 (by decide)
      have ry5 := hy5 17 (by decide)
      have ry6 := hy6 17 (by decide)
      have ry7 := hy7 17 (by decide)
      have ry8 := hy8 17 (by decide)
      have ry9 := hy9 17 (by decide)
      have ry10 := hy10 17 (by decide)
      have hvk := hv 17 (by decide)
      refine ⟨_, _, _, _, _, _, rfl, trivial, ?_⟩
      simp [trim, rbB_row, rbB_none, rbB_loop, rx, ry, rz, hvk, -List.all_cons, ry0, ry1, ry2, ry3, ry4, ry5, ry6, ry7, ry8, ry9, ry10]
    · cases bl
      · have hmiss := fun tt => hmiss tt rfl
        have hwz := hwz rfl
        refine runs_reg (ops_run (by simp [lop, loud, callA, calleeA, callF_step h77, h77, callF_step h67, h67, callF_step h69, h69, callF_step h65, h65, oEntry, oBlot, eq92n', hbe, hne, hok, lim, rbB_row, rbB_none, rbB_loop, rb_ref, rb_any, hi0, htn, hki, hk, hset, hles, tk', hfE, hn0, hn1, -lenA, lx, rI3, fx, fy, fz, rx, ry, rz, cx1, cx2, cy1, cy2, cz1, cz2, hmiss, hwz]; rfl) ?_)
        simp only [AEx.thn, AEx.blk]
        refine runs_cond (x := false) (by simp) ?_
        refine runs_skip ?_
        simp only [AEx.thn, AEx.blk]
        have ry0 := hy0 17 (by decide)
        have ry1 := hy1 17 (by decide)
        have ry2 := hy2 17 (by decide)
        have ry3 := hy3 17 (by decide)
        have ry4 := hy4 17 (by decide)
        have ry5 := hy5 17 (by decide)
        have ry6 := hy6 17 (by decide)
        have ry7 := hy7 17 (by decide)
        have ry8 := hy8 17 (by decide)
        have ry9 := hy9 17 (by decide)
        have ry10 := hy10 17 (by decide)
        have hvk := hv 17 (by decide)
        refine ⟨_, _, _, _, _, _, rfl, trivial, ?_⟩
        simp [trim, rbB_row, rbB_none, rbB_loop, rx, ry, rz, hvk, -List.all_cons, ry0, ry1, ry2, ry3, ry4, ry5, ry6, ry7, ry8, ry9, ry10]
      · refine runs_reg (ops_run (by simp [lop, loud, callA, calleeA, callF_step h77, h77, callF_step h67, h67, callF_step h69, h69, callF_step h65, h65, oEntry, oBlot, eq92n', hbe, hne, hok, lim, rbB_row, rbB_none, rbB_loop, rb_ref, rb_any, hi0, htn, hki, hk, hset, hles, tk', hfE, hn0, hn1, -lenA, lx, rI3, fx, fy, fz, rx, ry, rz, cx1, cx2, cy1, cy2, cz1, cz2]; rfl) ?_)
        simp only [AEx.thn, AEx.blk]
        refine runs_cond (x := false) (by simp) ?_
        refine runs_skip ?_
        simp only [AEx.thn, AEx.blk]
        have ry0 := hy0 17 (by decide)
        have ry1 := hy1 17 (by decide)
        have ry2 := hy2 17 (by decide)
        have ry3 := hy3 17 (by decide)
        have ry4 := hy4 17 (by decide)
        have ry5 := hy5 17 (by decide)
        have ry6 := hy6 17 (by decide)
        have ry7 := hy7 17 (by decide)
        have ry8 := hy8 17 (by decide)
        have ry9 := hy9 17 (by decide)
        have ry10 := hy10 17 (by decide)
        have hvk := hv 17 (by decide)
        refine ⟨_, _, _, _, _, _, rfl, trivial, ?_⟩
        simp [trim, rbB_row, rbB_none, rbB_loop, rx, ry, rz, hvk, -List.all_cons, ry0, ry1, ry2, ry3, ry4, ry5, ry6, ry7, ry8, ry9, ry10]
theorem y37_17 (T : Nat → Option CFn) (h76 : T 76 = some c76) (h77 : T 77 = some { c77 with frsh := true, orc := oEntry }) (h67 : T 67 = some { c67 with frsh := true, orc := oBlot }) (h69 : T 69 = some { c69 with frsh := true, orc := oMiss }) (h65 : T 65 = some { c65 with frsh := true, orc := oWithin }) (b : PB) (x y : AVal) (tz : Bool) (hx : rowsV x = some (b.opening.map rI)) (hy : rowsV y = some (b.closing.map rI)) (hz : rowsV (.vl (b.entries.map rE) tz) = some (b.entries.map rE)) (hl : b.opening.length ≤ 1000 ∧ b.closing.length ≤ 1000 ∧ b.entries.length ≤ 1000) (h0 : bookE b = 0) (hsum : (missI b).sum ≠ 0) (k : Nat) (i : Int) (hik : i = k) (hk : k < b.entries.length) (f t a c1 c2 c3 : Int)
    (y0 y1 y2 y3 y4 y5 y6 y7 y8 y9 y10 y11 y12 y13 y14 y15 y16 : Option Blk) (hy0 : ∀ n, 23 ≤ n → rbB n y0 = true) (hy1 : ∀ n, 23 ≤ n → rbB n y1 = true) (hy2 : ∀ n, 23 ≤ n → rbB n y2 = true) (hy3 : ∀ n, 23 ≤ n → rbB n y3 = true) (hy4 : ∀ n, 23 ≤ n → rbB n y4 = true) (hy5 : ∀ n, 23 ≤ n → rbB n y5 = true) (hy6 : ∀ n, 23 ≤ n → rbB n y6 = true) (hy7 : ∀ n, 23 ≤ n → rbB n y7 = true) (hy8 : ∀ n, 23 ≤ n → rbB n y8 = true) (hy9 : ∀ n, 23 ≤ n → rbB n y9 = true) (hy10 : ∀ n, 23 ≤ n → rbB n y10 = true) (hy11 : ∀ n, 23 ≤ n → rbB n y11 = true) (hy12 : ∀ n, 23 ≤ n → rbB n y12 = true) (hy13 : ∀ n, 23 ≤ n → rbB n y13 = true) (hy14 : ∀ n, 23 ≤ n → rbB n y14 = true) (hy15 : ∀ n, 23 ≤ n → rbB n y15 = true) (hy16 : ∀ n, 23 ≤ n → rbB n y16 = true) (v0 v3 v5 v8 v9 v10 v11 v12 v13 v14 v15 v16 v17 v18 v19 v20 v21 v22 v23 v24 v25 v26 v27 v28 v29 v30 v31 v32 v33 v34 v35 v36 v37 v38 v39 v40 v41 v42 v43 v44 v45 v46 v47 v48 v49 v50 v51 v52 v53 v54 v55 v56 v57 v58 v59 v60 v61 v62 v63 v64 v65 v66 v67 v68 v69 v70 v71 v72 v73 v74 v75 v76 v77 v78 v79 v80 v81 v82 v83 v84 v85 v86 : AVal) (hv : ∀ n, 6 ≤ n → ([v0, .ref 0 0 0, .ref 1 0 0, v3, .ref 2 0 0, v5, .ref 3 0 0, .ref 4 0 0, v8, v9, v10, v11, v12, v13, v14, v15, v16, v17, v18, v19, v20, v21, v22, v23, v24, v25, v26, v27, v28, v29, v30, v31, v32, v33, v34, v35, v36, v37, v38, v39, v40, v41, v42, v43, v44, v45, v46, v47, v48, v49, v50, v51, v52, v53, v54, v55, v56, v57, v58, v59, v60, v61, v62, v63, v64, v65, v66, v67, v68, v69, v70, v71, v72, v73, v74, v75, v76, v77, v78, v79, v80, v81, v82, v83, v84, v85, v86]).all (rb n 5) = true) :
    Ylds Try.prog T 5 [.agg [I c1, I c2, I c3]] [some (.row 3 [[x, y, .vl (b.entries.map rE) tz]]), some (.row 1 [[.nils]]), some (.row 3 [[x, y, .vl (b.entries.map rE) tz]]), some (.row 1 [[I i]]), some (.row 3 [[I f, I t, I a]]), some (.loop [v0, .ref 0 0 0, .ref 1 0 0, v3, .ref 2 0 0, v5, .ref 3 0 0, .ref 4 0 0, v8, v9, v10, v11, v12, v13, v14, v15, v16, v17, v18, v19, v20, v21, v22, v23, v24, v25, v26, v27, v28, v29, v30, v31, v32, v33, v34, v35, v36, v37, v38, v39, v40, v41, v42, v43, v44, v45, v46, v47, v48, v49, v50, v51, v52, v53, v54, v55, v56, v57, v58, v59, v60, v61, v62, v63, v64, v65, v66, v67, v68, v69, v70, v71, v72, v73, v74, v75, v76, v77, v78, v79, v80, v81, v82, v83, v84, v85, v86] [34] asg37 bd37 .ready none), y0, y1, y2, y3, y4, y5, y6, y7, y8, y9, y10, y11, y12, y13, y14, y15, y16] fun v h' => v = .bool true ∧ h' = [some (.row 3 [[x, y, .vl (b.entries.map rE) tz]]), some (.row 1 [[.nils]]), some (.row 3 [[x, y, .vl (b.entries.map rE) tz]]), some (.row 1 [[I i]]), some (.row 3 [[I f, I t, I a]]), some (.loop [v0, .ref 0 0 0, .ref 1 0 0, v3, .ref 2 0 0, v5, .ref 3 0 0, .ref 4 0 0, v8, v9, v10, v11, v12, v13, v14, v15, v16, v17, v18, v19, v20, v21, v22, v23, v24, v25, v26, v27, v28, v29, v30, v31, v32, v33, v34, v35, v36, v37, v38, v39, v40, v41, v42, v43, v44, v45, v46, v47, v48, v49, v50, v51, v52, v53, v54, v55, v56, v57, v58, v59, v60, v61, v62, v63, v64, v65, v66, v67, v68, v69, v70, v71, v72, v73, v74, v75, v76, v77, v78, v79, v80, v81, v82, v83, v84, v85, v86] [34] asg37 bd37 .ready none), y0, y1, y2, y3, y4, y5, y6, y7, y8, y9, y10, y11, y12, y13, y14, y15, y16] := by
  have fx := fun H d => rowsV_frz hx H d
  have fy := fun H d => rowsV_frz hy H d
  have fz := fun H d => rowsV_frz hz H d
  have rx := fun n d => rowsV_rb hx n d
  have ry := fun n d => rowsV_rb hy n d
  have rz := fun n d => rowsV_rb hz n d
  have hd := dB_vB hx hy hz hl
  have lx := rowsV_len hx
  have ly := rowsV_len hy
  have lz := rowsV_len hz
  rw [List.length_map] at lx ly lz
  obtain ⟨cx1, cx2⟩ := rowsV_cells hx
  obtain ⟨cy1, cy2⟩ := rowsV_cells hy
  obtain ⟨cz1, cz2⟩ := rowsV_cells hz
  simp only [vB] at hd
  have hi0 : 0 ≤ i := by omega
  have htn : i.toNat = k := by omega
  have hki : i < (b.entries.length : Int) := by omega
  have hE0 : b.entries ≠ [] := by intro h; rw [h] at hk; simp at hk
  have hn0 : (0 : Int) ≤ (b.opening.length : Int) := by omega
  have hn1 : (b.opening.length : Int) ≤ 1000 := by omega
  have hles : (b.entries.set k (c1, c2, c3)).length = b.entries.length := by simp
  have hset : (b.entries.map rE).set k [I c1, I c2, I c3] = (b.entries.set k (c1, c2, c3)).map rE := by rw [List.map_set]; rfl
  have tk' : ((b.entries.set k (c1, c2, c3)).map rE).take b.entries.length = (b.entries.set k (c1, c2, c3)).map rE := List.take_of_length_le (by simp)
  have hfE : ∀ nv H d, optAll (optAll (frz nv H (d + 1))) ((b.entries.set k (c1, c2, c3)).map rE) = some ((b.entries.set k (c1, c2, c3)).map rE) := fun nv H d => frz_mapE nv H d _
  have hmiss : ∀ tt, entryOk b.opening.length (c1, c2, c3) = true → oMiss [.agg [x, y, .vl ((b.entries.set k (c1, c2, c3)).map rE) tt]] = some (.vl ((missI ⟨b.opening, b.closing, b.entries.set k (c1, c2, c3)⟩).map rI) false) := fun tt hok => by
    have hd' : dB (vB x y (.vl ((b.entries.set k (c1, c2, c3)).map rE) tt)) = some ⟨b.opening, b.closing, b.entries.set k (c1, c2, c3)⟩ := dB_vB hx hy rfl (by simp; omega)
    simp only [vB] at hd'
    simp only [oMiss, hd']
    rw [if_pos (bookE_set h0 k _ hok)]
  have hwz : entryOk b.opening.length (c1, c2, c3) = true → oWithin [.int .i64 0, .int .i64 0, .vl ((missI ⟨b.opening, b.closing, b.entries.set k (c1, c2, c3)⟩).map rI) false] = some (.bool false) := fun hok => by
    have hbk := bookE_set h0 k _ hok
    have hs1 := missI_sum hbk
    simp only at hs1
    have hw := oWithin_eq (x := .vl ((missI ⟨b.opening, b.closing, b.entries.set k (c1, c2, c3)⟩).map rI) false) (xs := missI ⟨b.opening, b.closing, b.entries.set k (c1, c2, c3)⟩) 0 0 rfl (by
      unfold missI; rw [List.length_zipWith]; simp only; omega)
    rw [hw]
    cases hb : wB 0 0 (missI ⟨b.opening, b.closing, b.entries.set k (c1, c2, c3)⟩)
    · rfl
    · exact absurd (wB_zero _ hb) (by rw [hs1, ← missI_sum h0]; exact hsum)
  have rI3 : ∀ e : Ent, rE e = [I e.1, I e.2.1, I e.2.2] := fun _ => rfl
  generalize b.entries.set k (c1, c2, c3) = es' at *
  generalize hne : neE (c1, c2, c3) (f, t, a) = ne
  generalize hok : entryOk (b.opening.length : Int) (c1, c2, c3) = ok at *
  generalize hbe : (c3 == -1) = bl
  refine ylds_of rfl rfl ?_
  show Runs Try.prog T (some 5) asg37 ⟨[v0, .ref 0 0 0, .ref 1 0 0, v3, .ref 2 0 0, v5, .ref 3 0 0, .ref 4 0 0, v8, v9, v10, v11, v12, v13, v14, v15, v16, v17, v18, v19, v20, v21, v22, v23, v24, v25, v26, v27, v28, v29, v30, v31, v32, v33, .agg [I c1, I c2, I c3], v35, v36, v37, v38, v39, v40, v41, v42, v43, v44, v45, v46, v47, v48, v49, v50, v51, v52, v53, v54, v55, v56, v57, v58, v59, v60, v61, v62, v63, v64, v65, v66, v67, v68, v69, v70, v71, v72, v73, v74, v75, v76, v77, v78, v79, v80, v81, v82, v83, v84, v85, v86], [some (.row 3 [[x, y, .vl (b.entries.map rE) tz]]), some (.row 1 [[.nils]]), some (.row 3 [[x, y, .vl (b.entries.map rE) tz]]), some (.row 1 [[I i]]), some (.row 3 [[I f, I t, I a]]), some (.loop [v0, .ref 0 0 0, .ref 1 0 0, v3, .ref 2 0 0, v5, .ref 3 0 0, .ref 4 0 0, v8, v9, v10, v11, v12, v13, v14, v15, v16, v17, v18, v19, v20, v21, v22, v23, v24, v25, v26, v27, v28, v29, v30, v31, v32, v33, v34, v35, v36, v37, v38, v39, v40, v41, v42, v43, v44, v45, v46, v47, v48, v49, v50, v51, v52, v53, v54, v55, v56, v57, v58, v59, v60, v61, v62, v63, v64, v65, v66, v67, v68, v69, v70, v71, v72, v73, v74, v75, v76, v77, v78, v79, v80, v81, v82, v83, v84, v85, v86] [34] asg37 bd37 .ready none), y0, y1, y2, y3, y4, y5, y6, y7, y8, y9, y10, y11, y12, y13, y14, y15, y16]⟩ _
  refine runs_reg (ops_run (by simp [lop, loud]; rfl) ?_)
  refine ⟨rfl, _, _, _, _, _, rfl, ?_⟩
  unfold bd37
  refine runs_block ?_
  refine runs_seq ?_
  refine runs_reg (ops_run (by simp [lop, loud, callA, calleeA, callF_step h77, h77, callF_step h67, h67, callF_step h69, h69, callF_step h65, h65, oEntry, oBlot, eq92n', hbe, hne, hok, lim, rbB_row, rbB_none, rbB_loop, rb_ref, rb_any, hi0, htn, hki, hk, hset, hles, tk', hfE, hn0, hn1, -lenA, lx, rI3, fx, fy, fz, rx, ry, rz, cx1, cx2, cy1, cy2, cz1, cz2]; rfl) ?_)
  simp only [AEx.thn, AEx.blk]
  refine runs_seq ?_
  refine runs_reg (ops_take 2 (by simp [lop, loud, callA, calleeA, callF_step h77, h77, callF_step h67, h67, callF_step h69, h69, callF_step h65, h65, oEntry, oBlot, eq92n', hbe, hne, hok, lim, rbB_row, rbB_none, rbB_loop, rb_ref, rb_any, hi0, htn, hki, hk, hset, hles, tk', hfE, hn0, hn1, -lenA, lx, rI3, fx, fy, fz, rx, ry, rz, cx1, cx2, cy1, cy2, cz1, cz2]; rfl) ?_)
  simp only [List.drop_succ_cons, List.drop_zero]
  refine ops_call (f := 76) (args := [.vl (b.entries.map rE) tz]) (by simp) (by simp) (by simp [lop]) (by simp [calleeA]) ?_
  refine (a76_25 Try.prog T h76 _ _ _ _ _ _ _ _ _ _ _ _ _ _ _ _ _ _ _ _ _ _ _ _ _ b.entries tz hE0 hl.2.2).mono ?_
  rintro v h' ⟨rfl, rfl⟩
  refine ops_run (by simp [lop, loud, callA, calleeA, callF_step h77, h77, callF_step h67, h67, callF_step h69, h69, callF_step h65, h65, oEntry, oBlot, eq92n', hbe, hne, hok, lim, rbB_row, rbB_none, rbB_loop, rb_ref, rb_any, hi0, htn, hki, hk, hset, hles, tk', hfE, hn0, hn1, -lenA, lx, rI3, fx, fy, fz, rx, ry, rz, cx1, cx2, cy1, cy2, cz1, cz2]; rfl) ?_
  simp only [AEx.thn, AEx.blk]
  refine runs_seq ?_
  refine runs_reg (ops_run (by simp [lop, loud, callA, calleeA, callF_step h77, h77, callF_step h67, h67, callF_step h69, h69, callF_step h65, h65, oEntry, oBlot, eq92n', hbe, hne, hok, lim, rbB_row, rbB_none, rbB_loop, rb_ref, rb_any, hi0, htn, hki, hk, hset, hles, tk', hfE, hn0, hn1, -lenA, lx, rI3, fx, fy, fz, rx, ry, rz, cx1, cx2, cy1, cy2, cz1, cz2]; rfl) ?_)
  simp only [AEx.thn, AEx.blk]
  refine runs_seq ?_
  cases ne
  · refine runs_reg (ops_run (by simp [lop, loud, callA, calleeA, callF_step h77, h77, callF_step h67, h67, callF_step h69, h69, callF_step h65, h65, oEntry, oBlot, eq92n', hbe, hne, hok, lim, rbB_row, rbB_none, rbB_loop, rb_ref, rb_any, hi0, htn, hki, hk, hset, hles, tk', hfE, hn0, hn1, -lenA, lx, rI3, fx, fy, fz, rx, ry, rz, cx1, cx2, cy1, cy2, cz1, cz2]; rfl) ?_)
    simp only [AEx.thn, AEx.blk]
    refine runs_cond (x := false) (by simp) ?_
    refine runs_skip ?_
    simp only [AEx.thn, AEx.blk]
    have ry0 := hy0 23 (by decide)
    have ry1 := hy1 23 (by decide)
    have ry2 := hy2 23 (by decide)
    have ry3 := hy3 23 (by decide)
    have ry4 := hy4 23 (by decide)
    have ry5 := hy5 23 (by decide)
    have ry6 := hy6 23 (by decide)
    have ry7 := hy7 23 (by decide)
    have ry8 := hy8 23 (by decide)
    have ry9 := hy9 23 (by decide)
    have ry10 := hy10 23 (by decide)
    have ry11 := hy11 23 (by decide)
    have ry12 := hy12 23 (by decide)
    have ry13 := hy13 23 (by decide)
    have ry14 := hy14 23 (by decide)
    have ry15 := hy15 23 (by decide)
    have ry16 := hy16 23 (by decide)
    have hvk := hv 23 (by decide)
    refine ⟨_, _, _, _, _, _, rfl, trivial, ?_⟩
    simp [trim, rbB_row, rbB_none, rbB_loop, rx, ry, rz, hvk, -List.all_cons, ry0, ry1, ry2, ry3, ry4, ry5, ry6, ry7, ry8, ry9, ry10, ry11, ry12, ry13, ry14, ry15, ry16]
  · cases ok
    · refine runs_reg (ops_run (by simp [lop, loud, callA, calleeA, callF_step h77, h77, callF_step h67, h67, callF_step h69, h69, callF_step h65, h65, oEntry, oBlot, eq92n', hbe, hne, hok, lim, rbB_row, rbB_none, rbB_loop, rb_ref, rb_any, hi0, htn, hki, hk, hset, hles, tk', hfE, hn0, hn1, -lenA, lx, rI3, fx, fy, fz, rx, ry, rz, cx1, cx2, cy1, cy2, cz1, cz2]; rfl) ?_)
      simp only [AEx.thn, AEx.blk]
      refine runs_cond (x := false) (by simp) ?_
      refine runs_skip ?_
      simp only [AEx.thn, AEx.blk]
      have ry0 := hy0 23 (by decide)
      have ry1 := hy1 23 (by decide)
      have ry2 := hy2 23 (by decide)
      have ry3 := hy3 23 (by decide)
      have ry4 := hy4 23 (by decide)
      have ry5 := hy5 23 (by decide)
      have ry6 := hy6 23 (by decide)
      have ry7 := hy7 23 (by decide)
      have ry8 := hy8 23 (by decide)
      have ry9 := hy9 23 (by decide)
      have ry10 := hy10 23 (by decide)
      have ry11 := hy11 23 (by decide)
      have ry12 := hy12 23 (by decide)
      have ry13 := hy13 23 (by decide)
      have ry14 := hy14 23 (by decide)
      have ry15 := hy15 23 (by decide)
      have ry16 := hy16 23 (by decide)
      have hvk := hv 23 (by decide)
      refine ⟨_, _, _, _, _, _, rfl, trivial, ?_⟩
      simp [trim, rbB_row, rbB_none, rbB_loop, rx, ry, rz, hvk, -List.all_cons, ry0, ry1, ry2, ry3, ry4, ry5, ry6, ry7, ry8, ry9, ry10, ry11, ry12, ry13, ry14, ry15, ry16]
    · cases bl
      · have hmiss := fun tt => hmiss tt rfl
        have hwz := hwz rfl
        refine runs_reg (ops_run (by simp [lop, loud, callA, calleeA, callF_step h77, h77, callF_step h67, h67, callF_step h69, h69, callF_step h65, h65, oEntry, oBlot, eq92n', hbe, hne, hok, lim, rbB_row, rbB_none, rbB_loop, rb_ref, rb_any, hi0, htn, hki, hk, hset, hles, tk', hfE, hn0, hn1, -lenA, lx, rI3, fx, fy, fz, rx, ry, rz, cx1, cx2, cy1, cy2, cz1, cz2, hmiss, hwz]; rfl) ?_)
        simp only [AEx.thn, AEx.blk]
        refine runs_cond (x := false) (by simp) ?_
        refine runs_skip ?_
        simp only [AEx.thn, AEx.blk]
        have ry0 := hy0 23 (by decide)
        have ry1 := hy1 23 (by decide)
        have ry2 := hy2 23 (by decide)
        have ry3 := hy3 23 (by decide)
        have ry4 := hy4 23 (by decide)
        have ry5 := hy5 23 (by decide)
        have ry6 := hy6 23 (by decide)
        have ry7 := hy7 23 (by decide)
        have ry8 := hy8 23 (by decide)
        have ry9 := hy9 23 (by decide)
        have ry10 := hy10 23 (by decide)
        have ry11 := hy11 23 (by decide)
        have ry12 := hy12 23 (by decide)
        have ry13 := hy13 23 (by decide)
        have ry14 := hy14 23 (by decide)
        have ry15 := hy15 23 (by decide)
        have ry16 := hy16 23 (by decide)
        have hvk := hv 23 (by decide)
        refine ⟨_, _, _, _, _, _, rfl, trivial, ?_⟩
        simp [trim, rbB_row, rbB_none, rbB_loop, rx, ry, rz, hvk, -List.all_cons, ry0, ry1, ry2, ry3, ry4, ry5, ry6, ry7, ry8, ry9, ry10, ry11, ry12, ry13, ry14, ry15, ry16]
      · refine runs_reg (ops_run (by simp [lop, loud, callA, calleeA, callF_step h77, h77, callF_step h67, h67, callF_step h69, h69, callF_step h65, h65, oEntry, oBlot, eq92n', hbe, hne, hok, lim, rbB_row, rbB_none, rbB_loop, rb_ref, rb_any, hi0, htn, hki, hk, hset, hles, tk', hfE, hn0, hn1, -lenA, lx, rI3, fx, fy, fz, rx, ry, rz, cx1, cx2, cy1, cy2, cz1, cz2]; rfl) ?_)
        simp only [AEx.thn, AEx.blk]
        refine runs_cond (x := false) (by simp) ?_
        refine runs_skip ?_
        simp only [AEx.thn, AEx.blk]
        have ry0 := hy0 23 (by decide)
        have ry1 := hy1 23 (by decide)
        have ry2 := hy2 23 (by decide)
        have ry3 := hy3 23 (by decide)
        have ry4 := hy4 23 (by decide)
        have ry5 := hy5 23 (by decide)
        have ry6 := hy6 23 (by decide)
        have ry7 := hy7 23 (by decide)
        have ry8 := hy8 23 (by decide)
        have ry9 := hy9 23 (by decide)
        have ry10 := hy10 23 (by decide)
        have ry11 := hy11 23 (by decide)
        have ry12 := hy12 23 (by decide)
        have ry13 := hy13 23 (by decide)
        have ry14 := hy14 23 (by decide)
        have ry15 := hy15 23 (by decide)
        have ry16 := hy16 23 (by decide)
        have hvk := hv 23 (by decide)
        refine ⟨_, _, _, _, _, _, rfl, trivial, ?_⟩
        simp [trim, rbB_row, rbB_none, rbB_loop, rx, ry, rz, hvk, -List.all_cons, ry0, ry1, ry2, ry3, ry4, ry5, ry6, ry7, ry8, ry9, ry10, ry11, ry12, ry13, ry14, ry15, ry16]
end
end Go.Proofs.Ytfnnonoffiljhaa.Tab

namespace Go.Proofs.Ytfnnonoffiljhaa.Tab
open Go Go.Abs Go.Proofs
set_option maxRecDepth 100000
set_option maxHeartbeats 4000000
set_option linter.unusedSimpArgs false
set_option linter.unusedVariables false
section
attribute [local simp] frz_int frz_bool frz_vl frz_pv frz_agg frz_tup frz_fn frz_ref frz_sl frz_nils optAll orcF rb_int rb_bool rb_agg rb_tup rb_int' rb_bool' rb_vl rb_pv rb_yld rb_nilf rb_nilp rb_nils rb_any rb_und rb_ref rb_sl rb_fn slE chunk fillA evParts evParts3 putAt List.range_succ List.range_zero List.range'_succ List.range'_zero runX_nil' unary_not evalS_pure evAll_nil evAll_cons runX_cons stepX wantedA dop CV.ev putK_eq setK_eq appK_eq fA_eq fI_eq fN_eq fRow_eq fRows_eq nth_eq Out.v putT List.replicate_succ AEx.thn AEx.blk arI pointee Abs.rowAt ldRow allV toV toC ofV ofC Builtin.min_ Builtin.min2 Builtin.max_ Builtin.max2 min_if max_if resA tupA kill trim_self trim_len trim_emp trim_nil lenA
attribute [local simp] runD_nil' runD_cons' stepD actK_eq actD clash disj masks holes maskH unmaskH diffs news eqB allB eqA ldRowN wrote toCs ofCs stA rowsV_vl rowsV_nils rowsOf dI1 dI2 dI3 dI5 elt
attribute [local simp] st_any st_und st_agg st_tup st_bool st_int st_nilp st_ref st_pv st_nils st_sl st_vl st_nilm st_mp st_fn st_nilf st_yld co_any co_und co_agg co_tup co_bool co_int co_nilp co_ref co_pv co_nils co_sl co_vl co_nilm co_mp co_fn co_nilf co_yld
theorem it101 (T : Nat → Option CFn) (hT : T 101 = some c101) (h76 : T 76 = some c76) (h77 : T 77 = some { c77 with frsh := true, orc := oEntry }) (h67 : T 67 = some { c67 with frsh := true, orc := oBlot }) (h69 : T 69 = some { c69 with frsh := true, orc := oMiss }) (h65 : T 65 = some { c65 with frsh := true, orc := oWithin }) (b : PB) (x y : AVal) (tz : Bool) (hx : rowsV x = some (b.opening.map rI)) (hy : rowsV y = some (b.closing.map rI)) (hz : rowsV (.vl (b.entries.map rE) tz) = some (b.entries.map rE)) (hl : b.opening.length ≤ 1000 ∧ b.closing.length ≤ 1000 ∧ b.entries.length ≤ 1000) (h0 : bookE b = 0) (hsum : (missI b).sum ≠ 0) (k : Nat) (i : Int) (hik : i = k) (hk : k < b.entries.length) (f t a : Int) (ht0 : 0 ≤ t) (htn : t < (b.opening.length : Int)) (ha : -1 ≤ a ∧ a ≤ 1000000)
    (ms : List Int) (tm : Bool) (hml : ms.length = b.opening.length) (hms : ∀ m ∈ ms, -4000000000 ≤ m ∧ m ≤ 4000000000) (v0 v3 v5 v8 v9 v10 v11 v12 v13 v14 v15 v16 v17 v18 v19 v20 v21 v22 v23 v24 v25 v26 v27 v28 v29 v30 v31 v32 v33 v34 v35 v36 v37 v38 v39 v40 v41 v42 v43 v44 v45 v46 v47 v48 v49 v50 v51 v52 v53 v54 v55 v56 v57 v58 v59 v60 v61 v62 v63 v64 v65 v66 v67 v68 v69 v70 v71 v72 v73 v74 v75 v76 v77 v78 v79 v80 v81 v82 v83 v84 v85 v86 : AVal) (hv : ∀ n, 6 ≤ n → ([v0, .ref 0 0 0, .ref 1 0 0, v3, .ref 2 0 0, v5, .ref 3 0 0, .ref 4 0 0, v8, v9, v10, v11, v12, v13, v14, v15, v16, v17, v18, v19, v20, v21, v22, v23, v24, v25, v26, v27, v28, v29, v30, v31, v32, v33, v34, v35, v36, v37, v38, v39, v40, v41, v42, v43, v44, v45, v46, v47, v48, v49, v50, v51, v52, v53, v54, v55, v56, v57, v58, v59, v60, v61, v62, v63, v64, v65, v66, v67, v68, v69, v70, v71, v72, v73, v74, v75, v76, v77, v78, v79, v80, v81, v82, v83, v84, v85, v86]).all (rb n 5) = true) :
    Answers Try.prog T 101 [.yld 5, .pv [I f, I t, I a] 0, .pv [.vl (ms.map rI) tm] 0, .pv [x, y, .vl (b.entries.map rE) tz] 0] [some (.row 3 [[x, y, .vl (b.entries.map rE) tz]]), some (.row 1 [[.nils]]), some (.row 3 [[x, y, .vl (b.entries.map rE) tz]]), some (.row 1 [[I i]]), some (.row 3 [[I f, I t, I a]]), some (.loop [v0, .ref 0 0 0, .ref 1 0 0, v3, .ref 2 0 0, v5, .ref 3 0 0, .ref 4 0 0, v8, v9, v10, v11, v12, v13, v14, v15, v16, v17, v18, v19, v20, v21, v22, v23, v24, v25, v26, v27, v28, v29, v30, v31, v32, v33, v34, v35, v36, v37, v38, v39, v40, v41, v42, v43, v44, v45, v46, v47, v48, v49, v50, v51, v52, v53, v54, v55, v56, v57, v58, v59, v60, v61, v62, v63, v64, v65, v66, v67, v68, v69, v70, v71, v72, v73, v74, v75, v76, v77, v78, v79, v80, v81, v82, v83, v84, v85, v86] [34] asg37 bd37 .ready none)] fun _ h2 => h2 = [some (.row 3 [[x, y, .vl (b.entries.map rE) tz]]), some (.row 1 [[.nils]]), some (.row 3 [[x, y, .vl (b.entries.map rE) tz]]), some (.row 1 [[I i]]), some (.row 3 [[I f, I t, I a]]), some (.loop [v0, .ref 0 0 0, .ref 1 0 0, v3, .ref 2 0 0, v5, .ref 3 0 0, .ref 4 0 0, v8, v9, v10, v11, v12, v13, v14, v15, v16, v17, v18, v19, v20, v21, v22, v23, v24, v25, v26, v27, v28, v29, v30, v31, v32, v33, v34, v35, v36, v37, v38, v39, v40, v41, v42, v43, v44, v45, v46, v47, v48, v49, v50, v51, v52, v53, v54, v55, v56, v57, v58, v59, v60, v61, v62, v63, v64, v65, v66, v67, v68, v69, v70, v71, v72, v73, v74, v75, v76, v77, v78, v79, v80, v81, v82, v83, v84, v85, v86] [34] asg37 bd37 .ready none)] := by
  have fx := fun H d => rowsV_frz hx H d
  have fy := fun H d => rowsV_frz hy H d
  have fz := fun H d => rowsV_frz hz H d
  have rx := fun n d => rowsV_rb hx n d
  have ry := fun n d => rowsV_rb hy n d
  have rz := fun n d => rowsV_rb hz n d
  have hd := dB_vB hx hy hz hl
  have lx := rowsV_len hx
  have ly := rowsV_len hy
  have lz := rowsV_len hz
  rw [List.length_map] at lx ly lz
  obtain ⟨cx1, cx2⟩ := rowsV_cells hx
  obtain ⟨cy1, cy2⟩ := rowsV_cells hy
  obtain ⟨cz1, cz2⟩ := rowsV_cells hz
  have htl : t.toNat < ms.length := by omega
  have ht1 : t < (ms.length : Int) := by omega
  obtain ⟨M, hM⟩ : ∃ M, M = ms[t.toNat] := ⟨_, rfl⟩
  have hgg : ∀ h, ms[t.toNat]'h = M := fun _ => hM.symm
  have hga : ms[t.toNat]? = some M := by rw [List.getElem?_eq_getElem htl, hgg]
  have hMb := hms _ (List.mem_of_getElem? hga)
  have wam : W .i64 (a + M) = a + M := W_fit (by omega)
  refine answers_of hT (orcF_none rfl) ?_
  simp only [c101]
  refine runs_seq ?_
  refine runs_reg (ops_run (by simp [lop, loud, callA, calleeA, hga, hgg, ht0, ht1, htl, wam, rbB_row, rbB_none, rbB_loop, rb_ref, rb_any, -lenA, lx, rx, ry, rz]; rfl) ?_)
  simp only [AEx.thn, AEx.blk]
  refine runs_seq ?_
  refine runs_drw (by simp (maxSteps := 3000000) [lop, loud, callA, calleeA, hga, hgg, ht0, ht1, htl, wam, rbB_row, rbB_none, rbB_loop, rb_ref, rb_any, -lenA, lx, rx, ry, rz, rI]; rfl) ?_
  simp only [AEx.thn, AEx.blk]
  refine runs_seq ?_
  refine runs_seq ?_
  refine runs_reg (ops_take 2 (by simp [lop, loud, callA, calleeA, hga, hgg, ht0, ht1, htl, wam, rbB_row, rbB_none, rbB_loop, rb_ref, rb_any, -lenA, lx, rx, ry, rz]; rfl) ?_)
  simp only [List.drop_succ_cons, List.drop_zero]
  refine ops_ylds (i := 5) (args := [.agg [I f, I t, I (a + M)]]) (by simp) (by simp) (by simp [lop]) (by simp [calleeA]) ?_
  refine (y37_11 T h76 h77 h67 h69 h65 b x y tz hx hy hz hl h0 hsum k i hik hk f t a (f) (t) (a + M) _ _ _ _ _ _ _ _ _ _ _ (fun n hn => by simp [rbB_row, rbB_none]) (fun n hn => by simp [rbB_row, rbB_none]) (fun n hn => by simp [rbB_row, rbB_none]) (fun n hn => by simp [rbB_row, rbB_none]) (fun n hn => by simp [rbB_row, rbB_none]) (fun n hn => by simp [rbB_row, rbB_none]) (fun n hn => by simp [rbB_row, rbB_none]) (fun n hn => by simp [rbB_row, rbB_none]) (fun n hn => by simp [rbB_row, rbB_none]) (fun n hn => by simp [rbB_row, rbB_none]) (fun n hn => by simp [rbB_row, rbB_none]) _ _ _ _ _ _ _ _ _ _ _ _ _ _ _ _ _ _ _ _ _ _ _ _ _ _ _ _ _ _ _ _ _ _ _ _ _ _ _ _ _ _ _ _ _ _ _ _ _ _ _ _ _ _ _ _ _ _ _ _ _ _ _ _ _ _ _ _ _ _ _ _ _ _ _ _ _ _ _ _ _ _ hv).mono ?_
  rintro v h' ⟨rfl, rfl⟩
  refine ops_take 10 (by simp [lop, loud, callA, calleeA, hga, hgg, ht0, ht1, htl, wam, rbB_row, rbB_none, rbB_loop, rb_ref, rb_any, -lenA, lx, rx, ry, rz]; rfl) ?_
  simp only [List.drop_succ_cons, List.drop_zero]
  refine ops_ylds (i := 5) (args := [.agg [I t, I f, I a]]) (by simp) (by simp) (by simp [lop]) (by simp [calleeA]) ?_
  refine (y37_11 T h76 h77 h67 h69 h65 b x y tz hx hy hz hl h0 hsum k i hik hk f t a (t) (f) (a) _ _ _ _ _ _ _ _ _ _ _ (fun n hn => by simp [rbB_row, rbB_none]) (fun n hn => by simp [rbB_row, rbB_none]) (fun n hn => by simp [rbB_row, rbB_none]) (fun n hn => by simp [rbB_row, rbB_none]) (fun n hn => by simp [rbB_row, rbB_none]) (fun n hn => by simp [rbB_row, rbB_none]) (fun n hn => by simp [rbB_row, rbB_none]) (fun n hn => by simp [rbB_row, rbB_none]) (fun n hn => by simp [rbB_row, rbB_none]) (fun n hn => by simp [rbB_row, rbB_none]) (fun n hn => by simp [rbB_row, rbB_none]) _ _ _ _ _ _ _ _ _ _ _ _ _ _ _ _ _ _ _ _ _ _ _ _ _ _ _ _ _ _ _ _ _ _ _ _ _ _ _ _ _ _ _ _ _ _ _ _ _ _ _ _ _ _ _ _ _ _ _ _ _ _ _ _ _ _ _ _ _ _ _ _ _ _ _ _ _ _ _ _ _ _ hv).mono ?_
  rintro v h' ⟨rfl, rfl⟩
  refine ops_run (by simp [lop, loud, callA, calleeA, hga, hgg, ht0, ht1, htl, wam, rbB_row, rbB_none, rbB_loop, rb_ref, rb_any, -lenA, lx, rx, ry, rz]; rfl) ?_
  simp only [AEx.thn, AEx.blk]
  refine runs_cond (x := false) (by simp) ?_
  refine runs_skip ?_
  simp only [AEx.thn, AEx.blk]
  refine runs_seq ?_
  refine runs_reg (ops_run (by simp [lop, loud, callA, calleeA, hga, hgg, ht0, ht1, htl, wam, rbB_row, rbB_none, rbB_loop, rb_ref, rb_any, -lenA, lx, rx, ry, rz]; rfl) ?_)
  simp only [AEx.thn, AEx.blk]
  refine runs_block ?_
  refine runs_loop_inv (fun mm σ => ∃ (p : Nat) (j : Int), j = p ∧ b.opening.length - p = mm ∧ p ≤ b.opening.length ∧ σ = ⟨[.yld 5, .pv [I f, I t, I a] 0, .any, .any, .any, .any, .any, .any, .any, .any, .any, .any, .any, .any, .any, .any, .any, .any, .any, .any, .any, .any, .any, .any, .any, .any, .any, .any, .any, .any, .any, .any, .any, .any, .any, .any, .any, .any, I b.opening.length, I j, .any, .any, .any, .any, .any, .any, .any, .any, .any, .any, .any, .any, .any, .any, .any, .any, .any, .any, .any], [some (.row 3 [[x, y, .vl (b.entries.map rE) tz]]), some (.row 1 [[.nils]]), some (.row 3 [[x, y, .vl (b.entries.map rE) tz]]), some (.row 1 [[I i]]), some (.row 3 [[I f, I t, I a]]), some (.loop [v0, .ref 0 0 0, .ref 1 0 0, v3, .ref 2 0 0, v5, .ref 3 0 0, .ref 4 0 0, v8, v9, v10, v11, v12, v13, v14, v15, v16, v17, v18, v19, v20, v21, v22, v23, v24, v25, v26, v27, v28, v29, v30, v31, v32, v33, v34, v35, v36, v37, v38, v39, v40, v41, v42, v43, v44, v45, v46, v47, v48, v49, v50, v51, v52, v53, v54, v55, v56, v57, v58, v59, v60, v61, v62, v63, v64, v65, v66, v67, v68, v69, v70, v71, v72, v73, v74, v75, v76, v77, v78, v79, v80, v81, v82, v83, v84, v85, v86] [34] asg37 bd37 .ready none), some (.row 3 [[I f, I t, I (a + M)]]), none, none, none, none, none, none, none, none, none, none]⟩) ?_ (b.opening.length - 0) _ ⟨0, 0, rfl, rfl, Nat.zero_le _, by simp⟩
  rintro mm σ ⟨p, j, hjp, rfl, hpl, rfl⟩
  refine runs_seq ?_
  refine runs_reg (ops_run (by simp [lop, loud, callA, calleeA, hga, hgg, ht0, ht1, htl, wam, rbB_row, rbB_none, rbB_loop, rb_ref, rb_any, -lenA, lx, rx, ry, rz]; rfl) ?_)
  simp only [AEx.thn, AEx.blk]
  refine runs_seq ?_
  refine runs_cond_split (x := decide (j < (b.opening.length : Int))) (by simp) (fun hlt => ?_) (fun hlt => ?_)
  · have hlt := of_decide_eq_true hlt
    have hwj : W .i64 (j + 1) = j + 1 := W_small (by omega)
    refine runs_skip ?_
    simp only [AEx.thn, AEx.blk]
    refine runs_seq ?_
    refine runs_block ?_
    refine runs_seq ?_
    refine runs_reg (ops_run (by simp [lop, loud, callA, calleeA, hga, hgg, ht0, ht1, htl, wam, rbB_row, rbB_none, rbB_loop, rb_ref, rb_any, -lenA, lx, rx, ry, rz, hwj]; rfl) ?_)
    simp only [AEx.thn, AEx.blk]
    refine runs_seq ?_
    refine runs_drw (by simp (maxSteps := 3000000) [lop, loud, callA, calleeA, hga, hgg, ht0, ht1, htl, wam, rbB_row, rbB_none, rbB_loop, rb_ref, rb_any, -lenA, lx, rx, ry, rz, hwj]; rfl) ?_
    simp only [AEx.thn, AEx.blk]
    refine runs_seq ?_
    refine runs_reg (ops_run (by simp [lop, loud, callA, calleeA, hga, hgg, ht0, ht1, htl, wam, rbB_row, rbB_none, rbB_loop, rb_ref, rb_any, -lenA, lx, rx, ry, rz, hwj]; rfl) ?_)
    simp only [AEx.thn, AEx.blk]
    refine runs_seq ?_
    refine runs_reg (ops_take 2 (by simp [lop, loud, callA, calleeA, hga, hgg, ht0, ht1, htl, wam, rbB_row, rbB_none, rbB_loop, rb_ref, rb_any, -lenA, lx, rx, ry, rz, hwj]; rfl) ?_)
    simp only [List.drop_succ_cons, List.drop_zero]
    refine ops_ylds (i := 5) (args := [.agg [I j, I t, I a]]) (by simp) (by simp) (by simp [lop]) (by simp [calleeA]) ?_
    refine (y37_17 T h76 h77 h67 h69 h65 b x y tz hx hy hz hl h0 hsum k i hik hk f t a (j) (t) (a) _ _ _ _ _ _ _ _ _ _ _ _ _ _ _ _ _ (fun n hn => by simp [rbB_row, rbB_none]) (fun n hn => by simp [rbB_row, rbB_none]) (fun n hn => by simp [rbB_row, rbB_none]) (fun n hn => by simp [rbB_row, rbB_none]) (fun n hn => by simp [rbB_row, rbB_none]) (fun n hn => by simp [rbB_row, rbB_none]) (fun n hn => by simp [rbB_row, rbB_none]) (fun n hn => by simp [rbB_row, rbB_none]) (fun n hn => by simp [rbB_row, rbB_none]) (fun n hn => by simp [rbB_row, rbB_none]) (fun n hn => by simp [rbB_row, rbB_none]) (fun n hn => by simp [rbB_row, rbB_none]) (fun n hn => by simp [rbB_row, rbB_none]) (fun n hn => by simp [rbB_row, rbB_none]) (fun n hn => by simp [rbB_row, rbB_none]) (fun n hn => by simp [rbB_row, rbB_none]) (fun n hn => by simp [rbB_row, rbB_none]) _ _ _ _ _ _ _ _ _ _ _ _ _ _ _ _ _ _ _ _ _ _ _ _ _ _ _ _ _ _ _ _ _ _ _ _ _ _ _ _ _ _ _ _ _ _ _ _ _ _ _ _ _ _ _ _ _ _ _ _ _ _ _ _ _ _ _ _ _ _ _ _ _ _ _ _ _ _ _ _ _ _ hv).mono ?_
    rintro v h' ⟨rfl, rfl⟩
    refine ops_take 4 (by simp [lop, loud, callA, calleeA, hga, hgg, ht0, ht1, htl, wam, rbB_row, rbB_none, rbB_loop, rb_ref, rb_any, -lenA, lx, rx, ry, rz, hwj]; rfl) ?_
    simp only [List.drop_succ_cons, List.drop_zero]
    refine ops_ylds (i := 5) (args := [.agg [I f, I j, I a]]) (by simp) (by simp) (by simp [lop]) (by simp [calleeA]) ?_
    refine (y37_17 T h76 h77 h67 h69 h65 b x y tz hx hy hz hl h0 hsum k i hik hk f t a (f) (j) (a) _ _ _ _ _ _ _ _ _ _ _ _ _ _ _ _ _ (fun n hn => by simp [rbB_row, rbB_none]) (fun n hn => by simp [rbB_row, rbB_none]) (fun n hn => by simp [rbB_row, rbB_none]) (fun n hn => by simp [rbB_row, rbB_none]) (fun n hn => by simp [rbB_row, rbB_none]) (fun n hn => by simp [rbB_row, rbB_none]) (fun n hn => by simp [rbB_row, rbB_none]) (fun n hn => by simp [rbB_row, rbB_none]) (fun n hn => by simp [rbB_row, rbB_none]) (fun n hn => by simp [rbB_row, rbB_none]) (fun n hn => by simp [rbB_row, rbB_none]) (fun n hn => by simp [rbB_row, rbB_none]) (fun n hn => by simp [rbB_row, rbB_none]) (fun n hn => by simp [rbB_row, rbB_none]) (fun n hn => by simp [rbB_row, rbB_none]) (fun n hn => by simp [rbB_row, rbB_none]) (fun n hn => by simp [rbB_row, rbB_none]) _ _ _ _ _ _ _ _ _ _ _ _ _ _ _ _ _ _ _ _ _ _ _ _ _ _ _ _ _ _ _ _ _ _ _ _ _ _ _ _ _ _ _ _ _ _ _ _ _ _ _ _ _ _ _ _ _ _ _ _ _ _ _ _ _ _ _ _ _ _ _ _ _ _ _ _ _ _ _ _ _ _ hv).mono ?_
    rintro v h' ⟨rfl, rfl⟩
    refine ops_run (by simp [lop, loud, callA, calleeA, hga, hgg, ht0, ht1, htl, wam, rbB_row, rbB_none, rbB_loop, rb_ref, rb_any, -lenA, lx, rx, ry, rz, hwj]; rfl) ?_
    simp only [AEx.thn, AEx.blk]
    refine runs_cond (x := false) (by simp) ?_
    refine runs_skip ?_
    simp only [AEx.thn, AEx.blk]
    refine runs_reg (ops_run (by simp [lop, loud, callA, calleeA, hga, hgg, ht0, ht1, htl, wam, rbB_row, rbB_none, rbB_loop, rb_ref, rb_any, -lenA, lx, rx, ry, rz, hwj]; rfl) ?_)
    simp only [AEx.thn, AEx.blk]
    have hv17 := hv 17 (by decide)
    refine ⟨b.opening.length - (p + 1), by omega, p + 1, j + 1, by omega, rfl, by omega, ?_⟩
    simp [trim, rbB_row, rbB_none, rbB_loop, rx, ry, rz, hv17, -List.all_cons, hwj]
  · have hv6 := hv 6 (by decide)
    refine runs_exit ?_
    simp only [AEx.thn, AEx.blk, if_true, if_false, reduceIte, Nat.reduceEqDiff, Nat.succ_ne_zero, Nat.one_ne_zero, Nat.zero_ne_one]
    refine ⟨by simp, [], by simp [resA], ?_⟩
    simp [trim, rbB_row, rbB_none, rbB_loop, rx, ry, rz, hv6, -List.all_cons]
end
end Go.Proofs.Ytfnnonoffiljhaa.Tab

namespace Go.Proofs.Ytfnnonoffiljhaa.Tab
open Go Go.Abs Go.Proofs
set_option maxRecDepth 100000
set_option maxHeartbeats 4000000
set_option linter.unusedSimpArgs false
set_option linter.unusedVariables false
section
attribute [local simp] frz_int frz_bool frz_vl frz_pv frz_agg frz_tup frz_fn frz_ref frz_sl frz_nils optAll orcF rb_int rb_bool rb_agg rb_tup rb_int' rb_bool' rb_vl rb_pv rb_yld rb_nilf rb_nilp rb_nils rb_any rb_und rb_ref rb_sl rb_fn slE chunk fillA evParts evParts3 putAt List.range_succ List.range_zero List.range'_succ List.range'_zero runX_nil' unary_not evalS_pure evAll_nil evAll_cons runX_cons stepX wantedA dop CV.ev putK_eq setK_eq appK_eq fA_eq fI_eq fN_eq fRow_eq fRows_eq nth_eq Out.v putT List.replicate_succ AEx.thn AEx.blk arI pointee Abs.rowAt ldRow allV toV toC ofV ofC Builtin.min_ Builtin.min2 Builtin.max_ Builtin.max2 min_if max_if resA tupA kill trim_self trim_len trim_emp trim_nil lenA
attribute [local simp] runD_nil' runD_cons' stepD actK_eq actD clash disj masks holes maskH unmaskH diffs news eqB allB eqA ldRowN wrote toCs ofCs stA rowsV_vl rowsV_nils rowsOf dI1 dI2 dI3 dI5 elt
attribute [local simp] st_any st_und st_agg st_tup st_bool st_int st_nilp st_ref st_pv st_nils st_sl st_vl st_nilm st_mp st_fn st_nilf st_yld co_any co_und co_agg co_tup co_bool co_int co_nilp co_ref co_pv co_nils co_sl co_vl co_nilm co_mp co_fn co_nilf co_yld
noncomputable def PS4 : Nat → Option CFn := upd PS3 75 false (oOthers)
theorem PS4_ok : TabOk Try.prog GG PS4 := tab_add mixed PS3_ok fun args v ho => by
  unfold oOthers at ho; split at ho <;> (try simp at ho)
  rename_i v f t a u
  split at ho <;> (try simp at ho)
  rename_i b r hb hu
  obtain ⟨x, y, z, rfl, hx, hy, hz, hl⟩ := dB_eq hb
  simp only [vB] at ho
  subst ho
  exact a75 Try.prog PS3 rfl b x y z hx hy hz hl f t a u r hu
theorem missI_bd {b : PB} (h : bookE b = 0) : ∀ m ∈ missI b, -4000000000 ≤ m ∧ m ≤ 4000000000 := by
  intro m hm
  obtain ⟨k, hk, rfl⟩ := List.mem_iff_getElem.1 hm
  have ok := book_ok h
  have hbl : (balI b).length = b.opening.length := bal_len b.entries b.opening
  have hml : (missI b).length = b.opening.length := by unfold missI; rw [List.length_zipWith]; have := ok.cl; omega
  have hkb : k < (balI b).length := by omega
  have hkc : k < b.closing.length := by have := ok.cl; omega
  have h1 := balI_bd h k hkb
  have h2 := ok.co _ (List.getElem_mem hkc)
  have e : (missI b)[k] = b.closing[k] - (balI b)[k] := by simp [missI]
  rw [e]; omega
def oSlips0 : List AVal → Option AVal
  | [v] => match dB v with
    | some b => if readE b = 0 ∧ (wB 0 0 (missI b) = true ∨ (missI b).sum ≠ 0) then some (.tup [.nils, I (if wB 0 0 (missI b) = true then 6 else 7)]) else none
    | none => none
  | _ => none
theorem a37 (T : Nat → Option CFn) (hT : T 37 = some c37) (h101 : T 101 = some c101) (h76 : T 76 = some c76) (h77 : T 77 = some { c77 with frsh := true, orc := oEntry }) (h67 : T 67 = some { c67 with frsh := true, orc := oBlot }) (h69 : T 69 = some { c69 with frsh := true, orc := oMiss }) (h65 : T 65 = some { c65 with frsh := true, orc := oWithin }) (h74 : T 74 = some { c74 with frsh := false, orc := oRead }) (h75 : T 75 = some { c75 with frsh := false, orc := oOthers }) (h78 : T 78 = some { c78 with frsh := true, orc := oAt L78 }) (b : PB) (x y z : AVal) (hx : rowsV x = some (b.opening.map rI)) (hy : rowsV y = some (b.closing.map rI)) (hz : rowsV z = some (b.entries.map rE)) (hl : b.opening.length ≤ 1000 ∧ b.closing.length ≤ 1000 ∧ b.entries.length ≤ 1000) (hg : readE b = 0 ∧ (wB 0 0 (missI b) = true ∨ (missI b).sum ≠ 0)) :
    Answers Try.prog T 37 [vB x y z] [] fun v h => frz true h 5 v = some (.tup [.nils, I (if wB 0 0 (missI b) = true then 6 else 7)]) := by
  obtain ⟨hR, hg⟩ := hg
  have h0 := read_book hR
  have hok := book_ok h0
  have hen := hok.en
  have hml : (missI b).length = b.opening.length := by unfold missI; rw [List.length_zipWith]; have := bal_len b.entries b.opening; have : (balI b).length = b.opening.length := this; have := hok.cl; omega
  have hso : oAt L78 [.nils, .fn 79 [] []] = some (.tup []) := rfl
  have fx := fun H d => rowsV_frz hx H d
  have fy := fun H d => rowsV_frz hy H d
  have fz := fun H d => rowsV_frz hz H d
  have rx := fun n d => rowsV_rb hx n d
  have ry := fun n d => rowsV_rb hy n d
  have rz := fun n d => rowsV_rb hz n d
  have hd := dB_vB hx hy hz hl
  have lx := rowsV_len hx
  have ly := rowsV_len hy
  have lz := rowsV_len hz
  rw [List.length_map] at lx ly lz
  obtain ⟨cx1, cx2⟩ := rowsV_cells hx
  obtain ⟨cy1, cy2⟩ := rowsV_cells hy
  obtain ⟨cz1, cz2⟩ := rowsV_cells hz
  simp only [vB] at hd ⊢
  have hbm : oMiss [.agg [x, y, z]] = some (.vl ((missI b).map rI) false) := by simp only [oMiss, hd]; rw [if_pos h0]
  have hw := oWithin_eq (x := .vl ((missI b).map rI) false) (xs := missI b) 0 0 rfl (by omega)
  generalize hA : wB 0 0 (missI b) = A at *
  refine answers_of hT (orcF_none rfl) ?_
  simp only [c37]
  refine runs_seq ?_
  refine runs_reg (ops_run (by simp [lop, loud, callA, calleeA, callF_step h74, h74, callF_step h65, h65, callF_step h69, h69, callF_step h75, h75, callF_step h78, h78, oRead, h0, hR, hbm, hw, hd, hso, -lenA, lx, ly, lz, fx, fy, fz, rx, ry, rz, cx1, cx2, cy1, cy2, cz1, cz2, lim]; rfl) ?_)
  simp only [AEx.thn, AEx.blk]
  refine runs_seq ?_
  refine runs_reg (ops_run (by simp [lop, loud, callA, calleeA, callF_step h74, h74, callF_step h65, h65, callF_step h69, h69, callF_step h75, h75, callF_step h78, h78, oRead, h0, hR, hbm, hw, hd, hso, -lenA, lx, ly, lz, fx, fy, fz, rx, ry, rz, cx1, cx2, cy1, cy2, cz1, cz2, lim]; rfl) ?_)
  simp only [AEx.thn, AEx.blk]
  refine runs_seq ?_
  refine runs_seq ?_
  refine runs_reg (ops_run (by simp [lop, loud, callA, calleeA, callF_step h74, h74, callF_step h65, h65, callF_step h69, h69, callF_step h75, h75, callF_step h78, h78, oRead, h0, hR, hbm, hw, hd, hso, -lenA, lx, ly, lz, fx, fy, fz, rx, ry, rz, cx1, cx2, cy1, cy2, cz1, cz2, lim]; rfl) ?_)
  simp only [AEx.thn, AEx.blk]
  refine runs_cond (x := false) (by simp) ?_
  refine runs_skip ?_
  simp only [AEx.thn, AEx.blk]
  refine runs_seq ?_
  refine runs_reg (ops_run (by simp [lop, loud, callA, calleeA, callF_step h74, h74, callF_step h65, h65, callF_step h69, h69, callF_step h75, h75, callF_step h78, h78, oRead, h0, hR, hbm, hw, hd, hso, -lenA, lx, ly, lz, fx, fy, fz, rx, ry, rz, cx1, cx2, cy1, cy2, cz1, cz2, lim]; rfl) ?_)
  simp only [AEx.thn, AEx.blk]
  refine runs_seq ?_
  refine runs_seq ?_
  refine runs_reg (ops_run (by simp [lop, loud, callA, calleeA, callF_step h74, h74, callF_step h65, h65, callF_step h69, h69, callF_step h75, h75, callF_step h78, h78, oRead, h0, hR, hbm, hw, hd, hso, -lenA, lx, ly, lz, fx, fy, fz, rx, ry, rz, cx1, cx2, cy1, cy2, cz1, cz2, lim]; rfl) ?_)
  simp only [AEx.thn, AEx.blk]
  refine runs_cond_split (x := A) (by simp) (fun hA1 => ?_) (fun hA1 => ?_)
  · subst hA1
    refine runs_seq ?_
    refine runs_reg (ops_run (by simp [lop, loud, callA, calleeA, callF_step h74, h74, callF_step h65, h65, callF_step h69, h69, callF_step h75, h75, callF_step h78, h78, oRead, h0, hR, hbm, hw, hd, hso, -lenA, lx, ly, lz, fx, fy, fz, rx, ry, rz, cx1, cx2, cy1, cy2, cz1, cz2, lim]; rfl) ?_)
    simp only [AEx.thn, AEx.blk]
    refine runs_ret ?_
    simp [lop, loud, callA, calleeA, callF_step h74, h74, callF_step h65, h65, callF_step h69, h69, callF_step h75, h75, callF_step h78, h78, oRead, h0, hR, hbm, hw, hd, hso, -lenA, lx, ly, lz, fx, fy, fz, rx, ry, rz, cx1, cx2, cy1, cy2, cz1, cz2, lim, trim]
  subst hA1
  have hsum : (missI b).sum ≠ 0 := hg.resolve_left (by simp)
  refine runs_skip ?_
  simp only [AEx.thn, AEx.blk]
  refine runs_seq ?_
  refine runs_seq ?_
  refine runs_reg (ops_run (by simp [lop, loud, callA, calleeA, callF_step h74, h74, callF_step h65, h65, callF_step h69, h69, callF_step h75, h75, callF_step h78, h78, oRead, h0, hR, hbm, hw, hd, hso, -lenA, lx, ly, lz, fx, fy, fz, rx, ry, rz, cx1, cx2, cy1, cy2, cz1, cz2, lim]; rfl) ?_)
  simp only [AEx.thn, AEx.blk]
  refine runs_block ?_
  refine runs_loop_inv (fun m σ => ∃ (k : Nat) (i : Int), i = k ∧ b.entries.length - k = m ∧ k ≤ b.entries.length ∧ σ = ⟨[.any, .ref 0 0 0, .ref 1 0 0, I 0, .ref 2 0 0, .vl ((missI b).map rI) false, .any, .any, .any, .any, .any, .any, .any, .any, .any, .any, .any, .any, .any, .any, .any, .any, .any, z, I b.entries.length, I i, .any, .any, .any, .any, .any, .any, .any, .any, .und, .any, .any, .any, .any, .any, .any, .any, .any, .any, .any, .any, .any, .any, .any, .any, .any, .any, .any, .any, .any, .any, .any, .any, .any, .any, .any, .any, .any, .any, .any, .any, .any, .any, .any, .any, .any, .any, .any, .any, .any, .any, .any, .any, .any, .any, .any, .any, .any, .any, .any, .any, .any], [some (.row 3 [[x, y, z]]), some (.row 1 [[.nils]]), some (.row 3 [[x, y, z]])]⟩) ?_ (b.entries.length - 0) _ ⟨0, 0, rfl, rfl, Nat.zero_le _, by simp⟩
  rintro m σ ⟨k, i, hik, rfl, hkl, rfl⟩
  refine runs_seq ?_
  refine runs_reg (ops_run (by simp [lop, loud, callA, calleeA, callF_step h74, h74, callF_step h65, h65, callF_step h69, h69, callF_step h75, h75, callF_step h78, h78, oRead, h0, hR, hbm, hw, hd, hso, -lenA, lx, ly, lz, fx, fy, fz, rx, ry, rz, cx1, cx2, cy1, cy2, cz1, cz2, lim]; rfl) ?_)
  simp only [AEx.thn, AEx.blk]
  refine runs_seq ?_
  refine runs_cond_split (x := decide (i < (b.entries.length : Int))) (by simp) (fun hlt => ?_) (fun hlt => ?_)
  · have hlt := of_decide_eq_true hlt
    have hk0 : k < b.entries.length := by omega
    have hne := hen _ (List.getElem_mem hk0)
    obtain ⟨tz, rfl⟩ := rowsV_get hz (k := k) (by rw [List.length_map]; omega)
    have hi0 : 0 ≤ i := by omega
    have htn : i.toNat = k := by omega
    have hwi : W .i64 (i + 1) = i + 1 := W_small (by omega)
    generalize hs : b.entries[k] = e at *
    obtain ⟨f, t, a⟩ := e
    simp only at hne
    obtain ⟨_, ⟨ht0, ht1⟩, _, ha⟩ := hne
    have hot : oOthers [.agg [x, y, .vl (b.entries.map rE) tz], .agg [I f, I t, I a], .vl ((missI b).map rI) false] = some (.fn 101 [] [.pv [I f, I t, I a] 0, .pv [.vl ((missI b).map rI) false] 0, .pv [x, y, .vl (b.entries.map rE) tz] 0]) := by
      simp only [oOthers, hd, rowsV_vl]
    refine runs_skip ?_
    simp only [AEx.thn, AEx.blk]
    refine runs_seq ?_
    refine runs_block ?_
    refine runs_seq ?_
    refine runs_reg (ops_run (by simp [lop, loud, callA, calleeA, callF_step h74, h74, callF_step h65, h65, callF_step h69, h69, callF_step h75, h75, callF_step h78, h78, oRead, h0, hR, hbm, hw, hd, hso, -lenA, lx, ly, lz, fx, fy, fz, rx, ry, rz, cx1, cx2, cy1, cy2, cz1, cz2, lim, hi0, htn, hk0, hs, hwi, rE, hot]; rfl) ?_)
    simp only [AEx.thn, AEx.blk]
    refine runs_seq ?_
    refine runs_reg (ops_run (by simp [lop, loud, callA, calleeA, callF_step h74, h74, callF_step h65, h65, callF_step h69, h69, callF_step h75, h75, callF_step h78, h78, oRead, h0, hR, hbm, hw, hd, hso, -lenA, lx, ly, lz, fx, fy, fz, rx, ry, rz, cx1, cx2, cy1, cy2, cz1, cz2, lim, hi0, htn, hk0, hs, hwi, rE, hot]; rfl) ?_)
    simp only [AEx.thn, AEx.blk]
    refine runs_block ?_
    refine runs_rf (f := 101) (a := []) (b := [.pv [I f, I t, I a] 0, .pv [.vl ((missI b).map rI) false] 0, .pv [x, y, .vl (b.entries.map rE) tz] 0]) (by simp [inLoop]) (by simp) ?_
    refine (it101 T h101 h76 h77 h67 h69 h65 b x y tz hx hy hz hl h0 hsum k i hik hk0 f t a ht0 ht1 ha (missI b) false hml (missI_bd h0) _ _ _ _ _ _ _ _ _ _ _ _ _ _ _ _ _ _ _ _ _ _ _ _ _ _ _ _ _ _ _ _ _ _ _ _ _ _ _ _ _ _ _ _ _ _ _ _ _ _ _ _ _ _ _ _ _ _ _ _ _ _ _ _ _ _ _ _ _ _ _ _ _ _ _ _ _ _ _ _ _ _ (fun n hn => by simp [rb_agg, rb_yld, rb_ref, rb_fn, rx, ry, rz]; omega)).mono ?_
    rintro v h2 rfl
    refine ⟨_, _, _, _, _, _, rfl, by simp, ?_⟩
    simp only [AEx.thn, AEx.blk, if_true, if_false, reduceIte, Nat.reduceEqDiff, Nat.succ_ne_zero, Nat.one_ne_zero, Nat.zero_ne_one]
    refine runs_reg (ops_run (by simp [lop, loud, callA, calleeA, callF_step h74, h74, callF_step h65, h65, callF_step h69, h69, callF_step h75, h75, callF_step h78, h78, oRead, h0, hR, hbm, hw, hd, hso, -lenA, lx, ly, lz, fx, fy, fz, rx, ry, rz, cx1, cx2, cy1, cy2, cz1, cz2, lim, hi0, htn, hk0, hs, hwi, rE, hot]; rfl) ?_)
    simp only [AEx.thn, AEx.blk]
    exact ⟨b.entries.length - (k + 1), by omega, k + 1, i + 1, by omega, rfl, by omega, by simp [trim, rbB_row, rbB_none, lop, loud, callA, calleeA, callF_step h74, h74, callF_step h65, h65, callF_step h69, h69, callF_step h75, h75, callF_step h78, h78, oRead, h0, hR, hbm, hw, hd, hso, -lenA, lx, ly, lz, fx, fy, fz, rx, ry, rz, cx1, cx2, cy1, cy2, cz1, cz2, lim, hi0, htn, hk0, hs, hwi, rE, hot]⟩
  · refine runs_exit ?_
    simp only [AEx.thn, AEx.blk, if_true, if_false, reduceIte, Nat.reduceEqDiff, Nat.succ_ne_zero, Nat.one_ne_zero, Nat.zero_ne_one]
    refine runs_seq ?_
    refine runs_reg (ops_run (by simp [lop, loud, callA, calleeA, callF_step h74, h74, callF_step h65, h65, callF_step h69, h69, callF_step h75, h75, callF_step h78, h78, oRead, h0, hR, hbm, hw, hd, hso, -lenA, lx, ly, lz, fx, fy, fz, rx, ry, rz, cx1, cx2, cy1, cy2, cz1, cz2, lim]; rfl) ?_)
    simp only [AEx.thn, AEx.blk]
    refine runs_seq ?_
    refine runs_seq ?_
    refine runs_reg (ops_run (by simp [lop, loud, callA, calleeA, callF_step h74, h74, callF_step h65, h65, callF_step h69, h69, callF_step h75, h75, callF_step h78, h78, oRead, h0, hR, hbm, hw, hd, hso, -lenA, lx, ly, lz, fx, fy, fz, rx, ry, rz, cx1, cx2, cy1, cy2, cz1, cz2, lim]; rfl) ?_)
    simp only [AEx.thn, AEx.blk]
    refine runs_cond (x := true) (by simp) ?_
    refine runs_seq ?_
    refine runs_reg (ops_run (by simp [lop, loud, callA, calleeA, callF_step h74, h74, callF_step h65, h65, callF_step h69, h69, callF_step h75, h75, callF_step h78, h78, oRead, h0, hR, hbm, hw, hd, hso, -lenA, lx, ly, lz, fx, fy, fz, rx, ry, rz, cx1, cx2, cy1, cy2, cz1, cz2, lim]; rfl) ?_)
    simp only [AEx.thn, AEx.blk]
    refine runs_ret ?_
    simp [lop, loud, callA, calleeA, callF_step h74, h74, callF_step h65, h65, callF_step h69, h69, callF_step h75, h75, callF_step h78, h78, oRead, h0, hR, hbm, hw, hd, hso, -lenA, lx, ly, lz, fx, fy, fz, rx, ry, rz, cx1, cx2, cy1, cy2, cz1, cz2, lim, trim]
end
end Go.Proofs.Ytfnnonoffiljhaa.Tab
