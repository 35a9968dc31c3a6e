/- The abstract machine: what a function answers with blocks of its own, shown on an empty heap, it answers on every heap. No condition. -/
import Derived.Test.YtjjapdagllclkaaGreatPzCFn
import Derived.Test.YtjjapdagllclkaaGreatPzBFn
import Derived.Test.YtjjapdagllclkaaGreatPzDFn
set_option linter.unusedSimpArgs false
set_option linter.unusedVariables false
namespace Go.Proofs.YtjjapdagllclkaaGreat.Tab
open Go Go.Abs Go.Proofs
set_option maxRecDepth 100000
set_option maxHeartbeats 4000000
set_option linter.unusedSimpArgs false
set_option linter.unusedVariables false
section
attribute [local simp] frz_int frz_bool frz_vl frz_pv frz_agg frz_tup frz_fn frz_ref frz_sl frz_nils optAll orcF rb_int rb_bool rb_agg rb_tup rb_int' rb_bool' rb_vl rb_pv rb_yld rb_nilf rb_nilp rb_nils rb_any rb_und rb_ref rb_sl rb_fn slE chunk fillA evParts evParts3 putAt List.range_succ List.range_zero List.range'_succ List.range'_zero runX_nil' unary_not evalS_pure evAll_nil evAll_cons runX_cons stepX wantedA dop CV.ev putK_eq setK_eq appK_eq fA_eq fI_eq fN_eq fRow_eq fRows_eq nth_eq Out.v putT List.replicate_succ zT zB arI pointee Abs.rowAt ldRow allV toV toC ofV ofC Builtin.min_ Builtin.min2 Builtin.max_ Builtin.max2 min_if max_if resA tupA kill trim_self trim_len trim_emp trim_nil lenA
attribute [local simp] runD_nil' runD_cons' stepD actK_eq actD clash disj masks holes maskH unmaskH diffs news eqB allB eqA ldRowN wrote toCs ofCs stA rowsV_vl rowsV_nils rowsOf dI1 dI2 dI3 dI5 elt
attribute [local simp] st_any st_und st_agg st_tup st_bool st_int st_nilp st_ref st_pv st_nils st_sl st_vl st_nilm st_mp st_fn st_nilf st_yld co_any co_und co_agg co_tup co_bool co_int co_nilp co_ref co_pv co_nils co_sl co_vl co_nilm co_mp co_fn co_nilf co_yld
section
attribute [local simp] callA calleeA lop loud rbB_none rbB_row
def oIn : List AVal → Option AVal
  | [.int .i64 n, .int .i64 a, .int .i64 b] => some (.bool (inI a n b))
  | _ => none
theorem a39 (P : Program) (T : Nat → Option CFn) (hT : T 39 = some c39) (n a b : Int) : Answers P T 39 [I n, I a, I b] [] fun v h => frz true h 5 v = some (.bool (inI a n b)) := by
 refine answers_of hT (orcF_none rfl) ?_
 simp only [oo, om, op, og, ci, cl, c39]
 by_cases hx : a ≤ n
 ·refine zS ?_
  refine zR (zO (by simp [hx]; rfl) ?_)
  simp only [zT, zB]
  refine zS ?_
  refine zR (zO (by simp [hx]; rfl) ?_)
  simp only [zT, zB]
  refine runs_ret ?_
  simp [hx, inI]
 ·refine zS ?_
  refine zR (zO (by simp [hx]; rfl) ?_)
  simp only [zT, zB]
  refine zS ?_
  refine zR (zO (by simp [hx]; rfl) ?_)
  simp only [zT, zB]
  refine runs_ret ?_
  simp [hx, inI]
noncomputable def FU1 : Nat → Option CFn := upd T 39 true (oIn)
theorem FU1_ok : TabOk Tryz.prog GG FU1 := tab_add mixed T_ok fun args v ho => by
  unfold oIn at ho; split at ho <;> simp at ho
  rename_i n a b
  subst ho
  exact a39 Tryz.prog T rfl  n a b
theorem a23 (P : Program) (T : Nat → Option CFn) (hT : T 23 = some c23) (x y : AVal) (xs : List Int) (hx : dInts x = some xs) (hy : dInts y = some xs) (hl : xs.length ≤ 1000) : Answers P T 23 [x, y] [] fun v h => frz true h 5 v = some (.bool true) := by
 have lx := dInts_len hx
 have ly := dInts_len hy
 refine answers_of hT (orcF_none rfl) ?_
 simp only [oo, om, op, og, ci, cl, c23]
 refine zS ?_
 refine zR (zO (by simp [lx, ly, -lenA]; rfl) ?_)
 simp only [zT, zB]
 refine zS ?_
 refine zS ?_
 refine zR (zO (by simp [lx, ly, -lenA]; rfl) ?_)
 simp only [zT, zB]
 refine runs_cond (x := false) (by simp) ?_
 refine zK ?_
 simp only [zT, zB]
 refine zS ?_
 refine zS ?_
 refine zR (zO (by simp [lx, ly, -lenA]; rfl) ?_)
 simp only [zT, zB]
 refine zL ?_
 refine runs_loop_inv (fun m σ => ∃ (k : Nat) (i : Int), i = k ∧ xs.length - k = m ∧ k ≤ xs.length ∧ σ = ⟨[x, y, .any, .any, .any, I i, .any, .any, .any, .any, .any, .any, .any, .any, .any, .any, .any, .any, .any, .any, .any, .any, .any, .any, .any, .any], []⟩) ?_ (xs.length - 0) _ ⟨0, 0, rfl, rfl, Nat.zero_le _, by simp⟩
 rintro m σ ⟨k, i, hik, rfl, hkl, rfl⟩
 refine zS ?_
 refine zS ?_
 refine zR (zO (by simp [lx, ly, -lenA]; rfl) ?_)
 simp only [zT, zB]
 refine runs_cond_split (x := decide (i < (xs.length : Int))) (by simp) (fun hlt => ?_) (fun hlt => ?_)
 ·have hlt := of_decide_eq_true hlt
  have hk0 : k < xs.length := by omega
  obtain ⟨t1, rfl⟩ := dInts_get hx hk0
  obtain ⟨t2, rfl⟩ := dInts_get hy hk0
  have hi0 : 0 ≤ i := by omega
  have htn : i.toNat = k := by omega
  have hwi : W .i64 (i + 1) = i + 1 := W_small (by omega)
  generalize hs : xs[k] = s at *
  have HH1 := zA lx (zA ly (zA hi0 (zA htn (zA hk0 (zA hs hwi)))))
  refine zK ?_
  simp only [zT, zB]
  refine zS ?_
  refine zL ?_
  refine zS ?_
  refine runs_drw (by simp (maxSteps := 3000000) [-lenA, rI, HH1]; rfl) ?_
  simp only [zT, zB]
  refine runs_cond (x := false) (by simp) ?_
  refine zK ?_
  simp only [zT, zB]
  refine zR (zO (by simp [-lenA, rI, HH1]; rfl) ?_)
  simp only [zT, zB]
  exact ⟨xs.length - (k + 1), by omega, k + 1, i + 1, by omega, rfl, by omega, by simp [-lenA, rI, HH1]⟩
 ·refine runs_exit ?_
  simp only [zT, zB, if_true, if_false, reduceIte, Nat.reduceEqDiff, Nat.succ_ne_zero, Nat.one_ne_zero, Nat.zero_ne_one]
  refine zS ?_
  refine zR (zO (by simp [lx, ly, -lenA]; rfl) ?_)
  simp only [zT, zB]
  refine runs_ret ?_
  simp [lx, ly, -lenA]
def oIntsEq : List AVal → Option AVal
  | [x, y] => match dInts x, dInts y with
    | some xs, some ys => if xs = ys ∧ xs.length ≤ 1000 then some (.bool true) else none
    | _, _ => none
  | _ => none
theorem intsEq_eq {x y : AVal} {xs : List Int} (hx : dInts x = some xs) (hy : dInts y = some xs) (hl : xs.length ≤ 1000) : oIntsEq [x, y] = some (.bool true) := by
  simp only [oIntsEq, hx, hy, hl, and_self, if_true]
noncomputable def FU2 : Nat → Option CFn := upd FU1 23 true (oIntsEq)
theorem FU2_ok : TabOk Tryz.prog GG FU2 := tab_add mixed FU1_ok fun args v ho => by
  unfold oIntsEq at ho; split at ho <;> (try simp only [reduceCtorEq] at ho)
  rename_i x y
  split at ho <;> (try simp only [reduceCtorEq] at ho)
  rename_i xs ys hx hy
  split at ho <;> (try simp only [reduceCtorEq] at ho)
  rename_i hg
  simp only [Option.some.injEq] at ho
  subst ho
  obtain ⟨rfl, hl⟩ := hg
  exact a23 Tryz.prog FU1 rfl x y xs hx hy hl
theorem a22 (P : Program) (T : Nat → Option CFn) (hT : T 22 = some c22) (h23 : T 23 = some { c23 with frsh := true, orc := oIntsEq }) (js : List FJob) (j j2 : AVal) (hj : dJobs j = some js) (hj2 : dJobs j2 = some js) (hl : js.length ≤ 1000) (hm : ∀ x ∈ js, x.mins.length ≤ 1000) : Answers P T 22 [j, j2] [] fun v h => frz true h 5 v = some (.bool true) := by
 have lj := dJobs_len hj
 have lj2 := dJobs_len hj2
 have fj := fun H d => dJobs_frz hj H d
 have fj2 := fun H d => dJobs_frz hj2 H d
 have rj := fun n d => dJobs_rb hj n d
 have rj2 := fun n d => dJobs_rb hj2 n d
 refine answers_of hT (orcF_none rfl) ?_
 simp only [oo, om, op, og, ci, cl, c22]
 have HH1 := zA h23 (zA lj (zA lj2 (zA fj (zA fj2 (zA rj rj2)))))
 refine zS ?_
 refine zR (zO (by simp [zC h23, -lenA, HH1]; rfl) ?_)
 simp only [zT, zB]
 refine zS ?_
 refine zS ?_
 refine zR (zO (by simp [zC h23, -lenA, HH1]; rfl) ?_)
 simp only [zT, zB]
 refine runs_cond (x := false) (by simp) ?_
 refine zK ?_
 simp only [zT, zB]
 refine zS ?_
 refine zS ?_
 refine zR (zO (by simp [zC h23, -lenA, HH1]; rfl) ?_)
 simp only [zT, zB]
 refine zL ?_
 refine runs_loop_inv (fun m σ => ∃ (k : Nat) (i : Int), i = k ∧ js.length - k = m ∧ k ≤ js.length ∧ σ = ⟨[j, j2, .any, .any, .any, I i, .any, .any, .any, .any, .any, .any, .any, .any, .any, .any, .any, .any, .any, .any, .any, .any, .any, .any, .any, .any, .any, .any, .any, .any, .any, .any, .any, .any, .any, .any, .any, .any, .any, .any, .any, .any, .any, .any, .any, .any, .any, .any, .any, .any, .any, .any, .any, .any, .any, .any, .any, .any, .any, .any, .any, .any, .any, .any, .any, .any, .any, .any], []⟩) ?_ (js.length - 0) _ ⟨0, 0, rfl, rfl, Nat.zero_le _, by simp⟩
 rintro m σ ⟨k, i, hik, rfl, hkl, rfl⟩
 refine zS ?_
 refine zS ?_
 refine zR (zO (by simp [zC h23, -lenA, HH1]; rfl) ?_)
 simp only [zT, zB]
 refine runs_cond_split (x := decide (i < (js.length : Int))) (by simp) (fun hlt => ?_) (fun hlt => ?_)
 ·have hlt := of_decide_eq_true hlt
  have hk0 : k < js.length := by omega
  have hi0 : 0 ≤ i := by omega
  have htn : i.toNat = k := by omega
  have hwi : W .i64 (i + 1) = i + 1 := W_small (by omega)
  obtain ⟨jr, tj, wv, rfl, hr1, hr2, hwv⟩ := dJobs_get hj hk0
  have hkr : k < jr.length := by omega
  have hr4 : ∀ h, jr[k]'h = [I js[k].kind, I js[k].ready, I js[k].due, wv] := fun h => by rw [List.getElem?_eq_getElem h] at hr2; exact Option.some.inj hr2
  have rw5 := fun n d => dInts_rb hwv n d
  have fw5 := fun H d => dInts_frz hwv H d
  have lw5 := dInts_len hwv
  obtain ⟨cw1, cw2⟩ := dInts_cells hwv
  obtain ⟨jrz, tjz, wvz, rfl, hr1z, hr2z, hwvz⟩ := dJobs_get hj2 hk0
  have hkrz : k < jrz.length := by omega
  have hr4z : ∀ h, jrz[k]'h = [I js[k].kind, I js[k].ready, I js[k].due, wvz] := fun h => by rw [List.getElem?_eq_getElem h] at hr2z; exact Option.some.inj hr2z
  have rw5z := fun n d => dInts_rb hwvz n d
  have fw5z := fun H d => dInts_frz hwvz H d
  have lw5z := dInts_len hwvz
  obtain ⟨cw1z, cw2z⟩ := dInts_cells hwvz
  have hml := hm _ (List.getElem_mem hk0)
  have hq := intsEq_eq hwv hwvz hml
  generalize hJk : js[k] = J at *
  obtain ⟨Jk, Jr, Jd, Jm⟩ := J
  have HH2 := zA hi0 (zA htn (zA hk0 (zA hwi (zA hq (zA hkr (zA hr2 (zA hr4 (zA rw5 (zA fw5 (zA lw5 (zA cw1 (zA cw2 (zA hkrz (zA hr2z (zA hr4z (zA rw5z (zA fw5z (zA lw5z (zA cw1z cw2z)))))))))))))))))))
  refine zK ?_
  simp only [zT, zB]
  refine zS ?_
  refine zL ?_
  refine zS ?_
  refine runs_drw (by simp (maxSteps := 3000000) [zC h23, -lenA, HH1, HH2]; rfl) ?_
  simp only [zT, zB]
  refine runs_cond (x := false) (by simp) ?_
  refine zK ?_
  simp only [zT, zB]
  refine zR (zO (by simp [zC h23, -lenA, HH1, HH2]; rfl) ?_)
  simp only [zT, zB]
  exact ⟨js.length - (k + 1), by omega, k + 1, i + 1, by omega, rfl, by omega, by simp [trim, zC h23, -lenA, HH1, HH2]⟩
 ·refine runs_exit ?_
  simp only [zT, zB, if_true, if_false, reduceIte, Nat.reduceEqDiff, Nat.succ_ne_zero, Nat.one_ne_zero, Nat.zero_ne_one]
  refine zS ?_
  refine zR (zO (by simp [zC h23, -lenA, HH1]; rfl) ?_)
  simp only [zT, zB]
  refine runs_ret ?_
  simp [zC h23, -lenA, HH1, trim]
theorem eq61n (x y : Operand) (a0 a1 a2 b0 b1 b2 : Int) : evalS Tryz.prog (do eqGuard .neq 61 x y (.agg #[.int .i64 a0, .int .i64 a1, .int .i64 a2]) (.agg #[.int .i64 b0, .int .i64 b1, .int .i64 b2]); binOp .neq 61 (.agg #[.int .i64 a0, .int .i64 a1, .int .i64 a2]) (.agg #[.int .i64 b0, .int .i64 b1, .int .i64 b2])) = some (.bool (!((a0 == b0) && ((a1 == b1) && ((a2 == b2) && true))))) := by
  have h := evalS_eqv (P := Tryz.prog) (ne := true) (t := 61) (x := x) (y := y) (xs := #[.int .i64 a0, .int .i64 a1, .int .i64 a2]) (ys := #[.int .i64 b0, .int .i64 b1, .int .i64 b2]) (b := ((a0 == b0) && ((a1 == b1) && ((a2 == b2) && true)))) (by kernel_rfl) (by kernel_rfl)
  simpa only [if_true, if_false, Bool.false_eq_true, Bool.bne_true, Bool.bne_false] using h
theorem a21 (T : Nat → Option CFn) (hT : T 21 = some c21) (h23 : T 23 = some { c23 with frsh := true, orc := oIntsEq }) (s : FShop) (c t c2 t2 : AVal) (hc : dInts2 c = some s.chg) (ht : dStops t = some s.stops) (hc2 : dInts2 c2 = some s.chg) (ht2 : dStops t2 = some s.stops) (hm1 : s.chg.length ≤ 1000) (hm2 : ∀ x ∈ s.chg, x.length ≤ 1000) (hm3 : s.stops.length ≤ 1000) : Answers Tryz.prog T 21 [.agg [I s.mach, c, t], .agg [I s.mach, c2, t2]] [] fun v h => frz true h 5 v = some (.bool true) := by
 have fc := fun H d => dInts2_frz hc H d
 have ft := fun H d => dStops_frz ht H d
 have rc := fun n d => dInts2_rb hc n d
 have rt := fun n d => dStops_rb ht n d
 have lc := dInts2_len hc
 have lt := dStops_len ht
 obtain ⟨cc1, cc2⟩ := dInts2_cells hc
 obtain ⟨ct1, ct2⟩ := dStops_cells ht
 have fc2 := fun H d => dInts2_frz hc2 H d
 have ft2 := fun H d => dStops_frz ht2 H d
 have rc2 := fun n d => dInts2_rb hc2 n d
 have rt2 := fun n d => dStops_rb ht2 n d
 have lc2 := dInts2_len hc2
 have lt2 := dStops_len ht2
 obtain ⟨cc3, cc4⟩ := dInts2_cells hc2
 obtain ⟨ct3, ct4⟩ := dStops_cells ht2
 refine answers_of hT (orcF_none rfl) ?_
 simp only [oo, om, op, og, ci, cl, c21]
 have HH1 := zA h23 (zA fc (zA ft (zA rc (zA rt (zA lc (zA lt (zA cc1 (zA cc2 (zA ct1 (zA ct2 (zA fc2 (zA ft2 (zA rc2 (zA rt2 (zA lc2 (zA lt2 (zA cc3 (zA cc4 (zA ct3 ct4)))))))))))))))))))
 refine zS ?_
 refine zR (zO (by simp [zC h23, -lenA, HH1]; rfl) ?_)
 simp only [zT, zB]
 refine zS ?_
 refine zS ?_
 refine zR (zO (by simp [zC h23, -lenA, HH1]; rfl) ?_)
 simp only [zT, zB]
 refine runs_cond (x := false) (by simp) ?_
 refine zK ?_
 simp only [zT, zB]
 refine zS ?_
 refine zS ?_
 refine zR (zO (by simp [zC h23, -lenA, HH1]; rfl) ?_)
 simp only [zT, zB]
 refine zL ?_
 refine runs_loop_inv (fun m σ => ∃ (k : Nat) (i : Int), i = k ∧ s.chg.length - k = m ∧ k ≤ s.chg.length ∧ σ = ⟨[.any, .any, .ref 0 0 0, .ref 1 0 0, .any, I i, .any, .any, .any, .any, .any, .any, .any, .any, .any, .any, .any, .any, .any, .any, .any, .any, .any, .any, .any, .any, .any, .any, .any, .any, .any, .any, .any, .any, .any, .any, .any, .any, .any, .any, .any, .any, .any, .any, .any, .any, .any, .any, .any, .any, .any, .any, .any, .any, .any, .any, .any, .any, .any, .any, .any, .any, .any, .any, .any, .any, .any], [some (.row 3 [[I s.mach, c, t]]), some (.row 3 [[I s.mach, c2, t2]])]⟩) ?_ (s.chg.length - 0) _ ⟨0, 0, rfl, rfl, Nat.zero_le _, by simp⟩
 rintro m σ ⟨k, i, hik, rfl, hkl, rfl⟩
 refine zS ?_
 refine zS ?_
 refine zR (zO (by simp [zC h23, -lenA, HH1]; rfl) ?_)
 simp only [zT, zB]
 refine runs_cond_split (x := decide (i < (s.chg.length : Int))) (by simp) (fun hlt => ?_) (fun hlt => ?_)
 ·have hlt := of_decide_eq_true hlt
  have hk0 : k < s.chg.length := by omega
  have hi0 : 0 ≤ i := by omega
  have htn : i.toNat = k := by omega
  have hwi : W .i64 (i + 1) = i + 1 := W_small (by omega)
  obtain ⟨cr, tc, wc, rfl, hq1c, hq2c, hwc⟩ := dInts2_get hc hk0
  have hkc : k < cr.length := by omega
  have hq4c : ∀ h, cr[k]'h = [wc] := fun h => by rw [List.getElem?_eq_getElem h] at hq2c; exact Option.some.inj hq2c
  have rwc := fun n d => dInts_rb hwc n d
  have fwc := fun H d => dInts_frz hwc H d
  have lwc := dInts_len hwc
  obtain ⟨cwc, cwd⟩ := dInts_cells hwc
  obtain ⟨crz, tcz, wcz, rfl, hq1cz, hq2cz, hwcz⟩ := dInts2_get hc2 hk0
  have hkcz : k < crz.length := by omega
  have hq4cz : ∀ h, crz[k]'h = [wcz] := fun h => by rw [List.getElem?_eq_getElem h] at hq2cz; exact Option.some.inj hq2cz
  have rwcz := fun n d => dInts_rb hwcz n d
  have fwcz := fun H d => dInts_frz hwcz H d
  have lwcz := dInts_len hwcz
  obtain ⟨cwcz, cwdz⟩ := dInts_cells hwcz
  have hml := hm2 _ (List.getElem_mem hk0)
  have hq := intsEq_eq hwc hwcz hml
  have HH2 := zA hi0 (zA htn (zA hk0 (zA hwi (zA hq (zA hkc (zA hq2c (zA hq4c (zA rwc (zA fwc (zA lwc (zA cwc (zA cwd (zA hkcz (zA hq2cz (zA hq4cz (zA rwcz (zA fwcz (zA lwcz (zA cwcz cwdz)))))))))))))))))))
  refine zK ?_
  simp only [zT, zB]
  refine zS ?_
  refine zL ?_
  refine zS ?_
  refine runs_drw (by simp (maxSteps := 3000000) [zC h23, -lenA, HH1, HH2]; rfl) ?_
  simp only [zT, zB]
  refine runs_cond (x := false) (by simp) ?_
  refine zK ?_
  simp only [zT, zB]
  refine zR (zO (by simp [zC h23, -lenA, HH1, HH2]; rfl) ?_)
  simp only [zT, zB]
  exact ⟨s.chg.length - (k + 1), by omega, k + 1, i + 1, by omega, rfl, by omega, by simp [trim, zC h23, -lenA, HH1, HH2]⟩
 ·refine runs_exit ?_
  simp only [zT, zB, if_true, if_false, reduceIte, Nat.reduceEqDiff, Nat.succ_ne_zero, Nat.one_ne_zero, Nat.zero_ne_one]
  refine zS ?_
  refine zS ?_
  refine zR (zO (by simp [zC h23, -lenA, HH1]; rfl) ?_)
  simp only [zT, zB]
  refine zL ?_
  refine runs_loop_inv (fun m σ => ∃ (k : Nat) (i : Int), i = k ∧ s.stops.length - k = m ∧ k ≤ s.stops.length ∧ σ = ⟨[.any, .any, .ref 0 0 0, .ref 1 0 0, .any, .any, I i, .any, .any, .any, .any, .any, .any, .any, .any, .any, .any, .any, .any, .any, .any, .any, .any, .any, .any, .any, .any, .any, .any, .any, .any, .any, .any, .any, .any, .any, .any, .any, .any, .any, .any, .any, .any, .any, .any, .any, .any, .any, .any, .any, .any, .any, .any, .any, .any, .any, .any, .any, .any, .any, .any, .any, .any, .any, .any, .any, .any], [some (.row 3 [[I s.mach, c, t]]), some (.row 3 [[I s.mach, c2, t2]])]⟩) ?_ (s.stops.length - 0) _ ⟨0, 0, rfl, rfl, Nat.zero_le _, by simp⟩
  rintro m σ ⟨k, i, hik, rfl, hkl, rfl⟩
  refine zS ?_
  refine zS ?_
  refine zR (zO (by simp [zC h23, -lenA, HH1]; rfl) ?_)
  simp only [zT, zB]
  refine runs_cond_split (x := decide (i < (s.stops.length : Int))) (by simp) (fun hlt => ?_) (fun hlt => ?_)
  ·have hlt := of_decide_eq_true hlt
   have hk0 : k < s.stops.length := by omega
   have hi0 : 0 ≤ i := by omega
   have htn : i.toNat = k := by omega
   have hwi : W .i64 (i + 1) = i + 1 := W_small (by omega)
   obtain ⟨ta, rfl⟩ := dStops_get ht hk0
   obtain ⟨tb, rfl⟩ := dStops_get ht2 hk0
   generalize hX : s.stops[k] = X at *
   obtain ⟨x1, x2, x3⟩ := X
   have HH3 := zA hi0 (zA htn (zA hk0 (zA hwi hX)))
   refine zK ?_
   simp only [zT, zB]
   refine zS ?_
   refine zL ?_
   refine zS ?_
   refine runs_drw (by simp (maxSteps := 3000000) [zC h23, -lenA, HH1, rS3, eq61n, HH3]; rfl) ?_
   simp only [zT, zB]
   refine runs_cond (x := false) (by simp) ?_
   refine zK ?_
   simp only [zT, zB]
   refine zR (zO (by simp [zC h23, -lenA, HH1, rS3, eq61n, HH3]; rfl) ?_)
   simp only [zT, zB]
   exact ⟨s.stops.length - (k + 1), by omega, k + 1, i + 1, by omega, rfl, by omega, by simp [trim, zC h23, -lenA, HH1, rS3, eq61n, HH3]⟩
  ·refine runs_exit ?_
   simp only [zT, zB, if_true, if_false, reduceIte, Nat.reduceEqDiff, Nat.succ_ne_zero, Nat.one_ne_zero, Nat.zero_ne_one]
   refine zS ?_
   refine zR (zO (by simp [zC h23, -lenA, HH1]; rfl) ?_)
   simp only [zT, zB]
   refine runs_ret ?_
   simp [zC h23, -lenA, HH1, trim]
def oSame : List AVal → Option AVal
  | [.agg [.int .i64 m, c, t], .agg [.int .i64 m2, c2, t2]] => match dInts2 c, dStops t, dInts2 c2, dStops t2 with
    | some cs, some ts, some cs2, some ts2 => if m = m2 ∧ cs = cs2 ∧ ts = ts2 ∧ cs.length ≤ 1000 ∧ (∀ x ∈ cs, x.length ≤ 1000) ∧ ts.length ≤ 1000 then some (.bool true) else none
    | _, _, _, _ => none
  | _ => none
theorem same_eq {m : Int} {c t c2 t2 : AVal} {cs : List (List Int)} {ts : List FStop} (hc : dInts2 c = some cs) (ht : dStops t = some ts) (hc2 : dInts2 c2 = some cs) (ht2 : dStops t2 = some ts) (h : cs.length ≤ 1000 ∧ (∀ x ∈ cs, x.length ≤ 1000) ∧ ts.length ≤ 1000) : oSame [.agg [I m, c, t], .agg [I m, c2, t2]] = some (.bool true) := by
  simp only [oSame, hc, ht, hc2, ht2]; rw [if_pos ⟨trivial, trivial, trivial, h⟩]
def oEqual : List AVal → Option AVal
  | [j, j2] => match dJobs j, dJobs j2 with
    | some js, some js2 => if js.length = js2.length ∧ (js.map fun x => (x.kind, x.ready, x.due, x.mins)) = (js2.map fun x => (x.kind, x.ready, x.due, x.mins)) ∧ js.length ≤ 1000 ∧ (∀ x ∈ js, x.mins.length ≤ 1000) then some (.bool true) else none
    | _, _ => none
  | _ => none
theorem equal_eq {j j2 : AVal} {js : List FJob} (hj : dJobs j = some js) (hj2 : dJobs j2 = some js) (h : js.length ≤ 1000 ∧ ∀ x ∈ js, x.mins.length ≤ 1000) : oEqual [j, j2] = some (.bool true) := by
  simp only [oEqual, hj, hj2]; rw [if_pos ⟨trivial, trivial, h⟩]
theorem job_inj : ∀ {js js2 : List FJob}, (js.map fun x => (x.kind, x.ready, x.due, x.mins)) = (js2.map fun x => (x.kind, x.ready, x.due, x.mins)) → js = js2
  | [], [], _ => rfl
  | [], _ :: _, h => by cases h
  | _ :: _, [], h => by cases h
  | a :: js, b :: js2, h => by
    simp only [List.map_cons, List.cons.injEq, Prod.mk.injEq] at h
    obtain ⟨⟨h1, h2, h3, h4⟩, h5⟩ := h
    obtain ⟨a1, a2, a3, a4⟩ := a
    obtain ⟨b1, b2, b3, b4⟩ := b
    simp only at h1 h2 h3 h4
    rw [job_inj h5, h1, h2, h3, h4]
noncomputable def FU3_22 : Nat → Option CFn := upd FU2 22 true (oEqual)
theorem FU3_22_ok : TabOk Tryz.prog GG FU3_22 := tab_add mixed FU2_ok fun args v ho => by
  unfold oEqual at ho; split at ho <;> (try simp only [reduceCtorEq] at ho)
  rename_i j j2
  split at ho <;> (try simp only [reduceCtorEq] at ho)
  rename_i js js2 hj hj2
  split at ho <;> (try simp only [reduceCtorEq] at ho)
  rename_i hg
  simp only [Option.some.injEq] at ho
  subst ho
  obtain ⟨_, he, hl, hm⟩ := hg
  have he := job_inj he
  subst he
  exact a22 Tryz.prog FU2 rfl rfl js j j2 hj hj2 hl hm
noncomputable def FU3 : Nat → Option CFn := upd FU3_22 21 true (oSame)
theorem FU3_ok : TabOk Tryz.prog GG FU3 := tab_add mixed FU3_22_ok fun args v ho => by
  unfold oSame at ho; split at ho <;> (try simp only [reduceCtorEq] at ho)
  rename_i m c t m2 c2 t2
  split at ho <;> (try simp only [reduceCtorEq] at ho)
  rename_i cs ts cs2 ts2 hc ht hc2 ht2
  split at ho <;> (try simp only [reduceCtorEq] at ho)
  rename_i hg
  simp only [Option.some.injEq] at ho
  subst ho
  obtain ⟨rfl, rfl, rfl, h1, h2, h3⟩ := hg
  exact a21 FU3_22 rfl rfl ⟨m, cs, ts⟩ c t c2 t2 hc ht hc2 ht2 h1 h2 h3
def largeB (s : FShop) (js : List FJob) (most : Int) : Bool :=
  (s.chg.take 11).any (fun l => decide (10 < l.length)) || (js.take 21).any (fun j => decide (10 < j.mins.length)) || decide (10 < s.chg.length) || decide (20 < s.stops.length) || decide (20 < js.length) || (decide (most < js.length) && decide (js.length ≤ 6))
theorem any_of {α : Type} {f : α → Bool} {l : List α} {k n : Nat} (hk : k < l.length) (hn : k < n) (h : f l[k] = true) : (l.take n).any f = true :=
  List.any_eq_true.2 ⟨l[k], by rw [List.mem_iff_getElem]; exact ⟨k, by rw [List.length_take]; omega, by rw [List.getElem_take]⟩, h⟩
theorem any_nil {α : Type} {f : α → Bool} {l : List α} {k n : Nat} (h : ∀ p (hp : p < l.length), p < k → f l[p] = false) (hk : l.length ≤ k ∨ n ≤ k) : (l.take n).any f = false := by
  rw [List.any_eq_false]
  intro x hx
  obtain ⟨p, hp, rfl⟩ := List.mem_iff_getElem.1 hx
  rw [List.length_take] at hp
  rw [List.getElem_take, h p (by omega) (by omega)]
  simp
theorem a14 (P : Program) (T : Nat → Option CFn) (hT : T 14 = some c14) (s : FShop) (js : List FJob) (c t j : AVal) (hc : dInts2 c = some s.chg) (ht : dStops t = some s.stops) (hj : dJobs j = some js) (most : Int) : Answers P T 14 [.agg [I s.mach, c, t], j, I most] [] fun v h => frz true h 5 v = some (.bool (largeB s js most)) := by
 have fc := fun H d => dInts2_frz hc H d
 have ft := fun H d => dStops_frz ht H d
 have fj := fun H d => dJobs_frz hj H d
 have rc := fun n d => dInts2_rb hc n d
 have rt := fun n d => dStops_rb ht n d
 have rj := fun n d => dJobs_rb hj n d
 have lc := dInts2_len hc
 have lt := dStops_len ht
 have lj := dJobs_len hj
 obtain ⟨cc1, cc2⟩ := dInts2_cells hc
 obtain ⟨ct1, ct2⟩ := dStops_cells ht
 obtain ⟨cj1, cj2⟩ := dJobs_cells hj
 refine answers_of hT (orcF_none rfl) ?_
 simp only [oo, om, op, og, ci, cl, c14]
 have HH1 := zA fc (zA ft (zA fj (zA rc (zA rt (zA rj (zA lc (zA lt (zA lj (zA cc1 (zA cc2 (zA ct1 (zA ct2 (zA cj1 cj2)))))))))))))
 refine zS ?_
 refine zR (zO (by simp [-lenA, HH1]; rfl) ?_)
 simp only [zT, zB]
 refine zS ?_
 refine zS ?_
 refine zR (zO (by simp [-lenA, HH1]; rfl) ?_)
 simp only [zT, zB]
 refine zL ?_
 refine runs_loop_inv (fun m σ => ∃ (k : Nat) (i : Int), i = k ∧ 11 - k = m ∧ k ≤ 11 ∧ k ≤ s.chg.length ∧ (∀ p (hp : p < s.chg.length), p < k → decide (10 < s.chg[p].length) = false) ∧ σ = ⟨[.any, j, I most, .ref 0 0 0, .any, .any, .any, I i, .any, .any, .any, .any, .any, .any, .any, .any, .any, .any, .any, .any, .any, .any, .any, .any, .any, .any, .any, .any, .any, .any, .any, .any, .any, .any, .any, .any, .any, .any, .any, .any, .any, .any, .any, .any, .any, .any, .any, .any, .any, .any, .any, .any, .any, .any, .any, .any, .any, .any, .any, .any, .any, .any, .any, .any, .any, .any, .any, .any, .any, .any], [some (.row 3 [[I s.mach, c, t]])]⟩) ?_ (11 - 0) _ ⟨0, 0, rfl, rfl, Nat.zero_le _, Nat.zero_le _, fun p hp h => absurd h (Nat.not_lt_zero _), by simp⟩
 rintro m σ ⟨k, i, hik, rfl, hkm, hkl, hN, rfl⟩
 refine zS ?_
 refine zS ?_
 rcases hA : decide (i < (s.chg.length : Int)) with _ | _
 ·have hA2 := of_decide_eq_false hA
  refine zR (zO (by simp [-lenA, HH1, hA]; rfl) ?_)
  simp only [zT, zB]
  refine runs_cond (x := false) (by simp) ?_
  obtain ⟨hN, hNE⟩ : (∀ p (hp : p < s.chg.length), p < k → decide (10 < s.chg[p].length) = false) ∧ (s.chg.length ≤ k ∨ 11 ≤ k) := ⟨hN, by omega⟩
  generalize k = kc at hN hNE
  refine runs_exit ?_
  simp only [zT, zB, if_true, if_false, reduceIte, Nat.reduceEqDiff, Nat.succ_ne_zero, Nat.one_ne_zero, Nat.zero_ne_one]
  refine zS ?_
  refine zS ?_
  refine zR (zO (by simp [-lenA, HH1, hA]; rfl) ?_)
  simp only [zT, zB]
  refine zL ?_
  refine runs_loop_inv (fun m σ => ∃ (k : Nat) (i : Int), i = k ∧ 21 - k = m ∧ k ≤ 21 ∧ k ≤ js.length ∧ (∀ p (hp : p < js.length), p < k → decide (10 < js[p].mins.length) = false) ∧ σ = ⟨[.any, j, I most, .ref 0 0 0, .any, .any, .any, .any, I i, .any, .any, .any, .any, .any, .any, .any, .any, .any, .any, .any, .any, .any, .any, .any, .any, .any, .any, .any, .any, .any, .any, .any, .any, .any, .any, .any, .any, .any, .any, .any, .any, .any, .any, .any, .any, .any, .any, .any, .any, .any, .any, .any, .any, .any, .any, .any, .any, .any, .any, .any, .any, .any, .any, .any, .any, .any, .any, .any, .any, .any], [some (.row 3 [[I s.mach, c, t]])]⟩) ?_ (21 - 0) _ ⟨0, 0, rfl, rfl, Nat.zero_le _, Nat.zero_le _, fun p hp h => absurd h (Nat.not_lt_zero _), by simp⟩
  rintro m σ ⟨k, i, hik, rfl, hkm, hkl, hM, rfl⟩
  refine zS ?_
  refine zS ?_
  rcases hA : decide (i < (js.length : Int)) with _ | _
  ·have hA2 := of_decide_eq_false hA
   refine zR (zO (by simp [-lenA, HH1, hA]; rfl) ?_)
   simp only [zT, zB]
   refine runs_cond (x := false) (by simp) ?_
   have e1 : decide (10 < s.chg.length) = decide ((10 : Int) < (s.chg.length : Int)) := by rw [decide_eq_decide]; omega
   have e2 : decide (20 < s.stops.length) = decide ((20 : Int) < (s.stops.length : Int)) := by rw [decide_eq_decide]; omega
   have e3 : decide (20 < js.length) = decide ((20 : Int) < (js.length : Int)) := by rw [decide_eq_decide]; omega
   have e5 : decide (js.length ≤ 6) = decide ((js.length : Int) ≤ 6) := by rw [decide_eq_decide]; omega
   have eL : largeB s js most = (decide ((10 : Int) < (s.chg.length : Int)) || decide ((20 : Int) < (s.stops.length : Int)) || decide ((20 : Int) < (js.length : Int)) || (decide (most < (js.length : Int)) && decide ((js.length : Int) ≤ 6))) := by
    unfold largeB; rw [any_nil hN (by omega), any_nil hM (by omega), e1, e2, e3, e5]; rfl
   rw [eL]
   generalize hg1 : decide ((10 : Int) < (s.chg.length : Int)) = g1
   generalize hg2 : decide ((20 : Int) < (s.stops.length : Int)) = g2
   generalize hg3 : decide ((20 : Int) < (js.length : Int)) = g3
   generalize hg4 : decide (most < (js.length : Int)) = g4
   generalize hg5 : decide ((js.length : Int) ≤ 6) = g5
   clear e1 e2 e3 e5 eL
   have HH2 := zA hA (zA hg1 (zA hg2 (zA hg3 (zA hg4 hg5))))
   refine runs_exit ?_
   simp only [zT, zB, if_true, if_false, reduceIte, Nat.reduceEqDiff, Nat.succ_ne_zero, Nat.one_ne_zero, Nat.zero_ne_one]
   refine zS ?_
   cases g1 <;> cases g2 <;> cases g3 <;> cases g4 <;> (refine zR (zO (by simp [-lenA, HH1, HH2]; rfl) ?_); simp only [zT, zB]; refine runs_ret ?_; simp [-lenA, HH1, HH2])
  ·refine zR (zO (by simp [-lenA, HH1, hA]; rfl) ?_)
   simp only [zT, zB]
   refine runs_cond_split (x := decide (i < (21 : Int))) (by simp) (fun hlt => ?_) (fun hlt => ?_)
   ·have hA := of_decide_eq_true hA
    have hlt := of_decide_eq_true hlt
    have hk0 : k < js.length := by omega
    have hi0 : 0 ≤ i := by omega
    have htn : i.toNat = k := by omega
    have hwi : W .i64 (i + 1) = i + 1 := W_small (by omega)
    obtain ⟨jr, tj, wv, rfl, hr1, hr2, hwv⟩ := dJobs_get hj hk0
    have hkr : k < jr.length := by omega
    have hr4 : ∀ h, jr[k]'h = [I js[k].kind, I js[k].ready, I js[k].due, wv] := fun h => by rw [List.getElem?_eq_getElem h] at hr2; exact Option.some.inj hr2
    have rw5 := fun n d => dInts_rb hwv n d
    have fw5 := fun H d => dInts_frz hwv H d
    have lw5 := dInts_len hwv
    obtain ⟨cw1, cw2⟩ := dInts_cells hwv
    have hdl : decide ((10 : Int) < (js[k].mins.length : Int)) = decide (10 < js[k].mins.length) := by rw [decide_eq_decide]; omega
    have HH3 := zA hA (zA hi0 (zA htn (zA hk0 (zA hwi (zA hdl (zA hkr (zA hr2 (zA hr4 (zA rw5 (zA fw5 (zA lw5 (zA cw1 cw2))))))))))))
    refine zK ?_
    simp only [zT, zB]
    refine zS ?_
    refine zL ?_
    refine zS ?_
    refine zR (zO (by simp [-lenA, HH1, HH3]; rfl) ?_)
    simp only [zT, zB]
    refine runs_cond_split (x := decide (10 < js[k].mins.length)) (by simp) (fun hb => ?_) (fun hb => ?_)
    ·have hL : largeB s js most = true := by unfold largeB; rw [any_of (l := js) (n := 21) hk0 (by omega) hb]; simp
     rw [hL]
     refine zS ?_
     refine zR (zO (by simp [-lenA, HH1, HH3]; rfl) ?_)
     simp only [zT, zB]
     refine runs_ret ?_
     simp [-lenA, HH1, HH3, trim]
    ·refine zK ?_
     simp only [zT, zB]
     refine zR (zO (by simp [-lenA, HH1, HH3]; rfl) ?_)
     simp only [zT, zB]
     exact ⟨21 - (k + 1), by omega, k + 1, i + 1, by omega, rfl, by omega, by omega, (fun p hp hp2 => by
      by_cases e : p = k
      ·subst e; exact hb
      ·exact hM p hp (by omega)), by simp [trim, -lenA, HH1, HH3]⟩
   ·have hlt := of_decide_eq_false hlt
    have hA := of_decide_eq_true hA
    have e1 : decide (10 < s.chg.length) = decide ((10 : Int) < (s.chg.length : Int)) := by rw [decide_eq_decide]; omega
    have e2 : decide (20 < s.stops.length) = decide ((20 : Int) < (s.stops.length : Int)) := by rw [decide_eq_decide]; omega
    have e3 : decide (20 < js.length) = decide ((20 : Int) < (js.length : Int)) := by rw [decide_eq_decide]; omega
    have e5 : decide (js.length ≤ 6) = decide ((js.length : Int) ≤ 6) := by rw [decide_eq_decide]; omega
    have eL : largeB s js most = (decide ((10 : Int) < (s.chg.length : Int)) || decide ((20 : Int) < (s.stops.length : Int)) || decide ((20 : Int) < (js.length : Int)) || (decide (most < (js.length : Int)) && decide ((js.length : Int) ≤ 6))) := by
     unfold largeB; rw [any_nil hN (by omega), any_nil hM (by omega), e1, e2, e3, e5]; rfl
    rw [eL]
    generalize hg1 : decide ((10 : Int) < (s.chg.length : Int)) = g1
    generalize hg2 : decide ((20 : Int) < (s.stops.length : Int)) = g2
    generalize hg3 : decide ((20 : Int) < (js.length : Int)) = g3
    generalize hg4 : decide (most < (js.length : Int)) = g4
    generalize hg5 : decide ((js.length : Int) ≤ 6) = g5
    clear e1 e2 e3 e5 eL
    have HH4 := zA hA (zA hg1 (zA hg2 (zA hg3 (zA hg4 hg5))))
    refine runs_exit ?_
    simp only [zT, zB, if_true, if_false, reduceIte, Nat.reduceEqDiff, Nat.succ_ne_zero, Nat.one_ne_zero, Nat.zero_ne_one]
    refine zS ?_
    cases g1 <;> cases g2 <;> cases g3 <;> cases g4 <;> (refine zR (zO (by simp [-lenA, HH1, HH4]; rfl) ?_); simp only [zT, zB]; refine runs_ret ?_; simp [-lenA, HH1, HH4])
 ·refine zR (zO (by simp [-lenA, HH1, hA]; rfl) ?_)
  simp only [zT, zB]
  refine runs_cond_split (x := decide (i < (11 : Int))) (by simp) (fun hlt => ?_) (fun hlt => ?_)
  ·have hA := of_decide_eq_true hA
   have hlt := of_decide_eq_true hlt
   have hk0 : k < s.chg.length := by omega
   have hi0 : 0 ≤ i := by omega
   have htn : i.toNat = k := by omega
   have hwi : W .i64 (i + 1) = i + 1 := W_small (by omega)
   obtain ⟨cr, tc, wc, rfl, hq1c, hq2c, hwc⟩ := dInts2_get hc hk0
   have hkc : k < cr.length := by omega
   have hq4c : ∀ h, cr[k]'h = [wc] := fun h => by rw [List.getElem?_eq_getElem h] at hq2c; exact Option.some.inj hq2c
   have rwc := fun n d => dInts_rb hwc n d
   have fwc := fun H d => dInts_frz hwc H d
   have lwc := dInts_len hwc
   obtain ⟨cwc, cwd⟩ := dInts_cells hwc
   have hdl : decide ((10 : Int) < (s.chg[k].length : Int)) = decide (10 < s.chg[k].length) := by rw [decide_eq_decide]; omega
   have HH5 := zA hA (zA hi0 (zA htn (zA hk0 (zA hwi (zA hdl (zA hkc (zA hq2c (zA hq4c (zA rwc (zA fwc (zA lwc (zA cwc cwd))))))))))))
   refine zK ?_
   simp only [zT, zB]
   refine zS ?_
   refine zL ?_
   refine zS ?_
   refine zR (zO (by simp [-lenA, HH1, HH5]; rfl) ?_)
   simp only [zT, zB]
   refine runs_cond_split (x := decide (10 < s.chg[k].length)) (by simp) (fun hb => ?_) (fun hb => ?_)
   ·have hL : largeB s js most = true := by unfold largeB; rw [any_of (l := s.chg) (n := 11) hk0 (by omega) hb]; simp
    rw [hL]
    refine zS ?_
    refine zR (zO (by simp [-lenA, HH1, HH5]; rfl) ?_)
    simp only [zT, zB]
    refine runs_ret ?_
    simp [-lenA, HH1, HH5, trim]
   ·refine zK ?_
    simp only [zT, zB]
    refine zR (zO (by simp [-lenA, HH1, HH5]; rfl) ?_)
    simp only [zT, zB]
    exact ⟨11 - (k + 1), by omega, k + 1, i + 1, by omega, rfl, by omega, by omega, (fun p hp hp2 => by
     by_cases e : p = k
     ·subst e; exact hb
     ·exact hN p hp (by omega)), by simp [trim, -lenA, HH1, HH5]⟩
  ·have hlt := of_decide_eq_false hlt
   have hA := of_decide_eq_true hA
   obtain ⟨hN, hNE⟩ : (∀ p (hp : p < s.chg.length), p < k → decide (10 < s.chg[p].length) = false) ∧ (s.chg.length ≤ k ∨ 11 ≤ k) := ⟨hN, by omega⟩
   generalize k = kc at hN hNE
   refine runs_exit ?_
   simp only [zT, zB, if_true, if_false, reduceIte, Nat.reduceEqDiff, Nat.succ_ne_zero, Nat.one_ne_zero, Nat.zero_ne_one]
   refine zS ?_
   refine zS ?_
   refine zR (zO (by simp [-lenA, HH1, hA]; rfl) ?_)
   simp only [zT, zB]
   refine zL ?_
   refine runs_loop_inv (fun m σ => ∃ (k : Nat) (i : Int), i = k ∧ 21 - k = m ∧ k ≤ 21 ∧ k ≤ js.length ∧ (∀ p (hp : p < js.length), p < k → decide (10 < js[p].mins.length) = false) ∧ σ = ⟨[.any, j, I most, .ref 0 0 0, .any, .any, .any, .any, I i, .any, .any, .any, .any, .any, .any, .any, .any, .any, .any, .any, .any, .any, .any, .any, .any, .any, .any, .any, .any, .any, .any, .any, .any, .any, .any, .any, .any, .any, .any, .any, .any, .any, .any, .any, .any, .any, .any, .any, .any, .any, .any, .any, .any, .any, .any, .any, .any, .any, .any, .any, .any, .any, .any, .any, .any, .any, .any, .any, .any, .any], [some (.row 3 [[I s.mach, c, t]])]⟩) ?_ (21 - 0) _ ⟨0, 0, rfl, rfl, Nat.zero_le _, Nat.zero_le _, fun p hp h => absurd h (Nat.not_lt_zero _), by simp⟩
   rintro m σ ⟨k, i, hik, rfl, hkm, hkl, hM, rfl⟩
   refine zS ?_
   refine zS ?_
   rcases hA : decide (i < (js.length : Int)) with _ | _
   ·have hA2 := of_decide_eq_false hA
    refine zR (zO (by simp [-lenA, HH1, hA]; rfl) ?_)
    simp only [zT, zB]
    refine runs_cond (x := false) (by simp) ?_
    have e1 : decide (10 < s.chg.length) = decide ((10 : Int) < (s.chg.length : Int)) := by rw [decide_eq_decide]; omega
    have e2 : decide (20 < s.stops.length) = decide ((20 : Int) < (s.stops.length : Int)) := by rw [decide_eq_decide]; omega
    have e3 : decide (20 < js.length) = decide ((20 : Int) < (js.length : Int)) := by rw [decide_eq_decide]; omega
    have e5 : decide (js.length ≤ 6) = decide ((js.length : Int) ≤ 6) := by rw [decide_eq_decide]; omega
    have eL : largeB s js most = (decide ((10 : Int) < (s.chg.length : Int)) || decide ((20 : Int) < (s.stops.length : Int)) || decide ((20 : Int) < (js.length : Int)) || (decide (most < (js.length : Int)) && decide ((js.length : Int) ≤ 6))) := by
     unfold largeB; rw [any_nil hN (by omega), any_nil hM (by omega), e1, e2, e3, e5]; rfl
    rw [eL]
    generalize hg1 : decide ((10 : Int) < (s.chg.length : Int)) = g1
    generalize hg2 : decide ((20 : Int) < (s.stops.length : Int)) = g2
    generalize hg3 : decide ((20 : Int) < (js.length : Int)) = g3
    generalize hg4 : decide (most < (js.length : Int)) = g4
    generalize hg5 : decide ((js.length : Int) ≤ 6) = g5
    clear e1 e2 e3 e5 eL
    have HH6 := zA hA (zA hg1 (zA hg2 (zA hg3 (zA hg4 hg5))))
    refine runs_exit ?_
    simp only [zT, zB, if_true, if_false, reduceIte, Nat.reduceEqDiff, Nat.succ_ne_zero, Nat.one_ne_zero, Nat.zero_ne_one]
    refine zS ?_
    cases g1 <;> cases g2 <;> cases g3 <;> cases g4 <;> (refine zR (zO (by simp [-lenA, HH1, HH6]; rfl) ?_); simp only [zT, zB]; refine runs_ret ?_; simp [-lenA, HH1, HH6])
   ·refine zR (zO (by simp [-lenA, HH1, hA]; rfl) ?_)
    simp only [zT, zB]
    refine runs_cond_split (x := decide (i < (21 : Int))) (by simp) (fun hlt => ?_) (fun hlt => ?_)
    ·have hA := of_decide_eq_true hA
     have hlt := of_decide_eq_true hlt
     have hk0 : k < js.length := by omega
     have hi0 : 0 ≤ i := by omega
     have htn : i.toNat = k := by omega
     have hwi : W .i64 (i + 1) = i + 1 := W_small (by omega)
     obtain ⟨jr, tj, wv, rfl, hr1, hr2, hwv⟩ := dJobs_get hj hk0
     have hkr : k < jr.length := by omega
     have hr4 : ∀ h, jr[k]'h = [I js[k].kind, I js[k].ready, I js[k].due, wv] := fun h => by rw [List.getElem?_eq_getElem h] at hr2; exact Option.some.inj hr2
     have rw5 := fun n d => dInts_rb hwv n d
     have fw5 := fun H d => dInts_frz hwv H d
     have lw5 := dInts_len hwv
     obtain ⟨cw1, cw2⟩ := dInts_cells hwv
     have hdl : decide ((10 : Int) < (js[k].mins.length : Int)) = decide (10 < js[k].mins.length) := by rw [decide_eq_decide]; omega
     have HH7 := zA hA (zA hi0 (zA htn (zA hk0 (zA hwi (zA hdl (zA hkr (zA hr2 (zA hr4 (zA rw5 (zA fw5 (zA lw5 (zA cw1 cw2))))))))))))
     refine zK ?_
     simp only [zT, zB]
     refine zS ?_
     refine zL ?_
     refine zS ?_
     refine zR (zO (by simp [-lenA, HH1, HH7]; rfl) ?_)
     simp only [zT, zB]
     refine runs_cond_split (x := decide (10 < js[k].mins.length)) (by simp) (fun hb => ?_) (fun hb => ?_)
     ·have hL : largeB s js most = true := by unfold largeB; rw [any_of (l := js) (n := 21) hk0 (by omega) hb]; simp
      rw [hL]
      refine zS ?_
      refine zR (zO (by simp [-lenA, HH1, HH7]; rfl) ?_)
      simp only [zT, zB]
      refine runs_ret ?_
      simp [-lenA, HH1, HH7, trim]
     ·refine zK ?_
      simp only [zT, zB]
      refine zR (zO (by simp [-lenA, HH1, HH7]; rfl) ?_)
      simp only [zT, zB]
      exact ⟨21 - (k + 1), by omega, k + 1, i + 1, by omega, rfl, by omega, by omega, (fun p hp hp2 => by
       by_cases e : p = k
       ·subst e; exact hb
       ·exact hM p hp (by omega)), by simp [trim, -lenA, HH1, HH7]⟩
    ·have hlt := of_decide_eq_false hlt
     have hA := of_decide_eq_true hA
     have e1 : decide (10 < s.chg.length) = decide ((10 : Int) < (s.chg.length : Int)) := by rw [decide_eq_decide]; omega
     have e2 : decide (20 < s.stops.length) = decide ((20 : Int) < (s.stops.length : Int)) := by rw [decide_eq_decide]; omega
     have e3 : decide (20 < js.length) = decide ((20 : Int) < (js.length : Int)) := by rw [decide_eq_decide]; omega
     have e5 : decide (js.length ≤ 6) = decide ((js.length : Int) ≤ 6) := by rw [decide_eq_decide]; omega
     have eL : largeB s js most = (decide ((10 : Int) < (s.chg.length : Int)) || decide ((20 : Int) < (s.stops.length : Int)) || decide ((20 : Int) < (js.length : Int)) || (decide (most < (js.length : Int)) && decide ((js.length : Int) ≤ 6))) := by
      unfold largeB; rw [any_nil hN (by omega), any_nil hM (by omega), e1, e2, e3, e5]; rfl
     rw [eL]
     generalize hg1 : decide ((10 : Int) < (s.chg.length : Int)) = g1
     generalize hg2 : decide ((20 : Int) < (s.stops.length : Int)) = g2
     generalize hg3 : decide ((20 : Int) < (js.length : Int)) = g3
     generalize hg4 : decide (most < (js.length : Int)) = g4
     generalize hg5 : decide ((js.length : Int) ≤ 6) = g5
     clear e1 e2 e3 e5 eL
     have HH8 := zA hA (zA hg1 (zA hg2 (zA hg3 (zA hg4 hg5))))
     refine runs_exit ?_
     simp only [zT, zB, if_true, if_false, reduceIte, Nat.reduceEqDiff, Nat.succ_ne_zero, Nat.one_ne_zero, Nat.zero_ne_one]
     refine zS ?_
     cases g1 <;> cases g2 <;> cases g3 <;> cases g4 <;> (refine zR (zO (by simp [-lenA, HH1, HH8]; rfl) ?_); simp only [zT, zB]; refine runs_ret ?_; simp [-lenA, HH1, HH8])
def oLarge : List AVal → Option AVal
  | [.agg [.int .i64 m, c, t], j, .int .i64 most] => match dInts2 c, dStops t, dJobs j with
    | some cs, some ts, some js => some (.bool (largeB ⟨m, cs, ts⟩ js most))
    | _, _, _ => none
  | _ => none
theorem large_eq {s : FShop} {js : List FJob} {c t j : AVal} (hc : dInts2 c = some s.chg) (ht : dStops t = some s.stops) (hj : dJobs j = some js) (most : Int) : oLarge [.agg [I s.mach, c, t], j, I most] = some (.bool (largeB s js most)) := by
  simp only [oLarge, hc, ht, hj]
noncomputable def FU : Nat → Option CFn := upd FU3 14 true (oLarge)
theorem FU_ok : TabOk Tryz.prog GG FU := tab_add mixed FU3_ok fun args v ho => by
  unfold oLarge at ho; split at ho <;> (try simp only [reduceCtorEq] at ho)
  rename_i m c t j most
  split at ho <;> (try simp only [reduceCtorEq] at ho)
  rename_i cs ts js hc ht hj
  simp only [Option.some.injEq] at ho
  subst ho
  exact a14 Tryz.prog FU3 rfl ⟨m, cs, ts⟩ js c t j hc ht hj most
end
section
attribute [local simp] callA calleeA lop loud rbB_none rbB_row
theorem a36 (P : Program) (T : Nat → Option CFn) (hT : T 36 = some c36) (h39 : T 39 = some { c39 with frsh := true, orc := oIn }) (m x1 x2 x3 : Int) (c t : AVal) (hm : 1 ≤ m ∧ m ≤ 4) (cs : List (List Int)) (ts : List FStop) (hc : dInts2 c = some cs) (ht : dStops t = some ts) : Answers P T 36 [.agg [I m, c, t], .agg [I x1, I x2, I x3]] [] fun v h => frz true h 5 v = some (.bool (stopOk m (x1, x2, x3))) := by
 have w1 : W .i64 (m - 1) = m - 1 := W_small (by omega)
 have rc := fun n d => dInts2_rb hc n d
 have rt := fun n d => dStops_rb ht n d
 obtain ⟨cc1, cc2⟩ := dInts2_cells hc
 obtain ⟨ct1, ct2⟩ := dStops_cells ht
 have hst : stopOk m (x1, x2, x3) = (inI 0 x1 (m - 1) && inI 0 x2 100000 && inI 0 x3 100000 && decide (x2 < x3)) := by
  simp [stopOk, wB, inI, Bool.and_assoc]
 generalize hb1 : inI 0 x1 (m - 1) = b1 at *
 generalize hb2 : inI 0 x2 100000 = b2 at *
 generalize hb3 : inI 0 x3 100000 = b3 at *
 generalize hb4 : decide (x2 < x3) = b4 at *
 refine answers_of hT (orcF_none rfl) ?_
 simp only [oo, om, op, og, ci, cl, c36]
 have HH1 := zA h39 (zA w1 (zA rc (zA rt (zA cc1 (zA cc2 (zA ct1 (zA ct2 (zA hb1 (zA hb2 (zA hb3 hb4))))))))))
 refine zS ?_
 refine zR (zO (by simp [zC h39, oIn, HH1]; rfl) ?_)
 simp only [zT, zB]
 refine zS ?_
 rw [hst]
 cases b1 <;> cases b2 <;> cases b3 <;> (refine zR (zO (by simp [zC h39, oIn, HH1]; rfl) ?_); simp only [zT, zB]; refine runs_ret ?_; simp [zC h39, oIn, HH1])
def oStopR : List AVal → Option AVal
  | [.agg [.int .i64 m, c, t], .agg [.int .i64 x1, .int .i64 x2, .int .i64 x3]] => match dInts2 c, dStops t with
    | some _, some _ => if 1 ≤ m ∧ m ≤ 4 then some (.bool (stopOk m (x1, x2, x3))) else none
    | _, _ => none
  | _ => none
theorem stopR_eq {m x1 x2 x3 : Int} {c t : AVal} {cs : List (List Int)} {ts : List FStop} (hc : dInts2 c = some cs) (ht : dStops t = some ts) (hm : 1 ≤ m ∧ m ≤ 4) : oStopR [.agg [I m, c, t], .agg [I x1, I x2, I x3]] = some (.bool (stopOk m (x1, x2, x3))) := by
  simp only [oStopR, hc, ht]; rw [if_pos hm]
noncomputable def FV1 : Nat → Option CFn := upd FU 36 true (oStopR)
theorem FV1_ok : TabOk Tryz.prog GG FV1 := tab_add mixed FU_ok fun args v ho => by
  unfold oStopR at ho; split at ho <;> (try simp only [reduceCtorEq] at ho)
  rename_i m c t x1 x2 x3
  split at ho <;> (try simp only [reduceCtorEq] at ho)
  rename_i cs ts hc ht
  split at ho <;> (try simp only [reduceCtorEq] at ho)
  rename_i hm
  simp only [Option.some.injEq] at ho
  subst ho
  exact a36 Tryz.prog FU rfl rfl m x1 x2 x3 c t hm cs ts hc ht
theorem sE_m {s : FShop} {js : List FJob} (h : inI 1 s.mach 4 = false) : shopE s js = 2 := by unfold shopE; rw [h]; rfl
theorem sE_k {s : FShop} {js : List FJob} (h : inI 1 s.chg.length 4 = false) : shopE s js = 2 := by unfold shopE; rw [h]; cases inI 1 s.mach 4 <;> rfl
theorem all_bad {α : Type} {f : α → Bool} {l : List α} {k : Nat} (hk : k < l.length) (h : f l[k] = false) : l.all f = false := List.all_eq_false.2 ⟨l[k], List.getElem_mem hk, by rw [h]; simp⟩
theorem sE_c {s : FShop} {js : List FJob} (h : s.chg.all (chgOk s.chg.length) = false) : shopE s js = 2 := by unfold shopE; rw [h]; cases inI 1 s.mach 4 <;> cases inI 1 s.chg.length 4 <;> rfl
theorem sE_1 {s : FShop} {js : List FJob} (h1 : inI 1 s.mach 4 = true) (h2 : inI 1 s.chg.length 4 = true) (h3 : s.chg.all (chgOk s.chg.length) = true) : shopE s js = (if 10 < s.stops.length then 5 else if !(s.stops.all (stopOk s.mach)) then 3 else if 6 < js.length then 8 else if !(js.all (jobOk s.mach s.chg.length)) then 4 else 0) := by
  unfold shopE; rw [h1, h2, h3]; rfl
theorem all_get {α : Type} {f : α → Bool} {l : List α} (h : ∀ p (hp : p < l.length), f l[p] = true) : l.all f = true := by
  rw [List.all_eq_true]
  intro x hx
  obtain ⟨p, hp, rfl⟩ := List.mem_iff_getElem.1 hx
  exact h p hp
theorem a24 (P : Program) (T : Nat → Option CFn) (hT : T 24 = some c24) (h39 : T 39 = some { c39 with frsh := true, orc := oIn }) (h36 : T 36 = some { c36 with frsh := true, orc := oStopR }) (s : FShop) (js : List FJob) (c t j : AVal) (hc : dInts2 c = some s.chg) (ht : dStops t = some s.stops) (hj : dJobs j = some js) (hz : SizeOk s js) : Answers P T 24 [.agg [I s.mach, c, t], j] [] fun v h => frz true h 5 v = some (I (shopE s js)) := by
 have fc := fun H d => dInts2_frz hc H d
 have ft := fun H d => dStops_frz ht H d
 have fj := fun H d => dJobs_frz hj H d
 have rc := fun n d => dInts2_rb hc n d
 have rt := fun n d => dStops_rb ht n d
 have rj := fun n d => dJobs_rb hj n d
 have lc := dInts2_len hc
 have lt := dStops_len ht
 have lj := dJobs_len hj
 obtain ⟨cc1, cc2⟩ := dInts2_cells hc
 obtain ⟨ct1, ct2⟩ := dStops_cells ht
 obtain ⟨cj1, cj2⟩ := dJobs_cells hj
 refine answers_of hT (orcF_none rfl) ?_
 simp only [oo, om, op, og, ci, cl, c24]
 have HH1 := zA h39 (zA h36 (zA fc (zA ft (zA fj (zA rc (zA rt (zA rj (zA lc (zA lt (zA lj (zA cc1 (zA cc2 (zA ct1 (zA ct2 (zA cj1 cj2)))))))))))))))
 refine zS ?_
 refine zR (zO (by simp [zC h39, zC h36, -lenA, oIn, HH1]; rfl) ?_)
 simp only [zT, zB]
 refine zS ?_
 refine zR (zO (by simp [zC h39, zC h36, -lenA, oIn, HH1]; rfl) ?_)
 simp only [zT, zB]
 refine zS ?_
 refine zS ?_
 rcases hb1 : inI 1 s.mach 4 with _ | _
 ·rw [sE_m hb1]
  refine zR (zO (by simp [zC h39, zC h36, -lenA, oIn, HH1, hb1]; rfl) ?_)
  simp only [zT, zB]
  refine runs_cond (x := true) (by simp) ?_
  refine zS ?_
  refine zR (zO (by simp [zC h39, zC h36, -lenA, oIn, HH1, hb1]; rfl) ?_)
  simp only [zT, zB]
  refine runs_ret ?_
  simp [zC h39, zC h36, -lenA, oIn, HH1, hb1, trim]
 ·rcases hb2 : inI 1 (s.chg.length : Int) 4 with _ | _
  ·rw [sE_k hb2]
   refine zR (zO (by simp [zC h39, zC h36, -lenA, oIn, HH1, hb1, hb2]; rfl) ?_)
   simp only [zT, zB]
   refine runs_cond (x := true) (by simp) ?_
   refine zS ?_
   refine zR (zO (by simp [zC h39, zC h36, -lenA, oIn, HH1, hb1, hb2]; rfl) ?_)
   simp only [zT, zB]
   refine runs_ret ?_
   simp [zC h39, zC h36, -lenA, oIn, HH1, hb1, hb2, trim]
  ·have hmm : 1 ≤ s.mach ∧ s.mach ≤ 4 := by simpa [inI] using hb1
   have hkk : 1 ≤ s.chg.length ∧ s.chg.length ≤ 4 := by have := hb2; simp [inI] at this; omega
   refine zR (zO (by simp [zC h39, zC h36, -lenA, oIn, HH1, hb1, hb2]; rfl) ?_)
   simp only [zT, zB]
   refine runs_cond (x := false) (by simp) ?_
   refine zK ?_
   simp only [zT, zB]
   refine zS ?_
   refine zS ?_
   refine zR (zO (by simp [zC h39, zC h36, -lenA, oIn, HH1, hb1, hb2]; rfl) ?_)
   simp only [zT, zB]
   refine zL ?_
   refine runs_loop_inv (fun m σ => ∃ (k : Nat) (i : Int), i = k ∧ s.chg.length - k = m ∧ k ≤ s.chg.length ∧ (∀ p (hp : p < s.chg.length), p < k → chgOk s.chg.length s.chg[p] = true) ∧ σ = ⟨[.any, j, .ref 0 0 0, .any, .any, I (s.chg.length : Int), I i, .any, .any, .any, .any, .any, .any, .any, .any, .any, .any, .any, .any, .any, .any, .any, .any, .any, .any, .any, .any, .any, .any, .any, .any, .any, .any, .any, .any, .any, .any, .any, .any, .any, .any, .any, .any, .any, .any, .any, .any, .any, .any, .any, .any, .any, .any, .any, .any, .any, .any, .any, .any, .any, .any, .any, .any, .any, .any, .any, .any, .any, .any, .any, .any, .any, .any, .any, .any, .any, .any, .any, .any, .any, .any, .any, .any, .any, .any, .any, .any, .any, .any, .any, .any, .any, .any, .any, .any, .any, .any, .any, .any, .any, .any, .any, .any, .any, .any, .any, .any, .any, .any, .any, .any, .any, .any, .any, .any, .any, .any, .any, .any, .any, .any, .any, .any], [some (.row 3 [[I s.mach, c, t]])]⟩) ?_ (s.chg.length - 0) _ ⟨0, 0, rfl, rfl, Nat.zero_le _, fun p hp h => absurd h (Nat.not_lt_zero _), by simp⟩
   rintro m σ ⟨k, i, hik, rfl, hkl, hK, rfl⟩
   refine zS ?_
   refine zS ?_
   refine zR (zO (by simp [zC h39, zC h36, -lenA, oIn, HH1, hb1, hb2]; rfl) ?_)
   simp only [zT, zB]
   refine runs_cond_split (x := decide (i < (s.chg.length : Int))) (by simp) (fun hlt => ?_) (fun hlt => ?_)
   ·have hlt := of_decide_eq_true hlt
    have hk0 : k < s.chg.length := by omega
    have hi0 : 0 ≤ i := by omega
    have htn : i.toNat = k := by omega
    have hwi : W .i64 (i + 1) = i + 1 := W_small (by omega)
    obtain ⟨cr, tc, wc, rfl, hq1c, hq2c, hwc⟩ := dInts2_get hc hk0
    have hkc : k < cr.length := by omega
    have hq4c : ∀ h, cr[k]'h = [wc] := fun h => by rw [List.getElem?_eq_getElem h] at hq2c; exact Option.some.inj hq2c
    have rwc := fun n d => dInts_rb hwc n d
    have fwc := fun H d => dInts_frz hwc H d
    have lwc := dInts_len hwc
    obtain ⟨cwc, cwd⟩ := dInts_cells hwc
    have hln : ((s.chg[k].length : Int) != (s.chg.length : Int)) = !(decide (s.chg[k].length = s.chg.length)) := by
     by_cases e : s.chg[k].length = s.chg.length
     ·simp [e]
     ·have e2 : ¬ (s.chg[k].length : Int) = (s.chg.length : Int) := by omega
      simp [e, e2]
    have HH2 := zA hb1 (zA hb2 (zA hi0 (zA htn (zA hk0 (zA hwi (zA hkc (zA hq2c (zA hq4c (zA rwc (zA fwc (zA lwc (zA cwc cwd))))))))))))
    refine zK ?_
    simp only [zT, zB]
    refine zS ?_
    refine zL ?_
    refine zS ?_
    refine zS ?_
    refine zR (zO (by simp [zC h39, zC h36, -lenA, oIn, HH1, HH2]; rfl) ?_)
    simp only [zT, zB]
    refine runs_cond_split (x := !decide (s.chg[k].length = s.chg.length)) (by simp [hln]) (fun hl => ?_) (fun hl => ?_)
    ·have hx : ¬ s.chg[k].length = s.chg.length := by simpa using hl
     have hx2 : chgOk s.chg.length s.chg[k] = false := by unfold chgOk; simp [hx]
     rw [sE_c (all_bad hk0 hx2)]
     refine zS ?_
     refine zR (zO (by simp [zC h39, zC h36, -lenA, oIn, HH1, HH2]; rfl) ?_)
     simp only [zT, zB]
     refine runs_ret ?_
     simp [zC h39, zC h36, -lenA, oIn, HH1, HH2, trim]
    ·have hx : s.chg[k].length = s.chg.length := by simpa using hl
     refine zK ?_
     simp only [zT, zB]
     refine zS ?_
     refine zR (zO (by simp [zC h39, zC h36, -lenA, oIn, HH1, HH2, hx]; rfl) ?_)
     simp only [zT, zB]
     refine zL ?_
     refine runs_loop_inv (fun m2 σ => ∃ (z : Nat) (g : Int), g = z ∧ s.chg.length - z = m2 ∧ z ≤ s.chg.length ∧ (∀ p (hp : p < s.chg[k].length), p < z → (decide (0 ≤ s.chg[k][p]) && decide (s.chg[k][p] ≤ 500)) = true) ∧ σ = ⟨[.any, j, .ref 0 0 0, .any, .any, I (s.chg.length : Int), I i, I g, .any, .any, .any, .any, .any, .any, .any, .any, .any, .any, .any, .any, .any, .any, .any, .any, .any, .any, .any, .any, .any, .any, .any, .any, .any, .any, .any, .any, .any, .any, .any, .any, .any, .any, .any, .any, .any, .any, .any, .any, .any, .any, .any, .any, .any, .any, .any, .any, .any, .any, .any, .any, .any, .any, .any, .any, .any, .any, .any, .any, .any, .any, .any, .any, .any, .any, .any, .any, .any, .any, .any, .any, .any, .any, .any, .any, .any, .any, .any, .any, .any, .any, .any, .any, .any, .any, .any, .any, .any, .any, .any, .any, .any, .any, .any, .any, .any, .any, .any, .any, .any, .any, .any, .any, .any, .any, .any, .any, .any, .any, .any, .any, .any, .any, .any], [some (.row 3 [[I s.mach, .vl cr tc, t]])]⟩) ?_ (s.chg.length - 0) _ ⟨0, 0, rfl, rfl, Nat.zero_le _, fun p hp h => absurd h (Nat.not_lt_zero _), by simp⟩
     rintro m2 σ ⟨z, g, hgz, rfl, hzm, hZ, rfl⟩
     refine zS ?_
     refine zS ?_
     refine zR (zO (by simp [zC h39, zC h36, -lenA, oIn, HH1, HH2, hx]; rfl) ?_)
     simp only [zT, zB]
     refine runs_cond_split (x := decide (g < (s.chg.length : Int))) (by simp) (fun hlt2 => ?_) (fun hlt2 => ?_)
     ·have hlt2 := of_decide_eq_true hlt2
      have hz0 : z < s.chg[k].length := by omega
      have hz1 : z < s.chg.length := by omega
      have hg0 : 0 ≤ g := by omega
      have hgn : g.toNat = z := by omega
      have hgs : g < (s.chg[k].length : Int) := by omega
      have hgt : g < (s.chg.length : Int) := by omega
      have hwg : W .i64 (g + 1) = g + 1 := W_small (by omega)
      obtain ⟨tw, rfl⟩ := dInts_get hwc hz0
      generalize hV : s.chg[k][z] = V at *
      rcases hb : inI 0 V 500 with _ | _
      ·have hx2 : chgOk s.chg.length s.chg[k] = false := by
        have hw : wB 0 500 s.chg[k] = false := all_bad hz0 (by rw [hV]; simpa [inI] using hb)
        unfold chgOk; rw [hw]; simp
       rw [sE_c (all_bad hk0 hx2)]
       have HH3 := zA hx (zA hz0 (zA hz1 (zA hg0 (zA hgn (zA hgs (zA hgt (zA hwg (zA hV hb))))))))
       refine zK ?_
       simp only [zT, zB]
       refine zS ?_
       refine zL ?_
       refine zS ?_
       refine zR (zO (by simp [zC h39, zC h36, -lenA, oIn, HH1, HH2, zI, HH3]; rfl) ?_)
       simp only [zT, zB]
       refine runs_cond (x := true) (by simp) ?_
       refine zS ?_
       refine zR (zO (by simp [zC h39, zC h36, -lenA, oIn, HH1, HH2, zI, HH3]; rfl) ?_)
       simp only [zT, zB]
       refine runs_ret ?_
       simp [zC h39, zC h36, -lenA, oIn, HH1, HH2, zI, HH3, trim]
      ·have HH4 := zA hx (zA hz0 (zA hz1 (zA hg0 (zA hgn (zA hgs (zA hgt (zA hwg (zA hV hb))))))))
       refine zK ?_
       simp only [zT, zB]
       refine zS ?_
       refine zL ?_
       refine zS ?_
       refine zR (zO (by simp [zC h39, zC h36, -lenA, oIn, HH1, HH2, zI, HH4]; rfl) ?_)
       simp only [zT, zB]
       refine runs_cond (x := false) (by simp) ?_
       refine zK ?_
       simp only [zT, zB]
       refine zR (zO (by simp [zC h39, zC h36, -lenA, oIn, HH1, HH2, zI, HH4]; rfl) ?_)
       simp only [zT, zB]
       exact ⟨s.chg.length - (z + 1), by omega, z + 1, g + 1, by omega, rfl, by omega, (fun p hp hp2 => by
        by_cases e : p = z
        ·subst e; rw [hV]; simpa [inI] using hb
        ·exact hZ p hp (by omega)), by simp [trim, zC h39, zC h36, -lenA, oIn, HH1, HH2, zI, HH4]⟩
     ·have hlt2 := of_decide_eq_false hlt2
      have hzE : z = s.chg.length := by omega
      have hok : chgOk s.chg.length s.chg[k] = true := by
       have hw : wB 0 500 s.chg[k] = true := all_get fun p hp => hZ p hp (by omega)
       unfold chgOk; rw [hw, hx]; simp
      refine runs_exit ?_
      simp only [zT, zB, if_true, if_false, reduceIte, Nat.reduceEqDiff, Nat.succ_ne_zero, Nat.one_ne_zero, Nat.zero_ne_one]
      refine zR (zO (by simp [zC h39, zC h36, -lenA, oIn, HH1, HH2, hx]; rfl) ?_)
      simp only [zT, zB]
      exact ⟨s.chg.length - (k + 1), by omega, k + 1, i + 1, by omega, rfl, by omega, (fun p hp hp2 => by
       by_cases e : p = k
       ·subst e; exact hok
       ·exact hK p hp (by omega)), by simp [trim, zC h39, zC h36, -lenA, oIn, HH1, HH2, hx]⟩
   ·have hlt := of_decide_eq_false hlt
    have hkE : k = s.chg.length := by omega
    have hC : s.chg.all (chgOk s.chg.length) = true := all_get fun p hp => hK p hp (by omega)
    rw [sE_1 hb1 hb2 hC]
    clear hK hkE hlt hkl hik
    have e10 : decide ((10 : Int) < (s.stops.length : Int)) = decide (10 < s.stops.length) := by rw [decide_eq_decide]; omega
    have e6 : decide ((6 : Int) < (js.length : Int)) = decide (6 < js.length) := by rw [decide_eq_decide]; omega
    refine runs_exit ?_
    simp only [zT, zB, if_true, if_false, reduceIte, Nat.reduceEqDiff, Nat.succ_ne_zero, Nat.one_ne_zero, Nat.zero_ne_one]
    refine zS ?_
    refine zS ?_
    refine zR (zO (by simp [zC h39, zC h36, -lenA, oIn, HH1, hb1, hb2, e10, e6]; rfl) ?_)
    simp only [zT, zB]
    refine runs_cond_split (x := decide (10 < s.stops.length)) (by simp) (fun h10 => ?_) (fun h10 => ?_)
    ·rw [if_pos (of_decide_eq_true h10)]
     refine zS ?_
     refine zR (zO (by simp [zC h39, zC h36, -lenA, oIn, HH1, hb1, hb2, e10, e6]; rfl) ?_)
     simp only [zT, zB]
     refine runs_ret ?_
     simp [zC h39, zC h36, -lenA, oIn, HH1, hb1, hb2, e10, e6, trim]
    ·have h10 := of_decide_eq_false h10
     rw [if_neg h10]
     refine zK ?_
     simp only [zT, zB]
     refine zS ?_
     refine zS ?_
     refine zR (zO (by simp [zC h39, zC h36, -lenA, oIn, HH1, hb1, hb2, e10, e6]; rfl) ?_)
     simp only [zT, zB]
     refine zL ?_
     refine runs_loop_inv (fun m σ => ∃ (k : Nat) (i : Int), i = k ∧ s.stops.length - k = m ∧ k ≤ s.stops.length ∧ (∀ p (hp : p < s.stops.length), p < k → stopOk s.mach s.stops[p] = true) ∧ σ = ⟨[.any, j, .ref 0 0 0, .any, .any, I (s.chg.length : Int), .any, .any, I i, .any, .any, .any, .any, .any, .any, .any, .any, .any, .any, .any, .any, .any, .any, .any, .any, .any, .any, .any, .any, .any, .any, .any, .any, .any, .any, .any, .any, .any, .any, .any, .any, .any, .any, .any, .any, .any, .any, .any, .any, .any, .any, .any, .any, .any, .any, .any, .any, .any, .any, .any, .any, .any, .any, .any, .any, .any, .any, .any, .any, .any, .any, .any, .any, .any, .any, .any, .any, .any, .any, .any, .any, .any, .any, .any, .any, .any, .any, .any, .any, .any, .any, .any, .any, .any, .any, .any, .any, .any, .any, .any, .any, .any, .any, .any, .any, .any, .any, .any, .any, .any, .any, .any, .any, .any, .any, .any, .any, .any, .any, .any, .any, .any, .any], [some (.row 3 [[I s.mach, c, t]])]⟩) ?_ (s.stops.length - 0) _ ⟨0, 0, rfl, rfl, Nat.zero_le _, fun p hp h => absurd h (Nat.not_lt_zero _), by simp⟩
     rintro m σ ⟨k, i, hik, rfl, hkl, hK, rfl⟩
     refine zS ?_
     refine zS ?_
     refine zR (zO (by simp [zC h39, zC h36, -lenA, oIn, HH1, hb1, hb2, e10, e6]; rfl) ?_)
     simp only [zT, zB]
     refine runs_cond_split (x := decide (i < (s.stops.length : Int))) (by simp) (fun hlt => ?_) (fun hlt => ?_)
     ·have hlt := of_decide_eq_true hlt
      have hk0 : k < s.stops.length := by omega
      have hi0 : 0 ≤ i := by omega
      have htn : i.toNat = k := by omega
      have hwi : W .i64 (i + 1) = i + 1 := W_small (by omega)
      obtain ⟨ta, rfl⟩ := dStops_get ht hk0
      have hq := stopR_eq (x1 := s.stops[k].1) (x2 := s.stops[k].2.1) (x3 := s.stops[k].2.2) hc ht hmm
      rcases hb : stopOk s.mach s.stops[k] with _ | _
      ·rw [all_bad hk0 hb]
       have HH5 := zA hb1 (zA hb2 (zA e10 (zA e6 (zA hi0 (zA htn (zA hk0 (zA hwi (zA hq hb))))))))
       refine zK ?_
       simp only [zT, zB]
       refine zS ?_
       refine zL ?_
       refine zS ?_
       refine runs_drw (by simp (maxSteps := 3000000) [zC h39, zC h36, -lenA, oIn, HH1, rS3, HH5]; rfl) ?_
       simp only [zT, zB]
       refine runs_cond (x := true) (by simp) ?_
       refine zS ?_
       refine zR (zO (by simp [zC h39, zC h36, -lenA, oIn, HH1, rS3, HH5]; rfl) ?_)
       simp only [zT, zB]
       refine runs_ret ?_
       simp [zC h39, zC h36, -lenA, oIn, HH1, rS3, HH5, trim]
      ·have HH6 := zA hb1 (zA hb2 (zA e10 (zA e6 (zA hi0 (zA htn (zA hk0 (zA hwi (zA hq hb))))))))
       refine zK ?_
       simp only [zT, zB]
       refine zS ?_
       refine zL ?_
       refine zS ?_
       refine runs_drw (by simp (maxSteps := 3000000) [zC h39, zC h36, -lenA, oIn, HH1, rS3, HH6]; rfl) ?_
       simp only [zT, zB]
       refine runs_cond (x := false) (by simp) ?_
       refine zK ?_
       simp only [zT, zB]
       refine zR (zO (by simp [zC h39, zC h36, -lenA, oIn, HH1, rS3, HH6]; rfl) ?_)
       simp only [zT, zB]
       exact ⟨s.stops.length - (k + 1), by omega, k + 1, i + 1, by omega, rfl, by omega, (fun p hp hp2 => by
        by_cases e : p = k
        ·subst e; exact hb
        ·exact hK p hp (by omega)), by simp [trim, zC h39, zC h36, -lenA, oIn, HH1, rS3, HH6]⟩
     ·have hlt := of_decide_eq_false hlt
      have hkE : k = s.stops.length := by omega
      have hC2 : s.stops.all (stopOk s.mach) = true := all_get fun p hp => hK p hp (by omega)
      rw [hC2]
      simp only [Bool.not_true, Bool.false_eq_true, if_false]
      clear hK hkE hlt hkl hik
      refine runs_exit ?_
      simp only [zT, zB, if_true, if_false, reduceIte, Nat.reduceEqDiff, Nat.succ_ne_zero, Nat.one_ne_zero, Nat.zero_ne_one]
      refine zS ?_
      refine zS ?_
      refine zR (zO (by simp [zC h39, zC h36, -lenA, oIn, HH1, hb1, hb2, e10, e6]; rfl) ?_)
      simp only [zT, zB]
      refine runs_cond_split (x := decide (6 < js.length)) (by simp) (fun h6 => ?_) (fun h6 => ?_)
      ·rw [if_pos (of_decide_eq_true h6)]
       refine zS ?_
       refine zR (zO (by simp [zC h39, zC h36, -lenA, oIn, HH1, hb1, hb2, e10, e6]; rfl) ?_)
       simp only [zT, zB]
       refine runs_ret ?_
       simp [zC h39, zC h36, -lenA, oIn, HH1, hb1, hb2, e10, e6, trim]
      ·have h6 := of_decide_eq_false h6
       rw [if_neg h6]
       refine zK ?_
       simp only [zT, zB]
       refine zS ?_
       refine zS ?_
       refine zR (zO (by simp [zC h39, zC h36, -lenA, oIn, HH1, hb1, hb2, e10, e6]; rfl) ?_)
       simp only [zT, zB]
       refine zL ?_
       refine runs_loop_inv (fun m σ => ∃ (k : Nat) (i : Int), i = k ∧ js.length - k = m ∧ k ≤ js.length ∧ (∀ p (hp : p < js.length), p < k → jobOk s.mach s.chg.length js[p] = true) ∧ σ = ⟨[.any, j, .ref 0 0 0, .any, .any, I (s.chg.length : Int), .any, .any, .any, I i, .any, .any, .any, .any, .any, .any, .any, .any, .any, .any, .any, .any, .any, .any, .any, .any, .any, .any, .any, .any, .any, .any, .any, .any, .any, .any, .any, .any, .any, .any, .any, .any, .any, .any, .any, .any, .any, .any, .any, .any, .any, .any, .any, .any, .any, .any, .any, .any, .any, .any, .any, .any, .any, .any, .any, .any, .any, .any, .any, .any, .any, .any, .any, .any, .any, .any, .any, .any, .any, .any, .any, .any, .any, .any, .any, .any, .any, .any, .any, .any, .any, .any, .any, .any, .any, .any, .any, .any, .any, .any, .any, .any, .any, .any, .any, .any, .any, .any, .any, .any, .any, .any, .any, .any, .any, .any, .any, .any, .any, .any, .any, .any, .any], [some (.row 3 [[I s.mach, c, t]])]⟩) ?_ (js.length - 0) _ ⟨0, 0, rfl, rfl, Nat.zero_le _, fun p hp h => absurd h (Nat.not_lt_zero _), by simp⟩
       rintro m σ ⟨k, i, hik, rfl, hkl, hK, rfl⟩
       refine zS ?_
       refine zS ?_
       refine zR (zO (by simp [zC h39, zC h36, -lenA, oIn, HH1, hb1, hb2, e10, e6]; rfl) ?_)
       simp only [zT, zB]
       refine runs_cond_split (x := decide (i < (js.length : Int))) (by simp) (fun hlt => ?_) (fun hlt => ?_)
       ·have hlt := of_decide_eq_true hlt
        have hk0 : k < js.length := by omega
        have hi0 : 0 ≤ i := by omega
        have htn : i.toNat = k := by omega
        have hwi : W .i64 (i + 1) = i + 1 := W_small (by omega)
        obtain ⟨jr, tj, wv, rfl, hr1, hr2, hwv⟩ := dJobs_get hj hk0
        have hkr : k < jr.length := by omega
        have hr4 : ∀ h, jr[k]'h = [I js[k].kind, I js[k].ready, I js[k].due, wv] := fun h => by rw [List.getElem?_eq_getElem h] at hr2; exact Option.some.inj hr2
        have rw5 := fun n d => dInts_rb hwv n d
        have fw5 := fun H d => dInts_frz hwv H d
        have lw5 := dInts_len hwv
        obtain ⟨cw1, cw2⟩ := dInts_cells hwv
        have wk1 : W .i64 ((s.chg.length : Int) - 1) = (s.chg.length : Int) - 1 := W_small (by omega)
        have hjk : jobOk s.mach s.chg.length js[k] = (inI 0 js[k].kind ((s.chg.length : Int) - 1) && inI 0 js[k].ready 100000 && inI 0 js[k].due 100000 && decide ((js[k].mins.length : Int) = s.mach) && wB 0 2000 js[k].mins) := by
         simp only [jobOk, wB, inI, List.all_cons, List.all_nil, Bool.and_true, Bool.and_assoc]
         congr 5
        generalize hJk : js[k].kind = Jk at *
        generalize hJr : js[k].ready = Jr at *
        generalize hJd : js[k].due = Jd at *
        generalize hv1 : inI 0 Jk ((s.chg.length : Int) - 1) = v1 at *
        generalize hv2 : inI 0 Jr 100000 = v2 at *
        generalize hv3 : inI 0 Jd 100000 = v3 at *
        have HH7 := zA hb1 (zA hb2 (zA e10 (zA e6 (zA hi0 (zA htn (zA hk0 (zA hwi (zA wk1 (zA hJk (zA hJr (zA hJd (zA hv1 (zA hv2 (zA hv3 (zA hkr (zA hr2 (zA hr4 (zA rw5 (zA fw5 (zA lw5 (zA cw1 cw2)))))))))))))))))))))
        refine zK ?_
        simp only [zT, zB]
        refine zS ?_
        refine zL ?_
        refine zS ?_
        refine zR (zO (by simp [zC h39, zC h36, -lenA, oIn, HH1, HH7]; rfl) ?_)
        simp only [zT, zB]
        refine zS ?_
        refine zS ?_
        rcases v1 with _ | _
        ·rw [all_bad hk0 (by rw [hjk]; simp)]
         refine zR (zO (by simp [zC h39, zC h36, -lenA, oIn, HH1, HH7]; rfl) ?_)
         simp only [zT, zB]
         refine runs_cond (x := true) (by simp) ?_
         refine zS ?_
         refine zR (zO (by simp [zC h39, zC h36, -lenA, oIn, HH1, HH7]; rfl) ?_)
         simp only [zT, zB]
         refine runs_ret ?_
         simp [zC h39, zC h36, -lenA, oIn, HH1, HH7, trim]
        ·rcases v2 with _ | _
         ·rw [all_bad hk0 (by rw [hjk]; simp)]
          refine zR (zO (by simp [zC h39, zC h36, -lenA, oIn, HH1, HH7]; rfl) ?_)
          simp only [zT, zB]
          refine runs_cond (x := true) (by simp) ?_
          refine zS ?_
          refine zR (zO (by simp [zC h39, zC h36, -lenA, oIn, HH1, HH7]; rfl) ?_)
          simp only [zT, zB]
          refine runs_ret ?_
          simp [zC h39, zC h36, -lenA, oIn, HH1, HH7, trim]
         ·rcases v3 with _ | _
          ·rw [all_bad hk0 (by rw [hjk]; simp)]
           refine zR (zO (by simp [zC h39, zC h36, -lenA, oIn, HH1, HH7]; rfl) ?_)
           simp only [zT, zB]
           refine runs_cond (x := true) (by simp) ?_
           refine zS ?_
           refine zR (zO (by simp [zC h39, zC h36, -lenA, oIn, HH1, HH7]; rfl) ?_)
           simp only [zT, zB]
           refine runs_ret ?_
           simp [zC h39, zC h36, -lenA, oIn, HH1, HH7, trim]
          ·generalize hv4 : decide ((js[k].mins.length : Int) = s.mach) = v4 at *
           rcases v4 with _ | _
           ·have hml := of_decide_eq_false hv4
            rw [all_bad hk0 (by rw [hjk]; simp)]
            refine zR (zO (by simp [zC h39, zC h36, -lenA, oIn, HH1, HH7, hv4, hml]; rfl) ?_)
            simp only [zT, zB]
            refine runs_cond (x := true) (by simp [hml]) ?_
            refine zS ?_
            refine zR (zO (by simp [zC h39, zC h36, -lenA, oIn, HH1, HH7, hv4, hml]; rfl) ?_)
            simp only [zT, zB]
            refine runs_ret ?_
            simp [zC h39, zC h36, -lenA, oIn, HH1, HH7, hv4, hml, trim]
           ·have hml := of_decide_eq_true hv4
            refine zR (zO (by simp [zC h39, zC h36, -lenA, oIn, HH1, HH7, hv4, hml]; rfl) ?_)
            simp only [zT, zB]
            refine runs_cond (x := false) (by simp) ?_
            refine zK ?_
            simp only [zT, zB]
            refine zS ?_
            refine zR (zO (by simp [zC h39, zC h36, -lenA, oIn, HH1, HH7, hv4, hml]; rfl) ?_)
            simp only [zT, zB]
            refine zL ?_
            refine runs_loop_inv (fun m2 σ => ∃ (z : Nat) (g : Int), g = z ∧ s.mach.toNat - z = m2 ∧ (z : Int) ≤ s.mach ∧ (∀ p (hp : p < js[k].mins.length), p < z → (decide (0 ≤ js[k].mins[p]) && decide (js[k].mins[p] ≤ 2000)) = true) ∧ σ = ⟨[.any, .vl jr tj, .ref 0 0 0, .any, .any, I (s.chg.length : Int), .any, .any, .any, I i, .ref 1 0 0, I g, .any, .any, .any, .any, .any, .any, .any, .any, .any, .any, .any, .any, .any, .any, .any, .any, .any, .any, .any, .any, .any, .any, .any, .any, .any, .any, .any, .any, .any, .any, .any, .any, .any, .any, .any, .any, .any, .any, .any, .any, .any, .any, .any, .any, .any, .any, .any, .any, .any, .any, .any, .any, .any, .any, .any, .any, .any, .any, .any, .any, .any, .any, .any, .any, .any, .any, .any, .any, .any, .any, .any, .any, .any, .any, .any, .any, .any, .any, .any, .any, .any, .any, .any, .any, .any, .any, .any, .any, .any, .any, .any, .any, .any, .any, .any, .any, .any, .any, .any, .any, .any, .any, .any, .any, .any, .any, .any, .any, .any, .any, .any], [some (.row 3 [[I s.mach, c, t]]), some (.row 4 [[I Jk, I Jr, I Jd, wv]])]⟩) ?_ (s.mach.toNat - 0) _ ⟨0, 0, rfl, rfl, by omega, fun p hp h => absurd h (Nat.not_lt_zero _), by simp⟩
            rintro m2 σ ⟨z, g, hgz, rfl, hzm, hZ, rfl⟩
            refine zS ?_
            refine zS ?_
            refine zR (zO (by simp [zC h39, zC h36, -lenA, oIn, HH1, HH7, hv4, hml]; rfl) ?_)
            simp only [zT, zB]
            refine runs_cond_split (x := decide (g < s.mach)) (by simp) (fun hlt2 => ?_) (fun hlt2 => ?_)
            ·have hlt2 := of_decide_eq_true hlt2
             have hz0 : z < js[k].mins.length := by omega
             have hg0 : 0 ≤ g := by omega
             have hgn : g.toNat = z := by omega
             have hgs : g < (js[k].mins.length : Int) := by omega
             have hwg : W .i64 (g + 1) = g + 1 := W_small (by omega)
             obtain ⟨tw, rfl⟩ := dInts_get hwv hz0
             generalize hV : js[k].mins[z] = V at *
             rcases hb : inI 0 V 2000 with _ | _
             ·have hw : wB 0 2000 js[k].mins = false := all_bad hz0 (by rw [hV]; simpa [inI] using hb)
              rw [all_bad hk0 (by rw [hjk, hw]; simp)]
              have HH8 := zA hv4 (zA hml (zA hz0 (zA hg0 (zA hgn (zA hgs (zA hwg (zA hV hb)))))))
              refine zK ?_
              simp only [zT, zB]
              refine zS ?_
              refine zL ?_
              refine zS ?_
              refine zR (zO (by simp [zC h39, zC h36, -lenA, oIn, HH1, HH7, zI, HH8]; rfl) ?_)
              simp only [zT, zB]
              refine runs_cond (x := true) (by simp) ?_
              refine zS ?_
              refine zR (zO (by simp [zC h39, zC h36, -lenA, oIn, HH1, HH7, zI, HH8]; rfl) ?_)
              simp only [zT, zB]
              refine runs_ret ?_
              simp [zC h39, zC h36, -lenA, oIn, HH1, HH7, zI, HH8, trim]
             ·have HH9 := zA hv4 (zA hml (zA hz0 (zA hg0 (zA hgn (zA hgs (zA hwg (zA hV hb)))))))
              refine zK ?_
              simp only [zT, zB]
              refine zS ?_
              refine zL ?_
              refine zS ?_
              refine zR (zO (by simp [zC h39, zC h36, -lenA, oIn, HH1, HH7, zI, HH9]; rfl) ?_)
              simp only [zT, zB]
              refine runs_cond (x := false) (by simp) ?_
              refine zK ?_
              simp only [zT, zB]
              refine zR (zO (by simp [zC h39, zC h36, -lenA, oIn, HH1, HH7, zI, HH9]; rfl) ?_)
              simp only [zT, zB]
              exact ⟨s.mach.toNat - (z + 1), by omega, z + 1, g + 1, by omega, rfl, by omega, (fun p hp hp2 => by
               by_cases e : p = z
               ·subst e; rw [hV]; simpa [inI] using hb
               ·exact hZ p hp (by omega)), by simp [trim, zC h39, zC h36, -lenA, oIn, HH1, HH7, zI, HH9]⟩
            ·have hlt2 := of_decide_eq_false hlt2
             have hok : jobOk s.mach s.chg.length js[k] = true := by
              have hw : wB 0 2000 js[k].mins = true := all_get fun p hp => hZ p hp (by omega)
              rw [hjk, hw]; rfl
             refine runs_exit ?_
             simp only [zT, zB, if_true, if_false, reduceIte, Nat.reduceEqDiff, Nat.succ_ne_zero, Nat.one_ne_zero, Nat.zero_ne_one]
             refine zR (zO (by simp [zC h39, zC h36, -lenA, oIn, HH1, HH7, hv4, hml]; rfl) ?_)
             simp only [zT, zB]
             exact ⟨js.length - (k + 1), by omega, k + 1, i + 1, by omega, rfl, by omega, (fun p hp hp2 => by
              by_cases e : p = k
              ·subst e; exact hok
              ·exact hK p hp (by omega)), by simp [trim, zC h39, zC h36, -lenA, oIn, HH1, HH7, hv4, hml]⟩
       ·have hlt := of_decide_eq_false hlt
        have hkE : k = js.length := by omega
        have hC3 : js.all (jobOk s.mach s.chg.length) = true := all_get fun p hp => hK p hp (by omega)
        rw [hC3]
        refine runs_exit ?_
        simp only [zT, zB, if_true, if_false, reduceIte, Nat.reduceEqDiff, Nat.succ_ne_zero, Nat.one_ne_zero, Nat.zero_ne_one]
        refine zS ?_
        refine zR (zO (by simp [zC h39, zC h36, -lenA, oIn, HH1, hb1, hb2, e10, e6]; rfl) ?_)
        simp only [zT, zB]
        refine runs_ret ?_
        simp [zC h39, zC h36, -lenA, oIn, HH1, hb1, hb2, e10, e6, trim]
noncomputable def FV : Nat → Option CFn := upd FV1 24 true (oCheck)
theorem FV_ok : TabOk Tryz.prog GG FV := tab_add mixed FV1_ok fun args v ho => by
  unfold oCheck at ho; split at ho <;> (try simp only [reduceCtorEq] at ho)
  rename_i m c t j
  split at ho <;> (try simp only [reduceCtorEq] at ho)
  rename_i cs ts js hc ht hj
  split at ho <;> (try simp only [reduceCtorEq] at ho)
  rename_i hz
  simp only [Option.some.injEq] at ho
  subst ho
  exact a24 Tryz.prog FV1 rfl rfl rfl ⟨m, cs, ts⟩ js c t j hc ht hj (size_ok.1 hz)
end
end
end Go.Proofs.YtjjapdagllclkaaGreat.Tab
namespace Go.Proofs.YtjjapdagllclkaaGreat.Tab
open Go Go.Abs Go.Proofs
set_option linter.unusedSimpArgs false
set_option linter.unusedVariables false
theorem conf_max {k n t : Int} {x : FStop} (hn : 0 < n) (hx : x.2.1 < x.2.2) : ((x.1 == k) && decide (max t x.2.1 < min (t + n) x.2.2)) = conf k n t x := by
 unfold conf
 rw [Bool.and_assoc]
 congr 1
 rw [Bool.eq_iff_iff]
 simp only [Bool.and_eq_true, decide_eq_true_eq]
 omega
def nextN (st : List FStop) (k t : Int) : Nat → Int
 | 0 => 1073741824
 | p + 1 => if (st.getD p (0, 0, 0)).1 = k ∧ t < (st.getD p (0, 0, 0)).2.2 then min (nextN st k t p) (st.getD p (0, 0, 0)).2.2 else nextN st k t p
def nextF (st : List FStop) (k t : Int) : Int := nextN st k t st.length
theorem nextN_spec (st : List FStop) (k t : Int) : ∀ p, p ≤ st.length → (∀ q (hq : q < st.length), q < p → st[q].1 = k → t < st[q].2.2 → nextN st k t p ≤ st[q].2.2) ∧ (nextN st k t p = 1073741824 ∨ ∃ x ∈ st, x.1 = k ∧ t < x.2.2 ∧ nextN st k t p = x.2.2)
 | 0, _ => ⟨fun q _ hq => by omega, .inl rfl⟩
 | p + 1, hp => by
  have ⟨ih1, ih2⟩ := nextN_spec st k t p (by omega)
  have hp0 : p < st.length := by omega
  have hg : st.getD p (0, 0, 0) = st[p] := by rw [List.getD_eq_getElem?_getD, List.getElem?_eq_getElem hp0]; rfl
  simp only [nextN, hg]
  by_cases hc : st[p].1 = k ∧ t < st[p].2.2
  ·rw [if_pos hc]
   refine ⟨fun q hq hqp h1 h2 => ?_, ?_⟩
   ·by_cases e : q = p
    ·subst e; omega
    ·have := ih1 q hq (by omega) h1 h2; omega
   ·rcases Int.le_total (nextN st k t p) st[p].2.2 with h | h
    ·rw [Int.min_eq_left h]; exact ih2
    ·rw [Int.min_eq_right h]; exact .inr ⟨st[p], List.getElem_mem hp0, hc.1, hc.2, rfl⟩
  ·rw [if_neg hc]
   refine ⟨fun q hq hqp h1 h2 => ?_, ih2⟩
   by_cases e : q = p
   ·subst e; exact absurd ⟨h1, h2⟩ hc
   ·exact ih1 q hq (by omega) h1 h2
theorem next_step {st : List FStop} {k n t : Int} (h : st.any (conf k n t) = true) (hM : ∀ x ∈ st, x.2.2 ≤ 100000) : t < nextF st k t ∧ t < 100000 ∧ nextF st k t ≤ 100000 ∧ ∀ u, FreeAt st k n (nextF st k t) u → FreeAt st k n t u := by
 obtain ⟨x, hx, hc⟩ := List.any_eq_true.1 h
 simp only [conf, Bool.and_eq_true, beq_iff_eq, decide_eq_true_eq] at hc
 obtain ⟨⟨c1, c2⟩, c3⟩ := hc
 have ⟨s1, s2⟩ := nextN_spec st k t st.length (Nat.le_refl _)
 change _ ∧ _ at *
 have hxm := hM x hx
 obtain ⟨q, hq, rfl⟩ := List.mem_iff_getElem.1 hx
 have hle : nextF st k t ≤ st[q].2.2 := s1 q hq hq c1 c2
 have hlt : t < nextF st k t := by
  rcases s2 with h2 | ⟨y, hy, y1, y2, y3⟩
  ·unfold nextF at hle; omega
  ·unfold nextF; omega
 refine ⟨hlt, by omega, by omega, fun u hu => ⟨by have := hu.low; omega, hu.free, fun v hv hf => ?_⟩⟩
 refine hu.least v ?_ hf
 by_cases hvn : nextF st k t ≤ v
 ·exact hvn
 ·have := hf _ hx
  have hcv : conf k n v st[q] = true := by
   simp only [conf, Bool.and_eq_true, beq_iff_eq, decide_eq_true_eq]
   exact ⟨⟨c1, by omega⟩, by omega⟩
  rw [hcv] at this; cases this
theorem free_of {st : List FStop} {k n t : Int} (h : st.any (conf k n t) = false) : FreeAt st k n t t :=
 freeAt_self fun x hx => by
  have := List.any_eq_false.1 h x hx
  simpa using this
end Go.Proofs.YtjjapdagllclkaaGreat.Tab
namespace Go.Proofs.YtjjapdagllclkaaGreat.Tab
open Go Go.Abs Go.Proofs
set_option maxRecDepth 100000
set_option maxHeartbeats 4000000
set_option linter.unusedSimpArgs false
set_option linter.unusedVariables false
section
attribute [local simp] frz_int frz_bool frz_vl frz_pv frz_agg frz_tup frz_fn frz_ref frz_sl frz_nils optAll orcF rb_int rb_bool rb_agg rb_tup rb_int' rb_bool' rb_vl rb_pv rb_yld rb_nilf rb_nilp rb_nils rb_any rb_und rb_ref rb_sl rb_fn slE chunk fillA evParts evParts3 putAt List.range_succ List.range_zero List.range'_succ List.range'_zero runX_nil' unary_not evalS_pure evAll_nil evAll_cons runX_cons stepX wantedA dop CV.ev putK_eq setK_eq appK_eq fA_eq fI_eq fN_eq fRow_eq fRows_eq nth_eq Out.v putT List.replicate_succ zT zB arI pointee Abs.rowAt ldRow allV toV toC ofV ofC Builtin.min_ Builtin.min2 Builtin.max_ Builtin.max2 min_if max_if resA tupA kill trim_self trim_len trim_emp trim_nil lenA
attribute [local simp] runD_nil' runD_cons' stepD actK_eq actD clash disj masks holes maskH unmaskH diffs news eqB allB eqA ldRowN wrote toCs ofCs stA rowsV_vl rowsV_nils rowsOf dI1 dI2 dI3 dI5 elt
attribute [local simp] st_any st_und st_agg st_tup st_bool st_int st_nilp st_ref st_pv st_nils st_sl st_vl st_nilm st_mp st_fn st_nilf st_yld co_any co_und co_agg co_tup co_bool co_int co_nilp co_ref co_pv co_nils co_sl co_vl co_nilm co_mp co_fn co_nilf co_yld
section
attribute [local simp] callA calleeA lop loud rbB_none rbB_row
theorem take_anyR {f : FStop → Bool} {st : List FStop} {p : Nat} (hp : p < st.length) : (st.take (p + 1)).any f = ((st.take p).any f || f st[p]) := by
  rw [List.take_succ_eq_append_getElem hp, List.any_append]; simp
theorem any_takeR {f : FStop → Bool} {st : List FStop} {p : Nat} (h : (st.take p).any f = true) : st.any f = true := by
  obtain ⟨x, hx, hf⟩ := List.any_eq_true.1 h
  exact List.any_eq_true.2 ⟨x, List.mem_of_mem_take hx, hf⟩
theorem a68 (P : Program) (T : Nat → Option CFn) (hT : T 68 = some c68) (ms : Int) (c t : AVal) (cs : List (List Int)) (st : List FStop) (hc : dInts2 c = some cs) (ht : dStops t = some st) (mc at_ nn : Int) (hs : ∀ x ∈ st, x.2.1 < x.2.2) (hl : st.length ≤ 1000) (hb : ∀ x ∈ st, 0 ≤ x.2.1 ∧ x.2.2 ≤ 100000) (hn : 0 < nn) (ha : 0 ≤ at_ ∧ at_ ≤ 1000000 ∧ nn ≤ 1000000) : Answers P T 68 [.agg [I ms, c, t], I mc, I at_, I nn] [] fun v h => frz true h 5 v = some (.bool (st.any (conf mc nn at_))) := by
 have rc := fun n d => dInts2_rb hc n d
 have rt := fun n d => dStops_rb ht n d
 have lt := dStops_len ht
 obtain ⟨cc1, cc2⟩ := dInts2_cells hc
 obtain ⟨ct1, ct2⟩ := dStops_cells ht
 refine answers_of hT (orcF_none rfl) ?_
 simp only [oo, om, op, og, ci, cl, c68]
 have HH1 := zA rc (zA rt (zA lt (zA cc1 (zA cc2 (zA ct1 ct2)))))
 refine zS ?_
 refine zR (zO (by simp [-lenA, HH1]; rfl) ?_)
 simp only [zT, zB]
 refine zS ?_
 refine zS ?_
 refine zR (zO (by simp [-lenA, HH1]; rfl) ?_)
 simp only [zT, zB]
 refine zL ?_
 refine runs_loop_inv (fun m σ => ∃ (k : Nat) (i : Int), i = k ∧ st.length - k = m ∧ k ≤ st.length ∧ (st.take k).any (conf mc nn at_) = false ∧ σ = ⟨[.any, I mc, I at_, I nn, .ref 0 0 0, .any, .any, .any, .any, I i, .any, .any, .any, .any, .any, .any, .any, .any, .any, .any, .any, .any, .any, .any, .any, .any, .any, .any, .any, .any, .any, .any, .any, .any, .any, .any, .any, .any, .any, .any], [some (.row 3 [[I ms, c, t]])]⟩) ?_ (st.length - 0) _ ⟨0, 0, rfl, rfl, Nat.zero_le _, rfl, by simp⟩
 rintro m σ ⟨k, i, hik, rfl, hkl, hno, rfl⟩
 refine zS ?_
 refine zS ?_
 refine zR (zO (by simp [-lenA, HH1]; rfl) ?_)
 simp only [zT, zB]
 refine runs_cond_split (x := decide (i < (st.length : Int))) (by simp) (fun hlt => ?_) (fun hlt => ?_)
 ·have hlt := of_decide_eq_true hlt
  have hk0 : k < st.length := by omega
  have hi0 : 0 ≤ i := by omega
  have htn : i.toNat = k := by omega
  have hwi : W .i64 (i + 1) = i + 1 := W_small (by omega)
  have hx := hs _ (List.getElem_mem hk0)
  obtain ⟨ta, rfl⟩ := dStops_get ht hk0
  have hcm := conf_max (k := mc) (n := nn) (t := at_) hn hx
  have htk := take_anyR (f := conf mc nn at_) hk0
  rw [hno, Bool.false_or] at htk
  generalize hX : st[k] = X at *
  obtain ⟨x1, x2, x3⟩ := X
  simp only at hcm hx
  rw [← hcm] at htk
  have hb1 := hb _ (List.getElem_mem hk0)
  rw [hX] at hb1
  have wan : W .i64 (at_ + nn) = at_ + nn := W_fit (by omega)
  generalize hA2 : decide (max at_ x2 < min (at_ + nn) x3) = A2 at *
  rcases hA : (x1 == mc) with _ | _
  ·have HH2 := zA hi0 (zA htn (zA hk0 (zA hwi (zA hX (zA wan hA)))))
   refine zK ?_
   simp only [zT, zB]
   refine zS ?_
   refine zL ?_
   refine zS ?_
   refine zR (zO (by simp [-lenA, HH1, rS3, HH2]; rfl) ?_)
   simp only [zT, zB]
   refine zS ?_
   refine zR (zO (by simp [-lenA, HH1, rS3, HH2]; rfl) ?_)
   simp only [zT, zB]
   refine runs_cond (x := false) (by simp) ?_
   refine zK ?_
   simp only [zT, zB]
   refine zR (zO (by simp [-lenA, HH1, rS3, HH2]; rfl) ?_)
   simp only [zT, zB]
   exact ⟨st.length - (k + 1), by omega, k + 1, i + 1, by omega, rfl, by omega, by rw [htk, hA]; rfl, by simp [trim, -lenA, HH1, rS3, HH2]⟩
  ·have HH3 := zA hi0 (zA htn (zA hk0 (zA hwi (zA hX (zA wan (zA hA hA2))))))
   refine zK ?_
   simp only [zT, zB]
   refine zS ?_
   refine zL ?_
   refine zS ?_
   refine zR (zO (by simp [-lenA, HH1, rS3, HH3]; rfl) ?_)
   simp only [zT, zB]
   refine zS ?_
   refine zR (zO (by simp [-lenA, HH1, rS3, HH3]; rfl) ?_)
   simp only [zT, zB]
   rcases A2 with _ | _
   ·refine runs_cond (x := false) (by simp) ?_
    refine zK ?_
    simp only [zT, zB]
    refine zR (zO (by simp [-lenA, HH1, rS3, HH3]; rfl) ?_)
    simp only [zT, zB]
    exact ⟨st.length - (k + 1), by omega, k + 1, i + 1, by omega, rfl, by omega, by rw [htk, hA]; rfl, by simp [trim, -lenA, HH1, rS3, HH3]⟩
   ·have hany : st.any (conf mc nn at_) = true := any_takeR (by rw [htk, hA]; rfl)
    rw [hany]
    refine runs_cond (x := true) (by simp) ?_
    refine zS ?_
    refine zR (zO (by simp [-lenA, HH1, rS3, HH3]; rfl) ?_)
    simp only [zT, zB]
    refine runs_ret ?_
    simp [-lenA, HH1, rS3, HH3, trim]
 ·have hlt := of_decide_eq_false hlt
  obtain rfl : k = st.length := by omega
  rw [List.take_length] at hno
  rw [hno]
  refine runs_exit ?_
  simp only [zT, zB, if_true, if_false, reduceIte, Nat.reduceEqDiff, Nat.succ_ne_zero, Nat.one_ne_zero, Nat.zero_ne_one]
  refine zS ?_
  refine zR (zO (by simp [-lenA, HH1]; rfl) ?_)
  simp only [zT, zB]
  refine runs_ret ?_
  simp [-lenA, HH1, trim]
theorem a69 (P : Program) (T : Nat → Option CFn) (hT : T 69 = some c69) (ms : Int) (c t : AVal) (cs : List (List Int)) (st : List FStop) (hc : dInts2 c = some cs) (ht : dStops t = some st) (mc at_ : Int) (hl : st.length ≤ 1000) (hb : ∀ x ∈ st, 0 ≤ x.2.1 ∧ x.2.2 ≤ 100000) : Answers P T 69 [.agg [I ms, c, t], I mc, I at_] [] fun v h => frz true h 5 v = some (I (nextF st mc at_)) := by
 have rc := fun n d => dInts2_rb hc n d
 have rt := fun n d => dStops_rb ht n d
 have lt := dStops_len ht
 obtain ⟨cc1, cc2⟩ := dInts2_cells hc
 obtain ⟨ct1, ct2⟩ := dStops_cells ht
 refine answers_of hT (orcF_none rfl) ?_
 simp only [oo, om, op, og, ci, cl, c69]
 have HH1 := zA rc (zA rt (zA lt (zA cc1 (zA cc2 (zA ct1 ct2)))))
 refine zS ?_
 refine zR (zO (by simp [-lenA, HH1]; rfl) ?_)
 simp only [zT, zB]
 refine zS ?_
 refine zR (zO (by simp [-lenA, HH1]; rfl) ?_)
 simp only [zT, zB]
 refine zS ?_
 refine zS ?_
 refine zR (zO (by simp [-lenA, HH1]; rfl) ?_)
 simp only [zT, zB]
 refine zL ?_
 refine runs_loop_inv (fun m σ => ∃ (k : Nat) (i : Int), i = k ∧ st.length - k = m ∧ k ≤ st.length ∧ σ = ⟨[.any, I mc, I at_, .ref 0 0 0, .any, .any, .any, I (nextN st mc at_ k), I i, .any, .any, .any, .any, .any, .any, .any, .any, .any, .any, .any, .any, .any, .any, .any, .any, .any, .any, .any, .any, .any, .any, .any, .any, .any, .any, .any, .any], [some (.row 3 [[I ms, c, t]])]⟩) ?_ (st.length - 0) _ ⟨0, 0, rfl, rfl, Nat.zero_le _, by simp [nextN]⟩
 rintro m σ ⟨k, i, hik, rfl, hkl, rfl⟩
 refine zS ?_
 refine zS ?_
 refine zR (zO (by simp [-lenA, HH1]; rfl) ?_)
 simp only [zT, zB]
 refine runs_cond_split (x := decide (i < (st.length : Int))) (by simp) (fun hlt => ?_) (fun hlt => ?_)
 ·have hlt := of_decide_eq_true hlt
  have hk0 : k < st.length := by omega
  have hi0 : 0 ≤ i := by omega
  have htn : i.toNat = k := by omega
  have hwi : W .i64 (i + 1) = i + 1 := W_small (by omega)
  have hb1 := hb _ (List.getElem_mem hk0)
  have hsN : nextN st mc at_ (k + 1) = if st[k].1 = mc ∧ at_ < st[k].2.2 then min (nextN st mc at_ k) st[k].2.2 else nextN st mc at_ k := by
   rw [nextN, List.getD_eq_getElem?_getD, List.getElem?_eq_getElem hk0]; rfl
  obtain ⟨ta, rfl⟩ := dStops_get ht hk0
  generalize hX : st[k] = X at *
  obtain ⟨x1, x2, x3⟩ := X
  simp only at hsN
  rcases hA : (x1 == mc) with _ | _
  ·have hA1 : ¬ x1 = mc := by simpa using hA
   rw [if_neg (fun h => hA1 h.1)] at hsN
   have HH2 := zA hi0 (zA htn (zA hk0 (zA hwi (zA hX hA))))
   refine zK ?_
   simp only [zT, zB]
   refine zS ?_
   refine zL ?_
   refine zS ?_
   refine zR (zO (by simp [-lenA, HH1, rS3, HH2]; rfl) ?_)
   simp only [zT, zB]
   refine zS ?_
   refine zR (zO (by simp [-lenA, HH1, rS3, HH2]; rfl) ?_)
   simp only [zT, zB]
   refine runs_cond (x := false) (by simp) ?_
   refine zK ?_
   simp only [zT, zB]
   refine zR (zO (by simp [-lenA, HH1, rS3, HH2]; rfl) ?_)
   simp only [zT, zB]
   exact ⟨st.length - (k + 1), by omega, k + 1, i + 1, by omega, rfl, by omega, by rw [hsN]; simp [trim, -lenA, HH1, rS3, HH2]⟩
  ·have hA1 : x1 = mc := by simpa using hA
   have HH3 := zA hi0 (zA htn (zA hk0 (zA hwi (zA hX hA))))
   refine zK ?_
   simp only [zT, zB]
   refine zS ?_
   refine zL ?_
   refine zS ?_
   refine zR (zO (by simp [-lenA, HH1, rS3, HH3]; rfl) ?_)
   simp only [zT, zB]
   refine zS ?_
   refine zR (zO (by simp [-lenA, HH1, rS3, HH3]; rfl) ?_)
   simp only [zT, zB]
   refine runs_cond_split (x := decide (at_ < x3)) (by simp) (fun hq => ?_) (fun hq => ?_)
   ·have hq2 := of_decide_eq_true hq
    rw [if_pos ⟨hA1, hq2⟩] at hsN
    refine zR (zO (by simp [-lenA, HH1, rS3, HH3]; rfl) ?_)
    simp only [zT, zB]
    refine zR (zO (by simp [-lenA, HH1, rS3, HH3]; rfl) ?_)
    simp only [zT, zB]
    exact ⟨st.length - (k + 1), by omega, k + 1, i + 1, by omega, rfl, by omega, by rw [hsN]; simp [trim, -lenA, HH1, rS3, HH3]⟩
   ·have hq2 := of_decide_eq_false hq
    rw [if_neg (fun h => hq2 h.2)] at hsN
    refine zK ?_
    simp only [zT, zB]
    refine zR (zO (by simp [-lenA, HH1, rS3, HH3]; rfl) ?_)
    simp only [zT, zB]
    exact ⟨st.length - (k + 1), by omega, k + 1, i + 1, by omega, rfl, by omega, by rw [hsN]; simp [trim, -lenA, HH1, rS3, HH3]⟩
 ·have hlt := of_decide_eq_false hlt
  obtain rfl : k = st.length := by omega
  refine runs_exit ?_
  simp only [zT, zB, if_true, if_false, reduceIte, Nat.reduceEqDiff, Nat.succ_ne_zero, Nat.one_ne_zero, Nat.zero_ne_one]
  refine zS ?_
  refine zR (zO (by simp [-lenA, HH1]; rfl) ?_)
  simp only [zT, zB]
  refine runs_ret ?_
  simp [-lenA, HH1, trim, nextF]
def oStands : List AVal → Option AVal
  | [.agg [.int .i64 _, c, t], .int .i64 mc, .int .i64 a, .int .i64 n] => match dInts2 c, dStops t with
    | some _, some st => if (∀ x ∈ st, x.2.1 < x.2.2) ∧ st.length ≤ 1000 ∧ (∀ x ∈ st, 0 ≤ x.2.1 ∧ x.2.2 ≤ 100000) ∧ 0 < n ∧ (0 ≤ a ∧ a ≤ 1000000 ∧ n ≤ 1000000) then some (.bool (st.any (conf mc n a))) else none
    | _, _ => none
  | _ => none
def oNext : List AVal → Option AVal
  | [.agg [.int .i64 _, c, t], .int .i64 mc, .int .i64 a] => match dInts2 c, dStops t with
    | some _, some st => if st.length ≤ 1000 ∧ (∀ x ∈ st, 0 ≤ x.2.1 ∧ x.2.2 ≤ 100000) then some (I (nextF st mc a)) else none
    | _, _ => none
  | _ => none
theorem stands_eq {s : FShop} {js : List FJob} {c t : AVal} (hc : dInts2 c = some s.chg) (ht : dStops t = some s.stops) (h : ShopOk s js) {mc n a : Int} (hn : 0 < n) (ha : 0 ≤ a ∧ a ≤ 1000000 ∧ n ≤ 1000000) : oStands [.agg [I s.mach, c, t], I mc, I a, I n] = some (.bool (s.stops.any (conf mc n a))) := by
  simp only [oStands, hc, ht]
  rw [if_pos ⟨fun x hx => (h.stop x hx).2.2.2, by have := h.nst; omega, fun x hx => by have := h.stop x hx; omega, hn, ha⟩]
theorem next_eq {s : FShop} {js : List FJob} {c t : AVal} (hc : dInts2 c = some s.chg) (ht : dStops t = some s.stops) (h : ShopOk s js) {mc a : Int} : oNext [.agg [I s.mach, c, t], I mc, I a] = some (I (nextF s.stops mc a)) := by
  simp only [oNext, hc, ht]
  rw [if_pos ⟨by have := h.nst; omega, fun x hx => by have := h.stop x hx; omega⟩]
noncomputable def FW_25 : Nat → Option CFn := FV
theorem FW_25_ok : TabOk Tryz.prog GG FW_25 := FV_ok
noncomputable def FW_68 : Nat → Option CFn := upd FW_25 68 true (oStands)
theorem FW_68_ok : TabOk Tryz.prog GG FW_68 := tab_add mixed FW_25_ok fun args v ho => by
  unfold oStands at ho; split at ho <;> (try simp only [reduceCtorEq] at ho)
  rename_i m c t mc a n
  split at ho <;> (try simp only [reduceCtorEq] at ho)
  rename_i cs st hc ht
  split at ho <;> (try simp only [reduceCtorEq] at ho)
  rename_i hg
  simp only [Option.some.injEq] at ho
  subst ho
  obtain ⟨g1, g2, g3, g4, g5⟩ := hg
  exact a68 Tryz.prog FW_25 rfl m c t cs st hc ht mc a n g1 g2 g3 g4 g5
noncomputable def FW : Nat → Option CFn := upd FW_68 69 true (oNext)
theorem FW_ok : TabOk Tryz.prog GG FW := tab_add mixed FW_68_ok fun args v ho => by
  unfold oNext at ho; split at ho <;> (try simp only [reduceCtorEq] at ho)
  rename_i m c t mc a
  split at ho <;> (try simp only [reduceCtorEq] at ho)
  rename_i cs st hc ht
  split at ho <;> (try simp only [reduceCtorEq] at ho)
  rename_i hg
  simp only [Option.some.injEq] at ho
  subst ho
  exact a69 Tryz.prog FW_68 rfl m c t cs st hc ht mc a hg.1 hg.2
end
section
attribute [local simp] Function.comp_def List.all_append List.all_map above callA calleeA frNB_none frNB_row frN_agg frN_bool frN_int frN_nils frN_ref frN_sl frN_tup frN_vl frzG gather getR idxG lim lop loud lowA lowR norm okG putG putR rbB_none rbB_row resG rowAt takeG
theorem runN_len (s : FShop) (js : List FJob) (os : List Int) (n : Nat) : (runN s js os n).starts.length = js.length ∧ (runN s js os n).ends.length = js.length := by
  have := fold_len s js (os.take n) (run0 js.length)
  unfold runN
  rw [this.1, this.2]
  simp [run0]
theorem oAt_ne {s : FShop} {js : List FJob} {os : List Int} (h : RunCtx s js os) {a b : Nat} (ha : a < os.length) (hb : b < os.length) (hab : a ≠ b) : oAtN os a ≠ oAtN os b := by
  rw [oAtN_eq ha, oAtN_eq hb]
  have h1 := h.mem _ (List.getElem_mem ha)
  have h2 := h.mem _ (List.getElem_mem hb)
  have hn := ord_nodup h.ord
  rw [List.Nodup, List.pairwise_iff_getElem] at hn
  intro e
  rcases Nat.lt_or_gt_of_ne hab with hl | hl
  · exact hn a b ha hb hl (by omega)
  · exact hn b a hb ha hl (by omega)
theorem runN_step {s : FShop} {js : List FJob} {os : List Int} {n : Nat} (hn : n < os.length) : (runN s js os (n + 1)).starts = (runN s js os n).starts.set (oAtN os n) (passF s (lineN s js os n) (jn js os n)).1 ∧ (runN s js os (n + 1)).ends = (runN s js os n).ends.set (oAtN os n) (passF s (lineN s js os n) (jn js os n)).2.1 := by
  rw [runN_succ s js hn, oAtN_eq hn]
  have : js.getD os[n].toNat default = jn js os n := by unfold jn jobAt; rw [oAtN_eq hn]
  simp only [runStep, this]
  exact ⟨rfl, rfl⟩
theorem runN_new {s : FShop} {js : List FJob} {os : List Int} (h : RunCtx s js os) {b : Nat} (hb : b < os.length) : ∀ n, n ≤ b → (runN s js os n).starts[oAtN os b]? = some []
  | 0, _ => by
    have hm := h.mem _ (List.getElem_mem hb)
    have : runN s js os 0 = run0 js.length := rfl
    rw [this, oAtN_eq hb]
    simp only [run0]
    rw [List.getElem?_replicate, if_pos (by omega)]
  | n + 1, hn => by
    rw [(runN_step (s := s) (js := js) (os := os) (n := n) (by omega)).1, List.getElem?_set_ne (oAt_ne h (by omega) hb (by omega))]
    exact runN_new h hb n (by omega)
theorem runN_old {s : FShop} {js : List FJob} {os : List Int} (h : RunCtx s js os) {b : Nat} : ∀ n, b < n → n ≤ os.length → (runN s js os n).starts[oAtN os b]? = (stsF s js os)[oAtN os b]?
  | n + 1, hb, hn => by
    rw [(runN_step (s := s) (js := js) (os := os) (n := n) (by omega)).1]
    by_cases e : b = n
    · subst e
      have hl := (runN_len s js os b).1
      have hm := h.mem _ (List.getElem_mem (show b < os.length by omega))
      rw [List.getElem?_set_self (by rw [hl, oAtN_eq (by omega)]; omega), (row_at h (by omega)).1]
    · rw [List.getElem?_set_ne (oAt_ne h (by omega) (by omega) (by omega))]
      exact runN_old h n (by omega) (by omega)
theorem runN_all (s : FShop) (js : List FJob) (os : List Int) : (runN s js os os.length).starts = stsF s js os ∧ (runN s js os os.length).ends = endF s js os := by
  unfold runN stsF endF runF
  rw [List.take_length]
  exact ⟨rfl, rfl⟩
theorem next_keep {st : List FStop} {k n t T : Int} (h : st.any (conf k n t) = true) (hM : ∀ x ∈ st, x.2.2 ≤ 100000) (hT : FreeAt st k n t T) : FreeAt st k n (nextF st k t) T := by
  have hu := freeT_spec st k n (nextF st k t)
  have := (next_step h hM).2.2.2 _ hu
  rw [hT.unique this]
  exact hu
theorem optAll_set {f : List AVal → Option (List AVal)} {l : List (List AVal)} {i : Nat} {a : List AVal} (hl : optAll f l = some l) : i < l.length → optAll f (l.set i a) = match f a with | some b => some (l.set i b) | none => none := by
  induction l generalizing i with
  | nil => intro h; simp at h
  | cons x l ih =>
    intro hi
    simp only [optAll] at hl
    split at hl <;> (try simp only [reduceCtorEq] at hl)
    rename_i y ys h1 h2
    simp only [Option.some.injEq, List.cons.injEq] at hl
    obtain ⟨rfl, rfl⟩ := hl
    cases i with
    | zero => simp only [List.set_cons_zero, optAll, h2]; cases f a <;> rfl
    | succ i =>
      simp only [List.set_cons_succ, optAll, h1, ih h2 (by simpa using hi)]
      cases f a <;> rfl
theorem frN_encS (n : Nat) (h : Heap) (xs : List (List Int)) : optAll (optAll (frN n h 5)) (xs.map encS) = some (xs.map encS) := optAll_self _ fun r hr => optAll_self _ fun x hx => by
  obtain ⟨a, _, rfl⟩ := List.mem_map.1 hr
  simp only [encS, List.mem_singleton] at hx
  subst hx
  cases a <;> rfl
theorem all_set {f : List AVal → Bool} {l : List (List AVal)} {i : Nat} {a : List AVal} (hl : l.all f = true) (ha : f a = true) : (l.set i a).all f = true := by
  rw [List.all_eq_true] at *
  intro x hx
  rcases List.mem_or_eq_of_mem_set hx with h | rfl
  · exact hl x h
  · exact ha
theorem jn_at {js : List FJob} {os : List Int} {b : Nat} (hb : b < os.length) (hj : os[b].toNat < js.length) : jn js os b = js[os[b].toNat] := by unfold jn; rw [oAtN_eq hb, jobAt_eq hj]
theorem a27 (P : Program) (T : Nat → Option CFn) (hT : T 27 = some { c27 with body := annK [(462, [.cell 7 0]), (4046, [.elem 7 0 2 8])] [] c27.body }) (h68 : T 68 = some { c68 with frsh := true, orc := oStands }) (h69 : T 69 = some { c69 with frsh := true, orc := oNext }) (s : FShop) (js : List FJob) (c t j : AVal) (hc : dInts2 c = some s.chg) (ht : dStops t = some s.stops) (hj : dJobs j = some js) (o : AVal) (os : List Int) (ho : dInts o = some os) (hctx : RunCtx s js os) : Answers P T 27 [.agg [I s.mach, c, t], j, o] [] fun v h => frz false h 5 v = some (.agg [.vl ((stsF s js os).map encS) true, .vl ((endF s js os).map rI) true]) := by
 have fc := fun H d => dInts2_frz hc H d
 have ft := fun H d => dStops_frz ht H d
 have fj := fun H d => dJobs_frz hj H d
 have rc := fun n d => dInts2_rb hc n d
 have rt := fun n d => dStops_rb ht n d
 have rj := fun n d => dJobs_rb hj n d
 have lc := dInts2_len hc
 have lt := dStops_len ht
 have lj := dJobs_len hj
 obtain ⟨cc1, cc2⟩ := dInts2_cells hc
 obtain ⟨ct1, ct2⟩ := dStops_cells ht
 obtain ⟨cj1, cj2⟩ := dJobs_cells hj
 have fo := fun H d => dInts_frz ho H d
 have ro := fun n d => dInts_rb ho n d
 have lo := dInts_len ho
 obtain ⟨co1, co2⟩ := dInts_cells ho
 have hsh := hctx.ok
 have hn6 : js.length ≤ 1048576 := by have := hsh.njob; omega
 have hn7 : (js.length : Int) ≤ 1048576 := by omega
 have hmach := hsh.mach
 have hjob6 := hsh.njob
 have hol := ord_len hctx.ord
 obtain ⟨mn, hmn⟩ : ∃ mn : Nat, s.mach = mn := ⟨s.mach.toNat, by omega⟩
 have hsta := fun (mc n a : Int) (hn : 0 < n) ha => stands_eq (mc := mc) (n := n) (a := a) hc ht hsh hn ha
 have hnxt := fun (mc a : Int) => next_eq (mc := mc) (a := a) hc ht hsh
 have hM100 : ∀ x ∈ s.stops, x.2.2 ≤ 100000 := fun x hx => (hsh.stop x hx).2.2.1.2
 have hst160 : ∀ l ∈ stsF s js os, ∀ x ∈ l, 0 ≤ x ∧ x ≤ 170000 := (runF_ok hctx.ok hctx.len6 hctx.mem).st
 have hSok := sts_ok hctx
 have hrl := runN_len s js os
 have hrep1 : List.replicate js.length [AVal.nils] = (runN s js os 0).starts.map encS := by
  have : runN s js os 0 = run0 js.length := rfl
  rw [this]; simp [run0, encS]
 have hrep2 : List.replicate js.length [I 0] = (runN s js os 0).ends.map rI := by
  have : runN s js os 0 = run0 js.length := rfl
  rw [this]; simp [run0, rI]
 have hmk1 : 0 ≤ (js.length : Int) := by omega
 have erb1 := fun n => encS_rb n 4 (runN s js os 0).starts
 have erb2 := fun n => rI_rb n 4 (runN s js os 0).ends
 have hEll : ∀ n, ((runN s js os n).ends.map rI).length = js.length := fun n => by rw [List.length_map]; exact (hrl n).2
 rw [hmn]
 rw [hmn] at hsta hnxt hmach
 refine answers_of hT (orcF_none rfl) ?_
 simp only [oo, om, op, og, ci, cl, c27, annK, lkG, lkR, reduceIte, Nat.reduceEqDiff, reduceCtorEq, List.cons.injEq, and_true, and_false, false_and, true_and]
 have HH1 := zA h68 (zA h69 (zA fc (zA ft (zA fj (zA rc (zA rt (zA rj (zA lc (zA lt (zA lj (zA cc1 (zA cc2 (zA ct1 (zA ct2 (zA cj1 (zA cj2 (zA hn6 (zA hn7 (zA fo (zA ro (zA lo (zA co1 (zA co2 (zA hrep1 hrep2))))))))))))))))))))))))
 refine zS ?_
 refine zR (zO (by simp [zC h68, zC h69, -lenA, ↓erb1, ↓erb2, HH1]; rfl) ?_)
 simp only [zT, zB]
 refine zS ?_
 refine runs_drw (by simp (maxSteps := 3000000) [zC h68, zC h69, -lenA, ↓erb1, ↓erb2, HH1]; rfl) ?_
 simp only [zT, zB]
 refine zS ?_
 refine zS ?_
 refine zR (zO (by simp [zC h68, zC h69, -lenA, ↓erb1, ↓erb2, HH1]; rfl) ?_)
 simp only [zT, zB]
 refine zL ?_
 refine runs_loopG_inv (fun mm σ => ∃ (n : Nat) (i : Int) (rs : List (List Int)) (re : List Int), i = n ∧ os.length - n = mm ∧ n ≤ os.length ∧ rs = (runN s js os n).starts ∧ re = (runN s js os n).ends ∧ σ = ⟨[.any, j, o, .ref 0 0 0, .any, .any, .ref 1 0 0, .ref 9 0 0, I i, .any, .any, .any, .any, .any, .any, .any, .any, .any, .any, .any, .any, .any, .any, .any, .any, .any, .any, .any, .any, .any, .any, .any, .any, .any, .any, .any, .any, .any, .any, .any, .any, .any, .any, .any, .any, .any, .any, .any, .any, .any, .any, .any, .any, .any, .any, .any, .any, .any, .any, .any, .any, .any, .any, .any, .any, .any, .any, .any, .any, .any, .any, .any, .any, .any, .any, .any, .any, .any, .any, .any, .any, .any, .any, .any, .any, .any, .any, .any, .any, .any, .any, .any, .any, .any, .any, .any, .any, .any, .any, .any, .any, .any, .any, .any, .any, .any, .any, .any, .any, .any, .any, .any, .any, .any, .any, .any, .any, .any, .any, .any, .any, .any, .any, .any, .any, .any, .any, .any, .any, .any, .any, .any, .any, .any, .any, .any, .any, .any, .any, .any, .any, .any, .any, .any], [some (.row 3 [[I (mn : Int), c, t]]), some (.row 2 [[.nils, .nils]]), none, none, none, none, none, some (.row 1 (re.map rI)), none, some (.row 2 [[.sl 11 0 js.length true, .sl 7 0 js.length true]]), none, some (.row 1 (rs.map encS))]⟩) (by simp [zC h68, zC h69, -lenA, ↓erb1, ↓erb2, HH1] <;> first | exact ⟨rfl, rfl⟩ | rfl) (⟨0, 0, _, _, rfl, rfl, Nat.zero_le _, rfl, rfl, rfl⟩) ?_
 rintro mm σ ⟨n, i, rs, re, hin, rfl, hnl, hrs, hre, rfl⟩
 have hrsl : rs.length = js.length := by rw [hrs]; exact (hrl n).1
 have hrel : re.length = js.length := by rw [hre]; exact (hrl n).2
 refine zS ?_
 refine zS ?_
 refine zR (zO (by simp [zC h68, zC h69, -lenA, ↓erb1, ↓erb2, HH1, hrsl, hrel]; rfl) ?_)
 simp only [zT, zB]
 refine runs_cond_split (x := decide (i < (os.length : Int))) (by simp) (fun hlt => ?_) (fun hlt => ?_)
 ·have hlt0 := of_decide_eq_true hlt
  have hn0 : n < os.length := by omega
  have hi0 : 0 ≤ i := by omega
  have htn : i.toNat = n := by omega
  have hwi : W .i64 (i + 1) = i + 1 := W_small (by omega)
  have hwj : W .i64 (i - 1) = i - 1 := W_small (by omega)
  have hmo := hctx.mem _ (List.getElem_mem hn0)
  have hXn : 0 ≤ os[n] := hmo.1
  have hXl : os[n] < (js.length : Int) := hmo.2
  have hxj : os[n].toNat < js.length := by omega
  have hoN := oAtN_eq hn0
  have hJ := jn_at hn0 hxj
  have hjb := hsh.job _ (List.getElem_mem hxj)
  obtain ⟨to, rfl⟩ := dInts_get ho hn0
  generalize hX : os[n] = X at *
  have hrow := (row_at hctx hn0)
  have hnew := runN_new hctx hn0 n (Nat.le_refl n)
  rw [← hrs, hoN] at hnew
  have hstp := runN_step (s := s) (js := js) hn0
  rw [← hrs, ← hre, hoN] at hstp
  rw [hoN] at hrow
  have hlast := fun (k : Nat) (hk : (k : Int) < s.mach) => line_last hctx hk n (by omega)
  have hsteq := fun (k : Nat) (hk : (k : Int) < s.mach) => st_eq' hctx hn0 hk
  have hold := fun (b : Nat) (hb : b < n) => runN_old hctx n hb (by omega)
  rw [← hrs] at hold
  obtain ⟨jr, tj, wv, rfl, hr1, hr2, hwv⟩ := dJobs_get hj hxj
  have hkr : X.toNat < jr.length := by omega
  have hr4 : ∀ h, jr[X.toNat]'h = [I js[X.toNat].kind, I js[X.toNat].ready, I js[X.toNat].due, wv] := fun h => by rw [List.getElem?_eq_getElem h] at hr2; exact Option.some.inj hr2
  have rw5 := fun n d => dInts_rb hwv n d
  have fw5 := fun H d => dInts_frz hwv H d
  have lw5 := dInts_len hwv
  obtain ⟨cw1, cw2⟩ := dInts_cells hwv
  have hstat := fun k => st_at hctx hn0 k
  rw [hJ] at hrow hstp hsteq hstat
  generalize hRN : (passF s (lineN s js os n) js[X.toNat]).1 = RN at *
  generalize hEE : (passF s (lineN s js os n) js[X.toNat]).2.1 = EE at *
  have hRNm : RN ∈ stsF s js os := List.mem_of_getElem? hrow.1
  have hRNl : RN.length = mn := by have := (hSok.row _ hRNm).1; omega
  have hRN0 : RN ≠ [] := by intro e; rw [e] at hRNl; simp at hRNl; omega
  have hRNb := hst160 _ hRNm
  have hml : js[X.toNat].mins.length = mn := by have := hjb.2.2.2.1; omega
  obtain ⟨tw, rfl⟩ := dInts_get hwv (k := 0) (by omega)
  have hEEq : EE = nAt RN (mn - 1) + nAt js[X.toNat].mins (mn - 1) := by
   have := passGo_end s js[X.toNat].kind js[X.toNat].mins 0 js[X.toNat].ready (lineN s js os n) (by intro e; rw [e] at hml; simp at hml; omega)
   rw [← hEE, ← hRN, ← hml]; exact this
  have hrsx : X.toNat < rs.length := by omega
  have hrex : X.toNat < re.length := by omega
  have hRS0 : rs.map encS = (rs.map encS).set X.toNat [.nils] := by
   refine List.ext_getElem? fun p => ?_
   by_cases e : X.toNat = p
   ·subst e
    rw [List.getElem?_set_self (by rw [List.length_map]; exact hrsx), List.getElem?_map, hnew]; rfl
   ·rw [List.getElem?_set_ne e]
  have gx : ∀ v, ((rs.map encS).set X.toNat [v])[X.toNat]? = some [v] := fun v => List.getElem?_set_self (by rw [List.length_map]; exact hrsx)
  have gs2 : ∀ v w, ((rs.map encS).set X.toNat v).set X.toNat w = (rs.map encS).set X.toNat w := fun v w => List.set_set ..
  have gl : ∀ v, ((rs.map encS).set X.toNat v).length = js.length := fun v => by rw [List.length_set, List.length_map, hrsl]
  have gr : ∀ n v, rb n 5 v = true → (((rs.map encS).set X.toNat [v]).all fun r => r.all (rb n 5)) = true := fun n v hv => all_set (encS_rb n 4 rs) (by simp [hv])
  have gr0 : ∀ n, (((rs.map encS).set X.toNat [.nils]).all fun r => r.all (rb n 5)) = true := fun n => gr n _ rfl
  have gr1 : ∀ n, (((rs.map encS).set X.toNat [.any]).all fun r => r.all (rb n 5)) = true := fun n => gr n _ rfl
  have gr2 : ∀ n b k m t, b < n → (((rs.map encS).set X.toNat [.sl b k m t]).all fun r => r.all (rb n 5)) = true := fun n b k m t hb => gr n _ (by simp [hb])
  have gr3 : ∀ k m t, (((rs.map encS).set X.toNat [.sl 13 k m t]).all fun r => r.all (rb 11 5)) = false := fun k m t => List.all_eq_false.2 ⟨[.sl 13 k m t], List.mem_of_getElem? (gx _), by simp⟩
  have gf : ∀ n h v, optAll (optAll (frN n h 5)) ((rs.map encS).set X.toNat [v]) = match optAll (frN n h 5) [v] with | some b => some ((rs.map encS).set X.toNat b) | none => none := fun n h v => optAll_set (frN_encS n h rs) (by rw [List.length_map]; exact hrsx)
  have ge : ∀ v, (re.map rI).set X.toNat [I v] = (re.set X.toNat v).map rI := fun v => by rw [List.map_set]; rfl
  have gv := fun v (h : X.toNat < ((rs.map encS).set X.toNat [v]).length) => Option.some.inj ((List.getElem?_eq_getElem h).symm.trans (gx v))
  have hre3 : (re.map rI)[X.toNat]? = some [I re[X.toNat]] := by rw [List.getElem?_map, List.getElem?_eq_getElem hrex]; rfl
  have hfr0 : fromA js (stsF s js os) os n 0 = js[X.toNat].ready := by unfold fromA; rw [if_pos rfl, hJ]
  have hfrm : fromA js (stsF s js os) os n mn = EE := by
   unfold fromA
   rw [if_neg (by omega), hstat, hJ, hEEq]; rfl
  have hrbx := fun n v => rI_rb n 4 (re.set X.toNat v)
  rw [hRS0]
  clear hwi
  have hwi : W .i64 (i + 1) = i + 1 := W_small (by omega)
  have HH2 := zA hrsl (zA hrel (zA hi0 (zA htn (zA hn0 (zA hwi (zA hwj (zA hX (zA hXn (zA hXl (zA hxj (zA hrsx (zA hrex (zA gx (zA gv (zA gs2 (zA gl (zA gf (zA ge (zA hre3 (zA hml (zA hkr (zA hr2 (zA hr4 (zA rw5 (zA fw5 (zA lw5 (zA cw1 cw2)))))))))))))))))))))))))))
  have HH3 := zA erb1 (zA erb2 (zA gr0 (zA gr1 (zA gr2 (zA gr3 hrbx)))))
  refine zK ?_
  simp only [zT, zB]
  refine zS ?_
  refine zL ?_
  refine zS ?_
  refine zR (zO (by simp [zC h68, zC h69, -lenA, HH1, zI, -List.map_set, -List.getElem?_map, -List.set_set, -List.length_set, HH2, ↓HH3]; rfl) ?_)
  simp only [zT, zB]
  refine zS ?_
  refine zR (zO (by simp [zC h68, zC h69, -lenA, HH1, zI, -List.map_set, -List.getElem?_map, -List.set_set, -List.length_set, HH2, ↓HH3]; rfl) ?_)
  simp only [zT, zB]
  refine zS ?_
  refine zS ?_
  refine zR (zO (by simp [zC h68, zC h69, -lenA, HH1, zI, -List.map_set, -List.getElem?_map, -List.set_set, -List.length_set, HH2, ↓HH3]; rfl) ?_)
  simp only [zT, zB]
  refine zL ?_
  refine runs_loopG_inv (fun mm1 σ => ∃ (k1 : Nat) (i1 : Int), i1 = k1 ∧ mn - k1 = mm1 ∧ k1 ≤ mn ∧ ((k1 = 0 ∧ σ = ⟨[.any, .vl jr tj, .vl (os.map rI) to, .ref 0 0 0, .any, .any, .ref 1 0 0, .ref 9 0 0, I i, .ref 12 0 0, I (fromA js (stsF s js os) os n k1), I i1, .any, .any, .any, .any, .any, .any, .any, .any, .any, .any, .any, .any, .any, .any, .any, .any, .any, .any, .any, .any, .any, .any, .any, .any, .any, .any, .any, .any, .any, .any, .any, .any, .any, .any, .any, .any, .any, .any, .any, .any, .any, .any, .any, .any, .any, .any, .any, .any, .any, .any, .any, .any, .any, .any, .any, .any, .any, .any, .any, .any, .any, .any, .any, .any, .any, .any, .any, .any, .any, .any, .any, .any, .any, .any, .any, .any, .any, .any, .any, .any, .any, .any, .any, .any, .any, .any, .any, .any, .any, .any, .any, .any, .any, .any, .any, .any, .any, .any, .any, .any, .any, .any, .any, .any, .any, .any, .any, .any, .any, .any, .any, .any, .any, .any, .any, .any, .any, .any, .any, .any, .any, .any, .any, .any, .any, .any, .any, .any, .any, .any, .any, .any], [some (.row 3 [[I (mn : Int), c, t]]), some (.row 2 [[.nils, .nils]]), none, none, none, none, none, some (.row 1 (re.map rI)), none, some (.row 2 [[.sl 11 0 js.length true, .sl 7 0 js.length true]]), none, some (.row 1 ((rs.map encS).set X.toNat [.nils])), some (.row 4 [[I js[X.toNat].kind, I js[X.toNat].ready, I js[X.toNat].due, .vl (js[X.toNat].mins.map rI) tw]]), none]⟩) ∨ (∃ (p1 : Nat) (ac1 : List (Int)), k1 = p1 + 1 ∧ ac1 = (RN.take (k1)) ∧ ac1.length = p1 + 1 ∧ σ = ⟨[.any, .vl jr tj, .vl (os.map rI) to, .ref 0 0 0, .any, .any, .ref 1 0 0, .ref 9 0 0, I i, .ref 12 0 0, I (fromA js (stsF s js os) os n k1), I i1, .any, .any, .any, .any, .any, .any, .any, .any, .any, .any, .any, .any, .any, .any, .any, .any, .any, .any, .any, .any, .any, .any, .any, .any, .any, .any, .any, .any, .any, .any, .any, .any, .any, .any, .any, .any, .any, .any, .any, .any, .any, .any, .any, .any, .any, .any, .any, .any, .any, .any, .any, .any, .any, .any, .any, .any, .any, .any, .any, .any, .any, .any, .any, .any, .any, .any, .any, .any, .any, .any, .any, .any, .any, .any, .any, .any, .any, .any, .any, .any, .any, .any, .any, .any, .any, .any, .any, .any, .any, .any, .any, .any, .any, .any, .any, .any, .any, .any, .any, .any, .any, .any, .any, .any, .any, .any, .any, .any, .any, .any, .any, .any, .any, .any, .any, .any, .any, .any, .any, .any, .any, .any, .any, .any, .any, .any, .any, .any, .any, .any, .any, .any], [some (.row 3 [[I (mn : Int), c, t]]), some (.row 2 [[.nils, .nils]]), none, none, none, none, none, some (.row 1 (re.map rI)), none, some (.row 2 [[.sl 11 0 js.length true, .sl 7 0 js.length true]]), none, some (.row 1 ((rs.map encS).set X.toNat [.sl 13 0 (p1 + 1) false])), some (.row 4 [[I js[X.toNat].kind, I js[X.toNat].ready, I js[X.toNat].due, .vl (js[X.toNat].mins.map rI) tw]]), some (.row 1 (ac1.map rI))]⟩))) (by simp [zC h68, zC h69, -lenA, HH1, zI, -List.map_set, -List.getElem?_map, -List.set_set, -List.length_set, HH2, ↓HH3] <;> first | exact ⟨rfl, rfl⟩ | rfl) (⟨0, 0, rfl, rfl, Nat.zero_le _, .inl ⟨rfl, by rw [hfr0]⟩⟩) ?_
  rintro mm1 σ ⟨k1, i1, hik1, rfl, hkl1, ⟨hkz1, rfl⟩ | ⟨p1, ac1, hkp1, hac1, hacl1, rfl⟩⟩
  ·refine zS ?_
   refine zS ?_
   refine zR (zO (by simp [zC h68, zC h69, -lenA, HH1, zI, -List.map_set, -List.getElem?_map, -List.set_set, -List.length_set, HH2, ↓HH3]; rfl) ?_)
   simp only [zT, zB]
   refine runs_cond_split (x := _) rfl (fun hlt1 => ?_) (fun hlt1 => ?_)
   ·have hltt1 := of_decide_eq_true hlt1
    have hk01 : k1 < mn := by omega
    have hi01 : 0 ≤ i1 := by omega
    have htn1 : i1.toNat = k1 := by omega
    have hwi1 : W .i64 (i1 + 1) = i1 + 1 := W_small (by omega)
    have hk1m : (k1 : Int) < s.mach := by omega
    have hk1j : k1 < js[X.toNat].mins.length := by omega
    have hk1r : k1 < RN.length := by omega
    have hi1j : i1 < (js[X.toNat].mins.length : Int) := by omega
    have hlast1 := hlast k1 hk1m
    have hse := hsteq k1 hk1m
    rw [hstat] at hse
    have hTb := hRNb _ (List.getElem_mem hk1r)
    have hnT : nAt RN k1 = RN[k1] := by unfold nAt; rw [List.getD_eq_getElem?_getD, List.getElem?_eq_getElem hk1r]; rfl
    have hF1 : RN.take (k1 + 1) = RN.take k1 ++ [RN[k1]] := List.take_succ_eq_append_getElem hk1r
    have hfn : RN[k1] + js[X.toNat].mins[k1] = fromA js (stsF s js os) os n (k1 + 1) := by
     unfold fromA
     rw [if_neg (Nat.succ_ne_zero _), Nat.add_sub_cancel, hstat, hnT, hJ, minAt_eq hk1j]
    have hfb : 0 ≤ fromA js (stsF s js os) os n k1 ∧ fromA js (stsF s js os) os n k1 ≤ 175000 := by
     unfold fromA
     by_cases hk : k1 = 0
     ·rw [if_pos hk, hJ]; have := hjb.2.1; omega
     ·rw [if_neg hk]
      have hkr : k1 - 1 < RN.length := by omega
      have hkj : k1 - 1 < js[X.toNat].mins.length := by omega
      have h1 := hRNb _ (List.getElem_mem hkr)
      have h2 := hjb.2.2.2.2 _ (List.getElem_mem hkj)
      rw [hstat, hJ, minAt_eq hkj]
      unfold nAt
      rw [List.getD_eq_getElem?_getD, List.getElem?_eq_getElem hkr, Option.getD_some]
      omega
    have hVb := hjb.2.2.2.2 _ (List.getElem_mem hk1j)
    rw [hnT, minAt_eq hk1j] at hse
    generalize hFr : fromA js (stsF s js os) os n k1 = F0 at *
    generalize hTT : RN[k1] = TV at *
    generalize hVV : js[X.toNat].mins[k1] = V at *
    have hwTV : W .i64 (fromA js (stsF s js os) os n (k1 + 1)) = fromA js (stsF s js os) os n (k1 + 1) := by rw [← hfn]; exact W_fit (by omega)
    have HH4 := zA hi01 (zA htn1 (zA hk01 (zA hwi1 (zA hk1j (zA hi1j hVV)))))
    refine zK ?_
    simp only [zT, zB]
    refine zS ?_
    refine zL ?_
    refine zS ?_
    refine zS ?_
    refine zR (zO (by simp [zC h68, zC h69, -lenA, HH1, zI, -List.map_set, -List.getElem?_map, -List.set_set, -List.length_set, HH2, ↓HH3, HH4]; rfl) ?_)
    simp only [zT, zB]
    refine runs_cond_split (x := decide (0 < V)) (by simp) (fun hv => ?_) (fun hv => ?_)
    ·have hV0 := of_decide_eq_true hv
     unfold startF at hse
     rw [if_pos hV0] at hse
     refine zS ?_
     refine zS ?_
     refine zR (zO (by simp [zC h68, zC h69, -lenA, HH1, zI, -List.map_set, -List.getElem?_map, -List.set_set, -List.length_set, HH2, ↓HH3, HH4]; rfl) ?_)
     simp only [zT, zB]
     refine zL ?_
     refine runs_loop_inv (fun m2 σ => ∃ (p0 : Nat) (b : Int), b = p0 - 1 ∧ p0 = m2 ∧ p0 ≤ n ∧ (∀ q, p0 ≤ q → q < n → ¬ 0 < minAt (jn js os q) k1) ∧ σ = ⟨[.any, .vl jr tj, .vl (os.map rI) to, .ref 0 0 0, .any, .any, .ref 1 0 0, .ref 9 0 0, I i, .ref 12 0 0, I F0, I i1, I b, .any, .any, .any, .any, .any, .any, .any, .any, .any, .any, .any, .any, .any, .any, .any, .any, .any, .any, .any, .any, .any, .any, .any, .any, .any, .any, .any, .any, .any, .any, .any, .any, .any, .any, .any, .any, .any, .any, .any, .any, .any, .any, .any, .any, .any, .any, .any, .any, .any, .any, .any, .any, .any, .any, .any, .any, .any, .any, .any, .any, .any, .any, .any, .any, .any, .any, .any, .any, .any, .any, .any, .any, .any, .any, .any, .any, .any, .any, .any, .any, .any, .any, .any, .any, .any, .any, .any, .any, .any, .any, .any, .any, .any, .any, .any, .any, .any, .any, .any, .any, .any, .any, .any, .any, .any, .any, .any, .any, .any, .any, .any, .any, .any, .any, .any, .any, .any, .any, .any, .any, .any, .any, .any, .any, .any, .any, .any, .any, .any, .any, .any], [some (.row 3 [[I (mn : Int), c, t]]), some (.row 2 [[.nils, .nils]]), none, none, none, none, none, some (.row 1 (re.map rI)), none, some (.row 2 [[.sl 11 0 js.length true, .sl 7 0 js.length true]]), none, some (.row 1 ((rs.map encS).set X.toNat [.nils])), some (.row 4 [[I js[X.toNat].kind, I js[X.toNat].ready, I js[X.toNat].due, .vl (js[X.toNat].mins.map rI) tw]]), none]⟩) ?_ n _ ⟨n, i - 1, by omega, rfl, Nat.le_refl _, fun q h1 h2 => by omega, by simp [hwj]⟩
     rintro m2 σ ⟨p0, b, hbp0, rfl, hp0n, hnb, rfl⟩
     refine zS ?_
     refine zS ?_
     refine zR (zO (by simp [zC h68, zC h69, -lenA, HH1, zI, -List.map_set, -List.getElem?_map, -List.set_set, -List.length_set, HH2, ↓HH3, HH4]; rfl) ?_)
     simp only [zT, zB]
     refine runs_cond_split (x := decide (0 ≤ b)) (by simp) (fun hlb => ?_) (fun hlb => ?_)
     ·have hb0 := of_decide_eq_true hlb
      obtain ⟨p, rfl⟩ : ∃ p, p0 = p + 1 := ⟨p0 - 1, by omega⟩
      have hbp : b = p := by omega
      have hpn : p < n := by omega
      have hpo : p < os.length := by omega
      have hbt : b.toNat = p := by omega
      have hblo : b < (os.length : Int) := by omega
      have hwb : W .i64 (b - 1) = b - 1 := W_small (by omega)
      have hmy := hctx.mem _ (List.getElem_mem hpo)
      have hy0 : 0 ≤ os[p] := hmy.1
      have hyj : os[p].toNat < js.length := by omega
      have hyjl : os[p] < (js.length : Int) := hmy.2
      have hoP := oAtN_eq hpo
      have hJy := jn_at hpo hyj
      have hjby := hsh.job _ (List.getElem_mem hyj)
      generalize hY : os[p] = Y at *
      have hky : Y.toNat < jr.length := by omega
      obtain ⟨wy, hwy2, hwy3⟩ := jobs_at hj hyj
      have hkjy : k1 < js[Y.toNat].mins.length := by have := hjby.2.2.2.1; omega
      have hi1y : i1 < (js[Y.toNat].mins.length : Int) := by omega
      obtain ⟨twy, rfl⟩ := dInts_get hwy3 hkjy
      have hwyg : ∀ h, jr[Y.toNat]'h = [I js[Y.toNat].kind, I js[Y.toNat].ready, I js[Y.toNat].due, .vl (js[Y.toNat].mins.map rI) twy] := fun h => by rw [List.getElem?_eq_getElem h] at hwy2; exact Option.some.inj hwy2
      have hwrb := fun n d => dInts_rb hwy3 n d
      have hmy2 := hjby.2.2.2.2 _ (List.getElem_mem hkjy)
      have hne : X.toNat ≠ Y.toNat := by
       have := oAt_ne hctx hn0 hpo (by omega)
       rw [hoN, hoP] at this; exact this
      have hrowy := row_at hctx hpo
      have hol2 := hold p hpn
      rw [hoP] at hrowy hol2
      have hsty := st_at hctx hpo k1
      generalize hRY : (passF s (lineN s js os p) (jn js os p)).1 = RY at *
      have hRYm : RY ∈ stsF s js os := List.mem_of_getElem? hrowy.1
      have hRYl : RY.length = mn := by have := (hSok.row _ hRYm).1; omega
      have hRY0 : RY ≠ [] := by intro e; rw [e] at hRYl; simp at hRYl; omega
      have hk1y : k1 < RY.length := by omega
      have hi1Y : i1 < (RY.length : Int) := by omega
      have hSyb := hst160 _ hRYm _ (List.getElem_mem hk1y)
      have hnY : nAt RY k1 = RY[k1] := by unfold nAt; rw [List.getD_eq_getElem?_getD, List.getElem?_eq_getElem hk1y]; rfl
      rw [hnY] at hsty
      have gy : ∀ v, ((rs.map encS).set X.toNat v)[Y.toNat]? = some [.vl (RY.map rI) false] := fun v => by
       rw [List.getElem?_set_ne hne, List.getElem?_map, hol2, hrowy.1, Option.map_some, encS_ne hRY0]
      have gyv := fun v (h : Y.toNat < ((rs.map encS).set X.toNat v).length) => Option.some.inj ((List.getElem?_eq_getElem h).symm.trans (gy v))
      generalize hSy : RY[k1] = Sy at *
      have hmy3 : minAt (jn js os p) k1 = js[Y.toNat].mins[k1] := by rw [hJy, minAt_eq hkjy]
      generalize hVy : js[Y.toNat].mins[k1] = Vy at *
      have HH5 := zA hb0 (zA hbt (zA hpo (zA hblo (zA hwb (zA hY (zA hy0 (zA hyj (zA hyjl (zA hky (zA hwy2 (zA hwyg (zA hkjy (zA hi1y (zA hVy (zA gy (zA gyv (zA hk1y (zA hi1Y hSy))))))))))))))))))
      refine zK ?_
      simp only [zT, zB]
      refine zS ?_
      refine zL ?_
      refine zS ?_
      refine zR (zO (by simp [zC h68, zC h69, -lenA, HH1, zI, -List.map_set, -List.getElem?_map, -List.set_set, -List.length_set, HH2, ↓HH3, HH4, ↓hwrb, HH5]; rfl) ?_)
      simp only [zT, zB]
      refine zS ?_
      refine zR (zO (by simp [zC h68, zC h69, -lenA, HH1, zI, -List.map_set, -List.getElem?_map, -List.set_set, -List.length_set, HH2, ↓HH3, HH4, ↓hwrb, HH5]; rfl) ?_)
      simp only [zT, zB]
      refine runs_cond_split (x := decide (0 < Vy)) (by simp) (fun hvy => ?_) (fun hvy => ?_)
      ·have hVy0 := of_decide_eq_true hvy
       obtain ⟨hlA, hlB⟩ : (lAt (lineN s js os n) k1).2.2 = true ∧ lAt (lineN s js os n) k1 = (Sy + Vy, js[Y.toNat].kind, true) := by
        rcases hlast1 with ⟨h1, h2⟩ | ⟨b', h1, h2, h3, h4⟩
        ·exact absurd (by rw [hmy3]; exact hVy0) (h1 p hpn)
        ·have hbp' : b' = p := by
          rcases Nat.lt_trichotomy b' p with hlt | rfl | hgt
          ·exact absurd (by rw [hmy3]; exact hVy0) (h3 p hlt hpn)
          ·rfl
          ·exact absurd h2 (hnb b' (by omega) h1)
         subst hbp'
         rw [h4]
         refine ⟨rfl, ?_⟩
         rw [hsty, hmy3, hJy]
       have hlG : (lineN s js os n).getD k1 (0, 0, false) = lAt (lineN s js os n) k1 := rfl
       rw [hlG, hlB] at hse
       simp only [if_true] at hse
       obtain ⟨rsc, tcc, rowc, tcr, hce, gc1, gc2, gc3, gc4⟩ := chgAt_get hsh hc hjby.1 hjb.1
       have hcb := chgAt_bd hsh js[Y.toNat].kind js[X.toNat].kind
       have hkd0 := hjby.1.1
       have hkd1 := hjb.1.1
       generalize hCH : chgAt s js[Y.toNat].kind js[X.toNat].kind = CH at *
       have gc2' := fun (h : js[Y.toNat].kind.toNat < rsc.length) => Option.some.inj ((List.getElem?_eq_getElem h).symm.trans gc2)
       have gc4' := fun (h : js[X.toNat].kind.toNat < rowc.length) => Option.some.inj ((List.getElem?_eq_getElem h).symm.trans gc4)
       have hw1 : W .i64 (Sy + Vy) = Sy + Vy := W_fit (by omega)
       have hw2 : W .i64 (Sy + Vy + CH) = Sy + Vy + CH := W_fit (by omega)
       subst hce
       have hfT := freeT_spec s.stops (k1 : Int) V (max F0 (Sy + Vy + CH))
       rw [← hse] at hfT
       have HH6 := zA gc1 (zA gc2 (zA gc2' (zA gc3 (zA gc4 (zA gc4' (zA hkd0 (zA hkd1 (zA hw1 hw2))))))))
       refine zS ?_
       refine runs_drw (by simp (maxSteps := 3000000) [zC h68, zC h69, -lenA, HH1, zI, -List.map_set, -List.getElem?_map, -List.set_set, -List.length_set, HH2, ↓HH3, HH4, ↓hwrb, HH5, HH6]; rfl) ?_
       simp only [zT, zB]
       refine runs_exit ?_
       simp only [zT, zB, if_true, if_false, reduceIte, Nat.reduceEqDiff, Nat.succ_ne_zero, Nat.one_ne_zero, Nat.zero_ne_one]
       refine zL ?_
       refine runs_loopG_inv (fun m3 σ => ∃ a : Int, (200000 - a).toNat = m3 ∧ (0 ≤ a ∧ a ≤ 180000) ∧ FreeAt s.stops (k1 : Int) V a TV ∧ σ = ⟨[.any, .vl jr tj, .vl (os.map rI) to, .ref 0 0 0, .any, .any, .ref 1 0 0, .ref 9 0 0, I i, .ref 12 0 0, I a, I i1, .any, .any, .any, .any, .any, .any, .any, .any, .any, .any, .any, .any, .any, .any, .any, .any, .any, .any, .any, .any, .any, .any, .any, .any, .any, .any, .any, .any, .any, .any, .any, .any, .any, .any, .any, .any, .any, .any, .any, .any, .any, .any, .any, .any, .any, .any, .any, .any, .any, .any, .any, .any, .any, .any, .any, .any, .any, .any, .any, .any, .any, .any, .any, .any, .any, .any, .any, .any, .any, .any, .any, .any, .any, .any, .any, .any, .any, .any, .any, .any, .any, .any, .any, .any, .any, .any, .any, .any, .any, .any, .any, .any, .any, .any, .any, .any, .any, .any, .any, .any, .any, .any, .any, .any, .any, .any, .any, .any, .any, .any, .any, .any, .any, .any, .any, .any, .any, .any, .any, .any, .any, .any, .any, .any, .any, .any, .any, .any, .any, .any, .any, .any], [some (.row 3 [[I (mn : Int), .vl rsc tcc, t]]), some (.row 2 [[.nils, .nils]]), none, none, none, none, none, some (.row 1 (re.map rI)), none, some (.row 2 [[.sl 11 0 js.length true, .sl 7 0 js.length true]]), none, some (.row 1 ((rs.map encS).set X.toNat [.nils])), some (.row 4 [[I js[X.toNat].kind, I js[X.toNat].ready, I js[X.toNat].due, .vl (js[X.toNat].mins.map rI) tw]]), none, some (.row 4 [[I js[Y.toNat].kind, I js[Y.toNat].ready, I js[Y.toNat].due, .vl (js[Y.toNat].mins.map rI) twy]]), none, none, none, none, none, none, none, none, none, none, none, none, none, none, none, none, none, none, none, none, none, none, none, none, none, none, none, none, none, none, none, none]⟩) (by simp [zC h68, zC h69, -lenA, HH1, zI, -List.map_set, -List.getElem?_map, -List.set_set, -List.length_set, HH2, ↓HH3, HH4, ↓hwrb, HH5, HH6] <;> first | exact ⟨rfl, rfl⟩ | rfl) (⟨max F0 (Sy + Vy + CH), rfl, by omega, hfT, rfl⟩) ?_
       rintro m3 σ ⟨a, rfl, hab, hfa, rfl⟩
       have hs1 := hsta (k1 : Int) V a hV0 ⟨hab.1, by omega, by omega⟩
       have hNx := hnxt (k1 : Int) a
       rw [← hik1] at hs1 hNx
       refine zS ?_
       refine zS ?_
       refine runs_drw (by simp (maxSteps := 3000000) [zC h68, zC h69, -lenA, HH1, zI, -List.map_set, -List.getElem?_map, -List.set_set, -List.length_set, HH2, ↓HH3, HH4, ↓hwrb, HH5, HH6, hs1, hNx]; rfl) ?_
       simp only [zT, zB]
       refine runs_cond_split (x := s.stops.any (conf (k1 : Int) V a)) (by simp [hik1]) (fun hany => ?_) (fun hany => ?_)
       ·have hnk := next_keep hany hM100 hfa
        have hns := next_step hany hM100
        rw [← hik1] at hnk hns
        refine zK ?_
        simp only [zT, zB]
        refine zL ?_
        refine zR (zO (by simp [zC h68, zC h69, -lenA, HH1, zI, -List.map_set, -List.getElem?_map, -List.set_set, -List.length_set, HH2, ↓HH3, HH4, ↓hwrb, HH5, HH6, hs1, hNx]; rfl) ?_)
        simp only [zT, zB]
        exact ⟨(200000 - nextF s.stops i1 a).toNat, _, _, by omega, by simp [zC h68, zC h69, -lenA, HH1, zI, -List.map_set, -List.getElem?_map, -List.set_set, -List.length_set, HH2, ↓HH3, HH4, ↓hwrb, HH5, HH6, hs1, hNx] <;> first | exact ⟨rfl, rfl⟩ | rfl, nextF s.stops i1 a, rfl, by omega, by rw [← hik1]; exact hnk, rfl⟩
       ·have hfe := free_of hany
        have haT : TV = a := (hfe.unique hfa).symm
        subst haT
        have hnx1 : [TV] = (RN.take (k1 + 1)) := by rw [hF1, hkz1]; rfl
        have hap1 : [[I TV]] = [TV].map rI := rfl
        refine runs_exit ?_
        simp only [zT, zB, if_true, if_false, reduceIte, Nat.reduceEqDiff, Nat.succ_ne_zero, Nat.one_ne_zero, Nat.zero_ne_one]
        refine zS ?_
        refine runs_drw (by simp (maxSteps := 3000000) [zC h68, zC h69, -lenA, HH1, zI, -List.map_set, -List.getElem?_map, -List.set_set, -List.length_set, HH2, ↓HH3, HH4, ↓hwrb, HH5, HH6, hs1, hNx, hwTV, hfn]; rfl) ?_
        simp only [zT, zB]
        refine zR (zO (by simp [zC h68, zC h69, -lenA, HH1, zI, -List.map_set, -List.getElem?_map, -List.set_set, -List.length_set, HH2, ↓HH3, HH4, ↓hwrb, HH5, HH6, hs1, hNx, hwTV, hfn]; rfl) ?_)
        simp only [zT, zB]
        refine zR (zO (by simp [zC h68, zC h69, -lenA, HH1, zI, -List.map_set, -List.getElem?_map, -List.set_set, -List.length_set, HH2, ↓HH3, HH4, ↓hwrb, HH5, HH6, hs1, hNx, hwTV, hfn]; rfl) ?_)
        simp only [zT, zB]
        exact ⟨mn - (k1 + 1), _, _, by omega, by simp [zC h68, zC h69, -lenA, HH1, zI, -List.map_set, -List.getElem?_map, -List.set_set, -List.length_set, HH2, ↓HH3, HH4, ↓hwrb, HH5, HH6, hs1, hNx, hwTV, hfn] <;> first | exact ⟨rfl, rfl⟩ | rfl, k1 + 1, i1 + 1, by omega, rfl, by omega, .inr ⟨0, [TV], by omega, hnx1, rfl, rfl⟩⟩
      ·have hVy0 := of_decide_eq_false hvy
       refine zK ?_
       simp only [zT, zB]
       refine zR (zO (by simp [zC h68, zC h69, -lenA, HH1, zI, -List.map_set, -List.getElem?_map, -List.set_set, -List.length_set, HH2, ↓HH3, HH4, ↓hwrb, HH5]; rfl) ?_)
       simp only [zT, zB]
       exact ⟨p, by omega, p, b - 1, by omega, rfl, by omega, (fun c hc1 hc2 => by
        by_cases e : c = p
        ·subst e; rw [hmy3]; exact hVy0
        ·exact hnb c (by omega) hc2), st_eq (by simp [zC h68, zC h69, -lenA, HH1, zI, -List.map_set, -List.getElem?_map, -List.set_set, -List.length_set, HH2, ↓HH3, HH4, ↓hwrb, HH5]) (trim_ok (by simp [zC h68, zC h69, -lenA, HH1, zI, -List.map_set, -List.getElem?_map, -List.set_set, -List.length_set, HH2, ↓HH3, HH4, ↓hwrb, HH5]) (by simp [zC h68, zC h69, -lenA, HH1, zI, -List.map_set, -List.getElem?_map, -List.set_set, -List.length_set, HH2, ↓HH3, HH4, ↓hwrb, HH5]) (by simp))⟩
     ·have hb0 := of_decide_eq_false hlb
      have hp00 : p0 = 0 := by omega
      subst hp00
      have hlG : (lineN s js os n).getD k1 (0, 0, false) = lAt (lineN s js os n) k1 := rfl
      have hlA : (lAt (lineN s js os n) k1).2.2 = false := by
       rcases hlast1 with ⟨h1, h2⟩ | ⟨b', h1, h2, h3, h4⟩
       ·exact h2
       ·exact absurd h2 (hnb b' (Nat.zero_le _) h1)
      rw [hlG, hlA] at hse
      simp only [Bool.false_eq_true, if_false] at hse
      have hfT := freeT_spec s.stops (k1 : Int) V F0
      rw [← hse] at hfT
      refine runs_exit ?_
      simp only [zT, zB, if_true, if_false, reduceIte, Nat.reduceEqDiff, Nat.succ_ne_zero, Nat.one_ne_zero, Nat.zero_ne_one]
      refine zL ?_
      refine runs_loopG_inv (fun m3 σ => ∃ a : Int, (200000 - a).toNat = m3 ∧ (0 ≤ a ∧ a ≤ 180000) ∧ FreeAt s.stops (k1 : Int) V a TV ∧ σ = ⟨[.any, .vl jr tj, .vl (os.map rI) to, .ref 0 0 0, .any, .any, .ref 1 0 0, .ref 9 0 0, I i, .ref 12 0 0, I a, I i1, .any, .any, .any, .any, .any, .any, .any, .any, .any, .any, .any, .any, .any, .any, .any, .any, .any, .any, .any, .any, .any, .any, .any, .any, .any, .any, .any, .any, .any, .any, .any, .any, .any, .any, .any, .any, .any, .any, .any, .any, .any, .any, .any, .any, .any, .any, .any, .any, .any, .any, .any, .any, .any, .any, .any, .any, .any, .any, .any, .any, .any, .any, .any, .any, .any, .any, .any, .any, .any, .any, .any, .any, .any, .any, .any, .any, .any, .any, .any, .any, .any, .any, .any, .any, .any, .any, .any, .any, .any, .any, .any, .any, .any, .any, .any, .any, .any, .any, .any, .any, .any, .any, .any, .any, .any, .any, .any, .any, .any, .any, .any, .any, .any, .any, .any, .any, .any, .any, .any, .any, .any, .any, .any, .any, .any, .any, .any, .any, .any, .any, .any, .any], [some (.row 3 [[I (mn : Int), c, t]]), some (.row 2 [[.nils, .nils]]), none, none, none, none, none, some (.row 1 (re.map rI)), none, some (.row 2 [[.sl 11 0 js.length true, .sl 7 0 js.length true]]), none, some (.row 1 ((rs.map encS).set X.toNat [.nils])), some (.row 4 [[I js[X.toNat].kind, I js[X.toNat].ready, I js[X.toNat].due, .vl (js[X.toNat].mins.map rI) tw]]), none, none]⟩) (by simp [zC h68, zC h69, -lenA, HH1, zI, -List.map_set, -List.getElem?_map, -List.set_set, -List.length_set, HH2, ↓HH3, HH4] <;> first | exact ⟨rfl, rfl⟩ | rfl) (⟨F0, rfl, by omega, hfT, rfl⟩) ?_
      rintro m3 σ ⟨a, rfl, hab, hfa, rfl⟩
      have hs1 := hsta (k1 : Int) V a hV0 ⟨hab.1, by omega, by omega⟩
      have hNx := hnxt (k1 : Int) a
      rw [← hik1] at hs1 hNx
      refine zS ?_
      refine zS ?_
      refine runs_drw (by simp (maxSteps := 3000000) [zC h68, zC h69, -lenA, HH1, zI, -List.map_set, -List.getElem?_map, -List.set_set, -List.length_set, HH2, ↓HH3, HH4, hs1, hNx]; rfl) ?_
      simp only [zT, zB]
      refine runs_cond_split (x := s.stops.any (conf (k1 : Int) V a)) (by simp [hik1]) (fun hany => ?_) (fun hany => ?_)
      ·have hnk := next_keep hany hM100 hfa
       have hns := next_step hany hM100
       rw [← hik1] at hnk hns
       refine zK ?_
       simp only [zT, zB]
       refine zL ?_
       refine zR (zO (by simp [zC h68, zC h69, -lenA, HH1, zI, -List.map_set, -List.getElem?_map, -List.set_set, -List.length_set, HH2, ↓HH3, HH4, hs1, hNx]; rfl) ?_)
       simp only [zT, zB]
       exact ⟨(200000 - nextF s.stops i1 a).toNat, _, _, by omega, by simp [zC h68, zC h69, -lenA, HH1, zI, -List.map_set, -List.getElem?_map, -List.set_set, -List.length_set, HH2, ↓HH3, HH4, hs1, hNx] <;> first | exact ⟨rfl, rfl⟩ | rfl, nextF s.stops i1 a, rfl, by omega, by rw [← hik1]; exact hnk, rfl⟩
      ·have hfe := free_of hany
       have haT : TV = a := (hfe.unique hfa).symm
       subst haT
       have hnx1 : [TV] = (RN.take (k1 + 1)) := by rw [hF1, hkz1]; rfl
       have hap1 : [[I TV]] = [TV].map rI := rfl
       refine runs_exit ?_
       simp only [zT, zB, if_true, if_false, reduceIte, Nat.reduceEqDiff, Nat.succ_ne_zero, Nat.one_ne_zero, Nat.zero_ne_one]
       refine zS ?_
       refine runs_drw (by simp (maxSteps := 3000000) [zC h68, zC h69, -lenA, HH1, zI, -List.map_set, -List.getElem?_map, -List.set_set, -List.length_set, HH2, ↓HH3, HH4, hs1, hNx, hwTV, hfn]; rfl) ?_
       simp only [zT, zB]
       refine zR (zO (by simp [zC h68, zC h69, -lenA, HH1, zI, -List.map_set, -List.getElem?_map, -List.set_set, -List.length_set, HH2, ↓HH3, HH4, hs1, hNx, hwTV, hfn]; rfl) ?_)
       simp only [zT, zB]
       refine zR (zO (by simp [zC h68, zC h69, -lenA, HH1, zI, -List.map_set, -List.getElem?_map, -List.set_set, -List.length_set, HH2, ↓HH3, HH4, hs1, hNx, hwTV, hfn]; rfl) ?_)
       simp only [zT, zB]
       exact ⟨mn - (k1 + 1), _, _, by omega, by simp [zC h68, zC h69, -lenA, HH1, zI, -List.map_set, -List.getElem?_map, -List.set_set, -List.length_set, HH2, ↓HH3, HH4, hs1, hNx, hwTV, hfn] <;> first | exact ⟨rfl, rfl⟩ | rfl, k1 + 1, i1 + 1, by omega, rfl, by omega, .inr ⟨0, [TV], by omega, hnx1, rfl, rfl⟩⟩
    ·have hV0 := of_decide_eq_false hv
     have hTF : TV = F0 := by
      rw [hse]; unfold startF; rw [if_neg hV0]
     subst hTF
     have hnx1 : [TV] = (RN.take (k1 + 1)) := by rw [hF1, hkz1]; rfl
     have hap1 : [[I TV]] = [TV].map rI := rfl
     refine zK ?_
     simp only [zT, zB]
     refine zS ?_
     refine runs_drw (by simp (maxSteps := 3000000) [zC h68, zC h69, -lenA, HH1, zI, -List.map_set, -List.getElem?_map, -List.set_set, -List.length_set, HH2, ↓HH3, HH4, hwTV, hfn]; rfl) ?_
     simp only [zT, zB]
     refine zR (zO (by simp [zC h68, zC h69, -lenA, HH1, zI, -List.map_set, -List.getElem?_map, -List.set_set, -List.length_set, HH2, ↓HH3, HH4, hwTV, hfn]; rfl) ?_)
     simp only [zT, zB]
     refine zR (zO (by simp [zC h68, zC h69, -lenA, HH1, zI, -List.map_set, -List.getElem?_map, -List.set_set, -List.length_set, HH2, ↓HH3, HH4, hwTV, hfn]; rfl) ?_)
     simp only [zT, zB]
     exact ⟨mn - (k1 + 1), _, _, by omega, by simp [zC h68, zC h69, -lenA, HH1, zI, -List.map_set, -List.getElem?_map, -List.set_set, -List.length_set, HH2, ↓HH3, HH4, hwTV, hfn] <;> first | exact ⟨rfl, rfl⟩ | rfl, k1 + 1, i1 + 1, by omega, rfl, by omega, .inr ⟨0, [TV], by omega, hnx1, rfl, rfl⟩⟩
   ·have hx1 := of_decide_eq_false hlt1
    have hkE1 : k1 = mn := by omega
    omega
  ·have tk1 : (ac1.map rI).take (p1 + 1) = ac1.map rI := List.take_of_length_le (by simp [hacl1])
   have hlac1 : p1 + 1 + 1 ≤ 1048576 := by omega
   have hr31 : ∀ e : Int, (rI e).length = 1 := fun _ => rfl
   have hfr1 := fun n h r => optAll_snoc (frN_rI n h ac1) r
   have hrj1 := fun n => rI_rb n 4 ac1
   refine zS ?_
   refine zS ?_
   refine zR (zO (by simp [zC h68, zC h69, -lenA, HH1, zI, -List.map_set, -List.getElem?_map, -List.set_set, -List.length_set, HH2, ↓HH3, tk1, hlac1, hacl1, hr31, ↓hfr1, ↓hrj1]; rfl) ?_)
   simp only [zT, zB]
   refine runs_cond_split (x := _) rfl (fun hlt1 => ?_) (fun hlt1 => ?_)
   ·have hltt1 := of_decide_eq_true hlt1
    have hk01 : k1 < mn := by omega
    have hi01 : 0 ≤ i1 := by omega
    have htn1 : i1.toNat = k1 := by omega
    have hwi1 : W .i64 (i1 + 1) = i1 + 1 := W_small (by omega)
    have hk1m : (k1 : Int) < s.mach := by omega
    have hk1j : k1 < js[X.toNat].mins.length := by omega
    have hk1r : k1 < RN.length := by omega
    have hi1j : i1 < (js[X.toNat].mins.length : Int) := by omega
    have hlast1 := hlast k1 hk1m
    have hse := hsteq k1 hk1m
    rw [hstat] at hse
    have hTb := hRNb _ (List.getElem_mem hk1r)
    have hnT : nAt RN k1 = RN[k1] := by unfold nAt; rw [List.getD_eq_getElem?_getD, List.getElem?_eq_getElem hk1r]; rfl
    have hF1 : RN.take (k1 + 1) = RN.take k1 ++ [RN[k1]] := List.take_succ_eq_append_getElem hk1r
    have hfn : RN[k1] + js[X.toNat].mins[k1] = fromA js (stsF s js os) os n (k1 + 1) := by
     unfold fromA
     rw [if_neg (Nat.succ_ne_zero _), Nat.add_sub_cancel, hstat, hnT, hJ, minAt_eq hk1j]
    have hfb : 0 ≤ fromA js (stsF s js os) os n k1 ∧ fromA js (stsF s js os) os n k1 ≤ 175000 := by
     unfold fromA
     by_cases hk : k1 = 0
     ·rw [if_pos hk, hJ]; have := hjb.2.1; omega
     ·rw [if_neg hk]
      have hkr : k1 - 1 < RN.length := by omega
      have hkj : k1 - 1 < js[X.toNat].mins.length := by omega
      have h1 := hRNb _ (List.getElem_mem hkr)
      have h2 := hjb.2.2.2.2 _ (List.getElem_mem hkj)
      rw [hstat, hJ, minAt_eq hkj]
      unfold nAt
      rw [List.getD_eq_getElem?_getD, List.getElem?_eq_getElem hkr, Option.getD_some]
      omega
    have hVb := hjb.2.2.2.2 _ (List.getElem_mem hk1j)
    rw [hnT, minAt_eq hk1j] at hse
    generalize hFr : fromA js (stsF s js os) os n k1 = F0 at *
    generalize hTT : RN[k1] = TV at *
    generalize hVV : js[X.toNat].mins[k1] = V at *
    have hwTV : W .i64 (fromA js (stsF s js os) os n (k1 + 1)) = fromA js (stsF s js os) os n (k1 + 1) := by rw [← hfn]; exact W_fit (by omega)
    have HH7 := zA tk1 (zA hlac1 (zA hacl1 (zA hr31 (zA hi01 (zA htn1 (zA hk01 (zA hwi1 (zA hk1j (zA hi1j hVV)))))))))
    refine zK ?_
    simp only [zT, zB]
    refine zS ?_
    refine zL ?_
    refine zS ?_
    refine zS ?_
    refine zR (zO (by simp [zC h68, zC h69, -lenA, HH1, zI, -List.map_set, -List.getElem?_map, -List.set_set, -List.length_set, HH2, ↓HH3, ↓hfr1, ↓hrj1, HH7]; rfl) ?_)
    simp only [zT, zB]
    refine runs_cond_split (x := decide (0 < V)) (by simp) (fun hv => ?_) (fun hv => ?_)
    ·have hV0 := of_decide_eq_true hv
     unfold startF at hse
     rw [if_pos hV0] at hse
     refine zS ?_
     refine zS ?_
     refine zR (zO (by simp [zC h68, zC h69, -lenA, HH1, zI, -List.map_set, -List.getElem?_map, -List.set_set, -List.length_set, HH2, ↓HH3, ↓hfr1, ↓hrj1, HH7]; rfl) ?_)
     simp only [zT, zB]
     refine zL ?_
     refine runs_loop_inv (fun m2 σ => ∃ (p0 : Nat) (b : Int), b = p0 - 1 ∧ p0 = m2 ∧ p0 ≤ n ∧ (∀ q, p0 ≤ q → q < n → ¬ 0 < minAt (jn js os q) k1) ∧ σ = ⟨[.any, .vl jr tj, .vl (os.map rI) to, .ref 0 0 0, .any, .any, .ref 1 0 0, .ref 9 0 0, I i, .ref 12 0 0, I F0, I i1, I b, .any, .any, .any, .any, .any, .any, .any, .any, .any, .any, .any, .any, .any, .any, .any, .any, .any, .any, .any, .any, .any, .any, .any, .any, .any, .any, .any, .any, .any, .any, .any, .any, .any, .any, .any, .any, .any, .any, .any, .any, .any, .any, .any, .any, .any, .any, .any, .any, .any, .any, .any, .any, .any, .any, .any, .any, .any, .any, .any, .any, .any, .any, .any, .any, .any, .any, .any, .any, .any, .any, .any, .any, .any, .any, .any, .any, .any, .any, .any, .any, .any, .any, .any, .any, .any, .any, .any, .any, .any, .any, .any, .any, .any, .any, .any, .any, .any, .any, .any, .any, .any, .any, .any, .any, .any, .any, .any, .any, .any, .any, .any, .any, .any, .any, .any, .any, .any, .any, .any, .any, .any, .any, .any, .any, .any, .any, .any, .any, .any, .any, .any], [some (.row 3 [[I (mn : Int), c, t]]), some (.row 2 [[.nils, .nils]]), none, none, none, none, none, some (.row 1 (re.map rI)), none, some (.row 2 [[.sl 11 0 js.length true, .sl 7 0 js.length true]]), none, some (.row 1 ((rs.map encS).set X.toNat [.sl 13 0 (p1 + 1) false])), some (.row 4 [[I js[X.toNat].kind, I js[X.toNat].ready, I js[X.toNat].due, .vl (js[X.toNat].mins.map rI) tw]]), some (.row 1 (ac1.map rI))]⟩) ?_ n _ ⟨n, i - 1, by omega, rfl, Nat.le_refl _, fun q h1 h2 => by omega, by simp [hwj]⟩
     rintro m2 σ ⟨p0, b, hbp0, rfl, hp0n, hnb, rfl⟩
     refine zS ?_
     refine zS ?_
     refine zR (zO (by simp [zC h68, zC h69, -lenA, HH1, zI, -List.map_set, -List.getElem?_map, -List.set_set, -List.length_set, HH2, ↓HH3, ↓hfr1, ↓hrj1, HH7]; rfl) ?_)
     simp only [zT, zB]
     refine runs_cond_split (x := decide (0 ≤ b)) (by simp) (fun hlb => ?_) (fun hlb => ?_)
     ·have hb0 := of_decide_eq_true hlb
      obtain ⟨p, rfl⟩ : ∃ p, p0 = p + 1 := ⟨p0 - 1, by omega⟩
      have hbp : b = p := by omega
      have hpn : p < n := by omega
      have hpo : p < os.length := by omega
      have hbt : b.toNat = p := by omega
      have hblo : b < (os.length : Int) := by omega
      have hwb : W .i64 (b - 1) = b - 1 := W_small (by omega)
      have hmy := hctx.mem _ (List.getElem_mem hpo)
      have hy0 : 0 ≤ os[p] := hmy.1
      have hyj : os[p].toNat < js.length := by omega
      have hyjl : os[p] < (js.length : Int) := hmy.2
      have hoP := oAtN_eq hpo
      have hJy := jn_at hpo hyj
      have hjby := hsh.job _ (List.getElem_mem hyj)
      generalize hY : os[p] = Y at *
      have hky : Y.toNat < jr.length := by omega
      obtain ⟨wy, hwy2, hwy3⟩ := jobs_at hj hyj
      have hkjy : k1 < js[Y.toNat].mins.length := by have := hjby.2.2.2.1; omega
      have hi1y : i1 < (js[Y.toNat].mins.length : Int) := by omega
      obtain ⟨twy, rfl⟩ := dInts_get hwy3 hkjy
      have hwyg : ∀ h, jr[Y.toNat]'h = [I js[Y.toNat].kind, I js[Y.toNat].ready, I js[Y.toNat].due, .vl (js[Y.toNat].mins.map rI) twy] := fun h => by rw [List.getElem?_eq_getElem h] at hwy2; exact Option.some.inj hwy2
      have hwrb := fun n d => dInts_rb hwy3 n d
      have hmy2 := hjby.2.2.2.2 _ (List.getElem_mem hkjy)
      have hne : X.toNat ≠ Y.toNat := by
       have := oAt_ne hctx hn0 hpo (by omega)
       rw [hoN, hoP] at this; exact this
      have hrowy := row_at hctx hpo
      have hol2 := hold p hpn
      rw [hoP] at hrowy hol2
      have hsty := st_at hctx hpo k1
      generalize hRY : (passF s (lineN s js os p) (jn js os p)).1 = RY at *
      have hRYm : RY ∈ stsF s js os := List.mem_of_getElem? hrowy.1
      have hRYl : RY.length = mn := by have := (hSok.row _ hRYm).1; omega
      have hRY0 : RY ≠ [] := by intro e; rw [e] at hRYl; simp at hRYl; omega
      have hk1y : k1 < RY.length := by omega
      have hi1Y : i1 < (RY.length : Int) := by omega
      have hSyb := hst160 _ hRYm _ (List.getElem_mem hk1y)
      have hnY : nAt RY k1 = RY[k1] := by unfold nAt; rw [List.getD_eq_getElem?_getD, List.getElem?_eq_getElem hk1y]; rfl
      rw [hnY] at hsty
      have gy : ∀ v, ((rs.map encS).set X.toNat v)[Y.toNat]? = some [.vl (RY.map rI) false] := fun v => by
       rw [List.getElem?_set_ne hne, List.getElem?_map, hol2, hrowy.1, Option.map_some, encS_ne hRY0]
      have gyv := fun v (h : Y.toNat < ((rs.map encS).set X.toNat v).length) => Option.some.inj ((List.getElem?_eq_getElem h).symm.trans (gy v))
      generalize hSy : RY[k1] = Sy at *
      have hmy3 : minAt (jn js os p) k1 = js[Y.toNat].mins[k1] := by rw [hJy, minAt_eq hkjy]
      generalize hVy : js[Y.toNat].mins[k1] = Vy at *
      have HH8 := zA hb0 (zA hbt (zA hpo (zA hblo (zA hwb (zA hY (zA hy0 (zA hyj (zA hyjl (zA hky (zA hwy2 (zA hwyg (zA hkjy (zA hi1y (zA hVy (zA gy (zA gyv (zA hk1y (zA hi1Y hSy))))))))))))))))))
      refine zK ?_
      simp only [zT, zB]
      refine zS ?_
      refine zL ?_
      refine zS ?_
      refine zR (zO (by simp [zC h68, zC h69, -lenA, HH1, zI, -List.map_set, -List.getElem?_map, -List.set_set, -List.length_set, HH2, ↓HH3, ↓hfr1, ↓hrj1, HH7, ↓hwrb, HH8]; rfl) ?_)
      simp only [zT, zB]
      refine zS ?_
      refine zR (zO (by simp [zC h68, zC h69, -lenA, HH1, zI, -List.map_set, -List.getElem?_map, -List.set_set, -List.length_set, HH2, ↓HH3, ↓hfr1, ↓hrj1, HH7, ↓hwrb, HH8]; rfl) ?_)
      simp only [zT, zB]
      refine runs_cond_split (x := decide (0 < Vy)) (by simp) (fun hvy => ?_) (fun hvy => ?_)
      ·have hVy0 := of_decide_eq_true hvy
       obtain ⟨hlA, hlB⟩ : (lAt (lineN s js os n) k1).2.2 = true ∧ lAt (lineN s js os n) k1 = (Sy + Vy, js[Y.toNat].kind, true) := by
        rcases hlast1 with ⟨h1, h2⟩ | ⟨b', h1, h2, h3, h4⟩
        ·exact absurd (by rw [hmy3]; exact hVy0) (h1 p hpn)
        ·have hbp' : b' = p := by
          rcases Nat.lt_trichotomy b' p with hlt | rfl | hgt
          ·exact absurd (by rw [hmy3]; exact hVy0) (h3 p hlt hpn)
          ·rfl
          ·exact absurd h2 (hnb b' (by omega) h1)
         subst hbp'
         rw [h4]
         refine ⟨rfl, ?_⟩
         rw [hsty, hmy3, hJy]
       have hlG : (lineN s js os n).getD k1 (0, 0, false) = lAt (lineN s js os n) k1 := rfl
       rw [hlG, hlB] at hse
       simp only [if_true] at hse
       obtain ⟨rsc, tcc, rowc, tcr, hce, gc1, gc2, gc3, gc4⟩ := chgAt_get hsh hc hjby.1 hjb.1
       have hcb := chgAt_bd hsh js[Y.toNat].kind js[X.toNat].kind
       have hkd0 := hjby.1.1
       have hkd1 := hjb.1.1
       generalize hCH : chgAt s js[Y.toNat].kind js[X.toNat].kind = CH at *
       have gc2' := fun (h : js[Y.toNat].kind.toNat < rsc.length) => Option.some.inj ((List.getElem?_eq_getElem h).symm.trans gc2)
       have gc4' := fun (h : js[X.toNat].kind.toNat < rowc.length) => Option.some.inj ((List.getElem?_eq_getElem h).symm.trans gc4)
       have hw1 : W .i64 (Sy + Vy) = Sy + Vy := W_fit (by omega)
       have hw2 : W .i64 (Sy + Vy + CH) = Sy + Vy + CH := W_fit (by omega)
       subst hce
       have hfT := freeT_spec s.stops (k1 : Int) V (max F0 (Sy + Vy + CH))
       rw [← hse] at hfT
       have HH9 := zA gc1 (zA gc2 (zA gc2' (zA gc3 (zA gc4 (zA gc4' (zA hkd0 (zA hkd1 (zA hw1 hw2))))))))
       refine zS ?_
       refine runs_drw (by simp (maxSteps := 3000000) [zC h68, zC h69, -lenA, HH1, zI, -List.map_set, -List.getElem?_map, -List.set_set, -List.length_set, HH2, ↓HH3, ↓hfr1, ↓hrj1, HH7, ↓hwrb, HH8, HH9]; rfl) ?_
       simp only [zT, zB]
       refine runs_exit ?_
       simp only [zT, zB, if_true, if_false, reduceIte, Nat.reduceEqDiff, Nat.succ_ne_zero, Nat.one_ne_zero, Nat.zero_ne_one]
       refine zL ?_
       refine runs_loopG_inv (fun m3 σ => ∃ a : Int, (200000 - a).toNat = m3 ∧ (0 ≤ a ∧ a ≤ 180000) ∧ FreeAt s.stops (k1 : Int) V a TV ∧ σ = ⟨[.any, .vl jr tj, .vl (os.map rI) to, .ref 0 0 0, .any, .any, .ref 1 0 0, .ref 9 0 0, I i, .ref 12 0 0, I a, I i1, .any, .any, .any, .any, .any, .any, .any, .any, .any, .any, .any, .any, .any, .any, .any, .any, .any, .any, .any, .any, .any, .any, .any, .any, .any, .any, .any, .any, .any, .any, .any, .any, .any, .any, .any, .any, .any, .any, .any, .any, .any, .any, .any, .any, .any, .any, .any, .any, .any, .any, .any, .any, .any, .any, .any, .any, .any, .any, .any, .any, .any, .any, .any, .any, .any, .any, .any, .any, .any, .any, .any, .any, .any, .any, .any, .any, .any, .any, .any, .any, .any, .any, .any, .any, .any, .any, .any, .any, .any, .any, .any, .any, .any, .any, .any, .any, .any, .any, .any, .any, .any, .any, .any, .any, .any, .any, .any, .any, .any, .any, .any, .any, .any, .any, .any, .any, .any, .any, .any, .any, .any, .any, .any, .any, .any, .any, .any, .any, .any, .any, .any, .any], [some (.row 3 [[I (mn : Int), .vl rsc tcc, t]]), some (.row 2 [[.nils, .nils]]), none, none, none, none, none, some (.row 1 (re.map rI)), none, some (.row 2 [[.sl 11 0 js.length true, .sl 7 0 js.length true]]), none, some (.row 1 ((rs.map encS).set X.toNat [.sl 46 0 (p1 + 1) false])), some (.row 4 [[I js[X.toNat].kind, I js[X.toNat].ready, I js[X.toNat].due, .vl (js[X.toNat].mins.map rI) tw]]), none, some (.row 4 [[I js[Y.toNat].kind, I js[Y.toNat].ready, I js[Y.toNat].due, .vl (js[Y.toNat].mins.map rI) twy]]), none, none, none, none, none, none, none, none, none, none, none, none, none, none, none, none, none, none, none, none, none, none, none, none, none, none, none, none, none, none, none, some (.row 1 (ac1.map rI))]⟩) (by simp [zC h68, zC h69, -lenA, HH1, zI, -List.map_set, -List.getElem?_map, -List.set_set, -List.length_set, HH2, ↓HH3, ↓hfr1, ↓hrj1, HH7, ↓hwrb, HH8, HH9] <;> first | exact ⟨rfl, rfl⟩ | rfl) (⟨max F0 (Sy + Vy + CH), rfl, by omega, hfT, rfl⟩) ?_
       rintro m3 σ ⟨a, rfl, hab, hfa, rfl⟩
       have hs1 := hsta (k1 : Int) V a hV0 ⟨hab.1, by omega, by omega⟩
       have hNx := hnxt (k1 : Int) a
       rw [← hik1] at hs1 hNx
       refine zS ?_
       refine zS ?_
       refine runs_drw (by simp (maxSteps := 3000000) [zC h68, zC h69, -lenA, HH1, zI, -List.map_set, -List.getElem?_map, -List.set_set, -List.length_set, HH2, ↓HH3, ↓hfr1, ↓hrj1, HH7, ↓hwrb, HH8, HH9, hs1, hNx]; rfl) ?_
       simp only [zT, zB]
       refine runs_cond_split (x := s.stops.any (conf (k1 : Int) V a)) (by simp [hik1]) (fun hany => ?_) (fun hany => ?_)
       ·have hnk := next_keep hany hM100 hfa
        have hns := next_step hany hM100
        rw [← hik1] at hnk hns
        refine zK ?_
        simp only [zT, zB]
        refine zL ?_
        refine zR (zO (by simp [zC h68, zC h69, -lenA, HH1, zI, -List.map_set, -List.getElem?_map, -List.set_set, -List.length_set, HH2, ↓HH3, ↓hfr1, ↓hrj1, HH7, ↓hwrb, HH8, HH9, hs1, hNx]; rfl) ?_)
        simp only [zT, zB]
        exact ⟨(200000 - nextF s.stops i1 a).toNat, _, _, by omega, by simp [zC h68, zC h69, -lenA, HH1, zI, -List.map_set, -List.getElem?_map, -List.set_set, -List.length_set, HH2, ↓HH3, ↓hfr1, ↓hrj1, HH7, ↓hwrb, HH8, HH9, hs1, hNx] <;> first | exact ⟨rfl, rfl⟩ | rfl, nextF s.stops i1 a, rfl, by omega, by rw [← hik1]; exact hnk, rfl⟩
       ·have hfe := free_of hany
        have haT : TV = a := (hfe.unique hfa).symm
        subst haT
        have hnx1 : ac1 ++ [TV] = (RN.take (k1 + 1)) := by rw [hF1, ← hac1]
        have hnl1 : (ac1 ++ [TV]).length = p1 + 1 + 1 := by simp [hacl1]
        have hap1 : ac1.map rI ++ [[I TV]] = (ac1 ++ [TV]).map rI := by rw [List.map_append]; rfl
        generalize ac1 ++ [TV] = nx1 at *
        have hrx1 := fun n => rI_rb n 4 nx1
        have HH10 := zA hs1 (zA hNx (zA hap1 (zA hwTV hfn)))
        refine runs_exit ?_
        simp only [zT, zB, if_true, if_false, reduceIte, Nat.reduceEqDiff, Nat.succ_ne_zero, Nat.one_ne_zero, Nat.zero_ne_one]
        refine zS ?_
        refine runs_drw (by simp (maxSteps := 3000000) [zC h68, zC h69, -lenA, HH1, zI, -List.map_set, -List.getElem?_map, -List.set_set, -List.length_set, HH2, ↓HH3, ↓hfr1, ↓hrj1, HH7, ↓hwrb, HH8, HH9, ↓hrx1, HH10]; rfl) ?_
        simp only [zT, zB]
        refine zR (zO (by simp [zC h68, zC h69, -lenA, HH1, zI, -List.map_set, -List.getElem?_map, -List.set_set, -List.length_set, HH2, ↓HH3, ↓hfr1, ↓hrj1, HH7, ↓hwrb, HH8, HH9, ↓hrx1, HH10]; rfl) ?_)
        simp only [zT, zB]
        refine zR (zO (by simp [zC h68, zC h69, -lenA, HH1, zI, -List.map_set, -List.getElem?_map, -List.set_set, -List.length_set, HH2, ↓HH3, ↓hfr1, ↓hrj1, HH7, ↓hwrb, HH8, HH9, ↓hrx1, HH10]; rfl) ?_)
        simp only [zT, zB]
        exact ⟨mn - (k1 + 1), _, _, by omega, by simp [zC h68, zC h69, -lenA, HH1, zI, -List.map_set, -List.getElem?_map, -List.set_set, -List.length_set, HH2, ↓HH3, ↓hfr1, ↓hrj1, HH7, ↓hwrb, HH8, HH9, ↓hrx1, HH10] <;> first | exact ⟨rfl, rfl⟩ | rfl, k1 + 1, i1 + 1, by omega, rfl, by omega, .inr ⟨p1 + 1, nx1, by omega, hnx1, hnl1, rfl⟩⟩
      ·have hVy0 := of_decide_eq_false hvy
       refine zK ?_
       simp only [zT, zB]
       refine zR (zO (by simp [zC h68, zC h69, -lenA, HH1, zI, -List.map_set, -List.getElem?_map, -List.set_set, -List.length_set, HH2, ↓HH3, ↓hfr1, ↓hrj1, HH7, ↓hwrb, HH8]; rfl) ?_)
       simp only [zT, zB]
       exact ⟨p, by omega, p, b - 1, by omega, rfl, by omega, (fun c hc1 hc2 => by
        by_cases e : c = p
        ·subst e; rw [hmy3]; exact hVy0
        ·exact hnb c (by omega) hc2), st_eq (by simp [zC h68, zC h69, -lenA, HH1, zI, -List.map_set, -List.getElem?_map, -List.set_set, -List.length_set, HH2, ↓HH3, ↓hfr1, ↓hrj1, HH7, ↓hwrb, HH8]) (trim_ok (by simp [zC h68, zC h69, -lenA, HH1, zI, -List.map_set, -List.getElem?_map, -List.set_set, -List.length_set, HH2, ↓HH3, ↓hfr1, ↓hrj1, HH7, ↓hwrb, HH8]) (by simp [zC h68, zC h69, -lenA, HH1, zI, -List.map_set, -List.getElem?_map, -List.set_set, -List.length_set, HH2, ↓HH3, ↓hfr1, ↓hrj1, HH7, ↓hwrb, HH8]) (by simp))⟩
     ·have hb0 := of_decide_eq_false hlb
      have hp00 : p0 = 0 := by omega
      subst hp00
      have hlG : (lineN s js os n).getD k1 (0, 0, false) = lAt (lineN s js os n) k1 := rfl
      have hlA : (lAt (lineN s js os n) k1).2.2 = false := by
       rcases hlast1 with ⟨h1, h2⟩ | ⟨b', h1, h2, h3, h4⟩
       ·exact h2
       ·exact absurd h2 (hnb b' (Nat.zero_le _) h1)
      rw [hlG, hlA] at hse
      simp only [Bool.false_eq_true, if_false] at hse
      have hfT := freeT_spec s.stops (k1 : Int) V F0
      rw [← hse] at hfT
      refine runs_exit ?_
      simp only [zT, zB, if_true, if_false, reduceIte, Nat.reduceEqDiff, Nat.succ_ne_zero, Nat.one_ne_zero, Nat.zero_ne_one]
      refine zL ?_
      refine runs_loopG_inv (fun m3 σ => ∃ a : Int, (200000 - a).toNat = m3 ∧ (0 ≤ a ∧ a ≤ 180000) ∧ FreeAt s.stops (k1 : Int) V a TV ∧ σ = ⟨[.any, .vl jr tj, .vl (os.map rI) to, .ref 0 0 0, .any, .any, .ref 1 0 0, .ref 9 0 0, I i, .ref 12 0 0, I a, I i1, .any, .any, .any, .any, .any, .any, .any, .any, .any, .any, .any, .any, .any, .any, .any, .any, .any, .any, .any, .any, .any, .any, .any, .any, .any, .any, .any, .any, .any, .any, .any, .any, .any, .any, .any, .any, .any, .any, .any, .any, .any, .any, .any, .any, .any, .any, .any, .any, .any, .any, .any, .any, .any, .any, .any, .any, .any, .any, .any, .any, .any, .any, .any, .any, .any, .any, .any, .any, .any, .any, .any, .any, .any, .any, .any, .any, .any, .any, .any, .any, .any, .any, .any, .any, .any, .any, .any, .any, .any, .any, .any, .any, .any, .any, .any, .any, .any, .any, .any, .any, .any, .any, .any, .any, .any, .any, .any, .any, .any, .any, .any, .any, .any, .any, .any, .any, .any, .any, .any, .any, .any, .any, .any, .any, .any, .any, .any, .any, .any, .any, .any, .any], [some (.row 3 [[I (mn : Int), c, t]]), some (.row 2 [[.nils, .nils]]), none, none, none, none, none, some (.row 1 (re.map rI)), none, some (.row 2 [[.sl 11 0 js.length true, .sl 7 0 js.length true]]), none, some (.row 1 ((rs.map encS).set X.toNat [.sl 14 0 (p1 + 1) false])), some (.row 4 [[I js[X.toNat].kind, I js[X.toNat].ready, I js[X.toNat].due, .vl (js[X.toNat].mins.map rI) tw]]), none, some (.row 1 (ac1.map rI))]⟩) (by simp [zC h68, zC h69, -lenA, HH1, zI, -List.map_set, -List.getElem?_map, -List.set_set, -List.length_set, HH2, ↓HH3, ↓hfr1, ↓hrj1, HH7] <;> first | exact ⟨rfl, rfl⟩ | rfl) (⟨F0, rfl, by omega, hfT, rfl⟩) ?_
      rintro m3 σ ⟨a, rfl, hab, hfa, rfl⟩
      have hs1 := hsta (k1 : Int) V a hV0 ⟨hab.1, by omega, by omega⟩
      have hNx := hnxt (k1 : Int) a
      rw [← hik1] at hs1 hNx
      refine zS ?_
      refine zS ?_
      refine runs_drw (by simp (maxSteps := 3000000) [zC h68, zC h69, -lenA, HH1, zI, -List.map_set, -List.getElem?_map, -List.set_set, -List.length_set, HH2, ↓HH3, ↓hfr1, ↓hrj1, HH7, hs1, hNx]; rfl) ?_
      simp only [zT, zB]
      refine runs_cond_split (x := s.stops.any (conf (k1 : Int) V a)) (by simp [hik1]) (fun hany => ?_) (fun hany => ?_)
      ·have hnk := next_keep hany hM100 hfa
       have hns := next_step hany hM100
       rw [← hik1] at hnk hns
       refine zK ?_
       simp only [zT, zB]
       refine zL ?_
       refine zR (zO (by simp [zC h68, zC h69, -lenA, HH1, zI, -List.map_set, -List.getElem?_map, -List.set_set, -List.length_set, HH2, ↓HH3, ↓hfr1, ↓hrj1, HH7, hs1, hNx]; rfl) ?_)
       simp only [zT, zB]
       exact ⟨(200000 - nextF s.stops i1 a).toNat, _, _, by omega, by simp [zC h68, zC h69, -lenA, HH1, zI, -List.map_set, -List.getElem?_map, -List.set_set, -List.length_set, HH2, ↓HH3, ↓hfr1, ↓hrj1, HH7, hs1, hNx] <;> first | exact ⟨rfl, rfl⟩ | rfl, nextF s.stops i1 a, rfl, by omega, by rw [← hik1]; exact hnk, rfl⟩
      ·have hfe := free_of hany
       have haT : TV = a := (hfe.unique hfa).symm
       subst haT
       have hnx1 : ac1 ++ [TV] = (RN.take (k1 + 1)) := by rw [hF1, ← hac1]
       have hnl1 : (ac1 ++ [TV]).length = p1 + 1 + 1 := by simp [hacl1]
       have hap1 : ac1.map rI ++ [[I TV]] = (ac1 ++ [TV]).map rI := by rw [List.map_append]; rfl
       generalize ac1 ++ [TV] = nx1 at *
       have hrx1 := fun n => rI_rb n 4 nx1
       have HH11 := zA hs1 (zA hNx (zA hap1 (zA hwTV hfn)))
       refine runs_exit ?_
       simp only [zT, zB, if_true, if_false, reduceIte, Nat.reduceEqDiff, Nat.succ_ne_zero, Nat.one_ne_zero, Nat.zero_ne_one]
       refine zS ?_
       refine runs_drw (by simp (maxSteps := 3000000) [zC h68, zC h69, -lenA, HH1, zI, -List.map_set, -List.getElem?_map, -List.set_set, -List.length_set, HH2, ↓HH3, ↓hfr1, ↓hrj1, HH7, ↓hrx1, HH11]; rfl) ?_
       simp only [zT, zB]
       refine zR (zO (by simp [zC h68, zC h69, -lenA, HH1, zI, -List.map_set, -List.getElem?_map, -List.set_set, -List.length_set, HH2, ↓HH3, ↓hfr1, ↓hrj1, HH7, ↓hrx1, HH11]; rfl) ?_)
       simp only [zT, zB]
       refine zR (zO (by simp [zC h68, zC h69, -lenA, HH1, zI, -List.map_set, -List.getElem?_map, -List.set_set, -List.length_set, HH2, ↓HH3, ↓hfr1, ↓hrj1, HH7, ↓hrx1, HH11]; rfl) ?_)
       simp only [zT, zB]
       exact ⟨mn - (k1 + 1), _, _, by omega, by simp [zC h68, zC h69, -lenA, HH1, zI, -List.map_set, -List.getElem?_map, -List.set_set, -List.length_set, HH2, ↓HH3, ↓hfr1, ↓hrj1, HH7, ↓hrx1, HH11] <;> first | exact ⟨rfl, rfl⟩ | rfl, k1 + 1, i1 + 1, by omega, rfl, by omega, .inr ⟨p1 + 1, nx1, by omega, hnx1, hnl1, rfl⟩⟩
    ·have hV0 := of_decide_eq_false hv
     have hTF : TV = F0 := by
      rw [hse]; unfold startF; rw [if_neg hV0]
     subst hTF
     have hnx1 : ac1 ++ [TV] = (RN.take (k1 + 1)) := by rw [hF1, ← hac1]
     have hnl1 : (ac1 ++ [TV]).length = p1 + 1 + 1 := by simp [hacl1]
     have hap1 : ac1.map rI ++ [[I TV]] = (ac1 ++ [TV]).map rI := by rw [List.map_append]; rfl
     generalize ac1 ++ [TV] = nx1 at *
     have hrx1 := fun n => rI_rb n 4 nx1
     refine zK ?_
     simp only [zT, zB]
     refine zS ?_
     refine runs_drw (by simp (maxSteps := 3000000) [zC h68, zC h69, -lenA, HH1, zI, -List.map_set, -List.getElem?_map, -List.set_set, -List.length_set, HH2, ↓HH3, ↓hfr1, ↓hrj1, HH7, hap1, ↓hrx1, hwTV, hfn]; rfl) ?_
     simp only [zT, zB]
     refine zR (zO (by simp [zC h68, zC h69, -lenA, HH1, zI, -List.map_set, -List.getElem?_map, -List.set_set, -List.length_set, HH2, ↓HH3, ↓hfr1, ↓hrj1, HH7, hap1, ↓hrx1, hwTV, hfn]; rfl) ?_)
     simp only [zT, zB]
     refine zR (zO (by simp [zC h68, zC h69, -lenA, HH1, zI, -List.map_set, -List.getElem?_map, -List.set_set, -List.length_set, HH2, ↓HH3, ↓hfr1, ↓hrj1, HH7, hap1, ↓hrx1, hwTV, hfn]; rfl) ?_)
     simp only [zT, zB]
     exact ⟨mn - (k1 + 1), _, _, by omega, by simp [zC h68, zC h69, -lenA, HH1, zI, -List.map_set, -List.getElem?_map, -List.set_set, -List.length_set, HH2, ↓HH3, ↓hfr1, ↓hrj1, HH7, hap1, ↓hrx1, hwTV, hfn] <;> first | exact ⟨rfl, rfl⟩ | rfl, k1 + 1, i1 + 1, by omega, rfl, by omega, .inr ⟨p1 + 1, nx1, by omega, hnx1, hnl1, rfl⟩⟩
   ·have hx1 := of_decide_eq_false hlt1
    have hkE1 : k1 = mn := by omega
    rw [hkE1] at hac1
    rw [List.take_of_length_le (by omega)] at hac1
    subst hac1
    have hRl1 : p1 + 1 = ac1.length := by omega
    rw [hkE1, hfrm]
    have hvr : ∀ h : Heap, h[13]? = some (some (.row 1 (ac1.map rI))) → True := fun _ _ => trivial
    have hst1 : (rs.map encS).set X.toNat [.vl (ac1.map rI) false] = (rs.set X.toNat ac1).map encS := by rw [List.map_set, encS_ne hRN0]
    have hrst := fun n => encS_rb n 4 (rs.set X.toNat ac1)
    refine runs_exit ?_
    simp only [zT, zB, if_true, if_false, reduceIte, Nat.reduceEqDiff, Nat.succ_ne_zero, Nat.one_ne_zero, Nat.zero_ne_one]
    refine runs_drw (by simp (maxSteps := 3000000) [zC h68, zC h69, -lenA, HH1, zI, -List.map_set, -List.getElem?_map, -List.set_set, -List.length_set, HH2, ↓HH3, tk1, hlac1, hacl1, hr31, ↓hfr1, ↓hrj1, ↓hst1, frz_mapI, ↓hrst]; rfl) ?_
    simp only [zT, zB]
    refine zR (zO (by simp [zC h68, zC h69, -lenA, HH1, zI, -List.map_set, -List.getElem?_map, -List.set_set, -List.length_set, HH2, ↓HH3, tk1, hlac1, hacl1, hr31, ↓hfr1, ↓hrj1, ↓hst1, frz_mapI, ↓hrst]; rfl) ?_)
    simp only [zT, zB]
    exact ⟨os.length - (n + 1), _, _, by omega, by simp [zC h68, zC h69, -lenA, HH1, zI, -List.map_set, -List.getElem?_map, -List.set_set, -List.length_set, HH2, ↓HH3, tk1, hlac1, hacl1, hr31, ↓hfr1, ↓hrj1, ↓hst1, frz_mapI, ↓hrst] <;> first | exact ⟨rfl, rfl⟩ | rfl, n + 1, i + 1, _, _, by omega, rfl, by omega, hstp.1.symm, hstp.2.symm, rfl⟩
 ·have hlt := of_decide_eq_false hlt
  have hnE : n = os.length := by omega
  subst hnE
  rw [(runN_all s js os).1] at hrs
  rw [(runN_all s js os).2] at hre
  subst hrs hre
  have tk1 : ((stsF s js os).map encS).take js.length = (stsF s js os).map encS := List.take_of_length_le (by simp [hrsl])
  have tk2 : ((endF s js os).map rI).take js.length = (endF s js os).map rI := List.take_of_length_le (by simp [hrel])
  have fz1 : ∀ H d, optAll (optAll (frz false H (d + 1))) ((stsF s js os).map encS) = some ((stsF s js os).map encS) := fun H d => frz_encS H d _
  have HH12 := zA hrsl (zA hrel (zA tk1 (zA tk2 fz1)))
  refine runs_exit ?_
  simp only [zT, zB, if_true, if_false, reduceIte, Nat.reduceEqDiff, Nat.succ_ne_zero, Nat.one_ne_zero, Nat.zero_ne_one]
  refine zS ?_
  refine zR (zO (by simp [zC h68, zC h69, -lenA, ↓erb1, ↓erb2, HH1, frz_mapI, HH12]; rfl) ?_)
  simp only [zT, zB]
  refine runs_ret ?_
  simp [zC h68, zC h69, -lenA, ↓erb1, ↓erb2, HH1, frz_mapI, HH12, trim]
end
section
attribute [local simp] callA calleeA lop loud
def ixI (n : Int) : List Int → Int → Int
  | [], _ => -1
  | x :: l, i => if n = x then i else ixI n l (i + 1)
theorem ixI_nn (n : Int) : ∀ (l : List Int) (i : Int), 0 ≤ i → (0 ≤ ixI n l i ↔ n ∈ l)
  | [], i, _ => by simp [ixI]
  | x :: l, i, h => by
    simp only [ixI, List.mem_cons]
    split
    · rename_i e; exact ⟨fun _ => .inl e, fun _ => h⟩
    · rename_i e; rw [ixI_nn n l (i + 1) (by omega)]; exact ⟨.inr, fun h => h.resolve_left e⟩
theorem ixI_step {n : Int} {xs : List Int} {k : Nat} (hk : k < xs.length) (i : Int) : ixI n (xs.drop k) i = if n = xs[k] then i else ixI n (xs.drop (k + 1)) (i + 1) := by
  rw [List.drop_eq_getElem_cons hk]; rfl
def oIx : List AVal → Option AVal
  | [x, .int .i64 n] => match dInts x with
    | some xs => if xs.length ≤ 1000 then some (I (ixI n xs 0)) else none
    | none => none
  | _ => none
def oCont : List AVal → Option AVal
  | [x, .int .i64 n] => match dInts x with
    | some xs => if xs.length ≤ 1000 then some (.bool (decide (n ∈ xs))) else none
    | none => none
  | _ => none
theorem a115 (P : Program) (T : Nat → Option CFn) (hT : T 115 = some c115) (x : AVal) (xs : List Int) (hx : dInts x = some xs) (hl : xs.length ≤ 1000) (n : Int) : Answers P T 115 [x, I n] [] fun v h => frz true h 5 v = some (I (ixI n xs 0)) := by
 have lx := dInts_len hx
 refine answers_of hT (orcF_none rfl) ?_
 simp only [oo, om, op, og, ci, cl, c115]
 refine zS ?_
 refine zR (zO (by simp [lx, -lenA]; rfl) ?_)
 simp only [zT, zB]
 refine zS ?_
 refine zS ?_
 refine zR (zO (by simp [lx, -lenA]; rfl) ?_)
 simp only [zT, zB]
 refine zL ?_
 refine runs_loop_inv (fun m σ => ∃ (k : Nat) (i : Int), i = k ∧ xs.length - k = m ∧ k ≤ xs.length ∧ ixI n (xs.drop k) i = ixI n xs 0 ∧ σ = ⟨[x, I n, .any, .any, .any, .any, .any, I xs.length, I i, .any, .any, .any, .any, .any, .any, .any, .any, .any, .any], []⟩) ?_ (xs.length - 0) _ ⟨0, 0, rfl, rfl, Nat.zero_le _, rfl, by simp⟩
 rintro m σ ⟨k, i, hik, rfl, hkl, hR, rfl⟩
 refine zS ?_
 refine zR (zO (by simp [lx, -lenA]; rfl) ?_)
 simp only [zT, zB]
 refine zS ?_
 refine runs_cond_split (x := decide (i < (xs.length : Int))) (by simp) (fun hlt => ?_) (fun hlt => ?_)
 ·have hlt := of_decide_eq_true hlt
  have hk0 : k < xs.length := by omega
  obtain ⟨tt, rfl⟩ := dInts_get hx hk0
  have hi0 : 0 ≤ i := by omega
  have htn : i.toNat = k := by omega
  have hwi : W .i64 (i + 1) = i + 1 := W_small (by omega)
  rw [ixI_step hk0] at hR
  generalize hs : xs[k] = s at *
  have HH1 := zA lx (zA hi0 (zA htn (zA hk0 (zA hs hwi))))
  refine zK ?_
  simp only [zT, zB]
  refine zS ?_
  refine zL ?_
  refine zS ?_
  refine zR (zO (by simp [-lenA, zI, HH1]; rfl) ?_)
  simp only [zT, zB]
  refine zS ?_
  refine zR (zO (by simp [-lenA, zI, HH1]; rfl) ?_)
  simp only [zT, zB]
  refine runs_cond_split (x := (n == s)) (by simp) (fun he => ?_) (fun he => ?_)
  ·have he : n = s := by simpa using he
   rw [if_pos he] at hR
   rw [← hR]
   refine zS ?_
   refine zR (zO (by simp [-lenA, zI, HH1]; rfl) ?_)
   simp only [zT, zB]
   refine runs_ret ?_
   simp [-lenA, zI, HH1]
  ·have he : ¬ n = s := by simpa using he
   rw [if_neg he] at hR
   refine zK ?_
   simp only [zT, zB]
   refine zR (zO (by simp [-lenA, zI, HH1]; rfl) ?_)
   simp only [zT, zB]
   exact ⟨xs.length - (k + 1), by omega, k + 1, i + 1, by omega, rfl, by omega, hR, by simp [-lenA, zI, HH1]⟩
 ·have hlt := of_decide_eq_false hlt
  obtain rfl : k = xs.length := by omega
  rw [List.drop_length] at hR
  rw [← hR]
  refine runs_exit ?_
  simp only [zT, zB, if_true, if_false, reduceIte, Nat.reduceEqDiff, Nat.succ_ne_zero, Nat.one_ne_zero, Nat.zero_ne_one]
  refine zS ?_
  refine zR (zO (by simp [lx, -lenA]; rfl) ?_)
  simp only [zT, zB]
  refine runs_ret ?_
  simp [lx, -lenA, ixI]
noncomputable def FIX1 : Nat → Option CFn := upd T 115 true (oIx)
theorem FIX1_ok : TabOk Tryz.prog GG FIX1 := tab_add mixed T_ok fun args v ho => by
  unfold oIx at ho; split at ho <;> (try simp only [reduceCtorEq] at ho)
  rename_i x n
  split at ho <;> (try simp only [reduceCtorEq] at ho)
  rename_i xs hx
  split at ho <;> (try simp only [reduceCtorEq] at ho)
  rename_i hl
  simp only [Option.some.injEq] at ho
  subst ho
  exact a115 Tryz.prog T rfl  x xs hx hl n
theorem a84 (P : Program) (T : Nat → Option CFn) (hT : T 84 = some c84) (h115 : T 115 = some { c115 with frsh := true, orc := oIx }) (x : AVal) (xs : List Int) (hx : dInts x = some xs) (hl : xs.length ≤ 1000) (n : Int) : Answers P T 84 [x, I n] [] fun v h => frz true h 5 v = some (.bool (decide (n ∈ xs))) := by
 have fx := fun H d => dInts_frz hx H d
 have hix : oIx [x, I n] = some (I (ixI n xs 0)) := by simp only [oIx, hx]; rw [if_pos hl]
 have hnn : (0 ≤ ixI n xs 0) ↔ n ∈ xs := ixI_nn n xs 0 (Int.le_refl _)
 refine answers_of hT (orcF_none rfl) ?_
 simp only [oo, om, op, og, ci, cl, c84]
 refine zS ?_
 refine zR (zO (by simp [zC h115, h115, fx, hix, hnn]; rfl) ?_)
 simp only [zT, zB]
 refine zS ?_
 refine zR (zO (by simp [zC h115, h115, fx, hix, hnn]; rfl) ?_)
 simp only [zT, zB]
 refine runs_ret ?_
 simp [zC h115, h115, fx, hix, hnn]
noncomputable def FIX : Nat → Option CFn := upd FIX1 84 true (oCont)
theorem FIX_ok : TabOk Tryz.prog GG FIX := tab_add mixed FIX1_ok fun args v ho => by
  unfold oCont at ho; split at ho <;> (try simp only [reduceCtorEq] at ho)
  rename_i x n
  split at ho <;> (try simp only [reduceCtorEq] at ho)
  rename_i xs hx
  split at ho <;> (try simp only [reduceCtorEq] at ho)
  rename_i hl
  simp only [Option.some.injEq] at ho
  subst ho
  exact a84 Tryz.prog FIX1 rfl rfl x xs hx hl n
theorem tab_good {P : Program} {G : Nat → Option (List AVal)} {T : Nat → Option CFn} (hT : TabOk P G T) {f : Nat} {c : CFn} (hf : T f = some c) : ∀ args v, c.orc args = some v → OrcGood P G c.frsh f args v := fun args v h => by
  obtain ⟨_, _, _, _, _, _, _, _, h7, _⟩ := hT f c hf
  exact h7 args v h
theorem cont_good : ∀ args v, oCont args = some v → OrcGood Tryz.prog GG true 84 args v := tab_good (f := 84) (c := { c84 with frsh := true, orc := oCont }) FIX_ok rfl
end
section
attribute [local simp] callA calleeA lim lop loud rbB_none rbB_row
theorem any_take_no {α : Type} {f : α → Bool} {l : List α} {n : Nat} (h : (l.take n).any f = false) (hl : l.length ≤ n) : ∀ x ∈ l, f x = false := by
  rw [List.take_of_length_le hl, List.any_eq_false] at h
  intro x hx
  simpa using h x hx
theorem large_no {s : FShop} {js : List FJob} {most : Int} (h : largeB s js most = false) : SizeOk s js ∧ (s.chg.length ≤ 1000 ∧ (∀ x ∈ s.chg, x.length ≤ 1000) ∧ s.stops.length ≤ 1000) ∧ (js.length ≤ 1000 ∧ ∀ x ∈ js, x.mins.length ≤ 1000) ∧ ¬ (most < js.length ∧ js.length ≤ 6) ∧ s.stops.length ≤ 20 := by
  simp only [largeB, Bool.or_eq_false_iff, decide_eq_false_iff_not, Bool.and_eq_false_iff] at h
  obtain ⟨⟨⟨⟨⟨h1, h2⟩, h3⟩, h4⟩, h5⟩, h6⟩ := h
  have g1 := any_take_no h1 (by omega)
  have g2 := any_take_no h2 (by omega)
  simp only [decide_eq_false_iff_not] at g1 g2
  refine ⟨⟨by omega, fun l hl => by have := g1 l hl; omega, by omega, by omega, fun j hj => by have := g2 j hj; omega⟩, ⟨by omega, fun l hl => by have := g1 l hl; omega, by omega⟩, ⟨by omega, fun l hl => by have := g2 l hl; omega⟩, fun ⟨h7, h8⟩ => ?_, by omega⟩
  rcases h6 with h6 | h6
  · exact h6 h7
  · exact h6 h8
open Classical in
noncomputable def oRunR : List AVal → Option AVal
  | [.agg [.int .i64 m, c, t], j, o] => match dInts2 c, dStops t, dJobs j, dInts o with
    | some cs, some ts, some js, some os => if RunCtx ⟨m, cs, ts⟩ js os then some (.agg [.vl ((stsF ⟨m, cs, ts⟩ js os).map encS) true, .vl ((endF ⟨m, cs, ts⟩ js os).map rI) true]) else none
    | _, _, _, _ => none
  | _ => none
theorem runR_eq {s : FShop} {js : List FJob} {c t j o : AVal} {os : List Int} (hc : dInts2 c = some s.chg) (ht : dStops t = some s.stops) (hj : dJobs j = some js) (ho : dInts o = some os) (h : RunCtx s js os) : oRunR [.agg [I s.mach, c, t], j, o] = some (.agg [.vl ((stsF s js os).map encS) true, .vl ((endF s js os).map rI) true]) := by
  simp only [oRunR, hc, ht, hj, ho]
  rw [if_pos h]
noncomputable def FW1 : Nat → Option CFn := updG FW 27 [(462, [.cell 7 0]), (4046, [.elem 7 0 2 8])] []
theorem FW1_ok : TabOk Tryz.prog GG FW1 := tab_updG FW_ok
theorem runR_good : ∀ args v, oRunR args = some v → OrcGood Tryz.prog GG false 27 args v := fun args v ho => by
  unfold oRunR at ho; split at ho <;> (try simp only [reduceCtorEq] at ho)
  rename_i m c t j o
  split at ho <;> (try simp only [reduceCtorEq] at ho)
  rename_i cs ts js os hc ht hj ho2
  split at ho <;> (try simp only [reduceCtorEq] at ho)
  rename_i hg
  simp only [Option.some.injEq] at ho
  subst ho
  exact orc_of mixed FW1_ok (a27 Tryz.prog FW1 rfl rfl rfl ⟨m, cs, ts⟩ js c t j hc ht hj o os ho2 hg)
noncomputable def FR1 : Nat → Option CFn := upd FT 14 true oLarge
theorem FR1_ok : TabOk Tryz.prog GG FR1 := tab_upd FT_ok (tab_good (f := 14) (c := { c14 with frsh := true, orc := oLarge }) FU_ok rfl)
noncomputable def FR2 : Nat → Option CFn := upd FR1 21 true oSame
theorem FR2_ok : TabOk Tryz.prog GG FR2 := tab_upd FR1_ok (tab_good (f := 21) (c := { c21 with frsh := true, orc := oSame }) FU3_ok rfl)
noncomputable def FR3 : Nat → Option CFn := upd FR2 22 true oEqual
theorem FR3_ok : TabOk Tryz.prog GG FR3 := tab_upd FR2_ok (tab_good (f := 22) (c := { c22 with frsh := true, orc := oEqual }) FU3_ok rfl)
noncomputable def FR4 : Nat → Option CFn := upd FR3 23 true oIntsEq
theorem FR4_ok : TabOk Tryz.prog GG FR4 := tab_upd FR3_ok (tab_good (f := 23) (c := { c23 with frsh := true, orc := oIntsEq }) FU2_ok rfl)
noncomputable def FR5 : Nat → Option CFn := upd FR4 24 true oCheck
theorem FR5_ok : TabOk Tryz.prog GG FR5 := tab_upd FR4_ok (tab_good (f := 24) (c := { c24 with frsh := true, orc := oCheck }) FV_ok rfl)
noncomputable def FR6 : Nat → Option CFn := FR5
theorem FR6_ok : TabOk Tryz.prog GG FR6 := FR5_ok
noncomputable def FR7 : Nat → Option CFn := upd FR6 39 true oIn
theorem FR7_ok : TabOk Tryz.prog GG FR7 := tab_upd FR6_ok (tab_good (f := 39) (c := { c39 with frsh := true, orc := oIn }) FU1_ok rfl)
noncomputable def FR8 : Nat → Option CFn := upd FR7 36 true oStopR
theorem FR8_ok : TabOk Tryz.prog GG FR8 := tab_upd FR7_ok (tab_good (f := 36) (c := { c36 with frsh := true, orc := oStopR }) FV1_ok rfl)
noncomputable def FR : Nat → Option CFn := upd FR8 27 false oRunR
theorem FR_ok : TabOk Tryz.prog GG FR := tab_upd FR8_ok runR_good
end
end
end Go.Proofs.YtjjapdagllclkaaGreat.Tab
namespace Go.Proofs.YtjjapdagllclkaaGreat.Tab
open Go Go.Abs Go.Proofs
set_option linter.unusedSimpArgs false
set_option linter.unusedVariables false
abbrev FEv := Int × Int
def eLe (a b : FEv) : Prop := a.1 < b.1 ∨ (a.1 = b.1 ∧ a.2 ≤ b.2)
instance (a b : FEv) : Decidable (eLe a b) := by unfold eLe; infer_instance
end Go.Proofs.YtjjapdagllclkaaGreat.Tab
namespace Go.Proofs.YtjjapdagllclkaaGreat.Tab
open Go Go.Abs Go.Proofs
set_option maxRecDepth 100000
set_option maxHeartbeats 4000000
set_option linter.unusedSimpArgs false
set_option linter.unusedVariables false
section
attribute [local simp] frz_int frz_bool frz_vl frz_pv frz_agg frz_tup frz_fn frz_ref frz_sl frz_nils optAll orcF rb_int rb_bool rb_agg rb_tup rb_int' rb_bool' rb_vl rb_pv rb_yld rb_nilf rb_nilp rb_nils rb_any rb_und rb_ref rb_sl rb_fn slE chunk fillA evParts evParts3 putAt List.range_succ List.range_zero List.range'_succ List.range'_zero runX_nil' unary_not evalS_pure evAll_nil evAll_cons runX_cons stepX wantedA dop CV.ev putK_eq setK_eq appK_eq fA_eq fI_eq fN_eq fRow_eq fRows_eq nth_eq Out.v putT List.replicate_succ zT zB arI pointee Abs.rowAt ldRow allV toV toC ofV ofC Builtin.min_ Builtin.min2 Builtin.max_ Builtin.max2 min_if max_if resA tupA kill trim_self trim_len trim_emp trim_nil lenA
attribute [local simp] runD_nil' runD_cons' stepD actK_eq actD clash disj masks holes maskH unmaskH diffs news eqB allB eqA ldRowN wrote toCs ofCs stA rowsV_vl rowsV_nils rowsOf dI1 dI2 dI3 dI5 elt
attribute [local simp] st_any st_und st_agg st_tup st_bool st_int st_nilp st_ref st_pv st_nils st_sl st_vl st_nilm st_mp st_fn st_nilf st_yld co_any co_und co_agg co_tup co_bool co_int co_nilp co_ref co_pv co_nils co_sl co_vl co_nilm co_mp co_fn co_nilf co_yld
section
attribute [local simp] above backA backA1 callA calleeA flatAt flatBlk frNB_none frNB_row frN_agg frN_bool frN_int frN_nils frN_ref frN_sl frN_tup frN_vl frameE lop loud norm posOf ptrs putH rbB_none rbB_row renA setH
theorem W_e0 : W .i64 0 = 0 := by decide
theorem W_e1 : W .i64 1 = 1 := by decide
theorem W_e2 : W .i64 2 = 2 := by decide
attribute [local simp] W_e0 W_e1 W_e2
end
section
attribute [local simp] Function.comp_def List.all_append List.all_map above callA calleeA frNB_none frNB_row frN_agg frN_bool frN_int frN_nils frN_ref frN_sl frN_tup frN_vl frzG gather getR lim lop loud lowA lowR norm okG putG putR rbB_none rbB_row resG rowAt takeG
noncomputable def lateR (s : FShop) (js : List FJob) (os : List Int) : Int × Int × Int := (((lateL (endF s js os) js js.length).length : Int), (latF (endF s js os) js js.length).1, (latF (endF s js os) js js.length).2)
theorem a26 (P : Program) (T : Nat → Option CFn) (hT : T 26 = some c26) (h27 : T 27 = some { c27 with frsh := false, orc := oRunR }) (s : FShop) (js : List FJob) (c t j : AVal) (hc : dInts2 c = some s.chg) (ht : dStops t = some s.stops) (hj : dJobs j = some js) (o : AVal) (os : List Int) (ho : dInts o = some os) (hctx : RunCtx s js os) : Answers P T 26 [.agg [I s.mach, c, t], j, o] [] fun v h => frz true h 5 v = some (.tup [I (lateR s js os).1, I (lateR s js os).2.1, I (lateR s js os).2.2]) := by
 have fc := fun H d => dInts2_frz hc H d
 have ft := fun H d => dStops_frz ht H d
 have fj := fun H d => dJobs_frz hj H d
 have rc := fun n d => dInts2_rb hc n d
 have rt := fun n d => dStops_rb ht n d
 have rj := fun n d => dJobs_rb hj n d
 have lc := dInts2_len hc
 have lt := dStops_len ht
 have lj := dJobs_len hj
 obtain ⟨cc1, cc2⟩ := dInts2_cells hc
 obtain ⟨ct1, ct2⟩ := dStops_cells ht
 obtain ⟨cj1, cj2⟩ := dJobs_cells hj
 have fo := fun H d => dInts_frz ho H d
 have ro := fun n d => dInts_rb ho n d
 have lo := dInts_len ho
 obtain ⟨co1, co2⟩ := dInts_cells ho
 have hrr := runR_eq hc ht hj ho hctx
 have hTq : lateR s js os = (((lateL (endF s js os) js js.length).length : Int), (latF (endF s js os) js js.length).1, (latF (endF s js os) js js.length).2) := rfl
 rw [hTq]
 have hE : ∀ e ∈ endF s js os, 0 ≤ e ∧ e ≤ 170000 := (runF_ok hctx.ok hctx.len6 hctx.mem).en
 have hEl := endF_len hctx
 have hsh := hctx.ok
 have hn6 := hsh.njob
 generalize stsF s js os = S at *
 generalize endF s js os = E at *
 have rz1 := fun n => encS_rb n 4 S
 have rz2 := fun n => rI_rb n 4 E
 refine answers_of hT (orcF_none rfl) ?_
 simp only [oo, om, op, og, ci, cl, c26]
 have HH1 := zA h27 (zA fc (zA ft (zA fj (zA rc (zA rt (zA rj (zA lc (zA lt (zA lj (zA cc1 (zA cc2 (zA ct1 (zA ct2 (zA cj1 (zA cj2 (zA fo (zA ro (zA lo (zA co1 (zA co2 hrr))))))))))))))))))))
 refine zS ?_
 refine zR (zO (by simp [zC h27, -lenA, ↓rz1, ↓rz2, HH1]; rfl) ?_)
 simp only [zT, zB]
 refine zS ?_
 refine zR (zO (by simp [zC h27, -lenA, ↓rz1, ↓rz2, HH1]; rfl) ?_)
 simp only [zT, zB]
 refine zS ?_
 refine zS ?_
 refine zR (zO (by simp [zC h27, -lenA, ↓rz1, ↓rz2, HH1]; rfl) ?_)
 simp only [zT, zB]
 refine zL ?_
 refine runs_loop_inv (fun m σ => ∃ (p : Nat) (h1 q1 q2 q3 : Int), h1 = p ∧ js.length - p = m ∧ p ≤ js.length ∧ q1 = ((lateL E js p).length : Int) ∧ q2 = (latF E js p).1 ∧ q3 = (latF E js p).2 ∧ σ = ⟨[.any, j, .any, .any, .any, .any, .any, .any, .any, I q1, I q2, I q3, .ref 1 0 0, I h1, .any, .any, .any, .any, .any, .any, .any, .any, .any, .any, .any, .any, .any, .any, .any, .any, .any, .any, .any, .any, .any, .any, .any, .any, .any, .any, .any, .any, .any, .any, .any, .any, .any, .any, .any, .any, .any, .any, .any, .any, .any, .any, .any, .any, .any, .any], [some (.row 3 [[I s.mach, c, t]]), some (.row 2 [[.vl (S.map encS) true, .vl (E.map rI) true]])]⟩) ?_ (js.length - 0) _ ⟨0, 0, 0, 0, 0, rfl, rfl, Nat.zero_le _, rfl, rfl, rfl, by simp⟩
 rintro m σ ⟨p, h1, q1, q2, q3, hhp, rfl, hpl, hq1, hq2, hq3, rfl⟩
 refine zS ?_
 refine zS ?_
 refine zR (zO (by simp [zC h27, -lenA, ↓rz1, ↓rz2, HH1]; rfl) ?_)
 simp only [zT, zB]
 refine runs_cond_split (x := decide (h1 < (js.length : Int))) (by simp) (fun hlt3 => ?_) (fun hlt3 => ?_)
 ·have hlt3 := of_decide_eq_true hlt3
  have hp0 : p < js.length := by omega
  have hpE : p < E.length := by omega
  have hh0 : 0 ≤ h1 := by omega
  have hhn : h1.toNat = p := by omega
  have hhlo : h1 < (js.length : Int) := by omega
  have hhlE : h1 < (E.length : Int) := by omega
  have hwh : W .i64 (h1 + 1) = h1 + 1 := W_small (by omega)
  have hjb := hsh.job _ (List.getElem_mem hp0)
  have hEp := hE _ (List.getElem_mem hpE)
  have hlb := latF_bd (E := E) (js := js) (fun e he => by have := hE e he; omega) (fun j hj => (hsh.job j hj).2.2.1.1) p (by omega) (by omega)
  have hll2 := lateL_len E js p
  have hEA : endAt E p = E[p] := by unfold endAt; rw [List.getD_eq_getElem?_getD, List.getElem?_eq_getElem hpE]; rfl
  have hDA : dueAt js p = js[p].due := by unfold dueAt; rw [List.getD_eq_getElem?_getD, List.getElem?_eq_getElem hp0]; rfl
  have hlF : latF E js (p + 1) = ((latF E js p).1 + max 0 (endAt E p - dueAt js p), max (latF E js p).2 (endAt E p)) := rfl
  have hlL : lateL E js (p + 1) = lateL E js p ++ if dueAt js p < endAt E p then [(p : Int)] else [] := rfl
  rw [hEA, hDA] at hlF hlL
  clear hEA hDA
  obtain ⟨jr, tj, wv, rfl, hr1, hr2, hwv⟩ := dJobs_get hj hp0
  have hkr : p < jr.length := by omega
  have hr4 : ∀ h, jr[p]'h = [I js[p].kind, I js[p].ready, I js[p].due, wv] := fun h => by rw [List.getElem?_eq_getElem h] at hr2; exact Option.some.inj hr2
  have rw5 := fun n d => dInts_rb hwv n d
  have fw5 := fun H d => dInts_frz hwv H d
  have lw5 := dInts_len hwv
  obtain ⟨cw1, cw2⟩ := dInts_cells hwv
  have he1 : (E.map rI)[p]? = some [I E[p]] := by rw [List.getElem?_map, List.getElem?_eq_getElem hpE]; rfl
  have he2 : ∀ (h : p < (E.map rI).length), (E.map rI)[p]'h = [I E[p]] := fun h => by rw [List.getElem_map]; rfl
  generalize hV : E[p] = V at *
  have hdu := hjb.2.2.1
  generalize hD : js[p].due = D at *
  have hlL2 : ((lateL E js (p + 1)).length : Int) = ((lateL E js p).length : Int) + if D < V then 1 else 0 := by rw [hlL]; split <;> simp
  rw [← hq1] at hlL2
  rw [← hq2, ← hq3] at hlF hlb
  have hq1b : 0 ≤ q1 ∧ q1 ≤ 100 := by omega
  have w1 : W .i64 (q1 + 1) = q1 + 1 := W_fit (by omega)
  have w2 : W .i64 (V - D) = V - D := W_fit (by omega)
  have w3 : W .i64 (q2 + (V - D)) = q2 + (V - D) := W_fit (by omega)
  have HH2 := zA hp0 (zA hpE (zA hh0 (zA hhn (zA hhlo (zA hhlE (zA hwh (zA hV (zA hD (zA w1 (zA w2 (zA w3 (zA he1 (zA he2 (zA hkr (zA hr2 (zA hr4 (zA rw5 (zA fw5 (zA lw5 (zA cw1 cw2))))))))))))))))))))
  refine zK ?_
  simp only [zT, zB]
  refine zS ?_
  refine zL ?_
  refine zS ?_
  refine zS ?_
  refine runs_drw (by simp (maxSteps := 3000000) [zC h27, -lenA, ↓rz1, ↓rz2, HH1, HH2]; rfl) ?_
  simp only [zT, zB]
  refine runs_cond_split (x := decide (D < V)) (by simp) (fun hgt => ?_) (fun hgt => ?_)
  ·have hl3 := of_decide_eq_true hgt
   rw [if_pos hl3] at hlL2
   refine zS ?_
   refine zR (zO (by simp [zC h27, -lenA, ↓rz1, ↓rz2, HH1, HH2]; rfl) ?_)
   simp only [zT, zB]
   refine runs_drw (by simp (maxSteps := 3000000) [zC h27, -lenA, ↓rz1, ↓rz2, HH1, HH2]; rfl) ?_
   simp only [zT, zB]
   refine zR (zO (by simp [zC h27, -lenA, ↓rz1, ↓rz2, HH1, HH2]; rfl) ?_)
   simp only [zT, zB]
   refine zR (zO (by simp [zC h27, -lenA, ↓rz1, ↓rz2, HH1, HH2]; rfl) ?_)
   simp only [zT, zB]
   exact ⟨js.length - (p + 1), by omega, p + 1, h1 + 1, q1 + 1, q2 + (V - D), max q3 V, by omega, rfl, by omega, hlL2.symm, by rw [hlF]; show _ = q2 + max 0 (V - D); omega, by rw [hlF], by simp [trim, zC h27, -lenA, ↓rz1, ↓rz2, HH1, HH2]⟩
  ·have hl3 := of_decide_eq_false hgt
   rw [if_neg hl3, Int.add_zero] at hlL2
   refine zK ?_
   simp only [zT, zB]
   refine zR (zO (by simp [zC h27, -lenA, ↓rz1, ↓rz2, HH1, HH2]; rfl) ?_)
   simp only [zT, zB]
   refine zR (zO (by simp [zC h27, -lenA, ↓rz1, ↓rz2, HH1, HH2]; rfl) ?_)
   simp only [zT, zB]
   exact ⟨js.length - (p + 1), by omega, p + 1, h1 + 1, q1, q2, max q3 V, by omega, rfl, by omega, hlL2.symm, by rw [hlF]; show _ = q2 + max 0 (V - D); omega, by rw [hlF], by simp [trim, zC h27, -lenA, ↓rz1, ↓rz2, HH1, HH2]⟩
 ·have hlt3 := of_decide_eq_false hlt3
  have hpe : p = js.length := by omega
  subst hpe
  rw [← hq1, ← hq2, ← hq3]
  refine runs_exit ?_
  simp only [zT, zB, if_true, if_false, reduceIte, Nat.reduceEqDiff, Nat.succ_ne_zero, Nat.one_ne_zero, Nat.zero_ne_one]
  refine zS ?_
  refine zR (zO (by simp [zC h27, -lenA, ↓rz1, ↓rz2, HH1]; rfl) ?_)
  simp only [zT, zB]
  refine runs_ret ?_
  simp [zC h27, -lenA, ↓rz1, ↓rz2, HH1, trim]
open Classical in
noncomputable def oLateR : List AVal → Option AVal
  | [.agg [.int .i64 m, c, t], j, o] => match dInts2 c, dStops t, dJobs j, dInts o with
    | some cs, some ts, some js, some os => if RunCtx ⟨m, cs, ts⟩ js os then some (.tup [I (lateR ⟨m, cs, ts⟩ js os).1, I (lateR ⟨m, cs, ts⟩ js os).2.1, I (lateR ⟨m, cs, ts⟩ js os).2.2]) else none
    | _, _, _, _ => none
  | _ => none
theorem lateR_eq {s : FShop} {js : List FJob} {c t j o : AVal} {os : List Int} (hc : dInts2 c = some s.chg) (ht : dStops t = some s.stops) (hj : dJobs j = some js) (ho : dInts o = some os) (h : RunCtx s js os) : oLateR [.agg [I s.mach, c, t], j, o] = some (.tup [I (lateR s js os).1, I (lateR s js os).2.1, I (lateR s js os).2.2]) := by
  simp only [oLateR, hc, ht, hj, ho]
  rw [if_pos h]
noncomputable def FRL : Nat → Option CFn := upd FR 26 true (oLateR)
theorem FRL_ok : TabOk Tryz.prog GG FRL := tab_add mixed FR_ok fun args v ho => by
  unfold oLateR at ho; split at ho <;> (try simp only [reduceCtorEq] at ho)
  rename_i m c t j o
  split at ho <;> (try simp only [reduceCtorEq] at ho)
  rename_i cs ts js os hc ht hj ho2
  split at ho <;> (try simp only [reduceCtorEq] at ho)
  rename_i hg
  simp only [Option.some.injEq] at ho
  subst ho
  exact a26 Tryz.prog FR rfl rfl ⟨m, cs, ts⟩ js c t j hc ht hj o os ho2 hg
end
end
end Go.Proofs.YtjjapdagllclkaaGreat.Tab
namespace Go.Proofs.YtjjapdagllclkaaGreat.Tab
open Go Go.Abs Go.Proofs
set_option linter.unusedSimpArgs false
set_option linter.unusedVariables false
def LLe (l l' : FLine) : Prop := ∀ k, (lAt l k).2 = (lAt l' k).2 ∧ (lAt l k).1 ≤ (lAt l' k).1
theorem LLe.refl (l : FLine) : LLe l l := fun k => ⟨rfl, Int.le_refl _⟩
theorem LLe.set {l l' : FLine} (h : LLe l l') {k : Nat} (hk : k < l.length) (hk' : k < l'.length) {d d' : Int} (hd : d ≤ d') (x : Int × Bool) : LLe (l.set k (d, x)) (l'.set k (d', x)) := fun j => by
 by_cases e : j = k
 ·subst e
  rw [lAt_set hk, lAt_set hk']; exact ⟨rfl, hd⟩
 ·rw [lAt_set_ne (fun h => e h.symm), lAt_set_ne (fun h => e h.symm)]; exact h j
def MLe : List Int → List Int → Prop
 | [], [] => True
 | n :: ns, m :: ms => (n ≤ m ∧ (0 < n ↔ 0 < m)) ∧ MLe ns ms
 | _, _ => False
theorem MLe.refl : ∀ ns, MLe ns ns
 | [] => trivial
 | n :: ns => ⟨⟨Int.le_refl _, Iff.rfl⟩, MLe.refl ns⟩
theorem getD_self {α : Type} {l : List α} {i : Nat} {x d : α} (h : i < l.length) : (l.set i x).getD i d = x := by
 rw [List.getD_eq_getElem?_getD, List.getElem?_set_self h]; rfl
theorem getD_ne {α : Type} {l : List α} {i j : Nat} {x d : α} (h : i ≠ j) : (l.set i x).getD j d = l.getD j d := by
 rw [List.getD_eq_getElem?_getD, List.getElem?_set_ne h, List.getD_eq_getElem?_getD]
structure JLe (j j' : FJob) : Prop where
 kind : j'.kind = j.kind
 ready : j.ready ≤ j'.ready
 mins : MLe j.mins j'.mins
theorem JLe.refl (j : FJob) : JLe j j := ⟨rfl, Int.le_refl _, MLe.refl _⟩
end Go.Proofs.YtjjapdagllclkaaGreat.Tab
namespace Go.Proofs.YtjjapdagllclkaaGreat.Tab
open Go Go.Abs Go.Proofs
structure FBest where
 order : List Int
 sum : Int
 last : Int
 found : Bool
def bz : FBest := ⟨[], 0, 0, false⟩
def lexB (a b c d : Int) : Bool := decide (a < c) || (decide (a = c) && decide (b < d))
def betterB (b : FBest) (o : List Int) (x : Int × Int) : FBest := if (!b.found || lexB x.1 x.2 b.sum b.last) = true then ⟨o, x.1, x.2, true⟩ else b
noncomputable def latO (s : FShop) (js : List FJob) (now : List Int) : Int × Int := latF (runF s js now).ends js js.length
noncomputable def findF (s : FShop) (js : List FJob) : Nat → List Int → FBest → FBest
 | 0, now, b => betterB b now (latO s js now)
 | d + 1, now, b => (List.range js.length).foldl (fun b (i : Nat) => if (i : Int) ∈ now then b else findF s js d (now ++ [(i : Int)]) b) b
def worseB (b : FBest) (x : Int × Int) : Bool := b.found && !lexB x.1 x.2 b.sum b.last
noncomputable def tryF (s : FShop) (js : List FJob) : Nat → List Int → FBest → FBest
 | 0, now, b => if worseB b (latO s js now) = true then b else ⟨now, (latO s js now).1, (latO s js now).2, true⟩
 | d + 1, now, b => if worseB b (latO s js now) = true then b else (List.range js.length).foldl (fun b (i : Nat) => if (i : Int) ∈ now then b else tryF s js d (now ++ [(i : Int)]) b) b
theorem latF_set {E : List Int} {js : List FJob} {i : Nat} (hi : i < E.length) (h0 : endAt E i = 0) {e : Int} (he : 0 ≤ e) (hd : ∀ k, 0 ≤ dueAt js k) : ∀ k, latF (E.set i e) js k = if i < k then ((latF E js k).1 + max 0 (e - dueAt js i), max (latF E js k).2 e) else latF E js k
 | 0 => by simp [latF]
 | k + 1 => by
  simp only [latF]
  rw [latF_set hi h0 he hd k]
  have hdk := hd k
  by_cases h : i < k
  ·have e1 : endAt (E.set i e) k = endAt E k := getD_ne (by omega)
   rw [if_pos h, if_pos (by omega), e1, Prod.mk.injEq]
   exact ⟨by omega, by omega⟩
  ·by_cases h2 : i = k
   ·subst h2
    have e1 : endAt (E.set i e) i = e := getD_self hi
    rw [if_neg h, if_pos (by omega), e1, h0, Prod.mk.injEq]
    exact ⟨by omega, by omega⟩
   ·have e1 : endAt (E.set i e) k = endAt E k := getD_ne h2
    rw [if_neg h, if_neg (by omega), e1]
theorem ends_zero {s : FShop} {js : List FJob} {k : Nat} : ∀ (os : List Int) (r : FRun), endAt r.ends k = 0 → (k : Int) ∉ os → (∀ i ∈ os, 0 ≤ i) → endAt (os.foldl (runStep s js) r).ends k = 0
 | [], _, h, _, _ => h
 | i :: os, r, h, h1, h2 => by
  have hi := h2 i (by simp)
  have hne : i.toNat ≠ k := fun e => h1 (by rw [← e, Int.toNat_of_nonneg hi]; simp)
  refine ends_zero os _ ?_ (fun hm => h1 (by simp [hm])) fun j hj => h2 j (by simp [hj])
  show endAt (r.ends.set i.toNat _) k = 0
  rw [show endAt (r.ends.set i.toNat (passF s r.line (js.getD i.toNat default)).2.1) k = endAt r.ends k from getD_ne hne, h]
theorem runF_snoc (s : FShop) (js : List FJob) (now : List Int) (i : Int) : runF s js (now ++ [i]) = runStep s js (runF s js now) i := by
 unfold runF; rw [List.foldl_append]; rfl
structure NowOk (js : List FJob) (now : List Int) (d : Nat) : Prop where
 nodup : now.Nodup
 mem : ∀ i ∈ now, 0 ≤ i ∧ i < js.length
 len : now.length + d = js.length
theorem NowOk.nil (js : List FJob) : NowOk js [] js.length := ⟨List.nodup_nil, fun _ h => by simp at h, by simp⟩
theorem NowOk.snoc {js : List FJob} {now : List Int} {d i : Nat} (h : NowOk js now (d + 1)) (hi : i < js.length) (hn : (i : Int) ∉ now) : NowOk js (now ++ [(i : Int)]) d :=
 ⟨List.nodup_append.2 ⟨h.nodup, by simp, fun a ha b hb e => by simp at hb; subst hb; subst e; exact hn ha⟩, fun j hj => by
  rcases List.mem_append.1 hj with hj | hj
  ·exact h.mem j hj
  ·simp at hj; omega, by have := h.len; simp; omega⟩
theorem NowOk.ord {js : List FJob} {now : List Int} (h : NowOk js now 0) : ordB now js.length = true :=
 perm_ord (perm_of_sub now (upTo js.length) h.nodup (fun x hx => upTo_mem.2 (h.mem x hx)) (by rw [upTo_len]; have := h.len; omega))
theorem due_nn {s : FShop} {js : List FJob} (h : ShopOk s js) (k : Nat) : 0 ≤ dueAt js k := by
 unfold dueAt
 rw [List.getD_eq_getElem?_getD]
 cases hk : js[k]? with
 | none => exact Int.le_refl _
 | some j => exact (h.job j (List.mem_of_getElem? hk)).2.2.1.1
noncomputable def passE (s : FShop) (js : List FJob) (now : List Int) (i : Nat) : Int := (passF s (runF s js now).line (js.getD i default)).2.1
theorem lat_snoc {s : FShop} {js : List FJob} (h : ShopOk s js) {now : List Int} {d i : Nat} (hw : NowOk js now (d + 1)) (hi : i < js.length) (hn : (i : Int) ∉ now) :
  latO s js (now ++ [(i : Int)]) = ((latO s js now).1 + max 0 (passE s js now i - dueAt js i), max (latO s js now).2 (passE s js now i)) ∧ 0 ≤ passE s js now i ∧ passE s js now i ≤ 170000 := by
 have hw2 := hw.snoc hi hn
 have h6 := h.njob
 have ho := runF_ok h (os := now ++ [(i : Int)]) (by have := hw2.len; omega) hw2.mem
 have ho1 := runF_ok h (os := now) (by have := hw.len; omega) hw.mem
 have hE : (runF s js (now ++ [(i : Int)])).ends = (runF s js now).ends.set i (passE s js now i) := by rw [runF_snoc]; rfl
 have hlen : i < (runF s js now).ends.length := by rw [ho1.elen]; exact hi
 have he : 0 ≤ passE s js now i ∧ passE s js now i ≤ 170000 := ho.en _ (by rw [hE]; exact List.mem_set hlen _)
 have h0 : endAt (runF s js now).ends i = 0 := ends_zero now _ (by unfold endAt run0; rw [List.getD_eq_getElem?_getD, List.getElem?_replicate]; split <;> rfl) hn fun j hj => (hw.mem j hj).1
 refine ⟨?_, he⟩
 unfold latO
 rw [hE, latF_set hlen h0 he.1 (due_nn h) js.length, if_pos hi]
theorem worse_mono {b : FBest} {x y : Int × Int} (h1 : x.1 ≤ y.1) (h2 : x.2 ≤ y.2) (h : worseB b x = true) : worseB b y = true := by
 simp only [worseB, lexB, Bool.and_eq_true, Bool.not_eq_true', Bool.or_eq_false_iff, Bool.and_eq_false_iff, decide_eq_false_iff_not] at h ⊢
 obtain ⟨h3, h4, h5⟩ := h
 exact ⟨h3, by omega, by omega⟩
theorem foldl_keep {α β : Type} {f : β → α → β} {b : β} : ∀ {l : List α}, (∀ i ∈ l, f b i = b) → l.foldl f b = b
 | [], _ => rfl
 | a :: l, h => by rw [List.foldl_cons, h a (by simp)]; exact foldl_keep fun i hi => h i (by simp [hi])
theorem foldl_same {α β : Type} {f g : β → α → β} : ∀ {l : List α} {b : β}, (∀ i ∈ l, ∀ b, f b i = g b i) → l.foldl f b = l.foldl g b
 | [], _, _ => rfl
 | a :: l, b, h => by rw [List.foldl_cons, List.foldl_cons, h a (by simp)]; exact foldl_same fun i hi => h i (by simp [hi])
theorem find_worse {s : FShop} {js : List FJob} (h : ShopOk s js) : ∀ (d : Nat) (now : List Int) (b : FBest), NowOk js now d → worseB b (latO s js now) = true → findF s js d now b = b
 | 0, now, b, _, hb => by
  simp only [findF, betterB]
  simp only [worseB, Bool.and_eq_true, Bool.not_eq_true'] at hb
  rw [if_neg (by rw [hb.1, hb.2]; simp)]
 | d + 1, now, b, hw, hb => by
  simp only [findF]
  refine foldl_keep fun i hi => ?_
  have hi := List.mem_range.1 hi
  split
  ·rfl
  ·rename_i hn
   obtain ⟨e1, e2, _⟩ := lat_snoc h hw hi hn
   exact find_worse h d _ b (hw.snoc hi hn) (worse_mono (by rw [e1]; simp only; omega) (by rw [e1]; simp only; omega) hb)
theorem try_find {s : FShop} {js : List FJob} (h : ShopOk s js) : ∀ (d : Nat) (now : List Int) (b : FBest), NowOk js now d → tryF s js d now b = findF s js d now b
 | 0, now, b, hw => by
  simp only [tryF]
  split
  ·rename_i hb; rw [find_worse h 0 now b hw hb]
  ·rename_i hb
   simp only [findF, betterB]
   rw [if_pos]
   simp only [worseB] at hb
   revert hb
   cases b.found <;> simp
 | d + 1, now, b, hw => by
  simp only [tryF]
  split
  ·rename_i hb; rw [find_worse h (d + 1) now b hw hb]
  ·simp only [findF]
   refine foldl_same fun i hi b => ?_
   have hi := List.mem_range.1 hi
   split
   ·rfl
   ·rename_i hn; exact try_find h d _ b (hw.snoc hi hn)
end Go.Proofs.YtjjapdagllclkaaGreat.Tab
namespace Go.Proofs.YtjjapdagllclkaaGreat.Tab
open Go Go.Abs Go.Proofs
set_option maxRecDepth 100000
set_option maxHeartbeats 4000000
set_option linter.unusedSimpArgs false
set_option linter.unusedVariables false
section
attribute [local simp] frz_int frz_bool frz_vl frz_pv frz_agg frz_tup frz_fn frz_ref frz_sl frz_nils optAll orcF rb_int rb_bool rb_agg rb_tup rb_int' rb_bool' rb_vl rb_pv rb_yld rb_nilf rb_nilp rb_nils rb_any rb_und rb_ref rb_sl rb_fn slE chunk fillA evParts evParts3 putAt List.range_succ List.range_zero List.range'_succ List.range'_zero runX_nil' unary_not evalS_pure evAll_nil evAll_cons runX_cons stepX wantedA dop CV.ev putK_eq setK_eq appK_eq fA_eq fI_eq fN_eq fRow_eq fRows_eq nth_eq Out.v putT List.replicate_succ zT zB arI pointee Abs.rowAt ldRow allV toV toC ofV ofC Builtin.min_ Builtin.min2 Builtin.max_ Builtin.max2 min_if max_if resA tupA kill trim_self trim_len trim_emp trim_nil lenA
attribute [local simp] runD_nil' runD_cons' stepD actK_eq actD clash disj masks holes maskH unmaskH diffs news eqB allB eqA ldRowN wrote toCs ofCs stA rowsV_vl rowsV_nils rowsOf dI1 dI2 dI3 dI5 elt
attribute [local simp] st_any st_und st_agg st_tup st_bool st_int st_nilp st_ref st_pv st_nils st_sl st_vl st_nilm st_mp st_fn st_nilf st_yld co_any co_und co_agg co_tup co_bool co_int co_nilp co_ref co_pv co_nils co_sl co_vl co_nilm co_mp co_fn co_nilf co_yld
section
attribute [local simp] above callA calleeA frNB_none frNB_row frN_agg frN_bool frN_int frN_nils frN_ref frN_sl frN_tup frN_vl frzG gather getR lim lop loud lowA lowR norm okG putG putR rbB_none rbB_row resG rowAt takeG
theorem W_i2b : W .i64 2 = 2 := by decide
def oOrB : List AVal → Option AVal
  | [.vl [[.int .i64 x], [.int .i64 y]] _] => some (I (if x = 0 then y else x))
  | _ => none
def oCloI : List AVal → Option AVal
  | [.nils] => some .nils
  | [.vl rs _] => match optAll dI1 rs with
    | some xs => if xs.length ≤ 1000 then some (if xs = [] then .vl [] true else .vl rs false) else none
    | none => none
  | _ => none
def mB (n : Int) : Prop := -100000000 ≤ n ∧ n ≤ 100000000
instance (n : Int) : Decidable (mB n) := inferInstanceAs (Decidable (_ ∧ _))
def worseV (fo : Bool) (bs be su en : Int) : Bool := fo && !lexB su en bs be
def oWorse : List AVal → Option AVal
  | [.pv [.int .i64 _, c, t, j, bv, .int .i64 bs, .int .i64 be, .bool fo] 0, .agg [.int .i64 su, .int .i64 en]] => match dInts2 c, dStops t, dJobs j, dInts bv with
    | some _, some _, some _, some _ => if (mB bs ∧ mB be) ∧ mB su ∧ mB en then some (.bool (worseV fo bs be su en)) else none
    | _, _, _, _ => none
  | _ => none
theorem a67b (P : Program) (T : Nat → Option CFn) (hT : T 67 = some c67) (x y : Int) (tt : Bool) : Answers P T 67 [.vl [[I x], [I y]] tt] [] fun v h => frz true h 5 v = some (I (if x = 0 then y else x)) := by
 refine answers_of hT (orcF_none rfl) ?_
 simp only [oo, om, op, og, ci, cl, c67]
 refine zS ?_
 refine zR (zO (by simp [W_i1, W_i2b]; rfl) ?_)
 simp only [zT, zB]
 refine zS ?_
 refine zR (zO (by simp [W_i1, W_i2b]; rfl) ?_)
 simp only [zT, zB]
 refine zS ?_
 refine zS ?_
 refine zR (zO (by simp [W_i1, W_i2b]; rfl) ?_)
 simp only [zT, zB]
 refine zL ?_
 refine runs_loop_inv (fun m σ => (m = 2 ∧ σ = ⟨[.any, .any, .any, I 0, .any, .any, .vl [[I x], [I y]] tt, I 2, I 0, .any, .any, .any, .any, .any, .any, .any, .any, .any], []⟩) ∨ (m = 1 ∧ x = 0 ∧ σ = ⟨[.any, .any, .any, I 0, .any, .any, .vl [[I x], [I y]] tt, I 2, I 1, .any, .any, .any, .any, .any, .any, .any, .any, .any], []⟩) ∨ (m = 0 ∧ x = 0 ∧ y = 0 ∧ σ = ⟨[.any, .any, .any, I 0, .any, .any, .vl [[I x], [I y]] tt, I 2, I 2, .any, .any, .any, .any, .any, .any, .any, .any, .any], []⟩)) ?_ 2 _ (.inl ⟨rfl, by simp⟩)
 intro m σ hI
 rcases hI with ⟨rfl, rfl⟩ | ⟨rfl, hx, rfl⟩ | ⟨rfl, hx, hy, rfl⟩
 ·refine zS ?_
  refine zR (zO (by simp [W_i1, W_i2b]; rfl) ?_)
  simp only [zT, zB]
  refine zS ?_
  refine runs_cond (x := true) (by simp) ?_
  refine zK ?_
  simp only [zT, zB]
  refine zS ?_
  refine zL ?_
  refine zS ?_
  refine zR (zO (by simp [W_i1, W_i2b]; rfl) ?_)
  simp only [zT, zB]
  refine zS ?_
  refine zR (zO (by simp [W_i1, W_i2b]; rfl) ?_)
  simp only [zT, zB]
  refine runs_cond_split (x := !(x == 0)) (by simp [bne]) (fun hx => ?_) (fun hx => ?_)
  ·have hx : ¬ x = 0 := by simpa using hx
   rw [if_neg hx]
   refine zS ?_
   refine zR (zO (by simp [W_i1, W_i2b]; rfl) ?_)
   simp only [zT, zB]
   refine runs_ret ?_
   simp [W_i1, W_i2b]
  ·have hx : x = 0 := by simpa using hx
   refine zK ?_
   simp only [zT, zB]
   refine zR (zO (by simp [W_i1, W_i2b]; rfl) ?_)
   simp only [zT, zB]
   exact ⟨1, by omega, .inr (.inl ⟨rfl, hx, by simp [trim, W_i1, W_i2b]⟩)⟩
 ·subst hx
  rw [if_pos rfl]
  refine zS ?_
  refine zR (zO (by simp [W_i1, W_i2b]; rfl) ?_)
  simp only [zT, zB]
  refine zS ?_
  refine runs_cond (x := true) (by simp) ?_
  refine zK ?_
  simp only [zT, zB]
  refine zS ?_
  refine zL ?_
  refine zS ?_
  refine zR (zO (by simp [W_i1, W_i2b]; rfl) ?_)
  simp only [zT, zB]
  refine zS ?_
  refine zR (zO (by simp [W_i1, W_i2b]; rfl) ?_)
  simp only [zT, zB]
  refine runs_cond_split (x := !(y == 0)) (by simp [bne]) (fun hy => ?_) (fun hy => ?_)
  ·refine zS ?_
   refine zR (zO (by simp [W_i1, W_i2b]; rfl) ?_)
   simp only [zT, zB]
   refine runs_ret ?_
   simp [W_i1, W_i2b]
  ·have hy : y = 0 := by simpa using hy
   subst hy
   refine zK ?_
   simp only [zT, zB]
   refine zR (zO (by simp [W_i1, W_i2b]; rfl) ?_)
   simp only [zT, zB]
   exact ⟨0, by omega, .inr (.inr ⟨rfl, by simp, by simp, by simp [trim, W_i1, W_i2b]⟩)⟩
 ·subst hx
  subst hy
  rw [if_pos rfl]
  refine zS ?_
  refine zR (zO (by simp [W_i1, W_i2b]; rfl) ?_)
  simp only [zT, zB]
  refine zS ?_
  refine runs_cond (x := false) (by simp) ?_
  refine runs_exit ?_
  simp only [zT, zB, if_true, if_false, reduceIte, Nat.reduceEqDiff, Nat.succ_ne_zero, Nat.one_ne_zero, Nat.zero_ne_one]
  refine zS ?_
  refine zR (zO (by simp [W_i1, W_i2b]; rfl) ?_)
  simp only [zT, zB]
  refine runs_ret ?_
  simp [W_i1, W_i2b]
noncomputable def BA1 : Nat → Option CFn := upd FL1 67 true (oOrB)
theorem BA1_ok : TabOk Tryz.prog GG BA1 := tab_add mixed FL1_ok fun args v ho => by
  unfold oOrB at ho; split at ho <;> (try simp only [reduceCtorEq] at ho)
  rename_i x y tt
  simp only [Option.some.injEq] at ho
  subst ho
  exact a67b Tryz.prog FL1 rfl x y tt
def cloV (x : AVal) (xs : List Int) : AVal := match x with | .nils => .nils | _ => if xs = [] then .vl [] true else .vl (xs.map rI) false
theorem a148 (P : Program) (T : Nat → Option CFn) (hT : T 148 = some c148) (x : AVal) (xs : List Int) (hx : dInts x = some xs) (hl : xs.length ≤ 1000) : Answers P T 148 [x] [] fun v h => frz true h 5 v = some (cloV x xs) := by
 refine answers_of hT (orcF_none rfl) ?_
 simp only [oo, om, op, og, ci, cl, c148]
 rcases dInts_cases hx with ⟨rfl, rfl⟩ | ⟨tt, rfl⟩
 ·refine zS ?_
  refine zR (zO (by simp [cloV]; rfl) ?_)
  simp only [zT, zB]
  refine zS ?_
  refine zS ?_
  refine zR (zO (by simp [cloV]; rfl) ?_)
  simp only [zT, zB]
  refine runs_cond (x := true) (by simp) ?_
  refine zS ?_
  refine zR (zO (by simp [cloV]; rfl) ?_)
  simp only [zT, zB]
  refine runs_ret ?_
  simp [cloV]
 ·rcases xs with _ | ⟨x, l⟩
  ·refine zS ?_
   refine zR (zO (by simp [cloV]; rfl) ?_)
   simp only [zT, zB]
   refine zS ?_
   refine zS ?_
   refine zR (zO (by simp [cloV]; rfl) ?_)
   simp only [zT, zB]
   refine runs_cond (x := false) (by simp) ?_
   refine zK ?_
   simp only [zT, zB]
   refine zS ?_
   refine zR (zO (by simp [cloV]; rfl) ?_)
   simp only [zT, zB]
   refine runs_ret ?_
   simp [cloV, trim]
  ·have hl3 : l.length + 1 ≤ 1048576 := by simp at hl; omega
   have h4 : ((l.map rI).all fun r => r.length == 1) = true := by simp [rI]
   have h5 : ((l.map rI).all fun r => r.all storable) = true := by simp [rI]
   have tk : (l.map rI).take l.length = l.map rI := List.take_of_length_le (by simp)
   refine zS ?_
   refine zR (zO (by simp [cloV, hl3, ↓h4, ↓h5, ↓tk, zI, frz_mapI]; rfl) ?_)
   simp only [zT, zB]
   refine zS ?_
   refine zS ?_
   refine zR (zO (by simp [cloV, hl3, ↓h4, ↓h5, ↓tk, zI, frz_mapI]; rfl) ?_)
   simp only [zT, zB]
   refine runs_cond (x := false) (by simp) ?_
   refine zK ?_
   simp only [zT, zB]
   refine zS ?_
   refine zR (zO (by simp [cloV, hl3, ↓h4, ↓h5, ↓tk, zI, frz_mapI]; rfl) ?_)
   simp only [zT, zB]
   refine runs_ret ?_
   simp [cloV, hl3, ↓h4, ↓h5, ↓tk, zI, frz_mapI, trim]
noncomputable def BA2 : Nat → Option CFn := upd BA1 148 true (oCloI)
theorem BA2_ok : TabOk Tryz.prog GG BA2 := tab_add mixed BA1_ok fun args v ho => by
  unfold oCloI at ho; split at ho <;> (try simp only [reduceCtorEq] at ho)
  · simp only [Option.some.injEq] at ho
    subst ho
    exact a148 Tryz.prog BA1 rfl .nils [] rfl (by simp)
  · rename_i rs tt
    split at ho <;> (try simp only [reduceCtorEq] at ho)
    rename_i xs hxs
    split at ho <;> (try simp only [reduceCtorEq] at ho)
    rename_i hl
    simp only [Option.some.injEq] at ho
    subst ho
    have e := optAll_eq (enc := rI) dI1_eq hxs
    subst e
    exact a148 Tryz.prog BA1 rfl (.vl (xs.map rI) tt) xs (dInts_vl xs tt) hl
theorem a149_0 (P : Program) (T : Nat → Option CFn) (hT : T 149 = some c149) : Answers P T 149 [.nils] [] fun v1 h1 => norm 0 v1 h1 = some (.nils, []) := by
 refine answers_of hT (orcF_none rfl) ?_
 simp only [oo, om, op, og, ci, cl, c149]
 refine zS ?_
 refine zR (zO (by simp; rfl) ?_)
 simp only [zT, zB]
 refine zS ?_
 refine zR (zO (by simp; rfl) ?_)
 simp only [zT, zB]
 refine runs_ret ?_
 simp [trim]
theorem a149_1 (P : Program) (T : Nat → Option CFn) (hT : T 149 = some c149) (xs : List Int) : Answers P T 149 [.sl 0 0 xs.length false] [some (.row 1 (xs.map rI))] fun v1 h1 => norm 1 v1 h1 = some (.sl 0 0 xs.length true, [some (.row 1 (xs.map rI))]) := by
 have tk : (xs.map rI).take xs.length = xs.map rI := List.take_of_length_le (by simp)
 have hr1 : ∀ e : Int, (rI e).length = 1 := fun _ => rfl
 have rbN := fun n => rI_rb n 4 xs
 have fnN := fun n H => frN_mapI n H 4 xs
 refine answers_of hT (orcF_none rfl) ?_
 simp only [oo, om, op, og, ci, cl, c149]
 refine zS ?_
 refine zR (zO (by simp [evOpt, sliceA, bounds, hiB, bound, tk, hr1, ↓rbN, ↓fnN]; rfl) ?_)
 simp only [zT, zB]
 refine zS ?_
 refine zR (zO (by simp [evOpt, sliceA, bounds, hiB, bound, tk, hr1, ↓rbN, ↓fnN]; rfl) ?_)
 simp only [zT, zB]
 refine runs_ret ?_
 simp [evOpt, sliceA, bounds, hiB, bound, tk, hr1, ↓rbN, ↓fnN, trim]
noncomputable def sClip : List AVal → Heap → Option (AVal × Heap)
  | [.nils], [] => some (.nils, [])
  | [.sl 0 0 n false], [some (.row 1 rs)] => match optAll dI1 rs with
    | some xs => if n = xs.length then some (.sl 0 0 n true, [some (.row 1 rs)]) else none
    | none => none
  | _, _ => none
theorem sClip_sl (xs : List Int) : sClip [.sl 0 0 xs.length false] [some (.row 1 (xs.map rI))] = some (.sl 0 0 xs.length true, [some (.row 1 (xs.map rI))]) := by
  simp only [sClip, dI1_self]; rw [if_pos trivial]
noncomputable def BA3 : Nat → Option CFn := updE BA2 149 (frameE sClip)
theorem BA3_ok : TabOk Tryz.prog GG BA3 := tab_frame mixed BA2_ok fun args h v h' ho => by
  unfold sClip at ho
  split at ho <;> (try simp only [reduceCtorEq] at ho)
  · simp only [Option.some.injEq, Prod.mk.injEq] at ho
    obtain ⟨rfl, rfl⟩ := ho
    exact a149_0 Tryz.prog BA2 rfl
  · rename_i n rs
    split at ho <;> (try simp only [reduceCtorEq] at ho)
    rename_i xs hxs
    split at ho <;> (try simp only [reduceCtorEq] at ho)
    rename_i hn
    simp only [Option.some.injEq, Prod.mk.injEq] at ho
    obtain ⟨rfl, rfl⟩ := ho
    have e := optAll_eq (enc := rI) dI1_eq hxs
    subst e
    subst hn
    exact a149_1 Tryz.prog BA2 rfl xs
theorem a147 (P : Program) (T : Nat → Option CFn) (hT : T 147 = some c147) (h67 : T 67 = some { c67 with frsh := true, orc := oOrB }) (m : Int) (c t j bv : AVal) (cs : List (List Int)) (ts : List FStop) (js : List FJob) (bo : List Int) (hc : dInts2 c = some cs) (ht : dStops t = some ts) (hj : dJobs j = some js) (hb : dInts bv = some bo) (bs be su en : Int) (fo : Bool) (hg : (mB bs ∧ mB be) ∧ mB su ∧ mB en) : Answers P T 147 [.pv [I m, c, t, j, bv, I bs, I be, .bool fo] 0, .agg [I su, I en]] [] fun v h => frz true h 5 v = some (.bool (worseV fo bs be su en)) := by
 have fc := fun H d => dInts2_frz hc H d
 have ft := fun H d => dStops_frz ht H d
 have fj := fun H d => dJobs_frz hj H d
 have fb := fun H d => dInts_frz hb H d
 unfold mB at hg
 refine answers_of hT (orcF_none rfl) ?_
 simp only [oo, om, op, og, ci, cl, c147]
 rcases fo with _ | _
 ·have HH1 := zA h67 (zA fc (zA ft (zA fj fb)))
  refine zS ?_
  refine zR (zO (by simp [zC h67, HH1]; rfl) ?_)
  simp only [zT, zB]
  refine zS ?_
  refine runs_drw (by simp (maxSteps := 3000000) [zC h67, HH1]; rfl) ?_
  simp only [zT, zB]
  refine runs_ret ?_
  simp [zC h67, HH1, worseV]
 ·have w1 : W .i64 (su - bs) = su - bs := W_fit (by omega)
  have w2 : W .i64 (en - be) = en - be := W_fit (by omega)
  have hor : oOrB [.vl [[I (su - bs)], [I (en - be)]] true] = some (I (if su - bs = 0 then en - be else su - bs)) := rfl
  have hfin : decide (0 ≤ (if su - bs = 0 then en - be else su - bs)) = worseV true bs be su en := by
   simp only [worseV, lexB, Bool.true_and]
   rw [Bool.eq_iff_iff]
   simp only [decide_eq_true_eq, Bool.not_eq_true', Bool.or_eq_false_iff, Bool.and_eq_false_iff, decide_eq_false_iff_not]
   split <;> omega
  generalize (if su - bs = 0 then en - be else su - bs) = z at *
  have HH2 := zA h67 (zA fc (zA ft (zA fj (zA fb (zA w1 (zA w2 (zA hor hfin)))))))
  refine zS ?_
  refine zR (zO (by simp [zC h67, HH2]; rfl) ?_)
  simp only [zT, zB]
  refine zS ?_
  refine runs_drw (by simp (maxSteps := 3000000) [zC h67, HH2]; rfl) ?_
  simp only [zT, zB]
  refine runs_ret ?_
  simp [zC h67, HH2]
noncomputable def BA : Nat → Option CFn := upd BA3 147 true (oWorse)
theorem BA_ok : TabOk Tryz.prog GG BA := tab_add mixed BA3_ok fun args v ho => by
  unfold oWorse at ho; split at ho <;> (try simp only [reduceCtorEq] at ho)
  rename_i m c t j bv bs be fo su en
  split at ho <;> (try simp only [reduceCtorEq] at ho)
  rename_i cs ts js bo hc ht hj hb
  split at ho <;> (try simp only [reduceCtorEq] at ho)
  rename_i hg
  simp only [Option.some.injEq] at ho
  subst ho
  exact a147 Tryz.prog BA3 rfl rfl m c t j bv cs ts js bo hc ht hj hb bs be su en fo hg
end
end
end Go.Proofs.YtjjapdagllclkaaGreat.Tab
namespace Go.Abs
open Go
section
variable {P : Program} {G : Nat → Option (List AVal)} {T : Nat → Option CFn}
theorem tab_frame2 (hm : P.follows .mixedOrders = true) (hT : TabOk P G T) {f : Nat} {sp sp' : List AVal → Heap → Option (AVal × Heap)}
  (hE : ∀ args h v us, frameE sp args h = some (v, us) → CallGood P G f args h v (setH h us))
  (ho : ∀ args h v h', sp' args h = some (v, h') → sp args h = some (v, h') ∨ Answers P T f args h fun v1 h1 => norm h.length v1 h1 = some (v, h')) : TabOk P G (updE T f (frameE sp')) :=
 tab_updE hT fun args h v us he => by
  unfold frameE at he
  split at he <;> (try simp only [reduceCtorEq] at he)
  rename_i ass h0 e1 e2
  split at he <;> (try simp only [reduceCtorEq] at he)
  rename_i v1 h1 e3
  split at he <;> (try simp only [reduceCtorEq] at he)
  rename_i hg
  split at he <;> (try simp only [reduceCtorEq] at he)
  rename_i v' hb
  simp at he
  obtain ⟨rfl, rfl⟩ := he
  rcases ho ass h0 v1 h1 e3 with h3 | h3
  ·refine hE _ _ _ _ ?_
   unfold frameE
   simp only [e1, e2, h3, hb]
   rw [if_pos hg]
  ·obtain ⟨v2, h2, hn, hgood⟩ := answers_good hm hT h3
   exact frame_good (norm_good hgood hn) (ptrs_nodup args [] List.nodup_nil) e1 e2 hg.1 hg.2 hb
theorem tab_eff (hT : TabOk P G T) {f : Nat} {c : CFn} (hf : T f = some c) : ∀ args h v us, c.eff args h = some (v, us) → CallGood P G f args h v (setH h us) := by
 obtain ⟨_, _, _, _, _, _, _, _, _, h8⟩ := hT f c hf
 exact h8
end
end Go.Abs
namespace Go.Proofs.YtjjapdagllclkaaGreat.Tab
open Go Go.Abs Go.Proofs
set_option maxRecDepth 100000
set_option maxHeartbeats 4000000
set_option linter.unusedSimpArgs false
set_option linter.unusedVariables false
section
attribute [local simp] frz_int frz_bool frz_vl frz_pv frz_agg frz_tup frz_fn frz_ref frz_sl frz_nils optAll orcF rb_int rb_bool rb_agg rb_tup rb_int' rb_bool' rb_vl rb_pv rb_yld rb_nilf rb_nilp rb_nils rb_any rb_und rb_ref rb_sl rb_fn slE chunk fillA evParts evParts3 putAt List.range_succ List.range_zero List.range'_succ List.range'_zero runX_nil' unary_not evalS_pure evAll_nil evAll_cons runX_cons stepX wantedA dop CV.ev putK_eq setK_eq appK_eq fA_eq fI_eq fN_eq fRow_eq fRows_eq nth_eq Out.v putT List.replicate_succ zT zB arI pointee Abs.rowAt ldRow allV toV toC ofV ofC Builtin.min_ Builtin.min2 Builtin.max_ Builtin.max2 min_if max_if resA tupA kill trim_self trim_len trim_emp trim_nil lenA
attribute [local simp] runD_nil' runD_cons' stepD actK_eq actD clash disj masks holes maskH unmaskH diffs news eqB allB eqA ldRowN wrote toCs ofCs stA rowsV_vl rowsV_nils rowsOf dI1 dI2 dI3 dI5 elt
attribute [local simp] st_any st_und st_agg st_tup st_bool st_int st_nilp st_ref st_pv st_nils st_sl st_vl st_nilm st_mp st_fn st_nilf st_yld co_any co_und co_agg co_tup co_bool co_int co_nilp co_ref co_pv co_nils co_sl co_vl co_nilm co_mp co_fn co_nilf co_yld
section
attribute [local simp] above backA backA1 callA calleeA flatAt flatBlk frNB_none frNB_row frN_agg frN_bool frN_int frN_nils frN_ref frN_sl frN_tup frN_vl frameE frzG gather getR lim lop loud lowA lowR norm okG posOf ptrs putG putH putR rbB_none rbB_row renA resG rowAt setH takeG
def bC (m : Int) (c t j : AVal) (b : FBest) : List AVal := [I m, c, t, j, encV b.order, I b.sum, I b.last, .bool b.found]
structure TryOk (D : Nat) (s : FShop) (js : List FJob) (now : List Int) (lc : List AVal) (su en : Int) (bv : AVal) (bo : List Int) (bs be : Int) : Prop where
  ok : ShopOk s js
  lt : js.length - now.length < D
  nw : NowOk js now (js.length - now.length)
  line : lc = lineC (runF s js now).line
  lat : (su, en) = latO s js now
  bv : bv = encV bo
  bb : mB bs ∧ mB be
open Classical in
noncomputable def sTry (D : Nat) : List AVal → Heap → Option (AVal × Heap)
  | [.ref 0 0 0, .nils, .agg lc, .agg [.int .i64 su, .int .i64 en]], [some (.row 8 [[.int .i64 m, c, t, j, bv, .int .i64 bs, .int .i64 be, .bool fo]])] =>
    match dInts2 c, dStops t, dJobs j, dInts bv with
    | some cs, some ts, some js, some bo => if TryOk D ⟨m, cs, ts⟩ js [] lc su en bv bo bs be then some (.tup [], [some (.row 8 [bC m c t j (tryF ⟨m, cs, ts⟩ js js.length [] ⟨bo, bs, be, fo⟩)])]) else none
    | _, _, _, _ => none
  | [.ref 0 0 0, .sl 1 0 n false, .agg lc, .agg [.int .i64 su, .int .i64 en]], [some (.row 8 [[.int .i64 m, c, t, j, bv, .int .i64 bs, .int .i64 be, .bool fo]]), some (.row 1 rs)] =>
    match dInts2 c, dStops t, dJobs j, dInts bv, optAll dI1 rs with
    | some cs, some ts, some js, some bo, some now => if TryOk D ⟨m, cs, ts⟩ js now lc su en bv bo bs be ∧ n = now.length ∧ 1 ≤ n then some (.tup [], [some (.row 8 [bC m c t j (tryF ⟨m, cs, ts⟩ js (js.length - now.length) now ⟨bo, bs, be, fo⟩)]), some (.row 1 rs)]) else none
    | _, _, _, _, _ => none
  | _, _ => none
theorem sTry_nil {D : Nat} {s : FShop} {js : List FJob} {c t j : AVal} {b : FBest} {lc : List AVal} {su en : Int} (hc : dInts2 c = some s.chg) (ht : dStops t = some s.stops) (hj : dJobs j = some js) (h : TryOk D s js [] lc su en (encV b.order) b.order b.sum b.last) : sTry D [.ref 0 0 0, .nils, .agg lc, .agg [I su, I en]] [some (.row 8 [bC s.mach c t j b])] = some (.tup [], [some (.row 8 [bC s.mach c t j (tryF s js js.length [] b)])]) := by
  simp only [sTry, bC, hc, ht, hj, dInts_encV]
  rw [if_pos h]
theorem sTry_sl {D : Nat} {s : FShop} {js : List FJob} {c t j : AVal} {b : FBest} {lc : List AVal} {su en : Int} {now : List Int} (hc : dInts2 c = some s.chg) (ht : dStops t = some s.stops) (hj : dJobs j = some js) (h : TryOk D s js now lc su en (encV b.order) b.order b.sum b.last) (h1 : 1 ≤ now.length) : sTry D [.ref 0 0 0, .sl 1 0 now.length false, .agg lc, .agg [I su, I en]] [some (.row 8 [bC s.mach c t j b]), some (.row 1 (now.map rI))] = some (.tup [], [some (.row 8 [bC s.mach c t j (tryF s js (js.length - now.length) now b)]), some (.row 1 (now.map rI))]) := by
  simp only [sTry, bC, hc, ht, hj, dInts_encV, dI1_self]
  rw [if_pos ⟨h, rfl, h1⟩]
theorem lat_bd {s : FShop} {js : List FJob} (h : ShopOk s js) {now : List Int} {d : Nat} (hw : NowOk js now d) : (0 ≤ (latO s js now).1 ∧ (latO s js now).1 ≤ 6000000) ∧ (0 ≤ (latO s js now).2 ∧ (latO s js now).2 ≤ 1000000) := by
  have h6 := h.njob
  have hr := runF_ok h (os := now) (by have := hw.len; omega) hw.mem
  have hb := latF_bd (E := (runF s js now).ends) (js := js) (fun e he => by have := hr.en e he; omega) (fun j hj => (h.job j hj).2.2.1.1) js.length (by omega) (Nat.le_refl _)
  unfold latO
  omega
def bOk (b : FBest) : Prop := mB b.sum ∧ mB b.last
theorem foldl_inv {α β : Type} {f : β → α → β} {Q : β → Prop} : ∀ {l : List α} {b : β}, Q b → (∀ i ∈ l, ∀ b, Q b → Q (f b i)) → Q (l.foldl f b)
  | [], _, h, _ => h
  | a :: l, b, h, hf => by rw [List.foldl_cons]; exact foldl_inv (hf a (by simp) b h) fun i hi => hf i (by simp [hi])
theorem try_bd {s : FShop} {js : List FJob} (h : ShopOk s js) : ∀ (d : Nat) (now : List Int) (b : FBest), NowOk js now d → bOk b → bOk (tryF s js d now b)
  | 0, now, b, hw, hb => by
    have hl := lat_bd h hw
    simp only [tryF]
    split
    · exact hb
    · exact ⟨⟨by simp only; omega, by simp only; omega⟩, ⟨by simp only; omega, by simp only; omega⟩⟩
  | d + 1, now, b, hw, hb => by
    simp only [tryF]
    split
    · exact hb
    · refine foldl_inv hb fun i hi b hb => ?_
      have hi := List.mem_range.1 hi
      split
      · exact hb
      · rename_i hn; exact try_bd h d _ b (hw.snoc hi hn) hb
noncomputable def tryS (s : FShop) (js : List FJob) (d : Nat) (now : List Int) (b : FBest) (i : Nat) : FBest := if (i : Int) ∈ now then b else tryF s js d (now ++ [(i : Int)]) b
theorem tryF_succ {s : FShop} {js : List FJob} {d : Nat} {now : List Int} {b : FBest} (h : ¬ worseB b (latO s js now) = true) : tryF s js (d + 1) now b = (List.range js.length).foldl (tryS s js d now) b := by
  simp only [tryF]; rw [if_neg h]; rfl
theorem oWorse_eq {m : Int} {c t j : AVal} {cs : List (List Int)} {ts : List FStop} {js : List FJob} (hc : dInts2 c = some cs) (ht : dStops t = some ts) (hj : dJobs j = some js) {b : FBest} (hb : bOk b) {x : Int × Int} (hx : mB x.1 ∧ mB x.2) : oWorse [.pv (bC m c t j b) 0, .agg [I x.1, I x.2]] = some (.bool (worseB b x)) := by
  simp only [oWorse, bC, hc, ht, hj, dInts_encV]
  rw [if_pos ⟨hb, hx⟩]; rfl
theorem bC_rb {c t j : AVal} {cs : List (List Int)} {ts : List FStop} {js : List FJob} (hc : dInts2 c = some cs) (ht : dStops t = some ts) (hj : dJobs j = some js) (m : Int) (b : FBest) (n d : Nat) : (bC m c t j b).all (rb n (d + 1)) = true := by
  simp only [bC, List.all_cons, List.all_nil, rb_int, rb_bool, dInts2_rb hc, dStops_rb ht, dJobs_rb hj, dInts_rb (dInts_encV b.order)]
  rfl
theorem rowsV_frN {x : AVal} {rs : List (List AVal)} (h : rowsV x = some rs) (n : Nat) (H : Heap) (d : Nat) : frN n H (d + 1) x = some x := by
  rcases rowsV_cases h with ⟨rfl, _⟩ | ⟨t, rfl⟩ <;> rfl
theorem lineC_st : ∀ l : FLine, (lineC l).all storable = true
  | [] => rfl
  | x :: l => by
    show (storable (I x.1) && (storable (I x.2.1) && (storable (.bool x.2.2) && (lineC l).all storable))) = true
    rw [lineC_st l]; rfl
theorem tryF_worse {s : FShop} {js : List FJob} {now : List Int} {b : FBest} (h : worseB b (latO s js now) = true) : ∀ {d : Nat}, tryF s js d now b = b
  | 0 => by simp only [tryF]; rw [if_pos h]
  | d + 1 => by simp only [tryF]; rw [if_pos h]
theorem a111_0 (P : Program) (T : Nat → Option CFn) (D : Nat) (hT : T 111 = some { c111 with frsh := false, orc := fun _ => none, eff := frameE (sTry D) }) (h147 : T 147 = some { c147 with frsh := true, orc := oWorse }) (h148 : T 148 = some { c148 with frsh := true, orc := oCloI }) (h149 : T 149 = some { c149 with frsh := false, orc := fun _ => none, eff := frameE sClip }) (h84 : T 84 = some { c84 with frsh := true, orc := oCont }) (h63 : T 63 = some { c63 with frsh := true, orc := oPlus }) (h102 : T 102 = some { c102 with body := annK [(229738, [.slot 6])] [] c102.body, frsh := false, orc := fun _ => none, eff := frameE sPass }) (s : FShop) (js : List FJob) (c t j : AVal) (hc : dInts2 c = some s.chg) (ht : dStops t = some s.stops) (hj : dJobs j = some js) (b : FBest) (lc : List AVal) (su en : Int) (now : List Int) (hok : TryOk (D + 1) s js now lc su en (encV b.order) b.order b.sum b.last) (hlev : js.length - now.length = D) (hn0 : now = []) (he : frameE (sTry D) [.ref 0 0 0, .nils, .agg lc, .agg [I su, I en]] [some (.row 8 [bC s.mach c t j b])] = none) : Answers P T 111 [.ref 0 0 0, .nils, .agg lc, .agg [I su, I en]] [some (.row 8 [bC s.mach c t j b])] fun v1 h1 => norm 1 v1 h1 = some (.tup [], [some (.row 8 [bC s.mach c t j (tryF s js (js.length - now.length) now b)])]) := by
 have fc := fun H d => dInts2_frz hc H d
 have ft := fun H d => dStops_frz ht H d
 have fj := fun H d => dJobs_frz hj H d
 have rc := fun n d => dInts2_rb hc n d
 have rt := fun n d => dStops_rb ht n d
 have rj := fun n d => dJobs_rb hj n d
 have lc := dInts2_len hc
 have lt := dStops_len ht
 have lj := dJobs_len hj
 obtain ⟨cc1, cc2⟩ := dInts2_cells hc
 obtain ⟨ct1, ct2⟩ := dStops_cells ht
 obtain ⟨cj1, cj2⟩ := dJobs_cells hj
 have h111 := hT
 obtain ⟨hsh, hlt, hnw, hline, hlat, hbv, hbb⟩ := hok
 have feb := fun (b : FBest) H d => dInts_frz (dInts_encV b.order) H d
 have reb := fun (b : FBest) n d => dInts_rb (dInts_encV b.order) n d
 have ceb1 := fun (b : FBest) => (dInts_cells (dInts_encV b.order)).1
 have ceb2 := fun (b : FBest) => (dInts_cells (dInts_encV b.order)).2
 have fnb := fun (b : FBest) n H d => rowsV_frN (dInts_rows (dInts_encV b.order)) n H d
 have fnc := fun n H d => let ⟨_, h1, _⟩ := dInts2_rows hc; rowsV_frN h1 n H d
 have fnt := fun n H d => rowsV_frN (dStops_rows ht) n H d
 have fnj := fun n H d => let ⟨_, h1, _⟩ := dJobs_rows hj; rowsV_frN h1 n H d
 have hn6 := hsh.njob
 have hlb := lat_bd hsh hnw
 have hrun := runF_ok hsh (os := now) (by have := hnw.len; omega) hnw.mem
 have hL4 := hrun.line.len
 have hLo := hrun.line
 subst hline
 have hx := congrArg Prod.fst hlat
 have hy := congrArg Prod.snd hlat
 simp only at hx hy
 have hwo := oWorse_eq (m := s.mach) hc ht hj (b := b) hbb (x := latO s js now) ⟨⟨by omega, by omega⟩, ⟨by omega, by omega⟩⟩
 rw [← hx, ← hy] at hwo
 simp only [bC] at hwo
 have hlr := fun n d => lineC_rb n d (runF s js now).line
 have hll : (lineC (runF s js now).line).length = 12 := by rw [lineC_len, hL4]
 have hno6 : now.length ≤ 6 := by have := hnw.len; omega
 have hlt1 : (lineC (runF s js now).line).take 12 = lineC (runF s js now).line := List.take_of_length_le (by omega)
 have hls1 := lineC_st (runF s js now).line
 subst hn0
 have hcl : oCloI [.nils] = some (encV []) := rfl
 have hcp : sClip [.nils] [] = some (.nils, []) := rfl
 have hct : ∀ i : Int, oCont [.nils, I i] = some (.bool (decide (i ∈ ([] : List Int)))) := fun i => rfl
 have fen := fun H d => dInts_frz (dInts_encV []) H d
 have ren := fun n d => dInts_rb (dInts_encV []) n d
 obtain ⟨cen1, cen2⟩ := dInts_cells (dInts_encV [])
 have fnn := fun n H d => rowsV_frN (dInts_rows (dInts_encV [])) n H d
 have lov : lenA (.nils) = some ([] : List Int).length := rfl
 refine answers_of hT (orcF_none rfl) ?_ he
 simp only [oo, om, op, og, ci, cl, c111]
 have HH1 := zA h147 (zA h148 (zA h84 (zA h63 (zA h111 (zA h102 (zA h149 (zA fc (zA ft (zA fj (zA rc (zA rt (zA rj (zA lc (zA lt (zA lj (zA cc1 (zA cc2 (zA ct1 (zA ct2 (zA cj1 (zA cj2 (zA feb (zA reb (zA ceb1 (zA ceb2 (zA fnb (zA fnc (zA fnt (zA fnj (zA hwo (zA hcl (zA hcp (zA hct (zA hlr (zA hll (zA hls1 (zA fen (zA ren (zA cen1 (zA cen2 (zA fnn lov)))))))))))))))))))))))))))))))))))))))))
 refine zS ?_
 refine zR (zO (by simp [zC h147, zC h148, zC h84, zC h63, callF_eff h111 rfl, ↓orc_nil, callF_eff h102 rfl, callF_eff h149 rfl, -lenA, bC, zI, ↓hlt1, HH1]; rfl) ?_)
 simp only [zT, zB]
 refine zS ?_
 refine zS ?_
 refine zR (zO (by simp [zC h147, zC h148, zC h84, zC h63, callF_eff h111 rfl, ↓orc_nil, callF_eff h102 rfl, callF_eff h149 rfl, -lenA, bC, zI, ↓hlt1, HH1]; rfl) ?_)
 simp only [zT, zB]
 rcases hwb : worseB b (latO s js ([] : List Int)) with _ | _
 ·refine runs_cond (x := false) (by simp [hwb]) ?_
  refine zK ?_
  simp only [zT, zB]
  refine zS ?_
  refine zS ?_
  refine zR (zO (by simp [zC h147, zC h148, zC h84, zC h63, callF_eff h111 rfl, ↓orc_nil, callF_eff h102 rfl, callF_eff h149 rfl, -lenA, bC, zI, ↓hlt1, HH1]; rfl) ?_)
  simp only [zT, zB]
  by_cases hle : ([] : List Int).length = js.length
  ·refine runs_cond (x := true) (by simp [← hle]) ?_
   have hres : tryF s js (js.length - ([] : List Int).length) ([] : List Int) b = ⟨([] : List Int), su, en, true⟩ := by
    rw [show js.length - ([] : List Int).length = 0 by omega]
    simp only [tryF]
    rw [if_neg (by rw [hwb]; simp), hx, hy]
   rw [hres]
   refine zS ?_
   refine runs_drw (by simp (maxSteps := 3000000) [zC h147, zC h148, zC h84, zC h63, callF_eff h111 rfl, ↓orc_nil, callF_eff h102 rfl, callF_eff h149 rfl, -lenA, bC, zI, ↓hlt1, HH1]; rfl) ?_
   simp only [zT, zB]
   refine runs_ret ?_
   simp [zC h147, zC h148, zC h84, zC h63, callF_eff h111 rfl, ↓orc_nil, callF_eff h102 rfl, callF_eff h149 rfl, -lenA, bC, zI, ↓hlt1, HH1, trim]
  ·refine runs_cond (x := false) (by have h0 := hle; simp at h0 ⊢; omega) ?_
   obtain ⟨d, hd⟩ : ∃ d, js.length - ([] : List Int).length = d + 1 := ⟨js.length - ([] : List Int).length - 1, by have := hnw.len; omega⟩
   rw [hd, tryF_succ (by rw [hwb]; simp)]
   rw [hd] at hnw
   have hlen := hnw.len
   have h0len : ([] : List Int).length = 0 := rfl
   refine zK ?_
   simp only [zT, zB]
   refine zS ?_
   refine zR (zO (by simp [zC h147, zC h148, zC h84, zC h63, callF_eff h111 rfl, ↓orc_nil, callF_eff h102 rfl, callF_eff h149 rfl, -lenA, bC, zI, ↓hlt1, HH1]; rfl) ?_)
   simp only [zT, zB]
   refine zL ?_
   refine runs_loop_inv (fun m σ => ∃ (k : Nat) (i : Int) (b1 : FBest), i = k ∧ js.length - k = m ∧ k ≤ js.length ∧ b1 = (List.range k).foldl (tryS s js d ([] : List Int)) b ∧ bOk b1 ∧ σ = ⟨[.ref 0 0 0, .nils, .any, .any, .any, .any, .ref 1 0 0, .ref 2 0 0, .any, .any, .any, .any, .any, .any, .any, .any, .any, .any, .any, .any, .any, .any, .any, .any, .any, .any, .any, .any, .any, .any, .any, .any, .any, .any, .any, .any, .any, .any, .any, .any, .any, j, I js.length, I i, .any, .any, .any, .any, .any, .any, .any, .any, .any, .any, .any, .any, .any, .any, .any, .any, .any, .any, .any, .any, .any, .any, .any, .any, .any, .any, .any, .any, .any, .any], [some (.row 8 [[I s.mach, c, t, j, encV b1.order, I b1.sum, I b1.last, .bool b1.found]]), some (.row 12 [lineC (runF s js ([] : List Int)).line]), some (.row 2 [[I su, I en]])]⟩) ?_ (js.length - 0) _ ⟨0, 0, b, rfl, rfl, Nat.zero_le _, rfl, hbb, by simp⟩
   rintro m σ ⟨k, i, b1, hik, rfl, hkl, hb1, hbo, rfl⟩
   refine zS ?_
   refine zR (zO (by simp [zC h147, zC h148, zC h84, zC h63, callF_eff h111 rfl, ↓orc_nil, callF_eff h102 rfl, callF_eff h149 rfl, -lenA, bC, zI, ↓hlt1, HH1]; rfl) ?_)
   simp only [zT, zB]
   refine zS ?_
   refine runs_cond_split (x := decide (i < (js.length : Int))) (by simp) (fun hlt2 => ?_) (fun hlt2 => ?_)
   ·have hlt2 := of_decide_eq_true hlt2
    have hk0 : k < js.length := by omega
    obtain ⟨rs, tj, wv, rfl, hr1, hr2, hwv⟩ := dJobs_get hj hk0
    have hkr : k < rs.length := by omega
    have hr4 : ∀ h, rs[k]'h = [I js[k].kind, I js[k].ready, I js[k].due, wv] := fun h => by rw [List.getElem?_eq_getElem h] at hr2; exact Option.some.inj hr2
    have rw5 := fun n d => dInts_rb hwv n d
    have fw5 := fun H d => dInts_frz hwv H d
    obtain ⟨cw1, cw2⟩ := dInts_cells hwv
    have hjb := hsh.job _ (List.getElem_mem hk0)
    have hi0 : 0 ≤ i := by omega
    have htn : i.toNat = k := by omega
    have hwi : W .i64 (i + 1) = i + 1 := W_small (by omega)
    have hb2 : (List.range (k + 1)).foldl (tryS s js d ([] : List Int)) b = tryS s js d ([] : List Int) b1 k := by rw [List.range_succ, List.foldl_append, ← hb1]; rfl
    by_cases hm : (k : Int) ∈ ([] : List Int)
    ·have hS : tryS s js d ([] : List Int) b1 k = b1 := by unfold tryS; rw [if_pos hm]
     have hmi : i ∈ ([] : List Int) := by rw [hik]; exact hm
     have HH2 := zA hi0 (zA htn (zA hk0 (zA hwi (zA hkr (zA hr2 (zA hr4 (zA rw5 (zA fw5 (zA cw1 (zA cw2 hmi))))))))))
     refine zK ?_
     simp only [zT, zB]
     refine zS ?_
     refine zL ?_
     refine zS ?_
     refine zR (zO (by simp [zC h147, zC h148, zC h84, zC h63, callF_eff h111 rfl, ↓orc_nil, callF_eff h102 rfl, callF_eff h149 rfl, -lenA, bC, zI, ↓hlt1, HH1, HH2]; rfl) ?_)
     simp only [zT, zB]
     refine zS ?_
     refine zS ?_
     refine zR (zO (by simp [zC h147, zC h148, zC h84, zC h63, callF_eff h111 rfl, ↓orc_nil, callF_eff h102 rfl, callF_eff h149 rfl, -lenA, bC, zI, ↓hlt1, HH1, HH2]; rfl) ?_)
     simp only [zT, zB]
     refine runs_cond (x := true) (by simp [hmi]) ?_
     refine runs_exit ?_
     simp only [zT, zB, if_true, if_false, reduceIte, Nat.reduceEqDiff, Nat.succ_ne_zero, Nat.one_ne_zero, Nat.zero_ne_one]
     refine zR (zO (by simp [zC h147, zC h148, zC h84, zC h63, callF_eff h111 rfl, ↓orc_nil, callF_eff h102 rfl, callF_eff h149 rfl, -lenA, bC, zI, ↓hlt1, HH1, HH2]; rfl) ?_)
     simp only [zT, zB]
     exact ⟨js.length - (k + 1), by omega, k + 1, i + 1, b1, by omega, rfl, by omega, by rw [hb2, hS], hbo, by simp [trim, zC h147, zC h148, zC h84, zC h63, callF_eff h111 rfl, ↓orc_nil, callF_eff h102 rfl, callF_eff h149 rfl, -lenA, bC, zI, ↓hlt1, HH1, HH2]⟩
    ·have hmi : ¬ i ∈ ([] : List Int) := by rw [hik]; exact hm
     have hS : tryS s js d ([] : List Int) b1 k = tryF s js d (([] : List Int) ++ [(k : Int)]) b1 := by unfold tryS; rw [if_neg hm]
     have hgd : js.getD k default = js[k] := by rw [List.getD_eq_getElem?_getD, List.getElem?_eq_getElem hk0]; rfl
     obtain ⟨hl1, hl2, hl3⟩ := lat_snoc hsh hnw hk0 hm
     have hnw2 := hnw.snoc hk0 hm
     have hdu : dueAt js k = js[k].due := by unfold dueAt; rw [hgd]
     have hpE : passE s js ([] : List Int) k = (passF s (runF s js ([] : List Int)).line js[k]).2.1 := by unfold passE; rw [hgd]
     rw [hdu, hpE] at hl1
     rw [hpE] at hl2 hl3
     have hrs : runF s js (([] : List Int) ++ [(k : Int)]) = runStep s js (runF s js ([] : List Int)) k := runF_snoc s js ([] : List Int) k
     have hln : (runF s js (([] : List Int) ++ [(k : Int)])).line = (passF s (runF s js ([] : List Int)).line js[k]).2.2 := by rw [hrs]; unfold runStep; simp only [Int.toNat_natCast, hgd]
     have hpass : sPass [.agg [I s.mach, c, t, .vl rs tj], .ref 0 0 0, .agg [I js[k].kind, I js[k].ready, I js[k].due, wv]] [some (.row 12 [lineC (runF s js ([] : List Int)).line])] = some (.tup [.vl ((passF s (runF s js ([] : List Int)).line js[k]).1.map rI) false, I (passF s (runF s js ([] : List Int)).line js[k]).2.1], [some (.row 12 [lineC (passF s (runF s js ([] : List Int)).line js[k]).2.2])]) := by
      simp only [sPass, hc, ht, hj, hwv, dLine_of hLo.len]
      rw [if_pos ⟨hsh, hLo.mono (by omega), hjb.1, by have := hjb.2.1; simp only; omega, hjb.2.2.2.1, fun n hn => by have := hjb.2.2.2.2 n hn; omega⟩]
     have hbd2 := try_bd hsh d _ b1 hnw2 hbo
     have hpl : oPlus [.agg [I su, I en], .agg [I js[k].kind, I js[k].ready, I js[k].due, wv], I (passF s (runF s js ([] : List Int)).line js[k]).2.1] = some (.agg [I (latO s js (([] : List Int) ++ [(k : Int)])).1, I (latO s js (([] : List Int) ++ [(k : Int)])).2]) := by
      have := hjb.2.2.1
      simp only [oPlus, hwv]
      rw [if_pos ⟨⟨by omega, by omega⟩, ⟨by omega, by omega⟩, ⟨by omega, by omega⟩⟩, hl1, hx, hy]
     have hTk : TryOk D s js (([] : List Int) ++ [(k : Int)]) (lineC (runF s js (([] : List Int) ++ [(k : Int)])).line) (latO s js (([] : List Int) ++ [(k : Int)])).1 (latO s js (([] : List Int) ++ [(k : Int)])).2 (encV b1.order) b1.order b1.sum b1.last :=
      ⟨hsh, by have := hnw2.len; omega, by rw [show js.length - (([] : List Int) ++ [(k : Int)]).length = d by have := hnw2.len; omega]; exact hnw2, rfl, rfl, rfl, hbo⟩
     have htr := sTry_sl hc ht hj hTk (by simp)
     rw [show js.length - (([] : List Int) ++ [(k : Int)]).length = d by have := hnw2.len; omega] at htr
     simp only [bC] at htr
     rw [hS] at hb2
     rw [hln] at htr
     have hlr2 := fun n d => lineC_rb n d (passF s (runF s js ([] : List Int)).line js[k]).2.2
     have hll2 : (lineC (passF s (runF s js ([] : List Int)).line js[k]).2.2).length = 12 := by
      rw [lineC_len, ← hln, (runF_ok hsh (os := ([] : List Int) ++ [(k : Int)]) (by have := hnw2.len; omega) hnw2.mem).line.len]
     have hlt3 : (lineC (passF s (runF s js ([] : List Int)).line js[k]).2.2).take 12 = lineC (passF s (runF s js ([] : List Int)).line js[k]).2.2 := List.take_of_length_le (by omega)
     have hls2 := lineC_st (passF s (runF s js ([] : List Int)).line js[k]).2.2
     generalize latO s js (([] : List Int) ++ [(k : Int)]) = LT at *
     obtain ⟨su2, en2⟩ := LT
     generalize (passF s (runF s js ([] : List Int)).line js[k]).2.2 = L2 at *
     generalize (passF s (runF s js ([] : List Int)).line js[k]).2.1 = E2 at *
     generalize (passF s (runF s js ([] : List Int)).line js[k]).1 = S2 at *
     generalize tryF s js d (([] : List Int) ++ [(k : Int)]) b1 = b2 at *
     rw [← hik] at htr
     have hnl : (([] : List Int) ++ [i]).length = ([] : List Int).length + 1 := by simp
     have hnx : (([] : List Int) ++ [i]).map rI = ([] : List Int).map rI ++ [[I i]] := by rw [List.map_append]; rfl
     rw [hnl, hnx] at htr
     have rbX : ∀ n, (((([] : List Int)).map rI ++ [[I i]]).all fun r => r.all (rb n 5)) = true := fun n => by rw [← hnx]; exact rI_rb n 4 _
     have feb1 := fun H d => dInts_frz (dInts_encV b1.order) H d
     have cl1 : ((([] : List Int).map rI ++ [[I i]]).all fun r => r.length == 1) = true := by simp [rI]
     have fnX : ∀ n H, optAll (optAll (frN n H 5)) (([] : List Int).map rI ++ [[I i]]) = some (([] : List Int).map rI ++ [[I i]]) := fun n H => by rw [← hnx]; exact frN_mapI n H 4 _
     simp only [List.nil_append, List.map_nil, List.length_nil, Nat.zero_add] at htr rbX cl1 fnX
     have HH3 := zA hi0 (zA htn (zA hk0 (zA hwi (zA hkr (zA hr2 (zA hr4 (zA rw5 (zA fw5 (zA cw1 (zA cw2 (zA hmi (zA hpass (zA hpl (zA htr (zA hlr2 (zA hll2 hls2))))))))))))))))
     have HH4 := zA hlt1 (zA hlt3 (zA rbX (zA cl1 fnX)))
     refine zK ?_
     simp only [zT, zB]
     refine zS ?_
     refine zL ?_
     refine zS ?_
     refine zR (zO (by simp [zC h147, zC h148, zC h84, zC h63, callF_eff h111 rfl, ↓orc_nil, callF_eff h102 rfl, callF_eff h149 rfl, -lenA, bC, zI, HH1, HH3, ↓HH4]; rfl) ?_)
     simp only [zT, zB]
     refine zS ?_
     refine zS ?_
     refine zR (zO (by simp [zC h147, zC h148, zC h84, zC h63, callF_eff h111 rfl, ↓orc_nil, callF_eff h102 rfl, callF_eff h149 rfl, -lenA, bC, zI, HH1, HH3, ↓HH4]; rfl) ?_)
     simp only [zT, zB]
     refine runs_cond (x := false) (by simp [hmi]) ?_
     refine zK ?_
     simp only [zT, zB]
     refine zS ?_
     refine zR (zO (by simp [zC h147, zC h148, zC h84, zC h63, callF_eff h111 rfl, ↓orc_nil, callF_eff h102 rfl, callF_eff h149 rfl, -lenA, bC, zI, HH1, HH3, ↓HH4]; rfl) ?_)
     simp only [zT, zB]
     refine zS ?_
     refine runs_drw (by simp (maxSteps := 3000000) [zC h147, zC h148, zC h84, zC h63, callF_eff h111 rfl, ↓orc_nil, callF_eff h102 rfl, callF_eff h149 rfl, -lenA, bC, zI, HH1, HH3, ↓HH4]; rfl) ?_
     simp only [zT, zB]
     refine runs_drw (by simp (maxSteps := 3000000) [zC h147, zC h148, zC h84, zC h63, callF_eff h111 rfl, ↓orc_nil, callF_eff h102 rfl, callF_eff h149 rfl, -lenA, bC, zI, HH1, HH3, ↓HH4]; rfl) ?_
     simp only [zT, zB]
     refine zR (zO (by simp [zC h147, zC h148, zC h84, zC h63, callF_eff h111 rfl, ↓orc_nil, callF_eff h102 rfl, callF_eff h149 rfl, -lenA, bC, zI, HH1, HH3, ↓HH4]; rfl) ?_)
     simp only [zT, zB]
     exact ⟨js.length - (k + 1), by omega, k + 1, i + 1, b2, by omega, rfl, by omega, hb2.symm, hbd2, by simp [trim, zC h147, zC h148, zC h84, zC h63, callF_eff h111 rfl, ↓orc_nil, callF_eff h102 rfl, callF_eff h149 rfl, -lenA, bC, zI, HH1, HH3, ↓HH4]⟩
   ·have hlt2 := of_decide_eq_false hlt2
    have hkE : k = js.length := by omega
    subst hkE
    rw [← hb1]
    refine runs_exit ?_
    simp only [zT, zB, if_true, if_false, reduceIte, Nat.reduceEqDiff, Nat.succ_ne_zero, Nat.one_ne_zero, Nat.zero_ne_one]
    simp [zC h147, zC h148, zC h84, zC h63, callF_eff h111 rfl, ↓orc_nil, callF_eff h102 rfl, callF_eff h149 rfl, -lenA, bC, zI, ↓hlt1, HH1, trim]
 ·refine runs_cond (x := true) (by simp [hwb]) ?_
  have hres : tryF s js (js.length - ([] : List Int).length) ([] : List Int) b = b := tryF_worse hwb
  rw [hres]
  refine runs_ret ?_
  simp [zC h147, zC h148, zC h84, zC h63, callF_eff h111 rfl, ↓orc_nil, callF_eff h102 rfl, callF_eff h149 rfl, -lenA, bC, zI, ↓hlt1, HH1, trim]
theorem a111_1 (P : Program) (T : Nat → Option CFn) (D : Nat) (hT : T 111 = some { c111 with frsh := false, orc := fun _ => none, eff := frameE (sTry D) }) (h147 : T 147 = some { c147 with frsh := true, orc := oWorse }) (h148 : T 148 = some { c148 with frsh := true, orc := oCloI }) (h149 : T 149 = some { c149 with frsh := false, orc := fun _ => none, eff := frameE sClip }) (h84 : T 84 = some { c84 with frsh := true, orc := oCont }) (h63 : T 63 = some { c63 with frsh := true, orc := oPlus }) (h102 : T 102 = some { c102 with body := annK [(229738, [.slot 6])] [] c102.body, frsh := false, orc := fun _ => none, eff := frameE sPass }) (s : FShop) (js : List FJob) (c t j : AVal) (hc : dInts2 c = some s.chg) (ht : dStops t = some s.stops) (hj : dJobs j = some js) (b : FBest) (lc : List AVal) (su en : Int) (now : List Int) (hok : TryOk (D + 1) s js now lc su en (encV b.order) b.order b.sum b.last) (hlev : js.length - now.length = D) (hn1 : 1 ≤ now.length) (he : frameE (sTry D) [.ref 0 0 0, .sl 1 0 now.length false, .agg lc, .agg [I su, I en]] [some (.row 8 [bC s.mach c t j b]), some (.row 1 (now.map rI))] = none) : Answers P T 111 [.ref 0 0 0, .sl 1 0 now.length false, .agg lc, .agg [I su, I en]] [some (.row 8 [bC s.mach c t j b]), some (.row 1 (now.map rI))] fun v1 h1 => norm 2 v1 h1 = some (.tup [], [some (.row 8 [bC s.mach c t j (tryF s js (js.length - now.length) now b)]), some (.row 1 (now.map rI))]) := by
 have fc := fun H d => dInts2_frz hc H d
 have ft := fun H d => dStops_frz ht H d
 have fj := fun H d => dJobs_frz hj H d
 have rc := fun n d => dInts2_rb hc n d
 have rt := fun n d => dStops_rb ht n d
 have rj := fun n d => dJobs_rb hj n d
 have lc := dInts2_len hc
 have lt := dStops_len ht
 have lj := dJobs_len hj
 obtain ⟨cc1, cc2⟩ := dInts2_cells hc
 obtain ⟨ct1, ct2⟩ := dStops_cells ht
 obtain ⟨cj1, cj2⟩ := dJobs_cells hj
 have h111 := hT
 obtain ⟨hsh, hlt, hnw, hline, hlat, hbv, hbb⟩ := hok
 have feb := fun (b : FBest) H d => dInts_frz (dInts_encV b.order) H d
 have reb := fun (b : FBest) n d => dInts_rb (dInts_encV b.order) n d
 have ceb1 := fun (b : FBest) => (dInts_cells (dInts_encV b.order)).1
 have ceb2 := fun (b : FBest) => (dInts_cells (dInts_encV b.order)).2
 have fnb := fun (b : FBest) n H d => rowsV_frN (dInts_rows (dInts_encV b.order)) n H d
 have fnc := fun n H d => let ⟨_, h1, _⟩ := dInts2_rows hc; rowsV_frN h1 n H d
 have fnt := fun n H d => rowsV_frN (dStops_rows ht) n H d
 have fnj := fun n H d => let ⟨_, h1, _⟩ := dJobs_rows hj; rowsV_frN h1 n H d
 have hn6 := hsh.njob
 have hlb := lat_bd hsh hnw
 have hrun := runF_ok hsh (os := now) (by have := hnw.len; omega) hnw.mem
 have hL4 := hrun.line.len
 have hLo := hrun.line
 subst hline
 have hx := congrArg Prod.fst hlat
 have hy := congrArg Prod.snd hlat
 simp only at hx hy
 have hwo := oWorse_eq (m := s.mach) hc ht hj (b := b) hbb (x := latO s js now) ⟨⟨by omega, by omega⟩, ⟨by omega, by omega⟩⟩
 rw [← hx, ← hy] at hwo
 simp only [bC] at hwo
 have hlr := fun n d => lineC_rb n d (runF s js now).line
 have hll : (lineC (runF s js now).line).length = 12 := by rw [lineC_len, hL4]
 have hno6 : now.length ≤ 6 := by have := hnw.len; omega
 have hlt1 : (lineC (runF s js now).line).take 12 = lineC (runF s js now).line := List.take_of_length_le (by omega)
 have hls1 := lineC_st (runF s js now).line
 have hne : now ≠ [] := by intro e; rw [e] at hn1; simp at hn1
 have fzN := fun nv H d => frz_mapI nv H d now
 have hn48 : now.length + 1 ≤ 1048576 := by omega
 have hn47 : now.length ≤ 1048575 := by omega
 have rbN := fun n => rI_rb n 4 now
 have fnN := fun n H => frN_mapI n H 4 now
 have tkN : (now.map rI).take now.length = now.map rI := List.take_of_length_le (by simp)
 have hcl : oCloI [.vl (now.map rI) false] = some (encV now) := by simp only [oCloI, dI1_self]; rw [if_pos (by omega), if_neg hne, encV_ne hne]
 have hcp := sClip_sl now
 have hct : ∀ i : Int, oCont [.vl (now.map rI) false, I i] = some (.bool (decide (i ∈ now))) := fun i => by simp only [oCont, dInts_vl]; rw [if_pos (by omega)]
 have fen := fun H d => dInts_frz (dInts_encV now) H d
 have ren := fun n d => dInts_rb (dInts_encV now) n d
 obtain ⟨cen1, cen2⟩ := dInts_cells (dInts_encV now)
 have fnn := fun n H d => rowsV_frN (dInts_rows (dInts_encV now)) n H d
 have lov : lenA (.sl 1 0 now.length false) = some now.length := rfl
 refine answers_of hT (orcF_none rfl) ?_ he
 simp only [oo, om, op, og, ci, cl, c111]
 have HH1 := zA h147 (zA h148 (zA h84 (zA h63 (zA h111 (zA h102 (zA h149 (zA fc (zA ft (zA fj (zA rc (zA rt (zA rj (zA lc (zA lt (zA lj (zA cc1 (zA cc2 (zA ct1 (zA ct2 (zA cj1 (zA cj2 (zA feb (zA reb (zA ceb1 (zA ceb2 (zA fnb (zA fnc (zA fnt (zA fnj (zA hwo (zA hn48 (zA hn47 (zA hcl (zA hcp (zA hct (zA hlr (zA hll (zA hls1 (zA fen (zA ren (zA cen1 (zA cen2 (zA fnn lov)))))))))))))))))))))))))))))))))))))))))))
 have HH2 := zA fzN (zA rbN (zA fnN (zA tkN hlt1)))
 refine zS ?_
 refine zR (zO (by simp [zC h147, zC h148, zC h84, zC h63, callF_eff h111 rfl, ↓orc_nil, callF_eff h102 rfl, callF_eff h149 rfl, -lenA, bC, zI, HH1, ↓HH2]; rfl) ?_)
 simp only [zT, zB]
 refine zS ?_
 refine zS ?_
 refine zR (zO (by simp [zC h147, zC h148, zC h84, zC h63, callF_eff h111 rfl, ↓orc_nil, callF_eff h102 rfl, callF_eff h149 rfl, -lenA, bC, zI, HH1, ↓HH2]; rfl) ?_)
 simp only [zT, zB]
 rcases hwb : worseB b (latO s js now) with _ | _
 ·refine runs_cond (x := false) (by simp [hwb]) ?_
  refine zK ?_
  simp only [zT, zB]
  refine zS ?_
  refine zS ?_
  refine zR (zO (by simp [zC h147, zC h148, zC h84, zC h63, callF_eff h111 rfl, ↓orc_nil, callF_eff h102 rfl, callF_eff h149 rfl, -lenA, bC, zI, HH1, ↓HH2]; rfl) ?_)
  simp only [zT, zB]
  by_cases hle : now.length = js.length
  ·refine runs_cond (x := true) (by simp [← hle]) ?_
   have hres : tryF s js (js.length - now.length) now b = ⟨now, su, en, true⟩ := by
    rw [show js.length - now.length = 0 by omega]
    simp only [tryF]
    rw [if_neg (by rw [hwb]; simp), hx, hy]
   rw [hres]
   refine zS ?_
   refine runs_drw (by simp (maxSteps := 3000000) [zC h147, zC h148, zC h84, zC h63, callF_eff h111 rfl, ↓orc_nil, callF_eff h102 rfl, callF_eff h149 rfl, -lenA, bC, zI, HH1, ↓HH2]; rfl) ?_
   simp only [zT, zB]
   refine runs_ret ?_
   simp [zC h147, zC h148, zC h84, zC h63, callF_eff h111 rfl, ↓orc_nil, callF_eff h102 rfl, callF_eff h149 rfl, -lenA, bC, zI, HH1, ↓HH2, trim]
  ·refine runs_cond (x := false) (by simp; omega) ?_
   obtain ⟨d, hd⟩ : ∃ d, js.length - now.length = d + 1 := ⟨js.length - now.length - 1, by have := hnw.len; omega⟩
   rw [hd, tryF_succ (by rw [hwb]; simp)]
   rw [hd] at hnw
   have hlen := hnw.len
   have h0len : ([] : List Int).length = 0 := rfl
   refine zK ?_
   simp only [zT, zB]
   refine zS ?_
   refine zR (zO (by simp [zC h147, zC h148, zC h84, zC h63, callF_eff h111 rfl, ↓orc_nil, callF_eff h102 rfl, callF_eff h149 rfl, -lenA, bC, zI, HH1, ↓HH2]; rfl) ?_)
   simp only [zT, zB]
   refine zL ?_
   refine runs_loop_inv (fun m σ => ∃ (k : Nat) (i : Int) (b1 : FBest), i = k ∧ js.length - k = m ∧ k ≤ js.length ∧ b1 = (List.range k).foldl (tryS s js d now) b ∧ bOk b1 ∧ σ = ⟨[.ref 0 0 0, .sl 1 0 now.length false, .any, .any, .any, .any, .ref 2 0 0, .ref 3 0 0, .any, .any, .any, .any, .any, .any, .any, .any, .any, .any, .any, .any, .any, .any, .any, .any, .any, .any, .any, .any, .any, .any, .any, .any, .any, .any, .any, .any, .any, .any, .any, .any, .any, j, I js.length, I i, .any, .any, .any, .any, .any, .any, .any, .any, .any, .any, .any, .any, .any, .any, .any, .any, .any, .any, .any, .any, .any, .any, .any, .any, .any, .any, .any, .any, .any, .any], [some (.row 8 [[I s.mach, c, t, j, encV b1.order, I b1.sum, I b1.last, .bool b1.found]]), some (.row 1 (now.map rI)), some (.row 12 [lineC (runF s js now).line]), some (.row 2 [[I su, I en]])]⟩) ?_ (js.length - 0) _ ⟨0, 0, b, rfl, rfl, Nat.zero_le _, rfl, hbb, by simp⟩
   rintro m σ ⟨k, i, b1, hik, rfl, hkl, hb1, hbo, rfl⟩
   refine zS ?_
   refine zR (zO (by simp [zC h147, zC h148, zC h84, zC h63, callF_eff h111 rfl, ↓orc_nil, callF_eff h102 rfl, callF_eff h149 rfl, -lenA, bC, zI, HH1, ↓HH2]; rfl) ?_)
   simp only [zT, zB]
   refine zS ?_
   refine runs_cond_split (x := decide (i < (js.length : Int))) (by simp) (fun hlt2 => ?_) (fun hlt2 => ?_)
   ·have hlt2 := of_decide_eq_true hlt2
    have hk0 : k < js.length := by omega
    obtain ⟨rs, tj, wv, rfl, hr1, hr2, hwv⟩ := dJobs_get hj hk0
    have hkr : k < rs.length := by omega
    have hr4 : ∀ h, rs[k]'h = [I js[k].kind, I js[k].ready, I js[k].due, wv] := fun h => by rw [List.getElem?_eq_getElem h] at hr2; exact Option.some.inj hr2
    have rw5 := fun n d => dInts_rb hwv n d
    have fw5 := fun H d => dInts_frz hwv H d
    obtain ⟨cw1, cw2⟩ := dInts_cells hwv
    have hjb := hsh.job _ (List.getElem_mem hk0)
    have hi0 : 0 ≤ i := by omega
    have htn : i.toNat = k := by omega
    have hwi : W .i64 (i + 1) = i + 1 := W_small (by omega)
    have hb2 : (List.range (k + 1)).foldl (tryS s js d now) b = tryS s js d now b1 k := by rw [List.range_succ, List.foldl_append, ← hb1]; rfl
    by_cases hm : (k : Int) ∈ now
    ·have hS : tryS s js d now b1 k = b1 := by unfold tryS; rw [if_pos hm]
     have hmi : i ∈ now := by rw [hik]; exact hm
     have HH3 := zA hi0 (zA htn (zA hk0 (zA hwi (zA hkr (zA hr2 (zA hr4 (zA rw5 (zA fw5 (zA cw1 (zA cw2 hmi))))))))))
     refine zK ?_
     simp only [zT, zB]
     refine zS ?_
     refine zL ?_
     refine zS ?_
     refine zR (zO (by simp [zC h147, zC h148, zC h84, zC h63, callF_eff h111 rfl, ↓orc_nil, callF_eff h102 rfl, callF_eff h149 rfl, -lenA, bC, zI, HH1, ↓HH2, HH3]; rfl) ?_)
     simp only [zT, zB]
     refine zS ?_
     refine zS ?_
     refine zR (zO (by simp [zC h147, zC h148, zC h84, zC h63, callF_eff h111 rfl, ↓orc_nil, callF_eff h102 rfl, callF_eff h149 rfl, -lenA, bC, zI, HH1, ↓HH2, HH3]; rfl) ?_)
     simp only [zT, zB]
     refine runs_cond (x := true) (by simp [hmi]) ?_
     refine runs_exit ?_
     simp only [zT, zB, if_true, if_false, reduceIte, Nat.reduceEqDiff, Nat.succ_ne_zero, Nat.one_ne_zero, Nat.zero_ne_one]
     refine zR (zO (by simp [zC h147, zC h148, zC h84, zC h63, callF_eff h111 rfl, ↓orc_nil, callF_eff h102 rfl, callF_eff h149 rfl, -lenA, bC, zI, HH1, ↓HH2, HH3]; rfl) ?_)
     simp only [zT, zB]
     exact ⟨js.length - (k + 1), by omega, k + 1, i + 1, b1, by omega, rfl, by omega, by rw [hb2, hS], hbo, by simp [trim, zC h147, zC h148, zC h84, zC h63, callF_eff h111 rfl, ↓orc_nil, callF_eff h102 rfl, callF_eff h149 rfl, -lenA, bC, zI, HH1, ↓HH2, HH3]⟩
    ·have hmi : ¬ i ∈ now := by rw [hik]; exact hm
     have hS : tryS s js d now b1 k = tryF s js d (now ++ [(k : Int)]) b1 := by unfold tryS; rw [if_neg hm]
     have hgd : js.getD k default = js[k] := by rw [List.getD_eq_getElem?_getD, List.getElem?_eq_getElem hk0]; rfl
     obtain ⟨hl1, hl2, hl3⟩ := lat_snoc hsh hnw hk0 hm
     have hnw2 := hnw.snoc hk0 hm
     have hdu : dueAt js k = js[k].due := by unfold dueAt; rw [hgd]
     have hpE : passE s js now k = (passF s (runF s js now).line js[k]).2.1 := by unfold passE; rw [hgd]
     rw [hdu, hpE] at hl1
     rw [hpE] at hl2 hl3
     have hrs : runF s js (now ++ [(k : Int)]) = runStep s js (runF s js now) k := runF_snoc s js now k
     have hln : (runF s js (now ++ [(k : Int)])).line = (passF s (runF s js now).line js[k]).2.2 := by rw [hrs]; unfold runStep; simp only [Int.toNat_natCast, hgd]
     have hpass : sPass [.agg [I s.mach, c, t, .vl rs tj], .ref 0 0 0, .agg [I js[k].kind, I js[k].ready, I js[k].due, wv]] [some (.row 12 [lineC (runF s js now).line])] = some (.tup [.vl ((passF s (runF s js now).line js[k]).1.map rI) false, I (passF s (runF s js now).line js[k]).2.1], [some (.row 12 [lineC (passF s (runF s js now).line js[k]).2.2])]) := by
      simp only [sPass, hc, ht, hj, hwv, dLine_of hLo.len]
      rw [if_pos ⟨hsh, hLo.mono (by omega), hjb.1, by have := hjb.2.1; simp only; omega, hjb.2.2.2.1, fun n hn => by have := hjb.2.2.2.2 n hn; omega⟩]
     have hbd2 := try_bd hsh d _ b1 hnw2 hbo
     have hpl : oPlus [.agg [I su, I en], .agg [I js[k].kind, I js[k].ready, I js[k].due, wv], I (passF s (runF s js now).line js[k]).2.1] = some (.agg [I (latO s js (now ++ [(k : Int)])).1, I (latO s js (now ++ [(k : Int)])).2]) := by
      have := hjb.2.2.1
      simp only [oPlus, hwv]
      rw [if_pos ⟨⟨by omega, by omega⟩, ⟨by omega, by omega⟩, ⟨by omega, by omega⟩⟩, hl1, hx, hy]
     have hTk : TryOk D s js (now ++ [(k : Int)]) (lineC (runF s js (now ++ [(k : Int)])).line) (latO s js (now ++ [(k : Int)])).1 (latO s js (now ++ [(k : Int)])).2 (encV b1.order) b1.order b1.sum b1.last :=
      ⟨hsh, by have := hnw2.len; omega, by rw [show js.length - (now ++ [(k : Int)]).length = d by have := hnw2.len; omega]; exact hnw2, rfl, rfl, rfl, hbo⟩
     have htr := sTry_sl hc ht hj hTk (by simp)
     rw [show js.length - (now ++ [(k : Int)]).length = d by have := hnw2.len; omega] at htr
     simp only [bC] at htr
     rw [hS] at hb2
     rw [hln] at htr
     have hlr2 := fun n d => lineC_rb n d (passF s (runF s js now).line js[k]).2.2
     have hll2 : (lineC (passF s (runF s js now).line js[k]).2.2).length = 12 := by
      rw [lineC_len, ← hln, (runF_ok hsh (os := now ++ [(k : Int)]) (by have := hnw2.len; omega) hnw2.mem).line.len]
     have hlt3 : (lineC (passF s (runF s js now).line js[k]).2.2).take 12 = lineC (passF s (runF s js now).line js[k]).2.2 := List.take_of_length_le (by omega)
     have hls2 := lineC_st (passF s (runF s js now).line js[k]).2.2
     generalize latO s js (now ++ [(k : Int)]) = LT at *
     obtain ⟨su2, en2⟩ := LT
     generalize (passF s (runF s js now).line js[k]).2.2 = L2 at *
     generalize (passF s (runF s js now).line js[k]).2.1 = E2 at *
     generalize (passF s (runF s js now).line js[k]).1 = S2 at *
     generalize tryF s js d (now ++ [(k : Int)]) b1 = b2 at *
     rw [← hik] at htr
     have hnl : (now ++ [i]).length = now.length + 1 := by simp
     have hnx : (now ++ [i]).map rI = now.map rI ++ [[I i]] := by rw [List.map_append]; rfl
     rw [hnl, hnx] at htr
     have rbX : ∀ n, (((now).map rI ++ [[I i]]).all fun r => r.all (rb n 5)) = true := fun n => by rw [← hnx]; exact rI_rb n 4 _
     have feb1 := fun H d => dInts_frz (dInts_encV b1.order) H d
     have cl1 : ((now.map rI ++ [[I i]]).all fun r => r.length == 1) = true := by simp [rI]
     have fnX : ∀ n H, optAll (optAll (frN n H 5)) (now.map rI ++ [[I i]]) = some (now.map rI ++ [[I i]]) := fun n H => by rw [← hnx]; exact frN_mapI n H 4 _
     have HH4 := zA hi0 (zA htn (zA hk0 (zA hwi (zA hkr (zA hr2 (zA hr4 (zA rw5 (zA fw5 (zA cw1 (zA cw2 (zA hmi (zA hpass (zA hpl (zA htr (zA hlr2 (zA hll2 hls2))))))))))))))))
     refine zK ?_
     simp only [zT, zB]
     refine zS ?_
     refine zL ?_
     refine zS ?_
     refine zR (zO (by simp [zC h147, zC h148, zC h84, zC h63, callF_eff h111 rfl, ↓orc_nil, callF_eff h102 rfl, callF_eff h149 rfl, -lenA, bC, zI, HH1, ↓HH2, ↓hlt3, ↓rbX, ↓cl1, ↓fnX, HH4]; rfl) ?_)
     simp only [zT, zB]
     refine zS ?_
     refine zS ?_
     refine zR (zO (by simp [zC h147, zC h148, zC h84, zC h63, callF_eff h111 rfl, ↓orc_nil, callF_eff h102 rfl, callF_eff h149 rfl, -lenA, bC, zI, HH1, ↓HH2, ↓hlt3, ↓rbX, ↓cl1, ↓fnX, HH4]; rfl) ?_)
     simp only [zT, zB]
     refine runs_cond (x := false) (by simp [hmi]) ?_
     refine zK ?_
     simp only [zT, zB]
     refine zS ?_
     refine zR (zO (by simp [zC h147, zC h148, zC h84, zC h63, callF_eff h111 rfl, ↓orc_nil, callF_eff h102 rfl, callF_eff h149 rfl, -lenA, bC, zI, HH1, ↓HH2, ↓hlt3, ↓rbX, ↓cl1, ↓fnX, HH4]; rfl) ?_)
     simp only [zT, zB]
     refine zS ?_
     refine runs_drw (by simp (maxSteps := 3000000) [zC h147, zC h148, zC h84, zC h63, callF_eff h111 rfl, ↓orc_nil, callF_eff h102 rfl, callF_eff h149 rfl, -lenA, bC, zI, HH1, ↓HH2, ↓hlt3, ↓rbX, ↓cl1, ↓fnX, HH4]; rfl) ?_
     simp only [zT, zB]
     refine runs_drw (by simp (maxSteps := 3000000) [zC h147, zC h148, zC h84, zC h63, callF_eff h111 rfl, ↓orc_nil, callF_eff h102 rfl, callF_eff h149 rfl, -lenA, bC, zI, HH1, ↓HH2, ↓hlt3, ↓rbX, ↓cl1, ↓fnX, HH4]; rfl) ?_
     simp only [zT, zB]
     refine zR (zO (by simp [zC h147, zC h148, zC h84, zC h63, callF_eff h111 rfl, ↓orc_nil, callF_eff h102 rfl, callF_eff h149 rfl, -lenA, bC, zI, HH1, ↓HH2, ↓hlt3, ↓rbX, ↓cl1, ↓fnX, HH4]; rfl) ?_)
     simp only [zT, zB]
     exact ⟨js.length - (k + 1), by omega, k + 1, i + 1, b2, by omega, rfl, by omega, hb2.symm, hbd2, by simp [trim, zC h147, zC h148, zC h84, zC h63, callF_eff h111 rfl, ↓orc_nil, callF_eff h102 rfl, callF_eff h149 rfl, -lenA, bC, zI, HH1, ↓HH2, ↓hlt3, ↓rbX, ↓cl1, ↓fnX, HH4]⟩
   ·have hlt2 := of_decide_eq_false hlt2
    have hkE : k = js.length := by omega
    subst hkE
    rw [← hb1]
    refine runs_exit ?_
    simp only [zT, zB, if_true, if_false, reduceIte, Nat.reduceEqDiff, Nat.succ_ne_zero, Nat.one_ne_zero, Nat.zero_ne_one]
    simp [zC h147, zC h148, zC h84, zC h63, callF_eff h111 rfl, ↓orc_nil, callF_eff h102 rfl, callF_eff h149 rfl, -lenA, bC, zI, HH1, ↓HH2, trim]
 ·refine runs_cond (x := true) (by simp [hwb]) ?_
  have hres : tryF s js (js.length - now.length) now b = b := tryF_worse hwb
  rw [hres]
  refine runs_ret ?_
  simp [zC h147, zC h148, zC h84, zC h63, callF_eff h111 rfl, ↓orc_nil, callF_eff h102 rfl, callF_eff h149 rfl, -lenA, bC, zI, HH1, ↓HH2, trim]
end
section
attribute [local simp] backA backA1 callA calleeA flatAt flatBlk frameE lim lop loud posOf ptrs putH renA setH
noncomputable def BB0 : Nat → Option CFn := upd BA 84 true oCont
theorem BB0_ok : TabOk Tryz.prog GG BB0 := tab_upd BA_ok cont_good
noncomputable def BB1 : Nat → Option CFn := upd BB0 111 false (fun _ => none)
theorem BB1_ok : TabOk Tryz.prog GG BB1 := tab_add mixed BB0_ok fun args v ho => by simp at ho
noncomputable def tT : Nat → Nat → Option CFn
  | 0 => updE BB1 111 (frameE (sTry 0))
  | D + 1 => updE (tT D) 111 (frameE (sTry (D + 1)))
theorem tT_at (D : Nat) : tT D 111 = some { c111 with frsh := false, orc := fun _ => none, eff := frameE (sTry D) } := by
  induction D with
  | zero => rfl
  | succ D ih => show updE (tT D) 111 (frameE (sTry (D + 1))) 111 = _; unfold updE; rw [if_pos rfl, ih]
theorem tT_ne (D : Nat) {f : Nat} (h : ¬ f = 111) : tT D f = BB1 f := by
  induction D with
  | zero => show updE BB1 111 (frameE (sTry 0)) f = _; unfold updE; rw [if_neg h]
  | succ D ih => show updE (tT D) 111 (frameE (sTry (D + 1))) f = _; unfold updE; rw [if_neg h, ih]
theorem fr_none0 {sp : List AVal → Heap → Option (AVal × Heap)} {lc r : List AVal} {su en : Int} (h : sp [.ref 0 0 0, .nils, .agg lc, .agg [I su, I en]] [some (.row 8 [r])] = none) (hl : ∀ n d, lc.all (rb n (d + 1)) = true) (hr : ∀ n d, r.all (rb n (d + 1)) = true) : frameE sp [.ref 0 0 0, .nils, .agg lc, .agg [I su, I en]] [some (.row 8 [r])] = none := by
  simp [hl, hr, h]
theorem fr_none1 {sp : List AVal → Heap → Option (AVal × Heap)} {lc r : List AVal} {su en : Int} {n : Nat} {rs : List (List AVal)} (h : sp [.ref 0 0 0, .sl 1 0 n false, .agg lc, .agg [I su, I en]] [some (.row 8 [r]), some (.row 1 rs)] = none) (hl : ∀ n d, lc.all (rb n (d + 1)) = true) (hr : ∀ n d, r.all (rb n (d + 1)) = true) (hs : ∀ n d, (rs.all fun r => r.all (rb n (d + 1))) = true) : frameE sp [.ref 0 0 0, .sl 1 0 n false, .agg lc, .agg [I su, I en]] [some (.row 8 [r]), some (.row 1 rs)] = none := by
  simp [hl, hr, ↓hs, h]
theorem TryOk.up {D : Nat} {s : FShop} {js : List FJob} {now lc su en bv bo bs be} (h : TryOk (D + 1) s js now lc su en bv bo bs be) (hd : js.length - now.length < D) : TryOk D s js now lc su en bv bo bs be := ⟨h.ok, hd, h.nw, h.line, h.lat, h.bv, h.bb⟩
theorem tT_ok : ∀ D, TabOk Tryz.prog GG (tT D)
  | 0 => tab_frame mixed BB1_ok fun args h v h' ho => by
    unfold sTry at ho
    split at ho <;> (try simp only [reduceCtorEq] at ho)
    · split at ho <;> (try simp only [reduceCtorEq] at ho)
      split at ho <;> (try simp only [reduceCtorEq] at ho)
      rename_i hg
      exact absurd hg.lt (Nat.not_lt_zero _)
    · split at ho <;> (try simp only [reduceCtorEq] at ho)
      split at ho <;> (try simp only [reduceCtorEq] at ho)
      rename_i hg
      exact absurd hg.1.lt (Nat.not_lt_zero _)
  | D + 1 => tab_frame2 mixed (tT_ok D) (sp := sTry D) (tab_eff (tT_ok D) (tT_at D)) fun args h v h' ho => by
    unfold sTry at ho
    split at ho <;> (try simp only [reduceCtorEq] at ho)
    · rename_i lc su en m c t j bv bs be fo
      split at ho <;> (try simp only [reduceCtorEq] at ho)
      rename_i cs ts js bo hc ht hj hb
      split at ho <;> (try simp only [reduceCtorEq] at ho)
      rename_i hg
      simp only [Option.some.injEq, Prod.mk.injEq] at ho
      obtain ⟨rfl, rfl⟩ := ho
      by_cases hl : js.length < D
      · left
        simp only [sTry, hc, ht, hj, hb]
        rw [if_pos (hg.up hl)]
      · right
        have hlv : js.length - ([] : List Int).length = D := by have := hg.lt; simp at this ⊢; omega
        obtain rfl := hg.bv
        have hn : sTry D [.ref 0 0 0, .nils, .agg lc, .agg [I su, I en]] [some (.row 8 [bC m c t j ⟨bo, bs, be, fo⟩])] = none := by
          simp only [sTry, bC, hc, ht, hj, hb]
          rw [if_neg fun h => by have := h.lt; omega]
        have hli := hg.line
        exact a111_0 Tryz.prog (tT D) D (tT_at D) (tT_ne D (by decide)) (tT_ne D (by decide)) (tT_ne D (by decide)) (tT_ne D (by decide)) (tT_ne D (by decide)) (tT_ne D (by decide)) ⟨m, cs, ts⟩ js c t j hc ht hj ⟨bo, bs, be, fo⟩ lc su en [] hg hlv rfl (fr_none0 hn (fun n d => by rw [hli]; exact lineC_rb n d _) fun n d => bC_rb hc ht hj m _ n d)
    · rename_i n lc su en m c t j bv bs be fo rs
      split at ho <;> (try simp only [reduceCtorEq] at ho)
      rename_i cs ts js bo now hc ht hj hb hnw
      split at ho <;> (try simp only [reduceCtorEq] at ho)
      rename_i hg
      simp only [Option.some.injEq, Prod.mk.injEq] at ho
      obtain ⟨rfl, rfl⟩ := ho
      obtain ⟨hg, rfl, hn1⟩ := hg
      have e := optAll_eq (enc := rI) dI1_eq hnw
      subst e
      by_cases hl : js.length - now.length < D
      · left
        simp only [sTry, hc, ht, hj, hb, hnw]
        rw [if_pos ⟨hg.up hl, rfl, hn1⟩]
      · right
        have hlv : js.length - now.length = D := by have := hg.lt; omega
        obtain rfl := hg.bv
        have hn : sTry D [.ref 0 0 0, .sl 1 0 now.length false, .agg lc, .agg [I su, I en]] [some (.row 8 [bC m c t j ⟨bo, bs, be, fo⟩]), some (.row 1 (now.map rI))] = none := by
          simp only [sTry, bC, hc, ht, hj, hb, hnw]
          rw [if_neg fun h => by have := h.1.lt; omega]
        have hli := hg.line
        exact a111_1 Tryz.prog (tT D) D (tT_at D) (tT_ne D (by decide)) (tT_ne D (by decide)) (tT_ne D (by decide)) (tT_ne D (by decide)) (tT_ne D (by decide)) (tT_ne D (by decide)) ⟨m, cs, ts⟩ js c t j hc ht hj ⟨bo, bs, be, fo⟩ lc su en now hg hlv hn1 (fr_none1 hn (fun n d => by rw [hli]; exact lineC_rb n d _) (fun n d => bC_rb hc ht hj m _ n d) fun n d => rI_rb n d now)
noncomputable def bestF (s : FShop) (js : List FJob) : FBest := tryF s js js.length [] bz
open Classical in
noncomputable def oOrd : List AVal → Option AVal
  | [.agg [.int .i64 m, c, t, j]] => match dInts2 c, dStops t, dJobs j with
    | some cs, some ts, some js => if ShopOk ⟨m, cs, ts⟩ js then some (.tup [encV (bestF ⟨m, cs, ts⟩ js).order, .agg [I (bestF ⟨m, cs, ts⟩ js).sum, I (bestF ⟨m, cs, ts⟩ js).last]]) else none
    | _, _, _ => none
  | _ => none
theorem ord_eq {s : FShop} {js : List FJob} {c t j : AVal} (hc : dInts2 c = some s.chg) (ht : dStops t = some s.stops) (hj : dJobs j = some js) (h : ShopOk s js) : oOrd [.agg [I s.mach, c, t, j]] = some (.tup [encV (bestF s js).order, .agg [I (bestF s js).sum, I (bestF s js).last]]) := by
  simp only [oOrd, hc, ht, hj]
  rw [if_pos h]
theorem lat_nil {s : FShop} {js : List FJob} (h : ShopOk s js) : latO s js [] = (0, 0) := by
  have h0 : ∀ k, endAt (run0 js.length).ends k = 0 := fun k => by unfold endAt run0; rw [List.getD_eq_getElem?_getD, List.getElem?_replicate]; split <;> rfl
  have : ∀ k, latF (run0 js.length).ends js k = (0, 0) := fun k => by
    induction k with
    | zero => rfl
    | succ k ih =>
      have hd := due_nn h k
      simp only [latF, ih, h0]
      rw [Prod.mk.injEq]
      exact ⟨by omega, by omega⟩
  exact this js.length
theorem a71 (P : Program) (T : Nat → Option CFn) (hT : T 71 = some c71) (h111 : T 111 = some { c111 with frsh := false, orc := fun _ => none, eff := frameE (sTry 7) }) (s : FShop) (js : List FJob) (c t j : AVal) (hc : dInts2 c = some s.chg) (ht : dStops t = some s.stops) (hj : dJobs j = some js) (hsh : ShopOk s js) : Answers P T 71 [.agg [I s.mach, c, t, j]] [] fun v h => frz false h 5 v = some (.tup [encV (bestF s js).order, .agg [I (bestF s js).sum, I (bestF s js).last]]) := by
 have fc := fun H d => dInts2_frz hc H d
 have ft := fun H d => dStops_frz ht H d
 have fj := fun H d => dJobs_frz hj H d
 have rc := fun n d => dInts2_rb hc n d
 have rt := fun n d => dStops_rb ht n d
 have rj := fun n d => dJobs_rb hj n d
 have lc := dInts2_len hc
 have lt := dStops_len ht
 have lj := dJobs_len hj
 obtain ⟨cc1, cc2⟩ := dInts2_cells hc
 obtain ⟨ct1, ct2⟩ := dStops_cells ht
 obtain ⟨cj1, cj2⟩ := dJobs_cells hj
 have hTk : TryOk 7 s js [] (lineC line0) 0 0 (encV bz.order) bz.order bz.sum bz.last :=
  ⟨hsh, by have := hsh.njob; simp; omega, NowOk.nil js, rfl, (lat_nil hsh).symm, rfl, ⟨⟨by decide, by decide⟩, ⟨by decide, by decide⟩⟩⟩
 have htr := sTry_nil hc ht hj hTk
 have hbe : bestF s js = tryF s js js.length [] bz := rfl
 rw [← hbe] at htr
 generalize bestF s js = b at *
 simp only [bC] at htr
 have hlr := fun n d => lineC_rb n d line0
 have hz : encV bz.order = .nils := rfl
 rw [hz] at htr
 simp only [lineC, line0, bz] at htr hlr
 have feb := fun H d => dInts_frz (dInts_encV b.order) H d
 have reb := fun n d => dInts_rb (dInts_encV b.order) n d
 obtain ⟨ceb1, ceb2⟩ := dInts_cells (dInts_encV b.order)
 refine answers_of hT (orcF_none rfl) ?_
 simp only [oo, om, op, og, ci, cl, c71]
 have HH1 := zA h111 (zA fc (zA ft (zA fj (zA rc (zA rt (zA rj (zA lc (zA lt (zA lj (zA cc1 (zA cc2 (zA ct1 (zA ct2 (zA cj1 (zA cj2 (zA htr (zA feb (zA reb (zA ceb1 (zA ceb2 hlr))))))))))))))))))))
 refine zS ?_
 refine zR (zO (by simp [callF_eff h111 rfl, ↓orc_nil, -lenA, HH1]; rfl) ?_)
 simp only [zT, zB]
 refine zS ?_
 refine zR (zO (by simp [callF_eff h111 rfl, ↓orc_nil, -lenA, HH1]; rfl) ?_)
 simp only [zT, zB]
 refine zS ?_
 refine zR (zO (by simp [callF_eff h111 rfl, ↓orc_nil, -lenA, HH1]; rfl) ?_)
 simp only [zT, zB]
 refine zS ?_
 refine runs_drw (by simp (maxSteps := 3000000) [callF_eff h111 rfl, ↓orc_nil, -lenA, HH1]; rfl) ?_
 simp only [zT, zB]
 refine runs_ret ?_
 simp [callF_eff h111 rfl, ↓orc_nil, -lenA, HH1, trim]
theorem ord_good : ∀ args v, oOrd args = some v → OrcGood Tryz.prog GG false 71 args v := fun args v ho => by
  unfold oOrd at ho; split at ho <;> (try simp only [reduceCtorEq] at ho)
  rename_i m c t j
  split at ho <;> (try simp only [reduceCtorEq] at ho)
  rename_i cs ts js hc ht hj
  split at ho <;> (try simp only [reduceCtorEq] at ho)
  rename_i hg
  simp only [Option.some.injEq] at ho
  subst ho
  exact orc_of mixed (tT_ok 7) (a71 Tryz.prog (tT 7) rfl (tT_at 7) ⟨m, cs, ts⟩ js c t j hc ht hj hg)
noncomputable def BC1 : Nat → Option CFn := upd BA 71 false oOrd
theorem BC1_ok : TabOk Tryz.prog GG BC1 := tab_upd BA_ok ord_good
noncomputable def bestV (s : FShop) (js : List FJob) : AVal := if shopE s js = 0 then encV (bestF s js).order else .nils
noncomputable def oBest : List AVal → Option AVal
  | [.agg [.int .i64 m, c, t], j] => match dInts2 c, dStops t, dJobs j with
    | some cs, some ts, some js => if sizeOk ⟨m, cs, ts⟩ js = true then some (.tup [bestV ⟨m, cs, ts⟩ js, I (shopE ⟨m, cs, ts⟩ js)]) else none
    | _, _, _ => none
  | _ => none
theorem best_eq {s : FShop} {js : List FJob} {c t j : AVal} (hc : dInts2 c = some s.chg) (ht : dStops t = some s.stops) (hj : dJobs j = some js) (hz : SizeOk s js) : oBest [.agg [I s.mach, c, t], j] = some (.tup [bestV s js, I (shopE s js)]) := by
  simp only [oBest, hc, ht, hj]
  rw [if_pos (size_ok.2 hz)]
theorem a29 (P : Program) (T : Nat → Option CFn) (hT : T 29 = some c29) (h70 : T 70 = some { c70 with frsh := false, orc := oOpen }) (h71 : T 71 = some { c71 with frsh := false, orc := oOrd }) (s : FShop) (js : List FJob) (c t j : AVal) (hc : dInts2 c = some s.chg) (ht : dStops t = some s.stops) (hj : dJobs j = some js) (hz : SizeOk s js) : Answers P T 29 [.agg [I s.mach, c, t], j] [] fun v h => frz false h 5 v = some (.tup [bestV s js, I (shopE s js)]) := by
 have fc := fun H d => dInts2_frz hc H d
 have ft := fun H d => dStops_frz ht H d
 have fj := fun H d => dJobs_frz hj H d
 have rc := fun n d => dInts2_rb hc n d
 have rt := fun n d => dStops_rb ht n d
 have rj := fun n d => dJobs_rb hj n d
 have lc := dInts2_len hc
 have lt := dStops_len ht
 have lj := dJobs_len hj
 obtain ⟨cc1, cc2⟩ := dInts2_cells hc
 obtain ⟨ct1, ct2⟩ := dStops_cells ht
 obtain ⟨cj1, cj2⟩ := dJobs_cells hj
 have ho := open_eq hc ht hj hz
 refine answers_of hT (orcF_none rfl) ?_
 simp only [oo, om, op, og, ci, cl, c29]
 by_cases h0 : shopE s js = 0
 ·unfold bestV
  have hq := ord_eq hc ht hj (shop_ok h0)
  generalize bestF s js = b at *
  have feb := fun H d => dInts_frz (dInts_encV b.order) H d
  have reb := fun n d => dInts_rb (dInts_encV b.order) n d
  obtain ⟨ceb1, ceb2⟩ := dInts_cells (dInts_encV b.order)
  have HH1 := zA h70 (zA h71 (zA fc (zA ft (zA fj (zA rc (zA rt (zA rj (zA lc (zA lt (zA lj (zA cc1 (zA cc2 (zA ct1 (zA ct2 (zA cj1 (zA cj2 (zA ho (zA hq (zA h0 (zA feb (zA reb (zA ceb1 ceb2))))))))))))))))))))))
  refine zS ?_
  refine zR (zO (by simp [zC h70, zC h71, -lenA, bestV, HH1]; rfl) ?_)
  simp only [zT, zB]
  refine zS ?_
  refine zR (zO (by simp [zC h70, zC h71, -lenA, bestV, HH1]; rfl) ?_)
  simp only [zT, zB]
  refine zS ?_
  refine zS ?_
  refine zR (zO (by simp [zC h70, zC h71, -lenA, bestV, HH1]; rfl) ?_)
  simp only [zT, zB]
  refine runs_cond (x := false) (by simp) ?_
  refine zK ?_
  simp only [zT, zB]
  refine zS ?_
  refine zR (zO (by simp [zC h70, zC h71, -lenA, bestV, HH1]; rfl) ?_)
  simp only [zT, zB]
  refine zS ?_
  refine zR (zO (by simp [zC h70, zC h71, -lenA, bestV, HH1]; rfl) ?_)
  simp only [zT, zB]
  refine runs_ret ?_
  simp [zC h70, zC h71, -lenA, bestV, HH1, trim]
 ·have HH2 := zA h70 (zA h71 (zA fc (zA ft (zA fj (zA rc (zA rt (zA rj (zA lc (zA lt (zA lj (zA cc1 (zA cc2 (zA ct1 (zA ct2 (zA cj1 (zA cj2 (zA ho h0)))))))))))))))))
  refine zS ?_
  refine zR (zO (by simp [zC h70, zC h71, -lenA, zWork, bestV, HH2]; rfl) ?_)
  simp only [zT, zB]
  refine zS ?_
  refine zR (zO (by simp [zC h70, zC h71, -lenA, zWork, bestV, HH2]; rfl) ?_)
  simp only [zT, zB]
  refine zS ?_
  refine zS ?_
  refine zR (zO (by simp [zC h70, zC h71, -lenA, zWork, bestV, HH2]; rfl) ?_)
  simp only [zT, zB]
  refine runs_cond (x := true) (by simp [h0]) ?_
  refine zS ?_
  refine zR (zO (by simp [zC h70, zC h71, -lenA, zWork, bestV, HH2]; rfl) ?_)
  simp only [zT, zB]
  refine runs_ret ?_
  simp [zC h70, zC h71, -lenA, zWork, bestV, HH2, trim]
noncomputable def BC2 : Nat → Option CFn := upd BC1 29 false (oBest)
theorem BC2_ok : TabOk Tryz.prog GG BC2 := tab_add mixed BC1_ok fun args v ho => by
  unfold oBest at ho; split at ho <;> (try simp only [reduceCtorEq] at ho)
  rename_i m c t j
  split at ho <;> (try simp only [reduceCtorEq] at ho)
  rename_i cs ts js hc ht hj
  split at ho <;> (try simp only [reduceCtorEq] at ho)
  rename_i hz
  simp only [Option.some.injEq] at ho
  subst ho
  exact a29 Tryz.prog BC1 rfl rfl rfl ⟨m, cs, ts⟩ js c t j hc ht hj (size_ok.1 hz)
end
end
end Go.Proofs.YtjjapdagllclkaaGreat.Tab
namespace Go.Abs
open Go
def hideK (K : List Nat) (h : Heap) : Heap := K.foldl (fun h i => h.set i none) h
theorem hideK_get : ∀ {K : List Nat} {h : Heap} {i : Nat} {b : Blk}, (hideK K h)[i]? = some (some b) → i ∉ K ∧ h[i]? = some (some b)
 | [], h, i, b, hi => ⟨by simp, hi⟩
 | k :: K, h, i, b, hi => by
  obtain ⟨h1, h2⟩ := hideK_get (K := K) (h := h.set k none) hi
  by_cases e : k = i
  ·subst e
   rcases Nat.lt_or_ge k h.length with hl | hl
   ·rw [List.getElem?_set_self hl] at h2; simp at h2
   ·rw [List.getElem?_eq_none (by simp; omega)] at h2; simp at h2
  ·rw [List.getElem?_set_ne e] at h2
   exact ⟨fun hm => by rcases List.mem_cons.1 hm with rfl | hm <;> contradiction, h2⟩
theorem hideK_len : ∀ (K : List Nat) (h : Heap), (hideK K h).length = h.length
 | [], _ => rfl
 | k :: K, h => by show (hideK K (h.set k none)).length = _; rw [hideK_len K, List.length_set]
section
variable {P : Program} {G : Nat → Option (List AVal)} {T : Nat → Option CFn} {E E' E1 E2 : Env} {h h' h0 h1 hs : Heap} {w w' : World} {n : Nat} {J K : List Nat}
end
end Go.Abs
