/- Contracts of flow: made. No condition. -/
import Derived.Test.YtjjapdagllclkaaGreatPzDKept
import Derived.Test.YtjjapdagllclkaaGreatPzBKept
set_option linter.unusedSimpArgs false
set_option linter.unusedVariables false
namespace Go.Proofs.YtjjapdagllclkaaGreat.Tab
open Go Go.Abs Go.Proofs
set_option maxRecDepth 100000
set_option maxHeartbeats 4000000
set_option linter.unusedSimpArgs false
set_option linter.unusedVariables false
section
attribute [local simp] frz_int frz_bool frz_vl frz_pv frz_agg frz_tup frz_fn frz_ref frz_sl frz_nils optAll orcF rb_int rb_bool rb_agg rb_tup rb_int' rb_bool' rb_vl rb_pv rb_yld rb_nilf rb_nilp rb_nils rb_any rb_und rb_ref rb_sl rb_fn slE chunk fillA evParts evParts3 putAt List.range_succ List.range_zero List.range'_succ List.range'_zero runX_nil' unary_not evalS_pure evAll_nil evAll_cons runX_cons stepX wantedA dop CV.ev putK_eq setK_eq appK_eq fA_eq fI_eq fN_eq fRow_eq fRows_eq nth_eq Out.v putT List.replicate_succ zT zB arI pointee Abs.rowAt ldRow allV toV toC ofV ofC Builtin.min_ Builtin.min2 Builtin.max_ Builtin.max2 min_if max_if resA tupA kill trim_self trim_len trim_emp trim_nil lenA
attribute [local simp] runD_nil' runD_cons' stepD actK_eq actD clash disj masks holes maskH unmaskH diffs news eqB allB eqA ldRowN wrote toCs ofCs stA rowsV_vl rowsV_nils rowsOf dI1 dI2 dI3 dI5 elt
attribute [local simp] st_any st_und st_agg st_tup st_bool st_int st_nilp st_ref st_pv st_nils st_sl st_vl st_nilm st_mp st_fn st_nilf st_yld co_any co_und co_agg co_tup co_bool co_int co_nilp co_ref co_pv co_nils co_sl co_vl co_nilm co_mp co_fn co_nilf co_yld
attribute [local simp] Function.comp_def List.all_map callA calleeA frzG gather getR lim lop loud lowA lowR okG putG putR rbB_none rbB_row resG rowAt takeG
def oCopy : List AVal → Option AVal
  | [.agg [.int .i64 m, c, t]] => match dInts2 c, dStops t with
    | some cs, some ts => if cs.length ≤ 1000 ∧ (∀ x ∈ cs, x.length ≤ 1000) ∧ ts.length ≤ 1000 then some (.agg [.int .i64 m, encC cs, encT ts]) else none
    | _, _ => none
  | _ => none
theorem copy_eq {m : Int} {c t : AVal} {cs : List (List Int)} {ts : List FStop} (hc : dInts2 c = some cs) (ht : dStops t = some ts) (h : cs.length ≤ 1000 ∧ (∀ x ∈ cs, x.length ≤ 1000) ∧ ts.length ≤ 1000) : oCopy [.agg [I m, c, t]] = some (.agg [I m, encC cs, encT ts]) := by
  simp only [oCopy, hc, ht]; rw [if_pos h]
theorem a16 (P : Program) (T : Nat → Option CFn) (hT : T 16 = some c16) (h59 : T 59 = some { c59 with body := annK [(30, [.cell 3 1])] [] c59.body, frsh := false, orc := oCopy }) (m : Int) (c t : AVal) (cs : List (List Int)) (ts : List FStop) (hc : dInts2 c = some cs) (ht : dStops t = some ts) (hm1 : cs.length ≤ 1000) (hm2 : ∀ x ∈ cs, x.length ≤ 1000) (hm3 : ts.length ≤ 1000) : Answers P T 16 [.agg [I m, c, t]] [] fun v h => frz false h 5 v = some (.agg [I m, encC cs, encT ts]) := by
 have fc := fun H d => dInts2_frz hc H d
 have ft := fun H d => dStops_frz ht H d
 have rc := fun n d => dInts2_rb hc n d
 have rt := fun n d => dStops_rb ht n d
 obtain ⟨cc1, cc2⟩ := dInts2_cells hc
 obtain ⟨ct1, ct2⟩ := dStops_cells ht
 have h := copy_eq (m := m) hc ht ⟨hm1, hm2, hm3⟩
 have he := dInts2_encC cs
 have he2 := dStops_encT ts
 generalize encC cs = e at *
 generalize encT ts = e2 at *
 have fe := fun H d => dInts2_frz he H d
 have fe2 := fun H d => dStops_frz he2 H d
 obtain ⟨ce1, ce2⟩ := dInts2_cells he
 obtain ⟨ce3, ce4⟩ := dStops_cells he2
 refine answers_of hT (orcF_none rfl) ?_
 simp only [oo, om, op, og, ci, cl, c16]
 have HH1 := zA h59 (zA fc (zA ft (zA rc (zA rt (zA cc1 (zA cc2 (zA ct1 (zA ct2 (zA h (zA fe (zA fe2 (zA ce1 (zA ce2 (zA ce3 ce4))))))))))))))
 refine zS ?_
 refine zR (zO (by simp [zC h59, HH1]; rfl) ?_)
 simp only [zT, zB]
 refine zS ?_
 refine zR (zO (by simp [zC h59, HH1]; rfl) ?_)
 simp only [zT, zB]
 refine runs_ret ?_
 simp [zC h59, HH1, trim]
noncomputable def FP1_59 : Nat → Option CFn := upd FO2 59 false (oCopy)
theorem FP1_59_ok : TabOk Tryz.prog GG FP1_59 := tab_add mixed FO2_ok fun args v ho => by
  unfold oCopy at ho; split at ho <;> (try simp only [reduceCtorEq] at ho)
  rename_i m c t
  split at ho <;> (try simp only [reduceCtorEq] at ho)
  rename_i cs ts hc ht
  split at ho <;> (try simp only [reduceCtorEq] at ho)
  rename_i hg
  simp only [Option.some.injEq] at ho
  subst ho
  exact a59 Tryz.prog FO2 rfl  m c t cs ts hc ht hg.1 hg.2.1 hg.2.2
noncomputable def FP1 : Nat → Option CFn := upd FP1_59 16 false (oCopy)
theorem FP1_ok : TabOk Tryz.prog GG FP1 := tab_add mixed FP1_59_ok fun args v ho => by
  unfold oCopy at ho; split at ho <;> (try simp only [reduceCtorEq] at ho)
  rename_i m c t
  split at ho <;> (try simp only [reduceCtorEq] at ho)
  rename_i cs ts hc ht
  split at ho <;> (try simp only [reduceCtorEq] at ho)
  rename_i hg
  simp only [Option.some.injEq] at ho
  subst ho
  exact a16 Tryz.prog FP1_59 rfl rfl m c t cs ts hc ht hg.1 hg.2.1 hg.2.2
noncomputable def FP2 : Nat → Option CFn := updG FP1 44 [(782, [.slot 8])] []
theorem FP2_ok : TabOk Tryz.prog GG FP2 := tab_updG FP1_ok
/-- Starts that are some of jobs. -/
structure StOk (s : FShop) (js : List FJob) (S : List (List Int)) : Prop where
  len : S.length = js.length
  row : ∀ l ∈ S, (l.length : Int) = s.mach ∧ ∀ x ∈ l, 0 ≤ x ∧ x ≤ 1000000
def stAt (S : List (List Int)) (i k : Nat) : Int := (S.getD i []).getD k 0
theorem stAt_eq {S : List (List Int)} {i k : Nat} (hi : i < S.length) (hk : k < S[i].length) : stAt S i k = S[i][k] := by
  unfold stAt
  rw [List.getD_eq_getElem?_getD, List.getD_eq_getElem?_getD, List.getElem?_eq_getElem hi, Option.getD_some, List.getElem?_eq_getElem hk]; rfl
def endsL (S : List (List Int)) (js : List FJob) (m : Nat) : Nat → List Int
  | 0 => []
  | k + 1 => endsL S js m k ++ [stAt S k (m - 1) + minAt (jobAt js k) (m - 1)]
theorem endsL_len (S : List (List Int)) (js : List FJob) (m : Nat) : ∀ k, (endsL S js m k).length = k
  | 0 => rfl
  | k + 1 => by simp [endsL, endsL_len S js m k]
theorem a44 (P : Program) (T : Nat → Option CFn) (hT : T 44 = some { c44 with body := annK [(782, [.slot 8])] [] c44.body }) (s : FShop) (js : List FJob) (c t j : AVal) (hc : dInts2 c = some s.chg) (ht : dStops t = some s.stops) (hj : dJobs j = some js) (S : List (List Int)) (sv : AVal) (hs : dInts2 sv = some S) (hsh : ShopOk s js) (hS : StOk s js S) : Answers P T 44 [.agg [I s.mach, c, t], j, sv] [] fun v h => frz true h 5 v = some (.tup [encE (endsL S js s.mach.toNat js.length), .bool true]) := by
 have fc := fun H d => dInts2_frz hc H d
 have ft := fun H d => dStops_frz ht H d
 have fj := fun H d => dJobs_frz hj H d
 have rc := fun n d => dInts2_rb hc n d
 have rt := fun n d => dStops_rb ht n d
 have rj := fun n d => dJobs_rb hj n d
 have lc := dInts2_len hc
 have lt := dStops_len ht
 have lj := dJobs_len hj
 obtain ⟨cc1, cc2⟩ := dInts2_cells hc
 obtain ⟨ct1, ct2⟩ := dStops_cells ht
 obtain ⟨cj1, cj2⟩ := dJobs_cells hj
 have fs := fun H d => dInts2_frz hs H d
 have rs5 := fun n d => dInts2_rb hs n d
 have lsv := dInts2_len hs
 obtain ⟨cs1, cs2⟩ := dInts2_cells hs
 have hn6 : js.length ≤ 6 := hsh.njob
 have hm4 := hsh.mach
 have hsl := hS.len
 have hwm : W .i64 (s.mach - 1) = s.mach - 1 := W_small (by omega)
 have hm1 : 0 ≤ s.mach - 1 := by omega
 have hm1b : 1 ≤ s.mach := hm4.1
 have hmn : (s.mach - 1).toNat = s.mach.toNat - 1 := by omega
 refine answers_of hT (orcF_none rfl) ?_
 simp only [oo, om, op, og, ci, cl, c44, annK, lkG, lkR, reduceIte, Nat.reduceEqDiff, reduceCtorEq, List.cons.injEq, and_true, and_false, false_and, true_and]
 have HH1 := zA fc (zA ft (zA fj (zA rc (zA rt (zA rj (zA lc (zA lt (zA lj (zA cc1 (zA cc2 (zA ct1 (zA ct2 (zA cj1 (zA cj2 (zA fs (zA rs5 (zA lsv (zA cs1 (zA cs2 (zA hsl (zA hwm (zA hm1 (zA hm1b hmn)))))))))))))))))))))))
 refine zS ?_
 refine zR (zO (by simp [-lenA, HH1]; rfl) ?_)
 simp only [zT, zB]
 refine zS ?_
 refine zS ?_
 refine zR (zO (by simp [-lenA, HH1]; rfl) ?_)
 simp only [zT, zB]
 refine runs_cond (x := false) (by simp [hsl]) ?_
 refine zK ?_
 simp only [zT, zB]
 refine zS ?_
 refine zR (zO (by simp [-lenA, HH1]; rfl) ?_)
 simp only [zT, zB]
 refine zS ?_
 refine zS ?_
 refine zR (zO (by simp [-lenA, HH1]; rfl) ?_)
 simp only [zT, zB]
 refine zL ?_
 refine runs_loopG_inv (fun mm σ => ∃ (k : Nat) (i : Int), i = k ∧ js.length - k = mm ∧ k ≤ js.length ∧ ((k = 0 ∧ σ = ⟨[.any, j, sv, .ref 0 0 0, .any, .any, .any, .any, .sl 2 0 0 true, I i, .any, .any, .any, .any, .any, .any, .any, .any, .any, .any, .any, .any, .any, .any, .any, .any, .any, .any, .any, .any, .any, .any, .any, .any, .any, .any, .any, .any, .any, .any, .any, .any, .any, .any, .any, .any, .any, .any, .any, .any, .any, .any, .any, .any, .any, .any, .any, .any, .any, .any, .any, .any, .any, .any, .any, .any, .any, .any, .any, .any, .any, .any, .any, .any, .any, .any, .any, .any, .any], [some (.row 3 [[I s.mach, c, t]]), none, some (.row 1 [])]⟩) ∨ (∃ (p : Nat) (ac : List Int), k = p + 1 ∧ ac = endsL S js s.mach.toNat k ∧ ac.length = p + 1 ∧ σ = ⟨[.any, j, sv, .ref 0 0 0, .any, .any, .any, .any, .sl 2 0 (p + 1) false, I i, .any, .any, .any, .any, .any, .any, .any, .any, .any, .any, .any, .any, .any, .any, .any, .any, .any, .any, .any, .any, .any, .any, .any, .any, .any, .any, .any, .any, .any, .any, .any, .any, .any, .any, .any, .any, .any, .any, .any, .any, .any, .any, .any, .any, .any, .any, .any, .any, .any, .any, .any, .any, .any, .any, .any, .any, .any, .any, .any, .any, .any, .any, .any, .any, .any, .any, .any, .any, .any], [some (.row 3 [[I s.mach, c, t]]), none, some (.row 1 (ac.map rI))]⟩))) (by simp [-lenA, HH1] <;> first | exact ⟨rfl, rfl⟩ | rfl) (⟨0, 0, rfl, rfl, Nat.zero_le _, .inl ⟨rfl, rfl⟩⟩) ?_
 rintro mm σ ⟨k, i, hik, rfl, hkl, ⟨hk0', rfl⟩ | ⟨p, ac, hkp, hac, hacl, rfl⟩⟩
 ·refine zS ?_
  refine zS ?_
  refine zR (zO (by simp [-lenA, HH1]; rfl) ?_)
  simp only [zT, zB]
  refine runs_cond_split (x := decide (i < (js.length : Int))) (by simp) (fun hlt => ?_) (fun hlt => ?_)
  ·have hlt2 := of_decide_eq_true hlt
   have hk0 : k < js.length := by omega
   have hks : k < S.length := by omega
   have hi0 : 0 ≤ i := by omega
   have htn : i.toNat = k := by omega
   have hwi : W .i64 (i + 1) = i + 1 := W_small (by omega)
   have hjb := hsh.job _ (List.getElem_mem hk0)
   have hrow := hS.row _ (List.getElem_mem hks)
   obtain ⟨jr, tj, wv, rfl, hr1, hr2, hwv⟩ := dJobs_get hj hk0
   have hkr : k < jr.length := by omega
   have hr4 : ∀ h, jr[k]'h = [I js[k].kind, I js[k].ready, I js[k].due, wv] := fun h => by rw [List.getElem?_eq_getElem h] at hr2; exact Option.some.inj hr2
   have rw5 := fun n d => dInts_rb hwv n d
   have fw5 := fun H d => dInts_frz hwv H d
   have lw5 := dInts_len hwv
   obtain ⟨cw1, cw2⟩ := dInts_cells hwv
   obtain ⟨sr, tt, wt, rfl, hs1, hs2, hwt⟩ := dInts2_get hs hks
   have hksr : k < sr.length := by omega
   have hs4 : ∀ h, sr[k]'h = [wt] := fun h => by rw [List.getElem?_eq_getElem h] at hs2; exact Option.some.inj hs2
   have rt5 := fun n d => dInts_rb hwt n d
   have ft5 := fun H d => dInts_frz hwt H d
   have lt5 := dInts_len hwt
   obtain ⟨ctw1, ctw2⟩ := dInts_cells hwt
   have hml : (js[k].mins.length : Int) = s.mach := hjb.2.2.2.1
   have hll : (S[k].length : Int) = s.mach := hrow.1
   have HH2 := zA hi0 (zA htn (zA hk0 (zA hks (zA hwi (zA hml (zA hll (zA hkr (zA hr2 (zA hr4 (zA rw5 (zA fw5 (zA lw5 (zA cw1 (zA cw2 (zA hksr (zA hs2 (zA hs4 (zA rt5 (zA ft5 (zA lt5 (zA ctw1 ctw2)))))))))))))))))))))
   refine zK ?_
   simp only [zT, zB]
   refine zS ?_
   refine zL ?_
   refine zS ?_
   refine zS ?_
   refine runs_drw (by simp (maxSteps := 3000000) [-lenA, HH1, zI, HH2]; rfl) ?_
   simp only [zT, zB]
   refine runs_cond (x := false) (by simp [hll]) ?_
   refine zK ?_
   simp only [zT, zB]
   refine zS ?_
   refine zS ?_
   refine zR (zO (by simp [-lenA, HH1, zI, HH2]; rfl) ?_)
   simp only [zT, zB]
   refine zL ?_
   refine runs_loop_inv (fun m2 σ => ∃ (z : Nat) (y : Int), y = z ∧ s.mach.toNat - z = m2 ∧ (z : Int) ≤ s.mach ∧ σ = ⟨[.any, .vl jr tj, .vl sr tt, .ref 0 0 0, .any, .any, .any, .any, .sl 2 0 0 true, I i, I y, .any, .any, .any, .any, .any, .any, .any, .any, .any, .any, .any, .any, .any, .any, .any, .any, .any, .any, .any, .any, .any, .any, .any, .any, .any, .any, .any, .any, .any, .any, .any, .any, .any, .any, .any, .any, .any, .any, .any, .any, .any, .any, .any, .any, .any, .any, .any, .any, .any, .any, .any, .any, .any, .any, .any, .any, .any, .any, .any, .any, .any, .any, .any, .any, .any, .any, .any, .any], [some (.row 3 [[I s.mach, c, t]]), none, some (.row 1 []), none, none, none, none, none, none, none, none]⟩) ?_ (s.mach.toNat - 0) _ ⟨0, 0, rfl, rfl, by omega, by simp⟩
   rintro m2 σ ⟨z, y, hyz, rfl, hzm, rfl⟩
   refine zS ?_
   refine zS ?_
   refine zR (zO (by simp [-lenA, HH1, zI, HH2]; rfl) ?_)
   simp only [zT, zB]
   refine runs_cond_split (x := decide (y < s.mach)) (by simp) (fun hlt3 => ?_) (fun hlt3 => ?_)
   ·have hlt4 := of_decide_eq_true hlt3
    have hz0 : z < S[k].length := by omega
    obtain ⟨tz, rfl⟩ := dInts_get hwt hz0
    have hzx := hrow.2 _ (List.getElem_mem hz0)
    have hy0 : 0 ≤ y := by omega
    have hyn : y.toNat = z := by omega
    have hylt : y < (S[k].length : Int) := by omega
    have hwy : W .i64 (y + 1) = y + 1 := W_small (by omega)
    generalize hX : S[k][z] = X at *
    have hb1 : decide (X < 0) = false := by simp; omega
    have hb2 : decide (1073741824 < X) = false := by simp; omega
    have HH3 := zA hz0 (zA hy0 (zA hyn (zA hylt (zA hwy (zA hX (zA hb1 hb2))))))
    refine zK ?_
    simp only [zT, zB]
    refine zS ?_
    refine zL ?_
    refine zS ?_
    refine zR (zO (by simp [-lenA, HH1, zI, HH2, HH3]; rfl) ?_)
    simp only [zT, zB]
    refine runs_cond (x := false) (by simp) ?_
    refine zK ?_
    simp only [zT, zB]
    refine zR (zO (by simp [-lenA, HH1, zI, HH2, HH3]; rfl) ?_)
    simp only [zT, zB]
    exact ⟨s.mach.toNat - (z + 1), by omega, z + 1, y + 1, by omega, rfl, by omega, by simp [trim, ↓rI_rb, -lenA, HH1, zI, HH2, HH3]⟩
   ·have hm0 : s.mach.toNat - 1 < S[k].length := by omega
    have hm0j : s.mach.toNat - 1 < js[k].mins.length := by omega
    obtain ⟨tz, rfl⟩ := dInts_get hwt hm0
    obtain ⟨tw, rfl⟩ := dInts_get hwv hm0j
    have hzx := hrow.2 _ (List.getElem_mem hm0)
    have hmx := hjb.2.2.2.2 _ (List.getElem_mem hm0j)
    have hst : endsL S js s.mach.toNat (k + 1) = endsL S js s.mach.toNat k ++ [S[k][s.mach.toNat - 1] + js[k].mins[s.mach.toNat - 1]] := by simp only [endsL, jobAt_eq hk0, minAt_eq hm0j, stAt_eq hks hm0]
    have hmlt : s.mach - 1 < (S[k].length : Int) := by omega
    have hmltj : s.mach - 1 < (js[k].mins.length : Int) := by omega
    have hmm : s.mach - 1 < s.mach := by omega
    generalize hX : S[k][s.mach.toNat - 1] = X at *
    generalize hY : js[k].mins[s.mach.toNat - 1] = Y at *
    have hwx : W .i64 (X + Y) = X + Y := W_fit (by omega)
    have hst : endsL S js s.mach.toNat (k + 1) = [X + Y] := by rw [hst, hk0']; rfl
    have HH4 := zA hm0 (zA hm0j (zA hmlt (zA hmltj (zA hmm (zA hX (zA hY hwx))))))
    refine runs_exit ?_
    simp only [zT, zB, if_true, if_false, reduceIte, Nat.reduceEqDiff, Nat.succ_ne_zero, Nat.one_ne_zero, Nat.zero_ne_one]
    refine runs_drw (by simp (maxSteps := 3000000) [-lenA, HH1, zI, HH2, HH4]; rfl) ?_
    simp only [zT, zB]
    refine zR (zO (by simp [-lenA, HH1, zI, HH2, HH4]; rfl) ?_)
    simp only [zT, zB]
    exact ⟨js.length - (k + 1), _, _, by omega, by simp [-lenA, HH1, zI, HH2, HH4] <;> rfl, k + 1, i + 1, by omega, rfl, by omega, .inr ⟨0, [X + Y], by omega, hst.symm, rfl, rfl⟩⟩
  ·have hx1 := of_decide_eq_false hlt
   have hkE : k = js.length := by omega
   subst hkE
   have hE0 : js = [] := List.eq_nil_of_length_eq_zero (by omega)
   subst hE0
   refine runs_exit ?_
   simp only [zT, zB, if_true, if_false, reduceIte, Nat.reduceEqDiff, Nat.succ_ne_zero, Nat.one_ne_zero, Nat.zero_ne_one]
   refine zS ?_
   refine zR (zO (by simp [-lenA, HH1]; rfl) ?_)
   simp only [zT, zB]
   refine runs_ret ?_
   simp [-lenA, HH1, trim, encE, endsL]
 ·have tk : (ac.map rI).take (p + 1) = ac.map rI := List.take_of_length_le (by simp [hacl])
  have hlac : p + 1 + 1 ≤ 1048576 := by omega
  have hr3 : ∀ e : Int, (rI e).length = 1 := fun _ => rfl
  refine zS ?_
  refine zS ?_
  refine zR (zO (by simp [-lenA, HH1, tk, hlac, hacl, hr3]; rfl) ?_)
  simp only [zT, zB]
  refine runs_cond_split (x := decide (i < (js.length : Int))) (by simp) (fun hlt => ?_) (fun hlt => ?_)
  ·have hlt2 := of_decide_eq_true hlt
   have hk0 : k < js.length := by omega
   have hks : k < S.length := by omega
   have hi0 : 0 ≤ i := by omega
   have htn : i.toNat = k := by omega
   have hwi : W .i64 (i + 1) = i + 1 := W_small (by omega)
   have hjb := hsh.job _ (List.getElem_mem hk0)
   have hrow := hS.row _ (List.getElem_mem hks)
   obtain ⟨jr, tj, wv, rfl, hr1, hr2, hwv⟩ := dJobs_get hj hk0
   have hkr : k < jr.length := by omega
   have hr4 : ∀ h, jr[k]'h = [I js[k].kind, I js[k].ready, I js[k].due, wv] := fun h => by rw [List.getElem?_eq_getElem h] at hr2; exact Option.some.inj hr2
   have rw5 := fun n d => dInts_rb hwv n d
   have fw5 := fun H d => dInts_frz hwv H d
   have lw5 := dInts_len hwv
   obtain ⟨cw1, cw2⟩ := dInts_cells hwv
   obtain ⟨sr, tt, wt, rfl, hs1, hs2, hwt⟩ := dInts2_get hs hks
   have hksr : k < sr.length := by omega
   have hs4 : ∀ h, sr[k]'h = [wt] := fun h => by rw [List.getElem?_eq_getElem h] at hs2; exact Option.some.inj hs2
   have rt5 := fun n d => dInts_rb hwt n d
   have ft5 := fun H d => dInts_frz hwt H d
   have lt5 := dInts_len hwt
   obtain ⟨ctw1, ctw2⟩ := dInts_cells hwt
   have hml : (js[k].mins.length : Int) = s.mach := hjb.2.2.2.1
   have hll : (S[k].length : Int) = s.mach := hrow.1
   have HH5 := zA tk (zA hlac (zA hacl (zA hr3 (zA hi0 (zA htn (zA hk0 (zA hks (zA hwi (zA hml (zA hll (zA hkr (zA hr2 (zA hr4 (zA rw5 (zA fw5 (zA lw5 (zA cw1 (zA cw2 (zA hksr (zA hs2 (zA hs4 (zA rt5 (zA ft5 (zA lt5 (zA ctw1 ctw2)))))))))))))))))))))))))
   refine zK ?_
   simp only [zT, zB]
   refine zS ?_
   refine zL ?_
   refine zS ?_
   refine zS ?_
   refine runs_drw (by simp (maxSteps := 3000000) [-lenA, HH1, zI, HH5]; rfl) ?_
   simp only [zT, zB]
   refine runs_cond (x := false) (by simp [hll]) ?_
   refine zK ?_
   simp only [zT, zB]
   refine zS ?_
   refine zS ?_
   refine zR (zO (by simp [-lenA, HH1, zI, HH5]; rfl) ?_)
   simp only [zT, zB]
   refine zL ?_
   refine runs_loop_inv (fun m2 σ => ∃ (z : Nat) (y : Int), y = z ∧ s.mach.toNat - z = m2 ∧ (z : Int) ≤ s.mach ∧ σ = ⟨[.any, .vl jr tj, .vl sr tt, .ref 0 0 0, .any, .any, .any, .any, .sl 2 0 (p + 1) false, I i, I y, .any, .any, .any, .any, .any, .any, .any, .any, .any, .any, .any, .any, .any, .any, .any, .any, .any, .any, .any, .any, .any, .any, .any, .any, .any, .any, .any, .any, .any, .any, .any, .any, .any, .any, .any, .any, .any, .any, .any, .any, .any, .any, .any, .any, .any, .any, .any, .any, .any, .any, .any, .any, .any, .any, .any, .any, .any, .any, .any, .any, .any, .any, .any, .any, .any, .any, .any, .any], [some (.row 3 [[I s.mach, c, t]]), none, some (.row 1 (ac.map rI)), none, none, none, none, none, none, none, none]⟩) ?_ (s.mach.toNat - 0) _ ⟨0, 0, rfl, rfl, by omega, by simp⟩
   rintro m2 σ ⟨z, y, hyz, rfl, hzm, rfl⟩
   refine zS ?_
   refine zS ?_
   refine zR (zO (by simp [-lenA, HH1, zI, HH5]; rfl) ?_)
   simp only [zT, zB]
   refine runs_cond_split (x := decide (y < s.mach)) (by simp) (fun hlt3 => ?_) (fun hlt3 => ?_)
   ·have hlt4 := of_decide_eq_true hlt3
    have hz0 : z < S[k].length := by omega
    obtain ⟨tz, rfl⟩ := dInts_get hwt hz0
    have hzx := hrow.2 _ (List.getElem_mem hz0)
    have hy0 : 0 ≤ y := by omega
    have hyn : y.toNat = z := by omega
    have hylt : y < (S[k].length : Int) := by omega
    have hwy : W .i64 (y + 1) = y + 1 := W_small (by omega)
    generalize hX : S[k][z] = X at *
    have hb1 : decide (X < 0) = false := by simp; omega
    have hb2 : decide (1073741824 < X) = false := by simp; omega
    have HH6 := zA hz0 (zA hy0 (zA hyn (zA hylt (zA hwy (zA hX (zA hb1 hb2))))))
    refine zK ?_
    simp only [zT, zB]
    refine zS ?_
    refine zL ?_
    refine zS ?_
    refine zR (zO (by simp [-lenA, HH1, zI, HH5, HH6]; rfl) ?_)
    simp only [zT, zB]
    refine runs_cond (x := false) (by simp) ?_
    refine zK ?_
    simp only [zT, zB]
    refine zR (zO (by simp [-lenA, HH1, zI, HH5, HH6]; rfl) ?_)
    simp only [zT, zB]
    exact ⟨s.mach.toNat - (z + 1), by omega, z + 1, y + 1, by omega, rfl, by omega, by simp [trim, ↓rI_rb, -lenA, HH1, zI, HH5, HH6]⟩
   ·have hm0 : s.mach.toNat - 1 < S[k].length := by omega
    have hm0j : s.mach.toNat - 1 < js[k].mins.length := by omega
    obtain ⟨tz, rfl⟩ := dInts_get hwt hm0
    obtain ⟨tw, rfl⟩ := dInts_get hwv hm0j
    have hzx := hrow.2 _ (List.getElem_mem hm0)
    have hmx := hjb.2.2.2.2 _ (List.getElem_mem hm0j)
    have hst : endsL S js s.mach.toNat (k + 1) = endsL S js s.mach.toNat k ++ [S[k][s.mach.toNat - 1] + js[k].mins[s.mach.toNat - 1]] := by simp only [endsL, jobAt_eq hk0, minAt_eq hm0j, stAt_eq hks hm0]
    have hmlt : s.mach - 1 < (S[k].length : Int) := by omega
    have hmltj : s.mach - 1 < (js[k].mins.length : Int) := by omega
    have hmm : s.mach - 1 < s.mach := by omega
    generalize hX : S[k][s.mach.toNat - 1] = X at *
    generalize hY : js[k].mins[s.mach.toNat - 1] = Y at *
    have hwx : W .i64 (X + Y) = X + Y := W_fit (by omega)
    rw [← hac] at hst
    have hap : ac.map rI ++ [[I (X + Y)]] = (ac ++ [X + Y]).map rI := by rw [List.map_append]; rfl
    have hnl : (ac ++ [X + Y]).length = p + 1 + 1 := by simp [hacl]
    generalize ac ++ [X + Y] = nx at *
    have HH7 := zA hm0 (zA hm0j (zA hmlt (zA hmltj (zA hmm (zA hX (zA hY (zA hwx hap)))))))
    refine runs_exit ?_
    simp only [zT, zB, if_true, if_false, reduceIte, Nat.reduceEqDiff, Nat.succ_ne_zero, Nat.one_ne_zero, Nat.zero_ne_one]
    refine runs_drw (by simp (maxSteps := 3000000) [-lenA, HH1, zI, HH5, HH7]; rfl) ?_
    simp only [zT, zB]
    refine zR (zO (by simp [-lenA, HH1, zI, HH5, HH7]; rfl) ?_)
    simp only [zT, zB]
    exact ⟨js.length - (k + 1), _, _, by omega, by simp [-lenA, HH1, zI, HH5, HH7] <;> rfl, k + 1, i + 1, by omega, rfl, by omega, .inr ⟨p + 1, nx, by omega, hst.symm, hnl, rfl⟩⟩
  ·have hx1 := of_decide_eq_false hlt
   have hkE : k = js.length := by omega
   subst hkE
   rw [← hac, encE_ne (by intro e; rw [e] at hacl; simp at hacl)]
   refine runs_exit ?_
   simp only [zT, zB, if_true, if_false, reduceIte, Nat.reduceEqDiff, Nat.succ_ne_zero, Nat.one_ne_zero, Nat.zero_ne_one]
   refine zS ?_
   refine zR (zO (by simp [-lenA, HH1, tk, hlac, hacl, hr3, frz_mapI]; rfl) ?_)
   simp only [zT, zB]
   refine runs_ret ?_
   simp [-lenA, HH1, tk, hlac, hacl, hr3, frz_mapI, trim]
end
end Go.Proofs.YtjjapdagllclkaaGreat.Tab

namespace Go.Proofs.YtjjapdagllclkaaGreat.Tab
open Go Go.Abs Go.Proofs
set_option maxRecDepth 100000
set_option maxHeartbeats 4000000
set_option linter.unusedSimpArgs false
set_option linter.unusedVariables false
section
attribute [local simp] frz_int frz_bool frz_vl frz_pv frz_agg frz_tup frz_fn frz_ref frz_sl frz_nils optAll orcF rb_int rb_bool rb_agg rb_tup rb_int' rb_bool' rb_vl rb_pv rb_yld rb_nilf rb_nilp rb_nils rb_any rb_und rb_ref rb_sl rb_fn slE chunk fillA evParts evParts3 putAt List.range_succ List.range_zero List.range'_succ List.range'_zero runX_nil' unary_not evalS_pure evAll_nil evAll_cons runX_cons stepX wantedA dop CV.ev putK_eq setK_eq appK_eq fA_eq fI_eq fN_eq fRow_eq fRows_eq nth_eq Out.v putT List.replicate_succ zT zB arI pointee Abs.rowAt ldRow allV toV toC ofV ofC Builtin.min_ Builtin.min2 Builtin.max_ Builtin.max2 min_if max_if resA tupA kill trim_self trim_len trim_emp trim_nil lenA
attribute [local simp] runD_nil' runD_cons' stepD actK_eq actD clash disj masks holes maskH unmaskH diffs news eqB allB eqA ldRowN wrote toCs ofCs stA rowsV_vl rowsV_nils rowsOf dI1 dI2 dI3 dI5 elt
attribute [local simp] st_any st_und st_agg st_tup st_bool st_int st_nilp st_ref st_pv st_nils st_sl st_vl st_nilm st_mp st_fn st_nilf st_yld co_any co_und co_agg co_tup co_bool co_int co_nilp co_ref co_pv co_nils co_sl co_vl co_nilm co_mp co_fn co_nilf co_yld
attribute [local simp] callA calleeA lop loud rbB_none rbB_row
def oAtN (os : List Int) (n : Nat) : Nat := (os.getD n 0).toNat
theorem oAtN_eq {os : List Int} {n : Nat} (h : n < os.length) : oAtN os n = os[n].toNat := by unfold oAtN; rw [List.getD_eq_getElem?_getD, List.getElem?_eq_getElem h]; rfl
def jn (js : List FJob) (os : List Int) (n : Nat) : FJob := jobAt js (oAtN os n)
def fromA (js : List FJob) (S : List (List Int)) (os : List Int) (a k : Nat) : Int := if k = 0 then (jn js os a).ready else stAt S (oAtN os a) (k - 1) + minAt (jn js os a) (k - 1)
def laterN (js : List FJob) (os : List Int) (k b : Nat) : Nat → Bool
  | 0 => false
  | q + 1 => laterN js os k b q || decide (0 < minAt (jn js os (b + 1 + q)) k)
def blkA (s : FShop) (js : List FJob) (S : List (List Int)) (os : List Int) (a k : Nat) (st : Int) (b : Nat) : Bool :=
  decide (0 < minAt (jn js os b) k) && !laterN js os k b (a - (b + 1)) && decide (st < stAt S (oAtN os b) k + minAt (jn js os b) k + chgAt s (jn js os b).kind (jn js os a).kind)
def blkN (s : FShop) (js : List FJob) (S : List (List Int)) (os : List Int) (a k : Nat) (st : Int) : Nat → Bool
  | 0 => false
  | b + 1 => blkN s js S os a k st b || blkA s js S os a k st b
def allowB (s : FShop) (js : List FJob) (S : List (List Int)) (os : List Int) (a k : Nat) (st : Int) : Bool :=
  if st < fromA js S os a k then false else if minAt (jn js os a) k = 0 then st == fromA js S os a k else !blkN s js S os a k st a && !s.stops.any (conf k (minAt (jn js os a) k) st)
theorem take_any {f : FStop → Bool} {st : List FStop} {p : Nat} (hp : p < st.length) : (st.take (p + 1)).any f = ((st.take p).any f || f st[p]) := by
  rw [List.take_succ_eq_append_getElem hp, List.any_append]; simp
theorem jobs_at {rs : List (List AVal)} {t : Bool} {js : List FJob} (h : dJobs (.vl rs t) = some js) {k : Nat} (hk : k < js.length) : ∃ w, rs[k]? = some [I js[k].kind, I js[k].ready, I js[k].due, w] ∧ dInts w = some js[k].mins := by
  obtain ⟨rs2, t2, w, e, _, h2, h3⟩ := dJobs_get h hk
  cases e
  exact ⟨w, h2, h3⟩
theorem ints2_at {rs : List (List AVal)} {t : Bool} {xs : List (List Int)} (h : dInts2 (.vl rs t) = some xs) {k : Nat} (hk : k < xs.length) : ∃ w, rs[k]? = some [w] ∧ dInts w = some xs[k] := by
  obtain ⟨rs2, t2, w, e, _, h2, h3⟩ := dInts2_get h hk
  cases e
  exact ⟨w, h2, h3⟩
theorem blkN_mono {s : FShop} {js : List FJob} {S : List (List Int)} {os : List Int} {a k : Nat} {u : Int} {b c : Nat} (h : blkN s js S os a k u b = true) (hbc : b ≤ c) : blkN s js S os a k u c = true := by
  induction c with
  | zero => have : b = 0 := by omega
            subst this; exact h
  | succ c ih =>
    by_cases e : b = c + 1
    · subst e; exact h
    · simp only [blkN, ih (by omega), Bool.true_or]
theorem any_take {f : FStop → Bool} {st : List FStop} {p : Nat} (h : (st.take p).any f = true) : st.any f = true := by
  obtain ⟨x, hx, hf⟩ := List.any_eq_true.1 h
  exact List.any_eq_true.2 ⟨x, List.mem_of_mem_take hx, hf⟩
theorem a45 (P : Program) (T : Nat → Option CFn) (hT : T 45 = some c45) (s : FShop) (js : List FJob) (c t j : AVal) (hc : dInts2 c = some s.chg) (ht : dStops t = some s.stops) (hj : dJobs j = some js) (S : List (List Int)) (sv : AVal) (hs : dInts2 sv = some S) (o : AVal) (os : List Int) (ho : dInts o = some os) (hsh : ShopOk s js) (hS : StOk s js S) (ho2 : ordB os js.length = true) (a k : Nat) (u : Int) (ha : a < os.length) (hk : (k : Int) < s.mach) (hu : -1000000 ≤ u ∧ u ≤ 1000000) : Answers P T 45 [.agg [I s.mach, c, t], j, sv, o, I a, I k, I u] [] fun v h => frz true h 5 v = some (.bool (allowB s js S os a k u)) := by
 have fc := fun H d => dInts2_frz hc H d
 have ft := fun H d => dStops_frz ht H d
 have fj := fun H d => dJobs_frz hj H d
 have rc := fun n d => dInts2_rb hc n d
 have rt := fun n d => dStops_rb ht n d
 have rj := fun n d => dJobs_rb hj n d
 have lc := dInts2_len hc
 have lt := dStops_len ht
 have lj := dJobs_len hj
 obtain ⟨cc1, cc2⟩ := dInts2_cells hc
 obtain ⟨ct1, ct2⟩ := dStops_cells ht
 obtain ⟨cj1, cj2⟩ := dJobs_cells hj
 have fs := fun H d => dInts2_frz hs H d
 have rs5 := fun n d => dInts2_rb hs n d
 have lsv := dInts2_len hs
 obtain ⟨cs1, cs2⟩ := dInts2_cells hs
 have fo := fun H d => dInts_frz ho H d
 have ro := fun n d => dInts_rb ho n d
 have lo := dInts_len ho
 obtain ⟨co1, co2⟩ := dInts_cells ho
 have hn6 : js.length ≤ 6 := hsh.njob
 have hm4 := hsh.mach
 have hsl := hS.len
 have hol := ord_len ho2
 have hoa : ∀ n (h : n < os.length), 0 ≤ os[n] ∧ os[n] < js.length := fun n h => (ord_mem ho2).1 (List.getElem_mem h)
 have hosl : os.length ≤ 6 := by omega
 have ha0 : (0 : Int) ≤ a := by omega
 have han : ((a : Nat) : Int).toNat = a := by omega
 have hk0 : (0 : Int) ≤ k := by omega
 have hkn : ((k : Nat) : Int).toNat = k := by omega
 have hal : (a : Int) < (os.length : Int) := by omega
 have ho := ho
 have hxa := hoa a ha
 have hja : os[a].toNat < js.length := by omega
 have hjn : jn js os a = js[os[a].toNat] := by unfold jn; rw [oAtN_eq ha, jobAt_eq hja]
 have hon : oAtN os a = os[a].toNat := oAtN_eq ha
 unfold allowB fromA
 rw [hjn, hon]
 obtain ⟨to, rfl⟩ := dInts_get ho ha
 generalize hX : os[a] = x at *
 have hx0 : 0 ≤ x := hxa.1
 have hjb := hsh.job _ (List.getElem_mem hja)
 obtain ⟨jr, tj, wv, rfl, hr1, hr2, hwv⟩ := dJobs_get hj hja
 have hkr : x.toNat < jr.length := by omega
 have hr4 : ∀ h, jr[x.toNat]'h = [I js[x.toNat].kind, I js[x.toNat].ready, I js[x.toNat].due, wv] := fun h => by rw [List.getElem?_eq_getElem h] at hr2; exact Option.some.inj hr2
 have rw5 := fun n d => dInts_rb hwv n d
 have fw5 := fun H d => dInts_frz hwv H d
 have lw5 := dInts_len hwv
 obtain ⟨cw1, cw2⟩ := dInts_cells hwv
 have hxs : x.toNat < S.length := by omega
 have hrow := hS.row _ (List.getElem_mem hxs)
 obtain ⟨sr, tt, wt, rfl, hs1, hs2, hwt⟩ := dInts2_get hs hxs
 have hksr : x.toNat < sr.length := by omega
 have hs4 : ∀ h, sr[x.toNat]'h = [wt] := fun h => by rw [List.getElem?_eq_getElem h] at hs2; exact Option.some.inj hs2
 have rt5 := fun n d => dInts_rb hwt n d
 have ft5 := fun H d => dInts_frz hwt H d
 have lt5 := dInts_len hwt
 obtain ⟨ctw1, ctw2⟩ := dInts_cells hwt
 have hml : (js[x.toNat].mins.length : Int) = s.mach := hjb.2.2.2.1
 have hll : (S[x.toNat].length : Int) = s.mach := hrow.1
 have hkj : k < js[x.toNat].mins.length := by omega
 have hks : k < S[x.toNat].length := by omega
 have hmk := hjb.2.2.2.2 _ (List.getElem_mem hkj)
 have hmeq := minAt_eq hkj
 obtain ⟨tw, rfl⟩ := dInts_get hwv hkj
 obtain ⟨tz, rfl⟩ := dInts_get hwt hks
 refine answers_of hT (orcF_none rfl) ?_
 simp only [oo, om, op, og, ci, cl, c45]
 have HH1 := zA fc (zA ft (zA fj (zA rc (zA rt (zA rj (zA lc (zA lt (zA lj (zA cc1 (zA cc2 (zA ct1 (zA ct2 (zA cj1 (zA cj2 (zA fs (zA rs5 (zA lsv (zA cs1 (zA cs2 (zA fo (zA ro (zA lo (zA co1 (zA co2 (zA ha0 (zA han (zA hk0 (zA hkn (zA hal (zA ha (zA hX (zA hx0 (zA hja (zA hxs (zA hml (zA hll (zA hkj (zA hks (zA hkr (zA hr2 (zA hr4 (zA rw5 (zA fw5 (zA lw5 (zA cw1 (zA cw2 (zA hksr (zA hs2 (zA hs4 (zA rt5 (zA ft5 (zA lt5 (zA ctw1 ctw2)))))))))))))))))))))))))))))))))))))))))))))))))))))
 refine zS ?_
 refine zR (zO (by simp [-lenA, zI, HH1]; rfl) ?_)
 simp only [zT, zB]
 refine zS ?_
 refine zR (zO (by simp [-lenA, zI, HH1]; rfl) ?_)
 simp only [zT, zB]
 refine zS ?_
 refine zR (zO (by simp [-lenA, zI, HH1]; rfl) ?_)
 simp only [zT, zB]
 refine zS ?_
 refine zS ?_
 refine zR (zO (by simp [-lenA, zI, HH1]; rfl) ?_)
 simp only [zT, zB]
 by_cases hkz : k = 0
 ·rw [if_pos hkz]
  generalize hF : js[x.toNat].ready = F at *
  refine runs_cond (x := false) (by simp [hkz]) ?_
  refine zK ?_
  simp only [zT, zB]
  refine zS ?_
  refine zS ?_
  refine zR (zO (by simp [-lenA, zI, HH1, hF]; rfl) ?_)
  simp only [zT, zB]
  refine runs_cond_split (x := decide (u < F)) (by simp) (fun hlt => ?_) (fun hlt => ?_)
  ·have hlt := of_decide_eq_true hlt
   rw [if_pos hlt]
   refine zS ?_
   refine zR (zO (by simp [-lenA, zI, HH1, hF]; rfl) ?_)
   simp only [zT, zB]
   refine runs_ret ?_
   simp [-lenA, zI, HH1, hF, trim]
  ·have hlt := of_decide_eq_false hlt
   rw [if_neg hlt]
   generalize hV : js[x.toNat].mins[k] = V at *
   rw [hmeq]
   refine zK ?_
   simp only [zT, zB]
   refine zS ?_
   refine zS ?_
   refine zR (zO (by simp [-lenA, zI, HH1, hF, hV]; rfl) ?_)
   simp only [zT, zB]
   by_cases hz : V = 0
   ·rw [if_pos hz]
    refine runs_cond (x := true) (by simp [hz]) ?_
    refine zS ?_
    refine zR (zO (by simp [-lenA, zI, HH1, hF, hV, hz]; rfl) ?_)
    simp only [zT, zB]
    refine runs_ret ?_
    simp [-lenA, zI, HH1, hF, hV, hz, trim]
   ·rw [if_neg hz]
    have hzb : (V == 0) = false := by simpa using hz
    refine runs_cond (x := false) (by simp [hz]) ?_
    refine zK ?_
    simp only [zT, zB]
    refine zS ?_
    refine zS ?_
    refine zR (zO (by simp [-lenA, zI, HH1, hF, hV]; rfl) ?_)
    simp only [zT, zB]
    refine zL ?_
    refine runs_loop_inv (fun m σ => ∃ (b : Nat) (i : Int), i = b ∧ a - b = m ∧ b ≤ a ∧ blkN s js S os a k u b = false ∧ σ = ⟨[.any, .vl jr tj, .vl sr tt, .vl (os.map rI) to, I a, I k, I u, .ref 0 0 0, .any, .any, .any, .any, .any, .any, .any, .ref 1 0 0, .any, I i, .any, .any, .any, .any, .any, .any, .any, .any, .any, .any, .any, .any, .any, .any, .any, .any, .any, .any, .any, .any, .any, .any, .any, .any, .any, .any, .any, .any, .any, .any, .any, .any, .any, .any, .any, .any, .any, .any, .any, .any, .any, .any, .any, .any, .any, .any, .any, .any, .any, .any, .any, .any, .any, .any, .any, .any, .any, .any, .any, .any, .any, .any, .any, .any, .any, .any, .any, .any, .any, .any, .any, .any, .any, .any, .any, .any, .any, .any, .any, .any, .any, .any, .any, .any, .any, .any, .any, .any, .any, .any, .any, .any, .any, .any, .any, .any, .any, .any, .any, .any, .any, .any, .any, .any, .any, .any, .any, .any, .any, .any, .any, .any, .any, .any, .any, .any, .any, .any, .any, .any, .any, .any, .any, .any, .any, .any, .any, .any, .any, .any, .any, .any, .any, .any, .any, .any, .any, .any, .any, .any, .any, .any, .any, .any, .any, .any, .any, .any, .any, .any, .any, .any, .any, .any, .any], [some (.row 3 [[I s.mach, c, t]]), some (.row 4 [[I js[x.toNat].kind, I F, I js[x.toNat].due, .vl (js[x.toNat].mins.map rI) tw]])]⟩) ?_ (a - 0) _ ⟨0, 0, rfl, rfl, Nat.zero_le _, rfl, by simp⟩
    rintro m σ ⟨b, i, hib, rfl, hba, hbl, rfl⟩
    refine zS ?_
    refine zS ?_
    refine zR (zO (by simp [-lenA, zI, HH1, hF, hV]; rfl) ?_)
    simp only [zT, zB]
    refine runs_cond_split (x := decide (i < (a : Int))) (by simp) (fun hlt2 => ?_) (fun hlt2 => ?_)
    ·have hlt2 := of_decide_eq_true hlt2
     have hba : b < a := by omega
     have hbo : b < os.length := by omega
     have hb0 : 0 ≤ i := by omega
     have hbn : i.toNat = b := by omega
     have hwb : W .i64 (i + 1) = i + 1 := W_small (by omega)
     have hilo : i < (os.length : Int) := by omega
     have hxb := hoa b hbo
     have hjb2 : os[b].toNat < js.length := by omega
     have hjnb : jn js os b = js[os[b].toNat] := by unfold jn; rw [oAtN_eq hbo, jobAt_eq hjb2]
     have honb : oAtN os b = os[b].toNat := oAtN_eq hbo
     have hst : blkN s js S os a k u (b + 1) = (blkN s js S os a k u b || (decide (0 < minAt js[os[b].toNat] k) && !laterN js os k b (a - (b + 1)) && decide (u < stAt S os[b].toNat k + minAt js[os[b].toNat] k + chgAt s js[os[b].toNat].kind js[x.toNat].kind))) := by
      simp only [blkN, blkA, hjnb, honb, hjn]
     generalize hXb : os[b] = y at *
     have hy0 : 0 ≤ y := hxb.1
     have hjbb := hsh.job _ (List.getElem_mem hjb2)
     have hys : y.toNat < S.length := by omega
     have hrowb := hS.row _ (List.getElem_mem hys)
     have hkb : y.toNat < jr.length := by omega
     have hksb : y.toNat < sr.length := by omega
     obtain ⟨wb, hwb2, hwb3⟩ := jobs_at hj hjb2
     obtain ⟨wtb, hwtb2, hwtb3⟩ := ints2_at hs hys
     have hkjb : k < js[y.toNat].mins.length := by have := hjbb.2.2.2.1; omega
     have hkSb : k < S[y.toNat].length := by have := hrowb.1; omega
     obtain ⟨twb, rfl⟩ := dInts_get hwb3 hkjb
     obtain ⟨tzb, rfl⟩ := dInts_get hwtb3 hkSb
     have hmb := hjbb.2.2.2.2 _ (List.getElem_mem hkjb)
     have hsb := hrowb.2 _ (List.getElem_mem hkSb)
     have hwbg : ∀ h, jr[y.toNat]'h = [I js[y.toNat].kind, I js[y.toNat].ready, I js[y.toNat].due, .vl (js[y.toNat].mins.map rI) twb] := fun h => by rw [List.getElem?_eq_getElem h] at hwb2; exact Option.some.inj hwb2
     have hwtg : ∀ h, sr[y.toNat]'h = [.vl (S[y.toNat].map rI) tzb] := fun h => by rw [List.getElem?_eq_getElem h] at hwtb2; exact Option.some.inj hwtb2
     rw [minAt_eq hkjb, stAt_eq hys hkSb] at hst
     generalize hVb : js[y.toNat].mins[k] = Vb at *
     generalize hSb : S[y.toNat][k] = Sb at *
     have HH2 := zA hF (zA hV (zA hbo (zA hb0 (zA hbn (zA hwb (zA hilo (zA hXb (zA hy0 (zA hjb2 (zA hys (zA hkb (zA hksb (zA hwb2 (zA hwtb2 (zA hwbg (zA hwtg (zA hkjb (zA hkSb (zA hVb hSb)))))))))))))))))))
     refine zK ?_
     simp only [zT, zB]
     refine zS ?_
     refine zL ?_
     refine zS ?_
     refine zR (zO (by simp [-lenA, zI, HH1, HH2]; rfl) ?_)
     simp only [zT, zB]
     refine zS ?_
     refine zS ?_
     refine zR (zO (by simp [-lenA, zI, HH1, HH2]; rfl) ?_)
     simp only [zT, zB]
     refine zL ?_
     refine runs_loop_inv (fun m2 σ => ∃ (z : Nat) (e : Int) (la : Bool), e = b + 1 + z ∧ a - (b + 1) - z = m2 ∧ b + 1 + z ≤ a ∧ la = laterN js os k b z ∧ σ = ⟨[.any, .vl jr tj, .vl sr tt, .vl (os.map rI) to, I a, I k, I u, .ref 0 0 0, .any, .any, .any, .any, .any, .any, .any, .ref 1 0 0, .any, I i, .ref 2 0 0, .bool la, I e, .any, .any, .any, .any, .any, .any, .any, .any, .any, .any, .any, .any, .any, .any, .any, .any, .any, .any, .any, .any, .any, .any, .any, .any, .any, .any, .any, .any, .any, .any, .any, .any, .any, .any, .any, .any, .any, .any, .any, .any, .any, .any, .any, .any, .any, .any, .any, .any, .any, .any, .any, .any, .any, .any, .any, .any, .any, .any, .any, .any, .any, .any, .any, .any, .any, .any, .any, .any, .any, .any, .any, .any, .any, .any, .any, .any, .any, .any, .any, .any, .any, .any, .any, .any, .any, .any, .any, .any, .any, .any, .any, .any, .any, .any, .any, .any, .any, .any, .any, .any, .any, .any, .any, .any, .any, .any, .any, .any, .any, .any, .any, .any, .any, .any, .any, .any, .any, .any, .any, .any, .any, .any, .any, .any, .any, .any, .any, .any, .any, .any, .any, .any, .any, .any, .any, .any, .any, .any, .any, .any, .any, .any, .any, .any, .any, .any, .any, .any, .any, .any, .any, .any], [some (.row 3 [[I s.mach, c, t]]), some (.row 4 [[I js[x.toNat].kind, I F, I js[x.toNat].due, .vl (js[x.toNat].mins.map rI) tw]]), some (.row 4 [[I js[y.toNat].kind, I js[y.toNat].ready, I js[y.toNat].due, .vl (js[y.toNat].mins.map rI) twb]])]⟩) ?_ (a - (b + 1) - 0) _ ⟨0, i + 1, false, by omega, rfl, by omega, rfl, by simp [hwb, hbn]⟩
     rintro m2 σ ⟨z, e, la, hez, rfl, hza, hla, rfl⟩
     refine zS ?_
     refine zS ?_
     refine zR (zO (by simp [-lenA, zI, HH1, HH2]; rfl) ?_)
     simp only [zT, zB]
     refine runs_cond_split (x := decide (e < (a : Int))) (by simp) (fun hlt3 => ?_) (fun hlt3 => ?_)
     ·have hlt3 := of_decide_eq_true hlt3
      have hca : b + 1 + z < a := by omega
      have hco : b + 1 + z < os.length := by omega
      have hc0 : 0 ≤ e := by omega
      have hcn : e.toNat = b + 1 + z := by omega
      have hwc : W .i64 (e + 1) = e + 1 := W_small (by omega)
      have hclo : e < (os.length : Int) := by omega
      have hxc := hoa (b + 1 + z) hco
      have hjc : os[b + 1 + z].toNat < js.length := by omega
      have hjnc : jn js os (b + 1 + z) = js[os[b + 1 + z].toNat] := by unfold jn; rw [oAtN_eq hco, jobAt_eq hjc]
      have hstc : laterN js os k b (z + 1) = (laterN js os k b z || decide (0 < minAt js[os[b + 1 + z].toNat] k)) := by simp only [laterN, hjnc]
      generalize hXc : os[b + 1 + z] = yc at *
      have hyc0 : 0 ≤ yc := hxc.1
      have hjbc := hsh.job _ (List.getElem_mem hjc)
      have hkc : yc.toNat < jr.length := by omega
      obtain ⟨wc, hwc2, hwc3⟩ := jobs_at hj hjc
      have hkjc : k < js[yc.toNat].mins.length := by have := hjbc.2.2.2.1; omega
      obtain ⟨twc, rfl⟩ := dInts_get hwc3 hkjc
      have hwcg : ∀ h, jr[yc.toNat]'h = [I js[yc.toNat].kind, I js[yc.toNat].ready, I js[yc.toNat].due, .vl (js[yc.toNat].mins.map rI) twc] := fun h => by rw [List.getElem?_eq_getElem h] at hwc2; exact Option.some.inj hwc2
      rw [minAt_eq hkjc] at hstc
      generalize hVc : js[yc.toNat].mins[k] = Vc at *
      generalize hL : laterN js os k b z = lt at *
      subst hla
      rcases la with _ | _
      ·simp only [Bool.false_or] at hstc
       have HH3 := zA hco (zA hc0 (zA hcn (zA hwc (zA hclo (zA hXc (zA hyc0 (zA hjc (zA hkc (zA hwc2 (zA hwcg (zA hkjc hVc)))))))))))
       refine zK ?_
       simp only [zT, zB]
       refine zS ?_
       refine zL ?_
       refine zR (zO (by simp [-lenA, zI, HH1, HH2, HH3]; rfl) ?_)
       simp only [zT, zB]
       refine zR (zO (by simp [-lenA, zI, HH1, HH2, HH3]; rfl) ?_)
       simp only [zT, zB]
       exact ⟨a - (b + 1) - (z + 1), by omega, z + 1, e + 1, _, by omega, by omega, by omega, hstc.symm, by simp [trim, -lenA, zI, HH1, HH2, HH3]⟩
      ·simp only [Bool.true_or] at hstc
       have HH4 := zA hco (zA hc0 (zA hcn (zA hwc (zA hclo (zA hXc (zA hyc0 (zA hjc (zA hkc (zA hwc2 (zA hwcg (zA hkjc hVc)))))))))))
       refine zK ?_
       simp only [zT, zB]
       refine zS ?_
       refine zL ?_
       refine zR (zO (by simp [-lenA, zI, HH1, HH2, HH4]; rfl) ?_)
       simp only [zT, zB]
       refine zR (zO (by simp [-lenA, zI, HH1, HH2, HH4]; rfl) ?_)
       simp only [zT, zB]
       exact ⟨a - (b + 1) - (z + 1), by omega, z + 1, e + 1, _, by omega, by omega, by omega, hstc.symm, by simp [trim, -lenA, zI, HH1, HH2, HH4]⟩
     ·have hlt3 := of_decide_eq_false hlt3
      have hzz : z = a - (b + 1) := by omega
      rw [← hzz, ← hla] at hst
      obtain ⟨rsc, tcc, rowc, tcr, rfl, gc1, gc2, gc3, gc4⟩ := chgAt_get hsh hc hjbb.1 hjb.1
      have hcb := chgAt_bd hsh js[y.toNat].kind js[x.toNat].kind
      have hkd0 := hjbb.1.1
      have hkd1 := hjb.1.1
      generalize hCH : chgAt s js[y.toNat].kind js[x.toNat].kind = CH at *
      have gc2' := fun (h : js[y.toNat].kind.toNat < rsc.length) => Option.some.inj ((List.getElem?_eq_getElem h).symm.trans gc2)
      have gc4' := fun (h : js[x.toNat].kind.toNat < rowc.length) => Option.some.inj ((List.getElem?_eq_getElem h).symm.trans gc4)
      have hw1 : W .i64 (Sb + Vb) = Sb + Vb := W_fit (by omega)
      have hw2 : W .i64 (Sb + Vb + CH) = Sb + Vb + CH := W_fit (by omega)
      rcases hA : decide (0 < Vb) with _ | _
      ·have HH5 := zA gc1 (zA gc2 (zA gc2' (zA gc3 (zA gc4 (zA gc4' (zA hkd0 (zA hkd1 (zA hw1 (zA hw2 hA)))))))))
       refine runs_exit ?_
       simp only [zT, zB, if_true, if_false, reduceIte, Nat.reduceEqDiff, Nat.succ_ne_zero, Nat.one_ne_zero, Nat.zero_ne_one]
       refine zS ?_
       refine runs_drw (by simp (maxSteps := 3000000) [-lenA, zI, HH1, HH2, HH5]; rfl) ?_
       simp only [zT, zB]
       refine runs_cond (x := false) (by simp [hA]) ?_
       refine zK ?_
       simp only [zT, zB]
       refine zR (zO (by simp [-lenA, zI, HH1, HH2, HH5]; rfl) ?_)
       simp only [zT, zB]
       exact ⟨a - (b + 1), by omega, b + 1, i + 1, by omega, by omega, by omega, by rw [hst, hbl, hA]; rfl, by simp [trim, -lenA, zI, HH1, HH2, HH5]⟩
      ·rcases la with _ | _
       ·have HH6 := zA gc1 (zA gc2 (zA gc2' (zA gc3 (zA gc4 (zA gc4' (zA hkd0 (zA hkd1 (zA hw1 (zA hw2 hA)))))))))
        refine runs_exit ?_
        simp only [zT, zB, if_true, if_false, reduceIte, Nat.reduceEqDiff, Nat.succ_ne_zero, Nat.one_ne_zero, Nat.zero_ne_one]
        refine zS ?_
        refine runs_drw (by simp (maxSteps := 3000000) [-lenA, zI, HH1, HH2, HH6]; rfl) ?_
        simp only [zT, zB]
        refine runs_cond_split (x := decide (u < Sb + Vb + CH)) (by simp) (fun hq => ?_) (fun hq => ?_)
        ·have hbad : blkN s js S os a k u (b + 1) = true := by rw [hst, hA, hq]; simp
         have hall := blkN_mono hbad (show b + 1 ≤ a by omega)
         refine zS ?_
         refine zR (zO (by simp [-lenA, zI, HH1, HH2, HH6, hall]; rfl) ?_)
         simp only [zT, zB]
         refine runs_ret ?_
         simp [-lenA, zI, HH1, HH2, HH6, hall, trim]
        ·refine zK ?_
         simp only [zT, zB]
         refine zR (zO (by simp [-lenA, zI, HH1, HH2, HH6]; rfl) ?_)
         simp only [zT, zB]
         exact ⟨a - (b + 1), by omega, b + 1, i + 1, by omega, by omega, by omega, by rw [hst, hbl, hA, hq]; rfl, by simp [trim, -lenA, zI, HH1, HH2, HH6]⟩
       ·have HH7 := zA gc1 (zA gc2 (zA gc2' (zA gc3 (zA gc4 (zA gc4' (zA hkd0 (zA hkd1 (zA hw1 (zA hw2 hA)))))))))
        refine runs_exit ?_
        simp only [zT, zB, if_true, if_false, reduceIte, Nat.reduceEqDiff, Nat.succ_ne_zero, Nat.one_ne_zero, Nat.zero_ne_one]
        refine zS ?_
        refine runs_drw (by simp (maxSteps := 3000000) [-lenA, zI, HH1, HH2, HH7]; rfl) ?_
        simp only [zT, zB]
        refine runs_cond (x := false) (by simp) ?_
        refine zK ?_
        simp only [zT, zB]
        refine zR (zO (by simp [-lenA, zI, HH1, HH2, HH7]; rfl) ?_)
        simp only [zT, zB]
        exact ⟨a - (b + 1), by omega, b + 1, i + 1, by omega, by omega, by omega, by rw [hst, hbl, hA]; rfl, by simp [trim, -lenA, zI, HH1, HH2, HH7]⟩
    ·have hlt2 := of_decide_eq_false hlt2
     obtain rfl : b = a := by omega
     rw [hbl]
     refine runs_exit ?_
     simp only [zT, zB, if_true, if_false, reduceIte, Nat.reduceEqDiff, Nat.succ_ne_zero, Nat.one_ne_zero, Nat.zero_ne_one]
     refine zS ?_
     refine zS ?_
     refine zR (zO (by simp [-lenA, zI, HH1, hF, hV]; rfl) ?_)
     simp only [zT, zB]
     refine zL ?_
     refine runs_loop_inv (fun m3 σ => ∃ (p : Nat) (g : Int), g = p ∧ s.stops.length - p = m3 ∧ p ≤ s.stops.length ∧ (s.stops.take p).any (conf k V u) = false ∧ σ = ⟨[.any, .any, .any, .any, .any, I k, I u, .ref 0 0 0, .any, .any, .any, .any, .any, .any, .any, .ref 1 0 0, .any, .any, .any, .any, .any, I g, .any, .any, .any, .any, .any, .any, .any, .any, .any, .any, .any, .any, .any, .any, .any, .any, .any, .any, .any, .any, .any, .any, .any, .any, .any, .any, .any, .any, .any, .any, .any, .any, .any, .any, .any, .any, .any, .any, .any, .any, .any, .any, .any, .any, .any, .any, .any, .any, .any, .any, .any, .any, .any, .any, .any, .any, .any, .any, .any, .any, .any, .any, .any, .any, .any, .any, .any, .any, .any, .any, .any, .any, .any, .any, .any, .any, .any, .any, .any, .any, .any, .any, .any, .any, .any, .any, .any, .any, .any, .any, .any, .any, .any, .any, .any, .any, .any, .any, .any, .any, .any, .any, .any, .any, .any, .any, .any, .any, .any, .any, .any, .any, .any, .any, .any, .any, .any, .any, .any, .any, .any, .any, .any, .any, .any, .any, .any, .any, .any, .any, .any, .any, .any, .any, .any, .any, .any, .any, .any, .any, .any, .any, .any, .any, .any, .any, .any, .any, .any, .any, .any], [some (.row 3 [[I s.mach, c, t]]), some (.row 4 [[I js[x.toNat].kind, I F, I js[x.toNat].due, .vl (js[x.toNat].mins.map rI) tw]])]⟩) ?_ (s.stops.length - 0) _ ⟨0, 0, rfl, rfl, Nat.zero_le _, rfl, by simp⟩
     rintro m3 σ ⟨p, g, hgp, rfl, hpl, hno, rfl⟩
     refine zS ?_
     refine zS ?_
     refine zR (zO (by simp [-lenA, zI, HH1, hF, hV]; rfl) ?_)
     simp only [zT, zB]
     refine runs_cond_split (x := decide (g < (s.stops.length : Int))) (by simp) (fun hlt4 => ?_) (fun hlt4 => ?_)
     ·have hlt4 := of_decide_eq_true hlt4
      have hp0 : p < s.stops.length := by omega
      have hi0 : 0 ≤ g := by omega
      have htn : g.toNat = p := by omega
      have hwi : W .i64 (g + 1) = g + 1 := W_small (by have := hsh.nst; omega)
      have hxM := hsh.stop _ (List.getElem_mem hp0)
      have htk := take_any (f := conf k V u) hp0
      obtain ⟨ts, rfl⟩ := dStops_get ht hp0
      generalize hXs : s.stops[p] = Xs at *
      obtain ⟨x1, x2, x3⟩ := Xs
      simp only at hxM
      have hwv2 : W .i64 (u + V) = u + V := W_fit (by omega)
      have hcf : conf k V u (x1, x2, x3) = ((x1 == (k : Int)) && decide (u < x3) && decide (x2 < u + V)) := rfl
      rw [hcf, hno, Bool.false_or] at htk
      generalize hA1 : (x1 == (k : Int)) = A1 at *
      generalize hA2 : decide (u < x3) = A2 at *
      generalize hA3 : decide (x2 < u + V) = A3 at *
      rcases A1 with _ | _
      ·have HH8 := zA hF (zA hV (zA hi0 (zA htn (zA hp0 (zA hXs (zA hwi (zA hwv2 (zA hA1 (zA hA2 hA3)))))))))
       refine zK ?_
       simp only [zT, zB]
       refine zS ?_
       refine zL ?_
       refine zS ?_
       refine zR (zO (by simp [-lenA, zI, HH1, rS3, HH8]; rfl) ?_)
       simp only [zT, zB]
       refine zS ?_
       refine runs_drw (by simp (maxSteps := 3000000) [-lenA, zI, HH1, rS3, HH8]; rfl) ?_
       simp only [zT, zB]
       refine runs_cond (x := false) (by simp) ?_
       refine zK ?_
       simp only [zT, zB]
       refine zR (zO (by simp [-lenA, zI, HH1, rS3, HH8]; rfl) ?_)
       simp only [zT, zB]
       exact ⟨s.stops.length - (p + 1), by omega, p + 1, g + 1, by omega, rfl, by omega, by rw [htk]; rfl, by simp [trim, -lenA, zI, HH1, rS3, HH8]⟩
      ·rcases A2 with _ | _
       ·have HH9 := zA hF (zA hV (zA hi0 (zA htn (zA hp0 (zA hXs (zA hwi (zA hwv2 (zA hA1 (zA hA2 hA3)))))))))
        refine zK ?_
        simp only [zT, zB]
        refine zS ?_
        refine zL ?_
        refine zS ?_
        refine zR (zO (by simp [-lenA, zI, HH1, rS3, HH9]; rfl) ?_)
        simp only [zT, zB]
        refine zS ?_
        refine runs_drw (by simp (maxSteps := 3000000) [-lenA, zI, HH1, rS3, HH9]; rfl) ?_
        simp only [zT, zB]
        refine runs_cond (x := false) (by simp) ?_
        refine zK ?_
        simp only [zT, zB]
        refine zR (zO (by simp [-lenA, zI, HH1, rS3, HH9]; rfl) ?_)
        simp only [zT, zB]
        exact ⟨s.stops.length - (p + 1), by omega, p + 1, g + 1, by omega, rfl, by omega, by rw [htk]; rfl, by simp [trim, -lenA, zI, HH1, rS3, HH9]⟩
       ·rcases A3 with _ | _
        ·have HH10 := zA hF (zA hV (zA hi0 (zA htn (zA hp0 (zA hXs (zA hwi (zA hwv2 (zA hA1 (zA hA2 hA3)))))))))
         refine zK ?_
         simp only [zT, zB]
         refine zS ?_
         refine zL ?_
         refine zS ?_
         refine zR (zO (by simp [-lenA, zI, HH1, rS3, HH10]; rfl) ?_)
         simp only [zT, zB]
         refine zS ?_
         refine runs_drw (by simp (maxSteps := 3000000) [-lenA, zI, HH1, rS3, HH10]; rfl) ?_
         simp only [zT, zB]
         refine runs_cond (x := false) (by simp) ?_
         refine zK ?_
         simp only [zT, zB]
         refine zR (zO (by simp [-lenA, zI, HH1, rS3, HH10]; rfl) ?_)
         simp only [zT, zB]
         exact ⟨s.stops.length - (p + 1), by omega, p + 1, g + 1, by omega, rfl, by omega, by rw [htk]; rfl, by simp [trim, -lenA, zI, HH1, rS3, HH10]⟩
        ·have HH11 := zA hF (zA hV (zA hi0 (zA htn (zA hp0 (zA hXs (zA hwi (zA hwv2 (zA hA1 (zA hA2 hA3)))))))))
         refine zK ?_
         simp only [zT, zB]
         refine zS ?_
         refine zL ?_
         refine zS ?_
         refine zR (zO (by simp [-lenA, zI, HH1, rS3, HH11]; rfl) ?_)
         simp only [zT, zB]
         refine zS ?_
         refine runs_drw (by simp (maxSteps := 3000000) [-lenA, zI, HH1, rS3, HH11]; rfl) ?_
         simp only [zT, zB]
         refine runs_cond (x := true) (by simp) ?_
         have hany : s.stops.any (conf k V u) = true := any_take (by rw [htk]; rfl)
         refine zS ?_
         refine zR (zO (by simp [-lenA, zI, HH1, rS3, HH11, hany]; rfl) ?_)
         simp only [zT, zB]
         refine runs_ret ?_
         simp [-lenA, zI, HH1, rS3, HH11, hany, trim]
     ·have hlt4 := of_decide_eq_false hlt4
      obtain rfl : p = s.stops.length := by omega
      rw [List.take_length] at hno
      refine runs_exit ?_
      simp only [zT, zB, if_true, if_false, reduceIte, Nat.reduceEqDiff, Nat.succ_ne_zero, Nat.one_ne_zero, Nat.zero_ne_one]
      refine zS ?_
      refine zR (zO (by simp [-lenA, zI, HH1, hF, hV, hno]; rfl) ?_)
      simp only [zT, zB]
      refine runs_ret ?_
      simp [-lenA, zI, HH1, hF, hV, hno, trim]
 ·rw [if_neg hkz]
  have hkpos : (0 : Int) < (k : Int) := by omega
  have hwk : W .i64 ((k : Int) - 1) = (k : Int) - 1 := W_small (by omega)
  have hk1 : 0 ≤ (k : Int) - 1 := by omega
  have hk1b : (1 : Int) ≤ (k : Int) := by omega
  have hk1n : ((k : Int) - 1).toNat = k - 1 := by omega
  have hk1j : k - 1 < js[x.toNat].mins.length := by omega
  have hk1s : k - 1 < S[x.toNat].length := by omega
  have hk1jl : (k : Int) - 1 < (js[x.toNat].mins.length : Int) := by omega
  have hk1sl : (k : Int) - 1 < (S[x.toNat].length : Int) := by omega
  have hk1m : (k : Int) - 1 < s.mach := by omega
  have hp1 := hjb.2.2.2.2 _ (List.getElem_mem hk1j)
  have hp2 := hrow.2 _ (List.getElem_mem hk1s)
  rw [stAt_eq hxs hk1s, minAt_eq hk1j]
  generalize hY1 : js[x.toNat].mins[k - 1] = Y1 at *
  generalize hY2 : S[x.toNat][k - 1] = Y2 at *
  have hwF : W .i64 (Y2 + Y1) = Y2 + Y1 := W_fit (by omega)
  refine runs_cond (x := true) (by simp; omega) ?_
  have HH12 := zA hwk (zA hk1 (zA hk1b (zA hk1n (zA hk1j (zA hk1s (zA hk1jl (zA hk1sl (zA hk1m (zA hY1 (zA hY2 hwF))))))))))
  refine runs_drw (by simp (maxSteps := 3000000) [-lenA, zI, HH1, HH12]; rfl) ?_
  simp only [zT, zB]
  refine zS ?_
  refine zS ?_
  refine zR (zO (by simp [-lenA, zI, HH1, HH12]; rfl) ?_)
  simp only [zT, zB]
  refine runs_cond_split (x := decide (u < Y2 + Y1)) (by simp) (fun hlt => ?_) (fun hlt => ?_)
  ·have hlt := of_decide_eq_true hlt
   rw [if_pos hlt]
   refine zS ?_
   refine zR (zO (by simp [-lenA, zI, HH1, HH12]; rfl) ?_)
   simp only [zT, zB]
   refine runs_ret ?_
   simp [-lenA, zI, HH1, HH12, trim]
  ·have hlt := of_decide_eq_false hlt
   rw [if_neg hlt]
   generalize hV : js[x.toNat].mins[k] = V at *
   rw [hmeq]
   refine zK ?_
   simp only [zT, zB]
   refine zS ?_
   refine zS ?_
   refine zR (zO (by simp [-lenA, zI, HH1, HH12, hV]; rfl) ?_)
   simp only [zT, zB]
   by_cases hz : V = 0
   ·rw [if_pos hz]
    refine runs_cond (x := true) (by simp [hz]) ?_
    refine zS ?_
    refine zR (zO (by simp [-lenA, zI, HH1, HH12, hV, hz]; rfl) ?_)
    simp only [zT, zB]
    refine runs_ret ?_
    simp [-lenA, zI, HH1, HH12, hV, hz, trim]
   ·rw [if_neg hz]
    have hzb : (V == 0) = false := by simpa using hz
    refine runs_cond (x := false) (by simp [hz]) ?_
    refine zK ?_
    simp only [zT, zB]
    refine zS ?_
    refine zS ?_
    refine zR (zO (by simp [-lenA, zI, HH1, HH12, hV]; rfl) ?_)
    simp only [zT, zB]
    refine zL ?_
    refine runs_loop_inv (fun m σ => ∃ (b : Nat) (i : Int), i = b ∧ a - b = m ∧ b ≤ a ∧ blkN s js S os a k u b = false ∧ σ = ⟨[.any, .vl jr tj, .vl sr tt, .vl (os.map rI) to, I a, I k, I u, .ref 0 0 0, .any, .any, .any, .any, .any, .any, .any, .ref 1 0 0, .any, I i, .any, .any, .any, .any, .any, .any, .any, .any, .any, .any, .any, .any, .any, .any, .any, .any, .any, .any, .any, .any, .any, .any, .any, .any, .any, .any, .any, .any, .any, .any, .any, .any, .any, .any, .any, .any, .any, .any, .any, .any, .any, .any, .any, .any, .any, .any, .any, .any, .any, .any, .any, .any, .any, .any, .any, .any, .any, .any, .any, .any, .any, .any, .any, .any, .any, .any, .any, .any, .any, .any, .any, .any, .any, .any, .any, .any, .any, .any, .any, .any, .any, .any, .any, .any, .any, .any, .any, .any, .any, .any, .any, .any, .any, .any, .any, .any, .any, .any, .any, .any, .any, .any, .any, .any, .any, .any, .any, .any, .any, .any, .any, .any, .any, .any, .any, .any, .any, .any, .any, .any, .any, .any, .any, .any, .any, .any, .any, .any, .any, .any, .any, .any, .any, .any, .any, .any, .any, .any, .any, .any, .any, .any, .any, .any, .any, .any, .any, .any, .any, .any, .any, .any, .any, .any, .any], [some (.row 3 [[I s.mach, c, t]]), some (.row 4 [[I js[x.toNat].kind, I js[x.toNat].ready, I js[x.toNat].due, .vl (js[x.toNat].mins.map rI) tw]]), none, none, none, none, none, none, none, none, none, none, none, none, none, none, none, none, none, none, none]⟩) ?_ (a - 0) _ ⟨0, 0, rfl, rfl, Nat.zero_le _, rfl, by simp⟩
    rintro m σ ⟨b, i, hib, rfl, hba, hbl, rfl⟩
    refine zS ?_
    refine zS ?_
    refine zR (zO (by simp [-lenA, zI, HH1, HH12, hV]; rfl) ?_)
    simp only [zT, zB]
    refine runs_cond_split (x := decide (i < (a : Int))) (by simp) (fun hlt2 => ?_) (fun hlt2 => ?_)
    ·have hlt2 := of_decide_eq_true hlt2
     have hba : b < a := by omega
     have hbo : b < os.length := by omega
     have hb0 : 0 ≤ i := by omega
     have hbn : i.toNat = b := by omega
     have hwb : W .i64 (i + 1) = i + 1 := W_small (by omega)
     have hilo : i < (os.length : Int) := by omega
     have hxb := hoa b hbo
     have hjb2 : os[b].toNat < js.length := by omega
     have hjnb : jn js os b = js[os[b].toNat] := by unfold jn; rw [oAtN_eq hbo, jobAt_eq hjb2]
     have honb : oAtN os b = os[b].toNat := oAtN_eq hbo
     have hst : blkN s js S os a k u (b + 1) = (blkN s js S os a k u b || (decide (0 < minAt js[os[b].toNat] k) && !laterN js os k b (a - (b + 1)) && decide (u < stAt S os[b].toNat k + minAt js[os[b].toNat] k + chgAt s js[os[b].toNat].kind js[x.toNat].kind))) := by
      simp only [blkN, blkA, hjnb, honb, hjn]
     generalize hXb : os[b] = y at *
     have hy0 : 0 ≤ y := hxb.1
     have hjbb := hsh.job _ (List.getElem_mem hjb2)
     have hys : y.toNat < S.length := by omega
     have hrowb := hS.row _ (List.getElem_mem hys)
     have hkb : y.toNat < jr.length := by omega
     have hksb : y.toNat < sr.length := by omega
     obtain ⟨wb, hwb2, hwb3⟩ := jobs_at hj hjb2
     obtain ⟨wtb, hwtb2, hwtb3⟩ := ints2_at hs hys
     have hkjb : k < js[y.toNat].mins.length := by have := hjbb.2.2.2.1; omega
     have hkSb : k < S[y.toNat].length := by have := hrowb.1; omega
     obtain ⟨twb, rfl⟩ := dInts_get hwb3 hkjb
     obtain ⟨tzb, rfl⟩ := dInts_get hwtb3 hkSb
     have hmb := hjbb.2.2.2.2 _ (List.getElem_mem hkjb)
     have hsb := hrowb.2 _ (List.getElem_mem hkSb)
     have hwbg : ∀ h, jr[y.toNat]'h = [I js[y.toNat].kind, I js[y.toNat].ready, I js[y.toNat].due, .vl (js[y.toNat].mins.map rI) twb] := fun h => by rw [List.getElem?_eq_getElem h] at hwb2; exact Option.some.inj hwb2
     have hwtg : ∀ h, sr[y.toNat]'h = [.vl (S[y.toNat].map rI) tzb] := fun h => by rw [List.getElem?_eq_getElem h] at hwtb2; exact Option.some.inj hwtb2
     rw [minAt_eq hkjb, stAt_eq hys hkSb] at hst
     generalize hVb : js[y.toNat].mins[k] = Vb at *
     generalize hSb : S[y.toNat][k] = Sb at *
     have HH13 := zA hV (zA hbo (zA hb0 (zA hbn (zA hwb (zA hilo (zA hXb (zA hy0 (zA hjb2 (zA hys (zA hkb (zA hksb (zA hwb2 (zA hwtb2 (zA hwbg (zA hwtg (zA hkjb (zA hkSb (zA hVb hSb))))))))))))))))))
     refine zK ?_
     simp only [zT, zB]
     refine zS ?_
     refine zL ?_
     refine zS ?_
     refine zR (zO (by simp [-lenA, zI, HH1, HH12, HH13]; rfl) ?_)
     simp only [zT, zB]
     refine zS ?_
     refine zS ?_
     refine zR (zO (by simp [-lenA, zI, HH1, HH12, HH13]; rfl) ?_)
     simp only [zT, zB]
     refine zL ?_
     refine runs_loop_inv (fun m2 σ => ∃ (z : Nat) (e : Int) (la : Bool), e = b + 1 + z ∧ a - (b + 1) - z = m2 ∧ b + 1 + z ≤ a ∧ la = laterN js os k b z ∧ σ = ⟨[.any, .vl jr tj, .vl sr tt, .vl (os.map rI) to, I a, I k, I u, .ref 0 0 0, .any, .any, .any, .any, .any, .any, .any, .ref 1 0 0, .any, I i, .ref 21 0 0, .bool la, I e, .any, .any, .any, .any, .any, .any, .any, .any, .any, .any, .any, .any, .any, .any, .any, .any, .any, .any, .any, .any, .any, .any, .any, .any, .any, .any, .any, .any, .any, .any, .any, .any, .any, .any, .any, .any, .any, .any, .any, .any, .any, .any, .any, .any, .any, .any, .any, .any, .any, .any, .any, .any, .any, .any, .any, .any, .any, .any, .any, .any, .any, .any, .any, .any, .any, .any, .any, .any, .any, .any, .any, .any, .any, .any, .any, .any, .any, .any, .any, .any, .any, .any, .any, .any, .any, .any, .any, .any, .any, .any, .any, .any, .any, .any, .any, .any, .any, .any, .any, .any, .any, .any, .any, .any, .any, .any, .any, .any, .any, .any, .any, .any, .any, .any, .any, .any, .any, .any, .any, .any, .any, .any, .any, .any, .any, .any, .any, .any, .any, .any, .any, .any, .any, .any, .any, .any, .any, .any, .any, .any, .any, .any, .any, .any, .any, .any, .any, .any, .any, .any, .any, .any], [some (.row 3 [[I s.mach, c, t]]), some (.row 4 [[I js[x.toNat].kind, I js[x.toNat].ready, I js[x.toNat].due, .vl (js[x.toNat].mins.map rI) tw]]), none, none, none, none, none, none, none, none, none, none, none, none, none, none, none, none, none, none, none, some (.row 4 [[I js[y.toNat].kind, I js[y.toNat].ready, I js[y.toNat].due, .vl (js[y.toNat].mins.map rI) twb]])]⟩) ?_ (a - (b + 1) - 0) _ ⟨0, i + 1, false, by omega, rfl, by omega, rfl, by simp [hwb, hbn]⟩
     rintro m2 σ ⟨z, e, la, hez, rfl, hza, hla, rfl⟩
     refine zS ?_
     refine zS ?_
     refine zR (zO (by simp [-lenA, zI, HH1, HH12, HH13]; rfl) ?_)
     simp only [zT, zB]
     refine runs_cond_split (x := decide (e < (a : Int))) (by simp) (fun hlt3 => ?_) (fun hlt3 => ?_)
     ·have hlt3 := of_decide_eq_true hlt3
      have hca : b + 1 + z < a := by omega
      have hco : b + 1 + z < os.length := by omega
      have hc0 : 0 ≤ e := by omega
      have hcn : e.toNat = b + 1 + z := by omega
      have hwc : W .i64 (e + 1) = e + 1 := W_small (by omega)
      have hclo : e < (os.length : Int) := by omega
      have hxc := hoa (b + 1 + z) hco
      have hjc : os[b + 1 + z].toNat < js.length := by omega
      have hjnc : jn js os (b + 1 + z) = js[os[b + 1 + z].toNat] := by unfold jn; rw [oAtN_eq hco, jobAt_eq hjc]
      have hstc : laterN js os k b (z + 1) = (laterN js os k b z || decide (0 < minAt js[os[b + 1 + z].toNat] k)) := by simp only [laterN, hjnc]
      generalize hXc : os[b + 1 + z] = yc at *
      have hyc0 : 0 ≤ yc := hxc.1
      have hjbc := hsh.job _ (List.getElem_mem hjc)
      have hkc : yc.toNat < jr.length := by omega
      obtain ⟨wc, hwc2, hwc3⟩ := jobs_at hj hjc
      have hkjc : k < js[yc.toNat].mins.length := by have := hjbc.2.2.2.1; omega
      obtain ⟨twc, rfl⟩ := dInts_get hwc3 hkjc
      have hwcg : ∀ h, jr[yc.toNat]'h = [I js[yc.toNat].kind, I js[yc.toNat].ready, I js[yc.toNat].due, .vl (js[yc.toNat].mins.map rI) twc] := fun h => by rw [List.getElem?_eq_getElem h] at hwc2; exact Option.some.inj hwc2
      rw [minAt_eq hkjc] at hstc
      generalize hVc : js[yc.toNat].mins[k] = Vc at *
      generalize hL : laterN js os k b z = lt at *
      subst hla
      rcases la with _ | _
      ·simp only [Bool.false_or] at hstc
       have HH14 := zA hco (zA hc0 (zA hcn (zA hwc (zA hclo (zA hXc (zA hyc0 (zA hjc (zA hkc (zA hwc2 (zA hwcg (zA hkjc hVc)))))))))))
       refine zK ?_
       simp only [zT, zB]
       refine zS ?_
       refine zL ?_
       refine zR (zO (by simp [-lenA, zI, HH1, HH12, HH13, HH14]; rfl) ?_)
       simp only [zT, zB]
       refine zR (zO (by simp [-lenA, zI, HH1, HH12, HH13, HH14]; rfl) ?_)
       simp only [zT, zB]
       exact ⟨a - (b + 1) - (z + 1), by omega, z + 1, e + 1, _, by omega, by omega, by omega, hstc.symm, by simp [trim, -lenA, zI, HH1, HH12, HH13, HH14]⟩
      ·simp only [Bool.true_or] at hstc
       have HH15 := zA hco (zA hc0 (zA hcn (zA hwc (zA hclo (zA hXc (zA hyc0 (zA hjc (zA hkc (zA hwc2 (zA hwcg (zA hkjc hVc)))))))))))
       refine zK ?_
       simp only [zT, zB]
       refine zS ?_
       refine zL ?_
       refine zR (zO (by simp [-lenA, zI, HH1, HH12, HH13, HH15]; rfl) ?_)
       simp only [zT, zB]
       refine zR (zO (by simp [-lenA, zI, HH1, HH12, HH13, HH15]; rfl) ?_)
       simp only [zT, zB]
       exact ⟨a - (b + 1) - (z + 1), by omega, z + 1, e + 1, _, by omega, by omega, by omega, hstc.symm, by simp [trim, -lenA, zI, HH1, HH12, HH13, HH15]⟩
     ·have hlt3 := of_decide_eq_false hlt3
      have hzz : z = a - (b + 1) := by omega
      rw [← hzz, ← hla] at hst
      obtain ⟨rsc, tcc, rowc, tcr, rfl, gc1, gc2, gc3, gc4⟩ := chgAt_get hsh hc hjbb.1 hjb.1
      have hcb := chgAt_bd hsh js[y.toNat].kind js[x.toNat].kind
      have hkd0 := hjbb.1.1
      have hkd1 := hjb.1.1
      generalize hCH : chgAt s js[y.toNat].kind js[x.toNat].kind = CH at *
      have gc2' := fun (h : js[y.toNat].kind.toNat < rsc.length) => Option.some.inj ((List.getElem?_eq_getElem h).symm.trans gc2)
      have gc4' := fun (h : js[x.toNat].kind.toNat < rowc.length) => Option.some.inj ((List.getElem?_eq_getElem h).symm.trans gc4)
      have hw1 : W .i64 (Sb + Vb) = Sb + Vb := W_fit (by omega)
      have hw2 : W .i64 (Sb + Vb + CH) = Sb + Vb + CH := W_fit (by omega)
      rcases hA : decide (0 < Vb) with _ | _
      ·have HH16 := zA gc1 (zA gc2 (zA gc2' (zA gc3 (zA gc4 (zA gc4' (zA hkd0 (zA hkd1 (zA hw1 (zA hw2 hA)))))))))
       refine runs_exit ?_
       simp only [zT, zB, if_true, if_false, reduceIte, Nat.reduceEqDiff, Nat.succ_ne_zero, Nat.one_ne_zero, Nat.zero_ne_one]
       refine zS ?_
       refine runs_drw (by simp (maxSteps := 3000000) [-lenA, zI, HH1, HH12, HH13, HH16]; rfl) ?_
       simp only [zT, zB]
       refine runs_cond (x := false) (by simp [hA]) ?_
       refine zK ?_
       simp only [zT, zB]
       refine zR (zO (by simp [-lenA, zI, HH1, HH12, HH13, HH16]; rfl) ?_)
       simp only [zT, zB]
       exact ⟨a - (b + 1), by omega, b + 1, i + 1, by omega, by omega, by omega, by rw [hst, hbl, hA]; rfl, by simp [trim, -lenA, zI, HH1, HH12, HH13, HH16]⟩
      ·rcases la with _ | _
       ·have HH17 := zA gc1 (zA gc2 (zA gc2' (zA gc3 (zA gc4 (zA gc4' (zA hkd0 (zA hkd1 (zA hw1 (zA hw2 hA)))))))))
        refine runs_exit ?_
        simp only [zT, zB, if_true, if_false, reduceIte, Nat.reduceEqDiff, Nat.succ_ne_zero, Nat.one_ne_zero, Nat.zero_ne_one]
        refine zS ?_
        refine runs_drw (by simp (maxSteps := 3000000) [-lenA, zI, HH1, HH12, HH13, HH17]; rfl) ?_
        simp only [zT, zB]
        refine runs_cond_split (x := decide (u < Sb + Vb + CH)) (by simp) (fun hq => ?_) (fun hq => ?_)
        ·have hbad : blkN s js S os a k u (b + 1) = true := by rw [hst, hA, hq]; simp
         have hall := blkN_mono hbad (show b + 1 ≤ a by omega)
         refine zS ?_
         refine zR (zO (by simp [-lenA, zI, HH1, HH12, HH13, HH17, hall]; rfl) ?_)
         simp only [zT, zB]
         refine runs_ret ?_
         simp [-lenA, zI, HH1, HH12, HH13, HH17, hall, trim]
        ·refine zK ?_
         simp only [zT, zB]
         refine zR (zO (by simp [-lenA, zI, HH1, HH12, HH13, HH17]; rfl) ?_)
         simp only [zT, zB]
         exact ⟨a - (b + 1), by omega, b + 1, i + 1, by omega, by omega, by omega, by rw [hst, hbl, hA, hq]; rfl, by simp [trim, -lenA, zI, HH1, HH12, HH13, HH17]⟩
       ·have HH18 := zA gc1 (zA gc2 (zA gc2' (zA gc3 (zA gc4 (zA gc4' (zA hkd0 (zA hkd1 (zA hw1 (zA hw2 hA)))))))))
        refine runs_exit ?_
        simp only [zT, zB, if_true, if_false, reduceIte, Nat.reduceEqDiff, Nat.succ_ne_zero, Nat.one_ne_zero, Nat.zero_ne_one]
        refine zS ?_
        refine runs_drw (by simp (maxSteps := 3000000) [-lenA, zI, HH1, HH12, HH13, HH18]; rfl) ?_
        simp only [zT, zB]
        refine runs_cond (x := false) (by simp) ?_
        refine zK ?_
        simp only [zT, zB]
        refine zR (zO (by simp [-lenA, zI, HH1, HH12, HH13, HH18]; rfl) ?_)
        simp only [zT, zB]
        exact ⟨a - (b + 1), by omega, b + 1, i + 1, by omega, by omega, by omega, by rw [hst, hbl, hA]; rfl, by simp [trim, -lenA, zI, HH1, HH12, HH13, HH18]⟩
    ·have hlt2 := of_decide_eq_false hlt2
     obtain rfl : b = a := by omega
     rw [hbl]
     refine runs_exit ?_
     simp only [zT, zB, if_true, if_false, reduceIte, Nat.reduceEqDiff, Nat.succ_ne_zero, Nat.one_ne_zero, Nat.zero_ne_one]
     refine zS ?_
     refine zS ?_
     refine zR (zO (by simp [-lenA, zI, HH1, HH12, hV]; rfl) ?_)
     simp only [zT, zB]
     refine zL ?_
     refine runs_loop_inv (fun m3 σ => ∃ (p : Nat) (g : Int), g = p ∧ s.stops.length - p = m3 ∧ p ≤ s.stops.length ∧ (s.stops.take p).any (conf k V u) = false ∧ σ = ⟨[.any, .any, .any, .any, .any, I k, I u, .ref 0 0 0, .any, .any, .any, .any, .any, .any, .any, .ref 1 0 0, .any, .any, .any, .any, .any, I g, .any, .any, .any, .any, .any, .any, .any, .any, .any, .any, .any, .any, .any, .any, .any, .any, .any, .any, .any, .any, .any, .any, .any, .any, .any, .any, .any, .any, .any, .any, .any, .any, .any, .any, .any, .any, .any, .any, .any, .any, .any, .any, .any, .any, .any, .any, .any, .any, .any, .any, .any, .any, .any, .any, .any, .any, .any, .any, .any, .any, .any, .any, .any, .any, .any, .any, .any, .any, .any, .any, .any, .any, .any, .any, .any, .any, .any, .any, .any, .any, .any, .any, .any, .any, .any, .any, .any, .any, .any, .any, .any, .any, .any, .any, .any, .any, .any, .any, .any, .any, .any, .any, .any, .any, .any, .any, .any, .any, .any, .any, .any, .any, .any, .any, .any, .any, .any, .any, .any, .any, .any, .any, .any, .any, .any, .any, .any, .any, .any, .any, .any, .any, .any, .any, .any, .any, .any, .any, .any, .any, .any, .any, .any, .any, .any, .any, .any, .any, .any, .any, .any], [some (.row 3 [[I s.mach, c, t]]), some (.row 4 [[I js[x.toNat].kind, I js[x.toNat].ready, I js[x.toNat].due, .vl (js[x.toNat].mins.map rI) tw]]), none, none, none, none, none, none, none, none, none, none, none, none, none, none, none, none, none, none, none]⟩) ?_ (s.stops.length - 0) _ ⟨0, 0, rfl, rfl, Nat.zero_le _, rfl, by simp⟩
     rintro m3 σ ⟨p, g, hgp, rfl, hpl, hno, rfl⟩
     refine zS ?_
     refine zS ?_
     refine zR (zO (by simp [-lenA, zI, HH1, HH12, hV]; rfl) ?_)
     simp only [zT, zB]
     refine runs_cond_split (x := decide (g < (s.stops.length : Int))) (by simp) (fun hlt4 => ?_) (fun hlt4 => ?_)
     ·have hlt4 := of_decide_eq_true hlt4
      have hp0 : p < s.stops.length := by omega
      have hi0 : 0 ≤ g := by omega
      have htn : g.toNat = p := by omega
      have hwi : W .i64 (g + 1) = g + 1 := W_small (by have := hsh.nst; omega)
      have hxM := hsh.stop _ (List.getElem_mem hp0)
      have htk := take_any (f := conf k V u) hp0
      obtain ⟨ts, rfl⟩ := dStops_get ht hp0
      generalize hXs : s.stops[p] = Xs at *
      obtain ⟨x1, x2, x3⟩ := Xs
      simp only at hxM
      have hwv2 : W .i64 (u + V) = u + V := W_fit (by omega)
      have hcf : conf k V u (x1, x2, x3) = ((x1 == (k : Int)) && decide (u < x3) && decide (x2 < u + V)) := rfl
      rw [hcf, hno, Bool.false_or] at htk
      generalize hA1 : (x1 == (k : Int)) = A1 at *
      generalize hA2 : decide (u < x3) = A2 at *
      generalize hA3 : decide (x2 < u + V) = A3 at *
      rcases A1 with _ | _
      ·have HH19 := zA hV (zA hi0 (zA htn (zA hp0 (zA hXs (zA hwi (zA hwv2 (zA hA1 (zA hA2 hA3))))))))
       refine zK ?_
       simp only [zT, zB]
       refine zS ?_
       refine zL ?_
       refine zS ?_
       refine zR (zO (by simp [-lenA, zI, HH1, HH12, rS3, HH19]; rfl) ?_)
       simp only [zT, zB]
       refine zS ?_
       refine runs_drw (by simp (maxSteps := 3000000) [-lenA, zI, HH1, HH12, rS3, HH19]; rfl) ?_
       simp only [zT, zB]
       refine runs_cond (x := false) (by simp) ?_
       refine zK ?_
       simp only [zT, zB]
       refine zR (zO (by simp [-lenA, zI, HH1, HH12, rS3, HH19]; rfl) ?_)
       simp only [zT, zB]
       exact ⟨s.stops.length - (p + 1), by omega, p + 1, g + 1, by omega, rfl, by omega, by rw [htk]; rfl, by simp [trim, -lenA, zI, HH1, HH12, rS3, HH19]⟩
      ·rcases A2 with _ | _
       ·have HH20 := zA hV (zA hi0 (zA htn (zA hp0 (zA hXs (zA hwi (zA hwv2 (zA hA1 (zA hA2 hA3))))))))
        refine zK ?_
        simp only [zT, zB]
        refine zS ?_
        refine zL ?_
        refine zS ?_
        refine zR (zO (by simp [-lenA, zI, HH1, HH12, rS3, HH20]; rfl) ?_)
        simp only [zT, zB]
        refine zS ?_
        refine runs_drw (by simp (maxSteps := 3000000) [-lenA, zI, HH1, HH12, rS3, HH20]; rfl) ?_
        simp only [zT, zB]
        refine runs_cond (x := false) (by simp) ?_
        refine zK ?_
        simp only [zT, zB]
        refine zR (zO (by simp [-lenA, zI, HH1, HH12, rS3, HH20]; rfl) ?_)
        simp only [zT, zB]
        exact ⟨s.stops.length - (p + 1), by omega, p + 1, g + 1, by omega, rfl, by omega, by rw [htk]; rfl, by simp [trim, -lenA, zI, HH1, HH12, rS3, HH20]⟩
       ·rcases A3 with _ | _
        ·have HH21 := zA hV (zA hi0 (zA htn (zA hp0 (zA hXs (zA hwi (zA hwv2 (zA hA1 (zA hA2 hA3))))))))
         refine zK ?_
         simp only [zT, zB]
         refine zS ?_
         refine zL ?_
         refine zS ?_
         refine zR (zO (by simp [-lenA, zI, HH1, HH12, rS3, HH21]; rfl) ?_)
         simp only [zT, zB]
         refine zS ?_
         refine runs_drw (by simp (maxSteps := 3000000) [-lenA, zI, HH1, HH12, rS3, HH21]; rfl) ?_
         simp only [zT, zB]
         refine runs_cond (x := false) (by simp) ?_
         refine zK ?_
         simp only [zT, zB]
         refine zR (zO (by simp [-lenA, zI, HH1, HH12, rS3, HH21]; rfl) ?_)
         simp only [zT, zB]
         exact ⟨s.stops.length - (p + 1), by omega, p + 1, g + 1, by omega, rfl, by omega, by rw [htk]; rfl, by simp [trim, -lenA, zI, HH1, HH12, rS3, HH21]⟩
        ·have HH22 := zA hV (zA hi0 (zA htn (zA hp0 (zA hXs (zA hwi (zA hwv2 (zA hA1 (zA hA2 hA3))))))))
         refine zK ?_
         simp only [zT, zB]
         refine zS ?_
         refine zL ?_
         refine zS ?_
         refine zR (zO (by simp [-lenA, zI, HH1, HH12, rS3, HH22]; rfl) ?_)
         simp only [zT, zB]
         refine zS ?_
         refine runs_drw (by simp (maxSteps := 3000000) [-lenA, zI, HH1, HH12, rS3, HH22]; rfl) ?_
         simp only [zT, zB]
         refine runs_cond (x := true) (by simp) ?_
         have hany : s.stops.any (conf k V u) = true := any_take (by rw [htk]; rfl)
         refine zS ?_
         refine zR (zO (by simp [-lenA, zI, HH1, HH12, rS3, HH22, hany]; rfl) ?_)
         simp only [zT, zB]
         refine runs_ret ?_
         simp [-lenA, zI, HH1, HH12, rS3, HH22, hany, trim]
     ·have hlt4 := of_decide_eq_false hlt4
      obtain rfl : p = s.stops.length := by omega
      rw [List.take_length] at hno
      refine runs_exit ?_
      simp only [zT, zB, if_true, if_false, reduceIte, Nat.reduceEqDiff, Nat.succ_ne_zero, Nat.one_ne_zero, Nat.zero_ne_one]
      refine zS ?_
      refine zR (zO (by simp [-lenA, zI, HH1, HH12, hV, hno]; rfl) ?_)
      simp only [zT, zB]
      refine runs_ret ?_
      simp [-lenA, zI, HH1, HH12, hV, hno, trim]
end
end Go.Proofs.YtjjapdagllclkaaGreat.Tab

namespace Go.Proofs.YtjjapdagllclkaaGreat.Tab
open Go Go.Abs Go.Proofs
set_option linter.unusedSimpArgs false
set_option linter.unusedVariables false
/-- What has been, seen from its starts: a shop, jobs, an order, and the starts and ends by it. -/
structure RunCtx (s : FShop) (js : List FJob) (os : List Int) : Prop where
  ok : ShopOk s js
  ord : ordB os js.length = true
theorem RunCtx.len6 {s : FShop} {js : List FJob} {os : List Int} (h : RunCtx s js os) : os.length ≤ 6 := by
  rw [ord_len h.ord]; exact h.ok.njob
theorem RunCtx.mem {s : FShop} {js : List FJob} {os : List Int} (h : RunCtx s js os) : ∀ i ∈ os, 0 ≤ i ∧ i < js.length := fun _ hi => (ord_mem h.ord).1 hi
noncomputable def stsF (s : FShop) (js : List FJob) (os : List Int) : List (List Int) := (runF s js os).starts
noncomputable def endF (s : FShop) (js : List FJob) (os : List Int) : List Int := (runF s js os).ends
theorem jn_mem {s : FShop} {js : List FJob} {os : List Int} (h : RunCtx s js os) {a : Nat} (ha : a < os.length) : jn js os a ∈ js := jobO_mem h.ord ha
theorem jn_mach {s : FShop} {js : List FJob} {os : List Int} (h : RunCtx s js os) {a : Nat} (ha : a < os.length) : ((jn js os a).mins.length : Int) = s.mach := (h.ok.job _ (jn_mem h ha)).2.2.2.1
theorem jn_min {s : FShop} {js : List FJob} {os : List Int} (h : RunCtx s js os) {a : Nat} (ha : a < os.length) : ∀ n ∈ (jn js os a).mins, 0 ≤ n ∧ n ≤ 2000 := (h.ok.job _ (jn_mem h ha)).2.2.2.2
theorem minAt_nn {j : FJob} (h : ∀ n ∈ j.mins, 0 ≤ n ∧ n ≤ 2000) (k : Nat) : 0 ≤ minAt j k := by
  unfold minAt
  rw [List.getD_eq_getElem?_getD]
  cases e : j.mins[k]? with
  | none => exact Int.le_refl _
  | some x => exact (h x (List.mem_of_getElem? e)).1
theorem row_at {s : FShop} {js : List FJob} {os : List Int} (h : RunCtx s js os) {a : Nat} (ha : a < os.length) :
    (stsF s js os)[oAtN os a]? = some (passF s (lineN s js os a) (jn js os a)).1 ∧ (endF s js os)[oAtN os a]? = some (passF s (lineN s js os a) (jn js os a)).2.1 := by
  have := run_at s js h.ord ha
  rw [oAtN_eq ha]
  exact this
theorem st_at {s : FShop} {js : List FJob} {os : List Int} (h : RunCtx s js os) {a : Nat} (ha : a < os.length) (k : Nat) : stAt (stsF s js os) (oAtN os a) k = nAt (passF s (lineN s js os a) (jn js os a)).1 k := by
  unfold stAt nAt
  rw [List.getD_eq_getElem?_getD (l := stsF s js os), (row_at h ha).1]; rfl
/-- When a job starts on a machine. -/
theorem st_eq' {s : FShop} {js : List FJob} {os : List Int} (h : RunCtx s js os) {a k : Nat} (ha : a < os.length) (hk : (k : Int) < s.mach) :
    stAt (stsF s js os) (oAtN os a) k = startF s (jn js os a).kind (lineN s js os a) k (minAt (jn js os a) k) (fromA js (stsF s js os) os a k) := by
  have hm := jn_mach h ha
  have hp := passGo_st s (jn js os a).kind (jn js os a).mins 0 (jn js os a).ready (lineN s js os a) k (by omega)
  rw [st_at h ha]
  unfold passF
  rw [hp, Nat.zero_add]
  unfold fromA
  by_cases h0 : k = 0
  · subst h0; rfl
  · rw [if_neg h0, if_neg h0, st_at h ha]; rfl
theorem line_step {s : FShop} {js : List FJob} {os : List Int} (h : RunCtx s js os) {a k : Nat} (ha : a < os.length) (hk : (k : Int) < s.mach) :
    lAt (lineN s js os (a + 1)) k = if 0 < minAt (jn js os a) k then (stAt (stsF s js os) (oAtN os a) k + minAt (jn js os a) k, (jn js os a).kind, true) else lAt (lineN s js os a) k := by
  have hm := jn_mach h ha
  have hl := lineN_len h.ok h.len6 h.mem a
  have hb := h.ok.mach
  have hp := passGo_line s (jn js os a).kind (jn js os a).mins 0 (jn js os a).ready (lineN s js os a) k (by omega) (by omega)
  rw [lineN_succ s js ha, st_at h ha]
  rw [Nat.zero_add] at hp
  exact hp
/-- Which job had a machine last. -/
theorem line_last {s : FShop} {js : List FJob} {os : List Int} (h : RunCtx s js os) {k : Nat} (hk : (k : Int) < s.mach) : ∀ (a : Nat), a ≤ os.length →
    ((∀ b, b < a → ¬ 0 < minAt (jn js os b) k) ∧ (lAt (lineN s js os a) k).2.2 = false) ∨
    (∃ b, b < a ∧ 0 < minAt (jn js os b) k ∧ (∀ c, b < c → c < a → ¬ 0 < minAt (jn js os c) k) ∧ lAt (lineN s js os a) k = (stAt (stsF s js os) (oAtN os b) k + minAt (jn js os b) k, (jn js os b).kind, true))
  | 0, _ => .inl ⟨fun b hb => by omega, by
      have : lineN s js os 0 = line0 := rfl
      have hb := h.ok.mach
      rw [this]
      have : k = 0 ∨ k = 1 ∨ k = 2 ∨ k = 3 := by omega
      rcases this with rfl | rfl | rfl | rfl <;> rfl⟩
  | a + 1, ha => by
    have ih := line_last h hk a (by omega)
    rw [line_step h (by omega) hk]
    by_cases h0 : 0 < minAt (jn js os a) k
    · rw [if_pos h0]
      exact .inr ⟨a, by omega, h0, fun c h1 h2 => by omega, rfl⟩
    · rw [if_neg h0]
      rcases ih with ⟨h1, h2⟩ | ⟨b, h1, h2, h3, h4⟩
      · refine .inl ⟨fun b hb => ?_, h2⟩
        by_cases e : b = a
        · subst e; exact h0
        · exact h1 b (by omega)
      · refine .inr ⟨b, by omega, h2, fun c hc1 hc2 => ?_, h4⟩
        by_cases e : c = a
        · subst e; exact h0
        · exact h3 c hc1 (by omega)
theorem laterN_iff (js : List FJob) (os : List Int) (k b : Nat) : ∀ q, laterN js os k b q = true ↔ ∃ c, b < c ∧ c < b + 1 + q ∧ 0 < minAt (jn js os c) k
  | 0 => by
    simp only [laterN, Bool.false_eq_true, false_iff]
    rintro ⟨c, h1, h2, _⟩; omega
  | q + 1 => by
    simp only [laterN, Bool.or_eq_true, decide_eq_true_eq, laterN_iff js os k b q]
    constructor
    · rintro (⟨c, h1, h2, h3⟩ | h)
      · exact ⟨c, h1, by omega, h3⟩
      · exact ⟨b + 1 + q, by omega, by omega, h⟩
    · rintro ⟨c, h1, h2, h3⟩
      by_cases e : c = b + 1 + q
      · subst e; exact .inr h3
      · exact .inl ⟨c, h1, by omega, h3⟩
theorem blkN_iff (s : FShop) (js : List FJob) (S : List (List Int)) (os : List Int) (a k : Nat) (u : Int) : ∀ b, blkN s js S os a k u b = true ↔ ∃ c, c < b ∧ blkA s js S os a k u c = true
  | 0 => by simp [blkN]
  | b + 1 => by
    simp only [blkN, Bool.or_eq_true, blkN_iff s js S os a k u b]
    constructor
    · rintro (⟨c, h1, h2⟩ | h)
      · exact ⟨c, by omega, h2⟩
      · exact ⟨b, by omega, h⟩
    · rintro ⟨c, h1, h2⟩
      by_cases e : c = b
      · subst e; exact .inr h2
      · exact .inl ⟨c, by omega, h2⟩
/-- A start is too early for the job before just if it is before its end and the change. -/
theorem blk_iff {s : FShop} {js : List FJob} {os : List Int} (h : RunCtx s js os) {a k : Nat} (ha : a < os.length) (hk : (k : Int) < s.mach) (u : Int) :
    blkN s js (stsF s js os) os a k u a = true ↔ (lAt (lineN s js os a) k).2.2 = true ∧ u < (lAt (lineN s js os a) k).1 + chgAt s (lAt (lineN s js os a) k).2.1 (jn js os a).kind := by
  rw [blkN_iff]
  rcases line_last h hk a (by omega) with ⟨h1, h2⟩ | ⟨b, h1, h2, h3, h4⟩
  · rw [h2]
    constructor
    · rintro ⟨c, hc, hb⟩
      simp only [blkA, Bool.and_eq_true, decide_eq_true_eq] at hb
      exact absurd hb.1.1 (h1 c hc)
    · rintro ⟨hf, _⟩; cases hf
  · rw [h4]
    simp only [true_and]
    constructor
    · rintro ⟨c, hc, hb⟩
      simp only [blkA, Bool.and_eq_true, decide_eq_true_eq, Bool.not_eq_true'] at hb
      have hcb : c = b := by
        rcases Nat.lt_trichotomy c b with hlt | rfl | hgt
        · have : laterN js os k c (a - (c + 1)) = true := (laterN_iff js os k c _).2 ⟨b, hlt, by omega, h2⟩
          rw [hb.1.2] at this; cases this
        · rfl
        · exact absurd hb.1.1 (h3 c hgt hc)
      subst hcb
      exact hb.2
    · intro hu
      refine ⟨b, h1, ?_⟩
      simp only [blkA, Bool.and_eq_true, decide_eq_true_eq, Bool.not_eq_true']
      refine ⟨⟨h2, ?_⟩, hu⟩
      cases e : laterN js os k b (a - (b + 1)) with
      | false => rfl
      | true =>
        obtain ⟨c, c1, c2, c3⟩ := (laterN_iff js os k b _).1 e
        exact absurd c3 (h3 c c1 (by omega))
theorem any_conf {st : List FStop} {k : Nat} {n u : Int} : st.any (conf k n u) = false ↔ isFree st k n u := by
  rw [List.any_eq_false]
  constructor
  · intro h x hx
    have := h x hx
    simpa using this
  · intro h x hx
    rw [h x hx]; simp
/-- Up to a start no other time is allowed. -/
theorem allow_iff {s : FShop} {js : List FJob} {os : List Int} (h : RunCtx s js os) {a k : Nat} (ha : a < os.length) (hk : (k : Int) < s.mach) {u : Int} (hu : u ≤ stAt (stsF s js os) (oAtN os a) k) :
    allowB s js (stsF s js os) os a k u = decide (u = stAt (stsF s js os) (oAtN os a) k) := by
  have hn := minAt_nn (jn_min h ha) k
  have hb := blk_iff h ha hk
  have he := st_eq' h ha hk
  have e : ∀ (d x : Int × Int × Bool), (lineN s js os a).getD k (0, 0, false) = lAt (lineN s js os a) k := fun _ _ => rfl
  unfold allowB
  unfold startF at he
  rw [e (0, 0, false) (0, 0, false)] at he
  generalize lAt (lineN s js os a) k = l at *
  generalize fromA js (stsF s js os) os a k = f at *
  generalize stAt (stsF s js os) (oAtN os a) k = t at *
  generalize minAt (jn js os a) k = n at *
  by_cases h0 : 0 < n
  · rw [if_pos h0] at he
    have hn0 : ¬ n = 0 := by omega
    generalize hA : (if l.2.2 = true then max f (l.1 + chgAt s l.2.1 (jn js os a).kind) else f) = A at he
    have hF := freeT_spec s.stops k n A
    rw [← he] at hF
    have hfA : f ≤ A := by rw [← hA]; split <;> omega
    have hlow := hF.low
    rw [if_neg hn0]
    by_cases hu1 : u < f
    · rw [if_pos hu1]
      have : ¬ u = t := by omega
      simp [this]
    · rw [if_neg hu1]
      by_cases hut : u = t
      · subst hut
        have h1 : blkN s js (stsF s js os) os a k u a = false := by
          cases e2 : blkN s js (stsF s js os) os a k u a with
          | false => rfl
          | true =>
            have h2 := (hb u).1 e2
            rw [h2.1] at hA
            simp only [if_true] at hA
            omega
        have h2 := any_conf.2 hF.free
        simp [h1, h2]
      · have hdec : decide (u = t) = false := by simp [hut]
        rw [hdec]
        by_cases hA2 : A ≤ u
        · have : ¬ isFree s.stops k n u := fun hf => by have := hF.least u hA2 hf; omega
          have h2 : s.stops.any (conf k n u) = true := by
            cases e2 : s.stops.any (conf k n u) with
            | true => rfl
            | false => exact absurd (any_conf.1 e2) this
          rw [h2]; simp
        · have h1 : blkN s js (stsF s js os) os a k u a = true := by
            refine (hb u).2 ?_
            cases e2 : l.2.2 with
            | false => rw [e2] at hA; simp only [Bool.false_eq_true, if_false] at hA; omega
            | true =>
              rw [e2] at hA; simp only [if_true] at hA
              exact ⟨rfl, by omega⟩
          rw [h1]; simp
  · have hn0 : n = 0 := by omega
    rw [if_neg h0] at he
    rw [if_pos hn0, ← he]
    by_cases hu1 : u < t
    · rw [if_pos hu1]
      have : ¬ u = t := by omega
      simp [this]
    · rw [if_neg hu1]
      rw [Bool.eq_iff_iff]; simp
theorem endsL_get (S : List (List Int)) (js : List FJob) (m : Nat) : ∀ (n i : Nat), i < n → (endsL S js m n)[i]? = some (stAt S i (m - 1) + minAt (jobAt js i) (m - 1))
  | n + 1, i, hi => by
    simp only [endsL]
    by_cases e : i = n
    · subst e
      rw [List.getElem?_append_right (by rw [endsL_len]; exact Nat.le_refl _), endsL_len, Nat.sub_self]; rfl
    · rw [List.getElem?_append_left (by rw [endsL_len]; omega)]
      exact endsL_get S js m n i (by omega)
theorem endF_len {s : FShop} {js : List FJob} {os : List Int} (h : RunCtx s js os) : (endF s js os).length = js.length := (runF_ok h.ok h.len6 h.mem).elen
theorem stsF_len {s : FShop} {js : List FJob} {os : List Int} (h : RunCtx s js os) : (stsF s js os).length = js.length := (runF_ok h.ok h.len6 h.mem).slen
/-- The ends are the last starts and the minutes. -/
theorem ends_eq {s : FShop} {js : List FJob} {os : List Int} (h : RunCtx s js os) : endsL (stsF s js os) js s.mach.toNat js.length = endF s js os := by
  refine List.ext_getElem? fun i => ?_
  have hl := endF_len h
  by_cases hi : i < js.length
  · rw [endsL_get _ _ _ _ _ hi]
    obtain ⟨a, ha, hai⟩ := ord_find h.ord hi
    have hoa : oAtN os a = i := by rw [oAtN_eq ha]; exact hai
    have hr := row_at h ha
    rw [hoa] at hr
    rw [hr.2]
    congr 1
    have hm := jn_mach h ha
    have hb := h.ok.mach
    have hne : (jn js os a).mins ≠ [] := by intro e; rw [e] at hm; simp at hm; omega
    have hp := passGo_end s (jn js os a).kind (jn js os a).mins 0 (jn js os a).ready (lineN s js os a) hne
    unfold passF
    rw [hp]
    have hs := st_at h ha (s.mach.toNat - 1)
    rw [hoa] at hs
    have hlen : (jn js os a).mins.length - 1 = s.mach.toNat - 1 := by omega
    rw [hs, hlen]
    have hj : jobAt js i = jn js os a := by unfold jn; rw [hoa]
    rw [hj]; rfl
  · rw [List.getElem?_eq_none (by rw [endsL_len]; omega), List.getElem?_eq_none (by omega)]
/-- The starts are some of the jobs. -/
theorem sts_ok {s : FShop} {js : List FJob} {os : List Int} (h : RunCtx s js os) : StOk s js (stsF s js os) := by
  have hr := runF_ok h.ok h.len6 h.mem
  refine ⟨stsF_len h, fun l hl => ⟨?_, fun x hx => by have := hr.st l hl x hx; omega⟩⟩
  obtain ⟨i, hi, e⟩ := List.mem_iff_getElem.1 hl
  have hi' : i < js.length := by rw [← stsF_len h]; exact hi
  obtain ⟨a, ha, hai⟩ := ord_find h.ord hi'
  have hoa : oAtN os a = i := by rw [oAtN_eq ha]; exact hai
  have hra := (row_at h ha).1
  rw [hoa, List.getElem?_eq_getElem hi, e] at hra
  cases hra
  unfold passF
  rw [passGo_len]
  exact jn_mach h ha
theorem sumN_eq : ∀ l, sumN l = sumI l
  | [] => rfl
  | x :: l => by simp only [sumN, sumI, sumN_eq l]
theorem passGo_part (s : FShop) (kind : Int) : ∀ (ns : List Int) (k0 : Nat) (t : Int) (l : FLine) (i : Nat), (∀ n ∈ ns, 0 ≤ n) → i < ns.length →
    t + sumI (ns.take i) ≤ nAt (passGo s kind ns k0 t l).1 i ∧ nAt (passGo s kind ns k0 t l).1 i + nAt ns i + sumI (ns.drop (i + 1)) ≤ (passGo s kind ns k0 t l).2.1
  | [], _, _, _, i, _, hi => by simp at hi
  | n :: ns, k0, t, l, 0, h, _ => by
    have h1 := startF_low s kind l k0 n t
    have h2 := passGo_low s kind ns (k0 + 1) (startF s kind l k0 n t + n) (if 0 < n then l.set k0 (startF s kind l k0 n t + n, kind, true) else l) fun m hm => h m (by simp [hm])
    rw [sumN_eq] at h2
    simp only [passGo, nAt_zero, List.take_zero, List.drop_succ_cons, List.drop_zero, sumI]
    omega
  | n :: ns, k0, t, l, i + 1, h, hi => by
    have h1 := startF_low s kind l k0 n t
    have ih := passGo_part s kind ns (k0 + 1) (startF s kind l k0 n t + n) (if 0 < n then l.set k0 (startF s kind l k0 n t + n, kind, true) else l) i (fun m hm => h m (by simp [hm])) (by simpa using hi)
    simp only [passGo, nAt_succ, List.take_succ_cons, List.drop_succ_cons, sumI]
    omega
theorem part_at {s : FShop} {js : List FJob} {os : List Int} (h : RunCtx s js os) {a k : Nat} (ha : a < os.length) (hk : (k : Int) < s.mach) :
    (jn js os a).ready + sumI ((jn js os a).mins.take k) ≤ stAt (stsF s js os) (oAtN os a) k ∧ stAt (stsF s js os) (oAtN os a) k + minAt (jn js os a) k + sumI ((jn js os a).mins.drop (k + 1)) ≤ endAt (endF s js os) (oAtN os a) := by
  have hm := jn_mach h ha
  have hn := jn_min h ha
  have hp := passGo_part s (jn js os a).kind (jn js os a).mins 0 (jn js os a).ready (lineN s js os a) k (fun n hn' => (hn n hn').1) (by omega)
  have hr := (row_at h ha).2
  rw [st_at h ha]
  have he : endAt (endF s js os) (oAtN os a) = (passF s (lineN s js os a) (jn js os a)).2.1 := by unfold endAt; rw [List.getD_eq_getElem?_getD, hr]; rfl
  rw [he]
  exact hp
theorem latF_max {E : List Int} {js : List FJob} : ∀ (n i : Nat), i < n → endAt E i ≤ (latF E js n).2
  | n + 1, i, hi => by
    simp only [latF]
    by_cases e : i = n
    · subst e; omega
    · have := latF_max (E := E) (js := js) n i (by omega); omega
theorem latF_nn {E : List Int} {js : List FJob} : ∀ (n : Nat), 0 ≤ (latF E js n).2
  | 0 => Int.le_refl _
  | n + 1 => by have := latF_nn (E := E) (js := js) n; simp only [latF]; omega
noncomputable def lastE (s : FShop) (js : List FJob) (os : List Int) : Int := (latF (endF s js os) js js.length).2
theorem end_last {s : FShop} {js : List FJob} {os : List Int} (h : RunCtx s js os) {a : Nat} (ha : a < os.length) : endAt (endF s js os) (oAtN os a) ≤ lastE s js os := by
  refine latF_max _ _ ?_
  have := h.mem _ (List.getElem_mem ha)
  rw [oAtN_eq ha]; omega
/-- A job by its number has its place. -/
theorem find_at {s : FShop} {js : List FJob} {os : List Int} (h : RunCtx s js os) {i : Nat} (hi : i < js.length) : ∃ a, a < os.length ∧ oAtN os a = i ∧ jn js os a = jobAt js i := by
  obtain ⟨a, ha, e⟩ := ord_find h.ord hi
  have : oAtN os a = i := by rw [oAtN_eq ha]; exact e
  exact ⟨a, ha, this, by unfold jn; rw [this]⟩
theorem bnd1_le {s : FShop} {js : List FJob} {os : List Int} (h : RunCtx s js os) : ∀ n, n ≤ js.length → bnd1 js n ≤ lastE s js os
  | 0, _ => latF_nn _
  | n + 1, hn => by
    have ih := bnd1_le h n (by omega)
    obtain ⟨a, ha, e1, e2⟩ := find_at h (i := n) (by omega)
    have hb := h.ok.mach
    have hp := (part_at h ha (k := 0) (by omega))
    have hl := end_last h ha
    have hm := jn_mach h ha
    have : sumI (jn js os a).mins = minAt (jn js os a) 0 + sumI ((jn js os a).mins.drop 1) := by
      cases e : (jn js os a).mins with
      | nil => rw [e] at hm; simp at hm; omega
      | cons x l => simp [minAt, e, sumI]
    simp only [bnd1]
    rw [← e2]
    simp only [List.take_zero, sumI, Nat.zero_add] at hp
    omega
/-- What a machine needs for the first jobs by an order. -/
def needN (js : List FJob) (os : List Int) (k : Nat) : Nat → Int
  | 0 => 0
  | a + 1 => needN js os k a + minAt (jn js os a) k
/-- What has to be before is before. -/
theorem need_le {s : FShop} {js : List FJob} {os : List Int} (h : RunCtx s js os) {k : Nat} (hk : (k : Int) < s.mach) {B : Int} (hB : ∀ a, a < os.length → 0 < minAt (jn js os a) k → B ≤ (jn js os a).ready + sumI ((jn js os a).mins.take k)) : ∀ a, a ≤ os.length →
    ((lAt (lineN s js os a) k).2.2 = false ∧ needN js os k a = 0) ∨ ((lAt (lineN s js os a) k).2.2 = true ∧ B + needN js os k a ≤ (lAt (lineN s js os a) k).1)
  | 0, _ => .inl ⟨by
      have hb := h.ok.mach
      have : lineN s js os 0 = line0 := rfl
      rw [this]
      have : k = 0 ∨ k = 1 ∨ k = 2 ∨ k = 3 := by omega
      rcases this with rfl | rfl | rfl | rfl <;> rfl, rfl⟩
  | a + 1, ha => by
    have ih := need_le h hk hB a (by omega)
    have ha' : a < os.length := by omega
    have hn := minAt_nn (jn_min h ha') k
    rw [line_step h ha' hk]
    simp only [needN]
    by_cases h0 : 0 < minAt (jn js os a) k
    · rw [if_pos h0]
      refine .inr ⟨rfl, ?_⟩
      have hB' := hB a ha' h0
      have hp := (part_at h ha' hk).1
      have he := st_eq' h ha' hk
      have e : (lineN s js os a).getD k (0, 0, false) = lAt (lineN s js os a) k := rfl
      unfold startF at he
      rw [e, if_pos h0] at he
      show B + (needN js os k a + minAt (jn js os a) k) ≤ stAt (stsF s js os) (oAtN os a) k + minAt (jn js os a) k
      rcases ih with ⟨h1, h2⟩ | ⟨h1, h2⟩
      · omega
      · rw [h1, if_pos rfl] at he
        have hlow := freeT_low s.stops k (minAt (jn js os a) k) (max (fromA js (stsF s js os) os a k) ((lAt (lineN s js os a) k).1 + chgAt s (lAt (lineN s js os a) k).2.1 (jn js os a).kind))
        rw [← he] at hlow
        have hc := chgAt_bd h.ok (lAt (lineN s js os a) k).2.1 (jn js os a).kind
        omega
    · rw [if_neg h0]
      have : minAt (jn js os a) k = 0 := by omega
      rw [this, Int.add_zero]
      exact ih
def allN (js : List FJob) (k : Nat) : Nat → Int
  | 0 => 0
  | i + 1 => allN js k i + minAt (jobAt js i) k
theorem bAcc_spec {js : List FJob} (hn : ∀ j ∈ js, ∀ n ∈ j.mins, 0 ≤ n ∧ n ≤ 2000) (k : Nat) : ∀ i, i ≤ js.length →
    (bAcc js k i).all = allN js k i ∧ ((bAcc js k i).had = false → (bAcc js k i) = ⟨0, 0, 0, false⟩ ∧ ∀ p, p < i → minAt (jobAt js p) k = 0) ∧
    (∀ p, p < i → 0 < minAt (jobAt js p) k → (bAcc js k i).had = true ∧ (bAcc js k i).bef ≤ (jobAt js p).ready + sumI ((jobAt js p).mins.take k) ∧ (bAcc js k i).aft ≤ sumI ((jobAt js p).mins.drop (k + 1)))
  | 0, _ => ⟨rfl, fun _ => ⟨rfl, fun p hp => by omega⟩, fun p hp => by omega⟩
  | i + 1, hi => by
    have ih := bAcc_spec hn k i (by omega)
    have hj : jobAt js i ∈ js := by
      unfold jobAt
      rw [List.getD_eq_getElem?_getD, List.getElem?_eq_getElem (by omega)]
      exact List.getElem_mem _
    have h0 := minAt_nn (hn _ hj) k
    simp only [bAcc, bStep, allN]
    generalize hb : bAcc js k i = b at *
    obtain ⟨i1, i2, i3⟩ := ih
    by_cases hz : minAt (jobAt js i) k = 0
    · rw [if_pos hz, hz]
      refine ⟨by omega, fun hf => ⟨(i2 hf).1, fun p hp => ?_⟩, fun p hp hm => ?_⟩
      · by_cases e : p = i
        · subst e; exact hz
        · exact (i2 hf).2 p (by omega)
      · by_cases e : p = i
        · subst e; omega
        · exact i3 p (by omega) hm
    · rw [if_neg hz]
      refine ⟨by show b.all + _ = _; omega, fun hf => (by cases hf), fun p hp hm => ⟨rfl, ?_⟩⟩
      show (if b.had = true then min ((jobAt js i).ready + sumI ((jobAt js i).mins.take k)) b.bef else (jobAt js i).ready + sumI ((jobAt js i).mins.take k)) ≤ _ ∧ (if b.had = true then min (sumI ((jobAt js i).mins.drop (k + 1))) b.aft else sumI ((jobAt js i).mins.drop (k + 1))) ≤ _
      by_cases e : p = i
      · subst e
        split <;> omega
      · have := i3 p (by omega) hm
        rw [this.1, if_pos rfl, if_pos rfl]
        omega
theorem sum_perm {os ps : List Int} (hp : os.Perm ps) (f : Int → Int) : (os.map f).foldr (· + ·) 0 = (ps.map f).foldr (· + ·) 0 := by
  induction hp with
  | nil => rfl
  | cons x _ ih => simp only [List.map_cons, List.foldr_cons, ih]
  | swap x y l => simp only [List.map_cons, List.foldr_cons]; omega
  | trans _ _ h1 h2 => exact h1.trans h2
theorem foldr_snoc (l : List Int) (x : Int) : (l ++ [x]).foldr (· + ·) 0 = l.foldr (· + ·) 0 + x := by
  induction l with
  | nil => simp
  | cons y l ih => simp only [List.cons_append, List.foldr_cons, ih]; omega
theorem needN_fold (js : List FJob) (os : List Int) (k : Nat) : ∀ a, a ≤ os.length → needN js os k a = ((os.take a).map fun o => minAt (jobAt js o.toNat) k).foldr (· + ·) 0
  | 0, _ => by simp [needN]
  | a + 1, ha => by
    rw [needN, needN_fold js os k a (by omega), List.take_succ_eq_append_getElem (by omega), List.map_append]
    simp only [List.map_cons, List.map_nil]
    rw [foldr_snoc]
    unfold jn
    rw [oAtN_eq (by omega)]
theorem allN_fold (js : List FJob) (k : Nat) : ∀ i, allN js k i = ((upTo i).map fun o => minAt (jobAt js o.toNat) k).foldr (· + ·) 0
  | 0 => rfl
  | i + 1 => by
    have e : upTo (i + 1) = upTo i ++ [(i : Int)] := by unfold upTo; rw [List.range_succ, List.map_append]; rfl
    rw [allN, allN_fold js k i, e, List.map_append]
    simp only [List.map_cons, List.map_nil]
    rw [foldr_snoc]
    congr 1
theorem need_all {s : FShop} {js : List FJob} {os : List Int} (h : RunCtx s js os) (k : Nat) : needN js os k os.length = allN js k js.length := by
  rw [needN_fold js os k _ (Nat.le_refl _), allN_fold, List.take_length]
  exact sum_perm (ord_perm h.ord) _
/-- No last end is below the bound. -/
theorem bnd2_le {s : FShop} {js : List FJob} {os : List Int} (h : RunCtx s js os) : ∀ k : Nat, (k : Int) ≤ s.mach → bnd2 js k ≤ lastE s js os
  | 0, _ => bnd1_le h _ (Nat.le_refl _)
  | k + 1, hk => by
    have ih := bnd2_le h k (by omega)
    have hk' : (k : Int) < s.mach := by omega
    have hn : ∀ j ∈ js, ∀ n ∈ j.mins, 0 ≤ n ∧ n ≤ 2000 := fun j hj => (h.ok.job j hj).2.2.2.2
    obtain ⟨i1, i2, i3⟩ := bAcc_spec hn k js.length (Nat.le_refl _)
    have hl0 : 0 ≤ lastE s js os := latF_nn _
    simp only [bnd2]
    generalize hb : bAcc js k js.length = b at *
    have hat : ∀ a, a < os.length → 0 < minAt (jn js os a) k → b.had = true ∧ b.bef ≤ (jn js os a).ready + sumI ((jn js os a).mins.take k) ∧ b.aft ≤ sumI ((jn js os a).mins.drop (k + 1)) := fun a ha hm => by
      have := h.mem _ (List.getElem_mem ha)
      exact i3 (oAtN os a) (by rw [oAtN_eq ha]; omega) hm
    rcases line_last h hk' os.length (Nat.le_refl _) with ⟨h1, h2⟩ | ⟨c, h1, h2, h3, h4⟩
    · have hz : b.had = false := by
        cases e : b.had with
        | false => rfl
        | true =>
          exfalso
          have hall : ∀ p, p < js.length → minAt (jobAt js p) k = 0 := fun p hp => by
            obtain ⟨a, ha, e1, e2⟩ := find_at h hp
            have := h1 a ha
            have h0 := minAt_nn (jn_min h ha) k
            rw [e2] at this h0
            omega
          have : ∀ i, i ≤ js.length → bAcc js k i = ⟨0, 0, 0, false⟩ := by
            intro i
            induction i with
            | zero => intro _; rfl
            | succ i ihi => intro hi; simp only [bAcc, bStep]; rw [if_pos (hall i (by omega))]; exact ihi (by omega)
          rw [this _ (Nat.le_refl _)] at hb
          subst hb
          cases e
      rw [(i2 hz).1]
      show max (bnd2 js k) (0 + 0 + 0) ≤ _
      omega
    · have hnl := need_le h hk' (B := b.bef) (fun a ha hm => (hat a ha hm).2.1) os.length (Nat.le_refl _)
      rw [h4] at hnl
      rcases hnl with ⟨hf, _⟩ | ⟨_, hle⟩
      · cases hf
      · have h5 := hat c h1 h2
        have h6 := (part_at h h1 hk').2
        have h7 := end_last h h1
        rw [need_all h, ← i1] at hle
        simp only at hle
        omega
theorem bnd_nn (js : List FJob) : ∀ k : Nat, 0 ≤ bnd2 js k
  | 0 => by
    have : ∀ n, 0 ≤ bnd1 js n := by
      intro n
      induction n with
      | zero => exact Int.le_refl _
      | succ n ih => simp only [bnd1]; omega
    exact this _
  | k + 1 => by have := bnd_nn js k; simp only [bnd2]; omega
theorem bound_ok {s : FShop} {js : List FJob} {os : List Int} (h : RunCtx s js os) : 0 ≤ boundF s js ∧ boundF s js ≤ lastE s js os :=
  ⟨bnd_nn js _, bnd2_le h s.mach.toNat (by have := h.ok.mach; omega)⟩
end Go.Proofs.YtjjapdagllclkaaGreat.Tab

namespace Go.Proofs.YtjjapdagllclkaaGreat.Tab
open Go Go.Abs Go.Proofs
set_option maxRecDepth 100000
set_option maxHeartbeats 4000000
set_option linter.unusedSimpArgs false
set_option linter.unusedVariables false
section
attribute [local simp] frz_int frz_bool frz_vl frz_pv frz_agg frz_tup frz_fn frz_ref frz_sl frz_nils optAll orcF rb_int rb_bool rb_agg rb_tup rb_int' rb_bool' rb_vl rb_pv rb_yld rb_nilf rb_nilp rb_nils rb_any rb_und rb_ref rb_sl rb_fn slE chunk fillA evParts evParts3 putAt List.range_succ List.range_zero List.range'_succ List.range'_zero runX_nil' unary_not evalS_pure evAll_nil evAll_cons runX_cons stepX wantedA dop CV.ev putK_eq setK_eq appK_eq fA_eq fI_eq fN_eq fRow_eq fRows_eq nth_eq Out.v putT List.replicate_succ zT zB arI pointee Abs.rowAt ldRow allV toV toC ofV ofC Builtin.min_ Builtin.min2 Builtin.max_ Builtin.max2 min_if max_if resA tupA kill trim_self trim_len trim_emp trim_nil lenA
attribute [local simp] runD_nil' runD_cons' stepD actK_eq actD clash disj masks holes maskH unmaskH diffs news eqB allB eqA ldRowN wrote toCs ofCs stA rowsV_vl rowsV_nils rowsOf dI1 dI2 dI3 dI5 elt
attribute [local simp] st_any st_und st_agg st_tup st_bool st_int st_nilp st_ref st_pv st_nils st_sl st_vl st_nilm st_mp st_fn st_nilf st_yld co_any co_und co_agg co_tup co_bool co_int co_nilp co_ref co_pv co_nils co_sl co_vl co_nilm co_mp co_fn co_nilf co_yld
attribute [local simp] Function.comp_def List.all_append List.all_map above callA calleeA frNB_none frNB_row frN_agg frN_bool frN_int frN_nils frN_ref frN_sl frN_tup frN_vl frzG gather getR lim lop loud lowA lowR norm okG putG putR rbB_none rbB_row resG rowAt takeG
def rU (v : List Int) : List AVal := v.map fun n => .int .u8 n
def dU1 : AVal → Option Int
  | .int .u8 n => some n
  | _ => none
def dU (r : List AVal) : Option (List Int) := optAll dU1 r
theorem dU_eq {r : List AVal} {v : List Int} (h : dU r = some v) : r = rU v := by
  unfold dU at h
  induction r generalizing v with
  | nil => simp only [optAll, Option.some.injEq] at h; subst h; rfl
  | cons a r ih =>
    simp only [optAll] at h
    split at h <;> (try simp only [reduceCtorEq] at h)
    rename_i y ys h1 h2
    cases h
    unfold dU1 at h1
    split at h1 <;> simp at h1
    subst h1
    rw [ih h2]; rfl
theorem rU_len (v : List Int) : (rU v).length = v.length := by simp [rU]
theorem rU_get {v : List Int} {k : Nat} (h : k < v.length) : (rU v)[k]? = some (.int .u8 (v.getD k 0)) := by
  unfold rU; rw [List.getElem?_map, List.getD_eq_getElem?_getD, List.getElem?_eq_getElem h]; rfl
theorem rU_stor (v : List Int) : (rU v).all storable = true := by
  simp only [List.all_eq_true]
  intro z hz
  obtain ⟨a, _, rfl⟩ := List.mem_map.1 hz
  rfl
theorem rU_rb (n d : Nat) (v : List Int) : (rU v).all (rb n (d + 1)) = true := by
  simp only [List.all_eq_true]
  intro z hz
  obtain ⟨a, _, rfl⟩ := List.mem_map.1 hz
  rfl
/-- Works, read. -/
structure FWorks where
  m : Int
  k : Int
  g : List Int
  xs : List (List Int)
  ys : List (List Int)
  o : List Int
def isU (n : Int) : Prop := 0 ≤ n ∧ n ≤ 255
instance (n : Int) : Decidable (isU n) := by unfold isU; infer_instance
structure WkOk (w : FWorks) : Prop where
  m : isU w.m
  k : isU w.k
  g : w.g.length = 16 ∧ ∀ n ∈ w.g, isU n
  xs : ∀ v ∈ w.xs, v.length = 4 ∧ ∀ n ∈ v, isU n
  ys : ∀ v ∈ w.ys, v.length = 7 ∧ ∀ n ∈ v, isU n
  o : w.o.length = 6 ∧ ∀ n ∈ w.o, isU n
/-- The cells of works. -/
def wkC (w : FWorks) (x y : AVal) : List AVal := .int .u8 w.m :: .int .u8 w.k :: (rU w.g ++ [x, y] ++ rU w.o)
def wM (w : FWorks) : Int := 1 + w.m.tmod 4
def wK (w : FWorks) : Int := 1 + w.k.tmod 4
def gAt (w : FWorks) (i k : Nat) : Int := w.g.getD (i * 4 + k) 0
def wRow (w : FWorks) (i n : Nat) : List Int := (List.range n).map fun k => (gAt w i k).tmod 40
def wC (w : FWorks) (n : Nat) : List (List Int) := (List.range n).map fun i => wRow w i (wK w).toNat
def v_ (v : List Int) (k : Nat) : Int := v.getD k 0
def wStop (w : FWorks) (v : List Int) : FStop := ((v_ v 0).tmod (wM w), 2 * v_ v 1 + (v_ v 2).tmod 2, 2 * v_ v 1 + (v_ v 2).tmod 2 + 1 + (v_ v 3).tmod 60)
def wT (w : FWorks) (n : Nat) : List FStop := (w.xs.take n).map (wStop w)
def wMin (v : List Int) (k : Nat) : Int := max 0 ((v_ v (3 + k)).tmod 90 - 10)
def wMins (v : List Int) (n : Nat) : List Int := (List.range n).map (wMin v)
def wJob (w : FWorks) (v : List Int) : FJob := ⟨(v_ v 0).tmod (wK w), v_ v 1, 3 * v_ v 2, wMins v (wM w).toNat⟩
def wJ (w : FWorks) (n : Nat) : List FJob := (w.ys.take n).map (wJob w)
def wShop (w : FWorks) : FShop := ⟨wM w, wC w (wK w).toNat, wT w (min w.xs.length 6)⟩
def wJobs (w : FWorks) : List FJob := wJ w (min w.ys.length 5)
theorem range_map1 {α : Type} (f : Nat → α) (n : Nat) : (List.range (n + 1)).map f = (List.range n).map f ++ [f n] := by rw [List.range_succ, List.map_append]; rfl
theorem take_map1 {α β : Type} (f : α → β) {l : List α} {n : Nat} (h : n < l.length) : (l.take (n + 1)).map f = (l.take n).map f ++ [f l[n]] := by rw [List.take_succ_eq_append_getElem h, List.map_append]; rfl
/-- Stops that were put together by appending. -/
def encN (ts : List FStop) : AVal := match ts with | [] => .nils | x :: l => .vl ((x :: l).map rS3) false
theorem encN_ne {ts : List FStop} (h : ts ≠ []) : encN ts = .vl (ts.map rS3) false := by cases ts with | nil => exact absurd rfl h | cons x l => rfl
theorem dStops_encN (ts : List FStop) : dStops (encN ts) = some ts := by
  cases ts with
  | nil => rfl
  | cons x l => exact dStops_of (v := .vl ((x :: l).map rS3) false) rfl
theorem frN_rI (n : Nat) (h : Heap) (xs : List Int) : ∀ r ∈ xs.map rI, optAll (frN n h 5) r = some r := fun r hr => by
  obtain ⟨j, _, rfl⟩ := List.mem_map.1 hr; rfl
theorem frN_rS3 (n : Nat) (h : Heap) (xs : List FStop) : ∀ r ∈ xs.map rS3, optAll (frN n h 5) r = some r := fun r hr => by
  obtain ⟨j, _, rfl⟩ := List.mem_map.1 hr; rfl
theorem mins_fit {l : List Int} {k : Nat} (h : ∀ n ∈ l, isU n) : isU (l.getD k 0) := by
  rw [List.getD_eq_getElem?_getD]
  cases e : l[k]? with
  | none => exact ⟨by simp, by simp⟩
  | some n => exact h n (List.mem_of_getElem? e)
def tl41 : CC := (.seq (.reg [⟨(some 101), (.bsl 4 0 [(.int .i64 (0)), (.int .i64 (0)), (.int .i64 (0)), .nils] []), none, []⟩, ⟨(some 12), (.mv (.t 101)), none, []⟩]) (.seq (.seq (.reg [⟨(some 13), (.mv (.c (.int .i64 (0)))), none, []⟩]) (.block 6 (.loopG 12342 [.slot 12] (.seq (.seq (.reg [⟨(some 102), (.mv (.t 13)), none, []⟩, ⟨(some 103), (.fa 19 (.t 1)), none, []⟩, ⟨(some 104), (.ld (.t 103)), none, []⟩, ⟨(some 105), (.len (.t 104)), none, []⟩, ⟨(some 106), (.ar .lss (.t 102) (.t 105)), none, []⟩, ⟨(some 107), (.mv (.t 106)), none, []⟩, ⟨(some 108), (.mv (.t 13)), (some (107, true)), []⟩, ⟨(some 109), (.ar .lss (.t 108) (.c (.int .i64 (5)))), (some (107, true)), []⟩, ⟨(some 110), (.pick (.t 107) (.t 109) (.c (.bool false))), none, []⟩]) (.cond (.t 110) .skip (.exit 6))) (.seq (.block 7 (.seq (.reg [⟨(some 113), (.fa 19 (.t 1)), none, []⟩, ⟨(some 114), (.ld (.t 113)), none, []⟩, ⟨(some 115), (.mv (.t 13)), none, []⟩, ⟨(some 116), (.ias 7 (.t 114) (.t 115)), none, []⟩, ⟨(some 117), (.ldn 7 (.t 116)), none, []⟩, ⟨(some 14), (.new [(.int .u8 (0)), (.int .u8 (0)), (.int .u8 (0)), (.int .u8 (0)), (.int .u8 (0)), (.int .u8 (0)), (.int .u8 (0))]), none, []⟩, ⟨none, (.st 7 (.t 14) (.t 117)), none, []⟩]) (.seq (.drw [⟨(some 118), (.iaa 7 1 (.t 14) (.c (.int .i64 (0)))), none, []⟩, ⟨(some 119), (.ld (.t 118)), none, []⟩, ⟨(some 120), (.conv .i64 (.t 119)), none, []⟩, ⟨(some 121), (.mv (.t 5)), none, [0, 1, 2]⟩, ⟨(some 122), (.ar .rem (.t 120) (.t 121)), none, []⟩, ⟨(some 123), (.iaa 7 1 (.t 14) (.c (.int .i64 (1)))), none, [0, 1, 2, 3, 4]⟩, ⟨(some 124), (.ld (.t 123)), none, [0, 1, 2, 3, 4]⟩, ⟨(some 125), (.conv .i64 (.t 124)), none, [0, 1, 2, 3, 4]⟩, ⟨(some 126), (.iaa 7 1 (.t 14) (.c (.int .i64 (2)))), none, [0, 1, 2, 3, 4, 5, 6, 7]⟩, ⟨(some 127), (.ld (.t 126)), none, [0, 1, 2, 3, 4, 5, 6, 7]⟩, ⟨(some 128), (.conv .i64 (.t 127)), none, [0, 1, 2, 3, 4, 5, 6, 7]⟩, ⟨(some 129), (.ar .mul (.c (.int .i64 (3))) (.t 128)), none, [0, 1, 2, 3, 4, 5, 6, 7]⟩, ⟨(some 130), (.bld [(.int .i64 (0)), (.int .i64 (0)), (.int .i64 (0)), .nils] [(0, (1, (.t 122))), (1, (1, (.t 125))), (2, (1, (.t 129)))]), none, []⟩, ⟨(some 15), (.new [(.int .i64 (0)), (.int .i64 (0)), (.int .i64 (0)), .nils]), none, [0, 1, 2, 3, 4, 5, 6, 7, 8, 9, 10, 11, 12]⟩, ⟨none, (.st 4 (.t 15) (.t 130)), none, []⟩]) (.seq (.seq (.reg [⟨(some 16), (.mv (.c (.int .i64 (0)))), none, []⟩]) (.block 8 (.loopG 127030 [.cell 15 3] (.seq (.seq (.reg [⟨(some 131), (.mv (.t 16)), none, []⟩, ⟨(some 132), (.fa 0 (.t 4)), none, []⟩, ⟨(some 133), (.ld (.t 132)), none, []⟩, ⟨(some 134), (.ar .lss (.t 131) (.t 133)), none, []⟩]) (.cond (.t 134) .skip (.exit 8))) (.seq (.block 9 (.drw [⟨(some 137), (.fa 3 (.t 15)), none, []⟩, ⟨(some 138), (.ld (.t 137)), none, []⟩, ⟨(some 139), (.mv (.t 16)), none, [0, 1]⟩, ⟨(some 140), (.ar .add (.c (.int .i64 (3))) (.t 139)), none, [0, 1]⟩, ⟨(some 141), (.iaa 7 1 (.t 14) (.t 140)), none, [0, 1]⟩, ⟨(some 142), (.ld (.t 141)), none, [0, 1]⟩, ⟨(some 143), (.conv .i64 (.t 142)), none, [0, 1]⟩, ⟨(some 144), (.ar .rem (.t 143) (.c (.int .i64 (90)))), none, [0, 1]⟩, ⟨(some 145), (.ar .sub (.t 144) (.c (.int .i64 (10)))), none, [0, 1]⟩, ⟨(some 146), (.mx [(.c (.int .i64 (0))), (.t 145)]), none, [0, 1]⟩, ⟨(some 147), (.bsl 1 1 [(.int .i64 (0))] [(0, (.t 146))]), none, [0, 1]⟩, ⟨(some 148), (.app 1 (.t 138) (.t 147)), none, []⟩, ⟨(some 149), (.fa 3 (.t 15)), none, []⟩, ⟨none, (.st 1 (.t 149) (.t 148)), none, []⟩])) (.reg [⟨(some 135), (.mv (.t 16)), none, []⟩, ⟨(some 136), (.ar .add (.t 135) (.c (.int .i64 (1)))), none, []⟩, ⟨(some 16), (.mv (.t 136)), none, []⟩])))))) (.reg [⟨(some 150), (.mv (.t 12)), none, []⟩, ⟨(some 151), (.ldn 4 (.t 15)), none, []⟩, ⟨(some 152), (.bsl 4 1 [(.int .i64 (0)), (.int .i64 (0)), (.int .i64 (0)), .nils] [(0, (.t 151))]), none, []⟩, ⟨(some 153), (.app 4 (.t 150) (.t 152)), none, []⟩, ⟨(some 12), (.mv (.t 153)), none, []⟩]))))) (.reg [⟨(some 111), (.mv (.t 13)), none, []⟩, ⟨(some 112), (.ar .add (.t 111) (.c (.int .i64 (1)))), none, []⟩, ⟨(some 13), (.mv (.t 112)), none, []⟩])))))) (.seq (.reg [⟨(some 154), (.ldn 3 (.t 4)), none, []⟩, ⟨(some 155), (.mv (.t 12)), none, []⟩, ⟨none, (.st 3 (.t 2) (.t 154)), none, []⟩, ⟨(some 3), (.mv (.t 155)), none, []⟩]) .ret)))
theorem tail41 (P : Program) (T : Nat → Option CFn) (W_ : FWorks) (ac1 : List (List Int)) (Ts : List FStop) (cells : List AVal) (y : AVal) (kn mn : Nat) (tv : AVal) (tb : Option Blk) (hM1 : 1 ≤ mn) (hM4 : mn ≤ 4) (hK1 : 1 ≤ kn) (hK4 : kn ≤ 4) (hmn : wM W_ = mn) (hkn : wK W_ = kn) (hacl1 : ac1.length = kn)
  (ly : lenA y = some W_.ys.length) (hy : rowsV y = some (W_.ys.map rU)) (bys : ∀ v ∈ W_.ys, v.length = 7 ∧ ∀ n ∈ v, isU n) (crb : ∀ n, cells.all (rb n 5) = true) (ry : ∀ n d, rb n (d + 1) y = true) (c19 : cells[19]? = some y)
  (h1 : ∀ n, 5 ≤ n → rb n 5 tv = true) (h2 : ∀ n, 5 ≤ n → rbB n tb = true) (h3 : cellsOf tv = some [tv]) (h4 : storable tv = true) (hT : ∀ a b c d l, frz false (a :: b :: c :: d :: tb :: l) 3 tv = some (encN Ts)) (v0 v3 v6 v7 v8 v9 v10 v11 v12 v13 v14 v15 v16 v17 v18 v19 v20 v21 v22 v23 v24 v25 v26 v27 v28 v29 v30 v31 v32 v33 v34 v35 v36 v37 v38 v39 v40 v41 v42 v43 v44 v45 v46 v47 v48 v49 v50 v51 v52 v53 v54 v55 v56 v57 v58 v59 v60 v61 v62 v63 v64 v65 v66 v67 v68 v69 v70 v71 v72 v73 v74 v75 v76 v77 v78 v79 v80 v81 v82 v83 v84 v85 v86 v87 v88 v89 v90 v91 v92 v93 v94 v95 v96 v97 v98 v99 v100 v101 v102 v103 v104 v105 v106 v107 v108 v109 v110 v111 v112 v113 v114 v115 v116 v117 v118 v119 v120 v121 v122 v123 v124 v125 v126 v127 v128 v129 v130 v131 v132 v133 v134 v135 v136 v137 v138 v139 v140 v141 v142 v143 v144 v145 v146 v147 v148 v149 v150 v151 v152 v153 v154 v155 : AVal) :
  Runs P T none tl41 ⟨[v0, .ref 0 0 0, .ref 1 0 0, v3, .ref 2 0 0, I (kn : Int), v6, v7, v8, v9, v10, v11, v12, v13, v14, v15, v16, v17, v18, v19, v20, v21, v22, v23, v24, v25, v26, v27, v28, v29, v30, v31, v32, v33, v34, v35, v36, v37, v38, v39, v40, v41, v42, v43, v44, v45, v46, v47, v48, v49, v50, v51, v52, v53, v54, v55, v56, v57, v58, v59, v60, v61, v62, v63, v64, v65, v66, v67, v68, v69, v70, v71, v72, v73, v74, v75, v76, v77, v78, v79, v80, v81, v82, v83, v84, v85, v86, v87, v88, v89, v90, v91, v92, v93, v94, v95, v96, v97, v98, v99, v100, v101, v102, v103, v104, v105, v106, v107, v108, v109, v110, v111, v112, v113, v114, v115, v116, v117, v118, v119, v120, v121, v122, v123, v124, v125, v126, v127, v128, v129, v130, v131, v132, v133, v134, v135, v136, v137, v138, v139, v140, v141, v142, v143, v144, v145, v146, v147, v148, v149, v150, v151, v152, v153, v154, v155], [some (.row 26 [cells]), some (.row 3 [[I 0, .nils, .nils]]), some (.row 3 [[I (mn : Int), .sl 3 0 kn false, tv]]), some (.row 1 (ac1.map rowC)), tb]⟩ fun e σ => (∀ id, e ≠ .exit id) ∧ ∃ vs, resA σ.t σ.h [.ldn 3 2, .tmp 3] = some vs ∧ frz false (trim ([] : Heap).length [tupA vs] σ.h) 5 (tupA vs) = some (.tup [.agg [I (wM W_), encC ac1, encN Ts], encJ (wJ W_ (min W_.ys.length 5))]) := by
 have frb := fun n => rowC_rb n 4 ac1
 have tvr6 := h1 6 (by decide)
 have tvr23 := h1 23 (by decide)
 have tbr6 := h2 6 (by decide)
 have tbr23 := h2 23 (by decide)
 have hCne : ac1 ≠ [] := by intro e; rw [e] at hacl1; simp at hacl1; omega
 have hCe : encC ac1 = .vl (ac1.map rowC) false := encC_ne hCne
 have tk1 : (ac1.map rowC).take kn = ac1.map rowC := List.take_of_length_le (by simp [hacl1])
 have fzC := fun H d => frz_rowC H d ac1
 have hkt : (wK W_).toNat = kn := by omega
 have hmt : (wM W_).toNat = mn := by omega
 have g19 := fun (h : 19 < cells.length) => Option.some.inj ((List.getElem?_eq_getElem h).symm.trans c19)
 unfold tl41
 have HH1 := zA ly (zA g19 (zA ry (zA tvr6 (zA tvr23 (zA tbr6 (zA tbr23 (zA h3 (zA h4 (zA hT (zA hacl1 (zA tk1 (zA fzC (zA hCe hmn)))))))))))))
 refine zS ?_
 refine zR (zO (by simp [-lenA, c19, ↓crb, ↓frb, HH1]; rfl) ?_)
 simp only [zT, zB]
 refine zS ?_
 refine zS ?_
 refine zR (zO (by simp [-lenA, c19, ↓crb, ↓frb, HH1]; rfl) ?_)
 simp only [zT, zB]
 refine zL ?_
 refine runs_loopG_inv (fun mm4 σ => ∃ (k4 : Nat) (i4 : Int), i4 = k4 ∧ (min W_.ys.length 5) - k4 = mm4 ∧ k4 ≤ (min W_.ys.length 5) ∧ ((k4 = 0 ∧ σ = ⟨[.any, .ref 0 0 0, .ref 1 0 0, .any, .ref 2 0 0, I (kn : Int), .any, .any, .any, .any, .any, .any, .sl 6 0 0 true, I i4, .any, .any, .any, .any, .any, .any, .any, .any, .any, .any, .any, .any, .any, .any, .any, .any, .any, .any, .any, .any, .any, .any, .any, .any, .any, .any, .any, .any, .any, .any, .any, .any, .any, .any, .any, .any, .any, .any, .any, .any, .any, .any, .any, .any, .any, .any, .any, .any, .any, .any, .any, .any, .any, .any, .any, .any, .any, .any, .any, .any, .any, .any, .any, .any, .any, .any, .any, .any, .any, .any, .any, .any, .any, .any, .any, .any, .any, .any, .any, .any, .any, .any, .any, .any, .any, .any, .any, .any, .any, .any, .any, .any, .any, .any, .any, .any, .any, .any, .any, .any, .any, .any, .any, .any, .any, .any, .any, .any, .any, .any, .any, .any, .any, .any, .any, .any, .any, .any, .any, .any, .any, .any, .any, .any, .any, .any, .any, .any, .any, .any, .any, .any, .any, .any, .any, .any, .any, .any, .any, .any, .any, .any], [some (.row 26 [cells]), some (.row 3 [[I 0, .nils, .nils]]), some (.row 3 [[I (mn : Int), .sl 3 0 kn false, tv]]), some (.row 1 (ac1.map rowC)), tb, none, some (.row 4 [])]⟩) ∨ (∃ (p4 : Nat) (ac4 : List (FJob)), k4 = p4 + 1 ∧ ac4 = wJ W_ (k4) ∧ ac4.length = p4 + 1 ∧ σ = ⟨[.any, .ref 0 0 0, .ref 1 0 0, .any, .ref 2 0 0, I (kn : Int), .any, .any, .any, .any, .any, .any, .sl 6 0 (p4 + 1) false, I i4, .any, .any, .any, .any, .any, .any, .any, .any, .any, .any, .any, .any, .any, .any, .any, .any, .any, .any, .any, .any, .any, .any, .any, .any, .any, .any, .any, .any, .any, .any, .any, .any, .any, .any, .any, .any, .any, .any, .any, .any, .any, .any, .any, .any, .any, .any, .any, .any, .any, .any, .any, .any, .any, .any, .any, .any, .any, .any, .any, .any, .any, .any, .any, .any, .any, .any, .any, .any, .any, .any, .any, .any, .any, .any, .any, .any, .any, .any, .any, .any, .any, .any, .any, .any, .any, .any, .any, .any, .any, .any, .any, .any, .any, .any, .any, .any, .any, .any, .any, .any, .any, .any, .any, .any, .any, .any, .any, .any, .any, .any, .any, .any, .any, .any, .any, .any, .any, .any, .any, .any, .any, .any, .any, .any, .any, .any, .any, .any, .any, .any, .any, .any, .any, .any, .any, .any, .any, .any, .any, .any, .any, .any], [some (.row 26 [cells]), some (.row 3 [[I 0, .nils, .nils]]), some (.row 3 [[I (mn : Int), .sl 3 0 kn false, tv]]), some (.row 1 (ac1.map rowC)), tb, none, some (.row 4 (ac4.map rowJ))]⟩))) (by simp [-lenA, c19, ↓crb, ↓frb, HH1] <;> first | exact ⟨rfl, rfl⟩ | rfl) (⟨0, 0, rfl, rfl, Nat.zero_le _, .inl ⟨rfl, rfl⟩⟩) ?_
 rintro mm4 σ ⟨k4, i4, hik4, rfl, hkl4, ⟨hkz4, rfl⟩ | ⟨p4, ac4, hkp4, hac4, hacl4, rfl⟩⟩
 ·rcases hA4 : decide (i4 < (W_.ys.length : Int)) with _ | _
  ·refine zS ?_
   refine zS ?_
   refine zR (zO (by simp [-lenA, c19, ↓crb, ↓frb, HH1, hA4]; rfl) ?_)
   simp only [zT, zB]
   refine runs_cond (x := false) (by simp) ?_
   have hx4 := of_decide_eq_false hA4
   have hkE4 : k4 = (min W_.ys.length 5) := by omega
   have hJ0 : wJ W_ (min W_.ys.length 5) = [] := by rw [← hkE4, hkz4]; rfl
   have hJe : encJ [] = .vl [] true := rfl
   refine runs_exit ?_
   simp only [zT, zB, if_true, if_false, reduceIte, Nat.reduceEqDiff, Nat.succ_ne_zero, Nat.one_ne_zero, Nat.zero_ne_one]
   refine zS ?_
   refine zR (zO (by simp [-lenA, c19, ↓crb, ↓frb, HH1, hA4, hJ0, hJe]; rfl) ?_)
   simp only [zT, zB]
   refine runs_ret ?_
   simp [-lenA, c19, ↓crb, ↓frb, HH1, hA4, hJ0, hJe, trim]
  ·refine zS ?_
   refine zS ?_
   refine zR (zO (by simp [-lenA, c19, ↓crb, ↓frb, HH1, hA4]; rfl) ?_)
   simp only [zT, zB]
   refine runs_cond_split (x := decide (i4 < 5)) (by simp) (fun hlt4 => ?_) (fun hlt4 => ?_)
   ·have hAt4 := of_decide_eq_true hA4
    have hltt4 := of_decide_eq_true hlt4
    have hk04 : k4 < (min W_.ys.length 5) := by omega
    have hi04 : 0 ≤ i4 := by omega
    have htn4 : i4.toNat = k4 := by omega
    have hwi4 : W .i64 (i4 + 1) = i4 + 1 := W_small (by omega)
    have hyl : k4 < W_.ys.length := by omega
    obtain ⟨ty, rfl⟩ := rowsV_get hy (k := k4) (by rw [List.length_map]; omega)
    have hvv := bys _ (List.getElem_mem hyl)
    have hF4 : wJ W_ (k4 + 1) = wJ W_ k4 ++ [wJob W_ W_.ys[k4]] := take_map1 _ hyl
    generalize hV : W_.ys[k4] = v at *
    have hv0 : (rU v)[0]? = some (.int .u8 (v_ v 0)) := rU_get (by omega)
    have hv1 : (rU v)[1]? = some (.int .u8 (v_ v 1)) := rU_get (by omega)
    have hv2 : (rU v)[2]? = some (.int .u8 (v_ v 2)) := rU_get (by omega)
    have hvq : ∀ q, q < 4 → (rU v)[3 + q]? = some (.int .u8 (v_ v (3 + q))) := fun q hq => rU_get (by omega)
    have q0 := fun (h : 0 < (rU v).length) => Option.some.inj ((List.getElem?_eq_getElem h).symm.trans hv0)
    have q1 := fun (h : 1 < (rU v).length) => Option.some.inj ((List.getElem?_eq_getElem h).symm.trans hv1)
    have q2 := fun (h : 2 < (rU v).length) => Option.some.inj ((List.getElem?_eq_getElem h).symm.trans hv2)
    have hvl : (rU v).length = 7 := by rw [rU_len, hvv.1]
    have hvst := rU_stor v
    have hvrb := fun n => rU_rb n 4 v
    have hvc : cellsOf (.agg (rU v)) = some (rU v) := rfl
    have hvt : (rU v).take 7 = rU v := List.take_of_length_le (by omega)
    have hvd : (rU v).drop 7 = [] := List.drop_of_length_le (by omega)
    have b0 := mins_fit (k := 0) hvv.2
    have b1 := mins_fit (k := 1) hvv.2
    have b2 := mins_fit (k := 2) hvv.2
    have bq : ∀ q, isU (v_ v (3 + q)) := fun q => mins_fit hvv.2
    unfold wJob at hF4
    rw [hkn, hmt] at hF4
    have b01 : 0 ≤ v_ v 0 := b0.1
    have b02 : v_ v 0 ≤ 255 := b0.2
    have b11 : 0 ≤ v_ v 1 := b1.1
    have b12 : v_ v 1 ≤ 255 := b1.2
    have b21 : 0 ≤ v_ v 2 := b2.1
    have b22 : v_ v 2 ≤ 255 := b2.2
    clear b0 b1 b2
    generalize v_ v 0 = e0 at *
    generalize v_ v 1 = e1 at *
    generalize v_ v 2 = e2 at *
    have h01 : 0 ≤ e0.tmod (kn : Int) := Int.tmod_nonneg _ b01
    have h02 : e0.tmod (kn : Int) < kn := Int.tmod_lt_of_pos _ (by omega)
    have hmz : ¬ kn = 0 := by omega
    have hmzi : ¬ (kn : Int) = 0 := by omega
    have hmzb : ((kn : Int) == 0) = false := by simp; omega
    have hmm1 : ¬ ((kn : Int) = -1) := by omega
    have u0 : W .i64 e0 = e0 := W_fit (by omega)
    have u1 : W .i64 e1 = e1 := W_fit (by omega)
    have u2 : W .i64 e2 = e2 := W_fit (by omega)
    have u3 : W .i64 (3 * e2) = 3 * e2 := W_fit (by omega)
    have u4 : W .i64 (e0.tmod (kn : Int)) = e0.tmod (kn : Int) := W_fit (by omega)
    have HH2 := zA hA4 (zA hi04 (zA htn4 (zA hk04 (zA hwi4 (zA hyl (zA hV (zA hv0 (zA hv1 (zA hv2 (zA q0 (zA q1 (zA q2 (zA hvl (zA hvc (zA hvt (zA hvd (zA hmz (zA hmzi (zA hmzb (zA hmm1 (zA u0 (zA u1 (zA u2 (zA u3 u4))))))))))))))))))))))))
    refine zK ?_
    simp only [zT, zB]
    refine zS ?_
    refine zL ?_
    refine zS ?_
    refine zR (zO (by simp [-lenA, c19, ↓crb, ↓frb, HH1, ↓hvst, ↓hvrb, HH2]; rfl) ?_)
    simp only [zT, zB]
    refine zS ?_
    refine runs_drw (by simp (maxSteps := 3000000) [-lenA, c19, ↓crb, ↓frb, HH1, ↓hvst, ↓hvrb, HH2]; rfl) ?_
    simp only [zT, zB]
    refine zS ?_
    refine zS ?_
    refine zR (zO (by simp [-lenA, c19, ↓crb, ↓frb, HH1, ↓hvst, ↓hvrb, HH2]; rfl) ?_)
    simp only [zT, zB]
    refine zL ?_
    refine runs_loopG_inv (fun mm5 σ => ∃ (k5 : Nat) (i5 : Int), i5 = k5 ∧ mn - k5 = mm5 ∧ k5 ≤ mn ∧ ((k5 = 0 ∧ σ = ⟨[.any, .ref 0 0 0, .ref 1 0 0, .any, .ref 2 0 0, I (kn : Int), .any, .any, .any, .any, .any, .any, .sl 6 0 0 true, I i4, .ref 7 0 0, .ref 21 0 0, I i5, .any, .any, .any, .any, .any, .any, .any, .any, .any, .any, .any, .any, .any, .any, .any, .any, .any, .any, .any, .any, .any, .any, .any, .any, .any, .any, .any, .any, .any, .any, .any, .any, .any, .any, .any, .any, .any, .any, .any, .any, .any, .any, .any, .any, .any, .any, .any, .any, .any, .any, .any, .any, .any, .any, .any, .any, .any, .any, .any, .any, .any, .any, .any, .any, .any, .any, .any, .any, .any, .any, .any, .any, .any, .any, .any, .any, .any, .any, .any, .any, .any, .any, .any, .any, .any, .any, .any, .any, .any, .any, .any, .any, .any, .any, .any, .any, .any, .any, .any, .any, .any, .any, .any, .any, .any, .any, .any, .any, .any, .any, .any, .any, .any, .any, .any, .any, .any, .any, .any, .any, .any, .any, .any, .any, .any, .any, .any, .any, .any, .any, .any, .any, .any, .any, .any, .any, .any, .any, .any], [some (.row 26 [cells]), some (.row 3 [[I 0, .nils, .nils]]), some (.row 3 [[I (mn : Int), .sl 3 0 kn false, tv]]), some (.row 1 (ac1.map rowC)), tb, none, some (.row 4 []), some (.row 7 [rU v]), none, none, none, none, none, none, none, none, none, none, none, none, none, some (.row 4 [[I (e0.tmod (kn : Int)), I e1, I (3 * e2), .nils]]), none, none]⟩) ∨ (∃ (p5 : Nat) (ac5 : List (Int)), k5 = p5 + 1 ∧ ac5 = wMins v (k5) ∧ ac5.length = p5 + 1 ∧ σ = ⟨[.any, .ref 0 0 0, .ref 1 0 0, .any, .ref 2 0 0, I (kn : Int), .any, .any, .any, .any, .any, .any, .sl 6 0 0 true, I i4, .ref 7 0 0, .ref 21 0 0, I i5, .any, .any, .any, .any, .any, .any, .any, .any, .any, .any, .any, .any, .any, .any, .any, .any, .any, .any, .any, .any, .any, .any, .any, .any, .any, .any, .any, .any, .any, .any, .any, .any, .any, .any, .any, .any, .any, .any, .any, .any, .any, .any, .any, .any, .any, .any, .any, .any, .any, .any, .any, .any, .any, .any, .any, .any, .any, .any, .any, .any, .any, .any, .any, .any, .any, .any, .any, .any, .any, .any, .any, .any, .any, .any, .any, .any, .any, .any, .any, .any, .any, .any, .any, .any, .any, .any, .any, .any, .any, .any, .any, .any, .any, .any, .any, .any, .any, .any, .any, .any, .any, .any, .any, .any, .any, .any, .any, .any, .any, .any, .any, .any, .any, .any, .any, .any, .any, .any, .any, .any, .any, .any, .any, .any, .any, .any, .any, .any, .any, .any, .any, .any, .any, .any, .any, .any, .any, .any, .any], [some (.row 26 [cells]), some (.row 3 [[I 0, .nils, .nils]]), some (.row 3 [[I (mn : Int), .sl 3 0 kn false, tv]]), some (.row 1 (ac1.map rowC)), tb, none, some (.row 4 []), some (.row 7 [rU v]), none, none, none, none, none, none, none, none, none, none, none, none, none, some (.row 4 [[I (e0.tmod (kn : Int)), I e1, I (3 * e2), .sl 23 0 (p5 + 1) false]]), none, some (.row 1 (ac5.map rI))]⟩))) (by simp [-lenA, c19, ↓crb, ↓frb, HH1, ↓hvst, ↓hvrb, HH2] <;> first | exact ⟨rfl, rfl⟩ | rfl) (⟨0, 0, rfl, rfl, Nat.zero_le _, .inl ⟨rfl, rfl⟩⟩) ?_
    rintro mm5 σ ⟨k5, i5, hik5, rfl, hkl5, ⟨hkz5, rfl⟩ | ⟨p5, ac5, hkp5, hac5, hacl5, rfl⟩⟩
    ·refine zS ?_
     refine zS ?_
     refine zR (zO (by simp [-lenA, c19, ↓crb, ↓frb, HH1, ↓hvst, ↓hvrb, HH2]; rfl) ?_)
     simp only [zT, zB]
     refine runs_cond_split (x := _) rfl (fun hlt5 => ?_) (fun hlt5 => ?_)
     ·have hltt5 := of_decide_eq_true hlt5
      have hk05 : k5 < mn := by omega
      have hi05 : 0 ≤ i5 := by omega
      have htn5 : i5.toNat = k5 := by omega
      have hwi5 : W .i64 (i5 + 1) = i5 + 1 := W_small (by omega)
      have hk4 : k5 < 4 := by omega
      have hq := hvq k5 hk4
      have hqb := bq k5
      have hF5 : wMins v (k5 + 1) = wMins v k5 ++ [wMin v k5] := range_map1 _ _
      unfold wMin at hF5
      generalize v_ v (3 + k5) = f at *
      have f1 := hqb.1
      have f2 := hqb.2
      have f3 : 0 ≤ f.tmod 90 := Int.tmod_nonneg 90 f1
      have f4 : f.tmod 90 < 90 := Int.tmod_lt_of_pos _ (by decide)
      have y1 : W .i64 f = f := W_fit (by omega)
      have y2 : W .i64 (f.tmod 90) = f.tmod 90 := W_fit (by omega)
      have y3 : W .i64 (f.tmod 90 - 10) = f.tmod 90 - 10 := W_fit (by omega)
      have y4 : W .i64 (3 + i5) = 3 + i5 := W_fit (by omega)
      have y5 : (3 + i5).toNat = 3 + k5 := by omega
      have y6 : 0 ≤ 3 + i5 := by omega
      have y7 : 3 + i5 < 7 := by omega
      have y8 : (if 10 < f.tmod 90 then f.tmod 90 - 10 else 0) = max 0 (f.tmod 90 - 10) := by split <;> omega
      have y9 : (if 0 < f.tmod 90 - 10 then f.tmod 90 - 10 else 0) = max 0 (f.tmod 90 - 10) := by split <;> omega
      have q5 := fun (h : 3 + k5 < (rU v).length) => Option.some.inj ((List.getElem?_eq_getElem h).symm.trans hq)
      have hnx5 : [max 0 (f.tmod 90 - 10)] = wMins v (k5 + 1) := by rw [hF5, hkz5]; rfl
      have hap5 : [[I (max 0 (f.tmod 90 - 10))]] = [max 0 (f.tmod 90 - 10)].map rI := rfl
      have HH3 := zA hi05 (zA htn5 (zA hk05 (zA hwi5 (zA hq (zA q5 (zA y1 (zA y2 (zA y3 (zA y4 (zA y5 (zA y6 (zA y7 (zA y8 y9)))))))))))))
      refine zK ?_
      simp only [zT, zB]
      refine zS ?_
      refine zL ?_
      refine runs_drw (by simp (maxSteps := 3000000) [-lenA, c19, ↓crb, ↓frb, HH1, ↓hvst, ↓hvrb, HH2, zI, HH3]; rfl) ?_
      simp only [zT, zB]
      refine zR (zO (by simp [-lenA, c19, ↓crb, ↓frb, HH1, ↓hvst, ↓hvrb, HH2, zI, HH3]; rfl) ?_)
      simp only [zT, zB]
      exact ⟨mn - (k5 + 1), _, _, by omega, by simp [-lenA, c19, ↓crb, ↓frb, HH1, ↓hvst, ↓hvrb, HH2, zI, HH3] <;> first | exact ⟨rfl, rfl⟩ | rfl, k5 + 1, i5 + 1, by omega, rfl, by omega, .inr ⟨0, [max 0 (f.tmod 90 - 10)], by omega, hnx5, rfl, rfl⟩⟩
     ·have hx5 := of_decide_eq_false hlt5
      have hkE5 : k5 = mn := by omega
      omega
    ·have tk5 : (ac5.map rI).take (p5 + 1) = ac5.map rI := List.take_of_length_le (by simp [hacl5])
     have hlac5 : p5 + 1 + 1 ≤ 1048576 := by omega
     have hr35 : ∀ e : Int, (rI e).length = 1 := fun _ => rfl
     have hfr5 := fun n h r => optAll_snoc (frN_rI n h ac5) r
     have hrj5 := fun n => rI_rb n 4 ac5
     have HH4 := zA crb (zA frb (zA hvst (zA hvrb (zA hfr5 hrj5))))
     refine zS ?_
     refine zS ?_
     refine zR (zO (by simp [-lenA, c19, HH1, HH2, tk5, hlac5, hacl5, hr35, ↓HH4]; rfl) ?_)
     simp only [zT, zB]
     refine runs_cond_split (x := _) rfl (fun hlt5 => ?_) (fun hlt5 => ?_)
     ·have hltt5 := of_decide_eq_true hlt5
      have hk05 : k5 < mn := by omega
      have hi05 : 0 ≤ i5 := by omega
      have htn5 : i5.toNat = k5 := by omega
      have hwi5 : W .i64 (i5 + 1) = i5 + 1 := W_small (by omega)
      have hk4 : k5 < 4 := by omega
      have hq := hvq k5 hk4
      have hqb := bq k5
      have hF5 : wMins v (k5 + 1) = wMins v k5 ++ [wMin v k5] := range_map1 _ _
      unfold wMin at hF5
      generalize v_ v (3 + k5) = f at *
      have f1 := hqb.1
      have f2 := hqb.2
      have f3 : 0 ≤ f.tmod 90 := Int.tmod_nonneg 90 f1
      have f4 : f.tmod 90 < 90 := Int.tmod_lt_of_pos _ (by decide)
      have y1 : W .i64 f = f := W_fit (by omega)
      have y2 : W .i64 (f.tmod 90) = f.tmod 90 := W_fit (by omega)
      have y3 : W .i64 (f.tmod 90 - 10) = f.tmod 90 - 10 := W_fit (by omega)
      have y4 : W .i64 (3 + i5) = 3 + i5 := W_fit (by omega)
      have y5 : (3 + i5).toNat = 3 + k5 := by omega
      have y6 : 0 ≤ 3 + i5 := by omega
      have y7 : 3 + i5 < 7 := by omega
      have y8 : (if 10 < f.tmod 90 then f.tmod 90 - 10 else 0) = max 0 (f.tmod 90 - 10) := by split <;> omega
      have y9 : (if 0 < f.tmod 90 - 10 then f.tmod 90 - 10 else 0) = max 0 (f.tmod 90 - 10) := by split <;> omega
      have q5 := fun (h : 3 + k5 < (rU v).length) => Option.some.inj ((List.getElem?_eq_getElem h).symm.trans hq)
      have hnx5 : ac5 ++ [max 0 (f.tmod 90 - 10)] = wMins v (k5 + 1) := by rw [hF5, ← hac5]
      have hnl5 : (ac5 ++ [max 0 (f.tmod 90 - 10)]).length = p5 + 1 + 1 := by simp [hacl5]
      have hap5 : ac5.map rI ++ [[I (max 0 (f.tmod 90 - 10))]] = (ac5 ++ [max 0 (f.tmod 90 - 10)]).map rI := by rw [List.map_append]; rfl
      generalize ac5 ++ [max 0 (f.tmod 90 - 10)] = nx5 at *
      have hrx5 := fun n => rI_rb n 4 nx5
      have HH5 := zA tk5 (zA hlac5 (zA hacl5 (zA hr35 (zA hi05 (zA htn5 (zA hk05 (zA hwi5 (zA hap5 (zA hq (zA q5 (zA y1 (zA y2 (zA y3 (zA y4 (zA y5 (zA y6 (zA y7 (zA y8 y9))))))))))))))))))
      refine zK ?_
      simp only [zT, zB]
      refine zS ?_
      refine zL ?_
      refine runs_drw (by simp (maxSteps := 3000000) [-lenA, c19, HH1, HH2, ↓HH4, ↓hrx5, zI, HH5]; rfl) ?_
      simp only [zT, zB]
      refine zR (zO (by simp [-lenA, c19, HH1, HH2, ↓HH4, ↓hrx5, zI, HH5]; rfl) ?_)
      simp only [zT, zB]
      exact ⟨mn - (k5 + 1), _, _, by omega, by simp [-lenA, c19, HH1, HH2, ↓HH4, ↓hrx5, zI, HH5] <;> first | exact ⟨rfl, rfl⟩ | rfl, k5 + 1, i5 + 1, by omega, rfl, by omega, .inr ⟨p5 + 1, nx5, by omega, hnx5, hnl5, rfl⟩⟩
     ·have hx5 := of_decide_eq_false hlt5
      have hkE5 : k5 = mn := by omega
      rw [hkE5] at hac5
      have hz5 : p5 + 1 = mn := by omega
      have hne5 : ac5 ≠ [] := by intro e; rw [e] at hacl5; simp at hacl5
      rw [← hac5] at hF4
      have hro5 : rowJ ⟨e0.tmod (kn : Int), e1, 3 * e2, ac5⟩ = [I (e0.tmod (kn : Int)), I e1, I (3 * e2), .vl (ac5.map rI) false] := by unfold rowJ; rw [encE_ne hne5]
      have hrl5 : ((ac5.map rI).all fun r => r.length == 1) = true := by simp [rI]
      have hrs5 : ((ac5.map rI).all fun r => r.all storable) = true := by simp [rI]
      have hnx4 : [(⟨e0.tmod (kn : Int), e1, 3 * e2, ac5⟩ : FJob)] = wJ W_ (k4 + 1) := by rw [hF4, hkz4]; rfl
      have hap4 : [[I (e0.tmod (kn : Int)), I e1, I (3 * e2), .vl (ac5.map rI) false]] = [(⟨e0.tmod (kn : Int), e1, 3 * e2, ac5⟩ : FJob)].map rowJ := by show _ = [rowJ ((⟨e0.tmod (kn : Int), e1, 3 * e2, ac5⟩ : FJob))]; rw [hro5]
      have HH6 := zA tk5 (zA hlac5 (zA hacl5 (zA hr35 hro5)))
      refine runs_exit ?_
      simp only [zT, zB, if_true, if_false, reduceIte, Nat.reduceEqDiff, Nat.succ_ne_zero, Nat.one_ne_zero, Nat.zero_ne_one]
      refine zR (zO (by simp [-lenA, c19, HH1, HH2, ↓HH4, ↓hrl5, ↓hrs5, frz_mapI, HH6]; rfl) ?_)
      simp only [zT, zB]
      refine zR (zO (by simp [-lenA, c19, HH1, HH2, ↓HH4, ↓hrl5, ↓hrs5, frz_mapI, HH6]; rfl) ?_)
      simp only [zT, zB]
      exact ⟨(min W_.ys.length 5) - (k4 + 1), _, _, by omega, by simp [-lenA, c19, HH1, HH2, ↓HH4, ↓hrl5, ↓hrs5, frz_mapI, HH6] <;> first | exact ⟨rfl, rfl⟩ | rfl, k4 + 1, i4 + 1, by omega, rfl, by omega, .inr ⟨0, [(⟨e0.tmod (kn : Int), e1, 3 * e2, ac5⟩ : FJob)], by omega, hnx4, rfl, rfl⟩⟩
   ·have hAt4 := of_decide_eq_true hA4
    have hx4 := of_decide_eq_false hlt4
    have hkE4 : k4 = (min W_.ys.length 5) := by omega
    have hJ0 : wJ W_ (min W_.ys.length 5) = [] := by rw [← hkE4, hkz4]; rfl
    have hJe : encJ [] = .vl [] true := rfl
    refine runs_exit ?_
    simp only [zT, zB, if_true, if_false, reduceIte, Nat.reduceEqDiff, Nat.succ_ne_zero, Nat.one_ne_zero, Nat.zero_ne_one]
    refine zS ?_
    refine zR (zO (by simp [-lenA, c19, ↓crb, ↓frb, HH1, hA4, hJ0, hJe]; rfl) ?_)
    simp only [zT, zB]
    refine runs_ret ?_
    simp [-lenA, c19, ↓crb, ↓frb, HH1, hA4, hJ0, hJe, trim]
 ·have tk4 : (ac4.map rowJ).take (p4 + 1) = ac4.map rowJ := List.take_of_length_le (by simp [hacl4])
  have hlac4 : p4 + 1 + 1 ≤ 1048576 := by omega
  have hr34 : ∀ e : FJob, (rowJ e).length = 4 := fun _ => rfl
  have hfr4 := fun n h r => optAll_snoc (frN_rowJ n h ac4) r
  have hrj4 := fun n => rowJ_rb n 4 ac4
  rcases hA4 : decide (i4 < (W_.ys.length : Int)) with _ | _
  ·have HH7 := zA tk4 (zA hlac4 (zA hacl4 (zA hr34 hA4)))
   refine zS ?_
   refine zS ?_
   refine zR (zO (by simp [-lenA, c19, ↓crb, ↓frb, HH1, ↓hfr4, ↓hrj4, HH7]; rfl) ?_)
   simp only [zT, zB]
   refine runs_cond (x := false) (by simp) ?_
   have hx4 := of_decide_eq_false hA4
   have hkE4 : k4 = (min W_.ys.length 5) := by omega
   rw [hkE4] at hac4
   have hJne : ac4 ≠ [] := by intro e; rw [e] at hacl4; simp at hacl4
   have hJe : encJ ac4 = .vl (ac4.map rowJ) false := encJ_ne hJne
   have hz4 : min W_.ys.length 5 = p4 + 1 := by omega
   refine runs_exit ?_
   simp only [zT, zB, if_true, if_false, reduceIte, Nat.reduceEqDiff, Nat.succ_ne_zero, Nat.one_ne_zero, Nat.zero_ne_one]
   refine zS ?_
   refine zR (zO (by simp [-lenA, c19, ↓crb, ↓frb, HH1, ↓hfr4, ↓hrj4, HH7, hJe, ← hac4, frz_rowJ, ↓rowJ_rb]; rfl) ?_)
   simp only [zT, zB]
   refine runs_ret ?_
   simp [-lenA, c19, ↓crb, ↓frb, HH1, ↓hfr4, ↓hrj4, HH7, hJe, ← hac4, frz_rowJ, ↓rowJ_rb, trim]
  ·have HH8 := zA tk4 (zA hlac4 (zA hacl4 (zA hr34 hA4)))
   refine zS ?_
   refine zS ?_
   refine zR (zO (by simp [-lenA, c19, ↓crb, ↓frb, HH1, ↓hfr4, ↓hrj4, HH8]; rfl) ?_)
   simp only [zT, zB]
   refine runs_cond_split (x := decide (i4 < 5)) (by simp) (fun hlt4 => ?_) (fun hlt4 => ?_)
   ·have hAt4 := of_decide_eq_true hA4
    have hltt4 := of_decide_eq_true hlt4
    have hk04 : k4 < (min W_.ys.length 5) := by omega
    have hi04 : 0 ≤ i4 := by omega
    have htn4 : i4.toNat = k4 := by omega
    have hwi4 : W .i64 (i4 + 1) = i4 + 1 := W_small (by omega)
    have hyl : k4 < W_.ys.length := by omega
    obtain ⟨ty, rfl⟩ := rowsV_get hy (k := k4) (by rw [List.length_map]; omega)
    have hvv := bys _ (List.getElem_mem hyl)
    have hF4 : wJ W_ (k4 + 1) = wJ W_ k4 ++ [wJob W_ W_.ys[k4]] := take_map1 _ hyl
    generalize hV : W_.ys[k4] = v at *
    have hv0 : (rU v)[0]? = some (.int .u8 (v_ v 0)) := rU_get (by omega)
    have hv1 : (rU v)[1]? = some (.int .u8 (v_ v 1)) := rU_get (by omega)
    have hv2 : (rU v)[2]? = some (.int .u8 (v_ v 2)) := rU_get (by omega)
    have hvq : ∀ q, q < 4 → (rU v)[3 + q]? = some (.int .u8 (v_ v (3 + q))) := fun q hq => rU_get (by omega)
    have q0 := fun (h : 0 < (rU v).length) => Option.some.inj ((List.getElem?_eq_getElem h).symm.trans hv0)
    have q1 := fun (h : 1 < (rU v).length) => Option.some.inj ((List.getElem?_eq_getElem h).symm.trans hv1)
    have q2 := fun (h : 2 < (rU v).length) => Option.some.inj ((List.getElem?_eq_getElem h).symm.trans hv2)
    have hvl : (rU v).length = 7 := by rw [rU_len, hvv.1]
    have hvst := rU_stor v
    have hvrb := fun n => rU_rb n 4 v
    have hvc : cellsOf (.agg (rU v)) = some (rU v) := rfl
    have hvt : (rU v).take 7 = rU v := List.take_of_length_le (by omega)
    have hvd : (rU v).drop 7 = [] := List.drop_of_length_le (by omega)
    have b0 := mins_fit (k := 0) hvv.2
    have b1 := mins_fit (k := 1) hvv.2
    have b2 := mins_fit (k := 2) hvv.2
    have bq : ∀ q, isU (v_ v (3 + q)) := fun q => mins_fit hvv.2
    unfold wJob at hF4
    rw [hkn, hmt] at hF4
    have b01 : 0 ≤ v_ v 0 := b0.1
    have b02 : v_ v 0 ≤ 255 := b0.2
    have b11 : 0 ≤ v_ v 1 := b1.1
    have b12 : v_ v 1 ≤ 255 := b1.2
    have b21 : 0 ≤ v_ v 2 := b2.1
    have b22 : v_ v 2 ≤ 255 := b2.2
    clear b0 b1 b2
    generalize v_ v 0 = e0 at *
    generalize v_ v 1 = e1 at *
    generalize v_ v 2 = e2 at *
    have h01 : 0 ≤ e0.tmod (kn : Int) := Int.tmod_nonneg _ b01
    have h02 : e0.tmod (kn : Int) < kn := Int.tmod_lt_of_pos _ (by omega)
    have hmz : ¬ kn = 0 := by omega
    have hmzi : ¬ (kn : Int) = 0 := by omega
    have hmzb : ((kn : Int) == 0) = false := by simp; omega
    have hmm1 : ¬ ((kn : Int) = -1) := by omega
    have u0 : W .i64 e0 = e0 := W_fit (by omega)
    have u1 : W .i64 e1 = e1 := W_fit (by omega)
    have u2 : W .i64 e2 = e2 := W_fit (by omega)
    have u3 : W .i64 (3 * e2) = 3 * e2 := W_fit (by omega)
    have u4 : W .i64 (e0.tmod (kn : Int)) = e0.tmod (kn : Int) := W_fit (by omega)
    have HH9 := zA hi04 (zA htn4 (zA hk04 (zA hwi4 (zA hyl (zA hV (zA hv0 (zA hv1 (zA hv2 (zA q0 (zA q1 (zA q2 (zA hvl (zA hvc (zA hvt (zA hvd (zA hmz (zA hmzi (zA hmzb (zA hmm1 (zA u0 (zA u1 (zA u2 (zA u3 u4)))))))))))))))))))))))
    have HH10 := zA crb (zA frb (zA hfr4 (zA hrj4 (zA hvst hvrb))))
    refine zK ?_
    simp only [zT, zB]
    refine zS ?_
    refine zL ?_
    refine zS ?_
    refine zR (zO (by simp [-lenA, c19, HH1, HH8, HH9, ↓HH10]; rfl) ?_)
    simp only [zT, zB]
    refine zS ?_
    refine runs_drw (by simp (maxSteps := 3000000) [-lenA, c19, HH1, HH8, HH9, ↓HH10]; rfl) ?_
    simp only [zT, zB]
    refine zS ?_
    refine zS ?_
    refine zR (zO (by simp [-lenA, c19, HH1, HH8, HH9, ↓HH10]; rfl) ?_)
    simp only [zT, zB]
    refine zL ?_
    refine runs_loopG_inv (fun mm5 σ => ∃ (k5 : Nat) (i5 : Int), i5 = k5 ∧ mn - k5 = mm5 ∧ k5 ≤ mn ∧ ((k5 = 0 ∧ σ = ⟨[.any, .ref 0 0 0, .ref 1 0 0, .any, .ref 2 0 0, I (kn : Int), .any, .any, .any, .any, .any, .any, .sl 6 0 (p4 + 1) false, I i4, .ref 7 0 0, .ref 21 0 0, I i5, .any, .any, .any, .any, .any, .any, .any, .any, .any, .any, .any, .any, .any, .any, .any, .any, .any, .any, .any, .any, .any, .any, .any, .any, .any, .any, .any, .any, .any, .any, .any, .any, .any, .any, .any, .any, .any, .any, .any, .any, .any, .any, .any, .any, .any, .any, .any, .any, .any, .any, .any, .any, .any, .any, .any, .any, .any, .any, .any, .any, .any, .any, .any, .any, .any, .any, .any, .any, .any, .any, .any, .any, .any, .any, .any, .any, .any, .any, .any, .any, .any, .any, .any, .any, .any, .any, .any, .any, .any, .any, .any, .any, .any, .any, .any, .any, .any, .any, .any, .any, .any, .any, .any, .any, .any, .any, .any, .any, .any, .any, .any, .any, .any, .any, .any, .any, .any, .any, .any, .any, .any, .any, .any, .any, .any, .any, .any, .any, .any, .any, .any, .any, .any, .any, .any, .any, .any, .any, .any], [some (.row 26 [cells]), some (.row 3 [[I 0, .nils, .nils]]), some (.row 3 [[I (mn : Int), .sl 3 0 kn false, tv]]), some (.row 1 (ac1.map rowC)), tb, none, some (.row 4 (ac4.map rowJ)), some (.row 7 [rU v]), none, none, none, none, none, none, none, none, none, none, none, none, none, some (.row 4 [[I (e0.tmod (kn : Int)), I e1, I (3 * e2), .nils]]), none, none]⟩) ∨ (∃ (p5 : Nat) (ac5 : List (Int)), k5 = p5 + 1 ∧ ac5 = wMins v (k5) ∧ ac5.length = p5 + 1 ∧ σ = ⟨[.any, .ref 0 0 0, .ref 1 0 0, .any, .ref 2 0 0, I (kn : Int), .any, .any, .any, .any, .any, .any, .sl 6 0 (p4 + 1) false, I i4, .ref 7 0 0, .ref 21 0 0, I i5, .any, .any, .any, .any, .any, .any, .any, .any, .any, .any, .any, .any, .any, .any, .any, .any, .any, .any, .any, .any, .any, .any, .any, .any, .any, .any, .any, .any, .any, .any, .any, .any, .any, .any, .any, .any, .any, .any, .any, .any, .any, .any, .any, .any, .any, .any, .any, .any, .any, .any, .any, .any, .any, .any, .any, .any, .any, .any, .any, .any, .any, .any, .any, .any, .any, .any, .any, .any, .any, .any, .any, .any, .any, .any, .any, .any, .any, .any, .any, .any, .any, .any, .any, .any, .any, .any, .any, .any, .any, .any, .any, .any, .any, .any, .any, .any, .any, .any, .any, .any, .any, .any, .any, .any, .any, .any, .any, .any, .any, .any, .any, .any, .any, .any, .any, .any, .any, .any, .any, .any, .any, .any, .any, .any, .any, .any, .any, .any, .any, .any, .any, .any, .any, .any, .any, .any, .any, .any, .any], [some (.row 26 [cells]), some (.row 3 [[I 0, .nils, .nils]]), some (.row 3 [[I (mn : Int), .sl 3 0 kn false, tv]]), some (.row 1 (ac1.map rowC)), tb, none, some (.row 4 (ac4.map rowJ)), some (.row 7 [rU v]), none, none, none, none, none, none, none, none, none, none, none, none, none, some (.row 4 [[I (e0.tmod (kn : Int)), I e1, I (3 * e2), .sl 23 0 (p5 + 1) false]]), none, some (.row 1 (ac5.map rI))]⟩))) (by simp [-lenA, c19, HH1, HH8, HH9, ↓HH10] <;> first | exact ⟨rfl, rfl⟩ | rfl) (⟨0, 0, rfl, rfl, Nat.zero_le _, .inl ⟨rfl, rfl⟩⟩) ?_
    rintro mm5 σ ⟨k5, i5, hik5, rfl, hkl5, ⟨hkz5, rfl⟩ | ⟨p5, ac5, hkp5, hac5, hacl5, rfl⟩⟩
    ·refine zS ?_
     refine zS ?_
     refine zR (zO (by simp [-lenA, c19, HH1, HH8, HH9, ↓HH10]; rfl) ?_)
     simp only [zT, zB]
     refine runs_cond_split (x := _) rfl (fun hlt5 => ?_) (fun hlt5 => ?_)
     ·have hltt5 := of_decide_eq_true hlt5
      have hk05 : k5 < mn := by omega
      have hi05 : 0 ≤ i5 := by omega
      have htn5 : i5.toNat = k5 := by omega
      have hwi5 : W .i64 (i5 + 1) = i5 + 1 := W_small (by omega)
      have hk4 : k5 < 4 := by omega
      have hq := hvq k5 hk4
      have hqb := bq k5
      have hF5 : wMins v (k5 + 1) = wMins v k5 ++ [wMin v k5] := range_map1 _ _
      unfold wMin at hF5
      generalize v_ v (3 + k5) = f at *
      have f1 := hqb.1
      have f2 := hqb.2
      have f3 : 0 ≤ f.tmod 90 := Int.tmod_nonneg 90 f1
      have f4 : f.tmod 90 < 90 := Int.tmod_lt_of_pos _ (by decide)
      have y1 : W .i64 f = f := W_fit (by omega)
      have y2 : W .i64 (f.tmod 90) = f.tmod 90 := W_fit (by omega)
      have y3 : W .i64 (f.tmod 90 - 10) = f.tmod 90 - 10 := W_fit (by omega)
      have y4 : W .i64 (3 + i5) = 3 + i5 := W_fit (by omega)
      have y5 : (3 + i5).toNat = 3 + k5 := by omega
      have y6 : 0 ≤ 3 + i5 := by omega
      have y7 : 3 + i5 < 7 := by omega
      have y8 : (if 10 < f.tmod 90 then f.tmod 90 - 10 else 0) = max 0 (f.tmod 90 - 10) := by split <;> omega
      have y9 : (if 0 < f.tmod 90 - 10 then f.tmod 90 - 10 else 0) = max 0 (f.tmod 90 - 10) := by split <;> omega
      have q5 := fun (h : 3 + k5 < (rU v).length) => Option.some.inj ((List.getElem?_eq_getElem h).symm.trans hq)
      have hnx5 : [max 0 (f.tmod 90 - 10)] = wMins v (k5 + 1) := by rw [hF5, hkz5]; rfl
      have hap5 : [[I (max 0 (f.tmod 90 - 10))]] = [max 0 (f.tmod 90 - 10)].map rI := rfl
      have HH11 := zA hi05 (zA htn5 (zA hk05 (zA hwi5 (zA hq (zA q5 (zA y1 (zA y2 (zA y3 (zA y4 (zA y5 (zA y6 (zA y7 (zA y8 y9)))))))))))))
      refine zK ?_
      simp only [zT, zB]
      refine zS ?_
      refine zL ?_
      refine runs_drw (by simp (maxSteps := 3000000) [-lenA, c19, HH1, HH8, HH9, ↓HH10, zI, HH11]; rfl) ?_
      simp only [zT, zB]
      refine zR (zO (by simp [-lenA, c19, HH1, HH8, HH9, ↓HH10, zI, HH11]; rfl) ?_)
      simp only [zT, zB]
      exact ⟨mn - (k5 + 1), _, _, by omega, by simp [-lenA, c19, HH1, HH8, HH9, ↓HH10, zI, HH11] <;> first | exact ⟨rfl, rfl⟩ | rfl, k5 + 1, i5 + 1, by omega, rfl, by omega, .inr ⟨0, [max 0 (f.tmod 90 - 10)], by omega, hnx5, rfl, rfl⟩⟩
     ·have hx5 := of_decide_eq_false hlt5
      have hkE5 : k5 = mn := by omega
      omega
    ·have tk5 : (ac5.map rI).take (p5 + 1) = ac5.map rI := List.take_of_length_le (by simp [hacl5])
     have hlac5 : p5 + 1 + 1 ≤ 1048576 := by omega
     have hr35 : ∀ e : Int, (rI e).length = 1 := fun _ => rfl
     have hfr5 := fun n h r => optAll_snoc (frN_rI n h ac5) r
     have hrj5 := fun n => rI_rb n 4 ac5
     refine zS ?_
     refine zS ?_
     refine zR (zO (by simp [-lenA, c19, HH1, HH8, HH9, ↓HH10, tk5, hlac5, hacl5, hr35, ↓hfr5, ↓hrj5]; rfl) ?_)
     simp only [zT, zB]
     refine runs_cond_split (x := _) rfl (fun hlt5 => ?_) (fun hlt5 => ?_)
     ·have hltt5 := of_decide_eq_true hlt5
      have hk05 : k5 < mn := by omega
      have hi05 : 0 ≤ i5 := by omega
      have htn5 : i5.toNat = k5 := by omega
      have hwi5 : W .i64 (i5 + 1) = i5 + 1 := W_small (by omega)
      have hk4 : k5 < 4 := by omega
      have hq := hvq k5 hk4
      have hqb := bq k5
      have hF5 : wMins v (k5 + 1) = wMins v k5 ++ [wMin v k5] := range_map1 _ _
      unfold wMin at hF5
      generalize v_ v (3 + k5) = f at *
      have f1 := hqb.1
      have f2 := hqb.2
      have f3 : 0 ≤ f.tmod 90 := Int.tmod_nonneg 90 f1
      have f4 : f.tmod 90 < 90 := Int.tmod_lt_of_pos _ (by decide)
      have y1 : W .i64 f = f := W_fit (by omega)
      have y2 : W .i64 (f.tmod 90) = f.tmod 90 := W_fit (by omega)
      have y3 : W .i64 (f.tmod 90 - 10) = f.tmod 90 - 10 := W_fit (by omega)
      have y4 : W .i64 (3 + i5) = 3 + i5 := W_fit (by omega)
      have y5 : (3 + i5).toNat = 3 + k5 := by omega
      have y6 : 0 ≤ 3 + i5 := by omega
      have y7 : 3 + i5 < 7 := by omega
      have y8 : (if 10 < f.tmod 90 then f.tmod 90 - 10 else 0) = max 0 (f.tmod 90 - 10) := by split <;> omega
      have y9 : (if 0 < f.tmod 90 - 10 then f.tmod 90 - 10 else 0) = max 0 (f.tmod 90 - 10) := by split <;> omega
      have q5 := fun (h : 3 + k5 < (rU v).length) => Option.some.inj ((List.getElem?_eq_getElem h).symm.trans hq)
      have hnx5 : ac5 ++ [max 0 (f.tmod 90 - 10)] = wMins v (k5 + 1) := by rw [hF5, ← hac5]
      have hnl5 : (ac5 ++ [max 0 (f.tmod 90 - 10)]).length = p5 + 1 + 1 := by simp [hacl5]
      have hap5 : ac5.map rI ++ [[I (max 0 (f.tmod 90 - 10))]] = (ac5 ++ [max 0 (f.tmod 90 - 10)]).map rI := by rw [List.map_append]; rfl
      generalize ac5 ++ [max 0 (f.tmod 90 - 10)] = nx5 at *
      have hrx5 := fun n => rI_rb n 4 nx5
      have HH12 := zA tk5 (zA hlac5 (zA hacl5 (zA hr35 (zA hi05 (zA htn5 (zA hk05 (zA hwi5 (zA hap5 (zA hq (zA q5 (zA y1 (zA y2 (zA y3 (zA y4 (zA y5 (zA y6 (zA y7 (zA y8 y9))))))))))))))))))
      refine zK ?_
      simp only [zT, zB]
      refine zS ?_
      refine zL ?_
      refine runs_drw (by simp (maxSteps := 3000000) [-lenA, c19, HH1, HH8, HH9, ↓HH10, ↓hfr5, ↓hrj5, ↓hrx5, zI, HH12]; rfl) ?_
      simp only [zT, zB]
      refine zR (zO (by simp [-lenA, c19, HH1, HH8, HH9, ↓HH10, ↓hfr5, ↓hrj5, ↓hrx5, zI, HH12]; rfl) ?_)
      simp only [zT, zB]
      exact ⟨mn - (k5 + 1), _, _, by omega, by simp [-lenA, c19, HH1, HH8, HH9, ↓HH10, ↓hfr5, ↓hrj5, ↓hrx5, zI, HH12] <;> first | exact ⟨rfl, rfl⟩ | rfl, k5 + 1, i5 + 1, by omega, rfl, by omega, .inr ⟨p5 + 1, nx5, by omega, hnx5, hnl5, rfl⟩⟩
     ·have hx5 := of_decide_eq_false hlt5
      have hkE5 : k5 = mn := by omega
      rw [hkE5] at hac5
      have hz5 : p5 + 1 = mn := by omega
      have hne5 : ac5 ≠ [] := by intro e; rw [e] at hacl5; simp at hacl5
      rw [← hac5] at hF4
      have hro5 : rowJ ⟨e0.tmod (kn : Int), e1, 3 * e2, ac5⟩ = [I (e0.tmod (kn : Int)), I e1, I (3 * e2), .vl (ac5.map rI) false] := by unfold rowJ; rw [encE_ne hne5]
      have hrl5 : ((ac5.map rI).all fun r => r.length == 1) = true := by simp [rI]
      have hrs5 : ((ac5.map rI).all fun r => r.all storable) = true := by simp [rI]
      have hnx4 : ac4 ++ [(⟨e0.tmod (kn : Int), e1, 3 * e2, ac5⟩ : FJob)] = wJ W_ (k4 + 1) := by rw [hF4, ← hac4]
      have hnl4 : (ac4 ++ [(⟨e0.tmod (kn : Int), e1, 3 * e2, ac5⟩ : FJob)]).length = p4 + 1 + 1 := by simp [hacl4]
      have hap4 : ac4.map rowJ ++ [[I (e0.tmod (kn : Int)), I e1, I (3 * e2), .vl (ac5.map rI) false]] = (ac4 ++ [(⟨e0.tmod (kn : Int), e1, 3 * e2, ac5⟩ : FJob)]).map rowJ := by rw [List.map_append]; show _ = _ ++ [rowJ ((⟨e0.tmod (kn : Int), e1, 3 * e2, ac5⟩ : FJob))]; rw [hro5]
      generalize ac4 ++ [(⟨e0.tmod (kn : Int), e1, 3 * e2, ac5⟩ : FJob)] = nx4 at *
      have hrx4 := fun n => rowJ_rb n 4 nx4
      have HH13 := zA tk5 (zA hlac5 (zA hacl5 (zA hr35 hap4)))
      have HH14 := zA hfr5 (zA hrj5 (zA hrx4 (zA hrl5 hrs5)))
      refine runs_exit ?_
      simp only [zT, zB, if_true, if_false, reduceIte, Nat.reduceEqDiff, Nat.succ_ne_zero, Nat.one_ne_zero, Nat.zero_ne_one]
      refine zR (zO (by simp [-lenA, c19, HH1, HH8, HH9, ↓HH10, frz_mapI, HH13, ↓HH14]; rfl) ?_)
      simp only [zT, zB]
      refine zR (zO (by simp [-lenA, c19, HH1, HH8, HH9, ↓HH10, frz_mapI, HH13, ↓HH14]; rfl) ?_)
      simp only [zT, zB]
      exact ⟨(min W_.ys.length 5) - (k4 + 1), _, _, by omega, by simp [-lenA, c19, HH1, HH8, HH9, ↓HH10, frz_mapI, HH13, ↓HH14] <;> first | exact ⟨rfl, rfl⟩ | rfl, k4 + 1, i4 + 1, by omega, rfl, by omega, .inr ⟨p4 + 1, nx4, by omega, hnx4, hnl4, rfl⟩⟩
   ·have hAt4 := of_decide_eq_true hA4
    have hx4 := of_decide_eq_false hlt4
    have hkE4 : k4 = (min W_.ys.length 5) := by omega
    rw [hkE4] at hac4
    have hJne : ac4 ≠ [] := by intro e; rw [e] at hacl4; simp at hacl4
    have hJe : encJ ac4 = .vl (ac4.map rowJ) false := encJ_ne hJne
    have hz4 : min W_.ys.length 5 = p4 + 1 := by omega
    refine runs_exit ?_
    simp only [zT, zB, if_true, if_false, reduceIte, Nat.reduceEqDiff, Nat.succ_ne_zero, Nat.one_ne_zero, Nat.zero_ne_one]
    refine zS ?_
    refine zR (zO (by simp [-lenA, c19, ↓crb, ↓frb, HH1, ↓hfr4, ↓hrj4, HH8, hJe, ← hac4, frz_rowJ, ↓rowJ_rb]; rfl) ?_)
    simp only [zT, zB]
    refine runs_ret ?_
    simp [-lenA, c19, ↓crb, ↓frb, HH1, ↓hfr4, ↓hrj4, HH8, hJe, ← hac4, frz_rowJ, ↓rowJ_rb, trim]
theorem a41 (P : Program) (T : Nat → Option CFn) (hT : T 41 = some { c41 with body := annK [(118, [.cell 4 1]), (502, [.slot 7]), (566, [.cell 4 2]), (12342, [.slot 12]), (127030, [.cell 15 3])] [] c41.body }) (W_ : FWorks) (x y : AVal) (hx : rowsV x = some (W_.xs.map rU)) (hy : rowsV y = some (W_.ys.map rU)) (hw : WkOk W_) : Answers P T 41 [.agg (wkC W_ x y)] [] fun v h => frz false h 5 v = some (.tup [.agg [I (wM W_), encC (wC W_ (wK W_).toNat), encN (wT W_ (min W_.xs.length 6))], encJ (wJ W_ (min W_.ys.length 5))]) := by
 have lx := rowsV_len hx
 have ly := rowsV_len hy
 rw [List.length_map] at lx ly
 obtain ⟨bm, bk, bg, bxs, bys, bo⟩ := hw
 have c0 : (wkC W_ x y)[0]? = some (.int .u8 W_.m) := rfl
 have c1 : (wkC W_ x y)[1]? = some (.int .u8 W_.k) := rfl
 have cg : ∀ p q, p < 4 → q < 4 → (wkC W_ x y)[2 + p * 4 + q]? = some (.int .u8 (gAt W_ p q)) := fun p q hp hq => by
  have e : 2 + p * 4 + q = (p * 4 + q + 1) + 1 := by omega
  unfold wkC gAt
  rw [e, List.getElem?_cons_succ, List.getElem?_cons_succ, List.append_assoc, List.getElem?_append_left (by rw [rU_len, bg.1]; omega), rU_get (by rw [bg.1]; omega)]
 have c18 : (wkC W_ x y)[18]? = some x := by
  unfold wkC
  rw [show 18 = 16 + 1 + 1 by rfl, List.getElem?_cons_succ, List.getElem?_cons_succ, List.append_assoc, List.getElem?_append_right (by rw [rU_len, bg.1]; exact Nat.le_refl _), rU_len, bg.1]; rfl
 have c19 : (wkC W_ x y)[19]? = some y := by
  unfold wkC
  rw [show 19 = 17 + 1 + 1 by rfl, List.getElem?_cons_succ, List.getElem?_cons_succ, List.append_assoc, List.getElem?_append_right (by rw [rU_len, bg.1]; omega), rU_len, bg.1]; rfl
 obtain ⟨cx1, cx2⟩ := rowsV_cells hx
 obtain ⟨cy1, cy2⟩ := rowsV_cells hy
 have rx := fun n d => rowsV_rb hx n d
 have ry := fun n d => rowsV_rb hy n d
 have crb : ∀ n, (wkC W_ x y).all (rb n 5) = true := fun n => by
  have h1 := rU_rb n 4 W_.g
  have h2 := rU_rb n 4 W_.o
  simp only [wkC, List.all_cons, List.all_append, h1, h2, rx, ry, rb_int', List.all_nil, Bool.and_true]
 have cst : (wkC W_ x y).all storable = true := by
  have h1 := rU_stor W_.g
  have h2 := rU_stor W_.o
  simp only [wkC, List.all_cons, List.all_append, h1, h2, cx2, cy2, List.all_nil, Bool.and_true]; rfl
 have ccl : cellsOf (.agg (wkC W_ x y)) = some (wkC W_ x y) := rfl
 have clen : (wkC W_ x y).length = 26 := by simp [wkC, rU_len, bg.1, bo.1]
 generalize hcells : wkC W_ x y = cells at *
 have g0 := fun (h : 0 < cells.length) => Option.some.inj ((List.getElem?_eq_getElem h).symm.trans c0)
 have g1 := fun (h : 1 < cells.length) => Option.some.inj ((List.getElem?_eq_getElem h).symm.trans c1)
 have g18 := fun (h : 18 < cells.length) => Option.some.inj ((List.getElem?_eq_getElem h).symm.trans c18)
 have g19 := fun (h : 19 < cells.length) => Option.some.inj ((List.getElem?_eq_getElem h).symm.trans c19)
 have hmM : 0 ≤ W_.m.tmod 4 ∧ W_.m.tmod 4 < 4 := ⟨Int.tmod_nonneg 4 bm.1, Int.tmod_lt_of_pos _ (by decide)⟩
 have hkK : 0 ≤ W_.k.tmod 4 ∧ W_.k.tmod 4 < 4 := ⟨Int.tmod_nonneg 4 bk.1, Int.tmod_lt_of_pos _ (by decide)⟩
 have bm1 := bm.1
 have bm2 := bm.2
 have bk1 := bk.1
 have bk2 := bk.2
 have wm0 : W .i64 W_.m = W_.m := W_fit (by omega)
 have wk0 : W .i64 W_.k = W_.k := W_fit (by omega)
 have wm1 : W .i64 (1 + W_.m.tmod 4) = wM W_ := W_fit (by omega)
 have wk1 : W .i64 (1 + W_.k.tmod 4) = wK W_ := W_fit (by omega)
 have hM : 1 ≤ wM W_ ∧ wM W_ ≤ 4 := by unfold wM; omega
 have hK : 1 ≤ wK W_ ∧ wK W_ ≤ 4 := by unfold wK; omega
 obtain ⟨mn, hmn⟩ : ∃ mn : Nat, wM W_ = mn := ⟨(wM W_).toNat, by omega⟩
 obtain ⟨kn, hkn⟩ : ∃ kn : Nat, wK W_ = kn := ⟨(wK W_).toNat, by omega⟩
 have hmt : (wM W_).toNat = mn := by omega
 have hkt : (wK W_).toNat = kn := by omega
 rw [hmn] at hM wm1
 rw [hkn] at hK wk1
 obtain ⟨hM1, hM4⟩ := hM
 obtain ⟨hK1, hK4⟩ := hK
 have hM1 : 1 ≤ mn := by omega
 have hK1 : 1 ≤ kn := by omega
 have hM4 : mn ≤ 4 := by omega
 have hK4 : kn ≤ 4 := by omega
 have wmb := wm1
 have W41 : W .i64 4 = 4 := by decide
 refine answers_of hT (orcF_none rfl) ?_
 simp only [oo, om, op, og, ci, cl, c41, annK, lkG, lkR, reduceIte, Nat.reduceEqDiff, reduceCtorEq, List.cons.injEq, and_true, and_false, false_and, true_and]
 have HH1 := zA lx (zA ly (zA c0 (zA c1 (zA g0 (zA g1 (zA g18 (zA g19 (zA cx1 (zA cx2 (zA cy1 (zA cy2 (zA rx (zA ry (zA ccl (zA clen (zA wm0 (zA wk0 (zA wm1 wk1))))))))))))))))))
 refine zS ?_
 refine zR (zO (by simp [-lenA, c18, c19, ↓crb, ↓cst, HH1]; rfl) ?_)
 simp only [zT, zB]
 refine zS ?_
 refine zR (zO (by simp [-lenA, c18, c19, ↓crb, ↓cst, HH1]; rfl) ?_)
 simp only [zT, zB]
 refine zS ?_
 refine zR (zO (by simp [-lenA, c18, c19, ↓crb, ↓cst, HH1]; rfl) ?_)
 simp only [zT, zB]
 refine zS ?_
 refine zS ?_
 refine zR (zO (by simp [-lenA, c18, c19, ↓crb, ↓cst, HH1]; rfl) ?_)
 simp only [zT, zB]
 refine zL ?_
 refine runs_loopG_inv (fun mm1 σ => ∃ (k1 : Nat) (i1 : Int), i1 = k1 ∧ kn - k1 = mm1 ∧ k1 ≤ kn ∧ ((k1 = 0 ∧ σ = ⟨[.any, .ref 0 0 0, .ref 1 0 0, .any, .ref 2 0 0, I (kn : Int), I i1, .any, .any, .any, .any, .any, .any, .any, .any, .any, .any, .any, .any, .any, .any, .any, .any, .any, .any, .any, .any, .any, .any, .any, .any, .any, .any, .any, .any, .any, .any, .any, .any, .any, .any, .any, .any, .any, .any, .any, .any, .any, .any, .any, .any, .any, .any, .any, .any, .any, .any, .any, .any, .any, .any, .any, .any, .any, .any, .any, .any, .any, .any, .any, .any, .any, .any, .any, .any, .any, .any, .any, .any, .any, .any, .any, .any, .any, .any, .any, .any, .any, .any, .any, .any, .any, .any, .any, .any, .any, .any, .any, .any, .any, .any, .any, .any, .any, .any, .any, .any, .any, .any, .any, .any, .any, .any, .any, .any, .any, .any, .any, .any, .any, .any, .any, .any, .any, .any, .any, .any, .any, .any, .any, .any, .any, .any, .any, .any, .any, .any, .any, .any, .any, .any, .any, .any, .any, .any, .any, .any, .any, .any, .any, .any, .any, .any, .any, .any, .any], [some (.row 26 [cells]), some (.row 3 [[I 0, .nils, .nils]]), some (.row 3 [[I (mn : Int), .nils, .nils]]), none]⟩) ∨ (∃ (p1 : Nat) (ac1 : List (List Int)), k1 = p1 + 1 ∧ ac1 = wC W_ (k1) ∧ ac1.length = p1 + 1 ∧ σ = ⟨[.any, .ref 0 0 0, .ref 1 0 0, .any, .ref 2 0 0, I (kn : Int), I i1, .any, .any, .any, .any, .any, .any, .any, .any, .any, .any, .any, .any, .any, .any, .any, .any, .any, .any, .any, .any, .any, .any, .any, .any, .any, .any, .any, .any, .any, .any, .any, .any, .any, .any, .any, .any, .any, .any, .any, .any, .any, .any, .any, .any, .any, .any, .any, .any, .any, .any, .any, .any, .any, .any, .any, .any, .any, .any, .any, .any, .any, .any, .any, .any, .any, .any, .any, .any, .any, .any, .any, .any, .any, .any, .any, .any, .any, .any, .any, .any, .any, .any, .any, .any, .any, .any, .any, .any, .any, .any, .any, .any, .any, .any, .any, .any, .any, .any, .any, .any, .any, .any, .any, .any, .any, .any, .any, .any, .any, .any, .any, .any, .any, .any, .any, .any, .any, .any, .any, .any, .any, .any, .any, .any, .any, .any, .any, .any, .any, .any, .any, .any, .any, .any, .any, .any, .any, .any, .any, .any, .any, .any, .any, .any, .any, .any, .any, .any, .any], [some (.row 26 [cells]), some (.row 3 [[I 0, .nils, .nils]]), some (.row 3 [[I (mn : Int), .sl 3 0 (p1 + 1) false, .nils]]), some (.row 1 (ac1.map rowC))]⟩))) (by simp [-lenA, c18, c19, ↓crb, ↓cst, HH1] <;> first | exact ⟨rfl, rfl⟩ | rfl) (⟨0, 0, rfl, rfl, Nat.zero_le _, .inl ⟨rfl, rfl⟩⟩) ?_
 rintro mm1 σ ⟨k1, i1, hik1, rfl, hkl1, ⟨hkz1, rfl⟩ | ⟨p1, ac1, hkp1, hac1, hacl1, rfl⟩⟩
 ·refine zS ?_
  refine zS ?_
  refine zR (zO (by simp [-lenA, c18, c19, ↓crb, ↓cst, HH1]; rfl) ?_)
  simp only [zT, zB]
  refine runs_cond_split (x := _) rfl (fun hlt1 => ?_) (fun hlt1 => ?_)
  ·have hltt1 := of_decide_eq_true hlt1
   have hk01 : k1 < kn := by omega
   have hi01 : 0 ≤ i1 := by omega
   have htn1 : i1.toNat = k1 := by omega
   have hwi1 : W .i64 (i1 + 1) = i1 + 1 := W_small (by omega)
   refine zK ?_
   simp only [zT, zB]
   refine zS ?_
   refine zL ?_
   refine zS ?_
   refine zR (zO (by simp [-lenA, c18, c19, ↓crb, ↓cst, HH1, hi01, htn1, hk01, hwi1]; rfl) ?_)
   simp only [zT, zB]
   refine zS ?_
   refine zS ?_
   refine zR (zO (by simp [-lenA, c18, c19, ↓crb, ↓cst, HH1, hi01, htn1, hk01, hwi1]; rfl) ?_)
   simp only [zT, zB]
   refine zL ?_
   refine runs_loopG_inv (fun mm2 σ => ∃ (k2 : Nat) (i2 : Int), i2 = k2 ∧ kn - k2 = mm2 ∧ k2 ≤ kn ∧ ((k2 = 0 ∧ σ = ⟨[.any, .ref 0 0 0, .ref 1 0 0, .any, .ref 2 0 0, I (kn : Int), I i1, .sl 5 0 0 true, I i2, .any, .any, .any, .any, .any, .any, .any, .any, .any, .any, .any, .any, .any, .any, .any, .any, .any, .any, .any, .any, .any, .any, .any, .any, .any, .any, .any, .any, .any, .any, .any, .any, .any, .any, .any, .any, .any, .any, .any, .any, .any, .any, .any, .any, .any, .any, .any, .any, .any, .any, .any, .any, .any, .any, .any, .any, .any, .any, .any, .any, .any, .any, .any, .any, .any, .any, .any, .any, .any, .any, .any, .any, .any, .any, .any, .any, .any, .any, .any, .any, .any, .any, .any, .any, .any, .any, .any, .any, .any, .any, .any, .any, .any, .any, .any, .any, .any, .any, .any, .any, .any, .any, .any, .any, .any, .any, .any, .any, .any, .any, .any, .any, .any, .any, .any, .any, .any, .any, .any, .any, .any, .any, .any, .any, .any, .any, .any, .any, .any, .any, .any, .any, .any, .any, .any, .any, .any, .any, .any, .any, .any, .any, .any, .any, .any, .any, .any], [some (.row 26 [cells]), some (.row 3 [[I 0, .nils, .nils]]), some (.row 3 [[I (mn : Int), .nils, .nils]]), none, none, some (.row 1 [])]⟩) ∨ (∃ (p2 : Nat) (ac2 : List (Int)), k2 = p2 + 1 ∧ ac2 = wRow W_ k1 (k2) ∧ ac2.length = p2 + 1 ∧ σ = ⟨[.any, .ref 0 0 0, .ref 1 0 0, .any, .ref 2 0 0, I (kn : Int), I i1, .sl 5 0 (p2 + 1) false, I i2, .any, .any, .any, .any, .any, .any, .any, .any, .any, .any, .any, .any, .any, .any, .any, .any, .any, .any, .any, .any, .any, .any, .any, .any, .any, .any, .any, .any, .any, .any, .any, .any, .any, .any, .any, .any, .any, .any, .any, .any, .any, .any, .any, .any, .any, .any, .any, .any, .any, .any, .any, .any, .any, .any, .any, .any, .any, .any, .any, .any, .any, .any, .any, .any, .any, .any, .any, .any, .any, .any, .any, .any, .any, .any, .any, .any, .any, .any, .any, .any, .any, .any, .any, .any, .any, .any, .any, .any, .any, .any, .any, .any, .any, .any, .any, .any, .any, .any, .any, .any, .any, .any, .any, .any, .any, .any, .any, .any, .any, .any, .any, .any, .any, .any, .any, .any, .any, .any, .any, .any, .any, .any, .any, .any, .any, .any, .any, .any, .any, .any, .any, .any, .any, .any, .any, .any, .any, .any, .any, .any, .any, .any, .any, .any, .any, .any, .any], [some (.row 26 [cells]), some (.row 3 [[I 0, .nils, .nils]]), some (.row 3 [[I (mn : Int), .nils, .nils]]), none, none, some (.row 1 (ac2.map rI))]⟩))) (by simp [-lenA, c18, c19, ↓crb, ↓cst, HH1, hi01, htn1, hk01, hwi1] <;> first | exact ⟨rfl, rfl⟩ | rfl) (⟨0, 0, rfl, rfl, Nat.zero_le _, .inl ⟨rfl, rfl⟩⟩) ?_
   rintro mm2 σ ⟨k2, i2, hik2, rfl, hkl2, ⟨hkz2, rfl⟩ | ⟨p2, ac2, hkp2, hac2, hacl2, rfl⟩⟩
   ·refine zS ?_
    refine zS ?_
    refine zR (zO (by simp [-lenA, c18, c19, ↓crb, ↓cst, HH1, hi01, htn1, hk01, hwi1]; rfl) ?_)
    simp only [zT, zB]
    refine runs_cond_split (x := _) rfl (fun hlt2 => ?_) (fun hlt2 => ?_)
    ·have hltt2 := of_decide_eq_true hlt2
     have hk02 : k2 < kn := by omega
     have hi02 : 0 ≤ i2 := by omega
     have htn2 : i2.toNat = k2 := by omega
     have hwi2 : W .i64 (i2 + 1) = i2 + 1 := W_small (by omega)
     have hik4 : i1 < 4 := by omega
     have hjk4 : i2 < 4 := by omega
     have hgu := mins_fit (k := k1 * 4 + k2) bg.2
     have hgc := cg k1 k2 (by omega) (by omega)
     have hF2 : wRow W_ k1 (k2 + 1) = wRow W_ k1 k2 ++ [(gAt W_ k1 k2).tmod 40] := range_map1 _ _
     have hgv : isU (gAt W_ k1 k2) := hgu
     generalize gAt W_ k1 k2 = G at *
     have wg0 : W .i64 G = G := W_fit (by have := hgv.1; have := hgv.2; omega)
     have hg1 : 0 ≤ G.tmod 40 := Int.tmod_nonneg 40 hgv.1
     have hg2 : G.tmod 40 < 40 := Int.tmod_lt_of_pos _ (by decide)
     have wg1 : W .i64 (G.tmod 40) = G.tmod 40 := W_fit (by omega)
     have hnx2 : [G.tmod 40] = wRow W_ k1 (k2 + 1) := by rw [hF2, hkz2]; rfl
     have hap2 : [[I (G.tmod 40)]] = [G.tmod 40].map rI := rfl
     have HH2 := zA hi01 (zA htn1 (zA hk01 (zA hwi1 (zA hi02 (zA htn2 (zA hk02 (zA hwi2 (zA hik4 (zA hjk4 (zA hgc (zA wg0 wg1)))))))))))
     refine zK ?_
     simp only [zT, zB]
     refine zS ?_
     refine zL ?_
     refine zR (zO (by simp [-lenA, c18, c19, ↓crb, ↓cst, HH1, zI, HH2]; rfl) ?_)
     simp only [zT, zB]
     refine zR (zO (by simp [-lenA, c18, c19, ↓crb, ↓cst, HH1, zI, HH2]; rfl) ?_)
     simp only [zT, zB]
     exact ⟨kn - (k2 + 1), _, _, by omega, by simp [-lenA, c18, c19, ↓crb, ↓cst, HH1, zI, HH2] <;> first | exact ⟨rfl, rfl⟩ | rfl, k2 + 1, i2 + 1, by omega, rfl, by omega, .inr ⟨0, [G.tmod 40], by omega, hnx2, rfl, rfl⟩⟩
    ·have hx2 := of_decide_eq_false hlt2
     have hkE2 : k2 = kn := by omega
     omega
   ·have tk2 : (ac2.map rI).take (p2 + 1) = ac2.map rI := List.take_of_length_le (by simp [hacl2])
    have hlac2 : p2 + 1 + 1 ≤ 1048576 := by omega
    have hr32 : ∀ e : Int, (rI e).length = 1 := fun _ => rfl
    have hfr2 := fun n h r => optAll_snoc (frN_rI n h ac2) r
    have hrj2 := fun n => rI_rb n 4 ac2
    have HH3 := zA hi01 (zA htn1 (zA hk01 (zA hwi1 (zA tk2 (zA hlac2 (zA hacl2 hr32))))))
    refine zS ?_
    refine zS ?_
    refine zR (zO (by simp [-lenA, c18, c19, ↓crb, ↓cst, HH1, ↓hfr2, ↓hrj2, HH3]; rfl) ?_)
    simp only [zT, zB]
    refine runs_cond_split (x := _) rfl (fun hlt2 => ?_) (fun hlt2 => ?_)
    ·have hltt2 := of_decide_eq_true hlt2
     have hk02 : k2 < kn := by omega
     have hi02 : 0 ≤ i2 := by omega
     have htn2 : i2.toNat = k2 := by omega
     have hwi2 : W .i64 (i2 + 1) = i2 + 1 := W_small (by omega)
     have hik4 : i1 < 4 := by omega
     have hjk4 : i2 < 4 := by omega
     have hgu := mins_fit (k := k1 * 4 + k2) bg.2
     have hgc := cg k1 k2 (by omega) (by omega)
     have hF2 : wRow W_ k1 (k2 + 1) = wRow W_ k1 k2 ++ [(gAt W_ k1 k2).tmod 40] := range_map1 _ _
     have hgv : isU (gAt W_ k1 k2) := hgu
     generalize gAt W_ k1 k2 = G at *
     have wg0 : W .i64 G = G := W_fit (by have := hgv.1; have := hgv.2; omega)
     have hg1 : 0 ≤ G.tmod 40 := Int.tmod_nonneg 40 hgv.1
     have hg2 : G.tmod 40 < 40 := Int.tmod_lt_of_pos _ (by decide)
     have wg1 : W .i64 (G.tmod 40) = G.tmod 40 := W_fit (by omega)
     have hnx2 : ac2 ++ [G.tmod 40] = wRow W_ k1 (k2 + 1) := by rw [hF2, ← hac2]
     have hnl2 : (ac2 ++ [G.tmod 40]).length = p2 + 1 + 1 := by simp [hacl2]
     have hap2 : ac2.map rI ++ [[I (G.tmod 40)]] = (ac2 ++ [G.tmod 40]).map rI := by rw [List.map_append]; rfl
     generalize ac2 ++ [G.tmod 40] = nx2 at *
     have hrx2 := fun n => rI_rb n 4 nx2
     have HH4 := zA hi02 (zA htn2 (zA hk02 (zA hwi2 (zA hap2 (zA hik4 (zA hjk4 (zA hgc (zA wg0 wg1))))))))
     have HH5 := zA crb (zA cst (zA hfr2 (zA hrj2 hrx2)))
     refine zK ?_
     simp only [zT, zB]
     refine zS ?_
     refine zL ?_
     refine zR (zO (by simp [-lenA, c18, c19, HH1, HH3, zI, HH4, ↓HH5]; rfl) ?_)
     simp only [zT, zB]
     refine zR (zO (by simp [-lenA, c18, c19, HH1, HH3, zI, HH4, ↓HH5]; rfl) ?_)
     simp only [zT, zB]
     exact ⟨kn - (k2 + 1), _, _, by omega, by simp [-lenA, c18, c19, HH1, HH3, zI, HH4, ↓HH5] <;> first | exact ⟨rfl, rfl⟩ | rfl, k2 + 1, i2 + 1, by omega, rfl, by omega, .inr ⟨p2 + 1, nx2, by omega, hnx2, hnl2, rfl⟩⟩
    ·have hx2 := of_decide_eq_false hlt2
     have hkE2 : k2 = kn := by omega
     rw [hkE2] at hac2
     have hz2 : p2 + 1 = kn := by omega
     have hF1 : wC W_ (k1 + 1) = wC W_ k1 ++ [wRow W_ k1 kn] := by unfold wC; rw [range_map1, hkt]
     have hne2 : ac2 ≠ [] := by intro e; rw [e] at hacl2; simp at hacl2
     rw [← hac2] at hF1
     have hro : rowC ac2 = [.vl (ac2.map rI) false] := by unfold rowC; rw [encE_ne hne2]
     have hrl : ((ac2.map rI).all fun r => r.length == 1) = true := by simp [rI]
     have hrs : ((ac2.map rI).all fun r => r.all storable) = true := by simp [rI]
     have hnx1 : [ac2] = wC W_ (k1 + 1) := by rw [hF1, hkz1]; rfl
     have hap1 : [[.vl (ac2.map rI) false]] = [ac2].map rowC := by show _ = [rowC (ac2)]; rw [hro]
     have HH6 := zA crb (zA cst (zA hfr2 (zA hrj2 (zA hrl hrs))))
     refine runs_exit ?_
     simp only [zT, zB, if_true, if_false, reduceIte, Nat.reduceEqDiff, Nat.succ_ne_zero, Nat.one_ne_zero, Nat.zero_ne_one]
     refine zR (zO (by simp [-lenA, c18, c19, HH1, HH3, hro, frz_mapI, ↓HH6]; rfl) ?_)
     simp only [zT, zB]
     refine zR (zO (by simp [-lenA, c18, c19, HH1, HH3, hro, frz_mapI, ↓HH6]; rfl) ?_)
     simp only [zT, zB]
     exact ⟨kn - (k1 + 1), _, _, by omega, by simp [-lenA, c18, c19, HH1, HH3, hro, frz_mapI, ↓HH6] <;> first | exact ⟨rfl, rfl⟩ | rfl, k1 + 1, i1 + 1, by omega, rfl, by omega, .inr ⟨0, [ac2], by omega, hnx1, rfl, rfl⟩⟩
  ·have hx1 := of_decide_eq_false hlt1
   have hkE1 : k1 = kn := by omega
   omega
 ·have tk1 : (ac1.map rowC).take (p1 + 1) = ac1.map rowC := List.take_of_length_le (by simp [hacl1])
  have hlac1 : p1 + 1 + 1 ≤ 1048576 := by omega
  have hr31 : ∀ e : List Int, (rowC e).length = 1 := fun _ => rfl
  have hfr1 := fun n h r => optAll_snoc (frN_rowC n h ac1) r
  have hrj1 := fun n => rowC_rb n 4 ac1
  refine zS ?_
  refine zS ?_
  refine zR (zO (by simp [-lenA, c18, c19, ↓crb, ↓cst, HH1, tk1, hlac1, hacl1, hr31, ↓hfr1, ↓hrj1]; rfl) ?_)
  simp only [zT, zB]
  refine runs_cond_split (x := _) rfl (fun hlt1 => ?_) (fun hlt1 => ?_)
  ·have hltt1 := of_decide_eq_true hlt1
   have hk01 : k1 < kn := by omega
   have hi01 : 0 ≤ i1 := by omega
   have htn1 : i1.toNat = k1 := by omega
   have hwi1 : W .i64 (i1 + 1) = i1 + 1 := W_small (by omega)
   have HH7 := zA tk1 (zA hlac1 (zA hacl1 (zA hr31 (zA hi01 (zA htn1 (zA hk01 hwi1))))))
   refine zK ?_
   simp only [zT, zB]
   refine zS ?_
   refine zL ?_
   refine zS ?_
   refine zR (zO (by simp [-lenA, c18, c19, ↓crb, ↓cst, HH1, ↓hfr1, ↓hrj1, HH7]; rfl) ?_)
   simp only [zT, zB]
   refine zS ?_
   refine zS ?_
   refine zR (zO (by simp [-lenA, c18, c19, ↓crb, ↓cst, HH1, ↓hfr1, ↓hrj1, HH7]; rfl) ?_)
   simp only [zT, zB]
   refine zL ?_
   refine runs_loopG_inv (fun mm2 σ => ∃ (k2 : Nat) (i2 : Int), i2 = k2 ∧ kn - k2 = mm2 ∧ k2 ≤ kn ∧ ((k2 = 0 ∧ σ = ⟨[.any, .ref 0 0 0, .ref 1 0 0, .any, .ref 2 0 0, I (kn : Int), I i1, .sl 5 0 0 true, I i2, .any, .any, .any, .any, .any, .any, .any, .any, .any, .any, .any, .any, .any, .any, .any, .any, .any, .any, .any, .any, .any, .any, .any, .any, .any, .any, .any, .any, .any, .any, .any, .any, .any, .any, .any, .any, .any, .any, .any, .any, .any, .any, .any, .any, .any, .any, .any, .any, .any, .any, .any, .any, .any, .any, .any, .any, .any, .any, .any, .any, .any, .any, .any, .any, .any, .any, .any, .any, .any, .any, .any, .any, .any, .any, .any, .any, .any, .any, .any, .any, .any, .any, .any, .any, .any, .any, .any, .any, .any, .any, .any, .any, .any, .any, .any, .any, .any, .any, .any, .any, .any, .any, .any, .any, .any, .any, .any, .any, .any, .any, .any, .any, .any, .any, .any, .any, .any, .any, .any, .any, .any, .any, .any, .any, .any, .any, .any, .any, .any, .any, .any, .any, .any, .any, .any, .any, .any, .any, .any, .any, .any, .any, .any, .any, .any, .any, .any], [some (.row 26 [cells]), some (.row 3 [[I 0, .nils, .nils]]), some (.row 3 [[I (mn : Int), .sl 3 0 (p1 + 1) false, .nils]]), some (.row 1 (ac1.map rowC)), none, some (.row 1 [])]⟩) ∨ (∃ (p2 : Nat) (ac2 : List (Int)), k2 = p2 + 1 ∧ ac2 = wRow W_ k1 (k2) ∧ ac2.length = p2 + 1 ∧ σ = ⟨[.any, .ref 0 0 0, .ref 1 0 0, .any, .ref 2 0 0, I (kn : Int), I i1, .sl 5 0 (p2 + 1) false, I i2, .any, .any, .any, .any, .any, .any, .any, .any, .any, .any, .any, .any, .any, .any, .any, .any, .any, .any, .any, .any, .any, .any, .any, .any, .any, .any, .any, .any, .any, .any, .any, .any, .any, .any, .any, .any, .any, .any, .any, .any, .any, .any, .any, .any, .any, .any, .any, .any, .any, .any, .any, .any, .any, .any, .any, .any, .any, .any, .any, .any, .any, .any, .any, .any, .any, .any, .any, .any, .any, .any, .any, .any, .any, .any, .any, .any, .any, .any, .any, .any, .any, .any, .any, .any, .any, .any, .any, .any, .any, .any, .any, .any, .any, .any, .any, .any, .any, .any, .any, .any, .any, .any, .any, .any, .any, .any, .any, .any, .any, .any, .any, .any, .any, .any, .any, .any, .any, .any, .any, .any, .any, .any, .any, .any, .any, .any, .any, .any, .any, .any, .any, .any, .any, .any, .any, .any, .any, .any, .any, .any, .any, .any, .any, .any, .any, .any, .any], [some (.row 26 [cells]), some (.row 3 [[I 0, .nils, .nils]]), some (.row 3 [[I (mn : Int), .sl 3 0 (p1 + 1) false, .nils]]), some (.row 1 (ac1.map rowC)), none, some (.row 1 (ac2.map rI))]⟩))) (by simp [-lenA, c18, c19, ↓crb, ↓cst, HH1, ↓hfr1, ↓hrj1, HH7] <;> first | exact ⟨rfl, rfl⟩ | rfl) (⟨0, 0, rfl, rfl, Nat.zero_le _, .inl ⟨rfl, rfl⟩⟩) ?_
   rintro mm2 σ ⟨k2, i2, hik2, rfl, hkl2, ⟨hkz2, rfl⟩ | ⟨p2, ac2, hkp2, hac2, hacl2, rfl⟩⟩
   ·refine zS ?_
    refine zS ?_
    refine zR (zO (by simp [-lenA, c18, c19, ↓crb, ↓cst, HH1, ↓hfr1, ↓hrj1, HH7]; rfl) ?_)
    simp only [zT, zB]
    refine runs_cond_split (x := _) rfl (fun hlt2 => ?_) (fun hlt2 => ?_)
    ·have hltt2 := of_decide_eq_true hlt2
     have hk02 : k2 < kn := by omega
     have hi02 : 0 ≤ i2 := by omega
     have htn2 : i2.toNat = k2 := by omega
     have hwi2 : W .i64 (i2 + 1) = i2 + 1 := W_small (by omega)
     have hik4 : i1 < 4 := by omega
     have hjk4 : i2 < 4 := by omega
     have hgu := mins_fit (k := k1 * 4 + k2) bg.2
     have hgc := cg k1 k2 (by omega) (by omega)
     have hF2 : wRow W_ k1 (k2 + 1) = wRow W_ k1 k2 ++ [(gAt W_ k1 k2).tmod 40] := range_map1 _ _
     have hgv : isU (gAt W_ k1 k2) := hgu
     generalize gAt W_ k1 k2 = G at *
     have wg0 : W .i64 G = G := W_fit (by have := hgv.1; have := hgv.2; omega)
     have hg1 : 0 ≤ G.tmod 40 := Int.tmod_nonneg 40 hgv.1
     have hg2 : G.tmod 40 < 40 := Int.tmod_lt_of_pos _ (by decide)
     have wg1 : W .i64 (G.tmod 40) = G.tmod 40 := W_fit (by omega)
     have hnx2 : [G.tmod 40] = wRow W_ k1 (k2 + 1) := by rw [hF2, hkz2]; rfl
     have hap2 : [[I (G.tmod 40)]] = [G.tmod 40].map rI := rfl
     have HH8 := zA hi02 (zA htn2 (zA hk02 (zA hwi2 (zA hik4 (zA hjk4 (zA hgc (zA wg0 wg1)))))))
     refine zK ?_
     simp only [zT, zB]
     refine zS ?_
     refine zL ?_
     refine zR (zO (by simp [-lenA, c18, c19, ↓crb, ↓cst, HH1, ↓hfr1, ↓hrj1, HH7, zI, HH8]; rfl) ?_)
     simp only [zT, zB]
     refine zR (zO (by simp [-lenA, c18, c19, ↓crb, ↓cst, HH1, ↓hfr1, ↓hrj1, HH7, zI, HH8]; rfl) ?_)
     simp only [zT, zB]
     exact ⟨kn - (k2 + 1), _, _, by omega, by simp [-lenA, c18, c19, ↓crb, ↓cst, HH1, ↓hfr1, ↓hrj1, HH7, zI, HH8] <;> first | exact ⟨rfl, rfl⟩ | rfl, k2 + 1, i2 + 1, by omega, rfl, by omega, .inr ⟨0, [G.tmod 40], by omega, hnx2, rfl, rfl⟩⟩
    ·have hx2 := of_decide_eq_false hlt2
     have hkE2 : k2 = kn := by omega
     omega
   ·have tk2 : (ac2.map rI).take (p2 + 1) = ac2.map rI := List.take_of_length_le (by simp [hacl2])
    have hlac2 : p2 + 1 + 1 ≤ 1048576 := by omega
    have hr32 : ∀ e : Int, (rI e).length = 1 := fun _ => rfl
    have hfr2 := fun n h r => optAll_snoc (frN_rI n h ac2) r
    have hrj2 := fun n => rI_rb n 4 ac2
    have HH9 := zA crb (zA cst (zA hfr1 (zA hrj1 (zA hfr2 hrj2))))
    refine zS ?_
    refine zS ?_
    refine zR (zO (by simp [-lenA, c18, c19, HH1, HH7, tk2, hlac2, hacl2, hr32, ↓HH9]; rfl) ?_)
    simp only [zT, zB]
    refine runs_cond_split (x := _) rfl (fun hlt2 => ?_) (fun hlt2 => ?_)
    ·have hltt2 := of_decide_eq_true hlt2
     have hk02 : k2 < kn := by omega
     have hi02 : 0 ≤ i2 := by omega
     have htn2 : i2.toNat = k2 := by omega
     have hwi2 : W .i64 (i2 + 1) = i2 + 1 := W_small (by omega)
     have hik4 : i1 < 4 := by omega
     have hjk4 : i2 < 4 := by omega
     have hgu := mins_fit (k := k1 * 4 + k2) bg.2
     have hgc := cg k1 k2 (by omega) (by omega)
     have hF2 : wRow W_ k1 (k2 + 1) = wRow W_ k1 k2 ++ [(gAt W_ k1 k2).tmod 40] := range_map1 _ _
     have hgv : isU (gAt W_ k1 k2) := hgu
     generalize gAt W_ k1 k2 = G at *
     have wg0 : W .i64 G = G := W_fit (by have := hgv.1; have := hgv.2; omega)
     have hg1 : 0 ≤ G.tmod 40 := Int.tmod_nonneg 40 hgv.1
     have hg2 : G.tmod 40 < 40 := Int.tmod_lt_of_pos _ (by decide)
     have wg1 : W .i64 (G.tmod 40) = G.tmod 40 := W_fit (by omega)
     have hnx2 : ac2 ++ [G.tmod 40] = wRow W_ k1 (k2 + 1) := by rw [hF2, ← hac2]
     have hnl2 : (ac2 ++ [G.tmod 40]).length = p2 + 1 + 1 := by simp [hacl2]
     have hap2 : ac2.map rI ++ [[I (G.tmod 40)]] = (ac2 ++ [G.tmod 40]).map rI := by rw [List.map_append]; rfl
     generalize ac2 ++ [G.tmod 40] = nx2 at *
     have hrx2 := fun n => rI_rb n 4 nx2
     have HH10 := zA tk2 (zA hlac2 (zA hacl2 (zA hr32 (zA hi02 (zA htn2 (zA hk02 (zA hwi2 (zA hap2 (zA hik4 (zA hjk4 (zA hgc (zA wg0 wg1))))))))))))
     refine zK ?_
     simp only [zT, zB]
     refine zS ?_
     refine zL ?_
     refine zR (zO (by simp [-lenA, c18, c19, HH1, HH7, ↓HH9, ↓hrx2, zI, HH10]; rfl) ?_)
     simp only [zT, zB]
     refine zR (zO (by simp [-lenA, c18, c19, HH1, HH7, ↓HH9, ↓hrx2, zI, HH10]; rfl) ?_)
     simp only [zT, zB]
     exact ⟨kn - (k2 + 1), _, _, by omega, by simp [-lenA, c18, c19, HH1, HH7, ↓HH9, ↓hrx2, zI, HH10] <;> first | exact ⟨rfl, rfl⟩ | rfl, k2 + 1, i2 + 1, by omega, rfl, by omega, .inr ⟨p2 + 1, nx2, by omega, hnx2, hnl2, rfl⟩⟩
    ·have hx2 := of_decide_eq_false hlt2
     have hkE2 : k2 = kn := by omega
     rw [hkE2] at hac2
     have hz2 : p2 + 1 = kn := by omega
     have hF1 : wC W_ (k1 + 1) = wC W_ k1 ++ [wRow W_ k1 kn] := by unfold wC; rw [range_map1, hkt]
     have hne2 : ac2 ≠ [] := by intro e; rw [e] at hacl2; simp at hacl2
     rw [← hac2] at hF1
     have hro : rowC ac2 = [.vl (ac2.map rI) false] := by unfold rowC; rw [encE_ne hne2]
     have hrl : ((ac2.map rI).all fun r => r.length == 1) = true := by simp [rI]
     have hrs : ((ac2.map rI).all fun r => r.all storable) = true := by simp [rI]
     have hnx1 : ac1 ++ [ac2] = wC W_ (k1 + 1) := by rw [hF1, ← hac1]
     have hnl1 : (ac1 ++ [ac2]).length = p1 + 1 + 1 := by simp [hacl1]
     have hap1 : ac1.map rowC ++ [[.vl (ac2.map rI) false]] = (ac1 ++ [ac2]).map rowC := by rw [List.map_append]; show _ = _ ++ [rowC (ac2)]; rw [hro]
     generalize ac1 ++ [ac2] = nx1 at *
     have hrx1 := fun n => rowC_rb n 4 nx1
     have HH11 := zA tk2 (zA hlac2 (zA hacl2 (zA hr32 hap1)))
     refine runs_exit ?_
     simp only [zT, zB, if_true, if_false, reduceIte, Nat.reduceEqDiff, Nat.succ_ne_zero, Nat.one_ne_zero, Nat.zero_ne_one]
     refine zR (zO (by simp [-lenA, c18, c19, HH1, HH7, ↓HH9, ↓hrx1, ↓hrl, ↓hrs, frz_mapI, HH11]; rfl) ?_)
     simp only [zT, zB]
     refine zR (zO (by simp [-lenA, c18, c19, HH1, HH7, ↓HH9, ↓hrx1, ↓hrl, ↓hrs, frz_mapI, HH11]; rfl) ?_)
     simp only [zT, zB]
     exact ⟨kn - (k1 + 1), _, _, by omega, by simp [-lenA, c18, c19, HH1, HH7, ↓HH9, ↓hrx1, ↓hrl, ↓hrs, frz_mapI, HH11] <;> first | exact ⟨rfl, rfl⟩ | rfl, k1 + 1, i1 + 1, by omega, rfl, by omega, .inr ⟨p1 + 1, nx1, by omega, hnx1, hnl1, rfl⟩⟩
  ·have hx1 := of_decide_eq_false hlt1
   have hkE1 : k1 = kn := by omega
   rw [hkE1] at hac1
   have hz1 : p1 + 1 = kn := by omega
   rw [hz1] at hacl1
   have hCne : ac1 ≠ [] := by intro e; rw [e] at hacl1; simp at hacl1; omega
   have hCe : encC ac1 = .vl (ac1.map rowC) false := encC_ne hCne
   rw [hz1] at tk1
   have hcrb := fun n => rowC_rb n 4 ac1
   have HH12 := zA tk1 (zA hlac1 (zA hacl1 (zA hr31 hz1)))
   have HH13 := zA crb (zA cst (zA hfr1 (zA hrj1 hcrb)))
   refine runs_exit ?_
   simp only [zT, zB, if_true, if_false, reduceIte, Nat.reduceEqDiff, Nat.succ_ne_zero, Nat.one_ne_zero, Nat.zero_ne_one]
   refine zS ?_
   refine zS ?_
   refine zR (zO (by simp [-lenA, c18, c19, HH1, HH12, ↓HH13]; rfl) ?_)
   simp only [zT, zB]
   refine zL ?_
   refine runs_loopG_inv (fun mm3 σ => ∃ (k3 : Nat) (i3 : Int), i3 = k3 ∧ (min W_.xs.length 6) - k3 = mm3 ∧ k3 ≤ (min W_.xs.length 6) ∧ ((k3 = 0 ∧ σ = ⟨[.any, .ref 0 0 0, .ref 1 0 0, .any, .ref 2 0 0, I (kn : Int), .any, .any, .any, I i3, .any, .any, .any, .any, .any, .any, .any, .any, .any, .any, .any, .any, .any, .any, .any, .any, .any, .any, .any, .any, .any, .any, .any, .any, .any, .any, .any, .any, .any, .any, .any, .any, .any, .any, .any, .any, .any, .any, .any, .any, .any, .any, .any, .any, .any, .any, .any, .any, .any, .any, .any, .any, .any, .any, .any, .any, .any, .any, .any, .any, .any, .any, .any, .any, .any, .any, .any, .any, .any, .any, .any, .any, .any, .any, .any, .any, .any, .any, .any, .any, .any, .any, .any, .any, .any, .any, .any, .any, .any, .any, .any, .any, .any, .any, .any, .any, .any, .any, .any, .any, .any, .any, .any, .any, .any, .any, .any, .any, .any, .any, .any, .any, .any, .any, .any, .any, .any, .any, .any, .any, .any, .any, .any, .any, .any, .any, .any, .any, .any, .any, .any, .any, .any, .any, .any, .any, .any, .any, .any, .any, .any, .any, .any, .any, .any, .any], [some (.row 26 [cells]), some (.row 3 [[I 0, .nils, .nils]]), some (.row 3 [[I (mn : Int), .sl 3 0 kn false, .nils]]), some (.row 1 (ac1.map rowC)), none]⟩) ∨ (∃ (p3 : Nat) (ac3 : List (FStop)), k3 = p3 + 1 ∧ ac3 = wT W_ (k3) ∧ ac3.length = p3 + 1 ∧ σ = ⟨[.any, .ref 0 0 0, .ref 1 0 0, .any, .ref 2 0 0, I (kn : Int), .any, .any, .any, I i3, .any, .any, .any, .any, .any, .any, .any, .any, .any, .any, .any, .any, .any, .any, .any, .any, .any, .any, .any, .any, .any, .any, .any, .any, .any, .any, .any, .any, .any, .any, .any, .any, .any, .any, .any, .any, .any, .any, .any, .any, .any, .any, .any, .any, .any, .any, .any, .any, .any, .any, .any, .any, .any, .any, .any, .any, .any, .any, .any, .any, .any, .any, .any, .any, .any, .any, .any, .any, .any, .any, .any, .any, .any, .any, .any, .any, .any, .any, .any, .any, .any, .any, .any, .any, .any, .any, .any, .any, .any, .any, .any, .any, .any, .any, .any, .any, .any, .any, .any, .any, .any, .any, .any, .any, .any, .any, .any, .any, .any, .any, .any, .any, .any, .any, .any, .any, .any, .any, .any, .any, .any, .any, .any, .any, .any, .any, .any, .any, .any, .any, .any, .any, .any, .any, .any, .any, .any, .any, .any, .any, .any, .any, .any, .any, .any, .any], [some (.row 26 [cells]), some (.row 3 [[I 0, .nils, .nils]]), some (.row 3 [[I (mn : Int), .sl 3 0 kn false, .sl 4 0 (p3 + 1) false]]), some (.row 1 (ac1.map rowC)), some (.row 3 (ac3.map rS3))]⟩))) (by simp [-lenA, c18, c19, HH1, HH12, ↓HH13] <;> first | exact ⟨rfl, rfl⟩ | rfl) (⟨0, 0, rfl, rfl, Nat.zero_le _, .inl ⟨rfl, rfl⟩⟩) ?_
   rintro mm3 σ ⟨k3, i3, hik3, rfl, hkl3, ⟨hkz3, rfl⟩ | ⟨p3, ac3, hkp3, hac3, hacl3, rfl⟩⟩
   ·rcases hA3 : decide (i3 < (W_.xs.length : Int)) with _ | _
    ·refine zS ?_
     refine zS ?_
     refine zR (zO (by simp [-lenA, c18, c19, HH1, HH12, ↓HH13, hA3]; rfl) ?_)
     simp only [zT, zB]
     refine runs_cond (x := false) (by simp) ?_
     have hx3 := of_decide_eq_false hA3
     have hkE3 : k3 = (min W_.xs.length 6) := by omega
     have hwTe : k3 = min W_.xs.length 6 := hkE3
     refine runs_exit ?_
     simp only [zT, zB, if_true, if_false, reduceIte, Nat.reduceEqDiff, Nat.succ_ne_zero, Nat.one_ne_zero, Nat.zero_ne_one]
     have hT0 : wT W_ (min W_.xs.length 6) = [] := by rw [← hkE3, hkz3]; rfl
     rw [hT0, hkt, ← hac1]
     exact tail41 P T W_ ac1 [] cells y kn mn .nils none hM1 hM4 hK1 hK4 hmn hkn hacl1 ly hy bys crb ry c19 (fun n hn => rfl) (fun n hn => rfl) rfl rfl (fun a b c d l => rfl) _ _ _ _ _ _ _ _ _ _ _ _ _ _ _ _ _ _ _ _ _ _ _ _ _ _ _ _ _ _ _ _ _ _ _ _ _ _ _ _ _ _ _ _ _ _ _ _ _ _ _ _ _ _ _ _ _ _ _ _ _ _ _ _ _ _ _ _ _ _ _ _ _ _ _ _ _ _ _ _ _ _ _ _ _ _ _ _ _ _ _ _ _ _ _ _ _ _ _ _ _ _ _ _ _ _ _ _ _ _ _ _ _ _ _ _ _ _ _ _ _ _ _ _ _ _ _ _ _ _ _ _ _ _ _ _ _ _ _ _ _ _ _ _ _ _ _ _ _ _ _ _
    ·refine zS ?_
     refine zS ?_
     refine zR (zO (by simp [-lenA, c18, c19, HH1, HH12, ↓HH13, hA3]; rfl) ?_)
     simp only [zT, zB]
     refine runs_cond_split (x := decide (i3 < 6)) (by simp) (fun hlt3 => ?_) (fun hlt3 => ?_)
     ·have hAt3 := of_decide_eq_true hA3
      have hltt3 := of_decide_eq_true hlt3
      have hk03 : k3 < (min W_.xs.length 6) := by omega
      have hi03 : 0 ≤ i3 := by omega
      have htn3 : i3.toNat = k3 := by omega
      have hwi3 : W .i64 (i3 + 1) = i3 + 1 := W_small (by omega)
      have hxl : k3 < W_.xs.length := by omega
      obtain ⟨tx, rfl⟩ := rowsV_get hx (k := k3) (by rw [List.length_map]; omega)
      have hvv := bxs _ (List.getElem_mem hxl)
      have hF3 : wT W_ (k3 + 1) = wT W_ k3 ++ [wStop W_ W_.xs[k3]] := take_map1 _ hxl
      generalize hV : W_.xs[k3] = v at *
      have hv0 : (rU v)[0]? = some (.int .u8 (v_ v 0)) := rU_get (by omega)
      have hv1 : (rU v)[1]? = some (.int .u8 (v_ v 1)) := rU_get (by omega)
      have hv2 : (rU v)[2]? = some (.int .u8 (v_ v 2)) := rU_get (by omega)
      have hv3 : (rU v)[3]? = some (.int .u8 (v_ v 3)) := rU_get (by omega)
      have q0 := fun (h : 0 < (rU v).length) => Option.some.inj ((List.getElem?_eq_getElem h).symm.trans hv0)
      have q1 := fun (h : 1 < (rU v).length) => Option.some.inj ((List.getElem?_eq_getElem h).symm.trans hv1)
      have q2 := fun (h : 2 < (rU v).length) => Option.some.inj ((List.getElem?_eq_getElem h).symm.trans hv2)
      have q3 := fun (h : 3 < (rU v).length) => Option.some.inj ((List.getElem?_eq_getElem h).symm.trans hv3)
      have hvl : (rU v).length = 4 := by rw [rU_len, hvv.1]
      have hvst := rU_stor v
      have hvc : cellsOf (.agg (rU v)) = some (rU v) := rfl
      have hvt : (rU v).take 4 = rU v := List.take_of_length_le (by omega)
      have hvd : (rU v).drop 4 = [] := List.drop_of_length_le (by omega)
      have b0 := mins_fit (k := 0) hvv.2
      have b1 := mins_fit (k := 1) hvv.2
      have b2 := mins_fit (k := 2) hvv.2
      have b3 := mins_fit (k := 3) hvv.2
      unfold wStop v_ at hF3
      unfold v_ at hv0 hv1 hv2 hv3 q0 q1 q2 q3
      generalize v.getD 0 0 = e0 at *
      generalize v.getD 1 0 = e1 at *
      generalize v.getD 2 0 = e2 at *
      generalize v.getD 3 0 = e3 at *
      obtain ⟨b01, b02⟩ := b0
      obtain ⟨b11, b12⟩ := b1
      obtain ⟨b21, b22⟩ := b2
      obtain ⟨b31, b32⟩ := b3
      have h21 : 0 ≤ e2.tmod 2 := Int.tmod_nonneg 2 b21
      have h22 : e2.tmod 2 < 2 := Int.tmod_lt_of_pos _ (by decide)
      have h31 : 0 ≤ e3.tmod 60 := Int.tmod_nonneg 60 b31
      have h32 : e3.tmod 60 < 60 := Int.tmod_lt_of_pos _ (by decide)
      rw [hmn] at hF3
      have h01 : 0 ≤ e0.tmod (mn : Int) := Int.tmod_nonneg _ b01
      have h02 : e0.tmod (mn : Int) < mn := Int.tmod_lt_of_pos _ (by omega)
      have hmz : ¬ mn = 0 := by omega
      have hmzi : ¬ (mn : Int) = 0 := by omega
      have hmzb : ((mn : Int) == 0) = false := by simp; omega
      have hmm1 : ¬ ((mn : Int) = -1) := by omega
      have u0 : W .i64 e0 = e0 := W_fit (by omega)
      have u1 : W .i64 e1 = e1 := W_fit (by omega)
      have u2 : W .i64 e2 = e2 := W_fit (by omega)
      have u3 : W .i64 e3 = e3 := W_fit (by omega)
      have u4 : W .i64 (2 * e1) = 2 * e1 := W_fit (by omega)
      have u5 : W .i64 (e2.tmod 2) = e2.tmod 2 := W_fit (by omega)
      have u6 : W .i64 (2 * e1 + e2.tmod 2) = 2 * e1 + e2.tmod 2 := W_fit (by omega)
      have u7 : W .i64 (e0.tmod (mn : Int)) = e0.tmod (mn : Int) := W_fit (by omega)
      have u8 : W .i64 (2 * e1 + e2.tmod 2 + 1) = 2 * e1 + e2.tmod 2 + 1 := W_fit (by omega)
      have u9 : W .i64 (e3.tmod 60) = e3.tmod 60 := W_fit (by omega)
      have u10 : W .i64 (2 * e1 + e2.tmod 2 + 1 + e3.tmod 60) = 2 * e1 + e2.tmod 2 + 1 + e3.tmod 60 := W_fit (by omega)
      have hnx3 : [(e0.tmod (mn : Int), 2 * e1 + e2.tmod 2, 2 * e1 + e2.tmod 2 + 1 + e3.tmod 60)] = wT W_ (k3 + 1) := by rw [hF3, hkz3]; rfl
      have hap3 : [[I (e0.tmod (mn : Int)), I (2 * e1 + e2.tmod 2), I (2 * e1 + e2.tmod 2 + 1 + e3.tmod 60)]] = [(e0.tmod (mn : Int), 2 * e1 + e2.tmod 2, 2 * e1 + e2.tmod 2 + 1 + e3.tmod 60)].map rS3 := rfl
      have HH14 := zA hA3 (zA hi03 (zA htn3 (zA hk03 (zA hwi3 (zA hxl (zA hV (zA hv0 (zA hv1 (zA hv2 (zA hv3 (zA q0 (zA q1 (zA q2 (zA q3 (zA hvl (zA hvc (zA hvt (zA hvd (zA hmz (zA hmzi (zA hmzb (zA hmm1 (zA u0 (zA u1 (zA u2 (zA u3 (zA u4 (zA u6 (zA u7 (zA u8 (zA u9 u10)))))))))))))))))))))))))))))))
      refine zK ?_
      simp only [zT, zB]
      refine zS ?_
      refine zL ?_
      refine zS ?_
      refine zR (zO (by simp [-lenA, c18, c19, HH1, HH12, ↓HH13, ↓hvst, u5, HH14]; rfl) ?_)
      simp only [zT, zB]
      refine zS ?_
      refine zR (zO (by simp [-lenA, c18, c19, HH1, HH12, ↓HH13, ↓hvst, u5, HH14]; rfl) ?_)
      simp only [zT, zB]
      refine runs_drw (by simp (maxSteps := 3000000) [-lenA, c18, c19, HH1, HH12, ↓HH13, ↓hvst, u5, HH14]; rfl) ?_
      simp only [zT, zB]
      refine zR (zO (by simp [-lenA, c18, c19, HH1, HH12, ↓HH13, ↓hvst, u5, HH14]; rfl) ?_)
      simp only [zT, zB]
      exact ⟨(min W_.xs.length 6) - (k3 + 1), _, _, by omega, by simp [-lenA, c18, c19, HH1, HH12, ↓HH13, ↓hvst, u5, HH14] <;> first | exact ⟨rfl, rfl⟩ | rfl, k3 + 1, i3 + 1, by omega, rfl, by omega, .inr ⟨0, [(e0.tmod (mn : Int), 2 * e1 + e2.tmod 2, 2 * e1 + e2.tmod 2 + 1 + e3.tmod 60)], by omega, hnx3, rfl, rfl⟩⟩
     ·have hAt3 := of_decide_eq_true hA3
      have hx3 := of_decide_eq_false hlt3
      have hkE3 : k3 = (min W_.xs.length 6) := by omega
      have hwTe : k3 = min W_.xs.length 6 := hkE3
      refine runs_exit ?_
      simp only [zT, zB, if_true, if_false, reduceIte, Nat.reduceEqDiff, Nat.succ_ne_zero, Nat.one_ne_zero, Nat.zero_ne_one]
      have hT0 : wT W_ (min W_.xs.length 6) = [] := by rw [← hkE3, hkz3]; rfl
      rw [hT0, hkt, ← hac1]
      exact tail41 P T W_ ac1 [] cells y kn mn .nils none hM1 hM4 hK1 hK4 hmn hkn hacl1 ly hy bys crb ry c19 (fun n hn => rfl) (fun n hn => rfl) rfl rfl (fun a b c d l => rfl) _ _ _ _ _ _ _ _ _ _ _ _ _ _ _ _ _ _ _ _ _ _ _ _ _ _ _ _ _ _ _ _ _ _ _ _ _ _ _ _ _ _ _ _ _ _ _ _ _ _ _ _ _ _ _ _ _ _ _ _ _ _ _ _ _ _ _ _ _ _ _ _ _ _ _ _ _ _ _ _ _ _ _ _ _ _ _ _ _ _ _ _ _ _ _ _ _ _ _ _ _ _ _ _ _ _ _ _ _ _ _ _ _ _ _ _ _ _ _ _ _ _ _ _ _ _ _ _ _ _ _ _ _ _ _ _ _ _ _ _ _ _ _ _ _ _ _ _ _ _ _ _
   ·have tk3 : (ac3.map rS3).take (p3 + 1) = ac3.map rS3 := List.take_of_length_le (by simp [hacl3])
    have hlac3 : p3 + 1 + 1 ≤ 1048576 := by omega
    have hr33 : ∀ e : FStop, (rS3 e).length = 3 := fun _ => rfl
    have hfr3 := fun n h r => optAll_snoc (frN_rS3 n h ac3) r
    have hrj3 := fun n => rS3_rb n 4 ac3
    rcases hA3 : decide (i3 < (W_.xs.length : Int)) with _ | _
    ·have HH15 := zA tk3 (zA hlac3 (zA hacl3 (zA hr33 hA3)))
     refine zS ?_
     refine zS ?_
     refine zR (zO (by simp [-lenA, c18, c19, HH1, HH12, ↓HH13, ↓hfr3, ↓hrj3, HH15]; rfl) ?_)
     simp only [zT, zB]
     refine runs_cond (x := false) (by simp) ?_
     have hx3 := of_decide_eq_false hA3
     have hkE3 : k3 = (min W_.xs.length 6) := by omega
     rw [hkE3] at hac3
     have hwTe : k3 = min W_.xs.length 6 := hkE3
     refine runs_exit ?_
     simp only [zT, zB, if_true, if_false, reduceIte, Nat.reduceEqDiff, Nat.succ_ne_zero, Nat.one_ne_zero, Nat.zero_ne_one]
     have hTne : ac3 ≠ [] := by intro e; rw [e] at hacl3; simp at hacl3
     have hz3 : min W_.xs.length 6 = p3 + 1 := by omega
     rw [← hac3, hkt, ← hac1]
     exact tail41 P T W_ ac1 ac3 cells y kn mn (.sl 4 0 (p3 + 1) false) (some (.row 3 (ac3.map rS3))) hM1 hM4 hK1 hK4 hmn hkn hacl1 ly hy bys crb ry c19 (fun n hn => by simp; omega) (fun n hn => by rw [rbB_row]; exact rS3_rb n 4 ac3) rfl rfl (fun a b c d l => by rw [encN_ne hTne]; simp [tk3, hacl3, frz_mapT]) _ _ _ _ _ _ _ _ _ _ _ _ _ _ _ _ _ _ _ _ _ _ _ _ _ _ _ _ _ _ _ _ _ _ _ _ _ _ _ _ _ _ _ _ _ _ _ _ _ _ _ _ _ _ _ _ _ _ _ _ _ _ _ _ _ _ _ _ _ _ _ _ _ _ _ _ _ _ _ _ _ _ _ _ _ _ _ _ _ _ _ _ _ _ _ _ _ _ _ _ _ _ _ _ _ _ _ _ _ _ _ _ _ _ _ _ _ _ _ _ _ _ _ _ _ _ _ _ _ _ _ _ _ _ _ _ _ _ _ _ _ _ _ _ _ _ _ _ _ _ _ _
    ·have HH16 := zA tk3 (zA hlac3 (zA hacl3 (zA hr33 hA3)))
     refine zS ?_
     refine zS ?_
     refine zR (zO (by simp [-lenA, c18, c19, HH1, HH12, ↓HH13, ↓hfr3, ↓hrj3, HH16]; rfl) ?_)
     simp only [zT, zB]
     refine runs_cond_split (x := decide (i3 < 6)) (by simp) (fun hlt3 => ?_) (fun hlt3 => ?_)
     ·have hAt3 := of_decide_eq_true hA3
      have hltt3 := of_decide_eq_true hlt3
      have hk03 : k3 < (min W_.xs.length 6) := by omega
      have hi03 : 0 ≤ i3 := by omega
      have htn3 : i3.toNat = k3 := by omega
      have hwi3 : W .i64 (i3 + 1) = i3 + 1 := W_small (by omega)
      have hxl : k3 < W_.xs.length := by omega
      obtain ⟨tx, rfl⟩ := rowsV_get hx (k := k3) (by rw [List.length_map]; omega)
      have hvv := bxs _ (List.getElem_mem hxl)
      have hF3 : wT W_ (k3 + 1) = wT W_ k3 ++ [wStop W_ W_.xs[k3]] := take_map1 _ hxl
      generalize hV : W_.xs[k3] = v at *
      have hv0 : (rU v)[0]? = some (.int .u8 (v_ v 0)) := rU_get (by omega)
      have hv1 : (rU v)[1]? = some (.int .u8 (v_ v 1)) := rU_get (by omega)
      have hv2 : (rU v)[2]? = some (.int .u8 (v_ v 2)) := rU_get (by omega)
      have hv3 : (rU v)[3]? = some (.int .u8 (v_ v 3)) := rU_get (by omega)
      have q0 := fun (h : 0 < (rU v).length) => Option.some.inj ((List.getElem?_eq_getElem h).symm.trans hv0)
      have q1 := fun (h : 1 < (rU v).length) => Option.some.inj ((List.getElem?_eq_getElem h).symm.trans hv1)
      have q2 := fun (h : 2 < (rU v).length) => Option.some.inj ((List.getElem?_eq_getElem h).symm.trans hv2)
      have q3 := fun (h : 3 < (rU v).length) => Option.some.inj ((List.getElem?_eq_getElem h).symm.trans hv3)
      have hvl : (rU v).length = 4 := by rw [rU_len, hvv.1]
      have hvst := rU_stor v
      have hvc : cellsOf (.agg (rU v)) = some (rU v) := rfl
      have hvt : (rU v).take 4 = rU v := List.take_of_length_le (by omega)
      have hvd : (rU v).drop 4 = [] := List.drop_of_length_le (by omega)
      have b0 := mins_fit (k := 0) hvv.2
      have b1 := mins_fit (k := 1) hvv.2
      have b2 := mins_fit (k := 2) hvv.2
      have b3 := mins_fit (k := 3) hvv.2
      unfold wStop v_ at hF3
      unfold v_ at hv0 hv1 hv2 hv3 q0 q1 q2 q3
      generalize v.getD 0 0 = e0 at *
      generalize v.getD 1 0 = e1 at *
      generalize v.getD 2 0 = e2 at *
      generalize v.getD 3 0 = e3 at *
      obtain ⟨b01, b02⟩ := b0
      obtain ⟨b11, b12⟩ := b1
      obtain ⟨b21, b22⟩ := b2
      obtain ⟨b31, b32⟩ := b3
      have h21 : 0 ≤ e2.tmod 2 := Int.tmod_nonneg 2 b21
      have h22 : e2.tmod 2 < 2 := Int.tmod_lt_of_pos _ (by decide)
      have h31 : 0 ≤ e3.tmod 60 := Int.tmod_nonneg 60 b31
      have h32 : e3.tmod 60 < 60 := Int.tmod_lt_of_pos _ (by decide)
      rw [hmn] at hF3
      have h01 : 0 ≤ e0.tmod (mn : Int) := Int.tmod_nonneg _ b01
      have h02 : e0.tmod (mn : Int) < mn := Int.tmod_lt_of_pos _ (by omega)
      have hmz : ¬ mn = 0 := by omega
      have hmzi : ¬ (mn : Int) = 0 := by omega
      have hmzb : ((mn : Int) == 0) = false := by simp; omega
      have hmm1 : ¬ ((mn : Int) = -1) := by omega
      have u0 : W .i64 e0 = e0 := W_fit (by omega)
      have u1 : W .i64 e1 = e1 := W_fit (by omega)
      have u2 : W .i64 e2 = e2 := W_fit (by omega)
      have u3 : W .i64 e3 = e3 := W_fit (by omega)
      have u4 : W .i64 (2 * e1) = 2 * e1 := W_fit (by omega)
      have u5 : W .i64 (e2.tmod 2) = e2.tmod 2 := W_fit (by omega)
      have u6 : W .i64 (2 * e1 + e2.tmod 2) = 2 * e1 + e2.tmod 2 := W_fit (by omega)
      have u7 : W .i64 (e0.tmod (mn : Int)) = e0.tmod (mn : Int) := W_fit (by omega)
      have u8 : W .i64 (2 * e1 + e2.tmod 2 + 1) = 2 * e1 + e2.tmod 2 + 1 := W_fit (by omega)
      have u9 : W .i64 (e3.tmod 60) = e3.tmod 60 := W_fit (by omega)
      have u10 : W .i64 (2 * e1 + e2.tmod 2 + 1 + e3.tmod 60) = 2 * e1 + e2.tmod 2 + 1 + e3.tmod 60 := W_fit (by omega)
      have hnx3 : ac3 ++ [(e0.tmod (mn : Int), 2 * e1 + e2.tmod 2, 2 * e1 + e2.tmod 2 + 1 + e3.tmod 60)] = wT W_ (k3 + 1) := by rw [hF3, ← hac3]
      have hnl3 : (ac3 ++ [(e0.tmod (mn : Int), 2 * e1 + e2.tmod 2, 2 * e1 + e2.tmod 2 + 1 + e3.tmod 60)]).length = p3 + 1 + 1 := by simp [hacl3]
      have hap3 : ac3.map rS3 ++ [[I (e0.tmod (mn : Int)), I (2 * e1 + e2.tmod 2), I (2 * e1 + e2.tmod 2 + 1 + e3.tmod 60)]] = (ac3 ++ [(e0.tmod (mn : Int), 2 * e1 + e2.tmod 2, 2 * e1 + e2.tmod 2 + 1 + e3.tmod 60)]).map rS3 := by rw [List.map_append]; rfl
      generalize ac3 ++ [(e0.tmod (mn : Int), 2 * e1 + e2.tmod 2, 2 * e1 + e2.tmod 2 + 1 + e3.tmod 60)] = nx3 at *
      have hrx3 := fun n => rS3_rb n 4 nx3
      have HH17 := zA hi03 (zA htn3 (zA hk03 (zA hwi3 (zA hap3 (zA hxl (zA hV (zA hv0 (zA hv1 (zA hv2 (zA hv3 (zA q0 (zA q1 (zA q2 (zA q3 (zA hvl (zA hvc (zA hvt (zA hvd (zA hmz (zA hmzi (zA hmzb (zA hmm1 (zA u0 (zA u1 (zA u2 (zA u3 (zA u4 (zA u6 (zA u7 (zA u8 (zA u9 u10)))))))))))))))))))))))))))))))
      refine zK ?_
      simp only [zT, zB]
      refine zS ?_
      refine zL ?_
      refine zS ?_
      refine zR (zO (by simp [-lenA, c18, c19, HH1, HH12, ↓HH13, ↓hfr3, ↓hrj3, HH16, ↓hrx3, ↓hvst, u5, HH17]; rfl) ?_)
      simp only [zT, zB]
      refine zS ?_
      refine zR (zO (by simp [-lenA, c18, c19, HH1, HH12, ↓HH13, ↓hfr3, ↓hrj3, HH16, ↓hrx3, ↓hvst, u5, HH17]; rfl) ?_)
      simp only [zT, zB]
      refine runs_drw (by simp (maxSteps := 3000000) [-lenA, c18, c19, HH1, HH12, ↓HH13, ↓hfr3, ↓hrj3, HH16, ↓hrx3, ↓hvst, u5, HH17]; rfl) ?_
      simp only [zT, zB]
      refine zR (zO (by simp [-lenA, c18, c19, HH1, HH12, ↓HH13, ↓hfr3, ↓hrj3, HH16, ↓hrx3, ↓hvst, u5, HH17]; rfl) ?_)
      simp only [zT, zB]
      exact ⟨(min W_.xs.length 6) - (k3 + 1), _, _, by omega, by simp [-lenA, c18, c19, HH1, HH12, ↓HH13, ↓hfr3, ↓hrj3, HH16, ↓hrx3, ↓hvst, u5, HH17] <;> first | exact ⟨rfl, rfl⟩ | rfl, k3 + 1, i3 + 1, by omega, rfl, by omega, .inr ⟨p3 + 1, nx3, by omega, hnx3, hnl3, rfl⟩⟩
     ·have hAt3 := of_decide_eq_true hA3
      have hx3 := of_decide_eq_false hlt3
      have hkE3 : k3 = (min W_.xs.length 6) := by omega
      rw [hkE3] at hac3
      have hwTe : k3 = min W_.xs.length 6 := hkE3
      refine runs_exit ?_
      simp only [zT, zB, if_true, if_false, reduceIte, Nat.reduceEqDiff, Nat.succ_ne_zero, Nat.one_ne_zero, Nat.zero_ne_one]
      have hTne : ac3 ≠ [] := by intro e; rw [e] at hacl3; simp at hacl3
      have hz3 : min W_.xs.length 6 = p3 + 1 := by omega
      rw [← hac3, hkt, ← hac1]
      exact tail41 P T W_ ac1 ac3 cells y kn mn (.sl 4 0 (p3 + 1) false) (some (.row 3 (ac3.map rS3))) hM1 hM4 hK1 hK4 hmn hkn hacl1 ly hy bys crb ry c19 (fun n hn => by simp; omega) (fun n hn => by rw [rbB_row]; exact rS3_rb n 4 ac3) rfl rfl (fun a b c d l => by rw [encN_ne hTne]; simp [tk3, hacl3, frz_mapT]) _ _ _ _ _ _ _ _ _ _ _ _ _ _ _ _ _ _ _ _ _ _ _ _ _ _ _ _ _ _ _ _ _ _ _ _ _ _ _ _ _ _ _ _ _ _ _ _ _ _ _ _ _ _ _ _ _ _ _ _ _ _ _ _ _ _ _ _ _ _ _ _ _ _ _ _ _ _ _ _ _ _ _ _ _ _ _ _ _ _ _ _ _ _ _ _ _ _ _ _ _ _ _ _ _ _ _ _ _ _ _ _ _ _ _ _ _ _ _ _ _ _ _ _ _ _ _ _ _ _ _ _ _ _ _ _ _ _ _ _ _ _ _ _ _ _ _ _ _ _ _ _
end
end Go.Proofs.YtjjapdagllclkaaGreat.Tab
