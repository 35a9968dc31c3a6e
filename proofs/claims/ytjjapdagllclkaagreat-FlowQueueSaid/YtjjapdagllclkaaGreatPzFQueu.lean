/- What the row of times shares. No condition. -/
import Derived.Test.YtjjapdagllclkaaGreatPzEQueu
set_option linter.unusedSimpArgs false
set_option linter.unusedVariables false
namespace Go.Proofs.YtjjapdagllclkaaGreat.Tab
open Go Go.Abs Go.Proofs
set_option maxRecDepth 100000
set_option maxHeartbeats 4000000
set_option linter.unusedSimpArgs false
set_option linter.unusedVariables false
section
attribute [local simp] frz_int frz_bool frz_vl frz_pv frz_agg frz_tup frz_fn frz_ref frz_sl frz_nils optAll orcF rb_int rb_bool rb_agg rb_tup rb_int' rb_bool' rb_vl rb_pv rb_yld rb_nilf rb_nilp rb_nils rb_any rb_und rb_ref rb_sl rb_fn slE chunk fillA evParts evParts3 putAt List.range_succ List.range_zero List.range'_succ List.range'_zero runX_nil' unary_not evalS_pure evAll_nil evAll_cons runX_cons stepX wantedA dop CV.ev putK_eq setK_eq appK_eq fA_eq fI_eq fN_eq fRow_eq fRows_eq nth_eq Out.v putT List.replicate_succ zT zB arI pointee Abs.rowAt ldRow allV toV toC ofV ofC Builtin.min_ Builtin.min2 Builtin.max_ Builtin.max2 min_if max_if resA tupA kill trim_self trim_len trim_emp trim_nil lenA
attribute [local simp] runD_nil' runD_cons' stepD actK_eq actD clash disj masks holes maskH unmaskH diffs news eqB allB eqA ldRowN wrote toCs ofCs stA rowsV_vl rowsV_nils rowsOf dI1 dI2 dI3 dI5 elt
attribute [local simp] st_any st_und st_agg st_tup st_bool st_int st_nilp st_ref st_pv st_nils st_sl st_vl st_nilm st_mp st_fn st_nilf st_yld co_any co_und co_agg co_tup co_bool co_int co_nilp co_ref co_pv co_nils co_sl co_vl co_nilm co_mp co_fn co_nilf co_yld
attribute [local simp] Function.comp_def List.all_append List.all_map above backA backA1 callA calleeA flatAt flatBlk frNB_none frNB_row frN_agg frN_bool frN_int frN_nils frN_ref frN_sl frN_tup frN_vl frameE frzG gather getR lim lop loud lowA lowR norm okG posOf ptrs putG putR rbB_none rbB_row renA resG rowAt setH takeG
def cameF (js : List FJob) (S : List (List Int)) (k i : Nat) : Int := if k = 0 then (jobAt js i).ready else stAt S i (k - 1) + minAt (jobAt js i) (k - 1)
def evsN (js : List FJob) (S : List (List Int)) (k : Nat) : Nat → List FEv
  | 0 => []
  | i + 1 => evsN js S k i ++ if 0 < minAt (jobAt js i) k ∧ cameF js S k i < stAt S i k then [(cameF js S k i, 1), (stAt S i k, -1)] else []
def waitN (js : List FJob) (S : List (List Int)) : Nat → List Int
  | 0 => []
  | k + 1 => waitN js S k ++ [topE (esrt (evsN js S k js.length))]
theorem evsN_len (js : List FJob) (S : List (List Int)) (k : Nat) : ∀ i, (evsN js S k i).length ≤ 2 * i
  | 0 => Nat.le_refl _
  | i + 1 => by
    have := evsN_len js S k i
    simp only [evsN, List.length_append]
    split <;> simp <;> omega
theorem minAt_bd {s : FShop} {js : List FJob} (h : ShopOk s js) {i : Nat} (hi : i < js.length) (k : Nat) : 0 ≤ minAt (jobAt js i) k ∧ minAt (jobAt js i) k ≤ 2000 := by
  unfold minAt
  rw [jobAt_eq hi, List.getD_eq_getElem?_getD]
  cases e : js[i].mins[k]? with
  | none => simp
  | some x => exact (h.job _ (List.getElem_mem hi)).2.2.2.2 x (List.mem_of_getElem? e)
theorem stAt_bd {S : List (List Int)} (hS : ∀ l ∈ S, ∀ x ∈ l, 0 ≤ x ∧ x ≤ 160000) (i k : Nat) : 0 ≤ stAt S i k ∧ stAt S i k ≤ 160000 := by
  unfold stAt
  rw [List.getD_eq_getElem?_getD, List.getD_eq_getElem?_getD]
  cases e : S[i]? with
  | none => simp
  | some l =>
    simp only [Option.getD_some]
    cases e2 : l[k]? with
    | none => simp
    | some x => exact hS l (List.mem_of_getElem? e) x (List.mem_of_getElem? e2)
theorem cameF_bd {s : FShop} {js : List FJob} (h : ShopOk s js) {S : List (List Int)} (hS : ∀ l ∈ S, ∀ x ∈ l, 0 ≤ x ∧ x ≤ 160000) {i : Nat} (hi : i < js.length) (k : Nat) : 0 ≤ cameF js S k i ∧ cameF js S k i ≤ 165000 := by
  unfold cameF
  split
  · rw [jobAt_eq hi]; have := (h.job _ (List.getElem_mem hi)).2.1; omega
  · have := minAt_bd h hi (k - 1)
    have := stAt_bd hS i (k - 1)
    omega
theorem evsN_bd {s : FShop} {js : List FJob} (h : ShopOk s js) {S : List (List Int)} (hS : ∀ l ∈ S, ∀ x ∈ l, 0 ≤ x ∧ x ≤ 160000) (k : Nat) : ∀ i, i ≤ js.length → ∀ e ∈ evsN js S k i, (0 ≤ e.1 ∧ e.1 ≤ 165000) ∧ (e.2 = 1 ∨ e.2 = -1)
  | 0, _ => by simp [evsN]
  | i + 1, hi => by
    intro e he
    simp only [evsN, List.mem_append] at he
    rcases he with he | he
    · exact evsN_bd h hS k i (by omega) e he
    · split at he
      · have h1 := cameF_bd h hS (i := i) (by omega) k
        have h2 := stAt_bd hS i k
        simp only [List.mem_cons, List.not_mem_nil, or_false] at he
        rcases he with rfl | rfl
        · exact ⟨h1, .inl rfl⟩
        · exact ⟨⟨h2.1, by show stAt S i k ≤ _; omega⟩, .inr rfl⟩
      · simp at he
theorem topE_nil : topE (esrt []) = 0 := by simp [esrt, topE, topG]
def encW (xs : List Int) : AVal := match xs with | [] => .nils | x :: l => .vl ((x :: l).map rI) false
theorem encW_ne {xs : List Int} (h : xs ≠ []) : encW xs = .vl (xs.map rI) false := by cases xs with | nil => exact absurd rfl h | cons x l => rfl
theorem dInts_encW (xs : List Int) : dInts (encW xs) = some xs := by
  cases xs with
  | nil => rfl
  | cons x l => exact dInts_vl (x :: l) false
noncomputable def waitV (s : FShop) (js : List FJob) (os : List Int) : AVal := if ordE s js os = 0 then encW (waitN js (runF s js os).starts s.mach.toNat) else .nils
noncomputable def oWait : List AVal → Option AVal
  | [.agg [.int .i64 m, c, t], j, o] => match dInts2 c, dStops t, dJobs j, dInts o with
    | some cs, some ts, some js, some os => if sizeOk ⟨m, cs, ts⟩ js = true ∧ os.length ≤ 12 then some (.tup [waitV ⟨m, cs, ts⟩ js os, I (ordE ⟨m, cs, ts⟩ js os)]) else none
    | _, _, _, _ => none
  | _ => none
theorem wait_eq {s : FShop} {js : List FJob} {c t j o : AVal} {os : List Int} (hc : dInts2 c = some s.chg) (ht : dStops t = some s.stops) (hj : dJobs j = some js) (ho : dInts o = some os) (hz : SizeOk s js) (hl : os.length ≤ 12) : oWait [.agg [I s.mach, c, t], j, o] = some (.tup [waitV s js os, I (ordE s js os)]) := by
  simp only [oWait, hc, ht, hj, ho]
  rw [if_pos ⟨size_ok.2 hz, hl⟩]
theorem a20 (P : Program) (T : Nat → Option CFn) (hT : T 20 = some { c20 with body := annK [(51539608130, [.slot 6]), (1975684959810, [.slot 11])] [] c20.body }) (h61 : T 61 = some { c61 with frsh := false, orc := oOO }) (h62 : T 62 = some { c62 with frsh := false, orc := oRun }) (h65 : T 65 = some { c65 with frsh := false, orc := fun _ => none, eff := frameE sSortE }) (s : FShop) (js : List FJob) (c t j : AVal) (hc : dInts2 c = some s.chg) (ht : dStops t = some s.stops) (hj : dJobs j = some js) (o : AVal) (os : List Int) (ho : dInts o = some os) (hz : SizeOk s js ∧ os.length ≤ 12) : Answers P T 20 [.agg [I s.mach, c, t], j, o] [] fun v h => frz true h 5 v = some (.tup [waitV s js os, I (ordE s js os)]) := by
 have fc := fun H d => dInts2_frz hc H d
 have ft := fun H d => dStops_frz ht H d
 have fj := fun H d => dJobs_frz hj H d
 have rc := fun n d => dInts2_rb hc n d
 have rt := fun n d => dStops_rb ht n d
 have rj := fun n d => dJobs_rb hj n d
 have lc := dInts2_len hc
 have lt := dStops_len ht
 have lj := dJobs_len hj
 obtain ⟨cc1, cc2⟩ := dInts2_cells hc
 obtain ⟨ct1, ct2⟩ := dStops_cells ht
 obtain ⟨cj1, cj2⟩ := dJobs_cells hj
 have fo := fun H d => dInts_frz ho H d
 have ro := fun n d => dInts_rb ho n d
 have lo := dInts_len ho
 obtain ⟨co1, co2⟩ := dInts_cells ho
 obtain ⟨hz1, hz2⟩ := hz
 have hop := oo_eq hc ht hj ho hz1 hz2
 rw [ordE_eq] at hop
 by_cases h0 : ordE s js os = 0
 ·have h1 := ordE_ne h0
  have hg := ordE_run h0
  have hrun := run_eq hc ht hj ho hg
  have hsh := hg.1
  have hro := runF_ok hsh hg.2.len hg.2.at'
  have hn6 : js.length ≤ 6 := hsh.njob
  have hwv : waitV s js os = encW (waitN js (runF s js os).starts s.mach.toNat) := by unfold waitV; rw [if_pos h0]
  rw [hwv]
  obtain ⟨S, hSS⟩ : ∃ S, (runF s js os).starts = S := ⟨_, rfl⟩
  have hS160 : ∀ l ∈ S, ∀ x ∈ l, 0 ≤ x ∧ x ≤ 160000 := by rw [← hSS]; exact hro.st
  have hSl : S.length = js.length := by rw [← hSS]; exact hro.slen
  have hSok : ∀ l ∈ S, (l.length : Int) = s.mach := by
   have := (sts_ok (s := s) (js := js) (os := os) ⟨hsh, (ordE_ok h0).2⟩).row
   unfold stsF at this
   rw [hSS] at this
   exact fun l hl => (this l hl).1
  have hevb := fun k i hi => evsN_bd hsh hS160 k i hi
  have hevl := fun k i => evsN_len js S k i
  rw [hSS] at hrun ⊢
  have hs := dInts2_vl S true
  generalize (AVal.vl (S.map encS) true) = sv at *
  have fs := fun H d => dInts2_frz hs H d
  have rs5 := fun n d => dInts2_rb hs n d
  obtain ⟨cs1, cs2⟩ := dInts2_cells hs
  generalize (AVal.vl ((runF s js os).ends.map rI) true) = ev at *
  have hmach := hsh.mach
  obtain ⟨mn, hmn⟩ : ∃ mn : Nat, s.mach = mn := ⟨s.mach.toNat, by omega⟩
  have hmt : s.mach.toNat = mn := by omega
  rw [hmt]
  refine answers_of hT (orcF_none rfl) ?_
  simp only [oo, om, op, og, ci, cl, c20, annK, lkG, lkR, reduceIte, Nat.reduceEqDiff, reduceCtorEq, List.cons.injEq, and_true, and_false, false_and, true_and]
  have HH1 := zA h61 (zA h62 (zA h65 (zA fc (zA ft (zA fj (zA rc (zA rt (zA rj (zA lc (zA lt (zA lj (zA cc1 (zA cc2 (zA ct1 (zA ct2 (zA cj1 (zA cj2 (zA fo (zA ro (zA lo (zA co1 (zA co2 (zA hop (zA h0 (zA h1 (zA hrun (zA fs (zA rs5 (zA cs1 cs2)))))))))))))))))))))))))))))
  refine zS ?_
  refine zR (zO (by simp [zC h61, zC h62, callF_eff h65 rfl, ↓orc_nil, -lenA, HH1]; rfl) ?_)
  simp only [zT, zB]
  refine zS ?_
  refine zR (zO (by simp [zC h61, zC h62, callF_eff h65 rfl, ↓orc_nil, -lenA, HH1]; rfl) ?_)
  simp only [zT, zB]
  refine zS ?_
  refine zS ?_
  refine zR (zO (by simp [zC h61, zC h62, callF_eff h65 rfl, ↓orc_nil, -lenA, HH1]; rfl) ?_)
  simp only [zT, zB]
  refine runs_cond (x := false) (by simp) ?_
  refine zK ?_
  simp only [zT, zB]
  refine zS ?_
  refine zR (zO (by simp [zC h61, zC h62, callF_eff h65 rfl, ↓orc_nil, -lenA, HH1]; rfl) ?_)
  simp only [zT, zB]
  refine zS ?_
  refine zS ?_
  refine zR (zO (by simp [zC h61, zC h62, callF_eff h65 rfl, ↓orc_nil, -lenA, HH1]; rfl) ?_)
  simp only [zT, zB]
  refine zL ?_
  refine runs_loopG_inv (fun mm1 σ => ∃ (k1 : Nat) (i1 : Int), i1 = k1 ∧ mn - k1 = mm1 ∧ k1 ≤ mn ∧ ((k1 = 0 ∧ σ = ⟨[.any, j, .any, .any, .any, .any, .nils, .any, .any, sv, .any, .any, .any, .any, .any, .any, .any, .any, .any, .any, .any, .any, .any, .any, .any, .any, .any, .any, .any, .any, .any, .any, .any, .any, I s.mach, I i1, .any, .any, .any, .any, .any, .any, .any, .any, .any, .any, .any, .any, .any, .any, .any, .any, .any, .any, .any, .any, .any, .any, .any, .any, .any, .any, .any, .any, .any, .any, .any, .any, .any, .any, .any, .any, .any, .any, .any, .any, .any, .any, .any, .any, .any, .any, .any, .any, .any, .any, .any, .any, .any, .any, .any, .any, .any, .any, .any, .any, .any, .any, .any, .any, .any, .any, .any, .any, .any, .any, .any, .any, .any, .any, .any, .any, .any, .any, .any, .any, .any], [some (.row 3 [[I s.mach, c, t]]), some (.row 4 [[I s.mach, c, t, j]]), none]⟩) ∨ (∃ (p1 : Nat) (ac1 : List (Int)), k1 = p1 + 1 ∧ ac1 = (waitN js S (k1)) ∧ ac1.length = p1 + 1 ∧ σ = ⟨[.any, j, .any, .any, .any, .any, .sl 2 0 (p1 + 1) false, .any, .any, sv, .any, .any, .any, .any, .any, .any, .any, .any, .any, .any, .any, .any, .any, .any, .any, .any, .any, .any, .any, .any, .any, .any, .any, .any, I s.mach, I i1, .any, .any, .any, .any, .any, .any, .any, .any, .any, .any, .any, .any, .any, .any, .any, .any, .any, .any, .any, .any, .any, .any, .any, .any, .any, .any, .any, .any, .any, .any, .any, .any, .any, .any, .any, .any, .any, .any, .any, .any, .any, .any, .any, .any, .any, .any, .any, .any, .any, .any, .any, .any, .any, .any, .any, .any, .any, .any, .any, .any, .any, .any, .any, .any, .any, .any, .any, .any, .any, .any, .any, .any, .any, .any, .any, .any, .any, .any, .any, .any, .any], [some (.row 3 [[I s.mach, c, t]]), some (.row 4 [[I s.mach, c, t, j]]), some (.row 1 (ac1.map rI))]⟩))) (by simp [zC h61, zC h62, callF_eff h65 rfl, ↓orc_nil, -lenA, HH1] <;> first | exact ⟨rfl, rfl⟩ | rfl) (⟨0, 0, rfl, rfl, Nat.zero_le _, .inl ⟨rfl, rfl⟩⟩) ?_
  rintro mm1 σ ⟨k1, i1, hik1, rfl, hkl1, ⟨hkz1, rfl⟩ | ⟨p1, ac1, hkp1, hac1, hacl1, rfl⟩⟩
  ·refine zS ?_
   refine zR (zO (by simp [zC h61, zC h62, callF_eff h65 rfl, ↓orc_nil, -lenA, HH1]; rfl) ?_)
   simp only [zT, zB]
   refine zS ?_
   refine runs_cond_split (x := _) rfl (fun hlt1 => ?_) (fun hlt1 => ?_)
   ·have hltt1 := of_decide_eq_true hlt1
    have hk01 : k1 < mn := by omega
    have hi01 : 0 ≤ i1 := by omega
    have htn1 : i1.toNat = k1 := by omega
    have hwi1 : W .i64 (i1 + 1) = i1 + 1 := W_small (by omega)
    have hk1m : (k1 : Int) < s.mach := by omega
    have hF1 : waitN js S (k1 + 1) = waitN js S k1 ++ [topE (esrt (evsN js S k1 js.length))] := rfl
    refine zK ?_
    simp only [zT, zB]
    refine zS ?_
    refine zL ?_
    refine zS ?_
    refine zR (zO (by simp [zC h61, zC h62, callF_eff h65 rfl, ↓orc_nil, -lenA, HH1, hi01, htn1, hk01, hwi1]; rfl) ?_)
    simp only [zT, zB]
    refine zS ?_
    refine zR (zO (by simp [zC h61, zC h62, callF_eff h65 rfl, ↓orc_nil, -lenA, HH1, hi01, htn1, hk01, hwi1]; rfl) ?_)
    simp only [zT, zB]
    refine zS ?_
    refine zS ?_
    refine zR (zO (by simp [zC h61, zC h62, callF_eff h65 rfl, ↓orc_nil, -lenA, HH1, hi01, htn1, hk01, hwi1]; rfl) ?_)
    simp only [zT, zB]
    refine zL ?_
    refine runs_loopG_inv (fun m2 σ => ∃ (i : Nat) (g : Int), g = i ∧ js.length - i = m2 ∧ i ≤ js.length ∧ ((evsN js S k1 i = [] ∧ σ = ⟨[.any, j, .any, .any, .any, .any, .nils, .any, .any, sv, I i1, .nils, .any, .any, .any, .any, .any, .any, .any, .any, .any, .any, .any, .any, .any, .any, .any, .any, .any, .any, .any, .any, .any, .any, I s.mach, I i1, .any, .any, j, I js.length, I g, .any, .any, .any, .any, .any, .any, .any, .any, .any, .any, .any, .any, .any, .any, .any, .any, .any, .any, .any, .any, .any, .any, .any, .any, .any, .any, .any, .any, .any, .any, .any, .any, .any, .any, .any, .any, .any, .any, .any, .any, .any, .any, .any, .any, .any, .any, .any, .any, .any, .any, .any, .any, .any, .any, .any, .any, .any, .any, .any, .any, .any, .any, .any, .any, .any, .any, .any, .any, .any, .any, .any, .any, .any, .any, .any, .any], [some (.row 3 [[I s.mach, c, t]]), some (.row 4 [[I s.mach, c, t, j]]), none, none]⟩) ∨ (∃ (q : Nat) (ev1 : List FEv), ev1 = evsN js S k1 i ∧ ev1.length = q + 1 ∧ σ = ⟨[.any, j, .any, .any, .any, .any, .nils, .any, .any, sv, I i1, .sl 3 0 (q + 1) false, .any, .any, .any, .any, .any, .any, .any, .any, .any, .any, .any, .any, .any, .any, .any, .any, .any, .any, .any, .any, .any, .any, I s.mach, I i1, .any, .any, j, I js.length, I g, .any, .any, .any, .any, .any, .any, .any, .any, .any, .any, .any, .any, .any, .any, .any, .any, .any, .any, .any, .any, .any, .any, .any, .any, .any, .any, .any, .any, .any, .any, .any, .any, .any, .any, .any, .any, .any, .any, .any, .any, .any, .any, .any, .any, .any, .any, .any, .any, .any, .any, .any, .any, .any, .any, .any, .any, .any, .any, .any, .any, .any, .any, .any, .any, .any, .any, .any, .any, .any, .any, .any, .any, .any, .any, .any, .any], [some (.row 3 [[I s.mach, c, t]]), some (.row 4 [[I s.mach, c, t, j]]), none, some (.row 2 (ev1.map rE2))]⟩))) (by simp [zC h61, zC h62, callF_eff h65 rfl, ↓orc_nil, -lenA, HH1, hi01, htn1, hk01, hwi1] <;> first | exact ⟨rfl, rfl⟩ | rfl) (⟨0, 0, rfl, rfl, Nat.zero_le _, .inl ⟨rfl, rfl⟩⟩) ?_
    rintro m2 σ ⟨i, g, hgi, rfl, hil, ⟨hev1, rfl⟩ | ⟨q, ev1, hev1, hel, rfl⟩⟩
    ·refine zS ?_
     refine zR (zO (by simp [zC h61, zC h62, callF_eff h65 rfl, ↓orc_nil, -lenA, HH1, hi01, htn1, hk01, hwi1]; rfl) ?_)
     simp only [zT, zB]
     refine zS ?_
     refine runs_cond_split (x := decide (g < (js.length : Int))) (by simp) (fun hlt2 => ?_) (fun hlt2 => ?_)
     ·have hltt := of_decide_eq_true hlt2
      have hk0 : i < js.length := by omega
      have hks : i < S.length := by omega
      have hg0 : 0 ≤ g := by omega
      have hgn : g.toNat = i := by omega
      have hwg : W .i64 (g + 1) = g + 1 := W_small (by omega)
      have hjb := hsh.job _ (List.getElem_mem hk0)
      have hrow := hSok _ (List.getElem_mem hks)
      have hJ := jobAt_eq hk0
      have hc1 := cameF_bd hsh hS160 hk0 k1
      have hs1' := stAt_bd hS160 i k1
      have hevs : evsN js S k1 (i + 1) = evsN js S k1 i ++ if 0 < minAt (jobAt js i) k1 ∧ cameF js S k1 i < stAt S i k1 then [(cameF js S k1 i, 1), (stAt S i k1, -1)] else [] := rfl
      have hkj : k1 < js[i].mins.length := by have := hjb.2.2.2.1; omega
      have hkS : k1 < S[i].length := by omega
      have hi1j : i1 < (js[i].mins.length : Int) := by omega
      have hi1S : i1 < (S[i].length : Int) := by omega
      obtain ⟨jr, tj, wv, rfl, hr1, hr2, hwv⟩ := dJobs_get hj hk0
      have hkr : i < jr.length := by omega
      have hr4 : ∀ h, jr[i]'h = [I js[i].kind, I js[i].ready, I js[i].due, wv] := fun h => by rw [List.getElem?_eq_getElem h] at hr2; exact Option.some.inj hr2
      have rw5 := fun n d => dInts_rb hwv n d
      have fw5 := fun H d => dInts_frz hwv H d
      have lw5 := dInts_len hwv
      obtain ⟨cw1, cw2⟩ := dInts_cells hwv
      obtain ⟨sr, tt, wt, rfl, hs1, hs2, hwt⟩ := dInts2_get hs hks
      have hksr : i < sr.length := by omega
      have hs4 : ∀ h, sr[i]'h = [wt] := fun h => by rw [List.getElem?_eq_getElem h] at hs2; exact Option.some.inj hs2
      have rt5 := fun n d => dInts_rb hwt n d
      have ft5 := fun H d => dInts_frz hwt H d
      have lt5 := dInts_len hwt
      obtain ⟨ctw1, ctw2⟩ := dInts_cells hwt
      obtain ⟨tw, rfl⟩ := dInts_get hwv hkj
      obtain ⟨tz, rfl⟩ := dInts_get hwt hkS
      rw [hJ, minAt_eq hkj, stAt_eq hks hkS] at hevs
      rw [stAt_eq hks hkS] at hs1'
      have hVb := hjb.2.2.2.2 _ (List.getElem_mem hkj)
      generalize hV : js[i].mins[k1] = V at *
      generalize hT : S[i][k1] = T1 at *
      generalize hFr : cameF js S k1 i = F0 at *
      by_cases hkz : k1 = 0
      ·have hF0 : js[i].ready = F0 := by rw [← hFr]; unfold cameF; rw [if_pos hkz, hJ]
       have hi1z : i1 = 0 := by omega
       have hd0 : decide (0 < i1) = false := by simp; omega
       have HH2 := zA hi01 (zA htn1 (zA hk01 (zA hwi1 (zA hg0 (zA hgn (zA hk0 (zA hks (zA hwg (zA hkj (zA hkS (zA hi1j (zA hi1S (zA hV (zA hT (zA hkr (zA hr2 (zA hr4 (zA rw5 (zA fw5 (zA lw5 (zA cw1 (zA cw2 (zA hksr (zA hs2 (zA hs4 (zA rt5 (zA ft5 (zA lt5 (zA ctw1 (zA ctw2 (zA hF0 hd0)))))))))))))))))))))))))))))))
       refine zK ?_
       simp only [zT, zB]
       refine zS ?_
       refine zL ?_
       refine zS ?_
       refine zR (zO (by simp [zC h61, zC h62, callF_eff h65 rfl, ↓orc_nil, -lenA, HH1, zI, HH2]; rfl) ?_)
       simp only [zT, zB]
       refine zS ?_
       refine zR (zO (by simp [zC h61, zC h62, callF_eff h65 rfl, ↓orc_nil, -lenA, HH1, zI, HH2]; rfl) ?_)
       simp only [zT, zB]
       refine zS ?_
       refine zS ?_
       refine zR (zO (by simp [zC h61, zC h62, callF_eff h65 rfl, ↓orc_nil, -lenA, HH1, zI, HH2]; rfl) ?_)
       simp only [zT, zB]
       refine runs_cond (x := false) (by simp [hd0]) ?_
       refine zK ?_
       simp only [zT, zB]
       refine zS ?_
       rcases hA : decide (0 < V) with _ | _
       ·refine zR (zO (by simp [zC h61, zC h62, callF_eff h65 rfl, ↓orc_nil, -lenA, HH1, zI, HH2, hA]; rfl) ?_)
        simp only [zT, zB]
        refine runs_cond (x := false) (by simp) ?_
        rw [if_neg (fun h => of_decide_eq_false hA h.1), List.append_nil] at hevs
        refine zK ?_
        simp only [zT, zB]
        refine zR (zO (by simp [zC h61, zC h62, callF_eff h65 rfl, ↓orc_nil, -lenA, HH1, zI, HH2, hA]; rfl) ?_)
        simp only [zT, zB]
        exact ⟨js.length - (i + 1), _, _, by omega, by simp [zC h61, zC h62, callF_eff h65 rfl, ↓orc_nil, -lenA, HH1, zI, HH2, hA] <;> first | exact ⟨rfl, rfl⟩ | rfl, i + 1, g + 1, by omega, rfl, by omega, .inl ⟨by rw [hevs]; exact hev1, rfl⟩⟩
       ·refine zR (zO (by simp [zC h61, zC h62, callF_eff h65 rfl, ↓orc_nil, -lenA, HH1, zI, HH2, hA]; rfl) ?_)
        simp only [zT, zB]
        refine runs_cond_split (x := decide (F0 < T1)) (by simp) (fun hq => ?_) (fun hq => ?_)
        ·rw [if_pos ⟨of_decide_eq_true hA, of_decide_eq_true hq⟩] at hevs
         rw [hev1, List.nil_append] at hevs
         have hap : [[I F0, I 1], [I T1, I (-1)]] = [(F0, 1), (T1, -1)].map rE2 := rfl
         refine zR (zO (by simp [zC h61, zC h62, callF_eff h65 rfl, ↓orc_nil, -lenA, HH1, zI, HH2, hA, rE2]; rfl) ?_)
         simp only [zT, zB]
         refine zR (zO (by simp [zC h61, zC h62, callF_eff h65 rfl, ↓orc_nil, -lenA, HH1, zI, HH2, hA, rE2]; rfl) ?_)
         simp only [zT, zB]
         exact ⟨js.length - (i + 1), _, _, by omega, by simp [zC h61, zC h62, callF_eff h65 rfl, ↓orc_nil, -lenA, HH1, zI, HH2, hA, rE2] <;> first | exact ⟨rfl, rfl⟩ | rfl, i + 1, g + 1, by omega, rfl, by omega, .inr ⟨1, [(F0, 1), (T1, -1)], hevs.symm, rfl, rfl⟩⟩
        ·rw [if_neg (fun h => of_decide_eq_false hq h.2), List.append_nil] at hevs
         refine zK ?_
         simp only [zT, zB]
         refine zR (zO (by simp [zC h61, zC h62, callF_eff h65 rfl, ↓orc_nil, -lenA, HH1, zI, HH2, hA]; rfl) ?_)
         simp only [zT, zB]
         exact ⟨js.length - (i + 1), _, _, by omega, by simp [zC h61, zC h62, callF_eff h65 rfl, ↓orc_nil, -lenA, HH1, zI, HH2, hA] <;> first | exact ⟨rfl, rfl⟩ | rfl, i + 1, g + 1, by omega, rfl, by omega, .inl ⟨by rw [hevs]; exact hev1, rfl⟩⟩
      ·have hkp : k1 - 1 < js[i].mins.length := by omega
       have hkq : k1 - 1 < S[i].length := by omega
       have hwk : W .i64 (i1 - 1) = i1 - 1 := W_small (by omega)
       have hi1p : 0 ≤ i1 - 1 := by omega
       have hi1q : 1 ≤ i1 := by omega
       have hi1t : (i1 - 1).toNat = k1 - 1 := by omega
       have hi1a : i1 - 1 < (js[i].mins.length : Int) := by omega
       have hi1b : i1 - 1 < (S[i].length : Int) := by omega
       have hp1 := hjb.2.2.2.2 _ (List.getElem_mem hkp)
       have hp2 := hS160 _ (List.getElem_mem hks) _ (List.getElem_mem hkq)
       have hF0 : S[i][k1 - 1] + js[i].mins[k1 - 1] = F0 := by rw [← hFr]; unfold cameF; rw [if_neg hkz, hJ, stAt_eq hks hkq, minAt_eq hkp]
       have hd0 : decide (0 < i1) = true := by simp; omega
       generalize hY1 : js[i].mins[k1 - 1] = Y1 at *
       generalize hY2 : S[i][k1 - 1] = Y2 at *
       have hwF : W .i64 (Y2 + Y1) = Y2 + Y1 := W_fit (by omega)
       have hwF2 : W .i64 F0 = F0 := W_fit (by omega)
       have HH3 := zA hi01 (zA htn1 (zA hk01 (zA hwi1 (zA hg0 (zA hgn (zA hk0 (zA hks (zA hwg (zA hkj (zA hkS (zA hi1j (zA hi1S (zA hV (zA hT (zA hkr (zA hr2 (zA hr4 (zA rw5 (zA fw5 (zA lw5 (zA cw1 (zA cw2 (zA hksr (zA hs2 (zA hs4 (zA rt5 (zA ft5 (zA lt5 (zA ctw1 (zA ctw2 (zA hd0 (zA hkp (zA hkq (zA hwk (zA hi1p (zA hi1q (zA hi1t (zA hi1a (zA hi1b (zA hY1 (zA hY2 (zA hF0 hwF2))))))))))))))))))))))))))))))))))))))))))
       refine zK ?_
       simp only [zT, zB]
       refine zS ?_
       refine zL ?_
       refine zS ?_
       refine zR (zO (by simp [zC h61, zC h62, callF_eff h65 rfl, ↓orc_nil, -lenA, HH1, zI, HH3]; rfl) ?_)
       simp only [zT, zB]
       refine zS ?_
       refine zR (zO (by simp [zC h61, zC h62, callF_eff h65 rfl, ↓orc_nil, -lenA, HH1, zI, HH3]; rfl) ?_)
       simp only [zT, zB]
       refine zS ?_
       refine zS ?_
       refine zR (zO (by simp [zC h61, zC h62, callF_eff h65 rfl, ↓orc_nil, -lenA, HH1, zI, HH3]; rfl) ?_)
       simp only [zT, zB]
       refine runs_cond (x := true) (by simp [hd0]) ?_
       refine runs_drw (by simp (maxSteps := 3000000) [zC h61, zC h62, callF_eff h65 rfl, ↓orc_nil, -lenA, HH1, zI, HH3]; rfl) ?_
       simp only [zT, zB]
       refine zS ?_
       rcases hA : decide (0 < V) with _ | _
       ·refine zR (zO (by simp [zC h61, zC h62, callF_eff h65 rfl, ↓orc_nil, -lenA, HH1, zI, HH3, hA]; rfl) ?_)
        simp only [zT, zB]
        refine runs_cond (x := false) (by simp) ?_
        rw [if_neg (fun h => of_decide_eq_false hA h.1), List.append_nil] at hevs
        refine zK ?_
        simp only [zT, zB]
        refine zR (zO (by simp [zC h61, zC h62, callF_eff h65 rfl, ↓orc_nil, -lenA, HH1, zI, HH3, hA]; rfl) ?_)
        simp only [zT, zB]
        exact ⟨js.length - (i + 1), _, _, by omega, by simp [zC h61, zC h62, callF_eff h65 rfl, ↓orc_nil, -lenA, HH1, zI, HH3, hA] <;> first | exact ⟨rfl, rfl⟩ | rfl, i + 1, g + 1, by omega, rfl, by omega, .inl ⟨by rw [hevs]; exact hev1, rfl⟩⟩
       ·refine zR (zO (by simp [zC h61, zC h62, callF_eff h65 rfl, ↓orc_nil, -lenA, HH1, zI, HH3, hA]; rfl) ?_)
        simp only [zT, zB]
        refine runs_cond_split (x := decide (F0 < T1)) (by simp) (fun hq => ?_) (fun hq => ?_)
        ·rw [if_pos ⟨of_decide_eq_true hA, of_decide_eq_true hq⟩] at hevs
         rw [hev1, List.nil_append] at hevs
         have hap : [[I F0, I 1], [I T1, I (-1)]] = [(F0, 1), (T1, -1)].map rE2 := rfl
         refine zR (zO (by simp [zC h61, zC h62, callF_eff h65 rfl, ↓orc_nil, -lenA, HH1, zI, HH3, hA, rE2]; rfl) ?_)
         simp only [zT, zB]
         refine zR (zO (by simp [zC h61, zC h62, callF_eff h65 rfl, ↓orc_nil, -lenA, HH1, zI, HH3, hA, rE2]; rfl) ?_)
         simp only [zT, zB]
         exact ⟨js.length - (i + 1), _, _, by omega, by simp [zC h61, zC h62, callF_eff h65 rfl, ↓orc_nil, -lenA, HH1, zI, HH3, hA, rE2] <;> first | exact ⟨rfl, rfl⟩ | rfl, i + 1, g + 1, by omega, rfl, by omega, .inr ⟨1, [(F0, 1), (T1, -1)], hevs.symm, rfl, rfl⟩⟩
        ·rw [if_neg (fun h => of_decide_eq_false hq h.2), List.append_nil] at hevs
         refine zK ?_
         simp only [zT, zB]
         refine zR (zO (by simp [zC h61, zC h62, callF_eff h65 rfl, ↓orc_nil, -lenA, HH1, zI, HH3, hA]; rfl) ?_)
         simp only [zT, zB]
         exact ⟨js.length - (i + 1), _, _, by omega, by simp [zC h61, zC h62, callF_eff h65 rfl, ↓orc_nil, -lenA, HH1, zI, HH3, hA] <;> first | exact ⟨rfl, rfl⟩ | rfl, i + 1, g + 1, by omega, rfl, by omega, .inl ⟨by rw [hevs]; exact hev1, rfl⟩⟩
     ·have hltt := of_decide_eq_false hlt2
      have hiE : i = js.length := by omega
      subst hiE
      rw [hev1, topE_nil] at hF1
      have hsq := sortE_nil
      have HH4 := zA hi01 (zA htn1 (zA hk01 (zA hwi1 hsq)))
      refine runs_exit ?_
      simp only [zT, zB, if_true, if_false, reduceIte, Nat.reduceEqDiff, Nat.succ_ne_zero, Nat.one_ne_zero, Nat.zero_ne_one]
      refine zS ?_
      refine zR (zO (by simp [zC h61, zC h62, callF_eff h65 rfl, ↓orc_nil, -lenA, HH1, HH4]; rfl) ?_)
      simp only [zT, zB]
      refine zS ?_
      refine zR (zO (by simp [zC h61, zC h62, callF_eff h65 rfl, ↓orc_nil, -lenA, HH1, HH4]; rfl) ?_)
      simp only [zT, zB]
      refine zS ?_
      refine zS ?_
      refine zR (zO (by simp [zC h61, zC h62, callF_eff h65 rfl, ↓orc_nil, -lenA, HH1, HH4]; rfl) ?_)
      simp only [zT, zB]
      refine zL ?_
      refine runs_loop_inv (fun m σ => σ = ⟨[.any, j, .any, .any, .any, .any, .nils, .any, .any, sv, .any, .any, .any, .any, .any, I 0, I 0, .any, .any, .any, .any, .any, .any, .any, .any, .any, .any, .any, .any, .any, .any, .any, .any, .any, I s.mach, I i1, .any, .any, .any, .any, .any, .any, .any, .any, .any, .any, .any, .any, .any, .any, .any, .any, .any, .any, .any, .any, .any, .any, .any, .any, .any, .any, .any, .any, .any, .any, .any, .any, .any, .any, .any, .any, .any, .any, .any, .any, .any, .any, .any, .any, .any, .any, .any, .any, .any, .any, .any, .any, .any, .any, .any, .any, .any, .any, .any, .any, .any, .nils, I 0, I 0, .any, .any, .any, .any, .any, .any, .any, .any, .any, .any, .any, .any, .any, .any, .any, .any, .any], [some (.row 3 [[I s.mach, c, t]]), some (.row 4 [[I s.mach, c, t, j]]), none, none]⟩) ?_ 0 _ (by simp)
      rintro m3 σ rfl
      refine zS ?_
      refine zR (zO (by simp [zC h61, zC h62, callF_eff h65 rfl, ↓orc_nil, -lenA, HH1, HH4]; rfl) ?_)
      simp only [zT, zB]
      refine zS ?_
      refine runs_cond (x := false) (by simp) ?_
      have hnx1 : [0] = (waitN js S (k1 + 1)) := by rw [hF1, hkz1]; rfl
      have hap1 : [[I 0]] = [0].map rI := rfl
      refine runs_exit ?_
      simp only [zT, zB, if_true, if_false, reduceIte, Nat.reduceEqDiff, Nat.succ_ne_zero, Nat.one_ne_zero, Nat.zero_ne_one]
      refine zR (zO (by simp [zC h61, zC h62, callF_eff h65 rfl, ↓orc_nil, -lenA, HH1, HH4]; rfl) ?_)
      simp only [zT, zB]
      refine zR (zO (by simp [zC h61, zC h62, callF_eff h65 rfl, ↓orc_nil, -lenA, HH1, HH4]; rfl) ?_)
      simp only [zT, zB]
      exact ⟨mn - (k1 + 1), _, _, by omega, by simp [zC h61, zC h62, callF_eff h65 rfl, ↓orc_nil, -lenA, HH1, HH4] <;> first | exact ⟨rfl, rfl⟩ | rfl, k1 + 1, i1 + 1, by omega, rfl, by omega, .inr ⟨0, [0], by omega, hnx1, rfl, rfl⟩⟩
    ·have tkE : (ev1.map rE2).take (q + 1) = ev1.map rE2 := List.take_of_length_le (by simp [hel])
     have hle1 := hevl k1 i
     rw [← hev1] at hle1
     have hlq : q + 1 + 2 ≤ 1048576 := by omega
     have hrj := fun n => rE2_rb n 4 ev1
     have hr3 : ∀ e : FEv, (rE2 e).length = 2 := fun _ => rfl
     have hfrE := fun n h => frN_mapE n h 4 ev1
     have HH5 := zA hi01 (zA htn1 (zA hk01 (zA hwi1 (zA tkE (zA hlq (zA hel hr3))))))
     refine zS ?_
     refine zR (zO (by simp [zC h61, zC h62, callF_eff h65 rfl, ↓orc_nil, -lenA, HH1, ↓hrj, HH5]; rfl) ?_)
     simp only [zT, zB]
     refine zS ?_
     refine runs_cond_split (x := decide (g < (js.length : Int))) (by simp) (fun hlt2 => ?_) (fun hlt2 => ?_)
     ·have hltt := of_decide_eq_true hlt2
      have hk0 : i < js.length := by omega
      have hks : i < S.length := by omega
      have hg0 : 0 ≤ g := by omega
      have hgn : g.toNat = i := by omega
      have hwg : W .i64 (g + 1) = g + 1 := W_small (by omega)
      have hjb := hsh.job _ (List.getElem_mem hk0)
      have hrow := hSok _ (List.getElem_mem hks)
      have hJ := jobAt_eq hk0
      have hc1 := cameF_bd hsh hS160 hk0 k1
      have hs1' := stAt_bd hS160 i k1
      have hevs : evsN js S k1 (i + 1) = evsN js S k1 i ++ if 0 < minAt (jobAt js i) k1 ∧ cameF js S k1 i < stAt S i k1 then [(cameF js S k1 i, 1), (stAt S i k1, -1)] else [] := rfl
      have hkj : k1 < js[i].mins.length := by have := hjb.2.2.2.1; omega
      have hkS : k1 < S[i].length := by omega
      have hi1j : i1 < (js[i].mins.length : Int) := by omega
      have hi1S : i1 < (S[i].length : Int) := by omega
      obtain ⟨jr, tj, wv, rfl, hr1, hr2, hwv⟩ := dJobs_get hj hk0
      have hkr : i < jr.length := by omega
      have hr4 : ∀ h, jr[i]'h = [I js[i].kind, I js[i].ready, I js[i].due, wv] := fun h => by rw [List.getElem?_eq_getElem h] at hr2; exact Option.some.inj hr2
      have rw5 := fun n d => dInts_rb hwv n d
      have fw5 := fun H d => dInts_frz hwv H d
      have lw5 := dInts_len hwv
      obtain ⟨cw1, cw2⟩ := dInts_cells hwv
      obtain ⟨sr, tt, wt, rfl, hs1, hs2, hwt⟩ := dInts2_get hs hks
      have hksr : i < sr.length := by omega
      have hs4 : ∀ h, sr[i]'h = [wt] := fun h => by rw [List.getElem?_eq_getElem h] at hs2; exact Option.some.inj hs2
      have rt5 := fun n d => dInts_rb hwt n d
      have ft5 := fun H d => dInts_frz hwt H d
      have lt5 := dInts_len hwt
      obtain ⟨ctw1, ctw2⟩ := dInts_cells hwt
      obtain ⟨tw, rfl⟩ := dInts_get hwv hkj
      obtain ⟨tz, rfl⟩ := dInts_get hwt hkS
      rw [hJ, minAt_eq hkj, stAt_eq hks hkS] at hevs
      rw [stAt_eq hks hkS] at hs1'
      have hVb := hjb.2.2.2.2 _ (List.getElem_mem hkj)
      generalize hV : js[i].mins[k1] = V at *
      generalize hT : S[i][k1] = T1 at *
      generalize hFr : cameF js S k1 i = F0 at *
      by_cases hkz : k1 = 0
      ·have hF0 : js[i].ready = F0 := by rw [← hFr]; unfold cameF; rw [if_pos hkz, hJ]
       have hi1z : i1 = 0 := by omega
       have hd0 : decide (0 < i1) = false := by simp; omega
       have HH6 := zA hg0 (zA hgn (zA hk0 (zA hks (zA hwg (zA hkj (zA hkS (zA hi1j (zA hi1S (zA hV (zA hT (zA hkr (zA hr2 (zA hr4 (zA rw5 (zA fw5 (zA lw5 (zA cw1 (zA cw2 (zA hksr (zA hs2 (zA hs4 (zA rt5 (zA ft5 (zA lt5 (zA ctw1 (zA ctw2 (zA hF0 hd0)))))))))))))))))))))))))))
       refine zK ?_
       simp only [zT, zB]
       refine zS ?_
       refine zL ?_
       refine zS ?_
       refine zR (zO (by simp [zC h61, zC h62, callF_eff h65 rfl, ↓orc_nil, -lenA, HH1, ↓hrj, HH5, zI, HH6]; rfl) ?_)
       simp only [zT, zB]
       refine zS ?_
       refine zR (zO (by simp [zC h61, zC h62, callF_eff h65 rfl, ↓orc_nil, -lenA, HH1, ↓hrj, HH5, zI, HH6]; rfl) ?_)
       simp only [zT, zB]
       refine zS ?_
       refine zS ?_
       refine zR (zO (by simp [zC h61, zC h62, callF_eff h65 rfl, ↓orc_nil, -lenA, HH1, ↓hrj, HH5, zI, HH6]; rfl) ?_)
       simp only [zT, zB]
       refine runs_cond (x := false) (by simp [hd0]) ?_
       refine zK ?_
       simp only [zT, zB]
       refine zS ?_
       rcases hA : decide (0 < V) with _ | _
       ·refine zR (zO (by simp [zC h61, zC h62, callF_eff h65 rfl, ↓orc_nil, -lenA, HH1, ↓hrj, HH5, zI, HH6, hA]; rfl) ?_)
        simp only [zT, zB]
        refine runs_cond (x := false) (by simp) ?_
        rw [if_neg (fun h => of_decide_eq_false hA h.1), List.append_nil] at hevs
        refine zK ?_
        simp only [zT, zB]
        refine zR (zO (by simp [zC h61, zC h62, callF_eff h65 rfl, ↓orc_nil, -lenA, HH1, ↓hrj, HH5, zI, HH6, hA]; rfl) ?_)
        simp only [zT, zB]
        exact ⟨js.length - (i + 1), _, _, by omega, by simp [zC h61, zC h62, callF_eff h65 rfl, ↓orc_nil, -lenA, HH1, ↓hrj, HH5, zI, HH6, hA] <;> first | exact ⟨rfl, rfl⟩ | rfl, i + 1, g + 1, by omega, rfl, by omega, .inr ⟨q, ev1, by rw [hevs]; exact hev1, hel, rfl⟩⟩
       ·refine zR (zO (by simp [zC h61, zC h62, callF_eff h65 rfl, ↓orc_nil, -lenA, HH1, ↓hrj, HH5, zI, HH6, hA]; rfl) ?_)
        simp only [zT, zB]
        refine runs_cond_split (x := decide (F0 < T1)) (by simp) (fun hq => ?_) (fun hq => ?_)
        ·rw [if_pos ⟨of_decide_eq_true hA, of_decide_eq_true hq⟩] at hevs
         rw [← hev1] at hevs
         have hap : ev1.map rE2 ++ [[I F0, I 1], [I T1, I (-1)]] = (ev1 ++ [(F0, 1), (T1, -1)]).map rE2 := by rw [List.map_append]; rfl
         have hel2 : (ev1 ++ [(F0, 1), (T1, -1)]).length = (q + 2) + 1 := by simp [hel]
         have hq2 : q + 1 + 2 = q + 2 + 1 := by omega
         generalize ev1 ++ [(F0, 1), (T1, -1)] = nx at *
         have hrx := fun n => rE2_rb n 4 nx
         refine zR (zO (by simp [zC h61, zC h62, callF_eff h65 rfl, ↓orc_nil, -lenA, HH1, ↓hrj, HH5, zI, HH6, hA, hap, ↓hrx, hq2]; rfl) ?_)
         simp only [zT, zB]
         refine zR (zO (by simp [zC h61, zC h62, callF_eff h65 rfl, ↓orc_nil, -lenA, HH1, ↓hrj, HH5, zI, HH6, hA, hap, ↓hrx, hq2]; rfl) ?_)
         simp only [zT, zB]
         exact ⟨js.length - (i + 1), _, _, by omega, by simp [zC h61, zC h62, callF_eff h65 rfl, ↓orc_nil, -lenA, HH1, ↓hrj, HH5, zI, HH6, hA, hap, ↓hrx, hq2] <;> first | exact ⟨rfl, rfl⟩ | rfl, i + 1, g + 1, by omega, rfl, by omega, .inr ⟨q + 2, nx, hevs.symm, hel2, rfl⟩⟩
        ·rw [if_neg (fun h => of_decide_eq_false hq h.2), List.append_nil] at hevs
         refine zK ?_
         simp only [zT, zB]
         refine zR (zO (by simp [zC h61, zC h62, callF_eff h65 rfl, ↓orc_nil, -lenA, HH1, ↓hrj, HH5, zI, HH6, hA]; rfl) ?_)
         simp only [zT, zB]
         exact ⟨js.length - (i + 1), _, _, by omega, by simp [zC h61, zC h62, callF_eff h65 rfl, ↓orc_nil, -lenA, HH1, ↓hrj, HH5, zI, HH6, hA] <;> first | exact ⟨rfl, rfl⟩ | rfl, i + 1, g + 1, by omega, rfl, by omega, .inr ⟨q, ev1, by rw [hevs]; exact hev1, hel, rfl⟩⟩
      ·have hkp : k1 - 1 < js[i].mins.length := by omega
       have hkq : k1 - 1 < S[i].length := by omega
       have hwk : W .i64 (i1 - 1) = i1 - 1 := W_small (by omega)
       have hi1p : 0 ≤ i1 - 1 := by omega
       have hi1q : 1 ≤ i1 := by omega
       have hi1t : (i1 - 1).toNat = k1 - 1 := by omega
       have hi1a : i1 - 1 < (js[i].mins.length : Int) := by omega
       have hi1b : i1 - 1 < (S[i].length : Int) := by omega
       have hp1 := hjb.2.2.2.2 _ (List.getElem_mem hkp)
       have hp2 := hS160 _ (List.getElem_mem hks) _ (List.getElem_mem hkq)
       have hF0 : S[i][k1 - 1] + js[i].mins[k1 - 1] = F0 := by rw [← hFr]; unfold cameF; rw [if_neg hkz, hJ, stAt_eq hks hkq, minAt_eq hkp]
       have hd0 : decide (0 < i1) = true := by simp; omega
       generalize hY1 : js[i].mins[k1 - 1] = Y1 at *
       generalize hY2 : S[i][k1 - 1] = Y2 at *
       have hwF : W .i64 (Y2 + Y1) = Y2 + Y1 := W_fit (by omega)
       have hwF2 : W .i64 F0 = F0 := W_fit (by omega)
       have HH7 := zA hg0 (zA hgn (zA hk0 (zA hks (zA hwg (zA hkj (zA hkS (zA hi1j (zA hi1S (zA hV (zA hT (zA hkr (zA hr2 (zA hr4 (zA rw5 (zA fw5 (zA lw5 (zA cw1 (zA cw2 (zA hksr (zA hs2 (zA hs4 (zA rt5 (zA ft5 (zA lt5 (zA ctw1 (zA ctw2 (zA hd0 (zA hkp (zA hkq (zA hwk (zA hi1p (zA hi1q (zA hi1t (zA hi1a (zA hi1b (zA hY1 (zA hY2 (zA hF0 hwF2))))))))))))))))))))))))))))))))))))))
       refine zK ?_
       simp only [zT, zB]
       refine zS ?_
       refine zL ?_
       refine zS ?_
       refine zR (zO (by simp [zC h61, zC h62, callF_eff h65 rfl, ↓orc_nil, -lenA, HH1, ↓hrj, HH5, zI, HH7]; rfl) ?_)
       simp only [zT, zB]
       refine zS ?_
       refine zR (zO (by simp [zC h61, zC h62, callF_eff h65 rfl, ↓orc_nil, -lenA, HH1, ↓hrj, HH5, zI, HH7]; rfl) ?_)
       simp only [zT, zB]
       refine zS ?_
       refine zS ?_
       refine zR (zO (by simp [zC h61, zC h62, callF_eff h65 rfl, ↓orc_nil, -lenA, HH1, ↓hrj, HH5, zI, HH7]; rfl) ?_)
       simp only [zT, zB]
       refine runs_cond (x := true) (by simp [hd0]) ?_
       refine runs_drw (by simp (maxSteps := 3000000) [zC h61, zC h62, callF_eff h65 rfl, ↓orc_nil, -lenA, HH1, ↓hrj, HH5, zI, HH7]; rfl) ?_
       simp only [zT, zB]
       refine zS ?_
       rcases hA : decide (0 < V) with _ | _
       ·refine zR (zO (by simp [zC h61, zC h62, callF_eff h65 rfl, ↓orc_nil, -lenA, HH1, ↓hrj, HH5, zI, HH7, hA]; rfl) ?_)
        simp only [zT, zB]
        refine runs_cond (x := false) (by simp) ?_
        rw [if_neg (fun h => of_decide_eq_false hA h.1), List.append_nil] at hevs
        refine zK ?_
        simp only [zT, zB]
        refine zR (zO (by simp [zC h61, zC h62, callF_eff h65 rfl, ↓orc_nil, -lenA, HH1, ↓hrj, HH5, zI, HH7, hA]; rfl) ?_)
        simp only [zT, zB]
        exact ⟨js.length - (i + 1), _, _, by omega, by simp [zC h61, zC h62, callF_eff h65 rfl, ↓orc_nil, -lenA, HH1, ↓hrj, HH5, zI, HH7, hA] <;> first | exact ⟨rfl, rfl⟩ | rfl, i + 1, g + 1, by omega, rfl, by omega, .inr ⟨q, ev1, by rw [hevs]; exact hev1, hel, rfl⟩⟩
       ·refine zR (zO (by simp [zC h61, zC h62, callF_eff h65 rfl, ↓orc_nil, -lenA, HH1, ↓hrj, HH5, zI, HH7, hA]; rfl) ?_)
        simp only [zT, zB]
        refine runs_cond_split (x := decide (F0 < T1)) (by simp) (fun hq => ?_) (fun hq => ?_)
        ·rw [if_pos ⟨of_decide_eq_true hA, of_decide_eq_true hq⟩] at hevs
         rw [← hev1] at hevs
         have hap : ev1.map rE2 ++ [[I F0, I 1], [I T1, I (-1)]] = (ev1 ++ [(F0, 1), (T1, -1)]).map rE2 := by rw [List.map_append]; rfl
         have hel2 : (ev1 ++ [(F0, 1), (T1, -1)]).length = (q + 2) + 1 := by simp [hel]
         have hq2 : q + 1 + 2 = q + 2 + 1 := by omega
         generalize ev1 ++ [(F0, 1), (T1, -1)] = nx at *
         have hrx := fun n => rE2_rb n 4 nx
         refine zR (zO (by simp [zC h61, zC h62, callF_eff h65 rfl, ↓orc_nil, -lenA, HH1, ↓hrj, HH5, zI, HH7, hA, hap, ↓hrx, hq2]; rfl) ?_)
         simp only [zT, zB]
         refine zR (zO (by simp [zC h61, zC h62, callF_eff h65 rfl, ↓orc_nil, -lenA, HH1, ↓hrj, HH5, zI, HH7, hA, hap, ↓hrx, hq2]; rfl) ?_)
         simp only [zT, zB]
         exact ⟨js.length - (i + 1), _, _, by omega, by simp [zC h61, zC h62, callF_eff h65 rfl, ↓orc_nil, -lenA, HH1, ↓hrj, HH5, zI, HH7, hA, hap, ↓hrx, hq2] <;> first | exact ⟨rfl, rfl⟩ | rfl, i + 1, g + 1, by omega, rfl, by omega, .inr ⟨q + 2, nx, hevs.symm, hel2, rfl⟩⟩
        ·rw [if_neg (fun h => of_decide_eq_false hq h.2), List.append_nil] at hevs
         refine zK ?_
         simp only [zT, zB]
         refine zR (zO (by simp [zC h61, zC h62, callF_eff h65 rfl, ↓orc_nil, -lenA, HH1, ↓hrj, HH5, zI, HH7, hA]; rfl) ?_)
         simp only [zT, zB]
         exact ⟨js.length - (i + 1), _, _, by omega, by simp [zC h61, zC h62, callF_eff h65 rfl, ↓orc_nil, -lenA, HH1, ↓hrj, HH5, zI, HH7, hA] <;> first | exact ⟨rfl, rfl⟩ | rfl, i + 1, g + 1, by omega, rfl, by omega, .inr ⟨q, ev1, by rw [hevs]; exact hev1, hel, rfl⟩⟩
     ·have hltt := of_decide_eq_false hlt2
      have hiE : i = js.length := by omega
      subst hiE
      have hsq := sortE_eq (xs := ev1) ⟨by omega, by omega⟩ (fun e he => by
       rw [hev1] at he
       have := hevb k1 _ (Nat.le_refl _) e he
       omega)
      rw [hel] at hsq
      have hesl : (esrt ev1).length = q + 1 := by rw [esrt_len, hel]
      have hesb : ∀ e ∈ esrt ev1, e.2 = 1 ∨ e.2 = -1 := fun e he => (hevb k1 _ (Nat.le_refl _) e (by rw [← hev1]; exact (esrt_perm ev1).mem_iff.1 he)).2
      rw [← hev1] at hF1
      have htop : topG (esrt ev1) 0 0 = topE (esrt ev1) := rfl
      have hTb : topE (esrt ev1) = topE (esrt ev1) := rfl
      generalize hTV : topE (esrt ev1) = TV at *
      generalize esrt ev1 = es at *
      have hrs := fun n => rE2_rb n 4 es
      have hfs := fun n h => frN_mapE n h 4 es
      refine runs_exit ?_
      simp only [zT, zB, if_true, if_false, reduceIte, Nat.reduceEqDiff, Nat.succ_ne_zero, Nat.one_ne_zero, Nat.zero_ne_one]
      refine zS ?_
      refine zR (zO (by simp [zC h61, zC h62, callF_eff h65 rfl, ↓orc_nil, -lenA, HH1, ↓hrj, HH5, hsq, hesl, ↓hrs, ↓hfs]; rfl) ?_)
      simp only [zT, zB]
      refine zS ?_
      refine zR (zO (by simp [zC h61, zC h62, callF_eff h65 rfl, ↓orc_nil, -lenA, HH1, ↓hrj, HH5, hsq, hesl, ↓hrs, ↓hfs]; rfl) ?_)
      simp only [zT, zB]
      refine zS ?_
      refine zS ?_
      refine zR (zO (by simp [zC h61, zC h62, callF_eff h65 rfl, ↓orc_nil, -lenA, HH1, ↓hrj, HH5, hsq, hesl, ↓hrs, ↓hfs]; rfl) ?_)
      simp only [zT, zB]
      refine zL ?_
      refine runs_loop_inv (fun m3 σ => ∃ (p : Nat) (u now top : Int), u = p ∧ q + 1 - p = m3 ∧ p ≤ q + 1 ∧ (-(p : Int) ≤ now ∧ now ≤ p) ∧ (0 ≤ top ∧ top ≤ p) ∧ topG (es.drop p) now top = TV ∧ σ = ⟨[.any, j, .any, .any, .any, .any, .nils, .any, .any, sv, .any, .any, .any, .any, .any, I now, I top, .any, .any, .any, .any, .any, .any, .any, .any, .any, .any, .any, .any, .any, .any, .any, .any, .any, I s.mach, I i1, .any, .any, .any, .any, .any, .any, .any, .any, .any, .any, .any, .any, .any, .any, .any, .any, .any, .any, .any, .any, .any, .any, .any, .any, .any, .any, .any, .any, .any, .any, .any, .any, .any, .any, .any, .any, .any, .any, .any, .any, .any, .any, .any, .any, .any, .any, .any, .any, .any, .any, .any, .any, .any, .any, .any, .any, .any, .any, .any, .any, .any, .sl 3 0 (q + 1) false, I ((q : Int) + 1), I u, .any, .any, .any, .any, .any, .any, .any, .any, .any, .any, .any, .any, .any, .any, .any, .any, .any], [some (.row 3 [[I s.mach, c, t]]), some (.row 4 [[I s.mach, c, t, j]]), none, some (.row 2 (es.map rE2))]⟩) ?_ (q + 1 - 0) _ ⟨0, 0, 0, 0, rfl, rfl, Nat.zero_le _, by omega, by omega, htop, by simp⟩
      rintro m3 σ ⟨p, u, now, top, hup, rfl, hpl, hnb, htb, htg, rfl⟩
      refine zS ?_
      refine zR (zO (by simp [zC h61, zC h62, callF_eff h65 rfl, ↓orc_nil, -lenA, HH1, ↓hrj, HH5, hsq, hesl, ↓hrs, ↓hfs]; rfl) ?_)
      simp only [zT, zB]
      refine zS ?_
      refine runs_cond_split (x := _) rfl (fun hlt3 => ?_) (fun hlt3 => ?_)
      ·have hlt4 := of_decide_eq_true hlt3
       have hp0 : p < es.length := by omega
       have hpq : p < q + 1 := by omega
       have hu0 : 0 ≤ u := by omega
       have huq : u < (q : Int) + 1 := by omega
       have hun : u.toNat = p := by omega
       have hwu : W .i64 (u + 1) = u + 1 := W_small (by omega)
       have heb := hesb _ (List.getElem_mem hp0)
       rw [List.drop_eq_getElem_cons hp0] at htg
       have hgE : (es.map rE2)[p]? = some (rE2 es[p]) := by rw [List.getElem?_map, List.getElem?_eq_getElem hp0]; rfl
       have hgE2 : ∀ h, (es.map rE2)[p]'h = rE2 es[p] := fun h => by rw [List.getElem_map]
       generalize hX : es[p] = X at *
       obtain ⟨x1, x2⟩ := X
       simp only at heb
       simp only [topG] at htg
       have hgE3 : (es.map rE2)[p]? = some [I x1, I x2] := hgE
       have hgE4 : ∀ h, (es.map rE2)[p]'h = [I x1, I x2] := hgE2
       have hwn : W .i64 (now + x2) = now + x2 := W_small (by omega)
       have HH8 := zA hsq (zA hesl (zA huq (zA hu0 (zA hun (zA hp0 (zA hpq (zA hwu (zA hgE3 (zA hgE4 (zA hX hwn))))))))))
       refine zK ?_
       simp only [zT, zB]
       refine zS ?_
       refine zL ?_
       refine zS ?_
       refine zR (zO (by simp [zC h61, zC h62, callF_eff h65 rfl, ↓orc_nil, -lenA, HH1, ↓hrj, HH5, ↓hrs, ↓hfs, -List.getElem?_map, -List.getElem_map, HH8]; rfl) ?_)
       simp only [zT, zB]
       refine zS ?_
       refine zR (zO (by simp [zC h61, zC h62, callF_eff h65 rfl, ↓orc_nil, -lenA, HH1, ↓hrj, HH5, ↓hrs, ↓hfs, -List.getElem?_map, -List.getElem_map, HH8]; rfl) ?_)
       simp only [zT, zB]
       refine zR (zO (by simp [zC h61, zC h62, callF_eff h65 rfl, ↓orc_nil, -lenA, HH1, ↓hrj, HH5, ↓hrs, ↓hfs, -List.getElem?_map, -List.getElem_map, HH8]; rfl) ?_)
       simp only [zT, zB]
       refine zR (zO (by simp [zC h61, zC h62, callF_eff h65 rfl, ↓orc_nil, -lenA, HH1, ↓hrj, HH5, ↓hrs, ↓hfs, -List.getElem?_map, -List.getElem_map, HH8]; rfl) ?_)
       simp only [zT, zB]
       exact ⟨q + 1 - (p + 1), by omega, p + 1, u + 1, now + x2, max top (now + x2), by omega, rfl, by omega, by omega, by omega, htg, st_eq (by simp [zC h61, zC h62, callF_eff h65 rfl, ↓orc_nil, -lenA, HH1, ↓hrj, HH5, ↓hrs, ↓hfs, -List.getElem?_map, -List.getElem_map, HH8]) (trim_ok (by simp [zC h61, zC h62, callF_eff h65 rfl, ↓orc_nil, -lenA, HH1, ↓hrj, HH5, ↓hrs, ↓hfs, -List.getElem?_map, -List.getElem_map, HH8]) (by simp [zC h61, zC h62, callF_eff h65 rfl, ↓orc_nil, -lenA, HH1, ↓hrj, HH5, ↓hrs, ↓hfs, -List.getElem?_map, -List.getElem_map, HH8]) (by simp))⟩
      ·have hlt4 := of_decide_eq_false hlt3
       have hpE : p = q + 1 := by omega
       rw [List.drop_of_length_le (by omega)] at htg
       simp only [topG] at htg
       subst htg
       have hnx1 : [top] = (waitN js S (k1 + 1)) := by rw [hF1, hkz1]; rfl
       have hap1 : [[I top]] = [top].map rI := rfl
       refine runs_exit ?_
       simp only [zT, zB, if_true, if_false, reduceIte, Nat.reduceEqDiff, Nat.succ_ne_zero, Nat.one_ne_zero, Nat.zero_ne_one]
       refine zR (zO (by simp [zC h61, zC h62, callF_eff h65 rfl, ↓orc_nil, -lenA, HH1, ↓hrj, HH5, hsq, hesl, ↓hrs, ↓hfs]; rfl) ?_)
       simp only [zT, zB]
       refine zR (zO (by simp [zC h61, zC h62, callF_eff h65 rfl, ↓orc_nil, -lenA, HH1, ↓hrj, HH5, hsq, hesl, ↓hrs, ↓hfs]; rfl) ?_)
       simp only [zT, zB]
       exact ⟨mn - (k1 + 1), _, _, by omega, by simp [zC h61, zC h62, callF_eff h65 rfl, ↓orc_nil, -lenA, HH1, ↓hrj, HH5, hsq, hesl, ↓hrs, ↓hfs] <;> first | exact ⟨rfl, rfl⟩ | rfl, k1 + 1, i1 + 1, by omega, rfl, by omega, .inr ⟨0, [top], by omega, hnx1, rfl, rfl⟩⟩
   ·have hx1 := of_decide_eq_false hlt1
    have hkE1 : k1 = mn := by omega
    omega
  ·have tk1 : (ac1.map rI).take (p1 + 1) = ac1.map rI := List.take_of_length_le (by simp [hacl1])
   have hlac1 : p1 + 1 + 1 ≤ 1048576 := by omega
   have hr31 : ∀ e : Int, (rI e).length = 1 := fun _ => rfl
   have hfr1 := fun n h r => optAll_snoc (frN_rI n h ac1) r
   have hrj1 := fun n => rI_rb n 4 ac1
   refine zS ?_
   refine zR (zO (by simp [zC h61, zC h62, callF_eff h65 rfl, ↓orc_nil, -lenA, HH1, tk1, hlac1, hacl1, hr31, ↓hfr1, ↓hrj1]; rfl) ?_)
   simp only [zT, zB]
   refine zS ?_
   refine runs_cond_split (x := _) rfl (fun hlt1 => ?_) (fun hlt1 => ?_)
   ·have hltt1 := of_decide_eq_true hlt1
    have hk01 : k1 < mn := by omega
    have hi01 : 0 ≤ i1 := by omega
    have htn1 : i1.toNat = k1 := by omega
    have hwi1 : W .i64 (i1 + 1) = i1 + 1 := W_small (by omega)
    have hk1m : (k1 : Int) < s.mach := by omega
    have hF1 : waitN js S (k1 + 1) = waitN js S k1 ++ [topE (esrt (evsN js S k1 js.length))] := rfl
    have HH9 := zA tk1 (zA hlac1 (zA hacl1 (zA hr31 (zA hi01 (zA htn1 (zA hk01 hwi1))))))
    refine zK ?_
    simp only [zT, zB]
    refine zS ?_
    refine zL ?_
    refine zS ?_
    refine zR (zO (by simp [zC h61, zC h62, callF_eff h65 rfl, ↓orc_nil, -lenA, HH1, ↓hfr1, ↓hrj1, HH9]; rfl) ?_)
    simp only [zT, zB]
    refine zS ?_
    refine zR (zO (by simp [zC h61, zC h62, callF_eff h65 rfl, ↓orc_nil, -lenA, HH1, ↓hfr1, ↓hrj1, HH9]; rfl) ?_)
    simp only [zT, zB]
    refine zS ?_
    refine zS ?_
    refine zR (zO (by simp [zC h61, zC h62, callF_eff h65 rfl, ↓orc_nil, -lenA, HH1, ↓hfr1, ↓hrj1, HH9]; rfl) ?_)
    simp only [zT, zB]
    refine zL ?_
    refine runs_loopG_inv (fun m2 σ => ∃ (i : Nat) (g : Int), g = i ∧ js.length - i = m2 ∧ i ≤ js.length ∧ ((evsN js S k1 i = [] ∧ σ = ⟨[.any, j, .any, .any, .any, .any, .sl 2 0 (p1 + 1) false, .any, .any, sv, I i1, .nils, .any, .any, .any, .any, .any, .any, .any, .any, .any, .any, .any, .any, .any, .any, .any, .any, .any, .any, .any, .any, .any, .any, I s.mach, I i1, .any, .any, j, I js.length, I g, .any, .any, .any, .any, .any, .any, .any, .any, .any, .any, .any, .any, .any, .any, .any, .any, .any, .any, .any, .any, .any, .any, .any, .any, .any, .any, .any, .any, .any, .any, .any, .any, .any, .any, .any, .any, .any, .any, .any, .any, .any, .any, .any, .any, .any, .any, .any, .any, .any, .any, .any, .any, .any, .any, .any, .any, .any, .any, .any, .any, .any, .any, .any, .any, .any, .any, .any, .any, .any, .any, .any, .any, .any, .any, .any, .any], [some (.row 3 [[I s.mach, c, t]]), some (.row 4 [[I s.mach, c, t, j]]), some (.row 1 (ac1.map rI)), none]⟩) ∨ (∃ (q : Nat) (ev1 : List FEv), ev1 = evsN js S k1 i ∧ ev1.length = q + 1 ∧ σ = ⟨[.any, j, .any, .any, .any, .any, .sl 2 0 (p1 + 1) false, .any, .any, sv, I i1, .sl 3 0 (q + 1) false, .any, .any, .any, .any, .any, .any, .any, .any, .any, .any, .any, .any, .any, .any, .any, .any, .any, .any, .any, .any, .any, .any, I s.mach, I i1, .any, .any, j, I js.length, I g, .any, .any, .any, .any, .any, .any, .any, .any, .any, .any, .any, .any, .any, .any, .any, .any, .any, .any, .any, .any, .any, .any, .any, .any, .any, .any, .any, .any, .any, .any, .any, .any, .any, .any, .any, .any, .any, .any, .any, .any, .any, .any, .any, .any, .any, .any, .any, .any, .any, .any, .any, .any, .any, .any, .any, .any, .any, .any, .any, .any, .any, .any, .any, .any, .any, .any, .any, .any, .any, .any, .any, .any, .any, .any, .any, .any], [some (.row 3 [[I s.mach, c, t]]), some (.row 4 [[I s.mach, c, t, j]]), some (.row 1 (ac1.map rI)), some (.row 2 (ev1.map rE2))]⟩))) (by simp [zC h61, zC h62, callF_eff h65 rfl, ↓orc_nil, -lenA, HH1, ↓hfr1, ↓hrj1, HH9] <;> first | exact ⟨rfl, rfl⟩ | rfl) (⟨0, 0, rfl, rfl, Nat.zero_le _, .inl ⟨rfl, rfl⟩⟩) ?_
    rintro m2 σ ⟨i, g, hgi, rfl, hil, ⟨hev1, rfl⟩ | ⟨q, ev1, hev1, hel, rfl⟩⟩
    ·refine zS ?_
     refine zR (zO (by simp [zC h61, zC h62, callF_eff h65 rfl, ↓orc_nil, -lenA, HH1, ↓hfr1, ↓hrj1, HH9]; rfl) ?_)
     simp only [zT, zB]
     refine zS ?_
     refine runs_cond_split (x := decide (g < (js.length : Int))) (by simp) (fun hlt2 => ?_) (fun hlt2 => ?_)
     ·have hltt := of_decide_eq_true hlt2
      have hk0 : i < js.length := by omega
      have hks : i < S.length := by omega
      have hg0 : 0 ≤ g := by omega
      have hgn : g.toNat = i := by omega
      have hwg : W .i64 (g + 1) = g + 1 := W_small (by omega)
      have hjb := hsh.job _ (List.getElem_mem hk0)
      have hrow := hSok _ (List.getElem_mem hks)
      have hJ := jobAt_eq hk0
      have hc1 := cameF_bd hsh hS160 hk0 k1
      have hs1' := stAt_bd hS160 i k1
      have hevs : evsN js S k1 (i + 1) = evsN js S k1 i ++ if 0 < minAt (jobAt js i) k1 ∧ cameF js S k1 i < stAt S i k1 then [(cameF js S k1 i, 1), (stAt S i k1, -1)] else [] := rfl
      have hkj : k1 < js[i].mins.length := by have := hjb.2.2.2.1; omega
      have hkS : k1 < S[i].length := by omega
      have hi1j : i1 < (js[i].mins.length : Int) := by omega
      have hi1S : i1 < (S[i].length : Int) := by omega
      obtain ⟨jr, tj, wv, rfl, hr1, hr2, hwv⟩ := dJobs_get hj hk0
      have hkr : i < jr.length := by omega
      have hr4 : ∀ h, jr[i]'h = [I js[i].kind, I js[i].ready, I js[i].due, wv] := fun h => by rw [List.getElem?_eq_getElem h] at hr2; exact Option.some.inj hr2
      have rw5 := fun n d => dInts_rb hwv n d
      have fw5 := fun H d => dInts_frz hwv H d
      have lw5 := dInts_len hwv
      obtain ⟨cw1, cw2⟩ := dInts_cells hwv
      obtain ⟨sr, tt, wt, rfl, hs1, hs2, hwt⟩ := dInts2_get hs hks
      have hksr : i < sr.length := by omega
      have hs4 : ∀ h, sr[i]'h = [wt] := fun h => by rw [List.getElem?_eq_getElem h] at hs2; exact Option.some.inj hs2
      have rt5 := fun n d => dInts_rb hwt n d
      have ft5 := fun H d => dInts_frz hwt H d
      have lt5 := dInts_len hwt
      obtain ⟨ctw1, ctw2⟩ := dInts_cells hwt
      obtain ⟨tw, rfl⟩ := dInts_get hwv hkj
      obtain ⟨tz, rfl⟩ := dInts_get hwt hkS
      rw [hJ, minAt_eq hkj, stAt_eq hks hkS] at hevs
      rw [stAt_eq hks hkS] at hs1'
      have hVb := hjb.2.2.2.2 _ (List.getElem_mem hkj)
      generalize hV : js[i].mins[k1] = V at *
      generalize hT : S[i][k1] = T1 at *
      generalize hFr : cameF js S k1 i = F0 at *
      by_cases hkz : k1 = 0
      ·have hF0 : js[i].ready = F0 := by rw [← hFr]; unfold cameF; rw [if_pos hkz, hJ]
       have hi1z : i1 = 0 := by omega
       have hd0 : decide (0 < i1) = false := by simp; omega
       have HH10 := zA hg0 (zA hgn (zA hk0 (zA hks (zA hwg (zA hkj (zA hkS (zA hi1j (zA hi1S (zA hV (zA hT (zA hkr (zA hr2 (zA hr4 (zA rw5 (zA fw5 (zA lw5 (zA cw1 (zA cw2 (zA hksr (zA hs2 (zA hs4 (zA rt5 (zA ft5 (zA lt5 (zA ctw1 (zA ctw2 (zA hF0 hd0)))))))))))))))))))))))))))
       refine zK ?_
       simp only [zT, zB]
       refine zS ?_
       refine zL ?_
       refine zS ?_
       refine zR (zO (by simp [zC h61, zC h62, callF_eff h65 rfl, ↓orc_nil, -lenA, HH1, ↓hfr1, ↓hrj1, HH9, zI, HH10]; rfl) ?_)
       simp only [zT, zB]
       refine zS ?_
       refine zR (zO (by simp [zC h61, zC h62, callF_eff h65 rfl, ↓orc_nil, -lenA, HH1, ↓hfr1, ↓hrj1, HH9, zI, HH10]; rfl) ?_)
       simp only [zT, zB]
       refine zS ?_
       refine zS ?_
       refine zR (zO (by simp [zC h61, zC h62, callF_eff h65 rfl, ↓orc_nil, -lenA, HH1, ↓hfr1, ↓hrj1, HH9, zI, HH10]; rfl) ?_)
       simp only [zT, zB]
       refine runs_cond (x := false) (by simp [hd0]) ?_
       refine zK ?_
       simp only [zT, zB]
       refine zS ?_
       rcases hA : decide (0 < V) with _ | _
       ·refine zR (zO (by simp [zC h61, zC h62, callF_eff h65 rfl, ↓orc_nil, -lenA, HH1, ↓hfr1, ↓hrj1, HH9, zI, HH10, hA]; rfl) ?_)
        simp only [zT, zB]
        refine runs_cond (x := false) (by simp) ?_
        rw [if_neg (fun h => of_decide_eq_false hA h.1), List.append_nil] at hevs
        refine zK ?_
        simp only [zT, zB]
        refine zR (zO (by simp [zC h61, zC h62, callF_eff h65 rfl, ↓orc_nil, -lenA, HH1, ↓hfr1, ↓hrj1, HH9, zI, HH10, hA]; rfl) ?_)
        simp only [zT, zB]
        exact ⟨js.length - (i + 1), _, _, by omega, by simp [zC h61, zC h62, callF_eff h65 rfl, ↓orc_nil, -lenA, HH1, ↓hfr1, ↓hrj1, HH9, zI, HH10, hA] <;> first | exact ⟨rfl, rfl⟩ | rfl, i + 1, g + 1, by omega, rfl, by omega, .inl ⟨by rw [hevs]; exact hev1, rfl⟩⟩
       ·refine zR (zO (by simp [zC h61, zC h62, callF_eff h65 rfl, ↓orc_nil, -lenA, HH1, ↓hfr1, ↓hrj1, HH9, zI, HH10, hA]; rfl) ?_)
        simp only [zT, zB]
        refine runs_cond_split (x := decide (F0 < T1)) (by simp) (fun hq => ?_) (fun hq => ?_)
        ·rw [if_pos ⟨of_decide_eq_true hA, of_decide_eq_true hq⟩] at hevs
         rw [hev1, List.nil_append] at hevs
         have hap : [[I F0, I 1], [I T1, I (-1)]] = [(F0, 1), (T1, -1)].map rE2 := rfl
         refine zR (zO (by simp [zC h61, zC h62, callF_eff h65 rfl, ↓orc_nil, -lenA, HH1, ↓hfr1, ↓hrj1, HH9, zI, HH10, hA, rE2]; rfl) ?_)
         simp only [zT, zB]
         refine zR (zO (by simp [zC h61, zC h62, callF_eff h65 rfl, ↓orc_nil, -lenA, HH1, ↓hfr1, ↓hrj1, HH9, zI, HH10, hA, rE2]; rfl) ?_)
         simp only [zT, zB]
         exact ⟨js.length - (i + 1), _, _, by omega, by simp [zC h61, zC h62, callF_eff h65 rfl, ↓orc_nil, -lenA, HH1, ↓hfr1, ↓hrj1, HH9, zI, HH10, hA, rE2] <;> first | exact ⟨rfl, rfl⟩ | rfl, i + 1, g + 1, by omega, rfl, by omega, .inr ⟨1, [(F0, 1), (T1, -1)], hevs.symm, rfl, rfl⟩⟩
        ·rw [if_neg (fun h => of_decide_eq_false hq h.2), List.append_nil] at hevs
         refine zK ?_
         simp only [zT, zB]
         refine zR (zO (by simp [zC h61, zC h62, callF_eff h65 rfl, ↓orc_nil, -lenA, HH1, ↓hfr1, ↓hrj1, HH9, zI, HH10, hA]; rfl) ?_)
         simp only [zT, zB]
         exact ⟨js.length - (i + 1), _, _, by omega, by simp [zC h61, zC h62, callF_eff h65 rfl, ↓orc_nil, -lenA, HH1, ↓hfr1, ↓hrj1, HH9, zI, HH10, hA] <;> first | exact ⟨rfl, rfl⟩ | rfl, i + 1, g + 1, by omega, rfl, by omega, .inl ⟨by rw [hevs]; exact hev1, rfl⟩⟩
      ·have hkp : k1 - 1 < js[i].mins.length := by omega
       have hkq : k1 - 1 < S[i].length := by omega
       have hwk : W .i64 (i1 - 1) = i1 - 1 := W_small (by omega)
       have hi1p : 0 ≤ i1 - 1 := by omega
       have hi1q : 1 ≤ i1 := by omega
       have hi1t : (i1 - 1).toNat = k1 - 1 := by omega
       have hi1a : i1 - 1 < (js[i].mins.length : Int) := by omega
       have hi1b : i1 - 1 < (S[i].length : Int) := by omega
       have hp1 := hjb.2.2.2.2 _ (List.getElem_mem hkp)
       have hp2 := hS160 _ (List.getElem_mem hks) _ (List.getElem_mem hkq)
       have hF0 : S[i][k1 - 1] + js[i].mins[k1 - 1] = F0 := by rw [← hFr]; unfold cameF; rw [if_neg hkz, hJ, stAt_eq hks hkq, minAt_eq hkp]
       have hd0 : decide (0 < i1) = true := by simp; omega
       generalize hY1 : js[i].mins[k1 - 1] = Y1 at *
       generalize hY2 : S[i][k1 - 1] = Y2 at *
       have hwF : W .i64 (Y2 + Y1) = Y2 + Y1 := W_fit (by omega)
       have hwF2 : W .i64 F0 = F0 := W_fit (by omega)
       have HH11 := zA hg0 (zA hgn (zA hk0 (zA hks (zA hwg (zA hkj (zA hkS (zA hi1j (zA hi1S (zA hV (zA hT (zA hkr (zA hr2 (zA hr4 (zA rw5 (zA fw5 (zA lw5 (zA cw1 (zA cw2 (zA hksr (zA hs2 (zA hs4 (zA rt5 (zA ft5 (zA lt5 (zA ctw1 (zA ctw2 (zA hd0 (zA hkp (zA hkq (zA hwk (zA hi1p (zA hi1q (zA hi1t (zA hi1a (zA hi1b (zA hY1 (zA hY2 (zA hF0 hwF2))))))))))))))))))))))))))))))))))))))
       refine zK ?_
       simp only [zT, zB]
       refine zS ?_
       refine zL ?_
       refine zS ?_
       refine zR (zO (by simp [zC h61, zC h62, callF_eff h65 rfl, ↓orc_nil, -lenA, HH1, ↓hfr1, ↓hrj1, HH9, zI, HH11]; rfl) ?_)
       simp only [zT, zB]
       refine zS ?_
       refine zR (zO (by simp [zC h61, zC h62, callF_eff h65 rfl, ↓orc_nil, -lenA, HH1, ↓hfr1, ↓hrj1, HH9, zI, HH11]; rfl) ?_)
       simp only [zT, zB]
       refine zS ?_
       refine zS ?_
       refine zR (zO (by simp [zC h61, zC h62, callF_eff h65 rfl, ↓orc_nil, -lenA, HH1, ↓hfr1, ↓hrj1, HH9, zI, HH11]; rfl) ?_)
       simp only [zT, zB]
       refine runs_cond (x := true) (by simp [hd0]) ?_
       refine runs_drw (by simp (maxSteps := 3000000) [zC h61, zC h62, callF_eff h65 rfl, ↓orc_nil, -lenA, HH1, ↓hfr1, ↓hrj1, HH9, zI, HH11]; rfl) ?_
       simp only [zT, zB]
       refine zS ?_
       rcases hA : decide (0 < V) with _ | _
       ·refine zR (zO (by simp [zC h61, zC h62, callF_eff h65 rfl, ↓orc_nil, -lenA, HH1, ↓hfr1, ↓hrj1, HH9, zI, HH11, hA]; rfl) ?_)
        simp only [zT, zB]
        refine runs_cond (x := false) (by simp) ?_
        rw [if_neg (fun h => of_decide_eq_false hA h.1), List.append_nil] at hevs
        refine zK ?_
        simp only [zT, zB]
        refine zR (zO (by simp [zC h61, zC h62, callF_eff h65 rfl, ↓orc_nil, -lenA, HH1, ↓hfr1, ↓hrj1, HH9, zI, HH11, hA]; rfl) ?_)
        simp only [zT, zB]
        exact ⟨js.length - (i + 1), _, _, by omega, by simp [zC h61, zC h62, callF_eff h65 rfl, ↓orc_nil, -lenA, HH1, ↓hfr1, ↓hrj1, HH9, zI, HH11, hA] <;> first | exact ⟨rfl, rfl⟩ | rfl, i + 1, g + 1, by omega, rfl, by omega, .inl ⟨by rw [hevs]; exact hev1, rfl⟩⟩
       ·refine zR (zO (by simp [zC h61, zC h62, callF_eff h65 rfl, ↓orc_nil, -lenA, HH1, ↓hfr1, ↓hrj1, HH9, zI, HH11, hA]; rfl) ?_)
        simp only [zT, zB]
        refine runs_cond_split (x := decide (F0 < T1)) (by simp) (fun hq => ?_) (fun hq => ?_)
        ·rw [if_pos ⟨of_decide_eq_true hA, of_decide_eq_true hq⟩] at hevs
         rw [hev1, List.nil_append] at hevs
         have hap : [[I F0, I 1], [I T1, I (-1)]] = [(F0, 1), (T1, -1)].map rE2 := rfl
         refine zR (zO (by simp [zC h61, zC h62, callF_eff h65 rfl, ↓orc_nil, -lenA, HH1, ↓hfr1, ↓hrj1, HH9, zI, HH11, hA, rE2]; rfl) ?_)
         simp only [zT, zB]
         refine zR (zO (by simp [zC h61, zC h62, callF_eff h65 rfl, ↓orc_nil, -lenA, HH1, ↓hfr1, ↓hrj1, HH9, zI, HH11, hA, rE2]; rfl) ?_)
         simp only [zT, zB]
         exact ⟨js.length - (i + 1), _, _, by omega, by simp [zC h61, zC h62, callF_eff h65 rfl, ↓orc_nil, -lenA, HH1, ↓hfr1, ↓hrj1, HH9, zI, HH11, hA, rE2] <;> first | exact ⟨rfl, rfl⟩ | rfl, i + 1, g + 1, by omega, rfl, by omega, .inr ⟨1, [(F0, 1), (T1, -1)], hevs.symm, rfl, rfl⟩⟩
        ·rw [if_neg (fun h => of_decide_eq_false hq h.2), List.append_nil] at hevs
         refine zK ?_
         simp only [zT, zB]
         refine zR (zO (by simp [zC h61, zC h62, callF_eff h65 rfl, ↓orc_nil, -lenA, HH1, ↓hfr1, ↓hrj1, HH9, zI, HH11, hA]; rfl) ?_)
         simp only [zT, zB]
         exact ⟨js.length - (i + 1), _, _, by omega, by simp [zC h61, zC h62, callF_eff h65 rfl, ↓orc_nil, -lenA, HH1, ↓hfr1, ↓hrj1, HH9, zI, HH11, hA] <;> first | exact ⟨rfl, rfl⟩ | rfl, i + 1, g + 1, by omega, rfl, by omega, .inl ⟨by rw [hevs]; exact hev1, rfl⟩⟩
     ·have hltt := of_decide_eq_false hlt2
      have hiE : i = js.length := by omega
      subst hiE
      rw [hev1, topE_nil] at hF1
      have hsq := sortE_nil
      refine runs_exit ?_
      simp only [zT, zB, if_true, if_false, reduceIte, Nat.reduceEqDiff, Nat.succ_ne_zero, Nat.one_ne_zero, Nat.zero_ne_one]
      refine zS ?_
      refine zR (zO (by simp [zC h61, zC h62, callF_eff h65 rfl, ↓orc_nil, -lenA, HH1, ↓hfr1, ↓hrj1, HH9, hsq]; rfl) ?_)
      simp only [zT, zB]
      refine zS ?_
      refine zR (zO (by simp [zC h61, zC h62, callF_eff h65 rfl, ↓orc_nil, -lenA, HH1, ↓hfr1, ↓hrj1, HH9, hsq]; rfl) ?_)
      simp only [zT, zB]
      refine zS ?_
      refine zS ?_
      refine zR (zO (by simp [zC h61, zC h62, callF_eff h65 rfl, ↓orc_nil, -lenA, HH1, ↓hfr1, ↓hrj1, HH9, hsq]; rfl) ?_)
      simp only [zT, zB]
      refine zL ?_
      refine runs_loop_inv (fun m σ => σ = ⟨[.any, j, .any, .any, .any, .any, .sl 2 0 (p1 + 1) false, .any, .any, sv, .any, .any, .any, .any, .any, I 0, I 0, .any, .any, .any, .any, .any, .any, .any, .any, .any, .any, .any, .any, .any, .any, .any, .any, .any, I s.mach, I i1, .any, .any, .any, .any, .any, .any, .any, .any, .any, .any, .any, .any, .any, .any, .any, .any, .any, .any, .any, .any, .any, .any, .any, .any, .any, .any, .any, .any, .any, .any, .any, .any, .any, .any, .any, .any, .any, .any, .any, .any, .any, .any, .any, .any, .any, .any, .any, .any, .any, .any, .any, .any, .any, .any, .any, .any, .any, .any, .any, .any, .any, .nils, I 0, I 0, .any, .any, .any, .any, .any, .any, .any, .any, .any, .any, .any, .any, .any, .any, .any, .any, .any], [some (.row 3 [[I s.mach, c, t]]), some (.row 4 [[I s.mach, c, t, j]]), some (.row 1 (ac1.map rI)), none]⟩) ?_ 0 _ (by simp)
      rintro m3 σ rfl
      refine zS ?_
      refine zR (zO (by simp [zC h61, zC h62, callF_eff h65 rfl, ↓orc_nil, -lenA, HH1, ↓hfr1, ↓hrj1, HH9, hsq]; rfl) ?_)
      simp only [zT, zB]
      refine zS ?_
      refine runs_cond (x := false) (by simp) ?_
      have hnx1 : ac1 ++ [0] = (waitN js S (k1 + 1)) := by rw [hF1, ← hac1]
      have hnl1 : (ac1 ++ [0]).length = p1 + 1 + 1 := by simp [hacl1]
      have hap1 : ac1.map rI ++ [[I 0]] = (ac1 ++ [0]).map rI := by rw [List.map_append]; rfl
      generalize ac1 ++ [0] = nx1 at *
      have hrx1 := fun n => rI_rb n 4 nx1
      refine runs_exit ?_
      simp only [zT, zB, if_true, if_false, reduceIte, Nat.reduceEqDiff, Nat.succ_ne_zero, Nat.one_ne_zero, Nat.zero_ne_one]
      refine zR (zO (by simp [zC h61, zC h62, callF_eff h65 rfl, ↓orc_nil, -lenA, HH1, ↓hfr1, ↓hrj1, HH9, hsq, hap1, ↓hrx1]; rfl) ?_)
      simp only [zT, zB]
      refine zR (zO (by simp [zC h61, zC h62, callF_eff h65 rfl, ↓orc_nil, -lenA, HH1, ↓hfr1, ↓hrj1, HH9, hsq, hap1, ↓hrx1]; rfl) ?_)
      simp only [zT, zB]
      exact ⟨mn - (k1 + 1), _, _, by omega, by simp [zC h61, zC h62, callF_eff h65 rfl, ↓orc_nil, -lenA, HH1, ↓hfr1, ↓hrj1, HH9, hsq, hap1, ↓hrx1] <;> first | exact ⟨rfl, rfl⟩ | rfl, k1 + 1, i1 + 1, by omega, rfl, by omega, .inr ⟨p1 + 1, nx1, by omega, hnx1, hnl1, rfl⟩⟩
    ·have tkE : (ev1.map rE2).take (q + 1) = ev1.map rE2 := List.take_of_length_le (by simp [hel])
     have hle1 := hevl k1 i
     rw [← hev1] at hle1
     have hlq : q + 1 + 2 ≤ 1048576 := by omega
     have hrj := fun n => rE2_rb n 4 ev1
     have hr3 : ∀ e : FEv, (rE2 e).length = 2 := fun _ => rfl
     have hfrE := fun n h => frN_mapE n h 4 ev1
     refine zS ?_
     refine zR (zO (by simp [zC h61, zC h62, callF_eff h65 rfl, ↓orc_nil, -lenA, HH1, ↓hfr1, ↓hrj1, HH9, tkE, hlq, hel, hr3, ↓hrj]; rfl) ?_)
     simp only [zT, zB]
     refine zS ?_
     refine runs_cond_split (x := decide (g < (js.length : Int))) (by simp) (fun hlt2 => ?_) (fun hlt2 => ?_)
     ·have hltt := of_decide_eq_true hlt2
      have hk0 : i < js.length := by omega
      have hks : i < S.length := by omega
      have hg0 : 0 ≤ g := by omega
      have hgn : g.toNat = i := by omega
      have hwg : W .i64 (g + 1) = g + 1 := W_small (by omega)
      have hjb := hsh.job _ (List.getElem_mem hk0)
      have hrow := hSok _ (List.getElem_mem hks)
      have hJ := jobAt_eq hk0
      have hc1 := cameF_bd hsh hS160 hk0 k1
      have hs1' := stAt_bd hS160 i k1
      have hevs : evsN js S k1 (i + 1) = evsN js S k1 i ++ if 0 < minAt (jobAt js i) k1 ∧ cameF js S k1 i < stAt S i k1 then [(cameF js S k1 i, 1), (stAt S i k1, -1)] else [] := rfl
      have hkj : k1 < js[i].mins.length := by have := hjb.2.2.2.1; omega
      have hkS : k1 < S[i].length := by omega
      have hi1j : i1 < (js[i].mins.length : Int) := by omega
      have hi1S : i1 < (S[i].length : Int) := by omega
      obtain ⟨jr, tj, wv, rfl, hr1, hr2, hwv⟩ := dJobs_get hj hk0
      have hkr : i < jr.length := by omega
      have hr4 : ∀ h, jr[i]'h = [I js[i].kind, I js[i].ready, I js[i].due, wv] := fun h => by rw [List.getElem?_eq_getElem h] at hr2; exact Option.some.inj hr2
      have rw5 := fun n d => dInts_rb hwv n d
      have fw5 := fun H d => dInts_frz hwv H d
      have lw5 := dInts_len hwv
      obtain ⟨cw1, cw2⟩ := dInts_cells hwv
      obtain ⟨sr, tt, wt, rfl, hs1, hs2, hwt⟩ := dInts2_get hs hks
      have hksr : i < sr.length := by omega
      have hs4 : ∀ h, sr[i]'h = [wt] := fun h => by rw [List.getElem?_eq_getElem h] at hs2; exact Option.some.inj hs2
      have rt5 := fun n d => dInts_rb hwt n d
      have ft5 := fun H d => dInts_frz hwt H d
      have lt5 := dInts_len hwt
      obtain ⟨ctw1, ctw2⟩ := dInts_cells hwt
      obtain ⟨tw, rfl⟩ := dInts_get hwv hkj
      obtain ⟨tz, rfl⟩ := dInts_get hwt hkS
      rw [hJ, minAt_eq hkj, stAt_eq hks hkS] at hevs
      rw [stAt_eq hks hkS] at hs1'
      have hVb := hjb.2.2.2.2 _ (List.getElem_mem hkj)
      generalize hV : js[i].mins[k1] = V at *
      generalize hT : S[i][k1] = T1 at *
      generalize hFr : cameF js S k1 i = F0 at *
      by_cases hkz : k1 = 0
      ·have hF0 : js[i].ready = F0 := by rw [← hFr]; unfold cameF; rw [if_pos hkz, hJ]
       have hi1z : i1 = 0 := by omega
       have hd0 : decide (0 < i1) = false := by simp; omega
       have HH12 := zA tkE (zA hlq (zA hel (zA hr3 (zA hg0 (zA hgn (zA hk0 (zA hks (zA hwg (zA hkj (zA hkS (zA hi1j (zA hi1S (zA hV (zA hT (zA hkr (zA hr2 (zA hr4 (zA rw5 (zA fw5 (zA lw5 (zA cw1 (zA cw2 (zA hksr (zA hs2 (zA hs4 (zA rt5 (zA ft5 (zA lt5 (zA ctw1 (zA ctw2 (zA hF0 hd0)))))))))))))))))))))))))))))))
       refine zK ?_
       simp only [zT, zB]
       refine zS ?_
       refine zL ?_
       refine zS ?_
       refine zR (zO (by simp [zC h61, zC h62, callF_eff h65 rfl, ↓orc_nil, -lenA, HH1, ↓hfr1, ↓hrj1, HH9, ↓hrj, zI, HH12]; rfl) ?_)
       simp only [zT, zB]
       refine zS ?_
       refine zR (zO (by simp [zC h61, zC h62, callF_eff h65 rfl, ↓orc_nil, -lenA, HH1, ↓hfr1, ↓hrj1, HH9, ↓hrj, zI, HH12]; rfl) ?_)
       simp only [zT, zB]
       refine zS ?_
       refine zS ?_
       refine zR (zO (by simp [zC h61, zC h62, callF_eff h65 rfl, ↓orc_nil, -lenA, HH1, ↓hfr1, ↓hrj1, HH9, ↓hrj, zI, HH12]; rfl) ?_)
       simp only [zT, zB]
       refine runs_cond (x := false) (by simp [hd0]) ?_
       refine zK ?_
       simp only [zT, zB]
       refine zS ?_
       rcases hA : decide (0 < V) with _ | _
       ·refine zR (zO (by simp [zC h61, zC h62, callF_eff h65 rfl, ↓orc_nil, -lenA, HH1, ↓hfr1, ↓hrj1, HH9, ↓hrj, zI, HH12, hA]; rfl) ?_)
        simp only [zT, zB]
        refine runs_cond (x := false) (by simp) ?_
        rw [if_neg (fun h => of_decide_eq_false hA h.1), List.append_nil] at hevs
        refine zK ?_
        simp only [zT, zB]
        refine zR (zO (by simp [zC h61, zC h62, callF_eff h65 rfl, ↓orc_nil, -lenA, HH1, ↓hfr1, ↓hrj1, HH9, ↓hrj, zI, HH12, hA]; rfl) ?_)
        simp only [zT, zB]
        exact ⟨js.length - (i + 1), _, _, by omega, by simp [zC h61, zC h62, callF_eff h65 rfl, ↓orc_nil, -lenA, HH1, ↓hfr1, ↓hrj1, HH9, ↓hrj, zI, HH12, hA] <;> first | exact ⟨rfl, rfl⟩ | rfl, i + 1, g + 1, by omega, rfl, by omega, .inr ⟨q, ev1, by rw [hevs]; exact hev1, hel, rfl⟩⟩
       ·refine zR (zO (by simp [zC h61, zC h62, callF_eff h65 rfl, ↓orc_nil, -lenA, HH1, ↓hfr1, ↓hrj1, HH9, ↓hrj, zI, HH12, hA]; rfl) ?_)
        simp only [zT, zB]
        refine runs_cond_split (x := decide (F0 < T1)) (by simp) (fun hq => ?_) (fun hq => ?_)
        ·rw [if_pos ⟨of_decide_eq_true hA, of_decide_eq_true hq⟩] at hevs
         rw [← hev1] at hevs
         have hap : ev1.map rE2 ++ [[I F0, I 1], [I T1, I (-1)]] = (ev1 ++ [(F0, 1), (T1, -1)]).map rE2 := by rw [List.map_append]; rfl
         have hel2 : (ev1 ++ [(F0, 1), (T1, -1)]).length = (q + 2) + 1 := by simp [hel]
         have hq2 : q + 1 + 2 = q + 2 + 1 := by omega
         generalize ev1 ++ [(F0, 1), (T1, -1)] = nx at *
         have hrx := fun n => rE2_rb n 4 nx
         refine zR (zO (by simp [zC h61, zC h62, callF_eff h65 rfl, ↓orc_nil, -lenA, HH1, ↓hfr1, ↓hrj1, HH9, ↓hrj, zI, HH12, hA, hap, ↓hrx, hq2]; rfl) ?_)
         simp only [zT, zB]
         refine zR (zO (by simp [zC h61, zC h62, callF_eff h65 rfl, ↓orc_nil, -lenA, HH1, ↓hfr1, ↓hrj1, HH9, ↓hrj, zI, HH12, hA, hap, ↓hrx, hq2]; rfl) ?_)
         simp only [zT, zB]
         exact ⟨js.length - (i + 1), _, _, by omega, by simp [zC h61, zC h62, callF_eff h65 rfl, ↓orc_nil, -lenA, HH1, ↓hfr1, ↓hrj1, HH9, ↓hrj, zI, HH12, hA, hap, ↓hrx, hq2] <;> first | exact ⟨rfl, rfl⟩ | rfl, i + 1, g + 1, by omega, rfl, by omega, .inr ⟨q + 2, nx, hevs.symm, hel2, rfl⟩⟩
        ·rw [if_neg (fun h => of_decide_eq_false hq h.2), List.append_nil] at hevs
         refine zK ?_
         simp only [zT, zB]
         refine zR (zO (by simp [zC h61, zC h62, callF_eff h65 rfl, ↓orc_nil, -lenA, HH1, ↓hfr1, ↓hrj1, HH9, ↓hrj, zI, HH12, hA]; rfl) ?_)
         simp only [zT, zB]
         exact ⟨js.length - (i + 1), _, _, by omega, by simp [zC h61, zC h62, callF_eff h65 rfl, ↓orc_nil, -lenA, HH1, ↓hfr1, ↓hrj1, HH9, ↓hrj, zI, HH12, hA] <;> first | exact ⟨rfl, rfl⟩ | rfl, i + 1, g + 1, by omega, rfl, by omega, .inr ⟨q, ev1, by rw [hevs]; exact hev1, hel, rfl⟩⟩
      ·have hkp : k1 - 1 < js[i].mins.length := by omega
       have hkq : k1 - 1 < S[i].length := by omega
       have hwk : W .i64 (i1 - 1) = i1 - 1 := W_small (by omega)
       have hi1p : 0 ≤ i1 - 1 := by omega
       have hi1q : 1 ≤ i1 := by omega
       have hi1t : (i1 - 1).toNat = k1 - 1 := by omega
       have hi1a : i1 - 1 < (js[i].mins.length : Int) := by omega
       have hi1b : i1 - 1 < (S[i].length : Int) := by omega
       have hp1 := hjb.2.2.2.2 _ (List.getElem_mem hkp)
       have hp2 := hS160 _ (List.getElem_mem hks) _ (List.getElem_mem hkq)
       have hF0 : S[i][k1 - 1] + js[i].mins[k1 - 1] = F0 := by rw [← hFr]; unfold cameF; rw [if_neg hkz, hJ, stAt_eq hks hkq, minAt_eq hkp]
       have hd0 : decide (0 < i1) = true := by simp; omega
       generalize hY1 : js[i].mins[k1 - 1] = Y1 at *
       generalize hY2 : S[i][k1 - 1] = Y2 at *
       have hwF : W .i64 (Y2 + Y1) = Y2 + Y1 := W_fit (by omega)
       have hwF2 : W .i64 F0 = F0 := W_fit (by omega)
       have HH13 := zA tkE (zA hlq (zA hel (zA hr3 (zA hg0 (zA hgn (zA hk0 (zA hks (zA hwg (zA hkj (zA hkS (zA hi1j (zA hi1S (zA hV (zA hT (zA hkr (zA hr2 (zA hr4 (zA rw5 (zA fw5 (zA lw5 (zA cw1 (zA cw2 (zA hksr (zA hs2 (zA hs4 (zA rt5 (zA ft5 (zA lt5 (zA ctw1 (zA ctw2 (zA hd0 (zA hkp (zA hkq (zA hwk (zA hi1p (zA hi1q (zA hi1t (zA hi1a (zA hi1b (zA hY1 (zA hY2 (zA hF0 hwF2))))))))))))))))))))))))))))))))))))))))))
       refine zK ?_
       simp only [zT, zB]
       refine zS ?_
       refine zL ?_
       refine zS ?_
       refine zR (zO (by simp [zC h61, zC h62, callF_eff h65 rfl, ↓orc_nil, -lenA, HH1, ↓hfr1, ↓hrj1, HH9, ↓hrj, zI, HH13]; rfl) ?_)
       simp only [zT, zB]
       refine zS ?_
       refine zR (zO (by simp [zC h61, zC h62, callF_eff h65 rfl, ↓orc_nil, -lenA, HH1, ↓hfr1, ↓hrj1, HH9, ↓hrj, zI, HH13]; rfl) ?_)
       simp only [zT, zB]
       refine zS ?_
       refine zS ?_
       refine zR (zO (by simp [zC h61, zC h62, callF_eff h65 rfl, ↓orc_nil, -lenA, HH1, ↓hfr1, ↓hrj1, HH9, ↓hrj, zI, HH13]; rfl) ?_)
       simp only [zT, zB]
       refine runs_cond (x := true) (by simp [hd0]) ?_
       refine runs_drw (by simp (maxSteps := 3000000) [zC h61, zC h62, callF_eff h65 rfl, ↓orc_nil, -lenA, HH1, ↓hfr1, ↓hrj1, HH9, ↓hrj, zI, HH13]; rfl) ?_
       simp only [zT, zB]
       refine zS ?_
       rcases hA : decide (0 < V) with _ | _
       ·refine zR (zO (by simp [zC h61, zC h62, callF_eff h65 rfl, ↓orc_nil, -lenA, HH1, ↓hfr1, ↓hrj1, HH9, ↓hrj, zI, HH13, hA]; rfl) ?_)
        simp only [zT, zB]
        refine runs_cond (x := false) (by simp) ?_
        rw [if_neg (fun h => of_decide_eq_false hA h.1), List.append_nil] at hevs
        refine zK ?_
        simp only [zT, zB]
        refine zR (zO (by simp [zC h61, zC h62, callF_eff h65 rfl, ↓orc_nil, -lenA, HH1, ↓hfr1, ↓hrj1, HH9, ↓hrj, zI, HH13, hA]; rfl) ?_)
        simp only [zT, zB]
        exact ⟨js.length - (i + 1), _, _, by omega, by simp [zC h61, zC h62, callF_eff h65 rfl, ↓orc_nil, -lenA, HH1, ↓hfr1, ↓hrj1, HH9, ↓hrj, zI, HH13, hA] <;> first | exact ⟨rfl, rfl⟩ | rfl, i + 1, g + 1, by omega, rfl, by omega, .inr ⟨q, ev1, by rw [hevs]; exact hev1, hel, rfl⟩⟩
       ·refine zR (zO (by simp [zC h61, zC h62, callF_eff h65 rfl, ↓orc_nil, -lenA, HH1, ↓hfr1, ↓hrj1, HH9, ↓hrj, zI, HH13, hA]; rfl) ?_)
        simp only [zT, zB]
        refine runs_cond_split (x := decide (F0 < T1)) (by simp) (fun hq => ?_) (fun hq => ?_)
        ·rw [if_pos ⟨of_decide_eq_true hA, of_decide_eq_true hq⟩] at hevs
         rw [← hev1] at hevs
         have hap : ev1.map rE2 ++ [[I F0, I 1], [I T1, I (-1)]] = (ev1 ++ [(F0, 1), (T1, -1)]).map rE2 := by rw [List.map_append]; rfl
         have hel2 : (ev1 ++ [(F0, 1), (T1, -1)]).length = (q + 2) + 1 := by simp [hel]
         have hq2 : q + 1 + 2 = q + 2 + 1 := by omega
         generalize ev1 ++ [(F0, 1), (T1, -1)] = nx at *
         have hrx := fun n => rE2_rb n 4 nx
         refine zR (zO (by simp [zC h61, zC h62, callF_eff h65 rfl, ↓orc_nil, -lenA, HH1, ↓hfr1, ↓hrj1, HH9, ↓hrj, zI, HH13, hA, hap, ↓hrx, hq2]; rfl) ?_)
         simp only [zT, zB]
         refine zR (zO (by simp [zC h61, zC h62, callF_eff h65 rfl, ↓orc_nil, -lenA, HH1, ↓hfr1, ↓hrj1, HH9, ↓hrj, zI, HH13, hA, hap, ↓hrx, hq2]; rfl) ?_)
         simp only [zT, zB]
         exact ⟨js.length - (i + 1), _, _, by omega, by simp [zC h61, zC h62, callF_eff h65 rfl, ↓orc_nil, -lenA, HH1, ↓hfr1, ↓hrj1, HH9, ↓hrj, zI, HH13, hA, hap, ↓hrx, hq2] <;> first | exact ⟨rfl, rfl⟩ | rfl, i + 1, g + 1, by omega, rfl, by omega, .inr ⟨q + 2, nx, hevs.symm, hel2, rfl⟩⟩
        ·rw [if_neg (fun h => of_decide_eq_false hq h.2), List.append_nil] at hevs
         refine zK ?_
         simp only [zT, zB]
         refine zR (zO (by simp [zC h61, zC h62, callF_eff h65 rfl, ↓orc_nil, -lenA, HH1, ↓hfr1, ↓hrj1, HH9, ↓hrj, zI, HH13, hA]; rfl) ?_)
         simp only [zT, zB]
         exact ⟨js.length - (i + 1), _, _, by omega, by simp [zC h61, zC h62, callF_eff h65 rfl, ↓orc_nil, -lenA, HH1, ↓hfr1, ↓hrj1, HH9, ↓hrj, zI, HH13, hA] <;> first | exact ⟨rfl, rfl⟩ | rfl, i + 1, g + 1, by omega, rfl, by omega, .inr ⟨q, ev1, by rw [hevs]; exact hev1, hel, rfl⟩⟩
     ·have hltt := of_decide_eq_false hlt2
      have hiE : i = js.length := by omega
      subst hiE
      have hsq := sortE_eq (xs := ev1) ⟨by omega, by omega⟩ (fun e he => by
       rw [hev1] at he
       have := hevb k1 _ (Nat.le_refl _) e he
       omega)
      rw [hel] at hsq
      have hesl : (esrt ev1).length = q + 1 := by rw [esrt_len, hel]
      have hesb : ∀ e ∈ esrt ev1, e.2 = 1 ∨ e.2 = -1 := fun e he => (hevb k1 _ (Nat.le_refl _) e (by rw [← hev1]; exact (esrt_perm ev1).mem_iff.1 he)).2
      rw [← hev1] at hF1
      have htop : topG (esrt ev1) 0 0 = topE (esrt ev1) := rfl
      have hTb : topE (esrt ev1) = topE (esrt ev1) := rfl
      generalize hTV : topE (esrt ev1) = TV at *
      generalize esrt ev1 = es at *
      have hrs := fun n => rE2_rb n 4 es
      have hfs := fun n h => frN_mapE n h 4 es
      have HH14 := zA tkE (zA hlq (zA hel (zA hr3 (zA hsq hesl))))
      have HH15 := zA hfr1 (zA hrj1 (zA hrj (zA hrs hfs)))
      refine runs_exit ?_
      simp only [zT, zB, if_true, if_false, reduceIte, Nat.reduceEqDiff, Nat.succ_ne_zero, Nat.one_ne_zero, Nat.zero_ne_one]
      refine zS ?_
      refine zR (zO (by simp [zC h61, zC h62, callF_eff h65 rfl, ↓orc_nil, -lenA, HH1, HH9, HH14, ↓HH15]; rfl) ?_)
      simp only [zT, zB]
      refine zS ?_
      refine zR (zO (by simp [zC h61, zC h62, callF_eff h65 rfl, ↓orc_nil, -lenA, HH1, HH9, HH14, ↓HH15]; rfl) ?_)
      simp only [zT, zB]
      refine zS ?_
      refine zS ?_
      refine zR (zO (by simp [zC h61, zC h62, callF_eff h65 rfl, ↓orc_nil, -lenA, HH1, HH9, HH14, ↓HH15]; rfl) ?_)
      simp only [zT, zB]
      refine zL ?_
      refine runs_loop_inv (fun m3 σ => ∃ (p : Nat) (u now top : Int), u = p ∧ q + 1 - p = m3 ∧ p ≤ q + 1 ∧ (-(p : Int) ≤ now ∧ now ≤ p) ∧ (0 ≤ top ∧ top ≤ p) ∧ topG (es.drop p) now top = TV ∧ σ = ⟨[.any, j, .any, .any, .any, .any, .sl 2 0 (p1 + 1) false, .any, .any, sv, .any, .any, .any, .any, .any, I now, I top, .any, .any, .any, .any, .any, .any, .any, .any, .any, .any, .any, .any, .any, .any, .any, .any, .any, I s.mach, I i1, .any, .any, .any, .any, .any, .any, .any, .any, .any, .any, .any, .any, .any, .any, .any, .any, .any, .any, .any, .any, .any, .any, .any, .any, .any, .any, .any, .any, .any, .any, .any, .any, .any, .any, .any, .any, .any, .any, .any, .any, .any, .any, .any, .any, .any, .any, .any, .any, .any, .any, .any, .any, .any, .any, .any, .any, .any, .any, .any, .any, .any, .sl 3 0 (q + 1) false, I ((q : Int) + 1), I u, .any, .any, .any, .any, .any, .any, .any, .any, .any, .any, .any, .any, .any, .any, .any, .any, .any], [some (.row 3 [[I s.mach, c, t]]), some (.row 4 [[I s.mach, c, t, j]]), some (.row 1 (ac1.map rI)), some (.row 2 (es.map rE2))]⟩) ?_ (q + 1 - 0) _ ⟨0, 0, 0, 0, rfl, rfl, Nat.zero_le _, by omega, by omega, htop, by simp⟩
      rintro m3 σ ⟨p, u, now, top, hup, rfl, hpl, hnb, htb, htg, rfl⟩
      refine zS ?_
      refine zR (zO (by simp [zC h61, zC h62, callF_eff h65 rfl, ↓orc_nil, -lenA, HH1, HH9, HH14, ↓HH15]; rfl) ?_)
      simp only [zT, zB]
      refine zS ?_
      refine runs_cond_split (x := _) rfl (fun hlt3 => ?_) (fun hlt3 => ?_)
      ·have hlt4 := of_decide_eq_true hlt3
       have hp0 : p < es.length := by omega
       have hpq : p < q + 1 := by omega
       have hu0 : 0 ≤ u := by omega
       have huq : u < (q : Int) + 1 := by omega
       have hun : u.toNat = p := by omega
       have hwu : W .i64 (u + 1) = u + 1 := W_small (by omega)
       have heb := hesb _ (List.getElem_mem hp0)
       rw [List.drop_eq_getElem_cons hp0] at htg
       have hgE : (es.map rE2)[p]? = some (rE2 es[p]) := by rw [List.getElem?_map, List.getElem?_eq_getElem hp0]; rfl
       have hgE2 : ∀ h, (es.map rE2)[p]'h = rE2 es[p] := fun h => by rw [List.getElem_map]
       generalize hX : es[p] = X at *
       obtain ⟨x1, x2⟩ := X
       simp only at heb
       simp only [topG] at htg
       have hgE3 : (es.map rE2)[p]? = some [I x1, I x2] := hgE
       have hgE4 : ∀ h, (es.map rE2)[p]'h = [I x1, I x2] := hgE2
       have hwn : W .i64 (now + x2) = now + x2 := W_small (by omega)
       have HH16 := zA huq (zA hu0 (zA hun (zA hp0 (zA hpq (zA hwu (zA hgE3 (zA hgE4 (zA hX hwn))))))))
       refine zK ?_
       simp only [zT, zB]
       refine zS ?_
       refine zL ?_
       refine zS ?_
       refine zR (zO (by simp [zC h61, zC h62, callF_eff h65 rfl, ↓orc_nil, -lenA, HH1, HH9, HH14, ↓HH15, -List.getElem?_map, -List.getElem_map, HH16]; rfl) ?_)
       simp only [zT, zB]
       refine zS ?_
       refine zR (zO (by simp [zC h61, zC h62, callF_eff h65 rfl, ↓orc_nil, -lenA, HH1, HH9, HH14, ↓HH15, -List.getElem?_map, -List.getElem_map, HH16]; rfl) ?_)
       simp only [zT, zB]
       refine zR (zO (by simp [zC h61, zC h62, callF_eff h65 rfl, ↓orc_nil, -lenA, HH1, HH9, HH14, ↓HH15, -List.getElem?_map, -List.getElem_map, HH16]; rfl) ?_)
       simp only [zT, zB]
       refine zR (zO (by simp [zC h61, zC h62, callF_eff h65 rfl, ↓orc_nil, -lenA, HH1, HH9, HH14, ↓HH15, -List.getElem?_map, -List.getElem_map, HH16]; rfl) ?_)
       simp only [zT, zB]
       exact ⟨q + 1 - (p + 1), by omega, p + 1, u + 1, now + x2, max top (now + x2), by omega, rfl, by omega, by omega, by omega, htg, st_eq (by simp [zC h61, zC h62, callF_eff h65 rfl, ↓orc_nil, -lenA, HH1, HH9, HH14, ↓HH15, -List.getElem?_map, -List.getElem_map, HH16]) (trim_ok (by simp [zC h61, zC h62, callF_eff h65 rfl, ↓orc_nil, -lenA, HH1, HH9, HH14, ↓HH15, -List.getElem?_map, -List.getElem_map, HH16]) (by simp [zC h61, zC h62, callF_eff h65 rfl, ↓orc_nil, -lenA, HH1, HH9, HH14, ↓HH15, -List.getElem?_map, -List.getElem_map, HH16]) (by simp))⟩
      ·have hlt4 := of_decide_eq_false hlt3
       have hpE : p = q + 1 := by omega
       rw [List.drop_of_length_le (by omega)] at htg
       simp only [topG] at htg
       subst htg
       have hnx1 : ac1 ++ [top] = (waitN js S (k1 + 1)) := by rw [hF1, ← hac1]
       have hnl1 : (ac1 ++ [top]).length = p1 + 1 + 1 := by simp [hacl1]
       have hap1 : ac1.map rI ++ [[I top]] = (ac1 ++ [top]).map rI := by rw [List.map_append]; rfl
       generalize ac1 ++ [top] = nx1 at *
       have hrx1 := fun n => rI_rb n 4 nx1
       refine runs_exit ?_
       simp only [zT, zB, if_true, if_false, reduceIte, Nat.reduceEqDiff, Nat.succ_ne_zero, Nat.one_ne_zero, Nat.zero_ne_one]
       refine zR (zO (by simp [zC h61, zC h62, callF_eff h65 rfl, ↓orc_nil, -lenA, HH1, HH9, HH14, ↓HH15, hap1, ↓hrx1]; rfl) ?_)
       simp only [zT, zB]
       refine zR (zO (by simp [zC h61, zC h62, callF_eff h65 rfl, ↓orc_nil, -lenA, HH1, HH9, HH14, ↓HH15, hap1, ↓hrx1]; rfl) ?_)
       simp only [zT, zB]
       exact ⟨mn - (k1 + 1), _, _, by omega, by simp [zC h61, zC h62, callF_eff h65 rfl, ↓orc_nil, -lenA, HH1, HH9, HH14, ↓HH15, hap1, ↓hrx1] <;> first | exact ⟨rfl, rfl⟩ | rfl, k1 + 1, i1 + 1, by omega, rfl, by omega, .inr ⟨p1 + 1, nx1, by omega, hnx1, hnl1, rfl⟩⟩
   ·have hx1 := of_decide_eq_false hlt1
    have hkE1 : k1 = mn := by omega
    rw [hkE1] at hac1
    have hne1 : ac1 ≠ [] := by intro e; rw [e] at hacl1; simp at hacl1
    rw [← hac1, encW_ne hne1]
    refine runs_exit ?_
    simp only [zT, zB, if_true, if_false, reduceIte, Nat.reduceEqDiff, Nat.succ_ne_zero, Nat.one_ne_zero, Nat.zero_ne_one]
    refine zS ?_
    refine zR (zO (by simp [zC h61, zC h62, callF_eff h65 rfl, ↓orc_nil, -lenA, HH1, tk1, hlac1, hacl1, hr31, ↓hfr1, ↓hrj1, frz_mapI]; rfl) ?_)
    simp only [zT, zB]
    refine runs_ret ?_
    simp [zC h61, zC h62, callF_eff h65 rfl, ↓orc_nil, -lenA, HH1, tk1, hlac1, hacl1, hr31, ↓hfr1, ↓hrj1, frz_mapI, trim]
 ·refine answers_of hT (orcF_none rfl) ?_
  simp only [oo, om, op, og, ci, cl, c20, annK, lkG, lkR, reduceIte, Nat.reduceEqDiff, reduceCtorEq, List.cons.injEq, and_true, and_false, false_and, true_and]
  by_cases h1 : shopE s js = 0
  ·have HH17 := zA h61 (zA h62 (zA h65 (zA fc (zA ft (zA fj (zA rc (zA rt (zA rj (zA lc (zA lt (zA lj (zA cc1 (zA cc2 (zA ct1 (zA ct2 (zA cj1 (zA cj2 (zA fo (zA ro (zA lo (zA co1 (zA co2 (zA hop (zA h0 h1))))))))))))))))))))))))
   refine zS ?_
   refine zR (zO (by simp [zC h61, zC h62, callF_eff h65 rfl, ↓orc_nil, -lenA, waitV, if_neg, zWork, HH17]; rfl) ?_)
   simp only [zT, zB]
   refine zS ?_
   refine zR (zO (by simp [zC h61, zC h62, callF_eff h65 rfl, ↓orc_nil, -lenA, waitV, if_neg, zWork, HH17]; rfl) ?_)
   simp only [zT, zB]
   refine zS ?_
   refine zS ?_
   refine zR (zO (by simp [zC h61, zC h62, callF_eff h65 rfl, ↓orc_nil, -lenA, waitV, if_neg, zWork, HH17]; rfl) ?_)
   simp only [zT, zB]
   refine runs_cond (x := true) (by simp [h0]) ?_
   refine zS ?_
   refine zR (zO (by simp [zC h61, zC h62, callF_eff h65 rfl, ↓orc_nil, -lenA, waitV, if_neg, zWork, HH17]; rfl) ?_)
   simp only [zT, zB]
   refine runs_ret ?_
   simp [zC h61, zC h62, callF_eff h65 rfl, ↓orc_nil, -lenA, waitV, if_neg, zWork, HH17, trim]
  ·have HH18 := zA h61 (zA h62 (zA h65 (zA fc (zA ft (zA fj (zA rc (zA rt (zA rj (zA lc (zA lt (zA lj (zA cc1 (zA cc2 (zA ct1 (zA ct2 (zA cj1 (zA cj2 (zA fo (zA ro (zA lo (zA co1 (zA co2 (zA hop (zA h0 h1))))))))))))))))))))))))
   refine zS ?_
   refine zR (zO (by simp [zC h61, zC h62, callF_eff h65 rfl, ↓orc_nil, -lenA, waitV, if_neg, zWork, HH18]; rfl) ?_)
   simp only [zT, zB]
   refine zS ?_
   refine zR (zO (by simp [zC h61, zC h62, callF_eff h65 rfl, ↓orc_nil, -lenA, waitV, if_neg, zWork, HH18]; rfl) ?_)
   simp only [zT, zB]
   refine zS ?_
   refine zS ?_
   refine zR (zO (by simp [zC h61, zC h62, callF_eff h65 rfl, ↓orc_nil, -lenA, waitV, if_neg, zWork, HH18]; rfl) ?_)
   simp only [zT, zB]
   refine runs_cond (x := true) (by simp [h0]) ?_
   refine zS ?_
   refine zR (zO (by simp [zC h61, zC h62, callF_eff h65 rfl, ↓orc_nil, -lenA, waitV, if_neg, zWork, HH18]; rfl) ?_)
   simp only [zT, zB]
   refine runs_ret ?_
   simp [zC h61, zC h62, callF_eff h65 rfl, ↓orc_nil, -lenA, waitV, if_neg, zWork, HH18, trim]
end
end Go.Proofs.YtjjapdagllclkaaGreat.Tab

namespace Go.Proofs.YtjjapdagllclkaaGreat.Tab
open Go Go.Abs Go.Proofs
set_option linter.unusedSimpArgs false
set_option linter.unusedVariables false
def wtB (js : List FJob) (S : List (List Int)) (k : Nat) (t : Int) (m : Nat) : Bool := decide (0 < minAt (jobAt js m) k) && decide (cameF js S k m ≤ t) && decide (t < stAt S m k)
def wtN (js : List FJob) (S : List (List Int)) (k : Nat) (t : Int) : Nat → Int
 | 0 => 0
 | m + 1 => wtN js S k t m + if wtB js S k t m = true then 1 else 0
def needQ (js : List FJob) (k : Nat) : Nat → Int
 | 0 => 0
 | m + 1 => needQ js k m + if 0 < minAt (jobAt js m) k then 1 else 0
def mostQ (js : List FJob) (S : List (List Int)) (k : Nat) (at_ : List Int) : Nat → Int
 | 0 => 0
 | p + 1 => max (mostQ js S k at_ p) (wtN js S k (at_.getD p 0) js.length)
def cmsN (js : List FJob) (S : List (List Int)) (k : Nat) : Nat → List Int
 | 0 => []
 | i + 1 => cmsN js S k i ++ [cameF js S k i]
def timN (ts : List Int) (p : Nat) : List Int := (ts.take p).map fun n => n.tmod 1000
theorem cmsN_len (js : List FJob) (S : List (List Int)) (k : Nat) : ∀ i, (cmsN js S k i).length = i
 | 0 => rfl
 | i + 1 => by simp [cmsN, cmsN_len js S k i]
theorem cmsN_mem (js : List FJob) (S : List (List Int)) (k : Nat) : ∀ i m, m < i → cameF js S k m ∈ cmsN js S k i
 | i + 1, m, h => by
  simp only [cmsN, List.mem_append, List.mem_singleton]
  by_cases e : m = i
  ·subst e; exact .inr rfl
  ·exact .inl (cmsN_mem js S k i m (by omega))
theorem wtN_bd (js : List FJob) (S : List (List Int)) (k : Nat) (t : Int) : ∀ m, 0 ≤ wtN js S k t m ∧ wtN js S k t m ≤ needQ js k m
 | 0 => ⟨Int.le_refl _, Int.le_refl _⟩
 | m + 1 => by
  have ih := wtN_bd js S k t m
  simp only [wtN, needQ]
  by_cases h : wtB js S k t m = true
  ·have h2 := h
   unfold wtB at h2
   simp only [Bool.and_eq_true, decide_eq_true_eq] at h2
   rw [if_pos h, if_pos h2.1.1]; omega
  ·rw [if_neg h]; split <;> omega
theorem needQ_bd (js : List FJob) (k : Nat) : ∀ m, 0 ≤ needQ js k m ∧ needQ js k m ≤ m
 | 0 => ⟨Int.le_refl _, Int.le_refl _⟩
 | m + 1 => by have := needQ_bd js k m; simp only [needQ]; split <;> omega
theorem mostQ_bd (js : List FJob) (S : List (List Int)) (k : Nat) (l : List Int) : ∀ p, 0 ≤ mostQ js S k l p ∧ mostQ js S k l p ≤ needQ js k js.length
 | 0 => ⟨Int.le_refl _, (needQ_bd js k js.length).1⟩
 | p + 1 => by
  have ih := mostQ_bd js S k l p
  have := wtN_bd js S k (l.getD p 0) js.length
  simp only [mostQ]; omega
theorem mostQ_ge (js : List FJob) (S : List (List Int)) (k : Nat) (l : List Int) : ∀ p i, i < p → wtN js S k (l.getD i 0) js.length ≤ mostQ js S k l p
 | p + 1, i, h => by
  simp only [mostQ]
  by_cases e : i = p
  ·subst e; omega
  ·have := mostQ_ge js S k l p i (by omega); omega
theorem mostQ_at (js : List FJob) (S : List (List Int)) (k : Nat) (l : List Int) : ∀ p, mostQ js S k l p = 0 ∨ ∃ t, wtN js S k t js.length = mostQ js S k l p
 | 0 => .inl rfl
 | p + 1 => by
  simp only [mostQ]
  rcases Int.le_total (mostQ js S k l p) (wtN js S k (l.getD p 0) js.length) with h | h
  ·rw [Int.max_eq_right h]; exact .inr ⟨_, rfl⟩
  ·rw [Int.max_eq_left h]; exact mostQ_at js S k l p
theorem atT_evs (js : List FJob) (S : List (List Int)) (k : Nat) (t : Int) : ∀ i, atT (evsN js S k i) t = wtN js S k t i
 | 0 => rfl
 | i + 1 => by
  simp only [evsN, wtN, atT_app, atT_evs js S k t i]
  congr 1
  unfold wtB
  by_cases h1 : 0 < minAt (jobAt js i) k
  ·by_cases h2 : cameF js S k i < stAt S i k
   ·rw [if_pos ⟨h1, h2⟩]
    simp only [atT, h1, decide_true, Bool.true_and, Bool.and_eq_true, decide_eq_true_eq]
    by_cases h3 : cameF js S k i ≤ t
    ·by_cases h4 : stAt S i k ≤ t
     ·rw [if_pos h3, if_pos h4, if_neg (by omega)]; rfl
     ·rw [if_pos h3, if_neg h4, if_pos (by omega)]; rfl
    ·rw [if_neg h3, if_neg (by omega), if_neg (by omega)]; rfl
   ·rw [if_neg (fun h => h2 h.2)]
    simp only [atT, Bool.and_eq_true, decide_eq_true_eq]
    rw [if_neg (by omega)]
  ·rw [if_neg (fun h => h1 h.1)]
   simp only [atT, Bool.and_eq_true, decide_eq_true_eq]
   rw [if_neg (by omega)]
theorem evs_came (js : List FJob) (S : List (List Int)) (k : Nat) : ∀ i, ∀ e ∈ evsN js S k i, e.2 = 1 → ∃ m, m < i ∧ e.1 = cameF js S k m
 | 0, e, he, _ => by simp [evsN] at he
 | i + 1, e, he, h1 => by
  simp only [evsN, List.mem_append] at he
  rcases he with he | he
  ·obtain ⟨m, hm, em⟩ := evs_came js S k i e he h1
   exact ⟨m, by omega, em⟩
  ·split at he
   ·simp only [List.mem_cons, List.not_mem_nil, or_false] at he
    rcases he with rfl | rfl
    ·exact ⟨i, by omega, rfl⟩
    ·simp at h1
   ·simp at he
theorem wait_most {s : FShop} {js : List FJob} (h : ShopOk s js) {S : List (List Int)} (hS : ∀ l ∈ S, ∀ x ∈ l, 0 ≤ x ∧ x ≤ 160000) (k : Nat) {l : List Int} (hl : ∀ i, i < js.length → cameF js S k i ∈ l) :
  topE (esrt (evsN js S k js.length)) = mostQ js S k l l.length := by
 refine top_spec (fun e he => (evsN_bd h hS k _ (Nat.le_refl _) e he).2) (mostQ_bd js S k l l.length).1 (fun e he h1 => ?_) ?_
 ·obtain ⟨m, hm, em⟩ := evs_came js S k _ e he h1
  rw [atT_evs, em]
  obtain ⟨p, hp, ep⟩ := List.mem_iff_getElem.1 (hl m hm)
  have := mostQ_ge js S k l l.length p hp
  rw [List.getD_eq_getElem?_getD, List.getElem?_eq_getElem hp, Option.getD_some, ep] at this
  exact this
 ·rcases mostQ_at js S k l l.length with h | ⟨t, ht⟩
  ·exact .inl h
  ·exact .inr ⟨t, by rw [atT_evs]; exact ht⟩
end Go.Proofs.YtjjapdagllclkaaGreat.Tab

namespace Go.Proofs.YtjjapdagllclkaaGreat.Tab
open Go Go.Abs Go.Proofs
set_option maxRecDepth 100000
set_option maxHeartbeats 4000000
set_option linter.unusedSimpArgs false
set_option linter.unusedVariables false
section
attribute [local simp] frz_int frz_bool frz_vl frz_pv frz_agg frz_tup frz_fn frz_ref frz_sl frz_nils optAll orcF rb_int rb_bool rb_agg rb_tup rb_int' rb_bool' rb_vl rb_pv rb_yld rb_nilf rb_nilp rb_nils rb_any rb_und rb_ref rb_sl rb_fn slE chunk fillA evParts evParts3 putAt List.range_succ List.range_zero List.range'_succ List.range'_zero runX_nil' unary_not evalS_pure evAll_nil evAll_cons runX_cons stepX wantedA dop CV.ev putK_eq setK_eq appK_eq fA_eq fI_eq fN_eq fRow_eq fRows_eq nth_eq Out.v putT List.replicate_succ zT zB arI pointee Abs.rowAt ldRow allV toV toC ofV ofC Builtin.min_ Builtin.min2 Builtin.max_ Builtin.max2 min_if max_if resA tupA kill trim_self trim_len trim_emp trim_nil lenA
attribute [local simp] runD_nil' runD_cons' stepD actK_eq actD clash disj masks holes maskH unmaskH diffs news eqB allB eqA ldRowN wrote toCs ofCs stA rowsV_vl rowsV_nils rowsOf dI1 dI2 dI3 dI5 elt
attribute [local simp] st_any st_und st_agg st_tup st_bool st_int st_nilp st_ref st_pv st_nils st_sl st_vl st_nilm st_mp st_fn st_nilf st_yld co_any co_und co_agg co_tup co_bool co_int co_nilp co_ref co_pv co_nils co_sl co_vl co_nilm co_mp co_fn co_nilf co_yld
attribute [local simp] Function.comp_def List.all_append List.all_map above callA calleeA frNB_none frNB_row frN_agg frN_bool frN_int frN_nils frN_ref frN_sl frN_tup frN_vl frzG gather getR lim lop loud lowA lowR norm okG putG putR rbB_none rbB_row resG rowAt takeG
theorem waitN_len (js : List FJob) (S : List (List Int)) : ∀ k, (waitN js S k).length = k
  | 0 => rfl
  | k + 1 => by simp [waitN, waitN_len js S k]
theorem waitN_get (js : List FJob) (S : List (List Int)) : ∀ (n k : Nat), k < n → (waitN js S n)[k]? = some (topE (esrt (evsN js S k js.length)))
  | n + 1, k, h => by
    simp only [waitN]
    by_cases e : k = n
    · subst e
      rw [List.getElem?_append_right (by rw [waitN_len]; exact Nat.le_refl _), waitN_len, Nat.sub_self]; rfl
    · rw [List.getElem?_append_left (by rw [waitN_len]; omega)]
      exact waitN_get js S n k (by omega)
def rW1 (n : Int) : List AVal := [.int .u16 n]
theorem zQ {A G : Prop} (f : A → G) (p : A) : G := f p
theorem runs_loopG_invB {P : Program} {T : Nat → Option CFn} {r : Option Nat} {a : CC} {σ : St} {Q : AEx → St → Prop} {keep : Nat} {gs : List GL} (base : Nat) (hb : σ.h.length = base) (I : Nat → St → Prop)
    (step : ∀ k σ', I k σ' → Runs P T r a σ' (zT Q fun σ'' => ∃ k' t h, k' < k ∧ gather base gs (kill σ''.t keep) σ''.h = some (t, h) ∧ I k' ⟨t, h⟩)) {k : Nat} {t : List AVal} {h : Heap} (hg : gather base gs (kill σ.t keep) σ.h = some (t, h)) (h0 : I k ⟨t, h⟩) : Runs P T r (.loopG keep gs a) σ Q := by
  subst hb
  exact runs_loopG_inv I hg h0 step
theorem a47 (P : Program) (T : Nat → Option CFn) (hT : T 47 = some c47) (kd r d k : Int) (v w_ : AVal) (ms st : List Int) (hv : dInts v = some ms) (hw : dInts w_ = some st) (hk0 : 0 ≤ k) (hkm0 : k.toNat < ms.length) (hks0 : k.toNat < st.length) (hk4 : k ≤ 1000000) (hb1 : ∀ n ∈ ms, 0 ≤ n ∧ n ≤ 10000) (hb2 : ∀ x ∈ st, 0 ≤ x ∧ x ≤ 1000000) : Answers P T 47 [.agg [I kd, I r, I d, v], w_, I k] [] fun v h => frz true h 5 v = some (I (if k.toNat = 0 then r else st.getD (k.toNat - 1) 0 + ms.getD (k.toNat - 1) 0)) := by
 have fv := fun H d => dInts_frz hv H d
 have rv := fun n d => dInts_rb hv n d
 have lv := dInts_len hv
 obtain ⟨cv1, cv2⟩ := dInts_cells hv
 have fw := fun H d => dInts_frz hw H d
 have rw := fun n d => dInts_rb hw n d
 have lw := dInts_len hw
 obtain ⟨cw1, cw2⟩ := dInts_cells hw
 refine answers_of hT (orcF_none rfl) ?_
 simp only [oo, om, op, og, ci, cl, c47]
 by_cases hkz : k.toNat = 0
 ·have hkz0 : k = 0 := by omega
  subst hkz0
  rw [if_pos hkz]
  have HH1 := zA fv (zA rv (zA lv (zA cv1 (zA cv2 (zA fw (zA rw (zA lw (zA cw1 (zA cw2 hkz)))))))))
  refine zS ?_
  refine zR (zO (by simp [-lenA, HH1]; rfl) ?_)
  simp only [zT, zB]
  refine zS ?_
  refine zS ?_
  refine zR (zO (by simp [-lenA, HH1]; rfl) ?_)
  simp only [zT, zB]
  refine runs_cond (x := true) (by simp [hkz]) ?_
  refine zS ?_
  refine zR (zO (by simp [-lenA, HH1]; rfl) ?_)
  simp only [zT, zB]
  refine runs_ret ?_
  simp [-lenA, HH1, trim]
 ·rw [if_neg hkz]
  have hwk : W .i64 (k - 1) = k - 1 := W_small (by omega)
  have hk1 : 0 ≤ k - 1 := by omega
  have hk1b : 1 ≤ k := by omega
  have hk1t : (k - 1).toNat = k.toNat - 1 := by omega
  have hkm : k.toNat - 1 < ms.length := by omega
  have hks : k.toNat - 1 < st.length := by omega
  have hkmI : k - 1 < (ms.length : Int) := by omega
  have hksI : k - 1 < (st.length : Int) := by omega
  obtain ⟨tv, rfl⟩ := dInts_get hv hkm
  obtain ⟨tw, rfl⟩ := dInts_get hw hks
  have h1 := hb1 _ (List.getElem_mem hkm)
  have h2 := hb2 _ (List.getElem_mem hks)
  rw [List.getD_eq_getElem?_getD, List.getD_eq_getElem?_getD, List.getElem?_eq_getElem hkm, List.getElem?_eq_getElem hks, Option.getD_some, Option.getD_some]
  generalize hX : ms[k.toNat - 1] = X at *
  generalize hY : st[k.toNat - 1] = Y at *
  have hwS : W .i64 (Y + X) = Y + X := W_fit (by omega)
  have hkz2 : ¬ k = 0 := by omega
  have HH2 := zA fv (zA rv (zA lv (zA cv1 (zA cv2 (zA fw (zA rw (zA lw (zA cw1 (zA cw2 (zA hwk (zA hk1 (zA hk1b (zA hk1t (zA hkm (zA hks (zA hkmI (zA hksI (zA hX (zA hY (zA hwS hkz2))))))))))))))))))))
  refine zS ?_
  refine zR (zO (by simp [-lenA, zI, HH2]; rfl) ?_)
  simp only [zT, zB]
  refine zS ?_
  refine zS ?_
  refine zR (zO (by simp [-lenA, zI, HH2]; rfl) ?_)
  simp only [zT, zB]
  refine runs_cond (x := false) (by simp [hkz2]) ?_
  refine zK ?_
  simp only [zT, zB]
  refine zS ?_
  refine runs_drw (by simp (maxSteps := 3000000) [-lenA, zI, HH2]; rfl) ?_
  simp only [zT, zB]
  refine runs_ret ?_
  simp [-lenA, zI, HH2, trim]
def oCame2 : List AVal → Option AVal
  | [.agg [.int .i64 kd, .int .i64 r, .int .i64 d, v], w, .int .i64 k] => match dInts v, dInts w with
    | some ms, some st => if 0 ≤ k ∧ k.toNat < ms.length ∧ k.toNat < st.length ∧ k ≤ 1000000 ∧ (∀ n ∈ ms, 0 ≤ n ∧ n ≤ 10000) ∧ (∀ x ∈ st, 0 ≤ x ∧ x ≤ 1000000) then some (I (if k.toNat = 0 then r else st.getD (k.toNat - 1) 0 + ms.getD (k.toNat - 1) 0)) else none
    | _, _ => none
  | _ => none
theorem came_eq {s : FShop} {js : List FJob} (hsh : ShopOk s js) {S : List (List Int)} (hS : StOk s js S) {m k : Nat} {g : Int} (hm : m < js.length) (hg : g = k) (hk : (k : Int) < s.mach) {v w : AVal} (hv : dInts v = some js[m].mins) (hw : dInts w = some (S[m]'(by rw [hS.len]; exact hm))) : oCame2 [.agg [I js[m].kind, I js[m].ready, I js[m].due, v], w, I g] = some (I (cameF js S k m)) := by
  have hms : m < S.length := by rw [hS.len]; exact hm
  have hjb := hsh.job _ (List.getElem_mem hm)
  have hrow := hS.row _ (List.getElem_mem hms)
  have hmach := hsh.mach
  subst hg
  simp only [oCame2, hv, hw]
  rw [if_pos ⟨by omega, by have := hjb.2.2.2.1; omega, by have := hrow.1; omega, by omega, fun n hn => by have := hjb.2.2.2.2 n hn; omega, hrow.2⟩]
  simp only [Int.toNat_natCast]
  unfold cameF
  by_cases h0 : k = 0
  · rw [if_pos h0, if_pos h0, jobAt_eq hm]
  · rw [if_neg h0, if_neg h0, jobAt_eq hm]
    unfold stAt minAt
    rw [List.getD_eq_getElem?_getD (l := S), List.getElem?_eq_getElem hms, Option.getD_some]
noncomputable def FZ1 : Nat → Option CFn := updG FY5 20 [(51539608130, [.slot 6]), (1975684959810, [.slot 11])] []
theorem FZ1_ok : TabOk Tryz.prog GG FZ1 := tab_updG FY5_ok
noncomputable def FZ_20 : Nat → Option CFn := upd FZ1 20 true (oWait)
theorem FZ_20_ok : TabOk Tryz.prog GG FZ_20 := tab_add mixed FZ1_ok fun args v ho => by
  unfold oWait at ho; split at ho <;> (try simp only [reduceCtorEq] at ho)
  rename_i m c t j o
  split at ho <;> (try simp only [reduceCtorEq] at ho)
  rename_i cs ts js os hc ht hj ho2
  split at ho <;> (try simp only [reduceCtorEq] at ho)
  rename_i hz
  simp only [Option.some.injEq] at ho
  subst ho
  exact a20 Tryz.prog FZ1 rfl rfl rfl rfl ⟨m, cs, ts⟩ js c t j hc ht hj o os ho2 ⟨size_ok.1 hz.1, hz.2⟩
noncomputable def FZ : Nat → Option CFn := upd FZ_20 47 true (oCame2)
theorem FZ_ok : TabOk Tryz.prog GG FZ := tab_add mixed FZ_20_ok fun args v ho => by
  unfold oCame2 at ho; split at ho <;> (try simp only [reduceCtorEq] at ho)
  rename_i kd r d v w k
  split at ho <;> (try simp only [reduceCtorEq] at ho)
  rename_i ms st hv hw
  split at ho <;> (try simp only [reduceCtorEq] at ho)
  rename_i hg
  simp only [Option.some.injEq] at ho
  subst ho
  obtain ⟨g1, g2, g3, g4, g5, g6⟩ := hg
  exact a47 Tryz.prog FZ_20 rfl kd r d k v w ms st hv hw g1 g2 g3 g4 g5 g6
noncomputable def FZ2 : Nat → Option CFn := updG FZ 11 [(116066, [.slot 15]), (968034, [.slot 15])] []
theorem FZ2_ok : TabOk Tryz.prog GG FZ2 := tab_updG FZ_ok
theorem a11 (P : Program) (T : Nat → Option CFn) (hT : T 11 = some { c11 with body := annK [(116066, [.slot 15]), (968034, [.slot 15])] [] c11.body }) (h41 : T 41 = some { c41 with frsh := false, orc := oMade }) (h42 : T 42 = some { c42 with frsh := true, orc := oOrder }) (h16 : T 16 = some { c16 with frsh := false, orc := oCopy }) (h17 : T 17 = some { c17 with frsh := false, orc := oJobs }) (h18 : T 18 = some { c18 with frsh := true, orc := oInts }) (h43 : T 43 = some { c43 with frsh := false, orc := oStarts }) (h20 : T 20 = some { c20 with body := annK [(51539608130, [.slot 6]), (1975684959810, [.slot 11])] [] c20.body, frsh := true, orc := oWait }) (h44 : T 44 = some { c44 with body := annK [(782, [.slot 8])] [] c44.body, frsh := true, orc := oTimed }) (h47 : T 47 = some { c47 with frsh := true, orc := oCame2 }) (h15 : T 15 = some { c15 with frsh := true, orc := oKn }) (W_ : FWorks) (x y : AVal) (hx : rowsV x = some (W_.xs.map rU)) (hy : rowsV y = some (W_.ys.map rU)) (hw : WkOk W_) (tv : AVal) (ts : List Int) (htv : rowsV tv = some (ts.map rW1)) (htb : ∀ n ∈ ts, 0 ≤ n ∧ n ≤ 65535) : Answers P T 11 [.agg (wkC W_ x y), tv] [] fun v h => v = .bool true := by
 have hctx := made_ctx hw
 have hmade := made_eq hx hy hw
 have hord := order_eq hx hy hw (n := (wJobs W_).length) (by have := made_len (w := W_); omega)
 have hj5 := made_len (w := W_)
 obtain ⟨clen, cst, crb, cfz⟩ := wk_cells hx hy hw
 have ccl : cellsOf (.agg (wkC W_ x y)) = some (wkC W_ x y) := rfl
 have hct : (wkC W_ x y).take 26 = wkC W_ x y := List.take_of_length_le (by omega)
 generalize hcells : wkC W_ x y = cells at *
 clear hx hy
 have hc := dInts2_encC (wC W_ (wK W_).toNat)
 have ht := dStops_encN (wT W_ (min W_.xs.length 6))
 have hj : dJobs (encJ (wJ W_ (min W_.ys.length 5))) = some (wJobs W_) := dJobs_encJ _
 have ho := dInts_encE (ordW W_.o (wJobs W_).length)
 change dInts2 _ = some (wShop W_).chg at hc
 change dStops _ = some (wShop W_).stops at ht
 change RunCtx (wShop W_) (wJobs W_) (ordW W_.o (wJobs W_).length) at hctx
 change oMade _ = some (.tup [.agg [I (wShop W_).mach, _, _], _]) at hmade
 generalize ordW W_.o (wJobs W_).length = os at *
 generalize wShop W_ = s at *
 generalize wJobs W_ = js at *
 generalize encC (wC W_ (wK W_).toNat) = c at *
 generalize encN (wT W_ (min W_.xs.length 6)) = t at *
 generalize encJ (wJ W_ (min W_.ys.length 5)) = j at *
 generalize encE os = o at *
 clear hcells
 have hsh := hctx.ok
 have hz := ok_size hsh
 have hos := ord_len hctx.ord
 have h1k : s.chg.length ≤ 1000 ∧ (∀ l ∈ s.chg, l.length ≤ 1000) ∧ s.stops.length ≤ 1000 := ⟨by have := hsh.kinds; omega, fun l hl => by have := (hsh.chg l hl).1; have := hsh.kinds; omega, by have := hsh.nst; omega⟩
 have hcopy := copy_eq (m := s.mach) hc ht h1k
 have hwork := jobs_eq hj (by have := hsh.njob; exact ⟨by omega, fun l hl => by have := (hsh.job l hl).2.2.2.1; have := hsh.mach; omega⟩)
 have hints := ints_eq ho (by have := hsh.njob; omega)
 have hc2 := dInts2_encC s.chg
 have ht2 := dStops_encT s.stops
 have hj2 := dJobs_encJ js
 have ho2 := dInts_encE os
 generalize encC s.chg = c2 at *
 generalize encT s.stops = t2 at *
 generalize encJ js = j2 at *
 generalize encE os = o2 at *
 have fc := fun H d => dInts2_frz hc H d
 have rc := fun n d => dInts2_rb hc n d
 have lc := dInts2_len hc
 obtain ⟨cc1, cc2⟩ := dInts2_cells hc
 have ft := fun H d => dStops_frz ht H d
 have rt := fun n d => dStops_rb ht n d
 have lt := dStops_len ht
 obtain ⟨ct1, ct2⟩ := dStops_cells ht
 have fj := fun H d => dJobs_frz hj H d
 have rj := fun n d => dJobs_rb hj n d
 have lj := dJobs_len hj
 obtain ⟨cj1, cj2⟩ := dJobs_cells hj
 have fo := fun H d => dInts_frz ho H d
 have ro := fun n d => dInts_rb ho n d
 have lo := dInts_len ho
 obtain ⟨co1, co2⟩ := dInts_cells ho
 have fcc := fun H d => dInts2_frz hc2 H d
 have rcc := fun n d => dInts2_rb hc2 n d
 have lcc := dInts2_len hc2
 obtain ⟨ccc1, ccc2⟩ := dInts2_cells hc2
 have ftt := fun H d => dStops_frz ht2 H d
 have rtt := fun n d => dStops_rb ht2 n d
 have ltt := dStops_len ht2
 obtain ⟨ctt1, ctt2⟩ := dStops_cells ht2
 have fjj := fun H d => dJobs_frz hj2 H d
 have rjj := fun n d => dJobs_rb hj2 n d
 have ljj := dJobs_len hj2
 obtain ⟨cjj1, cjj2⟩ := dJobs_cells hj2
 have foo := fun H d => dInts_frz ho2 H d
 have roo := fun n d => dInts_rb ho2 n d
 have loo := dInts_len ho2
 obtain ⟨coo1, coo2⟩ := dInts_cells ho2
 have hstq := starts_eq hc2 ht2 hj2 ho2 hz (by have := hctx.len6; omega)
 have hwtq := wait_eq hc2 ht2 hj2 ho2 hz (by have := hctx.len6; omega)
 rw [ctx_ordE hctx, show startsV s js os = .vl ((stsF s js os).map encS) true by unfold startsV; rw [if_pos (ctx_ordE hctx)]; rfl] at hstq
 rw [ctx_ordE hctx, show waitV s js os = encW (waitN js (stsF s js os) s.mach.toNat) by unfold waitV; rw [if_pos (ctx_ordE hctx)]; rfl] at hwtq
 have hS := sts_ok hctx
 have hs := dInts2_vl (stsF s js os) true
 have hst160 : ∀ l ∈ stsF s js os, ∀ x ∈ l, 0 ≤ x ∧ x ≤ 160000 := (runF_ok hctx.ok hctx.len6 hctx.mem).st
 have hww := dInts_encW (waitN js (stsF s js os) s.mach.toNat)
 have hmach := hsh.mach
 have hwl := waitN_len js (stsF s js os) s.mach.toNat
 generalize hbs : stsF s js os = S at *
 have htim := timed_eq hc ht hj hs hsh hS
 generalize (AVal.vl (S.map encS) true) = sv at *
 obtain ⟨mn, hmn⟩ : ∃ mn : Nat, s.mach = mn := ⟨s.mach.toNat, by omega⟩
 have hmt : s.mach.toNat = mn := by omega
 rw [hmt] at hwl hwtq hww
 have hwg := fun (k : Nat) (hk : k < mn) => waitN_get js S mn k hk
 have hplain := fun (k : Nat) (l : List Int) hl => wait_most hsh hst160 k (l := l) hl
 generalize hWL : waitN js S mn = wl at *
 have hww' := hww
 generalize encW wl = wv at *
 have hwlI : lenA wv = some s.mach.toNat := by rw [dInts_len hww, hwl, hmt]
 have hmtI : ((s.mach.toNat : Nat) : Int) = s.mach := by omega
 have hjn := hsh.njob
 have htvl : lenA tv = some ts.length := by have := rowsV_len htv; rw [List.length_map] at this; exact this
 have fT := fun H d => rowsV_frz htv H d
 have rT := fun n d => rowsV_rb htv n d
 obtain ⟨cT1, cT2⟩ := rowsV_cells htv
 generalize encE (endsL S js s.mach.toNat js.length) = evv at *
 have fs := fun H d => dInts2_frz hs H d
 have rs := fun n d => dInts2_rb hs n d
 have ls := dInts2_len hs
 obtain ⟨cs1, cs2⟩ := dInts2_cells hs
 have fW := fun H d => dInts_frz hww H d
 have rW := fun n d => dInts_rb hww n d
 have lW := dInts_len hww
 obtain ⟨cW1, cW2⟩ := dInts_cells hww
 refine answers_of hT (orcF_none rfl) ?_
 simp only [oo, om, op, og, ci, cl, c11, annK, lkG, lkR, reduceIte, Nat.reduceEqDiff, reduceCtorEq, List.cons.injEq, and_true, and_false, false_and, true_and]
 have HH1 := zA h41 (zA h42 (zA h16 (zA h17 (zA h18 (zA h43 (zA h20 (zA h44 (zA h47 (zA h15 (zA hct (zA ccl (zA clen (zA hmade (zA hord (zA hcopy (zA hwork (zA hints (zA fc (zA rc (zA lc (zA cc1 (zA cc2 (zA ft (zA rt (zA lt (zA ct1 (zA ct2 (zA fj (zA rj (zA lj (zA cj1 (zA cj2 (zA fo (zA ro (zA lo (zA co1 (zA co2 (zA fcc (zA rcc (zA lcc (zA ccc1 (zA ccc2 (zA ftt (zA rtt (zA ltt (zA ctt1 (zA ctt2 (zA fjj (zA rjj (zA ljj (zA cjj1 (zA cjj2 (zA foo (zA roo (zA loo (zA coo1 (zA coo2 (zA hstq (zA hwtq (zA htim (zA hwlI (zA hmtI (zA htvl (zA fT (zA rT (zA cT1 (zA cT2 (zA fs (zA rs (zA ls (zA cs1 (zA cs2 (zA fW (zA rW (zA cW1 cW2)))))))))))))))))))))))))))))))))))))))))))))))))))))))))))))))))))))))))))
 refine zS ?_
 refine zR (zO (by simp [zC h41, zC h42, zC h16, zC h17, zC h18, zC h43, zC h20, zC h44, zC h47, zC h15, oKn, ↓crb, ↓cst, ↓cfz, -lenA, HH1]; rfl) ?_)
 simp only [zT, zB]
 refine zS ?_
 refine zR (zO (by simp [zC h41, zC h42, zC h16, zC h17, zC h18, zC h43, zC h20, zC h44, zC h47, zC h15, oKn, ↓crb, ↓cst, ↓cfz, -lenA, HH1]; rfl) ?_)
 simp only [zT, zB]
 refine zS ?_
 refine zR (zO (by simp [zC h41, zC h42, zC h16, zC h17, zC h18, zC h43, zC h20, zC h44, zC h47, zC h15, oKn, ↓crb, ↓cst, ↓cfz, -lenA, HH1]; rfl) ?_)
 simp only [zT, zB]
 refine zS ?_
 refine zR (zO (by simp [zC h41, zC h42, zC h16, zC h17, zC h18, zC h43, zC h20, zC h44, zC h47, zC h15, oKn, ↓crb, ↓cst, ↓cfz, -lenA, HH1]; rfl) ?_)
 simp only [zT, zB]
 refine zS ?_
 refine zR (zO (by simp [zC h41, zC h42, zC h16, zC h17, zC h18, zC h43, zC h20, zC h44, zC h47, zC h15, oKn, ↓crb, ↓cst, ↓cfz, -lenA, HH1]; rfl) ?_)
 simp only [zT, zB]
 refine zS ?_
 refine zR (zO (by simp [zC h41, zC h42, zC h16, zC h17, zC h18, zC h43, zC h20, zC h44, zC h47, zC h15, oKn, ↓crb, ↓cst, ↓cfz, -lenA, HH1]; rfl) ?_)
 simp only [zT, zB]
 refine zS ?_
 refine zS ?_
 refine zR (zO (by simp [zC h41, zC h42, zC h16, zC h17, zC h18, zC h43, zC h20, zC h44, zC h47, zC h15, oKn, ↓crb, ↓cst, ↓cfz, -lenA, HH1]; rfl) ?_)
 simp only [zT, zB]
 refine runs_cond (x := false) (by simp) ?_
 refine zK ?_
 simp only [zT, zB]
 refine zS ?_
 refine zS ?_
 refine zR (zO (by simp [zC h41, zC h42, zC h16, zC h17, zC h18, zC h43, zC h20, zC h44, zC h47, zC h15, oKn, ↓crb, ↓cst, ↓cfz, -lenA, HH1]; rfl) ?_)
 simp only [zT, zB]
 refine zL ?_
 refine runs_loop_inv (fun m σ => ∃ (k : Nat) (i : Int), i = k ∧ mn - k = m ∧ k ≤ mn ∧ σ = ⟨[.any, tv, .any, .any, .any, .ref 1 0 0, j, .any, sv, .any, wv, .any, .any, .any, I i, .any, .any, .any, .any, .any, .any, .any, .any, .any, .any, .any, .any, .any, .any, .any, .any, .any, .any, .any, .any, .any, .any, .any, .any, .any, .any, .any, .any, .any, .any, .any, .any, .any, .any, .any, .any, .any, .any, .any, .any, .any, .any, .any, .any, .any, .any, .any, .any, .any, .any, .any, .any, .any, .any, .any, .any, .any, .any, .any, .any, .any, .any, .any, .any, .any, .any, .any, .any, .any, .any, .any, .any, .any, .any, .any, .any, .any, .any, .any, .any, .any, .any, .any, .any, .any, .any, .any, .any, .any, .any, .any, .any, .any, .any, .any, .any, .any, .any, .any, .any, .any, .any, .any, .any, .any, .any, .any, .any, .any, .any, .any, .any, .any, .any, .any, .any, .any, .any, .any, .any, .any, .any, .any, .any, .any, .any, .any, .any, .any, .any, .any, .any, .any, .any, .any, .any, .any, .any, .any, .any, .any, .any, .any, .any, .any, .any, .any, .any, .any, .any, .any, .any, .any, .any, .any, .any, .any, .any, .any, .any, .any, .any, .any, .any, .any, .any, .any, .any, .any, .any, .any, .any, .any, .any, .any, .any, .any, .any, .any, .any, .any, .any, .any, .any, .any, .any], [some (.row 26 [cells]), some (.row 3 [[I s.mach, c, t]])]⟩) ?_ (mn - 0) _ ⟨0, 0, rfl, rfl, Nat.zero_le _, by simp⟩
 rintro m σ ⟨k, i, hik, rfl, hkl, rfl⟩
 refine zS ?_
 refine zS ?_
 refine zR (zO (by simp [zC h41, zC h42, zC h16, zC h17, zC h18, zC h43, zC h20, zC h44, zC h47, zC h15, oKn, ↓crb, ↓cst, ↓cfz, -lenA, HH1]; rfl) ?_)
 simp only [zT, zB]
 refine runs_cond_split (x := decide (i < s.mach)) (by simp) (fun hltO => ?_) (fun hltO => ?_)
 ·have hltO := of_decide_eq_true hltO
  have hk0 : k < mn := by omega
  have hkm : (k : Int) < s.mach := by omega
  have hi0 : 0 ≤ i := by omega
  have hin : i.toNat = k := by omega
  have hilo : i < s.mach := by omega
  have hilm : i < (mn : Int) := by omega
  have hwi : W .i64 (i + 1) = i + 1 := W_small (by omega)
  have hwk := hwg k hk0
  have hkwl : k < wl.length := by omega
  have hplk := hplain k
  rw [List.getElem?_eq_getElem hkwl] at hwk
  have hwk2 := Option.some.inj hwk
  obtain ⟨tW, rfl⟩ := dInts_get hww' hkwl
  have hWq : wl[k]? = some wl[k] := List.getElem?_eq_getElem hkwl
  generalize hWK : wl[k] = wk at *
  obtain ⟨pre, hpre⟩ : ∃ pre, pre = timN ts (min ts.length 20) := ⟨_, rfl⟩
  have hprel : pre.length ≤ 20 := by rw [hpre]; unfold timN; rw [List.length_map, List.length_take]; omega
  have HH2 := zA hi0 (zA hin (zA hilo (zA hilm (zA hwi (zA hkwl (zA hWq (zA hWK hwl)))))))
  refine zK ?_
  simp only [zT, zB]
  refine zS ?_
  refine zL ?_
  refine zS ?_
  refine zR (zO (by simp [zC h41, zC h42, zC h16, zC h17, zC h18, zC h43, zC h20, zC h44, zC h47, zC h15, oKn, ↓crb, ↓cst, ↓cfz, -lenA, HH1, zI, HH2]; rfl) ?_)
  simp only [zT, zB]
  refine zS ?_
  refine zS ?_
  refine zR (zO (by simp [zC h41, zC h42, zC h16, zC h17, zC h18, zC h43, zC h20, zC h44, zC h47, zC h15, oKn, ↓crb, ↓cst, ↓cfz, -lenA, HH1, zI, HH2]; rfl) ?_)
  simp only [zT, zB]
  refine zL ?_
  apply zQ
  ·intro s2
   refine runs_loopG_inv (fun mm1 σ => ∃ (k1 : Nat) (i1 : Int), i1 = k1 ∧ (min ts.length 20) - k1 = mm1 ∧ k1 ≤ (min ts.length 20) ∧ ((k1 = 0 ∧ σ = ⟨[.any, tv, .any, .any, .any, .ref 1 0 0, j, .any, sv, .any, .vl (wl.map rI) tW, .any, .any, .any, I i, .sl 3 0 0 true, I i1, .any, .any, .any, .any, .any, .any, .any, .any, .any, .any, .any, .any, .any, .any, .any, .any, .any, .any, .any, .any, .any, .any, .any, .any, .any, .any, .any, .any, .any, .any, .any, .any, .any, .any, .any, .any, .any, .any, .any, .any, .any, .any, .any, .any, .any, .any, .any, .any, .any, .any, .any, .any, .any, .any, .any, .any, .any, .any, .any, .any, .any, .any, .any, .any, .any, .any, .any, .any, .any, .any, .any, .any, .any, .any, .any, .any, .any, .any, .any, .any, .any, .any, .any, .any, .any, .any, .any, .any, .any, .any, .any, .any, .any, .any, .any, .any, .any, .any, .any, .any, .any, .any, .any, .any, .any, .any, .any, .any, .any, .any, .any, .any, .any, .any, .any, .any, .any, .any, .any, .any, .any, .any, .any, .any, .any, .any, .any, .any, .any, .any, .any, .any, .any, .any, .any, .any, .any, .any, .any, .any, .any, .any, .any, .any, .any, .any, .any, .any, .any, .any, .any, .any, .any, .any, .any, .any, .any, .any, .any, .any, .any, .any, .any, .any, .any, .any, .any, .any, .any, .any, .any, .any, .any, .any, .any, .any, .any, .any, .any, .any, .any, .any, .any, .any], [some (.row 26 [cells]), some (.row 3 [[I s.mach, c, t]]), none, some (.row 1 [])]⟩) ∨ (∃ (p1 : Nat) (ac1 : List (Int)), k1 = p1 + 1 ∧ ac1 = timN ts (k1) ∧ ac1.length = p1 + 1 ∧ σ = ⟨[.any, tv, .any, .any, .any, .ref 1 0 0, j, .any, sv, .any, .vl (wl.map rI) tW, .any, .any, .any, I i, .sl 3 0 (p1 + 1) false, I i1, .any, .any, .any, .any, .any, .any, .any, .any, .any, .any, .any, .any, .any, .any, .any, .any, .any, .any, .any, .any, .any, .any, .any, .any, .any, .any, .any, .any, .any, .any, .any, .any, .any, .any, .any, .any, .any, .any, .any, .any, .any, .any, .any, .any, .any, .any, .any, .any, .any, .any, .any, .any, .any, .any, .any, .any, .any, .any, .any, .any, .any, .any, .any, .any, .any, .any, .any, .any, .any, .any, .any, .any, .any, .any, .any, .any, .any, .any, .any, .any, .any, .any, .any, .any, .any, .any, .any, .any, .any, .any, .any, .any, .any, .any, .any, .any, .any, .any, .any, .any, .any, .any, .any, .any, .any, .any, .any, .any, .any, .any, .any, .any, .any, .any, .any, .any, .any, .any, .any, .any, .any, .any, .any, .any, .any, .any, .any, .any, .any, .any, .any, .any, .any, .any, .any, .any, .any, .any, .any, .any, .any, .any, .any, .any, .any, .any, .any, .any, .any, .any, .any, .any, .any, .any, .any, .any, .any, .any, .any, .any, .any, .any, .any, .any, .any, .any, .any, .any, .any, .any, .any, .any, .any, .any, .any, .any, .any, .any, .any, .any, .any, .any, .any, .any], [some (.row 26 [cells]), some (.row 3 [[I s.mach, c, t]]), none, some (.row 1 (ac1.map rI))]⟩))) (by simp [zC h41, zC h42, zC h16, zC h17, zC h18, zC h43, zC h20, zC h44, zC h47, zC h15, oKn, ↓crb, ↓cst, ↓cfz, -lenA, HH1, zI, HH2] <;> first | exact ⟨rfl, rfl⟩ | rfl) (⟨0, 0, rfl, rfl, Nat.zero_le _, .inl ⟨rfl, rfl⟩⟩) ?_
   rintro mm1 σ ⟨k1, i1, hik1, rfl, hkl1, ⟨hkz1, rfl⟩ | ⟨p1, ac1, hkp1, hac1, hacl1, rfl⟩⟩
   ·rcases hA1 : decide (i1 < (ts.length : Int)) with _ | _
    ·refine zS ?_
     refine zS ?_
     refine zR (zO (by simp [zC h41, zC h42, zC h16, zC h17, zC h18, zC h43, zC h20, zC h44, zC h47, zC h15, oKn, ↓crb, ↓cst, ↓cfz, -lenA, HH1, zI, HH2, hA1]; rfl) ?_)
     simp only [zT, zB]
     refine runs_cond (x := false) (by simp) ?_
     have hx1 := of_decide_eq_false hA1
     have hkE1 : k1 = (min ts.length 20) := by omega
     have hpn : pre = [] := by rw [hpre, ← hkE1, hkz1]; rfl
     refine runs_exit ?_
     simp only [zT, zB, if_true, if_false, reduceIte, Nat.reduceEqDiff, Nat.succ_ne_zero, Nat.one_ne_zero, Nat.zero_ne_one]
     refine zS ?_
     refine zR (zO (by simp [zC h41, zC h42, zC h16, zC h17, zC h18, zC h43, zC h20, zC h44, zC h47, zC h15, oKn, ↓crb, ↓cst, ↓cfz, -lenA, HH1, zI, HH2, hA1]; rfl) ?_)
     simp only [zT, zB]
     refine zS ?_
     refine zS ?_
     refine zR (zO (by simp [zC h41, zC h42, zC h16, zC h17, zC h18, zC h43, zC h20, zC h44, zC h47, zC h15, oKn, ↓crb, ↓cst, ↓cfz, -lenA, HH1, zI, HH2, hA1]; rfl) ?_)
     simp only [zT, zB]
     refine zL ?_
     refine runs_loopG_invB 4 rfl (fun m2 σ => ∃ (m : Nat) (g nd : Int), g = m ∧ js.length - m = m2 ∧ m ≤ js.length ∧ nd = needQ js k m ∧ ((pre ++ cmsN js S k m = [] ∧ σ = ⟨[.any, tv, .any, .any, .any, .ref 1 0 0, j, .any, sv, .any, .vl (wl.map rI) tW, .any, .any, .any, I i, .sl 4 0 0 true, .any, I nd, I 0, I g, .any, .any, .any, .any, .any, .any, .any, .any, .any, .any, .any, .any, .any, .any, .any, .any, .any, .any, .any, .any, .any, .any, .any, .any, .any, .any, .any, .any, .any, .any, .any, .any, .any, .any, .any, .any, .any, .any, .any, .any, .any, .any, .any, .any, .any, .any, .any, .any, .any, .any, .any, .any, .any, .any, .any, .any, .any, .any, .any, .any, .any, .any, .any, .any, .any, .any, .any, .any, .any, .any, .any, .any, .any, .any, .any, .any, .any, .any, .any, .any, .any, .any, .any, .any, .any, .any, .any, .any, .any, .any, .any, .any, .any, .any, .any, .any, .any, .any, .any, .any, .any, .any, .any, .any, .any, .any, .any, .any, .any, .any, .any, .any, .any, .any, .any, .any, .any, .any, .any, .any, .any, .any, .any, .any, .any, .any, .any, .any, .any, .any, .any, .any, .any, .any, .any, .any, .any, .any, .any, .any, .any, .any, .any, .any, .any, .any, .any, .any, .any, .any, .any, .any, .any, .any, .any, .any, .any, .any, .any, .any, .any, .any, .any, .any, .any, .any, .any, .any, .any, .any, .any, .any, .any, .any, .any, .any, .any, .any, .any, .any, .any], [some (.row 26 [cells]), some (.row 3 [[I s.mach, c, t]]), none, none, some (.row 1 [])]⟩) ∨ (∃ (q : Nat) (al : List Int), al = pre ++ cmsN js S k m ∧ al.length = q + 1 ∧ σ = ⟨[.any, tv, .any, .any, .any, .ref 1 0 0, j, .any, sv, .any, .vl (wl.map rI) tW, .any, .any, .any, I i, .sl 4 0 (q + 1) false, .any, I nd, I 0, I g, .any, .any, .any, .any, .any, .any, .any, .any, .any, .any, .any, .any, .any, .any, .any, .any, .any, .any, .any, .any, .any, .any, .any, .any, .any, .any, .any, .any, .any, .any, .any, .any, .any, .any, .any, .any, .any, .any, .any, .any, .any, .any, .any, .any, .any, .any, .any, .any, .any, .any, .any, .any, .any, .any, .any, .any, .any, .any, .any, .any, .any, .any, .any, .any, .any, .any, .any, .any, .any, .any, .any, .any, .any, .any, .any, .any, .any, .any, .any, .any, .any, .any, .any, .any, .any, .any, .any, .any, .any, .any, .any, .any, .any, .any, .any, .any, .any, .any, .any, .any, .any, .any, .any, .any, .any, .any, .any, .any, .any, .any, .any, .any, .any, .any, .any, .any, .any, .any, .any, .any, .any, .any, .any, .any, .any, .any, .any, .any, .any, .any, .any, .any, .any, .any, .any, .any, .any, .any, .any, .any, .any, .any, .any, .any, .any, .any, .any, .any, .any, .any, .any, .any, .any, .any, .any, .any, .any, .any, .any, .any, .any, .any, .any, .any, .any, .any, .any, .any, .any, .any, .any, .any, .any, .any, .any, .any, .any, .any, .any, .any, .any], [some (.row 26 [cells]), some (.row 3 [[I s.mach, c, t]]), none, none, some (.row 1 (al.map rI))]⟩))) ?_ (by simp [zC h41, zC h42, zC h16, zC h17, zC h18, zC h43, zC h20, zC h44, zC h47, zC h15, oKn, ↓crb, ↓cst, ↓cfz, -lenA, HH1, zI, HH2, hA1] <;> first | exact ⟨rfl, rfl⟩ | rfl) (⟨0, 0, 0, rfl, rfl, Nat.zero_le _, rfl, .inl ⟨by rw [hpn]; rfl, rfl⟩⟩)
     exact s2
    ·refine zS ?_
     refine zS ?_
     refine zR (zO (by simp [zC h41, zC h42, zC h16, zC h17, zC h18, zC h43, zC h20, zC h44, zC h47, zC h15, oKn, ↓crb, ↓cst, ↓cfz, -lenA, HH1, zI, HH2, hA1]; rfl) ?_)
     simp only [zT, zB]
     refine runs_cond_split (x := decide (i1 < 20)) (by simp) (fun hlt1 => ?_) (fun hlt1 => ?_)
     ·have hAt1 := of_decide_eq_true hA1
      have hltt1 := of_decide_eq_true hlt1
      have hk01 : k1 < (min ts.length 20) := by omega
      have hi01 : 0 ≤ i1 := by omega
      have htn1 : i1.toNat = k1 := by omega
      have hwi1 : W .i64 (i1 + 1) = i1 + 1 := W_small (by omega)
      have hk1t : k1 < ts.length := by omega
      have hF1 : timN ts (k1 + 1) = timN ts k1 ++ [ts[k1].tmod 1000] := by unfold timN; rw [List.take_succ_eq_append_getElem hk1t, List.map_append]; rfl
      obtain ⟨tq, rfl⟩ := rowsV_get htv (k := k1) (by rw [List.length_map]; exact hk1t)
      have hgt : (ts.map rW1)[k1]? = some [.int .u16 ts[k1]] := by rw [List.getElem?_map, List.getElem?_eq_getElem hk1t]; rfl
      have hgt2 : ∀ h, (ts.map rW1)[k1]'h = [.int .u16 ts[k1]] := fun h => by rw [List.getElem_map]; rfl
      have hnb := htb _ (List.getElem_mem hk1t)
      have hi1t : i1 < (ts.length : Int) := by omega
      generalize hN : ts[k1] = nn at *
      have wn0 : W .i64 nn = nn := W_fit (by omega)
      have hm1 : 0 ≤ nn.tmod 1000 := Int.tmod_nonneg 1000 hnb.1
      have hm2 : nn.tmod 1000 < 1000 := Int.tmod_lt_of_pos _ (by decide)
      have wn1 : W .i64 (nn.tmod 1000) = nn.tmod 1000 := W_fit (by omega)
      have hnx1 : [nn.tmod 1000] = timN ts (k1 + 1) := by rw [hF1, hkz1]; rfl
      have hap1 : [[I (nn.tmod 1000)]] = [nn.tmod 1000].map rI := rfl
      have HH3 := zA hA1 (zA hi01 (zA htn1 (zA hk01 (zA hwi1 (zA hk1t (zA hgt (zA hgt2 (zA hi1t (zA hN (zA wn0 wn1))))))))))
      refine zK ?_
      simp only [zT, zB]
      refine zS ?_
      refine zL ?_
      refine zR (zO (by simp [zC h41, zC h42, zC h16, zC h17, zC h18, zC h43, zC h20, zC h44, zC h47, zC h15, oKn, ↓crb, ↓cst, ↓cfz, -lenA, HH1, zI, HH2, -List.getElem?_map, -List.getElem_map, HH3]; rfl) ?_)
      simp only [zT, zB]
      refine zR (zO (by simp [zC h41, zC h42, zC h16, zC h17, zC h18, zC h43, zC h20, zC h44, zC h47, zC h15, oKn, ↓crb, ↓cst, ↓cfz, -lenA, HH1, zI, HH2, -List.getElem?_map, -List.getElem_map, HH3]; rfl) ?_)
      simp only [zT, zB]
      exact ⟨(min ts.length 20) - (k1 + 1), _, _, by omega, by simp [zC h41, zC h42, zC h16, zC h17, zC h18, zC h43, zC h20, zC h44, zC h47, zC h15, oKn, ↓crb, ↓cst, ↓cfz, -lenA, HH1, zI, HH2, -List.getElem?_map, -List.getElem_map, HH3] <;> first | exact ⟨rfl, rfl⟩ | rfl, k1 + 1, i1 + 1, by omega, rfl, by omega, .inr ⟨0, [nn.tmod 1000], by omega, hnx1, rfl, rfl⟩⟩
     ·have hAt1 := of_decide_eq_true hA1
      have hx1 := of_decide_eq_false hlt1
      have hkE1 : k1 = (min ts.length 20) := by omega
      have hpn : pre = [] := by rw [hpre, ← hkE1, hkz1]; rfl
      refine runs_exit ?_
      simp only [zT, zB, if_true, if_false, reduceIte, Nat.reduceEqDiff, Nat.succ_ne_zero, Nat.one_ne_zero, Nat.zero_ne_one]
      refine zS ?_
      refine zR (zO (by simp [zC h41, zC h42, zC h16, zC h17, zC h18, zC h43, zC h20, zC h44, zC h47, zC h15, oKn, ↓crb, ↓cst, ↓cfz, -lenA, HH1, zI, HH2, hA1]; rfl) ?_)
      simp only [zT, zB]
      refine zS ?_
      refine zS ?_
      refine zR (zO (by simp [zC h41, zC h42, zC h16, zC h17, zC h18, zC h43, zC h20, zC h44, zC h47, zC h15, oKn, ↓crb, ↓cst, ↓cfz, -lenA, HH1, zI, HH2, hA1]; rfl) ?_)
      simp only [zT, zB]
      refine zL ?_
      refine runs_loopG_invB 4 rfl (fun m2 σ => ∃ (m : Nat) (g nd : Int), g = m ∧ js.length - m = m2 ∧ m ≤ js.length ∧ nd = needQ js k m ∧ ((pre ++ cmsN js S k m = [] ∧ σ = ⟨[.any, tv, .any, .any, .any, .ref 1 0 0, j, .any, sv, .any, .vl (wl.map rI) tW, .any, .any, .any, I i, .sl 4 0 0 true, .any, I nd, I 0, I g, .any, .any, .any, .any, .any, .any, .any, .any, .any, .any, .any, .any, .any, .any, .any, .any, .any, .any, .any, .any, .any, .any, .any, .any, .any, .any, .any, .any, .any, .any, .any, .any, .any, .any, .any, .any, .any, .any, .any, .any, .any, .any, .any, .any, .any, .any, .any, .any, .any, .any, .any, .any, .any, .any, .any, .any, .any, .any, .any, .any, .any, .any, .any, .any, .any, .any, .any, .any, .any, .any, .any, .any, .any, .any, .any, .any, .any, .any, .any, .any, .any, .any, .any, .any, .any, .any, .any, .any, .any, .any, .any, .any, .any, .any, .any, .any, .any, .any, .any, .any, .any, .any, .any, .any, .any, .any, .any, .any, .any, .any, .any, .any, .any, .any, .any, .any, .any, .any, .any, .any, .any, .any, .any, .any, .any, .any, .any, .any, .any, .any, .any, .any, .any, .any, .any, .any, .any, .any, .any, .any, .any, .any, .any, .any, .any, .any, .any, .any, .any, .any, .any, .any, .any, .any, .any, .any, .any, .any, .any, .any, .any, .any, .any, .any, .any, .any, .any, .any, .any, .any, .any, .any, .any, .any, .any, .any, .any, .any, .any, .any, .any], [some (.row 26 [cells]), some (.row 3 [[I s.mach, c, t]]), none, none, some (.row 1 [])]⟩) ∨ (∃ (q : Nat) (al : List Int), al = pre ++ cmsN js S k m ∧ al.length = q + 1 ∧ σ = ⟨[.any, tv, .any, .any, .any, .ref 1 0 0, j, .any, sv, .any, .vl (wl.map rI) tW, .any, .any, .any, I i, .sl 4 0 (q + 1) false, .any, I nd, I 0, I g, .any, .any, .any, .any, .any, .any, .any, .any, .any, .any, .any, .any, .any, .any, .any, .any, .any, .any, .any, .any, .any, .any, .any, .any, .any, .any, .any, .any, .any, .any, .any, .any, .any, .any, .any, .any, .any, .any, .any, .any, .any, .any, .any, .any, .any, .any, .any, .any, .any, .any, .any, .any, .any, .any, .any, .any, .any, .any, .any, .any, .any, .any, .any, .any, .any, .any, .any, .any, .any, .any, .any, .any, .any, .any, .any, .any, .any, .any, .any, .any, .any, .any, .any, .any, .any, .any, .any, .any, .any, .any, .any, .any, .any, .any, .any, .any, .any, .any, .any, .any, .any, .any, .any, .any, .any, .any, .any, .any, .any, .any, .any, .any, .any, .any, .any, .any, .any, .any, .any, .any, .any, .any, .any, .any, .any, .any, .any, .any, .any, .any, .any, .any, .any, .any, .any, .any, .any, .any, .any, .any, .any, .any, .any, .any, .any, .any, .any, .any, .any, .any, .any, .any, .any, .any, .any, .any, .any, .any, .any, .any, .any, .any, .any, .any, .any, .any, .any, .any, .any, .any, .any, .any, .any, .any, .any, .any, .any, .any, .any, .any, .any], [some (.row 26 [cells]), some (.row 3 [[I s.mach, c, t]]), none, none, some (.row 1 (al.map rI))]⟩))) ?_ (by simp [zC h41, zC h42, zC h16, zC h17, zC h18, zC h43, zC h20, zC h44, zC h47, zC h15, oKn, ↓crb, ↓cst, ↓cfz, -lenA, HH1, zI, HH2, hA1] <;> first | exact ⟨rfl, rfl⟩ | rfl) (⟨0, 0, 0, rfl, rfl, Nat.zero_le _, rfl, .inl ⟨by rw [hpn]; rfl, rfl⟩⟩)
      exact s2
   ·have tk1 : (ac1.map rI).take (p1 + 1) = ac1.map rI := List.take_of_length_le (by simp [hacl1])
    have hlac1 : p1 + 1 + 1 ≤ 1048576 := by omega
    have hr31 : ∀ e : Int, (rI e).length = 1 := fun _ => rfl
    have hfr1 := fun n h r => optAll_snoc (frN_rI n h ac1) r
    have hrj1 := fun n => rI_rb n 4 ac1
    rcases hA1 : decide (i1 < (ts.length : Int)) with _ | _
    ·have HH4 := zA tk1 (zA hlac1 (zA hacl1 (zA hr31 hA1)))
     have HH5 := zA crb (zA cst (zA cfz (zA hfr1 hrj1)))
     refine zS ?_
     refine zS ?_
     refine zR (zO (by simp [zC h41, zC h42, zC h16, zC h17, zC h18, zC h43, zC h20, zC h44, zC h47, zC h15, oKn, -lenA, HH1, zI, HH2, HH4, ↓HH5]; rfl) ?_)
     simp only [zT, zB]
     refine runs_cond (x := false) (by simp) ?_
     have hx1 := of_decide_eq_false hA1
     have hkE1 : k1 = (min ts.length 20) := by omega
     rw [hkE1] at hac1
     have hpa : ac1 = pre := by rw [hpre, hac1]
     have hpn : pre ≠ [] := by intro e; rw [hpa, e] at hacl1; simp at hacl1
     refine runs_exit ?_
     simp only [zT, zB, if_true, if_false, reduceIte, Nat.reduceEqDiff, Nat.succ_ne_zero, Nat.one_ne_zero, Nat.zero_ne_one]
     refine zS ?_
     refine zR (zO (by simp [zC h41, zC h42, zC h16, zC h17, zC h18, zC h43, zC h20, zC h44, zC h47, zC h15, oKn, -lenA, HH1, zI, HH2, HH4, ↓HH5]; rfl) ?_)
     simp only [zT, zB]
     refine zS ?_
     refine zS ?_
     refine zR (zO (by simp [zC h41, zC h42, zC h16, zC h17, zC h18, zC h43, zC h20, zC h44, zC h47, zC h15, oKn, -lenA, HH1, zI, HH2, HH4, ↓HH5]; rfl) ?_)
     simp only [zT, zB]
     refine zL ?_
     refine runs_loopG_invB 4 rfl (fun m2 σ => ∃ (m : Nat) (g nd : Int), g = m ∧ js.length - m = m2 ∧ m ≤ js.length ∧ nd = needQ js k m ∧ ((pre ++ cmsN js S k m = [] ∧ σ = ⟨[.any, tv, .any, .any, .any, .ref 1 0 0, j, .any, sv, .any, .vl (wl.map rI) tW, .any, .any, .any, I i, .sl 4 0 0 true, .any, I nd, I 0, I g, .any, .any, .any, .any, .any, .any, .any, .any, .any, .any, .any, .any, .any, .any, .any, .any, .any, .any, .any, .any, .any, .any, .any, .any, .any, .any, .any, .any, .any, .any, .any, .any, .any, .any, .any, .any, .any, .any, .any, .any, .any, .any, .any, .any, .any, .any, .any, .any, .any, .any, .any, .any, .any, .any, .any, .any, .any, .any, .any, .any, .any, .any, .any, .any, .any, .any, .any, .any, .any, .any, .any, .any, .any, .any, .any, .any, .any, .any, .any, .any, .any, .any, .any, .any, .any, .any, .any, .any, .any, .any, .any, .any, .any, .any, .any, .any, .any, .any, .any, .any, .any, .any, .any, .any, .any, .any, .any, .any, .any, .any, .any, .any, .any, .any, .any, .any, .any, .any, .any, .any, .any, .any, .any, .any, .any, .any, .any, .any, .any, .any, .any, .any, .any, .any, .any, .any, .any, .any, .any, .any, .any, .any, .any, .any, .any, .any, .any, .any, .any, .any, .any, .any, .any, .any, .any, .any, .any, .any, .any, .any, .any, .any, .any, .any, .any, .any, .any, .any, .any, .any, .any, .any, .any, .any, .any, .any, .any, .any, .any, .any, .any], [some (.row 26 [cells]), some (.row 3 [[I s.mach, c, t]]), none, none, some (.row 1 [])]⟩) ∨ (∃ (q : Nat) (al : List Int), al = pre ++ cmsN js S k m ∧ al.length = q + 1 ∧ σ = ⟨[.any, tv, .any, .any, .any, .ref 1 0 0, j, .any, sv, .any, .vl (wl.map rI) tW, .any, .any, .any, I i, .sl 4 0 (q + 1) false, .any, I nd, I 0, I g, .any, .any, .any, .any, .any, .any, .any, .any, .any, .any, .any, .any, .any, .any, .any, .any, .any, .any, .any, .any, .any, .any, .any, .any, .any, .any, .any, .any, .any, .any, .any, .any, .any, .any, .any, .any, .any, .any, .any, .any, .any, .any, .any, .any, .any, .any, .any, .any, .any, .any, .any, .any, .any, .any, .any, .any, .any, .any, .any, .any, .any, .any, .any, .any, .any, .any, .any, .any, .any, .any, .any, .any, .any, .any, .any, .any, .any, .any, .any, .any, .any, .any, .any, .any, .any, .any, .any, .any, .any, .any, .any, .any, .any, .any, .any, .any, .any, .any, .any, .any, .any, .any, .any, .any, .any, .any, .any, .any, .any, .any, .any, .any, .any, .any, .any, .any, .any, .any, .any, .any, .any, .any, .any, .any, .any, .any, .any, .any, .any, .any, .any, .any, .any, .any, .any, .any, .any, .any, .any, .any, .any, .any, .any, .any, .any, .any, .any, .any, .any, .any, .any, .any, .any, .any, .any, .any, .any, .any, .any, .any, .any, .any, .any, .any, .any, .any, .any, .any, .any, .any, .any, .any, .any, .any, .any, .any, .any, .any, .any, .any, .any], [some (.row 26 [cells]), some (.row 3 [[I s.mach, c, t]]), none, none, some (.row 1 (al.map rI))]⟩))) ?_ (by simp [zC h41, zC h42, zC h16, zC h17, zC h18, zC h43, zC h20, zC h44, zC h47, zC h15, oKn, -lenA, HH1, zI, HH2, HH4, ↓HH5] <;> first | exact ⟨rfl, rfl⟩ | rfl) (⟨0, 0, 0, rfl, rfl, Nat.zero_le _, rfl, .inr ⟨p1, ac1, by rw [hpa]; simp [cmsN], hacl1, rfl⟩⟩)
     exact s2
    ·have HH6 := zA tk1 (zA hlac1 (zA hacl1 (zA hr31 hA1)))
     have HH7 := zA crb (zA cst (zA cfz (zA hfr1 hrj1)))
     refine zS ?_
     refine zS ?_
     refine zR (zO (by simp [zC h41, zC h42, zC h16, zC h17, zC h18, zC h43, zC h20, zC h44, zC h47, zC h15, oKn, -lenA, HH1, zI, HH2, HH6, ↓HH7]; rfl) ?_)
     simp only [zT, zB]
     refine runs_cond_split (x := decide (i1 < 20)) (by simp) (fun hlt1 => ?_) (fun hlt1 => ?_)
     ·have hAt1 := of_decide_eq_true hA1
      have hltt1 := of_decide_eq_true hlt1
      have hk01 : k1 < (min ts.length 20) := by omega
      have hi01 : 0 ≤ i1 := by omega
      have htn1 : i1.toNat = k1 := by omega
      have hwi1 : W .i64 (i1 + 1) = i1 + 1 := W_small (by omega)
      have hk1t : k1 < ts.length := by omega
      have hF1 : timN ts (k1 + 1) = timN ts k1 ++ [ts[k1].tmod 1000] := by unfold timN; rw [List.take_succ_eq_append_getElem hk1t, List.map_append]; rfl
      obtain ⟨tq, rfl⟩ := rowsV_get htv (k := k1) (by rw [List.length_map]; exact hk1t)
      have hgt : (ts.map rW1)[k1]? = some [.int .u16 ts[k1]] := by rw [List.getElem?_map, List.getElem?_eq_getElem hk1t]; rfl
      have hgt2 : ∀ h, (ts.map rW1)[k1]'h = [.int .u16 ts[k1]] := fun h => by rw [List.getElem_map]; rfl
      have hnb := htb _ (List.getElem_mem hk1t)
      have hi1t : i1 < (ts.length : Int) := by omega
      generalize hN : ts[k1] = nn at *
      have wn0 : W .i64 nn = nn := W_fit (by omega)
      have hm1 : 0 ≤ nn.tmod 1000 := Int.tmod_nonneg 1000 hnb.1
      have hm2 : nn.tmod 1000 < 1000 := Int.tmod_lt_of_pos _ (by decide)
      have wn1 : W .i64 (nn.tmod 1000) = nn.tmod 1000 := W_fit (by omega)
      have hnx1 : ac1 ++ [nn.tmod 1000] = timN ts (k1 + 1) := by rw [hF1, ← hac1]
      have hnl1 : (ac1 ++ [nn.tmod 1000]).length = p1 + 1 + 1 := by simp [hacl1]
      have hap1 : ac1.map rI ++ [[I (nn.tmod 1000)]] = (ac1 ++ [nn.tmod 1000]).map rI := by rw [List.map_append]; rfl
      generalize ac1 ++ [nn.tmod 1000] = nx1 at *
      have hrx1 := fun n => rI_rb n 4 nx1
      have HH8 := zA hi01 (zA htn1 (zA hk01 (zA hwi1 (zA hap1 (zA hk1t (zA hgt (zA hgt2 (zA hi1t (zA hN (zA wn0 wn1))))))))))
      refine zK ?_
      simp only [zT, zB]
      refine zS ?_
      refine zL ?_
      refine zR (zO (by simp [zC h41, zC h42, zC h16, zC h17, zC h18, zC h43, zC h20, zC h44, zC h47, zC h15, oKn, -lenA, HH1, zI, HH2, HH6, ↓HH7, ↓hrx1, -List.getElem?_map, -List.getElem_map, HH8]; rfl) ?_)
      simp only [zT, zB]
      refine zR (zO (by simp [zC h41, zC h42, zC h16, zC h17, zC h18, zC h43, zC h20, zC h44, zC h47, zC h15, oKn, -lenA, HH1, zI, HH2, HH6, ↓HH7, ↓hrx1, -List.getElem?_map, -List.getElem_map, HH8]; rfl) ?_)
      simp only [zT, zB]
      exact ⟨(min ts.length 20) - (k1 + 1), _, _, by omega, by simp [zC h41, zC h42, zC h16, zC h17, zC h18, zC h43, zC h20, zC h44, zC h47, zC h15, oKn, -lenA, HH1, zI, HH2, HH6, ↓HH7, ↓hrx1, -List.getElem?_map, -List.getElem_map, HH8] <;> first | exact ⟨rfl, rfl⟩ | rfl, k1 + 1, i1 + 1, by omega, rfl, by omega, .inr ⟨p1 + 1, nx1, by omega, hnx1, hnl1, rfl⟩⟩
     ·have hAt1 := of_decide_eq_true hA1
      have hx1 := of_decide_eq_false hlt1
      have hkE1 : k1 = (min ts.length 20) := by omega
      rw [hkE1] at hac1
      have hpa : ac1 = pre := by rw [hpre, hac1]
      have hpn : pre ≠ [] := by intro e; rw [hpa, e] at hacl1; simp at hacl1
      refine runs_exit ?_
      simp only [zT, zB, if_true, if_false, reduceIte, Nat.reduceEqDiff, Nat.succ_ne_zero, Nat.one_ne_zero, Nat.zero_ne_one]
      refine zS ?_
      refine zR (zO (by simp [zC h41, zC h42, zC h16, zC h17, zC h18, zC h43, zC h20, zC h44, zC h47, zC h15, oKn, -lenA, HH1, zI, HH2, HH6, ↓HH7]; rfl) ?_)
      simp only [zT, zB]
      refine zS ?_
      refine zS ?_
      refine zR (zO (by simp [zC h41, zC h42, zC h16, zC h17, zC h18, zC h43, zC h20, zC h44, zC h47, zC h15, oKn, -lenA, HH1, zI, HH2, HH6, ↓HH7]; rfl) ?_)
      simp only [zT, zB]
      refine zL ?_
      refine runs_loopG_invB 4 rfl (fun m2 σ => ∃ (m : Nat) (g nd : Int), g = m ∧ js.length - m = m2 ∧ m ≤ js.length ∧ nd = needQ js k m ∧ ((pre ++ cmsN js S k m = [] ∧ σ = ⟨[.any, tv, .any, .any, .any, .ref 1 0 0, j, .any, sv, .any, .vl (wl.map rI) tW, .any, .any, .any, I i, .sl 4 0 0 true, .any, I nd, I 0, I g, .any, .any, .any, .any, .any, .any, .any, .any, .any, .any, .any, .any, .any, .any, .any, .any, .any, .any, .any, .any, .any, .any, .any, .any, .any, .any, .any, .any, .any, .any, .any, .any, .any, .any, .any, .any, .any, .any, .any, .any, .any, .any, .any, .any, .any, .any, .any, .any, .any, .any, .any, .any, .any, .any, .any, .any, .any, .any, .any, .any, .any, .any, .any, .any, .any, .any, .any, .any, .any, .any, .any, .any, .any, .any, .any, .any, .any, .any, .any, .any, .any, .any, .any, .any, .any, .any, .any, .any, .any, .any, .any, .any, .any, .any, .any, .any, .any, .any, .any, .any, .any, .any, .any, .any, .any, .any, .any, .any, .any, .any, .any, .any, .any, .any, .any, .any, .any, .any, .any, .any, .any, .any, .any, .any, .any, .any, .any, .any, .any, .any, .any, .any, .any, .any, .any, .any, .any, .any, .any, .any, .any, .any, .any, .any, .any, .any, .any, .any, .any, .any, .any, .any, .any, .any, .any, .any, .any, .any, .any, .any, .any, .any, .any, .any, .any, .any, .any, .any, .any, .any, .any, .any, .any, .any, .any, .any, .any, .any, .any, .any, .any], [some (.row 26 [cells]), some (.row 3 [[I s.mach, c, t]]), none, none, some (.row 1 [])]⟩) ∨ (∃ (q : Nat) (al : List Int), al = pre ++ cmsN js S k m ∧ al.length = q + 1 ∧ σ = ⟨[.any, tv, .any, .any, .any, .ref 1 0 0, j, .any, sv, .any, .vl (wl.map rI) tW, .any, .any, .any, I i, .sl 4 0 (q + 1) false, .any, I nd, I 0, I g, .any, .any, .any, .any, .any, .any, .any, .any, .any, .any, .any, .any, .any, .any, .any, .any, .any, .any, .any, .any, .any, .any, .any, .any, .any, .any, .any, .any, .any, .any, .any, .any, .any, .any, .any, .any, .any, .any, .any, .any, .any, .any, .any, .any, .any, .any, .any, .any, .any, .any, .any, .any, .any, .any, .any, .any, .any, .any, .any, .any, .any, .any, .any, .any, .any, .any, .any, .any, .any, .any, .any, .any, .any, .any, .any, .any, .any, .any, .any, .any, .any, .any, .any, .any, .any, .any, .any, .any, .any, .any, .any, .any, .any, .any, .any, .any, .any, .any, .any, .any, .any, .any, .any, .any, .any, .any, .any, .any, .any, .any, .any, .any, .any, .any, .any, .any, .any, .any, .any, .any, .any, .any, .any, .any, .any, .any, .any, .any, .any, .any, .any, .any, .any, .any, .any, .any, .any, .any, .any, .any, .any, .any, .any, .any, .any, .any, .any, .any, .any, .any, .any, .any, .any, .any, .any, .any, .any, .any, .any, .any, .any, .any, .any, .any, .any, .any, .any, .any, .any, .any, .any, .any, .any, .any, .any, .any, .any, .any, .any, .any, .any], [some (.row 26 [cells]), some (.row 3 [[I s.mach, c, t]]), none, none, some (.row 1 (al.map rI))]⟩))) ?_ (by simp [zC h41, zC h42, zC h16, zC h17, zC h18, zC h43, zC h20, zC h44, zC h47, zC h15, oKn, -lenA, HH1, zI, HH2, HH6, ↓HH7] <;> first | exact ⟨rfl, rfl⟩ | rfl) (⟨0, 0, 0, rfl, rfl, Nat.zero_le _, rfl, .inr ⟨p1, ac1, by rw [hpa]; simp [cmsN], hacl1, rfl⟩⟩)
      exact s2
  ·rintro m2 σ ⟨m, g, nd, hgm, rfl, hmj, hnd, ⟨hal, rfl⟩ | ⟨q, al, hal, hll, rfl⟩⟩
   ·refine zS ?_
    refine zS ?_
    refine zR (zO (by simp [zC h41, zC h42, zC h16, zC h17, zC h18, zC h43, zC h20, zC h44, zC h47, zC h15, oKn, ↓crb, ↓cst, ↓cfz, -lenA, HH1, zI, HH2]; rfl) ?_)
    simp only [zT, zB]
    refine runs_cond_split (x := decide (g < (js.length : Int))) (by simp) (fun hlt2 => ?_) (fun hlt2 => ?_)
    ·have hlt2' := of_decide_eq_true hlt2
     have hm0 : m < js.length := by omega
     have hmS : m < S.length := by rw [hS.len]; exact hm0
     have hg0 : 0 ≤ g := by omega
     have hgn : g.toNat = m := by omega
     have hwgg : W .i64 (g + 1) = g + 1 := W_small (by omega)
     have hjb := hsh.job _ (List.getElem_mem hm0)
     have hrow := hS.row _ (List.getElem_mem hmS)
     have hJ := jobAt_eq hm0
     have hkj : k < js[m].mins.length := by have := hjb.2.2.2.1; omega
     have hij : i < (js[m].mins.length : Int) := by omega
     have hcm : cmsN js S k (m + 1) = cmsN js S k m ++ [cameF js S k m] := rfl
     have hnq : needQ js k (m + 1) = needQ js k m + if 0 < minAt (jobAt js m) k then 1 else 0 := rfl
     have hnb := needQ_bd js k m
     rw [hJ, minAt_eq hkj, ← hnd] at hnq
     rw [← hnd] at hnb
     obtain ⟨jr, tj, wv, rfl, hr1, hr2, hwv⟩ := dJobs_get hj hm0
     have hkr : m < jr.length := by omega
     have hr4 : ∀ h, jr[m]'h = [I js[m].kind, I js[m].ready, I js[m].due, wv] := fun h => by rw [List.getElem?_eq_getElem h] at hr2; exact Option.some.inj hr2
     have rw5 := fun n d => dInts_rb hwv n d
     have fw5 := fun H d => dInts_frz hwv H d
     have lw5 := dInts_len hwv
     obtain ⟨cw1, cw2⟩ := dInts_cells hwv
     obtain ⟨sr, tt, wt, rfl, hs1, hs2, hwt⟩ := dInts2_get hs hmS
     have hksr : m < sr.length := by omega
     have hs4 : ∀ h, sr[m]'h = [wt] := fun h => by rw [List.getElem?_eq_getElem h] at hs2; exact Option.some.inj hs2
     have rt5 := fun n d => dInts_rb hwt n d
     have ft5 := fun H d => dInts_frz hwt H d
     have lt5 := dInts_len hwt
     obtain ⟨ctw1, ctw2⟩ := dInts_cells hwt
     have hce := came_eq hsh hS hm0 (g := i) (k := k) (by omega) hkm hwv hwt
     obtain ⟨twm, rfl⟩ := dInts_get hwv hkj
     generalize hV : js[m].mins[k] = V at *
     generalize hC : cameF js S k m = C at *
     have hwnd : W .i64 (nd + 1) = nd + 1 := W_small (by omega)
     have hnx : [C] = pre ++ cmsN js S k (m + 1) := by rw [hcm, ← List.append_assoc, hal]; rfl
     have hap : [[I C]] = [C].map rI := rfl
     have HH9 := zA hg0 (zA hgn (zA hm0 (zA hmS (zA hwgg (zA hkj (zA hij (zA hV (zA hce (zA hwnd (zA hkr (zA hr2 (zA hr4 (zA rw5 (zA fw5 (zA lw5 (zA cw1 (zA cw2 (zA hksr (zA hs2 (zA hs4 (zA rt5 (zA ft5 (zA lt5 (zA ctw1 ctw2))))))))))))))))))))))))
     refine zK ?_
     simp only [zT, zB]
     refine zS ?_
     refine zL ?_
     refine zS ?_
     refine zS ?_
     refine zR (zO (by simp [zC h41, zC h42, zC h16, zC h17, zC h18, zC h43, zC h20, zC h44, zC h47, zC h15, oKn, ↓crb, ↓cst, ↓cfz, -lenA, HH1, zI, HH2, HH9]; rfl) ?_)
     simp only [zT, zB]
     refine runs_cond_split (x := decide (0 < V)) (by simp) (fun hv => ?_) (fun hv => ?_)
     ·refine zR (zO (by simp [zC h41, zC h42, zC h16, zC h17, zC h18, zC h43, zC h20, zC h44, zC h47, zC h15, oKn, ↓crb, ↓cst, ↓cfz, -lenA, HH1, zI, HH2, HH9]; rfl) ?_)
      simp only [zT, zB]
      refine runs_drw (by simp (maxSteps := 3000000) [zC h41, zC h42, zC h16, zC h17, zC h18, zC h43, zC h20, zC h44, zC h47, zC h15, oKn, ↓crb, ↓cst, ↓cfz, -lenA, HH1, zI, HH2, HH9]; rfl) ?_
      simp only [zT, zB]
      refine zR (zO (by simp [zC h41, zC h42, zC h16, zC h17, zC h18, zC h43, zC h20, zC h44, zC h47, zC h15, oKn, ↓crb, ↓cst, ↓cfz, -lenA, HH1, zI, HH2, HH9]; rfl) ?_)
      simp only [zT, zB]
      exact ⟨js.length - (m + 1), _, _, by omega, by simp [zC h41, zC h42, zC h16, zC h17, zC h18, zC h43, zC h20, zC h44, zC h47, zC h15, oKn, ↓crb, ↓cst, ↓cfz, -lenA, HH1, zI, HH2, HH9] <;> first | exact ⟨rfl, rfl⟩ | rfl, m + 1, g + 1, nd + 1, by omega, rfl, by omega, by rw [hnq, if_pos (of_decide_eq_true hv)], .inr ⟨0, [C], hnx, rfl, rfl⟩⟩
     ·refine zK ?_
      simp only [zT, zB]
      refine runs_drw (by simp (maxSteps := 3000000) [zC h41, zC h42, zC h16, zC h17, zC h18, zC h43, zC h20, zC h44, zC h47, zC h15, oKn, ↓crb, ↓cst, ↓cfz, -lenA, HH1, zI, HH2, HH9]; rfl) ?_
      simp only [zT, zB]
      refine zR (zO (by simp [zC h41, zC h42, zC h16, zC h17, zC h18, zC h43, zC h20, zC h44, zC h47, zC h15, oKn, ↓crb, ↓cst, ↓cfz, -lenA, HH1, zI, HH2, HH9]; rfl) ?_)
      simp only [zT, zB]
      exact ⟨js.length - (m + 1), _, _, by omega, by simp [zC h41, zC h42, zC h16, zC h17, zC h18, zC h43, zC h20, zC h44, zC h47, zC h15, oKn, ↓crb, ↓cst, ↓cfz, -lenA, HH1, zI, HH2, HH9] <;> first | exact ⟨rfl, rfl⟩ | rfl, m + 1, g + 1, nd, by omega, rfl, by omega, by rw [hnq, if_neg (of_decide_eq_false hv)]; omega, .inr ⟨0, [C], hnx, rfl, rfl⟩⟩
    ·have hlt2' := of_decide_eq_false hlt2
     have hmE : m = js.length := by omega
     subst hmE
     refine runs_exit ?_
     simp only [zT, zB, if_true, if_false, reduceIte, Nat.reduceEqDiff, Nat.succ_ne_zero, Nat.one_ne_zero, Nat.zero_ne_one]
     refine zS ?_
     refine zS ?_
     refine zR (zO (by simp [zC h41, zC h42, zC h16, zC h17, zC h18, zC h43, zC h20, zC h44, zC h47, zC h15, oKn, ↓crb, ↓cst, ↓cfz, -lenA, HH1, zI, HH2]; rfl) ?_)
     simp only [zT, zB]
     refine zL ?_
     have hnil : mostQ js S k (pre ++ cmsN js S k js.length) (pre ++ cmsN js S k js.length).length = 0 := by rw [hal]; rfl
     have hw0 : wk = 0 := by rw [hwk2, hplk _ (fun p hp => List.mem_append_right _ (cmsN_mem js S k _ p hp)), hnil]
     have hnd0 := (needQ_bd js k js.length).1
     rw [← hnd] at hnd0
     subst hw0
     refine runs_loop_inv (fun m σ => σ = ⟨[.any, tv, .any, .any, .any, .ref 1 0 0, j, .any, sv, .any, .vl (wl.map rI) tW, .any, .any, .any, I i, .sl 4 0 0 true, .any, I nd, I 0, .any, I 0, .any, .any, .any, .any, .any, .any, .any, .any, .any, .any, .any, .any, .any, .any, .any, .any, .any, .any, .any, .any, .any, .any, .any, .any, .any, .any, .any, .any, .any, .any, .any, .any, .any, .any, .any, .any, .any, .any, .any, .any, .any, .any, .any, .any, .any, .any, .any, .any, .any, .any, .any, .any, .any, .any, .any, .any, .any, .any, .any, .any, .any, .any, .any, .any, .any, .any, .any, .any, .any, .any, .any, .any, .any, .any, .any, .any, .any, .any, .any, .any, .any, .any, .any, .any, .any, .any, .any, .any, .any, .any, .any, .any, .any, .any, .any, .any, .any, .any, .any, .any, .any, .any, .any, .any, .any, .any, .any, .any, .any, .any, .any, .any, .any, .any, .any, .any, .any, .any, .any, .any, .any, .any, .any, .any, .any, .any, .any, .any, .any, .any, .any, .any, .any, .any, .any, .any, .any, .any, .any, .any, .any, .any, .any, .any, .any, .any, .any, .any, .any, .any, .any, .any, .any, .any, .any, .any, .any, .any, .any, .any, .any, .any, .any, .any, .any, .any, .any, .any, .any, .any, .any, .any, .any, .any, .any, .any, .any, .any, .any, .any], [some (.row 26 [cells]), some (.row 3 [[I s.mach, c, t]]), none, none, some (.row 1 [])]⟩) ?_ 0 _ (by simp)
     rintro m3 σ rfl
     refine zS ?_
     refine zS ?_
     refine zR (zO (by simp [zC h41, zC h42, zC h16, zC h17, zC h18, zC h43, zC h20, zC h44, zC h47, zC h15, oKn, ↓crb, ↓cst, ↓cfz, -lenA, HH1, zI, HH2, hnd0]; rfl) ?_)
     simp only [zT, zB]
     refine runs_cond (x := false) (by simp) ?_
     refine runs_exit ?_
     simp only [zT, zB, if_true, if_false, reduceIte, Nat.reduceEqDiff, Nat.succ_ne_zero, Nat.one_ne_zero, Nat.zero_ne_one]
     refine zS ?_
     refine zR (zO (by simp [zC h41, zC h42, zC h16, zC h17, zC h18, zC h43, zC h20, zC h44, zC h47, zC h15, oKn, ↓crb, ↓cst, ↓cfz, -lenA, HH1, zI, HH2, hnd0]; rfl) ?_)
     simp only [zT, zB]
     refine runs_cond (x := false) (by simp [hnd0]) ?_
     refine zK ?_
     simp only [zT, zB]
     refine zR (zO (by simp [zC h41, zC h42, zC h16, zC h17, zC h18, zC h43, zC h20, zC h44, zC h47, zC h15, oKn, ↓crb, ↓cst, ↓cfz, -lenA, HH1, zI, HH2, hnd0]; rfl) ?_)
     simp only [zT, zB]
     exact ⟨mn - (k + 1), by omega, k + 1, i + 1, by omega, rfl, by omega, by simp [trim, zC h41, zC h42, zC h16, zC h17, zC h18, zC h43, zC h20, zC h44, zC h47, zC h15, oKn, ↓crb, ↓cst, ↓cfz, -lenA, HH1, zI, HH2, hnd0]⟩
   ·have tkA : (al.map rI).take (q + 1) = al.map rI := List.take_of_length_le (by simp [hll])
    have hlA : al.length ≤ 30 := by rw [hal, List.length_append, cmsN_len]; omega
    have hlq : q + 1 + 1 ≤ 1048576 := by omega
    have hr3 : ∀ e : Int, (rI e).length = 1 := fun _ => rfl
    have hrj := fun n => rI_rb n 4 al
    have hfA := fun n h r => optAll_snoc (frN_rI n h al) r
    have HH10 := zA crb (zA cst (zA cfz (zA hfA hrj)))
    refine zS ?_
    refine zS ?_
    refine zR (zO (by simp [zC h41, zC h42, zC h16, zC h17, zC h18, zC h43, zC h20, zC h44, zC h47, zC h15, oKn, -lenA, HH1, zI, HH2, tkA, hlq, hll, hr3, ↓HH10]; rfl) ?_)
    simp only [zT, zB]
    refine runs_cond_split (x := decide (g < (js.length : Int))) (by simp) (fun hlt2 => ?_) (fun hlt2 => ?_)
    ·have hlt2' := of_decide_eq_true hlt2
     have hm0 : m < js.length := by omega
     have hmS : m < S.length := by rw [hS.len]; exact hm0
     have hg0 : 0 ≤ g := by omega
     have hgn : g.toNat = m := by omega
     have hwgg : W .i64 (g + 1) = g + 1 := W_small (by omega)
     have hjb := hsh.job _ (List.getElem_mem hm0)
     have hrow := hS.row _ (List.getElem_mem hmS)
     have hJ := jobAt_eq hm0
     have hkj : k < js[m].mins.length := by have := hjb.2.2.2.1; omega
     have hij : i < (js[m].mins.length : Int) := by omega
     have hcm : cmsN js S k (m + 1) = cmsN js S k m ++ [cameF js S k m] := rfl
     have hnq : needQ js k (m + 1) = needQ js k m + if 0 < minAt (jobAt js m) k then 1 else 0 := rfl
     have hnb := needQ_bd js k m
     rw [hJ, minAt_eq hkj, ← hnd] at hnq
     rw [← hnd] at hnb
     obtain ⟨jr, tj, wv, rfl, hr1, hr2, hwv⟩ := dJobs_get hj hm0
     have hkr : m < jr.length := by omega
     have hr4 : ∀ h, jr[m]'h = [I js[m].kind, I js[m].ready, I js[m].due, wv] := fun h => by rw [List.getElem?_eq_getElem h] at hr2; exact Option.some.inj hr2
     have rw5 := fun n d => dInts_rb hwv n d
     have fw5 := fun H d => dInts_frz hwv H d
     have lw5 := dInts_len hwv
     obtain ⟨cw1, cw2⟩ := dInts_cells hwv
     obtain ⟨sr, tt, wt, rfl, hs1, hs2, hwt⟩ := dInts2_get hs hmS
     have hksr : m < sr.length := by omega
     have hs4 : ∀ h, sr[m]'h = [wt] := fun h => by rw [List.getElem?_eq_getElem h] at hs2; exact Option.some.inj hs2
     have rt5 := fun n d => dInts_rb hwt n d
     have ft5 := fun H d => dInts_frz hwt H d
     have lt5 := dInts_len hwt
     obtain ⟨ctw1, ctw2⟩ := dInts_cells hwt
     have hce := came_eq hsh hS hm0 (g := i) (k := k) (by omega) hkm hwv hwt
     obtain ⟨twm, rfl⟩ := dInts_get hwv hkj
     generalize hV : js[m].mins[k] = V at *
     generalize hC : cameF js S k m = C at *
     have hwnd : W .i64 (nd + 1) = nd + 1 := W_small (by omega)
     have hnx : al ++ [C] = pre ++ cmsN js S k (m + 1) := by rw [hcm, hal, List.append_assoc]
     have hnl : (al ++ [C]).length = q + 1 + 1 := by simp [hll]
     have hap : al.map rI ++ [[I C]] = (al ++ [C]).map rI := by rw [List.map_append]; rfl
     generalize al ++ [C] = nx at *
     have hrx := fun n => rI_rb n 4 nx
     have HH11 := zA tkA (zA hlq (zA hll (zA hr3 (zA hg0 (zA hgn (zA hm0 (zA hmS (zA hwgg (zA hkj (zA hij (zA hV (zA hce (zA hwnd (zA hkr (zA hr2 (zA hr4 (zA rw5 (zA fw5 (zA lw5 (zA cw1 (zA cw2 (zA hksr (zA hs2 (zA hs4 (zA rt5 (zA ft5 (zA lt5 (zA ctw1 (zA ctw2 hap)))))))))))))))))))))))))))))
     refine zK ?_
     simp only [zT, zB]
     refine zS ?_
     refine zL ?_
     refine zS ?_
     refine zS ?_
     refine zR (zO (by simp [zC h41, zC h42, zC h16, zC h17, zC h18, zC h43, zC h20, zC h44, zC h47, zC h15, oKn, -lenA, HH1, zI, HH2, ↓HH10, ↓hrx, HH11]; rfl) ?_)
     simp only [zT, zB]
     refine runs_cond_split (x := decide (0 < V)) (by simp) (fun hv => ?_) (fun hv => ?_)
     ·refine zR (zO (by simp [zC h41, zC h42, zC h16, zC h17, zC h18, zC h43, zC h20, zC h44, zC h47, zC h15, oKn, -lenA, HH1, zI, HH2, ↓HH10, ↓hrx, HH11]; rfl) ?_)
      simp only [zT, zB]
      refine runs_drw (by simp (maxSteps := 3000000) [zC h41, zC h42, zC h16, zC h17, zC h18, zC h43, zC h20, zC h44, zC h47, zC h15, oKn, -lenA, HH1, zI, HH2, ↓HH10, ↓hrx, HH11]; rfl) ?_
      simp only [zT, zB]
      refine zR (zO (by simp [zC h41, zC h42, zC h16, zC h17, zC h18, zC h43, zC h20, zC h44, zC h47, zC h15, oKn, -lenA, HH1, zI, HH2, ↓HH10, ↓hrx, HH11]; rfl) ?_)
      simp only [zT, zB]
      exact ⟨js.length - (m + 1), _, _, by omega, by simp [zC h41, zC h42, zC h16, zC h17, zC h18, zC h43, zC h20, zC h44, zC h47, zC h15, oKn, -lenA, HH1, zI, HH2, ↓HH10, ↓hrx, HH11] <;> first | exact ⟨rfl, rfl⟩ | rfl, m + 1, g + 1, nd + 1, by omega, rfl, by omega, by rw [hnq, if_pos (of_decide_eq_true hv)], .inr ⟨q + 1, nx, hnx, hnl, rfl⟩⟩
     ·refine zK ?_
      simp only [zT, zB]
      refine runs_drw (by simp (maxSteps := 3000000) [zC h41, zC h42, zC h16, zC h17, zC h18, zC h43, zC h20, zC h44, zC h47, zC h15, oKn, -lenA, HH1, zI, HH2, ↓HH10, ↓hrx, HH11]; rfl) ?_
      simp only [zT, zB]
      refine zR (zO (by simp [zC h41, zC h42, zC h16, zC h17, zC h18, zC h43, zC h20, zC h44, zC h47, zC h15, oKn, -lenA, HH1, zI, HH2, ↓HH10, ↓hrx, HH11]; rfl) ?_)
      simp only [zT, zB]
      exact ⟨js.length - (m + 1), _, _, by omega, by simp [zC h41, zC h42, zC h16, zC h17, zC h18, zC h43, zC h20, zC h44, zC h47, zC h15, oKn, -lenA, HH1, zI, HH2, ↓HH10, ↓hrx, HH11] <;> first | exact ⟨rfl, rfl⟩ | rfl, m + 1, g + 1, nd, by omega, rfl, by omega, by rw [hnq, if_neg (of_decide_eq_false hv)]; omega, .inr ⟨q + 1, nx, hnx, hnl, rfl⟩⟩
    ·have hlt2' := of_decide_eq_false hlt2
     have hmE : m = js.length := by omega
     subst hmE
     refine runs_exit ?_
     simp only [zT, zB, if_true, if_false, reduceIte, Nat.reduceEqDiff, Nat.succ_ne_zero, Nat.one_ne_zero, Nat.zero_ne_one]
     refine zS ?_
     refine zS ?_
     refine zR (zO (by simp [zC h41, zC h42, zC h16, zC h17, zC h18, zC h43, zC h20, zC h44, zC h47, zC h15, oKn, -lenA, HH1, zI, HH2, tkA, hlq, hll, hr3, ↓HH10]; rfl) ?_)
     simp only [zT, zB]
     refine zL ?_
     have hlA2 : q + 1 ≤ 30 := by omega
     have hmq : wk = mostQ js S k al (q + 1) := by
      have := hplk al (fun p hp => by rw [hal]; exact List.mem_append_right _ (cmsN_mem js S k _ p hp))
      rw [hwk2, this, hll]
     have hmb := mostQ_bd js S k al (q + 1)
     rw [← hmq, ← hnd] at hmb
     have hndb := needQ_bd js k js.length
     rw [← hnd] at hndb
     refine runs_loop_inv (fun m3 σ => ∃ (p : Nat) (u mo : Int), u = p ∧ q + 1 - p = m3 ∧ p ≤ q + 1 ∧ mo = mostQ js S k al p ∧ σ = ⟨[.any, tv, .any, .any, .any, .ref 1 0 0, j, .any, sv, .any, .vl (wl.map rI) tW, .any, .any, .any, I i, .sl 4 0 (q + 1) false, .any, I nd, I mo, .any, I u, .any, .any, .any, .any, .any, .any, .any, .any, .any, .any, .any, .any, .any, .any, .any, .any, .any, .any, .any, .any, .any, .any, .any, .any, .any, .any, .any, .any, .any, .any, .any, .any, .any, .any, .any, .any, .any, .any, .any, .any, .any, .any, .any, .any, .any, .any, .any, .any, .any, .any, .any, .any, .any, .any, .any, .any, .any, .any, .any, .any, .any, .any, .any, .any, .any, .any, .any, .any, .any, .any, .any, .any, .any, .any, .any, .any, .any, .any, .any, .any, .any, .any, .any, .any, .any, .any, .any, .any, .any, .any, .any, .any, .any, .any, .any, .any, .any, .any, .any, .any, .any, .any, .any, .any, .any, .any, .any, .any, .any, .any, .any, .any, .any, .any, .any, .any, .any, .any, .any, .any, .any, .any, .any, .any, .any, .any, .any, .any, .any, .any, .any, .any, .any, .any, .any, .any, .any, .any, .any, .any, .any, .any, .any, .any, .any, .any, .any, .any, .any, .any, .any, .any, .any, .any, .any, .any, .any, .any, .any, .any, .any, .any, .any, .any, .any, .any, .any, .any, .any, .any, .any, .any, .any, .any, .any, .any, .any, .any, .any, .any], [some (.row 26 [cells]), some (.row 3 [[I s.mach, c, t]]), none, none, some (.row 1 (al.map rI))]⟩) ?_ (q + 1 - 0) _ ⟨0, 0, 0, rfl, rfl, Nat.zero_le _, rfl, by simp⟩
     rintro m3 σ ⟨p, u, mo, hup, rfl, hpl, hmo, rfl⟩
     refine zS ?_
     refine zS ?_
     refine zR (zO (by simp [zC h41, zC h42, zC h16, zC h17, zC h18, zC h43, zC h20, zC h44, zC h47, zC h15, oKn, -lenA, HH1, zI, HH2, tkA, hlq, hll, hr3, ↓HH10]; rfl) ?_)
     simp only [zT, zB]
     refine runs_cond_split (x := _) rfl (fun hlt3 => ?_) (fun hlt3 => ?_)
     ·have hlt3' := of_decide_eq_true hlt3
      have hp0 : p < al.length := by omega
      have hpq : p < q + 1 := by omega
      have hu0 : 0 ≤ u := by omega
      have hun : u.toNat = p := by omega
      have huq : u < (q : Int) + 1 := by omega
      have hwu : W .i64 (u + 1) = u + 1 := W_small (by omega)
      have hga : al.getD p 0 = al[p] := by rw [List.getD_eq_getElem?_getD, List.getElem?_eq_getElem hp0]; rfl
      have hmQ : mostQ js S k al (p + 1) = max (mostQ js S k al p) (wtN js S k (al.getD p 0) js.length) := rfl
      rw [hga, ← hmo] at hmQ
      have hge : (al.map rI)[p]? = some [I al[p]] := by rw [List.getElem?_map, List.getElem?_eq_getElem hp0]; rfl
      have hge2 : ∀ h, (al.map rI)[p]'h = [I al[p]] := fun h => by rw [List.getElem_map]; rfl
      have hmob := mostQ_bd js S k al p
      generalize hAP : al[p] = tu at *
      have HH12 := zA tkA (zA hlq (zA hll (zA hr3 (zA hu0 (zA hun (zA huq (zA hp0 (zA hpq (zA hwu (zA hge (zA hge2 hAP)))))))))))
      refine zK ?_
      simp only [zT, zB]
      refine zS ?_
      refine zL ?_
      refine zS ?_
      refine zR (zO (by simp [zC h41, zC h42, zC h16, zC h17, zC h18, zC h43, zC h20, zC h44, zC h47, zC h15, oKn, -lenA, HH1, zI, HH2, ↓HH10, -List.getElem?_map, -List.getElem_map, HH12]; rfl) ?_)
      simp only [zT, zB]
      refine zS ?_
      refine zS ?_
      refine zR (zO (by simp [zC h41, zC h42, zC h16, zC h17, zC h18, zC h43, zC h20, zC h44, zC h47, zC h15, oKn, -lenA, HH1, zI, HH2, ↓HH10, -List.getElem?_map, -List.getElem_map, HH12]; rfl) ?_)
      simp only [zT, zB]
      refine zL ?_
      refine runs_loop_inv (fun m4 σ => ∃ (m : Nat) (g cn : Int), g = m ∧ js.length - m = m4 ∧ m ≤ js.length ∧ cn = wtN js S k tu m ∧ σ = ⟨[.any, tv, .any, .any, .any, .ref 1 0 0, j, .any, sv, .any, .vl (wl.map rI) tW, .any, .any, .any, I i, .sl 4 0 (q + 1) false, .any, I nd, I mo, .any, I u, I cn, I g, .any, .any, .any, .any, .any, .any, .any, .any, .any, .any, .any, .any, .any, .any, .any, .any, .any, .any, .any, .any, .any, .any, .any, .any, .any, .any, .any, .any, .any, .any, .any, .any, .any, .any, .any, .any, .any, .any, .any, .any, .any, .any, .any, .any, .any, .any, .any, .any, .any, .any, .any, .any, .any, .any, .any, .any, .any, .any, .any, .any, .any, .any, .any, .any, .any, .any, .any, .any, .any, .any, .any, .any, .any, .any, .any, .any, .any, .any, .any, .any, .any, .any, .any, .any, .any, .any, .any, .any, .any, .any, .any, .any, .any, .any, .any, .any, .any, .any, .any, .any, .any, .any, .any, .any, .any, .any, .any, .any, .any, .any, .any, .any, .any, .any, .any, .any, .any, .any, .any, .any, .any, .any, .any, .any, .any, .any, .any, .any, .any, .any, .any, .any, .any, .any, .any, .any, .any, .any, .any, .any, .any, .any, .any, .any, .any, .any, .any, .any, .any, .any, .any, .any, .any, .any, .any, .any, .any, .any, .any, .any, .any, .any, .any, .any, .any, .any, .any, .any, .any, .any, .any, .any, .any, .any, .any, .any, .any, .any], [some (.row 26 [cells]), some (.row 3 [[I s.mach, c, t]]), none, none, some (.row 1 (al.map rI))]⟩) ?_ (js.length - 0) _ ⟨0, 0, 0, rfl, rfl, Nat.zero_le _, rfl, by simp⟩
      rintro m4 σ ⟨m, g, cn, hgm, rfl, hmj, hcn, rfl⟩
      refine zS ?_
      refine zS ?_
      refine zR (zO (by simp [zC h41, zC h42, zC h16, zC h17, zC h18, zC h43, zC h20, zC h44, zC h47, zC h15, oKn, -lenA, HH1, zI, HH2, ↓HH10, -List.getElem?_map, -List.getElem_map, HH12]; rfl) ?_)
      simp only [zT, zB]
      refine runs_cond_split (x := decide (g < (js.length : Int))) (by simp) (fun hlt4 => ?_) (fun hlt4 => ?_)
      ·have hlt4' := of_decide_eq_true hlt4
       have hm0 : m < js.length := by omega
       have hmS : m < S.length := by rw [hS.len]; exact hm0
       have hg0 : 0 ≤ g := by omega
       have hgn : g.toNat = m := by omega
       have hwgg : W .i64 (g + 1) = g + 1 := W_small (by omega)
       have hjb := hsh.job _ (List.getElem_mem hm0)
       have hrow := hS.row _ (List.getElem_mem hmS)
       have hJ := jobAt_eq hm0
       have hkj : k < js[m].mins.length := by have := hjb.2.2.2.1; omega
       have hkS : k < S[m].length := by have := hrow.1; omega
       have hij : i < (js[m].mins.length : Int) := by omega
       have hiS : i < (S[m].length : Int) := by omega
       have hwN : wtN js S k tu (m + 1) = wtN js S k tu m + if wtB js S k tu m = true then 1 else 0 := rfl
       unfold wtB at hwN
       rw [hJ, minAt_eq hkj, stAt_eq hmS hkS, ← hcn] at hwN
       have hnb := wtN_bd js S k tu m
       have hnb2 := needQ_bd js k m
       rw [← hcn] at hnb
       obtain ⟨jr, tj, wv, rfl, hr1, hr2, hwv⟩ := dJobs_get hj hm0
       have hkr : m < jr.length := by omega
       have hr4 : ∀ h, jr[m]'h = [I js[m].kind, I js[m].ready, I js[m].due, wv] := fun h => by rw [List.getElem?_eq_getElem h] at hr2; exact Option.some.inj hr2
       have rw5 := fun n d => dInts_rb hwv n d
       have fw5 := fun H d => dInts_frz hwv H d
       have lw5 := dInts_len hwv
       obtain ⟨cw1, cw2⟩ := dInts_cells hwv
       obtain ⟨sr, tt, wt, rfl, hs1, hs2, hwt⟩ := dInts2_get hs hmS
       have hksr : m < sr.length := by omega
       have hs4 : ∀ h, sr[m]'h = [wt] := fun h => by rw [List.getElem?_eq_getElem h] at hs2; exact Option.some.inj hs2
       have rt5 := fun n d => dInts_rb hwt n d
       have ft5 := fun H d => dInts_frz hwt H d
       have lt5 := dInts_len hwt
       obtain ⟨ctw1, ctw2⟩ := dInts_cells hwt
       have hce := came_eq hsh hS hm0 (g := i) (k := k) (by omega) hkm hwv hwt
       obtain ⟨twm, rfl⟩ := dInts_get hwv hkj
       obtain ⟨tzm, rfl⟩ := dInts_get hwt hkS
       have hM1 : (js[m].mins.map rI)[k]? = some [I js[m].mins[k]] := by rw [List.getElem?_map, List.getElem?_eq_getElem hkj]; rfl
       have hM2 : ∀ (h : k < (js[m].mins.map rI).length), (js[m].mins.map rI)[k]'h = [I js[m].mins[k]] := fun h => by rw [List.getElem_map]; rfl
       have hM3 : (S[m].map rI)[k]? = some [I S[m][k]] := by rw [List.getElem?_map, List.getElem?_eq_getElem hkS]; rfl
       have hM4 : ∀ (h : k < (S[m].map rI).length), (S[m].map rI)[k]'h = [I S[m][k]] := fun h => by rw [List.getElem_map]; rfl
       generalize hV : js[m].mins[k] = V at *
       generalize hT1 : S[m][k] = T1 at *
       generalize hC : cameF js S k m = C at *
       generalize hA1 : decide (0 < V) = A1 at *
       generalize hA2 : decide (C ≤ tu) = A2 at *
       generalize hA3 : decide (tu < T1) = A3 at *
       have hwcn : W .i64 (cn + 1) = cn + 1 := W_small (by omega)
       rcases A1 with _ | _
       ·have HH13 := zA hg0 (zA hgn (zA hm0 (zA hmS (zA hwgg (zA hkj (zA hkS (zA hij (zA hiS (zA hV (zA hT1 (zA hM1 (zA hM2 (zA hM3 (zA hM4 (zA hce (zA hA1 (zA hA2 (zA hA3 (zA hwcn (zA hkr (zA hr2 (zA hr4 (zA rw5 (zA fw5 (zA lw5 (zA cw1 (zA cw2 (zA hksr (zA hs2 (zA hs4 (zA rt5 (zA ft5 (zA lt5 (zA ctw1 ctw2))))))))))))))))))))))))))))))))))
        refine zK ?_
        simp only [zT, zB]
        refine zS ?_
        refine zL ?_
        refine zS ?_
        refine runs_drw (by simp (maxSteps := 3000000) [zC h41, zC h42, zC h16, zC h17, zC h18, zC h43, zC h20, zC h44, zC h47, zC h15, oKn, -lenA, HH1, zI, HH2, ↓HH10, -List.getElem?_map, -List.getElem_map, HH12, HH13]; rfl) ?_
        simp only [zT, zB]
        refine runs_cond (x := false) (by simp) ?_
        refine zK ?_
        simp only [zT, zB]
        refine zR (zO (by simp [zC h41, zC h42, zC h16, zC h17, zC h18, zC h43, zC h20, zC h44, zC h47, zC h15, oKn, -lenA, HH1, zI, HH2, ↓HH10, -List.getElem?_map, -List.getElem_map, HH12, HH13]; rfl) ?_)
        simp only [zT, zB]
        exact ⟨js.length - (m + 1), by omega, m + 1, g + 1, cn, by omega, rfl, by omega, by rw [hwN]; simp, by simp [trim, zC h41, zC h42, zC h16, zC h17, zC h18, zC h43, zC h20, zC h44, zC h47, zC h15, oKn, -lenA, HH1, zI, HH2, ↓HH10, -List.getElem?_map, -List.getElem_map, HH12, HH13]⟩
       ·rcases A2 with _ | _
        ·have HH14 := zA hg0 (zA hgn (zA hm0 (zA hmS (zA hwgg (zA hkj (zA hkS (zA hij (zA hiS (zA hV (zA hT1 (zA hM1 (zA hM2 (zA hM3 (zA hM4 (zA hce (zA hA1 (zA hA2 (zA hA3 (zA hwcn (zA hkr (zA hr2 (zA hr4 (zA rw5 (zA fw5 (zA lw5 (zA cw1 (zA cw2 (zA hksr (zA hs2 (zA hs4 (zA rt5 (zA ft5 (zA lt5 (zA ctw1 ctw2))))))))))))))))))))))))))))))))))
         refine zK ?_
         simp only [zT, zB]
         refine zS ?_
         refine zL ?_
         refine zS ?_
         refine runs_drw (by simp (maxSteps := 3000000) [zC h41, zC h42, zC h16, zC h17, zC h18, zC h43, zC h20, zC h44, zC h47, zC h15, oKn, -lenA, HH1, zI, HH2, ↓HH10, -List.getElem?_map, -List.getElem_map, HH12, HH14]; rfl) ?_
         simp only [zT, zB]
         refine runs_cond (x := false) (by simp) ?_
         refine zK ?_
         simp only [zT, zB]
         refine zR (zO (by simp [zC h41, zC h42, zC h16, zC h17, zC h18, zC h43, zC h20, zC h44, zC h47, zC h15, oKn, -lenA, HH1, zI, HH2, ↓HH10, -List.getElem?_map, -List.getElem_map, HH12, HH14]; rfl) ?_)
         simp only [zT, zB]
         exact ⟨js.length - (m + 1), by omega, m + 1, g + 1, cn, by omega, rfl, by omega, by rw [hwN]; simp, by simp [trim, zC h41, zC h42, zC h16, zC h17, zC h18, zC h43, zC h20, zC h44, zC h47, zC h15, oKn, -lenA, HH1, zI, HH2, ↓HH10, -List.getElem?_map, -List.getElem_map, HH12, HH14]⟩
        ·rcases A3 with _ | _
         ·have HH15 := zA hg0 (zA hgn (zA hm0 (zA hmS (zA hwgg (zA hkj (zA hkS (zA hij (zA hiS (zA hV (zA hT1 (zA hM1 (zA hM2 (zA hM3 (zA hM4 (zA hce (zA hA1 (zA hA2 (zA hA3 (zA hwcn (zA hkr (zA hr2 (zA hr4 (zA rw5 (zA fw5 (zA lw5 (zA cw1 (zA cw2 (zA hksr (zA hs2 (zA hs4 (zA rt5 (zA ft5 (zA lt5 (zA ctw1 ctw2))))))))))))))))))))))))))))))))))
          refine zK ?_
          simp only [zT, zB]
          refine zS ?_
          refine zL ?_
          refine zS ?_
          refine runs_drw (by simp (maxSteps := 3000000) [zC h41, zC h42, zC h16, zC h17, zC h18, zC h43, zC h20, zC h44, zC h47, zC h15, oKn, -lenA, HH1, zI, HH2, ↓HH10, -List.getElem?_map, -List.getElem_map, HH12, HH15]; rfl) ?_
          simp only [zT, zB]
          refine runs_cond (x := false) (by simp) ?_
          refine zK ?_
          simp only [zT, zB]
          refine zR (zO (by simp [zC h41, zC h42, zC h16, zC h17, zC h18, zC h43, zC h20, zC h44, zC h47, zC h15, oKn, -lenA, HH1, zI, HH2, ↓HH10, -List.getElem?_map, -List.getElem_map, HH12, HH15]; rfl) ?_)
          simp only [zT, zB]
          exact ⟨js.length - (m + 1), by omega, m + 1, g + 1, cn, by omega, rfl, by omega, by rw [hwN]; simp, by simp [trim, zC h41, zC h42, zC h16, zC h17, zC h18, zC h43, zC h20, zC h44, zC h47, zC h15, oKn, -lenA, HH1, zI, HH2, ↓HH10, -List.getElem?_map, -List.getElem_map, HH12, HH15]⟩
         ·have HH16 := zA hg0 (zA hgn (zA hm0 (zA hmS (zA hwgg (zA hkj (zA hkS (zA hij (zA hiS (zA hV (zA hT1 (zA hM1 (zA hM2 (zA hM3 (zA hM4 (zA hce (zA hA1 (zA hA2 (zA hA3 (zA hwcn (zA hkr (zA hr2 (zA hr4 (zA rw5 (zA fw5 (zA lw5 (zA cw1 (zA cw2 (zA hksr (zA hs2 (zA hs4 (zA rt5 (zA ft5 (zA lt5 (zA ctw1 ctw2))))))))))))))))))))))))))))))))))
          refine zK ?_
          simp only [zT, zB]
          refine zS ?_
          refine zL ?_
          refine zS ?_
          refine runs_drw (by simp (maxSteps := 3000000) [zC h41, zC h42, zC h16, zC h17, zC h18, zC h43, zC h20, zC h44, zC h47, zC h15, oKn, -lenA, HH1, zI, HH2, ↓HH10, -List.getElem?_map, -List.getElem_map, HH12, HH16]; rfl) ?_
          simp only [zT, zB]
          refine runs_cond (x := true) (by simp) ?_
          refine zR (zO (by simp [zC h41, zC h42, zC h16, zC h17, zC h18, zC h43, zC h20, zC h44, zC h47, zC h15, oKn, -lenA, HH1, zI, HH2, ↓HH10, -List.getElem?_map, -List.getElem_map, HH12, HH16]; rfl) ?_)
          simp only [zT, zB]
          refine zR (zO (by simp [zC h41, zC h42, zC h16, zC h17, zC h18, zC h43, zC h20, zC h44, zC h47, zC h15, oKn, -lenA, HH1, zI, HH2, ↓HH10, -List.getElem?_map, -List.getElem_map, HH12, HH16]; rfl) ?_)
          simp only [zT, zB]
          exact ⟨js.length - (m + 1), by omega, m + 1, g + 1, cn + 1, by omega, rfl, by omega, by rw [hwN]; simp, by simp [trim, zC h41, zC h42, zC h16, zC h17, zC h18, zC h43, zC h20, zC h44, zC h47, zC h15, oKn, -lenA, HH1, zI, HH2, ↓HH10, -List.getElem?_map, -List.getElem_map, HH12, HH16]⟩
      ·have hlt4' := of_decide_eq_false hlt4
       have hmE : m = js.length := by omega
       subst hmE
       rw [← hcn] at hmQ
       refine runs_exit ?_
       simp only [zT, zB, if_true, if_false, reduceIte, Nat.reduceEqDiff, Nat.succ_ne_zero, Nat.one_ne_zero, Nat.zero_ne_one]
       refine zR (zO (by simp [zC h41, zC h42, zC h16, zC h17, zC h18, zC h43, zC h20, zC h44, zC h47, zC h15, oKn, -lenA, HH1, zI, HH2, ↓HH10, -List.getElem?_map, -List.getElem_map, HH12]; rfl) ?_)
       simp only [zT, zB]
       refine zR (zO (by simp [zC h41, zC h42, zC h16, zC h17, zC h18, zC h43, zC h20, zC h44, zC h47, zC h15, oKn, -lenA, HH1, zI, HH2, ↓HH10, -List.getElem?_map, -List.getElem_map, HH12]; rfl) ?_)
       simp only [zT, zB]
       exact ⟨q + 1 - (p + 1), by omega, p + 1, u + 1, max mo cn, by omega, rfl, by omega, hmQ.symm, by simp [trim, zC h41, zC h42, zC h16, zC h17, zC h18, zC h43, zC h20, zC h44, zC h47, zC h15, oKn, -lenA, HH1, zI, HH2, ↓HH10, -List.getElem?_map, -List.getElem_map, HH12]⟩
     ·have hlt3' := of_decide_eq_false hlt3
      have hpE : p = q + 1 := by omega
      subst hpE
      rw [← hmq] at hmo
      subst hmo
      have hmb2 : decide (nd < mo) = false := by simp; omega
      have HH17 := zA tkA (zA hlq (zA hll (zA hr3 hmb2)))
      refine runs_exit ?_
      simp only [zT, zB, if_true, if_false, reduceIte, Nat.reduceEqDiff, Nat.succ_ne_zero, Nat.one_ne_zero, Nat.zero_ne_one]
      refine zS ?_
      refine zR (zO (by simp [zC h41, zC h42, zC h16, zC h17, zC h18, zC h43, zC h20, zC h44, zC h47, zC h15, oKn, -lenA, HH1, zI, HH2, ↓HH10, HH17]; rfl) ?_)
      simp only [zT, zB]
      refine runs_cond (x := false) (by simp [hmb2]) ?_
      refine zK ?_
      simp only [zT, zB]
      refine zR (zO (by simp [zC h41, zC h42, zC h16, zC h17, zC h18, zC h43, zC h20, zC h44, zC h47, zC h15, oKn, -lenA, HH1, zI, HH2, ↓HH10, HH17]; rfl) ?_)
      simp only [zT, zB]
      exact ⟨mn - (k + 1), by omega, k + 1, i + 1, by omega, rfl, by omega, by simp [trim, zC h41, zC h42, zC h16, zC h17, zC h18, zC h43, zC h20, zC h44, zC h47, zC h15, oKn, -lenA, HH1, zI, HH2, ↓HH10, HH17]⟩
 ·refine runs_exit ?_
  simp only [zT, zB, if_true, if_false, reduceIte, Nat.reduceEqDiff, Nat.succ_ne_zero, Nat.one_ne_zero, Nat.zero_ne_one]
  refine zS ?_
  refine zR (zO (by simp [zC h41, zC h42, zC h16, zC h17, zC h18, zC h43, zC h20, zC h44, zC h47, zC h15, oKn, ↓crb, ↓cst, ↓cfz, -lenA, HH1]; rfl) ?_)
  simp only [zT, zB]
  refine runs_ret ?_
  simp [zC h41, zC h42, zC h16, zC h17, zC h18, zC h43, zC h20, zC h44, zC h47, zC h15, oKn, ↓crb, ↓cst, ↓cfz, -lenA, HH1]
theorem law11 (W_ : FWorks) (x y : AVal) (hx : rowsV x = some (W_.xs.map rU)) (hy : rowsV y = some (W_.ys.map rU)) (hw : WkOk W_) (tv : AVal) (ts : List Int) (htv : rowsV tv = some (ts.map rW1)) (htb : ∀ n ∈ ts, 0 ≤ n ∧ n ≤ 65535) : Answers Tryz.prog FZ2 11 [.agg (wkC W_ x y), tv] [] fun v h => v = .bool true :=
  a11 Tryz.prog FZ2 rfl rfl rfl rfl rfl rfl rfl rfl rfl rfl rfl W_ x y hx hy hw tv ts htv htb
end
end Go.Proofs.YtjjapdagllclkaaGreat.Tab

namespace Go.Proofs.YtjjapdagllclkaaGreat
open Go Go.Abs Go.Proofs
theorem u16_wf {n : Int} (h : (Lit.int .u16 n).wf = true) : 0 ≤ n ∧ n ≤ 65535 := by
  have e1 : IntKind.u16.min = 0 := rfl
  have e2 : IntKind.u16.max = 65535 := rfl
  simp only [Lit.wf, e1, e2, Bool.and_eq_true, decide_eq_true_eq] at h
  exact h
theorem fits_words {x : AVal} (h : Fits (.sl [.int .u16]) x) : ∃ bs : List Int, rowsV x = some (bs.map Tab.rW1) ∧ ∀ b ∈ bs, 0 ≤ b ∧ b ≤ 65535 := by
  obtain ⟨rs, hx, hrs⟩ := fits_rows h
  obtain ⟨vs, rfl, hvs⟩ := map_ofP (enc := Tab.rW1) (p := fun v => 0 ≤ v ∧ v ≤ 65535) (l := rs) fun a ha => by
    obtain ⟨x, ys, rfl, hx, h1⟩ := fitsR_cons (hrs a ha)
    obtain ⟨b, rfl, hb⟩ := fits_int hx
    obtain rfl := fitsR_nil h1
    exact ⟨b, rfl, u16_wf hb⟩
  exact ⟨vs, rows_of hx, hvs⟩
end Go.Proofs.YtjjapdagllclkaaGreat
