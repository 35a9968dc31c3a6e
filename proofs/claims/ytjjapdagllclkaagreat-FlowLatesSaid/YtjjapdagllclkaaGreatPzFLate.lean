/- Contracts of flow: FlowLates. No condition. -/
import Derived.Test.YtjjapdagllclkaaGreatPzELate
set_option linter.unusedSimpArgs false
set_option linter.unusedVariables false
namespace Go.Proofs.YtjjapdagllclkaaGreat.Tab
open Go Go.Abs Go.Proofs
set_option maxRecDepth 100000
set_option maxHeartbeats 4000000
set_option linter.unusedSimpArgs false
set_option linter.unusedVariables false
section
attribute [local simp] frz_int frz_bool frz_vl frz_pv frz_agg frz_tup frz_fn frz_ref frz_sl frz_nils optAll orcF rb_int rb_bool rb_agg rb_tup rb_int' rb_bool' rb_vl rb_pv rb_yld rb_nilf rb_nilp rb_nils rb_any rb_und rb_ref rb_sl rb_fn slE chunk fillA evParts evParts3 putAt List.range_succ List.range_zero List.range'_succ List.range'_zero runX_nil' unary_not evalS_pure evAll_nil evAll_cons runX_cons stepX wantedA dop CV.ev putK_eq setK_eq appK_eq fA_eq fI_eq fN_eq fRow_eq fRows_eq nth_eq Out.v putT List.replicate_succ zT zB arI pointee Abs.rowAt ldRow allV toV toC ofV ofC Builtin.min_ Builtin.min2 Builtin.max_ Builtin.max2 min_if max_if resA tupA kill trim_self trim_len trim_emp trim_nil lenA
attribute [local simp] runD_nil' runD_cons' stepD actK_eq actD clash disj masks holes maskH unmaskH diffs news eqB allB eqA ldRowN wrote toCs ofCs stA rowsV_vl rowsV_nils rowsOf dI1 dI2 dI3 dI5 elt
attribute [local simp] st_any st_und st_agg st_tup st_bool st_int st_nilp st_ref st_pv st_nils st_sl st_vl st_nilm st_mp st_fn st_nilf st_yld co_any co_und co_agg co_tup co_bool co_int co_nilp co_ref co_pv co_nils co_sl co_vl co_nilm co_mp co_fn co_nilf co_yld
attribute [local simp] Function.comp_def List.all_append List.all_map above backA backA1 callA calleeA flatAt flatBlk frNB_none frNB_row frN_agg frN_bool frN_int frN_nils frN_ref frN_sl frN_tup frN_vl frameE frzG gather getR lim lop loud lowA lowR norm okG posOf ptrs putG putH putR rbB_none rbB_row renA resG rowAt setH takeG
def cameF (js : List FJob) (S : List (List Int)) (k i : Nat) : Int := if k = 0 then (jobAt js i).ready else stAt S i (k - 1) + minAt (jobAt js i) (k - 1)
def evsN (js : List FJob) (S : List (List Int)) (k : Nat) : Nat → List FEv
  | 0 => []
  | i + 1 => evsN js S k i ++ if 0 < minAt (jobAt js i) k ∧ cameF js S k i < stAt S i k then [(cameF js S k i, 1), (stAt S i k, -1)] else []
def waitN (js : List FJob) (S : List (List Int)) : Nat → List Int
  | 0 => []
  | k + 1 => waitN js S k ++ [topE (esrt (evsN js S k js.length))]
theorem evsN_len (js : List FJob) (S : List (List Int)) (k : Nat) : ∀ i, (evsN js S k i).length ≤ 2 * i
  | 0 => Nat.le_refl _
  | i + 1 => by
    have := evsN_len js S k i
    simp only [evsN, List.length_append]
    split <;> simp <;> omega
theorem minAt_bd {s : FShop} {js : List FJob} (h : ShopOk s js) {i : Nat} (hi : i < js.length) (k : Nat) : 0 ≤ minAt (jobAt js i) k ∧ minAt (jobAt js i) k ≤ 2000 := by
  unfold minAt
  rw [jobAt_eq hi, List.getD_eq_getElem?_getD]
  cases e : js[i].mins[k]? with
  | none => simp
  | some x => exact (h.job _ (List.getElem_mem hi)).2.2.2.2 x (List.mem_of_getElem? e)
theorem stAt_bd {S : List (List Int)} (hS : ∀ l ∈ S, ∀ x ∈ l, 0 ≤ x ∧ x ≤ 170000) (i k : Nat) : 0 ≤ stAt S i k ∧ stAt S i k ≤ 170000 := by
  unfold stAt
  rw [List.getD_eq_getElem?_getD, List.getD_eq_getElem?_getD]
  cases e : S[i]? with
  | none => simp
  | some l =>
    simp only [Option.getD_some]
    cases e2 : l[k]? with
    | none => simp
    | some x => exact hS l (List.mem_of_getElem? e) x (List.mem_of_getElem? e2)
theorem cameF_bd {s : FShop} {js : List FJob} (h : ShopOk s js) {S : List (List Int)} (hS : ∀ l ∈ S, ∀ x ∈ l, 0 ≤ x ∧ x ≤ 170000) {i : Nat} (hi : i < js.length) (k : Nat) : 0 ≤ cameF js S k i ∧ cameF js S k i ≤ 175000 := by
  unfold cameF
  split
  · rw [jobAt_eq hi]; have := (h.job _ (List.getElem_mem hi)).2.1; omega
  · have := minAt_bd h hi (k - 1)
    have := stAt_bd hS i (k - 1)
    omega
theorem evsN_bd {s : FShop} {js : List FJob} (h : ShopOk s js) {S : List (List Int)} (hS : ∀ l ∈ S, ∀ x ∈ l, 0 ≤ x ∧ x ≤ 170000) (k : Nat) : ∀ i, i ≤ js.length → ∀ e ∈ evsN js S k i, (0 ≤ e.1 ∧ e.1 ≤ 175000) ∧ (e.2 = 1 ∨ e.2 = -1)
  | 0, _ => by simp [evsN]
  | i + 1, hi => by
    intro e he
    simp only [evsN, List.mem_append] at he
    rcases he with he | he
    · exact evsN_bd h hS k i (by omega) e he
    · split at he
      · have h1 := cameF_bd h hS (i := i) (by omega) k
        have h2 := stAt_bd hS i k
        simp only [List.mem_cons, List.not_mem_nil, or_false] at he
        rcases he with rfl | rfl
        · exact ⟨h1, .inl rfl⟩
        · exact ⟨⟨h2.1, by show stAt S i k ≤ _; omega⟩, .inr rfl⟩
      · simp at he
theorem topE_nil : topE (esrt []) = 0 := by simp [esrt, topE, topG]
def encW (xs : List Int) : AVal := match xs with | [] => .nils | x :: l => .vl ((x :: l).map rI) false
theorem encW_ne {xs : List Int} (h : xs ≠ []) : encW xs = .vl (xs.map rI) false := by cases xs with | nil => exact absurd rfl h | cons x l => rfl
theorem dInts_encW (xs : List Int) : dInts (encW xs) = some xs := by
  cases xs with
  | nil => rfl
  | cons x l => exact dInts_vl (x :: l) false
noncomputable def waitV (s : FShop) (js : List FJob) (os : List Int) : AVal := if ordE s js os = 0 then encW (waitN js (runF s js os).starts s.mach.toNat) else .nils
noncomputable def oWait : List AVal → Option AVal
  | [.agg [.int .i64 m, c, t], j, o] => match dInts2 c, dStops t, dJobs j, dInts o with
    | some cs, some ts, some js, some os => if sizeOk ⟨m, cs, ts⟩ js = true ∧ os.length ≤ 100 then some (.tup [waitV ⟨m, cs, ts⟩ js os, I (ordE ⟨m, cs, ts⟩ js os)]) else none
    | _, _, _, _ => none
  | _ => none
theorem wait_eq {s : FShop} {js : List FJob} {c t j o : AVal} {os : List Int} (hc : dInts2 c = some s.chg) (ht : dStops t = some s.stops) (hj : dJobs j = some js) (ho : dInts o = some os) (hz : SizeOk s js) (hl : os.length ≤ 100) : oWait [.agg [I s.mach, c, t], j, o] = some (.tup [waitV s js os, I (ordE s js os)]) := by
  simp only [oWait, hc, ht, hj, ho]
  rw [if_pos ⟨size_ok.2 hz, hl⟩]
theorem a20 (P : Program) (T : Nat → Option CFn) (hT : T 20 = some { c20 with body := annK [(51539608130, [.slot 6]), (1975684959810, [.slot 11])] [] c20.body }) (h61 : T 61 = some { c61 with frsh := false, orc := oOO }) (h62 : T 62 = some { c62 with frsh := false, orc := oRun }) (h65 : T 65 = some { c65 with frsh := false, orc := fun _ => none, eff := frameE sSortE }) (s : FShop) (js : List FJob) (c t j : AVal) (hc : dInts2 c = some s.chg) (ht : dStops t = some s.stops) (hj : dJobs j = some js) (o : AVal) (os : List Int) (ho : dInts o = some os) (hz : SizeOk s js ∧ os.length ≤ 100) : Answers P T 20 [.agg [I s.mach, c, t], j, o] [] fun v h => frz true h 5 v = some (.tup [waitV s js os, I (ordE s js os)]) := by
 have fc := fun H d => dInts2_frz hc H d
 have ft := fun H d => dStops_frz ht H d
 have fj := fun H d => dJobs_frz hj H d
 have rc := fun n d => dInts2_rb hc n d
 have rt := fun n d => dStops_rb ht n d
 have rj := fun n d => dJobs_rb hj n d
 have lc := dInts2_len hc
 have lt := dStops_len ht
 have lj := dJobs_len hj
 obtain ⟨cc1, cc2⟩ := dInts2_cells hc
 obtain ⟨ct1, ct2⟩ := dStops_cells ht
 obtain ⟨cj1, cj2⟩ := dJobs_cells hj
 have fo := fun H d => dInts_frz ho H d
 have ro := fun n d => dInts_rb ho n d
 have lo := dInts_len ho
 obtain ⟨co1, co2⟩ := dInts_cells ho
 obtain ⟨hz1, hz2⟩ := hz
 have hop := oo_eq hc ht hj ho hz1 hz2
 rw [ordE_eq] at hop
 by_cases h0 : ordE s js os = 0
 ·have h1 := ordE_ne h0
  have hg := ordE_run h0
  have hrun := run_eq hc ht hj ho hg
  have hsh := hg.1
  have hro := runF_ok hsh hg.2.len hg.2.at'
  have hn6 : js.length ≤ 6 := hsh.njob
  have hwv : waitV s js os = encW (waitN js (runF s js os).starts s.mach.toNat) := by unfold waitV; rw [if_pos h0]
  rw [hwv]
  obtain ⟨S, hSS⟩ : ∃ S, (runF s js os).starts = S := ⟨_, rfl⟩
  have hS160 : ∀ l ∈ S, ∀ x ∈ l, 0 ≤ x ∧ x ≤ 170000 := by rw [← hSS]; exact hro.st
  have hSl : S.length = js.length := by rw [← hSS]; exact hro.slen
  have hSok : ∀ l ∈ S, (l.length : Int) = s.mach := by
   have := (sts_ok (s := s) (js := js) (os := os) ⟨hsh, (ordE_ok h0).2⟩).row
   unfold stsF at this
   rw [hSS] at this
   exact fun l hl => (this l hl).1
  have hevb := fun k i hi => evsN_bd hsh hS160 k i hi
  have hevl := fun k i => evsN_len js S k i
  rw [hSS] at hrun ⊢
  have hs := dInts2_vl S true
  generalize (AVal.vl (S.map encS) true) = sv at *
  have fs := fun H d => dInts2_frz hs H d
  have rs5 := fun n d => dInts2_rb hs n d
  obtain ⟨cs1, cs2⟩ := dInts2_cells hs
  generalize (AVal.vl ((runF s js os).ends.map rI) true) = ev at *
  have hmach := hsh.mach
  obtain ⟨mn, hmn⟩ : ∃ mn : Nat, s.mach = mn := ⟨s.mach.toNat, by omega⟩
  have hmt : s.mach.toNat = mn := by omega
  rw [hmt]
  refine answers_of hT (orcF_none rfl) ?_
  simp only [oo, om, op, og, ci, cl, c20, annK, lkG, lkR, reduceIte, Nat.reduceEqDiff, reduceCtorEq, List.cons.injEq, and_true, and_false, false_and, true_and]
  have HH1 := zA h61 (zA h62 (zA h65 (zA fc (zA ft (zA fj (zA rc (zA rt (zA rj (zA lc (zA lt (zA lj (zA cc1 (zA cc2 (zA ct1 (zA ct2 (zA cj1 (zA cj2 (zA fo (zA ro (zA lo (zA co1 (zA co2 (zA hop (zA h0 (zA h1 (zA hrun (zA fs (zA rs5 (zA cs1 cs2)))))))))))))))))))))))))))))
  refine zS ?_
  refine zR (zO (by simp [zC h61, zC h62, callF_eff h65 rfl, ↓orc_nil, -lenA, HH1]; rfl) ?_)
  simp only [zT, zB]
  refine zS ?_
  refine zR (zO (by simp [zC h61, zC h62, callF_eff h65 rfl, ↓orc_nil, -lenA, HH1]; rfl) ?_)
  simp only [zT, zB]
  refine zS ?_
  refine zS ?_
  refine zR (zO (by simp [zC h61, zC h62, callF_eff h65 rfl, ↓orc_nil, -lenA, HH1]; rfl) ?_)
  simp only [zT, zB]
  refine runs_cond (x := false) (by simp) ?_
  refine zK ?_
  simp only [zT, zB]
  refine zS ?_
  refine zR (zO (by simp [zC h61, zC h62, callF_eff h65 rfl, ↓orc_nil, -lenA, HH1]; rfl) ?_)
  simp only [zT, zB]
  refine zS ?_
  refine zS ?_
  refine zR (zO (by simp [zC h61, zC h62, callF_eff h65 rfl, ↓orc_nil, -lenA, HH1]; rfl) ?_)
  simp only [zT, zB]
  refine zL ?_
  refine runs_loopG_inv (fun mm1 σ => ∃ (k1 : Nat) (i1 : Int), i1 = k1 ∧ mn - k1 = mm1 ∧ k1 ≤ mn ∧ ((k1 = 0 ∧ σ = ⟨[.any, j, .any, .any, .any, .any, .nils, .any, .any, sv, .any, .any, .any, .any, .any, .any, .any, .any, .any, .any, .any, .any, .any, .any, .any, .any, .any, .any, .any, .any, .any, .any, .any, .any, I s.mach, I i1, .any, .any, .any, .any, .any, .any, .any, .any, .any, .any, .any, .any, .any, .any, .any, .any, .any, .any, .any, .any, .any, .any, .any, .any, .any, .any, .any, .any, .any, .any, .any, .any, .any, .any, .any, .any, .any, .any, .any, .any, .any, .any, .any, .any, .any, .any, .any, .any, .any, .any, .any, .any, .any, .any, .any, .any, .any, .any, .any, .any, .any, .any, .any, .any, .any, .any, .any, .any, .any, .any, .any, .any, .any, .any, .any, .any, .any, .any, .any, .any, .any], [some (.row 3 [[I s.mach, c, t]]), some (.row 4 [[I s.mach, c, t, j]]), none]⟩) ∨ (∃ (p1 : Nat) (ac1 : List (Int)), k1 = p1 + 1 ∧ ac1 = (waitN js S (k1)) ∧ ac1.length = p1 + 1 ∧ σ = ⟨[.any, j, .any, .any, .any, .any, .sl 2 0 (p1 + 1) false, .any, .any, sv, .any, .any, .any, .any, .any, .any, .any, .any, .any, .any, .any, .any, .any, .any, .any, .any, .any, .any, .any, .any, .any, .any, .any, .any, I s.mach, I i1, .any, .any, .any, .any, .any, .any, .any, .any, .any, .any, .any, .any, .any, .any, .any, .any, .any, .any, .any, .any, .any, .any, .any, .any, .any, .any, .any, .any, .any, .any, .any, .any, .any, .any, .any, .any, .any, .any, .any, .any, .any, .any, .any, .any, .any, .any, .any, .any, .any, .any, .any, .any, .any, .any, .any, .any, .any, .any, .any, .any, .any, .any, .any, .any, .any, .any, .any, .any, .any, .any, .any, .any, .any, .any, .any, .any, .any, .any, .any, .any, .any], [some (.row 3 [[I s.mach, c, t]]), some (.row 4 [[I s.mach, c, t, j]]), some (.row 1 (ac1.map rI))]⟩))) (by simp [zC h61, zC h62, callF_eff h65 rfl, ↓orc_nil, -lenA, HH1] <;> first | exact ⟨rfl, rfl⟩ | rfl) (⟨0, 0, rfl, rfl, Nat.zero_le _, .inl ⟨rfl, rfl⟩⟩) ?_
  rintro mm1 σ ⟨k1, i1, hik1, rfl, hkl1, ⟨hkz1, rfl⟩ | ⟨p1, ac1, hkp1, hac1, hacl1, rfl⟩⟩
  ·refine zS ?_
   refine zR (zO (by simp [zC h61, zC h62, callF_eff h65 rfl, ↓orc_nil, -lenA, HH1]; rfl) ?_)
   simp only [zT, zB]
   refine zS ?_
   refine runs_cond_split (x := _) rfl (fun hlt1 => ?_) (fun hlt1 => ?_)
   ·have hltt1 := of_decide_eq_true hlt1
    have hk01 : k1 < mn := by omega
    have hi01 : 0 ≤ i1 := by omega
    have htn1 : i1.toNat = k1 := by omega
    have hwi1 : W .i64 (i1 + 1) = i1 + 1 := W_small (by omega)
    have hk1m : (k1 : Int) < s.mach := by omega
    have hF1 : waitN js S (k1 + 1) = waitN js S k1 ++ [topE (esrt (evsN js S k1 js.length))] := rfl
    refine zK ?_
    simp only [zT, zB]
    refine zS ?_
    refine zL ?_
    refine zS ?_
    refine zR (zO (by simp [zC h61, zC h62, callF_eff h65 rfl, ↓orc_nil, -lenA, HH1, hi01, htn1, hk01, hwi1]; rfl) ?_)
    simp only [zT, zB]
    refine zS ?_
    refine zR (zO (by simp [zC h61, zC h62, callF_eff h65 rfl, ↓orc_nil, -lenA, HH1, hi01, htn1, hk01, hwi1]; rfl) ?_)
    simp only [zT, zB]
    refine zS ?_
    refine zS ?_
    refine zR (zO (by simp [zC h61, zC h62, callF_eff h65 rfl, ↓orc_nil, -lenA, HH1, hi01, htn1, hk01, hwi1]; rfl) ?_)
    simp only [zT, zB]
    refine zL ?_
    refine runs_loopG_inv (fun m2 σ => ∃ (i : Nat) (g : Int), g = i ∧ js.length - i = m2 ∧ i ≤ js.length ∧ ((evsN js S k1 i = [] ∧ σ = ⟨[.any, j, .any, .any, .any, .any, .nils, .any, .any, sv, I i1, .nils, .any, .any, .any, .any, .any, .any, .any, .any, .any, .any, .any, .any, .any, .any, .any, .any, .any, .any, .any, .any, .any, .any, I s.mach, I i1, .any, .any, j, I js.length, I g, .any, .any, .any, .any, .any, .any, .any, .any, .any, .any, .any, .any, .any, .any, .any, .any, .any, .any, .any, .any, .any, .any, .any, .any, .any, .any, .any, .any, .any, .any, .any, .any, .any, .any, .any, .any, .any, .any, .any, .any, .any, .any, .any, .any, .any, .any, .any, .any, .any, .any, .any, .any, .any, .any, .any, .any, .any, .any, .any, .any, .any, .any, .any, .any, .any, .any, .any, .any, .any, .any, .any, .any, .any, .any, .any, .any], [some (.row 3 [[I s.mach, c, t]]), some (.row 4 [[I s.mach, c, t, j]]), none, none]⟩) ∨ (∃ (q : Nat) (ev1 : List FEv), ev1 = evsN js S k1 i ∧ ev1.length = q + 1 ∧ σ = ⟨[.any, j, .any, .any, .any, .any, .nils, .any, .any, sv, I i1, .sl 3 0 (q + 1) false, .any, .any, .any, .any, .any, .any, .any, .any, .any, .any, .any, .any, .any, .any, .any, .any, .any, .any, .any, .any, .any, .any, I s.mach, I i1, .any, .any, j, I js.length, I g, .any, .any, .any, .any, .any, .any, .any, .any, .any, .any, .any, .any, .any, .any, .any, .any, .any, .any, .any, .any, .any, .any, .any, .any, .any, .any, .any, .any, .any, .any, .any, .any, .any, .any, .any, .any, .any, .any, .any, .any, .any, .any, .any, .any, .any, .any, .any, .any, .any, .any, .any, .any, .any, .any, .any, .any, .any, .any, .any, .any, .any, .any, .any, .any, .any, .any, .any, .any, .any, .any, .any, .any, .any, .any, .any, .any], [some (.row 3 [[I s.mach, c, t]]), some (.row 4 [[I s.mach, c, t, j]]), none, some (.row 2 (ev1.map rE2))]⟩))) (by simp [zC h61, zC h62, callF_eff h65 rfl, ↓orc_nil, -lenA, HH1, hi01, htn1, hk01, hwi1] <;> first | exact ⟨rfl, rfl⟩ | rfl) (⟨0, 0, rfl, rfl, Nat.zero_le _, .inl ⟨rfl, rfl⟩⟩) ?_
    rintro m2 σ ⟨i, g, hgi, rfl, hil, ⟨hev1, rfl⟩ | ⟨q, ev1, hev1, hel, rfl⟩⟩
    ·refine zS ?_
     refine zR (zO (by simp [zC h61, zC h62, callF_eff h65 rfl, ↓orc_nil, -lenA, HH1, hi01, htn1, hk01, hwi1]; rfl) ?_)
     simp only [zT, zB]
     refine zS ?_
     refine runs_cond_split (x := decide (g < (js.length : Int))) (by simp) (fun hlt2 => ?_) (fun hlt2 => ?_)
     ·have hltt := of_decide_eq_true hlt2
      have hk0 : i < js.length := by omega
      have hks : i < S.length := by omega
      have hg0 : 0 ≤ g := by omega
      have hgn : g.toNat = i := by omega
      have hwg : W .i64 (g + 1) = g + 1 := W_small (by omega)
      have hjb := hsh.job _ (List.getElem_mem hk0)
      have hrow := hSok _ (List.getElem_mem hks)
      have hJ := jobAt_eq hk0
      have hc1 := cameF_bd hsh hS160 hk0 k1
      have hs1' := stAt_bd hS160 i k1
      have hevs : evsN js S k1 (i + 1) = evsN js S k1 i ++ if 0 < minAt (jobAt js i) k1 ∧ cameF js S k1 i < stAt S i k1 then [(cameF js S k1 i, 1), (stAt S i k1, -1)] else [] := rfl
      have hkj : k1 < js[i].mins.length := by have := hjb.2.2.2.1; omega
      have hkS : k1 < S[i].length := by omega
      have hi1j : i1 < (js[i].mins.length : Int) := by omega
      have hi1S : i1 < (S[i].length : Int) := by omega
      obtain ⟨jr, tj, wv, rfl, hr1, hr2, hwv⟩ := dJobs_get hj hk0
      have hkr : i < jr.length := by omega
      have hr4 : ∀ h, jr[i]'h = [I js[i].kind, I js[i].ready, I js[i].due, wv] := fun h => by rw [List.getElem?_eq_getElem h] at hr2; exact Option.some.inj hr2
      have rw5 := fun n d => dInts_rb hwv n d
      have fw5 := fun H d => dInts_frz hwv H d
      have lw5 := dInts_len hwv
      obtain ⟨cw1, cw2⟩ := dInts_cells hwv
      obtain ⟨sr, tt, wt, rfl, hs1, hs2, hwt⟩ := dInts2_get hs hks
      have hksr : i < sr.length := by omega
      have hs4 : ∀ h, sr[i]'h = [wt] := fun h => by rw [List.getElem?_eq_getElem h] at hs2; exact Option.some.inj hs2
      have rt5 := fun n d => dInts_rb hwt n d
      have ft5 := fun H d => dInts_frz hwt H d
      have lt5 := dInts_len hwt
      obtain ⟨ctw1, ctw2⟩ := dInts_cells hwt
      obtain ⟨tw, rfl⟩ := dInts_get hwv hkj
      obtain ⟨tz, rfl⟩ := dInts_get hwt hkS
      rw [hJ, minAt_eq hkj, stAt_eq hks hkS] at hevs
      rw [stAt_eq hks hkS] at hs1'
      have hVb := hjb.2.2.2.2 _ (List.getElem_mem hkj)
      generalize hV : js[i].mins[k1] = V at *
      generalize hT : S[i][k1] = T1 at *
      generalize hFr : cameF js S k1 i = F0 at *
      by_cases hkz : k1 = 0
      ·have hF0 : js[i].ready = F0 := by rw [← hFr]; unfold cameF; rw [if_pos hkz, hJ]
       have hi1z : i1 = 0 := by omega
       have hd0 : decide (0 < i1) = false := by simp; omega
       have HH2 := zA hi01 (zA htn1 (zA hk01 (zA hwi1 (zA hg0 (zA hgn (zA hk0 (zA hks (zA hwg (zA hkj (zA hkS (zA hi1j (zA hi1S (zA hV (zA hT (zA hkr (zA hr2 (zA hr4 (zA rw5 (zA fw5 (zA lw5 (zA cw1 (zA cw2 (zA hksr (zA hs2 (zA hs4 (zA rt5 (zA ft5 (zA lt5 (zA ctw1 (zA ctw2 (zA hF0 hd0)))))))))))))))))))))))))))))))
       refine zK ?_
       simp only [zT, zB]
       refine zS ?_
       refine zL ?_
       refine zS ?_
       refine zR (zO (by simp [zC h61, zC h62, callF_eff h65 rfl, ↓orc_nil, -lenA, HH1, zI, HH2]; rfl) ?_)
       simp only [zT, zB]
       refine zS ?_
       refine zR (zO (by simp [zC h61, zC h62, callF_eff h65 rfl, ↓orc_nil, -lenA, HH1, zI, HH2]; rfl) ?_)
       simp only [zT, zB]
       refine zS ?_
       refine zS ?_
       refine zR (zO (by simp [zC h61, zC h62, callF_eff h65 rfl, ↓orc_nil, -lenA, HH1, zI, HH2]; rfl) ?_)
       simp only [zT, zB]
       refine runs_cond (x := false) (by simp [hd0]) ?_
       refine zK ?_
       simp only [zT, zB]
       refine zS ?_
       rcases hA : decide (0 < V) with _ | _
       ·refine zR (zO (by simp [zC h61, zC h62, callF_eff h65 rfl, ↓orc_nil, -lenA, HH1, zI, HH2, hA]; rfl) ?_)
        simp only [zT, zB]
        refine runs_cond (x := false) (by simp) ?_
        rw [if_neg (fun h => of_decide_eq_false hA h.1), List.append_nil] at hevs
        refine zK ?_
        simp only [zT, zB]
        refine zR (zO (by simp [zC h61, zC h62, callF_eff h65 rfl, ↓orc_nil, -lenA, HH1, zI, HH2, hA]; rfl) ?_)
        simp only [zT, zB]
        exact ⟨js.length - (i + 1), _, _, by omega, by simp [zC h61, zC h62, callF_eff h65 rfl, ↓orc_nil, -lenA, HH1, zI, HH2, hA] <;> first | exact ⟨rfl, rfl⟩ | rfl, i + 1, g + 1, by omega, rfl, by omega, .inl ⟨by rw [hevs]; exact hev1, rfl⟩⟩
       ·refine zR (zO (by simp [zC h61, zC h62, callF_eff h65 rfl, ↓orc_nil, -lenA, HH1, zI, HH2, hA]; rfl) ?_)
        simp only [zT, zB]
        refine runs_cond_split (x := decide (F0 < T1)) (by simp) (fun hq => ?_) (fun hq => ?_)
        ·rw [if_pos ⟨of_decide_eq_true hA, of_decide_eq_true hq⟩] at hevs
         rw [hev1, List.nil_append] at hevs
         have hap : [[I F0, I 1], [I T1, I (-1)]] = [(F0, 1), (T1, -1)].map rE2 := rfl
         refine zR (zO (by simp [zC h61, zC h62, callF_eff h65 rfl, ↓orc_nil, -lenA, HH1, zI, HH2, hA, rE2]; rfl) ?_)
         simp only [zT, zB]
         refine zR (zO (by simp [zC h61, zC h62, callF_eff h65 rfl, ↓orc_nil, -lenA, HH1, zI, HH2, hA, rE2]; rfl) ?_)
         simp only [zT, zB]
         exact ⟨js.length - (i + 1), _, _, by omega, by simp [zC h61, zC h62, callF_eff h65 rfl, ↓orc_nil, -lenA, HH1, zI, HH2, hA, rE2] <;> first | exact ⟨rfl, rfl⟩ | rfl, i + 1, g + 1, by omega, rfl, by omega, .inr ⟨1, [(F0, 1), (T1, -1)], hevs.symm, rfl, rfl⟩⟩
        ·rw [if_neg (fun h => of_decide_eq_false hq h.2), List.append_nil] at hevs
         refine zK ?_
         simp only [zT, zB]
         refine zR (zO (by simp [zC h61, zC h62, callF_eff h65 rfl, ↓orc_nil, -lenA, HH1, zI, HH2, hA]; rfl) ?_)
         simp only [zT, zB]
         exact ⟨js.length - (i + 1), _, _, by omega, by simp [zC h61, zC h62, callF_eff h65 rfl, ↓orc_nil, -lenA, HH1, zI, HH2, hA] <;> first | exact ⟨rfl, rfl⟩ | rfl, i + 1, g + 1, by omega, rfl, by omega, .inl ⟨by rw [hevs]; exact hev1, rfl⟩⟩
      ·have hkp : k1 - 1 < js[i].mins.length := by omega
       have hkq : k1 - 1 < S[i].length := by omega
       have hwk : W .i64 (i1 - 1) = i1 - 1 := W_small (by omega)
       have hi1p : 0 ≤ i1 - 1 := by omega
       have hi1q : 1 ≤ i1 := by omega
       have hi1t : (i1 - 1).toNat = k1 - 1 := by omega
       have hi1a : i1 - 1 < (js[i].mins.length : Int) := by omega
       have hi1b : i1 - 1 < (S[i].length : Int) := by omega
       have hp1 := hjb.2.2.2.2 _ (List.getElem_mem hkp)
       have hp2 := hS160 _ (List.getElem_mem hks) _ (List.getElem_mem hkq)
       have hF0 : S[i][k1 - 1] + js[i].mins[k1 - 1] = F0 := by rw [← hFr]; unfold cameF; rw [if_neg hkz, hJ, stAt_eq hks hkq, minAt_eq hkp]
       have hd0 : decide (0 < i1) = true := by simp; omega
       generalize hY1 : js[i].mins[k1 - 1] = Y1 at *
       generalize hY2 : S[i][k1 - 1] = Y2 at *
       have hwF : W .i64 (Y2 + Y1) = Y2 + Y1 := W_fit (by omega)
       have hwF2 : W .i64 F0 = F0 := W_fit (by omega)
       have HH3 := zA hi01 (zA htn1 (zA hk01 (zA hwi1 (zA hg0 (zA hgn (zA hk0 (zA hks (zA hwg (zA hkj (zA hkS (zA hi1j (zA hi1S (zA hV (zA hT (zA hkr (zA hr2 (zA hr4 (zA rw5 (zA fw5 (zA lw5 (zA cw1 (zA cw2 (zA hksr (zA hs2 (zA hs4 (zA rt5 (zA ft5 (zA lt5 (zA ctw1 (zA ctw2 (zA hd0 (zA hkp (zA hkq (zA hwk (zA hi1p (zA hi1q (zA hi1t (zA hi1a (zA hi1b (zA hY1 (zA hY2 (zA hF0 hwF2))))))))))))))))))))))))))))))))))))))))))
       refine zK ?_
       simp only [zT, zB]
       refine zS ?_
       refine zL ?_
       refine zS ?_
       refine zR (zO (by simp [zC h61, zC h62, callF_eff h65 rfl, ↓orc_nil, -lenA, HH1, zI, HH3]; rfl) ?_)
       simp only [zT, zB]
       refine zS ?_
       refine zR (zO (by simp [zC h61, zC h62, callF_eff h65 rfl, ↓orc_nil, -lenA, HH1, zI, HH3]; rfl) ?_)
       simp only [zT, zB]
       refine zS ?_
       refine zS ?_
       refine zR (zO (by simp [zC h61, zC h62, callF_eff h65 rfl, ↓orc_nil, -lenA, HH1, zI, HH3]; rfl) ?_)
       simp only [zT, zB]
       refine runs_cond (x := true) (by simp [hd0]) ?_
       refine runs_drw (by simp (maxSteps := 3000000) [zC h61, zC h62, callF_eff h65 rfl, ↓orc_nil, -lenA, HH1, zI, HH3]; rfl) ?_
       simp only [zT, zB]
       refine zS ?_
       rcases hA : decide (0 < V) with _ | _
       ·refine zR (zO (by simp [zC h61, zC h62, callF_eff h65 rfl, ↓orc_nil, -lenA, HH1, zI, HH3, hA]; rfl) ?_)
        simp only [zT, zB]
        refine runs_cond (x := false) (by simp) ?_
        rw [if_neg (fun h => of_decide_eq_false hA h.1), List.append_nil] at hevs
        refine zK ?_
        simp only [zT, zB]
        refine zR (zO (by simp [zC h61, zC h62, callF_eff h65 rfl, ↓orc_nil, -lenA, HH1, zI, HH3, hA]; rfl) ?_)
        simp only [zT, zB]
        exact ⟨js.length - (i + 1), _, _, by omega, by simp [zC h61, zC h62, callF_eff h65 rfl, ↓orc_nil, -lenA, HH1, zI, HH3, hA] <;> first | exact ⟨rfl, rfl⟩ | rfl, i + 1, g + 1, by omega, rfl, by omega, .inl ⟨by rw [hevs]; exact hev1, rfl⟩⟩
       ·refine zR (zO (by simp [zC h61, zC h62, callF_eff h65 rfl, ↓orc_nil, -lenA, HH1, zI, HH3, hA]; rfl) ?_)
        simp only [zT, zB]
        refine runs_cond_split (x := decide (F0 < T1)) (by simp) (fun hq => ?_) (fun hq => ?_)
        ·rw [if_pos ⟨of_decide_eq_true hA, of_decide_eq_true hq⟩] at hevs
         rw [hev1, List.nil_append] at hevs
         have hap : [[I F0, I 1], [I T1, I (-1)]] = [(F0, 1), (T1, -1)].map rE2 := rfl
         refine zR (zO (by simp [zC h61, zC h62, callF_eff h65 rfl, ↓orc_nil, -lenA, HH1, zI, HH3, hA, rE2]; rfl) ?_)
         simp only [zT, zB]
         refine zR (zO (by simp [zC h61, zC h62, callF_eff h65 rfl, ↓orc_nil, -lenA, HH1, zI, HH3, hA, rE2]; rfl) ?_)
         simp only [zT, zB]
         exact ⟨js.length - (i + 1), _, _, by omega, by simp [zC h61, zC h62, callF_eff h65 rfl, ↓orc_nil, -lenA, HH1, zI, HH3, hA, rE2] <;> first | exact ⟨rfl, rfl⟩ | rfl, i + 1, g + 1, by omega, rfl, by omega, .inr ⟨1, [(F0, 1), (T1, -1)], hevs.symm, rfl, rfl⟩⟩
        ·rw [if_neg (fun h => of_decide_eq_false hq h.2), List.append_nil] at hevs
         refine zK ?_
         simp only [zT, zB]
         refine zR (zO (by simp [zC h61, zC h62, callF_eff h65 rfl, ↓orc_nil, -lenA, HH1, zI, HH3, hA]; rfl) ?_)
         simp only [zT, zB]
         exact ⟨js.length - (i + 1), _, _, by omega, by simp [zC h61, zC h62, callF_eff h65 rfl, ↓orc_nil, -lenA, HH1, zI, HH3, hA] <;> first | exact ⟨rfl, rfl⟩ | rfl, i + 1, g + 1, by omega, rfl, by omega, .inl ⟨by rw [hevs]; exact hev1, rfl⟩⟩
     ·have hltt := of_decide_eq_false hlt2
      have hiE : i = js.length := by omega
      subst hiE
      rw [hev1, topE_nil] at hF1
      have hsq := sortE_nil
      have HH4 := zA hi01 (zA htn1 (zA hk01 (zA hwi1 hsq)))
      refine runs_exit ?_
      simp only [zT, zB, if_true, if_false, reduceIte, Nat.reduceEqDiff, Nat.succ_ne_zero, Nat.one_ne_zero, Nat.zero_ne_one]
      refine zS ?_
      refine zR (zO (by simp [zC h61, zC h62, callF_eff h65 rfl, ↓orc_nil, -lenA, HH1, HH4]; rfl) ?_)
      simp only [zT, zB]
      refine zS ?_
      refine zR (zO (by simp [zC h61, zC h62, callF_eff h65 rfl, ↓orc_nil, -lenA, HH1, HH4]; rfl) ?_)
      simp only [zT, zB]
      refine zS ?_
      refine zS ?_
      refine zR (zO (by simp [zC h61, zC h62, callF_eff h65 rfl, ↓orc_nil, -lenA, HH1, HH4]; rfl) ?_)
      simp only [zT, zB]
      refine zL ?_
      refine runs_loop_inv (fun m σ => σ = ⟨[.any, j, .any, .any, .any, .any, .nils, .any, .any, sv, .any, .any, .any, .any, .any, I 0, I 0, .any, .any, .any, .any, .any, .any, .any, .any, .any, .any, .any, .any, .any, .any, .any, .any, .any, I s.mach, I i1, .any, .any, .any, .any, .any, .any, .any, .any, .any, .any, .any, .any, .any, .any, .any, .any, .any, .any, .any, .any, .any, .any, .any, .any, .any, .any, .any, .any, .any, .any, .any, .any, .any, .any, .any, .any, .any, .any, .any, .any, .any, .any, .any, .any, .any, .any, .any, .any, .any, .any, .any, .any, .any, .any, .any, .any, .any, .any, .any, .any, .any, .nils, I 0, I 0, .any, .any, .any, .any, .any, .any, .any, .any, .any, .any, .any, .any, .any, .any, .any, .any, .any], [some (.row 3 [[I s.mach, c, t]]), some (.row 4 [[I s.mach, c, t, j]]), none, none]⟩) ?_ 0 _ (by simp)
      rintro m3 σ rfl
      refine zS ?_
      refine zR (zO (by simp [zC h61, zC h62, callF_eff h65 rfl, ↓orc_nil, -lenA, HH1, HH4]; rfl) ?_)
      simp only [zT, zB]
      refine zS ?_
      refine runs_cond (x := false) (by simp) ?_
      have hnx1 : [0] = (waitN js S (k1 + 1)) := by rw [hF1, hkz1]; rfl
      have hap1 : [[I 0]] = [0].map rI := rfl
      refine runs_exit ?_
      simp only [zT, zB, if_true, if_false, reduceIte, Nat.reduceEqDiff, Nat.succ_ne_zero, Nat.one_ne_zero, Nat.zero_ne_one]
      refine zR (zO (by simp [zC h61, zC h62, callF_eff h65 rfl, ↓orc_nil, -lenA, HH1, HH4]; rfl) ?_)
      simp only [zT, zB]
      refine zR (zO (by simp [zC h61, zC h62, callF_eff h65 rfl, ↓orc_nil, -lenA, HH1, HH4]; rfl) ?_)
      simp only [zT, zB]
      exact ⟨mn - (k1 + 1), _, _, by omega, by simp [zC h61, zC h62, callF_eff h65 rfl, ↓orc_nil, -lenA, HH1, HH4] <;> first | exact ⟨rfl, rfl⟩ | rfl, k1 + 1, i1 + 1, by omega, rfl, by omega, .inr ⟨0, [0], by omega, hnx1, rfl, rfl⟩⟩
    ·have tkE : (ev1.map rE2).take (q + 1) = ev1.map rE2 := List.take_of_length_le (by simp [hel])
     have hle1 := hevl k1 i
     rw [← hev1] at hle1
     have hlq : q + 1 + 2 ≤ 1048576 := by omega
     have hrj := fun n => rE2_rb n 4 ev1
     have hr3 : ∀ e : FEv, (rE2 e).length = 2 := fun _ => rfl
     have hfrE := fun n h => frN_mapE n h 4 ev1
     have HH5 := zA hi01 (zA htn1 (zA hk01 (zA hwi1 (zA tkE (zA hlq (zA hel hr3))))))
     refine zS ?_
     refine zR (zO (by simp [zC h61, zC h62, callF_eff h65 rfl, ↓orc_nil, -lenA, HH1, ↓hrj, HH5]; rfl) ?_)
     simp only [zT, zB]
     refine zS ?_
     refine runs_cond_split (x := decide (g < (js.length : Int))) (by simp) (fun hlt2 => ?_) (fun hlt2 => ?_)
     ·have hltt := of_decide_eq_true hlt2
      have hk0 : i < js.length := by omega
      have hks : i < S.length := by omega
      have hg0 : 0 ≤ g := by omega
      have hgn : g.toNat = i := by omega
      have hwg : W .i64 (g + 1) = g + 1 := W_small (by omega)
      have hjb := hsh.job _ (List.getElem_mem hk0)
      have hrow := hSok _ (List.getElem_mem hks)
      have hJ := jobAt_eq hk0
      have hc1 := cameF_bd hsh hS160 hk0 k1
      have hs1' := stAt_bd hS160 i k1
      have hevs : evsN js S k1 (i + 1) = evsN js S k1 i ++ if 0 < minAt (jobAt js i) k1 ∧ cameF js S k1 i < stAt S i k1 then [(cameF js S k1 i, 1), (stAt S i k1, -1)] else [] := rfl
      have hkj : k1 < js[i].mins.length := by have := hjb.2.2.2.1; omega
      have hkS : k1 < S[i].length := by omega
      have hi1j : i1 < (js[i].mins.length : Int) := by omega
      have hi1S : i1 < (S[i].length : Int) := by omega
      obtain ⟨jr, tj, wv, rfl, hr1, hr2, hwv⟩ := dJobs_get hj hk0
      have hkr : i < jr.length := by omega
      have hr4 : ∀ h, jr[i]'h = [I js[i].kind, I js[i].ready, I js[i].due, wv] := fun h => by rw [List.getElem?_eq_getElem h] at hr2; exact Option.some.inj hr2
      have rw5 := fun n d => dInts_rb hwv n d
      have fw5 := fun H d => dInts_frz hwv H d
      have lw5 := dInts_len hwv
      obtain ⟨cw1, cw2⟩ := dInts_cells hwv
      obtain ⟨sr, tt, wt, rfl, hs1, hs2, hwt⟩ := dInts2_get hs hks
      have hksr : i < sr.length := by omega
      have hs4 : ∀ h, sr[i]'h = [wt] := fun h => by rw [List.getElem?_eq_getElem h] at hs2; exact Option.some.inj hs2
      have rt5 := fun n d => dInts_rb hwt n d
      have ft5 := fun H d => dInts_frz hwt H d
      have lt5 := dInts_len hwt
      obtain ⟨ctw1, ctw2⟩ := dInts_cells hwt
      obtain ⟨tw, rfl⟩ := dInts_get hwv hkj
      obtain ⟨tz, rfl⟩ := dInts_get hwt hkS
      rw [hJ, minAt_eq hkj, stAt_eq hks hkS] at hevs
      rw [stAt_eq hks hkS] at hs1'
      have hVb := hjb.2.2.2.2 _ (List.getElem_mem hkj)
      generalize hV : js[i].mins[k1] = V at *
      generalize hT : S[i][k1] = T1 at *
      generalize hFr : cameF js S k1 i = F0 at *
      by_cases hkz : k1 = 0
      ·have hF0 : js[i].ready = F0 := by rw [← hFr]; unfold cameF; rw [if_pos hkz, hJ]
       have hi1z : i1 = 0 := by omega
       have hd0 : decide (0 < i1) = false := by simp; omega
       have HH6 := zA hg0 (zA hgn (zA hk0 (zA hks (zA hwg (zA hkj (zA hkS (zA hi1j (zA hi1S (zA hV (zA hT (zA hkr (zA hr2 (zA hr4 (zA rw5 (zA fw5 (zA lw5 (zA cw1 (zA cw2 (zA hksr (zA hs2 (zA hs4 (zA rt5 (zA ft5 (zA lt5 (zA ctw1 (zA ctw2 (zA hF0 hd0)))))))))))))))))))))))))))
       refine zK ?_
       simp only [zT, zB]
       refine zS ?_
       refine zL ?_
       refine zS ?_
       refine zR (zO (by simp [zC h61, zC h62, callF_eff h65 rfl, ↓orc_nil, -lenA, HH1, ↓hrj, HH5, zI, HH6]; rfl) ?_)
       simp only [zT, zB]
       refine zS ?_
       refine zR (zO (by simp [zC h61, zC h62, callF_eff h65 rfl, ↓orc_nil, -lenA, HH1, ↓hrj, HH5, zI, HH6]; rfl) ?_)
       simp only [zT, zB]
       refine zS ?_
       refine zS ?_
       refine zR (zO (by simp [zC h61, zC h62, callF_eff h65 rfl, ↓orc_nil, -lenA, HH1, ↓hrj, HH5, zI, HH6]; rfl) ?_)
       simp only [zT, zB]
       refine runs_cond (x := false) (by simp [hd0]) ?_
       refine zK ?_
       simp only [zT, zB]
       refine zS ?_
       rcases hA : decide (0 < V) with _ | _
       ·refine zR (zO (by simp [zC h61, zC h62, callF_eff h65 rfl, ↓orc_nil, -lenA, HH1, ↓hrj, HH5, zI, HH6, hA]; rfl) ?_)
        simp only [zT, zB]
        refine runs_cond (x := false) (by simp) ?_
        rw [if_neg (fun h => of_decide_eq_false hA h.1), List.append_nil] at hevs
        refine zK ?_
        simp only [zT, zB]
        refine zR (zO (by simp [zC h61, zC h62, callF_eff h65 rfl, ↓orc_nil, -lenA, HH1, ↓hrj, HH5, zI, HH6, hA]; rfl) ?_)
        simp only [zT, zB]
        exact ⟨js.length - (i + 1), _, _, by omega, by simp [zC h61, zC h62, callF_eff h65 rfl, ↓orc_nil, -lenA, HH1, ↓hrj, HH5, zI, HH6, hA] <;> first | exact ⟨rfl, rfl⟩ | rfl, i + 1, g + 1, by omega, rfl, by omega, .inr ⟨q, ev1, by rw [hevs]; exact hev1, hel, rfl⟩⟩
       ·refine zR (zO (by simp [zC h61, zC h62, callF_eff h65 rfl, ↓orc_nil, -lenA, HH1, ↓hrj, HH5, zI, HH6, hA]; rfl) ?_)
        simp only [zT, zB]
        refine runs_cond_split (x := decide (F0 < T1)) (by simp) (fun hq => ?_) (fun hq => ?_)
        ·rw [if_pos ⟨of_decide_eq_true hA, of_decide_eq_true hq⟩] at hevs
         rw [← hev1] at hevs
         have hap : ev1.map rE2 ++ [[I F0, I 1], [I T1, I (-1)]] = (ev1 ++ [(F0, 1), (T1, -1)]).map rE2 := by rw [List.map_append]; rfl
         have hel2 : (ev1 ++ [(F0, 1), (T1, -1)]).length = (q + 2) + 1 := by simp [hel]
         have hq2 : q + 1 + 2 = q + 2 + 1 := by omega
         generalize ev1 ++ [(F0, 1), (T1, -1)] = nx at *
         have hrx := fun n => rE2_rb n 4 nx
         refine zR (zO (by simp [zC h61, zC h62, callF_eff h65 rfl, ↓orc_nil, -lenA, HH1, ↓hrj, HH5, zI, HH6, hA, hap, ↓hrx, hq2]; rfl) ?_)
         simp only [zT, zB]
         refine zR (zO (by simp [zC h61, zC h62, callF_eff h65 rfl, ↓orc_nil, -lenA, HH1, ↓hrj, HH5, zI, HH6, hA, hap, ↓hrx, hq2]; rfl) ?_)
         simp only [zT, zB]
         exact ⟨js.length - (i + 1), _, _, by omega, by simp [zC h61, zC h62, callF_eff h65 rfl, ↓orc_nil, -lenA, HH1, ↓hrj, HH5, zI, HH6, hA, hap, ↓hrx, hq2] <;> first | exact ⟨rfl, rfl⟩ | rfl, i + 1, g + 1, by omega, rfl, by omega, .inr ⟨q + 2, nx, hevs.symm, hel2, rfl⟩⟩
        ·rw [if_neg (fun h => of_decide_eq_false hq h.2), List.append_nil] at hevs
         refine zK ?_
         simp only [zT, zB]
         refine zR (zO (by simp [zC h61, zC h62, callF_eff h65 rfl, ↓orc_nil, -lenA, HH1, ↓hrj, HH5, zI, HH6, hA]; rfl) ?_)
         simp only [zT, zB]
         exact ⟨js.length - (i + 1), _, _, by omega, by simp [zC h61, zC h62, callF_eff h65 rfl, ↓orc_nil, -lenA, HH1, ↓hrj, HH5, zI, HH6, hA] <;> first | exact ⟨rfl, rfl⟩ | rfl, i + 1, g + 1, by omega, rfl, by omega, .inr ⟨q, ev1, by rw [hevs]; exact hev1, hel, rfl⟩⟩
      ·have hkp : k1 - 1 < js[i].mins.length := by omega
       have hkq : k1 - 1 < S[i].length := by omega
       have hwk : W .i64 (i1 - 1) = i1 - 1 := W_small (by omega)
       have hi1p : 0 ≤ i1 - 1 := by omega
       have hi1q : 1 ≤ i1 := by omega
       have hi1t : (i1 - 1).toNat = k1 - 1 := by omega
       have hi1a : i1 - 1 < (js[i].mins.length : Int) := by omega
       have hi1b : i1 - 1 < (S[i].length : Int) := by omega
       have hp1 := hjb.2.2.2.2 _ (List.getElem_mem hkp)
       have hp2 := hS160 _ (List.getElem_mem hks) _ (List.getElem_mem hkq)
       have hF0 : S[i][k1 - 1] + js[i].mins[k1 - 1] = F0 := by rw [← hFr]; unfold cameF; rw [if_neg hkz, hJ, stAt_eq hks hkq, minAt_eq hkp]
       have hd0 : decide (0 < i1) = true := by simp; omega
       generalize hY1 : js[i].mins[k1 - 1] = Y1 at *
       generalize hY2 : S[i][k1 - 1] = Y2 at *
       have hwF : W .i64 (Y2 + Y1) = Y2 + Y1 := W_fit (by omega)
       have hwF2 : W .i64 F0 = F0 := W_fit (by omega)
       have HH7 := zA hg0 (zA hgn (zA hk0 (zA hks (zA hwg (zA hkj (zA hkS (zA hi1j (zA hi1S (zA hV (zA hT (zA hkr (zA hr2 (zA hr4 (zA rw5 (zA fw5 (zA lw5 (zA cw1 (zA cw2 (zA hksr (zA hs2 (zA hs4 (zA rt5 (zA ft5 (zA lt5 (zA ctw1 (zA ctw2 (zA hd0 (zA hkp (zA hkq (zA hwk (zA hi1p (zA hi1q (zA hi1t (zA hi1a (zA hi1b (zA hY1 (zA hY2 (zA hF0 hwF2))))))))))))))))))))))))))))))))))))))
       refine zK ?_
       simp only [zT, zB]
       refine zS ?_
       refine zL ?_
       refine zS ?_
       refine zR (zO (by simp [zC h61, zC h62, callF_eff h65 rfl, ↓orc_nil, -lenA, HH1, ↓hrj, HH5, zI, HH7]; rfl) ?_)
       simp only [zT, zB]
       refine zS ?_
       refine zR (zO (by simp [zC h61, zC h62, callF_eff h65 rfl, ↓orc_nil, -lenA, HH1, ↓hrj, HH5, zI, HH7]; rfl) ?_)
       simp only [zT, zB]
       refine zS ?_
       refine zS ?_
       refine zR (zO (by simp [zC h61, zC h62, callF_eff h65 rfl, ↓orc_nil, -lenA, HH1, ↓hrj, HH5, zI, HH7]; rfl) ?_)
       simp only [zT, zB]
       refine runs_cond (x := true) (by simp [hd0]) ?_
       refine runs_drw (by simp (maxSteps := 3000000) [zC h61, zC h62, callF_eff h65 rfl, ↓orc_nil, -lenA, HH1, ↓hrj, HH5, zI, HH7]; rfl) ?_
       simp only [zT, zB]
       refine zS ?_
       rcases hA : decide (0 < V) with _ | _
       ·refine zR (zO (by simp [zC h61, zC h62, callF_eff h65 rfl, ↓orc_nil, -lenA, HH1, ↓hrj, HH5, zI, HH7, hA]; rfl) ?_)
        simp only [zT, zB]
        refine runs_cond (x := false) (by simp) ?_
        rw [if_neg (fun h => of_decide_eq_false hA h.1), List.append_nil] at hevs
        refine zK ?_
        simp only [zT, zB]
        refine zR (zO (by simp [zC h61, zC h62, callF_eff h65 rfl, ↓orc_nil, -lenA, HH1, ↓hrj, HH5, zI, HH7, hA]; rfl) ?_)
        simp only [zT, zB]
        exact ⟨js.length - (i + 1), _, _, by omega, by simp [zC h61, zC h62, callF_eff h65 rfl, ↓orc_nil, -lenA, HH1, ↓hrj, HH5, zI, HH7, hA] <;> first | exact ⟨rfl, rfl⟩ | rfl, i + 1, g + 1, by omega, rfl, by omega, .inr ⟨q, ev1, by rw [hevs]; exact hev1, hel, rfl⟩⟩
       ·refine zR (zO (by simp [zC h61, zC h62, callF_eff h65 rfl, ↓orc_nil, -lenA, HH1, ↓hrj, HH5, zI, HH7, hA]; rfl) ?_)
        simp only [zT, zB]
        refine runs_cond_split (x := decide (F0 < T1)) (by simp) (fun hq => ?_) (fun hq => ?_)
        ·rw [if_pos ⟨of_decide_eq_true hA, of_decide_eq_true hq⟩] at hevs
         rw [← hev1] at hevs
         have hap : ev1.map rE2 ++ [[I F0, I 1], [I T1, I (-1)]] = (ev1 ++ [(F0, 1), (T1, -1)]).map rE2 := by rw [List.map_append]; rfl
         have hel2 : (ev1 ++ [(F0, 1), (T1, -1)]).length = (q + 2) + 1 := by simp [hel]
         have hq2 : q + 1 + 2 = q + 2 + 1 := by omega
         generalize ev1 ++ [(F0, 1), (T1, -1)] = nx at *
         have hrx := fun n => rE2_rb n 4 nx
         refine zR (zO (by simp [zC h61, zC h62, callF_eff h65 rfl, ↓orc_nil, -lenA, HH1, ↓hrj, HH5, zI, HH7, hA, hap, ↓hrx, hq2]; rfl) ?_)
         simp only [zT, zB]
         refine zR (zO (by simp [zC h61, zC h62, callF_eff h65 rfl, ↓orc_nil, -lenA, HH1, ↓hrj, HH5, zI, HH7, hA, hap, ↓hrx, hq2]; rfl) ?_)
         simp only [zT, zB]
         exact ⟨js.length - (i + 1), _, _, by omega, by simp [zC h61, zC h62, callF_eff h65 rfl, ↓orc_nil, -lenA, HH1, ↓hrj, HH5, zI, HH7, hA, hap, ↓hrx, hq2] <;> first | exact ⟨rfl, rfl⟩ | rfl, i + 1, g + 1, by omega, rfl, by omega, .inr ⟨q + 2, nx, hevs.symm, hel2, rfl⟩⟩
        ·rw [if_neg (fun h => of_decide_eq_false hq h.2), List.append_nil] at hevs
         refine zK ?_
         simp only [zT, zB]
         refine zR (zO (by simp [zC h61, zC h62, callF_eff h65 rfl, ↓orc_nil, -lenA, HH1, ↓hrj, HH5, zI, HH7, hA]; rfl) ?_)
         simp only [zT, zB]
         exact ⟨js.length - (i + 1), _, _, by omega, by simp [zC h61, zC h62, callF_eff h65 rfl, ↓orc_nil, -lenA, HH1, ↓hrj, HH5, zI, HH7, hA] <;> first | exact ⟨rfl, rfl⟩ | rfl, i + 1, g + 1, by omega, rfl, by omega, .inr ⟨q, ev1, by rw [hevs]; exact hev1, hel, rfl⟩⟩
     ·have hltt := of_decide_eq_false hlt2
      have hiE : i = js.length := by omega
      subst hiE
      have hsq := sortE_eq (xs := ev1) ⟨by omega, by omega⟩ (fun e he => by
       rw [hev1] at he
       have := hevb k1 _ (Nat.le_refl _) e he
       omega)
      rw [hel] at hsq
      have hesl : (esrt ev1).length = q + 1 := by rw [esrt_len, hel]
      have hesb : ∀ e ∈ esrt ev1, e.2 = 1 ∨ e.2 = -1 := fun e he => (hevb k1 _ (Nat.le_refl _) e (by rw [← hev1]; exact (esrt_perm ev1).mem_iff.1 he)).2
      rw [← hev1] at hF1
      have htop : topG (esrt ev1) 0 0 = topE (esrt ev1) := rfl
      have hTb : topE (esrt ev1) = topE (esrt ev1) := rfl
      generalize hTV : topE (esrt ev1) = TV at *
      generalize esrt ev1 = es at *
      have hrs := fun n => rE2_rb n 4 es
      have hfs := fun n h => frN_mapE n h 4 es
      refine runs_exit ?_
      simp only [zT, zB, if_true, if_false, reduceIte, Nat.reduceEqDiff, Nat.succ_ne_zero, Nat.one_ne_zero, Nat.zero_ne_one]
      refine zS ?_
      refine zR (zO (by simp [zC h61, zC h62, callF_eff h65 rfl, ↓orc_nil, -lenA, HH1, ↓hrj, HH5, hsq, hesl, ↓hrs, ↓hfs]; rfl) ?_)
      simp only [zT, zB]
      refine zS ?_
      refine zR (zO (by simp [zC h61, zC h62, callF_eff h65 rfl, ↓orc_nil, -lenA, HH1, ↓hrj, HH5, hsq, hesl, ↓hrs, ↓hfs]; rfl) ?_)
      simp only [zT, zB]
      refine zS ?_
      refine zS ?_
      refine zR (zO (by simp [zC h61, zC h62, callF_eff h65 rfl, ↓orc_nil, -lenA, HH1, ↓hrj, HH5, hsq, hesl, ↓hrs, ↓hfs]; rfl) ?_)
      simp only [zT, zB]
      refine zL ?_
      refine runs_loop_inv (fun m3 σ => ∃ (p : Nat) (u now top : Int), u = p ∧ q + 1 - p = m3 ∧ p ≤ q + 1 ∧ (-(p : Int) ≤ now ∧ now ≤ p) ∧ (0 ≤ top ∧ top ≤ p) ∧ topG (es.drop p) now top = TV ∧ σ = ⟨[.any, j, .any, .any, .any, .any, .nils, .any, .any, sv, .any, .any, .any, .any, .any, I now, I top, .any, .any, .any, .any, .any, .any, .any, .any, .any, .any, .any, .any, .any, .any, .any, .any, .any, I s.mach, I i1, .any, .any, .any, .any, .any, .any, .any, .any, .any, .any, .any, .any, .any, .any, .any, .any, .any, .any, .any, .any, .any, .any, .any, .any, .any, .any, .any, .any, .any, .any, .any, .any, .any, .any, .any, .any, .any, .any, .any, .any, .any, .any, .any, .any, .any, .any, .any, .any, .any, .any, .any, .any, .any, .any, .any, .any, .any, .any, .any, .any, .any, .sl 3 0 (q + 1) false, I ((q : Int) + 1), I u, .any, .any, .any, .any, .any, .any, .any, .any, .any, .any, .any, .any, .any, .any, .any, .any, .any], [some (.row 3 [[I s.mach, c, t]]), some (.row 4 [[I s.mach, c, t, j]]), none, some (.row 2 (es.map rE2))]⟩) ?_ (q + 1 - 0) _ ⟨0, 0, 0, 0, rfl, rfl, Nat.zero_le _, by omega, by omega, htop, by simp⟩
      rintro m3 σ ⟨p, u, now, top, hup, rfl, hpl, hnb, htb, htg, rfl⟩
      refine zS ?_
      refine zR (zO (by simp [zC h61, zC h62, callF_eff h65 rfl, ↓orc_nil, -lenA, HH1, ↓hrj, HH5, hsq, hesl, ↓hrs, ↓hfs]; rfl) ?_)
      simp only [zT, zB]
      refine zS ?_
      refine runs_cond_split (x := _) rfl (fun hlt3 => ?_) (fun hlt3 => ?_)
      ·have hlt4 := of_decide_eq_true hlt3
       have hp0 : p < es.length := by omega
       have hpq : p < q + 1 := by omega
       have hu0 : 0 ≤ u := by omega
       have huq : u < (q : Int) + 1 := by omega
       have hun : u.toNat = p := by omega
       have hwu : W .i64 (u + 1) = u + 1 := W_small (by omega)
       have heb := hesb _ (List.getElem_mem hp0)
       rw [List.drop_eq_getElem_cons hp0] at htg
       have hgE : (es.map rE2)[p]? = some (rE2 es[p]) := by rw [List.getElem?_map, List.getElem?_eq_getElem hp0]; rfl
       have hgE2 : ∀ h, (es.map rE2)[p]'h = rE2 es[p] := fun h => by rw [List.getElem_map]
       generalize hX : es[p] = X at *
       obtain ⟨x1, x2⟩ := X
       simp only at heb
       simp only [topG] at htg
       have hgE3 : (es.map rE2)[p]? = some [I x1, I x2] := hgE
       have hgE4 : ∀ h, (es.map rE2)[p]'h = [I x1, I x2] := hgE2
       have hwn : W .i64 (now + x2) = now + x2 := W_small (by omega)
       have HH8 := zA hsq (zA hesl (zA huq (zA hu0 (zA hun (zA hp0 (zA hpq (zA hwu (zA hgE3 (zA hgE4 (zA hX hwn))))))))))
       refine zK ?_
       simp only [zT, zB]
       refine zS ?_
       refine zL ?_
       refine zS ?_
       refine zR (zO (by simp [zC h61, zC h62, callF_eff h65 rfl, ↓orc_nil, -lenA, HH1, ↓hrj, HH5, ↓hrs, ↓hfs, -List.getElem?_map, -List.getElem_map, HH8]; rfl) ?_)
       simp only [zT, zB]
       refine zS ?_
       refine zR (zO (by simp [zC h61, zC h62, callF_eff h65 rfl, ↓orc_nil, -lenA, HH1, ↓hrj, HH5, ↓hrs, ↓hfs, -List.getElem?_map, -List.getElem_map, HH8]; rfl) ?_)
       simp only [zT, zB]
       refine zR (zO (by simp [zC h61, zC h62, callF_eff h65 rfl, ↓orc_nil, -lenA, HH1, ↓hrj, HH5, ↓hrs, ↓hfs, -List.getElem?_map, -List.getElem_map, HH8]; rfl) ?_)
       simp only [zT, zB]
       refine zR (zO (by simp [zC h61, zC h62, callF_eff h65 rfl, ↓orc_nil, -lenA, HH1, ↓hrj, HH5, ↓hrs, ↓hfs, -List.getElem?_map, -List.getElem_map, HH8]; rfl) ?_)
       simp only [zT, zB]
       exact ⟨q + 1 - (p + 1), by omega, p + 1, u + 1, now + x2, max top (now + x2), by omega, rfl, by omega, by omega, by omega, htg, st_eq (by simp [zC h61, zC h62, callF_eff h65 rfl, ↓orc_nil, -lenA, HH1, ↓hrj, HH5, ↓hrs, ↓hfs, -List.getElem?_map, -List.getElem_map, HH8]) (trim_ok (by simp [zC h61, zC h62, callF_eff h65 rfl, ↓orc_nil, -lenA, HH1, ↓hrj, HH5, ↓hrs, ↓hfs, -List.getElem?_map, -List.getElem_map, HH8]) (by simp [zC h61, zC h62, callF_eff h65 rfl, ↓orc_nil, -lenA, HH1, ↓hrj, HH5, ↓hrs, ↓hfs, -List.getElem?_map, -List.getElem_map, HH8]) (by simp))⟩
      ·have hlt4 := of_decide_eq_false hlt3
       have hpE : p = q + 1 := by omega
       rw [List.drop_of_length_le (by omega)] at htg
       simp only [topG] at htg
       subst htg
       have hnx1 : [top] = (waitN js S (k1 + 1)) := by rw [hF1, hkz1]; rfl
       have hap1 : [[I top]] = [top].map rI := rfl
       refine runs_exit ?_
       simp only [zT, zB, if_true, if_false, reduceIte, Nat.reduceEqDiff, Nat.succ_ne_zero, Nat.one_ne_zero, Nat.zero_ne_one]
       refine zR (zO (by simp [zC h61, zC h62, callF_eff h65 rfl, ↓orc_nil, -lenA, HH1, ↓hrj, HH5, hsq, hesl, ↓hrs, ↓hfs]; rfl) ?_)
       simp only [zT, zB]
       refine zR (zO (by simp [zC h61, zC h62, callF_eff h65 rfl, ↓orc_nil, -lenA, HH1, ↓hrj, HH5, hsq, hesl, ↓hrs, ↓hfs]; rfl) ?_)
       simp only [zT, zB]
       exact ⟨mn - (k1 + 1), _, _, by omega, by simp [zC h61, zC h62, callF_eff h65 rfl, ↓orc_nil, -lenA, HH1, ↓hrj, HH5, hsq, hesl, ↓hrs, ↓hfs] <;> first | exact ⟨rfl, rfl⟩ | rfl, k1 + 1, i1 + 1, by omega, rfl, by omega, .inr ⟨0, [top], by omega, hnx1, rfl, rfl⟩⟩
   ·have hx1 := of_decide_eq_false hlt1
    have hkE1 : k1 = mn := by omega
    omega
  ·have tk1 : (ac1.map rI).take (p1 + 1) = ac1.map rI := List.take_of_length_le (by simp [hacl1])
   have hlac1 : p1 + 1 + 1 ≤ 1048576 := by omega
   have hr31 : ∀ e : Int, (rI e).length = 1 := fun _ => rfl
   have hfr1 := fun n h r => optAll_snoc (frN_rI n h ac1) r
   have hrj1 := fun n => rI_rb n 4 ac1
   refine zS ?_
   refine zR (zO (by simp [zC h61, zC h62, callF_eff h65 rfl, ↓orc_nil, -lenA, HH1, tk1, hlac1, hacl1, hr31, ↓hfr1, ↓hrj1]; rfl) ?_)
   simp only [zT, zB]
   refine zS ?_
   refine runs_cond_split (x := _) rfl (fun hlt1 => ?_) (fun hlt1 => ?_)
   ·have hltt1 := of_decide_eq_true hlt1
    have hk01 : k1 < mn := by omega
    have hi01 : 0 ≤ i1 := by omega
    have htn1 : i1.toNat = k1 := by omega
    have hwi1 : W .i64 (i1 + 1) = i1 + 1 := W_small (by omega)
    have hk1m : (k1 : Int) < s.mach := by omega
    have hF1 : waitN js S (k1 + 1) = waitN js S k1 ++ [topE (esrt (evsN js S k1 js.length))] := rfl
    have HH9 := zA tk1 (zA hlac1 (zA hacl1 (zA hr31 (zA hi01 (zA htn1 (zA hk01 hwi1))))))
    refine zK ?_
    simp only [zT, zB]
    refine zS ?_
    refine zL ?_
    refine zS ?_
    refine zR (zO (by simp [zC h61, zC h62, callF_eff h65 rfl, ↓orc_nil, -lenA, HH1, ↓hfr1, ↓hrj1, HH9]; rfl) ?_)
    simp only [zT, zB]
    refine zS ?_
    refine zR (zO (by simp [zC h61, zC h62, callF_eff h65 rfl, ↓orc_nil, -lenA, HH1, ↓hfr1, ↓hrj1, HH9]; rfl) ?_)
    simp only [zT, zB]
    refine zS ?_
    refine zS ?_
    refine zR (zO (by simp [zC h61, zC h62, callF_eff h65 rfl, ↓orc_nil, -lenA, HH1, ↓hfr1, ↓hrj1, HH9]; rfl) ?_)
    simp only [zT, zB]
    refine zL ?_
    refine runs_loopG_inv (fun m2 σ => ∃ (i : Nat) (g : Int), g = i ∧ js.length - i = m2 ∧ i ≤ js.length ∧ ((evsN js S k1 i = [] ∧ σ = ⟨[.any, j, .any, .any, .any, .any, .sl 2 0 (p1 + 1) false, .any, .any, sv, I i1, .nils, .any, .any, .any, .any, .any, .any, .any, .any, .any, .any, .any, .any, .any, .any, .any, .any, .any, .any, .any, .any, .any, .any, I s.mach, I i1, .any, .any, j, I js.length, I g, .any, .any, .any, .any, .any, .any, .any, .any, .any, .any, .any, .any, .any, .any, .any, .any, .any, .any, .any, .any, .any, .any, .any, .any, .any, .any, .any, .any, .any, .any, .any, .any, .any, .any, .any, .any, .any, .any, .any, .any, .any, .any, .any, .any, .any, .any, .any, .any, .any, .any, .any, .any, .any, .any, .any, .any, .any, .any, .any, .any, .any, .any, .any, .any, .any, .any, .any, .any, .any, .any, .any, .any, .any, .any, .any, .any], [some (.row 3 [[I s.mach, c, t]]), some (.row 4 [[I s.mach, c, t, j]]), some (.row 1 (ac1.map rI)), none]⟩) ∨ (∃ (q : Nat) (ev1 : List FEv), ev1 = evsN js S k1 i ∧ ev1.length = q + 1 ∧ σ = ⟨[.any, j, .any, .any, .any, .any, .sl 2 0 (p1 + 1) false, .any, .any, sv, I i1, .sl 3 0 (q + 1) false, .any, .any, .any, .any, .any, .any, .any, .any, .any, .any, .any, .any, .any, .any, .any, .any, .any, .any, .any, .any, .any, .any, I s.mach, I i1, .any, .any, j, I js.length, I g, .any, .any, .any, .any, .any, .any, .any, .any, .any, .any, .any, .any, .any, .any, .any, .any, .any, .any, .any, .any, .any, .any, .any, .any, .any, .any, .any, .any, .any, .any, .any, .any, .any, .any, .any, .any, .any, .any, .any, .any, .any, .any, .any, .any, .any, .any, .any, .any, .any, .any, .any, .any, .any, .any, .any, .any, .any, .any, .any, .any, .any, .any, .any, .any, .any, .any, .any, .any, .any, .any, .any, .any, .any, .any, .any, .any], [some (.row 3 [[I s.mach, c, t]]), some (.row 4 [[I s.mach, c, t, j]]), some (.row 1 (ac1.map rI)), some (.row 2 (ev1.map rE2))]⟩))) (by simp [zC h61, zC h62, callF_eff h65 rfl, ↓orc_nil, -lenA, HH1, ↓hfr1, ↓hrj1, HH9] <;> first | exact ⟨rfl, rfl⟩ | rfl) (⟨0, 0, rfl, rfl, Nat.zero_le _, .inl ⟨rfl, rfl⟩⟩) ?_
    rintro m2 σ ⟨i, g, hgi, rfl, hil, ⟨hev1, rfl⟩ | ⟨q, ev1, hev1, hel, rfl⟩⟩
    ·refine zS ?_
     refine zR (zO (by simp [zC h61, zC h62, callF_eff h65 rfl, ↓orc_nil, -lenA, HH1, ↓hfr1, ↓hrj1, HH9]; rfl) ?_)
     simp only [zT, zB]
     refine zS ?_
     refine runs_cond_split (x := decide (g < (js.length : Int))) (by simp) (fun hlt2 => ?_) (fun hlt2 => ?_)
     ·have hltt := of_decide_eq_true hlt2
      have hk0 : i < js.length := by omega
      have hks : i < S.length := by omega
      have hg0 : 0 ≤ g := by omega
      have hgn : g.toNat = i := by omega
      have hwg : W .i64 (g + 1) = g + 1 := W_small (by omega)
      have hjb := hsh.job _ (List.getElem_mem hk0)
      have hrow := hSok _ (List.getElem_mem hks)
      have hJ := jobAt_eq hk0
      have hc1 := cameF_bd hsh hS160 hk0 k1
      have hs1' := stAt_bd hS160 i k1
      have hevs : evsN js S k1 (i + 1) = evsN js S k1 i ++ if 0 < minAt (jobAt js i) k1 ∧ cameF js S k1 i < stAt S i k1 then [(cameF js S k1 i, 1), (stAt S i k1, -1)] else [] := rfl
      have hkj : k1 < js[i].mins.length := by have := hjb.2.2.2.1; omega
      have hkS : k1 < S[i].length := by omega
      have hi1j : i1 < (js[i].mins.length : Int) := by omega
      have hi1S : i1 < (S[i].length : Int) := by omega
      obtain ⟨jr, tj, wv, rfl, hr1, hr2, hwv⟩ := dJobs_get hj hk0
      have hkr : i < jr.length := by omega
      have hr4 : ∀ h, jr[i]'h = [I js[i].kind, I js[i].ready, I js[i].due, wv] := fun h => by rw [List.getElem?_eq_getElem h] at hr2; exact Option.some.inj hr2
      have rw5 := fun n d => dInts_rb hwv n d
      have fw5 := fun H d => dInts_frz hwv H d
      have lw5 := dInts_len hwv
      obtain ⟨cw1, cw2⟩ := dInts_cells hwv
      obtain ⟨sr, tt, wt, rfl, hs1, hs2, hwt⟩ := dInts2_get hs hks
      have hksr : i < sr.length := by omega
      have hs4 : ∀ h, sr[i]'h = [wt] := fun h => by rw [List.getElem?_eq_getElem h] at hs2; exact Option.some.inj hs2
      have rt5 := fun n d => dInts_rb hwt n d
      have ft5 := fun H d => dInts_frz hwt H d
      have lt5 := dInts_len hwt
      obtain ⟨ctw1, ctw2⟩ := dInts_cells hwt
      obtain ⟨tw, rfl⟩ := dInts_get hwv hkj
      obtain ⟨tz, rfl⟩ := dInts_get hwt hkS
      rw [hJ, minAt_eq hkj, stAt_eq hks hkS] at hevs
      rw [stAt_eq hks hkS] at hs1'
      have hVb := hjb.2.2.2.2 _ (List.getElem_mem hkj)
      generalize hV : js[i].mins[k1] = V at *
      generalize hT : S[i][k1] = T1 at *
      generalize hFr : cameF js S k1 i = F0 at *
      by_cases hkz : k1 = 0
      ·have hF0 : js[i].ready = F0 := by rw [← hFr]; unfold cameF; rw [if_pos hkz, hJ]
       have hi1z : i1 = 0 := by omega
       have hd0 : decide (0 < i1) = false := by simp; omega
       have HH10 := zA hg0 (zA hgn (zA hk0 (zA hks (zA hwg (zA hkj (zA hkS (zA hi1j (zA hi1S (zA hV (zA hT (zA hkr (zA hr2 (zA hr4 (zA rw5 (zA fw5 (zA lw5 (zA cw1 (zA cw2 (zA hksr (zA hs2 (zA hs4 (zA rt5 (zA ft5 (zA lt5 (zA ctw1 (zA ctw2 (zA hF0 hd0)))))))))))))))))))))))))))
       refine zK ?_
       simp only [zT, zB]
       refine zS ?_
       refine zL ?_
       refine zS ?_
       refine zR (zO (by simp [zC h61, zC h62, callF_eff h65 rfl, ↓orc_nil, -lenA, HH1, ↓hfr1, ↓hrj1, HH9, zI, HH10]; rfl) ?_)
       simp only [zT, zB]
       refine zS ?_
       refine zR (zO (by simp [zC h61, zC h62, callF_eff h65 rfl, ↓orc_nil, -lenA, HH1, ↓hfr1, ↓hrj1, HH9, zI, HH10]; rfl) ?_)
       simp only [zT, zB]
       refine zS ?_
       refine zS ?_
       refine zR (zO (by simp [zC h61, zC h62, callF_eff h65 rfl, ↓orc_nil, -lenA, HH1, ↓hfr1, ↓hrj1, HH9, zI, HH10]; rfl) ?_)
       simp only [zT, zB]
       refine runs_cond (x := false) (by simp [hd0]) ?_
       refine zK ?_
       simp only [zT, zB]
       refine zS ?_
       rcases hA : decide (0 < V) with _ | _
       ·refine zR (zO (by simp [zC h61, zC h62, callF_eff h65 rfl, ↓orc_nil, -lenA, HH1, ↓hfr1, ↓hrj1, HH9, zI, HH10, hA]; rfl) ?_)
        simp only [zT, zB]
        refine runs_cond (x := false) (by simp) ?_
        rw [if_neg (fun h => of_decide_eq_false hA h.1), List.append_nil] at hevs
        refine zK ?_
        simp only [zT, zB]
        refine zR (zO (by simp [zC h61, zC h62, callF_eff h65 rfl, ↓orc_nil, -lenA, HH1, ↓hfr1, ↓hrj1, HH9, zI, HH10, hA]; rfl) ?_)
        simp only [zT, zB]
        exact ⟨js.length - (i + 1), _, _, by omega, by simp [zC h61, zC h62, callF_eff h65 rfl, ↓orc_nil, -lenA, HH1, ↓hfr1, ↓hrj1, HH9, zI, HH10, hA] <;> first | exact ⟨rfl, rfl⟩ | rfl, i + 1, g + 1, by omega, rfl, by omega, .inl ⟨by rw [hevs]; exact hev1, rfl⟩⟩
       ·refine zR (zO (by simp [zC h61, zC h62, callF_eff h65 rfl, ↓orc_nil, -lenA, HH1, ↓hfr1, ↓hrj1, HH9, zI, HH10, hA]; rfl) ?_)
        simp only [zT, zB]
        refine runs_cond_split (x := decide (F0 < T1)) (by simp) (fun hq => ?_) (fun hq => ?_)
        ·rw [if_pos ⟨of_decide_eq_true hA, of_decide_eq_true hq⟩] at hevs
         rw [hev1, List.nil_append] at hevs
         have hap : [[I F0, I 1], [I T1, I (-1)]] = [(F0, 1), (T1, -1)].map rE2 := rfl
         refine zR (zO (by simp [zC h61, zC h62, callF_eff h65 rfl, ↓orc_nil, -lenA, HH1, ↓hfr1, ↓hrj1, HH9, zI, HH10, hA, rE2]; rfl) ?_)
         simp only [zT, zB]
         refine zR (zO (by simp [zC h61, zC h62, callF_eff h65 rfl, ↓orc_nil, -lenA, HH1, ↓hfr1, ↓hrj1, HH9, zI, HH10, hA, rE2]; rfl) ?_)
         simp only [zT, zB]
         exact ⟨js.length - (i + 1), _, _, by omega, by simp [zC h61, zC h62, callF_eff h65 rfl, ↓orc_nil, -lenA, HH1, ↓hfr1, ↓hrj1, HH9, zI, HH10, hA, rE2] <;> first | exact ⟨rfl, rfl⟩ | rfl, i + 1, g + 1, by omega, rfl, by omega, .inr ⟨1, [(F0, 1), (T1, -1)], hevs.symm, rfl, rfl⟩⟩
        ·rw [if_neg (fun h => of_decide_eq_false hq h.2), List.append_nil] at hevs
         refine zK ?_
         simp only [zT, zB]
         refine zR (zO (by simp [zC h61, zC h62, callF_eff h65 rfl, ↓orc_nil, -lenA, HH1, ↓hfr1, ↓hrj1, HH9, zI, HH10, hA]; rfl) ?_)
         simp only [zT, zB]
         exact ⟨js.length - (i + 1), _, _, by omega, by simp [zC h61, zC h62, callF_eff h65 rfl, ↓orc_nil, -lenA, HH1, ↓hfr1, ↓hrj1, HH9, zI, HH10, hA] <;> first | exact ⟨rfl, rfl⟩ | rfl, i + 1, g + 1, by omega, rfl, by omega, .inl ⟨by rw [hevs]; exact hev1, rfl⟩⟩
      ·have hkp : k1 - 1 < js[i].mins.length := by omega
       have hkq : k1 - 1 < S[i].length := by omega
       have hwk : W .i64 (i1 - 1) = i1 - 1 := W_small (by omega)
       have hi1p : 0 ≤ i1 - 1 := by omega
       have hi1q : 1 ≤ i1 := by omega
       have hi1t : (i1 - 1).toNat = k1 - 1 := by omega
       have hi1a : i1 - 1 < (js[i].mins.length : Int) := by omega
       have hi1b : i1 - 1 < (S[i].length : Int) := by omega
       have hp1 := hjb.2.2.2.2 _ (List.getElem_mem hkp)
       have hp2 := hS160 _ (List.getElem_mem hks) _ (List.getElem_mem hkq)
       have hF0 : S[i][k1 - 1] + js[i].mins[k1 - 1] = F0 := by rw [← hFr]; unfold cameF; rw [if_neg hkz, hJ, stAt_eq hks hkq, minAt_eq hkp]
       have hd0 : decide (0 < i1) = true := by simp; omega
       generalize hY1 : js[i].mins[k1 - 1] = Y1 at *
       generalize hY2 : S[i][k1 - 1] = Y2 at *
       have hwF : W .i64 (Y2 + Y1) = Y2 + Y1 := W_fit (by omega)
       have hwF2 : W .i64 F0 = F0 := W_fit (by omega)
       have HH11 := zA hg0 (zA hgn (zA hk0 (zA hks (zA hwg (zA hkj (zA hkS (zA hi1j (zA hi1S (zA hV (zA hT (zA hkr (zA hr2 (zA hr4 (zA rw5 (zA fw5 (zA lw5 (zA cw1 (zA cw2 (zA hksr (zA hs2 (zA hs4 (zA rt5 (zA ft5 (zA lt5 (zA ctw1 (zA ctw2 (zA hd0 (zA hkp (zA hkq (zA hwk (zA hi1p (zA hi1q (zA hi1t (zA hi1a (zA hi1b (zA hY1 (zA hY2 (zA hF0 hwF2))))))))))))))))))))))))))))))))))))))
       refine zK ?_
       simp only [zT, zB]
       refine zS ?_
       refine zL ?_
       refine zS ?_
       refine zR (zO (by simp [zC h61, zC h62, callF_eff h65 rfl, ↓orc_nil, -lenA, HH1, ↓hfr1, ↓hrj1, HH9, zI, HH11]; rfl) ?_)
       simp only [zT, zB]
       refine zS ?_
       refine zR (zO (by simp [zC h61, zC h62, callF_eff h65 rfl, ↓orc_nil, -lenA, HH1, ↓hfr1, ↓hrj1, HH9, zI, HH11]; rfl) ?_)
       simp only [zT, zB]
       refine zS ?_
       refine zS ?_
       refine zR (zO (by simp [zC h61, zC h62, callF_eff h65 rfl, ↓orc_nil, -lenA, HH1, ↓hfr1, ↓hrj1, HH9, zI, HH11]; rfl) ?_)
       simp only [zT, zB]
       refine runs_cond (x := true) (by simp [hd0]) ?_
       refine runs_drw (by simp (maxSteps := 3000000) [zC h61, zC h62, callF_eff h65 rfl, ↓orc_nil, -lenA, HH1, ↓hfr1, ↓hrj1, HH9, zI, HH11]; rfl) ?_
       simp only [zT, zB]
       refine zS ?_
       rcases hA : decide (0 < V) with _ | _
       ·refine zR (zO (by simp [zC h61, zC h62, callF_eff h65 rfl, ↓orc_nil, -lenA, HH1, ↓hfr1, ↓hrj1, HH9, zI, HH11, hA]; rfl) ?_)
        simp only [zT, zB]
        refine runs_cond (x := false) (by simp) ?_
        rw [if_neg (fun h => of_decide_eq_false hA h.1), List.append_nil] at hevs
        refine zK ?_
        simp only [zT, zB]
        refine zR (zO (by simp [zC h61, zC h62, callF_eff h65 rfl, ↓orc_nil, -lenA, HH1, ↓hfr1, ↓hrj1, HH9, zI, HH11, hA]; rfl) ?_)
        simp only [zT, zB]
        exact ⟨js.length - (i + 1), _, _, by omega, by simp [zC h61, zC h62, callF_eff h65 rfl, ↓orc_nil, -lenA, HH1, ↓hfr1, ↓hrj1, HH9, zI, HH11, hA] <;> first | exact ⟨rfl, rfl⟩ | rfl, i + 1, g + 1, by omega, rfl, by omega, .inl ⟨by rw [hevs]; exact hev1, rfl⟩⟩
       ·refine zR (zO (by simp [zC h61, zC h62, callF_eff h65 rfl, ↓orc_nil, -lenA, HH1, ↓hfr1, ↓hrj1, HH9, zI, HH11, hA]; rfl) ?_)
        simp only [zT, zB]
        refine runs_cond_split (x := decide (F0 < T1)) (by simp) (fun hq => ?_) (fun hq => ?_)
        ·rw [if_pos ⟨of_decide_eq_true hA, of_decide_eq_true hq⟩] at hevs
         rw [hev1, List.nil_append] at hevs
         have hap : [[I F0, I 1], [I T1, I (-1)]] = [(F0, 1), (T1, -1)].map rE2 := rfl
         refine zR (zO (by simp [zC h61, zC h62, callF_eff h65 rfl, ↓orc_nil, -lenA, HH1, ↓hfr1, ↓hrj1, HH9, zI, HH11, hA, rE2]; rfl) ?_)
         simp only [zT, zB]
         refine zR (zO (by simp [zC h61, zC h62, callF_eff h65 rfl, ↓orc_nil, -lenA, HH1, ↓hfr1, ↓hrj1, HH9, zI, HH11, hA, rE2]; rfl) ?_)
         simp only [zT, zB]
         exact ⟨js.length - (i + 1), _, _, by omega, by simp [zC h61, zC h62, callF_eff h65 rfl, ↓orc_nil, -lenA, HH1, ↓hfr1, ↓hrj1, HH9, zI, HH11, hA, rE2] <;> first | exact ⟨rfl, rfl⟩ | rfl, i + 1, g + 1, by omega, rfl, by omega, .inr ⟨1, [(F0, 1), (T1, -1)], hevs.symm, rfl, rfl⟩⟩
        ·rw [if_neg (fun h => of_decide_eq_false hq h.2), List.append_nil] at hevs
         refine zK ?_
         simp only [zT, zB]
         refine zR (zO (by simp [zC h61, zC h62, callF_eff h65 rfl, ↓orc_nil, -lenA, HH1, ↓hfr1, ↓hrj1, HH9, zI, HH11, hA]; rfl) ?_)
         simp only [zT, zB]
         exact ⟨js.length - (i + 1), _, _, by omega, by simp [zC h61, zC h62, callF_eff h65 rfl, ↓orc_nil, -lenA, HH1, ↓hfr1, ↓hrj1, HH9, zI, HH11, hA] <;> first | exact ⟨rfl, rfl⟩ | rfl, i + 1, g + 1, by omega, rfl, by omega, .inl ⟨by rw [hevs]; exact hev1, rfl⟩⟩
     ·have hltt := of_decide_eq_false hlt2
      have hiE : i = js.length := by omega
      subst hiE
      rw [hev1, topE_nil] at hF1
      have hsq := sortE_nil
      refine runs_exit ?_
      simp only [zT, zB, if_true, if_false, reduceIte, Nat.reduceEqDiff, Nat.succ_ne_zero, Nat.one_ne_zero, Nat.zero_ne_one]
      refine zS ?_
      refine zR (zO (by simp [zC h61, zC h62, callF_eff h65 rfl, ↓orc_nil, -lenA, HH1, ↓hfr1, ↓hrj1, HH9, hsq]; rfl) ?_)
      simp only [zT, zB]
      refine zS ?_
      refine zR (zO (by simp [zC h61, zC h62, callF_eff h65 rfl, ↓orc_nil, -lenA, HH1, ↓hfr1, ↓hrj1, HH9, hsq]; rfl) ?_)
      simp only [zT, zB]
      refine zS ?_
      refine zS ?_
      refine zR (zO (by simp [zC h61, zC h62, callF_eff h65 rfl, ↓orc_nil, -lenA, HH1, ↓hfr1, ↓hrj1, HH9, hsq]; rfl) ?_)
      simp only [zT, zB]
      refine zL ?_
      refine runs_loop_inv (fun m σ => σ = ⟨[.any, j, .any, .any, .any, .any, .sl 2 0 (p1 + 1) false, .any, .any, sv, .any, .any, .any, .any, .any, I 0, I 0, .any, .any, .any, .any, .any, .any, .any, .any, .any, .any, .any, .any, .any, .any, .any, .any, .any, I s.mach, I i1, .any, .any, .any, .any, .any, .any, .any, .any, .any, .any, .any, .any, .any, .any, .any, .any, .any, .any, .any, .any, .any, .any, .any, .any, .any, .any, .any, .any, .any, .any, .any, .any, .any, .any, .any, .any, .any, .any, .any, .any, .any, .any, .any, .any, .any, .any, .any, .any, .any, .any, .any, .any, .any, .any, .any, .any, .any, .any, .any, .any, .any, .nils, I 0, I 0, .any, .any, .any, .any, .any, .any, .any, .any, .any, .any, .any, .any, .any, .any, .any, .any, .any], [some (.row 3 [[I s.mach, c, t]]), some (.row 4 [[I s.mach, c, t, j]]), some (.row 1 (ac1.map rI)), none]⟩) ?_ 0 _ (by simp)
      rintro m3 σ rfl
      refine zS ?_
      refine zR (zO (by simp [zC h61, zC h62, callF_eff h65 rfl, ↓orc_nil, -lenA, HH1, ↓hfr1, ↓hrj1, HH9, hsq]; rfl) ?_)
      simp only [zT, zB]
      refine zS ?_
      refine runs_cond (x := false) (by simp) ?_
      have hnx1 : ac1 ++ [0] = (waitN js S (k1 + 1)) := by rw [hF1, ← hac1]
      have hnl1 : (ac1 ++ [0]).length = p1 + 1 + 1 := by simp [hacl1]
      have hap1 : ac1.map rI ++ [[I 0]] = (ac1 ++ [0]).map rI := by rw [List.map_append]; rfl
      generalize ac1 ++ [0] = nx1 at *
      have hrx1 := fun n => rI_rb n 4 nx1
      refine runs_exit ?_
      simp only [zT, zB, if_true, if_false, reduceIte, Nat.reduceEqDiff, Nat.succ_ne_zero, Nat.one_ne_zero, Nat.zero_ne_one]
      refine zR (zO (by simp [zC h61, zC h62, callF_eff h65 rfl, ↓orc_nil, -lenA, HH1, ↓hfr1, ↓hrj1, HH9, hsq, hap1, ↓hrx1]; rfl) ?_)
      simp only [zT, zB]
      refine zR (zO (by simp [zC h61, zC h62, callF_eff h65 rfl, ↓orc_nil, -lenA, HH1, ↓hfr1, ↓hrj1, HH9, hsq, hap1, ↓hrx1]; rfl) ?_)
      simp only [zT, zB]
      exact ⟨mn - (k1 + 1), _, _, by omega, by simp [zC h61, zC h62, callF_eff h65 rfl, ↓orc_nil, -lenA, HH1, ↓hfr1, ↓hrj1, HH9, hsq, hap1, ↓hrx1] <;> first | exact ⟨rfl, rfl⟩ | rfl, k1 + 1, i1 + 1, by omega, rfl, by omega, .inr ⟨p1 + 1, nx1, by omega, hnx1, hnl1, rfl⟩⟩
    ·have tkE : (ev1.map rE2).take (q + 1) = ev1.map rE2 := List.take_of_length_le (by simp [hel])
     have hle1 := hevl k1 i
     rw [← hev1] at hle1
     have hlq : q + 1 + 2 ≤ 1048576 := by omega
     have hrj := fun n => rE2_rb n 4 ev1
     have hr3 : ∀ e : FEv, (rE2 e).length = 2 := fun _ => rfl
     have hfrE := fun n h => frN_mapE n h 4 ev1
     refine zS ?_
     refine zR (zO (by simp [zC h61, zC h62, callF_eff h65 rfl, ↓orc_nil, -lenA, HH1, ↓hfr1, ↓hrj1, HH9, tkE, hlq, hel, hr3, ↓hrj]; rfl) ?_)
     simp only [zT, zB]
     refine zS ?_
     refine runs_cond_split (x := decide (g < (js.length : Int))) (by simp) (fun hlt2 => ?_) (fun hlt2 => ?_)
     ·have hltt := of_decide_eq_true hlt2
      have hk0 : i < js.length := by omega
      have hks : i < S.length := by omega
      have hg0 : 0 ≤ g := by omega
      have hgn : g.toNat = i := by omega
      have hwg : W .i64 (g + 1) = g + 1 := W_small (by omega)
      have hjb := hsh.job _ (List.getElem_mem hk0)
      have hrow := hSok _ (List.getElem_mem hks)
      have hJ := jobAt_eq hk0
      have hc1 := cameF_bd hsh hS160 hk0 k1
      have hs1' := stAt_bd hS160 i k1
      have hevs : evsN js S k1 (i + 1) = evsN js S k1 i ++ if 0 < minAt (jobAt js i) k1 ∧ cameF js S k1 i < stAt S i k1 then [(cameF js S k1 i, 1), (stAt S i k1, -1)] else [] := rfl
      have hkj : k1 < js[i].mins.length := by have := hjb.2.2.2.1; omega
      have hkS : k1 < S[i].length := by omega
      have hi1j : i1 < (js[i].mins.length : Int) := by omega
      have hi1S : i1 < (S[i].length : Int) := by omega
      obtain ⟨jr, tj, wv, rfl, hr1, hr2, hwv⟩ := dJobs_get hj hk0
      have hkr : i < jr.length := by omega
      have hr4 : ∀ h, jr[i]'h = [I js[i].kind, I js[i].ready, I js[i].due, wv] := fun h => by rw [List.getElem?_eq_getElem h] at hr2; exact Option.some.inj hr2
      have rw5 := fun n d => dInts_rb hwv n d
      have fw5 := fun H d => dInts_frz hwv H d
      have lw5 := dInts_len hwv
      obtain ⟨cw1, cw2⟩ := dInts_cells hwv
      obtain ⟨sr, tt, wt, rfl, hs1, hs2, hwt⟩ := dInts2_get hs hks
      have hksr : i < sr.length := by omega
      have hs4 : ∀ h, sr[i]'h = [wt] := fun h => by rw [List.getElem?_eq_getElem h] at hs2; exact Option.some.inj hs2
      have rt5 := fun n d => dInts_rb hwt n d
      have ft5 := fun H d => dInts_frz hwt H d
      have lt5 := dInts_len hwt
      obtain ⟨ctw1, ctw2⟩ := dInts_cells hwt
      obtain ⟨tw, rfl⟩ := dInts_get hwv hkj
      obtain ⟨tz, rfl⟩ := dInts_get hwt hkS
      rw [hJ, minAt_eq hkj, stAt_eq hks hkS] at hevs
      rw [stAt_eq hks hkS] at hs1'
      have hVb := hjb.2.2.2.2 _ (List.getElem_mem hkj)
      generalize hV : js[i].mins[k1] = V at *
      generalize hT : S[i][k1] = T1 at *
      generalize hFr : cameF js S k1 i = F0 at *
      by_cases hkz : k1 = 0
      ·have hF0 : js[i].ready = F0 := by rw [← hFr]; unfold cameF; rw [if_pos hkz, hJ]
       have hi1z : i1 = 0 := by omega
       have hd0 : decide (0 < i1) = false := by simp; omega
       have HH12 := zA tkE (zA hlq (zA hel (zA hr3 (zA hg0 (zA hgn (zA hk0 (zA hks (zA hwg (zA hkj (zA hkS (zA hi1j (zA hi1S (zA hV (zA hT (zA hkr (zA hr2 (zA hr4 (zA rw5 (zA fw5 (zA lw5 (zA cw1 (zA cw2 (zA hksr (zA hs2 (zA hs4 (zA rt5 (zA ft5 (zA lt5 (zA ctw1 (zA ctw2 (zA hF0 hd0)))))))))))))))))))))))))))))))
       refine zK ?_
       simp only [zT, zB]
       refine zS ?_
       refine zL ?_
       refine zS ?_
       refine zR (zO (by simp [zC h61, zC h62, callF_eff h65 rfl, ↓orc_nil, -lenA, HH1, ↓hfr1, ↓hrj1, HH9, ↓hrj, zI, HH12]; rfl) ?_)
       simp only [zT, zB]
       refine zS ?_
       refine zR (zO (by simp [zC h61, zC h62, callF_eff h65 rfl, ↓orc_nil, -lenA, HH1, ↓hfr1, ↓hrj1, HH9, ↓hrj, zI, HH12]; rfl) ?_)
       simp only [zT, zB]
       refine zS ?_
       refine zS ?_
       refine zR (zO (by simp [zC h61, zC h62, callF_eff h65 rfl, ↓orc_nil, -lenA, HH1, ↓hfr1, ↓hrj1, HH9, ↓hrj, zI, HH12]; rfl) ?_)
       simp only [zT, zB]
       refine runs_cond (x := false) (by simp [hd0]) ?_
       refine zK ?_
       simp only [zT, zB]
       refine zS ?_
       rcases hA : decide (0 < V) with _ | _
       ·refine zR (zO (by simp [zC h61, zC h62, callF_eff h65 rfl, ↓orc_nil, -lenA, HH1, ↓hfr1, ↓hrj1, HH9, ↓hrj, zI, HH12, hA]; rfl) ?_)
        simp only [zT, zB]
        refine runs_cond (x := false) (by simp) ?_
        rw [if_neg (fun h => of_decide_eq_false hA h.1), List.append_nil] at hevs
        refine zK ?_
        simp only [zT, zB]
        refine zR (zO (by simp [zC h61, zC h62, callF_eff h65 rfl, ↓orc_nil, -lenA, HH1, ↓hfr1, ↓hrj1, HH9, ↓hrj, zI, HH12, hA]; rfl) ?_)
        simp only [zT, zB]
        exact ⟨js.length - (i + 1), _, _, by omega, by simp [zC h61, zC h62, callF_eff h65 rfl, ↓orc_nil, -lenA, HH1, ↓hfr1, ↓hrj1, HH9, ↓hrj, zI, HH12, hA] <;> first | exact ⟨rfl, rfl⟩ | rfl, i + 1, g + 1, by omega, rfl, by omega, .inr ⟨q, ev1, by rw [hevs]; exact hev1, hel, rfl⟩⟩
       ·refine zR (zO (by simp [zC h61, zC h62, callF_eff h65 rfl, ↓orc_nil, -lenA, HH1, ↓hfr1, ↓hrj1, HH9, ↓hrj, zI, HH12, hA]; rfl) ?_)
        simp only [zT, zB]
        refine runs_cond_split (x := decide (F0 < T1)) (by simp) (fun hq => ?_) (fun hq => ?_)
        ·rw [if_pos ⟨of_decide_eq_true hA, of_decide_eq_true hq⟩] at hevs
         rw [← hev1] at hevs
         have hap : ev1.map rE2 ++ [[I F0, I 1], [I T1, I (-1)]] = (ev1 ++ [(F0, 1), (T1, -1)]).map rE2 := by rw [List.map_append]; rfl
         have hel2 : (ev1 ++ [(F0, 1), (T1, -1)]).length = (q + 2) + 1 := by simp [hel]
         have hq2 : q + 1 + 2 = q + 2 + 1 := by omega
         generalize ev1 ++ [(F0, 1), (T1, -1)] = nx at *
         have hrx := fun n => rE2_rb n 4 nx
         refine zR (zO (by simp [zC h61, zC h62, callF_eff h65 rfl, ↓orc_nil, -lenA, HH1, ↓hfr1, ↓hrj1, HH9, ↓hrj, zI, HH12, hA, hap, ↓hrx, hq2]; rfl) ?_)
         simp only [zT, zB]
         refine zR (zO (by simp [zC h61, zC h62, callF_eff h65 rfl, ↓orc_nil, -lenA, HH1, ↓hfr1, ↓hrj1, HH9, ↓hrj, zI, HH12, hA, hap, ↓hrx, hq2]; rfl) ?_)
         simp only [zT, zB]
         exact ⟨js.length - (i + 1), _, _, by omega, by simp [zC h61, zC h62, callF_eff h65 rfl, ↓orc_nil, -lenA, HH1, ↓hfr1, ↓hrj1, HH9, ↓hrj, zI, HH12, hA, hap, ↓hrx, hq2] <;> first | exact ⟨rfl, rfl⟩ | rfl, i + 1, g + 1, by omega, rfl, by omega, .inr ⟨q + 2, nx, hevs.symm, hel2, rfl⟩⟩
        ·rw [if_neg (fun h => of_decide_eq_false hq h.2), List.append_nil] at hevs
         refine zK ?_
         simp only [zT, zB]
         refine zR (zO (by simp [zC h61, zC h62, callF_eff h65 rfl, ↓orc_nil, -lenA, HH1, ↓hfr1, ↓hrj1, HH9, ↓hrj, zI, HH12, hA]; rfl) ?_)
         simp only [zT, zB]
         exact ⟨js.length - (i + 1), _, _, by omega, by simp [zC h61, zC h62, callF_eff h65 rfl, ↓orc_nil, -lenA, HH1, ↓hfr1, ↓hrj1, HH9, ↓hrj, zI, HH12, hA] <;> first | exact ⟨rfl, rfl⟩ | rfl, i + 1, g + 1, by omega, rfl, by omega, .inr ⟨q, ev1, by rw [hevs]; exact hev1, hel, rfl⟩⟩
      ·have hkp : k1 - 1 < js[i].mins.length := by omega
       have hkq : k1 - 1 < S[i].length := by omega
       have hwk : W .i64 (i1 - 1) = i1 - 1 := W_small (by omega)
       have hi1p : 0 ≤ i1 - 1 := by omega
       have hi1q : 1 ≤ i1 := by omega
       have hi1t : (i1 - 1).toNat = k1 - 1 := by omega
       have hi1a : i1 - 1 < (js[i].mins.length : Int) := by omega
       have hi1b : i1 - 1 < (S[i].length : Int) := by omega
       have hp1 := hjb.2.2.2.2 _ (List.getElem_mem hkp)
       have hp2 := hS160 _ (List.getElem_mem hks) _ (List.getElem_mem hkq)
       have hF0 : S[i][k1 - 1] + js[i].mins[k1 - 1] = F0 := by rw [← hFr]; unfold cameF; rw [if_neg hkz, hJ, stAt_eq hks hkq, minAt_eq hkp]
       have hd0 : decide (0 < i1) = true := by simp; omega
       generalize hY1 : js[i].mins[k1 - 1] = Y1 at *
       generalize hY2 : S[i][k1 - 1] = Y2 at *
       have hwF : W .i64 (Y2 + Y1) = Y2 + Y1 := W_fit (by omega)
       have hwF2 : W .i64 F0 = F0 := W_fit (by omega)
       have HH13 := zA tkE (zA hlq (zA hel (zA hr3 (zA hg0 (zA hgn (zA hk0 (zA hks (zA hwg (zA hkj (zA hkS (zA hi1j (zA hi1S (zA hV (zA hT (zA hkr (zA hr2 (zA hr4 (zA rw5 (zA fw5 (zA lw5 (zA cw1 (zA cw2 (zA hksr (zA hs2 (zA hs4 (zA rt5 (zA ft5 (zA lt5 (zA ctw1 (zA ctw2 (zA hd0 (zA hkp (zA hkq (zA hwk (zA hi1p (zA hi1q (zA hi1t (zA hi1a (zA hi1b (zA hY1 (zA hY2 (zA hF0 hwF2))))))))))))))))))))))))))))))))))))))))))
       refine zK ?_
       simp only [zT, zB]
       refine zS ?_
       refine zL ?_
       refine zS ?_
       refine zR (zO (by simp [zC h61, zC h62, callF_eff h65 rfl, ↓orc_nil, -lenA, HH1, ↓hfr1, ↓hrj1, HH9, ↓hrj, zI, HH13]; rfl) ?_)
       simp only [zT, zB]
       refine zS ?_
       refine zR (zO (by simp [zC h61, zC h62, callF_eff h65 rfl, ↓orc_nil, -lenA, HH1, ↓hfr1, ↓hrj1, HH9, ↓hrj, zI, HH13]; rfl) ?_)
       simp only [zT, zB]
       refine zS ?_
       refine zS ?_
       refine zR (zO (by simp [zC h61, zC h62, callF_eff h65 rfl, ↓orc_nil, -lenA, HH1, ↓hfr1, ↓hrj1, HH9, ↓hrj, zI, HH13]; rfl) ?_)
       simp only [zT, zB]
       refine runs_cond (x := true) (by simp [hd0]) ?_
       refine runs_drw (by simp (maxSteps := 3000000) [zC h61, zC h62, callF_eff h65 rfl, ↓orc_nil, -lenA, HH1, ↓hfr1, ↓hrj1, HH9, ↓hrj, zI, HH13]; rfl) ?_
       simp only [zT, zB]
       refine zS ?_
       rcases hA : decide (0 < V) with _ | _
       ·refine zR (zO (by simp [zC h61, zC h62, callF_eff h65 rfl, ↓orc_nil, -lenA, HH1, ↓hfr1, ↓hrj1, HH9, ↓hrj, zI, HH13, hA]; rfl) ?_)
        simp only [zT, zB]
        refine runs_cond (x := false) (by simp) ?_
        rw [if_neg (fun h => of_decide_eq_false hA h.1), List.append_nil] at hevs
        refine zK ?_
        simp only [zT, zB]
        refine zR (zO (by simp [zC h61, zC h62, callF_eff h65 rfl, ↓orc_nil, -lenA, HH1, ↓hfr1, ↓hrj1, HH9, ↓hrj, zI, HH13, hA]; rfl) ?_)
        simp only [zT, zB]
        exact ⟨js.length - (i + 1), _, _, by omega, by simp [zC h61, zC h62, callF_eff h65 rfl, ↓orc_nil, -lenA, HH1, ↓hfr1, ↓hrj1, HH9, ↓hrj, zI, HH13, hA] <;> first | exact ⟨rfl, rfl⟩ | rfl, i + 1, g + 1, by omega, rfl, by omega, .inr ⟨q, ev1, by rw [hevs]; exact hev1, hel, rfl⟩⟩
       ·refine zR (zO (by simp [zC h61, zC h62, callF_eff h65 rfl, ↓orc_nil, -lenA, HH1, ↓hfr1, ↓hrj1, HH9, ↓hrj, zI, HH13, hA]; rfl) ?_)
        simp only [zT, zB]
        refine runs_cond_split (x := decide (F0 < T1)) (by simp) (fun hq => ?_) (fun hq => ?_)
        ·rw [if_pos ⟨of_decide_eq_true hA, of_decide_eq_true hq⟩] at hevs
         rw [← hev1] at hevs
         have hap : ev1.map rE2 ++ [[I F0, I 1], [I T1, I (-1)]] = (ev1 ++ [(F0, 1), (T1, -1)]).map rE2 := by rw [List.map_append]; rfl
         have hel2 : (ev1 ++ [(F0, 1), (T1, -1)]).length = (q + 2) + 1 := by simp [hel]
         have hq2 : q + 1 + 2 = q + 2 + 1 := by omega
         generalize ev1 ++ [(F0, 1), (T1, -1)] = nx at *
         have hrx := fun n => rE2_rb n 4 nx
         refine zR (zO (by simp [zC h61, zC h62, callF_eff h65 rfl, ↓orc_nil, -lenA, HH1, ↓hfr1, ↓hrj1, HH9, ↓hrj, zI, HH13, hA, hap, ↓hrx, hq2]; rfl) ?_)
         simp only [zT, zB]
         refine zR (zO (by simp [zC h61, zC h62, callF_eff h65 rfl, ↓orc_nil, -lenA, HH1, ↓hfr1, ↓hrj1, HH9, ↓hrj, zI, HH13, hA, hap, ↓hrx, hq2]; rfl) ?_)
         simp only [zT, zB]
         exact ⟨js.length - (i + 1), _, _, by omega, by simp [zC h61, zC h62, callF_eff h65 rfl, ↓orc_nil, -lenA, HH1, ↓hfr1, ↓hrj1, HH9, ↓hrj, zI, HH13, hA, hap, ↓hrx, hq2] <;> first | exact ⟨rfl, rfl⟩ | rfl, i + 1, g + 1, by omega, rfl, by omega, .inr ⟨q + 2, nx, hevs.symm, hel2, rfl⟩⟩
        ·rw [if_neg (fun h => of_decide_eq_false hq h.2), List.append_nil] at hevs
         refine zK ?_
         simp only [zT, zB]
         refine zR (zO (by simp [zC h61, zC h62, callF_eff h65 rfl, ↓orc_nil, -lenA, HH1, ↓hfr1, ↓hrj1, HH9, ↓hrj, zI, HH13, hA]; rfl) ?_)
         simp only [zT, zB]
         exact ⟨js.length - (i + 1), _, _, by omega, by simp [zC h61, zC h62, callF_eff h65 rfl, ↓orc_nil, -lenA, HH1, ↓hfr1, ↓hrj1, HH9, ↓hrj, zI, HH13, hA] <;> first | exact ⟨rfl, rfl⟩ | rfl, i + 1, g + 1, by omega, rfl, by omega, .inr ⟨q, ev1, by rw [hevs]; exact hev1, hel, rfl⟩⟩
     ·have hltt := of_decide_eq_false hlt2
      have hiE : i = js.length := by omega
      subst hiE
      have hsq := sortE_eq (xs := ev1) ⟨by omega, by omega⟩ (fun e he => by
       rw [hev1] at he
       have := hevb k1 _ (Nat.le_refl _) e he
       omega)
      rw [hel] at hsq
      have hesl : (esrt ev1).length = q + 1 := by rw [esrt_len, hel]
      have hesb : ∀ e ∈ esrt ev1, e.2 = 1 ∨ e.2 = -1 := fun e he => (hevb k1 _ (Nat.le_refl _) e (by rw [← hev1]; exact (esrt_perm ev1).mem_iff.1 he)).2
      rw [← hev1] at hF1
      have htop : topG (esrt ev1) 0 0 = topE (esrt ev1) := rfl
      have hTb : topE (esrt ev1) = topE (esrt ev1) := rfl
      generalize hTV : topE (esrt ev1) = TV at *
      generalize esrt ev1 = es at *
      have hrs := fun n => rE2_rb n 4 es
      have hfs := fun n h => frN_mapE n h 4 es
      have HH14 := zA tkE (zA hlq (zA hel (zA hr3 (zA hsq hesl))))
      have HH15 := zA hfr1 (zA hrj1 (zA hrj (zA hrs hfs)))
      refine runs_exit ?_
      simp only [zT, zB, if_true, if_false, reduceIte, Nat.reduceEqDiff, Nat.succ_ne_zero, Nat.one_ne_zero, Nat.zero_ne_one]
      refine zS ?_
      refine zR (zO (by simp [zC h61, zC h62, callF_eff h65 rfl, ↓orc_nil, -lenA, HH1, HH9, HH14, ↓HH15]; rfl) ?_)
      simp only [zT, zB]
      refine zS ?_
      refine zR (zO (by simp [zC h61, zC h62, callF_eff h65 rfl, ↓orc_nil, -lenA, HH1, HH9, HH14, ↓HH15]; rfl) ?_)
      simp only [zT, zB]
      refine zS ?_
      refine zS ?_
      refine zR (zO (by simp [zC h61, zC h62, callF_eff h65 rfl, ↓orc_nil, -lenA, HH1, HH9, HH14, ↓HH15]; rfl) ?_)
      simp only [zT, zB]
      refine zL ?_
      refine runs_loop_inv (fun m3 σ => ∃ (p : Nat) (u now top : Int), u = p ∧ q + 1 - p = m3 ∧ p ≤ q + 1 ∧ (-(p : Int) ≤ now ∧ now ≤ p) ∧ (0 ≤ top ∧ top ≤ p) ∧ topG (es.drop p) now top = TV ∧ σ = ⟨[.any, j, .any, .any, .any, .any, .sl 2 0 (p1 + 1) false, .any, .any, sv, .any, .any, .any, .any, .any, I now, I top, .any, .any, .any, .any, .any, .any, .any, .any, .any, .any, .any, .any, .any, .any, .any, .any, .any, I s.mach, I i1, .any, .any, .any, .any, .any, .any, .any, .any, .any, .any, .any, .any, .any, .any, .any, .any, .any, .any, .any, .any, .any, .any, .any, .any, .any, .any, .any, .any, .any, .any, .any, .any, .any, .any, .any, .any, .any, .any, .any, .any, .any, .any, .any, .any, .any, .any, .any, .any, .any, .any, .any, .any, .any, .any, .any, .any, .any, .any, .any, .any, .any, .sl 3 0 (q + 1) false, I ((q : Int) + 1), I u, .any, .any, .any, .any, .any, .any, .any, .any, .any, .any, .any, .any, .any, .any, .any, .any, .any], [some (.row 3 [[I s.mach, c, t]]), some (.row 4 [[I s.mach, c, t, j]]), some (.row 1 (ac1.map rI)), some (.row 2 (es.map rE2))]⟩) ?_ (q + 1 - 0) _ ⟨0, 0, 0, 0, rfl, rfl, Nat.zero_le _, by omega, by omega, htop, by simp⟩
      rintro m3 σ ⟨p, u, now, top, hup, rfl, hpl, hnb, htb, htg, rfl⟩
      refine zS ?_
      refine zR (zO (by simp [zC h61, zC h62, callF_eff h65 rfl, ↓orc_nil, -lenA, HH1, HH9, HH14, ↓HH15]; rfl) ?_)
      simp only [zT, zB]
      refine zS ?_
      refine runs_cond_split (x := _) rfl (fun hlt3 => ?_) (fun hlt3 => ?_)
      ·have hlt4 := of_decide_eq_true hlt3
       have hp0 : p < es.length := by omega
       have hpq : p < q + 1 := by omega
       have hu0 : 0 ≤ u := by omega
       have huq : u < (q : Int) + 1 := by omega
       have hun : u.toNat = p := by omega
       have hwu : W .i64 (u + 1) = u + 1 := W_small (by omega)
       have heb := hesb _ (List.getElem_mem hp0)
       rw [List.drop_eq_getElem_cons hp0] at htg
       have hgE : (es.map rE2)[p]? = some (rE2 es[p]) := by rw [List.getElem?_map, List.getElem?_eq_getElem hp0]; rfl
       have hgE2 : ∀ h, (es.map rE2)[p]'h = rE2 es[p] := fun h => by rw [List.getElem_map]
       generalize hX : es[p] = X at *
       obtain ⟨x1, x2⟩ := X
       simp only at heb
       simp only [topG] at htg
       have hgE3 : (es.map rE2)[p]? = some [I x1, I x2] := hgE
       have hgE4 : ∀ h, (es.map rE2)[p]'h = [I x1, I x2] := hgE2
       have hwn : W .i64 (now + x2) = now + x2 := W_small (by omega)
       have HH16 := zA huq (zA hu0 (zA hun (zA hp0 (zA hpq (zA hwu (zA hgE3 (zA hgE4 (zA hX hwn))))))))
       refine zK ?_
       simp only [zT, zB]
       refine zS ?_
       refine zL ?_
       refine zS ?_
       refine zR (zO (by simp [zC h61, zC h62, callF_eff h65 rfl, ↓orc_nil, -lenA, HH1, HH9, HH14, ↓HH15, -List.getElem?_map, -List.getElem_map, HH16]; rfl) ?_)
       simp only [zT, zB]
       refine zS ?_
       refine zR (zO (by simp [zC h61, zC h62, callF_eff h65 rfl, ↓orc_nil, -lenA, HH1, HH9, HH14, ↓HH15, -List.getElem?_map, -List.getElem_map, HH16]; rfl) ?_)
       simp only [zT, zB]
       refine zR (zO (by simp [zC h61, zC h62, callF_eff h65 rfl, ↓orc_nil, -lenA, HH1, HH9, HH14, ↓HH15, -List.getElem?_map, -List.getElem_map, HH16]; rfl) ?_)
       simp only [zT, zB]
       refine zR (zO (by simp [zC h61, zC h62, callF_eff h65 rfl, ↓orc_nil, -lenA, HH1, HH9, HH14, ↓HH15, -List.getElem?_map, -List.getElem_map, HH16]; rfl) ?_)
       simp only [zT, zB]
       exact ⟨q + 1 - (p + 1), by omega, p + 1, u + 1, now + x2, max top (now + x2), by omega, rfl, by omega, by omega, by omega, htg, st_eq (by simp [zC h61, zC h62, callF_eff h65 rfl, ↓orc_nil, -lenA, HH1, HH9, HH14, ↓HH15, -List.getElem?_map, -List.getElem_map, HH16]) (trim_ok (by simp [zC h61, zC h62, callF_eff h65 rfl, ↓orc_nil, -lenA, HH1, HH9, HH14, ↓HH15, -List.getElem?_map, -List.getElem_map, HH16]) (by simp [zC h61, zC h62, callF_eff h65 rfl, ↓orc_nil, -lenA, HH1, HH9, HH14, ↓HH15, -List.getElem?_map, -List.getElem_map, HH16]) (by simp))⟩
      ·have hlt4 := of_decide_eq_false hlt3
       have hpE : p = q + 1 := by omega
       rw [List.drop_of_length_le (by omega)] at htg
       simp only [topG] at htg
       subst htg
       have hnx1 : ac1 ++ [top] = (waitN js S (k1 + 1)) := by rw [hF1, ← hac1]
       have hnl1 : (ac1 ++ [top]).length = p1 + 1 + 1 := by simp [hacl1]
       have hap1 : ac1.map rI ++ [[I top]] = (ac1 ++ [top]).map rI := by rw [List.map_append]; rfl
       generalize ac1 ++ [top] = nx1 at *
       have hrx1 := fun n => rI_rb n 4 nx1
       refine runs_exit ?_
       simp only [zT, zB, if_true, if_false, reduceIte, Nat.reduceEqDiff, Nat.succ_ne_zero, Nat.one_ne_zero, Nat.zero_ne_one]
       refine zR (zO (by simp [zC h61, zC h62, callF_eff h65 rfl, ↓orc_nil, -lenA, HH1, HH9, HH14, ↓HH15, hap1, ↓hrx1]; rfl) ?_)
       simp only [zT, zB]
       refine zR (zO (by simp [zC h61, zC h62, callF_eff h65 rfl, ↓orc_nil, -lenA, HH1, HH9, HH14, ↓HH15, hap1, ↓hrx1]; rfl) ?_)
       simp only [zT, zB]
       exact ⟨mn - (k1 + 1), _, _, by omega, by simp [zC h61, zC h62, callF_eff h65 rfl, ↓orc_nil, -lenA, HH1, HH9, HH14, ↓HH15, hap1, ↓hrx1] <;> first | exact ⟨rfl, rfl⟩ | rfl, k1 + 1, i1 + 1, by omega, rfl, by omega, .inr ⟨p1 + 1, nx1, by omega, hnx1, hnl1, rfl⟩⟩
   ·have hx1 := of_decide_eq_false hlt1
    have hkE1 : k1 = mn := by omega
    rw [hkE1] at hac1
    have hne1 : ac1 ≠ [] := by intro e; rw [e] at hacl1; simp at hacl1
    rw [← hac1, encW_ne hne1]
    refine runs_exit ?_
    simp only [zT, zB, if_true, if_false, reduceIte, Nat.reduceEqDiff, Nat.succ_ne_zero, Nat.one_ne_zero, Nat.zero_ne_one]
    refine zS ?_
    refine zR (zO (by simp [zC h61, zC h62, callF_eff h65 rfl, ↓orc_nil, -lenA, HH1, tk1, hlac1, hacl1, hr31, ↓hfr1, ↓hrj1, frz_mapI]; rfl) ?_)
    simp only [zT, zB]
    refine runs_ret ?_
    simp [zC h61, zC h62, callF_eff h65 rfl, ↓orc_nil, -lenA, HH1, tk1, hlac1, hacl1, hr31, ↓hfr1, ↓hrj1, frz_mapI, trim]
 ·refine answers_of hT (orcF_none rfl) ?_
  simp only [oo, om, op, og, ci, cl, c20, annK, lkG, lkR, reduceIte, Nat.reduceEqDiff, reduceCtorEq, List.cons.injEq, and_true, and_false, false_and, true_and]
  by_cases h1 : shopE s js = 0
  ·have HH17 := zA h61 (zA h62 (zA h65 (zA fc (zA ft (zA fj (zA rc (zA rt (zA rj (zA lc (zA lt (zA lj (zA cc1 (zA cc2 (zA ct1 (zA ct2 (zA cj1 (zA cj2 (zA fo (zA ro (zA lo (zA co1 (zA co2 (zA hop (zA h0 h1))))))))))))))))))))))))
   refine zS ?_
   refine zR (zO (by simp [zC h61, zC h62, callF_eff h65 rfl, ↓orc_nil, -lenA, waitV, if_neg, zWork, HH17]; rfl) ?_)
   simp only [zT, zB]
   refine zS ?_
   refine zR (zO (by simp [zC h61, zC h62, callF_eff h65 rfl, ↓orc_nil, -lenA, waitV, if_neg, zWork, HH17]; rfl) ?_)
   simp only [zT, zB]
   refine zS ?_
   refine zS ?_
   refine zR (zO (by simp [zC h61, zC h62, callF_eff h65 rfl, ↓orc_nil, -lenA, waitV, if_neg, zWork, HH17]; rfl) ?_)
   simp only [zT, zB]
   refine runs_cond (x := true) (by simp [h0]) ?_
   refine zS ?_
   refine zR (zO (by simp [zC h61, zC h62, callF_eff h65 rfl, ↓orc_nil, -lenA, waitV, if_neg, zWork, HH17]; rfl) ?_)
   simp only [zT, zB]
   refine runs_ret ?_
   simp [zC h61, zC h62, callF_eff h65 rfl, ↓orc_nil, -lenA, waitV, if_neg, zWork, HH17, trim]
  ·have HH18 := zA h61 (zA h62 (zA h65 (zA fc (zA ft (zA fj (zA rc (zA rt (zA rj (zA lc (zA lt (zA lj (zA cc1 (zA cc2 (zA ct1 (zA ct2 (zA cj1 (zA cj2 (zA fo (zA ro (zA lo (zA co1 (zA co2 (zA hop (zA h0 h1))))))))))))))))))))))))
   refine zS ?_
   refine zR (zO (by simp [zC h61, zC h62, callF_eff h65 rfl, ↓orc_nil, -lenA, waitV, if_neg, zWork, HH18]; rfl) ?_)
   simp only [zT, zB]
   refine zS ?_
   refine zR (zO (by simp [zC h61, zC h62, callF_eff h65 rfl, ↓orc_nil, -lenA, waitV, if_neg, zWork, HH18]; rfl) ?_)
   simp only [zT, zB]
   refine zS ?_
   refine zS ?_
   refine zR (zO (by simp [zC h61, zC h62, callF_eff h65 rfl, ↓orc_nil, -lenA, waitV, if_neg, zWork, HH18]; rfl) ?_)
   simp only [zT, zB]
   refine runs_cond (x := true) (by simp [h0]) ?_
   refine zS ?_
   refine zR (zO (by simp [zC h61, zC h62, callF_eff h65 rfl, ↓orc_nil, -lenA, waitV, if_neg, zWork, HH18]; rfl) ?_)
   simp only [zT, zB]
   refine runs_ret ?_
   simp [zC h61, zC h62, callF_eff h65 rfl, ↓orc_nil, -lenA, waitV, if_neg, zWork, HH18, trim]
end
end Go.Proofs.YtjjapdagllclkaaGreat.Tab

namespace Go.Proofs.YtjjapdagllclkaaGreat.Tab
open Go Go.Abs Go.Proofs
set_option linter.unusedSimpArgs false
set_option linter.unusedVariables false
def wtB (js : List FJob) (S : List (List Int)) (k : Nat) (t : Int) (m : Nat) : Bool := decide (0 < minAt (jobAt js m) k) && decide (cameF js S k m ≤ t) && decide (t < stAt S m k)
def wtN (js : List FJob) (S : List (List Int)) (k : Nat) (t : Int) : Nat → Int
 | 0 => 0
 | m + 1 => wtN js S k t m + if wtB js S k t m = true then 1 else 0
theorem atT_evs (js : List FJob) (S : List (List Int)) (k : Nat) (t : Int) : ∀ i, atT (evsN js S k i) t = wtN js S k t i
 | 0 => rfl
 | i + 1 => by
  simp only [evsN, wtN, atT_app, atT_evs js S k t i]
  congr 1
  unfold wtB
  by_cases h1 : 0 < minAt (jobAt js i) k
  ·by_cases h2 : cameF js S k i < stAt S i k
   ·rw [if_pos ⟨h1, h2⟩]
    simp only [atT, h1, decide_true, Bool.true_and, Bool.and_eq_true, decide_eq_true_eq]
    by_cases h3 : cameF js S k i ≤ t
    ·by_cases h4 : stAt S i k ≤ t
     ·rw [if_pos h3, if_pos h4, if_neg (by omega)]; rfl
     ·rw [if_pos h3, if_neg h4, if_pos (by omega)]; rfl
    ·rw [if_neg h3, if_neg (by omega), if_neg (by omega)]; rfl
   ·rw [if_neg (fun h => h2 h.2)]
    simp only [atT, Bool.and_eq_true, decide_eq_true_eq]
    rw [if_neg (by omega)]
  ·rw [if_neg (fun h => h1 h.1)]
   simp only [atT, Bool.and_eq_true, decide_eq_true_eq]
   rw [if_neg (by omega)]
end Go.Proofs.YtjjapdagllclkaaGreat.Tab

namespace Go.Proofs.YtjjapdagllclkaaGreat.Tab
open Go Go.Abs Go.Proofs
set_option linter.unusedSimpArgs false
set_option linter.unusedVariables false
def rfN (js : List FJob) (S : List (List Int)) (k : Nat) : Nat → List Int
 | 0 => []
 | i + 1 => rfN js S k i ++ if 0 < minAt (jobAt js i) k then [cameF js S k i] else []
def rtN (js : List FJob) (S : List (List Int)) (k : Nat) : Nat → List Int
 | 0 => []
 | i + 1 => rtN js S k i ++ if 0 < minAt (jobAt js i) k then [stAt S i k] else []
theorem rtN_len (js : List FJob) (S : List (List Int)) (k : Nat) : ∀ i, (rtN js S k i).length = (rfN js S k i).length
 | 0 => rfl
 | i + 1 => by simp only [rtN, rfN, List.length_append, rtN_len js S k i]; split <;> rfl
theorem rfN_len (js : List FJob) (S : List (List Int)) (k : Nat) : ∀ i, (rfN js S k i).length ≤ i
 | 0 => Nat.le_refl _
 | i + 1 => by have := rfN_len js S k i; simp only [rfN, List.length_append]; split <;> simp <;> omega
def wrB (fr to : List Int) (t : Int) (m : Nat) : Bool := decide (fr.getD m 0 ≤ t) && decide (t < to.getD m 0)
def wrN (fr to : List Int) (t : Int) : Nat → Int
 | 0 => 0
 | m + 1 => wrN fr to t m + if wrB fr to t m = true then 1 else 0
def mostR (fr to : List Int) : Nat → Int
 | 0 => 0
 | p + 1 => max (mostR fr to p) (wrN fr to (fr.getD p 0) fr.length)
theorem wrN_bd (fr to : List Int) (t : Int) : ∀ m, 0 ≤ wrN fr to t m ∧ wrN fr to t m ≤ m
 | 0 => ⟨Int.le_refl _, Int.le_refl _⟩
 | m + 1 => by have := wrN_bd fr to t m; simp only [wrN]; split <;> omega
theorem mostR_bd (fr to : List Int) : ∀ p, 0 ≤ mostR fr to p
 | 0 => Int.le_refl _
 | p + 1 => by have := mostR_bd fr to p; simp only [mostR]; omega
theorem mostR_ge (fr to : List Int) : ∀ p i, i < p → wrN fr to (fr.getD i 0) fr.length ≤ mostR fr to p
 | p + 1, i, h => by
  simp only [mostR]
  by_cases e : i = p
  ·subst e; omega
  ·have := mostR_ge fr to p i (by omega); omega
theorem mostR_at (fr to : List Int) : ∀ p, mostR fr to p = 0 ∨ ∃ t, wrN fr to t fr.length = mostR fr to p
 | 0 => .inl rfl
 | p + 1 => by
  simp only [mostR]
  rcases Int.le_total (mostR fr to p) (wrN fr to (fr.getD p 0) fr.length) with h | h
  ·rw [Int.max_eq_right h]; exact .inr ⟨_, rfl⟩
  ·rw [Int.max_eq_left h]; exact mostR_at fr to p
theorem getD_appL {l m : List Int} {i : Nat} (h : i < l.length) : (l ++ m).getD i 0 = l.getD i 0 := by
 rw [List.getD_eq_getElem?_getD, List.getD_eq_getElem?_getD, List.getElem?_append_left h]
theorem getD_appE {l : List Int} {a : Int} : (l ++ [a]).getD l.length 0 = a := by
 rw [List.getD_eq_getElem?_getD, List.getElem?_append_right (Nat.le_refl _), Nat.sub_self]; rfl
theorem wrN_app (fr to fr2 to2 : List Int) (t : Int) (he : to.length = fr.length) : ∀ m, m ≤ fr.length → wrN (fr ++ fr2) (to ++ to2) t m = wrN fr to t m
 | 0, _ => rfl
 | m + 1, h => by
  have ih := wrN_app fr to fr2 to2 t he m (by omega)
  have e : wrB (fr ++ fr2) (to ++ to2) t m = wrB fr to t m := by unfold wrB; rw [getD_appL (by omega), getD_appL (by omega)]
  simp only [wrN, ih, e]
theorem wrN_wtN (js : List FJob) (S : List (List Int)) (k : Nat) (t : Int) : ∀ i, wrN (rfN js S k i) (rtN js S k i) t (rfN js S k i).length = wtN js S k t i
 | 0 => rfl
 | i + 1 => by
  have ih := wrN_wtN js S k t i
  have hl := rtN_len js S k i
  simp only [rfN, rtN, wtN, wtB]
  by_cases h : 0 < minAt (jobAt js i) k
  ·rw [if_pos h, if_pos h, List.length_append]
   show wrN _ _ t ((rfN js S k i).length + 1) = _
   simp only [wrN, h, decide_true, Bool.true_and]
   rw [wrN_app _ _ _ _ _ hl _ (Nat.le_refl _), ih]
   unfold wrB
   rw [getD_appE]
   conv => lhs; rw [← hl]
   rw [getD_appE]
  ·rw [if_neg h, if_neg h, List.append_nil, List.append_nil, ih]
   simp [h]
theorem evs_came2 (js : List FJob) (S : List (List Int)) (k : Nat) : ∀ i, ∀ e ∈ evsN js S k i, e.2 = 1 → ∃ m, m < i ∧ e.1 = cameF js S k m ∧ 0 < minAt (jobAt js m) k
 | 0, e, he, _ => by simp [evsN] at he
 | i + 1, e, he, h1 => by
  simp only [evsN, List.mem_append] at he
  rcases he with he | he
  ·obtain ⟨m, hm, em, h0⟩ := evs_came2 js S k i e he h1
   exact ⟨m, by omega, em, h0⟩
  ·split at he
   ·rename_i hc
    simp only [List.mem_cons, List.not_mem_nil, or_false] at he
    rcases he with rfl | rfl
    ·exact ⟨i, by omega, rfl, hc.1⟩
    ·simp at h1
   ·simp at he
theorem rfN_mem (js : List FJob) (S : List (List Int)) (k : Nat) : ∀ i m, m < i → 0 < minAt (jobAt js m) k → cameF js S k m ∈ rfN js S k i
 | i + 1, m, h, h0 => by
  simp only [rfN, List.mem_append]
  by_cases e : m = i
  ·subst e; right; rw [if_pos h0]; simp
  ·exact .inl (rfN_mem js S k i m (by omega) h0)
theorem waitR_eq {s : FShop} {js : List FJob} (h : ShopOk s js) {S : List (List Int)} (hS : ∀ l ∈ S, ∀ x ∈ l, 0 ≤ x ∧ x ≤ 170000) (k : Nat) :
  mostR (rfN js S k js.length) (rtN js S k js.length) (rfN js S k js.length).length = topE (esrt (evsN js S k js.length)) := by
 refine (top_spec (fun e he => (evsN_bd h hS k _ (Nat.le_refl _) e he).2) (mostR_bd _ _ _) (fun e he h1 => ?_) ?_).symm
 ·obtain ⟨m, hm, em, h0⟩ := evs_came2 js S k _ e he h1
  rw [atT_evs, em]
  obtain ⟨p, hp, ep⟩ := List.mem_iff_getElem.1 (rfN_mem js S k js.length m hm h0)
  have := mostR_ge (rfN js S k js.length) (rtN js S k js.length) _ p hp
  rw [List.getD_eq_getElem?_getD, List.getElem?_eq_getElem hp, Option.getD_some, ep, wrN_wtN] at this
  exact this
 ·rcases mostR_at (rfN js S k js.length) (rtN js S k js.length) (rfN js S k js.length).length with h | ⟨t, ht⟩
  ·exact .inl h
  ·exact .inr ⟨t, by rw [atT_evs, ← wrN_wtN]; exact ht⟩
theorem waitN_ln (js : List FJob) (S : List (List Int)) : ∀ k, (waitN js S k).length = k
 | 0 => rfl
 | k + 1 => by simp [waitN, waitN_ln js S k]
theorem waitN_gt (js : List FJob) (S : List (List Int)) : ∀ (n k : Nat), k < n → (waitN js S n)[k]? = some (topE (esrt (evsN js S k js.length)))
 | n + 1, k, h => by
  simp only [waitN]
  by_cases e : k = n
  ·subst e
   rw [List.getElem?_append_right (by rw [waitN_ln]; exact Nat.le_refl _), waitN_ln, Nat.sub_self]; rfl
  ·rw [List.getElem?_append_left (by rw [waitN_ln]; omega)]
   exact waitN_gt js S n k (by omega)
end Go.Proofs.YtjjapdagllclkaaGreat.Tab

namespace Go.Proofs.YtjjapdagllclkaaGreat.Tab
open Go Go.Abs Go.Proofs
set_option maxRecDepth 100000
set_option maxHeartbeats 4000000
set_option linter.unusedSimpArgs false
set_option linter.unusedVariables false
section
attribute [local simp] frz_int frz_bool frz_vl frz_pv frz_agg frz_tup frz_fn frz_ref frz_sl frz_nils optAll orcF rb_int rb_bool rb_agg rb_tup rb_int' rb_bool' rb_vl rb_pv rb_yld rb_nilf rb_nilp rb_nils rb_any rb_und rb_ref rb_sl rb_fn slE chunk fillA evParts evParts3 putAt List.range_succ List.range_zero List.range'_succ List.range'_zero runX_nil' unary_not evalS_pure evAll_nil evAll_cons runX_cons stepX wantedA dop CV.ev putK_eq setK_eq appK_eq fA_eq fI_eq fN_eq fRow_eq fRows_eq nth_eq Out.v putT List.replicate_succ zT zB arI pointee Abs.rowAt ldRow allV toV toC ofV ofC Builtin.min_ Builtin.min2 Builtin.max_ Builtin.max2 min_if max_if resA tupA kill trim_self trim_len trim_emp trim_nil lenA
attribute [local simp] runD_nil' runD_cons' stepD actK_eq actD clash disj masks holes maskH unmaskH diffs news eqB allB eqA ldRowN wrote toCs ofCs stA rowsV_vl rowsV_nils rowsOf dI1 dI2 dI3 dI5 elt
attribute [local simp] st_any st_und st_agg st_tup st_bool st_int st_nilp st_ref st_pv st_nils st_sl st_vl st_nilm st_mp st_fn st_nilf st_yld co_any co_und co_agg co_tup co_bool co_int co_nilp co_ref co_pv co_nils co_sl co_vl co_nilm co_mp co_fn co_nilf co_yld
attribute [local simp] Function.comp_def List.all_append List.all_map above callA calleeA frNB_none frNB_row frN_agg frN_bool frN_int frN_nils frN_ref frN_sl frN_tup frN_vl frzG gather getR lim lop loud lowA lowR norm okG putG putR rbB_none rbB_row resG rowAt takeG
noncomputable def lateR (s : FShop) (js : List FJob) (os : List Int) : Int × Int × Int := (((lateL (endF s js os) js js.length).length : Int), (latF (endF s js os) js js.length).1, (latF (endF s js os) js js.length).2)
theorem lateT_R {s : FShop} {js : List FJob} {os : List Int} (h : ordE s js os = 0) : lateT s js os = lateR s js os := by unfold lateT; rw [if_pos h]; rfl
theorem a26 (P : Program) (T : Nat → Option CFn) (hT : T 26 = some c26) (h27 : T 27 = some { c27 with frsh := false, orc := oRunR }) (s : FShop) (js : List FJob) (c t j : AVal) (hc : dInts2 c = some s.chg) (ht : dStops t = some s.stops) (hj : dJobs j = some js) (o : AVal) (os : List Int) (ho : dInts o = some os) (hctx : RunCtx s js os) : Answers P T 26 [.agg [I s.mach, c, t], j, o] [] fun v h => frz true h 5 v = some (.tup [I (lateR s js os).1, I (lateR s js os).2.1, I (lateR s js os).2.2]) := by
 have fc := fun H d => dInts2_frz hc H d
 have ft := fun H d => dStops_frz ht H d
 have fj := fun H d => dJobs_frz hj H d
 have rc := fun n d => dInts2_rb hc n d
 have rt := fun n d => dStops_rb ht n d
 have rj := fun n d => dJobs_rb hj n d
 have lc := dInts2_len hc
 have lt := dStops_len ht
 have lj := dJobs_len hj
 obtain ⟨cc1, cc2⟩ := dInts2_cells hc
 obtain ⟨ct1, ct2⟩ := dStops_cells ht
 obtain ⟨cj1, cj2⟩ := dJobs_cells hj
 have fo := fun H d => dInts_frz ho H d
 have ro := fun n d => dInts_rb ho n d
 have lo := dInts_len ho
 obtain ⟨co1, co2⟩ := dInts_cells ho
 have hrr := runR_eq hc ht hj ho hctx
 have hTq : lateR s js os = (((lateL (endF s js os) js js.length).length : Int), (latF (endF s js os) js js.length).1, (latF (endF s js os) js js.length).2) := rfl
 rw [hTq]
 have hE : ∀ e ∈ endF s js os, 0 ≤ e ∧ e ≤ 170000 := (runF_ok hctx.ok hctx.len6 hctx.mem).en
 have hEl := endF_len hctx
 have hsh := hctx.ok
 have hn6 := hsh.njob
 generalize stsF s js os = S at *
 generalize endF s js os = E at *
 have rz1 := fun n => encS_rb n 4 S
 have rz2 := fun n => rI_rb n 4 E
 refine answers_of hT (orcF_none rfl) ?_
 simp only [oo, om, op, og, ci, cl, c26]
 have HH1 := zA h27 (zA fc (zA ft (zA fj (zA rc (zA rt (zA rj (zA lc (zA lt (zA lj (zA cc1 (zA cc2 (zA ct1 (zA ct2 (zA cj1 (zA cj2 (zA fo (zA ro (zA lo (zA co1 (zA co2 hrr))))))))))))))))))))
 refine zS ?_
 refine zR (zO (by simp [zC h27, -lenA, ↓rz1, ↓rz2, HH1]; rfl) ?_)
 simp only [zT, zB]
 refine zS ?_
 refine zR (zO (by simp [zC h27, -lenA, ↓rz1, ↓rz2, HH1]; rfl) ?_)
 simp only [zT, zB]
 refine zS ?_
 refine zS ?_
 refine zR (zO (by simp [zC h27, -lenA, ↓rz1, ↓rz2, HH1]; rfl) ?_)
 simp only [zT, zB]
 refine zL ?_
 refine runs_loop_inv (fun m σ => ∃ (p : Nat) (h1 q1 q2 q3 : Int), h1 = p ∧ js.length - p = m ∧ p ≤ js.length ∧ q1 = ((lateL E js p).length : Int) ∧ q2 = (latF E js p).1 ∧ q3 = (latF E js p).2 ∧ σ = ⟨[.any, j, .any, .any, .any, .any, .any, .any, .any, I q1, I q2, I q3, .ref 1 0 0, I h1, .any, .any, .any, .any, .any, .any, .any, .any, .any, .any, .any, .any, .any, .any, .any, .any, .any, .any, .any, .any, .any, .any, .any, .any, .any, .any, .any, .any, .any, .any, .any, .any, .any, .any, .any, .any, .any, .any, .any, .any, .any, .any, .any, .any, .any, .any], [some (.row 3 [[I s.mach, c, t]]), some (.row 2 [[.vl (S.map encS) true, .vl (E.map rI) true]])]⟩) ?_ (js.length - 0) _ ⟨0, 0, 0, 0, 0, rfl, rfl, Nat.zero_le _, rfl, rfl, rfl, by simp⟩
 rintro m σ ⟨p, h1, q1, q2, q3, hhp, rfl, hpl, hq1, hq2, hq3, rfl⟩
 refine zS ?_
 refine zS ?_
 refine zR (zO (by simp [zC h27, -lenA, ↓rz1, ↓rz2, HH1]; rfl) ?_)
 simp only [zT, zB]
 refine runs_cond_split (x := decide (h1 < (js.length : Int))) (by simp) (fun hlt3 => ?_) (fun hlt3 => ?_)
 ·have hlt3 := of_decide_eq_true hlt3
  have hp0 : p < js.length := by omega
  have hpE : p < E.length := by omega
  have hh0 : 0 ≤ h1 := by omega
  have hhn : h1.toNat = p := by omega
  have hhlo : h1 < (js.length : Int) := by omega
  have hhlE : h1 < (E.length : Int) := by omega
  have hwh : W .i64 (h1 + 1) = h1 + 1 := W_small (by omega)
  have hjb := hsh.job _ (List.getElem_mem hp0)
  have hEp := hE _ (List.getElem_mem hpE)
  have hlb := latF_bd (E := E) (js := js) (fun e he => by have := hE e he; omega) (fun j hj => (hsh.job j hj).2.2.1.1) p (by omega) (by omega)
  have hll2 := lateL_len E js p
  have hEA : endAt E p = E[p] := by unfold endAt; rw [List.getD_eq_getElem?_getD, List.getElem?_eq_getElem hpE]; rfl
  have hDA : dueAt js p = js[p].due := by unfold dueAt; rw [List.getD_eq_getElem?_getD, List.getElem?_eq_getElem hp0]; rfl
  have hlF : latF E js (p + 1) = ((latF E js p).1 + max 0 (endAt E p - dueAt js p), max (latF E js p).2 (endAt E p)) := rfl
  have hlL : lateL E js (p + 1) = lateL E js p ++ if dueAt js p < endAt E p then [(p : Int)] else [] := rfl
  rw [hEA, hDA] at hlF hlL
  clear hEA hDA
  obtain ⟨jr, tj, wv, rfl, hr1, hr2, hwv⟩ := dJobs_get hj hp0
  have hkr : p < jr.length := by omega
  have hr4 : ∀ h, jr[p]'h = [I js[p].kind, I js[p].ready, I js[p].due, wv] := fun h => by rw [List.getElem?_eq_getElem h] at hr2; exact Option.some.inj hr2
  have rw5 := fun n d => dInts_rb hwv n d
  have fw5 := fun H d => dInts_frz hwv H d
  have lw5 := dInts_len hwv
  obtain ⟨cw1, cw2⟩ := dInts_cells hwv
  have he1 : (E.map rI)[p]? = some [I E[p]] := by rw [List.getElem?_map, List.getElem?_eq_getElem hpE]; rfl
  have he2 : ∀ (h : p < (E.map rI).length), (E.map rI)[p]'h = [I E[p]] := fun h => by rw [List.getElem_map]; rfl
  generalize hV : E[p] = V at *
  have hdu := hjb.2.2.1
  generalize hD : js[p].due = D at *
  have hlL2 : ((lateL E js (p + 1)).length : Int) = ((lateL E js p).length : Int) + if D < V then 1 else 0 := by rw [hlL]; split <;> simp
  rw [← hq1] at hlL2
  rw [← hq2, ← hq3] at hlF hlb
  have hq1b : 0 ≤ q1 ∧ q1 ≤ 100 := by omega
  have w1 : W .i64 (q1 + 1) = q1 + 1 := W_fit (by omega)
  have w2 : W .i64 (V - D) = V - D := W_fit (by omega)
  have w3 : W .i64 (q2 + (V - D)) = q2 + (V - D) := W_fit (by omega)
  have HH2 := zA hp0 (zA hpE (zA hh0 (zA hhn (zA hhlo (zA hhlE (zA hwh (zA hV (zA hD (zA w1 (zA w2 (zA w3 (zA he1 (zA he2 (zA hkr (zA hr2 (zA hr4 (zA rw5 (zA fw5 (zA lw5 (zA cw1 cw2))))))))))))))))))))
  refine zK ?_
  simp only [zT, zB]
  refine zS ?_
  refine zL ?_
  refine zS ?_
  refine zS ?_
  refine runs_drw (by simp (maxSteps := 3000000) [zC h27, -lenA, ↓rz1, ↓rz2, HH1, HH2]; rfl) ?_
  simp only [zT, zB]
  refine runs_cond_split (x := decide (D < V)) (by simp) (fun hgt => ?_) (fun hgt => ?_)
  ·have hl3 := of_decide_eq_true hgt
   rw [if_pos hl3] at hlL2
   refine zS ?_
   refine zR (zO (by simp [zC h27, -lenA, ↓rz1, ↓rz2, HH1, HH2]; rfl) ?_)
   simp only [zT, zB]
   refine runs_drw (by simp (maxSteps := 3000000) [zC h27, -lenA, ↓rz1, ↓rz2, HH1, HH2]; rfl) ?_
   simp only [zT, zB]
   refine zR (zO (by simp [zC h27, -lenA, ↓rz1, ↓rz2, HH1, HH2]; rfl) ?_)
   simp only [zT, zB]
   refine zR (zO (by simp [zC h27, -lenA, ↓rz1, ↓rz2, HH1, HH2]; rfl) ?_)
   simp only [zT, zB]
   exact ⟨js.length - (p + 1), by omega, p + 1, h1 + 1, q1 + 1, q2 + (V - D), max q3 V, by omega, rfl, by omega, hlL2.symm, by rw [hlF]; show _ = q2 + max 0 (V - D); omega, by rw [hlF], by simp [trim, zC h27, -lenA, ↓rz1, ↓rz2, HH1, HH2]⟩
  ·have hl3 := of_decide_eq_false hgt
   rw [if_neg hl3, Int.add_zero] at hlL2
   refine zK ?_
   simp only [zT, zB]
   refine zR (zO (by simp [zC h27, -lenA, ↓rz1, ↓rz2, HH1, HH2]; rfl) ?_)
   simp only [zT, zB]
   refine zR (zO (by simp [zC h27, -lenA, ↓rz1, ↓rz2, HH1, HH2]; rfl) ?_)
   simp only [zT, zB]
   exact ⟨js.length - (p + 1), by omega, p + 1, h1 + 1, q1, q2, max q3 V, by omega, rfl, by omega, hlL2.symm, by rw [hlF]; show _ = q2 + max 0 (V - D); omega, by rw [hlF], by simp [trim, zC h27, -lenA, ↓rz1, ↓rz2, HH1, HH2]⟩
 ·have hlt3 := of_decide_eq_false hlt3
  have hpe : p = js.length := by omega
  subst hpe
  rw [← hq1, ← hq2, ← hq3]
  refine runs_exit ?_
  simp only [zT, zB, if_true, if_false, reduceIte, Nat.reduceEqDiff, Nat.succ_ne_zero, Nat.one_ne_zero, Nat.zero_ne_one]
  refine zS ?_
  refine zR (zO (by simp [zC h27, -lenA, ↓rz1, ↓rz2, HH1]; rfl) ?_)
  simp only [zT, zB]
  refine runs_ret ?_
  simp [zC h27, -lenA, ↓rz1, ↓rz2, HH1, trim]
open Classical in
noncomputable def oLateR : List AVal → Option AVal
  | [.agg [.int .i64 m, c, t], j, o] => match dInts2 c, dStops t, dJobs j, dInts o with
    | some cs, some ts, some js, some os => if RunCtx ⟨m, cs, ts⟩ js os then some (.tup [I (lateR ⟨m, cs, ts⟩ js os).1, I (lateR ⟨m, cs, ts⟩ js os).2.1, I (lateR ⟨m, cs, ts⟩ js os).2.2]) else none
    | _, _, _, _ => none
  | _ => none
theorem lateR_eq {s : FShop} {js : List FJob} {c t j o : AVal} {os : List Int} (hc : dInts2 c = some s.chg) (ht : dStops t = some s.stops) (hj : dJobs j = some js) (ho : dInts o = some os) (h : RunCtx s js os) : oLateR [.agg [I s.mach, c, t], j, o] = some (.tup [I (lateR s js os).1, I (lateR s js os).2.1, I (lateR s js os).2.2]) := by
  simp only [oLateR, hc, ht, hj, ho]
  rw [if_pos h]
noncomputable def FRL : Nat → Option CFn := upd FR 26 true (oLateR)
theorem FRL_ok : TabOk Tryz.prog GG FRL := tab_add mixed FR_ok fun args v ho => by
  unfold oLateR at ho; split at ho <;> (try simp only [reduceCtorEq] at ho)
  rename_i m c t j o
  split at ho <;> (try simp only [reduceCtorEq] at ho)
  rename_i cs ts js os hc ht hj ho2
  split at ho <;> (try simp only [reduceCtorEq] at ho)
  rename_i hg
  simp only [Option.some.injEq] at ho
  subst ho
  exact a26 Tryz.prog FR rfl rfl ⟨m, cs, ts⟩ js c t j hc ht hj o os ho2 hg
theorem a28 (P : Program) (T : Nat → Option CFn) (hT : T 28 = some { c28 with body := annK [(3658, [.slot 9, .slot 10])] [] c28.body }) (s : FShop) (js : List FJob) (c t j : AVal) (hc : dInts2 c = some s.chg) (ht : dStops t = some s.stops) (hj : dJobs j = some js) (S : List (List Int)) (sv ev : AVal) (hs : dInts2 sv = some S) (E : List Int) (he : dInts ev = some E) (hsh : ShopOk s js) (hS : StOk s js S) (hS160 : ∀ l ∈ S, ∀ x ∈ l, 0 ≤ x ∧ x ≤ 170000) (k : Nat) (hk : (k : Int) < s.mach) : Answers P T 28 [.agg [I s.mach, c, t], j, .agg [sv, ev], I (k : Int)] [] fun v h => frz true h 5 v = some (I (topE (esrt (evsN js S k js.length)))) := by
 have fc := fun H d => dInts2_frz hc H d
 have ft := fun H d => dStops_frz ht H d
 have fj := fun H d => dJobs_frz hj H d
 have rc := fun n d => dInts2_rb hc n d
 have rt := fun n d => dStops_rb ht n d
 have rj := fun n d => dJobs_rb hj n d
 have lc := dInts2_len hc
 have lt := dStops_len ht
 have lj := dJobs_len hj
 obtain ⟨cc1, cc2⟩ := dInts2_cells hc
 obtain ⟨ct1, ct2⟩ := dStops_cells ht
 obtain ⟨cj1, cj2⟩ := dJobs_cells hj
 have fs := fun H d => dInts2_frz hs H d
 have rs := fun n d => dInts2_rb hs n d
 have ls := dInts2_len hs
 obtain ⟨cs1, cs2⟩ := dInts2_cells hs
 have fe := fun H d => dInts_frz he H d
 have re := fun n d => dInts_rb he n d
 have le := dInts_len he
 obtain ⟨ce1, ce2⟩ := dInts_cells he
 rw [← waitR_eq hsh hS160 k]
 have hmach := hsh.mach
 have hn6 := hsh.njob
 have hSl := hS.len
 refine answers_of hT (orcF_none rfl) ?_
 simp only [oo, om, op, og, ci, cl, c28, annK, lkG, lkR, reduceIte, Nat.reduceEqDiff, reduceCtorEq, List.cons.injEq, and_true, and_false, false_and, true_and]
 have HH1 := zA fc (zA ft (zA fj (zA rc (zA rt (zA rj (zA lc (zA lt (zA lj (zA cc1 (zA cc2 (zA ct1 (zA ct2 (zA cj1 (zA cj2 (zA fs (zA rs (zA ls (zA cs1 (zA cs2 (zA fe (zA re (zA ce1 ce2))))))))))))))))))))))
 refine zS ?_
 refine zR (zO (by simp [-lenA, le, HH1]; rfl) ?_)
 simp only [zT, zB]
 refine zS ?_
 refine zR (zO (by simp [-lenA, le, HH1]; rfl) ?_)
 simp only [zT, zB]
 refine zS ?_
 refine zS ?_
 refine zR (zO (by simp [-lenA, le, HH1]; rfl) ?_)
 simp only [zT, zB]
 refine zL ?_
 refine runs_loopG_inv (fun m2 σ => ∃ (i : Nat) (g : Int), g = i ∧ js.length - i = m2 ∧ i ≤ js.length ∧ ((rfN js S k i = [] ∧ σ = ⟨[.any, j, .any, I (k : Int), .any, .any, .ref 1 0 0, .any, .any, .sl 4 0 0 true, .sl 5 0 0 true, I g, .any, .any, .any, .any, .any, .any, .any, .any, .any, .any, .any, .any, .any, .any, .any, .any, .any, .any, .any, .any, .any, .any, .any, .any, .any, .any, .any, .any, .any, .any, .any, .any, .any, .any, .any, .any, .any, .any, .any, .any, .any, .any, .any, .any, .any, .any, .any, .any, .any, .any, .any, .any, .any, .any, .any, .any, .any, .any, .any, .any, .any, .any, .any, .any, .any, .any, .any, .any, .any, .any, .any, .any, .any, .any, .any, .any, .any, .any, .any, .any, .any, .any, .any, .any, .any, .any, .any, .any, .any, .any, .any, .any, .any, .any, .any, .any, .any, .any, .any, .any, .any], [some (.row 3 [[I s.mach, c, t]]), some (.row 2 [[sv, ev]]), none, none, some (.row 1 []), some (.row 1 [])]⟩) ∨ (∃ (q : Nat) (fr to : List Int), fr = rfN js S k i ∧ to = rtN js S k i ∧ fr.length = q + 1 ∧ to.length = q + 1 ∧ σ = ⟨[.any, j, .any, I (k : Int), .any, .any, .ref 1 0 0, .any, .any, .sl 4 0 (q + 1) false, .sl 5 0 (q + 1) false, I g, .any, .any, .any, .any, .any, .any, .any, .any, .any, .any, .any, .any, .any, .any, .any, .any, .any, .any, .any, .any, .any, .any, .any, .any, .any, .any, .any, .any, .any, .any, .any, .any, .any, .any, .any, .any, .any, .any, .any, .any, .any, .any, .any, .any, .any, .any, .any, .any, .any, .any, .any, .any, .any, .any, .any, .any, .any, .any, .any, .any, .any, .any, .any, .any, .any, .any, .any, .any, .any, .any, .any, .any, .any, .any, .any, .any, .any, .any, .any, .any, .any, .any, .any, .any, .any, .any, .any, .any, .any, .any, .any, .any, .any, .any, .any, .any, .any, .any, .any, .any, .any], [some (.row 3 [[I s.mach, c, t]]), some (.row 2 [[sv, ev]]), none, none, some (.row 1 (fr.map rI)), some (.row 1 (to.map rI))]⟩))) (by simp [-lenA, le, HH1] <;> first | exact ⟨rfl, rfl⟩ | rfl) (⟨0, 0, rfl, rfl, Nat.zero_le _, .inl ⟨rfl, rfl⟩⟩) ?_
 rintro m2 σ ⟨i, g, hgi, rfl, hil, ⟨hfr, rfl⟩ | ⟨q, fr, to, hfr, hto, hfl, htl, rfl⟩⟩
 ·refine zS ?_
  refine zS ?_
  refine zR (zO (by simp [-lenA, le, HH1]; rfl) ?_)
  simp only [zT, zB]
  refine runs_cond_split (x := decide (g < (js.length : Int))) (by simp) (fun hlt2 => ?_) (fun hlt2 => ?_)
  ·have hltt := of_decide_eq_true hlt2
   have hk0 : i < js.length := by omega
   have hks : i < S.length := by omega
   have hg0 : 0 ≤ g := by omega
   have hgn : g.toNat = i := by omega
   have hwg : W .i64 (g + 1) = g + 1 := W_small (by omega)
   have hjb := hsh.job _ (List.getElem_mem hk0)
   have hrow := hS.row _ (List.getElem_mem hks)
   have hJ := jobAt_eq hk0
   have hc1 := cameF_bd hsh hS160 hk0 k
   have hs1' := stAt_bd hS160 i k
   have hrfs : rfN js S k (i + 1) = rfN js S k i ++ if 0 < minAt (jobAt js i) k then [cameF js S k i] else [] := rfl
   have hrts : rtN js S k (i + 1) = rtN js S k i ++ if 0 < minAt (jobAt js i) k then [stAt S i k] else [] := rfl
   have hkj : k < js[i].mins.length := by have := hjb.2.2.2.1; omega
   have hkS : k < S[i].length := by have := hrow.1; omega
   have hi1j : (k : Int) < (js[i].mins.length : Int) := by omega
   have hi1S : (k : Int) < (S[i].length : Int) := by omega
   obtain ⟨jr, tj, wv, rfl, hr1, hr2, hwv⟩ := dJobs_get hj hk0
   have hkr : i < jr.length := by omega
   have hr4 : ∀ h, jr[i]'h = [I js[i].kind, I js[i].ready, I js[i].due, wv] := fun h => by rw [List.getElem?_eq_getElem h] at hr2; exact Option.some.inj hr2
   have rw5 := fun n d => dInts_rb hwv n d
   have fw5 := fun H d => dInts_frz hwv H d
   have lw5 := dInts_len hwv
   obtain ⟨cw1, cw2⟩ := dInts_cells hwv
   obtain ⟨sr, tt, wt, rfl, hs1, hs2, hwt⟩ := dInts2_get hs hks
   have hksr : i < sr.length := by omega
   have hs4 : ∀ h, sr[i]'h = [wt] := fun h => by rw [List.getElem?_eq_getElem h] at hs2; exact Option.some.inj hs2
   have rt5 := fun n d => dInts_rb hwt n d
   have ft5 := fun H d => dInts_frz hwt H d
   have lt5 := dInts_len hwt
   obtain ⟨ctw1, ctw2⟩ := dInts_cells hwt
   obtain ⟨tw, rfl⟩ := dInts_get hwv hkj
   obtain ⟨tz, rfl⟩ := dInts_get hwt hkS
   rw [hJ, minAt_eq hkj] at hrfs hrts
   rw [stAt_eq hks hkS] at hrts
   rw [stAt_eq hks hkS] at hs1'
   have hVb := hjb.2.2.2.2 _ (List.getElem_mem hkj)
   have hM1 : (js[i].mins.map rI)[k]? = some [I js[i].mins[k]] := by rw [List.getElem?_map, List.getElem?_eq_getElem hkj]; rfl
   have hM2 : ∀ (h : k < (js[i].mins.map rI).length), (js[i].mins.map rI)[k]'h = [I js[i].mins[k]] := fun h => by rw [List.getElem_map]; rfl
   have hM3 : (S[i].map rI)[k]? = some [I S[i][k]] := by rw [List.getElem?_map, List.getElem?_eq_getElem hkS]; rfl
   have hM4 : ∀ (h : k < (S[i].map rI).length), (S[i].map rI)[k]'h = [I S[i][k]] := fun h => by rw [List.getElem_map]; rfl
   generalize hV : js[i].mins[k] = V at *
   generalize hT : S[i][k] = T1 at *
   generalize hFr : cameF js S k i = F0 at *
   by_cases hkz : k = 0
   ·have hF0 : js[i].ready = F0 := by rw [← hFr]; unfold cameF; rw [if_pos hkz, hJ]
    have hd0 : ¬ 0 < k := by omega
    have HH2 := zA hg0 (zA hgn (zA hk0 (zA hks (zA hwg (zA hkj (zA hkS (zA hi1j (zA hi1S (zA hV (zA hT (zA hM1 (zA hM2 (zA hM3 (zA hM4 (zA hkr (zA hr2 (zA hr4 (zA rw5 (zA fw5 (zA lw5 (zA cw1 (zA cw2 (zA hksr (zA hs2 (zA hs4 (zA rt5 (zA ft5 (zA lt5 (zA ctw1 (zA ctw2 (zA hF0 hd0)))))))))))))))))))))))))))))))
    refine zK ?_
    simp only [zT, zB]
    refine zS ?_
    refine zL ?_
    refine zS ?_
    refine zR (zO (by simp [-lenA, le, HH1, HH2]; rfl) ?_)
    simp only [zT, zB]
    refine zS ?_
    refine zS ?_
    refine zR (zO (by simp [-lenA, le, HH1, HH2]; rfl) ?_)
    simp only [zT, zB]
    refine runs_cond (x := false) (by simp [hd0]) ?_
    refine zK ?_
    simp only [zT, zB]
    refine zS ?_
    refine zR (zO (by simp [-lenA, le, HH1, HH2]; rfl) ?_)
    simp only [zT, zB]
    refine runs_cond_split (x := decide (0 < V)) (by simp) (fun hA => ?_) (fun hA => ?_)
    ·have hA1 := of_decide_eq_true hA
     rw [if_pos hA1] at hrfs hrts
     have hrt0 : rtN js S k i = [] := List.eq_nil_of_length_eq_zero (by rw [rtN_len, hfr]; rfl)
     rw [hfr, List.nil_append] at hrfs
     rw [hrt0, List.nil_append] at hrts
     have hapf : [[I F0]] = [F0].map rI := rfl
     have hapt : [[I T1]] = [T1].map rI := rfl
     refine runs_drw (by simp (maxSteps := 3000000) [-lenA, le, HH1, HH2]; rfl) ?_
     simp only [zT, zB]
     refine zR (zO (by simp [-lenA, le, HH1, HH2]; rfl) ?_)
     simp only [zT, zB]
     exact ⟨js.length - (i + 1), _, _, by omega, by simp [-lenA, le, HH1, HH2] <;> first | exact ⟨rfl, rfl⟩ | rfl, i + 1, g + 1, by omega, rfl, by omega, .inr ⟨0, [F0], [T1], hrfs.symm, hrts.symm, rfl, rfl, rfl⟩⟩
    ·have hA1 := of_decide_eq_false hA
     rw [if_neg hA1, List.append_nil] at hrfs hrts
     refine zK ?_
     simp only [zT, zB]
     refine zR (zO (by simp [-lenA, le, HH1, HH2]; rfl) ?_)
     simp only [zT, zB]
     exact ⟨js.length - (i + 1), _, _, by omega, by simp [-lenA, le, HH1, HH2] <;> first | exact ⟨rfl, rfl⟩ | rfl, i + 1, g + 1, by omega, rfl, by omega, .inl ⟨by rw [hrfs]; exact hfr, rfl⟩⟩
   ·have hkp : k - 1 < js[i].mins.length := by omega
    have hkq : k - 1 < S[i].length := by omega
    have hwk : W .i64 ((k : Int) - 1) = (k : Int) - 1 := W_small (by omega)
    have hi1p : 0 ≤ (k : Int) - 1 := by omega
    have hi1q : 1 ≤ (k : Int) := by omega
    have hi1r : 1 ≤ k := by omega
    have hi1t : ((k : Int) - 1).toNat = k - 1 := by omega
    have hi1a : (k : Int) - 1 < (js[i].mins.length : Int) := by omega
    have hi1b : (k : Int) - 1 < (S[i].length : Int) := by omega
    have hp1 := hjb.2.2.2.2 _ (List.getElem_mem hkp)
    have hp2 := hS160 _ (List.getElem_mem hks) _ (List.getElem_mem hkq)
    have hF0 : S[i][k - 1] + js[i].mins[k - 1] = F0 := by rw [← hFr]; unfold cameF; rw [if_neg hkz, hJ, stAt_eq hks hkq, minAt_eq hkp]
    have hd0 : 0 < k := by omega
    have hN1 : (js[i].mins.map rI)[k - 1]? = some [I js[i].mins[k - 1]] := by rw [List.getElem?_map, List.getElem?_eq_getElem hkp]; rfl
    have hN2 : ∀ (h : k - 1 < (js[i].mins.map rI).length), (js[i].mins.map rI)[k - 1]'h = [I js[i].mins[k - 1]] := fun h => by rw [List.getElem_map]; rfl
    have hN3 : (S[i].map rI)[k - 1]? = some [I S[i][k - 1]] := by rw [List.getElem?_map, List.getElem?_eq_getElem hkq]; rfl
    have hN4 : ∀ (h : k - 1 < (S[i].map rI).length), (S[i].map rI)[k - 1]'h = [I S[i][k - 1]] := fun h => by rw [List.getElem_map]; rfl
    generalize hY1 : js[i].mins[k - 1] = Y1 at *
    generalize hY2 : S[i][k - 1] = Y2 at *
    have hwF2 : W .i64 F0 = F0 := W_fit (by omega)
    have HH3 := zA hg0 (zA hgn (zA hk0 (zA hks (zA hwg (zA hkj (zA hkS (zA hi1j (zA hi1S (zA hV (zA hT (zA hM1 (zA hM2 (zA hM3 (zA hM4 (zA hkr (zA hr2 (zA hr4 (zA rw5 (zA fw5 (zA lw5 (zA cw1 (zA cw2 (zA hksr (zA hs2 (zA hs4 (zA rt5 (zA ft5 (zA lt5 (zA ctw1 (zA ctw2 (zA hd0 (zA hkp (zA hkq (zA hwk (zA hi1p (zA hi1q (zA hi1r (zA hi1t (zA hi1a (zA hi1b (zA hY1 (zA hY2 (zA hF0 (zA hwF2 (zA hN1 (zA hN2 (zA hN3 hN4)))))))))))))))))))))))))))))))))))))))))))))))
    refine zK ?_
    simp only [zT, zB]
    refine zS ?_
    refine zL ?_
    refine zS ?_
    refine zR (zO (by simp [-lenA, le, HH1, HH3]; rfl) ?_)
    simp only [zT, zB]
    refine zS ?_
    refine zS ?_
    refine zR (zO (by simp [-lenA, le, HH1, HH3]; rfl) ?_)
    simp only [zT, zB]
    refine runs_cond (x := true) (by simp [hd0]) ?_
    refine runs_drw (by simp (maxSteps := 3000000) [-lenA, le, HH1, HH3]; rfl) ?_
    simp only [zT, zB]
    refine zS ?_
    refine zR (zO (by simp [-lenA, le, HH1, HH3]; rfl) ?_)
    simp only [zT, zB]
    refine runs_cond_split (x := decide (0 < V)) (by simp) (fun hA => ?_) (fun hA => ?_)
    ·have hA1 := of_decide_eq_true hA
     rw [if_pos hA1] at hrfs hrts
     have hrt0 : rtN js S k i = [] := List.eq_nil_of_length_eq_zero (by rw [rtN_len, hfr]; rfl)
     rw [hfr, List.nil_append] at hrfs
     rw [hrt0, List.nil_append] at hrts
     have hapf : [[I F0]] = [F0].map rI := rfl
     have hapt : [[I T1]] = [T1].map rI := rfl
     refine runs_drw (by simp (maxSteps := 3000000) [-lenA, le, HH1, HH3]; rfl) ?_
     simp only [zT, zB]
     refine zR (zO (by simp [-lenA, le, HH1, HH3]; rfl) ?_)
     simp only [zT, zB]
     exact ⟨js.length - (i + 1), _, _, by omega, by simp [-lenA, le, HH1, HH3] <;> first | exact ⟨rfl, rfl⟩ | rfl, i + 1, g + 1, by omega, rfl, by omega, .inr ⟨0, [F0], [T1], hrfs.symm, hrts.symm, rfl, rfl, rfl⟩⟩
    ·have hA1 := of_decide_eq_false hA
     rw [if_neg hA1, List.append_nil] at hrfs hrts
     refine zK ?_
     simp only [zT, zB]
     refine zR (zO (by simp [-lenA, le, HH1, HH3]; rfl) ?_)
     simp only [zT, zB]
     exact ⟨js.length - (i + 1), _, _, by omega, by simp [-lenA, le, HH1, HH3] <;> first | exact ⟨rfl, rfl⟩ | rfl, i + 1, g + 1, by omega, rfl, by omega, .inl ⟨by rw [hrfs]; exact hfr, rfl⟩⟩
  ·have hltt := of_decide_eq_false hlt2
   have hiE : i = js.length := by omega
   subst hiE
   rw [hfr]
   refine runs_exit ?_
   simp only [zT, zB, if_true, if_false, reduceIte, Nat.reduceEqDiff, Nat.succ_ne_zero, Nat.one_ne_zero, Nat.zero_ne_one]
   refine zS ?_
   refine zR (zO (by simp [-lenA, le, HH1]; rfl) ?_)
   simp only [zT, zB]
   refine zS ?_
   refine zS ?_
   refine zR (zO (by simp [-lenA, le, HH1]; rfl) ?_)
   simp only [zT, zB]
   refine zL ?_
   refine runs_loop_inv (fun m3 σ => σ = ⟨[.any, .any, .any, .any, .any, .any, .any, .any, .any, .sl 4 0 0 true, .sl 5 0 0 true, .any, .any, I 0, I 0, .any, .any, .any, .any, .any, .any, .any, .any, .any, .any, .any, .any, .any, .any, .any, .any, .any, .any, .any, .any, .any, .any, .any, .any, .any, .any, .any, .any, .any, .any, .any, .any, .any, .any, .any, .any, .any, .any, .any, .any, .any, .any, .any, .any, .any, .any, .any, .any, .any, .any, .any, .any, .any, .any, .any, .any, .any, .any, .any, .any, .any, .any, .any, .any, .any, .any, .any, .any, .any, .any, .any, .any, .any, .any, .any, .any, .any, .any, .any, .any, .any, .any, .any, .any, .any, .any, .any, .any, .any, .any, .any, .any, .any, .any, .any, .any, .any, .any], [some (.row 3 [[I s.mach, c, t]]), some (.row 2 [[sv, ev]]), none, none, some (.row 1 []), some (.row 1 [])]⟩) ?_ 0 _ (by simp)
   rintro m3 σ rfl
   refine zS ?_
   refine zS ?_
   refine zR (zO (by simp [-lenA, le, HH1]; rfl) ?_)
   simp only [zT, zB]
   refine runs_cond (x := false) (by simp) ?_
   refine runs_exit ?_
   simp only [zT, zB, if_true, if_false, reduceIte, Nat.reduceEqDiff, Nat.succ_ne_zero, Nat.one_ne_zero, Nat.zero_ne_one]
   refine zS ?_
   refine zR (zO (by simp [-lenA, le, HH1]; rfl) ?_)
   simp only [zT, zB]
   refine runs_ret ?_
   simp [-lenA, le, HH1, trim, mostR]
 ·have tkF : (fr.map rI).take (q + 1) = fr.map rI := List.take_of_length_le (by simp [hfl])
  have tkT : (to.map rI).take (q + 1) = to.map rI := List.take_of_length_le (by simp [htl])
  have hle1 := rfN_len js S k i
  rw [← hfr] at hle1
  have hlq : q + 1 + 1 ≤ 1048576 := by omega
  have hr3 : ∀ e : Int, (rI e).length = 1 := fun _ => rfl
  have hrf := fun n => rI_rb n 4 fr
  have hrt := fun n => rI_rb n 4 to
  have hff := fun n h r => optAll_snoc (frN_rI n h fr) r
  have hft := fun n h r => optAll_snoc (frN_rI n h to) r
  have hgf := fun n h => frN_mapI n h 4 fr
  have hgt := fun n h => frN_mapI n h 4 to
  have HH4 := zA tkF (zA tkT (zA hlq (zA hfl (zA htl hr3))))
  have HH5 := zA hgf (zA hgt (zA hff (zA hft (zA hrf hrt))))
  refine zS ?_
  refine zS ?_
  refine zR (zO (by simp [-lenA, le, HH1, HH4, ↓HH5]; rfl) ?_)
  simp only [zT, zB]
  refine runs_cond_split (x := decide (g < (js.length : Int))) (by simp) (fun hlt2 => ?_) (fun hlt2 => ?_)
  ·have hltt := of_decide_eq_true hlt2
   have hk0 : i < js.length := by omega
   have hks : i < S.length := by omega
   have hg0 : 0 ≤ g := by omega
   have hgn : g.toNat = i := by omega
   have hwg : W .i64 (g + 1) = g + 1 := W_small (by omega)
   have hjb := hsh.job _ (List.getElem_mem hk0)
   have hrow := hS.row _ (List.getElem_mem hks)
   have hJ := jobAt_eq hk0
   have hc1 := cameF_bd hsh hS160 hk0 k
   have hs1' := stAt_bd hS160 i k
   have hrfs : rfN js S k (i + 1) = rfN js S k i ++ if 0 < minAt (jobAt js i) k then [cameF js S k i] else [] := rfl
   have hrts : rtN js S k (i + 1) = rtN js S k i ++ if 0 < minAt (jobAt js i) k then [stAt S i k] else [] := rfl
   have hkj : k < js[i].mins.length := by have := hjb.2.2.2.1; omega
   have hkS : k < S[i].length := by have := hrow.1; omega
   have hi1j : (k : Int) < (js[i].mins.length : Int) := by omega
   have hi1S : (k : Int) < (S[i].length : Int) := by omega
   obtain ⟨jr, tj, wv, rfl, hr1, hr2, hwv⟩ := dJobs_get hj hk0
   have hkr : i < jr.length := by omega
   have hr4 : ∀ h, jr[i]'h = [I js[i].kind, I js[i].ready, I js[i].due, wv] := fun h => by rw [List.getElem?_eq_getElem h] at hr2; exact Option.some.inj hr2
   have rw5 := fun n d => dInts_rb hwv n d
   have fw5 := fun H d => dInts_frz hwv H d
   have lw5 := dInts_len hwv
   obtain ⟨cw1, cw2⟩ := dInts_cells hwv
   obtain ⟨sr, tt, wt, rfl, hs1, hs2, hwt⟩ := dInts2_get hs hks
   have hksr : i < sr.length := by omega
   have hs4 : ∀ h, sr[i]'h = [wt] := fun h => by rw [List.getElem?_eq_getElem h] at hs2; exact Option.some.inj hs2
   have rt5 := fun n d => dInts_rb hwt n d
   have ft5 := fun H d => dInts_frz hwt H d
   have lt5 := dInts_len hwt
   obtain ⟨ctw1, ctw2⟩ := dInts_cells hwt
   obtain ⟨tw, rfl⟩ := dInts_get hwv hkj
   obtain ⟨tz, rfl⟩ := dInts_get hwt hkS
   rw [hJ, minAt_eq hkj] at hrfs hrts
   rw [stAt_eq hks hkS] at hrts
   rw [stAt_eq hks hkS] at hs1'
   have hVb := hjb.2.2.2.2 _ (List.getElem_mem hkj)
   have hM1 : (js[i].mins.map rI)[k]? = some [I js[i].mins[k]] := by rw [List.getElem?_map, List.getElem?_eq_getElem hkj]; rfl
   have hM2 : ∀ (h : k < (js[i].mins.map rI).length), (js[i].mins.map rI)[k]'h = [I js[i].mins[k]] := fun h => by rw [List.getElem_map]; rfl
   have hM3 : (S[i].map rI)[k]? = some [I S[i][k]] := by rw [List.getElem?_map, List.getElem?_eq_getElem hkS]; rfl
   have hM4 : ∀ (h : k < (S[i].map rI).length), (S[i].map rI)[k]'h = [I S[i][k]] := fun h => by rw [List.getElem_map]; rfl
   generalize hV : js[i].mins[k] = V at *
   generalize hT : S[i][k] = T1 at *
   generalize hFr : cameF js S k i = F0 at *
   by_cases hkz : k = 0
   ·have hF0 : js[i].ready = F0 := by rw [← hFr]; unfold cameF; rw [if_pos hkz, hJ]
    have hd0 : ¬ 0 < k := by omega
    have HH6 := zA hg0 (zA hgn (zA hk0 (zA hks (zA hwg (zA hkj (zA hkS (zA hi1j (zA hi1S (zA hV (zA hT (zA hM1 (zA hM2 (zA hM3 (zA hM4 (zA hkr (zA hr2 (zA hr4 (zA rw5 (zA fw5 (zA lw5 (zA cw1 (zA cw2 (zA hksr (zA hs2 (zA hs4 (zA rt5 (zA ft5 (zA lt5 (zA ctw1 (zA ctw2 (zA hF0 hd0)))))))))))))))))))))))))))))))
    refine zK ?_
    simp only [zT, zB]
    refine zS ?_
    refine zL ?_
    refine zS ?_
    refine zR (zO (by simp [-lenA, le, HH1, HH4, ↓HH5, HH6]; rfl) ?_)
    simp only [zT, zB]
    refine zS ?_
    refine zS ?_
    refine zR (zO (by simp [-lenA, le, HH1, HH4, ↓HH5, HH6]; rfl) ?_)
    simp only [zT, zB]
    refine runs_cond (x := false) (by simp [hd0]) ?_
    refine zK ?_
    simp only [zT, zB]
    refine zS ?_
    refine zR (zO (by simp [-lenA, le, HH1, HH4, ↓HH5, HH6]; rfl) ?_)
    simp only [zT, zB]
    refine runs_cond_split (x := decide (0 < V)) (by simp) (fun hA => ?_) (fun hA => ?_)
    ·have hA1 := of_decide_eq_true hA
     rw [if_pos hA1] at hrfs hrts
     rw [← hfr] at hrfs
     rw [← hto] at hrts
     have hf2 : (fr ++ [F0]).length = q + 1 + 1 := by simp [hfl]
     have ht2' : (to ++ [T1]).length = q + 1 + 1 := by simp [htl]
     have hapf : fr.map rI ++ [[I F0]] = (fr ++ [F0]).map rI := by rw [List.map_append]; rfl
     have hapt : to.map rI ++ [[I T1]] = (to ++ [T1]).map rI := by rw [List.map_append]; rfl
     generalize fr ++ [F0] = nf at *
     generalize to ++ [T1] = nt at *
     have hrnf := fun n => rI_rb n 4 nf
     have hrnt := fun n => rI_rb n 4 nt
     have hgnf := fun n h => frN_mapI n h 4 nf
     have hgnt := fun n h => frN_mapI n h 4 nt
     refine runs_drw (by simp (maxSteps := 3000000) [-lenA, le, HH1, HH4, ↓HH5, HH6, hapf, hapt, ↓hrnf, ↓hrnt, ↓hgnf, ↓hgnt]; rfl) ?_
     simp only [zT, zB]
     refine zR (zO (by simp [-lenA, le, HH1, HH4, ↓HH5, HH6, hapf, hapt, ↓hrnf, ↓hrnt, ↓hgnf, ↓hgnt]; rfl) ?_)
     simp only [zT, zB]
     exact ⟨js.length - (i + 1), _, _, by omega, by simp [-lenA, le, HH1, HH4, ↓HH5, HH6, hapf, hapt, ↓hrnf, ↓hrnt, ↓hgnf, ↓hgnt] <;> first | exact ⟨rfl, rfl⟩ | rfl, i + 1, g + 1, by omega, rfl, by omega, .inr ⟨q + 1, nf, nt, hrfs.symm, hrts.symm, hf2, ht2', rfl⟩⟩
    ·have hA1 := of_decide_eq_false hA
     rw [if_neg hA1, List.append_nil] at hrfs hrts
     refine zK ?_
     simp only [zT, zB]
     refine zR (zO (by simp [-lenA, le, HH1, HH4, ↓HH5, HH6]; rfl) ?_)
     simp only [zT, zB]
     exact ⟨js.length - (i + 1), _, _, by omega, by simp [-lenA, le, HH1, HH4, ↓HH5, HH6] <;> first | exact ⟨rfl, rfl⟩ | rfl, i + 1, g + 1, by omega, rfl, by omega, .inr ⟨q, fr, to, by rw [hrfs]; exact hfr, by rw [hrts]; exact hto, hfl, htl, rfl⟩⟩
   ·have hkp : k - 1 < js[i].mins.length := by omega
    have hkq : k - 1 < S[i].length := by omega
    have hwk : W .i64 ((k : Int) - 1) = (k : Int) - 1 := W_small (by omega)
    have hi1p : 0 ≤ (k : Int) - 1 := by omega
    have hi1q : 1 ≤ (k : Int) := by omega
    have hi1r : 1 ≤ k := by omega
    have hi1t : ((k : Int) - 1).toNat = k - 1 := by omega
    have hi1a : (k : Int) - 1 < (js[i].mins.length : Int) := by omega
    have hi1b : (k : Int) - 1 < (S[i].length : Int) := by omega
    have hp1 := hjb.2.2.2.2 _ (List.getElem_mem hkp)
    have hp2 := hS160 _ (List.getElem_mem hks) _ (List.getElem_mem hkq)
    have hF0 : S[i][k - 1] + js[i].mins[k - 1] = F0 := by rw [← hFr]; unfold cameF; rw [if_neg hkz, hJ, stAt_eq hks hkq, minAt_eq hkp]
    have hd0 : 0 < k := by omega
    have hN1 : (js[i].mins.map rI)[k - 1]? = some [I js[i].mins[k - 1]] := by rw [List.getElem?_map, List.getElem?_eq_getElem hkp]; rfl
    have hN2 : ∀ (h : k - 1 < (js[i].mins.map rI).length), (js[i].mins.map rI)[k - 1]'h = [I js[i].mins[k - 1]] := fun h => by rw [List.getElem_map]; rfl
    have hN3 : (S[i].map rI)[k - 1]? = some [I S[i][k - 1]] := by rw [List.getElem?_map, List.getElem?_eq_getElem hkq]; rfl
    have hN4 : ∀ (h : k - 1 < (S[i].map rI).length), (S[i].map rI)[k - 1]'h = [I S[i][k - 1]] := fun h => by rw [List.getElem_map]; rfl
    generalize hY1 : js[i].mins[k - 1] = Y1 at *
    generalize hY2 : S[i][k - 1] = Y2 at *
    have hwF2 : W .i64 F0 = F0 := W_fit (by omega)
    have HH7 := zA hg0 (zA hgn (zA hk0 (zA hks (zA hwg (zA hkj (zA hkS (zA hi1j (zA hi1S (zA hV (zA hT (zA hM1 (zA hM2 (zA hM3 (zA hM4 (zA hkr (zA hr2 (zA hr4 (zA rw5 (zA fw5 (zA lw5 (zA cw1 (zA cw2 (zA hksr (zA hs2 (zA hs4 (zA rt5 (zA ft5 (zA lt5 (zA ctw1 (zA ctw2 (zA hd0 (zA hkp (zA hkq (zA hwk (zA hi1p (zA hi1q (zA hi1r (zA hi1t (zA hi1a (zA hi1b (zA hY1 (zA hY2 (zA hF0 (zA hwF2 (zA hN1 (zA hN2 (zA hN3 hN4)))))))))))))))))))))))))))))))))))))))))))))))
    refine zK ?_
    simp only [zT, zB]
    refine zS ?_
    refine zL ?_
    refine zS ?_
    refine zR (zO (by simp [-lenA, le, HH1, HH4, ↓HH5, HH7]; rfl) ?_)
    simp only [zT, zB]
    refine zS ?_
    refine zS ?_
    refine zR (zO (by simp [-lenA, le, HH1, HH4, ↓HH5, HH7]; rfl) ?_)
    simp only [zT, zB]
    refine runs_cond (x := true) (by simp [hd0]) ?_
    refine runs_drw (by simp (maxSteps := 3000000) [-lenA, le, HH1, HH4, ↓HH5, HH7]; rfl) ?_
    simp only [zT, zB]
    refine zS ?_
    refine zR (zO (by simp [-lenA, le, HH1, HH4, ↓HH5, HH7]; rfl) ?_)
    simp only [zT, zB]
    refine runs_cond_split (x := decide (0 < V)) (by simp) (fun hA => ?_) (fun hA => ?_)
    ·have hA1 := of_decide_eq_true hA
     rw [if_pos hA1] at hrfs hrts
     rw [← hfr] at hrfs
     rw [← hto] at hrts
     have hf2 : (fr ++ [F0]).length = q + 1 + 1 := by simp [hfl]
     have ht2' : (to ++ [T1]).length = q + 1 + 1 := by simp [htl]
     have hapf : fr.map rI ++ [[I F0]] = (fr ++ [F0]).map rI := by rw [List.map_append]; rfl
     have hapt : to.map rI ++ [[I T1]] = (to ++ [T1]).map rI := by rw [List.map_append]; rfl
     generalize fr ++ [F0] = nf at *
     generalize to ++ [T1] = nt at *
     have hrnf := fun n => rI_rb n 4 nf
     have hrnt := fun n => rI_rb n 4 nt
     have hgnf := fun n h => frN_mapI n h 4 nf
     have hgnt := fun n h => frN_mapI n h 4 nt
     refine runs_drw (by simp (maxSteps := 3000000) [-lenA, le, HH1, HH4, ↓HH5, HH7, hapf, hapt, ↓hrnf, ↓hrnt, ↓hgnf, ↓hgnt]; rfl) ?_
     simp only [zT, zB]
     refine zR (zO (by simp [-lenA, le, HH1, HH4, ↓HH5, HH7, hapf, hapt, ↓hrnf, ↓hrnt, ↓hgnf, ↓hgnt]; rfl) ?_)
     simp only [zT, zB]
     exact ⟨js.length - (i + 1), _, _, by omega, by simp [-lenA, le, HH1, HH4, ↓HH5, HH7, hapf, hapt, ↓hrnf, ↓hrnt, ↓hgnf, ↓hgnt] <;> first | exact ⟨rfl, rfl⟩ | rfl, i + 1, g + 1, by omega, rfl, by omega, .inr ⟨q + 1, nf, nt, hrfs.symm, hrts.symm, hf2, ht2', rfl⟩⟩
    ·have hA1 := of_decide_eq_false hA
     rw [if_neg hA1, List.append_nil] at hrfs hrts
     refine zK ?_
     simp only [zT, zB]
     refine zR (zO (by simp [-lenA, le, HH1, HH4, ↓HH5, HH7]; rfl) ?_)
     simp only [zT, zB]
     exact ⟨js.length - (i + 1), _, _, by omega, by simp [-lenA, le, HH1, HH4, ↓HH5, HH7] <;> first | exact ⟨rfl, rfl⟩ | rfl, i + 1, g + 1, by omega, rfl, by omega, .inr ⟨q, fr, to, by rw [hrfs]; exact hfr, by rw [hrts]; exact hto, hfl, htl, rfl⟩⟩
  ·have hltt := of_decide_eq_false hlt2
   have hiE : i = js.length := by omega
   subst hiE
   rw [← hfr, ← hto]
   have hq6 : q + 1 ≤ 6 := by have := rfN_len js S k js.length; rw [← hfr] at this; omega
   rw [hfl]
   refine runs_exit ?_
   simp only [zT, zB, if_true, if_false, reduceIte, Nat.reduceEqDiff, Nat.succ_ne_zero, Nat.one_ne_zero, Nat.zero_ne_one]
   refine zS ?_
   refine zR (zO (by simp [-lenA, le, HH1, HH4, ↓HH5]; rfl) ?_)
   simp only [zT, zB]
   refine zS ?_
   refine zS ?_
   refine zR (zO (by simp [-lenA, le, HH1, HH4, ↓HH5]; rfl) ?_)
   simp only [zT, zB]
   refine zL ?_
   refine runs_loop_inv (fun m3 σ => ∃ (p : Nat) (u mo : Int), u = p ∧ q + 1 - p = m3 ∧ p ≤ q + 1 ∧ mo = mostR fr to p ∧ σ = ⟨[.any, .any, .any, .any, .any, .any, .any, .any, .any, .sl 4 0 (q + 1) false, .sl 5 0 (q + 1) false, .any, .any, I mo, I u, .any, .any, .any, .any, .any, .any, .any, .any, .any, .any, .any, .any, .any, .any, .any, .any, .any, .any, .any, .any, .any, .any, .any, .any, .any, .any, .any, .any, .any, .any, .any, .any, .any, .any, .any, .any, .any, .any, .any, .any, .any, .any, .any, .any, .any, .any, .any, .any, .any, .any, .any, .any, .any, .any, .any, .any, .any, .any, .any, .any, .any, .any, .any, .any, .any, .any, .any, .any, .any, .any, .any, .any, .any, .any, .any, .any, .any, .any, .any, .any, .any, .any, .any, .any, .any, .any, .any, .any, .any, .any, .any, .any, .any, .any, .any, .any, .any, .any], [some (.row 3 [[I s.mach, c, t]]), some (.row 2 [[sv, ev]]), none, none, some (.row 1 (fr.map rI)), some (.row 1 (to.map rI))]⟩) ?_ (q + 1 - 0) _ ⟨0, 0, 0, rfl, rfl, Nat.zero_le _, rfl, by simp⟩
   rintro m3 σ ⟨p, u, mo, hup, rfl, hpl, hmo, rfl⟩
   refine zS ?_
   refine zS ?_
   refine zR (zO (by simp [-lenA, le, HH1, HH4, ↓HH5]; rfl) ?_)
   simp only [zT, zB]
   refine runs_cond_split (x := decide (u < (q : Int) + 1)) (by simp) (fun hlt3 => ?_) (fun hlt3 => ?_)
   ·have hlt3' := of_decide_eq_true hlt3
    have hp0 : p < fr.length := by omega
    have hpq : p < q + 1 := by omega
    have hu0 : 0 ≤ u := by omega
    have hun : u.toNat = p := by omega
    have huq : u < (q : Int) + 1 := by omega
    have hwu : W .i64 (u + 1) = u + 1 := W_small (by omega)
    have hga : fr.getD p 0 = fr[p] := by rw [List.getD_eq_getElem?_getD, List.getElem?_eq_getElem hp0]; rfl
    have hmQ : mostR fr to (p + 1) = max (mostR fr to p) (wrN fr to (fr.getD p 0) fr.length) := rfl
    rw [hga, hfl, ← hmo] at hmQ
    have hge : (fr.map rI)[p]? = some [I fr[p]] := by rw [List.getElem?_map, List.getElem?_eq_getElem hp0]; rfl
    have hge2 : ∀ (h : p < (fr.map rI).length), (fr.map rI)[p]'h = [I fr[p]] := fun h => by rw [List.getElem_map]; rfl
    generalize hAP : fr[p] = tu at *
    have HH8 := zA hu0 (zA hun (zA huq (zA hp0 (zA hpq (zA hwu (zA hge (zA hge2 hAP)))))))
    refine zK ?_
    simp only [zT, zB]
    refine zS ?_
    refine zL ?_
    refine zS ?_
    refine zR (zO (by simp [-lenA, le, HH1, HH4, ↓HH5, -List.getElem?_map, -List.getElem_map, HH8]; rfl) ?_)
    simp only [zT, zB]
    refine zS ?_
    refine zS ?_
    refine zR (zO (by simp [-lenA, le, HH1, HH4, ↓HH5, -List.getElem?_map, -List.getElem_map, HH8]; rfl) ?_)
    simp only [zT, zB]
    refine zL ?_
    refine runs_loop_inv (fun m4 σ => ∃ (m5 : Nat) (g cn : Int), g = m5 ∧ q + 1 - m5 = m4 ∧ m5 ≤ q + 1 ∧ cn = wrN fr to tu m5 ∧ σ = ⟨[.any, .any, .any, .any, .any, .any, .any, .any, .any, .sl 4 0 (q + 1) false, .sl 5 0 (q + 1) false, .any, .any, I mo, I u, I cn, I g, .any, .any, .any, .any, .any, .any, .any, .any, .any, .any, .any, .any, .any, .any, .any, .any, .any, .any, .any, .any, .any, .any, .any, .any, .any, .any, .any, .any, .any, .any, .any, .any, .any, .any, .any, .any, .any, .any, .any, .any, .any, .any, .any, .any, .any, .any, .any, .any, .any, .any, .any, .any, .any, .any, .any, .any, .any, .any, .any, .any, .any, .any, .any, .any, .any, .any, .any, .any, .any, .any, .any, .any, .any, .any, .any, .any, .any, .any, .any, .any, .any, .any, .any, .any, .any, .any, .any, .any, .any, .any, .any, .any, .any, .any, .any, .any], [some (.row 3 [[I s.mach, c, t]]), some (.row 2 [[sv, ev]]), none, none, some (.row 1 (fr.map rI)), some (.row 1 (to.map rI))]⟩) ?_ (q + 1 - 0) _ ⟨0, 0, 0, rfl, rfl, Nat.zero_le _, rfl, by simp⟩
    rintro m4 σ ⟨m5, g, cn, hgm, rfl, hmj, hcn, rfl⟩
    refine zS ?_
    refine zS ?_
    refine zR (zO (by simp [-lenA, le, HH1, HH4, ↓HH5, -List.getElem?_map, -List.getElem_map, HH8]; rfl) ?_)
    simp only [zT, zB]
    refine runs_cond_split (x := decide (g < (q : Int) + 1)) (by simp) (fun hlt4 => ?_) (fun hlt4 => ?_)
    ·have hlt4' := of_decide_eq_true hlt4
     have hm0 : m5 < fr.length := by omega
     have hm0t : m5 < to.length := by omega
     have hm0q : m5 < q + 1 := by omega
     have hg0 : 0 ≤ g := by omega
     have hgn : g.toNat = m5 := by omega
     have hgq : g < (q : Int) + 1 := by omega
     have hwgg : W .i64 (g + 1) = g + 1 := W_small (by omega)
     have hwN : wrN fr to tu (m5 + 1) = wrN fr to tu m5 + if wrB fr to tu m5 = true then 1 else 0 := rfl
     have hwb := wrN_bd fr to tu m5
     rw [← hcn] at hwN hwb
     unfold wrB at hwN
     rw [show fr.getD m5 0 = fr[m5] by rw [List.getD_eq_getElem?_getD, List.getElem?_eq_getElem hm0]; rfl, show to.getD m5 0 = to[m5] by rw [List.getD_eq_getElem?_getD, List.getElem?_eq_getElem hm0t]; rfl] at hwN
     have hE1 : (fr.map rI)[m5]? = some [I fr[m5]] := by rw [List.getElem?_map, List.getElem?_eq_getElem hm0]; rfl
     have hE2 : ∀ (h : m5 < (fr.map rI).length), (fr.map rI)[m5]'h = [I fr[m5]] := fun h => by rw [List.getElem_map]; rfl
     have hE3 : (to.map rI)[m5]? = some [I to[m5]] := by rw [List.getElem?_map, List.getElem?_eq_getElem hm0t]; rfl
     have hE4 : ∀ (h : m5 < (to.map rI).length), (to.map rI)[m5]'h = [I to[m5]] := fun h => by rw [List.getElem_map]; rfl
     generalize hF1 : fr[m5] = f1 at *
     generalize hT1 : to[m5] = t1 at *
     generalize hA2 : decide (f1 ≤ tu) = A2 at *
     generalize hA3 : decide (tu < t1) = A3 at *
     have hwcn : W .i64 (cn + 1) = cn + 1 := W_small (by omega)
     rcases A2 with _ | _
     ·have HH9 := zA hg0 (zA hgn (zA hgq (zA hm0 (zA hm0t (zA hm0q (zA hwgg (zA hE1 (zA hE2 (zA hE3 (zA hE4 (zA hA2 (zA hA3 hwcn))))))))))))
      refine zK ?_
      simp only [zT, zB]
      refine zS ?_
      refine zL ?_
      refine zS ?_
      refine runs_drw (by simp (maxSteps := 3000000) [-lenA, le, HH1, HH4, ↓HH5, -List.getElem?_map, -List.getElem_map, HH8, HH9]; rfl) ?_
      simp only [zT, zB]
      refine runs_cond (x := false) (by simp) ?_
      refine zK ?_
      simp only [zT, zB]
      refine zR (zO (by simp [-lenA, le, HH1, HH4, ↓HH5, -List.getElem?_map, -List.getElem_map, HH8, HH9]; rfl) ?_)
      simp only [zT, zB]
      exact ⟨q + 1 - (m5 + 1), by omega, m5 + 1, g + 1, cn, by omega, rfl, by omega, by rw [hwN]; simp, by simp [trim, -lenA, le, HH1, HH4, ↓HH5, -List.getElem?_map, -List.getElem_map, HH8, HH9]⟩
     ·rcases A3 with _ | _
      ·have HH10 := zA hg0 (zA hgn (zA hgq (zA hm0 (zA hm0t (zA hm0q (zA hwgg (zA hE1 (zA hE2 (zA hE3 (zA hE4 (zA hA2 (zA hA3 hwcn))))))))))))
       refine zK ?_
       simp only [zT, zB]
       refine zS ?_
       refine zL ?_
       refine zS ?_
       refine runs_drw (by simp (maxSteps := 3000000) [-lenA, le, HH1, HH4, ↓HH5, -List.getElem?_map, -List.getElem_map, HH8, HH10]; rfl) ?_
       simp only [zT, zB]
       refine runs_cond (x := false) (by simp) ?_
       refine zK ?_
       simp only [zT, zB]
       refine zR (zO (by simp [-lenA, le, HH1, HH4, ↓HH5, -List.getElem?_map, -List.getElem_map, HH8, HH10]; rfl) ?_)
       simp only [zT, zB]
       exact ⟨q + 1 - (m5 + 1), by omega, m5 + 1, g + 1, cn, by omega, rfl, by omega, by rw [hwN]; simp, by simp [trim, -lenA, le, HH1, HH4, ↓HH5, -List.getElem?_map, -List.getElem_map, HH8, HH10]⟩
      ·have HH11 := zA hg0 (zA hgn (zA hgq (zA hm0 (zA hm0t (zA hm0q (zA hwgg (zA hE1 (zA hE2 (zA hE3 (zA hE4 (zA hA2 (zA hA3 hwcn))))))))))))
       refine zK ?_
       simp only [zT, zB]
       refine zS ?_
       refine zL ?_
       refine zS ?_
       refine runs_drw (by simp (maxSteps := 3000000) [-lenA, le, HH1, HH4, ↓HH5, -List.getElem?_map, -List.getElem_map, HH8, HH11]; rfl) ?_
       simp only [zT, zB]
       refine runs_cond (x := true) (by simp) ?_
       refine zR (zO (by simp [-lenA, le, HH1, HH4, ↓HH5, -List.getElem?_map, -List.getElem_map, HH8, HH11]; rfl) ?_)
       simp only [zT, zB]
       refine zR (zO (by simp [-lenA, le, HH1, HH4, ↓HH5, -List.getElem?_map, -List.getElem_map, HH8, HH11]; rfl) ?_)
       simp only [zT, zB]
       exact ⟨q + 1 - (m5 + 1), by omega, m5 + 1, g + 1, cn + 1, by omega, rfl, by omega, by rw [hwN]; simp, by simp [trim, -lenA, le, HH1, HH4, ↓HH5, -List.getElem?_map, -List.getElem_map, HH8, HH11]⟩
    ·have hlt4' := of_decide_eq_false hlt4
     have hmE : m5 = q + 1 := by omega
     subst hmE
     rw [← hcn] at hmQ
     refine runs_exit ?_
     simp only [zT, zB, if_true, if_false, reduceIte, Nat.reduceEqDiff, Nat.succ_ne_zero, Nat.one_ne_zero, Nat.zero_ne_one]
     refine zR (zO (by simp [-lenA, le, HH1, HH4, ↓HH5, -List.getElem?_map, -List.getElem_map, HH8]; rfl) ?_)
     simp only [zT, zB]
     refine zR (zO (by simp [-lenA, le, HH1, HH4, ↓HH5, -List.getElem?_map, -List.getElem_map, HH8]; rfl) ?_)
     simp only [zT, zB]
     exact ⟨q + 1 - (p + 1), by omega, p + 1, u + 1, max mo cn, by omega, rfl, by omega, hmQ.symm, by simp [trim, -lenA, le, HH1, HH4, ↓HH5, -List.getElem?_map, -List.getElem_map, HH8]⟩
   ·have hlt3' := of_decide_eq_false hlt3
    have hpE : p = q + 1 := by omega
    subst hpE
    rw [← hmo]
    refine runs_exit ?_
    simp only [zT, zB, if_true, if_false, reduceIte, Nat.reduceEqDiff, Nat.succ_ne_zero, Nat.one_ne_zero, Nat.zero_ne_one]
    refine zS ?_
    refine zR (zO (by simp [-lenA, le, HH1, HH4, ↓HH5]; rfl) ?_)
    simp only [zT, zB]
    refine runs_ret ?_
    simp [-lenA, le, HH1, HH4, ↓HH5, trim]
open Classical in
noncomputable def oWaitR : List AVal → Option AVal
  | [.agg [.int .i64 m, c, t], j, .agg [sv, ev], .int .i64 k] => match dInts2 c, dStops t, dJobs j, dInts2 sv, dInts ev with
    | some cs, some ts, some js, some S, some _ => if ShopOk ⟨m, cs, ts⟩ js ∧ StOk ⟨m, cs, ts⟩ js S ∧ (∀ l ∈ S, ∀ x ∈ l, 0 ≤ x ∧ x ≤ 170000) ∧ 0 ≤ k ∧ k < m then some (I (topE (esrt (evsN js S k.toNat js.length)))) else none
    | _, _, _, _, _ => none
  | _ => none
theorem waitR_ans {s : FShop} {js : List FJob} {c t j sv ev : AVal} {S : List (List Int)} {E : List Int} (hc : dInts2 c = some s.chg) (ht : dStops t = some s.stops) (hj : dJobs j = some js) (hs : dInts2 sv = some S) (he : dInts ev = some E) (h1 : ShopOk s js) (h2 : StOk s js S) (h3 : ∀ l ∈ S, ∀ x ∈ l, 0 ≤ x ∧ x ≤ 170000) {k : Nat} {i : Int} (hi : i = k) (hk : (k : Int) < s.mach) : oWaitR [.agg [I s.mach, c, t], j, .agg [sv, ev], I i] = some (I (topE (esrt (evsN js S k js.length)))) := by
  subst hi
  simp only [oWaitR, hc, ht, hj, hs, he]
  rw [if_pos ⟨h1, h2, h3, by omega, hk⟩]; rfl
noncomputable def FRW1 : Nat → Option CFn := updG FRL 28 [(3658, [.slot 9, .slot 10])] []
theorem FRW1_ok : TabOk Tryz.prog GG FRW1 := tab_updG FRL_ok
noncomputable def FRW : Nat → Option CFn := upd FRW1 28 true (oWaitR)
theorem FRW_ok : TabOk Tryz.prog GG FRW := tab_add mixed FRW1_ok fun args v ho => by
  unfold oWaitR at ho; split at ho <;> (try simp only [reduceCtorEq] at ho)
  rename_i m c t j sv ev k
  split at ho <;> (try simp only [reduceCtorEq] at ho)
  rename_i cs ts js S E hc ht hj hs he
  split at ho <;> (try simp only [reduceCtorEq] at ho)
  rename_i hg
  simp only [Option.some.injEq] at ho
  subst ho
  obtain ⟨g1, g2, g3, g4, g5⟩ := hg
  obtain ⟨kn, rfl⟩ : ∃ m : Nat, k = m := ⟨k.toNat, by omega⟩
  exact a28 Tryz.prog FRW1 rfl ⟨m, cs, ts⟩ js c t j hc ht hj S sv ev hs E he g1 g2 g3 kn g5
noncomputable def FYW : Nat → Option CFn := updG FY5 20 [(51539608130, [.slot 6]), (1975684959810, [.slot 11])] []
theorem FYW_ok : TabOk Tryz.prog GG FYW := tab_updG FY5_ok
theorem wait_good : ∀ args v, oWait args = some v → OrcGood Tryz.prog GG true 20 args v := fun args v ho => by
  unfold oWait at ho; split at ho <;> (try simp only [reduceCtorEq] at ho)
  rename_i m c t j o
  split at ho <;> (try simp only [reduceCtorEq] at ho)
  rename_i cs ts js os hc ht hj ho2
  split at ho <;> (try simp only [reduceCtorEq] at ho)
  rename_i hz
  simp only [Option.some.injEq] at ho
  subst ho
  exact orc_of mixed FYW_ok (a20 Tryz.prog FYW rfl rfl rfl rfl ⟨m, cs, ts⟩ js c t j hc ht hj o os ho2 ⟨size_ok.1 hz.1, hz.2⟩)
noncomputable def FRX1 : Nat → Option CFn := upd FRL 28 true oWaitR
theorem FRX1_ok : TabOk Tryz.prog GG FRX1 := tab_upd FRL_ok (tab_good (f := 28) (c := { c28 with body := annK [(3658, [.slot 9, .slot 10])] [] c28.body, frsh := true, orc := oWaitR }) FRW_ok rfl)
noncomputable def FRX : Nat → Option CFn := upd FRX1 20 true oWait
theorem FRX_ok : TabOk Tryz.prog GG FRX := tab_upd FRX1_ok wait_good
theorem a3 (P : Program) (T : Nat → Option CFn) (hT : T 3 = some c3) (h14 : T 14 = some { c14 with frsh := true, orc := oLarge }) (h15 : T 15 = some { c15 with frsh := true, orc := oKn }) (h16 : T 16 = some { c16 with frsh := false, orc := oCopy }) (h17 : T 17 = some { c17 with frsh := false, orc := oJobs }) (h18 : T 18 = some { c18 with frsh := true, orc := oInts }) (h19 : T 19 = some { c19 with frsh := true, orc := oLateT }) (h20 : T 20 = some { c20 with frsh := true, orc := oWait }) (h21 : T 21 = some { c21 with frsh := true, orc := oSame }) (h22 : T 22 = some { c22 with frsh := true, orc := oEqual }) (h23 : T 23 = some { c23 with frsh := true, orc := oIntsEq }) (h24 : T 24 = some { c24 with frsh := true, orc := oCheck }) (h25 : T 25 = some { c25 with frsh := true, orc := oOrdR }) (h26 : T 26 = some { c26 with frsh := true, orc := oLateR }) (h27 : T 27 = some { c27 with frsh := false, orc := oRunR }) (h28 : T 28 = some { c28 with frsh := true, orc := oWaitR }) (s : FShop) (js : List FJob) (c t j : AVal) (hc : dInts2 c = some s.chg) (ht : dStops t = some s.stops) (hj : dJobs j = some js) (o : AVal) (os : List Int) (ho : dInts o = some os) : Answers P T 3 [.agg [I s.mach, c, t], j, o] [] fun v h => v = .bool true := by
 have fc := fun H d => dInts2_frz hc H d
 have ft := fun H d => dStops_frz ht H d
 have fj := fun H d => dJobs_frz hj H d
 have rc := fun n d => dInts2_rb hc n d
 have rt := fun n d => dStops_rb ht n d
 have rj := fun n d => dJobs_rb hj n d
 have lc := dInts2_len hc
 have lt := dStops_len ht
 have lj := dJobs_len hj
 obtain ⟨cc1, cc2⟩ := dInts2_cells hc
 obtain ⟨ct1, ct2⟩ := dStops_cells ht
 obtain ⟨cj1, cj2⟩ := dJobs_cells hj
 have fo := fun H d => dInts_frz ho H d
 have ro := fun n d => dInts_rb ho n d
 have lo := dInts_len ho
 obtain ⟨co1, co2⟩ := dInts_cells ho
 have hlg := large_eq hc ht hj 6
 refine answers_of hT (orcF_none rfl) ?_
 simp only [oo, om, op, og, ci, cl, c3]
 generalize hL : largeB s js 6 = bL at hlg
 rcases bL with _ | _
 ·by_cases hol : 20 < (os.length : Int)
  ·have HH1 := zA h14 (zA h15 (zA h16 (zA h17 (zA h18 (zA h19 (zA h20 (zA h21 (zA h22 (zA h23 (zA h24 (zA h25 (zA h26 (zA h27 (zA h28 (zA fc (zA ft (zA fj (zA rc (zA rt (zA rj (zA lc (zA lt (zA lj (zA cc1 (zA cc2 (zA ct1 (zA ct2 (zA cj1 (zA cj2 (zA fo (zA ro (zA lo (zA co1 (zA co2 (zA hlg hol)))))))))))))))))))))))))))))))))))
   refine zS ?_
   refine zR (zO (by simp [zC h14, zC h15, zC h16, zC h17, zC h18, zC h19, zC h20, zC h21, zC h22, zC h23, zC h24, zC h25, zC h26, zC h27, zC h28, -lenA, oKn, HH1]; rfl) ?_)
   simp only [zT, zB]
   refine zS ?_
   refine zS ?_
   refine zR (zO (by simp [zC h14, zC h15, zC h16, zC h17, zC h18, zC h19, zC h20, zC h21, zC h22, zC h23, zC h24, zC h25, zC h26, zC h27, zC h28, -lenA, oKn, HH1]; rfl) ?_)
   simp only [zT, zB]
   refine runs_cond (x := true) (by simp [hol]) ?_
   refine zS ?_
   refine zR (zO (by simp [zC h14, zC h15, zC h16, zC h17, zC h18, zC h19, zC h20, zC h21, zC h22, zC h23, zC h24, zC h25, zC h26, zC h27, zC h28, -lenA, oKn, HH1]; rfl) ?_)
   simp only [zT, zB]
   refine runs_ret ?_
   simp [zC h14, zC h15, zC h16, zC h17, zC h18, zC h19, zC h20, zC h21, zC h22, zC h23, zC h24, zC h25, zC h26, zC h27, zC h28, -lenA, oKn, HH1]
  ·have hol2 : ¬ (20 < (os.length : Int)) := by omega
   have HH2 := zA h14 (zA h15 (zA h16 (zA h17 (zA h18 (zA h19 (zA h20 (zA h21 (zA h22 (zA h23 (zA h24 (zA h25 (zA h26 (zA h27 (zA h28 (zA fc (zA ft (zA fj (zA rc (zA rt (zA rj (zA lc (zA lt (zA lj (zA cc1 (zA cc2 (zA ct1 (zA ct2 (zA cj1 (zA cj2 (zA fo (zA ro (zA lo (zA co1 (zA co2 (zA hlg hol2)))))))))))))))))))))))))))))))))))
   refine zS ?_
   refine zR (zO (by simp [zC h14, zC h15, zC h16, zC h17, zC h18, zC h19, zC h20, zC h21, zC h22, zC h23, zC h24, zC h25, zC h26, zC h27, zC h28, -lenA, oKn, HH2]; rfl) ?_)
   simp only [zT, zB]
   refine zS ?_
   refine zS ?_
   refine zR (zO (by simp [zC h14, zC h15, zC h16, zC h17, zC h18, zC h19, zC h20, zC h21, zC h22, zC h23, zC h24, zC h25, zC h26, zC h27, zC h28, -lenA, oKn, HH2]; rfl) ?_)
   simp only [zT, zB]
   refine runs_cond (x := false) (by simp [hol2]) ?_
   obtain ⟨hsz, hk1, hk2, _, hst20⟩ := large_no hL
   have hcopy := copy_eq (m := s.mach) hc ht hk1
   have hwork := jobs_eq hj hk2
   have hints := ints_eq ho (by omega)
   have hc2 := dInts2_encC s.chg
   have ht2 := dStops_encT s.stops
   have hj2 := dJobs_encJ js
   have ho2 := dInts_encE os
   generalize encC s.chg = c2 at *
   generalize encT s.stops = t2 at *
   generalize encJ js = j2 at *
   generalize encE os = o2 at *
   have hck0 := check_eq hc ht hj hsz
   have hsame := same_eq (m := s.mach) hc2 ht2 hc ht hk1
   have heq := equal_eq hj2 hj hk2
   have hin := intsEq_eq ho2 ho (by omega)
   have hor := ordR_eq ho (n := js.length) (by omega)
   have hlat := lateT_eq hc2 ht2 hj2 ho2 hsz (by omega)
   have hwtq := wait_eq hc2 ht2 hj2 ho2 hsz (by omega)
   have fcc := fun H d => dInts2_frz hc2 H d
   have rcc := fun n d => dInts2_rb hc2 n d
   have lcc := dInts2_len hc2
   obtain ⟨ccc1, ccc2⟩ := dInts2_cells hc2
   have ftt := fun H d => dStops_frz ht2 H d
   have rtt := fun n d => dStops_rb ht2 n d
   have ltt := dStops_len ht2
   obtain ⟨ctt1, ctt2⟩ := dStops_cells ht2
   have fjj := fun H d => dJobs_frz hj2 H d
   have rjj := fun n d => dJobs_rb hj2 n d
   have ljj := dJobs_len hj2
   obtain ⟨cjj1, cjj2⟩ := dJobs_cells hj2
   have foo := fun H d => dInts_frz ho2 H d
   have roo := fun n d => dInts_rb ho2 n d
   have loo := dInts_len ho2
   obtain ⟨coo1, coo2⟩ := dInts_cells ho2
   by_cases h0 : shopE s js = 0
   ·rcases hob : ordB os js.length with _ | _
    ·have hne : ordE s js os = 6 := by unfold ordE; rw [if_pos h0, if_neg (by rw [hob]; simp)]
     have hne0 : ¬ ordE s js os = 0 := by rw [hne]; decide
     have hwv : waitV s js os = .nils := by unfold waitV; rw [if_neg hne0]
     have hlt0 : lateT s js os = (0, 0, 0) := by unfold lateT; rw [if_neg hne0]
     rw [hne, hwv] at hwtq
     rw [hne, hlt0] at hlat
     have HH3 := zA hcopy (zA hwork (zA hints (zA hck0 (zA hsame (zA heq (zA hin (zA hor (zA fcc (zA rcc (zA lcc (zA ccc1 (zA ccc2 (zA ftt (zA rtt (zA ltt (zA ctt1 (zA ctt2 (zA fjj (zA rjj (zA ljj (zA cjj1 (zA cjj2 (zA foo (zA roo (zA loo (zA coo1 (zA coo2 (zA hlat (zA hwtq (zA h0 hob))))))))))))))))))))))))))))))
     refine zK ?_
     simp only [zT, zB]
     refine zS ?_
     refine zR (zO (by simp [zC h14, zC h15, zC h16, zC h17, zC h18, zC h19, zC h20, zC h21, zC h22, zC h23, zC h24, zC h25, zC h26, zC h27, zC h28, -lenA, oKn, HH2, HH3]; rfl) ?_)
     simp only [zT, zB]
     refine zS ?_
     refine zR (zO (by simp [zC h14, zC h15, zC h16, zC h17, zC h18, zC h19, zC h20, zC h21, zC h22, zC h23, zC h24, zC h25, zC h26, zC h27, zC h28, -lenA, oKn, HH2, HH3]; rfl) ?_)
     simp only [zT, zB]
     refine zS ?_
     refine zR (zO (by simp [zC h14, zC h15, zC h16, zC h17, zC h18, zC h19, zC h20, zC h21, zC h22, zC h23, zC h24, zC h25, zC h26, zC h27, zC h28, -lenA, oKn, HH2, HH3]; rfl) ?_)
     simp only [zT, zB]
     refine zS ?_
     refine zS ?_
     refine zR (zO (by simp [zC h14, zC h15, zC h16, zC h17, zC h18, zC h19, zC h20, zC h21, zC h22, zC h23, zC h24, zC h25, zC h26, zC h27, zC h28, -lenA, oKn, HH2, HH3]; rfl) ?_)
     simp only [zT, zB]
     refine runs_cond (x := false) (by simp) ?_
     refine zK ?_
     simp only [zT, zB]
     refine zS ?_
     refine zR (zO (by simp [zC h14, zC h15, zC h16, zC h17, zC h18, zC h19, zC h20, zC h21, zC h22, zC h23, zC h24, zC h25, zC h26, zC h27, zC h28, -lenA, oKn, HH2, HH3]; rfl) ?_)
     simp only [zT, zB]
     refine zS ?_
     refine zS ?_
     refine zR (zO (by simp [zC h14, zC h15, zC h16, zC h17, zC h18, zC h19, zC h20, zC h21, zC h22, zC h23, zC h24, zC h25, zC h26, zC h27, zC h28, -lenA, oKn, HH2, HH3]; rfl) ?_)
     simp only [zT, zB]
     refine runs_cond (x := true) (by simp) ?_
     refine zR (zO (by simp [zC h14, zC h15, zC h16, zC h17, zC h18, zC h19, zC h20, zC h21, zC h22, zC h23, zC h24, zC h25, zC h26, zC h27, zC h28, -lenA, oKn, HH2, HH3]; rfl) ?_)
     simp only [zT, zB]
     refine zS ?_
     refine zS ?_
     refine zR (zO (by simp [zC h14, zC h15, zC h16, zC h17, zC h18, zC h19, zC h20, zC h21, zC h22, zC h23, zC h24, zC h25, zC h26, zC h27, zC h28, -lenA, oKn, HH2, HH3]; rfl) ?_)
     simp only [zT, zB]
     refine runs_cond (x := true) (by simp) ?_
     refine zS ?_
     refine zR (zO (by simp [zC h14, zC h15, zC h16, zC h17, zC h18, zC h19, zC h20, zC h21, zC h22, zC h23, zC h24, zC h25, zC h26, zC h27, zC h28, -lenA, oKn, HH2, HH3]; rfl) ?_)
     simp only [zT, zB]
     refine runs_ret ?_
     simp [zC h14, zC h15, zC h16, zC h17, zC h18, zC h19, zC h20, zC h21, zC h22, zC h23, zC h24, zC h25, zC h26, zC h27, zC h28, -lenA, oKn, HH2, HH3]
    ·have hctx := ctx_of h0 hob
     have hordE := ordE_of h0 hob
     rw [hordE, show waitV s js os = encW (waitN js (stsF s js os) s.mach.toNat) by unfold waitV; rw [if_pos (hordE)]; rfl] at hwtq
     rw [hordE] at hlat
     have hlr := lateR_eq hc ht hj ho hctx
     have hrr := runR_eq hc ht hj ho hctx
     have hS := sts_ok hctx
     have hsh := hctx.ok
     have hS160 : ∀ l ∈ stsF s js os, ∀ x ∈ l, 0 ≤ x ∧ x ≤ 170000 := (runF_ok hctx.ok hctx.len6 hctx.mem).st
     rw [lateT_R hordE] at hlat
     generalize lateR s js os = LT at *
     obtain ⟨l1, l2, l3⟩ := LT
     generalize stsF s js os = S at *
     generalize endF s js os = E at *
     have hmach := hsh.mach
     have hn6 := hsh.njob
     have hs := dInts2_vl S true
     have he := dInts_vl E true
     have hwr := fun (i : Int) (k : Nat) hi hk => waitR_ans (k := k) (i := i) hc ht hj hs he hsh hS hS160 hi hk
     generalize (AVal.vl (S.map encS) true) = sv at *
     generalize (AVal.vl (E.map rI) true) = ev at *
     have fs := fun H d => dInts2_frz hs H d
     have rs := fun n d => dInts2_rb hs n d
     have ls := dInts2_len hs
     obtain ⟨cs1, cs2⟩ := dInts2_cells hs
     have fe := fun H d => dInts_frz he H d
     have re := fun n d => dInts_rb he n d
     have le := dInts_len he
     obtain ⟨ce1, ce2⟩ := dInts_cells he
     obtain ⟨mn, hmn⟩ : ∃ mn : Nat, s.mach = mn := ⟨s.mach.toNat, by omega⟩
     have hmt : s.mach.toNat = mn := by omega
     rw [hmt] at hwtq
     have hww := dInts_encW (waitN js S mn)
     have hwl := waitN_ln js S mn
     have hwg := fun k hk => waitN_gt js S mn k hk
     generalize waitN js S mn = wl at *
     generalize encW wl = wv at *
     have hww2 := hww
     have fW := fun H d => dInts_frz hww H d
     have rW := fun n d => dInts_rb hww n d
     have lW := dInts_len hww
     obtain ⟨cW1, cW2⟩ := dInts_cells hww
     have hlW2 : lenA wv = some s.mach.toNat := by rw [lW, hwl, hmt]
     have hmtI : ((s.mach.toNat : Nat) : Int) = s.mach := by omega
     have HH4 := zA hcopy (zA hwork (zA hints (zA hck0 (zA hsame (zA heq (zA hin (zA hor (zA fcc (zA rcc (zA lcc (zA ccc1 (zA ccc2 (zA ftt (zA rtt (zA ltt (zA ctt1 (zA ctt2 (zA fjj (zA rjj (zA ljj (zA cjj1 (zA cjj2 (zA foo (zA roo (zA loo (zA coo1 (zA coo2 (zA hlat (zA hwtq (zA h0 (zA hob (zA hrr (zA hlr (zA hlW2 (zA hmtI (zA fs (zA rs (zA ls (zA cs1 (zA cs2 (zA fe (zA re (zA ce1 (zA ce2 (zA fW (zA rW (zA cW1 cW2)))))))))))))))))))))))))))))))))))))))))))))))
     refine zK ?_
     simp only [zT, zB]
     refine zS ?_
     refine zR (zO (by simp [zC h14, zC h15, zC h16, zC h17, zC h18, zC h19, zC h20, zC h21, zC h22, zC h23, zC h24, zC h25, zC h26, zC h27, zC h28, -lenA, oKn, HH2, le, HH4]; rfl) ?_)
     simp only [zT, zB]
     refine zS ?_
     refine zR (zO (by simp [zC h14, zC h15, zC h16, zC h17, zC h18, zC h19, zC h20, zC h21, zC h22, zC h23, zC h24, zC h25, zC h26, zC h27, zC h28, -lenA, oKn, HH2, le, HH4]; rfl) ?_)
     simp only [zT, zB]
     refine zS ?_
     refine zR (zO (by simp [zC h14, zC h15, zC h16, zC h17, zC h18, zC h19, zC h20, zC h21, zC h22, zC h23, zC h24, zC h25, zC h26, zC h27, zC h28, -lenA, oKn, HH2, le, HH4]; rfl) ?_)
     simp only [zT, zB]
     refine zS ?_
     refine zS ?_
     refine zR (zO (by simp [zC h14, zC h15, zC h16, zC h17, zC h18, zC h19, zC h20, zC h21, zC h22, zC h23, zC h24, zC h25, zC h26, zC h27, zC h28, -lenA, oKn, HH2, le, HH4]; rfl) ?_)
     simp only [zT, zB]
     refine runs_cond (x := false) (by simp) ?_
     refine zK ?_
     simp only [zT, zB]
     refine zS ?_
     refine zR (zO (by simp [zC h14, zC h15, zC h16, zC h17, zC h18, zC h19, zC h20, zC h21, zC h22, zC h23, zC h24, zC h25, zC h26, zC h27, zC h28, -lenA, oKn, HH2, le, HH4]; rfl) ?_)
     simp only [zT, zB]
     refine zS ?_
     refine zS ?_
     refine zR (zO (by simp [zC h14, zC h15, zC h16, zC h17, zC h18, zC h19, zC h20, zC h21, zC h22, zC h23, zC h24, zC h25, zC h26, zC h27, zC h28, -lenA, oKn, HH2, le, HH4]; rfl) ?_)
     simp only [zT, zB]
     refine runs_cond (x := false) (by simp) ?_
     refine zK ?_
     simp only [zT, zB]
     refine zS ?_
     refine zS ?_
     refine zR (zO (by simp [zC h14, zC h15, zC h16, zC h17, zC h18, zC h19, zC h20, zC h21, zC h22, zC h23, zC h24, zC h25, zC h26, zC h27, zC h28, -lenA, oKn, HH2, le, HH4]; rfl) ?_)
     simp only [zT, zB]
     refine runs_cond (x := false) (by simp) ?_
     refine zK ?_
     simp only [zT, zB]
     refine zS ?_
     refine zR (zO (by simp [zC h14, zC h15, zC h16, zC h17, zC h18, zC h19, zC h20, zC h21, zC h22, zC h23, zC h24, zC h25, zC h26, zC h27, zC h28, -lenA, oKn, HH2, le, HH4]; rfl) ?_)
     simp only [zT, zB]
     refine zS ?_
     refine zS ?_
     refine zR (zO (by simp [zC h14, zC h15, zC h16, zC h17, zC h18, zC h19, zC h20, zC h21, zC h22, zC h23, zC h24, zC h25, zC h26, zC h27, zC h28, -lenA, oKn, HH2, le, HH4]; rfl) ?_)
     simp only [zT, zB]
     refine runs_cond (x := false) (by simp) ?_
     refine zK ?_
     simp only [zT, zB]
     refine zS ?_
     refine zR (zO (by simp [zC h14, zC h15, zC h16, zC h17, zC h18, zC h19, zC h20, zC h21, zC h22, zC h23, zC h24, zC h25, zC h26, zC h27, zC h28, -lenA, oKn, HH2, le, HH4]; rfl) ?_)
     simp only [zT, zB]
     refine zS ?_
     refine zS ?_
     refine zR (zO (by simp [zC h14, zC h15, zC h16, zC h17, zC h18, zC h19, zC h20, zC h21, zC h22, zC h23, zC h24, zC h25, zC h26, zC h27, zC h28, -lenA, oKn, HH2, le, HH4]; rfl) ?_)
     simp only [zT, zB]
     refine zL ?_
     refine runs_loop_inv (fun m σ => ∃ (k : Nat) (i : Int), i = k ∧ mn - k = m ∧ k ≤ mn ∧ σ = ⟨[.any, j, .any, .ref 0 0 0, .any, .any, .any, .any, .any, .any, .any, .any, .any, .any, wv, .any, .any, .any, .any, .any, .ref 2 0 0, I i, .any, .any, .any, .any, .any, .any, .any, .any, .any, .any, .any, .any, .any, .any, .any, .any, .any, .any, .any, .any, .any, .any, .any, .any, .any, .any, .any, .any, .any, .any, .any, .any, .any, .any, .any, .any, .any, .any, .any, .any, .any, .any, .any, .any, .any, .any, .any, .any, .any, .any, .any, .any, .any, .any, .any, .any, .any, .any, .any, .any, .any, .any, .any, .any, .any, .any, .any, .any, .any, .any, .any, .any, .any, .any, .any, .any, .any, .any, .any, .any, .any, .any, .any, .any, .any, .any, .any, .any, .any, .any, .any, .any, .any, .any, .any, .any, .any, .any, .any, .any, .any, .any, .any, .any, .any, .any, .any, .any, .any, .any, .any, .any, .any, .any, .any, .any, .any, .any, .any, .any, .any, .any, .any, .any, .any, .any, .any, .any, .any, .any, .any, .any, .any, .any, .any, .any, .any, .any, .any, .any, .any, .any, .any, .any, .any, .any], [some (.row 3 [[I s.mach, c, t]]), some (.row 3 [[I s.mach, c2, t2]]), some (.row 2 [[sv, ev]])]⟩) ?_ (mn - 0) _ ⟨0, 0, rfl, rfl, Nat.zero_le _, by simp⟩
     rintro m σ ⟨k, i, hik, rfl, hkl, rfl⟩
     refine zS ?_
     refine zS ?_
     refine zR (zO (by simp [zC h14, zC h15, zC h16, zC h17, zC h18, zC h19, zC h20, zC h21, zC h22, zC h23, zC h24, zC h25, zC h26, zC h27, zC h28, -lenA, oKn, HH2, le, HH4]; rfl) ?_)
     simp only [zT, zB]
     refine runs_cond_split (x := decide (i < s.mach)) (by simp) (fun hlt => ?_) (fun hlt => ?_)
     ·have hlt := of_decide_eq_true hlt
      have hk0 : k < wl.length := by omega
      have hk0m : k < mn := by omega
      have hi0 : 0 ≤ i := by omega
      have htn : i.toNat = k := by omega
      have him : i < (mn : Int) := by omega
      have him2 : i < s.mach := by omega
      have hwi : W .i64 (i + 1) = i + 1 := W_small (by omega)
      have hwk := hwg k hk0m
      have hwr1 := hwr i k hik (by omega)
      obtain ⟨tq, rfl⟩ := dInts_get hww2 hk0
      rw [List.getElem?_eq_getElem hk0, Option.some.injEq] at hwk
      have hg1 : (wl.map rI)[k]? = some [I wl[k]] := by rw [List.getElem?_map, List.getElem?_eq_getElem hk0]; rfl
      have hg2 : ∀ (h : k < (wl.map rI).length), (wl.map rI)[k]'h = [I wl[k]] := fun h => by rw [List.getElem_map]; rfl
      rw [hwk] at hg1 hg2
      generalize topE (esrt (evsN js S k js.length)) = Q at *
      have HH5 := zA hi0 (zA htn (zA him (zA him2 (zA hk0 (zA hk0m (zA hwi (zA hg1 (zA hg2 (zA hwr1 hwl)))))))))
      refine zK ?_
      simp only [zT, zB]
      refine zS ?_
      refine zL ?_
      refine zS ?_
      refine runs_drw (by simp (maxSteps := 3000000) [zC h14, zC h15, zC h16, zC h17, zC h18, zC h19, zC h20, zC h21, zC h22, zC h23, zC h24, zC h25, zC h26, zC h27, zC h28, -lenA, oKn, HH2, le, HH4, HH5]; rfl) ?_
      simp only [zT, zB]
      refine runs_cond (x := false) (by simp) ?_
      refine zK ?_
      simp only [zT, zB]
      refine zR (zO (by simp [zC h14, zC h15, zC h16, zC h17, zC h18, zC h19, zC h20, zC h21, zC h22, zC h23, zC h24, zC h25, zC h26, zC h27, zC h28, -lenA, oKn, HH2, le, HH4, HH5]; rfl) ?_)
      simp only [zT, zB]
      exact ⟨mn - (k + 1), by omega, k + 1, i + 1, by omega, rfl, by omega, by simp [trim, zC h14, zC h15, zC h16, zC h17, zC h18, zC h19, zC h20, zC h21, zC h22, zC h23, zC h24, zC h25, zC h26, zC h27, zC h28, -lenA, oKn, HH2, le, HH4, HH5]⟩
     ·refine runs_exit ?_
      simp only [zT, zB, if_true, if_false, reduceIte, Nat.reduceEqDiff, Nat.succ_ne_zero, Nat.one_ne_zero, Nat.zero_ne_one]
      refine zS ?_
      refine zR (zO (by simp [zC h14, zC h15, zC h16, zC h17, zC h18, zC h19, zC h20, zC h21, zC h22, zC h23, zC h24, zC h25, zC h26, zC h27, zC h28, -lenA, oKn, HH2, le, HH4]; rfl) ?_)
      simp only [zT, zB]
      refine runs_ret ?_
      simp [zC h14, zC h15, zC h16, zC h17, zC h18, zC h19, zC h20, zC h21, zC h22, zC h23, zC h24, zC h25, zC h26, zC h27, zC h28, -lenA, oKn, HH2, le, HH4]
   ·have hne : ordE s js os = shopE s js := by unfold ordE; rw [if_neg h0]
    have hne0 : ¬ ordE s js os = 0 := by rw [hne]; exact h0
    have hwv : waitV s js os = .nils := by unfold waitV; rw [if_neg hne0]
    have hlt0 : lateT s js os = (0, 0, 0) := by unfold lateT; rw [if_neg hne0]
    rw [hne, hwv] at hwtq
    rw [hne, hlt0] at hlat
    have h0b : (shopE s js == 0) = false := by simp [h0]
    have HH6 := zA hcopy (zA hwork (zA hints (zA hck0 (zA hsame (zA heq (zA hin (zA hor (zA fcc (zA rcc (zA lcc (zA ccc1 (zA ccc2 (zA ftt (zA rtt (zA ltt (zA ctt1 (zA ctt2 (zA fjj (zA rjj (zA ljj (zA cjj1 (zA cjj2 (zA foo (zA roo (zA loo (zA coo1 (zA coo2 (zA hlat (zA hwtq (zA h0 h0b))))))))))))))))))))))))))))))
    refine zK ?_
    simp only [zT, zB]
    refine zS ?_
    refine zR (zO (by simp [zC h14, zC h15, zC h16, zC h17, zC h18, zC h19, zC h20, zC h21, zC h22, zC h23, zC h24, zC h25, zC h26, zC h27, zC h28, -lenA, oKn, HH2, HH6]; rfl) ?_)
    simp only [zT, zB]
    refine zS ?_
    refine zR (zO (by simp [zC h14, zC h15, zC h16, zC h17, zC h18, zC h19, zC h20, zC h21, zC h22, zC h23, zC h24, zC h25, zC h26, zC h27, zC h28, -lenA, oKn, HH2, HH6]; rfl) ?_)
    simp only [zT, zB]
    refine zS ?_
    refine zR (zO (by simp [zC h14, zC h15, zC h16, zC h17, zC h18, zC h19, zC h20, zC h21, zC h22, zC h23, zC h24, zC h25, zC h26, zC h27, zC h28, -lenA, oKn, HH2, HH6]; rfl) ?_)
    simp only [zT, zB]
    refine zS ?_
    refine zS ?_
    refine zR (zO (by simp [zC h14, zC h15, zC h16, zC h17, zC h18, zC h19, zC h20, zC h21, zC h22, zC h23, zC h24, zC h25, zC h26, zC h27, zC h28, -lenA, oKn, HH2, HH6]; rfl) ?_)
    simp only [zT, zB]
    refine runs_cond (x := false) (by simp) ?_
    refine zK ?_
    simp only [zT, zB]
    refine zS ?_
    refine zR (zO (by simp [zC h14, zC h15, zC h16, zC h17, zC h18, zC h19, zC h20, zC h21, zC h22, zC h23, zC h24, zC h25, zC h26, zC h27, zC h28, -lenA, oKn, HH2, HH6]; rfl) ?_)
    simp only [zT, zB]
    refine zS ?_
    refine zS ?_
    refine zR (zO (by simp [zC h14, zC h15, zC h16, zC h17, zC h18, zC h19, zC h20, zC h21, zC h22, zC h23, zC h24, zC h25, zC h26, zC h27, zC h28, -lenA, oKn, HH2, HH6]; rfl) ?_)
    simp only [zT, zB]
    refine runs_cond (x := false) (by simp) ?_
    refine zK ?_
    simp only [zT, zB]
    refine zS ?_
    refine zS ?_
    refine zR (zO (by simp [zC h14, zC h15, zC h16, zC h17, zC h18, zC h19, zC h20, zC h21, zC h22, zC h23, zC h24, zC h25, zC h26, zC h27, zC h28, -lenA, oKn, HH2, HH6]; rfl) ?_)
    simp only [zT, zB]
    refine runs_cond (x := true) (by simp [h0]) ?_
    refine zS ?_
    refine zR (zO (by simp [zC h14, zC h15, zC h16, zC h17, zC h18, zC h19, zC h20, zC h21, zC h22, zC h23, zC h24, zC h25, zC h26, zC h27, zC h28, -lenA, oKn, HH2, HH6]; rfl) ?_)
    simp only [zT, zB]
    refine runs_ret ?_
    simp [zC h14, zC h15, zC h16, zC h17, zC h18, zC h19, zC h20, zC h21, zC h22, zC h23, zC h24, zC h25, zC h26, zC h27, zC h28, -lenA, oKn, HH2, HH6]
 ·have HH7 := zA h14 (zA h15 (zA h16 (zA h17 (zA h18 (zA h19 (zA h20 (zA h21 (zA h22 (zA h23 (zA h24 (zA h25 (zA h26 (zA h27 (zA h28 (zA fc (zA ft (zA fj (zA rc (zA rt (zA rj (zA lc (zA lt (zA lj (zA cc1 (zA cc2 (zA ct1 (zA ct2 (zA cj1 (zA cj2 (zA fo (zA ro (zA lo (zA co1 (zA co2 hlg))))))))))))))))))))))))))))))))))
  refine zS ?_
  refine zR (zO (by simp [zC h14, zC h15, zC h16, zC h17, zC h18, zC h19, zC h20, zC h21, zC h22, zC h23, zC h24, zC h25, zC h26, zC h27, zC h28, -lenA, oKn, HH7]; rfl) ?_)
  simp only [zT, zB]
  refine zS ?_
  refine zS ?_
  refine zR (zO (by simp [zC h14, zC h15, zC h16, zC h17, zC h18, zC h19, zC h20, zC h21, zC h22, zC h23, zC h24, zC h25, zC h26, zC h27, zC h28, -lenA, oKn, HH7]; rfl) ?_)
  simp only [zT, zB]
  refine runs_cond (x := true) (by simp) ?_
  refine zS ?_
  refine zR (zO (by simp [zC h14, zC h15, zC h16, zC h17, zC h18, zC h19, zC h20, zC h21, zC h22, zC h23, zC h24, zC h25, zC h26, zC h27, zC h28, -lenA, oKn, HH7]; rfl) ?_)
  simp only [zT, zB]
  refine runs_ret ?_
  simp [zC h14, zC h15, zC h16, zC h17, zC h18, zC h19, zC h20, zC h21, zC h22, zC h23, zC h24, zC h25, zC h26, zC h27, zC h28, -lenA, oKn, HH7]
theorem law3 (s : FShop) (js : List FJob) (c t j : AVal) (hc : dInts2 c = some s.chg) (ht : dStops t = some s.stops) (hj : dJobs j = some js) (o : AVal) (os : List Int) (ho : dInts o = some os) : Answers Tryz.prog FRX 3 [.agg [I s.mach, c, t], j, o] [] fun v h => v = .bool true :=
  a3 Tryz.prog FRX rfl rfl rfl rfl rfl rfl rfl rfl rfl rfl rfl rfl rfl rfl rfl rfl s js c t j hc ht hj o os ho
end
end Go.Proofs.YtjjapdagllclkaaGreat.Tab
