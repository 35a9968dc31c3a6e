/- Contracts of flow: FlowBreaks. No condition. -/
import Derived.Test.YtjjapdagllclkaaGreatPzEFs
set_option linter.unusedSimpArgs false
set_option linter.unusedVariables false
namespace Go.Proofs.YtjjapdagllclkaaGreat.Tab
open Go Go.Abs Go.Proofs
set_option maxRecDepth 100000
set_option maxHeartbeats 4000000
set_option linter.unusedSimpArgs false
set_option linter.unusedVariables false
section
attribute [local simp] frz_int frz_bool frz_vl frz_pv frz_agg frz_tup frz_fn frz_ref frz_sl frz_nils optAll orcF rb_int rb_bool rb_agg rb_tup rb_int' rb_bool' rb_vl rb_pv rb_yld rb_nilf rb_nilp rb_nils rb_any rb_und rb_ref rb_sl rb_fn slE chunk fillA evParts evParts3 putAt List.range_succ List.range_zero List.range'_succ List.range'_zero runX_nil' unary_not evalS_pure evAll_nil evAll_cons runX_cons stepX wantedA dop CV.ev putK_eq setK_eq appK_eq fA_eq fI_eq fN_eq fRow_eq fRows_eq nth_eq Out.v putT List.replicate_succ zT zB arI pointee Abs.rowAt ldRow allV toV toC ofV ofC Builtin.min_ Builtin.min2 Builtin.max_ Builtin.max2 min_if max_if resA tupA kill trim_self trim_len trim_emp trim_nil lenA
attribute [local simp] runD_nil' runD_cons' stepD actK_eq actD clash disj masks holes maskH unmaskH diffs news eqB allB eqA ldRowN wrote toCs ofCs stA rowsV_vl rowsV_nils rowsOf dI1 dI2 dI3 dI5 elt
attribute [local simp] st_any st_und st_agg st_tup st_bool st_int st_nilp st_ref st_pv st_nils st_sl st_vl st_nilm st_mp st_fn st_nilf st_yld co_any co_und co_agg co_tup co_bool co_int co_nilp co_ref co_pv co_nils co_sl co_vl co_nilm co_mp co_fn co_nilf co_yld
attribute [local simp] Function.comp_def List.all_map callA calleeA frzG gather getR lim lop loud lowA lowR okG posOf putG putR rbB_none rbB_row resG rowAt takeG
def lstA (L : List Int) : AVal := match L with | [] => .nils | x :: l => .sl 0 0 (x :: l).length false
def lstP (p : Nat) (L : List Int) : AVal := match L with | [] => .nils | x :: l => .sl p 0 (x :: l).length false
def lstB (L : List Int) : Option Blk := match L with | [] => none | x :: l => some (.row 1 ((x :: l).map rI))
theorem lstP_ne {p : Nat} {L : List Int} (h : L ≠ []) : lstP p L = .sl p 0 L.length false := by cases L with | nil => exact absurd rfl h | cons x l => rfl
theorem lstA_ne {L : List Int} (h : L ≠ []) : lstA L = .sl 0 0 L.length false := by cases L with | nil => exact absurd rfl h | cons x l => rfl
theorem lstB_ne {L : List Int} (h : L ≠ []) : lstB L = some (.row 1 (L.map rI)) := by cases L with | nil => exact absurd rfl h | cons x l => rfl
theorem lst_back (p : Nat) (L : List Int) : backB true [p] (lstA L) = some (lstP p L) := by cases L <;> rfl
theorem lstB_ok (L : List Int) : okBlk true (lstB L) = true := by
  cases L with
  | nil => rfl
  | cons x l =>
    simp only [lstB, okBlk, List.all_eq_true]
    intro r hr
    obtain ⟨a, _, rfl⟩ := List.mem_map.1 hr
    simp [rI, okA, plainA]
theorem lstB_rb (n : Nat) (L : List Int) : rbB n (lstB L) = true := by
  cases L with
  | nil => rfl
  | cons x l => exact rI_rb n 4 (x :: l)
theorem allB_self {α : Type} {f : α → α → Bool} : ∀ {l : List α}, (∀ x ∈ l, f x x = true) → allB f l l = true
  | [], _ => rfl
  | x :: l, h => by simp only [allB, h x (by simp), Bool.true_and]; exact allB_self fun y hy => h y (by simp [hy])
theorem lstB_eq (L : List Int) : eqB (lstB L) (lstB L) = true := by
  cases L with
  | nil => rfl
  | cons x l =>
    simp only [lstB, eqB, beq_self_eq_true, Bool.true_and]
    exact allB_self fun r hr => allB_self fun y hy => by
      obtain ⟨a, _, rfl⟩ := List.mem_map.1 hr
      simp only [rI, List.mem_singleton] at hy
      subst hy; simp
theorem lstP_st (p : Nat) (L : List Int) : storable (lstP p L) = true ∧ cellsOf (lstP p L) = some [lstP p L] ∧ lenA (lstP p L) = some L.length := by cases L <;> exact ⟨rfl, rfl, rfl⟩
theorem lstP_rb {p n : Nat} (h : p < n) (d : Nat) (L : List Int) : rb n (d + 1) (lstP p L) = true := by
  cases L with
  | nil => rfl
  | cons x l => simp [lstP, h]
theorem lstP_frz {p : Nat} {H : Heap} (L : List Int) (h : H[p]? = some (lstB L)) (nv : Bool) (d : Nat) : frz nv H (d + 2) (lstP p L) = some (encV L) := by
  cases L with
  | nil => cases nv <;> rfl
  | cons x l =>
    rw [encV_ne (by simp)]
    exact frz_row nv H (d + 1) p _ 1 false _ h (by simp) (frz_rows nv H d _ fun r hr y hy => by
      obtain ⟨a, _, rfl⟩ := List.mem_map.1 hr
      simp only [rI, List.mem_singleton] at hy
      subst hy; rfl)
open Classical in
noncomputable def sLate : List AVal → Option (AVal × Heap)
  | [.agg [.int .i64 m, c, t, j], o] => match dInts2 c, dStops t, dJobs j, dInts o with
    | some cs, some ts, some js, some os => if ShopOk ⟨m, cs, ts⟩ js ∧ OrdOk js os then some (lstA (lateL (runF ⟨m, cs, ts⟩ js os).ends js js.length), [lstB (lateL (runF ⟨m, cs, ts⟩ js os).ends js js.length)]) else none
    | _, _, _, _ => none
  | _ => none
theorem sLate_eq {s : FShop} {js : List FJob} {c t j o : AVal} {os : List Int} (hc : dInts2 c = some s.chg) (ht : dStops t = some s.stops) (hj : dJobs j = some js) (ho : dInts o = some os) (hg : ShopOk s js ∧ OrdOk js os) : sLate [.agg [I s.mach, c, t, j], o] = some (lstA (lateL (runF s js os).ends js js.length), [lstB (lateL (runF s js os).ends js js.length)]) := by
  simp only [sLate, hc, ht, hj, ho]
  rw [if_pos hg]
theorem a64f (P : Program) (T : Nat → Option CFn) (hT : T 64 = some { c64 with body := annK [(7188, [.slot 4])] [] c64.body }) (h62 : T 62 = some { c62 with frsh := false, orc := oRun }) (s : FShop) (js : List FJob) (c t j : AVal) (hc : dInts2 c = some s.chg) (ht : dStops t = some s.stops) (hj : dJobs j = some js) (o : AVal) (os : List Int) (ho : dInts o = some os) (hg : ShopOk s js ∧ OrdOk js os) : Answers P T 64 [.agg [I s.mach, c, t, j], o] [] fun v1 h1 => ∃ K : List Nat, K.Nodup ∧ K.length = [lstB (lateL (runF s js os).ends js js.length)].length ∧ (∀ p (hp : p < K.length) b, [lstB (lateL (runF s js os).ends js js.length)][p]? = some (some b) → h1[K[p]]? = some (some b)) ∧ keepB true K h1 v1 = some (lstA (lateL (runF s js os).ends js js.length)) := by
 have fc := fun H d => dInts2_frz hc H d
 have ft := fun H d => dStops_frz ht H d
 have fj := fun H d => dJobs_frz hj H d
 have rc := fun n d => dInts2_rb hc n d
 have rt := fun n d => dStops_rb ht n d
 have rj := fun n d => dJobs_rb hj n d
 have lc := dInts2_len hc
 have lt := dStops_len ht
 have lj := dJobs_len hj
 obtain ⟨cc1, cc2⟩ := dInts2_cells hc
 obtain ⟨ct1, ct2⟩ := dStops_cells ht
 obtain ⟨cj1, cj2⟩ := dJobs_cells hj
 have fo := fun H d => dInts_frz ho H d
 have ro := fun n d => dInts_rb ho n d
 have lo := dInts_len ho
 obtain ⟨co1, co2⟩ := dInts_cells ho
 have hrun := run_eq hc ht hj ho hg
 obtain ⟨hsh, hord⟩ := hg
 have hn6 : js.length ≤ 6 := hsh.njob
 have hro := runF_ok hsh hord.len hord.at'
 generalize runF s js os = R at *
 have hre := hro.elen
 have fz1 : ∀ H d, optAll (optAll (frz false H (d + 1))) (R.starts.map encS) = some (R.starts.map encS) := fun H d => frz_encS H d R.starts
 refine answers_of hT (orcF_none rfl) ?_
 simp only [oo, om, op, og, ci, cl, c64, annK, lkG, lkR, reduceIte, Nat.reduceEqDiff, reduceCtorEq, List.cons.injEq, and_true, and_false, false_and, true_and]
 have HH1 := zA h62 (zA fc (zA ft (zA fj (zA rc (zA rt (zA rj (zA lc (zA lt (zA lj (zA cc1 (zA cc2 (zA ct1 (zA ct2 (zA cj1 (zA cj2 (zA fo (zA ro (zA lo (zA co1 (zA co2 (zA hrun (zA hre fz1))))))))))))))))))))))
 refine zS ?_
 refine zR (zO (by simp [zC h62, -lenA, frz_mapI, HH1]; rfl) ?_)
 simp only [zT, zB]
 refine zS ?_
 refine zS ?_
 refine zR (zO (by simp [zC h62, -lenA, frz_mapI, HH1]; rfl) ?_)
 simp only [zT, zB]
 refine zL ?_
 refine runs_loopG_inv (fun mm σ => ∃ (k : Nat) (i : Int), i = k ∧ js.length - k = mm ∧ k ≤ js.length ∧ ((lateL R.ends js k = [] ∧ σ = ⟨[.any, .any, .ref 0 0 0, .any, .nils, .any, .any, .any, .any, .any, .vl (R.ends.map rI) true, I js.length, I i, .any, .any, .any, .any, .any, .any, .any, .any, .any, .any, .any, .any, .any, .any, .any, .any, .any, .any], [some (.row 4 [[I s.mach, c, t, j]]), none]⟩) ∨ (∃ (p : Nat) (ac : List Int), ac = lateL R.ends js k ∧ ac.length = p + 1 ∧ p + 1 ≤ 6 ∧ σ = ⟨[.any, .any, .ref 0 0 0, .any, .sl 1 0 (p + 1) false, .any, .any, .any, .any, .any, .vl (R.ends.map rI) true, I js.length, I i, .any, .any, .any, .any, .any, .any, .any, .any, .any, .any, .any, .any, .any, .any, .any, .any, .any, .any], [some (.row 4 [[I s.mach, c, t, j]]), some (.row 1 (ac.map rI))]⟩))) (by simp [zC h62, -lenA, frz_mapI, HH1] <;> first | exact ⟨rfl, rfl⟩ | rfl) (⟨0, 0, rfl, rfl, Nat.zero_le _, .inl ⟨rfl, rfl⟩⟩) ?_
 rintro mm σ ⟨k, i, hik, rfl, hkl, ⟨hac0, rfl⟩ | ⟨p, ac, hac, hacl, hp6, rfl⟩⟩
 ·refine zS ?_
  refine zR (zO (by simp [zC h62, -lenA, frz_mapI, HH1]; rfl) ?_)
  simp only [zT, zB]
  refine zS ?_
  refine runs_cond_split (x := decide (i < (js.length : Int))) (by simp) (fun hlt => ?_) (fun hlt => ?_)
  ·have hlt2 := of_decide_eq_true hlt
   have hk0 : k < js.length := by omega
   have hkE : k < R.ends.length := by omega
   obtain ⟨rs, tj, wv, rfl, hr1, hr2, hwv⟩ := dJobs_get hj hk0
   have hi0 : 0 ≤ i := by omega
   have htn : i.toNat = k := by omega
   have hkr : k < rs.length := by omega
   have hr4 : ∀ h, rs[k]'h = [I js[k].kind, I js[k].ready, I js[k].due, wv] := fun h => by rw [List.getElem?_eq_getElem h] at hr2; exact Option.some.inj hr2
   have rw5 := fun n d => dInts_rb hwv n d
   obtain ⟨cw1, cw2⟩ := dInts_cells hwv
   have hwi : W .i64 (i + 1) = i + 1 := W_small (by omega)
   have hdu : dueAt js k = js[k].due := by unfold dueAt; rw [List.getD_eq_getElem?_getD, List.getElem?_eq_getElem hk0]; rfl
   have hen : endAt R.ends k = R.ends[k] := by unfold endAt; rw [List.getD_eq_getElem?_getD, List.getElem?_eq_getElem hkE]; rfl
   have hst : lateL R.ends js (k + 1) = lateL R.ends js k ++ if js[k].due < R.ends[k] then [(k : Int)] else [] := by rw [← hdu, ← hen]; rfl
   have hll := lateL_len R.ends js (k + 1)
   rw [← hik] at hst
   have HH2 := zA hi0 (zA htn (zA hk0 (zA hkE (zA hkr (zA hr2 (zA hr4 (zA hwi (zA rw5 (zA cw1 cw2)))))))))
   refine zK ?_
   simp only [zT, zB]
   refine zS ?_
   refine zL ?_
   refine zS ?_
   refine zR (zO (by simp [zC h62, -lenA, frz_mapI, HH1, zI, HH2]; rfl) ?_)
   simp only [zT, zB]
   refine zS ?_
   refine zR (zO (by simp [zC h62, -lenA, frz_mapI, HH1, zI, HH2]; rfl) ?_)
   simp only [zT, zB]
   refine runs_cond_split (x := decide (js[k].due < R.ends[k])) (by simp) (fun hd => ?_) (fun hd => ?_)
   ·have hd := of_decide_eq_true hd
    rw [if_pos hd, hac0, List.nil_append] at hst
    refine zR (zO (by simp [zC h62, -lenA, frz_mapI, HH1, zI, HH2]; rfl) ?_)
    simp only [zT, zB]
    refine zR (zO (by simp [zC h62, -lenA, frz_mapI, HH1, zI, HH2]; rfl) ?_)
    simp only [zT, zB]
    exact ⟨js.length - (k + 1), _, _, by omega, by simp [zC h62, -lenA, frz_mapI, HH1, zI, HH2] <;> rfl, k + 1, i + 1, by omega, rfl, by omega, .inr ⟨0, [i], hst.symm, rfl, by omega, rfl⟩⟩
   ·have hd := of_decide_eq_false hd
    rw [if_neg hd, List.append_nil] at hst
    refine zK ?_
    simp only [zT, zB]
    refine zR (zO (by simp [zC h62, -lenA, frz_mapI, HH1, zI, HH2]; rfl) ?_)
    simp only [zT, zB]
    exact ⟨js.length - (k + 1), _, _, by omega, by simp [zC h62, -lenA, frz_mapI, HH1, zI, HH2] <;> rfl, k + 1, i + 1, by omega, rfl, by omega, .inl ⟨by rw [hst, hac0], rfl⟩⟩
  ·have hx1 := of_decide_eq_false hlt
   have hkE : k = js.length := by omega
   subst hkE
   rw [hac0]
   refine runs_exit ?_
   simp only [zT, zB, if_true, if_false, reduceIte, Nat.reduceEqDiff, Nat.succ_ne_zero, Nat.one_ne_zero, Nat.zero_ne_one]
   refine zS ?_
   refine zR (zO (by simp [zC h62, -lenA, frz_mapI, HH1]; rfl) ?_)
   simp only [zT, zB]
   refine runs_ret ?_
   refine ⟨by simp, _, by simp; rfl, [0], by simp, rfl, fun q hq b hb => ?_, rfl⟩
   obtain rfl : q = 0 := by simp at hq; omega
   simp [lstB] at hb
 ·have tk : (ac.map rI).take (p + 1) = ac.map rI := List.take_of_length_le (by simp [hacl])
  have hlac : p + 1 + 1 ≤ 1048576 := by omega
  have hr3 : ∀ e : Int, (rI e).length = 1 := fun _ => rfl
  refine zS ?_
  refine zR (zO (by simp [zC h62, -lenA, frz_mapI, HH1, tk, hlac, hacl, hr3]; rfl) ?_)
  simp only [zT, zB]
  refine zS ?_
  refine runs_cond_split (x := decide (i < (js.length : Int))) (by simp) (fun hlt => ?_) (fun hlt => ?_)
  ·have hlt2 := of_decide_eq_true hlt
   have hk0 : k < js.length := by omega
   have hkE : k < R.ends.length := by omega
   obtain ⟨rs, tj, wv, rfl, hr1, hr2, hwv⟩ := dJobs_get hj hk0
   have hi0 : 0 ≤ i := by omega
   have htn : i.toNat = k := by omega
   have hkr : k < rs.length := by omega
   have hr4 : ∀ h, rs[k]'h = [I js[k].kind, I js[k].ready, I js[k].due, wv] := fun h => by rw [List.getElem?_eq_getElem h] at hr2; exact Option.some.inj hr2
   have rw5 := fun n d => dInts_rb hwv n d
   obtain ⟨cw1, cw2⟩ := dInts_cells hwv
   have hwi : W .i64 (i + 1) = i + 1 := W_small (by omega)
   have hdu : dueAt js k = js[k].due := by unfold dueAt; rw [List.getD_eq_getElem?_getD, List.getElem?_eq_getElem hk0]; rfl
   have hen : endAt R.ends k = R.ends[k] := by unfold endAt; rw [List.getD_eq_getElem?_getD, List.getElem?_eq_getElem hkE]; rfl
   have hst : lateL R.ends js (k + 1) = lateL R.ends js k ++ if js[k].due < R.ends[k] then [(k : Int)] else [] := by rw [← hdu, ← hen]; rfl
   have hll := lateL_len R.ends js (k + 1)
   rw [← hik] at hst
   have HH3 := zA tk (zA hlac (zA hacl (zA hr3 (zA hi0 (zA htn (zA hk0 (zA hkE (zA hkr (zA hr2 (zA hr4 (zA hwi (zA rw5 (zA cw1 cw2)))))))))))))
   refine zK ?_
   simp only [zT, zB]
   refine zS ?_
   refine zL ?_
   refine zS ?_
   refine zR (zO (by simp [zC h62, -lenA, frz_mapI, HH1, zI, HH3]; rfl) ?_)
   simp only [zT, zB]
   refine zS ?_
   refine zR (zO (by simp [zC h62, -lenA, frz_mapI, HH1, zI, HH3]; rfl) ?_)
   simp only [zT, zB]
   refine runs_cond_split (x := decide (js[k].due < R.ends[k])) (by simp) (fun hd => ?_) (fun hd => ?_)
   ·have hd := of_decide_eq_true hd
    rw [if_pos hd, ← hac] at hst
    have hap : ac.map rI ++ [[I i]] = (ac ++ [i]).map rI := by rw [List.map_append]; rfl
    have hnl : (ac ++ [i]).length = p + 1 + 1 := by simp [hacl]
    rw [hst] at hll
    generalize ac ++ [i] = nx at *
    refine zR (zO (by simp [zC h62, -lenA, frz_mapI, HH1, zI, HH3, hap]; rfl) ?_)
    simp only [zT, zB]
    refine zR (zO (by simp [zC h62, -lenA, frz_mapI, HH1, zI, HH3, hap]; rfl) ?_)
    simp only [zT, zB]
    exact ⟨js.length - (k + 1), _, _, by omega, by simp [zC h62, -lenA, frz_mapI, HH1, zI, HH3, hap] <;> rfl, k + 1, i + 1, by omega, rfl, by omega, .inr ⟨p + 1, nx, hst.symm, hnl, by omega, rfl⟩⟩
   ·have hd := of_decide_eq_false hd
    rw [if_neg hd, List.append_nil] at hst
    refine zK ?_
    simp only [zT, zB]
    refine zR (zO (by simp [zC h62, -lenA, frz_mapI, HH1, zI, HH3]; rfl) ?_)
    simp only [zT, zB]
    exact ⟨js.length - (k + 1), _, _, by omega, by simp [zC h62, -lenA, frz_mapI, HH1, zI, HH3] <;> rfl, k + 1, i + 1, by omega, rfl, by omega, .inr ⟨p, ac, by rw [hst, hac], hacl, hp6, rfl⟩⟩
  ·have hx1 := of_decide_eq_false hlt
   have hkE : k = js.length := by omega
   subst hkE
   have hne : ac ≠ [] := by intro e; rw [e] at hacl; simp at hacl
   rw [← hac, lstA_ne hne, lstB_ne hne, hacl]
   refine runs_exit ?_
   simp only [zT, zB, if_true, if_false, reduceIte, Nat.reduceEqDiff, Nat.succ_ne_zero, Nat.one_ne_zero, Nat.zero_ne_one]
   refine zS ?_
   refine zR (zO (by simp [zC h62, -lenA, frz_mapI, HH1, tk, hlac, hacl, hr3]; rfl) ?_)
   simp only [zT, zB]
   refine runs_ret ?_
   refine ⟨by simp, _, by simp; rfl, [1], by simp, rfl, fun q hq b hb => ?_, by simp [keepB, keepA]⟩
   obtain rfl : q = 0 := by simp at hq; omega
   have ht : trim 0 [tupA [AVal.sl 1 0 (p + 1) false]] [some (.row 4 [[I s.mach, c, t, j]]), some (.row 1 (ac.map rI))] = [some (.row 4 [[I s.mach, c, t, j]]), some (.row 1 (ac.map rI))] := by simp [trim]
   show (trim 0 [tupA [AVal.sl 1 0 (p + 1) false]] [some (.row 4 [[I s.mach, c, t, j]]), some (.row 1 (ac.map rI))])[1]? = _
   rw [ht]
   simpa using hb
noncomputable def FJA1 : Nat → Option CFn := upd FT 64 false (fun _ => none)
theorem FJA1_ok : TabOk Tryz.prog GG FJA1 := tab_add mixed FT_ok fun args v ho => by simp at ho
noncomputable def FJA2 : Nat → Option CFn := updE FJA1 64 (freshE true sLate)
theorem FJA2_ok : TabOk Tryz.prog GG FJA2 := tab_fresh mixed FJA1_ok fun args v hs ho => by
  unfold sLate at ho; split at ho <;> (try simp only [reduceCtorEq] at ho)
  rename_i m c t j o
  split at ho <;> (try simp only [reduceCtorEq] at ho)
  rename_i cs ts js os hc ht hj ho2
  split at ho <;> (try simp only [reduceCtorEq] at ho)
  rename_i hg
  simp only [Option.some.injEq, Prod.mk.injEq] at ho
  obtain ⟨rfl, rfl⟩ := ho
  exact a64f Tryz.prog FJA1 rfl rfl ⟨m, cs, ts⟩ js c t j hc ht hj o os ho2 hg
def sClone : List AVal → Option (AVal × Heap)
  | [.vl rs _] => match optAll dI3 rs with
    | some ts => if ts.length ≤ 1000 then some (.sl 0 0 ts.length false, [some (.row 3 (ts.map rS3))]) else none
    | none => none
  | _ => none
theorem a81 (P : Program) (T : Nat → Option CFn) (hT : T 81 = some c81) (ts : List FStop) (tt : Bool) (hl2 : ts.length ≤ 1000) : Answers P T 81 [.vl (ts.map rS3) tt] [] fun v1 h1 => ∃ K : List Nat, K.Nodup ∧ K.length = [some (Blk.row 3 (ts.map rS3))].length ∧ (∀ p (hp : p < K.length) b, [some (Blk.row 3 (ts.map rS3))][p]? = some (some b) → h1[K[p]]? = some (some b)) ∧ keepB true K h1 (looseV v1) = some (.sl 0 0 ts.length false) := by
 refine answers_of hT (orcF_none rfl) ?_
 simp only [oo, om, op, og, ci, cl, c81]
 rcases ts with _ | ⟨x, l⟩
 ·refine zS ?_
  refine zR (zO (by simp [hl2]; rfl) ?_)
  simp only [zT, zB]
  refine zS ?_
  refine zS ?_
  refine zR (zO (by simp [hl2]; rfl) ?_)
  simp only [zT, zB]
  refine runs_cond (x := false) (by simp) ?_
  refine zK ?_
  simp only [zT, zB]
  refine zS ?_
  refine zR (zO (by simp [hl2]; rfl) ?_)
  simp only [zT, zB]
  refine runs_ret ?_
  refine ⟨by simp, _, by simp; rfl, [0], by simp, rfl, fun q hq b hb => ?_, by simp [keepB, keepA, looseV, looseA]⟩
  obtain rfl : q = 0 := by simp at hq; omega
  simpa [trim, tupA, rb_sl] using hb
 ·have hr1 : (l.map rS3).all (fun r => r.length == 3) = true := by simp [rS3]
  have hr2 : (l.map rS3).all (fun r => r.all storable) = true := by simp [rS3]
  have hl3 : l.length + 1 ≤ 1048576 := by simp at hl2; omega
  refine zS ?_
  refine zR (zO (by simp [↓hr1, ↓hr2, hl3, rS3]; rfl) ?_)
  simp only [zT, zB]
  refine zS ?_
  refine zS ?_
  refine zR (zO (by simp [↓hr1, ↓hr2, hl3, rS3]; rfl) ?_)
  simp only [zT, zB]
  refine runs_cond (x := false) (by simp) ?_
  refine zK ?_
  simp only [zT, zB]
  refine zS ?_
  refine zR (zO (by simp [↓hr1, ↓hr2, hl3, rS3]; rfl) ?_)
  simp only [zT, zB]
  refine runs_ret ?_
  refine ⟨by simp, _, by simp; rfl, [1], by simp, rfl, fun q hq b hb => ?_, by simp [keepB, keepA, looseV, looseA]⟩
  obtain rfl : q = 0 := by simp at hq; omega
  simpa [trim, tupA, rb_sl, rS3] using hb
noncomputable def FJA3 : Nat → Option CFn := upd FJA2 81 false (fun _ => none)
theorem FJA3_ok : TabOk Tryz.prog GG FJA3 := tab_add mixed FJA2_ok fun args v ho => by simp at ho
noncomputable def FJA4 : Nat → Option CFn := updE FJA3 81 (freshE true sClone)
theorem FJA4_ok : TabOk Tryz.prog GG FJA4 := tab_fresh2 mixed FJA3_ok fun args v hs ho => by
  unfold sClone at ho; split at ho <;> (try simp only [reduceCtorEq] at ho)
  rename_i rs tt
  split at ho <;> (try simp only [reduceCtorEq] at ho)
  rename_i ts hts
  split at ho <;> (try simp only [reduceCtorEq] at ho)
  rename_i hg
  simp only [Option.some.injEq, Prod.mk.injEq] at ho
  obtain ⟨rfl, rfl⟩ := ho
  obtain rfl : rs = ts.map rS3 := optAll_eq (enc := rS3) (fun r x h => by unfold dI3 at h; split at h <;> simp at h; subst h; rfl) hts
  exact a81 Tryz.prog FJA3 rfl ts tt hg
def oC83 : List AVal → Option AVal
  | [.int .i64 n, .pv [x] 0] => match dInts x with
    | some xs => if xs.length ≤ 1000 then some (.bool (decide (n ∈ xs))) else none
    | none => none
  | _ => none
noncomputable def FJA5 : Nat → Option CFn := upd FJA4 115 true oIx
theorem FJA5_ok : TabOk Tryz.prog GG FJA5 := tab_upd FJA4_ok ix_good
noncomputable def FJA6 : Nat → Option CFn := upd FJA5 84 true oCont
theorem FJA6_ok : TabOk Tryz.prog GG FJA6 := tab_upd FJA5_ok cont_good
theorem a83 (P : Program) (T : Nat → Option CFn) (hT : T 83 = some c83) (h84 : T 84 = some { c84 with frsh := true, orc := oCont }) (x : AVal) (xs : List Int) (hx : dInts x = some xs) (hl : xs.length ≤ 1000) (n : Int) : Answers P T 83 [I n, .pv [x] 0] [] fun v h => frz true h 5 v = some (.bool (decide (n ∈ xs))) := by
 have fx := fun H d => dInts_frz hx H d
 have hix : oCont [x, I n] = some (.bool (decide (n ∈ xs))) := by simp only [oCont, hx]; rw [if_pos hl]
 obtain ⟨cx1, cx2⟩ := dInts_cells hx
 refine answers_of hT (orcF_none rfl) ?_
 simp only [oo, om, op, og, ci, cl, c83]
 have HH1 := zA h84 (zA fx (zA hix (zA cx1 cx2)))
 refine zS ?_
 refine zR (zO (by simp [zC h84, HH1]; rfl) ?_)
 simp only [zT, zB]
 refine zS ?_
 refine zR (zO (by simp [zC h84, HH1]; rfl) ?_)
 simp only [zT, zB]
 refine runs_ret ?_
 simp [zC h84, HH1]
noncomputable def FJA : Nat → Option CFn := upd FJA6 83 true (oC83)
theorem FJA_ok : TabOk Tryz.prog GG FJA := tab_add mixed FJA6_ok fun args v ho => by
  unfold oC83 at ho; split at ho <;> (try simp only [reduceCtorEq] at ho)
  rename_i n x
  split at ho <;> (try simp only [reduceCtorEq] at ho)
  rename_i xs hx
  split at ho <;> (try simp only [reduceCtorEq] at ho)
  rename_i hl
  simp only [Option.some.injEq] at ho
  subst ho
  exact a83 Tryz.prog FJA6 rfl rfl x xs hx hl n
def ixP (B : List Int) : List Int → Int → Int
  | [], _ => -1
  | x :: l, i => if x ∈ B then i else ixP B l (i + 1)
theorem ixP_step {B xs : List Int} {k : Nat} (hk : k < xs.length) (i : Int) : ixP B (xs.drop k) i = if xs[k] ∈ B then i else ixP B (xs.drop (k + 1)) (i + 1) := by
  rw [List.drop_eq_getElem_cons hk]; rfl
def outB (B xs : List Int) : List Int := xs.filter fun x => !decide (x ∈ B)
theorem ixP_spec (B : List Int) : ∀ (xs : List Int) (i : Int), 0 ≤ i → (ixP B xs i = -1 ∧ outB B xs = xs) ∨ ∃ k : Nat, k < xs.length ∧ ixP B xs i = i + k ∧ outB B (xs.take (k + 1)) = xs.take k
  | [], i, _ => .inl ⟨rfl, rfl⟩
  | x :: l, i, hi => by
    by_cases h : x ∈ B
    · refine .inr ⟨0, by simp, by simp [ixP, h], by simp [outB, h]⟩
    · rcases ixP_spec B l (i + 1) (by omega) with ⟨h1, h2⟩ | ⟨k, h1, h2, h3⟩
      · refine .inl ⟨by simp only [ixP]; rw [if_neg h]; exact h1, ?_⟩
        unfold outB at h2 ⊢
        rw [List.filter_cons, if_pos (by simp [h]), h2]
      · refine .inr ⟨k + 1, by simpa using h1, by simp only [ixP]; rw [if_neg h, h2]; omega, ?_⟩
        unfold outB at h3 ⊢
        rw [List.take_succ_cons, List.take_succ_cons, List.filter_cons, if_pos (by simp [h]), h3]
theorem a114g (P : Program) (T : Nat → Option CFn) (hT : T 114 = some c114) (h83 : T 83 = some { c83 with frsh := true, orc := oC83 }) (H : Heap) (i b : Nat) (xs : List Int) (w_ : AVal) (B : List Int) (hw : dInts w_ = some B) (hB : B.length ≤ 1000) (hi : H[i]? = some (some (.row 1 (xs.map rI)))) (hl : xs.length ≤ 1000) (hfz : frz false H 5 (.ref b 0 0) = some (.pv [w_] 0)) : Answers P T 114 [.sl i 0 xs.length false, .fn 83 [] [.ref b 0 0]] H fun v h => v = I (ixP B xs 0) ∧ h = H := by
 have ho83 : ∀ n : Int, oC83 [I n, .pv [w_] 0] = some (.bool (decide (n ∈ B))) := fun n => by simp only [oC83, hw]; rw [if_pos hB]
 refine answers_of hT (orcF_none rfl) ?_
 simp only [oo, om, op, og, ci, cl, c114]
 refine zS ?_
 refine zR (zO (by simp [zC h83, h83, ho83, ↓hfz, hi]; rfl) ?_)
 simp only [zT, zB]
 refine zS ?_
 refine zS ?_
 refine zR (zO (by simp [zC h83, h83, ho83, ↓hfz, hi]; rfl) ?_)
 simp only [zT, zB]
 refine zL ?_
 refine runs_loop_inv (fun m σ => ∃ (k : Nat) (g : Int), g = k ∧ xs.length - k = m ∧ k ≤ xs.length ∧ ixP B (xs.drop k) g = ixP B xs 0 ∧ σ = ⟨[.sl i 0 xs.length false, .fn 83 [] [.ref b 0 0], .any, .any, .any, .any, .any, I xs.length, I g, .any, .any, .any, .any, .any, .any, .any, .any, .any, .any], H⟩) ?_ (xs.length - 0) _ ⟨0, 0, rfl, rfl, Nat.zero_le _, rfl, by simp⟩
 rintro m σ ⟨k, g, hik, rfl, hkl, hR, rfl⟩
 refine zS ?_
 refine zR (zO (by simp [zC h83, h83, ho83, ↓hfz, hi]; rfl) ?_)
 simp only [zT, zB]
 refine zS ?_
 refine runs_cond_split (x := decide (g < (xs.length : Int))) (by simp) (fun hlt => ?_) (fun hlt => ?_)
 ·have hlt := of_decide_eq_true hlt
  have hk0 : k < xs.length := by omega
  have hi0 : 0 ≤ g := by omega
  have htn : g.toNat = k := by omega
  have hgx : g < (xs.length : Int) := by omega
  have hwi : W .i64 (g + 1) = g + 1 := W_small (by omega)
  rw [ixP_step hk0] at hR
  have hge : (xs.map rI)[k]? = some [I xs[k]] := by rw [List.getElem?_map, List.getElem?_eq_getElem hk0]; rfl
  have hge2 : ∀ (h : k < (xs.map rI).length), (xs.map rI)[k]'h = [I xs[k]] := fun h => by rw [List.getElem_map]; rfl
  generalize hs : xs[k] = s at *
  have HH1 := zA h83 (zA ho83 (zA hi (zA hi0 (zA htn (zA hk0 (zA hgx (zA hwi (zA hge hge2))))))))
  refine zK ?_
  simp only [zT, zB]
  refine zS ?_
  refine zL ?_
  refine zS ?_
  refine zR (zO (by simp [zC h83, ↓hfz, HH1]; rfl) ?_)
  simp only [zT, zB]
  refine zS ?_
  refine zR (zO (by simp [zC h83, ↓hfz, HH1]; rfl) ?_)
  simp only [zT, zB]
  refine runs_cond_split (x := decide (s ∈ B)) (by simp) (fun he => ?_) (fun he => ?_)
  ·have he : s ∈ B := of_decide_eq_true he
   rw [if_pos he] at hR
   rw [← hR]
   refine zS ?_
   refine zR (zO (by simp [zC h83, ↓hfz, HH1]; rfl) ?_)
   simp only [zT, zB]
   refine runs_ret ?_
   simp [zC h83, ↓hfz, HH1, trim_same (Nat.le_refl _)]
  ·have he : ¬ s ∈ B := of_decide_eq_false he
   rw [if_neg he] at hR
   refine zK ?_
   simp only [zT, zB]
   refine zR (zO (by simp [zC h83, ↓hfz, HH1]; rfl) ?_)
   simp only [zT, zB]
   exact ⟨xs.length - (k + 1), by omega, k + 1, g + 1, by omega, rfl, by omega, hR, by simp [trim_same (Nat.le_refl _), zC h83, ↓hfz, HH1]⟩
 ·have hlt := of_decide_eq_false hlt
  obtain rfl : k = xs.length := by omega
  rw [List.drop_length] at hR
  rw [← hR]
  refine runs_exit ?_
  simp only [zT, zB, if_true, if_false, reduceIte, Nat.reduceEqDiff, Nat.succ_ne_zero, Nat.one_ne_zero, Nat.zero_ne_one]
  refine zS ?_
  refine zR (zO (by simp [zC h83, h83, ho83, ↓hfz, hi]; rfl) ?_)
  simp only [zT, zB]
  refine runs_ret ?_
  simp [zC h83, h83, ho83, ↓hfz, hi, ixP, trim_same (Nat.le_refl _)]
end
end Go.Proofs.YtjjapdagllclkaaGreat.Tab

namespace Go.Proofs.YtjjapdagllclkaaGreat.Tab
open Go Go.Abs Go.Proofs
set_option maxRecDepth 100000
set_option maxHeartbeats 4000000
set_option linter.unusedSimpArgs false
set_option linter.unusedVariables false
section
attribute [local simp] frz_int frz_bool frz_vl frz_pv frz_agg frz_tup frz_fn frz_ref frz_sl frz_nils optAll orcF rb_int rb_bool rb_agg rb_tup rb_int' rb_bool' rb_vl rb_pv rb_yld rb_nilf rb_nilp rb_nils rb_any rb_und rb_ref rb_sl rb_fn slE chunk fillA evParts evParts3 putAt List.range_succ List.range_zero List.range'_succ List.range'_zero runX_nil' unary_not evalS_pure evAll_nil evAll_cons runX_cons stepX wantedA dop CV.ev putK_eq setK_eq appK_eq fA_eq fI_eq fN_eq fRow_eq fRows_eq nth_eq Out.v putT List.replicate_succ zT zB arI pointee Abs.rowAt ldRow allV toV toC ofV ofC Builtin.min_ Builtin.min2 Builtin.max_ Builtin.max2 min_if max_if resA tupA kill trim_self trim_len trim_emp trim_nil lenA
attribute [local simp] runD_nil' runD_cons' stepD actK_eq actD clash disj masks holes maskH unmaskH diffs news eqB allB eqA ldRowN wrote toCs ofCs stA rowsV_vl rowsV_nils rowsOf dI1 dI2 dI3 dI5 elt
attribute [local simp] st_any st_und st_agg st_tup st_bool st_int st_nilp st_ref st_pv st_nils st_sl st_vl st_nilm st_mp st_fn st_nilf st_yld co_any co_und co_agg co_tup co_bool co_int co_nilp co_ref co_pv co_nils co_sl co_vl co_nilm co_mp co_fn co_nilf co_yld
attribute [local simp] callA calleeA lim lop loud rowAt
theorem set_self {α : Type} {l : List α} {i : Nat} {a : α} (h : l[i]? = some a) : l.set i a = l := by
  obtain ⟨hi, rfl⟩ := List.getElem?_eq_some_iff.1 h
  exact List.set_getElem_self hi
theorem outB_snoc {B xs : List Int} {j : Nat} (hj : j < xs.length) : outB B (xs.take (j + 1)) = outB B (xs.take j) ++ if xs[j] ∈ B then [] else [xs[j]] := by
  unfold outB
  rw [List.take_succ_eq_append_getElem hj, List.filter_append]
  congr 1
  by_cases h : xs[j] ∈ B <;> simp [h]
theorem take_setS {ys : List Int} {p : Nat} {v : Int} (hp : p < ys.length) : (ys.set p v).take (p + 1) = ys.take p ++ [v] := by
  rw [List.take_succ_eq_append_getElem (by simpa using hp), List.take_set_of_le (Nat.le_refl _)]
  simp
theorem clr_eq {ys : List Int} {p n : Nat} (hn : ys.length = n) (hp : p ≤ n) : (ys.map rI).take p ++ (List.replicate (n - p) [I 0] ++ (ys.map rI).drop (p + (n - p))) = (ys.take p ++ List.replicate (n - p) 0).map rI := by
  rw [List.drop_of_length_le (by simp; omega), List.append_nil, List.map_append, List.map_take, List.map_replicate]
  rfl
theorem a114n (P : Program) (T : Nat → Option CFn) (hT : T 114 = some c114) (H : Heap) (b : Nat) : Answers P T 114 [.nils, .fn 83 [] [.ref b 0 0]] H fun v h => v = I (-1) ∧ h = H := by
 refine answers_of hT (orcF_none rfl) ?_
 simp only [oo, om, op, og, ci, cl, c114]
 refine zS ?_
 refine zR (zO (by simp; rfl) ?_)
 simp only [zT, zB]
 refine zS ?_
 refine zS ?_
 refine zR (zO (by simp; rfl) ?_)
 simp only [zT, zB]
 refine zL ?_
 refine runs_loop_inv (fun m σ => σ = ⟨[.nils, .fn 83 [] [.ref b 0 0], .any, .any, .any, .any, .any, I 0, I 0, .any, .any, .any, .any, .any, .any, .any, .any, .any, .any], H⟩) ?_ 0 _ (by simp)
 rintro m σ rfl
 refine zS ?_
 refine zR (zO (by simp; rfl) ?_)
 simp only [zT, zB]
 refine zS ?_
 refine runs_cond (x := false) (by simp) ?_
 refine runs_exit ?_
 simp only [zT, zB, if_true, if_false, reduceIte, Nat.reduceEqDiff, Nat.succ_ne_zero, Nat.one_ne_zero, Nat.zero_ne_one]
 refine zS ?_
 refine zR (zO (by simp; rfl) ?_)
 simp only [zT, zB]
 refine runs_ret ?_
 simp [trim_same (Nat.le_refl _)]
theorem a82n (P : Program) (T : Nat → Option CFn) (hT : T 82 = some c82) (h114 : T 114 = some c114) (H : Heap) (b : Nat) : Answers P T 82 [.nils, .fn 83 [] [.ref b 0 0]] H fun v h => v = .nils ∧ h = H := by
 refine answers_of hT (orcF_none rfl) ?_
 simp only [oo, om, op, og, ci, cl, c82]
 refine zS ?_
 refine zR (zO (by simp; rfl) ?_)
 simp only [zT, zB]
 refine zS ?_
 refine zR (ops_take 2 (by simp; rfl) ?_)
 simp only [List.drop_succ_cons, List.drop_zero]
 refine ops_call (f := 114) (args := [.nils, .fn 83 [] [.ref b 0 0]]) (by simp) (by simp) (by simp) (by simp) ?_
 refine (a114n P T h114 _ b).mono ?_
 rintro v h ⟨rfl, hh⟩
 rw [hh]
 clear hh h
 refine zO (by simp; rfl) ?_
 simp only [zT, zB]
 refine zS ?_
 refine zS ?_
 refine zR (zO (by simp; rfl) ?_)
 simp only [zT, zB]
 refine runs_cond (x := true) (by simp) ?_
 refine zS ?_
 refine zR (zO (by simp; rfl) ?_)
 simp only [zT, zB]
 refine runs_ret ?_
 simp [trim_same (Nat.le_refl _)]
theorem a82 (P : Program) (T : Nat → Option CFn) (hT : T 82 = some c82) (h114 : T 114 = some c114) (h83 : T 83 = some { c83 with frsh := true, orc := oC83 }) (H : Heap) (i b : Nat) (xs : List Int) (w_ : AVal) (B : List Int) (hw : dInts w_ = some B) (hB : B.length ≤ 1000) (hi : H[i]? = some (some (.row 1 (xs.map rI)))) (hl : xs.length ≤ 1000) (hfz : ∀ X, frz false (H.set i X) 5 (.ref b 0 0) = some (.pv [w_] 0)) : Answers P T 82 [.sl i 0 xs.length false, .fn 83 [] [.ref b 0 0]] H fun v h => ∃ (zs : List Int) (m : Nat), v = .sl i 0 m false ∧ zs.take m = outB B xs ∧ m ≤ zs.length ∧ zs.length = xs.length ∧ h = H.set i (some (.row 1 (zs.map rI))) := by
 have ho83 : ∀ n : Int, oC83 [I n, .pv [w_] 0] = some (.bool (decide (n ∈ B))) := fun n => by simp only [oC83, hw]; rw [if_pos hB]
 have hil : i < H.length := (List.getElem?_eq_some_iff.1 hi).1
 have hgi : ∀ X, (H.set i X)[i]? = some X := fun X => by rw [List.getElem?_set_self hil]
 have hHs : H.set i (some (.row 1 (xs.map rI))) = H := set_self hi
 have hfz0 : frz false H 5 (.ref b 0 0) = some (.pv [w_] 0) := by have := hfz (some (.row 1 (xs.map rI))); rw [hHs] at this; exact this
 refine answers_of hT (orcF_none rfl) ?_
 simp only [oo, om, op, og, ci, cl, c82]
 refine zS ?_
 refine zR (zO (by simp; rfl) ?_)
 simp only [zT, zB]
 refine zS ?_
 refine zR (ops_take 2 (by simp; rfl) ?_)
 simp only [List.drop_succ_cons, List.drop_zero]
 refine ops_call (f := 114) (args := [.sl i 0 xs.length false, .fn 83 [] [.ref b 0 0]]) (by simp) (by simp) (by simp) (by simp) ?_
 refine (a114g P T h114 h83 _ i b xs w_ B hw hB hi hl hfz0).mono ?_
 rintro v h ⟨rfl, hh⟩
 rw [hh]
 clear hh h
 refine zO (by simp; rfl) ?_
 simp only [zT, zB]
 refine zS ?_
 refine zS ?_
 rcases ixP_spec B xs 0 (Int.le_refl _) with ⟨he, hf⟩ | ⟨k0, hk0, he, hf⟩
 ·refine zR (zO (by simp [zC h83, h83, ho83, ↓hfz, hgi, -List.map_set, -List.getElem?_map, -List.getElem_map, he]; rfl) ?_)
  simp only [zT, zB]
  refine runs_cond (x := true) (by simp) ?_
  refine zS ?_
  refine zR (zO (by simp [zC h83, h83, ho83, ↓hfz, hgi, -List.map_set, -List.getElem?_map, -List.getElem_map, he]; rfl) ?_)
  simp only [zT, zB]
  refine runs_ret ?_
  refine ⟨by simp, _, by simp; rfl, xs, xs.length, rfl, ?_, Nat.le_refl _, rfl, ?_⟩
  ·rw [List.take_length, hf]
  ·rw [hHs]; exact trim_same (Nat.le_refl _)
 ·rw [Int.zero_add] at he
  obtain ⟨q0, hq0⟩ : ∃ q : Int, q = k0 := ⟨_, rfl⟩
  rw [← hq0] at he
  have hwk : W .i64 (q0 + 1) = q0 + 1 := W_small (by omega)
  have hk1 : (q0 == -1) = false := by simp; omega
  have HH1 := zA h83 (zA ho83 (zA hgi (zA he (zA hwk hk1))))
  refine zR (zO (by simp [zC h83, ↓hfz, -List.map_set, -List.getElem?_map, -List.getElem_map, HH1]; rfl) ?_)
  simp only [zT, zB]
  refine runs_cond (x := false) (by simp [he, hk1]) ?_
  refine zK ?_
  simp only [zT, zB]
  refine zS ?_
  refine zS ?_
  refine zR (zO (by simp [zC h83, ↓hfz, -List.map_set, -List.getElem?_map, -List.getElem_map, HH1]; rfl) ?_)
  simp only [zT, zB]
  refine zL ?_
  refine runs_loop_inv (fun m σ => ∃ (j p : Nat) (g u : Int) (ys : List Int), g = j ∧ u = p ∧ xs.length - j = m ∧ p < j ∧ j ≤ xs.length ∧ ys.length = xs.length ∧ ys.take p = outB B (xs.take j) ∧ (∀ q, j ≤ q → ys[q]? = xs[q]?) ∧ σ = ⟨[.sl i 0 xs.length false, .fn 83 [] [.ref b 0 0], .any, .any, .any, I u, I g, .any, .any, .any, .any, .any, .any, .any, .any, .any, .any, .any, .any, .any, .any, .any, .any, .any, .any, .any, .any, .any, .any, .any, .any, .any, .any, .any, .any, .any, .any, .any, .any, .any, .any, .any], H.set i (some (.row 1 (ys.map rI)))⟩) ?_ (xs.length - (k0 + 1)) _ ⟨k0 + 1, k0, q0 + 1, q0, xs, by omega, hq0, rfl, by omega, by omega, rfl, hf.symm, (fun _ _ => rfl), by simp [hHs]⟩
  rintro m σ ⟨j, p, g, u, ys, hgj, huq, rfl, hpj, hjl, hyl, hpre, hrest, rfl⟩
  refine zS ?_
  refine zS ?_
  refine zR (zO (by simp [zC h83, ↓hfz, -List.map_set, -List.getElem?_map, -List.getElem_map, HH1]; rfl) ?_)
  simp only [zT, zB]
  refine runs_cond_split (x := decide (g < (xs.length : Int))) (by simp) (fun hlt => ?_) (fun hlt => ?_)
  ·have hlt := of_decide_eq_true hlt
   have hj0 : j < xs.length := by omega
   have hjy : j < ys.length := by omega
   have hg0 : 0 ≤ g := by omega
   have hgn : g.toNat = j := by omega
   have hgx : g < (xs.length : Int) := by omega
   have hp0 : p < ys.length := by omega
   have hpx : u < (xs.length : Int) := by omega
   have hu0 : 0 ≤ u := by omega
   have hun : u.toNat = p := by omega
   have hpx2 : p < xs.length := by omega
   have hwi : W .i64 (g + 1) = g + 1 := W_small (by omega)
   have hwp : W .i64 (u + 1) = u + 1 := W_small (by omega)
   have hyj : ys[j] = xs[j] := by
    have := hrest j (Nat.le_refl _)
    rw [List.getElem?_eq_getElem hjy, List.getElem?_eq_getElem hj0] at this
    exact Option.some.inj this
   have hsn := outB_snoc (B := B) hj0
   have hge : (ys.map rI)[j]? = some [I xs[j]] := by rw [List.getElem?_map, List.getElem?_eq_getElem hjy, hyj]; rfl
   have hge2 : ∀ (h : j < (ys.map rI).length), (ys.map rI)[j]'h = [I xs[j]] := fun h => by rw [List.getElem_map, hyj]; rfl
   have hgp : (ys.map rI)[p]? = some [I ys[p]] := by rw [List.getElem?_map, List.getElem?_eq_getElem hp0]; rfl
   have hgp2 : ∀ (h : p < (ys.map rI).length), (ys.map rI)[p]'h = [I ys[p]] := fun h => by rw [List.getElem_map]; rfl
   generalize hs : xs[j] = s at *
   have hset : (ys.map rI).set p [I s] = (ys.set p s).map rI := by rw [List.map_set]; rfl
   have HH2 := zA hg0 (zA hgn (zA hgx (zA hj0 (zA hjy (zA hp0 (zA hpx (zA hu0 (zA hun (zA hpx2 (zA hwi (zA hwp (zA hge (zA hge2 (zA hgp (zA hgp2 hyl)))))))))))))))
   refine zK ?_
   simp only [zT, zB]
   refine zS ?_
   refine zL ?_
   refine zS ?_
   refine zR (zO (by simp [zC h83, ↓hfz, -List.map_set, -List.getElem?_map, -List.getElem_map, HH1, ↓hset, HH2]; rfl) ?_)
   simp only [zT, zB]
   refine zS ?_
   refine zR (zO (by simp [zC h83, ↓hfz, -List.map_set, -List.getElem?_map, -List.getElem_map, HH1, ↓hset, HH2]; rfl) ?_)
   simp only [zT, zB]
   rcases hd0 : decide (s ∈ B) with _ | _
   ·refine runs_cond (x := true) (by simp) ?_
    have hd : ¬ s ∈ B := of_decide_eq_false hd0
    rw [if_neg hd] at hsn
    refine zS ?_
    refine zR (zO (by simp [zC h83, ↓hfz, -List.map_set, -List.getElem?_map, -List.getElem_map, HH1, ↓hset, HH2, hd0]; rfl) ?_)
    simp only [zT, zB]
    refine zR (zO (by simp [zC h83, ↓hfz, -List.map_set, -List.getElem?_map, -List.getElem_map, HH1, ↓hset, HH2, hd0]; rfl) ?_)
    simp only [zT, zB]
    refine zR (zO (by simp [zC h83, ↓hfz, -List.map_set, -List.getElem?_map, -List.getElem_map, HH1, ↓hset, HH2, hd0]; rfl) ?_)
    simp only [zT, zB]
    exact ⟨xs.length - (j + 1), by omega, j + 1, p + 1, g + 1, u + 1, ys.set p s, by omega, by omega, rfl, by omega, by omega, by rw [List.length_set]; exact hyl, by rw [take_setS hp0, hsn, hpre], (fun q hq => by rw [List.getElem?_set_ne (by omega)]; exact hrest q (by omega)), by simp [trim_same (Nat.le_refl _), zC h83, ↓hfz, -List.map_set, -List.getElem?_map, -List.getElem_map, HH1, ↓hset, HH2, hd0]⟩
   ·refine runs_cond (x := false) (by simp) ?_
    have hd : s ∈ B := of_decide_eq_true hd0
    rw [if_pos hd, List.append_nil] at hsn
    refine zK ?_
    simp only [zT, zB]
    refine zR (zO (by simp [zC h83, ↓hfz, -List.map_set, -List.getElem?_map, -List.getElem_map, HH1, ↓hset, HH2, hd0]; rfl) ?_)
    simp only [zT, zB]
    exact ⟨xs.length - (j + 1), by omega, j + 1, p, g + 1, u, ys, by omega, huq, rfl, by omega, by omega, hyl, by rw [hsn, hpre], (fun q hq => hrest q (by omega)), by simp [trim_same (Nat.le_refl _), zC h83, ↓hfz, -List.map_set, -List.getElem?_map, -List.getElem_map, HH1, ↓hset, HH2, hd0]⟩
  ·have hlt := of_decide_eq_false hlt
   obtain rfl : j = xs.length := by omega
   rw [List.take_length] at hpre
   have hpx : u ≤ (xs.length : Int) := by omega
   have hpx2 : p ≤ xs.length := by omega
   have hpp : (0 : Int) ≤ u := by omega
   have hun : u.toNat = p := by omega
   have hcl := clr_eq (ys := ys) (p := p) hyl (by omega)
   have hnp : ¬ xs.length - p = 0 := by omega
   have hle : p + (xs.length - p) ≤ xs.length := by omega
   have HH3 := zA hpx (zA hpx2 (zA hpp (zA hun (zA hnp (zA hle hyl)))))
   refine runs_exit ?_
   simp only [zT, zB, if_true, if_false, reduceIte, Nat.reduceEqDiff, Nat.succ_ne_zero, Nat.one_ne_zero, Nat.zero_ne_one]
   refine zS ?_
   refine zR (zO (by simp [zC h83, ↓hfz, -List.map_set, -List.getElem?_map, -List.getElem_map, HH1, evOpt, sliceA, bounds, hiB, bound, ↓hcl, HH3]; rfl) ?_)
   simp only [zT, zB]
   refine zS ?_
   refine zR (zO (by simp [zC h83, ↓hfz, -List.map_set, -List.getElem?_map, -List.getElem_map, HH1, evOpt, sliceA, bounds, hiB, bound, ↓hcl, HH3]; rfl) ?_)
   simp only [zT, zB]
   refine runs_ret ?_
   refine ⟨by simp, _, by simp; rfl, ys.take p ++ List.replicate (xs.length - p) 0, p, rfl, ?_, ?_, ?_, ?_⟩
   ·rw [List.take_append_of_le_length (by rw [List.length_take]; omega), List.take_take, Nat.min_self, hpre]
   ·rw [List.length_append, List.length_take, List.length_replicate]; omega
   ·rw [List.length_append, List.length_take, List.length_replicate]; omega
   ·show trim _ _ (H.set i (some (.row 1 ((ys.map rI).take p ++ List.replicate (xs.length - p) (rI 0))))) = _
    rw [show (ys.map rI).take p ++ List.replicate (xs.length - p) (rI 0) = (ys.take p ++ List.replicate (xs.length - p) 0).map rI by rw [List.map_append, List.map_take, List.map_replicate]]
    exact trim_same (Nat.le_of_eq (List.length_set ..))
end
end Go.Proofs.YtjjapdagllclkaaGreat.Tab

namespace Go.Proofs.YtjjapdagllclkaaGreat.Tab
open Go Go.Abs Go.Proofs
set_option maxRecDepth 100000
set_option maxHeartbeats 4000000
set_option linter.unusedSimpArgs false
set_option linter.unusedVariables false
section
attribute [local simp] frz_int frz_bool frz_vl frz_pv frz_agg frz_tup frz_fn frz_ref frz_sl frz_nils optAll orcF rb_int rb_bool rb_agg rb_tup rb_int' rb_bool' rb_vl rb_pv rb_yld rb_nilf rb_nilp rb_nils rb_any rb_und rb_ref rb_sl rb_fn slE chunk fillA evParts evParts3 putAt List.range_succ List.range_zero List.range'_succ List.range'_zero runX_nil' unary_not evalS_pure evAll_nil evAll_cons runX_cons stepX wantedA dop CV.ev putK_eq setK_eq appK_eq fA_eq fI_eq fN_eq fRow_eq fRows_eq nth_eq Out.v putT List.replicate_succ zT zB arI pointee Abs.rowAt ldRow allV toV toC ofV ofC Builtin.min_ Builtin.min2 Builtin.max_ Builtin.max2 min_if max_if resA tupA kill trim_self trim_len trim_emp trim_nil lenA
attribute [local simp] runD_nil' runD_cons' stepD actK_eq actD clash disj masks holes maskH unmaskH diffs news eqB allB eqA ldRowN wrote toCs ofCs stA rowsV_vl rowsV_nils rowsOf dI1 dI2 dI3 dI5 elt
attribute [local simp] st_any st_und st_agg st_tup st_bool st_int st_nilp st_ref st_pv st_nils st_sl st_vl st_nilm st_mp st_fn st_nilf st_yld co_any co_und co_agg co_tup co_bool co_int co_nilp co_ref co_pv co_nils co_sl co_vl co_nilm co_mp co_fn co_nilf co_yld
attribute [local simp] callA calleeA lim lop loud putH rowAt setH
theorem stop_in {m a f u : Int} (h : stopOk m (a, f, u) = true) : (0 ≤ a ∧ a < m) ∧ (0 ≤ f ∧ f ≤ 100000) ∧ (0 ≤ u ∧ u ≤ 100000) ∧ f < u := by
  simp only [stopOk, inI, wB, List.all_cons, List.all_nil, Bool.and_true, Bool.and_eq_true, decide_eq_true_eq] at h
  omega
theorem shop_more {s : FShop} {js : List FJob} (h : ShopOk s js) (h10 : ¬ s.stops.length = 10) {a f u : Int} (hs : stopOk s.mach (a, f, u) = true) : ShopOk ⟨s.mach, s.chg, s.stops ++ [(a, f, u)]⟩ js :=
  ⟨h.mach, h.kinds, h.chg, by have := h.nst; simp only [List.length_append, List.length_cons, List.length_nil]; omega, fun x hx => by
    rcases List.mem_append.1 hx with hx | hx
    · exact h.stop x hx
    · rw [List.mem_singleton] at hx; subst hx; exact stop_in hs, h.njob, h.job⟩
noncomputable def brkE (s : FShop) (js : List FJob) (os : List Int) (st : FStop) : Int := if ordE s js os = 0 then (if s.stops.length = 10 then 5 else if stopOk s.mach st = true then 0 else 3) else ordE s js os
noncomputable def lateS (s : FShop) (js : List FJob) (os : List Int) : List Int := lateL (runF s js os).ends js js.length
def moreS (s : FShop) (st : FStop) : FShop := ⟨s.mach, s.chg, s.stops ++ [st]⟩
def delV (B L : List Int) : AVal := match L with | [] => .nils | _ :: _ => .vl ((outB B L).map rI) false
theorem delV_ne {B L : List Int} (h : L ≠ []) : delV B L = .vl ((outB B L).map rI) false := by cases L with | nil => exact absurd rfl h | cons x l => rfl
noncomputable def brkV (s : FShop) (js : List FJob) (os : List Int) (st : FStop) : AVal := if brkE s js os st = 0 then delV (lateS s js os) (lateS (moreS s st) js os) else .nils
noncomputable def oBreak : List AVal → Option AVal
  | [.agg [.int .i64 m, c, .vl rs _], j, o, .agg [.int .i64 a, .int .i64 f, .int .i64 u]] => match dInts2 c, optAll dI3 rs, dJobs j, dInts o with
    | some cs, some ts, some js, some os => if sizeOk ⟨m, cs, ts⟩ js = true ∧ os.length ≤ 100 then some (.tup [brkV ⟨m, cs, ts⟩ js os (a, f, u), I (brkE ⟨m, cs, ts⟩ js os (a, f, u))]) else none
    | _, _, _, _ => none
  | _ => none
theorem dI3_all (ts : List FStop) : optAll dI3 (ts.map rS3) = some ts := optAll_map (d := dI3) (enc := rS3) (fun _ => rfl) ts
theorem break_eq {s : FShop} {js : List FJob} {c j o : AVal} {os : List Int} {tt : Bool} (hc : dInts2 c = some s.chg) (hj : dJobs j = some js) (ho : dInts o = some os) (hz : SizeOk s js) (hl : os.length ≤ 100) (a f u : Int) : oBreak [.agg [I s.mach, c, .vl (s.stops.map rS3) tt], j, o, .agg [I a, I f, I u]] = some (.tup [brkV s js os (a, f, u), I (brkE s js os (a, f, u))]) := by
  simp only [oBreak, hc, dI3_all, hj, ho]
  rw [if_pos ⟨size_ok.2 hz, hl⟩]
theorem sClone_eq {ts : List FStop} {tt : Bool} (h : ts.length ≤ 1000) : sClone [.vl (ts.map rS3) tt] = some (.sl 0 0 ts.length false, [some (.row 3 (ts.map rS3))]) := by
  simp only [sClone, dI3_all]
  rw [if_pos h]
theorem frz_box {H : Heap} {p q : Nat} {B : List Int} (h4 : H[q]? = some (some (.row 1 [[lstP p B]]))) (h3 : H[p]? = some (lstB B)) (d : Nat) : frz false H (d + 3) (.ref q 0 0) = some (.pv [encV B] 0) := by
  rw [frz_ref]
  simp [h4, lstP_frz B h3]
theorem a35 (P : Program) (T : Nat → Option CFn) (hT : T 35 = some c35) (h61 : T 61 = some { c61 with frsh := false, orc := oOO }) (h80 : T 80 = some { c80 with frsh := true, orc := oStop }) (h64 : T 64 = some { c64 with body := annK [(7188, [.slot 4])] [] c64.body, frsh := false, orc := fun _ => none, eff := freshE true sLate }) (h81 : T 81 = some { c81 with frsh := false, orc := fun _ => none, eff := freshE true sClone }) (h82 : T 82 = some c82) (h114 : T 114 = some c114) (h83 : T 83 = some { c83 with frsh := true, orc := oC83 }) (s : FShop) (js : List FJob) (c t j : AVal) (hc : dInts2 c = some s.chg) (ht : dStops t = some s.stops) (hj : dJobs j = some js) (o : AVal) (os : List Int) (ho : dInts o = some os) (hz : SizeOk s js ∧ os.length ≤ 100) (tt : Bool) (hte : t = .vl (s.stops.map rS3) tt) (a1 f1 u1 : Int) : Answers P T 35 [.agg [I s.mach, c, t], j, o, .agg [I a1, I f1, I u1]] [] fun v h => frz true h 5 v = some (.tup [brkV s js os (a1, f1, u1), I (brkE s js os (a1, f1, u1))]) := by
 have fc := fun H d => dInts2_frz hc H d
 have ft := fun H d => dStops_frz ht H d
 have fj := fun H d => dJobs_frz hj H d
 have rc := fun n d => dInts2_rb hc n d
 have rt := fun n d => dStops_rb ht n d
 have rj := fun n d => dJobs_rb hj n d
 have lc := dInts2_len hc
 have lt := dStops_len ht
 have lj := dJobs_len hj
 obtain ⟨cc1, cc2⟩ := dInts2_cells hc
 obtain ⟨ct1, ct2⟩ := dStops_cells ht
 obtain ⟨cj1, cj2⟩ := dJobs_cells hj
 have fo := fun H d => dInts_frz ho H d
 have ro := fun n d => dInts_rb ho n d
 have lo := dInts_len ho
 obtain ⟨co1, co2⟩ := dInts_cells ho
 obtain ⟨hz1, hz2⟩ := hz
 have hop := oo_eq hc ht hj ho hz1 hz2
 rw [ordE_eq] at hop
 have hsto : s.mach ≤ 1000000 → -1000000 ≤ s.mach → oStop [.agg [I s.mach, c, t], .agg [I a1, I f1, I u1]] = some (.bool (stopOk s.mach (a1, f1, u1))) := fun h1 h2 => by
  obtain ⟨rsc, h3, _⟩ := dInts2_rows hc
  simp only [oStop, h3, dStops_rows ht]
  rw [if_pos ⟨h2, h1⟩]
 unfold brkV
 refine answers_of hT (orcF_none rfl) ?_
 simp only [oo, om, op, og, ci, cl, c35]
 by_cases h0 : ordE s js os = 0
 ·have h1 := ordE_ne h0
  have hg := ordE_run h0
  have hsh := hg.1
  have hmach := hsh.mach
  have hsto2 := hsto (by omega) (by omega)
  by_cases h10 : s.stops.length = 10
  ·have hbe : brkE s js os (a1, f1, u1) = 5 := by unfold brkE; rw [if_pos h0, if_pos h10]
   rw [hbe]
   have HH1 := zA h61 (zA h80 (zA h64 (zA h81 (zA fc (zA ft (zA fj (zA rc (zA rt (zA rj (zA lc (zA lt (zA lj (zA cc1 (zA cc2 (zA ct1 (zA ct2 (zA cj1 (zA cj2 (zA fo (zA ro (zA lo (zA co1 (zA co2 (zA hop (zA h0 (zA h1 (zA hsto2 h10)))))))))))))))))))))))))))
   refine zS ?_
   refine zR (zO (by simp [zC h61, zC h80, callF_eff h64 rfl, ↓orc_nil, freshE, backB, backB1, okA, okBlk, plainA, callF_eff h81 rfl, -lenA, HH1]; rfl) ?_)
   simp only [zT, zB]
   refine zS ?_
   refine zR (zO (by simp [zC h61, zC h80, callF_eff h64 rfl, ↓orc_nil, freshE, backB, backB1, okA, okBlk, plainA, callF_eff h81 rfl, -lenA, HH1]; rfl) ?_)
   simp only [zT, zB]
   refine zS ?_
   refine zL ?_
   refine zS ?_
   refine zR (zO (by simp [zC h61, zC h80, callF_eff h64 rfl, ↓orc_nil, freshE, backB, backB1, okA, okBlk, plainA, callF_eff h81 rfl, -lenA, HH1]; rfl) ?_)
   simp only [zT, zB]
   refine runs_cond (x := false) (by simp) ?_
   refine zS ?_
   refine zR (zO (by simp [zC h61, zC h80, callF_eff h64 rfl, ↓orc_nil, freshE, backB, backB1, okA, okBlk, plainA, callF_eff h81 rfl, -lenA, HH1]; rfl) ?_)
   simp only [zT, zB]
   refine runs_cond (x := true) (by simp [h10]) ?_
   refine zS ?_
   refine zR (zO (by simp [zC h61, zC h80, callF_eff h64 rfl, ↓orc_nil, freshE, backB, backB1, okA, okBlk, plainA, callF_eff h81 rfl, -lenA, HH1]; rfl) ?_)
   simp only [zT, zB]
   refine runs_ret ?_
   simp [zC h61, zC h80, callF_eff h64 rfl, ↓orc_nil, freshE, backB, backB1, okA, okBlk, plainA, callF_eff h81 rfl, -lenA, HH1, trim]
  ·have h10i : ((s.stops.length : Int) == 10) = false := by simp; omega
   rcases hso : stopOk s.mach (a1, f1, u1) with _ | _
   ·have hbe : brkE s js os (a1, f1, u1) = 3 := by unfold brkE; rw [if_pos h0, if_neg h10, if_neg (by rw [hso]; simp)]
    rw [hbe]
    have HH2 := zA h61 (zA h80 (zA h64 (zA h81 (zA fc (zA ft (zA fj (zA rc (zA rt (zA rj (zA lc (zA lt (zA lj (zA cc1 (zA cc2 (zA ct1 (zA ct2 (zA cj1 (zA cj2 (zA fo (zA ro (zA lo (zA co1 (zA co2 (zA hop (zA h0 (zA h1 (zA hsto2 (zA h10i hso))))))))))))))))))))))))))))
    refine zS ?_
    refine zR (zO (by simp [zC h61, zC h80, callF_eff h64 rfl, ↓orc_nil, freshE, backB, backB1, okA, okBlk, plainA, callF_eff h81 rfl, -lenA, HH2]; rfl) ?_)
    simp only [zT, zB]
    refine zS ?_
    refine zR (zO (by simp [zC h61, zC h80, callF_eff h64 rfl, ↓orc_nil, freshE, backB, backB1, okA, okBlk, plainA, callF_eff h81 rfl, -lenA, HH2]; rfl) ?_)
    simp only [zT, zB]
    refine zS ?_
    refine zL ?_
    refine zS ?_
    refine zR (zO (by simp [zC h61, zC h80, callF_eff h64 rfl, ↓orc_nil, freshE, backB, backB1, okA, okBlk, plainA, callF_eff h81 rfl, -lenA, HH2]; rfl) ?_)
    simp only [zT, zB]
    refine runs_cond (x := false) (by simp) ?_
    refine zS ?_
    refine zR (zO (by simp [zC h61, zC h80, callF_eff h64 rfl, ↓orc_nil, freshE, backB, backB1, okA, okBlk, plainA, callF_eff h81 rfl, -lenA, HH2]; rfl) ?_)
    simp only [zT, zB]
    refine runs_cond (x := false) (by simp [h10i]) ?_
    refine zS ?_
    refine zR (zO (by simp [zC h61, zC h80, callF_eff h64 rfl, ↓orc_nil, freshE, backB, backB1, okA, okBlk, plainA, callF_eff h81 rfl, -lenA, HH2]; rfl) ?_)
    simp only [zT, zB]
    refine runs_cond (x := true) (by simp) ?_
    refine zS ?_
    refine zR (zO (by simp [zC h61, zC h80, callF_eff h64 rfl, ↓orc_nil, freshE, backB, backB1, okA, okBlk, plainA, callF_eff h81 rfl, -lenA, HH2]; rfl) ?_)
    simp only [zT, zB]
    refine runs_ret ?_
    simp [zC h61, zC h80, callF_eff h64 rfl, ↓orc_nil, freshE, backB, backB1, okA, okBlk, plainA, callF_eff h81 rfl, -lenA, HH2, trim]
   ·have hbe : brkE s js os (a1, f1, u1) = 0 := by unfold brkE; rw [if_pos h0, if_neg h10, if_pos hso]
    rw [hbe, if_pos rfl]
    have hg2 : ShopOk (moreS s (a1, f1, u1)) js ∧ OrdOk js os := ⟨shop_more hsh h10 hso, hg.2⟩
    have hL1 := sLate_eq hc ht hj ho hg
    obtain ⟨T2, hT2⟩ : ∃ T2, T2 = s.stops ++ [(a1, f1, u1)] := ⟨_, rfl⟩
    have hap : s.stops.map rS3 ++ [[I a1, I f1, I u1]] = T2.map rS3 := by rw [hT2, List.map_append]; rfl
    have hT2l : T2.length = s.stops.length + 1 := by rw [hT2, List.length_append]; rfl
    have ht2 : dStops (.vl (T2.map rS3) false) = some (moreS s (a1, f1, u1)).stops := by unfold dStops; show optAll dI3 (T2.map rS3) = _; rw [dI3_all, hT2]; rfl
    have hL2 := sLate_eq (s := moreS s (a1, f1, u1)) hc ht2 hj ho hg2
    change sLate [.agg [I s.mach, c, .vl (T2.map rS3) false, j], o] = _ at hL2
    rw [show lateL (runF s js os).ends js js.length = lateS s js os from rfl] at hL1
    rw [show lateL (runF (moreS s (a1, f1, u1)) js os).ends js js.length = lateS (moreS s (a1, f1, u1)) js os from rfl] at hL2
    have hB6 : (lateS s js os).length ≤ 6 := by have := lateL_len (runF s js os).ends js js.length; have := hsh.njob; unfold lateS; omega
    have hC6 : (lateS (moreS s (a1, f1, u1)) js os).length ≤ 6 := by have := lateL_len (runF (moreS s (a1, f1, u1)) js os).ends js js.length; have := hsh.njob; unfold lateS; omega
    generalize lateS s js os = B at *
    generalize lateS (moreS s (a1, f1, u1)) js os = L at *
    have hcl := sClone_eq (ts := s.stops) (tt := tt) (by have := hsh.nst; omega)
    have tkS : (s.stops.map rS3).take s.stops.length = s.stops.map rS3 := List.take_of_length_le (by simp)
    have hS3 : ((s.stops.map rS3).all fun r => r.length == 3) = true := by simp [rS3]
    have hSl : s.stops.length + 1 ≤ 1048576 := by have := hsh.nst; omega
    have fzS := fun nv H d => frz_mapT nv H d T2
    have rbS := fun n => rS3_rb n 4 T2
    have rbS1 := fun n => rS3_rb n 4 s.stops
    have tkT : (T2.map rS3).take (s.stops.length + 1) = T2.map rS3 := List.take_of_length_le (by simp [hT2l])
    have okSt : ((s.stops.map rS3).all fun x => x.all (okA true)) = true := by simp [rS3, okA, plainA]
    have bk : ∀ p, backB true (List.range' p [lstB B].length) (lstA B) = some (lstP p B) := fun p => lst_back p B
    have bk2 : ∀ p, backB true (List.range' p [lstB L].length) (lstA L) = some (lstP p L) := fun p => lst_back p L
    have ok2 := lstB_ok L
    have eq2 := lstB_eq L
    have ok1 := lstB_ok B
    have eq1 := lstB_eq B
    have stB := fun p => (lstP_st p B).1
    have ceB := fun p => (lstP_st p B).2.1
    have rbB1 := fun n => lstB_rb n B
    have rbP := fun (p n : Nat) (h : p < n) (d : Nat) => lstP_rb h d B
    subst hte
    have HH3 := zA h61 (zA h80 (zA h64 (zA h81 (zA fc (zA ft (zA fj (zA rc (zA rt (zA rj (zA lc (zA lt (zA lj (zA cc1 (zA cc2 (zA ct1 (zA ct2 (zA cj1 (zA cj2 (zA fo (zA ro (zA lo (zA co1 (zA co2 (zA hop (zA h0 (zA h1 (zA hsto2 (zA h10i (zA hso (zA hL1 (zA hL2 (zA hcl (zA hSl (zA eq1 (zA eq2 (zA stB (zA ceB (zA rbB1 (zA rbP hT2l)))))))))))))))))))))))))))))))))))))))
    have HH4 := zA hap (zA tkS (zA hS3 (zA fzS (zA rbS1 (zA tkT (zA okSt (zA bk (zA ok1 (zA bk2 ok2)))))))))
    refine zS ?_
    refine zR (zO (by simp [zC h61, zC h80, callF_eff h64 rfl, ↓orc_nil, freshE, backB, backB1, okA, okBlk, plainA, callF_eff h81 rfl, -lenA, ↓rbS, HH3, ↓HH4]; rfl) ?_)
    simp only [zT, zB]
    refine zS ?_
    refine zR (zO (by simp [zC h61, zC h80, callF_eff h64 rfl, ↓orc_nil, freshE, backB, backB1, okA, okBlk, plainA, callF_eff h81 rfl, -lenA, ↓rbS, HH3, ↓HH4]; rfl) ?_)
    simp only [zT, zB]
    refine zS ?_
    refine zL ?_
    refine zS ?_
    refine zR (zO (by simp [zC h61, zC h80, callF_eff h64 rfl, ↓orc_nil, freshE, backB, backB1, okA, okBlk, plainA, callF_eff h81 rfl, -lenA, ↓rbS, HH3, ↓HH4]; rfl) ?_)
    simp only [zT, zB]
    refine runs_cond (x := false) (by simp) ?_
    refine zS ?_
    refine zR (zO (by simp [zC h61, zC h80, callF_eff h64 rfl, ↓orc_nil, freshE, backB, backB1, okA, okBlk, plainA, callF_eff h81 rfl, -lenA, ↓rbS, HH3, ↓HH4]; rfl) ?_)
    simp only [zT, zB]
    refine runs_cond (x := false) (by simp [h10i]) ?_
    refine zS ?_
    refine zR (zO (by simp [zC h61, zC h80, callF_eff h64 rfl, ↓orc_nil, freshE, backB, backB1, okA, okBlk, plainA, callF_eff h81 rfl, -lenA, ↓rbS, HH3, ↓HH4]; rfl) ?_)
    simp only [zT, zB]
    refine runs_cond (x := false) (by simp) ?_
    refine zK ?_
    simp only [zT, zB]
    refine zS ?_
    refine zR (zO (by simp [zC h61, zC h80, callF_eff h64 rfl, ↓orc_nil, freshE, backB, backB1, okA, okBlk, plainA, callF_eff h81 rfl, -lenA, ↓rbS, HH3, ↓HH4]; rfl) ?_)
    simp only [zT, zB]
    refine zS ?_
    refine runs_drw (by simp (maxSteps := 3000000) [zC h61, zC h80, callF_eff h64 rfl, ↓orc_nil, freshE, backB, backB1, okA, okBlk, plainA, callF_eff h81 rfl, -lenA, ↓rbS, HH3, ↓HH4]; rfl) ?_
    simp only [zT, zB]
    refine zS ?_
    by_cases hLe : L = []
    ·have e1 : lstP 16 L = .nils := by rw [hLe]; rfl
     have e2 : lstB L = none := by rw [hLe]; rfl
     rw [show delV B L = .nils by rw [hLe]; rfl]
     refine zR (ops_take 4 (by simp [zC h61, zC h80, callF_eff h64 rfl, ↓orc_nil, freshE, backB, backB1, okA, okBlk, plainA, callF_eff h81 rfl, -lenA, ↓rbS, HH3, ↓HH4]; rfl) ?_)
     simp only [List.drop_succ_cons, List.drop_zero]
     refine ops_call (f := 82) (args := [.nils, .fn 83 [] [.ref 4 0 0]]) (by simp [e1]) (by simp [e1]) (by simp [e1]) (by simp [e1]) ?_
     refine (a82n P T h82 h114 _ 4).mono ?_
     rintro v h ⟨hv, hh⟩
     rw [hv, hh]
     clear hv hh h v
     refine zO (by simp; rfl) ?_
     simp only [zT, zB]
     refine runs_ret ?_
     simp [zC h61, zC h80, callF_eff h64 rfl, ↓orc_nil, freshE, backB, backB1, okA, okBlk, plainA, callF_eff h81 rfl, -lenA, ↓rbS, HH3, ↓HH4, trim]
    ·rw [delV_ne hLe]
     have e1 := lstP_ne (p := 16) hLe
     have e2 := lstB_ne hLe
     refine zR (ops_take 4 (by simp [zC h61, zC h80, callF_eff h64 rfl, ↓orc_nil, freshE, backB, backB1, okA, okBlk, plainA, callF_eff h81 rfl, -lenA, ↓rbS, HH3, ↓HH4]; rfl) ?_)
     simp only [List.drop_succ_cons, List.drop_zero]
     refine ops_call (f := 82) (args := [.sl 16 0 L.length false, .fn 83 [] [.ref 4 0 0]]) (by simp [e1]) (by simp [e1]) (by simp [e1]) (by simp [e1]) ?_
     refine (a82 P T h82 h114 h83 _ 16 4 L (encV B) B (dInts_encV B) (by omega) (by simp [e2]) (by omega) (fun X => frz_box (p := 3) (by simp) (by simp) 2)).mono ?_
     rintro v h ⟨zs, m, hv, hz, hm1, hm2, hh⟩
     rw [hv, hh]
     clear hv hh h v
     refine zO (by simp; rfl) ?_
     simp only [zT, zB]
     have tkm : (zs.map rI).take m = (outB B L).map rI := by rw [← List.map_take, hz]
     refine runs_ret ?_
     simp [↓tkm, hm1, frz_mapI, trim]
 ·have hbe : brkE s js os (a1, f1, u1) = ordE s js os := by unfold brkE; rw [if_neg h0]
  rw [hbe]
  by_cases h1 : shopE s js = 0
  ·have HH5 := zA h61 (zA h80 (zA h64 (zA h81 (zA fc (zA ft (zA fj (zA rc (zA rt (zA rj (zA lc (zA lt (zA lj (zA cc1 (zA cc2 (zA ct1 (zA ct2 (zA cj1 (zA cj2 (zA fo (zA ro (zA lo (zA co1 (zA co2 (zA hop (zA h0 h1)))))))))))))))))))))))))
   refine zS ?_
   refine zR (zO (by simp [zC h61, zC h80, callF_eff h64 rfl, ↓orc_nil, freshE, backB, backB1, okA, okBlk, plainA, callF_eff h81 rfl, -lenA, zWork, HH5]; rfl) ?_)
   simp only [zT, zB]
   refine zS ?_
   refine zR (zO (by simp [zC h61, zC h80, callF_eff h64 rfl, ↓orc_nil, freshE, backB, backB1, okA, okBlk, plainA, callF_eff h81 rfl, -lenA, zWork, HH5]; rfl) ?_)
   simp only [zT, zB]
   refine zS ?_
   refine zL ?_
   refine zS ?_
   refine zR (zO (by simp [zC h61, zC h80, callF_eff h64 rfl, ↓orc_nil, freshE, backB, backB1, okA, okBlk, plainA, callF_eff h81 rfl, -lenA, zWork, HH5]; rfl) ?_)
   simp only [zT, zB]
   refine runs_cond (x := true) (by simp [h0]) ?_
   refine zS ?_
   refine zR (zO (by simp [zC h61, zC h80, callF_eff h64 rfl, ↓orc_nil, freshE, backB, backB1, okA, okBlk, plainA, callF_eff h81 rfl, -lenA, zWork, HH5]; rfl) ?_)
   simp only [zT, zB]
   refine runs_ret ?_
   simp [zC h61, zC h80, callF_eff h64 rfl, ↓orc_nil, freshE, backB, backB1, okA, okBlk, plainA, callF_eff h81 rfl, -lenA, zWork, HH5, trim]
  ·have HH6 := zA h61 (zA h80 (zA h64 (zA h81 (zA fc (zA ft (zA fj (zA rc (zA rt (zA rj (zA lc (zA lt (zA lj (zA cc1 (zA cc2 (zA ct1 (zA ct2 (zA cj1 (zA cj2 (zA fo (zA ro (zA lo (zA co1 (zA co2 (zA hop (zA h0 h1)))))))))))))))))))))))))
   refine zS ?_
   refine zR (zO (by simp [zC h61, zC h80, callF_eff h64 rfl, ↓orc_nil, freshE, backB, backB1, okA, okBlk, plainA, callF_eff h81 rfl, -lenA, zWork, HH6]; rfl) ?_)
   simp only [zT, zB]
   refine zS ?_
   refine zR (zO (by simp [zC h61, zC h80, callF_eff h64 rfl, ↓orc_nil, freshE, backB, backB1, okA, okBlk, plainA, callF_eff h81 rfl, -lenA, zWork, HH6]; rfl) ?_)
   simp only [zT, zB]
   refine zS ?_
   refine zL ?_
   refine zS ?_
   refine zR (zO (by simp [zC h61, zC h80, callF_eff h64 rfl, ↓orc_nil, freshE, backB, backB1, okA, okBlk, plainA, callF_eff h81 rfl, -lenA, zWork, HH6]; rfl) ?_)
   simp only [zT, zB]
   refine runs_cond (x := true) (by simp [h0]) ?_
   refine zS ?_
   refine zR (zO (by simp [zC h61, zC h80, callF_eff h64 rfl, ↓orc_nil, freshE, backB, backB1, okA, okBlk, plainA, callF_eff h81 rfl, -lenA, zWork, HH6]; rfl) ?_)
   simp only [zT, zB]
   refine runs_ret ?_
   simp [zC h61, zC h80, callF_eff h64 rfl, ↓orc_nil, freshE, backB, backB1, okA, okBlk, plainA, callF_eff h81 rfl, -lenA, zWork, HH6, trim]
end
end Go.Proofs.YtjjapdagllclkaaGreat.Tab

namespace Go.Proofs.YtjjapdagllclkaaGreat.Tab
open Go Go.Abs Go.Proofs
set_option maxRecDepth 100000
set_option maxHeartbeats 4000000
set_option linter.unusedSimpArgs false
set_option linter.unusedVariables false
section
attribute [local simp] frz_int frz_bool frz_vl frz_pv frz_agg frz_tup frz_fn frz_ref frz_sl frz_nils optAll orcF rb_int rb_bool rb_agg rb_tup rb_int' rb_bool' rb_vl rb_pv rb_yld rb_nilf rb_nilp rb_nils rb_any rb_und rb_ref rb_sl rb_fn slE chunk fillA evParts evParts3 putAt List.range_succ List.range_zero List.range'_succ List.range'_zero runX_nil' unary_not evalS_pure evAll_nil evAll_cons runX_cons stepX wantedA dop CV.ev putK_eq setK_eq appK_eq fA_eq fI_eq fN_eq fRow_eq fRows_eq nth_eq Out.v putT List.replicate_succ zT zB arI pointee Abs.rowAt ldRow allV toV toC ofV ofC Builtin.min_ Builtin.min2 Builtin.max_ Builtin.max2 min_if max_if resA tupA kill trim_self trim_len trim_emp trim_nil lenA
attribute [local simp] runD_nil' runD_cons' stepD actK_eq actD clash disj masks holes maskH unmaskH diffs news eqB allB eqA ldRowN wrote toCs ofCs stA rowsV_vl rowsV_nils rowsOf dI1 dI2 dI3 dI5 elt
attribute [local simp] st_any st_und st_agg st_tup st_bool st_int st_nilp st_ref st_pv st_nils st_sl st_vl st_nilm st_mp st_fn st_nilf st_yld co_any co_und co_agg co_tup co_bool co_int co_nilp co_ref co_pv co_nils co_sl co_vl co_nilm co_mp co_fn co_nilf co_yld
attribute [local simp] Function.comp_def List.all_append List.all_map above callA calleeA frNB_none frNB_row frN_agg frN_bool frN_int frN_nils frN_ref frN_sl frN_tup frN_vl frzG gather getR lim lop loud lowA lowR norm okG posOf putG putH putR rbB_none rbB_row resG rowAt setH takeG
def rB (b : Bool) : List AVal := [.bool b]
theorem rB_eq (b : Bool) : rB b = [.bool b] := rfl
theorem rB_rb (n d : Nat) (xs : List Bool) : ((xs.map rB).all fun r => r.all (rb n (d + 1))) = true := by
  simp only [List.all_eq_true]
  intro r hr z hz
  obtain ⟨x, _, rfl⟩ := List.mem_map.1 hr
  simp only [rB, List.mem_singleton] at hz
  subst hz; rfl
theorem frz_mapB (nv : Bool) (H : Heap) (d : Nat) (xs : List Bool) : optAll (optAll (frz nv H (d + 1))) (xs.map rB) = some (xs.map rB) := optAll_self _ fun r hr => optAll_self _ fun x hx => by
  obtain ⟨j, _, rfl⟩ := List.mem_map.1 hr
  simp only [rB, List.mem_singleton] at hx
  subst hx; rfl
theorem frN_rB (n : Nat) (h : Heap) (xs : List Bool) : ∀ r ∈ xs.map rB, optAll (frN n h 5) r = some r := fun r hr => by
  obtain ⟨j, _, rfl⟩ := List.mem_map.1 hr; rfl
def ltB (E : List Int) (js : List FJob) : Nat → List Bool
  | 0 => []
  | k + 1 => ltB E js k ++ [decide (dueAt js k < endAt E k)]
theorem ltB_len (E : List Int) (js : List FJob) : ∀ k, (ltB E js k).length = k
  | 0 => rfl
  | k + 1 => by rw [ltB, List.length_append, ltB_len E js k]; rfl
theorem ltB_get (E : List Int) (js : List FJob) : ∀ (n k : Nat), k < n → (ltB E js n)[k]? = some (decide (dueAt js k < endAt E k))
  | 0, k, h => by omega
  | n + 1, k, h => by
    rw [ltB]
    by_cases hk : k < n
    · rw [List.getElem?_append_left (by rw [ltB_len]; exact hk), ltB_get E js n k hk]
    · obtain rfl : k = n := by omega
      rw [List.getElem?_append_right (by rw [ltB_len]; exact Nat.le_refl _), ltB_len]
      simp
theorem lateL_mem (E : List Int) (js : List FJob) (k : Nat) : ∀ n, (k : Int) ∈ lateL E js n ↔ k < n ∧ dueAt js k < endAt E k
  | 0 => by simp [lateL]
  | n + 1 => by
    rw [lateL, List.mem_append, lateL_mem E js k n]
    constructor
    · rintro (⟨h1, h2⟩ | h)
      · exact ⟨by omega, h2⟩
      · split at h
        · rename_i h3
          simp only [List.mem_singleton] at h
          obtain rfl : k = n := by omega
          exact ⟨by omega, h3⟩
        · simp at h
    · rintro ⟨h1, h2⟩
      by_cases hk : k < n
      · exact .inl ⟨hk, h2⟩
      · obtain rfl : k = n := by omega
        rw [if_pos h2]
        exact .inr (List.mem_singleton.2 rfl)
def dueL (E1 E2 : List Int) (js : List FJob) : Nat → List Int
  | 0 => []
  | k + 1 => dueL E1 E2 js k ++ if (decide (dueAt js k < endAt E2 k) && !decide (dueAt js k < endAt E1 k)) = true then [(k : Int)] else []
theorem dueL_len (E1 E2 : List Int) (js : List FJob) : ∀ k, (dueL E1 E2 js k).length ≤ k
  | 0 => Nat.le_refl _
  | k + 1 => by
    have := dueL_len E1 E2 js k
    rw [dueL, List.length_append]
    split <;> simp <;> omega
theorem dueL_eq (E1 E2 : List Int) (js : List FJob) (n : Nat) : ∀ k, k ≤ n → outB (lateL E1 js n) (lateL E2 js k) = dueL E1 E2 js k
  | 0, _ => rfl
  | k + 1, hk => by
    rw [dueL, lateL, ← dueL_eq E1 E2 js n k (by omega)]
    unfold outB
    rw [List.filter_append]
    congr 1
    have hm := lateL_mem E1 js k n
    by_cases h2 : dueAt js k < endAt E2 k
    · rw [if_pos h2]
      by_cases h1 : dueAt js k < endAt E1 k
      · simp [h1, hm.2 ⟨by omega, h1⟩]
      · have : ¬ (k : Int) ∈ lateL E1 js n := fun h => h1 (hm.1 h).2
        simp [h1, h2, this]
    · rw [if_neg h2]
      simp [h2]
def encB (xs : List Bool) : AVal := match xs with | [] => .vl [] true | x :: l => .vl ((x :: l).map rB) false
theorem encB_ne {xs : List Bool} (h : xs ≠ []) : encB xs = .vl (xs.map rB) false := by cases xs with | nil => exact absurd rfl h | cons x l => rfl
theorem encB_rows (xs : List Bool) : rowsV (encB xs) = some (xs.map rB) := by cases xs <;> rfl
open Classical in
noncomputable def oLatesR : List AVal → Option AVal
  | [.agg [.int .i64 m, c, t], j, o] => match dInts2 c, dStops t, dJobs j, dInts o with
    | some cs, some ts, some js, some os => if RunCtx ⟨m, cs, ts⟩ js os then some (encB (ltB (endF ⟨m, cs, ts⟩ js os) js js.length)) else none
    | _, _, _, _ => none
  | _ => none
theorem latesR_eq {s : FShop} {js : List FJob} {c t j o : AVal} {os : List Int} (hc : dInts2 c = some s.chg) (ht : dStops t = some s.stops) (hj : dJobs j = some js) (ho : dInts o = some os) (h : RunCtx s js os) : oLatesR [.agg [I s.mach, c, t], j, o] = some (encB (ltB (endF s js os) js js.length)) := by
  simp only [oLatesR, hc, ht, hj, ho]
  rw [if_pos h]
def sOwn : List AVal → Option (AVal × Heap)
  | [.agg [.int .i64 m, c, t]] => match dInts2 c, dStops t with
    | some cs, some ts => if cs.length ≤ 1000 ∧ (∀ x ∈ cs, x.length ≤ 1000) ∧ ts.length ≤ 1000 then some (.agg [I m, encC cs, .sl 0 0 ts.length false], [some (.row 3 (ts.map rS3))]) else none
    | _, _ => none
  | _ => none
theorem sOwn_eq {m : Int} {c t : AVal} {cs : List (List Int)} {ts : List FStop} (hc : dInts2 c = some cs) (ht : dStops t = some ts) (h : cs.length ≤ 1000 ∧ (∀ x ∈ cs, x.length ≤ 1000) ∧ ts.length ≤ 1000) : sOwn [.agg [I m, c, t]] = some (.agg [I m, encC cs, .sl 0 0 ts.length false], [some (.row 3 (ts.map rS3))]) := by
  simp only [sOwn, hc, ht]; rw [if_pos h]
theorem keep_ints2 {e : AVal} {cs : List (List Int)} (he : dInts2 e = some cs) : (∀ K h, keepA false K h e = some e) ∧ (∀ J, backB1 false J e = some e) ∧ looseA e = e := by
  obtain ⟨rsc, h1, _⟩ := dInts2_rows he
  rcases rowsV_cases h1 with ⟨rfl, _⟩ | ⟨t, rfl⟩ <;> exact ⟨fun _ _ => rfl, fun _ => rfl, rfl⟩
theorem okS3 (ts : List FStop) : okBlk false (some (.row 3 (ts.map rS3))) = true := rS3_rb 0 4 ts
theorem a37 (P : Program) (T : Nat → Option CFn) (hT : T 37 = some { c37 with body := annK [(898, [.slot 7])] [] c37.body }) (h27 : T 27 = some { c27 with frsh := false, orc := oRunR }) (s : FShop) (js : List FJob) (c t j : AVal) (hc : dInts2 c = some s.chg) (ht : dStops t = some s.stops) (hj : dJobs j = some js) (o : AVal) (os : List Int) (ho : dInts o = some os) (hctx : RunCtx s js os) : Answers P T 37 [.agg [I s.mach, c, t], j, o] [] fun v h => frz true h 5 v = some (encB (ltB (endF s js os) js js.length)) := by
 have fc := fun H d => dInts2_frz hc H d
 have ft := fun H d => dStops_frz ht H d
 have fj := fun H d => dJobs_frz hj H d
 have rc := fun n d => dInts2_rb hc n d
 have rt := fun n d => dStops_rb ht n d
 have rj := fun n d => dJobs_rb hj n d
 have lc := dInts2_len hc
 have lt := dStops_len ht
 have lj := dJobs_len hj
 obtain ⟨cc1, cc2⟩ := dInts2_cells hc
 obtain ⟨ct1, ct2⟩ := dStops_cells ht
 obtain ⟨cj1, cj2⟩ := dJobs_cells hj
 have fo := fun H d => dInts_frz ho H d
 have ro := fun n d => dInts_rb ho n d
 have lo := dInts_len ho
 obtain ⟨co1, co2⟩ := dInts_cells ho
 have hrr := runR_eq hc ht hj ho hctx
 have hEl := endF_len hctx
 have hn6 := hctx.ok.njob
 generalize stsF s js os = S at *
 generalize endF s js os = E at *
 have rz1 := fun n => encS_rb n 4 S
 have rz2 := fun n => rI_rb n 4 E
 refine answers_of hT (orcF_none rfl) ?_
 simp only [oo, om, op, og, ci, cl, c37, annK, lkG, lkR, reduceIte, Nat.reduceEqDiff, reduceCtorEq, List.cons.injEq, and_true, and_false, false_and, true_and]
 have HH1 := zA h27 (zA fc (zA ft (zA fj (zA rc (zA rt (zA rj (zA lc (zA lt (zA lj (zA cc1 (zA cc2 (zA ct1 (zA ct2 (zA cj1 (zA cj2 (zA fo (zA ro (zA lo (zA co1 (zA co2 hrr))))))))))))))))))))
 refine zS ?_
 refine zR (zO (by simp [zC h27, -lenA, ↓rz1, ↓rz2, HH1]; rfl) ?_)
 simp only [zT, zB]
 refine zS ?_
 refine zR (zO (by simp [zC h27, -lenA, ↓rz1, ↓rz2, HH1]; rfl) ?_)
 simp only [zT, zB]
 refine zS ?_
 refine zS ?_
 refine zR (zO (by simp [zC h27, -lenA, ↓rz1, ↓rz2, HH1]; rfl) ?_)
 simp only [zT, zB]
 refine zL ?_
 refine runs_loopG_inv (fun mm σ => ∃ (k : Nat) (i : Int), i = k ∧ js.length - k = mm ∧ k ≤ js.length ∧ ((k = 0 ∧ σ = ⟨[.any, j, .any, .any, .any, .any, .any, .sl 3 0 0 true, .ref 2 0 0, I i, .any, .any, .any, .any, .any, .any, .any, .any, .any, .any, .any, .any, .any, .any, .any, .any, .any, .any, .any, .any, .any, .any, .any, .any, .any, .any], [some (.row 3 [[I s.mach, c, t]]), none, some (.row 2 [[.vl (S.map encS) true, .vl (E.map rI) true]]), some (.row 1 [])]⟩) ∨ (∃ (p : Nat) (ac : List Bool), k = p + 1 ∧ ac = ltB E js k ∧ ac.length = p + 1 ∧ σ = ⟨[.any, j, .any, .any, .any, .any, .any, .sl 3 0 (p + 1) false, .ref 2 0 0, I i, .any, .any, .any, .any, .any, .any, .any, .any, .any, .any, .any, .any, .any, .any, .any, .any, .any, .any, .any, .any, .any, .any, .any, .any, .any, .any], [some (.row 3 [[I s.mach, c, t]]), none, some (.row 2 [[.vl (S.map encS) true, .vl (E.map rI) true]]), some (.row 1 (ac.map rB))]⟩))) (by simp [zC h27, -lenA, ↓rz1, ↓rz2, HH1] <;> first | exact ⟨rfl, rfl⟩ | rfl) (⟨0, 0, rfl, rfl, Nat.zero_le _, .inl ⟨rfl, rfl⟩⟩) ?_
 rintro mm σ ⟨k, i, hik, rfl, hkl, ⟨hk0', rfl⟩ | ⟨p, ac, hkp, hac, hacl, rfl⟩⟩
 ·refine zS ?_
  refine zS ?_
  refine zR (zO (by simp [zC h27, -lenA, ↓rz1, ↓rz2, HH1]; rfl) ?_)
  simp only [zT, zB]
  refine runs_cond_split (x := decide (i < (js.length : Int))) (by simp) (fun hlt => ?_) (fun hlt => ?_)
  ·have hlt2 := of_decide_eq_true hlt
   have hk0 : k < js.length := by omega
   have hkE : k < E.length := by omega
   obtain ⟨jr, tj, wv, rfl, hr1, hr2, hwv⟩ := dJobs_get hj hk0
   have hkr : k < jr.length := by omega
   have hr4 : ∀ h, jr[k]'h = [I js[k].kind, I js[k].ready, I js[k].due, wv] := fun h => by rw [List.getElem?_eq_getElem h] at hr2; exact Option.some.inj hr2
   have rw5 := fun n d => dInts_rb hwv n d
   have fw5 := fun H d => dInts_frz hwv H d
   have lw5 := dInts_len hwv
   obtain ⟨cw1, cw2⟩ := dInts_cells hwv
   have hi0 : 0 ≤ i := by omega
   have htn : i.toNat = k := by omega
   have hij : i < (js.length : Int) := by omega
   have hiE : i < (E.length : Int) := by omega
   have hwi : W .i64 (i + 1) = i + 1 := W_small (by omega)
   have hEA : endAt E k = E[k] := by unfold endAt; rw [List.getD_eq_getElem?_getD, List.getElem?_eq_getElem hkE]; rfl
   have hDA : dueAt js k = js[k].due := by unfold dueAt; rw [List.getD_eq_getElem?_getD, List.getElem?_eq_getElem hk0]; rfl
   have hst : ltB E js (k + 1) = ltB E js k ++ [decide (dueAt js k < endAt E k)] := rfl
   rw [hEA, hDA] at hst
   have he1 : (E.map rI)[k]? = some [I E[k]] := by rw [List.getElem?_map, List.getElem?_eq_getElem hkE]; rfl
   have he2 : ∀ (h : k < (E.map rI).length), (E.map rI)[k]'h = [I E[k]] := fun h => by rw [List.getElem_map]; rfl
   generalize hV : E[k] = V at *
   generalize hD : js[k].due = D at *
   generalize hdd : decide (D < V) = dd at *
   have hnx : [dd] = ltB E js (k + 1) := by rw [hst, hk0']; rfl
   have HH2 := zA hi0 (zA htn (zA hij (zA hiE (zA hk0 (zA hkE (zA hwi (zA hV (zA hD (zA hdd (zA he1 (zA he2 (zA hkr (zA hr2 (zA hr4 (zA rw5 (zA fw5 (zA lw5 (zA cw1 cw2))))))))))))))))))
   refine zK ?_
   simp only [zT, zB]
   refine zS ?_
   refine zL ?_
   refine runs_drw (by simp (maxSteps := 3000000) [zC h27, -lenA, ↓rz1, ↓rz2, HH1, rB_eq, HH2]; rfl) ?_
   simp only [zT, zB]
   refine zR (zO (by simp [zC h27, -lenA, ↓rz1, ↓rz2, HH1, rB_eq, HH2]; rfl) ?_)
   simp only [zT, zB]
   exact ⟨js.length - (k + 1), _, _, by omega, by simp [zC h27, -lenA, ↓rz1, ↓rz2, HH1, rB_eq, HH2] <;> rfl, k + 1, i + 1, by omega, rfl, by omega, .inr ⟨0, _, by omega, hnx, rfl, rfl⟩⟩
  ·have hx1 := of_decide_eq_false hlt
   have hkE : k = js.length := by omega
   rw [show ltB E js js.length = [] by rw [← hkE, hk0']; rfl]
   refine runs_exit ?_
   simp only [zT, zB, if_true, if_false, reduceIte, Nat.reduceEqDiff, Nat.succ_ne_zero, Nat.one_ne_zero, Nat.zero_ne_one]
   refine zS ?_
   refine zR (zO (by simp [zC h27, -lenA, ↓rz1, ↓rz2, HH1]; rfl) ?_)
   simp only [zT, zB]
   refine runs_ret ?_
   simp [zC h27, -lenA, ↓rz1, ↓rz2, HH1, trim, encB]
 ·have tk : (ac.map rB).take (p + 1) = ac.map rB := List.take_of_length_le (by simp [hacl])
  have hlac : p + 1 + 1 ≤ 1048576 := by omega
  have hr3 : ∀ e : Bool, (rB e).length = 1 := fun _ => rfl
  have hff := fun n h r => optAll_snoc (frN_rB n h ac) r
  have hrj := fun n => rB_rb n 4 ac
  refine zS ?_
  refine zS ?_
  refine zR (zO (by simp [zC h27, -lenA, ↓rz1, ↓rz2, HH1, tk, hlac, hacl, hr3, ↓hff, ↓hrj]; rfl) ?_)
  simp only [zT, zB]
  refine runs_cond_split (x := decide (i < (js.length : Int))) (by simp) (fun hlt => ?_) (fun hlt => ?_)
  ·have hlt2 := of_decide_eq_true hlt
   have hk0 : k < js.length := by omega
   have hkE : k < E.length := by omega
   obtain ⟨jr, tj, wv, rfl, hr1, hr2, hwv⟩ := dJobs_get hj hk0
   have hkr : k < jr.length := by omega
   have hr4 : ∀ h, jr[k]'h = [I js[k].kind, I js[k].ready, I js[k].due, wv] := fun h => by rw [List.getElem?_eq_getElem h] at hr2; exact Option.some.inj hr2
   have rw5 := fun n d => dInts_rb hwv n d
   have fw5 := fun H d => dInts_frz hwv H d
   have lw5 := dInts_len hwv
   obtain ⟨cw1, cw2⟩ := dInts_cells hwv
   have hi0 : 0 ≤ i := by omega
   have htn : i.toNat = k := by omega
   have hij : i < (js.length : Int) := by omega
   have hiE : i < (E.length : Int) := by omega
   have hwi : W .i64 (i + 1) = i + 1 := W_small (by omega)
   have hEA : endAt E k = E[k] := by unfold endAt; rw [List.getD_eq_getElem?_getD, List.getElem?_eq_getElem hkE]; rfl
   have hDA : dueAt js k = js[k].due := by unfold dueAt; rw [List.getD_eq_getElem?_getD, List.getElem?_eq_getElem hk0]; rfl
   have hst : ltB E js (k + 1) = ltB E js k ++ [decide (dueAt js k < endAt E k)] := rfl
   rw [hEA, hDA] at hst
   have he1 : (E.map rI)[k]? = some [I E[k]] := by rw [List.getElem?_map, List.getElem?_eq_getElem hkE]; rfl
   have he2 : ∀ (h : k < (E.map rI).length), (E.map rI)[k]'h = [I E[k]] := fun h => by rw [List.getElem_map]; rfl
   generalize hV : E[k] = V at *
   generalize hD : js[k].due = D at *
   generalize hdd : decide (D < V) = dd at *
   have hnx : ac ++ [dd] = ltB E js (k + 1) := by rw [hst, ← hac]
   have hnl : (ac ++ [dd]).length = p + 1 + 1 := by simp [hacl]
   have hap : ac.map rB ++ [[.bool dd]] = (ac ++ [dd]).map rB := by rw [List.map_append]; rfl
   generalize ac ++ [dd] = nx at *
   have HH3 := zA tk (zA hlac (zA hacl (zA hr3 (zA hi0 (zA htn (zA hij (zA hiE (zA hk0 (zA hkE (zA hwi (zA hV (zA hD (zA hdd (zA he1 (zA he2 (zA hkr (zA hr2 (zA hr4 (zA rw5 (zA fw5 (zA lw5 (zA cw1 (zA cw2 hap)))))))))))))))))))))))
   refine zK ?_
   simp only [zT, zB]
   refine zS ?_
   refine zL ?_
   refine runs_drw (by simp (maxSteps := 3000000) [zC h27, -lenA, ↓rz1, ↓rz2, HH1, ↓hff, ↓hrj, rB_eq, HH3]; rfl) ?_
   simp only [zT, zB]
   refine zR (zO (by simp [zC h27, -lenA, ↓rz1, ↓rz2, HH1, ↓hff, ↓hrj, rB_eq, HH3]; rfl) ?_)
   simp only [zT, zB]
   exact ⟨js.length - (k + 1), _, _, by omega, by simp [zC h27, -lenA, ↓rz1, ↓rz2, HH1, ↓hff, ↓hrj, rB_eq, HH3] <;> rfl, k + 1, i + 1, by omega, rfl, by omega, .inr ⟨p + 1, _, by omega, hnx, hnl, rfl⟩⟩
  ·have hx1 := of_decide_eq_false hlt
   have hkE : k = js.length := by omega
   rw [← hkE, ← hac, encB_ne (by intro e; rw [e] at hacl; simp at hacl)]
   refine runs_exit ?_
   simp only [zT, zB, if_true, if_false, reduceIte, Nat.reduceEqDiff, Nat.succ_ne_zero, Nat.one_ne_zero, Nat.zero_ne_one]
   refine zS ?_
   refine zR (zO (by simp [zC h27, -lenA, ↓rz1, ↓rz2, HH1, tk, hlac, hacl, hr3, ↓hff, ↓hrj, frz_mapB]; rfl) ?_)
   simp only [zT, zB]
   refine runs_ret ?_
   simp [zC h27, -lenA, ↓rz1, ↓rz2, HH1, tk, hlac, hacl, hr3, ↓hff, ↓hrj, frz_mapB, trim]
theorem a59f (P : Program) (T : Nat → Option CFn) (hT : T 59 = some { c59 with body := annK [(30, [.cell 3 1])] [] c59.body }) (m : Int) (c t : AVal) (cs : List (List Int)) (ts : List FStop) (hc : dInts2 c = some cs) (ht : dStops t = some ts) (hm1 : cs.length ≤ 1000) (hm2 : ∀ x ∈ cs, x.length ≤ 1000) (hm3 : ts.length ≤ 1000) : Answers P T 59 [.agg [I m, c, t]] [] fun v1 h1 => ∃ K : List Nat, K.Nodup ∧ K.length = [some (Blk.row 3 (ts.map rS3))].length ∧ (∀ p (hp : p < K.length) b, [some (Blk.row 3 (ts.map rS3))][p]? = some (some b) → h1[K[p]]? = some (some b)) ∧ keepB false K h1 (looseV v1) = some (.agg [I m, encC cs, .sl 0 0 ts.length false]) := by
 have fc := fun H d => dInts2_frz hc H d
 have ft := fun H d => dStops_frz ht H d
 have rc := fun n d => dInts2_rb hc n d
 have rt := fun n d => dStops_rb ht n d
 have lc := dInts2_len hc
 have lt := dStops_len ht
 obtain ⟨cc1, cc2⟩ := dInts2_cells hc
 obtain ⟨ct1, ct2⟩ := dStops_cells ht
 refine answers_of hT (orcF_none rfl) ?_
 simp only [oo, om, op, og, ci, cl, c59, annK, lkG, lkR, reduceIte, Nat.reduceEqDiff, reduceCtorEq, List.cons.injEq, and_true, and_false, false_and, true_and]
 rcases ts with _ | ⟨ta, tl⟩
 ·rcases dStops_cases ht with ⟨rfl, _⟩ | ⟨tt, rfl⟩
  ·have HH1 := zA fc (zA ft (zA rc (zA rt (zA lc (zA lt (zA cc1 (zA cc2 (zA ct1 ct2))))))))
   refine zS ?_
   refine zR (zO (by simp [-lenA, HH1]; rfl) ?_)
   simp only [zT, zB]
   refine zS ?_
   refine runs_drw (by simp (maxSteps := 3000000) [-lenA, HH1]; rfl) ?_
   simp only [zT, zB]
   refine zS ?_
   refine zS ?_
   refine zR (zO (by simp [-lenA, HH1]; rfl) ?_)
   simp only [zT, zB]
   refine zL ?_
   refine runs_loopG_inv (fun mm σ => ∃ (k : Nat) (i : Int), i = k ∧ cs.length - k = mm ∧ k ≤ cs.length ∧ ((k = 0 ∧ σ = ⟨[.any, .ref 0 0 0, .ref 1 0 0, .ref 9 0 0, I i, .any, .any, .any, .any, .any, .any, .any, .any, .any, .any, .any, .any, .any, .any, .any, .any, .any, .any, .any, .any, .any, .any, .any, .any, .any, .any, .any], [some (.row 3 [[I m, c, .nils]]), some (.row 3 [[I 0, .nils, .nils]]), none, none, some (.row 3 []), none, none, none, none, some (.row 3 [[I m, .nils, .sl 4 0 0 true]]), none, none]⟩) ∨ (∃ (p : Nat) (ac : List (List Int)), k = p + 1 ∧ ac = cs.take k ∧ ac.length = p + 1 ∧ σ = ⟨[.any, .ref 0 0 0, .ref 1 0 0, .ref 9 0 0, I i, .any, .any, .any, .any, .any, .any, .any, .any, .any, .any, .any, .any, .any, .any, .any, .any, .any, .any, .any, .any, .any, .any, .any, .any, .any, .any, .any], [some (.row 3 [[I m, c, .nils]]), some (.row 3 [[I 0, .nils, .nils]]), none, none, some (.row 3 []), none, none, none, none, some (.row 3 [[I m, .sl 11 0 (p + 1) false, .sl 4 0 0 true]]), none, some (.row 1 (ac.map rowC))]⟩))) (by simp [-lenA, HH1] <;> first | exact ⟨rfl, rfl⟩ | rfl) (⟨0, 0, rfl, rfl, Nat.zero_le _, .inl ⟨rfl, rfl⟩⟩) ?_
   rintro mm σ ⟨k, i, hik, rfl, hkl, ⟨hk0', rfl⟩ | ⟨p, ac, hkp, hac, hacl, rfl⟩⟩
   ·refine zS ?_
    refine zS ?_
    refine zR (zO (by simp [-lenA, HH1]; rfl) ?_)
    simp only [zT, zB]
    refine runs_cond_split (x := decide (i < (cs.length : Int))) (by simp) (fun hlt => ?_) (fun hlt => ?_)
    ·have hlt2 := of_decide_eq_true hlt
     have hk0 : k < cs.length := by omega
     have hEt : cs.take (k + 1) = cs.take k ++ [cs[k]] := List.take_succ_eq_append_getElem hk0
     obtain ⟨rs, tj, wv, rfl, hr1, hr2, hwv⟩ := dInts2_get hc hk0
     have hkr : k < rs.length := by omega
     have hr4 : ∀ h, rs[k]'h = [wv] := fun h => by rw [List.getElem?_eq_getElem h] at hr2; exact Option.some.inj hr2
     have rw5 := fun n d => dInts_rb hwv n d
     have fw5 := fun H d => dInts_frz hwv H d
     obtain ⟨cw1, cw2⟩ := dInts_cells hwv
     have hi0 : 0 ≤ i := by omega
     have htn : i.toNat = k := by omega
     have hwi : W .i64 (i + 1) = i + 1 := W_small (by omega)
     have hml := hm2 cs[k] (List.getElem_mem hk0)
     generalize hX : cs[k] = xm at *
     have hnx : [xm] = cs.take (k + 1) := by rw [hEt, hk0']; rfl
     have hap : [[encE xm]] = [xm].map rowC := rfl
     rcases xm with _ | ⟨a, l⟩
     ·simp only [encE] at hap
      rcases dInts_cases hwv with ⟨rfl, _⟩ | ⟨tt, rfl⟩
      ·have HH2 := zA hi0 (zA htn (zA hk0 (zA hX (zA hwi (zA hkr (zA hr2 (zA hr4 (zA rw5 (zA fw5 (zA cw1 cw2))))))))))
       refine zK ?_
       simp only [zT, zB]
       refine zS ?_
       refine zL ?_
       refine runs_drw (by simp (maxSteps := 3000000) [-lenA, HH1, zI, HH2]; rfl) ?_
       simp only [zT, zB]
       refine zR (zO (by simp [-lenA, HH1, zI, HH2]; rfl) ?_)
       simp only [zT, zB]
       exact ⟨cs.length - (k + 1), _, _, by omega, by simp [-lenA, HH1, zI, HH2] <;> rfl, k + 1, i + 1, by omega, rfl, by omega, .inr ⟨0, _, by omega, hnx, rfl, rfl⟩⟩
      ·have HH3 := zA hi0 (zA htn (zA hk0 (zA hX (zA hwi (zA hkr (zA hr2 (zA hr4 (zA rw5 (zA fw5 (zA cw1 cw2))))))))))
       refine zK ?_
       simp only [zT, zB]
       refine zS ?_
       refine zL ?_
       refine runs_drw (by simp (maxSteps := 3000000) [-lenA, HH1, zI, HH3]; rfl) ?_
       simp only [zT, zB]
       refine zR (zO (by simp [-lenA, HH1, zI, HH3]; rfl) ?_)
       simp only [zT, zB]
       exact ⟨cs.length - (k + 1), _, _, by omega, by simp [-lenA, HH1, zI, HH3] <;> rfl, k + 1, i + 1, by omega, rfl, by omega, .inr ⟨0, _, by omega, hnx, rfl, rfl⟩⟩
     ·obtain ⟨tt, rfl⟩ := dInts_get hwv (k := 0) (by simp)
      simp only [encE] at hap
      have hll : l.length + 1 ≤ 1048576 := by simp at hml; omega
      have hrr : ((l.map rI).all fun r => r.length == 1) = true := by simp [rI]
      have hss : ((l.map rI).all fun r => r.all storable) = true := by simp [rI]
      have tkl : (l.map rI).take l.length = l.map rI := List.take_of_length_le (by simp)
      have HH4 := zA hi0 (zA htn (zA hk0 (zA hX (zA hwi (zA hkr (zA hr2 (zA hr4 (zA rw5 (zA fw5 (zA cw1 (zA cw2 (zA hll tkl))))))))))))
      refine zK ?_
      simp only [zT, zB]
      refine zS ?_
      refine zL ?_
      refine runs_drw (by simp (maxSteps := 3000000) [-lenA, HH1, zI, ↓hrr, ↓hss, frz_mapI, HH4]; rfl) ?_
      simp only [zT, zB]
      refine zR (zO (by simp [-lenA, HH1, zI, ↓hrr, ↓hss, frz_mapI, HH4]; rfl) ?_)
      simp only [zT, zB]
      exact ⟨cs.length - (k + 1), _, _, by omega, by simp [-lenA, HH1, zI, ↓hrr, ↓hss, frz_mapI, HH4] <;> rfl, k + 1, i + 1, by omega, rfl, by omega, .inr ⟨0, _, by omega, hnx, rfl, rfl⟩⟩
    ·have hx1 := of_decide_eq_false hlt
     have hkE : k = cs.length := by omega
     have htE : cs.take k = cs := List.take_of_length_le (by omega)
     have hE0 : cs = [] := List.eq_nil_of_length_eq_zero (by omega)
     subst hE0
     refine runs_exit ?_
     simp only [zT, zB, if_true, if_false, reduceIte, Nat.reduceEqDiff, Nat.succ_ne_zero, Nat.one_ne_zero, Nat.zero_ne_one]
     refine zS ?_
     refine zR (zO (by simp [-lenA, HH1]; rfl) ?_)
     simp only [zT, zB]
     refine runs_ret ?_
     refine ⟨by simp, _, by simp; rfl, [4], by simp, rfl, fun q hq b hb => ?_, by simp [keepB, keepA, looseV, looseA, hideK, trim, encC, okA, -lenA, HH1]⟩
     obtain rfl : q = 0 := by simp at hq; omega
     simpa [trim, tupA, rb_sl, lop, loud, callA, calleeA, -lenA, lim, gather, takeG, resG, getR, putR, putG, okG, lowR, lowA, frzG, rowAt, rbB_row, rbB_none, rb_ref, rb_any, rb_sl, norm, frN_int, frN_bool, frN_nils, frN_vl, frN_agg, frN_tup, frN_sl, frN_ref, frNB_none, frNB_row, above, HH1] using hb
   ·have tk : (ac.map rowC).take (p + 1) = ac.map rowC := List.take_of_length_le (by simp [hacl])
    have hlac : p + 1 + 1 ≤ 1048576 := by omega
    have hr3 : ∀ e : List Int, (rowC e).length = 1 := fun _ => rfl
    have hfr := fun n h r => optAll_snoc (frN_rowC n h ac) r
    have hrj := rowC_rb 11 4 ac
    refine zS ?_
    refine zS ?_
    refine zR (zO (by simp [-lenA, HH1, tk, hlac, hacl, hr3, ↓hfr, ↓hrj]; rfl) ?_)
    simp only [zT, zB]
    refine runs_cond_split (x := decide (i < (cs.length : Int))) (by simp) (fun hlt => ?_) (fun hlt => ?_)
    ·have hlt2 := of_decide_eq_true hlt
     have hk0 : k < cs.length := by omega
     have hEt : cs.take (k + 1) = cs.take k ++ [cs[k]] := List.take_succ_eq_append_getElem hk0
     obtain ⟨rs, tj, wv, rfl, hr1, hr2, hwv⟩ := dInts2_get hc hk0
     have hkr : k < rs.length := by omega
     have hr4 : ∀ h, rs[k]'h = [wv] := fun h => by rw [List.getElem?_eq_getElem h] at hr2; exact Option.some.inj hr2
     have rw5 := fun n d => dInts_rb hwv n d
     have fw5 := fun H d => dInts_frz hwv H d
     obtain ⟨cw1, cw2⟩ := dInts_cells hwv
     have hi0 : 0 ≤ i := by omega
     have htn : i.toNat = k := by omega
     have hwi : W .i64 (i + 1) = i + 1 := W_small (by omega)
     have hml := hm2 cs[k] (List.getElem_mem hk0)
     generalize hX : cs[k] = xm at *
     have hnx : ac ++ [xm] = cs.take (k + 1) := by rw [hEt, ← hac]
     have hnl : (ac ++ [xm]).length = p + 1 + 1 := by simp [hacl]
     have hap : ac.map rowC ++ [[encE xm]] = (ac ++ [xm]).map rowC := by rw [List.map_append]; rfl
     rcases xm with _ | ⟨a, l⟩
     ·simp only [encE] at hap
      rcases dInts_cases hwv with ⟨rfl, _⟩ | ⟨tt, rfl⟩
      ·have HH5 := zA tk (zA hlac (zA hacl (zA hr3 (zA hi0 (zA htn (zA hk0 (zA hX (zA hwi (zA hkr (zA hr2 (zA hr4 (zA rw5 (zA fw5 (zA cw1 (zA cw2 hap)))))))))))))))
       refine zK ?_
       simp only [zT, zB]
       refine zS ?_
       refine zL ?_
       refine runs_drw (by simp (maxSteps := 3000000) [-lenA, HH1, ↓hfr, ↓hrj, zI, HH5]; rfl) ?_
       simp only [zT, zB]
       refine zR (zO (by simp [-lenA, HH1, ↓hfr, ↓hrj, zI, HH5]; rfl) ?_)
       simp only [zT, zB]
       exact ⟨cs.length - (k + 1), _, _, by omega, by simp [-lenA, HH1, ↓hfr, ↓hrj, zI, HH5] <;> rfl, k + 1, i + 1, by omega, rfl, by omega, .inr ⟨p + 1, _, by omega, hnx, hnl, rfl⟩⟩
      ·have HH6 := zA tk (zA hlac (zA hacl (zA hr3 (zA hi0 (zA htn (zA hk0 (zA hX (zA hwi (zA hkr (zA hr2 (zA hr4 (zA rw5 (zA fw5 (zA cw1 (zA cw2 hap)))))))))))))))
       refine zK ?_
       simp only [zT, zB]
       refine zS ?_
       refine zL ?_
       refine runs_drw (by simp (maxSteps := 3000000) [-lenA, HH1, ↓hfr, ↓hrj, zI, HH6]; rfl) ?_
       simp only [zT, zB]
       refine zR (zO (by simp [-lenA, HH1, ↓hfr, ↓hrj, zI, HH6]; rfl) ?_)
       simp only [zT, zB]
       exact ⟨cs.length - (k + 1), _, _, by omega, by simp [-lenA, HH1, ↓hfr, ↓hrj, zI, HH6] <;> rfl, k + 1, i + 1, by omega, rfl, by omega, .inr ⟨p + 1, _, by omega, hnx, hnl, rfl⟩⟩
     ·obtain ⟨tt, rfl⟩ := dInts_get hwv (k := 0) (by simp)
      simp only [encE] at hap
      have hll : l.length + 1 ≤ 1048576 := by simp at hml; omega
      have hrr : ((l.map rI).all fun r => r.length == 1) = true := by simp [rI]
      have hss : ((l.map rI).all fun r => r.all storable) = true := by simp [rI]
      have tkl : (l.map rI).take l.length = l.map rI := List.take_of_length_le (by simp)
      have HH7 := zA tk (zA hlac (zA hacl (zA hr3 (zA hi0 (zA htn (zA hk0 (zA hX (zA hwi (zA hkr (zA hr2 (zA hr4 (zA rw5 (zA fw5 (zA cw1 (zA cw2 (zA hll (zA tkl hap)))))))))))))))))
      refine zK ?_
      simp only [zT, zB]
      refine zS ?_
      refine zL ?_
      refine runs_drw (by simp (maxSteps := 3000000) [-lenA, HH1, ↓hfr, ↓hrj, zI, ↓hrr, ↓hss, frz_mapI, HH7]; rfl) ?_
      simp only [zT, zB]
      refine zR (zO (by simp [-lenA, HH1, ↓hfr, ↓hrj, zI, ↓hrr, ↓hss, frz_mapI, HH7]; rfl) ?_)
      simp only [zT, zB]
      exact ⟨cs.length - (k + 1), _, _, by omega, by simp [-lenA, HH1, ↓hfr, ↓hrj, zI, ↓hrr, ↓hss, frz_mapI, HH7] <;> rfl, k + 1, i + 1, by omega, rfl, by omega, .inr ⟨p + 1, _, by omega, hnx, hnl, rfl⟩⟩
    ·have hx1 := of_decide_eq_false hlt
     have hkE : k = cs.length := by omega
     have htE : cs.take k = cs := List.take_of_length_le (by omega)
     rw [htE] at hac
     subst hac
     rw [encC_ne (by intro e; rw [e] at hacl; simp at hacl)]
     refine runs_exit ?_
     simp only [zT, zB, if_true, if_false, reduceIte, Nat.reduceEqDiff, Nat.succ_ne_zero, Nat.one_ne_zero, Nat.zero_ne_one]
     refine zS ?_
     refine zR (zO (by simp [-lenA, HH1, tk, hlac, hacl, hr3, ↓hfr, ↓hrj, frz_rowC]; rfl) ?_)
     simp only [zT, zB]
     refine runs_ret ?_
     refine ⟨by simp, _, by simp; rfl, [4], by simp, rfl, fun q hq b hb => ?_, by simp [keepB, keepA, looseV, looseA, hideK, trim, encC, okA, -lenA, HH1, tk, hlac, hacl, hr3, ↓hfr, ↓hrj, frz_rowC]⟩
     obtain rfl : q = 0 := by simp at hq; omega
     simpa [trim, tupA, rb_sl, lop, loud, callA, calleeA, -lenA, lim, gather, takeG, resG, getR, putR, putG, okG, lowR, lowA, frzG, rowAt, rbB_row, rbB_none, rb_ref, rb_any, rb_sl, norm, frN_int, frN_bool, frN_nils, frN_vl, frN_agg, frN_tup, frN_sl, frN_ref, frNB_none, frNB_row, above, HH1, tk, hlac, hacl, hr3, slE, List.all_map, Function.comp_def, ↓hfr, ↓hrj, List.all_append, frz_rowC] using hb
  ·have HH8 := zA fc (zA ft (zA rc (zA rt (zA lc (zA lt (zA cc1 (zA cc2 (zA ct1 ct2))))))))
   refine zS ?_
   refine zR (zO (by simp [-lenA, HH8]; rfl) ?_)
   simp only [zT, zB]
   refine zS ?_
   refine runs_drw (by simp (maxSteps := 3000000) [-lenA, HH8]; rfl) ?_
   simp only [zT, zB]
   refine zS ?_
   refine zS ?_
   refine zR (zO (by simp [-lenA, HH8]; rfl) ?_)
   simp only [zT, zB]
   refine zL ?_
   refine runs_loopG_inv (fun mm σ => ∃ (k : Nat) (i : Int), i = k ∧ cs.length - k = mm ∧ k ≤ cs.length ∧ ((k = 0 ∧ σ = ⟨[.any, .ref 0 0 0, .ref 1 0 0, .ref 9 0 0, I i, .any, .any, .any, .any, .any, .any, .any, .any, .any, .any, .any, .any, .any, .any, .any, .any, .any, .any, .any, .any, .any, .any, .any, .any, .any, .any, .any], [some (.row 3 [[I m, c, .vl [] tt]]), some (.row 3 [[I 0, .nils, .nils]]), none, none, some (.row 3 []), none, none, none, none, some (.row 3 [[I m, .nils, .sl 4 0 0 true]]), none, none]⟩) ∨ (∃ (p : Nat) (ac : List (List Int)), k = p + 1 ∧ ac = cs.take k ∧ ac.length = p + 1 ∧ σ = ⟨[.any, .ref 0 0 0, .ref 1 0 0, .ref 9 0 0, I i, .any, .any, .any, .any, .any, .any, .any, .any, .any, .any, .any, .any, .any, .any, .any, .any, .any, .any, .any, .any, .any, .any, .any, .any, .any, .any, .any], [some (.row 3 [[I m, c, .vl [] tt]]), some (.row 3 [[I 0, .nils, .nils]]), none, none, some (.row 3 []), none, none, none, none, some (.row 3 [[I m, .sl 11 0 (p + 1) false, .sl 4 0 0 true]]), none, some (.row 1 (ac.map rowC))]⟩))) (by simp [-lenA, HH8] <;> first | exact ⟨rfl, rfl⟩ | rfl) (⟨0, 0, rfl, rfl, Nat.zero_le _, .inl ⟨rfl, rfl⟩⟩) ?_
   rintro mm σ ⟨k, i, hik, rfl, hkl, ⟨hk0', rfl⟩ | ⟨p, ac, hkp, hac, hacl, rfl⟩⟩
   ·refine zS ?_
    refine zS ?_
    refine zR (zO (by simp [-lenA, HH8]; rfl) ?_)
    simp only [zT, zB]
    refine runs_cond_split (x := decide (i < (cs.length : Int))) (by simp) (fun hlt => ?_) (fun hlt => ?_)
    ·have hlt2 := of_decide_eq_true hlt
     have hk0 : k < cs.length := by omega
     have hEt : cs.take (k + 1) = cs.take k ++ [cs[k]] := List.take_succ_eq_append_getElem hk0
     obtain ⟨rs, tj, wv, rfl, hr1, hr2, hwv⟩ := dInts2_get hc hk0
     have hkr : k < rs.length := by omega
     have hr4 : ∀ h, rs[k]'h = [wv] := fun h => by rw [List.getElem?_eq_getElem h] at hr2; exact Option.some.inj hr2
     have rw5 := fun n d => dInts_rb hwv n d
     have fw5 := fun H d => dInts_frz hwv H d
     obtain ⟨cw1, cw2⟩ := dInts_cells hwv
     have hi0 : 0 ≤ i := by omega
     have htn : i.toNat = k := by omega
     have hwi : W .i64 (i + 1) = i + 1 := W_small (by omega)
     have hml := hm2 cs[k] (List.getElem_mem hk0)
     generalize hX : cs[k] = xm at *
     have hnx : [xm] = cs.take (k + 1) := by rw [hEt, hk0']; rfl
     have hap : [[encE xm]] = [xm].map rowC := rfl
     rcases xm with _ | ⟨a, l⟩
     ·simp only [encE] at hap
      rcases dInts_cases hwv with ⟨rfl, _⟩ | ⟨tt, rfl⟩
      ·have HH9 := zA hi0 (zA htn (zA hk0 (zA hX (zA hwi (zA hkr (zA hr2 (zA hr4 (zA rw5 (zA fw5 (zA cw1 cw2))))))))))
       refine zK ?_
       simp only [zT, zB]
       refine zS ?_
       refine zL ?_
       refine runs_drw (by simp (maxSteps := 3000000) [-lenA, HH8, zI, HH9]; rfl) ?_
       simp only [zT, zB]
       refine zR (zO (by simp [-lenA, HH8, zI, HH9]; rfl) ?_)
       simp only [zT, zB]
       exact ⟨cs.length - (k + 1), _, _, by omega, by simp [-lenA, HH8, zI, HH9] <;> rfl, k + 1, i + 1, by omega, rfl, by omega, .inr ⟨0, _, by omega, hnx, rfl, rfl⟩⟩
      ·have HH10 := zA hi0 (zA htn (zA hk0 (zA hX (zA hwi (zA hkr (zA hr2 (zA hr4 (zA rw5 (zA fw5 (zA cw1 cw2))))))))))
       refine zK ?_
       simp only [zT, zB]
       refine zS ?_
       refine zL ?_
       refine runs_drw (by simp (maxSteps := 3000000) [-lenA, HH8, zI, HH10]; rfl) ?_
       simp only [zT, zB]
       refine zR (zO (by simp [-lenA, HH8, zI, HH10]; rfl) ?_)
       simp only [zT, zB]
       exact ⟨cs.length - (k + 1), _, _, by omega, by simp [-lenA, HH8, zI, HH10] <;> rfl, k + 1, i + 1, by omega, rfl, by omega, .inr ⟨0, _, by omega, hnx, rfl, rfl⟩⟩
     ·obtain ⟨tt, rfl⟩ := dInts_get hwv (k := 0) (by simp)
      simp only [encE] at hap
      have hll : l.length + 1 ≤ 1048576 := by simp at hml; omega
      have hrr : ((l.map rI).all fun r => r.length == 1) = true := by simp [rI]
      have hss : ((l.map rI).all fun r => r.all storable) = true := by simp [rI]
      have tkl : (l.map rI).take l.length = l.map rI := List.take_of_length_le (by simp)
      have HH11 := zA hi0 (zA htn (zA hk0 (zA hX (zA hwi (zA hkr (zA hr2 (zA hr4 (zA rw5 (zA fw5 (zA cw1 (zA cw2 (zA hll tkl))))))))))))
      refine zK ?_
      simp only [zT, zB]
      refine zS ?_
      refine zL ?_
      refine runs_drw (by simp (maxSteps := 3000000) [-lenA, HH8, zI, ↓hrr, ↓hss, frz_mapI, HH11]; rfl) ?_
      simp only [zT, zB]
      refine zR (zO (by simp [-lenA, HH8, zI, ↓hrr, ↓hss, frz_mapI, HH11]; rfl) ?_)
      simp only [zT, zB]
      exact ⟨cs.length - (k + 1), _, _, by omega, by simp [-lenA, HH8, zI, ↓hrr, ↓hss, frz_mapI, HH11] <;> rfl, k + 1, i + 1, by omega, rfl, by omega, .inr ⟨0, _, by omega, hnx, rfl, rfl⟩⟩
    ·have hx1 := of_decide_eq_false hlt
     have hkE : k = cs.length := by omega
     have htE : cs.take k = cs := List.take_of_length_le (by omega)
     have hE0 : cs = [] := List.eq_nil_of_length_eq_zero (by omega)
     subst hE0
     refine runs_exit ?_
     simp only [zT, zB, if_true, if_false, reduceIte, Nat.reduceEqDiff, Nat.succ_ne_zero, Nat.one_ne_zero, Nat.zero_ne_one]
     refine zS ?_
     refine zR (zO (by simp [-lenA, HH8]; rfl) ?_)
     simp only [zT, zB]
     refine runs_ret ?_
     refine ⟨by simp, _, by simp; rfl, [4], by simp, rfl, fun q hq b hb => ?_, by simp [keepB, keepA, looseV, looseA, hideK, trim, encC, okA, -lenA, HH8]⟩
     obtain rfl : q = 0 := by simp at hq; omega
     simpa [trim, tupA, rb_sl, lop, loud, callA, calleeA, -lenA, lim, gather, takeG, resG, getR, putR, putG, okG, lowR, lowA, frzG, rowAt, rbB_row, rbB_none, rb_ref, rb_any, rb_sl, norm, frN_int, frN_bool, frN_nils, frN_vl, frN_agg, frN_tup, frN_sl, frN_ref, frNB_none, frNB_row, above, HH8] using hb
   ·have tk : (ac.map rowC).take (p + 1) = ac.map rowC := List.take_of_length_le (by simp [hacl])
    have hlac : p + 1 + 1 ≤ 1048576 := by omega
    have hr3 : ∀ e : List Int, (rowC e).length = 1 := fun _ => rfl
    have hfr := fun n h r => optAll_snoc (frN_rowC n h ac) r
    have hrj := rowC_rb 11 4 ac
    refine zS ?_
    refine zS ?_
    refine zR (zO (by simp [-lenA, HH8, tk, hlac, hacl, hr3, ↓hfr, ↓hrj]; rfl) ?_)
    simp only [zT, zB]
    refine runs_cond_split (x := decide (i < (cs.length : Int))) (by simp) (fun hlt => ?_) (fun hlt => ?_)
    ·have hlt2 := of_decide_eq_true hlt
     have hk0 : k < cs.length := by omega
     have hEt : cs.take (k + 1) = cs.take k ++ [cs[k]] := List.take_succ_eq_append_getElem hk0
     obtain ⟨rs, tj, wv, rfl, hr1, hr2, hwv⟩ := dInts2_get hc hk0
     have hkr : k < rs.length := by omega
     have hr4 : ∀ h, rs[k]'h = [wv] := fun h => by rw [List.getElem?_eq_getElem h] at hr2; exact Option.some.inj hr2
     have rw5 := fun n d => dInts_rb hwv n d
     have fw5 := fun H d => dInts_frz hwv H d
     obtain ⟨cw1, cw2⟩ := dInts_cells hwv
     have hi0 : 0 ≤ i := by omega
     have htn : i.toNat = k := by omega
     have hwi : W .i64 (i + 1) = i + 1 := W_small (by omega)
     have hml := hm2 cs[k] (List.getElem_mem hk0)
     generalize hX : cs[k] = xm at *
     have hnx : ac ++ [xm] = cs.take (k + 1) := by rw [hEt, ← hac]
     have hnl : (ac ++ [xm]).length = p + 1 + 1 := by simp [hacl]
     have hap : ac.map rowC ++ [[encE xm]] = (ac ++ [xm]).map rowC := by rw [List.map_append]; rfl
     rcases xm with _ | ⟨a, l⟩
     ·simp only [encE] at hap
      rcases dInts_cases hwv with ⟨rfl, _⟩ | ⟨tt, rfl⟩
      ·have HH12 := zA tk (zA hlac (zA hacl (zA hr3 (zA hi0 (zA htn (zA hk0 (zA hX (zA hwi (zA hkr (zA hr2 (zA hr4 (zA rw5 (zA fw5 (zA cw1 (zA cw2 hap)))))))))))))))
       refine zK ?_
       simp only [zT, zB]
       refine zS ?_
       refine zL ?_
       refine runs_drw (by simp (maxSteps := 3000000) [-lenA, HH8, ↓hfr, ↓hrj, zI, HH12]; rfl) ?_
       simp only [zT, zB]
       refine zR (zO (by simp [-lenA, HH8, ↓hfr, ↓hrj, zI, HH12]; rfl) ?_)
       simp only [zT, zB]
       exact ⟨cs.length - (k + 1), _, _, by omega, by simp [-lenA, HH8, ↓hfr, ↓hrj, zI, HH12] <;> rfl, k + 1, i + 1, by omega, rfl, by omega, .inr ⟨p + 1, _, by omega, hnx, hnl, rfl⟩⟩
      ·have HH13 := zA tk (zA hlac (zA hacl (zA hr3 (zA hi0 (zA htn (zA hk0 (zA hX (zA hwi (zA hkr (zA hr2 (zA hr4 (zA rw5 (zA fw5 (zA cw1 (zA cw2 hap)))))))))))))))
       refine zK ?_
       simp only [zT, zB]
       refine zS ?_
       refine zL ?_
       refine runs_drw (by simp (maxSteps := 3000000) [-lenA, HH8, ↓hfr, ↓hrj, zI, HH13]; rfl) ?_
       simp only [zT, zB]
       refine zR (zO (by simp [-lenA, HH8, ↓hfr, ↓hrj, zI, HH13]; rfl) ?_)
       simp only [zT, zB]
       exact ⟨cs.length - (k + 1), _, _, by omega, by simp [-lenA, HH8, ↓hfr, ↓hrj, zI, HH13] <;> rfl, k + 1, i + 1, by omega, rfl, by omega, .inr ⟨p + 1, _, by omega, hnx, hnl, rfl⟩⟩
     ·obtain ⟨tt, rfl⟩ := dInts_get hwv (k := 0) (by simp)
      simp only [encE] at hap
      have hll : l.length + 1 ≤ 1048576 := by simp at hml; omega
      have hrr : ((l.map rI).all fun r => r.length == 1) = true := by simp [rI]
      have hss : ((l.map rI).all fun r => r.all storable) = true := by simp [rI]
      have tkl : (l.map rI).take l.length = l.map rI := List.take_of_length_le (by simp)
      have HH14 := zA tk (zA hlac (zA hacl (zA hr3 (zA hi0 (zA htn (zA hk0 (zA hX (zA hwi (zA hkr (zA hr2 (zA hr4 (zA rw5 (zA fw5 (zA cw1 (zA cw2 (zA hll (zA tkl hap)))))))))))))))))
      refine zK ?_
      simp only [zT, zB]
      refine zS ?_
      refine zL ?_
      refine runs_drw (by simp (maxSteps := 3000000) [-lenA, HH8, ↓hfr, ↓hrj, zI, ↓hrr, ↓hss, frz_mapI, HH14]; rfl) ?_
      simp only [zT, zB]
      refine zR (zO (by simp [-lenA, HH8, ↓hfr, ↓hrj, zI, ↓hrr, ↓hss, frz_mapI, HH14]; rfl) ?_)
      simp only [zT, zB]
      exact ⟨cs.length - (k + 1), _, _, by omega, by simp [-lenA, HH8, ↓hfr, ↓hrj, zI, ↓hrr, ↓hss, frz_mapI, HH14] <;> rfl, k + 1, i + 1, by omega, rfl, by omega, .inr ⟨p + 1, _, by omega, hnx, hnl, rfl⟩⟩
    ·have hx1 := of_decide_eq_false hlt
     have hkE : k = cs.length := by omega
     have htE : cs.take k = cs := List.take_of_length_le (by omega)
     rw [htE] at hac
     subst hac
     rw [encC_ne (by intro e; rw [e] at hacl; simp at hacl)]
     refine runs_exit ?_
     simp only [zT, zB, if_true, if_false, reduceIte, Nat.reduceEqDiff, Nat.succ_ne_zero, Nat.one_ne_zero, Nat.zero_ne_one]
     refine zS ?_
     refine zR (zO (by simp [-lenA, HH8, tk, hlac, hacl, hr3, ↓hfr, ↓hrj, frz_rowC]; rfl) ?_)
     simp only [zT, zB]
     refine runs_ret ?_
     refine ⟨by simp, _, by simp; rfl, [4], by simp, rfl, fun q hq b hb => ?_, by simp [keepB, keepA, looseV, looseA, hideK, trim, encC, okA, -lenA, HH8, tk, hlac, hacl, hr3, ↓hfr, ↓hrj, frz_rowC]⟩
     obtain rfl : q = 0 := by simp at hq; omega
     simpa [trim, tupA, rb_sl, lop, loud, callA, calleeA, -lenA, lim, gather, takeG, resG, getR, putR, putG, okG, lowR, lowA, frzG, rowAt, rbB_row, rbB_none, rb_ref, rb_any, rb_sl, norm, frN_int, frN_bool, frN_nils, frN_vl, frN_agg, frN_tup, frN_sl, frN_ref, frNB_none, frNB_row, above, HH8, tk, hlac, hacl, hr3, slE, List.all_map, Function.comp_def, ↓hfr, ↓hrj, List.all_append, frz_rowC] using hb
 ·obtain ⟨tt, rfl⟩ := dStops_get ht (k := 0) (by simp)
  have htl : tl.length + 1 ≤ 1048576 := by simp at hm3; omega
  have htr : ((tl.map rS3).all fun r => r.length == 3) = true := by simp [rS3]
  have hts : ((tl.map rS3).all fun r => r.all storable) = true := by simp [rS3]
  have tkt : (tl.map rS3).take tl.length = tl.map rS3 := List.take_of_length_le (by simp)
  have HH15 := zA fc (zA ft (zA rc (zA rt (zA lc (zA lt (zA cc1 (zA cc2 (zA ct1 (zA ct2 (zA htl tkt))))))))))
  refine zS ?_
  refine zR (zO (by simp [-lenA, rS3, ↓htr, ↓hts, frz_mapT, ↓rS3_rb, HH15]; rfl) ?_)
  simp only [zT, zB]
  refine zS ?_
  refine runs_drw (by simp (maxSteps := 3000000) [-lenA, rS3, ↓htr, ↓hts, frz_mapT, ↓rS3_rb, HH15]; rfl) ?_
  simp only [zT, zB]
  refine zS ?_
  refine zS ?_
  refine zR (zO (by simp [-lenA, rS3, ↓htr, ↓hts, frz_mapT, ↓rS3_rb, HH15]; rfl) ?_)
  simp only [zT, zB]
  refine zL ?_
  refine runs_loopG_inv (fun mm σ => ∃ (k : Nat) (i : Int), i = k ∧ cs.length - k = mm ∧ k ≤ cs.length ∧ ((k = 0 ∧ σ = ⟨[.any, .ref 0 0 0, .ref 1 0 0, .ref 9 0 0, I i, .any, .any, .any, .any, .any, .any, .any, .any, .any, .any, .any, .any, .any, .any, .any, .any, .any, .any, .any, .any, .any, .any, .any, .any, .any, .any, .any], [some (.row 3 [[I m, c, .vl ([I ta.1, I ta.2.1, I ta.2.2] :: tl.map rS3) tt]]), some (.row 3 [[I 0, .nils, .nils]]), none, none, some (.row 3 []), none, none, none, none, some (.row 3 [[I m, .nils, .sl 11 0 (tl.length + 1) false]]), none, some (.row 3 ([I ta.1, I ta.2.1, I ta.2.2] :: tl.map rS3)), none]⟩) ∨ (∃ (p : Nat) (ac : List (List Int)), k = p + 1 ∧ ac = cs.take k ∧ ac.length = p + 1 ∧ σ = ⟨[.any, .ref 0 0 0, .ref 1 0 0, .ref 9 0 0, I i, .any, .any, .any, .any, .any, .any, .any, .any, .any, .any, .any, .any, .any, .any, .any, .any, .any, .any, .any, .any, .any, .any, .any, .any, .any, .any, .any], [some (.row 3 [[I m, c, .vl ([I ta.1, I ta.2.1, I ta.2.2] :: tl.map rS3) tt]]), some (.row 3 [[I 0, .nils, .nils]]), none, none, some (.row 3 []), none, none, none, none, some (.row 3 [[I m, .sl 12 0 (p + 1) false, .sl 11 0 (tl.length + 1) false]]), none, some (.row 3 ([I ta.1, I ta.2.1, I ta.2.2] :: tl.map rS3)), some (.row 1 (ac.map rowC))]⟩))) (by simp [-lenA, rS3, ↓htr, ↓hts, frz_mapT, ↓rS3_rb, HH15] <;> first | exact ⟨rfl, rfl⟩ | rfl) (⟨0, 0, rfl, rfl, Nat.zero_le _, .inl ⟨rfl, rfl⟩⟩) ?_
  rintro mm σ ⟨k, i, hik, rfl, hkl, ⟨hk0', rfl⟩ | ⟨p, ac, hkp, hac, hacl, rfl⟩⟩
  ·refine zS ?_
   refine zS ?_
   refine zR (zO (by simp [-lenA, rS3, ↓htr, ↓hts, frz_mapT, ↓rS3_rb, HH15]; rfl) ?_)
   simp only [zT, zB]
   refine runs_cond_split (x := decide (i < (cs.length : Int))) (by simp) (fun hlt => ?_) (fun hlt => ?_)
   ·have hlt2 := of_decide_eq_true hlt
    have hk0 : k < cs.length := by omega
    have hEt : cs.take (k + 1) = cs.take k ++ [cs[k]] := List.take_succ_eq_append_getElem hk0
    obtain ⟨rs, tj, wv, rfl, hr1, hr2, hwv⟩ := dInts2_get hc hk0
    have hkr : k < rs.length := by omega
    have hr4 : ∀ h, rs[k]'h = [wv] := fun h => by rw [List.getElem?_eq_getElem h] at hr2; exact Option.some.inj hr2
    have rw5 := fun n d => dInts_rb hwv n d
    have fw5 := fun H d => dInts_frz hwv H d
    obtain ⟨cw1, cw2⟩ := dInts_cells hwv
    have hi0 : 0 ≤ i := by omega
    have htn : i.toNat = k := by omega
    have hwi : W .i64 (i + 1) = i + 1 := W_small (by omega)
    have hml := hm2 cs[k] (List.getElem_mem hk0)
    generalize hX : cs[k] = xm at *
    have hnx : [xm] = cs.take (k + 1) := by rw [hEt, hk0']; rfl
    have hap : [[encE xm]] = [xm].map rowC := rfl
    rcases xm with _ | ⟨a, l⟩
    ·simp only [encE] at hap
     rcases dInts_cases hwv with ⟨rfl, _⟩ | ⟨tt, rfl⟩
     ·have HH16 := zA hi0 (zA htn (zA hk0 (zA hX (zA hwi (zA hkr (zA hr2 (zA hr4 (zA rw5 (zA fw5 (zA cw1 cw2))))))))))
      refine zK ?_
      simp only [zT, zB]
      refine zS ?_
      refine zL ?_
      refine runs_drw (by simp (maxSteps := 3000000) [-lenA, rS3, ↓htr, ↓hts, frz_mapT, ↓rS3_rb, HH15, zI, HH16]; rfl) ?_
      simp only [zT, zB]
      refine zR (zO (by simp [-lenA, rS3, ↓htr, ↓hts, frz_mapT, ↓rS3_rb, HH15, zI, HH16]; rfl) ?_)
      simp only [zT, zB]
      exact ⟨cs.length - (k + 1), _, _, by omega, by simp [-lenA, rS3, ↓htr, ↓hts, frz_mapT, ↓rS3_rb, HH15, zI, HH16] <;> rfl, k + 1, i + 1, by omega, rfl, by omega, .inr ⟨0, _, by omega, hnx, rfl, rfl⟩⟩
     ·have HH17 := zA hi0 (zA htn (zA hk0 (zA hX (zA hwi (zA hkr (zA hr2 (zA hr4 (zA rw5 (zA fw5 (zA cw1 cw2))))))))))
      refine zK ?_
      simp only [zT, zB]
      refine zS ?_
      refine zL ?_
      refine runs_drw (by simp (maxSteps := 3000000) [-lenA, rS3, ↓htr, ↓hts, frz_mapT, ↓rS3_rb, HH15, zI, HH17]; rfl) ?_
      simp only [zT, zB]
      refine zR (zO (by simp [-lenA, rS3, ↓htr, ↓hts, frz_mapT, ↓rS3_rb, HH15, zI, HH17]; rfl) ?_)
      simp only [zT, zB]
      exact ⟨cs.length - (k + 1), _, _, by omega, by simp [-lenA, rS3, ↓htr, ↓hts, frz_mapT, ↓rS3_rb, HH15, zI, HH17] <;> rfl, k + 1, i + 1, by omega, rfl, by omega, .inr ⟨0, _, by omega, hnx, rfl, rfl⟩⟩
    ·obtain ⟨tt, rfl⟩ := dInts_get hwv (k := 0) (by simp)
     simp only [encE] at hap
     have hll : l.length + 1 ≤ 1048576 := by simp at hml; omega
     have hrr : ((l.map rI).all fun r => r.length == 1) = true := by simp [rI]
     have hss : ((l.map rI).all fun r => r.all storable) = true := by simp [rI]
     have tkl : (l.map rI).take l.length = l.map rI := List.take_of_length_le (by simp)
     have HH18 := zA hi0 (zA htn (zA hk0 (zA hX (zA hwi (zA hkr (zA hr2 (zA hr4 (zA rw5 (zA fw5 (zA cw1 (zA cw2 (zA hll tkl))))))))))))
     refine zK ?_
     simp only [zT, zB]
     refine zS ?_
     refine zL ?_
     refine runs_drw (by simp (maxSteps := 3000000) [-lenA, rS3, ↓htr, ↓hts, frz_mapT, ↓rS3_rb, HH15, zI, ↓hrr, ↓hss, frz_mapI, HH18]; rfl) ?_
     simp only [zT, zB]
     refine zR (zO (by simp [-lenA, rS3, ↓htr, ↓hts, frz_mapT, ↓rS3_rb, HH15, zI, ↓hrr, ↓hss, frz_mapI, HH18]; rfl) ?_)
     simp only [zT, zB]
     exact ⟨cs.length - (k + 1), _, _, by omega, by simp [-lenA, rS3, ↓htr, ↓hts, frz_mapT, ↓rS3_rb, HH15, zI, ↓hrr, ↓hss, frz_mapI, HH18] <;> rfl, k + 1, i + 1, by omega, rfl, by omega, .inr ⟨0, _, by omega, hnx, rfl, rfl⟩⟩
   ·have hx1 := of_decide_eq_false hlt
    have hkE : k = cs.length := by omega
    have htE : cs.take k = cs := List.take_of_length_le (by omega)
    have hE0 : cs = [] := List.eq_nil_of_length_eq_zero (by omega)
    subst hE0
    refine runs_exit ?_
    simp only [zT, zB, if_true, if_false, reduceIte, Nat.reduceEqDiff, Nat.succ_ne_zero, Nat.one_ne_zero, Nat.zero_ne_one]
    refine zS ?_
    refine zR (zO (by simp [-lenA, rS3, ↓htr, ↓hts, frz_mapT, ↓rS3_rb, HH15]; rfl) ?_)
    simp only [zT, zB]
    refine runs_ret ?_
    refine ⟨by simp, _, by simp; rfl, [11], by simp, rfl, fun q hq b hb => ?_, by simp [keepB, keepA, looseV, looseA, hideK, trim, encC, okA, -lenA, rS3, ↓htr, ↓hts, frz_mapT, ↓rS3_rb, HH15]⟩
    obtain rfl : q = 0 := by simp at hq; omega
    simpa [trim, tupA, rb_sl, lop, loud, callA, calleeA, -lenA, lim, gather, takeG, resG, getR, putR, putG, okG, lowR, lowA, frzG, rowAt, rbB_row, rbB_none, rb_ref, rb_any, rb_sl, norm, frN_int, frN_bool, frN_nils, frN_vl, frN_agg, frN_tup, frN_sl, frN_ref, frNB_none, frNB_row, above, rS3, ↓htr, ↓hts, frz_mapT, ↓rS3_rb, HH15] using hb
  ·have tk : (ac.map rowC).take (p + 1) = ac.map rowC := List.take_of_length_le (by simp [hacl])
   have hlac : p + 1 + 1 ≤ 1048576 := by omega
   have hr3 : ∀ e : List Int, (rowC e).length = 1 := fun _ => rfl
   have hfr := fun n h r => optAll_snoc (frN_rowC n h ac) r
   have hrj := rowC_rb 12 4 ac
   refine zS ?_
   refine zS ?_
   refine zR (zO (by simp [-lenA, rS3, ↓htr, ↓hts, frz_mapT, ↓rS3_rb, HH15, tk, hlac, hacl, hr3, ↓hfr, ↓hrj]; rfl) ?_)
   simp only [zT, zB]
   refine runs_cond_split (x := decide (i < (cs.length : Int))) (by simp) (fun hlt => ?_) (fun hlt => ?_)
   ·have hlt2 := of_decide_eq_true hlt
    have hk0 : k < cs.length := by omega
    have hEt : cs.take (k + 1) = cs.take k ++ [cs[k]] := List.take_succ_eq_append_getElem hk0
    obtain ⟨rs, tj, wv, rfl, hr1, hr2, hwv⟩ := dInts2_get hc hk0
    have hkr : k < rs.length := by omega
    have hr4 : ∀ h, rs[k]'h = [wv] := fun h => by rw [List.getElem?_eq_getElem h] at hr2; exact Option.some.inj hr2
    have rw5 := fun n d => dInts_rb hwv n d
    have fw5 := fun H d => dInts_frz hwv H d
    obtain ⟨cw1, cw2⟩ := dInts_cells hwv
    have hi0 : 0 ≤ i := by omega
    have htn : i.toNat = k := by omega
    have hwi : W .i64 (i + 1) = i + 1 := W_small (by omega)
    have hml := hm2 cs[k] (List.getElem_mem hk0)
    generalize hX : cs[k] = xm at *
    have hnx : ac ++ [xm] = cs.take (k + 1) := by rw [hEt, ← hac]
    have hnl : (ac ++ [xm]).length = p + 1 + 1 := by simp [hacl]
    have hap : ac.map rowC ++ [[encE xm]] = (ac ++ [xm]).map rowC := by rw [List.map_append]; rfl
    rcases xm with _ | ⟨a, l⟩
    ·simp only [encE] at hap
     rcases dInts_cases hwv with ⟨rfl, _⟩ | ⟨tt, rfl⟩
     ·have HH19 := zA tk (zA hlac (zA hacl (zA hr3 (zA hi0 (zA htn (zA hk0 (zA hX (zA hwi (zA hkr (zA hr2 (zA hr4 (zA rw5 (zA fw5 (zA cw1 (zA cw2 hap)))))))))))))))
      refine zK ?_
      simp only [zT, zB]
      refine zS ?_
      refine zL ?_
      refine runs_drw (by simp (maxSteps := 3000000) [-lenA, rS3, ↓htr, ↓hts, frz_mapT, ↓rS3_rb, HH15, ↓hfr, ↓hrj, zI, HH19]; rfl) ?_
      simp only [zT, zB]
      refine zR (zO (by simp [-lenA, rS3, ↓htr, ↓hts, frz_mapT, ↓rS3_rb, HH15, ↓hfr, ↓hrj, zI, HH19]; rfl) ?_)
      simp only [zT, zB]
      exact ⟨cs.length - (k + 1), _, _, by omega, by simp [-lenA, rS3, ↓htr, ↓hts, frz_mapT, ↓rS3_rb, HH15, ↓hfr, ↓hrj, zI, HH19] <;> rfl, k + 1, i + 1, by omega, rfl, by omega, .inr ⟨p + 1, _, by omega, hnx, hnl, rfl⟩⟩
     ·have HH20 := zA tk (zA hlac (zA hacl (zA hr3 (zA hi0 (zA htn (zA hk0 (zA hX (zA hwi (zA hkr (zA hr2 (zA hr4 (zA rw5 (zA fw5 (zA cw1 (zA cw2 hap)))))))))))))))
      refine zK ?_
      simp only [zT, zB]
      refine zS ?_
      refine zL ?_
      refine runs_drw (by simp (maxSteps := 3000000) [-lenA, rS3, ↓htr, ↓hts, frz_mapT, ↓rS3_rb, HH15, ↓hfr, ↓hrj, zI, HH20]; rfl) ?_
      simp only [zT, zB]
      refine zR (zO (by simp [-lenA, rS3, ↓htr, ↓hts, frz_mapT, ↓rS3_rb, HH15, ↓hfr, ↓hrj, zI, HH20]; rfl) ?_)
      simp only [zT, zB]
      exact ⟨cs.length - (k + 1), _, _, by omega, by simp [-lenA, rS3, ↓htr, ↓hts, frz_mapT, ↓rS3_rb, HH15, ↓hfr, ↓hrj, zI, HH20] <;> rfl, k + 1, i + 1, by omega, rfl, by omega, .inr ⟨p + 1, _, by omega, hnx, hnl, rfl⟩⟩
    ·obtain ⟨tt, rfl⟩ := dInts_get hwv (k := 0) (by simp)
     simp only [encE] at hap
     have hll : l.length + 1 ≤ 1048576 := by simp at hml; omega
     have hrr : ((l.map rI).all fun r => r.length == 1) = true := by simp [rI]
     have hss : ((l.map rI).all fun r => r.all storable) = true := by simp [rI]
     have tkl : (l.map rI).take l.length = l.map rI := List.take_of_length_le (by simp)
     have HH21 := zA tk (zA hlac (zA hacl (zA hr3 (zA hi0 (zA htn (zA hk0 (zA hX (zA hwi (zA hkr (zA hr2 (zA hr4 (zA rw5 (zA fw5 (zA cw1 (zA cw2 (zA hll (zA tkl hap)))))))))))))))))
     have HH22 := zA htr (zA hts (zA hfr (zA hrj (zA hrr hss))))
     refine zK ?_
     simp only [zT, zB]
     refine zS ?_
     refine zL ?_
     refine runs_drw (by simp (maxSteps := 3000000) [-lenA, rS3, frz_mapT, ↓rS3_rb, HH15, zI, frz_mapI, HH21, ↓HH22]; rfl) ?_
     simp only [zT, zB]
     refine zR (zO (by simp [-lenA, rS3, frz_mapT, ↓rS3_rb, HH15, zI, frz_mapI, HH21, ↓HH22]; rfl) ?_)
     simp only [zT, zB]
     exact ⟨cs.length - (k + 1), _, _, by omega, by simp [-lenA, rS3, frz_mapT, ↓rS3_rb, HH15, zI, frz_mapI, HH21, ↓HH22] <;> rfl, k + 1, i + 1, by omega, rfl, by omega, .inr ⟨p + 1, _, by omega, hnx, hnl, rfl⟩⟩
   ·have hx1 := of_decide_eq_false hlt
    have hkE : k = cs.length := by omega
    have htE : cs.take k = cs := List.take_of_length_le (by omega)
    rw [htE] at hac
    subst hac
    rw [encC_ne (by intro e; rw [e] at hacl; simp at hacl)]
    refine runs_exit ?_
    simp only [zT, zB, if_true, if_false, reduceIte, Nat.reduceEqDiff, Nat.succ_ne_zero, Nat.one_ne_zero, Nat.zero_ne_one]
    refine zS ?_
    refine zR (zO (by simp [-lenA, rS3, ↓htr, ↓hts, frz_mapT, ↓rS3_rb, HH15, tk, hlac, hacl, hr3, ↓hfr, ↓hrj, frz_rowC]; rfl) ?_)
    simp only [zT, zB]
    refine runs_ret ?_
    refine ⟨by simp, _, by simp; rfl, [11], by simp, rfl, fun q hq b hb => ?_, by simp [keepB, keepA, looseV, looseA, hideK, trim, encC, okA, -lenA, rS3, ↓htr, ↓hts, frz_mapT, ↓rS3_rb, HH15, tk, hlac, hacl, hr3, ↓hfr, ↓hrj, frz_rowC]⟩
    obtain rfl : q = 0 := by simp at hq; omega
    simpa [trim, tupA, rb_sl, lop, loud, callA, calleeA, -lenA, lim, gather, takeG, resG, getR, putR, putG, okG, lowR, lowA, frzG, rowAt, rbB_row, rbB_none, rb_ref, rb_any, rb_sl, norm, frN_int, frN_bool, frN_nils, frN_vl, frN_agg, frN_tup, frN_sl, frN_ref, frNB_none, frNB_row, above, rS3, ↓htr, ↓hts, frz_mapT, ↓rS3_rb, HH15, tk, hlac, hacl, hr3, slE, List.all_map, Function.comp_def, ↓hfr, ↓hrj, List.all_append, frz_rowC] using hb
theorem a16f (P : Program) (T : Nat → Option CFn) (hT : T 16 = some c16) (h59 : T 59 = some { c59 with body := annK [(30, [.cell 3 1])] [] c59.body, frsh := false, orc := fun _ => none, eff := freshE false sOwn }) (m : Int) (c t : AVal) (cs : List (List Int)) (ts : List FStop) (hc : dInts2 c = some cs) (ht : dStops t = some ts) (hm1 : cs.length ≤ 1000) (hm2 : ∀ x ∈ cs, x.length ≤ 1000) (hm3 : ts.length ≤ 1000) : Answers P T 16 [.agg [I m, c, t]] [] fun v1 h1 => ∃ K : List Nat, K.Nodup ∧ K.length = [some (Blk.row 3 (ts.map rS3))].length ∧ (∀ p (hp : p < K.length) b, [some (Blk.row 3 (ts.map rS3))][p]? = some (some b) → h1[K[p]]? = some (some b)) ∧ keepB false K h1 (looseV v1) = some (.agg [I m, encC cs, .sl 0 0 ts.length false]) := by
 have fc := fun H d => dInts2_frz hc H d
 have ft := fun H d => dStops_frz ht H d
 have rc := fun n d => dInts2_rb hc n d
 have rt := fun n d => dStops_rb ht n d
 obtain ⟨cc1, cc2⟩ := dInts2_cells hc
 obtain ⟨ct1, ct2⟩ := dStops_cells ht
 have h := sOwn_eq (m := m) hc ht ⟨hm1, hm2, hm3⟩
 have he := dInts2_encC cs
 have hok : ((ts.map rS3).all fun x => x.all (okA false)) = true := okS3 ts
 generalize encC cs = e at *
 obtain ⟨ke1, ke2, ke3⟩ := keep_ints2 he
 have fe := fun H d => dInts2_frz he H d
 have re := fun n d => dInts2_rb he n d
 obtain ⟨ce1, ce2⟩ := dInts2_cells he
 refine answers_of hT (orcF_none rfl) ?_
 simp only [oo, om, op, og, ci, cl, c16]
 have HH1 := zA h59 (zA fc (zA ft (zA rc (zA rt (zA cc1 (zA cc2 (zA ct1 (zA ct2 (zA h (zA fe (zA re (zA ce1 ce2))))))))))))
 refine zS ?_
 refine zR (zO (by simp [callF_eff h59 rfl, ↓orc_nil, freshE, backB, backB1, okA, okBlk, plainA, ↓ke2, ↓hok, HH1]; rfl) ?_)
 simp only [zT, zB]
 refine zS ?_
 refine zR (zO (by simp [callF_eff h59 rfl, ↓orc_nil, freshE, backB, backB1, okA, okBlk, plainA, ↓ke2, ↓hok, HH1]; rfl) ?_)
 simp only [zT, zB]
 refine runs_ret ?_
 refine ⟨by simp, _, by simp; rfl, [2], by simp, rfl, fun q hq b hb => ?_, by simp [keepB, keepA, looseV, looseA, okA, ↓ke1, ↓ke3, trim, re]⟩
 obtain rfl : q = 0 := by simp at hq; omega
 simpa [trim, tupA, rb_sl, re] using hb
end
end Go.Proofs.YtjjapdagllclkaaGreat.Tab

namespace Go.Proofs.YtjjapdagllclkaaGreat.Tab
open Go Go.Abs Go.Proofs
set_option maxRecDepth 100000
set_option maxHeartbeats 4000000
set_option linter.unusedSimpArgs false
set_option linter.unusedVariables false
section
attribute [local simp] frz_int frz_bool frz_vl frz_pv frz_agg frz_tup frz_fn frz_ref frz_sl frz_nils optAll orcF rb_int rb_bool rb_agg rb_tup rb_int' rb_bool' rb_vl rb_pv rb_yld rb_nilf rb_nilp rb_nils rb_any rb_und rb_ref rb_sl rb_fn slE chunk fillA evParts evParts3 putAt List.range_succ List.range_zero List.range'_succ List.range'_zero runX_nil' unary_not evalS_pure evAll_nil evAll_cons runX_cons stepX wantedA dop CV.ev putK_eq setK_eq appK_eq fA_eq fI_eq fN_eq fRow_eq fRows_eq nth_eq Out.v putT List.replicate_succ zT zB arI pointee Abs.rowAt ldRow allV toV toC ofV ofC Builtin.min_ Builtin.min2 Builtin.max_ Builtin.max2 min_if max_if resA tupA kill trim_self trim_len trim_emp trim_nil lenA
attribute [local simp] runD_nil' runD_cons' stepD actK_eq actD clash disj masks holes maskH unmaskH diffs news eqB allB eqA ldRowN wrote toCs ofCs stA rowsV_vl rowsV_nils rowsOf dI1 dI2 dI3 dI5 elt
attribute [local simp] st_any st_und st_agg st_tup st_bool st_int st_nilp st_ref st_pv st_nils st_sl st_vl st_nilm st_mp st_fn st_nilf st_yld co_any co_und co_agg co_tup co_bool co_int co_nilp co_ref co_pv co_nils co_sl co_vl co_nilm co_mp co_fn co_nilf co_yld
attribute [local simp] Function.comp_def List.all_append List.all_map callA calleeA frzG gather getR lim lop loud lowA lowR okG putG putH putR rbB_none rbB_row resG rowAt setH takeG
noncomputable def FRG : Nat → Option CFn := updG FR 37 [(898, [.slot 7])] []
theorem FRG_ok : TabOk Tryz.prog GG FRG := tab_updG FR_ok
theorem latesR_good : ∀ args v, oLatesR args = some v → OrcGood Tryz.prog GG true 37 args v := fun args v ho => by
  unfold oLatesR at ho; split at ho <;> (try simp only [reduceCtorEq] at ho)
  rename_i m c t j o
  split at ho <;> (try simp only [reduceCtorEq] at ho)
  rename_i cs ts js os hc ht hj ho2
  split at ho <;> (try simp only [reduceCtorEq] at ho)
  rename_i hg
  simp only [Option.some.injEq] at ho
  subst ho
  exact orc_of mixed FRG_ok (a37 Tryz.prog FRG rfl rfl ⟨m, cs, ts⟩ js c t j hc ht hj o os ho2 hg)
theorem break_good : ∀ args v, oBreak args = some v → OrcGood Tryz.prog GG true 35 args v := fun args v ho => by
  unfold oBreak at ho; split at ho <;> (try simp only [reduceCtorEq] at ho)
  rename_i m c rs tt j o a f u
  split at ho <;> (try simp only [reduceCtorEq] at ho)
  rename_i cs ts js os hc hr hj ho2
  split at ho <;> (try simp only [reduceCtorEq] at ho)
  rename_i hg
  simp only [Option.some.injEq] at ho
  subst ho
  have hrs : rs = ts.map rS3 := optAll_eq (enc := rS3) dI3_eq hr
  subst hrs
  exact orc_of mixed FJA_ok (a35 Tryz.prog FJA rfl rfl rfl rfl rfl rfl rfl rfl ⟨m, cs, ts⟩ js c _ j hc (dStops_of rfl) hj o os ho2 ⟨size_ok.1 hg.1, hg.2⟩ tt rfl a f u)
noncomputable def FRB1 : Nat → Option CFn := upd FR 59 false (fun _ => none)
theorem FRB1_ok : TabOk Tryz.prog GG FRB1 := tab_add mixed FR_ok fun args v ho => by simp at ho
theorem sOwn_at {P : Program} {T : Nat → Option CFn} {f : Nat} (hf : ∀ (m : Int) (c t : AVal) (cs : List (List Int)) (ts : List FStop) (hc : dInts2 c = some cs) (ht : dStops t = some ts) (hm1 : cs.length ≤ 1000) (hm2 : ∀ x ∈ cs, x.length ≤ 1000) (hm3 : ts.length ≤ 1000), Answers P T f [.agg [I m, c, t]] [] fun v1 h1 => ∃ K : List Nat, K.Nodup ∧ K.length = [some (Blk.row 3 (ts.map rS3))].length ∧ (∀ p (hp : p < K.length) b, [some (Blk.row 3 (ts.map rS3))][p]? = some (some b) → h1[K[p]]? = some (some b)) ∧ keepB false K h1 (looseV v1) = some (.agg [I m, encC cs, .sl 0 0 ts.length false])) :
    ∀ args v hs, sOwn args = some (v, hs) → Answers P T f args [] fun v1 h1 => ∃ K : List Nat, K.Nodup ∧ K.length = hs.length ∧ (∀ p (hp : p < K.length) b, hs[p]? = some (some b) → h1[K[p]]? = some (some b)) ∧ keepB false K h1 (looseV v1) = some v := fun args v hs ho => by
  unfold sOwn at ho; split at ho <;> (try simp only [reduceCtorEq] at ho)
  rename_i m c t
  split at ho <;> (try simp only [reduceCtorEq] at ho)
  rename_i cs ts hc ht
  split at ho <;> (try simp only [reduceCtorEq] at ho)
  rename_i hg
  simp only [Option.some.injEq, Prod.mk.injEq] at ho
  obtain ⟨rfl, rfl⟩ := ho
  exact hf m c t cs ts hc ht hg.1 hg.2.1 hg.2.2
noncomputable def FRB2 : Nat → Option CFn := updE FRB1 59 (freshE false sOwn)
theorem FRB2_ok : TabOk Tryz.prog GG FRB2 := tab_fresh2 mixed FRB1_ok (sOwn_at (a59f Tryz.prog FRB1 rfl))
noncomputable def FRB3 : Nat → Option CFn := upd FRB2 16 false (fun _ => none)
theorem FRB3_ok : TabOk Tryz.prog GG FRB3 := tab_add mixed FRB2_ok fun args v ho => by simp at ho
noncomputable def FRB4 : Nat → Option CFn := updE FRB3 16 (freshE false sOwn)
theorem FRB4_ok : TabOk Tryz.prog GG FRB4 := tab_fresh2 mixed FRB3_ok (sOwn_at (a16f Tryz.prog FRB3 rfl rfl))
noncomputable def FRB5 : Nat → Option CFn := upd FRB4 35 true oBreak
theorem FRB5_ok : TabOk Tryz.prog GG FRB5 := tab_upd FRB4_ok break_good
noncomputable def FRB6 : Nat → Option CFn := upd FRB5 37 true oLatesR
theorem FRB6_ok : TabOk Tryz.prog GG FRB6 := tab_upd FRB5_ok latesR_good
noncomputable def FRB : Nat → Option CFn := updG FRB6 6 [(248834, [.slot 14])] []
theorem FRB_ok : TabOk Tryz.prog GG FRB := tab_updG FRB6_ok
theorem a6 (P : Program) (T : Nat → Option CFn) (hT : T 6 = some { c6 with body := annK [(248834, [.slot 14])] [] c6.body }) (h14 : T 14 = some { c14 with frsh := true, orc := oLarge }) (h15 : T 15 = some { c15 with frsh := true, orc := oKn }) (h17 : T 17 = some { c17 with frsh := false, orc := oJobs }) (h18 : T 18 = some { c18 with frsh := true, orc := oInts }) (h21 : T 21 = some { c21 with frsh := true, orc := oSame }) (h22 : T 22 = some { c22 with frsh := true, orc := oEqual }) (h23 : T 23 = some { c23 with frsh := true, orc := oIntsEq }) (h24 : T 24 = some { c24 with frsh := true, orc := oCheck }) (h25 : T 25 = some { c25 with frsh := true, orc := oOrdR }) (h35 : T 35 = some { c35 with frsh := true, orc := oBreak }) (h36 : T 36 = some { c36 with frsh := true, orc := oStopR }) (h37 : T 37 = some { c37 with frsh := true, orc := oLatesR }) (h16 : T 16 = some { c16 with frsh := false, orc := fun _ => none, eff := freshE false sOwn }) (s : FShop) (js : List FJob) (c t j : AVal) (hc : dInts2 c = some s.chg) (ht : dStops t = some s.stops) (hj : dJobs j = some js) (o : AVal) (os : List Int) (ho : dInts o = some os) (a1 f1 u1 : Int) : Answers P T 6 [.agg [I s.mach, c, t], j, .agg [o, I a1, I f1, I u1]] [] fun v h => v = .bool true := by
 have fc := fun H d => dInts2_frz hc H d
 have ft := fun H d => dStops_frz ht H d
 have fj := fun H d => dJobs_frz hj H d
 have rc := fun n d => dInts2_rb hc n d
 have rt := fun n d => dStops_rb ht n d
 have rj := fun n d => dJobs_rb hj n d
 have lc := dInts2_len hc
 have lt := dStops_len ht
 have lj := dJobs_len hj
 obtain ⟨cc1, cc2⟩ := dInts2_cells hc
 obtain ⟨ct1, ct2⟩ := dStops_cells ht
 obtain ⟨cj1, cj2⟩ := dJobs_cells hj
 have fo := fun H d => dInts_frz ho H d
 have ro := fun n d => dInts_rb ho n d
 have lo := dInts_len ho
 obtain ⟨co1, co2⟩ := dInts_cells ho
 have hlg := large_eq hc ht hj 6
 generalize hL : largeB s js 6 = bL at hlg
 refine answers_of hT (orcF_none rfl) ?_
 simp only [oo, om, op, og, ci, cl, c6, annK, lkG, lkR, reduceIte, Nat.reduceEqDiff, reduceCtorEq, List.cons.injEq, and_true, and_false, false_and, true_and]
 rcases bL with _ | _
 ·by_cases hol : 20 < (os.length : Int)
  ·have HH1 := zA h14 (zA h15 (zA h17 (zA h18 (zA h21 (zA h22 (zA h23 (zA h24 (zA h25 (zA h35 (zA h36 (zA h37 (zA h16 (zA fc (zA ft (zA fj (zA rc (zA rt (zA rj (zA lc (zA lt (zA lj (zA cc1 (zA cc2 (zA ct1 (zA ct2 (zA cj1 (zA cj2 (zA fo (zA ro (zA lo (zA co1 (zA co2 (zA hlg hol)))))))))))))))))))))))))))))))))
   refine zS ?_
   refine zR (zO (by simp [zC h14, zC h15, zC h17, zC h18, zC h21, zC h22, zC h23, zC h24, zC h25, zC h35, zC h36, zC h37, callF_eff h16 rfl, ↓orc_nil, freshE, backB, backB1, okA, okBlk, plainA, -lenA, oKn, HH1]; rfl) ?_)
   simp only [zT, zB]
   refine zS ?_
   refine zS ?_
   refine zR (zO (by simp [zC h14, zC h15, zC h17, zC h18, zC h21, zC h22, zC h23, zC h24, zC h25, zC h35, zC h36, zC h37, callF_eff h16 rfl, ↓orc_nil, freshE, backB, backB1, okA, okBlk, plainA, -lenA, oKn, HH1]; rfl) ?_)
   simp only [zT, zB]
   refine runs_cond (x := true) (by simp [hol]) ?_
   refine zS ?_
   refine zR (zO (by simp [zC h14, zC h15, zC h17, zC h18, zC h21, zC h22, zC h23, zC h24, zC h25, zC h35, zC h36, zC h37, callF_eff h16 rfl, ↓orc_nil, freshE, backB, backB1, okA, okBlk, plainA, -lenA, oKn, HH1]; rfl) ?_)
   simp only [zT, zB]
   refine runs_ret ?_
   simp [zC h14, zC h15, zC h17, zC h18, zC h21, zC h22, zC h23, zC h24, zC h25, zC h35, zC h36, zC h37, callF_eff h16 rfl, ↓orc_nil, freshE, backB, backB1, okA, okBlk, plainA, -lenA, oKn, HH1]
  ·have hol2 : ¬ (20 < (os.length : Int)) := by omega
   have HH2 := zA h14 (zA h15 (zA h17 (zA h18 (zA h21 (zA h22 (zA h23 (zA h24 (zA h25 (zA h35 (zA h36 (zA h37 (zA h16 (zA fc (zA ft (zA fj (zA rc (zA rt (zA rj (zA lc (zA lt (zA lj (zA cc1 (zA cc2 (zA ct1 (zA ct2 (zA cj1 (zA cj2 (zA fo (zA ro (zA lo (zA co1 (zA co2 (zA hlg hol2)))))))))))))))))))))))))))))))))
   refine zS ?_
   refine zR (zO (by simp [zC h14, zC h15, zC h17, zC h18, zC h21, zC h22, zC h23, zC h24, zC h25, zC h35, zC h36, zC h37, callF_eff h16 rfl, ↓orc_nil, freshE, backB, backB1, okA, okBlk, plainA, -lenA, oKn, HH2]; rfl) ?_)
   simp only [zT, zB]
   refine zS ?_
   refine zS ?_
   refine zR (zO (by simp [zC h14, zC h15, zC h17, zC h18, zC h21, zC h22, zC h23, zC h24, zC h25, zC h35, zC h36, zC h37, callF_eff h16 rfl, ↓orc_nil, freshE, backB, backB1, okA, okBlk, plainA, -lenA, oKn, HH2]; rfl) ?_)
   simp only [zT, zB]
   refine runs_cond (x := false) (by simp [hol2]) ?_
   obtain ⟨hsz, hk1, hk2, _, hst20⟩ := large_no hL
   have hcopy := sOwn_eq (m := s.mach) hc ht hk1
   have hwork := jobs_eq hj hk2
   have hints := ints_eq ho (by omega)
   have hc2 := dInts2_encC s.chg
   have ht2 : dStops (.vl (s.stops.map rS3) false) = some s.stops := dStops_of rfl
   have hj2 := dJobs_encJ js
   have ho2 := dInts_encE os
   have hok3 : ((s.stops.map rS3).all fun x => x.all (okA false)) = true := okS3 s.stops
   obtain ⟨ke1, ke2, ke3⟩ := keep_ints2 hc2
   generalize encC s.chg = c2 at *
   generalize encJ js = j2 at *
   generalize encE os = o2 at *
   have hck0 := check_eq hc ht hj hsz
   have hsame := same_eq (m := s.mach) hc2 ht2 hc ht hk1
   have heq := equal_eq hj2 hj hk2
   have hin := intsEq_eq ho2 ho (by omega)
   have hor := ordR_eq ho (n := js.length) (by omega)
   have hbr := break_eq (tt := false) hc2 hj2 ho2 hsz (by omega) a1 f1 u1
   have tkS : (s.stops.map rS3).take s.stops.length = s.stops.map rS3 := List.take_of_length_le (by simp)
   have fzS := fun nv H d => frz_mapT nv H d s.stops
   have rbS1 := fun n => rS3_rb n 4 s.stops
   have fcc := fun H d => dInts2_frz hc2 H d
   have rcc := fun n d => dInts2_rb hc2 n d
   have lcc := dInts2_len hc2
   obtain ⟨ccc1, ccc2⟩ := dInts2_cells hc2
   have fjj := fun H d => dJobs_frz hj2 H d
   have rjj := fun n d => dJobs_rb hj2 n d
   have ljj := dJobs_len hj2
   obtain ⟨cjj1, cjj2⟩ := dJobs_cells hj2
   have foo := fun H d => dInts_frz ho2 H d
   have roo := fun n d => dInts_rb ho2 n d
   have loo := dInts_len ho2
   obtain ⟨coo1, coo2⟩ := dInts_cells ho2
   by_cases h0 : shopE s js = 0
   ·rcases hob : ordB os js.length with _ | _
    ·have hne : ordE s js os = 6 := by unfold ordE; rw [if_pos h0, if_neg (by rw [hob]; simp)]
     have hbe : brkE s js os (a1, f1, u1) = 6 := by unfold brkE; rw [hne]; rfl
     have hbv : brkV s js os (a1, f1, u1) = .nils := by unfold brkV; rw [hbe]; rfl
     rw [hbe, hbv] at hbr
     have HH3 := zA hcopy (zA hwork (zA hints (zA hck0 (zA hsame (zA heq (zA hin (zA hor (zA hbr (zA fcc (zA rcc (zA lcc (zA ccc1 (zA ccc2 (zA fjj (zA rjj (zA ljj (zA cjj1 (zA cjj2 (zA foo (zA roo (zA loo (zA coo1 (zA coo2 (zA h0 hob))))))))))))))))))))))))
     have HH4 := zA hok3 (zA ke2 (zA tkS (zA fzS rbS1)))
     refine zK ?_
     simp only [zT, zB]
     refine zS ?_
     refine runs_drw (by simp (maxSteps := 3000000) [zC h14, zC h15, zC h17, zC h18, zC h21, zC h22, zC h23, zC h24, zC h25, zC h35, zC h36, zC h37, callF_eff h16 rfl, ↓orc_nil, freshE, backB, backB1, okA, okBlk, plainA, -lenA, oKn, HH2, HH3, ↓HH4]; rfl) ?_
     simp only [zT, zB]
     refine zS ?_
     refine zR (zO (by simp [zC h14, zC h15, zC h17, zC h18, zC h21, zC h22, zC h23, zC h24, zC h25, zC h35, zC h36, zC h37, callF_eff h16 rfl, ↓orc_nil, freshE, backB, backB1, okA, okBlk, plainA, -lenA, oKn, HH2, HH3, ↓HH4]; rfl) ?_)
     simp only [zT, zB]
     refine zS ?_
     refine zS ?_
     refine zR (zO (by simp [zC h14, zC h15, zC h17, zC h18, zC h21, zC h22, zC h23, zC h24, zC h25, zC h35, zC h36, zC h37, callF_eff h16 rfl, ↓orc_nil, freshE, backB, backB1, okA, okBlk, plainA, -lenA, oKn, HH2, HH3, ↓HH4]; rfl) ?_)
     simp only [zT, zB]
     refine runs_cond (x := false) (by simp) ?_
     refine zK ?_
     simp only [zT, zB]
     refine zS ?_
     refine zR (zO (by simp [zC h14, zC h15, zC h17, zC h18, zC h21, zC h22, zC h23, zC h24, zC h25, zC h35, zC h36, zC h37, callF_eff h16 rfl, ↓orc_nil, freshE, backB, backB1, okA, okBlk, plainA, -lenA, oKn, HH2, HH3, ↓HH4]; rfl) ?_)
     simp only [zT, zB]
     refine zS ?_
     refine zL ?_
     refine zS ?_
     refine zR (zO (by simp [zC h14, zC h15, zC h17, zC h18, zC h21, zC h22, zC h23, zC h24, zC h25, zC h35, zC h36, zC h37, callF_eff h16 rfl, ↓orc_nil, freshE, backB, backB1, okA, okBlk, plainA, -lenA, oKn, HH2, HH3, ↓HH4]; rfl) ?_)
     simp only [zT, zB]
     refine runs_cond (x := false) (by simp) ?_
     refine zS ?_
     refine zR (zO (by simp [zC h14, zC h15, zC h17, zC h18, zC h21, zC h22, zC h23, zC h24, zC h25, zC h35, zC h36, zC h37, callF_eff h16 rfl, ↓orc_nil, freshE, backB, backB1, okA, okBlk, plainA, -lenA, oKn, HH2, HH3, ↓HH4]; rfl) ?_)
     simp only [zT, zB]
     refine runs_cond (x := true) (by simp) ?_
     refine zR (zO (by simp [zC h14, zC h15, zC h17, zC h18, zC h21, zC h22, zC h23, zC h24, zC h25, zC h35, zC h36, zC h37, callF_eff h16 rfl, ↓orc_nil, freshE, backB, backB1, okA, okBlk, plainA, -lenA, oKn, HH2, HH3, ↓HH4]; rfl) ?_)
     simp only [zT, zB]
     refine zS ?_
     refine zS ?_
     refine zR (zO (by simp [zC h14, zC h15, zC h17, zC h18, zC h21, zC h22, zC h23, zC h24, zC h25, zC h35, zC h36, zC h37, callF_eff h16 rfl, ↓orc_nil, freshE, backB, backB1, okA, okBlk, plainA, -lenA, oKn, HH2, HH3, ↓HH4]; rfl) ?_)
     simp only [zT, zB]
     refine runs_cond (x := true) (by simp) ?_
     refine zS ?_
     refine zR (zO (by simp [zC h14, zC h15, zC h17, zC h18, zC h21, zC h22, zC h23, zC h24, zC h25, zC h35, zC h36, zC h37, callF_eff h16 rfl, ↓orc_nil, freshE, backB, backB1, okA, okBlk, plainA, -lenA, oKn, HH2, HH3, ↓HH4]; rfl) ?_)
     simp only [zT, zB]
     refine runs_ret ?_
     simp [zC h14, zC h15, zC h17, zC h18, zC h21, zC h22, zC h23, zC h24, zC h25, zC h35, zC h36, zC h37, callF_eff h16 rfl, ↓orc_nil, freshE, backB, backB1, okA, okBlk, plainA, -lenA, oKn, HH2, HH3, ↓HH4]
    ·have hctx := ctx_of h0 hob
     have hordE := ordE_of h0 hob
     have hsh := hctx.ok
     have hmach := hsh.mach
     have hstp := stopR_eq (x1 := a1) (x2 := f1) (x3 := u1) hc ht hmach
     by_cases h10 : s.stops.length = 10
     ·have hbe : brkE s js os (a1, f1, u1) = 5 := by unfold brkE; rw [if_pos hordE, if_pos h10]
      have hbv : brkV s js os (a1, f1, u1) = .nils := by unfold brkV; rw [hbe]; rfl
      rw [hbe, hbv] at hbr
      have h10j : ((s.stops.length : Int) == 10) = true := by simp [h10]
      have HH5 := zA hcopy (zA hwork (zA hints (zA hck0 (zA hsame (zA heq (zA hin (zA hor (zA hbr (zA fcc (zA rcc (zA lcc (zA ccc1 (zA ccc2 (zA fjj (zA rjj (zA ljj (zA cjj1 (zA cjj2 (zA foo (zA roo (zA loo (zA coo1 (zA coo2 (zA h0 (zA hob (zA hstp h10j))))))))))))))))))))))))))
      have HH6 := zA hok3 (zA ke2 (zA tkS (zA fzS rbS1)))
      refine zK ?_
      simp only [zT, zB]
      refine zS ?_
      refine runs_drw (by simp (maxSteps := 3000000) [zC h14, zC h15, zC h17, zC h18, zC h21, zC h22, zC h23, zC h24, zC h25, zC h35, zC h36, zC h37, callF_eff h16 rfl, ↓orc_nil, freshE, backB, backB1, okA, okBlk, plainA, -lenA, oKn, HH2, HH5, ↓HH6]; rfl) ?_
      simp only [zT, zB]
      refine zS ?_
      refine zR (zO (by simp [zC h14, zC h15, zC h17, zC h18, zC h21, zC h22, zC h23, zC h24, zC h25, zC h35, zC h36, zC h37, callF_eff h16 rfl, ↓orc_nil, freshE, backB, backB1, okA, okBlk, plainA, -lenA, oKn, HH2, HH5, ↓HH6]; rfl) ?_)
      simp only [zT, zB]
      refine zS ?_
      refine zS ?_
      refine zR (zO (by simp [zC h14, zC h15, zC h17, zC h18, zC h21, zC h22, zC h23, zC h24, zC h25, zC h35, zC h36, zC h37, callF_eff h16 rfl, ↓orc_nil, freshE, backB, backB1, okA, okBlk, plainA, -lenA, oKn, HH2, HH5, ↓HH6]; rfl) ?_)
      simp only [zT, zB]
      refine runs_cond (x := false) (by simp) ?_
      refine zK ?_
      simp only [zT, zB]
      refine zS ?_
      refine zR (zO (by simp [zC h14, zC h15, zC h17, zC h18, zC h21, zC h22, zC h23, zC h24, zC h25, zC h35, zC h36, zC h37, callF_eff h16 rfl, ↓orc_nil, freshE, backB, backB1, okA, okBlk, plainA, -lenA, oKn, HH2, HH5, ↓HH6]; rfl) ?_)
      simp only [zT, zB]
      refine zS ?_
      refine zL ?_
      refine zS ?_
      refine zR (zO (by simp [zC h14, zC h15, zC h17, zC h18, zC h21, zC h22, zC h23, zC h24, zC h25, zC h35, zC h36, zC h37, callF_eff h16 rfl, ↓orc_nil, freshE, backB, backB1, okA, okBlk, plainA, -lenA, oKn, HH2, HH5, ↓HH6]; rfl) ?_)
      simp only [zT, zB]
      refine runs_cond (x := false) (by simp) ?_
      refine zS ?_
      refine zR (zO (by simp [zC h14, zC h15, zC h17, zC h18, zC h21, zC h22, zC h23, zC h24, zC h25, zC h35, zC h36, zC h37, callF_eff h16 rfl, ↓orc_nil, freshE, backB, backB1, okA, okBlk, plainA, -lenA, oKn, HH2, HH5, ↓HH6]; rfl) ?_)
      simp only [zT, zB]
      refine runs_cond (x := false) (by simp) ?_
      refine zS ?_
      refine zR (zO (by simp [zC h14, zC h15, zC h17, zC h18, zC h21, zC h22, zC h23, zC h24, zC h25, zC h35, zC h36, zC h37, callF_eff h16 rfl, ↓orc_nil, freshE, backB, backB1, okA, okBlk, plainA, -lenA, oKn, HH2, HH5, ↓HH6]; rfl) ?_)
      simp only [zT, zB]
      refine runs_cond (x := true) (by simp [h10j]) ?_
      refine zR (zO (by simp [zC h14, zC h15, zC h17, zC h18, zC h21, zC h22, zC h23, zC h24, zC h25, zC h35, zC h36, zC h37, callF_eff h16 rfl, ↓orc_nil, freshE, backB, backB1, okA, okBlk, plainA, -lenA, oKn, HH2, HH5, ↓HH6]; rfl) ?_)
      simp only [zT, zB]
      refine zS ?_
      refine zS ?_
      refine zR (zO (by simp [zC h14, zC h15, zC h17, zC h18, zC h21, zC h22, zC h23, zC h24, zC h25, zC h35, zC h36, zC h37, callF_eff h16 rfl, ↓orc_nil, freshE, backB, backB1, okA, okBlk, plainA, -lenA, oKn, HH2, HH5, ↓HH6]; rfl) ?_)
      simp only [zT, zB]
      refine runs_cond (x := true) (by simp) ?_
      refine zS ?_
      refine zR (zO (by simp [zC h14, zC h15, zC h17, zC h18, zC h21, zC h22, zC h23, zC h24, zC h25, zC h35, zC h36, zC h37, callF_eff h16 rfl, ↓orc_nil, freshE, backB, backB1, okA, okBlk, plainA, -lenA, oKn, HH2, HH5, ↓HH6]; rfl) ?_)
      simp only [zT, zB]
      refine runs_ret ?_
      simp [zC h14, zC h15, zC h17, zC h18, zC h21, zC h22, zC h23, zC h24, zC h25, zC h35, zC h36, zC h37, callF_eff h16 rfl, ↓orc_nil, freshE, backB, backB1, okA, okBlk, plainA, -lenA, oKn, HH2, HH5, ↓HH6]
     ·have h10i : ((s.stops.length : Int) == 10) = false := by simp; omega
      rcases hso : stopOk s.mach (a1, f1, u1) with _ | _
      ·have hbe : brkE s js os (a1, f1, u1) = 3 := by unfold brkE; rw [if_pos hordE, if_neg h10, if_neg (by rw [hso]; simp)]
       have hbv : brkV s js os (a1, f1, u1) = .nils := by unfold brkV; rw [hbe]; rfl
       rw [hbe, hbv] at hbr
       have HH7 := zA hcopy (zA hwork (zA hints (zA hck0 (zA hsame (zA heq (zA hin (zA hor (zA hbr (zA fcc (zA rcc (zA lcc (zA ccc1 (zA ccc2 (zA fjj (zA rjj (zA ljj (zA cjj1 (zA cjj2 (zA foo (zA roo (zA loo (zA coo1 (zA coo2 (zA h0 (zA hob (zA hstp (zA h10i hso)))))))))))))))))))))))))))
       have HH8 := zA hok3 (zA ke2 (zA tkS (zA fzS rbS1)))
       refine zK ?_
       simp only [zT, zB]
       refine zS ?_
       refine runs_drw (by simp (maxSteps := 3000000) [zC h14, zC h15, zC h17, zC h18, zC h21, zC h22, zC h23, zC h24, zC h25, zC h35, zC h36, zC h37, callF_eff h16 rfl, ↓orc_nil, freshE, backB, backB1, okA, okBlk, plainA, -lenA, oKn, HH2, HH7, ↓HH8]; rfl) ?_
       simp only [zT, zB]
       refine zS ?_
       refine zR (zO (by simp [zC h14, zC h15, zC h17, zC h18, zC h21, zC h22, zC h23, zC h24, zC h25, zC h35, zC h36, zC h37, callF_eff h16 rfl, ↓orc_nil, freshE, backB, backB1, okA, okBlk, plainA, -lenA, oKn, HH2, HH7, ↓HH8]; rfl) ?_)
       simp only [zT, zB]
       refine zS ?_
       refine zS ?_
       refine zR (zO (by simp [zC h14, zC h15, zC h17, zC h18, zC h21, zC h22, zC h23, zC h24, zC h25, zC h35, zC h36, zC h37, callF_eff h16 rfl, ↓orc_nil, freshE, backB, backB1, okA, okBlk, plainA, -lenA, oKn, HH2, HH7, ↓HH8]; rfl) ?_)
       simp only [zT, zB]
       refine runs_cond (x := false) (by simp) ?_
       refine zK ?_
       simp only [zT, zB]
       refine zS ?_
       refine zR (zO (by simp [zC h14, zC h15, zC h17, zC h18, zC h21, zC h22, zC h23, zC h24, zC h25, zC h35, zC h36, zC h37, callF_eff h16 rfl, ↓orc_nil, freshE, backB, backB1, okA, okBlk, plainA, -lenA, oKn, HH2, HH7, ↓HH8]; rfl) ?_)
       simp only [zT, zB]
       refine zS ?_
       refine zL ?_
       refine zS ?_
       refine zR (zO (by simp [zC h14, zC h15, zC h17, zC h18, zC h21, zC h22, zC h23, zC h24, zC h25, zC h35, zC h36, zC h37, callF_eff h16 rfl, ↓orc_nil, freshE, backB, backB1, okA, okBlk, plainA, -lenA, oKn, HH2, HH7, ↓HH8]; rfl) ?_)
       simp only [zT, zB]
       refine runs_cond (x := false) (by simp) ?_
       refine zS ?_
       refine zR (zO (by simp [zC h14, zC h15, zC h17, zC h18, zC h21, zC h22, zC h23, zC h24, zC h25, zC h35, zC h36, zC h37, callF_eff h16 rfl, ↓orc_nil, freshE, backB, backB1, okA, okBlk, plainA, -lenA, oKn, HH2, HH7, ↓HH8]; rfl) ?_)
       simp only [zT, zB]
       refine runs_cond (x := false) (by simp) ?_
       refine zS ?_
       refine zR (zO (by simp [zC h14, zC h15, zC h17, zC h18, zC h21, zC h22, zC h23, zC h24, zC h25, zC h35, zC h36, zC h37, callF_eff h16 rfl, ↓orc_nil, freshE, backB, backB1, okA, okBlk, plainA, -lenA, oKn, HH2, HH7, ↓HH8]; rfl) ?_)
       simp only [zT, zB]
       refine runs_cond (x := false) (by simp [h10i]) ?_
       refine zS ?_
       refine zR (zO (by simp [zC h14, zC h15, zC h17, zC h18, zC h21, zC h22, zC h23, zC h24, zC h25, zC h35, zC h36, zC h37, callF_eff h16 rfl, ↓orc_nil, freshE, backB, backB1, okA, okBlk, plainA, -lenA, oKn, HH2, HH7, ↓HH8]; rfl) ?_)
       simp only [zT, zB]
       refine runs_cond (x := true) (by simp) ?_
       refine zR (zO (by simp [zC h14, zC h15, zC h17, zC h18, zC h21, zC h22, zC h23, zC h24, zC h25, zC h35, zC h36, zC h37, callF_eff h16 rfl, ↓orc_nil, freshE, backB, backB1, okA, okBlk, plainA, -lenA, oKn, HH2, HH7, ↓HH8]; rfl) ?_)
       simp only [zT, zB]
       refine zS ?_
       refine zS ?_
       refine zR (zO (by simp [zC h14, zC h15, zC h17, zC h18, zC h21, zC h22, zC h23, zC h24, zC h25, zC h35, zC h36, zC h37, callF_eff h16 rfl, ↓orc_nil, freshE, backB, backB1, okA, okBlk, plainA, -lenA, oKn, HH2, HH7, ↓HH8]; rfl) ?_)
       simp only [zT, zB]
       refine runs_cond (x := true) (by simp) ?_
       refine zS ?_
       refine zR (zO (by simp [zC h14, zC h15, zC h17, zC h18, zC h21, zC h22, zC h23, zC h24, zC h25, zC h35, zC h36, zC h37, callF_eff h16 rfl, ↓orc_nil, freshE, backB, backB1, okA, okBlk, plainA, -lenA, oKn, HH2, HH7, ↓HH8]; rfl) ?_)
       simp only [zT, zB]
       refine runs_ret ?_
       simp [zC h14, zC h15, zC h17, zC h18, zC h21, zC h22, zC h23, zC h24, zC h25, zC h35, zC h36, zC h37, callF_eff h16 rfl, ↓orc_nil, freshE, backB, backB1, okA, okBlk, plainA, -lenA, oKn, HH2, HH7, ↓HH8]
      ·have hbe : brkE s js os (a1, f1, u1) = 0 := by unfold brkE; rw [if_pos hordE, if_neg h10, if_pos hso]
       have hctx2 : RunCtx (moreS s (a1, f1, u1)) js os := ⟨shop_more hsh h10 hso, hob⟩
       obtain ⟨T2, hT2⟩ : ∃ T2, T2 = s.stops ++ [(a1, f1, u1)] := ⟨_, rfl⟩
       have hap : s.stops.map rS3 ++ [[I a1, I f1, I u1]] = T2.map rS3 := by rw [hT2, List.map_append]; rfl
       have hT2l : T2.length = s.stops.length + 1 := by rw [hT2, List.length_append]; rfl
       have htm : dStops (.vl (T2.map rS3) false) = some (moreS s (a1, f1, u1)).stops := by unfold dStops; show optAll dI3 (T2.map rS3) = _; rw [dI3_all, hT2]; rfl
       have hlr1 := latesR_eq hc ht hj ho hctx
       have hlr2 := latesR_eq (s := moreS s (a1, f1, u1)) hc2 htm hj ho hctx2
       change oLatesR [.agg [I s.mach, c2, .vl (T2.map rS3) false], j, o] = _ at hlr2
       have hbv : brkV s js os (a1, f1, u1) = delV (lateL (endF s js os) js js.length) (lateL (endF (moreS s (a1, f1, u1)) js os) js js.length) := by unfold brkV; rw [if_pos hbe]; rfl
       have hdi : dInts (delV (lateL (endF s js os) js js.length) (lateL (endF (moreS s (a1, f1, u1)) js os) js js.length)) = some (dueL (endF s js os) (endF (moreS s (a1, f1, u1)) js os) js js.length) := by
        rw [← dueL_eq _ _ js js.length js.length (Nat.le_refl _)]
        generalize lateL (endF s js os) js js.length = B
        generalize lateL (endF (moreS s (a1, f1, u1)) js os) js js.length = L
        cases L with
        | nil => rfl
        | cons x l => exact dInts_vl _ false
       rw [hbe, hbv] at hbr
       generalize delV (lateL (endF s js os) js js.length) (lateL (endF (moreS s (a1, f1, u1)) js os) js js.length) = dv at *
       have hr1 := encB_rows (ltB (endF s js os) js js.length)
       have hr2 := encB_rows (ltB (endF (moreS s (a1, f1, u1)) js os) js js.length)
       generalize encB (ltB (endF s js os) js js.length) = b1 at *
       generalize encB (ltB (endF (moreS s (a1, f1, u1)) js os) js js.length) = b2 at *
       generalize endF s js os = E1 at *
       generalize endF (moreS s (a1, f1, u1)) js os = E2 at *
       have fb1 := fun H d => rowsV_frz hr1 H d
       have fb2 := fun H d => rowsV_frz hr2 H d
       have rb1 := fun n d => rowsV_rb hr1 n d
       have rb2 := fun n d => rowsV_rb hr2 n d
       have hn6 := hsh.njob
       have hS3 : ((s.stops.map rS3).all fun r => r.length == 3) = true := by simp [rS3]
       have hSl : s.stops.length + 1 ≤ 1048576 := by have := hsh.nst; omega
       have fzS2 := fun nv H d => frz_mapT nv H d T2
       have rbS2 := fun n => rS3_rb n 4 T2
       have tkT : (T2.map rS3).take (s.stops.length + 1) = T2.map rS3 := List.take_of_length_le (by simp [hT2l])
       have fdd := fun H d => dInts_frz hdi H d
       have rdd := fun n d => dInts_rb hdi n d
       have ldd := dInts_len hdi
       obtain ⟨cdd1, cdd2⟩ := dInts_cells hdi
       have HH9 := zA hcopy (zA hwork (zA hints (zA hck0 (zA hsame (zA heq (zA hin (zA hor (zA hbr (zA fcc (zA rcc (zA lcc (zA ccc1 (zA ccc2 (zA fjj (zA rjj (zA ljj (zA cjj1 (zA cjj2 (zA foo (zA roo (zA loo (zA coo1 (zA coo2 (zA h0 (zA hob (zA hstp (zA h10i (zA hso (zA hSl (zA hT2l (zA hlr1 (zA hlr2 (zA fb1 (zA fb2 (zA rb2 (zA fdd (zA rdd (zA ldd (zA cdd1 cdd2)))))))))))))))))))))))))))))))))))))))
       have HH10 := zA hok3 (zA ke2 (zA tkS (zA fzS (zA rbS1 (zA hap (zA hS3 (zA fzS2 (zA rbS2 tkT))))))))
       refine zK ?_
       simp only [zT, zB]
       refine zS ?_
       refine runs_drw (by simp (maxSteps := 3000000) [zC h14, zC h15, zC h17, zC h18, zC h21, zC h22, zC h23, zC h24, zC h25, zC h35, zC h36, zC h37, callF_eff h16 rfl, ↓orc_nil, freshE, backB, backB1, okA, okBlk, plainA, -lenA, oKn, HH2, rb1, HH9, ↓HH10]; rfl) ?_
       simp only [zT, zB]
       refine zS ?_
       refine zR (zO (by simp [zC h14, zC h15, zC h17, zC h18, zC h21, zC h22, zC h23, zC h24, zC h25, zC h35, zC h36, zC h37, callF_eff h16 rfl, ↓orc_nil, freshE, backB, backB1, okA, okBlk, plainA, -lenA, oKn, HH2, rb1, HH9, ↓HH10]; rfl) ?_)
       simp only [zT, zB]
       refine zS ?_
       refine zS ?_
       refine zR (zO (by simp [zC h14, zC h15, zC h17, zC h18, zC h21, zC h22, zC h23, zC h24, zC h25, zC h35, zC h36, zC h37, callF_eff h16 rfl, ↓orc_nil, freshE, backB, backB1, okA, okBlk, plainA, -lenA, oKn, HH2, rb1, HH9, ↓HH10]; rfl) ?_)
       simp only [zT, zB]
       refine runs_cond (x := false) (by simp) ?_
       refine zK ?_
       simp only [zT, zB]
       refine zS ?_
       refine zR (zO (by simp [zC h14, zC h15, zC h17, zC h18, zC h21, zC h22, zC h23, zC h24, zC h25, zC h35, zC h36, zC h37, callF_eff h16 rfl, ↓orc_nil, freshE, backB, backB1, okA, okBlk, plainA, -lenA, oKn, HH2, rb1, HH9, ↓HH10]; rfl) ?_)
       simp only [zT, zB]
       refine zS ?_
       refine zL ?_
       refine zS ?_
       refine zR (zO (by simp [zC h14, zC h15, zC h17, zC h18, zC h21, zC h22, zC h23, zC h24, zC h25, zC h35, zC h36, zC h37, callF_eff h16 rfl, ↓orc_nil, freshE, backB, backB1, okA, okBlk, plainA, -lenA, oKn, HH2, rb1, HH9, ↓HH10]; rfl) ?_)
       simp only [zT, zB]
       refine runs_cond (x := false) (by simp) ?_
       refine zS ?_
       refine zR (zO (by simp [zC h14, zC h15, zC h17, zC h18, zC h21, zC h22, zC h23, zC h24, zC h25, zC h35, zC h36, zC h37, callF_eff h16 rfl, ↓orc_nil, freshE, backB, backB1, okA, okBlk, plainA, -lenA, oKn, HH2, rb1, HH9, ↓HH10]; rfl) ?_)
       simp only [zT, zB]
       refine runs_cond (x := false) (by simp) ?_
       refine zS ?_
       refine zR (zO (by simp [zC h14, zC h15, zC h17, zC h18, zC h21, zC h22, zC h23, zC h24, zC h25, zC h35, zC h36, zC h37, callF_eff h16 rfl, ↓orc_nil, freshE, backB, backB1, okA, okBlk, plainA, -lenA, oKn, HH2, rb1, HH9, ↓HH10]; rfl) ?_)
       simp only [zT, zB]
       refine runs_cond (x := false) (by simp [h10i]) ?_
       refine zS ?_
       refine zR (zO (by simp [zC h14, zC h15, zC h17, zC h18, zC h21, zC h22, zC h23, zC h24, zC h25, zC h35, zC h36, zC h37, callF_eff h16 rfl, ↓orc_nil, freshE, backB, backB1, okA, okBlk, plainA, -lenA, oKn, HH2, rb1, HH9, ↓HH10]; rfl) ?_)
       simp only [zT, zB]
       refine runs_cond (x := false) (by simp) ?_
       refine zK ?_
       simp only [zT, zB]
       refine zS ?_
       refine zS ?_
       refine zR (zO (by simp [zC h14, zC h15, zC h17, zC h18, zC h21, zC h22, zC h23, zC h24, zC h25, zC h35, zC h36, zC h37, callF_eff h16 rfl, ↓orc_nil, freshE, backB, backB1, okA, okBlk, plainA, -lenA, oKn, HH2, rb1, HH9, ↓HH10]; rfl) ?_)
       simp only [zT, zB]
       refine runs_cond (x := false) (by simp) ?_
       refine zK ?_
       simp only [zT, zB]
       refine zS ?_
       refine zR (zO (by simp [zC h14, zC h15, zC h17, zC h18, zC h21, zC h22, zC h23, zC h24, zC h25, zC h35, zC h36, zC h37, callF_eff h16 rfl, ↓orc_nil, freshE, backB, backB1, okA, okBlk, plainA, -lenA, oKn, HH2, rb1, HH9, ↓HH10]; rfl) ?_)
       simp only [zT, zB]
       refine zS ?_
       refine zR (zO (by simp [zC h14, zC h15, zC h17, zC h18, zC h21, zC h22, zC h23, zC h24, zC h25, zC h35, zC h36, zC h37, callF_eff h16 rfl, ↓orc_nil, freshE, backB, backB1, okA, okBlk, plainA, -lenA, oKn, HH2, rb1, HH9, ↓HH10]; rfl) ?_)
       simp only [zT, zB]
       refine zS ?_
       refine runs_drw (by simp (maxSteps := 3000000) [zC h14, zC h15, zC h17, zC h18, zC h21, zC h22, zC h23, zC h24, zC h25, zC h35, zC h36, zC h37, callF_eff h16 rfl, ↓orc_nil, freshE, backB, backB1, okA, okBlk, plainA, -lenA, oKn, HH2, rb1, HH9, ↓HH10]; rfl) ?_
       simp only [zT, zB]
       refine zS ?_
       refine zS ?_
       refine zR (zO (by simp [zC h14, zC h15, zC h17, zC h18, zC h21, zC h22, zC h23, zC h24, zC h25, zC h35, zC h36, zC h37, callF_eff h16 rfl, ↓orc_nil, freshE, backB, backB1, okA, okBlk, plainA, -lenA, oKn, HH2, rb1, HH9, ↓HH10]; rfl) ?_)
       simp only [zT, zB]
       refine zL ?_
       refine runs_loopG_inv (fun mm σ => ∃ (k : Nat) (i : Int), i = k ∧ js.length - k = mm ∧ k ≤ js.length ∧ ((dueL E1 E2 js k = [] ∧ σ = ⟨[.any, j, .any, .any, .any, .any, .any, .any, .any, .any, dv, I 0, .any, .any, .sl 31 0 0 true, b1, b2, I i, .any, .any, .any, .any, .any, .any, .any, .any, .any, .any, .any, .any, .any, .any, .any, .any, .any, .any, .any, .any, .any, .any, .any, .any, .any, .any, .any, .any, .any, .any, .any, .any, .any, .any, .any, .any, .any, .any, .any, .any, .any, .any, .any, .any, .any, .any, .any, .any, .any, .any, .any, .any, .any, .any, .any, .any, .any, .any, .any, .any, .any, .any, .any, .any, .any, .any, .any, .any, .any, .any, .any, .any, .any, .any, .any, .any, .any, .any, .any, .any, .any, .any, .any, .any, .any, .any, .any, .any, .any, .any, .any, .any, .any, .any, .any, .any, .any, .any, .any, .any, .any, .any, .any, .any, .any, .any, .any, .any, .any, .any, .any, .any, .any, .any, .any, .any, .any, .any, .any, .any, .any, .any, .any, .any, .any, .any, .any, .any, .any, .any, .any], [some (.row 3 [[I s.mach, c, t]]), some (.row 4 [[o, I a1, I f1, I u1]]), none, none, none, none, none, none, none, some (.row 3 [[I s.mach, c2, .sl 13 0 s.stops.length false]]), none, none, none, some (.row 3 (s.stops.map rS3)), none, none, some (.row 3 [[I s.mach, c2, .sl 18 0 (s.stops.length + 1) false]]), some (.row 3 [[I a1, I f1, I u1]]), some (.row 3 (T2.map rS3)), none, none, none, none, none, none, none, none, none, none, none, none, some (.row 1 [])]⟩) ∨ (∃ (p : Nat) (ac : List Int), ac = dueL E1 E2 js k ∧ ac.length = p + 1 ∧ σ = ⟨[.any, j, .any, .any, .any, .any, .any, .any, .any, .any, dv, I 0, .any, .any, .sl 31 0 (p + 1) false, b1, b2, I i, .any, .any, .any, .any, .any, .any, .any, .any, .any, .any, .any, .any, .any, .any, .any, .any, .any, .any, .any, .any, .any, .any, .any, .any, .any, .any, .any, .any, .any, .any, .any, .any, .any, .any, .any, .any, .any, .any, .any, .any, .any, .any, .any, .any, .any, .any, .any, .any, .any, .any, .any, .any, .any, .any, .any, .any, .any, .any, .any, .any, .any, .any, .any, .any, .any, .any, .any, .any, .any, .any, .any, .any, .any, .any, .any, .any, .any, .any, .any, .any, .any, .any, .any, .any, .any, .any, .any, .any, .any, .any, .any, .any, .any, .any, .any, .any, .any, .any, .any, .any, .any, .any, .any, .any, .any, .any, .any, .any, .any, .any, .any, .any, .any, .any, .any, .any, .any, .any, .any, .any, .any, .any, .any, .any, .any, .any, .any, .any, .any, .any, .any], [some (.row 3 [[I s.mach, c, t]]), some (.row 4 [[o, I a1, I f1, I u1]]), none, none, none, none, none, none, none, some (.row 3 [[I s.mach, c2, .sl 13 0 s.stops.length false]]), none, none, none, some (.row 3 (s.stops.map rS3)), none, none, some (.row 3 [[I s.mach, c2, .sl 18 0 (s.stops.length + 1) false]]), some (.row 3 [[I a1, I f1, I u1]]), some (.row 3 (T2.map rS3)), none, none, none, none, none, none, none, none, none, none, none, none, some (.row 1 (ac.map rI))]⟩))) (by simp [zC h14, zC h15, zC h17, zC h18, zC h21, zC h22, zC h23, zC h24, zC h25, zC h35, zC h36, zC h37, callF_eff h16 rfl, ↓orc_nil, freshE, backB, backB1, okA, okBlk, plainA, -lenA, oKn, HH2, rb1, HH9, ↓HH10] <;> first | exact ⟨rfl, rfl⟩ | rfl) (⟨0, 0, rfl, rfl, Nat.zero_le _, .inl ⟨rfl, rfl⟩⟩) ?_
       rintro mm σ ⟨k, i, hik, rfl, hkl, ⟨hac0, rfl⟩ | ⟨p, ac, hac, hacl, rfl⟩⟩
       ·refine zS ?_
        refine zS ?_
        refine zR (zO (by simp [zC h14, zC h15, zC h17, zC h18, zC h21, zC h22, zC h23, zC h24, zC h25, zC h35, zC h36, zC h37, callF_eff h16 rfl, ↓orc_nil, freshE, backB, backB1, okA, okBlk, plainA, -lenA, oKn, HH2, rb1, HH9, ↓HH10]; rfl) ?_)
        simp only [zT, zB]
        refine runs_cond_split (x := decide (i < (js.length : Int))) (by simp) (fun hlt => ?_) (fun hlt => ?_)
        ·have hlt2 := of_decide_eq_true hlt
         have hk0 : k < js.length := by omega
         have hi0 : 0 ≤ i := by omega
         have htn : i.toNat = k := by omega
         have hij : i < (js.length : Int) := by omega
         have hwi : W .i64 (i + 1) = i + 1 := W_small (by omega)
         have hst : dueL E1 E2 js (k + 1) = dueL E1 E2 js k ++ if (decide (dueAt js k < endAt E2 k) && !decide (dueAt js k < endAt E1 k)) = true then [(k : Int)] else [] := rfl
         have g1 := ltB_get E1 js js.length k hk0
         have g2 := ltB_get E2 js js.length k hk0
         have hn1 := ltB_len E1 js js.length
         have hn2 := ltB_len E2 js js.length
         generalize decide (dueAt js k < endAt E2 k) = A2 at *
         generalize decide (dueAt js k < endAt E1 k) = A1 at *
         generalize ltB E1 js js.length = l1 at *
         generalize ltB E2 js js.length = l2 at *
         obtain ⟨t1, rfl⟩ := rowsV_get hr1 (k := k) (by rw [List.length_map]; omega)
         obtain ⟨t2, rfl⟩ := rowsV_get hr2 (k := k) (by rw [List.length_map]; omega)
         have hk1 : k < l1.length := by omega
         have hk2 : k < l2.length := by omega
         have p1 : (l1.map rB)[k]? = some [.bool A1] := by rw [List.getElem?_map, g1]; rfl
         have p2 : (l2.map rB)[k]? = some [.bool A2] := by rw [List.getElem?_map, g2]; rfl
         have p3 : ∀ (h : k < (l1.map rB).length), (l1.map rB)[k]'h = [.bool A1] := fun h => by rw [List.getElem?_eq_getElem h] at p1; exact Option.some.inj p1
         have p4 : ∀ (h : k < (l2.map rB).length), (l2.map rB)[k]'h = [.bool A2] := fun h => by rw [List.getElem?_eq_getElem h] at p2; exact Option.some.inj p2
         have q1 : i < (l1.length : Int) := by omega
         have q2 : i < (l2.length : Int) := by omega
         rw [← hik] at hst
         rcases A2 with _ | _
         ·rw [if_neg (by simp), List.append_nil] at hst
          have HH11 := zA hi0 (zA htn (zA hij (zA hwi (zA hk0 (zA hk1 (zA hk2 (zA p1 (zA p2 (zA p3 (zA p4 (zA q1 q2)))))))))))
          refine zK ?_
          simp only [zT, zB]
          refine zS ?_
          refine zL ?_
          refine zS ?_
          refine zR (zO (by simp [zC h14, zC h15, zC h17, zC h18, zC h21, zC h22, zC h23, zC h24, zC h25, zC h35, zC h36, zC h37, callF_eff h16 rfl, ↓orc_nil, freshE, backB, backB1, okA, okBlk, plainA, -lenA, oKn, HH2, rb1, HH9, ↓HH10, zI, -List.getElem?_map, -List.getElem_map, HH11]; rfl) ?_)
          simp only [zT, zB]
          refine runs_cond (x := false) (by simp) ?_
          refine zK ?_
          simp only [zT, zB]
          refine zR (zO (by simp [zC h14, zC h15, zC h17, zC h18, zC h21, zC h22, zC h23, zC h24, zC h25, zC h35, zC h36, zC h37, callF_eff h16 rfl, ↓orc_nil, freshE, backB, backB1, okA, okBlk, plainA, -lenA, oKn, HH2, rb1, HH9, ↓HH10, zI, -List.getElem?_map, -List.getElem_map, HH11]; rfl) ?_)
          simp only [zT, zB]
          exact ⟨js.length - (k + 1), _, _, by omega, by simp [zC h14, zC h15, zC h17, zC h18, zC h21, zC h22, zC h23, zC h24, zC h25, zC h35, zC h36, zC h37, callF_eff h16 rfl, ↓orc_nil, freshE, backB, backB1, okA, okBlk, plainA, -lenA, oKn, HH2, rb1, HH9, ↓HH10, zI, -List.getElem?_map, -List.getElem_map, HH11] <;> rfl, k + 1, i + 1, by omega, rfl, by omega, .inl ⟨by rw [hst, hac0], rfl⟩⟩
         ·rcases A1 with _ | _
          ·rw [if_pos (show (true && !false) = true from rfl), hac0, List.nil_append] at hst
           have HH12 := zA hi0 (zA htn (zA hij (zA hwi (zA hk0 (zA hk1 (zA hk2 (zA p1 (zA p2 (zA p3 (zA p4 (zA q1 q2)))))))))))
           refine zK ?_
           simp only [zT, zB]
           refine zS ?_
           refine zL ?_
           refine zS ?_
           refine zR (zO (by simp [zC h14, zC h15, zC h17, zC h18, zC h21, zC h22, zC h23, zC h24, zC h25, zC h35, zC h36, zC h37, callF_eff h16 rfl, ↓orc_nil, freshE, backB, backB1, okA, okBlk, plainA, -lenA, oKn, HH2, rb1, HH9, ↓HH10, zI, -List.getElem?_map, -List.getElem_map, HH12]; rfl) ?_)
           simp only [zT, zB]
           refine runs_cond (x := true) (by simp) ?_
           refine zR (zO (by simp [zC h14, zC h15, zC h17, zC h18, zC h21, zC h22, zC h23, zC h24, zC h25, zC h35, zC h36, zC h37, callF_eff h16 rfl, ↓orc_nil, freshE, backB, backB1, okA, okBlk, plainA, -lenA, oKn, HH2, rb1, HH9, ↓HH10, zI, -List.getElem?_map, -List.getElem_map, HH12]; rfl) ?_)
           simp only [zT, zB]
           refine zR (zO (by simp [zC h14, zC h15, zC h17, zC h18, zC h21, zC h22, zC h23, zC h24, zC h25, zC h35, zC h36, zC h37, callF_eff h16 rfl, ↓orc_nil, freshE, backB, backB1, okA, okBlk, plainA, -lenA, oKn, HH2, rb1, HH9, ↓HH10, zI, -List.getElem?_map, -List.getElem_map, HH12]; rfl) ?_)
           simp only [zT, zB]
           exact ⟨js.length - (k + 1), _, _, by omega, by simp [zC h14, zC h15, zC h17, zC h18, zC h21, zC h22, zC h23, zC h24, zC h25, zC h35, zC h36, zC h37, callF_eff h16 rfl, ↓orc_nil, freshE, backB, backB1, okA, okBlk, plainA, -lenA, oKn, HH2, rb1, HH9, ↓HH10, zI, -List.getElem?_map, -List.getElem_map, HH12] <;> rfl, k + 1, i + 1, by omega, rfl, by omega, .inr ⟨0, [i], hst.symm, rfl, rfl⟩⟩
          ·rw [if_neg (by simp), List.append_nil] at hst
           have HH13 := zA hi0 (zA htn (zA hij (zA hwi (zA hk0 (zA hk1 (zA hk2 (zA p1 (zA p2 (zA p3 (zA p4 (zA q1 q2)))))))))))
           refine zK ?_
           simp only [zT, zB]
           refine zS ?_
           refine zL ?_
           refine zS ?_
           refine zR (zO (by simp [zC h14, zC h15, zC h17, zC h18, zC h21, zC h22, zC h23, zC h24, zC h25, zC h35, zC h36, zC h37, callF_eff h16 rfl, ↓orc_nil, freshE, backB, backB1, okA, okBlk, plainA, -lenA, oKn, HH2, rb1, HH9, ↓HH10, zI, -List.getElem?_map, -List.getElem_map, HH13]; rfl) ?_)
           simp only [zT, zB]
           refine runs_cond (x := false) (by simp) ?_
           refine zK ?_
           simp only [zT, zB]
           refine zR (zO (by simp [zC h14, zC h15, zC h17, zC h18, zC h21, zC h22, zC h23, zC h24, zC h25, zC h35, zC h36, zC h37, callF_eff h16 rfl, ↓orc_nil, freshE, backB, backB1, okA, okBlk, plainA, -lenA, oKn, HH2, rb1, HH9, ↓HH10, zI, -List.getElem?_map, -List.getElem_map, HH13]; rfl) ?_)
           simp only [zT, zB]
           exact ⟨js.length - (k + 1), _, _, by omega, by simp [zC h14, zC h15, zC h17, zC h18, zC h21, zC h22, zC h23, zC h24, zC h25, zC h35, zC h36, zC h37, callF_eff h16 rfl, ↓orc_nil, freshE, backB, backB1, okA, okBlk, plainA, -lenA, oKn, HH2, rb1, HH9, ↓HH10, zI, -List.getElem?_map, -List.getElem_map, HH13] <;> rfl, k + 1, i + 1, by omega, rfl, by omega, .inl ⟨by rw [hst, hac0], rfl⟩⟩
        ·have hx1 := of_decide_eq_false hlt
         have hkE : k = js.length := by omega
         subst hkE
         rw [hac0] at hdi
         have hqq := intsEq_eq hdi (show dInts (.vl [] true) = some [] from rfl) (by simp)
         refine runs_exit ?_
         simp only [zT, zB, if_true, if_false, reduceIte, Nat.reduceEqDiff, Nat.succ_ne_zero, Nat.one_ne_zero, Nat.zero_ne_one]
         refine zS ?_
         refine zR (zO (by simp [zC h14, zC h15, zC h17, zC h18, zC h21, zC h22, zC h23, zC h24, zC h25, zC h35, zC h36, zC h37, callF_eff h16 rfl, ↓orc_nil, freshE, backB, backB1, okA, okBlk, plainA, -lenA, oKn, HH2, rb1, HH9, ↓HH10, hqq]; rfl) ?_)
         simp only [zT, zB]
         refine runs_ret ?_
         simp [zC h14, zC h15, zC h17, zC h18, zC h21, zC h22, zC h23, zC h24, zC h25, zC h35, zC h36, zC h37, callF_eff h16 rfl, ↓orc_nil, freshE, backB, backB1, okA, okBlk, plainA, -lenA, oKn, HH2, rb1, HH9, ↓HH10, hqq]
       ·have tk : (ac.map rI).take (p + 1) = ac.map rI := List.take_of_length_le (by simp [hacl])
        have hle6 := dueL_len E1 E2 js k
        rw [← hac] at hle6
        have hlac : p + 1 + 1 ≤ 1048576 := by omega
        have hr3 : ∀ e : Int, (rI e).length = 1 := fun _ => rfl
        have hff := fun n h r => optAll_snoc (frN_rI n h ac) r
        have hgf := fun n h => frN_mapI n h 4 ac
        have hrj := fun n => rI_rb n 4 ac
        refine zS ?_
        refine zS ?_
        refine zR (zO (by simp [zC h14, zC h15, zC h17, zC h18, zC h21, zC h22, zC h23, zC h24, zC h25, zC h35, zC h36, zC h37, callF_eff h16 rfl, ↓orc_nil, freshE, backB, backB1, okA, okBlk, plainA, -lenA, oKn, HH2, rb1, HH9, ↓HH10, ↓tk, hlac, hacl, hr3, ↓hgf, ↓hff, ↓hrj, frz_mapI]; rfl) ?_)
        simp only [zT, zB]
        refine runs_cond_split (x := decide (i < (js.length : Int))) (by simp) (fun hlt => ?_) (fun hlt => ?_)
        ·have hlt2 := of_decide_eq_true hlt
         have hk0 : k < js.length := by omega
         have hi0 : 0 ≤ i := by omega
         have htn : i.toNat = k := by omega
         have hij : i < (js.length : Int) := by omega
         have hwi : W .i64 (i + 1) = i + 1 := W_small (by omega)
         have hst : dueL E1 E2 js (k + 1) = dueL E1 E2 js k ++ if (decide (dueAt js k < endAt E2 k) && !decide (dueAt js k < endAt E1 k)) = true then [(k : Int)] else [] := rfl
         have g1 := ltB_get E1 js js.length k hk0
         have g2 := ltB_get E2 js js.length k hk0
         have hn1 := ltB_len E1 js js.length
         have hn2 := ltB_len E2 js js.length
         generalize decide (dueAt js k < endAt E2 k) = A2 at *
         generalize decide (dueAt js k < endAt E1 k) = A1 at *
         generalize ltB E1 js js.length = l1 at *
         generalize ltB E2 js js.length = l2 at *
         obtain ⟨t1, rfl⟩ := rowsV_get hr1 (k := k) (by rw [List.length_map]; omega)
         obtain ⟨t2, rfl⟩ := rowsV_get hr2 (k := k) (by rw [List.length_map]; omega)
         have hk1 : k < l1.length := by omega
         have hk2 : k < l2.length := by omega
         have p1 : (l1.map rB)[k]? = some [.bool A1] := by rw [List.getElem?_map, g1]; rfl
         have p2 : (l2.map rB)[k]? = some [.bool A2] := by rw [List.getElem?_map, g2]; rfl
         have p3 : ∀ (h : k < (l1.map rB).length), (l1.map rB)[k]'h = [.bool A1] := fun h => by rw [List.getElem?_eq_getElem h] at p1; exact Option.some.inj p1
         have p4 : ∀ (h : k < (l2.map rB).length), (l2.map rB)[k]'h = [.bool A2] := fun h => by rw [List.getElem?_eq_getElem h] at p2; exact Option.some.inj p2
         have q1 : i < (l1.length : Int) := by omega
         have q2 : i < (l2.length : Int) := by omega
         rw [← hik] at hst
         rcases A2 with _ | _
         ·rw [if_neg (by simp), List.append_nil] at hst
          have HH14 := zA hlac (zA hacl (zA hr3 (zA hi0 (zA htn (zA hij (zA hwi (zA hk0 (zA hk1 (zA hk2 (zA p1 (zA p2 (zA p3 (zA p4 (zA q1 q2))))))))))))))
          refine zK ?_
          simp only [zT, zB]
          refine zS ?_
          refine zL ?_
          refine zS ?_
          refine zR (zO (by simp [zC h14, zC h15, zC h17, zC h18, zC h21, zC h22, zC h23, zC h24, zC h25, zC h35, zC h36, zC h37, callF_eff h16 rfl, ↓orc_nil, freshE, backB, backB1, okA, okBlk, plainA, -lenA, oKn, HH2, rb1, HH9, ↓HH10, ↓tk, ↓hgf, ↓hff, ↓hrj, frz_mapI, zI, -List.getElem?_map, -List.getElem_map, HH14]; rfl) ?_)
          simp only [zT, zB]
          refine runs_cond (x := false) (by simp) ?_
          refine zK ?_
          simp only [zT, zB]
          refine zR (zO (by simp [zC h14, zC h15, zC h17, zC h18, zC h21, zC h22, zC h23, zC h24, zC h25, zC h35, zC h36, zC h37, callF_eff h16 rfl, ↓orc_nil, freshE, backB, backB1, okA, okBlk, plainA, -lenA, oKn, HH2, rb1, HH9, ↓HH10, ↓tk, ↓hgf, ↓hff, ↓hrj, frz_mapI, zI, -List.getElem?_map, -List.getElem_map, HH14]; rfl) ?_)
          simp only [zT, zB]
          exact ⟨js.length - (k + 1), _, _, by omega, by simp [zC h14, zC h15, zC h17, zC h18, zC h21, zC h22, zC h23, zC h24, zC h25, zC h35, zC h36, zC h37, callF_eff h16 rfl, ↓orc_nil, freshE, backB, backB1, okA, okBlk, plainA, -lenA, oKn, HH2, rb1, HH9, ↓HH10, ↓tk, ↓hgf, ↓hff, ↓hrj, frz_mapI, zI, -List.getElem?_map, -List.getElem_map, HH14] <;> rfl, k + 1, i + 1, by omega, rfl, by omega, .inr ⟨p, ac, by rw [hst, hac], hacl, rfl⟩⟩
         ·rcases A1 with _ | _
          ·rw [if_pos (show (true && !false) = true from rfl), ← hac] at hst
           have hap : ac.map rI ++ [[I i]] = (ac ++ [i]).map rI := by rw [List.map_append]; rfl
           have hnl : (ac ++ [i]).length = p + 1 + 1 := by simp [hacl]
           generalize ac ++ [i] = nx at *
           have HH15 := zA hlac (zA hacl (zA hr3 (zA hi0 (zA htn (zA hij (zA hwi (zA hk0 (zA hk1 (zA hk2 (zA p1 (zA p2 (zA p3 (zA p4 (zA q1 (zA q2 hap)))))))))))))))
           refine zK ?_
           simp only [zT, zB]
           refine zS ?_
           refine zL ?_
           refine zS ?_
           refine zR (zO (by simp [zC h14, zC h15, zC h17, zC h18, zC h21, zC h22, zC h23, zC h24, zC h25, zC h35, zC h36, zC h37, callF_eff h16 rfl, ↓orc_nil, freshE, backB, backB1, okA, okBlk, plainA, -lenA, oKn, HH2, rb1, HH9, ↓HH10, ↓tk, ↓hgf, ↓hff, ↓hrj, frz_mapI, zI, -List.getElem?_map, -List.getElem_map, HH15]; rfl) ?_)
           simp only [zT, zB]
           refine runs_cond (x := true) (by simp) ?_
           refine zR (zO (by simp [zC h14, zC h15, zC h17, zC h18, zC h21, zC h22, zC h23, zC h24, zC h25, zC h35, zC h36, zC h37, callF_eff h16 rfl, ↓orc_nil, freshE, backB, backB1, okA, okBlk, plainA, -lenA, oKn, HH2, rb1, HH9, ↓HH10, ↓tk, ↓hgf, ↓hff, ↓hrj, frz_mapI, zI, -List.getElem?_map, -List.getElem_map, HH15]; rfl) ?_)
           simp only [zT, zB]
           refine zR (zO (by simp [zC h14, zC h15, zC h17, zC h18, zC h21, zC h22, zC h23, zC h24, zC h25, zC h35, zC h36, zC h37, callF_eff h16 rfl, ↓orc_nil, freshE, backB, backB1, okA, okBlk, plainA, -lenA, oKn, HH2, rb1, HH9, ↓HH10, ↓tk, ↓hgf, ↓hff, ↓hrj, frz_mapI, zI, -List.getElem?_map, -List.getElem_map, HH15]; rfl) ?_)
           simp only [zT, zB]
           exact ⟨js.length - (k + 1), _, _, by omega, by simp [zC h14, zC h15, zC h17, zC h18, zC h21, zC h22, zC h23, zC h24, zC h25, zC h35, zC h36, zC h37, callF_eff h16 rfl, ↓orc_nil, freshE, backB, backB1, okA, okBlk, plainA, -lenA, oKn, HH2, rb1, HH9, ↓HH10, ↓tk, ↓hgf, ↓hff, ↓hrj, frz_mapI, zI, -List.getElem?_map, -List.getElem_map, HH15] <;> rfl, k + 1, i + 1, by omega, rfl, by omega, .inr ⟨p + 1, nx, hst.symm, hnl, rfl⟩⟩
          ·rw [if_neg (by simp), List.append_nil] at hst
           have HH16 := zA hlac (zA hacl (zA hr3 (zA hi0 (zA htn (zA hij (zA hwi (zA hk0 (zA hk1 (zA hk2 (zA p1 (zA p2 (zA p3 (zA p4 (zA q1 q2))))))))))))))
           refine zK ?_
           simp only [zT, zB]
           refine zS ?_
           refine zL ?_
           refine zS ?_
           refine zR (zO (by simp [zC h14, zC h15, zC h17, zC h18, zC h21, zC h22, zC h23, zC h24, zC h25, zC h35, zC h36, zC h37, callF_eff h16 rfl, ↓orc_nil, freshE, backB, backB1, okA, okBlk, plainA, -lenA, oKn, HH2, rb1, HH9, ↓HH10, ↓tk, ↓hgf, ↓hff, ↓hrj, frz_mapI, zI, -List.getElem?_map, -List.getElem_map, HH16]; rfl) ?_)
           simp only [zT, zB]
           refine runs_cond (x := false) (by simp) ?_
           refine zK ?_
           simp only [zT, zB]
           refine zR (zO (by simp [zC h14, zC h15, zC h17, zC h18, zC h21, zC h22, zC h23, zC h24, zC h25, zC h35, zC h36, zC h37, callF_eff h16 rfl, ↓orc_nil, freshE, backB, backB1, okA, okBlk, plainA, -lenA, oKn, HH2, rb1, HH9, ↓HH10, ↓tk, ↓hgf, ↓hff, ↓hrj, frz_mapI, zI, -List.getElem?_map, -List.getElem_map, HH16]; rfl) ?_)
           simp only [zT, zB]
           exact ⟨js.length - (k + 1), _, _, by omega, by simp [zC h14, zC h15, zC h17, zC h18, zC h21, zC h22, zC h23, zC h24, zC h25, zC h35, zC h36, zC h37, callF_eff h16 rfl, ↓orc_nil, freshE, backB, backB1, okA, okBlk, plainA, -lenA, oKn, HH2, rb1, HH9, ↓HH10, ↓tk, ↓hgf, ↓hff, ↓hrj, frz_mapI, zI, -List.getElem?_map, -List.getElem_map, HH16] <;> rfl, k + 1, i + 1, by omega, rfl, by omega, .inr ⟨p, ac, by rw [hst, hac], hacl, rfl⟩⟩
        ·have hx1 := of_decide_eq_false hlt
         have hkE : k = js.length := by omega
         subst hkE
         rw [← hac] at hdi
         have hqq := intsEq_eq hdi (dInts_vl ac false) (by omega)
         refine runs_exit ?_
         simp only [zT, zB, if_true, if_false, reduceIte, Nat.reduceEqDiff, Nat.succ_ne_zero, Nat.one_ne_zero, Nat.zero_ne_one]
         refine zS ?_
         refine zR (zO (by simp [zC h14, zC h15, zC h17, zC h18, zC h21, zC h22, zC h23, zC h24, zC h25, zC h35, zC h36, zC h37, callF_eff h16 rfl, ↓orc_nil, freshE, backB, backB1, okA, okBlk, plainA, -lenA, oKn, HH2, rb1, HH9, ↓HH10, ↓tk, hlac, hacl, hr3, ↓hgf, ↓hff, ↓hrj, frz_mapI, hqq]; rfl) ?_)
         simp only [zT, zB]
         refine runs_ret ?_
         simp [zC h14, zC h15, zC h17, zC h18, zC h21, zC h22, zC h23, zC h24, zC h25, zC h35, zC h36, zC h37, callF_eff h16 rfl, ↓orc_nil, freshE, backB, backB1, okA, okBlk, plainA, -lenA, oKn, HH2, rb1, HH9, ↓HH10, ↓tk, hlac, hacl, hr3, ↓hgf, ↓hff, ↓hrj, frz_mapI, hqq]
   ·have hne : ordE s js os = shopE s js := by unfold ordE; rw [if_neg h0]
    have hbe : brkE s js os (a1, f1, u1) = shopE s js := by unfold brkE; rw [if_neg (by rw [hne]; exact h0), hne]
    have hbv : brkV s js os (a1, f1, u1) = .nils := by unfold brkV; rw [hbe, if_neg h0]
    rw [hbe, hbv] at hbr
    have h0b : (shopE s js == 0) = false := by simp [h0]
    have HH17 := zA hcopy (zA hwork (zA hints (zA hck0 (zA hsame (zA heq (zA hin (zA hor (zA hbr (zA fcc (zA rcc (zA lcc (zA ccc1 (zA ccc2 (zA fjj (zA rjj (zA ljj (zA cjj1 (zA cjj2 (zA foo (zA roo (zA loo (zA coo1 (zA coo2 (zA h0 h0b))))))))))))))))))))))))
    have HH18 := zA hok3 (zA ke2 (zA tkS (zA fzS rbS1)))
    refine zK ?_
    simp only [zT, zB]
    refine zS ?_
    refine runs_drw (by simp (maxSteps := 3000000) [zC h14, zC h15, zC h17, zC h18, zC h21, zC h22, zC h23, zC h24, zC h25, zC h35, zC h36, zC h37, callF_eff h16 rfl, ↓orc_nil, freshE, backB, backB1, okA, okBlk, plainA, -lenA, oKn, HH2, HH17, ↓HH18]; rfl) ?_
    simp only [zT, zB]
    refine zS ?_
    refine zR (zO (by simp [zC h14, zC h15, zC h17, zC h18, zC h21, zC h22, zC h23, zC h24, zC h25, zC h35, zC h36, zC h37, callF_eff h16 rfl, ↓orc_nil, freshE, backB, backB1, okA, okBlk, plainA, -lenA, oKn, HH2, HH17, ↓HH18]; rfl) ?_)
    simp only [zT, zB]
    refine zS ?_
    refine zS ?_
    refine zR (zO (by simp [zC h14, zC h15, zC h17, zC h18, zC h21, zC h22, zC h23, zC h24, zC h25, zC h35, zC h36, zC h37, callF_eff h16 rfl, ↓orc_nil, freshE, backB, backB1, okA, okBlk, plainA, -lenA, oKn, HH2, HH17, ↓HH18]; rfl) ?_)
    simp only [zT, zB]
    refine runs_cond (x := false) (by simp) ?_
    refine zK ?_
    simp only [zT, zB]
    refine zS ?_
    refine zR (zO (by simp [zC h14, zC h15, zC h17, zC h18, zC h21, zC h22, zC h23, zC h24, zC h25, zC h35, zC h36, zC h37, callF_eff h16 rfl, ↓orc_nil, freshE, backB, backB1, okA, okBlk, plainA, -lenA, oKn, HH2, HH17, ↓HH18]; rfl) ?_)
    simp only [zT, zB]
    refine zS ?_
    refine zL ?_
    refine zS ?_
    refine zR (zO (by simp [zC h14, zC h15, zC h17, zC h18, zC h21, zC h22, zC h23, zC h24, zC h25, zC h35, zC h36, zC h37, callF_eff h16 rfl, ↓orc_nil, freshE, backB, backB1, okA, okBlk, plainA, -lenA, oKn, HH2, HH17, ↓HH18]; rfl) ?_)
    simp only [zT, zB]
    refine runs_cond (x := true) (by simp [h0]) ?_
    refine zK ?_
    simp only [zT, zB]
    refine zS ?_
    refine zS ?_
    refine zR (zO (by simp [zC h14, zC h15, zC h17, zC h18, zC h21, zC h22, zC h23, zC h24, zC h25, zC h35, zC h36, zC h37, callF_eff h16 rfl, ↓orc_nil, freshE, backB, backB1, okA, okBlk, plainA, -lenA, oKn, HH2, HH17, ↓HH18]; rfl) ?_)
    simp only [zT, zB]
    refine runs_cond (x := true) (by simp [h0]) ?_
    refine zS ?_
    refine zR (zO (by simp [zC h14, zC h15, zC h17, zC h18, zC h21, zC h22, zC h23, zC h24, zC h25, zC h35, zC h36, zC h37, callF_eff h16 rfl, ↓orc_nil, freshE, backB, backB1, okA, okBlk, plainA, -lenA, oKn, HH2, HH17, ↓HH18]; rfl) ?_)
    simp only [zT, zB]
    refine runs_ret ?_
    simp [zC h14, zC h15, zC h17, zC h18, zC h21, zC h22, zC h23, zC h24, zC h25, zC h35, zC h36, zC h37, callF_eff h16 rfl, ↓orc_nil, freshE, backB, backB1, okA, okBlk, plainA, -lenA, oKn, HH2, HH17, ↓HH18]
 ·have HH19 := zA h14 (zA h15 (zA h17 (zA h18 (zA h21 (zA h22 (zA h23 (zA h24 (zA h25 (zA h35 (zA h36 (zA h37 (zA h16 (zA fc (zA ft (zA fj (zA rc (zA rt (zA rj (zA lc (zA lt (zA lj (zA cc1 (zA cc2 (zA ct1 (zA ct2 (zA cj1 (zA cj2 (zA fo (zA ro (zA lo (zA co1 (zA co2 hlg))))))))))))))))))))))))))))))))
  refine zS ?_
  refine zR (zO (by simp [zC h14, zC h15, zC h17, zC h18, zC h21, zC h22, zC h23, zC h24, zC h25, zC h35, zC h36, zC h37, callF_eff h16 rfl, ↓orc_nil, freshE, backB, backB1, okA, okBlk, plainA, -lenA, oKn, HH19]; rfl) ?_)
  simp only [zT, zB]
  refine zS ?_
  refine zS ?_
  refine zR (zO (by simp [zC h14, zC h15, zC h17, zC h18, zC h21, zC h22, zC h23, zC h24, zC h25, zC h35, zC h36, zC h37, callF_eff h16 rfl, ↓orc_nil, freshE, backB, backB1, okA, okBlk, plainA, -lenA, oKn, HH19]; rfl) ?_)
  simp only [zT, zB]
  refine runs_cond (x := true) (by simp) ?_
  refine zS ?_
  refine zR (zO (by simp [zC h14, zC h15, zC h17, zC h18, zC h21, zC h22, zC h23, zC h24, zC h25, zC h35, zC h36, zC h37, callF_eff h16 rfl, ↓orc_nil, freshE, backB, backB1, okA, okBlk, plainA, -lenA, oKn, HH19]; rfl) ?_)
  simp only [zT, zB]
  refine runs_ret ?_
  simp [zC h14, zC h15, zC h17, zC h18, zC h21, zC h22, zC h23, zC h24, zC h25, zC h35, zC h36, zC h37, callF_eff h16 rfl, ↓orc_nil, freshE, backB, backB1, okA, okBlk, plainA, -lenA, oKn, HH19]
theorem law6 (s : FShop) (js : List FJob) (c t j : AVal) (hc : dInts2 c = some s.chg) (ht : dStops t = some s.stops) (hj : dJobs j = some js) (o : AVal) (os : List Int) (ho : dInts o = some os) (a1 f1 u1 : Int) : Answers Tryz.prog FRB 6 [.agg [I s.mach, c, t], j, .agg [o, I a1, I f1, I u1]] [] fun v h => v = .bool true :=
  a6 Tryz.prog FRB rfl rfl rfl rfl rfl rfl rfl rfl rfl rfl rfl rfl rfl rfl s js c t j hc ht hj o os ho a1 f1 u1
end
end Go.Proofs.YtjjapdagllclkaaGreat.Tab
