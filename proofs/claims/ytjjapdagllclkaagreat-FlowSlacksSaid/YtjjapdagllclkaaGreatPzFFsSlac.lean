/- Contracts of flow: Slack, FlowSlacks. No condition. -/
import Derived.Test.YtjjapdagllclkaaGreatPzBFs
import Derived.Test.YtjjapdagllclkaaGreatPzEFs
set_option linter.unusedSimpArgs false
set_option linter.unusedVariables false
namespace Go.Proofs.YtjjapdagllclkaaGreat.Tab
open Go Go.Abs Go.Proofs
set_option linter.unusedSimpArgs false
set_option linter.unusedVariables false
abbrev FEv := Int × Int
def eLe (a b : FEv) : Prop := a.1 < b.1 ∨ (a.1 = b.1 ∧ a.2 ≤ b.2)
instance (a b : FEv) : Decidable (eLe a b) := by unfold eLe; infer_instance
end Go.Proofs.YtjjapdagllclkaaGreat.Tab

namespace Go.Proofs.YtjjapdagllclkaaGreat.Tab
open Go Go.Abs Go.Proofs
set_option maxRecDepth 100000
set_option maxHeartbeats 4000000
set_option linter.unusedSimpArgs false
set_option linter.unusedVariables false
section
attribute [local simp] frz_int frz_bool frz_vl frz_pv frz_agg frz_tup frz_fn frz_ref frz_sl frz_nils optAll orcF rb_int rb_bool rb_agg rb_tup rb_int' rb_bool' rb_vl rb_pv rb_yld rb_nilf rb_nilp rb_nils rb_any rb_und rb_ref rb_sl rb_fn slE chunk fillA evParts evParts3 putAt List.range_succ List.range_zero List.range'_succ List.range'_zero runX_nil' unary_not evalS_pure evAll_nil evAll_cons runX_cons stepX wantedA dop CV.ev putK_eq setK_eq appK_eq fA_eq fI_eq fN_eq fRow_eq fRows_eq nth_eq Out.v putT List.replicate_succ zT zB arI pointee Abs.rowAt ldRow allV toV toC ofV ofC Builtin.min_ Builtin.min2 Builtin.max_ Builtin.max2 min_if max_if resA tupA kill trim_self trim_len trim_emp trim_nil lenA
attribute [local simp] runD_nil' runD_cons' stepD actK_eq actD clash disj masks holes maskH unmaskH diffs news eqB allB eqA ldRowN wrote toCs ofCs stA rowsV_vl rowsV_nils rowsOf dI1 dI2 dI3 dI5 elt
attribute [local simp] st_any st_und st_agg st_tup st_bool st_int st_nilp st_ref st_pv st_nils st_sl st_vl st_nilm st_mp st_fn st_nilf st_yld co_any co_und co_agg co_tup co_bool co_int co_nilp co_ref co_pv co_nils co_sl co_vl co_nilm co_mp co_fn co_nilf co_yld
attribute [local simp] above backA backA1 callA calleeA flatAt flatBlk frNB_none frNB_row frN_agg frN_bool frN_int frN_nils frN_ref frN_sl frN_tup frN_vl frameE lop loud norm posOf ptrs putH rbB_none rbB_row renA setH
theorem W_e0 : W .i64 0 = 0 := by decide
theorem W_e1 : W .i64 1 = 1 := by decide
theorem W_e2 : W .i64 2 = 2 := by decide
attribute [local simp] W_e0 W_e1 W_e2
end
end Go.Proofs.YtjjapdagllclkaaGreat.Tab

namespace Go.Proofs.YtjjapdagllclkaaGreat.Tab
open Go Go.Abs Go.Proofs
set_option maxRecDepth 100000
set_option maxHeartbeats 4000000
set_option linter.unusedSimpArgs false
set_option linter.unusedVariables false
section
attribute [local simp] frz_int frz_bool frz_vl frz_pv frz_agg frz_tup frz_fn frz_ref frz_sl frz_nils optAll orcF rb_int rb_bool rb_agg rb_tup rb_int' rb_bool' rb_vl rb_pv rb_yld rb_nilf rb_nilp rb_nils rb_any rb_und rb_ref rb_sl rb_fn slE chunk fillA evParts evParts3 putAt List.range_succ List.range_zero List.range'_succ List.range'_zero runX_nil' unary_not evalS_pure evAll_nil evAll_cons runX_cons stepX wantedA dop CV.ev putK_eq setK_eq appK_eq fA_eq fI_eq fN_eq fRow_eq fRows_eq nth_eq Out.v putT List.replicate_succ zT zB arI pointee Abs.rowAt ldRow allV toV toC ofV ofC Builtin.min_ Builtin.min2 Builtin.max_ Builtin.max2 min_if max_if resA tupA kill trim_self trim_len trim_emp trim_nil lenA
attribute [local simp] runD_nil' runD_cons' stepD actK_eq actD clash disj masks holes maskH unmaskH diffs news eqB allB eqA ldRowN wrote toCs ofCs stA rowsV_vl rowsV_nils rowsOf dI1 dI2 dI3 dI5 elt
attribute [local simp] st_any st_und st_agg st_tup st_bool st_int st_nilp st_ref st_pv st_nils st_sl st_vl st_nilm st_mp st_fn st_nilf st_yld co_any co_und co_agg co_tup co_bool co_int co_nilp co_ref co_pv co_nils co_sl co_vl co_nilm co_mp co_fn co_nilf co_yld
attribute [local simp] Function.comp_def List.all_append List.all_map above callA calleeA frNB_none frNB_row frN_agg frN_bool frN_int frN_nils frN_ref frN_sl frN_tup frN_vl frzG gather getR lim lop loud lowA lowR norm okG putG putR rbB_none rbB_row resG rowAt takeG
noncomputable def lateR (s : FShop) (js : List FJob) (os : List Int) : Int × Int × Int := (((lateL (endF s js os) js js.length).length : Int), (latF (endF s js os) js js.length).1, (latF (endF s js os) js js.length).2)
theorem a26 (P : Program) (T : Nat → Option CFn) (hT : T 26 = some c26) (h27 : T 27 = some { c27 with frsh := false, orc := oRunR }) (s : FShop) (js : List FJob) (c t j : AVal) (hc : dInts2 c = some s.chg) (ht : dStops t = some s.stops) (hj : dJobs j = some js) (o : AVal) (os : List Int) (ho : dInts o = some os) (hctx : RunCtx s js os) : Answers P T 26 [.agg [I s.mach, c, t], j, o] [] fun v h => frz true h 5 v = some (.tup [I (lateR s js os).1, I (lateR s js os).2.1, I (lateR s js os).2.2]) := by
 have fc := fun H d => dInts2_frz hc H d
 have ft := fun H d => dStops_frz ht H d
 have fj := fun H d => dJobs_frz hj H d
 have rc := fun n d => dInts2_rb hc n d
 have rt := fun n d => dStops_rb ht n d
 have rj := fun n d => dJobs_rb hj n d
 have lc := dInts2_len hc
 have lt := dStops_len ht
 have lj := dJobs_len hj
 obtain ⟨cc1, cc2⟩ := dInts2_cells hc
 obtain ⟨ct1, ct2⟩ := dStops_cells ht
 obtain ⟨cj1, cj2⟩ := dJobs_cells hj
 have fo := fun H d => dInts_frz ho H d
 have ro := fun n d => dInts_rb ho n d
 have lo := dInts_len ho
 obtain ⟨co1, co2⟩ := dInts_cells ho
 have hrr := runR_eq hc ht hj ho hctx
 have hTq : lateR s js os = (((lateL (endF s js os) js js.length).length : Int), (latF (endF s js os) js js.length).1, (latF (endF s js os) js js.length).2) := rfl
 rw [hTq]
 have hE : ∀ e ∈ endF s js os, 0 ≤ e ∧ e ≤ 170000 := (runF_ok hctx.ok hctx.len6 hctx.mem).en
 have hEl := endF_len hctx
 have hsh := hctx.ok
 have hn6 := hsh.njob
 generalize stsF s js os = S at *
 generalize endF s js os = E at *
 have rz1 := fun n => encS_rb n 4 S
 have rz2 := fun n => rI_rb n 4 E
 refine answers_of hT (orcF_none rfl) ?_
 simp only [oo, om, op, og, ci, cl, c26]
 have HH1 := zA h27 (zA fc (zA ft (zA fj (zA rc (zA rt (zA rj (zA lc (zA lt (zA lj (zA cc1 (zA cc2 (zA ct1 (zA ct2 (zA cj1 (zA cj2 (zA fo (zA ro (zA lo (zA co1 (zA co2 hrr))))))))))))))))))))
 refine zS ?_
 refine zR (zO (by simp [zC h27, -lenA, ↓rz1, ↓rz2, HH1]; rfl) ?_)
 simp only [zT, zB]
 refine zS ?_
 refine zR (zO (by simp [zC h27, -lenA, ↓rz1, ↓rz2, HH1]; rfl) ?_)
 simp only [zT, zB]
 refine zS ?_
 refine zS ?_
 refine zR (zO (by simp [zC h27, -lenA, ↓rz1, ↓rz2, HH1]; rfl) ?_)
 simp only [zT, zB]
 refine zL ?_
 refine runs_loop_inv (fun m σ => ∃ (p : Nat) (h1 q1 q2 q3 : Int), h1 = p ∧ js.length - p = m ∧ p ≤ js.length ∧ q1 = ((lateL E js p).length : Int) ∧ q2 = (latF E js p).1 ∧ q3 = (latF E js p).2 ∧ σ = ⟨[.any, j, .any, .any, .any, .any, .any, .any, .any, I q1, I q2, I q3, .ref 1 0 0, I h1, .any, .any, .any, .any, .any, .any, .any, .any, .any, .any, .any, .any, .any, .any, .any, .any, .any, .any, .any, .any, .any, .any, .any, .any, .any, .any, .any, .any, .any, .any, .any, .any, .any, .any, .any, .any, .any, .any, .any, .any, .any, .any, .any, .any, .any, .any], [some (.row 3 [[I s.mach, c, t]]), some (.row 2 [[.vl (S.map encS) true, .vl (E.map rI) true]])]⟩) ?_ (js.length - 0) _ ⟨0, 0, 0, 0, 0, rfl, rfl, Nat.zero_le _, rfl, rfl, rfl, by simp⟩
 rintro m σ ⟨p, h1, q1, q2, q3, hhp, rfl, hpl, hq1, hq2, hq3, rfl⟩
 refine zS ?_
 refine zS ?_
 refine zR (zO (by simp [zC h27, -lenA, ↓rz1, ↓rz2, HH1]; rfl) ?_)
 simp only [zT, zB]
 refine runs_cond_split (x := decide (h1 < (js.length : Int))) (by simp) (fun hlt3 => ?_) (fun hlt3 => ?_)
 ·have hlt3 := of_decide_eq_true hlt3
  have hp0 : p < js.length := by omega
  have hpE : p < E.length := by omega
  have hh0 : 0 ≤ h1 := by omega
  have hhn : h1.toNat = p := by omega
  have hhlo : h1 < (js.length : Int) := by omega
  have hhlE : h1 < (E.length : Int) := by omega
  have hwh : W .i64 (h1 + 1) = h1 + 1 := W_small (by omega)
  have hjb := hsh.job _ (List.getElem_mem hp0)
  have hEp := hE _ (List.getElem_mem hpE)
  have hlb := latF_bd (E := E) (js := js) (fun e he => by have := hE e he; omega) (fun j hj => (hsh.job j hj).2.2.1.1) p (by omega) (by omega)
  have hll2 := lateL_len E js p
  have hEA : endAt E p = E[p] := by unfold endAt; rw [List.getD_eq_getElem?_getD, List.getElem?_eq_getElem hpE]; rfl
  have hDA : dueAt js p = js[p].due := by unfold dueAt; rw [List.getD_eq_getElem?_getD, List.getElem?_eq_getElem hp0]; rfl
  have hlF : latF E js (p + 1) = ((latF E js p).1 + max 0 (endAt E p - dueAt js p), max (latF E js p).2 (endAt E p)) := rfl
  have hlL : lateL E js (p + 1) = lateL E js p ++ if dueAt js p < endAt E p then [(p : Int)] else [] := rfl
  rw [hEA, hDA] at hlF hlL
  clear hEA hDA
  obtain ⟨jr, tj, wv, rfl, hr1, hr2, hwv⟩ := dJobs_get hj hp0
  have hkr : p < jr.length := by omega
  have hr4 : ∀ h, jr[p]'h = [I js[p].kind, I js[p].ready, I js[p].due, wv] := fun h => by rw [List.getElem?_eq_getElem h] at hr2; exact Option.some.inj hr2
  have rw5 := fun n d => dInts_rb hwv n d
  have fw5 := fun H d => dInts_frz hwv H d
  have lw5 := dInts_len hwv
  obtain ⟨cw1, cw2⟩ := dInts_cells hwv
  have he1 : (E.map rI)[p]? = some [I E[p]] := by rw [List.getElem?_map, List.getElem?_eq_getElem hpE]; rfl
  have he2 : ∀ (h : p < (E.map rI).length), (E.map rI)[p]'h = [I E[p]] := fun h => by rw [List.getElem_map]; rfl
  generalize hV : E[p] = V at *
  have hdu := hjb.2.2.1
  generalize hD : js[p].due = D at *
  have hlL2 : ((lateL E js (p + 1)).length : Int) = ((lateL E js p).length : Int) + if D < V then 1 else 0 := by rw [hlL]; split <;> simp
  rw [← hq1] at hlL2
  rw [← hq2, ← hq3] at hlF hlb
  have hq1b : 0 ≤ q1 ∧ q1 ≤ 100 := by omega
  have w1 : W .i64 (q1 + 1) = q1 + 1 := W_fit (by omega)
  have w2 : W .i64 (V - D) = V - D := W_fit (by omega)
  have w3 : W .i64 (q2 + (V - D)) = q2 + (V - D) := W_fit (by omega)
  have HH2 := zA hp0 (zA hpE (zA hh0 (zA hhn (zA hhlo (zA hhlE (zA hwh (zA hV (zA hD (zA w1 (zA w2 (zA w3 (zA he1 (zA he2 (zA hkr (zA hr2 (zA hr4 (zA rw5 (zA fw5 (zA lw5 (zA cw1 cw2))))))))))))))))))))
  refine zK ?_
  simp only [zT, zB]
  refine zS ?_
  refine zL ?_
  refine zS ?_
  refine zS ?_
  refine runs_drw (by simp (maxSteps := 3000000) [zC h27, -lenA, ↓rz1, ↓rz2, HH1, HH2]; rfl) ?_
  simp only [zT, zB]
  refine runs_cond_split (x := decide (D < V)) (by simp) (fun hgt => ?_) (fun hgt => ?_)
  ·have hl3 := of_decide_eq_true hgt
   rw [if_pos hl3] at hlL2
   refine zS ?_
   refine zR (zO (by simp [zC h27, -lenA, ↓rz1, ↓rz2, HH1, HH2]; rfl) ?_)
   simp only [zT, zB]
   refine runs_drw (by simp (maxSteps := 3000000) [zC h27, -lenA, ↓rz1, ↓rz2, HH1, HH2]; rfl) ?_
   simp only [zT, zB]
   refine zR (zO (by simp [zC h27, -lenA, ↓rz1, ↓rz2, HH1, HH2]; rfl) ?_)
   simp only [zT, zB]
   refine zR (zO (by simp [zC h27, -lenA, ↓rz1, ↓rz2, HH1, HH2]; rfl) ?_)
   simp only [zT, zB]
   exact ⟨js.length - (p + 1), by omega, p + 1, h1 + 1, q1 + 1, q2 + (V - D), max q3 V, by omega, rfl, by omega, hlL2.symm, by rw [hlF]; show _ = q2 + max 0 (V - D); omega, by rw [hlF], by simp [trim, zC h27, -lenA, ↓rz1, ↓rz2, HH1, HH2]⟩
  ·have hl3 := of_decide_eq_false hgt
   rw [if_neg hl3, Int.add_zero] at hlL2
   refine zK ?_
   simp only [zT, zB]
   refine zR (zO (by simp [zC h27, -lenA, ↓rz1, ↓rz2, HH1, HH2]; rfl) ?_)
   simp only [zT, zB]
   refine zR (zO (by simp [zC h27, -lenA, ↓rz1, ↓rz2, HH1, HH2]; rfl) ?_)
   simp only [zT, zB]
   exact ⟨js.length - (p + 1), by omega, p + 1, h1 + 1, q1, q2, max q3 V, by omega, rfl, by omega, hlL2.symm, by rw [hlF]; show _ = q2 + max 0 (V - D); omega, by rw [hlF], by simp [trim, zC h27, -lenA, ↓rz1, ↓rz2, HH1, HH2]⟩
 ·have hlt3 := of_decide_eq_false hlt3
  have hpe : p = js.length := by omega
  subst hpe
  rw [← hq1, ← hq2, ← hq3]
  refine runs_exit ?_
  simp only [zT, zB, if_true, if_false, reduceIte, Nat.reduceEqDiff, Nat.succ_ne_zero, Nat.one_ne_zero, Nat.zero_ne_one]
  refine zS ?_
  refine zR (zO (by simp [zC h27, -lenA, ↓rz1, ↓rz2, HH1]; rfl) ?_)
  simp only [zT, zB]
  refine runs_ret ?_
  simp [zC h27, -lenA, ↓rz1, ↓rz2, HH1, trim]
open Classical in
noncomputable def oLateR : List AVal → Option AVal
  | [.agg [.int .i64 m, c, t], j, o] => match dInts2 c, dStops t, dJobs j, dInts o with
    | some cs, some ts, some js, some os => if RunCtx ⟨m, cs, ts⟩ js os then some (.tup [I (lateR ⟨m, cs, ts⟩ js os).1, I (lateR ⟨m, cs, ts⟩ js os).2.1, I (lateR ⟨m, cs, ts⟩ js os).2.2]) else none
    | _, _, _, _ => none
  | _ => none
theorem lateR_eq {s : FShop} {js : List FJob} {c t j o : AVal} {os : List Int} (hc : dInts2 c = some s.chg) (ht : dStops t = some s.stops) (hj : dJobs j = some js) (ho : dInts o = some os) (h : RunCtx s js os) : oLateR [.agg [I s.mach, c, t], j, o] = some (.tup [I (lateR s js os).1, I (lateR s js os).2.1, I (lateR s js os).2.2]) := by
  simp only [oLateR, hc, ht, hj, ho]
  rw [if_pos h]
noncomputable def FRL : Nat → Option CFn := upd FR 26 true (oLateR)
theorem FRL_ok : TabOk Tryz.prog GG FRL := tab_add mixed FR_ok fun args v ho => by
  unfold oLateR at ho; split at ho <;> (try simp only [reduceCtorEq] at ho)
  rename_i m c t j o
  split at ho <;> (try simp only [reduceCtorEq] at ho)
  rename_i cs ts js os hc ht hj ho2
  split at ho <;> (try simp only [reduceCtorEq] at ho)
  rename_i hg
  simp only [Option.some.injEq] at ho
  subst ho
  exact a26 Tryz.prog FR rfl rfl ⟨m, cs, ts⟩ js c t j hc ht hj o os ho2 hg
end
end Go.Proofs.YtjjapdagllclkaaGreat.Tab

namespace Go.Proofs.YtjjapdagllclkaaGreat.Tab
open Go Go.Abs Go.Proofs
set_option maxRecDepth 100000
set_option maxHeartbeats 4000000
set_option linter.unusedSimpArgs false
set_option linter.unusedVariables false
section
attribute [local simp] frz_int frz_bool frz_vl frz_pv frz_agg frz_tup frz_fn frz_ref frz_sl frz_nils optAll orcF rb_int rb_bool rb_agg rb_tup rb_int' rb_bool' rb_vl rb_pv rb_yld rb_nilf rb_nilp rb_nils rb_any rb_und rb_ref rb_sl rb_fn slE chunk fillA evParts evParts3 putAt List.range_succ List.range_zero List.range'_succ List.range'_zero runX_nil' unary_not evalS_pure evAll_nil evAll_cons runX_cons stepX wantedA dop CV.ev putK_eq setK_eq appK_eq fA_eq fI_eq fN_eq fRow_eq fRows_eq nth_eq Out.v putT List.replicate_succ zT zB arI pointee Abs.rowAt ldRow allV toV toC ofV ofC Builtin.min_ Builtin.min2 Builtin.max_ Builtin.max2 min_if max_if resA tupA kill trim_self trim_len trim_emp trim_nil lenA
attribute [local simp] runD_nil' runD_cons' stepD actK_eq actD clash disj masks holes maskH unmaskH diffs news eqB allB eqA ldRowN wrote toCs ofCs stA rowsV_vl rowsV_nils rowsOf dI1 dI2 dI3 dI5 elt
attribute [local simp] st_any st_und st_agg st_tup st_bool st_int st_nilp st_ref st_pv st_nils st_sl st_vl st_nilm st_mp st_fn st_nilf st_yld co_any co_und co_agg co_tup co_bool co_int co_nilp co_ref co_pv co_nils co_sl co_vl co_nilm co_mp co_fn co_nilf co_yld
attribute [local simp] callA calleeA lim lop loud posOf rbB_row
theorem optAll_setJ {α β : Type} {f : α → Option β} {a : α} {b : β} (ha : f a = some b) : ∀ {xs : List α} {ys : List β} (k : Nat), optAll f xs = some ys → optAll f (xs.set k a) = some (ys.set k b)
  | [], ys, k, h => by simp at h; subst h; rfl
  | x :: xs, ys, k, h => by
    simp only [optAll] at h
    split at h <;> simp at h
    rename_i y zs hy hz
    subst h
    cases k with
    | zero => simp only [List.set_cons_zero, optAll, ha, hz]
    | succ k => simp only [List.set_cons_succ, optAll, hy, optAll_setJ ha k hz]
theorem jrows_at {rs : List (List AVal)} {js : List FJob} (h : optAll dJob rs = some js) : ∀ r ∈ rs, ∃ (x : FJob) (v : AVal), r = [I x.kind, I x.ready, I x.due, v] ∧ dInts v = some x.mins := fun r hr => by
  obtain ⟨x, _, e⟩ := optAll_mem h r hr
  obtain ⟨v, e2, hv⟩ := dJob_eq e
  exact ⟨x, v, e2, hv⟩
theorem rJ_frz {rs : List (List AVal)} {js : List FJob} (h : optAll dJob rs = some js) (H : Heap) (d : Nat) : optAll (optAll (frz false H (d + 1))) rs = some rs := optAll_self _ fun r hr => optAll_self _ fun z hz => by
  obtain ⟨x, v, rfl, hv⟩ := jrows_at h r hr
  simp only [List.mem_cons, List.not_mem_nil, or_false] at hz
  rcases hz with rfl | rfl | rfl | rfl
  · rfl
  · rfl
  · rfl
  · exact dInts_frz hv H d
theorem rJ_rb {rs : List (List AVal)} {js : List FJob} (h : optAll dJob rs = some js) (n d : Nat) : (rs.all fun r => r.all (rb n (d + 1))) = true := by
  simp only [List.all_eq_true]
  intro r hr z hz
  obtain ⟨x, v, rfl, hv⟩ := jrows_at h r hr
  simp only [List.mem_cons, List.not_mem_nil, or_false] at hz
  rcases hz with rfl | rfl | rfl | rfl
  · rfl
  · rfl
  · rfl
  · exact dInts_rb hv n d
theorem rJ_len {rs : List (List AVal)} {js : List FJob} (h : optAll dJob rs = some js) : (rs.all fun r => r.length == 4) = true := by
  simp only [List.all_eq_true]
  intro r hr
  obtain ⟨x, v, rfl, _⟩ := jrows_at h r hr
  rfl
theorem rJ_st {rs : List (List AVal)} {js : List FJob} (h : optAll dJob rs = some js) : (rs.all fun r => r.all storable) = true := by
  simp only [List.all_eq_true]
  intro r hr z hz
  obtain ⟨x, v, rfl, hv⟩ := jrows_at h r hr
  simp only [List.mem_cons, List.not_mem_nil, or_false] at hz
  rcases hz with rfl | rfl | rfl | rfl
  · rfl
  · rfl
  · rfl
  · exact (dInts_cells hv).2
def laterF (js : List FJob) (k : Nat) (d : Int) : List FJob := js.set k ⟨(jobAt js k).kind, (jobAt js k).ready + d, (jobAt js k).due, (jobAt js k).mins⟩
theorem laterF_len (js : List FJob) (k : Nat) (d : Int) : (laterF js k d).length = js.length := by simp [laterF]
theorem later_rows {rs : List (List AVal)} {js : List FJob} (h : optAll dJob rs = some js) {k : Nat} (hk : k < js.length) {w : AVal} (hw : dInts w = some js[k].mins) (d : Int) : optAll dJob (rs.set k [I js[k].kind, I (js[k].ready + d), I js[k].due, w]) = some (laterF js k d) := by
  unfold laterF
  rw [jobAt_eq hk]
  exact optAll_setJ (by simp only [dJob, hw]) k h
theorem later_shop {s : FShop} {js : List FJob} (h : ShopOk s js) {k : Nat} (hk : k < js.length) (hr : js[k].ready ≤ 100000) {d : Int} (hd : 0 ≤ d ∧ d ≤ 10000) : ShopOk s (laterF js k d) :=
  ⟨h.mach, h.kinds, h.chg, h.nst, h.stop, by rw [laterF_len]; exact h.njob, fun x hx => by
    unfold laterF at hx
    rw [jobAt_eq hk] at hx
    rcases List.mem_or_eq_of_mem_set hx with hx | rfl
    · exact h.job x hx
    · have := h.job _ (List.getElem_mem hk)
      exact ⟨this.1, ⟨by simp only; omega, by simp only; omega⟩, this.2.2.1, this.2.2.2⟩⟩
theorem later_ord {js : List FJob} {os : List Int} (h : OrdOk js os) (k : Nat) (d : Int) : OrdOk (laterF js k d) os := ⟨h.len, by rw [laterF_len]; exact h.at'⟩
theorem ready_le {s : FShop} {js : List FJob} (h : shopE s js = 0) : ∀ x ∈ js, x.ready ≤ 100000 := by
  unfold shopE at h
  split at h; · simp at h
  split at h; · simp at h
  split at h; · simp at h
  split at h; · simp at h
  split at h; · simp at h
  rename_i hj
  simp only [Bool.not_eq_true', Bool.not_eq_false, List.all_eq_true] at hj
  intro x hx
  have := hj x hx
  simp only [jobOk, wB, List.all_cons, List.all_nil, Bool.and_eq_true, decide_eq_true_eq] at this
  omega
def oLaterR : List AVal → Option AVal
  | [.vl rs _, .int .i64 i, .int .i64 d] => match optAll dJob rs, rs[i.toNat]? with
    | some js, some [.int .i64 k, .int .i64 r, .int .i64 u, w] => if js.length ≤ 1000 ∧ (0 ≤ i ∧ i < js.length) ∧ (0 ≤ d ∧ d ≤ 100000) ∧ (0 ≤ r ∧ r ≤ 500000) then some (.vl (rs.set i.toNat [I k, I (r + d), I u, w]) false) else none
    | _, _ => none
  | _ => none
theorem laterR_eq {rs : List (List AVal)} {js : List FJob} {tt : Bool} (h : optAll dJob rs = some js) {i : Int} {kn : Nat} (hi : i = kn) (hk : kn < js.length) {k r u : Int} {w : AVal} (hr : rs[kn]? = some [I k, I r, I u, w]) (hl : js.length ≤ 1000) {d : Int} (hd : 0 ≤ d ∧ d ≤ 100000) (hr2 : 0 ≤ r ∧ r ≤ 500000) : oLaterR [.vl rs tt, I i, I d] = some (.vl (rs.set kn [I k, I (r + d), I u, w]) false) := by
  subst hi
  have ht : ((kn : Int)).toNat = kn := by omega
  simp only [oLaterR, h, ht, hr]
  rw [if_pos ⟨hl, by omega, hd, hr2⟩]
def sCloneJ : List AVal → Option (AVal × Heap)
  | [.vl rs _] => match optAll dJob rs with
    | some js => if js.length ≤ 1000 then some (.sl 0 0 rs.length false, [some (.row 4 rs)]) else none
    | none => none
  | _ => none
theorem sCloneJ_eq {rs : List (List AVal)} {js : List FJob} {tt : Bool} (h : optAll dJob rs = some js) (hl : js.length ≤ 1000) : sCloneJ [.vl rs tt] = some (.sl 0 0 rs.length false, [some (.row 4 rs)]) := by
  simp only [sCloneJ, h]; rw [if_pos hl]
noncomputable def ltQ (s : FShop) (js : List FJob) (os : List Int) (k : Nat) (d : Int) : Bool := decide (0 < (lateL (runF s (laterF js k d) os).ends (laterF js k d) (laterF js k d).length).length)
def bsF (L : Int → Bool) : Nat → Int → Int → Int
  | 0, lo, _ => lo
  | f + 1, lo, hi => if lo < hi then (if L ((lo + hi + 1) / 2) = true then bsF L f lo ((lo + hi + 1) / 2 - 1) else bsF L f ((lo + hi + 1) / 2) hi) else lo
theorem bsF_spec (L : Int → Bool) : ∀ (f : Nat) (lo hi : Int), hi - lo < f → lo ≤ hi → hi ≤ 10000 → L lo = false → (hi = 10000 ∨ L (hi + 1) = true) → (lo ≤ bsF L f lo hi ∧ bsF L f lo hi ≤ hi) ∧ L (bsF L f lo hi) = false ∧ (bsF L f lo hi = 10000 ∨ L (bsF L f lo hi + 1) = true)
  | 0, lo, hi, hf, h1, h2, h3, h4 => by omega
  | f + 1, lo, hi, hf, h1, h2, h3, h4 => by
    simp only [bsF]
    split
    · split
      · rename_i hm
        have := bsF_spec L f lo ((lo + hi + 1) / 2 - 1) (by omega) (by omega) (by omega) h3 (.inr (by rw [Int.sub_add_cancel]; exact hm))
        exact ⟨by omega, this.2⟩
      · rename_i hm
        have := bsF_spec L f ((lo + hi + 1) / 2) hi (by omega) (by omega) h2 (by simpa using hm) h4
        exact ⟨by omega, this.2⟩
    · obtain rfl : lo = hi := by omega
      exact ⟨by omega, h3, h4⟩
noncomputable def slkE (s : FShop) (js : List FJob) (os : List Int) (i : Int) : Int := if ordE s js os = 0 then (if 0 ≤ i ∧ i < js.length then (if lateL (runF s js os).ends js js.length = [] then 0 else 9) else 7) else ordE s js os
noncomputable def slkV (s : FShop) (js : List FJob) (os : List Int) (i : Int) : Int := if slkE s js os i = 0 then bsF (ltQ s js os i.toNat) 10001 0 10000 else 0
noncomputable def oSlack : List AVal → Option AVal
  | [.agg [.int .i64 m, c, t], j, o, .int .i64 i] => match dInts2 c, dStops t, dJobs j, dInts o with
    | some cs, some ts, some js, some os => if sizeOk ⟨m, cs, ts⟩ js = true ∧ os.length ≤ 100 then some (.tup [I (slkV ⟨m, cs, ts⟩ js os i), I (slkE ⟨m, cs, ts⟩ js os i)]) else none
    | _, _, _, _ => none
  | _ => none
theorem slack_eq {s : FShop} {js : List FJob} {c t j o : AVal} {os : List Int} (hc : dInts2 c = some s.chg) (ht : dStops t = some s.stops) (hj : dJobs j = some js) (ho : dInts o = some os) (hz : SizeOk s js) (hl : os.length ≤ 100) (i : Int) : oSlack [.agg [I s.mach, c, t], j, o, I i] = some (.tup [I (slkV s js os i), I (slkE s js os i)]) := by
  simp only [oSlack, hc, ht, hj, ho]
  rw [if_pos ⟨size_ok.2 hz, hl⟩]
theorem a86 (P : Program) (T : Nat → Option CFn) (hT : T 86 = some c86) (js : List FJob) (rs : List (List AVal)) (tt : Bool) (hrs : optAll dJob rs = some js) (hl : rs.length ≤ 1000) : Answers P T 86 [.vl rs tt] [] fun v1 h1 => ∃ K : List Nat, K.Nodup ∧ K.length = [some (Blk.row 4 rs)].length ∧ (∀ p (hp : p < K.length) b, [some (Blk.row 4 rs)][p]? = some (some b) → h1[K[p]]? = some (some b)) ∧ keepB false K h1 (looseV v1) = some (.sl 0 0 rs.length false) := by
 refine answers_of hT (orcF_none rfl) ?_
 simp only [oo, om, op, og, ci, cl, c86]
 rcases rs with _ | ⟨x, l⟩
 ·refine zS ?_
  refine zR (zO (by simp; rfl) ?_)
  simp only [zT, zB]
  refine zS ?_
  refine zS ?_
  refine zR (zO (by simp; rfl) ?_)
  simp only [zT, zB]
  refine runs_cond (x := false) (by simp) ?_
  refine zK ?_
  simp only [zT, zB]
  refine zS ?_
  refine zR (zO (by simp; rfl) ?_)
  simp only [zT, zB]
  refine runs_ret ?_
  refine ⟨by simp, _, by simp; rfl, [0], by simp, rfl, fun q hq b hb => ?_, by simp [keepB, keepA, looseV, looseA]⟩
  obtain rfl : q = 0 := by simp at hq; omega
  simpa [trim, tupA, rb_sl] using hb
 ·have hl3 : l.length + 1 ≤ 1048576 := by simp at hl; omega
  have h4 := rJ_len hrs
  have h5 := rJ_st hrs
  have h6 := rJ_rb hrs
  simp only [List.all_cons, Bool.and_eq_true] at h4 h5
  obtain ⟨h4a, h4b⟩ := h4
  obtain ⟨h5a, h5b⟩ := h5
  have h4c : x.length = 4 := by simpa using h4a
  refine zS ?_
  refine zR (zO (by simp [hl3, ↓h4b, ↓h5b, ↓h5a, h4c]; rfl) ?_)
  simp only [zT, zB]
  refine zS ?_
  refine zS ?_
  refine zR (zO (by simp [hl3, ↓h4b, ↓h5b, ↓h5a, h4c]; rfl) ?_)
  simp only [zT, zB]
  refine runs_cond (x := false) (by simp) ?_
  refine zK ?_
  simp only [zT, zB]
  refine zS ?_
  refine zR (zO (by simp [hl3, ↓h4b, ↓h5b, ↓h5a, h4c]; rfl) ?_)
  simp only [zT, zB]
  refine runs_ret ?_
  refine ⟨by simp, _, by simp; rfl, [1], by simp, rfl, fun q hq b hb => ?_, by simp [keepB, keepA, looseV, looseA]⟩
  obtain rfl : q = 0 := by simp at hq; omega
  simpa [trim, tupA, rb_sl] using hb
noncomputable def FK1 : Nat → Option CFn := upd FT 86 false (fun _ => none)
theorem FK1_ok : TabOk Tryz.prog GG FK1 := tab_add mixed FT_ok fun args v ho => by simp at ho
noncomputable def FK2 : Nat → Option CFn := updE FK1 86 (freshE false sCloneJ)
theorem FK2_ok : TabOk Tryz.prog GG FK2 := tab_fresh2 mixed FK1_ok fun args v hs ho => by
  unfold sCloneJ at ho; split at ho <;> (try simp only [reduceCtorEq] at ho)
  rename_i rs tt
  split at ho <;> (try simp only [reduceCtorEq] at ho)
  rename_i js hjs
  split at ho <;> (try simp only [reduceCtorEq] at ho)
  rename_i hg
  simp only [Option.some.injEq, Prod.mk.injEq] at ho
  obtain ⟨rfl, rfl⟩ := ho
  exact a86 Tryz.prog FK1 rfl js rs tt hjs (by have := (optAll_at hjs).1; omega)
theorem a40 (P : Program) (T : Nat → Option CFn) (hT : T 40 = some c40) (js : List FJob) (rs : List (List AVal)) (tt : Bool) (hrs : optAll dJob rs = some js) (k : Nat) (hk : k < js.length) (hl : js.length ≤ 1000) (i : Int) (hi : i = k) (kd r1 du : Int) (w_ : AVal) (hrk : rs[k]? = some [I kd, I r1, I du, w_]) (d : Int) (hd : 0 ≤ d ∧ d ≤ 100000) (hr : 0 ≤ r1 ∧ r1 ≤ 500000) : Answers P T 40 [.vl rs tt, I i, I d] [] fun v h => frz false h 5 v = some (.vl (rs.set k [I kd, I (r1 + d), I du, w_]) false) := by
 have hlen := (optAll_at hrs).1
 have hkr : k < rs.length := by have := (optAll_at hrs).1; omega
 have hr2 : ∀ h, rs[k]'h = [I kd, I r1, I du, w_] := fun h => by rw [List.getElem?_eq_getElem h] at hrk; exact Option.some.inj hrk
 have h4 := rJ_len hrs
 have h5 := rJ_st hrs
 have tk : rs.take rs.length = rs := List.take_of_length_le (Nat.le_refl _)
 have hn0 : ¬ rs.length = 0 := by omega
 have hll : rs.length ≤ 1048576 := by omega
 have hi0 : 0 ≤ i := by omega
 have hin : i.toNat = k := by omega
 have hir : i < (rs.length : Int) := by omega
 have hwd : W .i64 (r1 + d) = r1 + d := W_small (by omega)
 obtain ⟨x, _, e1⟩ := optAll_mem hrs _ (List.mem_of_getElem? hrk)
 have hrs2 := optAll_setJ (f := dJob) (a := [I kd, I (r1 + d), I du, w_]) (b := ⟨kd, r1 + d, du, x.mins⟩) (by
  unfold dJob at e1 ⊢
  simp only at e1 ⊢
  split at e1 <;> simp at e1
  rename_i hw
  subst e1
  first | rfl | rw [hw]) k hrs
 have tk2 : (rs.set k [I kd, I (r1 + d), I du, w_]).take rs.length = rs.set k [I kd, I (r1 + d), I du, w_] := List.take_of_length_le (by simp)
 have fz2 := fun H d => rJ_frz hrs2 H d
 refine answers_of hT (orcF_none rfl) ?_
 simp only [oo, om, op, og, ci, cl, c40]
 have HH1 := zA hkr (zA hrk (zA hr2 (zA hn0 (zA hll (zA hi0 (zA hin (zA hir (zA hwd (zA fz2 tk2)))))))))
 refine zS ?_
 refine zR (zO (by simp [↓h4, ↓h5, ↓tk, HH1]; rfl) ?_)
 simp only [zT, zB]
 refine zS ?_
 refine zR (zO (by simp [↓h4, ↓h5, ↓tk, HH1]; rfl) ?_)
 simp only [zT, zB]
 refine zS ?_
 refine zR (zO (by simp [↓h4, ↓h5, ↓tk, HH1]; rfl) ?_)
 simp only [zT, zB]
 refine zS ?_
 refine zR (zO (by simp [↓h4, ↓h5, ↓tk, HH1]; rfl) ?_)
 simp only [zT, zB]
 refine runs_ret ?_
 simp [↓h4, ↓h5, ↓tk, HH1, trim]
noncomputable def FRK0 : Nat → Option CFn := upd FRL 40 false (oLaterR)
theorem FRK0_ok : TabOk Tryz.prog GG FRK0 := tab_add mixed FRL_ok fun args v ho => by
  unfold oLaterR at ho; split at ho <;> (try simp only [reduceCtorEq] at ho)
  rename_i rs tt i d
  split at ho <;> (try simp only [reduceCtorEq] at ho)
  rename_i js k r u w hrs hrk
  split at ho <;> (try simp only [reduceCtorEq] at ho)
  rename_i hg
  simp only [Option.some.injEq] at ho
  subst ho
  obtain ⟨g1, g2, g3, g4⟩ := hg
  obtain ⟨kn, rfl⟩ : ∃ m : Nat, i = m := ⟨i.toNat, by omega⟩
  exact a40 Tryz.prog FRL rfl js rs tt hrs kn (by omega) g1 _ rfl k r u w hrk d g3 g4
theorem a87 (P : Program) (T : Nat → Option CFn) (hT : T 87 = some c87) (h64 : T 64 = some { c64 with body := annK [(7188, [.slot 4])] [] c64.body, frsh := true, orc := oLate }) (s : FShop) (js : List FJob) (c t : AVal) (hc : dInts2 c = some s.chg) (ht : dStops t = some s.stops) (o : AVal) (os : List Int) (ho : dInts o = some os) (rs : List (List AVal)) (tt : Bool) (hrs : optAll dJob rs = some js) (hg : ShopOk s js ∧ OrdOk js os) (k : Nat) (hk : k < js.length) (hr100 : js[k].ready ≤ 100000) (w_ : AVal) (hrk : rs[k]? = some [I js[k].kind, I js[k].ready, I js[k].due, w_]) (hw : dInts w_ = some js[k].mins) (i : Int) (hi : i = k) (q d : Int) (hd : 0 ≤ d ∧ d ≤ 10000) : Answers P T 87 [I d, .ref 1 0 0, .ref 3 0 0, .ref 4 0 0, .ref 2 0 0] [some (.row 3 [[I s.mach, c, t]]), some (.row 1 [[.vl rs tt]]), some (.row 1 [[o]]), some (.row 1 [[I i]]), some (.row 4 [[I s.mach, c, t, .sl 6 0 rs.length false]]), some (.row 1 [[I i]]), some (.row 4 (rs.set k [I js[k].kind, I q, I js[k].due, w_]))] fun v h => v = .bool (ltQ s js os k d) ∧ h = [some (.row 3 [[I s.mach, c, t]]), some (.row 1 [[.vl rs tt]]), some (.row 1 [[o]]), some (.row 1 [[I i]]), some (.row 4 [[I s.mach, c, t, .sl 6 0 rs.length false]]), some (.row 1 [[I i]]), some (.row 4 (rs.set k [I js[k].kind, I (js[k].ready + d), I js[k].due, w_]))] := by
 have fc := fun H d => dInts2_frz hc H d
 have ft := fun H d => dStops_frz ht H d
 have rc := fun n d => dInts2_rb hc n d
 have rt := fun n d => dStops_rb ht n d
 have lc := dInts2_len hc
 have lt := dStops_len ht
 obtain ⟨cc1, cc2⟩ := dInts2_cells hc
 obtain ⟨ct1, ct2⟩ := dStops_cells ht
 have fo := fun H d => dInts_frz ho H d
 have ro := fun n d => dInts_rb ho n d
 have lo := dInts_len ho
 obtain ⟨co1, co2⟩ := dInts_cells ho
 have hkr : k < rs.length := by have := (optAll_at hrs).1; omega
 have hr2 : ∀ h, rs[k]'h = [I js[k].kind, I js[k].ready, I js[k].due, w_] := fun h => by rw [List.getElem?_eq_getElem h] at hrk; exact Option.some.inj hrk
 have fw5 := fun H d => dInts_frz hw H d
 have rw5 := fun n d => dInts_rb hw n d
 obtain ⟨cw1, cw2⟩ := dInts_cells hw
 have hrs2 := later_rows hrs hk hw d
 have hjL : dJobs (.vl (rs.set k [I js[k].kind, I (js[k].ready + d), I js[k].due, w_]) false) = some (laterF js k d) := hrs2
 have hlt := late_eq hc ht hjL ho ⟨later_shop hg.1 hk hr100 hd, later_ord hg.2 k d⟩
 have hq : ltQ s js os k d = decide (0 < (lateL (runF s (laterF js k d) os).ends (laterF js k d) (laterF js k d).length).length) := rfl
 rw [hq]
 clear hq
 generalize lateL (runF s (laterF js k d) os).ends (laterF js k d) (laterF js k d).length = L at *
 have hle := dInts_len (dInts_encV L)
 generalize encV L = lv at *
 have hjb := (hg.1.job _ (List.getElem_mem hk)).2.1
 have hwd : W .i64 (js[k].ready + d) = js[k].ready + d := W_small (by omega)
 generalize js[k].kind = kd at *
 generalize hrd : js[k].ready = rd at *
 generalize js[k].due = du at *
 have hi0 : 0 ≤ i := by omega
 have hin : i.toNat = k := by omega
 have hir : i < (rs.length : Int) := by omega
 have fz1 := fun H d => rJ_frz hrs H d
 have fz2 := fun H d => rJ_frz hrs2 H d
 have tk2 : (rs.set k [I kd, I (rd + d), I du, w_]).take rs.length = rs.set k [I kd, I (rd + d), I du, w_] := List.take_of_length_le (by simp)
 have rb2 := fun n => rJ_rb hrs2 n 4
 have rb1 := fun n => rJ_rb hrs n 4
 have st1 : ∀ q' : Int, (rs.set k [I kd, I q', I du, w_])[k]? = some [I kd, I q', I du, w_] := fun q' => by rw [List.getElem?_set_self hkr]
 have st2 : ∀ (q' : Int) h, (rs.set k [I kd, I q', I du, w_])[k]'h = [I kd, I q', I du, w_] := fun q' h => by rw [List.getElem_set_self]
 have rb3 : ∀ (q' : Int) n, ((rs.set k [I kd, I q', I du, w_]).all fun r => r.all (rb n 5)) = true := fun q' n => by
  simp only [List.all_eq_true]
  intro r hr z hz
  rcases List.mem_or_eq_of_mem_set hr with hr | rfl
  ·have := rb1 n
   simp only [List.all_eq_true] at this
   exact this r hr z hz
  ·simp only [List.mem_cons, List.not_mem_nil, or_false] at hz
   rcases hz with rfl | rfl | rfl | rfl
   ·rfl
   ·rfl
   ·rfl
   ·exact rw5 n 4
 refine answers_of hT (orcF_none rfl) ?_
 simp only [oo, om, op, og, ci, cl, c87]
 have HH1 := zA h64 (zA fc (zA ft (zA rc (zA rt (zA lc (zA lt (zA cc1 (zA cc2 (zA ct1 (zA ct2 (zA fo (zA ro (zA lo (zA co1 (zA co2 (zA hlt (zA hle (zA hwd (zA hi0 (zA hin (zA hir (zA hkr (zA hrk (zA hr2 (zA fw5 (zA rw5 (zA cw1 (zA cw2 (zA st1 st2)))))))))))))))))))))))))))))
 refine zS ?_
 refine zR (zO (by simp [zC h64, -lenA, ↓fz1, ↓fz2, ↓tk2, ↓rb3, List.set_set, HH1]; rfl) ?_)
 simp only [zT, zB]
 refine zS ?_
 refine runs_drw (by simp (maxSteps := 3000000) [zC h64, -lenA, ↓fz1, ↓fz2, ↓tk2, ↓rb3, List.set_set, HH1]; rfl) ?_
 simp only [zT, zB]
 refine zS ?_
 refine zR (zO (by simp [zC h64, -lenA, ↓fz1, ↓fz2, ↓tk2, ↓rb3, List.set_set, HH1]; rfl) ?_)
 simp only [zT, zB]
 refine runs_ret ?_
 simp [zC h64, -lenA, ↓fz1, ↓fz2, ↓tk2, ↓rb3, List.set_set, HH1, trim]
end
end Go.Proofs.YtjjapdagllclkaaGreat.Tab

namespace Go.Proofs.YtjjapdagllclkaaGreat.Tab
open Go Go.Abs Go.Proofs
set_option maxRecDepth 100000
set_option maxHeartbeats 4000000
set_option linter.unusedSimpArgs false
set_option linter.unusedVariables false
section
attribute [local simp] frz_int frz_bool frz_vl frz_pv frz_agg frz_tup frz_fn frz_ref frz_sl frz_nils optAll orcF rb_int rb_bool rb_agg rb_tup rb_int' rb_bool' rb_vl rb_pv rb_yld rb_nilf rb_nilp rb_nils rb_any rb_und rb_ref rb_sl rb_fn slE chunk fillA evParts evParts3 putAt List.range_succ List.range_zero List.range'_succ List.range'_zero runX_nil' unary_not evalS_pure evAll_nil evAll_cons runX_cons stepX wantedA dop CV.ev putK_eq setK_eq appK_eq fA_eq fI_eq fN_eq fRow_eq fRows_eq nth_eq Out.v putT List.replicate_succ zT zB arI pointee Abs.rowAt ldRow allV toV toC ofV ofC Builtin.min_ Builtin.min2 Builtin.max_ Builtin.max2 min_if max_if resA tupA kill trim_self trim_len trim_emp trim_nil lenA
attribute [local simp] runD_nil' runD_cons' stepD actK_eq actD clash disj masks holes maskH unmaskH diffs news eqB allB eqA ldRowN wrote toCs ofCs stA rowsV_vl rowsV_nils rowsOf dI1 dI2 dI3 dI5 elt
attribute [local simp] st_any st_und st_agg st_tup st_bool st_int st_nilp st_ref st_pv st_nils st_sl st_vl st_nilm st_mp st_fn st_nilf st_yld co_any co_und co_agg co_tup co_bool co_int co_nilp co_ref co_pv co_nils co_sl co_vl co_nilm co_mp co_fn co_nilf co_yld
attribute [local simp] callA calleeA lim lop loud putH rbB_none rbB_row setH
theorem set_self' {α : Type} {l : List α} {i : Nat} {a : α} (h : l[i]? = some a) : l.set i a = l := by
  obtain ⟨hi, rfl⟩ := List.getElem?_eq_some_iff.1 h
  exact List.set_getElem_self hi
theorem a38 (P : Program) (T : Nat → Option CFn) (hT : T 38 = some c38) (h61 : T 61 = some { c61 with frsh := false, orc := oOO }) (h64 : T 64 = some { c64 with body := annK [(7188, [.slot 4])] [] c64.body, frsh := true, orc := oLate }) (h85 : T 85 = some { c85 with frsh := true, orc := oWithin }) (h86 : T 86 = some { c86 with frsh := false, orc := fun _ => none, eff := freshE false sCloneJ }) (h87 : T 87 = some c87) (s : FShop) (js : List FJob) (c t j : AVal) (hc : dInts2 c = some s.chg) (ht : dStops t = some s.stops) (hj : dJobs j = some js) (o : AVal) (os : List Int) (ho : dInts o = some os) (hz : SizeOk s js ∧ os.length ≤ 100) (i : Int) : Answers P T 38 [.agg [I s.mach, c, t], j, o, I i] [] fun v h => frz true h 5 v = some (.tup [I (slkV s js os i), I (slkE s js os i)]) := by
 have fc := fun H d => dInts2_frz hc H d
 have ft := fun H d => dStops_frz ht H d
 have fj := fun H d => dJobs_frz hj H d
 have rc := fun n d => dInts2_rb hc n d
 have rt := fun n d => dStops_rb ht n d
 have rj := fun n d => dJobs_rb hj n d
 have lc := dInts2_len hc
 have lt := dStops_len ht
 have lj := dJobs_len hj
 obtain ⟨cc1, cc2⟩ := dInts2_cells hc
 obtain ⟨ct1, ct2⟩ := dStops_cells ht
 obtain ⟨cj1, cj2⟩ := dJobs_cells hj
 have fo := fun H d => dInts_frz ho H d
 have ro := fun n d => dInts_rb ho n d
 have lo := dInts_len ho
 obtain ⟨co1, co2⟩ := dInts_cells ho
 obtain ⟨hz1, hz2⟩ := hz
 have hop := oo_eq hc ht hj ho hz1 hz2
 rw [ordE_eq] at hop
 unfold slkV
 refine answers_of hT (orcF_none rfl) ?_
 simp only [oo, om, op, og, ci, cl, c38]
 by_cases h0 : ordE s js os = 0
 ·have h1 := ordE_ne h0
  have hg := ordE_run h0
  have hn6 := hg.1.njob
  have hwl : W .i64 ((js.length : Int) - 1) = (js.length : Int) - 1 := W_fit (by omega)
  have hwi : oWithin [I 0, I ((js.length : Int) - 1), .vl [[I i]] true] = some (.bool (inI 0 i ((js.length : Int) - 1))) := by rw [← wB_one]; rfl
  have hlt := late_eq hc ht hj ho hg
  by_cases hinr : 0 ≤ i ∧ i < js.length
  ·have hb : inI 0 i ((js.length : Int) - 1) = true := by simp only [inI, Bool.and_eq_true, decide_eq_true_eq]; omega
   have hE : ltQ s js os i.toNat = ltQ s js os i.toNat := rfl
   by_cases hL0 : lateL (runF s js os).ends js js.length = []
   ·have hbe : slkE s js os i = 0 := by unfold slkE; rw [if_pos h0, if_pos hinr, if_pos hL0]
    rw [hbe, if_pos rfl]
    obtain ⟨k, hik⟩ : ∃ k : Nat, i = k := ⟨i.toNat, by omega⟩
    have hk : k < js.length := by omega
    have hkt : i.toNat = k := by omega
    rw [hkt]
    obtain ⟨rs, tt, w_, rfl, hrl, hrk, hw⟩ := dJobs_get hj hk
    have hrs : optAll dJob rs = some js := hj
    have hr100 := ready_le h1 _ (List.getElem_mem hk)
    have hcl := sCloneJ_eq (tt := tt) hrs (by omega)
    have hok : (rs.all fun x => x.all (okA false)) = true := rJ_rb hrs 0 4
    have hset : rs.set k [I js[k].kind, I js[k].ready, I js[k].due, w_] = rs := set_self' hrk
    rw [hL0] at hlt
    generalize hLq : ltQ s js os k = L
    generalize hR0 : bsF L 10001 0 10000 = R0
    have hcall := fun (P : Program) (T : Nat → Option CFn) h1 h2 (q d : Int) (hd : 0 ≤ d ∧ d ≤ 10000) => a87 P T h1 h2 s js c t hc ht o os ho rs tt hrs hg k hk hr100 w_ hrk hw i hik q d hd
    rw [hLq] at hcall
    have HH1 := zA h61 (zA h64 (zA h85 (zA h86 (zA fc (zA ft (zA fj (zA rc (zA rt (zA rj (zA lc (zA lt (zA lj (zA cc1 (zA cc2 (zA ct1 (zA ct2 (zA cj1 (zA cj2 (zA fo (zA ro (zA lo (zA co1 (zA co2 (zA hop (zA h0 (zA h1 (zA hwl (zA hwi (zA hb (zA hlt hcl))))))))))))))))))))))))))))))
    refine zS ?_
    refine zR (zO (by simp [zC h61, zC h64, zC h85, callF_eff h86 rfl, ↓orc_nil, freshE, backB, backB1, okA, okBlk, plainA, -lenA, ↓hok, encV, HH1]; rfl) ?_)
    simp only [zT, zB]
    refine zS ?_
    refine zR (zO (by simp [zC h61, zC h64, zC h85, callF_eff h86 rfl, ↓orc_nil, freshE, backB, backB1, okA, okBlk, plainA, -lenA, ↓hok, encV, HH1]; rfl) ?_)
    simp only [zT, zB]
    refine zS ?_
    refine zL ?_
    refine zS ?_
    refine zR (zO (by simp [zC h61, zC h64, zC h85, callF_eff h86 rfl, ↓orc_nil, freshE, backB, backB1, okA, okBlk, plainA, -lenA, ↓hok, encV, HH1]; rfl) ?_)
    simp only [zT, zB]
    refine runs_cond (x := false) (by simp) ?_
    refine zS ?_
    refine zR (zO (by simp [zC h61, zC h64, zC h85, callF_eff h86 rfl, ↓orc_nil, freshE, backB, backB1, okA, okBlk, plainA, -lenA, ↓hok, encV, HH1]; rfl) ?_)
    simp only [zT, zB]
    refine runs_cond (x := false) (by simp) ?_
    refine zS ?_
    refine zR (zO (by simp [zC h61, zC h64, zC h85, callF_eff h86 rfl, ↓orc_nil, freshE, backB, backB1, okA, okBlk, plainA, -lenA, ↓hok, encV, HH1]; rfl) ?_)
    simp only [zT, zB]
    refine runs_cond (x := false) (by simp) ?_
    refine zK ?_
    simp only [zT, zB]
    refine zS ?_
    refine zR (zO (by simp [zC h61, zC h64, zC h85, callF_eff h86 rfl, ↓orc_nil, freshE, backB, backB1, okA, okBlk, plainA, -lenA, ↓hok, encV, HH1]; rfl) ?_)
    simp only [zT, zB]
    refine zS ?_
    refine zR (zO (by simp [zC h61, zC h64, zC h85, callF_eff h86 rfl, ↓orc_nil, freshE, backB, backB1, okA, okBlk, plainA, -lenA, ↓hok, encV, HH1]; rfl) ?_)
    simp only [zT, zB]
    refine zS ?_
    refine zR (zO (by simp [zC h61, zC h64, zC h85, callF_eff h86 rfl, ↓orc_nil, freshE, backB, backB1, okA, okBlk, plainA, -lenA, ↓hok, encV, HH1]; rfl) ?_)
    simp only [zT, zB]
    refine zS ?_
    refine zL ?_
    refine runs_loop_inv (fun m σ => ∃ (lo2 hi2 q : Int) (f : Nat), (hi2 - lo2).toNat = m ∧ 0 ≤ lo2 ∧ lo2 ≤ hi2 ∧ hi2 ≤ 10000 ∧ hi2 - lo2 < f ∧ bsF L f lo2 hi2 = R0 ∧ σ = ⟨[.any, .any, .any, .any, .any, .any, .any, .any, .any, .any, .any, .any, .fn 87 [] [.ref 1 0 0, .ref 3 0 0, .ref 4 0 0, .ref 2 0 0], I lo2, I hi2, .any, .any, .any, .any, .any, .any, .any, .any, .any, .any, .any, .any, .any, .any, .any, .any, .any, .any, .any, .any, .any, .any, .any, .any, .any, .any, .any, .any, .any, .any, .any, .any, .any, .any, .any, .any, .any, .any, .any, .any, .any, .any, .any, .any, .any], [some (.row 3 [[I s.mach, c, t]]), some (.row 1 [[.vl rs tt]]), some (.row 1 [[o]]), some (.row 1 [[I i]]), some (.row 4 [[I s.mach, c, t, .sl 6 0 rs.length false]]), some (.row 1 [[I i]]), some (.row 4 (rs.set k [I js[k].kind, I q, I js[k].due, w_]))]⟩) ?_ 10000 _ ⟨0, 10000, js[k].ready, 10001, rfl, by omega, by omega, by omega, by omega, hR0, by simp [hset]⟩
    rintro m σ ⟨lo2, hi2, q, f, rfl, hl0, hlh, hh4, hf, hR, rfl⟩
    refine zS ?_
    refine zS ?_
    refine zR (zO (by simp [zC h61, zC h64, zC h85, callF_eff h86 rfl, ↓orc_nil, freshE, backB, backB1, okA, okBlk, plainA, -lenA, ↓hok, encV, HH1]; rfl) ?_)
    simp only [zT, zB]
    refine runs_cond_split (x := decide (lo2 < hi2)) (by simp) (fun hlt3 => ?_) (fun hlt3 => ?_)
    ·have hlt := of_decide_eq_true hlt3
     obtain ⟨g, rfl⟩ : ∃ g, f = g + 1 := ⟨f - 1, by omega⟩
     simp only [bsF] at hR
     rw [if_pos hlt] at hR
     have hw1 : W .i64 (lo2 + hi2) = lo2 + hi2 := W_small (by omega)
     have hw2 : W .i64 (lo2 + hi2 + 1) = lo2 + hi2 + 1 := W_small (by omega)
     have hw3 : W .i64 ((lo2 + hi2 + 1).tdiv 2) = (lo2 + hi2 + 1) / 2 := by rw [Int.tdiv_eq_ediv_of_nonneg (by omega)]; exact W_small (by omega)
     generalize hmd : (lo2 + hi2 + 1) / 2 = md at *
     have hm1 : W .i64 (md - 1) = md - 1 := W_fit (by omega)
     refine zK ?_
     simp only [zT, zB]
     refine zL ?_
     refine zS ?_
     refine zR (zO (by simp [zC h61, zC h64, zC h85, callF_eff h86 rfl, ↓orc_nil, freshE, backB, backB1, okA, okBlk, plainA, -lenA, ↓hok, encV, HH1, hw1, hw2, hw3, hm1]; rfl) ?_)
     simp only [zT, zB]
     refine zS ?_
     refine zR (ops_take 2 (by simp; rfl) ?_)
     simp only [List.drop_succ_cons, List.drop_zero]
     refine ops_call (f := 87) (args := [I md, .ref 1 0 0, .ref 3 0 0, .ref 4 0 0, .ref 2 0 0]) (by simp) (by simp) (by simp) (by simp) ?_
     refine (hcall P T h87 h64 q md (by omega)).mono ?_
     rintro v h ⟨rfl, hh⟩
     rw [hh]
     clear hh h
     refine zO (by simp; rfl) ?_
     simp only [zT, zB]
     rcases hLm : L md with _ | _
     ·rw [if_neg (by rw [hLm]; simp)] at hR
      have HH2 := zA hw1 (zA hw2 (zA hw3 (zA hm1 hLm)))
      refine runs_cond (x := false) (by simp) ?_
      refine zR (zO (by simp [zC h61, zC h64, zC h85, callF_eff h86 rfl, ↓orc_nil, freshE, backB, backB1, okA, okBlk, plainA, -lenA, ↓hok, encV, HH1, HH2]; rfl) ?_)
      simp only [zT, zB]
      exact ⟨(hi2 - md).toNat, by omega, md, hi2, js[k].ready + md, g, rfl, by omega, by omega, by omega, by omega, hR, by simp [trim, zC h61, zC h64, zC h85, callF_eff h86 rfl, ↓orc_nil, freshE, backB, backB1, okA, okBlk, plainA, -lenA, ↓hok, encV, HH1, HH2]⟩
     ·rw [if_pos hLm] at hR
      have HH3 := zA hw1 (zA hw2 (zA hw3 (zA hm1 hLm)))
      refine runs_cond (x := true) (by simp) ?_
      refine zR (zO (by simp [zC h61, zC h64, zC h85, callF_eff h86 rfl, ↓orc_nil, freshE, backB, backB1, okA, okBlk, plainA, -lenA, ↓hok, encV, HH1, HH3]; rfl) ?_)
      simp only [zT, zB]
      exact ⟨(md - 1 - lo2).toNat, by omega, lo2, md - 1, js[k].ready + md, g, rfl, by omega, by omega, by omega, by omega, hR, by simp [trim, zC h61, zC h64, zC h85, callF_eff h86 rfl, ↓orc_nil, freshE, backB, backB1, okA, okBlk, plainA, -lenA, ↓hok, encV, HH1, HH3]⟩
    ·have hlt := of_decide_eq_false hlt3
     have hR2 : R0 = lo2 := by
      rw [← hR]
      cases f with
      | zero => rfl
      | succ f => simp only [bsF]; rw [if_neg hlt]
     rw [hR2]
     refine runs_exit ?_
     simp only [zT, zB, if_true, if_false, reduceIte, Nat.reduceEqDiff, Nat.succ_ne_zero, Nat.one_ne_zero, Nat.zero_ne_one]
     refine zS ?_
     refine zR (zO (by simp [zC h61, zC h64, zC h85, callF_eff h86 rfl, ↓orc_nil, freshE, backB, backB1, okA, okBlk, plainA, -lenA, ↓hok, encV, HH1]; rfl) ?_)
     simp only [zT, zB]
     refine runs_ret ?_
     simp [zC h61, zC h64, zC h85, callF_eff h86 rfl, ↓orc_nil, freshE, backB, backB1, okA, okBlk, plainA, -lenA, ↓hok, encV, HH1, trim]
   ·have hbe : slkE s js os i = 9 := by unfold slkE; rw [if_pos h0, if_pos hinr, if_neg hL0]
    rw [hbe, if_neg (by decide)]
    generalize lateL (runF s js os).ends js js.length = L at *
    have hle := dInts_len (dInts_encV L)
    have hpos : 0 < L.length := List.length_pos_iff.2 hL0
    generalize encV L = lv at *
    have HH4 := zA h61 (zA h64 (zA h85 (zA h86 (zA fc (zA ft (zA fj (zA rc (zA rt (zA rj (zA lc (zA lt (zA lj (zA cc1 (zA cc2 (zA ct1 (zA ct2 (zA cj1 (zA cj2 (zA fo (zA ro (zA lo (zA co1 (zA co2 (zA hop (zA h0 (zA h1 (zA hwl (zA hwi (zA hlt (zA hb (zA hle hpos)))))))))))))))))))))))))))))))
    refine zS ?_
    refine zR (zO (by simp [zC h61, zC h64, zC h85, callF_eff h86 rfl, ↓orc_nil, freshE, backB, backB1, okA, okBlk, plainA, -lenA, HH4]; rfl) ?_)
    simp only [zT, zB]
    refine zS ?_
    refine zR (zO (by simp [zC h61, zC h64, zC h85, callF_eff h86 rfl, ↓orc_nil, freshE, backB, backB1, okA, okBlk, plainA, -lenA, HH4]; rfl) ?_)
    simp only [zT, zB]
    refine zS ?_
    refine zL ?_
    refine zS ?_
    refine zR (zO (by simp [zC h61, zC h64, zC h85, callF_eff h86 rfl, ↓orc_nil, freshE, backB, backB1, okA, okBlk, plainA, -lenA, HH4]; rfl) ?_)
    simp only [zT, zB]
    refine runs_cond (x := false) (by simp) ?_
    refine zS ?_
    refine zR (zO (by simp [zC h61, zC h64, zC h85, callF_eff h86 rfl, ↓orc_nil, freshE, backB, backB1, okA, okBlk, plainA, -lenA, HH4]; rfl) ?_)
    simp only [zT, zB]
    refine runs_cond (x := false) (by simp) ?_
    refine zS ?_
    refine zR (zO (by simp [zC h61, zC h64, zC h85, callF_eff h86 rfl, ↓orc_nil, freshE, backB, backB1, okA, okBlk, plainA, -lenA, HH4]; rfl) ?_)
    simp only [zT, zB]
    refine runs_cond (x := true) (by simp [hpos]) ?_
    refine zS ?_
    refine zR (zO (by simp [zC h61, zC h64, zC h85, callF_eff h86 rfl, ↓orc_nil, freshE, backB, backB1, okA, okBlk, plainA, -lenA, HH4]; rfl) ?_)
    simp only [zT, zB]
    refine runs_ret ?_
    simp [zC h61, zC h64, zC h85, callF_eff h86 rfl, ↓orc_nil, freshE, backB, backB1, okA, okBlk, plainA, -lenA, HH4, trim]
  ·have hb : inI 0 i ((js.length : Int) - 1) = false := by simp only [inI, Bool.and_eq_false_iff, decide_eq_false_iff_not]; omega
   have hbe : slkE s js os i = 7 := by unfold slkE; rw [if_pos h0, if_neg hinr]
   rw [hbe, if_neg (by decide)]
   have HH5 := zA h61 (zA h64 (zA h85 (zA h86 (zA fc (zA ft (zA fj (zA rc (zA rt (zA rj (zA lc (zA lt (zA lj (zA cc1 (zA cc2 (zA ct1 (zA ct2 (zA cj1 (zA cj2 (zA fo (zA ro (zA lo (zA co1 (zA co2 (zA hop (zA h0 (zA h1 (zA hwl (zA hwi (zA hlt hb)))))))))))))))))))))))))))))
   refine zS ?_
   refine zR (zO (by simp [zC h61, zC h64, zC h85, callF_eff h86 rfl, ↓orc_nil, freshE, backB, backB1, okA, okBlk, plainA, -lenA, HH5]; rfl) ?_)
   simp only [zT, zB]
   refine zS ?_
   refine zR (zO (by simp [zC h61, zC h64, zC h85, callF_eff h86 rfl, ↓orc_nil, freshE, backB, backB1, okA, okBlk, plainA, -lenA, HH5]; rfl) ?_)
   simp only [zT, zB]
   refine zS ?_
   refine zL ?_
   refine zS ?_
   refine zR (zO (by simp [zC h61, zC h64, zC h85, callF_eff h86 rfl, ↓orc_nil, freshE, backB, backB1, okA, okBlk, plainA, -lenA, HH5]; rfl) ?_)
   simp only [zT, zB]
   refine runs_cond (x := false) (by simp) ?_
   refine zS ?_
   refine zR (zO (by simp [zC h61, zC h64, zC h85, callF_eff h86 rfl, ↓orc_nil, freshE, backB, backB1, okA, okBlk, plainA, -lenA, HH5]; rfl) ?_)
   simp only [zT, zB]
   refine runs_cond (x := true) (by simp) ?_
   refine zS ?_
   refine zR (zO (by simp [zC h61, zC h64, zC h85, callF_eff h86 rfl, ↓orc_nil, freshE, backB, backB1, okA, okBlk, plainA, -lenA, HH5]; rfl) ?_)
   simp only [zT, zB]
   refine runs_ret ?_
   simp [zC h61, zC h64, zC h85, callF_eff h86 rfl, ↓orc_nil, freshE, backB, backB1, okA, okBlk, plainA, -lenA, HH5, trim]
 ·have hbe : slkE s js os i = ordE s js os := by unfold slkE; rw [if_neg h0]
  rw [hbe, if_neg h0]
  by_cases h1 : shopE s js = 0
  ·have HH6 := zA h61 (zA h64 (zA h85 (zA h86 (zA fc (zA ft (zA fj (zA rc (zA rt (zA rj (zA lc (zA lt (zA lj (zA cc1 (zA cc2 (zA ct1 (zA ct2 (zA cj1 (zA cj2 (zA fo (zA ro (zA lo (zA co1 (zA co2 (zA hop (zA h0 h1)))))))))))))))))))))))))
   refine zS ?_
   refine zR (zO (by simp [zC h61, zC h64, zC h85, callF_eff h86 rfl, ↓orc_nil, freshE, backB, backB1, okA, okBlk, plainA, -lenA, zWork, HH6]; rfl) ?_)
   simp only [zT, zB]
   refine zS ?_
   refine zR (zO (by simp [zC h61, zC h64, zC h85, callF_eff h86 rfl, ↓orc_nil, freshE, backB, backB1, okA, okBlk, plainA, -lenA, zWork, HH6]; rfl) ?_)
   simp only [zT, zB]
   refine zS ?_
   refine zL ?_
   refine zS ?_
   refine zR (zO (by simp [zC h61, zC h64, zC h85, callF_eff h86 rfl, ↓orc_nil, freshE, backB, backB1, okA, okBlk, plainA, -lenA, zWork, HH6]; rfl) ?_)
   simp only [zT, zB]
   refine runs_cond (x := true) (by simp [h0]) ?_
   refine zS ?_
   refine zR (zO (by simp [zC h61, zC h64, zC h85, callF_eff h86 rfl, ↓orc_nil, freshE, backB, backB1, okA, okBlk, plainA, -lenA, zWork, HH6]; rfl) ?_)
   simp only [zT, zB]
   refine runs_ret ?_
   simp [zC h61, zC h64, zC h85, callF_eff h86 rfl, ↓orc_nil, freshE, backB, backB1, okA, okBlk, plainA, -lenA, zWork, HH6, trim]
  ·have HH7 := zA h61 (zA h64 (zA h85 (zA h86 (zA fc (zA ft (zA fj (zA rc (zA rt (zA rj (zA lc (zA lt (zA lj (zA cc1 (zA cc2 (zA ct1 (zA ct2 (zA cj1 (zA cj2 (zA fo (zA ro (zA lo (zA co1 (zA co2 (zA hop (zA h0 h1)))))))))))))))))))))))))
   refine zS ?_
   refine zR (zO (by simp [zC h61, zC h64, zC h85, callF_eff h86 rfl, ↓orc_nil, freshE, backB, backB1, okA, okBlk, plainA, -lenA, zWork, HH7]; rfl) ?_)
   simp only [zT, zB]
   refine zS ?_
   refine zR (zO (by simp [zC h61, zC h64, zC h85, callF_eff h86 rfl, ↓orc_nil, freshE, backB, backB1, okA, okBlk, plainA, -lenA, zWork, HH7]; rfl) ?_)
   simp only [zT, zB]
   refine zS ?_
   refine zL ?_
   refine zS ?_
   refine zR (zO (by simp [zC h61, zC h64, zC h85, callF_eff h86 rfl, ↓orc_nil, freshE, backB, backB1, okA, okBlk, plainA, -lenA, zWork, HH7]; rfl) ?_)
   simp only [zT, zB]
   refine runs_cond (x := true) (by simp [h0]) ?_
   refine zS ?_
   refine zR (zO (by simp [zC h61, zC h64, zC h85, callF_eff h86 rfl, ↓orc_nil, freshE, backB, backB1, okA, okBlk, plainA, -lenA, zWork, HH7]; rfl) ?_)
   simp only [zT, zB]
   refine runs_ret ?_
   simp [zC h61, zC h64, zC h85, callF_eff h86 rfl, ↓orc_nil, freshE, backB, backB1, okA, okBlk, plainA, -lenA, zWork, HH7, trim]
theorem slack_good : ∀ args v, oSlack args = some v → OrcGood Tryz.prog GG true 38 args v := fun args v ho => by
  unfold oSlack at ho; split at ho <;> (try simp only [reduceCtorEq] at ho)
  rename_i m c t j o i
  split at ho <;> (try simp only [reduceCtorEq] at ho)
  rename_i cs ts js os hc ht hj ho2
  split at ho <;> (try simp only [reduceCtorEq] at ho)
  rename_i hg
  simp only [Option.some.injEq] at ho
  subst ho
  exact orc_of mixed FK2_ok (a38 Tryz.prog FK2 rfl rfl rfl rfl rfl rfl ⟨m, cs, ts⟩ js c t j hc ht hj o os ho2 ⟨size_ok.1 hg.1, hg.2⟩ i)
noncomputable def FRK : Nat → Option CFn := upd FRK0 38 true oSlack
theorem FRK_ok : TabOk Tryz.prog GG FRK := tab_upd FRK0_ok slack_good
theorem a7 (P : Program) (T : Nat → Option CFn) (hT : T 7 = some c7) (h14 : T 14 = some { c14 with frsh := true, orc := oLarge }) (h15 : T 15 = some { c15 with frsh := true, orc := oKn }) (h16 : T 16 = some { c16 with frsh := false, orc := oCopy }) (h17 : T 17 = some { c17 with frsh := false, orc := oJobs }) (h18 : T 18 = some { c18 with frsh := true, orc := oInts }) (h21 : T 21 = some { c21 with frsh := true, orc := oSame }) (h22 : T 22 = some { c22 with frsh := true, orc := oEqual }) (h23 : T 23 = some { c23 with frsh := true, orc := oIntsEq }) (h24 : T 24 = some { c24 with frsh := true, orc := oCheck }) (h25 : T 25 = some { c25 with frsh := true, orc := oOrdR }) (h26 : T 26 = some { c26 with frsh := true, orc := oLateR }) (h38 : T 38 = some { c38 with frsh := true, orc := oSlack }) (h39 : T 39 = some { c39 with frsh := true, orc := oIn }) (h40 : T 40 = some { c40 with frsh := false, orc := oLaterR }) (s : FShop) (js : List FJob) (c t j : AVal) (hc : dInts2 c = some s.chg) (ht : dStops t = some s.stops) (hj : dJobs j = some js) (o : AVal) (os : List Int) (ho : dInts o = some os) (i : Int) : Answers P T 7 [.agg [I s.mach, c, t], j, .agg [o, I i]] [] fun v h => v = .bool true := by
 have fc := fun H d => dInts2_frz hc H d
 have ft := fun H d => dStops_frz ht H d
 have fj := fun H d => dJobs_frz hj H d
 have rc := fun n d => dInts2_rb hc n d
 have rt := fun n d => dStops_rb ht n d
 have rj := fun n d => dJobs_rb hj n d
 have lc := dInts2_len hc
 have lt := dStops_len ht
 have lj := dJobs_len hj
 obtain ⟨cc1, cc2⟩ := dInts2_cells hc
 obtain ⟨ct1, ct2⟩ := dStops_cells ht
 obtain ⟨cj1, cj2⟩ := dJobs_cells hj
 have fo := fun H d => dInts_frz ho H d
 have ro := fun n d => dInts_rb ho n d
 have lo := dInts_len ho
 obtain ⟨co1, co2⟩ := dInts_cells ho
 have hlg := large_eq hc ht hj 6
 refine answers_of hT (orcF_none rfl) ?_
 simp only [oo, om, op, og, ci, cl, c7]
 generalize hL : largeB s js 6 = bL at hlg
 rcases bL with _ | _
 ·by_cases hol : 20 < (os.length : Int)
  ·have HH1 := zA h14 (zA h15 (zA h16 (zA h17 (zA h18 (zA h21 (zA h22 (zA h23 (zA h24 (zA h25 (zA h26 (zA h38 (zA h39 (zA h40 (zA fc (zA ft (zA fj (zA rc (zA rt (zA rj (zA lc (zA lt (zA lj (zA cc1 (zA cc2 (zA ct1 (zA ct2 (zA cj1 (zA cj2 (zA fo (zA ro (zA lo (zA co1 (zA co2 (zA hlg hol))))))))))))))))))))))))))))))))))
   refine zS ?_
   refine zR (zO (by simp [zC h14, zC h15, zC h16, zC h17, zC h18, zC h21, zC h22, zC h23, zC h24, zC h25, zC h26, zC h38, zC h39, zC h40, -lenA, oKn, HH1]; rfl) ?_)
   simp only [zT, zB]
   refine zS ?_
   refine zS ?_
   refine zR (zO (by simp [zC h14, zC h15, zC h16, zC h17, zC h18, zC h21, zC h22, zC h23, zC h24, zC h25, zC h26, zC h38, zC h39, zC h40, -lenA, oKn, HH1]; rfl) ?_)
   simp only [zT, zB]
   refine runs_cond (x := true) (by simp [hol]) ?_
   refine zS ?_
   refine zR (zO (by simp [zC h14, zC h15, zC h16, zC h17, zC h18, zC h21, zC h22, zC h23, zC h24, zC h25, zC h26, zC h38, zC h39, zC h40, -lenA, oKn, HH1]; rfl) ?_)
   simp only [zT, zB]
   refine runs_ret ?_
   simp [zC h14, zC h15, zC h16, zC h17, zC h18, zC h21, zC h22, zC h23, zC h24, zC h25, zC h26, zC h38, zC h39, zC h40, -lenA, oKn, HH1]
  ·have hol2 : ¬ (20 < (os.length : Int)) := by omega
   have HH2 := zA h14 (zA h15 (zA h16 (zA h17 (zA h18 (zA h21 (zA h22 (zA h23 (zA h24 (zA h25 (zA h26 (zA h38 (zA h39 (zA h40 (zA fc (zA ft (zA fj (zA rc (zA rt (zA rj (zA lc (zA lt (zA lj (zA cc1 (zA cc2 (zA ct1 (zA ct2 (zA cj1 (zA cj2 (zA fo (zA ro (zA lo (zA co1 (zA co2 (zA hlg hol2))))))))))))))))))))))))))))))))))
   refine zS ?_
   refine zR (zO (by simp [zC h14, zC h15, zC h16, zC h17, zC h18, zC h21, zC h22, zC h23, zC h24, zC h25, zC h26, zC h38, zC h39, zC h40, -lenA, oKn, HH2]; rfl) ?_)
   simp only [zT, zB]
   refine zS ?_
   refine zS ?_
   refine zR (zO (by simp [zC h14, zC h15, zC h16, zC h17, zC h18, zC h21, zC h22, zC h23, zC h24, zC h25, zC h26, zC h38, zC h39, zC h40, -lenA, oKn, HH2]; rfl) ?_)
   simp only [zT, zB]
   refine runs_cond (x := false) (by simp [hol2]) ?_
   obtain ⟨hsz, hk1, hk2, _, hst20⟩ := large_no hL
   have hcopy := copy_eq (m := s.mach) hc ht hk1
   have hwork := jobs_eq hj hk2
   have hints := ints_eq ho (by omega)
   have hc2 := dInts2_encC s.chg
   have ht2 := dStops_encT s.stops
   have hj2 := dJobs_encJ js
   have ho2 := dInts_encE os
   generalize encC s.chg = c2 at *
   generalize encT s.stops = t2 at *
   generalize encJ js = j2 at *
   generalize encE os = o2 at *
   have hck0 := check_eq hc ht hj hsz
   have hsame := same_eq (m := s.mach) hc2 ht2 hc ht hk1
   have heq := equal_eq hj2 hj hk2
   have hin := intsEq_eq ho2 ho (by omega)
   have hor := ordR_eq ho (n := js.length) (by omega)
   have hslk := slack_eq hc2 ht2 hj2 ho2 hsz (by omega) i
   have fcc := fun H d => dInts2_frz hc2 H d
   have rcc := fun n d => dInts2_rb hc2 n d
   have lcc := dInts2_len hc2
   obtain ⟨ccc1, ccc2⟩ := dInts2_cells hc2
   have ftt := fun H d => dStops_frz ht2 H d
   have rtt := fun n d => dStops_rb ht2 n d
   have ltt := dStops_len ht2
   obtain ⟨ctt1, ctt2⟩ := dStops_cells ht2
   have fjj := fun H d => dJobs_frz hj2 H d
   have rjj := fun n d => dJobs_rb hj2 n d
   have ljj := dJobs_len hj2
   obtain ⟨cjj1, cjj2⟩ := dJobs_cells hj2
   have foo := fun H d => dInts_frz ho2 H d
   have roo := fun n d => dInts_rb ho2 n d
   have loo := dInts_len ho2
   obtain ⟨coo1, coo2⟩ := dInts_cells ho2
   by_cases h0 : shopE s js = 0
   ·rcases hob : ordB os js.length with _ | _
    ·have hne : ordE s js os = 6 := by unfold ordE; rw [if_pos h0, if_neg (by rw [hob]; simp)]
     have hse : slkE s js os i = 6 := by unfold slkE; rw [hne]; rfl
     have hsv : slkV s js os i = 0 := by unfold slkV; rw [hse]; first | rfl | exact if_neg h0
     rw [hse, hsv] at hslk
     have HH3 := zA hcopy (zA hwork (zA hints (zA hck0 (zA hsame (zA heq (zA hin (zA hor (zA fcc (zA rcc (zA lcc (zA ccc1 (zA ccc2 (zA ftt (zA rtt (zA ltt (zA ctt1 (zA ctt2 (zA fjj (zA rjj (zA ljj (zA cjj1 (zA cjj2 (zA foo (zA roo (zA loo (zA coo1 (zA coo2 (zA hslk (zA h0 hob)))))))))))))))))))))))))))))
     refine zK ?_
     simp only [zT, zB]
     refine zS ?_
     refine runs_drw (by simp (maxSteps := 3000000) [zC h14, zC h15, zC h16, zC h17, zC h18, zC h21, zC h22, zC h23, zC h24, zC h25, zC h26, zC h38, zC h39, zC h40, -lenA, oKn, HH2, HH3]; rfl) ?_
     simp only [zT, zB]
     refine zS ?_
     refine zR (zO (by simp [zC h14, zC h15, zC h16, zC h17, zC h18, zC h21, zC h22, zC h23, zC h24, zC h25, zC h26, zC h38, zC h39, zC h40, -lenA, oKn, HH2, HH3]; rfl) ?_)
     simp only [zT, zB]
     refine zS ?_
     refine zS ?_
     refine zR (zO (by simp [zC h14, zC h15, zC h16, zC h17, zC h18, zC h21, zC h22, zC h23, zC h24, zC h25, zC h26, zC h38, zC h39, zC h40, -lenA, oKn, HH2, HH3]; rfl) ?_)
     simp only [zT, zB]
     refine runs_cond (x := false) (by simp) ?_
     refine zK ?_
     simp only [zT, zB]
     refine zS ?_
     refine zR (zO (by simp [zC h14, zC h15, zC h16, zC h17, zC h18, zC h21, zC h22, zC h23, zC h24, zC h25, zC h26, zC h38, zC h39, zC h40, -lenA, oKn, HH2, HH3]; rfl) ?_)
     simp only [zT, zB]
     refine zS ?_
     refine zL ?_
     refine zS ?_
     refine zR (zO (by simp [zC h14, zC h15, zC h16, zC h17, zC h18, zC h21, zC h22, zC h23, zC h24, zC h25, zC h26, zC h38, zC h39, zC h40, -lenA, oKn, HH2, HH3]; rfl) ?_)
     simp only [zT, zB]
     refine runs_cond (x := false) (by simp) ?_
     refine zS ?_
     refine zR (zO (by simp [zC h14, zC h15, zC h16, zC h17, zC h18, zC h21, zC h22, zC h23, zC h24, zC h25, zC h26, zC h38, zC h39, zC h40, -lenA, oKn, HH2, HH3]; rfl) ?_)
     simp only [zT, zB]
     refine runs_cond (x := true) (by simp) ?_
     refine zR (zO (by simp [zC h14, zC h15, zC h16, zC h17, zC h18, zC h21, zC h22, zC h23, zC h24, zC h25, zC h26, zC h38, zC h39, zC h40, -lenA, oKn, HH2, HH3]; rfl) ?_)
     simp only [zT, zB]
     refine zS ?_
     refine zS ?_
     refine zR (zO (by simp [zC h14, zC h15, zC h16, zC h17, zC h18, zC h21, zC h22, zC h23, zC h24, zC h25, zC h26, zC h38, zC h39, zC h40, -lenA, oKn, HH2, HH3]; rfl) ?_)
     simp only [zT, zB]
     refine runs_cond (x := true) (by simp) ?_
     refine zS ?_
     refine zR (zO (by simp [zC h14, zC h15, zC h16, zC h17, zC h18, zC h21, zC h22, zC h23, zC h24, zC h25, zC h26, zC h38, zC h39, zC h40, -lenA, oKn, HH2, HH3]; rfl) ?_)
     simp only [zT, zB]
     refine runs_ret ?_
     simp [zC h14, zC h15, zC h16, zC h17, zC h18, zC h21, zC h22, zC h23, zC h24, zC h25, zC h26, zC h38, zC h39, zC h40, -lenA, oKn, HH2, HH3]
    ·have hctx := ctx_of h0 hob
     have hordE := ordE_of h0 hob
     have hsh := hctx.ok
     have hn6 := hsh.njob
     have hwl : W .i64 ((js.length : Int) - 1) = (js.length : Int) - 1 := W_fit (by omega)
     have hinq : oIn [I i, I 0, I ((js.length : Int) - 1)] = some (.bool (inI 0 i ((js.length : Int) - 1))) := rfl
     by_cases hinr : 0 ≤ i ∧ i < js.length
     ·have hb : inI 0 i ((js.length : Int) - 1) = true := by simp only [inI, Bool.and_eq_true, decide_eq_true_eq]; omega
      have hlr := lateR_eq hc ht hj ho hctx
      by_cases hL0 : lateL (runF s js os).ends js js.length = []
      ·have hse : slkE s js os i = 0 := by unfold slkE; rw [if_pos hordE, if_pos hinr, if_pos hL0]
       have hz0 : (lateR s js os).1 = 0 := by
        show ((lateL (endF s js os) js js.length).length : Int) = 0
        unfold endF
        rw [hL0]; rfl
       obtain ⟨k, hik⟩ : ∃ k : Nat, i = k := ⟨i.toNat, by omega⟩
       have hk : k < js.length := by omega
       have hkt : i.toNat = k := by omega
       have hsv : slkV s js os i = bsF (ltQ s js os k) 10001 0 10000 := by unfold slkV; rw [if_pos hse, hkt]
       have hr100 := ready_le h0 _ (List.getElem_mem hk)
       have hjk := jobAt_eq hk
       have hL : ltQ s js os k 0 = false := by
        have e : laterF js k 0 = js := by
         unfold laterF
         rw [hjk, Int.add_zero]
         exact List.set_getElem_self hk
        unfold ltQ
        rw [e, hL0]; rfl
       have hsp := bsF_spec (ltQ s js os k) 10001 0 10000 (by decide) (by decide) (by decide) hL (.inl rfl)
       rw [hse, hsv] at hslk
       generalize bsF (ltQ s js os k) 10001 0 10000 = n at *
       obtain ⟨⟨hn0, hn1⟩, hn2, hn3⟩ := hsp
       have hnin : oIn [I n, I 0, I 10000] = some (.bool (inI 0 n 10000)) := rfl
       have hnb : inI 0 n 10000 = true := by simp only [inI, Bool.and_eq_true, decide_eq_true_eq]; omega
       obtain ⟨rs, tt, w_, rfl, hrl, hrk, hw⟩ := dJobs_get hj hk
       have hrs : optAll dJob rs = some js := hj
       have hjb := (hsh.job _ (List.getElem_mem hk)).2.1
       have hla := fun (d : Int) (hd : 0 ≤ d ∧ d ≤ 10001) => laterR_eq (tt := tt) hrs hik hk hrk (by omega) (d := d) (by omega) (by omega)
       have hctxL := fun (d : Int) (hd : 0 ≤ d ∧ d ≤ 10000) => (⟨later_shop hsh hk hr100 hd, by rw [laterF_len]; exact hob⟩ : RunCtx s (laterF js k d) os)
       have hlrL := fun (d : Int) (hd : 0 ≤ d ∧ d ≤ 10000) => lateR_eq hc ht (show dJobs (.vl (rs.set k [I js[k].kind, I (js[k].ready + d), I js[k].due, w_]) false) = some (laterF js k d) from later_rows hrs hk hw d) ho (hctxL d hd)
       have hltL : ∀ d : Int, ltQ s js os k d = decide (0 < (lateL (endF s (laterF js k d) os) (laterF js k d) (laterF js k d).length).length) := fun d => rfl
       have hla1 := hla n (by omega)
       have hlr1 := hlrL n (by omega)
       have hz1 : (lateR s (laterF js k n) os).1 = 0 := by
        rw [hltL n, decide_eq_false_iff_not] at hn2
        show ((lateL (endF s (laterF js k n) os) (laterF js k n) (laterF js k n).length).length : Int) = 0
        omega
       generalize lateR s js os = LT at *
       obtain ⟨l1, l2, l3⟩ := LT
       generalize lateR s (laterF js k n) os = LU at *
       obtain ⟨u1, u2, u3⟩ := LU
       simp only at hz0 hz1
       subst hz0 hz1
       have hrl1 := fun H d => rowsV_frz (x := .vl (rs.set k [I js[k].kind, I (js[k].ready + n), I js[k].due, w_]) false) rfl H d
       have HH4 := zA hcopy (zA hwork (zA hints (zA hck0 (zA hsame (zA heq (zA hin (zA hor (zA fcc (zA rcc (zA lcc (zA ccc1 (zA ccc2 (zA ftt (zA rtt (zA ltt (zA ctt1 (zA ctt2 (zA fjj (zA rjj (zA ljj (zA cjj1 (zA cjj2 (zA foo (zA roo (zA loo (zA coo1 (zA coo2 (zA hslk (zA h0 (zA hob (zA hwl (zA hinq (zA hb (zA hlr (zA hnin (zA hnb (zA hla1 (zA hlr1 hrl1))))))))))))))))))))))))))))))))))))))
       refine zK ?_
       simp only [zT, zB]
       refine zS ?_
       refine runs_drw (by simp (maxSteps := 3000000) [zC h14, zC h15, zC h16, zC h17, zC h18, zC h21, zC h22, zC h23, zC h24, zC h25, zC h26, zC h38, zC h39, zC h40, -lenA, oKn, HH2, HH4]; rfl) ?_
       simp only [zT, zB]
       refine zS ?_
       refine zR (zO (by simp [zC h14, zC h15, zC h16, zC h17, zC h18, zC h21, zC h22, zC h23, zC h24, zC h25, zC h26, zC h38, zC h39, zC h40, -lenA, oKn, HH2, HH4]; rfl) ?_)
       simp only [zT, zB]
       refine zS ?_
       refine zS ?_
       refine zR (zO (by simp [zC h14, zC h15, zC h16, zC h17, zC h18, zC h21, zC h22, zC h23, zC h24, zC h25, zC h26, zC h38, zC h39, zC h40, -lenA, oKn, HH2, HH4]; rfl) ?_)
       simp only [zT, zB]
       refine runs_cond (x := false) (by simp) ?_
       refine zK ?_
       simp only [zT, zB]
       refine zS ?_
       refine zR (zO (by simp [zC h14, zC h15, zC h16, zC h17, zC h18, zC h21, zC h22, zC h23, zC h24, zC h25, zC h26, zC h38, zC h39, zC h40, -lenA, oKn, HH2, HH4]; rfl) ?_)
       simp only [zT, zB]
       refine zS ?_
       refine zL ?_
       refine zS ?_
       refine zR (zO (by simp [zC h14, zC h15, zC h16, zC h17, zC h18, zC h21, zC h22, zC h23, zC h24, zC h25, zC h26, zC h38, zC h39, zC h40, -lenA, oKn, HH2, HH4]; rfl) ?_)
       simp only [zT, zB]
       refine runs_cond (x := false) (by simp) ?_
       refine zS ?_
       refine zR (zO (by simp [zC h14, zC h15, zC h16, zC h17, zC h18, zC h21, zC h22, zC h23, zC h24, zC h25, zC h26, zC h38, zC h39, zC h40, -lenA, oKn, HH2, HH4]; rfl) ?_)
       simp only [zT, zB]
       refine runs_cond (x := false) (by simp) ?_
       refine zS ?_
       refine zR (zO (by simp [zC h14, zC h15, zC h16, zC h17, zC h18, zC h21, zC h22, zC h23, zC h24, zC h25, zC h26, zC h38, zC h39, zC h40, -lenA, oKn, HH2, HH4]; rfl) ?_)
       simp only [zT, zB]
       refine runs_cond (x := false) (by simp) ?_
       refine zS ?_
       refine zR (zO (by simp [zC h14, zC h15, zC h16, zC h17, zC h18, zC h21, zC h22, zC h23, zC h24, zC h25, zC h26, zC h38, zC h39, zC h40, -lenA, oKn, HH2, HH4]; rfl) ?_)
       simp only [zT, zB]
       refine zS ?_
       refine zR (zO (by simp [zC h14, zC h15, zC h16, zC h17, zC h18, zC h21, zC h22, zC h23, zC h24, zC h25, zC h26, zC h38, zC h39, zC h40, -lenA, oKn, HH2, HH4]; rfl) ?_)
       simp only [zT, zB]
       refine runs_cond (x := false) (by simp) ?_
       refine zK ?_
       simp only [zT, zB]
       refine zS ?_
       refine zS ?_
       refine zR (zO (by simp [zC h14, zC h15, zC h16, zC h17, zC h18, zC h21, zC h22, zC h23, zC h24, zC h25, zC h26, zC h38, zC h39, zC h40, -lenA, oKn, HH2, HH4]; rfl) ?_)
       simp only [zT, zB]
       refine runs_cond (x := false) (by simp) ?_
       refine zK ?_
       simp only [zT, zB]
       refine zS ?_
       refine zS ?_
       refine zR (zO (by simp [zC h14, zC h15, zC h16, zC h17, zC h18, zC h21, zC h22, zC h23, zC h24, zC h25, zC h26, zC h38, zC h39, zC h40, -lenA, oKn, HH2, HH4]; rfl) ?_)
       simp only [zT, zB]
       refine runs_cond (x := false) (by simp) ?_
       refine zK ?_
       simp only [zT, zB]
       refine zS ?_
       refine zS ?_
       refine runs_drw (by simp (maxSteps := 3000000) [zC h14, zC h15, zC h16, zC h17, zC h18, zC h21, zC h22, zC h23, zC h24, zC h25, zC h26, zC h38, zC h39, zC h40, -lenA, oKn, HH2, HH4]; rfl) ?_
       simp only [zT, zB]
       refine zS ?_
       refine zR (zO (by simp [zC h14, zC h15, zC h16, zC h17, zC h18, zC h21, zC h22, zC h23, zC h24, zC h25, zC h26, zC h38, zC h39, zC h40, -lenA, oKn, HH2, HH4]; rfl) ?_)
       simp only [zT, zB]
       refine runs_cond (x := false) (by simp) ?_
       refine zK ?_
       simp only [zT, zB]
       refine zS ?_
       refine zS ?_
       refine zR (zO (by simp [zC h14, zC h15, zC h16, zC h17, zC h18, zC h21, zC h22, zC h23, zC h24, zC h25, zC h26, zC h38, zC h39, zC h40, -lenA, oKn, HH2, HH4]; rfl) ?_)
       simp only [zT, zB]
       by_cases hnE : n = 10000
       ·have hn4 : ¬ n < 10000 := by omega
        refine runs_cond (x := false) (by simp [hn4]) ?_
        refine zK ?_
        simp only [zT, zB]
        refine zS ?_
        refine zR (zO (by simp [zC h14, zC h15, zC h16, zC h17, zC h18, zC h21, zC h22, zC h23, zC h24, zC h25, zC h26, zC h38, zC h39, zC h40, -lenA, oKn, HH2, HH4]; rfl) ?_)
        simp only [zT, zB]
        refine runs_ret ?_
        simp [zC h14, zC h15, zC h16, zC h17, zC h18, zC h21, zC h22, zC h23, zC h24, zC h25, zC h26, zC h38, zC h39, zC h40, -lenA, oKn, HH2, HH4]
       ·have hn4 : n < 10000 := by omega
        have hn5 := hn3.resolve_left hnE
        have hwn : W .i64 (n + 1) = n + 1 := W_small (by omega)
        have hla2 := hla (n + 1) (by omega)
        have hlr2 := hlrL (n + 1) (by omega)
        have hz2 : 0 < (lateR s (laterF js k (n + 1)) os).1 := by
         rw [hltL (n + 1), decide_eq_true_eq] at hn5
         show 0 < ((lateL (endF s (laterF js k (n + 1)) os) (laterF js k (n + 1)) (laterF js k (n + 1)).length).length : Int)
         omega
        generalize lateR s (laterF js k (n + 1)) os = LV at *
        obtain ⟨v1, v2, v3⟩ := LV
        simp only at hz2
        have hv0 : (v1 == 0) = false := by simp; omega
        have hrl2 := fun H d => rowsV_frz (x := .vl (rs.set k [I js[k].kind, I (js[k].ready + (n + 1)), I js[k].due, w_]) false) rfl H d
        refine runs_cond (x := true) (by simp [hn4]) ?_
        have HH5 := zA hwn (zA hla2 (zA hlr2 (zA hv0 hrl2)))
        refine zS ?_
        refine runs_drw (by simp (maxSteps := 3000000) [zC h14, zC h15, zC h16, zC h17, zC h18, zC h21, zC h22, zC h23, zC h24, zC h25, zC h26, zC h38, zC h39, zC h40, -lenA, oKn, HH2, HH4, HH5]; rfl) ?_
        simp only [zT, zB]
        refine zS ?_
        refine zR (zO (by simp [zC h14, zC h15, zC h16, zC h17, zC h18, zC h21, zC h22, zC h23, zC h24, zC h25, zC h26, zC h38, zC h39, zC h40, -lenA, oKn, HH2, HH4, HH5]; rfl) ?_)
        simp only [zT, zB]
        refine runs_cond (x := false) (by simp [hv0]) ?_
        refine zK ?_
        simp only [zT, zB]
        refine zS ?_
        refine zR (zO (by simp [zC h14, zC h15, zC h16, zC h17, zC h18, zC h21, zC h22, zC h23, zC h24, zC h25, zC h26, zC h38, zC h39, zC h40, -lenA, oKn, HH2, HH4, HH5]; rfl) ?_)
        simp only [zT, zB]
        refine runs_ret ?_
        simp [zC h14, zC h15, zC h16, zC h17, zC h18, zC h21, zC h22, zC h23, zC h24, zC h25, zC h26, zC h38, zC h39, zC h40, -lenA, oKn, HH2, HH4, HH5]
      ·have hse : slkE s js os i = 9 := by unfold slkE; rw [if_pos hordE, if_pos hinr, if_neg hL0]
       have hsv : slkV s js os i = 0 := by unfold slkV; rw [hse]; first | rfl | exact if_neg h0
       rw [hse, hsv] at hslk
       have hpos : 0 < (lateR s js os).1 := by
        have := List.length_pos_iff.2 hL0
        show 0 < ((lateL (endF s js os) js js.length).length : Int)
        unfold endF
        omega
       generalize lateR s js os = LT at *
       obtain ⟨l1, l2, l3⟩ := LT
       simp only at hpos
       have HH6 := zA hcopy (zA hwork (zA hints (zA hck0 (zA hsame (zA heq (zA hin (zA hor (zA fcc (zA rcc (zA lcc (zA ccc1 (zA ccc2 (zA ftt (zA rtt (zA ltt (zA ctt1 (zA ctt2 (zA fjj (zA rjj (zA ljj (zA cjj1 (zA cjj2 (zA foo (zA roo (zA loo (zA coo1 (zA coo2 (zA hslk (zA h0 (zA hob (zA hwl (zA hinq (zA hb (zA hlr hpos))))))))))))))))))))))))))))))))))
       refine zK ?_
       simp only [zT, zB]
       refine zS ?_
       refine runs_drw (by simp (maxSteps := 3000000) [zC h14, zC h15, zC h16, zC h17, zC h18, zC h21, zC h22, zC h23, zC h24, zC h25, zC h26, zC h38, zC h39, zC h40, -lenA, oKn, HH2, HH6]; rfl) ?_
       simp only [zT, zB]
       refine zS ?_
       refine zR (zO (by simp [zC h14, zC h15, zC h16, zC h17, zC h18, zC h21, zC h22, zC h23, zC h24, zC h25, zC h26, zC h38, zC h39, zC h40, -lenA, oKn, HH2, HH6]; rfl) ?_)
       simp only [zT, zB]
       refine zS ?_
       refine zS ?_
       refine zR (zO (by simp [zC h14, zC h15, zC h16, zC h17, zC h18, zC h21, zC h22, zC h23, zC h24, zC h25, zC h26, zC h38, zC h39, zC h40, -lenA, oKn, HH2, HH6]; rfl) ?_)
       simp only [zT, zB]
       refine runs_cond (x := false) (by simp) ?_
       refine zK ?_
       simp only [zT, zB]
       refine zS ?_
       refine zR (zO (by simp [zC h14, zC h15, zC h16, zC h17, zC h18, zC h21, zC h22, zC h23, zC h24, zC h25, zC h26, zC h38, zC h39, zC h40, -lenA, oKn, HH2, HH6]; rfl) ?_)
       simp only [zT, zB]
       refine zS ?_
       refine zL ?_
       refine zS ?_
       refine zR (zO (by simp [zC h14, zC h15, zC h16, zC h17, zC h18, zC h21, zC h22, zC h23, zC h24, zC h25, zC h26, zC h38, zC h39, zC h40, -lenA, oKn, HH2, HH6]; rfl) ?_)
       simp only [zT, zB]
       refine runs_cond (x := false) (by simp) ?_
       refine zS ?_
       refine zR (zO (by simp [zC h14, zC h15, zC h16, zC h17, zC h18, zC h21, zC h22, zC h23, zC h24, zC h25, zC h26, zC h38, zC h39, zC h40, -lenA, oKn, HH2, HH6]; rfl) ?_)
       simp only [zT, zB]
       refine runs_cond (x := false) (by simp) ?_
       refine zS ?_
       refine zR (zO (by simp [zC h14, zC h15, zC h16, zC h17, zC h18, zC h21, zC h22, zC h23, zC h24, zC h25, zC h26, zC h38, zC h39, zC h40, -lenA, oKn, HH2, HH6]; rfl) ?_)
       simp only [zT, zB]
       refine runs_cond (x := false) (by simp) ?_
       refine zS ?_
       refine zR (zO (by simp [zC h14, zC h15, zC h16, zC h17, zC h18, zC h21, zC h22, zC h23, zC h24, zC h25, zC h26, zC h38, zC h39, zC h40, -lenA, oKn, HH2, HH6]; rfl) ?_)
       simp only [zT, zB]
       refine zS ?_
       refine zR (zO (by simp [zC h14, zC h15, zC h16, zC h17, zC h18, zC h21, zC h22, zC h23, zC h24, zC h25, zC h26, zC h38, zC h39, zC h40, -lenA, oKn, HH2, HH6]; rfl) ?_)
       simp only [zT, zB]
       refine runs_cond (x := true) (by simp [hpos]) ?_
       refine zR (zO (by simp [zC h14, zC h15, zC h16, zC h17, zC h18, zC h21, zC h22, zC h23, zC h24, zC h25, zC h26, zC h38, zC h39, zC h40, -lenA, oKn, HH2, HH6]; rfl) ?_)
       simp only [zT, zB]
       refine zS ?_
       refine zS ?_
       refine zR (zO (by simp [zC h14, zC h15, zC h16, zC h17, zC h18, zC h21, zC h22, zC h23, zC h24, zC h25, zC h26, zC h38, zC h39, zC h40, -lenA, oKn, HH2, HH6]; rfl) ?_)
       simp only [zT, zB]
       refine runs_cond (x := true) (by simp) ?_
       refine zS ?_
       refine zR (zO (by simp [zC h14, zC h15, zC h16, zC h17, zC h18, zC h21, zC h22, zC h23, zC h24, zC h25, zC h26, zC h38, zC h39, zC h40, -lenA, oKn, HH2, HH6]; rfl) ?_)
       simp only [zT, zB]
       refine runs_ret ?_
       simp [zC h14, zC h15, zC h16, zC h17, zC h18, zC h21, zC h22, zC h23, zC h24, zC h25, zC h26, zC h38, zC h39, zC h40, -lenA, oKn, HH2, HH6]
     ·have hb : inI 0 i ((js.length : Int) - 1) = false := by simp only [inI, Bool.and_eq_false_iff, decide_eq_false_iff_not]; omega
      have hse : slkE s js os i = 7 := by unfold slkE; rw [if_pos hordE, if_neg hinr]
      have hsv : slkV s js os i = 0 := by unfold slkV; rw [hse]; first | rfl | exact if_neg h0
      rw [hse, hsv] at hslk
      have HH7 := zA hcopy (zA hwork (zA hints (zA hck0 (zA hsame (zA heq (zA hin (zA hor (zA fcc (zA rcc (zA lcc (zA ccc1 (zA ccc2 (zA ftt (zA rtt (zA ltt (zA ctt1 (zA ctt2 (zA fjj (zA rjj (zA ljj (zA cjj1 (zA cjj2 (zA foo (zA roo (zA loo (zA coo1 (zA coo2 (zA hslk (zA h0 (zA hob (zA hwl (zA hinq hb))))))))))))))))))))))))))))))))
      refine zK ?_
      simp only [zT, zB]
      refine zS ?_
      refine runs_drw (by simp (maxSteps := 3000000) [zC h14, zC h15, zC h16, zC h17, zC h18, zC h21, zC h22, zC h23, zC h24, zC h25, zC h26, zC h38, zC h39, zC h40, -lenA, oKn, HH2, HH7]; rfl) ?_
      simp only [zT, zB]
      refine zS ?_
      refine zR (zO (by simp [zC h14, zC h15, zC h16, zC h17, zC h18, zC h21, zC h22, zC h23, zC h24, zC h25, zC h26, zC h38, zC h39, zC h40, -lenA, oKn, HH2, HH7]; rfl) ?_)
      simp only [zT, zB]
      refine zS ?_
      refine zS ?_
      refine zR (zO (by simp [zC h14, zC h15, zC h16, zC h17, zC h18, zC h21, zC h22, zC h23, zC h24, zC h25, zC h26, zC h38, zC h39, zC h40, -lenA, oKn, HH2, HH7]; rfl) ?_)
      simp only [zT, zB]
      refine runs_cond (x := false) (by simp) ?_
      refine zK ?_
      simp only [zT, zB]
      refine zS ?_
      refine zR (zO (by simp [zC h14, zC h15, zC h16, zC h17, zC h18, zC h21, zC h22, zC h23, zC h24, zC h25, zC h26, zC h38, zC h39, zC h40, -lenA, oKn, HH2, HH7]; rfl) ?_)
      simp only [zT, zB]
      refine zS ?_
      refine zL ?_
      refine zS ?_
      refine zR (zO (by simp [zC h14, zC h15, zC h16, zC h17, zC h18, zC h21, zC h22, zC h23, zC h24, zC h25, zC h26, zC h38, zC h39, zC h40, -lenA, oKn, HH2, HH7]; rfl) ?_)
      simp only [zT, zB]
      refine runs_cond (x := false) (by simp) ?_
      refine zS ?_
      refine zR (zO (by simp [zC h14, zC h15, zC h16, zC h17, zC h18, zC h21, zC h22, zC h23, zC h24, zC h25, zC h26, zC h38, zC h39, zC h40, -lenA, oKn, HH2, HH7]; rfl) ?_)
      simp only [zT, zB]
      refine runs_cond (x := false) (by simp) ?_
      refine zS ?_
      refine zR (zO (by simp [zC h14, zC h15, zC h16, zC h17, zC h18, zC h21, zC h22, zC h23, zC h24, zC h25, zC h26, zC h38, zC h39, zC h40, -lenA, oKn, HH2, HH7]; rfl) ?_)
      simp only [zT, zB]
      refine runs_cond (x := true) (by simp) ?_
      refine zR (zO (by simp [zC h14, zC h15, zC h16, zC h17, zC h18, zC h21, zC h22, zC h23, zC h24, zC h25, zC h26, zC h38, zC h39, zC h40, -lenA, oKn, HH2, HH7]; rfl) ?_)
      simp only [zT, zB]
      refine zS ?_
      refine zS ?_
      refine zR (zO (by simp [zC h14, zC h15, zC h16, zC h17, zC h18, zC h21, zC h22, zC h23, zC h24, zC h25, zC h26, zC h38, zC h39, zC h40, -lenA, oKn, HH2, HH7]; rfl) ?_)
      simp only [zT, zB]
      refine runs_cond (x := true) (by simp) ?_
      refine zS ?_
      refine zR (zO (by simp [zC h14, zC h15, zC h16, zC h17, zC h18, zC h21, zC h22, zC h23, zC h24, zC h25, zC h26, zC h38, zC h39, zC h40, -lenA, oKn, HH2, HH7]; rfl) ?_)
      simp only [zT, zB]
      refine runs_ret ?_
      simp [zC h14, zC h15, zC h16, zC h17, zC h18, zC h21, zC h22, zC h23, zC h24, zC h25, zC h26, zC h38, zC h39, zC h40, -lenA, oKn, HH2, HH7]
   ·have hne : ordE s js os = shopE s js := by unfold ordE; rw [if_neg h0]
    have hse : slkE s js os i = shopE s js := by unfold slkE; rw [if_neg (by rw [hne]; exact h0), hne]
    have hsv : slkV s js os i = 0 := by unfold slkV; rw [hse]; first | rfl | exact if_neg h0
    rw [hse, hsv] at hslk
    have h0b : (shopE s js == 0) = false := by simp [h0]
    have HH8 := zA hcopy (zA hwork (zA hints (zA hck0 (zA hsame (zA heq (zA hin (zA hor (zA fcc (zA rcc (zA lcc (zA ccc1 (zA ccc2 (zA ftt (zA rtt (zA ltt (zA ctt1 (zA ctt2 (zA fjj (zA rjj (zA ljj (zA cjj1 (zA cjj2 (zA foo (zA roo (zA loo (zA coo1 (zA coo2 (zA hslk (zA h0 h0b)))))))))))))))))))))))))))))
    refine zK ?_
    simp only [zT, zB]
    refine zS ?_
    refine runs_drw (by simp (maxSteps := 3000000) [zC h14, zC h15, zC h16, zC h17, zC h18, zC h21, zC h22, zC h23, zC h24, zC h25, zC h26, zC h38, zC h39, zC h40, -lenA, oKn, HH2, HH8]; rfl) ?_
    simp only [zT, zB]
    refine zS ?_
    refine zR (zO (by simp [zC h14, zC h15, zC h16, zC h17, zC h18, zC h21, zC h22, zC h23, zC h24, zC h25, zC h26, zC h38, zC h39, zC h40, -lenA, oKn, HH2, HH8]; rfl) ?_)
    simp only [zT, zB]
    refine zS ?_
    refine zS ?_
    refine zR (zO (by simp [zC h14, zC h15, zC h16, zC h17, zC h18, zC h21, zC h22, zC h23, zC h24, zC h25, zC h26, zC h38, zC h39, zC h40, -lenA, oKn, HH2, HH8]; rfl) ?_)
    simp only [zT, zB]
    refine runs_cond (x := false) (by simp) ?_
    refine zK ?_
    simp only [zT, zB]
    refine zS ?_
    refine zR (zO (by simp [zC h14, zC h15, zC h16, zC h17, zC h18, zC h21, zC h22, zC h23, zC h24, zC h25, zC h26, zC h38, zC h39, zC h40, -lenA, oKn, HH2, HH8]; rfl) ?_)
    simp only [zT, zB]
    refine zS ?_
    refine zL ?_
    refine zS ?_
    refine zR (zO (by simp [zC h14, zC h15, zC h16, zC h17, zC h18, zC h21, zC h22, zC h23, zC h24, zC h25, zC h26, zC h38, zC h39, zC h40, -lenA, oKn, HH2, HH8]; rfl) ?_)
    simp only [zT, zB]
    refine runs_cond (x := true) (by simp [h0]) ?_
    refine zK ?_
    simp only [zT, zB]
    refine zS ?_
    refine zS ?_
    refine zR (zO (by simp [zC h14, zC h15, zC h16, zC h17, zC h18, zC h21, zC h22, zC h23, zC h24, zC h25, zC h26, zC h38, zC h39, zC h40, -lenA, oKn, HH2, HH8]; rfl) ?_)
    simp only [zT, zB]
    refine runs_cond (x := true) (by simp [h0]) ?_
    refine zS ?_
    refine zR (zO (by simp [zC h14, zC h15, zC h16, zC h17, zC h18, zC h21, zC h22, zC h23, zC h24, zC h25, zC h26, zC h38, zC h39, zC h40, -lenA, oKn, HH2, HH8]; rfl) ?_)
    simp only [zT, zB]
    refine runs_ret ?_
    simp [zC h14, zC h15, zC h16, zC h17, zC h18, zC h21, zC h22, zC h23, zC h24, zC h25, zC h26, zC h38, zC h39, zC h40, -lenA, oKn, HH2, HH8]
 ·have HH9 := zA h14 (zA h15 (zA h16 (zA h17 (zA h18 (zA h21 (zA h22 (zA h23 (zA h24 (zA h25 (zA h26 (zA h38 (zA h39 (zA h40 (zA fc (zA ft (zA fj (zA rc (zA rt (zA rj (zA lc (zA lt (zA lj (zA cc1 (zA cc2 (zA ct1 (zA ct2 (zA cj1 (zA cj2 (zA fo (zA ro (zA lo (zA co1 (zA co2 hlg)))))))))))))))))))))))))))))))))
  refine zS ?_
  refine zR (zO (by simp [zC h14, zC h15, zC h16, zC h17, zC h18, zC h21, zC h22, zC h23, zC h24, zC h25, zC h26, zC h38, zC h39, zC h40, -lenA, oKn, HH9]; rfl) ?_)
  simp only [zT, zB]
  refine zS ?_
  refine zS ?_
  refine zR (zO (by simp [zC h14, zC h15, zC h16, zC h17, zC h18, zC h21, zC h22, zC h23, zC h24, zC h25, zC h26, zC h38, zC h39, zC h40, -lenA, oKn, HH9]; rfl) ?_)
  simp only [zT, zB]
  refine runs_cond (x := true) (by simp) ?_
  refine zS ?_
  refine zR (zO (by simp [zC h14, zC h15, zC h16, zC h17, zC h18, zC h21, zC h22, zC h23, zC h24, zC h25, zC h26, zC h38, zC h39, zC h40, -lenA, oKn, HH9]; rfl) ?_)
  simp only [zT, zB]
  refine runs_ret ?_
  simp [zC h14, zC h15, zC h16, zC h17, zC h18, zC h21, zC h22, zC h23, zC h24, zC h25, zC h26, zC h38, zC h39, zC h40, -lenA, oKn, HH9]
theorem law7 (s : FShop) (js : List FJob) (c t j : AVal) (hc : dInts2 c = some s.chg) (ht : dStops t = some s.stops) (hj : dJobs j = some js) (o : AVal) (os : List Int) (ho : dInts o = some os) (i : Int) : Answers Tryz.prog FRK 7 [.agg [I s.mach, c, t], j, .agg [o, I i]] [] fun v h => v = .bool true :=
  a7 Tryz.prog FRK rfl rfl rfl rfl rfl rfl rfl rfl rfl rfl rfl rfl rfl rfl rfl s js c t j hc ht hj o os ho i
end
end Go.Proofs.YtjjapdagllclkaaGreat.Tab
