/- What the row of FlowLater shares. No condition. -/
import Derived.Test.YtjjapdagllclkaaGreatPzEFl
import Derived.Test.YtjjapdagllclkaaGreatPzDFl
set_option linter.unusedSimpArgs false
set_option linter.unusedVariables false
namespace Go.Proofs.YtjjapdagllclkaaGreat.Tab
open Go Go.Abs Go.Proofs
set_option maxRecDepth 100000
set_option maxHeartbeats 4000000
set_option linter.unusedSimpArgs false
set_option linter.unusedVariables false
noncomputable section
attribute [local simp] YC Yt XV XW YZ YY XX YJ Xw Ys Zd orcF XO YX XQ XM YE Yr rb_vl rb_pv XK YW YV YU XP XL XN rb_sl rb_fn slE chunk fillA Ym ZK putAt List.range_succ List.range_zero List.range'_succ List.range'_zero ZU ZS ZF ZW ZB ZM stepX Yh dop CV.ev Yu Zv ZA Xt fI_eq YA Yy Zy Zw Out.v putT List.replicate_succ zT zB arI ZN Abs.rowAt ldRow allV toV toC ofV ofC Builtin.min_ Builtin.min2 Builtin.max_ Builtin.max2 XT XU resA tupA kill ZT Yo Yp Yn Zc
section
attribute [local simp] ZV ZD Xp YN actD clash disj Xq holes Xr ZY Xu news eqB allB eqA Xf wrote toCs ofCs stA Yq ZE Yl dI1 dI2 dI3 dI5 elt
attribute [local simp] XH XD XI XE YS XG YP XF st_pv YO st_sl st_vl YQ st_mp st_fn YR XC co_any co_und co_agg co_tup Xe co_int Xb co_ref co_pv Xa co_sl co_vl Xc co_mp co_fn Xd XZ
attribute [local simp] backA backA1 Yx ZJ callA ZQ flatAt flatBlk frN_int frN_vl frameE ZC lop loud norm okA Yv ZO posOf ptrs putH rbB_row renA setH
def wkOkB (js : List FJob) : Bool := decide (js.length ≤ 1000) && js.all (fun x => decide (x.mins.length ≤ 1000) && !x.mins.isEmpty)
theorem wk_ok {js : List FJob} (h : wkOkB js = true) : js.length ≤ 1000 ∧ (∀ x ∈ js, x.mins.length ≤ 1000) ∧ ∀ x ∈ js, x.mins ≠ [] := by
  simp only [wkOkB, Bool.and_eq_true, decide_eq_true_eq, List.all_eq_true] at h
  exact ⟨h.1, fun x hx => (h.2 x hx).1, fun x hx e => by have := (h.2 x hx).2; rw [e] at this; simp at this⟩
theorem wk_of {js : List FJob} (h1 : js.length ≤ 1000) (h2 : ∀ x ∈ js, x.mins.length ≤ 1000) (h3 : ∀ x ∈ js, x.mins ≠ []) : wkOkB js = true := by
  simp only [wkOkB, Bool.and_eq_true, decide_eq_true_eq, List.all_eq_true]
  exact ⟨h1, fun x hx => ⟨h2 x hx, by have := h3 x hx; cases e : x.mins with | nil => exact absurd e this | cons a l => rfl⟩⟩
def sWorkN (i0 : Nat) : List Za → Option (Za × Zf)
  | [j] => match Xj j with
    | some js => if wkOkB js = true ∧ i0 < js.length then some (.sl 0 0 js.length false, [some (.row 4 (YF js i0 1 js.length)), some (.row 1 ((js.getD i0 default).mins.map rI))]) else none
    | none => none
  | _ => none
theorem sWorkN_eq {i0 : Nat} {j : Za} {js : List FJob} (hj : Xj j = some js) (h : wkOkB js = true ∧ i0 < js.length) : sWorkN i0 [j] = some (.sl 0 0 js.length false, [some (.row 4 (YF js i0 1 js.length)), some (.row 1 ((js.getD i0 default).mins.map rI))]) := by
  simp only [sWorkN, hj]; rw [if_pos h]
def sWorkP : List Za → Zf → Option (Za × Zf)
  | [.sl 0 0 n tt], [some (.row 4 rs)] => match Zd dJob rs with
    | some js => if wkOkB js = true ∧ 0 < n ∧ n = js.length then some (.vl (js.map Yf) false, [some (.row 4 rs)]) else none
    | none => none
  | _, _ => none
theorem sWorkP_eq {rs : List (List Za)} {js : List FJob} (h : Zd dJob rs = some js) (h1 : wkOkB js = true) {n : Nat} (h2 : 0 < n ∧ n = js.length) (tt : Bool) : sWorkP [.sl 0 0 n tt] [some (.row 4 rs)] = some (.vl (js.map Yf) false, [some (.row 4 rs)]) := by
  simp only [sWorkP, h]; rw [if_pos ⟨h1, h2⟩]
theorem jobsI_okS {js : List FJob} {i0 p k : Nat} : ((YF js i0 p k).all fun r => r.all (okS 3)) = true := by
  have hj : ∀ j : FJob, (Yf j).all (okS 3) = true := fun j => by
    simp only [Yf, List.all_cons, List.all_nil, Bool.and_true]
    cases h : j.mins <;> rfl
  rw [List.all_eq_true]
  intro r hr
  unfold YF at hr
  split at hr
  · rcases List.mem_or_eq_of_mem_set hr with hr | rfl
    · obtain ⟨j, _, rfl⟩ := List.mem_map.1 hr; exact hj j
    · rfl
  · obtain ⟨j, _, rfl⟩ := List.mem_map.1 hr; exact hj j
theorem rI_okS (xs : List Int) : ((xs.map rI).all fun r => r.all (okS 3)) = true := by
  rw [List.all_eq_true]; intro r hr; obtain ⟨x, _, rfl⟩ := List.mem_map.1 hr; rfl
theorem rI_sh (n : Nat) (xs : List Int) : (xs.map rI).map (List.map (shV n 3)) = xs.map rI := by
  rw [List.map_map]; rfl
theorem jobsI_sh {js : List FJob} {i0 p k n : Nat} : (YF js i0 p k).map (List.map (shV n 3)) = YF js i0 (n + p) k := by
  have hj : ∀ j : FJob, (Yf j).map (shV n 3) = Yf j := fun j => by
    simp only [Yf, List.map_cons, List.map_nil]
    cases h : j.mins <;> rfl
  have h0 : ((js.take k).map Yf).map (List.map (shV n 3)) = (js.take k).map Yf := by
    rw [List.map_map]; exact List.map_congr_left fun j _ => hj j
  unfold YF
  split
  · rw [List.map_set, h0]; rfl
  · exact h0
theorem workN_eff {i0 : Nat} {j : Za} {js : List FJob} (hj : Xj j = some js) (h : wkOkB js = true ∧ i0 < js.length) (H : Zf) : freshN (sWorkN i0) [j] H = some (.sl H.length 0 js.length false, [(H.length, some (.row 4 (YF js i0 (H.length + 1) js.length))), (H.length + 1, some (.row 1 ((js.getD i0 default).mins.map rI)))]) := by
  unfold freshN
  rw [if_pos (by simpa using dJobs_rb hj 0 4), sWorkN_eq hj h]
  simp only
  rw [if_pos ⟨rfl, by simp only [List.all_cons, okSB, jobsI_okS, rI_okS, List.all_nil, Bool.and_true]⟩]
  simp only [List.length_cons, List.length_nil, List.map_cons, List.map_nil, shB, jobsI_sh, rI_sh]; rfl
theorem sWorkN_sans {T : Nat → Option CFn} {f : Nat} {i0 : Nat} (hf : ∀ (j : Za) (js : List FJob), Xj j = some js → js.length ≤ 1000 → (∀ x ∈ js, x.mins.length ≤ 1000) → (∀ x ∈ js, x.mins ≠ []) → ∀ (hi0 : i0 < js.length), SAns Tryz.prog GG f [j] [] fun v1 h1 => ∃ K : List Nat, K.Nodup ∧ XA K h1 5 v1 = some (.sl 0 0 js.length false) ∧ Zd (XB K h1) K = some [some (.row 4 (YF js i0 1 js.length)), some (.row 1 (js[i0].mins.map rI))]) :
    ∀ args v hs, sWorkN i0 args = some (v, hs) → SAns Tryz.prog GG f args [] fun v1 h1 => ∃ K : List Nat, K.Nodup ∧ XA K h1 5 v1 = some v ∧ Zd (XB K h1) K = some hs := fun args v hs ho => by
  unfold sWorkN at ho; split at ho <;> (try simp only [reduceCtorEq] at ho)
  rename_i j
  split at ho <;> (try simp only [reduceCtorEq] at ho)
  rename_i js hj
  split at ho <;> (try simp only [reduceCtorEq] at ho)
  rename_i hg
  simp only [Option.some.injEq, Prod.mk.injEq] at ho
  obtain ⟨rfl, rfl⟩ := ho
  obtain ⟨g1, g2, g3⟩ := wk_ok hg.1
  rw [getD_at hg.2]
  exact hf j js hj g1 g2 g3 hg.2
def NW1 (i0 : Nat) : Nat → Option CFn := updE T 60 (freshN (sWorkN i0))
theorem NW1_ok (i0 : Nat) : Zr Tryz.prog GG (NW1 i0) := tab_freshN T_ok (sWorkN_sans (T := T) fun j js hj h1 h2 h3 h4 => a60i T T_ok rfl j js hj h1 h2 h3 i0 h4)
theorem a17n (T : Nat → Option CFn) (hT : T 17 = some c17) (i0 : Nat) (g60 : T 60 = some { c60 with eff := freshN (sWorkN i0) }) (j : Za) (js : List FJob) (hj : Xj j = some js) (hw : wkOkB js = true ∧ i0 < js.length) : ZH Tryz.prog T 17 [j] [] fun v1 h1 => ∃ K : List Nat, K.Nodup ∧ XA K h1 5 v1 = some (.sl 0 0 js.length false) ∧ Zd (XB K h1) K = some [some (.row 4 (YF js i0 1 js.length)), some (.row 1 ((js.getD i0 default).mins.map rI))] := by
 have h := fun H => workN_eff hj hw H
 refine Zs hT (Zu rfl) ?_
 simp only [oo, om, op, og, ci, cl, c17]
 refine zS ?_
 refine zR (zO (by simp [Zb g60 rfl, ↓Ze, h]; rfl) ?_)
 simp only [zT, zB]
 refine zS ?_
 refine zR (zO (by simp [Zb g60 rfl, ↓Ze, h]; rfl) ?_)
 simp only [zT, zB]
 refine Zj ?_
 refine ⟨by simp, _, by simp; rfl, [0, 1], by decide, by simp [trim, renV_sl], ?_⟩
 simp [trim, XB, renI, jobsI_mv]
def NW2 (i0 : Nat) : Nat → Option CFn := updE (NW1 i0) 17 (freshN (sWorkN i0))
theorem NW2_ok (i0 : Nat) : Zr Tryz.prog GG (NW2 i0) := tab_freshN (NW1_ok i0) (sWorkN_sans (T := NW1 i0) fun j js hj h1 h2 h3 h4 => by
  have := sans_answers mixed (NW1_ok i0) (a17n (NW1 i0) rfl i0 rfl j js hj ⟨wk_of h1 h2 h3, h4⟩)
  rwa [getD_at h4] at this)
def PW1 : Nat → Option CFn := updE T 60 (frameE sWorkP)
theorem sWorkP_all {args : List Za} {h : Zf} {v : Za} {h' : Zf} (ho : sWorkP args h = some (v, h')) : ∃ (rs : List (List Za)) (js : List FJob) (tt : Bool), Zd dJob rs = some js ∧ wkOkB js = true ∧ 0 < js.length ∧ args = [.sl 0 0 js.length tt] ∧ h = [some (.row 4 rs)] ∧ v = .vl (js.map Yf) false ∧ h' = [some (.row 4 rs)] := by
  unfold sWorkP at ho; split at ho <;> (try simp only [reduceCtorEq] at ho)
  rename_i n tt rs
  split at ho <;> (try simp only [reduceCtorEq] at ho)
  rename_i js hj
  split at ho <;> (try simp only [reduceCtorEq] at ho)
  rename_i hg
  simp only [Option.some.injEq, Prod.mk.injEq] at ho
  obtain ⟨rfl, rfl⟩ := ho
  obtain ⟨g1, g2, rfl⟩ := hg
  exact ⟨rs, js, tt, hj, g1, g2, rfl, rfl, rfl, rfl⟩
theorem PW1_ok : Zr Tryz.prog GG PW1 := tab_frameS T_ok fun args h v h' ho => by
  obtain ⟨rs, js, tt, h1, h2, h3, rfl, rfl, rfl, rfl⟩ := sWorkP_all ho
  obtain ⟨g1, g2, g3⟩ := wk_ok h2
  exact a60p T T_ok rfl rs js h1 g1 h3 g2 g3 tt
theorem a17p (T : Nat → Option CFn) (hT : T 17 = some c17) (g60 : T 60 = some { c60 with eff := frameE sWorkP }) (rs : List (List Za)) (js : List FJob) (hrs : Zd dJob rs = some js) (hw : wkOkB js = true) (h0 : 0 < js.length) (tt : Bool) : ZH Tryz.prog T 17 [.sl 0 0 js.length tt] [some (.row 4 rs)] fun v1 h1 => norm 1 v1 h1 = some (.vl (js.map Yf) false, [some (.row 4 rs)]) := by
 have h := sWorkP_eq hrs hw ⟨h0, rfl⟩ tt
 have hr0 : (rs.all fun r => r.all (rb 0 5)) = true := rJ_rb hrs 0 4
 have hrl : (rs.all fun r => r.all fun v => rb 0 5 v) = true := hr0
 have hfr : ∀ n H d, Zd (Zd (frN n H (d + 1))) rs = some rs := fun n H d => Zz _ fun r hr => by
  obtain ⟨x, v, rfl, hv⟩ := jrows_at hrs r hr
  simp [dInts_frN hv]
 refine Zs hT (Zu rfl) ?_
 simp only [oo, om, op, og, ci, cl, c17]
 refine zS ?_
 refine zR (zO (by simp [Zb g60 rfl, g60, ↓Ze, h, ↓hr0, hfr, ↓hrl]; rfl) ?_)
 simp only [zT, zB]
 refine zS ?_
 refine zR (zO (by simp [Zb g60 rfl, g60, ↓Ze, h, ↓hr0, hfr, ↓hrl]; rfl) ?_)
 simp only [zT, zB]
 refine Zj ?_
 refine ⟨by simp, _, by simp; rfl, ?_⟩
 simp [trim, hfr, frNB]
def PW2 : Nat → Option CFn := updE PW1 17 (frameE sWorkP)
theorem PW2_ok : Zr Tryz.prog GG PW2 := tab_frame mixed PW1_ok fun args h v h' ho => by
  obtain ⟨rs, js, tt, h1, h2, h3, rfl, rfl, rfl, rfl⟩ := sWorkP_all ho
  exact a17p PW1 rfl rfl rs js h1 h2 h3 tt
def sWorkQ : List Za → Option (Za × Zf)
  | [j] => match Xj j with
    | some js => if wkOkB js = true ∧ 0 < js.length then some (.sl 0 0 js.length false, [some (.row 4 (js.map Yf))]) else none
    | none => none
  | _ => none
theorem sWorkQ_all {args : List Za} {v : Za} {hs : Zf} (ho : sWorkQ args = some (v, hs)) : ∃ (j : Za) (js : List FJob), Xj j = some js ∧ wkOkB js = true ∧ 0 < js.length ∧ args = [j] ∧ v = .sl 0 0 js.length false ∧ hs = [some (.row 4 (js.map Yf))] := by
  unfold sWorkQ at ho; split at ho <;> (try simp only [reduceCtorEq] at ho)
  rename_i j
  split at ho <;> (try simp only [reduceCtorEq] at ho)
  rename_i js hj
  split at ho <;> (try simp only [reduceCtorEq] at ho)
  rename_i hg
  simp only [Option.some.injEq, Prod.mk.injEq] at ho
  obtain ⟨rfl, rfl⟩ := ho
  exact ⟨j, js, hj, hg.1, hg.2, rfl, rfl, rfl⟩
theorem rowJ_okS (js : List FJob) : ((js.map Yf).all fun r => r.all (okS 3)) = true := by
  have := jobsI_okS (js := js) (i0 := js.length) (p := 0) (k := js.length)
  rwa [jobsI_lt (Nat.le_refl _), List.take_length] at this
theorem rowJ_sh (n : Nat) (js : List FJob) : (js.map Yf).map (List.map (shV n 3)) = js.map Yf := by
  have := jobsI_sh (js := js) (i0 := js.length) (p := 0) (k := js.length) (n := n)
  rwa [jobsI_lt (Nat.le_refl _), jobsI_lt (Nat.le_refl _), List.take_length] at this
theorem workQ_eff {j : Za} {js : List FJob} (hj : Xj j = some js) (h : wkOkB js = true ∧ 0 < js.length) (H : Zf) : freshN sWorkQ [j] H = some (.sl H.length 0 js.length false, [(H.length, some (.row 4 (js.map Yf)))]) := by
  have e : sWorkQ [j] = some (.sl 0 0 js.length false, [some (.row 4 (js.map Yf))]) := by simp only [sWorkQ, hj]; rw [if_pos h]
  unfold freshN
  rw [if_pos (by simpa using dJobs_rb hj 0 4), e]
  simp only
  rw [if_pos ⟨rfl, by simp only [List.all_cons, okSB, rowJ_okS, List.all_nil, Bool.and_true]⟩]
  simp only [List.length_cons, List.length_nil, List.map_cons, List.map_nil, shB, rowJ_sh]; rfl
theorem jobsI_thaw {js : List FJob} (h0 : 0 < js.length) (hne : js[0].mins ≠ []) {H : Zf} (hH : H[1]? = some (some (.row 1 (js[0].mins.map rI)))) : Zd (Zd (XA [0] H 5)) (YF js 0 1 js.length) = some (js.map Yf) := by
  have hr0 : Zd (Zd (XA [0] H 5)) (js.map Yf) = some (js.map Yf) := Zz _ fun r hr => by
    obtain ⟨j, _, rfl⟩ := List.mem_map.1 hr; exact rowJ_ren [0] H j
  have hH2 : (Yw [0] H)[1]? = some (some (.row 1 (js[0].mins.map rI))) := by
    show (H.set 0 none)[1]? = _
    rw [List.getElem?_set_ne (by decide)]; exact hH
  have tk : (js[0].mins.map rI).take js[0].mins.length = js[0].mins.map rI := List.take_of_length_le (by simp)
  have e : js.map Yf = (js.map Yf).set 0 (Yf js[0]) := by
    have : (js.map Yf)[0]? = some (Yf js[0]) := by rw [List.getElem?_map, List.getElem?_eq_getElem h0]; rfl
    exact (set_self' this).symm
  unfold YF
  rw [if_pos h0, List.take_length, getD_at h0]
  conv => rhs; rw [e]
  refine optAll_setJ ?_ 0 hr0
  have hm : Yf js[0] = [I js[0].kind, I js[0].ready, I js[0].due, .vl (js[0].mins.map rI) false] := by unfold Yf; rw [encE_ne hne]
  rw [hm]
  simp [rowI, renV_int, renV_sl, Go.Abs.rowAt, hH2, tk, Yk]
theorem workQ_good : ∀ args h v us, freshN sWorkQ args h = some (v, us) → YD Tryz.prog GG 17 args h v (setH h us) := fun args h v us he => by
  have hu := he
  unfold freshN at he
  split at he <;> (try simp only [reduceCtorEq] at he)
  split at he <;> (try simp only [reduceCtorEq] at he)
  rename_i v0 hs e2
  obtain ⟨j, js, hj, hw, h0, rfl, rfl, rfl⟩ := sWorkQ_all e2
  rw [workQ_eff hj ⟨hw, h0⟩ h] at hu
  simp only [Option.some.injEq, Prod.mk.injEq] at hu
  obtain ⟨rfl, rfl⟩ := hu
  have hg := tab_eff (f := 17) (c := { c17 with eff := freshN (sWorkN 0) }) (NW2_ok 0) rfl _ _ _ _ (workN_eff (i0 := 0) hj ⟨hw, h0⟩ [])
  have hne := (wk_ok hw).2.2 _ (List.getElem_mem h0)
  have hk := good_keep (K := [0]) (v' := .sl 0 0 js.length false) (h2 := [some (.row 4 (js.map Yf))]) hg (by decide) (Nat.zero_le _) rfl rfl (by
    rw [getD_at h0]
    have ht := jobsI_thaw h0 hne (H := [some (.row 4 (YF js 0 1 js.length)), some (.row 1 (js[0].mins.map rI))]) rfl
    simp [XB, ht])
  have hsft := good_shift (h := h) hk (by simpa using dJobs_rb hj 0 4) rfl (by simp only [List.all_cons, okSB, rowJ_okS, List.all_nil, Bool.and_true])
  have e3 : setH h [(h.length, some (.row 4 (js.map Yf)))] = h ++ [some (.row 4 (js.map Yf))] := by simp
  have e5 : [some (Blk.row 4 (js.map Yf))].map (shB h.length) = [some (Blk.row 4 (js.map Yf))] := by simp only [List.map_cons, List.map_nil, shB, rowJ_sh]
  rw [e3]
  rw [e5] at hsft
  exact hsft
def Yb (i0 N : Nat) (args : List Za) (h : Zf) : Option (Za × List (Nat × Option Blk)) :=
  if h.length = N then freshN (sWorkN i0) args h else match freshN sWorkQ args h with
    | some r => some r
    | none => frameE sWorkP args h
theorem eWork_good (i0 N : Nat) : ∀ args h v us, Yb i0 N args h = some (v, us) → YD Tryz.prog GG 17 args h v (setH h us) := fun args h v us he => by
  unfold Yb at he
  split at he
  · exact tab_eff (f := 17) (c := { c17 with eff := freshN (sWorkN i0) }) (NW2_ok i0) rfl args h v us he
  · split at he
    · rename_i r hr
      cases he
      exact workQ_good args h v us hr
    · exact tab_eff (f := 17) (c := { c17 with eff := frameE sWorkP }) PW2_ok rfl args h v us he
theorem Zi {p n : Nat} {tt : Bool} (H : Zf) : freshN sWorkQ [.sl p 0 n tt] H = none := by
  unfold freshN
  rw [if_neg (by simp)]
end
section
attribute [local simp] ZV ZD Xp YN actD clash disj Xq holes Xr ZY Xu news eqB allB eqA Xf wrote toCs ofCs stA Yq ZE Yl dI1 dI2 dI3 dI5 elt
attribute [local simp] XH XD XI XE YS XG YP XF st_pv YO st_sl st_vl YQ st_mp st_fn YR XC co_any co_und co_agg co_tup Xe co_int Xb co_ref co_pv Xa co_sl co_vl Xc co_mp co_fn Xd XZ
attribute [local simp] callA ZQ lop loud posOf putH setH
theorem a59k (T : Nat → Option CFn) (hTb : Zr Tryz.prog GG T) (hT : T 59 = some c59) (m : Int) (c t : Za) (cs : List (List Int)) (ts : List YH) (hc : ZI c = some cs) (ht : Yg t = some ts) (hok : ownOk cs ts = true) : CAns Tryz.prog GG 59 [.agg [I m, c, t]] [] fun v h => v = .agg [I m, encC cs, .sl 0 0 ts.length false] ∧ h = [some (.row 3 (ts.map rS3))] := by
 refine cans_keep (cans_loose (a59s T hTb hT m c t cs ts hc ht hok)) ?_
 rintro v h1 ⟨v0, rfl, tf, b0, b1, b2, rfl, rfl⟩
 have hc0 : cs ≠ [] := fun e => by have := (own_ok hok).1.1; rw [e] at this; simp at this
 have tk : (cs.map rowC).take cs.length = cs.map rowC := List.take_of_length_le (by simp)
 have fC := fun H d => frz_rowC H d cs
 refine ⟨[3], _, _, by decide, Nat.zero_le _, rfl, ?_, by simp [XB, rS_ren] <;> rfl, rfl, rfl⟩
 rw [encC_ne hc0]
 simp [looseV, looseA, renV_agg, renV_int, renV_sl, Yw, Go.Abs.rowAt, tk, fC]
def sOwnN : List Za → Option (Za × Zf)
  | [.agg [.int .i64 m, c, t]] => match ZI c, Yg t with
    | some cs, some ts => if ownOk cs ts = true then some (.agg [.int .i64 m, encC cs, .sl 0 0 ts.length false], [some (.row 3 (ts.map rS3))]) else none
    | _, _ => none
  | _ => none
def sOwnF : List Za → Option (Za × Zf)
  | [.agg [.int .i64 m, c, t]] => match ZI c, Yg t with
    | some cs, some ts => if ownOk cs ts = true then some (.agg [.int .i64 m, encC cs, .vl (ts.map rS3) false], []) else none
    | _, _ => none
  | _ => none
theorem sOwnN_all {args : List Za} {v : Za} {hs : Zf} (ho : sOwnN args = some (v, hs)) : ∃ (m : Int) (c t : Za) (cs : List (List Int)) (ts : List YH), ZI c = some cs ∧ Yg t = some ts ∧ ownOk cs ts = true ∧ args = [.agg [I m, c, t]] ∧ v = .agg [I m, encC cs, .sl 0 0 ts.length false] ∧ hs = [some (.row 3 (ts.map rS3))] := by
  unfold sOwnN at ho; split at ho <;> (try simp only [reduceCtorEq] at ho)
  rename_i m c t
  split at ho <;> (try simp only [reduceCtorEq] at ho)
  rename_i cs ts hc ht
  split at ho <;> (try simp only [reduceCtorEq] at ho)
  rename_i hg
  simp only [Option.some.injEq, Prod.mk.injEq] at ho
  obtain ⟨rfl, rfl⟩ := ho
  exact ⟨m, c, t, cs, ts, hc, ht, hg, rfl, rfl, rfl⟩
theorem sOwnF_all {args : List Za} {v : Za} {hs : Zf} (ho : sOwnF args = some (v, hs)) : ∃ (m : Int) (c t : Za) (cs : List (List Int)) (ts : List YH), ZI c = some cs ∧ Yg t = some ts ∧ ownOk cs ts = true ∧ args = [.agg [I m, c, t]] ∧ v = .agg [I m, encC cs, .vl (ts.map rS3) false] ∧ hs = [] := by
  unfold sOwnF at ho; split at ho <;> (try simp only [reduceCtorEq] at ho)
  rename_i m c t
  split at ho <;> (try simp only [reduceCtorEq] at ho)
  rename_i cs ts hc ht
  split at ho <;> (try simp only [reduceCtorEq] at ho)
  rename_i hg
  simp only [Option.some.injEq, Prod.mk.injEq] at ho
  obtain ⟨rfl, rfl⟩ := ho
  exact ⟨m, c, t, cs, ts, hc, ht, hg, rfl, rfl, rfl⟩
theorem encC_rb (n d : Nat) (cs : List (List Int)) : rb n (d + 1) (encC cs) = true := Xi (dInts2_encC cs) n d
theorem ownS (m : Int) (cs : List (List Int)) (p n : Nat) (tt : Bool) : okS 3 (.agg [I m, encC cs, .sl p 0 n tt]) = true := by cases cs <;> rfl
theorem ownSh (k : Nat) (m : Int) (cs : List (List Int)) (p n : Nat) (tt : Bool) : shV k 3 (.agg [I m, encC cs, .sl p 0 n tt]) = .agg [I m, encC cs, .sl (k + p) 0 n tt] := by cases cs <;> rfl
theorem ownV (m : Int) (cs : List (List Int)) (rs : List (List Za)) (tt : Bool) : okS 3 (.agg [I m, encC cs, .vl rs tt]) = true := by cases cs <;> rfl
theorem ownVh (k : Nat) (m : Int) (cs : List (List Int)) (rs : List (List Za)) (tt : Bool) : shV k 3 (.agg [I m, encC cs, .vl rs tt]) = .agg [I m, encC cs, .vl rs tt] := by cases cs <;> rfl
theorem rS_okS (ts : List YH) : ((ts.map rS3).all fun r => r.all (okS 3)) = true := by
  rw [List.all_eq_true]; intro r hr; obtain ⟨x, _, rfl⟩ := List.mem_map.1 hr; rfl
theorem rS_sh (n : Nat) (ts : List YH) : (ts.map rS3).map (List.map (shV n 3)) = ts.map rS3 := by rw [List.map_map]; rfl
theorem own_args {m : Int} {c t : Za} {cs : List (List Int)} {ts : List YH} (hc : ZI c = some cs) (ht : Yg t = some ts) : [Za.agg [I m, c, t]].all (rb 0 5) = true := by
  have h1 := Xi hc 0 3
  have h2 := dStops_rb ht 0 3
  simp [h1, h2]
theorem ownN_eff {m : Int} {c t : Za} {cs : List (List Int)} {ts : List YH} (hc : ZI c = some cs) (ht : Yg t = some ts) (h : ownOk cs ts = true) (H : Zf) : freshN sOwnN [.agg [I m, c, t]] H = some (.agg [I m, encC cs, .sl H.length 0 ts.length false], [(H.length, some (.row 3 (ts.map rS3)))]) := by
  have e : sOwnN [.agg [I m, c, t]] = some (.agg [I m, encC cs, .sl 0 0 ts.length false], [some (.row 3 (ts.map rS3))]) := by simp only [sOwnN, hc, ht]; rw [if_pos h]
  unfold freshN
  rw [if_pos (own_args hc ht), e]
  simp only
  rw [if_pos ⟨ownS .., by simp only [List.all_cons, okSB, rS_okS, List.all_nil, Bool.and_true]⟩]
  simp only [List.length_cons, List.length_nil, List.map_cons, List.map_nil, shB, rS_sh, ownSh]; rfl
theorem ownF_eff {m : Int} {c t : Za} {cs : List (List Int)} {ts : List YH} (hc : ZI c = some cs) (ht : Yg t = some ts) (h : ownOk cs ts = true) (H : Zf) : freshN sOwnF [.agg [I m, c, t]] H = some (.agg [I m, encC cs, .vl (ts.map rS3) false], []) := by
  have e : sOwnF [.agg [I m, c, t]] = some (.agg [I m, encC cs, .vl (ts.map rS3) false], []) := by simp only [sOwnF, hc, ht]; rw [if_pos h]
  unfold freshN
  rw [if_pos (own_args hc ht), e]
  simp only
  rw [if_pos ⟨ownV .., rfl⟩]
  simp only [List.length_nil, List.map_nil, ownVh]; rfl
theorem keep_id {v : Za} {m : Int} {cs : List (List Int)} {ts : List YH} {h : Zf} (hv : v = .agg [I m, encC cs, .sl 0 0 ts.length false]) (hh : h = [some (.row 3 (ts.map rS3))]) : XA [0] h 5 v = some v ∧ Zd (XB [0] h) [0] = some h := by
  subst hv hh
  have nc := fun K H => Xg K H 4 (encC cs) (encC_rb 0 3 cs)
  exact ⟨by simp [renV_agg, renV_int, renV_sl, nc], by simp [XB, rS_ren]⟩
def OW1 : Nat → Option CFn := updE T 59 (freshN sOwnN)
theorem OW1_ok : Zr Tryz.prog GG OW1 := tab_freshN T_ok fun args v hs ho => by
  obtain ⟨m, c, t, cs, ts, hc, ht, hok, rfl, rfl, rfl⟩ := sOwnN_all ho
  obtain ⟨v1, h1, hg, rfl, rfl⟩ := sans_cans (a59k T T_ok rfl m c t cs ts hc ht hok)
  exact ⟨_, _, hg, [0], by decide, keep_id rfl rfl⟩
theorem a16n (T : Nat → Option CFn) (hT : T 16 = some c16) (g59 : T 59 = some { c59 with eff := freshN sOwnN }) (m : Int) (c t : Za) (cs : List (List Int)) (ts : List YH) (hc : ZI c = some cs) (ht : Yg t = some ts) (hok : ownOk cs ts = true) : ZH Tryz.prog T 16 [.agg [I m, c, t]] [] fun v1 h1 => ∃ K : List Nat, K.Nodup ∧ XA K h1 5 v1 = some (.agg [I m, encC cs, .sl 0 0 ts.length false]) ∧ Zd (XB K h1) K = some [some (.row 3 (ts.map rS3))] := by
 have h := fun H => ownN_eff (m := m) hc ht hok H
 have rc := fun n d => Xi hc n d
 have rt := fun n d => dStops_rb ht n d
 obtain ⟨cc1, cc2⟩ := ZZ hc
 obtain ⟨ct1, ct2⟩ := YK ht
 have hcs := dInts2_encC cs
 obtain ⟨q1, q2⟩ := ZZ hcs
 have nC := fun K H => Xg K H 4 (encC cs) (encC_rb 0 3 cs)
 have nC3 := fun n d => encC_rb n d cs
 generalize encC cs = e at *
 refine Zs hT (Zu rfl) ?_
 simp only [oo, om, op, og, ci, cl, c16]
 have HH1 := zA h (zA rc (zA rt (zA cc1 (zA cc2 (zA ct1 (zA ct2 (zA q1 q2)))))))
 refine zS ?_
 refine zR (zO (by simp [Zb g59 rfl, ↓Ze, ↓nC, ↓nC3, HH1]; rfl) ?_)
 simp only [zT, zB]
 refine zS ?_
 refine zR (zO (by simp [Zb g59 rfl, ↓Ze, ↓nC, ↓nC3, HH1]; rfl) ?_)
 simp only [zT, zB]
 refine Zj ?_
 refine ⟨by simp, _, by simp <;> rfl, [2], by decide, ?_, ?_⟩
 ·simp [trim, renV_agg, renV_int, renV_sl, nC, nC3]
 ·simp [trim, XB, rS_ren, nC3]
def OW2 : Nat → Option CFn := updE OW1 16 (freshN sOwnN)
theorem OW2_ok : Zr Tryz.prog GG OW2 := tab_freshN OW1_ok fun args v hs ho => by
  obtain ⟨m, c, t, cs, ts, hc, ht, hok, rfl, rfl, rfl⟩ := sOwnN_all ho
  exact sans_answers mixed OW1_ok (a16n OW1 rfl rfl m c t cs ts hc ht hok)
theorem ownF_good : ∀ args h v us, freshN sOwnF args h = some (v, us) → YD Tryz.prog GG 16 args h v (setH h us) := fun args h v us he => by
  have hu := he
  unfold freshN at he
  split at he <;> (try simp only [reduceCtorEq] at he)
  split at he <;> (try simp only [reduceCtorEq] at he)
  rename_i v0 hs e2
  obtain ⟨m, c, t, cs, ts, hc, ht, hok, rfl, rfl, rfl⟩ := sOwnF_all e2
  rw [ownF_eff hc ht hok h] at hu
  simp only [Option.some.injEq, Prod.mk.injEq] at hu
  obtain ⟨rfl, rfl⟩ := hu
  have hg := tab_eff (f := 16) (c := { c16 with eff := freshN sOwnN }) OW2_ok rfl _ _ _ _ (ownN_eff (m := m) hc ht hok [])
  have tk : (ts.map rS3).take ts.length = ts.map rS3 := List.take_of_length_le (by simp)
  have nc := fun K H => Xg K H 4 (encC cs) (encC_rb 0 3 cs)
  have fT : ∀ H d, Zd (Zd (frz false H (d + 1))) (ts.map rS3) = some (ts.map rS3) := fun H d => Zz _ fun r hr => by
    obtain ⟨x, _, rfl⟩ := List.mem_map.1 hr; rfl
  have hk := good_keep (K := []) (v' := .agg [I m, encC cs, .vl (ts.map rS3) false]) (h2 := []) hg (by simp) (Nat.zero_le _) rfl (by simp [renV_agg, renV_int, renV_sl, Yw, nc, Go.Abs.rowAt, tk, fT]) rfl
  have hsft := good_shift (h := h) hk (own_args hc ht) (ownV ..) rfl
  rw [ownVh] at hsft
  simpa [setH] using hsft
def Xk (N : Nat) (args : List Za) (h : Zf) : Option (Za × List (Nat × Option Blk)) := if h.length = N then freshN sOwnN args h else freshN sOwnF args h
theorem eOwn_good (N : Nat) : ∀ args h v us, Xk N args h = some (v, us) → YD Tryz.prog GG 16 args h v (setH h us) := fun args h v us he => by
  unfold Xk at he
  split at he
  · exact tab_eff (f := 16) (c := { c16 with eff := freshN sOwnN }) OW2_ok rfl args h v us he
  · exact ownF_good args h v us he
end
end
end Go.Proofs.YtjjapdagllclkaaGreat.Tab
namespace Go.Abs
open Go
noncomputable section
def dropE (sp : List Za → Option Za) (args : List Za) (h : Zf) : Option (Za × List (Nat × Option Blk)) :=
 match Zd (frz false (onlyJ (ptrs [] args) 0 h) 5) args with
 | some ass => match sp ass with
  | some v => if rb 0 5 v = true ∧ (ptrs [] args).all (fun i => decide (i < h.length)) = true then some (v, (ptrs [] args).map fun i => (i, none)) else none
  | none => none
 | none => none
theorem setH_hide : ∀ (J : List Nat) (h : Zf), (∀ i ∈ J, i < h.length) → setH h (J.map fun i => (i, none)) = Yw J h
 | [], h, _ => rfl
 | i :: J, h, hj => by
  have hi := hj i (by simp)
  have e : putH h i none = h.set i none := by unfold putH; rw [if_pos hi]
  show setH (putH h i none) (J.map fun i => (i, none)) = Yw J (h.set i none)
  rw [e]
  exact setH_hide J _ fun k hk => by rw [List.length_set]; exact hj k (by simp [hk])
section
variable {P : Program} {G : Nat → Option (List Za)} {T : Nat → Option CFn} {E : Env} {h : Zf} {w : World}
theorem drop_good {f : Nat} {args ass : List Za} {v : Za} {J : List Nat} (hc : OrcGood P G false f ass v) (has : Zd (frz false (onlyJ J 0 h) 5) args = some ass) : YD P G f args h v (Yw J h) := by
 intro E w cargs k hr hl
 let B : Nat → Prop := fun b => ∃ i c, i ∈ J ∧ h[i]? = some (some c) ∧ (E.ρ i).b = b
 have hBs : ∀ b, B b → E.O b ∧ b < w.heap.size := by
  rintro b ⟨i, c, _, hi, rfl⟩
  obtain ⟨_, h2, h3, _⟩ := hr.blk i c hi
  exact ⟨h2, h3⟩
 let E0 : Env := ⟨E.ρ, fun _ => False, fun _ => False, fun b => E.I b ∨ B b⟩
 have hI1 : ∀ b, E0.I b → b < w.heap.size := fun b hb => hb.elim (fun hb => (hr.imm b hb).1) fun hb => (hBs b hb).2
 have hr0 : E0.HR P G [] w :=
  ⟨fun i b hi => by simp at hi, fun i j b c hi => by simp at hi, fun i hi => hi.elim, fun b hb => hb.elim, fun b hb => ⟨hI1 b hb, fun h => h⟩, fun g r hg => by
   have := hr.glob g r hg
   generalize hp : Value.pointer (some ⟨g, 0, none⟩) = pv at this ⊢
   cases this with
   | pv _ _ _ b off cv hb hc h => exact .pv _ _ _ b off cv (.inl hb) hc fun j hj => VR.mono (h j hj) _ (fun i hi => hi.elim) fun b hb => ⟨.inl hb, rfl⟩⟩
 have hl0 : E0.LR w ass cargs := by
  obtain ⟨g1, g2⟩ := Zx has
  refine ⟨by rw [← g1]; exact hl.1, fun j h1 h2 => ?_⟩
  exact frz_ok (onlyJ_hr hr J) (fun i b hi => .inr ⟨i, b, by simpa using (onlyJ_get hi).1, (onlyJ_get hi).2, rfl⟩) (fun _ b hb => .inl hb) 5 (hl.2 j (by omega) h2) (g2 j (by omega) h1)
 refine CallsIn.mono (hc E0 w cargs k (fun _ h => h) (fun _ h => h) hr0 hl0) ?_
 rintro e w' ⟨u, I', rfl, hos, htape, hout, hsz, hold, hI', hu⟩
 let E2 : Env := ⟨E.ρ, E.D, fun b => E.O b ∧ ¬ B b, fun b => E.I b ∨ B b ∨ I' b⟩
 have hv2 : ∀ x cv, E.VR w x cv → E2.VR w' x cv := fun x cv hx => VR.mono hx _ (fun i hi => ⟨hi, rfl⟩) fun b hb => ⟨.inl hb, hold b (hr.imm b hb).1⟩
 refine ⟨u, E2, rfl, ⟨hos, htape, hout, hsz, fun i hi => ⟨hi, rfl⟩, fun b hb => .inl hb, fun b hb ho => ⟨hold b hb, fun h => ho h.1, fun h => ?_⟩⟩, ⟨fun i b hi => ?_, fun i j b c hi hj he => ?_, fun i hi => ?_, fun b hb => ?_, fun b hb => ?_, fun g r hg => ?_⟩, ?_, fun j hj => .inl hj, ?_⟩
 ·rcases h with h | h | h
  ·exact h
  ·exact absurd (hBs b h).1 ho
  ·rcases (hI' b h).2 with h2 | ⟨_, h2 | h2⟩
   ·omega
   ·exact h2
   ·exact absurd (hBs b h2).1 ho
 ·obtain ⟨hn, hg⟩ := hideK_get hi
  obtain ⟨b1, b2, b3, b4⟩ := hr.blk i b hg
  refine ⟨b1, ⟨b2, ?_⟩, Nat.lt_of_lt_of_le b3 hsz, br_mono (E' := E2) b4 rfl (hold _ b3) hv2⟩
  rintro ⟨i', c, hm, hg', he⟩
  exact hn (hr.inj _ _ _ _ hg' hg he ▸ hm)
 ·exact hr.inj i j b c (hideK_get hi).2 (hideK_get hj).2 he
 ·rw [hideK_len]; exact hr.lt i hi
 ·exact Nat.lt_of_lt_of_le (hr.own b hb.1) hsz
 ·rcases hb with hb | hb | hb
  ·exact ⟨Nat.lt_of_lt_of_le (hr.imm b hb).1 hsz, fun ho => (hr.imm b hb).2 ho.1⟩
  ·exact ⟨Nat.lt_of_lt_of_le (hBs b hb).2 hsz, fun ho => ho.2 hb⟩
  ·refine ⟨(hI' b hb).1, fun ho => ?_⟩
   rcases (hI' b hb).2 with h2 | ⟨_, h2 | h2⟩
   ·have := hr.own b ho.1; omega
   ·exact (hr.imm b h2).2 ho.1
   ·exact ho.2 h2
 ·exact hv2 _ _ (hr.glob g r hg)
 ·exact VR.mono hu _ (fun i hi => hi.elim) fun b hb => ⟨.inr (.inr hb), rfl⟩
 ·rw [hideK_len]; exact Nat.le_refl _
theorem tab_drop (hT : Zr P G T) {f : Nat} {sp : List Za → Option Za} (ho : ∀ args v, sp args = some v → OrcGood P G false f args v) : Zr P G (updE T f (dropE sp)) :=
 tab_updE hT fun args h v us he => by
  unfold dropE at he
  split at he <;> (try simp only [reduceCtorEq] at he)
  rename_i ass e1
  split at he <;> (try simp only [reduceCtorEq] at he)
  rename_i v1 e2
  split at he <;> (try simp only [reduceCtorEq] at he)
  rename_i hg
  simp only [Option.some.injEq, Prod.mk.injEq] at he
  obtain ⟨rfl, rfl⟩ := he
  rw [setH_hide _ _ fun i hi => by have := List.all_eq_true.1 hg.2 i hi; simpa using this]
  exact drop_good (ho ass v1 e2) e1
end
end
end Go.Abs
namespace Go.Proofs.YtjjapdagllclkaaGreat.Tab
open Go Go.Abs Go.Proofs
set_option maxRecDepth 100000
set_option maxHeartbeats 4000000
set_option linter.unusedSimpArgs false
set_option linter.unusedVariables false
noncomputable section
attribute [local simp] YC Yt XV XW YZ YY XX YJ Xw Ys Zd orcF XO YX XQ XM YE Yr rb_vl rb_pv XK YW YV YU XP XL XN rb_sl rb_fn slE chunk fillA Ym ZK putAt List.range_succ List.range_zero List.range'_succ List.range'_zero ZU ZS ZF ZW ZB ZM stepX Yh dop CV.ev Yu Zv ZA Xt fI_eq YA Yy Zy Zw Out.v putT List.replicate_succ zT zB arI ZN Abs.rowAt ldRow allV toV toC ofV ofC Builtin.min_ Builtin.min2 Builtin.max_ Builtin.max2 XT XU resA tupA kill ZT Yo Yp Yn Zc
section
attribute [local simp] ZV ZD Xp YN actD clash disj Xq holes Xr ZY Xu news eqB allB eqA Xf wrote toCs ofCs stA Yq ZE Yl dI1 dI2 dI3 dI5 elt
attribute [local simp] XH XD XI XE YS XG YP XF st_pv YO st_sl st_vl YQ st_mp st_fn YR XC co_any co_und co_agg co_tup Xe co_int Xb co_ref co_pv Xa co_sl co_vl Xc co_mp co_fn Xd XZ
attribute [local simp] backA backA1 Yx ZJ callA ZQ dropE flatAt flatBlk frameE ZC lim lop loud oKn okA Yv onlyJ ZO posOf ptrs putH renA setH
theorem zQ9 {A G : Prop} (f : A → G) (p : A) : G := f p
def Q10 (e : AEx) (σ : St) : Prop := (∀ id, e ≠ .exit id) ∧ ∃ vs, resA σ.t σ.h [CRes.tmp 4] = some vs ∧ tupA vs = .bool true
structure LCtx (s : FShop) (js : List FJob) (os : List Int) (c t j o : Za) : Prop where
  lat : LatOk s js os
  hc : ZI c = some s.chg
  ht : Yg t = some s.stops
  hj : Xj j = some js
  ho : Yd o = some os
  e0 : shopE s js = 0
theorem starts_good : ∀ args v, oStarts args = some v → OrcGood Tryz.prog GG false 43 args v := tab_good (f := 43) (c := { c43 with frsh := false, orc := oStarts }) FT_ok rfl
def LM1 : Nat → Option CFn := upd FT 16 false (fun _ => none)
theorem LM1_ok : Zr Tryz.prog GG LM1 := Xm mixed FT_ok fun args v ho => by simp at ho
def LM2 : Nat → Option CFn := updE LM1 16 (Xk 6)
theorem LM2_ok : Zr Tryz.prog GG LM2 := tab_updE LM1_ok (eOwn_good 6)
def LM3 : Nat → Option CFn := upd LM2 43 false (fun _ => none)
theorem LM3_ok : Zr Tryz.prog GG LM3 := Xm mixed LM2_ok fun args v ho => by simp at ho
def LM4 : Nat → Option CFn := updE LM3 43 (dropE oStarts)
theorem LM4_ok : Zr Tryz.prog GG LM4 := tab_drop LM3_ok starts_good
def LM5 : Nat → Option CFn := upd LM4 46 true oEarl
theorem LM5_ok : Zr Tryz.prog GG LM5 := tab_upd LM4_ok earl_good
def LM6 : Nat → Option CFn := upd LM5 35 true oBreak
theorem LM6_ok : Zr Tryz.prog GG LM6 := tab_upd LM5_ok break_good
def LM7 : Nat → Option CFn := upd LM6 38 true oSlack
theorem LM7_ok : Zr Tryz.prog GG LM7 := tab_upd LM6_ok slack_good
def LM8 : Nat → Option CFn := upd LM7 17 false (fun _ => none)
theorem LM8_ok : Zr Tryz.prog GG LM8 := Xm mixed LM7_ok fun args v ho => by simp at ho
def LM (k : Nat) : Nat → Option CFn := updE LM8 17 (Yb k 2)
theorem LM_ok (k : Nat) : Zr Tryz.prog GG (LM k) := tab_updE LM8_ok (eWork_good k 2)
theorem own_of {s : FShop} {js : List FJob} (h : ShopOk s js) {ts : List YH} (ht : ts.length ≤ 1000) : ownOk s.chg ts = true := by
  simp only [ownOk, Bool.and_eq_true, decide_eq_true_eq, List.all_eq_true]
  have hk := h.kinds
  exact ⟨⟨by omega, fun l hl => by have := (h.chg l hl).1; omega⟩, ht⟩
def zL8 (l : List Za) : List Za := .any :: .any :: .any :: .any :: .any :: .any :: .any :: .any :: l
def zL32 (l : List Za) : List Za := zL8 (zL8 (zL8 (zL8 l)))
def zL128 (l : List Za) : List Za := zL32 (zL32 (zL32 (zL32 l)))
attribute [local simp] zL8 zL32 zL128
theorem dJobs_vlL (js : List FJob) (t : Bool) : Xj (.vl (js.map Yf) t) = some js := optAll_map (d := dJob) (enc := Yf) dJob_rowJ js
theorem jobsI_full {js : List FJob} {k p : Nat} (hk : k < js.length) : YF js k p js.length = (js.map Yf).set k [I js[k].kind, I js[k].ready, I js[k].due, .sl p 0 js[k].mins.length false] := by
  unfold YF
  rw [if_pos hk, List.take_length, getD_at hk]; rfl
theorem rowsL_frz {js : List FJob} {k p : Nat} {H : Zf} {ms : List Int} (hH : H[p]? = some (some (.row 1 (ms.map rI)))) {m : Nat} (hm : m = ms.length) (a b c : Int) (d : Nat) : Zd (Zd (frz false H (d + 3))) ((js.map Yf).set k [I a, I b, I c, .sl p 0 m false]) = some ((js.map Yf).set k [I a, I b, I c, .vl (ms.map rI) false]) := by
  refine optAll_setJ ?_ k (frz_rowJ H (d + 2) js)
  subst hm
  have tk : (ms.map rI).take ms.length = ms.map rI := List.take_of_length_le (by simp)
  simp [Go.Abs.rowAt, hH, tk, Yk]
structure LF (s : FShop) (js : List FJob) (os : List Int) (c t j o sv ev c2 t2 o2 : Za) : Prop where
  hlat : LatOk s js os
  hctx : RunCtx s js os
  hc : ZI c = some s.chg
  ht : Yg t = some s.stops
  hj : Xj j = some js
  ho : Yd o = some os
  he0 : shopE s js = 0
  hsh : ShopOk s js
  hz : SizeOk s js
  hos : os.length = js.length
  hn6 : js.length ≤ 6
  h1k : s.chg.length ≤ 1000 ∧ (∀ l ∈ s.chg, l.length ≤ 1000) ∧ s.stops.length ≤ 1000
  hm4 : ∀ l ∈ js, l.mins.length ≤ 1000
  hmn : ∀ l ∈ js, l.mins ≠ []
  hoo : ownOk s.chg s.stops = true
  hcopy : ∀ H, freshN sOwnF [.agg [I s.mach, c, t]] H = some (.agg [I s.mach, c2, t2], [])
  hints : oInts [o] = some o2
  hwk0 : 0 < js.length → ∀ H, freshN sWorkQ [j] H = some (.sl H.length 0 js.length false, [(H.length, some (.row 4 (js.map Yf)))])
  fzJ : ∀ H d, Zd (Zd (frz false H (d + 1))) (js.map Yf) = some (js.map Yf)
  rbJ : ∀ n, ((js.map Yf).all fun r => r.all (rb n 5)) = true
  tkJ : (js.map Yf).take js.length = js.map Yf
  hc2 : ZI c2 = some s.chg
  hc2e : encC s.chg = c2
  ht2 : Yg t2 = some s.stops
  ht2e : .vl (s.stops.map rS3) false = t2
  hj2 : Xj (.vl (js.map Yf) false) = some js
  ho2 : Yd o2 = some os
  hordE : ordE s js os = 0
  hpo : ∀ J, ptrs J [o2] = J
  hbrk : ∀ a f u, oBreak [.agg [I s.mach, c2, t2], .vl (js.map Yf) false, o2, .agg [I a, I f, I u]] = some (.tup [brkV s js os (a, f, u), I (brkE s js os (a, f, u))])
  fc : ∀ H d, frz false H (d + 1) c = some c
  rc : ∀ n d, rb n (d + 1) c = true
  lc : Zc c = some s.chg.length
  cc1 : cellsOf c = some [c]
  cc2 : Zq c = true
  nc : ∀ K H, XA K H 5 c = some c
  ft : ∀ H d, frz false H (d + 1) t = some t
  rt : ∀ n d, rb n (d + 1) t = true
  lt : Zc t = some s.stops.length
  ct1 : cellsOf t = some [t]
  ct2 : Zq t = true
  nt : ∀ K H, XA K H 5 t = some t
  fj : ∀ H d, frz false H (d + 1) j = some j
  rj : ∀ n d, rb n (d + 1) j = true
  lj : Zc j = some js.length
  cj1 : cellsOf j = some [j]
  cj2 : Zq j = true
  nj : ∀ K H, XA K H 5 j = some j
  fo : ∀ H d, frz false H (d + 1) o = some o
  ro : ∀ n d, rb n (d + 1) o = true
  lo : Zc o = some os.length
  co1 : cellsOf o = some [o]
  co2 : Zq o = true
  no : ∀ K H, XA K H 5 o = some o
  fcc : ∀ H d, frz false H (d + 1) c2 = some c2
  rcc : ∀ n d, rb n (d + 1) c2 = true
  lcc : Zc c2 = some s.chg.length
  ccc1 : cellsOf c2 = some [c2]
  ccc2 : Zq c2 = true
  ftt : ∀ H d, frz false H (d + 1) t2 = some t2
  rtt : ∀ n d, rb n (d + 1) t2 = true
  ltt : Zc t2 = some s.stops.length
  ctt1 : cellsOf t2 = some [t2]
  ctt2 : Zq t2 = true
  foo : ∀ H d, frz false H (d + 1) o2 = some o2
  roo : ∀ n d, rb n (d + 1) o2 = true
  loo : Zc o2 = some os.length
  coo1 : cellsOf o2 = some [o2]
  coo2 : Zq o2 = true
  fv : ∀ H d, frz false H (d + 1) sv = some sv
  rv : ∀ n d, rb n (d + 1) sv = true
  lv : Zc sv = some (stsF s js os).length
  cv1 : cellsOf sv = some [sv]
  cv2 : Zq sv = true
  nv : ∀ K H, XA K H 5 sv = some sv
  fe : ∀ H d, frz false H (d + 1) ev = some ev
  re : ∀ n d, rb n (d + 1) ev = true
  le : Zc ev = some (endF s js os).length
  ce1 : cellsOf ev = some [ev]
  ce2 : Zq ev = true
  ne : ∀ K H, XA K H 5 ev = some ev
theorem lf_of {s : FShop} {js : List FJob} {os : List Int} {c t j o sv ev : Za} (hx : LCtx s js os c t j o) (hsv : ZI sv = some (stsF s js os)) (hev0 : Yd ev = some (endF s js os)) : ∃ c2 t2 o2, LF s js os c t j o sv ev c2 t2 o2 := by
  have hsh := hx.lat.ctx.ok
  have hn6 := hsh.njob
  have hos := ord_len hx.lat.ctx.ord
  have h1k : s.chg.length ≤ 1000 ∧ (∀ l ∈ s.chg, l.length ≤ 1000) ∧ s.stops.length ≤ 1000 := ⟨by have := hsh.kinds; omega, fun l hl => by have := (hsh.chg l hl).1; have := hsh.kinds; omega, by have := hsh.nst; omega⟩
  have hm4 : ∀ l ∈ js, l.mins.length ≤ 1000 := fun l hl => by have := (hsh.job l hl).2.2.2.1; have := hsh.mach; omega
  have hmn : ∀ l ∈ js, l.mins ≠ [] := fun l hl e => by have h1 := (hsh.job l hl).2.2.2.1; have h2 := hsh.mach; rw [e] at h1; simp at h1; omega
  have hoo := own_of hsh h1k.2.2
  have ht2 : Yg (.vl (s.stops.map rS3) false) = some s.stops := dI3_all s.stops
  exact ⟨encC s.chg, .vl (s.stops.map rS3) false, encE os, {
    hlat := hx.lat,
    hctx := hx.lat.ctx,
    hc := hx.hc,
    ht := hx.ht,
    hj := hx.hj,
    ho := hx.ho,
    he0 := hx.e0,
    hsh := hx.lat.ctx.ok,
    hz := ok_size hx.lat.ctx.ok,
    hos := ord_len hx.lat.ctx.ord,
    hn6 := hx.lat.ctx.ok.njob,
    h1k := h1k,
    hm4 := hm4,
    hmn := hmn,
    hoo := hoo,
    hcopy := fun H => ownF_eff hx.hc hx.ht hoo H,
    hints := ints_eq hx.ho (by omega),
    hwk0 := fun h0 H => workQ_eff hx.hj ⟨wk_of (by omega) hm4 hmn, h0⟩ H,
    fzJ := fun H d => frz_rowJ H d js,
    rbJ := fun n => rowJ_rb n 4 js,
    tkJ := List.take_of_length_le (by simp),
    hc2 := dInts2_encC s.chg,
    hc2e := rfl,
    ht2 := ht2,
    ht2e := rfl,
    hj2 := dJobs_vlL js false,
    ho2 := dInts_encE os,
    hordE := ordE_of hx.e0 hx.lat.ctx.ord,
    hpo := fun J => by cases os <;> rfl,
    hbrk := fun a f u => break_eq (s := s) (tt := false) (dInts2_encC s.chg) (dJobs_vlL js false) (dInts_encE os) (ok_size hx.lat.ctx.ok) (by have := ord_len hx.lat.ctx.ord; have := hx.lat.ctx.ok.njob; omega) a f u,
    fc := fun H d => Xo hx.hc H d,
    rc := fun n d => Xi hx.hc n d,
    lc := Xn hx.hc,
    cc1 := (ZZ hx.hc).1,
    cc2 := (ZZ hx.hc).2,
    nc := fun K H => Xg K H 5 c (Xi hx.hc 0 4),
    ft := fun H d => dStops_frz hx.ht H d,
    rt := fun n d => dStops_rb hx.ht n d,
    lt := dStops_len hx.ht,
    ct1 := (YK hx.ht).1,
    ct2 := (YK hx.ht).2,
    nt := fun K H => Xg K H 5 t (dStops_rb hx.ht 0 4),
    fj := fun H d => dJobs_frz hx.hj H d,
    rj := fun n d => dJobs_rb hx.hj n d,
    lj := dJobs_len hx.hj,
    cj1 := (dJobs_cells hx.hj).1,
    cj2 := (dJobs_cells hx.hj).2,
    nj := fun K H => Xg K H 5 j (dJobs_rb hx.hj 0 4),
    fo := fun H d => ZG hx.ho H d,
    ro := fun n d => Yc hx.ho n d,
    lo := Yz hx.ho,
    co1 := (Zp hx.ho).1,
    co2 := (Zp hx.ho).2,
    no := fun K H => Xg K H 5 o (Yc hx.ho 0 4),
    fcc := fun H d => Xo (dInts2_encC s.chg) H d,
    rcc := fun n d => Xi (dInts2_encC s.chg) n d,
    lcc := Xn (dInts2_encC s.chg),
    ccc1 := (ZZ (dInts2_encC s.chg)).1,
    ccc2 := (ZZ (dInts2_encC s.chg)).2,
    ftt := fun H d => dStops_frz ht2 H d,
    rtt := fun n d => dStops_rb ht2 n d,
    ltt := dStops_len ht2,
    ctt1 := (YK ht2).1,
    ctt2 := (YK ht2).2,
    foo := fun H d => ZG (dInts_encE os) H d,
    roo := fun n d => Yc (dInts_encE os) n d,
    loo := Yz (dInts_encE os),
    coo1 := (Zp (dInts_encE os)).1,
    coo2 := (Zp (dInts_encE os)).2,
    fv := fun H d => Xo hsv H d,
    rv := fun n d => Xi hsv n d,
    lv := Xn hsv,
    cv1 := (ZZ hsv).1,
    cv2 := (ZZ hsv).2,
    nv := fun K H => Xg K H 5 sv (Xi hsv 0 4),
    fe := fun H d => ZG hev0 H d,
    re := fun n d => Yc hev0 n d,
    le := Yz hev0,
    ce1 := (Zp hev0).1,
    ce2 := (Zp hev0).2,
    ne := fun K H => Xg K H 5 ev (Yc hev0 0 4) }⟩
set_option maxHeartbeats 8000000 in
theorem l10_23 (T : Nat → Option CFn) (hTb : Zr Tryz.prog GG T) (k : Nat) (h41 : T 41 = some { c41 with frsh := false, orc := oMade }) (h42 : T 42 = some { c42 with frsh := true, orc := oOrder }) (h18 : T 18 = some { c18 with frsh := true, orc := oInts }) (h19 : T 19 = some { c19 with frsh := true, orc := oLateT }) (h15 : T 15 = some { c15 with frsh := true, orc := oKn }) (h44 : T 44 = some { c44 with body := annK [(782, [.slot 8])] [] c44.body, frsh := true, orc := oTimed }) (h46 : T 46 = some { c46 with frsh := true, orc := oEarl }) (h35 : T 35 = some { c35 with frsh := true, orc := oBreak }) (h38 : T 38 = some { c38 with frsh := true, orc := oSlack }) (g16 : T 16 = some { c16 with frsh := false, orc := fun _ => none, eff := Xk 6 }) (g17 : T 17 = some { c17 with frsh := false, orc := fun _ => none, eff := Yb k 2 }) (h43 : T 43 = some { c43 with frsh := false, orc := fun _ => none, eff := dropE oStarts }) (s : FShop) (js : List FJob) (os : List Int) (c t j o : Za) (hx : LCtx s js os c t j o) (hk : k < js.length) (sv ev : Za) (hsv : ZI sv = some (stsF s js os)) (hev0 : Yd ev = some (endF s js os)) (bv : Za) (E2 : List Int) (hbv : Yd bv = some (dueL (endF s js os) E2 js js.length)) (a9 : Int) (b9 : Bool) (ha9 : a9 = ((dueL (endF s js os) E2 js js.length).length : Int)) (hb9 : b9 = lateB (endF s js os) js js.length) (v0 v1 v2 v3 v4 v5 : Int) : CRuns Tryz.prog GG 0 none (sufx 23 c10.body) ⟨(.any :: .any :: .any :: .any :: .any :: .ref 1 0 0 :: j :: o :: I (k : Int) :: .any :: .any :: .any :: .any :: .any :: .any :: .any :: .any :: .any :: .any :: bv :: .any :: .any :: .any :: .any :: .any :: .any :: I a9 :: .bool b9 :: .any :: I (slkV s js os (k : Int)) :: I (slkE s js os (k : Int)) :: zL128 (zL128 (zL32 (zL32 (zL8 (zL8 (zL8 ([.any, .any, .any, .any, .any, .any, .any])))))))), [some (.row 6 [[.int .u8 v0, .int .u8 v1, .int .u8 v2, .int .u8 v3, .int .u8 v4, .int .u8 v5]]), some (.row 3 [[I s.mach, c, t]]), none, none]⟩ Q10 := by
 obtain ⟨c2, t2, o2, hF⟩ := lf_of hx hsv hev0
 obtain ⟨hlat, hctx, hc, ht, hj, ho, he0, hsh, hz, hos, hn6, h1k, hm4, hmn, hoo, hcopy, hints, hwk0, fzJ, rbJ, tkJ, hc2, hc2e, ht2, ht2e, hj2, ho2, hordE, hpo, hbrk, fc, rc, lc, cc1, cc2, nc, ft, rt, lt, ct1, ct2, nt, fj, rj, lj, cj1, cj2, nj, fo, ro, lo, co1, co2, no, fcc, rcc, lcc, ccc1, ccc2, ftt, rtt, ltt, ctt1, ctt2, foo, roo, loo, coo1, coo2, fv, rv, lv, cv1, cv2, nv, fe, re, le, ce1, ce2, ne⟩ := hF
 have hwq := fun H => hwk0 (by omega) H
 have hinr : 0 ≤ (k : Int) ∧ (k : Int) < js.length := by omega
 have hlE : Xs (runF s js os).ends js js.length = Xs (endF s js os) js js.length := rfl
 have hbi := lateB_iff (endF s js os) js js.length
 rw [← hb9] at hbi
 have fb := fun H d => ZG hbv H d
 have rb := fun n d => Yc hbv n d
 have lb := Yz hbv
 obtain ⟨cb1, cb2⟩ := Zp hbv
 have nb := fun K H => Xg K H 5 bv (rb 0 4)
 generalize (dueL (endF s js os) E2 js js.length).length = LL at *
 have h9 : (a9 == (LL : Int)) = true := by rw [ha9]; simp
 have h9b : (a9 != (LL : Int)) = false := by rw [ha9]; simp
 unfold c10
 simp only [sufx, oo, om, op, og, ci, cl]
 rcases b9 with _ | _
 ·have hL0 : Xs (runF s js os).ends js js.length = [] := by rw [hlE]; exact hbi.1 rfl
  have hse : slkE s js os (k : Int) = 0 := by unfold slkE; rw [if_pos hordE, if_pos hinr, if_pos hL0]
  have hsv9 : slkV s js os (k : Int) = bsF (ltQ s js os k) 10001 0 10000 := by unfold slkV; rw [if_pos hse]; rfl
  have hjk := jobAt_get hk
  have hQ0 : ltQ s js os k 0 = false := by
   have e : ZP js k 0 = js := by
    unfold ZP
    rw [hjk, Int.add_zero]
    exact List.set_getElem_self hk
   unfold ltQ
   rw [e, hL0]; rfl
  have hsp := bsF_spec (ltQ s js os k) 10001 0 10000 (by decide) (by decide) (by decide) hQ0 (.inl rfl)
  rw [hse, hsv9]
  generalize bsF (ltQ s js os k) 10001 0 10000 = n at *
  obtain ⟨⟨hn0, hn1⟩, hn2, hn3⟩ := hsp
  have hn4 : ¬ n < 0 := by omega
  have hn5 : ¬ 10000 < n := by omega
  have hltL : ∀ d : Int, ltQ s js os k d = decide (0 < (Xs (endF s (ZP js k d) os) (ZP js k d) (ZP js k d).length).length) := fun d => rfl
  rw [hltL n] at hn2
  rw [hltL (n + 1)] at hn3
  have hr255 := hlat.r _ (List.getElem_mem hk)
  have hjm := hsh.job _ (List.getElem_mem hk)
  have hok1 := later_ok hlat hk (d := n) (by omega)
  have hok2 := later_ok hlat hk (d := n + 1) (by omega)
  have hrw : ∀ d, (ZP js k d).map Yf = (js.map Yf).set k [I js[k].kind, I (js[k].ready + d), I js[k].due, encE js[k].mins] := fun d => by
   unfold ZP; rw [List.map_set, hjk]; rfl
  have hrow0 : (js.map Yf)[k]? = some [I js[k].kind, I js[k].ready, I js[k].due, encE js[k].mins] := by rw [List.getElem?_map, List.getElem?_eq_getElem hk]; rfl
  have hrow0' : ∀ h, (js.map Yf)[k]'h = [I js[k].kind, I js[k].ready, I js[k].due, encE js[k].mins] := fun h => by rw [List.getElem?_eq_getElem h] at hrow0; exact Option.some.inj hrow0
  have hs1 : (js.map Yf).set k [I js[k].kind, I (js[k].ready + n), I js[k].due, encE js[k].mins] = (ZP js k n).map Yf := (hrw n).symm
  have hrow1 : ((ZP js k n).map Yf)[k]? = some [I js[k].kind, I (js[k].ready + n), I js[k].due, encE js[k].mins] := by rw [hrw n]; exact List.getElem?_set_self (by simpa using hk)
  have hrow1' : ∀ h, ((ZP js k n).map Yf)[k]'h = [I js[k].kind, I (js[k].ready + n), I js[k].due, encE js[k].mins] := fun h => by rw [List.getElem?_eq_getElem h] at hrow1; exact Option.some.inj hrow1
  have hs2 : ((ZP js k n).map Yf).set k [I js[k].kind, I (js[k].ready + n + 1), I js[k].due, encE js[k].mins] = (ZP js k (n + 1)).map Yf := by rw [hrw n, hrw (n + 1), List.set_set, Int.add_assoc]
  have hl1 := laterF_len js k n
  have hl2 := laterF_len js k (n + 1)
  have hwr1 : W .i64 (js[k].ready + n) = js[k].ready + n := ZX (by omega)
  have hwr2 : W .i64 (js[k].ready + n + 1) = js[k].ready + n + 1 := ZX (by omega)
  have hkn : (k : Int) < (js.length : Int) := by omega
  have hk0 : (0 : Int) ≤ (k : Int) := by omega
  have htn : ((k : Int)).toNat = k := rfl
  have hme := dInts_encE js[k].mins
  generalize encE js[k].mins = me at *
  generalize js[k].ready = rd at *
  generalize js[k].kind = kd at *
  generalize js[k].due = du at *
  have fm := fun H d => ZG hme H d
  have rm := fun n d => Yc hme n d
  have lm := Yz hme
  obtain ⟨cm1, cm2⟩ := Zp hme
  have hwo1 : wkOkB (ZP js k (n)) = true := wk_of (by omega) (fun l hl => by have := (hok1.1.ok.job l hl).2.2.2.1; have := hok1.1.ok.mach; omega) (fun l hl e => by have h1 := (hok1.1.ok.job l hl).2.2.2.1; have h2 := hok1.1.ok.mach; rw [e] at h1; simp at h1; omega)
  have hwp1 := sWorkP_eq (rs := (ZP js k (n)).map Yf) (js := ZP js k (n)) (optAll_map (d := dJob) (enc := Yf) dJob_rowJ _) hwo1 (n := js.length) ⟨by omega, hl1.symm⟩ false
  have hla1 := lateT_eq hc2 ht2 (dJobs_vlL (ZP js k (n)) false) ho2 (ok_size hok1.1.ok) (by omega)
  have hor1 := ordE_of hok1.2.1 hok1.1.ord
  rw [hor1, lateT_R hor1] at hla1
  have hcn1 : (lateR s (ZP js k (n)) os).1 = ((Xs (endF s (ZP js k (n)) os) (ZP js k (n)) (ZP js k (n)).length).length : Int) := rfl
  have fz1 := fun H dd => frz_rowJ H dd (ZP js k (n))
  have rb1 := fun nn => rowJ_rb nn 4 (ZP js k (n))
  have rl1 := rowJ_rb 0 4 (ZP js k (n))
  have tk1 : ((ZP js k (n)).map Yf).take js.length = (ZP js k (n)).map Yf := List.take_of_length_le (by simp [hl1])
  generalize (Xs (endF s (ZP js k (n)) os) (ZP js k (n)) (ZP js k (n)).length).length = q1 at *
  generalize lateR s (ZP js k (n)) os = R1 at *
  obtain ⟨x1, y1, z1⟩ := R1
  simp only at hcn1
  subst hcn1
  have hwo2 : wkOkB (ZP js k (n + 1)) = true := wk_of (by omega) (fun l hl => by have := (hok2.1.ok.job l hl).2.2.2.1; have := hok2.1.ok.mach; omega) (fun l hl e => by have h1 := (hok2.1.ok.job l hl).2.2.2.1; have h2 := hok2.1.ok.mach; rw [e] at h1; simp at h1; omega)
  have hwp2 := sWorkP_eq (rs := (ZP js k (n + 1)).map Yf) (js := ZP js k (n + 1)) (optAll_map (d := dJob) (enc := Yf) dJob_rowJ _) hwo2 (n := js.length) ⟨by omega, hl2.symm⟩ false
  have hla2 := lateT_eq hc2 ht2 (dJobs_vlL (ZP js k (n + 1)) false) ho2 (ok_size hok2.1.ok) (by omega)
  have hor2 := ordE_of hok2.2.1 hok2.1.ord
  rw [hor2, lateT_R hor2] at hla2
  have hcn2 : (lateR s (ZP js k (n + 1)) os).1 = ((Xs (endF s (ZP js k (n + 1)) os) (ZP js k (n + 1)) (ZP js k (n + 1)).length).length : Int) := rfl
  have fz2 := fun H dd => frz_rowJ H dd (ZP js k (n + 1))
  have rb2 := fun nn => rowJ_rb nn 4 (ZP js k (n + 1))
  have rl2 := rowJ_rb 0 4 (ZP js k (n + 1))
  have tk2 : ((ZP js k (n + 1)).map Yf).take js.length = (ZP js k (n + 1)).map Yf := List.take_of_length_le (by simp [hl2])
  generalize (Xs (endF s (ZP js k (n + 1)) os) (ZP js k (n + 1)) (ZP js k (n + 1)).length).length = q2 at *
  generalize lateR s (ZP js k (n + 1)) os = R2 at *
  obtain ⟨x2, y2, z2⟩ := R2
  simp only at hcn2
  subst hcn2
  generalize (ZP js k (n + 1)).map Yf = L2 at *
  generalize (ZP js k n).map Yf = L1 at *
  have hq1 : q1 = 0 := by have := of_decide_eq_false hn2; omega
  subst hq1
  have hL1 : L1.length = js.length := by rw [← hs1]; simp
  have hL2 : L2.length = js.length := by rw [← hs2]; simp [hL1]
  have hk1 : k < L1.length := by omega
  have HH1 := zA (Zk h41) (zA (Zk h42) (zA (Zk h18) (zA (Zk h19) (zA (Zk h15) (zA (Zk h44) (zA (Zk h46) (zA (Zk h35) (zA (Zk h38) (callF_eff' h43 rfl)))))))))
  have HH2 := zA h41 (zA h42 (zA h18 (zA h19 (zA h15 (zA h44 (zA h46 (zA h35 (zA h38 (zA g16 (zA g17 (zA h43 (zA hcopy (zA hints (zA hwq (zA fc (zA rc (zA lc (zA cc1 (zA cc2 (zA ft (zA rt (zA lt (zA ct1 (zA ct2 (zA fj (zA rj (zA lj (zA cj1 (zA cj2 (zA fo (zA ro (zA lo (zA co1 (zA co2 (zA fcc (zA rcc (zA lcc (zA ccc1 (zA ccc2 (zA ftt (zA rtt (zA ltt (zA ctt1 (zA ctt2 (zA foo (zA roo (zA loo (zA coo1 (zA coo2 (zA fv (zA rv (zA lv (zA cv1 (zA cv2 (zA fe (zA re (zA ce1 (zA ce2 (zA hpo (zA h9 (zA h9b (zA fb (zA lb (zA cb1 (zA cb2 (zA hn4 (zA hn5 (zA hrow0 (zA hrow0' (zA hs1 (zA hrow1 (zA hrow1' (zA hs2 (zA hwr1 (zA hwr2 (zA hkn (zA hk0 (zA htn (zA hk (zA hwp1 (zA hwp2 (zA hla1 (zA hla2 (zA fz2 (zA rb2 (zA tk1 (zA tk2 (zA hL1 (zA hL2 (zA hk1 (zA fm (zA rm (zA lm (zA cm1 cm2))))))))))))))))))))))))))))))))))))))))))))))))))))))))))))))))))))))))))))))))))))))))))))))
  have HH3 := zA fzJ (zA rbJ (zA tkJ (zA nc (zA nt (zA nj (zA no (zA nv (zA ne (zA nb (zA rl1 rl2))))))))))
  refine Zl ?_
  refine Zl ?_
  refine Zt mixed hTb (zR (zO (by simp [HH1, Zb g16 rfl, ↓Ze, Zb g17 rfl, Zi, Yb, Xk, -Zc, le, rb, fz1, rb1, HH2, ↓HH3]; rfl) ?_))
  simp only [zT, zB]
  refine XY (x := false) (by simp) ?_
  refine cruns_skip ?_
  simp only [zT, zB]
  refine Zl ?_
  refine Zl ?_
  refine Zt mixed hTb (zR (zO (by simp [HH1, Zb g16 rfl, ↓Ze, Zb g17 rfl, Zi, Yb, Xk, -Zc, le, rb, fz1, rb1, HH2, ↓HH3]; rfl) ?_))
  simp only [zT, zB]
  refine XY (x := false) (by simp) ?_
  refine cruns_skip ?_
  simp only [zT, zB]
  refine Zl ?_
  refine Zt mixed hTb (zR (zO (by simp [HH1, Zb g16 rfl, ↓Ze, Zb g17 rfl, Zi, Yb, Xk, -Zc, le, rb, fz1, rb1, HH2, ↓HH3]; rfl) ?_))
  simp only [zT, zB]
  refine Zl ?_
  refine Zt mixed hTb (zR (zO (by simp [HH1, Zb g16 rfl, ↓Ze, Zb g17 rfl, Zi, Yb, Xk, -Zc, le, rb, fz1, rb1, HH2, ↓HH3]; rfl) ?_))
  simp only [zT, zB]
  refine Zl ?_
  refine Zl ?_
  refine Zt mixed hTb (zR (zO (by simp [HH1, Zb g16 rfl, ↓Ze, Zb g17 rfl, Zi, Yb, Xk, -Zc, le, rb, fz1, rb1, HH2, ↓HH3]; rfl) ?_))
  simp only [zT, zB]
  refine Zl ?_
  refine Zt mixed hTb (zR (zO (by simp [HH1, Zb g16 rfl, ↓Ze, Zb g17 rfl, Zi, Yb, Xk, -Zc, le, rb, fz1, rb1, HH2, ↓HH3]; rfl) ?_))
  simp only [zT, zB]
  refine XY (x := false) (by simp) ?_
  refine cruns_skip ?_
  simp only [zT, zB]
  refine Zl ?_
  refine Zt mixed hTb (zR (zO (by simp [HH1, Zb g16 rfl, ↓Ze, Zb g17 rfl, Zi, Yb, Xk, -Zc, le, rb, fz1, rb1, HH2, ↓HH3]; rfl) ?_))
  simp only [zT, zB]
  rcases hcz : ((q2 : Int) == 0) with _ | _
  ·refine Zl ?_
   refine Zl ?_
   refine Zt mixed hTb (zR (zO (by simp [HH1, Zb g16 rfl, ↓Ze, Zb g17 rfl, Zi, Yb, Xk, -Zc, le, rb, fz1, rb1, HH2, ↓HH3, hcz]; rfl) ?_))
   simp only [zT, zB]
   refine Zl ?_
   refine Zt mixed hTb (zR (zO (by simp [HH1, Zb g16 rfl, ↓Ze, Zb g17 rfl, Zi, Yb, Xk, -Zc, le, rb, fz1, rb1, HH2, ↓HH3, hcz]; rfl) ?_))
   simp only [zT, zB]
   refine XY (x := false) (by simp) ?_
   refine cruns_skip ?_
   simp only [zT, zB]
   refine Zl ?_
   refine Zt mixed hTb (zR (zO (by simp [HH1, Zb g16 rfl, ↓Ze, Zb g17 rfl, Zi, Yb, Xk, -Zc, le, rb, fz1, rb1, HH2, ↓HH3, hcz]; rfl) ?_))
   simp only [zT, zB]
   refine cruns_ret ?_
   refine ⟨by simp, _, by simp <;> rfl, ?_⟩
   simp
  ·have hn6 : ¬ n < 10000 := fun h => by
    rcases hn3 with h3 | h3
    ·omega
    ·have := of_decide_eq_true h3
     simp at hcz; omega
   refine Zl ?_
   refine Zl ?_
   refine Zt mixed hTb (zR (zO (by simp [HH1, Zb g16 rfl, ↓Ze, Zb g17 rfl, Zi, Yb, Xk, -Zc, le, rb, fz1, rb1, HH2, ↓HH3, hcz, hn6]; rfl) ?_))
   simp only [zT, zB]
   refine Zl ?_
   refine Zt mixed hTb (zR (zO (by simp [HH1, Zb g16 rfl, ↓Ze, Zb g17 rfl, Zi, Yb, Xk, -Zc, le, rb, fz1, rb1, HH2, ↓HH3, hcz, hn6]; rfl) ?_))
   simp only [zT, zB]
   refine XY (x := false) (by simp [hn6]) ?_
   refine cruns_skip ?_
   simp only [zT, zB]
   refine Zl ?_
   refine Zt mixed hTb (zR (zO (by simp [HH1, Zb g16 rfl, ↓Ze, Zb g17 rfl, Zi, Yb, Xk, -Zc, le, rb, fz1, rb1, HH2, ↓HH3, hcz, hn6]; rfl) ?_))
   simp only [zT, zB]
   refine cruns_ret ?_
   refine ⟨by simp, _, by simp <;> rfl, ?_⟩
   simp
 ·have hL0 : ¬ Xs (runF s js os).ends js js.length = [] := fun h => by rw [hlE] at h; have := hbi.2 h; simp at this
  have hse : slkE s js os (k : Int) = 9 := by unfold slkE; rw [if_pos hordE, if_pos hinr, if_neg hL0]
  have hsv9 : slkV s js os (k : Int) = 0 := by unfold slkV; rw [if_neg (by rw [hse]; decide)]
  rw [hse, hsv9]
  have HH4 := zA (Zk h41) (zA (Zk h42) (zA (Zk h18) (zA (Zk h19) (zA (Zk h15) (zA (Zk h44) (zA (Zk h46) (zA (Zk h35) (zA (Zk h38) (callF_eff' h43 rfl)))))))))
  have HH5 := zA h41 (zA h42 (zA h18 (zA h19 (zA h15 (zA h44 (zA h46 (zA h35 (zA h38 (zA g16 (zA g17 (zA h43 (zA hcopy (zA hints (zA hwq (zA fc (zA rc (zA lc (zA cc1 (zA cc2 (zA ft (zA rt (zA lt (zA ct1 (zA ct2 (zA fj (zA rj (zA lj (zA cj1 (zA cj2 (zA fo (zA ro (zA lo (zA co1 (zA co2 (zA fcc (zA rcc (zA lcc (zA ccc1 (zA ccc2 (zA ftt (zA rtt (zA ltt (zA ctt1 (zA ctt2 (zA foo (zA roo (zA loo (zA coo1 (zA coo2 (zA fv (zA rv (zA lv (zA cv1 (zA cv2 (zA fe (zA re (zA ce1 (zA ce2 (zA hpo (zA h9 (zA h9b (zA fb (zA lb (zA cb1 cb2))))))))))))))))))))))))))))))))))))))))))))))))))))))))))))))))
  have HH6 := zA fzJ (zA rbJ (zA tkJ (zA nc (zA nt (zA nj (zA no (zA nv (zA ne nb))))))))
  refine Zl ?_
  refine Zl ?_
  refine Zt mixed hTb (zR (zO (by simp [HH4, Zb g16 rfl, ↓Ze, Zb g17 rfl, Zi, Yb, Xk, -Zc, le, rb, HH5, ↓HH6]; rfl) ?_))
  simp only [zT, zB]
  refine XY (x := true) (by simp) ?_
  refine Zl ?_
  refine Zt mixed hTb (zR (zO (by simp [HH4, Zb g16 rfl, ↓Ze, Zb g17 rfl, Zi, Yb, Xk, -Zc, le, rb, HH5, ↓HH6]; rfl) ?_))
  simp only [zT, zB]
  refine cruns_ret ?_
  refine ⟨by simp, _, by simp <;> rfl, ?_⟩
  simp
set_option maxHeartbeats 8000000 in
theorem l10_20 (T : Nat → Option CFn) (hTb : Zr Tryz.prog GG T) (k : Nat) (h41 : T 41 = some { c41 with frsh := false, orc := oMade }) (h42 : T 42 = some { c42 with frsh := true, orc := oOrder }) (h18 : T 18 = some { c18 with frsh := true, orc := oInts }) (h19 : T 19 = some { c19 with frsh := true, orc := oLateT }) (h15 : T 15 = some { c15 with frsh := true, orc := oKn }) (h44 : T 44 = some { c44 with body := annK [(782, [.slot 8])] [] c44.body, frsh := true, orc := oTimed }) (h46 : T 46 = some { c46 with frsh := true, orc := oEarl }) (h35 : T 35 = some { c35 with frsh := true, orc := oBreak }) (h38 : T 38 = some { c38 with frsh := true, orc := oSlack }) (g16 : T 16 = some { c16 with frsh := false, orc := fun _ => none, eff := Xk 6 }) (g17 : T 17 = some { c17 with frsh := false, orc := fun _ => none, eff := Yb k 2 }) (h43 : T 43 = some { c43 with frsh := false, orc := fun _ => none, eff := dropE oStarts }) (s : FShop) (js : List FJob) (os : List Int) (c t j o : Za) (hx : LCtx s js os c t j o) (hk : k < js.length) (sv ev : Za) (hsv : ZI sv = some (stsF s js os)) (hev0 : Yd ev = some (endF s js os)) (bv ev3 : Za) (E2 : List Int) (hbv : Yd bv = some (dueL (endF s js os) E2 js js.length)) (hev3 : Yd ev3 = some E2) (hE2 : E2.length = js.length) (v0 v1 v2 v3 v4 v5 : Int) : CRuns Tryz.prog GG 0 none (sufx 20 c10.body) ⟨(.any :: .any :: .any :: .ref 0 0 0 :: .any :: .ref 1 0 0 :: j :: o :: I (k : Int) :: .any :: .any :: ev :: .any :: .any :: .any :: .any :: .any :: .any :: .any :: bv :: .any :: .any :: .any :: .any :: ev3 :: zL128 (zL128 (zL32 (zL32 (zL32 ([.any, .any, .any, .any, .any])))))), [some (.row 6 [[.int .u8 v0, .int .u8 v1, .int .u8 v2, .int .u8 v3, .int .u8 v4, .int .u8 v5]]), some (.row 3 [[I s.mach, c, t]]), none, none]⟩ Q10 := by
 obtain ⟨c2, t2, o2, hF⟩ := lf_of hx hsv hev0
 obtain ⟨hlat, hctx, hc, ht, hj, ho, he0, hsh, hz, hos, hn6, h1k, hm4, hmn, hoo, hcopy, hints, hwk0, fzJ, rbJ, tkJ, hc2, hc2e, ht2, ht2e, hj2, ho2, hordE, hpo, hbrk, fc, rc, lc, cc1, cc2, nc, ft, rt, lt, ct1, ct2, nt, fj, rj, lj, cj1, cj2, nj, fo, ro, lo, co1, co2, no, fcc, rcc, lcc, ccc1, ccc2, ftt, rtt, ltt, ctt1, ctt2, foo, roo, loo, coo1, coo2, fv, rv, lv, cv1, cv2, nv, fe, re, le, ce1, ce2, ne⟩ := hF
 have hwq := fun H => hwk0 (by omega) H
 have hslk := slack_eq hc2 ht2 hj2 ho2 hz (by omega : os.length ≤ 100) (k : Int)
 have hE1l := endF_len hctx
 generalize hE1 : endF s js os = E1 at *
 have fb := fun H d => ZG hbv H d
 have rb := fun n d => Yc hbv n d
 have lb := Yz hbv
 obtain ⟨cb1, cb2⟩ := Zp hbv
 have nb := fun K H => Xg K H 5 bv (rb 0 4)
 obtain ⟨te, rfl⟩ := Xh hev0 (k := k) (by omega)
 obtain ⟨tg, rfl⟩ := Xh hev3 (k := k) (by omega)
 obtain ⟨rs, tj, w0, rfl, hrl, _, _⟩ := dJobs_get hj hk
 have hjr : Zd dJob rs = some js := hj
 have hd00 : (dueL E1 E2 js 0).length = 0 := rfl
 unfold c10
 simp only [sufx, oo, om, op, og, ci, cl]
 have HH1 := zA (Zk h41) (zA (Zk h42) (zA (Zk h18) (zA (Zk h19) (zA (Zk h15) (zA (Zk h44) (zA (Zk h46) (zA (Zk h35) (zA (Zk h38) (callF_eff' h43 rfl)))))))))
 have HH2 := zA h41 (zA h42 (zA h18 (zA h19 (zA h15 (zA h44 (zA h46 (zA h35 (zA h38 (zA g16 (zA g17 (zA h43 (zA hcopy (zA hints (zA hwq (zA fc (zA rc (zA lc (zA cc1 (zA cc2 (zA ft (zA rt (zA lt (zA ct1 (zA ct2 (zA fj (zA rj (zA lj (zA cj1 (zA cj2 (zA fo (zA ro (zA lo (zA co1 (zA co2 (zA fcc (zA rcc (zA lcc (zA ccc1 (zA ccc2 (zA ftt (zA rtt (zA ltt (zA ctt1 (zA ctt2 (zA foo (zA roo (zA loo (zA coo1 (zA coo2 (zA fv (zA rv (zA lv (zA cv1 (zA cv2 (zA fe (zA re (zA ce1 (zA ce2 (zA hpo (zA hslk (zA fb (zA lb (zA cb1 (zA cb2 hrl))))))))))))))))))))))))))))))))))))))))))))))))))))))))))))))))
 have HH3 := zA fzJ (zA rbJ (zA tkJ (zA nc (zA nt (zA nj (zA no (zA nv (zA ne nb))))))))
 refine Zl ?_
 refine Zt mixed hTb (zR (zO (by simp [HH1, Zb g16 rfl, ↓Ze, Zb g17 rfl, Zi, Yb, Xk, -Zc, le, rb, HH2, ↓HH3]; rfl) ?_))
 simp only [zT, zB]
 refine Zl ?_
 refine Zl ?_
 refine Zt mixed hTb (zR (zO (by simp [HH1, Zb g16 rfl, ↓Ze, Zb g17 rfl, Zi, Yb, Xk, -Zc, le, rb, HH2, ↓HH3]; rfl) ?_))
 simp only [zT, zB]
 refine cruns_block ?_
 refine cruns_loop (k := js.length - 0) (fun mm σ => ∃ (m : Nat) (i a : Int) (b : Bool), i = m ∧ js.length - m = mm ∧ m ≤ js.length ∧ a = ((dueL E1 E2 js m).length : Int) ∧ b = lateB E1 js m ∧ σ = ⟨(.any :: .any :: .any :: .any :: .any :: .ref 1 0 0 :: .vl rs tj :: o :: I (k : Int) :: .any :: .any :: .vl (E1.map rI) te :: .any :: .any :: .any :: .any :: .any :: .any :: .any :: bv :: .any :: .any :: .any :: .any :: .vl (E2.map rI) tg :: .any :: I a :: .bool b :: I i :: zL128 (zL128 (zL32 (zL32 (zL32 ([.any])))))), [some (.row 6 [[.int .u8 v0, .int .u8 v1, .int .u8 v2, .int .u8 v3, .int .u8 v4, .int .u8 v5]]), some (.row 3 [[I s.mach, c, t]]), none, none]⟩) ⟨_, ren_kk 487066080 [0, 1, 2, 3] (by decide) (by simp) rfl (by simp [zr, renE, XB, Yw, HH1, Zb g16 rfl, ↓Ze, Zb g17 rfl, Zi, Yb, Xk, -Zc, le, rb, HH2, ↓HH3] <;> rfl) (by simp [zr, renE, XB, Yw, HH1, Zb g16 rfl, ↓Ze, Zb g17 rfl, Zi, Yb, Xk, -Zc, le, rb, HH2, ↓HH3] <;> rfl), ⟨0, 0, 0, false, rfl, rfl, Nat.zero_le _, rfl, rfl, rfl⟩⟩ ?_
 rintro mm σ ⟨m, i, a, b, him, rfl, hml, haL, hbL, rfl⟩
 refine Zl ?_
 refine Zl ?_
 refine Zt mixed hTb (zR (zO (by simp [HH1, Zb g16 rfl, ↓Ze, Zb g17 rfl, Zi, Yb, Xk, -Zc, le, rb, HH2, ↓HH3]; rfl) ?_))
 simp only [zT, zB]
 refine cruns_cond_split (x := decide (i < (js.length : Int))) (by simp) (fun hlt => ?_) (fun hlt => ?_)
 ·have hlt2 := of_decide_eq_true hlt
  have hm0 : m < js.length := by omega
  have hi0 : 0 ≤ i := by omega
  have htn : i.toNat = m := by omega
  have hiL : i < (js.length : Int) := by omega
  have hiE1 : i < (E1.length : Int) := by omega
  have hiE2 : i < (E2.length : Int) := by omega
  have hwi : W .i64 (i + 1) = i + 1 := ZR (by omega)
  have hmr : m < rs.length := by omega
  obtain ⟨_, hgj⟩ := Zx hjr
  obtain ⟨wv, hr2, hwv⟩ := dJob_eq (hgj m hmr hm0)
  have hr1 : rs[m]? = some [I js[m].kind, I js[m].ready, I js[m].due, wv] := by rw [List.getElem?_eq_getElem hmr, hr2]
  have hr4 : ∀ h, rs[m]'h = [I js[m].kind, I js[m].ready, I js[m].due, wv] := fun h => hr2
  have hd0 : dueAt js m = js[m].due := congrArg FJob.due (getD_at hm0)
  have hm1 : m < E1.length := by omega
  have hm2 : m < E2.length := by omega
  have he1 : endAt E1 m = E1[m] := getD_at hm1
  have he2 : endAt E2 m = E2[m] := getD_at hm2
  have hg1 : (E1.map rI)[m]? = some [I E1[m]] := by rw [List.getElem?_map, List.getElem?_eq_getElem hm1]; rfl
  have hg1' : ∀ h, (E1.map rI)[m]'h = [I E1[m]] := fun h => by rw [List.getElem_map]; rfl
  have hg2 : (E2.map rI)[m]? = some [I E2[m]] := by rw [List.getElem?_map, List.getElem?_eq_getElem hm2]; rfl
  have hg2' : ∀ h, (E2.map rI)[m]'h = [I E2[m]] := fun h => by rw [List.getElem_map]; rfl
  have hls := lateB_step E1 js m
  have hds := due_step E1 E2 js m
  have hdg := fun h2 h1 => due_get (E1 := E1) (E2 := E2) (js := js) (n := js.length) hm0 h2 h1
  have hdl := dueL_len E1 E2 js m
  rw [← hbL] at hls
  obtain ⟨bN, hbN⟩ : ∃ bN, bN = lateB E1 js (m + 1) := ⟨_, rfl⟩
  rw [← hbN] at hls
  rw [hd0, he1] at hls
  rw [hd0, he1, he2] at hds hdg
  generalize E1[m] = e1 at *
  generalize E2[m] = e2 at *
  generalize hJ : js[m] = J at *
  obtain ⟨Jk, Jr, Jd, Jm⟩ := J
  simp only at *
  have HH4 := zA hi0 (zA htn (zA hiL (zA hiE1 (zA hiE2 (zA hwi (zA hm0 (zA hm1 (zA hm2 (zA hmr (zA hr1 (zA hr4 (zA hg1 (zA hg1' (zA hg2 hg2'))))))))))))))
  refine cruns_skip ?_
  simp only [zT, zB]
  refine Zl ?_
  refine cruns_block ?_
  refine Zl ?_
  apply zQ9
  ·intro s2
   rcases hL : b with _ | _
   ·have hlN : bN = decide (Jd < e1) := by rw [hls, hL]; rfl
    refine Zt mixed hTb (Ye (by simp (maxSteps := 3000000) [HH1, Zb g16 rfl, ↓Ze, Zb g17 rfl, Zi, Yb, Xk, -Zc, le, rb, HH2, ↓HH3, zI, HH4, hL]; rfl) ?_)
    simp only [zT, zB]
    refine cruns_ren (σ1 := ⟨(.any :: .any :: .any :: .any :: .any :: .ref 1 0 0 :: .vl rs tj :: o :: I (k : Int) :: .any :: .any :: .vl (E1.map rI) te :: .any :: .any :: .any :: .any :: .any :: .any :: .any :: bv :: .any :: .any :: .any :: .any :: .vl (E2.map rI) tg :: .any :: I a :: .bool bN :: I i :: zL128 (zL128 (zL32 (zL32 (zL32 ([.any])))))), [some (.row 6 [[.int .u8 v0, .int .u8 v1, .int .u8 v2, .int .u8 v3, .int .u8 v4, .int .u8 v5]]), some (.row 3 [[I s.mach, c, t]]), none, none]⟩) (ren_kk 487066080 [0, 1, 2, 3] (by decide) (by simp) rfl (by simp [zr, renE, XB, Yw, HH1, Zb g16 rfl, ↓Ze, Zb g17 rfl, Zi, Yb, Xk, -Zc, le, rb, HH2, ↓HH3, zI, HH4, hlN] <;> rfl) (by simp [zr, renE, XB, Yw, HH1, Zb g16 rfl, ↓Ze, Zb g17 rfl, Zi, Yb, Xk, -Zc, le, rb, HH2, ↓HH3, zI, HH4, hlN] <;> rfl)) ?_
    exact s2
   ·have hlN : bN = true := by rw [hls, hL]; rfl
    refine Zt mixed hTb (Ye (by simp (maxSteps := 3000000) [HH1, Zb g16 rfl, ↓Ze, Zb g17 rfl, Zi, Yb, Xk, -Zc, le, rb, HH2, ↓HH3, zI, HH4, hL]; rfl) ?_)
    simp only [zT, zB]
    refine cruns_ren (σ1 := ⟨(.any :: .any :: .any :: .any :: .any :: .ref 1 0 0 :: .vl rs tj :: o :: I (k : Int) :: .any :: .any :: .vl (E1.map rI) te :: .any :: .any :: .any :: .any :: .any :: .any :: .any :: bv :: .any :: .any :: .any :: .any :: .vl (E2.map rI) tg :: .any :: I a :: .bool bN :: I i :: zL128 (zL128 (zL32 (zL32 (zL32 ([.any])))))), [some (.row 6 [[.int .u8 v0, .int .u8 v1, .int .u8 v2, .int .u8 v3, .int .u8 v4, .int .u8 v5]]), some (.row 3 [[I s.mach, c, t]]), none, none]⟩) (ren_kk 487066080 [0, 1, 2, 3] (by decide) (by simp) rfl (by simp [zr, renE, XB, Yw, HH1, Zb g16 rfl, ↓Ze, Zb g17 rfl, Zi, Yb, Xk, -Zc, le, rb, HH2, ↓HH3, zI, HH4, hlN] <;> rfl) (by simp [zr, renE, XB, Yw, HH1, Zb g16 rfl, ↓Ze, Zb g17 rfl, Zi, Yb, Xk, -Zc, le, rb, HH2, ↓HH3, zI, HH4, hlN] <;> rfl)) ?_
    exact s2
  ·by_cases h2 : Jd < e2
   ·have h2' : ¬ e2 ≤ Jd := by omega
    by_cases h1 : Jd < e1
    ·have hdN : dueL E1 E2 js (m + 1) = dueL E1 E2 js m := by rw [hds, if_neg (by simp [h1])]
     refine Zl ?_
     refine Zl ?_
     refine Zt mixed hTb (Ye (by simp (maxSteps := 3000000) [HH1, Zb g16 rfl, ↓Ze, Zb g17 rfl, Zi, Yb, Xk, -Zc, le, rb, HH2, ↓HH3, zI, HH4, h2', h1]; rfl) ?_)
     simp only [zT, zB]
     refine XY (x := true) (by simp [h1]) ?_
     refine cruns_exit ?_
     simp only [zT, zB, if_true, if_false, reduceIte, Nat.reduceEqDiff, Nat.succ_ne_zero, Nat.one_ne_zero, Nat.zero_ne_one]
     refine Zt mixed hTb (zR (zO (by simp [HH1, Zb g16 rfl, ↓Ze, Zb g17 rfl, Zi, Yb, Xk, -Zc, le, rb, HH2, ↓HH3, zI, HH4, h2', h1]; rfl) ?_))
     simp only [zT, zB]
     exact ⟨js.length - (m + 1), ⟨(.any :: .any :: .any :: .any :: .any :: .ref 1 0 0 :: .vl rs tj :: o :: I (k : Int) :: .any :: .any :: .vl (E1.map rI) te :: .any :: .any :: .any :: .any :: .any :: .any :: .any :: bv :: .any :: .any :: .any :: .any :: .vl (E2.map rI) tg :: .any :: I a :: .bool bN :: I (i + 1) :: zL128 (zL128 (zL32 (zL32 (zL32 ([.any])))))), [some (.row 6 [[.int .u8 v0, .int .u8 v1, .int .u8 v2, .int .u8 v3, .int .u8 v4, .int .u8 v5]]), some (.row 3 [[I s.mach, c, t]]), none, none]⟩, by omega, ren_kk 487066080 [0, 1, 2, 3] (by decide) (by simp) rfl (by simp [zr, renE, XB, Yw, HH1, Zb g16 rfl, ↓Ze, Zb g17 rfl, Zi, Yb, Xk, -Zc, le, rb, HH2, ↓HH3, zI, HH4, h2', h1] <;> rfl) (by simp [zr, renE, XB, Yw, HH1, Zb g16 rfl, ↓Ze, Zb g17 rfl, Zi, Yb, Xk, -Zc, le, rb, HH2, ↓HH3, zI, HH4, h2', h1] <;> rfl), m + 1, i + 1, a, bN, by omega, rfl, by omega, by rw [hdN]; exact haL, hbN, rfl⟩
    ·have hdN : dueL E1 E2 js (m + 1) = dueL E1 E2 js m ++ [(m : Int)] := by rw [hds, if_pos (by simp [h1, h2])]
     have hdN2 : ((dueL E1 E2 js (m + 1)).length : Int) = ((dueL E1 E2 js m).length : Int) + 1 := by rw [hdN]; simp
     have hgd := hdg h2 h1
     obtain ⟨hga, hgb⟩ := List.getElem?_eq_some_iff.1 hgd
     obtain ⟨tb, rfl⟩ := Xh hbv hga
     have hbg : ((dueL E1 E2 js js.length).map rI)[(dueL E1 E2 js m).length]? = some [I i] := by rw [List.getElem?_map, hgd, him]; rfl
     have hbg2 : ∀ h, ((dueL E1 E2 js js.length).map rI)[(dueL E1 E2 js m).length]'h = [I i] := fun h => by rw [List.getElem?_eq_getElem h] at hbg; exact Option.some.inj hbg
     have hw1 : W .i64 (a + 1) = a + 1 := ZX (by omega)
     have haN : a + 1 = ((dueL E1 E2 js (m + 1)).length : Int) := by rw [hdN2, haL]
     generalize (dueL E1 E2 js js.length) = DD at *
     generalize (dueL E1 E2 js m).length = LL at *
     have hga2 : ¬ (DD.length : Int) ≤ a := by omega
     have hga3 : a < (DD.length : Int) := by omega
     have hga4 : a.toNat = LL := by omega
     have hga5 : (0 : Int) ≤ a := by omega
     have HH5 := zA h2' (zA h1 (zA hga (zA hga2 (zA hga3 (zA hga4 (zA hga5 (zA hbg (zA hbg2 hw1))))))))
     refine Zl ?_
     refine Zl ?_
     refine Zt mixed hTb (Ye (by simp (maxSteps := 3000000) [HH1, Zb g16 rfl, ↓Ze, Zb g17 rfl, Zi, Yb, Xk, -Zc, le, rb, HH2, ↓HH3, zI, HH4, HH5]; rfl) ?_)
     simp only [zT, zB]
     refine XY (x := false) (by simp [h1]) ?_
     refine cruns_skip ?_
     simp only [zT, zB]
     refine Zl ?_
     refine Zl ?_
     refine Zt mixed hTb (zR (zO (by simp [HH1, Zb g16 rfl, ↓Ze, Zb g17 rfl, Zi, Yb, Xk, -Zc, le, rb, HH2, ↓HH3, zI, HH4, HH5]; rfl) ?_))
     simp only [zT, zB]
     refine XY (x := false) (by simp) ?_
     refine cruns_skip ?_
     simp only [zT, zB]
     refine Zt mixed hTb (zR (zO (by simp [HH1, Zb g16 rfl, ↓Ze, Zb g17 rfl, Zi, Yb, Xk, -Zc, le, rb, HH2, ↓HH3, zI, HH4, HH5]; rfl) ?_))
     simp only [zT, zB]
     refine Zt mixed hTb (zR (zO (by simp [HH1, Zb g16 rfl, ↓Ze, Zb g17 rfl, Zi, Yb, Xk, -Zc, le, rb, HH2, ↓HH3, zI, HH4, HH5]; rfl) ?_))
     simp only [zT, zB]
     exact ⟨js.length - (m + 1), ⟨(.any :: .any :: .any :: .any :: .any :: .ref 1 0 0 :: .vl rs tj :: o :: I (k : Int) :: .any :: .any :: .vl (E1.map rI) te :: .any :: .any :: .any :: .any :: .any :: .any :: .any :: .vl (DD.map rI) tb :: .any :: .any :: .any :: .any :: .vl (E2.map rI) tg :: .any :: I (a + 1) :: .bool bN :: I (i + 1) :: zL128 (zL128 (zL32 (zL32 (zL32 ([.any])))))), [some (.row 6 [[.int .u8 v0, .int .u8 v1, .int .u8 v2, .int .u8 v3, .int .u8 v4, .int .u8 v5]]), some (.row 3 [[I s.mach, c, t]]), none, none]⟩, by omega, ren_kk 487066080 [0, 1, 2, 3] (by decide) (by simp) rfl (by simp [zr, renE, XB, Yw, HH1, Zb g16 rfl, ↓Ze, Zb g17 rfl, Zi, Yb, Xk, -Zc, le, rb, HH2, ↓HH3, zI, HH4, HH5] <;> rfl) (by simp [zr, renE, XB, Yw, HH1, Zb g16 rfl, ↓Ze, Zb g17 rfl, Zi, Yb, Xk, -Zc, le, rb, HH2, ↓HH3, zI, HH4, HH5] <;> rfl), m + 1, i + 1, (a + 1), bN, by omega, rfl, by omega, haN, hbN, rfl⟩
   ·have hdN : dueL E1 E2 js (m + 1) = dueL E1 E2 js m := by rw [hds, if_neg (by simp [h2])]
    have h2' : e2 ≤ Jd := by omega
    refine Zl ?_
    refine Zl ?_
    refine Zt mixed hTb (Ye (by simp (maxSteps := 3000000) [HH1, Zb g16 rfl, ↓Ze, Zb g17 rfl, Zi, Yb, Xk, -Zc, le, rb, HH2, ↓HH3, zI, HH4, h2']; rfl) ?_)
    simp only [zT, zB]
    refine XY (x := true) (by simp [h2']) ?_
    refine cruns_exit ?_
    simp only [zT, zB, if_true, if_false, reduceIte, Nat.reduceEqDiff, Nat.succ_ne_zero, Nat.one_ne_zero, Nat.zero_ne_one]
    refine Zt mixed hTb (zR (zO (by simp [HH1, Zb g16 rfl, ↓Ze, Zb g17 rfl, Zi, Yb, Xk, -Zc, le, rb, HH2, ↓HH3, zI, HH4, h2']; rfl) ?_))
    simp only [zT, zB]
    exact ⟨js.length - (m + 1), ⟨(.any :: .any :: .any :: .any :: .any :: .ref 1 0 0 :: .vl rs tj :: o :: I (k : Int) :: .any :: .any :: .vl (E1.map rI) te :: .any :: .any :: .any :: .any :: .any :: .any :: .any :: bv :: .any :: .any :: .any :: .any :: .vl (E2.map rI) tg :: .any :: I a :: .bool bN :: I (i + 1) :: zL128 (zL128 (zL32 (zL32 (zL32 ([.any])))))), [some (.row 6 [[.int .u8 v0, .int .u8 v1, .int .u8 v2, .int .u8 v3, .int .u8 v4, .int .u8 v5]]), some (.row 3 [[I s.mach, c, t]]), none, none]⟩, by omega, ren_kk 487066080 [0, 1, 2, 3] (by decide) (by simp) rfl (by simp [zr, renE, XB, Yw, HH1, Zb g16 rfl, ↓Ze, Zb g17 rfl, Zi, Yb, Xk, -Zc, le, rb, HH2, ↓HH3, zI, HH4, h2'] <;> rfl) (by simp [zr, renE, XB, Yw, HH1, Zb g16 rfl, ↓Ze, Zb g17 rfl, Zi, Yb, Xk, -Zc, le, rb, HH2, ↓HH3, zI, HH4, h2'] <;> rfl), m + 1, i + 1, a, bN, by omega, rfl, by omega, by rw [hdN]; exact haL, hbN, rfl⟩
 ·have hx1 := of_decide_eq_false hlt
  have hkE : m = js.length := by omega
  subst hkE
  subst hE1
  refine cruns_exit ?_
  simp only [zT, zB, if_true, if_false, reduceIte, Nat.reduceEqDiff, Nat.succ_ne_zero, Nat.one_ne_zero, Nat.zero_ne_one]
  refine Zl ?_
  refine Zt mixed hTb (zR (zO (by simp [HH1, Zb g16 rfl, ↓Ze, Zb g17 rfl, Zi, Yb, Xk, -Zc, le, rb, HH2, ↓HH3]; rfl) ?_))
  simp only [zT, zB]
  refine cruns_ren (ren_kk 1812464096 [0, 1, 2, 3] (by decide) (by simp) rfl (by simp [zr, renE, XB, Yw, HH1, Zb g16 rfl, ↓Ze, Zb g17 rfl, Zi, Yb, Xk, -Zc, le, rb, HH2, ↓HH3] <;> rfl) (by simp [zr, renE, XB, Yw, HH1, Zb g16 rfl, ↓Ze, Zb g17 rfl, Zi, Yb, Xk, -Zc, le, rb, HH2, ↓HH3] <;> rfl)) ?_
  exact l10_23 T hTb k h41 h42 h18 h19 h15 h44 h46 h35 h38 g16 g17 h43 s js os c t (.vl rs tj) o hx hk sv (.vl ((endF s js os).map rI) te) hsv hev0 bv E2 hbv a b haL hbL v0 v1 v2 v3 v4 v5
set_option maxHeartbeats 8000000 in
theorem l10_13 (T : Nat → Option CFn) (hTb : Zr Tryz.prog GG T) (k : Nat) (h41 : T 41 = some { c41 with frsh := false, orc := oMade }) (h42 : T 42 = some { c42 with frsh := true, orc := oOrder }) (h18 : T 18 = some { c18 with frsh := true, orc := oInts }) (h19 : T 19 = some { c19 with frsh := true, orc := oLateT }) (h15 : T 15 = some { c15 with frsh := true, orc := oKn }) (h44 : T 44 = some { c44 with body := annK [(782, [.slot 8])] [] c44.body, frsh := true, orc := oTimed }) (h46 : T 46 = some { c46 with frsh := true, orc := oEarl }) (h35 : T 35 = some { c35 with frsh := true, orc := oBreak }) (h38 : T 38 = some { c38 with frsh := true, orc := oSlack }) (g16 : T 16 = some { c16 with frsh := false, orc := fun _ => none, eff := Xk 6 }) (g17 : T 17 = some { c17 with frsh := false, orc := fun _ => none, eff := Yb k 2 }) (h43 : T 43 = some { c43 with frsh := false, orc := fun _ => none, eff := dropE oStarts }) (s : FShop) (js : List FJob) (os : List Int) (c t j o : Za) (hx : LCtx s js os c t j o) (hk : k < js.length) (sv ev : Za) (hsv : ZI sv = some (stsF s js os)) (hev0 : Yd ev = some (endF s js os)) (v0 v1 v2 v3 v4 v5 : Int) (hv : isU v0 ∧ isU v1 ∧ isU v2 ∧ isU v3 ∧ isU v4 ∧ isU v5) : CRuns Tryz.prog GG 0 none (sufx 13 c10.body) ⟨(.any :: .any :: .any :: .ref 0 0 0 :: .any :: .ref 1 0 0 :: j :: o :: I (k : Int) :: sv :: .any :: ev :: .any :: .any :: .any :: .any :: .any :: I (2 * v4) :: zL128 (zL128 (zL32 (zL32 (zL32 (zL8 ([.any, .any, .any, .any]))))))), [some (.row 6 [[.int .u8 v0, .int .u8 v1, .int .u8 v2, .int .u8 v3, .int .u8 v4, .int .u8 v5]]), some (.row 3 [[I s.mach, c, t]]), none, none]⟩ Q10 := by
 obtain ⟨⟨hv00, hv01⟩, ⟨hv10, hv11⟩, ⟨hv20, hv21⟩, ⟨hv30, hv31⟩, ⟨hv40, hv41⟩, ⟨hv50, hv51⟩⟩ := hv
 obtain ⟨c2, t2, o2, hF⟩ := lf_of hx hsv hev0
 obtain ⟨hlat, hctx, hc, ht, hj, ho, he0, hsh, hz, hos, hn6, h1k, hm4, hmn, hoo, hcopy, hints, hwk0, fzJ, rbJ, tkJ, hc2, hc2e, ht2, ht2e, hj2, ho2, hordE, hpo, hbrk, fc, rc, lc, cc1, cc2, nc, ft, rt, lt, ct1, ct2, nt, fj, rj, lj, cj1, cj2, nj, fo, ro, lo, co1, co2, no, fcc, rcc, lcc, ccc1, ccc2, ftt, rtt, ltt, ctt1, ctt2, foo, roo, loo, coo1, coo2, fv, rv, lv, cv1, cv2, nv, fe, re, le, ce1, ce2, ne⟩ := hF
 have hwq := fun H => hwk0 (by omega) H
 have hmach := hsh.mach
 have hq0 := Int.tmod_nonneg s.mach hv30
 have hq1 := Int.tmod_lt_of_pos v3 (show 0 < s.mach by omega)
 have hmz : (s.mach == 0) = false := by simp; omega
 have hmz2 : ¬ s.mach = 0 := by omega
 generalize hA : v3.tmod s.mach = A at *
 have hw3 : W .i64 v3 = v3 := ZX (by omega)
 have hwA : W .i64 A = A := ZX (by omega)
 have hw5 : W .i64 v5 = v5 := ZX (by omega)
 have hw6 : W .i64 (2 * v4 + 1) = 2 * v4 + 1 := ZX (by omega)
 have hw7 : W .i64 (2 * v4 + 1 + v5) = 2 * v4 + 1 + v5 := ZX (by omega)
 have hstp := stop_ok hlat (x := (A, 2 * v4, 2 * v4 + 1 + v5)) ⟨⟨hq0, hq1⟩, ⟨by show 0 ≤ 2 * v4; omega, by show 2 * v4 ≤ 100000; omega⟩, ⟨by show 0 ≤ 2 * v4 + 1 + v5; omega, by show 2 * v4 + 1 + v5 ≤ 100000; omega⟩, by show 2 * v4 < 2 * v4 + 1 + v5; omega⟩
 obtain ⟨hctx2, he2, hsle⟩ := hstp
 have hbk := fun J => (keep_ints2 hc2).2.1 J
 have hsk : stopOk s.mach (A, 2 * v4, 2 * v4 + 1 + v5) = true := by
  simp [stopOk, inI, wB]; omega
 have hst6 := hlat.st
 have hbE : brkE s js os (A, 2 * v4, 2 * v4 + 1 + v5) = 0 := by
  unfold brkE; rw [if_pos hordE, if_neg (by omega), if_pos hsk]
 have hbr := hbrk A (2 * v4) (2 * v4 + 1 + v5)
 have hbV : brkV s js os (A, 2 * v4, 2 * v4 + 1 + v5) = delV (lateS s js os) (lateS (moreS s (A, 2 * v4, 2 * v4 + 1 + v5)) js os) := by unfold brkV; rw [if_pos hbE]
 rw [hbE, hbV] at hbr
 have hdI := delV_ints (lateS s js os) (lateS (moreS s (A, 2 * v4, 2 * v4 + 1 + v5)) js os)
 rw [show outB (lateS s js os) (lateS (moreS s (A, 2 * v4, 2 * v4 + 1 + v5)) js os) = dueL (endF s js os) (endF (moreS s (A, 2 * v4, 2 * v4 + 1 + v5)) js os) js js.length from dueL_eq _ _ js js.length js.length (Nat.le_refl _)] at hdI
 generalize delV (lateS s js os) (lateS (moreS s (A, 2 * v4, 2 * v4 + 1 + v5)) js os) = bv at *
 have hown := fun H => ownN_eff (m := s.mach) hc ht hoo H
 simp only [hc2e] at hown
 have h1k2 : s.chg.length ≤ 1000 ∧ (∀ l ∈ s.chg, l.length ≤ 1000) ∧ (s.stops ++ [(A, 2 * v4, 2 * v4 + 1 + v5)]).length ≤ 1000 := ⟨h1k.1, h1k.2.1, by simp; omega⟩
 have hstS : Yg (.vl ((s.stops ++ [(A, 2 * v4, 2 * v4 + 1 + v5)]).map rS3) false) = some (s.stops ++ [(A, 2 * v4, 2 * v4 + 1 + v5)]) := dI3_all _
 have hap : s.stops.map rS3 ++ [[I A, I (2 * v4), I (2 * v4 + 1 + v5)]] = (s.stops ++ [(A, 2 * v4, 2 * v4 + 1 + v5)]).map rS3 := by rw [List.map_append]; rfl
 have hcopy2 := fun H => ownF_eff (m := s.mach) hc2 hstS (own_of hsh h1k2.2.2) H
 simp only [hc2e] at hcopy2
 have hz2 := ok_size hctx2.ok
 have hord2 := ordE_of he2 hctx2.ord
 have hstq := starts_eq (s := moreS s (A, 2 * v4, 2 * v4 + 1 + v5)) hc2 hstS hj2 ho2 hz2 (by omega)
 rw [hord2, show startsV (moreS s (A, 2 * v4, 2 * v4 + 1 + v5)) js os = .vl ((stsF (moreS s (A, 2 * v4, 2 * v4 + 1 + v5)) js os).map encS) true by unfold startsV; rw [if_pos hord2]; rfl] at hstq
 change oStarts [.agg [I s.mach, _, _], _, _] = _ at hstq
 have hS3 : StOk s js (stsF (moreS s (A, 2 * v4, 2 * v4 + 1 + v5)) js os) := let h := sts_ok hctx2; ⟨h.len, h.row⟩
 have hs3 := dInts2_vl (stsF (moreS s (A, 2 * v4, 2 * v4 + 1 + v5)) js os) true
 have hea := early_no hctx hctx2 rfl rfl (runF_mono hsle rfl (fun i => JLe.refl _) (mins4 hsh) os)
 have hends : endsL (stsF (moreS s (A, 2 * v4, 2 * v4 + 1 + v5)) js os) js s.mach.toNat js.length = endF (moreS s (A, 2 * v4, 2 * v4 + 1 + v5)) js os := ends_eq hctx2
 have hE2 := endF_len hctx2
 have hrs0 : ((s.stops.map rS3).all fun r => r.length == 3) = true := by simp [rS3]
 have hst0 : ((s.stops.map rS3).all fun r => r.all Zq) = true := by simp [rS3]
 have htk0 : (s.stops.map rS3).take s.stops.length = s.stops.map rS3 := List.take_of_length_le (by simp)
 have hl0 : s.stops.length + 1 ≤ 1048576 := by omega
 have htkJ2 := tkJ
 generalize hXX : s.stops ++ [(A, 2 * v4, 2 * v4 + 1 + v5)] = X at *
 have hXl : X.length = s.stops.length + 1 := by rw [← hXX]; simp
 have hXle : s.stops.length + 1 ≤ X.length := by omega
 have htkX : (X.map rS3).take (s.stops.length + 1) = X.map rS3 := List.take_of_length_le (by simp [hXl])
 have hfX := fun nv H d => (Zz _ (fun r hr => by obtain ⟨x, _, rfl⟩ := List.mem_map.1 hr; rfl) : Zd (Zd (frz nv H (d + 1))) (X.map rS3) = some (X.map rS3))
 generalize moreS s (A, 2 * v4, 2 * v4 + 1 + v5) = s2 at *
 generalize stsF s2 js os = S3 at *
 have hear := fun (x y : Za) hx hy => earl_eq (x := x) (y := y) hx hy hea
 generalize (Za.vl (S3.map encS) true) = sv3 at *
 have hear3 := hear sv3 sv hs3 hsv
 have htim := timed_eq hc ht hj hs3 hsh hS3
 rw [hends] at htim
 have hev3 := dInts_encE (endF s2 js os)
 generalize endF s2 js os = E2 at *
 generalize encE E2 = ev3 at *
 generalize hsX : Za.vl (X.map rS3) false = stX at *
 have fw := fun H d => Xo hs3 H d
 have rw := fun n d => Xi hs3 n d
 have lw := Xn hs3
 obtain ⟨cw1, cw2⟩ := ZZ hs3
 have fb := fun H d => ZG hdI H d
 have rb := fun n d => Yc hdI n d
 have lb := Yz hdI
 obtain ⟨cb1, cb2⟩ := Zp hdI
 have fy := fun H d => dStops_frz hstS H d
 have ry := fun n d => dStops_rb hstS n d
 have ly := dStops_len hstS
 obtain ⟨cy1, cy2⟩ := YK hstS
 have fg := fun H d => ZG hev3 H d
 have rg := fun n d => Yc hev3 n d
 have lg := Yz hev3
 obtain ⟨cg1, cg2⟩ := Zp hev3
 have nb := fun K H => Xg K H 5 bv (rb 0 4)
 have ny := fun K H => Xg K H 5 stX (ry 0 4)
 have ng := fun K H => Xg K H 5 ev3 (rg 0 4)
 have ncc := fun K H => Xg K H 5 c2 (rcc 0 4)
 unfold c10
 simp only [sufx, oo, om, op, og, ci, cl]
 have HH1 := zA (Zk h41) (zA (Zk h42) (zA (Zk h18) (zA (Zk h19) (zA (Zk h15) (zA (Zk h44) (zA (Zk h46) (zA (Zk h35) (zA (Zk h38) (callF_eff' h43 rfl)))))))))
 have HH2 := zA h41 (zA h42 (zA h18 (zA h19 (zA h15 (zA h44 (zA h46 (zA h35 (zA h38 (zA g16 (zA g17 (zA h43 (zA hcopy (zA hints (zA hwq (zA fc (zA rc (zA lc (zA cc1 (zA cc2 (zA ft (zA rt (zA lt (zA ct1 (zA ct2 (zA fj (zA rj (zA lj (zA cj1 (zA cj2 (zA fo (zA ro (zA lo (zA co1 (zA co2 (zA fcc (zA rcc (zA lcc (zA ccc1 (zA ccc2 (zA ftt (zA rtt (zA ltt (zA ctt1 (zA ctt2 (zA foo (zA roo (zA loo (zA coo1 (zA coo2 (zA fv (zA rv (zA lv (zA cv1 (zA cv2 (zA fe (zA re (zA ce1 (zA ce2 (zA hpo (zA hA (zA hmz (zA hmz2 (zA hw3 (zA hwA (zA hw5 (zA hw6 (zA hw7 (zA hbr (zA hown (zA hcopy2 (zA hstq (zA hear3 (zA htim (zA fw (zA rw (zA lw (zA cw1 (zA cw2 (zA fb (zA lb (zA cb1 (zA cb2 (zA fy (zA ry (zA ly (zA cy1 (zA cy2 (zA fg (zA rg (zA lg (zA cg1 cg2)))))))))))))))))))))))))))))))))))))))))))))))))))))))))))))))))))))))))))))))))))))))))))
 have HH3 := zA fzJ (zA rbJ (zA tkJ (zA nc (zA nt (zA nj (zA no (zA nv (zA ne (zA hbk (zA nb (zA ny (zA ng ncc))))))))))))
 refine Zl ?_
 refine Zt mixed hTb (Ye (by simp (maxSteps := 3000000) [HH1, Zb g16 rfl, ↓Ze, Zb g17 rfl, Zi, Yb, Xk, -Zc, le, rb, zI, HH2, ↓HH3]; rfl) ?_)
 simp only [zT, zB]
 refine cruns_ren (ren_kk 265192 [0, 1, 18, 90, 91] (by decide) (by simp) rfl (by simp [zr, renE, XB, Yw, HH1, Zb g16 rfl, ↓Ze, Zb g17 rfl, Zi, Yb, Xk, -Zc, le, rb, zI, HH2, ↓HH3] <;> rfl) (by simp [zr, renE, XB, Yw, HH1, Zb g16 rfl, ↓Ze, Zb g17 rfl, Zi, Yb, Xk, -Zc, le, rb, zI, HH2, ↓HH3] <;> rfl)) ?_
 refine Zl ?_
 refine Zt mixed hTb (Ye (by simp (maxSteps := 3000000) [HH1, Zb g16 rfl, ↓Ze, Zb g17 rfl, Zi, Yb, Xk, -Zc, le, rb, zI, HH2, ↓HH3]; rfl) ?_)
 simp only [zT, zB]
 refine cruns_ren (ren_kk 1838056 [0, 1, 2, 90, 91, 92] (by decide) (by simp) rfl (by simp [zr, renE, XB, Yw, HH1, Zb g16 rfl, ↓Ze, Zb g17 rfl, Zi, Yb, Xk, -Zc, le, rb, zI, HH2, ↓HH3] <;> rfl) (by simp [zr, renE, XB, Yw, HH1, Zb g16 rfl, ↓Ze, Zb g17 rfl, Zi, Yb, Xk, -Zc, le, rb, zI, HH2, ↓HH3] <;> rfl)) ?_
 have HH4 := zA htk0 (zA hl0 (zA hap (zA hXle (zA htkX (zA hfX hsX)))))
 refine Zl ?_
 refine Zt mixed hTb (zR (zO (by simp [HH1, Zb g16 rfl, ↓Ze, Zb g17 rfl, Zi, Yb, Xk, -Zc, le, rb, zI, HH2, ↓HH3, ↓hrs0, ↓hst0, HH4]; rfl) ?_))
 simp only [zT, zB]
 refine Zl ?_
 refine Zt mixed hTb (zR (zO (by simp [HH1, Zb g16 rfl, ↓Ze, Zb g17 rfl, Zi, Yb, Xk, -Zc, le, rb, zI, HH2, ↓HH3, ↓hrs0, ↓hst0, HH4]; rfl) ?_))
 simp only [zT, zB]
 refine cruns_ren (ren_kk 3935208 [0, 1, 2, 7, 90] (by decide) (by simp) rfl (by simp [zr, renE, XB, Yw, HH1, Zb g16 rfl, ↓Ze, Zb g17 rfl, Zi, Yb, Xk, -Zc, le, rb, zI, HH2, ↓HH3, ↓hrs0, ↓hst0, HH4] <;> rfl) (by simp [zr, renE, XB, Yw, HH1, Zb g16 rfl, ↓Ze, Zb g17 rfl, Zi, Yb, Xk, -Zc, le, rb, zI, HH2, ↓HH3, ↓hrs0, ↓hst0, HH4] <;> rfl)) ?_
 refine Zl ?_
 refine Zt mixed hTb (zR (zO (by simp [HH1, Zb g16 rfl, ↓Ze, Zb g17 rfl, Zi, Yb, Xk, -Zc, le, rb, zI, HH2, ↓HH3, ↓hrs0, ↓hst0, HH4]; rfl) ?_))
 simp only [zT, zB]
 refine Zl ?_
 refine Zt mixed hTb (zR (zO (by simp [HH1, Zb g16 rfl, ↓Ze, Zb g17 rfl, Zi, Yb, Xk, -Zc, le, rb, zI, HH2, ↓HH3, ↓hrs0, ↓hst0, HH4]; rfl) ?_))
 simp only [zT, zB]
 refine Zl ?_
 refine Zl ?_
 refine Zt mixed hTb (zR (zO (by simp [HH1, Zb g16 rfl, ↓Ze, Zb g17 rfl, Zi, Yb, Xk, -Zc, le, rb, zI, HH2, ↓HH3, ↓hrs0, ↓hst0, HH4]; rfl) ?_))
 simp only [zT, zB]
 refine XY (x := false) (by simp) ?_
 refine cruns_skip ?_
 simp only [zT, zB]
 refine cruns_ren (ren_kk 17304040 [0, 1, 90, 91] (by decide) (by simp) rfl (by simp [zr, renE, XB, Yw, HH1, Zb g16 rfl, ↓Ze, Zb g17 rfl, Zi, Yb, Xk, -Zc, le, rb, zI, HH2, ↓HH3, ↓hrs0, ↓hst0, HH4] <;> rfl) (by simp [zr, renE, XB, Yw, HH1, Zb g16 rfl, ↓Ze, Zb g17 rfl, Zi, Yb, Xk, -Zc, le, rb, zI, HH2, ↓HH3, ↓hrs0, ↓hst0, HH4] <;> rfl)) ?_
 exact l10_20 T hTb k h41 h42 h18 h19 h15 h44 h46 h35 h38 g16 g17 h43 s js os c t j o hx hk sv ev hsv hev0 bv ev3 E2 hdI hev3 hE2 v0 v1 v2 v3 v4 v5
set_option maxHeartbeats 8000000 in
theorem l10_9 (T : Nat → Option CFn) (hTb : Zr Tryz.prog GG T) (k : Nat) (h41 : T 41 = some { c41 with frsh := false, orc := oMade }) (h42 : T 42 = some { c42 with frsh := true, orc := oOrder }) (h18 : T 18 = some { c18 with frsh := true, orc := oInts }) (h19 : T 19 = some { c19 with frsh := true, orc := oLateT }) (h15 : T 15 = some { c15 with frsh := true, orc := oKn }) (h44 : T 44 = some { c44 with body := annK [(782, [.slot 8])] [] c44.body, frsh := true, orc := oTimed }) (h46 : T 46 = some { c46 with frsh := true, orc := oEarl }) (h35 : T 35 = some { c35 with frsh := true, orc := oBreak }) (h38 : T 38 = some { c38 with frsh := true, orc := oSlack }) (g16 : T 16 = some { c16 with frsh := false, orc := fun _ => none, eff := Xk 6 }) (g17 : T 17 = some { c17 with frsh := false, orc := fun _ => none, eff := Yb k 2 }) (h43 : T 43 = some { c43 with frsh := false, orc := fun _ => none, eff := dropE oStarts }) (s : FShop) (js : List FJob) (os : List Int) (c t j o : Za) (hx : LCtx s js os c t j o) (hk : k < js.length) (sv ev : Za) (hsv : ZI sv = some (stsF s js os)) (hev0 : Yd ev = some (endF s js os)) (v0 v1 v2 v3 v4 v5 : Int) (hv : isU v0 ∧ isU v1 ∧ isU v2 ∧ isU v3 ∧ isU v4 ∧ isU v5) (jv : Za) (jm : List FJob) (hjv : Xj jv = some jm) (hml : jm.length = js.length) (hmc : RunCtx s jm os) (hm0 : shopE s jm = 0) (hmj : ∀ i, JLe (js.getD i default) (jm.getD i default)) : CRuns Tryz.prog GG 0 none (sufx 9 c10.body) ⟨(.any :: .any :: .any :: .ref 0 0 0 :: .any :: .ref 1 0 0 :: j :: o :: I (k : Int) :: sv :: .any :: ev :: .any :: jv :: zL128 (zL128 (zL32 (zL32 (zL32 (zL8 (zL8 ([])))))))), [some (.row 6 [[.int .u8 v0, .int .u8 v1, .int .u8 v2, .int .u8 v3, .int .u8 v4, .int .u8 v5]]), some (.row 3 [[I s.mach, c, t]]), none, none]⟩ Q10 := by
 obtain ⟨⟨hv00, hv01⟩, ⟨hv10, hv11⟩, ⟨hv20, hv21⟩, ⟨hv30, hv31⟩, ⟨hv40, hv41⟩, ⟨hv50, hv51⟩⟩ := hv
 obtain ⟨c2, t2, o2, hF⟩ := lf_of hx hsv hev0
 obtain ⟨hlat, hctx, hc, ht, hj, ho, he0, hsh, hz, hos, hn6, h1k, hm4, hmn, hoo, hcopy, hints, hwk0, fzJ, rbJ, tkJ, hc2, hc2e, ht2, ht2e, hj2, ho2, hordE, hpo, hbrk, fc, rc, lc, cc1, cc2, nc, ft, rt, lt, ct1, ct2, nt, fj, rj, lj, cj1, cj2, nj, fo, ro, lo, co1, co2, no, fcc, rcc, lcc, ccc1, ccc2, ftt, rtt, ltt, ctt1, ctt2, foo, roo, loo, coo1, coo2, fv, rv, lv, cv1, cv2, nv, fe, re, le, ce1, ce2, ne⟩ := hF
 have hwq := fun H => hwk0 (by omega) H
 have hzm := ok_size hmc.ok
 have hm4m : ∀ l ∈ jm, l.mins.length ≤ 1000 := fun l hl => by have := (hmc.ok.job l hl).2.2.2.1; have := hmc.ok.mach; omega
 have hmnm : ∀ l ∈ jm, l.mins ≠ [] := fun l hl e => by have h1 := (hmc.ok.job l hl).2.2.2.1; have h2 := hmc.ok.mach; rw [e] at h1; simp at h1; omega
 have hwm := fun H => workQ_eff hjv ⟨wk_of (by omega) hm4m hmnm, by omega⟩ H
 have fzM := fun H d => frz_rowJ H d jm
 have tkM : (jm.map Yf).take jm.length = jm.map Yf := List.take_of_length_le (by simp)
 have tkM2 : (jm.map Yf).take js.length = jm.map Yf := by rw [← hml]; exact tkM
 have hjm2 := dJobs_vlL jm false
 have hordM := ordE_of hm0 hmc.ord
 have hstq := starts_eq hc2 ht2 hjm2 ho2 hzm (by have := hctx.len6; omega)
 rw [hordM, show startsV s jm os = .vl ((stsF s jm os).map encS) true by unfold startsV; rw [if_pos hordM]; rfl] at hstq
 have hS2 := sts_ok hmc
 have hs2 := dInts2_vl (stsF s jm os) true
 have hea := early_no hctx hmc hml.symm rfl (runF_mono (s := s) (s' := s) ⟨rfl, fun _ h => h⟩ hml.symm hmj (mins4 hsh) os)
 generalize hbs : stsF s jm os = S2 at *
 generalize (Za.vl (S2.map encS) true) = sv2 at *
 have hear := earl_eq hs2 hsv hea
 have htim := timed_eq hc ht hjv hs2 hmc.ok hS2
 generalize encE (endsL S2 jm s.mach.toNat jm.length) = ev2 at *
 have hw4 : W .i64 v4 = v4 := ZX (by omega)
 have hw24 : W .i64 (2 * v4) = 2 * v4 := ZX (by omega)
 have fw := fun H d => Xo hs2 H d
 have rw := fun n d => Xi hs2 n d
 have lw := Xn hs2
 obtain ⟨cw1, cw2⟩ := ZZ hs2
 have fm := fun H d => dJobs_frz hjv H d
 have rm := fun n d => dJobs_rb hjv n d
 have lm := dJobs_len hjv
 obtain ⟨cm1, cm2⟩ := dJobs_cells hjv
 unfold c10
 simp only [sufx, oo, om, op, og, ci, cl]
 have HH1 := zA (Zk h41) (zA (Zk h42) (zA (Zk h18) (zA (Zk h19) (zA (Zk h15) (zA (Zk h44) (zA (Zk h46) (zA (Zk h35) (zA (Zk h38) (callF_eff' h43 rfl)))))))))
 have HH2 := zA h41 (zA h42 (zA h18 (zA h19 (zA h15 (zA h44 (zA h46 (zA h35 (zA h38 (zA g16 (zA g17 (zA h43 (zA hcopy (zA hints (zA hwm (zA tkM (zA tkM2 (zA hml (zA hpo (zA fc (zA rc (zA lc (zA cc1 (zA cc2 (zA ft (zA rt (zA lt (zA ct1 (zA ct2 (zA fj (zA rj (zA lj (zA cj1 (zA cj2 (zA fo (zA ro (zA lo (zA co1 (zA co2 (zA fcc (zA rcc (zA lcc (zA ccc1 (zA ccc2 (zA ftt (zA rtt (zA ltt (zA ctt1 (zA ctt2 (zA foo (zA roo (zA loo (zA coo1 (zA coo2 (zA fv (zA rv (zA lv (zA cv1 (zA cv2 (zA fe (zA re (zA ce1 (zA ce2 (zA fw (zA rw (zA lw (zA cw1 (zA cw2 (zA fm (zA rm (zA lm (zA cm1 (zA cm2 (zA hstq (zA htim (zA hear (zA hw4 hw24))))))))))))))))))))))))))))))))))))))))))))))))))))))))))))))))))))))))))))
 have HH3 := zA fzM (zA nc (zA nt (zA nj (zA no (zA nv ne)))))
 refine Zl ?_
 refine Zt mixed hTb (zR (zO (by simp [HH1, Zb g16 rfl, ↓Ze, Zb g17 rfl, Zi, Yb, Xk, -Zc, le, HH2, ↓HH3]; rfl) ?_))
 simp only [zT, zB]
 refine Zl ?_
 refine Zt mixed hTb (zR (zO (by simp [HH1, Zb g16 rfl, ↓Ze, Zb g17 rfl, Zi, Yb, Xk, -Zc, le, HH2, ↓HH3]; rfl) ?_))
 simp only [zT, zB]
 refine Zl ?_
 refine Zl ?_
 refine Zt mixed hTb (zR (zO (by simp [HH1, Zb g16 rfl, ↓Ze, Zb g17 rfl, Zi, Yb, Xk, -Zc, le, HH2, ↓HH3]; rfl) ?_))
 simp only [zT, zB]
 refine XY (x := false) (by simp) ?_
 refine cruns_skip ?_
 simp only [zT, zB]
 refine Zl ?_
 refine Zt mixed hTb (zR (zO (by simp [HH1, Zb g16 rfl, ↓Ze, Zb g17 rfl, Zi, Yb, Xk, -Zc, le, HH2, ↓HH3]; rfl) ?_))
 simp only [zT, zB]
 refine cruns_ren (ren_kk 134120 [0, 1, 2, 3] (by decide) (by simp) rfl (by simp [zr, renE, XB, Yw, HH1, Zb g16 rfl, ↓Ze, Zb g17 rfl, Zi, Yb, Xk, -Zc, le, HH2, ↓HH3] <;> rfl) (by simp [zr, renE, XB, Yw, HH1, Zb g16 rfl, ↓Ze, Zb g17 rfl, Zi, Yb, Xk, -Zc, le, HH2, ↓HH3] <;> rfl)) ?_
 exact l10_13 T hTb k h41 h42 h18 h19 h15 h44 h46 h35 h38 g16 g17 h43 s js os c t j o hx hk sv ev hsv hev0 v0 v1 v2 v3 v4 v5 ⟨⟨hv00, hv01⟩, ⟨hv10, hv11⟩, ⟨hv20, hv21⟩, ⟨hv30, hv31⟩, ⟨hv40, hv41⟩, ⟨hv50, hv51⟩⟩
set_option maxHeartbeats 8000000 in
theorem l10_7 (T : Nat → Option CFn) (hTb : Zr Tryz.prog GG T) (k : Nat) (h41 : T 41 = some { c41 with frsh := false, orc := oMade }) (h42 : T 42 = some { c42 with frsh := true, orc := oOrder }) (h18 : T 18 = some { c18 with frsh := true, orc := oInts }) (h19 : T 19 = some { c19 with frsh := true, orc := oLateT }) (h15 : T 15 = some { c15 with frsh := true, orc := oKn }) (h44 : T 44 = some { c44 with body := annK [(782, [.slot 8])] [] c44.body, frsh := true, orc := oTimed }) (h46 : T 46 = some { c46 with frsh := true, orc := oEarl }) (h35 : T 35 = some { c35 with frsh := true, orc := oBreak }) (h38 : T 38 = some { c38 with frsh := true, orc := oSlack }) (g16 : T 16 = some { c16 with frsh := false, orc := fun _ => none, eff := Xk 6 }) (g17 : T 17 = some { c17 with frsh := false, orc := fun _ => none, eff := Yb k 2 }) (h43 : T 43 = some { c43 with frsh := false, orc := fun _ => none, eff := dropE oStarts }) (s : FShop) (js : List FJob) (os : List Int) (c t j o : Za) (hx : LCtx s js os c t j o) (hk : k < js.length) (sv ev : Za) (hsv : ZI sv = some (stsF s js os)) (hev0 : Yd ev = some (endF s js os)) (v0 v1 v2 v3 v4 v5 : Int) (hv : isU v0 ∧ isU v1 ∧ isU v2 ∧ isU v3 ∧ isU v4 ∧ isU v5) : CRuns Tryz.prog GG 0 none (sufx 7 c10.body) ⟨(.any :: .any :: .any :: .ref 0 0 0 :: .any :: .ref 1 0 0 :: j :: o :: I (k : Int) :: sv :: .any :: ev :: zL128 (zL128 (zL32 (zL32 (zL32 (zL8 (zL8 ([.any, .any])))))))), [some (.row 6 [[.int .u8 v0, .int .u8 v1, .int .u8 v2, .int .u8 v3, .int .u8 v4, .int .u8 v5]]), some (.row 3 [[I s.mach, c, t]])]⟩ Q10 := by
 obtain ⟨⟨hv00, hv01⟩, ⟨hv10, hv11⟩, ⟨hv20, hv21⟩, ⟨hv30, hv31⟩, ⟨hv40, hv41⟩, ⟨hv50, hv51⟩⟩ := hv
 obtain ⟨c2, t2, o2, hF⟩ := lf_of hx hsv hev0
 obtain ⟨hlat, hctx, hc, ht, hj, ho, he0, hsh, hz, hos, hn6, h1k, hm4, hmn, hoo, hcopy, hints, hwk0, fzJ, rbJ, tkJ, hc2, hc2e, ht2, ht2e, hj2, ho2, hordE, hpo, hbrk, fc, rc, lc, cc1, cc2, nc, ft, rt, lt, ct1, ct2, nt, fj, rj, lj, cj1, cj2, nj, fo, ro, lo, co1, co2, no, fcc, rcc, lcc, ccc1, ccc2, ftt, rtt, ltt, ctt1, ctt2, foo, roo, loo, coo1, coo2, fv, rv, lv, cv1, cv2, nv, fe, re, le, ce1, ce2, ne⟩ := hF
 have hwq := fun H => hwk0 (by omega) H
 have hwn := fun H => workN_eff (i0 := k) hj ⟨wk_of (by omega) hm4 hmn, hk⟩ H
 have hJI := fun p => jobsI_full (p := p) hk
 simp only [hJI, getD_at hk] at hwn
 have hjm := hsh.job _ (List.getElem_mem hk)
 have hr255 := hlat.r _ (List.getElem_mem hk)
 have hm79 := hlat.m _ (List.getElem_mem hk)
 have hrk : ∀ r : List Za, ((js.map Yf).set k r)[k]? = some r := fun r => List.getElem?_set_self (by simpa using hk)
 have hrk2 : ∀ (r : List Za) h, ((js.map Yf).set k r)[k]'h = r := fun r h => List.getElem_set_self h
 have hrl : ∀ r : List Za, ((js.map Yf).set k r).length = js.length := fun r => by simp
 have hss : ∀ r r2 : List Za, ((js.map Yf).set k r).set k r2 = (js.map Yf).set k r2 := fun r r2 => by rw [List.set_set]
 have hkn : (k : Int) < (js.length : Int) := by omega
 have hkle : ¬ (js.length : Int) ≤ (k : Int) := by omega
 have hk0 : (0 : Int) ≤ (k : Int) := by omega
 have htn : ((k : Int)).toNat = k := rfl
 have hw2 : W .i64 v2 = v2 := ZX (by omega)
 have hw3 : W .i64 v3 = v3 := ZX (by omega)
 have hwr : W .i64 (js[k].ready + v2) = js[k].ready + v2 := ZX (by omega)
 have htk : ∀ r : List Za, ((js.map Yf).set k r).take js.length = (js.map Yf).set k r := fun r => List.take_of_length_le (by simp)
 have hfz := fun (H : Zf) (p : Nat) (ms : List Int) (hH : H[p]? = some (some (Blk.row 1 (ms.map rI)))) (m : Nat) (hm : m = ms.length) a b c d => rowsL_frz (js := js) (k := k) hH hm a b c d
 have hwv := dInts_encE js[k].mins
 have hjd : Zd dJob (js.map Yf) = some js := optAll_map (d := dJob) (enc := Yf) dJob_rowJ js
 generalize hRJ : js.map Yf = RJ at *
 generalize hML : js[k].mins = ML at *
 unfold c10
 simp only [sufx, oo, om, op, og, ci, cl]
 have HH1 := zA (Zk h41) (zA (Zk h42) (zA (Zk h18) (zA (Zk h19) (zA (Zk h15) (zA (Zk h44) (zA (Zk h46) (zA (Zk h35) (zA (Zk h38) (callF_eff' h43 rfl)))))))))
 have HH2 := zA h41 (zA h42 (zA h18 (zA h19 (zA h15 (zA h44 (zA h46 (zA h35 (zA h38 (zA g16 (zA g17 (zA h43 (zA hcopy (zA hints (zA hwq (zA fc (zA rc (zA lc (zA cc1 (zA cc2 (zA ft (zA rt (zA lt (zA ct1 (zA ct2 (zA fj (zA rj (zA lj (zA cj1 (zA cj2 (zA fo (zA ro (zA lo (zA co1 (zA co2 (zA fcc (zA rcc (zA lcc (zA ccc1 (zA ccc2 (zA ftt (zA rtt (zA ltt (zA ctt1 (zA ctt2 (zA foo (zA roo (zA loo (zA coo1 (zA coo2 (zA fv (zA rv (zA lv (zA cv1 (zA cv2 (zA fe (zA re (zA ce1 (zA ce2 (zA hwn (zA hrk (zA hrk2 (zA hrl (zA hss (zA hkn (zA hkle (zA hk0 (zA htn (zA hw2 (zA hw3 (zA hwr htk))))))))))))))))))))))))))))))))))))))))))))))))))))))))))))))))))))))
 have HH3 := zA fzJ (zA rbJ (zA tkJ (zA nc (zA nt (zA nj (zA no (zA nv ne)))))))
 refine Zl ?_
 refine Zt mixed hTb (zR (zO (by simp [HH1, Zb g16 rfl, ↓Ze, Zb g17 rfl, Zi, Yb, Xk, -Zc, le, HH2, ↓HH3]; rfl) ?_))
 simp only [zT, zB]
 refine Zl ?_
 refine Zl ?_
 refine Zt mixed hTb (zR (zO (by simp [HH1, Zb g16 rfl, ↓Ze, Zb g17 rfl, Zi, Yb, Xk, -Zc, le, HH2, ↓HH3]; rfl) ?_))
 simp only [zT, zB]
 rcases hb : (v1.tmod 2 == 0) with _ | _
 ·have hq0 := Int.tmod_nonneg s.mach hv20
  have hq1 := Int.tmod_lt_of_pos v2 (show 0 < s.mach by have := hsh.mach; omega)
  have hmz : (s.mach == 0) = false := by simp; have := hsh.mach; omega
  have hmz2 : ¬ s.mach = 0 := by have := hsh.mach; omega
  obtain ⟨qn, hqn⟩ : ∃ qn : Nat, v2.tmod s.mach = (qn : Int) := ⟨(v2.tmod s.mach).toNat, by omega⟩
  have hml0 := hjm.2.2.2.1
  have hmach := hsh.mach
  have hqM : qn < ML.length := by omega
  have hqi : (qn : Int) < (ML.length : Int) := by omega
  have hqz : (0 : Int) ≤ (qn : Int) := by omega
  have hqt : ((qn : Int)).toNat = qn := rfl
  have hqg : (ML.map rI)[qn]? = some [I ML[qn]] := by rw [List.getElem?_map, List.getElem?_eq_getElem hqM]; rfl
  have hqg2 : ∀ h, (ML.map rI)[qn]'h = [I ML[qn]] := fun h => by rw [List.getElem_map]; rfl
  have hwq : W .i64 (qn : Int) = (qn : Int) := ZX (by omega)
  have hna : nAt ML qn = ML[qn] := getD_at hqM
  have hmq := hm79 ML[qn] (List.getElem_mem hqM)
  refine XY (x := false) (by simp [hb]) ?_
  have HH4 := zA hb (zA hmz (zA hmz2 (zA hqn (zA hqM (zA hqi (zA hqz (zA hqt (zA hqg (zA hqg2 hwq)))))))))
  refine Zl ?_
  refine Zt mixed hTb (zR (zO (by simp [HH1, Zb g16 rfl, ↓Ze, Zb g17 rfl, Zi, Yb, Xk, -Zc, le, HH2, ↓HH3, zI, HH4]; rfl) ?_))
  simp only [zT, zB]
  refine Zl ?_
  refine Zt mixed hTb (zR (zO (by simp [HH1, Zb g16 rfl, ↓Ze, Zb g17 rfl, Zi, Yb, Xk, -Zc, le, HH2, ↓HH3, zI, HH4]; rfl) ?_))
  simp only [zT, zB]
  by_cases hp : 0 < ML[qn]
  ·have hwm : W .i64 (ML[qn] + v3) = ML[qn] + v3 := ZX (by omega)
   obtain ⟨M2, hM2⟩ : ∃ M2, M2 = ML.set qn (ML[qn] + v3) := ⟨_, rfl⟩
   have hms : (ML.map rI).set qn [I (ML[qn] + v3)] = M2.map rI := by rw [hM2, List.map_set]; rfl
   have hmsl : ML.length = M2.length := by rw [hM2]; simp
   refine XY (x := true) (by simp [hp]) ?_
   refine Zt mixed hTb (Ye (by simp (maxSteps := 3000000) [HH1, Zb g16 rfl, ↓Ze, Zb g17 rfl, Zi, Yb, Xk, -Zc, le, HH2, ↓HH3, zI, HH4, hwm, hp, hms]; rfl) ?_)
   simp only [zT, zB]
   have hfz1 := fun H p hH a b c d => hfz H p M2 hH ML.length hmsl a b c d
   refine cruns_ren (ren_kk 11240 [0, 1, 90, 91] (by decide) (by simp) rfl (by simp [zr, renE, XB, Yw, HH1, Zb g16 rfl, ↓Ze, Zb g17 rfl, Zi, Yb, Xk, -Zc, le, HH2, ↓HH3, zI, HH4, hwm, hp, hms, hfz1] <;> rfl) (by simp [zr, renE, XB, Yw, HH1, Zb g16 rfl, ↓Ze, Zb g17 rfl, Zi, Yb, Xk, -Zc, le, HH2, ↓HH3, zI, HH4, hwm, hp, hms, hfz1] <;> rfl)) ?_
   have hok := longer_ok hlat hk (q := qn) (by rw [hML, hna]; exact hp) (d := v3) (by omega)
   have hml : (minsF js k qn v3).length = js.length := minsF_len js k qn v3
   have hjv : Xj (.vl (RJ.set k [I js[k].kind, I js[k].ready, I js[k].due, .vl (M2.map rI) false]) false) = some (minsF js k qn v3) := by
    have e : minsF js k qn v3 = js.set k ⟨js[k].kind, js[k].ready, js[k].due, M2⟩ := by unfold minsF; rw [jobAt_get hk, hML, hna, hM2]
    rw [e]
    exact optAll_setJ (by show dJob [I js[k].kind, I js[k].ready, I js[k].due, .vl (M2.map rI) false] = _; simp [dJob, show Yd (.vl (M2.map rI) false) = some M2 from dI1_self M2]) k hjd
   exact l10_9 T hTb k h41 h42 h18 h19 h15 h44 h46 h35 h38 g16 g17 h43 s js os c t j o hx hk sv ev hsv hev0 v0 v1 v2 v3 v4 v5 ⟨⟨hv00, hv01⟩, ⟨hv10, hv11⟩, ⟨hv20, hv21⟩, ⟨hv30, hv31⟩, ⟨hv40, hv41⟩, ⟨hv50, hv51⟩⟩ (.vl (RJ.set k [I js[k].kind, I js[k].ready, I js[k].due, .vl (M2.map rI) false]) false) (minsF js k qn v3) hjv hml hok.1 hok.2.1 hok.2.2
  ·refine XY (x := false) (by simp [hp]) ?_
   refine cruns_skip ?_
   simp only [zT, zB]
   have hfz1 := fun H p hH a b c d => hfz H p ML hH ML.length rfl a b c d
   refine cruns_ren (ren_kk 11240 [0, 1, 90, 91] (by decide) (by simp) rfl (by simp [zr, renE, XB, Yw, HH1, Zb g16 rfl, ↓Ze, Zb g17 rfl, Zi, Yb, Xk, -Zc, le, HH2, ↓HH3, zI, HH4, hp, hfz1] <;> rfl) (by simp [zr, renE, XB, Yw, HH1, Zb g16 rfl, ↓Ze, Zb g17 rfl, Zi, Yb, Xk, -Zc, le, HH2, ↓HH3, zI, HH4, hp, hfz1] <;> rfl)) ?_
   have hok : RunCtx s js os ∧ shopE s js = 0 ∧ ∀ i, JLe (js.getD i default) (js.getD i default) := ⟨hctx, he0, fun i => JLe.refl _⟩
   have hml : js.length = js.length := rfl
   have hjv : Xj (.vl (RJ.set k [I js[k].kind, I js[k].ready, I js[k].due, .vl (ML.map rI) false]) false) = some js := by
    have e : js = js.set k ⟨js[k].kind, js[k].ready, js[k].due, ML⟩ := by rw [← hML]; exact (List.set_getElem_self hk).symm
    have := optAll_setJ (f := dJob) (a := [I js[k].kind, I js[k].ready, I js[k].due, .vl (ML.map rI) false]) (b := ⟨js[k].kind, js[k].ready, js[k].due, ML⟩) (by simp [dJob, show Yd (.vl (ML.map rI) false) = some ML from dI1_self ML]) k hjd
    rw [← e] at this
    exact this
   exact l10_9 T hTb k h41 h42 h18 h19 h15 h44 h46 h35 h38 g16 g17 h43 s js os c t j o hx hk sv ev hsv hev0 v0 v1 v2 v3 v4 v5 ⟨⟨hv00, hv01⟩, ⟨hv10, hv11⟩, ⟨hv20, hv21⟩, ⟨hv30, hv31⟩, ⟨hv40, hv41⟩, ⟨hv50, hv51⟩⟩ (.vl (RJ.set k [I js[k].kind, I js[k].ready, I js[k].due, .vl (ML.map rI) false]) false) (js) hjv hml hok.1 hok.2.1 hok.2.2
 ·refine XY (x := true) (by simp [hb]) ?_
  refine Zt mixed hTb (Ye (by simp (maxSteps := 3000000) [HH1, Zb g16 rfl, ↓Ze, Zb g17 rfl, Zi, Yb, Xk, -Zc, le, HH2, ↓HH3, hb]; rfl) ?_)
  simp only [zT, zB]
  have hfz1 := fun H p hH a b c d => hfz H p ML hH ML.length rfl a b c d
  refine cruns_ren (ren_kk 11240 [0, 1, 90, 91] (by decide) (by simp) rfl (by simp [zr, renE, XB, Yw, HH1, Zb g16 rfl, ↓Ze, Zb g17 rfl, Zi, Yb, Xk, -Zc, le, HH2, ↓HH3, hb, hfz1] <;> rfl) (by simp [zr, renE, XB, Yw, HH1, Zb g16 rfl, ↓Ze, Zb g17 rfl, Zi, Yb, Xk, -Zc, le, HH2, ↓HH3, hb, hfz1] <;> rfl)) ?_
  have hok := later_ok hlat hk (d := v2) (by omega)
  have hml : (ZP js k v2).length = js.length := laterF_len js k v2
  have hjv : Xj (.vl (RJ.set k [I js[k].kind, I (js[k].ready + v2), I js[k].due, .vl (ML.map rI) false]) false) = some (ZP js k v2) := later_rows hjd hk (by rw [hML]; exact dI1_self ML) v2
  exact l10_9 T hTb k h41 h42 h18 h19 h15 h44 h46 h35 h38 g16 g17 h43 s js os c t j o hx hk sv ev hsv hev0 v0 v1 v2 v3 v4 v5 ⟨⟨hv00, hv01⟩, ⟨hv10, hv11⟩, ⟨hv20, hv21⟩, ⟨hv30, hv31⟩, ⟨hv40, hv41⟩, ⟨hv50, hv51⟩⟩ (.vl (RJ.set k [I js[k].kind, I (js[k].ready + v2), I js[k].due, .vl (ML.map rI) false]) false) (ZP js k v2) hjv hml hok.1 hok.2.1 hok.2.2
set_option maxHeartbeats 8000000 in
theorem l10_0 (T : Nat → Option CFn) (hTb : Zr Tryz.prog GG T) (k : Nat) (h41 : T 41 = some { c41 with frsh := false, orc := oMade }) (h42 : T 42 = some { c42 with frsh := true, orc := oOrder }) (h18 : T 18 = some { c18 with frsh := true, orc := oInts }) (h19 : T 19 = some { c19 with frsh := true, orc := oLateT }) (h15 : T 15 = some { c15 with frsh := true, orc := oKn }) (h44 : T 44 = some { c44 with body := annK [(782, [.slot 8])] [] c44.body, frsh := true, orc := oTimed }) (h46 : T 46 = some { c46 with frsh := true, orc := oEarl }) (h35 : T 35 = some { c35 with frsh := true, orc := oBreak }) (h38 : T 38 = some { c38 with frsh := true, orc := oSlack }) (g16 : T 16 = some { c16 with frsh := false, orc := fun _ => none, eff := Xk 6 }) (g17 : T 17 = some { c17 with frsh := false, orc := fun _ => none, eff := Yb k 2 }) (h43 : T 43 = some { c43 with frsh := false, orc := fun _ => none, eff := dropE oStarts }) (W_ : FWorks) (x y : Za) (hx : Yi x = some (W_.xs.map rU)) (hy : Yi y = some (W_.ys.map rU)) (hw : WkOk W_) (v0 v1 v2 v3 v4 v5 : Int) (hv : isU v0 ∧ isU v1 ∧ isU v2 ∧ isU v3 ∧ isU v4 ∧ isU v5) (hkk : 0 < (wJobs W_).length → v0.tmod ((wJobs W_).length : Int) = (k : Int)) : CRuns Tryz.prog GG 0 none (sufx 0 c10.body) ⟨[.agg (wkC W_ x y), .agg [.int .u8 v0, .int .u8 v1, .int .u8 v2, .int .u8 v3, .int .u8 v4, .int .u8 v5]] ++ List.replicate 380 .und, []⟩ Q10 := by
 obtain ⟨⟨hv00, hv01⟩, ⟨hv10, hv11⟩, ⟨hv20, hv21⟩, ⟨hv30, hv31⟩, ⟨hv40, hv41⟩, ⟨hv50, hv51⟩⟩ := hv
 have hmade := made_eq hx hy hw
 have hord := order_eq hx hy hw (n := (wJobs W_).length) (by have := made_len (w := W_); omega)
 have hlat := made_lat hw
 have he0 := made_e0 hw
 obtain ⟨clen, cst, crb, cfz⟩ := wk_cells hx hy hw
 have ccl : cellsOf (.agg (wkC W_ x y)) = some (wkC W_ x y) := rfl
 have hct : (wkC W_ x y).take 26 = wkC W_ x y := List.take_of_length_le (by omega)
 generalize hcells : wkC W_ x y = cells at *
 clear hx hy
 have hc := dInts2_encC (wC W_ (wK W_).toNat)
 have ht := dStops_encN (wT W_ (min W_.xs.length 6))
 have hj : Xj (encJ (wJ W_ (min W_.ys.length 5))) = some (wJobs W_) := dJobs_encJ _
 have ho := dInts_encE (ordW W_.o (wJobs W_).length)
 change ZI _ = some (wShop W_).chg at hc
 change Yg _ = some (wShop W_).stops at ht
 change oMade _ = some (.tup [.agg [I (wShop W_).mach, _, _], _]) at hmade
 have hlx : LCtx (wShop W_) (wJobs W_) (ordW W_.o (wJobs W_).length) (encC (wC W_ (wK W_).toNat)) (encN (wT W_ (min W_.xs.length 6))) (encJ (wJ W_ (min W_.ys.length 5))) (encE (ordW W_.o (wJobs W_).length)) := ⟨hlat, hc, ht, hj, ho, he0⟩
 clear hlat
 generalize ordW W_.o (wJobs W_).length = os at *
 generalize wShop W_ = s at *
 generalize wJobs W_ = js at *
 generalize encC (wC W_ (wK W_).toNat) = c at *
 generalize encN (wT W_ (min W_.xs.length 6)) = t at *
 generalize encJ (wJ W_ (min W_.ys.length 5)) = j at *
 generalize encE os = o at *
 clear hcells hc ht hj ho he0
 have hx := hlx
 have hctx0 := hx.lat.ctx
 have hsv := dInts2_vl (stsF s js os) true
 have hev0 := dInts_encE (endF s js os)
 have hbs0 : (Za.vl ((stsF s js os).map encS) true) = (Za.vl ((stsF s js os).map encS) true) := rfl
 generalize hSV : (Za.vl ((stsF s js os).map encS) true) = sv at hsv
 generalize hEV : encE (endF s js os) = ev at hev0
 obtain ⟨c2, t2, o2, hF⟩ := lf_of hx hsv hev0
 obtain ⟨hlat, hctx, hc, ht, hj, ho, he0, hsh, hz, hos, hn6, h1k, hm4, hmn, hoo, hcopy, hints, hwk0, fzJ, rbJ, tkJ, hc2, hc2e, ht2, ht2e, hj2, ho2, hordE, hpo, hbrk, fc, rc, lc, cc1, cc2, nc, ft, rt, lt, ct1, ct2, nt, fj, rj, lj, cj1, cj2, nj, fo, ro, lo, co1, co2, no, fcc, rcc, lcc, ccc1, ccc2, ftt, rtt, ltt, ctt1, ctt2, foo, roo, loo, coo1, coo2, fv, rv, lv, cv1, cv2, nv, fe, re, le, ce1, ce2, ne⟩ := hF
 have hstq := starts_eq hc2 ht2 hj2 ho2 hz (by omega : os.length ≤ 100)
 rw [hordE, show startsV s js os = sv by unfold startsV; rw [if_pos hordE]; exact hSV] at hstq
 have hS := sts_ok hctx
 have hends := ends_eq hctx
 have htim := timed_eq hc ht hj hsv hsh hS
 rw [hends, hEV] at htim
 have hw0 : W .i64 v0 = v0 := ZX (by omega)
 unfold c10
 simp only [sufx, oo, om, op, og, ci, cl]
 have HH1 := zA (Zk h41) (zA (Zk h42) (zA (Zk h18) (zA (Zk h19) (zA (Zk h15) (zA (Zk h44) (zA (Zk h46) (zA (Zk h35) (zA (Zk h38) (callF_eff' h43 rfl)))))))))
 have HH2 := zA h41 (zA h42 (zA h18 (zA h19 (zA h15 (zA h44 (zA h46 (zA h35 (zA h38 (zA g16 (zA g17 (zA h43 (zA hcopy (zA hints (zA fc (zA rc (zA lc (zA cc1 (zA cc2 (zA ft (zA rt (zA lt (zA ct1 (zA ct2 (zA fj (zA rj (zA lj (zA cj1 (zA cj2 (zA fo (zA ro (zA lo (zA co1 (zA co2 (zA fcc (zA rcc (zA lcc (zA ccc1 (zA ccc2 (zA ftt (zA rtt (zA ltt (zA ctt1 (zA ctt2 (zA foo (zA roo (zA loo (zA coo1 (zA coo2 (zA fv (zA rv (zA lv (zA cv1 (zA cv2 (zA fe (zA re (zA ce1 (zA ce2 (zA hpo (zA hct (zA ccl (zA clen (zA hmade (zA hord (zA hstq (zA htim hw0)))))))))))))))))))))))))))))))))))))))))))))))))))))))))))))))))
 have HH3 := zA fzJ (zA rbJ (zA tkJ (zA nc (zA nt (zA nj (zA no (zA nv (zA ne (zA crb (zA cst cfz))))))))))
 refine Zl ?_
 refine Zt mixed hTb (zR (zO (by simp [HH1, Zb g16 rfl, ↓Ze, Zb g17 rfl, Zi, Yb, Xk, -Zc, le, HH2, ↓HH3]; rfl) ?_))
 simp only [zT, zB]
 refine Zl ?_
 refine Zt mixed hTb (zR (zO (by simp [HH1, Zb g16 rfl, ↓Ze, Zb g17 rfl, Zi, Yb, Xk, -Zc, le, HH2, ↓HH3]; rfl) ?_))
 simp only [zT, zB]
 refine Zl ?_
 refine Zl ?_
 refine Zt mixed hTb (zR (zO (by simp [HH1, Zb g16 rfl, ↓Ze, Zb g17 rfl, Zi, Yb, Xk, -Zc, le, HH2, ↓HH3]; rfl) ?_))
 simp only [zT, zB]
 by_cases hn0 : js.length = 0
 ·have hn1 : js.length = 0 := hn0
  refine XY (x := true) (by simp [hn1]) ?_
  refine Zl ?_
  refine Zt mixed hTb (zR (zO (by simp [HH1, Zb g16 rfl, ↓Ze, Zb g17 rfl, Zi, Yb, Xk, -Zc, le, HH2, ↓HH3, hn1]; rfl) ?_))
  simp only [zT, zB]
  refine cruns_ret ?_
  refine ⟨by simp, _, by simp <;> rfl, ?_⟩
  simp
 ·have hnb : ((js.length : Int) == 0) = false := by rw [beq_eq_false_iff_ne]; omega
  have hne : ¬ js = [] := fun e => hn0 (by rw [e]; rfl)
  have hnz : ¬ (js.length : Int) = 0 := by omega
  have hq0 := Int.tmod_nonneg (js.length : Int) hv00
  have hq1 := Int.tmod_lt_of_pos v0 (show (0 : Int) < (js.length : Int) by omega)
  have hkq : v0.tmod (js.length : Int) = (k : Int) := hkk (by omega)
  have hwk : W .i64 (k : Int) = (k : Int) := ZX (by omega)
  have hk : k < js.length := by omega
  have hwq := fun H => hwk0 (by omega) H
  refine XY (x := false) (by simp [hnb]) ?_
  have HH4 := zA hnb (zA hnz (zA hne (zA hkq (zA hwk hwq))))
  refine cruns_skip ?_
  simp only [zT, zB]
  refine Zl ?_
  refine Zt mixed hTb (Ye (by simp (maxSteps := 3000000) [HH1, Zb g16 rfl, ↓Ze, Zb g17 rfl, Zi, Yb, Xk, -Zc, le, HH2, ↓HH3, HH4]; rfl) ?_)
  simp only [zT, zB]
  refine Zl ?_
  refine Zt mixed hTb (zR (zO (by simp [HH1, Zb g16 rfl, ↓Ze, Zb g17 rfl, Zi, Yb, Xk, -Zc, le, HH2, ↓HH3, HH4]; rfl) ?_))
  simp only [zT, zB]
  refine Zl ?_
  refine Zt mixed hTb (zR (zO (by simp [HH1, Zb g16 rfl, ↓Ze, Zb g17 rfl, Zi, Yb, Xk, -Zc, le, HH2, ↓HH3, HH4]; rfl) ?_))
  simp only [zT, zB]
  refine Zl ?_
  refine Zl ?_
  refine Zt mixed hTb (zR (zO (by simp [HH1, Zb g16 rfl, ↓Ze, Zb g17 rfl, Zi, Yb, Xk, -Zc, le, HH2, ↓HH3, HH4]; rfl) ?_))
  simp only [zT, zB]
  refine XY (x := false) (by simp) ?_
  refine cruns_skip ?_
  simp only [zT, zB]
  refine cruns_ren (ren_kk 3048 [1, 2] (by decide) (by simp) rfl (by simp [zr, renE, XB, Yw, HH1, Zb g16 rfl, ↓Ze, Zb g17 rfl, Zi, Yb, Xk, -Zc, le, HH2, ↓HH3, HH4] <;> rfl) (by simp [zr, renE, XB, Yw, HH1, Zb g16 rfl, ↓Ze, Zb g17 rfl, Zi, Yb, Xk, -Zc, le, HH2, ↓HH3, HH4] <;> rfl)) ?_
  exact l10_7 T hTb k h41 h42 h18 h19 h15 h44 h46 h35 h38 g16 g17 h43 s js os c t j o hlx hk sv ev hsv hev0 v0 v1 v2 v3 v4 v5 ⟨⟨hv00, hv01⟩, ⟨hv10, hv11⟩, ⟨hv20, hv21⟩, ⟨hv30, hv31⟩, ⟨hv40, hv41⟩, ⟨hv50, hv51⟩⟩
theorem law10 (W_ : FWorks) (x y : Za) (hx : Yi x = some (W_.xs.map rU)) (hy : Yi y = some (W_.ys.map rU)) (hw : WkOk W_) (v0 v1 v2 v3 v4 v5 : Int) (hv : isU v0 ∧ isU v1 ∧ isU v2 ∧ isU v3 ∧ isU v4 ∧ isU v5) : CAns Tryz.prog GG 10 [.agg (wkC W_ x y), .agg [.int .u8 v0, .int .u8 v1, .int .u8 v2, .int .u8 v3, .int .u8 v4, .int .u8 v5]] [] fun v _ => v = .bool true := by
  obtain ⟨k, hk⟩ : ∃ k : Nat, 0 < (wJobs W_).length → v0.tmod ((wJobs W_).length : Int) = (k : Int) := ⟨(v0.tmod ((wJobs W_).length : Int)).toNat, fun h => (Int.toNat_of_nonneg (Int.tmod_nonneg _ hv.1.1)).symm⟩
  refine cans_of (f := 10) (cf := c10) (LM_ok k) rfl ?_
  exact l10_0 (LM k) (LM_ok k) k rfl rfl rfl rfl rfl rfl rfl rfl rfl rfl rfl rfl W_ x y hx hy hw v0 v1 v2 v3 v4 v5 hv hk
end
end
end Go.Proofs.YtjjapdagllclkaaGreat.Tab
namespace Go.Abs
open Go Go.Proofs Go.RowKit
section
variable {P : Program} {G : Nat → Option (List Za)}
theorem law_callsC {f : Nat} {xs : List Za} {cargs : Array Value} {W : World}
    (hglob : ∀ g r, G g = some r → Abs.VR ρ0 (fun b => b < W.heap.size) W (fun _ => False) (.pv r 0) (.pointer (some ⟨g, 0, none⟩)))
    (hargs : RowR ρ0 W xs cargs.toList) (ha : CAns P G f xs [] fun v _ => v = .bool true) : Calls P f cargs W fun e W' => e = .returned (.bool true) ∧ Below W.heap.size W W' := by
  have hr : Env.HR P G ⟨ρ0, fun _ => False, fun _ => False, fun b => b < W.heap.size⟩ [] W :=
    ⟨fun i b hi => by simp at hi, fun i j b c hi => by simp at hi, fun i hi => hi.elim, fun b hb => hb.elim, fun b hb => ⟨hb, fun h => h⟩, hglob⟩
  have hl : Env.LR ⟨ρ0, fun _ => False, fun _ => False, fun b => b < W.heap.size⟩ W xs cargs :=
    ⟨by simpa using hargs.1, fun j h1 h2 => hargs.2 j _ _ (List.getElem?_eq_getElem h1) (by simp [h2])⟩
  refine (CallsIn.calls (ha _ W cargs 0 hr hl) fun k d hd => by simp at hd).mono ?_
  rintro e W' ⟨v, h', rfl, u, E', rfl, hle, _, hu, _, _⟩
  refine ⟨?_, hle.os, hle.tape, hle.output, hle.size, fun b hb => (hle.old b hb fun h => h).1⟩
  have := VR.bool_inv hu
  rw [this]
end
end Go.Abs
namespace Go.Proofs.YtjjapdagllclkaaGreat
open Go Go.Abs Go.Proofs
theorem fits_six {xs : List Za} (h : FitsR [.int .u8, .int .u8, .int .u8, .int .u8, .int .u8, .int .u8] xs) : ∃ v0 v1 v2 v3 v4 v5 : Int, xs = [.int .u8 v0, .int .u8 v1, .int .u8 v2, .int .u8 v3, .int .u8 v4, .int .u8 v5] ∧ (Tab.isU v0 ∧ Tab.isU v1 ∧ Tab.isU v2 ∧ Tab.isU v3 ∧ Tab.isU v4 ∧ Tab.isU v5) := by
  obtain ⟨v0, ys, rfl, h0, h⟩ := fits_u h
  obtain ⟨v1, ys, rfl, h1, h⟩ := fits_u h
  obtain ⟨v2, ys, rfl, h2, h⟩ := fits_u h
  obtain ⟨v3, ys, rfl, h3, h⟩ := fits_u h
  obtain ⟨v4, ys, rfl, h4, h⟩ := fits_u h
  obtain ⟨v5, ys, rfl, h5, h⟩ := fits_u h
  obtain rfl := fitsR_nil h
  exact ⟨v0, v1, v2, v3, v4, v5, rfl, h0, h1, h2, h3, h4, h5⟩
end Go.Proofs.YtjjapdagllclkaaGreat
