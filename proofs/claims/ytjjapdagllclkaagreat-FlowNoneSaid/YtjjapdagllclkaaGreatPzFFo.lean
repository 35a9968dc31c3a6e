/- Contracts of flow: FlowNone, the law. No condition. -/
import Derived.Test.YtjjapdagllclkaaGreatPzEFo
set_option linter.unusedSimpArgs false
set_option linter.unusedVariables false
namespace Go.Proofs.YtjjapdagllclkaaGreat.Tab
open Go Go.Abs Go.Proofs
set_option maxRecDepth 100000
set_option maxHeartbeats 4000000
set_option linter.unusedSimpArgs false
set_option linter.unusedVariables false
section
attribute [local simp] frz_int frz_bool frz_vl frz_pv frz_agg frz_tup frz_fn frz_ref frz_sl frz_nils optAll orcF rb_int rb_bool rb_agg rb_tup rb_int' rb_bool' rb_vl rb_pv rb_yld rb_nilf rb_nilp rb_nils rb_any rb_und rb_ref rb_sl rb_fn slE chunk fillA evParts evParts3 putAt List.range_succ List.range_zero List.range'_succ List.range'_zero runX_nil' unary_not evalS_pure evAll_nil evAll_cons runX_cons stepX wantedA dop CV.ev putK_eq setK_eq appK_eq fA_eq fI_eq fN_eq fRow_eq fRows_eq nth_eq Out.v putT List.replicate_succ zT zB arI pointee Abs.rowAt ldRow allV toV toC ofV ofC Builtin.min_ Builtin.min2 Builtin.max_ Builtin.max2 min_if max_if resA tupA kill trim_self trim_len trim_emp trim_nil lenA
attribute [local simp] runD_nil' runD_cons' stepD actK_eq actD clash disj masks holes maskH unmaskH diffs news eqB allB eqA ldRowN wrote toCs ofCs stA rowsV_vl rowsV_nils rowsOf dI1 dI2 dI3 dI5 elt
attribute [local simp] st_any st_und st_agg st_tup st_bool st_int st_nilp st_ref st_pv st_nils st_sl st_vl st_nilm st_mp st_fn st_nilf st_yld co_any co_und co_agg co_tup co_bool co_int co_nilp co_ref co_pv co_nils co_sl co_vl co_nilm co_mp co_fn co_nilf co_yld
section
attribute [local simp] Function.comp_def List.all_append List.all_map above callA calleeA frNB_none frNB_row frN_agg frN_bool frN_int frN_nils frN_ref frN_sl frN_tup frN_vl frzG gather getR lim lop loud lowA lowR norm okG putG putR rbB_none rbB_row resG rowAt takeG
def bitB (st : Int) (k : Nat) : Bool := decide ((st / 2 ^ k) % 2 = 1)
def numL (st : Int) : Nat → List Int
  | 0 => []
  | k + 1 => numL st k ++ if bitB st k = true then [(k : Int)] else []
theorem numL_len (st : Int) : ∀ k, (numL st k).length ≤ k
  | 0 => Nat.le_refl _
  | k + 1 => by
    have := numL_len st k
    rw [numL, List.length_append]
    split <;> simp <;> omega
def inSet {α : Type} (st : Int) : Nat → List α → List α
  | _, [] => []
  | k, x :: l => if bitB st k = true then x :: inSet st (k + 1) l else inSet st (k + 1) l
theorem inSet_app {α : Type} (st : Int) (y : α) : ∀ (l : List α) (k : Nat), inSet st k (l ++ [y]) = inSet st k l ++ if bitB st (k + l.length) = true then [y] else []
  | [], k => by simp [inSet]
  | x :: l, k => by
    have ih := inSet_app st y l (k + 1)
    simp only [List.cons_append, inSet, List.length_cons]
    rw [ih, show k + 1 + l.length = k + (l.length + 1) by omega]
    split <;> rfl
theorem inSet_take {α : Type} (st : Int) {l : List α} {k : Nat} (hk : k < l.length) : inSet st 0 (l.take (k + 1)) = inSet st 0 (l.take k) ++ if bitB st k = true then [l[k]] else [] := by
  rw [List.take_succ_eq_append_getElem hk, inSet_app, List.length_take, show 0 + min k l.length = k by omega]
theorem numL_in {α : Type} (st : Int) {l : List α} : ∀ k, k ≤ l.length → (inSet st 0 (l.take k)).length = (numL st k).length
  | 0, _ => rfl
  | k + 1, hk => by
    rw [inSet_take st (by omega), numL, List.length_append, List.length_append, numL_in st k (by omega)]
    split <;> rfl
theorem optAll_in {α β : Type} {f : α → Option β} (st : Int) : ∀ (l : List α) (l2 : List β) (k : Nat), optAll f l = some l2 → optAll f (inSet st k l) = some (inSet st k l2)
  | [], l2, k, h => by simp only [optAll, Option.some.injEq] at h; subst h; rfl
  | x :: l, l2, k, h => by
    simp only [optAll] at h
    split at h <;> simp at h
    rename_i y ys hy hys
    subst h
    have ih := optAll_in st l ys (k + 1) hys
    simp only [inSet]
    split
    · simp only [optAll, hy, ih]
    · exact ih
theorem inSet_mem {α : Type} {st : Int} {x : α} : ∀ {l : List α} {k : Nat}, x ∈ inSet st k l → x ∈ l
  | [], _, h => by simp [inSet] at h
  | y :: l, k, h => by
    simp only [inSet] at h
    split at h
    · rcases List.mem_cons.1 h with rfl | h
      · simp
      · exact List.mem_cons_of_mem _ (inSet_mem h)
    · exact List.mem_cons_of_mem _ (inSet_mem h)
theorem inSet_len {α : Type} (st : Int) : ∀ (l : List α) (k : Nat), (inSet st k l).length ≤ l.length
  | [], _ => Nat.le_refl _
  | x :: l, k => by
    have := inSet_len st l (k + 1)
    simp only [inSet]
    split <;> simp <;> omega
theorem shop_in {s : FShop} {js : List FJob} (h : ShopOk s js) (st : Int) : ShopOk s (inSet st 0 js) :=
  ⟨h.mach, h.kinds, h.chg, h.nst, h.stop, by have := inSet_len st js 0; have := h.njob; omega, fun j hj => h.job j (inSet_mem hj)⟩
theorem optAll_take {α β : Type} {f : α → Option β} : ∀ {l : List α} {l2 : List β} (_ : optAll f l = some l2) (k : Nat), optAll f (l.take k) = some (l2.take k)
  | [], l2, h, k => by simp only [optAll, Option.some.injEq] at h; subst h; simp
  | x :: l, l2, h, 0 => rfl
  | x :: l, l2, h, k + 1 => by
    simp only [optAll] at h
    split at h <;> simp at h
    rename_i y ys hy hys
    subst h
    simp only [List.take_succ_cons, optAll, hy, optAll_take hys k]
theorem rJ_frN {rs : List (List AVal)} {js : List FJob} (h : optAll dJob rs = some js) (n : Nat) (H : Heap) : ∀ r ∈ rs, optAll (frN n H 5) r = some r := fun r hr => optAll_self _ fun z hz => by
  obtain ⟨x, v, rfl, hv⟩ := jrows_at h r hr
  simp only [List.mem_cons, List.not_mem_nil, or_false] at hz
  rcases hz with rfl | rfl | rfl | rfl
  · rfl
  · rfl
  · rfl
  · exact rowsV_frN (dInts_rows hv) n H 4
theorem rJ_frN2 {rs : List (List AVal)} {js : List FJob} (h : optAll dJob rs = some js) (n : Nat) (H : Heap) : optAll (optAll (frN n H 5)) rs = some rs := optAll_self _ (rJ_frN h n H)
theorem shr_eq {st i : Int} {k : Nat} (hik : i = k) (hk : k ≤ 60) (h0 : 0 ≤ st) : shI .shr .i64 st i = some (I (st / 2 ^ k)) := by
  have hp : (0 : Int) ≤ 2 ^ k := by have := Int.pow_pos (n := 2) (m := k) (by decide); omega
  have hmin : min k IntKind.i64.bits = k := by show min k 64 = k; omega
  unfold shI
  subst hik
  rw [if_neg (by omega)]
  simp only [Int.toNat_natCast, hmin, Int.fdiv_eq_ediv_of_nonneg _ hp]
theorem bit_and {x : Int} (h0 : 0 ≤ x) (h1 : x ≤ 1000000) : W .i64 (((x % 2 ^ IntKind.i64.bits).toNat &&& 1 % 2 ^ IntKind.i64.bits : Nat) : Int) = x % 2 := by
  have e1 : (x % 2 ^ IntKind.i64.bits).toNat = x.toNat := by show (x % 18446744073709551616).toNat = _; omega
  have e2 : 1 % 2 ^ IntKind.i64.bits = 1 := by decide
  rw [e1, e2, Nat.and_one_is_mod, W_small (by omega)]
  omega
def encR (rs : List (List AVal)) : AVal := match rs with | [] => .nils | x :: l => .vl (x :: l) false
theorem encR_ne {rs : List (List AVal)} (h : rs ≠ []) : encR rs = .vl rs false := by cases rs with | nil => exact absurd rfl h | cons x l => rfl
theorem dJobs_encR {rs : List (List AVal)} {js : List FJob} (h : optAll dJob rs = some js) : dJobs (encR rs) = some js := by
  cases rs with
  | nil => exact h
  | cons x l => exact h
open Classical in
noncomputable def oAmong : List AVal → Option AVal
  | [.agg [.int .i64 m, c, t, .vl rs _], .int .i64 st] => match dInts2 c, dStops t, optAll dJob rs with
    | some _, some _, some js => if js.length ≤ 6 ∧ (0 ≤ st ∧ st ≤ 1000) then some (.tup [.agg [I m, c, t, encR (inSet st 0 rs)], encV (numL st js.length)]) else none
    | _, _, _ => none
  | _ => none
theorem a74 (P : Program) (T : Nat → Option CFn) (hT : T 74 = some { c74 with body := annK [(28722, [.cell 4 3, .slot 5])] [] c74.body }) (m : Int) (c t : AVal) (cs : List (List Int)) (ts : List FStop) (hc : dInts2 c = some cs) (ht : dStops t = some ts) (rs : List (List AVal)) (tt : Bool) (js : List FJob) (hrs : optAll dJob rs = some js) (hl : js.length ≤ 6) (st : Int) (hst : 0 ≤ st ∧ st ≤ 1000) : Answers P T 74 [.agg [I m, c, t, .vl rs tt], I st] [] fun v h => frz false h 5 v = some (.tup [.agg [I m, c, t, encR (inSet st 0 rs)], encV (numL st js.length)]) := by
 have fc := fun H d => dInts2_frz hc H d
 have ft := fun H d => dStops_frz ht H d
 have rc := fun n d => dInts2_rb hc n d
 have rt := fun n d => dStops_rb ht n d
 have lc := dInts2_len hc
 have lt := dStops_len ht
 obtain ⟨cc1, cc2⟩ := dInts2_cells hc
 obtain ⟨ct1, ct2⟩ := dStops_cells ht
 have hrl0 := (optAll_at hrs).1
 refine answers_of hT (orcF_none rfl) ?_
 simp only [oo, om, op, og, ci, cl, c74, annK, lkG, lkR, reduceIte, Nat.reduceEqDiff, reduceCtorEq, List.cons.injEq, and_true, and_false, false_and, true_and]
 have HH1 := zA fc (zA ft (zA rc (zA rt (zA lc (zA lt (zA cc1 (zA cc2 (zA ct1 ct2))))))))
 refine zS ?_
 refine zR (zO (by simp [-lenA, HH1]; rfl) ?_)
 simp only [zT, zB]
 refine zS ?_
 refine zR (zO (by simp [-lenA, HH1]; rfl) ?_)
 simp only [zT, zB]
 refine zS ?_
 refine zS ?_
 refine zR (zO (by simp [-lenA, HH1]; rfl) ?_)
 simp only [zT, zB]
 refine zL ?_
 refine runs_loopG_inv (fun mm σ => ∃ (k : Nat) (i : Int), i = k ∧ rs.length - k = mm ∧ k ≤ rs.length ∧ ((numL st k = [] ∧ σ = ⟨[.any, I st, .any, .any, .ref 1 0 0, .nils, .any, .any, .any, .any, .any, .any, .vl rs tt, I rs.length, I i, .any, .any, .any, .any, .any, .any, .any, .any, .any, .any, .any, .any, .any, .any, .any, .any, .any, .any, .any, .any, .any, .any], [some (.row 4 [[I m, c, t, .vl rs tt]]), some (.row 4 [[I m, c, t, .nils]]), none, none]⟩) ∨ (∃ (p : Nat) (ac : List (List AVal)) (nu : List Int), ac = inSet st 0 (rs.take k) ∧ nu = numL st k ∧ ac.length = p + 1 ∧ nu.length = p + 1 ∧ σ = ⟨[.any, I st, .any, .any, .ref 1 0 0, .sl 3 0 (p + 1) false, .any, .any, .any, .any, .any, .any, .vl rs tt, I rs.length, I i, .any, .any, .any, .any, .any, .any, .any, .any, .any, .any, .any, .any, .any, .any, .any, .any, .any, .any, .any, .any, .any, .any], [some (.row 4 [[I m, c, t, .vl rs tt]]), some (.row 4 [[I m, c, t, .sl 2 0 (p + 1) false]]), some (.row 4 ac), some (.row 1 (nu.map rI))]⟩))) (by simp [-lenA, HH1] <;> first | exact ⟨rfl, rfl⟩ | rfl) (⟨0, 0, rfl, rfl, Nat.zero_le _, .inl ⟨rfl, rfl⟩⟩) ?_
 rintro mm σ ⟨k, i, hik, rfl, hkl, ⟨hnu0, rfl⟩ | ⟨p, ac, nu, hac, hnu, hal, hnl, rfl⟩⟩
 ·refine zS ?_
  refine zR (zO (by simp [-lenA, HH1]; rfl) ?_)
  simp only [zT, zB]
  refine zS ?_
  refine runs_cond_split (x := decide (i < (rs.length : Int))) (by simp) (fun hlt => ?_) (fun hlt => ?_)
  ·have hlt2 := of_decide_eq_true hlt
   have hk0 : k < rs.length := by omega
   have hk6 : k ≤ 6 := by omega
   have hi0 : 0 ≤ i := by omega
   have htn : i.toNat = k := by omega
   have hwi : W .i64 (i + 1) = i + 1 := W_small (by omega)
   obtain ⟨x, wv, hrow, hwv⟩ := jrows_at hrs _ (List.getElem_mem hk0)
   have hr2 : rs[k]? = some [I x.kind, I x.ready, I x.due, wv] := by rw [List.getElem?_eq_getElem hk0, hrow]
   have hr4 : ∀ h, rs[k]'h = [I x.kind, I x.ready, I x.due, wv] := fun h => hrow
   have rw5 := fun n d => dInts_rb hwv n d
   have fw5 := fun H d => dInts_frz hwv H d
   have fn5 := fun n H d => rowsV_frN (dInts_rows hwv) n H d
   obtain ⟨cw1, cw2⟩ := dInts_cells hwv
   have hshr := shr_eq (st := st) hik (by omega) hst.1
   have hpk : (1 : Int) ≤ 2 ^ k := by have := Int.pow_pos (n := 2) (m := k) (by decide); omega
   have hq0 : 0 ≤ st / 2 ^ k := Int.ediv_nonneg hst.1 (by omega)
   have hq1 : st / 2 ^ k ≤ st := Int.ediv_le_self _ hst.1
   have hba := bit_and hq0 (by omega)
   have hnk : numL st (k + 1) = numL st k ++ if bitB st k = true then [(k : Int)] else [] := rfl
   have hak := inSet_take st hk0
   have hbb : (st / 2 ^ k % 2 == 1) = bitB st k := by unfold bitB; rw [Bool.eq_iff_iff]; simp
   rw [← hik] at hnk
   generalize bitB st k = bt at *
   have HH2 := zA hi0 (zA htn (zA hk0 (zA hwi (zA hr2 (zA hr4 (zA rw5 (zA fw5 (zA fn5 (zA cw1 (zA cw2 (zA hshr (zA hba hbb))))))))))))
   refine zK ?_
   simp only [zT, zB]
   refine zS ?_
   refine zL ?_
   refine zS ?_
   refine zR (zO (by simp [-lenA, HH1, zI, HH2]; rfl) ?_)
   simp only [zT, zB]
   refine zS ?_
   refine zR (zO (by simp [-lenA, HH1, zI, HH2]; rfl) ?_)
   simp only [zT, zB]
   rcases bt with _ | _
   ·rw [if_neg (by simp), List.append_nil] at hnk hak
    refine runs_cond (x := false) (by simp) ?_
    refine zK ?_
    simp only [zT, zB]
    refine zR (zO (by simp [-lenA, HH1, zI, HH2]; rfl) ?_)
    simp only [zT, zB]
    exact ⟨rs.length - (k + 1), _, _, by omega, by simp [-lenA, HH1, zI, HH2] <;> first | exact ⟨rfl, rfl⟩ | rfl, k + 1, i + 1, by omega, rfl, by omega, .inl ⟨by rw [hnk, hnu0], rfl⟩⟩
   ·rw [if_pos rfl] at hnk hak
    rw [hnu0, List.nil_append] at hnk
    have hi0n : inSet st 0 (rs.take k) = [] := List.eq_nil_of_length_eq_zero (by rw [numL_in st k hkl, hnu0]; rfl)
    rw [hi0n, List.nil_append, hrow] at hak
    refine runs_cond (x := true) (by simp) ?_
    refine zR (zO (by simp [-lenA, HH1, zI, HH2]; rfl) ?_)
    simp only [zT, zB]
    refine zR (zO (by simp [-lenA, HH1, zI, HH2]; rfl) ?_)
    simp only [zT, zB]
    exact ⟨rs.length - (k + 1), _, _, by omega, by simp [-lenA, HH1, zI, HH2] <;> first | exact ⟨rfl, rfl⟩ | rfl, k + 1, i + 1, by omega, rfl, by omega, .inr ⟨0, _, _, hak.symm, hnk.symm, rfl, rfl, rfl⟩⟩
  ·have hx1 := of_decide_eq_false hlt
   have hkE : k = rs.length := by omega
   have htk : rs.take k = rs := List.take_of_length_le (by omega)
   have hkj : k = js.length := by omega
   have hi0n : inSet st 0 (rs.take k) = [] := List.eq_nil_of_length_eq_zero (by rw [numL_in st k hkl, hnu0]; rfl)
   rw [htk] at hi0n
   rw [hi0n, ← hkj, hnu0]
   refine runs_exit ?_
   simp only [zT, zB, if_true, if_false, reduceIte, Nat.reduceEqDiff, Nat.succ_ne_zero, Nat.one_ne_zero, Nat.zero_ne_one]
   refine zS ?_
   refine zR (zO (by simp [-lenA, HH1]; rfl) ?_)
   simp only [zT, zB]
   refine runs_ret ?_
   simp [-lenA, HH1, trim, encR, encV]
 ·have hle := numL_len st k
  rw [← hnu] at hle
  have tkA : ac.take (p + 1) = ac := List.take_of_length_le (by omega)
  have tkN : (nu.map rI).take (p + 1) = nu.map rI := List.take_of_length_le (by simp [hnl])
  have hlp : p + 1 + 1 ≤ 1048576 := by omega
  have hra := optAll_in st (rs.take k) (js.take k) 0 (optAll_take hrs k)
  rw [← hac] at hra
  have hrl := rJ_len hra
  have hrj := fun n => rJ_rb hra n 4
  have hff := fun n h r => optAll_snoc (rJ_frN hra n h) r
  have hgf := fun n h => rJ_frN2 hra n h
  have hr3 : ∀ e : Int, (rI e).length = 1 := fun _ => rfl
  have hfN := fun n h r => optAll_snoc (frN_rI n h nu) r
  have hgN := fun n h => frN_mapI n h 4 nu
  have hrN := fun n => rI_rb n 4 nu
  have HH3 := zA tkA (zA tkN (zA hrl (zA hrj (zA hff (zA hgf (zA hfN (zA hgN hrN)))))))
  refine zS ?_
  refine zR (zO (by simp [-lenA, HH1, hlp, hal, hnl, hr3, ↓HH3]; rfl) ?_)
  simp only [zT, zB]
  refine zS ?_
  refine runs_cond_split (x := decide (i < (rs.length : Int))) (by simp) (fun hlt => ?_) (fun hlt => ?_)
  ·have hlt2 := of_decide_eq_true hlt
   have hk0 : k < rs.length := by omega
   have hk6 : k ≤ 6 := by omega
   have hi0 : 0 ≤ i := by omega
   have htn : i.toNat = k := by omega
   have hwi : W .i64 (i + 1) = i + 1 := W_small (by omega)
   obtain ⟨x, wv, hrow, hwv⟩ := jrows_at hrs _ (List.getElem_mem hk0)
   have hr2 : rs[k]? = some [I x.kind, I x.ready, I x.due, wv] := by rw [List.getElem?_eq_getElem hk0, hrow]
   have hr4 : ∀ h, rs[k]'h = [I x.kind, I x.ready, I x.due, wv] := fun h => hrow
   have rw5 := fun n d => dInts_rb hwv n d
   have fw5 := fun H d => dInts_frz hwv H d
   have fn5 := fun n H d => rowsV_frN (dInts_rows hwv) n H d
   obtain ⟨cw1, cw2⟩ := dInts_cells hwv
   have hshr := shr_eq (st := st) hik (by omega) hst.1
   have hpk : (1 : Int) ≤ 2 ^ k := by have := Int.pow_pos (n := 2) (m := k) (by decide); omega
   have hq0 : 0 ≤ st / 2 ^ k := Int.ediv_nonneg hst.1 (by omega)
   have hq1 : st / 2 ^ k ≤ st := Int.ediv_le_self _ hst.1
   have hba := bit_and hq0 (by omega)
   have hnk : numL st (k + 1) = numL st k ++ if bitB st k = true then [(k : Int)] else [] := rfl
   have hak := inSet_take st hk0
   have hbb : (st / 2 ^ k % 2 == 1) = bitB st k := by unfold bitB; rw [Bool.eq_iff_iff]; simp
   rw [← hik] at hnk
   generalize bitB st k = bt at *
   have HH4 := zA hlp (zA hal (zA hnl (zA hr3 (zA hi0 (zA htn (zA hk0 (zA hwi (zA hr2 (zA hr4 (zA rw5 (zA fw5 (zA fn5 (zA cw1 (zA cw2 (zA hshr (zA hba hbb))))))))))))))))
   refine zK ?_
   simp only [zT, zB]
   refine zS ?_
   refine zL ?_
   refine zS ?_
   refine zR (zO (by simp [-lenA, HH1, ↓HH3, zI, HH4]; rfl) ?_)
   simp only [zT, zB]
   refine zS ?_
   refine zR (zO (by simp [-lenA, HH1, ↓HH3, zI, HH4]; rfl) ?_)
   simp only [zT, zB]
   rcases bt with _ | _
   ·rw [if_neg (by simp), List.append_nil] at hnk hak
    refine runs_cond (x := false) (by simp) ?_
    refine zK ?_
    simp only [zT, zB]
    refine zR (zO (by simp [-lenA, HH1, ↓HH3, zI, HH4]; rfl) ?_)
    simp only [zT, zB]
    exact ⟨rs.length - (k + 1), _, _, by omega, by simp [-lenA, HH1, ↓HH3, zI, HH4] <;> first | exact ⟨rfl, rfl⟩ | rfl, k + 1, i + 1, by omega, rfl, by omega, .inr ⟨p, ac, nu, by rw [hak, hac], by rw [hnk, hnu], hal, hnl, rfl⟩⟩
   ·rw [if_pos rfl] at hnk hak
    rw [← hac] at hak
    rw [← hnu] at hnk
    have hapA : ac ++ [[I x.kind, I x.ready, I x.due, wv]] = inSet st 0 (rs.take (k + 1)) := by rw [hak, hrow]
    have hapN : nu.map rI ++ [[I i]] = (nu ++ [i]).map rI := by rw [List.map_append]; rfl
    have hal2 : (ac ++ [[I x.kind, I x.ready, I x.due, wv]]).length = p + 1 + 1 := by simp [hal]
    have hnl2 : (nu ++ [i]).length = p + 1 + 1 := by simp [hnl]
    obtain ⟨na, hna⟩ : ∃ na, na = ac ++ [[I x.kind, I x.ready, I x.due, wv]] := ⟨_, rfl⟩
    have hapG := hna.symm
    rw [← hna] at hapA hal2
    generalize nu ++ [i] = nn at *
    have hra2 := optAll_in st (rs.take (k + 1)) (js.take (k + 1)) 0 (optAll_take hrs (k + 1))
    rw [← hapA] at hra2
    have hrj2 := fun n => rJ_rb hra2 n 4
    have hgf2 := fun n h => rJ_frN2 hra2 n h
    have hgN2 := fun n h => frN_mapI n h 4 nn
    have hrN2 := fun n => rI_rb n 4 nn
    refine runs_cond (x := true) (by simp) ?_
    have HH5 := zA hapG (zA hrj2 (zA hgf2 (zA hgN2 hrN2)))
    refine zR (zO (by simp [-lenA, HH1, ↓HH3, zI, HH4, hapN, ↓HH5]; rfl) ?_)
    simp only [zT, zB]
    refine zR (zO (by simp [-lenA, HH1, ↓HH3, zI, HH4, hapN, ↓HH5]; rfl) ?_)
    simp only [zT, zB]
    exact ⟨rs.length - (k + 1), _, _, by omega, by simp [-lenA, HH1, ↓HH3, zI, HH4, hapN, ↓HH5] <;> first | exact ⟨rfl, rfl⟩ | rfl, k + 1, i + 1, by omega, rfl, by omega, .inr ⟨p + 1, na, nn, hapA, hnk.symm, hal2, hnl2, rfl⟩⟩
  ·have hx1 := of_decide_eq_false hlt
   have hkE : k = rs.length := by omega
   have htk : rs.take k = rs := List.take_of_length_le (by omega)
   have hkj : k = js.length := by omega
   rw [htk] at hac
   rw [← hac, ← hkj, ← hnu, encR_ne (by intro e; rw [e] at hal; simp at hal), encV_ne (by intro e; rw [e] at hnl; simp at hnl)]
   have hgz := fun H d => rJ_frz hra H d
   refine runs_exit ?_
   simp only [zT, zB, if_true, if_false, reduceIte, Nat.reduceEqDiff, Nat.succ_ne_zero, Nat.one_ne_zero, Nat.zero_ne_one]
   refine zS ?_
   refine zR (zO (by simp [-lenA, HH1, hlp, hal, hnl, hr3, ↓HH3, ↓hgz, frz_mapI]; rfl) ?_)
   simp only [zT, zB]
   refine runs_ret ?_
   simp [-lenA, HH1, hlp, hal, hnl, hr3, ↓HH3, ↓hgz, frz_mapI, trim]
end
section
attribute [local simp] Function.comp_def List.all_append List.all_map above callA calleeA frNB_none frNB_row frN_agg frN_bool frN_int frN_nils frN_ref frN_sl frN_tup frN_vl frzG gather getR lim lop loud lowA lowR norm okG putG putR rbB_none rbB_row resG rowAt takeG
theorem shl_eq {n : Int} {k : Nat} (hik : n = k) (hk : k ≤ 6) : shI .shl .i64 1 n = some (I (2 ^ k)) := by
  have hmin : min k IntKind.i64.bits = k := by show min k 64 = k; omega
  unfold shI
  subst hik
  rw [if_neg (by omega)]
  simp only [Int.toNat_natCast, hmin, Int.one_mul]
  have : (2 : Int) ^ k ≤ 64 := by
    have : k = 0 ∨ k = 1 ∨ k = 2 ∨ k = 3 ∨ k = 4 ∨ k = 5 ∨ k = 6 := by omega
    rcases this with rfl | rfl | rfl | rfl | rfl | rfl | rfl <;> decide
  rw [W_small (by have := Int.pow_pos (n := 2) (m := k) (by decide); omega)]
theorem among_eq {m : Int} {c t : AVal} {cs : List (List Int)} {ts : List FStop} (hc : dInts2 c = some cs) (ht : dStops t = some ts) {rs : List (List AVal)} {tt : Bool} {js : List FJob} (h : optAll dJob rs = some js) (hl : js.length ≤ 6) {st : Int} (hs : 0 ≤ st ∧ st ≤ 1000) : oAmong [.agg [I m, c, t, .vl rs tt], I st] = some (.tup [.agg [I m, c, t, encR (inSet st 0 rs)], encV (numL st js.length)]) := by
  simp only [oAmong, hc, ht, h]; rw [if_pos ⟨hl, hs⟩]
def cmpI (a b : Int) : Int := if a < b then -1 else if b < a then 1 else 0
def cmpL : List Int → List Int → Int
  | a :: l, b :: l2 => if cmpI a b = 0 then cmpL l l2 else cmpI a b
  | [], _ :: _ => -1
  | [], [] => 0
  | _ :: _, [] => 1
def cmpN (x y : List Int) : Int := if (x.length : Int) - y.length = 0 then cmpL x y else (x.length : Int) - y.length
def oNaN : List AVal → Option AVal
  | [.int .i64 _] => some (.bool false)
  | _ => none
def oCmpI : List AVal → Option AVal
  | [.int .i64 a, .int .i64 b] => some (I (cmpI a b))
  | _ => none
def oCmpL : List AVal → Option AVal
  | [x, y] => match dInts x, dInts y with
    | some xs, some ys => if xs.length ≤ 1000 ∧ ys.length ≤ 1000 then some (I (cmpL xs ys)) else none
    | _, _ => none
  | _ => none
def oCmpN : List AVal → Option AVal
  | [x, y] => match dInts x, dInts y with
    | some xs, some ys => if xs.length ≤ 1000 ∧ ys.length ≤ 1000 then some (I (cmpN xs ys)) else none
    | _, _ => none
  | _ => none
def minS (m y : List Int) : List Int := if cmpN y m < 0 then y else m
def minL : List (List Int) → List Int
  | [] => []
  | x :: l => l.foldl minS x
theorem minL_snoc {l : List (List Int)} (h : l ≠ []) (y : List Int) : minL (l ++ [y]) = minS (minL l) y := by
  cases l with
  | nil => exact absurd rfl h
  | cons x l => simp only [minL, List.cons_append, List.foldl_append, List.foldl_cons, List.foldl_nil]
open Classical in
noncomputable def oMin : List AVal → Option AVal
  | [.vl rs _, .fn 76 [] []] => match optAll dRow1 rs with
    | some L => if rs = L.map encS ∧ L ≠ [] ∧ L.length ≤ 1000 ∧ (∀ l ∈ L, l.length ≤ 1000) then some (encV (minL L)) else none
    | none => none
  | _ => none
theorem a150 (P : Program) (T : Nat → Option CFn) (hT : T 150 = some c150) (a : Int) : Answers P T 150 [I a] [] fun v h => frz true h 5 v = some (.bool false) := by
 refine answers_of hT (orcF_none rfl) ?_
 simp only [oo, om, op, og, ci, cl, c150]
 refine zS ?_
 refine zR (zO (by simp; rfl) ?_)
 simp only [zT, zB]
 refine zS ?_
 refine zR (zO (by simp; rfl) ?_)
 simp only [zT, zB]
 refine runs_ret ?_
 simp
noncomputable def BH1 : Nat → Option CFn := upd BA 150 true (oNaN)
theorem BH1_ok : TabOk Tryz.prog GG BH1 := tab_add mixed BA_ok fun args v ho => by
  unfold oNaN at ho; split at ho <;> (try simp only [reduceCtorEq] at ho)
  rename_i a
  simp only [Option.some.injEq] at ho
  subst ho
  exact a150 Tryz.prog BA rfl a
theorem a112 (P : Program) (T : Nat → Option CFn) (hT : T 112 = some c112) (h150 : T 150 = some { c150 with frsh := true, orc := oNaN }) (a b : Int) : Answers P T 112 [I a, I b] [] fun v h => frz true h 5 v = some (I (cmpI a b)) := by
 refine answers_of hT (orcF_none rfl) ?_
 simp only [oo, om, op, og, ci, cl, c112]
 have hn1 : oNaN [I a] = some (.bool false) := rfl
 have hn2 : oNaN [I b] = some (.bool false) := rfl
 unfold cmpI
 refine zS ?_
 refine zR (zO (by simp [zC h150, h150, hn1, hn2]; rfl) ?_)
 simp only [zT, zB]
 refine zS ?_
 refine zR (zO (by simp [zC h150, h150, hn1, hn2]; rfl) ?_)
 simp only [zT, zB]
 refine zS ?_
 refine zR (zO (by simp [zC h150, h150, hn1, hn2]; rfl) ?_)
 simp only [zT, zB]
 refine zS ?_
 refine zS ?_
 refine zR (zO (by simp [zC h150, h150, hn1, hn2]; rfl) ?_)
 simp only [zT, zB]
 refine runs_cond (x := false) (by simp) ?_
 refine zK ?_
 simp only [zT, zB]
 refine zS ?_
 refine zS ?_
 refine zR (zO (by simp [zC h150, h150, hn1, hn2]; rfl) ?_)
 simp only [zT, zB]
 refine runs_cond (x := false) (by simp) ?_
 refine zK ?_
 simp only [zT, zB]
 refine zS ?_
 refine zS ?_
 refine zR (zO (by simp [zC h150, h150, hn1, hn2]; rfl) ?_)
 simp only [zT, zB]
 refine runs_cond_split (x := decide (a < b)) (by simp) (fun h1 => ?_) (fun h1 => ?_)
 ·have h1 := of_decide_eq_true h1
  rw [if_pos h1]
  refine zS ?_
  refine zR (zO (by simp [zC h150, h150, hn1, hn2]; rfl) ?_)
  simp only [zT, zB]
  refine runs_ret ?_
  simp [zC h150, h150, hn1, hn2]
 ·have h1 := of_decide_eq_false h1
  rw [if_neg h1]
  refine zK ?_
  simp only [zT, zB]
  refine zS ?_
  refine zS ?_
  refine zR (zO (by simp [zC h150, h150, hn1, hn2]; rfl) ?_)
  simp only [zT, zB]
  refine runs_cond_split (x := decide (b < a)) (by simp) (fun h2 => ?_) (fun h2 => ?_)
  ·have h2 := of_decide_eq_true h2
   rw [if_pos h2]
   refine zS ?_
   refine zR (zO (by simp [zC h150, h150, hn1, hn2]; rfl) ?_)
   simp only [zT, zB]
   refine runs_ret ?_
   simp [zC h150, h150, hn1, hn2]
  ·have h2 := of_decide_eq_false h2
   rw [if_neg h2]
   refine zK ?_
   simp only [zT, zB]
   refine zS ?_
   refine zR (zO (by simp [zC h150, h150, hn1, hn2]; rfl) ?_)
   simp only [zT, zB]
   refine runs_ret ?_
   simp [zC h150, h150, hn1, hn2]
noncomputable def BH2 : Nat → Option CFn := upd BH1 112 true (oCmpI)
theorem BH2_ok : TabOk Tryz.prog GG BH2 := tab_add mixed BH1_ok fun args v ho => by
  unfold oCmpI at ho; split at ho <;> (try simp only [reduceCtorEq] at ho)
  rename_i a b
  simp only [Option.some.injEq] at ho
  subst ho
  exact a112 Tryz.prog BH1 rfl rfl a b
theorem a77 (P : Program) (T : Nat → Option CFn) (hT : T 77 = some c77) (h112 : T 112 = some { c112 with frsh := true, orc := oCmpI }) (x y : AVal) (xs ys : List Int) (hx : dInts x = some xs) (hy : dInts y = some ys) (hl : xs.length ≤ 1000 ∧ ys.length ≤ 1000) : Answers P T 77 [x, y] [] fun v h => frz true h 5 v = some (I (cmpL xs ys)) := by
 have lx := dInts_len hx
 have ly := dInts_len hy
 have fx := fun H d => dInts_frz hx H d
 have fy := fun H d => dInts_frz hy H d
 refine answers_of hT (orcF_none rfl) ?_
 simp only [oo, om, op, og, ci, cl, c77]
 have HH1 := zA h112 (zA lx (zA ly (zA fx fy)))
 refine zS ?_
 refine zR (zO (by simp [zC h112, -lenA, HH1]; rfl) ?_)
 simp only [zT, zB]
 refine zS ?_
 refine zS ?_
 refine zR (zO (by simp [zC h112, -lenA, HH1]; rfl) ?_)
 simp only [zT, zB]
 refine zL ?_
 refine runs_loop_inv (fun m σ => ∃ (k : Nat) (i : Int), i = k ∧ xs.length - k = m ∧ k ≤ xs.length ∧ cmpL (xs.drop k) (ys.drop k) = cmpL xs ys ∧ σ = ⟨[x, y, .any, .any, .any, .any, .any, .any, .any, x, I xs.length, I i, .any, .any, .any, .any, .any, .any, .any, .any, .any, .any, .any, .any, .any, .any, .any, .any, .any, .any, .any, .any, .any, .any, .any, .any], []⟩) ?_ (xs.length - 0) _ ⟨0, 0, rfl, rfl, Nat.zero_le _, rfl, by simp⟩
 rintro m σ ⟨k, i, hik, rfl, hkl, hR, rfl⟩
 refine zS ?_
 refine zR (zO (by simp [zC h112, -lenA, HH1]; rfl) ?_)
 simp only [zT, zB]
 refine zS ?_
 refine runs_cond_split (x := decide (i < (xs.length : Int))) (by simp) (fun hlt => ?_) (fun hlt => ?_)
 ·have hlt := of_decide_eq_true hlt
  have hk0 : k < xs.length := by omega
  obtain ⟨t1, rfl⟩ := dInts_get hx hk0
  have hi0 : 0 ≤ i := by omega
  have htn : i.toNat = k := by omega
  have hwi : W .i64 (i + 1) = i + 1 := W_small (by omega)
  have gx1 : (xs.map rI)[k]? = some [I xs[k]] := by rw [List.getElem?_map, List.getElem?_eq_getElem hk0]; rfl
  have gx2 : ∀ (h : k < (xs.map rI).length), (xs.map rI)[k]'h = [I xs[k]] := fun h => by rw [List.getElem_map]; rfl
  rw [List.drop_eq_getElem_cons hk0] at hR
  have HH2 := zA hi0 (zA htn (zA hk0 (zA hwi (zA gx1 gx2))))
  refine zK ?_
  simp only [zT, zB]
  refine zS ?_
  refine zL ?_
  refine zS ?_
  refine zR (zO (by simp [zC h112, -lenA, HH1, zI, -List.getElem?_map, -List.getElem_map, HH2]; rfl) ?_)
  simp only [zT, zB]
  refine zS ?_
  refine zS ?_
  refine zR (zO (by simp [zC h112, -lenA, HH1, zI, -List.getElem?_map, -List.getElem_map, HH2]; rfl) ?_)
  simp only [zT, zB]
  refine runs_cond_split (x := decide ((ys.length : Int) ≤ i)) (by simp) (fun h3 => ?_) (fun h3 => ?_)
  ·have h3 := of_decide_eq_true h3
   rw [List.drop_of_length_le (show ys.length ≤ k by omega)] at hR
   simp only [cmpL] at hR
   rw [← hR]
   refine zS ?_
   refine zR (zO (by simp [zC h112, -lenA, HH1, zI, -List.getElem?_map, -List.getElem_map, HH2]; rfl) ?_)
   simp only [zT, zB]
   refine runs_ret ?_
   simp [zC h112, -lenA, HH1, zI, -List.getElem?_map, -List.getElem_map, HH2]
  ·have h3 := of_decide_eq_false h3
   have hk1 : k < ys.length := by omega
   obtain ⟨t2, rfl⟩ := dInts_get hy hk1
   have hiy : i < (ys.length : Int) := by omega
   have gy1 : (ys.map rI)[k]? = some [I ys[k]] := by rw [List.getElem?_map, List.getElem?_eq_getElem hk1]; rfl
   have gy2 : ∀ (h : k < (ys.map rI).length), (ys.map rI)[k]'h = [I ys[k]] := fun h => by rw [List.getElem_map]; rfl
   rw [List.drop_eq_getElem_cons hk1] at hR
   generalize hXk : xs[k] = a at *
   generalize hYk : ys[k] = b at *
   simp only [cmpL] at hR
   have hcc : oCmpI [I a, I b] = some (I (cmpI a b)) := rfl
   generalize cmpI a b = cc at *
   have HH3 := zA hk1 (zA hiy (zA gy1 (zA gy2 hcc)))
   refine zK ?_
   simp only [zT, zB]
   refine zS ?_
   refine zR (zO (by simp [zC h112, -lenA, HH1, zI, -List.getElem?_map, -List.getElem_map, HH2, HH3]; rfl) ?_)
   simp only [zT, zB]
   refine zS ?_
   refine zR (zO (by simp [zC h112, -lenA, HH1, zI, -List.getElem?_map, -List.getElem_map, HH2, HH3]; rfl) ?_)
   simp only [zT, zB]
   refine zS ?_
   refine zR (zO (by simp [zC h112, -lenA, HH1, zI, -List.getElem?_map, -List.getElem_map, HH2, HH3]; rfl) ?_)
   simp only [zT, zB]
   refine runs_cond_split (x := (cc != 0)) (by simp) (fun he => ?_) (fun he => ?_)
   ·have he : ¬ cc = 0 := by simpa using he
    rw [if_neg he] at hR
    rw [← hR]
    refine zS ?_
    refine zR (zO (by simp [zC h112, -lenA, HH1, zI, -List.getElem?_map, -List.getElem_map, HH2, HH3]; rfl) ?_)
    simp only [zT, zB]
    refine runs_ret ?_
    simp [zC h112, -lenA, HH1, zI, -List.getElem?_map, -List.getElem_map, HH2, HH3]
   ·have he : cc = 0 := by simpa using he
    rw [if_pos he] at hR
    refine zK ?_
    simp only [zT, zB]
    refine zR (zO (by simp [zC h112, -lenA, HH1, zI, -List.getElem?_map, -List.getElem_map, HH2, HH3]; rfl) ?_)
    simp only [zT, zB]
    exact ⟨xs.length - (k + 1), by omega, k + 1, i + 1, by omega, rfl, by omega, hR, by simp [trim, zC h112, -lenA, HH1, zI, -List.getElem?_map, -List.getElem_map, HH2, HH3]⟩
 ·have hlt := of_decide_eq_false hlt
  have hkE : k = xs.length := by omega
  subst hkE
  rw [List.drop_length] at hR
  refine runs_exit ?_
  simp only [zT, zB, if_true, if_false, reduceIte, Nat.reduceEqDiff, Nat.succ_ne_zero, Nat.one_ne_zero, Nat.zero_ne_one]
  refine zS ?_
  refine zS ?_
  refine zR (zO (by simp [zC h112, -lenA, HH1]; rfl) ?_)
  simp only [zT, zB]
  refine runs_cond_split (x := decide ((xs.length : Int) < (ys.length : Int))) (by simp) (fun h4 => ?_) (fun h4 => ?_)
  ·have h4 := of_decide_eq_true h4
   rw [List.drop_eq_getElem_cons (show xs.length < ys.length by omega)] at hR
   simp only [cmpL] at hR
   rw [← hR]
   refine zS ?_
   refine zR (zO (by simp [zC h112, -lenA, HH1]; rfl) ?_)
   simp only [zT, zB]
   refine runs_ret ?_
   simp [zC h112, -lenA, HH1]
  ·have h4 := of_decide_eq_false h4
   rw [List.drop_of_length_le (show ys.length ≤ xs.length by omega)] at hR
   simp only [cmpL] at hR
   rw [← hR]
   refine zK ?_
   simp only [zT, zB]
   refine zS ?_
   refine zR (zO (by simp [zC h112, -lenA, HH1]; rfl) ?_)
   simp only [zT, zB]
   refine runs_ret ?_
   simp [zC h112, -lenA, HH1]
noncomputable def BH3 : Nat → Option CFn := upd BH2 77 true (oCmpL)
theorem BH3_ok : TabOk Tryz.prog GG BH3 := tab_add mixed BH2_ok fun args v ho => by
  unfold oCmpL at ho; split at ho <;> (try simp only [reduceCtorEq] at ho)
  rename_i x y
  split at ho <;> (try simp only [reduceCtorEq] at ho)
  rename_i xs ys hx hy
  split at ho <;> (try simp only [reduceCtorEq] at ho)
  rename_i hl
  simp only [Option.some.injEq] at ho
  subst ho
  exact a77 Tryz.prog BH2 rfl rfl x y xs ys hx hy hl
theorem a76 (P : Program) (T : Nat → Option CFn) (hT : T 76 = some c76) (h77 : T 77 = some { c77 with frsh := true, orc := oCmpL }) (h67 : T 67 = some { c67 with frsh := true, orc := oOrB }) (x y : AVal) (xs ys : List Int) (hx : dInts x = some xs) (hy : dInts y = some ys) (hl : xs.length ≤ 1000 ∧ ys.length ≤ 1000) : Answers P T 76 [x, y] [] fun v h => frz true h 5 v = some (I (cmpN xs ys)) := by
 have lx := dInts_len hx
 have ly := dInts_len hy
 have fx := fun H d => dInts_frz hx H d
 have fy := fun H d => dInts_frz hy H d
 have hcl : oCmpL [x, y] = some (I (cmpL xs ys)) := by simp only [oCmpL, hx, hy]; rw [if_pos hl]
 have hws : W .i64 ((xs.length : Int) - (ys.length : Int)) = (xs.length : Int) - (ys.length : Int) := W_small (by omega)
 have hor : oOrB [.vl [[I ((xs.length : Int) - (ys.length : Int))], [I (cmpL xs ys)]] true] = some (I (if (xs.length : Int) - (ys.length : Int) = 0 then cmpL xs ys else (xs.length : Int) - (ys.length : Int))) := rfl
 refine answers_of hT (orcF_none rfl) ?_
 simp only [oo, om, op, og, ci, cl, c76]
 have HH1 := zA h77 (zA h67 (zA lx (zA ly (zA fx (zA fy (zA hcl (zA hws hor)))))))
 refine zS ?_
 refine zR (zO (by simp [zC h77, zC h67, -lenA, HH1]; rfl) ?_)
 simp only [zT, zB]
 refine zS ?_
 refine zR (zO (by simp [zC h77, zC h67, -lenA, HH1]; rfl) ?_)
 simp only [zT, zB]
 refine runs_ret ?_
 simp [zC h77, zC h67, -lenA, HH1, cmpN]
noncomputable def BH4 : Nat → Option CFn := upd BH3 76 true (oCmpN)
theorem BH4_ok : TabOk Tryz.prog GG BH4 := tab_add mixed BH3_ok fun args v ho => by
  unfold oCmpN at ho; split at ho <;> (try simp only [reduceCtorEq] at ho)
  rename_i x y
  split at ho <;> (try simp only [reduceCtorEq] at ho)
  rename_i xs ys hx hy
  split at ho <;> (try simp only [reduceCtorEq] at ho)
  rename_i hl
  simp only [Option.some.injEq] at ho
  subst ho
  exact a76 Tryz.prog BH3 rfl rfl rfl x y xs ys hx hy hl
end
section
attribute [local simp] Function.comp_def List.all_append List.all_map callA calleeA frzG gather getR lim lop loud lowA lowR okG ptrs putG putH putR rbB_none rbB_row resG rowAt setH takeG
theorem frN_rowS (n : Nat) (h : Heap) (xs : List (List Int)) : ∀ r ∈ xs.map encS, optAll (frN n h 5) r = some r := fun r hr => by
  obtain ⟨a, _, rfl⟩ := List.mem_map.1 hr
  cases a <;> rfl
theorem frN_mapS (n : Nat) (h : Heap) (xs : List (List Int)) : optAll (optAll (frN n h 5)) (xs.map encS) = some (xs.map encS) := optAll_self _ (frN_rowS n h xs)
theorem encS_V (xs : List Int) : encS xs = [encV xs] := rfl
theorem minL_mem : ∀ {l : List (List Int)}, l ≠ [] → minL l ∈ l
  | [], h => absurd rfl h
  | x :: l, _ => by
    have : ∀ (l : List (List Int)) (m : List Int), l.foldl minS m = m ∨ l.foldl minS m ∈ l := by
      intro l
      induction l with
      | nil => intro m; exact .inl rfl
      | cons y l ih =>
        intro m
        rw [List.foldl_cons]
        rcases ih (minS m y) with h | h
        · rw [h]
          unfold minS
          split
          · exact .inr (by simp)
          · exact .inl rfl
        · exact .inr (by simp [h])
    rcases this l x with h | h
    · show l.foldl minS x ∈ x :: l; rw [h]; simp
    · exact List.mem_cons_of_mem _ h
theorem min_eq {L : List (List Int)} {tt : Bool} (h1 : L ≠ []) (h2 : L.length ≤ 1000) (h3 : ∀ l ∈ L, l.length ≤ 1000) : oMin [.vl (L.map encS) tt, .fn 76 [] []] = some (encV (minL L)) := by
  have e : optAll dRow1 (L.map encS) = some L := optAll_map (d := dRow1) (enc := encS) (fun x => by rw [encS_V]; simp only [dRow1, dInts_encV]) L
  simp only [oMin, e]
  rw [if_pos ⟨trivial, h1, h2, h3⟩]
noncomputable def badB (s : FShop) (js : List FJob) (st : Int) : Bool := decide (0 < (bestF s (inSet st 0 js)).sum)
noncomputable def nevL (s : FShop) (js : List FJob) : Nat → List (List Int)
  | 0 => []
  | k + 1 => nevL s js k ++ if badB s js (k : Int) = true then [numL (k : Int) js.length] else []
theorem nevL_len (s : FShop) (js : List FJob) : ∀ k, (nevL s js k).length ≤ k
  | 0 => Nat.le_refl _
  | k + 1 => by
    have := nevL_len s js k
    rw [nevL, List.length_append]
    split <;> simp <;> omega
theorem nevL_mem (s : FShop) (js : List FJob) : ∀ k, ∀ l ∈ nevL s js k, l.length ≤ js.length
  | 0, l, h => by simp [nevL] at h
  | k + 1, l, h => by
    rw [nevL] at h
    rcases List.mem_append.1 h with h | h
    · exact nevL_mem s js k l h
    · split at h
      · simp only [List.mem_singleton] at h; subst h; exact numL_len _ _
      · simp at h
theorem inSet_all {α : Type} {st : Int} : ∀ {l : List α} {k : Nat}, (∀ i, i < l.length → bitB st (k + i) = true) → inSet st k l = l
  | [], _, _ => rfl
  | x :: l, k, h => by
    simp only [inSet]
    rw [if_pos (by have := h 0 (by simp); simpa using this), inSet_all fun i hi => by have := h (i + 1) (by simpa using hi); rwa [show k + 1 + i = k + (i + 1) by omega]]
theorem bits_full : ∀ n ≤ 6, ∀ i < n, bitB (((2 ^ n - 1 : Nat)) : Int) i = true := by decide
theorem try_nn {s : FShop} {js : List FJob} (h : ShopOk s js) : ∀ (d : Nat) (now : List Int) (b : FBest), NowOk js now d → 0 ≤ b.sum → 0 ≤ (tryF s js d now b).sum
  | 0, now, b, hw, hb => by
    have hl := lat_bd h hw
    simp only [tryF]
    split
    · exact hb
    · exact hl.1.1
  | d + 1, now, b, hw, hb => by
    simp only [tryF]
    split
    · exact hb
    · refine foldl_inv (Q := fun (b : FBest) => 0 ≤ b.sum) hb fun i hi b hb => ?_
      have hi := List.mem_range.1 hi
      split
      · exact hb
      · rename_i hn; exact try_nn h d _ b (hw.snoc hi hn) hb
theorem best_nn {s : FShop} {js : List FJob} (h : ShopOk s js) : 0 ≤ (bestF s js).sum := try_nn h _ _ _ (NowOk.nil js) (Int.le_refl _)
theorem best_nil {s : FShop} {js : List FJob} (h : ShopOk s js) (h0 : js = []) : (bestF s js).sum = 0 := by
  subst h0
  have hl := lat_nil h
  show (tryF s [] 0 [] bz).sum = 0
  simp only [tryF, hl]
  split <;> rfl
theorem nevL_ne {s : FShop} {js : List FJob} (h : ShopOk s js) (h0 : ¬ (bestF s js).sum = 0) : nevL s js (2 ^ js.length) ≠ [] := by
  have hp : 0 < 2 ^ js.length := Nat.pow_pos (by decide)
  obtain ⟨m, hm⟩ : ∃ m, 2 ^ js.length = m + 1 := ⟨2 ^ js.length - 1, by omega⟩
  rw [hm, nevL]
  have e : inSet (m : Int) 0 js = js := inSet_all fun i hi => by
    have := bits_full js.length h.njob i hi
    rw [hm] at this
    simpa using this
  have hb : badB s js (m : Int) = true := by
    unfold badB
    rw [e, decide_eq_true_eq]
    have := best_nn h
    omega
  rw [if_pos hb]
  simp
noncomputable def nevE (s : FShop) (js : List FJob) : Int := if shopE s js = 0 then (if (bestF s js).sum = 0 then 7 else 0) else shopE s js
noncomputable def nevV (s : FShop) (js : List FJob) : AVal := if nevE s js = 0 then encV (minL (nevL s js (2 ^ js.length))) else .nils
noncomputable def oNever : List AVal → Option AVal
  | [.agg [.int .i64 m, c, t], j] => match dInts2 c, dStops t, dJobs j with
    | some cs, some ts, some js => if sizeOk ⟨m, cs, ts⟩ js = true then some (.tup [nevV ⟨m, cs, ts⟩ js, I (nevE ⟨m, cs, ts⟩ js)]) else none
    | _, _, _ => none
  | _ => none
theorem never_eq {s : FShop} {js : List FJob} {c t j : AVal} (hc : dInts2 c = some s.chg) (ht : dStops t = some s.stops) (hj : dJobs j = some js) (hz : SizeOk s js) : oNever [.agg [I s.mach, c, t], j] = some (.tup [nevV s js, I (nevE s js)]) := by
  simp only [oNever, hc, ht, hj]
  rw [if_pos (size_ok.2 hz)]
theorem a75 (P : Program) (T : Nat → Option CFn) (hT : T 75 = some c75) (h76 : T 76 = some { c76 with frsh := true, orc := oCmpN }) (L : List (List Int)) (tt : Bool) (hne : L ≠ []) (hl : L.length ≤ 1000) (hlen : ∀ l ∈ L, l.length ≤ 1000) : Answers P T 75 [.vl (L.map encS) tt, .fn 76 [] []] [] fun v h => frz false h 5 v = some (encV (minL L)) := by
 have hL0 : 0 < L.length := List.length_pos_iff.2 hne
 have hmin1 : L[0] = minL (L.take 1) := by
  cases L with
  | nil => exact absurd rfl hne
  | cons x l => rfl
 have g01 : (L.map encS)[0]? = some [encV L[0]] := by rw [List.getElem?_map, List.getElem?_eq_getElem hL0]; rfl
 have g02 : ∀ (h : 0 < (L.map encS).length), (L.map encS)[0]'h = [encV L[0]] := fun h => by rw [List.getElem_map]; rfl
 refine answers_of hT (orcF_none rfl) ?_
 simp only [oo, om, op, og, ci, cl, c75]
 refine zS ?_
 refine zR (zO (by simp [zC h76, h76, hL0, g01, g02]; rfl) ?_)
 simp only [zT, zB]
 refine zS ?_
 refine zS ?_
 refine zR (zO (by simp [zC h76, h76, hL0, g01, g02]; rfl) ?_)
 simp only [zT, zB]
 refine runs_cond (x := false) (by simp; omega) ?_
 refine zK ?_
 simp only [zT, zB]
 refine zS ?_
 refine zR (zO (by simp [zC h76, h76, hL0, g01, g02]; rfl) ?_)
 simp only [zT, zB]
 refine zS ?_
 refine zS ?_
 refine zR (zO (by simp [zC h76, h76, hL0, g01, g02]; rfl) ?_)
 simp only [zT, zB]
 refine zL ?_
 refine runs_loop_inv (fun m σ => ∃ (k : Nat) (i : Int) (m1 : List Int), i = k ∧ L.length - k = m ∧ 1 ≤ k ∧ k ≤ L.length ∧ m1 = minL (L.take k) ∧ σ = ⟨[.vl (L.map encS) tt, .fn 76 [] [], .any, .any, .any, encV m1, I i, .any, .any, .any, .any, .any, .any, .any, .any, .any, .any, .any, .any, .any, .any, .any, .any, .any, .any, .any, .any, .any, .any, .any, .any, .any, .any], []⟩) ?_ (L.length - 1) _ ⟨1, 1, L[0], rfl, rfl, Nat.le_refl _, hL0, hmin1, by simp⟩
 rintro m σ ⟨k, i, m1, hik, rfl, hk1, hkl, hm1, rfl⟩
 refine zS ?_
 refine zS ?_
 refine zR (zO (by simp [zC h76, h76, hL0, g01, g02]; rfl) ?_)
 simp only [zT, zB]
 refine runs_cond_split (x := decide (i < (L.length : Int))) (by simp) (fun hlt => ?_) (fun hlt => ?_)
 ·have hlt := of_decide_eq_true hlt
  have hk0 : k < L.length := by omega
  have hi0 : 0 ≤ i := by omega
  have htn : i.toNat = k := by omega
  have hwi : W .i64 (i + 1) = i + 1 := W_small (by omega)
  have ge1 : (L.map encS)[k]? = some [encV L[k]] := by rw [List.getElem?_map, List.getElem?_eq_getElem hk0]; rfl
  have ge2 : ∀ (h : k < (L.map encS).length), (L.map encS)[k]'h = [encV L[k]] := fun h => by rw [List.getElem_map]; rfl
  have hm2 : minL (L.take (k + 1)) = minS (minL (L.take k)) L[k] := by
   rw [List.take_succ_eq_append_getElem hk0, minL_snoc]
   intro e
   have : min k L.length = 0 := by rw [← List.length_take, e]; rfl
   omega
  have hml : m1.length ≤ 1000 := by
   rw [hm1]
   refine hlen _ (List.mem_of_mem_take (minL_mem ?_))
   intro e
   have : min k L.length = 0 := by rw [← List.length_take, e]; rfl
   omega
  have hxl := hlen _ (List.getElem_mem hk0)
  rw [← hm1] at hm2
  generalize hX : L[k] = X at *
  have hcn : oCmpN [encV X, encV m1] = some (I (cmpN X m1)) := by simp only [oCmpN, dInts_encV]; rw [if_pos ⟨hxl, hml⟩]
  have fx := fun H d => dInts_frz (dInts_encV X) H d
  have fm := fun H d => dInts_frz (dInts_encV m1) H d
  unfold minS at hm2
  generalize cmpN X m1 = cc at *
  have HH1 := zA h76 (zA hL0 (zA g01 (zA g02 (zA hi0 (zA htn (zA hk0 (zA hwi (zA ge1 (zA ge2 (zA hX (zA hcn (zA fx fm))))))))))))
  refine zK ?_
  simp only [zT, zB]
  refine zS ?_
  refine zL ?_
  refine zS ?_
  refine zR (zO (by simp [zC h76, -List.getElem?_map, -List.getElem_map, HH1]; rfl) ?_)
  simp only [zT, zB]
  refine runs_cond_split (x := decide (cc < 0)) (by simp) (fun hz => ?_) (fun hz => ?_)
  ·have hz := of_decide_eq_true hz
   rw [if_pos hz] at hm2
   refine zR (zO (by simp [zC h76, -List.getElem?_map, -List.getElem_map, HH1]; rfl) ?_)
   simp only [zT, zB]
   refine zR (zO (by simp [zC h76, -List.getElem?_map, -List.getElem_map, HH1]; rfl) ?_)
   simp only [zT, zB]
   exact ⟨L.length - (k + 1), by omega, k + 1, i + 1, X, by omega, rfl, by omega, by omega, hm2.symm, by simp [trim, zC h76, -List.getElem?_map, -List.getElem_map, HH1]⟩
  ·have hz := of_decide_eq_false hz
   rw [if_neg hz] at hm2
   refine zK ?_
   simp only [zT, zB]
   refine zR (zO (by simp [zC h76, -List.getElem?_map, -List.getElem_map, HH1]; rfl) ?_)
   simp only [zT, zB]
   exact ⟨L.length - (k + 1), by omega, k + 1, i + 1, m1, by omega, rfl, by omega, by omega, hm2.symm, by simp [trim, zC h76, -List.getElem?_map, -List.getElem_map, HH1]⟩
 ·have hlt := of_decide_eq_false hlt
  have hkE : k = L.length := by omega
  rw [hkE, List.take_length] at hm1
  rw [← hm1]
  have fm := fun H d => dInts_frz (dInts_encV m1) H d
  have HH2 := zA h76 (zA hL0 (zA g01 (zA g02 fm)))
  refine runs_exit ?_
  simp only [zT, zB, if_true, if_false, reduceIte, Nat.reduceEqDiff, Nat.succ_ne_zero, Nat.one_ne_zero, Nat.zero_ne_one]
  refine zS ?_
  refine zR (zO (by simp [zC h76, HH2]; rfl) ?_)
  simp only [zT, zB]
  refine runs_ret ?_
  simp [zC h76, HH2, trim]
theorem min_good : ∀ args v, oMin args = some v → OrcGood Tryz.prog GG false 75 args v := fun args v ho => by
  unfold oMin at ho; split at ho <;> (try simp only [reduceCtorEq] at ho)
  rename_i rs tt
  split at ho <;> (try simp only [reduceCtorEq] at ho)
  rename_i L hL
  split at ho <;> (try simp only [reduceCtorEq] at ho)
  rename_i hg
  simp only [Option.some.injEq] at ho
  subst ho
  obtain ⟨rfl, h1, h2, h3⟩ := hg
  exact orc_of mixed BH4_ok (a75 Tryz.prog BH4 rfl rfl L tt h1 h2 h3)
noncomputable def BI0 : Nat → Option CFn := upd BH4 75 false (fun _ => none)
theorem BI0_ok : TabOk Tryz.prog GG BI0 := tab_add mixed BH4_ok fun args v ho => by simp at ho
noncomputable def BI1 : Nat → Option CFn := updE BI0 75 (dropE oMin)
theorem BI1_ok : TabOk Tryz.prog GG BI1 := tab_drop BI0_ok min_good
noncomputable def BI2 : Nat → Option CFn := upd BI1 71 false oOrd
theorem BI2_ok : TabOk Tryz.prog GG BI2 := tab_upd BI1_ok ord_good
noncomputable def BI3 : Nat → Option CFn := updG BI2 74 [(28722, [.cell 4 3, .slot 5])] []
theorem BI3_ok : TabOk Tryz.prog GG BI3 := tab_updG BI2_ok
noncomputable def BI4 : Nat → Option CFn := upd BI3 74 false (oAmong)
theorem BI4_ok : TabOk Tryz.prog GG BI4 := tab_add mixed BI3_ok fun args v ho => by
  unfold oAmong at ho; split at ho <;> (try simp only [reduceCtorEq] at ho)
  rename_i m c t rs tt st
  split at ho <;> (try simp only [reduceCtorEq] at ho)
  rename_i cs ts js hc ht hj
  split at ho <;> (try simp only [reduceCtorEq] at ho)
  rename_i hg
  simp only [Option.some.injEq] at ho
  subst ho
  exact a74 Tryz.prog BI3 rfl m c t cs ts hc ht rs tt js hj hg.1 st hg.2
noncomputable def BI5 : Nat → Option CFn := updG BI4 33 [(51539608128, [.slot 9])] []
theorem BI5_ok : TabOk Tryz.prog GG BI5 := tab_updG BI4_ok
theorem a33 (P : Program) (T : Nat → Option CFn) (hT : T 33 = some { c33 with body := annK [(51539608128, [.slot 9])] [] c33.body }) (h70 : T 70 = some { c70 with frsh := false, orc := oOpen }) (h71 : T 71 = some { c71 with frsh := false, orc := oOrd }) (h74 : T 74 = some { c74 with body := annK [(28722, [.cell 4 3, .slot 5])] [] c74.body, frsh := false, orc := oAmong }) (h75 : T 75 = some { c75 with frsh := false, orc := fun _ => none, eff := dropE oMin }) (s : FShop) (js : List FJob) (c t j : AVal) (hc : dInts2 c = some s.chg) (ht : dStops t = some s.stops) (hj : dJobs j = some js) (hz : SizeOk s js) : Answers P T 33 [.agg [I s.mach, c, t], j] [] fun v h => frz false h 5 v = some (.tup [nevV s js, I (nevE s js)]) := by
 have fc := fun H d => dInts2_frz hc H d
 have ft := fun H d => dStops_frz ht H d
 have fj := fun H d => dJobs_frz hj H d
 have rc := fun n d => dInts2_rb hc n d
 have rt := fun n d => dStops_rb ht n d
 have rj := fun n d => dJobs_rb hj n d
 have lc := dInts2_len hc
 have lt := dStops_len ht
 have lj := dJobs_len hj
 obtain ⟨cc1, cc2⟩ := dInts2_cells hc
 obtain ⟨ct1, ct2⟩ := dStops_cells ht
 obtain ⟨cj1, cj2⟩ := dJobs_cells hj
 have hop := open_eq hc ht hj hz
 unfold nevV
 refine answers_of hT (orcF_none rfl) ?_
 simp only [oo, om, op, og, ci, cl, c33, annK, lkG, lkR, reduceIte, Nat.reduceEqDiff, reduceCtorEq, List.cons.injEq, and_true, and_false, false_and, true_and]
 by_cases h0 : shopE s js = 0
 ·have hsh := shop_ok h0
  have hn6 := hsh.njob
  have hq := ord_eq hc ht hj hsh
  have hne := nevL_ne hsh
  generalize hB : bestF s js = B at *
  have feb := fun H d => dInts_frz (dInts_encV B.order) H d
  have reb := fun n d => dInts_rb (dInts_encV B.order) n d
  obtain ⟨ceb1, ceb2⟩ := dInts_cells (dInts_encV B.order)
  by_cases hs0 : B.sum = 0
  ·have hbe : nevE s js = 7 := by unfold nevE; rw [if_pos h0, hB, if_pos hs0]
   rw [hbe, if_neg (by decide)]
   have HH1 := zA h70 (zA h71 (zA h74 (zA h75 (zA fc (zA ft (zA fj (zA rc (zA rt (zA rj (zA lc (zA lt (zA lj (zA cc1 (zA cc2 (zA ct1 (zA ct2 (zA cj1 (zA cj2 (zA hop (zA h0 (zA hq (zA feb (zA reb (zA ceb1 (zA ceb2 hs0)))))))))))))))))))))))))
   refine zS ?_
   refine zR (zO (by simp [zC h70, zC h71, zC h74, callF_eff h75 rfl, ↓orc_nil, dropE, onlyJ, -lenA, HH1]; rfl) ?_)
   simp only [zT, zB]
   refine zS ?_
   refine zR (zO (by simp [zC h70, zC h71, zC h74, callF_eff h75 rfl, ↓orc_nil, dropE, onlyJ, -lenA, HH1]; rfl) ?_)
   simp only [zT, zB]
   refine zS ?_
   refine zS ?_
   refine zR (zO (by simp [zC h70, zC h71, zC h74, callF_eff h75 rfl, ↓orc_nil, dropE, onlyJ, -lenA, HH1]; rfl) ?_)
   simp only [zT, zB]
   refine runs_cond (x := false) (by simp) ?_
   refine zK ?_
   simp only [zT, zB]
   refine zS ?_
   refine zS ?_
   refine zR (zO (by simp [zC h70, zC h71, zC h74, callF_eff h75 rfl, ↓orc_nil, dropE, onlyJ, -lenA, HH1]; rfl) ?_)
   simp only [zT, zB]
   refine zS ?_
   refine zR (zO (by simp [zC h70, zC h71, zC h74, callF_eff h75 rfl, ↓orc_nil, dropE, onlyJ, -lenA, HH1]; rfl) ?_)
   simp only [zT, zB]
   refine runs_cond (x := true) (by simp [hs0]) ?_
   refine zS ?_
   refine zR (zO (by simp [zC h70, zC h71, zC h74, callF_eff h75 rfl, ↓orc_nil, dropE, onlyJ, -lenA, HH1]; rfl) ?_)
   simp only [zT, zB]
   refine runs_ret ?_
   simp [zC h70, zC h71, zC h74, callF_eff h75 rfl, ↓orc_nil, dropE, onlyJ, -lenA, HH1, trim]
  ·have hbe : nevE s js = 0 := by unfold nevE; rw [if_pos h0, hB, if_neg hs0]
   rw [hbe, if_pos rfl]
   have hne2 := hne hs0
   have hs0b : (B.sum == 0) = false := by simp [hs0]
   have hjn : js ≠ [] := fun e => hs0 (by rw [← hB]; exact best_nil hsh e)
   obtain ⟨rs, hrv, hrs⟩ := dJobs_rows hj
   have hrl := (optAll_at hrs).1
   obtain ⟨tt, rfl⟩ := rowsV_get hrv (k := 0) (by rw [hrl]; exact List.length_pos_iff.2 hjn)
   have hshl := shl_eq (n := (js.length : Int)) rfl hn6
   obtain ⟨NN, hNN⟩ : ∃ NN : Nat, NN = 2 ^ js.length := ⟨_, rfl⟩
   have hNI : (2 : Int) ^ js.length = (NN : Int) := by rw [hNN]; exact (Int.natCast_pow 2 js.length).symm
   have hN64 : NN ≤ 64 := by rw [hNN]; exact Nat.le_trans (Nat.pow_le_pow_right (by decide) hn6) (by decide)
   rw [← hNN] at hne2 ⊢
   rw [hNI] at hshl
   have HH2 := zA h70 (zA h71 (zA h74 (zA h75 (zA fc (zA ft (zA fj (zA rc (zA rt (zA rj (zA lc (zA lt (zA lj (zA cc1 (zA cc2 (zA ct1 (zA ct2 (zA cj1 (zA cj2 (zA hop (zA h0 (zA hq (zA feb (zA reb (zA ceb1 (zA ceb2 (zA hs0b hshl))))))))))))))))))))))))))
   refine zS ?_
   refine zR (zO (by simp [zC h70, zC h71, zC h74, callF_eff h75 rfl, ↓orc_nil, dropE, onlyJ, -lenA, ↓encS_rb, ↓frN_mapS, HH2]; rfl) ?_)
   simp only [zT, zB]
   refine zS ?_
   refine zR (zO (by simp [zC h70, zC h71, zC h74, callF_eff h75 rfl, ↓orc_nil, dropE, onlyJ, -lenA, ↓encS_rb, ↓frN_mapS, HH2]; rfl) ?_)
   simp only [zT, zB]
   refine zS ?_
   refine zS ?_
   refine zR (zO (by simp [zC h70, zC h71, zC h74, callF_eff h75 rfl, ↓orc_nil, dropE, onlyJ, -lenA, ↓encS_rb, ↓frN_mapS, HH2]; rfl) ?_)
   simp only [zT, zB]
   refine runs_cond (x := false) (by simp) ?_
   refine zK ?_
   simp only [zT, zB]
   refine zS ?_
   refine zS ?_
   refine zR (zO (by simp [zC h70, zC h71, zC h74, callF_eff h75 rfl, ↓orc_nil, dropE, onlyJ, -lenA, ↓encS_rb, ↓frN_mapS, HH2]; rfl) ?_)
   simp only [zT, zB]
   refine zS ?_
   refine zR (zO (by simp [zC h70, zC h71, zC h74, callF_eff h75 rfl, ↓orc_nil, dropE, onlyJ, -lenA, ↓encS_rb, ↓frN_mapS, HH2]; rfl) ?_)
   simp only [zT, zB]
   refine runs_cond (x := false) (by simp [hs0b]) ?_
   refine zK ?_
   simp only [zT, zB]
   refine zS ?_
   refine zR (zO (by simp [zC h70, zC h71, zC h74, callF_eff h75 rfl, ↓orc_nil, dropE, onlyJ, -lenA, ↓encS_rb, ↓frN_mapS, HH2]; rfl) ?_)
   simp only [zT, zB]
   refine zS ?_
   refine zS ?_
   refine zR (zO (by simp [zC h70, zC h71, zC h74, callF_eff h75 rfl, ↓orc_nil, dropE, onlyJ, -lenA, ↓encS_rb, ↓frN_mapS, HH2]; rfl) ?_)
   simp only [zT, zB]
   refine zL ?_
   refine runs_loopG_inv (fun mm σ => ∃ (k : Nat) (i : Int), i = k ∧ NN - k = mm ∧ k ≤ NN ∧ ((nevL s js k = [] ∧ σ = ⟨[.any, .any, .any, .any, .any, .any, .ref 1 0 0, .any, .any, .nils, .any, .any, .any, .any, .any, .any, .any, .any, .any, .any, .any, .any, .any, .any, .any, .any, .any, .any, .any, .any, .any, .any, .any, .any, I (NN : Int), I i, .any, .any, .any, .any, .any, .any, .any, .any, .any, .any, .any, .any, .any, .any, .any, .any, .any, .any, .any, .any, .any, .any, .any], [some (.row 3 [[I s.mach, c, t]]), some (.row 4 [[I s.mach, c, t, .vl rs tt]]), some (.row 2 [[I B.sum, I B.last]]), none]⟩) ∨ (∃ (p : Nat) (ac : List (List Int)), ac = nevL s js k ∧ ac.length = p + 1 ∧ σ = ⟨[.any, .any, .any, .any, .any, .any, .ref 1 0 0, .any, .any, .sl 3 0 (p + 1) false, .any, .any, .any, .any, .any, .any, .any, .any, .any, .any, .any, .any, .any, .any, .any, .any, .any, .any, .any, .any, .any, .any, .any, .any, I (NN : Int), I i, .any, .any, .any, .any, .any, .any, .any, .any, .any, .any, .any, .any, .any, .any, .any, .any, .any, .any, .any, .any, .any, .any, .any], [some (.row 3 [[I s.mach, c, t]]), some (.row 4 [[I s.mach, c, t, .vl rs tt]]), some (.row 2 [[I B.sum, I B.last]]), some (.row 1 (ac.map encS))]⟩))) (by simp [zC h70, zC h71, zC h74, callF_eff h75 rfl, ↓orc_nil, dropE, onlyJ, -lenA, ↓encS_rb, ↓frN_mapS, HH2] <;> first | exact ⟨rfl, rfl⟩ | rfl) (⟨0, 0, rfl, rfl, Nat.zero_le _, .inl ⟨rfl, rfl⟩⟩) ?_
   rintro mm σ ⟨k, i, hik, rfl, hkl, ⟨hac0, rfl⟩ | ⟨p, ac, hac, hal, rfl⟩⟩
   ·refine zS ?_
    refine zR (zO (by simp [zC h70, zC h71, zC h74, callF_eff h75 rfl, ↓orc_nil, dropE, onlyJ, -lenA, ↓encS_rb, ↓frN_mapS, HH2]; rfl) ?_)
    simp only [zT, zB]
    refine zS ?_
    refine runs_cond_split (x := decide (i < (NN : Int))) (by simp) (fun hlt => ?_) (fun hlt => ?_)
    ·have hlt2 := of_decide_eq_true hlt
     have hkN : k < NN := by omega
     have hi0 : 0 ≤ i := by omega
     have hwi : W .i64 (i + 1) = i + 1 := W_small (by omega)
     have ham := among_eq (m := s.mach) (tt := tt) hc ht hrs hn6 (st := i) (by omega)
     have hj2 := dJobs_encR (optAll_in i rs js 0 hrs)
     have hq2 := ord_eq hc ht hj2 (shop_in hsh i)
     have hst : nevL s js (k + 1) = nevL s js k ++ if badB s js (k : Int) = true then [numL (k : Int) js.length] else [] := rfl
     have hbd : badB s js (k : Int) = decide (0 < (bestF s (inSet i 0 js)).sum) := by rw [hik]; rfl
     rw [hbd, ← hik] at hst
     generalize encR (inSet i 0 rs) = je at *
     generalize bestF s (inSet i 0 js) = B2 at *
     generalize hnuG : numL i js.length = nu at *
     have hnuV := encS_V nu
     have fj2 := fun H d => dJobs_frz hj2 H d
     have rj2 := fun n d => dJobs_rb hj2 n d
     obtain ⟨cj3, cj4⟩ := dJobs_cells hj2
     have fb2 := fun H d => dInts_frz (dInts_encV B2.order) H d
     have rb2 := fun n d => dInts_rb (dInts_encV B2.order) n d
     obtain ⟨cb3, cb4⟩ := dInts_cells (dInts_encV B2.order)
     have fn2 := fun H d => dInts_frz (dInts_encV nu) H d
     have rn2 := fun n d => dInts_rb (dInts_encV nu) n d
     have fnN := fun n H d => rowsV_frN (dInts_rows (dInts_encV nu)) n H d
     obtain ⟨cn3, cn4⟩ := dInts_cells (dInts_encV nu)
     have HH3 := zA hi0 (zA hwi (zA ham (zA hq2 (zA fj2 (zA rj2 (zA cj3 (zA cj4 (zA fb2 (zA rb2 (zA cb3 (zA cb4 (zA fn2 (zA rn2 (zA fnN (zA cn3 cn4)))))))))))))))
     refine zK ?_
     simp only [zT, zB]
     refine zS ?_
     refine zL ?_
     refine zS ?_
     refine zR (zO (by simp [zC h70, zC h71, zC h74, callF_eff h75 rfl, ↓orc_nil, dropE, onlyJ, -lenA, ↓encS_rb, ↓frN_mapS, HH2, HH3]; rfl) ?_)
     simp only [zT, zB]
     refine zS ?_
     refine zR (zO (by simp [zC h70, zC h71, zC h74, callF_eff h75 rfl, ↓orc_nil, dropE, onlyJ, -lenA, ↓encS_rb, ↓frN_mapS, HH2, HH3]; rfl) ?_)
     simp only [zT, zB]
     refine zS ?_
     refine zR (zO (by simp [zC h70, zC h71, zC h74, callF_eff h75 rfl, ↓orc_nil, dropE, onlyJ, -lenA, ↓encS_rb, ↓frN_mapS, HH2, HH3]; rfl) ?_)
     simp only [zT, zB]
     refine zS ?_
     refine zR (zO (by simp [zC h70, zC h71, zC h74, callF_eff h75 rfl, ↓orc_nil, dropE, onlyJ, -lenA, ↓encS_rb, ↓frN_mapS, HH2, HH3]; rfl) ?_)
     simp only [zT, zB]
     refine runs_cond_split (x := decide (0 < B2.sum)) (by simp) (fun hz => ?_) (fun hz => ?_)
     ·rw [if_pos hz] at hst
      rw [hac0, List.nil_append] at hst
      have hap : [[encV nu]] = [nu].map encS := rfl
      refine zR (zO (by simp [zC h70, zC h71, zC h74, callF_eff h75 rfl, ↓orc_nil, dropE, onlyJ, -lenA, ↓encS_rb, ↓frN_mapS, HH2, HH3]; rfl) ?_)
      simp only [zT, zB]
      refine zR (zO (by simp [zC h70, zC h71, zC h74, callF_eff h75 rfl, ↓orc_nil, dropE, onlyJ, -lenA, ↓encS_rb, ↓frN_mapS, HH2, HH3]; rfl) ?_)
      simp only [zT, zB]
      exact ⟨NN - (k + 1), _, _, by omega, by simp [zC h70, zC h71, zC h74, callF_eff h75 rfl, ↓orc_nil, dropE, onlyJ, -lenA, ↓encS_rb, ↓frN_mapS, HH2, HH3] <;> rfl, k + 1, i + 1, by omega, rfl, by omega, .inr ⟨0, [nu], hst.symm, rfl, rfl⟩⟩
     ·rw [if_neg (by rw [hz]; simp), List.append_nil] at hst
      refine zK ?_
      simp only [zT, zB]
      refine zR (zO (by simp [zC h70, zC h71, zC h74, callF_eff h75 rfl, ↓orc_nil, dropE, onlyJ, -lenA, ↓encS_rb, ↓frN_mapS, HH2, HH3]; rfl) ?_)
      simp only [zT, zB]
      exact ⟨NN - (k + 1), _, _, by omega, by simp [zC h70, zC h71, zC h74, callF_eff h75 rfl, ↓orc_nil, dropE, onlyJ, -lenA, ↓encS_rb, ↓frN_mapS, HH2, HH3] <;> rfl, k + 1, i + 1, by omega, rfl, by omega, .inl ⟨by rw [hst, hac0], rfl⟩⟩
    ·have hx1 := of_decide_eq_false hlt
     have hkE : k = NN := by omega
     subst hkE
     exact absurd hac0 hne2
   ·have hle := nevL_len s js k
    rw [← hac] at hle
    have tk : (ac.map encS).take (p + 1) = ac.map encS := List.take_of_length_le (by simp [hal])
    have hlp : p + 1 + 1 ≤ 1048576 := by omega
    have hr3 : ∀ e : List Int, (encS e).length = 1 := encS_len
    have hff := fun n h r => optAll_snoc (frN_rowS n h ac) r
    refine zS ?_
    refine zR (zO (by simp [zC h70, zC h71, zC h74, callF_eff h75 rfl, ↓orc_nil, dropE, onlyJ, -lenA, ↓encS_rb, ↓frN_mapS, HH2, ↓tk, hlp, hal, hr3, ↓hff]; rfl) ?_)
    simp only [zT, zB]
    refine zS ?_
    refine runs_cond_split (x := decide (i < (NN : Int))) (by simp) (fun hlt => ?_) (fun hlt => ?_)
    ·have hlt2 := of_decide_eq_true hlt
     have hkN : k < NN := by omega
     have hi0 : 0 ≤ i := by omega
     have hwi : W .i64 (i + 1) = i + 1 := W_small (by omega)
     have ham := among_eq (m := s.mach) (tt := tt) hc ht hrs hn6 (st := i) (by omega)
     have hj2 := dJobs_encR (optAll_in i rs js 0 hrs)
     have hq2 := ord_eq hc ht hj2 (shop_in hsh i)
     have hst : nevL s js (k + 1) = nevL s js k ++ if badB s js (k : Int) = true then [numL (k : Int) js.length] else [] := rfl
     have hbd : badB s js (k : Int) = decide (0 < (bestF s (inSet i 0 js)).sum) := by rw [hik]; rfl
     rw [hbd, ← hik] at hst
     generalize encR (inSet i 0 rs) = je at *
     generalize bestF s (inSet i 0 js) = B2 at *
     generalize hnuG : numL i js.length = nu at *
     have hnuV := encS_V nu
     have fj2 := fun H d => dJobs_frz hj2 H d
     have rj2 := fun n d => dJobs_rb hj2 n d
     obtain ⟨cj3, cj4⟩ := dJobs_cells hj2
     have fb2 := fun H d => dInts_frz (dInts_encV B2.order) H d
     have rb2 := fun n d => dInts_rb (dInts_encV B2.order) n d
     obtain ⟨cb3, cb4⟩ := dInts_cells (dInts_encV B2.order)
     have fn2 := fun H d => dInts_frz (dInts_encV nu) H d
     have rn2 := fun n d => dInts_rb (dInts_encV nu) n d
     have fnN := fun n H d => rowsV_frN (dInts_rows (dInts_encV nu)) n H d
     obtain ⟨cn3, cn4⟩ := dInts_cells (dInts_encV nu)
     have HH4 := zA hlp (zA hal (zA hr3 (zA hi0 (zA hwi (zA ham (zA hq2 (zA fj2 (zA rj2 (zA cj3 (zA cj4 (zA fb2 (zA rb2 (zA cb3 (zA cb4 (zA fn2 (zA rn2 (zA fnN (zA cn3 cn4))))))))))))))))))
     refine zK ?_
     simp only [zT, zB]
     refine zS ?_
     refine zL ?_
     refine zS ?_
     refine zR (zO (by simp [zC h70, zC h71, zC h74, callF_eff h75 rfl, ↓orc_nil, dropE, onlyJ, -lenA, ↓encS_rb, ↓frN_mapS, HH2, ↓tk, ↓hff, HH4]; rfl) ?_)
     simp only [zT, zB]
     refine zS ?_
     refine zR (zO (by simp [zC h70, zC h71, zC h74, callF_eff h75 rfl, ↓orc_nil, dropE, onlyJ, -lenA, ↓encS_rb, ↓frN_mapS, HH2, ↓tk, ↓hff, HH4]; rfl) ?_)
     simp only [zT, zB]
     refine zS ?_
     refine zR (zO (by simp [zC h70, zC h71, zC h74, callF_eff h75 rfl, ↓orc_nil, dropE, onlyJ, -lenA, ↓encS_rb, ↓frN_mapS, HH2, ↓tk, ↓hff, HH4]; rfl) ?_)
     simp only [zT, zB]
     refine zS ?_
     refine zR (zO (by simp [zC h70, zC h71, zC h74, callF_eff h75 rfl, ↓orc_nil, dropE, onlyJ, -lenA, ↓encS_rb, ↓frN_mapS, HH2, ↓tk, ↓hff, HH4]; rfl) ?_)
     simp only [zT, zB]
     refine runs_cond_split (x := decide (0 < B2.sum)) (by simp) (fun hz => ?_) (fun hz => ?_)
     ·rw [if_pos hz] at hst
      rw [← hac] at hst
      have hap : ac.map encS ++ [[encV nu]] = (ac ++ [nu]).map encS := by rw [List.map_append]; rfl
      have hal2 : (ac ++ [nu]).length = p + 1 + 1 := by simp [hal]
      generalize ac ++ [nu] = na at *
      refine zR (zO (by simp [zC h70, zC h71, zC h74, callF_eff h75 rfl, ↓orc_nil, dropE, onlyJ, -lenA, ↓encS_rb, ↓frN_mapS, HH2, ↓tk, ↓hff, HH4, hap]; rfl) ?_)
      simp only [zT, zB]
      refine zR (zO (by simp [zC h70, zC h71, zC h74, callF_eff h75 rfl, ↓orc_nil, dropE, onlyJ, -lenA, ↓encS_rb, ↓frN_mapS, HH2, ↓tk, ↓hff, HH4, hap]; rfl) ?_)
      simp only [zT, zB]
      exact ⟨NN - (k + 1), _, _, by omega, by simp [zC h70, zC h71, zC h74, callF_eff h75 rfl, ↓orc_nil, dropE, onlyJ, -lenA, ↓encS_rb, ↓frN_mapS, HH2, ↓tk, ↓hff, HH4, hap] <;> rfl, k + 1, i + 1, by omega, rfl, by omega, .inr ⟨p + 1, na, hst.symm, hal2, rfl⟩⟩
     ·rw [if_neg (by rw [hz]; simp), List.append_nil] at hst
      refine zK ?_
      simp only [zT, zB]
      refine zR (zO (by simp [zC h70, zC h71, zC h74, callF_eff h75 rfl, ↓orc_nil, dropE, onlyJ, -lenA, ↓encS_rb, ↓frN_mapS, HH2, ↓tk, ↓hff, HH4]; rfl) ?_)
      simp only [zT, zB]
      exact ⟨NN - (k + 1), _, _, by omega, by simp [zC h70, zC h71, zC h74, callF_eff h75 rfl, ↓orc_nil, dropE, onlyJ, -lenA, ↓encS_rb, ↓frN_mapS, HH2, ↓tk, ↓hff, HH4] <;> rfl, k + 1, i + 1, by omega, rfl, by omega, .inr ⟨p, ac, by rw [hst, hac], hal, rfl⟩⟩
    ·have hx1 := of_decide_eq_false hlt
     have hkE : k = NN := by omega
     subst hkE
     have hmin := min_eq (L := ac) (tt := false) (by rw [hac]; exact hne2) (by omega) (by rw [hac]; exact fun l hl => by have := nevL_mem s js _ l hl; omega)
     rw [← hac]
     have fz1 := fun H d => frz_encS H d ac
     have fm := fun H d => dInts_frz (dInts_encV (minL ac)) H d
     have rm := fun n d => dInts_rb (dInts_encV (minL ac)) n d
     generalize minL ac = mn at *
     have HH5 := zA hlp (zA hal (zA hr3 (zA hmin (zA fm rm))))
     refine runs_exit ?_
     simp only [zT, zB, if_true, if_false, reduceIte, Nat.reduceEqDiff, Nat.succ_ne_zero, Nat.one_ne_zero, Nat.zero_ne_one]
     refine zS ?_
     refine zR (zO (by simp [zC h70, zC h71, zC h74, callF_eff h75 rfl, ↓orc_nil, dropE, onlyJ, -lenA, ↓encS_rb, ↓frN_mapS, HH2, ↓tk, ↓hff, ↓fz1, HH5]; rfl) ?_)
     simp only [zT, zB]
     refine runs_ret ?_
     simp [zC h70, zC h71, zC h74, callF_eff h75 rfl, ↓orc_nil, dropE, onlyJ, -lenA, ↓encS_rb, ↓frN_mapS, HH2, ↓tk, ↓hff, ↓fz1, HH5, trim]
 ·have hbe : nevE s js = shopE s js := by unfold nevE; rw [if_neg h0]
  rw [hbe, if_neg h0]
  have HH6 := zA h70 (zA h71 (zA h74 (zA h75 (zA fc (zA ft (zA fj (zA rc (zA rt (zA rj (zA lc (zA lt (zA lj (zA cc1 (zA cc2 (zA ct1 (zA ct2 (zA cj1 (zA cj2 (zA hop h0)))))))))))))))))))
  refine zS ?_
  refine zR (zO (by simp [zC h70, zC h71, zC h74, callF_eff h75 rfl, ↓orc_nil, dropE, onlyJ, -lenA, zWork, HH6]; rfl) ?_)
  simp only [zT, zB]
  refine zS ?_
  refine zR (zO (by simp [zC h70, zC h71, zC h74, callF_eff h75 rfl, ↓orc_nil, dropE, onlyJ, -lenA, zWork, HH6]; rfl) ?_)
  simp only [zT, zB]
  refine zS ?_
  refine zS ?_
  refine zR (zO (by simp [zC h70, zC h71, zC h74, callF_eff h75 rfl, ↓orc_nil, dropE, onlyJ, -lenA, zWork, HH6]; rfl) ?_)
  simp only [zT, zB]
  refine runs_cond (x := true) (by simp [h0]) ?_
  refine zS ?_
  refine zR (zO (by simp [zC h70, zC h71, zC h74, callF_eff h75 rfl, ↓orc_nil, dropE, onlyJ, -lenA, zWork, HH6]; rfl) ?_)
  simp only [zT, zB]
  refine runs_ret ?_
  simp [zC h70, zC h71, zC h74, callF_eff h75 rfl, ↓orc_nil, dropE, onlyJ, -lenA, zWork, HH6, trim]
theorem never_good : ∀ args v, oNever args = some v → OrcGood Tryz.prog GG false 33 args v := fun args v ho => by
  unfold oNever at ho; split at ho <;> (try simp only [reduceCtorEq] at ho)
  rename_i m c t j
  split at ho <;> (try simp only [reduceCtorEq] at ho)
  rename_i cs ts js hc ht hj
  split at ho <;> (try simp only [reduceCtorEq] at ho)
  rename_i hz
  simp only [Option.some.injEq] at ho
  subst ho
  exact orc_of mixed BI5_ok (a33 Tryz.prog BI5 rfl rfl rfl rfl rfl ⟨m, cs, ts⟩ js c t j hc ht hj (size_ok.1 hz))
end
section
attribute [local simp] Function.comp_def List.all_append List.all_map above callA calleeA frNB_none frNB_row frN_agg frN_bool frN_int frN_nils frN_ref frN_sl frN_tup frN_vl frzG gather getR lim lop loud lowA lowR norm okG posOf putG putH putR rbB_none rbB_row resG rowAt setH takeG
def sWork : List AVal → Option (AVal × Heap)
  | [j] => match dJobs j with
    | some js => if js.length ≤ 1000 ∧ (∀ x ∈ js, x.mins.length ≤ 1000) then some (.sl 0 0 js.length false, [some (.row 4 (js.map rowJ))]) else none
    | none => none
  | _ => none
theorem sWork_eq {j : AVal} {js : List FJob} (hj : dJobs j = some js) (h : js.length ≤ 1000 ∧ ∀ x ∈ js, x.mins.length ≤ 1000) : sWork [j] = some (.sl 0 0 js.length false, [some (.row 4 (js.map rowJ))]) := by
  simp only [sWork, hj]; rw [if_pos h]
theorem okJ (js : List FJob) : okBlk false (some (.row 4 (js.map rowJ))) = true := rowJ_rb 0 4 js
theorem a60f (P : Program) (T : Nat → Option CFn) (hT : T 60 = some { c60 with body := annK [(25, [.slot 3])] [] c60.body }) (j : AVal) (js : List FJob) (hj : dJobs j = some js) (hl : js.length ≤ 1000) (hm : ∀ x ∈ js, x.mins.length ≤ 1000) : Answers P T 60 [j] [] fun v1 h1 => ∃ K : List Nat, K.Nodup ∧ K.length = [some (Blk.row 4 (js.map rowJ))].length ∧ (∀ p (hp : p < K.length) b, [some (Blk.row 4 (js.map rowJ))][p]? = some (some b) → h1[K[p]]? = some (some b)) ∧ keepB false K h1 (looseV v1) = some (.sl 0 0 js.length false) := by
 have fj := fun H d => dJobs_frz hj H d
 have rj := fun n d => dJobs_rb hj n d
 have lj := dJobs_len hj
 obtain ⟨cj1, cj2⟩ := dJobs_cells hj
 refine answers_of hT (orcF_none rfl) ?_
 simp only [oo, om, op, og, ci, cl, c60, annK, lkG, lkR, reduceIte, Nat.reduceEqDiff, reduceCtorEq, List.cons.injEq, and_true, and_false, false_and, true_and]
 have HH1 := zA fj (zA rj (zA lj (zA cj1 cj2)))
 refine zS ?_
 refine zR (zO (by simp [-lenA, HH1]; rfl) ?_)
 simp only [zT, zB]
 refine zS ?_
 refine zR (zO (by simp [-lenA, HH1]; rfl) ?_)
 simp only [zT, zB]
 refine zS ?_
 refine zS ?_
 refine zR (zO (by simp [-lenA, HH1]; rfl) ?_)
 simp only [zT, zB]
 refine zL ?_
 refine runs_loopG_inv (fun mm σ => ∃ (k : Nat) (i : Int), i = k ∧ js.length - k = mm ∧ k ≤ js.length ∧ ((k = 0 ∧ σ = ⟨[j, .any, .any, .sl 1 0 0 true, I i, .any, .any, .any, .any, .any, .any, .any, .any, .any, .any, .any, .any, .any, .any, .any, .any, .any, .any, .any, .any, .any, .any], [none, some (.row 4 [])]⟩) ∨ (∃ (p : Nat) (ac : List FJob), k = p + 1 ∧ ac = js.take k ∧ ac.length = p + 1 ∧ σ = ⟨[j, .any, .any, .sl 1 0 (p + 1) false, I i, .any, .any, .any, .any, .any, .any, .any, .any, .any, .any, .any, .any, .any, .any, .any, .any, .any, .any, .any, .any, .any, .any], [none, some (.row 4 (ac.map rowJ))]⟩))) (by simp [-lenA, HH1] <;> first | exact ⟨rfl, rfl⟩ | rfl) (⟨0, 0, rfl, rfl, Nat.zero_le _, .inl ⟨rfl, rfl⟩⟩) ?_
 rintro mm σ ⟨k, i, hik, rfl, hkl, ⟨hk0', rfl⟩ | ⟨p, ac, hkp, hac, hacl, rfl⟩⟩
 ·refine zS ?_
  refine zS ?_
  refine zR (zO (by simp [-lenA, HH1]; rfl) ?_)
  simp only [zT, zB]
  refine runs_cond_split (x := decide (i < (js.length : Int))) (by simp) (fun hlt => ?_) (fun hlt => ?_)
  ·have hlt2 := of_decide_eq_true hlt
   have hk0 : k < js.length := by omega
   have hEt : js.take (k + 1) = js.take k ++ [js[k]] := List.take_succ_eq_append_getElem hk0
   obtain ⟨rs, tj, wv, rfl, hr1, hr2, hwv⟩ := dJobs_get hj hk0
   have hkr : k < rs.length := by omega
   have hr4 : ∀ h, rs[k]'h = [I js[k].kind, I js[k].ready, I js[k].due, wv] := fun h => by rw [List.getElem?_eq_getElem h] at hr2; exact Option.some.inj hr2
   have rw5 := fun n d => dInts_rb hwv n d
   have fw5 := fun H d => dInts_frz hwv H d
   obtain ⟨cw1, cw2⟩ := dInts_cells hwv
   have hi0 : 0 ≤ i := by omega
   have htn : i.toNat = k := by omega
   have hwi : W .i64 (i + 1) = i + 1 := W_small (by omega)
   have hml := hm js[k] (List.getElem_mem hk0)
   generalize hX : js[k] = X at *
   obtain ⟨xk, xr, xd, xm⟩ := X
   simp only at hwv hml hr2 hr4
   have hnx : [(⟨xk, xr, xd, xm⟩ : FJob)] = js.take (k + 1) := by rw [hEt, hk0']; rfl
   have hap : [[I xk, I xr, I xd, encE xm]] = [(⟨xk, xr, xd, xm⟩ : FJob)].map rowJ := rfl
   rcases xm with _ | ⟨a, l⟩
   ·simp only [encE] at hap
    rcases dInts_cases hwv with ⟨rfl, _⟩ | ⟨tt, rfl⟩
    ·have HH2 := zA hi0 (zA htn (zA hk0 (zA hX (zA hwi (zA hkr (zA hr2 (zA hr4 (zA rw5 (zA fw5 (zA cw1 cw2))))))))))
     refine zK ?_
     simp only [zT, zB]
     refine zS ?_
     refine zL ?_
     refine zS ?_
     refine zR (zO (by simp [-lenA, HH1, zI, HH2]; rfl) ?_)
     simp only [zT, zB]
     refine zS ?_
     refine zR (zO (by simp [-lenA, HH1, zI, HH2]; rfl) ?_)
     simp only [zT, zB]
     refine zR (zO (by simp [-lenA, HH1, zI, HH2]; rfl) ?_)
     simp only [zT, zB]
     refine zR (zO (by simp [-lenA, HH1, zI, HH2]; rfl) ?_)
     simp only [zT, zB]
     exact ⟨js.length - (k + 1), _, _, by omega, by simp [-lenA, HH1, zI, HH2] <;> rfl, k + 1, i + 1, by omega, rfl, by omega, .inr ⟨0, _, by omega, hnx, rfl, rfl⟩⟩
    ·have HH3 := zA hi0 (zA htn (zA hk0 (zA hX (zA hwi (zA hkr (zA hr2 (zA hr4 (zA rw5 (zA fw5 (zA cw1 cw2))))))))))
     refine zK ?_
     simp only [zT, zB]
     refine zS ?_
     refine zL ?_
     refine zS ?_
     refine zR (zO (by simp [-lenA, HH1, zI, HH3]; rfl) ?_)
     simp only [zT, zB]
     refine zS ?_
     refine zR (zO (by simp [-lenA, HH1, zI, HH3]; rfl) ?_)
     simp only [zT, zB]
     refine zR (zO (by simp [-lenA, HH1, zI, HH3]; rfl) ?_)
     simp only [zT, zB]
     refine zR (zO (by simp [-lenA, HH1, zI, HH3]; rfl) ?_)
     simp only [zT, zB]
     exact ⟨js.length - (k + 1), _, _, by omega, by simp [-lenA, HH1, zI, HH3] <;> rfl, k + 1, i + 1, by omega, rfl, by omega, .inr ⟨0, _, by omega, hnx, rfl, rfl⟩⟩
   ·obtain ⟨tt, rfl⟩ := dInts_get hwv (k := 0) (by simp)
    simp only [encE] at hap
    have hll : l.length + 1 ≤ 1048576 := by simp at hml; omega
    have hrr : ((l.map rI).all fun r => r.length == 1) = true := by simp [rI]
    have hss : ((l.map rI).all fun r => r.all storable) = true := by simp [rI]
    have tkl : (l.map rI).take l.length = l.map rI := List.take_of_length_le (by simp)
    have HH4 := zA hi0 (zA htn (zA hk0 (zA hX (zA hwi (zA hkr (zA hr2 (zA hr4 (zA rw5 (zA fw5 (zA cw1 (zA cw2 (zA hll tkl))))))))))))
    refine zK ?_
    simp only [zT, zB]
    refine zS ?_
    refine zL ?_
    refine zS ?_
    refine zR (zO (by simp [-lenA, HH1, zI, ↓hrr, ↓hss, frz_mapI, HH4]; rfl) ?_)
    simp only [zT, zB]
    refine zS ?_
    refine zR (zO (by simp [-lenA, HH1, zI, ↓hrr, ↓hss, frz_mapI, HH4]; rfl) ?_)
    simp only [zT, zB]
    refine zR (zO (by simp [-lenA, HH1, zI, ↓hrr, ↓hss, frz_mapI, HH4]; rfl) ?_)
    simp only [zT, zB]
    refine zR (zO (by simp [-lenA, HH1, zI, ↓hrr, ↓hss, frz_mapI, HH4]; rfl) ?_)
    simp only [zT, zB]
    exact ⟨js.length - (k + 1), _, _, by omega, by simp [-lenA, HH1, zI, ↓hrr, ↓hss, frz_mapI, HH4] <;> rfl, k + 1, i + 1, by omega, rfl, by omega, .inr ⟨0, _, by omega, hnx, rfl, rfl⟩⟩
  ·have hx1 := of_decide_eq_false hlt
   have hkE : k = js.length := by omega
   have htE : js.take k = js := List.take_of_length_le (by omega)
   have hE0 : js = [] := List.eq_nil_of_length_eq_zero (by omega)
   subst hE0
   refine runs_exit ?_
   simp only [zT, zB, if_true, if_false, reduceIte, Nat.reduceEqDiff, Nat.succ_ne_zero, Nat.one_ne_zero, Nat.zero_ne_one]
   refine zS ?_
   refine zR (zO (by simp [-lenA, HH1]; rfl) ?_)
   simp only [zT, zB]
   refine runs_ret ?_
   refine ⟨by simp, _, by simp; rfl, [1], by simp, rfl, fun q hq b hb => ?_, by simp [keepB, keepA, looseV, looseA, trim]⟩
   obtain rfl : q = 0 := by simp at hq; omega
   simpa [trim, tupA, rb_sl, rbB_row, rbB_none] using hb
 ·have tk : (ac.map rowJ).take (p + 1) = ac.map rowJ := List.take_of_length_le (by simp [hacl])
  have hlac : p + 1 + 1 ≤ 1048576 := by omega
  have hr3 : ∀ e : FJob, (rowJ e).length = 4 := fun _ => rfl
  have hfr := fun n h r => optAll_snoc (frN_rowJ n h ac) r
  have hrj := rowJ_rb 1 4 ac
  refine zS ?_
  refine zS ?_
  refine zR (zO (by simp [-lenA, HH1, tk, hlac, hacl, hr3, ↓hfr, ↓hrj]; rfl) ?_)
  simp only [zT, zB]
  refine runs_cond_split (x := decide (i < (js.length : Int))) (by simp) (fun hlt => ?_) (fun hlt => ?_)
  ·have hlt2 := of_decide_eq_true hlt
   have hk0 : k < js.length := by omega
   have hEt : js.take (k + 1) = js.take k ++ [js[k]] := List.take_succ_eq_append_getElem hk0
   obtain ⟨rs, tj, wv, rfl, hr1, hr2, hwv⟩ := dJobs_get hj hk0
   have hkr : k < rs.length := by omega
   have hr4 : ∀ h, rs[k]'h = [I js[k].kind, I js[k].ready, I js[k].due, wv] := fun h => by rw [List.getElem?_eq_getElem h] at hr2; exact Option.some.inj hr2
   have rw5 := fun n d => dInts_rb hwv n d
   have fw5 := fun H d => dInts_frz hwv H d
   obtain ⟨cw1, cw2⟩ := dInts_cells hwv
   have hi0 : 0 ≤ i := by omega
   have htn : i.toNat = k := by omega
   have hwi : W .i64 (i + 1) = i + 1 := W_small (by omega)
   have hml := hm js[k] (List.getElem_mem hk0)
   generalize hX : js[k] = X at *
   obtain ⟨xk, xr, xd, xm⟩ := X
   simp only at hwv hml hr2 hr4
   have hnx : ac ++ [(⟨xk, xr, xd, xm⟩ : FJob)] = js.take (k + 1) := by rw [hEt, ← hac]
   have hnl : (ac ++ [(⟨xk, xr, xd, xm⟩ : FJob)]).length = p + 1 + 1 := by simp [hacl]
   have hap : ac.map rowJ ++ [[I xk, I xr, I xd, encE xm]] = (ac ++ [(⟨xk, xr, xd, xm⟩ : FJob)]).map rowJ := by rw [List.map_append]; rfl
   rcases xm with _ | ⟨a, l⟩
   ·simp only [encE] at hap
    rcases dInts_cases hwv with ⟨rfl, _⟩ | ⟨tt, rfl⟩
    ·have HH5 := zA tk (zA hlac (zA hacl (zA hr3 (zA hi0 (zA htn (zA hk0 (zA hX (zA hwi (zA hkr (zA hr2 (zA hr4 (zA rw5 (zA fw5 (zA cw1 (zA cw2 hap)))))))))))))))
     refine zK ?_
     simp only [zT, zB]
     refine zS ?_
     refine zL ?_
     refine zS ?_
     refine zR (zO (by simp [-lenA, HH1, ↓hfr, ↓hrj, zI, HH5]; rfl) ?_)
     simp only [zT, zB]
     refine zS ?_
     refine zR (zO (by simp [-lenA, HH1, ↓hfr, ↓hrj, zI, HH5]; rfl) ?_)
     simp only [zT, zB]
     refine zR (zO (by simp [-lenA, HH1, ↓hfr, ↓hrj, zI, HH5]; rfl) ?_)
     simp only [zT, zB]
     refine zR (zO (by simp [-lenA, HH1, ↓hfr, ↓hrj, zI, HH5]; rfl) ?_)
     simp only [zT, zB]
     exact ⟨js.length - (k + 1), _, _, by omega, by simp [-lenA, HH1, ↓hfr, ↓hrj, zI, HH5] <;> rfl, k + 1, i + 1, by omega, rfl, by omega, .inr ⟨p + 1, _, by omega, hnx, hnl, rfl⟩⟩
    ·have HH6 := zA tk (zA hlac (zA hacl (zA hr3 (zA hi0 (zA htn (zA hk0 (zA hX (zA hwi (zA hkr (zA hr2 (zA hr4 (zA rw5 (zA fw5 (zA cw1 (zA cw2 hap)))))))))))))))
     refine zK ?_
     simp only [zT, zB]
     refine zS ?_
     refine zL ?_
     refine zS ?_
     refine zR (zO (by simp [-lenA, HH1, ↓hfr, ↓hrj, zI, HH6]; rfl) ?_)
     simp only [zT, zB]
     refine zS ?_
     refine zR (zO (by simp [-lenA, HH1, ↓hfr, ↓hrj, zI, HH6]; rfl) ?_)
     simp only [zT, zB]
     refine zR (zO (by simp [-lenA, HH1, ↓hfr, ↓hrj, zI, HH6]; rfl) ?_)
     simp only [zT, zB]
     refine zR (zO (by simp [-lenA, HH1, ↓hfr, ↓hrj, zI, HH6]; rfl) ?_)
     simp only [zT, zB]
     exact ⟨js.length - (k + 1), _, _, by omega, by simp [-lenA, HH1, ↓hfr, ↓hrj, zI, HH6] <;> rfl, k + 1, i + 1, by omega, rfl, by omega, .inr ⟨p + 1, _, by omega, hnx, hnl, rfl⟩⟩
   ·obtain ⟨tt, rfl⟩ := dInts_get hwv (k := 0) (by simp)
    simp only [encE] at hap
    have hll : l.length + 1 ≤ 1048576 := by simp at hml; omega
    have hrr : ((l.map rI).all fun r => r.length == 1) = true := by simp [rI]
    have hss : ((l.map rI).all fun r => r.all storable) = true := by simp [rI]
    have tkl : (l.map rI).take l.length = l.map rI := List.take_of_length_le (by simp)
    have HH7 := zA tk (zA hlac (zA hacl (zA hr3 (zA hi0 (zA htn (zA hk0 (zA hX (zA hwi (zA hkr (zA hr2 (zA hr4 (zA rw5 (zA fw5 (zA cw1 (zA cw2 (zA hll (zA tkl hap)))))))))))))))))
    refine zK ?_
    simp only [zT, zB]
    refine zS ?_
    refine zL ?_
    refine zS ?_
    refine zR (zO (by simp [-lenA, HH1, ↓hfr, ↓hrj, zI, ↓hrr, ↓hss, frz_mapI, HH7]; rfl) ?_)
    simp only [zT, zB]
    refine zS ?_
    refine zR (zO (by simp [-lenA, HH1, ↓hfr, ↓hrj, zI, ↓hrr, ↓hss, frz_mapI, HH7]; rfl) ?_)
    simp only [zT, zB]
    refine zR (zO (by simp [-lenA, HH1, ↓hfr, ↓hrj, zI, ↓hrr, ↓hss, frz_mapI, HH7]; rfl) ?_)
    simp only [zT, zB]
    refine zR (zO (by simp [-lenA, HH1, ↓hfr, ↓hrj, zI, ↓hrr, ↓hss, frz_mapI, HH7]; rfl) ?_)
    simp only [zT, zB]
    exact ⟨js.length - (k + 1), _, _, by omega, by simp [-lenA, HH1, ↓hfr, ↓hrj, zI, ↓hrr, ↓hss, frz_mapI, HH7] <;> rfl, k + 1, i + 1, by omega, rfl, by omega, .inr ⟨p + 1, _, by omega, hnx, hnl, rfl⟩⟩
  ·have hx1 := of_decide_eq_false hlt
   have hkE : k = js.length := by omega
   have htE : js.take k = js := List.take_of_length_le (by omega)
   rw [htE] at hac
   subst hac
   refine runs_exit ?_
   simp only [zT, zB, if_true, if_false, reduceIte, Nat.reduceEqDiff, Nat.succ_ne_zero, Nat.one_ne_zero, Nat.zero_ne_one]
   refine zS ?_
   refine zR (zO (by simp [-lenA, HH1, tk, hlac, hacl, hr3, ↓hfr, ↓hrj, frz_rowJ]; rfl) ?_)
   simp only [zT, zB]
   refine runs_ret ?_
   refine ⟨by simp, _, by simp; rfl, [1], by simp, rfl, fun q hq b hb => ?_, by simp [keepB, keepA, looseV, looseA, trim, hacl]⟩
   obtain rfl : q = 0 := by simp at hq; omega
   simpa [trim, tupA, rb_sl, rbB_row, rbB_none, ↓hrj] using hb
theorem a17f (P : Program) (T : Nat → Option CFn) (hT : T 17 = some c17) (h60 : T 60 = some { c60 with body := annK [(25, [.slot 3])] [] c60.body, frsh := false, orc := fun _ => none, eff := freshE false sWork }) (j : AVal) (js : List FJob) (hj : dJobs j = some js) (hl : js.length ≤ 1000) (hm : ∀ x ∈ js, x.mins.length ≤ 1000) : Answers P T 17 [j] [] fun v1 h1 => ∃ K : List Nat, K.Nodup ∧ K.length = [some (Blk.row 4 (js.map rowJ))].length ∧ (∀ p (hp : p < K.length) b, [some (Blk.row 4 (js.map rowJ))][p]? = some (some b) → h1[K[p]]? = some (some b)) ∧ keepB false K h1 (looseV v1) = some (.sl 0 0 js.length false) := by
 have fj := fun H d => dJobs_frz hj H d
 have rj := fun n d => dJobs_rb hj n d
 obtain ⟨cj1, cj2⟩ := dJobs_cells hj
 have h := sWork_eq hj ⟨hl, hm⟩
 have hok : ((js.map rowJ).all fun x => x.all (okA false)) = true := okJ js
 refine answers_of hT (orcF_none rfl) ?_
 simp only [oo, om, op, og, ci, cl, c17]
 have HH1 := zA h60 (zA fj (zA rj (zA cj1 (zA cj2 h))))
 refine zS ?_
 refine zR (zO (by simp [callF_eff h60 rfl, ↓orc_nil, freshE, backB, backB1, okA, okBlk, plainA, ↓hok, HH1]; rfl) ?_)
 simp only [zT, zB]
 refine zS ?_
 refine zR (zO (by simp [callF_eff h60 rfl, ↓orc_nil, freshE, backB, backB1, okA, okBlk, plainA, ↓hok, HH1]; rfl) ?_)
 simp only [zT, zB]
 refine runs_ret ?_
 refine ⟨by simp, _, by simp; rfl, [0], by simp, rfl, fun q hq b hb => ?_, by simp [keepB, keepA, looseV, looseA]⟩
 obtain rfl : q = 0 := by simp at hq; omega
 simpa [trim, tupA, rb_sl] using hb
noncomputable def BK1 : Nat → Option CFn := upd FT3 60 false (fun _ => none)
theorem BK1_ok : TabOk Tryz.prog GG BK1 := tab_add mixed FT3_ok fun args v ho => by simp at ho
theorem sWork_at {P : Program} {T : Nat → Option CFn} {f : Nat} (hf : ∀ (j : AVal) (js : List FJob) (hj : dJobs j = some js) (hl : js.length ≤ 1000) (hm : ∀ x ∈ js, x.mins.length ≤ 1000), Answers P T f [j] [] fun v1 h1 => ∃ K : List Nat, K.Nodup ∧ K.length = [some (Blk.row 4 (js.map rowJ))].length ∧ (∀ p (hp : p < K.length) b, [some (Blk.row 4 (js.map rowJ))][p]? = some (some b) → h1[K[p]]? = some (some b)) ∧ keepB false K h1 (looseV v1) = some (.sl 0 0 js.length false)) :
    ∀ args v hs, sWork args = some (v, hs) → Answers P T f args [] fun v1 h1 => ∃ K : List Nat, K.Nodup ∧ K.length = hs.length ∧ (∀ p (hp : p < K.length) b, hs[p]? = some (some b) → h1[K[p]]? = some (some b)) ∧ keepB false K h1 (looseV v1) = some v := fun args v hs ho => by
  unfold sWork at ho; split at ho <;> (try simp only [reduceCtorEq] at ho)
  rename_i j
  split at ho <;> (try simp only [reduceCtorEq] at ho)
  rename_i js hj
  split at ho <;> (try simp only [reduceCtorEq] at ho)
  rename_i hg
  simp only [Option.some.injEq, Prod.mk.injEq] at ho
  obtain ⟨rfl, rfl⟩ := ho
  exact hf j js hj hg.1 hg.2
noncomputable def BK2 : Nat → Option CFn := updE BK1 60 (freshE false sWork)
theorem BK2_ok : TabOk Tryz.prog GG BK2 := tab_fresh2 mixed BK1_ok (sWork_at (a60f Tryz.prog BK1 rfl))
noncomputable def BK3 : Nat → Option CFn := upd BK2 17 false (fun _ => none)
theorem BK3_ok : TabOk Tryz.prog GG BK3 := tab_add mixed BK2_ok fun args v ho => by simp at ho
noncomputable def BK4 : Nat → Option CFn := updE BK3 17 (freshE false sWork)
theorem BK4_ok : TabOk Tryz.prog GG BK4 := tab_fresh2 mixed BK3_ok (sWork_at (a17f Tryz.prog BK3 rfl rfl))
noncomputable def BK5 : Nat → Option CFn := upd BK4 29 false (fun _ => none)
theorem BK5_ok : TabOk Tryz.prog GG BK5 := tab_add mixed BK4_ok fun args v ho => by simp at ho
noncomputable def BK6 : Nat → Option CFn := updE BK5 29 (dropE oBest)
theorem BK6_ok : TabOk Tryz.prog GG BK6 := tab_drop BK5_ok best_good
noncomputable def BK7 : Nat → Option CFn := upd BK6 33 false (fun _ => none)
theorem BK7_ok : TabOk Tryz.prog GG BK7 := tab_add mixed BK6_ok fun args v ho => by simp at ho
noncomputable def BK8 : Nat → Option CFn := updE BK7 33 (dropE oNever)
theorem BK8_ok : TabOk Tryz.prog GG BK8 := tab_drop BK7_ok never_good
noncomputable def BK9 : Nat → Option CFn := upd BK8 41 false oMade
theorem BK9_ok : TabOk Tryz.prog GG BK9 := tab_upd BK8_ok made_good
noncomputable def BK : Nat → Option CFn := upd BK9 42 true oOrder
theorem BK_ok : TabOk Tryz.prog GG BK := tab_upd BK9_ok order_good
end
end
end Go.Proofs.YtjjapdagllclkaaGreat.Tab
namespace Go.Proofs.YtjjapdagllclkaaGreat.Tab
open Go Go.Abs Go.Proofs
theorem lex_tr {a b c d e f : Int} (h1 : lexB a b c d = false) (h2 : lexB c d e f = false) : lexB a b e f = false := by
 simp only [lexB, Bool.or_eq_false_iff, Bool.and_eq_false_iff, decide_eq_false_iff_not] at *
 omega
def goodB (s : FShop) (js : List FJob) (b : FBest) : Prop := b.found = true → NowOk js b.order 0 ∧ (b.sum, b.last) = latO s js b.order
def leB (s : FShop) (js : List FJob) (b : FBest) (os : List Int) : Prop := b.found = true ∧ lexB (latO s js os).1 (latO s js os).2 b.sum b.last = false
theorem leB_tr {s : FShop} {js : List FJob} {b b' : FBest} {os : List Int} (h : leB s js b os) (h2 : b.found = true → b'.found = true ∧ lexB b.sum b.last b'.sum b'.last = false) : leB s js b' os :=
 ⟨(h2 h.1).1, lex_tr h.2 (h2 h.1).2⟩
theorem lex_self (a b : Int) : lexB a b a b = false := by simp [lexB]
theorem find_all {s : FShop} {js : List FJob} : ∀ (d : Nat) (now : List Int) (b : FBest), NowOk js now d → goodB s js b →
  goodB s js (findF s js d now b) ∧ (b.found = true → (findF s js d now b).found = true ∧ lexB b.sum b.last (findF s js d now b).sum (findF s js d now b).last = false) ∧
  ∀ os, NowOk js os 0 → now <+: os → leB s js (findF s js d now b) os
 | 0, now, b, hw, hb => by
  simp only [findF, betterB]
  split
  ·rename_i hc
   refine ⟨fun _ => ⟨hw, rfl⟩, fun hf => ⟨rfl, ?_⟩, fun os ho hp => ?_⟩
   ·rw [hf] at hc
    simp only [Bool.not_true, Bool.false_or, lexB, Bool.or_eq_true, Bool.and_eq_true, decide_eq_true_eq] at hc
    simp only [lexB, Bool.or_eq_false_iff, Bool.and_eq_false_iff, decide_eq_false_iff_not]
    omega
   ·have he : now = os := hp.eq_of_length (by have := hw.len; have := ho.len; omega)
    subst he
    exact ⟨rfl, lex_self _ _⟩
  ·rename_i hc
   have hc2 : b.found = true ∧ lexB (latO s js now).1 (latO s js now).2 b.sum b.last = false := by
    revert hc
    cases b.found <;> simp
   refine ⟨hb, fun hf => ⟨hf, lex_self _ _⟩, fun os ho hp => ?_⟩
   have he : now = os := hp.eq_of_length (by have := hw.len; have := ho.len; omega)
   subst he
   exact hc2
 | d + 1, now, b, hw, hb => by
  have key : ∀ k, k ≤ js.length → goodB s js ((List.range k).foldl (fun b (i : Nat) => if (i : Int) ∈ now then b else findF s js d (now ++ [(i : Int)]) b) b) ∧
    (b.found = true → ((List.range k).foldl (fun b (i : Nat) => if (i : Int) ∈ now then b else findF s js d (now ++ [(i : Int)]) b) b).found = true ∧ lexB b.sum b.last ((List.range k).foldl (fun b (i : Nat) => if (i : Int) ∈ now then b else findF s js d (now ++ [(i : Int)]) b) b).sum ((List.range k).foldl (fun b (i : Nat) => if (i : Int) ∈ now then b else findF s js d (now ++ [(i : Int)]) b) b).last = false) ∧
    ∀ i : Nat, i < k → (i : Int) ∉ now → ∀ os, NowOk js os 0 → (now ++ [(i : Int)]) <+: os → leB s js ((List.range k).foldl (fun b (i : Nat) => if (i : Int) ∈ now then b else findF s js d (now ++ [(i : Int)]) b) b) os := by
   intro k
   induction k with
   | zero => intro _; exact ⟨hb, fun hf => ⟨hf, lex_self _ _⟩, fun i hi => by omega⟩
   | succ k ih =>
    intro hk
    obtain ⟨i1, i2, i3⟩ := ih (by omega)
    rw [List.range_succ, List.foldl_append]
    simp only [List.foldl_cons, List.foldl_nil]
    generalize (List.range k).foldl (fun b (i : Nat) => if (i : Int) ∈ now then b else findF s js d (now ++ [(i : Int)]) b) b = bk at *
    split
    ·rename_i hm
     refine ⟨i1, i2, fun i hi hn => ?_⟩
     by_cases e : i = k
     ·subst e; exact absurd hm hn
     ·exact i3 i (by omega) hn
    ·rename_i hm
     obtain ⟨f1, f2, f3⟩ := find_all d _ bk (hw.snoc (by omega) hm) i1
     refine ⟨f1, fun hf => ⟨(f2 (i2 hf).1).1, lex_tr (i2 hf).2 (f2 (i2 hf).1).2⟩, fun i hi hn os ho hp => ?_⟩
     by_cases e : i = k
     ·subst e; exact f3 os ho hp
     ·exact leB_tr (i3 i (by omega) hn os ho hp) f2
  simp only [findF]
  obtain ⟨k1, k2, k3⟩ := key js.length (Nat.le_refl _)
  refine ⟨k1, k2, fun os ho hp => ?_⟩
  have hl : now.length < os.length := by have := hw.len; have := ho.len; omega
  obtain ⟨tl, htl⟩ := hp
  cases tl with
  | nil => rw [List.append_nil] at htl; rw [htl] at hl; omega
  | cons x tl =>
   have hx : x ∈ os := by rw [← htl]; simp
   have hx2 := ho.mem x hx
   have hxn : x ∉ now := by
    have := ho.nodup
    rw [← htl] at this
    intro h
    exact (List.nodup_append.1 this).2.2 x h x (by simp) rfl
   have hxe : ((x.toNat : Nat) : Int) = x := by omega
   exact k3 x.toNat (by omega) (by rw [hxe]; exact hxn) os ho ⟨tl, by rw [hxe, ← htl]; simp⟩
theorem upTo_now (js : List FJob) : NowOk js (upTo js.length) 0 := ⟨upTo_nodup _, fun i hi => upTo_mem.1 hi, by rw [upTo_len]; omega⟩
theorem best_all {s : FShop} {js : List FJob} (h : ShopOk s js) : NowOk js (bestF s js).order 0 ∧ ((bestF s js).sum, (bestF s js).last) = latO s js (bestF s js).order ∧ ∀ os, NowOk js os 0 → lexB (latO s js os).1 (latO s js os).2 (bestF s js).sum (bestF s js).last = false := by
 have e : bestF s js = findF s js js.length [] bz := best_find h
 rw [e]
 obtain ⟨h1, _, h3⟩ := find_all (s := s) js.length [] bz (NowOk.nil js) (fun h => by simp [bz] at h)
 have hf := (h3 _ (upTo_now js) (List.nil_prefix)).1
 exact ⟨(h1 hf).1, (h1 hf).2, fun os ho => (h3 os ho (List.nil_prefix)).2⟩
theorem ord_now {js : List FJob} {os : List Int} (h : ordB os js.length = true) : NowOk js os 0 := ⟨ord_nodup h, fun i hi => (ord_mem h).1 hi, by have := ord_len h; omega⟩
theorem late_zero {E : List Int} {js : List FJob} : ∀ k, 0 ≤ (latF E js k).1 ∧ ((lateL E js k).length = 0 ↔ (latF E js k).1 = 0)
 | 0 => by simp [latF, lateL]
 | k + 1 => by
  obtain ⟨h1, h2⟩ := late_zero (E := E) (js := js) k
  simp only [latF, lateL, List.length_append]
  split
  ·rename_i h
   refine ⟨by omega, ?_⟩
   simp only [List.length_cons, List.length_nil]
   omega
  ·rename_i h
   simp only [List.length_nil, Nat.add_zero]
   rw [h2]
   omega
theorem minL_short : ∀ {l : List (List Int)} {x : List Int}, x ∈ l → (minL l).length ≤ x.length := by
 have step : ∀ (m y : List Int), (minS m y).length ≤ m.length ∧ (minS m y).length ≤ y.length := by
  intro m y
  unfold minS
  split
  ·rename_i h
   unfold cmpN at h
   split at h <;> omega
  ·rename_i h
   unfold cmpN at h
   split at h <;> omega
 have fold : ∀ (l : List (List Int)) (m : List Int), (l.foldl minS m).length ≤ m.length ∧ ∀ x ∈ l, (l.foldl minS m).length ≤ x.length := by
  intro l
  induction l with
  | nil => intro m; exact ⟨Nat.le_refl _, fun x hx => by simp at hx⟩
  | cons y l ih =>
   intro m
   obtain ⟨i1, i2⟩ := ih (minS m y)
   have := step m y
   rw [List.foldl_cons]
   refine ⟨by omega, fun x hx => ?_⟩
   rcases List.mem_cons.1 hx with rfl | hx
   ·omega
   ·exact i2 x hx
 intro l x hx
 cases l with
 | nil => simp at hx
 | cons y l =>
  obtain ⟨f1, f2⟩ := fold l y
  rcases List.mem_cons.1 hx with rfl | hx
  ·exact f1
  ·exact f2 x hx
theorem nevL_iff (s : FShop) (js : List FJob) (x : List Int) : ∀ k, x ∈ nevL s js k ↔ ∃ i : Nat, i < k ∧ badB s js (i : Int) = true ∧ x = numL (i : Int) js.length
 | 0 => by simp [nevL]
 | k + 1 => by
  rw [nevL, List.mem_append, nevL_iff s js x k]
  constructor
  ·rintro (⟨i, h1, h2⟩ | h)
   ·exact ⟨i, by omega, h2⟩
   ·split at h
    ·rename_i hb
     exact ⟨k, by omega, hb, by simpa using h⟩
    ·simp at h
  ·rintro ⟨i, h1, h2, h3⟩
   by_cases e : i = k
   ·subst e
    rw [if_pos h2]
    exact .inr (by simpa using h3)
   ·exact .inl ⟨i, by omega, h2, h3⟩
theorem numL_mem {st : Int} {x : Int} : ∀ {n : Nat}, x ∈ numL st n ↔ 0 ≤ x ∧ x < n ∧ bitB st x.toNat = true
 | 0 => by simp [numL]; omega
 | n + 1 => by
  rw [numL, List.mem_append, numL_mem (n := n)]
  constructor
  ·rintro (⟨h1, h2, h3⟩ | h)
   ·exact ⟨h1, by omega, h3⟩
   ·split at h
    ·rename_i hb
     simp only [List.mem_singleton] at h
     subst h
     exact ⟨by omega, by omega, by simpa using hb⟩
    ·simp at h
  ·rintro ⟨h1, h2, h3⟩
   by_cases e : x = n
   ·subst e
    simp only [Int.toNat_natCast] at h3
    rw [if_pos h3]
    exact .inr (by simp)
   ·exact .inl ⟨h1, by omega, h3⟩
theorem numL_pair (st : Int) : ∀ n : Nat, (numL st n).Pairwise (· < ·)
  | 0 => List.Pairwise.nil
  | n + 1 => by
    rw [numL, List.pairwise_append]
    refine ⟨numL_pair st n, ?_, fun a ha b hb => ?_⟩
    · split <;> simp
    · have := (numL_mem.1 ha).2.1
      split at hb
      · simp only [List.mem_singleton] at hb; omega
      · simp at hb
theorem inSet_nums {α : Type} (st : Int) (dflt : α) (l : List α) : ∀ k, k ≤ l.length → inSet st 0 (l.take k) = (numL st k).map fun i => l.getD i.toNat dflt
 | 0, _ => rfl
 | k + 1, hk => by
  rw [inSet_take st (by omega), numL, List.map_append, inSet_nums st dflt l k (by omega)]
  congr 1
  split
  ·simp only [List.map_cons, List.map_nil, Int.toNat_natCast]
   rw [List.getD_eq_getElem?_getD, List.getElem?_eq_getElem (by omega)]; rfl
  ·rfl
theorem shopE_in {s : FShop} {js : List FJob} (h : shopE s js = 0) (st : Int) : shopE s (inSet st 0 js) = 0 := by
  unfold shopE at h ⊢
  split at h; · simp at h
  rename_i h1
  rw [if_neg h1]
  split at h; · simp at h
  rename_i h2
  rw [if_neg h2]
  split at h; · simp at h
  rename_i h3
  rw [if_neg h3]
  split at h; · simp at h
  rename_i h4
  rw [if_neg (by have := inSet_len st js 0; omega)]
  split at h; · simp at h
  rename_i h5
  rw [if_neg]
  simp only [Bool.not_eq_true', Bool.not_eq_false, List.all_eq_true] at h5 ⊢
  exact fun x hx => h5 x (inSet_mem hx)
end Go.Proofs.YtjjapdagllclkaaGreat.Tab
namespace Go.Proofs.YtjjapdagllclkaaGreat.Tab
open Go Go.Abs Go.Proofs
theorem bit_off : ∀ st : Nat, st < 64 → ∀ k : Nat, k < 6 → bitB (st : Int) k = true → 2 ^ k ≤ st ∧ ∀ j : Nat, j < 6 → bitB (((st - 2 ^ k : Nat)) : Int) j = (bitB (st : Int) j && decide (j ≠ k)) := by decide +kernel
theorem numL_off {st st2 : Int} {k : Nat} : ∀ n : Nat, (∀ j < n, bitB st2 j = (bitB st j && decide (j ≠ k))) → numL st2 n = (numL st n).filter fun x => decide (x ≠ (k : Int))
 | 0, _ => rfl
 | n + 1, h => by
  rw [numL, numL, List.filter_append, numL_off n fun j hj => h j (by omega), h n (by omega)]
  congr 1
  cases bitB st n with
  | false => simp
  | true =>
   by_cases e : n = k
   ·subst e; simp
   ·have : ¬ (n : Int) = (k : Int) := by omega
    simp [e, this]
theorem filter_all {l : List Int} {x : Int} (h : ∀ y ∈ l, y ≠ x) : (l.filter fun y => decide (y ≠ x)) = l := by
 rw [List.filter_eq_self]
 intro y hy
 simpa using h y hy
theorem filter_cut : ∀ {l : List Int} {i : Nat} (hi : i < l.length), l.Pairwise (· < ·) → (l.filter fun y => decide (y ≠ l[i])) = l.take i ++ l.drop (i + 1)
  | x :: l, 0, hi, h => by
    obtain ⟨h1, h2⟩ := List.pairwise_cons.1 h
    simp only [List.getElem_cons_zero, List.take_zero, List.nil_append, List.drop_succ_cons, List.drop_zero]
    rw [List.filter_cons, if_neg (by simp), filter_all fun y hy => by have := h1 y hy; omega]
  | x :: l, i + 1, hi, h => by
    obtain ⟨h1, h2⟩ := List.pairwise_cons.1 h
    have hi2 : i < l.length := by simpa using hi
    have hx := h1 l[i] (List.getElem_mem hi2)
    simp only [List.getElem_cons_succ, List.take_succ_cons, List.drop_succ_cons, List.cons_append]
    rw [List.filter_cons, if_pos (by simp; omega), filter_cut hi2 h2]
theorem never_set {s : FShop} {js : List FJob} (h : ShopOk s js) (h0 : ¬ (bestF s js).sum = 0) : ∃ st : Nat, st < 2 ^ js.length ∧ minL (nevL s js (2 ^ js.length)) = numL (st : Int) js.length ∧ 0 < (bestF s (inSet (st : Int) 0 js)).sum := by
 obtain ⟨st, h1, h2, h3⟩ := (nevL_iff s js _ _).1 (minL_mem (nevL_ne h h0))
 exact ⟨st, h1, h3, of_decide_eq_true h2⟩
theorem two_six {n : Nat} (h : n ≤ 6) : 2 ^ n ≤ 64 := Nat.le_trans (Nat.pow_le_pow_right (by decide) h) (by decide)
theorem never_rest {s : FShop} {js : List FJob} (h : ShopOk s js) (h0 : ¬ (bestF s js).sum = 0) {st : Nat} (hst : st < 2 ^ js.length) (hm : minL (nevL s js (2 ^ js.length)) = numL (st : Int) js.length) {i : Nat} (hi : i < (numL (st : Int) js.length).length) :
  ∃ st2 : Nat, inSet (st2 : Int) 0 js = (inSet (st : Int) 0 js).take i ++ (inSet (st : Int) 0 js).drop (i + 1) ∧ (bestF s (inSet (st2 : Int) 0 js)).sum = 0 := by
 have hn6 := h.njob
 have h64 := two_six hn6
 obtain ⟨m1, m2, m3⟩ := numL_mem.1 (List.getElem_mem hi)
 obtain ⟨k, hk⟩ : ∃ k : Nat, (numL (st : Int) js.length)[i] = (k : Int) := ⟨_, (Int.toNat_of_nonneg m1).symm⟩
 rw [hk] at m2 m3
 simp only [Int.toNat_natCast] at m3
 obtain ⟨b1, b2⟩ := bit_off st (by omega) k (by omega) m3
 have hnum : numL (((st - 2 ^ k : Nat)) : Int) js.length = (numL (st : Int) js.length).take i ++ (numL (st : Int) js.length).drop (i + 1) := by
  rw [numL_off js.length fun j hj => b2 j (by omega), ← hk]
  exact filter_cut hi (numL_pair _ _)
 have hjs : ∀ x : Int, inSet x 0 js = (numL x js.length).map fun i => js.getD i.toNat default := fun x => by
  have := inSet_nums x default js js.length (Nat.le_refl _)
  rwa [List.take_length] at this
 refine ⟨st - 2 ^ k, by rw [hjs, hjs, hnum, List.map_append, List.map_take, List.map_drop], ?_⟩
 have hnb : badB s js (((st - 2 ^ k : Nat)) : Int) = false := by
  rcases hb : badB s js (((st - 2 ^ k : Nat)) : Int) with _ | _
  ·rfl
  ·have hmem : numL (((st - 2 ^ k : Nat)) : Int) js.length ∈ nevL s js (2 ^ js.length) := (nevL_iff s js _ _).2 ⟨st - 2 ^ k, Nat.lt_of_le_of_lt (Nat.sub_le _ _) hst, hb, rfl⟩
   have hs := minL_short hmem
   rw [hm, hnum, List.length_append, List.length_take, List.length_drop] at hs
   omega
 have := best_nn (shop_in h (((st - 2 ^ k : Nat)) : Int))
 unfold badB at hnb
 have := of_decide_eq_false hnb
 omega
end Go.Proofs.YtjjapdagllclkaaGreat.Tab
namespace Go.Proofs.YtjjapdagllclkaaGreat.Tab
open Go Go.Abs Go.Proofs
set_option maxRecDepth 100000
set_option maxHeartbeats 4000000
set_option linter.unusedSimpArgs false
set_option linter.unusedVariables false
section
attribute [local simp] frz_int frz_bool frz_vl frz_pv frz_agg frz_tup frz_fn frz_ref frz_sl frz_nils optAll orcF rb_int rb_bool rb_agg rb_tup rb_int' rb_bool' rb_vl rb_pv rb_yld rb_nilf rb_nilp rb_nils rb_any rb_und rb_ref rb_sl rb_fn slE chunk fillA evParts evParts3 putAt List.range_succ List.range_zero List.range'_succ List.range'_zero runX_nil' unary_not evalS_pure evAll_nil evAll_cons runX_cons stepX wantedA dop CV.ev putK_eq setK_eq appK_eq fA_eq fI_eq fN_eq fRow_eq fRows_eq nth_eq Out.v putT List.replicate_succ zT zB arI pointee Abs.rowAt ldRow allV toV toC ofV ofC Builtin.min_ Builtin.min2 Builtin.max_ Builtin.max2 min_if max_if resA tupA kill trim_self trim_len trim_emp trim_nil lenA
attribute [local simp] runD_nil' runD_cons' stepD actK_eq actD clash disj masks holes maskH unmaskH diffs news eqB allB eqA ldRowN wrote toCs ofCs stA rowsV_vl rowsV_nils rowsOf dI1 dI2 dI3 dI5 elt
attribute [local simp] st_any st_und st_agg st_tup st_bool st_int st_nilp st_ref st_pv st_nils st_sl st_vl st_nilm st_mp st_fn st_nilf st_yld co_any co_und co_agg co_tup co_bool co_int co_nilp co_ref co_pv co_nils co_sl co_vl co_nilm co_mp co_fn co_nilf co_yld
section
attribute [local simp] Function.comp_def List.all_append List.all_map backB backB1 callA calleeA dropE freshE frzG gather getR lim lop loud lowA lowR oKn okA okBlk okG onlyJ plainA ptrs putG putH putR rbB_none rbB_row resG rowAt setH takeG
def Ok6 (oo : List Int) : Prop := oo.length = 6 ∧ ∀ b ∈ oo, isU b
theorem ok6_ex {oo : List Int} (h : Ok6 oo) : ∃ b0 b1 b2 b3 b4 b5, oo = [b0, b1, b2, b3, b4, b5] := by
  match oo, h.1 with
  | [b0, b1, b2, b3, b4, b5], _ => exact ⟨_, _, _, _, _, _, rfl⟩
def wkO (W_ : FWorks) (x y : AVal) (oo : List Int) : List AVal := wkC { W_ with o := oo } x y
theorem wkO_self (W_ : FWorks) (x y : AVal) : wkO W_ x y W_.o = wkC W_ x y := rfl
theorem wkO_put {W_ : FWorks} {x y : AVal} (hw : WkOk W_) {oo : List Int} (h : Ok6 oo) (b0 b1 b2 b3 b4 b5 : Int) : putAt (wkO W_ x y oo) 20 [.int .u8 b0, .int .u8 b1, .int .u8 b2, .int .u8 b3, .int .u8 b4, .int .u8 b5] = wkO W_ x y [b0, b1, b2, b3, b4, b5] := by
  obtain ⟨c0, c1, c2, c3, c4, c5, rfl⟩ := ok6_ex h
  have hg : (rU W_.g).length = 16 := by unfold rU; rw [List.length_map]; exact hw.g.1
  unfold wkO wkC putAt
  simp only
  have e1 : (AVal.int .u8 W_.m :: AVal.int .u8 W_.k :: (rU W_.g ++ [x, y] ++ rU [c0, c1, c2, c3, c4, c5])).take 20 = AVal.int .u8 W_.m :: AVal.int .u8 W_.k :: (rU W_.g ++ [x, y]) := by
    rw [show (AVal.int .u8 W_.m :: AVal.int .u8 W_.k :: (rU W_.g ++ [x, y] ++ rU [c0, c1, c2, c3, c4, c5])) = (AVal.int .u8 W_.m :: AVal.int .u8 W_.k :: (rU W_.g ++ [x, y])) ++ rU [c0, c1, c2, c3, c4, c5] by simp]
    exact List.take_left' (by simp [hg])
  have e2 : (AVal.int .u8 W_.m :: AVal.int .u8 W_.k :: (rU W_.g ++ [x, y] ++ rU [c0, c1, c2, c3, c4, c5])).drop (20 + [AVal.int .u8 b0, .int .u8 b1, .int .u8 b2, .int .u8 b3, .int .u8 b4, .int .u8 b5].length) = [] := List.drop_of_length_le (by simp [rU, hw.g.1])
  rw [e1, e2]
  simp [rU]
theorem wkO_ok {W_ : FWorks} (hw : WkOk W_) {oo : List Int} (h : Ok6 oo) : WkOk { W_ with o := oo } := ⟨hw.m, hw.k, hw.g, hw.xs, hw.ys, h⟩
def gS (js : List FJob) (nl : List Int) (k : Nat) : List FJob := (nl.take k).map fun i => js.getD i.toNat default
theorem gS_succ {js : List FJob} {nl : List Int} {k n : Nat} (hk : k < nl.length) (hn : nl[k].toNat = n) (h : n < js.length) : gS js nl (k + 1) = gS js nl k ++ [js[n]] := by
  unfold gS
  rw [List.take_succ_eq_append_getElem hk, List.map_append, List.map_cons, List.map_nil, hn, List.getD_eq_getElem?_getD, List.getElem?_eq_getElem h]; rfl
theorem gS_full {js : List FJob} {st : Nat} : gS js (numL (st : Int) js.length) (numL (st : Int) js.length).length = inSet (st : Int) 0 js := by
  have := inSet_nums (st : Int) default js js.length (Nat.le_refl _)
  rw [List.take_length] at this
  rw [this, gS, List.take_length]
theorem late_pos {s : FShop} {S : List FJob} (h : ShopOk s S) (h0 : 0 < (bestF s S).sum) {os : List Int} (ho : ordB os S.length = true) : ¬ (lateR s S os).1 = 0 := fun hc => by
  have hb := (best_all h).2.2 os (ord_now ho)
  have hz := late_zero (E := (runF s S os).ends) (js := S) S.length
  have h1 : (lateL (runF s S os).ends S S.length).length = 0 := by
    have : ((lateL (runF s S os).ends S S.length).length : Int) = 0 := hc
    omega
  have e : (latO s S os).1 = 0 := hz.2.1 h1
  simp only [lexB, Bool.or_eq_false_iff, decide_eq_false_iff_not] at hb
  omega
theorem dJobs_vlJ (js : List FJob) (t : Bool) : dJobs (.vl (js.map rowJ) t) = some js := optAll_map (d := dJob) (enc := rowJ) dJob_rowJ js
def zA8 (l : List AVal) : List AVal := .any :: .any :: .any :: .any :: .any :: .any :: .any :: .any :: l
def zA32 (l : List AVal) : List AVal := zA8 (zA8 (zA8 (zA8 l)))
def zA128 (l : List AVal) : List AVal := zA32 (zA32 (zA32 (zA32 l)))
attribute [local simp] zA8 zA32 zA128
theorem callF_step' {T : Nat → Option CFn} {f : Nat} {cf : CFn} (hT : T f = some cf) : ∀ (ex : Option Nat → CC → St → Option (AEx × St)) (args : List AVal) (h : Heap), callF T ex f args h = match orcF cf args h with
    | some v => some (v, h)
    | none => callB T ex f args h := fun _ args h => zC hT args h
theorem callF_eff' {T : Nat → Option CFn} {f : Nat} {cf : CFn} (hT : T f = some cf) (ho : cf.orc = fun _ => none) : ∀ (ex : Option Nat → CC → St → Option (AEx × St)) (args : List AVal) (h : Heap), callF T ex f args h = match cf.eff args h with
    | some (v, us) => some (v, setH h us)
    | none => callB T ex f args h := fun _ args h => callF_eff hT ho args h
theorem zQ9 {A G : Prop} (f : A → G) (p : A) : G := f p
theorem runs_loopG_invB9 {P : Program} {T : Nat → Option CFn} {r : Option Nat} {a : CC} {σ : St} {Q : AEx → St → Prop} {keep : Nat} {gs : List GL} (base : Nat) (hb : σ.h.length = base) (I : Nat → St → Prop)
    (step : ∀ k σ', I k σ' → Runs P T r a σ' (zT Q fun σ'' => ∃ k' t h, k' < k ∧ gather base gs (kill σ''.t keep) σ''.h = some (t, h) ∧ I k' ⟨t, h⟩)) {k : Nat} {t : List AVal} {h : Heap} (hg : gather base gs (kill σ.t keep) σ.h = some (t, h)) (h0 : I k ⟨t, h⟩) : Runs P T r (.loopG keep gs a) σ Q := by
  subst hb
  exact runs_loopG_inv I hg h0 step
theorem eq4n (x y : Operand) (a b : Bool) : evalS Tryz.prog (do eqGuard .neq 4 x y (.bool a) (.bool b); binOp .neq 4 (.bool a) (.bool b)) = some (.bool (a != b)) := by
  have h1 := eqF_ok Tryz.prog 5 4 (.bool a) (.bool b) (a == b) (by rfl) Op.maxDepth (by decide)
  have hg : Tryz.prog.eqGuardType Tryz.prog.depth 4 = false := by rfl
  have hq : evalS Tryz.prog (eqGuard .neq 4 x y (.bool a) (.bool b)) = some () := by
    simp [eqGuard, evalS_bind', evalS_program, hg]
  rw [evalS_bind _ _ _ hq]
  simp only [binOp, Op.equal]
  rw [evalS_bind _ _ _ h1]
  simp
  cases a <;> cases b <;> rfl
theorem a9 (T : Nat → Option CFn) (hT : T 9 = some { c9 with body := annF [(2, [20])] [28] (annK [(3146342, [.slot 20])] [] c9.body) }) (h41 : T 41 = some { c41 with frsh := false, orc := oMade }) (h42 : T 42 = some { c42 with frsh := true, orc := oOrder }) (h16 : T 16 = some { c16 with frsh := false, orc := oCopy }) (h18 : T 18 = some { c18 with frsh := true, orc := oInts }) (h19 : T 19 = some { c19 with frsh := true, orc := oLateT }) (h15 : T 15 = some { c15 with frsh := true, orc := oKn }) (h17 : T 17 = some { c17 with frsh := false, orc := fun _ => none, eff := freshE false sWork }) (h29 : T 29 = some { c29 with frsh := false, orc := fun _ => none, eff := dropE oBest }) (h33 : T 33 = some { c33 with frsh := false, orc := fun _ => none, eff := dropE oNever }) (W_ : FWorks) (x y : AVal) (hx : rowsV x = some (W_.xs.map rU)) (hy : rowsV y = some (W_.ys.map rU)) (hw : WkOk W_) (tv : AVal) (tr : List (List Int)) (htv : rowsV tv = some (tr.map rU)) (htb : ∀ v ∈ tr, Ok6 v) : Answers Tryz.prog T 9 [.agg (wkC W_ x y), tv] [] fun v h => v = .bool true := by
 have hctx := made_ctx hw
 have he0 := made_e0 hw
 have hmade := made_eq hx hy hw
 have hj5 := made_len (w := W_)
 have hord := fun (oo : List Int) (h : Ok6 oo) (nn : Nat) (hn : nn ≤ 6) => order_eq (W_ := { W_ with o := oo }) hx hy (wkO_ok hw h) hn
 have hcells := fun (oo : List Int) (h : Ok6 oo) => wk_cells (W_ := { W_ with o := oo }) hx hy (wkO_ok hw h)
 have hput := fun (oo : List Int) (h : Ok6 oo) b0 b1 b2 b3 b4 b5 => wkO_put (x := x) (y := y) hw h b0 b1 b2 b3 b4 b5
 have ho6 : Ok6 W_.o := hw.o
 rw [← wkO_self] at hmade ⊢
 change ∀ oo, Ok6 oo → ∀ nn : Nat, nn ≤ 6 → oOrder [.agg (wkO W_ x y oo), I (nn : Int)] = _ at hord
 change ∀ oo, Ok6 oo → (wkO W_ x y oo).length = 26 ∧ (wkO W_ x y oo).all storable = true ∧ (∀ n d, (wkO W_ x y oo).all (rb n (d + 1)) = true) ∧ (∀ H d, optAll (frz false H (d + 1)) (wkO W_ x y oo) = some (wkO W_ x y oo)) at hcells
 generalize W_.o = o0 at *
 generalize wkO W_ x y = cw at *
 have hc := dInts2_encC (wC W_ (wK W_).toNat)
 have ht := dStops_encN (wT W_ (min W_.xs.length 6))
 have hj : dJobs (encJ (wJ W_ (min W_.ys.length 5))) = some (wJobs W_) := dJobs_encJ _
 have hje0 : encJ (wJ W_ (min W_.ys.length 5)) = encJ (wJobs W_) := rfl
 change dInts2 _ = some (wShop W_).chg at hc
 change dStops _ = some (wShop W_).stops at ht
 change oMade _ = some (.tup [.agg [I (wShop W_).mach, _, _], _]) at hmade
 have hsh := hctx.ok
 clear hctx
 generalize wShop W_ = s at *
 generalize wJobs W_ = js at *
 generalize encC (wC W_ (wK W_).toNat) = c at *
 generalize encN (wT W_ (min W_.xs.length 6)) = t at *
 generalize encJ (wJ W_ (min W_.ys.length 5)) = j at *
 clear hx hy hw
 have hn6 := hsh.njob
 have hz := ok_size hsh
 have h1k : s.chg.length ≤ 1000 ∧ (∀ l ∈ s.chg, l.length ≤ 1000) ∧ s.stops.length ≤ 1000 := ⟨by have := hsh.kinds; omega, fun l hl => by have := (hsh.chg l hl).1; have := hsh.kinds; omega, by have := hsh.nst; omega⟩
 have h1j : ∀ l ∈ js, l.mins.length ≤ 1000 := fun l hl => by have := (hsh.job l hl).2.2.2.1; have := hsh.mach; omega
 have hcopy := copy_eq (m := s.mach) hc ht h1k
 have hwk := sWork_eq hj ⟨by omega, h1j⟩
 have hokJ : ((js.map rowJ).all fun x => x.all (okA false)) = true := okJ js
 have hc2 := dInts2_encC s.chg
 have ht2 := dStops_encT s.stops
 have hj2 := dJobs_vlJ js false
 generalize encC s.chg = c2 at *
 generalize encT s.stops = t2 at *
 have fzJ := fun H d => frz_rowJ H d js
 have rbJ := fun n => rowJ_rb n 4 js
 have tkJ : (js.map rowJ).take js.length = js.map rowJ := List.take_of_length_le (by simp)
 have hbest := best_eq hc2 ht2 hj2 hz
 have hnev := never_eq hc2 ht2 hj2 hz
 have hbv : bestV s js = encV (bestF s js).order := by unfold bestV; rw [if_pos he0]
 rw [hbv, he0] at hbest
 obtain ⟨hBo, hBl, hBle⟩ := best_all hsh
 have hBord := hBo.ord
 have hBlen : (bestF s js).order.length = js.length := hBo.len
 have hnevE : nevE s js = if (bestF s js).sum = 0 then 7 else 0 := by unfold nevE; rw [if_pos he0]
 have hnevV : nevV s js = if nevE s js = 0 then encV (minL (nevL s js (2 ^ js.length))) else .nils := rfl
 have hrbN : ∀ n d, rb n (d + 1) (nevV s js) = true := fun n d => by
  rw [hnevV]
  split
  ·exact dInts_rb (dInts_encV _) n d
  ·rfl
 have hnn := best_nn hsh
 have hset := fun h0 => never_set hsh h0
 have hrest := fun h0 (st : Nat) h1 h2 (i : Nat) h3 => never_rest hsh h0 (st := st) h1 h2 (i := i) h3
 have hints := ints_eq (dInts_encV (bestF s js).order) (by omega)
 have hob := dInts_encE (bestF s js).order
 have hlat := lateT_eq hc2 ht2 hj2 hob hz (by omega)
 rw [ordE_of he0 hBord, lateT_R (ordE_of he0 hBord)] at hlat
 have hlz := late_zero (E := (runF s js (bestF s js).order).ends) (js := js) js.length
 have hl1 : (lateR s js (bestF s js).order).1 = ((lateL (runF s js (bestF s js).order).ends js js.length).length : Int) := rfl
 have hl2 : ((lateR s js (bestF s js).order).2.1, (lateR s js (bestF s js).order).2.2) = latO s js (bestF s js).order := rfl
 rw [← hBl] at hl2
 have hl3 : (latF (runF s js (bestF s js).order).ends js js.length).1 = (bestF s js).sum := by have := congrArg Prod.fst hBl; exact this.symm
 rw [hl3] at hlz
 have hlatT := fun (os : List Int) (ho : ordB os js.length = true) => (by have := lateT_eq hc2 ht2 hj2 (dInts_encE os) hz (by rw [ord_len ho]; omega); rwa [ordE_of he0 ho, lateT_R (ordE_of he0 ho)] at this : oLateT [.agg [I s.mach, c2, t2], .vl (js.map rowJ) false, encE os] = some (.tup [I (lateR s js os).1, I (lateR s js os).2.1, I (lateR s js os).2.2, I 0]))
 have hleO := fun (os : List Int) (ho : ordB os js.length = true) => hBle os (ord_now ho)
 generalize hB : bestF s js = B at *
 generalize lateR s js B.order = LR at *
 obtain ⟨cnt, su, la⟩ := LR
 simp only [Prod.mk.injEq] at hl1 hl2 hlat
 obtain ⟨e1, e2⟩ := hl2
 rw [e1, e2] at hlat
 clear e1 e2
 generalize (lateL (runF s js B.order).ends js js.length).length = cn at *
 subst hl1
 generalize encE B.order = ob at *
 have feb := fun H d => dInts_frz (dInts_encV B.order) H d
 have reb := fun n d => dInts_rb (dInts_encV B.order) n d
 have leb := dInts_len (dInts_encV B.order)
 generalize hbo : encV B.order = bo at *
 have fc := fun H d => dInts2_frz hc H d
 have rc := fun n d => dInts2_rb hc n d
 have lc := dInts2_len hc
 obtain ⟨cc1, cc2⟩ := dInts2_cells hc
 have ft := fun H d => dStops_frz ht H d
 have rt := fun n d => dStops_rb ht n d
 have lt := dStops_len ht
 obtain ⟨ct1, ct2⟩ := dStops_cells ht
 have fj := fun H d => dJobs_frz hj H d
 have rj := fun n d => dJobs_rb hj n d
 have lj := dJobs_len hj
 obtain ⟨cj1, cj2⟩ := dJobs_cells hj
 have fo := fun H d => dInts_frz hob H d
 have ro := fun n d => dInts_rb hob n d
 have lo := dInts_len hob
 obtain ⟨co1, co2⟩ := dInts_cells hob
 have fcc := fun H d => dInts2_frz hc2 H d
 have rcc := fun n d => dInts2_rb hc2 n d
 have lcc := dInts2_len hc2
 obtain ⟨ccc1, ccc2⟩ := dInts2_cells hc2
 have ftt := fun H d => dStops_frz ht2 H d
 have rtt := fun n d => dStops_rb ht2 n d
 have ltt := dStops_len ht2
 obtain ⟨ctt1, ctt2⟩ := dStops_cells ht2
 obtain ⟨hclA, hcsA, hcrA, hcfA⟩ := hcells o0 ho6
 have hctA : (cw o0).take 26 = cw o0 := List.take_of_length_le (by omega)
 have htvl : lenA tv = some tr.length := by have := rowsV_len htv; rw [List.length_map] at this; exact this
 have fT := fun H d => rowsV_frz htv H d
 have rT := fun n d => rowsV_rb htv n d
 by_cases hs0 : B.sum = 0
 ·have hE : nevE s js = 7 := by rw [hnevE, if_pos hs0]
  have hV : nevV s js = .nils := by rw [hnevV, hE]; rfl
  have hcn : cn = 0 := hlz.2.2 hs0
  rw [hE, hV] at hnev
  subst hcn
  refine answers_of hT (orcF_none rfl) ?_
  simp only [oo, om, op, og, ci, cl, c9, annF, lkF, inN, lastD, annK, lkG, lkR, reduceIte, Nat.reduceEqDiff, reduceCtorEq, List.cons.injEq, and_true, and_false, false_and, true_and]
  have HH1 := zA (callF_step' h41) (zA (callF_step' h42) (zA (callF_step' h16) (zA (callF_step' h18) (zA (callF_step' h19) (zA (callF_step' h15) (zA (callF_eff' h17 rfl) (zA (callF_eff' h29 rfl) (callF_eff' h33 rfl))))))))
  have HH2 := zA h41 (zA h42 (zA h16 (zA h18 (zA h19 (zA h15 (zA h17 (zA h29 (zA h33 (zA hmade (zA hcopy (zA hwk (zA hbest (zA hnev (zA hrbN (zA hints (zA hlat (zA feb (zA reb (zA leb (zA hBlen (zA fc (zA rc (zA lc (zA cc1 (zA cc2 (zA ft (zA rt (zA lt (zA ct1 (zA ct2 (zA fj (zA rj (zA lj (zA cj1 (zA cj2 (zA fo (zA ro (zA lo (zA co1 (zA co2 (zA fcc (zA rcc (zA lcc (zA ccc1 (zA ccc2 (zA ftt (zA rtt (zA ltt (zA ctt1 (zA ctt2 (zA htvl (zA fT (zA rT (zA hclA hctA))))))))))))))))))))))))))))))))))))))))))))))))))))))
  have HH3 := zA hokJ (zA fzJ (zA rbJ (zA tkJ (zA hcsA (zA hcrA hcfA)))))
  refine zS ?_
  refine zR (zO (by simp [HH1, ↓orc_nil, ↓eq4n, -lenA, HH2, ↓HH3]; rfl) ?_)
  simp only [zT, zB]
  refine zS ?_
  refine zR (zO (by simp [HH1, ↓orc_nil, ↓eq4n, -lenA, HH2, ↓HH3]; rfl) ?_)
  simp only [zT, zB]
  refine zS ?_
  refine zR (zO (by simp [HH1, ↓orc_nil, ↓eq4n, -lenA, HH2, ↓HH3]; rfl) ?_)
  simp only [zT, zB]
  refine zS ?_
  refine zR (zO (by simp [HH1, ↓orc_nil, ↓eq4n, -lenA, HH2, ↓HH3]; rfl) ?_)
  simp only [zT, zB]
  refine zS ?_
  refine zR (zO (by simp [HH1, ↓orc_nil, ↓eq4n, -lenA, HH2, ↓HH3]; rfl) ?_)
  simp only [zT, zB]
  refine zS ?_
  refine zS ?_
  refine zR (zO (by simp [HH1, ↓orc_nil, ↓eq4n, -lenA, HH2, ↓HH3]; rfl) ?_)
  simp only [zT, zB]
  refine runs_cond (x := false) (by simp [hBlen]) ?_
  refine zK ?_
  simp only [zT, zB]
  refine zS ?_
  refine zS ?_
  refine zR (zO (by simp [HH1, ↓orc_nil, ↓eq4n, -lenA, HH2, ↓HH3]; rfl) ?_)
  simp only [zT, zB]
  refine zL ?_
  refine runs_loop_inv (fun m σ => ∃ (k : Nat) (i : Int) (oo : List Int), i = k ∧ tr.length - k = m ∧ k ≤ tr.length ∧ Ok6 oo ∧ σ = ⟨(.any :: tv :: .ref 0 0 0 :: .any :: .any :: .ref 1 0 0 :: j :: .any :: .any :: .nils :: I 7 :: .any :: I B.sum :: I B.last :: .any :: I i :: zA128 (zA32 (zA32 (zA32 (zA8 (zA8 ([.any, .any, .any]))))))), [some (.row 26 [cw oo]), some (.row 3 [[I s.mach, c, t]]), none, none, some (.row 4 (js.map rowJ))]⟩) ?_ (tr.length - 0) _ ⟨0, 0, o0, rfl, rfl, Nat.zero_le _, ho6, by simp⟩
  rintro m σ ⟨k, i, oo, hik, rfl, hkl, hoo, rfl⟩
  obtain ⟨hclX, hcsX, hcrX, hcfX⟩ := hcells oo hoo
  have hctX : (cw oo).take 26 = cw oo := List.take_of_length_le (by omega)
  by_cases hlA0 : i < (tr.length : Int)
  ·by_cases h10 : i < 10
   ·have hlA : i < (tr.length : Int) := by omega
    have hkT : k < tr.length := by omega
    have hi0 : 0 ≤ i := by omega
    have htn : i.toNat = k := by omega
    have hwi : W .i64 (i + 1) = i + 1 := W_small (by omega)
    obtain ⟨tq, htq⟩ := rowsV_get htv (k := k) (by rw [List.length_map]; exact hkT)
    have hv6 := htb _ (List.getElem_mem hkT)
    obtain ⟨b0, b1, b2, b3, b4, b5, hbb⟩ := ok6_ex hv6
    rw [hbb] at hv6
    have hge1 : (tr.map rU)[k]? = some [.int .u8 b0, .int .u8 b1, .int .u8 b2, .int .u8 b3, .int .u8 b4, .int .u8 b5] := by rw [List.getElem?_map, List.getElem?_eq_getElem hkT, hbb]; rfl
    have hge2 : ∀ (h : k < (tr.map rU).length), (tr.map rU)[k]'h = [.int .u8 b0, .int .u8 b1, .int .u8 b2, .int .u8 b3, .int .u8 b4, .int .u8 b5] := fun h => by rw [List.getElem_map, hbb]; rfl
    have hputX := hput oo hoo b0 b1 b2 b3 b4 b5
    unfold putAt at hputX
    simp only [List.cons_append, List.nil_append, List.append_assoc, List.length_cons, List.length_nil, Nat.reduceAdd] at hputX
    obtain ⟨hclY, hcsY, hcrY, hcfY⟩ := hcells [b0, b1, b2, b3, b4, b5] hv6
    have hctY : (cw [b0, b1, b2, b3, b4, b5]).take 26 = cw [b0, b1, b2, b3, b4, b5] := List.take_of_length_le (by omega)
    have hoq := hord _ hv6 js.length (by omega)
    have hordB := ordW_ord (o := [b0, b1, b2, b3, b4, b5]) hv6 (n := js.length) (by omega)
    have hlt9 := hlatT _ hordB
    have hle9 := hleO _ hordB
    have hox := dInts_encE (ordW [b0, b1, b2, b3, b4, b5] js.length)
    have hl9 : ((lateR s js (ordW [b0, b1, b2, b3, b4, b5] js.length)).2.1, (lateR s js (ordW [b0, b1, b2, b3, b4, b5] js.length)).2.2) = latO s js (ordW [b0, b1, b2, b3, b4, b5] js.length) := rfl
    rw [← hl9] at hle9
    generalize lateR s js (ordW [b0, b1, b2, b3, b4, b5] js.length) = LX at *
    obtain ⟨x1, x2, x3⟩ := LX
    simp only [lexB, Bool.or_eq_false_iff, Bool.and_eq_false_iff, decide_eq_false_iff_not] at hle9
    obtain ⟨hle1, hle2⟩ := hle9
    generalize encE (ordW [b0, b1, b2, b3, b4, b5] js.length) = ox at *
    have fx := fun H d => dInts_frz hox H d
    have rx := fun n d => dInts_rb hox n d
    have lx := dInts_len hox
    obtain ⟨cx1, cx2⟩ := dInts_cells hox
    subst htq
    by_cases hse : x2 = B.sum
    ·have hsb : (x2 == B.sum) = true := by simp [hse]
     have hen : ¬ x3 < B.last := by rcases hle2 with h | h; exact absurd hse h; exact h
     have HH4 := zA hclX (zA hctX (zA hlA (zA hkT (zA hi0 (zA htn (zA hwi (zA hge1 (zA hge2 (zA hputX (zA hclY (zA hctY (zA hoq (zA hlt9 (zA hle1 (zA h10 (zA fx (zA rx (zA lx (zA cx1 (zA cx2 (zA hsb hen)))))))))))))))))))))
     have HH5 := zA hcsX (zA hcrX (zA hcfX (zA hcsY (zA hcrY hcfY))))
     refine zS ?_
     refine zS ?_
     refine zR (zO (by simp [HH1, ↓orc_nil, ↓eq4n, -lenA, HH2, ↓HH3, HH4, ↓HH5]; rfl) ?_)
     simp only [zT, zB]
     refine runs_cond (x := true) (by simp [hlA, h10]) ?_
     refine zK ?_
     simp only [zT, zB]
     refine zS ?_
     refine zL ?_
     refine zS ?_
     refine zR (zO (by simp [HH1, ↓orc_nil, ↓eq4n, -lenA, HH2, ↓HH3, HH4, ↓HH5]; rfl) ?_)
     simp only [zT, zB]
     refine zS ?_
     refine runs_drw (by simp (maxSteps := 3000000) [HH1, ↓orc_nil, ↓eq4n, -lenA, HH2, ↓HH3, HH4, ↓HH5]; rfl) ?_
     simp only [zT, zB]
     refine zS ?_
     refine zR (zO (by simp [HH1, ↓orc_nil, ↓eq4n, -lenA, HH2, ↓HH3, HH4, ↓HH5]; rfl) ?_)
     simp only [zT, zB]
     refine runs_cond (x := false) (by simp [hle1, hsb, hen]) ?_
     refine zK ?_
     simp only [zT, zB]
     refine zR (zO (by simp [HH1, ↓orc_nil, ↓eq4n, -lenA, HH2, ↓HH3, HH4, ↓HH5]; rfl) ?_)
     simp only [zT, zB]
     exact ⟨tr.length - (k + 1), by omega, k + 1, i + 1, [b0, b1, b2, b3, b4, b5], by omega, rfl, by omega, hv6, by simp [trim, HH1, ↓orc_nil, ↓eq4n, -lenA, HH2, ↓HH3, HH4, ↓HH5]⟩
    ·have hsb : (x2 == B.sum) = false := by simp [hse]
     have HH6 := zA hclX (zA hctX (zA hlA (zA hkT (zA hi0 (zA htn (zA hwi (zA hge1 (zA hge2 (zA hputX (zA hclY (zA hctY (zA hoq (zA hlt9 (zA hle1 (zA h10 (zA fx (zA rx (zA lx (zA cx1 (zA cx2 hsb))))))))))))))))))))
     have HH7 := zA hcsX (zA hcrX (zA hcfX (zA hcsY (zA hcrY hcfY))))
     refine zS ?_
     refine zS ?_
     refine zR (zO (by simp [HH1, ↓orc_nil, ↓eq4n, -lenA, HH2, ↓HH3, HH6, ↓HH7]; rfl) ?_)
     simp only [zT, zB]
     refine runs_cond (x := true) (by simp [hlA, h10]) ?_
     refine zK ?_
     simp only [zT, zB]
     refine zS ?_
     refine zL ?_
     refine zS ?_
     refine zR (zO (by simp [HH1, ↓orc_nil, ↓eq4n, -lenA, HH2, ↓HH3, HH6, ↓HH7]; rfl) ?_)
     simp only [zT, zB]
     refine zS ?_
     refine runs_drw (by simp (maxSteps := 3000000) [HH1, ↓orc_nil, ↓eq4n, -lenA, HH2, ↓HH3, HH6, ↓HH7]; rfl) ?_
     simp only [zT, zB]
     refine zS ?_
     refine zR (zO (by simp [HH1, ↓orc_nil, ↓eq4n, -lenA, HH2, ↓HH3, HH6, ↓HH7]; rfl) ?_)
     simp only [zT, zB]
     refine runs_cond (x := false) (by simp [hle1, hsb]) ?_
     refine zK ?_
     simp only [zT, zB]
     refine zR (zO (by simp [HH1, ↓orc_nil, ↓eq4n, -lenA, HH2, ↓HH3, HH6, ↓HH7]; rfl) ?_)
     simp only [zT, zB]
     exact ⟨tr.length - (k + 1), by omega, k + 1, i + 1, [b0, b1, b2, b3, b4, b5], by omega, rfl, by omega, hv6, by simp [trim, HH1, ↓orc_nil, ↓eq4n, -lenA, HH2, ↓HH3, HH6, ↓HH7]⟩
   ·have hend : (if i < (tr.length : Int) then decide (i < 10) else false) = false := by simp [h10]
    have HH8 := zA hclX (zA hctX (zA hlA0 (zA h10 hend)))
    refine zS ?_
    refine zS ?_
    refine zR (zO (by simp [HH1, ↓orc_nil, ↓eq4n, -lenA, HH2, ↓HH3, ↓hcsX, ↓hcrX, ↓hcfX, HH8]; rfl) ?_)
    simp only [zT, zB]
    refine runs_cond (x := false) (by simp [hend]) ?_
    refine runs_exit ?_
    simp only [zT, zB, if_true, if_false, reduceIte, Nat.reduceEqDiff, Nat.succ_ne_zero, Nat.one_ne_zero, Nat.zero_ne_one]
    refine zS ?_
    refine zS ?_
    refine zR (zO (by simp [HH1, ↓orc_nil, ↓eq4n, -lenA, HH2, ↓HH3, ↓hcsX, ↓hcrX, ↓hcfX, HH8]; rfl) ?_)
    simp only [zT, zB]
    refine runs_cond (x := true) (by simp) ?_
    refine zS ?_
    refine zR (zO (by simp [HH1, ↓orc_nil, ↓eq4n, -lenA, HH2, ↓HH3, ↓hcsX, ↓hcrX, ↓hcfX, HH8]; rfl) ?_)
    simp only [zT, zB]
    refine runs_ret ?_
    simp [HH1, ↓orc_nil, ↓eq4n, -lenA, HH2, ↓HH3, ↓hcsX, ↓hcrX, ↓hcfX, HH8]
  ·have hend := hlA0
   refine zS ?_
   refine zS ?_
   refine zR (zO (by simp [HH1, ↓orc_nil, ↓eq4n, -lenA, HH2, ↓HH3, hclX, ↓hcsX, ↓hcrX, ↓hcfX, hctX, hlA0, hend]; rfl) ?_)
   simp only [zT, zB]
   refine runs_cond (x := false) (by simp [hend]) ?_
   refine runs_exit ?_
   simp only [zT, zB, if_true, if_false, reduceIte, Nat.reduceEqDiff, Nat.succ_ne_zero, Nat.one_ne_zero, Nat.zero_ne_one]
   refine zS ?_
   refine zS ?_
   refine zR (zO (by simp [HH1, ↓orc_nil, ↓eq4n, -lenA, HH2, ↓HH3, hclX, ↓hcsX, ↓hcrX, ↓hcfX, hctX, hlA0, hend]; rfl) ?_)
   simp only [zT, zB]
   refine runs_cond (x := true) (by simp) ?_
   refine zS ?_
   refine zR (zO (by simp [HH1, ↓orc_nil, ↓eq4n, -lenA, HH2, ↓HH3, hclX, ↓hcsX, ↓hcrX, ↓hcfX, hctX, hlA0, hend]; rfl) ?_)
   simp only [zT, zB]
   refine runs_ret ?_
   simp [HH1, ↓orc_nil, ↓eq4n, -lenA, HH2, ↓HH3, hclX, ↓hcsX, ↓hcrX, ↓hcfX, hctX, hlA0, hend]
 ·have hE : nevE s js = 0 := by rw [hnevE, if_neg hs0]
  have hV : nevV s js = encV (minL (nevL s js (2 ^ js.length))) := by rw [hnevV, if_pos hE]
  have hcn : ¬ cn = 0 := fun h => hs0 (hlz.2.1 h)
  have hcnb : ((cn : Int) == 0) = false := by simp; omega
  rw [hE, hV] at hnev
  obtain ⟨st, hst1, hst2, hst3⟩ := hset hs0
  rw [hst2] at hnev
  have hmm := hst2
  have hnv := dInts_encV (numL (st : Int) js.length)
  generalize hnwe : encV (numL (st : Int) js.length) = nw at *
  have fw := fun H d => dInts_frz hnv H d
  have rw := fun n d => dInts_rb hnv n d
  have lw := dInts_len hnv
  obtain ⟨cw1, cw2⟩ := dInts_cells hnv
  have hnne : 0 < (numL (st : Int) js.length).length := by
   rcases Nat.eq_zero_or_pos (numL (st : Int) js.length).length with h | h
   ·have hgf := gS_full (js := js) (st := st)
    have e0 : numL (st : Int) js.length = [] := List.eq_nil_of_length_eq_zero h
    rw [e0] at hgf
    rw [← hgf] at hst3
    have := (best_all (s := s) (js := []) (by rw [show ([] : List FJob) = inSet (st : Int) 0 js from hgf]; exact shop_in hsh _)).2.1
    have h2 : (latO s [] (bestF s []).order).1 = 0 := rfl
    rw [← congrArg Prod.fst this] at h2
    have h3 : gS js [] ([] : List Int).length = [] := rfl
    rw [h3] at hst3
    simp only at h2
    omega
   ·exact h
  obtain ⟨nq, hnq⟩ := rowsV_get (dInts_rows hnv) (k := 0) (by rw [List.length_map]; exact hnne)
  have hmemN := fun x hx => (numL_mem (st := (st : Int)) (x := x) (n := js.length)).1 hx
  have hpairN := numL_pair (st : Int) js.length
  have hgf := gS_full (js := js) (st := st)
  have hrs := fun (i : Nat) hi => hrest hs0 st hst1 hst2 i hi
  have hshS := shop_in hsh (st : Int)
  have hlnN := numL_len (st : Int) js.length
  generalize numL (st : Int) js.length = nl at *
  have hjne : js ≠ [] := by
   intro e
   have := (hmemN _ (List.getElem_mem hnne))
   rw [e] at this
   simp only [List.length_nil] at this
   omega
  have hje := hje0.trans (encJ_ne hjne)
  subst hje
  subst hnq
  refine answers_of hT (orcF_none rfl) ?_
  simp only [oo, om, op, og, ci, cl, c9, annF, lkF, inN, lastD, annK, lkG, lkR, reduceIte, Nat.reduceEqDiff, reduceCtorEq, List.cons.injEq, and_true, and_false, false_and, true_and]
  have HH9 := zA (callF_step' h41) (zA (callF_step' h42) (zA (callF_step' h16) (zA (callF_step' h18) (zA (callF_step' h19) (zA (callF_step' h15) (zA (callF_eff' h17 rfl) (zA (callF_eff' h29 rfl) (callF_eff' h33 rfl))))))))
  have HH10 := zA h41 (zA h42 (zA h16 (zA h18 (zA h19 (zA h15 (zA h17 (zA h29 (zA h33 (zA hmade (zA hcopy (zA hwk (zA hbest (zA hnev (zA hrbN (zA hints (zA hlat (zA feb (zA reb (zA leb (zA hBlen (zA fc (zA rc (zA lc (zA cc1 (zA cc2 (zA ft (zA rt (zA lt (zA ct1 (zA ct2 (zA fj (zA rj (zA lj (zA cj1 (zA cj2 (zA fo (zA ro (zA lo (zA co1 (zA co2 (zA fcc (zA rcc (zA lcc (zA ccc1 (zA ccc2 (zA ftt (zA rtt (zA ltt (zA ctt1 (zA ctt2 (zA htvl (zA fT (zA rT (zA hclA (zA hctA (zA hcnb (zA fw (zA rw (zA lw (zA cw1 cw2))))))))))))))))))))))))))))))))))))))))))))))))))))))))))))
  have HH11 := zA hokJ (zA fzJ (zA rbJ (zA tkJ (zA hcsA (zA hcrA hcfA)))))
  refine zS ?_
  refine zR (zO (by simp [HH9, ↓orc_nil, ↓eq4n, -lenA, HH10, ↓HH11]; rfl) ?_)
  simp only [zT, zB]
  refine zS ?_
  refine zR (zO (by simp [HH9, ↓orc_nil, ↓eq4n, -lenA, HH10, ↓HH11]; rfl) ?_)
  simp only [zT, zB]
  refine zS ?_
  refine zR (zO (by simp [HH9, ↓orc_nil, ↓eq4n, -lenA, HH10, ↓HH11]; rfl) ?_)
  simp only [zT, zB]
  refine zS ?_
  refine zR (zO (by simp [HH9, ↓orc_nil, ↓eq4n, -lenA, HH10, ↓HH11]; rfl) ?_)
  simp only [zT, zB]
  refine zS ?_
  refine zR (zO (by simp [HH9, ↓orc_nil, ↓eq4n, -lenA, HH10, ↓HH11]; rfl) ?_)
  simp only [zT, zB]
  refine zS ?_
  refine zS ?_
  refine zR (zO (by simp [HH9, ↓orc_nil, ↓eq4n, -lenA, HH10, ↓HH11]; rfl) ?_)
  simp only [zT, zB]
  refine runs_cond (x := false) (by simp [hBlen]) ?_
  apply zQ9
  ·intro s2
   refine zK ?_
   simp only [zT, zB]
   refine zS ?_
   refine zS ?_
   refine zR (zO (by simp [HH9, ↓orc_nil, ↓eq4n, -lenA, HH10, ↓HH11]; rfl) ?_)
   simp only [zT, zB]
   refine zL ?_
   refine runs_loop_inv (fun m σ => ∃ (k : Nat) (i : Int) (oo : List Int), i = k ∧ tr.length - k = m ∧ k ≤ tr.length ∧ Ok6 oo ∧ σ = ⟨(.any :: tv :: .ref 0 0 0 :: .any :: .any :: .ref 1 0 0 :: .vl (js.map rowJ) false :: .any :: .any :: .vl (nl.map rI) nq :: I 0 :: .any :: I B.sum :: I B.last :: .any :: I i :: zA128 (zA32 (zA32 (zA32 (zA8 (zA8 ([.any, .any, .any]))))))), [some (.row 26 [cw oo]), some (.row 3 [[I s.mach, c, t]]), none, none, some (.row 4 (js.map rowJ))]⟩) ?_ (tr.length - 0) _ ⟨0, 0, o0, rfl, rfl, Nat.zero_le _, ho6, by simp⟩
   rintro m σ ⟨k, i, oo, hik, rfl, hkl, hoo, rfl⟩
   obtain ⟨hclX, hcsX, hcrX, hcfX⟩ := hcells oo hoo
   have hctX : (cw oo).take 26 = cw oo := List.take_of_length_le (by omega)
   by_cases hlA0 : i < (tr.length : Int)
   ·by_cases h10 : i < 10
    ·clear s2
     have hlA : i < (tr.length : Int) := by omega
     have hkT : k < tr.length := by omega
     have hi0 : 0 ≤ i := by omega
     have htn : i.toNat = k := by omega
     have hwi : W .i64 (i + 1) = i + 1 := W_small (by omega)
     obtain ⟨tq, htq⟩ := rowsV_get htv (k := k) (by rw [List.length_map]; exact hkT)
     have hv6 := htb _ (List.getElem_mem hkT)
     obtain ⟨b0, b1, b2, b3, b4, b5, hbb⟩ := ok6_ex hv6
     rw [hbb] at hv6
     have hge1 : (tr.map rU)[k]? = some [.int .u8 b0, .int .u8 b1, .int .u8 b2, .int .u8 b3, .int .u8 b4, .int .u8 b5] := by rw [List.getElem?_map, List.getElem?_eq_getElem hkT, hbb]; rfl
     have hge2 : ∀ (h : k < (tr.map rU).length), (tr.map rU)[k]'h = [.int .u8 b0, .int .u8 b1, .int .u8 b2, .int .u8 b3, .int .u8 b4, .int .u8 b5] := fun h => by rw [List.getElem_map, hbb]; rfl
     have hputX := hput oo hoo b0 b1 b2 b3 b4 b5
     unfold putAt at hputX
     simp only [List.cons_append, List.nil_append, List.append_assoc, List.length_cons, List.length_nil, Nat.reduceAdd] at hputX
     obtain ⟨hclY, hcsY, hcrY, hcfY⟩ := hcells [b0, b1, b2, b3, b4, b5] hv6
     have hctY : (cw [b0, b1, b2, b3, b4, b5]).take 26 = cw [b0, b1, b2, b3, b4, b5] := List.take_of_length_le (by omega)
     have hoq := hord _ hv6 js.length (by omega)
     have hordB := ordW_ord (o := [b0, b1, b2, b3, b4, b5]) hv6 (n := js.length) (by omega)
     have hlt9 := hlatT _ hordB
     have hle9 := hleO _ hordB
     have hox := dInts_encE (ordW [b0, b1, b2, b3, b4, b5] js.length)
     have hl9 : ((lateR s js (ordW [b0, b1, b2, b3, b4, b5] js.length)).2.1, (lateR s js (ordW [b0, b1, b2, b3, b4, b5] js.length)).2.2) = latO s js (ordW [b0, b1, b2, b3, b4, b5] js.length) := rfl
     rw [← hl9] at hle9
     generalize lateR s js (ordW [b0, b1, b2, b3, b4, b5] js.length) = LX at *
     obtain ⟨x1, x2, x3⟩ := LX
     simp only [lexB, Bool.or_eq_false_iff, Bool.and_eq_false_iff, decide_eq_false_iff_not] at hle9
     obtain ⟨hle1, hle2⟩ := hle9
     generalize encE (ordW [b0, b1, b2, b3, b4, b5] js.length) = ox at *
     have fx := fun H d => dInts_frz hox H d
     have rx := fun n d => dInts_rb hox n d
     have lx := dInts_len hox
     obtain ⟨cx1, cx2⟩ := dInts_cells hox
     subst htq
     by_cases hse : x2 = B.sum
     ·have hsb : (x2 == B.sum) = true := by simp [hse]
      have hen : ¬ x3 < B.last := by rcases hle2 with h | h; exact absurd hse h; exact h
      have HH12 := zA hclX (zA hctX (zA hlA (zA hkT (zA hi0 (zA htn (zA hwi (zA hge1 (zA hge2 (zA hputX (zA hclY (zA hctY (zA hoq (zA hlt9 (zA hle1 (zA h10 (zA fx (zA rx (zA lx (zA cx1 (zA cx2 (zA hsb hen)))))))))))))))))))))
      have HH13 := zA hcsX (zA hcrX (zA hcfX (zA hcsY (zA hcrY hcfY))))
      refine zS ?_
      refine zS ?_
      refine zR (zO (by simp [HH9, ↓orc_nil, ↓eq4n, -lenA, HH10, ↓HH11, HH12, ↓HH13]; rfl) ?_)
      simp only [zT, zB]
      refine runs_cond (x := true) (by simp [hlA, h10]) ?_
      refine zK ?_
      simp only [zT, zB]
      refine zS ?_
      refine zL ?_
      refine zS ?_
      refine zR (zO (by simp [HH9, ↓orc_nil, ↓eq4n, -lenA, HH10, ↓HH11, HH12, ↓HH13]; rfl) ?_)
      simp only [zT, zB]
      refine zS ?_
      refine runs_drw (by simp (maxSteps := 3000000) [HH9, ↓orc_nil, ↓eq4n, -lenA, HH10, ↓HH11, HH12, ↓HH13]; rfl) ?_
      simp only [zT, zB]
      refine zS ?_
      refine zR (zO (by simp [HH9, ↓orc_nil, ↓eq4n, -lenA, HH10, ↓HH11, HH12, ↓HH13]; rfl) ?_)
      simp only [zT, zB]
      refine runs_cond (x := false) (by simp [hle1, hsb, hen]) ?_
      refine zK ?_
      simp only [zT, zB]
      refine zR (zO (by simp [HH9, ↓orc_nil, ↓eq4n, -lenA, HH10, ↓HH11, HH12, ↓HH13]; rfl) ?_)
      simp only [zT, zB]
      exact ⟨tr.length - (k + 1), by omega, k + 1, i + 1, [b0, b1, b2, b3, b4, b5], by omega, rfl, by omega, hv6, by simp [trim, HH9, ↓orc_nil, ↓eq4n, -lenA, HH10, ↓HH11, HH12, ↓HH13]⟩
     ·have hsb : (x2 == B.sum) = false := by simp [hse]
      have HH14 := zA hclX (zA hctX (zA hlA (zA hkT (zA hi0 (zA htn (zA hwi (zA hge1 (zA hge2 (zA hputX (zA hclY (zA hctY (zA hoq (zA hlt9 (zA hle1 (zA h10 (zA fx (zA rx (zA lx (zA cx1 (zA cx2 hsb))))))))))))))))))))
      have HH15 := zA hcsX (zA hcrX (zA hcfX (zA hcsY (zA hcrY hcfY))))
      refine zS ?_
      refine zS ?_
      refine zR (zO (by simp [HH9, ↓orc_nil, ↓eq4n, -lenA, HH10, ↓HH11, HH14, ↓HH15]; rfl) ?_)
      simp only [zT, zB]
      refine runs_cond (x := true) (by simp [hlA, h10]) ?_
      refine zK ?_
      simp only [zT, zB]
      refine zS ?_
      refine zL ?_
      refine zS ?_
      refine zR (zO (by simp [HH9, ↓orc_nil, ↓eq4n, -lenA, HH10, ↓HH11, HH14, ↓HH15]; rfl) ?_)
      simp only [zT, zB]
      refine zS ?_
      refine runs_drw (by simp (maxSteps := 3000000) [HH9, ↓orc_nil, ↓eq4n, -lenA, HH10, ↓HH11, HH14, ↓HH15]; rfl) ?_
      simp only [zT, zB]
      refine zS ?_
      refine zR (zO (by simp [HH9, ↓orc_nil, ↓eq4n, -lenA, HH10, ↓HH11, HH14, ↓HH15]; rfl) ?_)
      simp only [zT, zB]
      refine runs_cond (x := false) (by simp [hle1, hsb]) ?_
      refine zK ?_
      simp only [zT, zB]
      refine zR (zO (by simp [HH9, ↓orc_nil, ↓eq4n, -lenA, HH10, ↓HH11, HH14, ↓HH15]; rfl) ?_)
      simp only [zT, zB]
      exact ⟨tr.length - (k + 1), by omega, k + 1, i + 1, [b0, b1, b2, b3, b4, b5], by omega, rfl, by omega, hv6, by simp [trim, HH9, ↓orc_nil, ↓eq4n, -lenA, HH10, ↓HH11, HH14, ↓HH15]⟩
    ·have hend : (if i < (tr.length : Int) then decide (i < 10) else false) = false := by simp [h10]
     have HH16 := zA hclX (zA hctX (zA hlA0 (zA h10 hend)))
     refine zS ?_
     refine zS ?_
     refine zR (zO (by simp [HH9, ↓orc_nil, ↓eq4n, -lenA, HH10, ↓HH11, ↓hcsX, ↓hcrX, ↓hcfX, HH16]; rfl) ?_)
     simp only [zT, zB]
     refine runs_cond (x := false) (by simp [hend]) ?_
     refine runs_exit ?_
     simp only [zT, zB, if_true, if_false, reduceIte, Nat.reduceEqDiff, Nat.succ_ne_zero, Nat.one_ne_zero, Nat.zero_ne_one]
     refine zS ?_
     refine zS ?_
     refine zR (zO (by simp [HH9, ↓orc_nil, ↓eq4n, -lenA, HH10, ↓HH11, ↓hcsX, ↓hcrX, ↓hcfX, HH16]; rfl) ?_)
     simp only [zT, zB]
     refine runs_cond (x := false) (by simp) ?_
     refine zK ?_
     simp only [zT, zB]
     refine zS ?_
     refine zR (zO (by simp [HH9, ↓orc_nil, ↓eq4n, -lenA, HH10, ↓HH11, ↓hcsX, ↓hcrX, ↓hcfX, HH16]; rfl) ?_)
     simp only [zT, zB]
     refine zS ?_
     refine zS ?_
     refine zR (zO (by simp [HH9, ↓orc_nil, ↓eq4n, -lenA, HH10, ↓HH11, ↓hcsX, ↓hcrX, ↓hcfX, HH16]; rfl) ?_)
     simp only [zT, zB]
     refine runs_frS ?_
     refine zL ?_
     refine runs_loopG_invB9 6 rfl (fun m σ => ∃ (oo : List Int) (k : Nat) (i : Int), Ok6 oo ∧ i = k ∧ nl.length - k = m ∧ k ≤ nl.length ∧ ((k = 0 ∧ σ = ⟨(.any :: tv :: .ref 0 0 0 :: .any :: .any :: .ref 1 0 0 :: .vl (js.map rowJ) false :: .any :: .any :: .vl (nl.map rI) nq :: .any :: .any :: .any :: .any :: .any :: .any :: .any :: .any :: .any :: .any :: .sl 6 0 0 true :: I i :: zA128 (zA32 (zA32 (zA32 (zA8 ([.any, .any, .any, .any, .any])))))), [some (.row 26 [cw oo]), some (.row 3 [[I s.mach, c, t]]), none, none, some (.row 4 (js.map rowJ)), none, some (.row 4 [])]⟩) ∨ (∃ (p : Nat) (ac : List FJob), k = p + 1 ∧ ac = gS js nl k ∧ ac.length = p + 1 ∧ σ = ⟨(.any :: tv :: .ref 0 0 0 :: .any :: .any :: .ref 1 0 0 :: .vl (js.map rowJ) false :: .any :: .any :: .vl (nl.map rI) nq :: .any :: .any :: .any :: .any :: .any :: .any :: .any :: .any :: .any :: .any :: .sl 6 0 (p + 1) false :: I i :: zA128 (zA32 (zA32 (zA32 (zA8 ([.any, .any, .any, .any, .any])))))), [some (.row 26 [cw oo]), some (.row 3 [[I s.mach, c, t]]), none, none, some (.row 4 (js.map rowJ)), none, some (.row 4 (ac.map rowJ))]⟩))) ?_ (by simp [HH9, ↓orc_nil, ↓eq4n, -lenA, HH10, ↓HH11, ↓hcsX, ↓hcrX, ↓hcfX, HH16] <;> first | exact ⟨rfl, rfl⟩ | rfl) (⟨oo, 0, 0, hoo, rfl, rfl, Nat.zero_le _, .inl ⟨rfl, rfl⟩⟩)
     exact s2
   ·have hend := hlA0
    refine zS ?_
    refine zS ?_
    refine zR (zO (by simp [HH9, ↓orc_nil, ↓eq4n, -lenA, HH10, ↓HH11, hclX, ↓hcsX, ↓hcrX, ↓hcfX, hctX, hlA0, hend]; rfl) ?_)
    simp only [zT, zB]
    refine runs_cond (x := false) (by simp [hend]) ?_
    refine runs_exit ?_
    simp only [zT, zB, if_true, if_false, reduceIte, Nat.reduceEqDiff, Nat.succ_ne_zero, Nat.one_ne_zero, Nat.zero_ne_one]
    refine zS ?_
    refine zS ?_
    refine zR (zO (by simp [HH9, ↓orc_nil, ↓eq4n, -lenA, HH10, ↓HH11, hclX, ↓hcsX, ↓hcrX, ↓hcfX, hctX, hlA0, hend]; rfl) ?_)
    simp only [zT, zB]
    refine runs_cond (x := false) (by simp) ?_
    refine zK ?_
    simp only [zT, zB]
    refine zS ?_
    refine zR (zO (by simp [HH9, ↓orc_nil, ↓eq4n, -lenA, HH10, ↓HH11, hclX, ↓hcsX, ↓hcrX, ↓hcfX, hctX, hlA0, hend]; rfl) ?_)
    simp only [zT, zB]
    refine zS ?_
    refine zS ?_
    refine zR (zO (by simp [HH9, ↓orc_nil, ↓eq4n, -lenA, HH10, ↓HH11, hclX, ↓hcsX, ↓hcrX, ↓hcfX, hctX, hlA0, hend]; rfl) ?_)
    simp only [zT, zB]
    refine runs_frS ?_
    refine zL ?_
    refine runs_loopG_invB9 6 rfl (fun m σ => ∃ (oo : List Int) (k : Nat) (i : Int), Ok6 oo ∧ i = k ∧ nl.length - k = m ∧ k ≤ nl.length ∧ ((k = 0 ∧ σ = ⟨(.any :: tv :: .ref 0 0 0 :: .any :: .any :: .ref 1 0 0 :: .vl (js.map rowJ) false :: .any :: .any :: .vl (nl.map rI) nq :: .any :: .any :: .any :: .any :: .any :: .any :: .any :: .any :: .any :: .any :: .sl 6 0 0 true :: I i :: zA128 (zA32 (zA32 (zA32 (zA8 ([.any, .any, .any, .any, .any])))))), [some (.row 26 [cw oo]), some (.row 3 [[I s.mach, c, t]]), none, none, some (.row 4 (js.map rowJ)), none, some (.row 4 [])]⟩) ∨ (∃ (p : Nat) (ac : List FJob), k = p + 1 ∧ ac = gS js nl k ∧ ac.length = p + 1 ∧ σ = ⟨(.any :: tv :: .ref 0 0 0 :: .any :: .any :: .ref 1 0 0 :: .vl (js.map rowJ) false :: .any :: .any :: .vl (nl.map rI) nq :: .any :: .any :: .any :: .any :: .any :: .any :: .any :: .any :: .any :: .any :: .sl 6 0 (p + 1) false :: I i :: zA128 (zA32 (zA32 (zA32 (zA8 ([.any, .any, .any, .any, .any])))))), [some (.row 26 [cw oo]), some (.row 3 [[I s.mach, c, t]]), none, none, some (.row 4 (js.map rowJ)), none, some (.row 4 (ac.map rowJ))]⟩))) ?_ (by simp [HH9, ↓orc_nil, ↓eq4n, -lenA, HH10, ↓HH11, hclX, ↓hcsX, ↓hcrX, ↓hcfX, hctX, hlA0, hend] <;> first | exact ⟨rfl, rfl⟩ | rfl) (⟨oo, 0, 0, hoo, rfl, rfl, Nat.zero_le _, .inl ⟨rfl, rfl⟩⟩)
    exact s2
  ·rintro m σ ⟨oo, k, i, hoo, hik, rfl, hkl, ⟨hk0', rfl⟩ | ⟨p, ac, hkp, hac, hacl, rfl⟩⟩
   ·obtain ⟨hclZ, hcsZ, hcrZ, hcfZ⟩ := hcells oo hoo
    have hctZ : (cw oo).take 26 = cw oo := List.take_of_length_le (by omega)
    refine zS ?_
    refine zS ?_
    refine zR (zO (by simp [HH9, ↓orc_nil, ↓eq4n, -lenA, HH10, ↓HH11, hclZ, ↓hcsZ, ↓hcrZ, ↓hcfZ, hctZ]; rfl) ?_)
    simp only [zT, zB]
    refine runs_cond_split (x := decide (i < (nl.length : Int))) (by simp) (fun hlt => ?_) (fun hlt => ?_)
    ·have hlt2 := of_decide_eq_true hlt
     have hkN : k < nl.length := by omega
     have hi0 : 0 ≤ i := by omega
     have htn : i.toNat = k := by omega
     have hiN : i < (nl.length : Int) := by omega
     have hwi : W .i64 (i + 1) = i + 1 := W_small (by omega)
     have he1 : (nl.map rI)[k]? = some [I nl[k]] := by rw [List.getElem?_map, List.getElem?_eq_getElem hkN]; rfl
     have he2 : ∀ (h : k < (nl.map rI).length), (nl.map rI)[k]'h = [I nl[k]] := fun h => by rw [List.getElem_map]; rfl
     obtain ⟨q1, q2, _⟩ := hmemN _ (List.getElem_mem hkN)
     obtain ⟨n, hn⟩ : ∃ n, nl[k].toNat = n := ⟨_, rfl⟩
     have hnj : n < js.length := by omega
     have hgs := gS_succ hkN hn hnj
     have hg1 : (js.map rowJ)[n]? = some [I js[n].kind, I js[n].ready, I js[n].due, encE js[n].mins] := by rw [List.getElem?_map, List.getElem?_eq_getElem hnj]; rfl
     have hg2 : ∀ (h : n < (js.map rowJ).length), (js.map rowJ)[n]'h = [I js[n].kind, I js[n].ready, I js[n].due, encE js[n].mins] := fun h => by rw [List.getElem_map]; rfl
     have hme := dInts_encE js[n].mins
     have fm := fun H d => dInts_frz hme H d
     have rm := fun n d => dInts_rb hme n d
     have lm := dInts_len hme
     obtain ⟨cm1, cm2⟩ := dInts_cells hme
     generalize nl[k] = v at *
     have q3 : ¬ v < 0 := by omega
     have q4 : ¬ (js.length : Int) ≤ v := by omega
     generalize js[n] = X at *
     have hnx : [X] = gS js nl (k + 1) := by rw [hgs, hk0']; rfl
     have q5 : ¬ 0 < i := by omega
     have hap : [[I X.kind, I X.ready, I X.due, encE X.mins]] = [X].map rowJ := rfl
     have hmN := fun n H d => rowsV_frN (dInts_rows hme) n H d
     have HH17 := zA hclZ (zA hctZ (zA hi0 (zA htn (zA hkN (zA hiN (zA hwi (zA he1 (zA he2 (zA q1 (zA q2 (zA q3 (zA q4 (zA hn (zA hnj (zA hg1 (zA hg2 (zA fm (zA rm (zA lm (zA cm1 (zA cm2 (zA q5 hmN))))))))))))))))))))))
     refine zK ?_
     simp only [zT, zB]
     refine zS ?_
     refine zL ?_
     refine zS ?_
     refine zS ?_
     refine runs_drw (by simp (maxSteps := 3000000) [HH9, ↓orc_nil, ↓eq4n, -lenA, HH10, ↓HH11, ↓hcsZ, ↓hcrZ, ↓hcfZ, HH17]; rfl) ?_
     simp only [zT, zB]
     refine runs_cond (x := false) (by simp) ?_
     refine zK ?_
     simp only [zT, zB]
     refine zR (zO (by simp [HH9, ↓orc_nil, ↓eq4n, -lenA, HH10, ↓HH11, ↓hcsZ, ↓hcrZ, ↓hcfZ, HH17]; rfl) ?_)
     simp only [zT, zB]
     refine zR (zO (by simp [HH9, ↓orc_nil, ↓eq4n, -lenA, HH10, ↓HH11, ↓hcsZ, ↓hcrZ, ↓hcfZ, HH17]; rfl) ?_)
     simp only [zT, zB]
     exact ⟨nl.length - (k + 1), _, _, by omega, by simp [HH9, ↓orc_nil, ↓eq4n, -lenA, HH10, ↓HH11, ↓hcsZ, ↓hcrZ, ↓hcfZ, HH17] <;> rfl, oo, k + 1, i + 1, hoo, by omega, rfl, by omega, .inr ⟨0, _, by omega, hnx, rfl, rfl⟩⟩
    ·have hx1 := of_decide_eq_false hlt
     have hkE : k = nl.length := by omega
     omega
   ·obtain ⟨hclZ, hcsZ, hcrZ, hcfZ⟩ := hcells oo hoo
    have hctZ : (cw oo).take 26 = cw oo := List.take_of_length_le (by omega)
    have tk : (ac.map rowJ).take (p + 1) = ac.map rowJ := List.take_of_length_le (by simp [hacl])
    have hlac : p + 1 + 1 ≤ 1048576 := by omega
    have hr3 : ∀ e : FJob, (rowJ e).length = 4 := fun _ => rfl
    have hff := fun n h r => optAll_snoc (frN_rowJ n h ac) r
    have hrj := fun n => rowJ_rb n 4 ac
    have hfa := fun H d => frz_rowJ H d ac
    have HH18 := zA hclZ (zA hctZ (zA tk (zA hlac hr3)))
    have HH19 := zA hcsZ (zA hcrZ (zA hcfZ (zA hff (zA hrj hfa))))
    refine zS ?_
    refine zS ?_
    refine zR (zO (by simp [HH9, ↓orc_nil, ↓eq4n, -lenA, HH10, ↓HH11, hacl, HH18, ↓HH19]; rfl) ?_)
    simp only [zT, zB]
    refine runs_cond_split (x := decide (i < (nl.length : Int))) (by simp) (fun hlt => ?_) (fun hlt => ?_)
    ·have hlt2 := of_decide_eq_true hlt
     have hkN : k < nl.length := by omega
     have hi0 : 0 ≤ i := by omega
     have htn : i.toNat = k := by omega
     have hiN : i < (nl.length : Int) := by omega
     have hwi : W .i64 (i + 1) = i + 1 := W_small (by omega)
     have he1 : (nl.map rI)[k]? = some [I nl[k]] := by rw [List.getElem?_map, List.getElem?_eq_getElem hkN]; rfl
     have he2 : ∀ (h : k < (nl.map rI).length), (nl.map rI)[k]'h = [I nl[k]] := fun h => by rw [List.getElem_map]; rfl
     obtain ⟨q1, q2, _⟩ := hmemN _ (List.getElem_mem hkN)
     obtain ⟨n, hn⟩ : ∃ n, nl[k].toNat = n := ⟨_, rfl⟩
     have hnj : n < js.length := by omega
     have hgs := gS_succ hkN hn hnj
     have hg1 : (js.map rowJ)[n]? = some [I js[n].kind, I js[n].ready, I js[n].due, encE js[n].mins] := by rw [List.getElem?_map, List.getElem?_eq_getElem hnj]; rfl
     have hg2 : ∀ (h : n < (js.map rowJ).length), (js.map rowJ)[n]'h = [I js[n].kind, I js[n].ready, I js[n].due, encE js[n].mins] := fun h => by rw [List.getElem_map]; rfl
     have hme := dInts_encE js[n].mins
     have fm := fun H d => dInts_frz hme H d
     have rm := fun n d => dInts_rb hme n d
     have lm := dInts_len hme
     obtain ⟨cm1, cm2⟩ := dInts_cells hme
     have hi1 : (i - 1).toNat = p := by omega
     have hi2 : 0 ≤ i - 1 := by omega
     have hi3 : 0 < i := by omega
     have hi4 : 1 ≤ i := by omega
     have hwj : W .i64 (i - 1) = i - 1 := W_small (by omega)
     have hpN : p < nl.length := by omega
     have hip : i - 1 < (nl.length : Int) := by omega
     have hq3 : nl[p] < nl[k] := List.pairwise_iff_getElem.1 hpairN p k hpN hkN (by omega)
     have he3 : (nl.map rI)[p]? = some [I nl[p]] := by rw [List.getElem?_map, List.getElem?_eq_getElem hpN]; rfl
     have he4 : ∀ (h : p < (nl.map rI).length), (nl.map rI)[p]'h = [I nl[p]] := fun h => by rw [List.getElem_map]; rfl
     generalize nl[p] = u at *
     generalize nl[k] = v at *
     have q3 : ¬ v < 0 := by omega
     have q4 : ¬ (js.length : Int) ≤ v := by omega
     generalize js[n] = X at *
     have q5 : ¬ v ≤ u := by omega
     have hnx : ac ++ [X] = gS js nl (k + 1) := by rw [hgs, ← hac]
     have hnl2 : (ac ++ [X]).length = p + 1 + 1 := by simp [hacl]
     have hap : ac.map rowJ ++ [[I X.kind, I X.ready, I X.due, encE X.mins]] = (ac ++ [X]).map rowJ := by rw [List.map_append]; rfl
     generalize ac ++ [X] = nx at *
     have hfx := fun n h => optAll_self _ (frN_rowJ n h nx)
     have hrx := fun n => rowJ_rb n 4 nx
     have HH20 := zA hi0 (zA htn (zA hkN (zA hiN (zA hwi (zA he1 (zA he2 (zA q1 (zA q2 (zA q3 (zA q4 (zA hn (zA hnj (zA hg1 (zA hg2 (zA fm (zA rm (zA lm (zA cm1 (zA cm2 (zA hi1 (zA hi2 (zA hi3 (zA hi4 (zA hwj (zA hpN (zA hip (zA he3 (zA he4 (zA q5 hap)))))))))))))))))))))))))))))
     refine zK ?_
     simp only [zT, zB]
     refine zS ?_
     refine zL ?_
     refine zS ?_
     refine zS ?_
     refine runs_drw (by simp (maxSteps := 3000000) [HH9, ↓orc_nil, ↓eq4n, -lenA, HH10, ↓HH11, hacl, HH18, ↓HH19, ↓hfx, ↓hrx, HH20]; rfl) ?_
     simp only [zT, zB]
     refine runs_cond (x := false) (by simp) ?_
     refine zK ?_
     simp only [zT, zB]
     refine zR (zO (by simp [HH9, ↓orc_nil, ↓eq4n, -lenA, HH10, ↓HH11, hacl, HH18, ↓HH19, ↓hfx, ↓hrx, HH20]; rfl) ?_)
     simp only [zT, zB]
     refine zR (zO (by simp [HH9, ↓orc_nil, ↓eq4n, -lenA, HH10, ↓HH11, hacl, HH18, ↓HH19, ↓hfx, ↓hrx, HH20]; rfl) ?_)
     simp only [zT, zB]
     exact ⟨nl.length - (k + 1), _, _, by omega, by simp [HH9, ↓orc_nil, ↓eq4n, -lenA, HH10, ↓HH11, hacl, HH18, ↓HH19, ↓hfx, ↓hrx, HH20] <;> rfl, oo, k + 1, i + 1, hoo, by omega, rfl, by omega, .inr ⟨p + 1, _, by omega, hnx, hnl2, rfl⟩⟩
    ·have hx1 := of_decide_eq_false hlt
     have hkE : k = nl.length := by omega
     rw [hkE, hgf] at hac
     have hacN : ac.length = nl.length := by omega
     rw [← hac] at hshS hst3
     have hgfS := hac
     simp only [← hac] at hrs
     clear hac
     have hpl : p + 1 ≤ ac.length := by omega
     refine runs_exit ?_
     simp only [zT, zB, if_true, if_false, reduceIte, Nat.reduceEqDiff, Nat.succ_ne_zero, Nat.one_ne_zero, Nat.zero_ne_one]
     refine ⟨_, _, by simp [fzT, fz1, HH9, ↓orc_nil, ↓eq4n, -lenA, HH10, ↓HH11, hpl, HH18, ↓HH19] <;> first | exact ⟨rfl, rfl⟩ | rfl, ?_⟩
     try simp only [zT, zB]
     refine zS ?_
     refine zS ?_
     refine zR (zO (by simp [HH9, ↓orc_nil, ↓eq4n, -lenA, HH10, ↓HH11, hpl, HH18, ↓HH19]; rfl) ?_)
     simp only [zT, zB]
     refine zL ?_
     have hjS := dJobs_vlJ ac false
     have hsz := ok_size hshS
     have hwkS := sWork_eq hjS ⟨by omega, fun l hl => by have := hsz.mins l hl; omega⟩
     have hkS : ((ac.map rowJ).all fun x => x.all (okA false)) = true := okJ ac
     have tkS : (ac.map rowJ).take ac.length = ac.map rowJ := List.take_of_length_le (by simp)
     have heS : shopE s ac = 0 := by rw [hgfS]; exact shopE_in he0 _
     have hlaS := fun (os : List Int) (ho : ordB os ac.length = true) => (by have := lateT_eq hc2 ht2 hjS (dInts_encE os) hsz (by rw [ord_len ho]; omega); rwa [ordE_of heS ho, lateT_R (ordE_of heS ho)] at this : oLateT [.agg [I s.mach, c2, t2], .vl (ac.map rowJ) false, encE os] = some (.tup [I (lateR s ac os).1, I (lateR s ac os).2.1, I (lateR s ac os).2.2, I 0]))
     have fs := fun H d => dJobs_frz hjS H d
     have rs := fun n d => dJobs_rb hjS n d
     have ls := dJobs_len hjS
     obtain ⟨cs1, cs2⟩ := dJobs_cells hjS
     have HH21 := zA hwkS (zA tkS (zA fs (zA rs (zA ls (zA cs1 cs2)))))
     refine runs_loop_inv (fun m σ => ∃ (k : Nat) (i : Int) (oo : List Int), i = k ∧ tr.length - k = m ∧ k ≤ tr.length ∧ Ok6 oo ∧ σ = ⟨(.any :: tv :: .ref 0 0 0 :: .any :: .any :: .ref 1 0 0 :: .any :: .any :: .any :: .vl (nl.map rI) nq :: .any :: .any :: .any :: .any :: .any :: .any :: .any :: .any :: .any :: .any :: .vl (ac.map rowJ) false :: .any :: I i :: zA128 (zA32 (zA32 (zA32 (zA8 ([.any, .any, .any, .any])))))), [some (.row 26 [cw oo]), some (.row 3 [[I s.mach, c, t]]), none, none, some (.row 4 (js.map rowJ)), none, none]⟩) ?_ (tr.length - 0) _ ⟨0, 0, oo, rfl, rfl, Nat.zero_le _, hoo, by simp [HH9, ↓orc_nil, ↓eq4n, -lenA, HH10, ↓HH11, HH18, ↓HH19, ↓hkS, HH21]⟩
     rintro m σ ⟨k, i, oo, hik, rfl, hkl, hoo, rfl⟩
     obtain ⟨hclX, hcsX, hcrX, hcfX⟩ := hcells oo hoo
     have hctX : (cw oo).take 26 = cw oo := List.take_of_length_le (by omega)
     apply zQ9
     ·intro s3
      by_cases hlA0 : i < (tr.length : Int)
      ·by_cases h10 : i < 10
       ·clear s3
        have hlA : i < (tr.length : Int) := by omega
        have hkT : k < tr.length := by omega
        have hi0 : 0 ≤ i := by omega
        have htn : i.toNat = k := by omega
        have hwi : W .i64 (i + 1) = i + 1 := W_small (by omega)
        obtain ⟨tq, htq⟩ := rowsV_get htv (k := k) (by rw [List.length_map]; exact hkT)
        have hv6 := htb _ (List.getElem_mem hkT)
        obtain ⟨b0, b1, b2, b3, b4, b5, hbb⟩ := ok6_ex hv6
        rw [hbb] at hv6
        have hge1 : (tr.map rU)[k]? = some [.int .u8 b0, .int .u8 b1, .int .u8 b2, .int .u8 b3, .int .u8 b4, .int .u8 b5] := by rw [List.getElem?_map, List.getElem?_eq_getElem hkT, hbb]; rfl
        have hge2 : ∀ (h : k < (tr.map rU).length), (tr.map rU)[k]'h = [.int .u8 b0, .int .u8 b1, .int .u8 b2, .int .u8 b3, .int .u8 b4, .int .u8 b5] := fun h => by rw [List.getElem_map, hbb]; rfl
        have hputX := hput oo hoo b0 b1 b2 b3 b4 b5
        unfold putAt at hputX
        simp only [List.cons_append, List.nil_append, List.append_assoc, List.length_cons, List.length_nil, Nat.reduceAdd] at hputX
        obtain ⟨hclY, hcsY, hcrY, hcfY⟩ := hcells [b0, b1, b2, b3, b4, b5] hv6
        have hctY : (cw [b0, b1, b2, b3, b4, b5]).take 26 = cw [b0, b1, b2, b3, b4, b5] := List.take_of_length_le (by omega)
        have hoq := hord _ hv6 ac.length (by omega)
        have hordB := ordW_ord (o := [b0, b1, b2, b3, b4, b5]) hv6 (n := ac.length) (by omega)
        have hlt9 := hlaS _ hordB
        have hps9 := late_pos hshS hst3 hordB
        have hox := dInts_encE (ordW [b0, b1, b2, b3, b4, b5] ac.length)
        generalize lateR s ac (ordW [b0, b1, b2, b3, b4, b5] ac.length) = LX at *
        obtain ⟨x1, x2, x3⟩ := LX
        have hpsb : (x1 == 0) = false := by simpa using hps9
        generalize encE (ordW [b0, b1, b2, b3, b4, b5] ac.length) = ox at *
        have fx := fun H d => dInts_frz hox H d
        have rx := fun n d => dInts_rb hox n d
        have lx := dInts_len hox
        obtain ⟨cx1, cx2⟩ := dInts_cells hox
        subst htq
        have HH22 := zA hclX (zA hctX (zA hlA (zA hkT (zA hi0 (zA htn (zA hwi (zA hge1 (zA hge2 (zA hputX (zA hclY (zA hctY (zA hoq (zA hlt9 (zA hpsb (zA h10 (zA fx (zA rx (zA lx (zA cx1 cx2)))))))))))))))))))
        have HH23 := zA hkS (zA hcsX (zA hcrX (zA hcfX (zA hcsY (zA hcrY hcfY)))))
        refine zS ?_
        refine zS ?_
        refine zR (zO (by simp [HH9, ↓orc_nil, ↓eq4n, -lenA, HH10, ↓HH11, HH18, ↓HH19, HH21, HH22, ↓HH23]; rfl) ?_)
        simp only [zT, zB]
        refine runs_cond (x := true) (by simp [hlA, h10]) ?_
        refine zK ?_
        simp only [zT, zB]
        refine zS ?_
        refine zL ?_
        refine zS ?_
        refine zR (zO (by simp [HH9, ↓orc_nil, ↓eq4n, -lenA, HH10, ↓HH11, HH18, ↓HH19, HH21, HH22, ↓HH23]; rfl) ?_)
        simp only [zT, zB]
        refine zS ?_
        refine runs_drw (by simp (maxSteps := 3000000) [HH9, ↓orc_nil, ↓eq4n, -lenA, HH10, ↓HH11, HH18, ↓HH19, HH21, HH22, ↓HH23]; rfl) ?_
        simp only [zT, zB]
        refine zS ?_
        refine zR (zO (by simp [HH9, ↓orc_nil, ↓eq4n, -lenA, HH10, ↓HH11, HH18, ↓HH19, HH21, HH22, ↓HH23]; rfl) ?_)
        simp only [zT, zB]
        refine runs_cond (x := false) (by simp [hpsb]) ?_
        refine zK ?_
        simp only [zT, zB]
        refine zR (zO (by simp [HH9, ↓orc_nil, ↓eq4n, -lenA, HH10, ↓HH11, HH18, ↓HH19, HH21, HH22, ↓HH23]; rfl) ?_)
        simp only [zT, zB]
        exact ⟨tr.length - (k + 1), by omega, k + 1, i + 1, [b0, b1, b2, b3, b4, b5], by omega, rfl, by omega, hv6, by simp [trim, HH9, ↓orc_nil, ↓eq4n, -lenA, HH10, ↓HH11, HH18, ↓HH19, HH21, HH22, ↓HH23]⟩
       ·have hend : (if i < (tr.length : Int) then decide (i < 10) else false) = false := by simp [h10]
        have HH24 := zA hclX (zA hctX (zA hlA0 (zA h10 hend)))
        refine zS ?_
        refine zS ?_
        refine zR (zO (by simp [HH9, ↓orc_nil, ↓eq4n, -lenA, HH10, ↓HH11, HH18, ↓HH19, ↓hkS, HH21, ↓hcsX, ↓hcrX, ↓hcfX, HH24]; rfl) ?_)
        simp only [zT, zB]
        refine runs_cond (x := false) (by simp [hend]) ?_
        refine runs_exit ?_
        simp only [zT, zB, if_true, if_false, reduceIte, Nat.reduceEqDiff, Nat.succ_ne_zero, Nat.one_ne_zero, Nat.zero_ne_one]
        refine zS ?_
        refine zS ?_
        refine zR (zO (by simp [HH9, ↓orc_nil, ↓eq4n, -lenA, HH10, ↓HH11, HH18, ↓HH19, ↓hkS, HH21, ↓hcsX, ↓hcrX, ↓hcfX, HH24]; rfl) ?_)
        simp only [zT, zB]
        refine zL ?_
        refine runs_loop_inv (fun m σ => ∃ (k : Nat) (i : Int) (oo : List Int), i = k ∧ ac.length - k = m ∧ k ≤ ac.length ∧ Ok6 oo ∧ σ = ⟨(.any :: .any :: .any :: .any :: .any :: .ref 1 0 0 :: .any :: .any :: .any :: .vl (nl.map rI) nq :: .any :: .any :: .any :: .any :: .any :: .any :: .any :: .any :: .any :: .any :: .vl (ac.map rowJ) false :: .any :: .any :: .any :: .any :: .any :: .any :: I i :: zA128 (zA32 (zA32 (zA32 ([.any, .any, .any, .any, .any, .any, .any]))))), [some (.row 26 [cw oo]), some (.row 3 [[I s.mach, c, t]]), none, none, some (.row 4 (js.map rowJ)), none, none]⟩) s3 (ac.length - 0) _ ⟨0, 0, oo, rfl, rfl, Nat.zero_le _, hoo, by simp [HH9, ↓orc_nil, ↓eq4n, -lenA, HH10, ↓HH11, HH18, ↓HH19, ↓hkS, HH21, ↓hcsX, ↓hcrX, ↓hcfX, HH24]⟩
      ·have hend := hlA0
       refine zS ?_
       refine zS ?_
       refine zR (zO (by simp [HH9, ↓orc_nil, ↓eq4n, -lenA, HH10, ↓HH11, HH18, ↓HH19, ↓hkS, HH21, hclX, ↓hcsX, ↓hcrX, ↓hcfX, hctX, hlA0, hend]; rfl) ?_)
       simp only [zT, zB]
       refine runs_cond (x := false) (by simp [hend]) ?_
       refine runs_exit ?_
       simp only [zT, zB, if_true, if_false, reduceIte, Nat.reduceEqDiff, Nat.succ_ne_zero, Nat.one_ne_zero, Nat.zero_ne_one]
       refine zS ?_
       refine zS ?_
       refine zR (zO (by simp [HH9, ↓orc_nil, ↓eq4n, -lenA, HH10, ↓HH11, HH18, ↓HH19, ↓hkS, HH21, hclX, ↓hcsX, ↓hcrX, ↓hcfX, hctX, hlA0, hend]; rfl) ?_)
       simp only [zT, zB]
       refine zL ?_
       refine runs_loop_inv (fun m σ => ∃ (k : Nat) (i : Int) (oo : List Int), i = k ∧ ac.length - k = m ∧ k ≤ ac.length ∧ Ok6 oo ∧ σ = ⟨(.any :: .any :: .any :: .any :: .any :: .ref 1 0 0 :: .any :: .any :: .any :: .vl (nl.map rI) nq :: .any :: .any :: .any :: .any :: .any :: .any :: .any :: .any :: .any :: .any :: .vl (ac.map rowJ) false :: .any :: .any :: .any :: .any :: .any :: .any :: I i :: zA128 (zA32 (zA32 (zA32 ([.any, .any, .any, .any, .any, .any, .any]))))), [some (.row 26 [cw oo]), some (.row 3 [[I s.mach, c, t]]), none, none, some (.row 4 (js.map rowJ)), none, none]⟩) s3 (ac.length - 0) _ ⟨0, 0, oo, rfl, rfl, Nat.zero_le _, hoo, by simp [HH9, ↓orc_nil, ↓eq4n, -lenA, HH10, ↓HH11, HH18, ↓HH19, ↓hkS, HH21, hclX, ↓hcsX, ↓hcrX, ↓hcfX, hctX, hlA0, hend]⟩
     ·rintro m σ ⟨k, i, oo, hik, rfl, hkl, hoo, rfl⟩
      obtain ⟨hclV, hcsV, hcrV, hcfV⟩ := hcells oo hoo
      have hctV : (cw oo).take 26 = cw oo := List.take_of_length_le (by omega)
      have HH25 := zA hkS (zA hcsX (zA hcrX (zA hcfX (zA hcsV (zA hcrV hcfV)))))
      refine zS ?_
      refine zS ?_
      refine zR (zO (by simp [HH9, ↓orc_nil, ↓eq4n, -lenA, HH10, ↓HH11, HH18, ↓HH19, HH21, hclX, hctX, hclV, hctV, ↓HH25]; rfl) ?_)
      simp only [zT, zB]
      refine runs_cond_split (x := decide (i < (ac.length : Int))) (by simp) (fun hlt => ?_) (fun hlt => ?_)
      ·have hlt2 := of_decide_eq_true hlt
       have hkS1 : k < ac.length := by omega
       have hi0 : 0 ≤ i := by omega
       have htn : i.toNat = k := by omega
       have htn1 : (i + 1).toNat = k + 1 := by omega
       have hi1 : 0 ≤ i + 1 := by omega
       have hi2 : i ≤ (ac.length : Int) := by omega
       have hi3 : i + 1 ≤ (ac.length : Int) := by omega
       have hkl1 : k ≤ ac.length := by omega
       have hkl2 : k + 1 ≤ ac.length := by omega
       have hwi : W .i64 (i + 1) = i + 1 := W_small (by omega)
       obtain ⟨st2, hr1, hr2⟩ := hrs k (by omega)
       have hshR := shop_in hsh (st2 : Int)
       have hzR := ok_size hshR
       have heR := shopE_in he0 (st2 : Int)
       rw [hr1] at hshR hzR hr2 heR
       have hjR := dJobs_vlJ (ac.take k ++ ac.drop (k + 1)) false
       have hnR := never_eq hc2 ht2 hjR hzR
       have hnR1 : nevE s (ac.take k ++ ac.drop (k + 1)) = 7 := by unfold nevE; rw [if_pos heR, if_pos hr2]
       have hnR2 : nevV s (ac.take k ++ ac.drop (k + 1)) = .nils := by show (if nevE s (ac.take k ++ ac.drop (k + 1)) = 0 then _ else _) = _; rw [hnR1]; rfl
       rw [hnR1, hnR2] at hnR
       have hRl : (ac.take k ++ ac.drop (k + 1)).length = k + (ac.length - (k + 1)) := by simp; omega
       have hwR := sWork_eq hjR ⟨by omega, fun l hl => by have := hzR.mins l hl; omega⟩
       have hwK := sWork_eq (dJobs_vlJ (ac.take k) false) ⟨by simp; omega, fun l hl => by have := hsz.mins l (List.mem_of_mem_take hl); omega⟩
       have hK1 : (ac.take k).length = k := by simp; omega
       rw [hK1] at hwK
       have hR0 : (ac.take k ++ ac.drop (k + 1)).map rowJ = (ac.take k).map rowJ ++ (ac.drop (k + 1)).map rowJ := List.map_append
       have hX1 : (ac.map rowJ).take k = (ac.take k).map rowJ := List.map_take.symm
       have hX2 : (ac.map rowJ).drop (k + 1) = (ac.drop (k + 1)).map rowJ := List.map_drop.symm
       have hD1 : (ac.drop (k + 1)).length = ac.length - (k + 1) := List.length_drop
       generalize ac.take k ++ ac.drop (k + 1) = R at *
       generalize ac.drop (k + 1) = D at *
       generalize ac.take k = A at *
       have r4 : ∀ l : List FJob, ((l.map rowJ).all fun x => x.length == 4) = true := fun l => by simp [rowJ]
       have s4 : ∀ l : List FJob, ((l.map rowJ).all fun x => x.all storable) = true := fun l => by simp only [List.all_eq_true]; intro r hr z hz; obtain ⟨j, _, rfl⟩ := List.mem_map.1 hr; simp only [rowJ, List.mem_cons, List.not_mem_nil, or_false] at hz; rcases hz with rfl | rfl | rfl | rfl <;> first | rfl | exact (dInts_cells (dInts_encE _)).2
       have fR := fun H d => frz_rowJ H d R
       have fA := fun H d => frz_rowJ H d A
       have fD := fun H d => frz_rowJ H d D
       have bR := fun n => rowJ_rb n 4 R
       have bA := fun n => rowJ_rb n 4 A
       have bD := fun n => rowJ_rb n 4 D
       have oR := okJ R
       have oA : ((A.map rowJ).all fun x => x.all (okA false)) = true := okJ A
       change ((R.map rowJ).all fun x => x.all (okA false)) = true at oR
       have tA : (A.map rowJ).take k = A.map rowJ := List.take_of_length_le (by simp [hK1])
       have tR : (R.map rowJ).take R.length = R.map rowJ := List.take_of_length_le (by simp)
       have lR : lenA (.vl (R.map rowJ) false) = some R.length := by simp
       by_cases hD0 : D = []
       ·rw [hD0, List.map_nil, List.append_nil] at hR0
        have hD9 : D.length = 0 := by rw [hD0]; rfl
        have hRk : R.length = k := by rw [hRl, ← hD1, hD9, Nat.add_zero]
        have hDl : ac.length - (k + 1) = 0 := by rw [← hD1]; exact hD9
        rw [hR0] at hnR
        have HH26 := zA hclX (zA hctX (zA hclV (zA hctV (zA hi0 (zA htn (zA htn1 (zA hi1 (zA hi2 (zA hi3 (zA hkl1 (zA hkl2 (zA hwi (zA hnR (zA hwR (zA hwK (zA hK1 (zA hX1 (zA hX2 (zA tR (zA lR hDl))))))))))))))))))))
        have HH27 := zA r4 (zA s4 (zA fR (zA fD (zA bR (zA bD (zA oR oA))))))
        refine zK ?_
        simp only [zT, zB]
        refine zS ?_
        refine zL ?_
        refine zS ?_
        refine runs_frS ?_
        refine runs_drw (by simp (maxSteps := 3000000) [HH9, ↓orc_nil, ↓eq4n, -lenA, HH10, ↓HH11, HH18, ↓HH19, HH21, ↓HH25, ↓fA, ↓bA, tA, evOpt, sliceA, bounds, hiB, bound, HH26, ↓HH27]; rfl) ?_
        simp only [zT, zB]
        refine ⟨_, _, by simp [fzT, fz1, HH9, ↓orc_nil, ↓eq4n, -lenA, HH10, ↓HH11, HH18, ↓HH19, HH21, ↓HH25, ↓fA, ↓bA, tA, evOpt, sliceA, bounds, hiB, bound, HH26, ↓HH27] <;> first | exact ⟨rfl, rfl⟩ | rfl, ?_⟩
        try simp only [zT, zB]
        refine zS ?_
        refine zR (zO (by simp [HH9, ↓orc_nil, ↓eq4n, -lenA, HH10, ↓HH11, HH18, ↓HH19, HH21, ↓HH25, ↓fA, ↓bA, tA, evOpt, sliceA, bounds, hiB, bound, HH26, ↓HH27]; rfl) ?_)
        simp only [zT, zB]
        refine zS ?_
        refine zR (zO (by simp [HH9, ↓orc_nil, ↓eq4n, -lenA, HH10, ↓HH11, HH18, ↓HH19, HH21, ↓HH25, ↓fA, ↓bA, tA, evOpt, sliceA, bounds, hiB, bound, HH26, ↓HH27]; rfl) ?_)
        simp only [zT, zB]
        refine runs_cond (x := false) (by simp) ?_
        refine zK ?_
        simp only [zT, zB]
        refine zR (zO (by simp [HH9, ↓orc_nil, ↓eq4n, -lenA, HH10, ↓HH11, HH18, ↓HH19, HH21, ↓HH25, ↓fA, ↓bA, tA, evOpt, sliceA, bounds, hiB, bound, HH26, ↓HH27]; rfl) ?_)
        simp only [zT, zB]
        exact ⟨ac.length - (k + 1), by omega, k + 1, i + 1, oo, by omega, rfl, by omega, hoo, by simp [trim, HH9, ↓orc_nil, ↓eq4n, -lenA, HH10, ↓HH11, HH18, ↓HH19, HH21, ↓HH25, ↓fA, ↓bA, tA, evOpt, sliceA, bounds, hiB, bound, HH26, ↓HH27]⟩
       ·have hD9 : ¬ D.length = 0 := fun h => hD0 (List.eq_nil_of_length_eq_zero h)
        have hRk : k + D.length = R.length := by rw [hRl, hD1]
        have hlk : k + D.length ≤ 1048576 := by omega
        have hRle : k + D.length ≤ R.length := by omega
        have hDl := hD1.symm
        have tD : (D.map rowJ).take D.length = D.map rowJ := List.take_of_length_le (by simp)
        have hap := hR0.symm
        have tR2 : (R.map rowJ).take (k + D.length) = R.map rowJ := List.take_of_length_le (by simp [hRk])
        have HH28 := zA hclX (zA hctX (zA hclV (zA hctV (zA hi0 (zA htn (zA htn1 (zA hi1 (zA hi2 (zA hi3 (zA hkl1 (zA hkl2 (zA hwi (zA hnR (zA hwR (zA hwK (zA hK1 (zA hX1 (zA hX2 (zA tR (zA lR (zA hDl (zA tD (zA hD9 (zA hlk (zA hRle tR2)))))))))))))))))))))))))
        have HH29 := zA r4 (zA s4 (zA fR (zA fD (zA bR (zA bD (zA oR (zA oA hap)))))))
        refine zK ?_
        simp only [zT, zB]
        refine zS ?_
        refine zL ?_
        refine zS ?_
        refine runs_frS ?_
        refine runs_drw (by simp (maxSteps := 3000000) [HH9, ↓orc_nil, ↓eq4n, -lenA, HH10, ↓HH11, HH18, ↓HH19, HH21, ↓HH25, ↓fA, ↓bA, tA, evOpt, sliceA, bounds, hiB, bound, HH28, ↓HH29]; rfl) ?_
        simp only [zT, zB]
        refine ⟨_, _, by simp [fzT, fz1, HH9, ↓orc_nil, ↓eq4n, -lenA, HH10, ↓HH11, HH18, ↓HH19, HH21, ↓HH25, ↓fA, ↓bA, tA, evOpt, sliceA, bounds, hiB, bound, HH28, ↓HH29] <;> first | exact ⟨rfl, rfl⟩ | rfl, ?_⟩
        try simp only [zT, zB]
        refine zS ?_
        refine zR (zO (by simp [HH9, ↓orc_nil, ↓eq4n, -lenA, HH10, ↓HH11, HH18, ↓HH19, HH21, ↓HH25, ↓fA, ↓bA, tA, evOpt, sliceA, bounds, hiB, bound, HH28, ↓HH29]; rfl) ?_)
        simp only [zT, zB]
        refine zS ?_
        refine zR (zO (by simp [HH9, ↓orc_nil, ↓eq4n, -lenA, HH10, ↓HH11, HH18, ↓HH19, HH21, ↓HH25, ↓fA, ↓bA, tA, evOpt, sliceA, bounds, hiB, bound, HH28, ↓HH29]; rfl) ?_)
        simp only [zT, zB]
        refine runs_cond (x := false) (by simp) ?_
        refine zK ?_
        simp only [zT, zB]
        refine zR (zO (by simp [HH9, ↓orc_nil, ↓eq4n, -lenA, HH10, ↓HH11, HH18, ↓HH19, HH21, ↓HH25, ↓fA, ↓bA, tA, evOpt, sliceA, bounds, hiB, bound, HH28, ↓HH29]; rfl) ?_)
        simp only [zT, zB]
        exact ⟨ac.length - (k + 1), by omega, k + 1, i + 1, oo, by omega, rfl, by omega, hoo, by simp [trim, HH9, ↓orc_nil, ↓eq4n, -lenA, HH10, ↓HH11, HH18, ↓HH19, HH21, ↓HH25, ↓fA, ↓bA, tA, evOpt, sliceA, bounds, hiB, bound, HH28, ↓HH29]⟩
      ·have hx1 := of_decide_eq_false hlt
       have hnp : (0 : Int) < (nl.length : Int) := by omega
       have HH30 := zA hclX (zA hctX (zA hclV (zA hctV (zA hnne hnp))))
       refine runs_exit ?_
       simp only [zT, zB, if_true, if_false, reduceIte, Nat.reduceEqDiff, Nat.succ_ne_zero, Nat.one_ne_zero, Nat.zero_ne_one]
       refine zS ?_
       refine zR (zO (by simp [HH9, ↓orc_nil, ↓eq4n, -lenA, HH10, ↓HH11, HH18, ↓HH19, HH21, ↓HH25, HH30]; rfl) ?_)
       simp only [zT, zB]
       refine runs_ret ?_
       simp [HH9, ↓orc_nil, ↓eq4n, -lenA, HH10, ↓HH11, HH18, ↓HH19, HH21, ↓HH25, HH30]
end
end
end Go.Proofs.YtjjapdagllclkaaGreat.Tab
namespace Go.Proofs.YtjjapdagllclkaaGreat
open Go Go.Abs Go.Proofs
theorem fits_tries {x : AVal} (h : Fits (.sl [.int .u8, .int .u8, .int .u8, .int .u8, .int .u8, .int .u8]) x) : ∃ tr : List (List Int), rowsV x = some (tr.map Tab.rU) ∧ ∀ v ∈ tr, Tab.Ok6 v := by
  obtain ⟨rs, hx, hrs⟩ := fits_rows h
  obtain ⟨vs, rfl, hvs⟩ := map_ofP (enc := Tab.rU) (p := fun v => v.length = 6 ∧ ∀ n ∈ v, Tab.isU n) (l := rs) fun a ha => by
    obtain ⟨v, ys, rfl, vl, hv, h⟩ := fits_us 6 (Ls := []) (hrs a ha)
    obtain rfl := fitsR_nil h
    exact ⟨v, by rw [List.append_nil], vl, hv⟩
  exact ⟨vs, rows_of hx, hvs⟩
end Go.Proofs.YtjjapdagllclkaaGreat
namespace Go.Proofs.YtjjapdagllclkaaGreat.Tab
open Go Go.Abs Go.Proofs
set_option maxRecDepth 100000
set_option maxHeartbeats 4000000
set_option linter.unusedSimpArgs false
set_option linter.unusedVariables false
section
attribute [local simp] frz_int frz_bool frz_vl frz_pv frz_agg frz_tup frz_fn frz_ref frz_sl frz_nils optAll orcF rb_int rb_bool rb_agg rb_tup rb_int' rb_bool' rb_vl rb_pv rb_yld rb_nilf rb_nilp rb_nils rb_any rb_und rb_ref rb_sl rb_fn slE chunk fillA evParts evParts3 putAt List.range_succ List.range_zero List.range'_succ List.range'_zero runX_nil' unary_not evalS_pure evAll_nil evAll_cons runX_cons stepX wantedA dop CV.ev putK_eq setK_eq appK_eq fA_eq fI_eq fN_eq fRow_eq fRows_eq nth_eq Out.v putT List.replicate_succ zT zB arI pointee Abs.rowAt ldRow allV toV toC ofV ofC Builtin.min_ Builtin.min2 Builtin.max_ Builtin.max2 min_if max_if resA tupA kill trim_self trim_len trim_emp trim_nil lenA
attribute [local simp] runD_nil' runD_cons' stepD actK_eq actD clash disj masks holes maskH unmaskH diffs news eqB allB eqA ldRowN wrote toCs ofCs stA rowsV_vl rowsV_nils rowsOf dI1 dI2 dI3 dI5 elt
attribute [local simp] st_any st_und st_agg st_tup st_bool st_int st_nilp st_ref st_pv st_nils st_sl st_vl st_nilm st_mp st_fn st_nilf st_yld co_any co_und co_agg co_tup co_bool co_int co_nilp co_ref co_pv co_nils co_sl co_vl co_nilm co_mp co_fn co_nilf co_yld
section
noncomputable def BL1 : Nat → Option CFn := updG BK 9 [(3146342, [.slot 20])] []
theorem BL1_ok : TabOk Tryz.prog GG BL1 := tab_updG BK_ok
noncomputable def BL2 : Nat → Option CFn := updF BL1 9 [(2, [20])] [28]
theorem BL2_ok : TabOk Tryz.prog GG BL2 := tab_updF BL1_ok
noncomputable def BL3 : Nat → Option CFn := upd BL2 16 false oCopy
theorem BL3_ok : TabOk Tryz.prog GG BL3 := tab_upd BL2_ok (tab_good (f := 16) (c := { c16 with frsh := false, orc := oCopy }) FT3_ok rfl)
noncomputable def BL : Nat → Option CFn := BL3
theorem BL_ok : TabOk Tryz.prog GG BL := BL3_ok
theorem law9 (W_ : FWorks) (x y : AVal) (hx : rowsV x = some (W_.xs.map rU)) (hy : rowsV y = some (W_.ys.map rU)) (hw : WkOk W_) (tv : AVal) (tr : List (List Int)) (htv : rowsV tv = some (tr.map rU)) (htb : ∀ v ∈ tr, Ok6 v) : Answers Tryz.prog BL 9 [.agg (wkC W_ x y), tv] [] fun v h => v = .bool true :=
  a9 BL rfl rfl rfl rfl rfl rfl rfl rfl rfl rfl W_ x y hx hy hw tv tr htv htb
end
end
end Go.Proofs.YtjjapdagllclkaaGreat.Tab
