/- Contracts of flow: FlowNevers. No condition. -/
import Derived.Test.YtjjapdagllclkaaGreatPzEFn
import Derived.Test.YtjjapdagllclkaaGreatPzFFn
set_option linter.unusedSimpArgs false
set_option linter.unusedVariables false
namespace Go.Proofs.YtjjapdagllclkaaGreat.Tab
open Go Go.Abs Go.Proofs
set_option maxRecDepth 100000
set_option maxHeartbeats 4000000
set_option linter.unusedSimpArgs false
set_option linter.unusedVariables false
section
attribute [local simp] frz_int frz_bool frz_vl frz_pv frz_agg frz_tup frz_fn frz_ref frz_sl frz_nils optAll orcF rb_int rb_bool rb_agg rb_tup rb_int' rb_bool' rb_vl rb_pv rb_yld rb_nilf rb_nilp rb_nils rb_any rb_und rb_ref rb_sl rb_fn slE chunk fillA evParts evParts3 putAt List.range_succ List.range_zero List.range'_succ List.range'_zero runX_nil' unary_not evalS_pure evAll_nil evAll_cons runX_cons stepX wantedA dop CV.ev putK_eq setK_eq appK_eq fA_eq fI_eq fN_eq fRow_eq fRows_eq nth_eq Out.v putT List.replicate_succ zT zB arI pointee Abs.rowAt ldRow allV toV toC ofV ofC Builtin.min_ Builtin.min2 Builtin.max_ Builtin.max2 min_if max_if resA tupA kill trim_self trim_len trim_emp trim_nil lenA
attribute [local simp] runD_nil' runD_cons' stepD actK_eq actD clash disj masks holes maskH unmaskH diffs news eqB allB eqA ldRowN wrote toCs ofCs stA rowsV_vl rowsV_nils rowsOf dI1 dI2 dI3 dI5 elt
attribute [local simp] st_any st_und st_agg st_tup st_bool st_int st_nilp st_ref st_pv st_nils st_sl st_vl st_nilm st_mp st_fn st_nilf st_yld co_any co_und co_agg co_tup co_bool co_int co_nilp co_ref co_pv co_nils co_sl co_vl co_nilm co_mp co_fn co_nilf co_yld
section
attribute [local simp] callA calleeA lim lop loud posOf rbB_row
theorem jrows_at {rs : List (List AVal)} {js : List FJob} (h : optAll dJob rs = some js) : ∀ r ∈ rs, ∃ (x : FJob) (v : AVal), r = [I x.kind, I x.ready, I x.due, v] ∧ dInts v = some x.mins := fun r hr => by
  obtain ⟨x, _, e⟩ := optAll_mem h r hr
  obtain ⟨v, e2, hv⟩ := dJob_eq e
  exact ⟨x, v, e2, hv⟩
theorem rJ_frz {rs : List (List AVal)} {js : List FJob} (h : optAll dJob rs = some js) (H : Heap) (d : Nat) : optAll (optAll (frz false H (d + 1))) rs = some rs := optAll_self _ fun r hr => optAll_self _ fun z hz => by
  obtain ⟨x, v, rfl, hv⟩ := jrows_at h r hr
  simp only [List.mem_cons, List.not_mem_nil, or_false] at hz
  rcases hz with rfl | rfl | rfl | rfl
  · rfl
  · rfl
  · rfl
  · exact dInts_frz hv H d
theorem rJ_rb {rs : List (List AVal)} {js : List FJob} (h : optAll dJob rs = some js) (n d : Nat) : (rs.all fun r => r.all (rb n (d + 1))) = true := by
  simp only [List.all_eq_true]
  intro r hr z hz
  obtain ⟨x, v, rfl, hv⟩ := jrows_at h r hr
  simp only [List.mem_cons, List.not_mem_nil, or_false] at hz
  rcases hz with rfl | rfl | rfl | rfl
  · rfl
  · rfl
  · rfl
  · exact dInts_rb hv n d
theorem rJ_len {rs : List (List AVal)} {js : List FJob} (h : optAll dJob rs = some js) : (rs.all fun r => r.length == 4) = true := by
  simp only [List.all_eq_true]
  intro r hr
  obtain ⟨x, v, rfl, _⟩ := jrows_at h r hr
  rfl
end
section
attribute [local simp] Function.comp_def List.all_append List.all_map above callA calleeA frNB_none frNB_row frN_agg frN_bool frN_int frN_nils frN_ref frN_sl frN_tup frN_vl frzG gather getR lim lop loud lowA lowR norm okG putG putR rbB_none rbB_row resG rowAt takeG
def bitB (st : Int) (k : Nat) : Bool := decide ((st / 2 ^ k) % 2 = 1)
def numL (st : Int) : Nat → List Int
  | 0 => []
  | k + 1 => numL st k ++ if bitB st k = true then [(k : Int)] else []
theorem numL_len (st : Int) : ∀ k, (numL st k).length ≤ k
  | 0 => Nat.le_refl _
  | k + 1 => by
    have := numL_len st k
    rw [numL, List.length_append]
    split <;> simp <;> omega
def inSet {α : Type} (st : Int) : Nat → List α → List α
  | _, [] => []
  | k, x :: l => if bitB st k = true then x :: inSet st (k + 1) l else inSet st (k + 1) l
theorem inSet_app {α : Type} (st : Int) (y : α) : ∀ (l : List α) (k : Nat), inSet st k (l ++ [y]) = inSet st k l ++ if bitB st (k + l.length) = true then [y] else []
  | [], k => by simp [inSet]
  | x :: l, k => by
    have ih := inSet_app st y l (k + 1)
    simp only [List.cons_append, inSet, List.length_cons]
    rw [ih, show k + 1 + l.length = k + (l.length + 1) by omega]
    split <;> rfl
theorem inSet_take {α : Type} (st : Int) {l : List α} {k : Nat} (hk : k < l.length) : inSet st 0 (l.take (k + 1)) = inSet st 0 (l.take k) ++ if bitB st k = true then [l[k]] else [] := by
  rw [List.take_succ_eq_append_getElem hk, inSet_app, List.length_take, show 0 + min k l.length = k by omega]
theorem numL_in {α : Type} (st : Int) {l : List α} : ∀ k, k ≤ l.length → (inSet st 0 (l.take k)).length = (numL st k).length
  | 0, _ => rfl
  | k + 1, hk => by
    rw [inSet_take st (by omega), numL, List.length_append, List.length_append, numL_in st k (by omega)]
    split <;> rfl
theorem optAll_in {α β : Type} {f : α → Option β} (st : Int) : ∀ (l : List α) (l2 : List β) (k : Nat), optAll f l = some l2 → optAll f (inSet st k l) = some (inSet st k l2)
  | [], l2, k, h => by simp only [optAll, Option.some.injEq] at h; subst h; rfl
  | x :: l, l2, k, h => by
    simp only [optAll] at h
    split at h <;> simp at h
    rename_i y ys hy hys
    subst h
    have ih := optAll_in st l ys (k + 1) hys
    simp only [inSet]
    split
    · simp only [optAll, hy, ih]
    · exact ih
theorem inSet_mem {α : Type} {st : Int} {x : α} : ∀ {l : List α} {k : Nat}, x ∈ inSet st k l → x ∈ l
  | [], _, h => by simp [inSet] at h
  | y :: l, k, h => by
    simp only [inSet] at h
    split at h
    · rcases List.mem_cons.1 h with rfl | h
      · simp
      · exact List.mem_cons_of_mem _ (inSet_mem h)
    · exact List.mem_cons_of_mem _ (inSet_mem h)
theorem inSet_len {α : Type} (st : Int) : ∀ (l : List α) (k : Nat), (inSet st k l).length ≤ l.length
  | [], _ => Nat.le_refl _
  | x :: l, k => by
    have := inSet_len st l (k + 1)
    simp only [inSet]
    split <;> simp <;> omega
theorem shop_in {s : FShop} {js : List FJob} (h : ShopOk s js) (st : Int) : ShopOk s (inSet st 0 js) :=
  ⟨h.mach, h.kinds, h.chg, h.nst, h.stop, by have := inSet_len st js 0; have := h.njob; omega, fun j hj => h.job j (inSet_mem hj)⟩
theorem optAll_take {α β : Type} {f : α → Option β} : ∀ {l : List α} {l2 : List β} (_ : optAll f l = some l2) (k : Nat), optAll f (l.take k) = some (l2.take k)
  | [], l2, h, k => by simp only [optAll, Option.some.injEq] at h; subst h; simp
  | x :: l, l2, h, 0 => rfl
  | x :: l, l2, h, k + 1 => by
    simp only [optAll] at h
    split at h <;> simp at h
    rename_i y ys hy hys
    subst h
    simp only [List.take_succ_cons, optAll, hy, optAll_take hys k]
theorem rJ_frN {rs : List (List AVal)} {js : List FJob} (h : optAll dJob rs = some js) (n : Nat) (H : Heap) : ∀ r ∈ rs, optAll (frN n H 5) r = some r := fun r hr => optAll_self _ fun z hz => by
  obtain ⟨x, v, rfl, hv⟩ := jrows_at h r hr
  simp only [List.mem_cons, List.not_mem_nil, or_false] at hz
  rcases hz with rfl | rfl | rfl | rfl
  · rfl
  · rfl
  · rfl
  · exact rowsV_frN (dInts_rows hv) n H 4
theorem rJ_frN2 {rs : List (List AVal)} {js : List FJob} (h : optAll dJob rs = some js) (n : Nat) (H : Heap) : optAll (optAll (frN n H 5)) rs = some rs := optAll_self _ (rJ_frN h n H)
theorem shr_eq {st i : Int} {k : Nat} (hik : i = k) (hk : k ≤ 60) (h0 : 0 ≤ st) : shI .shr .i64 st i = some (I (st / 2 ^ k)) := by
  have hp : (0 : Int) ≤ 2 ^ k := by have := Int.pow_pos (n := 2) (m := k) (by decide); omega
  have hmin : min k IntKind.i64.bits = k := by show min k 64 = k; omega
  unfold shI
  subst hik
  rw [if_neg (by omega)]
  simp only [Int.toNat_natCast, hmin, Int.fdiv_eq_ediv_of_nonneg _ hp]
theorem bit_and {x : Int} (h0 : 0 ≤ x) (h1 : x ≤ 1000000) : W .i64 (((x % 2 ^ IntKind.i64.bits).toNat &&& 1 % 2 ^ IntKind.i64.bits : Nat) : Int) = x % 2 := by
  have e1 : (x % 2 ^ IntKind.i64.bits).toNat = x.toNat := by show (x % 18446744073709551616).toNat = _; omega
  have e2 : 1 % 2 ^ IntKind.i64.bits = 1 := by decide
  rw [e1, e2, Nat.and_one_is_mod, W_small (by omega)]
  omega
def encR (rs : List (List AVal)) : AVal := match rs with | [] => .nils | x :: l => .vl (x :: l) false
theorem encR_ne {rs : List (List AVal)} (h : rs ≠ []) : encR rs = .vl rs false := by cases rs with | nil => exact absurd rfl h | cons x l => rfl
theorem dJobs_encR {rs : List (List AVal)} {js : List FJob} (h : optAll dJob rs = some js) : dJobs (encR rs) = some js := by
  cases rs with
  | nil => exact h
  | cons x l => exact h
open Classical in
noncomputable def oAmong : List AVal → Option AVal
  | [.agg [.int .i64 m, c, t, .vl rs _], .int .i64 st] => match dInts2 c, dStops t, optAll dJob rs with
    | some _, some _, some js => if js.length ≤ 6 ∧ (0 ≤ st ∧ st ≤ 1000) then some (.tup [.agg [I m, c, t, encR (inSet st 0 rs)], encV (numL st js.length)]) else none
    | _, _, _ => none
  | _ => none
theorem a74 (P : Program) (T : Nat → Option CFn) (hT : T 74 = some { c74 with body := annK [(28722, [.cell 4 3, .slot 5])] [] c74.body }) (m : Int) (c t : AVal) (cs : List (List Int)) (ts : List FStop) (hc : dInts2 c = some cs) (ht : dStops t = some ts) (rs : List (List AVal)) (tt : Bool) (js : List FJob) (hrs : optAll dJob rs = some js) (hl : js.length ≤ 6) (st : Int) (hst : 0 ≤ st ∧ st ≤ 1000) : Answers P T 74 [.agg [I m, c, t, .vl rs tt], I st] [] fun v h => frz false h 5 v = some (.tup [.agg [I m, c, t, encR (inSet st 0 rs)], encV (numL st js.length)]) := by
 have fc := fun H d => dInts2_frz hc H d
 have ft := fun H d => dStops_frz ht H d
 have rc := fun n d => dInts2_rb hc n d
 have rt := fun n d => dStops_rb ht n d
 have lc := dInts2_len hc
 have lt := dStops_len ht
 obtain ⟨cc1, cc2⟩ := dInts2_cells hc
 obtain ⟨ct1, ct2⟩ := dStops_cells ht
 have hrl0 := (optAll_at hrs).1
 refine answers_of hT (orcF_none rfl) ?_
 simp only [oo, om, op, og, ci, cl, c74, annK, lkG, lkR, reduceIte, Nat.reduceEqDiff, reduceCtorEq, List.cons.injEq, and_true, and_false, false_and, true_and]
 have HH1 := zA fc (zA ft (zA rc (zA rt (zA lc (zA lt (zA cc1 (zA cc2 (zA ct1 ct2))))))))
 refine zS ?_
 refine zR (zO (by simp [-lenA, HH1]; rfl) ?_)
 simp only [zT, zB]
 refine zS ?_
 refine zR (zO (by simp [-lenA, HH1]; rfl) ?_)
 simp only [zT, zB]
 refine zS ?_
 refine zS ?_
 refine zR (zO (by simp [-lenA, HH1]; rfl) ?_)
 simp only [zT, zB]
 refine zL ?_
 refine runs_loopG_inv (fun mm σ => ∃ (k : Nat) (i : Int), i = k ∧ rs.length - k = mm ∧ k ≤ rs.length ∧ ((numL st k = [] ∧ σ = ⟨[.any, I st, .any, .any, .ref 1 0 0, .nils, .any, .any, .any, .any, .any, .any, .vl rs tt, I rs.length, I i, .any, .any, .any, .any, .any, .any, .any, .any, .any, .any, .any, .any, .any, .any, .any, .any, .any, .any, .any, .any, .any, .any], [some (.row 4 [[I m, c, t, .vl rs tt]]), some (.row 4 [[I m, c, t, .nils]]), none, none]⟩) ∨ (∃ (p : Nat) (ac : List (List AVal)) (nu : List Int), ac = inSet st 0 (rs.take k) ∧ nu = numL st k ∧ ac.length = p + 1 ∧ nu.length = p + 1 ∧ σ = ⟨[.any, I st, .any, .any, .ref 1 0 0, .sl 3 0 (p + 1) false, .any, .any, .any, .any, .any, .any, .vl rs tt, I rs.length, I i, .any, .any, .any, .any, .any, .any, .any, .any, .any, .any, .any, .any, .any, .any, .any, .any, .any, .any, .any, .any, .any, .any], [some (.row 4 [[I m, c, t, .vl rs tt]]), some (.row 4 [[I m, c, t, .sl 2 0 (p + 1) false]]), some (.row 4 ac), some (.row 1 (nu.map rI))]⟩))) (by simp [-lenA, HH1] <;> first | exact ⟨rfl, rfl⟩ | rfl) (⟨0, 0, rfl, rfl, Nat.zero_le _, .inl ⟨rfl, rfl⟩⟩) ?_
 rintro mm σ ⟨k, i, hik, rfl, hkl, ⟨hnu0, rfl⟩ | ⟨p, ac, nu, hac, hnu, hal, hnl, rfl⟩⟩
 ·refine zS ?_
  refine zR (zO (by simp [-lenA, HH1]; rfl) ?_)
  simp only [zT, zB]
  refine zS ?_
  refine runs_cond_split (x := decide (i < (rs.length : Int))) (by simp) (fun hlt => ?_) (fun hlt => ?_)
  ·have hlt2 := of_decide_eq_true hlt
   have hk0 : k < rs.length := by omega
   have hk6 : k ≤ 6 := by omega
   have hi0 : 0 ≤ i := by omega
   have htn : i.toNat = k := by omega
   have hwi : W .i64 (i + 1) = i + 1 := W_small (by omega)
   obtain ⟨x, wv, hrow, hwv⟩ := jrows_at hrs _ (List.getElem_mem hk0)
   have hr2 : rs[k]? = some [I x.kind, I x.ready, I x.due, wv] := by rw [List.getElem?_eq_getElem hk0, hrow]
   have hr4 : ∀ h, rs[k]'h = [I x.kind, I x.ready, I x.due, wv] := fun h => hrow
   have rw5 := fun n d => dInts_rb hwv n d
   have fw5 := fun H d => dInts_frz hwv H d
   have fn5 := fun n H d => rowsV_frN (dInts_rows hwv) n H d
   obtain ⟨cw1, cw2⟩ := dInts_cells hwv
   have hshr := shr_eq (st := st) hik (by omega) hst.1
   have hpk : (1 : Int) ≤ 2 ^ k := by have := Int.pow_pos (n := 2) (m := k) (by decide); omega
   have hq0 : 0 ≤ st / 2 ^ k := Int.ediv_nonneg hst.1 (by omega)
   have hq1 : st / 2 ^ k ≤ st := Int.ediv_le_self _ hst.1
   have hba := bit_and hq0 (by omega)
   have hnk : numL st (k + 1) = numL st k ++ if bitB st k = true then [(k : Int)] else [] := rfl
   have hak := inSet_take st hk0
   have hbb : (st / 2 ^ k % 2 == 1) = bitB st k := by unfold bitB; rw [Bool.eq_iff_iff]; simp
   rw [← hik] at hnk
   generalize bitB st k = bt at *
   have HH2 := zA hi0 (zA htn (zA hk0 (zA hwi (zA hr2 (zA hr4 (zA rw5 (zA fw5 (zA fn5 (zA cw1 (zA cw2 (zA hshr (zA hba hbb))))))))))))
   refine zK ?_
   simp only [zT, zB]
   refine zS ?_
   refine zL ?_
   refine zS ?_
   refine zR (zO (by simp [-lenA, HH1, zI, HH2]; rfl) ?_)
   simp only [zT, zB]
   refine zS ?_
   refine zR (zO (by simp [-lenA, HH1, zI, HH2]; rfl) ?_)
   simp only [zT, zB]
   rcases bt with _ | _
   ·rw [if_neg (by simp), List.append_nil] at hnk hak
    refine runs_cond (x := false) (by simp) ?_
    refine zK ?_
    simp only [zT, zB]
    refine zR (zO (by simp [-lenA, HH1, zI, HH2]; rfl) ?_)
    simp only [zT, zB]
    exact ⟨rs.length - (k + 1), _, _, by omega, by simp [-lenA, HH1, zI, HH2] <;> first | exact ⟨rfl, rfl⟩ | rfl, k + 1, i + 1, by omega, rfl, by omega, .inl ⟨by rw [hnk, hnu0], rfl⟩⟩
   ·rw [if_pos rfl] at hnk hak
    rw [hnu0, List.nil_append] at hnk
    have hi0n : inSet st 0 (rs.take k) = [] := List.eq_nil_of_length_eq_zero (by rw [numL_in st k hkl, hnu0]; rfl)
    rw [hi0n, List.nil_append, hrow] at hak
    refine runs_cond (x := true) (by simp) ?_
    refine zR (zO (by simp [-lenA, HH1, zI, HH2]; rfl) ?_)
    simp only [zT, zB]
    refine zR (zO (by simp [-lenA, HH1, zI, HH2]; rfl) ?_)
    simp only [zT, zB]
    exact ⟨rs.length - (k + 1), _, _, by omega, by simp [-lenA, HH1, zI, HH2] <;> first | exact ⟨rfl, rfl⟩ | rfl, k + 1, i + 1, by omega, rfl, by omega, .inr ⟨0, _, _, hak.symm, hnk.symm, rfl, rfl, rfl⟩⟩
  ·have hx1 := of_decide_eq_false hlt
   have hkE : k = rs.length := by omega
   have htk : rs.take k = rs := List.take_of_length_le (by omega)
   have hkj : k = js.length := by omega
   have hi0n : inSet st 0 (rs.take k) = [] := List.eq_nil_of_length_eq_zero (by rw [numL_in st k hkl, hnu0]; rfl)
   rw [htk] at hi0n
   rw [hi0n, ← hkj, hnu0]
   refine runs_exit ?_
   simp only [zT, zB, if_true, if_false, reduceIte, Nat.reduceEqDiff, Nat.succ_ne_zero, Nat.one_ne_zero, Nat.zero_ne_one]
   refine zS ?_
   refine zR (zO (by simp [-lenA, HH1]; rfl) ?_)
   simp only [zT, zB]
   refine runs_ret ?_
   simp [-lenA, HH1, trim, encR, encV]
 ·have hle := numL_len st k
  rw [← hnu] at hle
  have tkA : ac.take (p + 1) = ac := List.take_of_length_le (by omega)
  have tkN : (nu.map rI).take (p + 1) = nu.map rI := List.take_of_length_le (by simp [hnl])
  have hlp : p + 1 + 1 ≤ 1048576 := by omega
  have hra := optAll_in st (rs.take k) (js.take k) 0 (optAll_take hrs k)
  rw [← hac] at hra
  have hrl := rJ_len hra
  have hrj := fun n => rJ_rb hra n 4
  have hff := fun n h r => optAll_snoc (rJ_frN hra n h) r
  have hgf := fun n h => rJ_frN2 hra n h
  have hr3 : ∀ e : Int, (rI e).length = 1 := fun _ => rfl
  have hfN := fun n h r => optAll_snoc (frN_rI n h nu) r
  have hgN := fun n h => frN_mapI n h 4 nu
  have hrN := fun n => rI_rb n 4 nu
  have HH3 := zA tkA (zA tkN (zA hrl (zA hrj (zA hff (zA hgf (zA hfN (zA hgN hrN)))))))
  refine zS ?_
  refine zR (zO (by simp [-lenA, HH1, hlp, hal, hnl, hr3, ↓HH3]; rfl) ?_)
  simp only [zT, zB]
  refine zS ?_
  refine runs_cond_split (x := decide (i < (rs.length : Int))) (by simp) (fun hlt => ?_) (fun hlt => ?_)
  ·have hlt2 := of_decide_eq_true hlt
   have hk0 : k < rs.length := by omega
   have hk6 : k ≤ 6 := by omega
   have hi0 : 0 ≤ i := by omega
   have htn : i.toNat = k := by omega
   have hwi : W .i64 (i + 1) = i + 1 := W_small (by omega)
   obtain ⟨x, wv, hrow, hwv⟩ := jrows_at hrs _ (List.getElem_mem hk0)
   have hr2 : rs[k]? = some [I x.kind, I x.ready, I x.due, wv] := by rw [List.getElem?_eq_getElem hk0, hrow]
   have hr4 : ∀ h, rs[k]'h = [I x.kind, I x.ready, I x.due, wv] := fun h => hrow
   have rw5 := fun n d => dInts_rb hwv n d
   have fw5 := fun H d => dInts_frz hwv H d
   have fn5 := fun n H d => rowsV_frN (dInts_rows hwv) n H d
   obtain ⟨cw1, cw2⟩ := dInts_cells hwv
   have hshr := shr_eq (st := st) hik (by omega) hst.1
   have hpk : (1 : Int) ≤ 2 ^ k := by have := Int.pow_pos (n := 2) (m := k) (by decide); omega
   have hq0 : 0 ≤ st / 2 ^ k := Int.ediv_nonneg hst.1 (by omega)
   have hq1 : st / 2 ^ k ≤ st := Int.ediv_le_self _ hst.1
   have hba := bit_and hq0 (by omega)
   have hnk : numL st (k + 1) = numL st k ++ if bitB st k = true then [(k : Int)] else [] := rfl
   have hak := inSet_take st hk0
   have hbb : (st / 2 ^ k % 2 == 1) = bitB st k := by unfold bitB; rw [Bool.eq_iff_iff]; simp
   rw [← hik] at hnk
   generalize bitB st k = bt at *
   have HH4 := zA hlp (zA hal (zA hnl (zA hr3 (zA hi0 (zA htn (zA hk0 (zA hwi (zA hr2 (zA hr4 (zA rw5 (zA fw5 (zA fn5 (zA cw1 (zA cw2 (zA hshr (zA hba hbb))))))))))))))))
   refine zK ?_
   simp only [zT, zB]
   refine zS ?_
   refine zL ?_
   refine zS ?_
   refine zR (zO (by simp [-lenA, HH1, ↓HH3, zI, HH4]; rfl) ?_)
   simp only [zT, zB]
   refine zS ?_
   refine zR (zO (by simp [-lenA, HH1, ↓HH3, zI, HH4]; rfl) ?_)
   simp only [zT, zB]
   rcases bt with _ | _
   ·rw [if_neg (by simp), List.append_nil] at hnk hak
    refine runs_cond (x := false) (by simp) ?_
    refine zK ?_
    simp only [zT, zB]
    refine zR (zO (by simp [-lenA, HH1, ↓HH3, zI, HH4]; rfl) ?_)
    simp only [zT, zB]
    exact ⟨rs.length - (k + 1), _, _, by omega, by simp [-lenA, HH1, ↓HH3, zI, HH4] <;> first | exact ⟨rfl, rfl⟩ | rfl, k + 1, i + 1, by omega, rfl, by omega, .inr ⟨p, ac, nu, by rw [hak, hac], by rw [hnk, hnu], hal, hnl, rfl⟩⟩
   ·rw [if_pos rfl] at hnk hak
    rw [← hac] at hak
    rw [← hnu] at hnk
    have hapA : ac ++ [[I x.kind, I x.ready, I x.due, wv]] = inSet st 0 (rs.take (k + 1)) := by rw [hak, hrow]
    have hapN : nu.map rI ++ [[I i]] = (nu ++ [i]).map rI := by rw [List.map_append]; rfl
    have hal2 : (ac ++ [[I x.kind, I x.ready, I x.due, wv]]).length = p + 1 + 1 := by simp [hal]
    have hnl2 : (nu ++ [i]).length = p + 1 + 1 := by simp [hnl]
    obtain ⟨na, hna⟩ : ∃ na, na = ac ++ [[I x.kind, I x.ready, I x.due, wv]] := ⟨_, rfl⟩
    have hapG := hna.symm
    rw [← hna] at hapA hal2
    generalize nu ++ [i] = nn at *
    have hra2 := optAll_in st (rs.take (k + 1)) (js.take (k + 1)) 0 (optAll_take hrs (k + 1))
    rw [← hapA] at hra2
    have hrj2 := fun n => rJ_rb hra2 n 4
    have hgf2 := fun n h => rJ_frN2 hra2 n h
    have hgN2 := fun n h => frN_mapI n h 4 nn
    have hrN2 := fun n => rI_rb n 4 nn
    refine runs_cond (x := true) (by simp) ?_
    have HH5 := zA hapG (zA hrj2 (zA hgf2 (zA hgN2 hrN2)))
    refine zR (zO (by simp [-lenA, HH1, ↓HH3, zI, HH4, hapN, ↓HH5]; rfl) ?_)
    simp only [zT, zB]
    refine zR (zO (by simp [-lenA, HH1, ↓HH3, zI, HH4, hapN, ↓HH5]; rfl) ?_)
    simp only [zT, zB]
    exact ⟨rs.length - (k + 1), _, _, by omega, by simp [-lenA, HH1, ↓HH3, zI, HH4, hapN, ↓HH5] <;> first | exact ⟨rfl, rfl⟩ | rfl, k + 1, i + 1, by omega, rfl, by omega, .inr ⟨p + 1, na, nn, hapA, hnk.symm, hal2, hnl2, rfl⟩⟩
  ·have hx1 := of_decide_eq_false hlt
   have hkE : k = rs.length := by omega
   have htk : rs.take k = rs := List.take_of_length_le (by omega)
   have hkj : k = js.length := by omega
   rw [htk] at hac
   rw [← hac, ← hkj, ← hnu, encR_ne (by intro e; rw [e] at hal; simp at hal), encV_ne (by intro e; rw [e] at hnl; simp at hnl)]
   have hgz := fun H d => rJ_frz hra H d
   refine runs_exit ?_
   simp only [zT, zB, if_true, if_false, reduceIte, Nat.reduceEqDiff, Nat.succ_ne_zero, Nat.one_ne_zero, Nat.zero_ne_one]
   refine zS ?_
   refine zR (zO (by simp [-lenA, HH1, hlp, hal, hnl, hr3, ↓HH3, ↓hgz, frz_mapI]; rfl) ?_)
   simp only [zT, zB]
   refine runs_ret ?_
   simp [-lenA, HH1, hlp, hal, hnl, hr3, ↓HH3, ↓hgz, frz_mapI, trim]
end
section
attribute [local simp] Function.comp_def List.all_append List.all_map above callA calleeA frNB_none frNB_row frN_agg frN_bool frN_int frN_nils frN_ref frN_sl frN_tup frN_vl frzG gather getR lim lop loud lowA lowR norm okG putG putR rbB_none rbB_row resG rowAt takeG
theorem W_u64 {n : Int} (h : 0 ≤ n ∧ n ≤ 1000000) : W .u64 n = n := by
  show (if 0 ≤ n ∧ n ≤ 18446744073709551615 then n else IntKind.u64.wrap n) = n
  exact if_pos (by omega)
theorem shl_eq {n : Int} {k : Nat} (hik : n = k) (hk : k ≤ 6) : shI .shl .i64 1 n = some (I (2 ^ k)) := by
  have hmin : min k IntKind.i64.bits = k := by show min k 64 = k; omega
  unfold shI
  subst hik
  rw [if_neg (by omega)]
  simp only [Int.toNat_natCast, hmin, Int.one_mul]
  have : (2 : Int) ^ k ≤ 64 := by
    have : k = 0 ∨ k = 1 ∨ k = 2 ∨ k = 3 ∨ k = 4 ∨ k = 5 ∨ k = 6 := by omega
    rcases this with rfl | rfl | rfl | rfl | rfl | rfl | rfl <;> decide
  rw [W_small (by have := Int.pow_pos (n := 2) (m := k) (by decide); omega)]
def encR0 (rs : List (List AVal)) : AVal := match rs with | [] => .vl [] true | x :: l => .vl (x :: l) false
theorem encR0_ne {rs : List (List AVal)} (h : rs ≠ []) : encR0 rs = .vl rs false := by cases rs with | nil => exact absurd rfl h | cons x l => rfl
theorem dJobs_encR0 {rs : List (List AVal)} {js : List FJob} (h : optAll dJob rs = some js) : dJobs (encR0 rs) = some js := by
  cases rs with
  | nil => exact h
  | cons x l => exact h
def encV0 (xs : List Int) : AVal := match xs with | [] => .vl [] true | x :: l => .vl ((x :: l).map rI) false
theorem encV0_ne {xs : List Int} (h : xs ≠ []) : encV0 xs = .vl (xs.map rI) false := by cases xs with | nil => exact absurd rfl h | cons x l => rfl
theorem dInts_encV0 (xs : List Int) : dInts (encV0 xs) = some xs := by
  cases xs with
  | nil => rfl
  | cons x l => exact dInts_vl _ false
def oSome : List AVal → Option AVal
  | [.vl rs _, .int .i64 st] => match optAll dJob rs with
    | some js => if js.length ≤ 6 ∧ (0 ≤ st ∧ st ≤ 1000) then some (.tup [encR0 (inSet st 0 rs), encV0 (numL st js.length)]) else none
    | none => none
  | _ => none
theorem some_eq {rs : List (List AVal)} {tt : Bool} {js : List FJob} (h : optAll dJob rs = some js) (hl : js.length ≤ 6) {st : Int} (hs : 0 ≤ st ∧ st ≤ 1000) : oSome [.vl rs tt, I st] = some (.tup [encR0 (inSet st 0 rs), encV0 (numL st js.length)]) := by
  simp only [oSome, h]; rw [if_pos ⟨hl, hs⟩]
theorem among_eq {m : Int} {c t : AVal} {cs : List (List Int)} {ts : List FStop} (hc : dInts2 c = some cs) (ht : dStops t = some ts) {rs : List (List AVal)} {tt : Bool} {js : List FJob} (h : optAll dJob rs = some js) (hl : js.length ≤ 6) {st : Int} (hs : 0 ≤ st ∧ st ≤ 1000) : oAmong [.agg [I m, c, t, .vl rs tt], I st] = some (.tup [.agg [I m, c, t, encR (inSet st 0 rs)], encV (numL st js.length)]) := by
  simp only [oAmong, hc, ht, h]; rw [if_pos ⟨hl, hs⟩]
def lessI : List Int → List Int → Bool
  | a :: l, b :: l2 => if a = b then lessI l l2 else decide (a < b)
  | _, _ => false
def cmpI (a b : Int) : Int := if a < b then -1 else if b < a then 1 else 0
def cmpL : List Int → List Int → Int
  | a :: l, b :: l2 => if cmpI a b = 0 then cmpL l l2 else cmpI a b
  | [], _ :: _ => -1
  | [], [] => 0
  | _ :: _, [] => 1
theorem less_cmp : ∀ (l l2 : List Int), l.length = l2.length → (cmpL l l2 < 0 ↔ lessI l l2 = true)
  | [], [], _ => by simp [cmpL, lessI]
  | a :: l, b :: l2, h => by
    have ih := less_cmp l l2 (by simpa using h)
    simp only [cmpL, lessI, cmpI]
    by_cases h1 : a < b
    · have h2 : ¬ a = b := by omega
      simp [h1, h2]
    · by_cases h2 : b < a
      · have h3 : ¬ a = b := by omega
        simp [h1, h2, h3]
      · have h3 : a = b := by omega
        simp [h1, h2, h3, ih]
  | [], _ :: _, h => by simp at h
  | _ :: _, [], h => by simp at h
def cmpN (x y : List Int) : Int := if (x.length : Int) - y.length = 0 then cmpL x y else (x.length : Int) - y.length
def oLess : List AVal → Option AVal
  | [x, y] => match dInts x, dInts y with
    | some xs, some ys => if xs.length = ys.length ∧ xs.length ≤ 1000 then some (.bool (lessI xs ys)) else none
    | _, _ => none
  | _ => none
def oNaN : List AVal → Option AVal
  | [.int .i64 _] => some (.bool false)
  | _ => none
def oCmpI : List AVal → Option AVal
  | [.int .i64 a, .int .i64 b] => some (I (cmpI a b))
  | _ => none
def oCmpL : List AVal → Option AVal
  | [x, y] => match dInts x, dInts y with
    | some xs, some ys => if xs.length ≤ 1000 ∧ ys.length ≤ 1000 then some (I (cmpL xs ys)) else none
    | _, _ => none
  | _ => none
def oCmpN : List AVal → Option AVal
  | [x, y] => match dInts x, dInts y with
    | some xs, some ys => if xs.length ≤ 1000 ∧ ys.length ≤ 1000 then some (I (cmpN xs ys)) else none
    | _, _ => none
  | _ => none
def minS (m y : List Int) : List Int := if cmpN y m < 0 then y else m
def minL : List (List Int) → List Int
  | [] => []
  | x :: l => l.foldl minS x
theorem minL_snoc {l : List (List Int)} (h : l ≠ []) (y : List Int) : minL (l ++ [y]) = minS (minL l) y := by
  cases l with
  | nil => exact absurd rfl h
  | cons x l => simp only [minL, List.cons_append, List.foldl_append, List.foldl_cons, List.foldl_nil]
open Classical in
noncomputable def oMin : List AVal → Option AVal
  | [.vl rs _, .fn 76 [] []] => match optAll dRow1 rs with
    | some L => if rs = L.map encS ∧ L ≠ [] ∧ L.length ≤ 1000 ∧ (∀ l ∈ L, l.length ≤ 1000) then some (encV (minL L)) else none
    | none => none
  | _ => none
theorem a78 (P : Program) (T : Nat → Option CFn) (hT : T 78 = some { c78 with body := annK [(451, [.slot 6, .slot 7])] [] c78.body }) (rs : List (List AVal)) (tt : Bool) (js : List FJob) (hrs : optAll dJob rs = some js) (hl : js.length ≤ 6) (st : Int) (hst : 0 ≤ st ∧ st ≤ 1000) : Answers P T 78 [.vl rs tt, I st] [] fun v h => frz false h 5 v = some (.tup [encR0 (inSet st 0 rs), encV0 (numL st js.length)]) := by
 have hrl0 := (optAll_at hrs).1
 refine answers_of hT (orcF_none rfl) ?_
 simp only [oo, om, op, og, ci, cl, c78, annK, lkG, lkR, reduceIte, Nat.reduceEqDiff, reduceCtorEq, List.cons.injEq, and_true, and_false, false_and, true_and]
 refine zS ?_
 refine zR (zO (by simp; rfl) ?_)
 simp only [zT, zB]
 refine zS ?_
 refine zR (zO (by simp; rfl) ?_)
 simp only [zT, zB]
 refine zS ?_
 refine zS ?_
 refine zR (zO (by simp; rfl) ?_)
 simp only [zT, zB]
 refine zL ?_
 refine runs_loopG_inv (fun mm σ => ∃ (k : Nat) (i : Int), i = k ∧ rs.length - k = mm ∧ k ≤ rs.length ∧ ((numL st k = [] ∧ σ = ⟨[.vl rs tt, I st, .any, .any, .any, .any, .sl 2 0 0 true, .sl 3 0 0 true, I i, .any, .any, .any, .any, .any, .any, .any, .any, .any, .any, .any, .any, .any, .any, .any, .any, .any, .any, .any, .any, .any, .any, .any, .any, .any, .any, .any], [none, none, some (.row 4 []), some (.row 1 [])]⟩) ∨ (∃ (p : Nat) (ac : List (List AVal)) (nu : List Int), ac = inSet st 0 (rs.take k) ∧ nu = numL st k ∧ ac.length = p + 1 ∧ nu.length = p + 1 ∧ σ = ⟨[.vl rs tt, I st, .any, .any, .any, .any, .sl 2 0 (p + 1) false, .sl 3 0 (p + 1) false, I i, .any, .any, .any, .any, .any, .any, .any, .any, .any, .any, .any, .any, .any, .any, .any, .any, .any, .any, .any, .any, .any, .any, .any, .any, .any, .any, .any], [none, none, some (.row 4 ac), some (.row 1 (nu.map rI))]⟩))) (by simp <;> first | exact ⟨rfl, rfl⟩ | rfl) (⟨0, 0, rfl, rfl, Nat.zero_le _, .inl ⟨rfl, rfl⟩⟩) ?_
 rintro mm σ ⟨k, i, hik, rfl, hkl, ⟨hnu0, rfl⟩ | ⟨p, ac, nu, hac, hnu, hal, hnl, rfl⟩⟩
 ·refine zS ?_
  refine zS ?_
  refine zR (zO (by simp; rfl) ?_)
  simp only [zT, zB]
  refine runs_cond_split (x := decide (i < (rs.length : Int))) (by simp) (fun hlt => ?_) (fun hlt => ?_)
  ·have hlt2 := of_decide_eq_true hlt
   have hk0 : k < rs.length := by omega
   have hk6 : k ≤ 6 := by omega
   have hi0 : 0 ≤ i := by omega
   have htn : i.toNat = k := by omega
   have hwi : W .i64 (i + 1) = i + 1 := W_small (by omega)
   have hwu : W .u64 i = i := W_u64 (by omega)
   obtain ⟨x, wv, hrow, hwv⟩ := jrows_at hrs _ (List.getElem_mem hk0)
   have hr2 : rs[k]? = some [I x.kind, I x.ready, I x.due, wv] := by rw [List.getElem?_eq_getElem hk0, hrow]
   have hr4 : ∀ h, rs[k]'h = [I x.kind, I x.ready, I x.due, wv] := fun h => hrow
   have rw5 := fun n d => dInts_rb hwv n d
   have fw5 := fun H d => dInts_frz hwv H d
   have fn5 := fun n H d => rowsV_frN (dInts_rows hwv) n H d
   obtain ⟨cw1, cw2⟩ := dInts_cells hwv
   have hshr := shr_eq (st := st) hik (by omega) hst.1
   have hpk : (1 : Int) ≤ 2 ^ k := by have := Int.pow_pos (n := 2) (m := k) (by decide); omega
   have hq0 : 0 ≤ st / 2 ^ k := Int.ediv_nonneg hst.1 (by omega)
   have hq1 : st / 2 ^ k ≤ st := Int.ediv_le_self _ hst.1
   have hba := bit_and hq0 (by omega)
   have hnk : numL st (k + 1) = numL st k ++ if bitB st k = true then [(k : Int)] else [] := rfl
   have hak := inSet_take st hk0
   have hbb : (st / 2 ^ k % 2 == 1) = bitB st k := by unfold bitB; rw [Bool.eq_iff_iff]; simp
   rw [← hik] at hnk
   generalize bitB st k = bt at *
   have HH1 := zA hi0 (zA htn (zA hk0 (zA hwi (zA hwu (zA hr2 (zA hr4 (zA rw5 (zA fw5 (zA fn5 (zA cw1 (zA cw2 (zA hshr (zA hba hbb)))))))))))))
   refine zK ?_
   simp only [zT, zB]
   refine zS ?_
   refine zL ?_
   refine zS ?_
   refine zR (zO (by simp [zI, HH1]; rfl) ?_)
   simp only [zT, zB]
   rcases bt with _ | _
   ·rw [if_neg (by simp), List.append_nil] at hnk hak
    refine runs_cond (x := false) (by simp) ?_
    refine zK ?_
    simp only [zT, zB]
    refine zR (zO (by simp [zI, HH1]; rfl) ?_)
    simp only [zT, zB]
    exact ⟨rs.length - (k + 1), _, _, by omega, by simp [zI, HH1] <;> first | exact ⟨rfl, rfl⟩ | rfl, k + 1, i + 1, by omega, rfl, by omega, .inl ⟨by rw [hnk, hnu0], rfl⟩⟩
   ·rw [if_pos rfl] at hnk hak
    rw [hnu0, List.nil_append] at hnk
    have hi0n : inSet st 0 (rs.take k) = [] := List.eq_nil_of_length_eq_zero (by rw [numL_in st k hkl, hnu0]; rfl)
    rw [hi0n, List.nil_append, hrow] at hak
    refine runs_cond (x := true) (by simp) ?_
    refine zR (zO (by simp [zI, HH1]; rfl) ?_)
    simp only [zT, zB]
    refine zR (zO (by simp [zI, HH1]; rfl) ?_)
    simp only [zT, zB]
    exact ⟨rs.length - (k + 1), _, _, by omega, by simp [zI, HH1] <;> first | exact ⟨rfl, rfl⟩ | rfl, k + 1, i + 1, by omega, rfl, by omega, .inr ⟨0, _, _, hak.symm, hnk.symm, rfl, rfl, rfl⟩⟩
  ·have hx1 := of_decide_eq_false hlt
   have hkE : k = rs.length := by omega
   have htk : rs.take k = rs := List.take_of_length_le (by omega)
   have hkj : k = js.length := by omega
   have hi0n : inSet st 0 (rs.take k) = [] := List.eq_nil_of_length_eq_zero (by rw [numL_in st k hkl, hnu0]; rfl)
   rw [htk] at hi0n
   rw [hi0n, ← hkj, hnu0]
   refine runs_exit ?_
   simp only [zT, zB, if_true, if_false, reduceIte, Nat.reduceEqDiff, Nat.succ_ne_zero, Nat.one_ne_zero, Nat.zero_ne_one]
   refine zS ?_
   refine zR (zO (by simp; rfl) ?_)
   simp only [zT, zB]
   refine runs_ret ?_
   simp [trim, encR0, encV0]
 ·have hle := numL_len st k
  rw [← hnu] at hle
  have tkA : ac.take (p + 1) = ac := List.take_of_length_le (by omega)
  have tkN : (nu.map rI).take (p + 1) = nu.map rI := List.take_of_length_le (by simp [hnl])
  have hlp : p + 1 + 1 ≤ 1048576 := by omega
  have hra := optAll_in st (rs.take k) (js.take k) 0 (optAll_take hrs k)
  rw [← hac] at hra
  have hrl := rJ_len hra
  have hrj := fun n => rJ_rb hra n 4
  have hff := fun n h r => optAll_snoc (rJ_frN hra n h) r
  have hgf := fun n h => rJ_frN2 hra n h
  have hr3 : ∀ e : Int, (rI e).length = 1 := fun _ => rfl
  have hfN := fun n h r => optAll_snoc (frN_rI n h nu) r
  have hgN := fun n h => frN_mapI n h 4 nu
  have hrN := fun n => rI_rb n 4 nu
  have HH2 := zA tkA (zA tkN (zA hrl (zA hrj (zA hff (zA hgf (zA hfN (zA hgN hrN)))))))
  refine zS ?_
  refine zS ?_
  refine zR (zO (by simp [hlp, hal, hnl, hr3, ↓HH2]; rfl) ?_)
  simp only [zT, zB]
  refine runs_cond_split (x := decide (i < (rs.length : Int))) (by simp) (fun hlt => ?_) (fun hlt => ?_)
  ·have hlt2 := of_decide_eq_true hlt
   have hk0 : k < rs.length := by omega
   have hk6 : k ≤ 6 := by omega
   have hi0 : 0 ≤ i := by omega
   have htn : i.toNat = k := by omega
   have hwi : W .i64 (i + 1) = i + 1 := W_small (by omega)
   have hwu : W .u64 i = i := W_u64 (by omega)
   obtain ⟨x, wv, hrow, hwv⟩ := jrows_at hrs _ (List.getElem_mem hk0)
   have hr2 : rs[k]? = some [I x.kind, I x.ready, I x.due, wv] := by rw [List.getElem?_eq_getElem hk0, hrow]
   have hr4 : ∀ h, rs[k]'h = [I x.kind, I x.ready, I x.due, wv] := fun h => hrow
   have rw5 := fun n d => dInts_rb hwv n d
   have fw5 := fun H d => dInts_frz hwv H d
   have fn5 := fun n H d => rowsV_frN (dInts_rows hwv) n H d
   obtain ⟨cw1, cw2⟩ := dInts_cells hwv
   have hshr := shr_eq (st := st) hik (by omega) hst.1
   have hpk : (1 : Int) ≤ 2 ^ k := by have := Int.pow_pos (n := 2) (m := k) (by decide); omega
   have hq0 : 0 ≤ st / 2 ^ k := Int.ediv_nonneg hst.1 (by omega)
   have hq1 : st / 2 ^ k ≤ st := Int.ediv_le_self _ hst.1
   have hba := bit_and hq0 (by omega)
   have hnk : numL st (k + 1) = numL st k ++ if bitB st k = true then [(k : Int)] else [] := rfl
   have hak := inSet_take st hk0
   have hbb : (st / 2 ^ k % 2 == 1) = bitB st k := by unfold bitB; rw [Bool.eq_iff_iff]; simp
   rw [← hik] at hnk
   generalize bitB st k = bt at *
   have HH3 := zA hlp (zA hal (zA hnl (zA hr3 (zA hi0 (zA htn (zA hk0 (zA hwi (zA hwu (zA hr2 (zA hr4 (zA rw5 (zA fw5 (zA fn5 (zA cw1 (zA cw2 (zA hshr (zA hba hbb)))))))))))))))))
   refine zK ?_
   simp only [zT, zB]
   refine zS ?_
   refine zL ?_
   refine zS ?_
   refine zR (zO (by simp [↓HH2, zI, HH3]; rfl) ?_)
   simp only [zT, zB]
   rcases bt with _ | _
   ·rw [if_neg (by simp), List.append_nil] at hnk hak
    refine runs_cond (x := false) (by simp) ?_
    refine zK ?_
    simp only [zT, zB]
    refine zR (zO (by simp [↓HH2, zI, HH3]; rfl) ?_)
    simp only [zT, zB]
    exact ⟨rs.length - (k + 1), _, _, by omega, by simp [↓HH2, zI, HH3] <;> first | exact ⟨rfl, rfl⟩ | rfl, k + 1, i + 1, by omega, rfl, by omega, .inr ⟨p, ac, nu, by rw [hak, hac], by rw [hnk, hnu], hal, hnl, rfl⟩⟩
   ·rw [if_pos rfl] at hnk hak
    rw [← hac] at hak
    rw [← hnu] at hnk
    have hapA : ac ++ [[I x.kind, I x.ready, I x.due, wv]] = inSet st 0 (rs.take (k + 1)) := by rw [hak, hrow]
    have hapN : nu.map rI ++ [[I i]] = (nu ++ [i]).map rI := by rw [List.map_append]; rfl
    have hal2 : (ac ++ [[I x.kind, I x.ready, I x.due, wv]]).length = p + 1 + 1 := by simp [hal]
    have hnl2 : (nu ++ [i]).length = p + 1 + 1 := by simp [hnl]
    obtain ⟨na, hna⟩ : ∃ na, na = ac ++ [[I x.kind, I x.ready, I x.due, wv]] := ⟨_, rfl⟩
    have hapG := hna.symm
    rw [← hna] at hapA hal2
    generalize nu ++ [i] = nn at *
    have hra2 := optAll_in st (rs.take (k + 1)) (js.take (k + 1)) 0 (optAll_take hrs (k + 1))
    rw [← hapA] at hra2
    have hrj2 := fun n => rJ_rb hra2 n 4
    have hgf2 := fun n h => rJ_frN2 hra2 n h
    have hgN2 := fun n h => frN_mapI n h 4 nn
    have hrN2 := fun n => rI_rb n 4 nn
    refine runs_cond (x := true) (by simp) ?_
    have HH4 := zA hapG (zA hrj2 (zA hgf2 (zA hgN2 hrN2)))
    refine zR (zO (by simp [↓HH2, zI, HH3, hapN, ↓HH4]; rfl) ?_)
    simp only [zT, zB]
    refine zR (zO (by simp [↓HH2, zI, HH3, hapN, ↓HH4]; rfl) ?_)
    simp only [zT, zB]
    exact ⟨rs.length - (k + 1), _, _, by omega, by simp [↓HH2, zI, HH3, hapN, ↓HH4] <;> first | exact ⟨rfl, rfl⟩ | rfl, k + 1, i + 1, by omega, rfl, by omega, .inr ⟨p + 1, na, nn, hapA, hnk.symm, hal2, hnl2, rfl⟩⟩
  ·have hx1 := of_decide_eq_false hlt
   have hkE : k = rs.length := by omega
   have htk : rs.take k = rs := List.take_of_length_le (by omega)
   have hkj : k = js.length := by omega
   rw [htk] at hac
   rw [← hac, ← hkj, ← hnu, encR0_ne (by intro e; rw [e] at hal; simp at hal), encV0_ne (by intro e; rw [e] at hnl; simp at hnl)]
   have hgz := fun H d => rJ_frz hra H d
   refine runs_exit ?_
   simp only [zT, zB, if_true, if_false, reduceIte, Nat.reduceEqDiff, Nat.succ_ne_zero, Nat.one_ne_zero, Nat.zero_ne_one]
   refine zS ?_
   refine zR (zO (by simp [hlp, hal, hnl, hr3, ↓HH2, ↓hgz, frz_mapI]; rfl) ?_)
   simp only [zT, zB]
   refine runs_ret ?_
   simp [hlp, hal, hnl, hr3, ↓HH2, ↓hgz, frz_mapI, trim]
theorem a79 (P : Program) (T : Nat → Option CFn) (hT : T 79 = some c79) (x y : AVal) (xs ys : List Int) (hx : dInts x = some xs) (hy : dInts y = some ys) (hl : xs.length = ys.length ∧ xs.length ≤ 1000) : Answers P T 79 [x, y] [] fun v h => frz true h 5 v = some (.bool (lessI xs ys)) := by
 have lx := dInts_len hx
 have ly := dInts_len hy
 have fx := fun H d => dInts_frz hx H d
 have fy := fun H d => dInts_frz hy H d
 refine answers_of hT (orcF_none rfl) ?_
 simp only [oo, om, op, og, ci, cl, c79]
 refine zS ?_
 refine zR (zO (by simp [lx, ly, fx, fy, -lenA]; rfl) ?_)
 simp only [zT, zB]
 refine zS ?_
 refine zS ?_
 refine zR (zO (by simp [lx, ly, fx, fy, -lenA]; rfl) ?_)
 simp only [zT, zB]
 refine zL ?_
 refine runs_loop_inv (fun m σ => ∃ (k : Nat) (i : Int), i = k ∧ xs.length - k = m ∧ k ≤ xs.length ∧ lessI (xs.drop k) (ys.drop k) = lessI xs ys ∧ σ = ⟨[x, y, .any, .any, .any, I i, .any, .any, .any, .any, .any, .any, .any, .any, .any, .any, .any, .any, .any, .any, .any, .any, .any, .any, .any, .any, .any, .any, .any, .any], []⟩) ?_ (xs.length - 0) _ ⟨0, 0, rfl, rfl, Nat.zero_le _, rfl, by simp⟩
 rintro m σ ⟨k, i, hik, rfl, hkl, hR, rfl⟩
 refine zS ?_
 refine zS ?_
 refine zR (zO (by simp [lx, ly, fx, fy, -lenA]; rfl) ?_)
 simp only [zT, zB]
 refine runs_cond_split (x := decide (i < (xs.length : Int))) (by simp) (fun hlt => ?_) (fun hlt => ?_)
 ·have hlt := of_decide_eq_true hlt
  have hk0 : k < xs.length := by omega
  obtain ⟨t1, rfl⟩ := dInts_get hx hk0
  have hi0 : 0 ≤ i := by omega
  have htn : i.toNat = k := by omega
  have hwi : W .i64 (i + 1) = i + 1 := W_small (by omega)
  have gx1 : (xs.map rI)[k]? = some [I xs[k]] := by rw [List.getElem?_map, List.getElem?_eq_getElem hk0]; rfl
  have gx2 : ∀ (h : k < (xs.map rI).length), (xs.map rI)[k]'h = [I xs[k]] := fun h => by rw [List.getElem_map]; rfl
  have hk1 : k < ys.length := by omega
  obtain ⟨t2, rfl⟩ := dInts_get hy hk1
  have hiy : i < (ys.length : Int) := by omega
  have gy1 : (ys.map rI)[k]? = some [I ys[k]] := by rw [List.getElem?_map, List.getElem?_eq_getElem hk1]; rfl
  have gy2 : ∀ (h : k < (ys.map rI).length), (ys.map rI)[k]'h = [I ys[k]] := fun h => by rw [List.getElem_map]; rfl
  rw [List.drop_eq_getElem_cons hk0, List.drop_eq_getElem_cons hk1] at hR
  generalize hXk : xs[k] = a at *
  generalize hYk : ys[k] = b at *
  simp only [lessI] at hR
  have HH1 := zA lx (zA ly (zA fx (zA fy (zA hi0 (zA htn (zA hk0 (zA hk1 (zA hiy (zA hwi (zA gx1 (zA gx2 (zA gy1 gy2))))))))))))
  refine zK ?_
  simp only [zT, zB]
  refine zS ?_
  refine zL ?_
  refine zS ?_
  refine runs_drw (by simp (maxSteps := 3000000) [-lenA, zI, -List.getElem?_map, -List.getElem_map, HH1]; rfl) ?_
  simp only [zT, zB]
  refine runs_cond_split (x := (a != b)) (by simp) (fun he => ?_) (fun he => ?_)
  ·have he : ¬ a = b := by simpa using he
   rw [if_neg he] at hR
   rw [← hR]
   refine zS ?_
   refine runs_drw (by simp (maxSteps := 3000000) [-lenA, zI, -List.getElem?_map, -List.getElem_map, HH1]; rfl) ?_
   simp only [zT, zB]
   refine runs_ret ?_
   simp [-lenA, zI, -List.getElem?_map, -List.getElem_map, HH1]
  ·have he : a = b := by simpa using he
   rw [if_pos he] at hR
   refine zK ?_
   simp only [zT, zB]
   refine zR (zO (by simp [-lenA, zI, -List.getElem?_map, -List.getElem_map, HH1]; rfl) ?_)
   simp only [zT, zB]
   exact ⟨xs.length - (k + 1), by omega, k + 1, i + 1, by omega, rfl, by omega, hR, by simp [trim, -lenA, zI, -List.getElem?_map, -List.getElem_map, HH1]⟩
 ·have hlt := of_decide_eq_false hlt
  have hkE : k = xs.length := by omega
  subst hkE
  rw [List.drop_length] at hR
  simp only [lessI] at hR
  rw [← hR]
  refine runs_exit ?_
  simp only [zT, zB, if_true, if_false, reduceIte, Nat.reduceEqDiff, Nat.succ_ne_zero, Nat.one_ne_zero, Nat.zero_ne_one]
  refine zS ?_
  refine zR (zO (by simp [lx, ly, fx, fy, -lenA]; rfl) ?_)
  simp only [zT, zB]
  refine runs_ret ?_
  simp [lx, ly, fx, fy, -lenA]
theorem a150 (P : Program) (T : Nat → Option CFn) (hT : T 150 = some c150) (a : Int) : Answers P T 150 [I a] [] fun v h => frz true h 5 v = some (.bool false) := by
 refine answers_of hT (orcF_none rfl) ?_
 simp only [oo, om, op, og, ci, cl, c150]
 refine zS ?_
 refine zR (zO (by simp; rfl) ?_)
 simp only [zT, zB]
 refine zS ?_
 refine zR (zO (by simp; rfl) ?_)
 simp only [zT, zB]
 refine runs_ret ?_
 simp
noncomputable def BH1 : Nat → Option CFn := upd BF 150 true (oNaN)
theorem BH1_ok : TabOk Tryz.prog GG BH1 := tab_add mixed BF_ok fun args v ho => by
  unfold oNaN at ho; split at ho <;> (try simp only [reduceCtorEq] at ho)
  rename_i a
  simp only [Option.some.injEq] at ho
  subst ho
  exact a150 Tryz.prog BF rfl a
theorem a112 (P : Program) (T : Nat → Option CFn) (hT : T 112 = some c112) (h150 : T 150 = some { c150 with frsh := true, orc := oNaN }) (a b : Int) : Answers P T 112 [I a, I b] [] fun v h => frz true h 5 v = some (I (cmpI a b)) := by
 refine answers_of hT (orcF_none rfl) ?_
 simp only [oo, om, op, og, ci, cl, c112]
 have hn1 : oNaN [I a] = some (.bool false) := rfl
 have hn2 : oNaN [I b] = some (.bool false) := rfl
 unfold cmpI
 refine zS ?_
 refine zR (zO (by simp [zC h150, h150, hn1, hn2]; rfl) ?_)
 simp only [zT, zB]
 refine zS ?_
 refine zR (zO (by simp [zC h150, h150, hn1, hn2]; rfl) ?_)
 simp only [zT, zB]
 refine zS ?_
 refine zR (zO (by simp [zC h150, h150, hn1, hn2]; rfl) ?_)
 simp only [zT, zB]
 refine zS ?_
 refine zS ?_
 refine zR (zO (by simp [zC h150, h150, hn1, hn2]; rfl) ?_)
 simp only [zT, zB]
 refine runs_cond (x := false) (by simp) ?_
 refine zK ?_
 simp only [zT, zB]
 refine zS ?_
 refine zS ?_
 refine zR (zO (by simp [zC h150, h150, hn1, hn2]; rfl) ?_)
 simp only [zT, zB]
 refine runs_cond (x := false) (by simp) ?_
 refine zK ?_
 simp only [zT, zB]
 refine zS ?_
 refine zS ?_
 refine zR (zO (by simp [zC h150, h150, hn1, hn2]; rfl) ?_)
 simp only [zT, zB]
 refine runs_cond_split (x := decide (a < b)) (by simp) (fun h1 => ?_) (fun h1 => ?_)
 ·have h1 := of_decide_eq_true h1
  rw [if_pos h1]
  refine zS ?_
  refine zR (zO (by simp [zC h150, h150, hn1, hn2]; rfl) ?_)
  simp only [zT, zB]
  refine runs_ret ?_
  simp [zC h150, h150, hn1, hn2]
 ·have h1 := of_decide_eq_false h1
  rw [if_neg h1]
  refine zK ?_
  simp only [zT, zB]
  refine zS ?_
  refine zS ?_
  refine zR (zO (by simp [zC h150, h150, hn1, hn2]; rfl) ?_)
  simp only [zT, zB]
  refine runs_cond_split (x := decide (b < a)) (by simp) (fun h2 => ?_) (fun h2 => ?_)
  ·have h2 := of_decide_eq_true h2
   rw [if_pos h2]
   refine zS ?_
   refine zR (zO (by simp [zC h150, h150, hn1, hn2]; rfl) ?_)
   simp only [zT, zB]
   refine runs_ret ?_
   simp [zC h150, h150, hn1, hn2]
  ·have h2 := of_decide_eq_false h2
   rw [if_neg h2]
   refine zK ?_
   simp only [zT, zB]
   refine zS ?_
   refine zR (zO (by simp [zC h150, h150, hn1, hn2]; rfl) ?_)
   simp only [zT, zB]
   refine runs_ret ?_
   simp [zC h150, h150, hn1, hn2]
noncomputable def BH2 : Nat → Option CFn := upd BH1 112 true (oCmpI)
theorem BH2_ok : TabOk Tryz.prog GG BH2 := tab_add mixed BH1_ok fun args v ho => by
  unfold oCmpI at ho; split at ho <;> (try simp only [reduceCtorEq] at ho)
  rename_i a b
  simp only [Option.some.injEq] at ho
  subst ho
  exact a112 Tryz.prog BH1 rfl rfl a b
theorem a77 (P : Program) (T : Nat → Option CFn) (hT : T 77 = some c77) (h112 : T 112 = some { c112 with frsh := true, orc := oCmpI }) (x y : AVal) (xs ys : List Int) (hx : dInts x = some xs) (hy : dInts y = some ys) (hl : xs.length ≤ 1000 ∧ ys.length ≤ 1000) : Answers P T 77 [x, y] [] fun v h => frz true h 5 v = some (I (cmpL xs ys)) := by
 have lx := dInts_len hx
 have ly := dInts_len hy
 have fx := fun H d => dInts_frz hx H d
 have fy := fun H d => dInts_frz hy H d
 refine answers_of hT (orcF_none rfl) ?_
 simp only [oo, om, op, og, ci, cl, c77]
 have HH1 := zA h112 (zA lx (zA ly (zA fx fy)))
 refine zS ?_
 refine zR (zO (by simp [zC h112, -lenA, HH1]; rfl) ?_)
 simp only [zT, zB]
 refine zS ?_
 refine zS ?_
 refine zR (zO (by simp [zC h112, -lenA, HH1]; rfl) ?_)
 simp only [zT, zB]
 refine zL ?_
 refine runs_loop_inv (fun m σ => ∃ (k : Nat) (i : Int), i = k ∧ xs.length - k = m ∧ k ≤ xs.length ∧ cmpL (xs.drop k) (ys.drop k) = cmpL xs ys ∧ σ = ⟨[x, y, .any, .any, .any, .any, .any, .any, .any, x, I xs.length, I i, .any, .any, .any, .any, .any, .any, .any, .any, .any, .any, .any, .any, .any, .any, .any, .any, .any, .any, .any, .any, .any, .any, .any, .any], []⟩) ?_ (xs.length - 0) _ ⟨0, 0, rfl, rfl, Nat.zero_le _, rfl, by simp⟩
 rintro m σ ⟨k, i, hik, rfl, hkl, hR, rfl⟩
 refine zS ?_
 refine zR (zO (by simp [zC h112, -lenA, HH1]; rfl) ?_)
 simp only [zT, zB]
 refine zS ?_
 refine runs_cond_split (x := decide (i < (xs.length : Int))) (by simp) (fun hlt => ?_) (fun hlt => ?_)
 ·have hlt := of_decide_eq_true hlt
  have hk0 : k < xs.length := by omega
  obtain ⟨t1, rfl⟩ := dInts_get hx hk0
  have hi0 : 0 ≤ i := by omega
  have htn : i.toNat = k := by omega
  have hwi : W .i64 (i + 1) = i + 1 := W_small (by omega)
  have gx1 : (xs.map rI)[k]? = some [I xs[k]] := by rw [List.getElem?_map, List.getElem?_eq_getElem hk0]; rfl
  have gx2 : ∀ (h : k < (xs.map rI).length), (xs.map rI)[k]'h = [I xs[k]] := fun h => by rw [List.getElem_map]; rfl
  rw [List.drop_eq_getElem_cons hk0] at hR
  have HH2 := zA hi0 (zA htn (zA hk0 (zA hwi (zA gx1 gx2))))
  refine zK ?_
  simp only [zT, zB]
  refine zS ?_
  refine zL ?_
  refine zS ?_
  refine zR (zO (by simp [zC h112, -lenA, HH1, zI, -List.getElem?_map, -List.getElem_map, HH2]; rfl) ?_)
  simp only [zT, zB]
  refine zS ?_
  refine zS ?_
  refine zR (zO (by simp [zC h112, -lenA, HH1, zI, -List.getElem?_map, -List.getElem_map, HH2]; rfl) ?_)
  simp only [zT, zB]
  refine runs_cond_split (x := decide ((ys.length : Int) ≤ i)) (by simp) (fun h3 => ?_) (fun h3 => ?_)
  ·have h3 := of_decide_eq_true h3
   rw [List.drop_of_length_le (show ys.length ≤ k by omega)] at hR
   simp only [cmpL] at hR
   rw [← hR]
   refine zS ?_
   refine zR (zO (by simp [zC h112, -lenA, HH1, zI, -List.getElem?_map, -List.getElem_map, HH2]; rfl) ?_)
   simp only [zT, zB]
   refine runs_ret ?_
   simp [zC h112, -lenA, HH1, zI, -List.getElem?_map, -List.getElem_map, HH2]
  ·have h3 := of_decide_eq_false h3
   have hk1 : k < ys.length := by omega
   obtain ⟨t2, rfl⟩ := dInts_get hy hk1
   have hiy : i < (ys.length : Int) := by omega
   have gy1 : (ys.map rI)[k]? = some [I ys[k]] := by rw [List.getElem?_map, List.getElem?_eq_getElem hk1]; rfl
   have gy2 : ∀ (h : k < (ys.map rI).length), (ys.map rI)[k]'h = [I ys[k]] := fun h => by rw [List.getElem_map]; rfl
   rw [List.drop_eq_getElem_cons hk1] at hR
   generalize hXk : xs[k] = a at *
   generalize hYk : ys[k] = b at *
   simp only [cmpL] at hR
   have hcc : oCmpI [I a, I b] = some (I (cmpI a b)) := rfl
   generalize cmpI a b = cc at *
   have HH3 := zA hk1 (zA hiy (zA gy1 (zA gy2 hcc)))
   refine zK ?_
   simp only [zT, zB]
   refine zS ?_
   refine zR (zO (by simp [zC h112, -lenA, HH1, zI, -List.getElem?_map, -List.getElem_map, HH2, HH3]; rfl) ?_)
   simp only [zT, zB]
   refine zS ?_
   refine zR (zO (by simp [zC h112, -lenA, HH1, zI, -List.getElem?_map, -List.getElem_map, HH2, HH3]; rfl) ?_)
   simp only [zT, zB]
   refine zS ?_
   refine zR (zO (by simp [zC h112, -lenA, HH1, zI, -List.getElem?_map, -List.getElem_map, HH2, HH3]; rfl) ?_)
   simp only [zT, zB]
   refine runs_cond_split (x := (cc != 0)) (by simp) (fun he => ?_) (fun he => ?_)
   ·have he : ¬ cc = 0 := by simpa using he
    rw [if_neg he] at hR
    rw [← hR]
    refine zS ?_
    refine zR (zO (by simp [zC h112, -lenA, HH1, zI, -List.getElem?_map, -List.getElem_map, HH2, HH3]; rfl) ?_)
    simp only [zT, zB]
    refine runs_ret ?_
    simp [zC h112, -lenA, HH1, zI, -List.getElem?_map, -List.getElem_map, HH2, HH3]
   ·have he : cc = 0 := by simpa using he
    rw [if_pos he] at hR
    refine zK ?_
    simp only [zT, zB]
    refine zR (zO (by simp [zC h112, -lenA, HH1, zI, -List.getElem?_map, -List.getElem_map, HH2, HH3]; rfl) ?_)
    simp only [zT, zB]
    exact ⟨xs.length - (k + 1), by omega, k + 1, i + 1, by omega, rfl, by omega, hR, by simp [trim, zC h112, -lenA, HH1, zI, -List.getElem?_map, -List.getElem_map, HH2, HH3]⟩
 ·have hlt := of_decide_eq_false hlt
  have hkE : k = xs.length := by omega
  subst hkE
  rw [List.drop_length] at hR
  refine runs_exit ?_
  simp only [zT, zB, if_true, if_false, reduceIte, Nat.reduceEqDiff, Nat.succ_ne_zero, Nat.one_ne_zero, Nat.zero_ne_one]
  refine zS ?_
  refine zS ?_
  refine zR (zO (by simp [zC h112, -lenA, HH1]; rfl) ?_)
  simp only [zT, zB]
  refine runs_cond_split (x := decide ((xs.length : Int) < (ys.length : Int))) (by simp) (fun h4 => ?_) (fun h4 => ?_)
  ·have h4 := of_decide_eq_true h4
   rw [List.drop_eq_getElem_cons (show xs.length < ys.length by omega)] at hR
   simp only [cmpL] at hR
   rw [← hR]
   refine zS ?_
   refine zR (zO (by simp [zC h112, -lenA, HH1]; rfl) ?_)
   simp only [zT, zB]
   refine runs_ret ?_
   simp [zC h112, -lenA, HH1]
  ·have h4 := of_decide_eq_false h4
   rw [List.drop_of_length_le (show ys.length ≤ xs.length by omega)] at hR
   simp only [cmpL] at hR
   rw [← hR]
   refine zK ?_
   simp only [zT, zB]
   refine zS ?_
   refine zR (zO (by simp [zC h112, -lenA, HH1]; rfl) ?_)
   simp only [zT, zB]
   refine runs_ret ?_
   simp [zC h112, -lenA, HH1]
noncomputable def BH3_77 : Nat → Option CFn := upd BH2 77 true (oCmpL)
theorem BH3_77_ok : TabOk Tryz.prog GG BH3_77 := tab_add mixed BH2_ok fun args v ho => by
  unfold oCmpL at ho; split at ho <;> (try simp only [reduceCtorEq] at ho)
  rename_i x y
  split at ho <;> (try simp only [reduceCtorEq] at ho)
  rename_i xs ys hx hy
  split at ho <;> (try simp only [reduceCtorEq] at ho)
  rename_i hl
  simp only [Option.some.injEq] at ho
  subst ho
  exact a77 Tryz.prog BH2 rfl rfl x y xs ys hx hy hl
noncomputable def BH3 : Nat → Option CFn := upd BH3_77 67 true (oOrB)
theorem BH3_ok : TabOk Tryz.prog GG BH3 := tab_add mixed BH3_77_ok fun args v ho => by
  unfold oOrB at ho; split at ho <;> (try simp only [reduceCtorEq] at ho)
  rename_i x y tt
  simp only [Option.some.injEq] at ho
  subst ho
  exact a67b Tryz.prog BH3_77 rfl x y tt
theorem a76 (P : Program) (T : Nat → Option CFn) (hT : T 76 = some c76) (h77 : T 77 = some { c77 with frsh := true, orc := oCmpL }) (h67 : T 67 = some { c67 with frsh := true, orc := oOrB }) (x y : AVal) (xs ys : List Int) (hx : dInts x = some xs) (hy : dInts y = some ys) (hl : xs.length ≤ 1000 ∧ ys.length ≤ 1000) : Answers P T 76 [x, y] [] fun v h => frz true h 5 v = some (I (cmpN xs ys)) := by
 have lx := dInts_len hx
 have ly := dInts_len hy
 have fx := fun H d => dInts_frz hx H d
 have fy := fun H d => dInts_frz hy H d
 have hcl : oCmpL [x, y] = some (I (cmpL xs ys)) := by simp only [oCmpL, hx, hy]; rw [if_pos hl]
 have hws : W .i64 ((xs.length : Int) - (ys.length : Int)) = (xs.length : Int) - (ys.length : Int) := W_small (by omega)
 have hor : oOrB [.vl [[I ((xs.length : Int) - (ys.length : Int))], [I (cmpL xs ys)]] true] = some (I (if (xs.length : Int) - (ys.length : Int) = 0 then cmpL xs ys else (xs.length : Int) - (ys.length : Int))) := rfl
 refine answers_of hT (orcF_none rfl) ?_
 simp only [oo, om, op, og, ci, cl, c76]
 have HH1 := zA h77 (zA h67 (zA lx (zA ly (zA fx (zA fy (zA hcl (zA hws hor)))))))
 refine zS ?_
 refine zR (zO (by simp [zC h77, zC h67, -lenA, HH1]; rfl) ?_)
 simp only [zT, zB]
 refine zS ?_
 refine zR (zO (by simp [zC h77, zC h67, -lenA, HH1]; rfl) ?_)
 simp only [zT, zB]
 refine runs_ret ?_
 simp [zC h77, zC h67, -lenA, HH1, cmpN]
noncomputable def BH4 : Nat → Option CFn := upd BH3 76 true (oCmpN)
theorem BH4_ok : TabOk Tryz.prog GG BH4 := tab_add mixed BH3_ok fun args v ho => by
  unfold oCmpN at ho; split at ho <;> (try simp only [reduceCtorEq] at ho)
  rename_i x y
  split at ho <;> (try simp only [reduceCtorEq] at ho)
  rename_i xs ys hx hy
  split at ho <;> (try simp only [reduceCtorEq] at ho)
  rename_i hl
  simp only [Option.some.injEq] at ho
  subst ho
  exact a76 Tryz.prog BH3 rfl rfl rfl x y xs ys hx hy hl
end
section
attribute [local simp] Function.comp_def List.all_append List.all_map callA calleeA frzG gather getR lim lop loud lowA lowR okG ptrs putG putH putR rbB_none rbB_row resG rowAt setH takeG
theorem frN_rowS (n : Nat) (h : Heap) (xs : List (List Int)) : ∀ r ∈ xs.map encS, optAll (frN n h 5) r = some r := fun r hr => by
  obtain ⟨a, _, rfl⟩ := List.mem_map.1 hr
  cases a <;> rfl
theorem frN_mapS (n : Nat) (h : Heap) (xs : List (List Int)) : optAll (optAll (frN n h 5)) (xs.map encS) = some (xs.map encS) := optAll_self _ (frN_rowS n h xs)
theorem encS_V (xs : List Int) : encS xs = [encV xs] := rfl
theorem minL_mem : ∀ {l : List (List Int)}, l ≠ [] → minL l ∈ l
  | [], h => absurd rfl h
  | x :: l, _ => by
    have : ∀ (l : List (List Int)) (m : List Int), l.foldl minS m = m ∨ l.foldl minS m ∈ l := by
      intro l
      induction l with
      | nil => intro m; exact .inl rfl
      | cons y l ih =>
        intro m
        rw [List.foldl_cons]
        rcases ih (minS m y) with h | h
        · rw [h]
          unfold minS
          split
          · exact .inr (by simp)
          · exact .inl rfl
        · exact .inr (by simp [h])
    rcases this l x with h | h
    · show l.foldl minS x ∈ x :: l; rw [h]; simp
    · exact List.mem_cons_of_mem _ h
theorem min_eq {L : List (List Int)} {tt : Bool} (h1 : L ≠ []) (h2 : L.length ≤ 1000) (h3 : ∀ l ∈ L, l.length ≤ 1000) : oMin [.vl (L.map encS) tt, .fn 76 [] []] = some (encV (minL L)) := by
  have e : optAll dRow1 (L.map encS) = some L := optAll_map (d := dRow1) (enc := encS) (fun x => by rw [encS_V]; simp only [dRow1, dInts_encV]) L
  simp only [oMin, e]
  rw [if_pos ⟨trivial, h1, h2, h3⟩]
noncomputable def badB (s : FShop) (js : List FJob) (st : Int) : Bool := decide (0 < (bestF s (inSet st 0 js)).sum)
noncomputable def nevL (s : FShop) (js : List FJob) : Nat → List (List Int)
  | 0 => []
  | k + 1 => nevL s js k ++ if badB s js (k : Int) = true then [numL (k : Int) js.length] else []
theorem nevL_len (s : FShop) (js : List FJob) : ∀ k, (nevL s js k).length ≤ k
  | 0 => Nat.le_refl _
  | k + 1 => by
    have := nevL_len s js k
    rw [nevL, List.length_append]
    split <;> simp <;> omega
theorem nevL_mem (s : FShop) (js : List FJob) : ∀ k, ∀ l ∈ nevL s js k, l.length ≤ js.length
  | 0, l, h => by simp [nevL] at h
  | k + 1, l, h => by
    rw [nevL] at h
    rcases List.mem_append.1 h with h | h
    · exact nevL_mem s js k l h
    · split at h
      · simp only [List.mem_singleton] at h; subst h; exact numL_len _ _
      · simp at h
theorem inSet_all {α : Type} {st : Int} : ∀ {l : List α} {k : Nat}, (∀ i, i < l.length → bitB st (k + i) = true) → inSet st k l = l
  | [], _, _ => rfl
  | x :: l, k, h => by
    simp only [inSet]
    rw [if_pos (by have := h 0 (by simp); simpa using this), inSet_all fun i hi => by have := h (i + 1) (by simpa using hi); rwa [show k + 1 + i = k + (i + 1) by omega]]
theorem bits_full : ∀ n ≤ 6, ∀ i < n, bitB (((2 ^ n - 1 : Nat)) : Int) i = true := by decide
theorem try_nn {s : FShop} {js : List FJob} (h : ShopOk s js) : ∀ (d : Nat) (now : List Int) (b : FBest), NowOk js now d → 0 ≤ b.sum → 0 ≤ (tryF s js d now b).sum
  | 0, now, b, hw, hb => by
    have hl := lat_bd h hw
    simp only [tryF]
    split
    · exact hb
    · exact hl.1.1
  | d + 1, now, b, hw, hb => by
    simp only [tryF]
    split
    · exact hb
    · refine foldl_inv (Q := fun (b : FBest) => 0 ≤ b.sum) hb fun i hi b hb => ?_
      have hi := List.mem_range.1 hi
      split
      · exact hb
      · rename_i hn; exact try_nn h d _ b (hw.snoc hi hn) hb
theorem best_nn {s : FShop} {js : List FJob} (h : ShopOk s js) : 0 ≤ (bestF s js).sum := try_nn h _ _ _ (NowOk.nil js) (Int.le_refl _)
theorem best_nil {s : FShop} {js : List FJob} (h : ShopOk s js) (h0 : js = []) : (bestF s js).sum = 0 := by
  subst h0
  have hl := lat_nil h
  show (tryF s [] 0 [] bz).sum = 0
  simp only [tryF, hl]
  split <;> rfl
theorem nevL_ne {s : FShop} {js : List FJob} (h : ShopOk s js) (h0 : ¬ (bestF s js).sum = 0) : nevL s js (2 ^ js.length) ≠ [] := by
  have hp : 0 < 2 ^ js.length := Nat.pow_pos (by decide)
  obtain ⟨m, hm⟩ : ∃ m, 2 ^ js.length = m + 1 := ⟨2 ^ js.length - 1, by omega⟩
  rw [hm, nevL]
  have e : inSet (m : Int) 0 js = js := inSet_all fun i hi => by
    have := bits_full js.length h.njob i hi
    rw [hm] at this
    simpa using this
  have hb : badB s js (m : Int) = true := by
    unfold badB
    rw [e, decide_eq_true_eq]
    have := best_nn h
    omega
  rw [if_pos hb]
  simp
noncomputable def nevE (s : FShop) (js : List FJob) : Int := if shopE s js = 0 then (if (bestF s js).sum = 0 then 7 else 0) else shopE s js
noncomputable def nevV (s : FShop) (js : List FJob) : AVal := if nevE s js = 0 then encV (minL (nevL s js (2 ^ js.length))) else .nils
noncomputable def oNever : List AVal → Option AVal
  | [.agg [.int .i64 m, c, t], j] => match dInts2 c, dStops t, dJobs j with
    | some cs, some ts, some js => if sizeOk ⟨m, cs, ts⟩ js = true then some (.tup [nevV ⟨m, cs, ts⟩ js, I (nevE ⟨m, cs, ts⟩ js)]) else none
    | _, _, _ => none
  | _ => none
theorem never_eq {s : FShop} {js : List FJob} {c t j : AVal} (hc : dInts2 c = some s.chg) (ht : dStops t = some s.stops) (hj : dJobs j = some js) (hz : SizeOk s js) : oNever [.agg [I s.mach, c, t], j] = some (.tup [nevV s js, I (nevE s js)]) := by
  simp only [oNever, hc, ht, hj]
  rw [if_pos (size_ok.2 hz)]
open Classical in
noncomputable def oNevR : List AVal → Option AVal
  | [.agg [.int .i64 m, c, t], j] => match dInts2 c, dStops t, dJobs j with
    | some cs, some ts, some js => if ShopOk ⟨m, cs, ts⟩ js then some (if (bestF ⟨m, cs, ts⟩ js).sum = 0 then .tup [.nils, .bool false] else .tup [encV0 (minL (nevL ⟨m, cs, ts⟩ js (2 ^ js.length))), .bool true]) else none
    | _, _, _ => none
  | _ => none
theorem nevR_eq {s : FShop} {js : List FJob} {c t j : AVal} (hc : dInts2 c = some s.chg) (ht : dStops t = some s.stops) (hj : dJobs j = some js) (h : ShopOk s js) : oNevR [.agg [I s.mach, c, t], j] = some (if (bestF s js).sum = 0 then .tup [.nils, .bool false] else .tup [encV0 (minL (nevL s js (2 ^ js.length))), .bool true]) := by
  simp only [oNevR, hc, ht, hj]
  rw [if_pos h]
theorem a75 (P : Program) (T : Nat → Option CFn) (hT : T 75 = some c75) (h76 : T 76 = some { c76 with frsh := true, orc := oCmpN }) (L : List (List Int)) (tt : Bool) (hne : L ≠ []) (hl : L.length ≤ 1000) (hlen : ∀ l ∈ L, l.length ≤ 1000) : Answers P T 75 [.vl (L.map encS) tt, .fn 76 [] []] [] fun v h => frz false h 5 v = some (encV (minL L)) := by
 have hL0 : 0 < L.length := List.length_pos_iff.2 hne
 have hmin1 : L[0] = minL (L.take 1) := by
  cases L with
  | nil => exact absurd rfl hne
  | cons x l => rfl
 have g01 : (L.map encS)[0]? = some [encV L[0]] := by rw [List.getElem?_map, List.getElem?_eq_getElem hL0]; rfl
 have g02 : ∀ (h : 0 < (L.map encS).length), (L.map encS)[0]'h = [encV L[0]] := fun h => by rw [List.getElem_map]; rfl
 refine answers_of hT (orcF_none rfl) ?_
 simp only [oo, om, op, og, ci, cl, c75]
 refine zS ?_
 refine zR (zO (by simp [zC h76, h76, hL0, g01, g02]; rfl) ?_)
 simp only [zT, zB]
 refine zS ?_
 refine zS ?_
 refine zR (zO (by simp [zC h76, h76, hL0, g01, g02]; rfl) ?_)
 simp only [zT, zB]
 refine runs_cond (x := false) (by simp; omega) ?_
 refine zK ?_
 simp only [zT, zB]
 refine zS ?_
 refine zR (zO (by simp [zC h76, h76, hL0, g01, g02]; rfl) ?_)
 simp only [zT, zB]
 refine zS ?_
 refine zS ?_
 refine zR (zO (by simp [zC h76, h76, hL0, g01, g02]; rfl) ?_)
 simp only [zT, zB]
 refine zL ?_
 refine runs_loop_inv (fun m σ => ∃ (k : Nat) (i : Int) (m1 : List Int), i = k ∧ L.length - k = m ∧ 1 ≤ k ∧ k ≤ L.length ∧ m1 = minL (L.take k) ∧ σ = ⟨[.vl (L.map encS) tt, .fn 76 [] [], .any, .any, .any, encV m1, I i, .any, .any, .any, .any, .any, .any, .any, .any, .any, .any, .any, .any, .any, .any, .any, .any, .any, .any, .any, .any, .any, .any, .any, .any, .any, .any], []⟩) ?_ (L.length - 1) _ ⟨1, 1, L[0], rfl, rfl, Nat.le_refl _, hL0, hmin1, by simp⟩
 rintro m σ ⟨k, i, m1, hik, rfl, hk1, hkl, hm1, rfl⟩
 refine zS ?_
 refine zS ?_
 refine zR (zO (by simp [zC h76, h76, hL0, g01, g02]; rfl) ?_)
 simp only [zT, zB]
 refine runs_cond_split (x := decide (i < (L.length : Int))) (by simp) (fun hlt => ?_) (fun hlt => ?_)
 ·have hlt := of_decide_eq_true hlt
  have hk0 : k < L.length := by omega
  have hi0 : 0 ≤ i := by omega
  have htn : i.toNat = k := by omega
  have hwi : W .i64 (i + 1) = i + 1 := W_small (by omega)
  have ge1 : (L.map encS)[k]? = some [encV L[k]] := by rw [List.getElem?_map, List.getElem?_eq_getElem hk0]; rfl
  have ge2 : ∀ (h : k < (L.map encS).length), (L.map encS)[k]'h = [encV L[k]] := fun h => by rw [List.getElem_map]; rfl
  have hm2 : minL (L.take (k + 1)) = minS (minL (L.take k)) L[k] := by
   rw [List.take_succ_eq_append_getElem hk0, minL_snoc]
   intro e
   have : min k L.length = 0 := by rw [← List.length_take, e]; rfl
   omega
  have hml : m1.length ≤ 1000 := by
   rw [hm1]
   refine hlen _ (List.mem_of_mem_take (minL_mem ?_))
   intro e
   have : min k L.length = 0 := by rw [← List.length_take, e]; rfl
   omega
  have hxl := hlen _ (List.getElem_mem hk0)
  rw [← hm1] at hm2
  generalize hX : L[k] = X at *
  have hcn : oCmpN [encV X, encV m1] = some (I (cmpN X m1)) := by simp only [oCmpN, dInts_encV]; rw [if_pos ⟨hxl, hml⟩]
  have fx := fun H d => dInts_frz (dInts_encV X) H d
  have fm := fun H d => dInts_frz (dInts_encV m1) H d
  unfold minS at hm2
  generalize cmpN X m1 = cc at *
  have HH1 := zA h76 (zA hL0 (zA g01 (zA g02 (zA hi0 (zA htn (zA hk0 (zA hwi (zA ge1 (zA ge2 (zA hX (zA hcn (zA fx fm))))))))))))
  refine zK ?_
  simp only [zT, zB]
  refine zS ?_
  refine zL ?_
  refine zS ?_
  refine zR (zO (by simp [zC h76, -List.getElem?_map, -List.getElem_map, HH1]; rfl) ?_)
  simp only [zT, zB]
  refine runs_cond_split (x := decide (cc < 0)) (by simp) (fun hz => ?_) (fun hz => ?_)
  ·have hz := of_decide_eq_true hz
   rw [if_pos hz] at hm2
   refine zR (zO (by simp [zC h76, -List.getElem?_map, -List.getElem_map, HH1]; rfl) ?_)
   simp only [zT, zB]
   refine zR (zO (by simp [zC h76, -List.getElem?_map, -List.getElem_map, HH1]; rfl) ?_)
   simp only [zT, zB]
   exact ⟨L.length - (k + 1), by omega, k + 1, i + 1, X, by omega, rfl, by omega, by omega, hm2.symm, by simp [trim, zC h76, -List.getElem?_map, -List.getElem_map, HH1]⟩
  ·have hz := of_decide_eq_false hz
   rw [if_neg hz] at hm2
   refine zK ?_
   simp only [zT, zB]
   refine zR (zO (by simp [zC h76, -List.getElem?_map, -List.getElem_map, HH1]; rfl) ?_)
   simp only [zT, zB]
   exact ⟨L.length - (k + 1), by omega, k + 1, i + 1, m1, by omega, rfl, by omega, by omega, hm2.symm, by simp [trim, zC h76, -List.getElem?_map, -List.getElem_map, HH1]⟩
 ·have hlt := of_decide_eq_false hlt
  have hkE : k = L.length := by omega
  rw [hkE, List.take_length] at hm1
  rw [← hm1]
  have fm := fun H d => dInts_frz (dInts_encV m1) H d
  have HH2 := zA h76 (zA hL0 (zA g01 (zA g02 fm)))
  refine runs_exit ?_
  simp only [zT, zB, if_true, if_false, reduceIte, Nat.reduceEqDiff, Nat.succ_ne_zero, Nat.one_ne_zero, Nat.zero_ne_one]
  refine zS ?_
  refine zR (zO (by simp [zC h76, HH2]; rfl) ?_)
  simp only [zT, zB]
  refine runs_ret ?_
  simp [zC h76, HH2, trim]
theorem min_good : ∀ args v, oMin args = some v → OrcGood Tryz.prog GG false 75 args v := fun args v ho => by
  unfold oMin at ho; split at ho <;> (try simp only [reduceCtorEq] at ho)
  rename_i rs tt
  split at ho <;> (try simp only [reduceCtorEq] at ho)
  rename_i L hL
  split at ho <;> (try simp only [reduceCtorEq] at ho)
  rename_i hg
  simp only [Option.some.injEq] at ho
  subst ho
  obtain ⟨rfl, h1, h2, h3⟩ := hg
  exact orc_of mixed BH4_ok (a75 Tryz.prog BH4 rfl rfl L tt h1 h2 h3)
noncomputable def BI0 : Nat → Option CFn := upd BH4 75 false (fun _ => none)
theorem BI0_ok : TabOk Tryz.prog GG BI0 := tab_add mixed BH4_ok fun args v ho => by simp at ho
noncomputable def BI1 : Nat → Option CFn := updE BI0 75 (dropE oMin)
theorem BI1_ok : TabOk Tryz.prog GG BI1 := tab_drop BI0_ok min_good
noncomputable def BI2 : Nat → Option CFn := upd BI1 71 false oOrd
theorem BI2_ok : TabOk Tryz.prog GG BI2 := tab_upd BI1_ok ord_good
noncomputable def BI3 : Nat → Option CFn := updG BI2 74 [(28722, [.cell 4 3, .slot 5])] []
theorem BI3_ok : TabOk Tryz.prog GG BI3 := tab_updG BI2_ok
noncomputable def BI4 : Nat → Option CFn := upd BI3 74 false (oAmong)
theorem BI4_ok : TabOk Tryz.prog GG BI4 := tab_add mixed BI3_ok fun args v ho => by
  unfold oAmong at ho; split at ho <;> (try simp only [reduceCtorEq] at ho)
  rename_i m c t rs tt st
  split at ho <;> (try simp only [reduceCtorEq] at ho)
  rename_i cs ts js hc ht hj
  split at ho <;> (try simp only [reduceCtorEq] at ho)
  rename_i hg
  simp only [Option.some.injEq] at ho
  subst ho
  exact a74 Tryz.prog BI3 rfl m c t cs ts hc ht rs tt js hj hg.1 st hg.2
noncomputable def BI5 : Nat → Option CFn := updG BI4 33 [(51539608128, [.slot 9])] []
theorem BI5_ok : TabOk Tryz.prog GG BI5 := tab_updG BI4_ok
theorem a33 (P : Program) (T : Nat → Option CFn) (hT : T 33 = some { c33 with body := annK [(51539608128, [.slot 9])] [] c33.body }) (h70 : T 70 = some { c70 with frsh := false, orc := oOpen }) (h71 : T 71 = some { c71 with frsh := false, orc := oOrd }) (h74 : T 74 = some { c74 with body := annK [(28722, [.cell 4 3, .slot 5])] [] c74.body, frsh := false, orc := oAmong }) (h75 : T 75 = some { c75 with frsh := false, orc := fun _ => none, eff := dropE oMin }) (s : FShop) (js : List FJob) (c t j : AVal) (hc : dInts2 c = some s.chg) (ht : dStops t = some s.stops) (hj : dJobs j = some js) (hz : SizeOk s js) : Answers P T 33 [.agg [I s.mach, c, t], j] [] fun v h => frz false h 5 v = some (.tup [nevV s js, I (nevE s js)]) := by
 have fc := fun H d => dInts2_frz hc H d
 have ft := fun H d => dStops_frz ht H d
 have fj := fun H d => dJobs_frz hj H d
 have rc := fun n d => dInts2_rb hc n d
 have rt := fun n d => dStops_rb ht n d
 have rj := fun n d => dJobs_rb hj n d
 have lc := dInts2_len hc
 have lt := dStops_len ht
 have lj := dJobs_len hj
 obtain ⟨cc1, cc2⟩ := dInts2_cells hc
 obtain ⟨ct1, ct2⟩ := dStops_cells ht
 obtain ⟨cj1, cj2⟩ := dJobs_cells hj
 have hop := open_eq hc ht hj hz
 unfold nevV
 refine answers_of hT (orcF_none rfl) ?_
 simp only [oo, om, op, og, ci, cl, c33, annK, lkG, lkR, reduceIte, Nat.reduceEqDiff, reduceCtorEq, List.cons.injEq, and_true, and_false, false_and, true_and]
 by_cases h0 : shopE s js = 0
 ·have hsh := shop_ok h0
  have hn6 := hsh.njob
  have hq := ord_eq hc ht hj hsh
  have hne := nevL_ne hsh
  generalize hB : bestF s js = B at *
  have feb := fun H d => dInts_frz (dInts_encV B.order) H d
  have reb := fun n d => dInts_rb (dInts_encV B.order) n d
  obtain ⟨ceb1, ceb2⟩ := dInts_cells (dInts_encV B.order)
  by_cases hs0 : B.sum = 0
  ·have hbe : nevE s js = 7 := by unfold nevE; rw [if_pos h0, hB, if_pos hs0]
   rw [hbe, if_neg (by decide)]
   have HH1 := zA h70 (zA h71 (zA h74 (zA h75 (zA fc (zA ft (zA fj (zA rc (zA rt (zA rj (zA lc (zA lt (zA lj (zA cc1 (zA cc2 (zA ct1 (zA ct2 (zA cj1 (zA cj2 (zA hop (zA h0 (zA hq (zA feb (zA reb (zA ceb1 (zA ceb2 hs0)))))))))))))))))))))))))
   refine zS ?_
   refine zR (zO (by simp [zC h70, zC h71, zC h74, callF_eff h75 rfl, ↓orc_nil, dropE, onlyJ, -lenA, HH1]; rfl) ?_)
   simp only [zT, zB]
   refine zS ?_
   refine zR (zO (by simp [zC h70, zC h71, zC h74, callF_eff h75 rfl, ↓orc_nil, dropE, onlyJ, -lenA, HH1]; rfl) ?_)
   simp only [zT, zB]
   refine zS ?_
   refine zS ?_
   refine zR (zO (by simp [zC h70, zC h71, zC h74, callF_eff h75 rfl, ↓orc_nil, dropE, onlyJ, -lenA, HH1]; rfl) ?_)
   simp only [zT, zB]
   refine runs_cond (x := false) (by simp) ?_
   refine zK ?_
   simp only [zT, zB]
   refine zS ?_
   refine zS ?_
   refine zR (zO (by simp [zC h70, zC h71, zC h74, callF_eff h75 rfl, ↓orc_nil, dropE, onlyJ, -lenA, HH1]; rfl) ?_)
   simp only [zT, zB]
   refine zS ?_
   refine zR (zO (by simp [zC h70, zC h71, zC h74, callF_eff h75 rfl, ↓orc_nil, dropE, onlyJ, -lenA, HH1]; rfl) ?_)
   simp only [zT, zB]
   refine runs_cond (x := true) (by simp [hs0]) ?_
   refine zS ?_
   refine zR (zO (by simp [zC h70, zC h71, zC h74, callF_eff h75 rfl, ↓orc_nil, dropE, onlyJ, -lenA, HH1]; rfl) ?_)
   simp only [zT, zB]
   refine runs_ret ?_
   simp [zC h70, zC h71, zC h74, callF_eff h75 rfl, ↓orc_nil, dropE, onlyJ, -lenA, HH1, trim]
  ·have hbe : nevE s js = 0 := by unfold nevE; rw [if_pos h0, hB, if_neg hs0]
   rw [hbe, if_pos rfl]
   have hne2 := hne hs0
   have hs0b : (B.sum == 0) = false := by simp [hs0]
   have hjn : js ≠ [] := fun e => hs0 (by rw [← hB]; exact best_nil hsh e)
   obtain ⟨rs, hrv, hrs⟩ := dJobs_rows hj
   have hrl := (optAll_at hrs).1
   obtain ⟨tt, rfl⟩ := rowsV_get hrv (k := 0) (by rw [hrl]; exact List.length_pos_iff.2 hjn)
   have hshl := shl_eq (n := (js.length : Int)) rfl hn6
   obtain ⟨NN, hNN⟩ : ∃ NN : Nat, NN = 2 ^ js.length := ⟨_, rfl⟩
   have hNI : (2 : Int) ^ js.length = (NN : Int) := by rw [hNN]; exact (Int.natCast_pow 2 js.length).symm
   have hN64 : NN ≤ 64 := by rw [hNN]; exact Nat.le_trans (Nat.pow_le_pow_right (by decide) hn6) (by decide)
   rw [← hNN] at hne2 ⊢
   rw [hNI] at hshl
   have HH2 := zA h70 (zA h71 (zA h74 (zA h75 (zA fc (zA ft (zA fj (zA rc (zA rt (zA rj (zA lc (zA lt (zA lj (zA cc1 (zA cc2 (zA ct1 (zA ct2 (zA cj1 (zA cj2 (zA hop (zA h0 (zA hq (zA feb (zA reb (zA ceb1 (zA ceb2 (zA hs0b hshl))))))))))))))))))))))))))
   refine zS ?_
   refine zR (zO (by simp [zC h70, zC h71, zC h74, callF_eff h75 rfl, ↓orc_nil, dropE, onlyJ, -lenA, ↓encS_rb, ↓frN_mapS, HH2]; rfl) ?_)
   simp only [zT, zB]
   refine zS ?_
   refine zR (zO (by simp [zC h70, zC h71, zC h74, callF_eff h75 rfl, ↓orc_nil, dropE, onlyJ, -lenA, ↓encS_rb, ↓frN_mapS, HH2]; rfl) ?_)
   simp only [zT, zB]
   refine zS ?_
   refine zS ?_
   refine zR (zO (by simp [zC h70, zC h71, zC h74, callF_eff h75 rfl, ↓orc_nil, dropE, onlyJ, -lenA, ↓encS_rb, ↓frN_mapS, HH2]; rfl) ?_)
   simp only [zT, zB]
   refine runs_cond (x := false) (by simp) ?_
   refine zK ?_
   simp only [zT, zB]
   refine zS ?_
   refine zS ?_
   refine zR (zO (by simp [zC h70, zC h71, zC h74, callF_eff h75 rfl, ↓orc_nil, dropE, onlyJ, -lenA, ↓encS_rb, ↓frN_mapS, HH2]; rfl) ?_)
   simp only [zT, zB]
   refine zS ?_
   refine zR (zO (by simp [zC h70, zC h71, zC h74, callF_eff h75 rfl, ↓orc_nil, dropE, onlyJ, -lenA, ↓encS_rb, ↓frN_mapS, HH2]; rfl) ?_)
   simp only [zT, zB]
   refine runs_cond (x := false) (by simp [hs0b]) ?_
   refine zK ?_
   simp only [zT, zB]
   refine zS ?_
   refine zR (zO (by simp [zC h70, zC h71, zC h74, callF_eff h75 rfl, ↓orc_nil, dropE, onlyJ, -lenA, ↓encS_rb, ↓frN_mapS, HH2]; rfl) ?_)
   simp only [zT, zB]
   refine zS ?_
   refine zS ?_
   refine zR (zO (by simp [zC h70, zC h71, zC h74, callF_eff h75 rfl, ↓orc_nil, dropE, onlyJ, -lenA, ↓encS_rb, ↓frN_mapS, HH2]; rfl) ?_)
   simp only [zT, zB]
   refine zL ?_
   refine runs_loopG_inv (fun mm σ => ∃ (k : Nat) (i : Int), i = k ∧ NN - k = mm ∧ k ≤ NN ∧ ((nevL s js k = [] ∧ σ = ⟨[.any, .any, .any, .any, .any, .any, .ref 1 0 0, .any, .any, .nils, .any, .any, .any, .any, .any, .any, .any, .any, .any, .any, .any, .any, .any, .any, .any, .any, .any, .any, .any, .any, .any, .any, .any, .any, I (NN : Int), I i, .any, .any, .any, .any, .any, .any, .any, .any, .any, .any, .any, .any, .any, .any, .any, .any, .any, .any, .any, .any, .any, .any, .any], [some (.row 3 [[I s.mach, c, t]]), some (.row 4 [[I s.mach, c, t, .vl rs tt]]), some (.row 2 [[I B.sum, I B.last]]), none]⟩) ∨ (∃ (p : Nat) (ac : List (List Int)), ac = nevL s js k ∧ ac.length = p + 1 ∧ σ = ⟨[.any, .any, .any, .any, .any, .any, .ref 1 0 0, .any, .any, .sl 3 0 (p + 1) false, .any, .any, .any, .any, .any, .any, .any, .any, .any, .any, .any, .any, .any, .any, .any, .any, .any, .any, .any, .any, .any, .any, .any, .any, I (NN : Int), I i, .any, .any, .any, .any, .any, .any, .any, .any, .any, .any, .any, .any, .any, .any, .any, .any, .any, .any, .any, .any, .any, .any, .any], [some (.row 3 [[I s.mach, c, t]]), some (.row 4 [[I s.mach, c, t, .vl rs tt]]), some (.row 2 [[I B.sum, I B.last]]), some (.row 1 (ac.map encS))]⟩))) (by simp [zC h70, zC h71, zC h74, callF_eff h75 rfl, ↓orc_nil, dropE, onlyJ, -lenA, ↓encS_rb, ↓frN_mapS, HH2] <;> first | exact ⟨rfl, rfl⟩ | rfl) (⟨0, 0, rfl, rfl, Nat.zero_le _, .inl ⟨rfl, rfl⟩⟩) ?_
   rintro mm σ ⟨k, i, hik, rfl, hkl, ⟨hac0, rfl⟩ | ⟨p, ac, hac, hal, rfl⟩⟩
   ·refine zS ?_
    refine zR (zO (by simp [zC h70, zC h71, zC h74, callF_eff h75 rfl, ↓orc_nil, dropE, onlyJ, -lenA, ↓encS_rb, ↓frN_mapS, HH2]; rfl) ?_)
    simp only [zT, zB]
    refine zS ?_
    refine runs_cond_split (x := decide (i < (NN : Int))) (by simp) (fun hlt => ?_) (fun hlt => ?_)
    ·have hlt2 := of_decide_eq_true hlt
     have hkN : k < NN := by omega
     have hi0 : 0 ≤ i := by omega
     have hwi : W .i64 (i + 1) = i + 1 := W_small (by omega)
     have ham := among_eq (m := s.mach) (tt := tt) hc ht hrs hn6 (st := i) (by omega)
     have hj2 := dJobs_encR (optAll_in i rs js 0 hrs)
     have hq2 := ord_eq hc ht hj2 (shop_in hsh i)
     have hst : nevL s js (k + 1) = nevL s js k ++ if badB s js (k : Int) = true then [numL (k : Int) js.length] else [] := rfl
     have hbd : badB s js (k : Int) = decide (0 < (bestF s (inSet i 0 js)).sum) := by rw [hik]; rfl
     rw [hbd, ← hik] at hst
     generalize encR (inSet i 0 rs) = je at *
     generalize bestF s (inSet i 0 js) = B2 at *
     generalize hnuG : numL i js.length = nu at *
     have hnuV := encS_V nu
     have fj2 := fun H d => dJobs_frz hj2 H d
     have rj2 := fun n d => dJobs_rb hj2 n d
     obtain ⟨cj3, cj4⟩ := dJobs_cells hj2
     have fb2 := fun H d => dInts_frz (dInts_encV B2.order) H d
     have rb2 := fun n d => dInts_rb (dInts_encV B2.order) n d
     obtain ⟨cb3, cb4⟩ := dInts_cells (dInts_encV B2.order)
     have fn2 := fun H d => dInts_frz (dInts_encV nu) H d
     have rn2 := fun n d => dInts_rb (dInts_encV nu) n d
     have fnN := fun n H d => rowsV_frN (dInts_rows (dInts_encV nu)) n H d
     obtain ⟨cn3, cn4⟩ := dInts_cells (dInts_encV nu)
     have HH3 := zA hi0 (zA hwi (zA ham (zA hq2 (zA fj2 (zA rj2 (zA cj3 (zA cj4 (zA fb2 (zA rb2 (zA cb3 (zA cb4 (zA fn2 (zA rn2 (zA fnN (zA cn3 cn4)))))))))))))))
     refine zK ?_
     simp only [zT, zB]
     refine zS ?_
     refine zL ?_
     refine zS ?_
     refine zR (zO (by simp [zC h70, zC h71, zC h74, callF_eff h75 rfl, ↓orc_nil, dropE, onlyJ, -lenA, ↓encS_rb, ↓frN_mapS, HH2, HH3]; rfl) ?_)
     simp only [zT, zB]
     refine zS ?_
     refine zR (zO (by simp [zC h70, zC h71, zC h74, callF_eff h75 rfl, ↓orc_nil, dropE, onlyJ, -lenA, ↓encS_rb, ↓frN_mapS, HH2, HH3]; rfl) ?_)
     simp only [zT, zB]
     refine zS ?_
     refine zR (zO (by simp [zC h70, zC h71, zC h74, callF_eff h75 rfl, ↓orc_nil, dropE, onlyJ, -lenA, ↓encS_rb, ↓frN_mapS, HH2, HH3]; rfl) ?_)
     simp only [zT, zB]
     refine zS ?_
     refine zR (zO (by simp [zC h70, zC h71, zC h74, callF_eff h75 rfl, ↓orc_nil, dropE, onlyJ, -lenA, ↓encS_rb, ↓frN_mapS, HH2, HH3]; rfl) ?_)
     simp only [zT, zB]
     refine runs_cond_split (x := decide (0 < B2.sum)) (by simp) (fun hz => ?_) (fun hz => ?_)
     ·rw [if_pos hz] at hst
      rw [hac0, List.nil_append] at hst
      have hap : [[encV nu]] = [nu].map encS := rfl
      refine zR (zO (by simp [zC h70, zC h71, zC h74, callF_eff h75 rfl, ↓orc_nil, dropE, onlyJ, -lenA, ↓encS_rb, ↓frN_mapS, HH2, HH3]; rfl) ?_)
      simp only [zT, zB]
      refine zR (zO (by simp [zC h70, zC h71, zC h74, callF_eff h75 rfl, ↓orc_nil, dropE, onlyJ, -lenA, ↓encS_rb, ↓frN_mapS, HH2, HH3]; rfl) ?_)
      simp only [zT, zB]
      exact ⟨NN - (k + 1), _, _, by omega, by simp [zC h70, zC h71, zC h74, callF_eff h75 rfl, ↓orc_nil, dropE, onlyJ, -lenA, ↓encS_rb, ↓frN_mapS, HH2, HH3] <;> rfl, k + 1, i + 1, by omega, rfl, by omega, .inr ⟨0, [nu], hst.symm, rfl, rfl⟩⟩
     ·rw [if_neg (by rw [hz]; simp), List.append_nil] at hst
      refine zK ?_
      simp only [zT, zB]
      refine zR (zO (by simp [zC h70, zC h71, zC h74, callF_eff h75 rfl, ↓orc_nil, dropE, onlyJ, -lenA, ↓encS_rb, ↓frN_mapS, HH2, HH3]; rfl) ?_)
      simp only [zT, zB]
      exact ⟨NN - (k + 1), _, _, by omega, by simp [zC h70, zC h71, zC h74, callF_eff h75 rfl, ↓orc_nil, dropE, onlyJ, -lenA, ↓encS_rb, ↓frN_mapS, HH2, HH3] <;> rfl, k + 1, i + 1, by omega, rfl, by omega, .inl ⟨by rw [hst, hac0], rfl⟩⟩
    ·have hx1 := of_decide_eq_false hlt
     have hkE : k = NN := by omega
     subst hkE
     exact absurd hac0 hne2
   ·have hle := nevL_len s js k
    rw [← hac] at hle
    have tk : (ac.map encS).take (p + 1) = ac.map encS := List.take_of_length_le (by simp [hal])
    have hlp : p + 1 + 1 ≤ 1048576 := by omega
    have hr3 : ∀ e : List Int, (encS e).length = 1 := encS_len
    have hff := fun n h r => optAll_snoc (frN_rowS n h ac) r
    refine zS ?_
    refine zR (zO (by simp [zC h70, zC h71, zC h74, callF_eff h75 rfl, ↓orc_nil, dropE, onlyJ, -lenA, ↓encS_rb, ↓frN_mapS, HH2, ↓tk, hlp, hal, hr3, ↓hff]; rfl) ?_)
    simp only [zT, zB]
    refine zS ?_
    refine runs_cond_split (x := decide (i < (NN : Int))) (by simp) (fun hlt => ?_) (fun hlt => ?_)
    ·have hlt2 := of_decide_eq_true hlt
     have hkN : k < NN := by omega
     have hi0 : 0 ≤ i := by omega
     have hwi : W .i64 (i + 1) = i + 1 := W_small (by omega)
     have ham := among_eq (m := s.mach) (tt := tt) hc ht hrs hn6 (st := i) (by omega)
     have hj2 := dJobs_encR (optAll_in i rs js 0 hrs)
     have hq2 := ord_eq hc ht hj2 (shop_in hsh i)
     have hst : nevL s js (k + 1) = nevL s js k ++ if badB s js (k : Int) = true then [numL (k : Int) js.length] else [] := rfl
     have hbd : badB s js (k : Int) = decide (0 < (bestF s (inSet i 0 js)).sum) := by rw [hik]; rfl
     rw [hbd, ← hik] at hst
     generalize encR (inSet i 0 rs) = je at *
     generalize bestF s (inSet i 0 js) = B2 at *
     generalize hnuG : numL i js.length = nu at *
     have hnuV := encS_V nu
     have fj2 := fun H d => dJobs_frz hj2 H d
     have rj2 := fun n d => dJobs_rb hj2 n d
     obtain ⟨cj3, cj4⟩ := dJobs_cells hj2
     have fb2 := fun H d => dInts_frz (dInts_encV B2.order) H d
     have rb2 := fun n d => dInts_rb (dInts_encV B2.order) n d
     obtain ⟨cb3, cb4⟩ := dInts_cells (dInts_encV B2.order)
     have fn2 := fun H d => dInts_frz (dInts_encV nu) H d
     have rn2 := fun n d => dInts_rb (dInts_encV nu) n d
     have fnN := fun n H d => rowsV_frN (dInts_rows (dInts_encV nu)) n H d
     obtain ⟨cn3, cn4⟩ := dInts_cells (dInts_encV nu)
     have HH4 := zA hlp (zA hal (zA hr3 (zA hi0 (zA hwi (zA ham (zA hq2 (zA fj2 (zA rj2 (zA cj3 (zA cj4 (zA fb2 (zA rb2 (zA cb3 (zA cb4 (zA fn2 (zA rn2 (zA fnN (zA cn3 cn4))))))))))))))))))
     refine zK ?_
     simp only [zT, zB]
     refine zS ?_
     refine zL ?_
     refine zS ?_
     refine zR (zO (by simp [zC h70, zC h71, zC h74, callF_eff h75 rfl, ↓orc_nil, dropE, onlyJ, -lenA, ↓encS_rb, ↓frN_mapS, HH2, ↓tk, ↓hff, HH4]; rfl) ?_)
     simp only [zT, zB]
     refine zS ?_
     refine zR (zO (by simp [zC h70, zC h71, zC h74, callF_eff h75 rfl, ↓orc_nil, dropE, onlyJ, -lenA, ↓encS_rb, ↓frN_mapS, HH2, ↓tk, ↓hff, HH4]; rfl) ?_)
     simp only [zT, zB]
     refine zS ?_
     refine zR (zO (by simp [zC h70, zC h71, zC h74, callF_eff h75 rfl, ↓orc_nil, dropE, onlyJ, -lenA, ↓encS_rb, ↓frN_mapS, HH2, ↓tk, ↓hff, HH4]; rfl) ?_)
     simp only [zT, zB]
     refine zS ?_
     refine zR (zO (by simp [zC h70, zC h71, zC h74, callF_eff h75 rfl, ↓orc_nil, dropE, onlyJ, -lenA, ↓encS_rb, ↓frN_mapS, HH2, ↓tk, ↓hff, HH4]; rfl) ?_)
     simp only [zT, zB]
     refine runs_cond_split (x := decide (0 < B2.sum)) (by simp) (fun hz => ?_) (fun hz => ?_)
     ·rw [if_pos hz] at hst
      rw [← hac] at hst
      have hap : ac.map encS ++ [[encV nu]] = (ac ++ [nu]).map encS := by rw [List.map_append]; rfl
      have hal2 : (ac ++ [nu]).length = p + 1 + 1 := by simp [hal]
      generalize ac ++ [nu] = na at *
      refine zR (zO (by simp [zC h70, zC h71, zC h74, callF_eff h75 rfl, ↓orc_nil, dropE, onlyJ, -lenA, ↓encS_rb, ↓frN_mapS, HH2, ↓tk, ↓hff, HH4, hap]; rfl) ?_)
      simp only [zT, zB]
      refine zR (zO (by simp [zC h70, zC h71, zC h74, callF_eff h75 rfl, ↓orc_nil, dropE, onlyJ, -lenA, ↓encS_rb, ↓frN_mapS, HH2, ↓tk, ↓hff, HH4, hap]; rfl) ?_)
      simp only [zT, zB]
      exact ⟨NN - (k + 1), _, _, by omega, by simp [zC h70, zC h71, zC h74, callF_eff h75 rfl, ↓orc_nil, dropE, onlyJ, -lenA, ↓encS_rb, ↓frN_mapS, HH2, ↓tk, ↓hff, HH4, hap] <;> rfl, k + 1, i + 1, by omega, rfl, by omega, .inr ⟨p + 1, na, hst.symm, hal2, rfl⟩⟩
     ·rw [if_neg (by rw [hz]; simp), List.append_nil] at hst
      refine zK ?_
      simp only [zT, zB]
      refine zR (zO (by simp [zC h70, zC h71, zC h74, callF_eff h75 rfl, ↓orc_nil, dropE, onlyJ, -lenA, ↓encS_rb, ↓frN_mapS, HH2, ↓tk, ↓hff, HH4]; rfl) ?_)
      simp only [zT, zB]
      exact ⟨NN - (k + 1), _, _, by omega, by simp [zC h70, zC h71, zC h74, callF_eff h75 rfl, ↓orc_nil, dropE, onlyJ, -lenA, ↓encS_rb, ↓frN_mapS, HH2, ↓tk, ↓hff, HH4] <;> rfl, k + 1, i + 1, by omega, rfl, by omega, .inr ⟨p, ac, by rw [hst, hac], hal, rfl⟩⟩
    ·have hx1 := of_decide_eq_false hlt
     have hkE : k = NN := by omega
     subst hkE
     have hmin := min_eq (L := ac) (tt := false) (by rw [hac]; exact hne2) (by omega) (by rw [hac]; exact fun l hl => by have := nevL_mem s js _ l hl; omega)
     rw [← hac]
     have fz1 := fun H d => frz_encS H d ac
     have fm := fun H d => dInts_frz (dInts_encV (minL ac)) H d
     have rm := fun n d => dInts_rb (dInts_encV (minL ac)) n d
     generalize minL ac = mn at *
     have HH5 := zA hlp (zA hal (zA hr3 (zA hmin (zA fm rm))))
     refine runs_exit ?_
     simp only [zT, zB, if_true, if_false, reduceIte, Nat.reduceEqDiff, Nat.succ_ne_zero, Nat.one_ne_zero, Nat.zero_ne_one]
     refine zS ?_
     refine zR (zO (by simp [zC h70, zC h71, zC h74, callF_eff h75 rfl, ↓orc_nil, dropE, onlyJ, -lenA, ↓encS_rb, ↓frN_mapS, HH2, ↓tk, ↓hff, ↓fz1, HH5]; rfl) ?_)
     simp only [zT, zB]
     refine runs_ret ?_
     simp [zC h70, zC h71, zC h74, callF_eff h75 rfl, ↓orc_nil, dropE, onlyJ, -lenA, ↓encS_rb, ↓frN_mapS, HH2, ↓tk, ↓hff, ↓fz1, HH5, trim]
 ·have hbe : nevE s js = shopE s js := by unfold nevE; rw [if_neg h0]
  rw [hbe, if_neg h0]
  have HH6 := zA h70 (zA h71 (zA h74 (zA h75 (zA fc (zA ft (zA fj (zA rc (zA rt (zA rj (zA lc (zA lt (zA lj (zA cc1 (zA cc2 (zA ct1 (zA ct2 (zA cj1 (zA cj2 (zA hop h0)))))))))))))))))))
  refine zS ?_
  refine zR (zO (by simp [zC h70, zC h71, zC h74, callF_eff h75 rfl, ↓orc_nil, dropE, onlyJ, -lenA, zWork, HH6]; rfl) ?_)
  simp only [zT, zB]
  refine zS ?_
  refine zR (zO (by simp [zC h70, zC h71, zC h74, callF_eff h75 rfl, ↓orc_nil, dropE, onlyJ, -lenA, zWork, HH6]; rfl) ?_)
  simp only [zT, zB]
  refine zS ?_
  refine zS ?_
  refine zR (zO (by simp [zC h70, zC h71, zC h74, callF_eff h75 rfl, ↓orc_nil, dropE, onlyJ, -lenA, zWork, HH6]; rfl) ?_)
  simp only [zT, zB]
  refine runs_cond (x := true) (by simp [h0]) ?_
  refine zS ?_
  refine zR (zO (by simp [zC h70, zC h71, zC h74, callF_eff h75 rfl, ↓orc_nil, dropE, onlyJ, -lenA, zWork, HH6]; rfl) ?_)
  simp only [zT, zB]
  refine runs_ret ?_
  simp [zC h70, zC h71, zC h74, callF_eff h75 rfl, ↓orc_nil, dropE, onlyJ, -lenA, zWork, HH6, trim]
theorem never_good : ∀ args v, oNever args = some v → OrcGood Tryz.prog GG false 33 args v := fun args v ho => by
  unfold oNever at ho; split at ho <;> (try simp only [reduceCtorEq] at ho)
  rename_i m c t j
  split at ho <;> (try simp only [reduceCtorEq] at ho)
  rename_i cs ts js hc ht hj
  split at ho <;> (try simp only [reduceCtorEq] at ho)
  rename_i hz
  simp only [Option.some.injEq] at ho
  subst ho
  exact orc_of mixed BI5_ok (a33 Tryz.prog BI5 rfl rfl rfl rfl rfl ⟨m, cs, ts⟩ js c t j hc ht hj (size_ok.1 hz))
end
section
attribute [local simp] callA calleeA lim lop loud rbB_none rbB_row
theorem nevL_sub {s : FShop} {js : List FJob} (k : Nat) : nevL s js (k + 1) = nevL s js k ++ if badB s js (k : Int) = true then [numL (k : Int) js.length] else [] := rfl
def skipB (x m : List Int) : Bool := decide (m.length < x.length) || (decide (x.length = m.length) && !lessI x m)
theorem skip_iff {x m : List Int} : skipB x m = true ↔ ¬ cmpN x m < 0 := by
  unfold skipB cmpN
  by_cases h1 : m.length < x.length
  · have h2 : ¬ ((x.length : Int) - m.length = 0) := by omega
    simp only [h1, decide_true, Bool.true_or, true_iff]
    rw [if_neg h2]
    omega
  · by_cases h2 : x.length = m.length
    · have h3 : (x.length : Int) - m.length = 0 := by omega
      rw [if_pos h3, less_cmp x m h2]
      simp [h1, h2]
    · have h3 : ¬ ((x.length : Int) - m.length = 0) := by omega
      rw [if_neg h3]
      simp only [h1, h2, decide_false, Bool.false_and, Bool.or_false, Bool.false_eq_true, false_iff, Classical.not_not]
      omega
theorem a34 (P : Program) (T : Nat → Option CFn) (hT : T 34 = some c34) (h31 : T 31 = some { c31 with frsh := false, orc := spFind 7 })  (h78 : T 78 = some { c78 with body := annK [(451, [.slot 6, .slot 7])] [] c78.body, frsh := false, orc := oSome }) (h79 : T 79 = some { c79 with frsh := true, orc := oLess }) (s : FShop) (js : List FJob) (c t j : AVal) (hc : dInts2 c = some s.chg) (ht : dStops t = some s.stops) (hj : dJobs j = some js) (hsh : ShopOk s js) : Answers P T 34 [.agg [I s.mach, c, t], j] [] fun v h => frz false h 5 v = some (if (bestF s js).sum = 0 then .tup [.nils, .bool false] else .tup [encV0 (minL (nevL s js (2 ^ js.length))), .bool true]) := by
 have fc := fun H d => dInts2_frz hc H d
 have ft := fun H d => dStops_frz ht H d
 have fj := fun H d => dJobs_frz hj H d
 have rc := fun n d => dInts2_rb hc n d
 have rt := fun n d => dStops_rb ht n d
 have rj := fun n d => dJobs_rb hj n d
 have lc := dInts2_len hc
 have lt := dStops_len ht
 have lj := dJobs_len hj
 obtain ⟨cc1, cc2⟩ := dInts2_cells hc
 obtain ⟨ct1, ct2⟩ := dStops_cells ht
 obtain ⟨cj1, cj2⟩ := dJobs_cells hj
 have hn6 := hsh.njob
 have hFk : FindOk 7 s js [] (encV []) (encV bz.order) bz.order := ⟨hsh, by simp; omega, NowOk.nil js, rfl, rfl⟩
 have hfd := spFind_eq hc ht hj hFk
 rw [show js.length - ([] : List Int).length = js.length from rfl, ← best_find hsh] at hfd
 have hne := nevL_ne hsh
 have hbn := best_nil hsh
 generalize bestF s js = B at *
 have feb := fun H d => dInts_frz (dInts_encV B.order) H d
 have reb := fun n d => dInts_rb (dInts_encV B.order) n d
 obtain ⟨ceb1, ceb2⟩ := dInts_cells (dInts_encV B.order)
 change spFind 7 [.agg [I s.mach, c, t], j, .nils, .agg [.nils, I 0, I 0, .bool false]] = some (.agg [encV B.order, I B.sum, I B.last, .bool B.found]) at hfd
 refine answers_of hT (orcF_none rfl) ?_
 simp only [oo, om, op, og, ci, cl, c34]
 by_cases hs0 : B.sum = 0
 ·rw [if_pos hs0]
  have HH1 := zA h31 (zA h78 (zA h79 (zA fc (zA ft (zA fj (zA rc (zA rt (zA rj (zA lc (zA lt (zA lj (zA cc1 (zA cc2 (zA ct1 (zA ct2 (zA cj1 (zA cj2 (zA hfd (zA feb (zA reb (zA ceb1 (zA ceb2 hs0))))))))))))))))))))))
  refine zS ?_
  refine zR (zO (by simp [zC h31, zC h78, zC h79, -lenA, HH1]; rfl) ?_)
  simp only [zT, zB]
  refine zS ?_
  refine zS ?_
  refine zR (zO (by simp [zC h31, zC h78, zC h79, -lenA, HH1]; rfl) ?_)
  simp only [zT, zB]
  refine zS ?_
  refine zR (zO (by simp [zC h31, zC h78, zC h79, -lenA, HH1]; rfl) ?_)
  simp only [zT, zB]
  refine runs_cond (x := true) (by simp [hs0]) ?_
  refine zS ?_
  refine zR (zO (by simp [zC h31, zC h78, zC h79, -lenA, HH1]; rfl) ?_)
  simp only [zT, zB]
  refine runs_ret ?_
  simp [zC h31, zC h78, zC h79, -lenA, HH1, trim]
 ·rw [if_neg hs0]
  have hne2 := hne hs0
  have hs0b : (B.sum == 0) = false := by simp [hs0]
  have hjn : js ≠ [] := fun e => hs0 (hbn e)
  obtain ⟨rs, hrv, hrs⟩ := dJobs_rows hj
  have hrl := (optAll_at hrs).1
  obtain ⟨tt, rfl⟩ := rowsV_get hrv (k := 0) (by rw [hrl]; exact List.length_pos_iff.2 hjn)
  have hshl := shl_eq (n := (js.length : Int)) rfl hn6
  have hwu := W_u64 (n := (js.length : Int)) (by omega)
  obtain ⟨NN, hNN⟩ : ∃ NN : Nat, NN = 2 ^ js.length := ⟨_, rfl⟩
  have hNI : (2 : Int) ^ js.length = (NN : Int) := by rw [hNN]; exact (Int.natCast_pow 2 js.length).symm
  have hN64 : NN ≤ 64 := by rw [hNN]; exact Nat.le_trans (Nat.pow_le_pow_right (by decide) hn6) (by decide)
  rw [← hNN] at hne2 ⊢
  rw [hNI] at hshl
  have HH2 := zA h31 (zA h78 (zA h79 (zA fc (zA ft (zA fj (zA rc (zA rt (zA rj (zA lc (zA lt (zA lj (zA cc1 (zA cc2 (zA ct1 (zA ct2 (zA cj1 (zA cj2 (zA hfd (zA feb (zA reb (zA ceb1 (zA ceb2 (zA hs0b (zA hshl hwu))))))))))))))))))))))))
  refine zS ?_
  refine zR (zO (by simp [zC h31, zC h78, zC h79, -lenA, HH2]; rfl) ?_)
  simp only [zT, zB]
  refine zS ?_
  refine zS ?_
  refine zR (zO (by simp [zC h31, zC h78, zC h79, -lenA, HH2]; rfl) ?_)
  simp only [zT, zB]
  refine zS ?_
  refine zR (zO (by simp [zC h31, zC h78, zC h79, -lenA, HH2]; rfl) ?_)
  simp only [zT, zB]
  refine runs_cond (x := false) (by simp [hs0b]) ?_
  refine zK ?_
  simp only [zT, zB]
  refine zS ?_
  refine zR (zO (by simp [zC h31, zC h78, zC h79, -lenA, HH2]; rfl) ?_)
  simp only [zT, zB]
  refine zS ?_
  refine zS ?_
  refine zR (zO (by simp [zC h31, zC h78, zC h79, -lenA, HH2]; rfl) ?_)
  simp only [zT, zB]
  refine zL ?_
  refine runs_loop_inv (fun mm σ => ∃ (k : Nat) (i : Int), i = k ∧ NN - k = mm ∧ k ≤ NN ∧ ((nevL s js k = [] ∧ σ = ⟨[.any, .vl rs tt, .ref 0 0 0, .any, .any, .any, .any, .sl 2 0 0 true, .bool false, I i, .any, .any, .any, .any, .any, .any, .any, .any, .any, .any, .any, .any, .any, .any, .any, .any, .any, .any, .any, .any, .any, .any, .any, .any, .any, .any, .any, .any, .any, .any, .any, .any, .any, .any, .any, .any, .any, .any, .any, .any, .any, .any, .any, .any, .any, .any, .any, .any, .any, .any, .any, .any, .any, .any, .any, .any], [some (.row 3 [[I s.mach, c, t]]), some (.row 4 [[encV B.order, I B.sum, I B.last, .bool B.found]]), some (.row 1 [])]⟩) ∨ (∃ mn : List Int, nevL s js k ≠ [] ∧ mn = minL (nevL s js k) ∧ σ = ⟨[.any, .vl rs tt, .ref 0 0 0, .any, .any, .any, .any, encV0 mn, .bool true, I i, .any, .any, .any, .any, .any, .any, .any, .any, .any, .any, .any, .any, .any, .any, .any, .any, .any, .any, .any, .any, .any, .any, .any, .any, .any, .any, .any, .any, .any, .any, .any, .any, .any, .any, .any, .any, .any, .any, .any, .any, .any, .any, .any, .any, .any, .any, .any, .any, .any, .any, .any, .any, .any, .any, .any, .any], [some (.row 3 [[I s.mach, c, t]]), some (.row 4 [[encV B.order, I B.sum, I B.last, .bool B.found]]), some (.row 1 [])]⟩))) ?_ (NN - 0) _ ⟨0, 0, rfl, rfl, Nat.zero_le _, .inl ⟨rfl, by simp⟩⟩
  rintro mm σ ⟨k, i, hik, rfl, hkl, ⟨hac0, rfl⟩ | ⟨mn, hac, hmn, rfl⟩⟩
  ·refine zS ?_
   refine zS ?_
   refine zR (zO (by simp [zC h31, zC h78, zC h79, -lenA, HH2]; rfl) ?_)
   simp only [zT, zB]
   refine runs_cond_split (x := decide (i < (NN : Int))) (by simp) (fun hlt => ?_) (fun hlt => ?_)
   ·have hlt2 := of_decide_eq_true hlt
    have hkN : k < NN := by omega
    have hi0 : 0 ≤ i := by omega
    have hwi : W .i64 (i + 1) = i + 1 := W_small (by omega)
    have hsm := some_eq (tt := tt) hrs hn6 (st := i) (by omega)
    have hj2 := dJobs_encR0 (optAll_in i rs js 0 hrs)
    have hsh2 := shop_in hsh i
    have hn62 := hsh2.njob
    have hFk2 : FindOk 7 s (inSet i 0 js) [] (encV []) (encV bz.order) bz.order := ⟨hsh2, by simp; omega, NowOk.nil _, rfl, rfl⟩
    have hfd2 := spFind_eq hc ht hj2 hFk2
    rw [show (inSet i 0 js).length - ([] : List Int).length = (inSet i 0 js).length from rfl, ← best_find hsh2] at hfd2
    have hst := nevL_sub (s := s) (js := js) k
    have hbd : badB s js (k : Int) = decide (0 < (bestF s (inSet i 0 js)).sum) := by rw [hik]; rfl
    rw [hbd, ← hik] at hst
    have hnul := numL_len i js.length
    generalize encR0 (inSet i 0 rs) = je at *
    generalize bestF s (inSet i 0 js) = B2 at *
    generalize numL i js.length = nu at *
    change spFind 7 [.agg [I s.mach, c, t], je, .nils, .agg [.nils, I 0, I 0, .bool false]] = some (.agg [encV B2.order, I B2.sum, I B2.last, .bool B2.found]) at hfd2
    have fj2 := fun H d => dJobs_frz hj2 H d
    have rj2 := fun n d => dJobs_rb hj2 n d
    obtain ⟨cj3, cj4⟩ := dJobs_cells hj2
    have fb2 := fun H d => dInts_frz (dInts_encV B2.order) H d
    have rb2 := fun n d => dInts_rb (dInts_encV B2.order) n d
    obtain ⟨cb3, cb4⟩ := dInts_cells (dInts_encV B2.order)
    have fn2 := fun H d => dInts_frz (dInts_encV0 nu) H d
    have rn2 := fun n d => dInts_rb (dInts_encV0 nu) n d
    have ln2 := dInts_len (dInts_encV0 nu)
    obtain ⟨cn3, cn4⟩ := dInts_cells (dInts_encV0 nu)
    have HH3 := zA hi0 (zA hwi (zA hsm (zA hfd2 (zA fj2 (zA rj2 (zA cj3 (zA cj4 (zA fb2 (zA rb2 (zA cb3 (zA cb4 (zA fn2 (zA rn2 (zA ln2 (zA cn3 cn4)))))))))))))))
    refine zK ?_
    simp only [zT, zB]
    refine zS ?_
    refine zL ?_
    refine zS ?_
    refine zR (zO (by simp [zC h31, zC h78, zC h79, -lenA, HH2, HH3]; rfl) ?_)
    simp only [zT, zB]
    refine zS ?_
    refine zS ?_
    refine zR (zO (by simp [zC h31, zC h78, zC h79, -lenA, HH2, HH3]; rfl) ?_)
    simp only [zT, zB]
    refine runs_cond (x := false) (by simp) ?_
    refine zK ?_
    simp only [zT, zB]
    refine zS ?_
    refine zR (zO (by simp [zC h31, zC h78, zC h79, -lenA, HH2, HH3]; rfl) ?_)
    simp only [zT, zB]
    refine zS ?_
    refine zR (zO (by simp [zC h31, zC h78, zC h79, -lenA, HH2, HH3]; rfl) ?_)
    simp only [zT, zB]
    refine runs_cond_split (x := decide (0 < B2.sum)) (by simp) (fun hz => ?_) (fun hz => ?_)
    ·rw [if_pos hz] at hst
     refine zR (zO (by simp [zC h31, zC h78, zC h79, -lenA, HH2, HH3]; rfl) ?_)
     simp only [zT, zB]
     refine zR (zO (by simp [zC h31, zC h78, zC h79, -lenA, HH2, HH3]; rfl) ?_)
     simp only [zT, zB]
     have hmm : minL (nevL s js (k + 1)) = nu := by rw [hst, hac0]; rfl
     exact ⟨NN - (k + 1), by omega, k + 1, i + 1, by omega, rfl, by omega, .inr ⟨nu, by rw [hst]; simp, hmm.symm, by simp [trim, zC h31, zC h78, zC h79, -lenA, HH2, HH3]⟩⟩
    ·rw [if_neg (by rw [hz]; simp), List.append_nil] at hst
     refine zK ?_
     simp only [zT, zB]
     refine zR (zO (by simp [zC h31, zC h78, zC h79, -lenA, HH2, HH3]; rfl) ?_)
     simp only [zT, zB]
     exact ⟨NN - (k + 1), by omega, k + 1, i + 1, by omega, rfl, by omega, .inl ⟨by rw [hst]; exact hac0, by simp [trim, zC h31, zC h78, zC h79, -lenA, HH2, HH3]⟩⟩
   ·have hx1 := of_decide_eq_false hlt
    have hkE : k = NN := by omega
    subst hkE
    exact absurd hac0 hne2
  ·refine zS ?_
   refine zS ?_
   refine zR (zO (by simp [zC h31, zC h78, zC h79, -lenA, HH2]; rfl) ?_)
   simp only [zT, zB]
   refine runs_cond_split (x := decide (i < (NN : Int))) (by simp) (fun hlt => ?_) (fun hlt => ?_)
   ·have hlt2 := of_decide_eq_true hlt
    have hkN : k < NN := by omega
    have hi0 : 0 ≤ i := by omega
    have hwi : W .i64 (i + 1) = i + 1 := W_small (by omega)
    have hsm := some_eq (tt := tt) hrs hn6 (st := i) (by omega)
    have hj2 := dJobs_encR0 (optAll_in i rs js 0 hrs)
    have hsh2 := shop_in hsh i
    have hn62 := hsh2.njob
    have hFk2 : FindOk 7 s (inSet i 0 js) [] (encV []) (encV bz.order) bz.order := ⟨hsh2, by simp; omega, NowOk.nil _, rfl, rfl⟩
    have hfd2 := spFind_eq hc ht hj2 hFk2
    rw [show (inSet i 0 js).length - ([] : List Int).length = (inSet i 0 js).length from rfl, ← best_find hsh2] at hfd2
    have hst := nevL_sub (s := s) (js := js) k
    have hbd : badB s js (k : Int) = decide (0 < (bestF s (inSet i 0 js)).sum) := by rw [hik]; rfl
    rw [hbd, ← hik] at hst
    have hnul := numL_len i js.length
    generalize encR0 (inSet i 0 rs) = je at *
    generalize bestF s (inSet i 0 js) = B2 at *
    generalize numL i js.length = nu at *
    change spFind 7 [.agg [I s.mach, c, t], je, .nils, .agg [.nils, I 0, I 0, .bool false]] = some (.agg [encV B2.order, I B2.sum, I B2.last, .bool B2.found]) at hfd2
    have fj2 := fun H d => dJobs_frz hj2 H d
    have rj2 := fun n d => dJobs_rb hj2 n d
    obtain ⟨cj3, cj4⟩ := dJobs_cells hj2
    have fb2 := fun H d => dInts_frz (dInts_encV B2.order) H d
    have rb2 := fun n d => dInts_rb (dInts_encV B2.order) n d
    obtain ⟨cb3, cb4⟩ := dInts_cells (dInts_encV B2.order)
    have fn2 := fun H d => dInts_frz (dInts_encV0 nu) H d
    have rn2 := fun n d => dInts_rb (dInts_encV0 nu) n d
    have ln2 := dInts_len (dInts_encV0 nu)
    obtain ⟨cn3, cn4⟩ := dInts_cells (dInts_encV0 nu)
    have hml : mn.length ≤ js.length := by rw [hmn]; exact nevL_mem s js k _ (minL_mem hac)
    have fm2 := fun H d => dInts_frz (dInts_encV0 mn) H d
    have rm2 := fun n d => dInts_rb (dInts_encV0 mn) n d
    have lm2 := dInts_len (dInts_encV0 mn)
    by_cases hA : mn.length < nu.length
    ·have hA2 : ((mn.length : Int)) < (nu.length : Int) := by omega
     have hlc : ¬ cmpN nu mn < 0 := skip_iff.1 (by unfold skipB; simp [hA, hA2])
     have hmm : minL (nevL s js (k + 1)) = mn := by
      rw [hst]
      split
      ·rw [minL_snoc hac, ← hmn]
       unfold minS
       rw [if_neg hlc]
      ·rw [List.append_nil, hmn]
     have HH4 := zA hi0 (zA hwi (zA hsm (zA hfd2 (zA fj2 (zA rj2 (zA cj3 (zA cj4 (zA fb2 (zA rb2 (zA cb3 (zA cb4 (zA fn2 (zA rn2 (zA ln2 (zA cn3 (zA cn4 (zA fm2 (zA rm2 (zA lm2 (zA hA hA2))))))))))))))))))))
     refine zK ?_
     simp only [zT, zB]
     refine zS ?_
     refine zL ?_
     refine zS ?_
     refine zR (zO (by simp [zC h31, zC h78, zC h79, -lenA, HH2, HH4]; rfl) ?_)
     simp only [zT, zB]
     refine zS ?_
     refine zS ?_
     refine zR (zO (by simp [zC h31, zC h78, zC h79, -lenA, HH2, HH4]; rfl) ?_)
     simp only [zT, zB]
     refine runs_cond (x := true) (by simp [hA, hA2]) ?_
     refine runs_exit ?_
     simp only [zT, zB, if_true, if_false, reduceIte, Nat.reduceEqDiff, Nat.succ_ne_zero, Nat.one_ne_zero, Nat.zero_ne_one]
     refine zR (zO (by simp [zC h31, zC h78, zC h79, -lenA, HH2, HH4]; rfl) ?_)
     simp only [zT, zB]
     exact ⟨NN - (k + 1), by omega, k + 1, i + 1, by omega, rfl, by omega, .inr ⟨mn, by rw [hst]; intro e; exact hac (List.append_eq_nil_iff.1 e).1, hmm.symm, by simp [trim, zC h31, zC h78, zC h79, -lenA, HH2, HH4]⟩⟩
    ·have hA2 : ¬ ((mn.length : Int)) < (nu.length : Int) := by omega
     by_cases hBq : nu.length = mn.length
     ·have hB2 : ((nu.length : Int) == (mn.length : Int)) = true := by rw [hBq]; simp
      have hls : oLess [encV0 nu, encV0 mn] = some (.bool (lessI nu mn)) := by simp only [oLess, dInts_encV0]; rw [if_pos ⟨hBq, by omega⟩]
      rcases hC : lessI nu mn with _ | _
      ·have hlc : ¬ cmpN nu mn < 0 := skip_iff.1 (by unfold skipB; simp [hA, hBq, hC])
       have hmm : minL (nevL s js (k + 1)) = mn := by
        rw [hst]
        split
        ·rw [minL_snoc hac, ← hmn]
         unfold minS
         rw [if_neg hlc]
        ·rw [List.append_nil, hmn]
       have HH5 := zA hi0 (zA hwi (zA hsm (zA hfd2 (zA fj2 (zA rj2 (zA cj3 (zA cj4 (zA fb2 (zA rb2 (zA cb3 (zA cb4 (zA fn2 (zA rn2 (zA ln2 (zA cn3 (zA cn4 (zA fm2 (zA rm2 (zA lm2 (zA hA (zA hA2 (zA hB2 (zA hls hC)))))))))))))))))))))))
       refine zK ?_
       simp only [zT, zB]
       refine zS ?_
       refine zL ?_
       refine zS ?_
       refine zR (zO (by simp [zC h31, zC h78, zC h79, -lenA, HH2, HH5]; rfl) ?_)
       simp only [zT, zB]
       refine zS ?_
       refine zS ?_
       refine zR (zO (by simp [zC h31, zC h78, zC h79, -lenA, HH2, HH5]; rfl) ?_)
       simp only [zT, zB]
       refine runs_cond (x := true) (by simp [hA, hBq, hC]) ?_
       refine runs_exit ?_
       simp only [zT, zB, if_true, if_false, reduceIte, Nat.reduceEqDiff, Nat.succ_ne_zero, Nat.one_ne_zero, Nat.zero_ne_one]
       refine zR (zO (by simp [zC h31, zC h78, zC h79, -lenA, HH2, HH5]; rfl) ?_)
       simp only [zT, zB]
       exact ⟨NN - (k + 1), by omega, k + 1, i + 1, by omega, rfl, by omega, .inr ⟨mn, by rw [hst]; intro e; exact hac (List.append_eq_nil_iff.1 e).1, hmm.symm, by simp [trim, zC h31, zC h78, zC h79, -lenA, HH2, HH5]⟩⟩
      ·have hlc : cmpN nu mn < 0 := Classical.not_not.1 fun h => by have := skip_iff.2 h; unfold skipB at this; simp [hA, hBq, hC] at this
       have HH6 := zA hi0 (zA hwi (zA hsm (zA hfd2 (zA fj2 (zA rj2 (zA cj3 (zA cj4 (zA fb2 (zA rb2 (zA cb3 (zA cb4 (zA fn2 (zA rn2 (zA ln2 (zA cn3 (zA cn4 (zA fm2 (zA rm2 (zA lm2 (zA hA (zA hA2 (zA hB2 (zA hls hC)))))))))))))))))))))))
       refine zK ?_
       simp only [zT, zB]
       refine zS ?_
       refine zL ?_
       refine zS ?_
       refine zR (zO (by simp [zC h31, zC h78, zC h79, -lenA, HH2, HH6]; rfl) ?_)
       simp only [zT, zB]
       refine zS ?_
       refine zS ?_
       refine zR (zO (by simp [zC h31, zC h78, zC h79, -lenA, HH2, HH6]; rfl) ?_)
       simp only [zT, zB]
       refine runs_cond (x := false) (by simp [hA, hBq, hC]) ?_
       refine zK ?_
       simp only [zT, zB]
       refine zS ?_
       refine zR (zO (by simp [zC h31, zC h78, zC h79, -lenA, HH2, HH6]; rfl) ?_)
       simp only [zT, zB]
       refine zS ?_
       refine zR (zO (by simp [zC h31, zC h78, zC h79, -lenA, HH2, HH6]; rfl) ?_)
       simp only [zT, zB]
       refine runs_cond_split (x := decide (0 < B2.sum)) (by simp) (fun hz => ?_) (fun hz => ?_)
       ·rw [if_pos hz] at hst
        refine zR (zO (by simp [zC h31, zC h78, zC h79, -lenA, HH2, HH6]; rfl) ?_)
        simp only [zT, zB]
        refine zR (zO (by simp [zC h31, zC h78, zC h79, -lenA, HH2, HH6]; rfl) ?_)
        simp only [zT, zB]
        have hmm : minL (nevL s js (k + 1)) = nu := by
         rw [hst, minL_snoc hac, ← hmn]
         unfold minS
         rw [if_pos hlc]
        exact ⟨NN - (k + 1), by omega, k + 1, i + 1, by omega, rfl, by omega, .inr ⟨nu, by rw [hst]; simp, hmm.symm, by simp [trim, zC h31, zC h78, zC h79, -lenA, HH2, HH6]⟩⟩
       ·rw [if_neg (by rw [hz]; simp), List.append_nil] at hst
        refine zK ?_
        simp only [zT, zB]
        refine zR (zO (by simp [zC h31, zC h78, zC h79, -lenA, HH2, HH6]; rfl) ?_)
        simp only [zT, zB]
        exact ⟨NN - (k + 1), by omega, k + 1, i + 1, by omega, rfl, by omega, .inr ⟨mn, by rw [hst]; exact hac, by rw [hst]; exact hmn, by simp [trim, zC h31, zC h78, zC h79, -lenA, HH2, HH6]⟩⟩
     ·have hB2 : ((nu.length : Int) == (mn.length : Int)) = false := by simp; omega
      have hlc : cmpN nu mn < 0 := Classical.not_not.1 fun h => by have := skip_iff.2 h; unfold skipB at this; simp [hA, hBq] at this
      have HH7 := zA hi0 (zA hwi (zA hsm (zA hfd2 (zA fj2 (zA rj2 (zA cj3 (zA cj4 (zA fb2 (zA rb2 (zA cb3 (zA cb4 (zA fn2 (zA rn2 (zA ln2 (zA cn3 (zA cn4 (zA fm2 (zA rm2 (zA lm2 (zA hA (zA hA2 hB2)))))))))))))))))))))
      refine zK ?_
      simp only [zT, zB]
      refine zS ?_
      refine zL ?_
      refine zS ?_
      refine zR (zO (by simp [zC h31, zC h78, zC h79, -lenA, HH2, HH7]; rfl) ?_)
      simp only [zT, zB]
      refine zS ?_
      refine zS ?_
      refine zR (zO (by simp [zC h31, zC h78, zC h79, -lenA, HH2, HH7]; rfl) ?_)
      simp only [zT, zB]
      refine runs_cond (x := false) (by simp [hA, hBq]) ?_
      refine zK ?_
      simp only [zT, zB]
      refine zS ?_
      refine zR (zO (by simp [zC h31, zC h78, zC h79, -lenA, HH2, HH7]; rfl) ?_)
      simp only [zT, zB]
      refine zS ?_
      refine zR (zO (by simp [zC h31, zC h78, zC h79, -lenA, HH2, HH7]; rfl) ?_)
      simp only [zT, zB]
      refine runs_cond_split (x := decide (0 < B2.sum)) (by simp) (fun hz => ?_) (fun hz => ?_)
      ·rw [if_pos hz] at hst
       refine zR (zO (by simp [zC h31, zC h78, zC h79, -lenA, HH2, HH7]; rfl) ?_)
       simp only [zT, zB]
       refine zR (zO (by simp [zC h31, zC h78, zC h79, -lenA, HH2, HH7]; rfl) ?_)
       simp only [zT, zB]
       have hmm : minL (nevL s js (k + 1)) = nu := by
        rw [hst, minL_snoc hac, ← hmn]
        unfold minS
        rw [if_pos hlc]
       exact ⟨NN - (k + 1), by omega, k + 1, i + 1, by omega, rfl, by omega, .inr ⟨nu, by rw [hst]; simp, hmm.symm, by simp [trim, zC h31, zC h78, zC h79, -lenA, HH2, HH7]⟩⟩
      ·rw [if_neg (by rw [hz]; simp), List.append_nil] at hst
       refine zK ?_
       simp only [zT, zB]
       refine zR (zO (by simp [zC h31, zC h78, zC h79, -lenA, HH2, HH7]; rfl) ?_)
       simp only [zT, zB]
       exact ⟨NN - (k + 1), by omega, k + 1, i + 1, by omega, rfl, by omega, .inr ⟨mn, by rw [hst]; exact hac, by rw [hst]; exact hmn, by simp [trim, zC h31, zC h78, zC h79, -lenA, HH2, HH7]⟩⟩
   ·have hx1 := of_decide_eq_false hlt
    have hkE : k = NN := by omega
    subst hkE
    rw [← hmn]
    have fm2 := fun H d => dInts_frz (dInts_encV0 mn) H d
    have rm2 := fun n d => dInts_rb (dInts_encV0 mn) n d
    refine runs_exit ?_
    simp only [zT, zB, if_true, if_false, reduceIte, Nat.reduceEqDiff, Nat.succ_ne_zero, Nat.one_ne_zero, Nat.zero_ne_one]
    refine zS ?_
    refine zR (zO (by simp [zC h31, zC h78, zC h79, -lenA, HH2, fm2, rm2]; rfl) ?_)
    simp only [zT, zB]
    refine runs_ret ?_
    simp [zC h31, zC h78, zC h79, -lenA, HH2, fm2, rm2, trim]
noncomputable def BJ1 : Nat → Option CFn := updG BI5 78 [(451, [.slot 6, .slot 7])] []
theorem BJ1_ok : TabOk Tryz.prog GG BJ1 := tab_updG BI5_ok
noncomputable def BJ2_78 : Nat → Option CFn := upd BJ1 78 false (oSome)
theorem BJ2_78_ok : TabOk Tryz.prog GG BJ2_78 := tab_add mixed BJ1_ok fun args v ho => by
  unfold oSome at ho; split at ho <;> (try simp only [reduceCtorEq] at ho)
  rename_i rs tt st
  split at ho <;> (try simp only [reduceCtorEq] at ho)
  rename_i js hj
  split at ho <;> (try simp only [reduceCtorEq] at ho)
  rename_i hg
  simp only [Option.some.injEq] at ho
  subst ho
  exact a78 Tryz.prog BJ1 rfl rs tt js hj hg.1 st hg.2
noncomputable def BJ2_79 : Nat → Option CFn := upd BJ2_78 79 true (oLess)
theorem BJ2_79_ok : TabOk Tryz.prog GG BJ2_79 := tab_add mixed BJ2_78_ok fun args v ho => by
  unfold oLess at ho; split at ho <;> (try simp only [reduceCtorEq] at ho)
  rename_i x y
  split at ho <;> (try simp only [reduceCtorEq] at ho)
  rename_i xs ys hx hy
  split at ho <;> (try simp only [reduceCtorEq] at ho)
  rename_i hl
  simp only [Option.some.injEq] at ho
  subst ho
  exact a79 Tryz.prog BJ2_78 rfl x y xs ys hx hy hl
noncomputable def BJ2 : Nat → Option CFn := upd BJ2_79 34 false (oNevR)
theorem BJ2_ok : TabOk Tryz.prog GG BJ2 := tab_add mixed BJ2_79_ok fun args v ho => by
  unfold oNevR at ho; split at ho <;> (try simp only [reduceCtorEq] at ho)
  rename_i m c t j
  split at ho <;> (try simp only [reduceCtorEq] at ho)
  rename_i cs ts js hc ht hj
  split at ho <;> (try simp only [reduceCtorEq] at ho)
  rename_i hg
  simp only [Option.some.injEq] at ho
  subst ho
  exact a34 Tryz.prog BJ2_79 rfl rfl rfl rfl ⟨m, cs, ts⟩ js c t j hc ht hj hg
noncomputable def BJ : Nat → Option CFn := upd BJ2 33 false oNever
theorem BJ_ok : TabOk Tryz.prog GG BJ := tab_upd BJ2_ok never_good
theorem a5 (P : Program) (T : Nat → Option CFn) (hT : T 5 = some c5) (h14 : T 14 = some { c14 with frsh := true, orc := oLarge }) (h15 : T 15 = some { c15 with frsh := true, orc := oKn }) (h16 : T 16 = some { c16 with frsh := false, orc := oCopy }) (h17 : T 17 = some { c17 with frsh := false, orc := oJobs }) (h21 : T 21 = some { c21 with frsh := true, orc := oSame }) (h22 : T 22 = some { c22 with frsh := true, orc := oEqual }) (h23 : T 23 = some { c23 with frsh := true, orc := oIntsEq }) (h24 : T 24 = some { c24 with frsh := true, orc := oCheck }) (h33 : T 33 = some { c33 with body := annK [(51539608128, [.slot 9])] [] c33.body, frsh := false, orc := oNever }) (h34 : T 34 = some { c34 with frsh := false, orc := oNevR }) (s : FShop) (js : List FJob) (c t j : AVal) (hc : dInts2 c = some s.chg) (ht : dStops t = some s.stops) (hj : dJobs j = some js) : Answers P T 5 [.agg [I s.mach, c, t], j] [] fun v h => v = .bool true := by
 have fc := fun H d => dInts2_frz hc H d
 have ft := fun H d => dStops_frz ht H d
 have fj := fun H d => dJobs_frz hj H d
 have rc := fun n d => dInts2_rb hc n d
 have rt := fun n d => dStops_rb ht n d
 have rj := fun n d => dJobs_rb hj n d
 have lc := dInts2_len hc
 have lt := dStops_len ht
 have lj := dJobs_len hj
 obtain ⟨cc1, cc2⟩ := dInts2_cells hc
 obtain ⟨ct1, ct2⟩ := dStops_cells ht
 obtain ⟨cj1, cj2⟩ := dJobs_cells hj
 have hlg := large_eq hc ht hj 5
 refine answers_of hT (orcF_none rfl) ?_
 simp only [oo, om, op, og, ci, cl, c5]
 generalize hL : largeB s js 5 = bL at hlg
 rcases bL with _ | _
 ·have HH1 := zA h14 (zA h15 (zA h16 (zA h17 (zA h21 (zA h22 (zA h23 (zA h24 (zA h33 (zA h34 (zA fc (zA ft (zA fj (zA rc (zA rt (zA rj (zA lc (zA lt (zA lj (zA cc1 (zA cc2 (zA ct1 (zA ct2 (zA cj1 (zA cj2 hlg))))))))))))))))))))))))
  refine zS ?_
  refine zR (zO (by simp [zC h14, zC h15, zC h16, zC h17, zC h21, zC h22, zC h23, zC h24, zC h33, zC h34, -lenA, oKn, HH1]; rfl) ?_)
  simp only [zT, zB]
  refine zS ?_
  refine zS ?_
  refine zR (zO (by simp [zC h14, zC h15, zC h16, zC h17, zC h21, zC h22, zC h23, zC h24, zC h33, zC h34, -lenA, oKn, HH1]; rfl) ?_)
  simp only [zT, zB]
  refine runs_cond (x := false) (by simp) ?_
  obtain ⟨hsz, hk1, hk2, _, hst20⟩ := large_no hL
  have hcopy := copy_eq (m := s.mach) hc ht hk1
  have hwork := jobs_eq hj hk2
  have hc2 := dInts2_encC s.chg
  have ht2 := dStops_encT s.stops
  have hj2 := dJobs_encJ js
  generalize encC s.chg = c2 at *
  generalize encT s.stops = t2 at *
  generalize encJ js = j2 at *
  have hck0 := check_eq hc ht hj hsz
  have hsame := same_eq (m := s.mach) hc2 ht2 hc ht hk1
  have heq := equal_eq hj2 hj hk2
  have hnev := never_eq hc2 ht2 hj2 hsz
  have fcc := fun H d => dInts2_frz hc2 H d
  have rcc := fun n d => dInts2_rb hc2 n d
  have lcc := dInts2_len hc2
  obtain ⟨ccc1, ccc2⟩ := dInts2_cells hc2
  have ftt := fun H d => dStops_frz ht2 H d
  have rtt := fun n d => dStops_rb ht2 n d
  have ltt := dStops_len ht2
  obtain ⟨ctt1, ctt2⟩ := dStops_cells ht2
  have fjj := fun H d => dJobs_frz hj2 H d
  have rjj := fun n d => dJobs_rb hj2 n d
  have ljj := dJobs_len hj2
  obtain ⟨cjj1, cjj2⟩ := dJobs_cells hj2
  by_cases h0 : shopE s js = 0
  ·have hsh := shop_ok h0
   have hn6 := hsh.njob
   have hnr := nevR_eq hc ht hj hsh
   by_cases hs0 : (bestF s js).sum = 0
   ·have hbe : nevE s js = 7 := by unfold nevE; rw [if_pos h0, if_pos hs0]
    have hbv : nevV s js = .nils := by unfold nevV; rw [hbe, if_neg (by decide)]
    rw [hbe, hbv] at hnev
    rw [if_pos hs0] at hnr
    have HH2 := zA hcopy (zA hwork (zA hck0 (zA hsame (zA heq (zA fcc (zA rcc (zA lcc (zA ccc1 (zA ccc2 (zA ftt (zA rtt (zA ltt (zA ctt1 (zA ctt2 (zA fjj (zA rjj (zA ljj (zA cjj1 (zA cjj2 (zA hnev (zA h0 hnr)))))))))))))))))))))
    refine zK ?_
    simp only [zT, zB]
    refine zS ?_
    refine zR (zO (by simp [zC h14, zC h15, zC h16, zC h17, zC h21, zC h22, zC h23, zC h24, zC h33, zC h34, -lenA, oKn, HH1, HH2]; rfl) ?_)
    simp only [zT, zB]
    refine zS ?_
    refine zR (zO (by simp [zC h14, zC h15, zC h16, zC h17, zC h21, zC h22, zC h23, zC h24, zC h33, zC h34, -lenA, oKn, HH1, HH2]; rfl) ?_)
    simp only [zT, zB]
    refine zS ?_
    refine zS ?_
    refine zR (zO (by simp [zC h14, zC h15, zC h16, zC h17, zC h21, zC h22, zC h23, zC h24, zC h33, zC h34, -lenA, oKn, HH1, HH2]; rfl) ?_)
    simp only [zT, zB]
    refine runs_cond (x := false) (by simp) ?_
    refine zK ?_
    simp only [zT, zB]
    refine zS ?_
    refine zS ?_
    refine zR (zO (by simp [zC h14, zC h15, zC h16, zC h17, zC h21, zC h22, zC h23, zC h24, zC h33, zC h34, -lenA, oKn, HH1, HH2]; rfl) ?_)
    simp only [zT, zB]
    refine zS ?_
    refine zR (zO (by simp [zC h14, zC h15, zC h16, zC h17, zC h21, zC h22, zC h23, zC h24, zC h33, zC h34, -lenA, oKn, HH1, HH2]; rfl) ?_)
    simp only [zT, zB]
    refine runs_cond (x := false) (by simp) ?_
    refine zK ?_
    simp only [zT, zB]
    refine zS ?_
    refine zR (zO (by simp [zC h14, zC h15, zC h16, zC h17, zC h21, zC h22, zC h23, zC h24, zC h33, zC h34, -lenA, oKn, HH1, HH2]; rfl) ?_)
    simp only [zT, zB]
    refine zS ?_
    refine zS ?_
    refine zR (zO (by simp [zC h14, zC h15, zC h16, zC h17, zC h21, zC h22, zC h23, zC h24, zC h33, zC h34, -lenA, oKn, HH1, HH2]; rfl) ?_)
    simp only [zT, zB]
    refine runs_cond (x := true) (by simp) ?_
    refine zS ?_
    refine zR (zO (by simp [zC h14, zC h15, zC h16, zC h17, zC h21, zC h22, zC h23, zC h24, zC h33, zC h34, -lenA, oKn, HH1, HH2]; rfl) ?_)
    simp only [zT, zB]
    refine runs_ret ?_
    simp [zC h14, zC h15, zC h16, zC h17, zC h21, zC h22, zC h23, zC h24, zC h33, zC h34, -lenA, oKn, HH1, HH2]
   ·have hbe : nevE s js = 0 := by unfold nevE; rw [if_pos h0, if_neg hs0]
    have hbv : nevV s js = encV (minL (nevL s js (2 ^ js.length))) := by unfold nevV; rw [if_pos hbe]
    rw [hbe, hbv] at hnev
    rw [if_neg hs0] at hnr
    have hml := nevL_mem s js _ _ (minL_mem (nevL_ne hsh hs0))
    generalize minL (nevL s js (2 ^ js.length)) = mn at *
    have hin := intsEq_eq (dInts_encV mn) (dInts_encV0 mn) (by omega)
    have f1 := fun H d => dInts_frz (dInts_encV mn) H d
    have r1 := fun n d => dInts_rb (dInts_encV mn) n d
    have l1 := dInts_len (dInts_encV mn)
    have f2 := fun H d => dInts_frz (dInts_encV0 mn) H d
    have r2 := fun n d => dInts_rb (dInts_encV0 mn) n d
    have HH3 := zA hcopy (zA hwork (zA hck0 (zA hsame (zA heq (zA fcc (zA rcc (zA lcc (zA ccc1 (zA ccc2 (zA ftt (zA rtt (zA ltt (zA ctt1 (zA ctt2 (zA fjj (zA rjj (zA ljj (zA cjj1 (zA cjj2 (zA hnev (zA h0 (zA hnr (zA hin (zA f1 (zA r1 (zA l1 (zA f2 r2)))))))))))))))))))))))))))
    refine zK ?_
    simp only [zT, zB]
    refine zS ?_
    refine zR (zO (by simp [zC h14, zC h15, zC h16, zC h17, zC h21, zC h22, zC h23, zC h24, zC h33, zC h34, -lenA, oKn, HH1, HH3]; rfl) ?_)
    simp only [zT, zB]
    refine zS ?_
    refine zR (zO (by simp [zC h14, zC h15, zC h16, zC h17, zC h21, zC h22, zC h23, zC h24, zC h33, zC h34, -lenA, oKn, HH1, HH3]; rfl) ?_)
    simp only [zT, zB]
    refine zS ?_
    refine zS ?_
    refine zR (zO (by simp [zC h14, zC h15, zC h16, zC h17, zC h21, zC h22, zC h23, zC h24, zC h33, zC h34, -lenA, oKn, HH1, HH3]; rfl) ?_)
    simp only [zT, zB]
    refine runs_cond (x := false) (by simp) ?_
    refine zK ?_
    simp only [zT, zB]
    refine zS ?_
    refine zS ?_
    refine zR (zO (by simp [zC h14, zC h15, zC h16, zC h17, zC h21, zC h22, zC h23, zC h24, zC h33, zC h34, -lenA, oKn, HH1, HH3]; rfl) ?_)
    simp only [zT, zB]
    refine zS ?_
    refine zR (zO (by simp [zC h14, zC h15, zC h16, zC h17, zC h21, zC h22, zC h23, zC h24, zC h33, zC h34, -lenA, oKn, HH1, HH3]; rfl) ?_)
    simp only [zT, zB]
    refine runs_cond (x := false) (by simp) ?_
    refine zK ?_
    simp only [zT, zB]
    refine zS ?_
    refine zR (zO (by simp [zC h14, zC h15, zC h16, zC h17, zC h21, zC h22, zC h23, zC h24, zC h33, zC h34, -lenA, oKn, HH1, HH3]; rfl) ?_)
    simp only [zT, zB]
    refine zS ?_
    refine zS ?_
    refine zR (zO (by simp [zC h14, zC h15, zC h16, zC h17, zC h21, zC h22, zC h23, zC h24, zC h33, zC h34, -lenA, oKn, HH1, HH3]; rfl) ?_)
    simp only [zT, zB]
    refine runs_cond (x := false) (by simp) ?_
    refine zK ?_
    simp only [zT, zB]
    refine zS ?_
    refine zR (zO (by simp [zC h14, zC h15, zC h16, zC h17, zC h21, zC h22, zC h23, zC h24, zC h33, zC h34, -lenA, oKn, HH1, HH3]; rfl) ?_)
    simp only [zT, zB]
    refine runs_ret ?_
    simp [zC h14, zC h15, zC h16, zC h17, zC h21, zC h22, zC h23, zC h24, zC h33, zC h34, -lenA, oKn, HH1, HH3]
  ·have hbe : nevE s js = shopE s js := by unfold nevE; rw [if_neg h0]
   have hbv : nevV s js = .nils := by unfold nevV; rw [hbe, if_neg h0]
   rw [hbe, hbv] at hnev
   have h0b : (shopE s js == 0) = false := by simp [h0]
   have HH4 := zA hcopy (zA hwork (zA hck0 (zA hsame (zA heq (zA fcc (zA rcc (zA lcc (zA ccc1 (zA ccc2 (zA ftt (zA rtt (zA ltt (zA ctt1 (zA ctt2 (zA fjj (zA rjj (zA ljj (zA cjj1 (zA cjj2 (zA hnev (zA h0 h0b)))))))))))))))))))))
   refine zK ?_
   simp only [zT, zB]
   refine zS ?_
   refine zR (zO (by simp [zC h14, zC h15, zC h16, zC h17, zC h21, zC h22, zC h23, zC h24, zC h33, zC h34, -lenA, oKn, HH1, HH4]; rfl) ?_)
   simp only [zT, zB]
   refine zS ?_
   refine zR (zO (by simp [zC h14, zC h15, zC h16, zC h17, zC h21, zC h22, zC h23, zC h24, zC h33, zC h34, -lenA, oKn, HH1, HH4]; rfl) ?_)
   simp only [zT, zB]
   refine zS ?_
   refine zS ?_
   refine zR (zO (by simp [zC h14, zC h15, zC h16, zC h17, zC h21, zC h22, zC h23, zC h24, zC h33, zC h34, -lenA, oKn, HH1, HH4]; rfl) ?_)
   simp only [zT, zB]
   refine runs_cond (x := false) (by simp) ?_
   refine zK ?_
   simp only [zT, zB]
   refine zS ?_
   refine zS ?_
   refine zR (zO (by simp [zC h14, zC h15, zC h16, zC h17, zC h21, zC h22, zC h23, zC h24, zC h33, zC h34, -lenA, oKn, HH1, HH4]; rfl) ?_)
   simp only [zT, zB]
   refine zS ?_
   refine zR (zO (by simp [zC h14, zC h15, zC h16, zC h17, zC h21, zC h22, zC h23, zC h24, zC h33, zC h34, -lenA, oKn, HH1, HH4]; rfl) ?_)
   simp only [zT, zB]
   refine runs_cond (x := true) (by simp [h0]) ?_
   refine zS ?_
   refine zR (zO (by simp [zC h14, zC h15, zC h16, zC h17, zC h21, zC h22, zC h23, zC h24, zC h33, zC h34, -lenA, oKn, HH1, HH4]; rfl) ?_)
   simp only [zT, zB]
   refine runs_ret ?_
   simp [zC h14, zC h15, zC h16, zC h17, zC h21, zC h22, zC h23, zC h24, zC h33, zC h34, -lenA, oKn, HH1, HH4]
 ·have HH5 := zA h14 (zA h15 (zA h16 (zA h17 (zA h21 (zA h22 (zA h23 (zA h24 (zA h33 (zA h34 (zA fc (zA ft (zA fj (zA rc (zA rt (zA rj (zA lc (zA lt (zA lj (zA cc1 (zA cc2 (zA ct1 (zA ct2 (zA cj1 (zA cj2 hlg))))))))))))))))))))))))
  refine zS ?_
  refine zR (zO (by simp [zC h14, zC h15, zC h16, zC h17, zC h21, zC h22, zC h23, zC h24, zC h33, zC h34, -lenA, oKn, HH5]; rfl) ?_)
  simp only [zT, zB]
  refine zS ?_
  refine zS ?_
  refine zR (zO (by simp [zC h14, zC h15, zC h16, zC h17, zC h21, zC h22, zC h23, zC h24, zC h33, zC h34, -lenA, oKn, HH5]; rfl) ?_)
  simp only [zT, zB]
  refine runs_cond (x := true) (by simp) ?_
  refine zS ?_
  refine zR (zO (by simp [zC h14, zC h15, zC h16, zC h17, zC h21, zC h22, zC h23, zC h24, zC h33, zC h34, -lenA, oKn, HH5]; rfl) ?_)
  simp only [zT, zB]
  refine runs_ret ?_
  simp [zC h14, zC h15, zC h16, zC h17, zC h21, zC h22, zC h23, zC h24, zC h33, zC h34, -lenA, oKn, HH5]
theorem law5 (s : FShop) (js : List FJob) (c t j : AVal) (hc : dInts2 c = some s.chg) (ht : dStops t = some s.stops) (hj : dJobs j = some js) : Answers Tryz.prog BJ 5 [.agg [I s.mach, c, t], j] [] fun v h => v = .bool true :=
  a5 Tryz.prog BJ rfl rfl rfl rfl rfl rfl rfl rfl rfl rfl rfl s js c t j hc ht hj
end
end
end Go.Proofs.YtjjapdagllclkaaGreat.Tab
