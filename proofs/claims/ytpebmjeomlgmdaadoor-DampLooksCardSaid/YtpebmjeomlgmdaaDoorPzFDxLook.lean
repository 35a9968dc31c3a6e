/- Contracts of damp: Look of the reference, its law. No condition. -/
import Derived.Test.YtpebmjeomlgmdaaDoorPzEDx
set_option linter.unusedSimpArgs false
set_option linter.unusedVariables false
namespace Go.Proofs.YtpebmjeomlgmdaaDoor.Tab
open Go Go.Abs Go.Proofs
set_option maxRecDepth 100000
set_option maxHeartbeats 4000000
set_option linter.unusedSimpArgs false
set_option linter.unusedVariables false
noncomputable section
attribute [local simp] Yv Ye Xo Xp YC Yy Xq YJ YV Yp Zf orcF Xj YI Xl Xh YH Yn rb_vl rb_pv Xf YG YF YE Xk Xg Xi rb_sl rb_fn slE XC YX Yd ZG Xs List.range_succ List.range_zero List.range'_succ List.range'_zero ZX ZV Zz ZZ ZJ ZN YZ ZU dop CV.ev Yf Zu ZC YP XX Yg ZS ZE Zq Out.v Xr List.replicate_succ zT zB arI ZF Abs.rowAt Xe allV toV toC ofV ofC Builtin.min_ Builtin.min2 Builtin.max_ Builtin.max2 Xm Xn resA XU Xb ZW Yk Yl Yj Zb
section
attribute [local simp] ZY ZK YL YD XN Xc disj YN XS YO ZO YQ news eqB YU eqA YB YW toCs ofCs stA Ym ZL Yi dI1 dI2 dI3 dI5 elt
attribute [local simp] st_any st_und st_agg st_tup XH st_int XE st_ref st_pv XD st_sl st_vl XF st_mp st_fn XG st_yld co_any co_und co_agg co_tup XM co_int XJ co_ref co_pv XI co_sl co_vl XK co_mp co_fn XL co_yld
attribute [local simp] Yq Zo lim lop Yr rbB_row
def leftN (cs : Cs) (S : List Nat) (a b : Nat) : Nat := (S.filter fun s => explN cs (Zr s) a b).length
theorem leftN_succ {cs : Cs} {S : List Nat} {a b k : Nat} (h : k < S.length) : leftN cs (S.take (k + 1)) a b = leftN cs (S.take k) a b + (if explN cs (Zr S[k]) a b = true then 1 else 0) := by
  unfold leftN
  rw [List.take_succ_eq_append_getElem h, List.filter_append, List.length_append]
  simp only [List.filter_cons, List.filter_nil]
  split <;> rfl
theorem leftN_len (cs : Cs) (S : List Nat) (a b : Nat) : leftN cs S a b ≤ S.length := List.length_filter_le _ _
theorem leftN_len' (cs : Cs) (S : List Nat) (a b k : Nat) : leftN cs (S.take k) a b ≤ k := Nat.le_trans (leftN_len _ _ _ _) (by rw [List.length_take]; omega)
def o73 : List Za → Option Za
  | [.agg [.int .u64 _, .int .u64 _, c], v, .agg [.int .u64 a, .int .u64 b]] => match YK c, Zs v with
    | some cs, some rs => match Zf dU rs with
      | some S => if cs.length ≤ 10 ∧ (∀ s ∈ S, s < 2 ^ cs.length) ∧ S.length ≤ 1000 ∧ (0 ≤ a ∧ a < 4096) ∧ (0 ≤ b ∧ b < 4096) then some (I (leftN cs S a.toNat b.toNat : Nat)) else none
      | none => none
    | _, _ => none
  | _ => none
theorem o73_eq {se mi : Int} {c v : Za} {cs : Cs} {S : List Nat} (hc : YK c = some cs) (hv : Zs v = some (S.map rU)) (hn : cs.length ≤ 10) (hS : ∀ s ∈ S, s < 2 ^ cs.length) (hl : S.length ≤ 1000) {a b : Nat} (h1 : a < 4096) (h2 : b < 4096) : o73 [.agg [.int .u64 se, .int .u64 mi, c], v, .agg [.int .u64 (a : Nat), .int .u64 (b : Nat)]] = some (I (leftN cs S a b : Nat)) := by
  have hU : Zf dU (S.map rU) = some S := dU_self fun x hx => by have := hS x hx; have := two_le hn; omega
  simp only [o73, hc, hv, hU]; rw [if_pos ⟨hn, hS, hl, by omega, by omega⟩]; simp only [Int.toNat_natCast]
theorem a73 (P : Program) (T : Nat → Option CFn) (hT : T 73 = some c73) (h94 : T 94 = some { c94 with frsh := true, orc := o94 }) (se mi : Int) (cs : Cs) (c v : Za) (S : List Nat) (hc : YK c = some cs) (hv : Zs v = some (S.map rU)) (hn : cs.length ≤ 10) (hsn : ∀ s ∈ S, s < 2 ^ cs.length) (hl : S.length ≤ 1000) (a b : Nat) (h1 : a < 4096) (h2 : b < 4096) : Zn P T 73 [.agg [.int .u64 se, .int .u64 mi, c], v, .agg [.int .u64 (a : Nat), .int .u64 (b : Nat)]] [] fun v h => frz true h 5 v = some (I (leftN cs S a b : Nat)) := by
 have hcr := (XR hc).1
 have lc := Zw hcr
 have rc := fun n d => ZH hcr n d
 have fc := fun H d => Zt hcr H d
 obtain ⟨cc1, cc2⟩ := Zp hcr
 have lv := Zw hv
 rw [List.length_map] at lv
 have rv := fun n d => ZH hv n d
 have fv := fun H d => Zt hv H d
 obtain ⟨cv1, cv2⟩ := Zp hv
 refine Zj hT (Zk rfl) ?_
 simp only [oo, om, op, og, ci, cl, c73]
 have HH1 := zA h94 (zA rc (zA fc (zA cc1 (zA cc2 (zA lv (zA rv (zA fv (zA cv1 cv2))))))))
 refine zS ?_
 refine zR (zO (by simp [zC h94, -Zb, HH1]; rfl) ?_)
 simp only [zT, zB]
 refine zS ?_
 refine zS ?_
 refine zR (zO (by simp [zC h94, -Zb, HH1]; rfl) ?_)
 simp only [zT, zB]
 refine zL ?_
 refine Zy (fun m σ => ∃ (k : Nat) (i : Int) (N : Int), i = k ∧ S.length - k = m ∧ k ≤ S.length ∧ N = (leftN cs (S.take k) a b : Nat) ∧ σ = ⟨[.any, .any, .any, .ref 0 0 0, .any, .ref 1 0 0, I N, .any, .any, v, I S.length, I i, .any, .any, .any, .any, .any, .any, .any, .any, .any, .any, .any], [some (.row 3 [[.int .u64 se, .int .u64 mi, c]]), some (.row 2 [[.int .u64 (a : Nat), .int .u64 (b : Nat)]])]⟩) ?_ (S.length - 0) _ ⟨0, 0, 0, rfl, rfl, Nat.zero_le _, rfl, by simp⟩
 rintro m σ ⟨k, i, N, hik, rfl, hkl, hN, rfl⟩
 refine zS ?_
 refine zR (zO (by simp [zC h94, -Zb, HH1]; rfl) ?_)
 simp only [zT, zB]
 refine zS ?_
 refine Ze (x := decide (i < (S.length : Int))) (by simp) (fun hlt => ?_) (fun hlt => ?_)
 ·have hlt := of_decide_eq_true hlt
  have hk0 : k < S.length := by omega
  obtain ⟨t1, rfl⟩ := Yz hv (k := k) (by simpa using hk0)
  have hi0 : 0 ≤ i := by omega
  have htn : i.toNat = k := by omega
  have hwi : W .i64 (i + 1) = i + 1 := ZD (by omega)
  have hsb := hsn _ (List.getElem_mem hk0)
  have e94 := o94_eq (se := se) (mi := mi) hc (s := S[k]) ⟨hn, hsb⟩ h1 h2
  have hNs := leftN_succ (cs := cs) (a := a) (b := b) hk0
  have hNl := leftN_len' cs S a b k
  have hwN : W .i64 (N + 1) = N + 1 := ZD (by omega)
  have g1 : (S.map rU)[k]? = some (rU S[k]) := by rw [List.getElem?_map, List.getElem?_eq_getElem hk0]; rfl
  have g2 : ∀ h, (S.map rU)[k]'h = rU S[k] := fun h => by simp
  generalize explN cs (Zr S[k]) a b = B at *
  have hru : rU S[k] = [.int .u64 (S[k] : Nat)] := rfl
  generalize ((S[k] : Nat) : Int) = xv at *
  generalize rU S[k] = rx0 at *
  subst hru
  cases B
  ·rw [if_neg (by simp)] at hNs
   have HH2 := zA hi0 (zA htn (zA hk0 (zA hwi (zA hwN (zA g1 (zA g2 e94))))))
   refine zK ?_
   simp only [zT, zB]
   refine zS ?_
   refine zL ?_
   refine zS ?_
   refine zR (zO (by simp [zC h94, -Zb, HH1, -List.getElem?_map, -List.getElem_map, HH2]; rfl) ?_)
   simp only [zT, zB]
   refine zS ?_
   refine zR (zO (by simp [zC h94, -Zb, HH1, -List.getElem?_map, -List.getElem_map, HH2]; rfl) ?_)
   simp only [zT, zB]
   refine Zc (x := false) (by simp) ?_
   refine zK ?_
   simp only [zT, zB]
   refine zR (zO (by simp [zC h94, -Zb, HH1, -List.getElem?_map, -List.getElem_map, HH2]; rfl) ?_)
   simp only [zT, zB]
   exact ⟨S.length - (k + 1), by omega, k + 1, i + 1, N, by omega, rfl, by omega, by omega, by simp [zC h94, -Zb, HH1, -List.getElem?_map, -List.getElem_map, HH2]⟩
  ·rw [if_pos rfl] at hNs
   have HH3 := zA hi0 (zA htn (zA hk0 (zA hwi (zA hwN (zA g1 (zA g2 e94))))))
   refine zK ?_
   simp only [zT, zB]
   refine zS ?_
   refine zL ?_
   refine zS ?_
   refine zR (zO (by simp [zC h94, -Zb, HH1, -List.getElem?_map, -List.getElem_map, HH3]; rfl) ?_)
   simp only [zT, zB]
   refine zS ?_
   refine zR (zO (by simp [zC h94, -Zb, HH1, -List.getElem?_map, -List.getElem_map, HH3]; rfl) ?_)
   simp only [zT, zB]
   refine Zc (x := true) (by simp) ?_
   refine zR (zO (by simp [zC h94, -Zb, HH1, -List.getElem?_map, -List.getElem_map, HH3]; rfl) ?_)
   simp only [zT, zB]
   refine zR (zO (by simp [zC h94, -Zb, HH1, -List.getElem?_map, -List.getElem_map, HH3]; rfl) ?_)
   simp only [zT, zB]
   exact ⟨S.length - (k + 1), by omega, k + 1, i + 1, N + 1, by omega, rfl, by omega, by omega, by simp [zC h94, -Zb, HH1, -List.getElem?_map, -List.getElem_map, HH3]⟩
 ·have hlt := of_decide_eq_false hlt
  obtain rfl : k = S.length := by omega
  rw [List.take_length] at hN
  rw [← hN]
  refine Zl ?_
  simp only [zT, zB, if_true, if_false, reduceIte, Nat.reduceEqDiff, Nat.succ_ne_zero, Nat.one_ne_zero, Nat.zero_ne_one]
  refine zS ?_
  refine zR (zO (by simp [zC h94, -Zb, HH1]; rfl) ?_)
  simp only [zT, zB]
  refine Zd ?_
  simp [zC h94, -Zb, HH1]
def DQ1 : Nat → Option CFn := upd DP3 73 true (o73)
theorem DQ1_ok : Zv Tryd.prog GG DQ1 := ZA mixed DP3_ok fun args v ho => by
  unfold o73 at ho; split at ho <;> (try simp only [reduceCtorEq] at ho)
  rename_i se mi c v a b
  split at ho <;> (try simp only [reduceCtorEq] at ho)
  rename_i cs rs hc hv
  split at ho <;> (try simp only [reduceCtorEq] at ho)
  rename_i S hS
  split at ho <;> (try simp only [reduceCtorEq] at ho)
  rename_i hg
  simp only [Option.some.injEq] at ho
  subst ho
  obtain ⟨an, rfl⟩ : ∃ s : Nat, a = s := ⟨a.toNat, by omega⟩
  obtain ⟨bn, rfl⟩ : ∃ s : Nat, b = s := ⟨b.toNat, by omega⟩
  simp only [Int.toNat_natCast]
  exact a73 Tryd.prog DP3 rfl rfl se mi cs c v S hc (by rw [hv, Ys (enc := rU) dU_eq hS]) hg.1 hg.2.1 hg.2.2.1 an bn (by omega) (by omega)
def lookK (cnt : Nat → Nat) (skip : Nat → Bool) (tot : Nat) : Nat → Nat × Nat
  | 0 => (0, tot)
  | k + 1 => if skip k = true then lookK cnt skip tot k else if cnt k < (lookK cnt skip tot k).2 then (k, cnt k) else lookK cnt skip tot k
theorem lookK_le (cnt : Nat → Nat) (skip : Nat → Bool) (tot : Nat) : ∀ k, (lookK cnt skip tot k).2 ≤ tot ∧ (lookK cnt skip tot k).1 ≤ k
  | 0 => ⟨Nat.le_refl _, Nat.le_refl _⟩
  | k + 1 => by
    have := lookK_le cnt skip tot k
    simp only [lookK]
    split
    · omega
    · split
      · simp only; omega
      · omega
def cntN (cs : Cs) (S : List Nat) (se mi k : Nat) : Nat := max (leftN cs S (se ||| 2 ^ k) mi) (leftN cs S se (mi ||| 2 ^ k))
def lookN (cs : Cs) (S : List Nat) (se mi k : Nat) : Nat × Nat := lookK (cntN cs S se mi) (fun k => (se ||| mi).testBit k) S.length k
def valsS (S : List (Fin 1024)) : List Nat := S.map fun x : Fin 1024 => x.1
def lookR (l : List (Int × Int)) (se mi : Int) : Nat × Nat × Int :=
  if (Yb l se mi).1 = 0 then
    (if (lookN (toCs l) (valsS (Yb l se mi).2) se.toNat mi.toNat 12).2 = (Yb l se mi).2.length then (0, 0, 7) else ((lookN (toCs l) (valsS (Yb l se mi).2) se.toNat mi.toNat 12).1, (lookN (toCs l) (valsS (Yb l se mi).2) se.toNat mi.toNat 12).2, 0))
  else (0, 0, (Yb l se mi).1)
def lookV (r : Nat × Nat × Int) : Za := .tup [I (r.1 : Nat), I (r.2.1 : Nat), I r.2.2]
theorem openR_c {l : List (Int × Int)} {se mi : Int} (h : (Yb l se mi).1 = 0) : XT l se mi = 0 := by
  unfold Yb at h
  split at h
  · assumption
  · exact h
theorem openR_lt {l : List (Int × Int)} {se mi : Int} : ∀ x ∈ (Yb l se mi).2, x.1 < 2 ^ l.length := by
  intro x hx
  unfold Yb at hx
  split at hx
  · unfold smallR at hx
    split at hx
    · simp at hx
    · rename_i k e
      split at hx
      · simp at hx
      · simp only [sort_mem, finS, List.mem_map] at hx
        obtain ⟨s, hs, rfl⟩ := hx
        simp only [Xz, List.mem_filter, List.mem_range] at hs
        exact Nat.lt_of_le_of_lt (Nat.mod_le _ _) hs.1
  · simp at hx
theorem and_pow (a k : Nat) : (((a &&& 2 ^ k : Nat) : Int) != 0) = a.testBit k := by
  have hp : 0 < 2 ^ k := Nat.two_pow_pos k
  have e : a &&& 2 ^ k = if a.testBit k = true then 2 ^ k else 0 := by
    refine Nat.eq_of_testBit_eq fun i => ?_
    rw [Nat.testBit_and, Nat.testBit_two_pow]
    by_cases h : k = i
    · subst h
      cases a.testBit k <;> simp
    · cases h2 : a.testBit k <;> simp [h, Nat.testBit_two_pow]
  rw [e]
  generalize 2 ^ k = p at *
  cases a.testBit k with
  | false => simp
  | true => rw [if_pos rfl]; simp; omega
theorem pow12 {k : Nat} (h : k < 12) : 2 ^ k < 4096 := by
  have := Nat.pow_lt_pow_right (a := 2) (by decide) h; omega
def o36 : List Za → Option Za
  | [c, .int .i64 se, .int .i64 mi] => match Zs c with
    | some rs => match Zf dI2 rs with
      | some l => if l.length ≤ 1000 then some (lookV (lookR l se mi)) else none
      | none => none
    | none => none
  | _ => none
theorem o36_eq {c : Za} {l : List (Int × Int)} (hc : Zs c = some (l.map rQ)) (hl : l.length ≤ 1000) (se mi : Int) : o36 [c, I se, I mi] = some (lookV (lookR l se mi)) := by
  have := optAll_map (d := dI2) (enc := rQ) (fun _ => rfl) l
  simp only [o36, hc, this]; rw [if_pos hl]
theorem a36 (P : Program) (T : Nat → Option CFn) (hT : T 36 = some c36) (h67 : T 67 = some { c67 with frsh := false, orc := o67 }) (h73 : T 73 = some { c73 with frsh := true, orc := o73 }) (c : Za) (l : List (Int × Int)) (hc : Zs c = some (l.map rQ)) (hl : l.length ≤ 1000) (se mi : Int) : Zn P T 36 [c, I se, I mi] [] fun v h => frz false h 5 v = some (lookV (lookR l se mi)) := by
 have lx := Zw hc
 rw [List.length_map] at lx
 have rx := fun n d => ZH hc n d
 have fx := fun H d => Zt hc H d
 obtain ⟨cx1, cx2⟩ := Zp hc
 have h67e := o67_eq hc hl se mi
 refine Zj hT (Zk rfl) ?_
 simp only [oo, om, op, og, ci, cl, c36]
 by_cases hR : (Yb l se mi).1 = 0
 ·have hne := openR_ne hR
  have hlg := openR_long (l := l) (se := se) (mi := mi)
  have hlt := openR_lt (l := l) (se := se) (mi := mi)
  have hE := openR_c hR
  have hcomp := compE_ok hE
  rw [openA_ok hR, hR] at h67e
  have hko := toCs_ok hE
  have hcc : YK c = some (toCs l) := dCauses_of (by rw [hc, rq_rc hE]) hko.2
  rw [show lookR l se mi = _ from if_pos hR]
  obtain ⟨sn, rfl⟩ : ∃ s : Nat, se = s := ⟨se.toNat, by omega⟩
  obtain ⟨mn, rfl⟩ : ∃ s : Nat, mi = s := ⟨mi.toNat, by omega⟩
  simp only [Int.toNat_natCast]
  rw [← toCs_len l] at hlt
  generalize toCs l = cs at *
  generalize (Yb l sn mn).2 = S at *
  have hS : Zs (encS S) = some ((valsS S).map rU) := by rw [encS_rows]; unfold valsS; rw [List.map_map]; rfl
  have hvl : (valsS S).length = S.length := by unfold valsS; simp
  have hsv : ∀ s ∈ valsS S, s < 2 ^ cs.length := by
   intro s hs
   obtain ⟨x, hx, rfl⟩ := List.mem_map.1 hs
   exact hlt x hx
  rw [← hvl] at hlg ⊢
  generalize valsS S = V at *
  generalize encS S = vS at *
  have lS := Zw hS
  rw [List.length_map] at lS
  have rS := fun n d => ZH hS n d
  have fS := fun H d => Zt hS H d
  obtain ⟨cS1, cS2⟩ := Zp hS
  have hsn : sn < 4096 := by omega
  have hmn : mn < 4096 := by omega
  have HH1 := zA h67 (zA h73 (zA lx (zA rx (zA fx (zA cx1 (zA cx2 (zA h67e (zA lS (zA rS (zA fS (zA cS1 cS2)))))))))))
  refine zS ?_
  refine zR (zO (by simp [zC h67, zC h73, -Zb, HH1]; rfl) ?_)
  simp only [zT, zB]
  refine zS ?_
  refine zR (zO (by simp [zC h67, zC h73, -Zb, HH1]; rfl) ?_)
  simp only [zT, zB]
  refine zS ?_
  refine zS ?_
  refine zR (zO (by simp [zC h67, zC h73, -Zb, HH1]; rfl) ?_)
  simp only [zT, zB]
  refine Zc (x := false) (by simp) ?_
  refine zK ?_
  simp only [zT, zB]
  refine zS ?_
  refine zR (zO (by simp [zC h67, zC h73, -Zb, HH1]; rfl) ?_)
  simp only [zT, zB]
  refine zS ?_
  refine zS ?_
  refine zR (zO (by simp [zC h67, zC h73, -Zb, HH1]; rfl) ?_)
  simp only [zT, zB]
  refine zL ?_
  refine Zy (fun m σ => ∃ (k : Nat) (i A B : Int), i = k ∧ 12 - k = m ∧ k ≤ 12 ∧ A = ((lookN cs V sn mn k).1 : Nat) ∧ B = ((lookN cs V sn mn k).2 : Nat) ∧ σ = ⟨[.any, .any, .any, .any, .any, .any, I A, I B, .any, .ref 0 0 0, vS, .any, .any, .any, .any, .any, .any, .any, .any, .any, .any, .any, .any, .any, .any, .any, .any, I i, .any, .any, .any, .any, .any, .any, .any, .any, .any, .any, .any, .any, .any, .any, .any, .any, .any, .any, .any, .any, .any, .any, .any, .any, .any, .any, .any, .any, .any, .any, .any, .any, .any, .any, .any, .any, .any, .any, .any, .any, .any, .any, .any, .any, .any, .any, .any, .any, .any, .any, .any], [some (.row 3 [[.int .u64 (sn : Nat), .int .u64 (mn : Nat), c]])]⟩) ?_ 12 _ ⟨0, 0, 0, (V.length : Int), rfl, rfl, by omega, rfl, rfl, by simp⟩
  rintro m σ ⟨k, i, A, B, hik, rfl, hkl, hA, hB, rfl⟩
  refine zS ?_
  refine zR (zO (by simp [zC h67, zC h73, -Zb, HH1]; rfl) ?_)
  simp only [zT, zB]
  refine zS ?_
  refine Ze (x := decide (i < 12)) (by simp) (fun hk12 => ?_) (fun hk12 => ?_)
  ·have hk12 := of_decide_eq_true hk12
   have hk : k < 12 := by omega
   have hp := pow12 hk
   have hwi : W .i64 (i + 1) = i + 1 := ZD (by omega)
   have hsh : shI .shl .u64 1 i = some (.int .u64 ((2 ^ k : Nat) : Int)) := by rw [hik]; exact shl_one (by omega) .u64 (.inr rfl)
   have hor := or_u (a := sn) (b := mn) (by omega) (by omega)
   have hol : sn ||| mn < 4096 := Nat.or_lt_two_pow (n := 12) hsn hmn
   have hand := and_u (a := sn ||| mn) (b := 2 ^ k) (by omega) (by omega)
   have hbit := and_pow (sn ||| mn) k
   have hos := or_u (a := sn) (b := 2 ^ k) (by omega) (by omega)
   have hom := or_u (a := mn) (b := 2 ^ k) (by omega) (by omega)
   have ea := o73_eq (se := (sn : Int)) (mi := (mn : Int)) hcc hS hko.1 hsv (by omega) (Nat.or_lt_two_pow (n := 12) hsn hp) hmn
   have eb := o73_eq (se := (sn : Int)) (mi := (mn : Int)) hcc hS hko.1 hsv (by omega) hsn (Nat.or_lt_two_pow (n := 12) hmn hp)
   have hLs : lookN cs V sn mn (k + 1) = if (sn ||| mn).testBit k = true then lookN cs V sn mn k else if cntN cs V sn mn k < (lookN cs V sn mn k).2 then (k, cntN cs V sn mn k) else lookN cs V sn mn k := rfl
   have hcn : (max ((leftN cs V (sn ||| 2 ^ k) mn : Nat) : Int) ((leftN cs V sn (mn ||| 2 ^ k) : Nat) : Int)) = (cntN cs V sn mn k : Nat) := by unfold cntN; omega
   generalize (sn ||| mn).testBit k = sk at *
   generalize (((sn ||| mn) &&& 2 ^ k : Nat) : Int) = av at *
   generalize ((sn ||| mn : Nat) : Int) = ov at *
   generalize ((sn ||| 2 ^ k : Nat) : Int) = o1 at *
   generalize ((mn ||| 2 ^ k : Nat) : Int) = o2 at *
   generalize ((2 ^ k : Nat) : Int) = pk at *
   generalize ((leftN cs V (sn ||| 2 ^ k) mn : Nat) : Int) = n1 at *
   generalize ((leftN cs V sn (mn ||| 2 ^ k) : Nat) : Int) = n2 at *
   cases sk
   ·rw [if_neg (by simp)] at hLs
    have HH2 := zA hsh (zA hor (zA hand (zA hos hom)))
    refine zK ?_
    simp only [zT, zB]
    refine zS ?_
    refine zL ?_
    refine zS ?_
    refine zR (zO (by simp [zC h67, zC h73, -Zb, HH1, hwi, hbit, ea, eb, ↓HH2]; rfl) ?_)
    simp only [zT, zB]
    refine zS ?_
    refine zR (zO (by simp [zC h67, zC h73, -Zb, HH1, hwi, hbit, ea, eb, ↓HH2]; rfl) ?_)
    simp only [zT, zB]
    refine zS ?_
    refine zS ?_
    refine zR (zO (by simp [zC h67, zC h73, -Zb, HH1, hwi, hbit, ea, eb, ↓HH2]; rfl) ?_)
    simp only [zT, zB]
    refine Zc (x := false) (by simp) ?_
    refine zK ?_
    simp only [zT, zB]
    refine zS ?_
    refine XO (by simp (maxSteps := 3000000) [zC h67, zC h73, -Zb, HH1, hwi, hbit, ea, eb, ↓HH2]; rfl) ?_
    simp only [zT, zB]
    refine zS ?_
    refine zR (zO (by simp [zC h67, zC h73, -Zb, HH1, hwi, hbit, ea, eb, ↓HH2]; rfl) ?_)
    simp only [zT, zB]
    refine Ze (x := decide (max n1 n2 < B)) (by simp) (fun hcl => ?_) (fun hcl => ?_)
    ·have hcl := of_decide_eq_true hcl
     rw [if_pos (by omega)] at hLs
     refine zR (zO (by simp [zC h67, zC h73, -Zb, HH1, hwi, hbit, ea, eb, ↓HH2]; rfl) ?_)
     simp only [zT, zB]
     refine zR (zO (by simp [zC h67, zC h73, -Zb, HH1, hwi, hbit, ea, eb, ↓HH2]; rfl) ?_)
     simp only [zT, zB]
     exact ⟨12 - (k + 1), by omega, k + 1, i + 1, i, max n1 n2, by omega, rfl, by omega, by rw [hLs]; exact hik, by rw [hLs]; exact hcn, by simp [zC h67, zC h73, -Zb, HH1, hwi, hbit, ea, eb, ↓HH2, trim]⟩
    ·have hcl := of_decide_eq_false hcl
     rw [if_neg (by omega)] at hLs
     refine zK ?_
     simp only [zT, zB]
     refine zR (zO (by simp [zC h67, zC h73, -Zb, HH1, hwi, hbit, ea, eb, ↓HH2]; rfl) ?_)
     simp only [zT, zB]
     exact ⟨12 - (k + 1), by omega, k + 1, i + 1, A, B, by omega, rfl, by omega, by rw [hLs]; exact hA, by rw [hLs]; exact hB, by simp [zC h67, zC h73, -Zb, HH1, hwi, hbit, ea, eb, ↓HH2, trim]⟩
   ·rw [if_pos rfl] at hLs
    have HH3 := zA hsh (zA hor (zA hand (zA hos hom)))
    refine zK ?_
    simp only [zT, zB]
    refine zS ?_
    refine zL ?_
    refine zS ?_
    refine zR (zO (by simp [zC h67, zC h73, -Zb, HH1, hwi, hbit, ea, eb, ↓HH3]; rfl) ?_)
    simp only [zT, zB]
    refine zS ?_
    refine zR (zO (by simp [zC h67, zC h73, -Zb, HH1, hwi, hbit, ea, eb, ↓HH3]; rfl) ?_)
    simp only [zT, zB]
    refine zS ?_
    refine zS ?_
    refine zR (zO (by simp [zC h67, zC h73, -Zb, HH1, hwi, hbit, ea, eb, ↓HH3]; rfl) ?_)
    simp only [zT, zB]
    refine Zc (x := true) (by simp) ?_
    refine Zl ?_
    simp only [zT, zB, if_true, if_false, reduceIte, Nat.reduceEqDiff, Nat.succ_ne_zero, Nat.one_ne_zero, Nat.zero_ne_one]
    refine zR (zO (by simp [zC h67, zC h73, -Zb, HH1, hwi, hbit, ea, eb, ↓HH3]; rfl) ?_)
    simp only [zT, zB]
    exact ⟨12 - (k + 1), by omega, k + 1, i + 1, A, B, by omega, rfl, by omega, by rw [hLs]; exact hA, by rw [hLs]; exact hB, by simp [zC h67, zC h73, -Zb, HH1, hwi, hbit, ea, eb, ↓HH3, trim]⟩
  ·have hk12 := of_decide_eq_false hk12
   obtain rfl : k = 12 := by omega
   generalize lookN cs V sn mn 12 = L at *
   refine Zl ?_
   simp only [zT, zB, if_true, if_false, reduceIte, Nat.reduceEqDiff, Nat.succ_ne_zero, Nat.one_ne_zero, Nat.zero_ne_one]
   refine zS ?_
   refine zS ?_
   refine zR (zO (by simp [zC h67, zC h73, -Zb, HH1]; rfl) ?_)
   simp only [zT, zB]
   refine Ze (x := (B == (V.length : Int))) (by simp) (fun hz => ?_) (fun hz => ?_)
   ·have hz : B = (V.length : Int) := by simpa using hz
    rw [if_pos (by omega)]
    refine zS ?_
    refine zR (zO (by simp [zC h67, zC h73, -Zb, HH1]; rfl) ?_)
    simp only [zT, zB]
    refine Zd ?_
    simp [zC h67, zC h73, -Zb, HH1, lookV]
   ·have hz : ¬ B = (V.length : Int) := by simpa using hz
    rw [if_neg (by omega)]
    refine zK ?_
    simp only [zT, zB]
    refine zS ?_
    refine zR (zO (by simp [zC h67, zC h73, -Zb, HH1]; rfl) ?_)
    simp only [zT, zB]
    refine Zd ?_
    simp [zC h67, zC h73, -Zb, HH1, lookV, hA, hB]
 ·have hsm : (Yb l se mi).2 = [] := by
   unfold Yb at hR ⊢
   split
   ·rename_i e; rw [if_pos e] at hR; exact smallR_err hR
   ·rfl
  rw [hsm] at h67e
  have hen : encS [] = .nils := rfl
  rw [hen] at h67e
  rw [show lookR l se mi = _ from if_neg hR]
  generalize (Yb l se mi).1 = r at *
  have hrb : (r != 0) = true := by simpa using hR
  obtain ⟨_, _, _, _, hoa⟩ := openA_cells c l se mi
  rcases hoa with hoa | hoa
  ·rw [hoa] at h67e
   have HH4 := zA h67 (zA h73 (zA lx (zA rx (zA fx (zA cx1 (zA cx2 (zA h67e hrb)))))))
   refine zS ?_
   refine zR (zO (by simp [zC h67, zC h73, -Zb, HH4]; rfl) ?_)
   simp only [zT, zB]
   refine zS ?_
   refine zR (zO (by simp [zC h67, zC h73, -Zb, HH4]; rfl) ?_)
   simp only [zT, zB]
   refine zS ?_
   refine zS ?_
   refine zR (zO (by simp [zC h67, zC h73, -Zb, HH4]; rfl) ?_)
   simp only [zT, zB]
   refine Zc (x := true) (by simp) ?_
   refine zS ?_
   refine zR (zO (by simp [zC h67, zC h73, -Zb, HH4]; rfl) ?_)
   simp only [zT, zB]
   refine Zd ?_
   simp [zC h67, zC h73, -Zb, HH4, trim, lookV]
  ·rw [hoa] at h67e
   have HH5 := zA h67 (zA h73 (zA lx (zA rx (zA fx (zA cx1 (zA cx2 (zA h67e hrb)))))))
   refine zS ?_
   refine zR (zO (by simp [zC h67, zC h73, -Zb, HH5]; rfl) ?_)
   simp only [zT, zB]
   refine zS ?_
   refine zR (zO (by simp [zC h67, zC h73, -Zb, HH5]; rfl) ?_)
   simp only [zT, zB]
   refine zS ?_
   refine zS ?_
   refine zR (zO (by simp [zC h67, zC h73, -Zb, HH5]; rfl) ?_)
   simp only [zT, zB]
   refine Zc (x := true) (by simp) ?_
   refine zS ?_
   refine zR (zO (by simp [zC h67, zC h73, -Zb, HH5]; rfl) ?_)
   simp only [zT, zB]
   refine Zd ?_
   simp [zC h67, zC h73, -Zb, HH5, trim, lookV]
def DQ2 : Nat → Option CFn := upd DQ1 36 false (o36)
theorem DQ2_ok : Zv Tryd.prog GG DQ2 := ZA mixed DQ1_ok fun args v ho => by
  unfold o36 at ho; split at ho <;> (try simp only [reduceCtorEq] at ho)
  rename_i c se mi
  split at ho <;> (try simp only [reduceCtorEq] at ho)
  rename_i rs hx
  split at ho <;> (try simp only [reduceCtorEq] at ho)
  rename_i l hl
  split at ho <;> (try simp only [reduceCtorEq] at ho)
  rename_i hg
  simp only [Option.some.injEq] at ho
  subst ho
  obtain rfl : rs = l.map rQ := Ys (enc := rQ) dI2_eq hl
  exact a36 Tryd.prog DQ1 rfl rfl rfl c l hx hg se mi
end
end
end Go.Proofs.YtpebmjeomlgmdaaDoor.Tab
namespace Go.Proofs.YtpebmjeomlgmdaaDoor.Tab
open Go Go.Abs Go.Proofs
set_option maxRecDepth 100000
set_option maxHeartbeats 4000000
set_option linter.unusedSimpArgs false
set_option linter.unusedVariables false
section
attribute [local simp] Yv Ye Xo Xp YC Yy Xq YJ YV Yp Zf orcF Xj YI Xl Xh YH Yn rb_vl rb_pv Xf YG YF YE Xk Xg Xi rb_sl rb_fn slE XC YX Yd ZG Xs List.range_succ List.range_zero List.range'_succ List.range'_zero ZX ZV Zz ZZ ZJ ZN YZ ZU dop CV.ev Yf Zu ZC YP XX Yg ZS ZE Zq Out.v Xr List.replicate_succ zT zB arI ZF Abs.rowAt Xe allV toV toC ofV ofC Builtin.min_ Builtin.min2 Builtin.max_ Builtin.max2 Xm Xn resA XU Xb ZW Yk Yl Yj Zb
section
attribute [local simp] ZY ZK YL YD XN Xc disj YN XS YO ZO YQ news eqB YU eqA YB YW toCs ofCs stA Ym ZL Yi dI1 dI2 dI3 dI5 elt
attribute [local simp] st_any st_und st_agg st_tup XH st_int XE st_ref st_pv XD st_sl st_vl XF st_mp st_fn XG st_yld co_any co_und co_agg co_tup XM co_int XJ co_ref co_pv XI co_sl co_vl XK co_mp co_fn XL co_yld
attribute [local simp] Yq Zo frzG gather getR lim lop Yr lowA lowR okG putG putR rbB_none rbB_row resG rowAt takeG
def leftR (cs : Cs) (S : List (List Nat)) (a b : Nat) : Nat := (S.filter fun s => explR cs s a b).length
theorem leftR_succ {cs : Cs} {S : List (List Nat)} {a b k : Nat} (h : k < S.length) : leftR cs (S.take (k + 1)) a b = leftR cs (S.take k) a b + (if explR cs S[k] a b = true then 1 else 0) := by
  unfold leftR
  rw [List.take_succ_eq_append_getElem h, List.filter_append, List.length_append]
  simp only [List.filter_cons, List.filter_nil]
  split <;> rfl
theorem leftR_len' (cs : Cs) (S : List (List Nat)) (a b k : Nat) : leftR cs (S.take k) a b ≤ k := Nat.le_trans (List.length_filter_le _ _) (by rw [List.length_take]; omega)
def cntR (cs : Cs) (S : List (List Nat)) (se mi k : Nat) : Nat := max (leftR cs S (se ||| 2 ^ k) mi) (leftR cs S se (mi ||| 2 ^ k))
def lookRR (cs : Cs) (S : List (List Nat)) (se mi k : Nat) : Nat × Nat := lookK (cntR cs S se mi) (fun k => (se ||| mi).testBit k) S.length k
def SetsOk (n : Nat) (S : List (List Nat)) : Prop := S.length ≤ 2000 ∧ ∀ s ∈ S, s.length ≤ 10 ∧ ∀ x ∈ s, x < n
instance (n : Nat) (S : List (List Nat)) : Decidable (SetsOk n S) := inferInstanceAs (Decidable (_ ∧ _))
def lookRV (cs : Cs) (S : List (List Nat)) (se mi : Nat) : Za := .tup [I ((lookRR cs S se mi 12).1 : Nat), I ((lookRR cs S se mi 12).2 : Nat), .bool (decide ((lookRR cs S se mi 12).2 < S.length))]
def o37 : List Za → Option Za
  | [c, v, .int .i64 se, .int .i64 mi] => match YK c, dSets v with
    | some cs, some S => if cs.length ≤ 10 ∧ SetsOk cs.length S ∧ (0 ≤ se ∧ se < 4096) ∧ (0 ≤ mi ∧ mi < 4096) then some (lookRV cs S se.toNat mi.toNat) else none
    | _, _ => none
  | _ => none
theorem o37_eq {c v : Za} {cs : Cs} {S : List (List Nat)} (hc : YK c = some cs) (hn : cs.length ≤ 10) (hv : Zs v = some (S.map rW)) (hS : SetsOk cs.length S) {se mi : Int} (h1 : 0 ≤ se ∧ se < 4096) (h2 : 0 ≤ mi ∧ mi < 4096) : o37 [c, v, I se, I mi] = some (lookRV cs S se.toNat mi.toNat) := by
  have := dSets_of hv fun s hs x hx => by have := (hS.2 s hs).2 x hx; omega
  simp only [o37, hc, this]; rw [if_pos ⟨hn, hS, h1, h2⟩]
theorem a37 (P : Program) (T : Nat → Option CFn) (hT : T 37 = some c37) (h74 : T 74 = some { c74 with frsh := true, orc := o74 }) (cs : Cs) (c v : Za) (S : List (List Nat)) (hc : YK c = some cs) (hv : Zs v = some (S.map rW)) (hn : cs.length ≤ 10) (hS : SetsOk cs.length S) (se mi : Nat) (h1 : se < 4096) (h2 : mi < 4096) : Zn P T 37 [c, v, I (se : Nat), I (mi : Nat)] [] fun v h => frz true h 5 v = some (lookRV cs S se mi) := by
 have hcr := (XR hc).1
 have hSl := hS.1
 have lc := Zw hcr
 have rc := fun n d => ZH hcr n d
 have fc := fun H d => Zt hcr H d
 obtain ⟨cc1, cc2⟩ := Zp hcr
 have lv := Zw hv
 rw [List.length_map] at lv
 have rv := fun n d => ZH hv n d
 have fv := fun H d => Zt hv H d
 obtain ⟨cv1, cv2⟩ := Zp hv
 refine Zj hT (Zk rfl) ?_
 simp only [oo, om, op, og, ci, cl, c37]
 have HH1 := zA h74 (zA rc (zA fc (zA cc1 (zA cc2 (zA lv (zA rv (zA fv (zA cv1 cv2))))))))
 refine zS ?_
 refine zR (zO (by simp [zC h74, -Zb, HH1]; rfl) ?_)
 simp only [zT, zB]
 refine zS ?_
 refine zR (zO (by simp [zC h74, -Zb, HH1]; rfl) ?_)
 simp only [zT, zB]
 refine zS ?_
 refine zS ?_
 refine zR (zO (by simp [zC h74, -Zb, HH1]; rfl) ?_)
 simp only [zT, zB]
 refine zL ?_
 refine Zy (fun m σ => ∃ (k : Nat) (i A B : Int), i = k ∧ 12 - k = m ∧ k ≤ 12 ∧ A = ((lookRR cs S se mi k).1 : Nat) ∧ B = ((lookRR cs S se mi k).2 : Nat) ∧ σ = ⟨[c, v, I (se : Nat), I (mi : Nat), .any, .any, .any, .any, .any, .any, .any, I A, I B, I i, .any, .any, .any, .any, .any, .any, .any, .any, .any, .any, .any, .any, .any, .any, .any, .any, .any, .any, .any, .any, .any, .any, .any, .any, .any, .any, .any, .any, .any, .any, .any, .any, .any, .any, .any, .any, .any, .any, .any, .any, .any, .any, .any, .any, .any, .any, .any, .any, .any, .any, .any, .any, .any, .any, .any, .any, .any, .any, .any, .any, .any, .any, .any, .any, .any, .any], []⟩) ?_ 12 _ ⟨0, 0, 0, (S.length : Int), rfl, rfl, by omega, rfl, rfl, by simp⟩
 rintro m σ ⟨k, i, A, B, hik, rfl, hkl, hA, hB, rfl⟩
 refine zS ?_
 refine zS ?_
 refine zR (zO (by simp [zC h74, -Zb, HH1]; rfl) ?_)
 simp only [zT, zB]
 refine Ze (x := decide (i < 12)) (by simp) (fun hk12 => ?_) (fun hk12 => ?_)
 ·have hk12 := of_decide_eq_true hk12
  have hk : k < 12 := by omega
  have hp := pow12 hk
  have hwi : W .i64 (i + 1) = i + 1 := ZD (by omega)
  have hwu : W .u64 i = (k : Int) := by rw [hik]; exact W_u (by omega)
  have hsh : shI .shl .i64 1 (k : Int) = some (.int .i64 ((2 ^ k : Nat) : Int)) := shl_one (by omega) .i64 (.inl rfl)
  have hor := or_i (a := se) (b := mi) (by omega) (by omega)
  have hol : se ||| mi < 4096 := Nat.or_lt_two_pow (n := 12) h1 h2
  have hos := or_i (a := se) (b := 2 ^ k) (by omega) (by omega)
  have hom := or_i (a := mi) (b := 2 ^ k) (by omega) (by omega)
  have hol1 : se ||| 2 ^ k < 4096 := Nat.or_lt_two_pow (n := 12) h1 hp
  have hol2 : mi ||| 2 ^ k < 4096 := Nat.or_lt_two_pow (n := 12) h2 hp
  have hLs : lookRR cs S se mi (k + 1) = if (se ||| mi).testBit k = true then lookRR cs S se mi k else if cntR cs S se mi k < (lookRR cs S se mi k).2 then (k, cntR cs S se mi k) else lookRR cs S se mi k := rfl
  have shu : shI .shr .i64 (((se ||| mi) : Nat) : Int) ((k : Nat) : Int) = some (.int .i64 (((se ||| mi) >>> k : Nat) : Int)) := shr_u (by omega) .i64 rfl
  have anu : arI .and .i64 (((se ||| mi) >>> k : Nat) : Int) 1 = some (.int .i64 (((se ||| mi) >>> k &&& 1 : Nat) : Int)) := and_i (a := (se ||| mi) >>> k) (b := 1) (Nat.lt_of_le_of_lt (Nat.shiftRight_le (se ||| mi) k) (by omega)) (by omega)
  have btu := bit_oneI (se ||| mi) k
  generalize (((se ||| mi) >>> k &&& 1 : Nat) : Int) = yu at *
  generalize (((se ||| mi) >>> k : Nat) : Int) = zu at *
  generalize (se ||| mi).testBit k = bu at *
  generalize ((se ||| mi : Nat) : Int) = ov at *
  have hcr : cntR cs S se mi k = max (leftR cs S (se ||| 2 ^ k) mi) (leftR cs S se (mi ||| 2 ^ k)) := rfl
  generalize se ||| 2 ^ k = s1 at *
  generalize mi ||| 2 ^ k = m1 at *
  generalize ((2 ^ k : Nat) : Int) = pk at *
  have hl0 : leftR cs [] s1 mi = 0 := rfl
  have hl1 : leftR cs [] se m1 = 0 := rfl
  cases bu
  ·rw [if_neg (by simp)] at hLs
   have HH2 := zA hsh (zA hor (zA hos (zA hom (zA shu anu))))
   refine zK ?_
   simp only [zT, zB]
   refine zS ?_
   refine zL ?_
   refine zS ?_
   refine zS ?_
   refine zR (zO (by simp [zC h74, -Zb, HH1, hwi, hwu, btu, ↓HH2]; rfl) ?_)
   simp only [zT, zB]
   refine Zc (x := false) (by simp) ?_
   refine zK ?_
   simp only [zT, zB]
   refine zS ?_
   refine zR (zO (by simp [zC h74, -Zb, HH1, hwi, hwu, btu, ↓HH2]; rfl) ?_)
   simp only [zT, zB]
   refine zS ?_
   refine zS ?_
   refine zR (zO (by simp [zC h74, -Zb, HH1, hwi, hwu, btu, ↓HH2]; rfl) ?_)
   simp only [zT, zB]
   refine zL ?_
   refine Zy (fun n σ => ∃ (j : Nat) (J C D : Int), J = j ∧ S.length - j = n ∧ j ≤ S.length ∧ C = (leftR cs (S.take j) s1 mi : Nat) ∧ D = (leftR cs (S.take j) se m1 : Nat) ∧ σ = ⟨[c, v, I (se : Nat), I (mi : Nat), .any, .any, .any, .any, .any, .any, .any, I A, I B, I i, I C, I D, I J, .any, .any, .any, .any, .any, .any, .any, .any, .any, .any, .any, .any, .any, .any, .any, .any, .any, .any, .any, .any, .any, .any, .any, .any, .any, .any, .any, .any, .any, .any, .any, .any, .any, .any, .any, .any, .any, .any, .any, .any, .any, .any, .any, .any, .any, .any, .any, .any, .any, .any, .any, .any, .any, .any, .any, .any, .any, .any, .any, .any, .any, .any, .any], []⟩) ?_ (S.length - 0) _ ⟨0, 0, 0, 0, rfl, rfl, Nat.zero_le _, rfl, rfl, by simp⟩
   rintro n σ ⟨j, J, C, D, hJ, rfl, hjl, hCi, hDi, rfl⟩
   refine zS ?_
   refine zS ?_
   refine zR (zO (by simp [zC h74, -Zb, HH1, hwi, hwu, btu, ↓HH2]; rfl) ?_)
   simp only [zT, zB]
   refine Ze (x := decide (J < (S.length : Int))) (by simp) (fun hlj => ?_) (fun hlj => ?_)
   ·have hlj := of_decide_eq_true hlj
    have hj0 : j < S.length := by omega
    obtain ⟨t1, rfl⟩ := Yz hv (k := j) (by simpa using hj0)
    have hJ0 : 0 ≤ J := by omega
    have htJ : J.toNat = j := by omega
    have hwJ : W .i64 (J + 1) = J + 1 := ZD (by omega)
    have g1 : (S.map rW)[j]? = some (rW S[j]) := by rw [List.getElem?_map, List.getElem?_eq_getElem hj0]; rfl
    have g2 : ∀ h, (S.map rW)[j]'h = rW S[j] := fun h => by simp
    have hm := hS.2 _ (List.getElem_mem hj0)
    have hdn : dNs (Yw S[j]) = some S[j] := dNs_of rfl fun x hx => by have := hm.2 x hx; omega
    have e1 := o74_eq hc hdn hm.1 hm.2 (se := (s1 : Int)) (mi := (mi : Int)) (by omega) (by omega)
    have e2 := o74_eq hc hdn hm.1 hm.2 (se := (se : Int)) (mi := (m1 : Int)) (by omega) (by omega)
    simp only [Int.toNat_natCast] at e1 e2
    have hC := leftR_succ (cs := cs) (a := s1) (b := mi) hj0
    have hD := leftR_succ (cs := cs) (a := se) (b := m1) hj0
    have hCl := leftR_len' cs S s1 mi j
    have hDl := leftR_len' cs S se m1 j
    have hwC : W .i64 (C + 1) = C + 1 := ZD (by omega)
    have hwD : W .i64 (D + 1) = D + 1 := ZD (by omega)
    have hrl : rW S[j] = [Yw S[j]] := rfl
    have hB0 : Zs (Yw S[j]) = some (S[j].map rN) := rfl
    have lY := Zw hB0
    rw [List.length_map] at lY
    have rY := fun n d => ZH hB0 n d
    have fY := fun H d => Zt hB0 H d
    obtain ⟨cY1, cY2⟩ := Zp hB0
    generalize explR cs S[j] s1 mi = B1 at *
    generalize explR cs S[j] se m1 = B2 at *
    generalize Yw S[j] = wv at *
    cases B1 <;> cases B2
    ·rw [if_neg (by simp)] at hC
     rw [if_neg (by simp)] at hD
     have HH3 := zA hwi (zA hwu (zA btu (zA hJ0 (zA htJ (zA hj0 (zA hwJ (zA hwC (zA hwD (zA g1 (zA g2 (zA hrl (zA e1 (zA e2 (zA rY (zA fY (zA cY1 cY2))))))))))))))))
     refine zK ?_
     simp only [zT, zB]
     refine zS ?_
     refine zL ?_
     refine zS ?_
     refine zS ?_
     refine zR (zO (by simp [zC h74, -Zb, HH1, ↓HH2, -List.getElem?_map, -List.getElem_map, HH3]; rfl) ?_)
     simp only [zT, zB]
     refine Zc (x := false) (by simp) ?_
     refine zK ?_
     simp only [zT, zB]
     refine zS ?_
     refine zR (zO (by simp [zC h74, -Zb, HH1, ↓HH2, -List.getElem?_map, -List.getElem_map, HH3]; rfl) ?_)
     simp only [zT, zB]
     refine Zc (x := false) (by simp) ?_
     refine zK ?_
     simp only [zT, zB]
     refine zR (zO (by simp [zC h74, -Zb, HH1, ↓HH2, -List.getElem?_map, -List.getElem_map, HH3]; rfl) ?_)
     simp only [zT, zB]
     exact ⟨S.length - (j + 1), by omega, j + 1, J + 1, C, D, by omega, rfl, by omega, by omega, by omega, by simp [zC h74, -Zb, HH1, ↓HH2, -List.getElem?_map, -List.getElem_map, HH3]⟩
    ·rw [if_neg (by simp)] at hC
     rw [if_pos rfl] at hD
     have HH4 := zA hwi (zA hwu (zA btu (zA hJ0 (zA htJ (zA hj0 (zA hwJ (zA hwC (zA hwD (zA g1 (zA g2 (zA hrl (zA e1 (zA e2 (zA rY (zA fY (zA cY1 cY2))))))))))))))))
     refine zK ?_
     simp only [zT, zB]
     refine zS ?_
     refine zL ?_
     refine zS ?_
     refine zS ?_
     refine zR (zO (by simp [zC h74, -Zb, HH1, ↓HH2, -List.getElem?_map, -List.getElem_map, HH4]; rfl) ?_)
     simp only [zT, zB]
     refine Zc (x := false) (by simp) ?_
     refine zK ?_
     simp only [zT, zB]
     refine zS ?_
     refine zR (zO (by simp [zC h74, -Zb, HH1, ↓HH2, -List.getElem?_map, -List.getElem_map, HH4]; rfl) ?_)
     simp only [zT, zB]
     refine Zc (x := true) (by simp) ?_
     refine zR (zO (by simp [zC h74, -Zb, HH1, ↓HH2, -List.getElem?_map, -List.getElem_map, HH4]; rfl) ?_)
     simp only [zT, zB]
     refine zR (zO (by simp [zC h74, -Zb, HH1, ↓HH2, -List.getElem?_map, -List.getElem_map, HH4]; rfl) ?_)
     simp only [zT, zB]
     exact ⟨S.length - (j + 1), by omega, j + 1, J + 1, C, D + 1, by omega, rfl, by omega, by omega, by omega, by simp [zC h74, -Zb, HH1, ↓HH2, -List.getElem?_map, -List.getElem_map, HH4]⟩
    ·rw [if_pos rfl] at hC
     rw [if_neg (by simp)] at hD
     have HH5 := zA hwi (zA hwu (zA btu (zA hJ0 (zA htJ (zA hj0 (zA hwJ (zA hwC (zA hwD (zA g1 (zA g2 (zA hrl (zA e1 (zA e2 (zA rY (zA fY (zA cY1 cY2))))))))))))))))
     refine zK ?_
     simp only [zT, zB]
     refine zS ?_
     refine zL ?_
     refine zS ?_
     refine zS ?_
     refine zR (zO (by simp [zC h74, -Zb, HH1, ↓HH2, -List.getElem?_map, -List.getElem_map, HH5]; rfl) ?_)
     simp only [zT, zB]
     refine Zc (x := true) (by simp) ?_
     refine zR (zO (by simp [zC h74, -Zb, HH1, ↓HH2, -List.getElem?_map, -List.getElem_map, HH5]; rfl) ?_)
     simp only [zT, zB]
     refine zS ?_
     refine zR (zO (by simp [zC h74, -Zb, HH1, ↓HH2, -List.getElem?_map, -List.getElem_map, HH5]; rfl) ?_)
     simp only [zT, zB]
     refine Zc (x := false) (by simp) ?_
     refine zK ?_
     simp only [zT, zB]
     refine zR (zO (by simp [zC h74, -Zb, HH1, ↓HH2, -List.getElem?_map, -List.getElem_map, HH5]; rfl) ?_)
     simp only [zT, zB]
     exact ⟨S.length - (j + 1), by omega, j + 1, J + 1, C + 1, D, by omega, rfl, by omega, by omega, by omega, by simp [zC h74, -Zb, HH1, ↓HH2, -List.getElem?_map, -List.getElem_map, HH5]⟩
    ·rw [if_pos rfl] at hC
     rw [if_pos rfl] at hD
     have HH6 := zA hwi (zA hwu (zA btu (zA hJ0 (zA htJ (zA hj0 (zA hwJ (zA hwC (zA hwD (zA g1 (zA g2 (zA hrl (zA e1 (zA e2 (zA rY (zA fY (zA cY1 cY2))))))))))))))))
     refine zK ?_
     simp only [zT, zB]
     refine zS ?_
     refine zL ?_
     refine zS ?_
     refine zS ?_
     refine zR (zO (by simp [zC h74, -Zb, HH1, ↓HH2, -List.getElem?_map, -List.getElem_map, HH6]; rfl) ?_)
     simp only [zT, zB]
     refine Zc (x := true) (by simp) ?_
     refine zR (zO (by simp [zC h74, -Zb, HH1, ↓HH2, -List.getElem?_map, -List.getElem_map, HH6]; rfl) ?_)
     simp only [zT, zB]
     refine zS ?_
     refine zR (zO (by simp [zC h74, -Zb, HH1, ↓HH2, -List.getElem?_map, -List.getElem_map, HH6]; rfl) ?_)
     simp only [zT, zB]
     refine Zc (x := true) (by simp) ?_
     refine zR (zO (by simp [zC h74, -Zb, HH1, ↓HH2, -List.getElem?_map, -List.getElem_map, HH6]; rfl) ?_)
     simp only [zT, zB]
     refine zR (zO (by simp [zC h74, -Zb, HH1, ↓HH2, -List.getElem?_map, -List.getElem_map, HH6]; rfl) ?_)
     simp only [zT, zB]
     exact ⟨S.length - (j + 1), by omega, j + 1, J + 1, C + 1, D + 1, by omega, rfl, by omega, by omega, by omega, by simp [zC h74, -Zb, HH1, ↓HH2, -List.getElem?_map, -List.getElem_map, HH6]⟩
   ·have hlj := of_decide_eq_false hlj
    obtain rfl : j = S.length := by omega
    rw [List.take_length] at hCi hDi
    have hcn : max C D = ((cntR cs S se mi k : Nat) : Int) := by rw [hcr]; omega
    refine Zl ?_
    simp only [zT, zB, if_true, if_false, reduceIte, Nat.reduceEqDiff, Nat.succ_ne_zero, Nat.one_ne_zero, Nat.zero_ne_one]
    refine zS ?_
    refine zR (zO (by simp [zC h74, -Zb, HH1, hwi, hwu, btu, ↓HH2]; rfl) ?_)
    simp only [zT, zB]
    refine Ze (x := decide (max C D < B)) (by simp) (fun hcl => ?_) (fun hcl => ?_)
    ·have hcl := of_decide_eq_true hcl
     rw [if_pos (by omega)] at hLs
     refine zR (zO (by simp [zC h74, -Zb, HH1, hwi, hwu, btu, ↓HH2]; rfl) ?_)
     simp only [zT, zB]
     refine zR (zO (by simp [zC h74, -Zb, HH1, hwi, hwu, btu, ↓HH2]; rfl) ?_)
     simp only [zT, zB]
     exact ⟨12 - (k + 1), by omega, k + 1, i + 1, i, max C D, by omega, rfl, by omega, by rw [hLs]; exact hik, by rw [hLs]; exact hcn, by simp [zC h74, -Zb, HH1, hwi, hwu, btu, ↓HH2]⟩
    ·have hcl := of_decide_eq_false hcl
     rw [if_neg (by omega)] at hLs
     refine zK ?_
     simp only [zT, zB]
     refine zR (zO (by simp [zC h74, -Zb, HH1, hwi, hwu, btu, ↓HH2]; rfl) ?_)
     simp only [zT, zB]
     exact ⟨12 - (k + 1), by omega, k + 1, i + 1, A, B, by omega, rfl, by omega, by rw [hLs]; exact hA, by rw [hLs]; exact hB, by simp [zC h74, -Zb, HH1, hwi, hwu, btu, ↓HH2]⟩
  ·rw [if_pos rfl] at hLs
   have HH7 := zA hsh (zA hor (zA hos (zA hom (zA shu anu))))
   refine zK ?_
   simp only [zT, zB]
   refine zS ?_
   refine zL ?_
   refine zS ?_
   refine zS ?_
   refine zR (zO (by simp [zC h74, -Zb, HH1, hwi, hwu, btu, ↓HH7]; rfl) ?_)
   simp only [zT, zB]
   refine Zc (x := true) (by simp) ?_
   refine Zl ?_
   simp only [zT, zB, if_true, if_false, reduceIte, Nat.reduceEqDiff, Nat.succ_ne_zero, Nat.one_ne_zero, Nat.zero_ne_one]
   refine zR (zO (by simp [zC h74, -Zb, HH1, hwi, hwu, btu, ↓HH7]; rfl) ?_)
   simp only [zT, zB]
   exact ⟨12 - (k + 1), by omega, k + 1, i + 1, A, B, by omega, rfl, by omega, by rw [hLs]; exact hA, by rw [hLs]; exact hB, by simp [zC h74, -Zb, HH1, hwi, hwu, btu, ↓HH7]⟩
 ·have hk12 := of_decide_eq_false hk12
  obtain rfl : k = 12 := by omega
  unfold lookRV
  generalize lookRR cs S se mi 12 = L at *
  have hd : decide (L.2 < S.length) = decide (B < (S.length : Int)) := by rw [hB]; simp
  rw [hd, ← hA, ← hB]
  refine Zl ?_
  simp only [zT, zB, if_true, if_false, reduceIte, Nat.reduceEqDiff, Nat.succ_ne_zero, Nat.one_ne_zero, Nat.zero_ne_one]
  refine zS ?_
  refine zR (zO (by simp [zC h74, -Zb, HH1]; rfl) ?_)
  simp only [zT, zB]
  refine Zd ?_
  simp [zC h74, -Zb, HH1]
noncomputable def DQ3 : Nat → Option CFn := upd DQ2 37 true (o37)
theorem DQ3_ok : Zv Tryd.prog GG DQ3 := ZA mixed DQ2_ok fun args v ho => by
  unfold o37 at ho; split at ho <;> (try simp only [reduceCtorEq] at ho)
  rename_i c v se mi
  split at ho <;> (try simp only [reduceCtorEq] at ho)
  rename_i cs S hc hS
  split at ho <;> (try simp only [reduceCtorEq] at ho)
  rename_i hg
  simp only [Option.some.injEq] at ho
  subst ho
  obtain ⟨an, rfl⟩ : ∃ s : Nat, se = s := ⟨se.toNat, by omega⟩
  obtain ⟨bn, rfl⟩ : ∃ s : Nat, mi = s := ⟨mi.toNat, by omega⟩
  simp only [Int.toNat_natCast]
  exact a37 Tryd.prog DQ2 rfl rfl cs c v S hc (dSets_rows hS) hg.1 hg.2.1 an bn (by omega) (by omega)
theorem leftNR {cs : Cs} {S : List (Fin 1024)} {a b : Nat} (h1 : a < 4096) (h2 : b < 4096) : leftN cs (valsS S) a b = leftR cs (bitS S) a b := by
  unfold leftN leftR valsS bitS
  rw [← List.countP_eq_length_filter, ← List.countP_eq_length_filter, List.countP_map, List.countP_map]
  congr 1
  funext x
  exact expl_eq h1 h2
theorem lookK_congr {c1 c2 : Nat → Nat} {s1 s2 : Nat → Bool} {t : Nat} : ∀ k, (∀ i < k, c1 i = c2 i ∧ s1 i = s2 i) → lookK c1 s1 t k = lookK c2 s2 t k
  | 0, _ => rfl
  | k + 1, h => by
    have hk := h k (by omega)
    simp only [lookK, lookK_congr k fun i hi => h i (by omega), hk.1, hk.2]
theorem look_law {cs : Cs} {S : List (Fin 1024)} {se mi : Nat} (h1 : se < 4096) (h2 : mi < 4096) : lookN cs (valsS S) se mi 12 = lookRR cs (bitS S) se mi 12 := by
  unfold lookN lookRR
  have e : (valsS S).length = (bitS S).length := by simp [valsS, bitS]
  refine lookK_congr 12 (fun i hi => ⟨?_, rfl⟩) |>.trans (by rw [e])
  have hp := pow12 hi
  unfold cntN cntR
  rw [leftNR (Nat.or_lt_two_pow (n := 12) h1 hp) h2, leftNR h1 (Nat.or_lt_two_pow (n := 12) h2 hp)]
theorem lookK_lt {cnt : Nat → Nat} {skip : Nat → Bool} {tot : Nat} : ∀ k, (lookK cnt skip tot k).2 ≤ tot
  | k => (lookK_le cnt skip tot k).1
theorem look_law2 (l : List (Int × Int)) (se mi : Int) : lookR l se mi =
    if (XW l se mi).1 = 0 then
      (if (lookRR (toCs l) (XW l se mi).2 se.toNat mi.toNat 12).2 < (XW l se mi).2.length then ((lookRR (toCs l) (XW l se mi).2 se.toNat mi.toNat 12).1, (lookRR (toCs l) (XW l se mi).2 se.toNat mi.toNat 12).2, 0) else (0, 0, 7))
    else (0, 0, (XW l se mi).1) := by
  obtain ⟨h1, h2⟩ := open_law l se mi
  unfold lookR
  by_cases h : (XW l se mi).1 = 0
  · have hE := openR_c (h1.trans h)
    have hc := (compE_ok hE).2.2.1
    rw [if_pos h, if_pos (h1.trans h), look_law (by omega) (by omega), h2]
    have hl : (Yb l se mi).2.length = (XW l se mi).2.length := by rw [← h2]; simp [bitS]
    have hle : (lookRR (toCs l) (XW l se mi).2 se.toNat mi.toNat 12).2 ≤ (XW l se mi).2.length := lookK_lt 12
    rw [hl]
    generalize lookRR (toCs l) (XW l se mi).2 se.toNat mi.toNat 12 = L at *
    by_cases e : L.2 = (XW l se mi).2.length
    · rw [if_pos e, if_neg (by omega)]
    · rw [if_neg e, if_pos (by omega)]
  · rw [if_neg h, if_neg (by rw [h1]; exact h), h1]
theorem a6 (P : Program) (T : Nat → Option CFn) (hT : T 6 = some c6) (h12 : T 12 = some { c12 with frsh := true, orc := o12 }) (h29 : T 29 = some { c29 with frsh := false, orc := o29 }) (h36 : T 36 = some { c36 with frsh := false, orc := o36 }) (h32 : T 32 = some { c32 with frsh := false, orc := o32 }) (h33 : T 33 = some { c33 with frsh := true, orc := o33 }) (h37 : T 37 = some { c37 with frsh := true, orc := o37 }) (x : Za) (l : List (Int × Int)) (hx : Zs x = some (l.map rQ)) (se mi : Int) : Zn P T 6 [x, I se, I mi] [] fun v h => v = .bool true := by
 have lx := Zw hx
 rw [List.length_map] at lx
 have rx := fun n d => ZH hx n d
 have fx := fun H d => Zt hx H d
 obtain ⟨cx1, cx2⟩ := Zp hx
 refine Zj hT (Zk rfl) ?_
 simp only [oo, om, op, og, ci, cl, c6]
 have HH1 := zA h12 (zA h29 (zA h36 (zA h32 (zA h33 (zA h37 (zA lx (zA rx (zA fx (zA cx1 cx2)))))))))
 refine zS ?_
 refine zR (zO (by simp [zC h12, zC h29, zC h36, zC h32, zC h33, zC h37, -Zb, o12, HH1]; rfl) ?_)
 simp only [zT, zB]
 refine zS ?_
 refine zS ?_
 refine zR (zO (by simp [zC h12, zC h29, zC h36, zC h32, zC h33, zC h37, -Zb, o12, HH1]; rfl) ?_)
 simp only [zT, zB]
 refine Ze (x := decide ((15 : Int) < (l.length : Int))) (by simp) (fun h15 => ?_) (fun h15 => ?_)
 ·have h15 := of_decide_eq_true h15
  refine zS ?_
  refine zR (zO (by simp [zC h12, zC h29, zC h36, zC h32, zC h33, zC h37, -Zb, o12, HH1]; rfl) ?_)
  simp only [zT, zB]
  refine Zd ?_
  simp [zC h12, zC h29, zC h36, zC h32, zC h33, zC h37, -Zb, o12, HH1]
 ·have h15 := of_decide_eq_false h15
  have hl : l.length ≤ 1000 := by omega
  have e29 := o29_eq hx hl
  have hc : Zs (.vl (l.map rQ) l.isEmpty) = some (l.map rQ) := rfl
  generalize Za.vl (l.map rQ) l.isEmpty = c at *
  have lc := Zw hc
  rw [List.length_map] at lc
  have rc := fun n d => ZH hc n d
  have fc := fun H d => Zt hc H d
  obtain ⟨cc1, cc2⟩ := Zp hc
  have e36 := o36_eq hc hl se mi
  have e32 := o32_eq hx hl se mi
  have e33 := o33_self hc hx hl
  rw [look_law2] at e36
  have hS0 := @lawL_err l se mi
  have hSn := @lawL_ne l se mi
  have hSm := @lawL_mem l se mi
  have hSl := @lawL_len l se mi
  have hn10 := @lawL_n l se mi
  have hcE : (XW l se mi).1 = 0 → XT l se mi = 0 := fun h => openR_c ((open_law l se mi).1.trans h)
  unfold lawV at e32
  generalize (XW l se mi).1 = E at *
  generalize (XW l se mi).2 = S at *
  by_cases hE : E = 0
  ·subst hE
   rw [if_pos rfl] at e36
   have hE := hcE rfl
   have hcomp := compE_ok hE
   have hko := toCs_ok hE
   have hcc : YK x = some (toCs l) := dCauses_of (by rw [hx, rq_rc hE]) hko.2
   have hF := encF_rows S
   have lF := Zw hF
   rw [List.length_map] at lF
   have rF := fun n d => ZH hF n d
   have fF := fun H d => Zt hF H d
   obtain ⟨cF1, cF2⟩ := Zp hF
   have e37 := o37_eq hcc hko.1 hF ⟨by omega, fun s hs => ⟨(hSm s hs).1, by rw [toCs_len]; exact (hSm s hs).2.2⟩⟩ (se := se) (mi := mi) (by omega) (by omega)
   unfold lookRV at e37
   unfold lookV at e36
   generalize encF S = vF at *
   generalize lookRR (toCs l) S se.toNat mi.toNat 12 = L at *
   by_cases hL : L.2 < S.length
   ·rw [if_pos hL] at e36
    simp only [hL, decide_true] at e37
    have HH2 := zA e29 (zA e32 (zA e33 (zA lc (zA rc (zA fc (zA cc1 (zA cc2 (zA e36 (zA e37 (zA lF (zA rF (zA fF (zA cF1 cF2)))))))))))))
    refine zK ?_
    simp only [zT, zB]
    refine zS ?_
    refine zR (zO (by simp [zC h12, zC h29, zC h36, zC h32, zC h33, zC h37, -Zb, o12, HH1, HH2]; rfl) ?_)
    simp only [zT, zB]
    refine zS ?_
    refine zR (zO (by simp [zC h12, zC h29, zC h36, zC h32, zC h33, zC h37, -Zb, o12, HH1, HH2]; rfl) ?_)
    simp only [zT, zB]
    refine zS ?_
    refine zS ?_
    refine zR (zO (by simp [zC h12, zC h29, zC h36, zC h32, zC h33, zC h37, -Zb, o12, HH1, HH2]; rfl) ?_)
    simp only [zT, zB]
    refine Zc (x := false) (by simp) ?_
    refine zK ?_
    simp only [zT, zB]
    refine zS ?_
    refine zR (zO (by simp [zC h12, zC h29, zC h36, zC h32, zC h33, zC h37, -Zb, o12, HH1, HH2]; rfl) ?_)
    simp only [zT, zB]
    refine zS ?_
    refine zS ?_
    refine zR (zO (by simp [zC h12, zC h29, zC h36, zC h32, zC h33, zC h37, -Zb, o12, HH1, HH2]; rfl) ?_)
    simp only [zT, zB]
    refine Zc (x := true) (by simp) ?_
    refine zS ?_
    refine zR (zO (by simp [zC h12, zC h29, zC h36, zC h32, zC h33, zC h37, -Zb, o12, HH1, HH2]; rfl) ?_)
    simp only [zT, zB]
    refine zS ?_
    refine zS ?_
    refine zR (zO (by simp [zC h12, zC h29, zC h36, zC h32, zC h33, zC h37, -Zb, o12, HH1, HH2]; rfl) ?_)
    simp only [zT, zB]
    refine Zc (x := true) (by simp) ?_
    refine zS ?_
    refine zR (zO (by simp [zC h12, zC h29, zC h36, zC h32, zC h33, zC h37, -Zb, o12, HH1, HH2]; rfl) ?_)
    simp only [zT, zB]
    refine Zd ?_
    simp [zC h12, zC h29, zC h36, zC h32, zC h33, zC h37, -Zb, o12, HH1, HH2]
   ·rw [if_neg hL] at e36
    simp only [hL, decide_false] at e37
    have HH3 := zA e29 (zA e32 (zA e33 (zA lc (zA rc (zA fc (zA cc1 (zA cc2 (zA e36 (zA e37 (zA lF (zA rF (zA fF (zA cF1 cF2)))))))))))))
    refine zK ?_
    simp only [zT, zB]
    refine zS ?_
    refine zR (zO (by simp [zC h12, zC h29, zC h36, zC h32, zC h33, zC h37, -Zb, o12, HH1, HH3]; rfl) ?_)
    simp only [zT, zB]
    refine zS ?_
    refine zR (zO (by simp [zC h12, zC h29, zC h36, zC h32, zC h33, zC h37, -Zb, o12, HH1, HH3]; rfl) ?_)
    simp only [zT, zB]
    refine zS ?_
    refine zS ?_
    refine zR (zO (by simp [zC h12, zC h29, zC h36, zC h32, zC h33, zC h37, -Zb, o12, HH1, HH3]; rfl) ?_)
    simp only [zT, zB]
    refine Zc (x := false) (by simp) ?_
    refine zK ?_
    simp only [zT, zB]
    refine zS ?_
    refine zR (zO (by simp [zC h12, zC h29, zC h36, zC h32, zC h33, zC h37, -Zb, o12, HH1, HH3]; rfl) ?_)
    simp only [zT, zB]
    refine zS ?_
    refine zS ?_
    refine zR (zO (by simp [zC h12, zC h29, zC h36, zC h32, zC h33, zC h37, -Zb, o12, HH1, HH3]; rfl) ?_)
    simp only [zT, zB]
    refine Zc (x := true) (by simp) ?_
    refine zS ?_
    refine zR (zO (by simp [zC h12, zC h29, zC h36, zC h32, zC h33, zC h37, -Zb, o12, HH1, HH3]; rfl) ?_)
    simp only [zT, zB]
    refine zS ?_
    refine zS ?_
    refine zR (zO (by simp [zC h12, zC h29, zC h36, zC h32, zC h33, zC h37, -Zb, o12, HH1, HH3]; rfl) ?_)
    simp only [zT, zB]
    refine Zc (x := false) (by simp) ?_
    refine zK ?_
    simp only [zT, zB]
    refine zR (zO (by simp [zC h12, zC h29, zC h36, zC h32, zC h33, zC h37, -Zb, o12, HH1, HH3]; rfl) ?_)
    simp only [zT, zB]
    refine zS ?_
    refine zR (zO (by simp [zC h12, zC h29, zC h36, zC h32, zC h33, zC h37, -Zb, o12, HH1, HH3]; rfl) ?_)
    simp only [zT, zB]
    refine Zd ?_
    simp [zC h12, zC h29, zC h36, zC h32, zC h33, zC h37, -Zb, o12, HH1, HH3]
  ·rw [if_neg hE] at e36
   unfold lookV at e36
   obtain rfl := hS0 hE
   have hEb : (E != 0) = true := by simpa using hE
   have hEb2 : (E == 0) = false := by simpa using hE
   have HH4 := zA e29 (zA e32 (zA e33 (zA lc (zA rc (zA fc (zA cc1 (zA cc2 (zA e36 (zA hEb hEb2)))))))))
   refine zK ?_
   simp only [zT, zB]
   refine zS ?_
   refine zR (zO (by simp [zC h12, zC h29, zC h36, zC h32, zC h33, zC h37, -Zb, o12, HH1, encF, HH4]; rfl) ?_)
   simp only [zT, zB]
   refine zS ?_
   refine zR (zO (by simp [zC h12, zC h29, zC h36, zC h32, zC h33, zC h37, -Zb, o12, HH1, encF, HH4]; rfl) ?_)
   simp only [zT, zB]
   refine zS ?_
   refine zS ?_
   refine zR (zO (by simp [zC h12, zC h29, zC h36, zC h32, zC h33, zC h37, -Zb, o12, HH1, encF, HH4]; rfl) ?_)
   simp only [zT, zB]
   refine Zc (x := false) (by simp) ?_
   refine zK ?_
   simp only [zT, zB]
   refine zS ?_
   refine zR (zO (by simp [zC h12, zC h29, zC h36, zC h32, zC h33, zC h37, -Zb, o12, HH1, encF, HH4]; rfl) ?_)
   simp only [zT, zB]
   refine zS ?_
   refine zS ?_
   refine zR (zO (by simp [zC h12, zC h29, zC h36, zC h32, zC h33, zC h37, -Zb, o12, HH1, encF, HH4]; rfl) ?_)
   simp only [zT, zB]
   refine Zc (x := false) (by simp) ?_
   refine zK ?_
   simp only [zT, zB]
   refine zS ?_
   refine zR (zO (by simp [zC h12, zC h29, zC h36, zC h32, zC h33, zC h37, -Zb, o12, HH1, encF, HH4]; rfl) ?_)
   simp only [zT, zB]
   refine Zd ?_
   simp [zC h12, zC h29, zC h36, zC h32, zC h33, zC h37, -Zb, o12, HH1, encF, HH4]
theorem law6 (x : Za) (l : List (Int × Int)) (hx : Zs x = some (l.map rQ)) (se mi : Int) : Zn Tryd.prog DQ3 6 [x, I se, I mi] [] fun v _ => v = .bool true :=
  a6 Tryd.prog DQ3 rfl rfl rfl rfl rfl rfl rfl x l hx se mi
end
end
end Go.Proofs.YtpebmjeomlgmdaaDoor.Tab
