/- The law of stores, where all can be stored. No condition. -/
import Derived.Test.YtpebmjeomlgmdaaDoorPzDDz
import Derived.Test.YtpebmjeomlgmdaaDoorPzCDz
set_option linter.unusedSimpArgs false
set_option linter.unusedVariables false
namespace Go.Proofs.YtpebmjeomlgmdaaDoor.Tab
open Go Go.Abs Go.Proofs
set_option maxRecDepth 100000
set_option maxHeartbeats 4000000
set_option linter.unusedSimpArgs false
set_option linter.unusedVariables false
section
attribute [local simp] YF Yn Xy Xz YL YG XA YK Xe Yx Zf orcF Xs YT Xu Xq YS Yv rb_vl rb_pv Xo YR YQ YP Xt Xp Xr rb_sl rb_fn slE XZ Xj Ym ZN XC List.range_succ List.range_zero List.range'_succ List.range'_zero Yd Yb ZC Yf ZP ZU Xl Yh dop CV.ev Yp Zx ZK Xb fI_eq Yq Ya ZJ Zy Out.v XG List.replicate_succ zT zB arI ZL Abs.rowAt XB allV toV toC ofV ofC Builtin.min_ Builtin.min2 Builtin.max_ Builtin.max2 Xv Xw resA tupA Xx Yc Ys Yt Yr Zb
section
attribute [local simp] Ye ZR YW YN actD Xn disj YZ holes Xa ZW Xd news eqB Xh eqA YJ Xi toCs ofCs stA Yu ZS Yy dI1 dI2 dI3 dI5 elt
attribute [local simp] st_any st_und st_agg st_tup XR st_int XO st_ref st_pv XN st_sl st_vl XP st_mp st_fn XQ st_yld co_any co_und co_agg co_tup XW co_int XT co_ref co_pv XS co_sl co_vl XU co_mp co_fn XV co_yld
attribute [local simp] backB backB1 Yz Zs freshE lim lop YC okA okBlk plainA posOf putH rbB_row setH
def YY (n : Nat) : Nat → Nat
  | 0 => 2 ^ n - 1
  | k + 1 => ldN (YY n k) (2 ^ k)
theorem leftM_lt {n : Nat} (hn : n ≤ 10) : ∀ k, YY n k < 2 ^ n
  | 0 => by have := Nat.two_pow_pos n; simp only [YY]; omega
  | k + 1 => by
    have h1 := leftM_lt hn k
    have h2 := two_le hn
    have := ldN_le (a := YY n k) (b := 2 ^ k) (by omega)
    simp only [YY]; omega
def XH (ms : List Nat) (n : Nat) : Nat → List Int → List Nat
  | 0, _ => []
  | f + 1, p => match (Zl (ms.getD (n - (f + 1)) 0)).find? (canP ms (YY n (n - f)) p) with
    | some k => k :: XH ms n f (XI p k)
    | none => XH ms n f p
theorem storeG_step (ms : List Nat) {n k : Nat} (h : k < n) (p : List Int) : XH ms n (n - k) p = match (Zl (ms.getD k 0)).find? (canP ms (YY n (k + 1)) p) with
    | some j => j :: XH ms n (n - (k + 1)) (XI p j)
    | none => XH ms n (n - (k + 1)) p := by
  obtain ⟨f, hf⟩ : ∃ f, n - k = f + 1 := ⟨n - k - 1, by omega⟩
  rw [hf]
  simp only [XH]
  rw [show n - (f + 1) = k by omega, show n - f = k + 1 by omega, show n - (k + 1) = f by omega]
theorem renB_rJ (K : List Nat) (H : Zg) (d : Nat) (l : List Int) : Zf (Zf (YV K H (d + 1))) (l.map rJ) = some (l.map rJ) := ZQ _ fun r hr => ZQ _ fun x hx => by
  obtain ⟨y, _, rfl⟩ := List.mem_map.1 hr
  simp only [rJ, List.mem_singleton] at hx
  subst hx; rfl
theorem renB_rN (K : List Nat) (H : Zg) (d : Nat) (l : List Nat) : Zf (Zf (YV K H (d + 1))) (l.map rN) = some (l.map rN) := ZQ _ fun r hr => ZQ _ fun x hx => by
  obtain ⟨y, _, rfl⟩ := List.mem_map.1 hr
  simp only [rN, List.mem_singleton] at hx
  subst hx; rfl
def storeV (u d : Int) (its : List It5) (rs : List Rm3) : Za :=
  if depE u d its rs = 0 then (if YE (Xm u d its rs) (2 ^ its.length - 1) (rs.map fun r => r.2.2) = true then .tup [encL (XH (Xm u d its rs) its.length its.length (rs.map fun r => r.2.2)), I 0] else .tup [.nils, I 9])
  else .tup [.nils, I (depE u d its rs)]
theorem depE_ok {u d : Int} {its : List It5} {rs : List Rm3} (h : depE u d its rs = 0) : its.length ≤ 7 ∧ rs.length ≤ 4 ∧ (∀ x ∈ its, itB x = true) ∧ ∀ x ∈ rs, rmB x = true := by
  unfold depE at h
  split at h
  · simp at h
  · split at h
    · simp at h
    · rename_i h2
      simp only [Bool.or_eq_true, decide_eq_true_eq, not_or] at h2
      split at h
      · simp at h
      · rename_i h3
        simp only [Bool.or_eq_true, not_or, Bool.not_eq_true, List.any_eq_false, Bool.not_eq_eq_eq_not, Bool.not_not] at h3
        refine ⟨by omega, by omega, fun x hx => ?_, fun x hx => ?_⟩
        · have := h3.1 x hx; simpa using this
        · have := h3.2 x hx; simpa using this
theorem places_bd {rs : List Rm3} (h : ∀ x ∈ rs, rmB x = true) : ∀ x ∈ rs.map (fun r : Rm3 => r.2.2), 0 ≤ x ∧ x ≤ 7 := by
  intro x hx
  obtain ⟨r, hr, rfl⟩ := List.mem_map.1 hx
  have := h r hr
  simp only [rmB, wB, List.all_cons, List.all_nil, Bool.and_true, Bool.and_eq_true, decide_eq_true_eq] at this
  omega
theorem mays_lt (u d : Int) (its : List It5) (rs : List Rm3) : ∀ x ∈ Xm u d its rs, x < 2 ^ rs.length := by
  intro x hx
  obtain ⟨y, _, rfl⟩ := List.mem_map.1 hx
  exact mayK_lt u d y rs rs.length
theorem fits_none {ms : List Nat} {n : Nat} (hn : n ≤ 10) (h0 : ∀ i < n, ms.getD i 0 = 0) (h : YE ms (2 ^ n - 1) [] = true) : n = 0 := by
  rcases Nat.eq_zero_or_pos n with h1 | h1
  · exact h1
  · unfold YE at h
    rw [List.all_eq_true] at h
    have h2 := h 0 (List.mem_range.2 (by simp))
    simp only [bits_zero, hasL, decide_eq_true_eq] at h2
    have hb : 0 ∈ Zl (2 ^ n - 1) := mem_bits.2 ⟨by omega, by rw [Nat.testBit_two_pow_sub_one]; simpa using h1⟩
    have h3 : 0 ∈ (Zl (2 ^ n - 1)).filter fun i => subN (ms.getD i 0) 0 := by
      rw [List.mem_filter]
      exact ⟨hb, by rw [h0 0 h1]; rfl⟩
    have h4 : 0 < needL ms 0 (Zl (2 ^ n - 1)) := List.length_pos_of_mem h3
    omega
theorem a44 (T : Nat → Option CFn) (hTb : Zz Tryd.prog GG T) (hT : T 44 = some c44) (h75 : T 75 = some { c75 with body := annK [(7696581395468, [.cell 10 0]), (2166395068749415481073468416, [.cell 10 1])] [] c75.body, frsh := false, orc := o75 }) (h77 : T 77 = some { c77 with frsh := true, orc := o77 }) (h69 : T 69 = some c69) (h92 : T 92 = some { c92 with frsh := true, orc := o92 }) (h76 : T 76 = some { c76 with eff := freshE true sClone }) (u d : Int) (x y : Za) (its : List It5) (rs : List Rm3) (hx : Zn x = some (its.map rI5)) (hy : Zn y = some (rs.map rM3)) (hl : its.length ≤ 1000 ∧ rs.length ≤ 1000) : CAns Tryd.prog GG 44 [.agg [I u, I d], x, y] [] fun v h => frz false h 5 v = some (storeV u d its rs) := by
 have lx := ZD hx
 rw [List.length_map] at lx
 have rx := fun n d => ZH hx n d
 have fx := fun H d => ZB hx H d
 obtain ⟨cx1, cx2⟩ := ZI hx
 have ly := ZD hy
 rw [List.length_map] at ly
 have ry := fun n d => ZH hy n d
 have fy := fun H d => ZB hy H d
 obtain ⟨cy1, cy2⟩ := ZI hy
 have e75 := o75_eq hx hy hl u d
 refine cans_of hTb hT ?_
 simp only [oo, om, op, og, ci, cl, c44]
 by_cases hE : depE u d its rs = 0
 ·unfold depV at e75
  unfold storeV
  rw [if_pos hE] at e75 ⊢
  obtain ⟨hi7, hr4, _, hrb⟩ := depE_ok hE
  have hpb7 := places_bd hrb
  have hms := mays_lt u d its rs
  have hpll : (rs.map fun r : Rm3 => r.2.2).length = rs.length := by simp
  have hmsl : (Xm u d its rs).length = its.length := by simp [Xm]
  generalize Xm u d its rs = ms at *
  generalize (rs.map fun r : Rm3 => r.2.2) = pl at *
  rw [← hpll] at hms
  have hm16 := Nat.pow_le_pow_right (n := 2) (by decide) (show pl.length ≤ 4 by omega)
  have hm := encU_rows ms
  have h0 := encJ_rows pl
  have hmb : ∀ x ∈ ms, x < 1024 := fun x hx => by have := hms x hx; omega
  have hpb : ∀ x ∈ pl, 0 ≤ x ∧ x ≤ 1000 := fun x hx => by have := hpb7 x hx; omega
  obtain ⟨n, hn⟩ : ∃ n, n = its.length := ⟨_, rfl⟩
  rw [← hn] at hmsl lx hi7 ⊢
  have h2n := two_le (show n ≤ 10 by omega)
  have h2p := Nat.two_pow_pos n
  have hsh : shI .shl .u64 1 (n : Int) = some (.int .u64 ((2 ^ n : Nat) : Int)) := shl_one (by omega) .u64 (.inr rfl)
  have hL0 : YY n 0 = 2 ^ n - 1 := rfl
  have hwL : W .u64 (((2 ^ n : Nat) : Int) - 1) = ((YY n 0 : Nat) : Int) := by rw [hL0, show ((2 ^ n : Nat) : Int) - 1 = ((2 ^ n - 1 : Nat) : Int) by omega, W_u (by omega)]
  rw [← hL0]
  have hll := leftM_lt (show n ≤ 10 by omega)
  obtain ⟨N, hN⟩ : ∃ N : Int, (n : Int) = N := ⟨_, rfl⟩
  rw [hN] at hsh
  generalize ((2 ^ n : Nat) : Int) = n2 at *
  obtain ⟨L0, hL00⟩ : ∃ L : Int, ((YY n 0 : Nat) : Int) = L := ⟨_, rfl⟩
  rw [hL00] at hwL
  have rm := fun n d => ZH hm n d
  have r0' := fun n d => ZH h0 n d
  have fm := fun H d => ZB hm H d
  have f0 := fun H d => ZB h0 H d
  have nm_ : ∀ K H, YV K H 5 (.pv [encU ms, encJ pl] 0) = some (.pv [encU ms, encJ pl] 0) := fun K H => renV_flat K H 5 _ (by simp [rm, r0'])
  have nx_ : ∀ K H, YV K H 5 x = some x := fun K H => renV_flat K H 5 x (rx 0 4)
  by_cases hp0 : pl = []
  ·subst hp0
   have hmv0 : ∀ i < n, ms.getD i 0 = 0 := fun i hi => by
    have hi2 : i < ms.length := by omega
    have e : ms.getD i 0 = ms[i] := by simp [List.getD, List.getElem?_eq_getElem hi2]
    rw [e]; have := hms _ (List.getElem_mem hi2); simp at this; exact this
   have hfn := fun h => fits_none (show n ≤ 10 by omega) hmv0 h
   rw [← hL0] at hfn
   have e77 := o77_eq (mv := encU ms) (pv0 := encJ []) (plv := .nils) (pl := []) (s := YY n 0) hm h0 rfl (by omega) hmb (by simp) (by simp) (by rw [hmsl]; exact hll 0)
   rw [hL00] at e77
   have hjn : encJ [] = .nils := rfl
   rw [hjn] at *
   generalize encU ms = mv at *
   generalize YE ms (YY n 0) [] = B at *
   have HH1 := zA h75 (zA h77 (zA h76 (zA lx (zA rx (zA fx (zA cx1 (zA cx2 (zA ly (zA ry (zA fy (zA cy1 (zA cy2 (zA e75 (zA hN (zA hwL (zA rm (zA r0' (zA fm (zA f0 e77)))))))))))))))))))
   refine Zc ?_
   refine Zd Zj hTb (zR (zO (by simp [zC h75, zC h77, Zp h76 rfl, trim, -Zb, ↓hsh, sClone, HH1]; rfl) ?_))
   simp only [zT, zB]
   refine Zc ?_
   refine Zd Zj hTb (zR (zO (by simp [zC h75, zC h77, Zp h76 rfl, trim, -Zb, ↓hsh, sClone, HH1]; rfl) ?_))
   simp only [zT, zB]
   refine Zc ?_
   refine Zc ?_
   refine Zd Zj hTb (zR (zO (by simp [zC h75, zC h77, Zp h76 rfl, trim, -Zb, ↓hsh, sClone, HH1]; rfl) ?_))
   simp only [zT, zB]
   refine Zo (x := false) (by simp) ?_
   refine ZF ?_
   simp only [zT, zB]
   refine Zc ?_
   refine Zd Zj hTb (Zw (by simp (maxSteps := 3000000) [zC h75, zC h77, Zp h76 rfl, trim, -Zb, ↓hsh, sClone, HH1]; rfl) ?_)
   simp only [zT, zB]
   refine Zc ?_
   refine Zc ?_
   refine Zd Zj hTb (zR (zO (by simp [zC h75, zC h77, Zp h76 rfl, trim, -Zb, ↓hsh, sClone, HH1]; rfl) ?_))
   simp only [zT, zB]
   cases B
   ·refine Zo (x := true) (by simp) ?_
    refine Zc ?_
    refine Zd Zj hTb (zR (zO (by simp [zC h75, zC h77, Zp h76 rfl, trim, -Zb, ↓hsh, sClone, HH1]; rfl) ?_))
    simp only [zT, zB]
    refine cruns_ret ?_
    simp [zC h75, zC h77, Zp h76 rfl, trim, -Zb, ↓hsh, sClone, HH1]
   ·have hn0 : n = 0 := hfn rfl
    rw [if_pos rfl, hn0, show XH ms 0 0 [] = [] from rfl]
    have hN0 : N = 0 := by omega
    refine Zo (x := false) (by simp) ?_
    refine ZF ?_
    simp only [zT, zB]
    refine Zc ?_
    refine Zc ?_
    refine Zd Zj hTb (zR (zO (by simp [zC h75, zC h77, Zp h76 rfl, trim, -Zb, ↓hsh, sClone, HH1, hN0]; rfl) ?_))
    simp only [zT, zB]
    refine Yo ?_
    refine cruns_loop (k := 0) (fun m σ => σ = _) ⟨_, ren_kill 18015223143204800, rfl⟩ ?_
    rintro m σ rfl
    simp only [Xx]
    refine Zc ?_
    refine Zd Zj hTb (zR (zO (by simp [zC h75, zC h77, Zp h76 rfl, trim, -Zb, ↓hsh, sClone, HH1, hN0]; rfl) ?_))
    simp only [zT, zB]
    refine Zc ?_
    refine Zo (x := false) (by simp [zC h75, zC h77, Zp h76 rfl, trim, -Zb, ↓hsh, sClone, HH1, hN0]) ?_
    refine YD ?_
    simp only [zT, zB, if_true, if_false, reduceIte, Nat.reduceEqDiff, Nat.succ_ne_zero, Nat.one_ne_zero, Nat.zero_ne_one]
    refine Zc ?_
    refine Zd Zj hTb (zR (zO (by simp [zC h75, zC h77, Zp h76 rfl, trim, -Zb, ↓hsh, sClone, HH1, hN0]; rfl) ?_))
    simp only [zT, zB]
    refine cruns_ret ?_
    simp [zC h75, zC h77, Zp h76 rfl, trim, -Zb, ↓hsh, sClone, HH1, hN0, encL]
  ·have hplp : 0 < pl.length := List.length_pos_iff.2 hp0
   have hjc : encJ pl = .vl (pl.map rJ) false := by unfold encJ; rw [if_neg (by simpa using hp0)]
   have e76 : sClone [encJ pl] = some (.sl 0 0 pl.length false, [some (.row 1 (pl.map rJ))]) := by
    rw [hjc]; simp only [sClone, dJ1_self hpb]; rw [if_pos (by omega)]
   have hokb : okBlk true (some (Blk.row 1 (pl.map rJ))) = true := by simp [rJ]
   have hfz0 := fun H d => frz_rJ H d pl
   have tkp : (pl.map rJ).take pl.length = pl.map rJ := List.take_of_length_le (by simp)
   have hrj : ∀ n d, ((pl.map rJ).all fun r => r.all (rb n (d + 1))) = true := fun n d => rJ_rb n d pl
   have e77 : ∀ t, o77 [.pv [encU ms, encJ pl] 0, .int .u64 L0, .vl (pl.map rJ) t] = some (.bool (YE ms (YY n 0) pl)) := fun t => by
    rw [← hL00]; exact o77_eq (plv := .vl (pl.map rJ) t) hm h0 rfl (by omega) hmb (by omega) hpb (by rw [hmsl]; exact hll 0)
   have hren := fun K H d l => renB_rJ K H d l
   clear hjc
   generalize encU ms = mv at *
   generalize encJ pl = pv0 at *
   generalize YE ms (YY n 0) pl = B at *
   have HH2 := zA h75 (zA h77 (zA h76 (zA lx (zA rx (zA fx (zA cx1 (zA cx2 (zA ly (zA ry (zA fy (zA cy1 (zA cy2 (zA e75 (zA hN (zA hwL (zA rm (zA r0' (zA fm (zA f0 (zA e76 (zA e77 tkp)))))))))))))))))))))
   refine Zc ?_
   refine Zd Zj hTb (zR (zO (by simp [zC h75, zC h77, Zp h76 rfl, trim, -Zb, ↓hsh, ↓hokb, ↓hfz0, ↓hrj, HH2]; rfl) ?_))
   simp only [zT, zB]
   refine Zc ?_
   refine Zd Zj hTb (zR (zO (by simp [zC h75, zC h77, Zp h76 rfl, trim, -Zb, ↓hsh, ↓hokb, ↓hfz0, ↓hrj, HH2]; rfl) ?_))
   simp only [zT, zB]
   refine Zc ?_
   refine Zc ?_
   refine Zd Zj hTb (zR (zO (by simp [zC h75, zC h77, Zp h76 rfl, trim, -Zb, ↓hsh, ↓hokb, ↓hfz0, ↓hrj, HH2]; rfl) ?_))
   simp only [zT, zB]
   refine Zo (x := false) (by simp) ?_
   refine ZF ?_
   simp only [zT, zB]
   refine Zc ?_
   refine Zd Zj hTb (Zw (by simp (maxSteps := 3000000) [zC h75, zC h77, Zp h76 rfl, trim, -Zb, ↓hsh, ↓hokb, ↓hfz0, ↓hrj, HH2]; rfl) ?_)
   simp only [zT, zB]
   refine Zc ?_
   refine Zc ?_
   refine Zd Zj hTb (zR (zO (by simp [zC h75, zC h77, Zp h76 rfl, trim, -Zb, ↓hsh, ↓hokb, ↓hfz0, ↓hrj, HH2]; rfl) ?_))
   simp only [zT, zB]
   cases B
   ·refine Zo (x := true) (by simp) ?_
    refine Zc ?_
    refine Zd Zj hTb (zR (zO (by simp [zC h75, zC h77, Zp h76 rfl, trim, -Zb, ↓hsh, ↓hokb, ↓hfz0, ↓hrj, HH2]; rfl) ?_))
    simp only [zT, zB]
    refine cruns_ret ?_
    simp [zC h75, zC h77, Zp h76 rfl, trim, -Zb, ↓hsh, ↓hokb, ↓hfz0, ↓hrj, HH2]
   ·rw [if_pos rfl]
    refine Zo (x := false) (by simp) ?_
    refine ZF ?_
    simp only [zT, zB]
    refine Zc ?_
    refine Zc ?_
    refine Zd Zj hTb (zR (zO (by simp [zC h75, zC h77, Zp h76 rfl, trim, -Zb, ↓hsh, ↓hokb, ↓hfz0, ↓hrj, HH2]; rfl) ?_))
    simp only [zT, zB]
    refine Yo ?_
    refine cruns_loop (k := n - 0) (fun m σ => ∃ (k : Nat) (i Lf : Int) (p : List Int) (ac : List Nat), i = k ∧ n - k = m ∧ k ≤ n ∧ Lf = (YY n k : Nat) ∧ p.length = pl.length ∧ (∀ x ∈ p, 0 ≤ x ∧ x ≤ 1000) ∧ ac.length ≤ k ∧ (∀ x ∈ ac, x < 10) ∧ ac ++ XH ms n (n - k) p = XH ms n n pl ∧ ((ac = [] ∧ σ = ⟨[.any, .any, .any, .any, .any, .any, .ref 0 0 0, I 0, .ref 1 0 0, .ref 2 0 0, .ref 3 0 0, .any, .any, .any, .any, .any, .any, .any, .any, .any, .any, .any, .any, .any, .any, .any, .any, .any, .any, .any, .any, .any, .any, .any, .any, .any, .any, .any, I N, I i, .any, .any, .any, .any, .any, .any, .any, .any, .any, .any, .any, .any, .any, .any, .und, .any, .any, .any, .any, .any, .any, .any, .any, .any, .any, .any, .any, .any, .any, .any, .any, .any, .any, .any, .any, .any, .any, .any, .any, .any, .any, .any], [some (.row 1 [[.nils]]), some (.row 1 [[.pv [mv, pv0] 0]]), some (.row 1 [[.int .u64 Lf]]), some (.row 1 [[.sl 4 0 p.length false]]), some (.row 1 (p.map rJ)), none]⟩) ∨ (∃ pp : Nat, ac.length = pp + 1 ∧ σ = ⟨[.any, .any, .any, .any, .any, .any, .ref 0 0 0, I 0, .ref 1 0 0, .ref 2 0 0, .ref 3 0 0, .any, .any, .any, .any, .any, .any, .any, .any, .any, .any, .any, .any, .any, .any, .any, .any, .any, .any, .any, .any, .any, .any, .any, .any, .any, .any, .any, I N, I i, .any, .any, .any, .any, .any, .any, .any, .any, .any, .any, .any, .any, .any, .any, .und, .any, .any, .any, .any, .any, .any, .any, .any, .any, .any, .any, .any, .any, .any, .any, .any, .any, .any, .any, .any, .any, .any, .any, .any, .any, .any, .any], [some (.row 1 [[.sl 5 0 (pp + 1) false]]), some (.row 1 [[.pv [mv, pv0] 0]]), some (.row 1 [[.int .u64 Lf]]), some (.row 1 [[.sl 4 0 p.length false]]), some (.row 1 (p.map rJ)), some (.row 1 (ac.map rN))]⟩))) ⟨_, ZY 18015223143204800 [1, 2, 12, 13, 16, 99] (by decide) (by simp) rfl (by simp [zr, ZX, ZV, Zu, zC h75, zC h77, Zp h76 rfl, trim, -Zb, ↓hsh, HH2, nm_, ↓hren] <;> rfl) (by simp [zr, ZX, ZV, Zu, zC h75, zC h77, Zp h76 rfl, trim, -Zb, ↓hsh, HH2, nm_, ↓hren] <;> rfl), 0, 0, L0, pl, [], rfl, rfl, Nat.zero_le _, hL00.symm, rfl, hpb, Nat.zero_le _, (fun x h => by simp at h), rfl, .inl ⟨rfl, by simp⟩⟩ ?_
    rintro m σ ⟨k, i, Lf, p, ac, hik, rfl, hkn, hLf, hpl2, hpb2, hack, hac10, hR, hcase⟩
    rcases hcase with ⟨hac0, rfl⟩ | ⟨pp, hacl, rfl⟩
    ·have htk := trivial
     have hfzz := trivial
     have hrn := fun K H d l => renB_rN K H d l
     have hie := trivial
     refine Zc ?_
     refine Zd Zj hTb (zR (zO (by simp [zC h75, zC h77, Zp h76 rfl, trim, -Zb, ↓hsh, HH2, nm_, ↓hren, ↓hrn]; rfl) ?_))
     simp only [zT, zB]
     refine Zc ?_
     refine cruns_cond_split (x := decide (i < N)) (by simp) (fun hlt => ?_) (fun hlt => ?_)
     ·have hlt := of_decide_eq_true hlt
      have hkn' : k < n := by omega
      have hkm : k < ms.length := by omega
      obtain ⟨tm, rfl⟩ := ZE hm (k := k) (by simpa using hkm)
      have hi0 : 0 ≤ i := by omega
      have htn : i.toNat = k := by omega
      have hwi : W .i64 (i + 1) = i + 1 := Zt (by omega)
      have g1 : (ms.map rU)[k]? = some (rU ms[k]) := by rw [List.getElem?_map, List.getElem?_eq_getElem hkm]; rfl
      have g2 : ∀ h, (ms.map rU)[k]'h = rU ms[k] := fun h => by simp
      have hgd : ms.getD k 0 = ms[k] := by simp [List.getD, List.getElem?_eq_getElem hkm]
      have hst := storeG_step ms hkn' p
      rw [hgd] at hst
      have hsh2 : shI .shl .u64 1 i = some (.int .u64 ((2 ^ k : Nat) : Int)) := by rw [hik]; exact shl_one (by omega) .u64 (.inr rfl)
      have hno := not_u (a := YY n k) (b := 2 ^ k)
      rw [show ldN (YY n k) (2 ^ k) = YY n (k + 1) from rfl, ← hLf] at hno
      have hlk := hll (k + 1)
      obtain ⟨L2, hL2⟩ : ∃ L : Int, L = ((YY n (k + 1) : Nat) : Int) := ⟨_, rfl⟩
      rw [← hL2] at hno
      have hMb := hms _ (List.getElem_mem hkm)
      have hM10 : ms[k] < 1024 := by omega
      obtain ⟨M, hM⟩ : ∃ M : Int, ((ms[k] : Nat) : Int) = M := ⟨_, rfl⟩
      have hru : rU ms[k] = [.int .u64 M] := by rw [← hM]; rfl
      generalize hmk : ms[k] = mk at *
      generalize ((2 ^ k : Nat) : Int) = p2 at *
      have HH3 := zA nm_ (zA hi0 (zA htn (zA hwi (zA g1 (zA g2 (zA hru hkm))))))
      have HH4 := zA hsh (zA hren (zA hrn (zA hsh2 hno)))
      refine ZF ?_
      simp only [zT, zB]
      refine Zc ?_
      refine Yo ?_
      refine Zc ?_
      refine Zd Zj hTb (zR (zO (by simp [zC h75, zC h77, Zp h76 rfl, trim, -Zb, HH2, -List.getElem?_map, -List.getElem_map, HH3, ↓HH4]; rfl) ?_))
      simp only [zT, zB]
      refine Zc ?_
      refine Zd Zj hTb (Zw (by simp (maxSteps := 3000000) [zC h75, zC h77, Zp h76 rfl, trim, -Zb, HH2, -List.getElem?_map, -List.getElem_map, HH3, ↓HH4]; rfl) ?_)
      simp only [zT, zB]
      refine Yk (ZY 18015223143206848 [0, 1, 2, 3, 4, 5] (by decide) (by simp) rfl (by simp [zr, ZX, ZV, Zu, zC h75, zC h77, Zp h76 rfl, trim, -Zb, HH2, -List.getElem?_map, -List.getElem_map, HH3, ↓HH4] <;> rfl) (by simp [zr, ZX, ZV, Zu, zC h75, zC h77, Zp h76 rfl, trim, -Zb, HH2, -List.getElem?_map, -List.getElem_map, HH3, ↓HH4] <;> rfl)) ?_
      skip
      refine Zc ?_
      refine Zd Zj hTb (zR (zO (by simp [zC h75, zC h77, Zp h76 rfl, trim, -Zb, HH2, -List.getElem?_map, -List.getElem_map, HH3, ↓HH4]; rfl) ?_))
      simp only [zT, zB]
      refine Yk (ZY 27022422397945792 [0, 1, 2, 3, 4, 5] (by decide) (by simp) rfl (by simp [zr, ZX, ZV, Zu, zC h75, zC h77, Zp h76 rfl, trim, -Zb, HH2, -List.getElem?_map, -List.getElem_map, HH3, ↓HH4] <;> rfl) (by simp [zr, ZX, ZV, Zu, zC h75, zC h77, Zp h76 rfl, trim, -Zb, HH2, -List.getElem?_map, -List.getElem_map, HH3, ↓HH4] <;> rfl)) ?_
      refine Yo ?_
      refine Zd Zj hTb (runs_rf (f := 69) (a := [.int .u64 M]) (b := []) (by simp [inLoop]) (by simp) ?_)
      have hit := it69s Tryd.prog T h69 h92 mk hM10 6 7 (fun l g => (∀ j ∈ l, j < p.length) ∧ l.find? (canP ms (YY n (k + 1)) p) = (Zl mk).find? (canP ms (YY n (k + 1)) p) ∧ g = [some (.row 1 [[.nils]]), some (.row 1 [[.pv [.vl (ms.map rU) tm, pv0] 0]]), some (.row 1 [[.int .u64 L2]]), some (.row 1 [[.sl 4 0 p.length false]]), some (.row 1 (p.map rJ)), none, some (.loop (r44 N i M) [54] asg44 bd44 .ready none)])
       (fun g => ∃ j : Nat, (Zl mk).find? (canP ms (YY n (k + 1)) p) = some j ∧ j < p.length ∧ g = [some (.row 1 [[.sl 8 0 1 false]]), some (.row 1 [[.pv [.vl (ms.map rU) tm, pv0] 0]]), some (.row 1 [[.int .u64 L2]]), some (.row 1 [[.sl 4 0 p.length false]]), some (.row 1 ((XI p j).map rJ)), none, some (.loop (r44 N i M) [54] asg44 bd44 .done (some (.exit 2))), some (.row 1 [[I (j : Nat)]]), some (.row 1 [[I (j : Nat)]])])
       (fun l g ⟨_, _, e⟩ => by rw [e]; exact Nat.le_refl 7)
       (fun l g n vs hn ⟨h1, h2, e⟩ => ⟨h1, h2, by rw [trim_same (by rw [e]; exact hn)]; exact e⟩)
       (fun g h vs ⟨_, _, e⟩ ⟨j, h1, h2, e2⟩ => ⟨j, h1, h2, by rw [e, e2]; simp [trim]⟩)
       (fun j l g ⟨h1, h2, e⟩ hj10 => by
        rw [e]
        refine (y44n Tryd.prog T h77 (.vl (ms.map rU) tm) pv0 ms p (pl.map rJ) hm h0 (by omega) hmb (by omega) hpb2 N i M L2 (j : Nat) (YY n (k + 1)) j hL2 (by rw [hmsl]; exact hlk) rfl (h1 j (by simp))).mono ?_
        rintro v h' (⟨rfl, rfl, hc⟩ | ⟨rfl, rfl, hc⟩)
        ·exact .inl ⟨rfl, fun y hy => h1 y (by simp [hy]), by rw [← h2, List.find?_cons, hc], rfl⟩
        ·exact .inr ⟨rfl, j, by rw [← h2, List.find?_cons, hc], h1 j (by simp), rfl⟩) _
       ⟨fun j hj => by rw [hpl2]; exact XF hMb hj, rfl, rfl⟩
      rw [hM] at hit
      refine (show Zr Tryd.prog T 69 ([.int .u64 M] ++ [.yld 6] ++ []) [some (.row 1 [[.nils]]), some (.row 1 [[.pv [.vl (ms.map rU) tm, pv0] 0]]), some (.row 1 [[.int .u64 L2]]), some (.row 1 [[.sl 4 0 p.length false]]), some (.row 1 (p.map rJ)), none, some (.loop (r44 N i M) [54] asg44 bd44 .ready none)] _ from hit).mono ?_
      rintro _ h2 (⟨_, hf, rfl⟩ | ⟨j, hf, hjl, rfl⟩)
      ·rw [List.find?_nil] at hf
       rw [← hf] at hst
       simp only at hst
       refine ⟨_, _, _, _, _, _, rfl, by simp, ?_⟩
       simp only [List.set_cons_succ, List.set_cons_zero, List.length_cons, List.length_nil]
       try simp only [zT, zB]
       refine Zd Zj hTb (zR (zO (by simp [zC h75, zC h77, Zp h76 rfl, trim, -Zb, HH2, -List.getElem?_map, -List.getElem_map, HH3, ↓HH4]; rfl) ?_))
       simp only [zT, zB]
       exact ⟨n - (k + 1), _, by omega, ZY 18015223143204800 [0, 1, 2, 3, 4, 5] (by decide) (by simp) rfl (by simp [zr, ZX, ZV, Zu, zC h75, zC h77, Zp h76 rfl, trim, -Zb, HH2, -List.getElem?_map, -List.getElem_map, HH3, ↓HH4] <;> rfl) (by simp [zr, ZX, ZV, Zu, zC h75, zC h77, Zp h76 rfl, trim, -Zb, HH2, -List.getElem?_map, -List.getElem_map, HH3, ↓HH4] <;> rfl), k + 1, i + 1, L2, p, ac, by omega, rfl, by omega, hL2, hpl2, hpb2, by omega, hac10, by rw [← hst]; exact hR, .inl ⟨hac0, by simp⟩⟩
      ·rw [hf] at hst
       simp only at hst
       have hcj := List.find?_some hf
       have hjz : p.getD j 0 ≠ 0 := by
        unfold canP at hcj
        simp only [Bool.and_eq_true, decide_eq_true_eq] at hcj
        exact hcj.1
       have hdb := decP_bd hpb2 hjz
       have hdl := XE p j
       refine ⟨_, _, _, _, _, _, rfl, by simp, ?_⟩
       simp only [List.set_cons_succ, List.set_cons_zero, List.length_cons, List.length_nil]
       refine (Zv ?_)
       simp only [zT, zB, if_true, if_false, reduceIte, Nat.reduceEqDiff, Nat.succ_ne_zero, Nat.one_ne_zero, Nat.zero_ne_one]
       refine Zd Zj hTb (zR (zO (by simp [zC h75, zC h77, Zp h76 rfl, trim, -Zb, HH2, -List.getElem?_map, -List.getElem_map, HH3, ↓HH4, hdl]; rfl) ?_))
       simp only [zT, zB]
       exact ⟨n - (k + 1), _, by omega, ZY 18015223143204800 [0, 1, 2, 3, 4, 8] (by decide) (by simp) rfl (by simp [zr, ZX, ZV, Zu, zC h75, zC h77, Zp h76 rfl, trim, -Zb, HH2, -List.getElem?_map, -List.getElem_map, HH3, ↓HH4, hdl] <;> rfl) (by simp [zr, ZX, ZV, Zu, zC h75, zC h77, Zp h76 rfl, trim, -Zb, HH2, -List.getElem?_map, -List.getElem_map, HH3, ↓HH4, hdl] <;> rfl), k + 1, i + 1, L2, XI p j, ac ++ [j], by omega, rfl, by omega, hL2, by rw [hdl]; exact hpl2, hdb, by simp; omega, (fun x hx => by rcases List.mem_append.1 hx with h | h; exact hac10 x h; simp at h; omega), by rw [List.append_assoc, List.singleton_append, ← hst]; exact hR, .inr ⟨0, by simp [hac0], by simp [hdl, hac0, rN]⟩⟩
     ·have hlt := of_decide_eq_false hlt
      obtain rfl : k = n := by omega
      rw [Nat.sub_self, show XH ms k 0 p = [] from rfl, List.append_nil] at hR
      rw [← hR]
      rw [hac0]
      refine YD ?_
      simp only [zT, zB, if_true, if_false, reduceIte, Nat.reduceEqDiff, Nat.succ_ne_zero, Nat.one_ne_zero, Nat.zero_ne_one]
      refine Zc ?_
      refine Zd Zj hTb (zR (zO (by simp [zC h75, zC h77, Zp h76 rfl, trim, -Zb, ↓hsh, HH2, nm_, ↓hren, ↓hrn]; rfl) ?_))
      simp only [zT, zB]
      refine cruns_ret ?_
      simp [zC h75, zC h77, Zp h76 rfl, trim, -Zb, ↓hsh, HH2, nm_, ↓hren, ↓hrn, encL]
    ·have htk : (ac.map rN).take (pp + 1) = ac.map rN := List.take_of_length_le (by simp [hacl])
     have hfzz := fun H d => rN_frz H d ac
     have hrn := fun K H d l => renB_rN K H d l
     have hie : ac.isEmpty = false := by cases ac with
      | nil => simp at hacl
      | cons y l => rfl
     refine Zc ?_
     refine Zd Zj hTb (zR (zO (by simp [zC h75, zC h77, Zp h76 rfl, trim, -Zb, ↓hsh, HH2, nm_, ↓hren, htk, ↓hfzz, ↓hrn, hie, hacl]; rfl) ?_))
     simp only [zT, zB]
     refine Zc ?_
     refine cruns_cond_split (x := decide (i < N)) (by simp) (fun hlt => ?_) (fun hlt => ?_)
     ·have hlt := of_decide_eq_true hlt
      have hkn' : k < n := by omega
      have hkm : k < ms.length := by omega
      obtain ⟨tm, rfl⟩ := ZE hm (k := k) (by simpa using hkm)
      have hi0 : 0 ≤ i := by omega
      have htn : i.toNat = k := by omega
      have hwi : W .i64 (i + 1) = i + 1 := Zt (by omega)
      have g1 : (ms.map rU)[k]? = some (rU ms[k]) := by rw [List.getElem?_map, List.getElem?_eq_getElem hkm]; rfl
      have g2 : ∀ h, (ms.map rU)[k]'h = rU ms[k] := fun h => by simp
      have hgd : ms.getD k 0 = ms[k] := by simp [List.getD, List.getElem?_eq_getElem hkm]
      have hst := storeG_step ms hkn' p
      rw [hgd] at hst
      have hsh2 : shI .shl .u64 1 i = some (.int .u64 ((2 ^ k : Nat) : Int)) := by rw [hik]; exact shl_one (by omega) .u64 (.inr rfl)
      have hno := not_u (a := YY n k) (b := 2 ^ k)
      rw [show ldN (YY n k) (2 ^ k) = YY n (k + 1) from rfl, ← hLf] at hno
      have hlk := hll (k + 1)
      obtain ⟨L2, hL2⟩ : ∃ L : Int, L = ((YY n (k + 1) : Nat) : Int) := ⟨_, rfl⟩
      rw [← hL2] at hno
      have hMb := hms _ (List.getElem_mem hkm)
      have hM10 : ms[k] < 1024 := by omega
      obtain ⟨M, hM⟩ : ∃ M : Int, ((ms[k] : Nat) : Int) = M := ⟨_, rfl⟩
      have hru : rU ms[k] = [.int .u64 M] := by rw [← hM]; rfl
      generalize hmk : ms[k] = mk at *
      generalize ((2 ^ k : Nat) : Int) = p2 at *
      have HH5 := zA nm_ (zA htk (zA hie (zA hacl (zA hi0 (zA htn (zA hwi (zA g1 (zA g2 (zA hru hkm)))))))))
      have HH6 := zA hsh (zA hren (zA hfzz (zA hrn (zA hsh2 hno))))
      refine ZF ?_
      simp only [zT, zB]
      refine Zc ?_
      refine Yo ?_
      refine Zc ?_
      refine Zd Zj hTb (zR (zO (by simp [zC h75, zC h77, Zp h76 rfl, trim, -Zb, HH2, -List.getElem?_map, -List.getElem_map, HH5, ↓HH6]; rfl) ?_))
      simp only [zT, zB]
      refine Zc ?_
      refine Zd Zj hTb (Zw (by simp (maxSteps := 3000000) [zC h75, zC h77, Zp h76 rfl, trim, -Zb, HH2, -List.getElem?_map, -List.getElem_map, HH5, ↓HH6]; rfl) ?_)
      simp only [zT, zB]
      refine Yk (ZY 18015223143206848 [0, 1, 2, 3, 4, 5] (by decide) (by simp) rfl (by simp [zr, ZX, ZV, Zu, zC h75, zC h77, Zp h76 rfl, trim, -Zb, HH2, -List.getElem?_map, -List.getElem_map, HH5, ↓HH6] <;> rfl) (by simp [zr, ZX, ZV, Zu, zC h75, zC h77, Zp h76 rfl, trim, -Zb, HH2, -List.getElem?_map, -List.getElem_map, HH5, ↓HH6] <;> rfl)) ?_
      skip
      refine Zc ?_
      refine Zd Zj hTb (zR (zO (by simp [zC h75, zC h77, Zp h76 rfl, trim, -Zb, HH2, -List.getElem?_map, -List.getElem_map, HH5, ↓HH6]; rfl) ?_))
      simp only [zT, zB]
      refine Yk (ZY 27022422397945792 [0, 1, 2, 3, 4, 5] (by decide) (by simp) rfl (by simp [zr, ZX, ZV, Zu, zC h75, zC h77, Zp h76 rfl, trim, -Zb, HH2, -List.getElem?_map, -List.getElem_map, HH5, ↓HH6] <;> rfl) (by simp [zr, ZX, ZV, Zu, zC h75, zC h77, Zp h76 rfl, trim, -Zb, HH2, -List.getElem?_map, -List.getElem_map, HH5, ↓HH6] <;> rfl)) ?_
      refine Yo ?_
      refine Zd Zj hTb (runs_rf (f := 69) (a := [.int .u64 M]) (b := []) (by simp [inLoop]) (by simp) ?_)
      have hit := it69s Tryd.prog T h69 h92 mk hM10 6 7 (fun l g => (∀ j ∈ l, j < p.length) ∧ l.find? (canP ms (YY n (k + 1)) p) = (Zl mk).find? (canP ms (YY n (k + 1)) p) ∧ g = [some (.row 1 [[.sl 5 0 (pp + 1) false]]), some (.row 1 [[.pv [.vl (ms.map rU) tm, pv0] 0]]), some (.row 1 [[.int .u64 L2]]), some (.row 1 [[.sl 4 0 p.length false]]), some (.row 1 (p.map rJ)), some (.row 1 (ac.map rN)), some (.loop (r44 N i M) [54] asg44 bd44 .ready none)])
       (fun g => ∃ j : Nat, (Zl mk).find? (canP ms (YY n (k + 1)) p) = some j ∧ j < p.length ∧ g = [some (.row 1 [[.sl 8 0 (pp + 1 + 1) false]]), some (.row 1 [[.pv [.vl (ms.map rU) tm, pv0] 0]]), some (.row 1 [[.int .u64 L2]]), some (.row 1 [[.sl 4 0 p.length false]]), some (.row 1 ((XI p j).map rJ)), none, some (.loop (r44 N i M) [54] asg44 bd44 .done (some (.exit 2))), some (.row 1 [[I (j : Nat)]]), some (.row 1 (ac.map rN ++ [[I (j : Nat)]]))])
       (fun l g ⟨_, _, e⟩ => by rw [e]; exact Nat.le_refl 7)
       (fun l g n vs hn ⟨h1, h2, e⟩ => ⟨h1, h2, by rw [trim_same (by rw [e]; exact hn)]; exact e⟩)
       (fun g h vs ⟨_, _, e⟩ ⟨j, h1, h2, e2⟩ => ⟨j, h1, h2, by rw [e, e2]; simp [trim]⟩)
       (fun j l g ⟨h1, h2, e⟩ hj10 => by
        rw [e]
        refine (y44s Tryd.prog T h77 (.vl (ms.map rU) tm) pv0 ms p (pl.map rJ) hm h0 (by omega) hmb (by omega) hpb2 pp ac hacl (by omega) N i M L2 (j : Nat) (YY n (k + 1)) j hL2 (by rw [hmsl]; exact hlk) rfl (h1 j (by simp))).mono ?_
        rintro v h' (⟨rfl, rfl, hc⟩ | ⟨rfl, rfl, hc⟩)
        ·exact .inl ⟨rfl, fun y hy => h1 y (by simp [hy]), by rw [← h2, List.find?_cons, hc], rfl⟩
        ·exact .inr ⟨rfl, j, by rw [← h2, List.find?_cons, hc], h1 j (by simp), rfl⟩) _
       ⟨fun j hj => by rw [hpl2]; exact XF hMb hj, rfl, rfl⟩
      rw [hM] at hit
      refine (show Zr Tryd.prog T 69 ([.int .u64 M] ++ [.yld 6] ++ []) [some (.row 1 [[.sl 5 0 (pp + 1) false]]), some (.row 1 [[.pv [.vl (ms.map rU) tm, pv0] 0]]), some (.row 1 [[.int .u64 L2]]), some (.row 1 [[.sl 4 0 p.length false]]), some (.row 1 (p.map rJ)), some (.row 1 (ac.map rN)), some (.loop (r44 N i M) [54] asg44 bd44 .ready none)] _ from hit).mono ?_
      rintro _ h2 (⟨_, hf, rfl⟩ | ⟨j, hf, hjl, rfl⟩)
      ·rw [List.find?_nil] at hf
       rw [← hf] at hst
       simp only at hst
       refine ⟨_, _, _, _, _, _, rfl, by simp, ?_⟩
       simp only [List.set_cons_succ, List.set_cons_zero, List.length_cons, List.length_nil]
       try simp only [zT, zB]
       refine Zd Zj hTb (zR (zO (by simp [zC h75, zC h77, Zp h76 rfl, trim, -Zb, HH2, -List.getElem?_map, -List.getElem_map, HH5, ↓HH6]; rfl) ?_))
       simp only [zT, zB]
       exact ⟨n - (k + 1), _, by omega, ZY 18015223143204800 [0, 1, 2, 3, 4, 5] (by decide) (by simp) rfl (by simp [zr, ZX, ZV, Zu, zC h75, zC h77, Zp h76 rfl, trim, -Zb, HH2, -List.getElem?_map, -List.getElem_map, HH5, ↓HH6] <;> rfl) (by simp [zr, ZX, ZV, Zu, zC h75, zC h77, Zp h76 rfl, trim, -Zb, HH2, -List.getElem?_map, -List.getElem_map, HH5, ↓HH6] <;> rfl), k + 1, i + 1, L2, p, ac, by omega, rfl, by omega, hL2, hpl2, hpb2, by omega, hac10, by rw [← hst]; exact hR, .inr ⟨pp, hacl, by simp⟩⟩
      ·rw [hf] at hst
       simp only at hst
       have hcj := List.find?_some hf
       have hjz : p.getD j 0 ≠ 0 := by
        unfold canP at hcj
        simp only [Bool.and_eq_true, decide_eq_true_eq] at hcj
        exact hcj.1
       have hdb := decP_bd hpb2 hjz
       have hdl := XE p j
       refine ⟨_, _, _, _, _, _, rfl, by simp, ?_⟩
       simp only [List.set_cons_succ, List.set_cons_zero, List.length_cons, List.length_nil]
       refine (Zv ?_)
       simp only [zT, zB, if_true, if_false, reduceIte, Nat.reduceEqDiff, Nat.succ_ne_zero, Nat.one_ne_zero, Nat.zero_ne_one]
       have hap : ∀ K H d, Zf (Zf (YV K H (d + 1))) (ac.map rN ++ [[I (j : Nat)]]) = some (ac.map rN ++ [[I (j : Nat)]]) := fun K H d => by
        have h := renB_rN K H d (ac ++ [j])
        rwa [List.map_append] at h
       refine Zd Zj hTb (zR (zO (by simp [zC h75, zC h77, Zp h76 rfl, trim, -Zb, HH2, -List.getElem?_map, -List.getElem_map, HH5, ↓HH6, ↓hap, hdl]; rfl) ?_))
       simp only [zT, zB]
       exact ⟨n - (k + 1), _, by omega, ZY 18015223143204800 [0, 1, 2, 3, 4, 8] (by decide) (by simp) rfl (by simp [zr, ZX, ZV, Zu, zC h75, zC h77, Zp h76 rfl, trim, -Zb, HH2, -List.getElem?_map, -List.getElem_map, HH5, ↓HH6, ↓hap, hdl] <;> rfl) (by simp [zr, ZX, ZV, Zu, zC h75, zC h77, Zp h76 rfl, trim, -Zb, HH2, -List.getElem?_map, -List.getElem_map, HH5, ↓HH6, ↓hap, hdl] <;> rfl), k + 1, i + 1, L2, XI p j, ac ++ [j], by omega, rfl, by omega, hL2, by rw [hdl]; exact hpl2, hdb, by simp; omega, (fun x hx => by rcases List.mem_append.1 hx with h | h; exact hac10 x h; simp at h; omega), by rw [List.append_assoc, List.singleton_append, ← hst]; exact hR, .inr ⟨pp + 1, by simp [hacl], by simp [hdl, rN]⟩⟩
     ·have hlt := of_decide_eq_false hlt
      obtain rfl : k = n := by omega
      rw [Nat.sub_self, show XH ms k 0 p = [] from rfl, List.append_nil] at hR
      rw [← hR]
      refine YD ?_
      simp only [zT, zB, if_true, if_false, reduceIte, Nat.reduceEqDiff, Nat.succ_ne_zero, Nat.one_ne_zero, Nat.zero_ne_one]
      refine Zc ?_
      refine Zd Zj hTb (zR (zO (by simp [zC h75, zC h77, Zp h76 rfl, trim, -Zb, ↓hsh, HH2, nm_, ↓hren, htk, ↓hfzz, ↓hrn, hie, hacl]; rfl) ?_))
      simp only [zT, zB]
      refine cruns_ret ?_
      simp [zC h75, zC h77, Zp h76 rfl, trim, -Zb, ↓hsh, HH2, nm_, ↓hren, htk, ↓hfzz, ↓hrn, hie, hacl, encL]
 ·unfold depV at e75
  unfold storeV
  rw [if_neg hE] at e75 ⊢
  have hEb : (depE u d its rs != 0) = true := by simpa using hE
  generalize depE u d its rs = E at *
  have HH7 := zA h75 (zA h77 (zA h76 (zA lx (zA rx (zA fx (zA cx1 (zA cx2 (zA ly (zA ry (zA fy (zA cy1 (zA cy2 (zA e75 hEb)))))))))))))
  refine Zc ?_
  refine Zd Zj hTb (zR (zO (by simp [zC h75, zC h77, Zp h76 rfl, trim, -Zb, HH7]; rfl) ?_))
  simp only [zT, zB]
  refine Zc ?_
  refine Zd Zj hTb (zR (zO (by simp [zC h75, zC h77, Zp h76 rfl, trim, -Zb, HH7]; rfl) ?_))
  simp only [zT, zB]
  refine Zc ?_
  refine Zc ?_
  refine Zd Zj hTb (zR (zO (by simp [zC h75, zC h77, Zp h76 rfl, trim, -Zb, HH7]; rfl) ?_))
  simp only [zT, zB]
  refine Zo (x := true) (by simp) ?_
  refine Zc ?_
  refine Zd Zj hTb (zR (zO (by simp [zC h75, zC h77, Zp h76 rfl, trim, -Zb, HH7]; rfl) ?_))
  simp only [zT, zB]
  refine cruns_ret ?_
  simp [zC h75, zC h77, Zp h76 rfl, trim, -Zb, HH7]
end
end
end Go.Proofs.YtpebmjeomlgmdaaDoor.Tab
namespace Go.Proofs.YtpebmjeomlgmdaaDoor.Tab
open Go Go.Abs Go.Proofs
set_option maxRecDepth 100000
set_option maxHeartbeats 4000000
set_option linter.unusedSimpArgs false
set_option linter.unusedVariables false
noncomputable section
attribute [local simp] YF Yn Xy Xz YL YG XA YK Xe Yx Zf orcF Xs YT Xu Xq YS Yv rb_vl rb_pv Xo YR YQ YP Xt Xp Xr rb_sl rb_fn slE XZ Xj Ym ZN XC List.range_succ List.range_zero List.range'_succ List.range'_zero Yd Yb ZC Yf ZP ZU Xl Yh dop CV.ev Yp Zx ZK Xb fI_eq Yq Ya ZJ Zy Out.v XG List.replicate_succ zT zB arI ZL Abs.rowAt XB allV toV toC ofV ofC Builtin.min_ Builtin.min2 Builtin.max_ Builtin.max2 Xv Xw resA tupA Xx Yc Ys Yt Yr Zb
section
attribute [local simp] Ye ZR YW YN actD Xn disj YZ holes Xa ZW Xd news eqB Xh eqA YJ Xi toCs ofCs stA Yu ZS Yy dI1 dI2 dI3 dI5 elt
attribute [local simp] st_any st_und st_agg st_tup XR st_int XO st_ref st_pv XN st_sl st_vl XP st_mp st_fn XQ st_yld co_any co_und co_agg co_tup XW co_int XT co_ref co_pv XS co_sl co_vl XU co_mp co_fn XV co_yld
attribute [local simp] Yz Zs lim lop YC
def o44 : List Za → Option Za
  | [.agg [.int .i64 u, .int .i64 d], x, y] => match Zn x, Zn y with
    | some r, some s => match Zf dI5' r, Zf dM3 s with
      | some its, some rs => if its.length ≤ 1000 ∧ rs.length ≤ 1000 then some (storeV u d its rs) else none
      | _, _ => none
    | _, _ => none
  | _ => none
theorem o44_eq {x y : Za} {its : List It5} {rs : List Rm3} (hx : Zn x = some (its.map rI5)) (hy : Zn y = some (rs.map rM3)) (hl : its.length ≤ 1000 ∧ rs.length ≤ 1000) (u d : Int) : o44 [.agg [I u, I d], x, y] = some (storeV u d its rs) := by
  have h1 := XL (d := dI5') (enc := rI5) (fun _ => rfl) its
  have h2 := XL (d := dM3) (enc := rM3) (fun _ => rfl) rs
  simp only [o44, hx, hy, h1, h2]; rw [if_pos hl]
def DX3 : Nat → Option CFn := upd0 (upd0 DX2 44) 47
theorem DX3_ok : Zz Tryd.prog GG DX3 := tab_upd0 (tab_upd0 DX2_ok)
def DX4 : Nat → Option CFn := upd DX3 44 false o44
theorem DX4_ok : Zz Tryd.prog GG DX4 := tab_upd DX3_ok fun args v ho => by
  unfold o44 at ho; split at ho <;> (try simp only [reduceCtorEq] at ho)
  rename_i u d x y
  split at ho <;> (try simp only [reduceCtorEq] at ho)
  rename_i r s hx hy
  split at ho <;> (try simp only [reduceCtorEq] at ho)
  rename_i its rs hr hs
  split at ho <;> (try simp only [reduceCtorEq] at ho)
  rename_i hg
  simp only [Option.some.injEq] at ho
  subst ho
  have hx' : Zn x = some (its.map rI5) := by rw [hx, YA (enc := rI5) dI5'_eq hr]
  have hy' : Zn y = some (rs.map rM3) := by rw [hy, YA (enc := rM3) dM3_eq hs]
  exact orc_cans (a44 DX3 DX3_ok rfl rfl rfl rfl rfl rfl u d x y its rs hx' hy' hg)
def bestA (ms : List Nat) (pl : List Int) : Nat → Option Nat
  | 0 => none
  | k + 1 => if YE ms k pl = true then bestA ms pl k else match bestA ms pl k with
    | none => some k
    | some b => if (Zl k).length < (Zl b).length ∨ ((Zl k).length = (Zl b).length ∧ lexC (Zl k) (Zl b) < 0) then some k else some b
def encB : Option Nat → Za
  | none => .nils
  | some b => encL (Zl b)
def agV : Option Nat → Za
  | none => .tup [.nils, I 7]
  | some b => .tup [encL (Zl b), I 0]
def againstV (u d : Int) (its : List It5) (rs : List Rm3) : Za :=
  if depE u d its rs = 0 then agV (bestA (Xm u d its rs) (rs.map fun r => r.2.2) (2 ^ its.length)) else .tup [.nils, I (depE u d its rs)]
theorem fits_zero {ms : List Nat} {pl : List Int} (h : ∀ x ∈ pl, 0 ≤ x ∧ x ≤ 1000) : YE ms 0 pl = true := by
  unfold YE
  rw [List.all_eq_true]
  intro R _
  rw [bits_zero]
  have := (hasL_bd h (Zl R)).1
  refine decide_eq_true ?_
  show ((0 : Nat) : Int) ≤ _
  omega
theorem bestA_lt {ms : List Nat} {pl : List Int} (h : ∀ x ∈ pl, 0 ≤ x ∧ x ≤ 1000) : ∀ (k b : Nat), bestA ms pl k = some b → b < k ∧ b ≠ 0 ∧ YE ms b pl = false
  | 0, b, hb => by simp [bestA] at hb
  | k + 1, b, hb => by
    simp only [bestA] at hb
    have ih := bestA_lt (ms := ms) h k
    split at hb
    · obtain ⟨h1, h2⟩ := ih b hb; exact ⟨by omega, h2⟩
    · rename_i hf
      have hk : k ≠ 0 := fun e => hf (by rw [e]; exact fits_zero h)
      have hf' : YE ms k pl = false := by simpa using hf
      split at hb
      · simp at hb; subst hb; exact ⟨by omega, hk, hf'⟩
      · rename_i b0 e
        obtain ⟨h1, h2⟩ := ih b0 e
        split at hb
        · simp at hb; subst hb; exact ⟨by omega, hk, hf'⟩
        · simp at hb; subst hb; exact ⟨by omega, h2⟩
theorem bits_ne {s : Nat} (hs : s < 1024) (h : s ≠ 0) : Zl s ≠ [] := by rw [(bits_step hs h).1]; simp
theorem frz_rN0 (h : Zg) (d : Nat) (l : List Nat) : frz false h (d + 1) (.vl (l.map rN) false) = some (.vl (l.map rN) false) := rfl
theorem a47 (P : Program) (T : Nat → Option CFn) (hT : T 47 = some c47) (h68 : T 68 = some { c68 with frsh := false, orc := o68 }) (h75 : T 75 = some { c75 with body := annK [(7696581395468, [.cell 10 0]), (2166395068749415481073468416, [.cell 10 1])] [] c75.body, frsh := false, orc := o75 }) (h77 : T 77 = some { c77 with frsh := true, orc := o77 }) (h78 : T 78 = some { c78 with frsh := true, orc := o78 }) (u d : Int) (x y : Za) (its : List It5) (rs : List Rm3) (hx : Zn x = some (its.map rI5)) (hy : Zn y = some (rs.map rM3)) (hl : its.length ≤ 1000 ∧ rs.length ≤ 1000) : Zr P T 47 [.agg [I u, I d], x, y] [] fun v h => frz false h 5 v = some (againstV u d its rs) := by
 have lx := ZD hx
 rw [List.length_map] at lx
 have rx := fun n d => ZH hx n d
 have fx := fun H d => ZB hx H d
 obtain ⟨cx1, cx2⟩ := ZI hx
 have ly := ZD hy
 rw [List.length_map] at ly
 have ry := fun n d => ZH hy n d
 have fy := fun H d => ZB hy H d
 obtain ⟨cy1, cy2⟩ := ZI hy
 have e75 := o75_eq hx hy hl u d
 refine Zm hT (Zq rfl) ?_
 simp only [oo, om, op, og, ci, cl, c47]
 by_cases hE : depE u d its rs = 0
 ·unfold depV at e75
  unfold againstV
  rw [if_pos hE] at e75 ⊢
  obtain ⟨hi7, hr4, _, hrb⟩ := depE_ok hE
  have hpb7 := places_bd hrb
  have hms := mays_lt u d its rs
  have hpll : (rs.map fun r : Rm3 => r.2.2).length = rs.length := by simp
  have hmsl : (Xm u d its rs).length = its.length := by simp [Xm]
  generalize Xm u d its rs = ms at *
  generalize (rs.map fun r : Rm3 => r.2.2) = pl at *
  rw [← hpll] at hms
  have hm16 := Nat.pow_le_pow_right (n := 2) (by decide) (show pl.length ≤ 4 by omega)
  have hm := encU_rows ms
  have h0 := encJ_rows pl
  have hmb : ∀ x ∈ ms, x < 1024 := fun x hx => by have := hms x hx; omega
  have hpb : ∀ x ∈ pl, 0 ≤ x ∧ x ≤ 1000 := fun x hx => by have := hpb7 x hx; omega
  obtain ⟨n, hn⟩ : ∃ n, n = its.length := ⟨_, rfl⟩
  rw [← hn] at hmsl lx hi7 ⊢
  have h2n := two_le (show n ≤ 10 by omega)
  have hsh : shI .shl .u64 1 (n : Int) = some (.int .u64 ((2 ^ n : Nat) : Int)) := shl_one (by omega) .u64 (.inr rfl)
  have hmN : 2 ^ ms.length = 2 ^ n := by rw [hmsl]
  generalize hMn : 2 ^ n = Mn at *
  obtain ⟨M, hM⟩ : ∃ M : Int, M = (Mn : Int) := ⟨_, rfl⟩
  rw [← hM] at hsh
  have rm := fun n d => ZH hm n d
  have r0' := fun n d => ZH h0 n d
  have fm := fun H d => ZB hm H d
  have f0 := fun H d => ZB h0 H d
  have e77 : ∀ s : Nat, s < Mn → o77 [.pv [encU ms, encJ pl] 0, .int .u64 (s : Nat), encJ pl] = some (.bool (YE ms s pl)) := fun s hs => o77_eq hm h0 h0 (by omega) hmb (by omega) hpb (by rw [hmN]; exact hs)
  have cj := ZI h0
  obtain ⟨cj1, cj2⟩ := cj
  generalize encU ms = mv at *
  generalize encJ pl = pv0 at *
  have HH1 := zA h68 (zA h75 (zA h77 (zA h78 (zA lx (zA rx (zA fx (zA cx1 (zA cx2 (zA ly (zA ry (zA fy (zA cy1 (zA cy2 (zA e75 (zA rm (zA r0' (zA fm (zA f0 (zA cj1 cj2)))))))))))))))))))
  refine zS ?_
  refine zR (zO (by simp [zC h68, zC h75, zC h77, zC h78, trim, ZA, -Zb, ↓hsh, HH1]; rfl) ?_)
  simp only [zT, zB]
  refine zS ?_
  refine zR (zO (by simp [zC h68, zC h75, zC h77, zC h78, trim, ZA, -Zb, ↓hsh, HH1]; rfl) ?_)
  simp only [zT, zB]
  refine zS ?_
  refine zS ?_
  refine zR (zO (by simp [zC h68, zC h75, zC h77, zC h78, trim, ZA, -Zb, ↓hsh, HH1]; rfl) ?_)
  simp only [zT, zB]
  refine Zh (x := false) (by simp) ?_
  refine zK ?_
  simp only [zT, zB]
  refine zS ?_
  refine zS ?_
  refine zR (zO (by simp [zC h68, zC h75, zC h77, zC h78, trim, ZA, -Zb, ↓hsh, HH1]; rfl) ?_)
  simp only [zT, zB]
  refine zL ?_
  refine Yi (fun m σ => ∃ (k : Nat) (K : Int), K = k ∧ Mn - k = m ∧ k ≤ Mn ∧ σ = ⟨[.any, .any, .any, .any, .any, .any, encB (bestA ms pl k), .any, .pv [mv, pv0] 0, .any, .any, .any, .any, .any, .any, .any, .any, .any, .any, .any, .any, .any, .any, .int .u64 M, .int .u64 K, .any, .any, .any, .any, .any, .any, .any, .any, .any, .any, .any, .any, .any, .any, .any, .any, .any, .any, .any, .any, .any, .any, .any, .any, .any, .any, .any, .any, .any, .any, .any, .any, .any, .any, .any, .any, .any, .any, .any], [some (.row 2 [[I u, I d]])]⟩) ?_ (Mn - 0) _ ⟨0, 0, rfl, rfl, Nat.zero_le _, by simp [encB, bestA]⟩
  rintro m σ ⟨k, K, hK, rfl, hkl, rfl⟩
  refine zS ?_
  refine zR (zO (by simp [zC h68, zC h75, zC h77, zC h78, trim, ZA, -Zb, ↓hsh, HH1]; rfl) ?_)
  simp only [zT, zB]
  refine zS ?_
  refine Zi (x := decide (K < M)) (by simp) (fun hlt => ?_) (fun hlt => ?_)
  ·have hlt := of_decide_eq_true hlt
   have hk : k < Mn := by omega
   have hk10 : k < 1024 := by omega
   have hwK : W .u64 (K + 1) = K + 1 := by rw [show K + 1 = ((k + 1 : Nat) : Int) by omega, W_u (by omega)]
   have e77 := e77 k hk
   rw [← hK] at e77
   have hbs : bestA ms pl (k + 1) = if YE ms k pl = true then bestA ms pl k else match bestA ms pl k with
     | none => some k
     | some b => if (Zl k).length < (Zl b).length ∨ ((Zl k).length = (Zl b).length ∧ lexC (Zl k) (Zl b) < 0) then some k else some b := rfl
   have hbl := fun b => bestA_lt (ms := ms) hpb k b
   have hz0 := fits_zero (ms := ms) hpb
   have h68e := o68_eq hk10
   rw [← hK] at h68e
   rcases Bool.eq_false_or_eq_true (YE ms k pl) with hB | hB
   ·rw [hB] at e77
    rw [if_pos hB] at hbs
    refine zK ?_
    simp only [zT, zB]
    refine zS ?_
    refine zL ?_
    refine zS ?_
    refine zR (zO (by simp [zC h68, zC h75, zC h77, zC h78, trim, ZA, -Zb, ↓hsh, HH1, hwK, e77]; rfl) ?_)
    simp only [zT, zB]
    refine zS ?_
    refine zS ?_
    refine zR (zO (by simp [zC h68, zC h75, zC h77, zC h78, trim, ZA, -Zb, ↓hsh, HH1, hwK, e77]; rfl) ?_)
    simp only [zT, zB]
    refine Zh (x := true) (by simp) ?_
    refine Zv ?_
    simp only [zT, zB, if_true, if_false, reduceIte, Nat.reduceEqDiff, Nat.succ_ne_zero, Nat.one_ne_zero, Nat.zero_ne_one]
    refine zR (zO (by simp [zC h68, zC h75, zC h77, zC h78, trim, ZA, -Zb, ↓hsh, HH1, hwK, e77]; rfl) ?_)
    simp only [zT, zB]
    exact ⟨Mn - (k + 1), by omega, k + 1, K + 1, by omega, rfl, by omega, by simp [zC h68, zC h75, zC h77, zC h78, trim, ZA, -Zb, ↓hsh, HH1, hwK, e77, hbs]⟩
   ·rw [hB] at e77
    rw [if_neg (by rw [hB]; simp)] at hbs
    have hk0 : k ≠ 0 := fun e => by rw [e, hz0] at hB; simp at hB
    have hne := bits_ne hk10 hk0
    have hen : encL (Zl k) = .vl ((Zl k).map rN) false := by unfold encL; rw [if_neg (by simpa using hne)]
    have hdk := bits_dNs k
    have hlk := bits_len k
    have hll : Zb (.vl ((Zl k).map rN) false) = some (Zl k).length := by rw [ZD (x := .vl ((Zl k).map rN) false) (rs := (Zl k).map rN) rfl, List.length_map]
    rw [hen] at h68e hdk
    generalize hbv : bestA ms pl k = bo at *
    refine zK ?_
    simp only [zT, zB]
    refine zS ?_
    refine zL ?_
    refine zS ?_
    refine zR (zO (by simp [zC h68, zC h75, zC h77, zC h78, trim, ZA, -Zb, ↓hsh, HH1, hwK, e77, h68e, hll]; rfl) ?_)
    simp only [zT, zB]
    refine zS ?_
    refine zS ?_
    refine zR (zO (by simp [zC h68, zC h75, zC h77, zC h78, trim, ZA, -Zb, ↓hsh, HH1, hwK, e77, h68e, hll]; rfl) ?_)
    simp only [zT, zB]
    refine Zh (x := false) (by simp) ?_
    refine zK ?_
    simp only [zT, zB]
    refine zS ?_
    rcases bo with _ | b
    ·refine zR (zO (by simp [zC h68, zC h75, zC h77, zC h78, trim, ZA, -Zb, ↓hsh, HH1, hwK, e77, h68e, hll, encB]; rfl) ?_)
     simp only [zT, zB]
     refine zS ?_
     refine zR (zO (by simp [zC h68, zC h75, zC h77, zC h78, trim, ZA, -Zb, ↓hsh, HH1, hwK, e77, h68e, hll, encB]; rfl) ?_)
     simp only [zT, zB]
     refine Zh (x := true) (by simp) ?_
     refine zR (zO (by simp [zC h68, zC h75, zC h77, zC h78, trim, ZA, -Zb, ↓hsh, HH1, hwK, e77, h68e, hll, encB]; rfl) ?_)
     simp only [zT, zB]
     refine zR (zO (by simp [zC h68, zC h75, zC h77, zC h78, trim, ZA, -Zb, ↓hsh, HH1, hwK, e77, h68e, hll, encB]; rfl) ?_)
     simp only [zT, zB]
     exact ⟨Mn - (k + 1), by omega, k + 1, K + 1, by omega, rfl, by omega, by simp [zC h68, zC h75, zC h77, zC h78, trim, ZA, -Zb, ↓hsh, HH1, hwK, e77, h68e, hll, encB, hbs, hen]⟩
    ·obtain ⟨hb1, hb2, _⟩ := hbl b rfl
     have hb10 : b < 1024 := by omega
     have hneb := bits_ne hb10 hb2
     have henb : encL (Zl b) = .vl ((Zl b).map rN) false := by unfold encL; rw [if_neg (by simpa using hneb)]
     have hdb := bits_dNs b
     have hlb := bits_len b
     rw [henb] at hdb
     have hllb : Zb (.vl ((Zl b).map rN) false) = some (Zl b).length := by rw [ZD (x := .vl ((Zl b).map rN) false) (rs := (Zl b).map rN) rfl, List.length_map]
     have e78 : o78 [.vl ((Zl k).map rN) false, .vl ((Zl b).map rN) false] = some (I (lexC (Zl k) (Zl b))) := by simp only [o78, hdk, hdb]; rw [if_pos (by omega)]
     have hfk := fun H d => frz_rN0 H d (Zl k)
     simp only at hbs
     generalize (Zl k).length = lk at *
     generalize (Zl b).length = lb at *
     generalize lexC (Zl k) (Zl b) = cx at *
     by_cases hA : lk < lb
     ·have h1 : (lk : Int) < (lb : Int) := by omega
      rw [if_pos (.inl hA)] at hbs
      have HH2 := zA hwK (zA e77 (zA h68e (zA hll (zA henb (zA hllb (zA e78 h1))))))
      refine zR (zO (by simp [zC h68, zC h75, zC h77, zC h78, trim, ZA, -Zb, ↓hsh, HH1, encB, HH2]; rfl) ?_)
      simp only [zT, zB]
      refine zS ?_
      refine zR (zO (by simp [zC h68, zC h75, zC h77, zC h78, trim, ZA, -Zb, ↓hsh, HH1, encB, HH2]; rfl) ?_)
      simp only [zT, zB]
      refine Zh (x := true) (by simp [zC h68, zC h75, zC h77, zC h78, trim, ZA, -Zb, ↓hsh, HH1, encB, HH2]) ?_
      refine zR (zO (by simp [zC h68, zC h75, zC h77, zC h78, trim, ZA, -Zb, ↓hsh, HH1, encB, HH2]; rfl) ?_)
      simp only [zT, zB]
      refine zR (zO (by simp [zC h68, zC h75, zC h77, zC h78, trim, ZA, -Zb, ↓hsh, HH1, encB, HH2]; rfl) ?_)
      simp only [zT, zB]
      exact ⟨Mn - (k + 1), by omega, k + 1, K + 1, by omega, rfl, by omega, by simp [zC h68, zC h75, zC h77, zC h78, trim, ZA, -Zb, ↓hsh, HH1, encB, HH2, hbs, hen]⟩
     ·by_cases hBq : lk = lb
      ·by_cases hC : cx < 0
       ·have h1 : ¬ (lk : Int) < (lb : Int) := by omega
        have h2 : ((lk : Int) == (lb : Int)) = true := by simp; omega
        have h3 := hC
        rw [if_pos (.inr ⟨hBq, hC⟩)] at hbs
        have HH3 := zA hwK (zA e77 (zA h68e (zA hll (zA henb (zA hllb (zA e78 (zA h1 (zA h2 h3))))))))
        refine zR (zO (by simp [zC h68, zC h75, zC h77, zC h78, trim, ZA, -Zb, ↓hsh, HH1, encB, HH3]; rfl) ?_)
        simp only [zT, zB]
        refine zS ?_
        refine zR (zO (by simp [zC h68, zC h75, zC h77, zC h78, trim, ZA, -Zb, ↓hsh, HH1, encB, HH3]; rfl) ?_)
        simp only [zT, zB]
        refine Zh (x := true) (by simp [zC h68, zC h75, zC h77, zC h78, trim, ZA, -Zb, ↓hsh, HH1, encB, HH3]) ?_
        refine zR (zO (by simp [zC h68, zC h75, zC h77, zC h78, trim, ZA, -Zb, ↓hsh, HH1, encB, HH3]; rfl) ?_)
        simp only [zT, zB]
        refine zR (zO (by simp [zC h68, zC h75, zC h77, zC h78, trim, ZA, -Zb, ↓hsh, HH1, encB, HH3]; rfl) ?_)
        simp only [zT, zB]
        exact ⟨Mn - (k + 1), by omega, k + 1, K + 1, by omega, rfl, by omega, by simp [zC h68, zC h75, zC h77, zC h78, trim, ZA, -Zb, ↓hsh, HH1, encB, HH3, hbs, hen]⟩
       ·have h1 : ¬ (lk : Int) < (lb : Int) := by omega
        have h2 : ((lk : Int) == (lb : Int)) = true := by simp; omega
        have h3 := hC
        rw [if_neg (by omega)] at hbs
        have HH4 := zA hwK (zA e77 (zA h68e (zA hll (zA henb (zA hllb (zA e78 (zA h1 (zA h2 h3))))))))
        refine zR (zO (by simp [zC h68, zC h75, zC h77, zC h78, trim, ZA, -Zb, ↓hsh, HH1, encB, HH4]; rfl) ?_)
        simp only [zT, zB]
        refine zS ?_
        refine zR (zO (by simp [zC h68, zC h75, zC h77, zC h78, trim, ZA, -Zb, ↓hsh, HH1, encB, HH4]; rfl) ?_)
        simp only [zT, zB]
        refine Zh (x := false) (by simp [zC h68, zC h75, zC h77, zC h78, trim, ZA, -Zb, ↓hsh, HH1, encB, HH4]) ?_
        refine zK ?_
        simp only [zT, zB]
        refine zR (zO (by simp [zC h68, zC h75, zC h77, zC h78, trim, ZA, -Zb, ↓hsh, HH1, encB, HH4]; rfl) ?_)
        simp only [zT, zB]
        exact ⟨Mn - (k + 1), by omega, k + 1, K + 1, by omega, rfl, by omega, by simp [zC h68, zC h75, zC h77, zC h78, trim, ZA, -Zb, ↓hsh, HH1, encB, HH4, hbs]⟩
      ·have h1 : ¬ (lk : Int) < (lb : Int) := by omega
       have h2 : ((lk : Int) == (lb : Int)) = false := by simp; omega
       rw [if_neg (by omega)] at hbs
       have HH5 := zA hwK (zA e77 (zA h68e (zA hll (zA henb (zA hllb (zA e78 (zA h1 h2)))))))
       refine zR (zO (by simp [zC h68, zC h75, zC h77, zC h78, trim, ZA, -Zb, ↓hsh, HH1, encB, HH5]; rfl) ?_)
       simp only [zT, zB]
       refine zS ?_
       refine zR (zO (by simp [zC h68, zC h75, zC h77, zC h78, trim, ZA, -Zb, ↓hsh, HH1, encB, HH5]; rfl) ?_)
       simp only [zT, zB]
       refine Zh (x := false) (by simp [zC h68, zC h75, zC h77, zC h78, trim, ZA, -Zb, ↓hsh, HH1, encB, HH5]) ?_
       refine zK ?_
       simp only [zT, zB]
       refine zR (zO (by simp [zC h68, zC h75, zC h77, zC h78, trim, ZA, -Zb, ↓hsh, HH1, encB, HH5]; rfl) ?_)
       simp only [zT, zB]
       exact ⟨Mn - (k + 1), by omega, k + 1, K + 1, by omega, rfl, by omega, by simp [zC h68, zC h75, zC h77, zC h78, trim, ZA, -Zb, ↓hsh, HH1, encB, HH5, hbs]⟩
  ·have hlt := of_decide_eq_false hlt
   obtain rfl : k = Mn := by omega
   have hbl := fun b => bestA_lt (ms := ms) hpb k b
   generalize bestA ms pl k = bo at *
   refine Zv ?_
   simp only [zT, zB, if_true, if_false, reduceIte, Nat.reduceEqDiff, Nat.succ_ne_zero, Nat.one_ne_zero, Nat.zero_ne_one]
   refine zS ?_
   refine zS ?_
   rcases bo with _ | b
   ·refine zR (zO (by simp [zC h68, zC h75, zC h77, zC h78, trim, ZA, -Zb, ↓hsh, HH1, encB]; rfl) ?_)
    simp only [zT, zB]
    refine Zh (x := true) (by simp) ?_
    refine zS ?_
    refine zR (zO (by simp [zC h68, zC h75, zC h77, zC h78, trim, ZA, -Zb, ↓hsh, HH1, encB]; rfl) ?_)
    simp only [zT, zB]
    refine Ze ?_
    simp [zC h68, zC h75, zC h77, zC h78, trim, ZA, -Zb, ↓hsh, HH1, encB, agV]
   ·obtain ⟨hb1, hb2, _⟩ := hbl b rfl
    have hneb := bits_ne (show b < 1024 by omega) hb2
    have henb : encL (Zl b) = .vl ((Zl b).map rN) false := by unfold encL; rw [if_neg (by simpa using hneb)]
    refine zR (zO (by simp [zC h68, zC h75, zC h77, zC h78, trim, ZA, -Zb, ↓hsh, HH1, encB, henb]; rfl) ?_)
    simp only [zT, zB]
    refine Zh (x := false) (by simp) ?_
    refine zK ?_
    simp only [zT, zB]
    refine zS ?_
    refine zR (zO (by simp [zC h68, zC h75, zC h77, zC h78, trim, ZA, -Zb, ↓hsh, HH1, encB, henb]; rfl) ?_)
    simp only [zT, zB]
    refine Ze ?_
    simp [zC h68, zC h75, zC h77, zC h78, trim, ZA, -Zb, ↓hsh, HH1, encB, henb, agV]
 ·unfold depV at e75
  unfold againstV
  rw [if_neg hE] at e75 ⊢
  have hEb : (depE u d its rs != 0) = true := by simpa using hE
  generalize depE u d its rs = E at *
  have HH6 := zA h68 (zA h75 (zA h77 (zA h78 (zA lx (zA rx (zA fx (zA cx1 (zA cx2 (zA ly (zA ry (zA fy (zA cy1 (zA cy2 (zA e75 hEb))))))))))))))
  refine zS ?_
  refine zR (zO (by simp [zC h68, zC h75, zC h77, zC h78, trim, ZA, -Zb, HH6]; rfl) ?_)
  simp only [zT, zB]
  refine zS ?_
  refine zR (zO (by simp [zC h68, zC h75, zC h77, zC h78, trim, ZA, -Zb, HH6]; rfl) ?_)
  simp only [zT, zB]
  refine zS ?_
  refine zS ?_
  refine zR (zO (by simp [zC h68, zC h75, zC h77, zC h78, trim, ZA, -Zb, HH6]; rfl) ?_)
  simp only [zT, zB]
  refine Zh (x := true) (by simp) ?_
  refine zS ?_
  refine zR (zO (by simp [zC h68, zC h75, zC h77, zC h78, trim, ZA, -Zb, HH6]; rfl) ?_)
  simp only [zT, zB]
  refine Ze ?_
  simp [zC h68, zC h75, zC h77, zC h78, trim, ZA, -Zb, HH6]
def o47 : List Za → Option Za
  | [.agg [.int .i64 u, .int .i64 d], x, y] => match Zn x, Zn y with
    | some r, some s => match Zf dI5' r, Zf dM3 s with
      | some its, some rs => if its.length ≤ 1000 ∧ rs.length ≤ 1000 then some (againstV u d its rs) else none
      | _, _ => none
    | _, _ => none
  | _ => none
theorem o47_eq {x y : Za} {its : List It5} {rs : List Rm3} (hx : Zn x = some (its.map rI5)) (hy : Zn y = some (rs.map rM3)) (hl : its.length ≤ 1000 ∧ rs.length ≤ 1000) (u d : Int) : o47 [.agg [I u, I d], x, y] = some (againstV u d its rs) := by
  have h1 := XL (d := dI5') (enc := rI5) (fun _ => rfl) its
  have h2 := XL (d := dM3) (enc := rM3) (fun _ => rfl) rs
  simp only [o47, hx, hy, h1, h2]; rw [if_pos hl]
def DX5 : Nat → Option CFn := upd DX4 47 false (o47)
theorem DX5_ok : Zz Tryd.prog GG DX5 := ZO Zj DX4_ok fun args v ho => by
  unfold o47 at ho; split at ho <;> (try simp only [reduceCtorEq] at ho)
  rename_i u d x y
  split at ho <;> (try simp only [reduceCtorEq] at ho)
  rename_i r s hx hy
  split at ho <;> (try simp only [reduceCtorEq] at ho)
  rename_i its rs hr hs
  split at ho <;> (try simp only [reduceCtorEq] at ho)
  rename_i hg
  simp only [Option.some.injEq] at ho
  subst ho
  have hx' : Zn x = some (its.map rI5) := by rw [hx, YA (enc := rI5) dI5'_eq hr]
  have hy' : Zn y = some (rs.map rM3) := by rw [hy, YA (enc := rM3) dM3_eq hs]
  exact a47 Tryd.prog DX4 rfl rfl rfl rfl rfl u d x y its rs hx' hy' hg
end
section
attribute [local simp] Ye ZR YW YN actD Xn disj YZ holes Xa ZW Xd news eqB Xh eqA YJ Xi toCs ofCs stA Yu ZS Yy dI1 dI2 dI3 dI5 elt
attribute [local simp] st_any st_und st_agg st_tup XR st_int XO st_ref st_pv XN st_sl st_vl XP st_mp st_fn XQ st_yld co_any co_und co_agg co_tup XW co_int XT co_ref co_pv XS co_sl co_vl XU co_mp co_fn XV co_yld
attribute [local simp] Function.comp_def List.all_append List.all_map Yz Zs frzG gather getR lim lop YC lowA lowR okG putG putR rbB_none rbB_row resG rowAt takeG
theorem rI5_rb (n d : Nat) (xs : List It5) : ((xs.map rI5).all fun r => r.all (rb n (d + 1))) = true := by simp [rI5]
theorem frN_rI5 (n : Nat) (h : Zg) (xs : List It5) : ∀ r ∈ xs.map rI5, Zf (frN n h 5) r = some r := fun r hr => by
  obtain ⟨j, _, rfl⟩ := List.mem_map.1 hr; rfl
theorem frz_rI5 (h : Zg) (d : Nat) (l : List It5) : Zf (Zf (frz false h (d + 1))) (l.map rI5) = some (l.map rI5) := ZQ _ fun r hr => ZQ _ fun x hx => by
  obtain ⟨y, _, rfl⟩ := List.mem_map.1 hr
  simp only [rI5, List.mem_cons, List.not_mem_nil, or_false] at hx
  rcases hx with rfl | rfl | rfl | rfl | rfl <;> rfl
theorem rM3_rb (n d : Nat) (xs : List Rm3) : ((xs.map rM3).all fun r => r.all (rb n (d + 1))) = true := by simp [rM3]
theorem frN_rM3 (n : Nat) (h : Zg) (xs : List Rm3) : ∀ r ∈ xs.map rM3, Zf (frN n h 5) r = some r := fun r hr => by
  obtain ⟨j, _, rfl⟩ := List.mem_map.1 hr; rfl
theorem frz_rM3 (h : Zg) (d : Nat) (l : List Rm3) : Zf (Zf (frz false h (d + 1))) (l.map rM3) = some (l.map rM3) := ZQ _ fun r hr => ZQ _ fun x hx => by
  obtain ⟨y, _, rfl⟩ := List.mem_map.1 hr
  simp only [rM3, List.mem_cons, List.not_mem_nil, or_false] at hx
  rcases hx with rfl | rfl | rfl <;> rfl
theorem a45 (P : Program) (T : Nat → Option CFn) (hT : T 45 = some c45) (c : Za) (l : List It5) (hc : Zn c = some (l.map rI5)) (hl : l.length ≤ 1000) : Zr P T 45 [c] [] fun v h => frz false h 5 v = some (.vl (l.map rI5) l.isEmpty) := by
 have lx := ZD hc
 rw [List.length_map] at lx
 refine Zm hT (Zq rfl) ?_
 simp only [oo, om, op, og, ci, cl, c45]
 rcases l with _ | ⟨p, l⟩
 ·rw [List.map_nil] at hc
  have hcc : c = .nils ∨ ∃ t, c = .vl [] t := by
   cases c <;> simp [Zn] at hc ⊢ <;> first | exact hc | trivial
  rcases hcc with rfl | ⟨t, rfl⟩
  ·refine zS ?_
   refine zR (zO (by simp [lx, -Zb]; rfl) ?_)
   simp only [zT, zB]
   refine zS ?_
   refine zR (zO (by simp [lx, -Zb]; rfl) ?_)
   simp only [zT, zB]
   refine Ze ?_
   simp [lx, -Zb, trim, appK, Zn]
  ·refine zS ?_
   refine zR (zO (by simp [lx, -Zb]; rfl) ?_)
   simp only [zT, zB]
   refine zS ?_
   refine zR (zO (by simp [lx, -Zb]; rfl) ?_)
   simp only [zT, zB]
   refine Ze ?_
   simp [lx, -Zb, trim, appK, Zn]
 ·obtain ⟨t1, rfl⟩ := ZE hc (k := 0) (by simp)
  have hr2 : ((p :: l).map rI5).all (fun r => r.length == 5) = true := by simp [rI5]
  have hst : ((p :: l).map rI5).all (fun r => r.all ZG) = true := by simp [rI5]
  have hfz : ∀ H n, Zf (Zf (frz false H (n + 1))) ((p :: l).map rI5) = some ((p :: l).map rI5) := fun H n => frz_rI5 H n (p :: l)
  have htk : ((p :: l).map rI5).take ((p :: l).length) = (p :: l).map rI5 := List.take_of_length_le (by simp)
  have hlen : ((p :: l).map rI5).length = (p :: l).length := by simp
  have hpos : 0 < (p :: l).length := by simp
  have hLn : ¬ (p :: l) = [] := by simp
  have hie : (p :: l).isEmpty = false := rfl
  have hl6 : (p :: l).length ≤ 1048576 := by omega
  generalize (p :: l) = L at *
  have HH1 := zA lx (zA hr2 (zA hst (zA hfz (zA htk (zA hpos (zA hLn (zA hie hl6)))))))
  refine zS ?_
  refine zR (zO (by simp [-Zb, HH1]; rfl) ?_)
  simp only [zT, zB]
  refine zS ?_
  refine zR (zO (by simp [-Zb, HH1]; rfl) ?_)
  simp only [zT, zB]
  refine Ze ?_
  simp [-Zb, HH1, trim, appK, Zn]
def o45 : List Za → Option Za
  | [c] => match Zn c with
    | some rs => match Zf dI5' rs with
      | some l => if l.length ≤ 1000 then some (.vl (l.map rI5) l.isEmpty) else none
      | none => none
    | none => none
  | _ => none
theorem o45_eq {c : Za} {l : List It5} (hc : Zn c = some (l.map rI5)) (hl : l.length ≤ 1000) : o45 [c] = some (.vl (l.map rI5) l.isEmpty) := by
  have := XL (d := dI5') (enc := rI5) (fun _ => rfl) l
  simp only [o45, hc, this]; rw [if_pos hl]
theorem a46 (P : Program) (T : Nat → Option CFn) (hT : T 46 = some c46) (c : Za) (l : List Rm3) (hc : Zn c = some (l.map rM3)) (hl : l.length ≤ 1000) : Zr P T 46 [c] [] fun v h => frz false h 5 v = some (.vl (l.map rM3) l.isEmpty) := by
 have lx := ZD hc
 rw [List.length_map] at lx
 refine Zm hT (Zq rfl) ?_
 simp only [oo, om, op, og, ci, cl, c46]
 rcases l with _ | ⟨p, l⟩
 ·rw [List.map_nil] at hc
  have hcc : c = .nils ∨ ∃ t, c = .vl [] t := by
   cases c <;> simp [Zn] at hc ⊢ <;> first | exact hc | trivial
  rcases hcc with rfl | ⟨t, rfl⟩
  ·refine zS ?_
   refine zR (zO (by simp [lx, -Zb]; rfl) ?_)
   simp only [zT, zB]
   refine zS ?_
   refine zR (zO (by simp [lx, -Zb]; rfl) ?_)
   simp only [zT, zB]
   refine Ze ?_
   simp [lx, -Zb, trim, appK, Zn]
  ·refine zS ?_
   refine zR (zO (by simp [lx, -Zb]; rfl) ?_)
   simp only [zT, zB]
   refine zS ?_
   refine zR (zO (by simp [lx, -Zb]; rfl) ?_)
   simp only [zT, zB]
   refine Ze ?_
   simp [lx, -Zb, trim, appK, Zn]
 ·obtain ⟨t1, rfl⟩ := ZE hc (k := 0) (by simp)
  have hr2 : ((p :: l).map rM3).all (fun r => r.length == 3) = true := by simp [rM3]
  have hst : ((p :: l).map rM3).all (fun r => r.all ZG) = true := by simp [rM3]
  have hfz : ∀ H n, Zf (Zf (frz false H (n + 1))) ((p :: l).map rM3) = some ((p :: l).map rM3) := fun H n => frz_rM3 H n (p :: l)
  have htk : ((p :: l).map rM3).take ((p :: l).length) = (p :: l).map rM3 := List.take_of_length_le (by simp)
  have hlen : ((p :: l).map rM3).length = (p :: l).length := by simp
  have hpos : 0 < (p :: l).length := by simp
  have hLn : ¬ (p :: l) = [] := by simp
  have hie : (p :: l).isEmpty = false := rfl
  have hl6 : (p :: l).length ≤ 1048576 := by omega
  generalize (p :: l) = L at *
  have HH1 := zA lx (zA hr2 (zA hst (zA hfz (zA htk (zA hpos (zA hLn (zA hie hl6)))))))
  refine zS ?_
  refine zR (zO (by simp [-Zb, HH1]; rfl) ?_)
  simp only [zT, zB]
  refine zS ?_
  refine zR (zO (by simp [-Zb, HH1]; rfl) ?_)
  simp only [zT, zB]
  refine Ze ?_
  simp [-Zb, HH1, trim, appK, Zn]
def o46 : List Za → Option Za
  | [c] => match Zn c with
    | some rs => match Zf dM3 rs with
      | some l => if l.length ≤ 1000 then some (.vl (l.map rM3) l.isEmpty) else none
      | none => none
    | none => none
  | _ => none
theorem o46_eq {c : Za} {l : List Rm3} (hc : Zn c = some (l.map rM3)) (hl : l.length ≤ 1000) : o46 [c] = some (.vl (l.map rM3) l.isEmpty) := by
  have := XL (d := dM3) (enc := rM3) (fun _ => rfl) l
  simp only [o46, hc, this]; rw [if_pos hl]
def DY1 : Nat → Option CFn := upd DX5 45 false (o45)
theorem DY1_ok : Zz Tryd.prog GG DY1 := ZO Zj DX5_ok fun args v ho => by
  unfold o45 at ho; split at ho <;> (try simp only [reduceCtorEq] at ho)
  rename_i c
  split at ho <;> (try simp only [reduceCtorEq] at ho)
  rename_i rs hx
  split at ho <;> (try simp only [reduceCtorEq] at ho)
  rename_i l hl
  split at ho <;> (try simp only [reduceCtorEq] at ho)
  rename_i hg
  simp only [Option.some.injEq] at ho
  subst ho
  exact a45 Tryd.prog DX5 rfl c l (by rw [hx, YA (enc := rI5) dI5'_eq hl]) hg
def DY2 : Nat → Option CFn := upd DY1 46 false (o46)
theorem DY2_ok : Zz Tryd.prog GG DY2 := ZO Zj DY1_ok fun args v ho => by
  unfold o46 at ho; split at ho <;> (try simp only [reduceCtorEq] at ho)
  rename_i c
  split at ho <;> (try simp only [reduceCtorEq] at ho)
  rename_i rs hx
  split at ho <;> (try simp only [reduceCtorEq] at ho)
  rename_i l hl
  split at ho <;> (try simp only [reduceCtorEq] at ho)
  rename_i hg
  simp only [Option.some.injEq] at ho
  subst ho
  exact a46 Tryd.prog DY1 rfl c l (by rw [hx, YA (enc := rM3) dM3_eq hl]) hg
def o42 : List Za → Option Za
  | [.int .i64 a, .int .i64 b] => some (.agg [I a, I b])
  | _ => none
def okE (u d : Int) (x : It5) (r : Rm3) : Bool := decide (hoursE u d x.1 x.2.1 r.1 r.2.1 x.2.2.1 x.2.2.2.1 = 0 ∨ hoursE u d x.1 x.2.1 r.1 r.2.1 x.2.2.1 x.2.2.2.1 = 9)
def o79 : List Za → Option Za
  | [.agg [.int .i64 u, .int .i64 d], .agg [.int .i64 a, .int .i64 b, .int .i64 c, .int .i64 e, .int .i64 f], .agg [.int .i64 r, .int .i64 s, .int .i64 p]] => some (.tup [.bool (mayB u d (a, b, c, e, f) (r, s, p)), .bool (okE u d (a, b, c, e, f) (r, s, p))])
  | _ => none
theorem a42 (P : Program) (T : Nat → Option CFn) (hT : T 42 = some c42) (a b : Int) : Zr P T 42 [I a, I b] [] fun v h => frz false h 5 v = some (.agg [I a, I b]) := by
 refine Zm hT (Zq rfl) ?_
 simp only [oo, om, op, og, ci, cl, c42]
 refine zS ?_
 refine zR (zO (by simp; rfl) ?_)
 simp only [zT, zB]
 refine zS ?_
 refine zR (zO (by simp; rfl) ?_)
 simp only [zT, zB]
 refine Ze ?_
 simp
def DY3 : Nat → Option CFn := upd DY2 42 false (o42)
theorem DY3_ok : Zz Tryd.prog GG DY3 := ZO Zj DY2_ok fun args v ho => by
  unfold o42 at ho; split at ho <;> simp at ho
  rename_i a b
  subst ho
  exact a42 Tryd.prog DY2 rfl  a b
theorem a79 (P : Program) (T : Nat → Option CFn) (hT : T 79 = some c79) (h21 : T 21 = some { c21 with frsh := true, orc := o21 }) (u d a b c e f r s p : Int) : Zr P T 79 [.agg [I u, I d], .agg [I a, I b, I c, I e, I f], .agg [I r, I s, I p]] [] fun v h => frz true h 5 v = some (.tup [.bool (mayB u d (a, b, c, e, f) (r, s, p)), .bool (okE u d (a, b, c, e, f) (r, s, p))]) := by
 refine Zm hT (Zq rfl) ?_
 simp only [oo, om, op, og, ci, cl, c79]
 have e21 : o21 [.agg [I u, I d], .agg [I a, I b], .agg [I r, I s], .agg [I c, I e]] = some (.tup [I (if hoursE u d a b r s c e = 0 then hRun u d a b r s c e 500 0 else 0), I (hoursE u d a b r s c e)]) := rfl
 unfold mayB okE
 simp only
 generalize hoursE u d a b r s c e = E at *
 generalize hRun u d a b r s c e 500 0 = N at *
 by_cases hE : E = 0
 ·subst hE
  by_cases hN : f ≤ N
  ·refine zS ?_
   refine zR (zO (by simp [zC h21, h21, e21, hN]; rfl) ?_)
   simp only [zT, zB]
   refine zS ?_
   refine zR (zO (by simp [zC h21, h21, e21, hN]; rfl) ?_)
   simp only [zT, zB]
   refine zS ?_
   refine zR (zO (by simp [zC h21, h21, e21, hN]; rfl) ?_)
   simp only [zT, zB]
   refine Ze ?_
   simp [zC h21, h21, e21, hN]
  ·refine zS ?_
   refine zR (zO (by simp [zC h21, h21, e21, hN]; rfl) ?_)
   simp only [zT, zB]
   refine zS ?_
   refine zR (zO (by simp [zC h21, h21, e21, hN]; rfl) ?_)
   simp only [zT, zB]
   refine zS ?_
   refine zR (zO (by simp [zC h21, h21, e21, hN]; rfl) ?_)
   simp only [zT, zB]
   refine Ze ?_
   simp [zC h21, h21, e21, hN]
 ·have hEb : (E == 0) = false := by simpa using hE
  by_cases h9 : E = 9
  ·subst h9
   refine zS ?_
   refine zR (zO (by simp [zC h21, h21, e21, hE, hEb]; rfl) ?_)
   simp only [zT, zB]
   refine zS ?_
   refine zR (zO (by simp [zC h21, h21, e21, hE, hEb]; rfl) ?_)
   simp only [zT, zB]
   refine zS ?_
   refine zR (zO (by simp [zC h21, h21, e21, hE, hEb]; rfl) ?_)
   simp only [zT, zB]
   refine Ze ?_
   simp [zC h21, h21, e21, hE, hEb]
  ·have h9b : (E == 9) = false := by simpa using h9
   have HH1 := zA h21 (zA e21 (zA hE (zA hEb (zA h9 h9b))))
   refine zS ?_
   refine zR (zO (by simp [zC h21, HH1]; rfl) ?_)
   simp only [zT, zB]
   refine zS ?_
   refine zR (zO (by simp [zC h21, HH1]; rfl) ?_)
   simp only [zT, zB]
   refine zS ?_
   refine zR (zO (by simp [zC h21, HH1]; rfl) ?_)
   simp only [zT, zB]
   refine Ze ?_
   simp [zC h21, HH1]
def DY4 : Nat → Option CFn := upd DY3 79 true (o79)
theorem DY4_ok : Zz Tryd.prog GG DY4 := ZO Zj DY3_ok fun args v ho => by
  unfold o79 at ho; split at ho <;> simp at ho
  rename_i u d a b c e f r s p
  subst ho
  exact a79 Tryd.prog DY3 rfl rfl u d a b c e f r s p
theorem Xk {α : Type} (l : List α) (n : Nat) : l.take (min l.length n) = l.take n := by
  rcases Nat.le_total l.length n with h | h
  · rw [Nat.min_eq_left h, List.take_of_length_le (Nat.le_refl _), List.take_of_length_le h]
  · rw [Nat.min_eq_right h]
def r3u (v : Nat × Nat × Nat) : List Za := [.int .u8 (v.1 : Nat), .int .u8 (v.2.1 : Nat), .int .u8 (v.2.2 : Nat)]
def R3Ok (v : Nat × Nat × Nat) : Prop := v.1 < 256 ∧ v.2.1 < 256 ∧ v.2.2 < 256
def deIt (v : R4) : It5 := (((v.1 % 100 : Nat) : Int), ((v.1 % 100 : Nat) : Int) + 5, max 0 (((v.1 % 100 : Nat) : Int) - ((v.2.1 % 60 : Nat) : Int)), ((v.1 % 100 : Nat) : Int) + 5 + ((v.2.2.1 % 60 : Nat) : Int), ((v.2.2.2 % 30 : Nat) : Int))
def YM (v : Nat × Nat × Nat) : Rm3 := (((v.1 % 130 : Nat) : Int), ((v.1 % 130 : Nat) : Int) + ((v.2.1 % 20 : Nat) : Int), ((v.2.2 % 4 : Nat) : Int))
theorem XJ {a b : Nat} (hb : 0 < b) : arI .rem .i64 (a : Int) (b : Int) = some (.int .i64 ((a % b : Nat) : Int)) := by
  have e : (a : Int).tmod b = ((a % b : Nat) : Int) := by rw [Int.tmod_eq_emod_of_nonneg (by omega)]; norm_cast
  show (if (b : Int) = 0 then none else some (Za.int .i64 ((a : Int).tmod b))) = _
  rw [if_neg (by omega), e]
theorem a43 (P : Program) (T : Nat → Option CFn) (hT : T 43 = some { c43 with body := annK [(114, [.slot 4]), (306, [.slot 5])] [] c43.body }) (h42 : T 42 = some { c42 with frsh := false, orc := o42 }) (x y : Za) (xs : List R4) (ys : List (Nat × Nat × Nat)) (hx : Zn x = some (xs.map r4)) (hy : Zn y = some (ys.map r3u)) (hbx : ∀ v ∈ xs, R4Ok v) (hby : ∀ v ∈ ys, R3Ok v) : Zr P T 43 [.agg [x, y]] [] fun v h => frz false h 5 v = some (.tup [.vl (((xs.take 6).map deIt).map rI5) ((xs.take 6).map deIt).isEmpty, .vl (((ys.take 4).map YM).map rM3) ((ys.take 4).map YM).isEmpty]) := by
 have lx := ZD hx
 rw [List.length_map] at lx
 have rx := fun n d => ZH hx n d
 have fx := fun H d => ZB hx H d
 obtain ⟨cx1, cx2⟩ := ZI hx
 have ly := ZD hy
 rw [List.length_map] at ly
 have ry := fun n d => ZH hy n d
 have fy := fun H d => ZB hy H d
 obtain ⟨cy1, cy2⟩ := ZI hy
 refine Zm hT (Zq rfl) ?_
 simp only [oo, om, op, og, ci, cl, c43, annK, lkG, lkR, reduceIte, Nat.reduceEqDiff, reduceCtorEq, List.cons.injEq, and_true, and_false, false_and, true_and]
 have HH1 := zA h42 (zA lx (zA rx (zA fx (zA cx1 (zA cx2 (zA ly (zA ry (zA fy (zA cy1 cy2)))))))))
 refine zS ?_
 refine zR (zO (by simp [zC h42, o42, -Zb, HH1]; rfl) ?_)
 simp only [zT, zB]
 refine zS ?_
 refine zR (zO (by simp [zC h42, o42, -Zb, HH1]; rfl) ?_)
 simp only [zT, zB]
 refine zS ?_
 refine zS ?_
 refine zR (zO (by simp [zC h42, o42, -Zb, HH1]; rfl) ?_)
 simp only [zT, zB]
 refine zL ?_
 refine XX (fun mm σ => ∃ (k : Nat) (i : Int), i = k ∧ (min xs.length 6) - k = mm ∧ k ≤ (min xs.length 6) ∧ ((k = 0 ∧ σ = ⟨[.any, .ref 0 0 0, .any, .any, .sl 3 0 0 true, .sl 2 0 0 true, I i, .any, .any, .any, .any, .any, .any, .any, .any, .any, .any, .any, .any, .any, .any, .any, .any, .any, .any, .any, .any, .any, .any, .any, .any, .any, .any, .any, .any, .any, .any, .any, .any, .any, .any, .any, .any, .any, .any, .any, .any, .any, .any, .any, .any, .any, .any, .any, .any, .any, .any, .any, .any, .any, .any, .any, .any, .any, .any, .any, .any, .any, .any, .any, .any, .any, .any, .any, .any, .any, .any, .any, .any, .any, .any, .any, .any, .any, .any, .any, .any, .any, .any, .any, .any, .any, .any, .any, .any, .any, .any, .any, .any, .any, .any, .any, .any, .any, .any, .any, .any], [some (.row 2 [[x, y]]), none, some (.row 3 []), some (.row 5 [])]⟩) ∨ (∃ (p : Nat) (ac : List (It5)), k = p + 1 ∧ ac = ((xs.take (k)).map deIt) ∧ ac.length = p + 1 ∧ σ = ⟨[.any, .ref 0 0 0, .any, .any, .sl 3 0 (p + 1) false, .sl 2 0 0 true, I i, .any, .any, .any, .any, .any, .any, .any, .any, .any, .any, .any, .any, .any, .any, .any, .any, .any, .any, .any, .any, .any, .any, .any, .any, .any, .any, .any, .any, .any, .any, .any, .any, .any, .any, .any, .any, .any, .any, .any, .any, .any, .any, .any, .any, .any, .any, .any, .any, .any, .any, .any, .any, .any, .any, .any, .any, .any, .any, .any, .any, .any, .any, .any, .any, .any, .any, .any, .any, .any, .any, .any, .any, .any, .any, .any, .any, .any, .any, .any, .any, .any, .any, .any, .any, .any, .any, .any, .any, .any, .any, .any, .any, .any, .any, .any, .any, .any, .any, .any, .any], [some (.row 2 [[x, y]]), none, some (.row 3 []), some (.row 5 (ac.map rI5))]⟩))) (by simp [zC h42, o42, -Zb, HH1] <;> first | exact ⟨rfl, rfl⟩ | rfl) (⟨0, 0, rfl, rfl, Nat.zero_le _, .inl ⟨rfl, rfl⟩⟩) ?_
 rintro mm σ ⟨k, i, hik, rfl, hkl, ⟨hkz, rfl⟩ | ⟨p, ac, hkp, hac, hacl, rfl⟩⟩
 ·rcases hA : decide (i < (xs.length : Int)) with _ | _
  ·refine zS ?_
   refine zS ?_
   refine zR (zO (by simp [zC h42, o42, -Zb, HH1, hA]; rfl) ?_)
   simp only [zT, zB]
   refine Zh (x := false) (by simp) ?_
   have hx := of_decide_eq_false hA
   have hkE : k = (min xs.length 6) := by omega
   have hTk : xs.take (min xs.length 6) = xs.take 6 := Xk xs 6
   refine Zv ?_
   simp only [zT, zB, if_true, if_false, reduceIte, Nat.reduceEqDiff, Nat.succ_ne_zero, Nat.one_ne_zero, Nat.zero_ne_one]
   refine zS ?_
   refine zS ?_
   refine zR (zO (by simp [zC h42, o42, -Zb, HH1, hA]; rfl) ?_)
   simp only [zT, zB]
   refine zL ?_
   refine XX (fun mmb σ => ∃ (kb : Nat) (ib : Int), ib = kb ∧ (min ys.length 4) - kb = mmb ∧ kb ≤ (min ys.length 4) ∧ ((kb = 0 ∧ σ = ⟨[.any, .ref 0 0 0, .any, .any, .sl 3 0 0 true, .sl 4 0 0 true, .any, .any, I ib, .any, .any, .any, .any, .any, .any, .any, .any, .any, .any, .any, .any, .any, .any, .any, .any, .any, .any, .any, .any, .any, .any, .any, .any, .any, .any, .any, .any, .any, .any, .any, .any, .any, .any, .any, .any, .any, .any, .any, .any, .any, .any, .any, .any, .any, .any, .any, .any, .any, .any, .any, .any, .any, .any, .any, .any, .any, .any, .any, .any, .any, .any, .any, .any, .any, .any, .any, .any, .any, .any, .any, .any, .any, .any, .any, .any, .any, .any, .any, .any, .any, .any, .any, .any, .any, .any, .any, .any, .any, .any, .any, .any, .any, .any, .any, .any, .any, .any], [some (.row 2 [[x, y]]), none, none, some (.row 5 []), some (.row 3 [])]⟩) ∨ (∃ (pb : Nat) (acb : List (Rm3)), kb = pb + 1 ∧ acb = ((ys.take (kb)).map YM) ∧ acb.length = pb + 1 ∧ σ = ⟨[.any, .ref 0 0 0, .any, .any, .sl 3 0 0 true, .sl 4 0 (pb + 1) false, .any, .any, I ib, .any, .any, .any, .any, .any, .any, .any, .any, .any, .any, .any, .any, .any, .any, .any, .any, .any, .any, .any, .any, .any, .any, .any, .any, .any, .any, .any, .any, .any, .any, .any, .any, .any, .any, .any, .any, .any, .any, .any, .any, .any, .any, .any, .any, .any, .any, .any, .any, .any, .any, .any, .any, .any, .any, .any, .any, .any, .any, .any, .any, .any, .any, .any, .any, .any, .any, .any, .any, .any, .any, .any, .any, .any, .any, .any, .any, .any, .any, .any, .any, .any, .any, .any, .any, .any, .any, .any, .any, .any, .any, .any, .any, .any, .any, .any, .any, .any, .any], [some (.row 2 [[x, y]]), none, none, some (.row 5 []), some (.row 3 (acb.map rM3))]⟩))) (by simp [zC h42, o42, -Zb, HH1, hA] <;> first | exact ⟨rfl, rfl⟩ | rfl) (⟨0, 0, rfl, rfl, Nat.zero_le _, .inl ⟨rfl, rfl⟩⟩) ?_
   rintro mmb σ ⟨kb, ib, hikb, rfl, hklb, ⟨hkzb, rfl⟩ | ⟨pb, acb, hkpb, hacb, haclb, rfl⟩⟩
   ·rcases hAb : decide (ib < (ys.length : Int)) with _ | _
    ·refine zS ?_
     refine zS ?_
     refine zR (zO (by simp [zC h42, o42, -Zb, HH1, hA, hAb]; rfl) ?_)
     simp only [zT, zB]
     refine Zh (x := false) (by simp) ?_
     have hxb := of_decide_eq_false hAb
     have hkEb : kb = (min ys.length 4) := by omega
     have hTk2 : ys.take (min ys.length 4) = ys.take 4 := Xk ys 4
     rw [show (xs.take 6).map deIt = [] by have h0 : xs = [] := List.length_eq_zero_iff.1 (by omega); rw [h0]; rfl, show (ys.take 4).map YM = [] by have h0 : ys = [] := List.length_eq_zero_iff.1 (by omega); rw [h0]; rfl]
     refine Zv ?_
     simp only [zT, zB, if_true, if_false, reduceIte, Nat.reduceEqDiff, Nat.succ_ne_zero, Nat.one_ne_zero, Nat.zero_ne_one]
     refine zS ?_
     refine zR (zO (by simp [zC h42, o42, -Zb, HH1, hA, hAb]; rfl) ?_)
     simp only [zT, zB]
     refine Ze ?_
     simp [zC h42, o42, -Zb, HH1, hA, hAb, trim]
    ·refine zS ?_
     refine zS ?_
     refine zR (zO (by simp [zC h42, o42, -Zb, HH1, hA, hAb]; rfl) ?_)
     simp only [zT, zB]
     refine Zi (x := decide (ib < 4)) (by simp) (fun hltb => ?_) (fun hltb => ?_)
     ·have hAtb := of_decide_eq_true hAb
      have hlttb := of_decide_eq_true hltb
      have hk0b : kb < (min ys.length 4) := by omega
      have hi0b : 0 ≤ ib := by omega
      have htnb : ib.toNat = kb := by omega
      have hwib : W .i64 (ib + 1) = ib + 1 := Zt (by omega)
      obtain ⟨t2, rfl⟩ := ZE hy (k := kb) (by simp; omega)
      have hky : kb < ys.length := by omega
      have g3 : (ys.map r3u)[kb]? = some (r3u ys[kb]) := by rw [List.getElem?_map, List.getElem?_eq_getElem hky]; rfl
      have g4 : ∀ h, (ys.map r3u)[kb]'h = r3u ys[kb] := fun h => by simp
      have hFb : (ys.take (kb + 1)).map YM = (ys.take kb).map YM ++ [YM ys[kb]] := by
       rw [List.take_succ_eq_append_getElem hky, List.map_append]; rfl
      have hbk := hby _ (List.getElem_mem hky)
      generalize ys[kb] = v at *
      obtain ⟨a, b, c⟩ := v
      obtain ⟨b1, b2, b3⟩ := hbk
      simp only at b1 b2 b3
      have wa : W .i64 (a : Int) = a := W_i (by omega)
      have wb : W .i64 (b : Int) = b := W_i (by omega)
      have wc : W .i64 (c : Int) = c := W_i (by omega)
      have e1 : arI .rem .i64 (a : Int) 130 = some (.int .i64 ((a % 130 : Nat) : Int)) := XJ (b := 130) (by decide)
      have b1 : a % 130 < 130 := Nat.mod_lt _ (by decide)
      obtain ⟨V1, hV1⟩ : ∃ V : Int, (((a % 130 : Nat)) : Int) = V := ⟨_, rfl⟩
      rw [hV1] at e1
      have e2 : arI .rem .i64 (b : Int) 20 = some (.int .i64 ((b % 20 : Nat) : Int)) := XJ (b := 20) (by decide)
      have b2 : b % 20 < 20 := Nat.mod_lt _ (by decide)
      obtain ⟨V2, hV2⟩ : ∃ V : Int, (((b % 20 : Nat)) : Int) = V := ⟨_, rfl⟩
      rw [hV2] at e2
      have e3 : arI .rem .i64 (c : Int) 4 = some (.int .i64 ((c % 4 : Nat) : Int)) := XJ (b := 4) (by decide)
      have b3 : c % 4 < 4 := Nat.mod_lt _ (by decide)
      obtain ⟨V3, hV3⟩ : ∃ V : Int, (((c % 4 : Nat)) : Int) = V := ⟨_, rfl⟩
      rw [hV3] at e3
      have hde : YM (a, b, c) = (V1, V1 + V2, V3) := by unfold YM; simp only [hV1, hV2, hV3]
      rw [hde] at hFb
      have w5 : W .i64 (V1 + V2) = V1 + V2 := Zt (by omega)
      have hnxb : [(V1, V1 + V2, V3)] = ((ys.take (kb + 1)).map YM) := by rw [hFb, hkzb]; rfl
      have hapb : [[I V1, I (V1 + V2), I V3]] = [(V1, V1 + V2, V3)].map rM3 := rfl
      have HH2 := zA hA (zA hAb (zA hi0b (zA htnb (zA hk0b (zA hwib (zA g3 (zA g4 (zA hky (zA wa (zA wb (zA wc w5)))))))))))
      refine zK ?_
      simp only [zT, zB]
      refine zS ?_
      refine zL ?_
      refine zS ?_
      refine zR (zO (by simp [zC h42, o42, -Zb, HH1, r3u, ↓e1, ↓e2, ↓e3, -List.getElem?_map, -List.getElem_map, HH2]; rfl) ?_)
      simp only [zT, zB]
      refine Zw (by simp (maxSteps := 3000000) [zC h42, o42, -Zb, HH1, r3u, ↓e1, ↓e2, ↓e3, -List.getElem?_map, -List.getElem_map, HH2]; rfl) ?_
      simp only [zT, zB]
      refine zR (zO (by simp [zC h42, o42, -Zb, HH1, r3u, ↓e1, ↓e2, ↓e3, -List.getElem?_map, -List.getElem_map, HH2]; rfl) ?_)
      simp only [zT, zB]
      exact ⟨(min ys.length 4) - (kb + 1), _, _, by omega, by simp [zC h42, o42, -Zb, HH1, r3u, ↓e1, ↓e2, ↓e3, -List.getElem?_map, -List.getElem_map, HH2] <;> first | exact ⟨rfl, rfl⟩ | rfl, kb + 1, ib + 1, by omega, rfl, by omega, .inr ⟨0, [(V1, V1 + V2, V3)], by omega, hnxb, rfl, rfl⟩⟩
     ·have hAtb := of_decide_eq_true hAb
      have hxb := of_decide_eq_false hltb
      have hkEb : kb = (min ys.length 4) := by omega
      have hTk2 : ys.take (min ys.length 4) = ys.take 4 := Xk ys 4
      rw [show (xs.take 6).map deIt = [] by have h0 : xs = [] := List.length_eq_zero_iff.1 (by omega); rw [h0]; rfl, show (ys.take 4).map YM = [] by have h0 : ys = [] := List.length_eq_zero_iff.1 (by omega); rw [h0]; rfl]
      refine Zv ?_
      simp only [zT, zB, if_true, if_false, reduceIte, Nat.reduceEqDiff, Nat.succ_ne_zero, Nat.one_ne_zero, Nat.zero_ne_one]
      refine zS ?_
      refine zR (zO (by simp [zC h42, o42, -Zb, HH1, hA, hAb]; rfl) ?_)
      simp only [zT, zB]
      refine Ze ?_
      simp [zC h42, o42, -Zb, HH1, hA, hAb, trim]
   ·have tkb : (acb.map rM3).take (pb + 1) = acb.map rM3 := List.take_of_length_le (by simp [haclb])
    have hlacb : pb + 1 + 1 ≤ 1048576 := by omega
    have hr3b : ∀ e : Rm3, (rM3 e).length = 3 := fun _ => rfl
    have hfrb := fun n h r => optAll_snoc (frN_rM3 n h acb) r
    have hrjb := fun n => rM3_rb n 4 acb
    rcases hAb : decide (ib < (ys.length : Int)) with _ | _
    ·have HH3 := zA hA (zA tkb (zA hlacb (zA haclb (zA hr3b hAb))))
     refine zS ?_
     refine zS ?_
     refine zR (zO (by simp [zC h42, o42, -Zb, HH1, ↓hfrb, ↓hrjb, HH3]; rfl) ?_)
     simp only [zT, zB]
     refine Zh (x := false) (by simp) ?_
     have hxb := of_decide_eq_false hAb
     have hkEb : kb = (min ys.length 4) := by omega
     rw [hkEb] at hacb
     have hTk2 : ys.take (min ys.length 4) = ys.take 4 := Xk ys 4
     rw [hTk2] at hacb
     rw [show (xs.take 6).map deIt = [] by have h0 : xs = [] := List.length_eq_zero_iff.1 (by omega); rw [h0]; rfl, ← hacb]
     have hieb : acb.isEmpty = false := by cases acb with
     | nil => simp at haclb
     | cons y l => rfl
     have hfzb := fun H d => frz_rM3 H d acb
     refine Zv ?_
     simp only [zT, zB, if_true, if_false, reduceIte, Nat.reduceEqDiff, Nat.succ_ne_zero, Nat.one_ne_zero, Nat.zero_ne_one]
     refine zS ?_
     refine zR (zO (by simp [zC h42, o42, -Zb, HH1, ↓hfrb, ↓hrjb, HH3]; rfl) ?_)
     simp only [zT, zB]
     refine Ze ?_
     simp [zC h42, o42, -Zb, HH1, ↓hfrb, ↓hrjb, HH3, trim, hieb, ↓hfzb]
    ·have HH4 := zA hA (zA tkb (zA hlacb (zA haclb (zA hr3b hAb))))
     refine zS ?_
     refine zS ?_
     refine zR (zO (by simp [zC h42, o42, -Zb, HH1, ↓hfrb, ↓hrjb, HH4]; rfl) ?_)
     simp only [zT, zB]
     refine Zi (x := decide (ib < 4)) (by simp) (fun hltb => ?_) (fun hltb => ?_)
     ·have hAtb := of_decide_eq_true hAb
      have hlttb := of_decide_eq_true hltb
      have hk0b : kb < (min ys.length 4) := by omega
      have hi0b : 0 ≤ ib := by omega
      have htnb : ib.toNat = kb := by omega
      have hwib : W .i64 (ib + 1) = ib + 1 := Zt (by omega)
      obtain ⟨t2, rfl⟩ := ZE hy (k := kb) (by simp; omega)
      have hky : kb < ys.length := by omega
      have g3 : (ys.map r3u)[kb]? = some (r3u ys[kb]) := by rw [List.getElem?_map, List.getElem?_eq_getElem hky]; rfl
      have g4 : ∀ h, (ys.map r3u)[kb]'h = r3u ys[kb] := fun h => by simp
      have hFb : (ys.take (kb + 1)).map YM = (ys.take kb).map YM ++ [YM ys[kb]] := by
       rw [List.take_succ_eq_append_getElem hky, List.map_append]; rfl
      have hbk := hby _ (List.getElem_mem hky)
      generalize ys[kb] = v at *
      obtain ⟨a, b, c⟩ := v
      obtain ⟨b1, b2, b3⟩ := hbk
      simp only at b1 b2 b3
      have wa : W .i64 (a : Int) = a := W_i (by omega)
      have wb : W .i64 (b : Int) = b := W_i (by omega)
      have wc : W .i64 (c : Int) = c := W_i (by omega)
      have e1 : arI .rem .i64 (a : Int) 130 = some (.int .i64 ((a % 130 : Nat) : Int)) := XJ (b := 130) (by decide)
      have b1 : a % 130 < 130 := Nat.mod_lt _ (by decide)
      obtain ⟨V1, hV1⟩ : ∃ V : Int, (((a % 130 : Nat)) : Int) = V := ⟨_, rfl⟩
      rw [hV1] at e1
      have e2 : arI .rem .i64 (b : Int) 20 = some (.int .i64 ((b % 20 : Nat) : Int)) := XJ (b := 20) (by decide)
      have b2 : b % 20 < 20 := Nat.mod_lt _ (by decide)
      obtain ⟨V2, hV2⟩ : ∃ V : Int, (((b % 20 : Nat)) : Int) = V := ⟨_, rfl⟩
      rw [hV2] at e2
      have e3 : arI .rem .i64 (c : Int) 4 = some (.int .i64 ((c % 4 : Nat) : Int)) := XJ (b := 4) (by decide)
      have b3 : c % 4 < 4 := Nat.mod_lt _ (by decide)
      obtain ⟨V3, hV3⟩ : ∃ V : Int, (((c % 4 : Nat)) : Int) = V := ⟨_, rfl⟩
      rw [hV3] at e3
      have hde : YM (a, b, c) = (V1, V1 + V2, V3) := by unfold YM; simp only [hV1, hV2, hV3]
      rw [hde] at hFb
      have w5 : W .i64 (V1 + V2) = V1 + V2 := Zt (by omega)
      have hnxb : acb ++ [(V1, V1 + V2, V3)] = ((ys.take (kb + 1)).map YM) := by rw [hFb, ← hacb]
      have hnlb : (acb ++ [(V1, V1 + V2, V3)]).length = pb + 1 + 1 := by simp [haclb]
      have hapb : acb.map rM3 ++ [[I V1, I (V1 + V2), I V3]] = (acb ++ [(V1, V1 + V2, V3)]).map rM3 := by rw [List.map_append]; rfl
      generalize acb ++ [(V1, V1 + V2, V3)] = nxb at *
      have hrxb := fun n => rM3_rb n 4 nxb
      have HH5 := zA hi0b (zA htnb (zA hk0b (zA hwib (zA g3 (zA g4 (zA hky (zA wa (zA wb (zA wc (zA w5 hapb))))))))))
      have HH6 := zA hfrb (zA hrjb (zA e1 (zA e2 (zA e3 hrxb))))
      refine zK ?_
      simp only [zT, zB]
      refine zS ?_
      refine zL ?_
      refine zS ?_
      refine zR (zO (by simp [zC h42, o42, -Zb, HH1, HH4, r3u, -List.getElem?_map, -List.getElem_map, HH5, ↓HH6]; rfl) ?_)
      simp only [zT, zB]
      refine Zw (by simp (maxSteps := 3000000) [zC h42, o42, -Zb, HH1, HH4, r3u, -List.getElem?_map, -List.getElem_map, HH5, ↓HH6]; rfl) ?_
      simp only [zT, zB]
      refine zR (zO (by simp [zC h42, o42, -Zb, HH1, HH4, r3u, -List.getElem?_map, -List.getElem_map, HH5, ↓HH6]; rfl) ?_)
      simp only [zT, zB]
      exact ⟨(min ys.length 4) - (kb + 1), _, _, by omega, by simp [zC h42, o42, -Zb, HH1, HH4, r3u, -List.getElem?_map, -List.getElem_map, HH5, ↓HH6] <;> first | exact ⟨rfl, rfl⟩ | rfl, kb + 1, ib + 1, by omega, rfl, by omega, .inr ⟨pb + 1, nxb, by omega, hnxb, hnlb, rfl⟩⟩
     ·have hAtb := of_decide_eq_true hAb
      have hxb := of_decide_eq_false hltb
      have hkEb : kb = (min ys.length 4) := by omega
      rw [hkEb] at hacb
      have hTk2 : ys.take (min ys.length 4) = ys.take 4 := Xk ys 4
      rw [hTk2] at hacb
      rw [show (xs.take 6).map deIt = [] by have h0 : xs = [] := List.length_eq_zero_iff.1 (by omega); rw [h0]; rfl, ← hacb]
      have hieb : acb.isEmpty = false := by cases acb with
      | nil => simp at haclb
      | cons y l => rfl
      have hfzb := fun H d => frz_rM3 H d acb
      refine Zv ?_
      simp only [zT, zB, if_true, if_false, reduceIte, Nat.reduceEqDiff, Nat.succ_ne_zero, Nat.one_ne_zero, Nat.zero_ne_one]
      refine zS ?_
      refine zR (zO (by simp [zC h42, o42, -Zb, HH1, ↓hfrb, ↓hrjb, HH4]; rfl) ?_)
      simp only [zT, zB]
      refine Ze ?_
      simp [zC h42, o42, -Zb, HH1, ↓hfrb, ↓hrjb, HH4, trim, hieb, ↓hfzb]
  ·refine zS ?_
   refine zS ?_
   refine zR (zO (by simp [zC h42, o42, -Zb, HH1, hA]; rfl) ?_)
   simp only [zT, zB]
   refine Zi (x := decide (i < 6)) (by simp) (fun hlt => ?_) (fun hlt => ?_)
   ·have hAt := of_decide_eq_true hA
    have hltt := of_decide_eq_true hlt
    have hk0 : k < (min xs.length 6) := by omega
    have hi0 : 0 ≤ i := by omega
    have htn : i.toNat = k := by omega
    have hwi : W .i64 (i + 1) = i + 1 := Zt (by omega)
    obtain ⟨t1, rfl⟩ := ZE hx (k := k) (by simp; omega)
    have hkx : k < xs.length := by omega
    have g1 : (xs.map r4)[k]? = some (r4 xs[k]) := by rw [List.getElem?_map, List.getElem?_eq_getElem hkx]; rfl
    have g2 : ∀ h, (xs.map r4)[k]'h = r4 xs[k] := fun h => by simp
    have hF : (xs.take (k + 1)).map deIt = (xs.take k).map deIt ++ [deIt xs[k]] := by
     rw [List.take_succ_eq_append_getElem hkx, List.map_append]; rfl
    have hbk := hbx _ (List.getElem_mem hkx)
    generalize xs[k] = v at *
    obtain ⟨a, b, c, d⟩ := v
    obtain ⟨b1, b2, b3, b4⟩ := hbk
    simp only at b1 b2 b3 b4
    have wa : W .i64 (a : Int) = a := W_i (by omega)
    have wb : W .i64 (b : Int) = b := W_i (by omega)
    have wc : W .i64 (c : Int) = c := W_i (by omega)
    have wd : W .i64 (d : Int) = d := W_i (by omega)
    have e1 : arI .rem .i64 (a : Int) 100 = some (.int .i64 ((a % 100 : Nat) : Int)) := XJ (b := 100) (by decide)
    have b1 : a % 100 < 100 := Nat.mod_lt _ (by decide)
    obtain ⟨V1, hV1⟩ : ∃ V : Int, (((a % 100 : Nat)) : Int) = V := ⟨_, rfl⟩
    rw [hV1] at e1
    have e2 : arI .rem .i64 (b : Int) 60 = some (.int .i64 ((b % 60 : Nat) : Int)) := XJ (b := 60) (by decide)
    have b2 : b % 60 < 60 := Nat.mod_lt _ (by decide)
    obtain ⟨V2, hV2⟩ : ∃ V : Int, (((b % 60 : Nat)) : Int) = V := ⟨_, rfl⟩
    rw [hV2] at e2
    have e3 : arI .rem .i64 (c : Int) 60 = some (.int .i64 ((c % 60 : Nat) : Int)) := XJ (b := 60) (by decide)
    have b3 : c % 60 < 60 := Nat.mod_lt _ (by decide)
    obtain ⟨V3, hV3⟩ : ∃ V : Int, (((c % 60 : Nat)) : Int) = V := ⟨_, rfl⟩
    rw [hV3] at e3
    have e4 : arI .rem .i64 (d : Int) 30 = some (.int .i64 ((d % 30 : Nat) : Int)) := XJ (b := 30) (by decide)
    have b4 : d % 30 < 30 := Nat.mod_lt _ (by decide)
    obtain ⟨V4, hV4⟩ : ∃ V : Int, (((d % 30 : Nat)) : Int) = V := ⟨_, rfl⟩
    rw [hV4] at e4
    have hde : deIt (a, b, c, d) = (V1, V1 + 5, max 0 (V1 - V2), V1 + 5 + V3, V4) := by unfold deIt; simp only [hV1, hV2, hV3, hV4]
    rw [hde] at hF
    have w5 : W .i64 (V1 + 5) = V1 + 5 := Zt (by omega)
    have w6 : W .i64 (V1 - V2) = V1 - V2 := Zt (by omega)
    have w7 : W .i64 (V1 + 5 + V3) = V1 + 5 + V3 := Zt (by omega)
    obtain ⟨Mx, hMx⟩ : ∃ V : Int, max 0 (V1 - V2) = V := ⟨_, rfl⟩
    have hMy : (if V2 < V1 then V1 - V2 else 0) = Mx := by rw [← hMx]; split <;> omega
    rw [hMx] at hF
    have hnx : [(V1, V1 + 5, Mx, V1 + 5 + V3, V4)] = ((xs.take (k + 1)).map deIt) := by rw [hF, hkz]; rfl
    have hap : [[I V1, I (V1 + 5), I Mx, I (V1 + 5 + V3), I V4]] = [(V1, V1 + 5, Mx, V1 + 5 + V3, V4)].map rI5 := rfl
    have HH7 := zA hA (zA hi0 (zA htn (zA hk0 (zA hwi (zA g1 (zA g2 (zA hkx (zA wa (zA wb (zA wc (zA wd (zA w5 (zA w6 (zA w7 (zA hMx hMy)))))))))))))))
    refine zK ?_
    simp only [zT, zB]
    refine zS ?_
    refine zL ?_
    refine zS ?_
    refine zR (zO (by simp [zC h42, o42, -Zb, HH1, r4, ↓e1, ↓e2, ↓e3, ↓e4, -List.getElem?_map, -List.getElem_map, HH7]; rfl) ?_)
    simp only [zT, zB]
    refine Zw (by simp (maxSteps := 3000000) [zC h42, o42, -Zb, HH1, r4, ↓e1, ↓e2, ↓e3, ↓e4, -List.getElem?_map, -List.getElem_map, HH7]; rfl) ?_
    simp only [zT, zB]
    refine zR (zO (by simp [zC h42, o42, -Zb, HH1, r4, ↓e1, ↓e2, ↓e3, ↓e4, -List.getElem?_map, -List.getElem_map, HH7]; rfl) ?_)
    simp only [zT, zB]
    exact ⟨(min xs.length 6) - (k + 1), _, _, by omega, by simp [zC h42, o42, -Zb, HH1, r4, ↓e1, ↓e2, ↓e3, ↓e4, -List.getElem?_map, -List.getElem_map, HH7] <;> first | exact ⟨rfl, rfl⟩ | rfl, k + 1, i + 1, by omega, rfl, by omega, .inr ⟨0, [(V1, V1 + 5, Mx, V1 + 5 + V3, V4)], by omega, hnx, rfl, rfl⟩⟩
   ·have hAt := of_decide_eq_true hA
    have hx := of_decide_eq_false hlt
    have hkE : k = (min xs.length 6) := by omega
    have hTk : xs.take (min xs.length 6) = xs.take 6 := Xk xs 6
    refine Zv ?_
    simp only [zT, zB, if_true, if_false, reduceIte, Nat.reduceEqDiff, Nat.succ_ne_zero, Nat.one_ne_zero, Nat.zero_ne_one]
    refine zS ?_
    refine zS ?_
    refine zR (zO (by simp [zC h42, o42, -Zb, HH1, hA]; rfl) ?_)
    simp only [zT, zB]
    refine zL ?_
    refine XX (fun mmb σ => ∃ (kb : Nat) (ib : Int), ib = kb ∧ (min ys.length 4) - kb = mmb ∧ kb ≤ (min ys.length 4) ∧ ((kb = 0 ∧ σ = ⟨[.any, .ref 0 0 0, .any, .any, .sl 3 0 0 true, .sl 4 0 0 true, .any, .any, I ib, .any, .any, .any, .any, .any, .any, .any, .any, .any, .any, .any, .any, .any, .any, .any, .any, .any, .any, .any, .any, .any, .any, .any, .any, .any, .any, .any, .any, .any, .any, .any, .any, .any, .any, .any, .any, .any, .any, .any, .any, .any, .any, .any, .any, .any, .any, .any, .any, .any, .any, .any, .any, .any, .any, .any, .any, .any, .any, .any, .any, .any, .any, .any, .any, .any, .any, .any, .any, .any, .any, .any, .any, .any, .any, .any, .any, .any, .any, .any, .any, .any, .any, .any, .any, .any, .any, .any, .any, .any, .any, .any, .any, .any, .any, .any, .any, .any, .any], [some (.row 2 [[x, y]]), none, none, some (.row 5 []), some (.row 3 [])]⟩) ∨ (∃ (pb : Nat) (acb : List (Rm3)), kb = pb + 1 ∧ acb = ((ys.take (kb)).map YM) ∧ acb.length = pb + 1 ∧ σ = ⟨[.any, .ref 0 0 0, .any, .any, .sl 3 0 0 true, .sl 4 0 (pb + 1) false, .any, .any, I ib, .any, .any, .any, .any, .any, .any, .any, .any, .any, .any, .any, .any, .any, .any, .any, .any, .any, .any, .any, .any, .any, .any, .any, .any, .any, .any, .any, .any, .any, .any, .any, .any, .any, .any, .any, .any, .any, .any, .any, .any, .any, .any, .any, .any, .any, .any, .any, .any, .any, .any, .any, .any, .any, .any, .any, .any, .any, .any, .any, .any, .any, .any, .any, .any, .any, .any, .any, .any, .any, .any, .any, .any, .any, .any, .any, .any, .any, .any, .any, .any, .any, .any, .any, .any, .any, .any, .any, .any, .any, .any, .any, .any, .any, .any, .any, .any, .any, .any], [some (.row 2 [[x, y]]), none, none, some (.row 5 []), some (.row 3 (acb.map rM3))]⟩))) (by simp [zC h42, o42, -Zb, HH1, hA] <;> first | exact ⟨rfl, rfl⟩ | rfl) (⟨0, 0, rfl, rfl, Nat.zero_le _, .inl ⟨rfl, rfl⟩⟩) ?_
    rintro mmb σ ⟨kb, ib, hikb, rfl, hklb, ⟨hkzb, rfl⟩ | ⟨pb, acb, hkpb, hacb, haclb, rfl⟩⟩
    ·rcases hAb : decide (ib < (ys.length : Int)) with _ | _
     ·refine zS ?_
      refine zS ?_
      refine zR (zO (by simp [zC h42, o42, -Zb, HH1, hA, hAb]; rfl) ?_)
      simp only [zT, zB]
      refine Zh (x := false) (by simp) ?_
      have hxb := of_decide_eq_false hAb
      have hkEb : kb = (min ys.length 4) := by omega
      have hTk2 : ys.take (min ys.length 4) = ys.take 4 := Xk ys 4
      rw [show (xs.take 6).map deIt = [] by have h0 : xs = [] := List.length_eq_zero_iff.1 (by omega); rw [h0]; rfl, show (ys.take 4).map YM = [] by have h0 : ys = [] := List.length_eq_zero_iff.1 (by omega); rw [h0]; rfl]
      refine Zv ?_
      simp only [zT, zB, if_true, if_false, reduceIte, Nat.reduceEqDiff, Nat.succ_ne_zero, Nat.one_ne_zero, Nat.zero_ne_one]
      refine zS ?_
      refine zR (zO (by simp [zC h42, o42, -Zb, HH1, hA, hAb]; rfl) ?_)
      simp only [zT, zB]
      refine Ze ?_
      simp [zC h42, o42, -Zb, HH1, hA, hAb, trim]
     ·refine zS ?_
      refine zS ?_
      refine zR (zO (by simp [zC h42, o42, -Zb, HH1, hA, hAb]; rfl) ?_)
      simp only [zT, zB]
      refine Zi (x := decide (ib < 4)) (by simp) (fun hltb => ?_) (fun hltb => ?_)
      ·have hAtb := of_decide_eq_true hAb
       have hlttb := of_decide_eq_true hltb
       have hk0b : kb < (min ys.length 4) := by omega
       have hi0b : 0 ≤ ib := by omega
       have htnb : ib.toNat = kb := by omega
       have hwib : W .i64 (ib + 1) = ib + 1 := Zt (by omega)
       obtain ⟨t2, rfl⟩ := ZE hy (k := kb) (by simp; omega)
       have hky : kb < ys.length := by omega
       have g3 : (ys.map r3u)[kb]? = some (r3u ys[kb]) := by rw [List.getElem?_map, List.getElem?_eq_getElem hky]; rfl
       have g4 : ∀ h, (ys.map r3u)[kb]'h = r3u ys[kb] := fun h => by simp
       have hFb : (ys.take (kb + 1)).map YM = (ys.take kb).map YM ++ [YM ys[kb]] := by
        rw [List.take_succ_eq_append_getElem hky, List.map_append]; rfl
       have hbk := hby _ (List.getElem_mem hky)
       generalize ys[kb] = v at *
       obtain ⟨a, b, c⟩ := v
       obtain ⟨b1, b2, b3⟩ := hbk
       simp only at b1 b2 b3
       have wa : W .i64 (a : Int) = a := W_i (by omega)
       have wb : W .i64 (b : Int) = b := W_i (by omega)
       have wc : W .i64 (c : Int) = c := W_i (by omega)
       have e1 : arI .rem .i64 (a : Int) 130 = some (.int .i64 ((a % 130 : Nat) : Int)) := XJ (b := 130) (by decide)
       have b1 : a % 130 < 130 := Nat.mod_lt _ (by decide)
       obtain ⟨V1, hV1⟩ : ∃ V : Int, (((a % 130 : Nat)) : Int) = V := ⟨_, rfl⟩
       rw [hV1] at e1
       have e2 : arI .rem .i64 (b : Int) 20 = some (.int .i64 ((b % 20 : Nat) : Int)) := XJ (b := 20) (by decide)
       have b2 : b % 20 < 20 := Nat.mod_lt _ (by decide)
       obtain ⟨V2, hV2⟩ : ∃ V : Int, (((b % 20 : Nat)) : Int) = V := ⟨_, rfl⟩
       rw [hV2] at e2
       have e3 : arI .rem .i64 (c : Int) 4 = some (.int .i64 ((c % 4 : Nat) : Int)) := XJ (b := 4) (by decide)
       have b3 : c % 4 < 4 := Nat.mod_lt _ (by decide)
       obtain ⟨V3, hV3⟩ : ∃ V : Int, (((c % 4 : Nat)) : Int) = V := ⟨_, rfl⟩
       rw [hV3] at e3
       have hde : YM (a, b, c) = (V1, V1 + V2, V3) := by unfold YM; simp only [hV1, hV2, hV3]
       rw [hde] at hFb
       have w5 : W .i64 (V1 + V2) = V1 + V2 := Zt (by omega)
       have hnxb : [(V1, V1 + V2, V3)] = ((ys.take (kb + 1)).map YM) := by rw [hFb, hkzb]; rfl
       have hapb : [[I V1, I (V1 + V2), I V3]] = [(V1, V1 + V2, V3)].map rM3 := rfl
       have HH8 := zA hA (zA hAb (zA hi0b (zA htnb (zA hk0b (zA hwib (zA g3 (zA g4 (zA hky (zA wa (zA wb (zA wc w5)))))))))))
       refine zK ?_
       simp only [zT, zB]
       refine zS ?_
       refine zL ?_
       refine zS ?_
       refine zR (zO (by simp [zC h42, o42, -Zb, HH1, r3u, ↓e1, ↓e2, ↓e3, -List.getElem?_map, -List.getElem_map, HH8]; rfl) ?_)
       simp only [zT, zB]
       refine Zw (by simp (maxSteps := 3000000) [zC h42, o42, -Zb, HH1, r3u, ↓e1, ↓e2, ↓e3, -List.getElem?_map, -List.getElem_map, HH8]; rfl) ?_
       simp only [zT, zB]
       refine zR (zO (by simp [zC h42, o42, -Zb, HH1, r3u, ↓e1, ↓e2, ↓e3, -List.getElem?_map, -List.getElem_map, HH8]; rfl) ?_)
       simp only [zT, zB]
       exact ⟨(min ys.length 4) - (kb + 1), _, _, by omega, by simp [zC h42, o42, -Zb, HH1, r3u, ↓e1, ↓e2, ↓e3, -List.getElem?_map, -List.getElem_map, HH8] <;> first | exact ⟨rfl, rfl⟩ | rfl, kb + 1, ib + 1, by omega, rfl, by omega, .inr ⟨0, [(V1, V1 + V2, V3)], by omega, hnxb, rfl, rfl⟩⟩
      ·have hAtb := of_decide_eq_true hAb
       have hxb := of_decide_eq_false hltb
       have hkEb : kb = (min ys.length 4) := by omega
       have hTk2 : ys.take (min ys.length 4) = ys.take 4 := Xk ys 4
       rw [show (xs.take 6).map deIt = [] by have h0 : xs = [] := List.length_eq_zero_iff.1 (by omega); rw [h0]; rfl, show (ys.take 4).map YM = [] by have h0 : ys = [] := List.length_eq_zero_iff.1 (by omega); rw [h0]; rfl]
       refine Zv ?_
       simp only [zT, zB, if_true, if_false, reduceIte, Nat.reduceEqDiff, Nat.succ_ne_zero, Nat.one_ne_zero, Nat.zero_ne_one]
       refine zS ?_
       refine zR (zO (by simp [zC h42, o42, -Zb, HH1, hA, hAb]; rfl) ?_)
       simp only [zT, zB]
       refine Ze ?_
       simp [zC h42, o42, -Zb, HH1, hA, hAb, trim]
    ·have tkb : (acb.map rM3).take (pb + 1) = acb.map rM3 := List.take_of_length_le (by simp [haclb])
     have hlacb : pb + 1 + 1 ≤ 1048576 := by omega
     have hr3b : ∀ e : Rm3, (rM3 e).length = 3 := fun _ => rfl
     have hfrb := fun n h r => optAll_snoc (frN_rM3 n h acb) r
     have hrjb := fun n => rM3_rb n 4 acb
     rcases hAb : decide (ib < (ys.length : Int)) with _ | _
     ·have HH9 := zA hA (zA tkb (zA hlacb (zA haclb (zA hr3b hAb))))
      refine zS ?_
      refine zS ?_
      refine zR (zO (by simp [zC h42, o42, -Zb, HH1, ↓hfrb, ↓hrjb, HH9]; rfl) ?_)
      simp only [zT, zB]
      refine Zh (x := false) (by simp) ?_
      have hxb := of_decide_eq_false hAb
      have hkEb : kb = (min ys.length 4) := by omega
      rw [hkEb] at hacb
      have hTk2 : ys.take (min ys.length 4) = ys.take 4 := Xk ys 4
      rw [hTk2] at hacb
      rw [show (xs.take 6).map deIt = [] by have h0 : xs = [] := List.length_eq_zero_iff.1 (by omega); rw [h0]; rfl, ← hacb]
      have hieb : acb.isEmpty = false := by cases acb with
      | nil => simp at haclb
      | cons y l => rfl
      have hfzb := fun H d => frz_rM3 H d acb
      refine Zv ?_
      simp only [zT, zB, if_true, if_false, reduceIte, Nat.reduceEqDiff, Nat.succ_ne_zero, Nat.one_ne_zero, Nat.zero_ne_one]
      refine zS ?_
      refine zR (zO (by simp [zC h42, o42, -Zb, HH1, ↓hfrb, ↓hrjb, HH9]; rfl) ?_)
      simp only [zT, zB]
      refine Ze ?_
      simp [zC h42, o42, -Zb, HH1, ↓hfrb, ↓hrjb, HH9, trim, hieb, ↓hfzb]
     ·have HH10 := zA hA (zA tkb (zA hlacb (zA haclb (zA hr3b hAb))))
      refine zS ?_
      refine zS ?_
      refine zR (zO (by simp [zC h42, o42, -Zb, HH1, ↓hfrb, ↓hrjb, HH10]; rfl) ?_)
      simp only [zT, zB]
      refine Zi (x := decide (ib < 4)) (by simp) (fun hltb => ?_) (fun hltb => ?_)
      ·have hAtb := of_decide_eq_true hAb
       have hlttb := of_decide_eq_true hltb
       have hk0b : kb < (min ys.length 4) := by omega
       have hi0b : 0 ≤ ib := by omega
       have htnb : ib.toNat = kb := by omega
       have hwib : W .i64 (ib + 1) = ib + 1 := Zt (by omega)
       obtain ⟨t2, rfl⟩ := ZE hy (k := kb) (by simp; omega)
       have hky : kb < ys.length := by omega
       have g3 : (ys.map r3u)[kb]? = some (r3u ys[kb]) := by rw [List.getElem?_map, List.getElem?_eq_getElem hky]; rfl
       have g4 : ∀ h, (ys.map r3u)[kb]'h = r3u ys[kb] := fun h => by simp
       have hFb : (ys.take (kb + 1)).map YM = (ys.take kb).map YM ++ [YM ys[kb]] := by
        rw [List.take_succ_eq_append_getElem hky, List.map_append]; rfl
       have hbk := hby _ (List.getElem_mem hky)
       generalize ys[kb] = v at *
       obtain ⟨a, b, c⟩ := v
       obtain ⟨b1, b2, b3⟩ := hbk
       simp only at b1 b2 b3
       have wa : W .i64 (a : Int) = a := W_i (by omega)
       have wb : W .i64 (b : Int) = b := W_i (by omega)
       have wc : W .i64 (c : Int) = c := W_i (by omega)
       have e1 : arI .rem .i64 (a : Int) 130 = some (.int .i64 ((a % 130 : Nat) : Int)) := XJ (b := 130) (by decide)
       have b1 : a % 130 < 130 := Nat.mod_lt _ (by decide)
       obtain ⟨V1, hV1⟩ : ∃ V : Int, (((a % 130 : Nat)) : Int) = V := ⟨_, rfl⟩
       rw [hV1] at e1
       have e2 : arI .rem .i64 (b : Int) 20 = some (.int .i64 ((b % 20 : Nat) : Int)) := XJ (b := 20) (by decide)
       have b2 : b % 20 < 20 := Nat.mod_lt _ (by decide)
       obtain ⟨V2, hV2⟩ : ∃ V : Int, (((b % 20 : Nat)) : Int) = V := ⟨_, rfl⟩
       rw [hV2] at e2
       have e3 : arI .rem .i64 (c : Int) 4 = some (.int .i64 ((c % 4 : Nat) : Int)) := XJ (b := 4) (by decide)
       have b3 : c % 4 < 4 := Nat.mod_lt _ (by decide)
       obtain ⟨V3, hV3⟩ : ∃ V : Int, (((c % 4 : Nat)) : Int) = V := ⟨_, rfl⟩
       rw [hV3] at e3
       have hde : YM (a, b, c) = (V1, V1 + V2, V3) := by unfold YM; simp only [hV1, hV2, hV3]
       rw [hde] at hFb
       have w5 : W .i64 (V1 + V2) = V1 + V2 := Zt (by omega)
       have hnxb : acb ++ [(V1, V1 + V2, V3)] = ((ys.take (kb + 1)).map YM) := by rw [hFb, ← hacb]
       have hnlb : (acb ++ [(V1, V1 + V2, V3)]).length = pb + 1 + 1 := by simp [haclb]
       have hapb : acb.map rM3 ++ [[I V1, I (V1 + V2), I V3]] = (acb ++ [(V1, V1 + V2, V3)]).map rM3 := by rw [List.map_append]; rfl
       generalize acb ++ [(V1, V1 + V2, V3)] = nxb at *
       have hrxb := fun n => rM3_rb n 4 nxb
       have HH11 := zA hi0b (zA htnb (zA hk0b (zA hwib (zA g3 (zA g4 (zA hky (zA wa (zA wb (zA wc (zA w5 hapb))))))))))
       have HH12 := zA hfrb (zA hrjb (zA e1 (zA e2 (zA e3 hrxb))))
       refine zK ?_
       simp only [zT, zB]
       refine zS ?_
       refine zL ?_
       refine zS ?_
       refine zR (zO (by simp [zC h42, o42, -Zb, HH1, HH10, r3u, -List.getElem?_map, -List.getElem_map, HH11, ↓HH12]; rfl) ?_)
       simp only [zT, zB]
       refine Zw (by simp (maxSteps := 3000000) [zC h42, o42, -Zb, HH1, HH10, r3u, -List.getElem?_map, -List.getElem_map, HH11, ↓HH12]; rfl) ?_
       simp only [zT, zB]
       refine zR (zO (by simp [zC h42, o42, -Zb, HH1, HH10, r3u, -List.getElem?_map, -List.getElem_map, HH11, ↓HH12]; rfl) ?_)
       simp only [zT, zB]
       exact ⟨(min ys.length 4) - (kb + 1), _, _, by omega, by simp [zC h42, o42, -Zb, HH1, HH10, r3u, -List.getElem?_map, -List.getElem_map, HH11, ↓HH12] <;> first | exact ⟨rfl, rfl⟩ | rfl, kb + 1, ib + 1, by omega, rfl, by omega, .inr ⟨pb + 1, nxb, by omega, hnxb, hnlb, rfl⟩⟩
      ·have hAtb := of_decide_eq_true hAb
       have hxb := of_decide_eq_false hltb
       have hkEb : kb = (min ys.length 4) := by omega
       rw [hkEb] at hacb
       have hTk2 : ys.take (min ys.length 4) = ys.take 4 := Xk ys 4
       rw [hTk2] at hacb
       rw [show (xs.take 6).map deIt = [] by have h0 : xs = [] := List.length_eq_zero_iff.1 (by omega); rw [h0]; rfl, ← hacb]
       have hieb : acb.isEmpty = false := by cases acb with
       | nil => simp at haclb
       | cons y l => rfl
       have hfzb := fun H d => frz_rM3 H d acb
       refine Zv ?_
       simp only [zT, zB, if_true, if_false, reduceIte, Nat.reduceEqDiff, Nat.succ_ne_zero, Nat.one_ne_zero, Nat.zero_ne_one]
       refine zS ?_
       refine zR (zO (by simp [zC h42, o42, -Zb, HH1, ↓hfrb, ↓hrjb, HH10]; rfl) ?_)
       simp only [zT, zB]
       refine Ze ?_
       simp [zC h42, o42, -Zb, HH1, ↓hfrb, ↓hrjb, HH10, trim, hieb, ↓hfzb]
 ·have tk : (ac.map rI5).take (p + 1) = ac.map rI5 := List.take_of_length_le (by simp [hacl])
  have hlac : p + 1 + 1 ≤ 1048576 := by omega
  have hr3 : ∀ e : It5, (rI5 e).length = 5 := fun _ => rfl
  have hfr := fun n h r => optAll_snoc (frN_rI5 n h ac) r
  have hrj := fun n => rI5_rb n 4 ac
  rcases hA : decide (i < (xs.length : Int)) with _ | _
  ·have HH13 := zA tk (zA hlac (zA hacl (zA hr3 hA)))
   refine zS ?_
   refine zS ?_
   refine zR (zO (by simp [zC h42, o42, -Zb, HH1, ↓hfr, ↓hrj, HH13]; rfl) ?_)
   simp only [zT, zB]
   refine Zh (x := false) (by simp) ?_
   have hx := of_decide_eq_false hA
   have hkE : k = (min xs.length 6) := by omega
   rw [hkE] at hac
   have hTk : xs.take (min xs.length 6) = xs.take 6 := Xk xs 6
   rw [hTk] at hac
   refine Zv ?_
   simp only [zT, zB, if_true, if_false, reduceIte, Nat.reduceEqDiff, Nat.succ_ne_zero, Nat.one_ne_zero, Nat.zero_ne_one]
   refine zS ?_
   refine zS ?_
   refine zR (zO (by simp [zC h42, o42, -Zb, HH1, ↓hfr, ↓hrj, HH13]; rfl) ?_)
   simp only [zT, zB]
   refine zL ?_
   refine XX (fun mmb σ => ∃ (kb : Nat) (ib : Int), ib = kb ∧ (min ys.length 4) - kb = mmb ∧ kb ≤ (min ys.length 4) ∧ ((kb = 0 ∧ σ = ⟨[.any, .ref 0 0 0, .any, .any, .sl 3 0 (p + 1) false, .sl 4 0 0 true, .any, .any, I ib, .any, .any, .any, .any, .any, .any, .any, .any, .any, .any, .any, .any, .any, .any, .any, .any, .any, .any, .any, .any, .any, .any, .any, .any, .any, .any, .any, .any, .any, .any, .any, .any, .any, .any, .any, .any, .any, .any, .any, .any, .any, .any, .any, .any, .any, .any, .any, .any, .any, .any, .any, .any, .any, .any, .any, .any, .any, .any, .any, .any, .any, .any, .any, .any, .any, .any, .any, .any, .any, .any, .any, .any, .any, .any, .any, .any, .any, .any, .any, .any, .any, .any, .any, .any, .any, .any, .any, .any, .any, .any, .any, .any, .any, .any, .any, .any, .any, .any], [some (.row 2 [[x, y]]), none, none, some (.row 5 (ac.map rI5)), some (.row 3 [])]⟩) ∨ (∃ (pb : Nat) (acb : List (Rm3)), kb = pb + 1 ∧ acb = ((ys.take (kb)).map YM) ∧ acb.length = pb + 1 ∧ σ = ⟨[.any, .ref 0 0 0, .any, .any, .sl 3 0 (p + 1) false, .sl 4 0 (pb + 1) false, .any, .any, I ib, .any, .any, .any, .any, .any, .any, .any, .any, .any, .any, .any, .any, .any, .any, .any, .any, .any, .any, .any, .any, .any, .any, .any, .any, .any, .any, .any, .any, .any, .any, .any, .any, .any, .any, .any, .any, .any, .any, .any, .any, .any, .any, .any, .any, .any, .any, .any, .any, .any, .any, .any, .any, .any, .any, .any, .any, .any, .any, .any, .any, .any, .any, .any, .any, .any, .any, .any, .any, .any, .any, .any, .any, .any, .any, .any, .any, .any, .any, .any, .any, .any, .any, .any, .any, .any, .any, .any, .any, .any, .any, .any, .any, .any, .any, .any, .any, .any, .any], [some (.row 2 [[x, y]]), none, none, some (.row 5 (ac.map rI5)), some (.row 3 (acb.map rM3))]⟩))) (by simp [zC h42, o42, -Zb, HH1, ↓hfr, ↓hrj, HH13] <;> first | exact ⟨rfl, rfl⟩ | rfl) (⟨0, 0, rfl, rfl, Nat.zero_le _, .inl ⟨rfl, rfl⟩⟩) ?_
   rintro mmb σ ⟨kb, ib, hikb, rfl, hklb, ⟨hkzb, rfl⟩ | ⟨pb, acb, hkpb, hacb, haclb, rfl⟩⟩
   ·rcases hAb : decide (ib < (ys.length : Int)) with _ | _
    ·refine zS ?_
     refine zS ?_
     refine zR (zO (by simp [zC h42, o42, -Zb, HH1, ↓hfr, ↓hrj, HH13, hAb]; rfl) ?_)
     simp only [zT, zB]
     refine Zh (x := false) (by simp) ?_
     have hxb := of_decide_eq_false hAb
     have hkEb : kb = (min ys.length 4) := by omega
     have hTk2 : ys.take (min ys.length 4) = ys.take 4 := Xk ys 4
     rw [← hac, show (ys.take 4).map YM = [] by have h0 : ys = [] := List.length_eq_zero_iff.1 (by omega); rw [h0]; rfl]
     have hie : ac.isEmpty = false := by cases ac with
     | nil => simp at hacl
     | cons y l => rfl
     have hfz := fun H d => frz_rI5 H d ac
     refine Zv ?_
     simp only [zT, zB, if_true, if_false, reduceIte, Nat.reduceEqDiff, Nat.succ_ne_zero, Nat.one_ne_zero, Nat.zero_ne_one]
     refine zS ?_
     refine zR (zO (by simp [zC h42, o42, -Zb, HH1, ↓hfr, ↓hrj, HH13, hAb]; rfl) ?_)
     simp only [zT, zB]
     refine Ze ?_
     simp [zC h42, o42, -Zb, HH1, ↓hfr, ↓hrj, HH13, hAb, trim, hie, ↓hfz]
    ·refine zS ?_
     refine zS ?_
     refine zR (zO (by simp [zC h42, o42, -Zb, HH1, ↓hfr, ↓hrj, HH13, hAb]; rfl) ?_)
     simp only [zT, zB]
     refine Zi (x := decide (ib < 4)) (by simp) (fun hltb => ?_) (fun hltb => ?_)
     ·have hAtb := of_decide_eq_true hAb
      have hlttb := of_decide_eq_true hltb
      have hk0b : kb < (min ys.length 4) := by omega
      have hi0b : 0 ≤ ib := by omega
      have htnb : ib.toNat = kb := by omega
      have hwib : W .i64 (ib + 1) = ib + 1 := Zt (by omega)
      obtain ⟨t2, rfl⟩ := ZE hy (k := kb) (by simp; omega)
      have hky : kb < ys.length := by omega
      have g3 : (ys.map r3u)[kb]? = some (r3u ys[kb]) := by rw [List.getElem?_map, List.getElem?_eq_getElem hky]; rfl
      have g4 : ∀ h, (ys.map r3u)[kb]'h = r3u ys[kb] := fun h => by simp
      have hFb : (ys.take (kb + 1)).map YM = (ys.take kb).map YM ++ [YM ys[kb]] := by
       rw [List.take_succ_eq_append_getElem hky, List.map_append]; rfl
      have hbk := hby _ (List.getElem_mem hky)
      generalize ys[kb] = v at *
      obtain ⟨a, b, c⟩ := v
      obtain ⟨b1, b2, b3⟩ := hbk
      simp only at b1 b2 b3
      have wa : W .i64 (a : Int) = a := W_i (by omega)
      have wb : W .i64 (b : Int) = b := W_i (by omega)
      have wc : W .i64 (c : Int) = c := W_i (by omega)
      have e1 : arI .rem .i64 (a : Int) 130 = some (.int .i64 ((a % 130 : Nat) : Int)) := XJ (b := 130) (by decide)
      have b1 : a % 130 < 130 := Nat.mod_lt _ (by decide)
      obtain ⟨V1, hV1⟩ : ∃ V : Int, (((a % 130 : Nat)) : Int) = V := ⟨_, rfl⟩
      rw [hV1] at e1
      have e2 : arI .rem .i64 (b : Int) 20 = some (.int .i64 ((b % 20 : Nat) : Int)) := XJ (b := 20) (by decide)
      have b2 : b % 20 < 20 := Nat.mod_lt _ (by decide)
      obtain ⟨V2, hV2⟩ : ∃ V : Int, (((b % 20 : Nat)) : Int) = V := ⟨_, rfl⟩
      rw [hV2] at e2
      have e3 : arI .rem .i64 (c : Int) 4 = some (.int .i64 ((c % 4 : Nat) : Int)) := XJ (b := 4) (by decide)
      have b3 : c % 4 < 4 := Nat.mod_lt _ (by decide)
      obtain ⟨V3, hV3⟩ : ∃ V : Int, (((c % 4 : Nat)) : Int) = V := ⟨_, rfl⟩
      rw [hV3] at e3
      have hde : YM (a, b, c) = (V1, V1 + V2, V3) := by unfold YM; simp only [hV1, hV2, hV3]
      rw [hde] at hFb
      have w5 : W .i64 (V1 + V2) = V1 + V2 := Zt (by omega)
      have hnxb : [(V1, V1 + V2, V3)] = ((ys.take (kb + 1)).map YM) := by rw [hFb, hkzb]; rfl
      have hapb : [[I V1, I (V1 + V2), I V3]] = [(V1, V1 + V2, V3)].map rM3 := rfl
      have HH14 := zA hAb (zA hi0b (zA htnb (zA hk0b (zA hwib (zA g3 (zA g4 (zA hky (zA wa (zA wb (zA wc w5))))))))))
      have HH15 := zA hfr (zA hrj (zA e1 (zA e2 e3)))
      refine zK ?_
      simp only [zT, zB]
      refine zS ?_
      refine zL ?_
      refine zS ?_
      refine zR (zO (by simp [zC h42, o42, -Zb, HH1, HH13, r3u, -List.getElem?_map, -List.getElem_map, HH14, ↓HH15]; rfl) ?_)
      simp only [zT, zB]
      refine Zw (by simp (maxSteps := 3000000) [zC h42, o42, -Zb, HH1, HH13, r3u, -List.getElem?_map, -List.getElem_map, HH14, ↓HH15]; rfl) ?_
      simp only [zT, zB]
      refine zR (zO (by simp [zC h42, o42, -Zb, HH1, HH13, r3u, -List.getElem?_map, -List.getElem_map, HH14, ↓HH15]; rfl) ?_)
      simp only [zT, zB]
      exact ⟨(min ys.length 4) - (kb + 1), _, _, by omega, by simp [zC h42, o42, -Zb, HH1, HH13, r3u, -List.getElem?_map, -List.getElem_map, HH14, ↓HH15] <;> first | exact ⟨rfl, rfl⟩ | rfl, kb + 1, ib + 1, by omega, rfl, by omega, .inr ⟨0, [(V1, V1 + V2, V3)], by omega, hnxb, rfl, rfl⟩⟩
     ·have hAtb := of_decide_eq_true hAb
      have hxb := of_decide_eq_false hltb
      have hkEb : kb = (min ys.length 4) := by omega
      have hTk2 : ys.take (min ys.length 4) = ys.take 4 := Xk ys 4
      rw [← hac, show (ys.take 4).map YM = [] by have h0 : ys = [] := List.length_eq_zero_iff.1 (by omega); rw [h0]; rfl]
      have hie : ac.isEmpty = false := by cases ac with
      | nil => simp at hacl
      | cons y l => rfl
      have hfz := fun H d => frz_rI5 H d ac
      refine Zv ?_
      simp only [zT, zB, if_true, if_false, reduceIte, Nat.reduceEqDiff, Nat.succ_ne_zero, Nat.one_ne_zero, Nat.zero_ne_one]
      refine zS ?_
      refine zR (zO (by simp [zC h42, o42, -Zb, HH1, ↓hfr, ↓hrj, HH13, hAb]; rfl) ?_)
      simp only [zT, zB]
      refine Ze ?_
      simp [zC h42, o42, -Zb, HH1, ↓hfr, ↓hrj, HH13, hAb, trim, hie, ↓hfz]
   ·have tkb : (acb.map rM3).take (pb + 1) = acb.map rM3 := List.take_of_length_le (by simp [haclb])
    have hlacb : pb + 1 + 1 ≤ 1048576 := by omega
    have hr3b : ∀ e : Rm3, (rM3 e).length = 3 := fun _ => rfl
    have hfrb := fun n h r => optAll_snoc (frN_rM3 n h acb) r
    have hrjb := fun n => rM3_rb n 4 acb
    rcases hAb : decide (ib < (ys.length : Int)) with _ | _
    ·have HH16 := zA tkb (zA hlacb (zA haclb (zA hr3b hAb)))
     refine zS ?_
     refine zS ?_
     refine zR (zO (by simp [zC h42, o42, -Zb, HH1, ↓hfr, ↓hrj, HH13, ↓hfrb, ↓hrjb, HH16]; rfl) ?_)
     simp only [zT, zB]
     refine Zh (x := false) (by simp) ?_
     have hxb := of_decide_eq_false hAb
     have hkEb : kb = (min ys.length 4) := by omega
     rw [hkEb] at hacb
     have hTk2 : ys.take (min ys.length 4) = ys.take 4 := Xk ys 4
     rw [hTk2] at hacb
     rw [← hac, ← hacb]
     have hie : ac.isEmpty = false := by cases ac with
     | nil => simp at hacl
     | cons y l => rfl
     have hfz := fun H d => frz_rI5 H d ac
     have hieb : acb.isEmpty = false := by cases acb with
     | nil => simp at haclb
     | cons y l => rfl
     have hfzb := fun H d => frz_rM3 H d acb
     refine Zv ?_
     simp only [zT, zB, if_true, if_false, reduceIte, Nat.reduceEqDiff, Nat.succ_ne_zero, Nat.one_ne_zero, Nat.zero_ne_one]
     refine zS ?_
     refine zR (zO (by simp [zC h42, o42, -Zb, HH1, ↓hfr, ↓hrj, HH13, ↓hfrb, ↓hrjb, HH16]; rfl) ?_)
     simp only [zT, zB]
     refine Ze ?_
     simp [zC h42, o42, -Zb, HH1, ↓hfr, ↓hrj, HH13, ↓hfrb, ↓hrjb, HH16, trim, hie, ↓hfz, hieb, ↓hfzb]
    ·have HH17 := zA tkb (zA hlacb (zA haclb (zA hr3b hAb)))
     refine zS ?_
     refine zS ?_
     refine zR (zO (by simp [zC h42, o42, -Zb, HH1, ↓hfr, ↓hrj, HH13, ↓hfrb, ↓hrjb, HH17]; rfl) ?_)
     simp only [zT, zB]
     refine Zi (x := decide (ib < 4)) (by simp) (fun hltb => ?_) (fun hltb => ?_)
     ·have hAtb := of_decide_eq_true hAb
      have hlttb := of_decide_eq_true hltb
      have hk0b : kb < (min ys.length 4) := by omega
      have hi0b : 0 ≤ ib := by omega
      have htnb : ib.toNat = kb := by omega
      have hwib : W .i64 (ib + 1) = ib + 1 := Zt (by omega)
      obtain ⟨t2, rfl⟩ := ZE hy (k := kb) (by simp; omega)
      have hky : kb < ys.length := by omega
      have g3 : (ys.map r3u)[kb]? = some (r3u ys[kb]) := by rw [List.getElem?_map, List.getElem?_eq_getElem hky]; rfl
      have g4 : ∀ h, (ys.map r3u)[kb]'h = r3u ys[kb] := fun h => by simp
      have hFb : (ys.take (kb + 1)).map YM = (ys.take kb).map YM ++ [YM ys[kb]] := by
       rw [List.take_succ_eq_append_getElem hky, List.map_append]; rfl
      have hbk := hby _ (List.getElem_mem hky)
      generalize ys[kb] = v at *
      obtain ⟨a, b, c⟩ := v
      obtain ⟨b1, b2, b3⟩ := hbk
      simp only at b1 b2 b3
      have wa : W .i64 (a : Int) = a := W_i (by omega)
      have wb : W .i64 (b : Int) = b := W_i (by omega)
      have wc : W .i64 (c : Int) = c := W_i (by omega)
      have e1 : arI .rem .i64 (a : Int) 130 = some (.int .i64 ((a % 130 : Nat) : Int)) := XJ (b := 130) (by decide)
      have b1 : a % 130 < 130 := Nat.mod_lt _ (by decide)
      obtain ⟨V1, hV1⟩ : ∃ V : Int, (((a % 130 : Nat)) : Int) = V := ⟨_, rfl⟩
      rw [hV1] at e1
      have e2 : arI .rem .i64 (b : Int) 20 = some (.int .i64 ((b % 20 : Nat) : Int)) := XJ (b := 20) (by decide)
      have b2 : b % 20 < 20 := Nat.mod_lt _ (by decide)
      obtain ⟨V2, hV2⟩ : ∃ V : Int, (((b % 20 : Nat)) : Int) = V := ⟨_, rfl⟩
      rw [hV2] at e2
      have e3 : arI .rem .i64 (c : Int) 4 = some (.int .i64 ((c % 4 : Nat) : Int)) := XJ (b := 4) (by decide)
      have b3 : c % 4 < 4 := Nat.mod_lt _ (by decide)
      obtain ⟨V3, hV3⟩ : ∃ V : Int, (((c % 4 : Nat)) : Int) = V := ⟨_, rfl⟩
      rw [hV3] at e3
      have hde : YM (a, b, c) = (V1, V1 + V2, V3) := by unfold YM; simp only [hV1, hV2, hV3]
      rw [hde] at hFb
      have w5 : W .i64 (V1 + V2) = V1 + V2 := Zt (by omega)
      have hnxb : acb ++ [(V1, V1 + V2, V3)] = ((ys.take (kb + 1)).map YM) := by rw [hFb, ← hacb]
      have hnlb : (acb ++ [(V1, V1 + V2, V3)]).length = pb + 1 + 1 := by simp [haclb]
      have hapb : acb.map rM3 ++ [[I V1, I (V1 + V2), I V3]] = (acb ++ [(V1, V1 + V2, V3)]).map rM3 := by rw [List.map_append]; rfl
      generalize acb ++ [(V1, V1 + V2, V3)] = nxb at *
      have hrxb := fun n => rM3_rb n 4 nxb
      have HH18 := zA hi0b (zA htnb (zA hk0b (zA hwib (zA g3 (zA g4 (zA hky (zA wa (zA wb (zA wc (zA w5 hapb))))))))))
      have HH19 := zA hfr (zA hrj (zA hfrb (zA hrjb (zA e1 (zA e2 (zA e3 hrxb))))))
      refine zK ?_
      simp only [zT, zB]
      refine zS ?_
      refine zL ?_
      refine zS ?_
      refine zR (zO (by simp [zC h42, o42, -Zb, HH1, HH13, HH17, r3u, -List.getElem?_map, -List.getElem_map, HH18, ↓HH19]; rfl) ?_)
      simp only [zT, zB]
      refine Zw (by simp (maxSteps := 3000000) [zC h42, o42, -Zb, HH1, HH13, HH17, r3u, -List.getElem?_map, -List.getElem_map, HH18, ↓HH19]; rfl) ?_
      simp only [zT, zB]
      refine zR (zO (by simp [zC h42, o42, -Zb, HH1, HH13, HH17, r3u, -List.getElem?_map, -List.getElem_map, HH18, ↓HH19]; rfl) ?_)
      simp only [zT, zB]
      exact ⟨(min ys.length 4) - (kb + 1), _, _, by omega, by simp [zC h42, o42, -Zb, HH1, HH13, HH17, r3u, -List.getElem?_map, -List.getElem_map, HH18, ↓HH19] <;> first | exact ⟨rfl, rfl⟩ | rfl, kb + 1, ib + 1, by omega, rfl, by omega, .inr ⟨pb + 1, nxb, by omega, hnxb, hnlb, rfl⟩⟩
     ·have hAtb := of_decide_eq_true hAb
      have hxb := of_decide_eq_false hltb
      have hkEb : kb = (min ys.length 4) := by omega
      rw [hkEb] at hacb
      have hTk2 : ys.take (min ys.length 4) = ys.take 4 := Xk ys 4
      rw [hTk2] at hacb
      rw [← hac, ← hacb]
      have hie : ac.isEmpty = false := by cases ac with
      | nil => simp at hacl
      | cons y l => rfl
      have hfz := fun H d => frz_rI5 H d ac
      have hieb : acb.isEmpty = false := by cases acb with
      | nil => simp at haclb
      | cons y l => rfl
      have hfzb := fun H d => frz_rM3 H d acb
      refine Zv ?_
      simp only [zT, zB, if_true, if_false, reduceIte, Nat.reduceEqDiff, Nat.succ_ne_zero, Nat.one_ne_zero, Nat.zero_ne_one]
      refine zS ?_
      refine zR (zO (by simp [zC h42, o42, -Zb, HH1, ↓hfr, ↓hrj, HH13, ↓hfrb, ↓hrjb, HH17]; rfl) ?_)
      simp only [zT, zB]
      refine Ze ?_
      simp [zC h42, o42, -Zb, HH1, ↓hfr, ↓hrj, HH13, ↓hfrb, ↓hrjb, HH17, trim, hie, ↓hfz, hieb, ↓hfzb]
  ·have HH20 := zA tk (zA hlac (zA hacl (zA hr3 hA)))
   refine zS ?_
   refine zS ?_
   refine zR (zO (by simp [zC h42, o42, -Zb, HH1, ↓hfr, ↓hrj, HH20]; rfl) ?_)
   simp only [zT, zB]
   refine Zi (x := decide (i < 6)) (by simp) (fun hlt => ?_) (fun hlt => ?_)
   ·have hAt := of_decide_eq_true hA
    have hltt := of_decide_eq_true hlt
    have hk0 : k < (min xs.length 6) := by omega
    have hi0 : 0 ≤ i := by omega
    have htn : i.toNat = k := by omega
    have hwi : W .i64 (i + 1) = i + 1 := Zt (by omega)
    obtain ⟨t1, rfl⟩ := ZE hx (k := k) (by simp; omega)
    have hkx : k < xs.length := by omega
    have g1 : (xs.map r4)[k]? = some (r4 xs[k]) := by rw [List.getElem?_map, List.getElem?_eq_getElem hkx]; rfl
    have g2 : ∀ h, (xs.map r4)[k]'h = r4 xs[k] := fun h => by simp
    have hF : (xs.take (k + 1)).map deIt = (xs.take k).map deIt ++ [deIt xs[k]] := by
     rw [List.take_succ_eq_append_getElem hkx, List.map_append]; rfl
    have hbk := hbx _ (List.getElem_mem hkx)
    generalize xs[k] = v at *
    obtain ⟨a, b, c, d⟩ := v
    obtain ⟨b1, b2, b3, b4⟩ := hbk
    simp only at b1 b2 b3 b4
    have wa : W .i64 (a : Int) = a := W_i (by omega)
    have wb : W .i64 (b : Int) = b := W_i (by omega)
    have wc : W .i64 (c : Int) = c := W_i (by omega)
    have wd : W .i64 (d : Int) = d := W_i (by omega)
    have e1 : arI .rem .i64 (a : Int) 100 = some (.int .i64 ((a % 100 : Nat) : Int)) := XJ (b := 100) (by decide)
    have b1 : a % 100 < 100 := Nat.mod_lt _ (by decide)
    obtain ⟨V1, hV1⟩ : ∃ V : Int, (((a % 100 : Nat)) : Int) = V := ⟨_, rfl⟩
    rw [hV1] at e1
    have e2 : arI .rem .i64 (b : Int) 60 = some (.int .i64 ((b % 60 : Nat) : Int)) := XJ (b := 60) (by decide)
    have b2 : b % 60 < 60 := Nat.mod_lt _ (by decide)
    obtain ⟨V2, hV2⟩ : ∃ V : Int, (((b % 60 : Nat)) : Int) = V := ⟨_, rfl⟩
    rw [hV2] at e2
    have e3 : arI .rem .i64 (c : Int) 60 = some (.int .i64 ((c % 60 : Nat) : Int)) := XJ (b := 60) (by decide)
    have b3 : c % 60 < 60 := Nat.mod_lt _ (by decide)
    obtain ⟨V3, hV3⟩ : ∃ V : Int, (((c % 60 : Nat)) : Int) = V := ⟨_, rfl⟩
    rw [hV3] at e3
    have e4 : arI .rem .i64 (d : Int) 30 = some (.int .i64 ((d % 30 : Nat) : Int)) := XJ (b := 30) (by decide)
    have b4 : d % 30 < 30 := Nat.mod_lt _ (by decide)
    obtain ⟨V4, hV4⟩ : ∃ V : Int, (((d % 30 : Nat)) : Int) = V := ⟨_, rfl⟩
    rw [hV4] at e4
    have hde : deIt (a, b, c, d) = (V1, V1 + 5, max 0 (V1 - V2), V1 + 5 + V3, V4) := by unfold deIt; simp only [hV1, hV2, hV3, hV4]
    rw [hde] at hF
    have w5 : W .i64 (V1 + 5) = V1 + 5 := Zt (by omega)
    have w6 : W .i64 (V1 - V2) = V1 - V2 := Zt (by omega)
    have w7 : W .i64 (V1 + 5 + V3) = V1 + 5 + V3 := Zt (by omega)
    obtain ⟨Mx, hMx⟩ : ∃ V : Int, max 0 (V1 - V2) = V := ⟨_, rfl⟩
    have hMy : (if V2 < V1 then V1 - V2 else 0) = Mx := by rw [← hMx]; split <;> omega
    rw [hMx] at hF
    have hnx : ac ++ [(V1, V1 + 5, Mx, V1 + 5 + V3, V4)] = ((xs.take (k + 1)).map deIt) := by rw [hF, ← hac]
    have hnl : (ac ++ [(V1, V1 + 5, Mx, V1 + 5 + V3, V4)]).length = p + 1 + 1 := by simp [hacl]
    have hap : ac.map rI5 ++ [[I V1, I (V1 + 5), I Mx, I (V1 + 5 + V3), I V4]] = (ac ++ [(V1, V1 + 5, Mx, V1 + 5 + V3, V4)]).map rI5 := by rw [List.map_append]; rfl
    generalize ac ++ [(V1, V1 + 5, Mx, V1 + 5 + V3, V4)] = nx at *
    have hrx := fun n => rI5_rb n 4 nx
    have HH21 := zA hi0 (zA htn (zA hk0 (zA hwi (zA g1 (zA g2 (zA hkx (zA wa (zA wb (zA wc (zA wd (zA w5 (zA w6 (zA w7 (zA hMx (zA hMy hap)))))))))))))))
    have HH22 := zA hfr (zA hrj (zA e1 (zA e2 (zA e3 (zA e4 hrx)))))
    refine zK ?_
    simp only [zT, zB]
    refine zS ?_
    refine zL ?_
    refine zS ?_
    refine zR (zO (by simp [zC h42, o42, -Zb, HH1, HH20, r4, -List.getElem?_map, -List.getElem_map, HH21, ↓HH22]; rfl) ?_)
    simp only [zT, zB]
    refine Zw (by simp (maxSteps := 3000000) [zC h42, o42, -Zb, HH1, HH20, r4, -List.getElem?_map, -List.getElem_map, HH21, ↓HH22]; rfl) ?_
    simp only [zT, zB]
    refine zR (zO (by simp [zC h42, o42, -Zb, HH1, HH20, r4, -List.getElem?_map, -List.getElem_map, HH21, ↓HH22]; rfl) ?_)
    simp only [zT, zB]
    exact ⟨(min xs.length 6) - (k + 1), _, _, by omega, by simp [zC h42, o42, -Zb, HH1, HH20, r4, -List.getElem?_map, -List.getElem_map, HH21, ↓HH22] <;> first | exact ⟨rfl, rfl⟩ | rfl, k + 1, i + 1, by omega, rfl, by omega, .inr ⟨p + 1, nx, by omega, hnx, hnl, rfl⟩⟩
   ·have hAt := of_decide_eq_true hA
    have hx := of_decide_eq_false hlt
    have hkE : k = (min xs.length 6) := by omega
    rw [hkE] at hac
    have hTk : xs.take (min xs.length 6) = xs.take 6 := Xk xs 6
    rw [hTk] at hac
    refine Zv ?_
    simp only [zT, zB, if_true, if_false, reduceIte, Nat.reduceEqDiff, Nat.succ_ne_zero, Nat.one_ne_zero, Nat.zero_ne_one]
    refine zS ?_
    refine zS ?_
    refine zR (zO (by simp [zC h42, o42, -Zb, HH1, ↓hfr, ↓hrj, HH20]; rfl) ?_)
    simp only [zT, zB]
    refine zL ?_
    refine XX (fun mmb σ => ∃ (kb : Nat) (ib : Int), ib = kb ∧ (min ys.length 4) - kb = mmb ∧ kb ≤ (min ys.length 4) ∧ ((kb = 0 ∧ σ = ⟨[.any, .ref 0 0 0, .any, .any, .sl 3 0 (p + 1) false, .sl 4 0 0 true, .any, .any, I ib, .any, .any, .any, .any, .any, .any, .any, .any, .any, .any, .any, .any, .any, .any, .any, .any, .any, .any, .any, .any, .any, .any, .any, .any, .any, .any, .any, .any, .any, .any, .any, .any, .any, .any, .any, .any, .any, .any, .any, .any, .any, .any, .any, .any, .any, .any, .any, .any, .any, .any, .any, .any, .any, .any, .any, .any, .any, .any, .any, .any, .any, .any, .any, .any, .any, .any, .any, .any, .any, .any, .any, .any, .any, .any, .any, .any, .any, .any, .any, .any, .any, .any, .any, .any, .any, .any, .any, .any, .any, .any, .any, .any, .any, .any, .any, .any, .any, .any], [some (.row 2 [[x, y]]), none, none, some (.row 5 (ac.map rI5)), some (.row 3 [])]⟩) ∨ (∃ (pb : Nat) (acb : List (Rm3)), kb = pb + 1 ∧ acb = ((ys.take (kb)).map YM) ∧ acb.length = pb + 1 ∧ σ = ⟨[.any, .ref 0 0 0, .any, .any, .sl 3 0 (p + 1) false, .sl 4 0 (pb + 1) false, .any, .any, I ib, .any, .any, .any, .any, .any, .any, .any, .any, .any, .any, .any, .any, .any, .any, .any, .any, .any, .any, .any, .any, .any, .any, .any, .any, .any, .any, .any, .any, .any, .any, .any, .any, .any, .any, .any, .any, .any, .any, .any, .any, .any, .any, .any, .any, .any, .any, .any, .any, .any, .any, .any, .any, .any, .any, .any, .any, .any, .any, .any, .any, .any, .any, .any, .any, .any, .any, .any, .any, .any, .any, .any, .any, .any, .any, .any, .any, .any, .any, .any, .any, .any, .any, .any, .any, .any, .any, .any, .any, .any, .any, .any, .any, .any, .any, .any, .any, .any, .any], [some (.row 2 [[x, y]]), none, none, some (.row 5 (ac.map rI5)), some (.row 3 (acb.map rM3))]⟩))) (by simp [zC h42, o42, -Zb, HH1, ↓hfr, ↓hrj, HH20] <;> first | exact ⟨rfl, rfl⟩ | rfl) (⟨0, 0, rfl, rfl, Nat.zero_le _, .inl ⟨rfl, rfl⟩⟩) ?_
    rintro mmb σ ⟨kb, ib, hikb, rfl, hklb, ⟨hkzb, rfl⟩ | ⟨pb, acb, hkpb, hacb, haclb, rfl⟩⟩
    ·rcases hAb : decide (ib < (ys.length : Int)) with _ | _
     ·refine zS ?_
      refine zS ?_
      refine zR (zO (by simp [zC h42, o42, -Zb, HH1, ↓hfr, ↓hrj, HH20, hAb]; rfl) ?_)
      simp only [zT, zB]
      refine Zh (x := false) (by simp) ?_
      have hxb := of_decide_eq_false hAb
      have hkEb : kb = (min ys.length 4) := by omega
      have hTk2 : ys.take (min ys.length 4) = ys.take 4 := Xk ys 4
      rw [← hac, show (ys.take 4).map YM = [] by have h0 : ys = [] := List.length_eq_zero_iff.1 (by omega); rw [h0]; rfl]
      have hie : ac.isEmpty = false := by cases ac with
      | nil => simp at hacl
      | cons y l => rfl
      have hfz := fun H d => frz_rI5 H d ac
      refine Zv ?_
      simp only [zT, zB, if_true, if_false, reduceIte, Nat.reduceEqDiff, Nat.succ_ne_zero, Nat.one_ne_zero, Nat.zero_ne_one]
      refine zS ?_
      refine zR (zO (by simp [zC h42, o42, -Zb, HH1, ↓hfr, ↓hrj, HH20, hAb]; rfl) ?_)
      simp only [zT, zB]
      refine Ze ?_
      simp [zC h42, o42, -Zb, HH1, ↓hfr, ↓hrj, HH20, hAb, trim, hie, ↓hfz]
     ·refine zS ?_
      refine zS ?_
      refine zR (zO (by simp [zC h42, o42, -Zb, HH1, ↓hfr, ↓hrj, HH20, hAb]; rfl) ?_)
      simp only [zT, zB]
      refine Zi (x := decide (ib < 4)) (by simp) (fun hltb => ?_) (fun hltb => ?_)
      ·have hAtb := of_decide_eq_true hAb
       have hlttb := of_decide_eq_true hltb
       have hk0b : kb < (min ys.length 4) := by omega
       have hi0b : 0 ≤ ib := by omega
       have htnb : ib.toNat = kb := by omega
       have hwib : W .i64 (ib + 1) = ib + 1 := Zt (by omega)
       obtain ⟨t2, rfl⟩ := ZE hy (k := kb) (by simp; omega)
       have hky : kb < ys.length := by omega
       have g3 : (ys.map r3u)[kb]? = some (r3u ys[kb]) := by rw [List.getElem?_map, List.getElem?_eq_getElem hky]; rfl
       have g4 : ∀ h, (ys.map r3u)[kb]'h = r3u ys[kb] := fun h => by simp
       have hFb : (ys.take (kb + 1)).map YM = (ys.take kb).map YM ++ [YM ys[kb]] := by
        rw [List.take_succ_eq_append_getElem hky, List.map_append]; rfl
       have hbk := hby _ (List.getElem_mem hky)
       generalize ys[kb] = v at *
       obtain ⟨a, b, c⟩ := v
       obtain ⟨b1, b2, b3⟩ := hbk
       simp only at b1 b2 b3
       have wa : W .i64 (a : Int) = a := W_i (by omega)
       have wb : W .i64 (b : Int) = b := W_i (by omega)
       have wc : W .i64 (c : Int) = c := W_i (by omega)
       have e1 : arI .rem .i64 (a : Int) 130 = some (.int .i64 ((a % 130 : Nat) : Int)) := XJ (b := 130) (by decide)
       have b1 : a % 130 < 130 := Nat.mod_lt _ (by decide)
       obtain ⟨V1, hV1⟩ : ∃ V : Int, (((a % 130 : Nat)) : Int) = V := ⟨_, rfl⟩
       rw [hV1] at e1
       have e2 : arI .rem .i64 (b : Int) 20 = some (.int .i64 ((b % 20 : Nat) : Int)) := XJ (b := 20) (by decide)
       have b2 : b % 20 < 20 := Nat.mod_lt _ (by decide)
       obtain ⟨V2, hV2⟩ : ∃ V : Int, (((b % 20 : Nat)) : Int) = V := ⟨_, rfl⟩
       rw [hV2] at e2
       have e3 : arI .rem .i64 (c : Int) 4 = some (.int .i64 ((c % 4 : Nat) : Int)) := XJ (b := 4) (by decide)
       have b3 : c % 4 < 4 := Nat.mod_lt _ (by decide)
       obtain ⟨V3, hV3⟩ : ∃ V : Int, (((c % 4 : Nat)) : Int) = V := ⟨_, rfl⟩
       rw [hV3] at e3
       have hde : YM (a, b, c) = (V1, V1 + V2, V3) := by unfold YM; simp only [hV1, hV2, hV3]
       rw [hde] at hFb
       have w5 : W .i64 (V1 + V2) = V1 + V2 := Zt (by omega)
       have hnxb : [(V1, V1 + V2, V3)] = ((ys.take (kb + 1)).map YM) := by rw [hFb, hkzb]; rfl
       have hapb : [[I V1, I (V1 + V2), I V3]] = [(V1, V1 + V2, V3)].map rM3 := rfl
       have HH23 := zA hAb (zA hi0b (zA htnb (zA hk0b (zA hwib (zA g3 (zA g4 (zA hky (zA wa (zA wb (zA wc w5))))))))))
       have HH24 := zA hfr (zA hrj (zA e1 (zA e2 e3)))
       refine zK ?_
       simp only [zT, zB]
       refine zS ?_
       refine zL ?_
       refine zS ?_
       refine zR (zO (by simp [zC h42, o42, -Zb, HH1, HH20, r3u, -List.getElem?_map, -List.getElem_map, HH23, ↓HH24]; rfl) ?_)
       simp only [zT, zB]
       refine Zw (by simp (maxSteps := 3000000) [zC h42, o42, -Zb, HH1, HH20, r3u, -List.getElem?_map, -List.getElem_map, HH23, ↓HH24]; rfl) ?_
       simp only [zT, zB]
       refine zR (zO (by simp [zC h42, o42, -Zb, HH1, HH20, r3u, -List.getElem?_map, -List.getElem_map, HH23, ↓HH24]; rfl) ?_)
       simp only [zT, zB]
       exact ⟨(min ys.length 4) - (kb + 1), _, _, by omega, by simp [zC h42, o42, -Zb, HH1, HH20, r3u, -List.getElem?_map, -List.getElem_map, HH23, ↓HH24] <;> first | exact ⟨rfl, rfl⟩ | rfl, kb + 1, ib + 1, by omega, rfl, by omega, .inr ⟨0, [(V1, V1 + V2, V3)], by omega, hnxb, rfl, rfl⟩⟩
      ·have hAtb := of_decide_eq_true hAb
       have hxb := of_decide_eq_false hltb
       have hkEb : kb = (min ys.length 4) := by omega
       have hTk2 : ys.take (min ys.length 4) = ys.take 4 := Xk ys 4
       rw [← hac, show (ys.take 4).map YM = [] by have h0 : ys = [] := List.length_eq_zero_iff.1 (by omega); rw [h0]; rfl]
       have hie : ac.isEmpty = false := by cases ac with
       | nil => simp at hacl
       | cons y l => rfl
       have hfz := fun H d => frz_rI5 H d ac
       refine Zv ?_
       simp only [zT, zB, if_true, if_false, reduceIte, Nat.reduceEqDiff, Nat.succ_ne_zero, Nat.one_ne_zero, Nat.zero_ne_one]
       refine zS ?_
       refine zR (zO (by simp [zC h42, o42, -Zb, HH1, ↓hfr, ↓hrj, HH20, hAb]; rfl) ?_)
       simp only [zT, zB]
       refine Ze ?_
       simp [zC h42, o42, -Zb, HH1, ↓hfr, ↓hrj, HH20, hAb, trim, hie, ↓hfz]
    ·have tkb : (acb.map rM3).take (pb + 1) = acb.map rM3 := List.take_of_length_le (by simp [haclb])
     have hlacb : pb + 1 + 1 ≤ 1048576 := by omega
     have hr3b : ∀ e : Rm3, (rM3 e).length = 3 := fun _ => rfl
     have hfrb := fun n h r => optAll_snoc (frN_rM3 n h acb) r
     have hrjb := fun n => rM3_rb n 4 acb
     rcases hAb : decide (ib < (ys.length : Int)) with _ | _
     ·have HH25 := zA tkb (zA hlacb (zA haclb (zA hr3b hAb)))
      refine zS ?_
      refine zS ?_
      refine zR (zO (by simp [zC h42, o42, -Zb, HH1, ↓hfr, ↓hrj, HH20, ↓hfrb, ↓hrjb, HH25]; rfl) ?_)
      simp only [zT, zB]
      refine Zh (x := false) (by simp) ?_
      have hxb := of_decide_eq_false hAb
      have hkEb : kb = (min ys.length 4) := by omega
      rw [hkEb] at hacb
      have hTk2 : ys.take (min ys.length 4) = ys.take 4 := Xk ys 4
      rw [hTk2] at hacb
      rw [← hac, ← hacb]
      have hie : ac.isEmpty = false := by cases ac with
      | nil => simp at hacl
      | cons y l => rfl
      have hfz := fun H d => frz_rI5 H d ac
      have hieb : acb.isEmpty = false := by cases acb with
      | nil => simp at haclb
      | cons y l => rfl
      have hfzb := fun H d => frz_rM3 H d acb
      refine Zv ?_
      simp only [zT, zB, if_true, if_false, reduceIte, Nat.reduceEqDiff, Nat.succ_ne_zero, Nat.one_ne_zero, Nat.zero_ne_one]
      refine zS ?_
      refine zR (zO (by simp [zC h42, o42, -Zb, HH1, ↓hfr, ↓hrj, HH20, ↓hfrb, ↓hrjb, HH25]; rfl) ?_)
      simp only [zT, zB]
      refine Ze ?_
      simp [zC h42, o42, -Zb, HH1, ↓hfr, ↓hrj, HH20, ↓hfrb, ↓hrjb, HH25, trim, hie, ↓hfz, hieb, ↓hfzb]
     ·have HH26 := zA tkb (zA hlacb (zA haclb (zA hr3b hAb)))
      refine zS ?_
      refine zS ?_
      refine zR (zO (by simp [zC h42, o42, -Zb, HH1, ↓hfr, ↓hrj, HH20, ↓hfrb, ↓hrjb, HH26]; rfl) ?_)
      simp only [zT, zB]
      refine Zi (x := decide (ib < 4)) (by simp) (fun hltb => ?_) (fun hltb => ?_)
      ·have hAtb := of_decide_eq_true hAb
       have hlttb := of_decide_eq_true hltb
       have hk0b : kb < (min ys.length 4) := by omega
       have hi0b : 0 ≤ ib := by omega
       have htnb : ib.toNat = kb := by omega
       have hwib : W .i64 (ib + 1) = ib + 1 := Zt (by omega)
       obtain ⟨t2, rfl⟩ := ZE hy (k := kb) (by simp; omega)
       have hky : kb < ys.length := by omega
       have g3 : (ys.map r3u)[kb]? = some (r3u ys[kb]) := by rw [List.getElem?_map, List.getElem?_eq_getElem hky]; rfl
       have g4 : ∀ h, (ys.map r3u)[kb]'h = r3u ys[kb] := fun h => by simp
       have hFb : (ys.take (kb + 1)).map YM = (ys.take kb).map YM ++ [YM ys[kb]] := by
        rw [List.take_succ_eq_append_getElem hky, List.map_append]; rfl
       have hbk := hby _ (List.getElem_mem hky)
       generalize ys[kb] = v at *
       obtain ⟨a, b, c⟩ := v
       obtain ⟨b1, b2, b3⟩ := hbk
       simp only at b1 b2 b3
       have wa : W .i64 (a : Int) = a := W_i (by omega)
       have wb : W .i64 (b : Int) = b := W_i (by omega)
       have wc : W .i64 (c : Int) = c := W_i (by omega)
       have e1 : arI .rem .i64 (a : Int) 130 = some (.int .i64 ((a % 130 : Nat) : Int)) := XJ (b := 130) (by decide)
       have b1 : a % 130 < 130 := Nat.mod_lt _ (by decide)
       obtain ⟨V1, hV1⟩ : ∃ V : Int, (((a % 130 : Nat)) : Int) = V := ⟨_, rfl⟩
       rw [hV1] at e1
       have e2 : arI .rem .i64 (b : Int) 20 = some (.int .i64 ((b % 20 : Nat) : Int)) := XJ (b := 20) (by decide)
       have b2 : b % 20 < 20 := Nat.mod_lt _ (by decide)
       obtain ⟨V2, hV2⟩ : ∃ V : Int, (((b % 20 : Nat)) : Int) = V := ⟨_, rfl⟩
       rw [hV2] at e2
       have e3 : arI .rem .i64 (c : Int) 4 = some (.int .i64 ((c % 4 : Nat) : Int)) := XJ (b := 4) (by decide)
       have b3 : c % 4 < 4 := Nat.mod_lt _ (by decide)
       obtain ⟨V3, hV3⟩ : ∃ V : Int, (((c % 4 : Nat)) : Int) = V := ⟨_, rfl⟩
       rw [hV3] at e3
       have hde : YM (a, b, c) = (V1, V1 + V2, V3) := by unfold YM; simp only [hV1, hV2, hV3]
       rw [hde] at hFb
       have w5 : W .i64 (V1 + V2) = V1 + V2 := Zt (by omega)
       have hnxb : acb ++ [(V1, V1 + V2, V3)] = ((ys.take (kb + 1)).map YM) := by rw [hFb, ← hacb]
       have hnlb : (acb ++ [(V1, V1 + V2, V3)]).length = pb + 1 + 1 := by simp [haclb]
       have hapb : acb.map rM3 ++ [[I V1, I (V1 + V2), I V3]] = (acb ++ [(V1, V1 + V2, V3)]).map rM3 := by rw [List.map_append]; rfl
       generalize acb ++ [(V1, V1 + V2, V3)] = nxb at *
       have hrxb := fun n => rM3_rb n 4 nxb
       have HH27 := zA hi0b (zA htnb (zA hk0b (zA hwib (zA g3 (zA g4 (zA hky (zA wa (zA wb (zA wc (zA w5 hapb))))))))))
       have HH28 := zA hfr (zA hrj (zA hfrb (zA hrjb (zA e1 (zA e2 (zA e3 hrxb))))))
       refine zK ?_
       simp only [zT, zB]
       refine zS ?_
       refine zL ?_
       refine zS ?_
       refine zR (zO (by simp [zC h42, o42, -Zb, HH1, HH20, HH26, r3u, -List.getElem?_map, -List.getElem_map, HH27, ↓HH28]; rfl) ?_)
       simp only [zT, zB]
       refine Zw (by simp (maxSteps := 3000000) [zC h42, o42, -Zb, HH1, HH20, HH26, r3u, -List.getElem?_map, -List.getElem_map, HH27, ↓HH28]; rfl) ?_
       simp only [zT, zB]
       refine zR (zO (by simp [zC h42, o42, -Zb, HH1, HH20, HH26, r3u, -List.getElem?_map, -List.getElem_map, HH27, ↓HH28]; rfl) ?_)
       simp only [zT, zB]
       exact ⟨(min ys.length 4) - (kb + 1), _, _, by omega, by simp [zC h42, o42, -Zb, HH1, HH20, HH26, r3u, -List.getElem?_map, -List.getElem_map, HH27, ↓HH28] <;> first | exact ⟨rfl, rfl⟩ | rfl, kb + 1, ib + 1, by omega, rfl, by omega, .inr ⟨pb + 1, nxb, by omega, hnxb, hnlb, rfl⟩⟩
      ·have hAtb := of_decide_eq_true hAb
       have hxb := of_decide_eq_false hltb
       have hkEb : kb = (min ys.length 4) := by omega
       rw [hkEb] at hacb
       have hTk2 : ys.take (min ys.length 4) = ys.take 4 := Xk ys 4
       rw [hTk2] at hacb
       rw [← hac, ← hacb]
       have hie : ac.isEmpty = false := by cases ac with
       | nil => simp at hacl
       | cons y l => rfl
       have hfz := fun H d => frz_rI5 H d ac
       have hieb : acb.isEmpty = false := by cases acb with
       | nil => simp at haclb
       | cons y l => rfl
       have hfzb := fun H d => frz_rM3 H d acb
       refine Zv ?_
       simp only [zT, zB, if_true, if_false, reduceIte, Nat.reduceEqDiff, Nat.succ_ne_zero, Nat.one_ne_zero, Nat.zero_ne_one]
       refine zS ?_
       refine zR (zO (by simp [zC h42, o42, -Zb, HH1, ↓hfr, ↓hrj, HH20, ↓hfrb, ↓hrjb, HH26]; rfl) ?_)
       simp only [zT, zB]
       refine Ze ?_
       simp [zC h42, o42, -Zb, HH1, ↓hfr, ↓hrj, HH20, ↓hfrb, ↓hrjb, HH26, trim, hie, ↓hfz, hieb, ↓hfzb]
end
section
attribute [local simp] Ye ZR YW YN actD Xn disj YZ holes Xa ZW Xd news eqB Xh eqA YJ Xi toCs ofCs stA Yu ZS Yy dI1 dI2 dI3 dI5 elt
attribute [local simp] st_any st_und st_agg st_tup XR st_int XO st_ref st_pv XN st_sl st_vl XP st_mp st_fn XQ st_yld co_any co_und co_agg co_tup XW co_int XT co_ref co_pv XS co_sl co_vl XU co_mp co_fn XV co_yld
attribute [local simp] Yz Zs lim lop YC rbB_none rbB_row
def esI (o : Nat) (zs : List Nat) (f : Nat → Nat) : List (Za × Za × Nat) := (zs.zipIdx o).map fun p => (I (p.1 : Nat), I (f p.1 : Nat), p.2)
theorem esI_cons (o y : Nat) (ys : List Nat) (f : Nat → Nat) : esI o (y :: ys) f = (I (y : Nat), I (f y : Nat), o) :: esI (o + 1) ys f := rfl
theorem esI_app (f : Nat → Nat) : ∀ (a b : List Nat) (o : Nat), esI o (a ++ b) f = esI o a f ++ esI (o + a.length) b f
  | [], b, o => by simp [esI]
  | y :: a, b, o => by rw [List.cons_append, esI_cons, esI_cons, esI_app f a b, List.length_cons, show o + (a.length + 1) = o + 1 + a.length by omega]; rfl
theorem findI_not {z : Nat} (f : Nat → Nat) : ∀ (zs : List Nat) (o i : Nat), z ∉ zs → findE .i64 (z : Int) i (esI o zs f) = some none
  | [], o, i, _ => rfl
  | y :: zs, o, i, h => by
    rw [esI_cons]
    have hy : ¬ (z : Int) = (y : Int) := fun e => h (by have h9 : z = y := (by omega); rw [h9]; simp)
    simp only [findE, if_true, if_neg hy]
    exact findI_not f zs _ _ fun h2 => h (by simp [h2])
theorem findI_at {z : Nat} (f : Nat → Nat) (b : List Nat) : ∀ (a : List Nat) (o i : Nat), z ∉ a → findE .i64 (z : Int) i (esI o (a ++ z :: b) f) = some (some (i + a.length, I (f z : Nat), o + a.length))
  | [], o, i, _ => by rw [List.nil_append, esI_cons]; simp [findE]
  | y :: a, o, i, h => by
    rw [List.cons_append, esI_cons]
    have hy : ¬ (z : Int) = (y : Int) := fun e => h (by have h9 : z = y := (by omega); rw [h9]; simp)
    simp only [findE, if_true, if_neg hy]
    rw [findI_at f b a _ _ fun h2 => h (by simp [h2])]
    simp only [List.length_cons]
    congr 3
    · omega
    · congr 1; omega
theorem esI_congr {f g : Nat → Nat} : ∀ (zs : List Nat) (o : Nat), (∀ z ∈ zs, f z = g z) → esI o zs f = esI o zs g
  | [], _, _ => rfl
  | y :: zs, o, h => by rw [esI_cons, esI_cons, h y (by simp), esI_congr zs _ fun z hz => h z (by simp [hz])]
theorem esI_set {z : Nat} {f g : Nat → Nat} (b : List Nat) (v : Za) (hv : v = I (g z : Nat)) (hg : ∀ y, y ≠ z → g y = f y) : ∀ (a : List Nat) (o : Nat), z ∉ a → z ∉ b → (esI o (a ++ z :: b) f).set a.length (I (z : Nat), v, o + a.length) = esI o (a ++ z :: b) g
  | [], o, _, hb => by
    rw [List.nil_append, esI_cons, esI_cons, hv]
    simp only [List.length_nil, List.set_cons_zero, Nat.add_zero]
    rw [esI_congr b _ fun y hy => (hg y fun e => hb (e ▸ hy)).symm]
  | y :: a, o, ha, hb => by
    have hy : y ≠ z := fun e => ha (by simp [e])
    rw [List.cons_append, esI_cons, esI_cons, hg y hy, List.length_cons, List.set_cons_succ]
    have := esI_set b v hv hg a (o + 1) (fun h => ha (by simp [h])) hb
    rw [show o + 1 + a.length = o + (a.length + 1) by omega] at this
    rw [this]
theorem esI_rb (n o c : Nat) (zs : List Nat) (f : Nat → Nat) : rbB n (some (.map (esI o zs f) c)) = true := by
  unfold esI
  simp [rbB]
theorem mp_rb (n d i : Nat) (h : i < n) : rb n (d + 1) (.mp i) = true := by
  show rb1 n (rb n d) (.mp i) = true
  simp [rb1, h]
def cntL (l : List Nat) (z : Nat) : Nat := l.count z
def okL (u d : Int) (its : List It5) (rs : List Rm3) (list : List Nat) (i : Nat) : Bool :=
  mayB u d (its.getD i (0, 0, 0, 0, 0)) (rs.getD (list.getD i 0) (0, 0, 0)) && decide (((cntL (list.take (i + 1)) (list.getD i 0) : Nat) : Int) ≤ (rs.getD (list.getD i 0) (0, 0, 0)).2.2)
def fitsL (u d : Int) (its : List It5) (rs : List Rm3) (list : List Nat) : Bool := (List.range list.length).all (okL u d its rs list)
theorem okE_true {u d : Int} {its : List It5} {rs : List Rm3} (h : depE u d its rs = 0) {x : It5} {r : Rm3} (hx : x ∈ its) (hr : r ∈ rs) : okE u d x r = true := by
  obtain ⟨_, _, h1, h2⟩ := depE_ok h
  have hru : ruleB u d = true := by
    unfold depE at h
    cases hb : ruleB u d with
    | true => rfl
    | false => rw [hb] at h; simp at h
  have a1 := h1 x hx
  have a2 := h2 r hr
  unfold itB at a1
  unfold rmB at a2
  simp only [Bool.and_eq_true] at a1 a2
  unfold okE hoursE
  rw [hru, a1.1.1, a1.1.2, a2.1]
  simp only [Bool.not_true, Bool.false_eq_true, if_false, Bool.and_self]
  split <;> simp
theorem a48 (P : Program) (T : Nat → Option CFn) (hT : T 48 = some c48) (h79 : T 79 = some { c79 with frsh := true, orc := o79 }) (u d : Int) (x y v : Za) (its : List It5) (rs : List Rm3) (list : List Nat) (hx : Zn x = some (its.map rI5)) (hy : Zn y = some (rs.map rM3)) (hv : dNs v = some list) (hll : list.length ≤ its.length) (hrm : ∀ z ∈ list, z < rs.length) (hE : depE u d its rs = 0) : Zr P T 48 [.agg [I u, I d], x, y, v] [] fun v h => frz true h 5 v = some (.bool (fitsL u d its rs list)) := by
 have lx := ZD hx
 rw [List.length_map] at lx
 have rx := fun n d => ZH hx n d
 have fx := fun H d => ZB hx H d
 obtain ⟨cx1, cx2⟩ := ZI hx
 have ly := ZD hy
 rw [List.length_map] at ly
 have ry := fun n d => ZH hy n d
 have fy := fun H d => ZB hy H d
 obtain ⟨cy1, cy2⟩ := ZI hy
 have lv := dNs_len hv
 have hN10 : list.length ≤ its.length := hll
 obtain ⟨hi7, hr4, _, hrb⟩ := depE_ok hE
 refine Zm hT (Zq rfl) ?_
 simp only [oo, om, op, og, ci, cl, c48]
 have HH1 := zA h79 (zA lx (zA rx (zA fx (zA cx1 (zA cx2 (zA ly (zA ry (zA fy (zA cy1 (zA cy2 lv))))))))))
 refine zS ?_
 refine zR (zO (by simp [zC h79, trim, -Zb, HH1]; rfl) ?_)
 simp only [zT, zB]
 refine zS ?_
 refine zR (zO (by simp [zC h79, trim, -Zb, HH1]; rfl) ?_)
 simp only [zT, zB]
 refine zS ?_
 refine zS ?_
 refine zR (zO (by simp [zC h79, trim, -Zb, HH1]; rfl) ?_)
 simp only [zT, zB]
 refine zL ?_
 refine Yi (fun m σ => ∃ (k : Nat) (i : Int) (zs : List Nat), i = k ∧ list.length - k = m ∧ k ≤ list.length ∧ (∀ j < k, okL u d its rs list j = true) ∧ (zs.Nodup ∧ ∀ z, z ∈ zs ↔ 0 < cntL (list.take k) z) ∧ σ = ⟨[.any, x, y, v, .ref 0 0 0, .any, .any, .any, .any, .mp 1, I i, .any, .any, .any, .any, .any, .any, .any, .any, .any, .any, .any, .any, .any, .any, .any, .any, .any, .any, .any, .any, .any, .any, .any, .any, .any, .any, .any, .any, .any, .any, .any, .any, .any, .any, .any, .any, .any, .any, .any, .any, .any, .any, .any, .any, .any, .any, .any, .any, .any, .any, .any, .any, .any, .any, .any, .any, .any, .any, .any, .any, .any, .any, .any, .any, .any, .any, .any, .any, .any, .any, .any, .any, .any, .any, .any], [some (.row 2 [[I u, I d]]), some (.map (esI 0 zs (cntL (list.take k))) zs.length)]⟩) ?_ (list.length - 0) _ ⟨0, 0, [], rfl, rfl, Nat.zero_le _, (fun j h => absurd h (by omega)), ⟨List.nodup_nil, fun z => by simp [cntL]⟩, by simp [esI]⟩
 rintro m σ ⟨k, i, zs, hik, rfl, hkl, hAll, hZ, rfl⟩
 obtain ⟨hnd, hzs⟩ := hZ
 refine zS ?_
 refine zS ?_
 refine zR (zO (by simp [zC h79, trim, -Zb, HH1]; rfl) ?_)
 simp only [zT, zB]
 refine Zi (x := decide (i < (list.length : Int))) (by simp) (fun hlt => ?_) (fun hlt => ?_)
 ·have hlt := of_decide_eq_true hlt
  have hk0 : k < list.length := by omega
  have hki : k < its.length := by omega
  obtain ⟨t1, rfl⟩ := dNs_get hv hk0
  have hz := hrm _ (List.getElem_mem hk0)
  obtain ⟨t2, rfl⟩ := ZE hx (k := k) (by simpa using hki)
  obtain ⟨t3, rfl⟩ := ZE hy (k := list[k]) (by simpa using hz)
  have hi0 : 0 ≤ i := by omega
  have htn : i.toNat = k := by omega
  have hwi : W .i64 (i + 1) = i + 1 := Zt (by omega)
  have g1 : (list.map rN)[k]? = some (rN list[k]) := by rw [List.getElem?_map, List.getElem?_eq_getElem hk0]; rfl
  have g2 : ∀ h, (list.map rN)[k]'h = rN list[k] := fun h => by simp
  have g3 : (its.map rI5)[k]? = some (rI5 its[k]) := by rw [List.getElem?_map, List.getElem?_eq_getElem hki]; rfl
  have g4 : ∀ h, (its.map rI5)[k]'h = rI5 its[k] := fun h => by simp
  have g5 : (rs.map rM3)[list[k]]? = some (rM3 rs[list[k]]) := by rw [List.getElem?_map, List.getElem?_eq_getElem hz]; rfl
  have g6 : ∀ (h : list[k] < (rs.map rM3).length), (rs.map rM3)[list[k]]'h = rM3 rs[list[k]] := fun h => by simp
  have hok : okL u d its rs list k = (mayB u d its[k] rs[list[k]] && decide (((cntL (list.take (k + 1)) list[k] : Nat) : Int) ≤ rs[list[k]].2.2)) := by
   unfold okL
   have e1 : its.getD k (0, 0, 0, 0, 0) = its[k] := by simp [List.getD, List.getElem?_eq_getElem hki]
   have e2 : list.getD k 0 = list[k] := by simp [List.getD, List.getElem?_eq_getElem hk0]
   rw [e1, e2]
   have e3 : rs.getD list[k] (0, 0, 0) = rs[list[k]] := by simp [List.getD, List.getElem?_eq_getElem hz]
   rw [e3]
  have hEk := okE_true hE (List.getElem_mem hki) (List.getElem_mem hz)
  have hct : ∀ y, cntL (list.take (k + 1)) y = cntL (list.take k) y + if list[k] = y then 1 else 0 := fun y => by
   unfold cntL
   rw [List.take_succ_eq_append_getElem hk0, List.count_append, List.count_singleton]
   simp only [beq_iff_eq]
  have hcl : ∀ y, cntL (list.take k) y ≤ k := fun y => Nat.le_trans List.count_le_length (by rw [List.length_take]; omega)
  generalize rs[list[k]] = r at *
  generalize its[k] = x5 at *
  generalize hzz : list[k] = z at *
  have hcz := hct z
  rw [if_pos rfl] at hcz
  have hcy : ∀ y, y ≠ z → cntL (list.take (k + 1)) y = cntL (list.take k) y := fun y hy => by rw [hct y, if_neg (fun e => hy e.symm)]; rfl
  obtain ⟨Z, hZ0⟩ : ∃ V : Int, ((z : Nat) : Int) = V := ⟨_, rfl⟩
  have hrn : rN z = [I Z] := by rw [← hZ0]; rfl
  have hZp : ¬ Z < 0 := by omega
  have hZr : ¬ (rs.length : Int) ≤ Z := by omega
  have hZn : 0 ≤ Z := by omega
  have hZt : Z.toNat = z := by omega
  have hil : ¬ (its.length : Int) ≤ i := by omega
  obtain ⟨F, hF⟩ : ∃ V : Int, ((cntL (list.take k) z : Nat) : Int) = V := ⟨_, rfl⟩
  have hFk := hcl z
  have hwF : W .i64 (F + 1) = F + 1 := Zt (by omega)
  have hF2 : ((cntL (list.take (k + 1)) z : Nat) : Int) = F + 1 := by rw [hcz]; omega
  rw [hF2] at hok
  obtain ⟨x1, x2, x3, x4, x5⟩ := x5
  obtain ⟨r1, r2, r3⟩ := r
  have e79 : o79 [.agg [I u, I d], .agg [I x1, I x2, I x3, I x4, I x5], .agg [I r1, I r2, I r3]] = some (.tup [.bool (mayB u d (x1, x2, x3, x4, x5) (r1, r2, r3)), .bool (okE u d (x1, x2, x3, x4, x5) (r1, r2, r3))]) := rfl
  rw [hEk] at e79
  generalize mayB u d (x1, x2, x3, x4, x5) (r1, r2, r3) = B at *
  generalize hf1 : cntL (list.take k) = f1 at *
  generalize hf2 : cntL (list.take (k + 1)) = f2 at *
  by_cases hmz : z ∈ zs
  ·obtain ⟨a, b, rfl⟩ := List.append_of_mem hmz
   have hza : z ∉ a := fun h => by have := (List.nodup_append.1 hnd).2.2 z h z (by simp); exact this rfl
   have hzb : z ∉ b := by have := (List.nodup_append.1 hnd).2.1; rw [List.nodup_cons] at this; exact this.1
   have hfe := findI_at (z := z) f1 b a 0 0 hza
   have hes := esI_set (f := f1) (g := f2) (z := z) b (I (F + 1)) (by rw [hF2]) hcy a 0 hza hzb
   have hfe2 := findI_at (z := z) f2 b a 0 0 hza
   have hZ2 : (a ++ z :: b).Nodup ∧ ∀ y, y ∈ (a ++ z :: b) ↔ 0 < f2 y := ⟨hnd, fun y => by
    by_cases e : y = z
    ·rw [e, hcz]; simp
    ·rw [hcy y e]; exact hzs y⟩
   rw [hF2] at hfe2
   rw [hZ0] at hfe hfe2 hes
   rw [hF] at hfe
   simp only [Nat.zero_add] at hfe hfe2 hes
   generalize hzsv : a ++ z :: b = zs at *
   have HH2 := zA hi0 (zA htn (zA hwi (zA hk0 (zA hki (zA hz (zA g1 (zA g2 (zA g3 (zA g4 (zA g5 (zA g6 (zA hrn (zA hZp (zA hZr (zA hZn (zA hZt (zA hil (zA hwF (zA e79 (zA hfe (zA hes hfe2)))))))))))))))))))))
   refine zK ?_
   simp only [zT, zB]
   refine zS ?_
   refine zL ?_
   refine zS ?_
   refine zS ?_
   refine zR (zO (by simp [zC h79, trim, -Zb, HH1, rI5, rM3, -List.getElem?_map, -List.getElem_map, HH2]; rfl) ?_)
   simp only [zT, zB]
   refine Zh (x := false) (by simp) ?_
   refine zK ?_
   simp only [zT, zB]
   refine zS ?_
   refine zR (zO (by simp [zC h79, trim, -Zb, HH1, rI5, rM3, -List.getElem?_map, -List.getElem_map, HH2]; rfl) ?_)
   simp only [zT, zB]
   refine zS ?_
   cases B
   ·have hbadk : okL u d its rs list k = false := by rw [hok]; rfl
    have hfl : fitsL u d its rs list = false := by
     unfold fitsL
     rw [List.all_eq_false]
     exact ⟨k, List.mem_range.2 hk0, by simp [hbadk]⟩
    rw [hfl]
    refine Zw (by simp (maxSteps := 3000000) [zC h79, trim, -Zb, HH1, rI5, rM3, -List.getElem?_map, -List.getElem_map, HH2]; rfl) ?_
    simp only [zT, zB]
    refine zS ?_
    refine Zw (by simp (maxSteps := 3000000) [zC h79, trim, -Zb, HH1, rI5, rM3, -List.getElem?_map, -List.getElem_map, HH2]; rfl) ?_
    simp only [zT, zB]
    refine Zh (x := true) (by simp) ?_
    refine zS ?_
    refine zR (zO (by simp [zC h79, trim, -Zb, HH1, rI5, rM3, -List.getElem?_map, -List.getElem_map, HH2]; rfl) ?_)
    simp only [zT, zB]
    refine Ze ?_
    simp [zC h79, trim, -Zb, HH1, rI5, rM3, -List.getElem?_map, -List.getElem_map, HH2]
   ·by_cases hmany : r3 < F + 1
    ·have hbadk : okL u d its rs list k = false := by rw [hok]; simp; omega
     have hfl : fitsL u d its rs list = false := by
      unfold fitsL
      rw [List.all_eq_false]
      exact ⟨k, List.mem_range.2 hk0, by simp [hbadk]⟩
     rw [hfl]
     refine Zw (by simp (maxSteps := 3000000) [zC h79, trim, -Zb, HH1, rI5, rM3, -List.getElem?_map, -List.getElem_map, HH2, hmany]; rfl) ?_
     simp only [zT, zB]
     refine zS ?_
     refine Zw (by simp (maxSteps := 3000000) [zC h79, trim, -Zb, HH1, rI5, rM3, -List.getElem?_map, -List.getElem_map, HH2, hmany]; rfl) ?_
     simp only [zT, zB]
     refine Zh (x := true) (by simp) ?_
     refine zS ?_
     refine zR (zO (by simp [zC h79, trim, -Zb, HH1, rI5, rM3, -List.getElem?_map, -List.getElem_map, HH2, hmany]; rfl) ?_)
     simp only [zT, zB]
     refine Ze ?_
     simp [zC h79, trim, -Zb, HH1, rI5, rM3, -List.getElem?_map, -List.getElem_map, HH2, hmany]
    ·have hgood : okL u d its rs list k = true := by rw [hok]; simp; omega
     refine Zw (by simp (maxSteps := 3000000) [zC h79, trim, -Zb, HH1, rI5, rM3, -List.getElem?_map, -List.getElem_map, HH2, hmany]; rfl) ?_
     simp only [zT, zB]
     refine zS ?_
     refine Zw (by simp (maxSteps := 3000000) [zC h79, trim, -Zb, HH1, rI5, rM3, -List.getElem?_map, -List.getElem_map, HH2, hmany]; rfl) ?_
     simp only [zT, zB]
     refine Zh (x := false) (by simp) ?_
     refine zK ?_
     simp only [zT, zB]
     refine zR (zO (by simp [zC h79, trim, -Zb, HH1, rI5, rM3, -List.getElem?_map, -List.getElem_map, HH2, hmany]; rfl) ?_)
     simp only [zT, zB]
     exact ⟨list.length - (k + 1), by omega, k + 1, i + 1, zs, by omega, rfl, by omega, (fun j hj => if e : j = k then by rw [e]; exact hgood else hAll j (by omega)), by rw [hf2]; exact hZ2, by rw [hf2]; simp [zC h79, trim, -Zb, HH1, rI5, rM3, -List.getElem?_map, -List.getElem_map, HH2, hmany, esI_rb, mp_rb]⟩
  ·have hfe := findI_not f1 zs 0 0 hmz
   have hf0 : f1 z = 0 := by
    rcases Nat.eq_zero_or_pos (f1 z) with h | h
    ·exact h
    ·exact absurd ((hzs z).2 h) hmz
   have hF0 : F = 0 := by omega
   have hes : esI 0 zs f1 ++ [(I Z, I 1, zs.length)] = esI 0 (zs ++ [z]) f2 := by
    rw [esI_app, esI_cons, esI_congr zs 0 (fun y hy => (hcy y fun e => hmz (e ▸ hy)).symm)]
    have : ((f2 z : Nat) : Int) = 1 := by rw [hF2, hF0]; rfl
    rw [this, hZ0]; simp [esI]
   have hfe2 := findI_at (z := z) f2 [] zs 0 0 hmz
   have hZ2 : (zs ++ [z]).Nodup ∧ ∀ y, y ∈ (zs ++ [z]) ↔ 0 < f2 y := ⟨by
    rw [List.nodup_append]
    exact ⟨hnd, by simp, fun x hx y hy => by simp at hy; subst hy; exact fun e => hmz (e ▸ hx)⟩, fun y => by
    by_cases e : y = z
    ·rw [e, hcz]; simp
    ·rw [hcy y e, ← hzs y]; simp [e]⟩
   rw [hF2] at hfe2
   rw [hZ0] at hfe hfe2
   have hw1 : W .i64 1 = 1 := rfl
   simp only [Nat.zero_add] at hfe2
   subst hF0
   have hzl : (zs ++ [z]).length = zs.length + 1 := by simp
   generalize hzsv : zs ++ [z] = zs2 at *
   have HH3 := zA hi0 (zA htn (zA hwi (zA hk0 (zA hki (zA hz (zA g1 (zA g2 (zA g3 (zA g4 (zA g5 (zA g6 (zA hrn (zA hZp (zA hZr (zA hZn (zA hZt (zA hil (zA hwF (zA e79 (zA hfe (zA hes (zA hfe2 (zA hw1 hzl)))))))))))))))))))))))
   refine zK ?_
   simp only [zT, zB]
   refine zS ?_
   refine zL ?_
   refine zS ?_
   refine zS ?_
   refine zR (zO (by simp [zC h79, trim, -Zb, HH1, rI5, rM3, -List.getElem?_map, -List.getElem_map, HH3]; rfl) ?_)
   simp only [zT, zB]
   refine Zh (x := false) (by simp) ?_
   refine zK ?_
   simp only [zT, zB]
   refine zS ?_
   refine zR (zO (by simp [zC h79, trim, -Zb, HH1, rI5, rM3, -List.getElem?_map, -List.getElem_map, HH3]; rfl) ?_)
   simp only [zT, zB]
   refine zS ?_
   cases B
   ·have hbadk : okL u d its rs list k = false := by rw [hok]; rfl
    have hfl : fitsL u d its rs list = false := by
     unfold fitsL
     rw [List.all_eq_false]
     exact ⟨k, List.mem_range.2 hk0, by simp [hbadk]⟩
    rw [hfl]
    refine Zw (by simp (maxSteps := 3000000) [zC h79, trim, -Zb, HH1, rI5, rM3, -List.getElem?_map, -List.getElem_map, HH3]; rfl) ?_
    simp only [zT, zB]
    refine zS ?_
    refine Zw (by simp (maxSteps := 3000000) [zC h79, trim, -Zb, HH1, rI5, rM3, -List.getElem?_map, -List.getElem_map, HH3]; rfl) ?_
    simp only [zT, zB]
    refine Zh (x := true) (by simp) ?_
    refine zS ?_
    refine zR (zO (by simp [zC h79, trim, -Zb, HH1, rI5, rM3, -List.getElem?_map, -List.getElem_map, HH3]; rfl) ?_)
    simp only [zT, zB]
    refine Ze ?_
    simp [zC h79, trim, -Zb, HH1, rI5, rM3, -List.getElem?_map, -List.getElem_map, HH3]
   ·by_cases hmany : r3 < 1
    ·have hbadk : okL u d its rs list k = false := by rw [hok]; simp; omega
     have hfl : fitsL u d its rs list = false := by
      unfold fitsL
      rw [List.all_eq_false]
      exact ⟨k, List.mem_range.2 hk0, by simp [hbadk]⟩
     rw [hfl]
     refine Zw (by simp (maxSteps := 3000000) [zC h79, trim, -Zb, HH1, rI5, rM3, -List.getElem?_map, -List.getElem_map, HH3, hmany]; rfl) ?_
     simp only [zT, zB]
     refine zS ?_
     refine Zw (by simp (maxSteps := 3000000) [zC h79, trim, -Zb, HH1, rI5, rM3, -List.getElem?_map, -List.getElem_map, HH3, hmany]; rfl) ?_
     simp only [zT, zB]
     refine Zh (x := true) (by simp) ?_
     refine zS ?_
     refine zR (zO (by simp [zC h79, trim, -Zb, HH1, rI5, rM3, -List.getElem?_map, -List.getElem_map, HH3, hmany]; rfl) ?_)
     simp only [zT, zB]
     refine Ze ?_
     simp [zC h79, trim, -Zb, HH1, rI5, rM3, -List.getElem?_map, -List.getElem_map, HH3, hmany]
    ·have hgood : okL u d its rs list k = true := by rw [hok]; simp; omega
     refine Zw (by simp (maxSteps := 3000000) [zC h79, trim, -Zb, HH1, rI5, rM3, -List.getElem?_map, -List.getElem_map, HH3, hmany]; rfl) ?_
     simp only [zT, zB]
     refine zS ?_
     refine Zw (by simp (maxSteps := 3000000) [zC h79, trim, -Zb, HH1, rI5, rM3, -List.getElem?_map, -List.getElem_map, HH3, hmany]; rfl) ?_
     simp only [zT, zB]
     refine Zh (x := false) (by simp) ?_
     refine zK ?_
     simp only [zT, zB]
     refine zR (zO (by simp [zC h79, trim, -Zb, HH1, rI5, rM3, -List.getElem?_map, -List.getElem_map, HH3, hmany]; rfl) ?_)
     simp only [zT, zB]
     exact ⟨list.length - (k + 1), by omega, k + 1, i + 1, zs2, by omega, rfl, by omega, (fun j hj => if e : j = k then by rw [e]; exact hgood else hAll j (by omega)), by rw [hf2]; exact hZ2, by rw [hf2]; simp [zC h79, trim, -Zb, HH1, rI5, rM3, -List.getElem?_map, -List.getElem_map, HH3, hmany, esI_rb, mp_rb]⟩
 ·have hlt := of_decide_eq_false hlt
  obtain rfl : k = list.length := by omega
  have hfl : fitsL u d its rs list = true := by
   unfold fitsL
   rw [List.all_eq_true]
   exact fun j hj => hAll j (List.mem_range.1 hj)
  rw [hfl]
  refine Zv ?_
  simp only [zT, zB, if_true, if_false, reduceIte, Nat.reduceEqDiff, Nat.succ_ne_zero, Nat.one_ne_zero, Nat.zero_ne_one]
  refine zS ?_
  refine zR (zO (by simp [zC h79, trim, -Zb, HH1]; rfl) ?_)
  simp only [zT, zB]
  refine Ze ?_
  simp [zC h79, trim, -Zb, HH1]
def o48 : List Za → Option Za
  | [.agg [.int .i64 u, .int .i64 d], x, y, v] => match Zn x, Zn y, dNs v with
    | some r, some s, some list => match Zf dI5' r, Zf dM3 s with
      | some its, some rs => if list.length ≤ its.length ∧ (∀ z ∈ list, z < rs.length) ∧ depE u d its rs = 0 then some (.bool (fitsL u d its rs list)) else none
      | _, _ => none
    | _, _, _ => none
  | _ => none
theorem o48_eq {x y v : Za} {its : List It5} {rs : List Rm3} {list : List Nat} (hx : Zn x = some (its.map rI5)) (hy : Zn y = some (rs.map rM3)) (hv : dNs v = some list) {u d : Int} (hl : list.length ≤ its.length ∧ (∀ z ∈ list, z < rs.length) ∧ depE u d its rs = 0) : o48 [.agg [I u, I d], x, y, v] = some (.bool (fitsL u d its rs list)) := by
  have h1 := XL (d := dI5') (enc := rI5) (fun _ => rfl) its
  have h2 := XL (d := dM3) (enc := rM3) (fun _ => rfl) rs
  simp only [o48, hx, hy, hv, h1, h2]; rw [if_pos hl]
def DY5 : Nat → Option CFn := upd DY4 48 true (o48)
theorem DY5_ok : Zz Tryd.prog GG DY5 := ZO Zj DY4_ok fun args v ho => by
  unfold o48 at ho; split at ho <;> (try simp only [reduceCtorEq] at ho)
  rename_i u d x y v
  split at ho <;> (try simp only [reduceCtorEq] at ho)
  rename_i r s list hx hy hv
  split at ho <;> (try simp only [reduceCtorEq] at ho)
  rename_i its rs hr hs
  split at ho <;> (try simp only [reduceCtorEq] at ho)
  rename_i hg
  simp only [Option.some.injEq] at ho
  subst ho
  exact a48 Tryd.prog DY4 rfl rfl u d x y v its rs list (by rw [hx, YA (enc := rI5) dI5'_eq hr]) (by rw [hy, YA (enc := rM3) dM3_eq hs]) hv hg.1 hg.2.1 hg.2.2
end
end
end Go.Proofs.YtpebmjeomlgmdaaDoor.Tab
namespace Go.Proofs.YtpebmjeomlgmdaaDoor.Tab
open Go Go.Abs Go.Proofs
def subB : Nat → (Nat → Bool) → (Nat → Bool) → Bool
  | 0, _, _ => true
  | m + 1, a, R => subB m a R && (!a m || R m)
def hasN : Nat → (Nat → Int) → (Nat → Bool) → Int
  | 0, _, _ => 0
  | m + 1, pl, R => hasN m pl R + if R m then pl m else 0
def needN (m : Nat) : List (Nat → Bool) → (Nat → Bool) → Int
  | [], _ => 0
  | a :: ps, R => needN m ps R + if subB m a R then 1 else 0
def Hall (m : Nat) (ps : List (Nat → Bool)) (pl : Nat → Int) : Prop := ∀ R, needN m ps R ≤ hasN m pl R
theorem subB_iff : ∀ {m : Nat} {a R : Nat → Bool}, subB m a R = true ↔ ∀ k, k < m → a k = true → R k = true
  | 0, _, _ => by simp [subB]
  | m + 1, a, R => by
    simp only [subB, Bool.and_eq_true, subB_iff (m := m), Bool.or_eq_true, Bool.not_eq_true']
    constructor
    · rintro ⟨h1, h2⟩ k hk ha
      by_cases e : k = m
      · subst e; rcases h2 with h2 | h2
        · rw [h2] at ha; cases ha
        · exact h2
      · exact h1 k (by omega) ha
    · intro h
      refine ⟨fun k hk ha => h k (by omega) ha, ?_⟩
      cases e : a m with
      | false => exact .inl rfl
      | true => exact .inr (h m (by omega) e)
theorem has_mod : ∀ (m : Nat) (pl : Nat → Int) (A B : Nat → Bool), hasN m pl (fun k => A k || B k) + hasN m pl (fun k => A k && B k) = hasN m pl A + hasN m pl B
  | 0, _, _, _ => rfl
  | m + 1, pl, A, B => by
    have := has_mod m pl A B
    simp only [hasN]
    rcases Bool.eq_false_or_eq_true (A m) with hA | hA <;> rcases Bool.eq_false_or_eq_true (B m) with hB | hB <;> simp [hA, hB] <;> omega
theorem need_mod (m : Nat) : ∀ (ps : List (Nat → Bool)) (A B : Nat → Bool), needN m ps A + needN m ps B ≤ needN m ps (fun k => A k || B k) + needN m ps (fun k => A k && B k)
  | [], _, _ => by simp [needN]
  | a :: ps, A, B => by
    have := need_mod m ps A B
    have h1 : subB m a A = true → subB m a (fun k => A k || B k) = true := by
      simp only [subB_iff]; intro h k hk ha; simp [h k hk ha]
    have h2 : subB m a B = true → subB m a (fun k => A k || B k) = true := by
      simp only [subB_iff]; intro h k hk ha; simp [h k hk ha]
    have h3 : subB m a A = true → subB m a B = true → subB m a (fun k => A k && B k) = true := by
      simp only [subB_iff]; intro h g k hk ha; simp [h k hk ha, g k hk ha]
    simp only [needN]
    cases e1 : subB m a A <;> cases e2 : subB m a B <;> cases e3 : subB m a (fun k => A k || B k) <;> cases e4 : subB m a (fun k => A k && B k) <;> simp_all <;> omega
theorem has_congr : ∀ {m : Nat} {pl pl' : Nat → Int} {A B : Nat → Bool}, (∀ k, k < m → (if A k then pl k else 0) = (if B k then pl' k else 0)) → hasN m pl A = hasN m pl' B
  | 0, _, _, _, _, _ => rfl
  | m + 1, pl, pl', A, B, h => by
    simp only [hasN]
    rw [has_congr (m := m) fun k hk => h k (by omega), h m (by omega)]
theorem need_mono {m : Nat} {A B : Nat → Bool} (h : ∀ k, k < m → A k = true → B k = true) : ∀ ps : List (Nat → Bool), needN m ps A ≤ needN m ps B
  | [] => by simp [needN]
  | a :: ps => by
    have := need_mono h ps
    have h1 : subB m a A = true → subB m a B = true := by
      simp only [subB_iff]; intro g k hk ha; exact h k hk (g k hk ha)
    simp only [needN]
    cases e1 : subB m a A <;> cases e2 : subB m a B <;> simp_all <;> omega
theorem need_nonneg {m : Nat} {R : Nat → Bool} : ∀ ps : List (Nat → Bool), 0 ≤ needN m ps R
  | [] => Int.le_refl _
  | a :: ps => by
    have := need_nonneg (m := m) (R := R) ps
    simp only [needN]; split <;> omega
theorem has_none : ∀ (m : Nat) (pl : Nat → Int), hasN m pl (fun _ => false) = 0
  | 0, _ => rfl
  | m + 1, pl => by simp [hasN, has_none m pl]
def takeP (pl : Nat → Int) (k : Nat) : Nat → Int := fun j => if j = k then pl j - 1 else pl j
theorem has_take : ∀ {m : Nat} {pl : Nat → Int} {k : Nat} {R : Nat → Bool}, hasN m (takeP pl k) R = hasN m pl R - if k < m ∧ R k = true then 1 else 0
  | 0, _, _, _ => by simp [hasN]
  | m + 1, pl, k, R => by
    have := has_take (m := m) (pl := pl) (k := k) (R := R)
    simp only [hasN, this, takeP]
    by_cases e : m = k
    · subst e
      cases R m <;> simp <;> omega
    · have : (k < m + 1 ∧ R k = true) ↔ (k < m ∧ R k = true) := and_congr_left fun _ => by omega
      simp only [if_neg e, this]
      omega
theorem hall_nil {m : Nat} {pl : Nat → Int} (h : ∀ k, k < m → 0 ≤ pl k) : Hall m [] pl := by
  intro R
  show 0 ≤ _
  induction m with
  | zero => exact Int.le_refl _
  | succ m ih =>
    have := ih fun k hk => h k (by omega)
    have := h m (by omega)
    simp only [hasN]; split <;> omega
theorem hall_tail {m : Nat} {a : Nat → Bool} {ps : List (Nat → Bool)} {pl : Nat → Int} (h : Hall m (a :: ps) pl) : Hall m ps pl := fun R => by
  have := h R
  simp only [needN] at this
  split at this <;> omega
theorem hall_back {m : Nat} {a : Nat → Bool} {ps : List (Nat → Bool)} {pl : Nat → Int} {k : Nat} (hk : k < m) (ha : a k = true) (h : Hall m ps (takeP pl k)) : Hall m (a :: ps) pl := fun R => by
  have h1 := h R
  rw [has_take] at h1
  simp only [needN]
  by_cases e : subB m a R = true
  · have := subB_iff.1 e k hk ha
    simp [hk, this] at h1
    rw [if_pos e]; omega
  · rw [if_neg e]
    split at h1 <;> omega
theorem hall_step {m : Nat} {a : Nat → Bool} {ps : List (Nat → Bool)} {pl : Nat → Int} (hp : ∀ k, k < m → 0 ≤ pl k) (h : Hall m (a :: ps) pl) : ∃ k, k < m ∧ a k = true ∧ 0 < pl k ∧ Hall m ps (takeP pl k) := by
  apply Classical.byContradiction
  intro hno
  have hps := hall_tail h
  have tight : ∀ n, n ≤ m → ∃ R, needN m ps R = hasN m pl R ∧ ∀ k, k < n → a k = true → 0 < pl k → R k = true := by
    intro n
    induction n with
    | zero => exact fun _ => ⟨fun _ => false, by have := hps fun _ => false; rw [has_none] at this ⊢; have := need_nonneg (m := m) (R := fun _ => false) ps; omega, fun k hk => by omega⟩
    | succ n ih =>
      intro hn
      obtain ⟨R, hR, hRk⟩ := ih (by omega)
      by_cases c : a n = true ∧ 0 < pl n
      · have hbad : ¬ Hall m ps (takeP pl n) := fun hh => hno ⟨n, by omega, c.1, c.2, hh⟩
        obtain ⟨S, hS⟩ := Classical.not_forall.1 hbad
        rw [has_take] at hS
        have hS2 := hps S
        have hSn : S n = true := by
          cases e : S n with
          | true => rfl
          | false => simp [e] at hS; omega
        have hSt : needN m ps S = hasN m pl S := by
          have : n < m := by omega
          simp [hSn, this] at hS; omega
        refine ⟨fun k => R k || S k, ?_, fun k hk ha hk0 => ?_⟩
        · have m1 := has_mod m pl R S
          have m2 := need_mod m ps R S
          have u1 := hps fun k => R k || S k
          have u2 := hps fun k => R k && S k
          omega
        · by_cases e : k = n
          · subst e; simp [hSn]
          · simp [hRk k (by omega) ha hk0]
      · refine ⟨R, hR, fun k hk ha hk0 => ?_⟩
        by_cases e : k = n
        · subst e; exact absurd ⟨ha, hk0⟩ c
        · exact hRk k (by omega) ha hk0
  obtain ⟨R, hR, hRk⟩ := tight m (Nat.le_refl m)
  have hfin := h fun k => R k || decide (pl k = 0)
  have e1 : hasN m pl (fun k => R k || decide (pl k = 0)) = hasN m pl R := has_congr fun k _ => by
    by_cases z : pl k = 0
    · simp [z]
    · simp [z]
  have e2 : subB m a (fun k => R k || decide (pl k = 0)) = true := subB_iff.2 fun k hk ha => by
    by_cases z : pl k = 0
    · simp [z]
    · have := hp k hk
      simp [hRk k hk ha (by omega)]
  have e3 := need_mono (m := m) (A := R) (B := fun k => R k || decide (pl k = 0)) (fun k _ hr => by simp [hr]) ps
  simp only [needN, e2, if_true, e1] at hfin
  omega
end Go.Proofs.YtpebmjeomlgmdaaDoor.Tab
namespace Go.Proofs.YtpebmjeomlgmdaaDoor.Tab
open Go Go.Abs Go.Proofs
set_option linter.unusedSimpArgs false
set_option linter.unusedVariables false
def aB (x : Nat) : Nat → Bool := fun k => x.testBit k
def psL (ms : List Nat) (l : List Nat) : List (Nat → Bool) := l.map fun i => aB (ms.getD i 0)
def plF (pl : List Int) : Nat → Int := fun k => pl.getD k 0
theorem subB_N {m x R : Nat} (hx : x < 2 ^ m) : subB m (aB x) (aB R) = subN x R := by
  rw [Bool.eq_iff_iff, subB_iff, subN_iff]
  constructor
  · intro h i hi
    have him : i < m := by
      rcases Nat.lt_or_ge i m with h1 | h1
      · exact h1
      · rw [Nat.testBit_lt_two_pow (Nat.lt_of_lt_of_le hx (Nat.pow_le_pow_right (by decide) h1))] at hi; simp at hi
    exact h i him hi
  · intro h k _ hk; exact h k hk
theorem needN_L {m R : Nat} {ms : List Nat} (hms : ∀ x ∈ ms, x < 2 ^ m) : ∀ l : List Nat, needN m (psL ms l) (aB R) = (needL ms R l : Int)
  | [] => rfl
  | i :: l => by
    have hx : ms.getD i 0 < 2 ^ m := by
      rw [List.getD_eq_getElem?_getD]
      cases e : ms[i]? with
      | none => exact Nat.two_pow_pos m
      | some y => exact hms y (List.mem_of_getElem? e)
    show needN m (psL ms l) (aB R) + (if subB m (aB (ms.getD i 0)) (aB R) = true then 1 else 0) = _
    rw [needN_L hms l, needL_cons, subB_N hx]
    split <;> omega
theorem hasL_app (pl : List Int) : ∀ (a b : List Nat), hasL pl (a ++ b) = hasL pl a + hasL pl b
  | [], b => by simp [hasL]
  | x :: a, b => by simp only [List.cons_append, hasL, hasL_app pl a b]; omega
theorem hasN_range (pl : List Int) (R : Nat) : ∀ j, hasN j (plF pl) (aB R) = hasL pl ((List.range j).filter fun i => R.testBit i)
  | 0 => rfl
  | j + 1 => by
    show hasN j (plF pl) (aB R) + (if aB R j = true then plF pl j else 0) = _
    rw [List.range_succ, List.filter_append, hasL_app, hasN_range pl R j]
    have ha : aB R j = R.testBit j := rfl
    simp only [List.filter_cons, List.filter_nil]
    by_cases h : R.testBit j = true
    · rw [if_pos (by rw [ha]; exact h), if_pos h]; simp [hasL, plF]
    · rw [if_neg (by rw [ha]; exact h), if_neg h]; simp [hasL]
theorem hasN_more {pl : Nat → Int} {R : Nat → Bool} {m : Nat} : ∀ j, (∀ k, m ≤ k → k < m + j → R k = false) → hasN (m + j) pl R = hasN m pl R
  | 0, _ => rfl
  | j + 1, h => by
    show hasN (m + j) pl R + (if R (m + j) = true then pl (m + j) else 0) = _
    rw [hasN_more j fun k h1 h2 => h k h1 (by omega), h (m + j) (by omega) (by omega)]
    simp
theorem hasN_L {m R : Nat} (hm : m ≤ 10) (hR : R < 2 ^ m) (pl : List Int) : hasN m (plF pl) (aB R) = hasL pl (Zl R) := by
  have h := hasN_more (pl := plF pl) (R := aB R) (m := m) (10 - m) fun k h1 _ => Nat.testBit_lt_two_pow (Nat.lt_of_lt_of_le hR (Nat.pow_le_pow_right (by decide) h1))
  rw [← h, show m + (10 - m) = 10 by omega, hasN_range]; rfl
theorem bits_of (m : Nat) (R : Nat → Bool) : ∃ Rn, Rn < 2 ^ m ∧ ∀ k, k < m → aB Rn k = R k := by
  refine ⟨mask ((List.range m).filter R), mask_lt fun i hi => by simp at hi; exact hi.1, fun k hk => ?_⟩
  unfold aB
  rw [mask_bit]
  cases h : R k with
  | true => simp [hk, h]
  | false => simp [h]
theorem need_congr {m : Nat} {A B : Nat → Bool} (h : ∀ k, k < m → A k = B k) (ps : List (Nat → Bool)) : needN m ps A = needN m ps B :=
  Int.le_antisymm (need_mono (fun k hk ha => by rw [← h k hk]; exact ha) ps) (need_mono (fun k hk hb => by rw [h k hk]; exact hb) ps)
theorem fits_hall {ms : List Nat} {pl : List Int} (hpl : pl.length ≤ 10) (hms : ∀ x ∈ ms, x < 2 ^ pl.length) (L : Nat) : YE ms L pl = true ↔ Hall pl.length (psL ms (Zl L)) (plF pl) := by
  unfold YE Hall
  rw [List.all_eq_true]
  simp only [List.mem_range, decide_eq_true_eq]
  constructor
  · intro h R
    obtain ⟨Rn, h1, h2⟩ := bits_of pl.length R
    have h3 := h Rn h1
    rw [← needN_L hms, ← hasN_L hpl h1] at h3
    rw [← need_congr h2, ← has_congr (A := aB Rn) (B := R) (pl := plF pl) (pl' := plF pl) fun k hk => by rw [h2 k hk]]
    exact h3
  · intro h R hR
    have := h (aB R)
    rw [needN_L hms, hasN_L hpl hR] at this
    exact this
theorem leftM_bit {n : Nat} (hn : n ≤ 10) : ∀ (k i : Nat), k ≤ n → (YY n k).testBit i = (decide (k ≤ i) && decide (i < n))
  | 0, i, _ => by simp [YY, Nat.testBit_two_pow_sub_one]
  | k + 1, i, h => by
    have h1 := leftM_lt hn k
    have h2 := two_le hn
    have h3 : 2 ^ k < 2 ^ n := Nat.pow_lt_pow_right (by decide) (by omega)
    simp only [YY]
    rw [ldN_bit (by omega) (by omega), leftM_bit hn k i (by omega), Nat.testBit_two_pow, Bool.eq_iff_iff]
    simp only [Bool.and_eq_true, decide_eq_true_eq, Bool.not_eq_true', decide_eq_false_iff_not]
    omega
theorem leftM_bits {n k : Nat} (hn : n ≤ 10) (hk : k ≤ n) : Zl (YY n k) = List.range' k (n - k) := by
  refine sorted_ext (fun x => Nat.lt_irrefl x) (fun x y z => Nat.lt_trans) (bits_asc _) List.pairwise_lt_range' fun x => ?_
  rw [mem_bits, leftM_bit hn k x hk, List.mem_range'_1]
  simp only [Bool.and_eq_true, decide_eq_true_eq]
  omega
theorem left_cons {n k : Nat} (hn : n ≤ 10) (hk : k < n) : Zl (YY n k) = k :: Zl (YY n (k + 1)) := by
  rw [leftM_bits hn (by omega), leftM_bits hn (by omega), show n - k = (n - (k + 1)) + 1 by omega, List.range'_succ]
theorem left_nil {n : Nat} (hn : n ≤ 10) : Zl (YY n n) = [] := by rw [leftM_bits hn (Nat.le_refl _), Nat.sub_self]; rfl
def OkA (ms : List Nat) : Nat → List Int → List Nat → Prop
  | _, _, [] => True
  | k, p, z :: r => z ∈ Zl (ms.getD k 0) ∧ 0 < p.getD z 0 ∧ OkA ms (k + 1) (XI p z) r
theorem plF_dec {p : List Int} {z : Nat} (hz : z < p.length) : plF (XI p z) = takeP (plF p) z := by
  funext j
  unfold plF XI takeP
  rw [List.getD_eq_getElem?_getD, List.getElem?_set]
  by_cases h : z = j
  · subst h; simp [hz]
  · have h2 : ¬ j = z := fun e => h e.symm
    simp [h, h2, List.getD_eq_getElem?_getD]
theorem dec_bd {p : List Int} {z : Nat} (h : ∀ x ∈ p, 0 ≤ x ∧ x ≤ 1000) (h0 : 0 < p.getD z 0) : ∀ x ∈ XI p z, 0 ≤ x ∧ x ≤ 1000 := decP_bd h (by omega)
theorem ms_lt {ms : List Nat} {m : Nat} (hms : ∀ x ∈ ms, x < 2 ^ m) (k : Nat) : ms.getD k 0 < 2 ^ m := by
  rw [List.getD_eq_getElem?_getD]
  cases e : ms[k]? with
  | none => exact Nat.two_pow_pos m
  | some y => exact hms y (List.mem_of_getElem? e)
theorem ok_fits {ms : List Nat} {n : Nat} (hn : n ≤ 10) : ∀ (r : List Nat) (k : Nat) (p : List Int), k + r.length = n → p.length ≤ 10 → (∀ x ∈ ms, x < 2 ^ p.length) → (∀ x ∈ p, 0 ≤ x ∧ x ≤ 1000) → OkA ms k p r → YE ms (YY n k) p = true
  | [], k, p, hk, hp, hms, hb, _ => by
    rw [fits_hall hp hms]
    have : k = n := by simpa using hk
    rw [this, left_nil hn]
    exact hall_nil fun j _ => (pl_bd hb j).1
  | z :: r, k, p, hk, hp, hms, hb, h => by
    obtain ⟨h1, h2, h3⟩ := h
    have hk' : k + 1 + r.length = n := by simp at hk; omega
    have hz : z < p.length := XF (ms_lt hms k) h1
    have ih := ok_fits hn r (k + 1) (XI p z) hk' (by rw [XE]; exact hp) (by rw [XE]; exact hms) (dec_bd hb h2) h3
    rw [fits_hall (by rw [XE]; exact hp) (by rw [XE]; exact hms), XE, plF_dec hz] at ih
    rw [fits_hall hp hms, left_cons hn (by omega)]
    exact hall_back hz (mem_bits.1 h1).2 ih
theorem store_least {ms : List Nat} {n : Nat} (hn : n ≤ 10) : ∀ (f k : Nat) (p : List Int), k + f = n → p.length ≤ 10 → (∀ x ∈ ms, x < 2 ^ p.length) → (∀ x ∈ p, 0 ≤ x ∧ x ≤ 1000) → YE ms (YY n k) p = true →
    (XH ms n f p).length = f ∧ OkA ms k p (XH ms n f p) ∧ ∀ r : List Nat, r.length = f → OkA ms k p r → ¬ r < XH ms n f p
  | 0, k, p, hk, hp, hms, hb, hf => by
    refine ⟨rfl, trivial, fun r hr _ => ?_⟩
    rw [List.length_eq_zero_iff.1 hr]
    show ¬ ([] : List Nat) < []
    simp
  | f + 1, k, p, hk, hp, hms, hb, hf => by
    have hkn : k < n := by omega
    have hst := storeG_step ms hkn p
    rw [show n - k = f + 1 by omega, show n - (k + 1) = f by omega] at hst
    have hH := (fits_hall hp hms (YY n k)).1 hf
    rw [left_cons hn hkn] at hH
    obtain ⟨z0, hz0, ha0, hp0, hh0⟩ := hall_step (m := p.length) (a := aB (ms.getD k 0)) (ps := psL ms (Zl (YY n (k + 1)))) (pl := plF p) (fun j _ => (pl_bd hb j).1) hH
    have hcan : ∀ z, z ∈ Zl (ms.getD k 0) → (canP ms (YY n (k + 1)) p z = true ↔ 0 < p.getD z 0 ∧ YE ms (YY n (k + 1)) (XI p z) = true) := fun z _ => by
      unfold canP
      have := pl_bd hb z
      simp only [Bool.and_eq_true, decide_eq_true_eq]
      constructor
      · rintro ⟨h1, h2⟩; exact ⟨by omega, h2⟩
      · rintro ⟨h1, h2⟩; exact ⟨by omega, h2⟩
    have hmem0 : z0 ∈ Zl (ms.getD k 0) := mem_bits.2 ⟨by omega, ha0⟩
    have hc0 : canP ms (YY n (k + 1)) p z0 = true := by
      rw [hcan z0 hmem0]
      refine ⟨hp0, ?_⟩
      rw [fits_hall (by rw [XE]; exact hp) (by rw [XE]; exact hms), XE, plF_dec hz0]
      exact hh0
    cases hfind : (Zl (ms.getD k 0)).find? (canP ms (YY n (k + 1)) p) with
    | none =>
      have := List.find?_eq_none.1 hfind z0 hmem0
      exact absurd hc0 this
    | some z =>
      rw [hfind] at hst
      simp only at hst
      obtain ⟨hcz, as_, bs_, hsplit, hbefore⟩ := List.find?_eq_some_iff_append.1 hfind
      have hzm : z ∈ Zl (ms.getD k 0) := by rw [hsplit]; simp
      obtain ⟨h1, h2⟩ := (hcan z hzm).1 hcz
      have hzp : z < p.length := XF (ms_lt hms k) hzm
      obtain ⟨i1, i2, i3⟩ := store_least hn f (k + 1) (XI p z) (by omega) (by rw [XE]; exact hp) (by rw [XE]; exact hms) (dec_bd hb h1) h2
      rw [hst]
      refine ⟨by simp [i1], ⟨hzm, h1, i2⟩, fun r hr hok => ?_⟩
      cases r with
      | nil => simp at hr
      | cons y t =>
        obtain ⟨j1, j2, j3⟩ := hok
        have hyp : y < p.length := XF (ms_lt hms k) j1
        have hfy := ok_fits hn t (k + 1) (XI p y) (by simp at hr; omega) (by rw [XE]; exact hp) (by rw [XE]; exact hms) (dec_bd hb j2) j3
        have hcy := (hcan y j1).2 ⟨j2, hfy⟩
        have hasc := bits_asc (ms.getD k 0)
        rw [hsplit] at hasc j1
        have hle : z ≤ y := by
          rcases List.mem_append.1 j1 with h | h
          · have := hbefore y h
            rw [hcy] at this; simp at this
          · rcases List.mem_cons.1 h with rfl | h
            · exact Nat.le_refl _
            · rw [List.pairwise_append] at hasc
              have := (List.pairwise_cons.1 hasc.2.1).1 y h
              omega
        rw [List.cons_lt_cons_iff]
        rintro (h | ⟨rfl, h⟩)
        · omega
        · exact i3 t (by simpa using hr) j3 h
theorem mayK_bit (u d : Int) (x : It5) (rs : List Rm3) : ∀ (k j : Nat), (mayK u d x rs k).testBit j = (decide (j < k) && mayB u d x (rs.getD j (0, 0, 0)))
  | 0, j => by simp [mayK]
  | k + 1, j => by
    simp only [mayK]
    by_cases h : mayB u d x (rs.getD k (0, 0, 0)) = true
    · rw [if_pos h, Nat.testBit_or, mayK_bit u d x rs k j, Nat.testBit_two_pow, Bool.eq_iff_iff]
      simp only [Bool.or_eq_true, Bool.and_eq_true, decide_eq_true_eq]
      constructor
      · rintro (⟨h1, h2⟩ | rfl)
        · exact ⟨by omega, h2⟩
        · exact ⟨by omega, h⟩
      · rintro ⟨h1, h2⟩
        by_cases e : k = j
        · exact .inr e
        · exact .inl ⟨by omega, h2⟩
    · rw [if_neg h, mayK_bit u d x rs k j, Bool.eq_iff_iff]
      simp only [Bool.and_eq_true, decide_eq_true_eq]
      constructor
      · rintro ⟨h1, h2⟩; exact ⟨by omega, h2⟩
      · rintro ⟨h1, h2⟩
        refine ⟨?_, h2⟩
        by_cases e : j = k
        · subst e; exact absurd h2 h
        · omega
theorem mays_get {u d : Int} {its : List It5} {rs : List Rm3} {i : Nat} (hi : i < its.length) : (Xm u d its rs).getD i 0 = mayF u d rs (its.getD i (0, 0, 0, 0, 0)) := by
  unfold Xm
  simp [List.getD, List.getElem?_map, List.getElem?_eq_getElem hi]
def Cnt (ms : List Nat) (k : Nat) (p : List Int) (r : List Nat) : Prop := ∀ i, i < r.length → r.getD i 0 ∈ Zl (ms.getD (k + i) 0) ∧ ((cntL (r.take (i + 1)) (r.getD i 0) : Nat) : Int) ≤ p.getD (r.getD i 0) 0
theorem decP_get {p : List Int} {z j : Nat} (hz : z < p.length) : (XI p z).getD j 0 = p.getD j 0 - if j = z then 1 else 0 := by
  have h := congrFun (plF_dec hz) j
  have e1 : plF (XI p z) j = (XI p z).getD j 0 := rfl
  have e2 : takeP (plF p) z j = if j = z then p.getD j 0 - 1 else p.getD j 0 := rfl
  rw [e1, e2] at h
  rw [h]; split <;> omega
theorem ok_cnt {ms : List Nat} : ∀ (r : List Nat) (k : Nat) (p : List Int), (∀ x ∈ ms, x < 2 ^ p.length) → (OkA ms k p r ↔ Cnt ms k p r)
  | [], k, p, _ => by simp [OkA, Cnt]
  | z :: r, k, p, hms => by
    have hcz : ∀ (i y : Nat), cntL ((z :: r).take (i + 1)) y = cntL (r.take i) y + if y = z then 1 else 0 := fun i y => by
      unfold cntL
      rw [List.take_succ_cons, List.count_cons]
      by_cases e : z = y
      · subst e; simp
      · have e2 : ¬ y = z := fun h => e h.symm
        simp [e, e2]
    unfold OkA
    constructor
    · rintro ⟨h1, h2, h3⟩ i hi
      have hzp : z < p.length := XF (ms_lt hms k) h1
      rw [ok_cnt r (k + 1) (XI p z) (by rw [XE]; exact hms)] at h3
      cases i with
      | zero =>
        refine ⟨by simpa using h1, ?_⟩
        rw [hcz 0]
        have e : cntL (r.take 0) ((z :: r).getD 0 0) = 0 := rfl
        have e2 : (z :: r).getD 0 0 = z := rfl
        rw [e, e2, if_pos rfl]
        show ((0 + 1 : Nat) : Int) ≤ p.getD z 0
        omega
      | succ i =>
        have hi' : i < r.length := by simpa using hi
        obtain ⟨h4, h5⟩ := h3 i hi'
        simp only [List.getD_cons_succ]
        refine ⟨by rw [show k + (i + 1) = k + 1 + i by omega]; exact h4, ?_⟩
        rw [hcz, show i + 1 = i + 1 from rfl]
        rw [decP_get hzp] at h5
        push_cast
        split <;> simp_all <;> omega
    · intro h
      obtain ⟨h1, h2⟩ := h 0 (by simp)
      simp only [List.getD_cons_zero, Nat.add_zero] at h1
      have hzp : z < p.length := XF (ms_lt hms k) h1
      refine ⟨h1, ?_, ?_⟩
      · have e : cntL (r.take 0) ((z :: r).getD 0 0) = 0 := rfl
        have e2 : (z :: r).getD 0 0 = z := rfl
        rw [hcz 0, e, e2, if_pos rfl] at h2
        have h3 : ((0 + 1 : Nat) : Int) ≤ p.getD z 0 := h2
        omega
      · rw [ok_cnt r (k + 1) (XI p z) (by rw [XE]; exact hms)]
        intro i hi
        obtain ⟨h4, h5⟩ := h (i + 1) (by simpa using hi)
        simp only [List.getD_cons_succ] at h4 h5
        refine ⟨by rw [show k + 1 + i = k + (i + 1) by omega]; exact h4, ?_⟩
        rw [hcz] at h5
        rw [decP_get hzp]
        push_cast at h5
        split <;> simp_all <;> omega
theorem fitsL_ok {u d : Int} {its : List It5} {rs : List Rm3} (hr : rs.length ≤ 10) {list : List Nat} (hl : list.length ≤ its.length) (hz : ∀ z ∈ list, z < rs.length) : fitsL u d its rs list = true ↔ OkA (Xm u d its rs) 0 (rs.map fun r => r.2.2) list := by
  rw [ok_cnt list 0 _ (by rw [List.length_map]; exact mays_lt u d its rs)]
  unfold fitsL Cnt
  rw [List.all_eq_true]
  have hpg : ∀ z, (rs.map fun r : Rm3 => r.2.2).getD z 0 = (rs.getD z (0, 0, 0)).2.2 := fun z => by
    rw [List.getD_eq_getElem?_getD, List.getD_eq_getElem?_getD, List.getElem?_map]
    cases rs[z]? <;> rfl
  have hbit : ∀ i, i < list.length → (list.getD i 0 ∈ Zl ((Xm u d its rs).getD (0 + i) 0) ↔ mayB u d (its.getD i (0, 0, 0, 0, 0)) (rs.getD (list.getD i 0) (0, 0, 0)) = true) := fun i hi => by
    have hzi : list.getD i 0 < rs.length := by
      have e : list.getD i 0 = list[i] := by simp [List.getD, List.getElem?_eq_getElem hi]
      rw [e]; exact hz _ (List.getElem_mem hi)
    rw [Nat.zero_add, mays_get (by omega), mem_bits]
    unfold mayF
    rw [mayK_bit]
    simp only [Bool.and_eq_true, decide_eq_true_eq]
    exact ⟨fun h => h.2.2, fun h => ⟨by omega, hzi, h⟩⟩
  constructor
  · intro h i hi
    have h1 := h i (List.mem_range.2 hi)
    unfold okL at h1
    simp only [Bool.and_eq_true, decide_eq_true_eq] at h1
    rw [hbit i hi, hpg]
    exact h1
  · intro h i hi
    have hi' := List.mem_range.1 hi
    have h1 := h i hi'
    rw [hbit i hi', hpg] at h1
    unfold okL
    simp only [Bool.and_eq_true, decide_eq_true_eq]
    exact h1
end Go.Proofs.YtpebmjeomlgmdaaDoor.Tab
namespace Go.Proofs.YtpebmjeomlgmdaaDoor.Tab
open Go Go.Abs Go.Proofs
set_option linter.unusedSimpArgs false
set_option linter.unusedVariables false
theorem needL_count (ms : List Nat) (R : Nat) (l : List Nat) : needL ms R l = (l.map fun i => ms.getD i 0).countP fun x => subN x R := by
  unfold needL
  rw [List.countP_map, List.countP_eq_length_filter]; rfl
theorem range_getD (ms : List Nat) : ((List.range ms.length).map fun i => ms.getD i 0) = ms := by
  refine List.ext_getElem (by simp) fun i h1 h2 => ?_
  simp [List.getD, List.getElem?_eq_getElem h2]
theorem bits_full {n : Nat} (hn : n ≤ 10) : Zl (2 ^ n - 1) = List.range n := by
  have := leftM_bits hn (Nat.zero_le n)
  rw [show YY n 0 = 2 ^ n - 1 from rfl, Nat.sub_zero] at this
  rw [this, List.range_eq_range']
theorem bits_range {n s : Nat} (hn : n ≤ 10) (hs : s < 2 ^ n) : Zl s = (List.range n).filter fun i => s.testBit i := by
  refine sorted_ext (fun x => Nat.lt_irrefl x) (fun x y z => Nat.lt_trans) (bits_asc _) (List.Pairwise.filter _ List.pairwise_lt_range) fun x => ?_
  constructor
  · intro h
    rw [List.mem_filter, List.mem_range]
    exact ⟨XF hs h, (mem_bits.1 h).2⟩
  · intro h
    rw [List.mem_filter, List.mem_range] at h
    exact mem_bits.2 ⟨by omega, h.2⟩
theorem fits_some {ms : List Nat} {pl : List Int} {a : List Nat} (ha : a.length ≤ 10) {b : Nat} (hb : Zl b = a) : YE (a.map fun i => ms.getD i 0) (2 ^ a.length - 1) pl = YE ms b pl := by
  unfold YE
  congr 1
  funext R
  rw [bits_full ha, hb, needL_count, needL_count]
  have := range_getD (a.map fun i => ms.getD i 0)
  rw [List.length_map] at this
  rw [this]
theorem fits_sub {ms : List Nat} {pl : List Int} {n s : Nat} (hn : n ≤ 10) (hs : s < 2 ^ n) (h : YE ms (2 ^ n - 1) pl = true) : YE ms s pl = true := by
  unfold YE at *
  rw [List.all_eq_true] at *
  intro R hR
  have h1 := h R hR
  simp only [decide_eq_true_eq] at *
  rw [bits_full hn] at h1
  rw [bits_range hn hs]
  have h2 : needL ms R ((List.range n).filter fun i => s.testBit i) ≤ needL ms R (List.range n) := by
    unfold needL
    exact (List.Sublist.filter _ List.filter_sublist).length_le
  omega
theorem hasL_mono {p q : List Int} (h : ∀ k, p.getD k 0 ≤ q.getD k 0) : ∀ l : List Nat, hasL p l ≤ hasL q l
  | [] => Int.le_refl _
  | k :: l => by
    have := hasL_mono h l
    have := h k
    simp only [hasL]; omega
theorem fits_more {ms : List Nat} {p q : List Int} {s : Nat} (hl : p.length = q.length) (h : ∀ k, p.getD k 0 ≤ q.getD k 0) (hf : YE ms s p = true) : YE ms s q = true := by
  unfold YE at *
  rw [List.all_eq_true] at *
  rw [← hl]
  intro R hR
  have h1 := hf R hR
  have h2 := hasL_mono h (Zl R)
  simp only [decide_eq_true_eq] at *
  omega
theorem bestA_none {ms : List Nat} {pl : List Int} : ∀ (k : Nat), bestA ms pl k = none → ∀ s < k, YE ms s pl = true
  | 0, _, s, h => absurd h (by omega)
  | k + 1, hb, s, h => by
    simp only [bestA] at hb
    split at hb
    · rename_i hf
      by_cases e : s = k
      · rw [e]; exact hf
      · exact bestA_none k hb s (by omega)
    · split at hb
      · simp at hb
      · split at hb <;> simp at hb
theorem bestA_some {ms : List Nat} {pl : List Int} : ∀ (k b : Nat), bestA ms pl k = some b → b < k ∧ YE ms b pl = false ∧ ∀ s < k, YE ms s pl = false → (Zl b).length ≤ (Zl s).length
  | 0, b, hb => by simp [bestA] at hb
  | k + 1, b, hb => by
    simp only [bestA] at hb
    split at hb
    · rename_i hf
      obtain ⟨h1, h2, h3⟩ := bestA_some k b hb
      exact ⟨by omega, h2, fun s hs hfs => by
        by_cases e : s = k
        · rw [e, hf] at hfs; simp at hfs
        · exact h3 s (by omega) hfs⟩
    · rename_i hf
      have hf' : YE ms k pl = false := by simpa using hf
      split at hb
      · rename_i e
        simp at hb; subst hb
        exact ⟨by omega, hf', fun s hs hfs => by
          by_cases e2 : s = k
          · rw [e2]; exact Nat.le_refl _
          · have := bestA_none k e s (by omega); rw [this] at hfs; simp at hfs⟩
      · rename_i c e
        obtain ⟨h1, h2, h3⟩ := bestA_some k c e
        split at hb
        · rename_i hlt
          simp at hb; subst hb
          exact ⟨by omega, hf', fun s hs hfs => by
            by_cases e2 : s = k
            · rw [e2]; exact Nat.le_refl _
            · have := h3 s (by omega) hfs; omega⟩
        · rename_i hlt
          simp at hb; subst hb
          exact ⟨by omega, h2, fun s hs hfs => by
            by_cases e2 : s = k
            · rw [e2]; omega
            · exact h3 s (by omega) hfs⟩
def pickL (a : List Nat) (k : Int) : Nat → List Nat
  | 0 => []
  | i + 1 => if (i : Int) = k then pickL a k i else pickL a k i ++ [a.getD i 0]
theorem pick_len (a : List Nat) (k : Int) : ∀ i, (pickL a k i).length ≤ i
  | 0 => Nat.le_refl _
  | i + 1 => by
    have := pick_len a k i
    simp only [pickL]
    split
    · omega
    · simp; omega
theorem pick_neg (a : List Nat) : ∀ i, i ≤ a.length → pickL a (-1) i = a.take i
  | 0, _ => rfl
  | i + 1, h => by
    simp only [pickL]
    rw [if_neg (by omega), pick_neg a i (by omega), List.take_succ_eq_append_getElem (by omega : i < a.length)]
    simp [List.getD, List.getElem?_eq_getElem (show i < a.length by omega)]
theorem pick_sub (a : List Nat) (k : Int) : ∀ i, i ≤ a.length → (pickL a k i).Sublist (a.take i)
  | 0, _ => List.Sublist.refl _
  | i + 1, h => by
    have ih := pick_sub a k i (by omega)
    have e : a.take (i + 1) = a.take i ++ [a.getD i 0] := by
      rw [List.take_succ_eq_append_getElem (by omega : i < a.length)]
      simp [List.getD, List.getElem?_eq_getElem (show i < a.length by omega)]
    simp only [pickL]
    rw [e]
    split
    · exact ih.trans (List.sublist_append_left _ _)
    · exact List.Sublist.append ih (List.Sublist.refl _)
theorem pick_less (a : List Nat) (k : Nat) : ∀ i, k < i → (pickL a k i).length < i
  | 0, h => absurd h (by omega)
  | i + 1, h => by
    simp only [pickL]
    split
    · have := pick_len a k i; omega
    · rename_i hk
      have := pick_less a k i (by omega)
      simp; omega
theorem pick_fits {ms : List Nat} {pl : List Int} {n b : Nat} (hn : n ≤ 10) (hb : bestA ms pl (2 ^ n) = some b) (k : Int) (hk : -1 ≤ k) (hkl : k < (Zl b).length) :
    YE ((pickL (Zl b) k (Zl b).length).map fun i => ms.getD i 0) (2 ^ (pickL (Zl b) k (Zl b).length).length - 1) pl = decide (0 ≤ k) := by
  obtain ⟨h1, h2, h3⟩ := bestA_some _ _ hb
  have hl10 := bits_len b
  by_cases h0 : 0 ≤ k
  · obtain ⟨j, rfl⟩ : ∃ j : Nat, k = j := ⟨k.toNat, by omega⟩
    have hs := pick_sub (Zl b) (j : Int) (Zl b).length (Nat.le_refl _)
    rw [List.take_length] at hs
    have hless := pick_less (Zl b) j (Zl b).length (by omega)
    generalize pickL (Zl b) (j : Int) (Zl b).length = c at *
    have hasc : c.Pairwise (· < ·) := List.Pairwise.sublist hs (bits_asc b)
    have hmem : ∀ i ∈ c, i < n := fun i hi => XF h1 (hs.subset hi)
    have hbc : Zl (mask c) = c := bits_mask hasc fun i hi => by have := hmem i hi; omega
    have hm := mask_lt hmem
    rw [fits_some (by omega) hbc, decide_eq_true h0]
    cases hf : YE ms (mask c) pl with
    | true => rfl
    | false => have := h3 _ hm hf; rw [hbc] at this; omega
  · obtain rfl : k = -1 := by omega
    rw [pick_neg _ _ (Nat.le_refl _), List.take_length, fits_some (by omega) rfl, h2]; rfl
end Go.Proofs.YtpebmjeomlgmdaaDoor.Tab
namespace Go.Proofs.YtpebmjeomlgmdaaDoor.Tab
open Go Go.Abs Go.Proofs
set_option maxRecDepth 100000
set_option maxHeartbeats 4000000
set_option linter.unusedSimpArgs false
set_option linter.unusedVariables false
noncomputable section
attribute [local simp] YF Yn Xy Xz YL YG XA YK Xe Yx Zf orcF Xs YT Xu Xq YS Yv rb_vl rb_pv Xo YR YQ YP Xt Xp Xr rb_sl rb_fn slE XZ Xj Ym ZN XC List.range_succ List.range_zero List.range'_succ List.range'_zero Yd Yb ZC Yf ZP ZU Xl Yh dop CV.ev Yp Zx ZK Xb fI_eq Yq Ya ZJ Zy Out.v XG List.replicate_succ zT zB arI ZL Abs.rowAt XB allV toV toC ofV ofC Builtin.min_ Builtin.min2 Builtin.max_ Builtin.max2 Xv Xw resA tupA Xx Yc Ys Yt Yr Zb
section
attribute [local simp] Ye ZR YW YN actD Xn disj YZ holes Xa ZW Xd news eqB Xh eqA YJ Xi toCs ofCs stA Yu ZS Yy dI1 dI2 dI3 dI5 elt
attribute [local simp] st_any st_und st_agg st_tup XR st_int XO st_ref st_pv XN st_sl st_vl XP st_mp st_fn XQ st_yld co_any co_und co_agg co_tup XW co_int XT co_ref co_pv XS co_sl co_vl XU co_mp co_fn XV co_yld
attribute [local simp] Yz Zs lim lop YC posOf
def dB3 : List Za → Option (Nat × Nat × Nat)
  | [.int .u8 a, .int .u8 b, .int .u8 c] => if (0 ≤ a ∧ a < 256) ∧ (0 ≤ b ∧ b < 256) ∧ (0 ≤ c ∧ c < 256) then some (a.toNat, b.toNat, c.toNat) else none
  | _ => none
theorem dB3_eq (r : List Za) (v : Nat × Nat × Nat) (h : dB3 r = some v) : r = r3u v := by
  unfold dB3 at h; split at h <;> (try simp only [reduceCtorEq] at h)
  split at h <;> (try simp only [reduceCtorEq] at h)
  rename_i a b c hg
  simp only [Option.some.injEq] at h
  subst h
  simp only [r3u, Int.toNat_of_nonneg hg.1.1, Int.toNat_of_nonneg hg.2.1.1, Int.toNat_of_nonneg hg.2.2.1]
theorem dB3_bd : ∀ {rs : List (List Za)} {l : List (Nat × Nat × Nat)}, Zf dB3 rs = some l → ∀ v ∈ l, R3Ok v
  | [], l, h => by simp at h; subst h; simp
  | r :: rs, l, h => by
    simp only [Zf] at h
    split at h <;> simp at h
    rename_i y ys e1 e2
    subst h
    intro v hv
    rcases List.mem_cons.1 hv with rfl | hv
    · unfold dB3 at e1; split at e1 <;> (try simp only [reduceCtorEq] at e1)
      split at e1 <;> (try simp only [reduceCtorEq] at e1)
      rename_i hg
      simp only [Option.some.injEq] at e1
      subst e1
      unfold R3Ok; simp only; omega
    · exact dB3_bd e2 v hv
theorem dB3_self {rs : List (Nat × Nat × Nat)} (h : ∀ v ∈ rs, R3Ok v) : Zf dB3 (rs.map r3u) = some rs := by
  have h2 : Zf dB3 (rs.map r3u) = some (rs.map id) := optAll_map2 rs fun v hv => by
    have := h v hv
    unfold R3Ok at this
    simp only [dB3, r3u, id]; rw [if_pos (by omega)]; simp only [Int.toNat_natCast]
  rwa [List.map_id] at h2
def depoV (xs : List R4) (ys : List (Nat × Nat × Nat)) : Za := .tup [.vl (((xs.take 6).map deIt).map rI5) ((xs.take 6).map deIt).isEmpty, .vl (((ys.take 4).map YM).map rM3) ((ys.take 4).map YM).isEmpty]
def o43 : List Za → Option Za
  | [.agg [x, y]] => match Zn x, Zn y with
    | some r, some s => match Zf dB4 r, Zf dB3 s with
      | some xs, some ys => some (depoV xs ys)
      | _, _ => none
    | _, _ => none
  | _ => none
theorem o43_eq {x y : Za} {xs : List R4} {ys : List (Nat × Nat × Nat)} (hx : Zn x = some (xs.map r4)) (hy : Zn y = some (ys.map r3u)) (hbx : ∀ v ∈ xs, R4Ok v) (hby : ∀ v ∈ ys, R3Ok v) : o43 [.agg [x, y]] = some (depoV xs ys) := by
  simp only [o43, hx, hy, dB4_self hbx, dB3_self hby]
def DZ0 : Nat → Option CFn := updG DY5 43 [(114, [.slot 4]), (306, [.slot 5])] []
theorem DZ0_ok : Zz Tryd.prog GG DZ0 := tab_updG DY5_ok
def DZ1 : Nat → Option CFn := upd DZ0 43 false (o43)
theorem DZ1_ok : Zz Tryd.prog GG DZ1 := ZO Zj DZ0_ok fun args v ho => by
  unfold o43 at ho; split at ho <;> (try simp only [reduceCtorEq] at ho)
  rename_i x y
  split at ho <;> (try simp only [reduceCtorEq] at ho)
  rename_i r s hx hy
  split at ho <;> (try simp only [reduceCtorEq] at ho)
  rename_i xs ys hr hs
  simp only [Option.some.injEq] at ho
  subst ho
  exact a43 Tryd.prog DZ0 rfl rfl x y xs ys (by rw [hx, YA (enc := r4) dB4_eq hr]) (by rw [hy, YA (enc := r3u) dB3_eq hs]) (dB4_bd hr) (dB3_bd hs)
def sRooms : List Za → Option (Za × Zg)
  | [.vl rs _] => match Zf dM3 rs with
    | some ts => if ts.length ≤ 1000 then some (.sl 0 0 ts.length false, [some (.row 3 (ts.map rM3))]) else none
    | none => none
  | _ => none
theorem a46f (P : Program) (T : Nat → Option CFn) (hT : T 46 = some c46) (ts : List Rm3) (tt : Bool) (hl2 : ts.length ≤ 1000) : Zr P T 46 [.vl (ts.map rM3) tt] [] fun v1 h1 => ∃ K : List Nat, K.Nodup ∧ K.length = [some (Blk.row 3 (ts.map rM3))].length ∧ (∀ p (hp : p < K.length) b, [some (Blk.row 3 (ts.map rM3))][p]? = some (some b) → h1[K[p]]? = some (some b)) ∧ keepB true K h1 (looseV v1) = some (.sl 0 0 ts.length false) := by
 refine Zm hT (Zq rfl) ?_
 simp only [oo, om, op, og, ci, cl, c46]
 rcases ts with _ | ⟨x, l⟩
 ·refine zS ?_
  refine zR (zO (by simp [hl2]; rfl) ?_)
  simp only [zT, zB]
  refine zS ?_
  refine zR (zO (by simp [hl2]; rfl) ?_)
  simp only [zT, zB]
  refine Ze ?_
  refine ⟨by simp, _, by simp; rfl, [0], by simp, rfl, fun q hq b hb => ?_, by simp [keepB, keepA, looseV, looseA]⟩
  obtain rfl : q = 0 := by simp at hq; omega
  simpa [trim, tupA, rb_sl] using hb
 ·have hr1 : (l.map rM3).all (fun r => r.length == 3) = true := by simp [rM3]
  have hr2 : (l.map rM3).all (fun r => r.all ZG) = true := by simp [rM3]
  have hl3 : l.length + 1 ≤ 1048576 := by simp at hl2; omega
  refine zS ?_
  refine zR (zO (by simp [↓hr1, ↓hr2, hl3, rM3]; rfl) ?_)
  simp only [zT, zB]
  refine zS ?_
  refine zR (zO (by simp [↓hr1, ↓hr2, hl3, rM3]; rfl) ?_)
  simp only [zT, zB]
  refine Ze ?_
  refine ⟨by simp, _, by simp; rfl, [1], by simp, rfl, fun q hq b hb => ?_, by simp [keepB, keepA, looseV, looseA]⟩
  obtain rfl : q = 0 := by simp at hq; omega
  simpa [trim, tupA, rb_sl, rM3] using hb
def DZ2 : Nat → Option CFn := upd0 DZ1 46
theorem DZ2_ok : Zz Tryd.prog GG DZ2 := tab_upd0 DZ1_ok
def DZ3 : Nat → Option CFn := updE DZ2 46 (freshE true sRooms)
theorem DZ3_ok : Zz Tryd.prog GG DZ3 := tab_fresh2 Zj DZ2_ok fun args v hs ho => by
  unfold sRooms at ho; split at ho <;> (try simp only [reduceCtorEq] at ho)
  rename_i rs tt
  split at ho <;> (try simp only [reduceCtorEq] at ho)
  rename_i ts hts
  split at ho <;> (try simp only [reduceCtorEq] at ho)
  rename_i hg
  simp only [Option.some.injEq, Prod.mk.injEq] at ho
  obtain ⟨rfl, rfl⟩ := ho
  obtain rfl : rs = ts.map rM3 := YA (enc := rM3) dM3_eq hts
  exact a46f Tryd.prog DZ2 rfl ts tt hg
def r1u (b : Nat) : List Za := [.int .u8 (b : Nat)]
def byteV (bs : List Nat) (i : Nat) : Nat := bs.getD (i % bs.length) 0
def dB1 : List Za → Option Nat
  | [.int .u8 a] => if 0 ≤ a ∧ a < 256 then some a.toNat else none
  | _ => none
theorem dB1_eq (r : List Za) (v : Nat) (h : dB1 r = some v) : r = r1u v := by
  unfold dB1 at h; split at h <;> (try simp only [reduceCtorEq] at h)
  split at h <;> (try simp only [reduceCtorEq] at h)
  rename_i a hg
  simp only [Option.some.injEq] at h
  subst h
  simp only [r1u, Int.toNat_of_nonneg hg.1]
theorem dB1_bd : ∀ {rs : List (List Za)} {l : List Nat}, Zf dB1 rs = some l → ∀ v ∈ l, v < 256
  | [], l, h => by simp at h; subst h; simp
  | r :: rs, l, h => by
    simp only [Zf] at h
    split at h <;> simp at h
    rename_i y ys e1 e2
    subst h
    intro v hv
    rcases List.mem_cons.1 hv with rfl | hv
    · unfold dB1 at e1; split at e1 <;> (try simp only [reduceCtorEq] at e1)
      split at e1 <;> (try simp only [reduceCtorEq] at e1)
      rename_i hg
      simp only [Option.some.injEq] at e1
      subst e1; omega
    · exact dB1_bd e2 v hv
def o40n : List Za → Option Za
  | [x, .int .i64 i] => match Zn x with
    | some rs => match Zf dB1 rs with
      | some bs => if 0 ≤ i ∧ i ≤ 1000 then some (I (byteV bs i.toNat : Nat)) else none
      | none => none
    | none => none
  | _ => none
theorem o40n_eq {x : Za} {bs : List Nat} (hx : Zn x = some (bs.map r1u)) (hb : ∀ b ∈ bs, b < 256) {i : Nat} (hi : i ≤ 1000) : o40n [x, I (i : Nat)] = some (I (byteV bs i : Nat)) := by
  have h2 : Zf dB1 (bs.map r1u) = some (bs.map id) := optAll_map2 bs fun v hv => by
    have := hb v hv
    simp only [dB1, r1u, id]; rw [if_pos (by omega), Int.toNat_natCast]
  rw [List.map_id] at h2
  simp only [o40n, hx, h2]; rw [if_pos (by omega), Int.toNat_natCast]
theorem rem_iN {a b : Nat} (hb : 0 < b) : arI .rem .i64 (a : Int) (b : Int) = some (.int .i64 ((a % b : Nat) : Int)) := XJ hb
theorem a40n (P : Program) (T : Nat → Option CFn) (hT : T 40 = some c40) (x : Za) (bs : List Nat) (hx : Zn x = some (bs.map r1u)) (hb : ∀ b ∈ bs, b < 256) (i : Nat) : Zr P T 40 [x, I (i : Nat)] [] fun v h => frz true h 5 v = some (I (byteV bs i : Nat)) := by
 have lx := ZD hx
 rw [List.length_map] at lx
 have rx := fun n d => ZH hx n d
 have fx := fun H d => ZB hx H d
 obtain ⟨cx1, cx2⟩ := ZI hx
 refine Zm hT (Zq rfl) ?_
 simp only [oo, om, op, og, ci, cl, c40]
 refine zS ?_
 refine zR (zO (by simp [lx, -Zb]; rfl) ?_)
 simp only [zT, zB]
 refine zS ?_
 refine zS ?_
 refine zR (zO (by simp [lx, -Zb]; rfl) ?_)
 simp only [zT, zB]
 by_cases hb0 : bs = []
 ·subst hb0
  rw [show byteV [] i = 0 from rfl]
  refine Zh (x := true) (by simp [lx, -Zb]) ?_
  refine zS ?_
  refine zR (zO (by simp [lx, -Zb]; rfl) ?_)
  simp only [zT, zB]
  refine Ze ?_
  simp [lx, -Zb]
 ·have hbp : 0 < bs.length := List.length_pos_iff.2 hb0
  have hbn : ¬ bs.length = 0 := by omega
  obtain ⟨t1, rfl⟩ := ZE hx (k := i % bs.length) (by rw [List.length_map]; exact Nat.mod_lt _ hbp)
  have hr := rem_iN (a := i) (b := bs.length) hbp
  have hj : i % bs.length < bs.length := Nat.mod_lt _ hbp
  have hv : byteV bs i = bs[i % bs.length] := by unfold byteV; simp [List.getD, List.getElem?_eq_getElem hj]
  have g1 : (bs.map r1u)[i % bs.length]? = some (r1u bs[i % bs.length]) := by rw [List.getElem?_map, List.getElem?_eq_getElem hj]; rfl
  have g2 : ∀ h, (bs.map r1u)[i % bs.length]'h = r1u bs[i % bs.length] := fun h => by simp
  have hbb := hb _ (List.getElem_mem hj)
  rw [hv]
  generalize bs[i % bs.length] = c at *
  generalize i % bs.length = j at *
  have hwc : W .i64 (c : Int) = c := W_i (by omega)
  have hbi : ((bs.length : Int) == 0) = false := by simp; omega
  refine Zh (x := false) (by simp [lx, -Zb, hbn, hbi, ↓hr, g1, g2, hj, r1u, hwc, -List.getElem?_map, -List.getElem_map]) ?_
  have HH1 := zA lx (zA hbn (zA hbi (zA g1 (zA g2 (zA hj hwc)))))
  refine zK ?_
  simp only [zT, zB]
  refine zS ?_
  refine zR (zO (by simp [-Zb, ↓hr, r1u, -List.getElem?_map, -List.getElem_map, HH1]; rfl) ?_)
  simp only [zT, zB]
  refine Ze ?_
  simp [-Zb, ↓hr, r1u, -List.getElem?_map, -List.getElem_map, HH1]
def DZ4 : Nat → Option CFn := upd DZ1 40 true (o40n)
theorem DZ4_ok : Zz Tryd.prog GG DZ4 := ZO Zj DZ1_ok fun args v ho => by
  unfold o40n at ho; split at ho <;> (try simp only [reduceCtorEq] at ho)
  rename_i x i
  split at ho <;> (try simp only [reduceCtorEq] at ho)
  rename_i rs hx
  split at ho <;> (try simp only [reduceCtorEq] at ho)
  rename_i bs hbs
  split at ho <;> (try simp only [reduceCtorEq] at ho)
  rename_i hg
  simp only [Option.some.injEq] at ho
  subst ho
  obtain ⟨n, rfl⟩ : ∃ n : Nat, i = n := ⟨i.toNat, by omega⟩
  rw [Int.toNat_natCast]
  exact a40n Tryd.prog DZ1 rfl x bs (by rw [hx, YA (enc := r1u) dB1_eq hbs]) (dB1_bd hbs) n
end
end
end Go.Proofs.YtpebmjeomlgmdaaDoor.Tab
namespace Go.Proofs.YtpebmjeomlgmdaaDoor.Tab
open Go Go.Abs Go.Proofs
set_option linter.unusedSimpArgs false
set_option linter.unusedVariables false
theorem depE_zero {u d : Int} {its : List It5} {rs : List Rm3} (hr : ruleB u d = true) (h1 : its.length ≤ 7) (h2 : rs.length ≤ 4) (h3 : ∀ x ∈ its, itB x = true) (h4 : ∀ r ∈ rs, rmB r = true) : depE u d its rs = 0 := by
  unfold depE
  have a1 : (its.any fun x => !itB x) = false := by rw [List.any_eq_false]; intro x hx; simp [h3 x hx]
  have a2 : (rs.any fun x => !rmB x) = false := by rw [List.any_eq_false]; intro x hx; simp [h4 x hx]
  have a3 : decide (7 < (its.length : Int)) = false := by simp; omega
  have a4 : decide (4 < (rs.length : Int)) = false := by simp; omega
  rw [hr, a1, a2, a3, a4]; rfl
theorem deIt_ok {v : R4} (h : R4Ok v) : itB (deIt v) = true := by
  obtain ⟨a, b, c, d⟩ := v
  obtain ⟨h1, h2, h3, h4⟩ := h
  simp only at h1 h2 h3 h4
  have e1 : a % 100 < 100 := Nat.mod_lt _ (by decide)
  have e2 : b % 60 < 60 := Nat.mod_lt _ (by decide)
  have e3 : c % 60 < 60 := Nat.mod_lt _ (by decide)
  have e4 : d % 30 < 30 := Nat.mod_lt _ (by decide)
  unfold itB deIt YX wB
  simp only
  generalize a % 100 = A at *
  generalize b % 60 = B at *
  generalize c % 60 = C at *
  generalize d % 30 = D at *
  simp only [List.all_cons, List.all_nil, Bool.and_true, Bool.and_eq_true, decide_eq_true_eq]
  omega
theorem deRm_ok {v : Nat × Nat × Nat} (h : R3Ok v) : rmB (YM v) = true ∧ 0 ≤ (YM v).2.2 ∧ (YM v).2.2 ≤ 3 ∧ YX (YM v).1 (YM v).2.1 = true := by
  obtain ⟨a, b, c⟩ := v
  obtain ⟨h1, h2, h3⟩ := h
  simp only at h1 h2 h3
  have e1 : a % 130 < 130 := Nat.mod_lt _ (by decide)
  have e2 : b % 20 < 20 := Nat.mod_lt _ (by decide)
  have e3 : c % 4 < 4 := Nat.mod_lt _ (by decide)
  unfold rmB YM YX wB
  simp only
  generalize a % 130 = A at *
  generalize b % 20 = B at *
  generalize c % 4 = C at *
  simp only [List.all_cons, List.all_nil, Bool.and_true, Bool.and_eq_true, decide_eq_true_eq]
  omega
theorem rule_ok (a b : Nat) : ruleB ((a % 21 : Nat) : Int) ((b % 21 : Nat) : Int) = true := by
  have e1 : a % 21 < 21 := Nat.mod_lt _ (by decide)
  have e2 : b % 21 < 21 := Nat.mod_lt _ (by decide)
  unfold ruleB wB
  simp only [List.all_cons, List.all_nil, Bool.and_true, Bool.and_eq_true, decide_eq_true_eq]
  omega
structure DepOk (u d : Int) (its : List It5) (rs : List Rm3) : Prop where
  rule : ruleB u d = true
  len : its.length ≤ 6
  lenR : rs.length ≤ 4
  it : ∀ x ∈ its, itB x = true
  rm : ∀ r ∈ rs, rmB r = true ∧ 0 ≤ r.2.2 ∧ r.2.2 ≤ 3 ∧ YX r.1 r.2.1 = true
theorem depOk_of {xs : List R4} {ys : List (Nat × Nat × Nat)} (hbx : ∀ v ∈ xs, R4Ok v) (hby : ∀ v ∈ ys, R3Ok v) (a b : Nat) : DepOk ((a % 21 : Nat) : Int) ((b % 21 : Nat) : Int) ((xs.take 6).map deIt) ((ys.take 4).map YM) where
  rule := rule_ok a b
  len := by rw [List.length_map, List.length_take]; omega
  lenR := by rw [List.length_map, List.length_take]; omega
  it x hx := by
    obtain ⟨v, hv, rfl⟩ := List.mem_map.1 hx
    exact deIt_ok (hbx v (List.mem_of_mem_take hv))
  rm r hr := by
    obtain ⟨v, hv, rfl⟩ := List.mem_map.1 hr
    exact deRm_ok (hby v (List.mem_of_mem_take hv))
section
variable {u d : Int} {its : List It5} {rs : List Rm3}
theorem DepOk.zero (h : DepOk u d its rs) : depE u d its rs = 0 := depE_zero h.rule (by have := h.len; omega) h.lenR h.it fun r hr => (h.rm r hr).1
def bump (r : Rm3) : Rm3 := (r.1, r.2.1, r.2.2 + 1)
theorem DepOk.more (h : DepOk u d its rs) : depE u d its (rs.map bump) = 0 := by
  refine depE_zero h.rule (by have := h.len; omega) (by rw [List.length_map]; exact h.lenR) h.it fun r hr => ?_
  obtain ⟨x, hx, rfl⟩ := List.mem_map.1 hr
  obtain ⟨_, h2, h3, h4⟩ := h.rm x hx
  unfold rmB bump
  simp only
  rw [h4, Bool.true_and]
  unfold wB
  simp only [List.all_cons, List.all_nil, Bool.and_true, Bool.and_eq_true, decide_eq_true_eq]
  omega
theorem DepOk.sub (h : DepOk u d its rs) {js : List It5} (hl : js.length ≤ 7) (hs : ∀ x ∈ js, x ∈ its) : depE u d js rs = 0 :=
  depE_zero h.rule hl h.lenR (fun x hx => h.it x (hs x hx)) fun r hr => (h.rm r hr).1
theorem mayK_bump (u d : Int) (x : It5) (rs : List Rm3) : ∀ k, k ≤ rs.length → mayK u d x (rs.map bump) k = mayK u d x rs k
  | 0, _ => rfl
  | k + 1, h => by
    have e : mayB u d x ((rs.map bump).getD k (0, 0, 0)) = mayB u d x (rs.getD k (0, 0, 0)) := by
      have hk : k < rs.length := by omega
      simp [List.getD, List.getElem?_eq_getElem hk, mayB, bump]
    simp only [mayK, e, mayK_bump u d x rs k (by omega)]
theorem mays_bump (u d : Int) (its : List It5) (rs : List Rm3) : Xm u d its (rs.map bump) = Xm u d its rs := by
  unfold Xm mayF
  refine List.map_congr_left fun x _ => ?_
  rw [List.length_map, mayK_bump u d x rs rs.length (Nat.le_refl _)]
theorem mays_sub (u d : Int) (its : List It5) (rs : List Rm3) {l : List Nat} (hl : ∀ i ∈ l, i < its.length) : Xm u d (l.map fun i => its.getD i (0, 0, 0, 0, 0)) rs = l.map fun i => (Xm u d its rs).getD i 0 := by
  unfold Xm
  rw [List.map_map]
  refine List.map_congr_left fun i hi => ?_
  have := mays_get (u := u) (d := d) (rs := rs) (hl i hi)
  unfold Xm at this
  rw [this]; rfl
abbrev plOf (rs : List Rm3) : List Int := rs.map fun r : Rm3 => r.2.2
theorem DepOk.pl (h : DepOk u d its rs) : ∀ x ∈ plOf rs, 0 ≤ x ∧ x ≤ 1000 := by
  intro x hx
  obtain ⟨r, hr, rfl⟩ := List.mem_map.1 hx
  have := h.rm r hr; omega
theorem pl_more (rs : List Rm3) (k : Nat) : (plOf rs).getD k 0 ≤ (plOf (rs.map bump)).getD k 0 := by
  unfold plOf
  rw [List.map_map, List.getD_eq_getElem?_getD, List.getD_eq_getElem?_getD, List.getElem?_map, List.getElem?_map]
  cases rs[k]? with
  | none => exact Int.le_refl _
  | some r => simp [bump]; omega
theorem case_fits (h : DepOk u d its rs) (hf : YE (Xm u d its rs) (2 ^ its.length - 1) (plOf rs) = true) :
    (XH (Xm u d its rs) its.length its.length (plOf rs)).length = its.length ∧ (∀ z ∈ XH (Xm u d its rs) its.length its.length (plOf rs), z < rs.length) ∧ fitsL u d its rs (XH (Xm u d its rs) its.length its.length (plOf rs)) = true ∧
    bestA (Xm u d its rs) (plOf rs) (2 ^ its.length) = none ∧ (∀ O : List Nat, O.length = its.length → (∀ z ∈ O, z < rs.length) → fitsL u d its rs O = true → ¬ O < XH (Xm u d its rs) its.length its.length (plOf rs)) ∧
    YE (Xm u d its (rs.map bump)) (2 ^ its.length - 1) (plOf (rs.map bump)) = true ∧ (rs.length = 0 → its.length = 0) := by
  have hn : its.length ≤ 10 := by have := h.len; omega
  have hr4 := h.lenR
  have hp : (plOf rs).length = rs.length := by simp [plOf]
  have hp10 : (plOf rs).length ≤ 10 := by omega
  have hms := mays_lt u d its rs
  rw [← hp] at hms
  obtain ⟨h1, h2, h3⟩ := store_least hn its.length 0 (plOf rs) (by omega) hp10 hms h.pl hf
  have hz : ∀ (r : List Nat) (k : Nat) (p : List Int), p.length = rs.length → OkA (Xm u d its rs) k p r → ∀ z ∈ r, z < rs.length := by
    intro r
    induction r with
    | nil => intro k p _ _ z hz; simp at hz
    | cons y t ih =>
      intro k p hpl hok z hz
      obtain ⟨a1, a2, a3⟩ := hok
      have hy : y < rs.length := XF (by rw [hp] at hms; exact ms_lt hms k) a1
      rcases List.mem_cons.1 hz with rfl | hz
      · exact hy
      · exact ih (k + 1) (XI p y) (by rw [XE]; exact hpl) a3 z hz
  have hzz := hz _ 0 (plOf rs) hp h2
  refine ⟨h1, hzz, (fitsL_ok (by omega) (by omega) hzz).2 h2, ?_, fun O hO hOz hOf => h3 O hO ((fitsL_ok (by omega) (by omega) hOz).1 hOf), ?_, fun hr0 => ?_⟩
  · cases hb : bestA (Xm u d its rs) (plOf rs) (2 ^ its.length) with
    | none => rfl
    | some b =>
      obtain ⟨b1, b2, _⟩ := bestA_some _ _ hb
      rw [fits_sub hn b1 hf] at b2; simp at b2
  · rw [mays_bump]
    exact fits_more (by simp [plOf]) (pl_more rs) hf
  · have hpl0 : plOf rs = [] := List.length_eq_zero_iff.1 (by omega)
    rw [hpl0] at hf
    refine fits_none hn (fun i hi => ?_) hf
    have := mays_get (u := u) (d := d) (rs := rs) hi
    rw [this]
    show mayK u d _ rs rs.length = 0
    rw [hr0]; rfl
theorem case_not (h : DepOk u d its rs) (hf : YE (Xm u d its rs) (2 ^ its.length - 1) (plOf rs) = false) :
    (∃ b, bestA (Xm u d its rs) (plOf rs) (2 ^ its.length) = some b ∧ b < 2 ^ its.length ∧ b ≠ 0) ∧ (∀ O : List Nat, O.length = its.length → (∀ z ∈ O, z < rs.length) → fitsL u d its rs O = false) ∧ its.length ≠ 0 := by
  have hn : its.length ≤ 10 := by have := h.len; omega
  have hr4 := h.lenR
  have hp : (plOf rs).length = rs.length := by simp [plOf]
  have hms := mays_lt u d its rs
  rw [← hp] at hms
  have h2p := Nat.two_pow_pos its.length
  refine ⟨?_, fun O hO hOz => ?_, fun h0 => ?_⟩
  · cases hb : bestA (Xm u d its rs) (plOf rs) (2 ^ its.length) with
    | none => have := bestA_none _ hb (2 ^ its.length - 1) (by omega); rw [hf] at this; simp at this
    | some b =>
      obtain ⟨b1, b2, _⟩ := bestA_lt h.pl _ _ hb
      exact ⟨b, rfl, b1, b2⟩
  · cases hb : fitsL u d its rs O with
    | false => rfl
    | true =>
      have := ok_fits hn O 0 (plOf rs) (by omega) (by omega) hms h.pl ((fitsL_ok (by omega) (by omega) hOz).1 hb)
      rw [show YY its.length 0 = 2 ^ its.length - 1 from rfl, hf] at this; simp at this
  · rw [h0] at hf
    rw [show 2 ^ 0 - 1 = 0 from rfl, fits_zero h.pl] at hf; simp at hf
end
end Go.Proofs.YtpebmjeomlgmdaaDoor.Tab
namespace Go.Proofs.YtpebmjeomlgmdaaDoor.Tab
open Go Go.Abs Go.Proofs
set_option maxRecDepth 100000
set_option maxHeartbeats 4000000
set_option linter.unusedSimpArgs false
set_option linter.unusedVariables false
section
attribute [local simp] YF Yn Xy Xz YL YG XA YK Xe Yx Zf orcF Xs YT Xu Xq YS Yv rb_vl rb_pv Xo YR YQ YP Xt Xp Xr rb_sl rb_fn slE XZ Xj Ym ZN XC List.range_succ List.range_zero List.range'_succ List.range'_zero Yd Yb ZC Yf ZP ZU Xl Yh dop CV.ev Yp Zx ZK Xb fI_eq Yq Ya ZJ Zy Out.v XG List.replicate_succ zT zB arI ZL Abs.rowAt XB allV toV toC ofV ofC Builtin.min_ Builtin.min2 Builtin.max_ Builtin.max2 Xv Xw resA tupA Xx Yc Ys Yt Yr Zb
section
attribute [local simp] Ye ZR YW YN actD Xn disj YZ holes Xa ZW Xd news eqB Xh eqA YJ Xi toCs ofCs stA Yu ZS Yy dI1 dI2 dI3 dI5 elt
attribute [local simp] st_any st_und st_agg st_tup XR st_int XO st_ref st_pv XN st_sl st_vl XP st_mp st_fn XQ st_yld co_any co_und co_agg co_tup XW co_int XT co_ref co_pv XS co_sl co_vl XU co_mp co_fn XV co_yld
attribute [local simp] backB backB1 Yz Zs freshE lim lop YC okA okBlk plainA posOf putH setH
def zA8 (l : List Za) : List Za := .any :: .any :: .any :: .any :: .any :: .any :: .any :: .any :: l
def zA32 (l : List Za) : List Za := zA8 (zA8 (zA8 (zA8 l)))
def zA128 (l : List Za) : List Za := zA32 (zA32 (zA32 (zA32 l)))
attribute [local simp] zA8 zA32 zA128
structure zBx (a : Prop) : Prop where (o : a)
theorem zQ9 {a b : Prop} (h : zBx a → b) (x : a) : b := h ⟨x⟩
def otherL (bs : List Nat) (m k : Nat) : List Nat := (List.range k).map fun i => byteV bs i % m
theorem otherL_succ (bs : List Nat) (m k : Nat) : otherL bs m (k + 1) = otherL bs m k ++ [byteV bs k % m] := by
  unfold otherL; rw [List.range_succ, List.map_append]; rfl
theorem otherL_mem {bs : List Nat} {m k : Nat} (hm : 0 < m) : ∀ z ∈ otherL bs m k, z < m := by
  intro z hz
  obtain ⟨i, _, rfl⟩ := List.mem_map.1 hz
  exact Nat.mod_lt _ hm
def bumpK (rs : List Rm3) (k : Nat) : List Rm3 := (rs.take k).map bump ++ rs.drop k
theorem bumpK_len (rs : List Rm3) (k : Nat) (h : k ≤ rs.length) : (bumpK rs k).length = rs.length := by simp [bumpK]; omega
theorem bumpK_get {rs : List Rm3} {k : Nat} (h : k < rs.length) : (bumpK rs k)[k]? = some rs[k] := by
  unfold bumpK
  rw [List.getElem?_append_right (by simp; omega)]
  simp [List.getElem?_drop, Nat.min_eq_left (Nat.le_of_lt h), List.getElem?_eq_getElem h]
theorem bumpK_set {rs : List Rm3} {k : Nat} (h : k < rs.length) : (bumpK rs k).set k (bump rs[k]) = bumpK rs (k + 1) := by
  unfold bumpK
  rw [List.set_append_right _ _ (by simp; omega), List.take_succ_eq_append_getElem h, List.drop_eq_getElem_cons h, List.map_append]
  rw [List.length_map, List.length_take, Nat.min_eq_left (Nat.le_of_lt h), Nat.sub_self, List.set_cons_zero, List.append_assoc]; rfl
theorem renB_rM3 (K : List Nat) (H : Zg) (d : Nat) (l : List Rm3) : Zf (Zf (YV K H (d + 1))) (l.map rM3) = some (l.map rM3) := ZQ _ fun r hr => ZQ _ fun x hx => by
  obtain ⟨y, _, rfl⟩ := List.mem_map.1 hr
  simp only [rM3, List.mem_cons, List.not_mem_nil, or_false] at hx
  rcases hx with rfl | rfl | rfl <;> rfl
theorem renB_rI5 (K : List Nat) (H : Zg) (d : Nat) (l : List It5) : Zf (Zf (YV K H (d + 1))) (l.map rI5) = some (l.map rI5) := ZQ _ fun r hr => ZQ _ fun x hx => by
  obtain ⟨y, _, rfl⟩ := List.mem_map.1 hr
  simp only [rI5, List.mem_cons, List.not_mem_nil, or_false] at hx
  rcases hx with rfl | rfl | rfl | rfl | rfl <;> rfl
def itG (its : List It5) (i : Nat) : It5 := its.getD i (0, 0, 0, 0, 0)
theorem a9A (T T2 : Nat → Option CFn) (hTb : Zz Tryd.prog GG T) (hTb2 : Zz Tryd.prog GG T2) (h46x : T2 46 = some { c46 with frsh := false, orc := fun _ => none, eff := freshE true sRooms }) (hT : T 9 = some c9) (h12 : T 12 = some { c12 with frsh := true, orc := o12 }) (h40 : T 40 = some { c40 with frsh := true, orc := o40n }) (h43 : T 43 = some { c43 with body := annK [(114, [.slot 4]), (306, [.slot 5])] [] c43.body, frsh := false, orc := o43 }) (h44 : T 44 = some { c44 with frsh := false, orc := o44 }) (h45 : T 45 = some { c45 with frsh := false, orc := o45 }) (h46 : T 46 = some { c46 with frsh := false, orc := o46 }) (h47 : T 47 = some { c47 with frsh := false, orc := o47 }) (h48 : T 48 = some { c48 with frsh := true, orc := o48 }) (h49 : T 49 = some { c49 with frsh := true, orc := o49 }) (x y mx : Za) (xs : List R4) (ys : List (Nat × Nat × Nat)) (bs : List Nat) (hx : Zn x = some (xs.map r4)) (hy : Zn y = some (ys.map r3u)) (hz : Zn mx = some (bs.map r1u)) (hbx : ∀ v ∈ xs, R4Ok v) (hby : ∀ v ∈ ys, R3Ok v) (hbz : ∀ v ∈ bs, v < 256) (a b : Nat) (ha : a < 256) (hb : b < 256) (hf : YE (Xm ((a % 21 : Nat) : Int) ((b % 21 : Nat) : Int) ((xs.take 6).map deIt) ((ys.take 4).map YM)) (2 ^ ((xs.take 6).map deIt).length - 1) (plOf ((ys.take 4).map YM)) = true) : CAns Tryd.prog GG 9 [.agg [x, y], .agg [.int .u8 (a : Nat), .int .u8 (b : Nat)], mx] [] fun v h => v = .bool true := by
 have lz := ZD hz
 rw [List.length_map] at lz
 have rz := fun n d => ZH hz n d
 have fz := fun H d => ZB hz H d
 obtain ⟨cz1, cz2⟩ := ZI hz
 have hd0 := depOk_of hbx hby a b
 have e43 := o43_eq hx hy hbx hby
 unfold depoV at e43
 have wa : W .i64 (a : Int) = a := W_i (by omega)
 have wb : W .i64 (b : Int) = b := W_i (by omega)
 have ra : arI .rem .i64 (a : Int) 21 = some (.int .i64 ((a % 21 : Nat) : Int)) := XJ (b := 21) (by decide)
 have rb_ : arI .rem .i64 (b : Int) 21 = some (.int .i64 ((b % 21 : Nat) : Int)) := XJ (b := 21) (by decide)
 have rx0 := fun n d => ZH hx n d
 have ry0 := fun n d => ZH hy n d
 generalize ((a % 21 : Nat) : Int) = u at *
 generalize ((b % 21 : Nat) : Int) = d at *
 generalize (xs.take 6).map deIt = its at *
 generalize (ys.take 4).map YM = rs at *
 have hE := hd0.zero
 have hn6 := hd0.len
 have hm4 := hd0.lenR
 have hxr : Zn (.vl (its.map rI5) its.isEmpty) = some (its.map rI5) := rfl
 have hyr : Zn (.vl (rs.map rM3) rs.isEmpty) = some (rs.map rM3) := rfl
 have hll : its.length ≤ 1000 ∧ rs.length ≤ 1000 := by omega
 have e45 := o45_eq hxr (by omega)
 have e46 := o46_eq hyr (by omega)
 have s46 : ∀ t, sRooms [.vl (rs.map rM3) t] = some (.sl 0 0 rs.length false, [some (.row 3 (rs.map rM3))]) := fun t => by
  have h := XL (d := dM3) (enc := rM3) (fun _ => rfl) rs
  simp only [sRooms, h]; rw [if_pos (by omega)]
 have s46 := s46 rs.isEmpty
 have hokb : okBlk true (some (Blk.row 3 (rs.map rM3))) = true := by simp [rM3]
 have e44 : ∀ t, o44 [.agg [I u, I d], .vl (its.map rI5) its.isEmpty, .vl (rs.map rM3) t] = some (storeV u d its rs) := fun t => o44_eq hxr rfl hll u d
 have e47 : ∀ t, o47 [.agg [I u, I d], .vl (its.map rI5) its.isEmpty, .vl (rs.map rM3) t] = some (againstV u d its rs) := fun t => o47_eq hxr rfl hll u d
 have e48 : ∀ (v : Za) (l : List Nat), dNs v = some l → l.length ≤ its.length → (∀ z ∈ l, z < rs.length) → o48 [.agg [I u, I d], .vl (its.map rI5) its.isEmpty, .vl (rs.map rM3) rs.isEmpty, v] = some (.bool (fitsL u d its rs l)) := fun v l hv h1 h2 => o48_eq hxr hyr hv ⟨h1, h2, hE⟩
 have e44m : ∀ t, o44 [.agg [I u, I d], .vl (its.map rI5) its.isEmpty, .vl ((rs.map bump).map rM3) t] = some (storeV u d its (rs.map bump)) := fun t => o44_eq hxr rfl ⟨hll.1, by rw [List.length_map]; exact hll.2⟩ u d
 have e44s : ∀ (v : Za) (js : List It5) t, Zn v = some (js.map rI5) → js.length ≤ 7 → (∀ x ∈ js, x ∈ its) → o44 [.agg [I u, I d], v, .vl (rs.map rM3) t] = some (if YE (Xm u d js rs) (2 ^ js.length - 1) (plOf rs) = true then .tup [encL (XH (Xm u d js rs) js.length js.length (plOf rs)), I 0] else .tup [.nils, I 9]) := fun v js t hv h1 h2 => by
  rw [o44_eq hv (y := .vl (rs.map rM3) t) rfl ⟨by omega, hll.2⟩ u d]
  unfold storeV
  rw [if_pos (hd0.sub h1 h2)]
 unfold storeV at e44 e44m
 unfold againstV at e47
 rw [if_pos hd0.more] at e44m
 rw [if_pos hE] at e44 e47
 have ixr : ∀ i (h : i < its.length), (its.map rI5)[i]? = some (rI5 its[i]) := fun i h => by rw [List.getElem?_map, List.getElem?_eq_getElem h]; rfl
 have e44 := e44 rs.isEmpty
 have e47 := e47 rs.isEmpty
 have e44s := fun v js h1 h2 h3 => e44s v js rs.isEmpty h1 h2 h3
 generalize Za.vl (its.map rI5) its.isEmpty = xv at *
 generalize Za.vl (rs.map rM3) rs.isEmpty = yv at *
 have lx := ZD hxr
 rw [List.length_map] at lx
 have rx := fun n d => ZH hxr n d
 have fx := fun H d => ZB hxr H d
 obtain ⟨cx1, cx2⟩ := ZI hxr
 have ly := ZD hyr
 rw [List.length_map] at ly
 have ry := fun n d => ZH hyr n d
 have fy := fun H d => ZB hyr H d
 obtain ⟨cy1, cy2⟩ := ZI hyr
 have tkR : (rs.map rM3).take rs.length = rs.map rM3 := List.take_of_length_le (by simp)
 have hfzR := fun H d => frz_rM3 H d rs
 have hrbR := fun n d => rM3_rb n d rs
 have nzv : ∀ K H, YV K H 5 mx = some mx := fun K H => renV_flat K H 5 mx (rz 0 4)
 have nxv : ∀ K H, YV K H 5 xv = some xv := fun K H => renV_flat K H 5 xv (rx 0 4)
 have nyv : ∀ K H, YV K H 5 yv = some yv := fun K H => renV_flat K H 5 yv (ry 0 4)
 obtain ⟨n, hn⟩ : ∃ n, n = its.length := ⟨_, rfl⟩
 obtain ⟨m, hm⟩ : ∃ m, m = rs.length := ⟨_, rfl⟩
 obtain ⟨N, hN⟩ : ∃ N : Int, (n : Int) = N := ⟨_, rfl⟩
 rw [← hn] at lx
 rw [← hm] at ly s46 tkR
 have hmr : m ≤ rs.length := by omega
 refine cans_of hTb hT ?_
 simp only [oo, om, op, og, ci, cl, c9]
 obtain ⟨hGl, hGz, hGf, hAn, hGl2, hMo, hrn0⟩ := case_fits hd0 hf
 have hfm := hf
 rw [if_pos hf] at e44
 have hplm : plOf (rs.map bump) = (rs.map bump).map fun r : Rm3 => r.2.2 := rfl
 rw [if_pos hMo] at e44m
 rw [hAn] at e47
 unfold agV at e47
 have hGr := encL_rows (XH (Xm u d its rs) its.length its.length (plOf rs))
 have hGd : dNs (encL (XH (Xm u d its rs) its.length its.length (plOf rs))) = some (XH (Xm u d its rs) its.length its.length (plOf rs)) := dNs_of hGr fun z hz => by have := hGz z hz; omega
 have e48g := e48 _ _ hGd (by omega) hGz
 rw [hGf] at e48g
 generalize encL (XH (Xm u d its (rs.map bump)) its.length its.length (plOf (rs.map bump))) = gm at *
 generalize XH (Xm u d its rs) its.length its.length (plOf rs) = G at *
 have lg := ZD hGr
 rw [List.length_map] at lg
 have rg := fun n d => ZH hGr n d
 have fg := fun H d => ZB hGr H d
 obtain ⟨cg1, cg2⟩ := ZI hGr
 rw [hGl, ← hn] at lg
 generalize encL G = gv at *
 have ngv : ∀ K H, YV K H 5 gv = some gv := fun K H => renV_flat K H 5 gv (rg 0 4)
 have HH1 := zA h12 (zA h40 (zA h43 (zA h44 (zA h45 (zA h46 (zA h47 (zA h48 (zA h49 (zA e43 (zA wa (zA wb (zA e45 (zA e46 (zA lz (zA rz (zA fz (zA cz1 (zA cz2 (zA lx (zA rx (zA fx (zA cx1 (zA cx2 (zA ly (zA ry (zA fy (zA cy1 (zA cy2 (zA rx0 (zA ry0 (zA tkR (zA hmr (zA hN (zA e44 (zA e47 (zA e48g (zA lg (zA rg (zA fg (zA cg1 (zA cg2 ngv)))))))))))))))))))))))))))))))))))))))))
 refine Zc ?_
 refine Zd Zj hTb (zR (zO (by simp [zC h12, zC h40, zC h43, zC h44, zC h45, zC h46, zC h47, zC h48, zC h49, o12, trim, -Zb, ↓ra, ↓rb_, ↓hfzR, ↓hrbR, HH1]; rfl) ?_))
 simp only [zT, zB]
 refine Zc ?_
 refine Zd Zj hTb (zR (zO (by simp [zC h12, zC h40, zC h43, zC h44, zC h45, zC h46, zC h47, zC h48, zC h49, o12, trim, -Zb, ↓ra, ↓rb_, ↓hfzR, ↓hrbR, HH1]; rfl) ?_))
 simp only [zT, zB]
 refine Zc ?_
 refine Zd Zj hTb (zR (zO (by simp [zC h12, zC h40, zC h43, zC h44, zC h45, zC h46, zC h47, zC h48, zC h49, o12, trim, -Zb, ↓ra, ↓rb_, ↓hfzR, ↓hrbR, HH1]; rfl) ?_))
 simp only [zT, zB]
 refine Zc ?_
 refine Zd Zj hTb (Zw (by simp (maxSteps := 3000000) [zC h12, zC h40, zC h43, zC h44, zC h45, zC h46, zC h47, zC h48, zC h49, o12, trim, -Zb, ↓ra, ↓rb_, ↓hfzR, ↓hrbR, HH1]; rfl) ?_)
 simp only [zT, zB]
 refine Zc ?_
 refine Zd Zj hTb (Zw (by simp (maxSteps := 3000000) [zC h12, zC h40, zC h43, zC h44, zC h45, zC h46, zC h47, zC h48, zC h49, o12, trim, -Zb, ↓ra, ↓rb_, ↓hfzR, ↓hrbR, HH1]; rfl) ?_)
 simp only [zT, zB]
 refine Yk (ZY 16260 [2] (by decide) (by simp) rfl (by simp [zr, ZX, ZV, Zu, zC h12, zC h40, zC h43, zC h44, zC h45, zC h46, zC h47, zC h48, zC h49, o12, trim, -Zb, ↓ra, ↓rb_, ↓hfzR, ↓hrbR, HH1, nzv, nxv, nyv] <;> rfl) (by simp [zr, ZX, ZV, Zu, zC h12, zC h40, zC h43, zC h44, zC h45, zC h46, zC h47, zC h48, zC h49, o12, trim, -Zb, ↓ra, ↓rb_, ↓hfzR, ↓hrbR, HH1, nzv, nxv, nyv] <;> rfl)) ?_
 refine Zc ?_
 refine Zc ?_
 refine Zd Zj hTb (zR (zO (by simp [zC h12, zC h40, zC h43, zC h44, zC h45, zC h46, zC h47, zC h48, zC h49, o12, trim, -Zb, ↓ra, ↓rb_, ↓hfzR, ↓hrbR, HH1, nzv, nxv, nyv]; rfl) ?_))
 simp only [zT, zB]
 refine Zo (x := false) (by simp) ?_
 apply zQ9
 ·intro pA
  refine ZF ?_
  simp only [zT, zB]
  refine Zc ?_
  refine Zd Zj hTb (zR (zO (by simp [zC h12, zC h40, zC h43, zC h44, zC h45, zC h46, zC h47, zC h48, zC h49, o12, trim, -Zb, ↓ra, ↓rb_, ↓hfzR, ↓hrbR, HH1, nzv, nxv, nyv]; rfl) ?_))
  simp only [zT, zB]
  refine Zc ?_
  refine Zc ?_
  refine Zd Zj hTb (zR (zO (by simp [zC h12, zC h40, zC h43, zC h44, zC h45, zC h46, zC h47, zC h48, zC h49, o12, trim, -Zb, ↓ra, ↓rb_, ↓hfzR, ↓hrbR, HH1, nzv, nxv, nyv]; rfl) ?_))
  simp only [zT, zB]
  refine Yo ?_
  refine cruns_loop (k := n - 0) (fun mm σ => ∃ (k : Nat) (i : Int), i = k ∧ n - k = mm ∧ k ≤ n ∧ (m = 0 → k = 0) ∧ ((k = 0 ∧ σ = ⟨(.any :: .any :: mx :: .any :: .any :: .any :: .any :: .ref 0 0 0 :: xv :: yv :: gv :: I 0 :: .nils :: .any :: .sl 1 0 0 true :: I i :: zA128 (zA32 (zA32 (zA8 (zA8 (zA8 ([.any, .any, .any, .any, .any]))))))), [some (.row 2 [[I u, I d]]), some (.row 1 [])]⟩) ∨ (∃ (pp : Nat) (ac : List Nat), k = pp + 1 ∧ ac = otherL bs m k ∧ ac.length = pp + 1 ∧ σ = ⟨(.any :: .any :: mx :: .any :: .any :: .any :: .any :: .ref 0 0 0 :: xv :: yv :: gv :: I 0 :: .nils :: .any :: .sl 1 0 (pp + 1) false :: I i :: zA128 (zA32 (zA32 (zA8 (zA8 (zA8 ([.any, .any, .any, .any, .any]))))))), [some (.row 2 [[I u, I d]]), some (.row 1 (ac.map rN))]⟩))) ⟨_, ZY 57220 [0, 1] (by decide) (by simp) rfl (by simp [zr, ZX, ZV, Zu, zC h12, zC h40, zC h43, zC h44, zC h45, zC h46, zC h47, zC h48, zC h49, o12, trim, -Zb, ↓ra, ↓rb_, ↓hfzR, ↓hrbR, HH1, nzv, nxv, nyv] <;> rfl) (by simp [zr, ZX, ZV, Zu, zC h12, zC h40, zC h43, zC h44, zC h45, zC h46, zC h47, zC h48, zC h49, o12, trim, -Zb, ↓ra, ↓rb_, ↓hfzR, ↓hrbR, HH1, nzv, nxv, nyv] <;> rfl), 0, 0, rfl, rfl, Nat.zero_le _, (fun _ => rfl), .inl ⟨rfl, by simp⟩⟩ ?_
  rintro mm σ ⟨k, i, hik, rfl, hkn, hm0, hcase⟩
  rcases hcase with ⟨hk0, rfl⟩ | ⟨pp, ac, hkp, hac, hacl, rfl⟩
  ·have lsl : Zb (.sl 1 0 0 true) = some 0 := rfl
   by_cases h1 : i < N
   ·rcases Nat.eq_zero_or_pos m with h2 | h2
    ·have h3 : ¬ (0 : Int) < (m : Int) := fun h => by omega
     have HH2 := zA nzv (zA nxv (zA nyv (zA lsl (zA h1 h3))))
     refine Zc ?_
     refine Zc ?_
     refine Zd Zj hTb (zR (zO (by simp [zC h12, zC h40, zC h43, zC h44, zC h45, zC h46, zC h47, zC h48, zC h49, o12, trim, -Zb, ↓ra, ↓rb_, ↓hfzR, ↓hrbR, HH1, HH2]; rfl) ?_))
     simp only [zT, zB]
     refine Zo (x := false) (by simp [zC h12, zC h40, zC h43, zC h44, zC h45, zC h46, zC h47, zC h48, zC h49, o12, trim, -Zb, ↓ra, ↓rb_, ↓hfzR, ↓hrbR, HH1, HH2] <;> omega) ?_
     have hkn2 : k = n := by omega
     obtain ⟨ac, hacn⟩ : ∃ ac : List Nat, ac = [] := ⟨_, rfl⟩
     have hOr : Zn (.vl [] true) = some (ac.map rN) := by rw [hacn]; rfl
     have hOz : ∀ z ∈ ac, z < rs.length := by rw [hacn]; simp
     have hOd : dNs (.vl [] true) = some ac := dNs_of hOr fun z hz => by have := hOz z hz; omega
     have hlen : ac.length = its.length := by rw [hacn]; simp; omega
     have hN0 : N = 0 := by omega
     have e48o := e48 _ _ hOd (by omega) hOz
     have hles := hGl2 ac hlen hOz
     have e49 := o49_eq hOd hGd (by omega) (by omega)
     generalize hB : fitsL u d its rs ac = B at *
     cases B
     ·refine YD ?_
      simp only [zT, zB, if_true, if_false, reduceIte, Nat.reduceEqDiff, Nat.succ_ne_zero, Nat.one_ne_zero, Nat.zero_ne_one]
      refine Zc ?_
      refine Zc ?_
      refine Zd Zj hTb (zR (zO (by simp [zC h12, zC h40, zC h43, zC h44, zC h45, zC h46, zC h47, zC h48, zC h49, o12, trim, -Zb, ↓ra, ↓rb_, ↓hfzR, ↓hrbR, HH1, HH2, hN0, e48o]; rfl) ?_))
      simp only [zT, zB]
      refine Zo (x := false) (by simp) ?_
      refine Yk (ZY 2944 [0] (by decide) (by simp) rfl (by simp [zr, ZX, ZV, Zu, zC h12, zC h40, zC h43, zC h44, zC h45, zC h46, zC h47, zC h48, zC h49, o12, trim, -Zb, ↓ra, ↓rb_, ↓hfzR, ↓hrbR, HH1, HH2, hN0, e48o] <;> rfl) (by simp [zr, ZX, ZV, Zu, zC h12, zC h40, zC h43, zC h44, zC h45, zC h46, zC h47, zC h48, zC h49, o12, trim, -Zb, ↓ra, ↓rb_, ↓hfzR, ↓hrbR, HH1, HH2, hN0, e48o] <;> rfl)) ?_
      exact pA.o
     ·have hlx : decide (lexC ac G < 0) = false := by
       rw [decide_eq_false_iff_not, lexC_lt]; exact hles rfl
      rw [hlx] at e49
      refine YD ?_
      simp only [zT, zB, if_true, if_false, reduceIte, Nat.reduceEqDiff, Nat.succ_ne_zero, Nat.one_ne_zero, Nat.zero_ne_one]
      refine Zc ?_
      refine Zc ?_
      refine Zd Zj hTb (zR (zO (by simp [zC h12, zC h40, zC h43, zC h44, zC h45, zC h46, zC h47, zC h48, zC h49, o12, trim, -Zb, ↓ra, ↓rb_, ↓hfzR, ↓hrbR, HH1, HH2, hN0, e48o, e49]; rfl) ?_))
      simp only [zT, zB]
      refine Zo (x := false) (by simp) ?_
      refine Yk (ZY 2944 [0] (by decide) (by simp) rfl (by simp [zr, ZX, ZV, Zu, zC h12, zC h40, zC h43, zC h44, zC h45, zC h46, zC h47, zC h48, zC h49, o12, trim, -Zb, ↓ra, ↓rb_, ↓hfzR, ↓hrbR, HH1, HH2, hN0, e48o, e49] <;> rfl) (by simp [zr, ZX, ZV, Zu, zC h12, zC h40, zC h43, zC h44, zC h45, zC h46, zC h47, zC h48, zC h49, o12, trim, -Zb, ↓ra, ↓rb_, ↓hfzR, ↓hrbR, HH1, HH2, hN0, e48o, e49] <;> rfl)) ?_
      exact pA.o
    ·have hkn' : k < n := by omega
     have hwi : W .i64 (i + 1) = i + 1 := Zt (by omega)
     have e40 := o40n_eq hz hbz (i := k) (by omega)
     rw [← hik] at e40
     have hrm := rem_iN (a := byteV bs k) (b := m) h2
     have hos := otherL_succ bs m k
     obtain ⟨Z, hZ⟩ : ∃ Z : Int, ((byteV bs k % m : Nat) : Int) = Z := ⟨_, rfl⟩
     rw [hZ] at hrm
     have hrz : rN (byteV bs k % m) = [I Z] := by rw [← hZ]; rfl
     have h3 : (0 : Int) < (m : Int) := by omega
     generalize byteV bs k % m = zz at *
     generalize ((byteV bs k : Nat) : Int) = bv at *
     have HH3 := zA nzv (zA nxv (zA nyv (zA lsl (zA h1 (zA h3 (zA hwi e40))))))
     have HH4 := zA ra (zA rb_ (zA hfzR (zA hrbR hrm)))
     refine Zc ?_
     refine Zc ?_
     refine Zd Zj hTb (zR (zO (by simp [zC h12, zC h40, zC h43, zC h44, zC h45, zC h46, zC h47, zC h48, zC h49, o12, trim, -Zb, HH1, HH3, ↓HH4]; rfl) ?_))
     simp only [zT, zB]
     refine Zo (x := true) (by simp [zC h12, zC h40, zC h43, zC h44, zC h45, zC h46, zC h47, zC h48, zC h49, o12, trim, -Zb, HH1, HH3, ↓HH4] <;> omega) ?_
     refine ZF ?_
     simp only [zT, zB]
     refine Zc ?_
     refine Yo ?_
     refine Zd Zj hTb (zR (zO (by simp [zC h12, zC h40, zC h43, zC h44, zC h45, zC h46, zC h47, zC h48, zC h49, o12, trim, -Zb, HH1, HH3, ↓HH4]; rfl) ?_))
     simp only [zT, zB]
     refine Zd Zj hTb (zR (zO (by simp [zC h12, zC h40, zC h43, zC h44, zC h45, zC h46, zC h47, zC h48, zC h49, o12, trim, -Zb, HH1, HH3, ↓HH4]; rfl) ?_))
     simp only [zT, zB]
     exact ⟨n - (k + 1), _, by omega, ZY 57220 [0, 3] (by decide) (by simp) rfl (by simp [zr, ZX, ZV, Zu, zC h12, zC h40, zC h43, zC h44, zC h45, zC h46, zC h47, zC h48, zC h49, o12, trim, -Zb, HH1, HH3, ↓HH4] <;> rfl) (by simp [zr, ZX, ZV, Zu, zC h12, zC h40, zC h43, zC h44, zC h45, zC h46, zC h47, zC h48, zC h49, o12, trim, -Zb, HH1, HH3, ↓HH4] <;> rfl), k + 1, i + 1, by omega, rfl, by omega, (fun h => by omega), .inr ⟨0, [zz], by omega, by rw [hos, hk0]; rfl, rfl, by simp [hrz]⟩⟩
   ·skip
    have HH5 := zA nzv (zA nxv (zA nyv (zA lsl h1)))
    refine Zc ?_
    refine Zc ?_
    refine Zd Zj hTb (zR (zO (by simp [zC h12, zC h40, zC h43, zC h44, zC h45, zC h46, zC h47, zC h48, zC h49, o12, trim, -Zb, ↓ra, ↓rb_, ↓hfzR, ↓hrbR, HH1, HH5]; rfl) ?_))
    simp only [zT, zB]
    refine Zo (x := false) (by simp [zC h12, zC h40, zC h43, zC h44, zC h45, zC h46, zC h47, zC h48, zC h49, o12, trim, -Zb, ↓ra, ↓rb_, ↓hfzR, ↓hrbR, HH1, HH5] <;> omega) ?_
    have hkn2 : k = n := by omega
    obtain ⟨ac, hacn⟩ : ∃ ac : List Nat, ac = [] := ⟨_, rfl⟩
    have hOr : Zn (.vl [] true) = some (ac.map rN) := by rw [hacn]; rfl
    have hOz : ∀ z ∈ ac, z < rs.length := by rw [hacn]; simp
    have hOd : dNs (.vl [] true) = some ac := dNs_of hOr fun z hz => by have := hOz z hz; omega
    have hlen : ac.length = its.length := by rw [hacn]; simp; omega
    have hN0 : N = 0 := by omega
    have e48o := e48 _ _ hOd (by omega) hOz
    have hles := hGl2 ac hlen hOz
    have e49 := o49_eq hOd hGd (by omega) (by omega)
    generalize hB : fitsL u d its rs ac = B at *
    cases B
    ·refine YD ?_
     simp only [zT, zB, if_true, if_false, reduceIte, Nat.reduceEqDiff, Nat.succ_ne_zero, Nat.one_ne_zero, Nat.zero_ne_one]
     refine Zc ?_
     refine Zc ?_
     refine Zd Zj hTb (zR (zO (by simp [zC h12, zC h40, zC h43, zC h44, zC h45, zC h46, zC h47, zC h48, zC h49, o12, trim, -Zb, ↓ra, ↓rb_, ↓hfzR, ↓hrbR, HH1, HH5, hN0, e48o]; rfl) ?_))
     simp only [zT, zB]
     refine Zo (x := false) (by simp) ?_
     refine Yk (ZY 2944 [0] (by decide) (by simp) rfl (by simp [zr, ZX, ZV, Zu, zC h12, zC h40, zC h43, zC h44, zC h45, zC h46, zC h47, zC h48, zC h49, o12, trim, -Zb, ↓ra, ↓rb_, ↓hfzR, ↓hrbR, HH1, HH5, hN0, e48o] <;> rfl) (by simp [zr, ZX, ZV, Zu, zC h12, zC h40, zC h43, zC h44, zC h45, zC h46, zC h47, zC h48, zC h49, o12, trim, -Zb, ↓ra, ↓rb_, ↓hfzR, ↓hrbR, HH1, HH5, hN0, e48o] <;> rfl)) ?_
     exact pA.o
    ·have hlx : decide (lexC ac G < 0) = false := by
      rw [decide_eq_false_iff_not, lexC_lt]; exact hles rfl
     rw [hlx] at e49
     refine YD ?_
     simp only [zT, zB, if_true, if_false, reduceIte, Nat.reduceEqDiff, Nat.succ_ne_zero, Nat.one_ne_zero, Nat.zero_ne_one]
     refine Zc ?_
     refine Zc ?_
     refine Zd Zj hTb (zR (zO (by simp [zC h12, zC h40, zC h43, zC h44, zC h45, zC h46, zC h47, zC h48, zC h49, o12, trim, -Zb, ↓ra, ↓rb_, ↓hfzR, ↓hrbR, HH1, HH5, hN0, e48o, e49]; rfl) ?_))
     simp only [zT, zB]
     refine Zo (x := false) (by simp) ?_
     refine Yk (ZY 2944 [0] (by decide) (by simp) rfl (by simp [zr, ZX, ZV, Zu, zC h12, zC h40, zC h43, zC h44, zC h45, zC h46, zC h47, zC h48, zC h49, o12, trim, -Zb, ↓ra, ↓rb_, ↓hfzR, ↓hrbR, HH1, HH5, hN0, e48o, e49] <;> rfl) (by simp [zr, ZX, ZV, Zu, zC h12, zC h40, zC h43, zC h44, zC h45, zC h46, zC h47, zC h48, zC h49, o12, trim, -Zb, ↓ra, ↓rb_, ↓hfzR, ↓hrbR, HH1, HH5, hN0, e48o, e49] <;> rfl)) ?_
     exact pA.o
  ·have tk : (ac.map rN).take (pp + 1) = ac.map rN := List.take_of_length_le (by simp [hacl])
   have hlac : pp + 1 + 1 ≤ 1048576 := by omega
   have hst1 : ((ac.map rN).all fun r => r.all ZG) = true := by simp [rN]
   have hr1 : ((ac.map rN).all fun r => r.length == 1) = true := by simp [rN]
   have hfzz := fun H d => rN_frz H d ac
   have hrn := fun K H d => renB_rN K H d ac
   have lsl : Zb (.sl 1 0 (pp + 1) false) = some (pp + 1) := rfl
   by_cases h1 : i < N
   ·rcases Nat.eq_zero_or_pos m with h2 | h2
    ·have h3 : ¬ (0 : Int) < (m : Int) := fun h => by omega
     have HH6 := zA nzv (zA nxv (zA nyv (zA tk (zA hlac (zA hacl (zA lsl (zA h1 h3)))))))
     have HH7 := zA ra (zA rb_ (zA hfzR (zA hrbR (zA hst1 (zA hr1 (zA hfzz hrn))))))
     refine Zc ?_
     refine Zc ?_
     refine Zd Zj hTb (zR (zO (by simp [zC h12, zC h40, zC h43, zC h44, zC h45, zC h46, zC h47, zC h48, zC h49, o12, trim, -Zb, HH1, HH6, ↓HH7]; rfl) ?_))
     simp only [zT, zB]
     refine Zo (x := false) (by simp [zC h12, zC h40, zC h43, zC h44, zC h45, zC h46, zC h47, zC h48, zC h49, o12, trim, -Zb, HH1, HH6, ↓HH7] <;> omega) ?_
     have hkn2 : k = n := by omega
     have hOr : Zn (.vl (ac.map rN) false) = some (ac.map rN) := rfl
     have hmp : 0 < m := by rcases Nat.eq_zero_or_pos m with h | h; exact absurd (hm0 h) (by omega); exact h
     have hOz : ∀ z ∈ ac, z < rs.length := by rw [hac, ← hm]; exact otherL_mem hmp
     have hOd : dNs (.vl (ac.map rN) false) = some ac := dNs_of hOr fun z hz => by have := hOz z hz; omega
     have hlen : ac.length = its.length := by omega
     have hNpp : N = (pp : Int) + 1 := by omega
     have e48o := e48 _ _ hOd (by omega) hOz
     have hles := hGl2 ac hlen hOz
     have e49 := o49_eq hOd hGd (by omega) (by omega)
     generalize hB : fitsL u d its rs ac = B at *
     cases B
     ·refine YD ?_
      simp only [zT, zB, if_true, if_false, reduceIte, Nat.reduceEqDiff, Nat.succ_ne_zero, Nat.one_ne_zero, Nat.zero_ne_one]
      refine Zc ?_
      refine Zc ?_
      refine Zd Zj hTb (zR (zO (by simp [zC h12, zC h40, zC h43, zC h44, zC h45, zC h46, zC h47, zC h48, zC h49, o12, trim, -Zb, HH1, HH6, ↓HH7, hNpp, e48o]; rfl) ?_))
      simp only [zT, zB]
      refine Zo (x := false) (by simp) ?_
      refine Yk (ZY 2944 [0] (by decide) (by simp) rfl (by simp [zr, ZX, ZV, Zu, zC h12, zC h40, zC h43, zC h44, zC h45, zC h46, zC h47, zC h48, zC h49, o12, trim, -Zb, HH1, HH6, ↓HH7, hNpp, e48o] <;> rfl) (by simp [zr, ZX, ZV, Zu, zC h12, zC h40, zC h43, zC h44, zC h45, zC h46, zC h47, zC h48, zC h49, o12, trim, -Zb, HH1, HH6, ↓HH7, hNpp, e48o] <;> rfl)) ?_
      exact pA.o
     ·have hlx : decide (lexC ac G < 0) = false := by
       rw [decide_eq_false_iff_not, lexC_lt]; exact hles rfl
      rw [hlx] at e49
      refine YD ?_
      simp only [zT, zB, if_true, if_false, reduceIte, Nat.reduceEqDiff, Nat.succ_ne_zero, Nat.one_ne_zero, Nat.zero_ne_one]
      refine Zc ?_
      refine Zc ?_
      refine Zd Zj hTb (zR (zO (by simp [zC h12, zC h40, zC h43, zC h44, zC h45, zC h46, zC h47, zC h48, zC h49, o12, trim, -Zb, HH1, HH6, ↓HH7, hNpp, e48o, e49]; rfl) ?_))
      simp only [zT, zB]
      refine Zo (x := false) (by simp) ?_
      refine Yk (ZY 2944 [0] (by decide) (by simp) rfl (by simp [zr, ZX, ZV, Zu, zC h12, zC h40, zC h43, zC h44, zC h45, zC h46, zC h47, zC h48, zC h49, o12, trim, -Zb, HH1, HH6, ↓HH7, hNpp, e48o, e49] <;> rfl) (by simp [zr, ZX, ZV, Zu, zC h12, zC h40, zC h43, zC h44, zC h45, zC h46, zC h47, zC h48, zC h49, o12, trim, -Zb, HH1, HH6, ↓HH7, hNpp, e48o, e49] <;> rfl)) ?_
      exact pA.o
    ·have hkn' : k < n := by omega
     have hwi : W .i64 (i + 1) = i + 1 := Zt (by omega)
     have e40 := o40n_eq hz hbz (i := k) (by omega)
     rw [← hik] at e40
     have hrm := rem_iN (a := byteV bs k) (b := m) h2
     have hos := otherL_succ bs m k
     obtain ⟨Z, hZ⟩ : ∃ Z : Int, ((byteV bs k % m : Nat) : Int) = Z := ⟨_, rfl⟩
     rw [hZ] at hrm
     have hrz : rN (byteV bs k % m) = [I Z] := by rw [← hZ]; rfl
     have h3 : (0 : Int) < (m : Int) := by omega
     generalize byteV bs k % m = zz at *
     generalize ((byteV bs k : Nat) : Int) = bv at *
     have HH8 := zA nzv (zA nxv (zA nyv (zA tk (zA hlac (zA hacl (zA lsl (zA h1 (zA h3 (zA hwi e40)))))))))
     have HH9 := zA ra (zA rb_ (zA hfzR (zA hrbR (zA hst1 (zA hr1 (zA hfzz (zA hrn hrm)))))))
     refine Zc ?_
     refine Zc ?_
     refine Zd Zj hTb (zR (zO (by simp [zC h12, zC h40, zC h43, zC h44, zC h45, zC h46, zC h47, zC h48, zC h49, o12, trim, -Zb, HH1, HH8, ↓HH9]; rfl) ?_))
     simp only [zT, zB]
     refine Zo (x := true) (by simp [zC h12, zC h40, zC h43, zC h44, zC h45, zC h46, zC h47, zC h48, zC h49, o12, trim, -Zb, HH1, HH8, ↓HH9] <;> omega) ?_
     refine ZF ?_
     simp only [zT, zB]
     refine Zc ?_
     refine Yo ?_
     refine Zd Zj hTb (zR (zO (by simp [zC h12, zC h40, zC h43, zC h44, zC h45, zC h46, zC h47, zC h48, zC h49, o12, trim, -Zb, HH1, HH8, ↓HH9]; rfl) ?_))
     simp only [zT, zB]
     refine Zd Zj hTb (zR (zO (by simp [zC h12, zC h40, zC h43, zC h44, zC h45, zC h46, zC h47, zC h48, zC h49, o12, trim, -Zb, HH1, HH8, ↓HH9]; rfl) ?_))
     simp only [zT, zB]
     have hap : ∀ K H d, Zf (Zf (YV K H (d + 1))) (ac.map rN ++ [[I Z]]) = some (ac.map rN ++ [[I Z]]) := fun K H d => by
      have h := renB_rN K H d (ac ++ [zz])
      rw [List.map_append] at h
      rw [← hrz]; exact h
     exact ⟨n - (k + 1), _, by omega, ZY 57220 [0, 3] (by decide) (by simp) rfl (by simp [zr, ZX, ZV, Zu, zC h12, zC h40, zC h43, zC h44, zC h45, zC h46, zC h47, zC h48, zC h49, o12, trim, -Zb, HH1, HH8, ↓HH9, ↓hap] <;> rfl) (by simp [zr, ZX, ZV, Zu, zC h12, zC h40, zC h43, zC h44, zC h45, zC h46, zC h47, zC h48, zC h49, o12, trim, -Zb, HH1, HH8, ↓HH9, ↓hap] <;> rfl), k + 1, i + 1, by omega, rfl, by omega, (fun h => by omega), .inr ⟨pp + 1, ac ++ [zz], by omega, by rw [hos, hac], by simp [hacl], by rw [List.map_append]; simp [hrz]⟩⟩
   ·skip
    have HH10 := zA nzv (zA nxv (zA nyv (zA tk (zA hlac (zA hacl (zA lsl h1))))))
    have HH11 := zA ra (zA rb_ (zA hfzR (zA hrbR (zA hst1 (zA hr1 (zA hfzz hrn))))))
    refine Zc ?_
    refine Zc ?_
    refine Zd Zj hTb (zR (zO (by simp [zC h12, zC h40, zC h43, zC h44, zC h45, zC h46, zC h47, zC h48, zC h49, o12, trim, -Zb, HH1, HH10, ↓HH11]; rfl) ?_))
    simp only [zT, zB]
    refine Zo (x := false) (by simp [zC h12, zC h40, zC h43, zC h44, zC h45, zC h46, zC h47, zC h48, zC h49, o12, trim, -Zb, HH1, HH10, ↓HH11] <;> omega) ?_
    have hkn2 : k = n := by omega
    have hOr : Zn (.vl (ac.map rN) false) = some (ac.map rN) := rfl
    have hmp : 0 < m := by rcases Nat.eq_zero_or_pos m with h | h; exact absurd (hm0 h) (by omega); exact h
    have hOz : ∀ z ∈ ac, z < rs.length := by rw [hac, ← hm]; exact otherL_mem hmp
    have hOd : dNs (.vl (ac.map rN) false) = some ac := dNs_of hOr fun z hz => by have := hOz z hz; omega
    have hlen : ac.length = its.length := by omega
    have hNpp : N = (pp : Int) + 1 := by omega
    have e48o := e48 _ _ hOd (by omega) hOz
    have hles := hGl2 ac hlen hOz
    have e49 := o49_eq hOd hGd (by omega) (by omega)
    generalize hB : fitsL u d its rs ac = B at *
    cases B
    ·refine YD ?_
     simp only [zT, zB, if_true, if_false, reduceIte, Nat.reduceEqDiff, Nat.succ_ne_zero, Nat.one_ne_zero, Nat.zero_ne_one]
     refine Zc ?_
     refine Zc ?_
     refine Zd Zj hTb (zR (zO (by simp [zC h12, zC h40, zC h43, zC h44, zC h45, zC h46, zC h47, zC h48, zC h49, o12, trim, -Zb, HH1, HH10, ↓HH11, hNpp, e48o]; rfl) ?_))
     simp only [zT, zB]
     refine Zo (x := false) (by simp) ?_
     refine Yk (ZY 2944 [0] (by decide) (by simp) rfl (by simp [zr, ZX, ZV, Zu, zC h12, zC h40, zC h43, zC h44, zC h45, zC h46, zC h47, zC h48, zC h49, o12, trim, -Zb, HH1, HH10, ↓HH11, hNpp, e48o] <;> rfl) (by simp [zr, ZX, ZV, Zu, zC h12, zC h40, zC h43, zC h44, zC h45, zC h46, zC h47, zC h48, zC h49, o12, trim, -Zb, HH1, HH10, ↓HH11, hNpp, e48o] <;> rfl)) ?_
     exact pA.o
    ·have hlx : decide (lexC ac G < 0) = false := by
      rw [decide_eq_false_iff_not, lexC_lt]; exact hles rfl
     rw [hlx] at e49
     refine YD ?_
     simp only [zT, zB, if_true, if_false, reduceIte, Nat.reduceEqDiff, Nat.succ_ne_zero, Nat.one_ne_zero, Nat.zero_ne_one]
     refine Zc ?_
     refine Zc ?_
     refine Zd Zj hTb (zR (zO (by simp [zC h12, zC h40, zC h43, zC h44, zC h45, zC h46, zC h47, zC h48, zC h49, o12, trim, -Zb, HH1, HH10, ↓HH11, hNpp, e48o, e49]; rfl) ?_))
     simp only [zT, zB]
     refine Zo (x := false) (by simp) ?_
     refine Yk (ZY 2944 [0] (by decide) (by simp) rfl (by simp [zr, ZX, ZV, Zu, zC h12, zC h40, zC h43, zC h44, zC h45, zC h46, zC h47, zC h48, zC h49, o12, trim, -Zb, HH1, HH10, ↓HH11, hNpp, e48o, e49] <;> rfl) (by simp [zr, ZX, ZV, Zu, zC h12, zC h40, zC h43, zC h44, zC h45, zC h46, zC h47, zC h48, zC h49, o12, trim, -Zb, HH1, HH10, ↓HH11, hNpp, e48o, e49] <;> rfl)) ?_
     exact pA.o
 ·refine ZF ?_
  simp only [zT, zB]
  refine Zc ?_
  refine Zc ?_
  refine Zd Zj hTb (zR (zO (by simp [zC h12, zC h40, zC h43, zC h44, zC h45, zC h46, zC h47, zC h48, zC h49, o12, trim, -Zb, ↓ra, ↓rb_, ↓hfzR, ↓hrbR, HH1, nzv, nxv, nyv]; rfl) ?_))
  simp only [zT, zB]
  refine Zo (x := true) (by simp) ?_
  refine Zc ?_
  have hren1 := fun K H d => renB_rM3 K H d rs
  refine Zd Zj hTb2 (zR (zO (by simp [Zp h46x rfl, h46x, s46, ↓hokb, fy, ry, trim]; rfl) ?_))
  simp only [zT, zB]
  refine Yk (ZY 65920 [0, 1] (by decide) (by simp) rfl (by simp [zr, ZX, ZV, Zu, zC h12, zC h40, zC h43, zC h44, zC h45, zC h46, zC h47, zC h48, zC h49, o12, trim, -Zb, ↓ra, ↓rb_, ↓hfzR, ↓hrbR, HH1, nzv, nxv, nyv, ↓hren1] <;> rfl) (by simp [zr, ZX, ZV, Zu, zC h12, zC h40, zC h43, zC h44, zC h45, zC h46, zC h47, zC h48, zC h49, o12, trim, -Zb, ↓ra, ↓rb_, ↓hfzR, ↓hrbR, HH1, nzv, nxv, nyv, ↓hren1] <;> rfl)) ?_
  have HH12 := zA ra (zA rb_ (zA hfzR (zA hrbR hren1)))
  refine Zc ?_
  refine Zc ?_
  refine Zd Zj hTb (zR (zO (by simp [zC h12, zC h40, zC h43, zC h44, zC h45, zC h46, zC h47, zC h48, zC h49, o12, trim, -Zb, HH1, nzv, nxv, nyv, ↓HH12]; rfl) ?_))
  simp only [zT, zB]
  refine Yo ?_
  refine cruns_loop (k := m - 0) (fun mm σ => ∃ (k : Nat) (i : Int), i = k ∧ m - k = mm ∧ k ≤ m ∧ σ = ⟨(.any :: .any :: .any :: .any :: .any :: .any :: .any :: .ref 0 0 0 :: xv :: .any :: .any :: .any :: .any :: .any :: .any :: .any :: .sl 1 0 m false :: I i :: zA128 (zA32 (zA32 (zA8 (zA8 (zA8 ([.any, .any, .any]))))))), [some (.row 2 [[I u, I d]]), some (.row 3 ((bumpK rs k).map rM3))]⟩) ⟨_, ZY 196992 [0, 1] (by decide) (by simp) rfl (by simp [zr, ZX, ZV, Zu, zC h12, zC h40, zC h43, zC h44, zC h45, zC h46, zC h47, zC h48, zC h49, o12, trim, -Zb, HH1, nzv, nxv, nyv, ↓HH12] <;> rfl) (by simp [zr, ZX, ZV, Zu, zC h12, zC h40, zC h43, zC h44, zC h45, zC h46, zC h47, zC h48, zC h49, o12, trim, -Zb, HH1, nzv, nxv, nyv, ↓HH12] <;> rfl), 0, 0, rfl, rfl, Nat.zero_le _, by simp [bumpK]⟩ ?_
  rintro mm σ ⟨k, i, hik, rfl, hkm, rfl⟩
  have hbl := bumpK_len rs k (by omega)
  have hren2 := fun K H d => renB_rM3 K H d (bumpK rs k)
  have lsm : Zb (.sl 1 0 m false) = some m := rfl
  refine Zc ?_
  refine Zc ?_
  refine Zd Zj hTb (zR (zO (by simp [zC h12, zC h40, zC h43, zC h44, zC h45, zC h46, zC h47, zC h48, zC h49, o12, trim, -Zb, HH1, nzv, nxv, nyv, ↓HH12, lsm, ↓hren2]; rfl) ?_))
  simp only [zT, zB]
  refine cruns_cond_split (x := decide (i < (m : Int))) (by simp) (fun hlt => ?_) (fun hlt => ?_)
  ·have hlt := of_decide_eq_true hlt
   have hkm : k < rs.length := by omega
   have hi0 : 0 ≤ i := by omega
   have htn : i.toNat = k := by omega
   have him : i < (m : Int) := by omega
   have hwi : W .i64 (i + 1) = i + 1 := Zt (by omega)
   have hgk := bumpK_get hkm
   have hsk := bumpK_set hkm
   have hrk := (hd0.rm _ (List.getElem_mem hkm))
   have hkb : k < (bumpK rs k).length := by omega
   generalize rs[k] = r at *
   obtain ⟨r1, r2, r3⟩ := r
   simp only at hrk
   have g1 : ((bumpK rs k).map rM3)[k]? = some [I r1, I r2, I r3] := by rw [List.getElem?_map, hgk]; rfl
   have g2 : ∀ h, ((bumpK rs k).map rM3)[k]'h = [I r1, I r2, I r3] := fun h => by rw [List.getElem?_eq_getElem h] at g1; exact Option.some.inj g1
   have hwr : W .i64 (r3 + 1) = r3 + 1 := Zt (by omega)
   have hset : ((bumpK rs k).map rM3).set k [I r1, I r2, I (r3 + 1)] = (bumpK rs (k + 1)).map rM3 := by rw [← hsk, List.map_set]; rfl
   have hren3 := fun K H d => renB_rM3 K H d (bumpK rs (k + 1))
   obtain ⟨B2, hB2⟩ : ∃ B2, (bumpK rs (k + 1)).map rM3 = B2 := ⟨_, rfl⟩
   rw [hB2] at hset
   simp only [hB2] at hren3
   have HH13 := zA nzv (zA nxv (zA nyv (zA lsm (zA hi0 (zA htn (zA him (zA hwi (zA hkb (zA hbl (zA g1 (zA g2 (zA hwr hset))))))))))))
   refine ZF ?_
   simp only [zT, zB]
   refine Zc ?_
   refine Yo ?_
   refine Zd Zj hTb (zR (zO (by simp [zC h12, zC h40, zC h43, zC h44, zC h45, zC h46, zC h47, zC h48, zC h49, o12, trim, -Zb, HH1, ↓HH12, ↓hren2, ↓hren3, -List.getElem?_map, -List.getElem_map, -List.map_set, HH13]; rfl) ?_))
   simp only [zT, zB]
   refine Zd Zj hTb (zR (zO (by simp [zC h12, zC h40, zC h43, zC h44, zC h45, zC h46, zC h47, zC h48, zC h49, o12, trim, -Zb, HH1, ↓HH12, ↓hren2, ↓hren3, -List.getElem?_map, -List.getElem_map, -List.map_set, HH13]; rfl) ?_))
   simp only [zT, zB]
   exact ⟨m - (k + 1), _, by omega, ZY 196992 [0, 1] (by decide) (by simp) rfl (by simp [zr, ZX, ZV, Zu, zC h12, zC h40, zC h43, zC h44, zC h45, zC h46, zC h47, zC h48, zC h49, o12, trim, -Zb, HH1, ↓HH12, ↓hren2, ↓hren3, -List.getElem?_map, -List.getElem_map, -List.map_set, HH13] <;> rfl) (by simp [zr, ZX, ZV, Zu, zC h12, zC h40, zC h43, zC h44, zC h45, zC h46, zC h47, zC h48, zC h49, o12, trim, -Zb, HH1, ↓HH12, ↓hren2, ↓hren3, -List.getElem?_map, -List.getElem_map, -List.map_set, HH13] <;> rfl), k + 1, i + 1, by omega, rfl, by omega, by simp [hB2]⟩
  ·have hlt := of_decide_eq_false hlt
   obtain rfl : k = m := by omega
   have hbe : bumpK rs k = rs.map bump := by unfold bumpK; rw [hm, List.take_length, List.drop_length, List.append_nil]
   rw [hbe]
   have hfm2 := fun H d => frz_rM3 H d (rs.map bump)
   have tkm : ((rs.map bump).map rM3).take k = (rs.map bump).map rM3 := List.take_of_length_le (by simp [hm])
   have hbml : k ≤ ((rs.map bump).map rM3).length := by simp [hm]
   generalize (rs.map bump).map rM3 = BM at *
   skip
   refine Yk (ZY 65920 [0] (by decide) (by simp) rfl (by simp [zr, ZX, ZV, Zu, zC h12, zC h40, zC h43, zC h44, zC h45, zC h46, zC h47, zC h48, zC h49, o12, trim, -Zb, HH1, nzv, nxv, nyv, ↓HH12, lsm, ↓hren2, ↓hfm2, tkm, hbml] <;> rfl) (by simp [zr, ZX, ZV, Zu, zC h12, zC h40, zC h43, zC h44, zC h45, zC h46, zC h47, zC h48, zC h49, o12, trim, -Zb, HH1, nzv, nxv, nyv, ↓HH12, lsm, ↓hren2, ↓hfm2, tkm, hbml] <;> rfl)) ?_
   have HH14 := zA nzv (zA nxv (zA nyv (zA lsm (zA tkm (zA hbml e44m)))))
   refine YD ?_
   simp only [zT, zB, if_true, if_false, reduceIte, Nat.reduceEqDiff, Nat.succ_ne_zero, Nat.one_ne_zero, Nat.zero_ne_one]
   refine Zc ?_
   refine Zd Zj hTb (zR (zO (by simp [zC h12, zC h40, zC h43, zC h44, zC h45, zC h46, zC h47, zC h48, zC h49, o12, trim, -Zb, HH1, ↓HH12, ↓hren2, ↓hfm2, HH14]; rfl) ?_))
   simp only [zT, zB]
   refine Zc ?_
   refine Zd Zj hTb (zR (zO (by simp [zC h12, zC h40, zC h43, zC h44, zC h45, zC h46, zC h47, zC h48, zC h49, o12, trim, -Zb, HH1, ↓HH12, ↓hren2, ↓hfm2, HH14]; rfl) ?_))
   simp only [zT, zB]
   refine cruns_ret ?_
   simp [zC h12, zC h40, zC h43, zC h44, zC h45, zC h46, zC h47, zC h48, zC h49, o12, trim, -Zb, HH1, ↓HH12, ↓hren2, ↓hfm2, HH14]
end
end
end Go.Proofs.YtpebmjeomlgmdaaDoor.Tab
