/- What the rows of stores share: pallets and rooms. No condition. -/
import Derived.OpenShut
import Derived.Test.YtpebmjeomlgmdaaGreatDoorPzDZs
import Derived.Test.YtpebmjeomlgmdaaGreatDoorPzCZs
set_option linter.unusedSimpArgs false
set_option linter.unusedVariables false
namespace Go.Proofs.YtpebmjeomlgmdaaGreatDoor.Tab
open Go Go.Abs Go.Proofs
set_option maxRecDepth 100000
set_option maxHeartbeats 4000000
set_option linter.unusedSimpArgs false
set_option linter.unusedVariables false
noncomputable section
attribute [local simp] Yv Ye XB XC YD YJ XD YL Xh YC Zf orcF Xv YV Xx Xt YU YA rb_vl rb_pv Xr YT YS YR Xw Xs Xu XZ rb_fn slE XP Xk Yp ZQ XG List.range_succ List.range_zero List.range'_succ List.range'_zero Yi Yg ZK Yl ZR ZT Xm Yf dop CV.ev Ys ZA ZM Xa fI_eq Yt Yc ZN Zz Out.v Xy List.replicate_succ zT zB arI ZO Abs.rowAt Xq allV toV toC ofV ofC Builtin.min_ Builtin.min2 Builtin.max_ Builtin.max2 Xz XA resA XS Xj Yh Yx Yy Yw Zd
section
attribute [local simp] Yj ZU YP YM XR Xo disj YY holes YZ ZX Xb news eqB Xc eqA YK Xi toCs ofCs stA Yz ZV Yr dI1 dI2 dI3 dI5 elt
attribute [local simp] st_any st_und st_agg st_tup XX st_int XU st_ref st_pv XT st_sl st_vl XV st_mp st_fn XW st_yld co_any co_und co_agg co_tup co_bool co_int co_nilp co_ref co_pv co_nils co_sl co_vl co_nilm co_mp co_fn co_nilf co_yld
attribute [local simp] Ya Zq lim lop Yk
def o44 : List Za → Option Za
  | [.agg [.int .i64 u, .int .i64 d], x, y] => match Zm x, Zm y with
    | some r, some s => match Zf dI5' r, Zf dM3 s with
      | some its, some rs => if its.length ≤ 1000 ∧ rs.length ≤ 1000 then some (storeV u d its rs) else none
      | _, _ => none
    | _, _ => none
  | _ => none
theorem o44_eq {x y : Za} {its : List It5} {rs : List Rm3} (hx : Zm x = some (its.map rI5)) (hy : Zm y = some (rs.map rM3)) (hl : its.length ≤ 1000 ∧ rs.length ≤ 1000) (u d : Int) : o44 [.agg [I u, I d], x, y] = some (storeV u d its rs) := by
  have h1 := YB (d := dI5') (enc := rI5) (fun _ => rfl) its
  have h2 := YB (d := dM3) (enc := rM3) (fun _ => rfl) rs
  simp only [o44, hx, hy, h1, h2]; rw [if_pos hl]
def DX3 : Nat → Option CFn := upd0 (upd0 DX2 8) 15
theorem DX3_ok : ZB Tryz.prog GG DX3 := tab_upd0 (tab_upd0 DX2_ok)
def DX4 : Nat → Option CFn := upd DX3 8 false o44
theorem DX4_ok : ZB Tryz.prog GG DX4 := tab_upd DX3_ok fun args v ho => by
  unfold o44 at ho; split at ho <;> (try simp only [reduceCtorEq] at ho)
  rename_i u d x y
  split at ho <;> (try simp only [reduceCtorEq] at ho)
  rename_i r s hx hy
  split at ho <;> (try simp only [reduceCtorEq] at ho)
  rename_i its rs hr hs
  split at ho <;> (try simp only [reduceCtorEq] at ho)
  rename_i hg
  simp only [Option.some.injEq] at ho
  subst ho
  have hx' : Zm x = some (its.map rI5) := by rw [hx, ZY (enc := rI5) dI5'_eq hr]
  have hy' : Zm y = some (rs.map rM3) := by rw [hy, ZY (enc := rM3) dM3_eq hs]
  exact orc_cans (a44 DX3 DX3_ok rfl rfl rfl rfl rfl rfl u d x y its rs hx' hy' hg)
def bestA (ms : List Nat) (pl : List Int) : Nat → Option Nat
  | 0 => none
  | k + 1 => if YX ms k pl = true then bestA ms pl k else match bestA ms pl k with
    | none => some k
    | some b => if (Zp k).length < (Zp b).length ∨ ((Zp k).length = (Zp b).length ∧ lexC (Zp k) (Zp b) < 0) then some k else some b
def encB : Option Nat → Za
  | none => .nils
  | some b => encL (Zp b)
def agV : Option Nat → Za
  | none => .tup [.nils, I 7]
  | some b => .tup [encL (Zp b), I 0]
def againstV (u d : Int) (its : List It5) (rs : List Rm3) : Za :=
  if depE u d its rs = 0 then agV (bestA (mays u d its rs) (rs.map fun r => r.2.2) (2 ^ its.length)) else .tup [.nils, I (depE u d its rs)]
theorem fits_zero {ms : List Nat} {pl : List Int} (h : ∀ x ∈ pl, 0 ≤ x ∧ x ≤ 1000) : YX ms 0 pl = true := by
  unfold YX
  rw [List.all_eq_true]
  intro R _
  rw [bits_zero]
  have := (hasL_bd h (Zp R)).1
  refine decide_eq_true ?_
  show ((0 : Nat) : Int) ≤ _
  omega
theorem bestA_lt {ms : List Nat} {pl : List Int} (h : ∀ x ∈ pl, 0 ≤ x ∧ x ≤ 1000) : ∀ (k b : Nat), bestA ms pl k = some b → b < k ∧ b ≠ 0 ∧ YX ms b pl = false
  | 0, b, hb => by simp [bestA] at hb
  | k + 1, b, hb => by
    simp only [bestA] at hb
    have ih := bestA_lt (ms := ms) h k
    split at hb
    · obtain ⟨h1, h2⟩ := ih b hb; exact ⟨by omega, h2⟩
    · rename_i hf
      have hk : k ≠ 0 := fun e => hf (by rw [e]; exact fits_zero h)
      have hf' : YX ms k pl = false := by simpa using hf
      split at hb
      · simp at hb; subst hb; exact ⟨by omega, hk, hf'⟩
      · rename_i b0 e
        obtain ⟨h1, h2⟩ := ih b0 e
        split at hb
        · simp at hb; subst hb; exact ⟨by omega, hk, hf'⟩
        · simp at hb; subst hb; exact ⟨by omega, h2⟩
theorem bits_ne {s : Nat} (hs : s < 1024) (h : s ≠ 0) : Zp s ≠ [] := by rw [(bits_step hs h).1]; simp
theorem frz_rN0 (h : Zj) (d : Nat) (l : List Nat) : frz false h (d + 1) (.vl (l.map rN) false) = some (.vl (l.map rN) false) := rfl
theorem a47 (P : Program) (T : Nat → Option CFn) (hT : T 15 = some c15) (h68 : T 36 = some { c36 with frsh := false, orc := o68 }) (h75 : T 28 = some { c28 with body := annK [(7696581395468, [.cell 10 0]), (2166395068749415481073468416, [.cell 10 1])] [] c28.body, frsh := false, orc := o75 }) (h77 : T 30 = some { c30 with frsh := true, orc := o77 }) (h78 : T 37 = some { c37 with frsh := true, orc := o78 }) (u d : Int) (x y : Za) (its : List It5) (rs : List Rm3) (hx : Zm x = some (its.map rI5)) (hy : Zm y = some (rs.map rM3)) (hl : its.length ≤ 1000 ∧ rs.length ≤ 1000) : Zr P T 15 [.agg [I u, I d], x, y] [] fun v h => frz false h 5 v = some (againstV u d its rs) := by
 have lx := Zv hx
 rw [List.length_map] at lx
 have rx := fun n d => ZF hx n d
 have fx := fun H d => Zw hx H d
 obtain ⟨cx1, cx2⟩ := Zy hx
 have ly := Zv hy
 rw [List.length_map] at ly
 have ry := fun n d => ZF hy n d
 have fy := fun H d => Zw hy H d
 obtain ⟨cy1, cy2⟩ := Zy hy
 have e75 := o75_eq hx hy hl u d
 refine Zl hT (Zo rfl) ?_
 simp only [oo, om, op, og, ci, cl, c15]
 by_cases hE : depE u d its rs = 0
 ·unfold depV at e75
  unfold againstV
  rw [if_pos hE] at e75 ⊢
  obtain ⟨hi7, hr4, _, hrb⟩ := depE_ok hE
  have hpb7 := places_bd hrb
  have hms := mays_lt u d its rs
  have hpll : (rs.map fun r : Rm3 => r.2.2).length = rs.length := by simp
  have hmsl : (mays u d its rs).length = its.length := by simp [mays]
  generalize mays u d its rs = ms at *
  generalize (rs.map fun r : Rm3 => r.2.2) = pl at *
  rw [← hpll] at hms
  have hm16 := Nat.pow_le_pow_right (n := 2) (by decide) (show pl.length ≤ 4 by omega)
  have hm := encU_rows ms
  have h0 := encJ_rows pl
  have hmb : ∀ x ∈ ms, x < 1024 := fun x hx => by have := hms x hx; omega
  have hpb : ∀ x ∈ pl, 0 ≤ x ∧ x ≤ 1000 := fun x hx => by have := hpb7 x hx; omega
  obtain ⟨n, hn⟩ : ∃ n, n = its.length := ⟨_, rfl⟩
  rw [← hn] at hmsl lx hi7 ⊢
  have h2n := two_le (show n ≤ 10 by omega)
  have hsh : shI .shl .u64 1 (n : Int) = some (.int .u64 ((2 ^ n : Nat) : Int)) := shl_one (by omega) .u64 (.inr rfl)
  have hmN : 2 ^ ms.length = 2 ^ n := by rw [hmsl]
  generalize hMn : 2 ^ n = Mn at *
  obtain ⟨M, hM⟩ : ∃ M : Int, M = (Mn : Int) := ⟨_, rfl⟩
  rw [← hM] at hsh
  have rm := fun n d => ZF hm n d
  have r0' := fun n d => ZF h0 n d
  have fm := fun H d => Zw hm H d
  have f0 := fun H d => Zw h0 H d
  have e77 : ∀ s : Nat, s < Mn → o77 [.pv [encU ms, encJ pl] 0, .int .u64 (s : Nat), encJ pl] = some (.bool (YX ms s pl)) := fun s hs => o77_eq hm h0 h0 (by omega) hmb (by omega) hpb (by rw [hmN]; exact hs)
  have cj := Zy h0
  obtain ⟨cj1, cj2⟩ := cj
  generalize encU ms = mv at *
  generalize encJ pl = pv0 at *
  have HH1 := zA h68 (zA h75 (zA h77 (zA h78 (zA lx (zA rx (zA fx (zA cx1 (zA cx2 (zA ly (zA ry (zA fy (zA cy1 (zA cy2 (zA e75 (zA rm (zA r0' (zA fm (zA f0 (zA cj1 cj2)))))))))))))))))))
  refine zS ?_
  refine zR (zO (by simp [zC h68, zC h75, zC h77, zC h78, trim, ZC, -Zd, ↓hsh, HH1]; rfl) ?_)
  simp only [zT, zB]
  refine zS ?_
  refine zR (zO (by simp [zC h68, zC h75, zC h77, zC h78, trim, ZC, -Zd, ↓hsh, HH1]; rfl) ?_)
  simp only [zT, zB]
  refine zS ?_
  refine zS ?_
  refine zR (zO (by simp [zC h68, zC h75, zC h77, zC h78, trim, ZC, -Zd, ↓hsh, HH1]; rfl) ?_)
  simp only [zT, zB]
  refine Zi (x := false) (by simp) ?_
  refine zK ?_
  simp only [zT, zB]
  refine zS ?_
  refine zS ?_
  refine zR (zO (by simp [zC h68, zC h75, zC h77, zC h78, trim, ZC, -Zd, ↓hsh, HH1]; rfl) ?_)
  simp only [zT, zB]
  refine zL ?_
  refine ZL (fun m σ => ∃ (k : Nat) (K : Int), K = k ∧ Mn - k = m ∧ k ≤ Mn ∧ σ = ⟨[.any, .any, .any, .any, .any, .any, encB (bestA ms pl k), .any, .pv [mv, pv0] 0, .any, .any, .any, .any, .any, .any, .any, .any, .any, .any, .any, .any, .any, .any, .int .u64 M, .int .u64 K, .any, .any, .any, .any, .any, .any, .any, .any, .any, .any, .any, .any, .any, .any, .any, .any, .any, .any, .any, .any, .any, .any, .any, .any, .any, .any, .any, .any, .any, .any, .any, .any, .any, .any, .any, .any, .any, .any, .any], [some (.row 2 [[I u, I d]])]⟩) ?_ (Mn - 0) _ ⟨0, 0, rfl, rfl, Nat.zero_le _, by simp [encB, bestA]⟩
  rintro m σ ⟨k, K, hK, rfl, hkl, rfl⟩
  refine zS ?_
  refine zR (zO (by simp [zC h68, zC h75, zC h77, zC h78, trim, ZC, -Zd, ↓hsh, HH1]; rfl) ?_)
  simp only [zT, zB]
  refine zS ?_
  refine Zk (x := decide (K < M)) (by simp) (fun hlt => ?_) (fun hlt => ?_)
  ·have hlt := of_decide_eq_true hlt
   have hk : k < Mn := by omega
   have hk10 : k < 1024 := by omega
   have hwK : W .u64 (K + 1) = K + 1 := by rw [show K + 1 = ((k + 1 : Nat) : Int) by omega, W_u (by omega)]
   have e77 := e77 k hk
   rw [← hK] at e77
   have hbs : bestA ms pl (k + 1) = if YX ms k pl = true then bestA ms pl k else match bestA ms pl k with
     | none => some k
     | some b => if (Zp k).length < (Zp b).length ∨ ((Zp k).length = (Zp b).length ∧ lexC (Zp k) (Zp b) < 0) then some k else some b := rfl
   have hbl := fun b => bestA_lt (ms := ms) hpb k b
   have hz0 := fits_zero (ms := ms) hpb
   have h68e := o68_eq hk10
   rw [← hK] at h68e
   rcases Bool.eq_false_or_eq_true (YX ms k pl) with hB | hB
   ·rw [hB] at e77
    rw [if_pos hB] at hbs
    refine zK ?_
    simp only [zT, zB]
    refine zS ?_
    refine zL ?_
    refine zS ?_
    refine zR (zO (by simp [zC h68, zC h75, zC h77, zC h78, trim, ZC, -Zd, ↓hsh, HH1, hwK, e77]; rfl) ?_)
    simp only [zT, zB]
    refine zS ?_
    refine zS ?_
    refine zR (zO (by simp [zC h68, zC h75, zC h77, zC h78, trim, ZC, -Zd, ↓hsh, HH1, hwK, e77]; rfl) ?_)
    simp only [zT, zB]
    refine Zi (x := true) (by simp) ?_
    refine ZI ?_
    simp only [zT, zB, if_true, if_false, reduceIte, Nat.reduceEqDiff, Nat.succ_ne_zero, Nat.one_ne_zero, Nat.zero_ne_one]
    refine zR (zO (by simp [zC h68, zC h75, zC h77, zC h78, trim, ZC, -Zd, ↓hsh, HH1, hwK, e77]; rfl) ?_)
    simp only [zT, zB]
    exact ⟨Mn - (k + 1), by omega, k + 1, K + 1, by omega, rfl, by omega, by simp [zC h68, zC h75, zC h77, zC h78, trim, ZC, -Zd, ↓hsh, HH1, hwK, e77, hbs]⟩
   ·rw [hB] at e77
    rw [if_neg (by rw [hB]; simp)] at hbs
    have hk0 : k ≠ 0 := fun e => by rw [e, hz0] at hB; simp at hB
    have hne := bits_ne hk10 hk0
    have hen : encL (Zp k) = .vl ((Zp k).map rN) false := by unfold encL; rw [if_neg (by simpa using hne)]
    have hdk := bits_dNs k
    have hlk := bits_len k
    have hll : Zd (.vl ((Zp k).map rN) false) = some (Zp k).length := by rw [Zv (x := .vl ((Zp k).map rN) false) (rs := (Zp k).map rN) rfl, List.length_map]
    rw [hen] at h68e hdk
    generalize hbv : bestA ms pl k = bo at *
    refine zK ?_
    simp only [zT, zB]
    refine zS ?_
    refine zL ?_
    refine zS ?_
    refine zR (zO (by simp [zC h68, zC h75, zC h77, zC h78, trim, ZC, -Zd, ↓hsh, HH1, hwK, e77, h68e, hll]; rfl) ?_)
    simp only [zT, zB]
    refine zS ?_
    refine zS ?_
    refine zR (zO (by simp [zC h68, zC h75, zC h77, zC h78, trim, ZC, -Zd, ↓hsh, HH1, hwK, e77, h68e, hll]; rfl) ?_)
    simp only [zT, zB]
    refine Zi (x := false) (by simp) ?_
    refine zK ?_
    simp only [zT, zB]
    refine zS ?_
    rcases bo with _ | b
    ·refine zR (zO (by simp [zC h68, zC h75, zC h77, zC h78, trim, ZC, -Zd, ↓hsh, HH1, hwK, e77, h68e, hll, encB]; rfl) ?_)
     simp only [zT, zB]
     refine zS ?_
     refine zR (zO (by simp [zC h68, zC h75, zC h77, zC h78, trim, ZC, -Zd, ↓hsh, HH1, hwK, e77, h68e, hll, encB]; rfl) ?_)
     simp only [zT, zB]
     refine Zi (x := true) (by simp) ?_
     refine zR (zO (by simp [zC h68, zC h75, zC h77, zC h78, trim, ZC, -Zd, ↓hsh, HH1, hwK, e77, h68e, hll, encB]; rfl) ?_)
     simp only [zT, zB]
     refine zR (zO (by simp [zC h68, zC h75, zC h77, zC h78, trim, ZC, -Zd, ↓hsh, HH1, hwK, e77, h68e, hll, encB]; rfl) ?_)
     simp only [zT, zB]
     exact ⟨Mn - (k + 1), by omega, k + 1, K + 1, by omega, rfl, by omega, by simp [zC h68, zC h75, zC h77, zC h78, trim, ZC, -Zd, ↓hsh, HH1, hwK, e77, h68e, hll, encB, hbs, hen]⟩
    ·obtain ⟨hb1, hb2, _⟩ := hbl b rfl
     have hb10 : b < 1024 := by omega
     have hneb := bits_ne hb10 hb2
     have henb : encL (Zp b) = .vl ((Zp b).map rN) false := by unfold encL; rw [if_neg (by simpa using hneb)]
     have hdb := bits_dNs b
     have hlb := bits_len b
     rw [henb] at hdb
     have hllb : Zd (.vl ((Zp b).map rN) false) = some (Zp b).length := by rw [Zv (x := .vl ((Zp b).map rN) false) (rs := (Zp b).map rN) rfl, List.length_map]
     have e78 : o78 [.vl ((Zp k).map rN) false, .vl ((Zp b).map rN) false] = some (I (lexC (Zp k) (Zp b))) := by simp only [o78, hdk, hdb]; rw [if_pos (by omega)]
     have hfk := fun H d => frz_rN0 H d (Zp k)
     simp only at hbs
     generalize (Zp k).length = lk at *
     generalize (Zp b).length = lb at *
     generalize lexC (Zp k) (Zp b) = cx at *
     by_cases hA : lk < lb
     ·have h1 : (lk : Int) < (lb : Int) := by omega
      rw [if_pos (.inl hA)] at hbs
      have HH2 := zA hwK (zA e77 (zA h68e (zA hll (zA henb (zA hllb (zA e78 h1))))))
      refine zR (zO (by simp [zC h68, zC h75, zC h77, zC h78, trim, ZC, -Zd, ↓hsh, HH1, encB, HH2]; rfl) ?_)
      simp only [zT, zB]
      refine zS ?_
      refine zR (zO (by simp [zC h68, zC h75, zC h77, zC h78, trim, ZC, -Zd, ↓hsh, HH1, encB, HH2]; rfl) ?_)
      simp only [zT, zB]
      refine Zi (x := true) (by simp [zC h68, zC h75, zC h77, zC h78, trim, ZC, -Zd, ↓hsh, HH1, encB, HH2]) ?_
      refine zR (zO (by simp [zC h68, zC h75, zC h77, zC h78, trim, ZC, -Zd, ↓hsh, HH1, encB, HH2]; rfl) ?_)
      simp only [zT, zB]
      refine zR (zO (by simp [zC h68, zC h75, zC h77, zC h78, trim, ZC, -Zd, ↓hsh, HH1, encB, HH2]; rfl) ?_)
      simp only [zT, zB]
      exact ⟨Mn - (k + 1), by omega, k + 1, K + 1, by omega, rfl, by omega, by simp [zC h68, zC h75, zC h77, zC h78, trim, ZC, -Zd, ↓hsh, HH1, encB, HH2, hbs, hen]⟩
     ·by_cases hBq : lk = lb
      ·by_cases hC : cx < 0
       ·have h1 : ¬ (lk : Int) < (lb : Int) := by omega
        have h2 : ((lk : Int) == (lb : Int)) = true := by simp; omega
        have h3 := hC
        rw [if_pos (.inr ⟨hBq, hC⟩)] at hbs
        have HH3 := zA hwK (zA e77 (zA h68e (zA hll (zA henb (zA hllb (zA e78 (zA h1 (zA h2 h3))))))))
        refine zR (zO (by simp [zC h68, zC h75, zC h77, zC h78, trim, ZC, -Zd, ↓hsh, HH1, encB, HH3]; rfl) ?_)
        simp only [zT, zB]
        refine zS ?_
        refine zR (zO (by simp [zC h68, zC h75, zC h77, zC h78, trim, ZC, -Zd, ↓hsh, HH1, encB, HH3]; rfl) ?_)
        simp only [zT, zB]
        refine Zi (x := true) (by simp [zC h68, zC h75, zC h77, zC h78, trim, ZC, -Zd, ↓hsh, HH1, encB, HH3]) ?_
        refine zR (zO (by simp [zC h68, zC h75, zC h77, zC h78, trim, ZC, -Zd, ↓hsh, HH1, encB, HH3]; rfl) ?_)
        simp only [zT, zB]
        refine zR (zO (by simp [zC h68, zC h75, zC h77, zC h78, trim, ZC, -Zd, ↓hsh, HH1, encB, HH3]; rfl) ?_)
        simp only [zT, zB]
        exact ⟨Mn - (k + 1), by omega, k + 1, K + 1, by omega, rfl, by omega, by simp [zC h68, zC h75, zC h77, zC h78, trim, ZC, -Zd, ↓hsh, HH1, encB, HH3, hbs, hen]⟩
       ·have h1 : ¬ (lk : Int) < (lb : Int) := by omega
        have h2 : ((lk : Int) == (lb : Int)) = true := by simp; omega
        have h3 := hC
        rw [if_neg (by omega)] at hbs
        have HH4 := zA hwK (zA e77 (zA h68e (zA hll (zA henb (zA hllb (zA e78 (zA h1 (zA h2 h3))))))))
        refine zR (zO (by simp [zC h68, zC h75, zC h77, zC h78, trim, ZC, -Zd, ↓hsh, HH1, encB, HH4]; rfl) ?_)
        simp only [zT, zB]
        refine zS ?_
        refine zR (zO (by simp [zC h68, zC h75, zC h77, zC h78, trim, ZC, -Zd, ↓hsh, HH1, encB, HH4]; rfl) ?_)
        simp only [zT, zB]
        refine Zi (x := false) (by simp [zC h68, zC h75, zC h77, zC h78, trim, ZC, -Zd, ↓hsh, HH1, encB, HH4]) ?_
        refine zK ?_
        simp only [zT, zB]
        refine zR (zO (by simp [zC h68, zC h75, zC h77, zC h78, trim, ZC, -Zd, ↓hsh, HH1, encB, HH4]; rfl) ?_)
        simp only [zT, zB]
        exact ⟨Mn - (k + 1), by omega, k + 1, K + 1, by omega, rfl, by omega, by simp [zC h68, zC h75, zC h77, zC h78, trim, ZC, -Zd, ↓hsh, HH1, encB, HH4, hbs]⟩
      ·have h1 : ¬ (lk : Int) < (lb : Int) := by omega
       have h2 : ((lk : Int) == (lb : Int)) = false := by simp; omega
       rw [if_neg (by omega)] at hbs
       have HH5 := zA hwK (zA e77 (zA h68e (zA hll (zA henb (zA hllb (zA e78 (zA h1 h2)))))))
       refine zR (zO (by simp [zC h68, zC h75, zC h77, zC h78, trim, ZC, -Zd, ↓hsh, HH1, encB, HH5]; rfl) ?_)
       simp only [zT, zB]
       refine zS ?_
       refine zR (zO (by simp [zC h68, zC h75, zC h77, zC h78, trim, ZC, -Zd, ↓hsh, HH1, encB, HH5]; rfl) ?_)
       simp only [zT, zB]
       refine Zi (x := false) (by simp [zC h68, zC h75, zC h77, zC h78, trim, ZC, -Zd, ↓hsh, HH1, encB, HH5]) ?_
       refine zK ?_
       simp only [zT, zB]
       refine zR (zO (by simp [zC h68, zC h75, zC h77, zC h78, trim, ZC, -Zd, ↓hsh, HH1, encB, HH5]; rfl) ?_)
       simp only [zT, zB]
       exact ⟨Mn - (k + 1), by omega, k + 1, K + 1, by omega, rfl, by omega, by simp [zC h68, zC h75, zC h77, zC h78, trim, ZC, -Zd, ↓hsh, HH1, encB, HH5, hbs]⟩
  ·have hlt := of_decide_eq_false hlt
   obtain rfl : k = Mn := by omega
   have hbl := fun b => bestA_lt (ms := ms) hpb k b
   generalize bestA ms pl k = bo at *
   refine ZI ?_
   simp only [zT, zB, if_true, if_false, reduceIte, Nat.reduceEqDiff, Nat.succ_ne_zero, Nat.one_ne_zero, Nat.zero_ne_one]
   refine zS ?_
   refine zS ?_
   rcases bo with _ | b
   ·refine zR (zO (by simp [zC h68, zC h75, zC h77, zC h78, trim, ZC, -Zd, ↓hsh, HH1, encB]; rfl) ?_)
    simp only [zT, zB]
    refine Zi (x := true) (by simp) ?_
    refine zS ?_
    refine zR (zO (by simp [zC h68, zC h75, zC h77, zC h78, trim, ZC, -Zd, ↓hsh, HH1, encB]; rfl) ?_)
    simp only [zT, zB]
    refine Zg ?_
    simp [zC h68, zC h75, zC h77, zC h78, trim, ZC, -Zd, ↓hsh, HH1, encB, agV]
   ·obtain ⟨hb1, hb2, _⟩ := hbl b rfl
    have hneb := bits_ne (show b < 1024 by omega) hb2
    have henb : encL (Zp b) = .vl ((Zp b).map rN) false := by unfold encL; rw [if_neg (by simpa using hneb)]
    refine zR (zO (by simp [zC h68, zC h75, zC h77, zC h78, trim, ZC, -Zd, ↓hsh, HH1, encB, henb]; rfl) ?_)
    simp only [zT, zB]
    refine Zi (x := false) (by simp) ?_
    refine zK ?_
    simp only [zT, zB]
    refine zS ?_
    refine zR (zO (by simp [zC h68, zC h75, zC h77, zC h78, trim, ZC, -Zd, ↓hsh, HH1, encB, henb]; rfl) ?_)
    simp only [zT, zB]
    refine Zg ?_
    simp [zC h68, zC h75, zC h77, zC h78, trim, ZC, -Zd, ↓hsh, HH1, encB, henb, agV]
 ·unfold depV at e75
  unfold againstV
  rw [if_neg hE] at e75 ⊢
  have hEb : (depE u d its rs != 0) = true := by simpa using hE
  generalize depE u d its rs = E at *
  have HH6 := zA h68 (zA h75 (zA h77 (zA h78 (zA lx (zA rx (zA fx (zA cx1 (zA cx2 (zA ly (zA ry (zA fy (zA cy1 (zA cy2 (zA e75 hEb))))))))))))))
  refine zS ?_
  refine zR (zO (by simp [zC h68, zC h75, zC h77, zC h78, trim, ZC, -Zd, HH6]; rfl) ?_)
  simp only [zT, zB]
  refine zS ?_
  refine zR (zO (by simp [zC h68, zC h75, zC h77, zC h78, trim, ZC, -Zd, HH6]; rfl) ?_)
  simp only [zT, zB]
  refine zS ?_
  refine zS ?_
  refine zR (zO (by simp [zC h68, zC h75, zC h77, zC h78, trim, ZC, -Zd, HH6]; rfl) ?_)
  simp only [zT, zB]
  refine Zi (x := true) (by simp) ?_
  refine zS ?_
  refine zR (zO (by simp [zC h68, zC h75, zC h77, zC h78, trim, ZC, -Zd, HH6]; rfl) ?_)
  simp only [zT, zB]
  refine Zg ?_
  simp [zC h68, zC h75, zC h77, zC h78, trim, ZC, -Zd, HH6]
def o47 : List Za → Option Za
  | [.agg [.int .i64 u, .int .i64 d], x, y] => match Zm x, Zm y with
    | some r, some s => match Zf dI5' r, Zf dM3 s with
      | some its, some rs => if its.length ≤ 1000 ∧ rs.length ≤ 1000 then some (againstV u d its rs) else none
      | _, _ => none
    | _, _ => none
  | _ => none
theorem o47_eq {x y : Za} {its : List It5} {rs : List Rm3} (hx : Zm x = some (its.map rI5)) (hy : Zm y = some (rs.map rM3)) (hl : its.length ≤ 1000 ∧ rs.length ≤ 1000) (u d : Int) : o47 [.agg [I u, I d], x, y] = some (againstV u d its rs) := by
  have h1 := YB (d := dI5') (enc := rI5) (fun _ => rfl) its
  have h2 := YB (d := dM3) (enc := rM3) (fun _ => rfl) rs
  simp only [o47, hx, hy, h1, h2]; rw [if_pos hl]
def DX5 : Nat → Option CFn := upd DX4 15 false (o47)
theorem DX5_ok : ZB Tryz.prog GG DX5 := ZD Zh DX4_ok fun args v ho => by
  unfold o47 at ho; split at ho <;> (try simp only [reduceCtorEq] at ho)
  rename_i u d x y
  split at ho <;> (try simp only [reduceCtorEq] at ho)
  rename_i r s hx hy
  split at ho <;> (try simp only [reduceCtorEq] at ho)
  rename_i its rs hr hs
  split at ho <;> (try simp only [reduceCtorEq] at ho)
  rename_i hg
  simp only [Option.some.injEq] at ho
  subst ho
  have hx' : Zm x = some (its.map rI5) := by rw [hx, ZY (enc := rI5) dI5'_eq hr]
  have hy' : Zm y = some (rs.map rM3) := by rw [hy, ZY (enc := rM3) dM3_eq hs]
  exact a47 Tryz.prog DX4 rfl rfl rfl rfl rfl u d x y its rs hx' hy' hg
end
section
attribute [local simp] Yj ZU YP YM XR Xo disj YY holes YZ ZX Xb news eqB Xc eqA YK Xi toCs ofCs stA Yz ZV Yr dI1 dI2 dI3 dI5 elt
attribute [local simp] st_any st_und st_agg st_tup XX st_int XU st_ref st_pv XT st_sl st_vl XV st_mp st_fn XW st_yld co_any co_und co_agg co_tup co_bool co_int co_nilp co_ref co_pv co_nils co_sl co_vl co_nilm co_mp co_fn co_nilf co_yld
attribute [local simp] Function.comp_def List.all_append List.all_map Ya Zq frzG gather getR lim lop Yk lowA lowR okG putG putR rbB_none rbB_row resG rowAt takeG
theorem frz_rI5 (h : Zj) (d : Nat) (l : List It5) : Zf (Zf (frz false h (d + 1))) (l.map rI5) = some (l.map rI5) := Zu _ fun r hr => Zu _ fun x hx => by
  obtain ⟨y, _, rfl⟩ := List.mem_map.1 hr
  simp only [rI5, List.mem_cons, List.not_mem_nil, or_false] at hx
  rcases hx with rfl | rfl | rfl | rfl | rfl <;> rfl
theorem frz_rM3 (h : Zj) (d : Nat) (l : List Rm3) : Zf (Zf (frz false h (d + 1))) (l.map rM3) = some (l.map rM3) := Zu _ fun r hr => Zu _ fun x hx => by
  obtain ⟨y, _, rfl⟩ := List.mem_map.1 hr
  simp only [rM3, List.mem_cons, List.not_mem_nil, or_false] at hx
  rcases hx with rfl | rfl | rfl <;> rfl
theorem a45 (P : Program) (T : Nat → Option CFn) (hT : T 6 = some c6) (c : Za) (l : List It5) (hc : Zm c = some (l.map rI5)) (hl : l.length ≤ 1000) : Zr P T 6 [c] [] fun v h => frz false h 5 v = some (.vl (l.map rI5) l.isEmpty) := by
 have lx := Zv hc
 rw [List.length_map] at lx
 refine Zl hT (Zo rfl) ?_
 simp only [oo, om, op, og, ci, cl, c6]
 rcases l with _ | ⟨p, l⟩
 ·rw [List.map_nil] at hc
  have hcc : c = .nils ∨ ∃ t, c = .vl [] t := by
   cases c <;> simp [Zm] at hc ⊢ <;> first | exact hc | trivial
  rcases hcc with rfl | ⟨t, rfl⟩
  ·refine zS ?_
   refine zR (zO (by simp [lx, -Zd]; rfl) ?_)
   simp only [zT, zB]
   refine zS ?_
   refine zR (zO (by simp [lx, -Zd]; rfl) ?_)
   simp only [zT, zB]
   refine Zg ?_
   simp [lx, -Zd, trim, appK, Zm]
  ·refine zS ?_
   refine zR (zO (by simp [lx, -Zd]; rfl) ?_)
   simp only [zT, zB]
   refine zS ?_
   refine zR (zO (by simp [lx, -Zd]; rfl) ?_)
   simp only [zT, zB]
   refine Zg ?_
   simp [lx, -Zd, trim, appK, Zm]
 ·obtain ⟨t1, rfl⟩ := ZG hc (k := 0) (by simp)
  have hr2 : ((p :: l).map rI5).all (fun r => r.length == 5) = true := by simp [rI5]
  have hst : ((p :: l).map rI5).all (fun r => r.all ZE) = true := by simp [rI5]
  have hfz : ∀ H n, Zf (Zf (frz false H (n + 1))) ((p :: l).map rI5) = some ((p :: l).map rI5) := fun H n => frz_rI5 H n (p :: l)
  have htk : ((p :: l).map rI5).take ((p :: l).length) = (p :: l).map rI5 := List.take_of_length_le (by simp)
  have hlen : ((p :: l).map rI5).length = (p :: l).length := by simp
  have hpos : 0 < (p :: l).length := by simp
  have hLn : ¬ (p :: l) = [] := by simp
  have hie : (p :: l).isEmpty = false := rfl
  have hl6 : (p :: l).length ≤ 1048576 := by omega
  generalize (p :: l) = L at *
  have HH1 := zA lx (zA hr2 (zA hst (zA hfz (zA htk (zA hpos (zA hLn (zA hie hl6)))))))
  refine zS ?_
  refine zR (zO (by simp [-Zd, HH1]; rfl) ?_)
  simp only [zT, zB]
  refine zS ?_
  refine zR (zO (by simp [-Zd, HH1]; rfl) ?_)
  simp only [zT, zB]
  refine Zg ?_
  simp [-Zd, HH1, trim, appK, Zm]
def o45 : List Za → Option Za
  | [c] => match Zm c with
    | some rs => match Zf dI5' rs with
      | some l => if l.length ≤ 1000 then some (.vl (l.map rI5) l.isEmpty) else none
      | none => none
    | none => none
  | _ => none
theorem o45_eq {c : Za} {l : List It5} (hc : Zm c = some (l.map rI5)) (hl : l.length ≤ 1000) : o45 [c] = some (.vl (l.map rI5) l.isEmpty) := by
  have := YB (d := dI5') (enc := rI5) (fun _ => rfl) l
  simp only [o45, hc, this]; rw [if_pos hl]
theorem a46 (P : Program) (T : Nat → Option CFn) (hT : T 7 = some c7) (c : Za) (l : List Rm3) (hc : Zm c = some (l.map rM3)) (hl : l.length ≤ 1000) : Zr P T 7 [c] [] fun v h => frz false h 5 v = some (.vl (l.map rM3) l.isEmpty) := by
 have lx := Zv hc
 rw [List.length_map] at lx
 refine Zl hT (Zo rfl) ?_
 simp only [oo, om, op, og, ci, cl, c7]
 rcases l with _ | ⟨p, l⟩
 ·rw [List.map_nil] at hc
  have hcc : c = .nils ∨ ∃ t, c = .vl [] t := by
   cases c <;> simp [Zm] at hc ⊢ <;> first | exact hc | trivial
  rcases hcc with rfl | ⟨t, rfl⟩
  ·refine zS ?_
   refine zR (zO (by simp [lx, -Zd]; rfl) ?_)
   simp only [zT, zB]
   refine zS ?_
   refine zR (zO (by simp [lx, -Zd]; rfl) ?_)
   simp only [zT, zB]
   refine Zg ?_
   simp [lx, -Zd, trim, appK, Zm]
  ·refine zS ?_
   refine zR (zO (by simp [lx, -Zd]; rfl) ?_)
   simp only [zT, zB]
   refine zS ?_
   refine zR (zO (by simp [lx, -Zd]; rfl) ?_)
   simp only [zT, zB]
   refine Zg ?_
   simp [lx, -Zd, trim, appK, Zm]
 ·obtain ⟨t1, rfl⟩ := ZG hc (k := 0) (by simp)
  have hr2 : ((p :: l).map rM3).all (fun r => r.length == 3) = true := by simp [rM3]
  have hst : ((p :: l).map rM3).all (fun r => r.all ZE) = true := by simp [rM3]
  have hfz : ∀ H n, Zf (Zf (frz false H (n + 1))) ((p :: l).map rM3) = some ((p :: l).map rM3) := fun H n => frz_rM3 H n (p :: l)
  have htk : ((p :: l).map rM3).take ((p :: l).length) = (p :: l).map rM3 := List.take_of_length_le (by simp)
  have hlen : ((p :: l).map rM3).length = (p :: l).length := by simp
  have hpos : 0 < (p :: l).length := by simp
  have hLn : ¬ (p :: l) = [] := by simp
  have hie : (p :: l).isEmpty = false := rfl
  have hl6 : (p :: l).length ≤ 1048576 := by omega
  generalize (p :: l) = L at *
  have HH1 := zA lx (zA hr2 (zA hst (zA hfz (zA htk (zA hpos (zA hLn (zA hie hl6)))))))
  refine zS ?_
  refine zR (zO (by simp [-Zd, HH1]; rfl) ?_)
  simp only [zT, zB]
  refine zS ?_
  refine zR (zO (by simp [-Zd, HH1]; rfl) ?_)
  simp only [zT, zB]
  refine Zg ?_
  simp [-Zd, HH1, trim, appK, Zm]
def o46 : List Za → Option Za
  | [c] => match Zm c with
    | some rs => match Zf dM3 rs with
      | some l => if l.length ≤ 1000 then some (.vl (l.map rM3) l.isEmpty) else none
      | none => none
    | none => none
  | _ => none
theorem o46_eq {c : Za} {l : List Rm3} (hc : Zm c = some (l.map rM3)) (hl : l.length ≤ 1000) : o46 [c] = some (.vl (l.map rM3) l.isEmpty) := by
  have := YB (d := dM3) (enc := rM3) (fun _ => rfl) l
  simp only [o46, hc, this]; rw [if_pos hl]
def DY1 : Nat → Option CFn := upd DX5 6 false (o45)
theorem DY1_ok : ZB Tryz.prog GG DY1 := ZD Zh DX5_ok fun args v ho => by
  unfold o45 at ho; split at ho <;> (try simp only [reduceCtorEq] at ho)
  rename_i c
  split at ho <;> (try simp only [reduceCtorEq] at ho)
  rename_i rs hx
  split at ho <;> (try simp only [reduceCtorEq] at ho)
  rename_i l hl
  split at ho <;> (try simp only [reduceCtorEq] at ho)
  rename_i hg
  simp only [Option.some.injEq] at ho
  subst ho
  exact a45 Tryz.prog DX5 rfl c l (by rw [hx, ZY (enc := rI5) dI5'_eq hl]) hg
def DY2 : Nat → Option CFn := upd DY1 7 false (o46)
theorem DY2_ok : ZB Tryz.prog GG DY2 := ZD Zh DY1_ok fun args v ho => by
  unfold o46 at ho; split at ho <;> (try simp only [reduceCtorEq] at ho)
  rename_i c
  split at ho <;> (try simp only [reduceCtorEq] at ho)
  rename_i rs hx
  split at ho <;> (try simp only [reduceCtorEq] at ho)
  rename_i l hl
  split at ho <;> (try simp only [reduceCtorEq] at ho)
  rename_i hg
  simp only [Option.some.injEq] at ho
  subst ho
  exact a46 Tryz.prog DY1 rfl c l (by rw [hx, ZY (enc := rM3) dM3_eq hl]) hg
def o42 : List Za → Option Za
  | [.int .i64 a, .int .i64 b] => some (.agg [I a, I b])
  | _ => none
theorem a42 (P : Program) (T : Nat → Option CFn) (hT : T 17 = some c17) (a b : Int) : Zr P T 17 [I a, I b] [] fun v h => frz false h 5 v = some (.agg [I a, I b]) := by
 refine Zl hT (Zo rfl) ?_
 simp only [oo, om, op, og, ci, cl, c17]
 refine zS ?_
 refine zR (zO (by simp; rfl) ?_)
 simp only [zT, zB]
 refine zS ?_
 refine zR (zO (by simp; rfl) ?_)
 simp only [zT, zB]
 refine Zg ?_
 simp
def DY3 : Nat → Option CFn := upd DY2 17 false (o42)
theorem DY3_ok : ZB Tryz.prog GG DY3 := ZD Zh DY2_ok fun args v ho => by
  unfold o42 at ho; split at ho <;> simp at ho
  rename_i a b
  subst ho
  exact a42 Tryz.prog DY2 rfl  a b
end
end
end Go.Proofs.YtpebmjeomlgmdaaGreatDoor.Tab
namespace Go.Proofs.YtpebmjeomlgmdaaGreatDoor.Tab
open Go Go.Abs Go.Proofs
def subB : Nat → (Nat → Bool) → (Nat → Bool) → Bool
  | 0, _, _ => true
  | m + 1, a, R => subB m a R && (!a m || R m)
def hasN : Nat → (Nat → Int) → (Nat → Bool) → Int
  | 0, _, _ => 0
  | m + 1, pl, R => hasN m pl R + if R m then pl m else 0
def needN (m : Nat) : List (Nat → Bool) → (Nat → Bool) → Int
  | [], _ => 0
  | a :: ps, R => needN m ps R + if subB m a R then 1 else 0
def Hall (m : Nat) (ps : List (Nat → Bool)) (pl : Nat → Int) : Prop := ∀ R, needN m ps R ≤ hasN m pl R
theorem subB_iff : ∀ {m : Nat} {a R : Nat → Bool}, subB m a R = true ↔ ∀ k, k < m → a k = true → R k = true
  | 0, _, _ => by simp [subB]
  | m + 1, a, R => by
    simp only [subB, Bool.and_eq_true, subB_iff (m := m), Bool.or_eq_true, Bool.not_eq_true']
    constructor
    · rintro ⟨h1, h2⟩ k hk ha
      by_cases e : k = m
      · subst e; rcases h2 with h2 | h2
        · rw [h2] at ha; cases ha
        · exact h2
      · exact h1 k (by omega) ha
    · intro h
      refine ⟨fun k hk ha => h k (by omega) ha, ?_⟩
      cases e : a m with
      | false => exact .inl rfl
      | true => exact .inr (h m (by omega) e)
theorem has_mod : ∀ (m : Nat) (pl : Nat → Int) (A B : Nat → Bool), hasN m pl (fun k => A k || B k) + hasN m pl (fun k => A k && B k) = hasN m pl A + hasN m pl B
  | 0, _, _, _ => rfl
  | m + 1, pl, A, B => by
    have := has_mod m pl A B
    simp only [hasN]
    rcases Bool.eq_false_or_eq_true (A m) with hA | hA <;> rcases Bool.eq_false_or_eq_true (B m) with hB | hB <;> simp [hA, hB] <;> omega
theorem need_mod (m : Nat) : ∀ (ps : List (Nat → Bool)) (A B : Nat → Bool), needN m ps A + needN m ps B ≤ needN m ps (fun k => A k || B k) + needN m ps (fun k => A k && B k)
  | [], _, _ => by simp [needN]
  | a :: ps, A, B => by
    have := need_mod m ps A B
    have h1 : subB m a A = true → subB m a (fun k => A k || B k) = true := by
      simp only [subB_iff]; intro h k hk ha; simp [h k hk ha]
    have h2 : subB m a B = true → subB m a (fun k => A k || B k) = true := by
      simp only [subB_iff]; intro h k hk ha; simp [h k hk ha]
    have h3 : subB m a A = true → subB m a B = true → subB m a (fun k => A k && B k) = true := by
      simp only [subB_iff]; intro h g k hk ha; simp [h k hk ha, g k hk ha]
    simp only [needN]
    cases e1 : subB m a A <;> cases e2 : subB m a B <;> cases e3 : subB m a (fun k => A k || B k) <;> cases e4 : subB m a (fun k => A k && B k) <;> simp_all <;> omega
theorem has_congr : ∀ {m : Nat} {pl pl' : Nat → Int} {A B : Nat → Bool}, (∀ k, k < m → (if A k then pl k else 0) = (if B k then pl' k else 0)) → hasN m pl A = hasN m pl' B
  | 0, _, _, _, _, _ => rfl
  | m + 1, pl, pl', A, B, h => by
    simp only [hasN]
    rw [has_congr (m := m) fun k hk => h k (by omega), h m (by omega)]
theorem need_mono {m : Nat} {A B : Nat → Bool} (h : ∀ k, k < m → A k = true → B k = true) : ∀ ps : List (Nat → Bool), needN m ps A ≤ needN m ps B
  | [] => by simp [needN]
  | a :: ps => by
    have := need_mono h ps
    have h1 : subB m a A = true → subB m a B = true := by
      simp only [subB_iff]; intro g k hk ha; exact h k hk (g k hk ha)
    simp only [needN]
    cases e1 : subB m a A <;> cases e2 : subB m a B <;> simp_all <;> omega
theorem need_nonneg {m : Nat} {R : Nat → Bool} : ∀ ps : List (Nat → Bool), 0 ≤ needN m ps R
  | [] => Int.le_refl _
  | a :: ps => by
    have := need_nonneg (m := m) (R := R) ps
    simp only [needN]; split <;> omega
theorem has_none : ∀ (m : Nat) (pl : Nat → Int), hasN m pl (fun _ => false) = 0
  | 0, _ => rfl
  | m + 1, pl => by simp [hasN, has_none m pl]
def takeP (pl : Nat → Int) (k : Nat) : Nat → Int := fun j => if j = k then pl j - 1 else pl j
theorem has_take : ∀ {m : Nat} {pl : Nat → Int} {k : Nat} {R : Nat → Bool}, hasN m (takeP pl k) R = hasN m pl R - if k < m ∧ R k = true then 1 else 0
  | 0, _, _, _ => by simp [hasN]
  | m + 1, pl, k, R => by
    have := has_take (m := m) (pl := pl) (k := k) (R := R)
    simp only [hasN, this, takeP]
    by_cases e : m = k
    · subst e
      cases R m <;> simp <;> omega
    · have : (k < m + 1 ∧ R k = true) ↔ (k < m ∧ R k = true) := and_congr_left fun _ => by omega
      simp only [if_neg e, this]
      omega
theorem hall_nil {m : Nat} {pl : Nat → Int} (h : ∀ k, k < m → 0 ≤ pl k) : Hall m [] pl := by
  intro R
  show 0 ≤ _
  induction m with
  | zero => exact Int.le_refl _
  | succ m ih =>
    have := ih fun k hk => h k (by omega)
    have := h m (by omega)
    simp only [hasN]; split <;> omega
theorem hall_tail {m : Nat} {a : Nat → Bool} {ps : List (Nat → Bool)} {pl : Nat → Int} (h : Hall m (a :: ps) pl) : Hall m ps pl := fun R => by
  have := h R
  simp only [needN] at this
  split at this <;> omega
theorem hall_back {m : Nat} {a : Nat → Bool} {ps : List (Nat → Bool)} {pl : Nat → Int} {k : Nat} (hk : k < m) (ha : a k = true) (h : Hall m ps (takeP pl k)) : Hall m (a :: ps) pl := fun R => by
  have h1 := h R
  rw [has_take] at h1
  simp only [needN]
  by_cases e : subB m a R = true
  · have := subB_iff.1 e k hk ha
    simp [hk, this] at h1
    rw [if_pos e]; omega
  · rw [if_neg e]
    split at h1 <;> omega
theorem hall_step {m : Nat} {a : Nat → Bool} {ps : List (Nat → Bool)} {pl : Nat → Int} (hp : ∀ k, k < m → 0 ≤ pl k) (h : Hall m (a :: ps) pl) : ∃ k, k < m ∧ a k = true ∧ 0 < pl k ∧ Hall m ps (takeP pl k) := by
  apply Classical.byContradiction
  intro hno
  have hps := hall_tail h
  have tight : ∀ n, n ≤ m → ∃ R, needN m ps R = hasN m pl R ∧ ∀ k, k < n → a k = true → 0 < pl k → R k = true := by
    intro n
    induction n with
    | zero => exact fun _ => ⟨fun _ => false, by have := hps fun _ => false; rw [has_none] at this ⊢; have := need_nonneg (m := m) (R := fun _ => false) ps; omega, fun k hk => by omega⟩
    | succ n ih =>
      intro hn
      obtain ⟨R, hR, hRk⟩ := ih (by omega)
      by_cases c : a n = true ∧ 0 < pl n
      · have hbad : ¬ Hall m ps (takeP pl n) := fun hh => hno ⟨n, by omega, c.1, c.2, hh⟩
        obtain ⟨S, hS⟩ := Classical.not_forall.1 hbad
        rw [has_take] at hS
        have hS2 := hps S
        have hSn : S n = true := by
          cases e : S n with
          | true => rfl
          | false => simp [e] at hS; omega
        have hSt : needN m ps S = hasN m pl S := by
          have : n < m := by omega
          simp [hSn, this] at hS; omega
        refine ⟨fun k => R k || S k, ?_, fun k hk ha hk0 => ?_⟩
        · have m1 := has_mod m pl R S
          have m2 := need_mod m ps R S
          have u1 := hps fun k => R k || S k
          have u2 := hps fun k => R k && S k
          omega
        · by_cases e : k = n
          · subst e; simp [hSn]
          · simp [hRk k (by omega) ha hk0]
      · refine ⟨R, hR, fun k hk ha hk0 => ?_⟩
        by_cases e : k = n
        · subst e; exact absurd ⟨ha, hk0⟩ c
        · exact hRk k (by omega) ha hk0
  obtain ⟨R, hR, hRk⟩ := tight m (Nat.le_refl m)
  have hfin := h fun k => R k || decide (pl k = 0)
  have e1 : hasN m pl (fun k => R k || decide (pl k = 0)) = hasN m pl R := has_congr fun k _ => by
    by_cases z : pl k = 0
    · simp [z]
    · simp [z]
  have e2 : subB m a (fun k => R k || decide (pl k = 0)) = true := subB_iff.2 fun k hk ha => by
    by_cases z : pl k = 0
    · simp [z]
    · have := hp k hk
      simp [hRk k hk ha (by omega)]
  have e3 := need_mono (m := m) (A := R) (B := fun k => R k || decide (pl k = 0)) (fun k _ hr => by simp [hr]) ps
  simp only [needN, e2, if_true, e1] at hfin
  omega
end Go.Proofs.YtpebmjeomlgmdaaGreatDoor.Tab
namespace Go.Proofs.YtpebmjeomlgmdaaGreatDoor.Tab
open Go Go.Abs Go.Proofs
set_option linter.unusedSimpArgs false
set_option linter.unusedVariables false
def aB (x : Nat) : Nat → Bool := fun k => x.testBit k
def psL (ms : List Nat) (l : List Nat) : List (Nat → Bool) := l.map fun i => aB (ms.getD i 0)
def plF (pl : List Int) : Nat → Int := fun k => pl.getD k 0
theorem subB_N {m x R : Nat} (hx : x < 2 ^ m) : subB m (aB x) (aB R) = subN x R := by
  rw [Bool.eq_iff_iff, subB_iff, subN_iff]
  constructor
  · intro h i hi
    have him : i < m := by
      rcases Nat.lt_or_ge i m with h1 | h1
      · exact h1
      · rw [Nat.testBit_lt_two_pow (Nat.lt_of_lt_of_le hx (Nat.pow_le_pow_right (by decide) h1))] at hi; simp at hi
    exact h i him hi
  · intro h k _ hk; exact h k hk
theorem needN_L {m R : Nat} {ms : List Nat} (hms : ∀ x ∈ ms, x < 2 ^ m) : ∀ l : List Nat, needN m (psL ms l) (aB R) = (needL ms R l : Int)
  | [] => rfl
  | i :: l => by
    have hx : ms.getD i 0 < 2 ^ m := by
      rw [List.getD_eq_getElem?_getD]
      cases e : ms[i]? with
      | none => exact Nat.two_pow_pos m
      | some y => exact hms y (List.mem_of_getElem? e)
    show needN m (psL ms l) (aB R) + (if subB m (aB (ms.getD i 0)) (aB R) = true then 1 else 0) = _
    rw [needN_L hms l, needL_cons, subB_N hx]
    split <;> omega
theorem hasL_app (pl : List Int) : ∀ (a b : List Nat), hasL pl (a ++ b) = hasL pl a + hasL pl b
  | [], b => by simp [hasL]
  | x :: a, b => by simp only [List.cons_append, hasL, hasL_app pl a b]; omega
theorem hasN_range (pl : List Int) (R : Nat) : ∀ j, hasN j (plF pl) (aB R) = hasL pl ((List.range j).filter fun i => R.testBit i)
  | 0 => rfl
  | j + 1 => by
    show hasN j (plF pl) (aB R) + (if aB R j = true then plF pl j else 0) = _
    rw [List.range_succ, List.filter_append, hasL_app, hasN_range pl R j]
    have ha : aB R j = R.testBit j := rfl
    simp only [List.filter_cons, List.filter_nil]
    by_cases h : R.testBit j = true
    · rw [if_pos (by rw [ha]; exact h), if_pos h]; simp [hasL, plF]
    · rw [if_neg (by rw [ha]; exact h), if_neg h]; simp [hasL]
theorem hasN_more {pl : Nat → Int} {R : Nat → Bool} {m : Nat} : ∀ j, (∀ k, m ≤ k → k < m + j → R k = false) → hasN (m + j) pl R = hasN m pl R
  | 0, _ => rfl
  | j + 1, h => by
    show hasN (m + j) pl R + (if R (m + j) = true then pl (m + j) else 0) = _
    rw [hasN_more j fun k h1 h2 => h k h1 (by omega), h (m + j) (by omega) (by omega)]
    simp
theorem hasN_L {m R : Nat} (hm : m ≤ 10) (hR : R < 2 ^ m) (pl : List Int) : hasN m (plF pl) (aB R) = hasL pl (Zp R) := by
  have h := hasN_more (pl := plF pl) (R := aB R) (m := m) (10 - m) fun k h1 _ => Nat.testBit_lt_two_pow (Nat.lt_of_lt_of_le hR (Nat.pow_le_pow_right (by decide) h1))
  rw [← h, show m + (10 - m) = 10 by omega, hasN_range]; rfl
theorem bits_of (m : Nat) (R : Nat → Bool) : ∃ Rn, Rn < 2 ^ m ∧ ∀ k, k < m → aB Rn k = R k := by
  refine ⟨mask ((List.range m).filter R), mask_lt fun i hi => by simp at hi; exact hi.1, fun k hk => ?_⟩
  unfold aB
  rw [mask_bit]
  cases h : R k with
  | true => simp [hk, h]
  | false => simp [h]
theorem need_congr {m : Nat} {A B : Nat → Bool} (h : ∀ k, k < m → A k = B k) (ps : List (Nat → Bool)) : needN m ps A = needN m ps B :=
  Int.le_antisymm (need_mono (fun k hk ha => by rw [← h k hk]; exact ha) ps) (need_mono (fun k hk hb => by rw [h k hk]; exact hb) ps)
theorem fits_hall {ms : List Nat} {pl : List Int} (hpl : pl.length ≤ 10) (hms : ∀ x ∈ ms, x < 2 ^ pl.length) (L : Nat) : YX ms L pl = true ↔ Hall pl.length (psL ms (Zp L)) (plF pl) := by
  unfold YX Hall
  rw [List.all_eq_true]
  simp only [List.mem_range, decide_eq_true_eq]
  constructor
  · intro h R
    obtain ⟨Rn, h1, h2⟩ := bits_of pl.length R
    have h3 := h Rn h1
    rw [← needN_L hms, ← hasN_L hpl h1] at h3
    rw [← need_congr h2, ← has_congr (A := aB Rn) (B := R) (pl := plF pl) (pl' := plF pl) fun k hk => by rw [h2 k hk]]
    exact h3
  · intro h R hR
    have := h (aB R)
    rw [needN_L hms, hasN_L hpl hR] at this
    exact this
theorem leftM_bit {n : Nat} (hn : n ≤ 10) : ∀ (k i : Nat), k ≤ n → (YQ n k).testBit i = (decide (k ≤ i) && decide (i < n))
  | 0, i, _ => by simp [YQ, Nat.testBit_two_pow_sub_one]
  | k + 1, i, h => by
    have h1 := leftM_lt hn k
    have h2 := two_le hn
    have h3 : 2 ^ k < 2 ^ n := Nat.pow_lt_pow_right (by decide) (by omega)
    simp only [YQ]
    rw [ldN_bit (by omega) (by omega), leftM_bit hn k i (by omega), Nat.testBit_two_pow, Bool.eq_iff_iff]
    simp only [Bool.and_eq_true, decide_eq_true_eq, Bool.not_eq_true', decide_eq_false_iff_not]
    omega
theorem leftM_bits {n k : Nat} (hn : n ≤ 10) (hk : k ≤ n) : Zp (YQ n k) = List.range' k (n - k) := by
  refine sorted_ext (fun x => Nat.lt_irrefl x) (fun x y z => Nat.lt_trans) (bits_asc _) List.pairwise_lt_range' fun x => ?_
  rw [mem_bits, leftM_bit hn k x hk, List.mem_range'_1]
  simp only [Bool.and_eq_true, decide_eq_true_eq]
  omega
theorem left_cons {n k : Nat} (hn : n ≤ 10) (hk : k < n) : Zp (YQ n k) = k :: Zp (YQ n (k + 1)) := by
  rw [leftM_bits hn (by omega), leftM_bits hn (by omega), show n - k = (n - (k + 1)) + 1 by omega, List.range'_succ]
theorem plF_dec {p : List Int} {z : Nat} (hz : z < p.length) : plF (XE p z) = takeP (plF p) z := by
  funext j
  unfold plF XE takeP
  rw [List.getD_eq_getElem?_getD, List.getElem?_set]
  by_cases h : z = j
  · subst h; simp [hz]
  · have h2 : ¬ j = z := fun e => h e.symm
    simp [h, h2, List.getD_eq_getElem?_getD]
theorem dec_bd {p : List Int} {z : Nat} (h : ∀ x ∈ p, 0 ≤ x ∧ x ≤ 1000) (h0 : 0 < p.getD z 0) : ∀ x ∈ XE p z, 0 ≤ x ∧ x ≤ 1000 := decP_bd h (by omega)
theorem ms_lt {ms : List Nat} {m : Nat} (hms : ∀ x ∈ ms, x < 2 ^ m) (k : Nat) : ms.getD k 0 < 2 ^ m := by
  rw [List.getD_eq_getElem?_getD]
  cases e : ms[k]? with
  | none => exact Nat.two_pow_pos m
  | some y => exact hms y (List.mem_of_getElem? e)
theorem mayK_bit (u d : Int) (x : It5) (rs : List Rm3) : ∀ (k j : Nat), (mayK u d x rs k).testBit j = (decide (j < k) && mayB u d x (rs.getD j (0, 0, 0)))
  | 0, j => by simp [mayK]
  | k + 1, j => by
    simp only [mayK]
    by_cases h : mayB u d x (rs.getD k (0, 0, 0)) = true
    · rw [if_pos h, Nat.testBit_or, mayK_bit u d x rs k j, Nat.testBit_two_pow, Bool.eq_iff_iff]
      simp only [Bool.or_eq_true, Bool.and_eq_true, decide_eq_true_eq]
      constructor
      · rintro (⟨h1, h2⟩ | rfl)
        · exact ⟨by omega, h2⟩
        · exact ⟨by omega, h⟩
      · rintro ⟨h1, h2⟩
        by_cases e : k = j
        · exact .inr e
        · exact .inl ⟨by omega, h2⟩
    · rw [if_neg h, mayK_bit u d x rs k j, Bool.eq_iff_iff]
      simp only [Bool.and_eq_true, decide_eq_true_eq]
      constructor
      · rintro ⟨h1, h2⟩; exact ⟨by omega, h2⟩
      · rintro ⟨h1, h2⟩
        refine ⟨?_, h2⟩
        by_cases e : j = k
        · subst e; exact absurd h2 h
        · omega
theorem mays_get {u d : Int} {its : List It5} {rs : List Rm3} {i : Nat} (hi : i < its.length) : (mays u d its rs).getD i 0 = mayF u d rs (its.getD i (0, 0, 0, 0, 0)) := by
  unfold mays
  simp [List.getD, List.getElem?_map, List.getElem?_eq_getElem hi]
end Go.Proofs.YtpebmjeomlgmdaaGreatDoor.Tab
namespace Go.Proofs.YtpebmjeomlgmdaaGreatDoor.Tab
open Go Go.Abs Go.Proofs
set_option linter.unusedSimpArgs false
set_option linter.unusedVariables false
theorem bits_range {n s : Nat} (hn : n ≤ 10) (hs : s < 2 ^ n) : Zp s = (List.range n).filter fun i => s.testBit i := by
  refine sorted_ext (fun x => Nat.lt_irrefl x) (fun x y z => Nat.lt_trans) (bits_asc _) (List.Pairwise.filter _ List.pairwise_lt_range) fun x => ?_
  constructor
  · intro h
    rw [List.mem_filter, List.mem_range]
    exact ⟨bits_below hs h, (mem_bits.1 h).2⟩
  · intro h
    rw [List.mem_filter, List.mem_range] at h
    exact mem_bits.2 ⟨by omega, h.2⟩
theorem bestA_none {ms : List Nat} {pl : List Int} : ∀ (k : Nat), bestA ms pl k = none → ∀ s < k, YX ms s pl = true
  | 0, _, s, h => absurd h (by omega)
  | k + 1, hb, s, h => by
    simp only [bestA] at hb
    split at hb
    · rename_i hf
      by_cases e : s = k
      · rw [e]; exact hf
      · exact bestA_none k hb s (by omega)
    · split at hb
      · simp at hb
      · split at hb <;> simp at hb
theorem bestA_some {ms : List Nat} {pl : List Int} : ∀ (k b : Nat), bestA ms pl k = some b → b < k ∧ YX ms b pl = false ∧ ∀ s < k, YX ms s pl = false → (Zp b).length ≤ (Zp s).length
  | 0, b, hb => by simp [bestA] at hb
  | k + 1, b, hb => by
    simp only [bestA] at hb
    split at hb
    · rename_i hf
      obtain ⟨h1, h2, h3⟩ := bestA_some k b hb
      exact ⟨by omega, h2, fun s hs hfs => by
        by_cases e : s = k
        · rw [e, hf] at hfs; simp at hfs
        · exact h3 s (by omega) hfs⟩
    · rename_i hf
      have hf' : YX ms k pl = false := by simpa using hf
      split at hb
      · rename_i e
        simp at hb; subst hb
        exact ⟨by omega, hf', fun s hs hfs => by
          by_cases e2 : s = k
          · rw [e2]; exact Nat.le_refl _
          · have := bestA_none k e s (by omega); rw [this] at hfs; simp at hfs⟩
      · rename_i c e
        obtain ⟨h1, h2, h3⟩ := bestA_some k c e
        split at hb
        · rename_i hlt
          simp at hb; subst hb
          exact ⟨by omega, hf', fun s hs hfs => by
            by_cases e2 : s = k
            · rw [e2]; exact Nat.le_refl _
            · have := h3 s (by omega) hfs; omega⟩
        · rename_i hlt
          simp at hb; subst hb
          exact ⟨by omega, h2, fun s hs hfs => by
            by_cases e2 : s = k
            · rw [e2]; omega
            · exact h3 s (by omega) hfs⟩
end Go.Proofs.YtpebmjeomlgmdaaGreatDoor.Tab
namespace Go.Proofs.YtpebmjeomlgmdaaGreatDoor.Tab
open Go Go.Abs Go.Proofs
set_option maxRecDepth 100000
set_option maxHeartbeats 4000000
set_option linter.unusedSimpArgs false
set_option linter.unusedVariables false
section
attribute [local simp] Yv Ye XB XC YD YJ XD YL Xh YC Zf orcF Xv YV Xx Xt YU YA rb_vl rb_pv Xr YT YS YR Xw Xs Xu XZ rb_fn slE XP Xk Yp ZQ XG List.range_succ List.range_zero List.range'_succ List.range'_zero Yi Yg ZK Yl ZR ZT Xm Yf dop CV.ev Ys ZA ZM Xa fI_eq Yt Yc ZN Zz Out.v Xy List.replicate_succ zT zB arI ZO Abs.rowAt Xq allV toV toC ofV ofC Builtin.min_ Builtin.min2 Builtin.max_ Builtin.max2 Xz XA resA XS Xj Yh Yx Yy Yw Zd
section
attribute [local simp] Yj ZU YP YM XR Xo disj YY holes YZ ZX Xb news eqB Xc eqA YK Xi toCs ofCs stA Yz ZV Yr dI1 dI2 dI3 dI5 elt
attribute [local simp] st_any st_und st_agg st_tup XX st_int XU st_ref st_pv XT st_sl st_vl XV st_mp st_fn XW st_yld co_any co_und co_agg co_tup co_bool co_int co_nilp co_ref co_pv co_nils co_sl co_vl co_nilm co_mp co_fn co_nilf co_yld
attribute [local simp] Ya Zq lop Yk
attribute [local simp] Yv Ye XB XC YD YJ XD YL Xh YC Zf orcF Xv YV Xx Xt YU YA rb_vl rb_pv Xr YT YS YR Xw Xs Xu XZ rb_fn slE XP Xk Yp ZQ XG List.range_succ List.range_zero List.range'_succ List.range'_zero Yi Yg ZK Yl ZR ZT Xm Yf dop CV.ev cellsOf Ys ZA ZM Xa fI_eq Yt Yc ZN Zz Out.v Xy List.replicate_succ zT zB arI ZO Abs.rowAt Xq allV toV toC ofV ofC Builtin.min_ Builtin.min2 Builtin.max_ Builtin.max2 Xz XA resA XS Xj Yh Yx Yy Yw Zd
attribute [local simp] Yj ZU YP YM XR Xo disj YY holes YZ ZX Xb news eqB Xc eqA YK Xi toCs ofCs stA ZE Yz ZV Yr dI1 dI2 dI3 dI5 elt
def o34 : List Za → Option Za
  | [x, y] => match dNs x, dNs y with
    | some a, some b => if a.length ≤ 1000 ∧ b.length ≤ 1000 then some (.bool (a == b)) else none
    | _, _ => none
  | _ => none
theorem a34 (P : Program) (T : Nat → Option CFn) (hT : T 14 = some c14) (x y : Za) (a b : List Nat) (hx : dNs x = some a) (hy : dNs y = some b) (ha : a.length ≤ 1000) (hb : b.length ≤ 1000) : Zr P T 14 [x, y] [] fun v h => frz true h 5 v = some (.bool (a == b)) := by
 have lx := dNs_len hx
 have ly := dNs_len hy
 refine Zl hT (Zo rfl) ?_
 simp only [oo, om, op, og, ci, cl, c14]
 refine zS ?_
 refine zR (zO (by simp [lx, ly, -Zd]; rfl) ?_)
 simp only [zT, zB]
 refine zS ?_
 refine zS ?_
 refine zR (zO (by simp [lx, ly, -Zd]; rfl) ?_)
 simp only [zT, zB]
 by_cases hL : a.length = b.length
 ·refine Zi (x := false) (by simp [hL] <;> omega) ?_
  refine zK ?_
  simp only [zT, zB]
  refine zS ?_
  refine zS ?_
  refine zR (zO (by simp [lx, ly, -Zd]; rfl) ?_)
  simp only [zT, zB]
  refine zL ?_
  refine ZL (fun m σ => ∃ (k : Nat) (i : Int), i = k ∧ a.length - k = m ∧ k ≤ a.length ∧ (a.drop k == b.drop k) = (a == b) ∧ σ = ⟨[x, y, .any, .any, .any, I i, .any, .any, .any, .any, .any, .any, .any, .any, .any, .any, .any, .any, .any, .any, .any, .any, .any, .any, .any, .any], []⟩) ?_ (a.length - 0) _ ⟨0, 0, rfl, rfl, Nat.zero_le _, rfl, by simp⟩
  rintro m σ ⟨k, i, hik, rfl, hkl, hR, rfl⟩
  refine zS ?_
  refine zS ?_
  refine zR (zO (by simp [lx, ly, -Zd]; rfl) ?_)
  simp only [zT, zB]
  refine Zk (x := decide (i < (a.length : Int))) (by simp) (fun hlt => ?_) (fun hlt => ?_)
  ·have hlt := of_decide_eq_true hlt
   have hk0 : k < a.length := by omega
   have hkb : k < b.length := by omega
   obtain ⟨t1, rfl⟩ := dNs_get hx hk0
   obtain ⟨t2, rfl⟩ := dNs_get hy hkb
   have g1 : (a.map rN)[k]? = some (rN a[k]) := by rw [List.getElem?_map, List.getElem?_eq_getElem hk0]; rfl
   have g1' : ∀ h, (a.map rN)[k]'h = rN a[k] := fun h => by simp
   have g2 : (b.map rN)[k]? = some (rN b[k]) := by rw [List.getElem?_map, List.getElem?_eq_getElem hkb]; rfl
   have g2' : ∀ h, (b.map rN)[k]'h = rN b[k] := fun h => by simp
   have hi0 : 0 ≤ i := by omega
   have htn : i.toNat = k := by omega
   have hwi : W .i64 (i + 1) = i + 1 := ZH (by omega)
   rw [List.drop_eq_getElem_cons hk0, List.drop_eq_getElem_cons hkb, List.cons_beq_cons] at hR
   generalize a[k] = u at *
   generalize b[k] = v at *
   have HH1 := zA lx (zA ly (zA hi0 (zA htn (zA hk0 (zA hkb (zA hwi (zA g1 (zA g1' (zA g2 g2')))))))))
   refine zK ?_
   simp only [zT, zB]
   refine zS ?_
   refine zL ?_
   refine zS ?_
   refine Yd (by simp (maxSteps := 3000000) [-Zd, -List.getElem?_map, -List.getElem_map, rN, HH1]; rfl) ?_
   simp only [zT, zB]
   by_cases hE : u = v
   ·have hab : (u == v) = true := by simpa using hE
    rw [hab, Bool.true_and] at hR
    subst hE
    refine Zi (x := false) (by simp) ?_
    refine zK ?_
    simp only [zT, zB]
    refine zR (zO (by simp [-Zd, -List.getElem?_map, -List.getElem_map, rN, HH1]; rfl) ?_)
    simp only [zT, zB]
    exact ⟨a.length - (k + 1), by omega, k + 1, i + 1, by omega, rfl, by omega, hR, by simp [-Zd, -List.getElem?_map, -List.getElem_map, rN, HH1]⟩
   ·have hab : (u == v) = false := by simpa using hE
    rw [hab, Bool.false_and] at hR
    rw [← hR]
    refine Zi (x := true) (by simp <;> omega) ?_
    refine zS ?_
    refine zR (zO (by simp [-Zd, -List.getElem?_map, -List.getElem_map, rN, HH1]; rfl) ?_)
    simp only [zT, zB]
    refine Zg ?_
    simp [-Zd, -List.getElem?_map, -List.getElem_map, rN, HH1]
  ·have hlt := of_decide_eq_false hlt
   obtain rfl : k = a.length := by omega
   rw [List.drop_length, hL, List.drop_length] at hR
   rw [← hR]
   refine ZI ?_
   simp only [zT, zB, if_true, if_false, reduceIte, Nat.reduceEqDiff, Nat.succ_ne_zero, Nat.one_ne_zero, Nat.zero_ne_one]
   refine zS ?_
   refine zR (zO (by simp [lx, ly, -Zd]; rfl) ?_)
   simp only [zT, zB]
   refine Zg ?_
   simp [lx, ly, -Zd]
 ·have hab : (a == b) = false := by rw [beq_eq_false_iff_ne]; rintro rfl; exact hL rfl
  rw [hab]
  refine Zi (x := true) (by simp [hL] <;> omega) ?_
  refine zS ?_
  refine zR (zO (by simp [lx, ly, -Zd]; rfl) ?_)
  simp only [zT, zB]
  refine Zg ?_
  simp [lx, ly, -Zd]
def o66 : List Za → Option Za
  | [.agg [.int .i64 l, .int .i64 h], .agg [.int .i64 a, .int .i64 b]] => some (.bool (liesB l h a b))
  | _ => none
theorem a66 (P : Program) (T : Nat → Option CFn) (hT : T 75 = some c75) (l r a b : Int) : Zr P T 75 [.agg [I l, I r], .agg [I a, I b]] [] fun v h => v = .bool (liesB l r a b) ∧ h = [] := by
 refine Zl hT (Zo rfl) ?_
 simp only [oo, om, op, og, ci, cl, c75]
 refine zS (zR (zO (by simp; rfl) ?_))
 simp only [zT, zB]
 unfold liesB
 by_cases hx : a ≤ l
 ·refine zS (zR (zO (by simp [hx]; rfl) ?_))
  simp only [zT, zB]
  refine Zg ?_
  simp [hx]
 ·refine zS (zR (zO (by simp [hx]; rfl) ?_))
  simp only [zT, zB]
  refine Zg ?_
  simp [hx]
def rhRun (u d rl rh ll lh most : Int) : Nat → Int → Int → Int → Int → Int
  | 0, _, _, _, n => n
  | f + 1, hour, lo, hi, n => if decide (hour ≤ most) && liesB lo hi ll lh then rhRun u d rl rh ll lh most f (hour + 1) (hr u d lo rl) (hr u d hi rh) hour else n
def o28 : List Za → Option Za
  | [.agg [.int .i64 u, .int .i64 d], .agg [.int .i64 sl, .int .i64 sh], .agg [.int .i64 rl, .int .i64 rh], .agg [.int .i64 ll, .int .i64 lh], .int .i64 most] =>
    if 0 ≤ most ∧ most ≤ 1000 then some (.int .i64 (rhRun u d rl rh ll lh most (most.toNat + 1) 0 sl sh (-1))) else none
  | _ => none
theorem a28 (P : Program) (T : Nat → Option CFn) (hT : T 56 = some c56) (h66 : T 75 = some { c75 with frsh := true, orc := o66 }) (h61 : T 76 = some { c76 with frsh := true, orc := o61 }) (u d sl sh rl rh ll lh most : Int) (hm0 : 0 ≤ most) (hm1 : most ≤ 1000) :
  Zr P T 56 [.agg [I u, I d], .agg [I sl, I sh], .agg [I rl, I rh], .agg [I ll, I lh], I most] [] fun v h => v = I (rhRun u d rl rh ll lh most (most.toNat + 1) 0 sl sh (-1)) ∧ h = [] := by
 refine Zl hT (Zo rfl) ?_
 simp only [oo, om, op, og, ci, cl, c56]
 refine zS (zR (zO (by simp; rfl) ?_))
 simp only [zT, zB]
 refine zS (Yd (by simp [lop, Yk, Ya, Zq]; rfl) ?_)
 simp only [zT, zB]
 refine zS (zS (zR (zO (by simp; rfl) ?_)))
 simp only [zT, zB]
 refine zL ?_
 generalize hR : rhRun u d rl rh ll lh most (most.toNat + 1) 0 sl sh (-1) = R
 refine ZL (fun q σ => ∃ (k : Nat) (i lo hi n : Int), i = k ∧ q = most.toNat + 1 - k ∧ k ≤ most.toNat + 1 ∧ rhRun u d rl rh ll lh most (most.toNat + 1 - k) i lo hi n = R ∧
  σ = ⟨[.any, .any, .any, .any, I most, .ref 0 0 0, .any, .ref 2 0 0, .ref 3 0 0, .any, .any, I n, .ref 5 0 0, I i, .any, .any, .any, .any, .any, .any, .any, .any, .any, .any, .any, .any, .any, .any, .any, .any, .any], [some (.row 2 [[I u, I d]]), some (.row 2 [[I sl, I sh]]), some (.row 2 [[I rl, I rh]]), some (.row 2 [[I ll, I lh]]), none, some (.row 2 [[I lo, I hi]]), none, none]⟩) ?_ (most.toNat + 1 - 0) _ ⟨0, 0, sl, sh, -1, rfl, rfl, Nat.zero_le _, hR, by simp⟩
 clear hR
 rintro q σ ⟨k, i, lo, hi, n, hik, rfl, hk, hn, rfl⟩
 have hw : W .i64 (i + 1) = i + 1 := ZH (by omega)
 by_cases him : i ≤ most
 ·rw [show most.toNat + 1 - k = (most.toNat + 1 - (k + 1)) + 1 by omega, rhRun] at hn
  simp only [him, decide_true, Bool.true_and] at hn
  refine zS (zS (zR (zO (by simp [him, lop, Yk, Ya, Zq, zC h66, h66, o66]; rfl) ?_)))
  simp only [zT, zB]
  refine Zk (x := liesB lo hi ll lh) (by simp) (fun hc => ?_) (fun hc => ?_)
  ·rw [if_pos hc] at hn
   refine zK ?_
   simp only [zT, zB]
   refine zS (zL (zR (zO (by simp [lop, Yk, Ya, Zq, zC h61, h61, o61]; rfl) ?_)))
   simp only [zT, zB]
   refine zR (zO (by simp [hw]; rfl) ?_)
   simp only [zT, zB]
   refine ⟨most.toNat + 1 - (k + 1), by omega, k + 1, i + 1, hr u d lo rl, hr u d hi rh, i, by omega, rfl, by omega, hn, ?_⟩
   simp
  ·rw [hc] at hn
   simp only [Bool.false_eq_true, if_false] at hn
   refine ZI ?_
   simp only [zT, zB, if_true]
   refine zS (zR (zO (by simp; rfl) ?_))
   simp only [zT, zB]
   refine Zg ?_
   simp [hn]
 ·have hk2 : most.toNat + 1 - k = 0 := by omega
  rw [hk2, rhRun] at hn
  refine zS (zS (zR (zO (by simp [him]; rfl) ?_)))
  simp only [zT, zB]
  refine Zi (x := false) (by simp) ?_
  refine ZI ?_
  simp only [zT, zB, if_true]
  refine zS (zR (zO (by simp; rfl) ?_))
  simp only [zT, zB]
  refine Zg ?_
  simp [hn]
theorem moist_span (a b : Int) : YW a b = spanB a b 0 300 := by
  rw [Bool.eq_iff_iff]
  simp only [YW, spanB, wB, inB, List.all_cons, List.all_nil, Bool.and_true, Bool.and_eq_true, decide_eq_true_eq]
  omega
theorem rule_rB (u d : Int) : ruleB u d = rB u d := by simp [ruleB, rB, wB, inB]
theorem span_in {a b : Int} (h : spanB a b 0 300 = true) : In300 a ∧ In300 b := by
  simp only [spanB, inB, Bool.and_eq_true, decide_eq_true_eq] at h
  unfold In300; omega
theorem rB_rate {u d : Int} (h : rB u d = true) : Rate u ∧ Rate d := by
  simp only [rB, inB, Bool.and_eq_true, decide_eq_true_eq] at h
  unfold Rate; omega
theorem hours_same {u d sl sh rl rh ll lh : Int} (hu : Rate u) (hd : Rate d) (h1 : In300 sl) (h2 : In300 sh) (h3 : In300 rl) (h4 : In300 rh) : ∀ (j k : Nat), j + k = 500 →
    rhRun u d rl rh ll lh 500 (j + 1) k (twI u d sl rl k) (twI u d sh rh k) ((k : Int) - 1) = if liesB (twI u d sl rl k) (twI u d sh rh k) ll lh then hRun u d sl sh rl rh ll lh j k else (k : Int) - 1
  | 0, k, hk => by
    have : k = 500 := by omega
    subst this
    rw [rhRun]
    cases hb : liesB (twI u d sl rl (500 : Nat)) (twI u d sh rh (500 : Nat)) ll lh
    · simp [hb]
    · simp [hb, rhRun, hRun]
  | j + 1, k, hk => by
    have hk5 : (k : Int) ≤ 500 := by omega
    rw [rhRun]
    simp only [hk5, decide_true, Bool.true_and]
    cases hb : liesB (twI u d sl rl k) (twI u d sh rh k) ll lh
    · simp
    · have i1 := twI_in (u := u) (d := d) (frm := sl) (room := rl) (n := k) hu hd h1 h3 (by omega) (by omega)
      have i2 := twI_in (u := u) (d := d) (frm := sh) (room := rh) (n := k) hu hd h2 h4 (by omega) (by omega)
      have s1 := hr_step1 (u := u) (d := d) (room := rl) hu hd i1
      have s2 := hr_step1 (u := u) (d := d) (room := rh) hu hd i2
      have t1 := step_last (frm := sl) (room := rl) (n := k) hu hd (by omega)
      have t2 := step_last (frm := sh) (room := rh) (n := k) hu hd (by omega)
      have ih := hours_same (ll := ll) (lh := lh) hu hd h1 h2 h3 h4 j (k + 1) (by omega)
      have hc : ((k + 1 : Nat) : Int) = (k : Int) + 1 := by omega
      rw [hc] at ih
      rw [s1, s2, t1, t2]
      simp only [if_true]
      have w1 := tw_twI (room := rl) (n := (k : Int) + 1) hu hd h1 (by omega) (by omega)
      have w2 := tw_twI (room := rh) (n := (k : Int) + 1) hu hd h2 (by omega) (by omega)
      rw [hRun, w1, w2]
      rw [show (k : Int) + 1 - 1 = k by omega] at ih
      exact ih
where
  step_last {u d frm room n : Int} (hu : Rate u) (hd : Rate d) (hn : 0 ≤ n) : step1 u d (twI u d frm room n) room = twI u d frm room (n + 1) := by
    have a := Int.mul_nonneg hu.1 hn
    have b := Int.mul_nonneg hd.1 hn
    have p0 : u = 0 → u * n = 0 := fun h => by rw [h, Int.zero_mul]
    have q0 : d = 0 → d * n = 0 := fun h => by rw [h, Int.zero_mul]
    unfold Rate at hu hd
    unfold twI step1
    rw [show u * (n + 1) = u * n + u by rw [Int.mul_add, Int.mul_one], show d * (n + 1) = d * n + d by rw [Int.mul_add, Int.mul_one]]
    generalize u * n = p at *
    generalize d * n = q at *
    by_cases hc : frm < room
    · simp only [hc, if_true]
      by_cases h5 : min room (frm + p) < room
      · simp only [h5, if_true]; omega
      · simp only [h5, if_false]; omega
    · simp only [hc, if_false]
      by_cases h5 : max room (frm - q) < room
      · simp only [h5, if_true]; omega
      · simp only [h5, if_false]; omega
theorem hours_law (u d sl sh rl rh ll lh : Int) : 
    (rB u d = true → spanB sl sh 0 300 = true → spanB rl rh 0 300 = true → spanB ll lh 0 300 = true → rhRun u d rl rh ll lh 500 501 0 sl sh (-1) = if liesB sl sh ll lh then hRun u d sl sh rl rh ll lh 500 0 else -1) := by
  intro h1 h2 h3 h4
  obtain ⟨hu, hd⟩ := rB_rate h1
  obtain ⟨a1, a2⟩ := span_in h2
  obtain ⟨a3, a4⟩ := span_in h3
  have := hours_same (ll := ll) (lh := lh) hu hd a1 a2 a3 a4 500 0 rfl
  simpa [tw0] using this
end
end
end Go.Proofs.YtpebmjeomlgmdaaGreatDoor.Tab
namespace Go.Abs
open Go
section
variable {P : Program} {G : Nat → Option (List Za)} {T : Nat → Option CFn} {t t' : List Za} {h h' : Zj}
theorem loose_lr {E : Env} {w : World} {cs : Array Value} (hl : E.LR w t cs) : E.LR w (t.map Xp) cs := by
 refine ⟨by simpa using hl.1, fun j h1 h2 => ?_⟩
 rw [List.getElem_map]
 exact vr_looseA (hl.2 j (by simpa using h1) h2)
theorem ren_loose {base : Nat} : Ren P G base ⟨t, h⟩ ⟨t.map Xp, h⟩ := fun _ _ _ _ E _ _ _ _ hR => ⟨E, hR.nx, loose_lr hR.lr, hR.mks⟩
theorem ren_kl {base : Nat} (keep : Nat) (K : List Nat) (hK : K.Nodup) (hb : base ≤ K.length) (hpre : K.take base = List.range base) (ht : Zf (YI K h 5) ((Xj t keep).map Xp) = some t') (hh : Zf (renB K h) K = some h') : Ren P G base ⟨t, h⟩ ⟨t', h'⟩ :=
 (ren_kill keep).trans (ren_loose.trans (ren_keep K hK hb hpre ht hh))
theorem loose_any : Xp .any = .any := rfl
theorem loose_und : Xp .und = .und := rfl
theorem loose_int (k : IntKind) (n : Int) : Xp (.int k n) = .int k n := rfl
theorem loose_bool (b : Bool) : Xp (.bool b) = .bool b := rfl
theorem loose_nils : Xp .nils = .nils := rfl
theorem loose_nilp : Xp .nilp = .nilp := rfl
theorem loose_nilm : Xp .nilm = .nilm := rfl
theorem loose_nilf : Xp .nilf = .nilf := rfl
theorem loose_vl (rs : List (List Za)) (b : Bool) : Xp (.vl rs b) = .vl rs b := rfl
theorem loose_pv (r : List Za) (o : Nat) : Xp (.pv r o) = .pv r o := rfl
theorem loose_ref (i k o : Nat) : Xp (.ref i k o) = .ref i k o := rfl
theorem loose_sl (i k n : Nat) (b : Bool) : Xp (.sl i k n b) = .sl i k n false := rfl
theorem loose_mp (i : Nat) : Xp (.mp i) = .mp i := rfl
theorem loose_yld (i : Nat) : Xp (.yld i) = .yld i := rfl
theorem loose_agg (xs : List Za) : Xp (.agg xs) = .agg xs := rfl
theorem loose_tup (xs : List Za) : Xp (.tup xs) = .tup xs := rfl
theorem loose_fn (f : Nat) (a b : List Za) : Xp (.fn f a b) = .fn f a b := rfl
theorem XM {x : Za} {rs : List (List Za)} (hx : Zm x = some rs) : Xp x = x := by cases x <;> simp [Zm] at hx <;> rfl
end
end Go.Abs
namespace Go.Proofs.YtpebmjeomlgmdaaGreatDoor.Tab
open Go Go.Abs Go.Proofs
set_option maxRecDepth 100000
set_option maxHeartbeats 4000000
set_option linter.unusedSimpArgs false
set_option linter.unusedVariables false
noncomputable section
attribute [local simp] Yv Ye XB XC YD YJ XD YL Xh YC Zf orcF Xv YV Xx Xt YU YA rb_vl rb_pv Xr YT YS YR Xw Xs Xu XZ rb_fn slE XP Xk Yp ZQ XG List.range_succ List.range_zero List.range'_succ List.range'_zero Yi Yg ZK Yl ZR ZT Xm Yf dop CV.ev Ys ZA ZM Xa fI_eq Yt Yc ZN Zz Out.v Xy List.replicate_succ zT zB arI ZO Abs.rowAt Xq allV toV toC ofV ofC Builtin.min_ Builtin.min2 Builtin.max_ Builtin.max2 Xz XA resA XS Xj Yh Yx Yy Yw Zd
section
attribute [local simp] Yj ZU YP YM XR Xo disj YY holes YZ ZX Xb news eqB Xc eqA YK Xi toCs ofCs stA Yz ZV Yr dI1 dI2 dI3 dI5 elt
attribute [local simp] st_any st_und st_agg st_tup XX st_int XU st_ref st_pv XT st_sl st_vl XV st_mp st_fn XW st_yld co_any co_und co_agg co_tup co_bool co_int co_nilp co_ref co_pv co_nils co_sl co_vl co_nilm co_mp co_fn co_nilf co_yld
attribute [local simp] Ya Zq lop Yk
theorem eq69n (x y : Operand) (a0 a1 a2 a3 a4 b0 b1 b2 b3 b4 : Int) : Xf Tryz.prog (do eqGuard .neq 69 x y (.agg #[.int .i64 a0, .int .i64 a1, .int .i64 a2, .int .i64 a3, .int .i64 a4]) (.agg #[.int .i64 b0, .int .i64 b1, .int .i64 b2, .int .i64 b3, .int .i64 b4]); binOp .neq 69 (.agg #[.int .i64 a0, .int .i64 a1, .int .i64 a2, .int .i64 a3, .int .i64 a4]) (.agg #[.int .i64 b0, .int .i64 b1, .int .i64 b2, .int .i64 b3, .int .i64 b4])) = some (.bool (!(((a0 == b0) && ((a1 == b1) && true)) && (((a2 == b2) && ((a3 == b3) && true)) && ((a4 == b4) && true))))) := by
  have h := evalS_eqv (P := Tryz.prog) (ne := true) (t := 69) (x := x) (y := y) (xs := #[.int .i64 a0, .int .i64 a1, .int .i64 a2, .int .i64 a3, .int .i64 a4]) (ys := #[.int .i64 b0, .int .i64 b1, .int .i64 b2, .int .i64 b3, .int .i64 b4]) (b := (((a0 == b0) && ((a1 == b1) && true)) && (((a2 == b2) && ((a3 == b3) && true)) && ((a4 == b4) && true)))) (by kernel_rfl) (by kernel_rfl)
  simpa only [if_true, if_false, Bool.false_eq_true, Bool.bne_true, Bool.bne_false] using h
theorem eq51n (x y : Operand) (a0 a1 a2 b0 b1 b2 : Int) : Xf Tryz.prog (do eqGuard .neq 51 x y (.agg #[.int .i64 a0, .int .i64 a1, .int .i64 a2]) (.agg #[.int .i64 b0, .int .i64 b1, .int .i64 b2]); binOp .neq 51 (.agg #[.int .i64 a0, .int .i64 a1, .int .i64 a2]) (.agg #[.int .i64 b0, .int .i64 b1, .int .i64 b2])) = some (.bool (!(((a0 == b0) && ((a1 == b1) && true)) && ((a2 == b2) && true)))) := by
  have h := evalS_eqv (P := Tryz.prog) (ne := true) (t := 51) (x := x) (y := y) (xs := #[.int .i64 a0, .int .i64 a1, .int .i64 a2]) (ys := #[.int .i64 b0, .int .i64 b1, .int .i64 b2]) (b := (((a0 == b0) && ((a1 == b1) && true)) && ((a2 == b2) && true))) (by kernel_rfl) (by kernel_rfl)
  simpa only [if_true, if_false, Bool.false_eq_true, Bool.bne_true, Bool.bne_false] using h
theorem a9 (T : Nat → Option CFn) (hT : T 9 = some c9) (x y : Za) (rs : List (List Za)) (hx : Zm x = some rs) (hy : Zm y = some rs) (hl : rs.length ≤ 1000) (hr : ∀ r ∈ rs, ∃ y0 y1 y2 y3 y4 : Int, r = [I y0, I y1, I y2, I y3, I y4]) : Zr Tryz.prog T 9 [x, y] [] fun v h => v = .bool true ∧ h = [] := by
  refine Zl hT (Zo rfl) ?_
  simp only [oo, om, op, og, ci, cl, c9]
  have lx := Zv hx
  have ly := Zv hy
  refine zS (zR (zO (by simp; rfl) ?_))
  simp only [zT, zB]
  refine zS (zS (zR (zO (by simp [lx, ly, -Zd]; rfl) ?_)))
  simp only [zT, zB]
  refine Zi (x := false) (by simp) ?_
  refine zK ?_
  simp only [zT, zB]
  refine zS (zS (zR (zO (by simp; rfl) ?_)))
  simp only [zT, zB]
  refine zL ?_
  refine ZL (fun m σ => ∃ (k : Nat) (i : Int), i = k ∧ m = rs.length - k ∧ k ≤ rs.length ∧
     σ = ⟨[x, y, .any, .any, .any, I i, .any, .any, .any, .any, .any, .any, .any, .any, .any, .any, .any, .any, .any, .any, .any, .any, .any, .any, .any, .any], []⟩) ?_ (rs.length - 0) _ ⟨0, 0, rfl, rfl, Nat.zero_le _, by simp⟩
  rintro m σ ⟨k, i, hik, rfl, hk, rfl⟩
  have h0 : 0 ≤ i := by omega
  have htn : i.toNat = k := by omega
  refine zS (zS (zR (zO (by simp [lx, -Zd]; rfl) ?_)))
  simp only [zT, zB]
  refine Zk (x := decide (i < rs.length)) (by simp) (fun hlt => ?_) (fun hge => ?_)
  · refine zK ?_
    simp only [zT, zB]
    have hlt' : k < rs.length := by have := of_decide_eq_true hlt; omega
    obtain ⟨t1, rfl⟩ := ZG hx hlt'
    obtain ⟨t2, rfl⟩ := ZG hy hlt'
    obtain ⟨y0, y1, y2, y3, y4, hrk⟩ := hr _ (List.getElem_mem hlt')
    refine zS (zL ?_)
    refine zS (Yd (by simp [Abs.toCs, h0, htn, hlt', hrk, eq69n]; rfl) ?_)
    simp only [zT, zB]
    refine Zi (x := false) (by simp) ?_
    refine zK ?_
    simp only [zT, zB]
    refine zR (zO (by simp; rfl) ?_)
    simp only [zT, zB]
    refine ⟨rs.length - (k + 1), by omega, k + 1, i + 1, by omega, rfl, by omega, ?_⟩
    simp [ZH (show -1000000 ≤ i + 1 ∧ i + 1 ≤ 1000000 by omega)]
  · refine ZI ?_
    simp only [zT, zB, if_true]
    refine zS (zR (zO (by simp; rfl) ?_))
    simp only [zT, zB]
    refine Zg ?_
    simp
theorem a10 (T : Nat → Option CFn) (hT : T 10 = some c10) (x y : Za) (rs : List (List Za)) (hx : Zm x = some rs) (hy : Zm y = some rs) (hl : rs.length ≤ 1000) (hr : ∀ r ∈ rs, ∃ y0 y1 y2 : Int, r = [I y0, I y1, I y2]) : Zr Tryz.prog T 10 [x, y] [] fun v h => v = .bool true ∧ h = [] := by
  refine Zl hT (Zo rfl) ?_
  simp only [oo, om, op, og, ci, cl, c10]
  have lx := Zv hx
  have ly := Zv hy
  refine zS (zR (zO (by simp; rfl) ?_))
  simp only [zT, zB]
  refine zS (zS (zR (zO (by simp [lx, ly, -Zd]; rfl) ?_)))
  simp only [zT, zB]
  refine Zi (x := false) (by simp) ?_
  refine zK ?_
  simp only [zT, zB]
  refine zS (zS (zR (zO (by simp; rfl) ?_)))
  simp only [zT, zB]
  refine zL ?_
  refine ZL (fun m σ => ∃ (k : Nat) (i : Int), i = k ∧ m = rs.length - k ∧ k ≤ rs.length ∧
     σ = ⟨[x, y, .any, .any, .any, I i, .any, .any, .any, .any, .any, .any, .any, .any, .any, .any, .any, .any, .any, .any, .any, .any, .any, .any, .any, .any], []⟩) ?_ (rs.length - 0) _ ⟨0, 0, rfl, rfl, Nat.zero_le _, by simp⟩
  rintro m σ ⟨k, i, hik, rfl, hk, rfl⟩
  have h0 : 0 ≤ i := by omega
  have htn : i.toNat = k := by omega
  refine zS (zS (zR (zO (by simp [lx, -Zd]; rfl) ?_)))
  simp only [zT, zB]
  refine Zk (x := decide (i < rs.length)) (by simp) (fun hlt => ?_) (fun hge => ?_)
  · refine zK ?_
    simp only [zT, zB]
    have hlt' : k < rs.length := by have := of_decide_eq_true hlt; omega
    obtain ⟨t1, rfl⟩ := ZG hx hlt'
    obtain ⟨t2, rfl⟩ := ZG hy hlt'
    obtain ⟨y0, y1, y2, hrk⟩ := hr _ (List.getElem_mem hlt')
    refine zS (zL ?_)
    refine zS (Yd (by simp [Abs.toCs, h0, htn, hlt', hrk, eq51n]; rfl) ?_)
    simp only [zT, zB]
    refine Zi (x := false) (by simp) ?_
    refine zK ?_
    simp only [zT, zB]
    refine zR (zO (by simp; rfl) ?_)
    simp only [zT, zB]
    refine ⟨rs.length - (k + 1), by omega, k + 1, i + 1, by omega, rfl, by omega, ?_⟩
    simp [ZH (show -1000000 ≤ i + 1 ∧ i + 1 ≤ 1000000 by omega)]
  · refine ZI ?_
    simp only [zT, zB, if_true]
    refine zS (zR (zO (by simp; rfl) ?_))
    simp only [zT, zB]
    refine Zg ?_
    simp
def EA2_9 : Nat → Option CFn := upd DY3 9 true (oSame 5)
theorem EA2_9_ok : ZB Tryz.prog GG EA2_9 := ZD Zh DY3_ok fun args v ho => by
  unfold oSame at ho; split at ho <;> (try simp at ho)
  rename_i x y
  split at ho <;> simp at ho
  rename_i rs rs' hx hy
  obtain ⟨⟨hl, hr, he⟩, rfl⟩ := ho
  have e : rs' = rs := allB_rows rs rs' he fun r h => (hr r h).2
  subst e
  refine (a9 DY3 rfl x y rs' hx hy hl fun r h => ints5 (hr r h).1 (hr r h).2).mono ?_
  rintro v h ⟨rfl, rfl⟩
  rfl
def EA2 : Nat → Option CFn := upd EA2_9 10 true (oSame 3)
theorem EA2_ok : ZB Tryz.prog GG EA2 := ZD Zh EA2_9_ok fun args v ho => by
  unfold oSame at ho; split at ho <;> (try simp at ho)
  rename_i x y
  split at ho <;> simp at ho
  rename_i rs rs' hx hy
  obtain ⟨⟨hl, hr, he⟩, rfl⟩ := ho
  have e : rs' = rs := allB_rows rs rs' he fun r h => (hr r h).2
  subst e
  refine (a10 EA2_9 rfl x y rs' hx hy hl fun r h => ints3 (hr r h).1 (hr r h).2).mono ?_
  rintro v h ⟨rfl, rfl⟩
  rfl
def EA3 : Nat → Option CFn := upd EA2 75 true (o66)
theorem EA3_ok : ZB Tryz.prog GG EA3 := ZD Zh EA2_ok fun args v ho => by
  unfold o66 at ho; split at ho <;> simp at ho
  rename_i a b c e
  subst ho
  refine (a66 Tryz.prog EA2 rfl a b c e).mono ?_
  rintro v h ⟨rfl, rfl⟩
  rfl
def EA4 : Nat → Option CFn := upd EA3 56 true (o28)
theorem EA4_ok : ZB Tryz.prog GG EA4 := ZD Zh EA3_ok fun args v ho => by
  unfold o28 at ho; split at ho <;> simp at ho
  rename_i u d sl sh rl rh ll lh most
  obtain ⟨⟨h0, h1⟩, rfl⟩ := ho
  refine (a28 Tryz.prog EA3 rfl rfl rfl u d sl sh rl rh ll lh most h0 h1).mono ?_
  rintro v h ⟨rfl, rfl⟩
  rfl
def EA5 : Nat → Option CFn := upd EA4 14 true (o34)
theorem EA5_ok : ZB Tryz.prog GG EA5 := ZD Zh EA4_ok fun args v ho => by
  unfold o34 at ho; split at ho <;> (try simp only [reduceCtorEq] at ho)
  rename_i x y
  split at ho <;> (try simp only [reduceCtorEq] at ho)
  rename_i a b hx hy
  split at ho <;> (try simp only [reduceCtorEq] at ho)
  rename_i hg
  simp only [Option.some.injEq] at ho
  subst ho
  exact a34 Tryz.prog EA4 rfl x y a b hx hy hg.1 hg.2
def mayX (u d : Int) (x : It5) (r : Rm3) : Bool := rhRun u d r.1 r.2.1 x.2.2.1 x.2.2.2.1 x.2.2.2.2 (x.2.2.2.2.toNat + 1) 0 x.1 x.2.1 (-1) == x.2.2.2.2
def o35r : List Za → Option Za
  | [.agg [.int .i64 u, .int .i64 d], .agg [.int .i64 x1, .int .i64 x2, .int .i64 x3, .int .i64 x4, .int .i64 x5], .agg [.int .i64 r1, .int .i64 r2, .int .i64 r3]] => if 0 ≤ x5 ∧ x5 ≤ 1000 then some (.bool (mayX u d (x1, x2, x3, x4, x5) (r1, r2, r3))) else none
  | _ => none
theorem a35r (P : Program) (T : Nat → Option CFn) (hT : T 35 = some c35) (h56 : T 56 = some { c56 with frsh := true, orc := o28 }) (u d x1 x2 x3 x4 x5 r1 r2 r3 : Int) (hg : 0 ≤ x5 ∧ x5 ≤ 1000) : Zr P T 35 [.agg [I u, I d], .agg [I x1, I x2, I x3, I x4, I x5], .agg [I r1, I r2, I r3]] [] fun v h => frz true h 5 v = some (.bool (mayX u d (x1, x2, x3, x4, x5) (r1, r2, r3))) := by
 have e28 : o28 [.agg [I u, I d], .agg [I x1, I x2], .agg [I r1, I r2], .agg [I x3, I x4], I x5] = some (I (rhRun u d r1 r2 x3 x4 x5 (x5.toNat + 1) 0 x1 x2 (-1))) := by simp only [o28]; rw [if_pos hg]
 refine Zl hT (Zo rfl) ?_
 simp only [oo, om, op, og, ci, cl, c35]
 refine zS ?_
 refine zR (zO (by simp [zC h56, h56, e28, mayX, trim, -beq_iff_eq]; rfl) ?_)
 simp only [zT, zB]
 refine zS ?_
 refine Yd (by simp (maxSteps := 3000000) [zC h56, h56, e28, mayX, trim, -beq_iff_eq]; rfl) ?_
 simp only [zT, zB]
 refine Zg ?_
 simp [zC h56, h56, e28, mayX, trim, -beq_iff_eq]
def EA6 : Nat → Option CFn := upd EA5 35 true (o35r)
theorem EA6_ok : ZB Tryz.prog GG EA6 := ZD Zh EA5_ok fun args v ho => by
  unfold o35r at ho; split at ho <;> (try simp only [reduceCtorEq] at ho)
  rename_i u d x1 x2 x3 x4 x5 r1 r2 r3
  split at ho <;> (try simp only [reduceCtorEq] at ho)
  rename_i hg
  simp only [Option.some.injEq] at ho
  subst ho
  exact a35r Tryz.prog EA5 rfl rfl u d x1 x2 x3 x4 x5 r1 r2 r3 hg
def lessL : List Nat → List Nat → Bool
  | x :: a, y :: b => if x = y then lessL a b else decide (x < y)
  | _, _ => false
def lessR (a b : List Nat) : Bool := if a.length = b.length then lessL a b else decide (a.length < b.length)
theorem lessL_drop {a b : List Nat} {k : Nat} (h : k < a.length) (h2 : k < b.length) : lessL (a.drop k) (b.drop k) = if a[k] = b[k] then lessL (a.drop (k + 1)) (b.drop (k + 1)) else decide (a[k] < b[k]) := by
  rw [List.drop_eq_getElem_cons h, List.drop_eq_getElem_cons h2]; rfl
def o38 : List Za → Option Za
  | [x, y] => match dNs x, dNs y with
    | some a, some b => if a.length ≤ 1000 ∧ b.length ≤ 1000 then some (.bool (lessR a b)) else none
    | _, _ => none
  | _ => none
theorem o38_eq {x y : Za} {a b : List Nat} (hx : dNs x = some a) (hy : dNs y = some b) (ha : a.length ≤ 1000) (hb : b.length ≤ 1000) : o38 [x, y] = some (.bool (lessR a b)) := by
  simp only [o38, hx, hy]; rw [if_pos ⟨ha, hb⟩]
theorem a38 (P : Program) (T : Nat → Option CFn) (hT : T 38 = some c38) (x y : Za) (a b : List Nat) (hx : dNs x = some a) (hy : dNs y = some b) (ha : a.length ≤ 1000) (hb : b.length ≤ 1000) : Zr P T 38 [x, y] [] fun v h => frz true h 5 v = some (.bool (lessR a b)) := by
 have lx := dNs_len hx
 have ly := dNs_len hy
 refine Zl hT (Zo rfl) ?_
 simp only [oo, om, op, og, ci, cl, c38]
 refine zS ?_
 refine zR (zO (by simp [lx, ly, -Zd]; rfl) ?_)
 simp only [zT, zB]
 refine zS ?_
 refine zS ?_
 refine zR (zO (by simp [lx, ly, -Zd]; rfl) ?_)
 simp only [zT, zB]
 refine Zk (x := ((a.length : Int) != b.length)) (by simp) (fun hne => ?_) (fun hne => ?_)
 ·have hne2 : ¬ (a.length : Int) = b.length := by simpa using hne
  have hne3 : ¬ a.length = b.length := by omega
  refine zS ?_
  refine zR (zO (by simp [lx, ly, -Zd, hne2]; rfl) ?_)
  simp only [zT, zB]
  refine Zg ?_
  simp [lx, ly, -Zd, hne2, lessR, hne3]
 ·have hne2 : (a.length : Int) = b.length := by simpa using hne
  have hne3 : a.length = b.length := by omega
  refine zK ?_
  simp only [zT, zB]
  refine zS ?_
  refine zS ?_
  refine zR (zO (by simp [lx, ly, -Zd]; rfl) ?_)
  simp only [zT, zB]
  refine zL ?_
  refine ZL (fun m σ => ∃ (k : Nat) (i : Int), i = k ∧ a.length - k = m ∧ k ≤ a.length ∧ lessL a b = lessL (a.drop k) (b.drop k) ∧ σ = ⟨[x, y, .any, .any, .any, I i, .any, .any, .any, .any, .any, .any, .any, .any, .any, .any, .any, .any, .any, .any, .any, .any, .any, .any, .any, .any, .any, .any, .any, .any, .any, .any, .any, .any, .any, .any, .any, .any, .any, .any], []⟩) ?_ (a.length - 0) _ ⟨0, 0, rfl, rfl, Nat.zero_le _, rfl, by simp⟩
  rintro m σ ⟨k, i, hik, rfl, hkl, hinv, rfl⟩
  refine zS ?_
  refine zS ?_
  refine zR (zO (by simp [lx, ly, -Zd]; rfl) ?_)
  simp only [zT, zB]
  refine Zk (x := decide (i < (a.length : Int))) (by simp) (fun hlt => ?_) (fun hlt => ?_)
  ·have hlt := of_decide_eq_true hlt
   have hka : k < a.length := by omega
   have hkb : k < b.length := by omega
   obtain ⟨t1, rfl⟩ := dNs_get hx hka
   obtain ⟨t2, rfl⟩ := dNs_get hy hkb
   have hi0 : 0 ≤ i := by omega
   have htn : i.toNat = k := by omega
   have hwi : W .i64 (i + 1) = i + 1 := ZH (by omega)
   have g1 : (a.map rN)[k]? = some (rN a[k]) := by rw [List.getElem?_map, List.getElem?_eq_getElem hka]; rfl
   have g2 : ∀ h, (a.map rN)[k]'h = rN a[k] := fun h => by simp
   have g3 : (b.map rN)[k]? = some (rN b[k]) := by rw [List.getElem?_map, List.getElem?_eq_getElem hkb]; rfl
   have g4 : ∀ h, (b.map rN)[k]'h = rN b[k] := fun h => by simp
   have hd := lessL_drop hka hkb
   generalize a[k] = p at *
   generalize b[k] = r at *
   by_cases hpr : p = r
   ·subst hpr
    rw [if_pos rfl] at hd
    have HH1 := zA lx (zA ly (zA hi0 (zA htn (zA hwi (zA hka (zA hkb (zA g1 (zA g2 (zA g3 g4)))))))))
    refine zK ?_
    simp only [zT, zB]
    refine zS ?_
    refine zL ?_
    refine zS ?_
    refine Yd (by simp (maxSteps := 3000000) [-Zd, rN, -List.getElem?_map, -List.getElem_map, HH1]; rfl) ?_
    simp only [zT, zB]
    refine Zi (x := false) (by simp) ?_
    refine zK ?_
    simp only [zT, zB]
    refine zR (zO (by simp [-Zd, rN, -List.getElem?_map, -List.getElem_map, HH1]; rfl) ?_)
    simp only [zT, zB]
    exact ⟨a.length - (k + 1), by omega, k + 1, i + 1, by omega, rfl, by omega, by rw [hinv, hd], by simp [-Zd, rN, -List.getElem?_map, -List.getElem_map, HH1]⟩
   ·rw [if_neg hpr] at hd
    have hpr2 : ¬ (p : Int) = r := by omega
    have hR : lessR a b = decide (p < r) := by unfold lessR; rw [if_pos hne3, hinv, hd]
    have HH2 := zA lx (zA ly (zA hi0 (zA htn (zA hwi (zA hka (zA hkb (zA g1 (zA g2 (zA g3 (zA g4 hpr2))))))))))
    refine zK ?_
    simp only [zT, zB]
    refine zS ?_
    refine zL ?_
    refine zS ?_
    refine Yd (by simp (maxSteps := 3000000) [-Zd, rN, -List.getElem?_map, -List.getElem_map, HH2]; rfl) ?_
    simp only [zT, zB]
    refine Zi (x := true) (by simp [-Zd, rN, -List.getElem?_map, -List.getElem_map, HH2]) ?_
    refine zS ?_
    refine Yd (by simp (maxSteps := 3000000) [-Zd, rN, -List.getElem?_map, -List.getElem_map, HH2]; rfl) ?_
    simp only [zT, zB]
    refine Zg ?_
    simp [-Zd, rN, -List.getElem?_map, -List.getElem_map, HH2, hR]
  ·have hlt := of_decide_eq_false hlt
   obtain rfl : k = a.length := by omega
   have hR : lessR a b = false := by unfold lessR; rw [if_pos hne3, hinv, List.drop_length]; rfl
   refine ZI ?_
   simp only [zT, zB, if_true, if_false, reduceIte, Nat.reduceEqDiff, Nat.succ_ne_zero, Nat.one_ne_zero, Nat.zero_ne_one]
   refine zS ?_
   refine zR (zO (by simp [lx, ly, -Zd]; rfl) ?_)
   simp only [zT, zB]
   refine Zg ?_
   simp [lx, ly, -Zd, hR]
def EA7 : Nat → Option CFn := upd EA6 38 true (o38)
theorem EA7_ok : ZB Tryz.prog GG EA7 := ZD Zh EA6_ok fun args v ho => by
  unfold o38 at ho; split at ho <;> (try simp only [reduceCtorEq] at ho)
  rename_i x y
  split at ho <;> (try simp only [reduceCtorEq] at ho)
  rename_i a b hx hy
  split at ho <;> (try simp only [reduceCtorEq] at ho)
  rename_i hg
  simp only [Option.some.injEq] at ho
  subst ho
  exact a38 Tryz.prog EA6 rfl x y a b hx hy hg.1 hg.2
end
section
attribute [local simp] Yj ZU YP YM XR Xo disj YY holes YZ ZX Xb news eqB Xc eqA YK Xi toCs ofCs stA Yz ZV Yr dI1 dI2 dI3 dI5 elt
attribute [local simp] st_any st_und st_agg st_tup XX st_int XU st_ref st_pv XT st_sl st_vl XV st_mp st_fn XW st_yld co_any co_und co_agg co_tup co_bool co_int co_nilp co_ref co_pv co_nils co_sl co_vl co_nilm co_mp co_fn co_nilf co_yld
attribute [local simp] Ya Zq lop Yk
def itR (x : It5) : Bool := spanB x.1 x.2.1 0 300 && spanB x.2.2.1 x.2.2.2.1 0 300 && inB x.2.2.2.2 0 500
def rmR (r : Rm3) : Bool := spanB r.1 r.2.1 0 300 && inB r.2.2 0 7
def storE (u d : Int) (its : List It5) (rs : List Rm3) : Int := if rB u d = false then 2 else if 7 < its.length ∨ 4 < rs.length then 5 else if its.all itR = false then 4 else if rs.all rmR = false then 4 else 0
theorem take_all {α : Type} {f : α → Bool} {l : List α} {k : Nat} (h : k < l.length) : (l.take (k + 1)).all f = ((l.take k).all f && f l[k]) := by
  rw [List.take_succ_eq_append_getElem h, List.all_append]; simp
def o11 : List Za → Option Za
  | [.agg [.int .i64 u, .int .i64 d], x, y] => match Zm x, Zm y with
    | some r, some s => match Zf dI5' r, Zf dM3 s with
      | some its, some rs => if its.length ≤ 1000 ∧ rs.length ≤ 1000 then some (I (storE u d its rs)) else none
      | _, _ => none
    | _, _ => none
  | _ => none
theorem o11_eq {x y : Za} {its : List It5} {rs : List Rm3} (hx : Zm x = some (its.map rI5)) (hy : Zm y = some (rs.map rM3)) (hl : its.length ≤ 1000 ∧ rs.length ≤ 1000) (u d : Int) : o11 [.agg [I u, I d], x, y] = some (I (storE u d its rs)) := by
  have h1 := YB (d := dI5') (enc := rI5) (fun _ => rfl) its
  have h2 := YB (d := dM3) (enc := rM3) (fun _ => rfl) rs
  simp only [o11, hx, hy, h1, h2]; rw [if_pos hl]
theorem a11 (P : Program) (T : Nat → Option CFn) (hT : T 11 = some c11) (h32 : T 32 = some { c32 with frsh := true, orc := o27 }) (h33 : T 33 = some { c33 with frsh := true, orc := o25 }) (h34 : T 34 = some { c34 with frsh := true, orc := o60 }) (u d : Int) (x y : Za) (its : List It5) (rs : List Rm3) (hx : Zm x = some (its.map rI5)) (hy : Zm y = some (rs.map rM3)) (hl : its.length ≤ 1000 ∧ rs.length ≤ 1000) : Zr P T 11 [.agg [I u, I d], x, y] [] fun v h => frz true h 5 v = some (I (storE u d its rs)) := by
 have lx := Zv hx
 rw [List.length_map] at lx
 have rx := fun n d => ZF hx n d
 have fx := fun H d => Zw hx H d
 obtain ⟨cx1, cx2⟩ := Zy hx
 have ly := Zv hy
 rw [List.length_map] at ly
 have ry := fun n d => ZF hy n d
 have fy := fun H d => Zw hy H d
 obtain ⟨cy1, cy2⟩ := Zy hy
 have e27 : o27 [.agg [I u, I d]] = some (.bool (rB u d)) := rfl
 generalize hR : rB u d = R at *
 refine Zl hT (Zo rfl) ?_
 simp only [oo, om, op, og, ci, cl, c11]
 have HH1 := zA h32 (zA h33 (zA h34 (zA e27 (zA lx (zA rx (zA fx (zA cx1 (zA cx2 (zA ly (zA ry (zA fy (zA cy1 cy2))))))))))))
 refine zS ?_
 refine zR (zO (by simp [zC h32, zC h33, zC h34, -Zd, HH1]; rfl) ?_)
 simp only [zT, zB]
 refine zS ?_
 refine zS ?_
 refine zR (zO (by simp [zC h32, zC h33, zC h34, -Zd, HH1]; rfl) ?_)
 simp only [zT, zB]
 rcases Bool.eq_false_or_eq_true R with hR2 | hR2 <;> subst hR2
 ·refine Zi (x := false) (by simp) ?_
  by_cases h1 : 7 < its.length
  ·have h1' : (7 : Int) < its.length := by omega
   have hE : storE u d its rs = 5 := by unfold storE; rw [if_neg (by rw [hR]; simp), if_pos (by first | exact .inl (by omega) | exact .inr (by omega))]
   refine zK ?_
   simp only [zT, zB]
   refine zS ?_
   refine zS ?_
   refine zR (zO (by simp [zC h32, zC h33, zC h34, -Zd, HH1, h1']; rfl) ?_)
   simp only [zT, zB]
   refine Zi (x := true) (by simp [zC h32, zC h33, zC h34, -Zd, HH1, h1']) ?_
   refine zS ?_
   refine zR (zO (by simp [zC h32, zC h33, zC h34, -Zd, HH1, h1']; rfl) ?_)
   simp only [zT, zB]
   refine Zg ?_
   simp [zC h32, zC h33, zC h34, -Zd, HH1, h1', hE]
  ·have h1' : ¬ (7 : Int) < its.length := by omega
   by_cases h2 : 4 < rs.length
   ·have h2' : (4 : Int) < rs.length := by omega
    have hE : storE u d its rs = 5 := by unfold storE; rw [if_neg (by rw [hR]; simp), if_pos (by first | exact .inl (by omega) | exact .inr (by omega))]
    refine zK ?_
    simp only [zT, zB]
    refine zS ?_
    refine zS ?_
    refine zR (zO (by simp [zC h32, zC h33, zC h34, -Zd, HH1, h1', h2']; rfl) ?_)
    simp only [zT, zB]
    refine Zi (x := true) (by simp [zC h32, zC h33, zC h34, -Zd, HH1, h1', h2']) ?_
    refine zS ?_
    refine zR (zO (by simp [zC h32, zC h33, zC h34, -Zd, HH1, h1', h2']; rfl) ?_)
    simp only [zT, zB]
    refine Zg ?_
    simp [zC h32, zC h33, zC h34, -Zd, HH1, h1', h2', hE]
   ·have h2' : ¬ (4 : Int) < rs.length := by omega
    have hn : ¬ (7 < its.length ∨ 4 < rs.length) := by omega
    refine zK ?_
    simp only [zT, zB]
    refine zS ?_
    refine zS ?_
    refine zR (zO (by simp [zC h32, zC h33, zC h34, -Zd, HH1, h1', h2']; rfl) ?_)
    simp only [zT, zB]
    refine Zi (x := false) (by simp [zC h32, zC h33, zC h34, -Zd, HH1, h1', h2']) ?_
    refine zK ?_
    simp only [zT, zB]
    refine zS ?_
    refine zS ?_
    refine zR (zO (by simp [zC h32, zC h33, zC h34, -Zd, HH1, h1', h2']; rfl) ?_)
    simp only [zT, zB]
    refine zL ?_
    refine ZL (fun m σ => ∃ (k : Nat) (i : Int), i = k ∧ its.length - k = m ∧ k ≤ its.length ∧ (its.take k).all itR = true ∧ σ = ⟨[.any, x, y, .any, .any, .any, .any, I i, .any, .any, .any, .any, .any, .any, .any, .any, .any, .any, .any, .any, .any, .any, .any, .any, .any, .any, .any, .any, .any, .any, .any, .any, .any, .any, .any, .any, .any, .any, .any, .any, .any, .any, .any, .any, .any, .any, .any, .any, .any, .any, .any, .any, .any, .any, .any, .any, .any, .any, .any, .any, .any, .any, .any, .any, .any, .any, .any, .any, .any, .any, .any, .any, .any], [some (.row 2 [[I u, I d]])]⟩) ?_ (its.length - 0) _ ⟨0, 0, rfl, rfl, Nat.zero_le _, rfl, by simp⟩
    rintro m σ ⟨k, i, hik, rfl, hkl, hall, rfl⟩
    refine zS ?_
    refine zS ?_
    refine zR (zO (by simp [zC h32, zC h33, zC h34, -Zd, HH1, h1', h2']; rfl) ?_)
    simp only [zT, zB]
    refine Zk (x := decide (i < (its.length : Int))) (by simp) (fun hlt => ?_) (fun hlt => ?_)
    ·have hlt := of_decide_eq_true hlt
     have hk : k < its.length := by omega
     obtain ⟨t1, rfl⟩ := ZG hx (k := k) (by simpa using hk)
     have hi0 : 0 ≤ i := by omega
     have htn : i.toNat = k := by omega
     have hwi : W .i64 (i + 1) = i + 1 := ZH (by omega)
     have g1 : (its.map rI5)[k]? = some (rI5 its[k]) := by rw [List.getElem?_map, List.getElem?_eq_getElem hk]; rfl
     have g2 : ∀ h, (its.map rI5)[k]'h = rI5 its[k] := fun h => by simp
     have hta := take_all (f := itR) hk
     generalize hv : its[k] = v at *
     obtain ⟨x1, x2, x3, x4, x5⟩ := v
     have hit : itR (x1, x2, x3, x4, x5) = (spanB x1 x2 0 300 && spanB x3 x4 0 300 && inB x5 0 500) := rfl
     have ea : o25 [.agg [I x1, I x2]] = some (.bool (spanB x1 x2 0 300)) := rfl
     have eb : o25 [.agg [I x3, I x4]] = some (.bool (spanB x3 x4 0 300)) := rfl
     have ec : o60 [I x5, I 0, I 500] = some (.bool (inB x5 0 500)) := rfl
     have hbadE : itR (x1, x2, x3, x4, x5) = false → storE u d its rs = 4 := fun h => by
      unfold storE; rw [if_neg (by rw [hR]; simp), if_neg hn, if_pos]
      rw [List.all_eq_false]; exact ⟨its[k], List.getElem_mem hk, by rw [hv, h]; simp⟩
     generalize spanB x1 x2 0 300 = B1 at *
     generalize spanB x3 x4 0 300 = B2 at *
     generalize inB x5 0 500 = B3 at *
     cases B1 <;> cases B2 <;> cases B3
     ·have hE := hbadE (by rw [hit]; rfl)
      have HH2 := zA h1' (zA h2' (zA hi0 (zA htn (zA hwi (zA hk (zA g1 (zA g2 (zA ea (zA eb ec)))))))))
      refine zK ?_
      simp only [zT, zB]
      refine zS ?_
      refine zL ?_
      refine zS ?_
      refine zR (zO (by simp [zC h32, zC h33, zC h34, -Zd, HH1, rI5, -List.getElem?_map, -List.getElem_map, HH2]; rfl) ?_)
      simp only [zT, zB]
      refine Zi (x := true) (by simp) ?_
      refine zS ?_
      refine zR (zO (by simp [zC h32, zC h33, zC h34, -Zd, HH1, rI5, -List.getElem?_map, -List.getElem_map, HH2]; rfl) ?_)
      simp only [zT, zB]
      refine Zg ?_
      simp [zC h32, zC h33, zC h34, -Zd, HH1, rI5, -List.getElem?_map, -List.getElem_map, HH2, hE]
     ·have hE := hbadE (by rw [hit]; rfl)
      have HH3 := zA h1' (zA h2' (zA hi0 (zA htn (zA hwi (zA hk (zA g1 (zA g2 (zA ea (zA eb ec)))))))))
      refine zK ?_
      simp only [zT, zB]
      refine zS ?_
      refine zL ?_
      refine zS ?_
      refine zR (zO (by simp [zC h32, zC h33, zC h34, -Zd, HH1, rI5, -List.getElem?_map, -List.getElem_map, HH3]; rfl) ?_)
      simp only [zT, zB]
      refine Zi (x := true) (by simp) ?_
      refine zS ?_
      refine zR (zO (by simp [zC h32, zC h33, zC h34, -Zd, HH1, rI5, -List.getElem?_map, -List.getElem_map, HH3]; rfl) ?_)
      simp only [zT, zB]
      refine Zg ?_
      simp [zC h32, zC h33, zC h34, -Zd, HH1, rI5, -List.getElem?_map, -List.getElem_map, HH3, hE]
     ·have hE := hbadE (by rw [hit]; rfl)
      have HH4 := zA h1' (zA h2' (zA hi0 (zA htn (zA hwi (zA hk (zA g1 (zA g2 (zA ea (zA eb ec)))))))))
      refine zK ?_
      simp only [zT, zB]
      refine zS ?_
      refine zL ?_
      refine zS ?_
      refine zR (zO (by simp [zC h32, zC h33, zC h34, -Zd, HH1, rI5, -List.getElem?_map, -List.getElem_map, HH4]; rfl) ?_)
      simp only [zT, zB]
      refine Zi (x := true) (by simp) ?_
      refine zS ?_
      refine zR (zO (by simp [zC h32, zC h33, zC h34, -Zd, HH1, rI5, -List.getElem?_map, -List.getElem_map, HH4]; rfl) ?_)
      simp only [zT, zB]
      refine Zg ?_
      simp [zC h32, zC h33, zC h34, -Zd, HH1, rI5, -List.getElem?_map, -List.getElem_map, HH4, hE]
     ·have hE := hbadE (by rw [hit]; rfl)
      have HH5 := zA h1' (zA h2' (zA hi0 (zA htn (zA hwi (zA hk (zA g1 (zA g2 (zA ea (zA eb ec)))))))))
      refine zK ?_
      simp only [zT, zB]
      refine zS ?_
      refine zL ?_
      refine zS ?_
      refine zR (zO (by simp [zC h32, zC h33, zC h34, -Zd, HH1, rI5, -List.getElem?_map, -List.getElem_map, HH5]; rfl) ?_)
      simp only [zT, zB]
      refine Zi (x := true) (by simp) ?_
      refine zS ?_
      refine zR (zO (by simp [zC h32, zC h33, zC h34, -Zd, HH1, rI5, -List.getElem?_map, -List.getElem_map, HH5]; rfl) ?_)
      simp only [zT, zB]
      refine Zg ?_
      simp [zC h32, zC h33, zC h34, -Zd, HH1, rI5, -List.getElem?_map, -List.getElem_map, HH5, hE]
     ·have hE := hbadE (by rw [hit]; rfl)
      have HH6 := zA h1' (zA h2' (zA hi0 (zA htn (zA hwi (zA hk (zA g1 (zA g2 (zA ea (zA eb ec)))))))))
      refine zK ?_
      simp only [zT, zB]
      refine zS ?_
      refine zL ?_
      refine zS ?_
      refine zR (zO (by simp [zC h32, zC h33, zC h34, -Zd, HH1, rI5, -List.getElem?_map, -List.getElem_map, HH6]; rfl) ?_)
      simp only [zT, zB]
      refine Zi (x := true) (by simp) ?_
      refine zS ?_
      refine zR (zO (by simp [zC h32, zC h33, zC h34, -Zd, HH1, rI5, -List.getElem?_map, -List.getElem_map, HH6]; rfl) ?_)
      simp only [zT, zB]
      refine Zg ?_
      simp [zC h32, zC h33, zC h34, -Zd, HH1, rI5, -List.getElem?_map, -List.getElem_map, HH6, hE]
     ·have hE := hbadE (by rw [hit]; rfl)
      have HH7 := zA h1' (zA h2' (zA hi0 (zA htn (zA hwi (zA hk (zA g1 (zA g2 (zA ea (zA eb ec)))))))))
      refine zK ?_
      simp only [zT, zB]
      refine zS ?_
      refine zL ?_
      refine zS ?_
      refine zR (zO (by simp [zC h32, zC h33, zC h34, -Zd, HH1, rI5, -List.getElem?_map, -List.getElem_map, HH7]; rfl) ?_)
      simp only [zT, zB]
      refine Zi (x := true) (by simp) ?_
      refine zS ?_
      refine zR (zO (by simp [zC h32, zC h33, zC h34, -Zd, HH1, rI5, -List.getElem?_map, -List.getElem_map, HH7]; rfl) ?_)
      simp only [zT, zB]
      refine Zg ?_
      simp [zC h32, zC h33, zC h34, -Zd, HH1, rI5, -List.getElem?_map, -List.getElem_map, HH7, hE]
     ·have hE := hbadE (by rw [hit]; rfl)
      have HH8 := zA h1' (zA h2' (zA hi0 (zA htn (zA hwi (zA hk (zA g1 (zA g2 (zA ea (zA eb ec)))))))))
      refine zK ?_
      simp only [zT, zB]
      refine zS ?_
      refine zL ?_
      refine zS ?_
      refine zR (zO (by simp [zC h32, zC h33, zC h34, -Zd, HH1, rI5, -List.getElem?_map, -List.getElem_map, HH8]; rfl) ?_)
      simp only [zT, zB]
      refine Zi (x := true) (by simp) ?_
      refine zS ?_
      refine zR (zO (by simp [zC h32, zC h33, zC h34, -Zd, HH1, rI5, -List.getElem?_map, -List.getElem_map, HH8]; rfl) ?_)
      simp only [zT, zB]
      refine Zg ?_
      simp [zC h32, zC h33, zC h34, -Zd, HH1, rI5, -List.getElem?_map, -List.getElem_map, HH8, hE]
     ·have HH9 := zA h1' (zA h2' (zA hi0 (zA htn (zA hwi (zA hk (zA g1 (zA g2 (zA ea (zA eb ec)))))))))
      refine zK ?_
      simp only [zT, zB]
      refine zS ?_
      refine zL ?_
      refine zS ?_
      refine zR (zO (by simp [zC h32, zC h33, zC h34, -Zd, HH1, rI5, -List.getElem?_map, -List.getElem_map, HH9]; rfl) ?_)
      simp only [zT, zB]
      refine Zi (x := false) (by simp) ?_
      refine zK ?_
      simp only [zT, zB]
      refine zR (zO (by simp [zC h32, zC h33, zC h34, -Zd, HH1, rI5, -List.getElem?_map, -List.getElem_map, HH9]; rfl) ?_)
      simp only [zT, zB]
      exact ⟨its.length - (k + 1), by omega, k + 1, i + 1, by omega, rfl, by omega, by rw [hta, hall, hit]; rfl, by simp [zC h32, zC h33, zC h34, -Zd, HH1, rI5, -List.getElem?_map, -List.getElem_map, HH9]⟩
    ·have hlt := of_decide_eq_false hlt
     have hkE : k = its.length := by omega
     rw [hkE, List.take_length] at hall
     refine ZI ?_
     simp only [zT, zB, if_true, if_false, reduceIte, Nat.reduceEqDiff, Nat.succ_ne_zero, Nat.one_ne_zero, Nat.zero_ne_one]
     refine zS ?_
     refine zS ?_
     refine zR (zO (by simp [zC h32, zC h33, zC h34, -Zd, HH1, h1', h2']; rfl) ?_)
     simp only [zT, zB]
     refine zL ?_
     refine ZL (fun n σ => ∃ (j : Nat) (J : Int), J = j ∧ rs.length - j = n ∧ j ≤ rs.length ∧ (rs.take j).all rmR = true ∧ σ = ⟨[.any, .any, y, .any, .any, .any, .any, .any, I J, .any, .any, .any, .any, .any, .any, .any, .any, .any, .any, .any, .any, .any, .any, .any, .any, .any, .any, .any, .any, .any, .any, .any, .any, .any, .any, .any, .any, .any, .any, .any, .any, .any, .any, .any, .any, .any, .any, .any, .any, .any, .any, .any, .any, .any, .any, .any, .any, .any, .any, .any, .any, .any, .any, .any, .any, .any, .any, .any, .any, .any, .any, .any, .any], [some (.row 2 [[I u, I d]])]⟩) ?_ (rs.length - 0) _ ⟨0, 0, rfl, rfl, Nat.zero_le _, rfl, by simp⟩
     rintro n σ ⟨j, J, hij, rfl, hjl, halr, rfl⟩
     refine zS ?_
     refine zS ?_
     refine zR (zO (by simp [zC h32, zC h33, zC h34, -Zd, HH1, h1', h2']; rfl) ?_)
     simp only [zT, zB]
     refine Zk (x := decide (J < (rs.length : Int))) (by simp) (fun hlj => ?_) (fun hlj => ?_)
     ·have hlj := of_decide_eq_true hlj
      have hj : j < rs.length := by omega
      obtain ⟨t2, rfl⟩ := ZG hy (k := j) (by simpa using hj)
      have hj0 : 0 ≤ J := by omega
      have htj : J.toNat = j := by omega
      have hwj : W .i64 (J + 1) = J + 1 := ZH (by omega)
      have g1 : (rs.map rM3)[j]? = some (rM3 rs[j]) := by rw [List.getElem?_map, List.getElem?_eq_getElem hj]; rfl
      have g2 : ∀ h, (rs.map rM3)[j]'h = rM3 rs[j] := fun h => by simp
      have hta := take_all (f := rmR) hj
      generalize hv : rs[j] = v at *
      obtain ⟨x1, x2, x3⟩ := v
      have hit : rmR (x1, x2, x3) = (spanB x1 x2 0 300 && inB x3 0 7) := rfl
      have ea : o25 [.agg [I x1, I x2]] = some (.bool (spanB x1 x2 0 300)) := rfl
      have ec : o60 [I x3, I 0, I 7] = some (.bool (inB x3 0 7)) := rfl
      have hbadE : rmR (x1, x2, x3) = false → storE u d its rs = 4 := fun h => by
       unfold storE; rw [if_neg (by rw [hR]; simp), if_neg hn, if_neg (by rw [hall]; simp), if_pos]
       rw [List.all_eq_false]; exact ⟨rs[j], List.getElem_mem hj, by rw [hv, h]; simp⟩
      generalize spanB x1 x2 0 300 = B1 at *
      generalize inB x3 0 7 = B3 at *
      cases B1 <;> cases B3
      ·have hE := hbadE (by rw [hit]; rfl)
       have HH10 := zA h1' (zA h2' (zA hj0 (zA htj (zA hwj (zA hj (zA g1 (zA g2 (zA ea ec))))))))
       refine zK ?_
       simp only [zT, zB]
       refine zS ?_
       refine zL ?_
       refine zS ?_
       refine zR (zO (by simp [zC h32, zC h33, zC h34, -Zd, HH1, rM3, -List.getElem?_map, -List.getElem_map, HH10]; rfl) ?_)
       simp only [zT, zB]
       refine Zi (x := true) (by simp) ?_
       refine zS ?_
       refine zR (zO (by simp [zC h32, zC h33, zC h34, -Zd, HH1, rM3, -List.getElem?_map, -List.getElem_map, HH10]; rfl) ?_)
       simp only [zT, zB]
       refine Zg ?_
       simp [zC h32, zC h33, zC h34, -Zd, HH1, rM3, -List.getElem?_map, -List.getElem_map, HH10, hE]
      ·have hE := hbadE (by rw [hit]; rfl)
       have HH11 := zA h1' (zA h2' (zA hj0 (zA htj (zA hwj (zA hj (zA g1 (zA g2 (zA ea ec))))))))
       refine zK ?_
       simp only [zT, zB]
       refine zS ?_
       refine zL ?_
       refine zS ?_
       refine zR (zO (by simp [zC h32, zC h33, zC h34, -Zd, HH1, rM3, -List.getElem?_map, -List.getElem_map, HH11]; rfl) ?_)
       simp only [zT, zB]
       refine Zi (x := true) (by simp) ?_
       refine zS ?_
       refine zR (zO (by simp [zC h32, zC h33, zC h34, -Zd, HH1, rM3, -List.getElem?_map, -List.getElem_map, HH11]; rfl) ?_)
       simp only [zT, zB]
       refine Zg ?_
       simp [zC h32, zC h33, zC h34, -Zd, HH1, rM3, -List.getElem?_map, -List.getElem_map, HH11, hE]
      ·have hE := hbadE (by rw [hit]; rfl)
       have HH12 := zA h1' (zA h2' (zA hj0 (zA htj (zA hwj (zA hj (zA g1 (zA g2 (zA ea ec))))))))
       refine zK ?_
       simp only [zT, zB]
       refine zS ?_
       refine zL ?_
       refine zS ?_
       refine zR (zO (by simp [zC h32, zC h33, zC h34, -Zd, HH1, rM3, -List.getElem?_map, -List.getElem_map, HH12]; rfl) ?_)
       simp only [zT, zB]
       refine Zi (x := true) (by simp) ?_
       refine zS ?_
       refine zR (zO (by simp [zC h32, zC h33, zC h34, -Zd, HH1, rM3, -List.getElem?_map, -List.getElem_map, HH12]; rfl) ?_)
       simp only [zT, zB]
       refine Zg ?_
       simp [zC h32, zC h33, zC h34, -Zd, HH1, rM3, -List.getElem?_map, -List.getElem_map, HH12, hE]
      ·have HH13 := zA h1' (zA h2' (zA hj0 (zA htj (zA hwj (zA hj (zA g1 (zA g2 (zA ea ec))))))))
       refine zK ?_
       simp only [zT, zB]
       refine zS ?_
       refine zL ?_
       refine zS ?_
       refine zR (zO (by simp [zC h32, zC h33, zC h34, -Zd, HH1, rM3, -List.getElem?_map, -List.getElem_map, HH13]; rfl) ?_)
       simp only [zT, zB]
       refine Zi (x := false) (by simp) ?_
       refine zK ?_
       simp only [zT, zB]
       refine zR (zO (by simp [zC h32, zC h33, zC h34, -Zd, HH1, rM3, -List.getElem?_map, -List.getElem_map, HH13]; rfl) ?_)
       simp only [zT, zB]
       exact ⟨rs.length - (j + 1), by omega, j + 1, J + 1, by omega, rfl, by omega, by rw [hta, halr, hit]; rfl, by simp [zC h32, zC h33, zC h34, -Zd, HH1, rM3, -List.getElem?_map, -List.getElem_map, HH13]⟩
     ·have hlj := of_decide_eq_false hlj
      have hjE : j = rs.length := by omega
      rw [hjE, List.take_length] at halr
      have hE : storE u d its rs = 0 := by unfold storE; rw [if_neg (by rw [hR]; simp), if_neg hn, if_neg (by rw [hall]; simp), if_neg (by rw [halr]; simp)]
      refine ZI ?_
      simp only [zT, zB, if_true, if_false, reduceIte, Nat.reduceEqDiff, Nat.succ_ne_zero, Nat.one_ne_zero, Nat.zero_ne_one]
      refine zS ?_
      refine zR (zO (by simp [zC h32, zC h33, zC h34, -Zd, HH1, h1', h2']; rfl) ?_)
      simp only [zT, zB]
      refine Zg ?_
      simp [zC h32, zC h33, zC h34, -Zd, HH1, h1', h2', hE]
 ·have hE : storE u d its rs = 2 := by unfold storE; rw [if_pos hR]
  refine Zi (x := true) (by simp) ?_
  refine zS ?_
  refine zR (zO (by simp [zC h32, zC h33, zC h34, -Zd, HH1]; rfl) ?_)
  simp only [zT, zB]
  refine Zg ?_
  simp [zC h32, zC h33, zC h34, -Zd, HH1, hE]
def EB1 : Nat → Option CFn := upd EA7 11 true (o11)
theorem EB1_ok : ZB Tryz.prog GG EB1 := ZD Zh EA7_ok fun args v ho => by
  unfold o11 at ho; split at ho <;> (try simp only [reduceCtorEq] at ho)
  rename_i u d x y
  split at ho <;> (try simp only [reduceCtorEq] at ho)
  rename_i r s hx hy
  split at ho <;> (try simp only [reduceCtorEq] at ho)
  rename_i its rs hr hs
  split at ho <;> (try simp only [reduceCtorEq] at ho)
  rename_i hg
  simp only [Option.some.injEq] at ho
  subst ho
  have hx' : Zm x = some (its.map rI5) := by rw [hx, ZY (enc := rI5) dI5'_eq hr]
  have hy' : Zm y = some (rs.map rM3) := by rw [hy, ZY (enc := rM3) dM3_eq hs]
  exact a11 Tryz.prog EA7 rfl rfl rfl rfl u d x y its rs hx' hy' hg
end
end
end Go.Proofs.YtpebmjeomlgmdaaGreatDoor.Tab
namespace Go.Proofs.YtpebmjeomlgmdaaGreatDoor.Tab
open Go Go.Abs Go.Proofs
set_option maxRecDepth 100000
set_option maxHeartbeats 4000000
set_option linter.unusedSimpArgs false
set_option linter.unusedVariables false
section
attribute [local simp] Yv Ye XB XC YD YJ XD YL Xh YC Zf orcF Xv YV Xx Xt YU YA rb_vl rb_pv Xr YT YS YR Xw Xs Xu XZ rb_fn slE XP Xk Yp ZQ XG List.range_succ List.range_zero List.range'_succ List.range'_zero Yi Yg ZK Yl ZR ZT Xm Yf dop CV.ev Ys ZA ZM Xa fI_eq Yt Yc ZN Zz Out.v Xy List.replicate_succ zT zB arI ZO Abs.rowAt Xq allV toV toC ofV ofC Builtin.min_ Builtin.min2 Builtin.max_ Builtin.max2 Xz XA resA XS Xj Yh Yx Yy Yw Zd
section
attribute [local simp] Yj ZU YP YM XR Xo disj YY holes YZ ZX Xb news eqB Xc eqA YK Xi toCs ofCs stA Yz ZV Yr dI1 dI2 dI3 dI5 elt
attribute [local simp] st_any st_und st_agg st_tup XX st_int XU st_ref st_pv XT st_sl st_vl XV st_mp st_fn XW st_yld co_any co_und co_agg co_tup co_bool co_int co_nilp co_ref co_pv co_nils co_sl co_vl co_nilm co_mp co_fn co_nilf co_yld
attribute [local simp] Ya Zq Xn lim loose_agg loose_any loose_bool loose_fn loose_int loose_mp loose_nilf loose_nilm loose_nilp loose_nils loose_pv loose_ref loose_sl loose_tup loose_und loose_vl loose_yld lop Yk posOf putH renB renE renV_agg renV_any renV_bool renV_fn renV_int renV_mp renV_nilf renV_nilp renV_nils renV_pv renV_ref renV_sl renV_tup renV_und renV_vl renV_yld setH
theorem optAll_cat {α β : Type} {f : α → Option β} {l : List α} {m : List β} (h : Zf f l = some m) (r : List α) : Zf f (l ++ r) = match Zf f r with | some b => some (m ++ b) | none => none := by
  induction l generalizing m with
  | nil => simp only [Zf, Option.some.injEq] at h; subst h; simp only [List.nil_append]; cases Zf f r <;> rfl
  | cons x l ih =>
    simp only [Zf] at h
    split at h <;> simp at h
    rename_i y ys hy hys
    subst h
    simp only [List.cons_append, Zf, hy, ih hys]
    cases Zf f r <;> rfl
def rB1 (b : Bool) : List Za := [.bool b]
def vB (l : List Bool) : Za := .vl (l.map rB1) false
def rowB (l : List Bool) : List Za := [vB l]
def mayT (u d : Int) (its : List It5) (rs : List Rm3) : List (List Bool) := its.map fun x => rs.map fun r => mayX u d x r
theorem rB1_flat (a : Bool) : ∀ x ∈ rB1 a, ZE x = true ∧ (∀ H d, frz false H (d + 1) x = some x) ∧ ∀ K H d, YI K H (d + 1) x = some x := by
  intro x hx
  simp only [rB1, List.mem_cons, List.not_mem_nil, or_false] at hx
  rcases hx with rfl <;> exact ⟨rfl, fun _ _ => rfl, fun _ _ _ => rfl⟩
theorem rB1_st (l : List (Bool)) : ((l.map rB1).all fun r => r.all ZE) = true := by
  simp only [List.all_map, List.all_eq_true, Function.comp]
  exact fun a _ x hx => (rB1_flat a x hx).1
theorem rB1_cl (l : List (Bool)) : ((l.map rB1).all fun r => r.length == 1) = true := by simp [rB1]
theorem rB1_rn (K : List Nat) (H : Zj) (d : Nat) (l : List (Bool)) : Zf (Zf (YI K H (d + 1))) (l.map rB1) = some (l.map rB1) := Zu _ fun r hr => Zu _ fun x hx => by
  obtain ⟨a, _, rfl⟩ := List.mem_map.1 hr
  exact (rB1_flat a x hx).2.2 K H d
theorem rB1_fz (H : Zj) (d : Nat) (l : List (Bool)) : Zf (Zf (frz false H (d + 1))) (l.map rB1) = some (l.map rB1) := Zu _ fun r hr => Zu _ fun x hx => by
  obtain ⟨a, _, rfl⟩ := List.mem_map.1 hr
  exact (rB1_flat a x hx).2.1 H d
theorem rowB_flat (a : List Bool) : ∀ x ∈ rowB a, ZE x = true ∧ (∀ H d, frz false H (d + 1) x = some x) ∧ ∀ K H d, YI K H (d + 1) x = some x := by
  intro x hx
  simp only [rowB, List.mem_cons, List.not_mem_nil, or_false] at hx
  rcases hx with rfl <;> exact ⟨rfl, fun _ _ => rfl, fun _ _ _ => rfl⟩
theorem rowB_st (l : List (List Bool)) : ((l.map rowB).all fun r => r.all ZE) = true := by
  simp only [List.all_map, List.all_eq_true, Function.comp]
  exact fun a _ x hx => (rowB_flat a x hx).1
theorem rowB_cl (l : List (List Bool)) : ((l.map rowB).all fun r => r.length == 1) = true := by simp [rowB]
theorem rowB_rn (K : List Nat) (H : Zj) (d : Nat) (l : List (List Bool)) : Zf (Zf (YI K H (d + 1))) (l.map rowB) = some (l.map rowB) := Zu _ fun r hr => Zu _ fun x hx => by
  obtain ⟨a, _, rfl⟩ := List.mem_map.1 hr
  exact (rowB_flat a x hx).2.2 K H d
theorem rowB_fz (H : Zj) (d : Nat) (l : List (List Bool)) : Zf (Zf (frz false H (d + 1))) (l.map rowB) = some (l.map rowB) := Zu _ fun r hr => Zu _ fun x hx => by
  obtain ⟨a, _, rfl⟩ := List.mem_map.1 hr
  exact (rowB_flat a x hx).2.1 H d
theorem a13 (T : Nat → Option CFn) (hTb : ZB Tryz.prog GG T) (hT : T 13 = some c13) (h35 : T 35 = some { c35 with frsh := true, orc := o35r }) (u d : Int) (x y : Za) (its : List It5) (rs : List Rm3) (hx : Zm x = some (its.map rI5)) (hy : Zm y = some (rs.map rM3)) (hl3 : its.length ≤ 1000 ∧ rs.length ≤ 1000) (hok : ∀ v ∈ its, 0 ≤ v.2.2.2.2 ∧ v.2.2.2.2 ≤ 1000) : CAns Tryz.prog GG 13 [.agg [I u, I d], x, y] [] fun v h => frz false h 5 v = some (.vl ((mayT u d its rs).map rowB) false) := by
 have lx := Zv hx
 rw [List.length_map] at lx
 have rx := fun n d => ZF hx n d
 have fx := fun H d => Zw hx H d
 obtain ⟨cx1, cx2⟩ := Zy hx
 have ly := Zv hy
 rw [List.length_map] at ly
 have ry := fun n d => ZF hy n d
 have fy := fun H d => Zw hy H d
 obtain ⟨cy1, cy2⟩ := Zy hy
 have nx := fun K H => XJ K H 5 x (rx 0 4)
 have ny := fun K H => XJ K H 5 y (ry 0 4)
 have lox := XM hx
 have loy := XM hy
 refine cans_of hTb hT ?_
 simp only [oo, om, op, og, ci, cl, c13]
 have HH1 := zA h35 (zA nx (zA ny (zA lox (zA loy (zA lx (zA rx (zA fx (zA cx1 (zA cx2 (zA ly (zA ry (zA fy (zA cy1 cy2)))))))))))))
 refine Zc ?_
 refine Ze Zh hTb (zR (zO (by simp [zC h35, trim, -Zd, HH1]; rfl) ?_))
 simp only [zT, zB]
 refine Zc ?_
 refine Ze Zh hTb (zR (zO (by simp [zC h35, trim, -Zd, HH1]; rfl) ?_))
 simp only [zT, zB]
 refine Zc ?_
 refine Zc ?_
 refine Ze Zh hTb (zR (zO (by simp [zC h35, trim, -Zd, HH1]; rfl) ?_))
 simp only [zT, zB]
 refine Yu ?_
 refine cruns_loop (k := its.length - 0) (fun mm σ => ∃ (k : Nat) (i : Int) (ac : List (List Bool)) (p : Nat), i = k ∧ its.length - k = mm ∧ k ≤ its.length ∧ ac = (mayT u d its rs).take k ∧ ac.length = p ∧ σ = ⟨[.any, x, y, .ref 0 0 0, .any, .any, .any, .sl 1 0 p false, I i, .any, .any, .any, .any, .any, .any, .any, .any, .any, .any, .any, .any, .any, .any, .any, .any, .any, .any, .any, .any, .any, .any, .any, .any, .any, .any, .any, .any, .any, .any, .any, .any, .any, .any], [some (.row 2 [[I u, I d]]), some (.row 1 (ac.map rowB))]⟩) ⟨_, ren_kl 398 [0, 1] (by decide) (by simp) rfl (by simp [zC h35, trim, -Zd, HH1] <;> rfl) (by simp [zC h35, trim, -Zd, HH1] <;> rfl), 0, 0, [], 0, rfl, rfl, Nat.zero_le _, rfl, rfl, by simp⟩ ?_
 rintro mm σ ⟨k, i, ac, p, hik, rfl, hkn, hac, hl, rfl⟩
 have hlac : ac.length ≤ its.length := by rw [hac]; simp [mayT]; omega
 have tk : (ac.map rowB).take p = ac.map rowB := List.take_of_length_le (by simp [hl])
 have hlim : p + 1 ≤ 1048576 := by omega
 have hst := rowB_st ac
 have hcl := rowB_cl ac
 have hrn := fun K H d => rowB_rn K H d ac
 have hfz := fun H d => rowB_fz H d ac
 refine Zc ?_
 refine Zc ?_
 refine Ze Zh hTb (zR (zO (by simp [zC h35, trim, -Zd, HH1, tk, hl, hlim, ↓hst, ↓hcl, ↓hrn, ↓hfz]; rfl) ?_))
 simp only [zT, zB]
 refine Xg (x := decide (i < (its.length : Int))) (by simp) (fun hlt => ?_) (fun hlt => ?_)
 ·have hlt := of_decide_eq_true hlt
  have hk : k < its.length := by omega
  have hp : 0 ≤ i := by omega
  have htn : i.toNat = k := by omega
  have hwi : W .i64 (i + 1) = i + 1 := ZH (by omega)
  have hrk := hok _ (List.getElem_mem hk)
  obtain ⟨tx, rfl⟩ := ZG hx (k := k) (by simpa using hk)
  have g1 : (its.map rI5)[k]? = some (rI5 its[k]) := by rw [List.getElem?_map, List.getElem?_eq_getElem hk]; rfl
  have g2 : ∀ h, (its.map rI5)[k]'h = rI5 its[k] := fun h => by simp
  have hTk : (mayT u d its rs).take (k + 1) = (mayT u d its rs).take k ++ [rs.map fun r => mayX u d its[k] r] := by
   unfold mayT; rw [← List.map_take, ← List.map_take, List.take_succ_eq_append_getElem hk, List.map_append]; rfl
  generalize its[k] = v at *
  obtain ⟨x1, x2, x3, x4, x5⟩ := v
  have HH2 := zA tk (zA hl (zA hlim (zA hp (zA htn (zA hk (zA hwi (zA g1 g2)))))))
  refine Zx ?_
  simp only [zT, zB]
  refine Zc ?_
  refine Yu ?_
  refine Zc ?_
  refine Ze Zh hTb (zR (zO (by simp [zC h35, trim, -Zd, HH1, ↓hst, ↓hcl, ↓hrn, ↓hfz, rI5, -List.getElem?_map, -List.getElem_map, HH2]; rfl) ?_))
  simp only [zT, zB]
  refine Zc ?_
  refine Zc ?_
  refine Ze Zh hTb (zR (zO (by simp [zC h35, trim, -Zd, HH1, ↓hst, ↓hcl, ↓hrn, ↓hfz, rI5, -List.getElem?_map, -List.getElem_map, HH2]; rfl) ?_))
  simp only [zT, zB]
  refine Yu ?_
  refine cruns_loop (k := rs.length - 0) (fun mmj σ => ∃ (kj : Nat) (ij : Int) (bc : List Bool) (pj : Nat), ij = kj ∧ rs.length - kj = mmj ∧ kj ≤ rs.length ∧ bc = (rs.take kj).map (fun r => mayX u d (x1, x2, x3, x4, x5) r) ∧ bc.length = pj ∧ σ = ⟨[.any, .vl (its.map rI5) tx, y, .ref 0 0 0, .any, .any, .any, .sl 1 0 p false, I i, .sl 2 0 pj false, I ij, .any, .any, .any, .any, .any, .any, .any, .any, .any, .any, .any, .any, .any, .any, .any, .any, .any, .any, .any, .any, .any, .any, .any, .any, .any, .any, .any, .any, .any, .any, .any, .any], [some (.row 2 [[I u, I d]]), some (.row 1 (ac.map rowB)), some (.row 1 (bc.map rB1))]⟩) ⟨_, ren_kl 1934 [0, 1, 2] (by decide) (by simp) rfl (by simp [zC h35, trim, -Zd, HH1, ↓hst, ↓hcl, ↓hrn, ↓hfz, rI5, -List.getElem?_map, -List.getElem_map, HH2] <;> rfl) (by simp [zC h35, trim, -Zd, HH1, ↓hst, ↓hcl, ↓hrn, ↓hfz, rI5, -List.getElem?_map, -List.getElem_map, HH2] <;> rfl), 0, 0, [], 0, rfl, rfl, Nat.zero_le _, rfl, rfl, by simp⟩ ?_
  rintro mmj σ ⟨kj, ij, bc, pj, hikj, rfl, hknj, hbc, hlj, rfl⟩
  have hlbc : bc.length ≤ rs.length := by rw [hbc, List.length_map, List.length_take]; exact Nat.min_le_right _ _
  have tkj : (bc.map rB1).take pj = bc.map rB1 := List.take_of_length_le (by simp [hlj])
  have hlimj : pj + 1 ≤ 1048576 := by omega
  have hstj := rB1_st bc
  have hclj := rB1_cl bc
  have hrnj := fun K H d => rB1_rn K H d bc
  have hfzj := fun H d => rB1_fz H d bc
  have HH3 := zA hst (zA hcl (zA hrn (zA hfz (zA hstj (zA hclj (zA hrnj hfzj))))))
  refine Zc ?_
  refine Zc ?_
  refine Ze Zh hTb (zR (zO (by simp [zC h35, trim, -Zd, HH1, rI5, -List.getElem?_map, -List.getElem_map, HH2, tkj, hlj, hlimj, ↓HH3]; rfl) ?_))
  simp only [zT, zB]
  refine Xg (x := decide (ij < (rs.length : Int))) (by simp) (fun hltj => ?_) (fun hltj => ?_)
  ·have hltj := of_decide_eq_true hltj
   have hkj : kj < rs.length := by omega
   have hpj : 0 ≤ ij := by omega
   have htnj : ij.toNat = kj := by omega
   have hwij : W .i64 (ij + 1) = ij + 1 := ZH (by omega)
   obtain ⟨ty, rfl⟩ := ZG hy (k := kj) (by simpa using hkj)
   have g3 : (rs.map rM3)[kj]? = some (rM3 rs[kj]) := by rw [List.getElem?_map, List.getElem?_eq_getElem hkj]; rfl
   have g4 : ∀ h, (rs.map rM3)[kj]'h = rM3 rs[kj] := fun h => by simp
   have hRk : rs.take (kj + 1) = rs.take kj ++ [rs[kj]] := List.take_succ_eq_append_getElem hkj
   generalize rs[kj] = r at *
   obtain ⟨r1, r2, r3⟩ := r
   have e35 : o35r [.agg [I u, I d], .agg [I x1, I x2, I x3, I x4, I x5], .agg [I r1, I r2, I r3]] = some (.bool (mayX u d (x1, x2, x3, x4, x5) (r1, r2, r3))) := by
    simp only [o35r]; rw [if_pos hrk]
   generalize hbb : mayX u d (x1, x2, x3, x4, x5) (r1, r2, r3) = bb at *
   have HH4 := zA tkj (zA hlj (zA hlimj (zA hpj (zA htnj (zA hkj (zA hwij (zA g3 (zA g4 e35))))))))
   refine Zx ?_
   simp only [zT, zB]
   refine Zc ?_
   refine Yu ?_
   refine Ze Zh hTb (Yd (by simp (maxSteps := 3000000) [zC h35, trim, -Zd, HH1, rI5, -List.getElem?_map, -List.getElem_map, HH2, ↓HH3, rM3, HH4]; rfl) ?_)
   simp only [zT, zB]
   refine Ze Zh hTb (zR (zO (by simp [zC h35, trim, -Zd, HH1, rI5, -List.getElem?_map, -List.getElem_map, HH2, ↓HH3, rM3, HH4]; rfl) ?_))
   simp only [zT, zB]
   have hapj : ∀ K H d, Zf (Zf (YI K H (d + 1))) (bc.map rB1 ++ [[.bool bb]]) = some ((bc ++ [bb]).map rB1) := fun K H d => by
    have h := rB1_rn K H d (bc ++ [bb])
    rw [List.map_append] at h ⊢
    have e : [[.bool bb]] = [bb].map rB1 := by rfl
    rw [e]; exact h
   exact ⟨rs.length - (kj + 1), _, by omega, ren_kl 1934 [0, 1, 17] (by decide) (by simp) rfl (by simp [zC h35, trim, -Zd, HH1, rI5, -List.getElem?_map, -List.getElem_map, HH2, ↓HH3, rM3, HH4, ↓hapj] <;> rfl) (by simp [zC h35, trim, -Zd, HH1, rI5, -List.getElem?_map, -List.getElem_map, HH2, ↓HH3, rM3, HH4, ↓hapj] <;> rfl), kj + 1, ij + 1, bc ++ [bb], pj + 1, by omega, rfl, by omega, by rw [hRk, List.map_append, ← hbc]; simp [hbb], by simp [hlj], by simp [zC h35, trim, -Zd, HH1, rI5, -List.getElem?_map, -List.getElem_map, HH2, ↓HH3, rM3, HH4, ↓hapj]⟩
  ·have hltj := of_decide_eq_false hltj
   have hEj : kj = rs.length := by omega
   have hbc2 : bc = rs.map fun r => mayX u d (x1, x2, x3, x4, x5) r := by rw [hbc, hEj, List.take_length]
   have hcat := fun K H d r => optAll_cat (rowB_rn K H d ac) r
   have hvb : [Za.vl (bc.map rB1) false] = rowB bc := rfl
   have hpj : pj ≤ bc.length := by omega
   have HH5 := zA tkj (zA hlj (zA hlimj (zA hpj hvb)))
   refine YO ?_
   simp only [zT, zB, if_true, if_false, reduceIte, Nat.reduceEqDiff, Nat.succ_ne_zero, Nat.one_ne_zero, Nat.zero_ne_one]
   refine Ze Zh hTb (zR (zO (by simp [zC h35, trim, -Zd, HH1, rI5, -List.getElem?_map, -List.getElem_map, HH2, ↓HH3, ↓hcat, HH5]; rfl) ?_))
   simp only [zT, zB]
   refine Ze Zh hTb (zR (zO (by simp [zC h35, trim, -Zd, HH1, rI5, -List.getElem?_map, -List.getElem_map, HH2, ↓HH3, ↓hcat, HH5]; rfl) ?_))
   simp only [zT, zB]
   exact ⟨its.length - (k + 1), _, by omega, ren_kl 398 [0, 4] (by decide) (by simp) rfl (by simp [zC h35, trim, -Zd, HH1, rI5, -List.getElem?_map, -List.getElem_map, HH2, ↓HH3, ↓hcat, HH5] <;> rfl) (by simp [zC h35, trim, -Zd, HH1, rI5, -List.getElem?_map, -List.getElem_map, HH2, ↓HH3, ↓hcat, HH5] <;> rfl), k + 1, i + 1, ac ++ [bc], p + 1, by omega, rfl, by omega, by rw [hTk, ← hac, hbc2], by simp [hl], by simp [zC h35, trim, -Zd, HH1, rI5, -List.getElem?_map, -List.getElem_map, HH2, ↓HH3, ↓hcat, HH5]⟩
 ·have hlt := of_decide_eq_false hlt
  have hE : k = its.length := by omega
  have hac2 : ac = mayT u d its rs := by rw [hac, hE, List.take_of_length_le]; simp [mayT]
  subst hac2
  refine YO ?_
  simp only [zT, zB, if_true, if_false, reduceIte, Nat.reduceEqDiff, Nat.succ_ne_zero, Nat.one_ne_zero, Nat.zero_ne_one]
  refine Zc ?_
  refine Ze Zh hTb (zR (zO (by simp [zC h35, trim, -Zd, HH1, tk, hl, hlim, ↓hst, ↓hcl, ↓hrn, ↓hfz]; rfl) ?_))
  simp only [zT, zB]
  refine Ym ?_
  simp [zC h35, trim, -Zd, HH1, tk, hl, hlim, ↓hst, ↓hcl, ↓hrn, ↓hfz]
end
end
end Go.Proofs.YtpebmjeomlgmdaaGreatDoor.Tab
namespace Go.Abs
open Go
noncomputable section
def dropE (sp : List Za → Option Za) (args : List Za) (h : Zj) : Option (Za × List (Nat × Option Blk)) :=
 match Zf (frz false (onlyJ (ptrs [] args) 0 h) 5) args with
 | some ass => match sp ass with
  | some v => if rb 0 5 v = true ∧ (ptrs [] args).all (fun i => decide (i < h.length)) = true then some (v, (ptrs [] args).map fun i => (i, none)) else none
  | none => none
 | none => none
theorem setH_hide : ∀ (J : List Nat) (h : Zj), (∀ i ∈ J, i < h.length) → setH h (J.map fun i => (i, none)) = Xn J h
 | [], h, _ => rfl
 | i :: J, h, hj => by
  have hi := hj i (by simp)
  have e : putH h i none = h.set i none := by unfold putH; rw [if_pos hi]
  show setH (putH h i none) (J.map fun i => (i, none)) = Xn J (h.set i none)
  rw [e]
  exact setH_hide J _ fun k hk => by rw [List.length_set]; exact hj k (by simp [hk])
section
variable {P : Program} {G : Nat → Option (List Za)} {T : Nat → Option CFn} {E : Env} {h : Zj} {w : World}
theorem drop_good {f : Nat} {args ass : List Za} {v : Za} {J : List Nat} (hc : OrcGood P G false f ass v) (has : Zf (frz false (onlyJ J 0 h) 5) args = some ass) : Xl P G f args h v (Xn J h) := by
 intro E w cargs k hr hl
 let B : Nat → Prop := fun b => ∃ i c, i ∈ J ∧ h[i]? = some (some c) ∧ (E.ρ i).b = b
 have hBs : ∀ b, B b → E.O b ∧ b < w.heap.size := by
  rintro b ⟨i, c, _, hi, rfl⟩
  obtain ⟨_, h2, h3, _⟩ := hr.blk i c hi
  exact ⟨h2, h3⟩
 let E0 : Env := ⟨E.ρ, fun _ => False, fun _ => False, fun b => E.I b ∨ B b⟩
 have hI1 : ∀ b, E0.I b → b < w.heap.size := fun b hb => hb.elim (fun hb => (hr.imm b hb).1) fun hb => (hBs b hb).2
 have hr0 : E0.HR P G [] w :=
  ⟨fun i b hi => by simp at hi, fun i j b c hi => by simp at hi, fun i hi => hi.elim, fun b hb => hb.elim, fun b hb => ⟨hI1 b hb, fun h => h⟩, fun g r hg => by
   have := hr.glob g r hg
   generalize hp : Value.pointer (some ⟨g, 0, none⟩) = pv at this ⊢
   cases this with
   | pv _ _ _ b off cv hb hc h => exact .pv _ _ _ b off cv (.inl hb) hc fun j hj => VR.mono (h j hj) _ (fun i hi => hi.elim) fun b hb => ⟨.inl hb, rfl⟩⟩
 have hl0 : E0.LR w ass cargs := by
  obtain ⟨g1, g2⟩ := ZJ has
  refine ⟨by rw [← g1]; exact hl.1, fun j h1 h2 => ?_⟩
  exact frz_ok (onlyJ_hr hr J) (fun i b hi => .inr ⟨i, b, by simpa using (onlyJ_get hi).1, (onlyJ_get hi).2, rfl⟩) (fun _ b hb => .inl hb) 5 (hl.2 j (by omega) h2) (g2 j (by omega) h1)
 refine CallsIn.mono (hc E0 w cargs k (fun _ h => h) (fun _ h => h) hr0 hl0) ?_
 rintro e w' ⟨u, I', rfl, hos, htape, hout, hsz, hold, hI', hu⟩
 let E2 : Env := ⟨E.ρ, E.D, fun b => E.O b ∧ ¬ B b, fun b => E.I b ∨ B b ∨ I' b⟩
 have hv2 : ∀ x cv, E.VR w x cv → E2.VR w' x cv := fun x cv hx => VR.mono hx _ (fun i hi => ⟨hi, rfl⟩) fun b hb => ⟨.inl hb, hold b (hr.imm b hb).1⟩
 refine ⟨u, E2, rfl, ⟨hos, htape, hout, hsz, fun i hi => ⟨hi, rfl⟩, fun b hb => .inl hb, fun b hb ho => ⟨hold b hb, fun h => ho h.1, fun h => ?_⟩⟩, ⟨fun i b hi => ?_, fun i j b c hi hj he => ?_, fun i hi => ?_, fun b hb => ?_, fun b hb => ?_, fun g r hg => ?_⟩, ?_, fun j hj => .inl hj, ?_⟩
 ·rcases h with h | h | h
  ·exact h
  ·exact absurd (hBs b h).1 ho
  ·rcases (hI' b h).2 with h2 | ⟨_, h2 | h2⟩
   ·omega
   ·exact h2
   ·exact absurd (hBs b h2).1 ho
 ·obtain ⟨hn, hg⟩ := hideK_get hi
  obtain ⟨b1, b2, b3, b4⟩ := hr.blk i b hg
  refine ⟨b1, ⟨b2, ?_⟩, Nat.lt_of_lt_of_le b3 hsz, br_mono (E' := E2) b4 rfl (hold _ b3) hv2⟩
  rintro ⟨i', c, hm, hg', he⟩
  exact hn (hr.inj _ _ _ _ hg' hg he ▸ hm)
 ·exact hr.inj i j b c (hideK_get hi).2 (hideK_get hj).2 he
 ·rw [hideK_len]; exact hr.lt i hi
 ·exact Nat.lt_of_lt_of_le (hr.own b hb.1) hsz
 ·rcases hb with hb | hb | hb
  ·exact ⟨Nat.lt_of_lt_of_le (hr.imm b hb).1 hsz, fun ho => (hr.imm b hb).2 ho.1⟩
  ·exact ⟨Nat.lt_of_lt_of_le (hBs b hb).2 hsz, fun ho => ho.2 hb⟩
  ·refine ⟨(hI' b hb).1, fun ho => ?_⟩
   rcases (hI' b hb).2 with h2 | ⟨_, h2 | h2⟩
   ·have := hr.own b ho.1; omega
   ·exact (hr.imm b h2).2 ho.1
   ·exact ho.2 h2
 ·exact hv2 _ _ (hr.glob g r hg)
 ·exact VR.mono hu _ (fun i hi => hi.elim) fun b hb => ⟨.inr (.inr hb), rfl⟩
 ·rw [hideK_len]; exact Nat.le_refl _
theorem tab_drop (hT : ZB P G T) {f : Nat} {sp : List Za → Option Za} (ho : ∀ args v, sp args = some v → OrcGood P G false f args v) : ZB P G (updE T f (dropE sp)) :=
 tab_updE hT fun args h v us he => by
  unfold dropE at he
  split at he <;> (try simp only [reduceCtorEq] at he)
  rename_i ass e1
  split at he <;> (try simp only [reduceCtorEq] at he)
  rename_i v1 e2
  split at he <;> (try simp only [reduceCtorEq] at he)
  rename_i hg
  simp only [Option.some.injEq, Prod.mk.injEq] at he
  obtain ⟨rfl, rfl⟩ := he
  rw [setH_hide _ _ fun i hi => by have := List.all_eq_true.1 hg.2 i hi; simpa using this]
  exact drop_good (ho ass v1 e2) e1
end
end
end Go.Abs
namespace Go.Proofs.YtpebmjeomlgmdaaGreatDoor.Tab
open Go Go.Abs Go.Proofs
set_option maxRecDepth 100000
set_option maxHeartbeats 4000000
set_option linter.unusedSimpArgs false
set_option linter.unusedVariables false
section
attribute [local simp] Yv Ye XB XC YD YJ XD YL Xh YC Zf orcF Xv YV Xx Xt YU YA rb_vl rb_pv Xr YT YS YR Xw Xs Xu XZ rb_fn slE XP Xk Yp ZQ XG List.range_succ List.range_zero List.range'_succ List.range'_zero Yi Yg ZK Yl ZR ZT Xm Yf dop CV.ev Ys ZA ZM Xa fI_eq Yt Yc ZN Zz Out.v Xy List.replicate_succ zT zB arI ZO Abs.rowAt Xq allV toV toC ofV ofC Builtin.min_ Builtin.min2 Builtin.max_ Builtin.max2 Xz XA resA XS Xj Yh Yx Yy Yw Zd
section
attribute [local simp] Yj ZU YP YM XR Xo disj YY holes YZ ZX Xb news eqB Xc eqA YK Xi toCs ofCs stA Yz ZV Yr dI1 dI2 dI3 dI5 elt
attribute [local simp] st_any st_und st_agg st_tup XX st_int XU st_ref st_pv XT st_sl st_vl XV st_mp st_fn XW st_yld co_any co_und co_agg co_tup co_bool co_int co_nilp co_ref co_pv co_nils co_sl co_vl co_nilm co_mp co_fn co_nilf co_yld
attribute [local simp] Ya Zq dropE Xn lim loose_agg loose_any loose_bool loose_fn loose_int loose_mp loose_nilf loose_nilm loose_nilp loose_nils loose_pv loose_ref loose_sl loose_tup loose_und loose_vl loose_yld lop Yk onlyJ posOf ptrs putH renB renE renV_agg renV_any renV_bool renV_fn renV_int renV_mp renV_nilf renV_nilp renV_nils renV_pv renV_ref renV_sl renV_tup renV_und renV_vl renV_yld setH
def rZ (x : Int) : List Za := [I x]
def plR (rs : List Rm3) : List Int := rs.map fun r => r.2.2
def usedR (b : List Int) (k : Nat) : Nat := b.countP fun x => x == (k : Int)
def Yn (T0 : List (List Bool)) (pl : List Int) (lf : List Bool) : Nat → List Int → Option (List Int)
  | 0, b => some b
  | d + 1, b => if lf.getD b.length false = true then Yn T0 pl lf d (b ++ [-1]) else (List.range pl.length).findSome? fun k => if ((T0.getD b.length []).getD k false && decide ((usedR b k : Int) < pl.getD k 0)) = true then Yn T0 pl lf d (b ++ [(k : Int)]) else none
def stepR (T0 : List (List Bool)) (pl : List Int) (lf : List Bool) (d : Nat) (b : List Int) (k : Nat) : Option (List Int) := if ((T0.getD b.length []).getD k false && decide ((usedR b k : Int) < pl.getD k 0)) = true then Yn T0 pl lf d (b ++ [(k : Int)]) else none
theorem storeR_left {T0 : List (List Bool)} {pl : List Int} {lf : List Bool} {d : Nat} {b : List Int} (h : lf.getD b.length false = true) : Yn T0 pl lf (d + 1) b = Yn T0 pl lf d (b ++ [-1]) := by simp only [Yn]; rw [if_pos h]
theorem find_none {β : Type} {f : Nat → Option β} : ∀ n, (∀ j < n, f j = none) → (List.range n).findSome? f = none
  | 0, _ => rfl
  | n + 1, h => by rw [List.range_succ, List.findSome?_append, find_none n fun j hj => h j (by omega)]; simp [h n (by omega)]
theorem find_at {β : Type} {f : Nat → Option β} {n k : Nat} {v : β} (hk : k < n) (h : ∀ j < k, f j = none) (hv : f k = some v) : (List.range n).findSome? f = some v := by
  obtain ⟨m, rfl⟩ : ∃ m, n = (k + 1) + m := ⟨n - (k + 1), by omega⟩
  rw [List.range_add, List.findSome?_append, List.range_succ, List.findSome?_append, find_none k h]
  simp [hv]
theorem storeR_none {T0 : List (List Bool)} {pl : List Int} {lf : List Bool} {d : Nat} {b : List Int} (h : lf.getD b.length false = false) (hn : ∀ j < pl.length, stepR T0 pl lf d b j = none) : Yn T0 pl lf (d + 1) b = none := by
  simp only [Yn]; rw [if_neg (by rw [h]; simp)]; exact find_none _ hn
theorem storeR_at {T0 : List (List Bool)} {pl : List Int} {lf : List Bool} {d k : Nat} {b v : List Int} (h : lf.getD b.length false = false) (hk : k < pl.length) (hn : ∀ j < k, stepR T0 pl lf d b j = none) (hv : stepR T0 pl lf d b k = some v) : Yn T0 pl lf (d + 1) b = some v := by
  simp only [Yn]; rw [if_neg (by rw [h]; simp)]; exact find_at hk hn hv
theorem used_succ {b : List Int} {j k : Nat} (h : j < b.length) : usedR (b.take (j + 1)) k = usedR (b.take j) k + if b[j] = (k : Int) then 1 else 0 := by
  unfold usedR
  rw [List.take_succ_eq_append_getElem h, List.countP_append]
  simp [List.countP_cons]
theorem used_le (b : List Int) (k : Nat) : usedR b k ≤ b.length := List.countP_le_length
def ret12 (bv : Za) (d : Nat) : Option (List Int) → Za
  | some b => .tup [if d = 0 then bv else .vl (b.map rZ) false, .bool true]
  | none => .tup [.nils, .bool false]
def dB1 : List Za → Option Bool
  | [.bool b] => some b
  | _ => none
theorem dB1_eq (r : List Za) (b : Bool) (h : dB1 r = some b) : r = rB1 b := by
  unfold dB1 at h; split at h <;> simp at h; subst h; rfl
def dRB : List Za → Option (List Bool)
  | [.vl rs false] => Zf dB1 rs
  | _ => none
theorem dRB_eq (r : List Za) (b : List Bool) (h : dRB r = some b) : r = rowB b := by
  unfold dRB at h; split at h <;> (try simp only [reduceCtorEq] at h)
  rw [rowB, vB, ZY (enc := rB1) dB1_eq h]
theorem dRB_of (b : List Bool) : dRB (rowB b) = some b := YB (d := dB1) (enc := rB1) (fun _ => rfl) b
theorem dI1_eqZ (r : List Za) (x : Int) (h : dI1 r = some x) : r = rZ x := dI1_eq r x h
def o12s (D : Nat) : List Za → Option Za
  | [mv, y, lv, bv] => match Zm mv, Zm y, Zm lv, Zm bv with
    | some m, some r, some l, some c => match Zf dRB m, Zf dM3 r, Zf dB1 l, Zf dI1 c with
      | some T0, some rs, some lf, some b => if (T0.length ≤ 7 ∧ rs.length ≤ 4 ∧ lf.length = T0.length ∧ b.length ≤ T0.length ∧ T0.length < b.length + D) ∧ (∀ r ∈ T0, r.length = rs.length) ∧ (∀ x ∈ b, -1 ≤ x ∧ x ≤ 1000) then some (ret12 bv (T0.length - b.length) (Yn T0 (plR rs) lf (T0.length - b.length) b)) else none
      | _, _, _, _ => none
    | _, _, _, _ => none
  | _ => none
theorem o12s_eq {D : Nat} {T0 : List (List Bool)} {rs : List Rm3} {lf : List Bool} {b : List Int} {mv y lv bv : Za} (hm : Zm mv = some (T0.map rowB)) (hy : Zm y = some (rs.map rM3)) (hl : Zm lv = some (lf.map rB1)) (hb : Zm bv = some (b.map rZ)) (h7 : T0.length ≤ 7) (h4 : rs.length ≤ 4) (hlf : lf.length = T0.length) (hrow : ∀ r ∈ T0, r.length = rs.length) (hbz : ∀ x ∈ b, -1 ≤ x ∧ x ≤ 1000) {d : Nat} (hd : b.length + d = T0.length) (hD : d < D) : o12s D [mv, y, lv, bv] = some (ret12 bv d (Yn T0 (plR rs) lf d b)) := by
  have e1 := YB (d := dRB) (enc := rowB) dRB_of T0
  have e2 := YB (d := dM3) (enc := rM3) (fun _ => rfl) rs
  have e3 := YB (d := dB1) (enc := rB1) (fun _ => rfl) lf
  have e4 := YB (d := dI1) (enc := rZ) (fun _ => rfl) b
  simp only [o12s, hm, hy, hl, hb, e1, e2, e3, e4]
  rw [if_pos ⟨⟨h7, h4, hlf, by omega, by omega⟩, hrow, hbz⟩, show T0.length - b.length = d by omega]
theorem ptrs_rows {x : Za} {rs : List (List Za)} (hx : Zm x = some rs) (acc : List Nat) (r : List Za) : ptrs acc (x :: r) = ptrs acc r := by cases x <;> simp [Zm] at hx <;> rfl
theorem rZ_flat (a : Int) : ∀ x ∈ rZ a, ZE x = true ∧ (∀ H d, frz false H (d + 1) x = some x) ∧ ∀ K H d, YI K H (d + 1) x = some x := by
  intro x hx
  simp only [rZ, List.mem_cons, List.not_mem_nil, or_false] at hx
  rcases hx with rfl <;> exact ⟨rfl, fun _ _ => rfl, fun _ _ _ => rfl⟩
theorem rZ_st (l : List (Int)) : ((l.map rZ).all fun r => r.all ZE) = true := by
  simp only [List.all_map, List.all_eq_true, Function.comp]
  exact fun a _ x hx => (rZ_flat a x hx).1
theorem rZ_cl (l : List (Int)) : ((l.map rZ).all fun r => r.length == 1) = true := by simp [rZ]
theorem rZ_rn (K : List Nat) (H : Zj) (d : Nat) (l : List (Int)) : Zf (Zf (YI K H (d + 1))) (l.map rZ) = some (l.map rZ) := Zu _ fun r hr => Zu _ fun x hx => by
  obtain ⟨a, _, rfl⟩ := List.mem_map.1 hr
  exact (rZ_flat a x hx).2.2 K H d
theorem rZ_fz (H : Zj) (d : Nat) (l : List (Int)) : Zf (Zf (frz false H (d + 1))) (l.map rZ) = some (l.map rZ) := Zu _ fun r hr => Zu _ fun x hx => by
  obtain ⟨a, _, rfl⟩ := List.mem_map.1 hr
  exact (rZ_flat a x hx).2.1 H d
theorem lev12 (T : Nat → Option CFn) (hTb : ZB Tryz.prog GG T) (d : Nat) (hT : T 12 = some { c12 with frsh := false, orc := fun _ => none, eff := dropE (o12s d) }) (T0 : List (List Bool)) (rs : List Rm3) (lf : List Bool) (b : List Int) (mv y lv bv : Za) (hm : Zm mv = some (T0.map rowB)) (hy : Zm y = some (rs.map rM3)) (hl : Zm lv = some (lf.map rB1)) (hb : Zm bv = some (b.map rZ)) (h7 : T0.length ≤ 7) (h4 : rs.length ≤ 4) (hlf : lf.length = T0.length) (hrow : ∀ r ∈ T0, r.length = rs.length) (hbz : ∀ x ∈ b, -1 ≤ x ∧ x ≤ 1000) (hd : b.length + d = T0.length) : CAns Tryz.prog GG 12 [mv, y, lv, bv] [] fun v h => frz false h 5 v = some (ret12 bv d (Yn T0 (plR rs) lf d b)) := by
  have lm := Zv hm
  rw [List.length_map] at lm
  have rm := fun n d => ZF hm n d
  have fm := fun H d => Zw hm H d
  obtain ⟨cm1, cm2⟩ := Zy hm
  have ly := Zv hy
  rw [List.length_map] at ly
  have ry := fun n d => ZF hy n d
  have fy := fun H d => Zw hy H d
  obtain ⟨cy1, cy2⟩ := Zy hy
  have ll := Zv hl
  rw [List.length_map] at ll
  have rl := fun n d => ZF hl n d
  have fl := fun H d => Zw hl H d
  obtain ⟨cl1, cl2⟩ := Zy hl
  have lb := Zv hb
  rw [List.length_map] at lb
  have rb := fun n d => ZF hb n d
  have fb := fun H d => Zw hb H d
  obtain ⟨cb1, cb2⟩ := Zy hb
  have nm := fun K H => XJ K H 5 mv (rm 0 4)
  have hqm := fun acc r => ptrs_rows hm acc r
  have lom := XM hm
  have ny := fun K H => XJ K H 5 y (ry 0 4)
  have hqy := fun acc r => ptrs_rows hy acc r
  have loy := XM hy
  have nl := fun K H => XJ K H 5 lv (rl 0 4)
  have hql := fun acc r => ptrs_rows hl acc r
  have lol := XM hl
  have nb := fun K H => XJ K H 5 bv (rb 0 4)
  have hqb := fun acc r => ptrs_rows hb acc r
  have lob := XM hb
  refine cans_of hTb hT ?_
  simp only [oo, om, op, og, ci, cl, c12]
  have HH1 := And.intro hT (And.intro lm (And.intro rm (And.intro fm (And.intro cm1 (And.intro cm2 (And.intro ly (And.intro ry (And.intro fy (And.intro cy1 (And.intro cy2 (And.intro ll (And.intro rl (And.intro fl (And.intro cl1 (And.intro cl2 (And.intro lb (And.intro fb (And.intro cb1 (And.intro cb2 (And.intro hqm (And.intro hqy (And.intro hql (And.intro nm (And.intro ny (And.intro nl (And.intro nb (And.intro lom (And.intro loy (And.intro lol lob)))))))))))))))))))))))))))))
  refine Zc ?_
  refine Ze Zh hTb (zR (zO (by simp [Zb hT rfl, ↓Zt, trim, -Zd, rb, HH1]; rfl) ?_))
  simp only [zT, zB]
  refine Zc ?_
  refine Ze Zh hTb (zR (zO (by simp [Zb hT rfl, ↓Zt, trim, -Zd, rb, HH1]; rfl) ?_))
  simp only [zT, zB]
  refine Zc ?_
  refine Zc ?_
  refine Ze Zh hTb (zR (zO (by simp [Zb hT rfl, ↓Zt, trim, -Zd, rb, HH1]; rfl) ?_))
  simp only [zT, zB]
  rcases d with _ | e
  · have hK : ((b.length : Int) == (T0.length : Int)) = true := by simp; omega
    refine Zs (x := true) (by simp [Zb hT rfl, ↓Zt, trim, -Zd, rb, HH1, hK]) ?_
    refine Zc ?_
    refine Ze Zh hTb (zR (zO (by simp [Zb hT rfl, ↓Zt, trim, -Zd, rb, HH1, hK]; rfl) ?_))
    simp only [zT, zB]
    refine Ym ?_
    simp [Zb hT rfl, ↓Zt, trim, -Zd, rb, HH1, hK, Yn, ret12]
  · have hK : ((b.length : Int) == (T0.length : Int)) = false := by simp; omega
    have hbT : b.length < T0.length := by omega
    have hbL : b.length < lf.length := by omega
    obtain ⟨tl, rfl⟩ := ZG hl (k := b.length) (by simpa using hbL)
    have g1 : (lf.map rB1)[b.length]? = some (rB1 lf[b.length]) := by rw [List.getElem?_map, List.getElem?_eq_getElem hbL]; rfl
    have g2 : ∀ h, (lf.map rB1)[b.length]'h = rB1 lf[b.length] := fun h => by simp
    have hgl : lf.getD b.length false = lf[b.length] := by simp [List.getD, List.getElem?_eq_getElem hbL]
    generalize hLb : lf[b.length] = LB at *
    refine Zs (x := false) (by simp [Zb hT rfl, ↓Zt, trim, -Zd, rb, HH1, hK, g1, g2, hbL, rB1, -List.getElem?_map, -List.getElem_map]) ?_
    refine Zx ?_
    simp only [zT, zB]
    refine Zc ?_
    refine Zc ?_
    refine Ze Zh hTb (zR (zO (by simp [Zb hT rfl, ↓Zt, trim, -Zd, rb, HH1, hK, g1, g2, hbL, rB1, -List.getElem?_map, -List.getElem_map]; rfl) ?_))
    simp only [zT, zB]
    cases LB
    · refine Zs (x := false) (by simp) ?_
      refine Zx ?_
      simp only [zT, zB]
      refine Zc ?_
      refine Zc ?_
      refine Ze Zh hTb (zR (zO (by simp [Zb hT rfl, ↓Zt, trim, -Zd, rb, HH1, hK, g1, g2, hbL, rB1, -List.getElem?_map, -List.getElem_map]; rfl) ?_))
      simp only [zT, zB]
      refine Yu ?_
      refine cruns_loop (k := rs.length - 0) (fun mm σ => ∃ (k : Nat) (i : Int), i = k ∧ rs.length - k = mm ∧ k ≤ rs.length ∧ (∀ j < k, stepR T0 (plR rs) lf e b j = none) ∧ σ = ⟨[mv, y, .vl (lf.map rB1) tl, bv, .any, .any, .any, .any, .any, .any, I (b.length : Int), I i, .any, .any, .any, .any, .any, .any, .any, .any, .any, .any, .any, .any, .any, .any, .any, .any, .any, .any, .any, .any, .any, .any, .any, .any, .any, .any, .any, .any, .any, .any, .any, .any, .any, .any, .any, .any, .any, .any, .any, .any, .any, .any, .any, .any, .any, .any, .any, .any, .any, .any, .any, .any, .any, .any, .any, .any, .any, .any, .any, .any, .any, .any, .any, .any, .any, .any, .any, .any, .any, .any, .any, .any, .any, .any, .any, .any, .any], []⟩) ⟨_, ren_kl 3087 [] (by decide) (by simp) rfl (by simp [Zb hT rfl, ↓Zt, trim, -Zd, rb, HH1, hK, g1, g2, hbL, rB1, -List.getElem?_map, -List.getElem_map] <;> rfl) (by simp [Zb hT rfl, ↓Zt, trim, -Zd, rb, HH1, hK, g1, g2, hbL, rB1, -List.getElem?_map, -List.getElem_map] <;> rfl), 0, 0, rfl, rfl, Nat.zero_le _, (fun j hj => absurd hj (Nat.not_lt_zero j)), by simp⟩ ?_
      rintro mm σ ⟨k, i, hik, rfl, hkn, hno, rfl⟩
      refine Zc ?_
      refine Zc ?_
      refine Ze Zh hTb (zR (zO (by simp [Zb hT rfl, ↓Zt, trim, -Zd, rb, HH1, hK, g1, g2, hbL, rB1, -List.getElem?_map, -List.getElem_map]; rfl) ?_))
      simp only [zT, zB]
      refine Xg (x := decide (i < (rs.length : Int))) (by simp) (fun hlt => ?_) (fun hlt => ?_)
      · have hlt := of_decide_eq_true hlt
        have hk : k < rs.length := by omega
        have hp : 0 ≤ i := by omega
        have htn : i.toNat = k := by omega
        have hwi : W .i64 (i + 1) = i + 1 := ZH (by omega)
        have hkp : k < (plR rs).length := by simpa [plR] using hk
        obtain ⟨U, hU⟩ : ∃ U : Int, ((usedR b k : Nat) : Int) = U := ⟨_, rfl⟩
        have hule := used_le b k
        have HH2 := And.intro hK (And.intro g1 (And.intro g2 (And.intro hbL (And.intro hp (And.intro htn (And.intro hk hwi))))))
        refine Zx ?_
        simp only [zT, zB]
        refine Zc ?_
        refine Yu ?_
        refine Zc ?_
        refine Ze Zh hTb (zR (zO (by simp [Zb hT rfl, ↓Zt, trim, -Zd, rb, HH1, rB1, -List.getElem?_map, -List.getElem_map, HH2]; rfl) ?_))
        simp only [zT, zB]
        refine Zc ?_
        refine Zc ?_
        refine Ze Zh hTb (zR (zO (by simp [Zb hT rfl, ↓Zt, trim, -Zd, rb, HH1, rB1, -List.getElem?_map, -List.getElem_map, HH2]; rfl) ?_))
        simp only [zT, zB]
        refine Yu ?_
        refine cruns_loop (k := b.length - 0) (fun mmj σ => ∃ (kj : Nat) (ij : Int) (u : Int), ij = kj ∧ b.length - kj = mmj ∧ kj ≤ b.length ∧ ((usedR (b.take kj) k : Nat) : Int) = u ∧ σ = ⟨[mv, y, .vl (lf.map rB1) tl, bv, .any, .any, .any, .any, .any, .any, I (b.length : Int), I i, I u, I ij, .any, .any, .any, .any, .any, .any, .any, .any, .any, .any, .any, .any, .any, .any, .any, .any, .any, .any, .any, .any, .any, .any, .any, .any, .any, .any, .any, .any, .any, .any, .any, .any, .any, .any, .any, .any, .any, .any, .any, .any, .any, .any, .any, .any, .any, .any, .any, .any, .any, .any, .any, .any, .any, .any, .any, .any, .any, .any, .any, .any, .any, .any, .any, .any, .any, .any, .any, .any, .any, .any, .any, .any, .any, .any, .any], []⟩) ⟨_, ren_kl 15375 [] (by decide) (by simp) rfl (by simp [Zb hT rfl, ↓Zt, trim, -Zd, rb, HH1, rB1, -List.getElem?_map, -List.getElem_map, HH2] <;> rfl) (by simp [Zb hT rfl, ↓Zt, trim, -Zd, rb, HH1, rB1, -List.getElem?_map, -List.getElem_map, HH2] <;> rfl), 0, 0, 0, rfl, rfl, Nat.zero_le _, rfl, by simp⟩ ?_
        rintro mmj σ ⟨kj, ij, u, hikj, rfl, hknj, hu, rfl⟩
        refine Zc ?_
        refine Zc ?_
        refine Ze Zh hTb (zR (zO (by simp [Zb hT rfl, ↓Zt, trim, -Zd, rb, HH1, rB1, -List.getElem?_map, -List.getElem_map, HH2]; rfl) ?_))
        simp only [zT, zB]
        refine Xg (x := decide (ij < (b.length : Int))) (by simp [Zb hT rfl, ↓Zt, trim, -Zd, rb, HH1, rB1, -List.getElem?_map, -List.getElem_map, HH2]) (fun hltj => ?_) (fun hltj => ?_)
        · have hltj := of_decide_eq_true hltj
          have hkj : kj < b.length := by omega
          have hpj : 0 ≤ ij := by omega
          have htnj : ij.toNat = kj := by omega
          have hwij : W .i64 (ij + 1) = ij + 1 := ZH (by omega)
          obtain ⟨tb, rfl⟩ := ZG hb (k := kj) (by simpa using hkj)
          have g3 : (b.map rZ)[kj]? = some (rZ b[kj]) := by rw [List.getElem?_map, List.getElem?_eq_getElem hkj]; rfl
          have g4 : ∀ h, (b.map rZ)[kj]'h = rZ b[kj] := fun h => by simp
          have hus := used_succ (k := k) hkj
          have hul := used_le (b.take kj) k
          have hul2 : (b.take kj).length ≤ b.length := by simp; omega
          have hwu : W .i64 (u + 1) = u + 1 := ZH (by omega)
          generalize b[kj] = bj at *
          rw [← hik] at hus
          by_cases hbj : bj = i
          · subst hbj
            rw [if_pos rfl] at hus
            have HH3 := And.intro hpj (And.intro htnj (And.intro hkj (And.intro hwij (And.intro g3 (And.intro g4 hwu)))))
            refine Zx ?_
            simp only [zT, zB]
            refine Zc ?_
            refine Yu ?_
            refine Zc ?_
            refine Ze Zh hTb (zR (zO (by simp [Zb hT rfl, ↓Zt, trim, -Zd, rb, HH1, rB1, -List.getElem?_map, -List.getElem_map, HH2, rZ, HH3]; rfl) ?_))
            simp only [zT, zB]
            refine Zs (x := true) (by simp [Zb hT rfl, ↓Zt, trim, -Zd, rb, HH1, rB1, -List.getElem?_map, -List.getElem_map, HH2, rZ, HH3]) ?_
            refine Ze Zh hTb (zR (zO (by simp [Zb hT rfl, ↓Zt, trim, -Zd, rb, HH1, rB1, -List.getElem?_map, -List.getElem_map, HH2, rZ, HH3]; rfl) ?_))
            simp only [zT, zB]
            refine Ze Zh hTb (zR (zO (by simp [Zb hT rfl, ↓Zt, trim, -Zd, rb, HH1, rB1, -List.getElem?_map, -List.getElem_map, HH2, rZ, HH3]; rfl) ?_))
            simp only [zT, zB]
            exact ⟨b.length - (kj + 1), _, by omega, ren_kl 15375 [] (by decide) (by simp) rfl (by simp [Zb hT rfl, ↓Zt, trim, -Zd, rb, HH1, rB1, -List.getElem?_map, -List.getElem_map, HH2, rZ, HH3] <;> rfl) (by simp [Zb hT rfl, ↓Zt, trim, -Zd, rb, HH1, rB1, -List.getElem?_map, -List.getElem_map, HH2, rZ, HH3] <;> rfl), kj + 1, ij + 1, u + 1, by omega, rfl, by omega, by omega, by simp [Zb hT rfl, ↓Zt, trim, -Zd, rb, HH1, rB1, -List.getElem?_map, -List.getElem_map, HH2, rZ, HH3]⟩
          · rw [if_neg hbj] at hus
            have HH4 := And.intro hpj (And.intro htnj (And.intro hkj (And.intro hwij (And.intro g3 (And.intro g4 (And.intro hwu hbj))))))
            refine Zx ?_
            simp only [zT, zB]
            refine Zc ?_
            refine Yu ?_
            refine Zc ?_
            refine Ze Zh hTb (zR (zO (by simp [Zb hT rfl, ↓Zt, trim, -Zd, rb, HH1, rB1, -List.getElem?_map, -List.getElem_map, HH2, rZ, HH4]; rfl) ?_))
            simp only [zT, zB]
            refine Zs (x := false) (by simp [Zb hT rfl, ↓Zt, trim, -Zd, rb, HH1, rB1, -List.getElem?_map, -List.getElem_map, HH2, rZ, HH4]) ?_
            refine Zx ?_
            simp only [zT, zB]
            refine Ze Zh hTb (zR (zO (by simp [Zb hT rfl, ↓Zt, trim, -Zd, rb, HH1, rB1, -List.getElem?_map, -List.getElem_map, HH2, rZ, HH4]; rfl) ?_))
            simp only [zT, zB]
            exact ⟨b.length - (kj + 1), _, by omega, ren_kl 15375 [] (by decide) (by simp) rfl (by simp [Zb hT rfl, ↓Zt, trim, -Zd, rb, HH1, rB1, -List.getElem?_map, -List.getElem_map, HH2, rZ, HH4] <;> rfl) (by simp [Zb hT rfl, ↓Zt, trim, -Zd, rb, HH1, rB1, -List.getElem?_map, -List.getElem_map, HH2, rZ, HH4] <;> rfl), kj + 1, ij + 1, u, by omega, rfl, by omega, by omega, by simp [Zb hT rfl, ↓Zt, trim, -Zd, rb, HH1, rB1, -List.getElem?_map, -List.getElem_map, HH2, rZ, HH4]⟩
        · have hltj := of_decide_eq_false hltj
          have hEj : kj = b.length := by omega
          rw [hEj, List.take_length] at hu
          obtain ⟨tm, rfl⟩ := ZG hm (k := b.length) (by simpa using hbT)
          obtain ⟨ty, rfl⟩ := ZG hy (k := k) (by simpa using hk)
          have g5 : (T0.map rowB)[b.length]? = some (rowB T0[b.length]) := by rw [List.getElem?_map, List.getElem?_eq_getElem hbT]; rfl
          have g6 : ∀ h, (T0.map rowB)[b.length]'h = rowB T0[b.length] := fun h => by simp
          have hrl := hrow _ (List.getElem_mem hbT)
          have hkT : k < T0[b.length].length := by omega
          have g7 : (T0[b.length].map rB1)[k]? = some (rB1 T0[b.length][k]) := by rw [List.getElem?_map, List.getElem?_eq_getElem hkT]; rfl
          have g8 : ∀ (h : k < (T0[b.length].map rB1).length), (T0[b.length].map rB1)[k]'h = rB1 T0[b.length][k] := fun h => by simp
          have g9 : (rs.map rM3)[k]? = some (rM3 rs[k]) := by rw [List.getElem?_map, List.getElem?_eq_getElem hk]; rfl
          have g10 : ∀ h, (rs.map rM3)[k]'h = rM3 rs[k] := fun h => by simp
          have hsR : stepR T0 (plR rs) lf e b k = if (T0[b.length][k] && decide (u < rs[k].2.2)) = true then Yn T0 (plR rs) lf e (b ++ [i]) else none := by
            unfold stepR
            rw [hik, hu]
            simp [List.getD, List.getElem?_eq_getElem hbT, List.getElem?_eq_getElem hkT, plR, List.getElem?_eq_getElem hk]
          have hcell : rowB T0[b.length] = [.vl (T0[b.length].map rB1) false] := rfl
          generalize T0[b.length][k] = M at *
          generalize T0[b.length] = row at *
          generalize rs[k] = r at *
          obtain ⟨r1, r2, r3⟩ := r
          simp only at hsR
          cases M
          · have HH5 := And.intro g5 (And.intro g6 (And.intro g7 (And.intro g8 (And.intro g9 (And.intro g10 (And.intro hcell (And.intro hbT hkT)))))))
            refine YO ?_
            simp only [zT, zB, if_true, if_false, reduceIte, Nat.reduceEqDiff, Nat.succ_ne_zero, Nat.one_ne_zero, Nat.zero_ne_one]
            refine Zc ?_
            refine Zc ?_
            refine Ze Zh hTb (zR (zO (by simp [Zb hT rfl, ↓Zt, trim, -Zd, rb, HH1, rB1, -List.getElem?_map, -List.getElem_map, HH2, rM3, HH5]; rfl) ?_))
            simp only [zT, zB]
            refine Zs (x := true) (by simp [Zb hT rfl, ↓Zt, trim, -Zd, rb, HH1, rB1, -List.getElem?_map, -List.getElem_map, HH2, rM3, HH5]) ?_
            refine YO ?_
            simp only [zT, zB, if_true, if_false, reduceIte, Nat.reduceEqDiff, Nat.succ_ne_zero, Nat.one_ne_zero, Nat.zero_ne_one]
            refine Ze Zh hTb (zR (zO (by simp [Zb hT rfl, ↓Zt, trim, -Zd, rb, HH1, rB1, -List.getElem?_map, -List.getElem_map, HH2, rM3, HH5]; rfl) ?_))
            simp only [zT, zB]
            exact ⟨rs.length - (k + 1), _, by omega, ren_kl 3087 [] (by decide) (by simp) rfl (by simp [Zb hT rfl, ↓Zt, trim, -Zd, rb, HH1, rB1, -List.getElem?_map, -List.getElem_map, HH2, rM3, HH5] <;> rfl) (by simp [Zb hT rfl, ↓Zt, trim, -Zd, rb, HH1, rB1, -List.getElem?_map, -List.getElem_map, HH2, rM3, HH5] <;> rfl), k + 1, i + 1, by omega, rfl, by omega, by intro j hj; rcases Nat.lt_succ_iff_lt_or_eq.1 hj with h | h; exact hno j h; rw [h, hsR, if_neg (by simp <;> omega)], by simp [Zb hT rfl, ↓Zt, trim, -Zd, rb, HH1, rB1, -List.getElem?_map, -List.getElem_map, HH2, rM3, HH5]⟩
          · by_cases hlt3 : u < r3
            · have hge : ¬ r3 ≤ u := by omega
              rw [if_pos (by simp [hlt3])] at hsR
              have HH6 := And.intro g5 (And.intro g6 (And.intro g7 (And.intro g8 (And.intro g9 (And.intro g10 (And.intro hcell (And.intro hbT (And.intro hkT hge))))))))
              refine YO ?_
              simp only [zT, zB, if_true, if_false, reduceIte, Nat.reduceEqDiff, Nat.succ_ne_zero, Nat.one_ne_zero, Nat.zero_ne_one]
              refine Zc ?_
              refine Zc ?_
              refine Ze Zh hTb (zR (zO (by simp [Zb hT rfl, ↓Zt, trim, -Zd, rb, HH1, rB1, -List.getElem?_map, -List.getElem_map, HH2, rM3, HH6]; rfl) ?_))
              simp only [zT, zB]
              refine Zs (x := false) (by simp [Zb hT rfl, ↓Zt, trim, -Zd, rb, HH1, rB1, -List.getElem?_map, -List.getElem_map, HH2, rM3, HH6]) ?_
              obtain ⟨SR, hSR⟩ : ∃ SR, Yn T0 (plR rs) lf e (b ++ [i]) = SR := ⟨_, rfl⟩
              by_cases hB : b = []
              · have hbz2 : ∀ x ∈ b ++ [i], -1 ≤ x ∧ x ≤ 1000 := by
                  intro x hx
                  rcases List.mem_append.1 hx with h | h
                  · exact hbz x h
                  · simp at h; omega
                have e12 := o12s_eq (D := e + 1) (bv := .vl ((b ++ [i]).map rZ) false) hm hy hl rfl h7 h4 hlf hrow hbz2 (d := e) (by simp; omega) (Nat.lt_succ_self e)
                rw [List.map_append] at e12
                have hret : ret12 (.vl (b.map rZ ++ List.map rZ [i]) false) e (Yn T0 (plR rs) lf e (b ++ [i])) = match Yn T0 (plR rs) lf e (b ++ [i]) with | some b' => .tup [.vl (b'.map rZ) false, .bool true] | none => .tup [.nils, .bool false] := by
                  cases hs : Yn T0 (plR rs) lf e (b ++ [i]) with
                  | none => rfl
                  | some b' =>
                    rcases e with _ | e
                    · simp only [Yn, Option.some.injEq] at hs; subst hs; simp [ret12, rZ]
                    · rfl
                rw [hret, hSR] at e12
                change o12s (e + 1) [_, _, _, .vl (b.map rZ ++ [[I i]]) false] = _ at e12
                subst hB
                rw [List.length_nil] at lb
                simp only [List.map_nil, List.nil_append] at e12
                have hro : ∀ H, Yr H bv = some [] := fun H => by cases bv <;> simp [Zm] at hb <;> first | rfl | (subst hb; rfl)
                rcases SR with _ | b2
                · refine Zx ?_
                  simp only [zT, zB]
                  refine Zc ?_
                  refine Ze Zh hTb (zR (zO (by simp [Zb hT rfl, ↓Zt, trim, -Zd, rb, HH1, rB1, -List.getElem?_map, -List.getElem_map, HH2, rM3, HH6, e12, ↓hro]; rfl) ?_))
                  simp only [zT, zB]
                  refine Zc ?_
                  refine Ze Zh hTb (zR (zO (by simp [Zb hT rfl, ↓Zt, trim, -Zd, rb, HH1, rB1, -List.getElem?_map, -List.getElem_map, HH2, rM3, HH6, e12, ↓hro]; rfl) ?_))
                  simp only [zT, zB]
                  refine Zs (x := false) (by simp) ?_
                  refine Zx ?_
                  simp only [zT, zB]
                  refine Ze Zh hTb (zR (zO (by simp [Zb hT rfl, ↓Zt, trim, -Zd, rb, HH1, rB1, -List.getElem?_map, -List.getElem_map, HH2, rM3, HH6, e12, ↓hro]; rfl) ?_))
                  simp only [zT, zB]
                  exact ⟨rs.length - (k + 1), _, by omega, ren_kl 3087 [] (by decide) (by simp) rfl (by simp [Zb hT rfl, ↓Zt, trim, -Zd, rb, HH1, rB1, -List.getElem?_map, -List.getElem_map, HH2, rM3, HH6, e12, ↓hro] <;> rfl) (by simp [Zb hT rfl, ↓Zt, trim, -Zd, rb, HH1, rB1, -List.getElem?_map, -List.getElem_map, HH2, rM3, HH6, e12, ↓hro] <;> rfl), k + 1, i + 1, by omega, rfl, by omega, by intro j hj; rcases Nat.lt_succ_iff_lt_or_eq.1 hj with h | h; exact hno j h; rw [h, hsR, hSR], by simp [Zb hT rfl, ↓Zt, trim, -Zd, rb, HH1, rB1, -List.getElem?_map, -List.getElem_map, HH2, rM3, HH6, e12, ↓hro]⟩
                · have hR := storeR_at hgl hkp hno (hsR.trans hSR)
                  rw [hR]
                  refine Zx ?_
                  simp only [zT, zB]
                  refine Zc ?_
                  refine Ze Zh hTb (zR (zO (by simp [Zb hT rfl, ↓Zt, trim, -Zd, rb, HH1, rB1, -List.getElem?_map, -List.getElem_map, HH2, rM3, HH6, e12, ↓hro]; rfl) ?_))
                  simp only [zT, zB]
                  refine Zc ?_
                  refine Ze Zh hTb (zR (zO (by simp [Zb hT rfl, ↓Zt, trim, -Zd, rb, HH1, rB1, -List.getElem?_map, -List.getElem_map, HH2, rM3, HH6, e12, ↓hro]; rfl) ?_))
                  simp only [zT, zB]
                  refine Zs (x := true) (by simp) ?_
                  refine Zc ?_
                  refine Ze Zh hTb (zR (zO (by simp [Zb hT rfl, ↓Zt, trim, -Zd, rb, HH1, rB1, -List.getElem?_map, -List.getElem_map, HH2, rM3, HH6, e12, ↓hro]; rfl) ?_))
                  simp only [zT, zB]
                  refine Ym ?_
                  simp [Zb hT rfl, ↓Zt, trim, -Zd, rb, HH1, rB1, -List.getElem?_map, -List.getElem_map, HH2, rM3, HH6, e12, ↓hro, ret12]
              · have hbz2 : ∀ x ∈ b ++ [i], -1 ≤ x ∧ x ≤ 1000 := by
                  intro x hx
                  rcases List.mem_append.1 hx with h | h
                  · exact hbz x h
                  · simp at h; omega
                have e12 := o12s_eq (D := e + 1) (bv := .vl ((b ++ [i]).map rZ) false) hm hy hl rfl h7 h4 hlf hrow hbz2 (d := e) (by simp; omega) (Nat.lt_succ_self e)
                rw [List.map_append] at e12
                have hret : ret12 (.vl (b.map rZ ++ List.map rZ [i]) false) e (Yn T0 (plR rs) lf e (b ++ [i])) = match Yn T0 (plR rs) lf e (b ++ [i]) with | some b' => .tup [.vl (b'.map rZ) false, .bool true] | none => .tup [.nils, .bool false] := by
                  cases hs : Yn T0 (plR rs) lf e (b ++ [i]) with
                  | none => rfl
                  | some b' =>
                    rcases e with _ | e
                    · simp only [Yn, Option.some.injEq] at hs; subst hs; simp [ret12, rZ]
                    · rfl
                rw [hret, hSR] at e12
                change o12s (e + 1) [_, _, _, .vl (b.map rZ ++ [[I i]]) false] = _ at e12
                obtain ⟨tb, rfl⟩ := ZG hb (k := 0) (by simpa using List.length_pos_iff.2 hB)
                have htk : (b.map rZ).take b.length = b.map rZ := List.take_of_length_le (by simp)
                have hst := rZ_st b
                have hcl := rZ_cl b
                have hlb : b.length ≤ 1048575 := by omega
                have hlb2 : b.length ≤ 1048576 := by omega
                have hfzc := fun H d r => optAll_cat (rZ_fz H d b) r
                have htk2 : ∀ c, (b.map rZ ++ [c]).take (b.length + 1) = b.map rZ ++ [c] := fun c => List.take_of_length_le (by simp)
                have hrnb := fun K H d => rZ_rn K H d b
                rcases SR with _ | b2
                · have HH7 := And.intro e12 (And.intro htk (And.intro htk2 (And.intro hlb (And.intro hlb2 hB))))
                  refine Zx ?_
                  simp only [zT, zB]
                  refine Zc ?_
                  refine Ze Zh hTb (zR (zO (by simp [Zb hT rfl, ↓Zt, trim, -Zd, rb, HH1, rB1, -List.getElem?_map, -List.getElem_map, HH2, rM3, HH6, ↓hst, ↓hcl, ↓hfzc, ↓hrnb, HH7]; rfl) ?_))
                  simp only [zT, zB]
                  refine Zc ?_
                  refine Ze Zh hTb (zR (zO (by simp [Zb hT rfl, ↓Zt, trim, -Zd, rb, HH1, rB1, -List.getElem?_map, -List.getElem_map, HH2, rM3, HH6, ↓hst, ↓hcl, ↓hfzc, ↓hrnb, HH7]; rfl) ?_))
                  simp only [zT, zB]
                  refine Zs (x := false) (by simp) ?_
                  refine Zx ?_
                  simp only [zT, zB]
                  refine Ze Zh hTb (zR (zO (by simp [Zb hT rfl, ↓Zt, trim, -Zd, rb, HH1, rB1, -List.getElem?_map, -List.getElem_map, HH2, rM3, HH6, ↓hst, ↓hcl, ↓hfzc, ↓hrnb, HH7]; rfl) ?_))
                  simp only [zT, zB]
                  exact ⟨rs.length - (k + 1), _, by omega, ren_kl 3087 [] (by decide) (by simp) rfl (by simp [Zb hT rfl, ↓Zt, trim, -Zd, rb, HH1, rB1, -List.getElem?_map, -List.getElem_map, HH2, rM3, HH6, ↓hst, ↓hcl, ↓hfzc, ↓hrnb, HH7] <;> rfl) (by simp [Zb hT rfl, ↓Zt, trim, -Zd, rb, HH1, rB1, -List.getElem?_map, -List.getElem_map, HH2, rM3, HH6, ↓hst, ↓hcl, ↓hfzc, ↓hrnb, HH7] <;> rfl), k + 1, i + 1, by omega, rfl, by omega, by intro j hj; rcases Nat.lt_succ_iff_lt_or_eq.1 hj with h | h; exact hno j h; rw [h, hsR, hSR], by simp [Zb hT rfl, ↓Zt, trim, -Zd, rb, HH1, rB1, -List.getElem?_map, -List.getElem_map, HH2, rM3, HH6, ↓hst, ↓hcl, ↓hfzc, ↓hrnb, HH7]⟩
                · have hR := storeR_at hgl hkp hno (hsR.trans hSR)
                  rw [hR]
                  have HH8 := And.intro e12 (And.intro htk (And.intro htk2 (And.intro hlb (And.intro hlb2 hB))))
                  refine Zx ?_
                  simp only [zT, zB]
                  refine Zc ?_
                  refine Ze Zh hTb (zR (zO (by simp [Zb hT rfl, ↓Zt, trim, -Zd, rb, HH1, rB1, -List.getElem?_map, -List.getElem_map, HH2, rM3, HH6, ↓hst, ↓hcl, ↓hfzc, ↓hrnb, HH8]; rfl) ?_))
                  simp only [zT, zB]
                  refine Zc ?_
                  refine Ze Zh hTb (zR (zO (by simp [Zb hT rfl, ↓Zt, trim, -Zd, rb, HH1, rB1, -List.getElem?_map, -List.getElem_map, HH2, rM3, HH6, ↓hst, ↓hcl, ↓hfzc, ↓hrnb, HH8]; rfl) ?_))
                  simp only [zT, zB]
                  refine Zs (x := true) (by simp) ?_
                  refine Zc ?_
                  refine Ze Zh hTb (zR (zO (by simp [Zb hT rfl, ↓Zt, trim, -Zd, rb, HH1, rB1, -List.getElem?_map, -List.getElem_map, HH2, rM3, HH6, ↓hst, ↓hcl, ↓hfzc, ↓hrnb, HH8]; rfl) ?_))
                  simp only [zT, zB]
                  refine Ym ?_
                  simp [Zb hT rfl, ↓Zt, trim, -Zd, rb, HH1, rB1, -List.getElem?_map, -List.getElem_map, HH2, rM3, HH6, ↓hst, ↓hcl, ↓hfzc, ↓hrnb, HH8, ret12]
            · have hge : r3 ≤ u := by omega
              have HH9 := And.intro g5 (And.intro g6 (And.intro g7 (And.intro g8 (And.intro g9 (And.intro g10 (And.intro hcell (And.intro hbT (And.intro hkT hge))))))))
              refine YO ?_
              simp only [zT, zB, if_true, if_false, reduceIte, Nat.reduceEqDiff, Nat.succ_ne_zero, Nat.one_ne_zero, Nat.zero_ne_one]
              refine Zc ?_
              refine Zc ?_
              refine Ze Zh hTb (zR (zO (by simp [Zb hT rfl, ↓Zt, trim, -Zd, rb, HH1, rB1, -List.getElem?_map, -List.getElem_map, HH2, rM3, HH9]; rfl) ?_))
              simp only [zT, zB]
              refine Zs (x := true) (by simp [Zb hT rfl, ↓Zt, trim, -Zd, rb, HH1, rB1, -List.getElem?_map, -List.getElem_map, HH2, rM3, HH9]) ?_
              refine YO ?_
              simp only [zT, zB, if_true, if_false, reduceIte, Nat.reduceEqDiff, Nat.succ_ne_zero, Nat.one_ne_zero, Nat.zero_ne_one]
              refine Ze Zh hTb (zR (zO (by simp [Zb hT rfl, ↓Zt, trim, -Zd, rb, HH1, rB1, -List.getElem?_map, -List.getElem_map, HH2, rM3, HH9]; rfl) ?_))
              simp only [zT, zB]
              exact ⟨rs.length - (k + 1), _, by omega, ren_kl 3087 [] (by decide) (by simp) rfl (by simp [Zb hT rfl, ↓Zt, trim, -Zd, rb, HH1, rB1, -List.getElem?_map, -List.getElem_map, HH2, rM3, HH9] <;> rfl) (by simp [Zb hT rfl, ↓Zt, trim, -Zd, rb, HH1, rB1, -List.getElem?_map, -List.getElem_map, HH2, rM3, HH9] <;> rfl), k + 1, i + 1, by omega, rfl, by omega, by intro j hj; rcases Nat.lt_succ_iff_lt_or_eq.1 hj with h | h; exact hno j h; rw [h, hsR, if_neg (by simp <;> omega)], by simp [Zb hT rfl, ↓Zt, trim, -Zd, rb, HH1, rB1, -List.getElem?_map, -List.getElem_map, HH2, rM3, HH9]⟩
      · have hlt := of_decide_eq_false hlt
        have hE : k = rs.length := by omega
        rw [storeR_none hgl fun j hj => hno j (by simpa [plR, hE] using hj)]
        refine YO ?_
        simp only [zT, zB, if_true, if_false, reduceIte, Nat.reduceEqDiff, Nat.succ_ne_zero, Nat.one_ne_zero, Nat.zero_ne_one]
        refine Zc ?_
        refine Ze Zh hTb (zR (zO (by simp [Zb hT rfl, ↓Zt, trim, -Zd, rb, HH1, hK, g1, g2, hbL, rB1, -List.getElem?_map, -List.getElem_map]; rfl) ?_))
        simp only [zT, zB]
        refine Ym ?_
        simp [Zb hT rfl, ↓Zt, trim, -Zd, rb, HH1, hK, g1, g2, hbL, rB1, -List.getElem?_map, -List.getElem_map, ret12]
    · refine Zs (x := true) (by simp) ?_
      rw [storeR_left hgl]
      obtain ⟨SR, hSR⟩ : ∃ SR, Yn T0 (plR rs) lf e (b ++ [-1]) = SR := ⟨_, rfl⟩
      rw [hSR]
      by_cases hB : b = []
      · have hbz2 : ∀ x ∈ b ++ [-1], -1 ≤ x ∧ x ≤ 1000 := by
          intro x hx
          rcases List.mem_append.1 hx with h | h
          · exact hbz x h
          · simp at h; omega
        have e12 := o12s_eq (D := e + 1) (bv := .vl ((b ++ [-1]).map rZ) false) hm hy hl rfl h7 h4 hlf hrow hbz2 (d := e) (by simp; omega) (Nat.lt_succ_self e)
        rw [List.map_append] at e12
        have hret : ret12 (.vl (b.map rZ ++ List.map rZ [-1]) false) e (Yn T0 (plR rs) lf e (b ++ [-1])) = match Yn T0 (plR rs) lf e (b ++ [-1]) with | some b' => .tup [.vl (b'.map rZ) false, .bool true] | none => .tup [.nils, .bool false] := by
          cases hs : Yn T0 (plR rs) lf e (b ++ [-1]) with
          | none => rfl
          | some b' =>
            rcases e with _ | e
            · simp only [Yn, Option.some.injEq] at hs; subst hs; simp [ret12, rZ]
            · rfl
        rw [hret, hSR] at e12
        change o12s (e + 1) [_, _, _, .vl (b.map rZ ++ [[I (-1)]]) false] = _ at e12
        subst hB
        rw [List.length_nil] at lb
        simp only [List.map_nil, List.nil_append] at e12
        have hro : ∀ H, Yr H bv = some [] := fun H => by cases bv <;> simp [Zm] at hb <;> first | rfl | (subst hb; rfl)
        rcases SR with _ | b2
        · have HH10 := And.intro hK (And.intro g1 (And.intro g2 (And.intro hbL e12)))
          refine Zc ?_
          refine Ze Zh hTb (zR (zO (by simp [Zb hT rfl, ↓Zt, trim, -Zd, rb, HH1, rB1, -List.getElem?_map, -List.getElem_map, ↓hro, HH10]; rfl) ?_))
          simp only [zT, zB]
          refine Ym ?_
          simp [Zb hT rfl, ↓Zt, trim, -Zd, rb, HH1, rB1, -List.getElem?_map, -List.getElem_map, ↓hro, HH10, ret12]
        · have HH11 := And.intro hK (And.intro g1 (And.intro g2 (And.intro hbL e12)))
          refine Zc ?_
          refine Ze Zh hTb (zR (zO (by simp [Zb hT rfl, ↓Zt, trim, -Zd, rb, HH1, rB1, -List.getElem?_map, -List.getElem_map, ↓hro, HH11]; rfl) ?_))
          simp only [zT, zB]
          refine Ym ?_
          simp [Zb hT rfl, ↓Zt, trim, -Zd, rb, HH1, rB1, -List.getElem?_map, -List.getElem_map, ↓hro, HH11, ret12]
      · have hbz2 : ∀ x ∈ b ++ [-1], -1 ≤ x ∧ x ≤ 1000 := by
          intro x hx
          rcases List.mem_append.1 hx with h | h
          · exact hbz x h
          · simp at h; omega
        have e12 := o12s_eq (D := e + 1) (bv := .vl ((b ++ [-1]).map rZ) false) hm hy hl rfl h7 h4 hlf hrow hbz2 (d := e) (by simp; omega) (Nat.lt_succ_self e)
        rw [List.map_append] at e12
        have hret : ret12 (.vl (b.map rZ ++ List.map rZ [-1]) false) e (Yn T0 (plR rs) lf e (b ++ [-1])) = match Yn T0 (plR rs) lf e (b ++ [-1]) with | some b' => .tup [.vl (b'.map rZ) false, .bool true] | none => .tup [.nils, .bool false] := by
          cases hs : Yn T0 (plR rs) lf e (b ++ [-1]) with
          | none => rfl
          | some b' =>
            rcases e with _ | e
            · simp only [Yn, Option.some.injEq] at hs; subst hs; simp [ret12, rZ]
            · rfl
        rw [hret, hSR] at e12
        change o12s (e + 1) [_, _, _, .vl (b.map rZ ++ [[I (-1)]]) false] = _ at e12
        obtain ⟨tb, rfl⟩ := ZG hb (k := 0) (by simpa using List.length_pos_iff.2 hB)
        have htk : (b.map rZ).take b.length = b.map rZ := List.take_of_length_le (by simp)
        have hst := rZ_st b
        have hcl := rZ_cl b
        have hlb : b.length ≤ 1048575 := by omega
        have hlb2 : b.length ≤ 1048576 := by omega
        have hfzc := fun H d r => optAll_cat (rZ_fz H d b) r
        have htk2 : ∀ c, (b.map rZ ++ [c]).take (b.length + 1) = b.map rZ ++ [c] := fun c => List.take_of_length_le (by simp)
        have hrnb := fun K H d => rZ_rn K H d b
        rcases SR with _ | b2
        · have HH12 := And.intro hK (And.intro g1 (And.intro g2 (And.intro hbL (And.intro e12 (And.intro htk (And.intro htk2 (And.intro hlb (And.intro hlb2 hB))))))))
          refine Zc ?_
          refine Ze Zh hTb (zR (zO (by simp [Zb hT rfl, ↓Zt, trim, -Zd, rb, HH1, rB1, -List.getElem?_map, -List.getElem_map, ↓hst, ↓hcl, ↓hfzc, ↓hrnb, HH12]; rfl) ?_))
          simp only [zT, zB]
          refine Ym ?_
          simp [Zb hT rfl, ↓Zt, trim, -Zd, rb, HH1, rB1, -List.getElem?_map, -List.getElem_map, ↓hst, ↓hcl, ↓hfzc, ↓hrnb, HH12, ret12]
        · have HH13 := And.intro hK (And.intro g1 (And.intro g2 (And.intro hbL (And.intro e12 (And.intro htk (And.intro htk2 (And.intro hlb (And.intro hlb2 hB))))))))
          refine Zc ?_
          refine Ze Zh hTb (zR (zO (by simp [Zb hT rfl, ↓Zt, trim, -Zd, rb, HH1, rB1, -List.getElem?_map, -List.getElem_map, ↓hst, ↓hcl, ↓hfzc, ↓hrnb, HH13]; rfl) ?_))
          simp only [zT, zB]
          refine Ym ?_
          simp [Zb hT rfl, ↓Zt, trim, -Zd, rb, HH1, rB1, -List.getElem?_map, -List.getElem_map, ↓hst, ↓hcl, ↓hfzc, ↓hrnb, HH13, ret12]
end
end
end Go.Proofs.YtpebmjeomlgmdaaGreatDoor.Tab
namespace Go.Proofs.YtpebmjeomlgmdaaGreatDoor.Tab
open Go Go.Abs Go.Proofs
set_option maxRecDepth 100000
set_option maxHeartbeats 4000000
set_option linter.unusedSimpArgs false
set_option linter.unusedVariables false
noncomputable section
attribute [local simp] Yv Ye XB XC YD YJ XD YL Xh YC Zf orcF Xv YV Xx Xt YU YA rb_vl rb_pv Xr YT YS YR Xw Xs Xu XZ rb_fn slE XP Xk Yp ZQ XG List.range_succ List.range_zero List.range'_succ List.range'_zero Yi Yg ZK Yl ZR ZT Xm Yf dop CV.ev Ys ZA ZM Xa fI_eq Yt Yc ZN Zz Out.v Xy List.replicate_succ zT zB arI ZO Abs.rowAt Xq allV toV toC ofV ofC Builtin.min_ Builtin.min2 Builtin.max_ Builtin.max2 Xz XA resA XS Xj Yh Yx Yy Yw Zd
section
attribute [local simp] Yj ZU YP YM XR Xo disj YY holes YZ ZX Xb news eqB Xc eqA YK Xi toCs ofCs stA Yz ZV Yr dI1 dI2 dI3 dI5 elt
attribute [local simp] st_any st_und st_agg st_tup XX st_int XU st_ref st_pv XT st_sl st_vl XV st_mp st_fn XW st_yld co_any co_und co_agg co_tup co_bool co_int co_nilp co_ref co_pv co_nils co_sl co_vl co_nilm co_mp co_fn co_nilf co_yld
attribute [local simp] Ya Zq dropE Xn lim loose_agg loose_any loose_bool loose_fn loose_int loose_mp loose_nilf loose_nilm loose_nilp loose_nils loose_pv loose_ref loose_sl loose_tup loose_und loose_vl loose_yld lop Yk onlyJ posOf ptrs putH renB renE renV_agg renV_any renV_bool renV_fn renV_int renV_mp renV_nilf renV_nilp renV_nils renV_pv renV_ref renV_sl renV_tup renV_und renV_vl renV_yld setH
def o13 : List Za → Option Za
  | [.agg [.int .i64 u, .int .i64 d], x, y] => match Zm x, Zm y with
    | some r, some s => match Zf dI5' r, Zf dM3 s with
      | some its, some rs => if (its.length ≤ 1000 ∧ rs.length ≤ 1000) ∧ (∀ v ∈ its, 0 ≤ v.2.2.2.2 ∧ v.2.2.2.2 ≤ 1000) then some (.vl ((mayT u d its rs).map rowB) false) else none
      | _, _ => none
    | _, _ => none
  | _ => none
theorem o13_eq {x y : Za} {its : List It5} {rs : List Rm3} (hx : Zm x = some (its.map rI5)) (hy : Zm y = some (rs.map rM3)) (hl : its.length ≤ 1000 ∧ rs.length ≤ 1000) (hok : ∀ v ∈ its, 0 ≤ v.2.2.2.2 ∧ v.2.2.2.2 ≤ 1000) (u d : Int) : o13 [.agg [I u, I d], x, y] = some (.vl ((mayT u d its rs).map rowB) false) := by
  have h1 := YB (d := dI5') (enc := rI5) (fun _ => rfl) its
  have h2 := YB (d := dM3) (enc := rM3) (fun _ => rfl) rs
  simp only [o13, hx, hy, h1, h2]; rw [if_pos ⟨hl, hok⟩]
def EC1 : Nat → Option CFn := upd EB1 13 false (o13)
theorem EC1_ok : ZB Tryz.prog GG EC1 := tab_upd EB1_ok fun args v ho => by
  unfold o13 at ho; split at ho <;> (try simp only [reduceCtorEq] at ho)
  rename_i u d x y
  split at ho <;> (try simp only [reduceCtorEq] at ho)
  rename_i r s hx hy
  split at ho <;> (try simp only [reduceCtorEq] at ho)
  rename_i its rs hr hs
  split at ho <;> (try simp only [reduceCtorEq] at ho)
  rename_i hg
  simp only [Option.some.injEq] at ho
  subst ho
  have hx' : Zm x = some (its.map rI5) := by rw [hx, ZY (enc := rI5) dI5'_eq hr]
  have hy' : Zm y = some (rs.map rM3) := by rw [hy, ZY (enc := rM3) dM3_eq hs]
  exact orc_cans (a13 EB1 EB1_ok rfl rfl u d x y its rs hx' hy' hg.1 hg.2)
theorem store_good : ∀ (D : Nat) (args : List Za) (v : Za), o12s D args = some v → OrcGood Tryz.prog GG false 12 args v
  | 0, args, v, ho => by
    unfold o12s at ho; split at ho <;> (try simp only [reduceCtorEq] at ho)
    split at ho <;> (try simp only [reduceCtorEq] at ho)
    split at ho <;> (try simp only [reduceCtorEq] at ho)
    split at ho <;> (try simp only [reduceCtorEq] at ho)
    rename_i hg
    exact absurd hg.1 (by intro h; have := h.2.2.2; omega)
  | D + 1, args, v, ho => by
    have ho' := ho
    unfold o12s at ho; split at ho <;> (try simp only [reduceCtorEq] at ho)
    rename_i mv y lv bv
    split at ho <;> (try simp only [reduceCtorEq] at ho)
    rename_i m r l c hm hy hl hb
    split at ho <;> (try simp only [reduceCtorEq] at ho)
    rename_i T0 rs lf b h1 h2 h3 h4
    split at ho <;> (try simp only [reduceCtorEq] at ho)
    rename_i hg
    obtain ⟨⟨g1, g2, g3, g4, g5⟩, g6, g7⟩ := hg
    simp only [Option.some.injEq] at ho
    rw [ZY (enc := rowB) dRB_eq h1] at hm
    rw [ZY (enc := rM3) dM3_eq h2] at hy
    rw [ZY (enc := rB1) dB1_eq h3] at hl
    rw [ZY (enc := rZ) dI1_eqZ h4] at hb
    by_cases hd : T0.length - b.length < D
    · refine store_good D _ _ ?_
      rw [o12s_eq hm hy hl hb g1 g2 g3 g6 g7 (d := T0.length - b.length) (by omega) hd, ← ho]
    · have hk : T0.length - b.length = D := by omega
      have := lev12 (updE EC1 12 (dropE (o12s D))) (tab_drop EC1_ok (f := 12) (sp := o12s D) (store_good D)) D rfl T0 rs lf b mv y lv bv hm hy hl hb g1 g2 g3 g6 g7 (by omega)
      rw [← ho, hk]
      exact orc_cans this
def EC3 : Nat → Option CFn := updE EC1 12 (dropE (o12s 8))
theorem EC3_ok : ZB Tryz.prog GG EC3 := tab_drop EC1_ok (store_good 8)
def leftR (n k : Nat) : List Bool := (List.range n).map fun i => !k.testBit i
def inR (n k : Nat) : List Nat := (List.range n).filter fun i => k.testBit i
theorem leftR_succ (n k : Nat) : leftR (n + 1) k = leftR n k ++ [!k.testBit n] := by unfold leftR; rw [List.range_succ, List.map_append]; rfl
theorem inR_succ (n k : Nat) : inR (n + 1) k = inR n k ++ (if k.testBit n then [n] else []) := by
  unfold inR; rw [List.range_succ, List.filter_append]; simp only [List.filter_cons, List.filter_nil]
theorem inR_len (n k : Nat) : (inR n k).length ≤ n := by
  have := List.length_filter_le (fun i => k.testBit i) (List.range n)
  rw [List.length_range] at this; exact this
theorem inR_mem {n k : Nat} : ∀ i ∈ inR n k, i < n := fun i h => by unfold inR at h; simp at h; exact h.1
theorem leftR_len (n k : Nat) : (leftR n k).length = n := by simp [leftR]
def failR (T0 : List (List Bool)) (pl : List Int) (k : Nat) : Bool := (Yn T0 pl (leftR T0.length k) T0.length []).isNone
def bestR (T0 : List (List Bool)) (pl : List Int) : Nat → Option (List Nat)
  | 0 => none
  | k + 1 => if failR T0 pl k = false then bestR T0 pl k else match bestR T0 pl k with
    | none => some (inR T0.length k)
    | some b => if lessR (inR T0.length k) b = true then some (inR T0.length k) else some b
theorem bestR_ok {T0 : List (List Bool)} {pl : List Int} : ∀ {k : Nat} {b : List Nat}, bestR T0 pl k = some b → b.length ≤ T0.length ∧ ∀ i ∈ b, i < T0.length
  | 0, b, h => by simp [bestR] at h
  | k + 1, b, h => by
    simp only [bestR] at h
    split at h
    · exact bestR_ok h
    · split at h
      · simp only [Option.some.injEq] at h; subst h; exact ⟨inR_len _ _, inR_mem⟩
      · rename_i b0 hb0
        split at h <;> simp only [Option.some.injEq] at h <;> subst h
        · exact ⟨inR_len _ _, inR_mem⟩
        · exact bestR_ok hb0
def ret16 : Option (List Nat) → Za
  | none => .tup [.vl [] false, .bool false]
  | some b => .tup [.vl (b.map rN) false, .bool true]
theorem dNs_vl {b : List Nat} (h : ∀ i ∈ b, i < 1000000) (t : Bool) : dNs (.vl (b.map rN) t) = some b := dNs_of rfl h
theorem rN_flat (a : Nat) : ∀ x ∈ rN a, ZE x = true ∧ (∀ H d, frz false H (d + 1) x = some x) ∧ ∀ K H d, YI K H (d + 1) x = some x := by
  intro x hx
  simp only [rN, List.mem_cons, List.not_mem_nil, or_false] at hx
  rcases hx with rfl <;> exact ⟨rfl, fun _ _ => rfl, fun _ _ _ => rfl⟩
theorem rN_st (l : List (Nat)) : ((l.map rN).all fun r => r.all ZE) = true := by
  simp only [List.all_map, List.all_eq_true, Function.comp]
  exact fun a _ x hx => (rN_flat a x hx).1
theorem rN_cl (l : List (Nat)) : ((l.map rN).all fun r => r.length == 1) = true := by simp [rN]
theorem rN_rn (K : List Nat) (H : Zj) (d : Nat) (l : List (Nat)) : Zf (Zf (YI K H (d + 1))) (l.map rN) = some (l.map rN) := Zu _ fun r hr => Zu _ fun x hx => by
  obtain ⟨a, _, rfl⟩ := List.mem_map.1 hr
  exact (rN_flat a x hx).2.2 K H d
theorem rN_fz (H : Zj) (d : Nat) (l : List (Nat)) : Zf (Zf (frz false H (d + 1))) (l.map rN) = some (l.map rN) := Zu _ fun r hr => Zu _ fun x hx => by
  obtain ⟨a, _, rfl⟩ := List.mem_map.1 hr
  exact (rN_flat a x hx).2.1 H d
theorem a16s (T : Nat → Option CFn) (hTb : ZB Tryz.prog GG T) (hT : T 16 = some c16) (h12 : T 12 = some { c12 with frsh := false, orc := fun _ => none, eff := dropE (o12s 8) }) (h38 : T 38 = some { c38 with frsh := true, orc := o38 }) (T0 : List (List Bool)) (rs : List Rm3) (mv y : Za) (hm : Zm mv = some (T0.map rowB)) (hy : Zm y = some (rs.map rM3)) (h7 : T0.length ≤ 7) (h4 : rs.length ≤ 4) (hrow : ∀ r ∈ T0, r.length = rs.length) : CAns Tryz.prog GG 16 [mv, y] [] fun v h => frz false h 5 v = some (ret16 (bestR T0 (plR rs) (2 ^ T0.length))) := by
 have lm := Zv hm
 rw [List.length_map] at lm
 have rm := fun n d => ZF hm n d
 have fm := fun H d => Zw hm H d
 obtain ⟨cm1, cm2⟩ := Zy hm
 have ly := Zv hy
 rw [List.length_map] at ly
 have ry := fun n d => ZF hy n d
 have fy := fun H d => Zw hy H d
 obtain ⟨cy1, cy2⟩ := Zy hy
 have nm := fun K H => XJ K H 5 mv (rm 0 4)
 have hqm := fun acc r => ptrs_rows hm acc r
 have lom := XM hm
 have ny := fun K H => XJ K H 5 y (ry 0 4)
 have hqy := fun acc r => ptrs_rows hy acc r
 have loy := XM hy
 obtain ⟨n, hn⟩ : ∃ n, n = T0.length := ⟨_, rfl⟩
 rw [← hn] at h7 lm
 have hc1 : W .u64 (n : Int) = (n : Int) := by simp only [W]; rw [if_pos (by omega)]
 have hp2 : 2 ^ n ≤ 128 := Nat.le_trans (Nat.pow_le_pow_right (by decide) h7) (by decide)
 obtain ⟨M, hM⟩ : ∃ M : Nat, 2 ^ n = M := ⟨_, rfl⟩
 rw [hM] at hp2
 have sh0 : shI .shl .i64 1 (n : Int) = some (.int .i64 (M : Int)) := by
  unfold shI
  rw [if_neg (by omega)]
  show some (Za.int .i64 (W .i64 (1 * 2 ^ (min ((n : Int)).toNat (IntKind.bits .i64))))) = _
  have hm : min ((n : Int)).toNat (IntKind.bits .i64) = n := by
   have : IntKind.bits .i64 = 64 := rfl
   rw [this, Int.toNat_natCast]; omega
  rw [hm, Int.one_mul]
  have h2 : ((2 : Int) ^ n) = (M : Int) := by rw [← hM]; push_cast; rfl
  rw [h2, ZH (by omega)]
 refine cans_of hTb hT ?_
 simp only [oo, om, op, og, ci, cl, c16]
 have HH1 := zA h12 (zA h38 (zA lm (zA rm (zA fm (zA cm1 (zA cm2 (zA ly (zA ry (zA fy (zA cy1 (zA cy2 (zA hqm (zA hqy (zA nm (zA ny (zA lom (zA loy hc1)))))))))))))))))
 refine Zc ?_
 refine Ze Zh hTb (zR (zO (by simp [Zb h12 rfl, zC h38, trim, -Zd, ↓sh0, HH1]; rfl) ?_))
 simp only [zT, zB]
 refine Zc ?_
 refine Ze Zh hTb (zR (zO (by simp [Zb h12 rfl, zC h38, trim, -Zd, ↓sh0, HH1]; rfl) ?_))
 simp only [zT, zB]
 refine Zc ?_
 refine Zc ?_
 refine Ze Zh hTb (zR (zO (by simp [Zb h12 rfl, zC h38, trim, -Zd, ↓sh0, HH1]; rfl) ?_))
 simp only [zT, zB]
 refine Yu ?_
 refine cruns_loop (k := M - 0) (fun mm σ => ∃ (k : Nat) (i : Int) (ac : List Nat) (p : Nat) (fd : Bool), i = k ∧ M - k = mm ∧ k ≤ M ∧ ac.length = p ∧ ((fd = false ∧ ac = [] ∧ bestR T0 (plR rs) k = none) ∨ (fd = true ∧ bestR T0 (plR rs) k = some ac)) ∧ σ = ⟨[mv, y, .any, .any, .any, .any, .sl 0 0 p false, .bool fd, I i, .any, .any, .any, .any, .any, .any, .any, .any, .any, .any, .any, .any, .any, .any, .any, .any, .any, .any, .any, .any, .any, .any, .any, .any, .any, .any, .any, .any, .any, .any, .any, .any, .any, .any, .any, .any, .any, .any, .any, .any, .any, .any, .any, .any, .any, .any, .any, .any, .any, .any, .any, .any, .any, .any, .any, .any, .any, .any, .any, .any], [some (.row 1 (ac.map rN))]⟩) ⟨_, ren_kl 451 [0] (by decide) (by simp) rfl (by simp [Zb h12 rfl, zC h38, trim, -Zd, ↓sh0, HH1] <;> rfl) (by simp [Zb h12 rfl, zC h38, trim, -Zd, ↓sh0, HH1] <;> rfl), 0, 0, [], 0, false, rfl, rfl, Nat.zero_le _, rfl, .inl ⟨rfl, rfl, rfl⟩, by simp⟩ ?_
 rintro mm σ ⟨k, i, ac, p, fd, hik, rfl, hkn, hl, hbest, rfl⟩
 have hp7 : p ≤ 7 := by
  rcases hbest with ⟨_, hac0, _⟩ | ⟨_, hb1⟩
  ·subst hac0; simp at hl; omega
  ·have := (bestR_ok hb1).1; omega
 have tk : (ac.map rN).take p = ac.map rN := List.take_of_length_le (by simp [hl])
 have hlim : p + 1 ≤ 1048576 := by omega
 have hst := rN_st ac
 have hcl := rN_cl ac
 have hrn := fun K H d => rN_rn K H d ac
 have hfz := fun H d => rN_fz H d ac
 have HH2 := zA sh0 (zA hst (zA hcl (zA hrn hfz)))
 refine Zc ?_
 refine Zc ?_
 refine Ze Zh hTb (zR (zO (by simp [Zb h12 rfl, zC h38, trim, -Zd, HH1, tk, hl, hlim, ↓HH2]; rfl) ?_))
 simp only [zT, zB]
 refine Xg (x := decide (i < (M : Int))) (by simp) (fun hlt => ?_) (fun hlt => ?_)
 ·have hlt := of_decide_eq_true hlt
  have hk : k < M := by omega
  have hp : 0 ≤ i := by omega
  have htn : i.toNat = k := by omega
  have hwi : W .i64 (i + 1) = i + 1 := ZH (by omega)
  obtain ⟨N, hN⟩ : ∃ N : Int, (n : Int) = N := ⟨_, rfl⟩
  have HH3 := zA tk (zA hl (zA hlim (zA hp (zA htn (zA hk hwi)))))
  refine Zx ?_
  simp only [zT, zB]
  refine Zc ?_
  refine Yu ?_
  refine Zc ?_
  refine Ze Zh hTb (zR (zO (by simp [Zb h12 rfl, zC h38, trim, -Zd, HH1, ↓HH2, HH3]; rfl) ?_))
  simp only [zT, zB]
  refine Zc ?_
  refine Zc ?_
  refine Ze Zh hTb (zR (zO (by simp [Zb h12 rfl, zC h38, trim, -Zd, HH1, ↓HH2, HH3]; rfl) ?_))
  simp only [zT, zB]
  refine Yu ?_
  refine cruns_loop (k := n - 0) (fun mmj σ => ∃ (kj : Nat) (ij : Int) (lc : List Nat) (pl : Nat) (fc : List Bool) (pf : Nat), ij = kj ∧ n - kj = mmj ∧ kj ≤ n ∧ lc = inR kj k ∧ lc.length = pl ∧ fc = leftR kj k ∧ fc.length = pf ∧ σ = ⟨[mv, y, .any, .any, .any, .any, .sl 0 0 p false, .bool fd, I i, .sl 1 0 pl false, .sl 2 0 pf false, I ij, .any, .any, .any, .any, .any, .any, .any, .any, .any, .any, .any, .any, .any, .any, .any, .any, .any, .any, .any, .any, .any, .any, .any, .any, .any, .any, .any, .any, .any, .any, .any, .any, .any, .any, .any, .any, .any, .any, .any, .any, .any, .any, .any, .any, .any, .any, .any, .any, .any, .any, .any, .any, .any, .any, .any, .any, .any], [some (.row 1 (ac.map rN)), some (.row 1 (lc.map rN)), some (.row 1 (fc.map rB1))]⟩) ⟨_, ren_kl 4035 [0, 1, 2] (by decide) (by simp) rfl (by simp [Zb h12 rfl, zC h38, trim, -Zd, HH1, ↓HH2, HH3] <;> rfl) (by simp [Zb h12 rfl, zC h38, trim, -Zd, HH1, ↓HH2, HH3] <;> rfl), 0, 0, [], 0, [], 0, rfl, rfl, Nat.zero_le _, rfl, rfl, rfl, rfl, by simp⟩ ?_
  rintro mmj σ ⟨kj, ij, lc, pl, fc, pf, hikj, rfl, hknj, hlc, hll, hfc, hlf, rfl⟩
  have hlb1 : lc.length ≤ kj := by rw [hlc]; exact inR_len _ _
  have hlb2 : fc.length = kj := by rw [hfc]; exact leftR_len _ _
  have tkl : (lc.map rN).take pl = lc.map rN := List.take_of_length_le (by simp [hll])
  have hliml : pl + 1 ≤ 1048576 := by omega
  have hstl := rN_st lc
  have hcll := rN_cl lc
  have hrnl := fun K H d => rN_rn K H d lc
  have hfzl := fun H d => rN_fz H d lc
  have tkf : (fc.map rB1).take pf = fc.map rB1 := List.take_of_length_le (by simp [hlf])
  have hlimf : pf + 1 ≤ 1048576 := by omega
  have hstf := rB1_st fc
  have hclf := rB1_cl fc
  have hrnf := fun K H d => rB1_rn K H d fc
  have hfzf := fun H d => rB1_fz H d fc
  have HH4 := zA tkl (zA hll (zA hliml (zA tkf (zA hlf hlimf))))
  have HH5 := zA hstl (zA hcll (zA hrnl (zA hfzl (zA hstf (zA hclf (zA hrnf hfzf))))))
  refine Zc ?_
  refine Zc ?_
  refine Ze Zh hTb (zR (zO (by simp [Zb h12 rfl, zC h38, trim, -Zd, HH1, ↓HH2, HH3, HH4, ↓HH5]; rfl) ?_))
  simp only [zT, zB]
  refine Xg (x := decide (ij < (n : Int))) (by simp) (fun hltj => ?_) (fun hltj => ?_)
  ·have hltj := of_decide_eq_true hltj
   have hkj : kj < n := by omega
   have hpj : 0 ≤ ij := by omega
   have htnj : ij.toNat = kj := by omega
   have hwij : W .i64 (ij + 1) = ij + 1 := ZH (by omega)
   have shk : shI .shr .i64 i ij = some (.int .i64 ((k >>> kj : Nat) : Int)) := by rw [hik, hikj]; exact shr_u (by omega) .i64 rfl
   have ank : arI .and .i64 ((k >>> kj : Nat) : Int) 1 = some (.int .i64 ((k >>> kj &&& 1 : Nat) : Int)) := and_i (a := k >>> kj) (b := 1) (Nat.lt_of_le_of_lt (Nat.shiftRight_le k kj) (by omega)) (by omega)
   have btk := bit_oneI k kj
   have hwu : W .u64 ij = ij := by simp only [W]; rw [if_pos (by omega)]
   generalize ((k >>> kj &&& 1 : Nat) : Int) = y1 at *
   generalize ((k >>> kj : Nat) : Int) = z1 at *
   have hLs := leftR_succ kj k
   have hIs := inR_succ kj k
   generalize hbt : k.testBit kj = bt at *
   have HH6 := zA hpj (zA htnj (zA hkj (zA hwij (zA btk hwu))))
   refine Zx ?_
   simp only [zT, zB]
   refine Zc ?_
   refine Yu ?_
   refine Zc ?_
   refine Ze Zh hTb (zR (zO (by simp [Zb h12 rfl, zC h38, trim, -Zd, HH1, ↓HH2, HH3, HH4, ↓HH5, ↓shk, ↓ank, HH6]; rfl) ?_))
   simp only [zT, zB]
   refine Zc ?_
   refine Ze Zh hTb (zR (zO (by simp [Zb h12 rfl, zC h38, trim, -Zd, HH1, ↓HH2, HH3, HH4, ↓HH5, ↓shk, ↓ank, HH6]; rfl) ?_))
   simp only [zT, zB]
   refine Zc ?_
   refine Ze Zh hTb (zR (zO (by simp [Zb h12 rfl, zC h38, trim, -Zd, HH1, ↓HH2, HH3, HH4, ↓HH5, ↓shk, ↓ank, HH6]; rfl) ?_))
   simp only [zT, zB]
   cases bt
   ·refine Zs (x := false) (by simp) ?_
    refine Zx ?_
    simp only [zT, zB]
    refine Ze Zh hTb (zR (zO (by simp [Zb h12 rfl, zC h38, trim, -Zd, HH1, ↓HH2, HH3, HH4, ↓HH5, ↓shk, ↓ank, HH6]; rfl) ?_))
    simp only [zT, zB]
    have hapf : ∀ K H d, Zf (Zf (YI K H (d + 1))) (fc.map rB1 ++ [[.bool true]]) = some ((fc ++ [true]).map rB1) := fun K H d => by
     have h := rB1_rn K H d (fc ++ [true])
     rw [List.map_append] at h ⊢
     have e : [[.bool true]] = [true].map rB1 := by rfl
     rw [e]; exact h
    exact ⟨n - (kj + 1), _, by omega, ren_kl 4035 [0, 1, 4] (by decide) (by simp) rfl (by simp [Zb h12 rfl, zC h38, trim, -Zd, HH1, ↓HH2, HH3, HH4, ↓HH5, ↓shk, ↓ank, HH6, ↓hapf] <;> rfl) (by simp [Zb h12 rfl, zC h38, trim, -Zd, HH1, ↓HH2, HH3, HH4, ↓HH5, ↓shk, ↓ank, HH6, ↓hapf] <;> rfl), kj + 1, ij + 1, lc, pl, fc ++ [true], pf + 1, by omega, rfl, by omega, by rw [hIs, hlc]; simp, hll, by rw [hLs, hfc]; rfl, by simp [hlf], by simp [Zb h12 rfl, zC h38, trim, -Zd, HH1, ↓HH2, HH3, HH4, ↓HH5, ↓shk, ↓ank, HH6, ↓hapf]⟩
   ·have hrz : rN kj = [I ij] := by rw [hikj]; rfl
    refine Zs (x := true) (by simp) ?_
    refine Ze Zh hTb (zR (zO (by simp [Zb h12 rfl, zC h38, trim, -Zd, HH1, ↓HH2, HH3, HH4, ↓HH5, ↓shk, ↓ank, HH6]; rfl) ?_))
    simp only [zT, zB]
    refine Ze Zh hTb (zR (zO (by simp [Zb h12 rfl, zC h38, trim, -Zd, HH1, ↓HH2, HH3, HH4, ↓HH5, ↓shk, ↓ank, HH6]; rfl) ?_))
    simp only [zT, zB]
    have hapl : ∀ K H d, Zf (Zf (YI K H (d + 1))) (lc.map rN ++ [[I ij]]) = some ((lc ++ [kj]).map rN) := fun K H d => by
     have h := rN_rn K H d (lc ++ [kj])
     rw [List.map_append] at h ⊢
     have e : [[I ij]] = [kj].map rN := by simp [rN, hikj]
     rw [e]; exact h
    have hapf : ∀ K H d, Zf (Zf (YI K H (d + 1))) (fc.map rB1 ++ [[.bool false]]) = some ((fc ++ [false]).map rB1) := fun K H d => by
     have h := rB1_rn K H d (fc ++ [false])
     rw [List.map_append] at h ⊢
     have e : [[.bool false]] = [false].map rB1 := by rfl
     rw [e]; exact h
    exact ⟨n - (kj + 1), _, by omega, ren_kl 4035 [0, 6, 4] (by decide) (by simp) rfl (by simp [Zb h12 rfl, zC h38, trim, -Zd, HH1, ↓HH2, HH3, HH4, ↓HH5, ↓shk, ↓ank, HH6, ↓hapl, ↓hapf] <;> rfl) (by simp [Zb h12 rfl, zC h38, trim, -Zd, HH1, ↓HH2, HH3, HH4, ↓HH5, ↓shk, ↓ank, HH6, ↓hapl, ↓hapf] <;> rfl), kj + 1, ij + 1, lc ++ [kj], pl + 1, fc ++ [false], pf + 1, by omega, rfl, by omega, by rw [hIs, hlc]; rfl, by simp [hll], by rw [hLs, hfc]; rfl, by simp [hlf], by simp [Zb h12 rfl, zC h38, trim, -Zd, HH1, ↓HH2, HH3, HH4, ↓HH5, ↓shk, ↓ank, HH6, ↓hapl, ↓hapf]⟩
  ·have hltj := of_decide_eq_false hltj
   have hEj : kj = n := by omega
   have hfl : fc.length = T0.length := by rw [hfc, leftR_len]; omega
   have hfc2 : fc = leftR T0.length k := by rw [hfc, hEj, hn]
   have hlc2 : lc = inR T0.length k := by rw [hlc, hEj, hn]
   have e12 := o12s_eq (D := 8) (bv := .nils) (lv := .vl (fc.map rB1) false) (b := []) hm hy rfl rfl (by omega) h4 hfl hrow (by simp) (d := n) (by simp; omega) (by omega)
   have hF : failR T0 (plR rs) k = (Yn T0 (plR rs) fc n []).isNone := by unfold failR; rw [hfc2, hn]
   have hbs : bestR T0 (plR rs) (k + 1) = if failR T0 (plR rs) k = false then bestR T0 (plR rs) k else match bestR T0 (plR rs) k with | none => some (inR T0.length k) | some b => if lessR (inR T0.length k) b = true then some (inR T0.length k) else some b := rfl
   rw [hF, ← hlc2] at hbs
   have hlcm : ∀ x ∈ lc, x < 1000000 := fun x hx => by rw [hlc2] at hx; have := inR_mem x hx; omega
   have hll7 : lc.length ≤ 7 := by rw [hlc2]; have := inR_len T0.length k; omega
   rcases hs : Yn T0 (plR rs) fc n [] with _ | b2
   ·rw [hs] at e12 hbs
    simp only [Option.isNone_none, Bool.true_eq_false, if_false] at hbs
    simp only [ret12] at e12
    rcases hbest with ⟨rfl, hac0, hb0⟩ | ⟨rfl, hb1⟩
    ·rw [hb0] at hbs
     refine YO ?_
     simp only [zT, zB, if_true, if_false, reduceIte, Nat.reduceEqDiff, Nat.succ_ne_zero, Nat.one_ne_zero, Nat.zero_ne_one]
     refine Zc ?_
     refine Ze Zh hTb (zR (zO (by simp [Zb h12 rfl, zC h38, trim, -Zd, HH1, ↓HH2, HH3, HH4, ↓HH5, e12]; rfl) ?_))
     simp only [zT, zB]
     refine Zc ?_
     refine Ze Zh hTb (zR (zO (by simp [Zb h12 rfl, zC h38, trim, -Zd, HH1, ↓HH2, HH3, HH4, ↓HH5, e12]; rfl) ?_))
     simp only [zT, zB]
     refine Zs (x := true) (by simp [Zb h12 rfl, zC h38, trim, -Zd, HH1, ↓HH2, HH3, HH4, ↓HH5, e12]) ?_
     refine Ze Zh hTb (zR (zO (by simp [Zb h12 rfl, zC h38, trim, -Zd, HH1, ↓HH2, HH3, HH4, ↓HH5, e12]; rfl) ?_))
     simp only [zT, zB]
     refine Ze Zh hTb (zR (zO (by simp [Zb h12 rfl, zC h38, trim, -Zd, HH1, ↓HH2, HH3, HH4, ↓HH5, e12]; rfl) ?_))
     simp only [zT, zB]
     exact ⟨M - (k + 1), _, by omega, ren_kl 451 [1] (by decide) (by simp) rfl (by simp [Zb h12 rfl, zC h38, trim, -Zd, HH1, ↓HH2, HH3, HH4, ↓HH5, e12] <;> rfl) (by simp [Zb h12 rfl, zC h38, trim, -Zd, HH1, ↓HH2, HH3, HH4, ↓HH5, e12] <;> rfl), k + 1, i + 1, lc, pl, true, by omega, rfl, by omega, hll, .inr ⟨rfl, hbs⟩, by simp [Zb h12 rfl, zC h38, trim, -Zd, HH1, ↓HH2, HH3, HH4, ↓HH5, e12]⟩
    ·have hbo := bestR_ok hb1
     rw [hb1] at hbs
     simp only at hbs
     have e38 := o38_eq (dNs_vl hlcm false) (dNs_vl (b := ac) (fun x hx => by have := hbo.2 x hx; omega) false) (by omega) (by have := hbo.1; omega)
     generalize lessR lc ac = LL at *
     cases LL
     ·rw [if_neg (by simp)] at hbs
      refine YO ?_
      simp only [zT, zB, if_true, if_false, reduceIte, Nat.reduceEqDiff, Nat.succ_ne_zero, Nat.one_ne_zero, Nat.zero_ne_one]
      refine Zc ?_
      refine Ze Zh hTb (zR (zO (by simp [Zb h12 rfl, zC h38, trim, -Zd, HH1, ↓HH2, HH3, HH4, ↓HH5, e12, e38]; rfl) ?_))
      simp only [zT, zB]
      refine Zc ?_
      refine Ze Zh hTb (zR (zO (by simp [Zb h12 rfl, zC h38, trim, -Zd, HH1, ↓HH2, HH3, HH4, ↓HH5, e12, e38]; rfl) ?_))
      simp only [zT, zB]
      refine Zs (x := false) (by simp [Zb h12 rfl, zC h38, trim, -Zd, HH1, ↓HH2, HH3, HH4, ↓HH5, e12, e38]) ?_
      refine Zx ?_
      simp only [zT, zB]
      refine Ze Zh hTb (zR (zO (by simp [Zb h12 rfl, zC h38, trim, -Zd, HH1, ↓HH2, HH3, HH4, ↓HH5, e12, e38]; rfl) ?_))
      simp only [zT, zB]
      exact ⟨M - (k + 1), _, by omega, ren_kl 451 [0] (by decide) (by simp) rfl (by simp [Zb h12 rfl, zC h38, trim, -Zd, HH1, ↓HH2, HH3, HH4, ↓HH5, e12, e38] <;> rfl) (by simp [Zb h12 rfl, zC h38, trim, -Zd, HH1, ↓HH2, HH3, HH4, ↓HH5, e12, e38] <;> rfl), k + 1, i + 1, ac, p, true, by omega, rfl, by omega, hl, .inr ⟨rfl, hbs⟩, by simp [Zb h12 rfl, zC h38, trim, -Zd, HH1, ↓HH2, HH3, HH4, ↓HH5, e12, e38]⟩
     ·rw [if_pos rfl] at hbs
      refine YO ?_
      simp only [zT, zB, if_true, if_false, reduceIte, Nat.reduceEqDiff, Nat.succ_ne_zero, Nat.one_ne_zero, Nat.zero_ne_one]
      refine Zc ?_
      refine Ze Zh hTb (zR (zO (by simp [Zb h12 rfl, zC h38, trim, -Zd, HH1, ↓HH2, HH3, HH4, ↓HH5, e12, e38]; rfl) ?_))
      simp only [zT, zB]
      refine Zc ?_
      refine Ze Zh hTb (zR (zO (by simp [Zb h12 rfl, zC h38, trim, -Zd, HH1, ↓HH2, HH3, HH4, ↓HH5, e12, e38]; rfl) ?_))
      simp only [zT, zB]
      refine Zs (x := true) (by simp [Zb h12 rfl, zC h38, trim, -Zd, HH1, ↓HH2, HH3, HH4, ↓HH5, e12, e38]) ?_
      refine Ze Zh hTb (zR (zO (by simp [Zb h12 rfl, zC h38, trim, -Zd, HH1, ↓HH2, HH3, HH4, ↓HH5, e12, e38]; rfl) ?_))
      simp only [zT, zB]
      refine Ze Zh hTb (zR (zO (by simp [Zb h12 rfl, zC h38, trim, -Zd, HH1, ↓HH2, HH3, HH4, ↓HH5, e12, e38]; rfl) ?_))
      simp only [zT, zB]
      exact ⟨M - (k + 1), _, by omega, ren_kl 451 [1] (by decide) (by simp) rfl (by simp [Zb h12 rfl, zC h38, trim, -Zd, HH1, ↓HH2, HH3, HH4, ↓HH5, e12, e38] <;> rfl) (by simp [Zb h12 rfl, zC h38, trim, -Zd, HH1, ↓HH2, HH3, HH4, ↓HH5, e12, e38] <;> rfl), k + 1, i + 1, lc, pl, true, by omega, rfl, by omega, hll, .inr ⟨rfl, hbs⟩, by simp [Zb h12 rfl, zC h38, trim, -Zd, HH1, ↓HH2, HH3, HH4, ↓HH5, e12, e38]⟩
   ·rw [hs] at e12 hbs
    simp only [Option.isNone_some, if_true] at hbs
    simp only [ret12] at e12
    generalize hz : (if n = 0 then Za.nils else Za.vl (b2.map rZ) false) = z at e12
    have hrz : rb 0 4 z = true := by rw [← hz]; split <;> rfl
    refine YO ?_
    simp only [zT, zB, if_true, if_false, reduceIte, Nat.reduceEqDiff, Nat.succ_ne_zero, Nat.one_ne_zero, Nat.zero_ne_one]
    refine Zc ?_
    refine Ze Zh hTb (zR (zO (by simp [Zb h12 rfl, zC h38, trim, -Zd, HH1, ↓HH2, HH3, HH4, ↓HH5, e12, hrz]; rfl) ?_))
    simp only [zT, zB]
    refine Zc ?_
    refine Ze Zh hTb (zR (zO (by simp [Zb h12 rfl, zC h38, trim, -Zd, HH1, ↓HH2, HH3, HH4, ↓HH5, e12, hrz]; rfl) ?_))
    simp only [zT, zB]
    refine Zs (x := false) (by simp [Zb h12 rfl, zC h38, trim, -Zd, HH1, ↓HH2, HH3, HH4, ↓HH5, e12, hrz]) ?_
    refine Zx ?_
    simp only [zT, zB]
    refine Ze Zh hTb (zR (zO (by simp [Zb h12 rfl, zC h38, trim, -Zd, HH1, ↓HH2, HH3, HH4, ↓HH5, e12, hrz]; rfl) ?_))
    simp only [zT, zB]
    exact ⟨M - (k + 1), _, by omega, ren_kl 451 [0] (by decide) (by simp) rfl (by simp [Zb h12 rfl, zC h38, trim, -Zd, HH1, ↓HH2, HH3, HH4, ↓HH5, e12, hrz] <;> rfl) (by simp [Zb h12 rfl, zC h38, trim, -Zd, HH1, ↓HH2, HH3, HH4, ↓HH5, e12, hrz] <;> rfl), k + 1, i + 1, ac, p, fd, by omega, rfl, by omega, hl, by rw [hbs]; exact hbest, by simp [Zb h12 rfl, zC h38, trim, -Zd, HH1, ↓HH2, HH3, HH4, ↓HH5, e12, hrz]⟩
 ·have hlt := of_decide_eq_false hlt
  have hE : k = M := by omega
  rw [hE] at hbest
  rw [show 2 ^ T0.length = M by rw [← hn]; exact hM]
  rcases hbest with ⟨rfl, hac0, hb0⟩ | ⟨rfl, hb1⟩
  ·rw [hb0]
   subst hac0
   have hp0 : p = 0 := hl.symm
   refine YO ?_
   simp only [zT, zB, if_true, if_false, reduceIte, Nat.reduceEqDiff, Nat.succ_ne_zero, Nat.one_ne_zero, Nat.zero_ne_one]
   refine Zc ?_
   refine Ze Zh hTb (zR (zO (by simp [Zb h12 rfl, zC h38, trim, -Zd, HH1, tk, hl, hlim, ↓HH2]; rfl) ?_))
   simp only [zT, zB]
   refine Ym ?_
   simp [Zb h12 rfl, zC h38, trim, -Zd, HH1, tk, hl, hlim, ↓HH2, ret16, rN, hp0]
  ·rw [hb1]
   refine YO ?_
   simp only [zT, zB, if_true, if_false, reduceIte, Nat.reduceEqDiff, Nat.succ_ne_zero, Nat.one_ne_zero, Nat.zero_ne_one]
   refine Zc ?_
   refine Ze Zh hTb (zR (zO (by simp [Zb h12 rfl, zC h38, trim, -Zd, HH1, tk, hl, hlim, ↓HH2]; rfl) ?_))
   simp only [zT, zB]
   refine Ym ?_
   simp [Zb h12 rfl, zC h38, trim, -Zd, HH1, tk, hl, hlim, ↓HH2, ret16]
end
end
end Go.Proofs.YtpebmjeomlgmdaaGreatDoor.Tab
namespace Go.Proofs.YtpebmjeomlgmdaaGreatDoor.Tab
open Go Go.Abs Go.Proofs
set_option maxRecDepth 100000
section
theorem itB_R (x : It5) : itB x = itR x := by
  unfold itB itR
  rw [moist_span, moist_span]
  simp [wB, inB]
theorem rmB_R (r : Rm3) : rmB r = rmR r := by
  unfold rmB rmR
  rw [moist_span]
  simp [wB, inB]
theorem storE_dep (u d : Int) (its : List It5) (rs : List Rm3) : storE u d its rs = depE u d its rs := by
  unfold storE depE
  rw [rule_rB]
  cases rB u d
  · rfl
  · simp only [Bool.true_eq_false, if_false, Bool.not_true, Bool.false_eq_true]
    have e1 : (its.any fun x => !itB x) = !its.all itR := by
      rw [List.not_all_eq_any_not]; congr 1; funext x; rw [itB_R]
    have e2 : (rs.any fun x => !rmB x) = !rs.all rmR := by
      rw [List.not_all_eq_any_not]; congr 1; funext x; rw [rmB_R]
    have d1 : decide (7 < (its.length : Int)) = decide (7 < its.length) := decide_eq_decide.2 (by omega)
    have d2 : decide (4 < (rs.length : Int)) = decide (4 < rs.length) := decide_eq_decide.2 (by omega)
    rw [e1, e2, d1, d2]
    by_cases h1 : 7 < its.length <;> by_cases h2 : 4 < rs.length <;> simp only [h1, h2, or_true, true_or, or_self, if_true, if_false, decide_true, decide_false, Bool.or_true, Bool.true_or, Bool.or_self, Bool.false_eq_true]
    cases its.all itR <;> cases rs.all rmR <;> rfl
theorem rhRun_ge (u d rl rh ll lh most : Int) : ∀ (f : Nat) (hour lo hi n : Int), n ≤ hour → n ≤ rhRun u d rl rh ll lh most f hour lo hi n
  | 0, _, _, _, n, _ => Int.le_refl n
  | f + 1, hour, lo, hi, n, h => by
    rw [rhRun]
    split
    · have := rhRun_ge u d rl rh ll lh most f (hour + 1) (hr u d lo rl) (hr u d hi rh) hour (by omega); omega
    · exact Int.le_refl n
theorem rh_step (u d rl rh ll lh most : Int) (f : Nat) (hour lo hi n : Int) : rhRun u d rl rh ll lh most (f + 1) hour lo hi n = if (decide (hour ≤ most) && liesB lo hi ll lh) = true then rhRun u d rl rh ll lh most f (hour + 1) (hr u d lo rl) (hr u d hi rh) hour else n := rfl
theorem rhRun_most (u d rl rh ll lh : Int) {m : Nat} (hm : m ≤ 500) : ∀ (j k : Nat) (lo hi : Int), j + k = m → rhRun u d rl rh ll lh m (j + 1) k lo hi ((k : Int) - 1) = min (m : Int) (rhRun u d rl rh ll lh 500 (500 - k + 1) k lo hi ((k : Int) - 1))
  | 0, k, lo, hi, hk => by
    obtain rfl : k = m := by omega
    have h5 : (k : Int) ≤ 500 := by omega
    rw [rh_step, rh_step u d rl rh ll lh 500 (500 - k)]
    simp only [Int.le_refl, h5, decide_true, Bool.true_and]
    cases liesB lo hi ll lh
    · simp; omega
    · simp only [if_true]
      have := rhRun_ge u d rl rh ll lh 500 (500 - k) (k + 1) (hr u d lo rl) (hr u d hi rh) k (by omega)
      show (k : Int) = _
      omega
  | j + 1, k, lo, hi, hk => by
    have h5 : (k : Int) ≤ 500 := by omega
    have h6 : (k : Int) ≤ m := by omega
    rw [rh_step u d rl rh ll lh m, rh_step u d rl rh ll lh 500 (500 - k)]
    simp only [h5, h6, decide_true, Bool.true_and]
    cases liesB lo hi ll lh
    · simp; omega
    · simp only [if_true]
      have ih := rhRun_most u d rl rh ll lh hm j (k + 1) (hr u d lo rl) (hr u d hi rh) (by omega)
      have e : ((k + 1 : Nat) : Int) = (k : Int) + 1 := by omega
      rw [e, show (k : Int) + 1 - 1 = k by omega, show 500 - (k + 1) + 1 = 500 - k by omega] at ih
      exact ih
theorem may_same {u d : Int} {x : It5} {r : Rm3} (hr : ruleB u d = true) (hx : itB x = true) (hm : rmB r = true) : mayX u d x r = mayB u d x r := by
  obtain ⟨x1, x2, x3, x4, x5⟩ := x
  obtain ⟨r1, r2, r3⟩ := r
  simp only [itB, Bool.and_eq_true] at hx
  simp only [rmB, Bool.and_eq_true] at hm
  obtain ⟨⟨h1, h2⟩, h3⟩ := hx
  obtain ⟨h4, _⟩ := hm
  have h5 : 0 ≤ x5 ∧ x5 ≤ 500 := by simpa [wB] using h3
  obtain ⟨m, rfl⟩ : ∃ m : Nat, x5 = m := ⟨x5.toNat, by omega⟩
  have e1 := rhRun_most u d r1 r2 x3 x4 (m := m) (by omega) m 0 x1 x2 (by omega)
  have e2 := hours_law u d x1 x2 r1 r2 x3 x4 (by rw [← rule_rB]; exact hr) (by rw [← moist_span]; exact h1) (by rw [← moist_span]; exact h4) (by rw [← moist_span]; exact h2)
  have e3 : (((0 : Nat) : Int) - 1) = -1 := rfl
  have e4 : 500 - 0 + 1 = 501 := rfl
  rw [e3, e4] at e1
  have e5 : hoursE u d x1 x2 r1 r2 x3 x4 = if liesB x1 x2 x3 x4 = true then 0 else 9 := by
    unfold hoursE; rw [hr, h1, h2, h4]; cases liesB x1 x2 x3 x4 <;> rfl
  show (rhRun u d r1 r2 x3 x4 (m : Int) ((m : Int).toNat + 1) 0 x1 x2 (-1) == (m : Int)) = (decide (hoursE u d x1 x2 r1 r2 x3 x4 = 0) && decide ((m : Int) ≤ hRun u d x1 x2 r1 r2 x3 x4 500 0))
  have e6 : rhRun u d r1 r2 x3 x4 (m : Int) ((m : Int).toNat + 1) 0 x1 x2 (-1) = min (m : Int) (rhRun u d r1 r2 x3 x4 500 501 0 x1 x2 (-1)) := e1
  rw [e6, e2, e5]
  cases liesB x1 x2 x3 x4
  · simp; omega
  · simp only [if_true, decide_true, Bool.true_and]
    by_cases h : (m : Int) ≤ hRun u d x1 x2 r1 r2 x3 x4 500 0
    · rw [Int.min_eq_left h]; simp [h]
    · rw [Int.min_eq_right (by omega)]
      have : ¬ hRun u d x1 x2 r1 r2 x3 x4 500 0 = (m : Int) := by omega
      simp [h, this]
end
end Go.Proofs.YtpebmjeomlgmdaaGreatDoor.Tab
namespace Go.Proofs.YtpebmjeomlgmdaaGreatDoor.Tab
open Go Go.Abs Go.Proofs
set_option maxRecDepth 100000
section
def rowF (T0 : List (List Bool)) (i : Nat) : Nat → Bool := fun k => (T0.getD i []).getD k false
def freeR (pl : List Int) (b : List Int) : Nat → Int := fun k => pl.getD k 0 - (usedR b k : Int)
def remR (T0 : List (List Bool)) (lf : List Bool) (s d : Nat) : List (Nat → Bool) := ((List.range' s d).filter fun i => !lf.getD i false).map (rowF T0)
theorem used_app (b : List Int) (x : Int) (k : Nat) : usedR (b ++ [x]) k = usedR b k + if x = (k : Int) then 1 else 0 := by
  unfold usedR; rw [List.countP_append]; simp [List.countP_cons]
theorem free_app (pl : List Int) (b : List Int) (k : Nat) : freeR pl (b ++ [(k : Int)]) = takeP (freeR pl b) k := by
  funext j
  unfold freeR takeP
  rw [used_app]
  by_cases h : j = k
  · subst h; simp; omega
  · rw [if_neg (by omega), if_neg h]; simp
theorem free_skip (pl : List Int) (b : List Int) : freeR pl (b ++ [-1]) = freeR pl b := by
  funext j
  unfold freeR
  rw [used_app, if_neg (by omega)]; simp
theorem rem_left {T0 : List (List Bool)} {lf : List Bool} {s d : Nat} (h : lf.getD s false = true) : remR T0 lf s (d + 1) = remR T0 lf (s + 1) d := by
  unfold remR; rw [List.range'_succ, List.filter_cons, if_neg (by rw [h]; simp)]
theorem rem_cons {T0 : List (List Bool)} {lf : List Bool} {s d : Nat} (h : lf.getD s false = false) : remR T0 lf s (d + 1) = rowF T0 s :: remR T0 lf (s + 1) d := by
  unfold remR; rw [List.range'_succ, List.filter_cons, if_pos (by rw [h]; rfl)]; rfl
theorem find_some {β : Type} {f : Nat → Option β} {n k : Nat} (hk : k < n) (h : (f k).isSome = true) : ((List.range n).findSome? f).isSome = true := by
  rw [List.findSome?_isSome_iff]
  obtain ⟨v, hv⟩ := Option.isSome_iff_exists.1 h
  exact ⟨k, List.mem_range.2 hk, by rw [hv]; rfl⟩
theorem storeR_hall (T0 : List (List Bool)) (pl : List Int) (lf : List Bool) : ∀ (d : Nat) (b : List Int), (∀ k, k < pl.length → 0 ≤ freeR pl b k) → ((Yn T0 pl lf d b).isSome = true ↔ Hall pl.length (remR T0 lf b.length d) (freeR pl b))
  | 0, b, hp => ⟨fun _ => hall_nil hp, fun _ => rfl⟩
  | d + 1, b, hp => by
    cases hl : lf.getD b.length false
    · rw [rem_cons hl]
      have ih := fun k : Nat => storeR_hall T0 pl lf d (b ++ [(k : Int)])
      constructor
      · intro h
        simp only [Yn] at h
        rw [if_neg (by rw [hl]; simp), List.findSome?_isSome_iff] at h
        obtain ⟨k, hk, h⟩ := h
        have hk := List.mem_range.1 hk
        split at h
        · rename_i hc
          rw [Bool.and_eq_true, decide_eq_true_eq] at hc
          have hp2 : ∀ j, j < pl.length → 0 ≤ freeR pl (b ++ [(k : Int)]) j := fun j hj => by
            rw [free_app]; unfold takeP
            have := hp j hj
            split
            · rename_i e; subst e; unfold freeR; omega
            · exact this
          have h2 := (ih k hp2).1 h
          rw [free_app, List.length_append] at h2
          exact hall_back hk hc.1 h2
        · simp at h
      · intro h
        obtain ⟨k, hk, ha, h0, h2⟩ := hall_step hp h
        have hp2 : ∀ j, j < pl.length → 0 ≤ freeR pl (b ++ [(k : Int)]) j := fun j hj => by
          rw [free_app]; unfold takeP
          have := hp j hj
          split
          · rename_i e; subst e; omega
          · exact this
        rw [← free_app] at h2
        have h3 := (ih k hp2).2 (by rw [List.length_append]; exact h2)
        simp only [Yn]
        rw [if_neg (by rw [hl]; simp)]
        refine find_some hk ?_
        rw [if_pos]
        · exact h3
        · rw [Bool.and_eq_true, decide_eq_true_eq]
          exact ⟨ha, by unfold freeR at h0; omega⟩
    · rw [storeR_left hl, rem_left hl]
      have ih := storeR_hall T0 pl lf d (b ++ [-1]) (by rw [free_skip]; exact hp)
      rw [free_skip, List.length_append] at ih
      exact ih
structure Same2 (T0 : List (List Bool)) (ms : List Nat) (m : Nat) : Prop where
  len : T0.length = ms.length
  lt : ∀ x ∈ ms, x < 2 ^ m
  bit : ∀ i, i < ms.length → rowF T0 i = aB (ms.getD i 0)
theorem bitsL_in {n s : Nat} (hn : n ≤ 10) (hs : s < 2 ^ n) : Zp s = inR n s := bits_range hn hs
theorem rem_bits {T0 : List (List Bool)} {ms : List Nat} {m n s : Nat} (h : Same2 T0 ms m) (hn : n = ms.length) (h10 : n ≤ 10) (hs : s < 2 ^ n) : remR T0 (leftR n s) 0 n = psL ms (Zp s) := by
  unfold remR psL
  rw [bitsL_in h10 hs, ← List.range_eq_range']
  have e : (List.range n).filter (fun i => !(leftR n s).getD i false) = inR n s := by
    unfold inR
    refine List.filter_congr fun i hi => ?_
    have hi := List.mem_range.1 hi
    simp [leftR, List.getD, hi]
  rw [e]
  refine List.map_congr_left fun i hi => ?_
  have := inR_mem i hi
  exact h.bit i (by omega)
theorem free_nil (pl : List Int) : freeR pl [] = plF pl := by
  funext k; unfold freeR plF usedR; simp
theorem fail_fits {T0 : List (List Bool)} {ms : List Nat} {pl : List Int} {s : Nat} (h : Same2 T0 ms pl.length) (h10 : T0.length ≤ 10) (hpl : pl.length ≤ 10) (hp : ∀ x ∈ pl, 0 ≤ x) (hs : s < 2 ^ T0.length) : failR T0 pl s = !YX ms s pl := by
  have hp0 : ∀ k, k < pl.length → 0 ≤ freeR pl [] k := fun k hk => by
    rw [free_nil]; unfold plF; rw [List.getD_eq_getElem?_getD, List.getElem?_eq_getElem hk]; exact hp _ (List.getElem_mem hk)
  have h1 := storeR_hall T0 pl (leftR T0.length s) T0.length [] hp0
  have h2 := fits_hall (ms := ms) (pl := pl) hpl h.lt s
  rw [free_nil, List.length_nil, rem_bits h h.len h10 hs, ← h2] at h1
  unfold failR
  cases hx : Yn T0 pl (leftR T0.length s) T0.length [] <;> rw [hx] at h1 <;> cases hf : YX ms s pl <;> rw [hf] at h1 <;> simp at h1 ⊢
theorem lessL_lex : ∀ (a b : List Nat), a.length = b.length → (lessL a b = true ↔ lexC a b < 0)
  | [], [], _ => by simp [lessL, lexC]
  | [], _ :: _, h => by simp at h
  | _ :: _, [], h => by simp at h
  | x :: a, y :: b, h => by
    have ih := lessL_lex a b (by simpa using h)
    simp only [lessL, lexC]
    by_cases h1 : x = y
    · subst h1; simp [ih]
    · rw [if_neg h1]
      by_cases h2 : x < y
      · simp [h2]
      · have h3 : y < x := by omega
        simp [h2, h3]
theorem less_lex (a b : List Nat) : lessR a b = true ↔ (a.length < b.length ∨ (a.length = b.length ∧ lexC a b < 0)) := by
  unfold lessR
  by_cases h : a.length = b.length
  · rw [if_pos h, lessL_lex a b h]; omega
  · rw [if_neg h]; simp only [decide_eq_true_eq]; omega
theorem best_same {T0 : List (List Bool)} {ms : List Nat} {pl : List Int} (h : Same2 T0 ms pl.length) (h10 : T0.length ≤ 10) (hpl : pl.length ≤ 10) (hp : ∀ x ∈ pl, 0 ≤ x) : ∀ k, k ≤ 2 ^ T0.length → bestR T0 pl k = (bestA ms pl k).map Zp
  | 0, _ => rfl
  | k + 1, hk => by
    have ih := best_same h h10 hpl hp k (by omega)
    have hf := fail_fits h h10 hpl hp (s := k) (by omega)
    have hb := bitsL_in (n := T0.length) (s := k) h10 (by omega)
    simp only [bestR, bestA]
    rw [hf, ih]
    cases YX ms k pl
    · simp only [Bool.not_false, Bool.true_eq_false, Bool.false_eq_true, if_false]
      cases bestA ms pl k with
      | none => simp [hb]
      | some b0 =>
        simp only [Option.map_some]
        rw [← hb]
        by_cases hc : (Zp k).length < (Zp b0).length ∨ ((Zp k).length = (Zp b0).length ∧ lexC (Zp k) (Zp b0) < 0)
        · rw [if_pos ((less_lex _ _).2 hc), if_pos hc]; rfl
        · rw [if_neg fun hh => hc ((less_lex _ _).1 hh), if_neg hc]; rfl
    · simp
theorem bits_find {ms : List Nat} {m x L : Nat} {p : List Int} {k : Nat} (hm : m ≤ 10) (hx : x < 2 ^ m) (h : (Zp x).find? (canP ms L p) = some k) : k < m ∧ x.testBit k = true ∧ canP ms L p k = true ∧ ∀ j, j < k → x.testBit j = true → canP ms L p j = false := by
  rw [bits_range hm hx, List.find?_filter, List.find?_range_eq_some] at h
  obtain ⟨h1, h2, h3⟩ := h
  have h1 := of_decide_eq_true h1
  refine ⟨List.mem_range.1 h2, h1.1, h1.2, fun j hj hb => ?_⟩
  have h4 := h3 j hj
  cases hc : canP ms L p j with
  | false => rfl
  | true => rw [decide_eq_true ⟨hb, hc⟩] at h4; simp at h4
theorem psL_rem {T0 : List (List Bool)} {ms : List Nat} {m n k : Nat} {lf : List Bool} (h : Same2 T0 ms m) (hn : n = ms.length) (h10 : n ≤ 10) (hk : k ≤ n) (hlf : ∀ i, lf.getD i false = false) : remR T0 lf k (n - k) = psL ms (Zp (YQ n k)) := by
  unfold remR psL
  rw [leftM_bits h10 hk]
  have e : (List.range' k (n - k)).filter (fun i => !lf.getD i false) = List.range' k (n - k) := List.filter_eq_self.2 fun i _ => by rw [hlf i]; rfl
  rw [e]
  refine List.map_congr_left fun i hi => ?_
  have := List.mem_range'_1.1 hi
  exact h.bit i (by omega)
def cI (b : List Nat) : List Int := b.map fun x : Nat => (x : Int)
theorem cI_len (b : List Nat) : (cI b).length = b.length := List.length_map ..
theorem cI_app (a b : List Nat) : cI (a ++ b) = cI a ++ cI b := List.map_append
theorem store_same {T0 : List (List Bool)} {ms : List Nat} {pl : List Int} {n : Nat} {lf : List Bool} (h : Same2 T0 ms pl.length) (hn : n = ms.length) (h10 : n ≤ 10) (hpl : pl.length ≤ 10) (hlf : ∀ i, lf.getD i false = false) :
    ∀ (d : Nat) (b : List Nat) (p : List Int), b.length + d = n → p.length = pl.length → (∀ x ∈ p, 0 ≤ x ∧ x ≤ 1000) → plF p = freeR pl (cI b) → YX ms (YQ n b.length) p = true →
      Yn T0 pl lf d (cI b) = some (cI (b ++ XO ms n d p))
  | 0, b, p, _, _, _, _, _ => by simp [Yn, XO]
  | d + 1, b, p, hb, hpl2, hp, hfr, hf => by
    have hbn : b.length < n := by omega
    have hd : n - b.length = d + 1 := by omega
    have hd2 : n - (b.length + 1) = d := by omega
    have hmx : ms.getD b.length 0 < 2 ^ p.length := by rw [hpl2]; exact ms_lt h.lt _
    have hstep := storeG_step ms hbn p
    rw [hd, hd2] at hstep
    have hall : ∀ k : Nat, k < pl.length → 0 < plF p k → ((Yn T0 pl lf d ((cI b) ++ [(k : Int)])).isSome = true ↔ YX ms (YQ n (b.length + 1)) (XE p k) = true) := by
      intro k hk h0
      have hkp : k < p.length := by omega
      have e1 : freeR pl ((cI b) ++ [(k : Int)]) = plF (XE p k) := by rw [free_app, ← hfr, plF_dec hkp]
      have hp2 : ∀ x ∈ XE p k, 0 ≤ x ∧ x ≤ 1000 := dec_bd hp (by exact h0)
      have h1 := storeR_hall T0 pl lf d ((cI b) ++ [(k : Int)]) (fun j hj => by
        rw [e1]; unfold plF
        have hj2 : j < (XE p k).length := by rw [decP_len]; omega
        rw [List.getD_eq_getElem?_getD, List.getElem?_eq_getElem hj2]; exact (hp2 _ (List.getElem_mem hj2)).1)
      have e2 : ((cI b) ++ [(k : Int)]).length = b.length + 1 := by simp [cI_len]
      rw [e1, e2, show d = n - (b.length + 1) by omega, psL_rem h hn h10 (by omega) hlf] at h1
      have h2 := fits_hall (ms := ms) (pl := XE p k) (by rw [decP_len]; omega) (by rw [decP_len, hpl2]; exact h.lt) (YQ n (b.length + 1))
      rw [decP_len, hpl2] at h2
      rw [show n - (b.length + 1) = d by omega] at h1
      exact h1.trans h2.symm
    have hrow : ∀ k, rowF T0 b.length k = (ms.getD b.length 0).testBit k := fun k => congrFun (h.bit b.length (by omega)) k
    have hfrk : ∀ k, plF p k = pl.getD k 0 - (usedR (cI b) k : Int) := fun k => congrFun hfr k
    cases hc : (Zp (ms.getD b.length 0)).find? (canP ms (YQ n (b.length + 1)) p) with
    | none =>
      exfalso
      have hps : psL ms (Zp (YQ n b.length)) = aB (ms.getD b.length 0) :: psL ms (Zp (YQ n (b.length + 1))) := by rw [left_cons h10 hbn]; rfl
      have h2 := (fits_hall (ms := ms) (pl := p) (by omega) (by rw [hpl2]; exact h.lt) (YQ n b.length)).1 hf
      rw [hps] at h2
      obtain ⟨k, hk, ha, h0, h3⟩ := hall_step (fun k hk => by
        unfold plF; rw [List.getD_eq_getElem?_getD, List.getElem?_eq_getElem hk]; exact (hp _ (List.getElem_mem hk)).1) h2
      have h4 : YX ms (YQ n (b.length + 1)) (XE p k) = true := by
        rw [fits_hall (by rw [decP_len]; omega) (by rw [decP_len, hpl2]; exact h.lt), decP_len, plF_dec hk]; exact h3
      have hmem : k ∈ Zp (ms.getD b.length 0) := by
        rw [bits_range (by omega : p.length ≤ 10) hmx, List.mem_filter]
        exact ⟨List.mem_range.2 hk, ha⟩
      have := List.find?_eq_none.1 hc k hmem
      refine this ?_
      unfold canP
      rw [h4, Bool.and_true, decide_eq_true_eq]
      have h5 : 0 < p.getD k 0 := h0
      omega
    | some k =>
      rw [hc] at hstep
      simp only at hstep
      obtain ⟨hk, hbit, hcan, hless⟩ := bits_find (by omega : p.length ≤ 10) hmx hc
      unfold canP at hcan
      rw [Bool.and_eq_true, decide_eq_true_eq] at hcan
      have h0 : 0 < plF p k := by
        have h6 : p.getD k 0 = plF p k := rfl
        have h7 : 0 ≤ p.getD k 0 := by rw [List.getD_eq_getElem?_getD, List.getElem?_eq_getElem hk]; exact (hp _ (List.getElem_mem hk)).1
        omega
      have ih := store_same h hn h10 hpl hlf d (b ++ [k]) (XE p k) (by simp; omega) (by rw [decP_len]; exact hpl2) (dec_bd hp (by exact h0)) (by rw [cI_app, plF_dec hk, hfr]; exact (free_app pl _ k).symm) (by rw [List.length_append]; exact hcan.2)
      rw [cI_app] at ih
      have hat : Yn T0 pl lf (d + 1) (cI b) = some (cI ((b ++ [k]) ++ XO ms n d (XE p k))) := by
        refine storeR_at (k := k) (hlf _) (by omega) (fun j hj => ?_) ?_
        · unfold stepR
          rw [cI_len]
          split
          · rename_i hcj
            rw [Bool.and_eq_true, decide_eq_true_eq] at hcj
            have h8 : (ms.getD b.length 0).testBit j = true := by rw [← hrow j]; exact hcj.1
            have h9 := hless j hj h8
            have h10' : 0 < plF p j := by rw [hfrk j]; omega
            unfold canP at h9
            have h11 : decide (p.getD j 0 ≠ 0) = true := decide_eq_true (by have : p.getD j 0 = plF p j := rfl; omega)
            rw [h11, Bool.true_and] at h9
            have h12 := hall j (by omega) h10'
            rw [h9] at h12
            cases hx : Yn T0 pl lf d ((cI b) ++ [(j : Int)]) with
            | none => rfl
            | some v => rw [hx] at h12; simp at h12
          · rfl
        · unfold stepR
          rw [cI_len, if_pos]
          · exact ih
          · rw [Bool.and_eq_true, decide_eq_true_eq]
            refine ⟨?_, ?_⟩
            · have := hrow k; rw [hbit] at this; exact this
            · have := hfrk k; omega
      rw [hat, hstep, List.append_assoc]; rfl
end
end Go.Proofs.YtpebmjeomlgmdaaGreatDoor.Tab
namespace Go.Proofs.YtpebmjeomlgmdaaGreatDoor.Tab
open Go Go.Abs Go.Proofs
set_option maxRecDepth 100000
set_option maxHeartbeats 4000000
set_option linter.unusedSimpArgs false
set_option linter.unusedVariables false
noncomputable section
attribute [local simp] Yv Ye XB XC YD YJ XD YL Xh YC Zf orcF Xv YV Xx Xt YU YA rb_vl rb_pv Xr YT YS YR Xw Xs Xu XZ rb_fn slE XP Xk Yp ZQ XG List.range_succ List.range_zero List.range'_succ List.range'_zero Yi Yg ZK Yl ZR ZT Xm Yf dop CV.ev Ys ZA ZM Xa fI_eq Yt Yc ZN Zz Out.v Xy List.replicate_succ zT zB arI ZO Abs.rowAt Xq allV toV toC ofV ofC Builtin.min_ Builtin.min2 Builtin.max_ Builtin.max2 Xz XA resA XS Xj Yh Yx Yy Yw Zd
section
attribute [local simp] Yj ZU YP YM XR Xo disj YY holes YZ ZX Xb news eqB Xc eqA YK Xi toCs ofCs stA Yz ZV Yr dI1 dI2 dI3 dI5 elt
attribute [local simp] st_any st_und st_agg st_tup XX st_int XU st_ref st_pv XT st_sl st_vl XV st_mp st_fn XW st_yld co_any co_und co_agg co_tup co_bool co_int co_nilp co_ref co_pv co_nils co_sl co_vl co_nilm co_mp co_fn co_nilf co_yld
attribute [local simp] Ya Zq dropE lim lop Yk onlyJ ptrs putH setH
theorem dep_same {u d : Int} {its : List It5} {rs : List Rm3} (h : depE u d its rs = 0) : Same2 (mayT u d its rs) (mays u d its rs) (plR rs).length := by
  have hr : ruleB u d = true := by
    unfold depE at h
    cases hb : ruleB u d
    · rw [hb] at h; simp at h
    · rfl
  obtain ⟨_, _, h3, h4⟩ := depE_ok h
  have hl : (plR rs).length = rs.length := by simp [plR]
  refine ⟨by simp [mayT, mays], by rw [hl]; exact mays_lt u d its rs, fun i hi => ?_⟩
  have hi : i < its.length := by simpa [mays] using hi
  funext k
  rw [mays_get hi]
  unfold rowF aB mayF
  rw [mayK_bit]
  have e1 : (mayT u d its rs).getD i [] = rs.map fun r => mayX u d its[i] r := by simp [mayT, List.getD, List.getElem?_eq_getElem hi]
  have e2 : its.getD i (0, 0, 0, 0, 0) = its[i] := by simp [List.getD, List.getElem?_eq_getElem hi]
  rw [e1, e2]
  by_cases hk : k < rs.length
  · have e3 : rs.getD k (0, 0, 0) = rs[k] := by simp [List.getD, List.getElem?_eq_getElem hk]
    rw [e3, decide_eq_true hk, Bool.true_and, ← may_same hr (h3 _ (List.getElem_mem hi)) (h4 _ (List.getElem_mem hk))]
    simp [List.getD, List.getElem?_eq_getElem hk]
  · rw [decide_eq_false hk, Bool.false_and]
    simp [List.getD, List.getElem?_eq_none (show rs.length ≤ k by omega)]
theorem dep_pl {u d : Int} {its : List It5} {rs : List Rm3} (h : depE u d its rs = 0) : ∀ x ∈ plR rs, 0 ≤ x ∧ x ≤ 7 := by
  intro x hx
  obtain ⟨r, hr, rfl⟩ := List.mem_map.1 hx
  have := (depE_ok h).2.2.2 r hr
  simp only [rmB, Bool.and_eq_true] at this
  simpa [wB] using this.2
theorem dep_hours {u d : Int} {its : List It5} {rs : List Rm3} (h : depE u d its rs = 0) : ∀ v ∈ its, 0 ≤ v.2.2.2.2 ∧ v.2.2.2.2 ≤ 1000 := by
  intro v hv
  have := (depE_ok h).2.2.1 v hv
  simp only [itB, Bool.and_eq_true] at this
  have := this.2
  have h2 : 0 ≤ v.2.2.2.2 ∧ v.2.2.2.2 ≤ 500 := by simpa [wB] using this
  omega
theorem pl_len (rs : List Rm3) : (plR rs).length = rs.length := by simp [plR]
theorem mayT_len (u d : Int) (its : List It5) (rs : List Rm3) : (mayT u d its rs).length = its.length := by simp [mayT]
theorem mayT_row (u d : Int) (its : List It5) (rs : List Rm3) : ∀ r ∈ mayT u d its rs, r.length = rs.length := by
  intro r hr
  obtain ⟨x, _, rfl⟩ := List.mem_map.1 hr
  simp
theorem store_law {u d : Int} {its : List It5} {rs : List Rm3} (h : depE u d its rs = 0) : Yn (mayT u d its rs) (plR rs) (List.replicate its.length false) its.length [] = if YX (mays u d its rs) (2 ^ its.length - 1) (rs.map fun r => r.2.2) = true then some (cI (XO (mays u d its rs) its.length its.length (rs.map fun r => r.2.2))) else none := by
  obtain ⟨h7, h4, _, _⟩ := depE_ok h
  have hS := dep_same h
  have hp := dep_pl h
  have hml : (mays u d its rs).length = its.length := by simp [mays]
  have hlf : ∀ i, (List.replicate its.length false).getD i false = false := fun i => by
    rw [List.getD_eq_getElem?_getD, List.getElem?_replicate]; split <;> rfl
  change _ = if YX _ _ (plR rs) = true then some (cI (XO _ _ _ (plR rs))) else none
  by_cases hf : YX (mays u d its rs) (2 ^ its.length - 1) (plR rs) = true
  · rw [if_pos hf]
    have := store_same hS hml.symm (by omega) (by rw [pl_len]; omega) hlf its.length [] (plR rs) (by simp) rfl (fun x hx => by have := hp x hx; omega) (free_nil _).symm hf
    simpa [cI] using this
  · rw [if_neg hf]
    have h1 := storeR_hall (mayT u d its rs) (plR rs) (List.replicate its.length false) its.length [] (fun k hk => by
      rw [free_nil]; unfold plF; rw [List.getD_eq_getElem?_getD, List.getElem?_eq_getElem hk]; exact (hp _ (List.getElem_mem hk)).1)
    have h2 := psL_rem (k := 0) hS hml.symm (by omega) (Nat.zero_le _) hlf
    rw [Nat.sub_zero] at h2
    rw [free_nil, List.length_nil, h2, ← fits_hall (by rw [pl_len]; omega) hS.lt] at h1
    change _ ↔ YX (mays u d its rs) (2 ^ its.length - 1) (plR rs) = true at h1
    cases hx : Yn (mayT u d its rs) (plR rs) (List.replicate its.length false) its.length [] with
    | none => rfl
    | some v => rw [hx] at h1; exact absurd (h1.1 rfl) hf
theorem against_law {u d : Int} {its : List It5} {rs : List Rm3} (h : depE u d its rs = 0) : bestR (mayT u d its rs) (plR rs) (2 ^ its.length) = (bestA (mays u d its rs) (rs.map fun r => r.2.2) (2 ^ its.length)).map Zp := by
  obtain ⟨h7, h4, _, _⟩ := depE_ok h
  have := best_same (dep_same h) (by rw [mayT_len]; omega) (by rw [pl_len]; omega) (fun x hx => (dep_pl h x hx).1) (2 ^ its.length) (by rw [mayT_len]; exact Nat.le_refl _)
  exact this
theorem storeG_small {ms : List Nat} {m : Nat} (hms : ∀ x ∈ ms, x < 2 ^ m) (hm : m ≤ 10) {n : Nat} : ∀ (d : Nat) (p : List Int), ∀ x ∈ XO ms n d p, x < 1000000
  | 0, _, x, hx => by simp [XO] at hx
  | d + 1, p, x, hx => by
    simp only [XO] at hx
    split at hx
    · rename_i k hk
      rcases List.mem_cons.1 hx with rfl | h
      · have h1 := List.mem_of_find?_eq_some hk
        rw [bits_range hm (ms_lt hms _), List.mem_filter] at h1
        have := List.mem_range.1 h1.1; omega
      · exact storeG_small hms hm d _ x h
    · exact storeG_small hms hm d _ x hx
theorem storeG_leq {ms : List Nat} {n : Nat} : ∀ (d : Nat) (p : List Int), (XO ms n d p).length ≤ d
  | 0, _ => by simp [XO]
  | d + 1, p => by
    simp only [XO]
    split
    · rename_i k _; have := storeG_leq (ms := ms) (n := n) d (XE p k); simp; omega
    · have := storeG_leq (ms := ms) (n := n) d p; omega
theorem cI_rZ (l : List Nat) : (cI l).map rZ = l.map rN := by unfold cI; rw [List.map_map]; rfl
theorem oSame5_self {x y : Za} {l : List It5} (hx : Zm x = some (l.map rI5)) (hy : Zm y = some (l.map rI5)) (hl : l.length ≤ 1000) : oSame 5 [x, y] = some (.bool true) := by
  have h : ∀ r ∈ l.map rI5, r.length = 5 ∧ ∀ v ∈ r, isI v = true := by
    intro r hr
    obtain ⟨a, _, rfl⟩ := List.mem_map.1 hr
    refine ⟨rfl, fun v hv => ?_⟩
    simp only [rI5, List.mem_cons, List.not_mem_nil, or_false] at hv
    rcases hv with rfl | rfl | rfl | rfl | rfl <;> rfl
  simp only [oSame, hx, hy]
  rw [if_pos ⟨by simpa using hl, by rw [List.all_eq_true]; intro r hr; rw [Bool.and_eq_true, beq_iff_eq, List.all_eq_true]; exact h r hr, allB_self _ fun r hr => (h r hr).2⟩]
theorem oSame3_self {x y : Za} {l : List Rm3} (hx : Zm x = some (l.map rM3)) (hy : Zm y = some (l.map rM3)) (hl : l.length ≤ 1000) : oSame 3 [x, y] = some (.bool true) := by
  have h : ∀ r ∈ l.map rM3, r.length = 3 ∧ ∀ v ∈ r, isI v = true := by
    intro r hr
    obtain ⟨a, _, rfl⟩ := List.mem_map.1 hr
    refine ⟨rfl, fun v hv => ?_⟩
    simp only [rM3, List.mem_cons, List.not_mem_nil, or_false] at hv
    rcases hv with rfl | rfl | rfl <;> rfl
  simp only [oSame, hx, hy]
  rw [if_pos ⟨by simpa using hl, by rw [List.all_eq_true]; intro r hr; rw [Bool.and_eq_true, beq_iff_eq, List.all_eq_true]; exact h r hr, allB_self _ fun r hr => (h r hr).2⟩]
def o16s : List Za → Option Za
  | [mv, y] => match Zm mv, Zm y with
    | some m, some r => match Zf dRB m, Zf dM3 r with
      | some T0, some rs => if (T0.length ≤ 7 ∧ rs.length ≤ 4) ∧ (∀ r ∈ T0, r.length = rs.length) then some (ret16 (bestR T0 (plR rs) (2 ^ T0.length))) else none
      | _, _ => none
    | _, _ => none
  | _ => none
theorem o16s_eq {T0 : List (List Bool)} {rs : List Rm3} {mv y : Za} (hm : Zm mv = some (T0.map rowB)) (hy : Zm y = some (rs.map rM3)) (h7 : T0.length ≤ 7) (h4 : rs.length ≤ 4) (hrow : ∀ r ∈ T0, r.length = rs.length) : o16s [mv, y] = some (ret16 (bestR T0 (plR rs) (2 ^ T0.length))) := by
  have e1 := YB (d := dRB) (enc := rowB) dRB_of T0
  have e2 := YB (d := dM3) (enc := rM3) (fun _ => rfl) rs
  simp only [o16s, hm, hy, e1, e2]
  rw [if_pos ⟨⟨h7, h4⟩, hrow⟩]
def EC4 : Nat → Option CFn := upd EC3 16 false (o16s)
theorem EC4_ok : ZB Tryz.prog GG EC4 := tab_upd EC3_ok fun args v ho => by
  unfold o16s at ho; split at ho <;> (try simp only [reduceCtorEq] at ho)
  rename_i mv y
  split at ho <;> (try simp only [reduceCtorEq] at ho)
  rename_i m r hm hy
  split at ho <;> (try simp only [reduceCtorEq] at ho)
  rename_i T0 rs h1 h2
  split at ho <;> (try simp only [reduceCtorEq] at ho)
  rename_i hg
  simp only [Option.some.injEq] at ho
  subst ho
  rw [ZY (enc := rowB) dRB_eq h1] at hm
  rw [ZY (enc := rM3) dM3_eq h2] at hy
  exact orc_cans (a16s EC3 EC3_ok rfl rfl rfl T0 rs mv y hm hy hg.1.1 hg.1.2 hg.2)
theorem b3 (T : Nat → Option CFn) (hTb : ZB Tryz.prog GG T) (hT : T 3 = some c3) (h5 : T 5 = some { c5 with frsh := true, orc := o12 }) (h6 : T 6 = some { c6 with frsh := false, orc := o45 }) (h7 : T 7 = some { c7 with frsh := false, orc := o46 }) (h8 : T 8 = some { c8 with frsh := false, orc := o44 }) (h9 : T 9 = some { c9 with frsh := true, orc := oSame 5 }) (h10 : T 10 = some { c10 with frsh := true, orc := oSame 3 }) (h11 : T 11 = some { c11 with frsh := true, orc := o11 }) (h13 : T 13 = some { c13 with frsh := false, orc := o13 }) (h14 : T 14 = some { c14 with frsh := true, orc := o34 }) (h12 : T 12 = some { c12 with frsh := false, orc := fun _ => none, eff := dropE (o12s 8) }) (u d : Int) (x y : Za) (its : List It5) (rs : List Rm3) (hx : Zm x = some (its.map rI5)) (hy : Zm y = some (rs.map rM3)) : CAns Tryz.prog GG 3 [.agg [I u, I d], x, y] [] fun v h => v = .bool true := by
  have lx := Zv hx
  rw [List.length_map] at lx
  have rx := fun n d => ZF hx n d
  have fx := fun H d => Zw hx H d
  obtain ⟨cx1, cx2⟩ := Zy hx
  have ly := Zv hy
  rw [List.length_map] at ly
  have ry := fun n d => ZF hy n d
  have fy := fun H d => Zw hy H d
  obtain ⟨cy1, cy2⟩ := Zy hy
  have nx := fun K H => XJ K H 5 x (rx 0 4)
  have ny := fun K H => XJ K H 5 y (ry 0 4)
  have lox := XM hx
  have loy := XM hy
  have hqy := fun acc r => ptrs_rows hy acc r
  refine cans_of hTb hT ?_
  simp only [oo, om, op, og, ci, cl, c3]
  refine Zc ?_
  refine Ze Zh hTb (zR (zO (by simp [zC h5, h5, zC h6, h6, zC h7, h7, zC h8, h8, zC h9, h9, zC h10, h10, zC h11, h11, zC h13, h13, zC h14, h14, Zb h12 rfl, h12, trim, -Zd, o12, nx, ny, lox, loy, hqy, lx, rx, fx, cx1, cx2, ly, ry, fy, cy1, cy2]; rfl) ?_))
  simp only [zT, zB]
  by_cases h1 : 15 < its.length
  · have h1' : (15 : Int) < its.length := by omega
    have HH1 := And.intro h5 (And.intro h6 (And.intro h7 (And.intro h8 (And.intro h9 (And.intro h10 (And.intro h11 (And.intro h13 (And.intro h14 (And.intro h12 (And.intro nx (And.intro ny (And.intro lox (And.intro loy (And.intro hqy (And.intro lx (And.intro rx (And.intro fx (And.intro cx1 (And.intro cx2 (And.intro ly (And.intro ry (And.intro fy (And.intro cy1 (And.intro cy2 h1'))))))))))))))))))))))))
    refine Zc ?_
    refine Zc ?_
    refine Ze Zh hTb (zR (zO (by simp [zC h5, zC h6, zC h7, zC h8, zC h9, zC h10, zC h11, zC h13, zC h14, Zb h12 rfl, trim, -Zd, o12, HH1]; rfl) ?_))
    simp only [zT, zB]
    refine Zs (x := true) (by simp [zC h5, zC h6, zC h7, zC h8, zC h9, zC h10, zC h11, zC h13, zC h14, Zb h12 rfl, trim, -Zd, o12, HH1]) ?_
    refine Zc ?_
    refine Ze Zh hTb (zR (zO (by simp [zC h5, zC h6, zC h7, zC h8, zC h9, zC h10, zC h11, zC h13, zC h14, Zb h12 rfl, trim, -Zd, o12, HH1]; rfl) ?_))
    simp only [zT, zB]
    refine Ym ?_
    simp [zC h5, zC h6, zC h7, zC h8, zC h9, zC h10, zC h11, zC h13, zC h14, Zb h12 rfl, trim, -Zd, o12, HH1]
  · have h1' : ¬ (15 : Int) < its.length := by omega
    by_cases h2 : 15 < rs.length
    · have h2' : (15 : Int) < rs.length := by omega
      have HH2 := And.intro h5 (And.intro h6 (And.intro h7 (And.intro h8 (And.intro h9 (And.intro h10 (And.intro h11 (And.intro h13 (And.intro h14 (And.intro h12 (And.intro nx (And.intro ny (And.intro lox (And.intro loy (And.intro hqy (And.intro lx (And.intro rx (And.intro fx (And.intro cx1 (And.intro cx2 (And.intro ly (And.intro ry (And.intro fy (And.intro cy1 (And.intro cy2 (And.intro h1' h2')))))))))))))))))))))))))
      refine Zc ?_
      refine Zc ?_
      refine Ze Zh hTb (zR (zO (by simp [zC h5, zC h6, zC h7, zC h8, zC h9, zC h10, zC h11, zC h13, zC h14, Zb h12 rfl, trim, -Zd, o12, HH2]; rfl) ?_))
      simp only [zT, zB]
      refine Zs (x := true) (by simp [zC h5, zC h6, zC h7, zC h8, zC h9, zC h10, zC h11, zC h13, zC h14, Zb h12 rfl, trim, -Zd, o12, HH2]) ?_
      refine Zc ?_
      refine Ze Zh hTb (zR (zO (by simp [zC h5, zC h6, zC h7, zC h8, zC h9, zC h10, zC h11, zC h13, zC h14, Zb h12 rfl, trim, -Zd, o12, HH2]; rfl) ?_))
      simp only [zT, zB]
      refine Ym ?_
      simp [zC h5, zC h6, zC h7, zC h8, zC h9, zC h10, zC h11, zC h13, zC h14, Zb h12 rfl, trim, -Zd, o12, HH2]
    · have h2' : ¬ (15 : Int) < rs.length := by omega
      have HH3 := And.intro h5 (And.intro h6 (And.intro h7 (And.intro h8 (And.intro h9 (And.intro h10 (And.intro h11 (And.intro h13 (And.intro h14 (And.intro h12 (And.intro nx (And.intro ny (And.intro lox (And.intro loy (And.intro hqy (And.intro lx (And.intro rx (And.intro fx (And.intro cx1 (And.intro cx2 (And.intro ly (And.intro ry (And.intro fy (And.intro cy1 (And.intro cy2 (And.intro h1' h2')))))))))))))))))))))))))
      refine Zc ?_
      refine Zc ?_
      refine Ze Zh hTb (zR (zO (by simp [zC h5, zC h6, zC h7, zC h8, zC h9, zC h10, zC h11, zC h13, zC h14, Zb h12 rfl, trim, -Zd, o12, HH3]; rfl) ?_))
      simp only [zT, zB]
      refine Zs (x := false) (by simp [zC h5, zC h6, zC h7, zC h8, zC h9, zC h10, zC h11, zC h13, zC h14, Zb h12 rfl, trim, -Zd, o12, HH3]) ?_
      have hll : its.length ≤ 1000 ∧ rs.length ≤ 1000 := by omega
      have e45 := o45_eq hx hll.1
      have e46 := o46_eq hy hll.2
      have hax : Zm (.vl (its.map rI5) its.isEmpty) = some (its.map rI5) := rfl
      have hay : Zm (.vl (rs.map rM3) rs.isEmpty) = some (rs.map rM3) := rfl
      have e9 := oSame5_self hax hx hll.1
      have e10 := oSame3_self hay hy hll.2
      have e11 := o11_eq hx hy hll u d
      rw [storE_dep] at e11
      have e44 := o44_eq hax hay hll u d
      unfold storeV at e44
      generalize Za.vl (its.map rI5) its.isEmpty = xa at *
      generalize Za.vl (rs.map rM3) rs.isEmpty = ya at *
      have lxa := Zv hax
      have rxa := fun n d => ZF hax n d
      have fxa := fun H d => Zw hax H d
      obtain ⟨cxa1, cxa2⟩ := Zy hax
      have lya := Zv hay
      have rya := fun n d => ZF hay n d
      have fya := fun H d => Zw hay H d
      obtain ⟨cya1, cya2⟩ := Zy hay
      by_cases hE : depE u d its rs = 0
      · rw [if_pos hE] at e44
        rw [hE] at e11
        have hok := dep_hours hE
        have e13 := o13_eq hx hy hll hok u d
        obtain ⟨hq7, hq4, _, _⟩ := depE_ok hE
        have hTl := mayT_len u d its rs
        have hTr := mayT_row u d its rs
        have hms := mays_lt u d its rs
        have hlaw := store_law hE
        have hlr : Zm (.vl (List.replicate its.length [Za.bool false]) true) = some ((List.replicate its.length false).map rB1) := by simp [Zm, rB1]
        have e12 := o12s_eq (D := 8) (T0 := mayT u d its rs) (mv := .vl ((mayT u d its rs).map rowB) false) (bv := .vl [] true) (lv := .vl (List.replicate its.length [Za.bool false]) true) (b := []) rfl hy hlr rfl (by omega) hq4 (by simp [hTl]) hTr (by simp) (d := its.length) (by simp [hTl]) (by omega)
        rw [hlaw] at e12
        have hfr : ∀ n H d, Zf (Zf (frz false H (d + 1))) (List.replicate n [Za.bool false]) = some (List.replicate n [Za.bool false]) := fun n H d => Zu _ fun r hr => by rw [List.eq_of_mem_replicate hr]; rfl
        have htr : ∀ n, (List.replicate n [Za.bool false]).take n = List.replicate n [Za.bool false] := fun n => List.take_of_length_le (by simp)
        obtain ⟨n, hn⟩ : ∃ n, its.length = n := ⟨_, rfl⟩
        have hGs := storeG_small hms (by omega) (n := its.length) its.length (rs.map fun r => r.2.2)
        have hGl := storeG_leq (ms := mays u d its rs) (n := its.length) its.length (rs.map fun r => r.2.2)
        generalize XO (mays u d its rs) its.length its.length (rs.map fun r => r.2.2) = G at *
        generalize (mayT u d its rs).map rowB = TM at *
        by_cases hf : YX (mays u d its rs) (2 ^ its.length - 1) (rs.map fun r => r.2.2) = true
        · rw [if_pos hf] at e44 e12
          simp only [ret12] at e12
          have hz0 : ∃ z, (if its.length = 0 then Za.vl [] true else .vl ((cI G).map rZ) false) = z ∧ rb 0 4 z = true ∧ dNs z = some G ∧ (∀ H d, frz false H (d + 1) z = some z) ∧ ∀ d, rb 0 (d + 1) z = true := by
            refine ⟨_, rfl, ?_, ?_, ?_, ?_⟩
            · split <;> rfl
            · split
              · have : G = [] := List.length_eq_zero_iff.1 (by omega)
                rw [this]; rfl
              · rw [cI_rZ]; exact dNs_of rfl hGs
            · intro H d; split <;> rfl
            · intro d; split <;> rfl
          obtain ⟨z, hz, hzr, hzd, hzf, hzb⟩ := hz0
          rw [hz] at e12
          have hGd := dNs_of (encL_rows G) hGs
          have e34 : o34 [encL G, z] = some (.bool true) := by simp only [o34, hGd, hzd]; rw [if_pos ⟨by omega, by omega⟩]; simp
          have hGr := encL_rows G
          have lg := Zv hGr
          rw [List.length_map] at lg
          have rg := fun n d => ZF hGr n d
          have fg := fun H d => Zw hGr H d
          obtain ⟨cg1, cg2⟩ := Zy hGr
          have hnn : (its.length : Int) ≤ 1048576 := by omega
          rw [hn] at hnn e12
          generalize encL G = gv at *
          have HH4 := And.intro e45 (And.intro e46 (And.intro e9 (And.intro e10 (And.intro e11 (And.intro lxa (And.intro rxa (And.intro fxa (And.intro cxa1 (And.intro cxa2 (And.intro lya (And.intro rya (And.intro fya (And.intro cya1 (And.intro cya2 (And.intro e13 (And.intro hn (And.intro htr (And.intro e44 (And.intro e12 (And.intro hzr (And.intro hzf (And.intro hzb (And.intro e34 (And.intro hnn (And.intro lg (And.intro rg (And.intro fg (And.intro cg1 cg2))))))))))))))))))))))))))))
          refine Zx ?_
          simp only [zT, zB]
          refine Zc ?_
          refine Ze Zh hTb (zR (zO (by simp [zC h5, zC h6, zC h7, zC h8, zC h9, zC h10, zC h11, zC h13, zC h14, Zb h12 rfl, trim, -Zd, o12, HH3, ↓hfr, HH4]; rfl) ?_))
          simp only [zT, zB]
          refine Zc ?_
          refine Ze Zh hTb (zR (zO (by simp [zC h5, zC h6, zC h7, zC h8, zC h9, zC h10, zC h11, zC h13, zC h14, Zb h12 rfl, trim, -Zd, o12, HH3, ↓hfr, HH4]; rfl) ?_))
          simp only [zT, zB]
          refine Zc ?_
          refine Zc ?_
          refine Ze Zh hTb (zR (zO (by simp [zC h5, zC h6, zC h7, zC h8, zC h9, zC h10, zC h11, zC h13, zC h14, Zb h12 rfl, trim, -Zd, o12, HH3, ↓hfr, HH4]; rfl) ?_))
          simp only [zT, zB]
          refine Zs (x := false) (by simp [zC h5, zC h6, zC h7, zC h8, zC h9, zC h10, zC h11, zC h13, zC h14, Zb h12 rfl, trim, -Zd, o12, HH3, ↓hfr, HH4]) ?_
          refine Zx ?_
          simp only [zT, zB]
          refine Zc ?_
          refine Ze Zh hTb (zR (zO (by simp [zC h5, zC h6, zC h7, zC h8, zC h9, zC h10, zC h11, zC h13, zC h14, Zb h12 rfl, trim, -Zd, o12, HH3, ↓hfr, HH4]; rfl) ?_))
          simp only [zT, zB]
          refine Zc ?_
          refine Zc ?_
          refine Ze Zh hTb (zR (zO (by simp [zC h5, zC h6, zC h7, zC h8, zC h9, zC h10, zC h11, zC h13, zC h14, Zb h12 rfl, trim, -Zd, o12, HH3, ↓hfr, HH4]; rfl) ?_))
          simp only [zT, zB]
          refine Zs (x := true) (by simp [zC h5, zC h6, zC h7, zC h8, zC h9, zC h10, zC h11, zC h13, zC h14, Zb h12 rfl, trim, -Zd, o12, HH3, ↓hfr, HH4]) ?_
          refine Zc ?_
          refine Ze Zh hTb (Yd (by simp (maxSteps := 3000000) [zC h5, zC h6, zC h7, zC h8, zC h9, zC h10, zC h11, zC h13, zC h14, Zb h12 rfl, trim, -Zd, o12, HH3, ↓hfr, HH4]; rfl) ?_)
          simp only [zT, zB]
          refine Zc ?_
          refine Zc ?_
          refine Ze Zh hTb (zR (zO (by simp [zC h5, zC h6, zC h7, zC h8, zC h9, zC h10, zC h11, zC h13, zC h14, Zb h12 rfl, trim, -Zd, o12, HH3, ↓hfr, HH4]; rfl) ?_))
          simp only [zT, zB]
          refine Zs (x := true) (by simp [zC h5, zC h6, zC h7, zC h8, zC h9, zC h10, zC h11, zC h13, zC h14, Zb h12 rfl, trim, -Zd, o12, HH3, ↓hfr, HH4]) ?_
          refine Zc ?_
          refine Ze Zh hTb (zR (zO (by simp [zC h5, zC h6, zC h7, zC h8, zC h9, zC h10, zC h11, zC h13, zC h14, Zb h12 rfl, trim, -Zd, o12, HH3, ↓hfr, HH4]; rfl) ?_))
          simp only [zT, zB]
          refine Ym ?_
          simp [zC h5, zC h6, zC h7, zC h8, zC h9, zC h10, zC h11, zC h13, zC h14, Zb h12 rfl, trim, -Zd, o12, HH3, ↓hfr, HH4]
        · rw [if_neg hf] at e44 e12
          simp only [ret12] at e12
          have hnn : (its.length : Int) ≤ 1048576 := by omega
          rw [hn] at hnn e12
          have HH5 := And.intro e45 (And.intro e46 (And.intro e9 (And.intro e10 (And.intro e11 (And.intro lxa (And.intro rxa (And.intro fxa (And.intro cxa1 (And.intro cxa2 (And.intro lya (And.intro rya (And.intro fya (And.intro cya1 (And.intro cya2 (And.intro e13 (And.intro hn (And.intro htr (And.intro e44 (And.intro e12 hnn)))))))))))))))))))
          refine Zx ?_
          simp only [zT, zB]
          refine Zc ?_
          refine Ze Zh hTb (zR (zO (by simp [zC h5, zC h6, zC h7, zC h8, zC h9, zC h10, zC h11, zC h13, zC h14, Zb h12 rfl, trim, -Zd, o12, HH3, ↓hfr, HH5]; rfl) ?_))
          simp only [zT, zB]
          refine Zc ?_
          refine Ze Zh hTb (zR (zO (by simp [zC h5, zC h6, zC h7, zC h8, zC h9, zC h10, zC h11, zC h13, zC h14, Zb h12 rfl, trim, -Zd, o12, HH3, ↓hfr, HH5]; rfl) ?_))
          simp only [zT, zB]
          refine Zc ?_
          refine Zc ?_
          refine Ze Zh hTb (zR (zO (by simp [zC h5, zC h6, zC h7, zC h8, zC h9, zC h10, zC h11, zC h13, zC h14, Zb h12 rfl, trim, -Zd, o12, HH3, ↓hfr, HH5]; rfl) ?_))
          simp only [zT, zB]
          refine Zs (x := false) (by simp [zC h5, zC h6, zC h7, zC h8, zC h9, zC h10, zC h11, zC h13, zC h14, Zb h12 rfl, trim, -Zd, o12, HH3, ↓hfr, HH5]) ?_
          refine Zx ?_
          simp only [zT, zB]
          refine Zc ?_
          refine Ze Zh hTb (zR (zO (by simp [zC h5, zC h6, zC h7, zC h8, zC h9, zC h10, zC h11, zC h13, zC h14, Zb h12 rfl, trim, -Zd, o12, HH3, ↓hfr, HH5]; rfl) ?_))
          simp only [zT, zB]
          refine Zc ?_
          refine Zc ?_
          refine Ze Zh hTb (zR (zO (by simp [zC h5, zC h6, zC h7, zC h8, zC h9, zC h10, zC h11, zC h13, zC h14, Zb h12 rfl, trim, -Zd, o12, HH3, ↓hfr, HH5]; rfl) ?_))
          simp only [zT, zB]
          refine Zs (x := true) (by simp [zC h5, zC h6, zC h7, zC h8, zC h9, zC h10, zC h11, zC h13, zC h14, Zb h12 rfl, trim, -Zd, o12, HH3, ↓hfr, HH5]) ?_
          refine Zc ?_
          refine Ze Zh hTb (Yd (by simp (maxSteps := 3000000) [zC h5, zC h6, zC h7, zC h8, zC h9, zC h10, zC h11, zC h13, zC h14, Zb h12 rfl, trim, -Zd, o12, HH3, ↓hfr, HH5]; rfl) ?_)
          simp only [zT, zB]
          refine Zc ?_
          refine Zc ?_
          refine Ze Zh hTb (zR (zO (by simp [zC h5, zC h6, zC h7, zC h8, zC h9, zC h10, zC h11, zC h13, zC h14, Zb h12 rfl, trim, -Zd, o12, HH3, ↓hfr, HH5]; rfl) ?_))
          simp only [zT, zB]
          refine Zs (x := false) (by simp [zC h5, zC h6, zC h7, zC h8, zC h9, zC h10, zC h11, zC h13, zC h14, Zb h12 rfl, trim, -Zd, o12, HH3, ↓hfr, HH5]) ?_
          refine Zx ?_
          simp only [zT, zB]
          refine Ze Zh hTb (zR (zO (by simp [zC h5, zC h6, zC h7, zC h8, zC h9, zC h10, zC h11, zC h13, zC h14, Zb h12 rfl, trim, -Zd, o12, HH3, ↓hfr, HH5]; rfl) ?_))
          simp only [zT, zB]
          refine Zc ?_
          refine Ze Zh hTb (zR (zO (by simp [zC h5, zC h6, zC h7, zC h8, zC h9, zC h10, zC h11, zC h13, zC h14, Zb h12 rfl, trim, -Zd, o12, HH3, ↓hfr, HH5]; rfl) ?_))
          simp only [zT, zB]
          refine Ym ?_
          simp [zC h5, zC h6, zC h7, zC h8, zC h9, zC h10, zC h11, zC h13, zC h14, Zb h12 rfl, trim, -Zd, o12, HH3, ↓hfr, HH5]
      · rw [if_neg hE] at e44
        have hE1 : (depE u d its rs == 0) = false := by simpa using hE
        generalize depE u d its rs = E at *
        have HH6 := And.intro e45 (And.intro e46 (And.intro e9 (And.intro e10 (And.intro e11 (And.intro lxa (And.intro rxa (And.intro fxa (And.intro cxa1 (And.intro cxa2 (And.intro lya (And.intro rya (And.intro fya (And.intro cya1 (And.intro cya2 (And.intro e44 hE1)))))))))))))))
        refine Zx ?_
        simp only [zT, zB]
        refine Zc ?_
        refine Ze Zh hTb (zR (zO (by simp [zC h5, zC h6, zC h7, zC h8, zC h9, zC h10, zC h11, zC h13, zC h14, Zb h12 rfl, trim, -Zd, o12, HH3, HH6]; rfl) ?_))
        simp only [zT, zB]
        refine Zc ?_
        refine Ze Zh hTb (zR (zO (by simp [zC h5, zC h6, zC h7, zC h8, zC h9, zC h10, zC h11, zC h13, zC h14, Zb h12 rfl, trim, -Zd, o12, HH3, HH6]; rfl) ?_))
        simp only [zT, zB]
        refine Zc ?_
        refine Zc ?_
        refine Ze Zh hTb (zR (zO (by simp [zC h5, zC h6, zC h7, zC h8, zC h9, zC h10, zC h11, zC h13, zC h14, Zb h12 rfl, trim, -Zd, o12, HH3, HH6]; rfl) ?_))
        simp only [zT, zB]
        refine Zs (x := false) (by simp [zC h5, zC h6, zC h7, zC h8, zC h9, zC h10, zC h11, zC h13, zC h14, Zb h12 rfl, trim, -Zd, o12, HH3, HH6]) ?_
        refine Zx ?_
        simp only [zT, zB]
        refine Zc ?_
        refine Ze Zh hTb (zR (zO (by simp [zC h5, zC h6, zC h7, zC h8, zC h9, zC h10, zC h11, zC h13, zC h14, Zb h12 rfl, trim, -Zd, o12, HH3, HH6]; rfl) ?_))
        simp only [zT, zB]
        refine Zc ?_
        refine Zc ?_
        refine Ze Zh hTb (zR (zO (by simp [zC h5, zC h6, zC h7, zC h8, zC h9, zC h10, zC h11, zC h13, zC h14, Zb h12 rfl, trim, -Zd, o12, HH3, HH6]; rfl) ?_))
        simp only [zT, zB]
        refine Zs (x := false) (by simp [zC h5, zC h6, zC h7, zC h8, zC h9, zC h10, zC h11, zC h13, zC h14, Zb h12 rfl, trim, -Zd, o12, HH3, HH6]) ?_
        refine Zx ?_
        simp only [zT, zB]
        refine Zc ?_
        refine Ze Zh hTb (zR (zO (by simp [zC h5, zC h6, zC h7, zC h8, zC h9, zC h10, zC h11, zC h13, zC h14, Zb h12 rfl, trim, -Zd, o12, HH3, HH6]; rfl) ?_))
        simp only [zT, zB]
        refine Ym ?_
        simp [zC h5, zC h6, zC h7, zC h8, zC h9, zC h10, zC h11, zC h13, zC h14, Zb h12 rfl, trim, -Zd, o12, HH3, HH6]
theorem law3 (u d : Int) (x y : Za) (its : List It5) (rs : List Rm3) (hx : Zm x = some (its.map rI5)) (hy : Zm y = some (rs.map rM3)) : CAns Tryz.prog GG 3 [.agg [I u, I d], x, y] [] fun v h => v = .bool true := b3 EC4 EC4_ok rfl rfl rfl rfl rfl rfl rfl rfl rfl rfl rfl u d x y its rs hx hy
theorem b4 (T : Nat → Option CFn) (hTb : ZB Tryz.prog GG T) (hT : T 4 = some c4) (h5 : T 5 = some { c5 with frsh := true, orc := o12 }) (h6 : T 6 = some { c6 with frsh := false, orc := o45 }) (h7 : T 7 = some { c7 with frsh := false, orc := o46 }) (h15 : T 15 = some { c15 with frsh := false, orc := o47 }) (h9 : T 9 = some { c9 with frsh := true, orc := oSame 5 }) (h10 : T 10 = some { c10 with frsh := true, orc := oSame 3 }) (h11 : T 11 = some { c11 with frsh := true, orc := o11 }) (h13 : T 13 = some { c13 with frsh := false, orc := o13 }) (h14 : T 14 = some { c14 with frsh := true, orc := o34 }) (h16 : T 16 = some { c16 with frsh := false, orc := o16s }) (u d : Int) (x y : Za) (its : List It5) (rs : List Rm3) (hx : Zm x = some (its.map rI5)) (hy : Zm y = some (rs.map rM3)) : CAns Tryz.prog GG 4 [.agg [I u, I d], x, y] [] fun v h => v = .bool true := by
  have lx := Zv hx
  rw [List.length_map] at lx
  have rx := fun n d => ZF hx n d
  have fx := fun H d => Zw hx H d
  obtain ⟨cx1, cx2⟩ := Zy hx
  have ly := Zv hy
  rw [List.length_map] at ly
  have ry := fun n d => ZF hy n d
  have fy := fun H d => Zw hy H d
  obtain ⟨cy1, cy2⟩ := Zy hy
  have nx := fun K H => XJ K H 5 x (rx 0 4)
  have ny := fun K H => XJ K H 5 y (ry 0 4)
  have lox := XM hx
  have loy := XM hy
  have hqy := fun acc r => ptrs_rows hy acc r
  refine cans_of hTb hT ?_
  simp only [oo, om, op, og, ci, cl, c4]
  refine Zc ?_
  refine Ze Zh hTb (zR (zO (by simp [zC h5, h5, zC h6, h6, zC h7, h7, zC h15, h15, zC h9, h9, zC h10, h10, zC h11, h11, zC h13, h13, zC h14, h14, zC h16, h16, trim, -Zd, o12, nx, ny, lox, loy, hqy, lx, rx, fx, cx1, cx2, ly, ry, fy, cy1, cy2]; rfl) ?_))
  simp only [zT, zB]
  by_cases h1 : 15 < its.length
  · have h1' : (15 : Int) < its.length := by omega
    have HH1 := And.intro h5 (And.intro h6 (And.intro h7 (And.intro h15 (And.intro h9 (And.intro h10 (And.intro h11 (And.intro h13 (And.intro h14 (And.intro h16 (And.intro nx (And.intro ny (And.intro lox (And.intro loy (And.intro hqy (And.intro lx (And.intro rx (And.intro fx (And.intro cx1 (And.intro cx2 (And.intro ly (And.intro ry (And.intro fy (And.intro cy1 (And.intro cy2 h1'))))))))))))))))))))))))
    refine Zc ?_
    refine Zc ?_
    refine Ze Zh hTb (zR (zO (by simp [zC h5, zC h6, zC h7, zC h15, zC h9, zC h10, zC h11, zC h13, zC h14, zC h16, trim, -Zd, o12, HH1]; rfl) ?_))
    simp only [zT, zB]
    refine Zs (x := true) (by simp [zC h5, zC h6, zC h7, zC h15, zC h9, zC h10, zC h11, zC h13, zC h14, zC h16, trim, -Zd, o12, HH1]) ?_
    refine Zc ?_
    refine Ze Zh hTb (zR (zO (by simp [zC h5, zC h6, zC h7, zC h15, zC h9, zC h10, zC h11, zC h13, zC h14, zC h16, trim, -Zd, o12, HH1]; rfl) ?_))
    simp only [zT, zB]
    refine Ym ?_
    simp [zC h5, zC h6, zC h7, zC h15, zC h9, zC h10, zC h11, zC h13, zC h14, zC h16, trim, -Zd, o12, HH1]
  · have h1' : ¬ (15 : Int) < its.length := by omega
    by_cases h2 : 15 < rs.length
    · have h2' : (15 : Int) < rs.length := by omega
      have HH2 := And.intro h5 (And.intro h6 (And.intro h7 (And.intro h15 (And.intro h9 (And.intro h10 (And.intro h11 (And.intro h13 (And.intro h14 (And.intro h16 (And.intro nx (And.intro ny (And.intro lox (And.intro loy (And.intro hqy (And.intro lx (And.intro rx (And.intro fx (And.intro cx1 (And.intro cx2 (And.intro ly (And.intro ry (And.intro fy (And.intro cy1 (And.intro cy2 (And.intro h1' h2')))))))))))))))))))))))))
      refine Zc ?_
      refine Zc ?_
      refine Ze Zh hTb (zR (zO (by simp [zC h5, zC h6, zC h7, zC h15, zC h9, zC h10, zC h11, zC h13, zC h14, zC h16, trim, -Zd, o12, HH2]; rfl) ?_))
      simp only [zT, zB]
      refine Zs (x := true) (by simp [zC h5, zC h6, zC h7, zC h15, zC h9, zC h10, zC h11, zC h13, zC h14, zC h16, trim, -Zd, o12, HH2]) ?_
      refine Zc ?_
      refine Ze Zh hTb (zR (zO (by simp [zC h5, zC h6, zC h7, zC h15, zC h9, zC h10, zC h11, zC h13, zC h14, zC h16, trim, -Zd, o12, HH2]; rfl) ?_))
      simp only [zT, zB]
      refine Ym ?_
      simp [zC h5, zC h6, zC h7, zC h15, zC h9, zC h10, zC h11, zC h13, zC h14, zC h16, trim, -Zd, o12, HH2]
    · have h2' : ¬ (15 : Int) < rs.length := by omega
      have HH3 := And.intro h5 (And.intro h6 (And.intro h7 (And.intro h15 (And.intro h9 (And.intro h10 (And.intro h11 (And.intro h13 (And.intro h14 (And.intro h16 (And.intro nx (And.intro ny (And.intro lox (And.intro loy (And.intro hqy (And.intro lx (And.intro rx (And.intro fx (And.intro cx1 (And.intro cx2 (And.intro ly (And.intro ry (And.intro fy (And.intro cy1 (And.intro cy2 (And.intro h1' h2')))))))))))))))))))))))))
      refine Zc ?_
      refine Zc ?_
      refine Ze Zh hTb (zR (zO (by simp [zC h5, zC h6, zC h7, zC h15, zC h9, zC h10, zC h11, zC h13, zC h14, zC h16, trim, -Zd, o12, HH3]; rfl) ?_))
      simp only [zT, zB]
      refine Zs (x := false) (by simp [zC h5, zC h6, zC h7, zC h15, zC h9, zC h10, zC h11, zC h13, zC h14, zC h16, trim, -Zd, o12, HH3]) ?_
      have hll : its.length ≤ 1000 ∧ rs.length ≤ 1000 := by omega
      have e45 := o45_eq hx hll.1
      have e46 := o46_eq hy hll.2
      have hax : Zm (.vl (its.map rI5) its.isEmpty) = some (its.map rI5) := rfl
      have hay : Zm (.vl (rs.map rM3) rs.isEmpty) = some (rs.map rM3) := rfl
      have e9 := oSame5_self hax hx hll.1
      have e10 := oSame3_self hay hy hll.2
      have e11 := o11_eq hx hy hll u d
      rw [storE_dep] at e11
      have e44 := o47_eq hax hay hll u d
      unfold againstV at e44
      generalize Za.vl (its.map rI5) its.isEmpty = xa at *
      generalize Za.vl (rs.map rM3) rs.isEmpty = ya at *
      have lxa := Zv hax
      have rxa := fun n d => ZF hax n d
      have fxa := fun H d => Zw hax H d
      obtain ⟨cxa1, cxa2⟩ := Zy hax
      have lya := Zv hay
      have rya := fun n d => ZF hay n d
      have fya := fun H d => Zw hay H d
      obtain ⟨cya1, cya2⟩ := Zy hay
      by_cases hE : depE u d its rs = 0
      · rw [if_pos hE] at e44
        rw [hE] at e11
        have hok := dep_hours hE
        have e13 := o13_eq hx hy hll hok u d
        obtain ⟨hq7, hq4, _, _⟩ := depE_ok hE
        have hTl := mayT_len u d its rs
        have hTr := mayT_row u d its rs
        have hms := mays_lt u d its rs
        have hlaw := against_law hE
        have e16 := o16s_eq (T0 := mayT u d its rs) (mv := .vl ((mayT u d its rs).map rowB) false) rfl hy (by omega) hq4 hTr
        rw [hTl, hlaw] at e16
        have hbb := fun b hb => bestA_some (ms := mays u d its rs) (pl := rs.map fun r => r.2.2) (2 ^ its.length) b hb
        have hp27 : 2 ^ its.length ≤ 128 := Nat.le_trans (Nat.pow_le_pow_right (by decide) hq7) (by decide)
        generalize bestA (mays u d its rs) (rs.map fun r => r.2.2) (2 ^ its.length) = BA at *
        generalize (mayT u d its rs).map rowB = TM at *
        rcases BA with _ | b
        · simp only [agV] at e44
          simp only [Option.map_none, ret16] at e16
          have HH4 := And.intro e45 (And.intro e46 (And.intro e9 (And.intro e10 (And.intro e11 (And.intro lxa (And.intro rxa (And.intro fxa (And.intro cxa1 (And.intro cxa2 (And.intro lya (And.intro rya (And.intro fya (And.intro cya1 (And.intro cya2 (And.intro e13 (And.intro e44 e16))))))))))))))))
          refine Zx ?_
          simp only [zT, zB]
          refine Zc ?_
          refine Ze Zh hTb (zR (zO (by simp [zC h5, zC h6, zC h7, zC h15, zC h9, zC h10, zC h11, zC h13, zC h14, zC h16, trim, -Zd, o12, HH3, HH4]; rfl) ?_))
          simp only [zT, zB]
          refine Zc ?_
          refine Ze Zh hTb (zR (zO (by simp [zC h5, zC h6, zC h7, zC h15, zC h9, zC h10, zC h11, zC h13, zC h14, zC h16, trim, -Zd, o12, HH3, HH4]; rfl) ?_))
          simp only [zT, zB]
          refine Zc ?_
          refine Zc ?_
          refine Ze Zh hTb (zR (zO (by simp [zC h5, zC h6, zC h7, zC h15, zC h9, zC h10, zC h11, zC h13, zC h14, zC h16, trim, -Zd, o12, HH3, HH4]; rfl) ?_))
          simp only [zT, zB]
          refine Zs (x := false) (by simp [zC h5, zC h6, zC h7, zC h15, zC h9, zC h10, zC h11, zC h13, zC h14, zC h16, trim, -Zd, o12, HH3, HH4]) ?_
          refine Zx ?_
          simp only [zT, zB]
          refine Zc ?_
          refine Ze Zh hTb (zR (zO (by simp [zC h5, zC h6, zC h7, zC h15, zC h9, zC h10, zC h11, zC h13, zC h14, zC h16, trim, -Zd, o12, HH3, HH4]; rfl) ?_))
          simp only [zT, zB]
          refine Zc ?_
          refine Zc ?_
          refine Ze Zh hTb (zR (zO (by simp [zC h5, zC h6, zC h7, zC h15, zC h9, zC h10, zC h11, zC h13, zC h14, zC h16, trim, -Zd, o12, HH3, HH4]; rfl) ?_))
          simp only [zT, zB]
          refine Zs (x := true) (by simp [zC h5, zC h6, zC h7, zC h15, zC h9, zC h10, zC h11, zC h13, zC h14, zC h16, trim, -Zd, o12, HH3, HH4]) ?_
          refine Zc ?_
          refine Ze Zh hTb (zR (zO (by simp [zC h5, zC h6, zC h7, zC h15, zC h9, zC h10, zC h11, zC h13, zC h14, zC h16, trim, -Zd, o12, HH3, HH4]; rfl) ?_))
          simp only [zT, zB]
          refine Zc ?_
          refine Zc ?_
          refine Ze Zh hTb (zR (zO (by simp [zC h5, zC h6, zC h7, zC h15, zC h9, zC h10, zC h11, zC h13, zC h14, zC h16, trim, -Zd, o12, HH3, HH4]; rfl) ?_))
          simp only [zT, zB]
          refine Zs (x := false) (by simp [zC h5, zC h6, zC h7, zC h15, zC h9, zC h10, zC h11, zC h13, zC h14, zC h16, trim, -Zd, o12, HH3, HH4]) ?_
          refine Zx ?_
          simp only [zT, zB]
          refine Ze Zh hTb (zR (zO (by simp [zC h5, zC h6, zC h7, zC h15, zC h9, zC h10, zC h11, zC h13, zC h14, zC h16, trim, -Zd, o12, HH3, HH4]; rfl) ?_))
          simp only [zT, zB]
          refine Zc ?_
          refine Ze Zh hTb (zR (zO (by simp [zC h5, zC h6, zC h7, zC h15, zC h9, zC h10, zC h11, zC h13, zC h14, zC h16, trim, -Zd, o12, HH3, HH4]; rfl) ?_))
          simp only [zT, zB]
          refine Ym ?_
          simp [zC h5, zC h6, zC h7, zC h15, zC h9, zC h10, zC h11, zC h13, zC h14, zC h16, trim, -Zd, o12, HH3, HH4]
        · obtain ⟨hb1, _, _⟩ := hbb b rfl
          simp only [agV] at e44
          simp only [Option.map_some, ret16] at e16
          have hbi : ∀ i ∈ Zp b, i < its.length := fun i hi => bits_below (by omega : b < 2 ^ its.length) hi
          have hbl := bits_len b
          have hGd := dNs_of (encL_rows (Zp b)) fun i hi => by have := hbi i hi; omega
          have hzd := dNs_of (v := .vl ((Zp b).map rN) false) rfl fun i hi => by have := hbi i hi; omega
          have e34 : o34 [encL (Zp b), .vl ((Zp b).map rN) false] = some (.bool true) := by simp only [o34, hGd, hzd]; rw [if_pos ⟨by omega, by omega⟩]; simp
          have hGr := encL_rows (Zp b)
          have lg := Zv hGr
          rw [List.length_map] at lg
          have rg := fun n d => ZF hGr n d
          have fg := fun H d => Zw hGr H d
          obtain ⟨cg1, cg2⟩ := Zy hGr
          generalize encL (Zp b) = gv at *
          generalize (Zp b).map rN = zr at *
          have HH5 := And.intro e45 (And.intro e46 (And.intro e9 (And.intro e10 (And.intro e11 (And.intro lxa (And.intro rxa (And.intro fxa (And.intro cxa1 (And.intro cxa2 (And.intro lya (And.intro rya (And.intro fya (And.intro cya1 (And.intro cya2 (And.intro e13 (And.intro e44 (And.intro e16 (And.intro e34 (And.intro lg (And.intro rg (And.intro fg (And.intro cg1 cg2))))))))))))))))))))))
          refine Zx ?_
          simp only [zT, zB]
          refine Zc ?_
          refine Ze Zh hTb (zR (zO (by simp [zC h5, zC h6, zC h7, zC h15, zC h9, zC h10, zC h11, zC h13, zC h14, zC h16, trim, -Zd, o12, HH3, HH5]; rfl) ?_))
          simp only [zT, zB]
          refine Zc ?_
          refine Ze Zh hTb (zR (zO (by simp [zC h5, zC h6, zC h7, zC h15, zC h9, zC h10, zC h11, zC h13, zC h14, zC h16, trim, -Zd, o12, HH3, HH5]; rfl) ?_))
          simp only [zT, zB]
          refine Zc ?_
          refine Zc ?_
          refine Ze Zh hTb (zR (zO (by simp [zC h5, zC h6, zC h7, zC h15, zC h9, zC h10, zC h11, zC h13, zC h14, zC h16, trim, -Zd, o12, HH3, HH5]; rfl) ?_))
          simp only [zT, zB]
          refine Zs (x := false) (by simp [zC h5, zC h6, zC h7, zC h15, zC h9, zC h10, zC h11, zC h13, zC h14, zC h16, trim, -Zd, o12, HH3, HH5]) ?_
          refine Zx ?_
          simp only [zT, zB]
          refine Zc ?_
          refine Ze Zh hTb (zR (zO (by simp [zC h5, zC h6, zC h7, zC h15, zC h9, zC h10, zC h11, zC h13, zC h14, zC h16, trim, -Zd, o12, HH3, HH5]; rfl) ?_))
          simp only [zT, zB]
          refine Zc ?_
          refine Zc ?_
          refine Ze Zh hTb (zR (zO (by simp [zC h5, zC h6, zC h7, zC h15, zC h9, zC h10, zC h11, zC h13, zC h14, zC h16, trim, -Zd, o12, HH3, HH5]; rfl) ?_))
          simp only [zT, zB]
          refine Zs (x := true) (by simp [zC h5, zC h6, zC h7, zC h15, zC h9, zC h10, zC h11, zC h13, zC h14, zC h16, trim, -Zd, o12, HH3, HH5]) ?_
          refine Zc ?_
          refine Ze Zh hTb (zR (zO (by simp [zC h5, zC h6, zC h7, zC h15, zC h9, zC h10, zC h11, zC h13, zC h14, zC h16, trim, -Zd, o12, HH3, HH5]; rfl) ?_))
          simp only [zT, zB]
          refine Zc ?_
          refine Zc ?_
          refine Ze Zh hTb (zR (zO (by simp [zC h5, zC h6, zC h7, zC h15, zC h9, zC h10, zC h11, zC h13, zC h14, zC h16, trim, -Zd, o12, HH3, HH5]; rfl) ?_))
          simp only [zT, zB]
          refine Zs (x := true) (by simp [zC h5, zC h6, zC h7, zC h15, zC h9, zC h10, zC h11, zC h13, zC h14, zC h16, trim, -Zd, o12, HH3, HH5]) ?_
          refine Zc ?_
          refine Ze Zh hTb (zR (zO (by simp [zC h5, zC h6, zC h7, zC h15, zC h9, zC h10, zC h11, zC h13, zC h14, zC h16, trim, -Zd, o12, HH3, HH5]; rfl) ?_))
          simp only [zT, zB]
          refine Ym ?_
          simp [zC h5, zC h6, zC h7, zC h15, zC h9, zC h10, zC h11, zC h13, zC h14, zC h16, trim, -Zd, o12, HH3, HH5]
      · rw [if_neg hE] at e44
        have hE1 : (depE u d its rs == 0) = false := by simpa using hE
        generalize depE u d its rs = E at *
        have HH6 := And.intro e45 (And.intro e46 (And.intro e9 (And.intro e10 (And.intro e11 (And.intro lxa (And.intro rxa (And.intro fxa (And.intro cxa1 (And.intro cxa2 (And.intro lya (And.intro rya (And.intro fya (And.intro cya1 (And.intro cya2 (And.intro e44 hE1)))))))))))))))
        refine Zx ?_
        simp only [zT, zB]
        refine Zc ?_
        refine Ze Zh hTb (zR (zO (by simp [zC h5, zC h6, zC h7, zC h15, zC h9, zC h10, zC h11, zC h13, zC h14, zC h16, trim, -Zd, o12, HH3, HH6]; rfl) ?_))
        simp only [zT, zB]
        refine Zc ?_
        refine Ze Zh hTb (zR (zO (by simp [zC h5, zC h6, zC h7, zC h15, zC h9, zC h10, zC h11, zC h13, zC h14, zC h16, trim, -Zd, o12, HH3, HH6]; rfl) ?_))
        simp only [zT, zB]
        refine Zc ?_
        refine Zc ?_
        refine Ze Zh hTb (zR (zO (by simp [zC h5, zC h6, zC h7, zC h15, zC h9, zC h10, zC h11, zC h13, zC h14, zC h16, trim, -Zd, o12, HH3, HH6]; rfl) ?_))
        simp only [zT, zB]
        refine Zs (x := false) (by simp [zC h5, zC h6, zC h7, zC h15, zC h9, zC h10, zC h11, zC h13, zC h14, zC h16, trim, -Zd, o12, HH3, HH6]) ?_
        refine Zx ?_
        simp only [zT, zB]
        refine Zc ?_
        refine Ze Zh hTb (zR (zO (by simp [zC h5, zC h6, zC h7, zC h15, zC h9, zC h10, zC h11, zC h13, zC h14, zC h16, trim, -Zd, o12, HH3, HH6]; rfl) ?_))
        simp only [zT, zB]
        refine Zc ?_
        refine Zc ?_
        refine Ze Zh hTb (zR (zO (by simp [zC h5, zC h6, zC h7, zC h15, zC h9, zC h10, zC h11, zC h13, zC h14, zC h16, trim, -Zd, o12, HH3, HH6]; rfl) ?_))
        simp only [zT, zB]
        refine Zs (x := false) (by simp [zC h5, zC h6, zC h7, zC h15, zC h9, zC h10, zC h11, zC h13, zC h14, zC h16, trim, -Zd, o12, HH3, HH6]) ?_
        refine Zx ?_
        simp only [zT, zB]
        refine Zc ?_
        refine Ze Zh hTb (zR (zO (by simp [zC h5, zC h6, zC h7, zC h15, zC h9, zC h10, zC h11, zC h13, zC h14, zC h16, trim, -Zd, o12, HH3, HH6]; rfl) ?_))
        simp only [zT, zB]
        refine Ym ?_
        simp [zC h5, zC h6, zC h7, zC h15, zC h9, zC h10, zC h11, zC h13, zC h14, zC h16, trim, -Zd, o12, HH3, HH6]
theorem law4 (u d : Int) (x y : Za) (its : List It5) (rs : List Rm3) (hx : Zm x = some (its.map rI5)) (hy : Zm y = some (rs.map rM3)) : CAns Tryz.prog GG 4 [.agg [I u, I d], x, y] [] fun v h => v = .bool true := b4 EC4 EC4_ok rfl rfl rfl rfl rfl rfl rfl rfl rfl rfl rfl u d x y its rs hx hy
end
end
end Go.Proofs.YtpebmjeomlgmdaaGreatDoor.Tab
namespace Go.Abs
open Go Go.Proofs Go.RowKit
section
variable {P : Program} {G : Nat → Option (List Za)}
theorem law_callsC {f : Nat} {xs : List Za} {cargs : Array Value} {W : World}
    (hglob : ∀ g r, G g = some r → Abs.VR ρ0 (fun b => b < W.heap.size) W (fun _ => False) (.pv r 0) (.pointer (some ⟨g, 0, none⟩)))
    (hargs : RowR ρ0 W xs cargs.toList) (ha : CAns P G f xs [] fun v _ => v = .bool true) : Calls P f cargs W fun e W' => e = .returned (.bool true) ∧ Below W.heap.size W W' := by
  have hr : Env.HR P G ⟨ρ0, fun _ => False, fun _ => False, fun b => b < W.heap.size⟩ [] W :=
    ⟨fun i b hi => by simp at hi, fun i j b c hi => by simp at hi, fun i hi => hi.elim, fun b hb => hb.elim, fun b hb => ⟨hb, fun h => h⟩, hglob⟩
  have hl : Env.LR ⟨ρ0, fun _ => False, fun _ => False, fun b => b < W.heap.size⟩ W xs cargs :=
    ⟨by simpa using hargs.1, fun j h1 h2 => hargs.2 j _ _ (List.getElem?_eq_getElem h1) (by simp [h2])⟩
  refine (CallsIn.calls (ha _ W cargs 0 hr hl) fun k d hd => by simp at hd).mono ?_
  rintro e W' ⟨v, h', rfl, u, E', rfl, hle, _, hu, _, _⟩
  refine ⟨?_, hle.os, hle.tape, hle.output.1, hle.size, fun b hb => (hle.old b hb fun h => h).1⟩
  have := VR.bool_inv hu
  rw [this]
end
end Go.Abs
namespace Go.Proofs.YtpebmjeomlgmdaaGreatDoor
open Go Go.Abs Go.Proofs Go.ChangeShapes Go.WideShapes Go.ChangeAt Go.RowKit
theorem fits_n0 {xs : List Za} (h : FitsR [] xs) : xs = [] := List.length_eq_zero_iff.1 h.1
theorem fits_z {Ls : List Ly} {xs : List Za} (h : FitsR (.int .i64 :: Ls) xs) : ∃ (a : Int) (ys : List Za), xs = I a :: ys ∧ FitsR Ls ys := by
  obtain ⟨x, ys, rfl, hx, h1⟩ := fitsR_cons h
  obtain ⟨a, rfl, ha⟩ := fits_int hx
  exact ⟨a, ys, rfl, h1⟩
theorem fits_list {α : Type} {enc : α → List Za} {ok : α → Prop} {L : List Ly} {x : Za} (hx : Fits (.sl L) x) (h : ∀ r, FitsR L r → ∃ v, r = enc v ∧ ok v) : ∃ vs : List α, Zm x = some (vs.map enc) ∧ ∀ v ∈ vs, ok v := by
  obtain ⟨rs, hx, hrs⟩ := fits_rows hx
  have hb : ∀ r ∈ rs, ∃ v, r = enc v ∧ ok v := fun r hr => h r (hrs r hr)
  obtain ⟨vs, rfl, hvs⟩ : ∃ vs : List α, rs = vs.map enc ∧ ∀ v ∈ vs, ok v := by
    clear hx hrs
    induction rs with
    | nil => exact ⟨[], rfl, by simp⟩
    | cons r rs ih =>
      obtain ⟨v, rfl, hv⟩ := hb r (by simp)
      obtain ⟨vs, rfl, hvs⟩ := ih fun r hr => hb r (by simp [hr])
      exact ⟨v :: vs, rfl, fun w hw => by
        rcases List.mem_cons.1 hw with rfl | hw
        · exact hv
        · exact hvs w hw⟩
  refine ⟨vs, ?_, hvs⟩
  rcases hx with ⟨rfl, h0⟩ | ⟨t, rfl⟩
  · show some [] = some _
    exact congrArg some h0.symm
  · rfl
theorem fits_r5 {r : List Za} (h : FitsR [.int .i64, .int .i64, .int .i64, .int .i64, .int .i64] r) : ∃ v : Tab.It5, r = Tab.rI5 v ∧ True := by
  obtain ⟨a, ys, rfl, h1⟩ := fits_z h
  obtain ⟨b, ys, rfl, h2⟩ := fits_z h1
  obtain ⟨c, ys, rfl, h3⟩ := fits_z h2
  obtain ⟨d, ys, rfl, h4⟩ := fits_z h3
  obtain ⟨e, ys, rfl, h5⟩ := fits_z h4
  obtain rfl := fits_n0 h5
  exact ⟨(a, b, c, d, e), rfl, trivial⟩
theorem fits_rm {r : List Za} (h : FitsR [.int .i64, .int .i64, .int .i64] r) : ∃ v : Tab.Rm3, r = Tab.rM3 v ∧ True := by
  obtain ⟨a, ys, rfl, h1⟩ := fits_z h
  obtain ⟨b, ys, rfl, h2⟩ := fits_z h1
  obtain ⟨c, ys, rfl, h3⟩ := fits_z h2
  obtain rfl := fits_n0 h3
  exact ⟨(a, b, c), rfl, trivial⟩
theorem fits_rule {r : List Za} (h : FitsR [.int .i64, .int .i64] r) : ∃ a b : Int, r = [I a, I b] := by
  obtain ⟨a, ys, rfl, h1⟩ := fits_z h
  obtain ⟨b, ys, rfl, h2⟩ := fits_z h1
  obtain rfl := fits_n0 h2
  exact ⟨a, b, rfl⟩
end Go.Proofs.YtpebmjeomlgmdaaGreatDoor
