/- Contracts of damp: the law of Explain. No condition. -/
import Derived.Test.YtpebmjeomlgmdaaDoorPzDDx
set_option linter.unusedSimpArgs false
set_option linter.unusedVariables false
namespace Go.Proofs.YtpebmjeomlgmdaaDoor.Tab
open Go Go.Abs Go.Proofs
set_option maxRecDepth 100000
set_option maxHeartbeats 4000000
set_option linter.unusedSimpArgs false
set_option linter.unusedVariables false
noncomputable section
attribute [local simp] Yv Ye Xo Xp YC Yy Xq YJ YV Yp Zf orcF Xj YI Xl Xh YH Yn rb_vl rb_pv Xf YG YF YE Xk Xg Xi rb_sl rb_fn slE XC YX Yd ZG Xs List.range_succ List.range_zero List.range'_succ List.range'_zero ZX ZV Zz ZZ ZJ ZN YZ ZU dop CV.ev Yf Zu ZC YP XX Yg ZS ZE Zq Out.v Xr List.replicate_succ zT zB arI ZF Abs.rowAt Xe allV toV toC ofV ofC Builtin.min_ Builtin.min2 Builtin.max_ Builtin.max2 Xm Xn resA XU Xb ZW Yk Yl Yj Zb
section
attribute [local simp] ZY ZK YL YD XN Xc disj YN XS YO ZO YQ news eqB YU eqA YB YW toCs ofCs stA Ym ZL Yi dI1 dI2 dI3 dI5 elt
attribute [local simp] st_any st_und st_agg st_tup XH st_int XE st_ref st_pv XD st_sl st_vl XF st_mp st_fn XG st_yld co_any co_und co_agg co_tup XM co_int XJ co_ref co_pv XI co_sl co_vl XK co_mp co_fn XL co_yld
attribute [local simp] Yq Zo lop Yr
def mB (cs : Cs) (l : List Nat) (s : Nat) : Bool := l.any fun i => (cM cs i).testBit s
def fB (cs : Cs) (l : List Nat) (se mi s : Nat) : Bool := !(se.testBit s && !mayR cs l s || mi.testBit s && mB cs l s)
theorem explR_fB (cs : Cs) (l : List Nat) (se mi : Nat) : explR cs l se mi = (List.range 12).all (fB cs l se mi) := rfl
theorem mB_succ {cs : Cs} {l : List Nat} {j s : Nat} (h : j < l.length) (hx : l[j] < cs.length) : mB cs (l.take (j + 1)) s = (mB cs (l.take j) s || cs[l[j]].1.testBit s) := by
  unfold mB cM
  rw [List.take_succ_eq_append_getElem h, List.any_append]
  simp only [List.any_cons, List.any_nil, Bool.or_false, List.getD, List.getElem?_eq_getElem hx, Option.getD_some]
theorem mayR_succ {cs : Cs} {l : List Nat} {j s : Nat} (h : j < l.length) (hx : l[j] < cs.length) : mayR cs (l.take (j + 1)) s = (mayR cs (l.take j) s || (cs[l[j]].1.testBit s || cs[l[j]].2.testBit s)) := by
  unfold mayR cM
  rw [List.take_succ_eq_append_getElem h, List.any_append]
  simp only [List.any_cons, List.any_nil, Bool.or_false, List.getD, List.getElem?_eq_getElem hx, Option.getD_some]
@[local simp] theorem mB_nil (cs : Cs) (s : Nat) : mB cs [] s = false := rfl
@[local simp] theorem mayR_nil (cs : Cs) (s : Nat) : mayR cs [] s = false := rfl
def o74 : List Za → Option Za
  | [c, v, .int .i64 se, .int .i64 mi] => match YK c, dNs v with
    | some cs, some l => if l.length ≤ 10 ∧ (∀ x ∈ l, x < cs.length) ∧ (0 ≤ se ∧ se < 4096) ∧ (0 ≤ mi ∧ mi < 4096) then some (.bool (explR cs l se.toNat mi.toNat)) else none
    | _, _ => none
  | _ => none
theorem o74_eq {c v : Za} {cs : Cs} {l : List Nat} (hc : YK c = some cs) (hv : dNs v = some l) (hl : l.length ≤ 10) (hlc : ∀ x ∈ l, x < cs.length) {se mi : Int} (h1 : 0 ≤ se ∧ se < 4096) (h2 : 0 ≤ mi ∧ mi < 4096) : o74 [c, v, I se, I mi] = some (.bool (explR cs l se.toNat mi.toNat)) := by
  simp only [o74, hc, hv]; rw [if_pos ⟨hl, hlc, h1, h2⟩]
theorem a74 (P : Program) (T : Nat → Option CFn) (hT : T 74 = some c74) (cs : Cs) (c v : Za) (l : List Nat) (hc : YK c = some cs) (hv : dNs v = some l) (hl : l.length ≤ 10) (hlc : ∀ x ∈ l, x < cs.length) (se mi : Nat) (h1 : se < 4096) (h2 : mi < 4096) : Zn P T 74 [c, v, I (se : Nat), I (mi : Nat)] [] fun v h => frz true h 5 v = some (.bool (explR cs l se mi)) := by
 have lv := dNs_len hv
 obtain ⟨hx, hbc⟩ := XR hc
 have lx := Zw hx
 rw [List.length_map] at lx
 refine Zj hT (Zk rfl) ?_
 simp only [oo, om, op, og, ci, cl, c74]
 refine zS ?_
 refine zR (zO (by simp [lv, lx, -Zb]; rfl) ?_)
 simp only [zT, zB]
 refine zS ?_
 refine zS ?_
 refine zR (zO (by simp [lv, lx, -Zb]; rfl) ?_)
 simp only [zT, zB]
 refine zL ?_
 refine Zy (fun m σ => ∃ (i : Nat) (K : Int), K = i ∧ 12 - i = m ∧ i ≤ 12 ∧ (∀ s < i, fB cs l se mi s = true) ∧ σ = ⟨[c, v, I (se : Nat), I (mi : Nat), .any, .any, .any, .any, .any, I K, .any, .any, .any, .any, .any, .any, .any, .any, .any, .any, .any, .any, .any, .any, .any, .any, .any, .any, .any, .any, .any, .any, .any, .any, .any, .any, .any, .any, .any, .any, .any, .any, .any, .any, .any, .any, .any, .any, .any, .any, .any, .any, .any, .any, .any, .any, .any, .any, .any, .any, .any, .any, .any, .any, .any, .any, .any, .any, .any, .any, .any, .any, .any, .any, .any, .any, .any, .any, .any, .any, .any], []⟩) ?_ 12 _ ⟨0, 0, rfl, rfl, by omega, (fun s h => absurd h (by omega)), by simp⟩
 rintro m σ ⟨i, K, hK, rfl, hil, hR, rfl⟩
 refine zS ?_
 refine zS ?_
 refine zR (zO (by simp [lv, lx, -Zb]; rfl) ?_)
 simp only [zT, zB]
 refine Ze (x := decide (K < 12)) (by simp) (fun hlt => ?_) (fun hlt => ?_)
 ·have hlt := of_decide_eq_true hlt
  have hi12 : i < 12 := by omega
  have h0m : mB cs [] i = false := rfl
  have h0y : mayR cs [] i = false := rfl
  refine zK ?_
  simp only [zT, zB]
  refine zS ?_
  refine zL ?_
  refine zS ?_
  refine zR (zO (by simp [lv, lx, -Zb, h0m, h0y]; rfl) ?_)
  simp only [zT, zB]
  refine zS ?_
  refine zS ?_
  refine zR (zO (by simp [lv, lx, -Zb, h0m, h0y]; rfl) ?_)
  simp only [zT, zB]
  refine zL ?_
  refine Zy (fun n σ => ∃ (j : Nat) (J : Int), J = j ∧ l.length - j = n ∧ j ≤ l.length ∧ σ = ⟨[c, v, I (se : Nat), I (mi : Nat), .any, .any, .any, .any, .any, I K, .bool (mB cs (l.take j) i), .bool (mayR cs (l.take j) i), I J, .any, .any, .any, .any, .any, .any, .any, .any, .any, .any, .any, .any, .any, .any, .any, .any, .any, .any, .any, .any, .any, .any, .any, .any, .any, .any, .any, .any, .any, .any, .any, .any, .any, .any, .any, .any, .any, .any, .any, .any, .any, .any, .any, .any, .any, .any, .any, .any, .any, .any, .any, .any, .any, .any, .any, .any, .any, .any, .any, .any, .any, .any, .any, .any, .any, .any, .any, .any], []⟩) ?_ (l.length - 0) _ ⟨0, 0, rfl, rfl, Nat.zero_le _, by simp⟩
  rintro n σ ⟨j, J, hij, rfl, hjl, rfl⟩
  refine zS ?_
  refine zS ?_
  refine zR (zO (by simp [lv, lx, -Zb, h0m, h0y]; rfl) ?_)
  simp only [zT, zB]
  refine Ze (x := decide (J < (l.length : Int))) (by simp) (fun hlj => ?_) (fun hlj => ?_)
  ·have hlj := of_decide_eq_true hlj
   have hj0 : j < l.length := by omega
   obtain ⟨t1, rfl⟩ := dNs_get hv hj0
   have hxl : l[j] < cs.length := hlc _ (List.getElem_mem hj0)
   obtain ⟨t2, rfl⟩ := Yz hx (k := l[j]) (by simpa using hxl)
   have hJ0 : 0 ≤ J := by omega
   have htJ : J.toNat = j := by omega
   have hwJ : W .i64 (J + 1) = J + 1 := ZD (by omega)
   have g1 : (l.map rN)[j]? = some (rN l[j]) := by rw [List.getElem?_map, List.getElem?_eq_getElem hj0]; rfl
   have g2 : ∀ h, (l.map rN)[j]'h = rN l[j] := fun h => by simp
   have g3 : (cs.map rC)[l[j]]? = some (rC cs[l[j]]) := by rw [List.getElem?_map, List.getElem?_eq_getElem hxl]; rfl
   have g4 : ∀ (h : l[j] < (cs.map rC).length), (cs.map rC)[l[j]]'h = rC cs[l[j]] := fun h => by simp
   have hbd := hbc _ (List.getElem_mem hxl)
   have m1 := mB_succ (s := i) hj0 hxl
   have m2 := mayR_succ (s := i) hj0 hxl
   generalize cs[l[j]] = u at *
   generalize l[j] = x at *
   generalize mB cs (l.take j) i = B1 at *
   generalize mayR cs (l.take j) i = B2 at *
   obtain ⟨u1, u2⟩ := u
   simp only at hbd m1 m2
   have hwi : W .u64 K = (i : Int) := by rw [hK]; exact W_u (by omega)
   have shu : shI .shr .i64 ((u1 : Nat) : Int) ((i : Nat) : Int) = some (.int .i64 ((u1 >>> i : Nat) : Int)) := shr_u (by omega) .i64 rfl
   have anu : arI .and .i64 ((u1 >>> i : Nat) : Int) 1 = some (.int .i64 ((u1 >>> i &&& 1 : Nat) : Int)) := and_i (a := u1 >>> i) (b := 1) (Nat.lt_of_le_of_lt (Nat.shiftRight_le u1 i) (by omega)) (by omega)
   have btu := bit_oneI u1 i
   generalize ((u1 >>> i &&& 1 : Nat) : Int) = yu at *
   generalize ((u1 >>> i : Nat) : Int) = zu at *
   generalize u1.testBit i = bu at *
   have shv : shI .shr .i64 ((u2 : Nat) : Int) ((i : Nat) : Int) = some (.int .i64 ((u2 >>> i : Nat) : Int)) := shr_u (by omega) .i64 rfl
   have anv : arI .and .i64 ((u2 >>> i : Nat) : Int) 1 = some (.int .i64 ((u2 >>> i &&& 1 : Nat) : Int)) := and_i (a := u2 >>> i) (b := 1) (Nat.lt_of_le_of_lt (Nat.shiftRight_le u2 i) (by omega)) (by omega)
   have btv := bit_oneI u2 i
   generalize ((u2 >>> i &&& 1 : Nat) : Int) = yv at *
   generalize ((u2 >>> i : Nat) : Int) = zv at *
   generalize u2.testBit i = bv at *
   cases B1 <;> cases B2 <;> cases bu <;> cases bv
   ·have HH1 := zA lv (zA lx (zA h0m (zA h0y (zA hJ0 (zA htJ (zA hj0 (zA hwJ (zA g1 (zA g2 (zA g3 (zA g4 (zA hwi (zA btu (zA btv hxl))))))))))))))
    refine zK ?_
    simp only [zT, zB]
    refine zS ?_
    refine zL ?_
    refine zS ?_
    refine zR (zO (by simp [-Zb, rN, rC, ↓shu, ↓anu, ↓shv, ↓anv, -List.getElem?_map, -List.getElem_map, HH1]; rfl) ?_)
    simp only [zT, zB]
    refine zS ?_
    refine zR (zO (by simp [-Zb, rN, rC, ↓shu, ↓anu, ↓shv, ↓anv, -List.getElem?_map, -List.getElem_map, HH1]; rfl) ?_)
    simp only [zT, zB]
    refine zR (zO (by simp [-Zb, rN, rC, ↓shu, ↓anu, ↓shv, ↓anv, -List.getElem?_map, -List.getElem_map, HH1]; rfl) ?_)
    simp only [zT, zB]
    refine zR (zO (by simp [-Zb, rN, rC, ↓shu, ↓anu, ↓shv, ↓anv, -List.getElem?_map, -List.getElem_map, HH1]; rfl) ?_)
    simp only [zT, zB]
    exact ⟨l.length - (j + 1), by omega, j + 1, J + 1, by omega, rfl, by omega, by simp [-Zb, rN, rC, ↓shu, ↓anu, ↓shv, ↓anv, -List.getElem?_map, -List.getElem_map, HH1, m1, m2]⟩
   ·have HH2 := zA lv (zA lx (zA h0m (zA h0y (zA hJ0 (zA htJ (zA hj0 (zA hwJ (zA g1 (zA g2 (zA g3 (zA g4 (zA hwi (zA btu (zA btv hxl))))))))))))))
    refine zK ?_
    simp only [zT, zB]
    refine zS ?_
    refine zL ?_
    refine zS ?_
    refine zR (zO (by simp [-Zb, rN, rC, ↓shu, ↓anu, ↓shv, ↓anv, -List.getElem?_map, -List.getElem_map, HH2]; rfl) ?_)
    simp only [zT, zB]
    refine zS ?_
    refine zR (zO (by simp [-Zb, rN, rC, ↓shu, ↓anu, ↓shv, ↓anv, -List.getElem?_map, -List.getElem_map, HH2]; rfl) ?_)
    simp only [zT, zB]
    refine zR (zO (by simp [-Zb, rN, rC, ↓shu, ↓anu, ↓shv, ↓anv, -List.getElem?_map, -List.getElem_map, HH2]; rfl) ?_)
    simp only [zT, zB]
    refine zR (zO (by simp [-Zb, rN, rC, ↓shu, ↓anu, ↓shv, ↓anv, -List.getElem?_map, -List.getElem_map, HH2]; rfl) ?_)
    simp only [zT, zB]
    exact ⟨l.length - (j + 1), by omega, j + 1, J + 1, by omega, rfl, by omega, by simp [-Zb, rN, rC, ↓shu, ↓anu, ↓shv, ↓anv, -List.getElem?_map, -List.getElem_map, HH2, m1, m2]⟩
   ·have HH3 := zA lv (zA lx (zA h0m (zA h0y (zA hJ0 (zA htJ (zA hj0 (zA hwJ (zA g1 (zA g2 (zA g3 (zA g4 (zA hwi (zA btu (zA btv hxl))))))))))))))
    refine zK ?_
    simp only [zT, zB]
    refine zS ?_
    refine zL ?_
    refine zS ?_
    refine zR (zO (by simp [-Zb, rN, rC, ↓shu, ↓anu, ↓shv, ↓anv, -List.getElem?_map, -List.getElem_map, HH3]; rfl) ?_)
    simp only [zT, zB]
    refine zS ?_
    refine zR (zO (by simp [-Zb, rN, rC, ↓shu, ↓anu, ↓shv, ↓anv, -List.getElem?_map, -List.getElem_map, HH3]; rfl) ?_)
    simp only [zT, zB]
    refine zR (zO (by simp [-Zb, rN, rC, ↓shu, ↓anu, ↓shv, ↓anv, -List.getElem?_map, -List.getElem_map, HH3]; rfl) ?_)
    simp only [zT, zB]
    refine zR (zO (by simp [-Zb, rN, rC, ↓shu, ↓anu, ↓shv, ↓anv, -List.getElem?_map, -List.getElem_map, HH3]; rfl) ?_)
    simp only [zT, zB]
    exact ⟨l.length - (j + 1), by omega, j + 1, J + 1, by omega, rfl, by omega, by simp [-Zb, rN, rC, ↓shu, ↓anu, ↓shv, ↓anv, -List.getElem?_map, -List.getElem_map, HH3, m1, m2]⟩
   ·have HH4 := zA lv (zA lx (zA h0m (zA h0y (zA hJ0 (zA htJ (zA hj0 (zA hwJ (zA g1 (zA g2 (zA g3 (zA g4 (zA hwi (zA btu (zA btv hxl))))))))))))))
    refine zK ?_
    simp only [zT, zB]
    refine zS ?_
    refine zL ?_
    refine zS ?_
    refine zR (zO (by simp [-Zb, rN, rC, ↓shu, ↓anu, ↓shv, ↓anv, -List.getElem?_map, -List.getElem_map, HH4]; rfl) ?_)
    simp only [zT, zB]
    refine zS ?_
    refine zR (zO (by simp [-Zb, rN, rC, ↓shu, ↓anu, ↓shv, ↓anv, -List.getElem?_map, -List.getElem_map, HH4]; rfl) ?_)
    simp only [zT, zB]
    refine zR (zO (by simp [-Zb, rN, rC, ↓shu, ↓anu, ↓shv, ↓anv, -List.getElem?_map, -List.getElem_map, HH4]; rfl) ?_)
    simp only [zT, zB]
    refine zR (zO (by simp [-Zb, rN, rC, ↓shu, ↓anu, ↓shv, ↓anv, -List.getElem?_map, -List.getElem_map, HH4]; rfl) ?_)
    simp only [zT, zB]
    exact ⟨l.length - (j + 1), by omega, j + 1, J + 1, by omega, rfl, by omega, by simp [-Zb, rN, rC, ↓shu, ↓anu, ↓shv, ↓anv, -List.getElem?_map, -List.getElem_map, HH4, m1, m2]⟩
   ·have HH5 := zA lv (zA lx (zA h0m (zA h0y (zA hJ0 (zA htJ (zA hj0 (zA hwJ (zA g1 (zA g2 (zA g3 (zA g4 (zA hwi (zA btu (zA btv hxl))))))))))))))
    refine zK ?_
    simp only [zT, zB]
    refine zS ?_
    refine zL ?_
    refine zS ?_
    refine zR (zO (by simp [-Zb, rN, rC, ↓shu, ↓anu, ↓shv, ↓anv, -List.getElem?_map, -List.getElem_map, HH5]; rfl) ?_)
    simp only [zT, zB]
    refine zS ?_
    refine zR (zO (by simp [-Zb, rN, rC, ↓shu, ↓anu, ↓shv, ↓anv, -List.getElem?_map, -List.getElem_map, HH5]; rfl) ?_)
    simp only [zT, zB]
    refine zR (zO (by simp [-Zb, rN, rC, ↓shu, ↓anu, ↓shv, ↓anv, -List.getElem?_map, -List.getElem_map, HH5]; rfl) ?_)
    simp only [zT, zB]
    refine zR (zO (by simp [-Zb, rN, rC, ↓shu, ↓anu, ↓shv, ↓anv, -List.getElem?_map, -List.getElem_map, HH5]; rfl) ?_)
    simp only [zT, zB]
    exact ⟨l.length - (j + 1), by omega, j + 1, J + 1, by omega, rfl, by omega, by simp [-Zb, rN, rC, ↓shu, ↓anu, ↓shv, ↓anv, -List.getElem?_map, -List.getElem_map, HH5, m1, m2]⟩
   ·have HH6 := zA lv (zA lx (zA h0m (zA h0y (zA hJ0 (zA htJ (zA hj0 (zA hwJ (zA g1 (zA g2 (zA g3 (zA g4 (zA hwi (zA btu (zA btv hxl))))))))))))))
    refine zK ?_
    simp only [zT, zB]
    refine zS ?_
    refine zL ?_
    refine zS ?_
    refine zR (zO (by simp [-Zb, rN, rC, ↓shu, ↓anu, ↓shv, ↓anv, -List.getElem?_map, -List.getElem_map, HH6]; rfl) ?_)
    simp only [zT, zB]
    refine zS ?_
    refine zR (zO (by simp [-Zb, rN, rC, ↓shu, ↓anu, ↓shv, ↓anv, -List.getElem?_map, -List.getElem_map, HH6]; rfl) ?_)
    simp only [zT, zB]
    refine zR (zO (by simp [-Zb, rN, rC, ↓shu, ↓anu, ↓shv, ↓anv, -List.getElem?_map, -List.getElem_map, HH6]; rfl) ?_)
    simp only [zT, zB]
    refine zR (zO (by simp [-Zb, rN, rC, ↓shu, ↓anu, ↓shv, ↓anv, -List.getElem?_map, -List.getElem_map, HH6]; rfl) ?_)
    simp only [zT, zB]
    exact ⟨l.length - (j + 1), by omega, j + 1, J + 1, by omega, rfl, by omega, by simp [-Zb, rN, rC, ↓shu, ↓anu, ↓shv, ↓anv, -List.getElem?_map, -List.getElem_map, HH6, m1, m2]⟩
   ·have HH7 := zA lv (zA lx (zA h0m (zA h0y (zA hJ0 (zA htJ (zA hj0 (zA hwJ (zA g1 (zA g2 (zA g3 (zA g4 (zA hwi (zA btu (zA btv hxl))))))))))))))
    refine zK ?_
    simp only [zT, zB]
    refine zS ?_
    refine zL ?_
    refine zS ?_
    refine zR (zO (by simp [-Zb, rN, rC, ↓shu, ↓anu, ↓shv, ↓anv, -List.getElem?_map, -List.getElem_map, HH7]; rfl) ?_)
    simp only [zT, zB]
    refine zS ?_
    refine zR (zO (by simp [-Zb, rN, rC, ↓shu, ↓anu, ↓shv, ↓anv, -List.getElem?_map, -List.getElem_map, HH7]; rfl) ?_)
    simp only [zT, zB]
    refine zR (zO (by simp [-Zb, rN, rC, ↓shu, ↓anu, ↓shv, ↓anv, -List.getElem?_map, -List.getElem_map, HH7]; rfl) ?_)
    simp only [zT, zB]
    refine zR (zO (by simp [-Zb, rN, rC, ↓shu, ↓anu, ↓shv, ↓anv, -List.getElem?_map, -List.getElem_map, HH7]; rfl) ?_)
    simp only [zT, zB]
    exact ⟨l.length - (j + 1), by omega, j + 1, J + 1, by omega, rfl, by omega, by simp [-Zb, rN, rC, ↓shu, ↓anu, ↓shv, ↓anv, -List.getElem?_map, -List.getElem_map, HH7, m1, m2]⟩
   ·have HH8 := zA lv (zA lx (zA h0m (zA h0y (zA hJ0 (zA htJ (zA hj0 (zA hwJ (zA g1 (zA g2 (zA g3 (zA g4 (zA hwi (zA btu (zA btv hxl))))))))))))))
    refine zK ?_
    simp only [zT, zB]
    refine zS ?_
    refine zL ?_
    refine zS ?_
    refine zR (zO (by simp [-Zb, rN, rC, ↓shu, ↓anu, ↓shv, ↓anv, -List.getElem?_map, -List.getElem_map, HH8]; rfl) ?_)
    simp only [zT, zB]
    refine zS ?_
    refine zR (zO (by simp [-Zb, rN, rC, ↓shu, ↓anu, ↓shv, ↓anv, -List.getElem?_map, -List.getElem_map, HH8]; rfl) ?_)
    simp only [zT, zB]
    refine zR (zO (by simp [-Zb, rN, rC, ↓shu, ↓anu, ↓shv, ↓anv, -List.getElem?_map, -List.getElem_map, HH8]; rfl) ?_)
    simp only [zT, zB]
    refine zR (zO (by simp [-Zb, rN, rC, ↓shu, ↓anu, ↓shv, ↓anv, -List.getElem?_map, -List.getElem_map, HH8]; rfl) ?_)
    simp only [zT, zB]
    exact ⟨l.length - (j + 1), by omega, j + 1, J + 1, by omega, rfl, by omega, by simp [-Zb, rN, rC, ↓shu, ↓anu, ↓shv, ↓anv, -List.getElem?_map, -List.getElem_map, HH8, m1, m2]⟩
   ·have HH9 := zA lv (zA lx (zA h0m (zA h0y (zA hJ0 (zA htJ (zA hj0 (zA hwJ (zA g1 (zA g2 (zA g3 (zA g4 (zA hwi (zA btu (zA btv hxl))))))))))))))
    refine zK ?_
    simp only [zT, zB]
    refine zS ?_
    refine zL ?_
    refine zS ?_
    refine zR (zO (by simp [-Zb, rN, rC, ↓shu, ↓anu, ↓shv, ↓anv, -List.getElem?_map, -List.getElem_map, HH9]; rfl) ?_)
    simp only [zT, zB]
    refine zS ?_
    refine zR (zO (by simp [-Zb, rN, rC, ↓shu, ↓anu, ↓shv, ↓anv, -List.getElem?_map, -List.getElem_map, HH9]; rfl) ?_)
    simp only [zT, zB]
    refine zR (zO (by simp [-Zb, rN, rC, ↓shu, ↓anu, ↓shv, ↓anv, -List.getElem?_map, -List.getElem_map, HH9]; rfl) ?_)
    simp only [zT, zB]
    refine zR (zO (by simp [-Zb, rN, rC, ↓shu, ↓anu, ↓shv, ↓anv, -List.getElem?_map, -List.getElem_map, HH9]; rfl) ?_)
    simp only [zT, zB]
    exact ⟨l.length - (j + 1), by omega, j + 1, J + 1, by omega, rfl, by omega, by simp [-Zb, rN, rC, ↓shu, ↓anu, ↓shv, ↓anv, -List.getElem?_map, -List.getElem_map, HH9, m1, m2]⟩
   ·have HH10 := zA lv (zA lx (zA h0m (zA h0y (zA hJ0 (zA htJ (zA hj0 (zA hwJ (zA g1 (zA g2 (zA g3 (zA g4 (zA hwi (zA btu (zA btv hxl))))))))))))))
    refine zK ?_
    simp only [zT, zB]
    refine zS ?_
    refine zL ?_
    refine zS ?_
    refine zR (zO (by simp [-Zb, rN, rC, ↓shu, ↓anu, ↓shv, ↓anv, -List.getElem?_map, -List.getElem_map, HH10]; rfl) ?_)
    simp only [zT, zB]
    refine zS ?_
    refine zR (zO (by simp [-Zb, rN, rC, ↓shu, ↓anu, ↓shv, ↓anv, -List.getElem?_map, -List.getElem_map, HH10]; rfl) ?_)
    simp only [zT, zB]
    refine zR (zO (by simp [-Zb, rN, rC, ↓shu, ↓anu, ↓shv, ↓anv, -List.getElem?_map, -List.getElem_map, HH10]; rfl) ?_)
    simp only [zT, zB]
    refine zR (zO (by simp [-Zb, rN, rC, ↓shu, ↓anu, ↓shv, ↓anv, -List.getElem?_map, -List.getElem_map, HH10]; rfl) ?_)
    simp only [zT, zB]
    exact ⟨l.length - (j + 1), by omega, j + 1, J + 1, by omega, rfl, by omega, by simp [-Zb, rN, rC, ↓shu, ↓anu, ↓shv, ↓anv, -List.getElem?_map, -List.getElem_map, HH10, m1, m2]⟩
   ·have HH11 := zA lv (zA lx (zA h0m (zA h0y (zA hJ0 (zA htJ (zA hj0 (zA hwJ (zA g1 (zA g2 (zA g3 (zA g4 (zA hwi (zA btu (zA btv hxl))))))))))))))
    refine zK ?_
    simp only [zT, zB]
    refine zS ?_
    refine zL ?_
    refine zS ?_
    refine zR (zO (by simp [-Zb, rN, rC, ↓shu, ↓anu, ↓shv, ↓anv, -List.getElem?_map, -List.getElem_map, HH11]; rfl) ?_)
    simp only [zT, zB]
    refine zS ?_
    refine zR (zO (by simp [-Zb, rN, rC, ↓shu, ↓anu, ↓shv, ↓anv, -List.getElem?_map, -List.getElem_map, HH11]; rfl) ?_)
    simp only [zT, zB]
    refine zR (zO (by simp [-Zb, rN, rC, ↓shu, ↓anu, ↓shv, ↓anv, -List.getElem?_map, -List.getElem_map, HH11]; rfl) ?_)
    simp only [zT, zB]
    refine zR (zO (by simp [-Zb, rN, rC, ↓shu, ↓anu, ↓shv, ↓anv, -List.getElem?_map, -List.getElem_map, HH11]; rfl) ?_)
    simp only [zT, zB]
    exact ⟨l.length - (j + 1), by omega, j + 1, J + 1, by omega, rfl, by omega, by simp [-Zb, rN, rC, ↓shu, ↓anu, ↓shv, ↓anv, -List.getElem?_map, -List.getElem_map, HH11, m1, m2]⟩
   ·have HH12 := zA lv (zA lx (zA h0m (zA h0y (zA hJ0 (zA htJ (zA hj0 (zA hwJ (zA g1 (zA g2 (zA g3 (zA g4 (zA hwi (zA btu (zA btv hxl))))))))))))))
    refine zK ?_
    simp only [zT, zB]
    refine zS ?_
    refine zL ?_
    refine zS ?_
    refine zR (zO (by simp [-Zb, rN, rC, ↓shu, ↓anu, ↓shv, ↓anv, -List.getElem?_map, -List.getElem_map, HH12]; rfl) ?_)
    simp only [zT, zB]
    refine zS ?_
    refine zR (zO (by simp [-Zb, rN, rC, ↓shu, ↓anu, ↓shv, ↓anv, -List.getElem?_map, -List.getElem_map, HH12]; rfl) ?_)
    simp only [zT, zB]
    refine zR (zO (by simp [-Zb, rN, rC, ↓shu, ↓anu, ↓shv, ↓anv, -List.getElem?_map, -List.getElem_map, HH12]; rfl) ?_)
    simp only [zT, zB]
    refine zR (zO (by simp [-Zb, rN, rC, ↓shu, ↓anu, ↓shv, ↓anv, -List.getElem?_map, -List.getElem_map, HH12]; rfl) ?_)
    simp only [zT, zB]
    exact ⟨l.length - (j + 1), by omega, j + 1, J + 1, by omega, rfl, by omega, by simp [-Zb, rN, rC, ↓shu, ↓anu, ↓shv, ↓anv, -List.getElem?_map, -List.getElem_map, HH12, m1, m2]⟩
   ·have HH13 := zA lv (zA lx (zA h0m (zA h0y (zA hJ0 (zA htJ (zA hj0 (zA hwJ (zA g1 (zA g2 (zA g3 (zA g4 (zA hwi (zA btu (zA btv hxl))))))))))))))
    refine zK ?_
    simp only [zT, zB]
    refine zS ?_
    refine zL ?_
    refine zS ?_
    refine zR (zO (by simp [-Zb, rN, rC, ↓shu, ↓anu, ↓shv, ↓anv, -List.getElem?_map, -List.getElem_map, HH13]; rfl) ?_)
    simp only [zT, zB]
    refine zS ?_
    refine zR (zO (by simp [-Zb, rN, rC, ↓shu, ↓anu, ↓shv, ↓anv, -List.getElem?_map, -List.getElem_map, HH13]; rfl) ?_)
    simp only [zT, zB]
    refine zR (zO (by simp [-Zb, rN, rC, ↓shu, ↓anu, ↓shv, ↓anv, -List.getElem?_map, -List.getElem_map, HH13]; rfl) ?_)
    simp only [zT, zB]
    refine zR (zO (by simp [-Zb, rN, rC, ↓shu, ↓anu, ↓shv, ↓anv, -List.getElem?_map, -List.getElem_map, HH13]; rfl) ?_)
    simp only [zT, zB]
    exact ⟨l.length - (j + 1), by omega, j + 1, J + 1, by omega, rfl, by omega, by simp [-Zb, rN, rC, ↓shu, ↓anu, ↓shv, ↓anv, -List.getElem?_map, -List.getElem_map, HH13, m1, m2]⟩
   ·have HH14 := zA lv (zA lx (zA h0m (zA h0y (zA hJ0 (zA htJ (zA hj0 (zA hwJ (zA g1 (zA g2 (zA g3 (zA g4 (zA hwi (zA btu (zA btv hxl))))))))))))))
    refine zK ?_
    simp only [zT, zB]
    refine zS ?_
    refine zL ?_
    refine zS ?_
    refine zR (zO (by simp [-Zb, rN, rC, ↓shu, ↓anu, ↓shv, ↓anv, -List.getElem?_map, -List.getElem_map, HH14]; rfl) ?_)
    simp only [zT, zB]
    refine zS ?_
    refine zR (zO (by simp [-Zb, rN, rC, ↓shu, ↓anu, ↓shv, ↓anv, -List.getElem?_map, -List.getElem_map, HH14]; rfl) ?_)
    simp only [zT, zB]
    refine zR (zO (by simp [-Zb, rN, rC, ↓shu, ↓anu, ↓shv, ↓anv, -List.getElem?_map, -List.getElem_map, HH14]; rfl) ?_)
    simp only [zT, zB]
    refine zR (zO (by simp [-Zb, rN, rC, ↓shu, ↓anu, ↓shv, ↓anv, -List.getElem?_map, -List.getElem_map, HH14]; rfl) ?_)
    simp only [zT, zB]
    exact ⟨l.length - (j + 1), by omega, j + 1, J + 1, by omega, rfl, by omega, by simp [-Zb, rN, rC, ↓shu, ↓anu, ↓shv, ↓anv, -List.getElem?_map, -List.getElem_map, HH14, m1, m2]⟩
   ·have HH15 := zA lv (zA lx (zA h0m (zA h0y (zA hJ0 (zA htJ (zA hj0 (zA hwJ (zA g1 (zA g2 (zA g3 (zA g4 (zA hwi (zA btu (zA btv hxl))))))))))))))
    refine zK ?_
    simp only [zT, zB]
    refine zS ?_
    refine zL ?_
    refine zS ?_
    refine zR (zO (by simp [-Zb, rN, rC, ↓shu, ↓anu, ↓shv, ↓anv, -List.getElem?_map, -List.getElem_map, HH15]; rfl) ?_)
    simp only [zT, zB]
    refine zS ?_
    refine zR (zO (by simp [-Zb, rN, rC, ↓shu, ↓anu, ↓shv, ↓anv, -List.getElem?_map, -List.getElem_map, HH15]; rfl) ?_)
    simp only [zT, zB]
    refine zR (zO (by simp [-Zb, rN, rC, ↓shu, ↓anu, ↓shv, ↓anv, -List.getElem?_map, -List.getElem_map, HH15]; rfl) ?_)
    simp only [zT, zB]
    refine zR (zO (by simp [-Zb, rN, rC, ↓shu, ↓anu, ↓shv, ↓anv, -List.getElem?_map, -List.getElem_map, HH15]; rfl) ?_)
    simp only [zT, zB]
    exact ⟨l.length - (j + 1), by omega, j + 1, J + 1, by omega, rfl, by omega, by simp [-Zb, rN, rC, ↓shu, ↓anu, ↓shv, ↓anv, -List.getElem?_map, -List.getElem_map, HH15, m1, m2]⟩
   ·have HH16 := zA lv (zA lx (zA h0m (zA h0y (zA hJ0 (zA htJ (zA hj0 (zA hwJ (zA g1 (zA g2 (zA g3 (zA g4 (zA hwi (zA btu (zA btv hxl))))))))))))))
    refine zK ?_
    simp only [zT, zB]
    refine zS ?_
    refine zL ?_
    refine zS ?_
    refine zR (zO (by simp [-Zb, rN, rC, ↓shu, ↓anu, ↓shv, ↓anv, -List.getElem?_map, -List.getElem_map, HH16]; rfl) ?_)
    simp only [zT, zB]
    refine zS ?_
    refine zR (zO (by simp [-Zb, rN, rC, ↓shu, ↓anu, ↓shv, ↓anv, -List.getElem?_map, -List.getElem_map, HH16]; rfl) ?_)
    simp only [zT, zB]
    refine zR (zO (by simp [-Zb, rN, rC, ↓shu, ↓anu, ↓shv, ↓anv, -List.getElem?_map, -List.getElem_map, HH16]; rfl) ?_)
    simp only [zT, zB]
    refine zR (zO (by simp [-Zb, rN, rC, ↓shu, ↓anu, ↓shv, ↓anv, -List.getElem?_map, -List.getElem_map, HH16]; rfl) ?_)
    simp only [zT, zB]
    exact ⟨l.length - (j + 1), by omega, j + 1, J + 1, by omega, rfl, by omega, by simp [-Zb, rN, rC, ↓shu, ↓anu, ↓shv, ↓anv, -List.getElem?_map, -List.getElem_map, HH16, m1, m2]⟩
  ·have hlj := of_decide_eq_false hlj
   obtain rfl : j = l.length := by omega
   rw [List.take_length]
   have hwi : W .u64 K = (i : Int) := by rw [hK]; exact W_u (by omega)
   have hwI : W .i64 (K + 1) = K + 1 := ZD (by omega)
   have hF : fB cs l se mi i = !(se.testBit i && !mayR cs l i || mi.testBit i && mB cs l i) := rfl
   have hall : fB cs l se mi i = false → explR cs l se mi = false := fun h => by
    rw [explR_fB, List.all_eq_false]; exact ⟨i, List.mem_range.2 hi12, by simp [h]⟩
   generalize hff : fB cs l se mi i = ff at *
   generalize mB cs l i = B1 at *
   generalize mayR cs l i = B2 at *
   have shu : shI .shr .i64 ((se : Nat) : Int) ((i : Nat) : Int) = some (.int .i64 ((se >>> i : Nat) : Int)) := shr_u (by omega) .i64 rfl
   have anu : arI .and .i64 ((se >>> i : Nat) : Int) 1 = some (.int .i64 ((se >>> i &&& 1 : Nat) : Int)) := and_i (a := se >>> i) (b := 1) (Nat.lt_of_le_of_lt (Nat.shiftRight_le se i) (by omega)) (by omega)
   have btu := bit_oneI se i
   generalize ((se >>> i &&& 1 : Nat) : Int) = yu at *
   generalize ((se >>> i : Nat) : Int) = zu at *
   generalize se.testBit i = bu at *
   have shv : shI .shr .i64 ((mi : Nat) : Int) ((i : Nat) : Int) = some (.int .i64 ((mi >>> i : Nat) : Int)) := shr_u (by omega) .i64 rfl
   have anv : arI .and .i64 ((mi >>> i : Nat) : Int) 1 = some (.int .i64 ((mi >>> i &&& 1 : Nat) : Int)) := and_i (a := mi >>> i) (b := 1) (Nat.lt_of_le_of_lt (Nat.shiftRight_le mi i) (by omega)) (by omega)
   have btv := bit_oneI mi i
   generalize ((mi >>> i &&& 1 : Nat) : Int) = yv at *
   generalize ((mi >>> i : Nat) : Int) = zv at *
   generalize mi.testBit i = bv at *
   cases B1 <;> cases B2 <;> cases bu <;> cases bv
   ·have HH17 := zA lv (zA lx (zA h0m (zA h0y (zA hwi (zA hwI (zA btu btv))))))
    refine Zl ?_
    simp only [zT, zB, if_true, if_false, reduceIte, Nat.reduceEqDiff, Nat.succ_ne_zero, Nat.one_ne_zero, Nat.zero_ne_one]
    refine zS ?_
    refine zR (zO (by simp [-Zb, ↓shu, ↓anu, ↓shv, ↓anv, HH17]; rfl) ?_)
    simp only [zT, zB]
    refine Zc (x := false) (by simp) ?_
    refine zK ?_
    simp only [zT, zB]
    refine zR (zO (by simp [-Zb, ↓shu, ↓anu, ↓shv, ↓anv, HH17]; rfl) ?_)
    simp only [zT, zB]
    exact ⟨12 - (i + 1), by omega, i + 1, K + 1, by omega, rfl, by omega, (fun s hs => if e : s = i then by rw [e, hff, hF]; rfl else hR s (by omega)), by simp [-Zb, ↓shu, ↓anu, ↓shv, ↓anv, HH17]⟩
   ·have HH18 := zA lv (zA lx (zA h0m (zA h0y (zA hwi (zA hwI (zA btu btv))))))
    refine Zl ?_
    simp only [zT, zB, if_true, if_false, reduceIte, Nat.reduceEqDiff, Nat.succ_ne_zero, Nat.one_ne_zero, Nat.zero_ne_one]
    refine zS ?_
    refine zR (zO (by simp [-Zb, ↓shu, ↓anu, ↓shv, ↓anv, HH18]; rfl) ?_)
    simp only [zT, zB]
    refine Zc (x := false) (by simp) ?_
    refine zK ?_
    simp only [zT, zB]
    refine zR (zO (by simp [-Zb, ↓shu, ↓anu, ↓shv, ↓anv, HH18]; rfl) ?_)
    simp only [zT, zB]
    exact ⟨12 - (i + 1), by omega, i + 1, K + 1, by omega, rfl, by omega, (fun s hs => if e : s = i then by rw [e, hff, hF]; rfl else hR s (by omega)), by simp [-Zb, ↓shu, ↓anu, ↓shv, ↓anv, HH18]⟩
   ·have HH19 := zA lv (zA lx (zA h0m (zA h0y (zA hwi (zA hwI (zA btu btv))))))
    refine Zl ?_
    simp only [zT, zB, if_true, if_false, reduceIte, Nat.reduceEqDiff, Nat.succ_ne_zero, Nat.one_ne_zero, Nat.zero_ne_one]
    refine zS ?_
    refine zR (zO (by simp [-Zb, ↓shu, ↓anu, ↓shv, ↓anv, HH19]; rfl) ?_)
    simp only [zT, zB]
    rw [hall (by rw [hF]; rfl)]
    refine Zc (x := true) (by simp) ?_
    refine zS ?_
    refine zR (zO (by simp [-Zb, ↓shu, ↓anu, ↓shv, ↓anv, HH19]; rfl) ?_)
    simp only [zT, zB]
    refine Zd ?_
    simp [-Zb, ↓shu, ↓anu, ↓shv, ↓anv, HH19]
   ·have HH20 := zA lv (zA lx (zA h0m (zA h0y (zA hwi (zA hwI (zA btu btv))))))
    refine Zl ?_
    simp only [zT, zB, if_true, if_false, reduceIte, Nat.reduceEqDiff, Nat.succ_ne_zero, Nat.one_ne_zero, Nat.zero_ne_one]
    refine zS ?_
    refine zR (zO (by simp [-Zb, ↓shu, ↓anu, ↓shv, ↓anv, HH20]; rfl) ?_)
    simp only [zT, zB]
    rw [hall (by rw [hF]; rfl)]
    refine Zc (x := true) (by simp) ?_
    refine zS ?_
    refine zR (zO (by simp [-Zb, ↓shu, ↓anu, ↓shv, ↓anv, HH20]; rfl) ?_)
    simp only [zT, zB]
    refine Zd ?_
    simp [-Zb, ↓shu, ↓anu, ↓shv, ↓anv, HH20]
   ·have HH21 := zA lv (zA lx (zA h0m (zA h0y (zA hwi (zA hwI (zA btu btv))))))
    refine Zl ?_
    simp only [zT, zB, if_true, if_false, reduceIte, Nat.reduceEqDiff, Nat.succ_ne_zero, Nat.one_ne_zero, Nat.zero_ne_one]
    refine zS ?_
    refine zR (zO (by simp [-Zb, ↓shu, ↓anu, ↓shv, ↓anv, HH21]; rfl) ?_)
    simp only [zT, zB]
    refine Zc (x := false) (by simp) ?_
    refine zK ?_
    simp only [zT, zB]
    refine zR (zO (by simp [-Zb, ↓shu, ↓anu, ↓shv, ↓anv, HH21]; rfl) ?_)
    simp only [zT, zB]
    exact ⟨12 - (i + 1), by omega, i + 1, K + 1, by omega, rfl, by omega, (fun s hs => if e : s = i then by rw [e, hff, hF]; rfl else hR s (by omega)), by simp [-Zb, ↓shu, ↓anu, ↓shv, ↓anv, HH21]⟩
   ·have HH22 := zA lv (zA lx (zA h0m (zA h0y (zA hwi (zA hwI (zA btu btv))))))
    refine Zl ?_
    simp only [zT, zB, if_true, if_false, reduceIte, Nat.reduceEqDiff, Nat.succ_ne_zero, Nat.one_ne_zero, Nat.zero_ne_one]
    refine zS ?_
    refine zR (zO (by simp [-Zb, ↓shu, ↓anu, ↓shv, ↓anv, HH22]; rfl) ?_)
    simp only [zT, zB]
    refine Zc (x := false) (by simp) ?_
    refine zK ?_
    simp only [zT, zB]
    refine zR (zO (by simp [-Zb, ↓shu, ↓anu, ↓shv, ↓anv, HH22]; rfl) ?_)
    simp only [zT, zB]
    exact ⟨12 - (i + 1), by omega, i + 1, K + 1, by omega, rfl, by omega, (fun s hs => if e : s = i then by rw [e, hff, hF]; rfl else hR s (by omega)), by simp [-Zb, ↓shu, ↓anu, ↓shv, ↓anv, HH22]⟩
   ·have HH23 := zA lv (zA lx (zA h0m (zA h0y (zA hwi (zA hwI (zA btu btv))))))
    refine Zl ?_
    simp only [zT, zB, if_true, if_false, reduceIte, Nat.reduceEqDiff, Nat.succ_ne_zero, Nat.one_ne_zero, Nat.zero_ne_one]
    refine zS ?_
    refine zR (zO (by simp [-Zb, ↓shu, ↓anu, ↓shv, ↓anv, HH23]; rfl) ?_)
    simp only [zT, zB]
    refine Zc (x := false) (by simp) ?_
    refine zK ?_
    simp only [zT, zB]
    refine zR (zO (by simp [-Zb, ↓shu, ↓anu, ↓shv, ↓anv, HH23]; rfl) ?_)
    simp only [zT, zB]
    exact ⟨12 - (i + 1), by omega, i + 1, K + 1, by omega, rfl, by omega, (fun s hs => if e : s = i then by rw [e, hff, hF]; rfl else hR s (by omega)), by simp [-Zb, ↓shu, ↓anu, ↓shv, ↓anv, HH23]⟩
   ·have HH24 := zA lv (zA lx (zA h0m (zA h0y (zA hwi (zA hwI (zA btu btv))))))
    refine Zl ?_
    simp only [zT, zB, if_true, if_false, reduceIte, Nat.reduceEqDiff, Nat.succ_ne_zero, Nat.one_ne_zero, Nat.zero_ne_one]
    refine zS ?_
    refine zR (zO (by simp [-Zb, ↓shu, ↓anu, ↓shv, ↓anv, HH24]; rfl) ?_)
    simp only [zT, zB]
    refine Zc (x := false) (by simp) ?_
    refine zK ?_
    simp only [zT, zB]
    refine zR (zO (by simp [-Zb, ↓shu, ↓anu, ↓shv, ↓anv, HH24]; rfl) ?_)
    simp only [zT, zB]
    exact ⟨12 - (i + 1), by omega, i + 1, K + 1, by omega, rfl, by omega, (fun s hs => if e : s = i then by rw [e, hff, hF]; rfl else hR s (by omega)), by simp [-Zb, ↓shu, ↓anu, ↓shv, ↓anv, HH24]⟩
   ·have HH25 := zA lv (zA lx (zA h0m (zA h0y (zA hwi (zA hwI (zA btu btv))))))
    refine Zl ?_
    simp only [zT, zB, if_true, if_false, reduceIte, Nat.reduceEqDiff, Nat.succ_ne_zero, Nat.one_ne_zero, Nat.zero_ne_one]
    refine zS ?_
    refine zR (zO (by simp [-Zb, ↓shu, ↓anu, ↓shv, ↓anv, HH25]; rfl) ?_)
    simp only [zT, zB]
    refine Zc (x := false) (by simp) ?_
    refine zK ?_
    simp only [zT, zB]
    refine zR (zO (by simp [-Zb, ↓shu, ↓anu, ↓shv, ↓anv, HH25]; rfl) ?_)
    simp only [zT, zB]
    exact ⟨12 - (i + 1), by omega, i + 1, K + 1, by omega, rfl, by omega, (fun s hs => if e : s = i then by rw [e, hff, hF]; rfl else hR s (by omega)), by simp [-Zb, ↓shu, ↓anu, ↓shv, ↓anv, HH25]⟩
   ·have HH26 := zA lv (zA lx (zA h0m (zA h0y (zA hwi (zA hwI (zA btu btv))))))
    refine Zl ?_
    simp only [zT, zB, if_true, if_false, reduceIte, Nat.reduceEqDiff, Nat.succ_ne_zero, Nat.one_ne_zero, Nat.zero_ne_one]
    refine zS ?_
    refine zR (zO (by simp [-Zb, ↓shu, ↓anu, ↓shv, ↓anv, HH26]; rfl) ?_)
    simp only [zT, zB]
    rw [hall (by rw [hF]; rfl)]
    refine Zc (x := true) (by simp) ?_
    refine zS ?_
    refine zR (zO (by simp [-Zb, ↓shu, ↓anu, ↓shv, ↓anv, HH26]; rfl) ?_)
    simp only [zT, zB]
    refine Zd ?_
    simp [-Zb, ↓shu, ↓anu, ↓shv, ↓anv, HH26]
   ·have HH27 := zA lv (zA lx (zA h0m (zA h0y (zA hwi (zA hwI (zA btu btv))))))
    refine Zl ?_
    simp only [zT, zB, if_true, if_false, reduceIte, Nat.reduceEqDiff, Nat.succ_ne_zero, Nat.one_ne_zero, Nat.zero_ne_one]
    refine zS ?_
    refine zR (zO (by simp [-Zb, ↓shu, ↓anu, ↓shv, ↓anv, HH27]; rfl) ?_)
    simp only [zT, zB]
    rw [hall (by rw [hF]; rfl)]
    refine Zc (x := true) (by simp) ?_
    refine zS ?_
    refine zR (zO (by simp [-Zb, ↓shu, ↓anu, ↓shv, ↓anv, HH27]; rfl) ?_)
    simp only [zT, zB]
    refine Zd ?_
    simp [-Zb, ↓shu, ↓anu, ↓shv, ↓anv, HH27]
   ·have HH28 := zA lv (zA lx (zA h0m (zA h0y (zA hwi (zA hwI (zA btu btv))))))
    refine Zl ?_
    simp only [zT, zB, if_true, if_false, reduceIte, Nat.reduceEqDiff, Nat.succ_ne_zero, Nat.one_ne_zero, Nat.zero_ne_one]
    refine zS ?_
    refine zR (zO (by simp [-Zb, ↓shu, ↓anu, ↓shv, ↓anv, HH28]; rfl) ?_)
    simp only [zT, zB]
    rw [hall (by rw [hF]; rfl)]
    refine Zc (x := true) (by simp) ?_
    refine zS ?_
    refine zR (zO (by simp [-Zb, ↓shu, ↓anu, ↓shv, ↓anv, HH28]; rfl) ?_)
    simp only [zT, zB]
    refine Zd ?_
    simp [-Zb, ↓shu, ↓anu, ↓shv, ↓anv, HH28]
   ·have HH29 := zA lv (zA lx (zA h0m (zA h0y (zA hwi (zA hwI (zA btu btv))))))
    refine Zl ?_
    simp only [zT, zB, if_true, if_false, reduceIte, Nat.reduceEqDiff, Nat.succ_ne_zero, Nat.one_ne_zero, Nat.zero_ne_one]
    refine zS ?_
    refine zR (zO (by simp [-Zb, ↓shu, ↓anu, ↓shv, ↓anv, HH29]; rfl) ?_)
    simp only [zT, zB]
    refine Zc (x := false) (by simp) ?_
    refine zK ?_
    simp only [zT, zB]
    refine zR (zO (by simp [-Zb, ↓shu, ↓anu, ↓shv, ↓anv, HH29]; rfl) ?_)
    simp only [zT, zB]
    exact ⟨12 - (i + 1), by omega, i + 1, K + 1, by omega, rfl, by omega, (fun s hs => if e : s = i then by rw [e, hff, hF]; rfl else hR s (by omega)), by simp [-Zb, ↓shu, ↓anu, ↓shv, ↓anv, HH29]⟩
   ·have HH30 := zA lv (zA lx (zA h0m (zA h0y (zA hwi (zA hwI (zA btu btv))))))
    refine Zl ?_
    simp only [zT, zB, if_true, if_false, reduceIte, Nat.reduceEqDiff, Nat.succ_ne_zero, Nat.one_ne_zero, Nat.zero_ne_one]
    refine zS ?_
    refine zR (zO (by simp [-Zb, ↓shu, ↓anu, ↓shv, ↓anv, HH30]; rfl) ?_)
    simp only [zT, zB]
    rw [hall (by rw [hF]; rfl)]
    refine Zc (x := true) (by simp) ?_
    refine zS ?_
    refine zR (zO (by simp [-Zb, ↓shu, ↓anu, ↓shv, ↓anv, HH30]; rfl) ?_)
    simp only [zT, zB]
    refine Zd ?_
    simp [-Zb, ↓shu, ↓anu, ↓shv, ↓anv, HH30]
   ·have HH31 := zA lv (zA lx (zA h0m (zA h0y (zA hwi (zA hwI (zA btu btv))))))
    refine Zl ?_
    simp only [zT, zB, if_true, if_false, reduceIte, Nat.reduceEqDiff, Nat.succ_ne_zero, Nat.one_ne_zero, Nat.zero_ne_one]
    refine zS ?_
    refine zR (zO (by simp [-Zb, ↓shu, ↓anu, ↓shv, ↓anv, HH31]; rfl) ?_)
    simp only [zT, zB]
    refine Zc (x := false) (by simp) ?_
    refine zK ?_
    simp only [zT, zB]
    refine zR (zO (by simp [-Zb, ↓shu, ↓anu, ↓shv, ↓anv, HH31]; rfl) ?_)
    simp only [zT, zB]
    exact ⟨12 - (i + 1), by omega, i + 1, K + 1, by omega, rfl, by omega, (fun s hs => if e : s = i then by rw [e, hff, hF]; rfl else hR s (by omega)), by simp [-Zb, ↓shu, ↓anu, ↓shv, ↓anv, HH31]⟩
   ·have HH32 := zA lv (zA lx (zA h0m (zA h0y (zA hwi (zA hwI (zA btu btv))))))
    refine Zl ?_
    simp only [zT, zB, if_true, if_false, reduceIte, Nat.reduceEqDiff, Nat.succ_ne_zero, Nat.one_ne_zero, Nat.zero_ne_one]
    refine zS ?_
    refine zR (zO (by simp [-Zb, ↓shu, ↓anu, ↓shv, ↓anv, HH32]; rfl) ?_)
    simp only [zT, zB]
    rw [hall (by rw [hF]; rfl)]
    refine Zc (x := true) (by simp) ?_
    refine zS ?_
    refine zR (zO (by simp [-Zb, ↓shu, ↓anu, ↓shv, ↓anv, HH32]; rfl) ?_)
    simp only [zT, zB]
    refine Zd ?_
    simp [-Zb, ↓shu, ↓anu, ↓shv, ↓anv, HH32]
 ·have hlt := of_decide_eq_false hlt
  obtain rfl : i = 12 := by omega
  rw [show explR cs l se mi = true by rw [explR_fB, List.all_eq_true]; exact fun s hs => hR s (List.mem_range.1 hs)]
  refine Zl ?_
  simp only [zT, zB, if_true, if_false, reduceIte, Nat.reduceEqDiff, Nat.succ_ne_zero, Nat.one_ne_zero, Nat.zero_ne_one]
  refine zS ?_
  refine zR (zO (by simp [lv, lx, -Zb]; rfl) ?_)
  simp only [zT, zB]
  refine Zd ?_
  simp [lv, lx, -Zb]
def DJ1 : Nat → Option CFn := upd DI1 74 true (o74)
theorem DJ1_ok : Zv Tryd.prog GG DJ1 := ZA mixed DI1_ok fun args v ho => by
  unfold o74 at ho; split at ho <;> (try simp only [reduceCtorEq] at ho)
  rename_i c v se mi
  split at ho <;> (try simp only [reduceCtorEq] at ho)
  rename_i cs l hc hv
  split at ho <;> (try simp only [reduceCtorEq] at ho)
  rename_i hg
  simp only [Option.some.injEq] at ho
  subst ho
  obtain ⟨sn, rfl⟩ : ∃ s : Nat, se = s := ⟨se.toNat, by omega⟩
  obtain ⟨mn, rfl⟩ : ∃ s : Nat, mi = s := ⟨mi.toNat, by omega⟩
  simp only [Int.toNat_natCast]
  exact a74 Tryd.prog DI1 rfl cs c v l hc hv hg.1 hg.2.1 sn mn (by omega) (by omega)
end
end
end Go.Proofs.YtpebmjeomlgmdaaDoor.Tab
namespace Go.Proofs.YtpebmjeomlgmdaaDoor.Tab
open Go
theorem flat_len {f : Nat → List (List Nat)} : ∀ (m s : Nat), (∀ i, s ≤ i → i < s + m → (f i).length ≤ 2 ^ (s + m - 1 - i)) → ((List.range' s m).flatMap f).length ≤ 2 ^ m
  | 0, s, _ => by simp
  | m + 1, s, h => by
    rw [List.range'_succ, List.flatMap_cons, List.length_append]
    have h1 := h s (by omega) (by omega)
    have h2 := flat_len m (s + 1) (f := f) fun i h1 h2 => by
      have := h i (by omega) (by omega)
      rwa [show s + (m + 1) - 1 - i = s + 1 + m - 1 - i by omega] at this
    rw [show s + (m + 1) - 1 - s = m by omega] at h1
    rw [Nat.pow_succ]; omega
theorem next_app (b : List Nat) (i : Nat) : Xd (b ++ [i]) = i + 1 := by unfold Xd; simp
theorem setsR_len (n : Nat) : ∀ (d : Nat) (b : List Nat), (XA n d b).length ≤ 2 ^ (n - Xd b)
  | 0, b => by simp only [XA, List.length_singleton]; exact Nat.one_le_two_pow
  | d + 1, b => by
    refine flat_len _ _ fun i h1 h2 => ?_
    have := setsR_len n d (b ++ [i])
    rw [next_app] at this
    rwa [show Xd b + (n - Xd b) - 1 - i = n - (i + 1) by omega]
def outL (n d : Nat) (b : List Nat) (x : Nat) : List (List Nat) := (List.range' (Xd b) (x - Xd b)).flatMap fun i => XA n d (b ++ [i])
theorem outL_zero (n d : Nat) (b : List Nat) : outL n d b (Xd b) = [] := by unfold outL; simp
theorem outL_end (n d : Nat) (b : List Nat) : outL n d b n = XA n (d + 1) b := rfl
theorem outL_succ {n d : Nat} {b : List Nat} {x : Nat} (h : Xd b ≤ x) : outL n d b (x + 1) = outL n d b x ++ XA n d (b ++ [x]) := by
  unfold outL
  rw [show x + 1 - Xd b = (x - Xd b) + 1 by omega, List.range'_1_concat, List.flatMap_append]
  rw [show Xd b + (x - Xd b) = x by omega]; simp
theorem outL_len {n d : Nat} {b : List Nat} {x : Nat} (hn : n ≤ 10) (h1 : Xd b ≤ x) (h2 : x ≤ n) : (outL n d b x).length ≤ 1024 := by
  have e : XA n (d + 1) b = outL n d b x ++ (List.range' x (n - x)).flatMap fun i => XA n d (b ++ [i]) := by
    unfold outL
    rw [← List.flatMap_append]
    have := List.range'_append_1 (s := Xd b) (m := x - Xd b) (n := n - x)
    rw [show Xd b + (x - Xd b) = x by omega, show x - Xd b + (n - x) = n - Xd b by omega] at this
    rw [this]; rfl
  have h := setsR_len n (d + 1) b
  rw [e, List.length_append] at h
  have : 2 ^ (n - Xd b) ≤ 1024 := two_le (by omega)
  omega
theorem sets_len {n d : Nat} {b : List Nat} (hn : n ≤ 10) : (XA n d b).length ≤ 1024 := Nat.le_trans (setsR_len n d b) (two_le (by omega))
theorem next_lt {n : Nat} {b : List Nat} (h : ∀ x ∈ b, x < n) : Xd b ≤ n := by
  unfold Xd
  split
  · rename_i x e; exact h x (List.mem_of_getLast? e)
  · omega
end Go.Proofs.YtpebmjeomlgmdaaDoor.Tab
namespace Go.Abs
open Go
noncomputable section
def dropE (sp : List Za → Option Za) (args : List Za) (h : Zg) : Option (Za × List (Nat × Option Blk)) :=
 match Zf (frz false (onlyJ (ptrs [] args) 0 h) 5) args with
 | some ass => match sp ass with
  | some v => if rb 0 5 v = true ∧ (ptrs [] args).all (fun i => decide (i < h.length)) = true then some (v, (ptrs [] args).map fun i => (i, none)) else none
  | none => none
 | none => none
theorem setH_hide : ∀ (J : List Nat) (h : Zg), (∀ i ∈ J, i < h.length) → setH h (J.map fun i => (i, none)) = hideK J h
 | [], h, _ => rfl
 | i :: J, h, hj => by
  have hi := hj i (by simp)
  have e : putH h i none = h.set i none := by unfold putH; rw [if_pos hi]
  show setH (putH h i none) (J.map fun i => (i, none)) = hideK J (h.set i none)
  rw [e]
  exact setH_hide J _ fun k hk => by rw [List.length_set]; exact hj k (by simp [hk])
section
variable {P : Program} {G : Nat → Option (List Za)} {T : Nat → Option CFn} {E : Env} {h : Zg} {w : World}
theorem drop_good {f : Nat} {args ass : List Za} {v : Za} {J : List Nat} (hc : OrcGood P G false f ass v) (has : Zf (frz false (onlyJ J 0 h) 5) args = some ass) : Xt P G f args h v (hideK J h) := by
 intro E w cargs k hr hl
 let B : Nat → Prop := fun b => ∃ i c, i ∈ J ∧ h[i]? = some (some c) ∧ (E.ρ i).b = b
 have hBs : ∀ b, B b → E.O b ∧ b < w.heap.size := by
  rintro b ⟨i, c, _, hi, rfl⟩
  obtain ⟨_, h2, h3, _⟩ := hr.blk i c hi
  exact ⟨h2, h3⟩
 let E0 : Env := ⟨E.ρ, fun _ => False, fun _ => False, fun b => E.I b ∨ B b⟩
 have hI1 : ∀ b, E0.I b → b < w.heap.size := fun b hb => hb.elim (fun hb => (hr.imm b hb).1) fun hb => (hBs b hb).2
 have hr0 : E0.HR P G [] w :=
  ⟨fun i b hi => by simp at hi, fun i j b c hi => by simp at hi, fun i hi => hi.elim, fun b hb => hb.elim, fun b hb => ⟨hI1 b hb, fun h => h⟩, fun g r hg => by
   have := hr.glob g r hg
   generalize hp : Value.pointer (some ⟨g, 0, none⟩) = pv at this ⊢
   cases this with
   | pv _ _ _ b off cv hb hc h => exact .pv _ _ _ b off cv (.inl hb) hc fun j hj => VR.mono (h j hj) _ (fun i hi => hi.elim) fun b hb => ⟨.inl hb, rfl⟩⟩
 have hl0 : E0.LR w ass cargs := by
  obtain ⟨g1, g2⟩ := ZM has
  refine ⟨by rw [← g1]; exact hl.1, fun j h1 h2 => ?_⟩
  exact frz_ok (onlyJ_hr hr J) (fun i b hi => .inr ⟨i, b, by simpa using (onlyJ_get hi).1, (onlyJ_get hi).2, rfl⟩) (fun _ b hb => .inl hb) 5 (hl.2 j (by omega) h2) (g2 j (by omega) h1)
 refine CallsIn.mono (hc E0 w cargs k (fun _ h => h) (fun _ h => h) hr0 hl0) ?_
 rintro e w' ⟨u, I', rfl, hos, htape, hout, hsz, hold, hI', hu⟩
 let E2 : Env := ⟨E.ρ, E.D, fun b => E.O b ∧ ¬ B b, fun b => E.I b ∨ B b ∨ I' b⟩
 have hv2 : ∀ x cv, E.VR w x cv → E2.VR w' x cv := fun x cv hx => VR.mono hx _ (fun i hi => ⟨hi, rfl⟩) fun b hb => ⟨.inl hb, hold b (hr.imm b hb).1⟩
 refine ⟨u, E2, rfl, ⟨hos, htape, hout, hsz, fun i hi => ⟨hi, rfl⟩, fun b hb => .inl hb, fun b hb ho => ⟨hold b hb, fun h => ho h.1, fun h => ?_⟩⟩, ⟨fun i b hi => ?_, fun i j b c hi hj he => ?_, fun i hi => ?_, fun b hb => ?_, fun b hb => ?_, fun g r hg => ?_⟩, ?_, fun j hj => .inl hj, ?_⟩
 ·rcases h with h | h | h
  ·exact h
  ·exact absurd (hBs b h).1 ho
  ·rcases (hI' b h).2 with h2 | ⟨_, h2 | h2⟩
   ·omega
   ·exact h2
   ·exact absurd (hBs b h2).1 ho
 ·obtain ⟨hn, hg⟩ := hideK_get hi
  obtain ⟨b1, b2, b3, b4⟩ := hr.blk i b hg
  refine ⟨b1, ⟨b2, ?_⟩, Nat.lt_of_lt_of_le b3 hsz, br_mono (E' := E2) b4 rfl (hold _ b3) hv2⟩
  rintro ⟨i', c, hm, hg', he⟩
  exact hn (hr.inj _ _ _ _ hg' hg he ▸ hm)
 ·exact hr.inj i j b c (hideK_get hi).2 (hideK_get hj).2 he
 ·rw [hideK_len]; exact hr.lt i hi
 ·exact Nat.lt_of_lt_of_le (hr.own b hb.1) hsz
 ·rcases hb with hb | hb | hb
  ·exact ⟨Nat.lt_of_lt_of_le (hr.imm b hb).1 hsz, fun ho => (hr.imm b hb).2 ho.1⟩
  ·exact ⟨Nat.lt_of_lt_of_le (hBs b hb).2 hsz, fun ho => ho.2 hb⟩
  ·refine ⟨(hI' b hb).1, fun ho => ?_⟩
   rcases (hI' b hb).2 with h2 | ⟨_, h2 | h2⟩
   ·have := hr.own b ho.1; omega
   ·exact (hr.imm b h2).2 ho.1
   ·exact ho.2 h2
 ·exact hv2 _ _ (hr.glob g r hg)
 ·exact VR.mono hu _ (fun i hi => hi.elim) fun b hb => ⟨.inr (.inr hb), rfl⟩
 ·rw [hideK_len]; exact Nat.le_refl _
theorem tab_drop (hT : Zv P G T) {f : Nat} {sp : List Za → Option Za} (ho : ∀ args v, sp args = some v → OrcGood P G false f args v) : Zv P G (updE T f (dropE sp)) :=
 tab_updE hT fun args h v us he => by
  unfold dropE at he
  split at he <;> (try simp only [reduceCtorEq] at he)
  rename_i ass e1
  split at he <;> (try simp only [reduceCtorEq] at he)
  rename_i v1 e2
  split at he <;> (try simp only [reduceCtorEq] at he)
  rename_i hg
  simp only [Option.some.injEq, Prod.mk.injEq] at he
  obtain ⟨rfl, rfl⟩ := he
  rw [setH_hide _ _ fun i hi => by have := List.all_eq_true.1 hg.2 i hi; simpa using this]
  exact drop_good (ho ass v1 e2) e1
end
end
end Go.Abs
namespace Go.Proofs.YtpebmjeomlgmdaaDoor.Tab
open Go Go.Abs Go.Proofs
set_option maxRecDepth 100000
set_option maxHeartbeats 4000000
set_option linter.unusedSimpArgs false
set_option linter.unusedVariables false
section
attribute [local simp] Yv Ye Xo Xp YC Yy Xq YJ YV Yp Zf orcF Xj YI Xl Xh YH Yn rb_vl rb_pv Xf YG YF YE Xk Xg Xi rb_sl rb_fn slE XC YX Yd ZG Xs List.range_succ List.range_zero List.range'_succ List.range'_zero ZX ZV Zz ZZ ZJ ZN YZ ZU dop CV.ev Yf Zu ZC YP XX Yg ZS ZE Zq Out.v Xr List.replicate_succ zT zB arI ZF Abs.rowAt Xe allV toV toC ofV ofC Builtin.min_ Builtin.min2 Builtin.max_ Builtin.max2 Xm Xn resA XU Xb ZW Yk Yl Yj Zb
section
attribute [local simp] ZY ZK YL YD XN Xc disj YN XS YO ZO YQ news eqB YU eqA YB YW toCs ofCs stA Ym ZL Yi dI1 dI2 dI3 dI5 elt
attribute [local simp] st_any st_und st_agg st_tup XH st_int XE st_ref st_pv XD st_sl st_vl XF st_mp st_fn XG st_yld co_any co_und co_agg co_tup XM co_int XJ co_ref co_pv XI co_sl co_vl XK co_mp co_fn XL co_yld
attribute [local simp] List.all_append Yq Zo dropE frzG gather getR lim lop Yr lowA lowR okG onlyJ ptrs putG putH putR rbB_none rbB_row resG rowAt setH takeG
def Yw (b : List Nat) : Za := .vl (b.map rN) b.isEmpty
def rW (b : List Nat) : List Za := [Yw b]
def Ya (d : Nat) (L : List (List Nat)) : Za := .vl (L.map rW) (d == 0 || L.isEmpty)
def o93 (d : Nat) : List Za → Option Za
  | [.int .i64 n, .int .i64 k, .vl rs t] => match Zf dI1 rs with
    | some l => if (0 ≤ n ∧ n ≤ 10) ∧ t = l.isEmpty ∧ (∀ x ∈ l, 0 ≤ x ∧ x < n) ∧ (l.length : Int) ≤ k ∧ k < l.length + d ∧ k ≤ 10 then some (Ya (k.toNat - l.length) (XA n.toNat (k.toNat - l.length) (l.map Int.toNat))) else none
    | none => none
  | _ => none
theorem rN_frz (h : Zg) (d : Nat) (l : List Nat) : Zf (Zf (frz false h (d + 1))) (l.map rN) = some (l.map rN) := Zx _ fun r hr => Zx _ fun x hx => by
  obtain ⟨y, _, rfl⟩ := List.mem_map.1 hr
  simp only [rN, List.mem_singleton] at hx
  subst hx; rfl
theorem rN_frN (n : Nat) (h : Zg) (d : Nat) (l : List Nat) : Zf (Zf (frN n h (d + 1))) (l.map rN) = some (l.map rN) := Zx _ fun r hr => Zx _ fun x hx => by
  obtain ⟨y, _, rfl⟩ := List.mem_map.1 hr
  simp only [rN, List.mem_singleton] at hx
  subst hx; rfl
theorem W_rb (b : List Nat) (n d : Nat) : rb n (d + 1) (Yw b) = true := ZH (rs := b.map rN) rfl n d
theorem rW_rb (n d : Nat) (l : List (List Nat)) : ((l.map rW).all fun r => r.all (rb n (d + 1))) = true := by
  simp only [List.all_map, List.all_eq_true, Function.comp]
  intro x _ y hy
  simp only [rW, List.mem_singleton] at hy
  subst hy
  exact W_rb x n d
theorem rW_frN (n : Nat) (h : Zg) (d : Nat) (l : List (List Nat)) : Zf (Zf (frN n h (d + 1))) (l.map rW) = some (l.map rW) := Zx _ fun r hr => Zx _ fun x hx => by
  obtain ⟨y, _, rfl⟩ := List.mem_map.1 hr
  simp only [rW, List.mem_singleton] at hx
  subst hx
  exact frN_rb _ _ (W_rb y n d)
theorem rW_frz (h : Zg) (d : Nat) (l : List (List Nat)) : Zf (Zf (frz false h (d + 1))) (l.map rW) = some (l.map rW) := Zx _ fun r hr => Zx _ fun x hx => by
  obtain ⟨y, _, rfl⟩ := List.mem_map.1 hr
  simp only [rW, List.mem_singleton] at hx
  subst hx
  exact Zt (x := Yw y) (rs := y.map rN) rfl h d
theorem rW_st (l : List (List Nat)) : ((l.map rW).all fun r => r.all ZB) = true := by
  simp only [List.all_map, List.all_eq_true, Function.comp]
  intro x _ y hy
  simp only [rW, List.mem_singleton] at hy
  subst hy
  exact (Zp (x := Yw x) (rs := x.map rN) rfl).2
theorem rW_one (l : List (List Nat)) : ((l.map rW).all fun r => r.length == 1) = true := by simp [rW]
theorem o93_eq {n d : Nat} {b : List Nat} (hn : n ≤ 10) (hb : ∀ x ∈ b, x < n) {e : Nat} (he : d < e) (hk : b.length + d ≤ 10) {N K : Int} (hN : N = n) (hK : K = ((b.length + d : Nat) : Int)) : o93 e [I N, I K, Yw b] = some (Ya d (XA n d b)) := by
  subst hN hK
  have h1 : Zf dI1 (b.map rN) = some (b.map fun x : Nat => (x : Int)) := by
    exact optAll_map2 b fun x _ => rfl
  simp only [o93, Yw, h1]
  have h2 : (b.map fun x : Nat => (x : Int)).map Int.toNat = b := by rw [List.map_map]; exact List.map_id'' (fun x => by simp) b
  rw [if_pos ⟨by omega, by cases b <;> rfl, by intro x hx; obtain ⟨y, hy, rfl⟩ := List.mem_map.1 hx; have := hb y hy; omega, by simp; omega, by simp; omega, by omega⟩, h2]
  simp only [List.length_map, Int.toNat_natCast, Nat.add_sub_cancel_left]
theorem o93_none {n d : Nat} {b : List Nat} {N K : Int} (hN : N = n) (hK : K = ((b.length + d : Nat) : Int)) : o93 d [I N, I K, Yw b] = none := by
  subst hN hK
  have h1 : Zf dI1 (b.map rN) = some (b.map fun x : Nat => (x : Int)) := optAll_map2 b fun x _ => rfl
  simp only [o93, Yw, h1]
  rw [if_neg]
  intro h
  have := h.2.2.2.2.1
  simp at this
theorem a93 (P : Program) (T : Nat → Option CFn) (d n : Nat) (b : List Nat) (N K : Int) (hT : T 93 = some { c93 with body := annK [(647, [.slot 7])] [] c93.body, frsh := false, orc := fun _ => none, eff := dropE (o93 d) }) (he : dropE (o93 d) [I N, I K, Yw b] [] = none) (hn : n ≤ 10) (hN : N = n) (hb : ∀ x ∈ b, x < n) (hd10 : b.length + d ≤ 10) (hk : K = ((b.length + d : Nat) : Int)) : Zn P T 93 [I N, I K, Yw b] [] fun v h => frz false h 5 v = some (Ya d (XA n d b)) := by
 have lv : Zb (Yw b) = some b.length := by rw [Zw (x := Yw b) (rs := b.map rN) rfl, List.length_map]
 have fW := fun H d => Zt (x := Yw b) (rs := b.map rN) rfl H d
 have rWb := fun n d => W_rb b n d
 obtain ⟨cW1, cW2⟩ := Zp (x := Yw b) (rs := b.map rN) rfl
 refine Zj hT (Zk rfl) ?_ he
 simp only [oo, om, op, og, ci, cl, c93, annK, lkG, lkR, reduceIte, Nat.reduceEqDiff, reduceCtorEq, List.cons.injEq, and_true, and_false, false_and, true_and]
 rcases d with _ | e
 ·have hd : True := trivial
  have hK : ((b.length : Int) == K) = true := by simp [hk]
  have HH1 := zA hT (zA lv (zA fW (zA rWb (zA cW1 (zA cW2 hK)))))
  refine zS ?_
  refine zR (zO (by simp [Zh hT rfl, ↓Zm, -Zb, HH1]; rfl) ?_)
  simp only [zT, zB]
  refine zS ?_
  refine zS ?_
  refine zR (zO (by simp [Zh hT rfl, ↓Zm, -Zb, HH1]; rfl) ?_)
  simp only [zT, zB]
  refine Zc (x := true) (by simp) ?_
  refine zS ?_
  refine zR (zO (by simp [Zh hT rfl, ↓Zm, -Zb, HH1]; rfl) ?_)
  simp only [zT, zB]
  refine Zd ?_
  simp [Zh hT rfl, ↓Zm, -Zb, HH1, trim, Ya, XA, rW]
 ·have hK : ((b.length : Int) == K) = false := by simp; omega
  have HH2 := zA hT (zA lv (zA fW (zA rWb (zA cW1 (zA cW2 hK)))))
  refine zS ?_
  refine zR (zO (by simp [Zh hT rfl, ↓Zm, -Zb, HH2]; rfl) ?_)
  simp only [zT, zB]
  refine zS ?_
  refine zS ?_
  refine zR (zO (by simp [Zh hT rfl, ↓Zm, -Zb, HH2]; rfl) ?_)
  simp only [zT, zB]
  refine Zc (x := false) (by simp) ?_
  refine zK ?_
  simp only [zT, zB]
  refine zS ?_
  refine zR (zO (by simp [Zh hT rfl, ↓Zm, -Zb, HH2]; rfl) ?_)
  simp only [zT, zB]
  refine zS ?_
  refine zS ?_
  refine zR (zO (by simp [Zh hT rfl, ↓Zm, -Zb, HH2]; rfl) ?_)
  simp only [zT, zB]
  by_cases hB : b = []
  ·have hew0 : Yw b = .vl [] true := by rw [hB]; rfl
   have hn0 : Xd b = 0 := by rw [hB]; rfl
   have hlb : b.length = 0 := by rw [hB]; rfl
   have hbm : b.map rN = [] := by rw [hB]; rfl
   refine Zc (x := false) (by simp [hlb]) ?_
   refine zK ?_
   simp only [zT, zB]
   refine zS ?_
   refine zS ?_
   refine zR (zO (by simp [Zh hT rfl, ↓Zm, -Zb, HH2, hew0, hlb]; rfl) ?_)
   simp only [zT, zB]
   refine zL ?_
   refine runs_loopG_inv (fun mm σ => ∃ (x : Nat) (i : Int), i = x ∧ n - x = mm ∧ Xd b ≤ x ∧ x ≤ n ∧ ((outL n e b x = [] ∧ σ = ⟨[I N, I K, .vl [] true, .any, .any, .any, .any, .sl 1 0 0 true, .any, I i, .any, .any, .any, .any, .any, .any, .any, .any, .any, .any, .any, .any, .any, .any, .any, .any, .any, .any, .any, .any, .any, .any, .any, .any, .any, .any, .any, .any, .any, .any, .any, .any, .any, .any, .any], [none, some (.row 1 [])]⟩) ∨ (∃ (p : Nat) (ac : List (List Nat)), ac = outL n e b x ∧ ac.length = p + 1 ∧ σ = ⟨[I N, I K, .vl [] true, .any, .any, .any, .any, .sl 1 0 (p + 1) false, .any, I i, .any, .any, .any, .any, .any, .any, .any, .any, .any, .any, .any, .any, .any, .any, .any, .any, .any, .any, .any, .any, .any, .any, .any, .any, .any, .any, .any, .any, .any, .any, .any, .any, .any, .any, .any], [none, some (.row 1 (ac.map rW))]⟩))) (by simp [Zh hT rfl, ↓Zm, -Zb, HH2, hew0, hlb] <;> first | exact ⟨rfl, rfl⟩ | rfl) (⟨Xd b, 0, by rw [hn0]; rfl, rfl, Nat.le_refl _, next_lt hb, .inl ⟨outL_zero n e b, by first | rfl | simp⟩⟩) ?_
   rintro mm σ ⟨x, i, hix, rfl, hx1, hx2, ⟨hac0, rfl⟩ | ⟨p, ac, hac, hacl, rfl⟩⟩
   ·refine zS ?_
    refine zS ?_
    refine zR (zO (by simp [Zh hT rfl, ↓Zm, -Zb, HH2, hew0, hlb]; rfl) ?_)
    simp only [zT, zB]
    refine Ze (x := decide (i < N)) (by simp) (fun hlt => ?_) (fun hlt => ?_)
    ·have hlt2 := of_decide_eq_true hlt
     have hxn : x < n := by omega
     have hi0 : 0 ≤ i := by omega
     have hwi : W .i64 (i + 1) = i + 1 := ZD (by omega)
     have hxs := outL_succ (n := n) (d := e) hx1
     have hsl := sets_len (d := e) (b := b ++ [x]) hn
     have e93 := o93_eq (n := n) (d := e) (b := b ++ [x]) (N := N) (K := K) hn (by intro y hy; rcases List.mem_append.1 hy with h | h; exact hb y h; simp at h; omega) (Nat.lt_succ_self e) (by simp; omega) hN (by rw [hk]; simp; omega)
     have hew : Yw (b ++ [x]) = .vl (b.map rN ++ [[I i]]) false := by unfold Yw; rw [hix]; simp [rN]
     rw [hew] at e93
     try rw [hbm, List.nil_append] at e93
     unfold Ya at e93
     generalize XA n e (b ++ [x]) = X at *
     generalize (e == 0 || X.isEmpty) = fl at *
     by_cases hX : X = []
     ·subst hX
      have HH3 := zA hew0 (zA hlb (zA hi0 (zA hwi e93)))
      refine zK ?_
      simp only [zT, zB]
      refine zS ?_
      refine zL ?_
      refine zR (zO (by simp [Zh hT rfl, ↓Zm, -Zb, HH2, Ya, HH3]; rfl) ?_)
      simp only [zT, zB]
      refine zR (zO (by simp [Zh hT rfl, ↓Zm, -Zb, HH2, Ya, HH3]; rfl) ?_)
      simp only [zT, zB]
      exact ⟨n - (x + 1), _, _, by omega, by simp [Zh hT rfl, ↓Zm, -Zb, HH2, Ya, HH3] <;> first | rfl | exact ⟨rfl, rfl⟩, x + 1, i + 1, by omega, rfl, by omega, by omega, .inl ⟨by rw [hxs, hac0]; rfl, rfl⟩⟩
     ·have hst' := rW_st X
      have hr1' := rW_one X
      have hXn : ¬ X = [] := hX
      have hie : X.isEmpty = false := by cases X with
       | nil => exact absurd rfl hX
       | cons y l => rfl
      obtain ⟨q0, hq0⟩ : ∃ q, X.length = q + 1 := ⟨X.length - 1, by have := List.length_pos_iff.2 hX; omega⟩
      have hq6 : q0 ≤ 1048575 := by omega
      have hq7 : ∀ p, p + 1 ≤ 1024 → p + 1 + (q0 + 1) ≤ 1048576 := by intro p h; omega
      have hX6 : X.length ≤ 1048576 := by omega
      have hXz : ¬ X.length = 0 := by simpa using hX
      have hrj' := rW_rb 2 4 X
      have hfr' := fun n h r => XP (rW_frN n h 4 X) r
      have hfr0' := fun n h => rW_frN n h 4 X
      have hfzz' := fun H d => rW_frz H d X
      have htk' : (X.map rW).take X.length = X.map rW := List.take_of_length_le (by simp)
      have HH4 := zA hew0 (zA hlb (zA hi0 (zA hwi (zA e93 (zA hq0 (zA hq6 (zA hq7 (zA hXn (zA hie (zA hX6 (zA hfr0' (zA hXz htk'))))))))))))
      have HH5 := zA hst' (zA hr1' (zA hrj' (zA hfr' hfzz')))
      refine zK ?_
      simp only [zT, zB]
      refine zS ?_
      refine zL ?_
      refine zR (zO (by simp [Zh hT rfl, ↓Zm, -Zb, HH2, Ya, -List.all_map, HH4, ↓HH5]; rfl) ?_)
      simp only [zT, zB]
      refine zR (zO (by simp [Zh hT rfl, ↓Zm, -Zb, HH2, Ya, -List.all_map, HH4, ↓HH5]; rfl) ?_)
      simp only [zT, zB]
      exact ⟨n - (x + 1), _, _, by omega, by simp [Zh hT rfl, ↓Zm, -Zb, HH2, Ya, -List.all_map, HH4, ↓HH5] <;> first | rfl | exact ⟨rfl, rfl⟩, x + 1, i + 1, by omega, rfl, by omega, by omega, .inr ⟨q0, X, by rw [hxs, hac0]; rfl, hq0, rfl⟩⟩
    ·have hlt2 := of_decide_eq_false hlt
     obtain rfl : x = n := by omega
     rw [outL_end] at hac0
     rw [hac0]
     refine Zl ?_
     simp only [zT, zB, if_true, if_false, reduceIte, Nat.reduceEqDiff, Nat.succ_ne_zero, Nat.one_ne_zero, Nat.zero_ne_one]
     refine zS ?_
     refine zR (zO (by simp [Zh hT rfl, ↓Zm, -Zb, HH2, hew0, hlb]; rfl) ?_)
     simp only [zT, zB]
     refine Zd ?_
     simp [Zh hT rfl, ↓Zm, -Zb, HH2, hew0, hlb, trim, Ya]
   ·have tk : (ac.map rW).take (p + 1) = ac.map rW := List.take_of_length_le (by simp [hacl])
    have hol := outL_len (d := e) hn hx1 hx2
    rw [← hac, hacl] at hol
    have hst := rW_st ac
    have hr1 := rW_one ac
    have hfr := fun n h r => XP (rW_frN n h 4 ac) r
    have hfr0 := fun n h => rW_frN n h 4 ac
    have hrj := rW_rb 2 4 ac
    have hfzz := fun H d => rW_frz H d ac
    have hol2 : p + 1 ≤ 1024 := hol
    have HH6 := zA hew0 (zA hlb (zA hol2 (zA tk (zA hacl hfr0))))
    have HH7 := zA hst (zA hr1 (zA hfr (zA hrj hfzz)))
    refine zS ?_
    refine zS ?_
    refine zR (zO (by simp [Zh hT rfl, ↓Zm, -Zb, HH2, -List.all_map, HH6, ↓HH7]; rfl) ?_)
    simp only [zT, zB]
    refine Ze (x := decide (i < N)) (by simp) (fun hlt => ?_) (fun hlt => ?_)
    ·have hlt2 := of_decide_eq_true hlt
     have hxn : x < n := by omega
     have hi0 : 0 ≤ i := by omega
     have hwi : W .i64 (i + 1) = i + 1 := ZD (by omega)
     have hxs := outL_succ (n := n) (d := e) hx1
     have hsl := sets_len (d := e) (b := b ++ [x]) hn
     have e93 := o93_eq (n := n) (d := e) (b := b ++ [x]) (N := N) (K := K) hn (by intro y hy; rcases List.mem_append.1 hy with h | h; exact hb y h; simp at h; omega) (Nat.lt_succ_self e) (by simp; omega) hN (by rw [hk]; simp; omega)
     have hew : Yw (b ++ [x]) = .vl (b.map rN ++ [[I i]]) false := by unfold Yw; rw [hix]; simp [rN]
     rw [hew] at e93
     try rw [hbm, List.nil_append] at e93
     unfold Ya at e93
     generalize XA n e (b ++ [x]) = X at *
     generalize (e == 0 || X.isEmpty) = fl at *
     by_cases hX : X = []
     ·subst hX
      refine zK ?_
      simp only [zT, zB]
      refine zS ?_
      refine zL ?_
      refine zR (zO (by simp [Zh hT rfl, ↓Zm, -Zb, HH2, -List.all_map, HH6, ↓HH7, hi0, hwi, e93, Ya]; rfl) ?_)
      simp only [zT, zB]
      refine zR (zO (by simp [Zh hT rfl, ↓Zm, -Zb, HH2, -List.all_map, HH6, ↓HH7, hi0, hwi, e93, Ya]; rfl) ?_)
      simp only [zT, zB]
      exact ⟨n - (x + 1), _, _, by omega, by simp [Zh hT rfl, ↓Zm, -Zb, HH2, -List.all_map, HH6, ↓HH7, hi0, hwi, e93, Ya] <;> first | rfl | exact ⟨rfl, rfl⟩, x + 1, i + 1, by omega, rfl, by omega, by omega, .inr ⟨p, ac, by rw [hxs, ← hac, List.append_nil], hacl, rfl⟩⟩
     ·have hst' := rW_st X
      have hr1' := rW_one X
      have hXn : ¬ X = [] := hX
      have hie : X.isEmpty = false := by cases X with
       | nil => exact absurd rfl hX
       | cons y l => rfl
      obtain ⟨q0, hq0⟩ : ∃ q, X.length = q + 1 := ⟨X.length - 1, by have := List.length_pos_iff.2 hX; omega⟩
      have hq6 : q0 ≤ 1048575 := by omega
      have hq7 : ∀ p, p + 1 ≤ 1024 → p + 1 + (q0 + 1) ≤ 1048576 := by intro p h; omega
      have hX6 : X.length ≤ 1048576 := by omega
      have hXz : ¬ X.length = 0 := by simpa using hX
      have hrj' := rW_rb 2 4 X
      have hfr' := fun n h r => XP (rW_frN n h 4 X) r
      have hfr0' := fun n h => rW_frN n h 4 X
      have hfzz' := fun H d => rW_frz H d X
      have htk' : (X.map rW).take X.length = X.map rW := List.take_of_length_le (by simp)
      have HH8 := zA hi0 (zA hwi (zA e93 (zA hq0 (zA hq6 (zA hq7 (zA hXn (zA hie (zA hX6 (zA hfr0' (zA hXz htk'))))))))))
      have HH9 := zA hst' (zA hr1' (zA hrj' (zA hfr' hfzz')))
      refine zK ?_
      simp only [zT, zB]
      refine zS ?_
      refine zL ?_
      refine zR (zO (by simp [Zh hT rfl, ↓Zm, -Zb, HH2, -List.all_map, HH6, ↓HH7, Ya, HH8, ↓HH9]; rfl) ?_)
      simp only [zT, zB]
      refine zR (zO (by simp [Zh hT rfl, ↓Zm, -Zb, HH2, -List.all_map, HH6, ↓HH7, Ya, HH8, ↓HH9]; rfl) ?_)
      simp only [zT, zB]
      exact ⟨n - (x + 1), _, _, by omega, by simp [Zh hT rfl, ↓Zm, -Zb, HH2, -List.all_map, HH6, ↓HH7, Ya, HH8, ↓HH9] <;> first | rfl | exact ⟨rfl, rfl⟩, x + 1, i + 1, by omega, rfl, by omega, by omega, .inr ⟨p + 1 + q0, ac ++ X, by rw [hxs, ← hac], by rw [List.length_append]; omega, by first | rfl | (rw [List.map_append]; rfl) | (simp [hq0]; omega)⟩⟩
    ·have hlt2 := of_decide_eq_false hlt
     obtain rfl : x = n := by omega
     rw [outL_end] at hac
     rw [← hac]
     have hie : ac.isEmpty = false := by cases ac with
      | nil => simp at hacl
      | cons y l => rfl
     refine Zl ?_
     simp only [zT, zB, if_true, if_false, reduceIte, Nat.reduceEqDiff, Nat.succ_ne_zero, Nat.one_ne_zero, Nat.zero_ne_one]
     refine zS ?_
     refine zR (zO (by simp [Zh hT rfl, ↓Zm, -Zb, HH2, -List.all_map, HH6, ↓HH7, hie]; rfl) ?_)
     simp only [zT, zB]
     refine Zd ?_
     simp [Zh hT rfl, ↓Zm, -Zb, HH2, -List.all_map, HH6, ↓HH7, hie, trim, Ya]
  ·obtain ⟨p0, hp0⟩ : ∃ p, b.length = p + 1 := ⟨b.length - 1, by cases b <;> simp_all⟩
   have hlt0 : p0 < b.length := by omega
   obtain ⟨bI, hbI⟩ : ∃ x : Int, (b.length : Int) = x := ⟨_, rfl⟩
   have hgt : decide (0 < bI) = true := by simp; omega
   have hwb : W .i64 (bI - 1) = bI - 1 := ZD (by omega)
   have hb0 : 0 ≤ bI - 1 := by omega
   have htb : (bI - 1).toNat = p0 := by omega
   have g1 : (b.map rN)[p0]? = some (rN b[p0]) := by rw [List.getElem?_map, List.getElem?_eq_getElem hlt0]; rfl
   have g2 : ∀ (h : p0 < (b.map rN).length), (b.map rN)[p0]'h = rN b[p0] := fun h => by simp
   have hnx : Xd b = b[p0] + 1 := by
    unfold Xd; rw [List.getLast?_eq_getElem?, hp0]; simp [hlt0]
   have hzn := hb _ (List.getElem_mem hlt0)
   generalize hz : b[p0] = z at *
   obtain ⟨zI, hzI⟩ : ∃ x : Int, (z : Int) = x := ⟨_, rfl⟩
   have hwz : W .i64 (zI + 1) = zI + 1 := ZD (by omega)
   have hrn : rN z = [I zI] := by rw [← hzI]; rfl
   rw [hrn] at g1 g2
   have hbe : b.isEmpty = false := by cases b <;> simp_all
   have hbn : ¬ b = [] := hB
   have hb6 : b.length ≤ 1048576 := by omega
   have lv2 : Zb (.vl (b.map rN) false) = some b.length := by rw [Zw (x := .vl (b.map rN) false) (rs := b.map rN) rfl, List.length_map]
   have h1b : 1 ≤ bI := by omega
   have hrn1 : ∀ x, (rN x).length = 1 := fun _ => rfl
   have hrn2 : ∀ x, ∀ y ∈ rN x, ZB y = true := by
    intro x y h
    simp only [rN, List.mem_singleton] at h
    subst h; rfl
   have hrn3 : ∀ x, (∀ y, y ∈ rN x → ZB y = true) = True := fun x => eq_true (hrn2 x)
   have htkb : (b.map rN).take b.length = b.map rN := List.take_of_length_le (by simp)
   have htk2 : ∀ c, (b.map rN ++ [c]).take (b.length + 1) = b.map rN ++ [c] := fun c => List.take_of_length_le (by simp)
   have hfb := fun H d r => XP (rN_frz H d b) r
   have hfb' := fun n H d r => XP (rN_frN n H d b) r
   have hfb0 := fun H d => rN_frz H d b
   have hb7 : b.length + 1 ≤ 1048576 := by omega
   have hb8 : b.length ≤ 1048575 := by omega
   have HH10 := zA h1b (zA hrn1 (zA hrn3 (zA htk2 (zA htkb (zA hfb0 (zA hb7 (zA hb8 (zA hbI (zA hwb (zA hb0 (zA htb (zA g1 (zA g2 (zA hwz (zA hbe (zA hbn (zA hb6 (zA lv2 hlt0))))))))))))))))))
   refine Zc (x := true) (by simp [hgt, hbI] <;> omega) ?_
   refine zR (zO (by simp [Zh hT rfl, ↓Zm, -Zb, HH2, ↓hfb, ↓hfb', Yw, -List.getElem?_map, -List.getElem_map, HH10]; rfl) ?_)
   simp only [zT, zB]
   refine zS ?_
   refine zS ?_
   refine zR (zO (by simp [Zh hT rfl, ↓Zm, -Zb, HH2, ↓hfb, ↓hfb', Yw, -List.getElem?_map, -List.getElem_map, HH10]; rfl) ?_)
   simp only [zT, zB]
   refine zL ?_
   refine runs_loopG_inv (fun mm σ => ∃ (x : Nat) (i : Int), i = x ∧ n - x = mm ∧ Xd b ≤ x ∧ x ≤ n ∧ ((outL n e b x = [] ∧ σ = ⟨[I N, I K, .vl (b.map rN) false, .any, .any, .any, .any, .sl 1 0 0 true, .any, I i, .any, .any, .any, .any, .any, .any, .any, .any, .any, .any, .any, .any, .any, .any, .any, .any, .any, .any, .any, .any, .any, .any, .any, .any, .any, .any, .any, .any, .any, .any, .any, .any, .any, .any, .any], [none, some (.row 1 [])]⟩) ∨ (∃ (p : Nat) (ac : List (List Nat)), ac = outL n e b x ∧ ac.length = p + 1 ∧ σ = ⟨[I N, I K, .vl (b.map rN) false, .any, .any, .any, .any, .sl 1 0 (p + 1) false, .any, I i, .any, .any, .any, .any, .any, .any, .any, .any, .any, .any, .any, .any, .any, .any, .any, .any, .any, .any, .any, .any, .any, .any, .any, .any, .any, .any, .any, .any, .any, .any, .any, .any, .any, .any, .any], [none, some (.row 1 (ac.map rW))]⟩))) (by simp [Zh hT rfl, ↓Zm, -Zb, HH2, ↓hfb, ↓hfb', Yw, -List.getElem?_map, -List.getElem_map, HH10] <;> first | exact ⟨rfl, rfl⟩ | rfl) (⟨Xd b, zI + 1, by rw [hnx]; omega, rfl, Nat.le_refl _, next_lt hb, .inl ⟨outL_zero n e b, by first | rfl | simp⟩⟩) ?_
   rintro mm σ ⟨x, i, hix, rfl, hx1, hx2, ⟨hac0, rfl⟩ | ⟨p, ac, hac, hacl, rfl⟩⟩
   ·refine zS ?_
    refine zS ?_
    refine zR (zO (by simp [Zh hT rfl, ↓Zm, -Zb, HH2, ↓hfb, ↓hfb', Yw, -List.getElem?_map, -List.getElem_map, HH10]; rfl) ?_)
    simp only [zT, zB]
    refine Ze (x := decide (i < N)) (by simp) (fun hlt => ?_) (fun hlt => ?_)
    ·have hlt2 := of_decide_eq_true hlt
     have hxn : x < n := by omega
     have hi0 : 0 ≤ i := by omega
     have hwi : W .i64 (i + 1) = i + 1 := ZD (by omega)
     have hxs := outL_succ (n := n) (d := e) hx1
     have hsl := sets_len (d := e) (b := b ++ [x]) hn
     have e93 := o93_eq (n := n) (d := e) (b := b ++ [x]) (N := N) (K := K) hn (by intro y hy; rcases List.mem_append.1 hy with h | h; exact hb y h; simp at h; omega) (Nat.lt_succ_self e) (by simp; omega) hN (by rw [hk]; simp; omega)
     have hew : Yw (b ++ [x]) = .vl (b.map rN ++ [[I i]]) false := by unfold Yw; rw [hix]; simp [rN]
     rw [hew] at e93
     try rw [hbm, List.nil_append] at e93
     unfold Ya at e93
     generalize XA n e (b ++ [x]) = X at *
     generalize (e == 0 || X.isEmpty) = fl at *
     by_cases hX : X = []
     ·subst hX
      refine zK ?_
      simp only [zT, zB]
      refine zS ?_
      refine zL ?_
      refine zR (zO (by simp [Zh hT rfl, ↓Zm, -Zb, HH2, ↓hfb, ↓hfb', Yw, -List.getElem?_map, -List.getElem_map, HH10, hi0, hwi, e93, Ya]; rfl) ?_)
      simp only [zT, zB]
      refine zR (zO (by simp [Zh hT rfl, ↓Zm, -Zb, HH2, ↓hfb, ↓hfb', Yw, -List.getElem?_map, -List.getElem_map, HH10, hi0, hwi, e93, Ya]; rfl) ?_)
      simp only [zT, zB]
      exact ⟨n - (x + 1), _, _, by omega, by simp [Zh hT rfl, ↓Zm, -Zb, HH2, ↓hfb, ↓hfb', Yw, -List.getElem?_map, -List.getElem_map, HH10, hi0, hwi, e93, Ya] <;> first | rfl | exact ⟨rfl, rfl⟩, x + 1, i + 1, by omega, rfl, by omega, by omega, .inl ⟨by rw [hxs, hac0]; rfl, rfl⟩⟩
     ·have hst' := rW_st X
      have hr1' := rW_one X
      have hXn : ¬ X = [] := hX
      have hie : X.isEmpty = false := by cases X with
       | nil => exact absurd rfl hX
       | cons y l => rfl
      obtain ⟨q0, hq0⟩ : ∃ q, X.length = q + 1 := ⟨X.length - 1, by have := List.length_pos_iff.2 hX; omega⟩
      have hq6 : q0 ≤ 1048575 := by omega
      have hq7 : ∀ p, p + 1 ≤ 1024 → p + 1 + (q0 + 1) ≤ 1048576 := by intro p h; omega
      have hX6 : X.length ≤ 1048576 := by omega
      have hXz : ¬ X.length = 0 := by simpa using hX
      have hrj' := rW_rb 2 4 X
      have hfr' := fun n h r => XP (rW_frN n h 4 X) r
      have hfr0' := fun n h => rW_frN n h 4 X
      have hfzz' := fun H d => rW_frz H d X
      have htk' : (X.map rW).take X.length = X.map rW := List.take_of_length_le (by simp)
      have HH11 := zA hi0 (zA hwi (zA e93 (zA hq0 (zA hq6 (zA hq7 (zA hXn (zA hie (zA hX6 (zA hfr0' (zA hXz htk'))))))))))
      have HH12 := zA hfb (zA hfb' (zA hst' (zA hr1' (zA hrj' (zA hfr' hfzz')))))
      refine zK ?_
      simp only [zT, zB]
      refine zS ?_
      refine zL ?_
      refine zR (zO (by simp [Zh hT rfl, ↓Zm, -Zb, HH2, Yw, -List.getElem?_map, -List.getElem_map, HH10, Ya, -List.all_map, HH11, ↓HH12]; rfl) ?_)
      simp only [zT, zB]
      refine zR (zO (by simp [Zh hT rfl, ↓Zm, -Zb, HH2, Yw, -List.getElem?_map, -List.getElem_map, HH10, Ya, -List.all_map, HH11, ↓HH12]; rfl) ?_)
      simp only [zT, zB]
      exact ⟨n - (x + 1), _, _, by omega, by simp [Zh hT rfl, ↓Zm, -Zb, HH2, Yw, -List.getElem?_map, -List.getElem_map, HH10, Ya, -List.all_map, HH11, ↓HH12] <;> first | rfl | exact ⟨rfl, rfl⟩, x + 1, i + 1, by omega, rfl, by omega, by omega, .inr ⟨q0, X, by rw [hxs, hac0]; rfl, hq0, rfl⟩⟩
    ·have hlt2 := of_decide_eq_false hlt
     obtain rfl : x = n := by omega
     rw [outL_end] at hac0
     rw [hac0]
     refine Zl ?_
     simp only [zT, zB, if_true, if_false, reduceIte, Nat.reduceEqDiff, Nat.succ_ne_zero, Nat.one_ne_zero, Nat.zero_ne_one]
     refine zS ?_
     refine zR (zO (by simp [Zh hT rfl, ↓Zm, -Zb, HH2, ↓hfb, ↓hfb', Yw, -List.getElem?_map, -List.getElem_map, HH10]; rfl) ?_)
     simp only [zT, zB]
     refine Zd ?_
     simp [Zh hT rfl, ↓Zm, -Zb, HH2, ↓hfb, ↓hfb', Yw, -List.getElem?_map, -List.getElem_map, HH10, trim, Ya]
   ·have tk : (ac.map rW).take (p + 1) = ac.map rW := List.take_of_length_le (by simp [hacl])
    have hol := outL_len (d := e) hn hx1 hx2
    rw [← hac, hacl] at hol
    have hst := rW_st ac
    have hr1 := rW_one ac
    have hfr := fun n h r => XP (rW_frN n h 4 ac) r
    have hfr0 := fun n h => rW_frN n h 4 ac
    have hrj := rW_rb 2 4 ac
    have hfzz := fun H d => rW_frz H d ac
    have hol2 : p + 1 ≤ 1024 := hol
    have HH13 := zA hfb (zA hfb' (zA hst (zA hr1 (zA hfr (zA hrj hfzz)))))
    refine zS ?_
    refine zS ?_
    refine zR (zO (by simp [Zh hT rfl, ↓Zm, -Zb, HH2, Yw, -List.getElem?_map, -List.getElem_map, HH10, hol2, tk, hacl, hfr0, -List.all_map, ↓HH13]; rfl) ?_)
    simp only [zT, zB]
    refine Ze (x := decide (i < N)) (by simp) (fun hlt => ?_) (fun hlt => ?_)
    ·have hlt2 := of_decide_eq_true hlt
     have hxn : x < n := by omega
     have hi0 : 0 ≤ i := by omega
     have hwi : W .i64 (i + 1) = i + 1 := ZD (by omega)
     have hxs := outL_succ (n := n) (d := e) hx1
     have hsl := sets_len (d := e) (b := b ++ [x]) hn
     have e93 := o93_eq (n := n) (d := e) (b := b ++ [x]) (N := N) (K := K) hn (by intro y hy; rcases List.mem_append.1 hy with h | h; exact hb y h; simp at h; omega) (Nat.lt_succ_self e) (by simp; omega) hN (by rw [hk]; simp; omega)
     have hew : Yw (b ++ [x]) = .vl (b.map rN ++ [[I i]]) false := by unfold Yw; rw [hix]; simp [rN]
     rw [hew] at e93
     try rw [hbm, List.nil_append] at e93
     unfold Ya at e93
     generalize XA n e (b ++ [x]) = X at *
     generalize (e == 0 || X.isEmpty) = fl at *
     by_cases hX : X = []
     ·subst hX
      have HH14 := zA hol2 (zA tk (zA hacl (zA hfr0 (zA hi0 (zA hwi e93)))))
      refine zK ?_
      simp only [zT, zB]
      refine zS ?_
      refine zL ?_
      refine zR (zO (by simp [Zh hT rfl, ↓Zm, -Zb, HH2, Yw, -List.getElem?_map, -List.getElem_map, HH10, -List.all_map, ↓HH13, Ya, HH14]; rfl) ?_)
      simp only [zT, zB]
      refine zR (zO (by simp [Zh hT rfl, ↓Zm, -Zb, HH2, Yw, -List.getElem?_map, -List.getElem_map, HH10, -List.all_map, ↓HH13, Ya, HH14]; rfl) ?_)
      simp only [zT, zB]
      exact ⟨n - (x + 1), _, _, by omega, by simp [Zh hT rfl, ↓Zm, -Zb, HH2, Yw, -List.getElem?_map, -List.getElem_map, HH10, -List.all_map, ↓HH13, Ya, HH14] <;> first | rfl | exact ⟨rfl, rfl⟩, x + 1, i + 1, by omega, rfl, by omega, by omega, .inr ⟨p, ac, by rw [hxs, ← hac, List.append_nil], hacl, rfl⟩⟩
     ·have hst' := rW_st X
      have hr1' := rW_one X
      have hXn : ¬ X = [] := hX
      have hie : X.isEmpty = false := by cases X with
       | nil => exact absurd rfl hX
       | cons y l => rfl
      obtain ⟨q0, hq0⟩ : ∃ q, X.length = q + 1 := ⟨X.length - 1, by have := List.length_pos_iff.2 hX; omega⟩
      have hq6 : q0 ≤ 1048575 := by omega
      have hq7 : ∀ p, p + 1 ≤ 1024 → p + 1 + (q0 + 1) ≤ 1048576 := by intro p h; omega
      have hX6 : X.length ≤ 1048576 := by omega
      have hXz : ¬ X.length = 0 := by simpa using hX
      have hrj' := rW_rb 2 4 X
      have hfr' := fun n h r => XP (rW_frN n h 4 X) r
      have hfr0' := fun n h => rW_frN n h 4 X
      have hfzz' := fun H d => rW_frz H d X
      have htk' : (X.map rW).take X.length = X.map rW := List.take_of_length_le (by simp)
      have HH15 := zA hol2 (zA tk (zA hacl (zA hfr0 (zA hi0 (zA hwi (zA e93 (zA hq0 (zA hq6 (zA hq7 (zA hXn (zA hie (zA hX6 (zA hfr0' (zA hXz htk'))))))))))))))
      have HH16 := zA hst' (zA hr1' (zA hrj' (zA hfr' hfzz')))
      refine zK ?_
      simp only [zT, zB]
      refine zS ?_
      refine zL ?_
      refine zR (zO (by simp [Zh hT rfl, ↓Zm, -Zb, HH2, Yw, -List.getElem?_map, -List.getElem_map, HH10, -List.all_map, ↓HH13, Ya, HH15, ↓HH16]; rfl) ?_)
      simp only [zT, zB]
      refine zR (zO (by simp [Zh hT rfl, ↓Zm, -Zb, HH2, Yw, -List.getElem?_map, -List.getElem_map, HH10, -List.all_map, ↓HH13, Ya, HH15, ↓HH16]; rfl) ?_)
      simp only [zT, zB]
      exact ⟨n - (x + 1), _, _, by omega, by simp [Zh hT rfl, ↓Zm, -Zb, HH2, Yw, -List.getElem?_map, -List.getElem_map, HH10, -List.all_map, ↓HH13, Ya, HH15, ↓HH16] <;> first | rfl | exact ⟨rfl, rfl⟩, x + 1, i + 1, by omega, rfl, by omega, by omega, .inr ⟨p + 1 + q0, ac ++ X, by rw [hxs, ← hac], by rw [List.length_append]; omega, by first | rfl | (rw [List.map_append]; rfl) | (simp [hq0]; omega)⟩⟩
    ·have hlt2 := of_decide_eq_false hlt
     obtain rfl : x = n := by omega
     rw [outL_end] at hac
     rw [← hac]
     have hie : ac.isEmpty = false := by cases ac with
      | nil => simp at hacl
      | cons y l => rfl
     have HH17 := zA hol2 (zA tk (zA hacl (zA hfr0 hie)))
     refine Zl ?_
     simp only [zT, zB, if_true, if_false, reduceIte, Nat.reduceEqDiff, Nat.succ_ne_zero, Nat.one_ne_zero, Nat.zero_ne_one]
     refine zS ?_
     refine zR (zO (by simp [Zh hT rfl, ↓Zm, -Zb, HH2, Yw, -List.getElem?_map, -List.getElem_map, HH10, -List.all_map, ↓HH13, HH17]; rfl) ?_)
     simp only [zT, zB]
     refine Zd ?_
     simp [Zh hT rfl, ↓Zm, -Zb, HH2, Yw, -List.getElem?_map, -List.getElem_map, HH10, -List.all_map, ↓HH13, HH17, trim, Ya]
end
end
end Go.Proofs.YtpebmjeomlgmdaaDoor.Tab
namespace Go.Proofs.YtpebmjeomlgmdaaDoor.Tab
open Go Go.Abs Go.Proofs
set_option maxRecDepth 100000
set_option maxHeartbeats 4000000
set_option linter.unusedSimpArgs false
set_option linter.unusedVariables false
noncomputable section
attribute [local simp] Yv Ye Xo Xp YC Yy Xq YJ YV Yp Zf orcF Xj YI Xl Xh YH Yn rb_vl rb_pv Xf YG YF YE Xk Xg Xi rb_sl rb_fn slE XC YX Yd ZG Xs List.range_succ List.range_zero List.range'_succ List.range'_zero ZX ZV Zz ZZ ZJ ZN YZ ZU dop CV.ev Yf Zu ZC YP XX Yg ZS ZE Zq Out.v Xr List.replicate_succ zT zB arI ZF Abs.rowAt Xe allV toV toC ofV ofC Builtin.min_ Builtin.min2 Builtin.max_ Builtin.max2 Xm Xn resA XU Xb ZW Yk Yl Yj Zb
section
attribute [local simp] ZY ZK YL YD XN Xc disj YN XS YO ZO YQ news eqB YU eqA YB YW toCs ofCs stA Ym ZL Yi dI1 dI2 dI3 dI5 elt
attribute [local simp] st_any st_und st_agg st_tup XH st_int XE st_ref st_pv XD st_sl st_vl XF st_mp st_fn XG st_yld co_any co_und co_agg co_tup XM co_int XJ co_ref co_pv XI co_sl co_vl XK co_mp co_fn XL co_yld
def DM0 : Nat → Option CFn := updG DJ1 93 [(647, [.slot 7])] []
theorem DM0_ok : Zv Tryd.prog GG DM0 := tab_updG DJ1_ok
theorem dI1_back : ∀ {rs : List (List Za)} {l : List Int}, Zf dI1 rs = some l → (∀ x ∈ l, 0 ≤ x) → rs = (l.map Int.toNat).map rN := by
  intro rs l h hl
  have hd : ∀ {r : List Za} {x : Int}, dI1 r = some x → r = [I x] := by
    intro r x h
    unfold dI1 at h
    split at h <;> simp at h
    subst h; rfl
  have h1 : rs = l.map (fun x : Int => [I x]) := Ys (enc := fun x : Int => [I x]) (fun _ _ => hd) h
  rw [h1, List.map_map]
  refine List.map_congr_left fun x hx => ?_
  have := hl x hx
  simp only [Function.comp, rN, Int.toNat_of_nonneg this]
theorem sets_good : ∀ (D : Nat) (args : List Za) (v : Za), o93 D args = some v → OrcGood Tryd.prog GG false 93 args v
  | 0, args, v, ho => by
    unfold o93 at ho; split at ho <;> (try simp only [reduceCtorEq] at ho)
    split at ho <;> (try simp only [reduceCtorEq] at ho)
    split at ho <;> (try simp only [reduceCtorEq] at ho)
    rename_i hg
    exact absurd hg.2.2.2.2.1 (by have := hg.2.2.2.1; omega)
  | D + 1, args, v, ho => by
    have ho' := ho
    unfold o93 at ho; split at ho <;> (try simp only [reduceCtorEq] at ho)
    rename_i n K rs t
    split at ho <;> (try simp only [reduceCtorEq] at ho)
    rename_i l hl
    split at ho <;> (try simp only [reduceCtorEq] at ho)
    rename_i hg
    obtain ⟨⟨g1, g2⟩, g3, g4, g5, g6, g7⟩ := hg
    simp only [Option.some.injEq] at ho
    obtain rfl := dI1_back hl fun x hx => (g4 x hx).1
    obtain ⟨m, rfl⟩ : ∃ m : Nat, n = m := ⟨n.toNat, by omega⟩
    have hbl : (l.map Int.toNat).length = l.length := by simp
    have hbb : ∀ x ∈ l.map Int.toNat, x < m := by
      intro x hx
      obtain ⟨y, hy, rfl⟩ := List.mem_map.1 hx
      have := g4 y hy; omega
    have hbe : t = (l.map Int.toNat).isEmpty := by rw [g3]; cases l <;> rfl
    generalize l.map Int.toNat = b at *
    have hw : Za.vl (b.map rN) t = Yw b := by rw [hbe]; rfl
    by_cases hd : K.toNat - b.length < D
    · refine sets_good D _ _ ?_
      rw [hw, o93_eq (n := m) (d := K.toNat - b.length) (e := D) (by omega) hbb hd (by omega) rfl (by omega), ← ho, hbl]; rfl
    · have hk : K.toNat - b.length = D := by omega
      have hn0 : dropE (o93 D) [I m, I K, Yw b] [] = none := by
        have f1 := fun H d => Zt (x := Yw b) (rs := b.map rN) rfl H d
        unfold dropE
        split
        · rename_i ass e
          have ha : ass = [I m, I K, Yw b] := by
            simp [f1] at e
            exact e.symm
          rw [ha, o93_none (n := m) (d := D) rfl (by omega)]
        · rfl
      have := orc_of mixed (fr := false) (tab_drop DM0_ok (f := 93) (sp := o93 D) (sets_good D)) (a93 Tryd.prog (updE DM0 93 (dropE (o93 D))) D m b m K rfl hn0 (by omega) rfl hbb (by omega) (by omega))
      rw [hw]
      have hv : v = Ya D (XA m D b) := by rw [← ho, ← hbl, hk]; rfl
      rw [hv]; exact this
def DM1 : Nat → Option CFn := updE DM0 93 (dropE (o93 11))
theorem DM1_ok : Zv Tryd.prog GG DM1 := tab_drop DM0_ok (sets_good 11)
end
section
attribute [local simp] ZY ZK YL YD XN Xc disj YN XS YO ZO YQ news eqB YU eqA YB YW toCs ofCs stA Ym ZL Yi dI1 dI2 dI3 dI5 elt
attribute [local simp] st_any st_und st_agg st_tup XH st_int XE st_ref st_pv XD st_sl st_vl XF st_mp st_fn XG st_yld co_any co_und co_agg co_tup XM co_int XJ co_ref co_pv XI co_sl co_vl XK co_mp co_fn XL co_yld
attribute [local simp] List.all_append Yq Zo dropE frzG gather getR lim lop Yr lowA lowR okG onlyJ ptrs putG putH putR rbB_none rbB_row resG rowAt setH takeG
def encF (L : List (List Nat)) : Za := if L.isEmpty then .nils else .vl (L.map rW) false
theorem a71 (P : Program) (T : Nat → Option CFn) (hT : T 71 = some { c71 with body := annK [(1927, [.slot 9])] [] c71.body }) (h93 : T 93 = some { c93 with body := annK [(647, [.slot 7])] [] c93.body, frsh := false, orc := fun _ => none, eff := dropE (o93 11) }) (h74 : T 74 = some { c74 with frsh := true, orc := o74 }) (cs : Cs) (c : Za) (hc : YK c = some cs) (hk : CsOk cs) (se mi : Nat) (h1 : se < 4096) (h2 : mi < 4096) (p : List Nat → Bool) (hp : p = fun l => explR cs l se mi) : Zn P T 71 [c, I (se : Nat), I (mi : Nat)] [] fun v h => frz false h 5 v = some (encF (foundS cs.length p)) := by
 have hk1 : cs.length ≤ 10 := hk.1
 obtain ⟨hx, hbc⟩ := XR hc
 have lx := Zw hx
 rw [List.length_map] at lx
 have rx := fun n d => ZH hx n d
 have fx := fun H d => Zt hx H d
 obtain ⟨cx1, cx2⟩ := Zp hx
 refine Zj hT (Zk rfl) ?_
 simp only [oo, om, op, og, ci, cl, c71, annK, lkG, lkR, reduceIte, Nat.reduceEqDiff, reduceCtorEq, List.cons.injEq, and_true, and_false, false_and, true_and]
 have HH1 := zA h74 (zA lx (zA rx (zA fx (zA cx1 cx2))))
 refine zS ?_
 refine zR (zO (by simp [zC h74, -Zb, HH1]; rfl) ?_)
 simp only [zT, zB]
 refine zS ?_
 refine zS ?_
 refine zR (zO (by simp [zC h74, -Zb, HH1]; rfl) ?_)
 simp only [zT, zB]
 refine zL ?_
 refine Zy (fun m σ => ∃ (k : Nat) (K : Int), K = k ∧ cs.length + 1 - k = m ∧ k ≤ cs.length + 1 ∧ firstS cs.length p (cs.length + 1 - k) k = foundS cs.length p ∧ σ = ⟨[c, I (se : Nat), I (mi : Nat), .any, .any, .any, .any, I K, .any, .any, .any, .any, .any, .any, .any, .any, .any, .any, .any, .any, .any, .any, .any, .any, .any, .any, .any, .any, .any, .any, .any, .any, .any, .any, .any, .any, .any, .any, .any, .any, .any, .any, .any, .any, .any, .any, .any, .any], []⟩) ?_ (cs.length + 1 - 0) _ ⟨0, 0, rfl, rfl, Nat.zero_le _, rfl, by simp⟩
 rintro m σ ⟨k, K, hK, rfl, hkl, hR, rfl⟩
 refine zS ?_
 refine zS ?_
 refine zR (zO (by simp [zC h74, -Zb, HH1]; rfl) ?_)
 simp only [zT, zB]
 refine Ze (x := decide (K ≤ (cs.length : Int))) (by simp) (fun hle => ?_) (fun hle => ?_)
 ·have hle := of_decide_eq_true hle
  have hkn : k ≤ cs.length := by omega
  have hwK : W .i64 (K + 1) = K + 1 := ZD (by omega)
  have e93 : o93 11 [I (cs.length : Nat), I K, .vl [] true] = some (Ya k (XA cs.length k [])) := o93_eq (n := cs.length) (d := k) (b := []) (e := 11) hk.1 (by simp) (by omega) (by simp; omega) rfl (by simp; omega)
  have hAl := sets_len (d := k) (b := []) hk.1
  have hAm : ∀ l ∈ XA cs.length k [], l.length ≤ 10 ∧ ∀ x ∈ l, x < cs.length := by
   intro l hl
   obtain ⟨m, e, h1, h2, h3⟩ := (mem_sets List.Pairwise.nil (by simp)).1 hl
   rw [List.nil_append] at e
   subst e
   exact ⟨by omega, by assumption⟩
  rw [show cs.length + 1 - k = (cs.length - k) + 1 by omega] at hR
  unfold firstS at hR
  unfold setsOf at hR
  unfold Ya at e93
  generalize XA cs.length k [] = A at *
  generalize (k == 0 || A.isEmpty) = fl at *
  refine zK ?_
  simp only [zT, zB]
  refine zS ?_
  refine zL ?_
  refine zS ?_
  refine zR (zO (by simp [zC h74, -Zb, HH1, hwK, e93, Zh h93 rfl, h93, ↓Zm]; rfl) ?_)
  simp only [zT, zB]
  refine zS ?_
  refine zS ?_
  refine zR (zO (by simp [zC h74, -Zb, HH1, hwK, e93, Zh h93 rfl, h93, ↓Zm]; rfl) ?_)
  simp only [zT, zB]
  refine zL ?_
  refine runs_loopG_inv (fun mm σ => ∃ (j : Nat) (J : Int), J = j ∧ A.length - j = mm ∧ j ≤ A.length ∧ (((A.take j).filter p = [] ∧ σ = ⟨[c, I (se : Nat), I (mi : Nat), .any, .any, .any, .any, I K, .vl (A.map rW) fl, .sl 2 0 0 true, I J, .any, .any, .any, .any, .any, .any, .any, .any, .any, .any, .any, .any, .any, .any, .any, .any, .any, .any, .any, .any, .any, .any, .any, .any, .any, .any, .any, .any, .any, .any, .any, .any, .any, .any, .any, .any, .any], [none, none, some (.row 1 [])]⟩) ∨ (∃ (pp : Nat) (ac : List (List Nat)), ac = (A.take j).filter p ∧ ac.length = pp + 1 ∧ σ = ⟨[c, I (se : Nat), I (mi : Nat), .any, .any, .any, .any, I K, .vl (A.map rW) fl, .sl 2 0 (pp + 1) false, I J, .any, .any, .any, .any, .any, .any, .any, .any, .any, .any, .any, .any, .any, .any, .any, .any, .any, .any, .any, .any, .any, .any, .any, .any, .any, .any, .any, .any, .any, .any, .any, .any, .any, .any, .any, .any, .any], [none, none, some (.row 1 (ac.map rW))]⟩))) (by simp [zC h74, -Zb, HH1, hwK, e93, Zh h93 rfl, h93, ↓Zm] <;> first | exact ⟨rfl, rfl⟩ | rfl) (⟨0, 0, rfl, rfl, Nat.zero_le _, .inl ⟨rfl, rfl⟩⟩) ?_
  rintro mm σ ⟨j, J, hJ, rfl, hjl, ⟨hac0, rfl⟩ | ⟨pp, ac, hac, hacl, rfl⟩⟩
  ·refine zS ?_
   refine zS ?_
   refine zR (zO (by simp [zC h74, -Zb, HH1, hwK, e93, Zh h93 rfl, h93, ↓Zm]; rfl) ?_)
   simp only [zT, zB]
   refine Ze (x := decide (J < (A.length : Int))) (by simp) (fun hlj => ?_) (fun hlj => ?_)
   ·have hlj := of_decide_eq_true hlj
    have hj0 : j < A.length := by omega
    have hJ0 : 0 ≤ J := by omega
    have htJ : J.toNat = j := by omega
    have hwJ : W .i64 (J + 1) = J + 1 := ZD (by omega)
    have hEt : A.take (j + 1) = A.take j ++ [A[j]] := List.take_succ_eq_append_getElem hj0
    have hm := hAm _ (List.getElem_mem hj0)
    have g1 : (A.map rW)[j]? = some (rW A[j]) := by rw [List.getElem?_map, List.getElem?_eq_getElem hj0]; rfl
    have g2 : ∀ h, (A.map rW)[j]'h = rW A[j] := fun h => by simp
    have e74 := o74_eq (v := Yw A[j]) (l := A[j]) (se := (se : Int)) (mi := (mi : Int)) hc (dNs_of (v := Yw A[j]) rfl (by intro x hx; have := hm.2 x hx; omega)) hm.1 hm.2 (by omega) (by omega)
    have hpx : p A[j] = explR cs A[j] se mi := by rw [hp]
    rw [Int.toNat_natCast, Int.toNat_natCast, ← hpx] at e74
    have rw5 := fun n d => W_rb A[j] n d
    have fw5 := fun H d => Zt (x := Yw A[j]) (rs := A[j].map rN) rfl H d
    have fn5 := fun n h d => frN_rb (n := n) (h := h) (d + 1) _ (rw5 n d)
    obtain ⟨cw1, cw2⟩ := Zp (x := Yw A[j]) (rs := A[j].map rN) rfl
    have hrl : rW A[j] = [Yw A[j]] := rfl
    generalize hX : A[j] = xm at *
    generalize hV : Yw xm = wv at *
    have HH2 := zA hwK (zA e93 (zA h93 (zA hJ0 (zA htJ (zA hj0 (zA hwJ (zA g1 (zA g2 (zA hrl (zA e74 (zA rw5 (zA fw5 (zA fn5 (zA cw1 cw2))))))))))))))
    refine zK ?_
    simp only [zT, zB]
    refine zS ?_
    refine zL ?_
    refine zS ?_
    refine zR (zO (by simp [zC h74, -Zb, HH1, Zh h93 rfl, ↓Zm, -List.getElem?_map, -List.getElem_map, HH2]; rfl) ?_)
    simp only [zT, zB]
    generalize hpb : p xm = pb at *
    cases pb
    ·have hfl : (A.take (j + 1)).filter p = (A.take j).filter p := by rw [hEt, List.filter_append]; simp [hpb]
     refine Zc (x := false) (by simp) ?_
     refine zK ?_
     simp only [zT, zB]
     refine zR (zO (by simp [zC h74, -Zb, HH1, Zh h93 rfl, ↓Zm, -List.getElem?_map, -List.getElem_map, HH2]; rfl) ?_)
     simp only [zT, zB]
     exact ⟨A.length - (j + 1), _, _, by omega, by simp [zC h74, -Zb, HH1, Zh h93 rfl, ↓Zm, -List.getElem?_map, -List.getElem_map, HH2] <;> first | rfl | exact ⟨rfl, rfl⟩, j + 1, J + 1, by omega, rfl, by omega, .inl ⟨by rw [hfl, hac0], rfl⟩⟩
    ·have hfl : (A.take (j + 1)).filter p = (A.take j).filter p ++ [xm] := by rw [hEt, List.filter_append]; simp [hpb]
     refine Zc (x := true) (by simp) ?_
     refine zR (zO (by simp [zC h74, -Zb, HH1, Zh h93 rfl, ↓Zm, -List.getElem?_map, -List.getElem_map, HH2]; rfl) ?_)
     simp only [zT, zB]
     refine zR (zO (by simp [zC h74, -Zb, HH1, Zh h93 rfl, ↓Zm, -List.getElem?_map, -List.getElem_map, HH2]; rfl) ?_)
     simp only [zT, zB]
     exact ⟨A.length - (j + 1), _, _, by omega, by simp [zC h74, -Zb, HH1, Zh h93 rfl, ↓Zm, -List.getElem?_map, -List.getElem_map, HH2] <;> first | rfl | exact ⟨rfl, rfl⟩, j + 1, J + 1, by omega, rfl, by omega, .inr ⟨0, [xm], by rw [hfl, hac0]; rfl, rfl, by simp [hrl]⟩⟩
   ·have hlj := of_decide_eq_false hlj
    obtain rfl : j = A.length := by omega
    rw [List.take_length] at hac0
    rw [if_pos hac0] at hR
    refine Zl ?_
    simp only [zT, zB, if_true, if_false, reduceIte, Nat.reduceEqDiff, Nat.succ_ne_zero, Nat.one_ne_zero, Nat.zero_ne_one]
    refine zS ?_
    refine zR (zO (by simp [zC h74, -Zb, HH1, hwK, e93, Zh h93 rfl, h93, ↓Zm]; rfl) ?_)
    simp only [zT, zB]
    refine Zc (x := false) (by simp) ?_
    refine zK ?_
    simp only [zT, zB]
    refine zR (zO (by simp [zC h74, -Zb, HH1, hwK, e93, Zh h93 rfl, h93, ↓Zm]; rfl) ?_)
    simp only [zT, zB]
    exact ⟨cs.length + 1 - (k + 1), by omega, k + 1, K + 1, by omega, rfl, by omega, by rw [← hR]; congr 1; omega, by simp [zC h74, -Zb, HH1, hwK, e93, Zh h93 rfl, h93, ↓Zm]⟩
  ·have tk : (ac.map rW).take (pp + 1) = ac.map rW := List.take_of_length_le (by simp [hacl])
   have hlac : pp + 1 + 1 ≤ 1048576 := by
    have h := List.length_filter_le p (A.take j)
    rw [← hac, hacl, List.length_take] at h; omega
   have hst := rW_st ac
   have hr1 := rW_one ac
   have hfr := fun n h r => XP (rW_frN n h 4 ac) r
   have hrj := rW_rb 2 4 ac
   have hfzz := fun H d => rW_frz H d ac
   have hie : ac.isEmpty = false := by cases ac with
    | nil => simp at hacl
    | cons y l => rfl
   have HH3 := zA hwK (zA e93 (zA h93 (zA tk (zA hlac hacl))))
   have HH4 := zA hst (zA hr1 (zA hfr (zA hrj hfzz)))
   refine zS ?_
   refine zS ?_
   refine zR (zO (by simp [zC h74, -Zb, HH1, Zh h93 rfl, ↓Zm, -List.all_map, HH3, ↓HH4]; rfl) ?_)
   simp only [zT, zB]
   refine Ze (x := decide (J < (A.length : Int))) (by simp) (fun hlj => ?_) (fun hlj => ?_)
   ·have hlj := of_decide_eq_true hlj
    have hj0 : j < A.length := by omega
    have hJ0 : 0 ≤ J := by omega
    have htJ : J.toNat = j := by omega
    have hwJ : W .i64 (J + 1) = J + 1 := ZD (by omega)
    have hEt : A.take (j + 1) = A.take j ++ [A[j]] := List.take_succ_eq_append_getElem hj0
    have hm := hAm _ (List.getElem_mem hj0)
    have g1 : (A.map rW)[j]? = some (rW A[j]) := by rw [List.getElem?_map, List.getElem?_eq_getElem hj0]; rfl
    have g2 : ∀ h, (A.map rW)[j]'h = rW A[j] := fun h => by simp
    have e74 := o74_eq (v := Yw A[j]) (l := A[j]) (se := (se : Int)) (mi := (mi : Int)) hc (dNs_of (v := Yw A[j]) rfl (by intro x hx; have := hm.2 x hx; omega)) hm.1 hm.2 (by omega) (by omega)
    have hpx : p A[j] = explR cs A[j] se mi := by rw [hp]
    rw [Int.toNat_natCast, Int.toNat_natCast, ← hpx] at e74
    have rw5 := fun n d => W_rb A[j] n d
    have fw5 := fun H d => Zt (x := Yw A[j]) (rs := A[j].map rN) rfl H d
    have fn5 := fun n h d => frN_rb (n := n) (h := h) (d + 1) _ (rw5 n d)
    obtain ⟨cw1, cw2⟩ := Zp (x := Yw A[j]) (rs := A[j].map rN) rfl
    have hrl : rW A[j] = [Yw A[j]] := rfl
    generalize hX : A[j] = xm at *
    generalize hV : Yw xm = wv at *
    have HH5 := zA hJ0 (zA htJ (zA hj0 (zA hwJ (zA g1 (zA g2 (zA hrl (zA e74 (zA rw5 (zA fw5 (zA fn5 (zA cw1 cw2)))))))))))
    refine zK ?_
    simp only [zT, zB]
    refine zS ?_
    refine zL ?_
    refine zS ?_
    refine zR (zO (by simp [zC h74, -Zb, HH1, Zh h93 rfl, ↓Zm, -List.all_map, HH3, ↓HH4, -List.getElem?_map, -List.getElem_map, HH5]; rfl) ?_)
    simp only [zT, zB]
    generalize hpb : p xm = pb at *
    cases pb
    ·have hfl : (A.take (j + 1)).filter p = (A.take j).filter p := by rw [hEt, List.filter_append]; simp [hpb]
     refine Zc (x := false) (by simp) ?_
     refine zK ?_
     simp only [zT, zB]
     refine zR (zO (by simp [zC h74, -Zb, HH1, Zh h93 rfl, ↓Zm, -List.all_map, HH3, ↓HH4, -List.getElem?_map, -List.getElem_map, HH5]; rfl) ?_)
     simp only [zT, zB]
     exact ⟨A.length - (j + 1), _, _, by omega, by simp [zC h74, -Zb, HH1, Zh h93 rfl, ↓Zm, -List.all_map, HH3, ↓HH4, -List.getElem?_map, -List.getElem_map, HH5] <;> first | rfl | exact ⟨rfl, rfl⟩, j + 1, J + 1, by omega, rfl, by omega, .inr ⟨pp, ac, by rw [hfl, ← hac], hacl, rfl⟩⟩
    ·have hfl : (A.take (j + 1)).filter p = (A.take j).filter p ++ [xm] := by rw [hEt, List.filter_append]; simp [hpb]
     refine Zc (x := true) (by simp) ?_
     refine zR (zO (by simp [zC h74, -Zb, HH1, Zh h93 rfl, ↓Zm, -List.all_map, HH3, ↓HH4, -List.getElem?_map, -List.getElem_map, HH5]; rfl) ?_)
     simp only [zT, zB]
     refine zR (zO (by simp [zC h74, -Zb, HH1, Zh h93 rfl, ↓Zm, -List.all_map, HH3, ↓HH4, -List.getElem?_map, -List.getElem_map, HH5]; rfl) ?_)
     simp only [zT, zB]
     exact ⟨A.length - (j + 1), _, _, by omega, by simp [zC h74, -Zb, HH1, Zh h93 rfl, ↓Zm, -List.all_map, HH3, ↓HH4, -List.getElem?_map, -List.getElem_map, HH5] <;> first | rfl | exact ⟨rfl, rfl⟩, j + 1, J + 1, by omega, rfl, by omega, .inr ⟨pp + 1, ac ++ [xm], by rw [hfl, ← hac], by simp [hacl], by rw [List.map_append]; simp [hrl]⟩⟩
   ·have hlj := of_decide_eq_false hlj
    obtain rfl : j = A.length := by omega
    rw [List.take_length] at hac
    have hne : ¬ A.filter p = [] := by rw [← hac]; intro h; rw [h] at hacl; simp at hacl
    rw [if_neg hne] at hR
    rw [← hR, ← hac]
    refine Zl ?_
    simp only [zT, zB, if_true, if_false, reduceIte, Nat.reduceEqDiff, Nat.succ_ne_zero, Nat.one_ne_zero, Nat.zero_ne_one]
    refine zS ?_
    refine zR (zO (by simp [zC h74, -Zb, HH1, Zh h93 rfl, ↓Zm, -List.all_map, HH3, ↓HH4]; rfl) ?_)
    simp only [zT, zB]
    refine Zc (x := true) (by simp <;> omega) ?_
    refine zS ?_
    refine zR (zO (by simp [zC h74, -Zb, HH1, Zh h93 rfl, ↓Zm, -List.all_map, HH3, ↓HH4, hie]; rfl) ?_)
    simp only [zT, zB]
    refine Zd ?_
    simp [zC h74, -Zb, HH1, Zh h93 rfl, ↓Zm, -List.all_map, HH3, ↓HH4, hie, trim, encF]
 ·have hle := of_decide_eq_false hle
  obtain rfl : k = cs.length + 1 := by omega
  rw [Nat.sub_self] at hR
  rw [← hR]
  refine Zl ?_
  simp only [zT, zB, if_true, if_false, reduceIte, Nat.reduceEqDiff, Nat.succ_ne_zero, Nat.one_ne_zero, Nat.zero_ne_one]
  refine zS ?_
  refine zR (zO (by simp [zC h74, -Zb, HH1]; rfl) ?_)
  simp only [zT, zB]
  refine Zd ?_
  simp [zC h74, -Zb, HH1, encF, firstS]
def foundR (cs : Cs) (se mi : Nat) : List (List Nat) := foundS cs.length fun l => explR cs l se mi
def o71 : List Za → Option Za
  | [c, .int .i64 se, .int .i64 mi] => match YK c with
    | some cs => if cs.length ≤ 10 ∧ (0 ≤ se ∧ se < 4096) ∧ (0 ≤ mi ∧ mi < 4096) then some (encF (foundR cs se.toNat mi.toNat)) else none
    | none => none
  | _ => none
theorem o71_eq {c : Za} {cs : Cs} (hc : YK c = some cs) (hl : cs.length ≤ 10) {se mi : Int} (h1 : 0 ≤ se ∧ se < 4096) (h2 : 0 ≤ mi ∧ mi < 4096) : o71 [c, I se, I mi] = some (encF (foundR cs se.toNat mi.toNat)) := by
  simp only [o71, hc]; rw [if_pos ⟨hl, h1, h2⟩]
def DO0 : Nat → Option CFn := updG DM1 71 [(1927, [.slot 9])] []
theorem DO0_ok : Zv Tryd.prog GG DO0 := tab_updG DM1_ok
def DO1 : Nat → Option CFn := upd DO0 71 false (o71)
theorem DO1_ok : Zv Tryd.prog GG DO1 := ZA mixed DO0_ok fun args v ho => by
  unfold o71 at ho; split at ho <;> (try simp only [reduceCtorEq] at ho)
  rename_i c se mi
  split at ho <;> (try simp only [reduceCtorEq] at ho)
  rename_i cs hc
  split at ho <;> (try simp only [reduceCtorEq] at ho)
  rename_i hg
  simp only [Option.some.injEq] at ho
  subst ho
  obtain ⟨sn, rfl⟩ : ∃ s : Nat, se = s := ⟨se.toNat, by omega⟩
  obtain ⟨mn, rfl⟩ : ∃ s : Nat, mi = s := ⟨mi.toNat, by omega⟩
  simp only [Int.toNat_natCast]
  exact a71 Tryd.prog DO0 rfl rfl rfl cs c hc ⟨hg.1, (XR hc).2⟩ sn mn (by omega) (by omega) _ rfl
end
section
attribute [local simp] ZY ZK YL YD XN Xc disj YN XS YO ZO YQ news eqB YU eqA YB YW toCs ofCs stA Ym ZL Yi dI1 dI2 dI3 dI5 elt
attribute [local simp] st_any st_und st_agg st_tup XH st_int XE st_ref st_pv XD st_sl st_vl XF st_mp st_fn XG st_yld co_any co_und co_agg co_tup XM co_int XJ co_ref co_pv XI co_sl co_vl XK co_mp co_fn XL co_yld
attribute [local simp] Yq Zo lop Yr
def XW (l : List (Int × Int)) (se mi : Int) : Int × List (List Nat) :=
  if XT l se mi = 0 then
    (if (foundR (toCs l) se.toNat mi.toNat).length = 0 then (9, []) else if (foundR (toCs l) se.toNat mi.toNat).length > 30 then (8, []) else (0, foundR (toCs l) se.toNat mi.toNat))
  else (XT l se mi, [])
def lawV (r : Int × List (List Nat)) : Za := .tup [encF r.2, I r.1]
theorem encF_rows (L : List (List Nat)) : Zs (encF L) = some (L.map rW) := by
  unfold encF
  cases L <;> rfl
def o32 : List Za → Option Za
  | [c, .int .i64 se, .int .i64 mi] => match Zs c with
    | some rs => match Zf dI2 rs with
      | some l => if l.length ≤ 1000 then some (lawV (XW l se mi)) else none
      | none => none
    | none => none
  | _ => none
theorem o32_eq {c : Za} {l : List (Int × Int)} (hc : Zs c = some (l.map rQ)) (hl : l.length ≤ 1000) (se mi : Int) : o32 [c, I se, I mi] = some (lawV (XW l se mi)) := by
  have := optAll_map (d := dI2) (enc := rQ) (fun _ => rfl) l
  simp only [o32, hc, this]; rw [if_pos hl]
theorem a32 (P : Program) (T : Nat → Option CFn) (hT : T 32 = some c32) (h70 : T 70 = some { c70 with frsh := true, orc := o70 }) (h71 : T 71 = some { c71 with body := annK [(1927, [.slot 9])] [] c71.body, frsh := false, orc := o71 }) (c : Za) (l : List (Int × Int)) (hc : Zs c = some (l.map rQ)) (hl : l.length ≤ 1000) (se mi : Int) : Zn P T 32 [c, I se, I mi] [] fun v h => frz false h 5 v = some (lawV (XW l se mi)) := by
 have lx := Zw hc
 rw [List.length_map] at lx
 have rx := fun n d => ZH hc n d
 have fx := fun H d => Zt hc H d
 obtain ⟨cx1, cx2⟩ := Zp hc
 have e70 := o70_eq hc hl se mi
 refine Zj hT (Zk rfl) ?_
 simp only [oo, om, op, og, ci, cl, c32]
 by_cases hE : XT l se mi = 0
 ·have hko := toCs_ok hE
  have hcc : YK c = some (toCs l) := dCauses_of (by rw [hc, rq_rc hE]) hko.2
  obtain ⟨_, _, hb, _⟩ := compE_ok hE
  have e71 := o71_eq hcc hko.1 (se := se) (mi := mi) (by omega) (by omega)
  have hv : XW l se mi = (if (foundR (toCs l) se.toNat mi.toNat).length = 0 then (9, []) else if (foundR (toCs l) se.toNat mi.toNat).length > 30 then (8, []) else (0, foundR (toCs l) se.toNat mi.toNat)) := by unfold XW; rw [if_pos hE]
  rw [hv]
  rw [hE] at e70
  generalize foundR (toCs l) se.toNat mi.toNat = F at *
  have hfr := encF_rows F
  have lf := Zw hfr
  rw [List.length_map] at lf
  have rf := fun n d => ZH hfr n d
  have ff := fun H d => Zt hfr H d
  obtain ⟨cf1, cf2⟩ := Zp hfr
  generalize hfv : encF F = fv at *
  have HH1 := zA h70 (zA h71 (zA lx (zA rx (zA fx (zA cx1 (zA cx2 (zA e70 (zA e71 (zA lf (zA rf (zA ff (zA cf1 cf2))))))))))))
  refine zS ?_
  refine zR (zO (by simp [zC h70, zC h71, -Zb, HH1]; rfl) ?_)
  simp only [zT, zB]
  refine zS ?_
  refine zS ?_
  refine zR (zO (by simp [zC h70, zC h71, -Zb, HH1]; rfl) ?_)
  simp only [zT, zB]
  refine zS ?_
  refine zR (zO (by simp [zC h70, zC h71, -Zb, HH1]; rfl) ?_)
  simp only [zT, zB]
  refine Zc (x := false) (by simp) ?_
  refine zK ?_
  simp only [zT, zB]
  refine zS ?_
  refine zR (zO (by simp [zC h70, zC h71, -Zb, HH1]; rfl) ?_)
  simp only [zT, zB]
  refine zS ?_
  refine zS ?_
  refine zR (zO (by simp [zC h70, zC h71, -Zb, HH1]; rfl) ?_)
  simp only [zT, zB]
  by_cases hz : F.length = 0
  ·rw [if_pos hz]
   refine Zc (x := true) (by simp [hz]) ?_
   refine zS ?_
   refine zR (zO (by simp [zC h70, zC h71, -Zb, HH1]; rfl) ?_)
   simp only [zT, zB]
   refine Zd ?_
   simp [zC h70, zC h71, -Zb, HH1, lawV, encF]
  ·rw [if_neg hz]
   refine Zc (x := false) (by simp [hz] <;> omega) ?_
   refine zK ?_
   simp only [zT, zB]
   refine zS ?_
   refine zS ?_
   refine zR (zO (by simp [zC h70, zC h71, -Zb, HH1]; rfl) ?_)
   simp only [zT, zB]
   by_cases h30 : F.length > 30
   ·rw [if_pos h30]
    refine Zc (x := true) (by simp <;> omega) ?_
    refine zS ?_
    refine zR (zO (by simp [zC h70, zC h71, -Zb, HH1]; rfl) ?_)
    simp only [zT, zB]
    refine Zd ?_
    simp [zC h70, zC h71, -Zb, HH1, lawV, encF]
   ·rw [if_neg h30]
    refine Zc (x := false) (by simp <;> omega) ?_
    refine zK ?_
    simp only [zT, zB]
    refine zS ?_
    refine zR (zO (by simp [zC h70, zC h71, -Zb, HH1]; rfl) ?_)
    simp only [zT, zB]
    refine Zd ?_
    simp [zC h70, zC h71, -Zb, HH1, lawV, hfv]
 ·have hv : XW l se mi = (XT l se mi, []) := by unfold XW; rw [if_neg hE]
  rw [hv]
  have hEb : (XT l se mi != 0) = true := by simpa using hE
  generalize XT l se mi = E at *
  have HH2 := zA h70 (zA h71 (zA lx (zA rx (zA fx (zA cx1 (zA cx2 (zA e70 hEb)))))))
  refine zS ?_
  refine zR (zO (by simp [zC h70, zC h71, -Zb, HH2]; rfl) ?_)
  simp only [zT, zB]
  refine zS ?_
  refine zS ?_
  refine zR (zO (by simp [zC h70, zC h71, -Zb, HH2]; rfl) ?_)
  simp only [zT, zB]
  refine zS ?_
  refine zR (zO (by simp [zC h70, zC h71, -Zb, HH2]; rfl) ?_)
  simp only [zT, zB]
  refine Zc (x := true) (by simp) ?_
  refine zS ?_
  refine zR (zO (by simp [zC h70, zC h71, -Zb, HH2]; rfl) ?_)
  simp only [zT, zB]
  refine Zd ?_
  simp [zC h70, zC h71, -Zb, HH2, lawV, encF]
def DP1 : Nat → Option CFn := upd DO1 32 false (o32)
theorem DP1_ok : Zv Tryd.prog GG DP1 := ZA mixed DO1_ok fun args v ho => by
  unfold o32 at ho; split at ho <;> (try simp only [reduceCtorEq] at ho)
  rename_i c se mi
  split at ho <;> (try simp only [reduceCtorEq] at ho)
  rename_i rs hx
  split at ho <;> (try simp only [reduceCtorEq] at ho)
  rename_i l hl
  split at ho <;> (try simp only [reduceCtorEq] at ho)
  rename_i hg
  simp only [Option.some.injEq] at ho
  subst ho
  obtain rfl : rs = l.map rQ := Ys (enc := rQ) dI2_eq hl
  exact a32 Tryd.prog DO1 rfl rfl rfl c l hx hg se mi
end
section
attribute [local simp] ZY ZK YL YD XN Xc disj YN XS YO ZO YQ news eqB YU eqA YB YW toCs ofCs stA Ym ZL Yi dI1 dI2 dI3 dI5 elt
attribute [local simp] st_any st_und st_agg st_tup XH st_int XE st_ref st_pv XD st_sl st_vl XF st_mp st_fn XG st_yld co_any co_und co_agg co_tup XM co_int XJ co_ref co_pv XI co_sl co_vl XK co_mp co_fn XL co_yld
attribute [local simp] List.all_append Yq Zo frzG gather getR lim lop Yr lowA lowR okG putG putR rbB_none rbB_row resG rowAt takeG
def inAll (S : List (List Nat)) (i : Nat) : Bool := S.all fun s => s.contains i
def sureR (n : Nat) (S : List (List Nat)) : List Nat := (List.range n).filter (inAll S)
theorem inAll_succ {S : List (List Nat)} {j i : Nat} (h : j < S.length) : inAll (S.take (j + 1)) i = (inAll (S.take j) i && S[j].contains i) := by
  unfold inAll
  rw [List.take_succ_eq_append_getElem h, List.all_append]; simp
@[local simp] theorem inAll_nil (i : Nat) : inAll [] i = true := rfl
theorem sureR_succ (n : Nat) (S : List (List Nat)) : sureR (n + 1) S = sureR n S ++ (if inAll S n then [n] else []) := by
  unfold sureR
  rw [List.range_succ, List.filter_append]
  simp only [List.filter_cons, List.filter_nil]
theorem a35 (P : Program) (T : Nat → Option CFn) (hT : T 35 = some { c35 with body := annK [(99, [.slot 5])] [] c35.body }) (h72 : T 72 = some { c72 with frsh := true, orc := o72 }) (v : Za) (S : List (List Nat)) (hv : Zs v = some (S.map rW)) (n : Nat) (N : Int) (hN : N = n) (hn : n ≤ 10) (hS : S.length ≤ 2000) (hs : ∀ s ∈ S, s.length ≤ 1000 ∧ ∀ x ∈ s, x < 1000000) : Zn P T 35 [I N, v] [] fun v h => frz false h 5 v = some (.vl ((sureR n S).map rN) (sureR n S).isEmpty) := by
 have lx := Zw hv
 rw [List.length_map] at lx
 have rx := fun n d => ZH hv n d
 have fx := fun H d => Zt hv H d
 obtain ⟨cx1, cx2⟩ := Zp hv
 refine Zj hT (Zk rfl) ?_
 simp only [oo, om, op, og, ci, cl, c35, annK, lkG, lkR, reduceIte, Nat.reduceEqDiff, reduceCtorEq, List.cons.injEq, and_true, and_false, false_and, true_and]
 have HH1 := zA h72 (zA lx (zA rx (zA fx (zA cx1 cx2))))
 refine zS ?_
 refine zR (zO (by simp [zC h72, -Zb, HH1]; rfl) ?_)
 simp only [zT, zB]
 refine zS ?_
 refine zR (zO (by simp [zC h72, -Zb, HH1]; rfl) ?_)
 simp only [zT, zB]
 refine zS ?_
 refine zS ?_
 refine zR (zO (by simp [zC h72, -Zb, HH1]; rfl) ?_)
 simp only [zT, zB]
 refine zL ?_
 refine runs_loopG_inv (fun mm σ => ∃ (i : Nat) (I0 : Int), I0 = i ∧ n - i = mm ∧ i ≤ n ∧ ((sureR i S = [] ∧ σ = ⟨[I N, v, .any, .any, .any, .sl 1 0 0 true, I I0, .any, .any, .any, .any, .any, .any, .any, .any, .any, .any, .any, .any, .any, .any, .any, .any, .any, .any, .any, .any, .any, .any, .any, .any, .any, .any, .any, .any, .any], [none, some (.row 1 [])]⟩) ∨ (∃ (pp : Nat) (ac : List Nat), ac = sureR i S ∧ ac.length = pp + 1 ∧ σ = ⟨[I N, v, .any, .any, .any, .sl 1 0 (pp + 1) false, I I0, .any, .any, .any, .any, .any, .any, .any, .any, .any, .any, .any, .any, .any, .any, .any, .any, .any, .any, .any, .any, .any, .any, .any, .any, .any, .any, .any, .any, .any], [none, some (.row 1 (ac.map rN))]⟩))) (by simp [zC h72, -Zb, HH1] <;> first | exact ⟨rfl, rfl⟩ | rfl) (⟨0, 0, rfl, rfl, Nat.zero_le _, .inl ⟨rfl, rfl⟩⟩) ?_
 rintro mm σ ⟨i, I0, hI, rfl, hil, ⟨hac0, rfl⟩ | ⟨pp, ac, hac, hacl, rfl⟩⟩
 ·refine zS ?_
  refine zS ?_
  refine zR (zO (by simp [zC h72, -Zb, HH1]; rfl) ?_)
  simp only [zT, zB]
  refine Ze (x := decide (I0 < N)) (by simp) (fun hlt => ?_) (fun hlt => ?_)
  ·have hlt := of_decide_eq_true hlt
   have hwI : W .i64 (I0 + 1) = I0 + 1 := ZD (by omega)
   have hsu := sureR_succ i S
   refine zK ?_
   simp only [zT, zB]
   refine zS ?_
   refine zL ?_
   refine zS ?_
   refine zR (zO (by simp [zC h72, -Zb, HH1, hwI]; rfl) ?_)
   simp only [zT, zB]
   refine zS ?_
   refine zS ?_
   refine zR (zO (by simp [zC h72, -Zb, HH1, hwI]; rfl) ?_)
   simp only [zT, zB]
   refine zL ?_
   refine Zy (fun nn σ => ∃ (j : Nat) (J : Int), J = j ∧ S.length - j = nn ∧ j ≤ S.length ∧ σ = ⟨[I N, v, .any, .any, .any, .sl 1 0 0 true, I I0, .bool (inAll (S.take j) i), I J, .any, .any, .any, .any, .any, .any, .any, .any, .any, .any, .any, .any, .any, .any, .any, .any, .any, .any, .any, .any, .any, .any, .any, .any, .any, .any, .any], [none, some (.row 1 [])]⟩) ?_ (S.length - 0) _ ⟨0, 0, rfl, rfl, Nat.zero_le _, by simp⟩
   rintro nn σ ⟨j, J, hJ, rfl, hjl, rfl⟩
   refine zS ?_
   refine zS ?_
   refine zR (zO (by simp [zC h72, -Zb, HH1, hwI]; rfl) ?_)
   simp only [zT, zB]
   refine Ze (x := decide (J < (S.length : Int))) (by simp) (fun hlj => ?_) (fun hlj => ?_)
   ·have hlj := of_decide_eq_true hlj
    have hj0 : j < S.length := by omega
    obtain ⟨t1, rfl⟩ := Yz hv (k := j) (by simpa using hj0)
    have hJ0 : 0 ≤ J := by omega
    have htJ : J.toNat = j := by omega
    have hwJ : W .i64 (J + 1) = J + 1 := ZD (by omega)
    have hm := hs _ (List.getElem_mem hj0)
    have g1 : (S.map rW)[j]? = some (rW S[j]) := by rw [List.getElem?_map, List.getElem?_eq_getElem hj0]; rfl
    have g2 : ∀ h, (S.map rW)[j]'h = rW S[j] := fun h => by simp
    have e72 := o72_eq (dNs_of (v := Yw S[j]) rfl hm.2) hm.1 i
    rw [← hI] at e72
    have hsc := inAll_succ (i := i) hj0
    have hrl : rW S[j] = [Yw S[j]] := rfl
    have rw5 := fun n d => W_rb S[j] n d
    have fw5 := fun H d => Zt (x := Yw S[j]) (rs := S[j].map rN) rfl H d
    obtain ⟨cw1, cw2⟩ := Zp (x := Yw S[j]) (rs := S[j].map rN) rfl
    generalize inAll (S.take j) i = B at *
    generalize S[j].contains i = B2 at *
    generalize S[j] = xm at *
    generalize Yw xm = wv at *
    cases B <;> cases B2
    ·have HH2 := zA hwI (zA hJ0 (zA htJ (zA hj0 (zA hwJ (zA g1 (zA g2 (zA hrl (zA e72 (zA rw5 (zA fw5 (zA cw1 cw2)))))))))))
     refine zK ?_
     simp only [zT, zB]
     refine zS ?_
     refine zL ?_
     refine zR (zO (by simp [zC h72, -Zb, HH1, -List.getElem?_map, -List.getElem_map, HH2]; rfl) ?_)
     simp only [zT, zB]
     refine zR (zO (by simp [zC h72, -Zb, HH1, -List.getElem?_map, -List.getElem_map, HH2]; rfl) ?_)
     simp only [zT, zB]
     exact ⟨S.length - (j + 1), by omega, j + 1, J + 1, by omega, rfl, by omega, by simp [zC h72, -Zb, HH1, -List.getElem?_map, -List.getElem_map, HH2, hsc]⟩
    ·have HH3 := zA hwI (zA hJ0 (zA htJ (zA hj0 (zA hwJ (zA g1 (zA g2 (zA hrl (zA e72 (zA rw5 (zA fw5 (zA cw1 cw2)))))))))))
     refine zK ?_
     simp only [zT, zB]
     refine zS ?_
     refine zL ?_
     refine zR (zO (by simp [zC h72, -Zb, HH1, -List.getElem?_map, -List.getElem_map, HH3]; rfl) ?_)
     simp only [zT, zB]
     refine zR (zO (by simp [zC h72, -Zb, HH1, -List.getElem?_map, -List.getElem_map, HH3]; rfl) ?_)
     simp only [zT, zB]
     exact ⟨S.length - (j + 1), by omega, j + 1, J + 1, by omega, rfl, by omega, by simp [zC h72, -Zb, HH1, -List.getElem?_map, -List.getElem_map, HH3, hsc]⟩
    ·have HH4 := zA hwI (zA hJ0 (zA htJ (zA hj0 (zA hwJ (zA g1 (zA g2 (zA hrl (zA e72 (zA rw5 (zA fw5 (zA cw1 cw2)))))))))))
     refine zK ?_
     simp only [zT, zB]
     refine zS ?_
     refine zL ?_
     refine zR (zO (by simp [zC h72, -Zb, HH1, -List.getElem?_map, -List.getElem_map, HH4]; rfl) ?_)
     simp only [zT, zB]
     refine zR (zO (by simp [zC h72, -Zb, HH1, -List.getElem?_map, -List.getElem_map, HH4]; rfl) ?_)
     simp only [zT, zB]
     exact ⟨S.length - (j + 1), by omega, j + 1, J + 1, by omega, rfl, by omega, by simp [zC h72, -Zb, HH1, -List.getElem?_map, -List.getElem_map, HH4, hsc]⟩
    ·have HH5 := zA hwI (zA hJ0 (zA htJ (zA hj0 (zA hwJ (zA g1 (zA g2 (zA hrl (zA e72 (zA rw5 (zA fw5 (zA cw1 cw2)))))))))))
     refine zK ?_
     simp only [zT, zB]
     refine zS ?_
     refine zL ?_
     refine zR (zO (by simp [zC h72, -Zb, HH1, -List.getElem?_map, -List.getElem_map, HH5]; rfl) ?_)
     simp only [zT, zB]
     refine zR (zO (by simp [zC h72, -Zb, HH1, -List.getElem?_map, -List.getElem_map, HH5]; rfl) ?_)
     simp only [zT, zB]
     exact ⟨S.length - (j + 1), by omega, j + 1, J + 1, by omega, rfl, by omega, by simp [zC h72, -Zb, HH1, -List.getElem?_map, -List.getElem_map, HH5, hsc]⟩
   ·have hlj := of_decide_eq_false hlj
    obtain rfl : j = S.length := by omega
    rw [List.take_length]
    generalize inAll S i = B at *
    cases B
    ·rw [if_neg (by simp), List.append_nil] at hsu
     refine Zl ?_
     simp only [zT, zB, if_true, if_false, reduceIte, Nat.reduceEqDiff, Nat.succ_ne_zero, Nat.one_ne_zero, Nat.zero_ne_one]
     refine zS ?_
     refine zR (zO (by simp [zC h72, -Zb, HH1, hwI]; rfl) ?_)
     simp only [zT, zB]
     refine Zc (x := false) (by simp) ?_
     refine zK ?_
     simp only [zT, zB]
     refine zR (zO (by simp [zC h72, -Zb, HH1, hwI]; rfl) ?_)
     simp only [zT, zB]
     exact ⟨n - (i + 1), _, _, by omega, by simp [zC h72, -Zb, HH1, hwI] <;> first | rfl | exact ⟨rfl, rfl⟩, i + 1, I0 + 1, by omega, rfl, by omega, .inl ⟨by rw [hsu, hac0], rfl⟩⟩
    ·rw [if_pos rfl] at hsu
     have hri : rN i = [I I0] := by rw [hI]; rfl
     refine Zl ?_
     simp only [zT, zB, if_true, if_false, reduceIte, Nat.reduceEqDiff, Nat.succ_ne_zero, Nat.one_ne_zero, Nat.zero_ne_one]
     refine zS ?_
     refine zR (zO (by simp [zC h72, -Zb, HH1, hwI]; rfl) ?_)
     simp only [zT, zB]
     refine Zc (x := true) (by simp) ?_
     refine zR (zO (by simp [zC h72, -Zb, HH1, hwI]; rfl) ?_)
     simp only [zT, zB]
     refine zR (zO (by simp [zC h72, -Zb, HH1, hwI]; rfl) ?_)
     simp only [zT, zB]
     exact ⟨n - (i + 1), _, _, by omega, by simp [zC h72, -Zb, HH1, hwI] <;> first | rfl | exact ⟨rfl, rfl⟩, i + 1, I0 + 1, by omega, rfl, by omega, .inr ⟨0, [i], by rw [hsu, hac0]; rfl, rfl, by simp [hri]⟩⟩
  ·have hlt := of_decide_eq_false hlt
   obtain rfl : i = n := by omega
   rw [hac0]
   refine Zl ?_
   simp only [zT, zB, if_true, if_false, reduceIte, Nat.reduceEqDiff, Nat.succ_ne_zero, Nat.one_ne_zero, Nat.zero_ne_one]
   refine zS ?_
   refine zR (zO (by simp [zC h72, -Zb, HH1]; rfl) ?_)
   simp only [zT, zB]
   refine Zd ?_
   simp [zC h72, -Zb, HH1, trim]
 ·have tk : (ac.map rN).take (pp + 1) = ac.map rN := List.take_of_length_le (by simp [hacl])
  have hlac : pp + 1 + 1 ≤ 1048576 := by
   have h := List.length_filter_le (inAll S) (List.range i)
   rw [show (List.range i).filter (inAll S) = sureR i S from rfl, ← hac, hacl, List.length_range] at h; omega
  have hst1 : ((ac.map rN).all fun r => r.all ZB) = true := by simp [rN]
  have hr1 : ((ac.map rN).all fun r => r.length == 1) = true := by simp [rN]
  have hrj : ∀ n d, ((ac.map rN).all fun r => r.all (rb n (d + 1))) = true := by intro n d; simp [rN]
  have hfr := fun n h r => XP (rN_frN n h 4 ac) r
  have hfr0 := fun n h => rN_frN n h 4 ac
  have hfzz := fun H d => rN_frz H d ac
  have hie : ac.isEmpty = false := by cases ac with
   | nil => simp at hacl
   | cons y l => rfl
  have HH6 := zA hst1 (zA hr1 (zA hfr (zA hrj hfzz)))
  refine zS ?_
  refine zS ?_
  refine zR (zO (by simp [zC h72, -Zb, HH1, tk, hlac, hacl, hfr0, -List.all_map, ↓HH6]; rfl) ?_)
  simp only [zT, zB]
  refine Ze (x := decide (I0 < N)) (by simp) (fun hlt => ?_) (fun hlt => ?_)
  ·have hlt := of_decide_eq_true hlt
   have hwI : W .i64 (I0 + 1) = I0 + 1 := ZD (by omega)
   have hsu := sureR_succ i S
   have HH7 := zA tk (zA hlac (zA hacl (zA hfr0 hwI)))
   refine zK ?_
   simp only [zT, zB]
   refine zS ?_
   refine zL ?_
   refine zS ?_
   refine zR (zO (by simp [zC h72, -Zb, HH1, -List.all_map, ↓HH6, HH7]; rfl) ?_)
   simp only [zT, zB]
   refine zS ?_
   refine zS ?_
   refine zR (zO (by simp [zC h72, -Zb, HH1, -List.all_map, ↓HH6, HH7]; rfl) ?_)
   simp only [zT, zB]
   refine zL ?_
   refine Zy (fun nn σ => ∃ (j : Nat) (J : Int), J = j ∧ S.length - j = nn ∧ j ≤ S.length ∧ σ = ⟨[I N, v, .any, .any, .any, .sl 1 0 (pp + 1) false, I I0, .bool (inAll (S.take j) i), I J, .any, .any, .any, .any, .any, .any, .any, .any, .any, .any, .any, .any, .any, .any, .any, .any, .any, .any, .any, .any, .any, .any, .any, .any, .any, .any, .any], [none, some (.row 1 (ac.map rN))]⟩) ?_ (S.length - 0) _ ⟨0, 0, rfl, rfl, Nat.zero_le _, by simp⟩
   rintro nn σ ⟨j, J, hJ, rfl, hjl, rfl⟩
   refine zS ?_
   refine zS ?_
   refine zR (zO (by simp [zC h72, -Zb, HH1, -List.all_map, ↓HH6, HH7]; rfl) ?_)
   simp only [zT, zB]
   refine Ze (x := decide (J < (S.length : Int))) (by simp) (fun hlj => ?_) (fun hlj => ?_)
   ·have hlj := of_decide_eq_true hlj
    have hj0 : j < S.length := by omega
    obtain ⟨t1, rfl⟩ := Yz hv (k := j) (by simpa using hj0)
    have hJ0 : 0 ≤ J := by omega
    have htJ : J.toNat = j := by omega
    have hwJ : W .i64 (J + 1) = J + 1 := ZD (by omega)
    have hm := hs _ (List.getElem_mem hj0)
    have g1 : (S.map rW)[j]? = some (rW S[j]) := by rw [List.getElem?_map, List.getElem?_eq_getElem hj0]; rfl
    have g2 : ∀ h, (S.map rW)[j]'h = rW S[j] := fun h => by simp
    have e72 := o72_eq (dNs_of (v := Yw S[j]) rfl hm.2) hm.1 i
    rw [← hI] at e72
    have hsc := inAll_succ (i := i) hj0
    have hrl : rW S[j] = [Yw S[j]] := rfl
    have rw5 := fun n d => W_rb S[j] n d
    have fw5 := fun H d => Zt (x := Yw S[j]) (rs := S[j].map rN) rfl H d
    obtain ⟨cw1, cw2⟩ := Zp (x := Yw S[j]) (rs := S[j].map rN) rfl
    generalize inAll (S.take j) i = B at *
    generalize S[j].contains i = B2 at *
    generalize S[j] = xm at *
    generalize Yw xm = wv at *
    cases B <;> cases B2
    ·have HH8 := zA hJ0 (zA htJ (zA hj0 (zA hwJ (zA g1 (zA g2 (zA hrl (zA e72 (zA rw5 (zA fw5 (zA cw1 cw2))))))))))
     refine zK ?_
     simp only [zT, zB]
     refine zS ?_
     refine zL ?_
     refine zR (zO (by simp [zC h72, -Zb, HH1, -List.all_map, ↓HH6, HH7, -List.getElem?_map, -List.getElem_map, HH8]; rfl) ?_)
     simp only [zT, zB]
     refine zR (zO (by simp [zC h72, -Zb, HH1, -List.all_map, ↓HH6, HH7, -List.getElem?_map, -List.getElem_map, HH8]; rfl) ?_)
     simp only [zT, zB]
     exact ⟨S.length - (j + 1), by omega, j + 1, J + 1, by omega, rfl, by omega, by simp [zC h72, -Zb, HH1, -List.all_map, ↓HH6, HH7, -List.getElem?_map, -List.getElem_map, HH8, hsc]⟩
    ·have HH9 := zA hJ0 (zA htJ (zA hj0 (zA hwJ (zA g1 (zA g2 (zA hrl (zA e72 (zA rw5 (zA fw5 (zA cw1 cw2))))))))))
     refine zK ?_
     simp only [zT, zB]
     refine zS ?_
     refine zL ?_
     refine zR (zO (by simp [zC h72, -Zb, HH1, -List.all_map, ↓HH6, HH7, -List.getElem?_map, -List.getElem_map, HH9]; rfl) ?_)
     simp only [zT, zB]
     refine zR (zO (by simp [zC h72, -Zb, HH1, -List.all_map, ↓HH6, HH7, -List.getElem?_map, -List.getElem_map, HH9]; rfl) ?_)
     simp only [zT, zB]
     exact ⟨S.length - (j + 1), by omega, j + 1, J + 1, by omega, rfl, by omega, by simp [zC h72, -Zb, HH1, -List.all_map, ↓HH6, HH7, -List.getElem?_map, -List.getElem_map, HH9, hsc]⟩
    ·have HH10 := zA hJ0 (zA htJ (zA hj0 (zA hwJ (zA g1 (zA g2 (zA hrl (zA e72 (zA rw5 (zA fw5 (zA cw1 cw2))))))))))
     refine zK ?_
     simp only [zT, zB]
     refine zS ?_
     refine zL ?_
     refine zR (zO (by simp [zC h72, -Zb, HH1, -List.all_map, ↓HH6, HH7, -List.getElem?_map, -List.getElem_map, HH10]; rfl) ?_)
     simp only [zT, zB]
     refine zR (zO (by simp [zC h72, -Zb, HH1, -List.all_map, ↓HH6, HH7, -List.getElem?_map, -List.getElem_map, HH10]; rfl) ?_)
     simp only [zT, zB]
     exact ⟨S.length - (j + 1), by omega, j + 1, J + 1, by omega, rfl, by omega, by simp [zC h72, -Zb, HH1, -List.all_map, ↓HH6, HH7, -List.getElem?_map, -List.getElem_map, HH10, hsc]⟩
    ·have HH11 := zA hJ0 (zA htJ (zA hj0 (zA hwJ (zA g1 (zA g2 (zA hrl (zA e72 (zA rw5 (zA fw5 (zA cw1 cw2))))))))))
     refine zK ?_
     simp only [zT, zB]
     refine zS ?_
     refine zL ?_
     refine zR (zO (by simp [zC h72, -Zb, HH1, -List.all_map, ↓HH6, HH7, -List.getElem?_map, -List.getElem_map, HH11]; rfl) ?_)
     simp only [zT, zB]
     refine zR (zO (by simp [zC h72, -Zb, HH1, -List.all_map, ↓HH6, HH7, -List.getElem?_map, -List.getElem_map, HH11]; rfl) ?_)
     simp only [zT, zB]
     exact ⟨S.length - (j + 1), by omega, j + 1, J + 1, by omega, rfl, by omega, by simp [zC h72, -Zb, HH1, -List.all_map, ↓HH6, HH7, -List.getElem?_map, -List.getElem_map, HH11, hsc]⟩
   ·have hlj := of_decide_eq_false hlj
    obtain rfl : j = S.length := by omega
    rw [List.take_length]
    generalize inAll S i = B at *
    cases B
    ·rw [if_neg (by simp), List.append_nil] at hsu
     refine Zl ?_
     simp only [zT, zB, if_true, if_false, reduceIte, Nat.reduceEqDiff, Nat.succ_ne_zero, Nat.one_ne_zero, Nat.zero_ne_one]
     refine zS ?_
     refine zR (zO (by simp [zC h72, -Zb, HH1, -List.all_map, ↓HH6, HH7]; rfl) ?_)
     simp only [zT, zB]
     refine Zc (x := false) (by simp) ?_
     refine zK ?_
     simp only [zT, zB]
     refine zR (zO (by simp [zC h72, -Zb, HH1, -List.all_map, ↓HH6, HH7]; rfl) ?_)
     simp only [zT, zB]
     exact ⟨n - (i + 1), _, _, by omega, by simp [zC h72, -Zb, HH1, -List.all_map, ↓HH6, HH7] <;> first | rfl | exact ⟨rfl, rfl⟩, i + 1, I0 + 1, by omega, rfl, by omega, .inr ⟨pp, ac, by rw [hsu, ← hac], hacl, rfl⟩⟩
    ·rw [if_pos rfl] at hsu
     have hri : rN i = [I I0] := by rw [hI]; rfl
     refine Zl ?_
     simp only [zT, zB, if_true, if_false, reduceIte, Nat.reduceEqDiff, Nat.succ_ne_zero, Nat.one_ne_zero, Nat.zero_ne_one]
     refine zS ?_
     refine zR (zO (by simp [zC h72, -Zb, HH1, -List.all_map, ↓HH6, HH7]; rfl) ?_)
     simp only [zT, zB]
     refine Zc (x := true) (by simp) ?_
     refine zR (zO (by simp [zC h72, -Zb, HH1, -List.all_map, ↓HH6, HH7]; rfl) ?_)
     simp only [zT, zB]
     refine zR (zO (by simp [zC h72, -Zb, HH1, -List.all_map, ↓HH6, HH7]; rfl) ?_)
     simp only [zT, zB]
     exact ⟨n - (i + 1), _, _, by omega, by simp [zC h72, -Zb, HH1, -List.all_map, ↓HH6, HH7] <;> first | rfl | exact ⟨rfl, rfl⟩, i + 1, I0 + 1, by omega, rfl, by omega, .inr ⟨pp + 1, ac ++ [i], by rw [hsu, ← hac], by simp [hacl], by rw [List.map_append]; simp [hri]⟩⟩
  ·have hlt := of_decide_eq_false hlt
   obtain rfl : i = n := by omega
   rw [← hac]
   have HH12 := zA tk (zA hlac (zA hacl (zA hfr0 hie)))
   refine Zl ?_
   simp only [zT, zB, if_true, if_false, reduceIte, Nat.reduceEqDiff, Nat.succ_ne_zero, Nat.one_ne_zero, Nat.zero_ne_one]
   refine zS ?_
   refine zR (zO (by simp [zC h72, -Zb, HH1, -List.all_map, ↓HH6, HH12]; rfl) ?_)
   simp only [zT, zB]
   refine Zd ?_
   simp [zC h72, -Zb, HH1, -List.all_map, ↓HH6, HH12, trim]
def dW : List Za → Option (List Nat)
  | [.vl rs t] => match Zf dN1 rs with
    | some l => if t = l.isEmpty then some l else none
    | none => none
  | _ => none
theorem dW_eq (r : List Za) (l : List Nat) (h : dW r = some l) : r = rW l := by
  unfold dW at h; split at h <;> (try simp only [reduceCtorEq] at h)
  rename_i rs t
  split at h <;> (try simp only [reduceCtorEq] at h)
  rename_i m hl
  split at h <;> (try simp only [reduceCtorEq] at h)
  rename_i ht
  simp only [Option.some.injEq] at h
  subst h
  rw [rW, Yw, ht, Ys (enc := rN) dN1_eq hl]
theorem dW_self {l : List Nat} (hb : ∀ x ∈ l, x < 1000000) : dW (rW l) = some l := by
  have h : Zf dN1 (l.map rN) = some (l.map id) := optAll_map2 l fun x hx => by
    have := hb x hx
    simp only [dN1, rN, id]; rw [if_pos (by omega), Int.toNat_natCast]
  rw [List.map_id] at h
  simp only [rW, Yw, dW, h, if_true]
def dSets (v : Za) : Option (List (List Nat)) := match Zs v with
  | some rs => Zf dW rs
  | none => none
theorem dSets_rows {v : Za} {S : List (List Nat)} (h : dSets v = some S) : Zs v = some (S.map rW) := by
  unfold dSets at h; split at h <;> (try simp only [reduceCtorEq] at h)
  rename_i rs hr
  rw [hr, Ys (enc := rW) dW_eq h]
theorem dSets_of {v : Za} {S : List (List Nat)} (h : Zs v = some (S.map rW)) (hb : ∀ s ∈ S, ∀ x ∈ s, x < 1000000) : dSets v = some S := by
  simp only [dSets, h]
  have h2 : Zf dW (S.map rW) = some (S.map id) := optAll_map2 S fun x hx => dW_self (hb x hx)
  rwa [List.map_id] at h2
def o35 : List Za → Option Za
  | [.int .i64 n, v] => match dSets v with
    | some S => if 0 ≤ n ∧ n ≤ 10 ∧ S.length ≤ 2000 ∧ (∀ s ∈ S, s.length ≤ 1000 ∧ ∀ x ∈ s, x < 1000000) then some (.vl ((sureR n.toNat S).map rN) (sureR n.toNat S).isEmpty) else none
    | none => none
  | _ => none
theorem o35_eq {n : Nat} {N : Int} {v : Za} {S : List (List Nat)} (hN : N = n) (hn : n ≤ 10) (hv : Zs v = some (S.map rW)) (hS : S.length ≤ 2000) (hs : ∀ s ∈ S, s.length ≤ 1000 ∧ ∀ x ∈ s, x < 1000000) : o35 [I N, v] = some (.vl ((sureR n S).map rN) (sureR n S).isEmpty) := by
  subst hN
  simp only [o35, dSets_of hv fun s h => (hs s h).2]; rw [if_pos ⟨by omega, by omega, hS, hs⟩, Int.toNat_natCast]
def DP2 : Nat → Option CFn := updG DP1 35 [(99, [.slot 5])] []
theorem DP2_ok : Zv Tryd.prog GG DP2 := tab_updG DP1_ok
def DP3 : Nat → Option CFn := upd DP2 35 false (o35)
theorem DP3_ok : Zv Tryd.prog GG DP3 := ZA mixed DP2_ok fun args v ho => by
  unfold o35 at ho; split at ho <;> (try simp only [reduceCtorEq] at ho)
  rename_i n v
  split at ho <;> (try simp only [reduceCtorEq] at ho)
  rename_i S hS
  split at ho <;> (try simp only [reduceCtorEq] at ho)
  rename_i hg
  simp only [Option.some.injEq] at ho
  subst ho
  exact a35 Tryd.prog DP2 rfl rfl v S (dSets_rows hS) n.toNat n (by omega) (by omega) hg.2.2.1 hg.2.2.2
end
end
end Go.Proofs.YtpebmjeomlgmdaaDoor.Tab
namespace Go.Proofs.YtpebmjeomlgmdaaDoor.Tab
open Go Go.Abs Go.Proofs
set_option linter.unusedSimpArgs false
set_option linter.unusedVariables false
def bitS (S : List (Fin 1024)) : List (List Nat) := S.map fun x : Fin 1024 => Zr x.1
theorem setsOf_len {n k : Nat} (p : List Nat → Bool) (hn : n ≤ 10) : (Xz n k p).length = (setsOf n k p).length := taken_len p hn
theorem first_eq {n : Nat} (hn : n ≤ 10) (p : List Nat → Bool) : ∀ (f k : Nat), firstS n p f k = match firstN n p f k with
    | none => []
    | some j => setsOf n j p
  | 0, k => rfl
  | f + 1, k => by
    have hl := setsOf_len (k := k) p hn
    simp only [firstS, firstN]
    by_cases h : setsOf n k p = []
    · have h2 : Xz n k p = [] := by rw [h] at hl; exact List.length_eq_zero_iff.1 hl
      rw [if_pos h, if_pos h2]; exact first_eq hn p f (k + 1)
    · have h2 : ¬ Xz n k p = [] := fun e => by rw [e] at hl; exact h (List.length_eq_zero_iff.1 hl.symm)
      rw [if_neg h, if_neg h2]
theorem toCs_len (l : List (Int × Int)) : (toCs l).length = l.length := by simp [toCs]
theorem p_eq {l : List (Int × Int)} {se mi : Int} (h : XT l se mi = 0) : (fun x => explN (toCs l) x se.toNat mi.toNat) = fun x => explR (toCs l) x se.toNat mi.toNat := by
  funext x
  have := (compE_ok h).2.2.1
  exact expl_eq (by omega) (by omega)
theorem open_law (l : List (Int × Int)) (se mi : Int) : (Yb l se mi).1 = (XW l se mi).1 ∧ bitS (Yb l se mi).2 = (XW l se mi).2 := by
  unfold Yb XW
  by_cases h : XT l se mi = 0
  · rw [if_pos h, if_pos h]
    have hn := (compE_ok h).1
    rw [p_eq h]
    unfold foundR foundS smallR
    rw [toCs_len, first_eq hn]
    cases e : firstN l.length (fun x => explR (toCs l) x se.toNat mi.toNat) (l.length + 1) 0 with
    | none => simp [bitS]
    | some k =>
      have hne := (firstN_ne e).1
      have hl := setsOf_len (k := k) (fun x => explR (toCs l) x se.toNat mi.toNat) hn
      have h0 : ¬ (setsOf l.length k fun x => explR (toCs l) x se.toNat mi.toNat).length = 0 := fun h => hne (List.length_eq_zero_iff.1 (hl.trans h))
      simp only
      rw [if_neg h0, ← hl]
      split
      · exact ⟨rfl, rfl⟩
      · exact ⟨rfl, sets_sort hn _⟩
  · rw [if_neg h, if_neg h]; exact ⟨rfl, rfl⟩
theorem lawL_mem {l : List (Int × Int)} {se mi : Int} : ∀ s ∈ (XW l se mi).2, s.length ≤ 10 ∧ s.Pairwise (· < ·) ∧ ∀ x ∈ s, x < l.length := by
  intro s hs
  unfold XW at hs
  split at hs
  · rename_i h
    have hn := (compE_ok h).1
    split at hs
    · simp at hs
    · split at hs
      · simp at hs
      · simp only [foundR, foundS] at hs
        rw [toCs_len, first_eq hn] at hs
        split at hs
        · simp at hs
        · rename_i j e
          have hj := (firstN_ne e).2.2.1
          simp only [setsOf, List.mem_filter] at hs
          obtain ⟨m, e, h1, h2, h3⟩ := (mem_sets List.Pairwise.nil (by simp)).1 hs.1
          rw [List.nil_append] at e
          subst e
          exact ⟨by omega, h2, h3⟩
  · simp at hs
theorem lawL_len {l : List (Int × Int)} {se mi : Int} : (XW l se mi).2.length ≤ 30 := by
  have h := (open_law l se mi).2
  rw [← h]
  have := openR_long (l := l) (se := se) (mi := mi)
  simpa [bitS] using this
theorem andK_bit {S : List (Fin 1024)} (hS : S ≠ []) (i : Nat) : ∀ k, k ≤ S.length → (andK S k).testBit i = ((S.headD 0).1.testBit i && (S.take k).all fun x => x.1.testBit i)
  | 0, _ => by simp [andK]
  | k + 1, h => by
    rw [andK_succ (by omega), Nat.testBit_and, andK_bit hS i k (by omega), List.take_succ_eq_append_getElem (by omega : k < S.length), List.all_append, Bool.and_assoc]
    simp
theorem andS_bit {S : List (Fin 1024)} (hS : S ≠ []) (i : Nat) : (andS S).testBit i = S.all fun x => x.1.testBit i := by
  rw [andS_K hS, andK_bit hS i _ (Nat.le_refl _), List.take_length]
  cases S with
  | nil => exact absurd rfl hS
  | cons x l => simp [Bool.and_assoc]
theorem inAll_bits {S : List (Fin 1024)} {i : Nat} (hi : i < 10) : inAll (bitS S) i = S.all fun x => x.1.testBit i := by
  unfold inAll bitS
  rw [List.all_map]
  congr 1
  funext x
  simp only [Function.comp]
  rw [Bool.eq_iff_iff, List.contains_iff_mem, mem_bits]
  exact ⟨fun h => h.2, fun h => ⟨hi, h⟩⟩
theorem sure_eq {n : Nat} (hn : n ≤ 10) {S : List (Fin 1024)} (hS : S ≠ []) (hb : ∀ s ∈ bitS S, ∀ x ∈ s, x < n) : Zr (andS S) = sureR n (bitS S) := by
  refine sorted_ext (fun x => Nat.lt_irrefl x) (fun x y z => Nat.lt_trans) (bits_asc _) (List.Pairwise.filter _ List.pairwise_lt_range) fun i => ?_
  rw [mem_bits, andS_bit hS]
  unfold sureR
  rw [List.mem_filter, List.mem_range]
  constructor
  · rintro ⟨h1, h2⟩
    refine ⟨?_, by rw [inAll_bits h1]; exact h2⟩
    obtain ⟨x, hx⟩ := List.exists_mem_of_ne_nil S hS
    have h3 := List.all_eq_true.1 h2 x hx
    exact hb (Zr x.1) (List.mem_map.2 ⟨x, hx, rfl⟩) i (mem_bits.2 ⟨h1, h3⟩)
  · rintro ⟨h1, h2⟩
    have h3 : i < 10 := by omega
    exact ⟨h3, by rw [← inAll_bits h3]; exact h2⟩
theorem expl_law (l : List (Int × Int)) (se mi : Int) : explV (Yb l se mi) = if (XW l se mi).1 = 0 then .tup [.vl ((XW l se mi).2.map fun s => [encL s]) false, I 0] else .tup [.nils, I (XW l se mi).1] := by
  obtain ⟨h1, h2⟩ := open_law l se mi
  unfold explV
  rw [h1, ← h2]
  have e : (Yb l se mi).2.map rL = (bitS (Yb l se mi).2).map fun s => [encL s] := by unfold bitS; rw [List.map_map]; rfl
  rw [e]
theorem lawL_n {l : List (Int × Int)} {se mi : Int} (h : (XW l se mi).1 = 0) : l.length ≤ 10 := by
  unfold XW at h
  split at h
  · rename_i e; exact (compE_ok e).1
  · rename_i e; exact absurd h e
theorem sure_law (l : List (Int × Int)) (se mi : Int) : sureV (Yb l se mi) = if (XW l se mi).1 = 0 then .tup [encL (sureR l.length (XW l se mi).2), I 0] else .tup [.nils, I (XW l se mi).1] := by
  obtain ⟨h1, h2⟩ := open_law l se mi
  unfold sureV
  rw [h1]
  by_cases h : (XW l se mi).1 = 0
  · rw [if_pos h, if_pos h, sure_eq (lawL_n h) (openR_ne (h1.trans h)) (by rw [h2]; exact fun s hs => (lawL_mem s hs).2.2), h2]
  · rw [if_neg h, if_neg h]
theorem lawL_ne {l : List (Int × Int)} {se mi : Int} (h : (XW l se mi).1 = 0) : (XW l se mi).2 ≠ [] := by
  obtain ⟨h1, h2⟩ := open_law l se mi
  have := openR_ne (h1.trans h)
  rw [← h2]; intro e
  exact this (by simpa [bitS] using e)
theorem lawL_err {l : List (Int × Int)} {se mi : Int} (h : (XW l se mi).1 ≠ 0) : (XW l se mi).2 = [] := by
  unfold XW at h ⊢
  split
  · rename_i e
    rw [if_pos e] at h
    split
    · rfl
    · rename_i e2
      rw [if_neg e2] at h
      split
      · rfl
      · rename_i e3
        rw [if_neg e3] at h; simp at h
  · rfl
end Go.Proofs.YtpebmjeomlgmdaaDoor.Tab
namespace Go.Proofs.YtpebmjeomlgmdaaDoor.Tab
open Go Go.Abs Go.Proofs
set_option maxRecDepth 100000
set_option maxHeartbeats 4000000
set_option linter.unusedSimpArgs false
set_option linter.unusedVariables false
section
attribute [local simp] Yv Ye Xo Xp YC Yy Xq YJ YV Yp Zf orcF Xj YI Xl Xh YH Yn rb_vl rb_pv Xf YG YF YE Xk Xg Xi rb_sl rb_fn slE XC YX Yd ZG Xs List.range_succ List.range_zero List.range'_succ List.range'_zero ZX ZV Zz ZZ ZJ ZN YZ ZU dop CV.ev Yf Zu ZC YP XX Yg ZS ZE Zq Out.v Xr List.replicate_succ zT zB arI ZF Abs.rowAt Xe allV toV toC ofV ofC Builtin.min_ Builtin.min2 Builtin.max_ Builtin.max2 Xm Xn resA XU Xb ZW Yk Yl Yj Zb
section
attribute [local simp] ZY ZK YL YD XN Xc disj YN XS YO ZO YQ news eqB YU eqA YB YW toCs ofCs stA Ym ZL Yi dI1 dI2 dI3 dI5 elt
attribute [local simp] st_any st_und st_agg st_tup XH st_int XE st_ref st_pv XD st_sl st_vl XF st_mp st_fn XG st_yld co_any co_und co_agg co_tup XM co_int XJ co_ref co_pv XI co_sl co_vl XK co_mp co_fn XL co_yld
attribute [local simp] Yq Zo frzG gather getR lim lop Yr lowA lowR okG putG putR rbB_none rbB_row resG rowAt takeG
theorem Esets_rows (S : List (List Nat)) : Zs (.vl (S.map fun s => [encL s]) false) = some (S.map fun s => [encL s]) := rfl
theorem o34_self {x y : Za} {a : List Nat} (hx : Zs x = some (a.map rN)) (hy : Zs y = some (a.map rN)) (hb : ∀ i ∈ a, i < 1000000) (hl : a.length ≤ 1000) : o34 [x, y] = some (.bool true) := by
  simp only [o34, dNs_of hx hb, dNs_of hy hb]; rw [if_pos ⟨hl, hl⟩]; simp
theorem o33_self {x y : Za} {l : List (Int × Int)} (hx : Zs x = some (l.map rQ)) (hy : Zs y = some (l.map rQ)) (hl : l.length ≤ 1000) : o33 [x, y] = some (.bool true) := by
  have := optAll_map (d := dI2) (enc := rQ) (fun _ => rfl) l
  simp only [o33, hx, hy, this]; rw [if_pos ⟨hl, hl⟩]; simp
theorem sureR_len (n : Nat) (S : List (List Nat)) : (sureR n S).length ≤ n := by
  have := List.length_filter_le (inAll S) (List.range n)
  rw [List.length_range] at this; exact this
theorem sureR_mem {n : Nat} {S : List (List Nat)} : ∀ i ∈ sureR n S, i < n := fun i h => by
  unfold sureR at h; simp at h; exact h.1
theorem a5 (P : Program) (T : Nat → Option CFn) (hT : T 5 = some c5) (h12 : T 12 = some { c12 with frsh := true, orc := o12 }) (h29 : T 29 = some { c29 with frsh := false, orc := o29 }) (h30 : T 30 = some { c30 with body := annK [(58720320, [.slot 6])] [] c30.body, frsh := false, orc := o30 }) (h31 : T 31 = some { c31 with frsh := false, orc := o31 }) (h32 : T 32 = some { c32 with frsh := false, orc := o32 }) (h33 : T 33 = some { c33 with frsh := true, orc := o33 }) (h34 : T 34 = some { c34 with frsh := true, orc := o34 }) (h35 : T 35 = some { c35 with body := annK [(99, [.slot 5])] [] c35.body, frsh := false, orc := o35 }) (x : Za) (l : List (Int × Int)) (hx : Zs x = some (l.map rQ)) (se mi : Int) : Zn P T 5 [x, I se, I mi] [] fun v h => v = .bool true := by
 have lx := Zw hx
 rw [List.length_map] at lx
 have rx := fun n d => ZH hx n d
 have fx := fun H d => Zt hx H d
 obtain ⟨cx1, cx2⟩ := Zp hx
 refine Zj hT (Zk rfl) ?_
 simp only [oo, om, op, og, ci, cl, c5]
 have HH1 := zA h12 (zA h29 (zA h30 (zA h31 (zA h32 (zA h33 (zA h34 (zA h35 (zA lx (zA rx (zA fx (zA cx1 cx2)))))))))))
 refine zS ?_
 refine zR (zO (by simp [zC h12, zC h29, zC h30, zC h31, zC h32, zC h33, zC h34, zC h35, -Zb, o12, HH1]; rfl) ?_)
 simp only [zT, zB]
 refine zS ?_
 refine zS ?_
 refine zR (zO (by simp [zC h12, zC h29, zC h30, zC h31, zC h32, zC h33, zC h34, zC h35, -Zb, o12, HH1]; rfl) ?_)
 simp only [zT, zB]
 refine Ze (x := decide ((15 : Int) < (l.length : Int))) (by simp) (fun h15 => ?_) (fun h15 => ?_)
 ·have h15 := of_decide_eq_true h15
  refine zS ?_
  refine zR (zO (by simp [zC h12, zC h29, zC h30, zC h31, zC h32, zC h33, zC h34, zC h35, -Zb, o12, HH1]; rfl) ?_)
  simp only [zT, zB]
  refine Zd ?_
  simp [zC h12, zC h29, zC h30, zC h31, zC h32, zC h33, zC h34, zC h35, -Zb, o12, HH1]
 ·have h15 := of_decide_eq_false h15
  have hl : l.length ≤ 1000 := by omega
  have e29 := o29_eq hx hl
  have hc : Zs (.vl (l.map rQ) l.isEmpty) = some (l.map rQ) := rfl
  generalize Za.vl (l.map rQ) l.isEmpty = c at *
  have lc := Zw hc
  rw [List.length_map] at lc
  have rc := fun n d => ZH hc n d
  have fc := fun H d => Zt hc H d
  obtain ⟨cc1, cc2⟩ := Zp hc
  have e30 := o30_eq hc hl se mi
  have e31 := o31_eq hc hl se mi
  have e32 := o32_eq hx hl se mi
  have e33 := o33_self hc hx hl
  rw [expl_law] at e30
  rw [sure_law] at e31
  have hS0 := @lawL_err l se mi
  have hSn := @lawL_ne l se mi
  have hSm := @lawL_mem l se mi
  have hSl := @lawL_len l se mi
  have hn10 := @lawL_n l se mi
  unfold lawV at e32
  generalize (XW l se mi).1 = E at *
  generalize (XW l se mi).2 = S at *
  by_cases hE : E = 0
  ·subst hE
   rw [if_pos rfl] at e30 e31
   have hSn := hSn rfl
   have hn10 := hn10 rfl
   have hF := encF_rows S
   have lF := Zw hF
   rw [List.length_map] at lF
   have rF := fun n d => ZH hF n d
   have fF := fun H d => Zt hF H d
   obtain ⟨cF1, cF2⟩ := Zp hF
   have hX := Esets_rows S
   have lX := Zw hX
   rw [List.length_map] at lX
   have rX := fun n d => ZH hX n d
   have fX := fun H d => Zt hX H d
   obtain ⟨cX1, cX2⟩ := Zp hX
   have hsu := YS (sureR l.length S)
   have lU := Zw hsu
   rw [List.length_map] at lU
   have rU := fun n d => ZH hsu n d
   have fU := fun H d => Zt hsu H d
   obtain ⟨cU1, cU2⟩ := Zp hsu
   have hV : Zs (.vl ((sureR l.length S).map rN) (sureR l.length S).isEmpty) = some ((sureR l.length S).map rN) := rfl
   have lV := Zw hV
   rw [List.length_map] at lV
   have rV := fun n d => ZH hV n d
   have fV := fun H d => Zt hV H d
   obtain ⟨cV1, cV2⟩ := Zp hV
   have e35 := o35_eq (N := (l.length : Int)) rfl hn10 hF (by omega) fun s hs => ⟨by have := (hSm s hs).1; omega, fun x hx => by have := (hSm s hs).2.2 x hx; omega⟩
   have e34s := o34_self hsu hV (fun i hi => by have := sureR_mem i hi; omega) (by have := sureR_len l.length S; omega)
   generalize Za.vl ((sureR l.length S).map rN) (sureR l.length S).isEmpty = vU at *
   generalize encL (sureR l.length S) = vS at *
   generalize hXv : Za.vl (S.map fun s => [encL s]) false = vX at *
   generalize hFv : encF S = vF at *
   have HH2 := zA e29 (zA e30 (zA e31 (zA e32 (zA e33 (zA lc (zA rc (zA fc (zA cc1 (zA cc2 (zA e35 (zA e34s (zA lF (zA rF (zA fF (zA cF1 (zA cF2 (zA lX (zA rX (zA fX (zA cX1 (zA cX2 (zA lU (zA fU (zA cU1 (zA cU2 (zA lV (zA rV (zA fV (zA cV1 cV2)))))))))))))))))))))))))))))
   refine zK ?_
   simp only [zT, zB]
   refine zS ?_
   refine zR (zO (by simp [zC h12, zC h29, zC h30, zC h31, zC h32, zC h33, zC h34, zC h35, -Zb, o12, HH1, rU, HH2]; rfl) ?_)
   simp only [zT, zB]
   refine zS ?_
   refine zR (zO (by simp [zC h12, zC h29, zC h30, zC h31, zC h32, zC h33, zC h34, zC h35, -Zb, o12, HH1, rU, HH2]; rfl) ?_)
   simp only [zT, zB]
   refine zS ?_
   refine zR (zO (by simp [zC h12, zC h29, zC h30, zC h31, zC h32, zC h33, zC h34, zC h35, -Zb, o12, HH1, rU, HH2]; rfl) ?_)
   simp only [zT, zB]
   refine zS ?_
   refine zR (zO (by simp [zC h12, zC h29, zC h30, zC h31, zC h32, zC h33, zC h34, zC h35, -Zb, o12, HH1, rU, HH2]; rfl) ?_)
   simp only [zT, zB]
   refine zS ?_
   refine zS ?_
   refine zR (zO (by simp [zC h12, zC h29, zC h30, zC h31, zC h32, zC h33, zC h34, zC h35, -Zb, o12, HH1, rU, HH2]; rfl) ?_)
   simp only [zT, zB]
   refine Zc (x := false) (by simp) ?_
   refine zK ?_
   simp only [zT, zB]
   refine zS ?_
   refine zS ?_
   refine zR (zO (by simp [zC h12, zC h29, zC h30, zC h31, zC h32, zC h33, zC h34, zC h35, -Zb, o12, HH1, rU, HH2]; rfl) ?_)
   simp only [zT, zB]
   refine Zc (x := false) (by simp) ?_
   refine zK ?_
   simp only [zT, zB]
   refine zS ?_
   refine zS ?_
   refine zR (zO (by simp [zC h12, zC h29, zC h30, zC h31, zC h32, zC h33, zC h34, zC h35, -Zb, o12, HH1, rU, HH2]; rfl) ?_)
   simp only [zT, zB]
   refine zL ?_
   refine Zy (fun m σ => ∃ (k : Nat) (i : Int), i = k ∧ S.length - k = m ∧ k ≤ S.length ∧ σ = ⟨[x, .any, .any, .any, .any, .any, .any, .any, vX, .any, vS, .any, vF, .any, I i, .any, .any, .any, .any, .any, .any, .any, .any, .any, .any, .any, .any, .any, .any, .any, .any, .any, .any, .any, .any, .any, .any, .any, .any, .any, .any, .any, .any, .any, .any, .any, .any, .any, .any, .any, .any, .any, .any, .any, .any, .any, .any, .any, .any, .any, .any, .any, .any, .any, .any, .any, .any, .any, .any, .any, .any, .any, .any, .any, .any, .any, .any, .any, .any, .any, .any, .any, .any, .any, .any, .any, .any, .any, .any, .any, .any, .any, .any, .any, .any, .any], []⟩) ?_ (S.length - 0) _ ⟨0, 0, rfl, rfl, Nat.zero_le _, by simp⟩
   rintro m σ ⟨k, i, hik, rfl, hkl, rfl⟩
   refine zS ?_
   refine zS ?_
   refine zR (zO (by simp [zC h12, zC h29, zC h30, zC h31, zC h32, zC h33, zC h34, zC h35, -Zb, o12, HH1, rU, HH2]; rfl) ?_)
   simp only [zT, zB]
   refine Ze (x := decide (i < (S.length : Int))) (by simp) (fun hlt => ?_) (fun hlt => ?_)
   ·have hlt := of_decide_eq_true hlt
    have hk0 : k < S.length := by omega
    obtain ⟨t1, rfl⟩ := Yz hX (k := k) (by simpa using hk0)
    obtain ⟨t2, rfl⟩ := Yz hF (k := k) (by simpa using hk0)
    have hi0 : 0 ≤ i := by omega
    have htn : i.toNat = k := by omega
    have hwi : W .i64 (i + 1) = i + 1 := ZD (by omega)
    have g1 : (S.map fun s => [encL s])[k]? = some [encL S[k]] := by rw [List.getElem?_map, List.getElem?_eq_getElem hk0]; rfl
    have g2 : ∀ h, (S.map fun s => [encL s])[k]'h = [encL S[k]] := fun h => by simp
    have g3 : (S.map rW)[k]? = some (rW S[k]) := by rw [List.getElem?_map, List.getElem?_eq_getElem hk0]; rfl
    have g4 : ∀ h, (S.map rW)[k]'h = rW S[k] := fun h => by simp
    have hrw : rW S[k] = [Yw S[k]] := rfl
    have hm := hSm _ (List.getElem_mem hk0)
    have hA := YS S[k]
    have hB : Zs (Yw S[k]) = some (S[k].map rN) := rfl
    have e34 := o34_self hA hB (fun i hi => by have := hm.2.2 i hi; omega) (by omega)
    have lA := Zw hA
    rw [List.length_map] at lA
    have rA := fun n d => ZH hA n d
    have fA := fun H d => Zt hA H d
    obtain ⟨cA1, cA2⟩ := Zp hA
    have lY := Zw hB
    rw [List.length_map] at lY
    have rY := fun n d => ZH hB n d
    have fY := fun H d => Zt hB H d
    obtain ⟨cY1, cY2⟩ := Zp hB
    generalize encL S[k] = va at *
    generalize Yw S[k] = vb at *
    have HH3 := zA hi0 (zA htn (zA hk0 (zA hwi (zA g1 (zA g2 (zA g3 (zA g4 (zA hrw (zA e34 (zA rA (zA cA1 (zA cA2 (zA fY (zA rY (zA cY1 cY2)))))))))))))))
    refine zK ?_
    simp only [zT, zB]
    refine zS ?_
    refine zL ?_
    refine zS ?_
    refine XO (by simp (maxSteps := 3000000) [zC h12, zC h29, zC h30, zC h31, zC h32, zC h33, zC h34, zC h35, -Zb, o12, HH1, rU, HH2, fA, -List.getElem?_map, -List.getElem_map, HH3]; rfl) ?_
    simp only [zT, zB]
    refine Zc (x := false) (by simp) ?_
    refine zK ?_
    simp only [zT, zB]
    refine zR (zO (by simp [zC h12, zC h29, zC h30, zC h31, zC h32, zC h33, zC h34, zC h35, -Zb, o12, HH1, rU, HH2, fA, -List.getElem?_map, -List.getElem_map, HH3]; rfl) ?_)
    simp only [zT, zB]
    exact ⟨S.length - (k + 1), by omega, k + 1, i + 1, by omega, rfl, by omega, by simp [zC h12, zC h29, zC h30, zC h31, zC h32, zC h33, zC h34, zC h35, -Zb, o12, HH1, rU, HH2, fA, -List.getElem?_map, -List.getElem_map, HH3]⟩
   ·have hlt := of_decide_eq_false hlt
    refine Zl ?_
    simp only [zT, zB, if_true, if_false, reduceIte, Nat.reduceEqDiff, Nat.succ_ne_zero, Nat.one_ne_zero, Nat.zero_ne_one]
    refine zS ?_
    refine zR (zO (by simp [zC h12, zC h29, zC h30, zC h31, zC h32, zC h33, zC h34, zC h35, -Zb, o12, HH1, rU, HH2]; rfl) ?_)
    simp only [zT, zB]
    refine Zd ?_
    simp [zC h12, zC h29, zC h30, zC h31, zC h32, zC h33, zC h34, zC h35, -Zb, o12, HH1, rU, HH2]
  ·rw [if_neg hE] at e30 e31
   obtain rfl := hS0 hE
   have hEb : (E != 0) = true := by simpa using hE
   have HH4 := zA e29 (zA e30 (zA e31 (zA e32 (zA e33 (zA lc (zA rc (zA fc (zA cc1 (zA cc2 hEb)))))))))
   refine zK ?_
   simp only [zT, zB]
   refine zS ?_
   refine zR (zO (by simp [zC h12, zC h29, zC h30, zC h31, zC h32, zC h33, zC h34, zC h35, -Zb, o12, HH1, encF, HH4]; rfl) ?_)
   simp only [zT, zB]
   refine zS ?_
   refine zR (zO (by simp [zC h12, zC h29, zC h30, zC h31, zC h32, zC h33, zC h34, zC h35, -Zb, o12, HH1, encF, HH4]; rfl) ?_)
   simp only [zT, zB]
   refine zS ?_
   refine zR (zO (by simp [zC h12, zC h29, zC h30, zC h31, zC h32, zC h33, zC h34, zC h35, -Zb, o12, HH1, encF, HH4]; rfl) ?_)
   simp only [zT, zB]
   refine zS ?_
   refine zR (zO (by simp [zC h12, zC h29, zC h30, zC h31, zC h32, zC h33, zC h34, zC h35, -Zb, o12, HH1, encF, HH4]; rfl) ?_)
   simp only [zT, zB]
   refine zS ?_
   refine zS ?_
   refine zR (zO (by simp [zC h12, zC h29, zC h30, zC h31, zC h32, zC h33, zC h34, zC h35, -Zb, o12, HH1, encF, HH4]; rfl) ?_)
   simp only [zT, zB]
   refine Zc (x := false) (by simp) ?_
   refine zK ?_
   simp only [zT, zB]
   refine zS ?_
   refine zS ?_
   refine zR (zO (by simp [zC h12, zC h29, zC h30, zC h31, zC h32, zC h33, zC h34, zC h35, -Zb, o12, HH1, encF, HH4]; rfl) ?_)
   simp only [zT, zB]
   refine Zc (x := true) (by simp) ?_
   refine zS ?_
   refine zR (zO (by simp [zC h12, zC h29, zC h30, zC h31, zC h32, zC h33, zC h34, zC h35, -Zb, o12, HH1, encF, HH4]; rfl) ?_)
   simp only [zT, zB]
   refine Zd ?_
   simp [zC h12, zC h29, zC h30, zC h31, zC h32, zC h33, zC h34, zC h35, -Zb, o12, HH1, encF, HH4]
theorem law5 (x : Za) (l : List (Int × Int)) (hx : Zs x = some (l.map rQ)) (se mi : Int) : Zn Tryd.prog DP3 5 [x, I se, I mi] [] fun v _ => v = .bool true :=
  a5 Tryd.prog DP3 rfl rfl rfl rfl rfl rfl rfl rfl rfl x l hx se mi
end
end
end Go.Proofs.YtpebmjeomlgmdaaDoor.Tab
