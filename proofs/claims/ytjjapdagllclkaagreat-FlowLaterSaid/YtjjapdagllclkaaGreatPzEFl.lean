/- Contracts of flow: copies of jobs with minutes in a block. No condition. -/
import Derived.Test.YtjjapdagllclkaaGreatRows
import Derived.Test.YtjjapdagllclkaaGreatChecked
import Derived.OpenShut
import Derived.JoinedOf
import Derived.Handed
import Derived.Test.YtjjapdagllclkaaGreatPzDFl
import Derived.Test.YtjjapdagllclkaaGreatPzBFl
import Derived.Test.YtjjapdagllclkaaGreatPzCFl
set_option linter.unusedSimpArgs false
set_option linter.unusedVariables false
namespace Go.Proofs.YtjjapdagllclkaaGreat.Tab
open Go Go.Abs Go.Proofs
set_option maxRecDepth 100000
set_option maxHeartbeats 4000000
set_option linter.unusedSimpArgs false
set_option linter.unusedVariables false
noncomputable section
attribute [local simp] YC Yt XV XW YZ YY XX YJ Xw Ys Zd orcF XO YX XQ XM YE Yr rb_vl rb_pv XK YW YV YU XP XL XN rb_sl rb_fn slE chunk fillA Ym ZK putAt List.range_succ List.range_zero List.range'_succ List.range'_zero ZU ZS ZF ZW ZB ZM stepX Yh dop CV.ev Yu Zv ZA Xt fI_eq YA Yy Zy Zw Out.v putT List.replicate_succ zT zB arI ZN Abs.rowAt ldRow allV toV toC ofV ofC Builtin.min_ Builtin.min2 Builtin.max_ Builtin.max2 XT XU resA tupA kill ZT Yo Yp Yn Zc
section
attribute [local simp] ZV ZD Xp YN actD clash disj Xq holes Xr ZY Xu news eqB allB eqA Xf wrote toCs ofCs stA Yq ZE Yl dI1 dI2 dI3 dI5 elt
attribute [local simp] XH XD XI XE YS XG YP XF st_pv YO st_sl st_vl YQ st_mp st_fn YR XC co_any co_und co_agg co_tup Xe co_int Xb co_ref co_pv Xa co_sl co_vl Xc co_mp co_fn Xd XZ
attribute [local simp] callA ZQ lim lop loud XR rbB_row
open Classical in
def oMade : List Za → Option Za
  | [.agg r] => match dWk r with
    | some (W, _, _) => if WkOk W then some (.tup [.agg [I (wM W), encC (wC W (wK W).toNat), encN (wT W (min W.xs.length 6))], encJ (wJ W (min W.ys.length 5))]) else none
    | none => none
  | _ => none
open Classical in
def oOrder : List Za → Option Za
  | [.agg r, .int .i64 n] => match dWk r with
    | some (W, _, _) => if WkOk W ∧ 0 ≤ n ∧ n ≤ 6 then some (encE (ordW W.o n.toNat)) else none
    | none => none
  | _ => none
open Classical in
def oTimed : List Za → Option Za
  | [.agg [.int .i64 m, c, t], j, sv] => match ZI c, Yg t, Xj j, ZI sv with
    | some cs, some ts, some js, some S => if ShopOk ⟨m, cs, ts⟩ js ∧ StOk ⟨m, cs, ts⟩ js S then some (.tup [encE (endsL S js m.toNat js.length), .bool true]) else none
    | _, _, _, _ => none
  | _ => none
theorem made_eq {W_ : FWorks} {x y : Za} (hx : Yi x = some (W_.xs.map rU)) (hy : Yi y = some (W_.ys.map rU)) (hw : WkOk W_) : oMade [.agg (wkC W_ x y)] = some (.tup [.agg [I (wM W_), encC (wC W_ (wK W_).toNat), encN (wT W_ (min W_.xs.length 6))], encJ (wJ W_ (min W_.ys.length 5))]) := by
  simp only [oMade, dWk_self hw.g.1 hx hy]; rw [if_pos hw]
theorem order_eq {W_ : FWorks} {x y : Za} (hx : Yi x = some (W_.xs.map rU)) (hy : Yi y = some (W_.ys.map rU)) (hw : WkOk W_) {n : Nat} (hn : n ≤ 6) : oOrder [.agg (wkC W_ x y), I (n : Int)] = some (encE (ordW W_.o n)) := by
  simp only [oOrder, dWk_self hw.g.1 hx hy]; rw [if_pos ⟨hw, by omega, by omega⟩]; rfl
theorem timed_eq {s : FShop} {js : List FJob} {c t j sv : Za} {S : List (List Int)} (hc : ZI c = some s.chg) (ht : Yg t = some s.stops) (hj : Xj j = some js) (hs : ZI sv = some S) (h1 : ShopOk s js) (h2 : StOk s js S) : oTimed [.agg [I s.mach, c, t], j, sv] = some (.tup [encE (endsL S js s.mach.toNat js.length), .bool true]) := by
  simp only [oTimed, hc, ht, hj, hs]; rw [if_pos ⟨h1, h2⟩]
theorem made_good : ∀ args v, oMade args = some v → OrcGood Tryz.prog GG false 41 args v := fun args v ho => by
  unfold oMade at ho; split at ho <;> (try simp only [reduceCtorEq] at ho)
  rename_i r
  split at ho <;> (try simp only [reduceCtorEq] at ho)
  rename_i W_ x y hr
  split at ho <;> (try simp only [reduceCtorEq] at ho)
  rename_i hw
  simp only [Option.some.injEq] at ho
  subst ho
  obtain ⟨rfl, hx, hy⟩ := dWk_eq hr
  exact YL mixed (tab_updG T_ok) (a41 Tryz.prog (updG T 41 [(118, [.cell 4 1]), (502, [.slot 7]), (566, [.cell 4 2]), (12342, [.slot 12]), (127030, [.cell 15 3])] []) rfl W_ x y hx hy hw)
theorem order_good : ∀ args v, oOrder args = some v → OrcGood Tryz.prog GG true 42 args v := fun args v ho => by
  unfold oOrder at ho; split at ho <;> (try simp only [reduceCtorEq] at ho)
  rename_i r n
  split at ho <;> (try simp only [reduceCtorEq] at ho)
  rename_i W_ x y hr
  split at ho <;> (try simp only [reduceCtorEq] at ho)
  rename_i hw
  simp only [Option.some.injEq] at ho
  subst ho
  obtain ⟨rfl, hx, hy⟩ := dWk_eq hr
  obtain ⟨hw, hn0, hn6⟩ := hw
  obtain ⟨m, rfl⟩ : ∃ m : Nat, n = m := ⟨n.toNat, by omega⟩
  exact YL mixed (tab_updG T_ok) (a42 Tryz.prog (updG T 42 [(230, [.slot 5]), (358, [.slot 5, .slot 6])] []) rfl rfl W_ x y hx hy hw m (by omega))
def FT1 : Nat → Option CFn := upd FP2 41 false oMade
theorem FT1_ok : Zr Tryz.prog GG FT1 := tab_upd FP2_ok made_good
def FT2 : Nat → Option CFn := upd FT1 42 true oOrder
theorem FT2_ok : Zr Tryz.prog GG FT2 := tab_upd FT1_ok order_good
def FT3 : Nat → Option CFn := upd FT2 15 true oKn
theorem FT3_ok : Zr Tryz.prog GG FT3 := tab_upd FT2_ok kn_good
def FT_44 : Nat → Option CFn := upd FT3 44 true (oTimed)
theorem FT_44_ok : Zr Tryz.prog GG FT_44 := Xm mixed FT3_ok fun args v ho => by
  unfold oTimed at ho; split at ho <;> (try simp only [reduceCtorEq] at ho)
  rename_i m c t j sv
  split at ho <;> (try simp only [reduceCtorEq] at ho)
  rename_i cs ts js S hc ht hj hs
  split at ho <;> (try simp only [reduceCtorEq] at ho)
  rename_i hg
  simp only [Option.some.injEq] at ho
  subst ho
  exact a44 Tryz.prog FT3 rfl ⟨m, cs, ts⟩ js c t j hc ht hj S sv hs hg.1 hg.2
def FT : Nat → Option CFn := FT_44
theorem FT_ok : Zr Tryz.prog GG FT := FT_44_ok
theorem wk_cells {W_ : FWorks} {x y : Za} (hx : Yi x = some (W_.xs.map rU)) (hy : Yi y = some (W_.ys.map rU)) (hw : WkOk W_) : (wkC W_ x y).length = 26 ∧ (wkC W_ x y).all Zq = true ∧ (∀ n d, (wkC W_ x y).all (rb n (d + 1)) = true) ∧ (∀ H d, Zd (frz false H (d + 1)) (wkC W_ x y) = some (wkC W_ x y)) := by
  obtain ⟨cx1, cx2⟩ := Xl hx
  obtain ⟨cy1, cy2⟩ := Xl hy
  have rx := fun n d => rowsV_rb hx n d
  have ry := fun n d => rowsV_rb hy n d
  refine ⟨by simp [wkC, rU_len, hw.g.1, hw.o.1], ?_, fun n d => ?_, fun H d => Zz _ fun z hz => ?_⟩
  · have h1 := rU_stor W_.g
    have h2 := rU_stor W_.o
    simp only [wkC, List.all_cons, List.all_append, h1, h2, cx2, cy2, List.all_nil, Bool.and_true]; rfl
  · have h1 := rU_rb n d W_.g
    have h2 := rU_rb n d W_.o
    simp only [wkC, List.all_cons, List.all_append, h1, h2, rx, ry, YE, List.all_nil, Bool.and_true]
  · simp only [wkC, List.mem_cons, List.mem_append, List.not_mem_nil, or_false] at hz
    rcases hz with rfl | rfl | (h | rfl | rfl) | h
    · exact YC ..
    · exact YC ..
    · obtain ⟨a, _, rfl⟩ := List.mem_map.1 h; exact YC ..
    · exact rowsV_frz hx H d
    · exact rowsV_frz hy H d
    · obtain ⟨a, _, rfl⟩ := List.mem_map.1 h; exact YC ..
end
end
end Go.Proofs.YtjjapdagllclkaaGreat.Tab
namespace Go.Proofs.YtjjapdagllclkaaGreat
open Go Go.Abs Go.Proofs Go.ChangeShapes Go.WideShapes Go.ChangeAt Go.RowKit
theorem own : ownKnob Tryz.prog.godebug = none := by kernel_rfl
theorem laidOut : laidOutB Tryz.prog = true := by kernel_rfl
theorem u8_wf {n : Int} (h : (Lit.int .u8 n).wf = true) : 0 ≤ n ∧ n ≤ 255 := by
  have e1 : IntKind.u8.min = 0 := rfl
  have e2 : IntKind.u8.max = 255 := rfl
  simp only [Lit.wf, e1, e2, Bool.and_eq_true, decide_eq_true_eq] at h
  exact h
theorem fits_u {Ls : List Ly} {xs : List Za} (h : FitsR (.int .u8 :: Ls) xs) : ∃ (a : Int) (ys : List Za), xs = .int .u8 a :: ys ∧ (0 ≤ a ∧ a ≤ 255) ∧ FitsR Ls ys := by
  obtain ⟨x, ys, rfl, hx, h1⟩ := fitsR_cons h
  obtain ⟨a, rfl, ha⟩ := fits_int hx
  exact ⟨a, ys, rfl, u8_wf ha, h1⟩
theorem fits_us : ∀ (n : Nat) {Ls : List Ly} {xs : List Za}, FitsR (List.replicate n (.int .u8) ++ Ls) xs → ∃ (v : List Int) (ys : List Za), xs = Tab.rU v ++ ys ∧ v.length = n ∧ (∀ a ∈ v, Tab.isU a) ∧ FitsR Ls ys
  | 0, _, xs, h => ⟨[], xs, rfl, rfl, by simp, h⟩
  | n + 1, Ls, xs, h => by
    have h : FitsR (.int .u8 :: (List.replicate n (.int .u8) ++ Ls)) xs := h
    obtain ⟨a, ys, rfl, ha, h⟩ := fits_u h
    obtain ⟨v, zs, rfl, hl, hv, h⟩ := fits_us n h
    exact ⟨a :: v, zs, rfl, by rw [List.length_cons, hl], fun b hb => by
      rcases List.mem_cons.1 hb with rfl | hb
      · exact ha
      · exact hv b hb, h⟩
theorem map_ofP {α : Type} {enc : α → List Za} {p : α → Prop} : ∀ {l : List (List Za)}, (∀ r ∈ l, ∃ a, r = enc a ∧ p a) → ∃ vs : List α, l = vs.map enc ∧ ∀ a ∈ vs, p a
  | [], _ => ⟨[], rfl, by simp⟩
  | r :: l, h => by
    obtain ⟨a, rfl, ha⟩ := h r (by simp)
    obtain ⟨vs, rfl, hvs⟩ := map_ofP (l := l) fun r hr => h r (by simp [hr])
    exact ⟨a :: vs, rfl, fun b hb => by
      rcases List.mem_cons.1 hb with rfl | hb
      · exact ha
      · exact hvs b hb⟩
theorem rows_of {x : Za} {rs : List (List Za)} (hx : x = .nils ∧ rs = [] ∨ ∃ t, x = .vl rs t) : Yi x = some rs := by
  rcases hx with ⟨rfl, rfl⟩ | ⟨t, rfl⟩ <;> rfl
theorem fits_works {xs : List Za} (h : FitsR [.int .u8, .int .u8, .int .u8, .int .u8, .int .u8, .int .u8, .int .u8, .int .u8, .int .u8, .int .u8, .int .u8, .int .u8, .int .u8, .int .u8, .int .u8, .int .u8, .int .u8, .int .u8, .sl [.int .u8, .int .u8, .int .u8, .int .u8], .sl [.int .u8, .int .u8, .int .u8, .int .u8, .int .u8, .int .u8, .int .u8], .int .u8, .int .u8, .int .u8, .int .u8, .int .u8, .int .u8] xs) :
    ∃ (W_ : Tab.FWorks) (x y : Za), xs = Tab.wkC W_ x y ∧ Yi x = some (W_.xs.map Tab.rU) ∧ Yi y = some (W_.ys.map Tab.rU) ∧ Tab.WkOk W_ := by
  obtain ⟨m, ys, rfl, hm, h⟩ := fits_u h
  obtain ⟨k, ys, rfl, hk, h⟩ := fits_u h
  obtain ⟨g, ys, rfl, gl, hg, h⟩ := fits_us 16 h
  obtain ⟨x, ys, rfl, gx, h⟩ := fitsR_cons h
  obtain ⟨y, ys, rfl, gy, h⟩ := fitsR_cons h
  obtain ⟨o, ys, rfl, ol, ho, h⟩ := fits_us 6 (Ls := []) h
  obtain rfl := fitsR_nil h
  obtain ⟨r1, k1, q1⟩ := fits_rows gx
  obtain ⟨r2, k2, q2⟩ := fits_rows gy
  obtain ⟨xs, rfl, hxs⟩ := map_ofP (enc := Tab.rU) (p := fun v => v.length = 4 ∧ ∀ n ∈ v, Tab.isU n) (l := r1) fun a ha => by
    obtain ⟨v, ys, rfl, vl, hv, h⟩ := fits_us 4 (Ls := []) (q1 a ha)
    obtain rfl := fitsR_nil h
    exact ⟨v, by rw [List.append_nil], vl, hv⟩
  obtain ⟨ys, rfl, hys⟩ := map_ofP (enc := Tab.rU) (p := fun v => v.length = 7 ∧ ∀ n ∈ v, Tab.isU n) (l := r2) fun a ha => by
    obtain ⟨v, ys, rfl, vl, hv, h⟩ := fits_us 7 (Ls := []) (q2 a ha)
    obtain rfl := fitsR_nil h
    exact ⟨v, by rw [List.append_nil], vl, hv⟩
  refine ⟨⟨m, k, g, xs, ys, o⟩, x, y, ?_, rows_of k1, rows_of k2, ⟨hm, hk, ⟨gl, hg⟩, hxs, hys, ⟨ol, ho⟩⟩⟩
  simp [Tab.wkC]
end Go.Proofs.YtjjapdagllclkaaGreat
namespace Go.Proofs.YtjjapdagllclkaaGreat.Tab
open Go Go.Abs Go.Proofs
set_option maxRecDepth 100000
set_option maxHeartbeats 4000000
set_option linter.unusedSimpArgs false
set_option linter.unusedVariables false
noncomputable section
attribute [local simp] YC Yt XV XW YZ YY XX YJ Xw Ys Zd orcF XO YX XQ XM YE Yr rb_vl rb_pv XK YW YV YU XP XL XN rb_sl rb_fn slE chunk fillA Ym ZK putAt List.range_succ List.range_zero List.range'_succ List.range'_zero ZU ZS ZF ZW ZB ZM stepX Yh dop CV.ev Yu Zv ZA Xt fI_eq YA Yy Zy Zw Out.v putT List.replicate_succ zT zB arI ZN Abs.rowAt ldRow allV toV toC ofV ofC Builtin.min_ Builtin.min2 Builtin.max_ Builtin.max2 XT XU resA tupA kill ZT Yo Yp Yn Zc
section
attribute [local simp] ZV ZD Xp YN actD clash disj Xq holes Xr ZY Xu news eqB allB eqA Xf wrote toCs ofCs stA Yq ZE Yl dI1 dI2 dI3 dI5 elt
attribute [local simp] XH XD XI XE YS XG YP XF st_pv YO st_sl st_vl YQ st_mp st_fn YR XC co_any co_und co_agg co_tup Xe co_int Xb co_ref co_pv Xa co_sl co_vl Xc co_mp co_fn Xd XZ
attribute [local simp] callA ZQ lop loud XR rbB_row
def FU1 : Nat → Option CFn := T
def FU2 : Nat → Option CFn := FU1
def FU3_22 : Nat → Option CFn := FU2
def FU3 : Nat → Option CFn := FU3_22
def FU : Nat → Option CFn := FU3
end
section
attribute [local simp] ZV ZD Xp YN actD clash disj Xq holes Xr ZY Xu news eqB allB eqA Xf wrote toCs ofCs stA Yq ZE Yl dI1 dI2 dI3 dI5 elt
attribute [local simp] XH XD XI XE YS XG YP XF st_pv YO st_sl st_vl YQ st_mp st_fn YR XC co_any co_und co_agg co_tup Xe co_int Xb co_ref co_pv Xa co_sl co_vl Xc co_mp co_fn Xd XZ
attribute [local simp] callA ZQ lop loud XR rbB_row
def FV1 : Nat → Option CFn := FU
def FV : Nat → Option CFn := FV1
end
section
attribute [local simp] ZV ZD Xp YN actD clash disj Xq holes Xr ZY Xu news eqB allB eqA Xf wrote toCs ofCs stA Yq ZE Yl dI1 dI2 dI3 dI5 elt
attribute [local simp] XH XD XI XE YS XG YP XF st_pv YO st_sl st_vl YQ st_mp st_fn YR XC co_any co_und co_agg co_tup Xe co_int Xb co_ref co_pv Xa co_sl co_vl Xc co_mp co_fn Xd XZ
attribute [local simp] callA ZQ lop loud XR rbB_row
def FW_25 : Nat → Option CFn := FV
def FW_68 : Nat → Option CFn := FW_25
def FW : Nat → Option CFn := FW_68
end
section
attribute [local simp] ZV ZD Xp YN actD clash disj Xq holes Xr ZY Xu news eqB allB eqA Xf wrote toCs ofCs stA Yq ZE Yl dI1 dI2 dI3 dI5 elt
attribute [local simp] XH XD XI XE YS XG YP XF st_pv YO st_sl st_vl YQ st_mp st_fn YR XC co_any co_und co_agg co_tup Xe co_int Xb co_ref co_pv Xa co_sl co_vl Xc co_mp co_fn Xd XZ
attribute [local simp] callA ZQ lop loud
def ixI (n : Int) : List Int → Int → Int
  | [], _ => -1
  | x :: l, i => if n = x then i else ixI n l (i + 1)
theorem ixI_nn (n : Int) : ∀ (l : List Int) (i : Int), 0 ≤ i → (0 ≤ ixI n l i ↔ n ∈ l)
  | [], i, _ => by simp [ixI]
  | x :: l, i, h => by
    simp only [ixI, List.mem_cons]
    split
    · rename_i e; exact ⟨fun _ => .inl e, fun _ => h⟩
    · rename_i e; rw [ixI_nn n l (i + 1) (by omega)]; exact ⟨.inr, fun h => h.resolve_left e⟩
theorem ixI_step {n : Int} {xs : List Int} {k : Nat} (hk : k < xs.length) (i : Int) : ixI n (xs.drop k) i = if n = xs[k] then i else ixI n (xs.drop (k + 1)) (i + 1) := by
  rw [List.drop_eq_getElem_cons hk]; rfl
def oIx : List Za → Option Za
  | [x, .int .i64 n] => match Yd x with
    | some xs => if xs.length ≤ 1000 then some (I (ixI n xs 0)) else none
    | none => none
  | _ => none
def oCont : List Za → Option Za
  | [x, .int .i64 n] => match Yd x with
    | some xs => if xs.length ≤ 1000 then some (.bool (decide (n ∈ xs))) else none
    | none => none
  | _ => none
theorem a115 (P : Program) (T : Nat → Option CFn) (hT : T 115 = some c115) (x : Za) (xs : List Int) (hx : Yd x = some xs) (hl : xs.length ≤ 1000) (n : Int) : ZH P T 115 [x, I n] [] fun v h => frz true h 5 v = some (I (ixI n xs 0)) := by
 have lx := Yz hx
 refine Zs hT (Zu rfl) ?_
 simp only [oo, om, op, og, ci, cl, c115]
 refine zS ?_
 refine zR (zO (by simp [lx, -Zc]; rfl) ?_)
 simp only [zT, zB]
 refine zS ?_
 refine zS ?_
 refine zR (zO (by simp [lx, -Zc]; rfl) ?_)
 simp only [zT, zB]
 refine zL ?_
 refine YI (fun m σ => ∃ (k : Nat) (i : Int), i = k ∧ xs.length - k = m ∧ k ≤ xs.length ∧ ixI n (xs.drop k) i = ixI n xs 0 ∧ σ = ⟨[x, I n, .any, .any, .any, .any, .any, I xs.length, I i, .any, .any, .any, .any, .any, .any, .any, .any, .any, .any], []⟩) ?_ (xs.length - 0) _ ⟨0, 0, rfl, rfl, Nat.zero_le _, rfl, by simp⟩
 rintro m σ ⟨k, i, hik, rfl, hkl, hR, rfl⟩
 refine zS ?_
 refine zR (zO (by simp [lx, -Zc]; rfl) ?_)
 simp only [zT, zB]
 refine zS ?_
 refine Zg (x := decide (i < (xs.length : Int))) (by simp) (fun hlt => ?_) (fun hlt => ?_)
 ·have hlt := of_decide_eq_true hlt
  have hk0 : k < xs.length := by omega
  obtain ⟨tt, rfl⟩ := Xh hx hk0
  have hi0 : 0 ≤ i := by omega
  have htn : i.toNat = k := by omega
  have hwi : W .i64 (i + 1) = i + 1 := ZR (by omega)
  rw [ixI_step hk0] at hR
  generalize hs : xs[k] = s at *
  have HH1 := zA lx (zA hi0 (zA htn (zA hk0 (zA hs hwi))))
  refine zK ?_
  simp only [zT, zB]
  refine zS ?_
  refine zL ?_
  refine zS ?_
  refine zR (zO (by simp [-Zc, zI, HH1]; rfl) ?_)
  simp only [zT, zB]
  refine zS ?_
  refine zR (zO (by simp [-Zc, zI, HH1]; rfl) ?_)
  simp only [zT, zB]
  refine Zg (x := (n == s)) (by simp) (fun he => ?_) (fun he => ?_)
  ·have he : n = s := by simpa using he
   rw [if_pos he] at hR
   rw [← hR]
   refine zS ?_
   refine zR (zO (by simp [-Zc, zI, HH1]; rfl) ?_)
   simp only [zT, zB]
   refine Zj ?_
   simp [-Zc, zI, HH1]
  ·have he : ¬ n = s := by simpa using he
   rw [if_neg he] at hR
   refine zK ?_
   simp only [zT, zB]
   refine zR (zO (by simp [-Zc, zI, HH1]; rfl) ?_)
   simp only [zT, zB]
   exact ⟨xs.length - (k + 1), by omega, k + 1, i + 1, by omega, rfl, by omega, hR, by simp [-Zc, zI, HH1]⟩
 ·have hlt := of_decide_eq_false hlt
  obtain rfl : k = xs.length := by omega
  rw [List.drop_length] at hR
  rw [← hR]
  refine ZL ?_
  simp only [zT, zB, if_true, if_false, reduceIte, Nat.reduceEqDiff, Nat.succ_ne_zero, Nat.one_ne_zero, Nat.zero_ne_one]
  refine zS ?_
  refine zR (zO (by simp [lx, -Zc]; rfl) ?_)
  simp only [zT, zB]
  refine Zj ?_
  simp [lx, -Zc, ixI]
def FIX1 : Nat → Option CFn := upd T 115 true (oIx)
theorem FIX1_ok : Zr Tryz.prog GG FIX1 := Xm mixed T_ok fun args v ho => by
  unfold oIx at ho; split at ho <;> (try simp only [reduceCtorEq] at ho)
  rename_i x n
  split at ho <;> (try simp only [reduceCtorEq] at ho)
  rename_i xs hx
  split at ho <;> (try simp only [reduceCtorEq] at ho)
  rename_i hl
  simp only [Option.some.injEq] at ho
  subst ho
  exact a115 Tryz.prog T rfl  x xs hx hl n
theorem a84 (P : Program) (T : Nat → Option CFn) (hT : T 84 = some c84) (h115 : T 115 = some { c115 with frsh := true, orc := oIx }) (x : Za) (xs : List Int) (hx : Yd x = some xs) (hl : xs.length ≤ 1000) (n : Int) : ZH P T 84 [x, I n] [] fun v h => frz true h 5 v = some (.bool (decide (n ∈ xs))) := by
 have fx := fun H d => ZG hx H d
 have hix : oIx [x, I n] = some (I (ixI n xs 0)) := by simp only [oIx, hx]; rw [if_pos hl]
 have hnn : (0 ≤ ixI n xs 0) ↔ n ∈ xs := ixI_nn n xs 0 (Int.le_refl _)
 refine Zs hT (Zu rfl) ?_
 simp only [oo, om, op, og, ci, cl, c84]
 refine zS ?_
 refine zR (zO (by simp [zC h115, h115, fx, hix, hnn]; rfl) ?_)
 simp only [zT, zB]
 refine zS ?_
 refine zR (zO (by simp [zC h115, h115, fx, hix, hnn]; rfl) ?_)
 simp only [zT, zB]
 refine Zj ?_
 simp [zC h115, h115, fx, hix, hnn]
def FIX : Nat → Option CFn := upd FIX1 84 true (oCont)
theorem FIX_ok : Zr Tryz.prog GG FIX := Xm mixed FIX1_ok fun args v ho => by
  unfold oCont at ho; split at ho <;> (try simp only [reduceCtorEq] at ho)
  rename_i x n
  split at ho <;> (try simp only [reduceCtorEq] at ho)
  rename_i xs hx
  split at ho <;> (try simp only [reduceCtorEq] at ho)
  rename_i hl
  simp only [Option.some.injEq] at ho
  subst ho
  exact a84 Tryz.prog FIX1 rfl rfl x xs hx hl n
theorem tab_good {P : Program} {G : Nat → Option (List Za)} {T : Nat → Option CFn} (hT : Zr P G T) {f : Nat} {c : CFn} (hf : T f = some c) : ∀ args v, c.orc args = some v → OrcGood P G c.frsh f args v := fun args v h => by
  obtain ⟨_, _, _, _, _, _, _, _, h7, _⟩ := hT f c hf
  exact h7 args v h
theorem ix_good : ∀ args v, oIx args = some v → OrcGood Tryz.prog GG true 115 args v := tab_good (f := 115) (c := { c115 with frsh := true, orc := oIx }) FIX_ok rfl
theorem cont_good : ∀ args v, oCont args = some v → OrcGood Tryz.prog GG true 84 args v := tab_good (f := 84) (c := { c84 with frsh := true, orc := oCont }) FIX_ok rfl
end
section
attribute [local simp] ZV ZD Xp YN actD clash disj Xq holes Xr ZY Xu news eqB allB eqA Xf wrote toCs ofCs stA Yq ZE Yl dI1 dI2 dI3 dI5 elt
attribute [local simp] XH XD XI XE YS XG YP XF st_pv YO st_sl st_vl YQ st_mp st_fn YR XC co_any co_und co_agg co_tup Xe co_int Xb co_ref co_pv Xa co_sl co_vl Xc co_mp co_fn Xd XZ
attribute [local simp] callA ZQ lim lop loud XR rbB_row
def FR1 : Nat → Option CFn := FT
def FR2 : Nat → Option CFn := FR1
def FR3 : Nat → Option CFn := FR2
def FR4 : Nat → Option CFn := FR3
def FR5 : Nat → Option CFn := FR4
def FR6 : Nat → Option CFn := FR5
def FR7 : Nat → Option CFn := FR6
def FR8 : Nat → Option CFn := FR7
def FR : Nat → Option CFn := FR8
end
end
end Go.Proofs.YtjjapdagllclkaaGreat.Tab
namespace Go.Proofs.YtjjapdagllclkaaGreat.Tab
open Go Go.Abs Go.Proofs
set_option linter.unusedSimpArgs false
set_option linter.unusedVariables false
abbrev FEv := Int × Int
def eLe (a b : FEv) : Prop := a.1 < b.1 ∨ (a.1 = b.1 ∧ a.2 ≤ b.2)
instance (a b : FEv) : Decidable (eLe a b) := by unfold eLe; infer_instance
end Go.Proofs.YtjjapdagllclkaaGreat.Tab
namespace Go.Proofs.YtjjapdagllclkaaGreat.Tab
open Go Go.Abs Go.Proofs
set_option maxRecDepth 100000
set_option maxHeartbeats 4000000
set_option linter.unusedSimpArgs false
set_option linter.unusedVariables false
section
attribute [local simp] YC Yt XV XW YZ YY XX YJ Xw Ys Zd orcF XO YX XQ XM YE Yr rb_vl rb_pv XK YW YV YU XP XL XN rb_sl rb_fn slE chunk fillA Ym ZK putAt List.range_succ List.range_zero List.range'_succ List.range'_zero ZU ZS ZF ZW ZB ZM stepX Yh dop CV.ev Yu Zv ZA Xt fI_eq YA Yy Zy Zw Out.v putT List.replicate_succ zT zB arI ZN Abs.rowAt ldRow allV toV toC ofV ofC Builtin.min_ Builtin.min2 Builtin.max_ Builtin.max2 XT XU resA tupA kill ZT Yo Yp Yn Zc
section
attribute [local simp] ZV ZD Xp YN actD clash disj Xq holes Xr ZY Xu news eqB allB eqA Xf wrote toCs ofCs stA Yq ZE Yl dI1 dI2 dI3 dI5 elt
attribute [local simp] XH XD XI XE YS XG YP XF st_pv YO st_sl st_vl YQ st_mp st_fn YR XC co_any co_und co_agg co_tup Xe co_int Xb co_ref co_pv Xa co_sl co_vl Xc co_mp co_fn Xd XZ
attribute [local simp] above backA backA1 callA ZQ flatAt flatBlk frNB_none frNB_row frN_agg frN_bool frN_int frN_nils frN_ref frN_sl frN_tup frN_vl frameE lop loud norm posOf ptrs putH XR rbB_row renA setH
theorem W_e0 : W .i64 0 = 0 := by decide
theorem W_e1 : W .i64 1 = 1 := by decide
theorem W_e2 : W .i64 2 = 2 := by decide
attribute [local simp] W_e0 W_e1 W_e2
end
end
end Go.Proofs.YtjjapdagllclkaaGreat.Tab
namespace Go.Proofs.YtjjapdagllclkaaGreat.Tab
open Go Go.Abs Go.Proofs
set_option maxRecDepth 100000
set_option maxHeartbeats 4000000
set_option linter.unusedSimpArgs false
set_option linter.unusedVariables false
noncomputable section
attribute [local simp] YC Yt XV XW YZ YY XX YJ Xw Ys Zd orcF XO YX XQ XM YE Yr rb_vl rb_pv XK YW YV YU XP XL XN rb_sl rb_fn slE chunk fillA Ym ZK putAt List.range_succ List.range_zero List.range'_succ List.range'_zero ZU ZS ZF ZW ZB ZM stepX Yh dop CV.ev Yu Zv ZA Xt fI_eq YA Yy Zy Zw Out.v putT List.replicate_succ zT zB arI ZN Abs.rowAt ldRow allV toV toC ofV ofC Builtin.min_ Builtin.min2 Builtin.max_ Builtin.max2 XT XU resA tupA kill ZT Yo Yp Yn Zc
section
attribute [local simp] ZV ZD Xp YN actD clash disj Xq holes Xr ZY Xu news eqB allB eqA Xf wrote toCs ofCs stA Yq ZE Yl dI1 dI2 dI3 dI5 elt
attribute [local simp] XH XD XI XE YS XG YP XF st_pv YO st_sl st_vl YQ st_mp st_fn YR XC co_any co_und co_agg co_tup Xe co_int Xb co_ref co_pv Xa co_sl co_vl Xc co_mp co_fn Xd XZ
attribute [local simp] Function.comp_def List.all_append List.all_map above callA ZQ frNB_none frNB_row frN_agg frN_bool frN_int frN_nils frN_ref frN_sl frN_tup frN_vl frzG gather getR lim lop loud lowA lowR norm okG putG putR XR rbB_row resG rowAt takeG
def lateR (s : FShop) (js : List FJob) (os : List Int) : Int × Int × Int := (((Xs (endF s js os) js js.length).length : Int), (latF (endF s js os) js js.length).1, (latF (endF s js os) js js.length).2)
theorem lateT_R {s : FShop} {js : List FJob} {os : List Int} (h : ordE s js os = 0) : lateT s js os = lateR s js os := by unfold lateT; rw [if_pos h]; rfl
end
end
end Go.Proofs.YtjjapdagllclkaaGreat.Tab
namespace Go.Abs
open Go
noncomputable section
def ZO : Za → Bool
 | .int _ _ => true
 | .bool _ => true
 | .nils => true
 | .nilp => true
 | _ => false
def okA (fr : Bool) (v : Za) : Bool := if fr then ZO v else rb 0 5 v
def ZJ (fr : Bool) (J : List Nat) : Za → Option Za
 | .ref p k o => match J[p]? with
  | some i => some (.ref i k o)
  | none => none
 | .sl p k n t => match J[p]? with
  | some i => some (.sl i k n t)
  | none => none
 | v => if okA fr v then some v else none
def Yx (fr : Bool) (J : List Nat) : Za → Option Za
 | .tup xs => match Zd (ZJ fr J) xs with
  | some ys => some (.tup ys)
  | none => none
 | .agg xs => match Zd (ZJ fr J) xs with
  | some ys => some (.agg ys)
  | none => none
 | v => ZJ fr J v
def Yw (K : List Nat) (h : Zf) : Zf := K.foldl (fun h i => h.set i none) h
def keepA (fr : Bool) (K : List Nat) (h : Zf) : Za → Option Za
 | .ref i k o => match posOf K i 0 with
  | some p => some (.ref p k o)
  | none => if fr then none else frz false (Yw K h) 5 (.ref i k o)
 | .sl i k n t => match posOf K i 0 with
  | some p => some (.sl p k n t)
  | none => if fr then none else frz false (Yw K h) 5 (.sl i k n t)
 | v => if okA fr v then some v else none
def keepB (fr : Bool) (K : List Nat) (h : Zf) : Za → Option Za
 | .tup xs => match Zd (keepA fr K h) xs with
  | some ys => some (.tup ys)
  | none => none
 | .agg xs => match Zd (keepA fr K h) xs with
  | some ys => some (.agg ys)
  | none => none
 | v => keepA fr K h v
theorem hideK_get : ∀ {K : List Nat} {h : Zf} {i : Nat} {b : Blk}, (Yw K h)[i]? = some (some b) → i ∉ K ∧ h[i]? = some (some b)
 | [], h, i, b, hi => ⟨by simp, hi⟩
 | k :: K, h, i, b, hi => by
  obtain ⟨h1, h2⟩ := hideK_get (K := K) (h := h.set k none) hi
  by_cases e : k = i
  ·subst e
   rcases Nat.lt_or_ge k h.length with hl | hl
   ·rw [List.getElem?_set_self hl] at h2; simp at h2
   ·rw [List.getElem?_eq_none (by simp; omega)] at h2; simp at h2
  ·rw [List.getElem?_set_ne e] at h2
   exact ⟨fun hm => by rcases List.mem_cons.1 hm with rfl | hm <;> contradiction, h2⟩
theorem hideK_len : ∀ (K : List Nat) (h : Zf), (Yw K h).length = h.length
 | [], _ => rfl
 | k :: K, h => by show (Yw K (h.set k none)).length = _; rw [hideK_len K, List.length_set]
def Yv (fr : Bool) : Option Blk → Bool
 | some (.row _ rs) => rs.all (·.all (okA fr))
 | none => true
 | _ => false
def ZC (fr : Bool) (sp : List Za → Option (Za × Zf)) (args : List Za) (h : Zf) : Option (Za × List (Nat × Option Blk)) :=
 match (if fr then Zd (frz false h 5) args else if args.all (rb 0 5) then some args else none) with
 | some ass => match sp ass with
  | some (v, hs) => if hs.all (Yv fr) = true then (match Yx fr (List.range' h.length hs.length) v with
   | some v' => some (v', (List.range' h.length hs.length).zip hs)
   | none => none) else none
  | none => none
 | none => none
theorem setH_new : ∀ (hs h : Zf), setH h ((List.range' h.length hs.length).zip hs) = h ++ hs
 | [], h => by simp [setH]
 | b :: hs, h => by
  show setH (putH h h.length b) ((List.range' (h.length + 1) hs.length).zip hs) = _
  have e : putH h h.length b = h ++ [b] := by unfold putH; rw [if_neg (Nat.lt_irrefl _), if_pos rfl]
  have := setH_new hs (h ++ [b])
  rw [List.length_append] at this
  rw [e]
  simpa using this
section
variable {P : Program} {G : Nat → Option (List Za)} {T : Nat → Option CFn} {E E' E1 E2 : Env} {h h' h0 h1 hs : Zf} {w w' : World} {n : Nat} {J K : List Nat}
theorem vr_plain {v : Za} {u : Value} (hv : E.VR w v u) (hp : ZO v = true) : E2.VR w v u := by
 cases hv <;> first | (simp [ZO] at hp; done) | skip
 ·exact .bool _ _
 ·exact .int _ _ _
 ·exact .nilp _
 ·exact .nils _
theorem vr_okA {fr : Bool} (hI : fr = false → ∀ b, E.I b → E2.I b) {v : Za} {u : Value} (hv : E.VR w v u) (hp : okA fr v = true) : E2.VR w v u := by
 cases fr with
 | true => exact vr_plain hv hp
 | false => exact vr_flat (hI rfl) hv hp
theorem hideK_hr (hr : E.HR P G h w) (K : List Nat) : E.HR P G (Yw K h) w :=
 ⟨fun i b hi => hr.blk i b (hideK_get hi).2, fun i j b c hi hj he => hr.inj i j b c (hideK_get hi).2 (hideK_get hj).2 he, fun i hi => by rw [hideK_len]; exact hr.lt i hi, hr.own, hr.imm, hr.glob⟩
theorem frz_refv {h : Zf} {d i k o : Nat} {x : Za} (hx : frz false h (d + 1) (.ref i k o) = some x) : ∀ xs, x ≠ .tup xs ∧ x ≠ .agg xs := fun xs => by
 rw [YJ] at hx
 (repeat' split at hx) <;> simp at hx <;> subst hx <;> simp
theorem frz_slv {h : Zf} {d i k n : Nat} {t : Bool} {x : Za} (hx : frz false h (d + 1) (.sl i k n t) = some x) : ∀ xs, x ≠ .tup xs ∧ x ≠ .agg xs := fun xs => by
 rw [Xw] at hx
 (repeat' split at hx) <;> simp at hx <;> subst hx <;> simp
theorem fresh_good {fr : Bool} {f : Nat} {args ass : List Za} {v v1 v' : Za} (hc : YD P G f ass [] v1 h1) (hK : K.Nodup) (hsl : hs.length = K.length)
    (hat : ∀ p (hp : p < K.length) b, hs[p]? = some (some b) → h1[K[p]]? = some (some b)) (hf : hs.all (Yv fr) = true) (hb1 : keepB fr K h1 v1 = some v) (hb2 : Yx fr (List.range' h.length K.length) v = some v')
    (has : (if fr then Zd (frz false h 5) args else if args.all (rb 0 5) then some args else none) = some ass) : YD P G f args h v' (h ++ hs) := by
  intro E w cargs k hr hl
  obtain ⟨I0, hI0, hI1, hI2, hl0⟩ : ∃ I0 : Nat → Prop, (∀ b, E.I b → I0 b) ∧ (∀ b, I0 b → b < w.heap.size) ∧ (fr = false → ∀ b, I0 b → E.I b) ∧ Env.LR ⟨E.ρ, fun _ => False, fun _ => False, I0⟩ w ass cargs := by
    cases hfr : fr with
    | true =>
      simp only [hfr, if_true] at has
      obtain ⟨g1, g2⟩ := Zx has
      refine ⟨fun b => b < w.heap.size, fun b hb => (hr.imm b hb).1, fun b hb => hb, fun h => by simp at h, ⟨by rw [← g1]; exact hl.1, fun j h1 h2 => ?_⟩⟩
      exact frz_ok hr (fun i b hi => (hr.blk i b hi).2.2.1) (fun _ b hb => (hr.imm b hb).1) 5 (hl.2 j (by omega) h2) (g2 j (by omega) h1)
    | false =>
      simp only [hfr] at has
      simp at has
      obtain ⟨hx, rfl⟩ := has
      refine ⟨E.I, fun b hb => hb, fun b hb => (hr.imm b hb).1, fun _ b hb => hb, ⟨hl.1, fun j h1 h2 => ?_⟩⟩
      have := VR.trim 5 (hl.2 j h1 h2) (hx _ (List.getElem_mem h1))
      exact VR.mono this _ (fun i hi => absurd hi.2 (by omega)) fun b hb => ⟨hb, rfl⟩
  have hr0 : Env.HR P G ⟨E.ρ, fun _ => False, fun _ => False, I0⟩ [] w :=
    ⟨fun i b hi => by simp at hi, fun i j b c hi => by simp at hi, fun i hi => hi.elim, fun b hb => hb.elim, fun b hb => ⟨hI1 b hb, fun h => h⟩, fun g r hg => by
      have := hr.glob g r hg
      generalize hp : Value.pointer (some ⟨g, 0, none⟩) = pv at this ⊢
      cases this with
      | pv _ _ _ b off cv hb hc h => exact .pv _ _ _ b off cv (hI0 b hb) hc fun j hj => VR.mono (h j hj) _ (fun i hi => hi.elim) fun b hb => ⟨hI0 b hb, rfl⟩⟩
  refine CallsIn.mono (hc _ w cargs k hr0 hl0) ?_
  rintro e w' ⟨u, E1, rfl, hle, hr1, hu, _, _⟩
  have hO1 : ∀ b, E1.O b → w.heap.size ≤ b := fun b hb => Nat.le_of_not_lt fun h => (hle.old b h fun h => h).2.1 hb
  have hIo : ∀ b, E1.I b → b < w.heap.size → I0 b := fun b hb hs => (hle.old b hs fun h => h).2.2 hb
  have gd : ∀ p (hp : p < K.length), K.getD p 0 = K[p] := fun p hp => by rw [List.getD_eq_getElem?_getD, List.getElem?_eq_getElem hp]; rfl
  have hat1 : ∀ p (hp : p < K.length) b, hs[p]? = some (some b) → ∃ e rs, h1[K[p]]? = some (some (.row e rs)) ∧ hs[p]? = some (some (.row e rs)) ∧ Yv fr (some (.row e rs)) = true := fun p hp b hb => by
    simp only [List.all_eq_true] at hf
    have h2 := hat p hp b hb
    have hm := hf _ (List.mem_of_getElem? hb)
    cases b with
    | row e rs => exact ⟨e, rs, h2, hb, hm⟩
    | map es c => simp [Yv] at hm
    | loop t ps asg bd st pd => simp [Yv] at hm
  let E2 : Env := ⟨fun i => if i < h.length then E.ρ i else E1.ρ (K.getD (i - h.length) 0), fun i => E.D i ∨ (h.length ≤ i ∧ i < h.length + K.length), fun b => E.O b ∨ ∃ p, (p < K.length ∧ ∃ c, hs[p]? = some (some c)) ∧ b = (E1.ρ (K.getD p 0)).b, fun b => E.I b ∨ (fr = false ∧ (E1.I b ∨ ∃ i c, i ∉ K ∧ h1[i]? = some (some c) ∧ (E1.ρ i).b = b))⟩
  have hnew : ∀ p, (p < K.length ∧ ∃ c, hs[p]? = some (some c)) → E1.O (E1.ρ (K.getD p 0)).b ∧ (E1.ρ (K.getD p 0)).b < w'.heap.size ∧ w.heap.size ≤ (E1.ρ (K.getD p 0)).b := fun p ⟨hp, c, hc⟩ => by
    obtain ⟨e, rs, k1, _⟩ := hat1 p hp c hc
    obtain ⟨_, b2, b3, _⟩ := hr1.blk _ _ k1
    rw [gd p hp]
    exact ⟨b2, b3, hO1 _ b2⟩
  have hρo : ∀ i, i < h.length → E2.ρ i = E.ρ i := fun i hi => if_pos hi
  have hρn : ∀ p, E2.ρ (h.length + p) = E1.ρ (K.getD p 0) := fun p => by
    show (if h.length + p < h.length then _ else _) = _
    rw [if_neg (by omega), Nat.add_sub_cancel_left]
  have hle2 : Le E w E2 w' := ⟨hle.os, hle.tape, hle.output, hle.size, fun i hi => ⟨.inl hi, hρo i (hr.lt i hi)⟩, fun b hb => .inl hb, fun b hb ho =>
    ⟨(hle.old b hb fun h => h).1, fun h => h.elim ho fun ⟨p, hp, e⟩ => by have := (hnew p hp).2.2; omega, fun h => h.elim id fun ⟨hf, h⟩ => h.elim (fun h => hI2 hf b (hIo b h hb)) fun ⟨i, c, _, h2, h3⟩ => by have := hO1 _ (hr1.blk i c h2).2.1; omega⟩⟩
  have hvo : ∀ {x : Za} {u : Value}, okA fr x = true → E1.VR w' x u → E2.VR w' x u := fun hx hv => vr_okA (E := E1) (E2 := E2) (fun hf b hb => Or.inr ⟨hf, Or.inl hb⟩) hv hx
  have hvb : ∀ {x y z : Za} {u : Value}, keepA fr K h1 y = some x → E1.VR w' y u → ZJ fr (List.range' h.length K.length) x = some z → E2.VR w' z u := by
    intro x y z u hy hv hz
    have low : ∀ (hnr : ∀ p k o, x ≠ .ref p k o) (hns : ∀ p k n t, x ≠ .sl p k n t), E2.VR w' x u → E2.VR w' z u := fun hnr hns hx => by
      have : ZJ fr (List.range' h.length K.length) x = if okA fr x then some x else none := by
        cases x <;> first | rfl | exact absurd rfl (hnr _ _ _) | exact absurd rfl (hns _ _ _ _)
      rw [this] at hz
      split at hz <;> simp at hz
      subst hz; exact hx
    have flat : (if okA fr y then some y else none) = some x → (∀ p k o, y ≠ .ref p k o) → (∀ p k n t, y ≠ .sl p k n t) → E2.VR w' z u := fun h1 h2 h3 => by
      split at h1 <;> simp at h1
      rename_i hx
      subst h1
      exact low h2 h3 (hvo hx hv)
    have frozen : (if fr = true then none else frz false (Yw K h1) 5 y) = some x → E2.VR w' z u := fun h2 => by
      split at h2 <;> (try simp at h2)
      rename_i hfr
      have hfr : fr = false := by simpa using hfr
      have hx := frz_ok (hideK_hr hr1 K) (I' := E2.I) (ρ' := E2.ρ) (fun i b hi => Or.inr ⟨hfr, Or.inr ⟨i, b, (hideK_get hi).1, (hideK_get hi).2, rfl⟩⟩) (fun _ b hb => Or.inr ⟨hfr, Or.inl hb⟩) 5 hv h2
      exact low (fun p k o e => by subst e; cases hx; contradiction) (fun p k n t e => by subst e; cases hx; contradiction) (VR.mono hx _ (fun i hi => hi.elim) fun b hb => ⟨hb, rfl⟩)
    cases hv with
    | ref _ i k o hD =>
      simp only [keepA] at hy
      split at hy
      · rename_i p hp
        simp at hy; subst hy
        obtain ⟨_, hp2⟩ := posOf_some hp
        obtain ⟨hp3, hp4⟩ := List.getElem?_eq_some_iff.1 hp2
        simp only [Nat.sub_zero] at hp3 hp4
        simp only [ZJ] at hz
        split at hz <;> simp at hz
        rename_i j hj
        subst hz
        obtain ⟨hj3, rfl⟩ := List.getElem?_eq_some_iff.1 hj
        rw [List.getElem_range', Nat.one_mul]
        have e : E2.ρ (h.length + p) = E1.ρ i := by rw [hρn, gd p hp3, hp4]
        rw [← e]
        exact .ref _ _ k o (.inr ⟨by omega, by omega⟩)
      · exact frozen hy
    | sl _ i k n t a cap hD hn ht ha hs =>
      simp only [keepA] at hy
      split at hy
      · rename_i p hp
        simp at hy; subst hy
        obtain ⟨_, hp2⟩ := posOf_some hp
        obtain ⟨hp3, hp4⟩ := List.getElem?_eq_some_iff.1 hp2
        simp only [Nat.sub_zero] at hp3 hp4
        simp only [ZJ] at hz
        split at hz <;> simp at hz
        rename_i j hj
        subst hz
        obtain ⟨hj3, rfl⟩ := List.getElem?_eq_some_iff.1 hj
        rw [List.getElem_range', Nat.one_mul]
        have e : E2.ρ (h.length + p) = E1.ρ i := by rw [hρn, gd p hp3, hp4]
        rw [← e] at ha hs
        exact .sl _ _ k n t a cap (.inr ⟨by omega, by omega⟩) hn ht ha hs
      · exact frozen hy
    | _ => exact flat hy (by intros; simp) (by intros; simp)
  refine ⟨u, E2, rfl, hle2, ⟨fun i b hi => ?_, fun i j b c hi hj he => ?_, fun i hi => ?_, fun b hb => ?_, fun b hb => ?_, fun g r hg => hle2.vr hr (hr.glob g r hg)⟩, ?_, fun j hj => hj.imp id fun h => h.1, by rw [List.length_append]; omega⟩
  · rcases Nat.lt_or_ge i h.length with hl | hl
    · rw [List.getElem?_append_left hl] at hi
      obtain ⟨b1, b2, b3, b4⟩ := hr.blk i b hi
      rw [hρo i hl]
      exact ⟨.inl b1, .inl b2, Nat.lt_of_lt_of_le b3 hle.size, br_mono b4 (hρo i hl) (hle.old _ b3 fun h => h).1 fun _ _ hv => hle2.vr hr hv⟩
    · rw [List.getElem?_append_right hl] at hi
      obtain ⟨hp, _⟩ := List.getElem?_eq_some_iff.1 hi
      have hpK : i - h.length < K.length := by omega
      obtain ⟨e, rs, k1, k2, k3⟩ := hat1 _ hpK _ hi
      rw [hi] at k2
      simp at k2; subst k2
      obtain ⟨_, c2, c3, c4⟩ := hr1.blk _ _ k1
      have hρ : E2.ρ i = E1.ρ K[i - h.length] := by
        have := hρn (i - h.length)
        rw [Nat.add_sub_cancel' hl] at this
        rw [this, gd _ hpK]
      refine ⟨.inr ⟨hl, by omega⟩, .inr ⟨i - h.length, ⟨hpK, _, hi⟩, by rw [hρ, gd _ hpK]⟩, by rw [hρ]; exact c3, ?_⟩
      obtain ⟨q1, q2, q3, c, el, q4, q5, q6⟩ := c4
      simp only [Yv, List.all_eq_true] at k3
      refine ⟨by rw [hρ]; exact q1, q2, by rw [hρ]; exact q3, c, el, by rw [hρ]; exact q4, by rw [hρ]; exact q5, fun k r hk j x hj => ?_⟩
      obtain ⟨y, g1, g2⟩ := q6 k r hk j x hj
      exact ⟨y, by rw [hρ]; exact g1, hvo (k3 _ (List.mem_of_getElem? hk) _ (List.mem_of_getElem? hj)) g2⟩
  · have side : ∀ i b, (h ++ hs)[i]? = some (some b) → (i < h.length ∧ h[i]? = some (some b) ∧ E2.ρ i = E.ρ i ∧ (E.ρ i).b < w.heap.size) ∨ (∃ p, ∃ hp : p < K.length, i = h.length + p ∧ E2.ρ i = E1.ρ K[p] ∧ (∃ b', h1[K[p]]? = some (some b')) ∧ w.heap.size ≤ (E1.ρ K[p]).b) := fun i b hi => by
      rcases Nat.lt_or_ge i h.length with hl | hl
      · rw [List.getElem?_append_left hl] at hi
        exact .inl ⟨hl, hi, hρo i hl, (hr.blk i b hi).2.2.1⟩
      · rw [List.getElem?_append_right hl] at hi
        obtain ⟨hp, _⟩ := List.getElem?_eq_some_iff.1 hi
        have hpK : i - h.length < K.length := by omega
        obtain ⟨e, rs, k1, _, _⟩ := hat1 _ hpK _ hi
        have := (hnew _ ⟨hpK, _, hi⟩).2.2
        rw [gd _ hpK] at this
        refine .inr ⟨i - h.length, hpK, by omega, ?_, ⟨_, k1⟩, this⟩
        have := hρn (i - h.length)
        rw [Nat.add_sub_cancel' hl] at this
        rw [this, gd _ hpK]
    rcases side i b hi with ⟨hl, h1i, e1, s1⟩ | ⟨p, hp, rfl, e1, ⟨b1, k1⟩, s1⟩
    · rcases side j c hj with ⟨hl2, h1j, e2, s2⟩ | ⟨q, hq, rfl, e2, ⟨b2, k2⟩, s2⟩
      · rw [e1, e2] at he
        exact hr.inj i j b c h1i h1j he
      · rw [e1, e2] at he; omega
    · rcases side j c hj with ⟨hl2, h1j, e2, s2⟩ | ⟨q, hq, rfl, e2, ⟨b2, k2⟩, s2⟩
      · rw [e1, e2] at he; omega
      · rw [e1, e2] at he
        have := hr1.inj _ _ _ _ k1 k2 he
        rw [(List.getElem_inj hK).1 this]
  · rw [List.length_append]
    rcases hi with hi | hi
    · have := hr.lt i hi; omega
    · omega
  · rcases hb with hb | ⟨p, hp, rfl⟩
    · exact Nat.lt_of_lt_of_le (hr.own b hb) hle.size
    · exact (hnew p hp).2.1
  · rcases hb with hb | ⟨hf, hb | ⟨i, c, hb1, hb2, rfl⟩⟩
    · refine ⟨Nat.lt_of_lt_of_le (hr.imm b hb).1 hle.size, fun ho => ?_⟩
      rcases ho with ho | ⟨p, hp, rfl⟩
      · exact (hr.imm b hb).2 ho
      · have := (hr.imm _ hb).1
        have := (hnew p hp).2.2
        omega
    · refine ⟨(hr1.imm b hb).1, fun ho => ?_⟩
      rcases ho with ho | ⟨p, hp, rfl⟩
      · have hs := hr.own b ho
        exact (hr.imm b (hI2 hf b (hIo b hb hs))).2 ho
      · exact (hr1.imm _ hb).2 (hnew p hp).1
    · refine ⟨(hr1.blk i c hb2).2.2.1, fun ho => ?_⟩
      have hi0 := hO1 _ (hr1.blk i c hb2).2.1
      rcases ho with ho | ⟨p, ⟨hp, c2, hc2⟩, he⟩
      · have hs := hr.own _ ho; omega
      · obtain ⟨e, rs, k1, _⟩ := hat1 p hp c2 hc2
        rw [gd p hp] at he
        have := hr1.inj _ _ _ _ hb2 k1 he
        exact hb1 (this ▸ List.getElem_mem hp)
  · cases v1 with
    | tup xs =>
      simp only [keepB] at hb1
      split at hb1 <;> simp at hb1
      rename_i ys hy
      subst hb1
      simp only [Yx] at hb2
      split at hb2 <;> simp at hb2
      rename_i zs hz
      subst hb2
      obtain ⟨q1, q2⟩ := Zx hy
      obtain ⟨r1, r2⟩ := Zx hz
      cases hu with
      | tup _ _ cs hl hx => exact .tup _ _ cs (by omega) fun j h1 h2 => hvb (q2 j (by omega) (by omega)) (hx j (by omega) h2) (r2 j (by omega) h1)
    | agg xs =>
      simp only [keepB] at hb1
      split at hb1 <;> simp at hb1
      rename_i ys hy
      subst hb1
      simp only [Yx] at hb2
      split at hb2 <;> simp at hb2
      rename_i zs hz
      subst hb2
      obtain ⟨q1, q2⟩ := Zx hy
      obtain ⟨r1, r2⟩ := Zx hz
      cases hu with
      | agg _ _ cs hl hx => exact .agg _ _ cs (by omega) fun j h1 h2 => hvb (q2 j (by omega) (by omega)) (hx j (by omega) h2) (r2 j (by omega) h1)
    | _ =>
      simp only [keepB] at hb1
      refine hvb hb1 hu ?_
      have hv : ∀ x, v ≠ .tup x ∧ v ≠ .agg x := fun x => by
        simp only [keepA] at hb1
        first
          | (split at hb1 <;> simp at hb1 <;> subst hb1 <;> simp; done)
          | (split at hb1
             · simp at hb1; subst hb1; simp
             · split at hb1
               · simp at hb1
               · first | exact frz_refv hb1 x | exact frz_slv hb1 x)
      cases v <;> first | exact hb2 | exact absurd rfl (hv _).1 | exact absurd rfl (hv _).2
theorem tab_fresh (hm : P.follows .mixedOrders = true) (hT : Zr P G T) {fr : Bool} {f : Nat} {sp : List Za → Option (Za × Zf)}
  (ho : ∀ args v hs, sp args = some (v, hs) → ZH P T f args [] fun v1 h1 => ∃ K : List Nat, K.Nodup ∧ K.length = hs.length ∧ (∀ p (hp : p < K.length) b, hs[p]? = some (some b) → h1[K[p]]? = some (some b)) ∧ keepB fr K h1 v1 = some v) : Zr P G (updE T f (ZC fr sp)) :=
 tab_updE hT fun args h v us he => by
  unfold ZC at he
  split at he <;> (try simp only [reduceCtorEq] at he)
  rename_i ass e1
  split at he <;> (try simp only [reduceCtorEq] at he)
  rename_i v0 hs e2
  split at he <;> (try simp only [reduceCtorEq] at he)
  rename_i hg
  split at he <;> (try simp only [reduceCtorEq] at he)
  rename_i v' hb
  simp at he
  obtain ⟨rfl, rfl⟩ := he
  obtain ⟨v2, h2, ⟨K, k1, k2, k3, k4⟩, hgood⟩ := answers_good hm hT (ho ass v0 hs e2)
  rw [setH_new]
  exact fresh_good hgood k1 k2.symm k3 hg k4 (by rw [k2]; exact hb) e1
end
end
end Go.Abs
namespace Go.Abs
open Go
def looseA : Za → Za
 | .sl i k n _ => .sl i k n false
 | v => v
def looseV : Za → Za
 | .tup xs => .tup (xs.map looseA)
 | .agg xs => .agg (xs.map looseA)
 | v => looseA v
section
variable {P : Program} {G : Nat → Option (List Za)} {T : Nat → Option CFn} {ρ : Nat → Loc} {I : Nat → Prop} {D : Nat → Prop} {w : World} {h h1 : Zf}
theorem vr_looseA {v : Za} {u : Value} (hv : VR ρ I w D v u) : VR ρ I w D (looseA v) u := by
 cases v with
 | sl i k n t => cases hv with
  | sl _ _ _ _ _ a cap hi hn ht ha hs => exact .sl _ i k n false a cap hi hn (fun h => by simp at h) ha hs
 | _ => exact hv
theorem vr_looseV {v : Za} {u : Value} (hv : VR ρ I w D v u) : VR ρ I w D (looseV v) u := by
 cases v with
 | tup xs => cases hv with
  | tup _ _ cs hl hx =>
   refine .tup _ _ cs (by simpa using hl) fun j h1 h2 => ?_
   rw [List.getElem_map]
   exact vr_looseA (hx j (by simpa using h1) h2)
 | agg xs => cases hv with
  | agg _ _ cs hl hx =>
   refine .agg _ _ cs (by simpa using hl) fun j h1 h2 => ?_
   rw [List.getElem_map]
   exact vr_looseA (hx j (by simpa using h1) h2)
 | _ => exact vr_looseA hv
theorem good_loose {f : Nat} {args : List Za} {v : Za} (hg : YD P G f args h v h1) : YD P G f args h (looseV v) h1 := fun E w cargs k hr hl =>
 CallsIn.mono (hg E w cargs k hr hl) (by
  rintro e w' ⟨u, E1, h1, h2, h3, h4, h5, h6⟩
  exact ⟨u, E1, h1, h2, h3, vr_looseV h4, h5, h6⟩)
theorem tab_fresh2 (hm : P.follows .mixedOrders = true) (hT : Zr P G T) {fr : Bool} {f : Nat} {sp : List Za → Option (Za × Zf)}
  (ho : ∀ args v hs, sp args = some (v, hs) → ZH P T f args [] fun v1 h1 => ∃ K : List Nat, K.Nodup ∧ K.length = hs.length ∧ (∀ p (hp : p < K.length) b, hs[p]? = some (some b) → h1[K[p]]? = some (some b)) ∧ keepB fr K h1 (looseV v1) = some v) : Zr P G (updE T f (ZC fr sp)) :=
 tab_updE hT fun args h v us he => by
  unfold ZC at he
  split at he <;> (try simp only [reduceCtorEq] at he)
  rename_i ass e1
  split at he <;> (try simp only [reduceCtorEq] at he)
  rename_i v0 hs e2
  split at he <;> (try simp only [reduceCtorEq] at he)
  rename_i hg
  split at he <;> (try simp only [reduceCtorEq] at he)
  rename_i v' hb
  simp at he
  obtain ⟨rfl, rfl⟩ := he
  obtain ⟨v2, h2, ⟨K, k1, k2, k3, k4⟩, hgood⟩ := answers_good hm hT (ho ass v0 hs e2)
  rw [setH_new]
  exact fresh_good (good_loose hgood) k1 k2.symm k3 hg k4 (by rw [k2]; exact hb) e1
end
end Go.Abs
namespace Go.Proofs.YtjjapdagllclkaaGreat.Tab
open Go Go.Abs Go.Proofs
set_option maxRecDepth 100000
set_option maxHeartbeats 4000000
set_option linter.unusedSimpArgs false
set_option linter.unusedVariables false
noncomputable section
attribute [local simp] YC Yt XV XW YZ YY XX YJ Xw Ys Zd orcF XO YX XQ XM YE Yr rb_vl rb_pv XK YW YV YU XP XL XN rb_sl rb_fn slE chunk fillA Ym ZK putAt List.range_succ List.range_zero List.range'_succ List.range'_zero ZU ZS ZF ZW ZB ZM stepX Yh dop CV.ev Yu Zv ZA Xt fI_eq YA Yy Zy Zw Out.v putT List.replicate_succ zT zB arI ZN Abs.rowAt ldRow allV toV toC ofV ofC Builtin.min_ Builtin.min2 Builtin.max_ Builtin.max2 XT XU resA tupA kill ZT Yo Yp Yn Zc
section
attribute [local simp] ZV ZD Xp YN actD clash disj Xq holes Xr ZY Xu news eqB allB eqA Xf wrote toCs ofCs stA Yq ZE Yl dI1 dI2 dI3 dI5 elt
attribute [local simp] XH XD XI XE YS XG YP XF st_pv YO st_sl st_vl YQ st_mp st_fn YR XC co_any co_und co_agg co_tup Xe co_int Xb co_ref co_pv Xa co_sl co_vl Xc co_mp co_fn Xd XZ
attribute [local simp] callA ZQ lim lop loud posOf rbB_row
theorem optAll_setJ {α β : Type} {f : α → Option β} {a : α} {b : β} (ha : f a = some b) : ∀ {xs : List α} {ys : List β} (k : Nat), Zd f xs = some ys → Zd f (xs.set k a) = some (ys.set k b)
  | [], ys, k, h => by simp at h; subst h; rfl
  | x :: xs, ys, k, h => by
    simp only [Zd] at h
    split at h <;> simp at h
    rename_i y zs hy hz
    subst h
    cases k with
    | zero => simp only [List.set_cons_zero, Zd, ha, hz]
    | succ k => simp only [List.set_cons_succ, Zd, hy, optAll_setJ ha k hz]
theorem jrows_at {rs : List (List Za)} {js : List FJob} (h : Zd dJob rs = some js) : ∀ r ∈ rs, ∃ (x : FJob) (v : Za), r = [I x.kind, I x.ready, I x.due, v] ∧ Yd v = some x.mins := fun r hr => by
  obtain ⟨x, _, e⟩ := optAll_mem h r hr
  obtain ⟨v, e2, hv⟩ := dJob_eq e
  exact ⟨x, v, e2, hv⟩
theorem rJ_frz {rs : List (List Za)} {js : List FJob} (h : Zd dJob rs = some js) (H : Zf) (d : Nat) : Zd (Zd (frz false H (d + 1))) rs = some rs := Zz _ fun r hr => Zz _ fun z hz => by
  obtain ⟨x, v, rfl, hv⟩ := jrows_at h r hr
  simp only [List.mem_cons, List.not_mem_nil, or_false] at hz
  rcases hz with rfl | rfl | rfl | rfl
  · rfl
  · rfl
  · rfl
  · exact ZG hv H d
theorem rJ_rb {rs : List (List Za)} {js : List FJob} (h : Zd dJob rs = some js) (n d : Nat) : (rs.all fun r => r.all (rb n (d + 1))) = true := by
  simp only [List.all_eq_true]
  intro r hr z hz
  obtain ⟨x, v, rfl, hv⟩ := jrows_at h r hr
  simp only [List.mem_cons, List.not_mem_nil, or_false] at hz
  rcases hz with rfl | rfl | rfl | rfl
  · rfl
  · rfl
  · rfl
  · exact Yc hv n d
theorem rJ_len {rs : List (List Za)} {js : List FJob} (h : Zd dJob rs = some js) : (rs.all fun r => r.length == 4) = true := by
  simp only [List.all_eq_true]
  intro r hr
  obtain ⟨x, v, rfl, _⟩ := jrows_at h r hr
  rfl
theorem rJ_st {rs : List (List Za)} {js : List FJob} (h : Zd dJob rs = some js) : (rs.all fun r => r.all Zq) = true := by
  simp only [List.all_eq_true]
  intro r hr z hz
  obtain ⟨x, v, rfl, hv⟩ := jrows_at h r hr
  simp only [List.mem_cons, List.not_mem_nil, or_false] at hz
  rcases hz with rfl | rfl | rfl | rfl
  · rfl
  · rfl
  · rfl
  · exact (Zp hv).2
def ZP (js : List FJob) (k : Nat) (d : Int) : List FJob := js.set k ⟨(jobAt js k).kind, (jobAt js k).ready + d, (jobAt js k).due, (jobAt js k).mins⟩
theorem laterF_len (js : List FJob) (k : Nat) (d : Int) : (ZP js k d).length = js.length := by simp [ZP]
theorem later_rows {rs : List (List Za)} {js : List FJob} (h : Zd dJob rs = some js) {k : Nat} (hk : k < js.length) {w : Za} (hw : Yd w = some js[k].mins) (d : Int) : Zd dJob (rs.set k [I js[k].kind, I (js[k].ready + d), I js[k].due, w]) = some (ZP js k d) := by
  unfold ZP
  rw [jobAt_eq hk]
  exact optAll_setJ (by simp only [dJob, hw]) k h
theorem later_shop {s : FShop} {js : List FJob} (h : ShopOk s js) {k : Nat} (hk : k < js.length) (hr : js[k].ready ≤ 100000) {d : Int} (hd : 0 ≤ d ∧ d ≤ 10000) : ShopOk s (ZP js k d) :=
  ⟨h.mach, h.kinds, h.chg, h.nst, h.stop, by rw [laterF_len]; exact h.njob, fun x hx => by
    unfold ZP at hx
    rw [jobAt_eq hk] at hx
    rcases List.mem_or_eq_of_mem_set hx with hx | rfl
    · exact h.job x hx
    · have := h.job _ (List.getElem_mem hk)
      exact ⟨this.1, ⟨by simp only; omega, by simp only; omega⟩, this.2.2.1, this.2.2.2⟩⟩
theorem later_ord {js : List FJob} {os : List Int} (h : OrdOk js os) (k : Nat) (d : Int) : OrdOk (ZP js k d) os := ⟨h.len, by rw [laterF_len]; exact h.at'⟩
theorem ready_le {s : FShop} {js : List FJob} (h : shopE s js = 0) : ∀ x ∈ js, x.ready ≤ 100000 := by
  unfold shopE at h
  split at h; · simp at h
  split at h; · simp at h
  split at h; · simp at h
  split at h; · simp at h
  split at h; · simp at h
  rename_i hj
  simp only [Bool.not_eq_true', Bool.not_eq_false, List.all_eq_true] at hj
  intro x hx
  have := hj x hx
  simp only [jobOk, wB, List.all_cons, List.all_nil, Bool.and_eq_true, decide_eq_true_eq] at this
  omega
def sCloneJ : List Za → Option (Za × Zf)
  | [.vl rs _] => match Zd dJob rs with
    | some js => if js.length ≤ 1000 then some (.sl 0 0 rs.length false, [some (.row 4 rs)]) else none
    | none => none
  | _ => none
theorem sCloneJ_eq {rs : List (List Za)} {js : List FJob} {tt : Bool} (h : Zd dJob rs = some js) (hl : js.length ≤ 1000) : sCloneJ [.vl rs tt] = some (.sl 0 0 rs.length false, [some (.row 4 rs)]) := by
  simp only [sCloneJ, h]; rw [if_pos hl]
def ltQ (s : FShop) (js : List FJob) (os : List Int) (k : Nat) (d : Int) : Bool := decide (0 < (Xs (runF s (ZP js k d) os).ends (ZP js k d) (ZP js k d).length).length)
def bsF (L : Int → Bool) : Nat → Int → Int → Int
  | 0, lo, _ => lo
  | f + 1, lo, hi => if lo < hi then (if L ((lo + hi + 1) / 2) = true then bsF L f lo ((lo + hi + 1) / 2 - 1) else bsF L f ((lo + hi + 1) / 2) hi) else lo
theorem bsF_spec (L : Int → Bool) : ∀ (f : Nat) (lo hi : Int), hi - lo < f → lo ≤ hi → hi ≤ 10000 → L lo = false → (hi = 10000 ∨ L (hi + 1) = true) → (lo ≤ bsF L f lo hi ∧ bsF L f lo hi ≤ hi) ∧ L (bsF L f lo hi) = false ∧ (bsF L f lo hi = 10000 ∨ L (bsF L f lo hi + 1) = true)
  | 0, lo, hi, hf, h1, h2, h3, h4 => by omega
  | f + 1, lo, hi, hf, h1, h2, h3, h4 => by
    simp only [bsF]
    split
    · split
      · rename_i hm
        have := bsF_spec L f lo ((lo + hi + 1) / 2 - 1) (by omega) (by omega) (by omega) h3 (.inr (by rw [Int.sub_add_cancel]; exact hm))
        exact ⟨by omega, this.2⟩
      · rename_i hm
        have := bsF_spec L f ((lo + hi + 1) / 2) hi (by omega) (by omega) h2 (by simpa using hm) h4
        exact ⟨by omega, this.2⟩
    · obtain rfl : lo = hi := by omega
      exact ⟨by omega, h3, h4⟩
def slkE (s : FShop) (js : List FJob) (os : List Int) (i : Int) : Int := if ordE s js os = 0 then (if 0 ≤ i ∧ i < js.length then (if Xs (runF s js os).ends js js.length = [] then 0 else 9) else 7) else ordE s js os
def slkV (s : FShop) (js : List FJob) (os : List Int) (i : Int) : Int := if slkE s js os i = 0 then bsF (ltQ s js os i.toNat) 10001 0 10000 else 0
def oSlack : List Za → Option Za
  | [.agg [.int .i64 m, c, t], j, o, .int .i64 i] => match ZI c, Yg t, Xj j, Yd o with
    | some cs, some ts, some js, some os => if sizeOk ⟨m, cs, ts⟩ js = true ∧ os.length ≤ 100 then some (.tup [I (slkV ⟨m, cs, ts⟩ js os i), I (slkE ⟨m, cs, ts⟩ js os i)]) else none
    | _, _, _, _ => none
  | _ => none
theorem slack_eq {s : FShop} {js : List FJob} {c t j o : Za} {os : List Int} (hc : ZI c = some s.chg) (ht : Yg t = some s.stops) (hj : Xj j = some js) (ho : Yd o = some os) (hz : SizeOk s js) (hl : os.length ≤ 100) (i : Int) : oSlack [.agg [I s.mach, c, t], j, o, I i] = some (.tup [I (slkV s js os i), I (slkE s js os i)]) := by
  simp only [oSlack, hc, ht, hj, ho]
  rw [if_pos ⟨size_ok.2 hz, hl⟩]
theorem a86 (P : Program) (T : Nat → Option CFn) (hT : T 86 = some c86) (js : List FJob) (rs : List (List Za)) (tt : Bool) (hrs : Zd dJob rs = some js) (hl : rs.length ≤ 1000) : ZH P T 86 [.vl rs tt] [] fun v1 h1 => ∃ K : List Nat, K.Nodup ∧ K.length = [some (Blk.row 4 rs)].length ∧ (∀ p (hp : p < K.length) b, [some (Blk.row 4 rs)][p]? = some (some b) → h1[K[p]]? = some (some b)) ∧ keepB false K h1 (looseV v1) = some (.sl 0 0 rs.length false) := by
 refine Zs hT (Zu rfl) ?_
 simp only [oo, om, op, og, ci, cl, c86]
 rcases rs with _ | ⟨x, l⟩
 ·refine zS ?_
  refine zR (zO (by simp; rfl) ?_)
  simp only [zT, zB]
  refine zS ?_
  refine zS ?_
  refine zR (zO (by simp; rfl) ?_)
  simp only [zT, zB]
  refine Zh (x := false) (by simp) ?_
  refine zK ?_
  simp only [zT, zB]
  refine zS ?_
  refine zR (zO (by simp; rfl) ?_)
  simp only [zT, zB]
  refine Zj ?_
  refine ⟨by simp, _, by simp; rfl, [0], by simp, rfl, fun q hq b hb => ?_, by simp [keepB, keepA, looseV, looseA]⟩
  obtain rfl : q = 0 := by simp at hq; omega
  simpa [trim, tupA, rb_sl] using hb
 ·have hl3 : l.length + 1 ≤ 1048576 := by simp at hl; omega
  have h4 := rJ_len hrs
  have h5 := rJ_st hrs
  have h6 := rJ_rb hrs
  simp only [List.all_cons, Bool.and_eq_true] at h4 h5
  obtain ⟨h4a, h4b⟩ := h4
  obtain ⟨h5a, h5b⟩ := h5
  have h4c : x.length = 4 := by simpa using h4a
  refine zS ?_
  refine zR (zO (by simp [hl3, ↓h4b, ↓h5b, ↓h5a, h4c]; rfl) ?_)
  simp only [zT, zB]
  refine zS ?_
  refine zS ?_
  refine zR (zO (by simp [hl3, ↓h4b, ↓h5b, ↓h5a, h4c]; rfl) ?_)
  simp only [zT, zB]
  refine Zh (x := false) (by simp) ?_
  refine zK ?_
  simp only [zT, zB]
  refine zS ?_
  refine zR (zO (by simp [hl3, ↓h4b, ↓h5b, ↓h5a, h4c]; rfl) ?_)
  simp only [zT, zB]
  refine Zj ?_
  refine ⟨by simp, _, by simp; rfl, [1], by simp, rfl, fun q hq b hb => ?_, by simp [keepB, keepA, looseV, looseA]⟩
  obtain rfl : q = 0 := by simp at hq; omega
  simpa [trim, tupA, rb_sl] using hb
def FK1 : Nat → Option CFn := upd FT 86 false (fun _ => none)
theorem FK1_ok : Zr Tryz.prog GG FK1 := Xm mixed FT_ok fun args v ho => by simp at ho
def FK2 : Nat → Option CFn := updE FK1 86 (ZC false sCloneJ)
theorem FK2_ok : Zr Tryz.prog GG FK2 := tab_fresh2 mixed FK1_ok fun args v hs ho => by
  unfold sCloneJ at ho; split at ho <;> (try simp only [reduceCtorEq] at ho)
  rename_i rs tt
  split at ho <;> (try simp only [reduceCtorEq] at ho)
  rename_i js hjs
  split at ho <;> (try simp only [reduceCtorEq] at ho)
  rename_i hg
  simp only [Option.some.injEq, Prod.mk.injEq] at ho
  obtain ⟨rfl, rfl⟩ := ho
  exact a86 Tryz.prog FK1 rfl js rs tt hjs (by have := (optAll_at hjs).1; omega)
theorem a87 (P : Program) (T : Nat → Option CFn) (hT : T 87 = some c87) (h64 : T 64 = some { c64 with body := annK [(7188, [.slot 4])] [] c64.body, frsh := true, orc := oLate }) (s : FShop) (js : List FJob) (c t : Za) (hc : ZI c = some s.chg) (ht : Yg t = some s.stops) (o : Za) (os : List Int) (ho : Yd o = some os) (rs : List (List Za)) (tt : Bool) (hrs : Zd dJob rs = some js) (hg : ShopOk s js ∧ OrdOk js os) (k : Nat) (hk : k < js.length) (hr100 : js[k].ready ≤ 100000) (w_ : Za) (hrk : rs[k]? = some [I js[k].kind, I js[k].ready, I js[k].due, w_]) (hw : Yd w_ = some js[k].mins) (i : Int) (hi : i = k) (q d : Int) (hd : 0 ≤ d ∧ d ≤ 10000) : ZH P T 87 [I d, .ref 1 0 0, .ref 3 0 0, .ref 4 0 0, .ref 2 0 0] [some (.row 3 [[I s.mach, c, t]]), some (.row 1 [[.vl rs tt]]), some (.row 1 [[o]]), some (.row 1 [[I i]]), some (.row 4 [[I s.mach, c, t, .sl 6 0 rs.length false]]), some (.row 1 [[I i]]), some (.row 4 (rs.set k [I js[k].kind, I q, I js[k].due, w_]))] fun v h => v = .bool (ltQ s js os k d) ∧ h = [some (.row 3 [[I s.mach, c, t]]), some (.row 1 [[.vl rs tt]]), some (.row 1 [[o]]), some (.row 1 [[I i]]), some (.row 4 [[I s.mach, c, t, .sl 6 0 rs.length false]]), some (.row 1 [[I i]]), some (.row 4 (rs.set k [I js[k].kind, I (js[k].ready + d), I js[k].due, w_]))] := by
 have fc := fun H d => Xo hc H d
 have ft := fun H d => dStops_frz ht H d
 have rc := fun n d => Xi hc n d
 have rt := fun n d => dStops_rb ht n d
 have lc := Xn hc
 have lt := dStops_len ht
 obtain ⟨cc1, cc2⟩ := ZZ hc
 obtain ⟨ct1, ct2⟩ := YK ht
 have fo := fun H d => ZG ho H d
 have ro := fun n d => Yc ho n d
 have lo := Yz ho
 obtain ⟨co1, co2⟩ := Zp ho
 have hkr : k < rs.length := by have := (optAll_at hrs).1; omega
 have hr2 : ∀ h, rs[k]'h = [I js[k].kind, I js[k].ready, I js[k].due, w_] := fun h => by rw [List.getElem?_eq_getElem h] at hrk; exact Option.some.inj hrk
 have fw5 := fun H d => ZG hw H d
 have rw5 := fun n d => Yc hw n d
 obtain ⟨cw1, cw2⟩ := Zp hw
 have hrs2 := later_rows hrs hk hw d
 have hjL : Xj (.vl (rs.set k [I js[k].kind, I (js[k].ready + d), I js[k].due, w_]) false) = some (ZP js k d) := hrs2
 have hlt := late_eq hc ht hjL ho ⟨later_shop hg.1 hk hr100 hd, later_ord hg.2 k d⟩
 have hq : ltQ s js os k d = decide (0 < (Xs (runF s (ZP js k d) os).ends (ZP js k d) (ZP js k d).length).length) := rfl
 rw [hq]
 clear hq
 generalize Xs (runF s (ZP js k d) os).ends (ZP js k d) (ZP js k d).length = L at *
 have hle := Yz (dInts_encV L)
 generalize encV L = lv at *
 have hjb := (hg.1.job _ (List.getElem_mem hk)).2.1
 have hwd : W .i64 (js[k].ready + d) = js[k].ready + d := ZR (by omega)
 generalize js[k].kind = kd at *
 generalize hrd : js[k].ready = rd at *
 generalize js[k].due = du at *
 have hi0 : 0 ≤ i := by omega
 have hin : i.toNat = k := by omega
 have hir : i < (rs.length : Int) := by omega
 have fz1 := fun H d => rJ_frz hrs H d
 have fz2 := fun H d => rJ_frz hrs2 H d
 have tk2 : (rs.set k [I kd, I (rd + d), I du, w_]).take rs.length = rs.set k [I kd, I (rd + d), I du, w_] := List.take_of_length_le (by simp)
 have rb2 := fun n => rJ_rb hrs2 n 4
 have rb1 := fun n => rJ_rb hrs n 4
 have st1 : ∀ q' : Int, (rs.set k [I kd, I q', I du, w_])[k]? = some [I kd, I q', I du, w_] := fun q' => by rw [List.getElem?_set_self hkr]
 have st2 : ∀ (q' : Int) h, (rs.set k [I kd, I q', I du, w_])[k]'h = [I kd, I q', I du, w_] := fun q' h => by rw [List.getElem_set_self]
 have rb3 : ∀ (q' : Int) n, ((rs.set k [I kd, I q', I du, w_]).all fun r => r.all (rb n 5)) = true := fun q' n => by
  simp only [List.all_eq_true]
  intro r hr z hz
  rcases List.mem_or_eq_of_mem_set hr with hr | rfl
  ·have := rb1 n
   simp only [List.all_eq_true] at this
   exact this r hr z hz
  ·simp only [List.mem_cons, List.not_mem_nil, or_false] at hz
   rcases hz with rfl | rfl | rfl | rfl
   ·rfl
   ·rfl
   ·rfl
   ·exact rw5 n 4
 refine Zs hT (Zu rfl) ?_
 simp only [oo, om, op, og, ci, cl, c87]
 have HH1 := zA h64 (zA fc (zA ft (zA rc (zA rt (zA lc (zA lt (zA cc1 (zA cc2 (zA ct1 (zA ct2 (zA fo (zA ro (zA lo (zA co1 (zA co2 (zA hlt (zA hle (zA hwd (zA hi0 (zA hin (zA hir (zA hkr (zA hrk (zA hr2 (zA fw5 (zA rw5 (zA cw1 (zA cw2 (zA st1 st2)))))))))))))))))))))))))))))
 refine zS ?_
 refine zR (zO (by simp [zC h64, -Zc, ↓fz1, ↓fz2, ↓tk2, ↓rb3, List.set_set, HH1]; rfl) ?_)
 simp only [zT, zB]
 refine zS ?_
 refine Ye (by simp (maxSteps := 3000000) [zC h64, -Zc, ↓fz1, ↓fz2, ↓tk2, ↓rb3, List.set_set, HH1]; rfl) ?_
 simp only [zT, zB]
 refine zS ?_
 refine zR (zO (by simp [zC h64, -Zc, ↓fz1, ↓fz2, ↓tk2, ↓rb3, List.set_set, HH1]; rfl) ?_)
 simp only [zT, zB]
 refine Zj ?_
 simp [zC h64, -Zc, ↓fz1, ↓fz2, ↓tk2, ↓rb3, List.set_set, HH1, trim]
end
end
end Go.Proofs.YtjjapdagllclkaaGreat.Tab
namespace Go.Proofs.YtjjapdagllclkaaGreat.Tab
open Go Go.Abs Go.Proofs
set_option linter.unusedSimpArgs false
set_option linter.unusedVariables false
theorem freeT_mono {st st' : List YH} (hs : ∀ x ∈ st, x ∈ st') {k n n' a a' : Int} (hn : n ≤ n') (ha : a ≤ a') : freeT st k n a ≤ freeT st' k n' a' := by
 have h := freeT_spec st k n a
 have h' := freeT_spec st' k n' a'
 refine h.least _ (by have := h'.low; omega) fun x hx => ?_
 have := h'.free x (hs x hx)
 cases e : conf k n (freeT st' k n' a') x with
 | false => rfl
 | true =>
  have e' : conf k n' (freeT st' k n' a') x = true := by
   simp only [conf, Bool.and_eq_true, beq_iff_eq, decide_eq_true_eq] at e ⊢
   exact ⟨e.1, by omega⟩
  rw [e'] at this; cases this
def LLe (l l' : FLine) : Prop := ∀ k, (lAt l k).2 = (lAt l' k).2 ∧ (lAt l k).1 ≤ (lAt l' k).1
theorem LLe.refl (l : FLine) : LLe l l := fun k => ⟨rfl, Int.le_refl _⟩
structure SLe (s s' : FShop) : Prop where
 chg : s'.chg = s.chg
 stops : ∀ x ∈ s.stops, x ∈ s'.stops
theorem startF_mono {s s' : FShop} (hs : SLe s s') {kind : Int} {l l' : FLine} (hl : LLe l l') {k : Nat} {n n' t t' : Int} (hn : n ≤ n') (h0 : 0 < n ↔ 0 < n') (ht : t ≤ t') : Xv s kind l k n t ≤ Xv s' kind l' k n' t' := by
 have h := hl k
 have e : ∀ (m : FLine), m.getD k (0, 0, false) = lAt m k := fun _ => rfl
 unfold Xv
 rw [e l, e l']
 generalize lAt l k = a at *
 generalize lAt l' k = b at *
 obtain ⟨a1, a2, a3⟩ := a
 obtain ⟨b1, b2, b3⟩ := b
 obtain ⟨h1, h2⟩ := h
 simp only [Prod.mk.injEq] at h1
 obtain ⟨rfl, rfl⟩ := h1
 simp only at h2 ⊢
 by_cases hp : 0 < n
 ·rw [if_pos hp, if_pos (h0.1 hp)]
  refine freeT_mono hs.stops hn ?_
  have hc : chgAt s' a2 kind = chgAt s a2 kind := by unfold chgAt; rw [hs.chg]
  rw [hc]
  split <;> omega
 ·rw [if_neg hp, if_neg (fun h => hp (h0.2 h))]; exact ht
theorem LLe.set {l l' : FLine} (h : LLe l l') {k : Nat} (hk : k < l.length) (hk' : k < l'.length) {d d' : Int} (hd : d ≤ d') (x : Int × Bool) : LLe (l.set k (d, x)) (l'.set k (d', x)) := fun j => by
 by_cases e : j = k
 ·subst e
  rw [lAt_set hk, lAt_set hk']; exact ⟨rfl, hd⟩
 ·rw [lAt_set_ne (fun h => e h.symm), lAt_set_ne (fun h => e h.symm)]; exact h j
def MLe : List Int → List Int → Prop
 | [], [] => True
 | n :: ns, m :: ms => (n ≤ m ∧ (0 < n ↔ 0 < m)) ∧ MLe ns ms
 | _, _ => False
theorem MLe.refl : ∀ ns, MLe ns ns
 | [] => trivial
 | n :: ns => ⟨⟨Int.le_refl _, Iff.rfl⟩, MLe.refl ns⟩
theorem passGo_mono {s s' : FShop} (hs : SLe s s') (kind : Int) : ∀ (ns ms : List Int) (k : Nat) (t t' : Int) (l l' : FLine), MLe ns ms → t ≤ t' → LLe l l' → k + ns.length ≤ l.length → k + ns.length ≤ l'.length →
  (∀ i, nAt (Xy s kind ns k t l).1 i ≤ nAt (Xy s' kind ms k t' l').1 i) ∧ (Xy s kind ns k t l).2.1 ≤ (Xy s' kind ms k t' l').2.1 ∧ LLe (Xy s kind ns k t l).2.2 (Xy s' kind ms k t' l').2.2
 | [], [], _, _, _, _, _, _, ht, hl, _, _ => ⟨fun i => Int.le_refl _, ht, hl⟩
 | n :: ns, [], _, _, _, _, _, h, _, _, _, _ => h.elim
 | [], m :: ms, _, _, _, _, _, h, _, _, _, _ => h.elim
 | n :: ns, m :: ms, k, t, t', l, l', h, ht, hl, h1, h2 => by
  simp only [List.length_cons] at h1 h2
  obtain ⟨⟨g1, g2⟩, g3⟩ := h
  have hst := startF_mono hs (kind := kind) hl (k := k) g1 g2 ht
  have hl2 : LLe (if 0 < n then l.set k (Xv s kind l k n t + n, kind, true) else l) (if 0 < m then l'.set k (Xv s' kind l' k m t' + m, kind, true) else l') := by
   by_cases hp : 0 < n
   ·rw [if_pos hp, if_pos (g2.1 hp)]
    exact hl.set (by omega) (by omega) (by omega) _
   ·rw [if_neg hp, if_neg (fun h => hp (g2.2 h))]; exact hl
  have ih := passGo_mono hs kind ns ms (k + 1) (Xv s kind l k n t + n) (Xv s' kind l' k m t' + m) _ _ g3 (by omega) hl2 (by split <;> (try rw [List.length_set]) <;> omega) (by split <;> (try rw [List.length_set]) <;> omega)
  refine ⟨fun i => ?_, ih.2.1, ih.2.2⟩
  cases i with
  | zero => simp only [Xy, nAt_zero]; exact hst
  | succ i => simp only [Xy, nAt_succ]; exact ih.1 i
theorem passGo_llen (s : FShop) (kind : Int) : ∀ (ns : List Int) (k : Nat) (t : Int) (l : FLine), (Xy s kind ns k t l).2.2.length = l.length
 | [], _, _, _ => rfl
 | n :: ns, k, t, l => by
  simp only [Xy]
  rw [passGo_llen s kind ns]
  split
  ·rw [List.length_set]
  ·rfl
theorem getD_self {α : Type} {l : List α} {i : Nat} {x d : α} (h : i < l.length) : (l.set i x).getD i d = x := by
 rw [List.getD_eq_getElem?_getD, List.getElem?_set_self h]; rfl
theorem getD_ne {α : Type} {l : List α} {i j : Nat} {x d : α} (h : i ≠ j) : (l.set i x).getD j d = l.getD j d := by
 rw [List.getD_eq_getElem?_getD, List.getElem?_set_ne h, List.getD_eq_getElem?_getD]
theorem getD_out {α : Type} {l : List α} {i : Nat} {d : α} (h : l.length ≤ i) : l.getD i d = d := by
 rw [List.getD_eq_getElem?_getD, List.getElem?_eq_none h]; rfl
structure JLe (j j' : FJob) : Prop where
 kind : j'.kind = j.kind
 ready : j.ready ≤ j'.ready
 mins : MLe j.mins j'.mins
theorem JLe.refl (j : FJob) : JLe j j := ⟨rfl, Int.le_refl _, MLe.refl _⟩
structure RLe (r r' : FRun) : Prop where
 line : LLe r.line r'.line
 ll : r.line.length = 4 ∧ r'.line.length = 4
 starts : ∀ i k, nAt (r.starts.getD i []) k ≤ nAt (r'.starts.getD i []) k
 ends : ∀ i, r.ends.getD i 0 ≤ r'.ends.getD i 0
 lens : r.starts.length = r'.starts.length ∧ r.ends.length = r'.ends.length
theorem run_mono {s s' : FShop} (hs : SLe s s') {js js' : List FJob} (hj : ∀ i, JLe (js.getD i default) (js'.getD i default)) (hm : ∀ i, (js.getD i default).mins.length ≤ 4) : ∀ (os : List Int) (r r' : FRun), RLe r r' → RLe (os.foldl (runStep s js) r) (os.foldl (runStep s' js') r')
 | [], r, r', h => h
 | o :: os, r, r', h => by
  simp only [List.foldl_cons]
  refine run_mono hs hj hm os _ _ ?_
  have hjo := hj o.toNat
  have hmo := hm o.toNat
  have hp := passGo_mono hs (js.getD o.toNat default).kind _ _ 0 _ _ _ _ hjo.mins hjo.ready h.line (by rw [h.ll.1]; omega) (by rw [h.ll.2]; omega)
  have e : passF s' r'.line (js'.getD o.toNat default) = Xy s' (js.getD o.toNat default).kind (js'.getD o.toNat default).mins 0 (js'.getD o.toNat default).ready r'.line := by unfold passF; rw [hjo.kind]
  refine ⟨?_, ?_, fun i k => ?_, fun i => ?_, ?_⟩
  ·simp only [runStep, e]; exact hp.2.2
  ·simp only [runStep, passF]; rw [passGo_llen, passGo_llen]; exact h.ll
  ·simp only [runStep, e]
   by_cases ei : o.toNat = i
   ·subst ei
    by_cases hl : o.toNat < r.starts.length
    ·rw [getD_self hl, getD_self (by rw [← h.lens.1]; exact hl)]
     exact hp.1 k
    ·rw [getD_out (by rw [List.length_set]; omega), getD_out (by rw [List.length_set, ← h.lens.1]; omega)]
     exact Int.le_refl _
   ·rw [getD_ne ei, getD_ne ei]
    exact h.starts i k
  ·simp only [runStep, e]
   by_cases ei : o.toNat = i
   ·subst ei
    by_cases hl : o.toNat < r.ends.length
    ·rw [getD_self hl, getD_self (by rw [← h.lens.2]; exact hl)]
     exact hp.2.1
    ·rw [getD_out (by rw [List.length_set]; omega), getD_out (by rw [List.length_set, ← h.lens.2]; omega)]
     exact Int.le_refl _
   ·rw [getD_ne ei, getD_ne ei]
    exact h.ends i
  ·simp only [runStep, List.length_set]; exact h.lens
theorem runF_mono {s s' : FShop} (hs : SLe s s') {js js' : List FJob} (hl : js.length = js'.length) (hj : ∀ i, JLe (js.getD i default) (js'.getD i default)) (hm : ∀ i, (js.getD i default).mins.length ≤ 4) (os : List Int) : RLe (runF s js os) (runF s' js' os) := by
 unfold runF
 refine run_mono hs hj hm os _ _ ?_
 rw [hl]
 exact ⟨LLe.refl _, ⟨rfl, rfl⟩, fun _ _ => Int.le_refl _, fun _ => Int.le_refl _, rfl, rfl⟩
end Go.Proofs.YtjjapdagllclkaaGreat.Tab
namespace Go.Proofs.YtjjapdagllclkaaGreat.Tab
open Go Go.Abs Go.Proofs
set_option maxRecDepth 100000
set_option maxHeartbeats 4000000
set_option linter.unusedSimpArgs false
set_option linter.unusedVariables false
noncomputable section
attribute [local simp] YC Yt XV XW YZ YY XX YJ Xw Ys Zd orcF XO YX XQ XM YE Yr rb_vl rb_pv XK YW YV YU XP XL XN rb_sl rb_fn slE chunk fillA Ym ZK putAt List.range_succ List.range_zero List.range'_succ List.range'_zero ZU ZS ZF ZW ZB ZM stepX Yh dop CV.ev Yu Zv ZA Xt fI_eq YA Yy Zy Zw Out.v putT List.replicate_succ zT zB arI ZN Abs.rowAt ldRow allV toV toC ofV ofC Builtin.min_ Builtin.min2 Builtin.max_ Builtin.max2 XT XU resA tupA kill ZT Yo Yp Yn Zc
section
attribute [local simp] ZV ZD Xp YN actD clash disj Xq holes Xr ZY Xu news eqB allB eqA Xf wrote toCs ofCs stA Yq ZE Yl dI1 dI2 dI3 dI5 elt
attribute [local simp] XH XD XI XE YS XG YP XF st_pv YO st_sl st_vl YQ st_mp st_fn YR XC co_any co_und co_agg co_tup Xe co_int Xb co_ref co_pv Xa co_sl co_vl Xc co_mp co_fn Xd XZ
attribute [local simp] Function.comp_def List.all_map callA ZQ frzG gather getR lim lop loud lowA lowR okG posOf putG putR XR rbB_row resG rowAt takeG
def lstA (L : List Int) : Za := match L with | [] => .nils | x :: l => .sl 0 0 (x :: l).length false
def lstP (p : Nat) (L : List Int) : Za := match L with | [] => .nils | x :: l => .sl p 0 (x :: l).length false
def lstB (L : List Int) : Option Blk := match L with | [] => none | x :: l => some (.row 1 ((x :: l).map rI))
theorem lstP_ne {p : Nat} {L : List Int} (h : L ≠ []) : lstP p L = .sl p 0 L.length false := by cases L with | nil => exact absurd rfl h | cons x l => rfl
theorem lstA_ne {L : List Int} (h : L ≠ []) : lstA L = .sl 0 0 L.length false := by cases L with | nil => exact absurd rfl h | cons x l => rfl
theorem lstB_ne {L : List Int} (h : L ≠ []) : lstB L = some (.row 1 (L.map rI)) := by cases L with | nil => exact absurd rfl h | cons x l => rfl
theorem lst_back (p : Nat) (L : List Int) : Yx true [p] (lstA L) = some (lstP p L) := by cases L <;> rfl
theorem lstB_ok (L : List Int) : Yv true (lstB L) = true := by
  cases L with
  | nil => rfl
  | cons x l =>
    simp only [lstB, Yv, List.all_eq_true]
    intro r hr
    obtain ⟨a, _, rfl⟩ := List.mem_map.1 hr
    simp [rI, okA, ZO]
theorem lstB_rb (n : Nat) (L : List Int) : rbB n (lstB L) = true := by
  cases L with
  | nil => rfl
  | cons x l => exact rI_rb n 4 (x :: l)
theorem allB_self {α : Type} {f : α → α → Bool} : ∀ {l : List α}, (∀ x ∈ l, f x x = true) → allB f l l = true
  | [], _ => rfl
  | x :: l, h => by simp only [allB, h x (by simp), Bool.true_and]; exact allB_self fun y hy => h y (by simp [hy])
theorem lstB_eq (L : List Int) : eqB (lstB L) (lstB L) = true := by
  cases L with
  | nil => rfl
  | cons x l =>
    simp only [lstB, eqB, beq_self_eq_true, Bool.true_and]
    exact allB_self fun r hr => allB_self fun y hy => by
      obtain ⟨a, _, rfl⟩ := List.mem_map.1 hr
      simp only [rI, List.mem_singleton] at hy
      subst hy; simp
theorem lstP_st (p : Nat) (L : List Int) : Zq (lstP p L) = true ∧ cellsOf (lstP p L) = some [lstP p L] ∧ Zc (lstP p L) = some L.length := by cases L <;> exact ⟨rfl, rfl, rfl⟩
theorem lstP_rb {p n : Nat} (h : p < n) (d : Nat) (L : List Int) : rb n (d + 1) (lstP p L) = true := by
  cases L with
  | nil => rfl
  | cons x l => simp [lstP, h]
theorem lstP_frz {p : Nat} {H : Zf} (L : List Int) (h : H[p]? = some (lstB L)) (nv : Bool) (d : Nat) : frz nv H (d + 2) (lstP p L) = some (encV L) := by
  cases L with
  | nil => cases nv <;> rfl
  | cons x l =>
    rw [encV_ne (by simp)]
    exact frz_row nv H (d + 1) p _ 1 false _ h (by simp) (frz_rows nv H d _ fun r hr y hy => by
      obtain ⟨a, _, rfl⟩ := List.mem_map.1 hr
      simp only [rI, List.mem_singleton] at hy
      subst hy; rfl)
open Classical in
def sLate : List Za → Option (Za × Zf)
  | [.agg [.int .i64 m, c, t, j], o] => match ZI c, Yg t, Xj j, Yd o with
    | some cs, some ts, some js, some os => if ShopOk ⟨m, cs, ts⟩ js ∧ OrdOk js os then some (lstA (Xs (runF ⟨m, cs, ts⟩ js os).ends js js.length), [lstB (Xs (runF ⟨m, cs, ts⟩ js os).ends js js.length)]) else none
    | _, _, _, _ => none
  | _ => none
theorem sLate_eq {s : FShop} {js : List FJob} {c t j o : Za} {os : List Int} (hc : ZI c = some s.chg) (ht : Yg t = some s.stops) (hj : Xj j = some js) (ho : Yd o = some os) (hg : ShopOk s js ∧ OrdOk js os) : sLate [.agg [I s.mach, c, t, j], o] = some (lstA (Xs (runF s js os).ends js js.length), [lstB (Xs (runF s js os).ends js js.length)]) := by
  simp only [sLate, hc, ht, hj, ho]
  rw [if_pos hg]
theorem a64f (P : Program) (T : Nat → Option CFn) (hT : T 64 = some { c64 with body := annK [(7188, [.slot 4])] [] c64.body }) (h62 : T 62 = some { c62 with frsh := false, orc := oRun }) (s : FShop) (js : List FJob) (c t j : Za) (hc : ZI c = some s.chg) (ht : Yg t = some s.stops) (hj : Xj j = some js) (o : Za) (os : List Int) (ho : Yd o = some os) (hg : ShopOk s js ∧ OrdOk js os) : ZH P T 64 [.agg [I s.mach, c, t, j], o] [] fun v1 h1 => ∃ K : List Nat, K.Nodup ∧ K.length = [lstB (Xs (runF s js os).ends js js.length)].length ∧ (∀ p (hp : p < K.length) b, [lstB (Xs (runF s js os).ends js js.length)][p]? = some (some b) → h1[K[p]]? = some (some b)) ∧ keepB true K h1 v1 = some (lstA (Xs (runF s js os).ends js js.length)) := by
 have fc := fun H d => Xo hc H d
 have ft := fun H d => dStops_frz ht H d
 have fj := fun H d => dJobs_frz hj H d
 have rc := fun n d => Xi hc n d
 have rt := fun n d => dStops_rb ht n d
 have rj := fun n d => dJobs_rb hj n d
 have lc := Xn hc
 have lt := dStops_len ht
 have lj := dJobs_len hj
 obtain ⟨cc1, cc2⟩ := ZZ hc
 obtain ⟨ct1, ct2⟩ := YK ht
 obtain ⟨cj1, cj2⟩ := dJobs_cells hj
 have fo := fun H d => ZG ho H d
 have ro := fun n d => Yc ho n d
 have lo := Yz ho
 obtain ⟨co1, co2⟩ := Zp ho
 have hrun := run_eq hc ht hj ho hg
 obtain ⟨hsh, hord⟩ := hg
 have hn6 : js.length ≤ 6 := hsh.njob
 have hro := runF_ok hsh hord.len hord.at'
 generalize runF s js os = R at *
 have hre := hro.elen
 have fz1 : ∀ H d, Zd (Zd (frz false H (d + 1))) (R.starts.map encS) = some (R.starts.map encS) := fun H d => frz_encS H d R.starts
 refine Zs hT (Zu rfl) ?_
 simp only [oo, om, op, og, ci, cl, c64, annK, lkG, lkR, reduceIte, Nat.reduceEqDiff, reduceCtorEq, List.cons.injEq, and_true, and_false, false_and, true_and]
 have HH1 := zA h62 (zA fc (zA ft (zA fj (zA rc (zA rt (zA rj (zA lc (zA lt (zA lj (zA cc1 (zA cc2 (zA ct1 (zA ct2 (zA cj1 (zA cj2 (zA fo (zA ro (zA lo (zA co1 (zA co2 (zA hrun (zA hre fz1))))))))))))))))))))))
 refine zS ?_
 refine zR (zO (by simp [zC h62, -Zc, Zm, HH1]; rfl) ?_)
 simp only [zT, zB]
 refine zS ?_
 refine zS ?_
 refine zR (zO (by simp [zC h62, -Zc, Zm, HH1]; rfl) ?_)
 simp only [zT, zB]
 refine zL ?_
 refine XJ (fun mm σ => ∃ (k : Nat) (i : Int), i = k ∧ js.length - k = mm ∧ k ≤ js.length ∧ ((Xs R.ends js k = [] ∧ σ = ⟨[.any, .any, .ref 0 0 0, .any, .nils, .any, .any, .any, .any, .any, .vl (R.ends.map rI) true, I js.length, I i, .any, .any, .any, .any, .any, .any, .any, .any, .any, .any, .any, .any, .any, .any, .any, .any, .any, .any], [some (.row 4 [[I s.mach, c, t, j]]), none]⟩) ∨ (∃ (p : Nat) (ac : List Int), ac = Xs R.ends js k ∧ ac.length = p + 1 ∧ p + 1 ≤ 6 ∧ σ = ⟨[.any, .any, .ref 0 0 0, .any, .sl 1 0 (p + 1) false, .any, .any, .any, .any, .any, .vl (R.ends.map rI) true, I js.length, I i, .any, .any, .any, .any, .any, .any, .any, .any, .any, .any, .any, .any, .any, .any, .any, .any, .any, .any], [some (.row 4 [[I s.mach, c, t, j]]), some (.row 1 (ac.map rI))]⟩))) (by simp [zC h62, -Zc, Zm, HH1] <;> first | exact ⟨rfl, rfl⟩ | rfl) (⟨0, 0, rfl, rfl, Nat.zero_le _, .inl ⟨rfl, rfl⟩⟩) ?_
 rintro mm σ ⟨k, i, hik, rfl, hkl, ⟨hac0, rfl⟩ | ⟨p, ac, hac, hacl, hp6, rfl⟩⟩
 ·refine zS ?_
  refine zR (zO (by simp [zC h62, -Zc, Zm, HH1]; rfl) ?_)
  simp only [zT, zB]
  refine zS ?_
  refine Zg (x := decide (i < (js.length : Int))) (by simp) (fun hlt => ?_) (fun hlt => ?_)
  ·have hlt2 := of_decide_eq_true hlt
   have hk0 : k < js.length := by omega
   have hkE : k < R.ends.length := by omega
   obtain ⟨rs, tj, wv, rfl, hr1, hr2, hwv⟩ := dJobs_get hj hk0
   have hi0 : 0 ≤ i := by omega
   have htn : i.toNat = k := by omega
   have hkr : k < rs.length := by omega
   have hr4 : ∀ h, rs[k]'h = [I js[k].kind, I js[k].ready, I js[k].due, wv] := fun h => by rw [List.getElem?_eq_getElem h] at hr2; exact Option.some.inj hr2
   have rw5 := fun n d => Yc hwv n d
   obtain ⟨cw1, cw2⟩ := Zp hwv
   have hwi : W .i64 (i + 1) = i + 1 := ZR (by omega)
   have hdu : dueAt js k = js[k].due := by unfold dueAt; rw [List.getD_eq_getElem?_getD, List.getElem?_eq_getElem hk0]; rfl
   have hen : endAt R.ends k = R.ends[k] := by unfold endAt; rw [List.getD_eq_getElem?_getD, List.getElem?_eq_getElem hkE]; rfl
   have hst : Xs R.ends js (k + 1) = Xs R.ends js k ++ if js[k].due < R.ends[k] then [(k : Int)] else [] := by rw [← hdu, ← hen]; rfl
   have hll := lateL_len R.ends js (k + 1)
   rw [← hik] at hst
   have HH2 := zA hi0 (zA htn (zA hk0 (zA hkE (zA hkr (zA hr2 (zA hr4 (zA hwi (zA rw5 (zA cw1 cw2)))))))))
   refine zK ?_
   simp only [zT, zB]
   refine zS ?_
   refine zL ?_
   refine zS ?_
   refine zR (zO (by simp [zC h62, -Zc, Zm, HH1, zI, HH2]; rfl) ?_)
   simp only [zT, zB]
   refine zS ?_
   refine zR (zO (by simp [zC h62, -Zc, Zm, HH1, zI, HH2]; rfl) ?_)
   simp only [zT, zB]
   refine Zg (x := decide (js[k].due < R.ends[k])) (by simp) (fun hd => ?_) (fun hd => ?_)
   ·have hd := of_decide_eq_true hd
    rw [if_pos hd, hac0, List.nil_append] at hst
    refine zR (zO (by simp [zC h62, -Zc, Zm, HH1, zI, HH2]; rfl) ?_)
    simp only [zT, zB]
    refine zR (zO (by simp [zC h62, -Zc, Zm, HH1, zI, HH2]; rfl) ?_)
    simp only [zT, zB]
    exact ⟨js.length - (k + 1), _, _, by omega, by simp [zC h62, -Zc, Zm, HH1, zI, HH2] <;> rfl, k + 1, i + 1, by omega, rfl, by omega, .inr ⟨0, [i], hst.symm, rfl, by omega, rfl⟩⟩
   ·have hd := of_decide_eq_false hd
    rw [if_neg hd, List.append_nil] at hst
    refine zK ?_
    simp only [zT, zB]
    refine zR (zO (by simp [zC h62, -Zc, Zm, HH1, zI, HH2]; rfl) ?_)
    simp only [zT, zB]
    exact ⟨js.length - (k + 1), _, _, by omega, by simp [zC h62, -Zc, Zm, HH1, zI, HH2] <;> rfl, k + 1, i + 1, by omega, rfl, by omega, .inl ⟨by rw [hst, hac0], rfl⟩⟩
  ·have hx1 := of_decide_eq_false hlt
   have hkE : k = js.length := by omega
   subst hkE
   rw [hac0]
   refine ZL ?_
   simp only [zT, zB, if_true, if_false, reduceIte, Nat.reduceEqDiff, Nat.succ_ne_zero, Nat.one_ne_zero, Nat.zero_ne_one]
   refine zS ?_
   refine zR (zO (by simp [zC h62, -Zc, Zm, HH1]; rfl) ?_)
   simp only [zT, zB]
   refine Zj ?_
   refine ⟨by simp, _, by simp; rfl, [0], by simp, rfl, fun q hq b hb => ?_, rfl⟩
   obtain rfl : q = 0 := by simp at hq; omega
   simp [lstB] at hb
 ·have tk : (ac.map rI).take (p + 1) = ac.map rI := List.take_of_length_le (by simp [hacl])
  have hlac : p + 1 + 1 ≤ 1048576 := by omega
  have hr3 : ∀ e : Int, (rI e).length = 1 := fun _ => rfl
  refine zS ?_
  refine zR (zO (by simp [zC h62, -Zc, Zm, HH1, tk, hlac, hacl, hr3]; rfl) ?_)
  simp only [zT, zB]
  refine zS ?_
  refine Zg (x := decide (i < (js.length : Int))) (by simp) (fun hlt => ?_) (fun hlt => ?_)
  ·have hlt2 := of_decide_eq_true hlt
   have hk0 : k < js.length := by omega
   have hkE : k < R.ends.length := by omega
   obtain ⟨rs, tj, wv, rfl, hr1, hr2, hwv⟩ := dJobs_get hj hk0
   have hi0 : 0 ≤ i := by omega
   have htn : i.toNat = k := by omega
   have hkr : k < rs.length := by omega
   have hr4 : ∀ h, rs[k]'h = [I js[k].kind, I js[k].ready, I js[k].due, wv] := fun h => by rw [List.getElem?_eq_getElem h] at hr2; exact Option.some.inj hr2
   have rw5 := fun n d => Yc hwv n d
   obtain ⟨cw1, cw2⟩ := Zp hwv
   have hwi : W .i64 (i + 1) = i + 1 := ZR (by omega)
   have hdu : dueAt js k = js[k].due := by unfold dueAt; rw [List.getD_eq_getElem?_getD, List.getElem?_eq_getElem hk0]; rfl
   have hen : endAt R.ends k = R.ends[k] := by unfold endAt; rw [List.getD_eq_getElem?_getD, List.getElem?_eq_getElem hkE]; rfl
   have hst : Xs R.ends js (k + 1) = Xs R.ends js k ++ if js[k].due < R.ends[k] then [(k : Int)] else [] := by rw [← hdu, ← hen]; rfl
   have hll := lateL_len R.ends js (k + 1)
   rw [← hik] at hst
   have HH3 := zA tk (zA hlac (zA hacl (zA hr3 (zA hi0 (zA htn (zA hk0 (zA hkE (zA hkr (zA hr2 (zA hr4 (zA hwi (zA rw5 (zA cw1 cw2)))))))))))))
   refine zK ?_
   simp only [zT, zB]
   refine zS ?_
   refine zL ?_
   refine zS ?_
   refine zR (zO (by simp [zC h62, -Zc, Zm, HH1, zI, HH3]; rfl) ?_)
   simp only [zT, zB]
   refine zS ?_
   refine zR (zO (by simp [zC h62, -Zc, Zm, HH1, zI, HH3]; rfl) ?_)
   simp only [zT, zB]
   refine Zg (x := decide (js[k].due < R.ends[k])) (by simp) (fun hd => ?_) (fun hd => ?_)
   ·have hd := of_decide_eq_true hd
    rw [if_pos hd, ← hac] at hst
    have hap : ac.map rI ++ [[I i]] = (ac ++ [i]).map rI := by rw [List.map_append]; rfl
    have hnl : (ac ++ [i]).length = p + 1 + 1 := by simp [hacl]
    rw [hst] at hll
    generalize ac ++ [i] = nx at *
    refine zR (zO (by simp [zC h62, -Zc, Zm, HH1, zI, HH3, hap]; rfl) ?_)
    simp only [zT, zB]
    refine zR (zO (by simp [zC h62, -Zc, Zm, HH1, zI, HH3, hap]; rfl) ?_)
    simp only [zT, zB]
    exact ⟨js.length - (k + 1), _, _, by omega, by simp [zC h62, -Zc, Zm, HH1, zI, HH3, hap] <;> rfl, k + 1, i + 1, by omega, rfl, by omega, .inr ⟨p + 1, nx, hst.symm, hnl, by omega, rfl⟩⟩
   ·have hd := of_decide_eq_false hd
    rw [if_neg hd, List.append_nil] at hst
    refine zK ?_
    simp only [zT, zB]
    refine zR (zO (by simp [zC h62, -Zc, Zm, HH1, zI, HH3]; rfl) ?_)
    simp only [zT, zB]
    exact ⟨js.length - (k + 1), _, _, by omega, by simp [zC h62, -Zc, Zm, HH1, zI, HH3] <;> rfl, k + 1, i + 1, by omega, rfl, by omega, .inr ⟨p, ac, by rw [hst, hac], hacl, hp6, rfl⟩⟩
  ·have hx1 := of_decide_eq_false hlt
   have hkE : k = js.length := by omega
   subst hkE
   have hne : ac ≠ [] := by intro e; rw [e] at hacl; simp at hacl
   rw [← hac, lstA_ne hne, lstB_ne hne, hacl]
   refine ZL ?_
   simp only [zT, zB, if_true, if_false, reduceIte, Nat.reduceEqDiff, Nat.succ_ne_zero, Nat.one_ne_zero, Nat.zero_ne_one]
   refine zS ?_
   refine zR (zO (by simp [zC h62, -Zc, Zm, HH1, tk, hlac, hacl, hr3]; rfl) ?_)
   simp only [zT, zB]
   refine Zj ?_
   refine ⟨by simp, _, by simp; rfl, [1], by simp, rfl, fun q hq b hb => ?_, by simp [keepB, keepA]⟩
   obtain rfl : q = 0 := by simp at hq; omega
   have ht : trim 0 [tupA [Za.sl 1 0 (p + 1) false]] [some (.row 4 [[I s.mach, c, t, j]]), some (.row 1 (ac.map rI))] = [some (.row 4 [[I s.mach, c, t, j]]), some (.row 1 (ac.map rI))] := by simp [trim]
   show (trim 0 [tupA [Za.sl 1 0 (p + 1) false]] [some (.row 4 [[I s.mach, c, t, j]]), some (.row 1 (ac.map rI))])[1]? = _
   rw [ht]
   simpa using hb
def FJA1 : Nat → Option CFn := upd FT 64 false (fun _ => none)
theorem FJA1_ok : Zr Tryz.prog GG FJA1 := Xm mixed FT_ok fun args v ho => by simp at ho
def FJA2 : Nat → Option CFn := updE FJA1 64 (ZC true sLate)
theorem FJA2_ok : Zr Tryz.prog GG FJA2 := tab_fresh mixed FJA1_ok fun args v hs ho => by
  unfold sLate at ho; split at ho <;> (try simp only [reduceCtorEq] at ho)
  rename_i m c t j o
  split at ho <;> (try simp only [reduceCtorEq] at ho)
  rename_i cs ts js os hc ht hj ho2
  split at ho <;> (try simp only [reduceCtorEq] at ho)
  rename_i hg
  simp only [Option.some.injEq, Prod.mk.injEq] at ho
  obtain ⟨rfl, rfl⟩ := ho
  exact a64f Tryz.prog FJA1 rfl rfl ⟨m, cs, ts⟩ js c t j hc ht hj o os ho2 hg
def sClone : List Za → Option (Za × Zf)
  | [.vl rs _] => match Zd dI3 rs with
    | some ts => if ts.length ≤ 1000 then some (.sl 0 0 ts.length false, [some (.row 3 (ts.map rS3))]) else none
    | none => none
  | _ => none
theorem a81 (P : Program) (T : Nat → Option CFn) (hT : T 81 = some c81) (ts : List YH) (tt : Bool) (hl2 : ts.length ≤ 1000) : ZH P T 81 [.vl (ts.map rS3) tt] [] fun v1 h1 => ∃ K : List Nat, K.Nodup ∧ K.length = [some (Blk.row 3 (ts.map rS3))].length ∧ (∀ p (hp : p < K.length) b, [some (Blk.row 3 (ts.map rS3))][p]? = some (some b) → h1[K[p]]? = some (some b)) ∧ keepB true K h1 (looseV v1) = some (.sl 0 0 ts.length false) := by
 refine Zs hT (Zu rfl) ?_
 simp only [oo, om, op, og, ci, cl, c81]
 rcases ts with _ | ⟨x, l⟩
 ·refine zS ?_
  refine zR (zO (by simp [hl2]; rfl) ?_)
  simp only [zT, zB]
  refine zS ?_
  refine zS ?_
  refine zR (zO (by simp [hl2]; rfl) ?_)
  simp only [zT, zB]
  refine Zh (x := false) (by simp) ?_
  refine zK ?_
  simp only [zT, zB]
  refine zS ?_
  refine zR (zO (by simp [hl2]; rfl) ?_)
  simp only [zT, zB]
  refine Zj ?_
  refine ⟨by simp, _, by simp; rfl, [0], by simp, rfl, fun q hq b hb => ?_, by simp [keepB, keepA, looseV, looseA]⟩
  obtain rfl : q = 0 := by simp at hq; omega
  simpa [trim, tupA, rb_sl] using hb
 ·have hr1 : (l.map rS3).all (fun r => r.length == 3) = true := by simp [rS3]
  have hr2 : (l.map rS3).all (fun r => r.all Zq) = true := by simp [rS3]
  have hl3 : l.length + 1 ≤ 1048576 := by simp at hl2; omega
  refine zS ?_
  refine zR (zO (by simp [↓hr1, ↓hr2, hl3, rS3]; rfl) ?_)
  simp only [zT, zB]
  refine zS ?_
  refine zS ?_
  refine zR (zO (by simp [↓hr1, ↓hr2, hl3, rS3]; rfl) ?_)
  simp only [zT, zB]
  refine Zh (x := false) (by simp) ?_
  refine zK ?_
  simp only [zT, zB]
  refine zS ?_
  refine zR (zO (by simp [↓hr1, ↓hr2, hl3, rS3]; rfl) ?_)
  simp only [zT, zB]
  refine Zj ?_
  refine ⟨by simp, _, by simp; rfl, [1], by simp, rfl, fun q hq b hb => ?_, by simp [keepB, keepA, looseV, looseA]⟩
  obtain rfl : q = 0 := by simp at hq; omega
  simpa [trim, tupA, rb_sl, rS3] using hb
def FJA3 : Nat → Option CFn := upd FJA2 81 false (fun _ => none)
theorem FJA3_ok : Zr Tryz.prog GG FJA3 := Xm mixed FJA2_ok fun args v ho => by simp at ho
def FJA4 : Nat → Option CFn := updE FJA3 81 (ZC true sClone)
theorem FJA4_ok : Zr Tryz.prog GG FJA4 := tab_fresh2 mixed FJA3_ok fun args v hs ho => by
  unfold sClone at ho; split at ho <;> (try simp only [reduceCtorEq] at ho)
  rename_i rs tt
  split at ho <;> (try simp only [reduceCtorEq] at ho)
  rename_i ts hts
  split at ho <;> (try simp only [reduceCtorEq] at ho)
  rename_i hg
  simp only [Option.some.injEq, Prod.mk.injEq] at ho
  obtain ⟨rfl, rfl⟩ := ho
  obtain rfl : rs = ts.map rS3 := optAll_eq (enc := rS3) (fun r x h => by unfold dI3 at h; split at h <;> simp at h; subst h; rfl) hts
  exact a81 Tryz.prog FJA3 rfl ts tt hg
def oC83 : List Za → Option Za
  | [.int .i64 n, .pv [x] 0] => match Yd x with
    | some xs => if xs.length ≤ 1000 then some (.bool (decide (n ∈ xs))) else none
    | none => none
  | _ => none
def FJA5 : Nat → Option CFn := upd FJA4 115 true oIx
theorem FJA5_ok : Zr Tryz.prog GG FJA5 := tab_upd FJA4_ok ix_good
def FJA6 : Nat → Option CFn := upd FJA5 84 true oCont
theorem FJA6_ok : Zr Tryz.prog GG FJA6 := tab_upd FJA5_ok cont_good
theorem a83 (P : Program) (T : Nat → Option CFn) (hT : T 83 = some c83) (h84 : T 84 = some { c84 with frsh := true, orc := oCont }) (x : Za) (xs : List Int) (hx : Yd x = some xs) (hl : xs.length ≤ 1000) (n : Int) : ZH P T 83 [I n, .pv [x] 0] [] fun v h => frz true h 5 v = some (.bool (decide (n ∈ xs))) := by
 have fx := fun H d => ZG hx H d
 have hix : oCont [x, I n] = some (.bool (decide (n ∈ xs))) := by simp only [oCont, hx]; rw [if_pos hl]
 obtain ⟨cx1, cx2⟩ := Zp hx
 refine Zs hT (Zu rfl) ?_
 simp only [oo, om, op, og, ci, cl, c83]
 have HH1 := zA h84 (zA fx (zA hix (zA cx1 cx2)))
 refine zS ?_
 refine zR (zO (by simp [zC h84, HH1]; rfl) ?_)
 simp only [zT, zB]
 refine zS ?_
 refine zR (zO (by simp [zC h84, HH1]; rfl) ?_)
 simp only [zT, zB]
 refine Zj ?_
 simp [zC h84, HH1]
def FJA : Nat → Option CFn := upd FJA6 83 true (oC83)
theorem FJA_ok : Zr Tryz.prog GG FJA := Xm mixed FJA6_ok fun args v ho => by
  unfold oC83 at ho; split at ho <;> (try simp only [reduceCtorEq] at ho)
  rename_i n x
  split at ho <;> (try simp only [reduceCtorEq] at ho)
  rename_i xs hx
  split at ho <;> (try simp only [reduceCtorEq] at ho)
  rename_i hl
  simp only [Option.some.injEq] at ho
  subst ho
  exact a83 Tryz.prog FJA6 rfl rfl x xs hx hl n
def ixP (B : List Int) : List Int → Int → Int
  | [], _ => -1
  | x :: l, i => if x ∈ B then i else ixP B l (i + 1)
theorem ixP_step {B xs : List Int} {k : Nat} (hk : k < xs.length) (i : Int) : ixP B (xs.drop k) i = if xs[k] ∈ B then i else ixP B (xs.drop (k + 1)) (i + 1) := by
  rw [List.drop_eq_getElem_cons hk]; rfl
def outB (B xs : List Int) : List Int := xs.filter fun x => !decide (x ∈ B)
theorem ixP_spec (B : List Int) : ∀ (xs : List Int) (i : Int), 0 ≤ i → (ixP B xs i = -1 ∧ outB B xs = xs) ∨ ∃ k : Nat, k < xs.length ∧ ixP B xs i = i + k ∧ outB B (xs.take (k + 1)) = xs.take k
  | [], i, _ => .inl ⟨rfl, rfl⟩
  | x :: l, i, hi => by
    by_cases h : x ∈ B
    · refine .inr ⟨0, by simp, by simp [ixP, h], by simp [outB, h]⟩
    · rcases ixP_spec B l (i + 1) (by omega) with ⟨h1, h2⟩ | ⟨k, h1, h2, h3⟩
      · refine .inl ⟨by simp only [ixP]; rw [if_neg h]; exact h1, ?_⟩
        unfold outB at h2 ⊢
        rw [List.filter_cons, if_pos (by simp [h]), h2]
      · refine .inr ⟨k + 1, by simpa using h1, by simp only [ixP]; rw [if_neg h, h2]; omega, ?_⟩
        unfold outB at h3 ⊢
        rw [List.take_succ_cons, List.take_succ_cons, List.filter_cons, if_pos (by simp [h]), h3]
theorem a114g (P : Program) (T : Nat → Option CFn) (hT : T 114 = some c114) (h83 : T 83 = some { c83 with frsh := true, orc := oC83 }) (H : Zf) (i b : Nat) (xs : List Int) (w_ : Za) (B : List Int) (hw : Yd w_ = some B) (hB : B.length ≤ 1000) (hi : H[i]? = some (some (.row 1 (xs.map rI)))) (hl : xs.length ≤ 1000) (hfz : frz false H 5 (.ref b 0 0) = some (.pv [w_] 0)) : ZH P T 114 [.sl i 0 xs.length false, .fn 83 [] [.ref b 0 0]] H fun v h => v = I (ixP B xs 0) ∧ h = H := by
 have ho83 : ∀ n : Int, oC83 [I n, .pv [w_] 0] = some (.bool (decide (n ∈ B))) := fun n => by simp only [oC83, hw]; rw [if_pos hB]
 refine Zs hT (Zu rfl) ?_
 simp only [oo, om, op, og, ci, cl, c114]
 refine zS ?_
 refine zR (zO (by simp [zC h83, h83, ho83, ↓hfz, hi]; rfl) ?_)
 simp only [zT, zB]
 refine zS ?_
 refine zS ?_
 refine zR (zO (by simp [zC h83, h83, ho83, ↓hfz, hi]; rfl) ?_)
 simp only [zT, zB]
 refine zL ?_
 refine YI (fun m σ => ∃ (k : Nat) (g : Int), g = k ∧ xs.length - k = m ∧ k ≤ xs.length ∧ ixP B (xs.drop k) g = ixP B xs 0 ∧ σ = ⟨[.sl i 0 xs.length false, .fn 83 [] [.ref b 0 0], .any, .any, .any, .any, .any, I xs.length, I g, .any, .any, .any, .any, .any, .any, .any, .any, .any, .any], H⟩) ?_ (xs.length - 0) _ ⟨0, 0, rfl, rfl, Nat.zero_le _, rfl, by simp⟩
 rintro m σ ⟨k, g, hik, rfl, hkl, hR, rfl⟩
 refine zS ?_
 refine zR (zO (by simp [zC h83, h83, ho83, ↓hfz, hi]; rfl) ?_)
 simp only [zT, zB]
 refine zS ?_
 refine Zg (x := decide (g < (xs.length : Int))) (by simp) (fun hlt => ?_) (fun hlt => ?_)
 ·have hlt := of_decide_eq_true hlt
  have hk0 : k < xs.length := by omega
  have hi0 : 0 ≤ g := by omega
  have htn : g.toNat = k := by omega
  have hgx : g < (xs.length : Int) := by omega
  have hwi : W .i64 (g + 1) = g + 1 := ZR (by omega)
  rw [ixP_step hk0] at hR
  have hge : (xs.map rI)[k]? = some [I xs[k]] := by rw [List.getElem?_map, List.getElem?_eq_getElem hk0]; rfl
  have hge2 : ∀ (h : k < (xs.map rI).length), (xs.map rI)[k]'h = [I xs[k]] := fun h => by rw [List.getElem_map]; rfl
  generalize hs : xs[k] = s at *
  have HH1 := zA h83 (zA ho83 (zA hi (zA hi0 (zA htn (zA hk0 (zA hgx (zA hwi (zA hge hge2))))))))
  refine zK ?_
  simp only [zT, zB]
  refine zS ?_
  refine zL ?_
  refine zS ?_
  refine zR (zO (by simp [zC h83, ↓hfz, HH1]; rfl) ?_)
  simp only [zT, zB]
  refine zS ?_
  refine zR (zO (by simp [zC h83, ↓hfz, HH1]; rfl) ?_)
  simp only [zT, zB]
  refine Zg (x := decide (s ∈ B)) (by simp) (fun he => ?_) (fun he => ?_)
  ·have he : s ∈ B := of_decide_eq_true he
   rw [if_pos he] at hR
   rw [← hR]
   refine zS ?_
   refine zR (zO (by simp [zC h83, ↓hfz, HH1]; rfl) ?_)
   simp only [zT, zB]
   refine Zj ?_
   simp [zC h83, ↓hfz, HH1, trim_same (Nat.le_refl _)]
  ·have he : ¬ s ∈ B := of_decide_eq_false he
   rw [if_neg he] at hR
   refine zK ?_
   simp only [zT, zB]
   refine zR (zO (by simp [zC h83, ↓hfz, HH1]; rfl) ?_)
   simp only [zT, zB]
   exact ⟨xs.length - (k + 1), by omega, k + 1, g + 1, by omega, rfl, by omega, hR, by simp [trim_same (Nat.le_refl _), zC h83, ↓hfz, HH1]⟩
 ·have hlt := of_decide_eq_false hlt
  obtain rfl : k = xs.length := by omega
  rw [List.drop_length] at hR
  rw [← hR]
  refine ZL ?_
  simp only [zT, zB, if_true, if_false, reduceIte, Nat.reduceEqDiff, Nat.succ_ne_zero, Nat.one_ne_zero, Nat.zero_ne_one]
  refine zS ?_
  refine zR (zO (by simp [zC h83, h83, ho83, ↓hfz, hi]; rfl) ?_)
  simp only [zT, zB]
  refine Zj ?_
  simp [zC h83, h83, ho83, ↓hfz, hi, ixP, trim_same (Nat.le_refl _)]
end
end
end Go.Proofs.YtjjapdagllclkaaGreat.Tab
namespace Go.Proofs.YtjjapdagllclkaaGreat.Tab
open Go Go.Abs Go.Proofs
set_option maxRecDepth 100000
set_option maxHeartbeats 4000000
set_option linter.unusedSimpArgs false
set_option linter.unusedVariables false
section
attribute [local simp] YC Yt XV XW YZ YY XX YJ Xw Ys Zd orcF XO YX XQ XM YE Yr rb_vl rb_pv XK YW YV YU XP XL XN rb_sl rb_fn slE chunk fillA Ym ZK putAt List.range_succ List.range_zero List.range'_succ List.range'_zero ZU ZS ZF ZW ZB ZM stepX Yh dop CV.ev Yu Zv ZA Xt fI_eq YA Yy Zy Zw Out.v putT List.replicate_succ zT zB arI ZN Abs.rowAt ldRow allV toV toC ofV ofC Builtin.min_ Builtin.min2 Builtin.max_ Builtin.max2 XT XU resA tupA kill ZT Yo Yp Yn Zc
section
attribute [local simp] ZV ZD Xp YN actD clash disj Xq holes Xr ZY Xu news eqB allB eqA Xf wrote toCs ofCs stA Yq ZE Yl dI1 dI2 dI3 dI5 elt
attribute [local simp] XH XD XI XE YS XG YP XF st_pv YO st_sl st_vl YQ st_mp st_fn YR XC co_any co_und co_agg co_tup Xe co_int Xb co_ref co_pv Xa co_sl co_vl Xc co_mp co_fn Xd XZ
attribute [local simp] callA ZQ lim lop loud rowAt
theorem set_self {α : Type} {l : List α} {i : Nat} {a : α} (h : l[i]? = some a) : l.set i a = l := by
  obtain ⟨hi, rfl⟩ := List.getElem?_eq_some_iff.1 h
  exact List.set_getElem_self hi
theorem outB_snoc {B xs : List Int} {j : Nat} (hj : j < xs.length) : outB B (xs.take (j + 1)) = outB B (xs.take j) ++ if xs[j] ∈ B then [] else [xs[j]] := by
  unfold outB
  rw [List.take_succ_eq_append_getElem hj, List.filter_append]
  congr 1
  by_cases h : xs[j] ∈ B <;> simp [h]
theorem take_setS {ys : List Int} {p : Nat} {v : Int} (hp : p < ys.length) : (ys.set p v).take (p + 1) = ys.take p ++ [v] := by
  rw [List.take_succ_eq_append_getElem (by simpa using hp), List.take_set_of_le (Nat.le_refl _)]
  simp
theorem clr_eq {ys : List Int} {p n : Nat} (hn : ys.length = n) (hp : p ≤ n) : (ys.map rI).take p ++ (List.replicate (n - p) [I 0] ++ (ys.map rI).drop (p + (n - p))) = (ys.take p ++ List.replicate (n - p) 0).map rI := by
  rw [List.drop_of_length_le (by simp; omega), List.append_nil, List.map_append, List.map_take, List.map_replicate]
  rfl
theorem a114n (P : Program) (T : Nat → Option CFn) (hT : T 114 = some c114) (H : Zf) (b : Nat) : ZH P T 114 [.nils, .fn 83 [] [.ref b 0 0]] H fun v h => v = I (-1) ∧ h = H := by
 refine Zs hT (Zu rfl) ?_
 simp only [oo, om, op, og, ci, cl, c114]
 refine zS ?_
 refine zR (zO (by simp; rfl) ?_)
 simp only [zT, zB]
 refine zS ?_
 refine zS ?_
 refine zR (zO (by simp; rfl) ?_)
 simp only [zT, zB]
 refine zL ?_
 refine YI (fun m σ => σ = ⟨[.nils, .fn 83 [] [.ref b 0 0], .any, .any, .any, .any, .any, I 0, I 0, .any, .any, .any, .any, .any, .any, .any, .any, .any, .any], H⟩) ?_ 0 _ (by simp)
 rintro m σ rfl
 refine zS ?_
 refine zR (zO (by simp; rfl) ?_)
 simp only [zT, zB]
 refine zS ?_
 refine Zh (x := false) (by simp) ?_
 refine ZL ?_
 simp only [zT, zB, if_true, if_false, reduceIte, Nat.reduceEqDiff, Nat.succ_ne_zero, Nat.one_ne_zero, Nat.zero_ne_one]
 refine zS ?_
 refine zR (zO (by simp; rfl) ?_)
 simp only [zT, zB]
 refine Zj ?_
 simp [trim_same (Nat.le_refl _)]
theorem a82n (P : Program) (T : Nat → Option CFn) (hT : T 82 = some c82) (h114 : T 114 = some c114) (H : Zf) (b : Nat) : ZH P T 82 [.nils, .fn 83 [] [.ref b 0 0]] H fun v h => v = .nils ∧ h = H := by
 refine Zs hT (Zu rfl) ?_
 simp only [oo, om, op, og, ci, cl, c82]
 refine zS ?_
 refine zR (zO (by simp; rfl) ?_)
 simp only [zT, zB]
 refine zS ?_
 refine zR (ops_take 2 (by simp; rfl) ?_)
 simp only [List.drop_succ_cons, List.drop_zero]
 refine ops_call (f := 114) (args := [.nils, .fn 83 [] [.ref b 0 0]]) (by simp) (by simp) (by simp) (by simp) ?_
 refine (a114n P T h114 _ b).mono ?_
 rintro v h ⟨rfl, hh⟩
 rw [hh]
 clear hh h
 refine zO (by simp; rfl) ?_
 simp only [zT, zB]
 refine zS ?_
 refine zS ?_
 refine zR (zO (by simp; rfl) ?_)
 simp only [zT, zB]
 refine Zh (x := true) (by simp) ?_
 refine zS ?_
 refine zR (zO (by simp; rfl) ?_)
 simp only [zT, zB]
 refine Zj ?_
 simp [trim_same (Nat.le_refl _)]
theorem a82 (P : Program) (T : Nat → Option CFn) (hT : T 82 = some c82) (h114 : T 114 = some c114) (h83 : T 83 = some { c83 with frsh := true, orc := oC83 }) (H : Zf) (i b : Nat) (xs : List Int) (w_ : Za) (B : List Int) (hw : Yd w_ = some B) (hB : B.length ≤ 1000) (hi : H[i]? = some (some (.row 1 (xs.map rI)))) (hl : xs.length ≤ 1000) (hfz : ∀ X, frz false (H.set i X) 5 (.ref b 0 0) = some (.pv [w_] 0)) : ZH P T 82 [.sl i 0 xs.length false, .fn 83 [] [.ref b 0 0]] H fun v h => ∃ (zs : List Int) (m : Nat), v = .sl i 0 m false ∧ zs.take m = outB B xs ∧ m ≤ zs.length ∧ zs.length = xs.length ∧ h = H.set i (some (.row 1 (zs.map rI))) := by
 have ho83 : ∀ n : Int, oC83 [I n, .pv [w_] 0] = some (.bool (decide (n ∈ B))) := fun n => by simp only [oC83, hw]; rw [if_pos hB]
 have hil : i < H.length := (List.getElem?_eq_some_iff.1 hi).1
 have hgi : ∀ X, (H.set i X)[i]? = some X := fun X => by rw [List.getElem?_set_self hil]
 have hHs : H.set i (some (.row 1 (xs.map rI))) = H := set_self hi
 have hfz0 : frz false H 5 (.ref b 0 0) = some (.pv [w_] 0) := by have := hfz (some (.row 1 (xs.map rI))); rw [hHs] at this; exact this
 refine Zs hT (Zu rfl) ?_
 simp only [oo, om, op, og, ci, cl, c82]
 refine zS ?_
 refine zR (zO (by simp; rfl) ?_)
 simp only [zT, zB]
 refine zS ?_
 refine zR (ops_take 2 (by simp; rfl) ?_)
 simp only [List.drop_succ_cons, List.drop_zero]
 refine ops_call (f := 114) (args := [.sl i 0 xs.length false, .fn 83 [] [.ref b 0 0]]) (by simp) (by simp) (by simp) (by simp) ?_
 refine (a114g P T h114 h83 _ i b xs w_ B hw hB hi hl hfz0).mono ?_
 rintro v h ⟨rfl, hh⟩
 rw [hh]
 clear hh h
 refine zO (by simp; rfl) ?_
 simp only [zT, zB]
 refine zS ?_
 refine zS ?_
 rcases ixP_spec B xs 0 (Int.le_refl _) with ⟨he, hf⟩ | ⟨k0, hk0, he, hf⟩
 ·refine zR (zO (by simp [zC h83, h83, ho83, ↓hfz, hgi, -List.map_set, -List.getElem?_map, -List.getElem_map, he]; rfl) ?_)
  simp only [zT, zB]
  refine Zh (x := true) (by simp) ?_
  refine zS ?_
  refine zR (zO (by simp [zC h83, h83, ho83, ↓hfz, hgi, -List.map_set, -List.getElem?_map, -List.getElem_map, he]; rfl) ?_)
  simp only [zT, zB]
  refine Zj ?_
  refine ⟨by simp, _, by simp; rfl, xs, xs.length, rfl, ?_, Nat.le_refl _, rfl, ?_⟩
  ·rw [List.take_length, hf]
  ·rw [hHs]; exact trim_same (Nat.le_refl _)
 ·rw [Int.zero_add] at he
  obtain ⟨q0, hq0⟩ : ∃ q : Int, q = k0 := ⟨_, rfl⟩
  rw [← hq0] at he
  have hwk : W .i64 (q0 + 1) = q0 + 1 := ZR (by omega)
  have hk1 : (q0 == -1) = false := by simp; omega
  have HH1 := zA h83 (zA ho83 (zA hgi (zA he (zA hwk hk1))))
  refine zR (zO (by simp [zC h83, ↓hfz, -List.map_set, -List.getElem?_map, -List.getElem_map, HH1]; rfl) ?_)
  simp only [zT, zB]
  refine Zh (x := false) (by simp [he, hk1]) ?_
  refine zK ?_
  simp only [zT, zB]
  refine zS ?_
  refine zS ?_
  refine zR (zO (by simp [zC h83, ↓hfz, -List.map_set, -List.getElem?_map, -List.getElem_map, HH1]; rfl) ?_)
  simp only [zT, zB]
  refine zL ?_
  refine YI (fun m σ => ∃ (j p : Nat) (g u : Int) (ys : List Int), g = j ∧ u = p ∧ xs.length - j = m ∧ p < j ∧ j ≤ xs.length ∧ ys.length = xs.length ∧ ys.take p = outB B (xs.take j) ∧ (∀ q, j ≤ q → ys[q]? = xs[q]?) ∧ σ = ⟨[.sl i 0 xs.length false, .fn 83 [] [.ref b 0 0], .any, .any, .any, I u, I g, .any, .any, .any, .any, .any, .any, .any, .any, .any, .any, .any, .any, .any, .any, .any, .any, .any, .any, .any, .any, .any, .any, .any, .any, .any, .any, .any, .any, .any, .any, .any, .any, .any, .any, .any], H.set i (some (.row 1 (ys.map rI)))⟩) ?_ (xs.length - (k0 + 1)) _ ⟨k0 + 1, k0, q0 + 1, q0, xs, by omega, hq0, rfl, by omega, by omega, rfl, hf.symm, (fun _ _ => rfl), by simp [hHs]⟩
  rintro m σ ⟨j, p, g, u, ys, hgj, huq, rfl, hpj, hjl, hyl, hpre, hrest, rfl⟩
  refine zS ?_
  refine zS ?_
  refine zR (zO (by simp [zC h83, ↓hfz, -List.map_set, -List.getElem?_map, -List.getElem_map, HH1]; rfl) ?_)
  simp only [zT, zB]
  refine Zg (x := decide (g < (xs.length : Int))) (by simp) (fun hlt => ?_) (fun hlt => ?_)
  ·have hlt := of_decide_eq_true hlt
   have hj0 : j < xs.length := by omega
   have hjy : j < ys.length := by omega
   have hg0 : 0 ≤ g := by omega
   have hgn : g.toNat = j := by omega
   have hgx : g < (xs.length : Int) := by omega
   have hp0 : p < ys.length := by omega
   have hpx : u < (xs.length : Int) := by omega
   have hu0 : 0 ≤ u := by omega
   have hun : u.toNat = p := by omega
   have hpx2 : p < xs.length := by omega
   have hwi : W .i64 (g + 1) = g + 1 := ZR (by omega)
   have hwp : W .i64 (u + 1) = u + 1 := ZR (by omega)
   have hyj : ys[j] = xs[j] := by
    have := hrest j (Nat.le_refl _)
    rw [List.getElem?_eq_getElem hjy, List.getElem?_eq_getElem hj0] at this
    exact Option.some.inj this
   have hsn := outB_snoc (B := B) hj0
   have hge : (ys.map rI)[j]? = some [I xs[j]] := by rw [List.getElem?_map, List.getElem?_eq_getElem hjy, hyj]; rfl
   have hge2 : ∀ (h : j < (ys.map rI).length), (ys.map rI)[j]'h = [I xs[j]] := fun h => by rw [List.getElem_map, hyj]; rfl
   have hgp : (ys.map rI)[p]? = some [I ys[p]] := by rw [List.getElem?_map, List.getElem?_eq_getElem hp0]; rfl
   have hgp2 : ∀ (h : p < (ys.map rI).length), (ys.map rI)[p]'h = [I ys[p]] := fun h => by rw [List.getElem_map]; rfl
   generalize hs : xs[j] = s at *
   have hset : (ys.map rI).set p [I s] = (ys.set p s).map rI := by rw [List.map_set]; rfl
   have HH2 := zA hg0 (zA hgn (zA hgx (zA hj0 (zA hjy (zA hp0 (zA hpx (zA hu0 (zA hun (zA hpx2 (zA hwi (zA hwp (zA hge (zA hge2 (zA hgp (zA hgp2 hyl)))))))))))))))
   refine zK ?_
   simp only [zT, zB]
   refine zS ?_
   refine zL ?_
   refine zS ?_
   refine zR (zO (by simp [zC h83, ↓hfz, -List.map_set, -List.getElem?_map, -List.getElem_map, HH1, ↓hset, HH2]; rfl) ?_)
   simp only [zT, zB]
   refine zS ?_
   refine zR (zO (by simp [zC h83, ↓hfz, -List.map_set, -List.getElem?_map, -List.getElem_map, HH1, ↓hset, HH2]; rfl) ?_)
   simp only [zT, zB]
   rcases hd0 : decide (s ∈ B) with _ | _
   ·refine Zh (x := true) (by simp) ?_
    have hd : ¬ s ∈ B := of_decide_eq_false hd0
    rw [if_neg hd] at hsn
    refine zS ?_
    refine zR (zO (by simp [zC h83, ↓hfz, -List.map_set, -List.getElem?_map, -List.getElem_map, HH1, ↓hset, HH2, hd0]; rfl) ?_)
    simp only [zT, zB]
    refine zR (zO (by simp [zC h83, ↓hfz, -List.map_set, -List.getElem?_map, -List.getElem_map, HH1, ↓hset, HH2, hd0]; rfl) ?_)
    simp only [zT, zB]
    refine zR (zO (by simp [zC h83, ↓hfz, -List.map_set, -List.getElem?_map, -List.getElem_map, HH1, ↓hset, HH2, hd0]; rfl) ?_)
    simp only [zT, zB]
    exact ⟨xs.length - (j + 1), by omega, j + 1, p + 1, g + 1, u + 1, ys.set p s, by omega, by omega, rfl, by omega, by omega, by rw [List.length_set]; exact hyl, by rw [take_setS hp0, hsn, hpre], (fun q hq => by rw [List.getElem?_set_ne (by omega)]; exact hrest q (by omega)), by simp [trim_same (Nat.le_refl _), zC h83, ↓hfz, -List.map_set, -List.getElem?_map, -List.getElem_map, HH1, ↓hset, HH2, hd0]⟩
   ·refine Zh (x := false) (by simp) ?_
    have hd : s ∈ B := of_decide_eq_true hd0
    rw [if_pos hd, List.append_nil] at hsn
    refine zK ?_
    simp only [zT, zB]
    refine zR (zO (by simp [zC h83, ↓hfz, -List.map_set, -List.getElem?_map, -List.getElem_map, HH1, ↓hset, HH2, hd0]; rfl) ?_)
    simp only [zT, zB]
    exact ⟨xs.length - (j + 1), by omega, j + 1, p, g + 1, u, ys, by omega, huq, rfl, by omega, by omega, hyl, by rw [hsn, hpre], (fun q hq => hrest q (by omega)), by simp [trim_same (Nat.le_refl _), zC h83, ↓hfz, -List.map_set, -List.getElem?_map, -List.getElem_map, HH1, ↓hset, HH2, hd0]⟩
  ·have hlt := of_decide_eq_false hlt
   obtain rfl : j = xs.length := by omega
   rw [List.take_length] at hpre
   have hpx : u ≤ (xs.length : Int) := by omega
   have hpx2 : p ≤ xs.length := by omega
   have hpp : (0 : Int) ≤ u := by omega
   have hun : u.toNat = p := by omega
   have hcl := clr_eq (ys := ys) (p := p) hyl (by omega)
   have hnp : ¬ xs.length - p = 0 := by omega
   have hle : p + (xs.length - p) ≤ xs.length := by omega
   have HH3 := zA hpx (zA hpx2 (zA hpp (zA hun (zA hnp (zA hle hyl)))))
   refine ZL ?_
   simp only [zT, zB, if_true, if_false, reduceIte, Nat.reduceEqDiff, Nat.succ_ne_zero, Nat.one_ne_zero, Nat.zero_ne_one]
   refine zS ?_
   refine zR (zO (by simp [zC h83, ↓hfz, -List.map_set, -List.getElem?_map, -List.getElem_map, HH1, evOpt, sliceA, bounds, hiB, bound, ↓hcl, HH3]; rfl) ?_)
   simp only [zT, zB]
   refine zS ?_
   refine zR (zO (by simp [zC h83, ↓hfz, -List.map_set, -List.getElem?_map, -List.getElem_map, HH1, evOpt, sliceA, bounds, hiB, bound, ↓hcl, HH3]; rfl) ?_)
   simp only [zT, zB]
   refine Zj ?_
   refine ⟨by simp, _, by simp; rfl, ys.take p ++ List.replicate (xs.length - p) 0, p, rfl, ?_, ?_, ?_, ?_⟩
   ·rw [List.take_append_of_le_length (by rw [List.length_take]; omega), List.take_take, Nat.min_self, hpre]
   ·rw [List.length_append, List.length_take, List.length_replicate]; omega
   ·rw [List.length_append, List.length_take, List.length_replicate]; omega
   ·show trim _ _ (H.set i (some (.row 1 ((ys.map rI).take p ++ List.replicate (xs.length - p) (rI 0))))) = _
    rw [show (ys.map rI).take p ++ List.replicate (xs.length - p) (rI 0) = (ys.take p ++ List.replicate (xs.length - p) 0).map rI by rw [List.map_append, List.map_take, List.map_replicate]]
    exact trim_same (Nat.le_of_eq (List.length_set ..))
end
section
attribute [local simp] ZV ZD Xp YN actD clash disj Xq holes Xr ZY Xu news eqB allB eqA Xf wrote toCs ofCs stA Yq ZE Yl dI1 dI2 dI3 dI5 elt
attribute [local simp] XH XD XI XE YS XG YP XF st_pv YO st_sl st_vl YQ st_mp st_fn YR XC co_any co_und co_agg co_tup Xe co_int Xb co_ref co_pv Xa co_sl co_vl Xc co_mp co_fn Xd XZ
attribute [local simp] Function.comp_def List.all_append List.all_map above callA ZQ frNB_none frNB_row frN_agg frN_bool frN_int frN_nils frN_ref frN_sl frN_tup frN_vl frzG gather getR lim lop loud lowA lowR norm okG posOf putG putH putR XR rbB_row resG rowAt setH takeG
theorem lateL_mem (E : List Int) (js : List FJob) (k : Nat) : ∀ n, (k : Int) ∈ Xs E js n ↔ k < n ∧ dueAt js k < endAt E k
  | 0 => by simp [Xs]
  | n + 1 => by
    rw [Xs, List.mem_append, lateL_mem E js k n]
    constructor
    · rintro (⟨h1, h2⟩ | h)
      · exact ⟨by omega, h2⟩
      · split at h
        · rename_i h3
          simp only [List.mem_singleton] at h
          obtain rfl : k = n := by omega
          exact ⟨by omega, h3⟩
        · simp at h
    · rintro ⟨h1, h2⟩
      by_cases hk : k < n
      · exact .inl ⟨hk, h2⟩
      · obtain rfl : k = n := by omega
        rw [if_pos h2]
        exact .inr (List.mem_singleton.2 rfl)
def dueL (E1 E2 : List Int) (js : List FJob) : Nat → List Int
  | 0 => []
  | k + 1 => dueL E1 E2 js k ++ if (decide (dueAt js k < endAt E2 k) && !decide (dueAt js k < endAt E1 k)) = true then [(k : Int)] else []
theorem dueL_len (E1 E2 : List Int) (js : List FJob) : ∀ k, (dueL E1 E2 js k).length ≤ k
  | 0 => Nat.le_refl _
  | k + 1 => by
    have := dueL_len E1 E2 js k
    rw [dueL, List.length_append]
    split <;> simp <;> omega
theorem dueL_eq (E1 E2 : List Int) (js : List FJob) (n : Nat) : ∀ k, k ≤ n → outB (Xs E1 js n) (Xs E2 js k) = dueL E1 E2 js k
  | 0, _ => rfl
  | k + 1, hk => by
    rw [dueL, Xs, ← dueL_eq E1 E2 js n k (by omega)]
    unfold outB
    rw [List.filter_append]
    congr 1
    have hm := lateL_mem E1 js k n
    by_cases h2 : dueAt js k < endAt E2 k
    · rw [if_pos h2]
      by_cases h1 : dueAt js k < endAt E1 k
      · simp [h1, hm.2 ⟨by omega, h1⟩]
      · have : ¬ (k : Int) ∈ Xs E1 js n := fun h => h1 (hm.1 h).2
        simp [h1, h2, this]
    · rw [if_neg h2]
      simp [h2]
theorem keep_ints2 {e : Za} {cs : List (List Int)} (he : ZI e = some cs) : (∀ K h, keepA false K h e = some e) ∧ (∀ J, ZJ false J e = some e) ∧ looseA e = e := by
  obtain ⟨rsc, h1, _⟩ := dInts2_rows he
  rcases rowsV_cases h1 with ⟨rfl, _⟩ | ⟨t, rfl⟩ <;> exact ⟨fun _ _ => rfl, fun _ => rfl, rfl⟩
end
end
end Go.Proofs.YtjjapdagllclkaaGreat.Tab
namespace Go.Proofs.YtjjapdagllclkaaGreat.Tab
open Go Go.Abs Go.Proofs
set_option maxRecDepth 100000
set_option maxHeartbeats 4000000
set_option linter.unusedSimpArgs false
set_option linter.unusedVariables false
noncomputable section
attribute [local simp] YC Yt XV XW YZ YY XX YJ Xw Ys Zd orcF XO YX XQ XM YE Yr rb_vl rb_pv XK YW YV YU XP XL XN rb_sl rb_fn slE chunk fillA Ym ZK putAt List.range_succ List.range_zero List.range'_succ List.range'_zero ZU ZS ZF ZW ZB ZM stepX Yh dop CV.ev Yu Zv ZA Xt fI_eq YA Yy Zy Zw Out.v putT List.replicate_succ zT zB arI ZN Abs.rowAt ldRow allV toV toC ofV ofC Builtin.min_ Builtin.min2 Builtin.max_ Builtin.max2 XT XU resA tupA kill ZT Yo Yp Yn Zc
section
attribute [local simp] ZV ZD Xp YN actD clash disj Xq holes Xr ZY Xu news eqB allB eqA Xf wrote toCs ofCs stA Yq ZE Yl dI1 dI2 dI3 dI5 elt
attribute [local simp] XH XD XI XE YS XG YP XF st_pv YO st_sl st_vl YQ st_mp st_fn YR XC co_any co_und co_agg co_tup Xe co_int Xb co_ref co_pv Xa co_sl co_vl Xc co_mp co_fn Xd XZ
attribute [local simp] callA ZQ lim lop loud putH rowAt setH
theorem stop_in {m a f u : Int} (h : stopOk m (a, f, u) = true) : (0 ≤ a ∧ a < m) ∧ (0 ≤ f ∧ f ≤ 100000) ∧ (0 ≤ u ∧ u ≤ 100000) ∧ f < u := by
  simp only [stopOk, inI, wB, List.all_cons, List.all_nil, Bool.and_true, Bool.and_eq_true, decide_eq_true_eq] at h
  omega
theorem shop_more {s : FShop} {js : List FJob} (h : ShopOk s js) (h10 : ¬ s.stops.length = 10) {a f u : Int} (hs : stopOk s.mach (a, f, u) = true) : ShopOk ⟨s.mach, s.chg, s.stops ++ [(a, f, u)]⟩ js :=
  ⟨h.mach, h.kinds, h.chg, by have := h.nst; simp only [List.length_append, List.length_cons, List.length_nil]; omega, fun x hx => by
    rcases List.mem_append.1 hx with hx | hx
    · exact h.stop x hx
    · rw [List.mem_singleton] at hx; subst hx; exact stop_in hs, h.njob, h.job⟩
def brkE (s : FShop) (js : List FJob) (os : List Int) (st : YH) : Int := if ordE s js os = 0 then (if s.stops.length = 10 then 5 else if stopOk s.mach st = true then 0 else 3) else ordE s js os
def lateS (s : FShop) (js : List FJob) (os : List Int) : List Int := Xs (runF s js os).ends js js.length
def moreS (s : FShop) (st : YH) : FShop := ⟨s.mach, s.chg, s.stops ++ [st]⟩
def delV (B L : List Int) : Za := match L with | [] => .nils | _ :: _ => .vl ((outB B L).map rI) false
theorem delV_ne {B L : List Int} (h : L ≠ []) : delV B L = .vl ((outB B L).map rI) false := by cases L with | nil => exact absurd rfl h | cons x l => rfl
def brkV (s : FShop) (js : List FJob) (os : List Int) (st : YH) : Za := if brkE s js os st = 0 then delV (lateS s js os) (lateS (moreS s st) js os) else .nils
def oBreak : List Za → Option Za
  | [.agg [.int .i64 m, c, .vl rs _], j, o, .agg [.int .i64 a, .int .i64 f, .int .i64 u]] => match ZI c, Zd dI3 rs, Xj j, Yd o with
    | some cs, some ts, some js, some os => if sizeOk ⟨m, cs, ts⟩ js = true ∧ os.length ≤ 100 then some (.tup [brkV ⟨m, cs, ts⟩ js os (a, f, u), I (brkE ⟨m, cs, ts⟩ js os (a, f, u))]) else none
    | _, _, _, _ => none
  | _ => none
theorem dI3_all (ts : List YH) : Zd dI3 (ts.map rS3) = some ts := optAll_map (d := dI3) (enc := rS3) (fun _ => rfl) ts
theorem break_eq {s : FShop} {js : List FJob} {c j o : Za} {os : List Int} {tt : Bool} (hc : ZI c = some s.chg) (hj : Xj j = some js) (ho : Yd o = some os) (hz : SizeOk s js) (hl : os.length ≤ 100) (a f u : Int) : oBreak [.agg [I s.mach, c, .vl (s.stops.map rS3) tt], j, o, .agg [I a, I f, I u]] = some (.tup [brkV s js os (a, f, u), I (brkE s js os (a, f, u))]) := by
  simp only [oBreak, hc, dI3_all, hj, ho]
  rw [if_pos ⟨size_ok.2 hz, hl⟩]
theorem sClone_eq {ts : List YH} {tt : Bool} (h : ts.length ≤ 1000) : sClone [.vl (ts.map rS3) tt] = some (.sl 0 0 ts.length false, [some (.row 3 (ts.map rS3))]) := by
  simp only [sClone, dI3_all]
  rw [if_pos h]
theorem frz_box {H : Zf} {p q : Nat} {B : List Int} (h4 : H[q]? = some (some (.row 1 [[lstP p B]]))) (h3 : H[p]? = some (lstB B)) (d : Nat) : frz false H (d + 3) (.ref q 0 0) = some (.pv [encV B] 0) := by
  rw [YJ]
  simp [h4, lstP_frz B h3]
theorem a35 (P : Program) (T : Nat → Option CFn) (hT : T 35 = some c35) (h61 : T 61 = some { c61 with frsh := false, orc := oOO }) (h80 : T 80 = some { c80 with frsh := true, orc := oStop }) (h64 : T 64 = some { c64 with body := annK [(7188, [.slot 4])] [] c64.body, frsh := false, orc := fun _ => none, eff := ZC true sLate }) (h81 : T 81 = some { c81 with frsh := false, orc := fun _ => none, eff := ZC true sClone }) (h82 : T 82 = some c82) (h114 : T 114 = some c114) (h83 : T 83 = some { c83 with frsh := true, orc := oC83 }) (s : FShop) (js : List FJob) (c t j : Za) (hc : ZI c = some s.chg) (ht : Yg t = some s.stops) (hj : Xj j = some js) (o : Za) (os : List Int) (ho : Yd o = some os) (hz : SizeOk s js ∧ os.length ≤ 100) (tt : Bool) (hte : t = .vl (s.stops.map rS3) tt) (a1 f1 u1 : Int) : ZH P T 35 [.agg [I s.mach, c, t], j, o, .agg [I a1, I f1, I u1]] [] fun v h => frz true h 5 v = some (.tup [brkV s js os (a1, f1, u1), I (brkE s js os (a1, f1, u1))]) := by
 have fc := fun H d => Xo hc H d
 have ft := fun H d => dStops_frz ht H d
 have fj := fun H d => dJobs_frz hj H d
 have rc := fun n d => Xi hc n d
 have rt := fun n d => dStops_rb ht n d
 have rj := fun n d => dJobs_rb hj n d
 have lc := Xn hc
 have lt := dStops_len ht
 have lj := dJobs_len hj
 obtain ⟨cc1, cc2⟩ := ZZ hc
 obtain ⟨ct1, ct2⟩ := YK ht
 obtain ⟨cj1, cj2⟩ := dJobs_cells hj
 have fo := fun H d => ZG ho H d
 have ro := fun n d => Yc ho n d
 have lo := Yz ho
 obtain ⟨co1, co2⟩ := Zp ho
 obtain ⟨hz1, hz2⟩ := hz
 have hop := oo_eq hc ht hj ho hz1 hz2
 rw [ordE_eq] at hop
 have hsto : s.mach ≤ 1000000 → -1000000 ≤ s.mach → oStop [.agg [I s.mach, c, t], .agg [I a1, I f1, I u1]] = some (.bool (stopOk s.mach (a1, f1, u1))) := fun h1 h2 => by
  obtain ⟨rsc, h3, _⟩ := dInts2_rows hc
  simp only [oStop, h3, dStops_rows ht]
  rw [if_pos ⟨h2, h1⟩]
 unfold brkV
 refine Zs hT (Zu rfl) ?_
 simp only [oo, om, op, og, ci, cl, c35]
 by_cases h0 : ordE s js os = 0
 ·have h1 := ordE_ne h0
  have hg := ordE_run h0
  have hsh := hg.1
  have hmach := hsh.mach
  have hsto2 := hsto (by omega) (by omega)
  by_cases h10 : s.stops.length = 10
  ·have hbe : brkE s js os (a1, f1, u1) = 5 := by unfold brkE; rw [if_pos h0, if_pos h10]
   rw [hbe]
   have HH1 := zA h61 (zA h80 (zA h64 (zA h81 (zA fc (zA ft (zA fj (zA rc (zA rt (zA rj (zA lc (zA lt (zA lj (zA cc1 (zA cc2 (zA ct1 (zA ct2 (zA cj1 (zA cj2 (zA fo (zA ro (zA lo (zA co1 (zA co2 (zA hop (zA h0 (zA h1 (zA hsto2 h10)))))))))))))))))))))))))))
   refine zS ?_
   refine zR (zO (by simp [zC h61, zC h80, Zb h64 rfl, ↓Ze, ZC, Yx, ZJ, okA, Yv, ZO, Zb h81 rfl, -Zc, HH1]; rfl) ?_)
   simp only [zT, zB]
   refine zS ?_
   refine zR (zO (by simp [zC h61, zC h80, Zb h64 rfl, ↓Ze, ZC, Yx, ZJ, okA, Yv, ZO, Zb h81 rfl, -Zc, HH1]; rfl) ?_)
   simp only [zT, zB]
   refine zS ?_
   refine zL ?_
   refine zS ?_
   refine zR (zO (by simp [zC h61, zC h80, Zb h64 rfl, ↓Ze, ZC, Yx, ZJ, okA, Yv, ZO, Zb h81 rfl, -Zc, HH1]; rfl) ?_)
   simp only [zT, zB]
   refine Zh (x := false) (by simp) ?_
   refine zS ?_
   refine zR (zO (by simp [zC h61, zC h80, Zb h64 rfl, ↓Ze, ZC, Yx, ZJ, okA, Yv, ZO, Zb h81 rfl, -Zc, HH1]; rfl) ?_)
   simp only [zT, zB]
   refine Zh (x := true) (by simp [h10]) ?_
   refine zS ?_
   refine zR (zO (by simp [zC h61, zC h80, Zb h64 rfl, ↓Ze, ZC, Yx, ZJ, okA, Yv, ZO, Zb h81 rfl, -Zc, HH1]; rfl) ?_)
   simp only [zT, zB]
   refine Zj ?_
   simp [zC h61, zC h80, Zb h64 rfl, ↓Ze, ZC, Yx, ZJ, okA, Yv, ZO, Zb h81 rfl, -Zc, HH1, trim]
  ·have h10i : ((s.stops.length : Int) == 10) = false := by simp; omega
   rcases hso : stopOk s.mach (a1, f1, u1) with _ | _
   ·have hbe : brkE s js os (a1, f1, u1) = 3 := by unfold brkE; rw [if_pos h0, if_neg h10, if_neg (by rw [hso]; simp)]
    rw [hbe]
    have HH2 := zA h61 (zA h80 (zA h64 (zA h81 (zA fc (zA ft (zA fj (zA rc (zA rt (zA rj (zA lc (zA lt (zA lj (zA cc1 (zA cc2 (zA ct1 (zA ct2 (zA cj1 (zA cj2 (zA fo (zA ro (zA lo (zA co1 (zA co2 (zA hop (zA h0 (zA h1 (zA hsto2 (zA h10i hso))))))))))))))))))))))))))))
    refine zS ?_
    refine zR (zO (by simp [zC h61, zC h80, Zb h64 rfl, ↓Ze, ZC, Yx, ZJ, okA, Yv, ZO, Zb h81 rfl, -Zc, HH2]; rfl) ?_)
    simp only [zT, zB]
    refine zS ?_
    refine zR (zO (by simp [zC h61, zC h80, Zb h64 rfl, ↓Ze, ZC, Yx, ZJ, okA, Yv, ZO, Zb h81 rfl, -Zc, HH2]; rfl) ?_)
    simp only [zT, zB]
    refine zS ?_
    refine zL ?_
    refine zS ?_
    refine zR (zO (by simp [zC h61, zC h80, Zb h64 rfl, ↓Ze, ZC, Yx, ZJ, okA, Yv, ZO, Zb h81 rfl, -Zc, HH2]; rfl) ?_)
    simp only [zT, zB]
    refine Zh (x := false) (by simp) ?_
    refine zS ?_
    refine zR (zO (by simp [zC h61, zC h80, Zb h64 rfl, ↓Ze, ZC, Yx, ZJ, okA, Yv, ZO, Zb h81 rfl, -Zc, HH2]; rfl) ?_)
    simp only [zT, zB]
    refine Zh (x := false) (by simp [h10i]) ?_
    refine zS ?_
    refine zR (zO (by simp [zC h61, zC h80, Zb h64 rfl, ↓Ze, ZC, Yx, ZJ, okA, Yv, ZO, Zb h81 rfl, -Zc, HH2]; rfl) ?_)
    simp only [zT, zB]
    refine Zh (x := true) (by simp) ?_
    refine zS ?_
    refine zR (zO (by simp [zC h61, zC h80, Zb h64 rfl, ↓Ze, ZC, Yx, ZJ, okA, Yv, ZO, Zb h81 rfl, -Zc, HH2]; rfl) ?_)
    simp only [zT, zB]
    refine Zj ?_
    simp [zC h61, zC h80, Zb h64 rfl, ↓Ze, ZC, Yx, ZJ, okA, Yv, ZO, Zb h81 rfl, -Zc, HH2, trim]
   ·have hbe : brkE s js os (a1, f1, u1) = 0 := by unfold brkE; rw [if_pos h0, if_neg h10, if_pos hso]
    rw [hbe, if_pos rfl]
    have hg2 : ShopOk (moreS s (a1, f1, u1)) js ∧ OrdOk js os := ⟨shop_more hsh h10 hso, hg.2⟩
    have hL1 := sLate_eq hc ht hj ho hg
    obtain ⟨T2, hT2⟩ : ∃ T2, T2 = s.stops ++ [(a1, f1, u1)] := ⟨_, rfl⟩
    have hap : s.stops.map rS3 ++ [[I a1, I f1, I u1]] = T2.map rS3 := by rw [hT2, List.map_append]; rfl
    have hT2l : T2.length = s.stops.length + 1 := by rw [hT2, List.length_append]; rfl
    have ht2 : Yg (.vl (T2.map rS3) false) = some (moreS s (a1, f1, u1)).stops := by unfold Yg; show Zd dI3 (T2.map rS3) = _; rw [dI3_all, hT2]; rfl
    have hL2 := sLate_eq (s := moreS s (a1, f1, u1)) hc ht2 hj ho hg2
    change sLate [.agg [I s.mach, c, .vl (T2.map rS3) false, j], o] = _ at hL2
    rw [show Xs (runF s js os).ends js js.length = lateS s js os from rfl] at hL1
    rw [show Xs (runF (moreS s (a1, f1, u1)) js os).ends js js.length = lateS (moreS s (a1, f1, u1)) js os from rfl] at hL2
    have hB6 : (lateS s js os).length ≤ 6 := by have := lateL_len (runF s js os).ends js js.length; have := hsh.njob; unfold lateS; omega
    have hC6 : (lateS (moreS s (a1, f1, u1)) js os).length ≤ 6 := by have := lateL_len (runF (moreS s (a1, f1, u1)) js os).ends js js.length; have := hsh.njob; unfold lateS; omega
    generalize lateS s js os = B at *
    generalize lateS (moreS s (a1, f1, u1)) js os = L at *
    have hcl := sClone_eq (ts := s.stops) (tt := tt) (by have := hsh.nst; omega)
    have tkS : (s.stops.map rS3).take s.stops.length = s.stops.map rS3 := List.take_of_length_le (by simp)
    have hS3 : ((s.stops.map rS3).all fun r => r.length == 3) = true := by simp [rS3]
    have hSl : s.stops.length + 1 ≤ 1048576 := by have := hsh.nst; omega
    have fzS := fun nv H d => frz_mapT nv H d T2
    have rbS := fun n => rS3_rb n 4 T2
    have rbS1 := fun n => rS3_rb n 4 s.stops
    have tkT : (T2.map rS3).take (s.stops.length + 1) = T2.map rS3 := List.take_of_length_le (by simp [hT2l])
    have okSt : ((s.stops.map rS3).all fun x => x.all (okA true)) = true := by simp [rS3, okA, ZO]
    have bk : ∀ p, Yx true (List.range' p [lstB B].length) (lstA B) = some (lstP p B) := fun p => lst_back p B
    have bk2 : ∀ p, Yx true (List.range' p [lstB L].length) (lstA L) = some (lstP p L) := fun p => lst_back p L
    have ok2 := lstB_ok L
    have eq2 := lstB_eq L
    have ok1 := lstB_ok B
    have eq1 := lstB_eq B
    have stB := fun p => (lstP_st p B).1
    have ceB := fun p => (lstP_st p B).2.1
    have rbB1 := fun n => lstB_rb n B
    have rbP := fun (p n : Nat) (h : p < n) (d : Nat) => lstP_rb h d B
    subst hte
    have HH3 := zA h61 (zA h80 (zA h64 (zA h81 (zA fc (zA ft (zA fj (zA rc (zA rt (zA rj (zA lc (zA lt (zA lj (zA cc1 (zA cc2 (zA ct1 (zA ct2 (zA cj1 (zA cj2 (zA fo (zA ro (zA lo (zA co1 (zA co2 (zA hop (zA h0 (zA h1 (zA hsto2 (zA h10i (zA hso (zA hL1 (zA hL2 (zA hcl (zA hSl (zA eq1 (zA eq2 (zA stB (zA ceB (zA rbB1 (zA rbP hT2l)))))))))))))))))))))))))))))))))))))))
    have HH4 := zA hap (zA tkS (zA hS3 (zA fzS (zA rbS1 (zA tkT (zA okSt (zA bk (zA ok1 (zA bk2 ok2)))))))))
    refine zS ?_
    refine zR (zO (by simp [zC h61, zC h80, Zb h64 rfl, ↓Ze, ZC, Yx, ZJ, okA, Yv, ZO, Zb h81 rfl, -Zc, ↓rbS, HH3, ↓HH4]; rfl) ?_)
    simp only [zT, zB]
    refine zS ?_
    refine zR (zO (by simp [zC h61, zC h80, Zb h64 rfl, ↓Ze, ZC, Yx, ZJ, okA, Yv, ZO, Zb h81 rfl, -Zc, ↓rbS, HH3, ↓HH4]; rfl) ?_)
    simp only [zT, zB]
    refine zS ?_
    refine zL ?_
    refine zS ?_
    refine zR (zO (by simp [zC h61, zC h80, Zb h64 rfl, ↓Ze, ZC, Yx, ZJ, okA, Yv, ZO, Zb h81 rfl, -Zc, ↓rbS, HH3, ↓HH4]; rfl) ?_)
    simp only [zT, zB]
    refine Zh (x := false) (by simp) ?_
    refine zS ?_
    refine zR (zO (by simp [zC h61, zC h80, Zb h64 rfl, ↓Ze, ZC, Yx, ZJ, okA, Yv, ZO, Zb h81 rfl, -Zc, ↓rbS, HH3, ↓HH4]; rfl) ?_)
    simp only [zT, zB]
    refine Zh (x := false) (by simp [h10i]) ?_
    refine zS ?_
    refine zR (zO (by simp [zC h61, zC h80, Zb h64 rfl, ↓Ze, ZC, Yx, ZJ, okA, Yv, ZO, Zb h81 rfl, -Zc, ↓rbS, HH3, ↓HH4]; rfl) ?_)
    simp only [zT, zB]
    refine Zh (x := false) (by simp) ?_
    refine zK ?_
    simp only [zT, zB]
    refine zS ?_
    refine zR (zO (by simp [zC h61, zC h80, Zb h64 rfl, ↓Ze, ZC, Yx, ZJ, okA, Yv, ZO, Zb h81 rfl, -Zc, ↓rbS, HH3, ↓HH4]; rfl) ?_)
    simp only [zT, zB]
    refine zS ?_
    refine Ye (by simp (maxSteps := 3000000) [zC h61, zC h80, Zb h64 rfl, ↓Ze, ZC, Yx, ZJ, okA, Yv, ZO, Zb h81 rfl, -Zc, ↓rbS, HH3, ↓HH4]; rfl) ?_
    simp only [zT, zB]
    refine zS ?_
    by_cases hLe : L = []
    ·have e1 : lstP 16 L = .nils := by rw [hLe]; rfl
     have e2 : lstB L = none := by rw [hLe]; rfl
     rw [show delV B L = .nils by rw [hLe]; rfl]
     refine zR (ops_take 4 (by simp [zC h61, zC h80, Zb h64 rfl, ↓Ze, ZC, Yx, ZJ, okA, Yv, ZO, Zb h81 rfl, -Zc, ↓rbS, HH3, ↓HH4]; rfl) ?_)
     simp only [List.drop_succ_cons, List.drop_zero]
     refine ops_call (f := 82) (args := [.nils, .fn 83 [] [.ref 4 0 0]]) (by simp [e1]) (by simp [e1]) (by simp [e1]) (by simp [e1]) ?_
     refine (a82n P T h82 h114 _ 4).mono ?_
     rintro v h ⟨hv, hh⟩
     rw [hv, hh]
     clear hv hh h v
     refine zO (by simp; rfl) ?_
     simp only [zT, zB]
     refine Zj ?_
     simp [zC h61, zC h80, Zb h64 rfl, ↓Ze, ZC, Yx, ZJ, okA, Yv, ZO, Zb h81 rfl, -Zc, ↓rbS, HH3, ↓HH4, trim]
    ·rw [delV_ne hLe]
     have e1 := lstP_ne (p := 16) hLe
     have e2 := lstB_ne hLe
     refine zR (ops_take 4 (by simp [zC h61, zC h80, Zb h64 rfl, ↓Ze, ZC, Yx, ZJ, okA, Yv, ZO, Zb h81 rfl, -Zc, ↓rbS, HH3, ↓HH4]; rfl) ?_)
     simp only [List.drop_succ_cons, List.drop_zero]
     refine ops_call (f := 82) (args := [.sl 16 0 L.length false, .fn 83 [] [.ref 4 0 0]]) (by simp [e1]) (by simp [e1]) (by simp [e1]) (by simp [e1]) ?_
     refine (a82 P T h82 h114 h83 _ 16 4 L (encV B) B (dInts_encV B) (by omega) (by simp [e2]) (by omega) (fun X => frz_box (p := 3) (by simp) (by simp) 2)).mono ?_
     rintro v h ⟨zs, m, hv, hz, hm1, hm2, hh⟩
     rw [hv, hh]
     clear hv hh h v
     refine zO (by simp; rfl) ?_
     simp only [zT, zB]
     have tkm : (zs.map rI).take m = (outB B L).map rI := by rw [← List.map_take, hz]
     refine Zj ?_
     simp [↓tkm, hm1, Zm, trim]
 ·have hbe : brkE s js os (a1, f1, u1) = ordE s js os := by unfold brkE; rw [if_neg h0]
  rw [hbe]
  by_cases h1 : shopE s js = 0
  ·have HH5 := zA h61 (zA h80 (zA h64 (zA h81 (zA fc (zA ft (zA fj (zA rc (zA rt (zA rj (zA lc (zA lt (zA lj (zA cc1 (zA cc2 (zA ct1 (zA ct2 (zA cj1 (zA cj2 (zA fo (zA ro (zA lo (zA co1 (zA co2 (zA hop (zA h0 h1)))))))))))))))))))))))))
   refine zS ?_
   refine zR (zO (by simp [zC h61, zC h80, Zb h64 rfl, ↓Ze, ZC, Yx, ZJ, okA, Yv, ZO, Zb h81 rfl, -Zc, zWork, HH5]; rfl) ?_)
   simp only [zT, zB]
   refine zS ?_
   refine zR (zO (by simp [zC h61, zC h80, Zb h64 rfl, ↓Ze, ZC, Yx, ZJ, okA, Yv, ZO, Zb h81 rfl, -Zc, zWork, HH5]; rfl) ?_)
   simp only [zT, zB]
   refine zS ?_
   refine zL ?_
   refine zS ?_
   refine zR (zO (by simp [zC h61, zC h80, Zb h64 rfl, ↓Ze, ZC, Yx, ZJ, okA, Yv, ZO, Zb h81 rfl, -Zc, zWork, HH5]; rfl) ?_)
   simp only [zT, zB]
   refine Zh (x := true) (by simp [h0]) ?_
   refine zS ?_
   refine zR (zO (by simp [zC h61, zC h80, Zb h64 rfl, ↓Ze, ZC, Yx, ZJ, okA, Yv, ZO, Zb h81 rfl, -Zc, zWork, HH5]; rfl) ?_)
   simp only [zT, zB]
   refine Zj ?_
   simp [zC h61, zC h80, Zb h64 rfl, ↓Ze, ZC, Yx, ZJ, okA, Yv, ZO, Zb h81 rfl, -Zc, zWork, HH5, trim]
  ·have HH6 := zA h61 (zA h80 (zA h64 (zA h81 (zA fc (zA ft (zA fj (zA rc (zA rt (zA rj (zA lc (zA lt (zA lj (zA cc1 (zA cc2 (zA ct1 (zA ct2 (zA cj1 (zA cj2 (zA fo (zA ro (zA lo (zA co1 (zA co2 (zA hop (zA h0 h1)))))))))))))))))))))))))
   refine zS ?_
   refine zR (zO (by simp [zC h61, zC h80, Zb h64 rfl, ↓Ze, ZC, Yx, ZJ, okA, Yv, ZO, Zb h81 rfl, -Zc, zWork, HH6]; rfl) ?_)
   simp only [zT, zB]
   refine zS ?_
   refine zR (zO (by simp [zC h61, zC h80, Zb h64 rfl, ↓Ze, ZC, Yx, ZJ, okA, Yv, ZO, Zb h81 rfl, -Zc, zWork, HH6]; rfl) ?_)
   simp only [zT, zB]
   refine zS ?_
   refine zL ?_
   refine zS ?_
   refine zR (zO (by simp [zC h61, zC h80, Zb h64 rfl, ↓Ze, ZC, Yx, ZJ, okA, Yv, ZO, Zb h81 rfl, -Zc, zWork, HH6]; rfl) ?_)
   simp only [zT, zB]
   refine Zh (x := true) (by simp [h0]) ?_
   refine zS ?_
   refine zR (zO (by simp [zC h61, zC h80, Zb h64 rfl, ↓Ze, ZC, Yx, ZJ, okA, Yv, ZO, Zb h81 rfl, -Zc, zWork, HH6]; rfl) ?_)
   simp only [zT, zB]
   refine Zj ?_
   simp [zC h61, zC h80, Zb h64 rfl, ↓Ze, ZC, Yx, ZJ, okA, Yv, ZO, Zb h81 rfl, -Zc, zWork, HH6, trim]
end
end
end Go.Proofs.YtjjapdagllclkaaGreat.Tab
namespace Go.Proofs.YtjjapdagllclkaaGreat.Tab
open Go Go.Abs Go.Proofs
set_option maxRecDepth 100000
set_option maxHeartbeats 4000000
set_option linter.unusedSimpArgs false
set_option linter.unusedVariables false
section
attribute [local simp] YC Yt XV XW YZ YY XX YJ Xw Ys Zd orcF XO YX XQ XM YE Yr rb_vl rb_pv XK YW YV YU XP XL XN rb_sl rb_fn slE chunk fillA Ym ZK putAt List.range_succ List.range_zero List.range'_succ List.range'_zero ZU ZS ZF ZW ZB ZM stepX Yh dop CV.ev Yu Zv ZA Xt fI_eq YA Yy Zy Zw Out.v putT List.replicate_succ zT zB arI ZN Abs.rowAt ldRow allV toV toC ofV ofC Builtin.min_ Builtin.min2 Builtin.max_ Builtin.max2 XT XU resA tupA kill ZT Yo Yp Yn Zc
section
attribute [local simp] ZV ZD Xp YN actD clash disj Xq holes Xr ZY Xu news eqB allB eqA Xf wrote toCs ofCs stA Yq ZE Yl dI1 dI2 dI3 dI5 elt
attribute [local simp] XH XD XI XE YS XG YP XF st_pv YO st_sl st_vl YQ st_mp st_fn YR XC co_any co_und co_agg co_tup Xe co_int Xb co_ref co_pv Xa co_sl co_vl Xc co_mp co_fn Xd XZ
attribute [local simp] Function.comp_def List.all_append List.all_map callA ZQ frzG gather getR lim lop loud lowA lowR okG putG putH putR XR rbB_row resG rowAt setH takeG
theorem break_good : ∀ args v, oBreak args = some v → OrcGood Tryz.prog GG true 35 args v := fun args v ho => by
  unfold oBreak at ho; split at ho <;> (try simp only [reduceCtorEq] at ho)
  rename_i m c rs tt j o a f u
  split at ho <;> (try simp only [reduceCtorEq] at ho)
  rename_i cs ts js os hc hr hj ho2
  split at ho <;> (try simp only [reduceCtorEq] at ho)
  rename_i hg
  simp only [Option.some.injEq] at ho
  subst ho
  have hrs : rs = ts.map rS3 := optAll_eq (enc := rS3) dI3_eq hr
  subst hrs
  exact YL mixed FJA_ok (a35 Tryz.prog FJA rfl rfl rfl rfl rfl rfl rfl rfl ⟨m, cs, ts⟩ js c _ j hc (dStops_of rfl) hj o os ho2 ⟨size_ok.1 hg.1, hg.2⟩ tt rfl a f u)
end
section
attribute [local simp] ZV ZD Xp YN actD clash disj Xq holes Xr ZY Xu news eqB allB eqA Xf wrote toCs ofCs stA Yq ZE Yl dI1 dI2 dI3 dI5 elt
attribute [local simp] XH XD XI XE YS XG YP XF st_pv YO st_sl st_vl YQ st_mp st_fn YR XC co_any co_und co_agg co_tup Xe co_int Xb co_ref co_pv Xa co_sl co_vl Xc co_mp co_fn Xd XZ
attribute [local simp] callA ZQ lim lop loud putH XR rbB_row setH
theorem set_self' {α : Type} {l : List α} {i : Nat} {a : α} (h : l[i]? = some a) : l.set i a = l := by
  obtain ⟨hi, rfl⟩ := List.getElem?_eq_some_iff.1 h
  exact List.set_getElem_self hi
theorem a38 (P : Program) (T : Nat → Option CFn) (hT : T 38 = some c38) (h61 : T 61 = some { c61 with frsh := false, orc := oOO }) (h64 : T 64 = some { c64 with body := annK [(7188, [.slot 4])] [] c64.body, frsh := true, orc := oLate }) (h85 : T 85 = some { c85 with frsh := true, orc := oWithin }) (h86 : T 86 = some { c86 with frsh := false, orc := fun _ => none, eff := ZC false sCloneJ }) (h87 : T 87 = some c87) (s : FShop) (js : List FJob) (c t j : Za) (hc : ZI c = some s.chg) (ht : Yg t = some s.stops) (hj : Xj j = some js) (o : Za) (os : List Int) (ho : Yd o = some os) (hz : SizeOk s js ∧ os.length ≤ 100) (i : Int) : ZH P T 38 [.agg [I s.mach, c, t], j, o, I i] [] fun v h => frz true h 5 v = some (.tup [I (slkV s js os i), I (slkE s js os i)]) := by
 have fc := fun H d => Xo hc H d
 have ft := fun H d => dStops_frz ht H d
 have fj := fun H d => dJobs_frz hj H d
 have rc := fun n d => Xi hc n d
 have rt := fun n d => dStops_rb ht n d
 have rj := fun n d => dJobs_rb hj n d
 have lc := Xn hc
 have lt := dStops_len ht
 have lj := dJobs_len hj
 obtain ⟨cc1, cc2⟩ := ZZ hc
 obtain ⟨ct1, ct2⟩ := YK ht
 obtain ⟨cj1, cj2⟩ := dJobs_cells hj
 have fo := fun H d => ZG ho H d
 have ro := fun n d => Yc ho n d
 have lo := Yz ho
 obtain ⟨co1, co2⟩ := Zp ho
 obtain ⟨hz1, hz2⟩ := hz
 have hop := oo_eq hc ht hj ho hz1 hz2
 rw [ordE_eq] at hop
 unfold slkV
 refine Zs hT (Zu rfl) ?_
 simp only [oo, om, op, og, ci, cl, c38]
 by_cases h0 : ordE s js os = 0
 ·have h1 := ordE_ne h0
  have hg := ordE_run h0
  have hn6 := hg.1.njob
  have hwl : W .i64 ((js.length : Int) - 1) = (js.length : Int) - 1 := ZX (by omega)
  have hwi : oWithin [I 0, I ((js.length : Int) - 1), .vl [[I i]] true] = some (.bool (inI 0 i ((js.length : Int) - 1))) := by rw [← wB_one]; rfl
  have hlt := late_eq hc ht hj ho hg
  by_cases hinr : 0 ≤ i ∧ i < js.length
  ·have hb : inI 0 i ((js.length : Int) - 1) = true := by simp only [inI, Bool.and_eq_true, decide_eq_true_eq]; omega
   have hE : ltQ s js os i.toNat = ltQ s js os i.toNat := rfl
   by_cases hL0 : Xs (runF s js os).ends js js.length = []
   ·have hbe : slkE s js os i = 0 := by unfold slkE; rw [if_pos h0, if_pos hinr, if_pos hL0]
    rw [hbe, if_pos rfl]
    obtain ⟨k, hik⟩ : ∃ k : Nat, i = k := ⟨i.toNat, by omega⟩
    have hk : k < js.length := by omega
    have hkt : i.toNat = k := by omega
    rw [hkt]
    obtain ⟨rs, tt, w_, rfl, hrl, hrk, hw⟩ := dJobs_get hj hk
    have hrs : Zd dJob rs = some js := hj
    have hr100 := ready_le h1 _ (List.getElem_mem hk)
    have hcl := sCloneJ_eq (tt := tt) hrs (by omega)
    have hok : (rs.all fun x => x.all (okA false)) = true := rJ_rb hrs 0 4
    have hset : rs.set k [I js[k].kind, I js[k].ready, I js[k].due, w_] = rs := set_self' hrk
    rw [hL0] at hlt
    generalize hLq : ltQ s js os k = L
    generalize hR0 : bsF L 10001 0 10000 = R0
    have hcall := fun (P : Program) (T : Nat → Option CFn) h1 h2 (q d : Int) (hd : 0 ≤ d ∧ d ≤ 10000) => a87 P T h1 h2 s js c t hc ht o os ho rs tt hrs hg k hk hr100 w_ hrk hw i hik q d hd
    rw [hLq] at hcall
    have HH1 := zA h61 (zA h64 (zA h85 (zA h86 (zA fc (zA ft (zA fj (zA rc (zA rt (zA rj (zA lc (zA lt (zA lj (zA cc1 (zA cc2 (zA ct1 (zA ct2 (zA cj1 (zA cj2 (zA fo (zA ro (zA lo (zA co1 (zA co2 (zA hop (zA h0 (zA h1 (zA hwl (zA hwi (zA hb (zA hlt hcl))))))))))))))))))))))))))))))
    refine zS ?_
    refine zR (zO (by simp [zC h61, zC h64, zC h85, Zb h86 rfl, ↓Ze, ZC, Yx, ZJ, okA, Yv, ZO, -Zc, ↓hok, encV, HH1]; rfl) ?_)
    simp only [zT, zB]
    refine zS ?_
    refine zR (zO (by simp [zC h61, zC h64, zC h85, Zb h86 rfl, ↓Ze, ZC, Yx, ZJ, okA, Yv, ZO, -Zc, ↓hok, encV, HH1]; rfl) ?_)
    simp only [zT, zB]
    refine zS ?_
    refine zL ?_
    refine zS ?_
    refine zR (zO (by simp [zC h61, zC h64, zC h85, Zb h86 rfl, ↓Ze, ZC, Yx, ZJ, okA, Yv, ZO, -Zc, ↓hok, encV, HH1]; rfl) ?_)
    simp only [zT, zB]
    refine Zh (x := false) (by simp) ?_
    refine zS ?_
    refine zR (zO (by simp [zC h61, zC h64, zC h85, Zb h86 rfl, ↓Ze, ZC, Yx, ZJ, okA, Yv, ZO, -Zc, ↓hok, encV, HH1]; rfl) ?_)
    simp only [zT, zB]
    refine Zh (x := false) (by simp) ?_
    refine zS ?_
    refine zR (zO (by simp [zC h61, zC h64, zC h85, Zb h86 rfl, ↓Ze, ZC, Yx, ZJ, okA, Yv, ZO, -Zc, ↓hok, encV, HH1]; rfl) ?_)
    simp only [zT, zB]
    refine Zh (x := false) (by simp) ?_
    refine zK ?_
    simp only [zT, zB]
    refine zS ?_
    refine zR (zO (by simp [zC h61, zC h64, zC h85, Zb h86 rfl, ↓Ze, ZC, Yx, ZJ, okA, Yv, ZO, -Zc, ↓hok, encV, HH1]; rfl) ?_)
    simp only [zT, zB]
    refine zS ?_
    refine zR (zO (by simp [zC h61, zC h64, zC h85, Zb h86 rfl, ↓Ze, ZC, Yx, ZJ, okA, Yv, ZO, -Zc, ↓hok, encV, HH1]; rfl) ?_)
    simp only [zT, zB]
    refine zS ?_
    refine zR (zO (by simp [zC h61, zC h64, zC h85, Zb h86 rfl, ↓Ze, ZC, Yx, ZJ, okA, Yv, ZO, -Zc, ↓hok, encV, HH1]; rfl) ?_)
    simp only [zT, zB]
    refine zS ?_
    refine zL ?_
    refine YI (fun m σ => ∃ (lo2 hi2 q : Int) (f : Nat), (hi2 - lo2).toNat = m ∧ 0 ≤ lo2 ∧ lo2 ≤ hi2 ∧ hi2 ≤ 10000 ∧ hi2 - lo2 < f ∧ bsF L f lo2 hi2 = R0 ∧ σ = ⟨[.any, .any, .any, .any, .any, .any, .any, .any, .any, .any, .any, .any, .fn 87 [] [.ref 1 0 0, .ref 3 0 0, .ref 4 0 0, .ref 2 0 0], I lo2, I hi2, .any, .any, .any, .any, .any, .any, .any, .any, .any, .any, .any, .any, .any, .any, .any, .any, .any, .any, .any, .any, .any, .any, .any, .any, .any, .any, .any, .any, .any, .any, .any, .any, .any, .any, .any, .any, .any, .any, .any, .any, .any, .any, .any, .any, .any], [some (.row 3 [[I s.mach, c, t]]), some (.row 1 [[.vl rs tt]]), some (.row 1 [[o]]), some (.row 1 [[I i]]), some (.row 4 [[I s.mach, c, t, .sl 6 0 rs.length false]]), some (.row 1 [[I i]]), some (.row 4 (rs.set k [I js[k].kind, I q, I js[k].due, w_]))]⟩) ?_ 10000 _ ⟨0, 10000, js[k].ready, 10001, rfl, by omega, by omega, by omega, by omega, hR0, by simp [hset]⟩
    rintro m σ ⟨lo2, hi2, q, f, rfl, hl0, hlh, hh4, hf, hR, rfl⟩
    refine zS ?_
    refine zS ?_
    refine zR (zO (by simp [zC h61, zC h64, zC h85, Zb h86 rfl, ↓Ze, ZC, Yx, ZJ, okA, Yv, ZO, -Zc, ↓hok, encV, HH1]; rfl) ?_)
    simp only [zT, zB]
    refine Zg (x := decide (lo2 < hi2)) (by simp) (fun hlt3 => ?_) (fun hlt3 => ?_)
    ·have hlt := of_decide_eq_true hlt3
     obtain ⟨g, rfl⟩ : ∃ g, f = g + 1 := ⟨f - 1, by omega⟩
     simp only [bsF] at hR
     rw [if_pos hlt] at hR
     have hw1 : W .i64 (lo2 + hi2) = lo2 + hi2 := ZR (by omega)
     have hw2 : W .i64 (lo2 + hi2 + 1) = lo2 + hi2 + 1 := ZR (by omega)
     have hw3 : W .i64 ((lo2 + hi2 + 1).tdiv 2) = (lo2 + hi2 + 1) / 2 := by rw [Int.tdiv_eq_ediv_of_nonneg (by omega)]; exact ZR (by omega)
     generalize hmd : (lo2 + hi2 + 1) / 2 = md at *
     have hm1 : W .i64 (md - 1) = md - 1 := ZX (by omega)
     refine zK ?_
     simp only [zT, zB]
     refine zL ?_
     refine zS ?_
     refine zR (zO (by simp [zC h61, zC h64, zC h85, Zb h86 rfl, ↓Ze, ZC, Yx, ZJ, okA, Yv, ZO, -Zc, ↓hok, encV, HH1, hw1, hw2, hw3, hm1]; rfl) ?_)
     simp only [zT, zB]
     refine zS ?_
     refine zR (ops_take 2 (by simp; rfl) ?_)
     simp only [List.drop_succ_cons, List.drop_zero]
     refine ops_call (f := 87) (args := [I md, .ref 1 0 0, .ref 3 0 0, .ref 4 0 0, .ref 2 0 0]) (by simp) (by simp) (by simp) (by simp) ?_
     refine (hcall P T h87 h64 q md (by omega)).mono ?_
     rintro v h ⟨rfl, hh⟩
     rw [hh]
     clear hh h
     refine zO (by simp; rfl) ?_
     simp only [zT, zB]
     rcases hLm : L md with _ | _
     ·rw [if_neg (by rw [hLm]; simp)] at hR
      have HH2 := zA hw1 (zA hw2 (zA hw3 (zA hm1 hLm)))
      refine Zh (x := false) (by simp) ?_
      refine zR (zO (by simp [zC h61, zC h64, zC h85, Zb h86 rfl, ↓Ze, ZC, Yx, ZJ, okA, Yv, ZO, -Zc, ↓hok, encV, HH1, HH2]; rfl) ?_)
      simp only [zT, zB]
      exact ⟨(hi2 - md).toNat, by omega, md, hi2, js[k].ready + md, g, rfl, by omega, by omega, by omega, by omega, hR, by simp [trim, zC h61, zC h64, zC h85, Zb h86 rfl, ↓Ze, ZC, Yx, ZJ, okA, Yv, ZO, -Zc, ↓hok, encV, HH1, HH2]⟩
     ·rw [if_pos hLm] at hR
      have HH3 := zA hw1 (zA hw2 (zA hw3 (zA hm1 hLm)))
      refine Zh (x := true) (by simp) ?_
      refine zR (zO (by simp [zC h61, zC h64, zC h85, Zb h86 rfl, ↓Ze, ZC, Yx, ZJ, okA, Yv, ZO, -Zc, ↓hok, encV, HH1, HH3]; rfl) ?_)
      simp only [zT, zB]
      exact ⟨(md - 1 - lo2).toNat, by omega, lo2, md - 1, js[k].ready + md, g, rfl, by omega, by omega, by omega, by omega, hR, by simp [trim, zC h61, zC h64, zC h85, Zb h86 rfl, ↓Ze, ZC, Yx, ZJ, okA, Yv, ZO, -Zc, ↓hok, encV, HH1, HH3]⟩
    ·have hlt := of_decide_eq_false hlt3
     have hR2 : R0 = lo2 := by
      rw [← hR]
      cases f with
      | zero => rfl
      | succ f => simp only [bsF]; rw [if_neg hlt]
     rw [hR2]
     refine ZL ?_
     simp only [zT, zB, if_true, if_false, reduceIte, Nat.reduceEqDiff, Nat.succ_ne_zero, Nat.one_ne_zero, Nat.zero_ne_one]
     refine zS ?_
     refine zR (zO (by simp [zC h61, zC h64, zC h85, Zb h86 rfl, ↓Ze, ZC, Yx, ZJ, okA, Yv, ZO, -Zc, ↓hok, encV, HH1]; rfl) ?_)
     simp only [zT, zB]
     refine Zj ?_
     simp [zC h61, zC h64, zC h85, Zb h86 rfl, ↓Ze, ZC, Yx, ZJ, okA, Yv, ZO, -Zc, ↓hok, encV, HH1, trim]
   ·have hbe : slkE s js os i = 9 := by unfold slkE; rw [if_pos h0, if_pos hinr, if_neg hL0]
    rw [hbe, if_neg (by decide)]
    generalize Xs (runF s js os).ends js js.length = L at *
    have hle := Yz (dInts_encV L)
    have hpos : 0 < L.length := List.length_pos_iff.2 hL0
    generalize encV L = lv at *
    have HH4 := zA h61 (zA h64 (zA h85 (zA h86 (zA fc (zA ft (zA fj (zA rc (zA rt (zA rj (zA lc (zA lt (zA lj (zA cc1 (zA cc2 (zA ct1 (zA ct2 (zA cj1 (zA cj2 (zA fo (zA ro (zA lo (zA co1 (zA co2 (zA hop (zA h0 (zA h1 (zA hwl (zA hwi (zA hlt (zA hb (zA hle hpos)))))))))))))))))))))))))))))))
    refine zS ?_
    refine zR (zO (by simp [zC h61, zC h64, zC h85, Zb h86 rfl, ↓Ze, ZC, Yx, ZJ, okA, Yv, ZO, -Zc, HH4]; rfl) ?_)
    simp only [zT, zB]
    refine zS ?_
    refine zR (zO (by simp [zC h61, zC h64, zC h85, Zb h86 rfl, ↓Ze, ZC, Yx, ZJ, okA, Yv, ZO, -Zc, HH4]; rfl) ?_)
    simp only [zT, zB]
    refine zS ?_
    refine zL ?_
    refine zS ?_
    refine zR (zO (by simp [zC h61, zC h64, zC h85, Zb h86 rfl, ↓Ze, ZC, Yx, ZJ, okA, Yv, ZO, -Zc, HH4]; rfl) ?_)
    simp only [zT, zB]
    refine Zh (x := false) (by simp) ?_
    refine zS ?_
    refine zR (zO (by simp [zC h61, zC h64, zC h85, Zb h86 rfl, ↓Ze, ZC, Yx, ZJ, okA, Yv, ZO, -Zc, HH4]; rfl) ?_)
    simp only [zT, zB]
    refine Zh (x := false) (by simp) ?_
    refine zS ?_
    refine zR (zO (by simp [zC h61, zC h64, zC h85, Zb h86 rfl, ↓Ze, ZC, Yx, ZJ, okA, Yv, ZO, -Zc, HH4]; rfl) ?_)
    simp only [zT, zB]
    refine Zh (x := true) (by simp [hpos]) ?_
    refine zS ?_
    refine zR (zO (by simp [zC h61, zC h64, zC h85, Zb h86 rfl, ↓Ze, ZC, Yx, ZJ, okA, Yv, ZO, -Zc, HH4]; rfl) ?_)
    simp only [zT, zB]
    refine Zj ?_
    simp [zC h61, zC h64, zC h85, Zb h86 rfl, ↓Ze, ZC, Yx, ZJ, okA, Yv, ZO, -Zc, HH4, trim]
  ·have hb : inI 0 i ((js.length : Int) - 1) = false := by simp only [inI, Bool.and_eq_false_iff, decide_eq_false_iff_not]; omega
   have hbe : slkE s js os i = 7 := by unfold slkE; rw [if_pos h0, if_neg hinr]
   rw [hbe, if_neg (by decide)]
   have HH5 := zA h61 (zA h64 (zA h85 (zA h86 (zA fc (zA ft (zA fj (zA rc (zA rt (zA rj (zA lc (zA lt (zA lj (zA cc1 (zA cc2 (zA ct1 (zA ct2 (zA cj1 (zA cj2 (zA fo (zA ro (zA lo (zA co1 (zA co2 (zA hop (zA h0 (zA h1 (zA hwl (zA hwi (zA hlt hb)))))))))))))))))))))))))))))
   refine zS ?_
   refine zR (zO (by simp [zC h61, zC h64, zC h85, Zb h86 rfl, ↓Ze, ZC, Yx, ZJ, okA, Yv, ZO, -Zc, HH5]; rfl) ?_)
   simp only [zT, zB]
   refine zS ?_
   refine zR (zO (by simp [zC h61, zC h64, zC h85, Zb h86 rfl, ↓Ze, ZC, Yx, ZJ, okA, Yv, ZO, -Zc, HH5]; rfl) ?_)
   simp only [zT, zB]
   refine zS ?_
   refine zL ?_
   refine zS ?_
   refine zR (zO (by simp [zC h61, zC h64, zC h85, Zb h86 rfl, ↓Ze, ZC, Yx, ZJ, okA, Yv, ZO, -Zc, HH5]; rfl) ?_)
   simp only [zT, zB]
   refine Zh (x := false) (by simp) ?_
   refine zS ?_
   refine zR (zO (by simp [zC h61, zC h64, zC h85, Zb h86 rfl, ↓Ze, ZC, Yx, ZJ, okA, Yv, ZO, -Zc, HH5]; rfl) ?_)
   simp only [zT, zB]
   refine Zh (x := true) (by simp) ?_
   refine zS ?_
   refine zR (zO (by simp [zC h61, zC h64, zC h85, Zb h86 rfl, ↓Ze, ZC, Yx, ZJ, okA, Yv, ZO, -Zc, HH5]; rfl) ?_)
   simp only [zT, zB]
   refine Zj ?_
   simp [zC h61, zC h64, zC h85, Zb h86 rfl, ↓Ze, ZC, Yx, ZJ, okA, Yv, ZO, -Zc, HH5, trim]
 ·have hbe : slkE s js os i = ordE s js os := by unfold slkE; rw [if_neg h0]
  rw [hbe, if_neg h0]
  by_cases h1 : shopE s js = 0
  ·have HH6 := zA h61 (zA h64 (zA h85 (zA h86 (zA fc (zA ft (zA fj (zA rc (zA rt (zA rj (zA lc (zA lt (zA lj (zA cc1 (zA cc2 (zA ct1 (zA ct2 (zA cj1 (zA cj2 (zA fo (zA ro (zA lo (zA co1 (zA co2 (zA hop (zA h0 h1)))))))))))))))))))))))))
   refine zS ?_
   refine zR (zO (by simp [zC h61, zC h64, zC h85, Zb h86 rfl, ↓Ze, ZC, Yx, ZJ, okA, Yv, ZO, -Zc, zWork, HH6]; rfl) ?_)
   simp only [zT, zB]
   refine zS ?_
   refine zR (zO (by simp [zC h61, zC h64, zC h85, Zb h86 rfl, ↓Ze, ZC, Yx, ZJ, okA, Yv, ZO, -Zc, zWork, HH6]; rfl) ?_)
   simp only [zT, zB]
   refine zS ?_
   refine zL ?_
   refine zS ?_
   refine zR (zO (by simp [zC h61, zC h64, zC h85, Zb h86 rfl, ↓Ze, ZC, Yx, ZJ, okA, Yv, ZO, -Zc, zWork, HH6]; rfl) ?_)
   simp only [zT, zB]
   refine Zh (x := true) (by simp [h0]) ?_
   refine zS ?_
   refine zR (zO (by simp [zC h61, zC h64, zC h85, Zb h86 rfl, ↓Ze, ZC, Yx, ZJ, okA, Yv, ZO, -Zc, zWork, HH6]; rfl) ?_)
   simp only [zT, zB]
   refine Zj ?_
   simp [zC h61, zC h64, zC h85, Zb h86 rfl, ↓Ze, ZC, Yx, ZJ, okA, Yv, ZO, -Zc, zWork, HH6, trim]
  ·have HH7 := zA h61 (zA h64 (zA h85 (zA h86 (zA fc (zA ft (zA fj (zA rc (zA rt (zA rj (zA lc (zA lt (zA lj (zA cc1 (zA cc2 (zA ct1 (zA ct2 (zA cj1 (zA cj2 (zA fo (zA ro (zA lo (zA co1 (zA co2 (zA hop (zA h0 h1)))))))))))))))))))))))))
   refine zS ?_
   refine zR (zO (by simp [zC h61, zC h64, zC h85, Zb h86 rfl, ↓Ze, ZC, Yx, ZJ, okA, Yv, ZO, -Zc, zWork, HH7]; rfl) ?_)
   simp only [zT, zB]
   refine zS ?_
   refine zR (zO (by simp [zC h61, zC h64, zC h85, Zb h86 rfl, ↓Ze, ZC, Yx, ZJ, okA, Yv, ZO, -Zc, zWork, HH7]; rfl) ?_)
   simp only [zT, zB]
   refine zS ?_
   refine zL ?_
   refine zS ?_
   refine zR (zO (by simp [zC h61, zC h64, zC h85, Zb h86 rfl, ↓Ze, ZC, Yx, ZJ, okA, Yv, ZO, -Zc, zWork, HH7]; rfl) ?_)
   simp only [zT, zB]
   refine Zh (x := true) (by simp [h0]) ?_
   refine zS ?_
   refine zR (zO (by simp [zC h61, zC h64, zC h85, Zb h86 rfl, ↓Ze, ZC, Yx, ZJ, okA, Yv, ZO, -Zc, zWork, HH7]; rfl) ?_)
   simp only [zT, zB]
   refine Zj ?_
   simp [zC h61, zC h64, zC h85, Zb h86 rfl, ↓Ze, ZC, Yx, ZJ, okA, Yv, ZO, -Zc, zWork, HH7, trim]
theorem slack_good : ∀ args v, oSlack args = some v → OrcGood Tryz.prog GG true 38 args v := fun args v ho => by
  unfold oSlack at ho; split at ho <;> (try simp only [reduceCtorEq] at ho)
  rename_i m c t j o i
  split at ho <;> (try simp only [reduceCtorEq] at ho)
  rename_i cs ts js os hc ht hj ho2
  split at ho <;> (try simp only [reduceCtorEq] at ho)
  rename_i hg
  simp only [Option.some.injEq] at ho
  subst ho
  exact YL mixed FK2_ok (a38 Tryz.prog FK2 rfl rfl rfl rfl rfl rfl ⟨m, cs, ts⟩ js c t j hc ht hj o os ho2 ⟨size_ok.1 hg.1, hg.2⟩ i)
end
section
attribute [local simp] ZV ZD Xp YN actD clash disj Xq holes Xr ZY Xu news eqB allB eqA Xf wrote toCs ofCs stA Yq ZE Yl dI1 dI2 dI3 dI5 elt
attribute [local simp] XH XD XI XE YS XG YP XF st_pv YO st_sl st_vl YQ st_mp st_fn YR XC co_any co_und co_agg co_tup Xe co_int Xb co_ref co_pv Xa co_sl co_vl Xc co_mp co_fn Xd XZ
attribute [local simp] callA ZQ lop loud XR rbB_row
theorem a46 (P : Program) (T : Nat → Option CFn) (hT : T 46 = some c46) (x y : Za) (A B : List (List Int)) (hx : ZI x = some A) (hy : ZI y = some B) (hlAB : A.length ≤ B.length) (hlA : A.length ≤ 1000)
  (hlen : ∀ k (h1 : k < A.length) (h2 : k < B.length), A[k].length ≤ B[k].length ∧ A[k].length ≤ 1000) (hle : ∀ k z (h1 : k < A.length) (h2 : k < B.length) (h3 : z < A[k].length) (h4 : z < B[k].length), B[k][z] ≤ A[k][z]) : ZH P T 46 [x, y] [] fun v h => frz true h 5 v = some (.bool false) := by
 have fx := fun H d => Xo hx H d
 have rx := fun n d => Xi hx n d
 have lx := Xn hx
 obtain ⟨cx1, cx2⟩ := ZZ hx
 have fy := fun H d => Xo hy H d
 have ry := fun n d => Xi hy n d
 have ly := Xn hy
 obtain ⟨cy1, cy2⟩ := ZZ hy
 refine Zs hT (Zu rfl) ?_
 simp only [oo, om, op, og, ci, cl, c46]
 have HH1 := zA fx (zA rx (zA lx (zA cx1 (zA cx2 (zA fy (zA ry (zA ly (zA cy1 cy2))))))))
 refine zS ?_
 refine zR (zO (by simp [-Zc, HH1]; rfl) ?_)
 simp only [zT, zB]
 refine zS ?_
 refine zS ?_
 refine zR (zO (by simp [-Zc, HH1]; rfl) ?_)
 simp only [zT, zB]
 refine zL ?_
 refine YI (fun m σ => ∃ (k : Nat) (i : Int), i = k ∧ A.length - k = m ∧ k ≤ A.length ∧ σ = ⟨[x, y, .any, .any, .any, I i, .any, .any, .any, .any, .any, .any, .any, .any, .any, .any, .any, .any, .any, .any, .any, .any, .any, .any, .any, .any, .any, .any, .any, .any, .any, .any, .any, .any, .any, .any, .any], []⟩) ?_ (A.length - 0) _ ⟨0, 0, rfl, rfl, Nat.zero_le _, by simp⟩
 rintro m σ ⟨k, i, hik, rfl, hkl0, rfl⟩
 refine zS ?_
 refine zS ?_
 refine zR (zO (by simp [-Zc, HH1]; rfl) ?_)
 simp only [zT, zB]
 refine Zg (x := decide (i < (A.length : Int))) (by simp) (fun hlt => ?_) (fun hlt => ?_)
 ·have hlt := of_decide_eq_true hlt
  have hk0 : k < A.length := by omega
  have hkB : k < B.length := by omega
  have hi0 : 0 ≤ i := by omega
  have htn : i.toNat = k := by omega
  have hwi : W .i64 (i + 1) = i + 1 := ZR (by omega)
  have hkl := hlen k hk0 hkB
  obtain ⟨cra, tca, wca, rfl, hq1ca, hq2ca, hwca⟩ := dInts2_get hx hk0
  have hkca : k < cra.length := by omega
  have hq4ca : ∀ h, cra[k]'h = [wca] := fun h => by rw [List.getElem?_eq_getElem h] at hq2ca; exact Option.some.inj hq2ca
  have rwca := fun n d => Yc hwca n d
  have fwca := fun H d => ZG hwca H d
  have lwca := Yz hwca
  obtain ⟨cwca, cwda⟩ := Zp hwca
  obtain ⟨crb, tcb, wcb, rfl, hq1cb, hq2cb, hwcb⟩ := dInts2_get hy hkB
  have hkcb : k < crb.length := by omega
  have hq4cb : ∀ h, crb[k]'h = [wcb] := fun h => by rw [List.getElem?_eq_getElem h] at hq2cb; exact Option.some.inj hq2cb
  have rwcb := fun n d => Yc hwcb n d
  have fwcb := fun H d => ZG hwcb H d
  have lwcb := Yz hwcb
  obtain ⟨cwcb, cwdb⟩ := Zp hwcb
  have HH2 := zA hi0 (zA htn (zA hk0 (zA hkB (zA hwi (zA hkca (zA hq2ca (zA hq4ca (zA rwca (zA fwca (zA lwca (zA cwca (zA cwda (zA hkcb (zA hq2cb (zA hq4cb (zA rwcb (zA fwcb (zA lwcb (zA cwcb cwdb)))))))))))))))))))
  refine zK ?_
  simp only [zT, zB]
  refine zS ?_
  refine zL ?_
  refine zS ?_
  refine zR (zO (by simp [-Zc, HH1, zI, HH2]; rfl) ?_)
  simp only [zT, zB]
  refine zL ?_
  refine YI (fun m2 σ => ∃ (z : Nat) (g : Int), g = z ∧ A[k].length - z = m2 ∧ z ≤ A[k].length ∧ σ = ⟨[.vl cra tca, .vl crb tcb, .any, .any, .any, I i, I g, .any, .any, .any, .any, .any, .any, .any, .any, .any, .any, .any, .any, .any, .any, .any, .any, .any, .any, .any, .any, .any, .any, .any, .any, .any, .any, .any, .any, .any, .any], []⟩) ?_ (A[k].length - 0) _ ⟨0, 0, rfl, rfl, Nat.zero_le _, by simp⟩
  rintro m2 σ ⟨z, g, hgz, rfl, hzm, rfl⟩
  refine zS ?_
  refine zS ?_
  refine zR (zO (by simp [-Zc, HH1, zI, HH2]; rfl) ?_)
  simp only [zT, zB]
  refine Zg (x := decide (g < (A[k].length : Int))) (by simp) (fun hlt2 => ?_) (fun hlt2 => ?_)
  ·have hlt2' := of_decide_eq_true hlt2
   have hz0 : z < A[k].length := by omega
   have hzB : z < B[k].length := by omega
   have hg0 : 0 ≤ g := by omega
   have hgn : g.toNat = z := by omega
   have hga : g < (A[k].length : Int) := by omega
   have hgb : g < (B[k].length : Int) := by omega
   have hwg : W .i64 (g + 1) = g + 1 := ZR (by omega)
   have hle1 := hle k z hk0 hkB hz0 hzB
   obtain ⟨t1, rfl⟩ := Xh hwca hz0
   obtain ⟨t2, rfl⟩ := Xh hwcb hzB
   generalize hX : A[k][z] = X at *
   generalize hY : B[k][z] = Y at *
   have hd0 : decide (X < Y) = false := by simp; omega
   have HH3 := zA hz0 (zA hzB (zA hg0 (zA hgn (zA hga (zA hgb (zA hwg (zA hX (zA hY hd0))))))))
   refine zK ?_
   simp only [zT, zB]
   refine zS ?_
   refine zL ?_
   refine zS ?_
   refine Ye (by simp (maxSteps := 3000000) [-Zc, HH1, zI, HH2, HH3]; rfl) ?_
   simp only [zT, zB]
   refine Zh (x := false) (by simp [hd0]) ?_
   refine zK ?_
   simp only [zT, zB]
   refine zR (zO (by simp [-Zc, HH1, zI, HH2, HH3]; rfl) ?_)
   simp only [zT, zB]
   exact ⟨A[k].length - (z + 1), by omega, z + 1, g + 1, by omega, rfl, by omega, by simp [trim, -Zc, HH1, zI, HH2, HH3]⟩
  ·refine ZL ?_
   simp only [zT, zB, if_true, if_false, reduceIte, Nat.reduceEqDiff, Nat.succ_ne_zero, Nat.one_ne_zero, Nat.zero_ne_one]
   refine zR (zO (by simp [-Zc, HH1, zI, HH2]; rfl) ?_)
   simp only [zT, zB]
   exact ⟨A.length - (k + 1), by omega, k + 1, i + 1, by omega, rfl, by omega, by simp [trim, -Zc, HH1, zI, HH2]⟩
 ·refine ZL ?_
  simp only [zT, zB, if_true, if_false, reduceIte, Nat.reduceEqDiff, Nat.succ_ne_zero, Nat.one_ne_zero, Nat.zero_ne_one]
  refine zS ?_
  refine zR (zO (by simp [-Zc, HH1]; rfl) ?_)
  simp only [zT, zB]
  refine Zj ?_
  simp [-Zc, HH1]
end
end
end Go.Proofs.YtjjapdagllclkaaGreat.Tab
namespace Go.Proofs.YtjjapdagllclkaaGreat.Tab
open Go Go.Abs Go.Proofs
set_option linter.unusedSimpArgs false
set_option linter.unusedVariables false
structure LatOk (s : FShop) (js : List FJob) (os : List Int) : Prop where
 ctx : RunCtx s js os
 r : ∀ j ∈ js, j.ready ≤ 255
 m : ∀ j ∈ js, ∀ n ∈ j.mins, n ≤ 79
 st : s.stops.length ≤ 6
theorem made_lat {w : FWorks} (h : WkOk w) : LatOk (wShop w) (wJobs w) (ordW w.o (wJobs w).length) := by
 refine ⟨made_ctx h, fun j hj => ?_, fun j hj n hn => ?_, ?_⟩
 ·simp only [wJobs, wJ, List.mem_map] at hj
  obtain ⟨v, hvm, rfl⟩ := hj
  have b1 : isU (v_ v 1) := XS (h.ys v (List.mem_of_mem_take hvm)).2
  exact b1.2
 ·simp only [wJobs, wJ, List.mem_map] at hj
  obtain ⟨v, hvm, rfl⟩ := hj
  have hn' : n ∈ wMins v (wM w).toNat := hn
  simp only [wMins, List.mem_map, List.mem_range] at hn'
  obtain ⟨k, hk, rfl⟩ := hn'
  have b3 : isU (v_ v (3 + k)) := XS (h.ys v (List.mem_of_mem_take hvm)).2
  have t3 := tmod_bd (m := 90) b3.1 (by decide)
  unfold wMin
  omega
 ·show (wT w (min w.xs.length 6)).length ≤ 6
  simp only [wT, List.length_map, List.length_take]; omega
structure EarlyOk (A B : List (List Int)) : Prop where
 len : A.length ≤ B.length ∧ A.length ≤ 1000
 row : ∀ k (h1 : k < A.length) (h2 : k < B.length), A[k].length ≤ B[k].length ∧ A[k].length ≤ 1000
 le : ∀ k z (h1 : k < A.length) (h2 : k < B.length) (h3 : z < A[k].length) (h4 : z < B[k].length), B[k][z] ≤ A[k][z]
theorem getD_at {α : Type} {l : List α} {k : Nat} {d : α} (h : k < l.length) : l.getD k d = l[k] := by
 rw [List.getD_eq_getElem?_getD, List.getElem?_eq_getElem h]; rfl
theorem early_no {s s' : FShop} {js js' : List FJob} {os : List Int} (h : RunCtx s js os) (h' : RunCtx s' js' os) (hl : js.length = js'.length) (hm : s.mach = s'.mach) (hr : RLe (runF s js os) (runF s' js' os)) : EarlyOk (stsF s' js' os) (stsF s js os) := by
 have e1 := sts_ok h
 have e2 := sts_ok h'
 have hn := h'.ok.njob
 have hmm := h.ok.mach
 have hr1 : ∀ k (h1 : k < (stsF s' js' os).length) (h2 : k < (stsF s js os).length), (stsF s' js' os)[k].length = (stsF s js os)[k].length ∧ (stsF s' js' os)[k].length ≤ 1000 := fun k h1 h2 => by
  have a1 := (e1.row _ (List.getElem_mem h2)).1
  have a2 := (e2.row _ (List.getElem_mem h1)).1
  omega
 refine ⟨⟨by rw [e1.len, e2.len, hl]; exact Nat.le_refl _, by rw [e2.len]; omega⟩, fun k h1 h2 => ⟨Nat.le_of_eq (hr1 k h1 h2).1, (hr1 k h1 h2).2⟩, fun k z h1 h2 h3 h4 => ?_⟩
 have := hr.starts k z
 have g1 : (runF s js os).starts.getD k [] = (stsF s js os)[k] := getD_at (l := (runF s js os).starts) h2
 have g2 : (runF s' js' os).starts.getD k [] = (stsF s' js' os)[k] := getD_at (l := (runF s' js' os).starts) h1
 rw [g1, g2] at this
 unfold nAt at this
 rwa [getD_at h4, getD_at h3] at this
theorem mins4 {s : FShop} {js : List FJob} (h : ShopOk s js) (i : Nat) : (js.getD i default).mins.length ≤ 4 := by
 rw [List.getD_eq_getElem?_getD]
 cases e : js[i]? with
 | none => exact Nat.zero_le _
 | some j =>
  have := (h.job j (List.mem_of_getElem? e)).2.2.2.1
  have := h.mach
  simp only [Option.getD_some]
  omega
theorem jobAt_get {js : List FJob} {k : Nat} (hk : k < js.length) : jobAt js k = js[k] := jobAt_eq hk
theorem set_ok {s : FShop} {js : List FJob} (h : ShopOk s js) {k : Nat} {j : FJob} (hj : (0 ≤ j.kind ∧ j.kind < s.chg.length) ∧ (0 ≤ j.ready ∧ j.ready ≤ 110000) ∧ (0 ≤ j.due ∧ j.due ≤ 100000) ∧ (j.mins.length : Int) = s.mach ∧ ∀ n ∈ j.mins, 0 ≤ n ∧ n ≤ 2000) : ShopOk s (js.set k j) :=
 ⟨h.mach, h.kinds, h.chg, h.nst, h.stop, by rw [List.length_set]; exact h.njob, fun x hx => by
  rcases List.mem_or_eq_of_mem_set hx with hx | rfl
  ·exact h.job x hx
  ·exact hj⟩
theorem set_jle {js : List FJob} {k : Nat} (hk : k < js.length) {j : FJob} (hj : JLe js[k] j) (i : Nat) : JLe (js.getD i default) ((js.set k j).getD i default) := by
 by_cases e : k = i
 ·subst e
  rw [getD_self hk, getD_at hk]; exact hj
 ·rw [getD_ne e]; exact JLe.refl _
theorem later_ok {s : FShop} {js : List FJob} {os : List Int} (h : LatOk s js os) {k : Nat} (hk : k < js.length) {d : Int} (hd : 0 ≤ d ∧ d ≤ 10001) : RunCtx s (ZP js k d) os ∧ shopE s (ZP js k d) = 0 ∧ ∀ i, JLe (js.getD i default) ((ZP js k d).getD i default) := by
 have hj := h.ctx.ok.job _ (List.getElem_mem hk)
 have hr := h.r _ (List.getElem_mem hk)
 have hsh : ShopOk s (ZP js k d) := by
  unfold ZP
  rw [jobAt_get hk]
  exact set_ok h.ctx.ok ⟨hj.1, by simp only; omega, hj.2.2.1, hj.2.2.2⟩
 refine ⟨⟨hsh, by rw [laterF_len]; exact h.ctx.ord⟩, shopE_of hsh fun x hx => ?_, fun i => ?_⟩
 ·unfold ZP at hx
  rcases List.mem_or_eq_of_mem_set hx with hx | rfl
  ·have := h.r x hx; omega
  ·rw [jobAt_get hk]; simp only; omega
 ·unfold ZP
  rw [jobAt_get hk]
  refine set_jle hk ?_ i
  exact ⟨rfl, by show js[k].ready ≤ js[k].ready + d; omega, MLe.refl _⟩
theorem mle_set {d : Int} (hd : 0 ≤ d) : ∀ (ns : List Int) (q : Nat), 0 < nAt ns q → MLe ns (ns.set q (nAt ns q + d))
 | [], _, _ => trivial
 | n :: ns, 0, h => by
  have h : 0 < n := h
  show (n ≤ n + d ∧ (0 < n ↔ 0 < n + d)) ∧ MLe ns ns
  exact ⟨⟨by omega, by omega⟩, MLe.refl _⟩
 | n :: ns, q + 1, h => by
  rw [nAt_succ] at h ⊢
  exact ⟨⟨Int.le_refl _, Iff.rfl⟩, mle_set hd ns q h⟩
def minsF (js : List FJob) (k q : Nat) (d : Int) : List FJob := js.set k ⟨(jobAt js k).kind, (jobAt js k).ready, (jobAt js k).due, (jobAt js k).mins.set q (nAt (jobAt js k).mins q + d)⟩
theorem minsF_len (js : List FJob) (k q : Nat) (d : Int) : (minsF js k q d).length = js.length := by simp [minsF]
theorem longer_ok {s : FShop} {js : List FJob} {os : List Int} (h : LatOk s js os) {k : Nat} (hk : k < js.length) {q : Nat} (hq : 0 < nAt js[k].mins q) {d : Int} (hd : 0 ≤ d ∧ d ≤ 255) : RunCtx s (minsF js k q d) os ∧ shopE s (minsF js k q d) = 0 ∧ ∀ i, JLe (js.getD i default) ((minsF js k q d).getD i default) := by
 have hj := h.ctx.ok.job _ (List.getElem_mem hk)
 have hr := h.r _ (List.getElem_mem hk)
 have hm := h.m _ (List.getElem_mem hk)
 have hq79 : nAt js[k].mins q ≤ 79 := by
  unfold nAt
  rw [List.getD_eq_getElem?_getD]
  cases e : js[k].mins[q]? with
  | none => simp
  | some n => exact hm n (List.mem_of_getElem? e)
 have hsh : ShopOk s (minsF js k q d) := by
  unfold minsF
  rw [jobAt_get hk]
  refine set_ok h.ctx.ok ⟨hj.1, hj.2.1, hj.2.2.1, by rw [List.length_set]; exact hj.2.2.2.1, fun n hn => ?_⟩
  rcases List.mem_or_eq_of_mem_set hn with hn | rfl
  ·exact hj.2.2.2.2 n hn
  ·omega
 refine ⟨⟨hsh, by rw [minsF_len]; exact h.ctx.ord⟩, shopE_of hsh fun x hx => ?_, fun i => ?_⟩
 ·unfold minsF at hx
  rcases List.mem_or_eq_of_mem_set hx with hx | rfl
  ·have := h.r x hx; omega
  ·rw [jobAt_get hk]; simp only; omega
 ·unfold minsF
  rw [jobAt_get hk]
  refine set_jle hk ?_ i
  exact ⟨rfl, Int.le_refl _, mle_set hd.1 _ _ hq⟩
theorem stop_ok {s : FShop} {js : List FJob} {os : List Int} (h : LatOk s js os) {x : YH} (hx : (0 ≤ x.1 ∧ x.1 < s.mach) ∧ (0 ≤ x.2.1 ∧ x.2.1 ≤ 100000) ∧ (0 ≤ x.2.2 ∧ x.2.2 ≤ 100000) ∧ x.2.1 < x.2.2) : RunCtx (moreS s x) js os ∧ shopE (moreS s x) js = 0 ∧ SLe s (moreS s x) := by
 have hsh : ShopOk (moreS s x) js := by
  have ho := h.ctx.ok
  refine ⟨ho.mach, ho.kinds, ho.chg, ?_, fun y hy => ?_, ho.njob, ho.job⟩
  ·show (s.stops ++ [x]).length ≤ 10
   have := h.st
   simp; omega
  ·rcases List.mem_append.1 hy with hy | hy
   ·exact ho.stop y hy
   ·simp only [List.mem_singleton] at hy; subst hy; exact hx
 exact ⟨⟨hsh, h.ctx.ord⟩, shopE_of hsh fun x hx => by have := h.r x hx; omega, rfl, fun y hy => List.mem_append_left _ hy⟩
theorem due_step (E1 E2 : List Int) (js : List FJob) (k : Nat) : dueL E1 E2 js (k + 1) = if (decide (dueAt js k < endAt E2 k) && !decide (dueAt js k < endAt E1 k)) = true then dueL E1 E2 js k ++ [(k : Int)] else dueL E1 E2 js k := by
 rw [dueL]; split <;> simp
theorem due_pre (E1 E2 : List Int) (js : List FJob) (k : Nat) : ∀ n, k ≤ n → ∃ r, dueL E1 E2 js n = dueL E1 E2 js k ++ r
  | 0, h => ⟨[], by have : k = 0 := by omega
                    subst this; rfl⟩
  | n + 1, h => by
    by_cases e : k = n + 1
    · exact ⟨[], by rw [e, List.append_nil]⟩
    · obtain ⟨r, hr⟩ := due_pre E1 E2 js k n (by omega)
      exact ⟨r ++ if (decide (dueAt js n < endAt E2 n) && !decide (dueAt js n < endAt E1 n)) = true then [(n : Int)] else [], by rw [dueL, hr, List.append_assoc]⟩
theorem due_get {E1 E2 : List Int} {js : List FJob} {k n : Nat} (hk : k < n) (h2 : dueAt js k < endAt E2 k) (h1 : ¬ dueAt js k < endAt E1 k) : (dueL E1 E2 js n)[(dueL E1 E2 js k).length]? = some (k : Int) := by
 obtain ⟨r, hr⟩ := due_pre E1 E2 js (k + 1) n hk
 rw [hr, due_step, if_pos (by simp [h1, h2]), List.append_assoc, List.getElem?_append_right (Nat.le_refl _), Nat.sub_self]; rfl
def lateB (E : List Int) (js : List FJob) (k : Nat) : Bool := !(Xs E js k).isEmpty
theorem lateB_step (E : List Int) (js : List FJob) (k : Nat) : lateB E js (k + 1) = (lateB E js k || decide (dueAt js k < endAt E k)) := by
 unfold lateB
 rw [Xs]
 by_cases h : dueAt js k < endAt E k
 ·rw [if_pos h]; simp [h]
 ·rw [if_neg h]; simp [h]
theorem lateB_iff (E : List Int) (js : List FJob) (k : Nat) : lateB E js k = false ↔ Xs E js k = [] := by
 unfold lateB; simp
theorem delV_ints (B L : List Int) : Yd (delV B L) = some (outB B L) := by
 unfold delV
 cases L with
 | nil => rfl
 | cons x l => exact dI1_self _
end Go.Proofs.YtjjapdagllclkaaGreat.Tab
namespace Go.Abs
open Go
section
variable (P : Program) (G : Nat → Option (List Za))
def SRuns (r : Option Nat) (c : CC) (σ : St) (Q : AEx → St → Prop) : Prop := ∃ e σ', Sound P G r c σ e σ' ∧ Q e σ'
def SAns (f : Nat) (args : List Za) (h : Zf) (Q : Za → Zf → Prop) : Prop := ∃ v h', YD P G f args h v h' ∧ Q v h'
def Ren (base : Nat) (σ σ' : St) : Prop := ∀ (E0 : Env) (h0 : Zf) (w0 : World) (d : List Deferred) (E : Env) (w : World) (a : Act), h0.length = base → E0.HR P G h0 w0 → Run P G E0 h0 w0 d E σ.h w σ.t a → ∃ E2, Run P G E0 h0 w0 d E2 σ'.h w σ'.t a
end
section
variable {P : Program} {G : Nat → Option (List Za)} {T : Nat → Option CFn} {r : Option Nat} {a b c : CC} {σ σ1 σ2 σ3 σ' : St} {Q Q' : AEx → St → Prop} {h : Zf} {e : AEx}
theorem Ren.refl (n : Nat) (σ : St) : Ren P G n σ σ := fun _ _ _ _ E _ _ _ _ hR => ⟨E, hR⟩
theorem Ren.trans {n : Nat} (h1 : Ren P G n σ1 σ2) (h2 : Ren P G n σ2 σ3) : Ren P G n σ1 σ3 := fun E0 h0 w0 d E w a hn hr hR => by
 obtain ⟨E1, hR1⟩ := h1 E0 h0 w0 d E w a hn hr hR
 exact h2 E0 h0 w0 d E1 w a hn hr hR1
theorem SRuns.mono (hr : SRuns P G r c σ Q) (hq : ∀ e σ, Q e σ → Q' e σ) : SRuns P G r c σ Q' := let ⟨e, σ', h1, h2⟩ := hr; ⟨e, σ', h1, hq _ _ h2⟩
theorem YT (hm : P.follows .mixedOrders = true) (hT : Zr P G T) (hr : Runs P T r c σ Q) : SRuns P G r c σ Q :=
 let ⟨n, e, σ', h1, h2⟩ := hr; ⟨e, σ', (exec_sound hm hT n).1 r c σ e σ' h1, h2⟩
theorem sound_after (hs : Sound P G r c σ e σ1) (hn : Ren P G σ.h.length σ1 σ') : Sound P G r c σ e σ' := by
 intro code E w a k hc hr ht hd
 refine wpIn_mono (hs code E w a k hc hr ht hd) ?_
 rintro x a' w' ⟨hx, E', hR⟩
 exact ⟨hx, hn E σ.h w a.defers E' w' a' rfl hr hR⟩
theorem sruns_seq (h : SRuns P G r a σ (zT Q fun σ' => ∃ σ2, Ren P G σ.h.length σ' σ2 ∧ SRuns P G r b σ2 Q)) : SRuns P G r (.seq a b) σ Q := by
 obtain ⟨e1, σ1, h1, h2⟩ := h
 have stop : ∀ e, e1 = e → e ≠ .normal → Q e σ1 → SRuns P G r (.seq a b) σ Q := fun e he hne hq => by
  subst he
  refine ⟨e1, σ1, ?_, hq⟩
  intro code E w act k hc hr ht hd
  obtain ⟨p, q, rfl, hp, _⟩ := co_seq hc
  refine wpIn_seq (wpIn_mono (h1 p E w act k hp hr ht hd) fun xx a' w' hpost => ?_)
  obtain ⟨hx, E', hR⟩ := hpost
  exact then_post ⟨hx, E', hR⟩ (fun h => absurd h hne) fun _ => ⟨rfl, E', hR⟩
 cases e1 with
 | exit id => exact stop _ rfl (by simp) h2
 | ret => exact stop _ rfl (by simp) h2
 | normal =>
  obtain ⟨σ2, hren, e, σ', h3, h4⟩ := h2
  refine ⟨e, σ', ?_, h4⟩
  have h1 := sound_after h1 hren
  intro code E w act k hc hr ht hd
  obtain ⟨p, q, rfl, hp, hq⟩ := co_seq hc
  refine wpIn_seq (wpIn_mono (h1 p E w act k hp hr ht hd) fun xx a' w' hpost => ?_)
  refine then_post hpost (fun _ E' hR => ?_) (fun h => absurd rfl h)
  have hd2 : ∀ i, r = some i → E'.D i := fun i hi => (hR.nx.le.D i (hd i hi)).1
  have := h3 q E' w' a' k hq hR.nx.hr hR.lr hd2
  rw [fw_eq hR.nx.le hd] at this
  exact wpIn_mono this fun x a2 w2 hq => post_trans hR hq
theorem Ya (h : SRuns P G r a σ (zT Q fun σ' => SRuns P G r b σ' Q)) : SRuns P G r (.seq a b) σ Q :=
 sruns_seq (h.mono fun e σ' hq => by cases e with | normal => exact ⟨σ', .refl _ _, hq⟩ | _ => exact hq)
theorem sruns_skip (hq : Q .normal σ) : SRuns P G r .skip σ Q := ⟨.normal, σ, fun code E w a k hc hr ht hd => by
 have := co_skip hc; subst this; exact wpIn_skip (go_skip hr ht), hq⟩
theorem sruns_ret (hq : Q .ret σ) : SRuns P G r .ret σ Q := ⟨.ret, σ, fun code E w a k hc hr ht hd => by
 have := co_ret hc; subst this; exact wpIn_ret ⟨rfl, E, .refl hr ht⟩, hq⟩
theorem sruns_exit {id : Nat} (hq : Q (.exit id) σ) : SRuns P G r (.exit id) σ Q := ⟨.exit id, σ, fun code E w a k hc hr ht hd => by
 have := co_exit hc; subst this; exact wpIn_exit ⟨rfl, E, .refl hr ht⟩, hq⟩
theorem sruns_cond {cv : CV} {x : Bool} (hv : cv.ev σ.t = some (.bool x)) (h : SRuns P G r (if x then a else b) σ Q) : SRuns P G r (.cond cv a b) σ Q := by
 obtain ⟨e, σ', h1, h2⟩ := h
 refine ⟨e, σ', ?_, h2⟩
 intro code E w act k hc hr ht hd
 obtain ⟨o, p, q, rfl, ho, hp, hq⟩ := co_cond hc
 cases x with
 | true => exact wpIn_cond_true (YB hr ht ho hv).bool_inv (h1 p E w act k hp hr ht hd)
 | false => exact wpIn_cond_false (YB hr ht ho hv).bool_inv (h1 q E w act k hq hr ht hd)
theorem sruns_cond_split {cv : CV} {x : Bool} (hc : cv.ev σ.t = some (.bool x)) (ht : x = true → SRuns P G r a σ Q) (hf : x = false → SRuns P G r b σ Q) : SRuns P G r (.cond cv a b) σ Q :=
 sruns_cond hc (by cases x <;> simp_all)
theorem sruns_block {id : Nat} (h : SRuns P G r a σ (zB id Q)) : SRuns P G r (.block id a) σ Q := by
 obtain ⟨e1, σ1, h1, h2⟩ := h
 have key : ∀ e, Q e σ1 → (∀ (R : Exit → Act → World → Prop) a' w', R (exOf e) a' w' → Exit.inBlock id R (exOf e1) a' w') → SRuns P G r (.block id a) σ Q := fun e hq he => by
  refine ⟨e, σ1, ?_, hq⟩
  intro code E w act k hc hr ht hd
  obtain ⟨p, rfl, hp⟩ := co_block hc
  refine wpIn_block (wpIn_mono (h1 p E w act k hp hr ht hd) ?_)
  rintro xx a' w' ⟨rfl, E', hR⟩
  exact he _ a' w' ⟨rfl, E', hR⟩
 cases e1 with
 | normal => exact key .normal h2 fun R a' w' h => h
 | ret => exact key .ret h2 fun R a' w' h => h
 | exit j =>
  simp only [zB] at h2
  by_cases e : j = id
  ·rw [if_pos e] at h2
   exact key .normal h2 fun R a' w' h => by simp only [exOf, Exit.inBlock]; rw [if_pos e]; exact h
  ·rw [if_neg e] at h2
   exact key (.exit j) h2 fun R a' w' h => by simp only [exOf, Exit.inBlock]; rw [if_neg e]; exact h
theorem srounds {base : Nat} (I : Nat → St → Prop) (step : ∀ k σ1, I k σ1 → SRuns P G r c σ1 (zT Q fun σ2 => ∃ k' σ3, k' < k ∧ Ren P G base σ2 σ3 ∧ I k' σ3)) :
  ∀ k σ, I k σ → ∃ n e σ', SoundN P G n r base c σ e σ' ∧ Q e σ' := by
 intro k
 induction k using Nat.strongRecOn with
 | _ k ih =>
  intro σ hI
  obtain ⟨e1, σ1, h1, h2⟩ := step k σ hI
  have stop : ∀ e, e1 = e → e ≠ .normal → Q e σ1 → ∃ n e σ', SoundN P G n r base c σ e σ' ∧ Q e σ' := fun e he hne hq => by
   subst he
   refine ⟨1, e1, σ1, ?_, hq⟩
   intro p E0 h0 w0 d E w act k hp hb hr0 hR hd
   rw [roundsIn_succ]
   have hw := h1 p E w act k hp hR.nx.hr hR.lr fun i hi => (hR.nx.le.D i (hd i hi)).1
   rw [fw_eq hR.nx.le hd] at hw
   refine wpIn_mono hw fun x a' w' hpost => ?_
   obtain ⟨hx, E', hR⟩ := post_trans hR hpost
   exact then_post ⟨hx, E', hR⟩ (fun h => absurd h hne) fun _ => ⟨rfl, E', hR⟩
  cases e1 with
  | exit id => exact stop _ rfl (by simp) h2
  | ret => exact stop _ rfl (by simp) h2
  | normal =>
   obtain ⟨k', σ3, hk, hren, hI'⟩ := h2
   obtain ⟨n, e, σ', h3, h4⟩ := ih k' hk σ3 hI'
   refine ⟨n + 1, e, σ', ?_, h4⟩
   intro p E0 h0 w0 d E w act k hp hb hr0 hR hd
   rw [roundsIn_succ]
   have hw := h1 p E w act k hp hR.nx.hr hR.lr fun i hi => (hR.nx.le.D i (hd i hi)).1
   rw [fw_eq hR.nx.le hd] at hw
   refine wpIn_mono hw fun x a' w' hpost => ?_
   refine then_post (post_trans hR hpost) (fun _ E' hR' => ?_) (fun h => absurd rfl h)
   obtain ⟨E2, hR2⟩ := hren E0 h0 w0 d E' w' a' hb hr0 hR'
   exact h3 p E0 h0 w0 d E2 w' a' k hp hb hr0 hR2 hd
theorem sruns_loop {keep k : Nat} (I : Nat → St → Prop) (h0 : ∃ σ0, Ren P G σ.h.length σ σ0 ∧ I k σ0)
  (step : ∀ k σ1, I k σ1 → SRuns P G r c σ1 (zT Q fun σ2 => ∃ k' σ3, k' < k ∧ Ren P G σ.h.length σ2 σ3 ∧ I k' σ3)) : SRuns P G r (.loop keep c) σ Q := by
 obtain ⟨σ0, hr0, hI⟩ := h0
 obtain ⟨n, e, σ', h1, h2⟩ := srounds I step k σ0 hI
 refine ⟨e, σ', ?_, h2⟩
 intro code E w act k hc hr ht hd
 obtain ⟨p, rfl, hp⟩ := co_loop hc
 obtain ⟨E2, hR2⟩ := hr0 E σ.h w act.defers E w act rfl hr (.refl hr ht)
 exact wpIn_loop_rounds n (h1 p E σ.h w act.defers E2 w act k hp rfl hr hR2 hd)
theorem sans_of (hT : Zr P G T) {f : Nat} {cf : CFn} {args : List Za} {Q : Za → Zf → Prop} (hf : T f = some cf) (ho : orcF cf args h = none)
  (hb : SRuns P G none cf.body ⟨args ++ List.replicate (cf.ntmps - args.length) .und, h⟩ fun e σ => (∀ id, e ≠ .exit id) ∧ ∃ vs, resA σ.t σ.h cf.res = some vs ∧ Q (tupA vs) (trim h.length [tupA vs] σ.h)) (he : cf.eff args h = none := by rfl) : SAns P G f args h Q := by
 classical
 obtain ⟨e, σ1, h1, h2, vs, h3, h4⟩ := hb
 let ex : Option Nat → CC → St → Option (AEx × St) := fun r c σ => if r = none ∧ c = cf.body ∧ σ = ⟨args ++ List.replicate (cf.ntmps - args.length) .und, h⟩ then some (e, σ1) else none
 refine ⟨_, _, call_good (ex := ex) hT (fun r c σ e2 σ2 hx => ?_) f args h (tupA vs) (trim h.length [tupA vs] σ1.h) ?_, h4⟩
 ·simp only [ex] at hx
  split at hx
  ·rename_i hg
   obtain ⟨rfl, rfl, rfl⟩ := hg
   simp at hx
   obtain ⟨rfl, rfl⟩ := hx
   exact h1
  ·simp at hx
 ·unfold Yj
  simp only [hf, ho, he, ZA]
  rw [fL_eq _ (fun _ _ => rfl)]
  have : ex none cf.body ⟨args ++ List.replicate (cf.ntmps - args.length) .und, h⟩ = some (e, σ1) := if_pos ⟨rfl, rfl, rfl⟩
  rw [this]
  cases e with
  | exit id => exact absurd rfl (h2 id)
  | normal => simp only [h3, Xt, YA, trimK_eq]
  | ret => simp only [h3, Xt, YA, trimK_eq]
theorem sans_answers (hm : P.follows .mixedOrders = true) (hT : Zr P G T) {f : Nat} {args : List Za} {Q : Za → Zf → Prop} (ha : ZH P T f args h Q) : SAns P G f args h Q := by
 obtain ⟨v, h', hq, hg⟩ := answers_good hm hT ha
 exact ⟨v, h', hg, hq⟩
end
end Go.Abs
namespace Go.Abs
open Go
noncomputable section
def renV1 (K : List Nat) (H : Zf) (ih : Za → Option Za) (v : Za) : Option Za :=
 match v with
 | .agg xs => match Zd ih xs with
  | some ys => some (.agg ys)
  | none => none
 | .tup xs => match Zd ih xs with
  | some ys => some (.tup ys)
  | none => none
 | .ref i k o => match posOf K i 0 with
  | some p => some (.ref p k o)
  | none => frz false (Yw K H) 5 (.ref i k o)
 | .sl i k n t => match posOf K i 0 with
  | some p => some (.sl p k n t)
  | none => frz false (Yw K H) 5 (.sl i k n t)
 | .mp i => match posOf K i 0 with
  | some p => some (.mp p)
  | none => none
 | .yld i => match posOf K i 0 with
  | some p => some (.yld p)
  | none => none
 | .fn f a b => match Zd ih a, Zd ih b with
  | some a, some b => some (.fn f a b)
  | _, _ => none
 | v => some v
def XA (K : List Nat) (H : Zf) : Nat → Za → Option Za
 | 0 => fun _ => none
 | d + 1 => renV1 K H (XA K H d)
def renE (K : List Nat) (H : Zf) : Za × Za × Nat → Option (Za × Za × Nat)
 | (k, v, b) => match XA K H 5 k, XA K H 5 v with
  | some k, some v => some (k, v, b)
  | _, _ => none
def XB (K : List Nat) (H : Zf) (i : Nat) : Option (Option Blk) :=
 match nth H i with
 | some (some (.row e rs)) => match Zd (Zd (XA K H 5)) rs with
  | some rs => some (some (.row e rs))
  | none => none
 | some (some (.map es c)) => match Zd (renE K H) es with
  | some es => some (some (.map es c))
  | none => none
 | some (some (.loop t ps asg bd st pd)) => match Zd (XA K H 5) t with
  | some t => some (some (.loop t ps asg bd st pd))
  | none => none
 | _ => some none
section
variable {P : Program} {G : Nat → Option (List Za)} {E E2 : Env} {h h' : Zf} {w : World} {K : List Nat} {σ : St} {t t' : List Za}
theorem renV_ok (hr : E.HR P G h w) (hρ : ∀ p i, K[p]? = some i → E2.ρ p = E.ρ i) (hD : ∀ p i, K[p]? = some i → E.D i → E2.D p) (hI : ∀ b, E.I b → E2.I b) (hN : ∀ i b, i ∉ K → h[i]? = some (some b) → E2.I (E.ρ i).b) :
  ∀ (d : Nat) {v v' : Za} {u : Value}, E.VR w v u → XA K h d v = some v' → E2.VR w v' u := by
 intro d
 have fz : ∀ {v v' : Za} {u : Value}, E.VR w v u → frz false (Yw K h) 5 v = some v' → E2.VR w v' u := fun hv hf =>
  VR.mono (frz_ok (hideK_hr hr K) (I' := E2.I) (ρ' := E2.ρ) (fun i b hi => hN i b (hideK_get hi).1 (hideK_get hi).2) (fun _ b hb => hI b hb) 5 hv hf) _ (fun i hi => hi.elim) fun b hb => ⟨hb, rfl⟩
 have at' : ∀ {i p}, posOf K i 0 = some p → K[p]? = some i := fun hp => by have := (posOf_some hp).2; simpa using this
 induction d with
 | zero => intro v v' u _ hf; simp [XA] at hf
 | succ d ih =>
  intro v v' u hv hf
  replace hf : renV1 K h (XA K h d) v = some v' := hf
  cases hv with
  | any => simp [renV1] at hf; subst hf; exact .any _ _
  | und => simp [renV1] at hf; subst hf; exact .und _
  | bool => simp [renV1] at hf; subst hf; exact .bool _ _
  | int => simp [renV1] at hf; subst hf; exact .int _ _ _
  | nilp => simp [renV1] at hf; subst hf; exact .nilp _
  | nils => simp [renV1] at hf; subst hf; exact .nils _
  | nilm => simp [renV1] at hf; subst hf; exact .nilm _
  | nilf => simp [renV1] at hf; subst hf; exact .nilf _
  | mp _ i hi =>
   simp only [renV1] at hf
   split at hf <;> simp at hf
   rename_i p hp
   subst hf
   rw [← hρ p i (at' hp)]
   exact .mp _ p (hD p i (at' hp) hi)
  | yld _ i hi =>
   simp only [renV1] at hf
   split at hf <;> simp at hf
   rename_i p hp
   subst hf
   rw [← hρ p i (at' hp)]
   exact .yld _ p (hD p i (at' hp) hi)
  | ref _ i k o hi =>
   simp only [renV1] at hf
   split at hf
   ·rename_i p hp
    simp at hf; subst hf
    rw [← hρ p i (at' hp)]
    exact .ref _ p k o (hD p i (at' hp) hi)
   ·exact fz (.ref _ i k o hi) hf
  | sl _ i k m t a cap hi hm ht ha hs =>
   simp only [renV1] at hf
   split at hf
   ·rename_i p hp
    simp at hf; subst hf
    rw [← hρ p i (at' hp)] at ha hs
    exact .sl _ p k m t a cap (hD p i (at' hp) hi) hm ht ha hs
   ·exact fz (.sl _ i k m t a cap hi hm ht ha hs) hf
  | pv _ r o b off cv hb hc hx =>
   simp [renV1] at hf; subst hf
   exact .pv _ r o b off cv (hI b hb) hc fun j hj => VR.mono (hx j hj) _ (fun i hi => hi.elim) fun b hb => ⟨hI b hb, rfl⟩
  | vl _ rs t a cap b off e cv hm ht ha hb he hc hx =>
   simp [renV1] at hf; subst hf
   exact .vl _ rs t a cap b off e cv hm ht ha (fun h => hI b (hb h)) he hc fun k hk j hj => VR.mono (hx k hk j hj) _ (fun i hi => hi.elim) fun b hb => ⟨hI b hb, rfl⟩
  | agg _ xs cs hl hx =>
   simp only [renV1] at hf
   split at hf <;> simp at hf
   rename_i ys hy
   subst hf
   obtain ⟨g1, g2⟩ := Zx hy
   exact .agg _ _ cs (by omega) fun j h1 h2 => ih (hx j (by omega) h2) (g2 j (by omega) h1)
  | tup _ xs cs hl hx =>
   simp only [renV1] at hf
   split at hf <;> simp at hf
   rename_i ys hy
   subst hf
   obtain ⟨g1, g2⟩ := Zx hy
   exact .tup _ _ cs (by omega) fun j h1 h2 => ih (hx j (by omega) h2) (g2 j (by omega) h1)
  | fn _ f a b ca cb hla hlb ha hb =>
   simp only [renV1] at hf
   split at hf <;> simp at hf
   rename_i a' b' h1 h2
   subst hf
   obtain ⟨g1, g2⟩ := Zx h1
   obtain ⟨g3, g4⟩ := Zx h2
   exact .fn _ f _ _ ca cb (by omega) (by omega) (fun j j1 j2 => ih (ha j (by omega) j2) (g2 j (by omega) j1)) (fun j j1 j2 => ih (hb j (by omega) j2) (g4 j (by omega) j1))
theorem renL_ok {d : Nat} (hv : ∀ {v v' : Za} {u : Value}, E.VR w v u → XA K h d v = some v' → E2.VR w v' u) {cs : Array Value} (hl : E.LR w t cs) (hf : Zd (XA K h d) t = some t') : E2.LR w t' cs := by
 obtain ⟨g1, g2⟩ := Zx hf
 exact ⟨by rw [← g1]; exact hl.1, fun j h1 h2 => hv (hl.2 j (by omega) h2) (g2 j (by omega) h1)⟩
theorem keep_nx {base : Nat} {h : Zf} {E0 : Env} {h0 : Zf} {w0 : World} (K : List Nat) (hK : K.Nodup) (hb : base ≤ K.length) (hpre : K.take base = List.range base) (hh : Zd (XB K h) K = some h') (hn : h0.length = base) (hr0 : E0.HR P G h0 w0) (hx : Nx P G E0 h0 w0 E h w) :
  ∃ E2, Nx P G E0 h0 w0 E2 h' w ∧ (∀ (d : Nat) {v v' : Za} {u : Value}, E.VR w v u → XA K h d v = some v' → E2.VR w v' u) ∧ (∀ b, E2.O b → E.O b) ∧ (∀ b, E2.I b → E.I b ∨ E.O b) := by
 have hr := hx.hr
 obtain ⟨k1, k2⟩ := Zx hh
 have hpre' : ∀ p, p < base → K[p]? = some p := fun p hp => by
  have : (K.take base)[p]? = some p := by rw [hpre]; exact List.getElem?_range hp
  rwa [List.getElem?_take_of_lt hp] at this
 let E2 : Env := ⟨fun p => E.ρ (K.getD p 0), fun p => ∃ i, K[p]? = some i ∧ E.D i, fun b => E.O b ∧ ¬ ∃ i c, i ∉ K ∧ h[i]? = some (some c) ∧ (E.ρ i).b = b, fun b => E.I b ∨ ∃ i c, i ∉ K ∧ h[i]? = some (some c) ∧ (E.ρ i).b = b⟩
 have hρ : ∀ p i, K[p]? = some i → E2.ρ p = E.ρ i := fun p i hp => by show E.ρ (K.getD p 0) = _; rw [List.getD_eq_getElem?_getD, hp]; rfl
 have hvr : ∀ (d : Nat) {v v' : Za} {u : Value}, E.VR w v u → XA K h d v = some v' → E2.VR w v' u := fun d _ _ _ => renV_ok hr hρ (fun p i hp hi => ⟨i, hp, hi⟩) (fun b hb => .inl hb) (fun i b hi hb => .inr ⟨i, b, hi, hb, rfl⟩) d
 have hO : ∀ b, E2.O b → E.O b := fun b hb => hb.1
 have hI : ∀ b, E2.I b → E.I b ∨ E.O b := fun b hb => hb.imp id fun ⟨i, c, _, h2, h3⟩ => h3 ▸ (hr.blk i c h2).2.1
 have hle0 := hx.le
 have hlt0 : ∀ i, E0.D i → i < base := fun i hi => hn ▸ hr0.lt i hi
 have get : ∀ p b, h'[p]? = some (some b) → ∃ i, K[p]? = some i ∧ XB K h i = some (some b) := fun p b hp => by
  obtain ⟨hp1, hp2⟩ := List.getElem?_eq_some_iff.1 hp
  refine ⟨K[p]'(by omega), List.getElem?_eq_getElem _, ?_⟩
  rw [← hp2]; exact k2 p (by omega) hp1
 have old : ∀ i b, XB K h i = some (some b) → ∃ c, h[i]? = some (some c) := fun i b hb => by
  unfold XB at hb
  rw [Zw] at hb
  split at hb
  ·rename_i hx; exact ⟨_, hx⟩
  ·rename_i hx; exact ⟨_, hx⟩
  ·rename_i hx; exact ⟨_, hx⟩
  ·simp at hb
 refine ⟨E2, ⟨⟨hle0.os, hle0.tape, hle0.output, hle0.size, fun i hi => ?_, fun b hb => .inl (hle0.I b hb), fun b hb ho => ?_⟩, ⟨fun p b hp => ?_, fun p q b c hp hq he => ?_, fun p hp => ?_, fun b hb => hr.own b hb.1, fun b hb => ?_, fun g r hg => ?_⟩, fun j hj => ?_, ?_⟩, hvr, hO, hI⟩
 ·obtain ⟨g1, g2⟩ := hle0.D i hi
  have hp := hpre' i (hlt0 i hi)
  exact ⟨⟨i, hp, g1⟩, (hρ i i hp).trans g2⟩
 ·obtain ⟨g1, g2, g3⟩ := hle0.old b hb ho
  exact ⟨g1, fun h => g2 h.1, fun h => (hI b h).elim g3 fun h => absurd h g2⟩
 ·obtain ⟨i, hi, hrb⟩ := get p b hp
  obtain ⟨c, hc⟩ := old i b hrb
  obtain ⟨b1, b2, b3, b4⟩ := hr.blk i c hc
  have e := hρ p i hi
  have hiK : i ∈ K := List.mem_of_getElem? hi
  refine ⟨⟨i, hi, b1⟩, ⟨by rw [e]; exact b2, fun ⟨j, c2, hj1, hj2, hj3⟩ => ?_⟩, by rw [e]; exact b3, ?_⟩
  ·rw [e] at hj3
   exact hj1 (hr.inj j i c2 c hj2 hc hj3 ▸ hiK)
  ·unfold XB at hrb
   rw [Zw, hc] at hrb
   cases c with
   | row e1 rs =>
    simp only at hrb
    split at hrb <;> simp at hrb
    rename_i rs2 hrs
    subst hrb
    obtain ⟨q1, q2⟩ := Zx hrs
    obtain ⟨c1, c2, c3, cc, el, c4, c5, c6⟩ := b4
    refine ⟨by rw [e]; exact c1, fun r hr => ?_, by rw [e, ← q1]; exact c3, cc, el, by rw [e]; exact c4, by rw [e]; exact c5, fun k r hk j x hj => ?_⟩
    ·obtain ⟨q, hq, rfl⟩ := List.mem_iff_getElem.1 hr
     rw [← (Zx (q2 q (by omega) hq)).1]
     exact c2 _ (List.getElem_mem _)
    ·obtain ⟨hk1, rfl⟩ := List.getElem?_eq_some_iff.1 hk
     obtain ⟨hj1, rfl⟩ := List.getElem?_eq_some_iff.1 hj
     obtain ⟨m1, m2⟩ := Zx (q2 k (by omega) hk1)
     obtain ⟨v, n1, n2⟩ := c6 k _ (List.getElem?_eq_getElem (by omega)) j _ (List.getElem?_eq_getElem (by omega))
     exact ⟨v, by rw [e]; exact n1, hvr 5 n2 (m2 j (by omega) hj1)⟩
   | map es cl =>
    simp only at hrb
    split at hrb <;> simp at hrb
    rename_i es2 hes
    subst hrb
    obtain ⟨q1, q2⟩ := Zx hes
    obtain ⟨ces, c1, c2, c3⟩ := b4
    refine ⟨ces, by rw [e]; exact c1, by rw [← q1]; exact c2, fun j k v bb hj => ?_⟩
    obtain ⟨hj1, hj2⟩ := List.getElem?_eq_some_iff.1 hj
    have := q2 j (by omega) hj1
    rw [hj2] at this
    generalize hent : es[j]'(by omega) = ent at this
    obtain ⟨k0, v0, b0⟩ := ent
    simp only [renE] at this
    split at this <;> simp at this
    rename_i k3 v3 hk3 hv3
    obtain ⟨rfl, rfl, rfl⟩ := this
    obtain ⟨ce, n1, n2, n3, n4⟩ := c3 j k0 v0 b0 (by rw [List.getElem?_eq_getElem (by omega), hent])
    exact ⟨ce, n1, hvr 5 n2 hk3, hvr 5 n3 hv3, n4⟩
   | loop tt ps asg bd st pd =>
    simp only at hrb
    split at hrb <;> simp at hrb
    rename_i t2 ht2
    subst hrb
    obtain ⟨L, c1, c2, c3⟩ := b4
    exact ⟨L, by rw [e]; exact c1, renL_ok (hvr 5) c2 ht2, c3⟩
 ·obtain ⟨i, hi, hrb⟩ := get p b hp
  obtain ⟨j, hj, hrc⟩ := get q c hq
  obtain ⟨b', hb'⟩ := old i b hrb
  obtain ⟨c', hc'⟩ := old j c hrc
  rw [hρ p i hi, hρ q j hj] at he
  have := hr.inj i j b' c' hb' hc' he
  subst this
  obtain ⟨g1, g2⟩ := List.getElem?_eq_some_iff.1 hi
  obtain ⟨g3, g4⟩ := List.getElem?_eq_some_iff.1 hj
  exact (List.getElem_inj hK).1 (g2.trans g4.symm)
 ·obtain ⟨i, hi, _⟩ := hp
  have := (List.getElem?_eq_some_iff.1 hi).1
  omega
 ·refine ⟨(hI b hb).elim (fun h => (hr.imm b h).1) (fun h => hr.own b h), fun ho => ?_⟩
  exact hb.elim (fun h => (hr.imm b h).2 ho.1) fun h => ho.2 h
 ·have := hr.glob g r hg
  generalize hp : Value.pointer (some ⟨g, 0, none⟩) = pv at this ⊢
  cases this with
  | pv _ _ _ b off cv hb hc h => exact .pv _ _ _ b off cv (.inl hb) hc fun j hj => VR.mono (h j hj) _ (fun i hi => hi.elim) fun b hb => ⟨.inl hb, rfl⟩
 ·obtain ⟨i, hi, hd⟩ := hj
  rcases Nat.lt_or_ge j base with hl | hl
  ·rw [hpre' j hl] at hi
   simp at hi; subst hi
   exact hx.fr j hd
  ·exact .inr (by rw [hn]; exact hl)
 ·omega
theorem ren_keep {base : Nat} {h : Zf} (K : List Nat) (hK : K.Nodup) (hb : base ≤ K.length) (hpre : K.take base = List.range base) (ht : Zd (XA K h 5) t = some t') (hh : Zd (XB K h) K = some h') : Ren P G base ⟨t, h⟩ ⟨t', h'⟩ := by
 intro E0 h0 w0 d E w a hn hr0 hR
 obtain ⟨E2, hx, hvr, hO, hI⟩ := keep_nx K hK hb hpre hh hn hr0 hR.nx
 refine ⟨E2, hx, renL_ok (hvr 5) hR.lr ht, ?_⟩
 obtain ⟨bs, g1, g2, g3⟩ := hR.mks
 exact ⟨bs, g1, g2, fun b hb => by
  obtain ⟨a1, a2, a3, a4, a5⟩ := g3 b hb
  exact ⟨a1, a2, a3, fun h => a4 (hO b h), fun h => (hI b h).elim a5 a4⟩⟩
theorem ren_kill {base : Nat} (keep : Nat) : Ren P G base ⟨t, h⟩ ⟨kill t keep, h⟩ := fun _ _ _ _ E _ _ _ _ hR => ⟨E, hR.nx, kill_lr t keep _ hR.lr, hR.mks⟩
theorem ren_kk {base : Nat} (keep : Nat) (K : List Nat) (hK : K.Nodup) (hb : base ≤ K.length) (hpre : K.take base = List.range base) (ht : Zd (XA K h 5) (kill t keep) = some t') (hh : Zd (XB K h) K = some h') : Ren P G base ⟨t, h⟩ ⟨t', h'⟩ :=
 (ren_kill keep).trans (ren_keep K hK hb hpre ht hh)
theorem Xg (K : List Nat) (H : Zf) : ∀ (d : Nat) (v : Za), rb 0 d v = true → XA K H d v = some v := by
 intro d
 induction d with
 | zero => intro v h; simp [rb] at h
 | succ d ih =>
  intro v h
  replace h : rb1 0 (rb 0 d) v = true := h
  show renV1 K H (XA K H d) v = some v
  cases v <;> simp only [rb1, renV1, Bool.and_eq_true] at h ⊢ <;> (try rfl)
  case agg xs => rw [Zz xs fun x hx => ih x (List.all_eq_true.1 h x hx)]
  case tup xs => rw [Zz xs fun x hx => ih x (List.all_eq_true.1 h x hx)]
  case ref i k o => simp at h
  case sl i k n t => simp at h
  case mp i => simp at h
  case yld i => simp at h
  case fn f a b =>
   rw [Zz a fun x hx => ih x (List.all_eq_true.1 h.1 x hx), Zz b fun x hx => ih x (List.all_eq_true.1 h.2 x hx)]
theorem renV_any (K : List Nat) (H : Zf) (d : Nat) : XA K H (d + 1) .any = some .any := rfl
theorem renV_und (K : List Nat) (H : Zf) (d : Nat) : XA K H (d + 1) .und = some .und := rfl
theorem renV_int (K : List Nat) (H : Zf) (d : Nat) (k : IntKind) (n : Int) : XA K H (d + 1) (.int k n) = some (.int k n) := rfl
theorem renV_bool (K : List Nat) (H : Zf) (d : Nat) (b : Bool) : XA K H (d + 1) (.bool b) = some (.bool b) := rfl
theorem renV_nils (K : List Nat) (H : Zf) (d : Nat) : XA K H (d + 1) .nils = some .nils := rfl
theorem renV_nilp (K : List Nat) (H : Zf) (d : Nat) : XA K H (d + 1) .nilp = some .nilp := rfl
theorem renV_nilf (K : List Nat) (H : Zf) (d : Nat) : XA K H (d + 1) .nilf = some .nilf := rfl
theorem renV_vl (K : List Nat) (H : Zf) (d : Nat) (rs : List (List Za)) (t : Bool) : XA K H (d + 1) (.vl rs t) = some (.vl rs t) := rfl
theorem renV_pv (K : List Nat) (H : Zf) (d : Nat) (r : List Za) (o : Nat) : XA K H (d + 1) (.pv r o) = some (.pv r o) := rfl
theorem renV_ref (K : List Nat) (H : Zf) (d i k o : Nat) : XA K H (d + 1) (.ref i k o) = match posOf K i 0 with
  | some p => some (.ref p k o)
  | none => frz false (Yw K H) 5 (.ref i k o) := rfl
theorem renV_sl (K : List Nat) (H : Zf) (d i k n : Nat) (t : Bool) : XA K H (d + 1) (.sl i k n t) = match posOf K i 0 with
  | some p => some (.sl p k n t)
  | none => frz false (Yw K H) 5 (.sl i k n t) := rfl
theorem renV_mp (K : List Nat) (H : Zf) (d i : Nat) : XA K H (d + 1) (.mp i) = match posOf K i 0 with
  | some p => some (.mp p)
  | none => none := rfl
theorem renV_yld (K : List Nat) (H : Zf) (d i : Nat) : XA K H (d + 1) (.yld i) = match posOf K i 0 with
  | some p => some (.yld p)
  | none => none := rfl
theorem renV_agg (K : List Nat) (H : Zf) (d : Nat) (xs : List Za) : XA K H (d + 1) (.agg xs) = match Zd (XA K H d) xs with
  | some ys => some (.agg ys)
  | none => none := rfl
theorem renV_tup (K : List Nat) (H : Zf) (d : Nat) (xs : List Za) : XA K H (d + 1) (.tup xs) = match Zd (XA K H d) xs with
  | some ys => some (.tup ys)
  | none => none := rfl
theorem renV_fn (K : List Nat) (H : Zf) (d f : Nat) (a b : List Za) : XA K H (d + 1) (.fn f a b) = match Zd (XA K H d) a, Zd (XA K H d) b with
  | some a, some b => some (.fn f a b)
  | _, _ => none := rfl
theorem zr : (∀ (K : List Nat) (H : Zf) (d : Nat), XA K H (d + 1) .any = some .any) ∧ (∀ (K : List Nat) (H : Zf) (d : Nat), XA K H (d + 1) .und = some .und) ∧ (∀ (K : List Nat) (H : Zf) (d : Nat) (k : IntKind) (n : Int), XA K H (d + 1) (.int k n) = some (.int k n)) ∧ (∀ (K : List Nat) (H : Zf) (d : Nat) (b : Bool), XA K H (d + 1) (.bool b) = some (.bool b)) ∧ (∀ (K : List Nat) (H : Zf) (d : Nat), XA K H (d + 1) .nils = some .nils) ∧ (∀ (K : List Nat) (H : Zf) (d : Nat), XA K H (d + 1) .nilp = some .nilp) ∧ (∀ (K : List Nat) (H : Zf) (d : Nat), XA K H (d + 1) .nilf = some .nilf) ∧ (∀ (K : List Nat) (H : Zf) (d : Nat) (rs : List (List Za)) (t : Bool), XA K H (d + 1) (.vl rs t) = some (.vl rs t)) ∧ (∀ (K : List Nat) (H : Zf) (d : Nat) (r : List Za) (o : Nat), XA K H (d + 1) (.pv r o) = some (.pv r o)) ∧ (∀ (K : List Nat) (H : Zf) (d i k o : Nat), XA K H (d + 1) (.ref i k o) = match posOf K i 0 with
    | some p => some (.ref p k o)
    | none => frz false (Yw K H) 5 (.ref i k o)) ∧ (∀ (K : List Nat) (H : Zf) (d i k n : Nat) (t : Bool), XA K H (d + 1) (.sl i k n t) = match posOf K i 0 with
    | some p => some (.sl p k n t)
    | none => frz false (Yw K H) 5 (.sl i k n t)) ∧ (∀ (K : List Nat) (H : Zf) (d i : Nat), XA K H (d + 1) (.mp i) = match posOf K i 0 with
    | some p => some (.mp p)
    | none => none) ∧ (∀ (K : List Nat) (H : Zf) (d i : Nat), XA K H (d + 1) (.yld i) = match posOf K i 0 with
    | some p => some (.yld p)
    | none => none) ∧ (∀ (K : List Nat) (H : Zf) (d : Nat) (xs : List Za), XA K H (d + 1) (.agg xs) = match Zd (XA K H d) xs with
    | some ys => some (.agg ys)
    | none => none) ∧ (∀ (K : List Nat) (H : Zf) (d : Nat) (xs : List Za), XA K H (d + 1) (.tup xs) = match Zd (XA K H d) xs with
    | some ys => some (.tup ys)
    | none => none) ∧ (∀ (K : List Nat) (H : Zf) (d f : Nat) (a b : List Za), XA K H (d + 1) (.fn f a b) = match Zd (XA K H d) a, Zd (XA K H d) b with
    | some a, some b => some (.fn f a b)
    | _, _ => none) := ⟨renV_any, renV_und, renV_int, renV_bool, renV_nils, renV_nilp, renV_nilf, renV_vl, renV_pv, renV_ref, renV_sl, renV_mp, renV_yld, renV_agg, renV_tup, renV_fn⟩
end
end
end Go.Abs
namespace Go.Abs
open Go
noncomputable section
def shV (n : Nat) : Nat → Za → Za
 | 0, v => v
 | d + 1, v => match v with
  | .agg xs => .agg (xs.map (shV n d))
  | .tup xs => .tup (xs.map (shV n d))
  | .ref i k o => .ref (n + i) k o
  | .sl i k m t => .sl (n + i) k m t
  | .mp i => .mp (n + i)
  | .fn f a b => .fn f (a.map (shV n d)) (b.map (shV n d))
  | v => v
def okS : Nat → Za → Bool
 | 0, _ => false
 | d + 1, v => match v with
  | .agg xs => xs.all (okS d)
  | .tup xs => xs.all (okS d)
  | .fn _ a b => a.all (okS d) && b.all (okS d)
  | .yld _ => false
  | _ => true
def shB (n : Nat) : Option Blk → Option Blk
 | some (.row e rs) => some (.row e (rs.map (List.map (shV n 3))))
 | some (.map es c) => some (.map (es.map fun x => (shV n 3 x.1, shV n 3 x.2.1, x.2.2)) c)
 | b => b
def okSB : Option Blk → Bool
 | some (.row _ rs) => rs.all (·.all (okS 3))
 | some (.map es _) => es.all fun x => okS 3 x.1 && okS 3 x.2.1
 | some (.loop ..) => false
 | none => true
def freshN (sp : List Za → Option (Za × Zf)) (args : List Za) (h : Zf) : Option (Za × List (Nat × Option Blk)) :=
 if args.all (rb 0 5) = true then match sp args with
  | some (v, hs) => if okS 3 v = true ∧ hs.all okSB = true then some (shV h.length 3 v, (List.range' h.length hs.length).zip (hs.map (shB h.length))) else none
  | none => none
 else none
section
variable {P : Program} {G : Nat → Option (List Za)} {T : Nat → Option CFn} {E E1 E2 : Env} {h h1 hs : Zf} {w w' : World} {K : List Nat}
theorem shV_ok {n : Nat} (hρ : ∀ i, E1.D i → E2.ρ (n + i) = E1.ρ i) (hD : ∀ i, E1.D i → E2.D (n + i)) (hI : ∀ b, E1.I b → E2.I b) :
  ∀ (d : Nat) {v : Za} {u : Value}, E1.VR w v u → okS d v = true → E2.VR w (shV n d v) u := by
 intro d
 induction d with
 | zero => intro v u _ h; simp [okS] at h
 | succ d ih =>
  intro v u hv h
  cases hv with
  | any => exact .any _ _
  | und => exact .und _
  | bool => exact .bool _ _
  | int => exact .int _ _ _
  | nilp => exact .nilp _
  | nils => exact .nils _
  | nilm => exact .nilm _
  | nilf => exact .nilf _
  | mp _ i hi => simp only [shV]; rw [← hρ i hi]; exact .mp _ _ (hD i hi)
  | yld _ i hi => simp [okS] at h
  | ref _ i k o hi => simp only [shV]; rw [← hρ i hi]; exact .ref _ _ k o (hD i hi)
  | sl _ i k m t a cap hi hm ht ha hs => simp only [shV]; rw [← hρ i hi] at ha hs; exact .sl _ _ k m t a cap (hD i hi) hm ht ha hs
  | pv _ r o b off cv hb hc hx => exact .pv _ r o b off cv (hI b hb) hc fun j hj => VR.mono (hx j hj) _ (fun i hi => hi.elim) fun b hb => ⟨hI b hb, rfl⟩
  | vl _ rs t a cap b off e cv hm ht ha hb he hc hx => exact .vl _ rs t a cap b off e cv hm ht ha (fun h => hI b (hb h)) he hc fun k hk j hj => VR.mono (hx k hk j hj) _ (fun i hi => hi.elim) fun b hb => ⟨hI b hb, rfl⟩
  | agg _ xs cs hl hx =>
   simp only [okS, List.all_eq_true] at h
   simp only [shV]
   exact .agg _ _ cs (by simpa using hl) fun j h1 h2 => by rw [List.getElem_map]; exact ih (hx j (by simpa using h1) h2) (h _ (List.getElem_mem _))
  | tup _ xs cs hl hx =>
   simp only [okS, List.all_eq_true] at h
   simp only [shV]
   exact .tup _ _ cs (by simpa using hl) fun j h1 h2 => by rw [List.getElem_map]; exact ih (hx j (by simpa using h1) h2) (h _ (List.getElem_mem _))
  | fn _ f a b ca cb hla hlb ha hb =>
   simp only [okS, Bool.and_eq_true, List.all_eq_true] at h
   simp only [shV]
   exact .fn _ f _ _ ca cb (by simpa using hla) (by simpa using hlb) (fun j h1 h2 => by rw [List.getElem_map]; exact ih (ha j (by simpa using h1) h2) (h.1 _ (List.getElem_mem _))) (fun j h1 h2 => by rw [List.getElem_map]; exact ih (hb j (by simpa using h1) h2) (h.2 _ (List.getElem_mem _)))
theorem good_shift {f : Nat} {args : List Za} {v : Za} (hc : YD P G f args [] v hs) (ha : args.all (rb 0 5) = true) (hv : okS 3 v = true) (hh : hs.all okSB = true) : YD P G f args h (shV h.length 3 v) (h ++ hs.map (shB h.length)) := by
 intro E w cargs k hr hl
 have hl0 : Env.LR ⟨E.ρ, fun _ => False, fun _ => False, E.I⟩ w args cargs := ⟨hl.1, fun j h1 h2 => by
  have := VR.trim 5 (hl.2 j h1 h2) (List.all_eq_true.1 ha _ (List.getElem_mem h1))
  exact VR.mono this _ (fun i hi => absurd hi.2 (by omega)) fun b hb => ⟨hb, rfl⟩⟩
 have hr0 : Env.HR P G ⟨E.ρ, fun _ => False, fun _ => False, E.I⟩ [] w :=
  ⟨fun i b hi => by simp at hi, fun i j b c hi => by simp at hi, fun i hi => hi.elim, fun b hb => hb.elim, fun b hb => ⟨(hr.imm b hb).1, fun h => h⟩, fun g r hg => by
   have := hr.glob g r hg
   generalize hp : Value.pointer (some ⟨g, 0, none⟩) = pv at this ⊢
   cases this with
   | pv _ _ _ b off cv hb hc h => exact .pv _ _ _ b off cv hb hc fun j hj => VR.mono (h j hj) _ (fun i hi => hi.elim) fun b hb => ⟨hb, rfl⟩⟩
 refine CallsIn.mono (hc _ w cargs k hr0 hl0) ?_
 rintro e w' ⟨u, E1, rfl, hle, hr1, hu, _, _⟩
 have hO1 : ∀ b, E1.O b → w.heap.size ≤ b := fun b hb => Nat.le_of_not_lt fun h => (hle.old b h fun h => h).2.1 hb
 have hIo : ∀ b, E1.I b → b < w.heap.size → E.I b := fun b hb hs => (hle.old b hs fun h => h).2.2 hb
 let E2 : Env := ⟨fun i => if i < h.length then E.ρ i else E1.ρ (i - h.length), fun i => E.D i ∨ (h.length ≤ i ∧ E1.D (i - h.length)), fun b => E.O b ∨ E1.O b, fun b => E.I b ∨ E1.I b⟩
 have hρo : ∀ i, i < h.length → E2.ρ i = E.ρ i := fun i hi => if_pos hi
 have hρn : ∀ p, E2.ρ (h.length + p) = E1.ρ p := fun p => by
  show (if h.length + p < h.length then _ else _) = _
  rw [if_neg (by omega), Nat.add_sub_cancel_left]
 have hle2 : Le E w E2 w' := ⟨hle.os, hle.tape, hle.output, hle.size, fun i hi => ⟨.inl hi, hρo i (hr.lt i hi)⟩, fun b hb => .inl hb, fun b hb ho =>
  ⟨(hle.old b hb fun h => h).1, fun h => h.elim ho fun h => by have := hO1 b h; omega, fun h => h.elim id fun h => hIo b h hb⟩⟩
 have hsv : ∀ (d : Nat) {v : Za} {u : Value}, E1.VR w' v u → okS d v = true → E2.VR w' (shV h.length d v) u := fun d _ _ => shV_ok (fun i _ => hρn i) (fun i hi => .inr ⟨by omega, by rwa [Nat.add_sub_cancel_left]⟩) (fun b hb => .inr hb) d
 have get : ∀ i b, h.length ≤ i → (h ++ hs.map (shB h.length))[i]? = some (some b) → ∃ c, hs[i - h.length]? = some (some c) ∧ shB h.length (some c) = some b ∧ okSB (some c) = true := fun i b hi hb => by
  rw [List.getElem?_append_right hi, List.getElem?_map] at hb
  obtain ⟨c, h1, h2⟩ := Option.map_eq_some_iff.1 hb
  cases c with
  | none => simp [shB] at h2
  | some c => exact ⟨c, h1, h2, List.all_eq_true.1 hh _ (List.mem_of_getElem? h1)⟩
 have hρi : ∀ i, h.length ≤ i → E2.ρ i = E1.ρ (i - h.length) := fun i hi => if_neg (by omega)
 have side : ∀ i b, (h ++ hs.map (shB h.length))[i]? = some (some b) → (i < h.length ∧ h[i]? = some (some b)) ∨ (h.length ≤ i ∧ ∃ c, hs[i - h.length]? = some (some c) ∧ shB h.length (some c) = some b ∧ okSB (some c) = true) := fun i b hi => by
  rcases Nat.lt_or_ge i h.length with hl | hl
  ·rw [List.getElem?_append_left hl] at hi; exact .inl ⟨hl, hi⟩
  ·exact .inr ⟨hl, get i b hl hi⟩
 refine ⟨u, E2, rfl, hle2, ⟨fun i b hi => ?_, fun i j b c hi hj he => ?_, fun i hi => ?_, fun b hb => ?_, fun b hb => ?_, fun g r hg => hle2.vr hr (hr.glob g r hg)⟩, hsv 3 hu hv, fun j hj => hj.imp id fun h => h.1, by rw [List.length_append]; omega⟩
 ·rcases side i b hi with ⟨hl, hi⟩ | ⟨hl, c, hc, hb, hok⟩
  ·obtain ⟨b1, b2, b3, b4⟩ := hr.blk i b hi
   rw [hρo i hl]
   exact ⟨.inl b1, .inl b2, Nat.lt_of_lt_of_le b3 hle.size, br_mono b4 (hρo i hl) (hle.old _ b3 fun h => h).1 fun _ _ hv => hle2.vr hr hv⟩
  ·obtain ⟨c1, c2, c3, c4⟩ := hr1.blk _ c hc
   have hρ := hρi i hl
   refine ⟨.inr ⟨hl, c1⟩, .inr (by rw [hρ]; exact c2), by rw [hρ]; exact c3, ?_⟩
   cases c with
   | loop => simp [okSB] at hok
   | row e rs =>
    simp only [shB, Option.some.injEq] at hb
    subst hb
    simp only [okSB, List.all_eq_true] at hok
    obtain ⟨q1, q2, q3, cc, el, q4, q5, q6⟩ := c4
    refine ⟨by rw [hρ]; exact q1, fun r hr => ?_, by rw [hρ, List.length_map]; exact q3, cc, el, by rw [hρ]; exact q4, by rw [hρ]; exact q5, fun k r hk j x hj => ?_⟩
    ·obtain ⟨r0, hr0, rfl⟩ := List.mem_map.1 hr
     rw [List.length_map]; exact q2 r0 hr0
    ·rw [List.getElem?_map] at hk
     obtain ⟨r0, hk0, rfl⟩ := Option.map_eq_some_iff.1 hk
     rw [List.getElem?_map] at hj
     obtain ⟨x0, hj0, rfl⟩ := Option.map_eq_some_iff.1 hj
     obtain ⟨y, g1, g2⟩ := q6 k r0 hk0 j x0 hj0
     exact ⟨y, by rw [hρ]; exact g1, hsv 3 g2 (hok _ (List.mem_of_getElem? hk0) _ (List.mem_of_getElem? hj0))⟩
   | map es cl =>
    simp only [shB, Option.some.injEq] at hb
    subst hb
    simp only [okSB, List.all_eq_true, Bool.and_eq_true] at hok
    obtain ⟨ces, q1, q2, q3⟩ := c4
    refine ⟨ces, by rw [hρ]; exact q1, by rw [List.length_map]; exact q2, fun j k v bb hj => ?_⟩
    rw [List.getElem?_map] at hj
    obtain ⟨⟨k0, v0, b0⟩, hj0, hj1⟩ := Option.map_eq_some_iff.1 hj
    simp only [Prod.mk.injEq] at hj1
    obtain ⟨rfl, rfl, rfl⟩ := hj1
    obtain ⟨ce, n1, n2, n3, n4⟩ := q3 j k0 v0 b0 hj0
    have := hok _ (List.mem_of_getElem? hj0)
    exact ⟨ce, n1, hsv 3 n2 this.1, hsv 3 n3 this.2, n4⟩
 ·rcases side i b hi with ⟨hl, h1i⟩ | ⟨hl, c1, hc1, _, _⟩
  ·rcases side j c hj with ⟨hl2, h1j⟩ | ⟨hl2, c2, hc2, _, _⟩
   ·rw [hρo i hl, hρo j hl2] at he
    exact hr.inj i j b c h1i h1j he
   ·rw [hρo i hl, hρi j hl2] at he
    have := (hr.blk i b h1i).2.2.1
    have := hO1 _ (hr1.blk _ c2 hc2).2.1
    omega
  ·rcases side j c hj with ⟨hl2, h1j⟩ | ⟨hl2, c2, hc2, _, _⟩
   ·rw [hρi i hl, hρo j hl2] at he
    have := (hr.blk j c h1j).2.2.1
    have := hO1 _ (hr1.blk _ c1 hc1).2.1
    omega
   ·rw [hρi i hl, hρi j hl2] at he
    have := hr1.inj _ _ _ _ hc1 hc2 he
    omega
 ·rw [List.length_append, List.length_map]
  rcases hi with hi | ⟨h1, h2⟩
  ·have := hr.lt i hi; omega
  ·have := hr1.lt _ h2; omega
 ·exact hb.elim (fun h => Nat.lt_of_lt_of_le (hr.own b h) hle.size) fun h => hr1.own b h
 ·refine ⟨hb.elim (fun h => Nat.lt_of_lt_of_le (hr.imm b h).1 hle.size) fun h => (hr1.imm b h).1, fun ho => ?_⟩
  rcases hb with hb | hb
  ·rcases ho with ho | ho
   ·exact (hr.imm b hb).2 ho
   ·have := hO1 b ho; have := (hr.imm b hb).1; omega
  ·rcases ho with ho | ho
   ·exact (hr.imm b (hIo b hb (hr.own b ho))).2 ho
   ·exact (hr1.imm b hb).2 ho
theorem good_keep {f : Nat} {args : List Za} {v v' : Za} {h h1 h2 : Zf} (hc : YD P G f args h v h1) (hK : K.Nodup) (hb : h.length ≤ K.length) (hpre : K.take h.length = List.range h.length) (hv : XA K h1 5 v = some v') (hh : Zd (XB K h1) K = some h2) : YD P G f args h v' h2 := by
 intro E w cargs k hr hl
 refine CallsIn.mono (hc E w cargs k hr hl) ?_
 rintro e w' ⟨u, E1, rfl, hle, hr1, hu, hf, hn⟩
 obtain ⟨E2, hx, hvr, _, _⟩ := keep_nx K hK hb hpre hh rfl hr ⟨hle, hr1, hf, hn⟩
 exact ⟨u, E2, rfl, hx.le, hx.hr, hvr 5 hu hv, hx.fr, hx.len⟩
theorem tab_freshN (hT : Zr P G T) {f : Nat} {sp : List Za → Option (Za × Zf)}
  (ho : ∀ args v hs, sp args = some (v, hs) → SAns P G f args [] fun v1 h1 => ∃ K : List Nat, K.Nodup ∧ XA K h1 5 v1 = some v ∧ Zd (XB K h1) K = some hs) : Zr P G (updE T f (freshN sp)) :=
 tab_updE hT fun args h v us he => by
  unfold freshN at he
  split at he <;> (try simp only [reduceCtorEq] at he)
  rename_i ha
  split at he <;> (try simp only [reduceCtorEq] at he)
  rename_i v0 hs e2
  split at he <;> (try simp only [reduceCtorEq] at he)
  rename_i hg
  simp at he
  obtain ⟨rfl, rfl⟩ := he
  obtain ⟨v1, h1, hgood, K, k1, k2, k3⟩ := ho args v0 hs e2
  have := setH_new (hs.map (shB h.length)) h
  rw [List.length_map] at this
  rw [this]
  exact good_shift (good_keep hgood k1 (Nat.zero_le _) rfl k2 k3) ha hg.1 hg.2
theorem tab_frameS (hT : Zr P G T) {f : Nat} {sp : List Za → Zf → Option (Za × Zf)}
  (ho : ∀ args h v h', sp args h = some (v, h') → SAns P G f args h fun v1 h1 => norm h.length v1 h1 = some (v, h')) : Zr P G (updE T f (frameE sp)) :=
 tab_updE hT fun args h v us he => by
  unfold frameE at he
  split at he <;> (try simp only [reduceCtorEq] at he)
  rename_i ass h0 e1 e2
  split at he <;> (try simp only [reduceCtorEq] at he)
  rename_i v1 h1 e3
  split at he <;> (try simp only [reduceCtorEq] at he)
  rename_i hg
  split at he <;> (try simp only [reduceCtorEq] at he)
  rename_i v' hb
  simp at he
  obtain ⟨rfl, rfl⟩ := he
  obtain ⟨v2, h2, hgood, hn⟩ := ho ass h0 v1 h1 e3
  exact frame_good (norm_good hgood hn) (ptrs_nodup args [] List.nodup_nil) e1 e2 hg.1 hg.2 hb
end
end
end Go.Abs
namespace Go.Proofs.YtjjapdagllclkaaGreat.Tab
open Go Go.Abs Go.Proofs
structure NowOk (js : List FJob) (now : List Int) (d : Nat) : Prop where
 nodup : now.Nodup
 mem : ∀ i ∈ now, 0 ≤ i ∧ i < js.length
 len : now.length + d = js.length
theorem NowOk.nil (js : List FJob) : NowOk js [] js.length := ⟨List.nodup_nil, fun _ h => by simp at h, by simp⟩
theorem NowOk.ord {js : List FJob} {now : List Int} (h : NowOk js now 0) : ordB now js.length = true :=
 perm_ord (perm_of_sub now (upTo js.length) h.nodup (fun x hx => upTo_mem.2 (h.mem x hx)) (by rw [upTo_len]; have := h.len; omega))
end Go.Proofs.YtjjapdagllclkaaGreat.Tab
namespace Go.Proofs.YtjjapdagllclkaaGreat.Tab
open Go Go.Abs Go.Proofs
set_option maxRecDepth 100000
set_option maxHeartbeats 4000000
set_option linter.unusedSimpArgs false
set_option linter.unusedVariables false
section
attribute [local simp] YC Yt XV XW YZ YY XX YJ Xw Ys Zd orcF XO YX XQ XM YE Yr rb_vl rb_pv XK YW YV YU XP XL XN rb_sl rb_fn slE chunk fillA Ym ZK putAt List.range_succ List.range_zero List.range'_succ List.range'_zero ZU ZS ZF ZW ZB ZM stepX Yh dop CV.ev Yu Zv ZA Xt fI_eq YA Yy Zy Zw Out.v putT List.replicate_succ zT zB arI ZN Abs.rowAt ldRow allV toV toC ofV ofC Builtin.min_ Builtin.min2 Builtin.max_ Builtin.max2 XT XU resA tupA kill ZT Yo Yp Yn Zc
section
attribute [local simp] ZV ZD Xp YN actD clash disj Xq holes Xr ZY Xu news eqB allB eqA Xf wrote toCs ofCs stA Yq ZE Yl dI1 dI2 dI3 dI5 elt
attribute [local simp] XH XD XI XE YS XG YP XF st_pv YO st_sl st_vl YQ st_mp st_fn YR XC co_any co_und co_agg co_tup Xe co_int Xb co_ref co_pv Xa co_sl co_vl Xc co_mp co_fn Xd XZ
attribute [local simp] above callA ZQ frNB_none frNB_row frN_agg frN_bool frN_int frN_nils frN_ref frN_sl frN_tup frN_vl frzG gather getR lim lop loud lowA lowR norm okG putG putR XR rbB_row resG rowAt takeG
def mB (n : Int) : Prop := -100000000 ≤ n ∧ n ≤ 100000000
instance (n : Int) : Decidable (mB n) := inferInstanceAs (Decidable (_ ∧ _))
end
end
end Go.Proofs.YtjjapdagllclkaaGreat.Tab
namespace Go.Abs
open Go
section
variable {P : Program} {G : Nat → Option (List Za)} {T : Nat → Option CFn}
theorem tab_eff (hT : Zr P G T) {f : Nat} {c : CFn} (hf : T f = some c) : ∀ args h v us, c.eff args h = some (v, us) → YD P G f args h v (setH h us) := by
 obtain ⟨_, _, _, _, _, _, _, _, _, h8⟩ := hT f c hf
 exact h8
end
end Go.Abs
namespace Go.Proofs.YtjjapdagllclkaaGreat.Tab
open Go Go.Abs Go.Proofs
set_option maxRecDepth 100000
set_option maxHeartbeats 4000000
set_option linter.unusedSimpArgs false
set_option linter.unusedVariables false
section
attribute [local simp] YC Yt XV XW YZ YY XX YJ Xw Ys Zd orcF XO YX XQ XM YE Yr rb_vl rb_pv XK YW YV YU XP XL XN rb_sl rb_fn slE chunk fillA Ym ZK putAt List.range_succ List.range_zero List.range'_succ List.range'_zero ZU ZS ZF ZW ZB ZM stepX Yh dop CV.ev Yu Zv ZA Xt fI_eq YA Yy Zy Zw Out.v putT List.replicate_succ zT zB arI ZN Abs.rowAt ldRow allV toV toC ofV ofC Builtin.min_ Builtin.min2 Builtin.max_ Builtin.max2 XT XU resA tupA kill ZT Yo Yp Yn Zc
section
attribute [local simp] ZV ZD Xp YN actD clash disj Xq holes Xr ZY Xu news eqB allB eqA Xf wrote toCs ofCs stA Yq ZE Yl dI1 dI2 dI3 dI5 elt
attribute [local simp] XH XD XI XE YS XG YP XF st_pv YO st_sl st_vl YQ st_mp st_fn YR XC co_any co_und co_agg co_tup Xe co_int Xb co_ref co_pv Xa co_sl co_vl Xc co_mp co_fn Xd XZ
attribute [local simp] above backA backA1 callA ZQ flatAt flatBlk frNB_none frNB_row frN_agg frN_bool frN_int frN_nils frN_ref frN_sl frN_tup frN_vl frameE frzG gather getR lim lop loud lowA lowR norm okG posOf ptrs putG putH putR XR rbB_row renA resG rowAt setH takeG
open Classical in
theorem rowsV_frN {x : Za} {rs : List (List Za)} (h : Yi x = some rs) (n : Nat) (H : Zf) (d : Nat) : frN n H (d + 1) x = some x := by
  rcases rowsV_cases h with ⟨rfl, _⟩ | ⟨t, rfl⟩ <;> rfl
end
end
end Go.Proofs.YtjjapdagllclkaaGreat.Tab
namespace Go.Abs
open Go
section
variable (P : Program) (G : Nat → Option (List Za))
def CPost (E0 : Env) (h0 : Zf) (w0 : World) (d : List Deferred) (Q : AEx → St → Prop) : Exit → Act → World → Prop := fun x a' w' => ∃ e σ', x = exOf e ∧ Q e σ' ∧ ∃ E', Run P G E0 h0 w0 d E' σ'.h w' σ'.t a'
def CRuns (base : Nat) (r : Option Nat) (c : CC) (σ : St) (Q : AEx → St → Prop) : Prop := ∀ (code : Code) (E0 : Env) (h0 : Zf) (w0 : World) (d : List Deferred) (E : Env) (w : World) (a : Act) (k : Nat),
 YG P G code = some (strip c) → h0.length = base → E0.HR P G h0 w0 → Run P G E0 h0 w0 d E σ.h w σ.t a → (∀ i, r = some i → E0.D i) → code.wpIn (FW (r.map fun i => (E0.ρ i).b)) k P (CPost P G E0 h0 w0 d Q) a w
def CAns (f : Nat) (args : List Za) (h : Zf) (Q : Za → Zf → Prop) : Prop :=
 ∀ (E : Env) (w : World) (cargs : Array Value) (k : Nat), E.HR P G h w → E.LR w args cargs → CallsIn (FW none) k P f cargs w fun e w' => ∃ v h', Q v h' ∧ RetPost P G E w h.length v h' e w'
end
section
variable {P : Program} {G : Nat → Option (List Za)} {T : Nat → Option CFn} {r : Option Nat} {base : Nat} {a b c : CC} {σ σ1 σ' : St} {Q Q' : AEx → St → Prop} {h : Zf}
theorem CRuns.mono (hr : CRuns P G base r c σ Q) (hq : ∀ e σ, Q e σ → Q' e σ) : CRuns P G base r c σ Q' := fun code E0 h0 w0 d E w act k hc hb h0r hR hd =>
 wpIn_mono (hr code E0 h0 w0 d E w act k hc hb h0r hR hd) fun _ _ _ ⟨e, σ', h1, h2, h3⟩ => ⟨e, σ', h1, hq _ _ h2, h3⟩
theorem cruns_sruns (h : SRuns P G r c σ Q) : CRuns P G base r c σ Q := by
 obtain ⟨e, σ', hs, hq⟩ := h
 intro code E0 h0 w0 d E w act k hc hb h0r hR hd
 have := hs code E w act k hc hR.nx.hr hR.lr fun i hi => (hR.nx.le.D i (hd i hi)).1
 rw [fw_eq hR.nx.le hd] at this
 exact wpIn_mono this fun x a2 w2 hp => by
  obtain ⟨hx, E', hR'⟩ := post_trans hR hp
  exact ⟨e, σ', hx, hq, E', hR'⟩
theorem Zt (hm : P.follows .mixedOrders = true) (hT : Zr P G T) (h : Runs P T r c σ Q) : CRuns P G base r c σ Q := cruns_sruns (YT hm hT h)
theorem cruns_ren (hn : Ren P G base σ σ1) (hs : CRuns P G base r c σ1 Q) : CRuns P G base r c σ Q := fun code E0 h0 w0 d E w act k hc hb h0r hR hd => by
 obtain ⟨E1, hR1⟩ := hn E0 h0 w0 d E w act hb h0r hR
 exact hs code E0 h0 w0 d E1 w act k hc hb h0r hR1 hd
theorem Zl (h : CRuns P G base r a σ (zT Q fun σ' => CRuns P G base r b σ' Q)) : CRuns P G base r (.seq a b) σ Q := by
 intro code E0 h0 w0 d E w act k hc hb h0r hR hd
 obtain ⟨p, q, rfl, hp, hq⟩ := co_seq hc
 refine wpIn_seq (wpIn_mono (h p E0 h0 w0 d E w act k hp hb h0r hR hd) ?_)
 rintro xx a' w' ⟨e, σ1, rfl, h1, E', hR'⟩
 cases e with
 | normal => exact h1 q E0 h0 w0 d E' w' a' k hq hb h0r hR' hd
 | exit id => exact ⟨_, σ1, rfl, h1, E', hR'⟩
 | ret => exact ⟨_, σ1, rfl, h1, E', hR'⟩
theorem cruns_skip (hq : Q .normal σ) : CRuns P G base r .skip σ Q := cruns_sruns (sruns_skip hq)
theorem cruns_ret (hq : Q .ret σ) : CRuns P G base r .ret σ Q := cruns_sruns (sruns_ret hq)
theorem cruns_exit {id : Nat} (hq : Q (.exit id) σ) : CRuns P G base r (.exit id) σ Q := cruns_sruns (sruns_exit hq)
theorem XY {cv : CV} {x : Bool} (hv : cv.ev σ.t = some (.bool x)) (h : CRuns P G base r (if x then a else b) σ Q) : CRuns P G base r (.cond cv a b) σ Q := by
 intro code E0 h0 w0 d E w act k hc hb h0r hR hd
 obtain ⟨o, p, q, rfl, ho, hp, hq⟩ := co_cond hc
 cases x with
 | true => exact wpIn_cond_true (YB hR.nx.hr hR.lr ho hv).bool_inv (h p E0 h0 w0 d E w act k hp hb h0r hR hd)
 | false => exact wpIn_cond_false (YB hR.nx.hr hR.lr ho hv).bool_inv (h q E0 h0 w0 d E w act k hq hb h0r hR hd)
theorem cruns_cond_split {cv : CV} {x : Bool} (hc : cv.ev σ.t = some (.bool x)) (ht : x = true → CRuns P G base r a σ Q) (hf : x = false → CRuns P G base r b σ Q) : CRuns P G base r (.cond cv a b) σ Q :=
 XY hc (by cases x <;> simp_all)
theorem cruns_block {id : Nat} (h : CRuns P G base r a σ (zB id Q)) : CRuns P G base r (.block id a) σ Q := by
 intro code E0 h0 w0 d E w act k hc hb h0r hR hd
 obtain ⟨p, rfl, hp⟩ := co_block hc
 refine wpIn_block (wpIn_mono (h p E0 h0 w0 d E w act k hp hb h0r hR hd) ?_)
 rintro xx a' w' ⟨e, σ1, rfl, h1, E', hR'⟩
 cases e with
 | normal => exact ⟨.normal, σ1, rfl, h1, E', hR'⟩
 | ret => exact ⟨.ret, σ1, rfl, h1, E', hR'⟩
 | exit j =>
  simp only [zB] at h1
  simp only [exOf, Exit.inBlock]
  by_cases e : j = id
  ·rw [if_pos e] at h1 ⊢; exact ⟨.normal, σ1, rfl, h1, E', hR'⟩
  ·rw [if_neg e] at h1 ⊢; exact ⟨.exit j, σ1, rfl, h1, E', hR'⟩
theorem rounds_le {F : Fence} {k : Nat} {p : Code} {R : Exit → Act → World → Prop} : ∀ {n m : Nat}, n ≤ m → ∀ {a : Act} {w : World}, Code.roundsIn F k P p R n a w → Code.roundsIn F k P p R m a w
 | 0, _, _, _, _, h => h.elim
 | n + 1, 0, hnm, _, _, _ => absurd hnm (by omega)
 | n + 1, m + 1, hnm, a, w, h => wpIn_mono h fun e a w q => by
  cases e with
  | normal => exact rounds_le (by omega) q
  | _ => exact q
theorem cruns_rounds (I : Nat → St → Prop) (step : ∀ k σ1, I k σ1 → CRuns P G base r c σ1 (zT Q fun σ2 => ∃ k' σ3, k' < k ∧ Ren P G base σ2 σ3 ∧ I k' σ3)) :
  ∀ k σ, I k σ → ∀ (p : Code) (E0 : Env) (h0 : Zf) (w0 : World) (d : List Deferred) (E : Env) (w : World) (a : Act) (kk : Nat), YG P G p = some (strip c) → h0.length = base → E0.HR P G h0 w0 → Run P G E0 h0 w0 d E σ.h w σ.t a → (∀ i, r = some i → E0.D i) →
   Code.roundsIn (FW (r.map fun i => (E0.ρ i).b)) kk P p (CPost P G E0 h0 w0 d Q) (k + 1) a w := by
 intro k
 induction k using Nat.strongRecOn with
 | _ k ih =>
  intro σ hI p E0 h0 w0 d E w act kk hp hb h0r hR hd
  rw [roundsIn_succ]
  refine wpIn_mono (step k σ hI p E0 h0 w0 d E w act kk hp hb h0r hR hd) ?_
  rintro xx a' w' ⟨e, σ1, rfl, h1, E', hR'⟩
  cases e with
  | normal =>
   obtain ⟨k', σ3, hk, hren, hI'⟩ := h1
   obtain ⟨E2, hR2⟩ := hren E0 h0 w0 d E' w' a' hb h0r hR'
   exact rounds_le (by omega) (ih k' hk σ3 hI' p E0 h0 w0 d E2 w' a' kk hp hb h0r hR2 hd)
  | exit id => exact ⟨_, σ1, rfl, h1, E', hR'⟩
  | ret => exact ⟨_, σ1, rfl, h1, E', hR'⟩
theorem cruns_loop {keep k : Nat} (I : Nat → St → Prop) (h0 : ∃ σ0, Ren P G base σ σ0 ∧ I k σ0)
  (step : ∀ k σ1, I k σ1 → CRuns P G base r c σ1 (zT Q fun σ2 => ∃ k' σ3, k' < k ∧ Ren P G base σ2 σ3 ∧ I k' σ3)) : CRuns P G base r (.loop keep c) σ Q := by
 obtain ⟨σ0, hr0, hI⟩ := h0
 intro code E0 h0 w0 d E w act kk hc hb h0r hR hd
 obtain ⟨p, rfl, hp⟩ := co_loop hc
 obtain ⟨E2, hR2⟩ := hr0 E0 h0 w0 d E w act hb h0r hR
 exact wpIn_loop_rounds _ (cruns_rounds I step k σ0 hI p E0 h0 w0 d E2 w act kk hp hb h0r hR2 hd)
theorem cans_of (hT : Zr P G T) {f : Nat} {cf : CFn} {args : List Za} {Q : Za → Zf → Prop} (hf : T f = some cf)
  (hb : CRuns P G h.length none cf.body ⟨args ++ List.replicate (cf.ntmps - args.length) .und, h⟩ fun e σ => (∀ id, e ≠ .exit id) ∧ ∃ vs, resA σ.t σ.h cf.res = some vs ∧ Q (tupA vs) (trim h.length [tupA vs] σ.h)) : CAns P G f args h Q := by
 intro E w cargs k hr hl
 obtain ⟨fn, c, hfn, hbd, hname, hcomp, hnt, hres, horc, heff⟩ := hT f cf hf
 have hlr : E.LR w (args ++ List.replicate (cf.ntmps - args.length) Za.und) (cargs ++ Array.replicate (fn.ntmps - cargs.size) undef) :=
  lr_app hl (replicate_lr _ _ (by rw [hnt, hl.1]))
 refine callsIn_of_wp_marks hfn hbd trivial ?_
 refine wpIn_mono (hb c E h w _ E w _ k hcomp rfl hr (.refl hr hlr) (by simp)) ?_
 rintro x a' w' ⟨e, σ, hx, ⟨hne, vs, hv, hq⟩, E', hR⟩
 have key : LeavesInM (FW none) k P fn a'.tmps (fun e w' => ∃ v h', Q v h' ∧ RetPost P G E w h.length v h' e w') a'.defers .returning w' := by
  obtain ⟨bs, hbs, hnd, hall⟩ := hR.mks
  simp only [List.append_nil] at hbs
  rw [hbs]
  refine leaves (n := w.heap.size) (k := k) hres hv bs w' hR.nx.hr hR.lr hnd hall fun w2 u g1 g2 g3 g4 g5 g6 g7 => ?_
  have hx2 := nx_side hR.nx g1 g3 g4 g5 g6 fun b hb => g7 b (.inl hb)
  have hlu : E'.LR w2 [tupA vs] #[u] := ⟨rfl, fun j h1 h2 => by
   have : j = 0 := by simp at h1; omega
   subst this; exact g2⟩
  obtain ⟨E2, hx3, hl3, _⟩ := trim_ok hr hx2 hlu
  exact ⟨_, _, hq, u, E2, rfl, hx3.le, hx3.hr, hl3.2 0 (by simp) (by simp), hx3.fr, hx3.len⟩
 cases e with
 | exit id => exact absurd rfl (hne id)
 | normal => subst hx; exact key
 | ret => subst hx; exact key
theorem CAns.mono {f : Nat} {args : List Za} {Q Q' : Za → Zf → Prop} (ha : CAns P G f args h Q) (hq : ∀ v h, Q v h → Q' v h) : CAns P G f args h Q' := fun E w cargs k hr hl =>
 CallsIn.mono (ha E w cargs k hr hl) fun e w' ⟨v, h', h1, h2⟩ => ⟨v, h', hq _ _ h1, h2⟩
theorem good_cans {f : Nat} {args : List Za} {v : Za} {h' : Zf} (ha : CAns P G f args h fun v1 h1 => v1 = v ∧ h1 = h') : YD P G f args h v h' := fun E w cargs k hr hl =>
 CallsIn.mono (ha E w cargs k hr hl) (by rintro e w' ⟨v, h', ⟨rfl, rfl⟩, hp⟩; exact hp)
theorem cans_loose {f : Nat} {args : List Za} {Q : Za → Zf → Prop} (ha : CAns P G f args h Q) : CAns P G f args h fun v h' => ∃ v0, v = looseV v0 ∧ Q v0 h' := fun E w cargs k hr hl =>
 CallsIn.mono (ha E w cargs k hr hl) (by
  rintro e w' ⟨v, h', hq, u, E1, h1, h2, h3, h4, h5, h6⟩
  exact ⟨_, h', ⟨v, rfl, hq⟩, u, E1, h1, h2, h3, vr_looseV h4, h5, h6⟩)
theorem cans_keep {f : Nat} {args : List Za} {Q Q' : Za → Zf → Prop} (ha : CAns P G f args h Q) (hk : ∀ v h1, Q v h1 → ∃ K v' h2, K.Nodup ∧ h.length ≤ K.length ∧ K.take h.length = List.range h.length ∧ XA K h1 5 v = some v' ∧ Zd (XB K h1) K = some h2 ∧ Q' v' h2) : CAns P G f args h Q' := fun E w cargs k hr hl =>
 CallsIn.mono (ha E w cargs k hr hl) (by
  rintro e w' ⟨v, h', hq, u, E1, rfl, hle, hr1, hu, hf, hn⟩
  obtain ⟨K, v', h2, k1, k2, k3, k4, k5, k6⟩ := hk v h' hq
  obtain ⟨E2, hx, hvr, _, _⟩ := keep_nx K k1 k2 k3 k5 rfl hr ⟨hle, hr1, hf, hn⟩
  exact ⟨v', h2, k6, u, E2, rfl, hx.le, hx.hr, hvr 5 hu k4, hx.fr, hx.len⟩)
theorem sans_cans {f : Nat} {args : List Za} {v : Za} {h' : Zf} (ha : CAns P G f args h fun v1 h1 => v1 = v ∧ h1 = h') : SAns P G f args h fun v1 h1 => v1 = v ∧ h1 = h' := ⟨v, h', good_cans ha, rfl, rfl⟩
theorem Zk {f : Nat} {cf : CFn} (hT : T f = some cf) : ∀ (ex : Option Nat → CC → St → Option (AEx × St)) (args : List Za) (h : Zf), Yj T ex f args h = match orcF cf args h with
  | some v => some (v, h)
  | none => callB T ex f args h := fun _ args h => zC hT args h
theorem callF_eff' {f : Nat} {cf : CFn} (hT : T f = some cf) (ho : cf.orc = fun _ => none) : ∀ (ex : Option Nat → CC → St → Option (AEx × St)) (args : List Za) (h : Zf), Yj T ex f args h = match cf.eff args h with
  | some (v, us) => some (v, setH h us)
  | none => callB T ex f args h := fun _ args h => Zb hT ho args h
end
end Go.Abs
namespace Go.Proofs.YtjjapdagllclkaaGreat.Tab
open Go Go.Abs Go.Proofs
set_option maxRecDepth 100000
set_option maxHeartbeats 4000000
set_option linter.unusedSimpArgs false
set_option linter.unusedVariables false
section
attribute [local simp] YC Yt XV XW YZ YY XX YJ Xw Ys Zd orcF XO YX XQ XM YE Yr rb_vl rb_pv XK YW YV YU XP XL XN rb_sl rb_fn slE chunk fillA Ym ZK putAt List.range_succ List.range_zero List.range'_succ List.range'_zero ZU ZS ZF ZW ZB ZM stepX Yh dop CV.ev Yu Zv ZA Xt fI_eq YA Yy Zy Zw Out.v putT List.replicate_succ zT zB arI ZN Abs.rowAt ldRow allV toV toC ofV ofC Builtin.min_ Builtin.min2 Builtin.max_ Builtin.max2 XT XU resA tupA kill ZT Yo Yp Yn Zc
section
attribute [local simp] ZV ZD Xp YN actD clash disj Xq holes Xr ZY Xu news eqB allB eqA Xf wrote toCs ofCs stA Yq ZE Yl dI1 dI2 dI3 dI5 elt
attribute [local simp] XH XD XI XE YS XG YP XF st_pv YO st_sl st_vl YQ st_mp st_fn YR XC co_any co_und co_agg co_tup Xe co_int Xb co_ref co_pv Xa co_sl co_vl Xc co_mp co_fn Xd XZ
attribute [local simp] callA ZQ lim lop loud posOf
def sufx : Nat → CC → CC
  | 0, c => c
  | n + 1, .seq _ b => sufx n b
  | _ + 1, c => c
def ownOk (cs : List (List Int)) (ts : List YH) : Bool := decide (0 < cs.length ∧ cs.length ≤ 1000) && cs.all (fun l => decide (0 < l.length ∧ l.length ≤ 1000)) && decide (ts.length ≤ 1000)
theorem own_ok {cs : List (List Int)} {ts : List YH} (h : ownOk cs ts = true) : (0 < cs.length ∧ cs.length ≤ 1000) ∧ (∀ l ∈ cs, 0 < l.length ∧ l.length ≤ 1000) ∧ ts.length ≤ 1000 := by
  simp only [ownOk, Bool.and_eq_true, decide_eq_true_eq, List.all_eq_true] at h
  exact ⟨h.1.1, h.1.2, h.2⟩
def CK (cs : List (List Int)) (k : Nat) : List (List Za) := (cs.take k).map rowC
theorem CK_len {cs : List (List Int)} {k : Nat} (h : k ≤ cs.length) : (CK cs k).length = k := by simp [CK, h]
theorem CK_snoc {cs : List (List Int)} {k : Nat} (h : k < cs.length) : CK cs k ++ [rowC cs[k]] = CK cs (k + 1) := by
  unfold CK; rw [List.take_succ_eq_append_getElem h, List.map_append]; rfl
theorem CK_ren (cs : List (List Int)) (k : Nat) (K : List Nat) (H : Zf) : Zd (Zd (XA K H 5)) (CK cs k) = some (CK cs k) := Zz _ fun r hr => Zz _ fun x hx => by
  obtain ⟨l, _, rfl⟩ := List.mem_map.1 hr
  simp only [rowC, List.mem_cons, List.not_mem_nil, or_false] at hx
  subst hx
  exact Xg K H 5 _ (Yc (dInts_encE l) 0 4)
theorem CK_one (cs : List (List Int)) (k : Nat) : ((CK cs k).all fun r => r.length == 1) = true := by
  rw [List.all_eq_true]; intro r hr; obtain ⟨l, _, rfl⟩ := List.mem_map.1 hr; rfl
theorem CK_st (cs : List (List Int)) (k : Nat) : ((CK cs k).all fun r => r.all Zq) = true := by
  rw [List.all_eq_true]; intro r hr; obtain ⟨l, _, rfl⟩ := List.mem_map.1 hr
  simp only [rowC, List.all_cons, (Zp (dInts_encE l)).2, List.all_nil, Bool.and_true]
theorem rS_ren (K : List Nat) (H : Zf) (ts : List YH) : Zd (Zd (XA K H 5)) (ts.map rS3) = some (ts.map rS3) := Zz _ fun r hr => by
  obtain ⟨x, _, rfl⟩ := List.mem_map.1 hr; rfl
theorem optAll_cat {α β : Type} {f : α → Option β} {l : List α} {m : List β} (h : Zd f l = some m) (r : List α) : Zd f (l ++ r) = match Zd f r with | some b => some (m ++ b) | none => none := by
  induction l generalizing m with
  | nil => simp only [Zd, Option.some.injEq] at h; subst h; simp only [List.nil_append]; cases Zd f r <;> rfl
  | cons x l ih =>
    simp only [Zd] at h
    split at h <;> (try simp only [reduceCtorEq] at h)
    rename_i y ys h1 h2
    simp only [Option.some.injEq] at h
    subst h
    simp only [List.cons_append, Zd, h1, ih h2]
    cases Zd f r <;> rfl
def Q59 (m : Int) (cs : List (List Int)) (ts : List YH) (v : Za) (h : Zf) : Prop := ∃ (tf : Bool) (b0 b1 b2 : Option Blk), v = .agg [I m, .sl 4 0 cs.length false, .sl 3 0 ts.length tf] ∧ h = [b0, b1, b2, some (.row 3 (ts.map rS3)), some (.row 1 (cs.map rowC))]
theorem l59_2 (T : Nat → Option CFn) (hTb : Zr Tryz.prog GG T) (m : Int) (c t : Za) (cs : List (List Int)) (ts : List YH) (hc : ZI c = some cs) (ht : Yg t = some ts) (hok : ownOk cs ts = true) (tf : Bool) : CRuns Tryz.prog GG 0 none (sufx 2 c59.body) ⟨[.any, .ref 0 0 0, .ref 1 0 0, .ref 2 0 0, .any, .any, .any, .any, .any, .any, .any, .any, .any, .any, .any, .any, .any, .any, .any, .any, .any, .any, .any, .any, .any, .any, .any, .any, .any, .any, .any, .any], [some (.row 3 [[I m, c, t]]), some (.row 3 [[I 0, .nils, .nils]]), some (.row 3 [[I m, .nils, .sl 3 0 ts.length tf]]), some (.row 3 (ts.map rS3))]⟩ (fun e σ => (∀ id, e ≠ .exit id) ∧ ∃ vs, resA σ.t σ.h [CRes.ldn 3 2] = some vs ∧ Q59 m cs ts (tupA vs) (trim 0 [tupA vs] σ.h)) := by
  obtain ⟨⟨hc0, hc1⟩, hcr, hts⟩ := own_ok hok
  have rc := fun n d => Xi hc n d
  have rt := fun n d => dStops_rb ht n d
  obtain ⟨cc1, cc2⟩ := ZZ hc
  obtain ⟨ct1, ct2⟩ := YK ht
  have nc := fun K H => Xg K H 5 c (rc 0 4)
  have nt := fun K H => Xg K H 5 t (rt 0 4)
  have fc := fun H d => Xo hc H d
  have lc := Xn hc
  unfold c59
  simp only [sufx, oo, om, op, og, ci, cl]
  have HH1 := And.intro rc (And.intro rt (And.intro cc1 (And.intro cc2 (And.intro ct1 (And.intro ct2 (And.intro fc lc))))))
  refine Zl ?_
  refine Zl ?_
  refine Zt mixed hTb (zR (zO (by simp [↓nc, ↓nt, ↓rS_ren, -Zc, HH1]; rfl) ?_))
  simp only [zT, zB]
  refine cruns_block ?_
  refine cruns_loop (k := cs.length - 0) (fun mm σ => ∃ (k : Nat) (i : Int), i = k ∧ cs.length - k = mm ∧ k ≤ cs.length ∧ ((k = 0 ∧ σ = ⟨[.any, .ref 0 0 0, .ref 1 0 0, .ref 2 0 0, I i, .any, .any, .any, .any, .any, .any, .any, .any, .any, .any, .any, .any, .any, .any, .any, .any, .any, .any, .any, .any, .any, .any, .any, .any, .any, .any, .any], [some (.row 3 [[I m, c, t]]), some (.row 3 [[I 0, .nils, .nils]]), some (.row 3 [[I m, .nils, .sl 3 0 ts.length tf]]), some (.row 3 (ts.map rS3)), none]⟩) ∨ (0 < k ∧ σ = ⟨[.any, .ref 0 0 0, .ref 1 0 0, .ref 2 0 0, I i, .any, .any, .any, .any, .any, .any, .any, .any, .any, .any, .any, .any, .any, .any, .any, .any, .any, .any, .any, .any, .any, .any, .any, .any, .any, .any, .any], [some (.row 3 [[I m, c, t]]), some (.row 3 [[I 0, .nils, .nils]]), some (.row 3 [[I m, .sl 4 0 k false, .sl 3 0 ts.length tf]]), some (.row 3 (ts.map rS3)), some (.row 1 (CK cs k))]⟩))) ⟨_, ren_kk 30 [0, 1, 2, 3, 90] (by decide) (by simp) rfl (by simp [zr, renE, XB, Yw, ↓nc, ↓nt, ↓rS_ren, -Zc, HH1] <;> rfl) (by simp [zr, renE, XB, Yw, ↓nc, ↓nt, ↓rS_ren, -Zc, HH1] <;> rfl), ⟨0, 0, rfl, rfl, Nat.zero_le _, .inl ⟨rfl, rfl⟩⟩⟩ ?_
  rintro mm σ ⟨k, i, hik, rfl, hkl, ⟨hk1, rfl⟩ | ⟨hk1, rfl⟩⟩
  · refine Zl ?_
    refine Zl ?_
    refine Zt mixed hTb (zR (zO (by simp [↓nc, ↓nt, ↓rS_ren, -Zc, HH1]; rfl) ?_))
    simp only [zT, zB]
    refine cruns_cond_split (x := decide (i < (cs.length : Int))) (by simp) (fun hlt => ?_) (fun hlt => ?_)
    · have hlt2 := of_decide_eq_true hlt
      have hk0 : k < cs.length := by omega
      obtain ⟨rs, tj, wv, rfl, hrl, hr2, hwv⟩ := dInts2_get hc hk0
      have hkr : k < rs.length := by omega
      have hr4 : ∀ h, rs[k]'h = [wv] := fun h => by rw [List.getElem?_eq_getElem h] at hr2; exact Option.some.inj hr2
      have hi0 : 0 ≤ i := by omega
      have htn : i.toNat = k := by omega
      have hwi : W .i64 (i + 1) = i + 1 := ZR (by omega)
      have hiL : i < (cs.length : Int) := by omega
      have hne := hcr cs[k] (List.getElem_mem hk0)
      obtain ⟨tw, rfl⟩ := Xh hwv hne.1
      have hsn := CK_snoc hk0
      have hrC : rowC cs[k] = [.vl (cs[k].map rI) false] := by unfold rowC; rw [encE_ne (List.length_pos_iff.1 hne.1)]
      rw [hrC] at hsn
      have hrr : ((cs[k].map rI).all fun r => r.length == 1) = true := by simp [rI]
      have hss : ((cs[k].map rI).all fun r => r.all Zq) = true := by simp [rI]
      have hll : cs[k].length ≤ 1048576 := by omega
      have tkl : (cs[k].map rI).take cs[k].length = cs[k].map rI := List.take_of_length_le (by simp)
      have hnz : ¬ cs[k].length = 0 := by omega
      have hnz2 : ¬ cs[k] = [] := List.length_pos_iff.1 hne.1
      have hfI := fun (nv : Bool) (H : Zf) (d : Nat) => (Zz _ (fun r hr => by obtain ⟨x, _, rfl⟩ := List.mem_map.1 hr; rfl) : Zd (Zd (frz nv H (d + 1))) (cs[k].map rI) = some (cs[k].map rI))
      have hj0 : CK cs k = [] := by rw [hk1]; rfl
      rw [hj0, List.nil_append] at hsn
      have HH2 := And.intro hi0 (And.intro htn (And.intro hiL (And.intro hk0 (And.intro hwi (And.intro hkr (And.intro hr2 (And.intro hr4 (And.intro hrl (And.intro hll (And.intro tkl (And.intro hnz (And.intro hnz2 hfI))))))))))))
      refine cruns_skip ?_
      simp only [zT, zB]
      refine Zl ?_
      refine cruns_block ?_
      refine Zt mixed hTb (Ye (by simp (maxSteps := 3000000) [↓nc, ↓nt, ↓rS_ren, -Zc, HH1, zI, ↓hrr, ↓hss, HH2]; rfl) ?_)
      simp only [zT, zB]
      refine Zt mixed hTb (zR (zO (by simp [↓nc, ↓nt, ↓rS_ren, -Zc, HH1, zI, ↓hrr, ↓hss, HH2]; rfl) ?_))
      simp only [zT, zB]
      exact ⟨cs.length - (k + 1), ⟨[.any, .ref 0 0 0, .ref 1 0 0, .ref 2 0 0, I (i + 1), .any, .any, .any, .any, .any, .any, .any, .any, .any, .any, .any, .any, .any, .any, .any, .any, .any, .any, .any, .any, .any, .any, .any, .any, .any, .any, .any], [some (.row 3 [[I m, .vl rs tj, t]]), some (.row 3 [[I 0, .nils, .nils]]), some (.row 3 [[I m, .sl 4 0 1 false, .sl 3 0 ts.length tf]]), some (.row 3 (ts.map rS3)), some (.row 1 (CK cs (k + 1)))]⟩, by omega, ren_kk 30 [0, 1, 2, 3, 19] (by decide) (by simp) rfl (by simp [zr, renE, XB, Yw, ↓nc, ↓nt, ↓rS_ren, -Zc, HH1, zI, ↓hrr, ↓hss, HH2, hsn] <;> rfl) (by simp [zr, renE, XB, Yw, ↓nc, ↓nt, ↓rS_ren, -Zc, HH1, zI, ↓hrr, ↓hss, HH2, hsn] <;> rfl), k + 1, i + 1, by omega, rfl, by omega, .inr ⟨by omega, by rw [hk1]⟩⟩
    · have hx1 := of_decide_eq_false hlt
      have hkE : k = cs.length := by omega
      omega
  · have hal : (CK cs k).length = k := CK_len hkl
    have tk : (CK cs k).take k = CK cs k := List.take_of_length_le (by omega)
    have h4 := CK_one cs k
    have hst := CK_st cs k
    have hlac : k + 1 ≤ 1048576 := by omega
    have hre := fun K H r => optAll_cat (CK_ren cs k K H) r
    have hrf := CK_ren cs k
    have HH3 := And.intro hal (And.intro tk (And.intro hlac (And.intro hre hrf)))
    refine Zl ?_
    refine Zl ?_
    refine Zt mixed hTb (zR (zO (by simp [↓nc, ↓nt, ↓rS_ren, -Zc, HH1, ↓h4, ↓hst, HH3]; rfl) ?_))
    simp only [zT, zB]
    refine cruns_cond_split (x := decide (i < (cs.length : Int))) (by simp) (fun hlt => ?_) (fun hlt => ?_)
    · have hlt2 := of_decide_eq_true hlt
      have hk0 : k < cs.length := by omega
      obtain ⟨rs, tj, wv, rfl, hrl, hr2, hwv⟩ := dInts2_get hc hk0
      have hkr : k < rs.length := by omega
      have hr4 : ∀ h, rs[k]'h = [wv] := fun h => by rw [List.getElem?_eq_getElem h] at hr2; exact Option.some.inj hr2
      have hi0 : 0 ≤ i := by omega
      have htn : i.toNat = k := by omega
      have hwi : W .i64 (i + 1) = i + 1 := ZR (by omega)
      have hiL : i < (cs.length : Int) := by omega
      have hne := hcr cs[k] (List.getElem_mem hk0)
      obtain ⟨tw, rfl⟩ := Xh hwv hne.1
      have hsn := CK_snoc hk0
      have hrC : rowC cs[k] = [.vl (cs[k].map rI) false] := by unfold rowC; rw [encE_ne (List.length_pos_iff.1 hne.1)]
      rw [hrC] at hsn
      have hrr : ((cs[k].map rI).all fun r => r.length == 1) = true := by simp [rI]
      have hss : ((cs[k].map rI).all fun r => r.all Zq) = true := by simp [rI]
      have hll : cs[k].length ≤ 1048576 := by omega
      have tkl : (cs[k].map rI).take cs[k].length = cs[k].map rI := List.take_of_length_le (by simp)
      have hnz : ¬ cs[k].length = 0 := by omega
      have hnz2 : ¬ cs[k] = [] := List.length_pos_iff.1 hne.1
      have hfI := fun (nv : Bool) (H : Zf) (d : Nat) => (Zz _ (fun r hr => by obtain ⟨x, _, rfl⟩ := List.mem_map.1 hr; rfl) : Zd (Zd (frz nv H (d + 1))) (cs[k].map rI) = some (cs[k].map rI))
      generalize CK cs k = AC at *
      have HH4 := And.intro hi0 (And.intro htn (And.intro hiL (And.intro hk0 (And.intro hwi (And.intro hkr (And.intro hr2 (And.intro hr4 (And.intro hrl (And.intro hll (And.intro tkl (And.intro hnz (And.intro hnz2 hfI))))))))))))
      have HH5 := And.intro nc (And.intro nt (And.intro h4 (And.intro hst (And.intro hrr hss))))
      refine cruns_skip ?_
      simp only [zT, zB]
      refine Zl ?_
      refine cruns_block ?_
      refine Zt mixed hTb (Ye (by simp (maxSteps := 3000000) [↓rS_ren, -Zc, HH1, HH3, zI, HH4, ↓HH5]; rfl) ?_)
      simp only [zT, zB]
      refine Zt mixed hTb (zR (zO (by simp [↓rS_ren, -Zc, HH1, HH3, zI, HH4, ↓HH5]; rfl) ?_))
      simp only [zT, zB]
      exact ⟨cs.length - (k + 1), ⟨[.any, .ref 0 0 0, .ref 1 0 0, .ref 2 0 0, I (i + 1), .any, .any, .any, .any, .any, .any, .any, .any, .any, .any, .any, .any, .any, .any, .any, .any, .any, .any, .any, .any, .any, .any, .any, .any, .any, .any, .any], [some (.row 3 [[I m, .vl rs tj, t]]), some (.row 3 [[I 0, .nils, .nils]]), some (.row 3 [[I m, .sl 4 0 (k + 1) false, .sl 3 0 ts.length tf]]), some (.row 3 (ts.map rS3)), some (.row 1 (CK cs (k + 1)))]⟩, by omega, ren_kk 30 [0, 1, 2, 3, 19] (by decide) (by simp) rfl (by simp [zr, renE, XB, Yw, ↓rS_ren, -Zc, HH1, HH3, zI, HH4, ↓HH5, hsn] <;> rfl) (by simp [zr, renE, XB, Yw, ↓rS_ren, -Zc, HH1, HH3, zI, HH4, ↓HH5, hsn] <;> rfl), k + 1, i + 1, by omega, rfl, by omega, .inr ⟨by omega, rfl⟩⟩
    · have hx1 := of_decide_eq_false hlt
      have hkE : k = cs.length := by omega
      subst hkE
      have htE : CK cs cs.length = cs.map rowC := by unfold CK; rw [List.take_length]
      rw [htE]
      refine cruns_exit ?_
      simp only [zT, zB, if_true, if_false, reduceIte, Nat.reduceEqDiff, Nat.succ_ne_zero, Nat.one_ne_zero, Nat.zero_ne_one]
      refine Zl ?_
      refine Zt mixed hTb (zR (zO (by simp [↓nc, ↓nt, ↓rS_ren, -Zc, HH1, ↓h4, ↓hst, HH3]; rfl) ?_))
      simp only [zT, zB]
      refine cruns_ret ?_
      refine ⟨by simp, _, by simp <;> rfl, tf, _, _, _, rfl, by simp [trim]; exact ⟨rfl, rfl, rfl⟩⟩
theorem a59s (T : Nat → Option CFn) (hTb : Zr Tryz.prog GG T) (hT : T 59 = some c59) (m : Int) (c t : Za) (cs : List (List Int)) (ts : List YH) (hc : ZI c = some cs) (ht : Yg t = some ts) (hok : ownOk cs ts = true) : CAns Tryz.prog GG 59 [.agg [I m, c, t]] [] (Q59 m cs ts) := by
 obtain ⟨⟨hc0, hc1⟩, hcr, hts⟩ := own_ok hok
 have rc := fun n d => Xi hc n d
 have rt := fun n d => dStops_rb ht n d
 obtain ⟨cc1, cc2⟩ := ZZ hc
 obtain ⟨ct1, ct2⟩ := YK ht
 have nc := fun K H => Xg K H 5 c (rc 0 4)
 have nt := fun K H => Xg K H 5 t (rt 0 4)
 refine cans_of hTb hT ?_
 simp only [oo, om, op, og, ci, cl, c59]
 have HH1 := zA rc (zA rt (zA cc1 (zA cc2 (zA ct1 ct2))))
 refine Zl ?_
 refine Zt mixed hTb (zR (zO (by simp [↓nc, ↓nt, ↓rS_ren, HH1]; rfl) ?_))
 simp only [zT, zB]
 by_cases hts0 : ts = []
 ·subst hts0
  rcases dStops_cases ht with ⟨rfl, _⟩ | ⟨tt, rfl⟩
  ·skip
   refine Zl ?_
   refine Zt mixed hTb (Ye (by simp (maxSteps := 3000000) [↓nc, ↓nt, ↓rS_ren, HH1]; rfl) ?_)
   simp only [zT, zB]
   refine cruns_ren (ren_kk 14 [0, 1, 9, 4] (by decide) (by simp) rfl (by simp [zr, renE, XB, Yw, ↓nc, ↓nt, ↓rS_ren, HH1] <;> rfl) (by simp [zr, renE, XB, Yw, ↓nc, ↓nt, ↓rS_ren, HH1] <;> rfl)) ?_
   exact l59_2 T hTb m c _ cs [] hc ht hok true
  ·skip
   refine Zl ?_
   refine Zt mixed hTb (Ye (by simp (maxSteps := 3000000) [↓nc, ↓nt, ↓rS_ren, HH1]; rfl) ?_)
   simp only [zT, zB]
   refine cruns_ren (ren_kk 14 [0, 1, 9, 4] (by decide) (by simp) rfl (by simp [zr, renE, XB, Yw, ↓nc, ↓nt, ↓rS_ren, HH1] <;> rfl) (by simp [zr, renE, XB, Yw, ↓nc, ↓nt, ↓rS_ren, HH1] <;> rfl)) ?_
   exact l59_2 T hTb m c _ cs [] hc ht hok true
 ·obtain ⟨tt, rfl⟩ := dStops_get ht (k := 0) (List.length_pos_iff.2 hts0)
  have hnz : ¬ ts.length = 0 := fun h => hts0 (List.eq_nil_of_length_eq_zero h)
  have hrr : ((ts.map rS3).all fun r => r.length == 3) = true := by simp [rS3]
  have hss : ((ts.map rS3).all fun r => r.all Zq) = true := by simp [rS3]
  have hll : ts.length ≤ 1048576 := by omega
  have tkl : (ts.map rS3).take ts.length = ts.map rS3 := List.take_of_length_le (by simp)
  skip
  refine Zl ?_
  refine Zt mixed hTb (Ye (by simp (maxSteps := 3000000) [↓nc, ↓nt, ↓rS_ren, HH1, hnz, hts0, ↓hrr, ↓hss, hll, tkl]; rfl) ?_)
  simp only [zT, zB]
  refine cruns_ren (ren_kk 14 [0, 1, 9, 11] (by decide) (by simp) rfl (by simp [zr, renE, XB, Yw, ↓nc, ↓nt, ↓rS_ren, HH1, hnz, hts0, ↓hrr, ↓hss, hll, tkl] <;> rfl) (by simp [zr, renE, XB, Yw, ↓nc, ↓nt, ↓rS_ren, HH1, hnz, hts0, ↓hrr, ↓hss, hll, tkl] <;> rfl)) ?_
  exact l59_2 T hTb m c _ cs ts hc ht hok false
end
end
end Go.Proofs.YtjjapdagllclkaaGreat.Tab
namespace Go.Proofs.YtjjapdagllclkaaGreat.Tab
open Go Go.Abs Go.Proofs
set_option maxRecDepth 100000
set_option maxHeartbeats 4000000
set_option linter.unusedSimpArgs false
set_option linter.unusedVariables false
noncomputable section
attribute [local simp] YC Yt XV XW YZ YY XX YJ Xw Ys Zd orcF XO YX XQ XM YE Yr rb_vl rb_pv XK YW YV YU XP XL XN rb_sl rb_fn slE chunk fillA Ym ZK putAt List.range_succ List.range_zero List.range'_succ List.range'_zero ZU ZS ZF ZW ZB ZM stepX Yh dop CV.ev Yu Zv ZA Xt fI_eq YA Yy Zy Zw Out.v putT List.replicate_succ zT zB arI ZN Abs.rowAt ldRow allV toV toC ofV ofC Builtin.min_ Builtin.min2 Builtin.max_ Builtin.max2 XT XU resA tupA kill ZT Yo Yp Yn Zc
section
attribute [local simp] ZV ZD Xp YN actD clash disj Xq holes Xr ZY Xu news eqB allB eqA Xf wrote toCs ofCs stA Yq ZE Yl dI1 dI2 dI3 dI5 elt
attribute [local simp] XH XD XI XE YS XG YP XF st_pv YO st_sl st_vl YQ st_mp st_fn YR XC co_any co_und co_agg co_tup Xe co_int Xb co_ref co_pv Xa co_sl co_vl Xc co_mp co_fn Xd XZ
attribute [local simp] above callA ZQ frN_int frN_sl lim lop loud norm posOf
open Classical in
def oEarl : List Za → Option Za
  | [x, y] => match ZI x, ZI y with
    | some A, some B => if EarlyOk A B then some (.bool false) else none
    | _, _ => none
  | _ => none
theorem earl_eq {x y : Za} {A B : List (List Int)} (hx : ZI x = some A) (hy : ZI y = some B) (h : EarlyOk A B) : oEarl [x, y] = some (.bool false) := by
  simp only [oEarl, hx, hy]; rw [if_pos h]
theorem earl_good : ∀ args v, oEarl args = some v → OrcGood Tryz.prog GG true 46 args v := fun args v ho => by
  unfold oEarl at ho; split at ho <;> (try simp only [reduceCtorEq] at ho)
  rename_i x y
  split at ho <;> (try simp only [reduceCtorEq] at ho)
  rename_i A B hx hy
  split at ho <;> (try simp only [reduceCtorEq] at ho)
  rename_i h
  simp only [Option.some.injEq] at ho
  subst ho
  exact YL mixed T_ok (a46 Tryz.prog T rfl x y A B hx hy h.len.1 h.len.2 h.row h.le)
def rowI (j : FJob) (p : Nat) : List Za := [I j.kind, I j.ready, I j.due, .sl p 0 j.mins.length false]
def YF (js : List FJob) (i0 : Nat) (p k : Nat) : List (List Za) := if i0 < k then ((js.take k).map Yf).set i0 (rowI (js.getD i0 default) p) else (js.take k).map Yf
theorem jobsI_lt {js : List FJob} {i0 p k : Nat} (h : k ≤ i0) : YF js i0 p k = (js.take k).map Yf := if_neg (by omega)
theorem jobsI_len {js : List FJob} {i0 p k : Nat} (h : k ≤ js.length) : (YF js i0 p k).length = k := by
  unfold YF; split <;> simp [h]
theorem jobsI_snoc {js : List FJob} {i0 p k : Nat} (hk : k < js.length) (hne : k ≠ i0) : YF js i0 p k ++ [Yf js[k]] = YF js i0 p (k + 1) := by
  have e : js.take (k + 1) = js.take k ++ [js[k]] := List.take_succ_eq_append_getElem hk
  unfold YF
  by_cases h : i0 < k
  · rw [if_pos h, if_pos (by omega), e, List.map_append, List.set_append_left _ _ (by simp; omega)]; rfl
  · rw [if_neg h, if_neg (by omega), e, List.map_append]; rfl
theorem jobsI_at {js : List FJob} {k p : Nat} (hk : k < js.length) : YF js k p k ++ [rowI js[k] p] = YF js k p (k + 1) := by
  have e : js.take (k + 1) = js.take k ++ [js[k]] := List.take_succ_eq_append_getElem hk
  have hl : ((js.take k).map Yf).length = k := by simp; omega
  unfold YF
  rw [if_neg (Nat.lt_irrefl k), if_pos (Nat.lt_succ_self k), e, List.map_append, List.set_append_right _ _ (by omega), hl, Nat.sub_self]
  simp [List.getD_eq_getElem?_getD, List.getElem?_eq_getElem hk]
theorem rowJ_ren (K : List Nat) (H : Zf) (j : FJob) : Zd (XA K H 5) (Yf j) = some (Yf j) := Zz _ fun x hx => Xg K H 5 x (by
  simp only [Yf, List.mem_cons, List.not_mem_nil, or_false] at hx
  rcases hx with rfl | rfl | rfl | rfl <;> first | rfl | exact Yc (dInts_encE _) 0 4)
theorem jobsI_ren {js : List FJob} {i0 p k : Nat} {K : List Nat} {H : Zf} (hp : posOf K p 0 = some p) : Zd (Zd (XA K H 5)) (YF js i0 p k) = some (YF js i0 p k) := Zz _ fun r hr => by
  unfold YF at hr
  split at hr
  · rcases List.mem_or_eq_of_mem_set hr with hr | rfl
    · obtain ⟨j, _, rfl⟩ := List.mem_map.1 hr; exact rowJ_ren K H j
    · simp [rowI, XA, renV1, hp]
  · obtain ⟨j, _, rfl⟩ := List.mem_map.1 hr; exact rowJ_ren K H j
theorem jobsI_mv {js : List FJob} {i0 p p' k : Nat} {K : List Nat} {H : Zf} (hp : posOf K p 0 = some p') : Zd (Zd (XA K H 5)) (YF js i0 p k) = some (YF js i0 p' k) := by
  have h0 : Zd (Zd (XA K H 5)) ((js.take k).map Yf) = some ((js.take k).map Yf) := Zz _ fun r hr => by
    obtain ⟨j, _, rfl⟩ := List.mem_map.1 hr; exact rowJ_ren K H j
  unfold YF
  split
  · exact optAll_setJ (by simp [rowI, XA, renV1, hp]) _ h0
  · exact h0
theorem jobsI_renF {js : List FJob} {i0 p k : Nat} {K : List Nat} {H : Zf} (hp : k ≤ i0) : Zd (Zd (XA K H 5)) (YF js i0 p k) = some (YF js i0 p k) := Zz _ fun r hr => by
  rw [jobsI_lt hp] at hr
  obtain ⟨j, _, rfl⟩ := List.mem_map.1 hr; exact rowJ_ren K H j
theorem jobsI_four {js : List FJob} {i0 p k : Nat} : ((YF js i0 p k).all fun r => r.length == 4) = true := by
  rw [List.all_eq_true]
  intro r hr
  unfold YF at hr
  split at hr
  · rcases List.mem_or_eq_of_mem_set hr with hr | rfl
    · obtain ⟨j, _, rfl⟩ := List.mem_map.1 hr; rfl
    · rfl
  · obtain ⟨j, _, rfl⟩ := List.mem_map.1 hr; rfl
theorem jobsI_st {js : List FJob} {i0 p k : Nat} : ((YF js i0 p k).all fun r => r.all Zq) = true := by
  have hj : ∀ j : FJob, (Yf j).all Zq = true := fun j => by
    have h := (Zp (dInts_encE j.mins)).2
    simp only [Yf, List.all_cons, h, List.all_nil, Bool.and_true]; rfl
  rw [List.all_eq_true]
  intro r hr
  unfold YF at hr
  split at hr
  · rcases List.mem_or_eq_of_mem_set hr with hr | rfl
    · obtain ⟨j, _, rfl⟩ := List.mem_map.1 hr; exact hj j
    · rfl
  · obtain ⟨j, _, rfl⟩ := List.mem_map.1 hr; exact hj j
theorem Yk (nv : Bool) (H : Zf) (d : Nat) (xs : List Int) : Zd (Zd (frz nv H (d + 1))) (xs.map rI) = some (xs.map rI) := Zz _ fun r hr => by
  obtain ⟨x, _, rfl⟩ := List.mem_map.1 hr; rfl
theorem renI (K : List Nat) (H : Zf) (xs : List Int) : Zd (Zd (XA K H 5)) (xs.map rI) = some (xs.map rI) := Zz _ fun r hr => by
  obtain ⟨x, _, rfl⟩ := List.mem_map.1 hr; rfl
theorem a60i (T : Nat → Option CFn) (hTb : Zr Tryz.prog GG T) (hT : T 60 = some c60) (j : Za) (js : List FJob) (hj : Xj j = some js) (hl : js.length ≤ 1000) (hm : ∀ x ∈ js, x.mins.length ≤ 1000) (hne : ∀ x ∈ js, x.mins ≠ []) (i0 : Nat) (hi0 : i0 < js.length) : SAns Tryz.prog GG 60 [j] [] fun v1 h1 => ∃ K : List Nat, K.Nodup ∧ XA K h1 5 v1 = some (.sl 0 0 js.length false) ∧ Zd (XB K h1) K = some [some (.row 4 (YF js i0 1 js.length)), some (.row 1 (js[i0].mins.map rI))] := by
 have fj := fun H d => dJobs_frz hj H d
 have rj := fun n d => dJobs_rb hj n d
 have lj := dJobs_len hj
 obtain ⟨cj1, cj2⟩ := dJobs_cells hj
 have hrj := fun K H => Xg K H 5 j (rj 0 4)
 have hz0 : ∀ p : Nat, (.sl p 0 0 true : Za) = .sl p 0 0 true := fun _ => rfl
 refine sans_of hTb hT (Zu rfl) ?_
 simp only [oo, om, op, og, ci, cl, c60]
 have HH1 := zA fj (zA rj (zA lj (zA cj1 (zA cj2 hz0))))
 refine Ya ?_
 refine YT mixed hTb (zR (zO (by simp [-Zc, ↓hrj, ↓renI, HH1]; rfl) ?_))
 simp only [zT, zB]
 refine Ya ?_
 refine YT mixed hTb (zR (zO (by simp [-Zc, ↓hrj, ↓renI, HH1]; rfl) ?_))
 simp only [zT, zB]
 refine Ya ?_
 refine Ya ?_
 refine YT mixed hTb (zR (zO (by simp [-Zc, ↓hrj, ↓renI, HH1]; rfl) ?_))
 simp only [zT, zB]
 refine sruns_block ?_
 refine sruns_loop (k := js.length - 0) (fun mm σ => ∃ (k : Nat) (i : Int), i = k ∧ js.length - k = mm ∧ k ≤ js.length ∧ ((k = 0 ∧ σ = ⟨[j, .any, .any, .sl 0 0 0 true, I i, .any, .any, .any, .any, .any, .any, .any, .any, .any, .any, .any, .any, .any, .any, .any, .any, .any, .any, .any, .any, .any, .any], [some (.row 4 []), none, none]⟩) ∨ (0 < k ∧ k ≤ i0 ∧ σ = ⟨[j, .any, .any, .sl 1 0 k false, I i, .any, .any, .any, .any, .any, .any, .any, .any, .any, .any, .any, .any, .any, .any, .any, .any, .any, .any, .any, .any, .any, .any], [some (.row 4 []), some (.row 4 (YF js i0 2 k)), none]⟩) ∨ (i0 < k ∧ σ = ⟨[j, .any, .any, .sl 1 0 k false, I i, .any, .any, .any, .any, .any, .any, .any, .any, .any, .any, .any, .any, .any, .any, .any, .any, .any, .any, .any, .any, .any, .any], [some (.row 4 []), some (.row 4 (YF js i0 2 k)), some (.row 1 (js[i0].mins.map rI))]⟩))) ⟨_, ren_kk 25 [0, 10, 11] (by decide) (by simp) rfl (by simp [zr, renE, XB, Yw, -Zc, ↓hrj, ↓renI, HH1] <;> rfl) (by simp [zr, renE, XB, Yw, -Zc, ↓hrj, ↓renI, HH1] <;> rfl), ⟨0, 0, rfl, rfl, Nat.zero_le _, .inl ⟨rfl, rfl⟩⟩⟩ ?_
 rintro mm σ ⟨k, i, hik, rfl, hkl, ⟨hk1, rfl⟩ | ⟨hk1, hki, rfl⟩ | ⟨hki, rfl⟩⟩
 ·refine Ya ?_
  refine Ya ?_
  refine YT mixed hTb (zR (zO (by simp [-Zc, ↓hrj, ↓renI, HH1]; rfl) ?_))
  simp only [zT, zB]
  refine sruns_cond_split (x := decide (i < (js.length : Int))) (by simp) (fun hlt => ?_) (fun hlt => ?_)
  ·have hlt2 := of_decide_eq_true hlt
   have hk0 : k < js.length := by omega
   obtain ⟨rs, tj, wv, rfl, hr1, hr2, hwv⟩ := dJobs_get hj hk0
   have hkr : k < rs.length := by omega
   have hr4 : ∀ h, rs[k]'h = [I js[k].kind, I js[k].ready, I js[k].due, wv] := fun h => by rw [List.getElem?_eq_getElem h] at hr2; exact Option.some.inj hr2
   have rw5 := fun n d => Yc hwv n d
   have fw5 := fun H d => ZG hwv H d
   have nw5 := fun K H => Xg K H 5 wv (rw5 0 4)
   obtain ⟨cw1, cw2⟩ := Zp hwv
   have hi0 : 0 ≤ i := by omega
   have htn : i.toNat = k := by omega
   have hwi : W .i64 (i + 1) = i + 1 := ZR (by omega)
   have hml := hm js[k] (List.getElem_mem hk0)
   have hnm := hne js[k] (List.getElem_mem hk0)
   have hsn := fun h => jobsI_snoc (js := js) (i0 := i0) (p := 2) hk0 h
   have hsa := fun (h : i0 = k) => (by subst h; exact jobsI_at hk0 : YF js i0 2 k ++ [rowI js[k] 2] = YF js i0 2 (k + 1))
   have hj0 : YF js i0 2 k = [] := by rw [jobsI_lt (by omega), hk1]; rfl
   rw [hj0, List.nil_append] at hsn hsa
   obtain ⟨tt, rfl⟩ := Xh hwv (k := 0) (List.length_pos_iff.2 hnm)
   have hrJ : Yf js[k] = [I js[k].kind, I js[k].ready, I js[k].due, .vl (js[k].mins.map rI) false] := by unfold Yf; rw [encE_ne hnm]
   have hrr : ((js[k].mins.map rI).all fun r => r.length == 1) = true := by simp [rI]
   have hss : ((js[k].mins.map rI).all fun r => r.all Zq) = true := by simp [rI]
   have hll : js[k].mins.length ≤ 1048576 := by omega
   have tkl : (js[k].mins.map rI).take js[k].mins.length = js[k].mins.map rI := List.take_of_length_le (by simp)
   have hnz : ¬ js[k].mins.length = 0 := fun h => hnm (List.eq_nil_of_length_eq_zero h)
   have hnz2 : ¬ js[k].mins = [] := hnm
   have HH2 := zA hi0 (zA htn (zA hk0 (zA hwi (zA hkr (zA hr2 (zA hr4 (zA rw5 (zA fw5 (zA cw1 (zA cw2 (zA hll (zA tkl (zA hnz hnz2)))))))))))))
   refine sruns_skip ?_
   simp only [zT, zB]
   refine Ya ?_
   refine sruns_block ?_
   refine Ya ?_
   refine YT mixed hTb (zR (zO (by simp [-Zc, ↓hrj, ↓renI, HH1, ↓nw5, zI, ↓hrr, ↓hss, Yk, HH2]; rfl) ?_))
   simp only [zT, zB]
   refine Ya ?_
   refine YT mixed hTb (zR (zO (by simp [-Zc, ↓hrj, ↓renI, HH1, ↓nw5, zI, ↓hrr, ↓hss, Yk, HH2]; rfl) ?_))
   simp only [zT, zB]
   refine YT mixed hTb (zR (zO (by simp [-Zc, ↓hrj, ↓renI, HH1, ↓nw5, zI, ↓hrr, ↓hss, Yk, HH2]; rfl) ?_))
   simp only [zT, zB]
   refine YT mixed hTb (zR (zO (by simp [-Zc, ↓hrj, ↓renI, HH1, ↓nw5, zI, ↓hrr, ↓hss, Yk, HH2]; rfl) ?_))
   simp only [zT, zB]
   by_cases hk2 : i0 = k
   ·have hap := hsa hk2
    rw [rowI] at hap
    have hmi : js[i0].mins = js[k].mins := by simp only [hk2]
    exact ⟨js.length - (k + 1), ⟨[.vl rs tj, .any, .any, .sl 1 0 1 false, I (i + 1), .any, .any, .any, .any, .any, .any, .any, .any, .any, .any, .any, .any, .any, .any, .any, .any, .any, .any, .any, .any, .any, .any], [some (.row 4 []), some (.row 4 (YF js i0 2 (k + 1))), some (.row 1 (js[i0].mins.map rI))]⟩, by omega, ren_kk 25 [0, 7, 5] (by decide) (by simp) rfl (by simp [zr, renE, XB, Yw, -Zc, ↓hrj, ↓renI, HH1, ↓nw5, zI, ↓hrr, ↓hss, Yk, HH2, hmi, hap] <;> rfl) (by simp [zr, renE, XB, Yw, -Zc, ↓hrj, ↓renI, HH1, ↓nw5, zI, ↓hrr, ↓hss, Yk, HH2, hmi, hap] <;> rfl), k + 1, i + 1, by omega, rfl, by omega, .inr (.inr ⟨by omega, by rw [hk1]⟩)⟩
   ·have hap := hsn (by omega)
    rw [hrJ] at hap
    exact ⟨js.length - (k + 1), ⟨[.vl rs tj, .any, .any, .sl 1 0 1 false, I (i + 1), .any, .any, .any, .any, .any, .any, .any, .any, .any, .any, .any, .any, .any, .any, .any, .any, .any, .any, .any, .any, .any, .any], [some (.row 4 []), some (.row 4 (YF js i0 2 (k + 1))), none]⟩, by omega, ren_kk 25 [0, 7, 2] (by decide) (by simp) rfl (by simp [zr, renE, XB, Yw, -Zc, ↓hrj, ↓renI, HH1, ↓nw5, zI, ↓hrr, ↓hss, Yk, HH2, hap] <;> rfl) (by simp [zr, renE, XB, Yw, -Zc, ↓hrj, ↓renI, HH1, ↓nw5, zI, ↓hrr, ↓hss, Yk, HH2, hap] <;> rfl), k + 1, i + 1, by omega, rfl, by omega, .inr (.inl ⟨by omega, by omega, by rw [hk1]⟩)⟩
  ·have hx1 := of_decide_eq_false hlt
   have hkE : k = js.length := by omega
   omega
 ·have hal : (YF js i0 2 k).length = k := jobsI_len hkl
  have tk : (YF js i0 2 k).take k = YF js i0 2 k := List.take_of_length_le (by omega)
  have h4 : ((YF js i0 2 k).all fun r => r.length == 4) = true := jobsI_four
  have hst : ((YF js i0 2 k).all fun r => r.all Zq) = true := jobsI_st
  have hlac : k + 1 ≤ 1048576 := by omega
  have hre := fun K H (h : posOf K 2 0 = some 2) r => optAll_cat (jobsI_ren (js := js) (i0 := i0) (k := k) (H := H) h) r
  have hrf := fun K H (h : posOf K 2 0 = some 2) => jobsI_ren (js := js) (i0 := i0) (k := k) (H := H) h
  clear hre hrf
  have hre := fun K H r => optAll_cat (jobsI_renF (js := js) (p := 2) (K := K) (H := H) hki) r
  have hrf := fun K H => jobsI_renF (js := js) (p := 2) (K := K) (H := H) hki
  have HH3 := zA hal (zA tk (zA hlac (zA hre hrf)))
  refine Ya ?_
  refine Ya ?_
  refine YT mixed hTb (zR (zO (by simp [-Zc, ↓hrj, ↓renI, HH1, ↓h4, ↓hst, HH3]; rfl) ?_))
  simp only [zT, zB]
  refine sruns_cond_split (x := decide (i < (js.length : Int))) (by simp) (fun hlt => ?_) (fun hlt => ?_)
  ·have hlt2 := of_decide_eq_true hlt
   have hk0 : k < js.length := by omega
   obtain ⟨rs, tj, wv, rfl, hr1, hr2, hwv⟩ := dJobs_get hj hk0
   have hkr : k < rs.length := by omega
   have hr4 : ∀ h, rs[k]'h = [I js[k].kind, I js[k].ready, I js[k].due, wv] := fun h => by rw [List.getElem?_eq_getElem h] at hr2; exact Option.some.inj hr2
   have rw5 := fun n d => Yc hwv n d
   have fw5 := fun H d => ZG hwv H d
   have nw5 := fun K H => Xg K H 5 wv (rw5 0 4)
   obtain ⟨cw1, cw2⟩ := Zp hwv
   have hi0 : 0 ≤ i := by omega
   have htn : i.toNat = k := by omega
   have hwi : W .i64 (i + 1) = i + 1 := ZR (by omega)
   have hml := hm js[k] (List.getElem_mem hk0)
   have hnm := hne js[k] (List.getElem_mem hk0)
   have hsn := fun h => jobsI_snoc (js := js) (i0 := i0) (p := 2) hk0 h
   have hsa := fun (h : i0 = k) => (by subst h; exact jobsI_at hk0 : YF js i0 2 k ++ [rowI js[k] 2] = YF js i0 2 (k + 1))
   generalize hAC : YF js i0 2 k = AC at *
   obtain ⟨tt, rfl⟩ := Xh hwv (k := 0) (List.length_pos_iff.2 hnm)
   have hrJ : Yf js[k] = [I js[k].kind, I js[k].ready, I js[k].due, .vl (js[k].mins.map rI) false] := by unfold Yf; rw [encE_ne hnm]
   have hrr : ((js[k].mins.map rI).all fun r => r.length == 1) = true := by simp [rI]
   have hss : ((js[k].mins.map rI).all fun r => r.all Zq) = true := by simp [rI]
   have hll : js[k].mins.length ≤ 1048576 := by omega
   have tkl : (js[k].mins.map rI).take js[k].mins.length = js[k].mins.map rI := List.take_of_length_le (by simp)
   have hnz : ¬ js[k].mins.length = 0 := fun h => hnm (List.eq_nil_of_length_eq_zero h)
   have hnz2 : ¬ js[k].mins = [] := hnm
   have HH4 := zA hi0 (zA htn (zA hk0 (zA hwi (zA hkr (zA hr2 (zA hr4 (zA rw5 (zA fw5 (zA cw1 (zA cw2 (zA hll (zA tkl (zA hnz hnz2)))))))))))))
   have HH5 := zA hrj (zA h4 (zA hst (zA nw5 (zA hrr hss))))
   refine sruns_skip ?_
   simp only [zT, zB]
   refine Ya ?_
   refine sruns_block ?_
   refine Ya ?_
   refine YT mixed hTb (zR (zO (by simp [-Zc, ↓renI, HH1, HH3, zI, Yk, HH4, ↓HH5]; rfl) ?_))
   simp only [zT, zB]
   refine Ya ?_
   refine YT mixed hTb (zR (zO (by simp [-Zc, ↓renI, HH1, HH3, zI, Yk, HH4, ↓HH5]; rfl) ?_))
   simp only [zT, zB]
   refine YT mixed hTb (zR (zO (by simp [-Zc, ↓renI, HH1, HH3, zI, Yk, HH4, ↓HH5]; rfl) ?_))
   simp only [zT, zB]
   refine YT mixed hTb (zR (zO (by simp [-Zc, ↓renI, HH1, HH3, zI, Yk, HH4, ↓HH5]; rfl) ?_))
   simp only [zT, zB]
   by_cases hk2 : i0 = k
   ·have hap := hsa hk2
    rw [rowI] at hap
    have hmi : js[i0].mins = js[k].mins := by simp only [hk2]
    exact ⟨js.length - (k + 1), ⟨[.vl rs tj, .any, .any, .sl 1 0 (k + 1) false, I (i + 1), .any, .any, .any, .any, .any, .any, .any, .any, .any, .any, .any, .any, .any, .any, .any, .any, .any, .any, .any, .any, .any, .any], [some (.row 4 []), some (.row 4 (YF js i0 2 (k + 1))), some (.row 1 (js[i0].mins.map rI))]⟩, by omega, ren_kk 25 [0, 7, 5] (by decide) (by simp) rfl (by simp [zr, renE, XB, Yw, -Zc, ↓renI, HH1, HH3, zI, Yk, HH4, ↓HH5, hmi, hap] <;> rfl) (by simp [zr, renE, XB, Yw, -Zc, ↓renI, HH1, HH3, zI, Yk, HH4, ↓HH5, hmi, hap] <;> rfl), k + 1, i + 1, by omega, rfl, by omega, .inr (.inr ⟨by omega, rfl⟩)⟩
   ·have hap := hsn (by omega)
    rw [hrJ] at hap
    exact ⟨js.length - (k + 1), ⟨[.vl rs tj, .any, .any, .sl 1 0 (k + 1) false, I (i + 1), .any, .any, .any, .any, .any, .any, .any, .any, .any, .any, .any, .any, .any, .any, .any, .any, .any, .any, .any, .any, .any, .any], [some (.row 4 []), some (.row 4 (YF js i0 2 (k + 1))), none]⟩, by omega, ren_kk 25 [0, 7, 2] (by decide) (by simp) rfl (by simp [zr, renE, XB, Yw, -Zc, ↓renI, HH1, HH3, zI, Yk, HH4, ↓HH5, hap] <;> rfl) (by simp [zr, renE, XB, Yw, -Zc, ↓renI, HH1, HH3, zI, Yk, HH4, ↓HH5, hap] <;> rfl), k + 1, i + 1, by omega, rfl, by omega, .inr (.inl ⟨by omega, by omega, rfl⟩)⟩
  ·have hx1 := of_decide_eq_false hlt
   have hkE : k = js.length := by omega
   omega
 ·have hal : (YF js i0 2 k).length = k := jobsI_len hkl
  have tk : (YF js i0 2 k).take k = YF js i0 2 k := List.take_of_length_le (by omega)
  have h4 : ((YF js i0 2 k).all fun r => r.length == 4) = true := jobsI_four
  have hst : ((YF js i0 2 k).all fun r => r.all Zq) = true := jobsI_st
  have hlac : k + 1 ≤ 1048576 := by omega
  have hre := fun K H (h : posOf K 2 0 = some 2) r => optAll_cat (jobsI_ren (js := js) (i0 := i0) (k := k) (H := H) h) r
  have hrf := fun K H (h : posOf K 2 0 = some 2) => jobsI_ren (js := js) (i0 := i0) (k := k) (H := H) h
  have HH6 := zA hal (zA tk (zA hlac (zA hre hrf)))
  refine Ya ?_
  refine Ya ?_
  refine YT mixed hTb (zR (zO (by simp [-Zc, ↓hrj, ↓renI, HH1, ↓h4, ↓hst, HH6]; rfl) ?_))
  simp only [zT, zB]
  refine sruns_cond_split (x := decide (i < (js.length : Int))) (by simp) (fun hlt => ?_) (fun hlt => ?_)
  ·have hlt2 := of_decide_eq_true hlt
   have hk0 : k < js.length := by omega
   obtain ⟨rs, tj, wv, rfl, hr1, hr2, hwv⟩ := dJobs_get hj hk0
   have hkr : k < rs.length := by omega
   have hr4 : ∀ h, rs[k]'h = [I js[k].kind, I js[k].ready, I js[k].due, wv] := fun h => by rw [List.getElem?_eq_getElem h] at hr2; exact Option.some.inj hr2
   have rw5 := fun n d => Yc hwv n d
   have fw5 := fun H d => ZG hwv H d
   have nw5 := fun K H => Xg K H 5 wv (rw5 0 4)
   obtain ⟨cw1, cw2⟩ := Zp hwv
   have hi0 : 0 ≤ i := by omega
   have htn : i.toNat = k := by omega
   have hwi : W .i64 (i + 1) = i + 1 := ZR (by omega)
   have hml := hm js[k] (List.getElem_mem hk0)
   have hnm := hne js[k] (List.getElem_mem hk0)
   have hsn := fun h => jobsI_snoc (js := js) (i0 := i0) (p := 2) hk0 h
   have hsa := fun (h : i0 = k) => (by subst h; exact jobsI_at hk0 : YF js i0 2 k ++ [rowI js[k] 2] = YF js i0 2 (k + 1))
   generalize hAC : YF js i0 2 k = AC at *
   obtain ⟨tt, rfl⟩ := Xh hwv (k := 0) (List.length_pos_iff.2 hnm)
   have hrJ : Yf js[k] = [I js[k].kind, I js[k].ready, I js[k].due, .vl (js[k].mins.map rI) false] := by unfold Yf; rw [encE_ne hnm]
   have hrr : ((js[k].mins.map rI).all fun r => r.length == 1) = true := by simp [rI]
   have hss : ((js[k].mins.map rI).all fun r => r.all Zq) = true := by simp [rI]
   have hll : js[k].mins.length ≤ 1048576 := by omega
   have tkl : (js[k].mins.map rI).take js[k].mins.length = js[k].mins.map rI := List.take_of_length_le (by simp)
   have hnz : ¬ js[k].mins.length = 0 := fun h => hnm (List.eq_nil_of_length_eq_zero h)
   have hnz2 : ¬ js[k].mins = [] := hnm
   have HH7 := zA hi0 (zA htn (zA hk0 (zA hwi (zA hkr (zA hr2 (zA hr4 (zA rw5 (zA fw5 (zA cw1 (zA cw2 (zA hll (zA tkl (zA hnz hnz2)))))))))))))
   have HH8 := zA hrj (zA h4 (zA hst (zA nw5 (zA hrr hss))))
   refine sruns_skip ?_
   simp only [zT, zB]
   refine Ya ?_
   refine sruns_block ?_
   refine Ya ?_
   refine YT mixed hTb (zR (zO (by simp [-Zc, ↓renI, HH1, HH6, zI, Yk, HH7, ↓HH8]; rfl) ?_))
   simp only [zT, zB]
   refine Ya ?_
   refine YT mixed hTb (zR (zO (by simp [-Zc, ↓renI, HH1, HH6, zI, Yk, HH7, ↓HH8]; rfl) ?_))
   simp only [zT, zB]
   refine YT mixed hTb (zR (zO (by simp [-Zc, ↓renI, HH1, HH6, zI, Yk, HH7, ↓HH8]; rfl) ?_))
   simp only [zT, zB]
   refine YT mixed hTb (zR (zO (by simp [-Zc, ↓renI, HH1, HH6, zI, Yk, HH7, ↓HH8]; rfl) ?_))
   simp only [zT, zB]
   have hap := hsn (by omega)
   rw [hrJ] at hap
   exact ⟨js.length - (k + 1), ⟨[.vl rs tj, .any, .any, .sl 1 0 (k + 1) false, I (i + 1), .any, .any, .any, .any, .any, .any, .any, .any, .any, .any, .any, .any, .any, .any, .any, .any, .any, .any, .any, .any, .any, .any], [some (.row 4 []), some (.row 4 (YF js i0 2 (k + 1))), some (.row 1 (js[i0].mins.map rI))]⟩, by omega, ren_kk 25 [0, 7, 2] (by decide) (by simp) rfl (by simp [zr, renE, XB, Yw, -Zc, ↓renI, HH1, HH6, zI, Yk, HH7, ↓HH8, hap] <;> rfl) (by simp [zr, renE, XB, Yw, -Zc, ↓renI, HH1, HH6, zI, Yk, HH7, ↓HH8, hap] <;> rfl), k + 1, i + 1, by omega, rfl, by omega, .inr (.inr ⟨by omega, rfl⟩)⟩
  ·have hx1 := of_decide_eq_false hlt
   have hkE : k = js.length := by omega
   subst hkE
   refine sruns_exit ?_
   simp only [zT, zB, if_true, if_false, reduceIte, Nat.reduceEqDiff, Nat.succ_ne_zero, Nat.one_ne_zero, Nat.zero_ne_one]
   refine Ya ?_
   refine YT mixed hTb (zR (zO (by simp [-Zc, ↓hrj, ↓renI, HH1, ↓h4, ↓hst, HH6]; rfl) ?_))
   simp only [zT, zB]
   refine sruns_ret ?_
   refine ⟨by simp, _, by simp; rfl, [1, 2], by decide, by simp [trim, renV_sl], ?_⟩
   simp [trim, XB, renI, jobsI_mv]
theorem dInts_frN {v : Za} {xs : List Int} (h : Yd v = some xs) (n : Nat) (H : Zf) (d : Nat) : frN n H (d + 1) v = some v := rowsV_frN (dInts_rows h) n H d
theorem a60p (T : Nat → Option CFn) (hTb : Zr Tryz.prog GG T) (hT : T 60 = some c60) (rs : List (List Za)) (js : List FJob) (hrs : Zd dJob rs = some js) (hl : js.length ≤ 1000) (hl0 : 0 < js.length) (hm : ∀ x ∈ js, x.mins.length ≤ 1000) (hne : ∀ x ∈ js, x.mins ≠ []) (tt : Bool) : SAns Tryz.prog GG 60 [.sl 0 0 js.length tt] [some (.row 4 rs)] fun v1 h1 => norm 1 v1 h1 = some (.vl (js.map Yf) false, [some (.row 4 rs)]) := by
 have hrl : rs.length = js.length := by have := (Zx hrs).1; exact this
 have hrs1 : ∀ K H, Zd (Zd (XA K H 5)) rs = some rs := fun K H => Zz _ fun r hr => Zz _ fun x hx => by
  have h1 := List.all_eq_true.1 (rJ_rb hrs 0 4) r hr
  exact Xg K H 5 x (List.all_eq_true.1 h1 x hx)
 have hfr : ∀ n H d, Zd (Zd (frN n H (d + 1))) rs = some rs := fun n H d => Zz _ fun r hr => by
  obtain ⟨x, v, rfl, hv⟩ := jrows_at hrs r hr
  simp [dInts_frN hv]
 refine sans_of hTb hT (Zu rfl) ?_
 simp only [oo, om, op, og, ci, cl, c60]
 refine Ya ?_
 refine YT mixed hTb (zR (zO (by simp [↓hrs1, hfr]; rfl) ?_))
 simp only [zT, zB]
 refine Ya ?_
 refine YT mixed hTb (zR (zO (by simp [↓hrs1, hfr]; rfl) ?_))
 simp only [zT, zB]
 refine Ya ?_
 refine Ya ?_
 refine YT mixed hTb (zR (zO (by simp [↓hrs1, hfr]; rfl) ?_))
 simp only [zT, zB]
 refine sruns_block ?_
 refine sruns_loop (k := js.length - 0) (fun mm σ => ∃ (k : Nat) (i : Int), i = k ∧ js.length - k = mm ∧ k ≤ js.length ∧ ((k = 0 ∧ σ = ⟨[.sl 0 0 js.length tt, .any, .any, .sl 1 0 0 true, I i, .any, .any, .any, .any, .any, .any, .any, .any, .any, .any, .any, .any, .any, .any, .any, .any, .any, .any, .any, .any, .any, .any], [some (.row 4 rs), some (.row 4 []), none]⟩) ∨ (0 < k ∧ σ = ⟨[.sl 0 0 js.length tt, .any, .any, .sl 2 0 k false, I i, .any, .any, .any, .any, .any, .any, .any, .any, .any, .any, .any, .any, .any, .any, .any, .any, .any, .any, .any, .any, .any, .any], [some (.row 4 rs), some (.row 4 []), some (.row 4 (YF js js.length 0 k))]⟩))) ⟨_, ren_kk 25 [0, 1, 10] (by decide) (by simp) rfl (by simp [zr, renE, XB, Yw, ↓hrs1, hfr] <;> rfl) (by simp [zr, renE, XB, Yw, ↓hrs1, hfr] <;> rfl), ⟨0, 0, rfl, rfl, Nat.zero_le _, .inl ⟨rfl, rfl⟩⟩⟩ ?_
 rintro mm σ ⟨k, i, hik, rfl, hkl, ⟨hk1, rfl⟩ | ⟨hk1, rfl⟩⟩
 ·refine Ya ?_
  refine Ya ?_
  refine YT mixed hTb (zR (zO (by simp [↓hrs1, hfr]; rfl) ?_))
  simp only [zT, zB]
  refine sruns_cond_split (x := decide (i < (js.length : Int))) (by simp) (fun hlt => ?_) (fun hlt => ?_)
  ·have hlt2 := of_decide_eq_true hlt
   have hk0 : k < js.length := by omega
   have hkr : k < rs.length := by omega
   obtain ⟨_, hgj⟩ := Zx hrs
   obtain ⟨wv, hr2, hwv⟩ := dJob_eq (hgj k hkr hk0)
   have hr1 : rs[k]? = some [I js[k].kind, I js[k].ready, I js[k].due, wv] := by rw [List.getElem?_eq_getElem hkr, hr2]
   have hr4 : ∀ h, rs[k]'h = [I js[k].kind, I js[k].ready, I js[k].due, wv] := fun h => hr2
   have rw5 := fun n d => Yc hwv n d
   have fw5 := fun H d => ZG hwv H d
   have nw5 := fun K H => Xg K H 5 wv (rw5 0 4)
   obtain ⟨cw1, cw2⟩ := Zp hwv
   have hi0 : 0 ≤ i := by omega
   have htn : i.toNat = k := by omega
   have hwi : W .i64 (i + 1) = i + 1 := ZR (by omega)
   have hiL : i < (js.length : Int) := by omega
   have hml := hm js[k] (List.getElem_mem hk0)
   have hnm := hne js[k] (List.getElem_mem hk0)
   have hlr : js.length ≤ rs.length := by omega
   have hap := jobsI_snoc (js := js) (i0 := js.length) (p := 0) hk0 (by omega)
   have hrJ : Yf js[k] = [I js[k].kind, I js[k].ready, I js[k].due, .vl (js[k].mins.map rI) false] := by unfold Yf; rw [encE_ne hnm]
   rw [hrJ] at hap
   have hj0 : YF js js.length 0 k = [] := by rw [jobsI_lt hkl, hk1]; rfl
   rw [hj0, List.nil_append] at hap
   obtain ⟨tw, rfl⟩ := Xh hwv (k := 0) (List.length_pos_iff.2 hnm)
   have hrr : ((js[k].mins.map rI).all fun r => r.length == 1) = true := by simp [rI]
   have hss : ((js[k].mins.map rI).all fun r => r.all Zq) = true := by simp [rI]
   have hll : js[k].mins.length ≤ 1048576 := by omega
   have tkl : (js[k].mins.map rI).take js[k].mins.length = js[k].mins.map rI := List.take_of_length_le (by simp)
   have hnz : ¬ js[k].mins.length = 0 := fun h => hnm (List.eq_nil_of_length_eq_zero h)
   have hnz2 : ¬ js[k].mins = [] := hnm
   have HH1 := zA hfr (zA hi0 (zA htn (zA hlr (zA hiL (zA hk0 (zA hwi (zA hkr (zA hr1 (zA hr4 (zA rw5 (zA fw5 (zA cw1 (zA cw2 (zA hll (zA tkl (zA hnz hnz2))))))))))))))))
   refine sruns_skip ?_
   simp only [zT, zB]
   refine Ya ?_
   refine sruns_block ?_
   refine Ya ?_
   refine YT mixed hTb (zR (zO (by simp [↓hrs1, ↓nw5, zI, ↓hrr, ↓hss, Yk, HH1]; rfl) ?_))
   simp only [zT, zB]
   refine Ya ?_
   refine YT mixed hTb (zR (zO (by simp [↓hrs1, ↓nw5, zI, ↓hrr, ↓hss, Yk, HH1]; rfl) ?_))
   simp only [zT, zB]
   refine YT mixed hTb (zR (zO (by simp [↓hrs1, ↓nw5, zI, ↓hrr, ↓hss, Yk, HH1]; rfl) ?_))
   simp only [zT, zB]
   refine YT mixed hTb (zR (zO (by simp [↓hrs1, ↓nw5, zI, ↓hrr, ↓hss, Yk, HH1]; rfl) ?_))
   simp only [zT, zB]
   exact ⟨js.length - (k + 1), ⟨[.sl 0 0 js.length tt, .any, .any, .sl 2 0 1 false, I (i + 1), .any, .any, .any, .any, .any, .any, .any, .any, .any, .any, .any, .any, .any, .any, .any, .any, .any, .any, .any, .any, .any, .any], [some (.row 4 rs), some (.row 4 []), some (.row 4 (YF js js.length 0 (k + 1)))]⟩, by omega, ren_kk 25 [0, 1, 7] (by decide) (by simp) rfl (by simp [zr, renE, XB, Yw, ↓hrs1, ↓nw5, zI, ↓hrr, ↓hss, Yk, HH1, hap] <;> rfl) (by simp [zr, renE, XB, Yw, ↓hrs1, ↓nw5, zI, ↓hrr, ↓hss, Yk, HH1, hap] <;> rfl), k + 1, i + 1, by omega, rfl, by omega, .inr ⟨by omega, by rw [hk1]⟩⟩
  ·have hx1 := of_decide_eq_false hlt
   have hkE : k = js.length := by omega
   omega
 ·have hal : (YF js js.length 0 k).length = k := jobsI_len hkl
  have tk : (YF js js.length 0 k).take k = YF js js.length 0 k := List.take_of_length_le (by omega)
  have h4 : ((YF js js.length 0 k).all fun r => r.length == 4) = true := jobsI_four
  have hst : ((YF js js.length 0 k).all fun r => r.all Zq) = true := jobsI_st
  have hlac : k + 1 ≤ 1048576 := by omega
  have hre := fun K H r => optAll_cat (jobsI_renF (js := js) (p := 0) (K := K) (H := H) hkl) r
  have hrf := fun K H => jobsI_renF (js := js) (p := 0) (K := K) (H := H) hkl
  have HH2 := zA hfr (zA hal (zA tk (zA hlac (zA hre hrf))))
  refine Ya ?_
  refine Ya ?_
  refine YT mixed hTb (zR (zO (by simp [↓hrs1, ↓h4, ↓hst, HH2]; rfl) ?_))
  simp only [zT, zB]
  refine sruns_cond_split (x := decide (i < (js.length : Int))) (by simp) (fun hlt => ?_) (fun hlt => ?_)
  ·have hlt2 := of_decide_eq_true hlt
   have hk0 : k < js.length := by omega
   have hkr : k < rs.length := by omega
   obtain ⟨_, hgj⟩ := Zx hrs
   obtain ⟨wv, hr2, hwv⟩ := dJob_eq (hgj k hkr hk0)
   have hr1 : rs[k]? = some [I js[k].kind, I js[k].ready, I js[k].due, wv] := by rw [List.getElem?_eq_getElem hkr, hr2]
   have hr4 : ∀ h, rs[k]'h = [I js[k].kind, I js[k].ready, I js[k].due, wv] := fun h => hr2
   have rw5 := fun n d => Yc hwv n d
   have fw5 := fun H d => ZG hwv H d
   have nw5 := fun K H => Xg K H 5 wv (rw5 0 4)
   obtain ⟨cw1, cw2⟩ := Zp hwv
   have hi0 : 0 ≤ i := by omega
   have htn : i.toNat = k := by omega
   have hwi : W .i64 (i + 1) = i + 1 := ZR (by omega)
   have hiL : i < (js.length : Int) := by omega
   have hml := hm js[k] (List.getElem_mem hk0)
   have hnm := hne js[k] (List.getElem_mem hk0)
   have hlr : js.length ≤ rs.length := by omega
   have hap := jobsI_snoc (js := js) (i0 := js.length) (p := 0) hk0 (by omega)
   have hrJ : Yf js[k] = [I js[k].kind, I js[k].ready, I js[k].due, .vl (js[k].mins.map rI) false] := by unfold Yf; rw [encE_ne hnm]
   rw [hrJ] at hap
   generalize YF js js.length 0 k = AC at *
   obtain ⟨tw, rfl⟩ := Xh hwv (k := 0) (List.length_pos_iff.2 hnm)
   have hrr : ((js[k].mins.map rI).all fun r => r.length == 1) = true := by simp [rI]
   have hss : ((js[k].mins.map rI).all fun r => r.all Zq) = true := by simp [rI]
   have hll : js[k].mins.length ≤ 1048576 := by omega
   have tkl : (js[k].mins.map rI).take js[k].mins.length = js[k].mins.map rI := List.take_of_length_le (by simp)
   have hnz : ¬ js[k].mins.length = 0 := fun h => hnm (List.eq_nil_of_length_eq_zero h)
   have hnz2 : ¬ js[k].mins = [] := hnm
   have HH3 := zA hi0 (zA htn (zA hlr (zA hiL (zA hk0 (zA hwi (zA hkr (zA hr1 (zA hr4 (zA rw5 (zA fw5 (zA cw1 (zA cw2 (zA hll (zA tkl (zA hnz hnz2)))))))))))))))
   have HH4 := zA hrs1 (zA h4 (zA hst (zA nw5 (zA hrr hss))))
   refine sruns_skip ?_
   simp only [zT, zB]
   refine Ya ?_
   refine sruns_block ?_
   refine Ya ?_
   refine YT mixed hTb (zR (zO (by simp [HH2, zI, Yk, HH3, ↓HH4]; rfl) ?_))
   simp only [zT, zB]
   refine Ya ?_
   refine YT mixed hTb (zR (zO (by simp [HH2, zI, Yk, HH3, ↓HH4]; rfl) ?_))
   simp only [zT, zB]
   refine YT mixed hTb (zR (zO (by simp [HH2, zI, Yk, HH3, ↓HH4]; rfl) ?_))
   simp only [zT, zB]
   refine YT mixed hTb (zR (zO (by simp [HH2, zI, Yk, HH3, ↓HH4]; rfl) ?_))
   simp only [zT, zB]
   exact ⟨js.length - (k + 1), ⟨[.sl 0 0 js.length tt, .any, .any, .sl 2 0 (k + 1) false, I (i + 1), .any, .any, .any, .any, .any, .any, .any, .any, .any, .any, .any, .any, .any, .any, .any, .any, .any, .any, .any, .any, .any, .any], [some (.row 4 rs), some (.row 4 []), some (.row 4 (YF js js.length 0 (k + 1)))]⟩, by omega, ren_kk 25 [0, 1, 7] (by decide) (by simp) rfl (by simp [zr, renE, XB, Yw, HH2, zI, Yk, HH3, ↓HH4, hap] <;> rfl) (by simp [zr, renE, XB, Yw, HH2, zI, Yk, HH3, ↓HH4, hap] <;> rfl), k + 1, i + 1, by omega, rfl, by omega, .inr ⟨by omega, rfl⟩⟩
  ·have hx1 := of_decide_eq_false hlt
   have hkE : k = js.length := by omega
   subst hkE
   have htE : YF js js.length 0 js.length = js.map Yf := by rw [jobsI_lt (Nat.le_refl _), List.take_length]
   have htk2 : (js.map Yf).take js.length = js.map Yf := List.take_of_length_le (by simp)
   rw [htE]
   refine sruns_exit ?_
   simp only [zT, zB, if_true, if_false, reduceIte, Nat.reduceEqDiff, Nat.succ_ne_zero, Nat.one_ne_zero, Nat.zero_ne_one]
   refine Ya ?_
   refine YT mixed hTb (zR (zO (by simp [↓hrs1, ↓h4, ↓hst, HH2]; rfl) ?_))
   simp only [zT, zB]
   refine sruns_ret ?_
   refine ⟨by simp, _, by simp; rfl, ?_⟩
   simp [htk2, trim, frz_rowJ, hfr, frNB]
end
end
end Go.Proofs.YtjjapdagllclkaaGreat.Tab
