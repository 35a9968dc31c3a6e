/- What the row of stores shares: depots in bytes. No condition. -/
import Derived.OpenShut
import Derived.Test.YtpebmjeomlgmdaaDoorPzEDz
import Derived.Test.YtpebmjeomlgmdaaDoorPzDDz
set_option linter.unusedSimpArgs false
set_option linter.unusedVariables false
namespace Go.Proofs.YtpebmjeomlgmdaaDoor.Tab
open Go Go.Abs Go.Proofs
set_option maxRecDepth 100000
set_option maxHeartbeats 4000000
set_option linter.unusedSimpArgs false
set_option linter.unusedVariables false
section
attribute [local simp] YF Yn Xy Xz YL YG XA YK Xe Yx Zf orcF Xs YT Xu Xq YS Yv rb_vl rb_pv Xo YR YQ YP Xt Xp Xr rb_sl rb_fn slE XZ Xj Ym ZN XC List.range_succ List.range_zero List.range'_succ List.range'_zero Yd Yb ZC Yf ZP ZU Xl Yh dop CV.ev Yp Zx ZK Xb fI_eq Yq Ya ZJ Zy Out.v XG List.replicate_succ zT zB arI ZL Abs.rowAt XB allV toV toC ofV ofC Builtin.min_ Builtin.min2 Builtin.max_ Builtin.max2 Xv Xw resA tupA Xx Yc Ys Yt Yr Zb
section
attribute [local simp] Ye ZR YW YN actD Xn disj YZ holes Xa ZW Xd news eqB Xh eqA YJ Xi toCs ofCs stA Yu ZS Yy dI1 dI2 dI3 dI5 elt
attribute [local simp] st_any st_und st_agg st_tup XR st_int XO st_ref st_pv XN st_sl st_vl XP st_mp st_fn XQ st_yld co_any co_und co_agg co_tup XW co_int XT co_ref co_pv XS co_sl co_vl XU co_mp co_fn XV co_yld
attribute [local simp] Yz Zs lim lop YC okA okBlk plainA posOf putH setH
attribute [local simp] zA8 zA32 zA128
theorem a9B (T T2 : Nat → Option CFn) (hTb : Zz Tryd.prog GG T) (hTb2 : Zz Tryd.prog GG T2) (h46x : T2 46 = some { c46 with frsh := false, orc := fun _ => none, eff := freshE true sRooms }) (hT : T 9 = some c9) (h12 : T 12 = some { c12 with frsh := true, orc := o12 }) (h40 : T 40 = some { c40 with frsh := true, orc := o40n }) (h43 : T 43 = some { c43 with body := annK [(114, [.slot 4]), (306, [.slot 5])] [] c43.body, frsh := false, orc := o43 }) (h44 : T 44 = some { c44 with frsh := false, orc := o44 }) (h45 : T 45 = some { c45 with frsh := false, orc := o45 }) (h46 : T 46 = some { c46 with frsh := false, orc := o46 }) (h47 : T 47 = some { c47 with frsh := false, orc := o47 }) (h48 : T 48 = some { c48 with frsh := true, orc := o48 }) (h49 : T 49 = some { c49 with frsh := true, orc := o49 }) (x y mx : Za) (xs : List R4) (ys : List (Nat × Nat × Nat)) (bs : List Nat) (hx : Zn x = some (xs.map r4)) (hy : Zn y = some (ys.map r3u)) (hz : Zn mx = some (bs.map r1u)) (hbx : ∀ v ∈ xs, R4Ok v) (hby : ∀ v ∈ ys, R3Ok v) (hbz : ∀ v ∈ bs, v < 256) (a b : Nat) (ha : a < 256) (hb : b < 256) (hf : YE (Xm ((a % 21 : Nat) : Int) ((b % 21 : Nat) : Int) ((xs.take 6).map deIt) ((ys.take 4).map YM)) (2 ^ ((xs.take 6).map deIt).length - 1) (plOf ((ys.take 4).map YM)) = false) : CAns Tryd.prog GG 9 [.agg [x, y], .agg [.int .u8 (a : Nat), .int .u8 (b : Nat)], mx] [] fun v h => v = .bool true := by
 have lz := ZD hz
 rw [List.length_map] at lz
 have rz := fun n d => ZH hz n d
 have fz := fun H d => ZB hz H d
 obtain ⟨cz1, cz2⟩ := ZI hz
 have hd0 := depOk_of hbx hby a b
 have e43 := o43_eq hx hy hbx hby
 unfold depoV at e43
 have wa : W .i64 (a : Int) = a := W_i (by omega)
 have wb : W .i64 (b : Int) = b := W_i (by omega)
 have ra : arI .rem .i64 (a : Int) 21 = some (.int .i64 ((a % 21 : Nat) : Int)) := XJ (b := 21) (by decide)
 have rb_ : arI .rem .i64 (b : Int) 21 = some (.int .i64 ((b % 21 : Nat) : Int)) := XJ (b := 21) (by decide)
 have rx0 := fun n d => ZH hx n d
 have ry0 := fun n d => ZH hy n d
 generalize ((a % 21 : Nat) : Int) = u at *
 generalize ((b % 21 : Nat) : Int) = d at *
 generalize (xs.take 6).map deIt = its at *
 generalize (ys.take 4).map YM = rs at *
 have hE := hd0.zero
 have hn6 := hd0.len
 have hm4 := hd0.lenR
 have hxr : Zn (.vl (its.map rI5) its.isEmpty) = some (its.map rI5) := rfl
 have hyr : Zn (.vl (rs.map rM3) rs.isEmpty) = some (rs.map rM3) := rfl
 have hll : its.length ≤ 1000 ∧ rs.length ≤ 1000 := by omega
 have e45 := o45_eq hxr (by omega)
 have e46 := o46_eq hyr (by omega)
 have s46 : ∀ t, sRooms [.vl (rs.map rM3) t] = some (.sl 0 0 rs.length false, [some (.row 3 (rs.map rM3))]) := fun t => by
  have h := XL (d := dM3) (enc := rM3) (fun _ => rfl) rs
  simp only [sRooms, h]; rw [if_pos (by omega)]
 have s46 := s46 rs.isEmpty
 have hokb : okBlk true (some (Blk.row 3 (rs.map rM3))) = true := by simp [rM3]
 have e44 : ∀ t, o44 [.agg [I u, I d], .vl (its.map rI5) its.isEmpty, .vl (rs.map rM3) t] = some (storeV u d its rs) := fun t => o44_eq hxr rfl hll u d
 have e47 : ∀ t, o47 [.agg [I u, I d], .vl (its.map rI5) its.isEmpty, .vl (rs.map rM3) t] = some (againstV u d its rs) := fun t => o47_eq hxr rfl hll u d
 have e48 : ∀ (v : Za) (l : List Nat), dNs v = some l → l.length ≤ its.length → (∀ z ∈ l, z < rs.length) → o48 [.agg [I u, I d], .vl (its.map rI5) its.isEmpty, .vl (rs.map rM3) rs.isEmpty, v] = some (.bool (fitsL u d its rs l)) := fun v l hv h1 h2 => o48_eq hxr hyr hv ⟨h1, h2, hE⟩
 have e44m : ∀ t, o44 [.agg [I u, I d], .vl (its.map rI5) its.isEmpty, .vl ((rs.map bump).map rM3) t] = some (storeV u d its (rs.map bump)) := fun t => o44_eq hxr rfl ⟨hll.1, by rw [List.length_map]; exact hll.2⟩ u d
 have e44s : ∀ (v : Za) (js : List It5) t, Zn v = some (js.map rI5) → js.length ≤ 7 → (∀ x ∈ js, x ∈ its) → o44 [.agg [I u, I d], v, .vl (rs.map rM3) t] = some (if YE (Xm u d js rs) (2 ^ js.length - 1) (plOf rs) = true then .tup [encL (XH (Xm u d js rs) js.length js.length (plOf rs)), I 0] else .tup [.nils, I 9]) := fun v js t hv h1 h2 => by
  rw [o44_eq hv (y := .vl (rs.map rM3) t) rfl ⟨by omega, hll.2⟩ u d]
  unfold storeV
  rw [if_pos (hd0.sub h1 h2)]
 unfold storeV at e44 e44m
 unfold againstV at e47
 rw [if_pos hd0.more] at e44m
 rw [if_pos hE] at e44 e47
 have ixr : ∀ i (h : i < its.length), (its.map rI5)[i]? = some (rI5 its[i]) := fun i h => by rw [List.getElem?_map, List.getElem?_eq_getElem h]; rfl
 have e44 := e44 rs.isEmpty
 have e47 := e47 rs.isEmpty
 have e44s := fun v js h1 h2 h3 => e44s v js rs.isEmpty h1 h2 h3
 generalize Za.vl (its.map rI5) its.isEmpty = xv at *
 generalize Za.vl (rs.map rM3) rs.isEmpty = yv at *
 have lx := ZD hxr
 rw [List.length_map] at lx
 have rx := fun n d => ZH hxr n d
 have fx := fun H d => ZB hxr H d
 obtain ⟨cx1, cx2⟩ := ZI hxr
 have ly := ZD hyr
 rw [List.length_map] at ly
 have ry := fun n d => ZH hyr n d
 have fy := fun H d => ZB hyr H d
 obtain ⟨cy1, cy2⟩ := ZI hyr
 have tkR : (rs.map rM3).take rs.length = rs.map rM3 := List.take_of_length_le (by simp)
 have hfzR := fun H d => frz_rM3 H d rs
 have hrbR := fun n d => rM3_rb n d rs
 have nzv : ∀ K H, YV K H 5 mx = some mx := fun K H => renV_flat K H 5 mx (rz 0 4)
 have nxv : ∀ K H, YV K H 5 xv = some xv := fun K H => renV_flat K H 5 xv (rx 0 4)
 have nyv : ∀ K H, YV K H 5 yv = some yv := fun K H => renV_flat K H 5 yv (ry 0 4)
 obtain ⟨n, hn⟩ : ∃ n, n = its.length := ⟨_, rfl⟩
 obtain ⟨m, hm⟩ : ∃ m, m = rs.length := ⟨_, rfl⟩
 obtain ⟨N, hN⟩ : ∃ N : Int, (n : Int) = N := ⟨_, rfl⟩
 rw [← hn] at lx
 rw [← hm] at ly s46 tkR
 have hmr : m ≤ rs.length := by omega
 refine cans_of hTb hT ?_
 simp only [oo, om, op, og, ci, cl, c9]
 obtain ⟨⟨ab, hAs, hab, hab0⟩, hOn, hnz⟩ := case_not hd0 hf
 rw [if_neg (by rw [hf]; simp)] at e44
 have hpick := fun k h1 h2 => pick_fits (k := k) (show its.length ≤ 10 by omega) hAs h1 h2
 rw [hAs] at e47
 unfold agV at e47
 have h2n := two_le (show its.length ≤ 10 by omega)
 have hab10 : ab < 1024 := by omega
 have hbn := bits_ne hab10 hab0
 have hAr := encL_rows (Zl ab)
 have hAd := bits_dNs ab
 have hAl := bits_len ab
 have hAi : ∀ i ∈ Zl ab, i < its.length := fun i hi => XF hab hi
 have hAa := bits_asc ab
 have hLp : 0 < (Zl ab).length := List.length_pos_iff.2 hbn
 obtain ⟨A, hA⟩ : ∃ A, A = Zl ab := ⟨_, rfl⟩
 simp only [← hA] at e47 hbn hAr hAd hAl hAi hAa hLp hpick
 obtain ⟨L, hL⟩ : ∃ L, L = A.length := ⟨_, rfl⟩
 have la := ZD hAr
 rw [List.length_map] at la
 have rq := fun n d => ZH hAr n d
 have fq := fun H d => ZB hAr H d
 obtain ⟨ca1, ca2⟩ := ZI hAr
 rw [← hL] at la
 generalize encL A = av at *
 have nav : ∀ K H, YV K H 5 av = some av := fun K H => renV_flat K H 5 av (rq 0 4)
 have hL0 : ((L : Int) == 0) = false := by simp; omega
 have hLz : ¬ L = 0 := by omega
 have HH1 := zA h12 (zA h40 (zA h43 (zA h44 (zA h45 (zA h46 (zA h47 (zA h48 (zA h49 (zA e43 (zA wa (zA wb (zA e45 (zA e46 (zA lz (zA rz (zA fz (zA cz1 (zA cz2 (zA lx (zA rx (zA fx (zA cx1 (zA cx2 (zA ly (zA ry (zA fy (zA cy1 (zA cy2 (zA rx0 (zA ry0 (zA tkR (zA hmr (zA hN (zA e44 (zA e47 (zA la (zA rq (zA fq (zA ca1 (zA ca2 (zA nav (zA hL0 hLz))))))))))))))))))))))))))))))))))))))))))
 refine Zc ?_
 refine Zd Zj hTb (zR (zO (by simp [zC h12, zC h40, zC h43, zC h44, zC h45, zC h46, zC h47, zC h48, zC h49, o12, trim, -Zb, ↓ra, ↓rb_, ↓hfzR, ↓hrbR, HH1]; rfl) ?_))
 simp only [zT, zB]
 refine Zc ?_
 refine Zd Zj hTb (zR (zO (by simp [zC h12, zC h40, zC h43, zC h44, zC h45, zC h46, zC h47, zC h48, zC h49, o12, trim, -Zb, ↓ra, ↓rb_, ↓hfzR, ↓hrbR, HH1]; rfl) ?_))
 simp only [zT, zB]
 refine Zc ?_
 refine Zd Zj hTb (zR (zO (by simp [zC h12, zC h40, zC h43, zC h44, zC h45, zC h46, zC h47, zC h48, zC h49, o12, trim, -Zb, ↓ra, ↓rb_, ↓hfzR, ↓hrbR, HH1]; rfl) ?_))
 simp only [zT, zB]
 refine Zc ?_
 refine Zd Zj hTb (Zw (by simp (maxSteps := 3000000) [zC h12, zC h40, zC h43, zC h44, zC h45, zC h46, zC h47, zC h48, zC h49, o12, trim, -Zb, ↓ra, ↓rb_, ↓hfzR, ↓hrbR, HH1]; rfl) ?_)
 simp only [zT, zB]
 refine Zc ?_
 refine Zd Zj hTb (Zw (by simp (maxSteps := 3000000) [zC h12, zC h40, zC h43, zC h44, zC h45, zC h46, zC h47, zC h48, zC h49, o12, trim, -Zb, ↓ra, ↓rb_, ↓hfzR, ↓hrbR, HH1]; rfl) ?_)
 simp only [zT, zB]
 refine Yk (ZY 16260 [2] (by decide) (by simp) rfl (by simp [zr, ZX, ZV, Zu, zC h12, zC h40, zC h43, zC h44, zC h45, zC h46, zC h47, zC h48, zC h49, o12, trim, -Zb, ↓ra, ↓rb_, ↓hfzR, ↓hrbR, HH1, nzv, nxv, nyv] <;> rfl) (by simp [zr, ZX, ZV, Zu, zC h12, zC h40, zC h43, zC h44, zC h45, zC h46, zC h47, zC h48, zC h49, o12, trim, -Zb, ↓ra, ↓rb_, ↓hfzR, ↓hrbR, HH1, nzv, nxv, nyv] <;> rfl)) ?_
 refine Zc ?_
 refine Zc ?_
 refine Zd Zj hTb (zR (zO (by simp [zC h12, zC h40, zC h43, zC h44, zC h45, zC h46, zC h47, zC h48, zC h49, o12, trim, -Zb, ↓ra, ↓rb_, ↓hfzR, ↓hrbR, HH1, nzv, nxv, nyv]; rfl) ?_))
 simp only [zT, zB]
 refine Zo (x := false) (by simp) ?_
 apply zQ9
 ·intro pB
  refine ZF ?_
  simp only [zT, zB]
  refine Zc ?_
  refine Zd Zj hTb (zR (zO (by simp [zC h12, zC h40, zC h43, zC h44, zC h45, zC h46, zC h47, zC h48, zC h49, o12, trim, -Zb, ↓ra, ↓rb_, ↓hfzR, ↓hrbR, HH1, nzv, nxv, nyv]; rfl) ?_))
  simp only [zT, zB]
  refine Zc ?_
  refine Zc ?_
  refine Zd Zj hTb (zR (zO (by simp [zC h12, zC h40, zC h43, zC h44, zC h45, zC h46, zC h47, zC h48, zC h49, o12, trim, -Zb, ↓ra, ↓rb_, ↓hfzR, ↓hrbR, HH1, nzv, nxv, nyv]; rfl) ?_))
  simp only [zT, zB]
  refine Yo ?_
  refine cruns_loop (k := n - 0) (fun mm σ => ∃ (k : Nat) (i : Int), i = k ∧ n - k = mm ∧ k ≤ n ∧ (m = 0 → k = 0) ∧ ((k = 0 ∧ σ = ⟨(.any :: .any :: mx :: .any :: .any :: .any :: .any :: .ref 0 0 0 :: xv :: yv :: .nils :: I 9 :: av :: .any :: .sl 1 0 0 true :: I i :: zA128 (zA32 (zA32 (zA8 (zA8 (zA8 ([.any, .any, .any, .any, .any]))))))), [some (.row 2 [[I u, I d]]), some (.row 1 [])]⟩) ∨ (∃ (pp : Nat) (ac : List Nat), k = pp + 1 ∧ ac = otherL bs m k ∧ ac.length = pp + 1 ∧ σ = ⟨(.any :: .any :: mx :: .any :: .any :: .any :: .any :: .ref 0 0 0 :: xv :: yv :: .nils :: I 9 :: av :: .any :: .sl 1 0 (pp + 1) false :: I i :: zA128 (zA32 (zA32 (zA8 (zA8 (zA8 ([.any, .any, .any, .any, .any]))))))), [some (.row 2 [[I u, I d]]), some (.row 1 (ac.map rN))]⟩))) ⟨_, ZY 57220 [0, 1] (by decide) (by simp) rfl (by simp [zr, ZX, ZV, Zu, zC h12, zC h40, zC h43, zC h44, zC h45, zC h46, zC h47, zC h48, zC h49, o12, trim, -Zb, ↓ra, ↓rb_, ↓hfzR, ↓hrbR, HH1, nzv, nxv, nyv] <;> rfl) (by simp [zr, ZX, ZV, Zu, zC h12, zC h40, zC h43, zC h44, zC h45, zC h46, zC h47, zC h48, zC h49, o12, trim, -Zb, ↓ra, ↓rb_, ↓hfzR, ↓hrbR, HH1, nzv, nxv, nyv] <;> rfl), 0, 0, rfl, rfl, Nat.zero_le _, (fun _ => rfl), .inl ⟨rfl, by simp⟩⟩ ?_
  rintro mm σ ⟨k, i, hik, rfl, hkn, hm0, hcase⟩
  rcases hcase with ⟨hk0, rfl⟩ | ⟨pp, ac, hkp, hac, hacl, rfl⟩
  ·have lsl : Zb (.sl 1 0 0 true) = some 0 := rfl
   by_cases h1 : i < N
   ·rcases Nat.eq_zero_or_pos m with h2 | h2
    ·have h3 : ¬ (0 : Int) < (m : Int) := fun h => by omega
     have HH2 := zA nzv (zA nxv (zA nyv (zA lsl (zA h1 h3))))
     refine Zc ?_
     refine Zc ?_
     refine Zd Zj hTb (zR (zO (by simp [zC h12, zC h40, zC h43, zC h44, zC h45, zC h46, zC h47, zC h48, zC h49, o12, trim, -Zb, ↓ra, ↓rb_, ↓hfzR, ↓hrbR, HH1, HH2]; rfl) ?_))
     simp only [zT, zB]
     refine Zo (x := false) (by simp [zC h12, zC h40, zC h43, zC h44, zC h45, zC h46, zC h47, zC h48, zC h49, o12, trim, -Zb, ↓ra, ↓rb_, ↓hfzR, ↓hrbR, HH1, HH2] <;> omega) ?_
     have hN0 : ((0 : Int) == N) = false := by simp; omega
     have hN1 : ¬ 0 = N := fun h => by omega
     refine YD ?_
     simp only [zT, zB, if_true, if_false, reduceIte, Nat.reduceEqDiff, Nat.succ_ne_zero, Nat.one_ne_zero, Nat.zero_ne_one]
     refine Zc ?_
     refine Zc ?_
     refine Zd Zj hTb (zR (zO (by simp [zC h12, zC h40, zC h43, zC h44, zC h45, zC h46, zC h47, zC h48, zC h49, o12, trim, -Zb, ↓ra, ↓rb_, ↓hfzR, ↓hrbR, HH1, HH2, hN0, hN1]; rfl) ?_))
     simp only [zT, zB]
     refine Zo (x := false) (by simp) ?_
     refine Yk (ZY 7040 [0] (by decide) (by simp) rfl (by simp [zr, ZX, ZV, Zu, zC h12, zC h40, zC h43, zC h44, zC h45, zC h46, zC h47, zC h48, zC h49, o12, trim, -Zb, ↓ra, ↓rb_, ↓hfzR, ↓hrbR, HH1, HH2, hN0, hN1] <;> rfl) (by simp [zr, ZX, ZV, Zu, zC h12, zC h40, zC h43, zC h44, zC h45, zC h46, zC h47, zC h48, zC h49, o12, trim, -Zb, ↓ra, ↓rb_, ↓hfzR, ↓hrbR, HH1, HH2, hN0, hN1] <;> rfl)) ?_
     exact pB.o
    ·have hkn' : k < n := by omega
     have hwi : W .i64 (i + 1) = i + 1 := Zt (by omega)
     have e40 := o40n_eq hz hbz (i := k) (by omega)
     rw [← hik] at e40
     have hrm := rem_iN (a := byteV bs k) (b := m) h2
     have hos := otherL_succ bs m k
     obtain ⟨Z, hZ⟩ : ∃ Z : Int, ((byteV bs k % m : Nat) : Int) = Z := ⟨_, rfl⟩
     rw [hZ] at hrm
     have hrz : rN (byteV bs k % m) = [I Z] := by rw [← hZ]; rfl
     have h3 : (0 : Int) < (m : Int) := by omega
     generalize byteV bs k % m = zz at *
     generalize ((byteV bs k : Nat) : Int) = bv at *
     have HH3 := zA nzv (zA nxv (zA nyv (zA lsl (zA h1 (zA h3 (zA hwi e40))))))
     have HH4 := zA ra (zA rb_ (zA hfzR (zA hrbR hrm)))
     refine Zc ?_
     refine Zc ?_
     refine Zd Zj hTb (zR (zO (by simp [zC h12, zC h40, zC h43, zC h44, zC h45, zC h46, zC h47, zC h48, zC h49, o12, trim, -Zb, HH1, HH3, ↓HH4]; rfl) ?_))
     simp only [zT, zB]
     refine Zo (x := true) (by simp [zC h12, zC h40, zC h43, zC h44, zC h45, zC h46, zC h47, zC h48, zC h49, o12, trim, -Zb, HH1, HH3, ↓HH4] <;> omega) ?_
     refine ZF ?_
     simp only [zT, zB]
     refine Zc ?_
     refine Yo ?_
     refine Zd Zj hTb (zR (zO (by simp [zC h12, zC h40, zC h43, zC h44, zC h45, zC h46, zC h47, zC h48, zC h49, o12, trim, -Zb, HH1, HH3, ↓HH4]; rfl) ?_))
     simp only [zT, zB]
     refine Zd Zj hTb (zR (zO (by simp [zC h12, zC h40, zC h43, zC h44, zC h45, zC h46, zC h47, zC h48, zC h49, o12, trim, -Zb, HH1, HH3, ↓HH4]; rfl) ?_))
     simp only [zT, zB]
     exact ⟨n - (k + 1), _, by omega, ZY 57220 [0, 3] (by decide) (by simp) rfl (by simp [zr, ZX, ZV, Zu, zC h12, zC h40, zC h43, zC h44, zC h45, zC h46, zC h47, zC h48, zC h49, o12, trim, -Zb, HH1, HH3, ↓HH4] <;> rfl) (by simp [zr, ZX, ZV, Zu, zC h12, zC h40, zC h43, zC h44, zC h45, zC h46, zC h47, zC h48, zC h49, o12, trim, -Zb, HH1, HH3, ↓HH4] <;> rfl), k + 1, i + 1, by omega, rfl, by omega, (fun h => by omega), .inr ⟨0, [zz], by omega, by rw [hos, hk0]; rfl, rfl, by simp [hrz]⟩⟩
   ·skip
    have HH5 := zA nzv (zA nxv (zA nyv (zA lsl h1)))
    refine Zc ?_
    refine Zc ?_
    refine Zd Zj hTb (zR (zO (by simp [zC h12, zC h40, zC h43, zC h44, zC h45, zC h46, zC h47, zC h48, zC h49, o12, trim, -Zb, ↓ra, ↓rb_, ↓hfzR, ↓hrbR, HH1, HH5]; rfl) ?_))
    simp only [zT, zB]
    refine Zo (x := false) (by simp [zC h12, zC h40, zC h43, zC h44, zC h45, zC h46, zC h47, zC h48, zC h49, o12, trim, -Zb, ↓ra, ↓rb_, ↓hfzR, ↓hrbR, HH1, HH5] <;> omega) ?_
    have hN0 : ((0 : Int) == N) = false := by simp; omega
    have hN1 : ¬ 0 = N := fun h => by omega
    refine YD ?_
    simp only [zT, zB, if_true, if_false, reduceIte, Nat.reduceEqDiff, Nat.succ_ne_zero, Nat.one_ne_zero, Nat.zero_ne_one]
    refine Zc ?_
    refine Zc ?_
    refine Zd Zj hTb (zR (zO (by simp [zC h12, zC h40, zC h43, zC h44, zC h45, zC h46, zC h47, zC h48, zC h49, o12, trim, -Zb, ↓ra, ↓rb_, ↓hfzR, ↓hrbR, HH1, HH5, hN0, hN1]; rfl) ?_))
    simp only [zT, zB]
    refine Zo (x := false) (by simp) ?_
    refine Yk (ZY 7040 [0] (by decide) (by simp) rfl (by simp [zr, ZX, ZV, Zu, zC h12, zC h40, zC h43, zC h44, zC h45, zC h46, zC h47, zC h48, zC h49, o12, trim, -Zb, ↓ra, ↓rb_, ↓hfzR, ↓hrbR, HH1, HH5, hN0, hN1] <;> rfl) (by simp [zr, ZX, ZV, Zu, zC h12, zC h40, zC h43, zC h44, zC h45, zC h46, zC h47, zC h48, zC h49, o12, trim, -Zb, ↓ra, ↓rb_, ↓hfzR, ↓hrbR, HH1, HH5, hN0, hN1] <;> rfl)) ?_
    exact pB.o
  ·have tk : (ac.map rN).take (pp + 1) = ac.map rN := List.take_of_length_le (by simp [hacl])
   have hlac : pp + 1 + 1 ≤ 1048576 := by omega
   have hst1 : ((ac.map rN).all fun r => r.all ZG) = true := by simp [rN]
   have hr1 : ((ac.map rN).all fun r => r.length == 1) = true := by simp [rN]
   have hfzz := fun H d => rN_frz H d ac
   have hrn := fun K H d => renB_rN K H d ac
   have lsl : Zb (.sl 1 0 (pp + 1) false) = some (pp + 1) := rfl
   by_cases h1 : i < N
   ·rcases Nat.eq_zero_or_pos m with h2 | h2
    ·have h3 : ¬ (0 : Int) < (m : Int) := fun h => by omega
     have HH6 := zA nzv (zA nxv (zA nyv (zA tk (zA hlac (zA hacl (zA lsl (zA h1 h3)))))))
     have HH7 := zA ra (zA rb_ (zA hfzR (zA hrbR (zA hst1 (zA hr1 (zA hfzz hrn))))))
     refine Zc ?_
     refine Zc ?_
     refine Zd Zj hTb (zR (zO (by simp [zC h12, zC h40, zC h43, zC h44, zC h45, zC h46, zC h47, zC h48, zC h49, o12, trim, -Zb, HH1, HH6, ↓HH7]; rfl) ?_))
     simp only [zT, zB]
     refine Zo (x := false) (by simp [zC h12, zC h40, zC h43, zC h44, zC h45, zC h46, zC h47, zC h48, zC h49, o12, trim, -Zb, HH1, HH6, ↓HH7] <;> omega) ?_
     have hOr : Zn (.vl (ac.map rN) false) = some (ac.map rN) := rfl
     have hmp : 0 < m := by rcases Nat.eq_zero_or_pos m with h | h; exact absurd (hm0 h) (by omega); exact h
     have hOz : ∀ z ∈ ac, z < rs.length := by rw [hac, ← hm]; exact otherL_mem hmp
     have hOd : dNs (.vl (ac.map rN) false) = some ac := dNs_of hOr fun z hz => by have := hOz z hz; omega
     have hlen : ac.length = its.length := by omega
     have hNpp : N = (pp : Int) + 1 := by omega
     have e48o := e48 _ _ hOd (by omega) hOz
     rw [hOn ac hlen hOz] at e48o
     refine YD ?_
     simp only [zT, zB, if_true, if_false, reduceIte, Nat.reduceEqDiff, Nat.succ_ne_zero, Nat.one_ne_zero, Nat.zero_ne_one]
     refine Zc ?_
     refine Zc ?_
     refine Zd Zj hTb (zR (zO (by simp [zC h12, zC h40, zC h43, zC h44, zC h45, zC h46, zC h47, zC h48, zC h49, o12, trim, -Zb, HH1, HH6, ↓HH7, hNpp, e48o]; rfl) ?_))
     simp only [zT, zB]
     refine Zo (x := false) (by simp) ?_
     refine Yk (ZY 7040 [0] (by decide) (by simp) rfl (by simp [zr, ZX, ZV, Zu, zC h12, zC h40, zC h43, zC h44, zC h45, zC h46, zC h47, zC h48, zC h49, o12, trim, -Zb, HH1, HH6, ↓HH7, hNpp, e48o] <;> rfl) (by simp [zr, ZX, ZV, Zu, zC h12, zC h40, zC h43, zC h44, zC h45, zC h46, zC h47, zC h48, zC h49, o12, trim, -Zb, HH1, HH6, ↓HH7, hNpp, e48o] <;> rfl)) ?_
     exact pB.o
    ·have hkn' : k < n := by omega
     have hwi : W .i64 (i + 1) = i + 1 := Zt (by omega)
     have e40 := o40n_eq hz hbz (i := k) (by omega)
     rw [← hik] at e40
     have hrm := rem_iN (a := byteV bs k) (b := m) h2
     have hos := otherL_succ bs m k
     obtain ⟨Z, hZ⟩ : ∃ Z : Int, ((byteV bs k % m : Nat) : Int) = Z := ⟨_, rfl⟩
     rw [hZ] at hrm
     have hrz : rN (byteV bs k % m) = [I Z] := by rw [← hZ]; rfl
     have h3 : (0 : Int) < (m : Int) := by omega
     generalize byteV bs k % m = zz at *
     generalize ((byteV bs k : Nat) : Int) = bv at *
     have HH8 := zA nzv (zA nxv (zA nyv (zA tk (zA hlac (zA hacl (zA lsl (zA h1 (zA h3 (zA hwi e40)))))))))
     have HH9 := zA ra (zA rb_ (zA hfzR (zA hrbR (zA hst1 (zA hr1 (zA hfzz (zA hrn hrm)))))))
     refine Zc ?_
     refine Zc ?_
     refine Zd Zj hTb (zR (zO (by simp [zC h12, zC h40, zC h43, zC h44, zC h45, zC h46, zC h47, zC h48, zC h49, o12, trim, -Zb, HH1, HH8, ↓HH9]; rfl) ?_))
     simp only [zT, zB]
     refine Zo (x := true) (by simp [zC h12, zC h40, zC h43, zC h44, zC h45, zC h46, zC h47, zC h48, zC h49, o12, trim, -Zb, HH1, HH8, ↓HH9] <;> omega) ?_
     refine ZF ?_
     simp only [zT, zB]
     refine Zc ?_
     refine Yo ?_
     refine Zd Zj hTb (zR (zO (by simp [zC h12, zC h40, zC h43, zC h44, zC h45, zC h46, zC h47, zC h48, zC h49, o12, trim, -Zb, HH1, HH8, ↓HH9]; rfl) ?_))
     simp only [zT, zB]
     refine Zd Zj hTb (zR (zO (by simp [zC h12, zC h40, zC h43, zC h44, zC h45, zC h46, zC h47, zC h48, zC h49, o12, trim, -Zb, HH1, HH8, ↓HH9]; rfl) ?_))
     simp only [zT, zB]
     have hap : ∀ K H d, Zf (Zf (YV K H (d + 1))) (ac.map rN ++ [[I Z]]) = some (ac.map rN ++ [[I Z]]) := fun K H d => by
      have h := renB_rN K H d (ac ++ [zz])
      rw [List.map_append] at h
      rw [← hrz]; exact h
     exact ⟨n - (k + 1), _, by omega, ZY 57220 [0, 3] (by decide) (by simp) rfl (by simp [zr, ZX, ZV, Zu, zC h12, zC h40, zC h43, zC h44, zC h45, zC h46, zC h47, zC h48, zC h49, o12, trim, -Zb, HH1, HH8, ↓HH9, ↓hap] <;> rfl) (by simp [zr, ZX, ZV, Zu, zC h12, zC h40, zC h43, zC h44, zC h45, zC h46, zC h47, zC h48, zC h49, o12, trim, -Zb, HH1, HH8, ↓HH9, ↓hap] <;> rfl), k + 1, i + 1, by omega, rfl, by omega, (fun h => by omega), .inr ⟨pp + 1, ac ++ [zz], by omega, by rw [hos, hac], by simp [hacl], by rw [List.map_append]; simp [hrz]⟩⟩
   ·skip
    have HH10 := zA nzv (zA nxv (zA nyv (zA tk (zA hlac (zA hacl (zA lsl h1))))))
    have HH11 := zA ra (zA rb_ (zA hfzR (zA hrbR (zA hst1 (zA hr1 (zA hfzz hrn))))))
    refine Zc ?_
    refine Zc ?_
    refine Zd Zj hTb (zR (zO (by simp [zC h12, zC h40, zC h43, zC h44, zC h45, zC h46, zC h47, zC h48, zC h49, o12, trim, -Zb, HH1, HH10, ↓HH11]; rfl) ?_))
    simp only [zT, zB]
    refine Zo (x := false) (by simp [zC h12, zC h40, zC h43, zC h44, zC h45, zC h46, zC h47, zC h48, zC h49, o12, trim, -Zb, HH1, HH10, ↓HH11] <;> omega) ?_
    have hOr : Zn (.vl (ac.map rN) false) = some (ac.map rN) := rfl
    have hmp : 0 < m := by rcases Nat.eq_zero_or_pos m with h | h; exact absurd (hm0 h) (by omega); exact h
    have hOz : ∀ z ∈ ac, z < rs.length := by rw [hac, ← hm]; exact otherL_mem hmp
    have hOd : dNs (.vl (ac.map rN) false) = some ac := dNs_of hOr fun z hz => by have := hOz z hz; omega
    have hlen : ac.length = its.length := by omega
    have hNpp : N = (pp : Int) + 1 := by omega
    have e48o := e48 _ _ hOd (by omega) hOz
    rw [hOn ac hlen hOz] at e48o
    refine YD ?_
    simp only [zT, zB, if_true, if_false, reduceIte, Nat.reduceEqDiff, Nat.succ_ne_zero, Nat.one_ne_zero, Nat.zero_ne_one]
    refine Zc ?_
    refine Zc ?_
    refine Zd Zj hTb (zR (zO (by simp [zC h12, zC h40, zC h43, zC h44, zC h45, zC h46, zC h47, zC h48, zC h49, o12, trim, -Zb, HH1, HH10, ↓HH11, hNpp, e48o]; rfl) ?_))
    simp only [zT, zB]
    refine Zo (x := false) (by simp) ?_
    refine Yk (ZY 7040 [0] (by decide) (by simp) rfl (by simp [zr, ZX, ZV, Zu, zC h12, zC h40, zC h43, zC h44, zC h45, zC h46, zC h47, zC h48, zC h49, o12, trim, -Zb, HH1, HH10, ↓HH11, hNpp, e48o] <;> rfl) (by simp [zr, ZX, ZV, Zu, zC h12, zC h40, zC h43, zC h44, zC h45, zC h46, zC h47, zC h48, zC h49, o12, trim, -Zb, HH1, HH10, ↓HH11, hNpp, e48o] <;> rfl)) ?_
    exact pB.o
 ·refine ZF ?_
  simp only [zT, zB]
  refine Zc ?_
  refine Zc ?_
  refine Zd Zj hTb (zR (zO (by simp [zC h12, zC h40, zC h43, zC h44, zC h45, zC h46, zC h47, zC h48, zC h49, o12, trim, -Zb, ↓ra, ↓rb_, ↓hfzR, ↓hrbR, HH1, nzv, nxv, nyv]; rfl) ?_))
  simp only [zT, zB]
  refine Zo (x := false) (by simp) ?_
  refine ZF ?_
  simp only [zT, zB]
  refine Zc ?_
  refine Zc ?_
  refine Zd Zj hTb (zR (zO (by simp [zC h12, zC h40, zC h43, zC h44, zC h45, zC h46, zC h47, zC h48, zC h49, o12, trim, -Zb, ↓ra, ↓rb_, ↓hfzR, ↓hrbR, HH1, nzv, nxv, nyv]; rfl) ?_))
  simp only [zT, zB]
  refine Yo ?_
  refine cruns_loop (k := (L + 1 - 0)) (fun mm σ => ∃ (kk : Nat) (kI : Int), kI = (kk : Int) - 1 ∧ L + 1 - kk = mm ∧ kk ≤ L + 1 ∧ σ = ⟨(.any :: .any :: .any :: .any :: .any :: .any :: .any :: .ref 0 0 0 :: xv :: yv :: .any :: .any :: av :: .any :: .any :: .any :: .any :: .any :: .any :: .any :: I kI :: zA128 (zA32 (zA32 (zA8 (zA8 (zA8 ([]))))))), [some (.row 2 [[I u, I d]])]⟩) ⟨_, ZY 1053568 [0] (by decide) (by simp) rfl (by simp [zr, ZX, ZV, Zu, zC h12, zC h40, zC h43, zC h44, zC h45, zC h46, zC h47, zC h48, zC h49, o12, trim, -Zb, ↓ra, ↓rb_, ↓hfzR, ↓hrbR, HH1, nzv, nxv, nyv] <;> rfl) (by simp [zr, ZX, ZV, Zu, zC h12, zC h40, zC h43, zC h44, zC h45, zC h46, zC h47, zC h48, zC h49, o12, trim, -Zb, ↓ra, ↓rb_, ↓hfzR, ↓hrbR, HH1, nzv, nxv, nyv] <;> rfl), 0, -1, rfl, rfl, Nat.zero_le _, by simp⟩ ?_
  rintro mm σ ⟨kk, kI, hkI, rfl, hkkl, rfl⟩
  refine Zc ?_
  refine Zc ?_
  refine Zd Zj hTb (zR (zO (by simp [zC h12, zC h40, zC h43, zC h44, zC h45, zC h46, zC h47, zC h48, zC h49, o12, trim, -Zb, ↓ra, ↓rb_, ↓hfzR, ↓hrbR, HH1, nzv, nxv, nyv]; rfl) ?_))
  simp only [zT, zB]
  refine cruns_cond_split (x := decide (kI < (L : Int))) (by simp) (fun hlt => ?_) (fun hlt => ?_)
  ·have hlt := of_decide_eq_true hlt
   have hkkL : kk < L + 1 := by omega
   have hwk : W .i64 (kI + 1) = kI + 1 := Zt (by omega)
   have hpk := hpick kI (by omega) (by omega)
   rw [← hL] at hpk
   refine ZF ?_
   simp only [zT, zB]
   refine Zc ?_
   refine Yo ?_
   refine Zc ?_
   refine Zd Zj hTb (zR (zO (by simp [zC h12, zC h40, zC h43, zC h44, zC h45, zC h46, zC h47, zC h48, zC h49, o12, trim, -Zb, ↓ra, ↓rb_, ↓hfzR, ↓hrbR, HH1, nzv, nxv, nyv, hwk]; rfl) ?_))
   simp only [zT, zB]
   refine Zc ?_
   refine Zc ?_
   refine Zd Zj hTb (zR (zO (by simp [zC h12, zC h40, zC h43, zC h44, zC h45, zC h46, zC h47, zC h48, zC h49, o12, trim, -Zb, ↓ra, ↓rb_, ↓hfzR, ↓hrbR, HH1, nzv, nxv, nyv, hwk]; rfl) ?_))
   simp only [zT, zB]
   refine Yo ?_
   refine cruns_loop (k := L - 0) (fun nn σ => ∃ (k : Nat) (i : Int), i = k ∧ L - k = nn ∧ k ≤ L ∧ ((pickL A kI k = [] ∧ σ = ⟨(.any :: .any :: .any :: .any :: .any :: .any :: .any :: .ref 0 0 0 :: xv :: yv :: .any :: .any :: av :: .any :: .any :: .any :: .any :: .any :: .any :: .any :: I kI :: .sl 1 0 0 true :: I i :: zA128 (zA32 (zA32 (zA8 (zA8 ([.any, .any, .any, .any, .any, .any])))))), [some (.row 2 [[I u, I d]]), some (.row 5 [])]⟩) ∨ (∃ (pp : Nat) (js : List It5), js = (pickL A kI k).map (itG its) ∧ js.length = pp + 1 ∧ σ = ⟨(.any :: .any :: .any :: .any :: .any :: .any :: .any :: .ref 0 0 0 :: xv :: yv :: .any :: .any :: av :: .any :: .any :: .any :: .any :: .any :: .any :: .any :: I kI :: .sl 1 0 (pp + 1) false :: I i :: zA128 (zA32 (zA32 (zA8 (zA8 ([.any, .any, .any, .any, .any, .any])))))), [some (.row 2 [[I u, I d]]), some (.row 5 (js.map rI5))]⟩))) ⟨_, ZY 7345024 [0, 1] (by decide) (by simp) rfl (by simp [zr, ZX, ZV, Zu, zC h12, zC h40, zC h43, zC h44, zC h45, zC h46, zC h47, zC h48, zC h49, o12, trim, -Zb, ↓ra, ↓rb_, ↓hfzR, ↓hrbR, HH1, nzv, nxv, nyv, hwk] <;> rfl) (by simp [zr, ZX, ZV, Zu, zC h12, zC h40, zC h43, zC h44, zC h45, zC h46, zC h47, zC h48, zC h49, o12, trim, -Zb, ↓ra, ↓rb_, ↓hfzR, ↓hrbR, HH1, nzv, nxv, nyv, hwk] <;> rfl), 0, 0, rfl, rfl, Nat.zero_le _, .inl ⟨rfl, by simp⟩⟩ ?_
   rintro nn σ ⟨k, i, hik, rfl, hkl, hcase⟩
   rcases hcase with ⟨hp0, rfl⟩ | ⟨pp, js, hjs, hjl, rfl⟩
   ·have hpl := pick_len A kI k
    have hps := pick_sub A kI k (by omega)
    refine Zc ?_
    refine Zc ?_
    refine Zd Zj hTb (zR (zO (by simp [zC h12, zC h40, zC h43, zC h44, zC h45, zC h46, zC h47, zC h48, zC h49, o12, trim, -Zb, ↓ra, ↓rb_, ↓hfzR, ↓hrbR, HH1, nzv, nxv, nyv, hwk]; rfl) ?_))
    simp only [zT, zB]
    refine cruns_cond_split (x := decide (i < (L : Int))) (by simp) (fun hli => ?_) (fun hli => ?_)
    ·have hli := of_decide_eq_true hli
     have hkL : k < A.length := by omega
     obtain ⟨ta, rfl⟩ := dNs_get hAd hkL
     have hai : A[k] < its.length := hAi _ (List.getElem_mem hkL)
     have hxrr := hxr
     obtain ⟨tx, rfl⟩ := ZE hxrr (k := A[k]) (by simpa using hai)
     have hi0 : 0 ≤ i := by omega
     have htn : i.toNat = k := by omega
     have hwi : W .i64 (i + 1) = i + 1 := Zt (by omega)
     have g1 : (A.map rN)[k]? = some (rN A[k]) := by rw [List.getElem?_map, List.getElem?_eq_getElem hkL]; rfl
     have g2 : ∀ h, (A.map rN)[k]'h = rN A[k] := fun h => by simp
     have g3 := ixr A[k] hai
     have g4 : ∀ (h : A[k] < (its.map rI5).length), (its.map rI5)[A[k]]'h = rI5 its[A[k]] := fun h => by simp
     have hgA : A.getD k 0 = A[k] := by simp [List.getD, List.getElem?_eq_getElem hkL]
     have hitg : itG its A[k] = its[A[k]] := by unfold itG; simp [List.getD, List.getElem?_eq_getElem hai]
     have hpks : pickL A kI (k + 1) = if (k : Int) = kI then pickL A kI k else pickL A kI k ++ [A.getD k 0] := rfl
     have hprev : ∀ j, k = j + 1 → ∃ y, (A.map rN)[j]? = some (rN y) ∧ (∀ h, (A.map rN)[j]'h = rN y) ∧ y < A[k] ∧ j < A.length := by
      rintro j rfl
      have hj : j < A.length := by omega
      exact ⟨A[j], by rw [List.getElem?_map, List.getElem?_eq_getElem hj]; rfl, fun h => by simp, List.pairwise_iff_getElem.1 hAa j (j + 1) hj hkL (by omega), hj⟩
     rw [hgA] at hpks
     generalize its[A[k]] = x5 at *
     generalize A[k] = e at *
     obtain ⟨x1, x2, x3, x4, x5⟩ := x5
     have hne0 : ¬ (e : Int) < 0 := by omega
     have hneN : ¬ N ≤ (e : Int) := by omega
     rw [← hik] at hpks
     by_cases hk00 : k = 0
     ·have hnp : ¬ 0 < i := by omega
      have HH12 := zA nzv (zA nxv (zA nyv (zA hwk (zA hi0 (zA htn (zA hwi (zA hkL (zA hai (zA g1 (zA g2 (zA g3 (zA g4 (zA hne0 (zA hneN hnp))))))))))))))
      refine ZF ?_
      simp only [zT, zB]
      refine Zc ?_
      refine Yo ?_
      refine Zc ?_
      refine Zc ?_
      refine Zd Zj hTb (Zw (by simp (maxSteps := 3000000) [zC h12, zC h40, zC h43, zC h44, zC h45, zC h46, zC h47, zC h48, zC h49, o12, trim, -Zb, ↓ra, ↓rb_, ↓hfzR, ↓hrbR, HH1, rN, rI5, -List.getElem?_map, -List.getElem_map, HH12]; rfl) ?_)
      simp only [zT, zB]
      refine Zo (x := false) (by simp) ?_
      refine Yk (ZY 7345024 [0, 1] (by decide) (by simp) rfl (by simp [zr, ZX, ZV, Zu, zC h12, zC h40, zC h43, zC h44, zC h45, zC h46, zC h47, zC h48, zC h49, o12, trim, -Zb, ↓ra, ↓rb_, ↓hfzR, ↓hrbR, HH1, rN, rI5, -List.getElem?_map, -List.getElem_map, HH12] <;> rfl) (by simp [zr, ZX, ZV, Zu, zC h12, zC h40, zC h43, zC h44, zC h45, zC h46, zC h47, zC h48, zC h49, o12, trim, -Zb, ↓ra, ↓rb_, ↓hfzR, ↓hrbR, HH1, rN, rI5, -List.getElem?_map, -List.getElem_map, HH12] <;> rfl)) ?_
      refine ZF ?_
      simp only [zT, zB]
      refine Zc ?_
      refine Zd Zj hTb (zR (zO (by simp [zC h12, zC h40, zC h43, zC h44, zC h45, zC h46, zC h47, zC h48, zC h49, o12, trim, -Zb, ↓ra, ↓rb_, ↓hfzR, ↓hrbR, HH1, rN, rI5, -List.getElem?_map, -List.getElem_map, HH12]; rfl) ?_))
      simp only [zT, zB]
      by_cases hik2 : i = kI
      ·subst hik2
       rw [if_pos rfl] at hpks
       refine Zo (x := false) (by simp [zC h12, zC h40, zC h43, zC h44, zC h45, zC h46, zC h47, zC h48, zC h49, o12, trim, -Zb, ↓ra, ↓rb_, ↓hfzR, ↓hrbR, HH1, rN, rI5, -List.getElem?_map, -List.getElem_map, HH12]) ?_
       refine ZF ?_
       simp only [zT, zB]
       refine Zd Zj hTb (zR (zO (by simp [zC h12, zC h40, zC h43, zC h44, zC h45, zC h46, zC h47, zC h48, zC h49, o12, trim, -Zb, ↓ra, ↓rb_, ↓hfzR, ↓hrbR, HH1, rN, rI5, -List.getElem?_map, -List.getElem_map, HH12]; rfl) ?_))
       simp only [zT, zB]
       exact ⟨L - (k + 1), _, by omega, ZY 7345024 [0, 1] (by decide) (by simp) rfl (by simp [zr, ZX, ZV, Zu, zC h12, zC h40, zC h43, zC h44, zC h45, zC h46, zC h47, zC h48, zC h49, o12, trim, -Zb, ↓ra, ↓rb_, ↓hfzR, ↓hrbR, HH1, rN, rI5, -List.getElem?_map, -List.getElem_map, HH12] <;> rfl) (by simp [zr, ZX, ZV, Zu, zC h12, zC h40, zC h43, zC h44, zC h45, zC h46, zC h47, zC h48, zC h49, o12, trim, -Zb, ↓ra, ↓rb_, ↓hfzR, ↓hrbR, HH1, rN, rI5, -List.getElem?_map, -List.getElem_map, HH12] <;> rfl), k + 1, i + 1, by omega, rfl, by omega, by rw [hpks]; exact .inl ⟨hp0, by simp⟩⟩
      ·rw [if_neg hik2] at hpks
       refine Zo (x := true) (by simp [zC h12, zC h40, zC h43, zC h44, zC h45, zC h46, zC h47, zC h48, zC h49, o12, trim, -Zb, ↓ra, ↓rb_, ↓hfzR, ↓hrbR, HH1, rN, rI5, -List.getElem?_map, -List.getElem_map, HH12, hik2]) ?_
       refine Zd Zj hTb (zR (zO (by simp [zC h12, zC h40, zC h43, zC h44, zC h45, zC h46, zC h47, zC h48, zC h49, o12, trim, -Zb, ↓ra, ↓rb_, ↓hfzR, ↓hrbR, HH1, rN, rI5, -List.getElem?_map, -List.getElem_map, HH12, hik2]; rfl) ?_))
       simp only [zT, zB]
       refine Zd Zj hTb (zR (zO (by simp [zC h12, zC h40, zC h43, zC h44, zC h45, zC h46, zC h47, zC h48, zC h49, o12, trim, -Zb, ↓ra, ↓rb_, ↓hfzR, ↓hrbR, HH1, rN, rI5, -List.getElem?_map, -List.getElem_map, HH12, hik2]; rfl) ?_))
       simp only [zT, zB]
       exact ⟨L - (k + 1), _, by omega, ZY 7345024 [0, 3] (by decide) (by simp) rfl (by simp [zr, ZX, ZV, Zu, zC h12, zC h40, zC h43, zC h44, zC h45, zC h46, zC h47, zC h48, zC h49, o12, trim, -Zb, ↓ra, ↓rb_, ↓hfzR, ↓hrbR, HH1, rN, rI5, -List.getElem?_map, -List.getElem_map, HH12, hik2] <;> rfl) (by simp [zr, ZX, ZV, Zu, zC h12, zC h40, zC h43, zC h44, zC h45, zC h46, zC h47, zC h48, zC h49, o12, trim, -Zb, ↓ra, ↓rb_, ↓hfzR, ↓hrbR, HH1, rN, rI5, -List.getElem?_map, -List.getElem_map, HH12, hik2] <;> rfl), k + 1, i + 1, by omega, rfl, by omega, .inr ⟨0, [(x1, x2, x3, x4, x5)], by rw [hpks, hp0]; simp [hitg], rfl, by simp [rI5]⟩⟩
     ·obtain ⟨j, hjk⟩ : ∃ j, k = j + 1 := ⟨k - 1, by omega⟩
      obtain ⟨y, p1, p2, p3, p4⟩ := hprev j hjk
      have hip : 0 < i := by omega
      have hi1 : 1 ≤ i := by omega
      have hw1 : W .i64 (i - 1) = i - 1 := Zt (by omega)
      have h10 : 0 ≤ i - 1 := by omega
      have h1n : (i - 1).toNat = j := by omega
      have hley : ¬ (e : Int) ≤ (y : Int) := by omega
      have HH13 := zA nzv (zA nxv (zA nyv (zA hwk (zA hi0 (zA htn (zA hwi (zA hkL (zA hai (zA g1 (zA g2 (zA g3 (zA g4 (zA hne0 (zA hneN (zA p1 (zA p2 (zA p4 (zA hip (zA hi1 (zA hw1 (zA h10 (zA h1n hley))))))))))))))))))))))
      refine ZF ?_
      simp only [zT, zB]
      refine Zc ?_
      refine Yo ?_
      refine Zc ?_
      refine Zc ?_
      refine Zd Zj hTb (Zw (by simp (maxSteps := 3000000) [zC h12, zC h40, zC h43, zC h44, zC h45, zC h46, zC h47, zC h48, zC h49, o12, trim, -Zb, ↓ra, ↓rb_, ↓hfzR, ↓hrbR, HH1, rN, rI5, -List.getElem?_map, -List.getElem_map, HH13]; rfl) ?_)
      simp only [zT, zB]
      refine Zo (x := false) (by simp) ?_
      refine Yk (ZY 7345024 [0, 1] (by decide) (by simp) rfl (by simp [zr, ZX, ZV, Zu, zC h12, zC h40, zC h43, zC h44, zC h45, zC h46, zC h47, zC h48, zC h49, o12, trim, -Zb, ↓ra, ↓rb_, ↓hfzR, ↓hrbR, HH1, rN, rI5, -List.getElem?_map, -List.getElem_map, HH13] <;> rfl) (by simp [zr, ZX, ZV, Zu, zC h12, zC h40, zC h43, zC h44, zC h45, zC h46, zC h47, zC h48, zC h49, o12, trim, -Zb, ↓ra, ↓rb_, ↓hfzR, ↓hrbR, HH1, rN, rI5, -List.getElem?_map, -List.getElem_map, HH13] <;> rfl)) ?_
      refine ZF ?_
      simp only [zT, zB]
      refine Zc ?_
      refine Zd Zj hTb (zR (zO (by simp [zC h12, zC h40, zC h43, zC h44, zC h45, zC h46, zC h47, zC h48, zC h49, o12, trim, -Zb, ↓ra, ↓rb_, ↓hfzR, ↓hrbR, HH1, rN, rI5, -List.getElem?_map, -List.getElem_map, HH13]; rfl) ?_))
      simp only [zT, zB]
      by_cases hik2 : i = kI
      ·subst hik2
       rw [if_pos rfl] at hpks
       refine Zo (x := false) (by simp [zC h12, zC h40, zC h43, zC h44, zC h45, zC h46, zC h47, zC h48, zC h49, o12, trim, -Zb, ↓ra, ↓rb_, ↓hfzR, ↓hrbR, HH1, rN, rI5, -List.getElem?_map, -List.getElem_map, HH13]) ?_
       refine ZF ?_
       simp only [zT, zB]
       refine Zd Zj hTb (zR (zO (by simp [zC h12, zC h40, zC h43, zC h44, zC h45, zC h46, zC h47, zC h48, zC h49, o12, trim, -Zb, ↓ra, ↓rb_, ↓hfzR, ↓hrbR, HH1, rN, rI5, -List.getElem?_map, -List.getElem_map, HH13]; rfl) ?_))
       simp only [zT, zB]
       exact ⟨L - (k + 1), _, by omega, ZY 7345024 [0, 1] (by decide) (by simp) rfl (by simp [zr, ZX, ZV, Zu, zC h12, zC h40, zC h43, zC h44, zC h45, zC h46, zC h47, zC h48, zC h49, o12, trim, -Zb, ↓ra, ↓rb_, ↓hfzR, ↓hrbR, HH1, rN, rI5, -List.getElem?_map, -List.getElem_map, HH13] <;> rfl) (by simp [zr, ZX, ZV, Zu, zC h12, zC h40, zC h43, zC h44, zC h45, zC h46, zC h47, zC h48, zC h49, o12, trim, -Zb, ↓ra, ↓rb_, ↓hfzR, ↓hrbR, HH1, rN, rI5, -List.getElem?_map, -List.getElem_map, HH13] <;> rfl), k + 1, i + 1, by omega, rfl, by omega, by rw [hpks]; exact .inl ⟨hp0, by simp⟩⟩
      ·rw [if_neg hik2] at hpks
       refine Zo (x := true) (by simp [zC h12, zC h40, zC h43, zC h44, zC h45, zC h46, zC h47, zC h48, zC h49, o12, trim, -Zb, ↓ra, ↓rb_, ↓hfzR, ↓hrbR, HH1, rN, rI5, -List.getElem?_map, -List.getElem_map, HH13, hik2]) ?_
       refine Zd Zj hTb (zR (zO (by simp [zC h12, zC h40, zC h43, zC h44, zC h45, zC h46, zC h47, zC h48, zC h49, o12, trim, -Zb, ↓ra, ↓rb_, ↓hfzR, ↓hrbR, HH1, rN, rI5, -List.getElem?_map, -List.getElem_map, HH13, hik2]; rfl) ?_))
       simp only [zT, zB]
       refine Zd Zj hTb (zR (zO (by simp [zC h12, zC h40, zC h43, zC h44, zC h45, zC h46, zC h47, zC h48, zC h49, o12, trim, -Zb, ↓ra, ↓rb_, ↓hfzR, ↓hrbR, HH1, rN, rI5, -List.getElem?_map, -List.getElem_map, HH13, hik2]; rfl) ?_))
       simp only [zT, zB]
       exact ⟨L - (k + 1), _, by omega, ZY 7345024 [0, 3] (by decide) (by simp) rfl (by simp [zr, ZX, ZV, Zu, zC h12, zC h40, zC h43, zC h44, zC h45, zC h46, zC h47, zC h48, zC h49, o12, trim, -Zb, ↓ra, ↓rb_, ↓hfzR, ↓hrbR, HH1, rN, rI5, -List.getElem?_map, -List.getElem_map, HH13, hik2] <;> rfl) (by simp [zr, ZX, ZV, Zu, zC h12, zC h40, zC h43, zC h44, zC h45, zC h46, zC h47, zC h48, zC h49, o12, trim, -Zb, ↓ra, ↓rb_, ↓hfzR, ↓hrbR, HH1, rN, rI5, -List.getElem?_map, -List.getElem_map, HH13, hik2] <;> rfl), k + 1, i + 1, by omega, rfl, by omega, .inr ⟨0, [(x1, x2, x3, x4, x5)], by rw [hpks, hp0]; simp [hitg], rfl, by simp [rI5]⟩⟩
    ·have hli := of_decide_eq_false hli
     obtain rfl : L = k := by omega
     have hmemj : ∀ x ∈ (pickL A kI L).map (itG its), x ∈ its := fun x hx => by
      obtain ⟨i, hi, rfl⟩ := List.mem_map.1 hx
      have h1 := hAi i (List.mem_of_mem_take (hps.subset hi))
      unfold itG
      rw [List.getD_eq_getElem?_getD, List.getElem?_eq_getElem h1]
      exact List.getElem_mem h1
     have hjl7 : ((pickL A kI L).map (itG its)).length ≤ 7 := by rw [List.length_map]; have := asc_len hAa hAi; omega
     have hms2 : Xm u d ((pickL A kI L).map (itG its)) rs = (pickL A kI L).map fun i => (Xm u d its rs).getD i 0 := mays_sub u d its rs fun i hi => hAi i (List.mem_of_mem_take (hps.subset hi))
     have hl2 : ((pickL A kI L).map (itG its)).length = (pickL A kI L).length := List.length_map ..
     have e44k := e44s (.vl [] true) ((pickL A kI L).map (itG its)) (by rw [hp0]; rfl) hjl7 hmemj
     rw [hms2, hl2, hpk] at e44k
     by_cases hge : 0 ≤ kI
     ·rw [decide_eq_true hge, if_pos rfl] at e44k
      generalize encL (XH _ _ _ _) = gk at *
      have HH14 := zA nzv (zA nxv (zA nyv (zA hwk (zA e44k hge))))
      refine YD ?_
      simp only [zT, zB, if_true, if_false, reduceIte, Nat.reduceEqDiff, Nat.succ_ne_zero, Nat.one_ne_zero, Nat.zero_ne_one]
      refine Zc ?_
      refine Yk (ZY 3150720 [0] (by decide) (by simp) rfl (by simp [zr, ZX, ZV, Zu, zC h12, zC h40, zC h43, zC h44, zC h45, zC h46, zC h47, zC h48, zC h49, o12, trim, -Zb, ↓ra, ↓rb_, ↓hfzR, ↓hrbR, HH1, HH14] <;> rfl) (by simp [zr, ZX, ZV, Zu, zC h12, zC h40, zC h43, zC h44, zC h45, zC h46, zC h47, zC h48, zC h49, o12, trim, -Zb, ↓ra, ↓rb_, ↓hfzR, ↓hrbR, HH1, HH14] <;> rfl)) ?_
      refine Zd Zj hTb (Zw (by simp (maxSteps := 3000000) [zC h12, zC h40, zC h43, zC h44, zC h45, zC h46, zC h47, zC h48, zC h49, o12, trim, -Zb, ↓ra, ↓rb_, ↓hfzR, ↓hrbR, HH1, HH14]; rfl) ?_)
      simp only [zT, zB]
      refine Zc ?_
      refine Zd Zj hTb (zR (zO (by simp [zC h12, zC h40, zC h43, zC h44, zC h45, zC h46, zC h47, zC h48, zC h49, o12, trim, -Zb, ↓ra, ↓rb_, ↓hfzR, ↓hrbR, HH1, HH14]; rfl) ?_))
      simp only [zT, zB]
      refine Zo (x := false) (by simp [zC h12, zC h40, zC h43, zC h44, zC h45, zC h46, zC h47, zC h48, zC h49, o12, trim, -Zb, ↓ra, ↓rb_, ↓hfzR, ↓hrbR, HH1, HH14]) ?_
      refine ZF ?_
      simp only [zT, zB]
      refine Zd Zj hTb (zR (zO (by simp [zC h12, zC h40, zC h43, zC h44, zC h45, zC h46, zC h47, zC h48, zC h49, o12, trim, -Zb, ↓ra, ↓rb_, ↓hfzR, ↓hrbR, HH1, HH14]; rfl) ?_))
      simp only [zT, zB]
      exact ⟨L + 1 - (kk + 1), _, by omega, ZY 1053568 [0] (by decide) (by simp) rfl (by simp [zr, ZX, ZV, Zu, zC h12, zC h40, zC h43, zC h44, zC h45, zC h46, zC h47, zC h48, zC h49, o12, trim, -Zb, ↓ra, ↓rb_, ↓hfzR, ↓hrbR, HH1, HH14] <;> rfl) (by simp [zr, ZX, ZV, Zu, zC h12, zC h40, zC h43, zC h44, zC h45, zC h46, zC h47, zC h48, zC h49, o12, trim, -Zb, ↓ra, ↓rb_, ↓hfzR, ↓hrbR, HH1, HH14] <;> rfl), kk + 1, kI + 1, by omega, rfl, by omega, by simp⟩
     ·rw [decide_eq_false hge, if_neg (by simp)] at e44k
      have HH15 := zA nzv (zA nxv (zA nyv (zA hwk (zA e44k hge))))
      refine YD ?_
      simp only [zT, zB, if_true, if_false, reduceIte, Nat.reduceEqDiff, Nat.succ_ne_zero, Nat.one_ne_zero, Nat.zero_ne_one]
      refine Zc ?_
      refine Yk (ZY 3150720 [0] (by decide) (by simp) rfl (by simp [zr, ZX, ZV, Zu, zC h12, zC h40, zC h43, zC h44, zC h45, zC h46, zC h47, zC h48, zC h49, o12, trim, -Zb, ↓ra, ↓rb_, ↓hfzR, ↓hrbR, HH1, HH15] <;> rfl) (by simp [zr, ZX, ZV, Zu, zC h12, zC h40, zC h43, zC h44, zC h45, zC h46, zC h47, zC h48, zC h49, o12, trim, -Zb, ↓ra, ↓rb_, ↓hfzR, ↓hrbR, HH1, HH15] <;> rfl)) ?_
      refine Zd Zj hTb (Zw (by simp (maxSteps := 3000000) [zC h12, zC h40, zC h43, zC h44, zC h45, zC h46, zC h47, zC h48, zC h49, o12, trim, -Zb, ↓ra, ↓rb_, ↓hfzR, ↓hrbR, HH1, HH15]; rfl) ?_)
      simp only [zT, zB]
      refine Zc ?_
      refine Zd Zj hTb (zR (zO (by simp [zC h12, zC h40, zC h43, zC h44, zC h45, zC h46, zC h47, zC h48, zC h49, o12, trim, -Zb, ↓ra, ↓rb_, ↓hfzR, ↓hrbR, HH1, HH15]; rfl) ?_))
      simp only [zT, zB]
      refine Zo (x := false) (by simp [zC h12, zC h40, zC h43, zC h44, zC h45, zC h46, zC h47, zC h48, zC h49, o12, trim, -Zb, ↓ra, ↓rb_, ↓hfzR, ↓hrbR, HH1, HH15]) ?_
      refine ZF ?_
      simp only [zT, zB]
      refine Zd Zj hTb (zR (zO (by simp [zC h12, zC h40, zC h43, zC h44, zC h45, zC h46, zC h47, zC h48, zC h49, o12, trim, -Zb, ↓ra, ↓rb_, ↓hfzR, ↓hrbR, HH1, HH15]; rfl) ?_))
      simp only [zT, zB]
      exact ⟨L + 1 - (kk + 1), _, by omega, ZY 1053568 [0] (by decide) (by simp) rfl (by simp [zr, ZX, ZV, Zu, zC h12, zC h40, zC h43, zC h44, zC h45, zC h46, zC h47, zC h48, zC h49, o12, trim, -Zb, ↓ra, ↓rb_, ↓hfzR, ↓hrbR, HH1, HH15] <;> rfl) (by simp [zr, ZX, ZV, Zu, zC h12, zC h40, zC h43, zC h44, zC h45, zC h46, zC h47, zC h48, zC h49, o12, trim, -Zb, ↓ra, ↓rb_, ↓hfzR, ↓hrbR, HH1, HH15] <;> rfl), kk + 1, kI + 1, by omega, rfl, by omega, by simp⟩
   ·have hpl := pick_len A kI k
    have hps := pick_sub A kI k (by omega)
    have hpp : pp + 1 ≤ 10 := by rw [← hjl, hjs, List.length_map]; omega
    have tk : (js.map rI5).take (pp + 1) = js.map rI5 := List.take_of_length_le (by simp [hjl])
    have hlac : pp + 1 + 1 ≤ 1048576 := by omega
    have hst1 : ((js.map rI5).all fun r => r.all ZG) = true := by simp [rI5]
    have hr1 : ((js.map rI5).all fun r => r.length == 5) = true := by simp [rI5]
    have hfzz := fun H d => frz_rI5 H d js
    have hrn := fun K H d => renB_rI5 K H d js
    have HH16 := zA nzv (zA nxv (zA nyv (zA hwk (zA tk (zA hlac hjl)))))
    have HH17 := zA ra (zA rb_ (zA hfzR (zA hrbR (zA hst1 (zA hr1 (zA hfzz hrn))))))
    refine Zc ?_
    refine Zc ?_
    refine Zd Zj hTb (zR (zO (by simp [zC h12, zC h40, zC h43, zC h44, zC h45, zC h46, zC h47, zC h48, zC h49, o12, trim, -Zb, HH1, HH16, ↓HH17]; rfl) ?_))
    simp only [zT, zB]
    refine cruns_cond_split (x := decide (i < (L : Int))) (by simp) (fun hli => ?_) (fun hli => ?_)
    ·have hli := of_decide_eq_true hli
     have hkL : k < A.length := by omega
     obtain ⟨ta, rfl⟩ := dNs_get hAd hkL
     have hai : A[k] < its.length := hAi _ (List.getElem_mem hkL)
     have hxrr := hxr
     obtain ⟨tx, rfl⟩ := ZE hxrr (k := A[k]) (by simpa using hai)
     have hi0 : 0 ≤ i := by omega
     have htn : i.toNat = k := by omega
     have hwi : W .i64 (i + 1) = i + 1 := Zt (by omega)
     have g1 : (A.map rN)[k]? = some (rN A[k]) := by rw [List.getElem?_map, List.getElem?_eq_getElem hkL]; rfl
     have g2 : ∀ h, (A.map rN)[k]'h = rN A[k] := fun h => by simp
     have g3 := ixr A[k] hai
     have g4 : ∀ (h : A[k] < (its.map rI5).length), (its.map rI5)[A[k]]'h = rI5 its[A[k]] := fun h => by simp
     have hgA : A.getD k 0 = A[k] := by simp [List.getD, List.getElem?_eq_getElem hkL]
     have hitg : itG its A[k] = its[A[k]] := by unfold itG; simp [List.getD, List.getElem?_eq_getElem hai]
     have hpks : pickL A kI (k + 1) = if (k : Int) = kI then pickL A kI k else pickL A kI k ++ [A.getD k 0] := rfl
     have hprev : ∀ j, k = j + 1 → ∃ y, (A.map rN)[j]? = some (rN y) ∧ (∀ h, (A.map rN)[j]'h = rN y) ∧ y < A[k] ∧ j < A.length := by
      rintro j rfl
      have hj : j < A.length := by omega
      exact ⟨A[j], by rw [List.getElem?_map, List.getElem?_eq_getElem hj]; rfl, fun h => by simp, List.pairwise_iff_getElem.1 hAa j (j + 1) hj hkL (by omega), hj⟩
     rw [hgA] at hpks
     generalize its[A[k]] = x5 at *
     generalize A[k] = e at *
     obtain ⟨x1, x2, x3, x4, x5⟩ := x5
     have hne0 : ¬ (e : Int) < 0 := by omega
     have hneN : ¬ N ≤ (e : Int) := by omega
     rw [← hik] at hpks
     by_cases hk00 : k = 0
     ·have hnp : ¬ 0 < i := by omega
      have HH18 := zA hi0 (zA htn (zA hwi (zA hkL (zA hai (zA g1 (zA g2 (zA g3 (zA g4 (zA hne0 (zA hneN hnp))))))))))
      refine ZF ?_
      simp only [zT, zB]
      refine Zc ?_
      refine Yo ?_
      refine Zc ?_
      refine Zc ?_
      refine Zd Zj hTb (Zw (by simp (maxSteps := 3000000) [zC h12, zC h40, zC h43, zC h44, zC h45, zC h46, zC h47, zC h48, zC h49, o12, trim, -Zb, HH1, HH16, ↓HH17, rN, rI5, -List.getElem?_map, -List.getElem_map, HH18]; rfl) ?_)
      simp only [zT, zB]
      refine Zo (x := false) (by simp) ?_
      refine Yk (ZY 7345024 [0, 1] (by decide) (by simp) rfl (by simp [zr, ZX, ZV, Zu, zC h12, zC h40, zC h43, zC h44, zC h45, zC h46, zC h47, zC h48, zC h49, o12, trim, -Zb, HH1, HH16, ↓HH17, rN, rI5, -List.getElem?_map, -List.getElem_map, HH18] <;> rfl) (by simp [zr, ZX, ZV, Zu, zC h12, zC h40, zC h43, zC h44, zC h45, zC h46, zC h47, zC h48, zC h49, o12, trim, -Zb, HH1, HH16, ↓HH17, rN, rI5, -List.getElem?_map, -List.getElem_map, HH18] <;> rfl)) ?_
      refine ZF ?_
      simp only [zT, zB]
      refine Zc ?_
      refine Zd Zj hTb (zR (zO (by simp [zC h12, zC h40, zC h43, zC h44, zC h45, zC h46, zC h47, zC h48, zC h49, o12, trim, -Zb, HH1, HH16, ↓HH17, rN, rI5, -List.getElem?_map, -List.getElem_map, HH18]; rfl) ?_))
      simp only [zT, zB]
      by_cases hik2 : i = kI
      ·subst hik2
       rw [if_pos rfl] at hpks
       refine Zo (x := false) (by simp [zC h12, zC h40, zC h43, zC h44, zC h45, zC h46, zC h47, zC h48, zC h49, o12, trim, -Zb, HH1, HH16, ↓HH17, rN, rI5, -List.getElem?_map, -List.getElem_map, HH18]) ?_
       refine ZF ?_
       simp only [zT, zB]
       refine Zd Zj hTb (zR (zO (by simp [zC h12, zC h40, zC h43, zC h44, zC h45, zC h46, zC h47, zC h48, zC h49, o12, trim, -Zb, HH1, HH16, ↓HH17, rN, rI5, -List.getElem?_map, -List.getElem_map, HH18]; rfl) ?_))
       simp only [zT, zB]
       exact ⟨L - (k + 1), _, by omega, ZY 7345024 [0, 1] (by decide) (by simp) rfl (by simp [zr, ZX, ZV, Zu, zC h12, zC h40, zC h43, zC h44, zC h45, zC h46, zC h47, zC h48, zC h49, o12, trim, -Zb, HH1, HH16, ↓HH17, rN, rI5, -List.getElem?_map, -List.getElem_map, HH18] <;> rfl) (by simp [zr, ZX, ZV, Zu, zC h12, zC h40, zC h43, zC h44, zC h45, zC h46, zC h47, zC h48, zC h49, o12, trim, -Zb, HH1, HH16, ↓HH17, rN, rI5, -List.getElem?_map, -List.getElem_map, HH18] <;> rfl), k + 1, i + 1, by omega, rfl, by omega, by rw [hpks]; exact .inr ⟨pp, js, hjs, hjl, by simp⟩⟩
      ·rw [if_neg hik2] at hpks
       refine Zo (x := true) (by simp [zC h12, zC h40, zC h43, zC h44, zC h45, zC h46, zC h47, zC h48, zC h49, o12, trim, -Zb, HH1, HH16, ↓HH17, rN, rI5, -List.getElem?_map, -List.getElem_map, HH18, hik2]) ?_
       refine Zd Zj hTb (zR (zO (by simp [zC h12, zC h40, zC h43, zC h44, zC h45, zC h46, zC h47, zC h48, zC h49, o12, trim, -Zb, HH1, HH16, ↓HH17, rN, rI5, -List.getElem?_map, -List.getElem_map, HH18, hik2]; rfl) ?_))
       simp only [zT, zB]
       refine Zd Zj hTb (zR (zO (by simp [zC h12, zC h40, zC h43, zC h44, zC h45, zC h46, zC h47, zC h48, zC h49, o12, trim, -Zb, HH1, HH16, ↓HH17, rN, rI5, -List.getElem?_map, -List.getElem_map, HH18, hik2]; rfl) ?_))
       simp only [zT, zB]
       have hap : ∀ K H d, Zf (Zf (YV K H (d + 1))) (js.map rI5 ++ [[I x1, I x2, I x3, I x4, I x5]]) = some (js.map rI5 ++ [[I x1, I x2, I x3, I x4, I x5]]) := fun K H d => by
        have h := renB_rI5 K H d (js ++ [(x1, x2, x3, x4, x5)])
        rw [List.map_append] at h
        exact h
       exact ⟨L - (k + 1), _, by omega, ZY 7345024 [0, 3] (by decide) (by simp) rfl (by simp [zr, ZX, ZV, Zu, zC h12, zC h40, zC h43, zC h44, zC h45, zC h46, zC h47, zC h48, zC h49, o12, trim, -Zb, HH1, HH16, ↓HH17, rN, rI5, -List.getElem?_map, -List.getElem_map, HH18, hik2, ↓hap] <;> rfl) (by simp [zr, ZX, ZV, Zu, zC h12, zC h40, zC h43, zC h44, zC h45, zC h46, zC h47, zC h48, zC h49, o12, trim, -Zb, HH1, HH16, ↓HH17, rN, rI5, -List.getElem?_map, -List.getElem_map, HH18, hik2, ↓hap] <;> rfl), k + 1, i + 1, by omega, rfl, by omega, .inr ⟨pp + 1, js ++ [(x1, x2, x3, x4, x5)], by rw [hpks, List.map_append, ← hjs]; simp [hitg], by simp [hjl], by rw [List.map_append]; simp [rI5]⟩⟩
     ·obtain ⟨j, hjk⟩ : ∃ j, k = j + 1 := ⟨k - 1, by omega⟩
      obtain ⟨y, p1, p2, p3, p4⟩ := hprev j hjk
      have hip : 0 < i := by omega
      have hi1 : 1 ≤ i := by omega
      have hw1 : W .i64 (i - 1) = i - 1 := Zt (by omega)
      have h10 : 0 ≤ i - 1 := by omega
      have h1n : (i - 1).toNat = j := by omega
      have hley : ¬ (e : Int) ≤ (y : Int) := by omega
      have HH19 := zA hi0 (zA htn (zA hwi (zA hkL (zA hai (zA g1 (zA g2 (zA g3 (zA g4 (zA hne0 (zA hneN (zA p1 (zA p2 (zA p4 (zA hip (zA hi1 (zA hw1 (zA h10 (zA h1n hley))))))))))))))))))
      refine ZF ?_
      simp only [zT, zB]
      refine Zc ?_
      refine Yo ?_
      refine Zc ?_
      refine Zc ?_
      refine Zd Zj hTb (Zw (by simp (maxSteps := 3000000) [zC h12, zC h40, zC h43, zC h44, zC h45, zC h46, zC h47, zC h48, zC h49, o12, trim, -Zb, HH1, HH16, ↓HH17, rN, rI5, -List.getElem?_map, -List.getElem_map, HH19]; rfl) ?_)
      simp only [zT, zB]
      refine Zo (x := false) (by simp) ?_
      refine Yk (ZY 7345024 [0, 1] (by decide) (by simp) rfl (by simp [zr, ZX, ZV, Zu, zC h12, zC h40, zC h43, zC h44, zC h45, zC h46, zC h47, zC h48, zC h49, o12, trim, -Zb, HH1, HH16, ↓HH17, rN, rI5, -List.getElem?_map, -List.getElem_map, HH19] <;> rfl) (by simp [zr, ZX, ZV, Zu, zC h12, zC h40, zC h43, zC h44, zC h45, zC h46, zC h47, zC h48, zC h49, o12, trim, -Zb, HH1, HH16, ↓HH17, rN, rI5, -List.getElem?_map, -List.getElem_map, HH19] <;> rfl)) ?_
      refine ZF ?_
      simp only [zT, zB]
      refine Zc ?_
      refine Zd Zj hTb (zR (zO (by simp [zC h12, zC h40, zC h43, zC h44, zC h45, zC h46, zC h47, zC h48, zC h49, o12, trim, -Zb, HH1, HH16, ↓HH17, rN, rI5, -List.getElem?_map, -List.getElem_map, HH19]; rfl) ?_))
      simp only [zT, zB]
      by_cases hik2 : i = kI
      ·subst hik2
       rw [if_pos rfl] at hpks
       refine Zo (x := false) (by simp [zC h12, zC h40, zC h43, zC h44, zC h45, zC h46, zC h47, zC h48, zC h49, o12, trim, -Zb, HH1, HH16, ↓HH17, rN, rI5, -List.getElem?_map, -List.getElem_map, HH19]) ?_
       refine ZF ?_
       simp only [zT, zB]
       refine Zd Zj hTb (zR (zO (by simp [zC h12, zC h40, zC h43, zC h44, zC h45, zC h46, zC h47, zC h48, zC h49, o12, trim, -Zb, HH1, HH16, ↓HH17, rN, rI5, -List.getElem?_map, -List.getElem_map, HH19]; rfl) ?_))
       simp only [zT, zB]
       exact ⟨L - (k + 1), _, by omega, ZY 7345024 [0, 1] (by decide) (by simp) rfl (by simp [zr, ZX, ZV, Zu, zC h12, zC h40, zC h43, zC h44, zC h45, zC h46, zC h47, zC h48, zC h49, o12, trim, -Zb, HH1, HH16, ↓HH17, rN, rI5, -List.getElem?_map, -List.getElem_map, HH19] <;> rfl) (by simp [zr, ZX, ZV, Zu, zC h12, zC h40, zC h43, zC h44, zC h45, zC h46, zC h47, zC h48, zC h49, o12, trim, -Zb, HH1, HH16, ↓HH17, rN, rI5, -List.getElem?_map, -List.getElem_map, HH19] <;> rfl), k + 1, i + 1, by omega, rfl, by omega, by rw [hpks]; exact .inr ⟨pp, js, hjs, hjl, by simp⟩⟩
      ·rw [if_neg hik2] at hpks
       refine Zo (x := true) (by simp [zC h12, zC h40, zC h43, zC h44, zC h45, zC h46, zC h47, zC h48, zC h49, o12, trim, -Zb, HH1, HH16, ↓HH17, rN, rI5, -List.getElem?_map, -List.getElem_map, HH19, hik2]) ?_
       refine Zd Zj hTb (zR (zO (by simp [zC h12, zC h40, zC h43, zC h44, zC h45, zC h46, zC h47, zC h48, zC h49, o12, trim, -Zb, HH1, HH16, ↓HH17, rN, rI5, -List.getElem?_map, -List.getElem_map, HH19, hik2]; rfl) ?_))
       simp only [zT, zB]
       refine Zd Zj hTb (zR (zO (by simp [zC h12, zC h40, zC h43, zC h44, zC h45, zC h46, zC h47, zC h48, zC h49, o12, trim, -Zb, HH1, HH16, ↓HH17, rN, rI5, -List.getElem?_map, -List.getElem_map, HH19, hik2]; rfl) ?_))
       simp only [zT, zB]
       have hap : ∀ K H d, Zf (Zf (YV K H (d + 1))) (js.map rI5 ++ [[I x1, I x2, I x3, I x4, I x5]]) = some (js.map rI5 ++ [[I x1, I x2, I x3, I x4, I x5]]) := fun K H d => by
        have h := renB_rI5 K H d (js ++ [(x1, x2, x3, x4, x5)])
        rw [List.map_append] at h
        exact h
       exact ⟨L - (k + 1), _, by omega, ZY 7345024 [0, 3] (by decide) (by simp) rfl (by simp [zr, ZX, ZV, Zu, zC h12, zC h40, zC h43, zC h44, zC h45, zC h46, zC h47, zC h48, zC h49, o12, trim, -Zb, HH1, HH16, ↓HH17, rN, rI5, -List.getElem?_map, -List.getElem_map, HH19, hik2, ↓hap] <;> rfl) (by simp [zr, ZX, ZV, Zu, zC h12, zC h40, zC h43, zC h44, zC h45, zC h46, zC h47, zC h48, zC h49, o12, trim, -Zb, HH1, HH16, ↓HH17, rN, rI5, -List.getElem?_map, -List.getElem_map, HH19, hik2, ↓hap] <;> rfl), k + 1, i + 1, by omega, rfl, by omega, .inr ⟨pp + 1, js ++ [(x1, x2, x3, x4, x5)], by rw [hpks, List.map_append, ← hjs]; simp [hitg], by simp [hjl], by rw [List.map_append]; simp [rI5]⟩⟩
    ·have hli := of_decide_eq_false hli
     obtain rfl : L = k := by omega
     have hmemj : ∀ x ∈ (pickL A kI L).map (itG its), x ∈ its := fun x hx => by
      obtain ⟨i, hi, rfl⟩ := List.mem_map.1 hx
      have h1 := hAi i (List.mem_of_mem_take (hps.subset hi))
      unfold itG
      rw [List.getD_eq_getElem?_getD, List.getElem?_eq_getElem h1]
      exact List.getElem_mem h1
     have hjl7 : ((pickL A kI L).map (itG its)).length ≤ 7 := by rw [List.length_map]; have := asc_len hAa hAi; omega
     have hms2 : Xm u d ((pickL A kI L).map (itG its)) rs = (pickL A kI L).map fun i => (Xm u d its rs).getD i 0 := mays_sub u d its rs fun i hi => hAi i (List.mem_of_mem_take (hps.subset hi))
     have hl2 : ((pickL A kI L).map (itG its)).length = (pickL A kI L).length := List.length_map ..
     rw [← hjs] at hmemj hjl7 hms2 hl2
     have e44k := e44s (.vl (js.map rI5) false) js rfl hjl7 hmemj
     have hjx : js = js := rfl
     rw [hms2, hl2, hpk] at e44k
     by_cases hge : 0 ≤ kI
     ·rw [decide_eq_true hge, if_pos rfl] at e44k
      generalize encL (XH _ _ _ _) = gk at *
      refine YD ?_
      simp only [zT, zB, if_true, if_false, reduceIte, Nat.reduceEqDiff, Nat.succ_ne_zero, Nat.one_ne_zero, Nat.zero_ne_one]
      refine Zc ?_
      refine Yk (ZY 3150720 [0] (by decide) (by simp) rfl (by simp [zr, ZX, ZV, Zu, zC h12, zC h40, zC h43, zC h44, zC h45, zC h46, zC h47, zC h48, zC h49, o12, trim, -Zb, HH1, HH16, ↓HH17, e44k, hge] <;> rfl) (by simp [zr, ZX, ZV, Zu, zC h12, zC h40, zC h43, zC h44, zC h45, zC h46, zC h47, zC h48, zC h49, o12, trim, -Zb, HH1, HH16, ↓HH17, e44k, hge] <;> rfl)) ?_
      refine Zd Zj hTb (Zw (by simp (maxSteps := 3000000) [zC h12, zC h40, zC h43, zC h44, zC h45, zC h46, zC h47, zC h48, zC h49, o12, trim, -Zb, HH1, HH16, ↓HH17, e44k, hge]; rfl) ?_)
      simp only [zT, zB]
      refine Zc ?_
      refine Zd Zj hTb (zR (zO (by simp [zC h12, zC h40, zC h43, zC h44, zC h45, zC h46, zC h47, zC h48, zC h49, o12, trim, -Zb, HH1, HH16, ↓HH17, e44k, hge]; rfl) ?_))
      simp only [zT, zB]
      refine Zo (x := false) (by simp [zC h12, zC h40, zC h43, zC h44, zC h45, zC h46, zC h47, zC h48, zC h49, o12, trim, -Zb, HH1, HH16, ↓HH17, e44k, hge]) ?_
      refine ZF ?_
      simp only [zT, zB]
      refine Zd Zj hTb (zR (zO (by simp [zC h12, zC h40, zC h43, zC h44, zC h45, zC h46, zC h47, zC h48, zC h49, o12, trim, -Zb, HH1, HH16, ↓HH17, e44k, hge]; rfl) ?_))
      simp only [zT, zB]
      exact ⟨L + 1 - (kk + 1), _, by omega, ZY 1053568 [0] (by decide) (by simp) rfl (by simp [zr, ZX, ZV, Zu, zC h12, zC h40, zC h43, zC h44, zC h45, zC h46, zC h47, zC h48, zC h49, o12, trim, -Zb, HH1, HH16, ↓HH17, e44k, hge] <;> rfl) (by simp [zr, ZX, ZV, Zu, zC h12, zC h40, zC h43, zC h44, zC h45, zC h46, zC h47, zC h48, zC h49, o12, trim, -Zb, HH1, HH16, ↓HH17, e44k, hge] <;> rfl), kk + 1, kI + 1, by omega, rfl, by omega, by simp⟩
     ·rw [decide_eq_false hge, if_neg (by simp)] at e44k
      refine YD ?_
      simp only [zT, zB, if_true, if_false, reduceIte, Nat.reduceEqDiff, Nat.succ_ne_zero, Nat.one_ne_zero, Nat.zero_ne_one]
      refine Zc ?_
      refine Yk (ZY 3150720 [0] (by decide) (by simp) rfl (by simp [zr, ZX, ZV, Zu, zC h12, zC h40, zC h43, zC h44, zC h45, zC h46, zC h47, zC h48, zC h49, o12, trim, -Zb, HH1, HH16, ↓HH17, e44k, hge] <;> rfl) (by simp [zr, ZX, ZV, Zu, zC h12, zC h40, zC h43, zC h44, zC h45, zC h46, zC h47, zC h48, zC h49, o12, trim, -Zb, HH1, HH16, ↓HH17, e44k, hge] <;> rfl)) ?_
      refine Zd Zj hTb (Zw (by simp (maxSteps := 3000000) [zC h12, zC h40, zC h43, zC h44, zC h45, zC h46, zC h47, zC h48, zC h49, o12, trim, -Zb, HH1, HH16, ↓HH17, e44k, hge]; rfl) ?_)
      simp only [zT, zB]
      refine Zc ?_
      refine Zd Zj hTb (zR (zO (by simp [zC h12, zC h40, zC h43, zC h44, zC h45, zC h46, zC h47, zC h48, zC h49, o12, trim, -Zb, HH1, HH16, ↓HH17, e44k, hge]; rfl) ?_))
      simp only [zT, zB]
      refine Zo (x := false) (by simp [zC h12, zC h40, zC h43, zC h44, zC h45, zC h46, zC h47, zC h48, zC h49, o12, trim, -Zb, HH1, HH16, ↓HH17, e44k, hge]) ?_
      refine ZF ?_
      simp only [zT, zB]
      refine Zd Zj hTb (zR (zO (by simp [zC h12, zC h40, zC h43, zC h44, zC h45, zC h46, zC h47, zC h48, zC h49, o12, trim, -Zb, HH1, HH16, ↓HH17, e44k, hge]; rfl) ?_))
      simp only [zT, zB]
      exact ⟨L + 1 - (kk + 1), _, by omega, ZY 1053568 [0] (by decide) (by simp) rfl (by simp [zr, ZX, ZV, Zu, zC h12, zC h40, zC h43, zC h44, zC h45, zC h46, zC h47, zC h48, zC h49, o12, trim, -Zb, HH1, HH16, ↓HH17, e44k, hge] <;> rfl) (by simp [zr, ZX, ZV, Zu, zC h12, zC h40, zC h43, zC h44, zC h45, zC h46, zC h47, zC h48, zC h49, o12, trim, -Zb, HH1, HH16, ↓HH17, e44k, hge] <;> rfl), kk + 1, kI + 1, by omega, rfl, by omega, by simp⟩
  ·have hlt := of_decide_eq_false hlt
   refine YD ?_
   simp only [zT, zB, if_true, if_false, reduceIte, Nat.reduceEqDiff, Nat.succ_ne_zero, Nat.one_ne_zero, Nat.zero_ne_one]
   refine Zc ?_
   refine Zd Zj hTb (zR (zO (by simp [zC h12, zC h40, zC h43, zC h44, zC h45, zC h46, zC h47, zC h48, zC h49, o12, trim, -Zb, ↓ra, ↓rb_, ↓hfzR, ↓hrbR, HH1, nzv, nxv, nyv]; rfl) ?_))
   simp only [zT, zB]
   refine cruns_ret ?_
   simp [zC h12, zC h40, zC h43, zC h44, zC h45, zC h46, zC h47, zC h48, zC h49, o12, trim, -Zb, ↓ra, ↓rb_, ↓hfzR, ↓hrbR, HH1, nzv, nxv, nyv]
theorem a9 (T T2 : Nat → Option CFn) (hTb : Zz Tryd.prog GG T) (hTb2 : Zz Tryd.prog GG T2) (h46x : T2 46 = some { c46 with frsh := false, orc := fun _ => none, eff := freshE true sRooms }) (hT : T 9 = some c9) (h12 : T 12 = some { c12 with frsh := true, orc := o12 }) (h40 : T 40 = some { c40 with frsh := true, orc := o40n }) (h43 : T 43 = some { c43 with body := annK [(114, [.slot 4]), (306, [.slot 5])] [] c43.body, frsh := false, orc := o43 }) (h44 : T 44 = some { c44 with frsh := false, orc := o44 }) (h45 : T 45 = some { c45 with frsh := false, orc := o45 }) (h46 : T 46 = some { c46 with frsh := false, orc := o46 }) (h47 : T 47 = some { c47 with frsh := false, orc := o47 }) (h48 : T 48 = some { c48 with frsh := true, orc := o48 }) (h49 : T 49 = some { c49 with frsh := true, orc := o49 }) (x y mx : Za) (xs : List R4) (ys : List (Nat × Nat × Nat)) (bs : List Nat) (hx : Zn x = some (xs.map r4)) (hy : Zn y = some (ys.map r3u)) (hz : Zn mx = some (bs.map r1u)) (hbx : ∀ v ∈ xs, R4Ok v) (hby : ∀ v ∈ ys, R3Ok v) (hbz : ∀ v ∈ bs, v < 256) (a b : Nat) (ha : a < 256) (hb : b < 256) : CAns Tryd.prog GG 9 [.agg [x, y], .agg [.int .u8 (a : Nat), .int .u8 (b : Nat)], mx] [] fun v h => v = .bool true := by
 rcases Bool.eq_false_or_eq_true (YE (Xm ((a % 21 : Nat) : Int) ((b % 21 : Nat) : Int) ((xs.take 6).map deIt) ((ys.take 4).map YM)) (2 ^ ((xs.take 6).map deIt).length - 1) (plOf ((ys.take 4).map YM))) with hf | hf
 ·exact a9A T T2 hTb hTb2 h46x hT h12 h40 h43 h44 h45 h46 h47 h48 h49 x y mx xs ys bs hx hy hz hbx hby hbz a b ha hb hf
 ·exact a9B T T2 hTb hTb2 h46x hT h12 h40 h43 h44 h45 h46 h47 h48 h49 x y mx xs ys bs hx hy hz hbx hby hbz a b ha hb hf
theorem law9 (x y mx : Za) (xs : List R4) (ys : List (Nat × Nat × Nat)) (bs : List Nat) (hx : Zn x = some (xs.map r4)) (hy : Zn y = some (ys.map r3u)) (hz : Zn mx = some (bs.map r1u)) (hbx : ∀ v ∈ xs, R4Ok v) (hby : ∀ v ∈ ys, R3Ok v) (hbz : ∀ v ∈ bs, v < 256) (a b : Nat) (ha : a < 256) (hb : b < 256) : CAns Tryd.prog GG 9 [.agg [x, y], .agg [.int .u8 (a : Nat), .int .u8 (b : Nat)], mx] [] fun v h => v = .bool true := a9 DZ4 DZ3 DZ4_ok DZ3_ok rfl rfl rfl rfl rfl rfl rfl rfl rfl rfl rfl x y mx xs ys bs hx hy hz hbx hby hbz a b ha hb
end
end
end Go.Proofs.YtpebmjeomlgmdaaDoor.Tab
namespace Go.Abs
open Go Go.Proofs Go.RowKit
section
variable {P : Program} {G : Nat → Option (List Za)}
theorem law_callsC {f : Nat} {xs : List Za} {cargs : Array Value} {W : World}
    (hglob : ∀ g r, G g = some r → Abs.VR ρ0 (fun b => b < W.heap.size) W (fun _ => False) (.pv r 0) (.pointer (some ⟨g, 0, none⟩)))
    (hargs : RowR ρ0 W xs cargs.toList) (ha : CAns P G f xs [] fun v _ => v = .bool true) : Calls P f cargs W fun e W' => e = .returned (.bool true) ∧ Below W.heap.size W W' := by
  have hr : Env.HR P G ⟨ρ0, fun _ => False, fun _ => False, fun b => b < W.heap.size⟩ [] W :=
    ⟨fun i b hi => by simp at hi, fun i j b c hi => by simp at hi, fun i hi => hi.elim, fun b hb => hb.elim, fun b hb => ⟨hb, fun h => h⟩, hglob⟩
  have hl : Env.LR ⟨ρ0, fun _ => False, fun _ => False, fun b => b < W.heap.size⟩ W xs cargs :=
    ⟨by simpa using hargs.1, fun j h1 h2 => hargs.2 j _ _ (List.getElem?_eq_getElem h1) (by simp [h2])⟩
  refine (CallsIn.calls (ha _ W cargs 0 hr hl) fun k d hd => by simp at hd).mono ?_
  rintro e W' ⟨v, h', rfl, u, E', rfl, hle, _, hu, _, _⟩
  refine ⟨?_, hle.os, hle.tape, hle.output.1, hle.size, fun b hb => (hle.old b hb fun h => h).1⟩
  have := VR.bool_inv hu
  rw [this]
end
end Go.Abs
namespace Go.Proofs.YtpebmjeomlgmdaaDoor
open Go Go.Abs Go.Proofs Go.ChangeShapes Go.WideShapes Go.ChangeAt Go.RowKit
theorem fits_list {α : Type} {enc : α → List Za} {ok : α → Prop} {L : List Ly} {x : Za} (hx : Fits (.sl L) x) (h : ∀ r, FitsR L r → ∃ v, r = enc v ∧ ok v) : ∃ vs : List α, Zn x = some (vs.map enc) ∧ ∀ v ∈ vs, ok v := by
  obtain ⟨rs, hx, hrs⟩ := fits_rows hx
  have hb : ∀ r ∈ rs, ∃ v, r = enc v ∧ ok v := fun r hr => h r (hrs r hr)
  obtain ⟨vs, rfl, hvs⟩ : ∃ vs : List α, rs = vs.map enc ∧ ∀ v ∈ vs, ok v := by
    clear hx hrs
    induction rs with
    | nil => exact ⟨[], rfl, by simp⟩
    | cons r rs ih =>
      obtain ⟨v, rfl, hv⟩ := hb r (by simp)
      obtain ⟨vs, rfl, hvs⟩ := ih fun r hr => hb r (by simp [hr])
      exact ⟨v :: vs, rfl, fun w hw => by
        rcases List.mem_cons.1 hw with rfl | hw
        · exact hv
        · exact hvs w hw⟩
  refine ⟨vs, ?_, hvs⟩
  rcases hx with ⟨rfl, h0⟩ | ⟨t, rfl⟩
  · show some [] = some _
    exact congrArg some h0.symm
  · rfl
theorem fits_r4 {r : List Za} (h : FitsR [.int .u8, .int .u8, .int .u8, .int .u8] r) : ∃ v : Tab.R4, r = Tab.r4 v ∧ Tab.R4Ok v := by
  obtain ⟨p, ys, rfl, hp, h⟩ := fits_u8 h
  obtain ⟨q, ys, rfl, hq, h⟩ := fits_u8 h
  obtain ⟨s, ys, rfl, hs, h⟩ := fits_u8 h
  obtain ⟨u, ys, rfl, hu, h⟩ := fits_u8 h
  obtain rfl := fits_nil0 h
  exact ⟨(p, q, s, u), rfl, hp, hq, hs, hu⟩
theorem fits_r3 {r : List Za} (h : FitsR [.int .u8, .int .u8, .int .u8] r) : ∃ v : Nat × Nat × Nat, r = Tab.r3u v ∧ Tab.R3Ok v := by
  obtain ⟨p, ys, rfl, hp, h⟩ := fits_u8 h
  obtain ⟨q, ys, rfl, hq, h⟩ := fits_u8 h
  obtain ⟨s, ys, rfl, hs, h⟩ := fits_u8 h
  obtain rfl := fits_nil0 h
  exact ⟨(p, q, s), rfl, hp, hq, hs⟩
theorem fits_r1 {r : List Za} (h : FitsR [.int .u8] r) : ∃ v : Nat, r = Tab.r1u v ∧ v < 256 := by
  obtain ⟨p, ys, rfl, hp, h⟩ := fits_u8 h
  obtain rfl := fits_nil0 h
  exact ⟨p, rfl, hp⟩
theorem fits_depot {xs : List Za} (h : FitsR [.sl [.int .u8, .int .u8, .int .u8, .int .u8], .sl [.int .u8, .int .u8, .int .u8]] xs) : ∃ (x y : Za) (rs : List Tab.R4) (ss : List (Nat × Nat × Nat)), xs = [x, y] ∧ Zn x = some (rs.map Tab.r4) ∧ (∀ v ∈ rs, Tab.R4Ok v) ∧ Zn y = some (ss.map Tab.r3u) ∧ ∀ v ∈ ss, Tab.R3Ok v := by
  obtain ⟨x, ys, rfl, hx, h⟩ := fitsR_cons h
  obtain ⟨y, ys, rfl, hy, h⟩ := fitsR_cons h
  obtain rfl := fits_nil0 h
  obtain ⟨rs, h1, h2⟩ := fits_list hx fun r => fits_r4
  obtain ⟨ss, h3, h4⟩ := fits_list hy fun r => fits_r3
  exact ⟨x, y, rs, ss, rfl, h1, h2, h3, h4⟩
theorem fits_8 {xs : List Za} (h : FitsR [.int .u8, .int .u8] xs) : ∃ a b : Nat, xs = [.int .u8 (a : Nat), .int .u8 (b : Nat)] ∧ a < 256 ∧ b < 256 := by
  obtain ⟨a, ys, rfl, ha, h⟩ := fits_u8 h
  obtain ⟨b, ys, rfl, hb, h⟩ := fits_u8 h
  obtain rfl := fits_nil0 h
  exact ⟨a, b, rfl, ha, hb⟩
end Go.Proofs.YtpebmjeomlgmdaaDoor
