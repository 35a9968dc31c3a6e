/- The law of true complaints. No condition. -/
import Derived.Test.YtpebmjeomlgmdaaDoorPzDDy
set_option linter.unusedSimpArgs false
set_option linter.unusedVariables false
namespace Go.Proofs.YtpebmjeomlgmdaaDoor.Tab
open Go Go.Abs Go.Proofs
set_option maxRecDepth 100000
set_option maxHeartbeats 4000000
set_option linter.unusedSimpArgs false
set_option linter.unusedVariables false
section
attribute [local simp] Yp ZZ Xi Xj Yu Yt Xk YE YO Yj Zd XX Xd YD Xf Xb YC Yi XR XT YZ YB YA Yz Xe Xa Xc XS XU slE XF YV ZX Zy Xo List.range_succ List.range_zero List.range'_succ List.range'_zero ZN ZL Zq ZQ ZA ZE YX ZS dop CV.ev Ya Zm Zv YL XP Yk ZK Zu Zl Out.v Xq List.replicate_succ zT zB arI Zw Abs.rowAt Xm allV toV toC ofV ofC Builtin.min_ Builtin.min2 Builtin.max_ Builtin.max2 Xg Xh XW XQ Xn ZM Yf Yg Ye Zb
section
attribute [local simp] ZO ZB YH Yw XI YY disj YJ XO YK ZI YM news eqB YW eqA Yx YS YQ ofCs stA Yh ZC Yl dI1 dI2 dI3 dI5 elt
attribute [local simp] st_any XZ st_agg st_tup Xw st_int Xt st_ref st_pv Xs st_sl st_vl Xu st_mp st_fn Xv XY co_any co_und co_agg co_tup XC co_int Xz co_ref co_pv Xy co_sl co_vl XA co_mp co_fn XB co_yld
attribute [local simp] Ym Zj frzG gather getR lim lop Yo lowA lowR okG putG putR rbB_none rbB_row resG rowAt takeG
def leftR (cs : Cs) (S : List (List Nat)) (a b : Nat) : Nat := (S.filter fun s => explR cs s a b).length
theorem leftR_succ {cs : Cs} {S : List (List Nat)} {a b k : Nat} (h : k < S.length) : leftR cs (S.take (k + 1)) a b = leftR cs (S.take k) a b + (if explR cs S[k] a b = true then 1 else 0) := by
  unfold leftR
  rw [List.take_succ_eq_append_getElem h, List.filter_append, List.length_append]
  simp only [List.filter_cons, List.filter_nil]
  split <;> rfl
theorem leftR_len' (cs : Cs) (S : List (List Nat)) (a b k : Nat) : leftR cs (S.take k) a b ≤ k := Nat.le_trans (List.length_filter_le _ _) (by rw [List.length_take]; omega)
def cntR (cs : Cs) (S : List (List Nat)) (se mi k : Nat) : Nat := max (leftR cs S (se ||| 2 ^ k) mi) (leftR cs S se (mi ||| 2 ^ k))
def lookRR (cs : Cs) (S : List (List Nat)) (se mi k : Nat) : Nat × Nat := lookK (cntR cs S se mi) (fun k => (se ||| mi).testBit k) S.length k
def SetsOk (n : Nat) (S : List (List Nat)) : Prop := S.length ≤ 2000 ∧ ∀ s ∈ S, s.length ≤ 10 ∧ ∀ x ∈ s, x < n
instance (n : Nat) (S : List (List Nat)) : Decidable (SetsOk n S) := inferInstanceAs (Decidable (_ ∧ _))
noncomputable def DQ3 : Nat → Option CFn := DQ2
theorem DQ3_ok : Zp Tryd.prog GG DQ3 := DQ2_ok
theorem leftNR {cs : Cs} {S : List (Fin 1024)} {a b : Nat} (h1 : a < 4096) (h2 : b < 4096) : leftN cs (valsS S) a b = leftR cs (bitS S) a b := by
  unfold leftN leftR valsS bitS
  rw [← List.countP_eq_length_filter, ← List.countP_eq_length_filter, List.countP_map, List.countP_map]
  congr 1
  funext x
  exact expl_eq h1 h2
theorem lookK_congr {c1 c2 : Nat → Nat} {s1 s2 : Nat → Bool} {t : Nat} : ∀ k, (∀ i < k, c1 i = c2 i ∧ s1 i = s2 i) → lookK c1 s1 t k = lookK c2 s2 t k
  | 0, _ => rfl
  | k + 1, h => by
    have hk := h k (by omega)
    simp only [lookK, lookK_congr k fun i hi => h i (by omega), hk.1, hk.2]
theorem look_law {cs : Cs} {S : List (Fin 1024)} {se mi : Nat} (h1 : se < 4096) (h2 : mi < 4096) : lookN cs (valsS S) se mi 12 = lookRR cs (bitS S) se mi 12 := by
  unfold lookN lookRR
  have e : (valsS S).length = (bitS S).length := by simp [valsS, bitS]
  refine lookK_congr 12 (fun i hi => ⟨?_, rfl⟩) |>.trans (by rw [e])
  have hp := pow12 hi
  unfold cntN cntR
  rw [leftNR (Nat.or_lt_two_pow (n := 12) h1 hp) h2, leftNR h1 (Nat.or_lt_two_pow (n := 12) h2 hp)]
theorem lookK_lt {cnt : Nat → Nat} {skip : Nat → Bool} {tot : Nat} : ∀ k, (lookK cnt skip tot k).2 ≤ tot
  | k => (lookK_le cnt skip tot k).1
theorem look_law2 (l : List (Int × Int)) (se mi : Int) : lookR l se mi =
    if (lawL l se mi).1 = 0 then
      (if (lookRR (YQ l) (lawL l se mi).2 se.toNat mi.toNat 12).2 < (lawL l se mi).2.length then ((lookRR (YQ l) (lawL l se mi).2 se.toNat mi.toNat 12).1, (lookRR (YQ l) (lawL l se mi).2 se.toNat mi.toNat 12).2, 0) else (0, 0, 7))
    else (0, 0, (lawL l se mi).1) := by
  obtain ⟨h1, h2⟩ := open_law l se mi
  unfold lookR
  by_cases h : (lawL l se mi).1 = 0
  · have hE := openR_c (h1.trans h)
    have hc := (compE_ok hE).2.2.1
    rw [if_pos h, if_pos (h1.trans h), look_law (by omega) (by omega), h2]
    have hl : (Yb l se mi).2.length = (lawL l se mi).2.length := by rw [← h2]; simp [bitS]
    have hle : (lookRR (YQ l) (lawL l se mi).2 se.toNat mi.toNat 12).2 ≤ (lawL l se mi).2.length := lookK_lt 12
    rw [hl]
    generalize lookRR (YQ l) (lawL l se mi).2 se.toNat mi.toNat 12 = L at *
    by_cases e : L.2 = (lawL l se mi).2.length
    · rw [if_pos e, if_neg (by omega)]
    · rw [if_neg e, if_pos (by omega)]
  · rw [if_neg h, if_neg (by rw [h1]; exact h), h1]
end
end
end Go.Proofs.YtpebmjeomlgmdaaDoor.Tab
namespace Go.Proofs.YtpebmjeomlgmdaaDoor.Tab
open Go Go.Abs Go.Proofs
set_option maxRecDepth 100000
set_option maxHeartbeats 4000000
set_option linter.unusedSimpArgs false
set_option linter.unusedVariables false
noncomputable section
attribute [local simp] Yp ZZ Xi Xj Yu Yt Xk YE YO Yj Zd XX Xd YD Xf Xb YC Yi XR XT YZ YB YA Yz Xe Xa Xc XS XU slE XF YV ZX Zy Xo List.range_succ List.range_zero List.range'_succ List.range'_zero ZN ZL Zq ZQ ZA ZE YX ZS dop CV.ev Ya Zm Zv YL XP Yk ZK Zu Zl Out.v Xq List.replicate_succ zT zB arI Zw Abs.rowAt Xm allV toV toC ofV ofC Builtin.min_ Builtin.min2 Builtin.max_ Builtin.max2 Xg Xh XW XQ Xn ZM Yf Yg Ye Zb
section
attribute [local simp] ZO ZB YH Yw XI YY disj YJ XO YK ZI YM news eqB YW eqA Yx YS YQ ofCs stA Yh ZC Yl dI1 dI2 dI3 dI5 elt
attribute [local simp] st_any XZ st_agg st_tup Xw st_int Xt st_ref st_pv Xs st_sl st_vl Xu st_mp st_fn Xv XY co_any co_und co_agg co_tup XC co_int Xz co_ref co_pv Xy co_sl co_vl XA co_mp co_fn XB co_yld
attribute [local simp] List.all_append Ym Zj frzG gather getR lim lop Yo lowA lowR okG putG putR rbB_none rbB_row resG rowAt takeG
def toldV (cs : Cs) (t : Nat) : Za := .tup [.vl (cs.map rC) cs.isEmpty, I (YF cs (YT cs.length t) : Nat), I (YP cs (YT cs.length t) : Nat), I ((YT cs.length t).length : Nat)]
def dB4 : List Za → Option R4
  | [.int .u8 a, .int .u8 b, .int .u8 c, .int .u8 d] => if (0 ≤ a ∧ a < 256) ∧ (0 ≤ b ∧ b < 256) ∧ (0 ≤ c ∧ c < 256) ∧ (0 ≤ d ∧ d < 256) then some (a.toNat, b.toNat, c.toNat, d.toNat) else none
  | _ => none
theorem dB4_eq (r : List Za) (v : R4) (h : dB4 r = some v) : r = r4 v := by
  unfold dB4 at h; split at h <;> (try simp only [reduceCtorEq] at h)
  split at h <;> (try simp only [reduceCtorEq] at h)
  rename_i a b c d hg
  simp only [Option.some.injEq] at h
  subst h
  simp only [r4, Int.toNat_of_nonneg hg.1.1, Int.toNat_of_nonneg hg.2.1.1, Int.toNat_of_nonneg hg.2.2.1.1, Int.toNat_of_nonneg hg.2.2.2.1]
theorem dB4_bd : ∀ {rs : List (List Za)} {l : List R4}, Zd dB4 rs = some l → ∀ v ∈ l, R4Ok v
  | [], l, h => by simp at h; subst h; simp
  | r :: rs, l, h => by
    simp only [Zd] at h
    split at h <;> simp at h
    rename_i y ys e1 e2
    subst h
    intro v hv
    rcases List.mem_cons.1 hv with rfl | hv
    · unfold dB4 at e1; split at e1 <;> (try simp only [reduceCtorEq] at e1)
      split at e1 <;> (try simp only [reduceCtorEq] at e1)
      rename_i hg
      simp only [Option.some.injEq] at e1
      subst e1
      unfold R4Ok; simp only; omega
    · exact dB4_bd e2 v hv
theorem dB4_self {rs : List R4} (h : ∀ v ∈ rs, R4Ok v) : Zd dB4 (rs.map r4) = some rs := by
  have h2 : Zd dB4 (rs.map r4) = some (rs.map id) := optAll_map2 rs fun v hv => by
    have := h v hv
    unfold R4Ok at this
    simp only [dB4, r4, id]; rw [if_pos (by omega)]; simp only [Int.toNat_natCast]
  rwa [List.map_id] at h2
def o50 : List Za → Option Za
  | [.agg [x, .int .u8 t]] => match Zt x with
    | some rs => match Zd dB4 rs with
      | some l => if 0 ≤ t ∧ t < 256 then some (toldV (toldC l) t.toNat) else none
      | none => none
    | none => none
  | _ => none
theorem o50_eq {x : Za} {rs : List R4} (hx : Zt x = some (rs.map r4)) (hb : ∀ v ∈ rs, R4Ok v) {t : Nat} (ht : t < 256) : o50 [.agg [x, .int .u8 (t : Nat)]] = some (toldV (toldC rs) t) := by
  simp only [o50, hx, dB4_self hb]; rw [if_pos (by omega), Int.toNat_natCast]
theorem a50 (P : Program) (T : Nat → Option CFn) (hT : T 50 = some { c50 with body := annK [(1986, [.slot 6])] [] c50.body }) (x : Za) (rs : List R4) (hx : Zt x = some (rs.map r4)) (hb : ∀ v ∈ rs, R4Ok v) (t : Nat) (ht : t < 256) (cs : Cs) (hcs : cs = toldC rs) : Zo P T 50 [.agg [x, .int .u8 (t : Nat)]] [] fun v h => frz false h 5 v = some (toldV cs t) := by
 unfold toldV
 have lx := ZV hx
 rw [List.length_map] at lx
 have rx := fun n d => ZY hx n d
 have fx := fun H d => ZG hx H d
 obtain ⟨cx1, cx2⟩ := ZH hx
 have hln : cs.length = min 8 rs.length := by rw [hcs]; exact toldC_len rs
 have hok := toldC_ok rs
 rw [← hcs] at hok
 refine Zi hT (Zk rfl) ?_
 simp only [oo, om, op, og, ci, cl, c50, annK, lkG, lkR, reduceIte, Nat.reduceEqDiff, reduceCtorEq, List.cons.injEq, and_true, and_false, false_and, true_and]
 have HH1 := zA lx (zA rx (zA fx (zA cx1 cx2)))
 refine zS ?_
 refine zR (zO (by simp [-Zb, HH1]; rfl) ?_)
 simp only [zT, zB]
 refine zS ?_
 refine zR (zO (by simp [-Zb, HH1]; rfl) ?_)
 simp only [zT, zB]
 refine zS ?_
 refine zS ?_
 refine zR (zO (by simp [-Zb, HH1]; rfl) ?_)
 simp only [zT, zB]
 refine zL ?_
 refine runs_loopG_inv (fun mm σ => ∃ (k : Nat) (i M A N : Int), i = k ∧ 8 - k = mm ∧ k ≤ cs.length ∧ M = (YF cs (YT k t) : Nat) ∧ A = (YP cs (YT k t) : Nat) ∧ N = ((YT k t).length : Nat) ∧ ((k = 0 ∧ σ = ⟨[.any, .ref 0 0 0, .any, .any, .any, .any, .sl 2 0 0 true, I M, I A, I N, I i, .any, .any, .any, .any, .any, .any, .any, .any, .any, .any, .any, .any, .any, .any, .any, .any, .any, .any, .any, .any, .any, .any, .any, .any, .any, .any, .any, .any, .any, .any, .any, .any, .any, .any, .any, .any, .any, .any, .any, .any, .any, .any, .any, .any, .any, .any, .any, .any, .any, .any, .any, .any, .any, .any, .any, .any, .any, .any, .any, .any, .any, .any, .any, .any, .any, .any, .any, .any, .any, .any, .any, .any, .any], [some (.row 2 [[x, .int .u8 (t : Nat)]]), none, some (.row 2 [])]⟩) ∨ (∃ pp : Nat, k = pp + 1 ∧ σ = ⟨[.any, .ref 0 0 0, .any, .any, .any, .any, .sl 2 0 (pp + 1) false, I M, I A, I N, I i, .any, .any, .any, .any, .any, .any, .any, .any, .any, .any, .any, .any, .any, .any, .any, .any, .any, .any, .any, .any, .any, .any, .any, .any, .any, .any, .any, .any, .any, .any, .any, .any, .any, .any, .any, .any, .any, .any, .any, .any, .any, .any, .any, .any, .any, .any, .any, .any, .any, .any, .any, .any, .any, .any, .any, .any, .any, .any, .any, .any, .any, .any, .any, .any, .any, .any, .any, .any, .any, .any, .any, .any, .any], [some (.row 2 [[x, .int .u8 (t : Nat)]]), none, some (.row 2 ((cs.take (pp + 1)).map rC))]⟩))) (by simp [-Zb, HH1] <;> first | exact ⟨rfl, rfl⟩ | rfl) (⟨0, 0, 0, 0, 0, rfl, rfl, Nat.zero_le _, rfl, rfl, rfl, .inl ⟨rfl, rfl⟩⟩) ?_
 rintro mm σ ⟨k, i, M, A, N, hik, rfl, hkl, hM, hA, hN, ⟨hk00, rfl⟩ | ⟨pp, hkp, rfl⟩⟩
 ·have hn10 := trueL_len k t
  by_cases h1 : i < (rs.length : Int)
  ·by_cases h8 : i < 8
   ·have hk0 : k < rs.length := by omega
    have hkc : k < cs.length := by omega
    obtain ⟨t1, rfl⟩ := XD hx (k := k) (by simpa using hk0)
    have hi0 : 0 ≤ i := by omega
    have htn : i.toNat = k := by omega
    have hwi : W .i64 (i + 1) = i + 1 := Zz (by omega)
    have hwu : W .u64 i = (k : Int) := by rw [hik]; exact W_u (by omega)
    have hwN : W .i64 (N + 1) = N + 1 := Zz (by omega)
    have g1 : (rs.map r4)[k]? = some (r4 rs[k]) := by rw [List.getElem?_map, List.getElem?_eq_getElem hk0]; rfl
    have g2 : ∀ h, (rs.map r4)[k]'h = r4 rs[k] := fun h => by simp
    have hbk := hb _ (List.getElem_mem hk0)
    have hck : cs[k] = byC rs[k] := by simp [hcs, toldC]
    have hEt : cs.take (k + 1) = cs.take k ++ [cs[k]] := List.take_succ_eq_append_getElem hkc
    have hcM : cM cs k = cs[k].1 := by simp [cM, List.getD, List.getElem?_eq_getElem hkc]
    have hcA : (cs.getD k (0, 0)).2 = cs[k].2 := by simp [List.getD, List.getElem?_eq_getElem hkc]
    have hmb := hok.2 _ (List.getElem_mem hkc)
    have hts := trueL_succ k t
    have hml := mustL_lt hok (YT k t)
    have hal := allL_lt hok (YT k t)
    have hm1 := mustL_app cs (YT k t) k
    have ha1 := allL_app cs (YT k t) k
    rw [hcM] at hm1 ha1
    rw [hcA] at ha1
    obtain ⟨y1, y2, hy1, hy2, hy3⟩ := u8_bit ht (show k < 8 by omega)
    rw [hck] at hEt hmb hm1 ha1
    generalize rs[k] = v at *
    obtain ⟨va, vb, vc, vd⟩ := v
    obtain ⟨b1, b2, b3, b4⟩ := hbk
    simp only at b1 b2 b3 b4
    have hs2l : vb <<< 8 < 65536 := by rw [Nat.shiftLeft_eq]; omega
    have hs4l : vd <<< 8 < 65536 := by rw [Nat.shiftLeft_eq]; omega
    have wa : W .i64 (va : Int) = va := W_i (by omega)
    have wb : W .i64 (vb : Int) = vb := W_i (by omega)
    have wc : W .i64 (vc : Int) = vc := W_i (by omega)
    have wd : W .i64 (vd : Int) = vd := W_i (by omega)
    have e1 : shI .shl .i64 (vb : Int) 8 = some (.int .i64 ((vb <<< 8 : Nat) : Int)) := shl_u (k := 8) (by omega) (by omega)
    have e2 : shI .shl .i64 (vd : Int) 8 = some (.int .i64 ((vd <<< 8 : Nat) : Int)) := shl_u (k := 8) (by omega) (by omega)
    have e3 := or_i (a := va) (b := vb <<< 8) (by omega) (by omega)
    have e4 := or_i (a := vc) (b := vd <<< 8) (by omega) (by omega)
    have l3 : va ||| vb <<< 8 < 65536 := Nat.or_lt_two_pow (n := 16) (by omega) (by omega)
    have l4 : vc ||| vd <<< 8 < 65536 := Nat.or_lt_two_pow (n := 16) (by omega) (by omega)
    have hy : byC (va, vb, vc, vd) = (((((va ||| vb <<< 8) &&& 585) &&& vc) <<< 1) &&& 4095, ((vc ||| vd <<< 8) &&& 3510) &&& 4095) := rfl
    generalize vb <<< 8 = s2 at *
    generalize vd <<< 8 = s4 at *
    generalize va ||| s2 = n3 at *
    generalize vc ||| s4 = n4 at *
    have e5 : arI .and .i64 (n3 : Int) 585 = some (.int .i64 ((n3 &&& 585 : Nat) : Int)) := and_i (b := 585) (by omega) (by omega)
    have e6 : arI .and .i64 (n4 : Int) 3510 = some (.int .i64 ((n4 &&& 3510 : Nat) : Int)) := and_i (b := 3510) (by omega) (by omega)
    have l5 : n3 &&& 585 < 586 := Nat.lt_of_le_of_lt Nat.and_le_right (by decide)
    have l6 : n4 &&& 3510 < 3511 := Nat.lt_of_le_of_lt Nat.and_le_right (by decide)
    generalize n3 &&& 585 = n5 at *
    generalize n4 &&& 3510 = n6 at *
    have e7 := and_i (a := n5) (b := vc) (by omega) (by omega)
    have l7 : n5 &&& vc < 586 := Nat.lt_of_le_of_lt Nat.and_le_left l5
    generalize n5 &&& vc = n7 at *
    have l8 : n7 <<< 1 < 2000 := by rw [Nat.shiftLeft_eq]; omega
    have e8 : shI .shl .i64 (n7 : Int) 1 = some (.int .i64 ((n7 <<< 1 : Nat) : Int)) := shl_u (k := 1) (by omega) (by omega)
    generalize n7 <<< 1 = n8 at *
    have e9 : arI .and .i64 (n8 : Int) 4095 = some (.int .i64 ((n8 &&& 4095 : Nat) : Int)) := and_i (b := 4095) (by omega) (by omega)
    have e10 : arI .and .i64 (n6 : Int) 4095 = some (.int .i64 ((n6 &&& 4095 : Nat) : Int)) := and_i (b := 4095) (by omega) (by omega)
    rw [hy] at hEt hmb hm1 ha1
    simp only at hmb hm1 ha1
    generalize n8 &&& 4095 = mu at *
    generalize n6 &&& 4095 = my at *
    have o1 := or_i (a := YF cs (YT k t)) (b := mu) (by omega) (by omega)
    have o2 := or_i (a := YP cs (YT k t)) (b := mu) (by omega) (by omega)
    have hl2 : YP cs (YT k t) ||| mu < 4096 := Nat.or_lt_two_pow (n := 12) hal hmb.1
    have o3 := or_i (a := YP cs (YT k t) ||| mu) (b := my) (by omega) (by omega)
    rw [← hm1] at o1
    rw [← ha1] at o3
    rw [← hM] at o1
    rw [← hA] at o2
    generalize YP cs (YT k t) ||| mu = al at *
    generalize hM2 : ((YF cs (YT k t ++ [k]) : Nat) : Int) = M2 at *
    generalize hA2 : ((YP cs (YT k t ++ [k]) : Nat) : Int) = A2 at *
    generalize hmuv : ((mu : Nat) : Int) = muv at *
    generalize hmyv : ((my : Nat) : Int) = myv at *
    generalize ((al : Nat) : Int) = alv at *
    generalize t.testBit k = tb at *
    have HH2 := zA h1 (zA h8 (zA hi0 (zA htn (zA hk0 (zA hwi (zA hwu (zA hwN (zA g1 (zA g2 (zA wa (zA wb (zA wc (zA wd hy3)))))))))))))
    have HH3 := zA e1 (zA e2 (zA e3 (zA e4 (zA e5 (zA e6 (zA e7 (zA e8 (zA e9 (zA e10 (zA o1 (zA o2 (zA o3 (zA hy1 hy2)))))))))))))
    refine zS ?_
    refine zS ?_
    refine zR (zO (by simp [-Zb, HH1, r4, -List.getElem?_map, -List.getElem_map, HH2, ↓HH3]; rfl) ?_)
    simp only [zT, zB]
    refine Zc (x := true) (by simp) ?_
    refine zK ?_
    simp only [zT, zB]
    refine zS ?_
    refine zL ?_
    refine zS ?_
    refine zR (zO (by simp [-Zb, HH1, r4, -List.getElem?_map, -List.getElem_map, HH2, ↓HH3]; rfl) ?_)
    simp only [zT, zB]
    refine zS ?_
    refine zR (zO (by simp [-Zb, HH1, r4, -List.getElem?_map, -List.getElem_map, HH2, ↓HH3]; rfl) ?_)
    simp only [zT, zB]
    refine zS ?_
    refine zR (zO (by simp [-Zb, HH1, r4, -List.getElem?_map, -List.getElem_map, HH2, ↓HH3]; rfl) ?_)
    simp only [zT, zB]
    refine zS ?_
    refine zR (zO (by simp [-Zb, HH1, r4, -List.getElem?_map, -List.getElem_map, HH2, ↓HH3]; rfl) ?_)
    simp only [zT, zB]
    cases tb
    ·rw [if_neg (by simp), List.append_nil] at hts
     refine Zc (x := false) (by simp) ?_
     refine zK ?_
     simp only [zT, zB]
     refine zR (zO (by simp [-Zb, HH1, r4, -List.getElem?_map, -List.getElem_map, HH2, ↓HH3]; rfl) ?_)
     simp only [zT, zB]
     exact ⟨8 - (k + 1), _, _, by omega, by simp [-Zb, HH1, r4, -List.getElem?_map, -List.getElem_map, HH2, ↓HH3] <;> first | rfl | exact ⟨rfl, rfl⟩, k + 1, i + 1, M, A, N, by omega, rfl, by omega, by rw [hts, hM], by rw [hts, hA], by rw [hts, hN], .inr ⟨0, by omega, by rw [show 0 + 1 = k + 1 by omega, hEt, hk00]; simp [rC, hmuv, hmyv]⟩⟩
    ·rw [if_pos rfl] at hts
     refine Zc (x := true) (by simp) ?_
     refine ZU (by simp (maxSteps := 3000000) [-Zb, HH1, r4, -List.getElem?_map, -List.getElem_map, HH2, ↓HH3]; rfl) ?_
     simp only [zT, zB]
     refine zR (zO (by simp [-Zb, HH1, r4, -List.getElem?_map, -List.getElem_map, HH2, ↓HH3]; rfl) ?_)
     simp only [zT, zB]
     exact ⟨8 - (k + 1), _, _, by omega, by simp [-Zb, HH1, r4, -List.getElem?_map, -List.getElem_map, HH2, ↓HH3] <;> first | rfl | exact ⟨rfl, rfl⟩, k + 1, i + 1, M2, A2, N + 1, by omega, rfl, by omega, by rw [hts, hM2], by rw [hts, hA2], by rw [hts, List.length_append]; simp; omega, .inr ⟨0, by omega, by rw [show 0 + 1 = k + 1 by omega, hEt, hk00]; simp [rC, hmuv, hmyv]⟩⟩
   ·have hkc : k = cs.length := by omega
    have hcsl : cs.take k = cs := by rw [hkc]; exact List.take_length
    rw [← hkc, ← hM, ← hA, ← hN]
    refine zS ?_
    refine zS ?_
    refine zR (zO (by simp [-Zb, HH1, h1, h8]; rfl) ?_)
    simp only [zT, zB]
    refine Zc (x := false) (by simp) ?_
    have hnil : cs = [] := List.length_eq_zero_iff.1 (by omega)
    rw [hnil]
    refine Zr ?_
    simp only [zT, zB, if_true, if_false, reduceIte, Nat.reduceEqDiff, Nat.succ_ne_zero, Nat.one_ne_zero, Nat.zero_ne_one]
    refine zS ?_
    refine zR (zO (by simp [-Zb, HH1, h1, h8]; rfl) ?_)
    simp only [zT, zB]
    refine Ze ?_
    simp [-Zb, HH1, h1, h8, trim]
  ·have hkc : k = cs.length := by omega
   have hcsl : cs.take k = cs := by rw [hkc]; exact List.take_length
   rw [← hkc, ← hM, ← hA, ← hN]
   refine zS ?_
   refine zS ?_
   refine zR (zO (by simp [-Zb, HH1, h1]; rfl) ?_)
   simp only [zT, zB]
   refine Zc (x := false) (by simp) ?_
   have hnil : cs = [] := List.length_eq_zero_iff.1 (by omega)
   rw [hnil]
   refine Zr ?_
   simp only [zT, zB, if_true, if_false, reduceIte, Nat.reduceEqDiff, Nat.succ_ne_zero, Nat.one_ne_zero, Nat.zero_ne_one]
   refine zS ?_
   refine zR (zO (by simp [-Zb, HH1, h1]; rfl) ?_)
   simp only [zT, zB]
   refine Ze ?_
   simp [-Zb, HH1, h1, trim]
 ·have hn10 := trueL_len k t
  have hlac : (cs.take (pp + 1)).length = pp + 1 := by rw [List.length_take]; omega
  have hacc : cs.take (pp + 1) = cs.take k := by rw [hkp]
  generalize hac : cs.take (pp + 1) = ac at *
  have tk : (ac.map rC).take (pp + 1) = ac.map rC := List.take_of_length_le (by simp [hlac])
  have hlim2 : pp + 1 + 1 ≤ 1048576 := by omega
  have hst1 : ((ac.map rC).all fun r => r.all ZD) = true := by simp [rC]
  have hr1 : ((ac.map rC).all fun r => r.length == 2) = true := by simp [rC]
  have hrj : ∀ n d, ((ac.map rC).all fun r => r.all (rb n (d + 1))) = true := by intro n d; simp [rC]
  have hself : ∀ (f : Za → Option Za), (∀ n : Int, f (I n) = some (I n)) → Zd (Zd f) (ac.map rC) = some (ac.map rC) := fun f hf => Zx _ fun r hr => Zx _ fun x hx => by
   obtain ⟨y, _, rfl⟩ := List.mem_map.1 hr
   simp only [rC, List.mem_cons, List.not_mem_nil, or_false] at hx
   rcases hx with rfl | rfl <;> exact hf _
  have hfr0 : ∀ n h, Zd (Zd (frN n h 4)) (ac.map rC) = some (ac.map rC) := fun n h => hself _ fun _ => rfl
  have hfr := fun n h r => optAll_cat (hfr0 n h) r
  have hfzz : ∀ H d, Zd (Zd (frz false H (d + 1))) (ac.map rC) = some (ac.map rC) := fun H d => hself _ fun _ => rfl
  by_cases h1 : i < (rs.length : Int)
  ·by_cases h8 : i < 8
   ·have hk0 : k < rs.length := by omega
    have hkc : k < cs.length := by omega
    obtain ⟨t1, rfl⟩ := XD hx (k := k) (by simpa using hk0)
    have hi0 : 0 ≤ i := by omega
    have htn : i.toNat = k := by omega
    have hwi : W .i64 (i + 1) = i + 1 := Zz (by omega)
    have hwu : W .u64 i = (k : Int) := by rw [hik]; exact W_u (by omega)
    have hwN : W .i64 (N + 1) = N + 1 := Zz (by omega)
    have g1 : (rs.map r4)[k]? = some (r4 rs[k]) := by rw [List.getElem?_map, List.getElem?_eq_getElem hk0]; rfl
    have g2 : ∀ h, (rs.map r4)[k]'h = r4 rs[k] := fun h => by simp
    have hbk := hb _ (List.getElem_mem hk0)
    have hck : cs[k] = byC rs[k] := by simp [hcs, toldC]
    have hEt : cs.take (k + 1) = cs.take k ++ [cs[k]] := List.take_succ_eq_append_getElem hkc
    have hcM : cM cs k = cs[k].1 := by simp [cM, List.getD, List.getElem?_eq_getElem hkc]
    have hcA : (cs.getD k (0, 0)).2 = cs[k].2 := by simp [List.getD, List.getElem?_eq_getElem hkc]
    have hmb := hok.2 _ (List.getElem_mem hkc)
    have hts := trueL_succ k t
    have hml := mustL_lt hok (YT k t)
    have hal := allL_lt hok (YT k t)
    have hm1 := mustL_app cs (YT k t) k
    have ha1 := allL_app cs (YT k t) k
    rw [hcM] at hm1 ha1
    rw [hcA] at ha1
    obtain ⟨y1, y2, hy1, hy2, hy3⟩ := u8_bit ht (show k < 8 by omega)
    rw [hck] at hEt hmb hm1 ha1
    generalize rs[k] = v at *
    obtain ⟨va, vb, vc, vd⟩ := v
    obtain ⟨b1, b2, b3, b4⟩ := hbk
    simp only at b1 b2 b3 b4
    have hs2l : vb <<< 8 < 65536 := by rw [Nat.shiftLeft_eq]; omega
    have hs4l : vd <<< 8 < 65536 := by rw [Nat.shiftLeft_eq]; omega
    have wa : W .i64 (va : Int) = va := W_i (by omega)
    have wb : W .i64 (vb : Int) = vb := W_i (by omega)
    have wc : W .i64 (vc : Int) = vc := W_i (by omega)
    have wd : W .i64 (vd : Int) = vd := W_i (by omega)
    have e1 : shI .shl .i64 (vb : Int) 8 = some (.int .i64 ((vb <<< 8 : Nat) : Int)) := shl_u (k := 8) (by omega) (by omega)
    have e2 : shI .shl .i64 (vd : Int) 8 = some (.int .i64 ((vd <<< 8 : Nat) : Int)) := shl_u (k := 8) (by omega) (by omega)
    have e3 := or_i (a := va) (b := vb <<< 8) (by omega) (by omega)
    have e4 := or_i (a := vc) (b := vd <<< 8) (by omega) (by omega)
    have l3 : va ||| vb <<< 8 < 65536 := Nat.or_lt_two_pow (n := 16) (by omega) (by omega)
    have l4 : vc ||| vd <<< 8 < 65536 := Nat.or_lt_two_pow (n := 16) (by omega) (by omega)
    have hy : byC (va, vb, vc, vd) = (((((va ||| vb <<< 8) &&& 585) &&& vc) <<< 1) &&& 4095, ((vc ||| vd <<< 8) &&& 3510) &&& 4095) := rfl
    generalize vb <<< 8 = s2 at *
    generalize vd <<< 8 = s4 at *
    generalize va ||| s2 = n3 at *
    generalize vc ||| s4 = n4 at *
    have e5 : arI .and .i64 (n3 : Int) 585 = some (.int .i64 ((n3 &&& 585 : Nat) : Int)) := and_i (b := 585) (by omega) (by omega)
    have e6 : arI .and .i64 (n4 : Int) 3510 = some (.int .i64 ((n4 &&& 3510 : Nat) : Int)) := and_i (b := 3510) (by omega) (by omega)
    have l5 : n3 &&& 585 < 586 := Nat.lt_of_le_of_lt Nat.and_le_right (by decide)
    have l6 : n4 &&& 3510 < 3511 := Nat.lt_of_le_of_lt Nat.and_le_right (by decide)
    generalize n3 &&& 585 = n5 at *
    generalize n4 &&& 3510 = n6 at *
    have e7 := and_i (a := n5) (b := vc) (by omega) (by omega)
    have l7 : n5 &&& vc < 586 := Nat.lt_of_le_of_lt Nat.and_le_left l5
    generalize n5 &&& vc = n7 at *
    have l8 : n7 <<< 1 < 2000 := by rw [Nat.shiftLeft_eq]; omega
    have e8 : shI .shl .i64 (n7 : Int) 1 = some (.int .i64 ((n7 <<< 1 : Nat) : Int)) := shl_u (k := 1) (by omega) (by omega)
    generalize n7 <<< 1 = n8 at *
    have e9 : arI .and .i64 (n8 : Int) 4095 = some (.int .i64 ((n8 &&& 4095 : Nat) : Int)) := and_i (b := 4095) (by omega) (by omega)
    have e10 : arI .and .i64 (n6 : Int) 4095 = some (.int .i64 ((n6 &&& 4095 : Nat) : Int)) := and_i (b := 4095) (by omega) (by omega)
    rw [hy] at hEt hmb hm1 ha1
    simp only at hmb hm1 ha1
    generalize n8 &&& 4095 = mu at *
    generalize n6 &&& 4095 = my at *
    have o1 := or_i (a := YF cs (YT k t)) (b := mu) (by omega) (by omega)
    have o2 := or_i (a := YP cs (YT k t)) (b := mu) (by omega) (by omega)
    have hl2 : YP cs (YT k t) ||| mu < 4096 := Nat.or_lt_two_pow (n := 12) hal hmb.1
    have o3 := or_i (a := YP cs (YT k t) ||| mu) (b := my) (by omega) (by omega)
    rw [← hm1] at o1
    rw [← ha1] at o3
    rw [← hM] at o1
    rw [← hA] at o2
    generalize YP cs (YT k t) ||| mu = al at *
    generalize hM2 : ((YF cs (YT k t ++ [k]) : Nat) : Int) = M2 at *
    generalize hA2 : ((YP cs (YT k t ++ [k]) : Nat) : Int) = A2 at *
    generalize hmuv : ((mu : Nat) : Int) = muv at *
    generalize hmyv : ((my : Nat) : Int) = myv at *
    generalize ((al : Nat) : Int) = alv at *
    generalize t.testBit k = tb at *
    have HH4 := zA tk (zA hlac (zA hlim2 (zA hfr0 (zA h1 (zA h8 (zA hi0 (zA htn (zA hk0 (zA hwi (zA hwu (zA hwN (zA g1 (zA g2 (zA wa (zA wb (zA wc (zA wd hy3)))))))))))))))))
    have HH5 := zA hst1 (zA hr1 (zA hfr (zA hrj (zA hfzz (zA e1 (zA e2 (zA e3 (zA e4 (zA e5 (zA e6 (zA e7 (zA e8 (zA e9 (zA e10 (zA o1 (zA o2 (zA o3 (zA hy1 hy2))))))))))))))))))
    refine zS ?_
    refine zS ?_
    refine zR (zO (by simp [-Zb, HH1, -List.all_map, r4, -List.getElem?_map, -List.getElem_map, HH4, ↓HH5]; rfl) ?_)
    simp only [zT, zB]
    refine Zc (x := true) (by simp) ?_
    refine zK ?_
    simp only [zT, zB]
    refine zS ?_
    refine zL ?_
    refine zS ?_
    refine zR (zO (by simp [-Zb, HH1, -List.all_map, r4, -List.getElem?_map, -List.getElem_map, HH4, ↓HH5]; rfl) ?_)
    simp only [zT, zB]
    refine zS ?_
    refine zR (zO (by simp [-Zb, HH1, -List.all_map, r4, -List.getElem?_map, -List.getElem_map, HH4, ↓HH5]; rfl) ?_)
    simp only [zT, zB]
    refine zS ?_
    refine zR (zO (by simp [-Zb, HH1, -List.all_map, r4, -List.getElem?_map, -List.getElem_map, HH4, ↓HH5]; rfl) ?_)
    simp only [zT, zB]
    refine zS ?_
    refine zR (zO (by simp [-Zb, HH1, -List.all_map, r4, -List.getElem?_map, -List.getElem_map, HH4, ↓HH5]; rfl) ?_)
    simp only [zT, zB]
    cases tb
    ·rw [if_neg (by simp), List.append_nil] at hts
     refine Zc (x := false) (by simp) ?_
     refine zK ?_
     simp only [zT, zB]
     refine zR (zO (by simp [-Zb, HH1, -List.all_map, r4, -List.getElem?_map, -List.getElem_map, HH4, ↓HH5]; rfl) ?_)
     simp only [zT, zB]
     exact ⟨8 - (k + 1), _, _, by omega, by simp [-Zb, HH1, -List.all_map, r4, -List.getElem?_map, -List.getElem_map, HH4, ↓HH5] <;> first | rfl | exact ⟨rfl, rfl⟩, k + 1, i + 1, M, A, N, by omega, rfl, by omega, by rw [hts, hM], by rw [hts, hA], by rw [hts, hN], .inr ⟨pp + 1, by omega, by rw [show pp + 1 + 1 = k + 1 by omega, hEt, List.map_append, ← hacc]; simp [rC, hmuv, hmyv]⟩⟩
    ·rw [if_pos rfl] at hts
     refine Zc (x := true) (by simp) ?_
     refine ZU (by simp (maxSteps := 3000000) [-Zb, HH1, -List.all_map, r4, -List.getElem?_map, -List.getElem_map, HH4, ↓HH5]; rfl) ?_
     simp only [zT, zB]
     refine zR (zO (by simp [-Zb, HH1, -List.all_map, r4, -List.getElem?_map, -List.getElem_map, HH4, ↓HH5]; rfl) ?_)
     simp only [zT, zB]
     exact ⟨8 - (k + 1), _, _, by omega, by simp [-Zb, HH1, -List.all_map, r4, -List.getElem?_map, -List.getElem_map, HH4, ↓HH5] <;> first | rfl | exact ⟨rfl, rfl⟩, k + 1, i + 1, M2, A2, N + 1, by omega, rfl, by omega, by rw [hts, hM2], by rw [hts, hA2], by rw [hts, List.length_append]; simp; omega, .inr ⟨pp + 1, by omega, by rw [show pp + 1 + 1 = k + 1 by omega, hEt, List.map_append, ← hacc]; simp [rC, hmuv, hmyv]⟩⟩
   ·have hkc : k = cs.length := by omega
    have hcsl : cs.take k = cs := by rw [hkc]; exact List.take_length
    rw [← hkc, ← hM, ← hA, ← hN]
    have HH6 := zA tk (zA hlac (zA hlim2 (zA hfr0 (zA h1 h8))))
    have HH7 := zA hst1 (zA hr1 (zA hfr (zA hrj hfzz)))
    refine zS ?_
    refine zS ?_
    refine zR (zO (by simp [-Zb, HH1, -List.all_map, HH6, ↓HH7]; rfl) ?_)
    simp only [zT, zB]
    refine Zc (x := false) (by simp) ?_
    have hie : cs.isEmpty = false := by cases cs with
    | nil => simp at hkc; omega
    | cons y l => rfl
    rw [hie, show cs = ac by rw [hacc, hcsl]]
    refine Zr ?_
    simp only [zT, zB, if_true, if_false, reduceIte, Nat.reduceEqDiff, Nat.succ_ne_zero, Nat.one_ne_zero, Nat.zero_ne_one]
    refine zS ?_
    refine zR (zO (by simp [-Zb, HH1, -List.all_map, HH6, ↓HH7]; rfl) ?_)
    simp only [zT, zB]
    refine Ze ?_
    simp [-Zb, HH1, -List.all_map, HH6, ↓HH7, trim]
  ·have hkc : k = cs.length := by omega
   have hcsl : cs.take k = cs := by rw [hkc]; exact List.take_length
   rw [← hkc, ← hM, ← hA, ← hN]
   have HH8 := zA tk (zA hlac (zA hlim2 (zA hfr0 h1)))
   have HH9 := zA hst1 (zA hr1 (zA hfr (zA hrj hfzz)))
   refine zS ?_
   refine zS ?_
   refine zR (zO (by simp [-Zb, HH1, -List.all_map, HH8, ↓HH9]; rfl) ?_)
   simp only [zT, zB]
   refine Zc (x := false) (by simp) ?_
   have hie : cs.isEmpty = false := by cases cs with
   | nil => simp at hkc; omega
   | cons y l => rfl
   rw [hie, show cs = ac by rw [hacc, hcsl]]
   refine Zr ?_
   simp only [zT, zB, if_true, if_false, reduceIte, Nat.reduceEqDiff, Nat.succ_ne_zero, Nat.one_ne_zero, Nat.zero_ne_one]
   refine zS ?_
   refine zR (zO (by simp [-Zb, HH1, -List.all_map, HH8, ↓HH9]; rfl) ?_)
   simp only [zT, zB]
   refine Ze ?_
   simp [-Zb, HH1, -List.all_map, HH8, ↓HH9, trim]
def DR0 : Nat → Option CFn := updG DQ3 50 [(1986, [.slot 6])] []
theorem DR0_ok : Zp Tryd.prog GG DR0 := tab_updG DQ3_ok
def DR1 : Nat → Option CFn := upd DR0 50 false (o50)
theorem DR1_ok : Zp Tryd.prog GG DR1 := ZJ mixed DR0_ok fun args v ho => by
  unfold o50 at ho; split at ho <;> (try simp only [reduceCtorEq] at ho)
  rename_i x t
  split at ho <;> (try simp only [reduceCtorEq] at ho)
  rename_i rs hx
  split at ho <;> (try simp only [reduceCtorEq] at ho)
  rename_i l hl
  split at ho <;> (try simp only [reduceCtorEq] at ho)
  rename_i hg
  simp only [Option.some.injEq] at ho
  subst ho
  obtain ⟨tn, rfl⟩ : ∃ s : Nat, t = s := ⟨t.toNat, by omega⟩
  rw [Int.toNat_natCast]
  exact a50 Tryd.prog DR0 rfl x l (by rw [hx, Xl (enc := r4) dB4_eq hl]) (dB4_bd hl) tn (by omega) _ rfl
def o51 : List Za → Option Za
  | [c, v] => match Xx c, dNs v with
    | some cs, some l => if l.length ≤ 10 ∧ (∀ x ∈ l, x < cs.length) ∧ cs.length ≤ 10 ∧ l.Pairwise (· < ·) then some (.tup [I (YF cs l : Nat), I (YP cs l : Nat), .bool true]) else none
    | _, _ => none
  | _ => none
theorem o51_eq {c v : Za} {cs : Cs} {l : List Nat} (hc : Xx c = some cs) (hv : dNs v = some l) (hl : l.length ≤ 10) (hlc : ∀ x ∈ l, x < cs.length) (hn : cs.length ≤ 10) (ha : l.Pairwise (· < ·)) : o51 [c, v] = some (.tup [I (YF cs l : Nat), I (YP cs l : Nat), .bool true]) := by
  simp only [o51, hc, hv]; rw [if_pos ⟨hl, hlc, hn, ha⟩]
theorem a51 (P : Program) (T : Nat → Option CFn) (hT : T 51 = some c51) (cs : Cs) (c v : Za) (l : List Nat) (hc : Xx c = some cs) (hv : dNs v = some l) (hl : l.length ≤ 10) (hlc : ∀ x ∈ l, x < cs.length) (hk : CsOk cs) (hasc : l.Pairwise (· < ·)) : Zo P T 51 [c, v] [] fun v h => frz true h 5 v = some (.tup [I (YF cs l : Nat), I (YP cs l : Nat), .bool true]) := by
 have lv := dNs_len hv
 have hcr := (dCauses_ok hc).1
 have lc := ZV hcr
 rw [List.length_map] at lc
 refine Zi hT (Zk rfl) ?_
 simp only [oo, om, op, og, ci, cl, c51]
 refine zS ?_
 refine zR (zO (by simp [lv, lc, -Zb]; rfl) ?_)
 simp only [zT, zB]
 refine zS ?_
 refine zR (zO (by simp [lv, lc, -Zb]; rfl) ?_)
 simp only [zT, zB]
 refine zS ?_
 refine zS ?_
 refine zR (zO (by simp [lv, lc, -Zb]; rfl) ?_)
 simp only [zT, zB]
 refine zL ?_
 refine Zs (fun m σ => ∃ (k : Nat) (i M A : Int), i = k ∧ l.length - k = m ∧ k ≤ l.length ∧ M = (YF cs (l.take k) : Nat) ∧ A = (YP cs (l.take k) : Nat) ∧ σ = ⟨[c, v, .any, .any, .any, .any, .any, I M, I A, I i, .any, .any, .any, .any, .any, .any, .any, .any, .any, .any, .any, .any, .any, .any, .any, .any, .any, .any, .any, .any, .any, .any, .any, .any, .any, .any, .any, .any, .any, .any, .any, .any, .any, .any, .any, .any, .any, .any, .any, .any, .any, .any, .any, .any, .any, .any, .any, .any, .any, .any, .any, .any, .any, .any, .any, .any, .any, .any, .any, .any, .any, .any, .any, .any, .any, .any, .any], []⟩) ?_ (l.length - 0) _ ⟨0, 0, 0, 0, rfl, rfl, Nat.zero_le _, rfl, rfl, by simp⟩
 rintro m σ ⟨k, i, M, A, hik, rfl, hkl, hM, hA, rfl⟩
 refine zS ?_
 refine zS ?_
 refine zR (zO (by simp [lv, lc, -Zb]; rfl) ?_)
 simp only [zT, zB]
 refine Zf (x := decide (i < (l.length : Int))) (by simp) (fun hlt => ?_) (fun hlt => ?_)
 ·have hlt := of_decide_eq_true hlt
  have hk0 : k < l.length := by omega
  obtain ⟨t1, rfl⟩ := dNs_get hv hk0
  have hxl : l[k] < cs.length := hlc _ (List.getElem_mem hk0)
  obtain ⟨t2, rfl⟩ := XD hcr (k := l[k]) (by simpa using hxl)
  have hi0 : 0 ≤ i := by omega
  have htn : i.toNat = k := by omega
  have hwi : W .i64 (i + 1) = i + 1 := Zz (by omega)
  have g1 : (l.map rN)[k]? = some (rN l[k]) := by rw [List.getElem?_map, List.getElem?_eq_getElem hk0]; rfl
  have g2 : ∀ h, (l.map rN)[k]'h = rN l[k] := fun h => by simp
  have g3 : (cs.map rC)[l[k]]? = some (rC cs[l[k]]) := by rw [List.getElem?_map, List.getElem?_eq_getElem hxl]; rfl
  have g4 : ∀ (h : l[k] < (cs.map rC).length), (cs.map rC)[l[k]]'h = rC cs[l[k]] := fun h => by simp
  have hmb := hk.2 _ (List.getElem_mem hxl)
  have hcM : cM cs l[k] = cs[l[k]].1 := by simp [cM, List.getD, List.getElem?_eq_getElem hxl]
  have hcA : (cs.getD l[k] (0, 0)).2 = cs[l[k]].2 := by simp [List.getD, List.getElem?_eq_getElem hxl]
  have hm1 := mustL_app cs (l.take k) l[k]
  have ha1 := allL_app cs (l.take k) l[k]
  rw [hcM] at hm1 ha1
  rw [hcA] at ha1
  rw [← List.take_succ_eq_append_getElem hk0] at hm1 ha1
  have hml := mustL_lt hk (l.take k)
  have hal := allL_lt hk (l.take k)
  have hmi := hm1
  have o1 := or_i (a := YF cs (l.take k)) (b := cs[l[k]].1) (by omega) (by omega)
  have o2 := or_i (a := YP cs (l.take k)) (b := cs[l[k]].1) (by omega) (by omega)
  have hl2 : YP cs (l.take k) ||| cs[l[k]].1 < 4096 := Nat.or_lt_two_pow (n := 12) hal hmb.1
  have o3 := or_i (a := YP cs (l.take k) ||| cs[l[k]].1) (b := cs[l[k]].2) (by omega) (by omega)
  rw [← hm1] at o1
  rw [← ha1] at o3
  rw [← hM] at o1
  rw [← hA] at o2
  have hprev : ∀ j, k = j + 1 → ∃ y, (l.map rN)[j]? = some (rN y) ∧ (∀ h, (l.map rN)[j]'h = rN y) ∧ y < l[k] ∧ j < l.length := by
   rintro j rfl
   have hj : j < l.length := by omega
   exact ⟨l[j], by rw [List.getElem?_map, List.getElem?_eq_getElem hj]; rfl, fun h => by simp, List.pairwise_iff_getElem.1 hasc j (j + 1) hj hk0 (by omega), hj⟩
  generalize cs[l[k]] = c at *
  generalize l[k] = e at *
  obtain ⟨mu, my⟩ := c
  simp only at *
  generalize YP cs (l.take k) ||| mu = al at *
  generalize hM2 : ((YF cs (l.take (k + 1)) : Nat) : Int) = M2 at *
  generalize hA2 : ((YP cs (l.take (k + 1)) : Nat) : Int) = A2 at *
  generalize ((al : Nat) : Int) = alv at *
  by_cases hk00 : k = 0
  ·have hnp : ¬ 0 < i := by omega
   have hle : ¬ (cs.length : Int) ≤ (e : Int) := by omega
   have hn0 : ¬ (e : Int) < 0 := by omega
   have HH1 := zA lv (zA lc (zA hi0 (zA htn (zA hk0 (zA hxl (zA hwi (zA g1 (zA g2 (zA g3 (zA g4 (zA hle (zA hn0 hnp))))))))))))
   refine zK ?_
   simp only [zT, zB]
   refine zS ?_
   refine zL ?_
   refine zS ?_
   refine zS ?_
   refine ZU (by simp (maxSteps := 3000000) [-Zb, rN, rC, ↓o1, ↓o2, ↓o3, -List.getElem?_map, -List.getElem_map, HH1]; rfl) ?_
   simp only [zT, zB]
   refine Zc (x := false) (by simp) ?_
   refine zK ?_
   simp only [zT, zB]
   refine ZU (by simp (maxSteps := 3000000) [-Zb, rN, rC, ↓o1, ↓o2, ↓o3, -List.getElem?_map, -List.getElem_map, HH1]; rfl) ?_
   simp only [zT, zB]
   refine zR (zO (by simp [-Zb, rN, rC, ↓o1, ↓o2, ↓o3, -List.getElem?_map, -List.getElem_map, HH1]; rfl) ?_)
   simp only [zT, zB]
   exact ⟨l.length - (k + 1), by omega, k + 1, i + 1, M2, A2, by omega, rfl, by omega, hM2.symm, hA2.symm, by simp [-Zb, rN, rC, ↓o1, ↓o2, ↓o3, -List.getElem?_map, -List.getElem_map, HH1]⟩
  ·obtain ⟨j, hjk⟩ : ∃ j, k = j + 1 := ⟨k - 1, by omega⟩
   obtain ⟨y, p1, p2, p3, p4⟩ := hprev j hjk
   have hn0 : ¬ (e : Int) < 0 := by omega
   have hip : 0 < i := by omega
   have hi1 : 1 ≤ i := by omega
   have hle : ¬ (cs.length : Int) ≤ (e : Int) := by omega
   have hw1 : W .i64 (i - 1) = i - 1 := Zz (by omega)
   have h10 : 0 ≤ i - 1 := by omega
   have h1n : (i - 1).toNat = j := by omega
   have hley : ¬ (e : Int) ≤ (y : Int) := by omega
   have HH2 := zA lv (zA lc (zA hi0 (zA htn (zA hk0 (zA hxl (zA hwi (zA g1 (zA g2 (zA g3 (zA g4 (zA p1 (zA p2 (zA p4 (zA hip (zA hi1 (zA hw1 (zA h10 (zA h1n (zA hley (zA hle hn0))))))))))))))))))))
   refine zK ?_
   simp only [zT, zB]
   refine zS ?_
   refine zL ?_
   refine zS ?_
   refine zS ?_
   refine ZU (by simp (maxSteps := 3000000) [-Zb, rN, rC, ↓o1, ↓o2, ↓o3, -List.getElem?_map, -List.getElem_map, HH2]; rfl) ?_
   simp only [zT, zB]
   refine Zc (x := false) (by simp) ?_
   refine zK ?_
   simp only [zT, zB]
   refine ZU (by simp (maxSteps := 3000000) [-Zb, rN, rC, ↓o1, ↓o2, ↓o3, -List.getElem?_map, -List.getElem_map, HH2]; rfl) ?_
   simp only [zT, zB]
   refine zR (zO (by simp [-Zb, rN, rC, ↓o1, ↓o2, ↓o3, -List.getElem?_map, -List.getElem_map, HH2]; rfl) ?_)
   simp only [zT, zB]
   exact ⟨l.length - (k + 1), by omega, k + 1, i + 1, M2, A2, by omega, rfl, by omega, hM2.symm, hA2.symm, by simp [-Zb, rN, rC, ↓o1, ↓o2, ↓o3, -List.getElem?_map, -List.getElem_map, HH2]⟩
 ·have hlt := of_decide_eq_false hlt
  obtain rfl : k = l.length := by omega
  rw [List.take_length] at hM hA
  rw [← hM, ← hA]
  refine Zr ?_
  simp only [zT, zB, if_true, if_false, reduceIte, Nat.reduceEqDiff, Nat.succ_ne_zero, Nat.one_ne_zero, Nat.zero_ne_one]
  refine zS ?_
  refine zR (zO (by simp [lv, lc, -Zb]; rfl) ?_)
  simp only [zT, zB]
  refine Ze ?_
  simp [lv, lc, -Zb]
def DR2 : Nat → Option CFn := upd DR1 51 true (o51)
theorem DR2_ok : Zp Tryd.prog GG DR2 := ZJ mixed DR1_ok fun args v ho => by
  unfold o51 at ho; split at ho <;> (try simp only [reduceCtorEq] at ho)
  rename_i c v
  split at ho <;> (try simp only [reduceCtorEq] at ho)
  rename_i cs l hc hv
  split at ho <;> (try simp only [reduceCtorEq] at ho)
  rename_i hg
  simp only [Option.some.injEq] at ho
  subst ho
  exact a51 Tryd.prog DR1 rfl cs c v l hc hv hg.1 hg.2.1 ⟨hg.2.2.1, (dCauses_ok hc).2⟩ hg.2.2.2
def o49 : List Za → Option Za
  | [x, y] => match dNs x, dNs y with
    | some a, some b => if a.length ≤ 1000 ∧ a.length = b.length then some (.bool (decide (lexC a b < 0))) else none
    | _, _ => none
  | _ => none
theorem o49_eq {x y : Za} {a b : List Nat} (hx : dNs x = some a) (hy : dNs y = some b) (ha : a.length ≤ 1000) (hL : a.length = b.length) : o49 [x, y] = some (.bool (decide (lexC a b < 0))) := by
  simp only [o49, hx, hy]; rw [if_pos ⟨ha, hL⟩]
theorem a49 (P : Program) (T : Nat → Option CFn) (hT : T 49 = some c49) (x y : Za) (a b : List Nat) (hx : dNs x = some a) (hy : dNs y = some b) (ha : a.length ≤ 1000) (hL : a.length = b.length) : Zo P T 49 [x, y] [] fun v h => frz true h 5 v = some (.bool (decide (lexC a b < 0))) := by
 have lx := dNs_len hx
 have ly := dNs_len hy
 refine Zi hT (Zk rfl) ?_
 simp only [oo, om, op, og, ci, cl, c49]
 refine zS ?_
 refine zR (zO (by simp [lx, ly, -Zb]; rfl) ?_)
 simp only [zT, zB]
 refine zS ?_
 refine zS ?_
 refine zR (zO (by simp [lx, ly, -Zb]; rfl) ?_)
 simp only [zT, zB]
 refine zL ?_
 refine Zs (fun m σ => ∃ (k : Nat) (i : Int), i = k ∧ a.length - k = m ∧ k ≤ a.length ∧ lexC (a.drop k) (b.drop k) = lexC a b ∧ σ = ⟨[x, y, .any, .any, .any, I i, .any, .any, .any, .any, .any, .any, .any, .any, .any, .any, .any, .any, .any, .any, .any, .any, .any, .any, .any, .any, .any, .any, .any, .any, .any, .any, .any, .any, .any, .any], []⟩) ?_ (a.length - 0) _ ⟨0, 0, rfl, rfl, Nat.zero_le _, rfl, by simp⟩
 rintro m σ ⟨k, i, hik, rfl, hkl, hR, rfl⟩
 by_cases hlt : i < (a.length : Int)
 ·have hk0 : k < a.length := by omega
  have hkb : k < b.length := by omega
  obtain ⟨t1, rfl⟩ := dNs_get hx hk0
  obtain ⟨t2, rfl⟩ := dNs_get hy hkb
  have hi0 : 0 ≤ i := by omega
  have htn : i.toNat = k := by omega
  have hwi : W .i64 (i + 1) = i + 1 := Zz (by omega)
  have g1 : (a.map rN)[k]? = some (rN a[k]) := by rw [List.getElem?_map, List.getElem?_eq_getElem hk0]; rfl
  have g2 : ∀ h, (a.map rN)[k]'h = rN a[k] := fun h => by simp
  have g3 : (b.map rN)[k]? = some (rN b[k]) := by rw [List.getElem?_map, List.getElem?_eq_getElem hkb]; rfl
  have g4 : ∀ h, (b.map rN)[k]'h = rN b[k] := fun h => by simp
  rw [lexC_drop hk0 hkb] at hR
  generalize a[k] = u at *
  generalize b[k] = v at *
  have hib : i < (b.length : Int) := by omega
  have hia : i < (a.length : Int) := by omega
  have HH1 := zA lx (zA ly (zA hi0 (zA htn (zA hk0 (zA hkb (zA hwi (zA g1 (zA g2 (zA g3 (zA g4 (zA hib hia)))))))))))
  refine zS ?_
  refine zS ?_
  refine zR (zO (by simp [-Zb, rN, -List.getElem?_map, -List.getElem_map, HH1]; rfl) ?_)
  simp only [zT, zB]
  refine Zc (x := true) (by simp) ?_
  refine zK ?_
  simp only [zT, zB]
  refine zS ?_
  refine zL ?_
  refine zS ?_
  refine ZU (by simp (maxSteps := 3000000) [-Zb, rN, -List.getElem?_map, -List.getElem_map, HH1]; rfl) ?_
  simp only [zT, zB]
  by_cases hE : u = v
  ·subst hE
   rw [if_neg (by omega), if_neg (by omega)] at hR
   refine Zc (x := false) (by simp) ?_
   refine zK ?_
   simp only [zT, zB]
   refine zR (zO (by simp [-Zb, rN, -List.getElem?_map, -List.getElem_map, HH1]; rfl) ?_)
   simp only [zT, zB]
   exact ⟨a.length - (k + 1), by omega, k + 1, i + 1, by omega, rfl, by omega, hR, by simp [-Zb, rN, -List.getElem?_map, -List.getElem_map, HH1]⟩
  ·have hd : decide (lexC a b < 0) = decide ((u : Int) < (v : Int)) := by
    rw [← hR]
    by_cases h : u < v
    ·rw [if_pos h]; simp; omega
    ·rw [if_neg h, if_pos (by omega)]; simp; omega
   rw [hd]
   refine Zc (x := true) (by simp [hE] <;> omega) ?_
   refine zS ?_
   refine ZU (by simp (maxSteps := 3000000) [-Zb, rN, -List.getElem?_map, -List.getElem_map, HH1]; rfl) ?_
   simp only [zT, zB]
   refine Ze ?_
   simp [-Zb, rN, -List.getElem?_map, -List.getElem_map, HH1]
 ·obtain rfl : k = a.length := by omega
  rw [List.drop_length, hL, List.drop_length] at hR
  rw [← hR]
  have hia : ¬ i < (a.length : Int) := by omega
  refine zS ?_
  refine zS ?_
  refine zR (zO (by simp [lx, ly, -Zb, hia]; rfl) ?_)
  simp only [zT, zB]
  refine Zc (x := false) (by simp) ?_
  refine Zr ?_
  simp only [zT, zB, if_true, if_false, reduceIte, Nat.reduceEqDiff, Nat.succ_ne_zero, Nat.one_ne_zero, Nat.zero_ne_one]
  refine zS ?_
  refine zR (zO (by simp [lx, ly, -Zb, hia]; rfl) ?_)
  simp only [zT, zB]
  refine Ze ?_
  simp [lx, ly, -Zb, hia, lexC]
def DR3 : Nat → Option CFn := upd DR2 49 true (o49)
theorem DR3_ok : Zp Tryd.prog GG DR3 := ZJ mixed DR2_ok fun args v ho => by
  unfold o49 at ho; split at ho <;> (try simp only [reduceCtorEq] at ho)
  rename_i x y
  split at ho <;> (try simp only [reduceCtorEq] at ho)
  rename_i a b hx hy
  split at ho <;> (try simp only [reduceCtorEq] at ho)
  rename_i hg
  simp only [Option.some.injEq] at ho
  subst ho
  exact a49 Tryd.prog DR2 rfl x y a b hx hy hg.1 hg.2
end
section
attribute [local simp] ZO ZB YH Yw XI YY disj YJ XO YK ZI YM news eqB YW eqA Yx YS YQ ofCs stA Yh ZC Yl dI1 dI2 dI3 dI5 elt
attribute [local simp] st_any XZ st_agg st_tup Xw st_int Xt st_ref st_pv Xs st_sl st_vl Xu st_mp st_fn Xv XY co_any co_und co_agg co_tup XC co_int Xz co_ref co_pv Xy co_sl co_vl XA co_mp co_fn XB co_yld
attribute [local simp] List.all_append Ym Zj frzG gather getR lim lop Yo lowA lowR okG putG putR rbB_none rbB_row resG rowAt takeG
theorem o29_self {c : Za} {l : List (Int × Int)} (hc : Zt c = some (l.map rQ)) (hl : l.length ≤ 1000) (hne : c = .vl (l.map rQ) l.isEmpty) : o29 [c] = some c := by rw [o29_eq hc hl, hne]
def hasB (l : List Nat) (u : Nat) : Bool := l.contains u
@[local simp] theorem hasB_nil (u : Nat) : hasB [] u = false := rfl
theorem has_app {a b : List Nat} {x u : Nat} (h : a = b ++ [x]) : hasB a u = (hasB b u || (x == u)) := by
  unfold hasB
  rw [h, Bool.eq_iff_iff]
  simp only [List.contains_iff_mem, List.mem_append, List.mem_singleton, Bool.or_eq_true, beq_iff_eq]
  exact ⟨fun h => h.imp id Eq.symm, fun h => h.imp id Eq.symm⟩
theorem lexC_true {a b : List Nat} (h : a < b) : decide (lexC a b < 0) = true := decide_eq_true ((lexC_lt a b).2 h)
theorem sure_has {n : Nat} {S : List (List Nat)} {i : Nat} (h : i ∈ sureR n S) {s : List Nat} (hs : s ∈ S) : s.contains i = true := by
  unfold sureR at h
  rw [List.mem_filter] at h
  have := h.2
  unfold inAll at this
  exact List.all_eq_true.1 this s hs
def DT0 : Nat → Option CFn := updG DR3 10 [(100692100, [.slot 25])] []
theorem DT0_ok : Zp Tryd.prog GG DT0 := tab_updG DR3_ok
theorem a10 (P : Program) (T : Nat → Option CFn) (hT : T 10 = some { c10 with body := annK [(100692100, [.slot 25])] [] c10.body }) (h12 : T 12 = some { c12 with frsh := true, orc := o12 }) (h29 : T 29 = some { c29 with frsh := false, orc := o29 }) (h30 : T 30 = some { c30 with body := annK [(58720320, [.slot 6])] [] c30.body, frsh := false, orc := o30 }) (h31 : T 31 = some { c31 with frsh := false, orc := o31 }) (h49 : T 49 = some { c49 with frsh := true, orc := o49 }) (h50 : T 50 = some { c50 with body := annK [(1986, [.slot 6])] [] c50.body, frsh := false, orc := o50 }) (h51 : T 51 = some { c51 with frsh := true, orc := o51 }) (xc : Za) (rs : List R4) (hx : Zt xc = some (rs.map r4)) (hb : ∀ v ∈ rs, R4Ok v) (t l0 l1 so : Nat) (ht : t < 256) (hl0 : l0 < 65536) (hl1 : l1 < 65536) (hso : so < 256) : Zo P T 10 [.agg [xc, .int .u8 (t : Nat)], .agg [.int .u16 (l0 : Nat), .int .u16 (l1 : Nat)], .int .u8 (so : Nat)] [] fun v h => v = .bool true := by
 have hbx := ZY hx
 have hcsk := toldC_ok rs
 have hcsl := toldC_len rs
 have e50 := o50_eq hx hb ht
 generalize toldC rs = cs at *
 unfold toldV at e50
 have hT1 := trueL_asc cs.length t
 have hT2 : ∀ i ∈ YT cs.length t, i < cs.length := fun i h => trueL_mem h
 have hTl := trueL_len cs.length t
 generalize YT cs.length t = T0 at *
 have hml := mustL_lt hcsk T0
 have hal := allL_lt hcsk T0
 have hfl := foundB_lt hcsk T0 l1
 have hsl := seenB_lt hcsk T0 l0 l1
 have hmil := missB_lt (cs := cs) T0 l0 l1
 have hsm := seen_miss hcsk T0 l0 l1
 have htx := true_expl hcsk T0 l0 l1
 have w1 : W .i64 (l1 : Int) = l1 := W_i (by omega)
 have w0 : W .i64 (l0 : Int) = l0 := W_i (by omega)
 have o1 := and_i (a := YP cs T0) (b := l1) (by omega) (by omega)
 have hal2 : YP cs T0 &&& l1 < 4096 := Nat.lt_of_le_of_lt Nat.and_le_left hal
 have o2 := or_i (a := YF cs T0) (b := YP cs T0 &&& l1) (by omega) (by omega)
 have o3 := and_i (a := foundB cs T0 l1) (b := l0) (by omega) (by omega)
 have o4 : arI .and .i64 (l0 : Int) 4095 = some (.int .i64 ((l0 &&& 4095 : Nat) : Int)) := and_i (b := 4095) (by omega) (by omega)
 have o5 := not_i (a := l0 &&& 4095) (b := foundB cs T0 l1) (by have := miss_small l0; omega)
 rw [show YF cs T0 ||| (YP cs T0 &&& l1) = foundB cs T0 l1 from rfl] at o2
 rw [show foundB cs T0 l1 &&& l0 = seenB cs T0 l0 l1 from rfl] at o3
 rw [show ldN (l0 &&& 4095) (foundB cs T0 l1) = missB cs T0 l0 l1 from rfl] at o5
 generalize seenB cs T0 l0 l1 = se at *
 generalize missB cs T0 l0 l1 = mi at *
 generalize foundB cs T0 l1 = fo at *
 generalize YP cs T0 &&& l1 = al1 at *
 generalize l0 &&& 4095 = l0m at *
 have hlaw := law_least hcsk hsl hmil hsm hT1 hT2 htx
 have hTi := toI_len cs
 have hc : Zt (.vl (cs.map rC) cs.isEmpty) = some ((toI cs).map rQ) := by rw [toI_rq]; rfl
 have hc2 : Zt (.vl (cs.map rC) cs.isEmpty) = some (cs.map rC) := rfl
 have hcc : Xx (.vl (cs.map rC) cs.isEmpty) = some cs := dCauses_of hc2 hcsk.2
 have hcself : Za.vl (cs.map rC) cs.isEmpty = .vl ((toI cs).map rQ) (toI cs).isEmpty := by rw [toI_rq]; congr 1; cases cs <;> rfl
 have e29 := o29_self hc (by have := hcsk.1; omega) hcself
 have e30 := o30_eq hc (by have := hcsk.1; omega) (se : Int) (mi : Int)
 have hn10 := hcsk.1
 have lc := ZV hc2
 rw [List.length_map] at lc
 have rc := fun n d => ZY hc2 n d
 have fc := fun H d => ZG hc2 H d
 obtain ⟨cc1, cc2⟩ := ZH hc2
 generalize Za.vl (cs.map rC) cs.isEmpty = c at *
 generalize hmuv : ((YF cs T0 : Nat) : Int) = muv at *
 generalize halv : ((YP cs T0 : Nat) : Int) = alv at *
 generalize ((al1 : Nat) : Int) = al1v at *
 generalize ((fo : Nat) : Int) = fov at *
 generalize ((l0m : Nat) : Int) = l0v at *
 refine Zi hT (Zk rfl) ?_
 simp only [oo, om, op, og, ci, cl, c10, annK, lkG, lkR, reduceIte, Nat.reduceEqDiff, reduceCtorEq, List.cons.injEq, and_true, and_false, false_and, true_and]
 have e31 := o31_eq hc (by omega) (se : Int) (mi : Int)
 rw [expl_law] at e30
 rw [sure_law, hTi] at e31
 generalize (lawL (toI cs) se mi).1 = E at *
 generalize (lawL (toI cs) se mi).2 = S at *
 rcases hlaw with h8 | ⟨h0, hlo⟩
 ·rw [h8] at e30 e31
  rw [if_neg (by decide)] at e30 e31
  have HH1 := zA h12 (zA h29 (zA h30 (zA h31 (zA h49 (zA h50 (zA h51 (zA hbx (zA e50 (zA w1 (zA w0 (zA e29 (zA lc (zA rc (zA fc (zA cc1 (zA cc2 (zA e30 e31)))))))))))))))))
  have HH2 := zA o1 (zA o2 (zA o3 (zA o4 o5)))
  refine zS ?_
  refine zR (zO (by simp [zC h12, zC h29, zC h30, zC h31, zC h49, zC h50, zC h51, o12, -Zb, HH1, ↓HH2]; rfl) ?_)
  simp only [zT, zB]
  refine zS ?_
  refine zR (zO (by simp [zC h12, zC h29, zC h30, zC h31, zC h49, zC h50, zC h51, o12, -Zb, HH1, ↓HH2]; rfl) ?_)
  simp only [zT, zB]
  refine zS ?_
  refine zR (zO (by simp [zC h12, zC h29, zC h30, zC h31, zC h49, zC h50, zC h51, o12, -Zb, HH1, ↓HH2]; rfl) ?_)
  simp only [zT, zB]
  refine zS ?_
  refine ZU (by simp (maxSteps := 3000000) [zC h12, zC h29, zC h30, zC h31, zC h49, zC h50, zC h51, o12, -Zb, HH1, ↓HH2]; rfl) ?_
  simp only [zT, zB]
  refine zS ?_
  refine zR (zO (by simp [zC h12, zC h29, zC h30, zC h31, zC h49, zC h50, zC h51, o12, -Zb, HH1, ↓HH2]; rfl) ?_)
  simp only [zT, zB]
  refine zS ?_
  refine zR (zO (by simp [zC h12, zC h29, zC h30, zC h31, zC h49, zC h50, zC h51, o12, -Zb, HH1, ↓HH2]; rfl) ?_)
  simp only [zT, zB]
  refine zS ?_
  refine zS ?_
  refine zR (zO (by simp [zC h12, zC h29, zC h30, zC h31, zC h49, zC h50, zC h51, o12, -Zb, HH1, ↓HH2]; rfl) ?_)
  simp only [zT, zB]
  refine Zc (x := true) (by simp) ?_
  refine zS ?_
  refine zR (zO (by simp [zC h12, zC h29, zC h30, zC h31, zC h49, zC h50, zC h51, o12, -Zb, HH1, ↓HH2]; rfl) ?_)
  simp only [zT, zB]
  refine Ze ?_
  simp [zC h12, zC h29, zC h30, zC h31, zC h49, zC h50, zC h51, o12, -Zb, HH1, ↓HH2]
 ·rw [h0] at e30 e31
  rw [if_pos rfl] at e30 e31
  obtain ⟨hne, hSl, hasc, hmem, hleast⟩ := hlo
  have hSp : 0 < S.length := List.length_pos_iff.2 hne
  have hlen0 := fun s hs => least_len ⟨hne, hSl, hasc, hmem, hleast⟩ (s := s) (t := S[0]) hs (List.getElem_mem hSp)
  generalize hdd : S[0].length = d at *
  have hTd : d ≤ T0.length := by rw [← hdd]; exact hleast _ (List.getElem_mem hSp) T0 hT1 hT2 htx
  have hX := Esets_rows S
  have lX := ZV hX
  rw [List.length_map] at lX
  have rX := fun n d => ZY hX n d
  have fX := fun H d => ZG hX H d
  obtain ⟨cX1, cX2⟩ := ZH hX
  have hU := Yq (sureR cs.length S)
  have lU := ZV hU
  rw [List.length_map] at lU
  have rU := fun n d => ZY hU n d
  have fU := fun H d => ZG hU H d
  obtain ⟨cU1, cU2⟩ := ZH hU
  have hUl := sureR_len cs.length S
  have hUh : ∀ u ∈ sureR cs.length S, ∀ s ∈ S, hasB s u = true := fun u hu s hs => sure_has hu hs
  have hUd : dNs (Ys (sureR cs.length S)) = some (sureR cs.length S) := dNs_of hU fun x hx => by have := sureR_mem x hx; omega
  generalize sureR cs.length S = U at *
  generalize Ys U = vU at *
  have gX0 : (S.map fun s => [Ys s])[0]? = some [Ys S[0]] := by rw [List.getElem?_map, List.getElem?_eq_getElem hSp]; rfl
  have gX0' : ∀ h, (S.map fun s => [Ys s])[0]'h = [Ys S[0]] := fun h => by simp
  have l0e : Zb (Ys S[0]) = some d := by rw [ZV (Yq S[0]), List.length_map, hdd]
  have hz1 : ¬ (S.length : Int) = 0 := by omega
  have hz2 : ¬ 30 < (S.length : Int) := by omega
  have hz3 : ((S.length : Int) == 0) = false := by simpa using hz1
  have hzs : ¬ S.length = 0 := by omega
  obtain ⟨tX, hXv⟩ : ∃ tX, Za.vl (S.map fun s => [Ys s]) false = .vl (S.map fun s => [Ys s]) tX := ⟨_, rfl⟩
  have hm1 : ∀ s ∈ S, s.length ≤ 10 ∧ ∀ x ∈ s, x < cs.length := fun s hs => ⟨Nat.le_trans (asc_len (hmem s hs).1 (hmem s hs).2.1) hn10, (hmem s hs).2.1⟩
  have HH3 := zA h12 (zA h29 (zA h30 (zA h31 (zA h49 (zA h50 (zA h51 (zA hbx (zA e50 (zA w1 (zA w0 (zA e29 (zA lc (zA rc (zA fc (zA cc1 (zA cc2 (zA e30 (zA e31 (zA lX (zA rX (zA fX (zA cX1 (zA cX2 (zA lU (zA fU (zA cU1 (zA cU2 (zA gX0 (zA gX0' (zA l0e (zA hz1 (zA hz2 (zA hz3 (zA hSp hzs))))))))))))))))))))))))))))))))))
  have HH4 := zA o1 (zA o2 (zA o3 (zA o4 o5)))
  refine zS ?_
  refine zR (zO (by simp [zC h12, zC h29, zC h30, zC h31, zC h49, zC h50, zC h51, o12, -Zb, rU, -List.getElem?_map, -List.getElem_map, HH3, ↓HH4]; rfl) ?_)
  simp only [zT, zB]
  refine zS ?_
  refine zR (zO (by simp [zC h12, zC h29, zC h30, zC h31, zC h49, zC h50, zC h51, o12, -Zb, rU, -List.getElem?_map, -List.getElem_map, HH3, ↓HH4]; rfl) ?_)
  simp only [zT, zB]
  refine zS ?_
  refine zR (zO (by simp [zC h12, zC h29, zC h30, zC h31, zC h49, zC h50, zC h51, o12, -Zb, rU, -List.getElem?_map, -List.getElem_map, HH3, ↓HH4]; rfl) ?_)
  simp only [zT, zB]
  refine zS ?_
  refine ZU (by simp (maxSteps := 3000000) [zC h12, zC h29, zC h30, zC h31, zC h49, zC h50, zC h51, o12, -Zb, rU, -List.getElem?_map, -List.getElem_map, HH3, ↓HH4]; rfl) ?_
  simp only [zT, zB]
  refine zS ?_
  refine zR (zO (by simp [zC h12, zC h29, zC h30, zC h31, zC h49, zC h50, zC h51, o12, -Zb, rU, -List.getElem?_map, -List.getElem_map, HH3, ↓HH4]; rfl) ?_)
  simp only [zT, zB]
  refine zS ?_
  refine zR (zO (by simp [zC h12, zC h29, zC h30, zC h31, zC h49, zC h50, zC h51, o12, -Zb, rU, -List.getElem?_map, -List.getElem_map, HH3, ↓HH4]; rfl) ?_)
  simp only [zT, zB]
  refine zS ?_
  refine zS ?_
  refine zR (zO (by simp [zC h12, zC h29, zC h30, zC h31, zC h49, zC h50, zC h51, o12, -Zb, rU, -List.getElem?_map, -List.getElem_map, HH3, ↓HH4]; rfl) ?_)
  simp only [zT, zB]
  refine Zc (x := false) (by simp) ?_
  refine zK ?_
  simp only [zT, zB]
  refine zS ?_
  refine zS ?_
  refine zR (zO (by simp [zC h12, zC h29, zC h30, zC h31, zC h49, zC h50, zC h51, o12, -Zb, rU, -List.getElem?_map, -List.getElem_map, HH3, ↓HH4]; rfl) ?_)
  simp only [zT, zB]
  refine Zc (x := false) (by simp) ?_
  refine zK ?_
  simp only [zT, zB]
  refine zS ?_
  refine zS ?_
  refine zR (zO (by simp [zC h12, zC h29, zC h30, zC h31, zC h49, zC h50, zC h51, o12, -Zb, rU, -List.getElem?_map, -List.getElem_map, HH3, ↓HH4]; rfl) ?_)
  simp only [zT, zB]
  refine zL ?_
  refine Zs (fun m σ => ∃ (k : Nat) (i : Int), i = k ∧ S.length - k = m ∧ k ≤ S.length ∧ σ = ⟨[.any, .any, .int .u8 (so : Nat), .any, .any, .any, .any, c, .any, .any, I (T0.length : Nat), .any, I (se : Nat), I (mi : Nat), .vl (S.map fun s => [Ys s]) false, .any, vU, .any, I i, .any, .any, .any, .any, .any, .any, .any, .any, .any, .any, .any, .any, .any, .any, .any, .any, .any, .any, .any, .any, .any, .any, .any, .any, .any, .any, .any, .any, .any, .any, .any, .any, .any, .any, .any, .any, .any, .any, .any, .any, .any, .any, .any, .any, .any, .any, .any, .any, .any, .any, .any, .any, .any, .any, .any, .any, .any, .any, .any, .any, .any, .any, .any, .any, .any, .any, .any, .any, .any, .any, .any, .any, .any, .any, .any, .any, .any, .any, .any, .any, .any, .any, .any, .any, .any, .any, .any, .any, .any, .any, .any, .any, .any, .any, .any, .any, .any, .any, .any, .any, .any, .any, .any, .any, .any, .any, .any, .any, .any, .any, .any, .any, .any, .any, .any, .any, .any, .any, .any, .any, .any, .any, .any, .any, .any, .any, .any, .any, .any, .any, .any, .any, .any, .any, .any, .any, .any, .any, .any, .any, .any, .any, .any, .any, .any, .any, .any, .any, .any, .any, .any, .any, .any, .any, .any, .any, .any, .any, .any, .any, .any, .any, .any, .any, .any, .any, .any, .any, .any, .any, .any, .any, .any, .any, .any, .any, .any, .any, .any, .any, .any, .any, .any, .any, .any, .any, .any, .any, .any, .any, .any, .any, .any, .any, .any, .any, .any, .any, .any, .any, .any, .any, .any, .any, .any, .any, .any, .any, .any, .any, .any, .any, .any, .any, .any, .any, .any, .any, .any, .any, .any, .any, .any, .any, .any], [some (.row 2 [[xc, .int .u8 (t : Nat)]]), some (.row 2 [[.int .u16 (l0 : Nat), .int .u16 (l1 : Nat)]]), none, none, none, none, none, none, none, none, none, none, none, none, none]⟩) ?_ (S.length - 0) _ ⟨0, 0, rfl, rfl, Nat.zero_le _, by simp⟩
  rintro m σ ⟨k, i, hik, rfl, hkl, rfl⟩
  refine zS ?_
  refine zS ?_
  refine zR (zO (by simp [zC h12, zC h29, zC h30, zC h31, zC h49, zC h50, zC h51, o12, -Zb, rU, -List.getElem?_map, -List.getElem_map, HH3, ↓HH4]; rfl) ?_)
  simp only [zT, zB]
  refine Zf (x := decide (i < (S.length : Int))) (by simp) (fun hlt => ?_) (fun hlt => ?_)
  ·have hlt := of_decide_eq_true hlt
   have hk0 : k < S.length := by omega
   have hi0 : 0 ≤ i := by omega
   have htn : i.toNat = k := by omega
   have hwi : W .i64 (i + 1) = i + 1 := Zz (by omega)
   have g1 : (S.map fun s => [Ys s])[k]? = some [Ys S[k]] := by rw [List.getElem?_map, List.getElem?_eq_getElem hk0]; rfl
   have g2 : ∀ h, (S.map fun s => [Ys s])[k]'h = [Ys S[k]] := fun h => by simp
   have hmk := hmem _ (List.getElem_mem hk0)
   have hm1k := hm1 _ (List.getElem_mem hk0)
   have hlk := hlen0 _ (List.getElem_mem hk0)
   have hUk := fun u hu => hUh u hu _ (List.getElem_mem hk0)
   have hprev : ∀ j, k = j + 1 → ∃ y : List Nat, (S.map fun s => [Ys s])[j]? = some [Ys y] ∧ (∀ h, (S.map fun s => [Ys s])[j]'h = [Ys y]) ∧ y < S[k] ∧ j < S.length ∧ y.length = d ∧ ∀ x ∈ y, x < cs.length := by
    rintro j rfl
    have hj : j < S.length := by omega
    exact ⟨S[j], by rw [List.getElem?_map, List.getElem?_eq_getElem hj]; rfl, fun h => by simp, List.pairwise_iff_getElem.1 hasc j (j + 1) hj hk0 (by omega), hj, hlen0 _ (List.getElem_mem hj), (hm1 _ (List.getElem_mem hj)).2⟩
   generalize S[k] = s at *
   have hsN := Yq s
   have hsd : dNs (Ys s) = some s := dNs_of hsN fun x hx => by have := hm1k.2 x hx; omega
   have e51 := o51_eq hcc hsd hm1k.1 hm1k.2 hn10 hmk.1
   have hex := hmk.2.2
   rw [← expl_eq hsl hmil] at hex
   unfold explN at hex
   rw [Bool.and_eq_true, ← ldN_zero (by omega) (by have := allL_lt hcsk s; omega), beq_iff_eq, beq_iff_eq] at hex
   have oa : arI .andNot .i64 (se : Int) ((YP cs s : Nat) : Int) = some (I 0) := by rw [not_i (by omega), hex.1]; rfl
   have ob : arI .and .i64 (mi : Int) ((YF cs s : Nat) : Int) = some (I 0) := by rw [and_i (by omega) (by have := mustL_lt hcsk s; omega), hex.2]; rfl
   generalize ((YP cs s : Nat) : Int) = Av at *
   generalize ((YF cs s : Nat) : Int) = Mv at *
   have ls : Zb (Ys s) = some d := by rw [ZV hsN, List.length_map, hlk]
   have rs_ := fun n d => ZY hsN n d
   have fs := fun H d => ZG hsN H d
   obtain ⟨cs1, cs2⟩ := ZH hsN
   have hnd : ¬ (T0.length : Int) < (d : Int) := by omega
   have hcase : k = 0 ∨ ∃ y : List Nat, ∃ j, k = j + 1 ∧ (S.map fun s => [Ys s])[j]? = some [Ys y] ∧ (∀ h, (S.map fun s => [Ys s])[j]'h = [Ys y]) ∧ j < S.length ∧ o49 [Ys y, Ys s] = some (.bool true) ∧ (∀ H d, frz false H (d + 1) (Ys y) = some (Ys y)) := by
    by_cases hk00 : k = 0
    ·exact .inl hk00
    ·obtain ⟨j, hjk⟩ : ∃ j, k = j + 1 := ⟨k - 1, by omega⟩
     obtain ⟨y, p1, p2, p3, p4, p5, p6⟩ := hprev j hjk
     refine .inr ⟨y, j, hjk, p1, p2, p4, ?_, fun H d => ZG (Yq y) H d⟩
     rw [o49_eq (dNs_of (Yq y) fun x hx => by have := p6 x hx; omega) hsd (by have := hm1k.1; omega) (by omega), lexC_true p3]
   generalize Ys s = vs at *
   have HH5 := zA hi0 (zA htn (zA hk0 (zA hwi (zA g1 (zA g2 (zA e51 (zA ls (zA rs_ (zA fs (zA cs1 (zA cs2 hnd)))))))))))
   refine zK ?_
   simp only [zT, zB]
   refine zS ?_
   refine zL ?_
   refine zS ?_
   refine zR (zO (by simp [zC h12, zC h29, zC h30, zC h31, zC h49, zC h50, zC h51, o12, -Zb, rU, -List.getElem?_map, -List.getElem_map, HH3, ↓HH4, ↓oa, ↓ob, HH5]; rfl) ?_)
   simp only [zT, zB]
   refine zS ?_
   refine zS ?_
   rcases hcase with hk00 | ⟨y, j, hjk, p1, p2, p4, e49, fy⟩
   ·have hnp : ¬ 0 < i := by omega
    refine ZU (by simp (maxSteps := 3000000) [zC h12, zC h29, zC h30, zC h31, zC h49, zC h50, zC h51, o12, -Zb, rU, -List.getElem?_map, -List.getElem_map, HH3, ↓HH4, ↓oa, ↓ob, HH5, hnp]; rfl) ?_
    simp only [zT, zB]
    refine Zc (x := false) (by simp) ?_
    refine zK ?_
    simp only [zT, zB]
    refine zS ?_
    refine zR (zO (by simp [zC h12, zC h29, zC h30, zC h31, zC h49, zC h50, zC h51, o12, -Zb, rU, -List.getElem?_map, -List.getElem_map, HH3, ↓HH4, ↓oa, ↓ob, HH5, hnp]; rfl) ?_)
    simp only [zT, zB]
    refine zL ?_
    refine Zs (fun mm σ => ∃ (kk : Nat) (ii : Int), ii = kk ∧ U.length - kk = mm ∧ kk ≤ U.length ∧ σ = ⟨[.any, .any, .int .u8 (so : Nat), .any, .any, .any, .any, c, .any, .any, I (T0.length : Nat), .any, I (se : Nat), I (mi : Nat), .vl (S.map fun s => [Ys s]) false, .any, vU, .any, I i, .any, .any, .any, I ii, .any, .any, .any, .any, .any, .any, .any, .any, .any, .any, .any, .any, .any, .any, .any, .any, .any, .any, .any, .any, .any, .any, .any, .any, .any, .any, .any, .any, .any, .any, .any, .any, .any, .any, .any, .any, .any, .any, .any, .any, .any, .any, .any, .any, .any, .any, .any, .any, .any, .any, .any, .any, .any, .any, .any, .any, .any, .any, .any, .any, .any, .any, .any, .any, .any, .any, .any, .any, .any, .any, .any, .any, .any, .any, .any, .any, .any, .any, .any, .any, .any, .any, .any, .any, .any, .any, .any, .any, .any, .any, .any, .any, .any, .any, .any, .any, .any, .any, .any, .any, .any, .any, .any, .any, .any, .any, .any, .any, .any, .any, .any, .any, .any, .any, .any, .any, .any, .any, .any, .any, .any, .any, .any, .any, .any, .any, .any, .any, .any, .any, .any, .any, .any, .any, .any, .any, .any, .any, .any, .any, .any, .any, .any, .any, .any, .any, .any, .any, .any, .any, .any, .any, .any, .any, .any, .any, .any, .any, .any, .any, .any, .any, .any, .any, .any, .any, .any, .any, .any, .any, .any, .any, .any, .any, .any, .any, .any, .any, .any, .any, .any, .any, .any, .any, .any, .any, .any, .any, .any, .any, .any, .any, .any, .any, .any, .any, .any, .any, .any, .any, .any, .any, .any, .any, .any, .any, .any, .any, .any, .any, .any, .any, .any, .any, .any, .any, .any, .any, .any, .any, .any], [some (.row 2 [[xc, .int .u8 (t : Nat)]]), some (.row 2 [[.int .u16 (l0 : Nat), .int .u16 (l1 : Nat)]]), none, none, none, none, none, none, none, none, none, none, none, none, none, none, none, none, none, none, none, none, none, none, none, none, none, none, none, none, none, none, none, none, none, none, none, none, none, none, none, none, none, none, none, none, none, none, none, none, none, none, none, none, none, none, none, none, none, none, none, none, none, none, none, none, none]⟩) ?_ (U.length - 0) _ ⟨0, 0, rfl, rfl, Nat.zero_le _, by simp⟩
    rintro mm σ ⟨kk, ii, hii, rfl, hkkl, rfl⟩
    refine zS ?_
    refine zS ?_
    refine zR (zO (by simp [zC h12, zC h29, zC h30, zC h31, zC h49, zC h50, zC h51, o12, -Zb, rU, -List.getElem?_map, -List.getElem_map, HH3, ↓HH4, ↓oa, ↓ob, HH5, hnp]; rfl) ?_)
    simp only [zT, zB]
    refine Zf (x := decide (ii < (U.length : Int))) (by simp) (fun hlu => ?_) (fun hlu => ?_)
    ·have hlu := of_decide_eq_true hlu
     have hj0 : kk < U.length := by omega
     obtain ⟨tu, rfl⟩ := dNs_get hUd hj0
     have hJ0 : 0 ≤ ii := by omega
     have htJ : ii.toNat = kk := by omega
     have hwJ : W .i64 (ii + 1) = ii + 1 := Zz (by omega)
     have gu1 : (U.map rN)[kk]? = some (rN U[kk]) := by rw [List.getElem?_map, List.getElem?_eq_getElem hj0]; rfl
     have gu2 : ∀ h, (U.map rN)[kk]'h = rN U[kk] := fun h => by simp
     have hin := hUk _ (List.getElem_mem hj0)
     generalize U[kk] = u at *
     have hc0 : hasB (s.take 0) u = false := rfl
     have HH6 := zA hnp (zA hJ0 (zA htJ (zA hj0 (zA hwJ (zA gu1 gu2)))))
     refine zK ?_
     simp only [zT, zB]
     refine zS ?_
     refine zL ?_
     refine zS ?_
     refine zR (zO (by simp [zC h12, zC h29, zC h30, zC h31, zC h49, zC h50, zC h51, o12, -Zb, rU, -List.getElem?_map, -List.getElem_map, HH3, ↓HH4, ↓oa, ↓ob, HH5, rN, HH6]; rfl) ?_)
     simp only [zT, zB]
     refine zS ?_
     refine zS ?_
     refine zR (zO (by simp [zC h12, zC h29, zC h30, zC h31, zC h49, zC h50, zC h51, o12, -Zb, rU, -List.getElem?_map, -List.getElem_map, HH3, ↓HH4, ↓oa, ↓ob, HH5, rN, HH6]; rfl) ?_)
     simp only [zT, zB]
     refine zL ?_
     refine Zs (fun nn σ => ∃ (n : Nat) (N : Int), N = n ∧ s.length - n = nn ∧ n ≤ s.length ∧ σ = ⟨[.any, .any, .int .u8 (so : Nat), .any, .any, .any, .any, c, .any, .any, I (T0.length : Nat), .any, I (se : Nat), I (mi : Nat), .vl (S.map fun s => [Ys s]) false, .any, .vl (U.map rN) tu, .any, I i, .any, .any, .any, I ii, .bool (hasB (s.take n) u), I N, .any, .any, .any, .any, .any, .any, .any, .any, .any, .any, .any, .any, .any, .any, .any, .any, .any, .any, .any, .any, .any, .any, .any, .any, .any, .any, .any, .any, .any, .any, .any, .any, .any, .any, .any, .any, .any, .any, .any, .any, .any, .any, .any, .any, .any, .any, .any, .any, .any, .any, .any, .any, .any, .any, .any, .any, .any, .any, .any, .any, .any, .any, .any, .any, .any, .any, .any, .any, .any, .any, .any, .any, .any, .any, .any, .any, .any, .any, .any, .any, .any, .any, .any, .any, .any, .any, .any, .any, .any, .any, .any, .any, .any, .any, .any, .any, .any, .any, .any, .any, .any, .any, .any, .any, .any, .any, .any, .any, .any, .any, .any, .any, .any, .any, .any, .any, .any, .any, .any, .any, .any, .any, .any, .any, .any, .any, .any, .any, .any, .any, .any, .any, .any, .any, .any, .any, .any, .any, .any, .any, .any, .any, .any, .any, .any, .any, .any, .any, .any, .any, .any, .any, .any, .any, .any, .any, .any, .any, .any, .any, .any, .any, .any, .any, .any, .any, .any, .any, .any, .any, .any, .any, .any, .any, .any, .any, .any, .any, .any, .any, .any, .any, .any, .any, .any, .any, .any, .any, .any, .any, .any, .any, .any, .any, .any, .any, .any, .any, .any, .any, .any, .any, .any, .any, .any, .any, .any, .any, .any, .any, .any, .any, .any, .any, .any, .any, .any, .any, .any], [some (.row 2 [[xc, .int .u8 (t : Nat)]]), some (.row 2 [[.int .u16 (l0 : Nat), .int .u16 (l1 : Nat)]]), none, none, none, none, none, none, none, none, none, none, none, none, none, none, none, none, none, none, none, none, none, none, none, none, none, none, none, none, none, none, none, none, none, none, none, none, none, none, none, none, none, none, none, none, none, none, none, none, none, none, none, none, none, none, none, none, none, none, none, none, none, none, none, none, none]⟩) ?_ (s.length - 0) _ ⟨0, 0, rfl, rfl, Nat.zero_le _, by simp⟩
     rintro nn σ ⟨n, N, hN, rfl, hnl, rfl⟩
     refine zS ?_
     refine zS ?_
     refine zR (zO (by simp [zC h12, zC h29, zC h30, zC h31, zC h49, zC h50, zC h51, o12, -Zb, rU, -List.getElem?_map, -List.getElem_map, HH3, ↓HH4, ↓oa, ↓ob, HH5, rN, HH6]; rfl) ?_)
     simp only [zT, zB]
     refine Zf (x := decide (N < (d : Int))) (by simp) (fun hln => ?_) (fun hln => ?_)
     ·have hln := of_decide_eq_true hln
      have hn0 : n < s.length := by omega
      obtain ⟨ts, rfl⟩ := dNs_get hsd hn0
      have hN0 : 0 ≤ N := by omega
      have htN : N.toNat = n := by omega
      have hwN : W .i64 (N + 1) = N + 1 := Zz (by omega)
      have gs1 : (s.map rN)[n]? = some (rN s[n]) := by rw [List.getElem?_map, List.getElem?_eq_getElem hn0]; rfl
      have gs2 : ∀ h, (s.map rN)[n]'h = rN s[n] := fun h => by simp
      have hEt : s.take (n + 1) = s.take n ++ [s[n]] := List.take_succ_eq_append_getElem hn0
      have hcn : hasB (s.take (n + 1)) u = (hasB (s.take n) u || (s[n] == u)) := has_app hEt
      have hbe : (((s[n] : Nat) : Int) == (u : Int)) = (s[n] == u) := by rw [Bool.eq_iff_iff, beq_iff_eq, beq_iff_eq]; omega
      generalize hasB (s.take n) u = B at *
      generalize (s[n] == u) = B2 at *
      generalize s[n] = e at *
      cases B
      ·cases B2
       ·have HH7 := zA hN0 (zA htN (zA hn0 (zA hwN (zA gs1 (zA gs2 hbe)))))
        refine zK ?_
        simp only [zT, zB]
        refine zS ?_
        refine zL ?_
        refine ZU (by simp (maxSteps := 3000000) [zC h12, zC h29, zC h30, zC h31, zC h49, zC h50, zC h51, o12, -Zb, rU, -List.getElem?_map, -List.getElem_map, HH3, ↓HH4, ↓oa, ↓ob, HH5, rN, HH6, HH7]; rfl) ?_
        simp only [zT, zB]
        refine zR (zO (by simp [zC h12, zC h29, zC h30, zC h31, zC h49, zC h50, zC h51, o12, -Zb, rU, -List.getElem?_map, -List.getElem_map, HH3, ↓HH4, ↓oa, ↓ob, HH5, rN, HH6, HH7]; rfl) ?_)
        simp only [zT, zB]
        exact ⟨s.length - (n + 1), by omega, n + 1, N + 1, by omega, rfl, by omega, by simp [zC h12, zC h29, zC h30, zC h31, zC h49, zC h50, zC h51, o12, -Zb, rU, -List.getElem?_map, -List.getElem_map, HH3, ↓HH4, ↓oa, ↓ob, HH5, rN, HH6, HH7, hcn, trim]⟩
       ·have HH8 := zA hN0 (zA htN (zA hn0 (zA hwN (zA gs1 (zA gs2 hbe)))))
        refine zK ?_
        simp only [zT, zB]
        refine zS ?_
        refine zL ?_
        refine ZU (by simp (maxSteps := 3000000) [zC h12, zC h29, zC h30, zC h31, zC h49, zC h50, zC h51, o12, -Zb, rU, -List.getElem?_map, -List.getElem_map, HH3, ↓HH4, ↓oa, ↓ob, HH5, rN, HH6, HH8]; rfl) ?_
        simp only [zT, zB]
        refine zR (zO (by simp [zC h12, zC h29, zC h30, zC h31, zC h49, zC h50, zC h51, o12, -Zb, rU, -List.getElem?_map, -List.getElem_map, HH3, ↓HH4, ↓oa, ↓ob, HH5, rN, HH6, HH8]; rfl) ?_)
        simp only [zT, zB]
        exact ⟨s.length - (n + 1), by omega, n + 1, N + 1, by omega, rfl, by omega, by simp [zC h12, zC h29, zC h30, zC h31, zC h49, zC h50, zC h51, o12, -Zb, rU, -List.getElem?_map, -List.getElem_map, HH3, ↓HH4, ↓oa, ↓ob, HH5, rN, HH6, HH8, hcn, trim]⟩
      ·have HH9 := zA hN0 (zA htN (zA hn0 (zA hwN (zA gs1 (zA gs2 hbe)))))
       refine zK ?_
       simp only [zT, zB]
       refine zS ?_
       refine zL ?_
       refine ZU (by simp (maxSteps := 3000000) [zC h12, zC h29, zC h30, zC h31, zC h49, zC h50, zC h51, o12, -Zb, rU, -List.getElem?_map, -List.getElem_map, HH3, ↓HH4, ↓oa, ↓ob, HH5, rN, HH6, HH9]; rfl) ?_
       simp only [zT, zB]
       refine zR (zO (by simp [zC h12, zC h29, zC h30, zC h31, zC h49, zC h50, zC h51, o12, -Zb, rU, -List.getElem?_map, -List.getElem_map, HH3, ↓HH4, ↓oa, ↓ob, HH5, rN, HH6, HH9]; rfl) ?_)
       simp only [zT, zB]
       exact ⟨s.length - (n + 1), by omega, n + 1, N + 1, by omega, rfl, by omega, by simp [zC h12, zC h29, zC h30, zC h31, zC h49, zC h50, zC h51, o12, -Zb, rU, -List.getElem?_map, -List.getElem_map, HH3, ↓HH4, ↓oa, ↓ob, HH5, rN, HH6, HH9, hcn, trim]⟩
     ·have hln := of_decide_eq_false hln
      obtain rfl : n = s.length := by omega
      rw [List.take_length, hin]
      refine Zr ?_
      simp only [zT, zB, if_true, if_false, reduceIte, Nat.reduceEqDiff, Nat.succ_ne_zero, Nat.one_ne_zero, Nat.zero_ne_one]
      refine zS ?_
      refine zR (zO (by simp [zC h12, zC h29, zC h30, zC h31, zC h49, zC h50, zC h51, o12, -Zb, rU, -List.getElem?_map, -List.getElem_map, HH3, ↓HH4, ↓oa, ↓ob, HH5, rN, HH6]; rfl) ?_)
      simp only [zT, zB]
      refine Zc (x := false) (by simp) ?_
      refine zK ?_
      simp only [zT, zB]
      refine zR (zO (by simp [zC h12, zC h29, zC h30, zC h31, zC h49, zC h50, zC h51, o12, -Zb, rU, -List.getElem?_map, -List.getElem_map, HH3, ↓HH4, ↓oa, ↓ob, HH5, rN, HH6]; rfl) ?_)
      simp only [zT, zB]
      exact ⟨U.length - (kk + 1), by omega, kk + 1, ii + 1, by omega, rfl, by omega, by simp [zC h12, zC h29, zC h30, zC h31, zC h49, zC h50, zC h51, o12, -Zb, rU, -List.getElem?_map, -List.getElem_map, HH3, ↓HH4, ↓oa, ↓ob, HH5, rN, HH6, trim]⟩
    ·have hlu := of_decide_eq_false hlu
     refine Zr ?_
     simp only [zT, zB, if_true, if_false, reduceIte, Nat.reduceEqDiff, Nat.succ_ne_zero, Nat.one_ne_zero, Nat.zero_ne_one]
     refine zR (zO (by simp [zC h12, zC h29, zC h30, zC h31, zC h49, zC h50, zC h51, o12, -Zb, rU, -List.getElem?_map, -List.getElem_map, HH3, ↓HH4, ↓oa, ↓ob, HH5, hnp]; rfl) ?_)
     simp only [zT, zB]
     exact ⟨S.length - (k + 1), by omega, k + 1, i + 1, by omega, rfl, by omega, by simp [zC h12, zC h29, zC h30, zC h31, zC h49, zC h50, zC h51, o12, -Zb, rU, -List.getElem?_map, -List.getElem_map, HH3, ↓HH4, ↓oa, ↓ob, HH5, hnp, trim]⟩
   ·have hip : 0 < i := by omega
    have hi1 : 1 ≤ i := by omega
    have hw1 : W .i64 (i - 1) = i - 1 := Zz (by omega)
    have h10 : 0 ≤ i - 1 := by omega
    have h1n : (i - 1).toNat = j := by omega
    have HH10 := zA hip (zA hi1 (zA hw1 (zA h10 (zA h1n (zA p1 (zA p2 (zA p4 (zA e49 fy))))))))
    refine ZU (by simp (maxSteps := 3000000) [zC h12, zC h29, zC h30, zC h31, zC h49, zC h50, zC h51, o12, -Zb, rU, -List.getElem?_map, -List.getElem_map, HH3, ↓HH4, ↓oa, ↓ob, HH5, HH10]; rfl) ?_
    simp only [zT, zB]
    refine Zc (x := false) (by simp) ?_
    refine zK ?_
    simp only [zT, zB]
    refine zS ?_
    refine zR (zO (by simp [zC h12, zC h29, zC h30, zC h31, zC h49, zC h50, zC h51, o12, -Zb, rU, -List.getElem?_map, -List.getElem_map, HH3, ↓HH4, ↓oa, ↓ob, HH5, HH10]; rfl) ?_)
    simp only [zT, zB]
    refine zL ?_
    refine Zs (fun mm σ => ∃ (kk : Nat) (ii : Int), ii = kk ∧ U.length - kk = mm ∧ kk ≤ U.length ∧ σ = ⟨[.any, .any, .int .u8 (so : Nat), .any, .any, .any, .any, c, .any, .any, I (T0.length : Nat), .any, I (se : Nat), I (mi : Nat), .vl (S.map fun s => [Ys s]) false, .any, vU, .any, I i, .any, .any, .any, I ii, .any, .any, .any, .any, .any, .any, .any, .any, .any, .any, .any, .any, .any, .any, .any, .any, .any, .any, .any, .any, .any, .any, .any, .any, .any, .any, .any, .any, .any, .any, .any, .any, .any, .any, .any, .any, .any, .any, .any, .any, .any, .any, .any, .any, .any, .any, .any, .any, .any, .any, .any, .any, .any, .any, .any, .any, .any, .any, .any, .any, .any, .any, .any, .any, .any, .any, .any, .any, .any, .any, .any, .any, .any, .any, .any, .any, .any, .any, .any, .any, .any, .any, .any, .any, .any, .any, .any, .any, .any, .any, .any, .any, .any, .any, .any, .any, .any, .any, .any, .any, .any, .any, .any, .any, .any, .any, .any, .any, .any, .any, .any, .any, .any, .any, .any, .any, .any, .any, .any, .any, .any, .any, .any, .any, .any, .any, .any, .any, .any, .any, .any, .any, .any, .any, .any, .any, .any, .any, .any, .any, .any, .any, .any, .any, .any, .any, .any, .any, .any, .any, .any, .any, .any, .any, .any, .any, .any, .any, .any, .any, .any, .any, .any, .any, .any, .any, .any, .any, .any, .any, .any, .any, .any, .any, .any, .any, .any, .any, .any, .any, .any, .any, .any, .any, .any, .any, .any, .any, .any, .any, .any, .any, .any, .any, .any, .any, .any, .any, .any, .any, .any, .any, .any, .any, .any, .any, .any, .any, .any, .any, .any, .any, .any, .any, .any, .any, .any, .any, .any, .any, .any], [some (.row 2 [[xc, .int .u8 (t : Nat)]]), some (.row 2 [[.int .u16 (l0 : Nat), .int .u16 (l1 : Nat)]]), none, none, none, none, none, none, none, none, none, none, none, none, none, none, none, none, none, none, none, none, none, none, none, none, none, none, none, none, none, none, none, none, none, none, none, none, none, none, none, none, none, none, none, none, none, none, none, none, none, none, none, none, none, none, none, none, none, none, none, none, none, none, none, none, none]⟩) ?_ (U.length - 0) _ ⟨0, 0, rfl, rfl, Nat.zero_le _, by simp⟩
    rintro mm σ ⟨kk, ii, hii, rfl, hkkl, rfl⟩
    refine zS ?_
    refine zS ?_
    refine zR (zO (by simp [zC h12, zC h29, zC h30, zC h31, zC h49, zC h50, zC h51, o12, -Zb, rU, -List.getElem?_map, -List.getElem_map, HH3, ↓HH4, ↓oa, ↓ob, HH5, HH10]; rfl) ?_)
    simp only [zT, zB]
    refine Zf (x := decide (ii < (U.length : Int))) (by simp) (fun hlu => ?_) (fun hlu => ?_)
    ·have hlu := of_decide_eq_true hlu
     have hj0 : kk < U.length := by omega
     obtain ⟨tu, rfl⟩ := dNs_get hUd hj0
     have hJ0 : 0 ≤ ii := by omega
     have htJ : ii.toNat = kk := by omega
     have hwJ : W .i64 (ii + 1) = ii + 1 := Zz (by omega)
     have gu1 : (U.map rN)[kk]? = some (rN U[kk]) := by rw [List.getElem?_map, List.getElem?_eq_getElem hj0]; rfl
     have gu2 : ∀ h, (U.map rN)[kk]'h = rN U[kk] := fun h => by simp
     have hin := hUk _ (List.getElem_mem hj0)
     generalize U[kk] = u at *
     have hc0 : hasB (s.take 0) u = false := rfl
     have HH11 := zA hJ0 (zA htJ (zA hj0 (zA hwJ (zA gu1 gu2))))
     refine zK ?_
     simp only [zT, zB]
     refine zS ?_
     refine zL ?_
     refine zS ?_
     refine zR (zO (by simp [zC h12, zC h29, zC h30, zC h31, zC h49, zC h50, zC h51, o12, -Zb, rU, -List.getElem?_map, -List.getElem_map, HH3, ↓HH4, ↓oa, ↓ob, HH5, HH10, rN, HH11]; rfl) ?_)
     simp only [zT, zB]
     refine zS ?_
     refine zS ?_
     refine zR (zO (by simp [zC h12, zC h29, zC h30, zC h31, zC h49, zC h50, zC h51, o12, -Zb, rU, -List.getElem?_map, -List.getElem_map, HH3, ↓HH4, ↓oa, ↓ob, HH5, HH10, rN, HH11]; rfl) ?_)
     simp only [zT, zB]
     refine zL ?_
     refine Zs (fun nn σ => ∃ (n : Nat) (N : Int), N = n ∧ s.length - n = nn ∧ n ≤ s.length ∧ σ = ⟨[.any, .any, .int .u8 (so : Nat), .any, .any, .any, .any, c, .any, .any, I (T0.length : Nat), .any, I (se : Nat), I (mi : Nat), .vl (S.map fun s => [Ys s]) false, .any, .vl (U.map rN) tu, .any, I i, .any, .any, .any, I ii, .bool (hasB (s.take n) u), I N, .any, .any, .any, .any, .any, .any, .any, .any, .any, .any, .any, .any, .any, .any, .any, .any, .any, .any, .any, .any, .any, .any, .any, .any, .any, .any, .any, .any, .any, .any, .any, .any, .any, .any, .any, .any, .any, .any, .any, .any, .any, .any, .any, .any, .any, .any, .any, .any, .any, .any, .any, .any, .any, .any, .any, .any, .any, .any, .any, .any, .any, .any, .any, .any, .any, .any, .any, .any, .any, .any, .any, .any, .any, .any, .any, .any, .any, .any, .any, .any, .any, .any, .any, .any, .any, .any, .any, .any, .any, .any, .any, .any, .any, .any, .any, .any, .any, .any, .any, .any, .any, .any, .any, .any, .any, .any, .any, .any, .any, .any, .any, .any, .any, .any, .any, .any, .any, .any, .any, .any, .any, .any, .any, .any, .any, .any, .any, .any, .any, .any, .any, .any, .any, .any, .any, .any, .any, .any, .any, .any, .any, .any, .any, .any, .any, .any, .any, .any, .any, .any, .any, .any, .any, .any, .any, .any, .any, .any, .any, .any, .any, .any, .any, .any, .any, .any, .any, .any, .any, .any, .any, .any, .any, .any, .any, .any, .any, .any, .any, .any, .any, .any, .any, .any, .any, .any, .any, .any, .any, .any, .any, .any, .any, .any, .any, .any, .any, .any, .any, .any, .any, .any, .any, .any, .any, .any, .any, .any, .any, .any, .any, .any, .any, .any, .any, .any, .any, .any, .any], [some (.row 2 [[xc, .int .u8 (t : Nat)]]), some (.row 2 [[.int .u16 (l0 : Nat), .int .u16 (l1 : Nat)]]), none, none, none, none, none, none, none, none, none, none, none, none, none, none, none, none, none, none, none, none, none, none, none, none, none, none, none, none, none, none, none, none, none, none, none, none, none, none, none, none, none, none, none, none, none, none, none, none, none, none, none, none, none, none, none, none, none, none, none, none, none, none, none, none, none]⟩) ?_ (s.length - 0) _ ⟨0, 0, rfl, rfl, Nat.zero_le _, by simp⟩
     rintro nn σ ⟨n, N, hN, rfl, hnl, rfl⟩
     refine zS ?_
     refine zS ?_
     refine zR (zO (by simp [zC h12, zC h29, zC h30, zC h31, zC h49, zC h50, zC h51, o12, -Zb, rU, -List.getElem?_map, -List.getElem_map, HH3, ↓HH4, ↓oa, ↓ob, HH5, HH10, rN, HH11]; rfl) ?_)
     simp only [zT, zB]
     refine Zf (x := decide (N < (d : Int))) (by simp) (fun hln => ?_) (fun hln => ?_)
     ·have hln := of_decide_eq_true hln
      have hn0 : n < s.length := by omega
      obtain ⟨ts, rfl⟩ := dNs_get hsd hn0
      have hN0 : 0 ≤ N := by omega
      have htN : N.toNat = n := by omega
      have hwN : W .i64 (N + 1) = N + 1 := Zz (by omega)
      have gs1 : (s.map rN)[n]? = some (rN s[n]) := by rw [List.getElem?_map, List.getElem?_eq_getElem hn0]; rfl
      have gs2 : ∀ h, (s.map rN)[n]'h = rN s[n] := fun h => by simp
      have hEt : s.take (n + 1) = s.take n ++ [s[n]] := List.take_succ_eq_append_getElem hn0
      have hcn : hasB (s.take (n + 1)) u = (hasB (s.take n) u || (s[n] == u)) := has_app hEt
      have hbe : (((s[n] : Nat) : Int) == (u : Int)) = (s[n] == u) := by rw [Bool.eq_iff_iff, beq_iff_eq, beq_iff_eq]; omega
      generalize hasB (s.take n) u = B at *
      generalize (s[n] == u) = B2 at *
      generalize s[n] = e at *
      cases B
      ·cases B2
       ·have HH12 := zA hN0 (zA htN (zA hn0 (zA hwN (zA gs1 (zA gs2 hbe)))))
        refine zK ?_
        simp only [zT, zB]
        refine zS ?_
        refine zL ?_
        refine ZU (by simp (maxSteps := 3000000) [zC h12, zC h29, zC h30, zC h31, zC h49, zC h50, zC h51, o12, -Zb, rU, -List.getElem?_map, -List.getElem_map, HH3, ↓HH4, ↓oa, ↓ob, HH5, HH10, rN, HH11, HH12]; rfl) ?_
        simp only [zT, zB]
        refine zR (zO (by simp [zC h12, zC h29, zC h30, zC h31, zC h49, zC h50, zC h51, o12, -Zb, rU, -List.getElem?_map, -List.getElem_map, HH3, ↓HH4, ↓oa, ↓ob, HH5, HH10, rN, HH11, HH12]; rfl) ?_)
        simp only [zT, zB]
        exact ⟨s.length - (n + 1), by omega, n + 1, N + 1, by omega, rfl, by omega, by simp [zC h12, zC h29, zC h30, zC h31, zC h49, zC h50, zC h51, o12, -Zb, rU, -List.getElem?_map, -List.getElem_map, HH3, ↓HH4, ↓oa, ↓ob, HH5, HH10, rN, HH11, HH12, hcn, trim]⟩
       ·have HH13 := zA hN0 (zA htN (zA hn0 (zA hwN (zA gs1 (zA gs2 hbe)))))
        refine zK ?_
        simp only [zT, zB]
        refine zS ?_
        refine zL ?_
        refine ZU (by simp (maxSteps := 3000000) [zC h12, zC h29, zC h30, zC h31, zC h49, zC h50, zC h51, o12, -Zb, rU, -List.getElem?_map, -List.getElem_map, HH3, ↓HH4, ↓oa, ↓ob, HH5, HH10, rN, HH11, HH13]; rfl) ?_
        simp only [zT, zB]
        refine zR (zO (by simp [zC h12, zC h29, zC h30, zC h31, zC h49, zC h50, zC h51, o12, -Zb, rU, -List.getElem?_map, -List.getElem_map, HH3, ↓HH4, ↓oa, ↓ob, HH5, HH10, rN, HH11, HH13]; rfl) ?_)
        simp only [zT, zB]
        exact ⟨s.length - (n + 1), by omega, n + 1, N + 1, by omega, rfl, by omega, by simp [zC h12, zC h29, zC h30, zC h31, zC h49, zC h50, zC h51, o12, -Zb, rU, -List.getElem?_map, -List.getElem_map, HH3, ↓HH4, ↓oa, ↓ob, HH5, HH10, rN, HH11, HH13, hcn, trim]⟩
      ·have HH14 := zA hN0 (zA htN (zA hn0 (zA hwN (zA gs1 (zA gs2 hbe)))))
       refine zK ?_
       simp only [zT, zB]
       refine zS ?_
       refine zL ?_
       refine ZU (by simp (maxSteps := 3000000) [zC h12, zC h29, zC h30, zC h31, zC h49, zC h50, zC h51, o12, -Zb, rU, -List.getElem?_map, -List.getElem_map, HH3, ↓HH4, ↓oa, ↓ob, HH5, HH10, rN, HH11, HH14]; rfl) ?_
       simp only [zT, zB]
       refine zR (zO (by simp [zC h12, zC h29, zC h30, zC h31, zC h49, zC h50, zC h51, o12, -Zb, rU, -List.getElem?_map, -List.getElem_map, HH3, ↓HH4, ↓oa, ↓ob, HH5, HH10, rN, HH11, HH14]; rfl) ?_)
       simp only [zT, zB]
       exact ⟨s.length - (n + 1), by omega, n + 1, N + 1, by omega, rfl, by omega, by simp [zC h12, zC h29, zC h30, zC h31, zC h49, zC h50, zC h51, o12, -Zb, rU, -List.getElem?_map, -List.getElem_map, HH3, ↓HH4, ↓oa, ↓ob, HH5, HH10, rN, HH11, HH14, hcn, trim]⟩
     ·have hln := of_decide_eq_false hln
      obtain rfl : n = s.length := by omega
      rw [List.take_length, hin]
      refine Zr ?_
      simp only [zT, zB, if_true, if_false, reduceIte, Nat.reduceEqDiff, Nat.succ_ne_zero, Nat.one_ne_zero, Nat.zero_ne_one]
      refine zS ?_
      refine zR (zO (by simp [zC h12, zC h29, zC h30, zC h31, zC h49, zC h50, zC h51, o12, -Zb, rU, -List.getElem?_map, -List.getElem_map, HH3, ↓HH4, ↓oa, ↓ob, HH5, HH10, rN, HH11]; rfl) ?_)
      simp only [zT, zB]
      refine Zc (x := false) (by simp) ?_
      refine zK ?_
      simp only [zT, zB]
      refine zR (zO (by simp [zC h12, zC h29, zC h30, zC h31, zC h49, zC h50, zC h51, o12, -Zb, rU, -List.getElem?_map, -List.getElem_map, HH3, ↓HH4, ↓oa, ↓ob, HH5, HH10, rN, HH11]; rfl) ?_)
      simp only [zT, zB]
      exact ⟨U.length - (kk + 1), by omega, kk + 1, ii + 1, by omega, rfl, by omega, by simp [zC h12, zC h29, zC h30, zC h31, zC h49, zC h50, zC h51, o12, -Zb, rU, -List.getElem?_map, -List.getElem_map, HH3, ↓HH4, ↓oa, ↓ob, HH5, HH10, rN, HH11, trim]⟩
    ·have hlu := of_decide_eq_false hlu
     refine Zr ?_
     simp only [zT, zB, if_true, if_false, reduceIte, Nat.reduceEqDiff, Nat.succ_ne_zero, Nat.one_ne_zero, Nat.zero_ne_one]
     refine zR (zO (by simp [zC h12, zC h29, zC h30, zC h31, zC h49, zC h50, zC h51, o12, -Zb, rU, -List.getElem?_map, -List.getElem_map, HH3, ↓HH4, ↓oa, ↓ob, HH5, HH10]; rfl) ?_)
     simp only [zT, zB]
     exact ⟨S.length - (k + 1), by omega, k + 1, i + 1, by omega, rfl, by omega, by simp [zC h12, zC h29, zC h30, zC h31, zC h49, zC h50, zC h51, o12, -Zb, rU, -List.getElem?_map, -List.getElem_map, HH3, ↓HH4, ↓oa, ↓ob, HH5, HH10, trim]⟩
  ·have hlt := of_decide_eq_false hlt
   refine Zr ?_
   simp only [zT, zB, if_true, if_false, reduceIte, Nat.reduceEqDiff, Nat.succ_ne_zero, Nat.one_ne_zero, Nat.zero_ne_one]
   refine zS ?_
   refine zR (zO (by simp [zC h12, zC h29, zC h30, zC h31, zC h49, zC h50, zC h51, o12, -Zb, rU, -List.getElem?_map, -List.getElem_map, HH3, ↓HH4]; rfl) ?_)
   simp only [zT, zB]
   refine zS ?_
   refine zS ?_
   refine zR (zO (by simp [zC h12, zC h29, zC h30, zC h31, zC h49, zC h50, zC h51, o12, -Zb, rU, -List.getElem?_map, -List.getElem_map, HH3, ↓HH4]; rfl) ?_)
   simp only [zT, zB]
   refine zL ?_
   refine runs_loopG_inv (fun mm σ => ∃ (k : Nat) (j : Int), j = k ∧ cs.length - k = mm ∧ k ≤ cs.length ∧ ((YT k so = [] ∧ σ = ⟨[.any, .any, .int .u8 (so : Nat), .any, .any, .any, .any, c, .any, .any, .any, .any, I (se : Nat), I (mi : Nat), .vl (S.map fun s => [Ys s]) false, .any, .any, .any, .any, .any, .any, .any, .any, .any, .any, .sl 16 0 0 true, I j, .any, .any, .any, .any, .any, .any, .any, .any, .any, .any, .any, .any, .any, .any, .any, .any, .any, .any, .any, .any, .any, .any, .any, .any, .any, .any, .any, .any, .any, .any, .any, .any, .any, .any, .any, .any, .any, .any, .any, .any, .any, .any, .any, .any, .any, .any, .any, .any, .any, .any, .any, .any, .any, .any, .any, .any, .any, .any, .any, .any, .any, .any, .any, .any, .any, .any, .any, .any, .any, .any, .any, .any, .any, .any, .any, .any, .any, .any, .any, .any, .any, .any, .any, .any, .any, .any, .any, .any, .any, .any, .any, .any, .any, .any, .any, .any, .any, .any, .any, .any, .any, .any, .any, .any, .any, .any, .any, .any, .any, .any, .any, .any, .any, .any, .any, .any, .any, .any, .any, .any, .any, .any, .any, .any, .any, .any, .any, .any, .any, .any, .any, .any, .any, .any, .any, .any, .any, .any, .any, .any, .any, .any, .any, .any, .any, .any, .any, .any, .any, .any, .any, .any, .any, .any, .any, .any, .any, .any, .any, .any, .any, .any, .any, .any, .any, .any, .any, .any, .any, .any, .any, .any, .any, .any, .any, .any, .any, .any, .any, .any, .any, .any, .any, .any, .any, .any, .any, .any, .any, .any, .any, .any, .any, .any, .any, .any, .any, .any, .any, .any, .any, .any, .any, .any, .any, .any, .any, .any, .any, .any, .any, .any, .any, .any, .any, .any, .any], [some (.row 2 [[xc, .int .u8 (t : Nat)]]), some (.row 2 [[.int .u16 (l0 : Nat), .int .u16 (l1 : Nat)]]), none, none, none, none, none, none, none, none, none, none, none, none, none, none, some (.row 1 [])]⟩) ∨ (∃ (pp : Nat) (ac : List Nat), ac = YT k so ∧ ac.length = pp + 1 ∧ σ = ⟨[.any, .any, .int .u8 (so : Nat), .any, .any, .any, .any, c, .any, .any, .any, .any, I (se : Nat), I (mi : Nat), .vl (S.map fun s => [Ys s]) false, .any, .any, .any, .any, .any, .any, .any, .any, .any, .any, .sl 16 0 (pp + 1) false, I j, .any, .any, .any, .any, .any, .any, .any, .any, .any, .any, .any, .any, .any, .any, .any, .any, .any, .any, .any, .any, .any, .any, .any, .any, .any, .any, .any, .any, .any, .any, .any, .any, .any, .any, .any, .any, .any, .any, .any, .any, .any, .any, .any, .any, .any, .any, .any, .any, .any, .any, .any, .any, .any, .any, .any, .any, .any, .any, .any, .any, .any, .any, .any, .any, .any, .any, .any, .any, .any, .any, .any, .any, .any, .any, .any, .any, .any, .any, .any, .any, .any, .any, .any, .any, .any, .any, .any, .any, .any, .any, .any, .any, .any, .any, .any, .any, .any, .any, .any, .any, .any, .any, .any, .any, .any, .any, .any, .any, .any, .any, .any, .any, .any, .any, .any, .any, .any, .any, .any, .any, .any, .any, .any, .any, .any, .any, .any, .any, .any, .any, .any, .any, .any, .any, .any, .any, .any, .any, .any, .any, .any, .any, .any, .any, .any, .any, .any, .any, .any, .any, .any, .any, .any, .any, .any, .any, .any, .any, .any, .any, .any, .any, .any, .any, .any, .any, .any, .any, .any, .any, .any, .any, .any, .any, .any, .any, .any, .any, .any, .any, .any, .any, .any, .any, .any, .any, .any, .any, .any, .any, .any, .any, .any, .any, .any, .any, .any, .any, .any, .any, .any, .any, .any, .any, .any, .any, .any, .any, .any, .any, .any, .any, .any, .any, .any, .any, .any], [some (.row 2 [[xc, .int .u8 (t : Nat)]]), some (.row 2 [[.int .u16 (l0 : Nat), .int .u16 (l1 : Nat)]]), none, none, none, none, none, none, none, none, none, none, none, none, none, none, some (.row 1 (ac.map rN))]⟩))) (by simp [zC h12, zC h29, zC h30, zC h31, zC h49, zC h50, zC h51, o12, -Zb, rU, -List.getElem?_map, -List.getElem_map, HH3, ↓HH4] <;> first | exact ⟨rfl, rfl⟩ | rfl) (⟨0, 0, rfl, rfl, Nat.zero_le _, .inl ⟨rfl, rfl⟩⟩) ?_
   rintro mm σ ⟨k, j, hj, rfl, hkl, ⟨hac0, rfl⟩ | ⟨pp, ac, hac, hacl, rfl⟩⟩
   ·have hon := trueL_len k so
    refine zS ?_
    refine zS ?_
    refine zR (zO (by simp [zC h12, zC h29, zC h30, zC h31, zC h49, zC h50, zC h51, o12, -Zb, rU, -List.getElem?_map, -List.getElem_map, HH3, ↓HH4]; rfl) ?_)
    simp only [zT, zB]
    refine Zf (x := decide (j < (cs.length : Int))) (by simp) (fun hlo => ?_) (fun hlo => ?_)
    ·have hlo := of_decide_eq_true hlo
     have hk0 : k < cs.length := by omega
     have hwj : W .i64 (j + 1) = j + 1 := Zz (by omega)
     have hwu : W .u64 j = (k : Int) := by rw [hj]; exact W_u (by omega)
     obtain ⟨y1, y2, hy1, hy2, hy3⟩ := u8_bit hso (show k < 8 by omega)
     have hts := trueL_succ k so
     generalize so.testBit k = tb at *
     refine zK ?_
     simp only [zT, zB]
     refine zS ?_
     refine zL ?_
     refine zS ?_
     refine zR (zO (by simp [zC h12, zC h29, zC h30, zC h31, zC h49, zC h50, zC h51, o12, -Zb, rU, -List.getElem?_map, -List.getElem_map, HH3, ↓HH4, hwj, hwu, ↓hy1, ↓hy2, hy3]; rfl) ?_)
     simp only [zT, zB]
     cases tb
     ·rw [if_neg (by simp), List.append_nil] at hts
      refine Zc (x := false) (by simp) ?_
      refine zK ?_
      simp only [zT, zB]
      refine zR (zO (by simp [zC h12, zC h29, zC h30, zC h31, zC h49, zC h50, zC h51, o12, -Zb, rU, -List.getElem?_map, -List.getElem_map, HH3, ↓HH4, hwj, hwu, ↓hy1, ↓hy2, hy3]; rfl) ?_)
      simp only [zT, zB]
      exact ⟨cs.length - (k + 1), _, _, by omega, by simp [zC h12, zC h29, zC h30, zC h31, zC h49, zC h50, zC h51, o12, -Zb, rU, -List.getElem?_map, -List.getElem_map, HH3, ↓HH4, hwj, hwu, ↓hy1, ↓hy2, hy3] <;> first | rfl | exact ⟨rfl, rfl⟩, k + 1, j + 1, by omega, rfl, by omega, .inl ⟨by rw [hts, hac0], rfl⟩⟩
     ·rw [if_pos rfl] at hts
      have hri : rN k = [I j] := by rw [hj]; rfl
      refine Zc (x := true) (by simp) ?_
      refine zR (zO (by simp [zC h12, zC h29, zC h30, zC h31, zC h49, zC h50, zC h51, o12, -Zb, rU, -List.getElem?_map, -List.getElem_map, HH3, ↓HH4, hwj, hwu, ↓hy1, ↓hy2, hy3]; rfl) ?_)
      simp only [zT, zB]
      refine zR (zO (by simp [zC h12, zC h29, zC h30, zC h31, zC h49, zC h50, zC h51, o12, -Zb, rU, -List.getElem?_map, -List.getElem_map, HH3, ↓HH4, hwj, hwu, ↓hy1, ↓hy2, hy3]; rfl) ?_)
      simp only [zT, zB]
      exact ⟨cs.length - (k + 1), _, _, by omega, by simp [zC h12, zC h29, zC h30, zC h31, zC h49, zC h50, zC h51, o12, -Zb, rU, -List.getElem?_map, -List.getElem_map, HH3, ↓HH4, hwj, hwu, ↓hy1, ↓hy2, hy3] <;> first | rfl | exact ⟨rfl, rfl⟩, k + 1, j + 1, by omega, rfl, by omega, .inr ⟨0, [k], by rw [hts, hac0]; rfl, rfl, by simp [hri]⟩⟩
    ·have hlo := of_decide_eq_false hlo
     obtain rfl : k = cs.length := by omega
     have hO1 := trueL_asc cs.length so
     have hO2 : ∀ i ∈ YT cs.length so, i < cs.length := fun i h => trueL_mem h
     rw [hac0] at hO1 hO2
     obtain ⟨ac, hacn⟩ : ∃ ac : List Nat, ac = [] := ⟨_, rfl⟩
     rw [← hacn] at hO1 hO2
     have hOr : Zt (.vl [] true) = some (ac.map rN) := by rw [hacn]; rfl
     have hOl := Nat.le_trans (asc_len hO1 hO2) hn10
     have hOd := dNs_of hOr fun x hx => by have := hO2 x hx; omega
     have e51 := o51_eq hcc hOd hOl hO2 hn10 hO1
     have hexp := expl_eq (cs := cs) (l := ac) hsl hmil
     unfold explN at hexp
     rw [← ldN_zero (by omega) (by have := allL_lt hcsk ac; omega)] at hexp
     have hlst := fun h => hleast _ (List.getElem_mem hSp) ac hO1 hO2 h
     rw [hdd] at hlst
     have oa := not_i (a := se) (b := YP cs ac) (by omega)
     have ob := and_i (a := mi) (b := YF cs ac) (by omega) (by have := mustL_lt hcsk ac; omega)
     have hb1 : (((ldN se (YP cs ac) : Nat) : Int) == 0) = (ldN se (YP cs ac) == 0) := by rw [Bool.eq_iff_iff, beq_iff_eq, beq_iff_eq]; omega
     have hb2 : (((mi &&& YF cs ac : Nat) : Int) == 0) = (mi &&& YF cs ac == 0) := by rw [Bool.eq_iff_iff, beq_iff_eq, beq_iff_eq]; omega
     generalize (ldN se (YP cs ac) == 0) = B1 at *
     generalize (mi &&& YF cs ac == 0) = B2 at *
     generalize ((ldN se (YP cs ac) : Nat) : Int) = z1 at *
     generalize ((mi &&& YF cs ac : Nat) : Int) = z2 at *
     generalize ((YP cs ac : Nat) : Int) = Av at *
     generalize ((YF cs ac : Nat) : Int) = Mv at *
     have lsl : Zb (.sl 16 0 0 true) = some 0 := rfl
     cases B1
     ·refine Zr ?_
      simp only [zT, zB, if_true, if_false, reduceIte, Nat.reduceEqDiff, Nat.succ_ne_zero, Nat.one_ne_zero, Nat.zero_ne_one]
      refine zS ?_
      refine zR (zO (by simp [zC h12, zC h29, zC h30, zC h31, zC h49, zC h50, zC h51, o12, -Zb, rU, -List.getElem?_map, -List.getElem_map, HH3, ↓HH4, e51, ↓oa, ↓ob, hb1, hb2, lsl]; rfl) ?_)
      simp only [zT, zB]
      refine zS ?_
      refine zR (zO (by simp [zC h12, zC h29, zC h30, zC h31, zC h49, zC h50, zC h51, o12, -Zb, rU, -List.getElem?_map, -List.getElem_map, HH3, ↓HH4, e51, ↓oa, ↓ob, hb1, hb2, lsl]; rfl) ?_)
      simp only [zT, zB]
      refine zS ?_
      refine zR (zO (by simp [zC h12, zC h29, zC h30, zC h31, zC h49, zC h50, zC h51, o12, -Zb, rU, -List.getElem?_map, -List.getElem_map, HH3, ↓HH4, e51, ↓oa, ↓ob, hb1, hb2, lsl]; rfl) ?_)
      simp only [zT, zB]
      refine Ze ?_
      simp [zC h12, zC h29, zC h30, zC h31, zC h49, zC h50, zC h51, o12, -Zb, rU, -List.getElem?_map, -List.getElem_map, HH3, ↓HH4, e51, ↓oa, ↓ob, hb1, hb2, lsl]
     ·cases B2
      ·refine Zr ?_
       simp only [zT, zB, if_true, if_false, reduceIte, Nat.reduceEqDiff, Nat.succ_ne_zero, Nat.one_ne_zero, Nat.zero_ne_one]
       refine zS ?_
       refine zR (zO (by simp [zC h12, zC h29, zC h30, zC h31, zC h49, zC h50, zC h51, o12, -Zb, rU, -List.getElem?_map, -List.getElem_map, HH3, ↓HH4, e51, ↓oa, ↓ob, hb1, hb2, lsl]; rfl) ?_)
       simp only [zT, zB]
       refine zS ?_
       refine zR (zO (by simp [zC h12, zC h29, zC h30, zC h31, zC h49, zC h50, zC h51, o12, -Zb, rU, -List.getElem?_map, -List.getElem_map, HH3, ↓HH4, e51, ↓oa, ↓ob, hb1, hb2, lsl]; rfl) ?_)
       simp only [zT, zB]
       refine zS ?_
       refine zR (zO (by simp [zC h12, zC h29, zC h30, zC h31, zC h49, zC h50, zC h51, o12, -Zb, rU, -List.getElem?_map, -List.getElem_map, HH3, ↓HH4, e51, ↓oa, ↓ob, hb1, hb2, lsl]; rfl) ?_)
       simp only [zT, zB]
       refine Ze ?_
       simp [zC h12, zC h29, zC h30, zC h31, zC h49, zC h50, zC h51, o12, -Zb, rU, -List.getElem?_map, -List.getElem_map, HH3, ↓HH4, e51, ↓oa, ↓ob, hb1, hb2, lsl]
      ·have hge : d = 0 := by have := hlst (by rw [← hexp]; rfl); rw [hacn] at this; simp at this; omega
       have HH15 := zA e51 (zA hb1 (zA hb2 (zA lsl hge)))
       refine Zr ?_
       simp only [zT, zB, if_true, if_false, reduceIte, Nat.reduceEqDiff, Nat.succ_ne_zero, Nat.one_ne_zero, Nat.zero_ne_one]
       refine zS ?_
       refine zR (zO (by simp [zC h12, zC h29, zC h30, zC h31, zC h49, zC h50, zC h51, o12, -Zb, rU, -List.getElem?_map, -List.getElem_map, HH3, ↓HH4, ↓oa, ↓ob, HH15]; rfl) ?_)
       simp only [zT, zB]
       refine zS ?_
       refine zR (zO (by simp [zC h12, zC h29, zC h30, zC h31, zC h49, zC h50, zC h51, o12, -Zb, rU, -List.getElem?_map, -List.getElem_map, HH3, ↓HH4, ↓oa, ↓ob, HH15]; rfl) ?_)
       simp only [zT, zB]
       refine zS ?_
       refine zR (zO (by simp [zC h12, zC h29, zC h30, zC h31, zC h49, zC h50, zC h51, o12, -Zb, rU, -List.getElem?_map, -List.getElem_map, HH3, ↓HH4, ↓oa, ↓ob, HH15]; rfl) ?_)
       simp only [zT, zB]
       refine Ze ?_
       simp [zC h12, zC h29, zC h30, zC h31, zC h49, zC h50, zC h51, o12, -Zb, rU, -List.getElem?_map, -List.getElem_map, HH3, ↓HH4, ↓oa, ↓ob, HH15]
   ·have hon := trueL_len k so
    have tk : (ac.map rN).take (pp + 1) = ac.map rN := List.take_of_length_le (by simp [hacl])
    have hlac : pp + 1 + 1 ≤ 1048576 := by rw [← hac, hacl] at hon; omega
    have hst1 : ((ac.map rN).all fun r => r.all ZD) = true := by simp [rN]
    have hr1 : ((ac.map rN).all fun r => r.length == 1) = true := by simp [rN]
    have hrj : ∀ n d, ((ac.map rN).all fun r => r.all (rb n (d + 1))) = true := by intro n d; simp [rN]
    have hfr := fun n h r => optAll_cat (rN_frN n h 4 ac) r
    have hfr0 := fun n h => rN_frN n h 4 ac
    have hfzz := fun H d => rN_frz H d ac
    have hie : ac.isEmpty = false := by cases ac with
     | nil => simp at hacl
     | cons y l => rfl
    have HH16 := zA hst1 (zA hr1 (zA hfr (zA hrj hfzz)))
    refine zS ?_
    refine zS ?_
    refine zR (zO (by simp [zC h12, zC h29, zC h30, zC h31, zC h49, zC h50, zC h51, o12, -Zb, rU, -List.getElem?_map, -List.getElem_map, HH3, ↓HH4, tk, hlac, hacl, hfr0, -List.all_map, ↓HH16]; rfl) ?_)
    simp only [zT, zB]
    refine Zf (x := decide (j < (cs.length : Int))) (by simp) (fun hlo => ?_) (fun hlo => ?_)
    ·have hlo := of_decide_eq_true hlo
     have hk0 : k < cs.length := by omega
     have hwj : W .i64 (j + 1) = j + 1 := Zz (by omega)
     have hwu : W .u64 j = (k : Int) := by rw [hj]; exact W_u (by omega)
     obtain ⟨y1, y2, hy1, hy2, hy3⟩ := u8_bit hso (show k < 8 by omega)
     have hts := trueL_succ k so
     generalize so.testBit k = tb at *
     have HH17 := zA tk (zA hlac (zA hacl (zA hfr0 (zA hwj (zA hwu hy3)))))
     refine zK ?_
     simp only [zT, zB]
     refine zS ?_
     refine zL ?_
     refine zS ?_
     refine zR (zO (by simp [zC h12, zC h29, zC h30, zC h31, zC h49, zC h50, zC h51, o12, -Zb, rU, -List.getElem?_map, -List.getElem_map, HH3, ↓HH4, -List.all_map, ↓HH16, ↓hy1, ↓hy2, HH17]; rfl) ?_)
     simp only [zT, zB]
     cases tb
     ·rw [if_neg (by simp), List.append_nil] at hts
      refine Zc (x := false) (by simp) ?_
      refine zK ?_
      simp only [zT, zB]
      refine zR (zO (by simp [zC h12, zC h29, zC h30, zC h31, zC h49, zC h50, zC h51, o12, -Zb, rU, -List.getElem?_map, -List.getElem_map, HH3, ↓HH4, -List.all_map, ↓HH16, ↓hy1, ↓hy2, HH17]; rfl) ?_)
      simp only [zT, zB]
      exact ⟨cs.length - (k + 1), _, _, by omega, by simp [zC h12, zC h29, zC h30, zC h31, zC h49, zC h50, zC h51, o12, -Zb, rU, -List.getElem?_map, -List.getElem_map, HH3, ↓HH4, -List.all_map, ↓HH16, ↓hy1, ↓hy2, HH17] <;> first | rfl | exact ⟨rfl, rfl⟩, k + 1, j + 1, by omega, rfl, by omega, .inr ⟨pp, ac, by rw [hts, ← hac], hacl, rfl⟩⟩
     ·rw [if_pos rfl] at hts
      have hri : rN k = [I j] := by rw [hj]; rfl
      refine Zc (x := true) (by simp) ?_
      refine zR (zO (by simp [zC h12, zC h29, zC h30, zC h31, zC h49, zC h50, zC h51, o12, -Zb, rU, -List.getElem?_map, -List.getElem_map, HH3, ↓HH4, -List.all_map, ↓HH16, ↓hy1, ↓hy2, HH17]; rfl) ?_)
      simp only [zT, zB]
      refine zR (zO (by simp [zC h12, zC h29, zC h30, zC h31, zC h49, zC h50, zC h51, o12, -Zb, rU, -List.getElem?_map, -List.getElem_map, HH3, ↓HH4, -List.all_map, ↓HH16, ↓hy1, ↓hy2, HH17]; rfl) ?_)
      simp only [zT, zB]
      exact ⟨cs.length - (k + 1), _, _, by omega, by simp [zC h12, zC h29, zC h30, zC h31, zC h49, zC h50, zC h51, o12, -Zb, rU, -List.getElem?_map, -List.getElem_map, HH3, ↓HH4, -List.all_map, ↓HH16, ↓hy1, ↓hy2, HH17] <;> first | rfl | exact ⟨rfl, rfl⟩, k + 1, j + 1, by omega, rfl, by omega, .inr ⟨pp + 1, ac ++ [k], by rw [hts, ← hac], by simp [hacl], by rw [List.map_append]; simp [hri]⟩⟩
    ·have hlo := of_decide_eq_false hlo
     obtain rfl : k = cs.length := by omega
     have hO1 := trueL_asc cs.length so
     have hO2 : ∀ i ∈ YT cs.length so, i < cs.length := fun i h => trueL_mem h
     rw [← hac] at hO1 hO2
     have hOr : Zt (.vl (ac.map rN) false) = some (ac.map rN) := rfl
     have hOl := Nat.le_trans (asc_len hO1 hO2) hn10
     have hOd := dNs_of hOr fun x hx => by have := hO2 x hx; omega
     have e51 := o51_eq hcc hOd hOl hO2 hn10 hO1
     have hexp := expl_eq (cs := cs) (l := ac) hsl hmil
     unfold explN at hexp
     rw [← ldN_zero (by omega) (by have := allL_lt hcsk ac; omega)] at hexp
     have hlst := fun h => hleast _ (List.getElem_mem hSp) ac hO1 hO2 h
     rw [hdd] at hlst
     have oa := not_i (a := se) (b := YP cs ac) (by omega)
     have ob := and_i (a := mi) (b := YF cs ac) (by omega) (by have := mustL_lt hcsk ac; omega)
     have hb1 : (((ldN se (YP cs ac) : Nat) : Int) == 0) = (ldN se (YP cs ac) == 0) := by rw [Bool.eq_iff_iff, beq_iff_eq, beq_iff_eq]; omega
     have hb2 : (((mi &&& YF cs ac : Nat) : Int) == 0) = (mi &&& YF cs ac == 0) := by rw [Bool.eq_iff_iff, beq_iff_eq, beq_iff_eq]; omega
     generalize (ldN se (YP cs ac) == 0) = B1 at *
     generalize (mi &&& YF cs ac == 0) = B2 at *
     generalize ((ldN se (YP cs ac) : Nat) : Int) = z1 at *
     generalize ((mi &&& YF cs ac : Nat) : Int) = z2 at *
     generalize ((YP cs ac : Nat) : Int) = Av at *
     generalize ((YF cs ac : Nat) : Int) = Mv at *
     have lsl : Zb (.sl 16 0 (pp + 1) false) = some (pp + 1) := rfl
     cases B1
     ·have HH18 := zA tk (zA hlac (zA hacl (zA hfr0 (zA e51 (zA hb1 (zA hb2 lsl))))))
      refine Zr ?_
      simp only [zT, zB, if_true, if_false, reduceIte, Nat.reduceEqDiff, Nat.succ_ne_zero, Nat.one_ne_zero, Nat.zero_ne_one]
      refine zS ?_
      refine zR (zO (by simp [zC h12, zC h29, zC h30, zC h31, zC h49, zC h50, zC h51, o12, -Zb, rU, -List.getElem?_map, -List.getElem_map, HH3, ↓HH4, -List.all_map, ↓HH16, ↓oa, ↓ob, HH18]; rfl) ?_)
      simp only [zT, zB]
      refine zS ?_
      refine zR (zO (by simp [zC h12, zC h29, zC h30, zC h31, zC h49, zC h50, zC h51, o12, -Zb, rU, -List.getElem?_map, -List.getElem_map, HH3, ↓HH4, -List.all_map, ↓HH16, ↓oa, ↓ob, HH18]; rfl) ?_)
      simp only [zT, zB]
      refine zS ?_
      refine zR (zO (by simp [zC h12, zC h29, zC h30, zC h31, zC h49, zC h50, zC h51, o12, -Zb, rU, -List.getElem?_map, -List.getElem_map, HH3, ↓HH4, -List.all_map, ↓HH16, ↓oa, ↓ob, HH18]; rfl) ?_)
      simp only [zT, zB]
      refine Ze ?_
      simp [zC h12, zC h29, zC h30, zC h31, zC h49, zC h50, zC h51, o12, -Zb, rU, -List.getElem?_map, -List.getElem_map, HH3, ↓HH4, -List.all_map, ↓HH16, ↓oa, ↓ob, HH18]
     ·cases B2
      ·have HH19 := zA tk (zA hlac (zA hacl (zA hfr0 (zA e51 (zA hb1 (zA hb2 lsl))))))
       refine Zr ?_
       simp only [zT, zB, if_true, if_false, reduceIte, Nat.reduceEqDiff, Nat.succ_ne_zero, Nat.one_ne_zero, Nat.zero_ne_one]
       refine zS ?_
       refine zR (zO (by simp [zC h12, zC h29, zC h30, zC h31, zC h49, zC h50, zC h51, o12, -Zb, rU, -List.getElem?_map, -List.getElem_map, HH3, ↓HH4, -List.all_map, ↓HH16, ↓oa, ↓ob, HH19]; rfl) ?_)
       simp only [zT, zB]
       refine zS ?_
       refine zR (zO (by simp [zC h12, zC h29, zC h30, zC h31, zC h49, zC h50, zC h51, o12, -Zb, rU, -List.getElem?_map, -List.getElem_map, HH3, ↓HH4, -List.all_map, ↓HH16, ↓oa, ↓ob, HH19]; rfl) ?_)
       simp only [zT, zB]
       refine zS ?_
       refine zR (zO (by simp [zC h12, zC h29, zC h30, zC h31, zC h49, zC h50, zC h51, o12, -Zb, rU, -List.getElem?_map, -List.getElem_map, HH3, ↓HH4, -List.all_map, ↓HH16, ↓oa, ↓ob, HH19]; rfl) ?_)
       simp only [zT, zB]
       refine Ze ?_
       simp [zC h12, zC h29, zC h30, zC h31, zC h49, zC h50, zC h51, o12, -Zb, rU, -List.getElem?_map, -List.getElem_map, HH3, ↓HH4, -List.all_map, ↓HH16, ↓oa, ↓ob, HH19]
      ·have hge : (d : Int) ≤ (pp : Int) + 1 := by have := hlst (by rw [← hexp]; rfl); omega
       have HH20 := zA tk (zA hlac (zA hacl (zA hfr0 (zA e51 (zA hb1 (zA hb2 (zA lsl hge)))))))
       refine Zr ?_
       simp only [zT, zB, if_true, if_false, reduceIte, Nat.reduceEqDiff, Nat.succ_ne_zero, Nat.one_ne_zero, Nat.zero_ne_one]
       refine zS ?_
       refine zR (zO (by simp [zC h12, zC h29, zC h30, zC h31, zC h49, zC h50, zC h51, o12, -Zb, rU, -List.getElem?_map, -List.getElem_map, HH3, ↓HH4, -List.all_map, ↓HH16, ↓oa, ↓ob, HH20]; rfl) ?_)
       simp only [zT, zB]
       refine zS ?_
       refine zR (zO (by simp [zC h12, zC h29, zC h30, zC h31, zC h49, zC h50, zC h51, o12, -Zb, rU, -List.getElem?_map, -List.getElem_map, HH3, ↓HH4, -List.all_map, ↓HH16, ↓oa, ↓ob, HH20]; rfl) ?_)
       simp only [zT, zB]
       refine zS ?_
       refine zR (zO (by simp [zC h12, zC h29, zC h30, zC h31, zC h49, zC h50, zC h51, o12, -Zb, rU, -List.getElem?_map, -List.getElem_map, HH3, ↓HH4, -List.all_map, ↓HH16, ↓oa, ↓ob, HH20]; rfl) ?_)
       simp only [zT, zB]
       refine Ze ?_
       simp [zC h12, zC h29, zC h30, zC h31, zC h49, zC h50, zC h51, o12, -Zb, rU, -List.getElem?_map, -List.getElem_map, HH3, ↓HH4, -List.all_map, ↓HH16, ↓oa, ↓ob, HH20]
theorem law10 (xc : Za) (rs : List R4) (hx : Zt xc = some (rs.map r4)) (hb : ∀ v ∈ rs, R4Ok v) (t l0 l1 so : Nat) (ht : t < 256) (hl0 : l0 < 65536) (hl1 : l1 < 65536) (hso : so < 256) : Zo Tryd.prog DT0 10 [.agg [xc, .int .u8 (t : Nat)], .agg [.int .u16 (l0 : Nat), .int .u16 (l1 : Nat)], .int .u8 (so : Nat)] [] fun v h => v = .bool true :=
  a10 Tryd.prog DT0 rfl rfl rfl rfl rfl rfl rfl rfl xc rs hx hb t l0 l1 so ht hl0 hl1 hso
end
end
end Go.Proofs.YtpebmjeomlgmdaaDoor.Tab
