/- The law of the next look. No condition. -/
import Derived.Test.YtpebmjeomlgmdaaDoorPzEDy
set_option linter.unusedSimpArgs false
set_option linter.unusedVariables false
namespace Go.Proofs.YtpebmjeomlgmdaaDoor.Tab
open Go Go.Abs Go.Proofs
set_option maxRecDepth 100000
set_option maxHeartbeats 4000000
set_option linter.unusedSimpArgs false
set_option linter.unusedVariables false
section
attribute [local simp] Yp ZZ Xi Xj Yu Yt Xk YE YO Yj Zd XX Xd YD Xf Xb YC Yi XR XT YZ YB YA Yz Xe Xa Xc XS XU slE XF YV ZX Zy Xo List.range_succ List.range_zero List.range'_succ List.range'_zero ZN ZL Zq ZQ ZA ZE YX ZS dop CV.ev Ya Zm Zv YL XP Yk ZK Zu Zl Out.v Xq List.replicate_succ zT zB arI Zw Abs.rowAt Xm allV toV toC ofV ofC Builtin.min_ Builtin.min2 Builtin.max_ Builtin.max2 Xg Xh XW XQ Xn ZM Yf Yg Ye Zb
section
attribute [local simp] ZO ZB YH Yw XI YY disj YJ XO YK ZI YM news eqB YW eqA Yx YS YQ ofCs stA Yh ZC Yl dI1 dI2 dI3 dI5 elt
attribute [local simp] st_any XZ st_agg st_tup Xw st_int Xt st_ref st_pv Xs st_sl st_vl Xu st_mp st_fn Xv XY co_any co_und co_agg co_tup XC co_int Xz co_ref co_pv Xy co_sl co_vl XA co_mp co_fn XB co_yld
attribute [local simp] Ym Zj lim lop Yo rbB_none rbB_row
theorem lookK_spec {cnt : Nat → Nat} {skip : Nat → Bool} {tot : Nat} : ∀ k, (∀ i < k, skip i = false → (lookK cnt skip tot k).2 ≤ cnt i) ∧ ((lookK cnt skip tot k).2 < tot → (lookK cnt skip tot k).1 < k ∧ skip (lookK cnt skip tot k).1 = false ∧ cnt (lookK cnt skip tot k).1 = (lookK cnt skip tot k).2)
  | 0 => ⟨fun i h => absurd h (by omega), fun h => by simp [lookK] at h⟩
  | k + 1 => by
    obtain ⟨h1, h2⟩ := lookK_spec (cnt := cnt) (skip := skip) (tot := tot) k
    simp only [lookK]
    cases hs : skip k with
    | true =>
      rw [if_pos rfl]
      exact ⟨fun i hi h => by
        by_cases e : i = k
        · rw [e, hs] at h; simp at h
        · exact h1 i (by omega) h, fun h => ⟨by have := (h2 h).1; omega, (h2 h).2⟩⟩
    | false =>
      rw [if_neg (by simp)]
      split
      · rename_i hl
        simp only
        exact ⟨fun i hi h => by
          by_cases e : i = k
          · rw [e]; exact Nat.le_refl _
          · have := h1 i (by omega) h; omega, fun _ => ⟨by omega, hs, trivial⟩⟩
      · rename_i hl
        exact ⟨fun i hi h => by
          by_cases e : i = k
          · rw [e]; omega
          · exact h1 i (by omega) h, fun h => ⟨by have := (h2 h).1; omega, (h2 h).2⟩⟩
theorem expl_seen {cs : Cs} {l : List Nat} {se mi s : Nat} (hs : s < 12) : explR cs l (se ||| 2 ^ s) mi = (explR cs l se mi && (YP cs l).testBit s) := by
  rw [← mayR_eq, explR_fB, explR_fB, Bool.eq_iff_iff]
  simp only [Bool.and_eq_true, List.all_eq_true, List.mem_range]
  constructor
  · intro h
    refine ⟨fun i hi => ?_, ?_⟩
    · have := h i hi
      unfold fB at this ⊢
      rw [Nat.testBit_or] at this
      revert this
      cases se.testBit i <;> cases mayR cs l i <;> cases mi.testBit i <;> cases mB cs l i <;> simp
    · have := h s hs
      unfold fB at this
      rw [Nat.testBit_or, Nat.testBit_two_pow] at this
      revert this
      cases mayR cs l s <;> simp
  · rintro ⟨h, h2⟩ i hi
    have := h i hi
    unfold fB at this ⊢
    rw [Nat.testBit_or, Nat.testBit_two_pow]
    by_cases e : s = i
    · subst e
      rw [h2] at this ⊢
      revert this
      cases mi.testBit s <;> cases mB cs l s <;> simp
    · simp only [e, decide_false, Bool.or_false]; exact this
theorem expl_miss {cs : Cs} {l : List Nat} {se mi s : Nat} (hs : s < 12) : explR cs l se (mi ||| 2 ^ s) = (explR cs l se mi && !(YF cs l).testBit s) := by
  rw [mustL_bit, show (l.any fun i => (cM cs i).testBit s) = mB cs l s from rfl, explR_fB, explR_fB, Bool.eq_iff_iff]
  simp only [Bool.and_eq_true, List.all_eq_true, List.mem_range]
  constructor
  · intro h
    refine ⟨fun i hi => ?_, ?_⟩
    · have := h i hi
      unfold fB at this ⊢
      rw [Nat.testBit_or] at this
      revert this
      cases se.testBit i <;> cases mayR cs l i <;> cases mi.testBit i <;> cases mB cs l i <;> simp
    · have := h s hs
      unfold fB at this
      rw [Nat.testBit_or, Nat.testBit_two_pow] at this
      revert this
      cases mB cs l s <;> simp
  · rintro ⟨h, h2⟩ i hi
    have := h i hi
    unfold fB at this ⊢
    rw [Nat.testBit_or, Nat.testBit_two_pow]
    by_cases e : s = i
    · subst e
      have h3 : mB cs l s = false := by simpa using h2
      rw [h3] at this ⊢
      revert this
      cases se.testBit s <;> cases mayR cs l s <;> simp
    · simp only [e, decide_false, Bool.or_false]; exact this
theorem bit_zeroI (a k : Nat) : (((a >>> k &&& 1 : Nat) : Int) == 0) = !a.testBit k := by
  rw [← bit_oneI]
  have : a >>> k &&& 1 ≤ 1 := Nat.and_le_right
  generalize a >>> k &&& 1 = n at *
  rcases (show n = 0 ∨ n = 1 by omega) with rfl | rfl <;> rfl
theorem rem12 {n : Nat} (h : n < 256) : arI .rem .i64 (n : Int) 12 = some (.int .i64 ((n % 12 : Nat) : Int)) := by
  have e : (n : Int).tmod 12 = ((n % 12 : Nat) : Int) := by rw [Int.tmod_eq_emod_of_nonneg (by omega)]; norm_cast
  show (if (12 : Int) = 0 then none else some (Za.int .i64 ((n : Int).tmod 12))) = _
  rw [if_neg (by decide), e]
theorem a11 (P : Program) (T : Nat → Option CFn) (hT : T 11 = some c11) (h12 : T 12 = some { c12 with frsh := true, orc := o12 }) (h29 : T 29 = some { c29 with frsh := false, orc := o29 }) (h30 : T 30 = some { c30 with body := annK [(58720320, [.slot 6])] [] c30.body, frsh := false, orc := o30 }) (h36 : T 36 = some { c36 with frsh := false, orc := o36 }) (h50 : T 50 = some { c50 with body := annK [(1986, [.slot 6])] [] c50.body, frsh := false, orc := o50 }) (h51 : T 51 = some { c51 with frsh := true, orc := o51 }) (xc : Za) (rs : List R4) (hx : Zt xc = some (rs.map r4)) (hb : ∀ v ∈ rs, R4Ok v) (t l0 l1 so : Nat) (ht : t < 256) (hl0 : l0 < 65536) (hl1 : l1 < 65536) (hso : so < 256) : Zo P T 11 [.agg [xc, .int .u8 (t : Nat)], .agg [.int .u16 (l0 : Nat), .int .u16 (l1 : Nat)], .int .u8 (so : Nat)] [] fun v h => v = .bool true := by
 have hbx := ZY hx
 have hcsk := toldC_ok rs
 have hcsl := toldC_len rs
 have e50 := o50_eq hx hb ht
 generalize toldC rs = cs at *
 unfold toldV at e50
 have hT1 := trueL_asc cs.length t
 have hT2 : ∀ i ∈ YT cs.length t, i < cs.length := fun i h => trueL_mem h
 have hTl := trueL_len cs.length t
 generalize YT cs.length t = T0 at *
 have hml := mustL_lt hcsk T0
 have hal := allL_lt hcsk T0
 have hfl := foundB_lt hcsk T0 l1
 have hsl := seenB_lt hcsk T0 l0 l1
 have hmil := missB_lt (cs := cs) T0 l0 l1
 have hsm := seen_miss hcsk T0 l0 l1
 have htx := true_expl hcsk T0 l0 l1
 have w1 : W .i64 (l1 : Int) = l1 := W_i (by omega)
 have w0 : W .i64 (l0 : Int) = l0 := W_i (by omega)
 have o1 := and_i (a := YP cs T0) (b := l1) (by omega) (by omega)
 have hal2 : YP cs T0 &&& l1 < 4096 := Nat.lt_of_le_of_lt Nat.and_le_left hal
 have o2 := or_i (a := YF cs T0) (b := YP cs T0 &&& l1) (by omega) (by omega)
 have o3 := and_i (a := foundB cs T0 l1) (b := l0) (by omega) (by omega)
 have o4 : arI .and .i64 (l0 : Int) 4095 = some (.int .i64 ((l0 &&& 4095 : Nat) : Int)) := and_i (b := 4095) (by omega) (by omega)
 have o5 := not_i (a := l0 &&& 4095) (b := foundB cs T0 l1) (by have := miss_small l0; omega)
 rw [show YF cs T0 ||| (YP cs T0 &&& l1) = foundB cs T0 l1 from rfl] at o2
 rw [show foundB cs T0 l1 &&& l0 = seenB cs T0 l0 l1 from rfl] at o3
 rw [show ldN (l0 &&& 4095) (foundB cs T0 l1) = missB cs T0 l0 l1 from rfl] at o5
 generalize seenB cs T0 l0 l1 = se at *
 generalize missB cs T0 l0 l1 = mi at *
 generalize foundB cs T0 l1 = fo at *
 generalize YP cs T0 &&& l1 = al1 at *
 generalize l0 &&& 4095 = l0m at *
 have hlaw := law_least hcsk hsl hmil hsm hT1 hT2 htx
 have hTi := toI_len cs
 have hc : Zt (.vl (cs.map rC) cs.isEmpty) = some ((toI cs).map rQ) := by rw [toI_rq]; rfl
 have hc2 : Zt (.vl (cs.map rC) cs.isEmpty) = some (cs.map rC) := rfl
 have hcc : Xx (.vl (cs.map rC) cs.isEmpty) = some cs := dCauses_of hc2 hcsk.2
 have hcself : Za.vl (cs.map rC) cs.isEmpty = .vl ((toI cs).map rQ) (toI cs).isEmpty := by rw [toI_rq]; congr 1; cases cs <;> rfl
 have e29 := o29_self hc (by have := hcsk.1; omega) hcself
 have e30 := o30_eq hc (by have := hcsk.1; omega) (se : Int) (mi : Int)
 have hn10 := hcsk.1
 have lc := ZV hc2
 rw [List.length_map] at lc
 have rc := fun n d => ZY hc2 n d
 have fc := fun H d => ZG hc2 H d
 obtain ⟨cc1, cc2⟩ := ZH hc2
 generalize Za.vl (cs.map rC) cs.isEmpty = c at *
 generalize hmuv : ((YF cs T0 : Nat) : Int) = muv at *
 generalize halv : ((YP cs T0 : Nat) : Int) = alv at *
 generalize ((al1 : Nat) : Int) = al1v at *
 generalize ((fo : Nat) : Int) = fov at *
 generalize ((l0m : Nat) : Int) = l0v at *
 refine Zi hT (Zk rfl) ?_
 simp only [oo, om, op, og, ci, cl, c11]
 have e36 := o36_eq hc (by omega) (se : Int) (mi : Int)
 rw [expl_law] at e30
 rw [look_law2, toI_cs] at e36
 simp only [Int.toNat_natCast] at e36
 generalize (lawL (toI cs) se mi).1 = E at *
 generalize (lawL (toI cs) se mi).2 = S at *
 unfold lookV at e36
 rcases hlaw with h8 | ⟨h0, hlo⟩
 ·rw [h8] at e30 e36
  rw [if_neg (by decide)] at e30 e36
  have HH1 := zA h12 (zA h29 (zA h30 (zA h36 (zA h50 (zA h51 (zA hbx (zA e50 (zA w1 (zA w0 (zA e29 (zA lc (zA rc (zA fc (zA cc1 (zA cc2 (zA e30 e36))))))))))))))))
  have HH2 := zA o1 (zA o2 (zA o3 (zA o4 o5)))
  refine zS ?_
  refine zR (zO (by simp [zC h12, zC h29, zC h30, zC h36, zC h50, zC h51, o12, -Zb, HH1, ↓HH2]; rfl) ?_)
  simp only [zT, zB]
  refine zS ?_
  refine zR (zO (by simp [zC h12, zC h29, zC h30, zC h36, zC h50, zC h51, o12, -Zb, HH1, ↓HH2]; rfl) ?_)
  simp only [zT, zB]
  refine zS ?_
  refine zR (zO (by simp [zC h12, zC h29, zC h30, zC h36, zC h50, zC h51, o12, -Zb, HH1, ↓HH2]; rfl) ?_)
  simp only [zT, zB]
  refine zS ?_
  refine ZU (by simp (maxSteps := 3000000) [zC h12, zC h29, zC h30, zC h36, zC h50, zC h51, o12, -Zb, HH1, ↓HH2]; rfl) ?_
  simp only [zT, zB]
  refine zS ?_
  refine zR (zO (by simp [zC h12, zC h29, zC h30, zC h36, zC h50, zC h51, o12, -Zb, HH1, ↓HH2]; rfl) ?_)
  simp only [zT, zB]
  refine zS ?_
  refine zR (zO (by simp [zC h12, zC h29, zC h30, zC h36, zC h50, zC h51, o12, -Zb, HH1, ↓HH2]; rfl) ?_)
  simp only [zT, zB]
  refine zS ?_
  refine zS ?_
  refine zR (zO (by simp [zC h12, zC h29, zC h30, zC h36, zC h50, zC h51, o12, -Zb, HH1, ↓HH2]; rfl) ?_)
  simp only [zT, zB]
  refine Zc (x := true) (by simp) ?_
  refine zS ?_
  refine zR (zO (by simp [zC h12, zC h29, zC h30, zC h36, zC h50, zC h51, o12, -Zb, HH1, ↓HH2]; rfl) ?_)
  simp only [zT, zB]
  refine Ze ?_
  simp [zC h12, zC h29, zC h30, zC h36, zC h50, zC h51, o12, -Zb, HH1, ↓HH2]
 ·rw [h0] at e30 e36
  rw [if_pos rfl] at e30 e36
  obtain ⟨hne, hSl, hasc, hmem, hleast⟩ := hlo
  have hSp : 0 < S.length := List.length_pos_iff.2 hne
  have hX := Esets_rows S
  have lX := ZV hX
  rw [List.length_map] at lX
  have rX := fun n d => ZY hX n d
  have fX := fun H d => ZG hX H d
  obtain ⟨cX1, cX2⟩ := ZH hX
  have hm1 : ∀ s ∈ S, s.length ≤ 10 ∧ ∀ x ∈ s, x < cs.length := fun s hs => ⟨Nat.le_trans (asc_len (hmem s hs).1 (hmem s hs).2.1) hn10, (hmem s hs).2.1⟩
  have hsp := lookK_spec (cnt := cntR cs S se mi) (skip := fun k => (se ||| mi).testBit k) (tot := S.length) 12
  have hle := lookK_lt (cnt := cntR cs S se mi) (skip := fun k => (se ||| mi).testBit k) (tot := S.length) 12
  rw [show lookK (cntR cs S se mi) (fun k => (se ||| mi).testBit k) S.length 12 = lookRR cs S se mi 12 from rfl] at hsp hle
  obtain ⟨hs1, hs2⟩ := hsp
  have hor := or_i (a := se) (b := mi) (by omega) (by omega)
  have hol : se ||| mi < 4096 := Nat.or_lt_two_pow (n := 12) hsl hmil
  generalize lookRR cs S se mi 12 = L at *
  obtain ⟨L1, L2⟩ := L
  simp only at hs1 hs2 hle e36
  have hz0 : ¬ (L2 : Int) < 0 := by omega
  have hrem := rem12 hso
  have hwso : W .i64 (so : Int) = so := W_i (by omega)
  have hs12 : so % 12 < 12 := Nat.mod_lt _ (by decide)
  have hw01 : W .i64 1 = 1 := rfl
  have hw02 : W .i64 2 = 2 := rfl
  by_cases hL : L2 < S.length
  ·rw [if_pos hL] at e36
   obtain ⟨hl12, hsk, hsc⟩ := hs2 hL
   have hsk' := hsk
   have hwu1 : W .u64 (L1 : Int) = (L1 : Int) := W_u (by omega)
   have hz1 : ¬ (L1 : Int) < 0 := by omega
   have hz2 : ¬ 11 < (L1 : Int) := by omega
   have hz3 : ¬ (S.length : Int) ≤ (L2 : Int) := by omega
   have shs : shI .shr .i64 (((se ||| mi) : Nat) : Int) ((L1 : Nat) : Int) = some (.int .i64 (((se ||| mi) >>> L1 : Nat) : Int)) := shr_u (by omega) .i64 rfl
   have ans : arI .and .i64 (((se ||| mi) >>> L1 : Nat) : Int) 1 = some (.int .i64 (((se ||| mi) >>> L1 &&& 1 : Nat) : Int)) := and_i (a := (se ||| mi) >>> L1) (b := 1) (Nat.lt_of_le_of_lt (Nat.shiftRight_le (se ||| mi) L1) (by omega)) (by omega)
   have bts := bit_oneI (se ||| mi) L1
   generalize (((se ||| mi) >>> L1 &&& 1 : Nat) : Int) = ys at *
   generalize (((se ||| mi) >>> L1 : Nat) : Int) = zs at *
   rw [hsk] at bts
   have HH3 := zA h12 (zA h29 (zA h30 (zA h36 (zA h50 (zA h51 (zA hbx (zA e50 (zA w1 (zA w0 (zA e29 (zA lc (zA rc (zA fc (zA cc1 (zA cc2 (zA e30 (zA e36 (zA lX (zA rX (zA fX (zA cX1 (zA cX2 (zA hz0 (zA hw01 (zA hw02 (zA hwso (zA hwu1 (zA hz1 (zA hz2 (zA hz3 bts))))))))))))))))))))))))))))))
   have HH4 := zA o1 (zA o2 (zA o3 (zA o4 (zA o5 (zA hor (zA hrem (zA shs ans)))))))
   refine zS ?_
   refine zR (zO (by simp [zC h12, zC h29, zC h30, zC h36, zC h50, zC h51, o12, -Zb, -List.getElem?_map, -List.getElem_map, HH3, ↓HH4]; rfl) ?_)
   simp only [zT, zB]
   refine zS ?_
   refine zR (zO (by simp [zC h12, zC h29, zC h30, zC h36, zC h50, zC h51, o12, -Zb, -List.getElem?_map, -List.getElem_map, HH3, ↓HH4]; rfl) ?_)
   simp only [zT, zB]
   refine zS ?_
   refine zR (zO (by simp [zC h12, zC h29, zC h30, zC h36, zC h50, zC h51, o12, -Zb, -List.getElem?_map, -List.getElem_map, HH3, ↓HH4]; rfl) ?_)
   simp only [zT, zB]
   refine zS ?_
   refine ZU (by simp (maxSteps := 3000000) [zC h12, zC h29, zC h30, zC h36, zC h50, zC h51, o12, -Zb, -List.getElem?_map, -List.getElem_map, HH3, ↓HH4]; rfl) ?_
   simp only [zT, zB]
   refine zS ?_
   refine zR (zO (by simp [zC h12, zC h29, zC h30, zC h36, zC h50, zC h51, o12, -Zb, -List.getElem?_map, -List.getElem_map, HH3, ↓HH4]; rfl) ?_)
   simp only [zT, zB]
   refine zS ?_
   refine zR (zO (by simp [zC h12, zC h29, zC h30, zC h36, zC h50, zC h51, o12, -Zb, -List.getElem?_map, -List.getElem_map, HH3, ↓HH4]; rfl) ?_)
   simp only [zT, zB]
   refine zS ?_
   refine zS ?_
   refine zR (zO (by simp [zC h12, zC h29, zC h30, zC h36, zC h50, zC h51, o12, -Zb, -List.getElem?_map, -List.getElem_map, HH3, ↓HH4]; rfl) ?_)
   simp only [zT, zB]
   refine Zc (x := false) (by simp) ?_
   refine zK ?_
   simp only [zT, zB]
   refine zS ?_
   refine zS ?_
   refine zR (zO (by simp [zC h12, zC h29, zC h30, zC h36, zC h50, zC h51, o12, -Zb, -List.getElem?_map, -List.getElem_map, HH3, ↓HH4]; rfl) ?_)
   simp only [zT, zB]
   refine Zc (x := false) (by simp) ?_
   refine zK ?_
   simp only [zT, zB]
   refine zS ?_
   refine zS ?_
   refine zR (zO (by simp [zC h12, zC h29, zC h30, zC h36, zC h50, zC h51, o12, -Zb, -List.getElem?_map, -List.getElem_map, HH3, ↓HH4]; rfl) ?_)
   simp only [zT, zB]
   refine Zc (x := false) (by simp) ?_
   refine zK ?_
   simp only [zT, zB]
   refine zS ?_
   refine zS ?_
   refine zR (zO (by simp [zC h12, zC h29, zC h30, zC h36, zC h50, zC h51, o12, -Zb, -List.getElem?_map, -List.getElem_map, HH3, ↓HH4]; rfl) ?_)
   simp only [zT, zB]
   refine zL ?_
   refine Zs (fun m σ => ∃ (q : Nat) (Q : Int), Q = q ∧ 2 - q = m ∧ q ≤ 2 ∧ σ = ⟨[.any, .any, .int .u8 (so : Nat), .any, .any, .any, .any, c, .any, .any, .any, .any, I (se : Nat), I (mi : Nat), .vl (S.map fun s => [Ys s]) false, .any, I (L1 : Nat), I (L2 : Nat), I 0, I Q, .any, .any, .any, .any, .any, .any, .any, .any, .any, .any, .any, .any, .any, .any, .any, .any, .any, .any, .any, .any, .any, .any, .any, .any, .any, .any, .any, .any, .any, .any, .any, .any, .any, .any, .any, .any, .any, .any, .any, .any, .any, .any, .any, .any, .any, .any, .any, .any, .any, .any, .any, .any, .any, .any, .any, .any, .any, .any, .any, .any, .any, .any, .any, .any, .any, .any, .any, .any, .any, .any, .any, .any, .any, .any, .any, .any, .any, .any, .any, .any, .any, .any, .any, .any, .any, .any, .any, .any, .any, .any, .any, .any, .any, .any, .any, .any, .any, .any, .any, .any, .any, .any, .any, .any, .any, .any, .any, .any, .any, .any, .any, .any, .any, .any, .any, .any, .any, .any, .any, .any, .any, .any, .any, .any, .any, .any, .any, .any, .any, .any, .any, .any, .any, .any, .any, .any, .any, .any, .any, .any, .any, .any, .any, .any, .any, .any, .any, .any, .any, .any, .any, .any, .any, .any, .any, .any, .any, .any, .any, .any, .any, .any, .any, .any, .any, .any, .any, .any, .any, .any, .any, .any, .any, .any, .any, .any, .any, .any, .any, .any, .any, .any, .any, .any, .any, .any, .any, .any, .any, .any, .any, .any, .any, .any, .any, .any, .any], [some (.row 2 [[xc, .int .u8 (t : Nat)]]), some (.row 2 [[.int .u16 (l0 : Nat), .int .u16 (l1 : Nat)]]), none, none, none, none, none, none, none, none, none, none, none, none, none]⟩) ?_ 2 _ ⟨0, 0, rfl, rfl, by omega, by simp⟩
   rintro m σ ⟨q, Q, hQ, rfl, hq2, rfl⟩
   rcases (show q = 0 ∨ q = 1 ∨ q = 2 by omega) with rfl | rfl | rfl
   ·obtain rfl : Q = 0 := by omega
    refine zS ?_
    refine zS ?_
    refine zR (zO (by simp [zC h12, zC h29, zC h30, zC h36, zC h50, zC h51, o12, -Zb, -List.getElem?_map, -List.getElem_map, HH3, ↓HH4]; rfl) ?_)
    simp only [zT, zB]
    refine Zc (x := true) (by simp) ?_
    refine zK ?_
    simp only [zT, zB]
    refine zS ?_
    refine zL ?_
    refine zS ?_
    refine zR (zO (by simp [zC h12, zC h29, zC h30, zC h36, zC h50, zC h51, o12, -Zb, -List.getElem?_map, -List.getElem_map, HH3, ↓HH4]; rfl) ?_)
    simp only [zT, zB]
    refine zS ?_
    refine zS ?_
    refine zR (zO (by simp [zC h12, zC h29, zC h30, zC h36, zC h50, zC h51, o12, -Zb, -List.getElem?_map, -List.getElem_map, HH3, ↓HH4]; rfl) ?_)
    simp only [zT, zB]
    refine Zc (x := false) (by simp) ?_
    refine zK ?_
    simp only [zT, zB]
    refine zS ?_
    refine zR (zO (by simp [zC h12, zC h29, zC h30, zC h36, zC h50, zC h51, o12, -Zb, -List.getElem?_map, -List.getElem_map, HH3, ↓HH4]; rfl) ?_)
    simp only [zT, zB]
    refine zS ?_
    refine zS ?_
    refine zR (zO (by simp [zC h12, zC h29, zC h30, zC h36, zC h50, zC h51, o12, -Zb, -List.getElem?_map, -List.getElem_map, HH3, ↓HH4]; rfl) ?_)
    simp only [zT, zB]
    refine zL ?_
    refine Zs (fun n σ => ∃ (j : Nat) (J C D : Int), J = j ∧ S.length - j = n ∧ j ≤ S.length ∧ C = (leftR cs (S.take j) (se ||| 2 ^ L1) mi : Nat) ∧ D = (leftR cs (S.take j) se (mi ||| 2 ^ L1) : Nat) ∧ σ = ⟨[.any, .any, .int .u8 (so : Nat), .any, .any, .any, .any, c, .any, .any, .any, .any, I (se : Nat), I (mi : Nat), .vl (S.map fun s => [Ys s]) false, .any, I (L1 : Nat), I (L2 : Nat), I 0, I 0, I (L1 : Nat), I C, I D, I J, .any, .any, .any, .any, .any, .any, .any, .any, .any, .any, .any, .any, .any, .any, .any, .any, .any, .any, .any, .any, .any, .any, .any, .any, .any, .any, .any, .any, .any, .any, .any, .any, .any, .any, .any, .any, .any, .any, .any, .any, .any, .any, .any, .any, .any, .any, .any, .any, .any, .any, .any, .any, .any, .any, .any, .any, .any, .any, .any, .any, .any, .any, .any, .any, .any, .any, .any, .any, .any, .any, .any, .any, .any, .any, .any, .any, .any, .any, .any, .any, .any, .any, .any, .any, .any, .any, .any, .any, .any, .any, .any, .any, .any, .any, .any, .any, .any, .any, .any, .any, .any, .any, .any, .any, .any, .any, .any, .any, .any, .any, .any, .any, .any, .any, .any, .any, .any, .any, .any, .any, .any, .any, .any, .any, .any, .any, .any, .any, .any, .any, .any, .any, .any, .any, .any, .any, .any, .any, .any, .any, .any, .any, .any, .any, .any, .any, .any, .any, .any, .any, .any, .any, .any, .any, .any, .any, .any, .any, .any, .any, .any, .any, .any, .any, .any, .any, .any, .any, .any, .any, .any, .any, .any, .any, .any, .any, .any, .any, .any, .any, .any, .any, .any, .any, .any, .any, .any, .any, .any, .any, .any, .any, .any], [some (.row 2 [[xc, .int .u8 (t : Nat)]]), some (.row 2 [[.int .u16 (l0 : Nat), .int .u16 (l1 : Nat)]]), none, none, none, none, none, none, none, none, none, none, none, none, none]⟩) ?_ (S.length - 0) _ ⟨0, 0, 0, 0, rfl, rfl, Nat.zero_le _, rfl, rfl, by simp⟩
    rintro n σ ⟨j, J, C, D, hJ, rfl, hjl, hCi, hDi, rfl⟩
    refine zS ?_
    refine zS ?_
    refine zR (zO (by simp [zC h12, zC h29, zC h30, zC h36, zC h50, zC h51, o12, -Zb, -List.getElem?_map, -List.getElem_map, HH3, ↓HH4]; rfl) ?_)
    simp only [zT, zB]
    refine Zf (x := decide (J < (S.length : Int))) (by simp) (fun hlj => ?_) (fun hlj => ?_)
    ·have hlj := of_decide_eq_true hlj
     have hj0 : j < S.length := by omega
     have hJ0 : 0 ≤ J := by omega
     have htJ : J.toNat = j := by omega
     have hwJ : W .i64 (J + 1) = J + 1 := Zz (by omega)
     have g1 : (S.map fun s => [Ys s])[j]? = some [Ys S[j]] := by rw [List.getElem?_map, List.getElem?_eq_getElem hj0]; rfl
     have g2 : ∀ h, (S.map fun s => [Ys s])[j]'h = [Ys S[j]] := fun h => by simp
     have hmk := hmem _ (List.getElem_mem hj0)
     have hm1k := hm1 _ (List.getElem_mem hj0)
     have hC := leftR_succ (cs := cs) (a := se ||| 2 ^ L1) (b := mi) hj0
     have hD := leftR_succ (cs := cs) (a := se) (b := mi ||| 2 ^ L1) hj0
     rw [expl_seen (by omega), hmk.2.2, Bool.true_and] at hC
     rw [expl_miss (by omega), hmk.2.2, Bool.true_and] at hD
     have hCl := leftR_len' cs S (se ||| 2 ^ L1) mi j
     have hDl := leftR_len' cs S se (mi ||| 2 ^ L1) j
     have hwC : W .i64 (C + 1) = C + 1 := Zz (by omega)
     have hwD : W .i64 (D + 1) = D + 1 := Zz (by omega)
     generalize S[j] = s at *
     have hsN := Yq s
     have hsd : dNs (Ys s) = some s := dNs_of hsN fun x hx => by have := hm1k.2 x hx; omega
     have e51 := o51_eq hcc hsd hm1k.1 hm1k.2 hn10 hmk.1
     have hal3 := allL_lt hcsk s
     have hml3 := mustL_lt hcsk s
     generalize YP cs s = Av at *
     generalize YF cs s = Mv at *
     have shu : shI .shr .i64 ((Av : Nat) : Int) ((L1 : Nat) : Int) = some (.int .i64 ((Av >>> L1 : Nat) : Int)) := shr_u (by omega) .i64 rfl
     have anu : arI .and .i64 ((Av >>> L1 : Nat) : Int) 1 = some (.int .i64 ((Av >>> L1 &&& 1 : Nat) : Int)) := and_i (a := Av >>> L1) (b := 1) (Nat.lt_of_le_of_lt (Nat.shiftRight_le Av L1) (by omega)) (by omega)
     have btu := bit_oneI Av L1
     generalize ((Av >>> L1 &&& 1 : Nat) : Int) = yu at *
     generalize ((Av >>> L1 : Nat) : Int) = zu at *
     have shv : shI .shr .i64 ((Mv : Nat) : Int) ((L1 : Nat) : Int) = some (.int .i64 ((Mv >>> L1 : Nat) : Int)) := shr_u (by omega) .i64 rfl
     have anv : arI .and .i64 ((Mv >>> L1 : Nat) : Int) 1 = some (.int .i64 ((Mv >>> L1 &&& 1 : Nat) : Int)) := and_i (a := Mv >>> L1) (b := 1) (Nat.lt_of_le_of_lt (Nat.shiftRight_le Mv L1) (by omega)) (by omega)
     have btv := bit_zeroI Mv L1
     generalize ((Mv >>> L1 &&& 1 : Nat) : Int) = yv at *
     generalize ((Mv >>> L1 : Nat) : Int) = zv at *
     generalize Av.testBit L1 = b1 at *
     generalize Mv.testBit L1 = b2 at *
     have rs_ := fun n d => ZY hsN n d
     have fs := fun H d => ZG hsN H d
     obtain ⟨cs1, cs2⟩ := ZH hsN
     generalize Ys s = vs at *
     cases b1 <;> cases b2
     ·rw [if_neg (by simp)] at hC
      rw [Bool.not_false, if_pos rfl] at hD
      have HH5 := zA hJ0 (zA htJ (zA hj0 (zA hwJ (zA hwC (zA hwD (zA g1 (zA g2 (zA e51 (zA btu (zA btv (zA rs_ (zA fs (zA cs1 cs2)))))))))))))
      refine zK ?_
      simp only [zT, zB]
      refine zS ?_
      refine zL ?_
      refine zS ?_
      refine zR (zO (by simp [zC h12, zC h29, zC h30, zC h36, zC h50, zC h51, o12, -Zb, -List.getElem?_map, -List.getElem_map, HH3, ↓HH4, ↓shu, ↓anu, ↓shv, ↓anv, HH5]; rfl) ?_)
      simp only [zT, zB]
      refine zS ?_
      refine zS ?_
      refine zR (zO (by simp [zC h12, zC h29, zC h30, zC h36, zC h50, zC h51, o12, -Zb, -List.getElem?_map, -List.getElem_map, HH3, ↓HH4, ↓shu, ↓anu, ↓shv, ↓anv, HH5]; rfl) ?_)
      simp only [zT, zB]
      refine Zc (x := false) (by simp) ?_
      refine zK ?_
      simp only [zT, zB]
      refine zS ?_
      refine zS ?_
      refine zR (zO (by simp [zC h12, zC h29, zC h30, zC h36, zC h50, zC h51, o12, -Zb, -List.getElem?_map, -List.getElem_map, HH3, ↓HH4, ↓shu, ↓anu, ↓shv, ↓anv, HH5]; rfl) ?_)
      simp only [zT, zB]
      refine Zc (x := false) (by simp) ?_
      refine zK ?_
      simp only [zT, zB]
      refine zS ?_
      refine zR (zO (by simp [zC h12, zC h29, zC h30, zC h36, zC h50, zC h51, o12, -Zb, -List.getElem?_map, -List.getElem_map, HH3, ↓HH4, ↓shu, ↓anu, ↓shv, ↓anv, HH5]; rfl) ?_)
      simp only [zT, zB]
      refine Zc (x := true) (by simp) ?_
      refine zR (zO (by simp [zC h12, zC h29, zC h30, zC h36, zC h50, zC h51, o12, -Zb, -List.getElem?_map, -List.getElem_map, HH3, ↓HH4, ↓shu, ↓anu, ↓shv, ↓anv, HH5]; rfl) ?_)
      simp only [zT, zB]
      refine zR (zO (by simp [zC h12, zC h29, zC h30, zC h36, zC h50, zC h51, o12, -Zb, -List.getElem?_map, -List.getElem_map, HH3, ↓HH4, ↓shu, ↓anu, ↓shv, ↓anv, HH5]; rfl) ?_)
      simp only [zT, zB]
      exact ⟨S.length - (j + 1), by omega, j + 1, J + 1, C, D + 1, by omega, rfl, by omega, by omega, by omega, by simp [zC h12, zC h29, zC h30, zC h36, zC h50, zC h51, o12, -Zb, -List.getElem?_map, -List.getElem_map, HH3, ↓HH4, ↓shu, ↓anu, ↓shv, ↓anv, HH5, trim]⟩
     ·rw [if_neg (by simp)] at hC
      rw [Bool.not_true, if_neg (by simp)] at hD
      have HH6 := zA hJ0 (zA htJ (zA hj0 (zA hwJ (zA hwC (zA hwD (zA g1 (zA g2 (zA e51 (zA btu (zA btv (zA rs_ (zA fs (zA cs1 cs2)))))))))))))
      refine zK ?_
      simp only [zT, zB]
      refine zS ?_
      refine zL ?_
      refine zS ?_
      refine zR (zO (by simp [zC h12, zC h29, zC h30, zC h36, zC h50, zC h51, o12, -Zb, -List.getElem?_map, -List.getElem_map, HH3, ↓HH4, ↓shu, ↓anu, ↓shv, ↓anv, HH6]; rfl) ?_)
      simp only [zT, zB]
      refine zS ?_
      refine zS ?_
      refine zR (zO (by simp [zC h12, zC h29, zC h30, zC h36, zC h50, zC h51, o12, -Zb, -List.getElem?_map, -List.getElem_map, HH3, ↓HH4, ↓shu, ↓anu, ↓shv, ↓anv, HH6]; rfl) ?_)
      simp only [zT, zB]
      refine Zc (x := false) (by simp) ?_
      refine zK ?_
      simp only [zT, zB]
      refine zS ?_
      refine zS ?_
      refine zR (zO (by simp [zC h12, zC h29, zC h30, zC h36, zC h50, zC h51, o12, -Zb, -List.getElem?_map, -List.getElem_map, HH3, ↓HH4, ↓shu, ↓anu, ↓shv, ↓anv, HH6]; rfl) ?_)
      simp only [zT, zB]
      refine Zc (x := false) (by simp) ?_
      refine zK ?_
      simp only [zT, zB]
      refine zS ?_
      refine zR (zO (by simp [zC h12, zC h29, zC h30, zC h36, zC h50, zC h51, o12, -Zb, -List.getElem?_map, -List.getElem_map, HH3, ↓HH4, ↓shu, ↓anu, ↓shv, ↓anv, HH6]; rfl) ?_)
      simp only [zT, zB]
      refine Zc (x := false) (by simp) ?_
      refine zK ?_
      simp only [zT, zB]
      refine zR (zO (by simp [zC h12, zC h29, zC h30, zC h36, zC h50, zC h51, o12, -Zb, -List.getElem?_map, -List.getElem_map, HH3, ↓HH4, ↓shu, ↓anu, ↓shv, ↓anv, HH6]; rfl) ?_)
      simp only [zT, zB]
      exact ⟨S.length - (j + 1), by omega, j + 1, J + 1, C, D, by omega, rfl, by omega, by omega, by omega, by simp [zC h12, zC h29, zC h30, zC h36, zC h50, zC h51, o12, -Zb, -List.getElem?_map, -List.getElem_map, HH3, ↓HH4, ↓shu, ↓anu, ↓shv, ↓anv, HH6, trim]⟩
     ·rw [if_pos rfl] at hC
      rw [Bool.not_false, if_pos rfl] at hD
      have HH7 := zA hJ0 (zA htJ (zA hj0 (zA hwJ (zA hwC (zA hwD (zA g1 (zA g2 (zA e51 (zA btu (zA btv (zA rs_ (zA fs (zA cs1 cs2)))))))))))))
      refine zK ?_
      simp only [zT, zB]
      refine zS ?_
      refine zL ?_
      refine zS ?_
      refine zR (zO (by simp [zC h12, zC h29, zC h30, zC h36, zC h50, zC h51, o12, -Zb, -List.getElem?_map, -List.getElem_map, HH3, ↓HH4, ↓shu, ↓anu, ↓shv, ↓anv, HH7]; rfl) ?_)
      simp only [zT, zB]
      refine zS ?_
      refine zS ?_
      refine zR (zO (by simp [zC h12, zC h29, zC h30, zC h36, zC h50, zC h51, o12, -Zb, -List.getElem?_map, -List.getElem_map, HH3, ↓HH4, ↓shu, ↓anu, ↓shv, ↓anv, HH7]; rfl) ?_)
      simp only [zT, zB]
      refine Zc (x := false) (by simp) ?_
      refine zK ?_
      simp only [zT, zB]
      refine zS ?_
      refine zS ?_
      refine zR (zO (by simp [zC h12, zC h29, zC h30, zC h36, zC h50, zC h51, o12, -Zb, -List.getElem?_map, -List.getElem_map, HH3, ↓HH4, ↓shu, ↓anu, ↓shv, ↓anv, HH7]; rfl) ?_)
      simp only [zT, zB]
      refine Zc (x := true) (by simp) ?_
      refine zR (zO (by simp [zC h12, zC h29, zC h30, zC h36, zC h50, zC h51, o12, -Zb, -List.getElem?_map, -List.getElem_map, HH3, ↓HH4, ↓shu, ↓anu, ↓shv, ↓anv, HH7]; rfl) ?_)
      simp only [zT, zB]
      refine zS ?_
      refine zR (zO (by simp [zC h12, zC h29, zC h30, zC h36, zC h50, zC h51, o12, -Zb, -List.getElem?_map, -List.getElem_map, HH3, ↓HH4, ↓shu, ↓anu, ↓shv, ↓anv, HH7]; rfl) ?_)
      simp only [zT, zB]
      refine Zc (x := true) (by simp) ?_
      refine zR (zO (by simp [zC h12, zC h29, zC h30, zC h36, zC h50, zC h51, o12, -Zb, -List.getElem?_map, -List.getElem_map, HH3, ↓HH4, ↓shu, ↓anu, ↓shv, ↓anv, HH7]; rfl) ?_)
      simp only [zT, zB]
      refine zR (zO (by simp [zC h12, zC h29, zC h30, zC h36, zC h50, zC h51, o12, -Zb, -List.getElem?_map, -List.getElem_map, HH3, ↓HH4, ↓shu, ↓anu, ↓shv, ↓anv, HH7]; rfl) ?_)
      simp only [zT, zB]
      exact ⟨S.length - (j + 1), by omega, j + 1, J + 1, C + 1, D + 1, by omega, rfl, by omega, by omega, by omega, by simp [zC h12, zC h29, zC h30, zC h36, zC h50, zC h51, o12, -Zb, -List.getElem?_map, -List.getElem_map, HH3, ↓HH4, ↓shu, ↓anu, ↓shv, ↓anv, HH7, trim]⟩
     ·rw [if_pos rfl] at hC
      rw [Bool.not_true, if_neg (by simp)] at hD
      have HH8 := zA hJ0 (zA htJ (zA hj0 (zA hwJ (zA hwC (zA hwD (zA g1 (zA g2 (zA e51 (zA btu (zA btv (zA rs_ (zA fs (zA cs1 cs2)))))))))))))
      refine zK ?_
      simp only [zT, zB]
      refine zS ?_
      refine zL ?_
      refine zS ?_
      refine zR (zO (by simp [zC h12, zC h29, zC h30, zC h36, zC h50, zC h51, o12, -Zb, -List.getElem?_map, -List.getElem_map, HH3, ↓HH4, ↓shu, ↓anu, ↓shv, ↓anv, HH8]; rfl) ?_)
      simp only [zT, zB]
      refine zS ?_
      refine zS ?_
      refine zR (zO (by simp [zC h12, zC h29, zC h30, zC h36, zC h50, zC h51, o12, -Zb, -List.getElem?_map, -List.getElem_map, HH3, ↓HH4, ↓shu, ↓anu, ↓shv, ↓anv, HH8]; rfl) ?_)
      simp only [zT, zB]
      refine Zc (x := false) (by simp) ?_
      refine zK ?_
      simp only [zT, zB]
      refine zS ?_
      refine zS ?_
      refine zR (zO (by simp [zC h12, zC h29, zC h30, zC h36, zC h50, zC h51, o12, -Zb, -List.getElem?_map, -List.getElem_map, HH3, ↓HH4, ↓shu, ↓anu, ↓shv, ↓anv, HH8]; rfl) ?_)
      simp only [zT, zB]
      refine Zc (x := true) (by simp) ?_
      refine zR (zO (by simp [zC h12, zC h29, zC h30, zC h36, zC h50, zC h51, o12, -Zb, -List.getElem?_map, -List.getElem_map, HH3, ↓HH4, ↓shu, ↓anu, ↓shv, ↓anv, HH8]; rfl) ?_)
      simp only [zT, zB]
      refine zS ?_
      refine zR (zO (by simp [zC h12, zC h29, zC h30, zC h36, zC h50, zC h51, o12, -Zb, -List.getElem?_map, -List.getElem_map, HH3, ↓HH4, ↓shu, ↓anu, ↓shv, ↓anv, HH8]; rfl) ?_)
      simp only [zT, zB]
      refine Zc (x := false) (by simp) ?_
      refine zK ?_
      simp only [zT, zB]
      refine zR (zO (by simp [zC h12, zC h29, zC h30, zC h36, zC h50, zC h51, o12, -Zb, -List.getElem?_map, -List.getElem_map, HH3, ↓HH4, ↓shu, ↓anu, ↓shv, ↓anv, HH8]; rfl) ?_)
      simp only [zT, zB]
      exact ⟨S.length - (j + 1), by omega, j + 1, J + 1, C + 1, D, by omega, rfl, by omega, by omega, by omega, by simp [zC h12, zC h29, zC h30, zC h36, zC h50, zC h51, o12, -Zb, -List.getElem?_map, -List.getElem_map, HH3, ↓HH4, ↓shu, ↓anu, ↓shv, ↓anv, HH8, trim]⟩
    ·have hlj := of_decide_eq_false hlj
     obtain rfl : j = S.length := by omega
     rw [List.take_length] at hCi hDi
     have hcn : max C D = ((cntR cs S se mi L1 : Nat) : Int) := by unfold cntR; omega
     have hmx : max C D = (L2 : Int) := by rw [hcn, hsc]
     refine Zr ?_
     simp only [zT, zB, if_true, if_false, reduceIte, Nat.reduceEqDiff, Nat.succ_ne_zero, Nat.one_ne_zero, Nat.zero_ne_one]
     refine zS ?_
     refine zR (zO (by simp [zC h12, zC h29, zC h30, zC h36, zC h50, zC h51, o12, -Zb, -List.getElem?_map, -List.getElem_map, HH3, ↓HH4, hmx]; rfl) ?_)
     simp only [zT, zB]
     refine zS ?_
     refine zR (zO (by simp [zC h12, zC h29, zC h30, zC h36, zC h50, zC h51, o12, -Zb, -List.getElem?_map, -List.getElem_map, HH3, ↓HH4, hmx]; rfl) ?_)
     simp only [zT, zB]
     refine Zc (x := false) (by simp) ?_
     refine zK ?_
     simp only [zT, zB]
     refine zR (zO (by simp [zC h12, zC h29, zC h30, zC h36, zC h50, zC h51, o12, -Zb, -List.getElem?_map, -List.getElem_map, HH3, ↓HH4, hmx]; rfl) ?_)
     simp only [zT, zB]
     exact ⟨1, by omega, 1, 1, rfl, rfl, by omega, by simp [zC h12, zC h29, zC h30, zC h36, zC h50, zC h51, o12, -Zb, -List.getElem?_map, -List.getElem_map, HH3, ↓HH4, hmx, trim]⟩
   ·obtain rfl : Q = 1 := by omega
    have hs1x := hs1 (so % 12) hs12
    generalize so % 12 = s0 at *
    have hwu : W .u64 (s0 : Int) = (s0 : Int) := W_u (by omega)
    have shw : shI .shr .i64 (((se ||| mi) : Nat) : Int) ((s0 : Nat) : Int) = some (.int .i64 (((se ||| mi) >>> s0 : Nat) : Int)) := shr_u (by omega) .i64 rfl
    have anw : arI .and .i64 (((se ||| mi) >>> s0 : Nat) : Int) 1 = some (.int .i64 (((se ||| mi) >>> s0 &&& 1 : Nat) : Int)) := and_i (a := (se ||| mi) >>> s0) (b := 1) (Nat.lt_of_le_of_lt (Nat.shiftRight_le (se ||| mi) s0) (by omega)) (by omega)
    have btw := bit_oneI (se ||| mi) s0
    generalize (((se ||| mi) >>> s0 &&& 1 : Nat) : Int) = yw at *
    generalize (((se ||| mi) >>> s0 : Nat) : Int) = zw at *
    generalize ((se ||| mi : Nat) : Int) = ov at *
    generalize (se ||| mi).testBit s0 = tb at *
    refine zS ?_
    refine zS ?_
    refine zR (zO (by simp [zC h12, zC h29, zC h30, zC h36, zC h50, zC h51, o12, -Zb, -List.getElem?_map, -List.getElem_map, HH3, ↓HH4, hwu, ↓shw, ↓anw, btw]; rfl) ?_)
    simp only [zT, zB]
    refine Zc (x := true) (by simp) ?_
    refine zK ?_
    simp only [zT, zB]
    refine zS ?_
    refine zL ?_
    refine zS ?_
    refine zR (zO (by simp [zC h12, zC h29, zC h30, zC h36, zC h50, zC h51, o12, -Zb, -List.getElem?_map, -List.getElem_map, HH3, ↓HH4, hwu, ↓shw, ↓anw, btw]; rfl) ?_)
    simp only [zT, zB]
    refine zS ?_
    refine zS ?_
    refine zR (zO (by simp [zC h12, zC h29, zC h30, zC h36, zC h50, zC h51, o12, -Zb, -List.getElem?_map, -List.getElem_map, HH3, ↓HH4, hwu, ↓shw, ↓anw, btw]; rfl) ?_)
    simp only [zT, zB]
    cases tb
    ·have hs1x := hs1x rfl
     refine Zc (x := false) (by simp) ?_
     refine zK ?_
     simp only [zT, zB]
     refine zS ?_
     refine zR (zO (by simp [zC h12, zC h29, zC h30, zC h36, zC h50, zC h51, o12, -Zb, -List.getElem?_map, -List.getElem_map, HH3, ↓HH4, hwu, ↓shw, ↓anw, btw]; rfl) ?_)
     simp only [zT, zB]
     refine zS ?_
     refine zS ?_
     refine zR (zO (by simp [zC h12, zC h29, zC h30, zC h36, zC h50, zC h51, o12, -Zb, -List.getElem?_map, -List.getElem_map, HH3, ↓HH4, hwu, ↓shw, ↓anw, btw]; rfl) ?_)
     simp only [zT, zB]
     refine zL ?_
     refine Zs (fun n σ => ∃ (j : Nat) (J C D : Int), J = j ∧ S.length - j = n ∧ j ≤ S.length ∧ C = (leftR cs (S.take j) (se ||| 2 ^ s0) mi : Nat) ∧ D = (leftR cs (S.take j) se (mi ||| 2 ^ s0) : Nat) ∧ σ = ⟨[.any, .any, .int .u8 (so : Nat), .any, .any, .any, .any, c, .any, .any, .any, .any, I (se : Nat), I (mi : Nat), .vl (S.map fun s => [Ys s]) false, .any, I (L1 : Nat), I (L2 : Nat), I 0, I 1, I (s0 : Nat), I C, I D, I J, .any, .any, .any, .any, .any, .any, .any, .any, .any, .any, .any, .any, .any, .any, .any, .any, .any, .any, .any, .any, .any, .any, .any, .any, .any, .any, .any, .any, .any, .any, .any, .any, .any, .any, .any, .any, .any, .any, .any, .any, .any, .any, .any, .any, .any, .any, .any, .any, .any, .any, .any, .any, .any, .any, .any, .any, .any, .any, .any, .any, .any, .any, .any, .any, .any, .any, .any, .any, .any, .any, .any, .any, .any, .any, .any, .any, .any, .any, .any, .any, .any, .any, .any, .any, .any, .any, .any, .any, .any, .any, .any, .any, .any, .any, .any, .any, .any, .any, .any, .any, .any, .any, .any, .any, .any, .any, .any, .any, .any, .any, .any, .any, .any, .any, .any, .any, .any, .any, .any, .any, .any, .any, .any, .any, .any, .any, .any, .any, .any, .any, .any, .any, .any, .any, .any, .any, .any, .any, .any, .any, .any, .any, .any, .any, .any, .any, .any, .any, .any, .any, .any, .any, .any, .any, .any, .any, .any, .any, .any, .any, .any, .any, .any, .any, .any, .any, .any, .any, .any, .any, .any, .any, .any, .any, .any, .any, .any, .any, .any, .any, .any, .any, .any, .any, .any, .any, .any, .any, .any, .any, .any, .any, .any], [some (.row 2 [[xc, .int .u8 (t : Nat)]]), some (.row 2 [[.int .u16 (l0 : Nat), .int .u16 (l1 : Nat)]]), none, none, none, none, none, none, none, none, none, none, none, none, none]⟩) ?_ (S.length - 0) _ ⟨0, 0, 0, 0, rfl, rfl, Nat.zero_le _, rfl, rfl, by simp⟩
     rintro n σ ⟨j, J, C, D, hJ, rfl, hjl, hCi, hDi, rfl⟩
     refine zS ?_
     refine zS ?_
     refine zR (zO (by simp [zC h12, zC h29, zC h30, zC h36, zC h50, zC h51, o12, -Zb, -List.getElem?_map, -List.getElem_map, HH3, ↓HH4, hwu, ↓shw, ↓anw, btw]; rfl) ?_)
     simp only [zT, zB]
     refine Zf (x := decide (J < (S.length : Int))) (by simp) (fun hlj => ?_) (fun hlj => ?_)
     ·have hlj := of_decide_eq_true hlj
      have hj0 : j < S.length := by omega
      have hJ0 : 0 ≤ J := by omega
      have htJ : J.toNat = j := by omega
      have hwJ : W .i64 (J + 1) = J + 1 := Zz (by omega)
      have g1 : (S.map fun s => [Ys s])[j]? = some [Ys S[j]] := by rw [List.getElem?_map, List.getElem?_eq_getElem hj0]; rfl
      have g2 : ∀ h, (S.map fun s => [Ys s])[j]'h = [Ys S[j]] := fun h => by simp
      have hmk := hmem _ (List.getElem_mem hj0)
      have hm1k := hm1 _ (List.getElem_mem hj0)
      have hC := leftR_succ (cs := cs) (a := se ||| 2 ^ s0) (b := mi) hj0
      have hD := leftR_succ (cs := cs) (a := se) (b := mi ||| 2 ^ s0) hj0
      rw [expl_seen (by omega), hmk.2.2, Bool.true_and] at hC
      rw [expl_miss (by omega), hmk.2.2, Bool.true_and] at hD
      have hCl := leftR_len' cs S (se ||| 2 ^ s0) mi j
      have hDl := leftR_len' cs S se (mi ||| 2 ^ s0) j
      have hwC : W .i64 (C + 1) = C + 1 := Zz (by omega)
      have hwD : W .i64 (D + 1) = D + 1 := Zz (by omega)
      generalize S[j] = s at *
      have hsN := Yq s
      have hsd : dNs (Ys s) = some s := dNs_of hsN fun x hx => by have := hm1k.2 x hx; omega
      have e51 := o51_eq hcc hsd hm1k.1 hm1k.2 hn10 hmk.1
      have hal3 := allL_lt hcsk s
      have hml3 := mustL_lt hcsk s
      generalize YP cs s = Av at *
      generalize YF cs s = Mv at *
      have shu : shI .shr .i64 ((Av : Nat) : Int) ((s0 : Nat) : Int) = some (.int .i64 ((Av >>> s0 : Nat) : Int)) := shr_u (by omega) .i64 rfl
      have anu : arI .and .i64 ((Av >>> s0 : Nat) : Int) 1 = some (.int .i64 ((Av >>> s0 &&& 1 : Nat) : Int)) := and_i (a := Av >>> s0) (b := 1) (Nat.lt_of_le_of_lt (Nat.shiftRight_le Av s0) (by omega)) (by omega)
      have btu := bit_oneI Av s0
      generalize ((Av >>> s0 &&& 1 : Nat) : Int) = yu at *
      generalize ((Av >>> s0 : Nat) : Int) = zu at *
      have shv : shI .shr .i64 ((Mv : Nat) : Int) ((s0 : Nat) : Int) = some (.int .i64 ((Mv >>> s0 : Nat) : Int)) := shr_u (by omega) .i64 rfl
      have anv : arI .and .i64 ((Mv >>> s0 : Nat) : Int) 1 = some (.int .i64 ((Mv >>> s0 &&& 1 : Nat) : Int)) := and_i (a := Mv >>> s0) (b := 1) (Nat.lt_of_le_of_lt (Nat.shiftRight_le Mv s0) (by omega)) (by omega)
      have btv := bit_zeroI Mv s0
      generalize ((Mv >>> s0 &&& 1 : Nat) : Int) = yv at *
      generalize ((Mv >>> s0 : Nat) : Int) = zv at *
      generalize Av.testBit s0 = b1 at *
      generalize Mv.testBit s0 = b2 at *
      have rs_ := fun n d => ZY hsN n d
      have fs := fun H d => ZG hsN H d
      obtain ⟨cs1, cs2⟩ := ZH hsN
      generalize Ys s = vs at *
      cases b1 <;> cases b2
      ·rw [if_neg (by simp)] at hC
       rw [Bool.not_false, if_pos rfl] at hD
       have HH9 := zA hwu (zA btw (zA hJ0 (zA htJ (zA hj0 (zA hwJ (zA hwC (zA hwD (zA g1 (zA g2 (zA e51 (zA btu (zA btv (zA rs_ (zA fs (zA cs1 cs2)))))))))))))))
       have HH10 := zA shw (zA anw (zA shu (zA anu (zA shv anv))))
       refine zK ?_
       simp only [zT, zB]
       refine zS ?_
       refine zL ?_
       refine zS ?_
       refine zR (zO (by simp [zC h12, zC h29, zC h30, zC h36, zC h50, zC h51, o12, -Zb, -List.getElem?_map, -List.getElem_map, HH3, ↓HH4, HH9, ↓HH10]; rfl) ?_)
       simp only [zT, zB]
       refine zS ?_
       refine zS ?_
       refine zR (zO (by simp [zC h12, zC h29, zC h30, zC h36, zC h50, zC h51, o12, -Zb, -List.getElem?_map, -List.getElem_map, HH3, ↓HH4, HH9, ↓HH10]; rfl) ?_)
       simp only [zT, zB]
       refine Zc (x := false) (by simp) ?_
       refine zK ?_
       simp only [zT, zB]
       refine zS ?_
       refine zS ?_
       refine zR (zO (by simp [zC h12, zC h29, zC h30, zC h36, zC h50, zC h51, o12, -Zb, -List.getElem?_map, -List.getElem_map, HH3, ↓HH4, HH9, ↓HH10]; rfl) ?_)
       simp only [zT, zB]
       refine Zc (x := false) (by simp) ?_
       refine zK ?_
       simp only [zT, zB]
       refine zS ?_
       refine zR (zO (by simp [zC h12, zC h29, zC h30, zC h36, zC h50, zC h51, o12, -Zb, -List.getElem?_map, -List.getElem_map, HH3, ↓HH4, HH9, ↓HH10]; rfl) ?_)
       simp only [zT, zB]
       refine Zc (x := true) (by simp) ?_
       refine zR (zO (by simp [zC h12, zC h29, zC h30, zC h36, zC h50, zC h51, o12, -Zb, -List.getElem?_map, -List.getElem_map, HH3, ↓HH4, HH9, ↓HH10]; rfl) ?_)
       simp only [zT, zB]
       refine zR (zO (by simp [zC h12, zC h29, zC h30, zC h36, zC h50, zC h51, o12, -Zb, -List.getElem?_map, -List.getElem_map, HH3, ↓HH4, HH9, ↓HH10]; rfl) ?_)
       simp only [zT, zB]
       exact ⟨S.length - (j + 1), by omega, j + 1, J + 1, C, D + 1, by omega, rfl, by omega, by omega, by omega, by simp [zC h12, zC h29, zC h30, zC h36, zC h50, zC h51, o12, -Zb, -List.getElem?_map, -List.getElem_map, HH3, ↓HH4, HH9, ↓HH10, trim]⟩
      ·rw [if_neg (by simp)] at hC
       rw [Bool.not_true, if_neg (by simp)] at hD
       have HH11 := zA hwu (zA btw (zA hJ0 (zA htJ (zA hj0 (zA hwJ (zA hwC (zA hwD (zA g1 (zA g2 (zA e51 (zA btu (zA btv (zA rs_ (zA fs (zA cs1 cs2)))))))))))))))
       have HH12 := zA shw (zA anw (zA shu (zA anu (zA shv anv))))
       refine zK ?_
       simp only [zT, zB]
       refine zS ?_
       refine zL ?_
       refine zS ?_
       refine zR (zO (by simp [zC h12, zC h29, zC h30, zC h36, zC h50, zC h51, o12, -Zb, -List.getElem?_map, -List.getElem_map, HH3, ↓HH4, HH11, ↓HH12]; rfl) ?_)
       simp only [zT, zB]
       refine zS ?_
       refine zS ?_
       refine zR (zO (by simp [zC h12, zC h29, zC h30, zC h36, zC h50, zC h51, o12, -Zb, -List.getElem?_map, -List.getElem_map, HH3, ↓HH4, HH11, ↓HH12]; rfl) ?_)
       simp only [zT, zB]
       refine Zc (x := false) (by simp) ?_
       refine zK ?_
       simp only [zT, zB]
       refine zS ?_
       refine zS ?_
       refine zR (zO (by simp [zC h12, zC h29, zC h30, zC h36, zC h50, zC h51, o12, -Zb, -List.getElem?_map, -List.getElem_map, HH3, ↓HH4, HH11, ↓HH12]; rfl) ?_)
       simp only [zT, zB]
       refine Zc (x := false) (by simp) ?_
       refine zK ?_
       simp only [zT, zB]
       refine zS ?_
       refine zR (zO (by simp [zC h12, zC h29, zC h30, zC h36, zC h50, zC h51, o12, -Zb, -List.getElem?_map, -List.getElem_map, HH3, ↓HH4, HH11, ↓HH12]; rfl) ?_)
       simp only [zT, zB]
       refine Zc (x := false) (by simp) ?_
       refine zK ?_
       simp only [zT, zB]
       refine zR (zO (by simp [zC h12, zC h29, zC h30, zC h36, zC h50, zC h51, o12, -Zb, -List.getElem?_map, -List.getElem_map, HH3, ↓HH4, HH11, ↓HH12]; rfl) ?_)
       simp only [zT, zB]
       exact ⟨S.length - (j + 1), by omega, j + 1, J + 1, C, D, by omega, rfl, by omega, by omega, by omega, by simp [zC h12, zC h29, zC h30, zC h36, zC h50, zC h51, o12, -Zb, -List.getElem?_map, -List.getElem_map, HH3, ↓HH4, HH11, ↓HH12, trim]⟩
      ·rw [if_pos rfl] at hC
       rw [Bool.not_false, if_pos rfl] at hD
       have HH13 := zA hwu (zA btw (zA hJ0 (zA htJ (zA hj0 (zA hwJ (zA hwC (zA hwD (zA g1 (zA g2 (zA e51 (zA btu (zA btv (zA rs_ (zA fs (zA cs1 cs2)))))))))))))))
       have HH14 := zA shw (zA anw (zA shu (zA anu (zA shv anv))))
       refine zK ?_
       simp only [zT, zB]
       refine zS ?_
       refine zL ?_
       refine zS ?_
       refine zR (zO (by simp [zC h12, zC h29, zC h30, zC h36, zC h50, zC h51, o12, -Zb, -List.getElem?_map, -List.getElem_map, HH3, ↓HH4, HH13, ↓HH14]; rfl) ?_)
       simp only [zT, zB]
       refine zS ?_
       refine zS ?_
       refine zR (zO (by simp [zC h12, zC h29, zC h30, zC h36, zC h50, zC h51, o12, -Zb, -List.getElem?_map, -List.getElem_map, HH3, ↓HH4, HH13, ↓HH14]; rfl) ?_)
       simp only [zT, zB]
       refine Zc (x := false) (by simp) ?_
       refine zK ?_
       simp only [zT, zB]
       refine zS ?_
       refine zS ?_
       refine zR (zO (by simp [zC h12, zC h29, zC h30, zC h36, zC h50, zC h51, o12, -Zb, -List.getElem?_map, -List.getElem_map, HH3, ↓HH4, HH13, ↓HH14]; rfl) ?_)
       simp only [zT, zB]
       refine Zc (x := true) (by simp) ?_
       refine zR (zO (by simp [zC h12, zC h29, zC h30, zC h36, zC h50, zC h51, o12, -Zb, -List.getElem?_map, -List.getElem_map, HH3, ↓HH4, HH13, ↓HH14]; rfl) ?_)
       simp only [zT, zB]
       refine zS ?_
       refine zR (zO (by simp [zC h12, zC h29, zC h30, zC h36, zC h50, zC h51, o12, -Zb, -List.getElem?_map, -List.getElem_map, HH3, ↓HH4, HH13, ↓HH14]; rfl) ?_)
       simp only [zT, zB]
       refine Zc (x := true) (by simp) ?_
       refine zR (zO (by simp [zC h12, zC h29, zC h30, zC h36, zC h50, zC h51, o12, -Zb, -List.getElem?_map, -List.getElem_map, HH3, ↓HH4, HH13, ↓HH14]; rfl) ?_)
       simp only [zT, zB]
       refine zR (zO (by simp [zC h12, zC h29, zC h30, zC h36, zC h50, zC h51, o12, -Zb, -List.getElem?_map, -List.getElem_map, HH3, ↓HH4, HH13, ↓HH14]; rfl) ?_)
       simp only [zT, zB]
       exact ⟨S.length - (j + 1), by omega, j + 1, J + 1, C + 1, D + 1, by omega, rfl, by omega, by omega, by omega, by simp [zC h12, zC h29, zC h30, zC h36, zC h50, zC h51, o12, -Zb, -List.getElem?_map, -List.getElem_map, HH3, ↓HH4, HH13, ↓HH14, trim]⟩
      ·rw [if_pos rfl] at hC
       rw [Bool.not_true, if_neg (by simp)] at hD
       have HH15 := zA hwu (zA btw (zA hJ0 (zA htJ (zA hj0 (zA hwJ (zA hwC (zA hwD (zA g1 (zA g2 (zA e51 (zA btu (zA btv (zA rs_ (zA fs (zA cs1 cs2)))))))))))))))
       have HH16 := zA shw (zA anw (zA shu (zA anu (zA shv anv))))
       refine zK ?_
       simp only [zT, zB]
       refine zS ?_
       refine zL ?_
       refine zS ?_
       refine zR (zO (by simp [zC h12, zC h29, zC h30, zC h36, zC h50, zC h51, o12, -Zb, -List.getElem?_map, -List.getElem_map, HH3, ↓HH4, HH15, ↓HH16]; rfl) ?_)
       simp only [zT, zB]
       refine zS ?_
       refine zS ?_
       refine zR (zO (by simp [zC h12, zC h29, zC h30, zC h36, zC h50, zC h51, o12, -Zb, -List.getElem?_map, -List.getElem_map, HH3, ↓HH4, HH15, ↓HH16]; rfl) ?_)
       simp only [zT, zB]
       refine Zc (x := false) (by simp) ?_
       refine zK ?_
       simp only [zT, zB]
       refine zS ?_
       refine zS ?_
       refine zR (zO (by simp [zC h12, zC h29, zC h30, zC h36, zC h50, zC h51, o12, -Zb, -List.getElem?_map, -List.getElem_map, HH3, ↓HH4, HH15, ↓HH16]; rfl) ?_)
       simp only [zT, zB]
       refine Zc (x := true) (by simp) ?_
       refine zR (zO (by simp [zC h12, zC h29, zC h30, zC h36, zC h50, zC h51, o12, -Zb, -List.getElem?_map, -List.getElem_map, HH3, ↓HH4, HH15, ↓HH16]; rfl) ?_)
       simp only [zT, zB]
       refine zS ?_
       refine zR (zO (by simp [zC h12, zC h29, zC h30, zC h36, zC h50, zC h51, o12, -Zb, -List.getElem?_map, -List.getElem_map, HH3, ↓HH4, HH15, ↓HH16]; rfl) ?_)
       simp only [zT, zB]
       refine Zc (x := false) (by simp) ?_
       refine zK ?_
       simp only [zT, zB]
       refine zR (zO (by simp [zC h12, zC h29, zC h30, zC h36, zC h50, zC h51, o12, -Zb, -List.getElem?_map, -List.getElem_map, HH3, ↓HH4, HH15, ↓HH16]; rfl) ?_)
       simp only [zT, zB]
       exact ⟨S.length - (j + 1), by omega, j + 1, J + 1, C + 1, D, by omega, rfl, by omega, by omega, by omega, by simp [zC h12, zC h29, zC h30, zC h36, zC h50, zC h51, o12, -Zb, -List.getElem?_map, -List.getElem_map, HH3, ↓HH4, HH15, ↓HH16, trim]⟩
     ·have hlj := of_decide_eq_false hlj
      obtain rfl : j = S.length := by omega
      rw [List.take_length] at hCi hDi
      have hcn : max C D = ((cntR cs S se mi s0 : Nat) : Int) := by unfold cntR; omega
      have hnl : ¬ max C D < (L2 : Int) := by rw [hcn]; omega
      refine Zr ?_
      simp only [zT, zB, if_true, if_false, reduceIte, Nat.reduceEqDiff, Nat.succ_ne_zero, Nat.one_ne_zero, Nat.zero_ne_one]
      refine zS ?_
      refine zR (zO (by simp [zC h12, zC h29, zC h30, zC h36, zC h50, zC h51, o12, -Zb, -List.getElem?_map, -List.getElem_map, HH3, ↓HH4, hwu, ↓shw, ↓anw, btw, hnl]; rfl) ?_)
      simp only [zT, zB]
      refine zS ?_
      refine zR (zO (by simp [zC h12, zC h29, zC h30, zC h36, zC h50, zC h51, o12, -Zb, -List.getElem?_map, -List.getElem_map, HH3, ↓HH4, hwu, ↓shw, ↓anw, btw, hnl]; rfl) ?_)
      simp only [zT, zB]
      refine Zc (x := false) (by simp) ?_
      refine zK ?_
      simp only [zT, zB]
      refine zR (zO (by simp [zC h12, zC h29, zC h30, zC h36, zC h50, zC h51, o12, -Zb, -List.getElem?_map, -List.getElem_map, HH3, ↓HH4, hwu, ↓shw, ↓anw, btw, hnl]; rfl) ?_)
      simp only [zT, zB]
      exact ⟨0, by omega, 2, 2, rfl, rfl, by omega, by simp [zC h12, zC h29, zC h30, zC h36, zC h50, zC h51, o12, -Zb, -List.getElem?_map, -List.getElem_map, HH3, ↓HH4, hwu, ↓shw, ↓anw, btw, hnl, trim]⟩
    ·refine Zc (x := true) (by simp) ?_
     refine Zr ?_
     simp only [zT, zB, if_true, if_false, reduceIte, Nat.reduceEqDiff, Nat.succ_ne_zero, Nat.one_ne_zero, Nat.zero_ne_one]
     refine zR (zO (by simp [zC h12, zC h29, zC h30, zC h36, zC h50, zC h51, o12, -Zb, -List.getElem?_map, -List.getElem_map, HH3, ↓HH4, hwu, ↓shw, ↓anw, btw]; rfl) ?_)
     simp only [zT, zB]
     exact ⟨0, by omega, 2, 2, rfl, rfl, by omega, by simp [zC h12, zC h29, zC h30, zC h36, zC h50, zC h51, o12, -Zb, -List.getElem?_map, -List.getElem_map, HH3, ↓HH4, hwu, ↓shw, ↓anw, btw, trim]⟩
   ·obtain rfl : Q = 2 := by omega
    refine zS ?_
    refine zS ?_
    refine zR (zO (by simp [zC h12, zC h29, zC h30, zC h36, zC h50, zC h51, o12, -Zb, -List.getElem?_map, -List.getElem_map, HH3, ↓HH4]; rfl) ?_)
    simp only [zT, zB]
    refine Zc (x := false) (by simp) ?_
    refine Zr ?_
    simp only [zT, zB, if_true, if_false, reduceIte, Nat.reduceEqDiff, Nat.succ_ne_zero, Nat.one_ne_zero, Nat.zero_ne_one]
    refine zS ?_
    refine zR (zO (by simp [zC h12, zC h29, zC h30, zC h36, zC h50, zC h51, o12, -Zb, -List.getElem?_map, -List.getElem_map, HH3, ↓HH4]; rfl) ?_)
    simp only [zT, zB]
    refine Ze ?_
    simp [zC h12, zC h29, zC h30, zC h36, zC h50, zC h51, o12, -Zb, -List.getElem?_map, -List.getElem_map, HH3, ↓HH4]
  ·rw [if_neg hL] at e36
   have HH17 := zA h12 (zA h29 (zA h30 (zA h36 (zA h50 (zA h51 (zA hbx (zA e50 (zA w1 (zA w0 (zA e29 (zA lc (zA rc (zA fc (zA cc1 (zA cc2 (zA e30 (zA e36 (zA lX (zA rX (zA fX (zA cX1 (zA cX2 (zA hz0 (zA hw01 (zA hw02 hwso)))))))))))))))))))))))))
   have HH18 := zA o1 (zA o2 (zA o3 (zA o4 (zA o5 (zA hor hrem)))))
   refine zS ?_
   refine zR (zO (by simp [zC h12, zC h29, zC h30, zC h36, zC h50, zC h51, o12, -Zb, -List.getElem?_map, -List.getElem_map, HH17, ↓HH18]; rfl) ?_)
   simp only [zT, zB]
   refine zS ?_
   refine zR (zO (by simp [zC h12, zC h29, zC h30, zC h36, zC h50, zC h51, o12, -Zb, -List.getElem?_map, -List.getElem_map, HH17, ↓HH18]; rfl) ?_)
   simp only [zT, zB]
   refine zS ?_
   refine zR (zO (by simp [zC h12, zC h29, zC h30, zC h36, zC h50, zC h51, o12, -Zb, -List.getElem?_map, -List.getElem_map, HH17, ↓HH18]; rfl) ?_)
   simp only [zT, zB]
   refine zS ?_
   refine ZU (by simp (maxSteps := 3000000) [zC h12, zC h29, zC h30, zC h36, zC h50, zC h51, o12, -Zb, -List.getElem?_map, -List.getElem_map, HH17, ↓HH18]; rfl) ?_
   simp only [zT, zB]
   refine zS ?_
   refine zR (zO (by simp [zC h12, zC h29, zC h30, zC h36, zC h50, zC h51, o12, -Zb, -List.getElem?_map, -List.getElem_map, HH17, ↓HH18]; rfl) ?_)
   simp only [zT, zB]
   refine zS ?_
   refine zR (zO (by simp [zC h12, zC h29, zC h30, zC h36, zC h50, zC h51, o12, -Zb, -List.getElem?_map, -List.getElem_map, HH17, ↓HH18]; rfl) ?_)
   simp only [zT, zB]
   refine zS ?_
   refine zS ?_
   refine zR (zO (by simp [zC h12, zC h29, zC h30, zC h36, zC h50, zC h51, o12, -Zb, -List.getElem?_map, -List.getElem_map, HH17, ↓HH18]; rfl) ?_)
   simp only [zT, zB]
   refine Zc (x := false) (by simp) ?_
   refine zK ?_
   simp only [zT, zB]
   refine zS ?_
   refine zS ?_
   refine zR (zO (by simp [zC h12, zC h29, zC h30, zC h36, zC h50, zC h51, o12, -Zb, -List.getElem?_map, -List.getElem_map, HH17, ↓HH18]; rfl) ?_)
   simp only [zT, zB]
   refine Zc (x := false) (by simp) ?_
   refine zK ?_
   simp only [zT, zB]
   refine zS ?_
   refine zS ?_
   refine zR (zO (by simp [zC h12, zC h29, zC h30, zC h36, zC h50, zC h51, o12, -Zb, -List.getElem?_map, -List.getElem_map, HH17, ↓HH18]; rfl) ?_)
   simp only [zT, zB]
   refine Zc (x := false) (by simp) ?_
   refine zK ?_
   simp only [zT, zB]
   refine zS ?_
   refine zS ?_
   refine zR (zO (by simp [zC h12, zC h29, zC h30, zC h36, zC h50, zC h51, o12, -Zb, -List.getElem?_map, -List.getElem_map, HH17, ↓HH18]; rfl) ?_)
   simp only [zT, zB]
   refine zL ?_
   refine Zs (fun m σ => ∃ (q : Nat) (Q : Int), Q = q ∧ 2 - q = m ∧ q ≤ 2 ∧ σ = ⟨[.any, .any, .int .u8 (so : Nat), .any, .any, .any, .any, c, .any, .any, .any, .any, I (se : Nat), I (mi : Nat), .vl (S.map fun s => [Ys s]) false, .any, I 0, I 0, I 7, I Q, .any, .any, .any, .any, .any, .any, .any, .any, .any, .any, .any, .any, .any, .any, .any, .any, .any, .any, .any, .any, .any, .any, .any, .any, .any, .any, .any, .any, .any, .any, .any, .any, .any, .any, .any, .any, .any, .any, .any, .any, .any, .any, .any, .any, .any, .any, .any, .any, .any, .any, .any, .any, .any, .any, .any, .any, .any, .any, .any, .any, .any, .any, .any, .any, .any, .any, .any, .any, .any, .any, .any, .any, .any, .any, .any, .any, .any, .any, .any, .any, .any, .any, .any, .any, .any, .any, .any, .any, .any, .any, .any, .any, .any, .any, .any, .any, .any, .any, .any, .any, .any, .any, .any, .any, .any, .any, .any, .any, .any, .any, .any, .any, .any, .any, .any, .any, .any, .any, .any, .any, .any, .any, .any, .any, .any, .any, .any, .any, .any, .any, .any, .any, .any, .any, .any, .any, .any, .any, .any, .any, .any, .any, .any, .any, .any, .any, .any, .any, .any, .any, .any, .any, .any, .any, .any, .any, .any, .any, .any, .any, .any, .any, .any, .any, .any, .any, .any, .any, .any, .any, .any, .any, .any, .any, .any, .any, .any, .any, .any, .any, .any, .any, .any, .any, .any, .any, .any, .any, .any, .any, .any, .any, .any, .any, .any, .any, .any], [some (.row 2 [[xc, .int .u8 (t : Nat)]]), some (.row 2 [[.int .u16 (l0 : Nat), .int .u16 (l1 : Nat)]]), none, none, none, none, none, none, none, none, none, none, none, none, none]⟩) ?_ 2 _ ⟨0, 0, rfl, rfl, by omega, by simp⟩
   rintro m σ ⟨q, Q, hQ, rfl, hq2, rfl⟩
   rcases (show q = 0 ∨ q = 1 ∨ q = 2 by omega) with rfl | rfl | rfl
   ·obtain rfl : Q = 0 := by omega
    refine zS ?_
    refine zS ?_
    refine zR (zO (by simp [zC h12, zC h29, zC h30, zC h36, zC h50, zC h51, o12, -Zb, -List.getElem?_map, -List.getElem_map, HH17, ↓HH18]; rfl) ?_)
    simp only [zT, zB]
    refine Zc (x := true) (by simp) ?_
    refine zK ?_
    simp only [zT, zB]
    refine zS ?_
    refine zL ?_
    refine zS ?_
    refine zR (zO (by simp [zC h12, zC h29, zC h30, zC h36, zC h50, zC h51, o12, -Zb, -List.getElem?_map, -List.getElem_map, HH17, ↓HH18]; rfl) ?_)
    simp only [zT, zB]
    refine zS ?_
    refine zS ?_
    refine zR (zO (by simp [zC h12, zC h29, zC h30, zC h36, zC h50, zC h51, o12, -Zb, -List.getElem?_map, -List.getElem_map, HH17, ↓HH18]; rfl) ?_)
    simp only [zT, zB]
    refine Zc (x := true) (by simp) ?_
    refine Zr ?_
    simp only [zT, zB, if_true, if_false, reduceIte, Nat.reduceEqDiff, Nat.succ_ne_zero, Nat.one_ne_zero, Nat.zero_ne_one]
    refine zR (zO (by simp [zC h12, zC h29, zC h30, zC h36, zC h50, zC h51, o12, -Zb, -List.getElem?_map, -List.getElem_map, HH17, ↓HH18]; rfl) ?_)
    simp only [zT, zB]
    exact ⟨1, by omega, 1, 1, rfl, rfl, by omega, by simp [zC h12, zC h29, zC h30, zC h36, zC h50, zC h51, o12, -Zb, -List.getElem?_map, -List.getElem_map, HH17, ↓HH18, trim]⟩
   ·obtain rfl : Q = 1 := by omega
    have hs1x := hs1 (so % 12) hs12
    generalize so % 12 = s0 at *
    have hwu : W .u64 (s0 : Int) = (s0 : Int) := W_u (by omega)
    have shw : shI .shr .i64 (((se ||| mi) : Nat) : Int) ((s0 : Nat) : Int) = some (.int .i64 (((se ||| mi) >>> s0 : Nat) : Int)) := shr_u (by omega) .i64 rfl
    have anw : arI .and .i64 (((se ||| mi) >>> s0 : Nat) : Int) 1 = some (.int .i64 (((se ||| mi) >>> s0 &&& 1 : Nat) : Int)) := and_i (a := (se ||| mi) >>> s0) (b := 1) (Nat.lt_of_le_of_lt (Nat.shiftRight_le (se ||| mi) s0) (by omega)) (by omega)
    have btw := bit_oneI (se ||| mi) s0
    generalize (((se ||| mi) >>> s0 &&& 1 : Nat) : Int) = yw at *
    generalize (((se ||| mi) >>> s0 : Nat) : Int) = zw at *
    generalize ((se ||| mi : Nat) : Int) = ov at *
    generalize (se ||| mi).testBit s0 = tb at *
    refine zS ?_
    refine zS ?_
    refine zR (zO (by simp [zC h12, zC h29, zC h30, zC h36, zC h50, zC h51, o12, -Zb, -List.getElem?_map, -List.getElem_map, HH17, ↓HH18, hwu, ↓shw, ↓anw, btw]; rfl) ?_)
    simp only [zT, zB]
    refine Zc (x := true) (by simp) ?_
    refine zK ?_
    simp only [zT, zB]
    refine zS ?_
    refine zL ?_
    refine zS ?_
    refine zR (zO (by simp [zC h12, zC h29, zC h30, zC h36, zC h50, zC h51, o12, -Zb, -List.getElem?_map, -List.getElem_map, HH17, ↓HH18, hwu, ↓shw, ↓anw, btw]; rfl) ?_)
    simp only [zT, zB]
    refine zS ?_
    refine zS ?_
    refine zR (zO (by simp [zC h12, zC h29, zC h30, zC h36, zC h50, zC h51, o12, -Zb, -List.getElem?_map, -List.getElem_map, HH17, ↓HH18, hwu, ↓shw, ↓anw, btw]; rfl) ?_)
    simp only [zT, zB]
    cases tb
    ·have hs1x := hs1x rfl
     refine Zc (x := false) (by simp) ?_
     refine zK ?_
     simp only [zT, zB]
     refine zS ?_
     refine zR (zO (by simp [zC h12, zC h29, zC h30, zC h36, zC h50, zC h51, o12, -Zb, -List.getElem?_map, -List.getElem_map, HH17, ↓HH18, hwu, ↓shw, ↓anw, btw]; rfl) ?_)
     simp only [zT, zB]
     refine zS ?_
     refine zS ?_
     refine zR (zO (by simp [zC h12, zC h29, zC h30, zC h36, zC h50, zC h51, o12, -Zb, -List.getElem?_map, -List.getElem_map, HH17, ↓HH18, hwu, ↓shw, ↓anw, btw]; rfl) ?_)
     simp only [zT, zB]
     refine zL ?_
     refine Zs (fun n σ => ∃ (j : Nat) (J C D : Int), J = j ∧ S.length - j = n ∧ j ≤ S.length ∧ C = (leftR cs (S.take j) (se ||| 2 ^ s0) mi : Nat) ∧ D = (leftR cs (S.take j) se (mi ||| 2 ^ s0) : Nat) ∧ σ = ⟨[.any, .any, .int .u8 (so : Nat), .any, .any, .any, .any, c, .any, .any, .any, .any, I (se : Nat), I (mi : Nat), .vl (S.map fun s => [Ys s]) false, .any, I 0, I 0, I 7, I 1, I (s0 : Nat), I C, I D, I J, .any, .any, .any, .any, .any, .any, .any, .any, .any, .any, .any, .any, .any, .any, .any, .any, .any, .any, .any, .any, .any, .any, .any, .any, .any, .any, .any, .any, .any, .any, .any, .any, .any, .any, .any, .any, .any, .any, .any, .any, .any, .any, .any, .any, .any, .any, .any, .any, .any, .any, .any, .any, .any, .any, .any, .any, .any, .any, .any, .any, .any, .any, .any, .any, .any, .any, .any, .any, .any, .any, .any, .any, .any, .any, .any, .any, .any, .any, .any, .any, .any, .any, .any, .any, .any, .any, .any, .any, .any, .any, .any, .any, .any, .any, .any, .any, .any, .any, .any, .any, .any, .any, .any, .any, .any, .any, .any, .any, .any, .any, .any, .any, .any, .any, .any, .any, .any, .any, .any, .any, .any, .any, .any, .any, .any, .any, .any, .any, .any, .any, .any, .any, .any, .any, .any, .any, .any, .any, .any, .any, .any, .any, .any, .any, .any, .any, .any, .any, .any, .any, .any, .any, .any, .any, .any, .any, .any, .any, .any, .any, .any, .any, .any, .any, .any, .any, .any, .any, .any, .any, .any, .any, .any, .any, .any, .any, .any, .any, .any, .any, .any, .any, .any, .any, .any, .any, .any, .any, .any, .any, .any, .any, .any], [some (.row 2 [[xc, .int .u8 (t : Nat)]]), some (.row 2 [[.int .u16 (l0 : Nat), .int .u16 (l1 : Nat)]]), none, none, none, none, none, none, none, none, none, none, none, none, none]⟩) ?_ (S.length - 0) _ ⟨0, 0, 0, 0, rfl, rfl, Nat.zero_le _, rfl, rfl, by simp⟩
     rintro n σ ⟨j, J, C, D, hJ, rfl, hjl, hCi, hDi, rfl⟩
     refine zS ?_
     refine zS ?_
     refine zR (zO (by simp [zC h12, zC h29, zC h30, zC h36, zC h50, zC h51, o12, -Zb, -List.getElem?_map, -List.getElem_map, HH17, ↓HH18, hwu, ↓shw, ↓anw, btw]; rfl) ?_)
     simp only [zT, zB]
     refine Zf (x := decide (J < (S.length : Int))) (by simp) (fun hlj => ?_) (fun hlj => ?_)
     ·have hlj := of_decide_eq_true hlj
      have hj0 : j < S.length := by omega
      have hJ0 : 0 ≤ J := by omega
      have htJ : J.toNat = j := by omega
      have hwJ : W .i64 (J + 1) = J + 1 := Zz (by omega)
      have g1 : (S.map fun s => [Ys s])[j]? = some [Ys S[j]] := by rw [List.getElem?_map, List.getElem?_eq_getElem hj0]; rfl
      have g2 : ∀ h, (S.map fun s => [Ys s])[j]'h = [Ys S[j]] := fun h => by simp
      have hmk := hmem _ (List.getElem_mem hj0)
      have hm1k := hm1 _ (List.getElem_mem hj0)
      have hC := leftR_succ (cs := cs) (a := se ||| 2 ^ s0) (b := mi) hj0
      have hD := leftR_succ (cs := cs) (a := se) (b := mi ||| 2 ^ s0) hj0
      rw [expl_seen (by omega), hmk.2.2, Bool.true_and] at hC
      rw [expl_miss (by omega), hmk.2.2, Bool.true_and] at hD
      have hCl := leftR_len' cs S (se ||| 2 ^ s0) mi j
      have hDl := leftR_len' cs S se (mi ||| 2 ^ s0) j
      have hwC : W .i64 (C + 1) = C + 1 := Zz (by omega)
      have hwD : W .i64 (D + 1) = D + 1 := Zz (by omega)
      generalize S[j] = s at *
      have hsN := Yq s
      have hsd : dNs (Ys s) = some s := dNs_of hsN fun x hx => by have := hm1k.2 x hx; omega
      have e51 := o51_eq hcc hsd hm1k.1 hm1k.2 hn10 hmk.1
      have hal3 := allL_lt hcsk s
      have hml3 := mustL_lt hcsk s
      generalize YP cs s = Av at *
      generalize YF cs s = Mv at *
      have shu : shI .shr .i64 ((Av : Nat) : Int) ((s0 : Nat) : Int) = some (.int .i64 ((Av >>> s0 : Nat) : Int)) := shr_u (by omega) .i64 rfl
      have anu : arI .and .i64 ((Av >>> s0 : Nat) : Int) 1 = some (.int .i64 ((Av >>> s0 &&& 1 : Nat) : Int)) := and_i (a := Av >>> s0) (b := 1) (Nat.lt_of_le_of_lt (Nat.shiftRight_le Av s0) (by omega)) (by omega)
      have btu := bit_oneI Av s0
      generalize ((Av >>> s0 &&& 1 : Nat) : Int) = yu at *
      generalize ((Av >>> s0 : Nat) : Int) = zu at *
      have shv : shI .shr .i64 ((Mv : Nat) : Int) ((s0 : Nat) : Int) = some (.int .i64 ((Mv >>> s0 : Nat) : Int)) := shr_u (by omega) .i64 rfl
      have anv : arI .and .i64 ((Mv >>> s0 : Nat) : Int) 1 = some (.int .i64 ((Mv >>> s0 &&& 1 : Nat) : Int)) := and_i (a := Mv >>> s0) (b := 1) (Nat.lt_of_le_of_lt (Nat.shiftRight_le Mv s0) (by omega)) (by omega)
      have btv := bit_zeroI Mv s0
      generalize ((Mv >>> s0 &&& 1 : Nat) : Int) = yv at *
      generalize ((Mv >>> s0 : Nat) : Int) = zv at *
      generalize Av.testBit s0 = b1 at *
      generalize Mv.testBit s0 = b2 at *
      have rs_ := fun n d => ZY hsN n d
      have fs := fun H d => ZG hsN H d
      obtain ⟨cs1, cs2⟩ := ZH hsN
      generalize Ys s = vs at *
      cases b1 <;> cases b2
      ·rw [if_neg (by simp)] at hC
       rw [Bool.not_false, if_pos rfl] at hD
       have HH19 := zA hwu (zA btw (zA hJ0 (zA htJ (zA hj0 (zA hwJ (zA hwC (zA hwD (zA g1 (zA g2 (zA e51 (zA btu (zA btv (zA rs_ (zA fs (zA cs1 cs2)))))))))))))))
       have HH20 := zA shw (zA anw (zA shu (zA anu (zA shv anv))))
       refine zK ?_
       simp only [zT, zB]
       refine zS ?_
       refine zL ?_
       refine zS ?_
       refine zR (zO (by simp [zC h12, zC h29, zC h30, zC h36, zC h50, zC h51, o12, -Zb, -List.getElem?_map, -List.getElem_map, HH17, ↓HH18, HH19, ↓HH20]; rfl) ?_)
       simp only [zT, zB]
       refine zS ?_
       refine zS ?_
       refine zR (zO (by simp [zC h12, zC h29, zC h30, zC h36, zC h50, zC h51, o12, -Zb, -List.getElem?_map, -List.getElem_map, HH17, ↓HH18, HH19, ↓HH20]; rfl) ?_)
       simp only [zT, zB]
       refine Zc (x := false) (by simp) ?_
       refine zK ?_
       simp only [zT, zB]
       refine zS ?_
       refine zS ?_
       refine zR (zO (by simp [zC h12, zC h29, zC h30, zC h36, zC h50, zC h51, o12, -Zb, -List.getElem?_map, -List.getElem_map, HH17, ↓HH18, HH19, ↓HH20]; rfl) ?_)
       simp only [zT, zB]
       refine Zc (x := false) (by simp) ?_
       refine zK ?_
       simp only [zT, zB]
       refine zS ?_
       refine zR (zO (by simp [zC h12, zC h29, zC h30, zC h36, zC h50, zC h51, o12, -Zb, -List.getElem?_map, -List.getElem_map, HH17, ↓HH18, HH19, ↓HH20]; rfl) ?_)
       simp only [zT, zB]
       refine Zc (x := true) (by simp) ?_
       refine zR (zO (by simp [zC h12, zC h29, zC h30, zC h36, zC h50, zC h51, o12, -Zb, -List.getElem?_map, -List.getElem_map, HH17, ↓HH18, HH19, ↓HH20]; rfl) ?_)
       simp only [zT, zB]
       refine zR (zO (by simp [zC h12, zC h29, zC h30, zC h36, zC h50, zC h51, o12, -Zb, -List.getElem?_map, -List.getElem_map, HH17, ↓HH18, HH19, ↓HH20]; rfl) ?_)
       simp only [zT, zB]
       exact ⟨S.length - (j + 1), by omega, j + 1, J + 1, C, D + 1, by omega, rfl, by omega, by omega, by omega, by simp [zC h12, zC h29, zC h30, zC h36, zC h50, zC h51, o12, -Zb, -List.getElem?_map, -List.getElem_map, HH17, ↓HH18, HH19, ↓HH20, trim]⟩
      ·rw [if_neg (by simp)] at hC
       rw [Bool.not_true, if_neg (by simp)] at hD
       have HH21 := zA hwu (zA btw (zA hJ0 (zA htJ (zA hj0 (zA hwJ (zA hwC (zA hwD (zA g1 (zA g2 (zA e51 (zA btu (zA btv (zA rs_ (zA fs (zA cs1 cs2)))))))))))))))
       have HH22 := zA shw (zA anw (zA shu (zA anu (zA shv anv))))
       refine zK ?_
       simp only [zT, zB]
       refine zS ?_
       refine zL ?_
       refine zS ?_
       refine zR (zO (by simp [zC h12, zC h29, zC h30, zC h36, zC h50, zC h51, o12, -Zb, -List.getElem?_map, -List.getElem_map, HH17, ↓HH18, HH21, ↓HH22]; rfl) ?_)
       simp only [zT, zB]
       refine zS ?_
       refine zS ?_
       refine zR (zO (by simp [zC h12, zC h29, zC h30, zC h36, zC h50, zC h51, o12, -Zb, -List.getElem?_map, -List.getElem_map, HH17, ↓HH18, HH21, ↓HH22]; rfl) ?_)
       simp only [zT, zB]
       refine Zc (x := false) (by simp) ?_
       refine zK ?_
       simp only [zT, zB]
       refine zS ?_
       refine zS ?_
       refine zR (zO (by simp [zC h12, zC h29, zC h30, zC h36, zC h50, zC h51, o12, -Zb, -List.getElem?_map, -List.getElem_map, HH17, ↓HH18, HH21, ↓HH22]; rfl) ?_)
       simp only [zT, zB]
       refine Zc (x := false) (by simp) ?_
       refine zK ?_
       simp only [zT, zB]
       refine zS ?_
       refine zR (zO (by simp [zC h12, zC h29, zC h30, zC h36, zC h50, zC h51, o12, -Zb, -List.getElem?_map, -List.getElem_map, HH17, ↓HH18, HH21, ↓HH22]; rfl) ?_)
       simp only [zT, zB]
       refine Zc (x := false) (by simp) ?_
       refine zK ?_
       simp only [zT, zB]
       refine zR (zO (by simp [zC h12, zC h29, zC h30, zC h36, zC h50, zC h51, o12, -Zb, -List.getElem?_map, -List.getElem_map, HH17, ↓HH18, HH21, ↓HH22]; rfl) ?_)
       simp only [zT, zB]
       exact ⟨S.length - (j + 1), by omega, j + 1, J + 1, C, D, by omega, rfl, by omega, by omega, by omega, by simp [zC h12, zC h29, zC h30, zC h36, zC h50, zC h51, o12, -Zb, -List.getElem?_map, -List.getElem_map, HH17, ↓HH18, HH21, ↓HH22, trim]⟩
      ·rw [if_pos rfl] at hC
       rw [Bool.not_false, if_pos rfl] at hD
       have HH23 := zA hwu (zA btw (zA hJ0 (zA htJ (zA hj0 (zA hwJ (zA hwC (zA hwD (zA g1 (zA g2 (zA e51 (zA btu (zA btv (zA rs_ (zA fs (zA cs1 cs2)))))))))))))))
       have HH24 := zA shw (zA anw (zA shu (zA anu (zA shv anv))))
       refine zK ?_
       simp only [zT, zB]
       refine zS ?_
       refine zL ?_
       refine zS ?_
       refine zR (zO (by simp [zC h12, zC h29, zC h30, zC h36, zC h50, zC h51, o12, -Zb, -List.getElem?_map, -List.getElem_map, HH17, ↓HH18, HH23, ↓HH24]; rfl) ?_)
       simp only [zT, zB]
       refine zS ?_
       refine zS ?_
       refine zR (zO (by simp [zC h12, zC h29, zC h30, zC h36, zC h50, zC h51, o12, -Zb, -List.getElem?_map, -List.getElem_map, HH17, ↓HH18, HH23, ↓HH24]; rfl) ?_)
       simp only [zT, zB]
       refine Zc (x := false) (by simp) ?_
       refine zK ?_
       simp only [zT, zB]
       refine zS ?_
       refine zS ?_
       refine zR (zO (by simp [zC h12, zC h29, zC h30, zC h36, zC h50, zC h51, o12, -Zb, -List.getElem?_map, -List.getElem_map, HH17, ↓HH18, HH23, ↓HH24]; rfl) ?_)
       simp only [zT, zB]
       refine Zc (x := true) (by simp) ?_
       refine zR (zO (by simp [zC h12, zC h29, zC h30, zC h36, zC h50, zC h51, o12, -Zb, -List.getElem?_map, -List.getElem_map, HH17, ↓HH18, HH23, ↓HH24]; rfl) ?_)
       simp only [zT, zB]
       refine zS ?_
       refine zR (zO (by simp [zC h12, zC h29, zC h30, zC h36, zC h50, zC h51, o12, -Zb, -List.getElem?_map, -List.getElem_map, HH17, ↓HH18, HH23, ↓HH24]; rfl) ?_)
       simp only [zT, zB]
       refine Zc (x := true) (by simp) ?_
       refine zR (zO (by simp [zC h12, zC h29, zC h30, zC h36, zC h50, zC h51, o12, -Zb, -List.getElem?_map, -List.getElem_map, HH17, ↓HH18, HH23, ↓HH24]; rfl) ?_)
       simp only [zT, zB]
       refine zR (zO (by simp [zC h12, zC h29, zC h30, zC h36, zC h50, zC h51, o12, -Zb, -List.getElem?_map, -List.getElem_map, HH17, ↓HH18, HH23, ↓HH24]; rfl) ?_)
       simp only [zT, zB]
       exact ⟨S.length - (j + 1), by omega, j + 1, J + 1, C + 1, D + 1, by omega, rfl, by omega, by omega, by omega, by simp [zC h12, zC h29, zC h30, zC h36, zC h50, zC h51, o12, -Zb, -List.getElem?_map, -List.getElem_map, HH17, ↓HH18, HH23, ↓HH24, trim]⟩
      ·rw [if_pos rfl] at hC
       rw [Bool.not_true, if_neg (by simp)] at hD
       have HH25 := zA hwu (zA btw (zA hJ0 (zA htJ (zA hj0 (zA hwJ (zA hwC (zA hwD (zA g1 (zA g2 (zA e51 (zA btu (zA btv (zA rs_ (zA fs (zA cs1 cs2)))))))))))))))
       have HH26 := zA shw (zA anw (zA shu (zA anu (zA shv anv))))
       refine zK ?_
       simp only [zT, zB]
       refine zS ?_
       refine zL ?_
       refine zS ?_
       refine zR (zO (by simp [zC h12, zC h29, zC h30, zC h36, zC h50, zC h51, o12, -Zb, -List.getElem?_map, -List.getElem_map, HH17, ↓HH18, HH25, ↓HH26]; rfl) ?_)
       simp only [zT, zB]
       refine zS ?_
       refine zS ?_
       refine zR (zO (by simp [zC h12, zC h29, zC h30, zC h36, zC h50, zC h51, o12, -Zb, -List.getElem?_map, -List.getElem_map, HH17, ↓HH18, HH25, ↓HH26]; rfl) ?_)
       simp only [zT, zB]
       refine Zc (x := false) (by simp) ?_
       refine zK ?_
       simp only [zT, zB]
       refine zS ?_
       refine zS ?_
       refine zR (zO (by simp [zC h12, zC h29, zC h30, zC h36, zC h50, zC h51, o12, -Zb, -List.getElem?_map, -List.getElem_map, HH17, ↓HH18, HH25, ↓HH26]; rfl) ?_)
       simp only [zT, zB]
       refine Zc (x := true) (by simp) ?_
       refine zR (zO (by simp [zC h12, zC h29, zC h30, zC h36, zC h50, zC h51, o12, -Zb, -List.getElem?_map, -List.getElem_map, HH17, ↓HH18, HH25, ↓HH26]; rfl) ?_)
       simp only [zT, zB]
       refine zS ?_
       refine zR (zO (by simp [zC h12, zC h29, zC h30, zC h36, zC h50, zC h51, o12, -Zb, -List.getElem?_map, -List.getElem_map, HH17, ↓HH18, HH25, ↓HH26]; rfl) ?_)
       simp only [zT, zB]
       refine Zc (x := false) (by simp) ?_
       refine zK ?_
       simp only [zT, zB]
       refine zR (zO (by simp [zC h12, zC h29, zC h30, zC h36, zC h50, zC h51, o12, -Zb, -List.getElem?_map, -List.getElem_map, HH17, ↓HH18, HH25, ↓HH26]; rfl) ?_)
       simp only [zT, zB]
       exact ⟨S.length - (j + 1), by omega, j + 1, J + 1, C + 1, D, by omega, rfl, by omega, by omega, by omega, by simp [zC h12, zC h29, zC h30, zC h36, zC h50, zC h51, o12, -Zb, -List.getElem?_map, -List.getElem_map, HH17, ↓HH18, HH25, ↓HH26, trim]⟩
     ·have hlj := of_decide_eq_false hlj
      obtain rfl : j = S.length := by omega
      rw [List.take_length] at hCi hDi
      have hcn : max C D = ((cntR cs S se mi s0 : Nat) : Int) := by unfold cntR; omega
      have hnl : ¬ max C D < (S.length : Int) := by rw [hcn]; omega
      refine Zr ?_
      simp only [zT, zB, if_true, if_false, reduceIte, Nat.reduceEqDiff, Nat.succ_ne_zero, Nat.one_ne_zero, Nat.zero_ne_one]
      refine zS ?_
      refine zR (zO (by simp [zC h12, zC h29, zC h30, zC h36, zC h50, zC h51, o12, -Zb, -List.getElem?_map, -List.getElem_map, HH17, ↓HH18, hwu, ↓shw, ↓anw, btw, hnl]; rfl) ?_)
      simp only [zT, zB]
      refine zS ?_
      refine zR (zO (by simp [zC h12, zC h29, zC h30, zC h36, zC h50, zC h51, o12, -Zb, -List.getElem?_map, -List.getElem_map, HH17, ↓HH18, hwu, ↓shw, ↓anw, btw, hnl]; rfl) ?_)
      simp only [zT, zB]
      refine Zc (x := false) (by simp) ?_
      refine zK ?_
      simp only [zT, zB]
      refine zR (zO (by simp [zC h12, zC h29, zC h30, zC h36, zC h50, zC h51, o12, -Zb, -List.getElem?_map, -List.getElem_map, HH17, ↓HH18, hwu, ↓shw, ↓anw, btw, hnl]; rfl) ?_)
      simp only [zT, zB]
      exact ⟨0, by omega, 2, 2, rfl, rfl, by omega, by simp [zC h12, zC h29, zC h30, zC h36, zC h50, zC h51, o12, -Zb, -List.getElem?_map, -List.getElem_map, HH17, ↓HH18, hwu, ↓shw, ↓anw, btw, hnl, trim]⟩
    ·refine Zc (x := true) (by simp) ?_
     refine Zr ?_
     simp only [zT, zB, if_true, if_false, reduceIte, Nat.reduceEqDiff, Nat.succ_ne_zero, Nat.one_ne_zero, Nat.zero_ne_one]
     refine zR (zO (by simp [zC h12, zC h29, zC h30, zC h36, zC h50, zC h51, o12, -Zb, -List.getElem?_map, -List.getElem_map, HH17, ↓HH18, hwu, ↓shw, ↓anw, btw]; rfl) ?_)
     simp only [zT, zB]
     exact ⟨0, by omega, 2, 2, rfl, rfl, by omega, by simp [zC h12, zC h29, zC h30, zC h36, zC h50, zC h51, o12, -Zb, -List.getElem?_map, -List.getElem_map, HH17, ↓HH18, hwu, ↓shw, ↓anw, btw, trim]⟩
   ·obtain rfl : Q = 2 := by omega
    refine zS ?_
    refine zS ?_
    refine zR (zO (by simp [zC h12, zC h29, zC h30, zC h36, zC h50, zC h51, o12, -Zb, -List.getElem?_map, -List.getElem_map, HH17, ↓HH18]; rfl) ?_)
    simp only [zT, zB]
    refine Zc (x := false) (by simp) ?_
    refine Zr ?_
    simp only [zT, zB, if_true, if_false, reduceIte, Nat.reduceEqDiff, Nat.succ_ne_zero, Nat.one_ne_zero, Nat.zero_ne_one]
    refine zS ?_
    refine zR (zO (by simp [zC h12, zC h29, zC h30, zC h36, zC h50, zC h51, o12, -Zb, -List.getElem?_map, -List.getElem_map, HH17, ↓HH18]; rfl) ?_)
    simp only [zT, zB]
    refine Ze ?_
    simp [zC h12, zC h29, zC h30, zC h36, zC h50, zC h51, o12, -Zb, -List.getElem?_map, -List.getElem_map, HH17, ↓HH18]
theorem law11 (xc : Za) (rs : List R4) (hx : Zt xc = some (rs.map r4)) (hb : ∀ v ∈ rs, R4Ok v) (t l0 l1 so : Nat) (ht : t < 256) (hl0 : l0 < 65536) (hl1 : l1 < 65536) (hso : so < 256) : Zo Tryd.prog DT0 11 [.agg [xc, .int .u8 (t : Nat)], .agg [.int .u16 (l0 : Nat), .int .u16 (l1 : Nat)], .int .u8 (so : Nat)] [] fun v h => v = .bool true :=
  a11 Tryd.prog DT0 rfl rfl rfl rfl rfl rfl rfl xc rs hx hb t l0 l1 so ht hl0 hl1 hso
end
end
end Go.Proofs.YtpebmjeomlgmdaaDoor.Tab
