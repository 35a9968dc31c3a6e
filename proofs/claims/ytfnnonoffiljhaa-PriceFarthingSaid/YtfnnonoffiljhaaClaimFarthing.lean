/- PriceFarthing, proved: for every quote in bytes and numbers the law returns true, and the arguments read as before. No condition. -/
import Derived.Test.YtfnnonoffiljhaaBaW
import Derived.Test.YtfnnonoffiljhaaBaN
import Derived.OpenShut
set_option linter.unusedSimpArgs false
set_option linter.unusedVariables false
namespace Go.Proofs.Ytfnnonoffiljhaa
open Go Go.Abs Go.Proofs
theorem u8_wf {n : Int} (h : (Lit.int .u8 n).wf = true) : 0 ≤ n ∧ n ≤ 255 := by
  have e1 : IntKind.u8.min = 0 := rfl
  have e2 : IntKind.u8.max = 255 := rfl
  simp only [Lit.wf, e1, e2, Bool.and_eq_true, decide_eq_true_eq] at h
  exact h
theorem u16_wf {n : Int} (h : (Lit.int .u16 n).wf = true) : 0 ≤ n ∧ n ≤ 65535 := by
  have e1 : IntKind.u16.min = 0 := rfl
  have e2 : IntKind.u16.max = 65535 := rfl
  simp only [Lit.wf, e1, e2, Bool.and_eq_true, decide_eq_true_eq] at h
  exact h
theorem fits_u {Ls : List Ly} {xs : List AVal} (h : FitsR (.int .u8 :: Ls) xs) : ∃ (a : Int) (ys : List AVal), xs = .int .u8 a :: ys ∧ (0 ≤ a ∧ a ≤ 255) ∧ FitsR Ls ys := by
  obtain ⟨x, ys, rfl, hx, h1⟩ := fitsR_cons h
  obtain ⟨a, rfl, ha⟩ := fits_int hx
  exact ⟨a, ys, rfl, u8_wf ha, h1⟩
theorem fits_w {Ls : List Ly} {xs : List AVal} (h : FitsR (.int .u16 :: Ls) xs) : ∃ (a : Int) (ys : List AVal), xs = .int .u16 a :: ys ∧ (0 ≤ a ∧ a ≤ 65535) ∧ FitsR Ls ys := by
  obtain ⟨x, ys, rfl, hx, h1⟩ := fitsR_cons h
  obtain ⟨a, rfl, ha⟩ := fits_int hx
  exact ⟨a, ys, rfl, u16_wf ha, h1⟩
theorem fits_offer {xs : List AVal} (h : FitsR [.int .u16, .int .u16, .int .u8, .int .u8, .int .u16, .int .u16, .int .u8, .int .u8, .int .u16, .int .u16, .int .u8, .int .u8, .int .u8, .int .u8, .int .u8, .int .u8, .int .u8] xs) : ∃ za zb zw zm zt zs zr zp zk zf ze0 ze1 zg0 zg1 zh0 zh1 zz : Int, xs = [.int .u16 za, .int .u16 zb, .int .u8 zw, .int .u8 zm, .int .u16 zt, .int .u16 zs, .int .u8 zr, .int .u8 zp, .int .u16 zk, .int .u16 zf, .int .u8 ze0, .int .u8 ze1, .int .u8 zg0, .int .u8 zg1, .int .u8 zh0, .int .u8 zh1, .int .u8 zz] ∧ (0 ≤ za ∧ za ≤ 65535) ∧ (0 ≤ zb ∧ zb ≤ 65535) ∧ (0 ≤ zw ∧ zw ≤ 255) ∧ (0 ≤ zm ∧ zm ≤ 255) ∧ (0 ≤ zt ∧ zt ≤ 65535) ∧ (0 ≤ zs ∧ zs ≤ 65535) ∧ (0 ≤ zr ∧ zr ≤ 255) ∧ (0 ≤ zp ∧ zp ≤ 255) ∧ (0 ≤ zk ∧ zk ≤ 65535) ∧ (0 ≤ zf ∧ zf ≤ 65535) ∧ (0 ≤ ze0 ∧ ze0 ≤ 255) ∧ (0 ≤ ze1 ∧ ze1 ≤ 255) ∧ (0 ≤ zg0 ∧ zg0 ≤ 255) ∧ (0 ≤ zg1 ∧ zg1 ≤ 255) ∧ (0 ≤ zh0 ∧ zh0 ≤ 255) ∧ (0 ≤ zh1 ∧ zh1 ≤ 255) ∧ (0 ≤ zz ∧ zz ≤ 255) := by
  obtain ⟨za, ys, rfl, bza, h⟩ := fits_w h
  obtain ⟨zb, ys, rfl, bzb, h⟩ := fits_w h
  obtain ⟨zw, ys, rfl, bzw, h⟩ := fits_u h
  obtain ⟨zm, ys, rfl, bzm, h⟩ := fits_u h
  obtain ⟨zt, ys, rfl, bzt, h⟩ := fits_w h
  obtain ⟨zs, ys, rfl, bzs, h⟩ := fits_w h
  obtain ⟨zr, ys, rfl, bzr, h⟩ := fits_u h
  obtain ⟨zp, ys, rfl, bzp, h⟩ := fits_u h
  obtain ⟨zk, ys, rfl, bzk, h⟩ := fits_w h
  obtain ⟨zf, ys, rfl, bzf, h⟩ := fits_w h
  obtain ⟨ze0, ys, rfl, bze0, h⟩ := fits_u h
  obtain ⟨ze1, ys, rfl, bze1, h⟩ := fits_u h
  obtain ⟨zg0, ys, rfl, bzg0, h⟩ := fits_u h
  obtain ⟨zg1, ys, rfl, bzg1, h⟩ := fits_u h
  obtain ⟨zh0, ys, rfl, bzh0, h⟩ := fits_u h
  obtain ⟨zh1, ys, rfl, bzh1, h⟩ := fits_u h
  obtain ⟨zz, ys, rfl, bzz, h⟩ := fits_u h
  obtain rfl := fitsR_nil h
  exact ⟨za, zb, zw, zm, zt, zs, zr, zp, zk, zf, ze0, ze1, zg0, zg1, zh0, zh1, zz, rfl, bza, bzb, bzw, bzm, bzt, bzs, bzr, bzp, bzk, bzf, bze0, bze1, bzg0, bzg1, bzh0, bzh1, bzz⟩
theorem fits_w3 {xs : List AVal} (h : FitsR [.int .u16, .int .u16, .int .u16] xs) : ∃ a b c : Int, xs = [.int .u16 a, .int .u16 b, .int .u16 c] ∧ (0 ≤ a ∧ a ≤ 65535) ∧ (0 ≤ b ∧ b ≤ 65535) ∧ (0 ≤ c ∧ c ≤ 65535) := by
  obtain ⟨a, ys, rfl, ha, h⟩ := fits_w h
  obtain ⟨b, ys, rfl, hb, h⟩ := fits_w h
  obtain ⟨c, ys, rfl, hc, h⟩ := fits_w h
  obtain rfl := fitsR_nil h
  exact ⟨a, b, c, rfl, ha, hb, hc⟩
theorem fits_words {x : AVal} (h : Fits (.sl [.int .u16]) x) : ∃ bs : List Int, rowsV x = some (bs.map fun b => [.int .u16 b]) ∧ ∀ b ∈ bs, 0 ≤ b ∧ b ≤ 65535 := by
  obtain ⟨rs, hx, hrs⟩ := fits_rows h
  obtain ⟨vs, rfl, hvs⟩ : ∃ vs : List Int, rs = vs.map (fun b => [AVal.int .u16 b]) ∧ ∀ v ∈ vs, 0 ≤ v ∧ v ≤ 65535 := by
    clear hx h
    induction rs with
    | nil => exact ⟨[], rfl, by simp⟩
    | cons r rs ih =>
      obtain ⟨v, ys, rfl, hv, h⟩ := fits_w (hrs r (by simp))
      obtain rfl := fitsR_nil h
      obtain ⟨vs, rfl, hvs⟩ := ih fun r hr => hrs r (by simp [hr])
      exact ⟨v :: vs, rfl, fun w hw => by
        rcases List.mem_cons.1 hw with rfl | hw
        · exact hv
        · exact hvs w hw⟩
  refine ⟨vs, ?_, hvs⟩
  rcases hx with ⟨rfl, h0⟩ | ⟨t, rfl⟩
  · show some [] = some _
    exact congrArg some h0.symm
  · rfl
end Go.Proofs.Ytfnnonoffiljhaa

namespace Go.Proofs.Ytfnnonoffiljhaa.Tab
open Go Go.Abs Go.Proofs
set_option maxRecDepth 100000
set_option maxHeartbeats 4000000
set_option linter.unusedSimpArgs false
set_option linter.unusedVariables false
section
attribute [local simp] frz_int frz_bool frz_vl frz_pv frz_agg frz_tup frz_fn frz_ref frz_sl frz_nils optAll orcF rb_int rb_bool rb_agg rb_tup rb_int' rb_bool' rb_vl rb_pv rb_yld rb_nilf rb_nilp rb_nils rb_any rb_und rb_ref rb_sl rb_fn slE chunk fillA evParts evParts3 putAt List.range_succ List.range_zero List.range'_succ List.range'_zero runX_nil' unary_not evalS_pure evAll_nil evAll_cons runX_cons stepX wantedA dop CV.ev putK_eq setK_eq appK_eq fA_eq fI_eq fN_eq fRow_eq fRows_eq nth_eq Out.v putT List.replicate_succ AEx.thn AEx.blk arI pointee Abs.rowAt ldRow allV toV toC ofV ofC Builtin.min_ Builtin.min2 Builtin.max_ Builtin.max2 min_if max_if resA tupA kill trim_self trim_len trim_emp trim_nil lenA
attribute [local simp] runD_nil' runD_cons' stepD actK_eq actD clash disj masks holes maskH unmaskH diffs news eqB allB eqA ldRowN wrote toCs ofCs stA rowsV_vl rowsV_nils rowsOf dI1 dI2 dI3 dI5 elt
attribute [local simp] st_any st_und st_agg st_tup st_bool st_int st_nilp st_ref st_pv st_nils st_sl st_vl st_nilm st_mp st_fn st_nilf st_yld co_any co_und co_agg co_tup co_bool co_int co_nilp co_ref co_pv co_nils co_sl co_vl co_nilm co_mp co_fn co_nilf co_yld
theorem a8 (P : Program) (T : Nat → Option CFn) (hT : T 8 = some c8) (h18 : T 18 = some { c18 with frsh := true, orc := oOwnQ }) (h40 : T 40 = some { c40 with frsh := true, orc := oQuote }) (h41 : T 41 = some { c41 with frsh := true, orc := oEach }) (h42 : T 42 = some { c42 with frsh := true, orc := oOffL }) (h43 : T 43 = some { c43 with frsh := true, orc := oCost }) (h26 : T 26 = some { c26 with frsh := true, orc := oCredit }) (h17 : T 17 = some { c17 with frsh := true, orc := oKn }) (h39 : T 39 = some { (annC c39 [(62, [.cell 3 10])] []) with frsh := true, orc := oOffer }) (za zb zw zm zt zs zr zp zk zf ze0 ze1 zg0 zg1 zh0 zh1 zz v0 v1 v2 : Int) (hg : (0 ≤ za ∧ za ≤ 65535) ∧ (0 ≤ zb ∧ zb ≤ 65535) ∧ (0 ≤ zw ∧ zw ≤ 255) ∧ (0 ≤ zm ∧ zm ≤ 255) ∧ (0 ≤ zt ∧ zt ≤ 65535) ∧ (0 ≤ zs ∧ zs ≤ 65535) ∧ (0 ≤ zr ∧ zr ≤ 255) ∧ (0 ≤ zp ∧ zp ≤ 255) ∧ (0 ≤ zk ∧ zk ≤ 65535) ∧ (0 ≤ zf ∧ zf ≤ 65535) ∧ (0 ≤ ze0 ∧ ze0 ≤ 255) ∧ (0 ≤ ze1 ∧ ze1 ≤ 255) ∧ (0 ≤ zg0 ∧ zg0 ≤ 255) ∧ (0 ≤ zg1 ∧ zg1 ≤ 255) ∧ (0 ≤ zh0 ∧ zh0 ≤ 255) ∧ (0 ≤ zh1 ∧ zh1 ≤ 255) ∧ (0 ≤ zz ∧ zz ≤ 255)) (hv : (0 ≤ v0 ∧ v0 ≤ 65535) ∧ (0 ≤ v1 ∧ v1 ≤ 65535) ∧ (0 ≤ v2 ∧ v2 ≤ 65535)) :
    Answers P T 8 [.agg [.int .u16 za, .int .u16 zb, .int .u8 zw, .int .u8 zm, .int .u16 zt, .int .u16 zs, .int .u8 zr, .int .u8 zp, .int .u16 zk, .int .u16 zf, .int .u8 ze0, .int .u8 ze1, .int .u8 zg0, .int .u8 zg1, .int .u8 zh0, .int .u8 zh1, .int .u8 zz], .agg [.int .u16 v0, .int .u16 v1, .int .u16 v2]] [] fun v _ => v = .bool true := by
  obtain ⟨q, x, hoff, hx, h0, hl3⟩ := offer_ex za zb zw zm zt zs zr zp zk zf ze0 ze1 zg0 zg1 zh0 zh1 zz hg
  obtain ⟨bv0, bv1, bv2⟩ := hv
  have hl : q.steps.length ≤ 1000 := by omega
  have hd := dQ_vQ hx hl
  have fx := fun H d => rowsV_frz hx H d
  have rx := fun n d => rowsV_rb hx n d
  obtain ⟨cx1, cx2⟩ := rowsV_cells hx
  have hown : oOwnQ [vQ q x] = some (vQ q (.vl (q.steps.map rP) (q.steps.length == 0))) := by simp [oOwnQ, hd]
  generalize (q.steps.length == 0) = tt at hown
  have hdy : dQ (vQ q (.vl (q.steps.map rP) tt)) = some q := dQ_vQ rfl hl
  have hquo : ∀ n, 1 ≤ n → n ≤ 100000 → oQuote [vQ q (.vl (q.steps.map rP) tt), I n] = some (.tup [vP (partsI q n), I (priceI q n), I 0]) := fun n a b => by
    have hE : errN q n = 0 := by simp [errN, h0, a, b]
    simp only [oQuote, hdy, hE, if_true]
  clear hl3
  simp only [vQ, vP] at hd hown hdy hquo hoff
  have hoffl : ∀ n, oOffL [vQ q x, I n] = some (.tup [I (offI q.steps n), I (offGo n q.steps 0 (0, 0)).2]) := fun n => by
    have hdx := dQ_vQ hx hl
    simp only [oOffL, hdx, offGo_eq]
  have hall : ∀ n, 1 ≤ n → n ≤ 100000 → oCost [vP (partsI q n)] = some (I (costI (partsI q n))) := fun n a b => by
    have pb := parts_bd (check_ok h0).1 (n := n) ⟨a, b⟩
    simp only [oCost, vP]; rw [if_pos ⟨⟨pb.board.1, by have := pb.board.2; omega⟩, ⟨pb.tool.1, by have := pb.tool.2; omega⟩, ⟨pb.setup.1, by have := pb.setup.2; omega⟩, ⟨pb.work.1, by have := pb.work.2; omega⟩, ⟨pb.freight.1, by have := pb.freight.2; omega⟩⟩]; rfl
  simp only [vQ, vP] at hoffl hall
  have ha := (check_ok h0).1
  have u0 := wv16 bv0
  have u1 := wv16 bv1
  have u2 := wv16 bv2
  have m0 := Int.tmod_nonneg 40000 bv0.1
  have m0' := Int.tmod_lt_of_pos v0 (show (0 : Int) < 40000 by decide)
  have m2 := Int.tmod_nonneg 2000 bv2.1
  have m2' := Int.tmod_lt_of_pos v2 (show (0 : Int) < 2000 by decide)
  generalize hr0 : v0.tmod 40000 = r0 at *
  generalize hr2 : v2.tmod 2000 = r2 at *
  have w0 : W .i64 (1 + r0) = 1 + r0 := W_fit (by omega)
  generalize hn : 1 + r0 = n at *
  have hn1 : 1 ≤ n := by omega
  have hn2 : n ≤ 100000 := by omega
  have hn4 : n ≤ 40000 := by omega
  have q1 := hquo n hn1 hn2
  have hE : errN q n = 0 := by simp [errN, h0, hn1, hn2]
  have hea : oEach [.agg [I q.area, I q.board, I q.waste, I q.tool, I q.setup, I q.run, I q.work, I q.pallet, I q.freight, I q.margin, .vl (q.steps.map rP) tt], I n] = some (.tup [.agg [I (lowNum (priceI q n) n), I (lowDen (priceI q n) n)], I 0]) := by
    simp only [oEach, hdy, hE, if_true]
  have b1 := parts_bd ha (n := n) ⟨hn1, hn2⟩
  have pb := price_bd h0 (n := n) ⟨hn1, hn2⟩
  have ob := off_bd (check_ok h0).2.2.1 n
  have fp := far_parts (n := n) ha
  have fm := far_money h0 (n := n) ⟨hn1, hn2⟩
  have fe := far_each (n := n) hn1 pb.2.2.1
  have al1 := hall n hn1 hn2
  -- what is taken off
  have of1 := hoffl n
  -- bad boxes
  have hbn := Int.tmod_nonneg (n + 1) bv1.1
  have hbn' := Int.tmod_lt_of_pos v1 (show 0 < n + 1 by omega)
  generalize hbad : v1.tmod (n + 1) = bad at *
  have hne : ¬ n + 1 = 0 := by omega
  have w1 : W .i64 (n + 1) = n + 1 := W_fit (by omega)
  have hC : errC q n bad = 0 := by
    have : 0 ≤ bad ∧ bad ≤ n := by omega
    simp only [errC, hE, if_true, this, and_self]
  have hcr : oCredit [.agg [I q.area, I q.board, I q.waste, I q.tool, I q.setup, I q.run, I q.work, I q.pallet, I q.freight, I q.margin, .vl (q.steps.map rP) tt], I n, I bad] = some (.tup [I (priceI q n * bad / n), I (priceI q n - priceI q n * bad / n), I 0]) := by
    simp only [oCredit, hdy, hC, if_true]
  have fb := far_back (n := n) (money := priceI q n) (bad := bad) hn1 pb.2.2.1 hbn (by omega)
  have sh := share (m := priceI q n) (b := bad) (n := n) pb.2.2.1 hbn (by omega) hn1
  -- later
  have w2 : W .i64 (n + r2) = n + r2 := W_fit (by omega)
  have hmn : min 100000 (n + r2) = n + r2 := by omega
  generalize hm : n + r2 = m at *
  have hm1 : 1 ≤ m := by omega
  have hm2 : m ≤ 100000 := by omega
  have q2 := hquo m hm1 hm2
  have of2 := hoffl m
  -- twice
  have w3 : W .i64 (2 * n) = 2 * n := W_fit (by omega)
  have q3 := hquo (2 * n) (by omega) (by omega)
  have al2 := hall (2 * n) (by omega) (by omega)
  have tw := cost_twice (q := q) (n := n) ha hn1
  have b2 := parts_bd ha (n := 2 * n) ⟨by omega, by omega⟩
  -- sizes
  have x1 : W .i64 (n * q.area) = n * q.area := W_fit0 b1.a1 (by decide)
  have x2 : W .i64 (1000 + q.waste) = 1000 + q.waste := W_fit (by have := ha.waste; omega)
  have x3 : W .i64 (n * q.area * (1000 + q.waste)) = n * q.area * (1000 + q.waste) := W_fit0 b1.a2 (by decide)
  have x4 : W .i64 (n * q.area * (1000 + q.waste) * q.board) = n * q.area * (1000 + q.waste) * q.board := W_fit0 b1.a3 (by decide)
  have x5 : W .i64 ((partsI q n).board * 10000000000) = (partsI q n).board * 10000000000 := W_fit (by have := b1.board; omega)
  have x6 : W .i64 ((partsI q n).board - 1) = (partsI q n).board - 1 := W_fit (by have := b1.board; omega)
  have x7 : W .i64 (((partsI q n).board - 1) * 10000000000) = ((partsI q n).board - 1) * 10000000000 := W_fit (by have := b1.board; omega)
  have x8 : W .i64 ((partsI q n).work * 1000) = (partsI q n).work * 1000 := W_fit (by have := b1.work; omega)
  have x9 : W .i64 (n * q.work) = n * q.work := by rw [Int.mul_comm]; exact W_fit0 b1.wn (by decide)
  have x10 : W .i64 ((partsI q n).work - 1) = (partsI q n).work - 1 := W_fit (by have := b1.work; omega)
  have x11 : W .i64 (((partsI q n).work - 1) * 1000) = ((partsI q n).work - 1) * 1000 := W_fit (by have := b1.work; omega)
  have y1 := mul_bd (a := (partsI q n).setup) (b := q.run) b1.setup.1 b1.setup.2 (by have := ha.run; omega) ha.run.2
  have x12 : W .i64 ((partsI q n).setup * q.run) = (partsI q n).setup * q.run := W_fit (by omega)
  have y2 := mul_bd (a := n) (b := q.setup) (by omega) hn2 ha.setup.1 ha.setup.2
  have x13 : W .i64 (n * q.setup) = n * q.setup := W_fit (by omega)
  have y3 := mul_bd (a := (partsI q n).freight) (b := q.pallet) b1.freight.1 b1.freight.2 (by have := ha.pallet; omega) ha.pallet.2
  have x14 : W .i64 ((partsI q n).freight * q.pallet) = (partsI q n).freight * q.pallet := W_fit (by omega)
  have y4 := mul_bd (a := n) (b := q.freight) (by omega) hn2 ha.freight.1 ha.freight.2
  have x15 : W .i64 (n * q.freight) = n * q.freight := W_fit (by omega)
  have x16 : W .i64 (n + q.run) = n + q.run := W_fit (by have := ha.run; omega)
  have x17 : W .i64 (n + q.run - 1) = n + q.run - 1 := W_fit (by have := ha.run; omega)
  have y5 := mul_bd (a := n + q.run - 1) (A := 200000) (b := q.setup) (by have := ha.run; omega) (by have := ha.run; omega) ha.setup.1 ha.setup.2
  have x18 : W .i64 ((n + q.run - 1) * q.setup) = (n + q.run - 1) * q.setup := W_fit (by omega)
  have x19 : W .i64 (n + q.pallet) = n + q.pallet := W_fit (by have := ha.pallet; omega)
  have x20 : W .i64 (n + q.pallet - 1) = n + q.pallet - 1 := W_fit (by have := ha.pallet; omega)
  have y6 := mul_bd (a := n + q.pallet - 1) (A := 200000) (b := q.freight) (by have := ha.pallet; omega) (by have := ha.pallet; omega) ha.freight.1 ha.freight.2
  have x21 : W .i64 ((n + q.pallet - 1) * q.freight) = (n + q.pallet - 1) * q.freight := W_fit (by omega)
  have x22 : W .i64 (1000 + q.margin) = 1000 + q.margin := W_fit (by have := ha.margin; omega)
  have x23 : W .i64 (costI (partsI q n) * (1000 + q.margin)) = costI (partsI q n) * (1000 + q.margin) := W_fit0 pb.1 (by decide)
  have x24 : W .i64 (1000 - offI q.steps n) = 1000 - offI q.steps n := W_fit (by omega)
  have x25 : W .i64 (costI (partsI q n) * (1000 + q.margin) * (1000 - offI q.steps n)) = costI (partsI q n) * (1000 + q.margin) * (1000 - offI q.steps n) := W_fit0 pb.2.1 (by decide)
  have y7 := mul_bd (a := costI (partsI q n)) (b := 1000 - offI q.steps n) (B := 1000) b1.cost.1 b1.cost.2 (by omega) (by omega)
  have x26 : W .i64 (costI (partsI q n) * (1000 - offI q.steps n)) = costI (partsI q n) * (1000 - offI q.steps n) := W_fit (by omega)
  have hpb := pb.2.2
  have x27 : W .i64 (priceI q n * 1000000) = priceI q n * 1000000 := W_fit (by omega)
  have x28 : W .i64 (priceI q n - 1) = priceI q n - 1 := W_fit (by omega)
  have x29 : W .i64 ((priceI q n - 1) * 1000000) = (priceI q n - 1) * 1000000 := W_fit (by omega)
  have x30 : W .i64 (priceI q n * 1000) = priceI q n * 1000 := W_fit (by omega)
  have y8 := mul_bd (a := lowNum (priceI q n) n) (A := 400502000000) (b := n) (by have := fe.n1; omega) (by have := fe.n2; omega) (by omega) hn2
  have x31 : W .i64 (lowNum (priceI q n) n * n) = lowNum (priceI q n) n * n := W_fit (by omega)
  have x32 : W .i64 (priceI q n * lowDen (priceI q n) n) = lowNum (priceI q n) n * n := by rw [← fe.e]; exact x31
  have x33 : W .i64 (priceI q n * bad / n + (priceI q n - priceI q n * bad / n)) = priceI q n := by rw [fb.s]; exact W_fit (by omega)
  have y9 := mul_bd (a := priceI q n * bad / n) (A := 400502000000) (b := n) sh.1 (by omega) (by omega) hn2
  have x34 : W .i64 (priceI q n * bad / n * n) = priceI q n * bad / n * n := W_fit (by omega)
  have y10 := mul_bd (a := priceI q n) (b := bad) (B := 100000) hpb.1 hpb.2 hbn (by omega)
  have x35 : W .i64 (priceI q n * bad) = priceI q n * bad := W_fit (by omega)
  have x36 : W .i64 (priceI q n * bad / n + 1) = priceI q n * bad / n + 1 := W_fit (by omega)
  have y11 := mul_bd (a := priceI q n * bad / n + 1) (A := 400502000001) (b := n) (by omega) (by omega) (by omega) hn2
  have x37 : W .i64 ((priceI q n * bad / n + 1) * n) = (priceI q n * bad / n + 1) * n := W_fit (by omega)
  have x38 : W .i64 (2 * costI (partsI q n)) = 2 * costI (partsI q n) := W_fit (by have := b1.cost; omega)
  obtain ⟨f1, f2, f3, f4, f5, f6, f7, f8, f9⟩ := fp
  obtain ⟨g1, g2, g3, g4, g5⟩ := fm
  rw [f1] at al1
  obtain ⟨e1, e2, e3, e4, e5⟩ := fe
  obtain ⟨c1, c2, c3, c4, c5⟩ := fb
  obtain ⟨t1, t2⟩ := tw
  have z1 : ¬ (partsI q n).board < 0 := by have := b1.board; omega
  have z2 : ¬ 1099511627776 < (partsI q n).board := by have := b1.board; omega
  have z3 : ¬ (partsI q n).setup < 0 := by have := b1.setup; omega
  have z4 : ¬ 1099511627776 < (partsI q n).setup := by have := b1.setup; omega
  have z5 : ¬ (partsI q n).work < 0 := by have := b1.work; omega
  have z6 : ¬ 1099511627776 < (partsI q n).work := by have := b1.work; omega
  have z7 : ¬ (partsI q n).freight < 0 := by have := b1.freight; omega
  have z8 : ¬ 1099511627776 < (partsI q n).freight := by have := b1.freight; omega
  have hlate : (offGo m q.steps 0 (0, 0)).2 = (offGo n q.steps 0 (0, 0)).2 → ¬ priceI q m < priceI q n := fun h => by
    have := price_mono h0 hn1 (show n ≤ m by omega) (off_same h.symm)
    omega
  generalize hP : partsI q n = P at *
  generalize hP2 : partsI q (2 * n) = P2 at *
  generalize hP3 : partsI q m = P3 at *
  generalize hM : priceI q n = M at *
  generalize hM2 : priceI q m = M2 at *
  generalize hM3 : priceI q (2 * n) = M3 at *
  generalize costI P = cc at *
  generalize costI P2 = cc2 at *
  generalize offI q.steps n = tk at *
  generalize offI q.steps m = tk2 at *
  generalize (offGo n q.steps 0 (0, 0)).2 = s1 at *
  generalize (offGo m q.steps 0 (0, 0)).2 = s2 at *
  generalize lowNum M n = num at *
  generalize lowDen M n = den at *
  generalize M * bad / n = back at *
  clear hall hoffl hquo sh pb hpb b1 b2 hE hC
  refine answers_of hT (orcF_none rfl) ?_
  simp only [c8]
  refine runs_seq ?_
  refine runs_reg (ops_run (by simp (maxSteps := 3000000) [lop, loud, callA, calleeA, callF_step h18, h18, callF_step h40, h40, callF_step h41, h41, callF_step h42, h42, callF_step h43, h43, callF_step h26, h26, callF_step h17, h17, callF_step h39, h39, annC, fx, rx, cx1, cx2, hd, hown, hdy, hoff, oKn, h0, u0, u1, u2, hr0, hr2, w0, hn, q1, hea, al1, of1, hbad, hne, w1, hcr, w2, hmn, hm, q2, of2, w3, q3, al2, x1, x2, x3, x4, x5, x6, x7, x8, x9, x10, x11, x12, x13, x14, x15, x16, x17, x18, x19, x20, x21, x22, x23, x24, x25, x26, x27, x28, x29, x30, x31, x32, x33, x34, x35, x36, x37, x38, f1, f2, f3, f4, f5, f6, f7, f8, f9, g1, g2, g3, g4, g5, e1, e2, e3, e4, c2, c3, c4, c5, t1, t2, z1, z2, z3, z4, z5, z6, z7, z8]; rfl) ?_)
  simp only [AEx.thn, AEx.blk]
  refine runs_seq ?_
  refine runs_reg (ops_run (by simp (maxSteps := 3000000) [lop, loud, callA, calleeA, callF_step h18, h18, callF_step h40, h40, callF_step h41, h41, callF_step h42, h42, callF_step h43, h43, callF_step h26, h26, callF_step h17, h17, callF_step h39, h39, annC, fx, rx, cx1, cx2, hd, hown, hdy, hoff, oKn, h0, u0, u1, u2, hr0, hr2, w0, hn, q1, hea, al1, of1, hbad, hne, w1, hcr, w2, hmn, hm, q2, of2, w3, q3, al2, x1, x2, x3, x4, x5, x6, x7, x8, x9, x10, x11, x12, x13, x14, x15, x16, x17, x18, x19, x20, x21, x22, x23, x24, x25, x26, x27, x28, x29, x30, x31, x32, x33, x34, x35, x36, x37, x38, f1, f2, f3, f4, f5, f6, f7, f8, f9, g1, g2, g3, g4, g5, e1, e2, e3, e4, c2, c3, c4, c5, t1, t2, z1, z2, z3, z4, z5, z6, z7, z8]; rfl) ?_)
  simp only [AEx.thn, AEx.blk]
  refine runs_seq ?_
  refine runs_reg (ops_run (by simp (maxSteps := 3000000) [lop, loud, callA, calleeA, callF_step h18, h18, callF_step h40, h40, callF_step h41, h41, callF_step h42, h42, callF_step h43, h43, callF_step h26, h26, callF_step h17, h17, callF_step h39, h39, annC, fx, rx, cx1, cx2, hd, hown, hdy, hoff, oKn, h0, u0, u1, u2, hr0, hr2, w0, hn, q1, hea, al1, of1, hbad, hne, w1, hcr, w2, hmn, hm, q2, of2, w3, q3, al2, x1, x2, x3, x4, x5, x6, x7, x8, x9, x10, x11, x12, x13, x14, x15, x16, x17, x18, x19, x20, x21, x22, x23, x24, x25, x26, x27, x28, x29, x30, x31, x32, x33, x34, x35, x36, x37, x38, f1, f2, f3, f4, f5, f6, f7, f8, f9, g1, g2, g3, g4, g5, e1, e2, e3, e4, c2, c3, c4, c5, t1, t2, z1, z2, z3, z4, z5, z6, z7, z8]; rfl) ?_)
  simp only [AEx.thn, AEx.blk]
  refine runs_seq ?_
  refine runs_reg (ops_run (by simp (maxSteps := 3000000) [lop, loud, callA, calleeA, callF_step h18, h18, callF_step h40, h40, callF_step h41, h41, callF_step h42, h42, callF_step h43, h43, callF_step h26, h26, callF_step h17, h17, callF_step h39, h39, annC, fx, rx, cx1, cx2, hd, hown, hdy, hoff, oKn, h0, u0, u1, u2, hr0, hr2, w0, hn, q1, hea, al1, of1, hbad, hne, w1, hcr, w2, hmn, hm, q2, of2, w3, q3, al2, x1, x2, x3, x4, x5, x6, x7, x8, x9, x10, x11, x12, x13, x14, x15, x16, x17, x18, x19, x20, x21, x22, x23, x24, x25, x26, x27, x28, x29, x30, x31, x32, x33, x34, x35, x36, x37, x38, f1, f2, f3, f4, f5, f6, f7, f8, f9, g1, g2, g3, g4, g5, e1, e2, e3, e4, c2, c3, c4, c5, t1, t2, z1, z2, z3, z4, z5, z6, z7, z8]; rfl) ?_)
  simp only [AEx.thn, AEx.blk]
  refine runs_seq ?_
  refine runs_reg (ops_run (by simp (maxSteps := 3000000) [lop, loud, callA, calleeA, callF_step h18, h18, callF_step h40, h40, callF_step h41, h41, callF_step h42, h42, callF_step h43, h43, callF_step h26, h26, callF_step h17, h17, callF_step h39, h39, annC, fx, rx, cx1, cx2, hd, hown, hdy, hoff, oKn, h0, u0, u1, u2, hr0, hr2, w0, hn, q1, hea, al1, of1, hbad, hne, w1, hcr, w2, hmn, hm, q2, of2, w3, q3, al2, x1, x2, x3, x4, x5, x6, x7, x8, x9, x10, x11, x12, x13, x14, x15, x16, x17, x18, x19, x20, x21, x22, x23, x24, x25, x26, x27, x28, x29, x30, x31, x32, x33, x34, x35, x36, x37, x38, f1, f2, f3, f4, f5, f6, f7, f8, f9, g1, g2, g3, g4, g5, e1, e2, e3, e4, c2, c3, c4, c5, t1, t2, z1, z2, z3, z4, z5, z6, z7, z8]; rfl) ?_)
  simp only [AEx.thn, AEx.blk]
  refine runs_seq ?_
  refine runs_reg (ops_run (by simp (maxSteps := 3000000) [lop, loud, callA, calleeA, callF_step h18, h18, callF_step h40, h40, callF_step h41, h41, callF_step h42, h42, callF_step h43, h43, callF_step h26, h26, callF_step h17, h17, callF_step h39, h39, annC, fx, rx, cx1, cx2, hd, hown, hdy, hoff, oKn, h0, u0, u1, u2, hr0, hr2, w0, hn, q1, hea, al1, of1, hbad, hne, w1, hcr, w2, hmn, hm, q2, of2, w3, q3, al2, x1, x2, x3, x4, x5, x6, x7, x8, x9, x10, x11, x12, x13, x14, x15, x16, x17, x18, x19, x20, x21, x22, x23, x24, x25, x26, x27, x28, x29, x30, x31, x32, x33, x34, x35, x36, x37, x38, f1, f2, f3, f4, f5, f6, f7, f8, f9, g1, g2, g3, g4, g5, e1, e2, e3, e4, c2, c3, c4, c5, t1, t2, z1, z2, z3, z4, z5, z6, z7, z8]; rfl) ?_)
  simp only [AEx.thn, AEx.blk]
  refine runs_seq ?_
  refine runs_reg (ops_run (by simp (maxSteps := 3000000) [lop, loud, callA, calleeA, callF_step h18, h18, callF_step h40, h40, callF_step h41, h41, callF_step h42, h42, callF_step h43, h43, callF_step h26, h26, callF_step h17, h17, callF_step h39, h39, annC, fx, rx, cx1, cx2, hd, hown, hdy, hoff, oKn, h0, u0, u1, u2, hr0, hr2, w0, hn, q1, hea, al1, of1, hbad, hne, w1, hcr, w2, hmn, hm, q2, of2, w3, q3, al2, x1, x2, x3, x4, x5, x6, x7, x8, x9, x10, x11, x12, x13, x14, x15, x16, x17, x18, x19, x20, x21, x22, x23, x24, x25, x26, x27, x28, x29, x30, x31, x32, x33, x34, x35, x36, x37, x38, f1, f2, f3, f4, f5, f6, f7, f8, f9, g1, g2, g3, g4, g5, e1, e2, e3, e4, c2, c3, c4, c5, t1, t2, z1, z2, z3, z4, z5, z6, z7, z8]; rfl) ?_)
  simp only [AEx.thn, AEx.blk]
  refine runs_seq ?_
  refine runs_seq ?_
  refine runs_reg (ops_run (by simp (maxSteps := 3000000) [lop, loud, callA, calleeA, callF_step h18, h18, callF_step h40, h40, callF_step h41, h41, callF_step h42, h42, callF_step h43, h43, callF_step h26, h26, callF_step h17, h17, callF_step h39, h39, annC, fx, rx, cx1, cx2, hd, hown, hdy, hoff, oKn, h0, u0, u1, u2, hr0, hr2, w0, hn, q1, hea, al1, of1, hbad, hne, w1, hcr, w2, hmn, hm, q2, of2, w3, q3, al2, x1, x2, x3, x4, x5, x6, x7, x8, x9, x10, x11, x12, x13, x14, x15, x16, x17, x18, x19, x20, x21, x22, x23, x24, x25, x26, x27, x28, x29, x30, x31, x32, x33, x34, x35, x36, x37, x38, f1, f2, f3, f4, f5, f6, f7, f8, f9, g1, g2, g3, g4, g5, e1, e2, e3, e4, c2, c3, c4, c5, t1, t2, z1, z2, z3, z4, z5, z6, z7, z8]; rfl) ?_)
  simp only [AEx.thn, AEx.blk]
  refine runs_cond (x := false) (by simp) ?_
  refine runs_skip ?_
  simp only [AEx.thn, AEx.blk]
  refine runs_seq ?_
  refine runs_seq ?_
  refine runs_reg (ops_run (by simp (maxSteps := 3000000) [lop, loud, callA, calleeA, callF_step h18, h18, callF_step h40, h40, callF_step h41, h41, callF_step h42, h42, callF_step h43, h43, callF_step h26, h26, callF_step h17, h17, callF_step h39, h39, annC, fx, rx, cx1, cx2, hd, hown, hdy, hoff, oKn, h0, u0, u1, u2, hr0, hr2, w0, hn, q1, hea, al1, of1, hbad, hne, w1, hcr, w2, hmn, hm, q2, of2, w3, q3, al2, x1, x2, x3, x4, x5, x6, x7, x8, x9, x10, x11, x12, x13, x14, x15, x16, x17, x18, x19, x20, x21, x22, x23, x24, x25, x26, x27, x28, x29, x30, x31, x32, x33, x34, x35, x36, x37, x38, f1, f2, f3, f4, f5, f6, f7, f8, f9, g1, g2, g3, g4, g5, e1, e2, e3, e4, c2, c3, c4, c5, t1, t2, z1, z2, z3, z4, z5, z6, z7, z8]; rfl) ?_)
  simp only [AEx.thn, AEx.blk]
  refine runs_cond (x := false) (by simp) ?_
  refine runs_skip ?_
  simp only [AEx.thn, AEx.blk]
  refine runs_seq ?_
  refine runs_seq ?_
  refine runs_reg (ops_run (by simp (maxSteps := 3000000) [lop, loud, callA, calleeA, callF_step h18, h18, callF_step h40, h40, callF_step h41, h41, callF_step h42, h42, callF_step h43, h43, callF_step h26, h26, callF_step h17, h17, callF_step h39, h39, annC, fx, rx, cx1, cx2, hd, hown, hdy, hoff, oKn, h0, u0, u1, u2, hr0, hr2, w0, hn, q1, hea, al1, of1, hbad, hne, w1, hcr, w2, hmn, hm, q2, of2, w3, q3, al2, x1, x2, x3, x4, x5, x6, x7, x8, x9, x10, x11, x12, x13, x14, x15, x16, x17, x18, x19, x20, x21, x22, x23, x24, x25, x26, x27, x28, x29, x30, x31, x32, x33, x34, x35, x36, x37, x38, f1, f2, f3, f4, f5, f6, f7, f8, f9, g1, g2, g3, g4, g5, e1, e2, e3, e4, c2, c3, c4, c5, t1, t2, z1, z2, z3, z4, z5, z6, z7, z8]; rfl) ?_)
  simp only [AEx.thn, AEx.blk]
  refine runs_cond (x := false) (by simp) ?_
  refine runs_skip ?_
  simp only [AEx.thn, AEx.blk]
  refine runs_seq ?_
  refine runs_drw (by simp (maxSteps := 3000000) [lop, loud, callA, calleeA, callF_step h18, h18, callF_step h40, h40, callF_step h41, h41, callF_step h42, h42, callF_step h43, h43, callF_step h26, h26, callF_step h17, h17, callF_step h39, h39, annC, fx, rx, cx1, cx2, hd, hown, hdy, hoff, oKn, h0, u0, u1, u2, hr0, hr2, w0, hn, q1, hea, al1, of1, hbad, hne, w1, hcr, w2, hmn, hm, q2, of2, w3, q3, al2, x1, x2, x3, x4, x5, x6, x7, x8, x9, x10, x11, x12, x13, x14, x15, x16, x17, x18, x19, x20, x21, x22, x23, x24, x25, x26, x27, x28, x29, x30, x31, x32, x33, x34, x35, x36, x37, x38, f1, f2, f3, f4, f5, f6, f7, f8, f9, g1, g2, g3, g4, g5, e1, e2, e3, e4, c2, c3, c4, c5, t1, t2, z1, z2, z3, z4, z5, z6, z7, z8]; rfl) ?_
  simp only [AEx.thn, AEx.blk]
  refine runs_seq ?_
  refine runs_seq ?_
  refine runs_reg (ops_run (by simp (maxSteps := 3000000) [lop, loud, callA, calleeA, callF_step h18, h18, callF_step h40, h40, callF_step h41, h41, callF_step h42, h42, callF_step h43, h43, callF_step h26, h26, callF_step h17, h17, callF_step h39, h39, annC, fx, rx, cx1, cx2, hd, hown, hdy, hoff, oKn, h0, u0, u1, u2, hr0, hr2, w0, hn, q1, hea, al1, of1, hbad, hne, w1, hcr, w2, hmn, hm, q2, of2, w3, q3, al2, x1, x2, x3, x4, x5, x6, x7, x8, x9, x10, x11, x12, x13, x14, x15, x16, x17, x18, x19, x20, x21, x22, x23, x24, x25, x26, x27, x28, x29, x30, x31, x32, x33, x34, x35, x36, x37, x38, f1, f2, f3, f4, f5, f6, f7, f8, f9, g1, g2, g3, g4, g5, e1, e2, e3, e4, c2, c3, c4, c5, t1, t2, z1, z2, z3, z4, z5, z6, z7, z8]; rfl) ?_)
  simp only [AEx.thn, AEx.blk]
  refine runs_cond (x := false) (by simp) ?_
  refine runs_skip ?_
  simp only [AEx.thn, AEx.blk]
  refine runs_seq ?_
  refine runs_seq ?_
  refine runs_reg (ops_run (by simp (maxSteps := 3000000) [lop, loud, callA, calleeA, callF_step h18, h18, callF_step h40, h40, callF_step h41, h41, callF_step h42, h42, callF_step h43, h43, callF_step h26, h26, callF_step h17, h17, callF_step h39, h39, annC, fx, rx, cx1, cx2, hd, hown, hdy, hoff, oKn, h0, u0, u1, u2, hr0, hr2, w0, hn, q1, hea, al1, of1, hbad, hne, w1, hcr, w2, hmn, hm, q2, of2, w3, q3, al2, x1, x2, x3, x4, x5, x6, x7, x8, x9, x10, x11, x12, x13, x14, x15, x16, x17, x18, x19, x20, x21, x22, x23, x24, x25, x26, x27, x28, x29, x30, x31, x32, x33, x34, x35, x36, x37, x38, f1, f2, f3, f4, f5, f6, f7, f8, f9, g1, g2, g3, g4, g5, e1, e2, e3, e4, c2, c3, c4, c5, t1, t2, z1, z2, z3, z4, z5, z6, z7, z8]; rfl) ?_)
  simp only [AEx.thn, AEx.blk]
  refine runs_cond (x := false) (by simp) ?_
  refine runs_skip ?_
  simp only [AEx.thn, AEx.blk]
  refine runs_seq ?_
  refine runs_reg (ops_run (by simp (maxSteps := 3000000) [lop, loud, callA, calleeA, callF_step h18, h18, callF_step h40, h40, callF_step h41, h41, callF_step h42, h42, callF_step h43, h43, callF_step h26, h26, callF_step h17, h17, callF_step h39, h39, annC, fx, rx, cx1, cx2, hd, hown, hdy, hoff, oKn, h0, u0, u1, u2, hr0, hr2, w0, hn, q1, hea, al1, of1, hbad, hne, w1, hcr, w2, hmn, hm, q2, of2, w3, q3, al2, x1, x2, x3, x4, x5, x6, x7, x8, x9, x10, x11, x12, x13, x14, x15, x16, x17, x18, x19, x20, x21, x22, x23, x24, x25, x26, x27, x28, x29, x30, x31, x32, x33, x34, x35, x36, x37, x38, f1, f2, f3, f4, f5, f6, f7, f8, f9, g1, g2, g3, g4, g5, e1, e2, e3, e4, c2, c3, c4, c5, t1, t2, z1, z2, z3, z4, z5, z6, z7, z8]; rfl) ?_)
  simp only [AEx.thn, AEx.blk]
  refine runs_seq ?_
  refine runs_reg (ops_run (by simp (maxSteps := 3000000) [lop, loud, callA, calleeA, callF_step h18, h18, callF_step h40, h40, callF_step h41, h41, callF_step h42, h42, callF_step h43, h43, callF_step h26, h26, callF_step h17, h17, callF_step h39, h39, annC, fx, rx, cx1, cx2, hd, hown, hdy, hoff, oKn, h0, u0, u1, u2, hr0, hr2, w0, hn, q1, hea, al1, of1, hbad, hne, w1, hcr, w2, hmn, hm, q2, of2, w3, q3, al2, x1, x2, x3, x4, x5, x6, x7, x8, x9, x10, x11, x12, x13, x14, x15, x16, x17, x18, x19, x20, x21, x22, x23, x24, x25, x26, x27, x28, x29, x30, x31, x32, x33, x34, x35, x36, x37, x38, f1, f2, f3, f4, f5, f6, f7, f8, f9, g1, g2, g3, g4, g5, e1, e2, e3, e4, c2, c3, c4, c5, t1, t2, z1, z2, z3, z4, z5, z6, z7, z8]; rfl) ?_)
  simp only [AEx.thn, AEx.blk]
  refine runs_seq ?_
  refine runs_seq ?_
  refine runs_reg (ops_run (by simp (maxSteps := 3000000) [lop, loud, callA, calleeA, callF_step h18, h18, callF_step h40, h40, callF_step h41, h41, callF_step h42, h42, callF_step h43, h43, callF_step h26, h26, callF_step h17, h17, callF_step h39, h39, annC, fx, rx, cx1, cx2, hd, hown, hdy, hoff, oKn, h0, u0, u1, u2, hr0, hr2, w0, hn, q1, hea, al1, of1, hbad, hne, w1, hcr, w2, hmn, hm, q2, of2, w3, q3, al2, x1, x2, x3, x4, x5, x6, x7, x8, x9, x10, x11, x12, x13, x14, x15, x16, x17, x18, x19, x20, x21, x22, x23, x24, x25, x26, x27, x28, x29, x30, x31, x32, x33, x34, x35, x36, x37, x38, f1, f2, f3, f4, f5, f6, f7, f8, f9, g1, g2, g3, g4, g5, e1, e2, e3, e4, c2, c3, c4, c5, t1, t2, z1, z2, z3, z4, z5, z6, z7, z8]; rfl) ?_)
  simp only [AEx.thn, AEx.blk]
  refine runs_cond (x := false) (by simp) ?_
  refine runs_skip ?_
  simp only [AEx.thn, AEx.blk]
  refine runs_seq ?_
  by_cases hs : s2 = s1
  · have hl := hlate hs
    refine runs_reg (ops_run (by simp (maxSteps := 3000000) [lop, loud, callA, calleeA, callF_step h18, h18, callF_step h40, h40, callF_step h41, h41, callF_step h42, h42, callF_step h43, h43, callF_step h26, h26, callF_step h17, h17, callF_step h39, h39, annC, fx, rx, cx1, cx2, hd, hown, hdy, hoff, oKn, h0, u0, u1, u2, hr0, hr2, w0, hn, q1, hea, al1, of1, hbad, hne, w1, hcr, w2, hmn, hm, q2, of2, w3, q3, al2, x1, x2, x3, x4, x5, x6, x7, x8, x9, x10, x11, x12, x13, x14, x15, x16, x17, x18, x19, x20, x21, x22, x23, x24, x25, x26, x27, x28, x29, x30, x31, x32, x33, x34, x35, x36, x37, x38, f1, f2, f3, f4, f5, f6, f7, f8, f9, g1, g2, g3, g4, g5, e1, e2, e3, e4, c2, c3, c4, c5, t1, t2, z1, z2, z3, z4, z5, z6, z7, z8, hs, hl]; rfl) ?_)
    simp only [AEx.thn, AEx.blk]
    refine runs_seq ?_
    refine runs_reg (ops_run (by simp (maxSteps := 3000000) [lop, loud, callA, calleeA, callF_step h18, h18, callF_step h40, h40, callF_step h41, h41, callF_step h42, h42, callF_step h43, h43, callF_step h26, h26, callF_step h17, h17, callF_step h39, h39, annC, fx, rx, cx1, cx2, hd, hown, hdy, hoff, oKn, h0, u0, u1, u2, hr0, hr2, w0, hn, q1, hea, al1, of1, hbad, hne, w1, hcr, w2, hmn, hm, q2, of2, w3, q3, al2, x1, x2, x3, x4, x5, x6, x7, x8, x9, x10, x11, x12, x13, x14, x15, x16, x17, x18, x19, x20, x21, x22, x23, x24, x25, x26, x27, x28, x29, x30, x31, x32, x33, x34, x35, x36, x37, x38, f1, f2, f3, f4, f5, f6, f7, f8, f9, g1, g2, g3, g4, g5, e1, e2, e3, e4, c2, c3, c4, c5, t1, t2, z1, z2, z3, z4, z5, z6, z7, z8, hs, hl]; rfl) ?_)
    simp only [AEx.thn, AEx.blk]
    refine runs_seq ?_
    refine runs_seq ?_
    refine runs_reg (ops_run (by simp (maxSteps := 3000000) [lop, loud, callA, calleeA, callF_step h18, h18, callF_step h40, h40, callF_step h41, h41, callF_step h42, h42, callF_step h43, h43, callF_step h26, h26, callF_step h17, h17, callF_step h39, h39, annC, fx, rx, cx1, cx2, hd, hown, hdy, hoff, oKn, h0, u0, u1, u2, hr0, hr2, w0, hn, q1, hea, al1, of1, hbad, hne, w1, hcr, w2, hmn, hm, q2, of2, w3, q3, al2, x1, x2, x3, x4, x5, x6, x7, x8, x9, x10, x11, x12, x13, x14, x15, x16, x17, x18, x19, x20, x21, x22, x23, x24, x25, x26, x27, x28, x29, x30, x31, x32, x33, x34, x35, x36, x37, x38, f1, f2, f3, f4, f5, f6, f7, f8, f9, g1, g2, g3, g4, g5, e1, e2, e3, e4, c2, c3, c4, c5, t1, t2, z1, z2, z3, z4, z5, z6, z7, z8, hs, hl]; rfl) ?_)
    simp only [AEx.thn, AEx.blk]
    refine runs_seq ?_
    refine runs_reg (ops_run (by simp (maxSteps := 3000000) [lop, loud, callA, calleeA, callF_step h18, h18, callF_step h40, h40, callF_step h41, h41, callF_step h42, h42, callF_step h43, h43, callF_step h26, h26, callF_step h17, h17, callF_step h39, h39, annC, fx, rx, cx1, cx2, hd, hown, hdy, hoff, oKn, h0, u0, u1, u2, hr0, hr2, w0, hn, q1, hea, al1, of1, hbad, hne, w1, hcr, w2, hmn, hm, q2, of2, w3, q3, al2, x1, x2, x3, x4, x5, x6, x7, x8, x9, x10, x11, x12, x13, x14, x15, x16, x17, x18, x19, x20, x21, x22, x23, x24, x25, x26, x27, x28, x29, x30, x31, x32, x33, x34, x35, x36, x37, x38, f1, f2, f3, f4, f5, f6, f7, f8, f9, g1, g2, g3, g4, g5, e1, e2, e3, e4, c2, c3, c4, c5, t1, t2, z1, z2, z3, z4, z5, z6, z7, z8, hs, hl]; rfl) ?_)
    simp only [AEx.thn, AEx.blk]
    refine runs_cond (x := false) (by simp) ?_
    refine runs_skip ?_
    simp only [AEx.thn, AEx.blk]
    refine runs_seq ?_
    refine runs_reg (ops_run (by simp (maxSteps := 3000000) [lop, loud, callA, calleeA, callF_step h18, h18, callF_step h40, h40, callF_step h41, h41, callF_step h42, h42, callF_step h43, h43, callF_step h26, h26, callF_step h17, h17, callF_step h39, h39, annC, fx, rx, cx1, cx2, hd, hown, hdy, hoff, oKn, h0, u0, u1, u2, hr0, hr2, w0, hn, q1, hea, al1, of1, hbad, hne, w1, hcr, w2, hmn, hm, q2, of2, w3, q3, al2, x1, x2, x3, x4, x5, x6, x7, x8, x9, x10, x11, x12, x13, x14, x15, x16, x17, x18, x19, x20, x21, x22, x23, x24, x25, x26, x27, x28, x29, x30, x31, x32, x33, x34, x35, x36, x37, x38, f1, f2, f3, f4, f5, f6, f7, f8, f9, g1, g2, g3, g4, g5, e1, e2, e3, e4, c2, c3, c4, c5, t1, t2, z1, z2, z3, z4, z5, z6, z7, z8, hs, hl]; rfl) ?_)
    simp only [AEx.thn, AEx.blk]
    refine runs_seq ?_
    refine runs_drw (by simp (maxSteps := 3000000) [lop, loud, callA, calleeA, callF_step h18, h18, callF_step h40, h40, callF_step h41, h41, callF_step h42, h42, callF_step h43, h43, callF_step h26, h26, callF_step h17, h17, callF_step h39, h39, annC, fx, rx, cx1, cx2, hd, hown, hdy, hoff, oKn, h0, u0, u1, u2, hr0, hr2, w0, hn, q1, hea, al1, of1, hbad, hne, w1, hcr, w2, hmn, hm, q2, of2, w3, q3, al2, x1, x2, x3, x4, x5, x6, x7, x8, x9, x10, x11, x12, x13, x14, x15, x16, x17, x18, x19, x20, x21, x22, x23, x24, x25, x26, x27, x28, x29, x30, x31, x32, x33, x34, x35, x36, x37, x38, f1, f2, f3, f4, f5, f6, f7, f8, f9, g1, g2, g3, g4, g5, e1, e2, e3, e4, c2, c3, c4, c5, t1, t2, z1, z2, z3, z4, z5, z6, z7, z8, hs, hl]; rfl) ?_
    simp only [AEx.thn, AEx.blk]
    refine runs_ret ?_
    simp [lop, loud, callA, calleeA, callF_step h18, h18, callF_step h40, h40, callF_step h41, h41, callF_step h42, h42, callF_step h43, h43, callF_step h26, h26, callF_step h17, h17, callF_step h39, h39, annC, fx, rx, cx1, cx2, hd, hown, hdy, hoff, oKn, h0, u0, u1, u2, hr0, hr2, w0, hn, q1, hea, al1, of1, hbad, hne, w1, hcr, w2, hmn, hm, q2, of2, w3, q3, al2, x1, x2, x3, x4, x5, x6, x7, x8, x9, x10, x11, x12, x13, x14, x15, x16, x17, x18, x19, x20, x21, x22, x23, x24, x25, x26, x27, x28, x29, x30, x31, x32, x33, x34, x35, x36, x37, x38, f1, f2, f3, f4, f5, f6, f7, f8, f9, g1, g2, g3, g4, g5, e1, e2, e3, e4, c2, c3, c4, c5, t1, t2, z1, z2, z3, z4, z5, z6, z7, z8, hs, hl]
  · have hs' : (s2 == s1) = false := by simpa using hs
    refine runs_reg (ops_run (by simp (maxSteps := 3000000) [lop, loud, callA, calleeA, callF_step h18, h18, callF_step h40, h40, callF_step h41, h41, callF_step h42, h42, callF_step h43, h43, callF_step h26, h26, callF_step h17, h17, callF_step h39, h39, annC, fx, rx, cx1, cx2, hd, hown, hdy, hoff, oKn, h0, u0, u1, u2, hr0, hr2, w0, hn, q1, hea, al1, of1, hbad, hne, w1, hcr, w2, hmn, hm, q2, of2, w3, q3, al2, x1, x2, x3, x4, x5, x6, x7, x8, x9, x10, x11, x12, x13, x14, x15, x16, x17, x18, x19, x20, x21, x22, x23, x24, x25, x26, x27, x28, x29, x30, x31, x32, x33, x34, x35, x36, x37, x38, f1, f2, f3, f4, f5, f6, f7, f8, f9, g1, g2, g3, g4, g5, e1, e2, e3, e4, c2, c3, c4, c5, t1, t2, z1, z2, z3, z4, z5, z6, z7, z8, hs, hs']; rfl) ?_)
    simp only [AEx.thn, AEx.blk]
    refine runs_seq ?_
    refine runs_reg (ops_run (by simp (maxSteps := 3000000) [lop, loud, callA, calleeA, callF_step h18, h18, callF_step h40, h40, callF_step h41, h41, callF_step h42, h42, callF_step h43, h43, callF_step h26, h26, callF_step h17, h17, callF_step h39, h39, annC, fx, rx, cx1, cx2, hd, hown, hdy, hoff, oKn, h0, u0, u1, u2, hr0, hr2, w0, hn, q1, hea, al1, of1, hbad, hne, w1, hcr, w2, hmn, hm, q2, of2, w3, q3, al2, x1, x2, x3, x4, x5, x6, x7, x8, x9, x10, x11, x12, x13, x14, x15, x16, x17, x18, x19, x20, x21, x22, x23, x24, x25, x26, x27, x28, x29, x30, x31, x32, x33, x34, x35, x36, x37, x38, f1, f2, f3, f4, f5, f6, f7, f8, f9, g1, g2, g3, g4, g5, e1, e2, e3, e4, c2, c3, c4, c5, t1, t2, z1, z2, z3, z4, z5, z6, z7, z8, hs, hs']; rfl) ?_)
    simp only [AEx.thn, AEx.blk]
    refine runs_seq ?_
    refine runs_seq ?_
    refine runs_reg (ops_run (by simp (maxSteps := 3000000) [lop, loud, callA, calleeA, callF_step h18, h18, callF_step h40, h40, callF_step h41, h41, callF_step h42, h42, callF_step h43, h43, callF_step h26, h26, callF_step h17, h17, callF_step h39, h39, annC, fx, rx, cx1, cx2, hd, hown, hdy, hoff, oKn, h0, u0, u1, u2, hr0, hr2, w0, hn, q1, hea, al1, of1, hbad, hne, w1, hcr, w2, hmn, hm, q2, of2, w3, q3, al2, x1, x2, x3, x4, x5, x6, x7, x8, x9, x10, x11, x12, x13, x14, x15, x16, x17, x18, x19, x20, x21, x22, x23, x24, x25, x26, x27, x28, x29, x30, x31, x32, x33, x34, x35, x36, x37, x38, f1, f2, f3, f4, f5, f6, f7, f8, f9, g1, g2, g3, g4, g5, e1, e2, e3, e4, c2, c3, c4, c5, t1, t2, z1, z2, z3, z4, z5, z6, z7, z8, hs, hs']; rfl) ?_)
    simp only [AEx.thn, AEx.blk]
    refine runs_seq ?_
    refine runs_reg (ops_run (by simp (maxSteps := 3000000) [lop, loud, callA, calleeA, callF_step h18, h18, callF_step h40, h40, callF_step h41, h41, callF_step h42, h42, callF_step h43, h43, callF_step h26, h26, callF_step h17, h17, callF_step h39, h39, annC, fx, rx, cx1, cx2, hd, hown, hdy, hoff, oKn, h0, u0, u1, u2, hr0, hr2, w0, hn, q1, hea, al1, of1, hbad, hne, w1, hcr, w2, hmn, hm, q2, of2, w3, q3, al2, x1, x2, x3, x4, x5, x6, x7, x8, x9, x10, x11, x12, x13, x14, x15, x16, x17, x18, x19, x20, x21, x22, x23, x24, x25, x26, x27, x28, x29, x30, x31, x32, x33, x34, x35, x36, x37, x38, f1, f2, f3, f4, f5, f6, f7, f8, f9, g1, g2, g3, g4, g5, e1, e2, e3, e4, c2, c3, c4, c5, t1, t2, z1, z2, z3, z4, z5, z6, z7, z8, hs, hs']; rfl) ?_)
    simp only [AEx.thn, AEx.blk]
    refine runs_cond (x := false) (by simp) ?_
    refine runs_skip ?_
    simp only [AEx.thn, AEx.blk]
    refine runs_seq ?_
    refine runs_reg (ops_run (by simp (maxSteps := 3000000) [lop, loud, callA, calleeA, callF_step h18, h18, callF_step h40, h40, callF_step h41, h41, callF_step h42, h42, callF_step h43, h43, callF_step h26, h26, callF_step h17, h17, callF_step h39, h39, annC, fx, rx, cx1, cx2, hd, hown, hdy, hoff, oKn, h0, u0, u1, u2, hr0, hr2, w0, hn, q1, hea, al1, of1, hbad, hne, w1, hcr, w2, hmn, hm, q2, of2, w3, q3, al2, x1, x2, x3, x4, x5, x6, x7, x8, x9, x10, x11, x12, x13, x14, x15, x16, x17, x18, x19, x20, x21, x22, x23, x24, x25, x26, x27, x28, x29, x30, x31, x32, x33, x34, x35, x36, x37, x38, f1, f2, f3, f4, f5, f6, f7, f8, f9, g1, g2, g3, g4, g5, e1, e2, e3, e4, c2, c3, c4, c5, t1, t2, z1, z2, z3, z4, z5, z6, z7, z8, hs, hs']; rfl) ?_)
    simp only [AEx.thn, AEx.blk]
    refine runs_seq ?_
    refine runs_drw (by simp (maxSteps := 3000000) [lop, loud, callA, calleeA, callF_step h18, h18, callF_step h40, h40, callF_step h41, h41, callF_step h42, h42, callF_step h43, h43, callF_step h26, h26, callF_step h17, h17, callF_step h39, h39, annC, fx, rx, cx1, cx2, hd, hown, hdy, hoff, oKn, h0, u0, u1, u2, hr0, hr2, w0, hn, q1, hea, al1, of1, hbad, hne, w1, hcr, w2, hmn, hm, q2, of2, w3, q3, al2, x1, x2, x3, x4, x5, x6, x7, x8, x9, x10, x11, x12, x13, x14, x15, x16, x17, x18, x19, x20, x21, x22, x23, x24, x25, x26, x27, x28, x29, x30, x31, x32, x33, x34, x35, x36, x37, x38, f1, f2, f3, f4, f5, f6, f7, f8, f9, g1, g2, g3, g4, g5, e1, e2, e3, e4, c2, c3, c4, c5, t1, t2, z1, z2, z3, z4, z5, z6, z7, z8, hs, hs']; rfl) ?_
    simp only [AEx.thn, AEx.blk]
    refine runs_ret ?_
    simp [lop, loud, callA, calleeA, callF_step h18, h18, callF_step h40, h40, callF_step h41, h41, callF_step h42, h42, callF_step h43, h43, callF_step h26, h26, callF_step h17, h17, callF_step h39, h39, annC, fx, rx, cx1, cx2, hd, hown, hdy, hoff, oKn, h0, u0, u1, u2, hr0, hr2, w0, hn, q1, hea, al1, of1, hbad, hne, w1, hcr, w2, hmn, hm, q2, of2, w3, q3, al2, x1, x2, x3, x4, x5, x6, x7, x8, x9, x10, x11, x12, x13, x14, x15, x16, x17, x18, x19, x20, x21, x22, x23, x24, x25, x26, x27, x28, x29, x30, x31, x32, x33, x34, x35, x36, x37, x38, f1, f2, f3, f4, f5, f6, f7, f8, f9, g1, g2, g3, g4, g5, e1, e2, e3, e4, c2, c3, c4, c5, t1, t2, z1, z2, z3, z4, z5, z6, z7, z8, hs, hs']
theorem law8 (za zb zw zm zt zs zr zp zk zf ze0 ze1 zg0 zg1 zh0 zh1 zz v0 v1 v2 : Int) (hg : (0 ≤ za ∧ za ≤ 65535) ∧ (0 ≤ zb ∧ zb ≤ 65535) ∧ (0 ≤ zw ∧ zw ≤ 255) ∧ (0 ≤ zm ∧ zm ≤ 255) ∧ (0 ≤ zt ∧ zt ≤ 65535) ∧ (0 ≤ zs ∧ zs ≤ 65535) ∧ (0 ≤ zr ∧ zr ≤ 255) ∧ (0 ≤ zp ∧ zp ≤ 255) ∧ (0 ≤ zk ∧ zk ≤ 65535) ∧ (0 ≤ zf ∧ zf ≤ 65535) ∧ (0 ≤ ze0 ∧ ze0 ≤ 255) ∧ (0 ≤ ze1 ∧ ze1 ≤ 255) ∧ (0 ≤ zg0 ∧ zg0 ≤ 255) ∧ (0 ≤ zg1 ∧ zg1 ≤ 255) ∧ (0 ≤ zh0 ∧ zh0 ≤ 255) ∧ (0 ≤ zh1 ∧ zh1 ≤ 255) ∧ (0 ≤ zz ∧ zz ≤ 255)) (hv : (0 ≤ v0 ∧ v0 ≤ 65535) ∧ (0 ≤ v1 ∧ v1 ≤ 65535) ∧ (0 ≤ v2 ∧ v2 ≤ 65535)) :
    Answers Try.prog PM 8 [.agg [.int .u16 za, .int .u16 zb, .int .u8 zw, .int .u8 zm, .int .u16 zt, .int .u16 zs, .int .u8 zr, .int .u8 zp, .int .u16 zk, .int .u16 zf, .int .u8 ze0, .int .u8 ze1, .int .u8 zg0, .int .u8 zg1, .int .u8 zh0, .int .u8 zh1, .int .u8 zz], .agg [.int .u16 v0, .int .u16 v1, .int .u16 v2]] [] fun v _ => v = .bool true := a8 Try.prog PM rfl rfl rfl rfl rfl rfl rfl rfl rfl za zb zw zm zt zs zr zp zk zf ze0 ze1 zg0 zg1 zh0 zh1 zz v0 v1 v2 hg hv
end
end Go.Proofs.Ytfnnonoffiljhaa.Tab

namespace Go.Proofs.Ytfnnonoffiljhaa
open Go Go.Abs Go.Proofs Go.ChangeShapes Go.WideShapes Go.ChangeAt Go.RowKit
set_option maxRecDepth 100000 in
theorem farthing_lifted (os : Os) (started : os.Started) (H : Type) (enc : TypeId × Value → H) :
    ReturnsInHanded {} Try.checked os 8 .any (Rows.priceFarthingSpec.pre6 enc Try.prog Try.f8 [] false) (Rows.priceFarthingSpec.post enc Try.prog Try.f8 false true false false) := by
  refine returnsInHanded_of_change (C := Try.checked) own started (by kernel_rfl) Try.func8
    (ChangeSpec.witness6 (enc := enc) (C := Try.checked) false ⟨#[], #[.agg #[.int .u16 0, .int .u16 0, .int .u8 0, .int .u8 0, .int .u16 0, .int .u16 0, .int .u8 0, .int .u8 0, .int .u16 0, .int .u16 0, .int .u8 0, .int .u8 0, .int .u8 0, .int .u8 0, .int .u8 0, .int .u8 0, .int .u8 0], .agg #[.int .u16 0, .int .u16 0, .int .u16 0]], []⟩ 12 (by kernel_rfl) (by kernel_rfl) (by kernel_rfl) (by kernel_rfl)) ?_
  intro W base args ds gs before hval0 hW _ _
  have hval : ∀ (j : Nat) t v, Try.f8.params[j]? = some t → args[j]? = some v → Value.okWide Try.prog W .any base t v := hval0
  have hW' := hW
  obtain ⟨p, q, hA0, hV, rfl, hfz, hnd⟩ := hW
  have hA : DataW.TrodAll enc Try.prog W 0 (fun _ => true) true Try.f8.params.toList args.toList ds p := hA0
  rw [Try.params8] at hA hval
  obtain ⟨v0, vs0, d0, ds0, p0, q0, hargs, rfl, rfl, h0, r0⟩ := trodAll_cons hA
  obtain ⟨v1, vs1, d1, ds1, p1, q1, rfl, rfl, rfl, h1, r1⟩ := trodAll_cons r0
  obtain ⟨rfl, rfl, rfl⟩ := trodAll_nil r1
  obtain rfl : args = #[v0, v1] := by cases args; simp_all
  obtain ⟨rfl, rfl⟩ := trodVars_none hV
  have lt0 : ∀ x ∈ p0, x.block < W.heap.size := by obtain ⟨m, hm⟩ := h0; exact DataW.trod_lt m _ _ _ hm
  have lt1 : ∀ x ∈ p1, x.block < W.heap.size := by obtain ⟨m, hm⟩ := h1; exact DataW.trod_lt m _ _ _ hm
  obtain ⟨x0, e0, f0⟩ := open_struct Try.underlying67 (L := [.int .u16, .int .u16, .int .u8, .int .u8, .int .u16, .int .u16, .int .u8, .int .u8, .int .u16, .int .u16, .int .u8, .int .u8, .int .u8, .int .u8, .int .u8, .int .u8, .int .u8]) (by kernel_rfl) (hval 0 _ v0 rfl rfl) h0
  obtain ⟨za, zb, zw, zm, zt, zs, zr, zp, zk, zf, ze0, ze1, zg0, zg1, zh0, zh1, zz, rfl, hg0⟩ := fits_offer f0
  obtain ⟨x1, e1, f1⟩ := open_array Try.underlying68 (L := [.int .u16, .int .u16, .int .u16]) (by kernel_rfl) (hval 1 _ v1 rfl rfl) h1
  obtain ⟨va, vb, vc, rfl, hv1⟩ := fits_w3 f1
  refine (law_calls Tab.mixed Tab.PM_ok (fun g r hg => by cases hg) (xs := [.agg [.int .u16 za, .int .u16 zb, .int .u8 zw, .int .u8 zm, .int .u16 zt, .int .u16 zs, .int .u8 zr, .int .u8 zp, .int .u16 zk, .int .u16 zf, .int .u8 ze0, .int .u8 ze1, .int .u8 zg0, .int .u8 zg1, .int .u8 zh0, .int .u8 zh1, .int .u8 zz], .agg [.int .u16 va, .int .u16 vb, .int .u16 vc]]) (rowR_cons e0 (rowR_cons e1 rowR_nil)) (Tab.law8 za zb zw zm zt zs zr zp zk zf ze0 ze1 zg0 zg1 zh0 zh1 zz va vb vc hg0 hv1)).mono fun e W' ⟨he, bel⟩ => ?_
  subst he
  exact ⟨_, rfl, _, _, _, [], _, [], hW', trodAll_mk1 (shut_bool Try.underlying4 _), (trodAll_cons_mk (Below.trod laidOut (by kernel_rfl) (of_decide_eq_true (by kernel_rfl)) h0 bel lt0) (trodAll_cons_mk (Below.trod laidOut (by kernel_rfl) (of_decide_eq_true (by kernel_rfl)) h1 bel lt1) trodAll_mk0)), rfl, bel.frame _, fun h => by cases h⟩

/-- THE STATEMENT. -/
theorem farthing_holds : Rows.PriceFarthingSaid :=
  OpenClaim.holds_of_wide 8 Try.f8 rfl rfl rfl rfl rfl rfl rfl ⟨rfl, rfl, rfl, rfl, rfl⟩ rfl rfl rfl rfl rfl (by kernel_rfl) Try.func8 (by kernel_rfl)
    (of_decide_eq_true (by kernel_rfl)) (by unfold Func.isWrapper; first | (rw [if_pos (by decide +kernel)]; kernel_rfl) | (rw [if_neg (by decide +kernel)]; exact ⟨rfl, rfl⟩))
    (fun os started H enc _ => farthing_lifted os started H enc)
end Go.Proofs.Ytfnnonoffiljhaa
