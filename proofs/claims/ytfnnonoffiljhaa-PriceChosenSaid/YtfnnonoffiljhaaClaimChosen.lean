/- PriceChosen, proved: for every quote in bytes, numbers and tries the law returns true, and the arguments read as before. No condition. -/
import Derived.Test.YtfnnonoffiljhaaBaW
import Derived.Test.YtfnnonoffiljhaaBaN
import Derived.OpenShut
set_option linter.unusedSimpArgs false
set_option linter.unusedVariables false
namespace Go.Proofs.Ytfnnonoffiljhaa
open Go Go.Abs Go.Proofs
theorem u8_wf {n : Int} (h : (Lit.int .u8 n).wf = true) : 0 ≤ n ∧ n ≤ 255 := by
  have e1 : IntKind.u8.min = 0 := rfl
  have e2 : IntKind.u8.max = 255 := rfl
  simp only [Lit.wf, e1, e2, Bool.and_eq_true, decide_eq_true_eq] at h
  exact h
theorem u16_wf {n : Int} (h : (Lit.int .u16 n).wf = true) : 0 ≤ n ∧ n ≤ 65535 := by
  have e1 : IntKind.u16.min = 0 := rfl
  have e2 : IntKind.u16.max = 65535 := rfl
  simp only [Lit.wf, e1, e2, Bool.and_eq_true, decide_eq_true_eq] at h
  exact h
theorem fits_u {Ls : List Ly} {xs : List AVal} (h : FitsR (.int .u8 :: Ls) xs) : ∃ (a : Int) (ys : List AVal), xs = .int .u8 a :: ys ∧ (0 ≤ a ∧ a ≤ 255) ∧ FitsR Ls ys := by
  obtain ⟨x, ys, rfl, hx, h1⟩ := fitsR_cons h
  obtain ⟨a, rfl, ha⟩ := fits_int hx
  exact ⟨a, ys, rfl, u8_wf ha, h1⟩
theorem fits_w {Ls : List Ly} {xs : List AVal} (h : FitsR (.int .u16 :: Ls) xs) : ∃ (a : Int) (ys : List AVal), xs = .int .u16 a :: ys ∧ (0 ≤ a ∧ a ≤ 65535) ∧ FitsR Ls ys := by
  obtain ⟨x, ys, rfl, hx, h1⟩ := fitsR_cons h
  obtain ⟨a, rfl, ha⟩ := fits_int hx
  exact ⟨a, ys, rfl, u16_wf ha, h1⟩
theorem fits_offer {xs : List AVal} (h : FitsR [.int .u16, .int .u16, .int .u8, .int .u8, .int .u16, .int .u16, .int .u8, .int .u8, .int .u16, .int .u16, .int .u8, .int .u8, .int .u8, .int .u8, .int .u8, .int .u8, .int .u8] xs) : ∃ za zb zw zm zt zs zr zp zk zf ze0 ze1 zg0 zg1 zh0 zh1 zz : Int, xs = [.int .u16 za, .int .u16 zb, .int .u8 zw, .int .u8 zm, .int .u16 zt, .int .u16 zs, .int .u8 zr, .int .u8 zp, .int .u16 zk, .int .u16 zf, .int .u8 ze0, .int .u8 ze1, .int .u8 zg0, .int .u8 zg1, .int .u8 zh0, .int .u8 zh1, .int .u8 zz] ∧ (0 ≤ za ∧ za ≤ 65535) ∧ (0 ≤ zb ∧ zb ≤ 65535) ∧ (0 ≤ zw ∧ zw ≤ 255) ∧ (0 ≤ zm ∧ zm ≤ 255) ∧ (0 ≤ zt ∧ zt ≤ 65535) ∧ (0 ≤ zs ∧ zs ≤ 65535) ∧ (0 ≤ zr ∧ zr ≤ 255) ∧ (0 ≤ zp ∧ zp ≤ 255) ∧ (0 ≤ zk ∧ zk ≤ 65535) ∧ (0 ≤ zf ∧ zf ≤ 65535) ∧ (0 ≤ ze0 ∧ ze0 ≤ 255) ∧ (0 ≤ ze1 ∧ ze1 ≤ 255) ∧ (0 ≤ zg0 ∧ zg0 ≤ 255) ∧ (0 ≤ zg1 ∧ zg1 ≤ 255) ∧ (0 ≤ zh0 ∧ zh0 ≤ 255) ∧ (0 ≤ zh1 ∧ zh1 ≤ 255) ∧ (0 ≤ zz ∧ zz ≤ 255) := by
  obtain ⟨za, ys, rfl, bza, h⟩ := fits_w h
  obtain ⟨zb, ys, rfl, bzb, h⟩ := fits_w h
  obtain ⟨zw, ys, rfl, bzw, h⟩ := fits_u h
  obtain ⟨zm, ys, rfl, bzm, h⟩ := fits_u h
  obtain ⟨zt, ys, rfl, bzt, h⟩ := fits_w h
  obtain ⟨zs, ys, rfl, bzs, h⟩ := fits_w h
  obtain ⟨zr, ys, rfl, bzr, h⟩ := fits_u h
  obtain ⟨zp, ys, rfl, bzp, h⟩ := fits_u h
  obtain ⟨zk, ys, rfl, bzk, h⟩ := fits_w h
  obtain ⟨zf, ys, rfl, bzf, h⟩ := fits_w h
  obtain ⟨ze0, ys, rfl, bze0, h⟩ := fits_u h
  obtain ⟨ze1, ys, rfl, bze1, h⟩ := fits_u h
  obtain ⟨zg0, ys, rfl, bzg0, h⟩ := fits_u h
  obtain ⟨zg1, ys, rfl, bzg1, h⟩ := fits_u h
  obtain ⟨zh0, ys, rfl, bzh0, h⟩ := fits_u h
  obtain ⟨zh1, ys, rfl, bzh1, h⟩ := fits_u h
  obtain ⟨zz, ys, rfl, bzz, h⟩ := fits_u h
  obtain rfl := fitsR_nil h
  exact ⟨za, zb, zw, zm, zt, zs, zr, zp, zk, zf, ze0, ze1, zg0, zg1, zh0, zh1, zz, rfl, bza, bzb, bzw, bzm, bzt, bzs, bzr, bzp, bzk, bzf, bze0, bze1, bzg0, bzg1, bzh0, bzh1, bzz⟩
theorem fits_w3 {xs : List AVal} (h : FitsR [.int .u16, .int .u16, .int .u16] xs) : ∃ a b c : Int, xs = [.int .u16 a, .int .u16 b, .int .u16 c] ∧ (0 ≤ a ∧ a ≤ 65535) ∧ (0 ≤ b ∧ b ≤ 65535) ∧ (0 ≤ c ∧ c ≤ 65535) := by
  obtain ⟨a, ys, rfl, ha, h⟩ := fits_w h
  obtain ⟨b, ys, rfl, hb, h⟩ := fits_w h
  obtain ⟨c, ys, rfl, hc, h⟩ := fits_w h
  obtain rfl := fitsR_nil h
  exact ⟨a, b, c, rfl, ha, hb, hc⟩
theorem fits_words {x : AVal} (h : Fits (.sl [.int .u16]) x) : ∃ bs : List Int, rowsV x = some (bs.map fun b => [.int .u16 b]) ∧ ∀ b ∈ bs, 0 ≤ b ∧ b ≤ 65535 := by
  obtain ⟨rs, hx, hrs⟩ := fits_rows h
  obtain ⟨vs, rfl, hvs⟩ : ∃ vs : List Int, rs = vs.map (fun b => [AVal.int .u16 b]) ∧ ∀ v ∈ vs, 0 ≤ v ∧ v ≤ 65535 := by
    clear hx h
    induction rs with
    | nil => exact ⟨[], rfl, by simp⟩
    | cons r rs ih =>
      obtain ⟨v, ys, rfl, hv, h⟩ := fits_w (hrs r (by simp))
      obtain rfl := fitsR_nil h
      obtain ⟨vs, rfl, hvs⟩ := ih fun r hr => hrs r (by simp [hr])
      exact ⟨v :: vs, rfl, fun w hw => by
        rcases List.mem_cons.1 hw with rfl | hw
        · exact hv
        · exact hvs w hw⟩
  refine ⟨vs, ?_, hvs⟩
  rcases hx with ⟨rfl, h0⟩ | ⟨t, rfl⟩
  · show some [] = some _
    exact congrArg some h0.symm
  · rfl
end Go.Proofs.Ytfnnonoffiljhaa

namespace Go.Proofs.Ytfnnonoffiljhaa.Tab
open Go Go.Abs Go.Proofs
set_option maxRecDepth 100000
set_option maxHeartbeats 4000000
set_option linter.unusedSimpArgs false
set_option linter.unusedVariables false
section
attribute [local simp] frz_int frz_bool frz_vl frz_pv frz_agg frz_tup frz_fn frz_ref frz_sl frz_nils optAll orcF rb_int rb_bool rb_agg rb_tup rb_int' rb_bool' rb_vl rb_pv rb_yld rb_nilf rb_nilp rb_nils rb_any rb_und rb_ref rb_sl rb_fn slE chunk fillA evParts evParts3 putAt List.range_succ List.range_zero List.range'_succ List.range'_zero runX_nil' unary_not evalS_pure evAll_nil evAll_cons runX_cons stepX wantedA dop CV.ev putK_eq setK_eq appK_eq fA_eq fI_eq fN_eq fRow_eq fRows_eq nth_eq Out.v putT List.replicate_succ AEx.thn AEx.blk arI pointee Abs.rowAt ldRow allV toV toC ofV ofC Builtin.min_ Builtin.min2 Builtin.max_ Builtin.max2 min_if max_if resA tupA kill trim_self trim_len trim_emp trim_nil lenA
attribute [local simp] runD_nil' runD_cons' stepD actK_eq actD clash disj masks holes maskH unmaskH diffs news eqB allB eqA ldRowN wrote toCs ofCs stA rowsV_vl rowsV_nils rowsOf dI1 dI2 dI3 dI5 elt
attribute [local simp] st_any st_und st_agg st_tup st_bool st_int st_nilp st_ref st_pv st_nils st_sl st_vl st_nilm st_mp st_fn st_nilf st_yld co_any co_und co_agg co_tup co_bool co_int co_nilp co_ref co_pv co_nils co_sl co_vl co_nilm co_mp co_fn co_nilf co_yld
theorem a9 (P : Program) (T : Nat → Option CFn) (hT : T 9 = some c9) (h18 : T 18 = some { c18 with frsh := true, orc := oOwnQ }) (h19 : T 19 = some { c19 with frsh := true, orc := oCheapest }) (h40 : T 40 = some { c40 with frsh := true, orc := oQuote }) (h23 : T 23 = some { c23 with frsh := true, orc := oMore }) (h17 : T 17 = some { c17 with frsh := true, orc := oKn }) (h39 : T 39 = some { (annC c39 [(62, [.cell 3 10])] []) with frsh := true, orc := oOffer }) (h22 : T 22 = some { c22 with frsh := true, orc := oBudget }) (za zb zw zm zt zs zr zp zk zf ze0 ze1 zg0 zg1 zh0 zh1 zz v0 v1 v2 : Int) (ts : AVal) (xs : List Int) (hg : (0 ≤ za ∧ za ≤ 65535) ∧ (0 ≤ zb ∧ zb ≤ 65535) ∧ (0 ≤ zw ∧ zw ≤ 255) ∧ (0 ≤ zm ∧ zm ≤ 255) ∧ (0 ≤ zt ∧ zt ≤ 65535) ∧ (0 ≤ zs ∧ zs ≤ 65535) ∧ (0 ≤ zr ∧ zr ≤ 255) ∧ (0 ≤ zp ∧ zp ≤ 255) ∧ (0 ≤ zk ∧ zk ≤ 65535) ∧ (0 ≤ zf ∧ zf ≤ 65535) ∧ (0 ≤ ze0 ∧ ze0 ≤ 255) ∧ (0 ≤ ze1 ∧ ze1 ≤ 255) ∧ (0 ≤ zg0 ∧ zg0 ≤ 255) ∧ (0 ≤ zg1 ∧ zg1 ≤ 255) ∧ (0 ≤ zh0 ∧ zh0 ≤ 255) ∧ (0 ≤ zh1 ∧ zh1 ≤ 255) ∧ (0 ≤ zz ∧ zz ≤ 255)) (hv : (0 ≤ v0 ∧ v0 ≤ 65535) ∧ (0 ≤ v1 ∧ v1 ≤ 65535) ∧ (0 ≤ v2 ∧ v2 ≤ 65535)) (hts : rowsV ts = some (xs.map fun b => [.int .u16 b])) (hxs : ∀ b ∈ xs, 0 ≤ b ∧ b ≤ 65535) :
    Answers P T 9 [.agg [.int .u16 za, .int .u16 zb, .int .u8 zw, .int .u8 zm, .int .u16 zt, .int .u16 zs, .int .u8 zr, .int .u8 zp, .int .u16 zk, .int .u16 zf, .int .u8 ze0, .int .u8 ze1, .int .u8 zg0, .int .u8 zg1, .int .u8 zh0, .int .u8 zh1, .int .u8 zz], .agg [.int .u16 v0, .int .u16 v1, .int .u16 v2], ts] [] fun v _ => v = .bool true := by
  obtain ⟨q, x, hoff, hx, h0, hl3⟩ := offer_ex za zb zw zm zt zs zr zp zk zf ze0 ze1 zg0 zg1 zh0 zh1 zz hg
  obtain ⟨bv0, bv1, bv2⟩ := hv
  have hl : q.steps.length ≤ 1000 := by omega
  have hd := dQ_vQ hx hl
  have fx := fun H d => rowsV_frz hx H d
  have rx := fun n d => rowsV_rb hx n d
  obtain ⟨cx1, cx2⟩ := rowsV_cells hx
  have hown : oOwnQ [vQ q x] = some (vQ q (.vl (q.steps.map rP) (q.steps.length == 0))) := by simp [oOwnQ, hd]
  generalize (q.steps.length == 0) = tt at hown
  have hdy : dQ (vQ q (.vl (q.steps.map rP) tt)) = some q := dQ_vQ rfl hl
  have hquo : ∀ n, 1 ≤ n → n ≤ 100000 → oQuote [vQ q (.vl (q.steps.map rP) tt), I n] = some (.tup [vP (partsI q n), I (priceI q n), I 0]) := fun n a b => by
    have hE : errN q n = 0 := by simp [errN, h0, a, b]
    simp only [oQuote, hdy, hE, if_true]
  clear hl3
  simp only [vQ, vP] at hd hown hdy hquo hoff
  have lts := rowsV_len hts
  rw [List.length_map] at lts
  have w0 := wv16 bv0
  have w1 := wv16 bv1
  have m0 := Int.tmod_nonneg 50000 bv0.1
  have m0' := Int.tmod_lt_of_pos v0 (show (0 : Int) < 50000 by decide)
  have m1 := Int.tmod_nonneg 2000 bv1.1
  have m1' := Int.tmod_lt_of_pos v1 (show (0 : Int) < 2000 by decide)
  generalize hr0 : v0.tmod 50000 = r0 at *
  generalize hr1 : v1.tmod 2000 = r1 at *
  have w2 : W .i64 (1 + r0) = 1 + r0 := W_fit (by omega)
  have w3 : W .i64 (1 + r0 + r1) = 1 + r0 + r1 := W_fit (by omega)
  generalize hlo : 1 + r0 = lo at *
  generalize hhi : lo + r1 = hi at *
  have hlo1 : 1 ≤ lo := by omega
  have hlo2 : lo ≤ 100000 := by omega
  have hlh : lo ≤ hi := by omega
  have hh1 : hi ≤ 100000 := by omega
  have hS : errS q lo hi = 0 := by simp [errS, h0, hlo1, hlh, hh1]; omega
  have cs := cheapQ_spec h0 hlo1 hlh hh1
  have hche : oCheapest [.agg [I q.area, I q.board, I q.waste, I q.tool, I q.setup, I q.run, I q.work, I q.pallet, I q.freight, I q.margin, .vl (q.steps.map rP) tt], .agg [I lo, I hi]] = some (.tup [I (cheapQ q lo hi), I 0]) := by
    simp only [oCheapest, hdy, hS, if_true]
  obtain ⟨cs1, cs2, cs3⟩ := cs
  generalize hbest : cheapQ q lo hi = best at *
  have hb1 : 1 ≤ best := by omega
  have hb2 : best ≤ 100000 := by omega
  have q1 := hquo best hb1 hb2
  have pb1 := (price_bd h0 (n := best) ⟨hb1, hb2⟩).2.2
  have n1 : ¬ best < lo := by omega
  have n2 : ¬ hi < best := by omega
  have n3 : ¬ priceI q best < 0 := by omega
  have n4 : ¬ 1099511627776 < priceI q best := by omega
  refine answers_of hT (orcF_none rfl) ?_
  simp only [c9]
  refine runs_seq ?_
  refine runs_reg (ops_run (by simp [lop, loud, callA, calleeA, callF_step h18, h18, callF_step h19, h19, callF_step h40, h40, callF_step h23, h23, callF_step h17, h17, callF_step h22, h22, callF_step h39, h39, annC, fx, rx, cx1, cx2, hd, hown, hdy, hoff, oKn, h0, w0, w1, w2, w3, hr0, hr1, hlo, hhi, hche, q1, n1, n2, n3, n4, lts, -lenA]; rfl) ?_)
  simp only [AEx.thn, AEx.blk]
  refine runs_seq ?_
  refine runs_reg (ops_run (by simp [lop, loud, callA, calleeA, callF_step h18, h18, callF_step h19, h19, callF_step h40, h40, callF_step h23, h23, callF_step h17, h17, callF_step h22, h22, callF_step h39, h39, annC, fx, rx, cx1, cx2, hd, hown, hdy, hoff, oKn, h0, w0, w1, w2, w3, hr0, hr1, hlo, hhi, hche, q1, n1, n2, n3, n4, lts, -lenA]; rfl) ?_)
  simp only [AEx.thn, AEx.blk]
  refine runs_seq ?_
  refine runs_reg (ops_run (by simp [lop, loud, callA, calleeA, callF_step h18, h18, callF_step h19, h19, callF_step h40, h40, callF_step h23, h23, callF_step h17, h17, callF_step h22, h22, callF_step h39, h39, annC, fx, rx, cx1, cx2, hd, hown, hdy, hoff, oKn, h0, w0, w1, w2, w3, hr0, hr1, hlo, hhi, hche, q1, n1, n2, n3, n4, lts, -lenA]; rfl) ?_)
  simp only [AEx.thn, AEx.blk]
  refine runs_seq ?_
  refine runs_reg (ops_run (by simp [lop, loud, callA, calleeA, callF_step h18, h18, callF_step h19, h19, callF_step h40, h40, callF_step h23, h23, callF_step h17, h17, callF_step h22, h22, callF_step h39, h39, annC, fx, rx, cx1, cx2, hd, hown, hdy, hoff, oKn, h0, w0, w1, w2, w3, hr0, hr1, hlo, hhi, hche, q1, n1, n2, n3, n4, lts, -lenA]; rfl) ?_)
  simp only [AEx.thn, AEx.blk]
  refine runs_seq ?_
  refine runs_drw (by simp (maxSteps := 3000000) [lop, loud, callA, calleeA, callF_step h18, h18, callF_step h19, h19, callF_step h40, h40, callF_step h23, h23, callF_step h17, h17, callF_step h22, h22, callF_step h39, h39, annC, fx, rx, cx1, cx2, hd, hown, hdy, hoff, oKn, h0, w0, w1, w2, w3, hr0, hr1, hlo, hhi, hche, q1, n1, n2, n3, n4, lts, -lenA]; rfl) ?_
  simp only [AEx.thn, AEx.blk]
  refine runs_seq ?_
  refine runs_seq ?_
  refine runs_reg (ops_run (by simp [lop, loud, callA, calleeA, callF_step h18, h18, callF_step h19, h19, callF_step h40, h40, callF_step h23, h23, callF_step h17, h17, callF_step h22, h22, callF_step h39, h39, annC, fx, rx, cx1, cx2, hd, hown, hdy, hoff, oKn, h0, w0, w1, w2, w3, hr0, hr1, hlo, hhi, hche, q1, n1, n2, n3, n4, lts, -lenA]; rfl) ?_)
  simp only [AEx.thn, AEx.blk]
  refine runs_cond (x := false) (by simp) ?_
  refine runs_skip ?_
  simp only [AEx.thn, AEx.blk]
  refine runs_seq ?_
  refine runs_reg (ops_run (by simp [lop, loud, callA, calleeA, callF_step h18, h18, callF_step h19, h19, callF_step h40, h40, callF_step h23, h23, callF_step h17, h17, callF_step h22, h22, callF_step h39, h39, annC, fx, rx, cx1, cx2, hd, hown, hdy, hoff, oKn, h0, w0, w1, w2, w3, hr0, hr1, hlo, hhi, hche, q1, n1, n2, n3, n4, lts, -lenA]; rfl) ?_)
  simp only [AEx.thn, AEx.blk]
  refine runs_seq ?_
  refine runs_seq ?_
  refine runs_reg (ops_run (by simp [lop, loud, callA, calleeA, callF_step h18, h18, callF_step h19, h19, callF_step h40, h40, callF_step h23, h23, callF_step h17, h17, callF_step h22, h22, callF_step h39, h39, annC, fx, rx, cx1, cx2, hd, hown, hdy, hoff, oKn, h0, w0, w1, w2, w3, hr0, hr1, hlo, hhi, hche, q1, n1, n2, n3, n4, lts, -lenA]; rfl) ?_)
  simp only [AEx.thn, AEx.blk]
  refine runs_cond (x := false) (by simp) ?_
  refine runs_skip ?_
  simp only [AEx.thn, AEx.blk]
  refine runs_seq ?_
  refine runs_seq ?_
  refine runs_reg (ops_run (by simp [lop, loud, callA, calleeA, callF_step h18, h18, callF_step h19, h19, callF_step h40, h40, callF_step h23, h23, callF_step h17, h17, callF_step h22, h22, callF_step h39, h39, annC, fx, rx, cx1, cx2, hd, hown, hdy, hoff, oKn, h0, w0, w1, w2, w3, hr0, hr1, hlo, hhi, hche, q1, n1, n2, n3, n4, lts, -lenA]; rfl) ?_)
  simp only [AEx.thn, AEx.blk]
  refine runs_block ?_
  refine runs_loop_inv (fun m σ => ∃ (k : Nat) (i : Int), i = k ∧ xs.length - k = m ∧ k ≤ xs.length ∧ σ = ⟨[.any, .any, ts, .any, .any, .any, .any, .ref 2 0 0, I lo, .ref 3 0 0, I best, .any, .any, I (priceI q best), .any, I i, .any, .any, .any, .any, .any, .any, .any, .any, .any, .any, .any, .any, .any, .any, .any, .any, .any, .any, .any, .any, .any, .any, .any, .any, .any, .any, .any, .any, .any, .any, .any, .any, .any, .any, .any, .any, .any, .any, .any, .any, .any, .any, .any, .any, .any, .any, .any, .any, .any, .any, .any, .any, .any, .any, .any, .any, .any, .any, .any, .any, .any, .any, .any, .any, .any, .any, .any, .any, .any, .any, .any, .any, .any, .any, .any, .any, .any, .any, .any, .any, .any, .any, .any, .any, .any, .any, .any, .any, .any, .any, .any, .any, .any, .any, .any, .any, .any, .any, .any, .any, .any, .any, .any, .any, .any, .any, .any, .any, .any, .any, .any, .any, .any, .any, .any, .any, .any, .any, .any, .any, .any, .any, .any, .any, .any, .any, .any, .any, .any, .any, .any, .any, .any, .any, .any, .any, .any, .any, .any, .any, .any, .any, .any, .any, .any, .any, .any, .any, .any, .any, .any, .any, .any, .any, .any, .any, .any, .any, .any, .any, .any, .any, .any, .any, .any, .any, .any, .any, .any, .any, .any, .any, .any, .any, .any, .any, .any, .any, .any, .any, .any, .any, .any, .any, .any, .any, .any, .any, .any, .any, .any, .any, .any, .any, .any, .any, .any, .any, .any, .any, .any, .any, .any, .any, .any, .any, .any, .any, .any, .any, .any, .any, .any, .any, .any, .any, .any, .any, .any, .any, .any, .any, .any, .any, .any, .any, .any, .any, .any, .any, .any, .any, .any, .any, .any, .any, .any, .any, .any, .any, .any, .any, .any, .any, .any, .any, .any, .any], [some (.row 17 [[.int .u16 za, .int .u16 zb, .int .u8 zw, .int .u8 zm, .int .u16 zt, .int .u16 zs, .int .u8 zr, .int .u8 zp, .int .u16 zk, .int .u16 zf, .int .u8 ze0, .int .u8 ze1, .int .u8 zg0, .int .u8 zg1, .int .u8 zh0, .int .u8 zh1, .int .u8 zz]]), some (.row 3 [[.int .u16 v0, .int .u16 v1, .int .u16 v2]]), some (.row 11 [[I q.area, I q.board, I q.waste, I q.tool, I q.setup, I q.run, I q.work, I q.pallet, I q.freight, I q.margin, x]]), some (.row 2 [[I lo, I hi]]), none, none, none, none, none, none, none, none, none, some (.row 5 [[I (partsI q best).board, I (partsI q best).tool, I (partsI q best).setup, I (partsI q best).work, I (partsI q best).freight]])]⟩) ?_ (xs.length - 0) _ ⟨0, 0, rfl, rfl, Nat.zero_le _, by simp⟩
  rintro m σ ⟨k, i, hik, rfl, hkl, rfl⟩
  by_cases hlt : i < (xs.length : Int)
  · by_cases hlt2 : i < 30
    · have hk0 : k < xs.length := by omega
      obtain ⟨tq, rfl⟩ := rowsV_get hts (k := k) (by rw [List.length_map]; omega)
      have hi0 : 0 ≤ i := by omega
      have htn : i.toNat = k := by omega
      have bt := hxs _ (List.getElem_mem hk0)
      generalize hs : xs[k] = t at *
      have wt := wv16 bt
      have wi : W .i64 (i + 1) = i + 1 := W_small (by omega)
      have we : W .i64 (hi - lo) = hi - lo := W_fit (by omega)
      have wf : W .i64 (hi - lo + 1) = hi - lo + 1 := W_fit (by omega)
      have hne : ¬ hi - lo + 1 = 0 := by omega
      have mt := Int.tmod_nonneg (hi - lo + 1) bt.1
      have mt' := Int.tmod_lt_of_pos t (show 0 < hi - lo + 1 by omega)
      generalize hmt : t.tmod (hi - lo + 1) = u at *
      have wg : W .i64 (lo + u) = lo + u := W_fit (by omega)
      generalize hN : lo + u = n at *
      have hn1 : 1 ≤ n := by omega
      have hn2 : n ≤ 100000 := by omega
      have q2 := hquo n hn1 hn2
      have pb2 := (price_bd h0 (n := n) ⟨hn1, hn2⟩).2.2
      have n5 : ¬ priceI q n < 0 := by omega
      have n6 : ¬ 1099511627776 < priceI q n := by omega
      obtain ⟨c1, c2⟩ := cs3 n (by omega) (by omega)
      have e1 := mul_bd pb2.1 pb2.2 (show 0 ≤ best by omega) hb2
      have e2 := mul_bd pb1.1 pb1.2 (show 0 ≤ n by omega) hn2
      have wh : W .i64 (priceI q n * best) = priceI q n * best := W_fit (by omega)
      have wj : W .i64 (priceI q best * n) = priceI q best * n := W_fit (by omega)
      refine runs_seq ?_
      refine runs_seq ?_
      refine runs_reg (ops_run (by simp [lop, loud, callA, calleeA, callF_step h18, h18, callF_step h19, h19, callF_step h40, h40, callF_step h23, h23, callF_step h17, h17, callF_step h22, h22, callF_step h39, h39, annC, fx, rx, cx1, cx2, hd, hown, hdy, hoff, oKn, h0, w0, w1, w2, w3, hr0, hr1, hlo, hhi, hche, q1, n1, n2, n3, n4, lts, -lenA, hlt, hlt2, hi0, htn, hk0, hs, wt, wi, we, wf, hne, hmt, wg, hN, q2, n5, n6, c1, wh, wj]; rfl) ?_)
      simp only [AEx.thn, AEx.blk]
      refine runs_cond (x := true) (by simp) ?_
      by_cases hnb : n < best
      · have c3 : ¬ priceI q n * best = priceI q best * n := c2 hnb
        refine runs_skip ?_
        simp only [AEx.thn, AEx.blk]
        refine runs_seq ?_
        refine runs_block ?_
        refine runs_seq ?_
        refine runs_drw (by simp (maxSteps := 3000000) [lop, loud, callA, calleeA, callF_step h18, h18, callF_step h19, h19, callF_step h40, h40, callF_step h23, h23, callF_step h17, h17, callF_step h22, h22, callF_step h39, h39, annC, fx, rx, cx1, cx2, hd, hown, hdy, hoff, oKn, h0, w0, w1, w2, w3, hr0, hr1, hlo, hhi, hche, q1, n1, n2, n3, n4, lts, -lenA, hlt, hlt2, hi0, htn, hk0, hs, wt, wi, we, wf, hne, hmt, wg, hN, q2, n5, n6, c1, wh, wj, hnb, c3]; rfl) ?_
        simp only [AEx.thn, AEx.blk]
        refine runs_seq ?_
        refine runs_reg (ops_run (by simp [lop, loud, callA, calleeA, callF_step h18, h18, callF_step h19, h19, callF_step h40, h40, callF_step h23, h23, callF_step h17, h17, callF_step h22, h22, callF_step h39, h39, annC, fx, rx, cx1, cx2, hd, hown, hdy, hoff, oKn, h0, w0, w1, w2, w3, hr0, hr1, hlo, hhi, hche, q1, n1, n2, n3, n4, lts, -lenA, hlt, hlt2, hi0, htn, hk0, hs, wt, wi, we, wf, hne, hmt, wg, hN, q2, n5, n6, c1, wh, wj, hnb, c3]; rfl) ?_)
        simp only [AEx.thn, AEx.blk]
        refine runs_seq ?_
        refine runs_reg (ops_run (by simp [lop, loud, callA, calleeA, callF_step h18, h18, callF_step h19, h19, callF_step h40, h40, callF_step h23, h23, callF_step h17, h17, callF_step h22, h22, callF_step h39, h39, annC, fx, rx, cx1, cx2, hd, hown, hdy, hoff, oKn, h0, w0, w1, w2, w3, hr0, hr1, hlo, hhi, hche, q1, n1, n2, n3, n4, lts, -lenA, hlt, hlt2, hi0, htn, hk0, hs, wt, wi, we, wf, hne, hmt, wg, hN, q2, n5, n6, c1, wh, wj, hnb, c3]; rfl) ?_)
        simp only [AEx.thn, AEx.blk]
        refine runs_cond (x := false) (by simp [c3]) ?_
        refine runs_skip ?_
        simp only [AEx.thn, AEx.blk]
        refine runs_reg (ops_run (by simp [lop, loud, callA, calleeA, callF_step h18, h18, callF_step h19, h19, callF_step h40, h40, callF_step h23, h23, callF_step h17, h17, callF_step h22, h22, callF_step h39, h39, annC, fx, rx, cx1, cx2, hd, hown, hdy, hoff, oKn, h0, w0, w1, w2, w3, hr0, hr1, hlo, hhi, hche, q1, n1, n2, n3, n4, lts, -lenA, hlt, hlt2, hi0, htn, hk0, hs, wt, wi, we, wf, hne, hmt, wg, hN, q2, n5, n6, c1, wh, wj, hnb, c3]; rfl) ?_)
        simp only [AEx.thn, AEx.blk]
        exact ⟨xs.length - (k + 1), by omega, k + 1, i + 1, by omega, rfl, by omega, by simp [trim, rbB_row, rbB_none, lop, loud, callA, calleeA, callF_step h18, h18, callF_step h19, h19, callF_step h40, h40, callF_step h23, h23, callF_step h17, h17, callF_step h22, h22, callF_step h39, h39, annC, fx, rx, cx1, cx2, hd, hown, hdy, hoff, oKn, h0, w0, w1, w2, w3, hr0, hr1, hlo, hhi, hche, q1, n1, n2, n3, n4, lts, -lenA, hlt, hlt2, hi0, htn, hk0, hs, wt, wi, we, wf, hne, hmt, wg, hN, q2, n5, n6, c1, wh, wj, hnb, c3]⟩
      · refine runs_skip ?_
        simp only [AEx.thn, AEx.blk]
        refine runs_seq ?_
        refine runs_block ?_
        refine runs_seq ?_
        refine runs_drw (by simp (maxSteps := 3000000) [lop, loud, callA, calleeA, callF_step h18, h18, callF_step h19, h19, callF_step h40, h40, callF_step h23, h23, callF_step h17, h17, callF_step h22, h22, callF_step h39, h39, annC, fx, rx, cx1, cx2, hd, hown, hdy, hoff, oKn, h0, w0, w1, w2, w3, hr0, hr1, hlo, hhi, hche, q1, n1, n2, n3, n4, lts, -lenA, hlt, hlt2, hi0, htn, hk0, hs, wt, wi, we, wf, hne, hmt, wg, hN, q2, n5, n6, c1, wh, wj, hnb]; rfl) ?_
        simp only [AEx.thn, AEx.blk]
        refine runs_seq ?_
        refine runs_reg (ops_run (by simp [lop, loud, callA, calleeA, callF_step h18, h18, callF_step h19, h19, callF_step h40, h40, callF_step h23, h23, callF_step h17, h17, callF_step h22, h22, callF_step h39, h39, annC, fx, rx, cx1, cx2, hd, hown, hdy, hoff, oKn, h0, w0, w1, w2, w3, hr0, hr1, hlo, hhi, hche, q1, n1, n2, n3, n4, lts, -lenA, hlt, hlt2, hi0, htn, hk0, hs, wt, wi, we, wf, hne, hmt, wg, hN, q2, n5, n6, c1, wh, wj, hnb]; rfl) ?_)
        simp only [AEx.thn, AEx.blk]
        refine runs_seq ?_
        refine runs_reg (ops_run (by simp [lop, loud, callA, calleeA, callF_step h18, h18, callF_step h19, h19, callF_step h40, h40, callF_step h23, h23, callF_step h17, h17, callF_step h22, h22, callF_step h39, h39, annC, fx, rx, cx1, cx2, hd, hown, hdy, hoff, oKn, h0, w0, w1, w2, w3, hr0, hr1, hlo, hhi, hche, q1, n1, n2, n3, n4, lts, -lenA, hlt, hlt2, hi0, htn, hk0, hs, wt, wi, we, wf, hne, hmt, wg, hN, q2, n5, n6, c1, wh, wj, hnb]; rfl) ?_)
        simp only [AEx.thn, AEx.blk]
        refine runs_cond (x := false) (by simp) ?_
        refine runs_skip ?_
        simp only [AEx.thn, AEx.blk]
        refine runs_reg (ops_run (by simp [lop, loud, callA, calleeA, callF_step h18, h18, callF_step h19, h19, callF_step h40, h40, callF_step h23, h23, callF_step h17, h17, callF_step h22, h22, callF_step h39, h39, annC, fx, rx, cx1, cx2, hd, hown, hdy, hoff, oKn, h0, w0, w1, w2, w3, hr0, hr1, hlo, hhi, hche, q1, n1, n2, n3, n4, lts, -lenA, hlt, hlt2, hi0, htn, hk0, hs, wt, wi, we, wf, hne, hmt, wg, hN, q2, n5, n6, c1, wh, wj, hnb]; rfl) ?_)
        simp only [AEx.thn, AEx.blk]
        exact ⟨xs.length - (k + 1), by omega, k + 1, i + 1, by omega, rfl, by omega, by simp [trim, rbB_row, rbB_none, lop, loud, callA, calleeA, callF_step h18, h18, callF_step h19, h19, callF_step h40, h40, callF_step h23, h23, callF_step h17, h17, callF_step h22, h22, callF_step h39, h39, annC, fx, rx, cx1, cx2, hd, hown, hdy, hoff, oKn, h0, w0, w1, w2, w3, hr0, hr1, hlo, hhi, hche, q1, n1, n2, n3, n4, lts, -lenA, hlt, hlt2, hi0, htn, hk0, hs, wt, wi, we, wf, hne, hmt, wg, hN, q2, n5, n6, c1, wh, wj, hnb]⟩
    · refine runs_seq ?_
      refine runs_seq ?_
      refine runs_reg (ops_run (by simp [lop, loud, callA, calleeA, callF_step h18, h18, callF_step h19, h19, callF_step h40, h40, callF_step h23, h23, callF_step h17, h17, callF_step h22, h22, callF_step h39, h39, annC, fx, rx, cx1, cx2, hd, hown, hdy, hoff, oKn, h0, w0, w1, w2, w3, hr0, hr1, hlo, hhi, hche, q1, n1, n2, n3, n4, lts, -lenA, hlt, hlt2]; rfl) ?_)
      simp only [AEx.thn, AEx.blk]
      refine runs_cond (x := false) (by simp) ?_
      have hmo := most_own (q := q) (l := lo) ⟨hlo1, hlo2⟩
      have hmb := mostQ_bd q (priceI q lo)
      have hms := mostQ_spec q (priceI q lo)
      have pb3 := (price_bd h0 (n := lo) ⟨hlo1, hlo2⟩).2.2
      have q3 := hquo lo hlo1 hlo2
      have hE3 : errN q lo = 0 := by simp [errN, h0, hlo1, hlo2]
      have hmz : ¬ mostQ q (priceI q lo) = 0 := by omega
      have hB : errB q (priceI q lo) = 0 := by
        have : ¬ priceI q lo < 0 := by omega
        simp [errB, h0, this, hmz]
      have hmore : oMore [.agg [I q.area, I q.board, I q.waste, I q.tool, I q.setup, I q.run, I q.work, I q.pallet, I q.freight, I q.margin, .vl (q.steps.map rP) tt], I lo] = some (.tup [I (mostQ q (priceI q lo)), I 0]) := by
        simp only [oMore, hdy, hE3, if_true]
      have hbud : oBudget [.agg [I q.area, I q.board, I q.waste, I q.tool, I q.setup, I q.run, I q.work, I q.pallet, I q.freight, I q.margin, .vl (q.steps.map rP) tt], I (priceI q lo)] = some (.tup [I (mostQ q (priceI q lo)), I 0]) := by
        simp only [oBudget, hdy, hB, if_true]
      generalize hmoney : priceI q lo = money at *
      generalize hmr : mostQ q money = more at *
      have o1 : ¬ more < lo := by omega
      have o2 : ¬ 100000 < more := by omega
      have q4 := hquo more (by omega) (by omega)
      have o3 : ¬ money < priceI q more := by rcases hms.1 with h | h <;> omega
      refine runs_exit ?_
      simp only [AEx.thn, AEx.blk, if_true, if_false, reduceIte, Nat.reduceEqDiff, Nat.succ_ne_zero, Nat.one_ne_zero, Nat.zero_ne_one]
      refine runs_seq ?_
      refine runs_reg (ops_run (by simp [lop, loud, callA, calleeA, callF_step h18, h18, callF_step h19, h19, callF_step h40, h40, callF_step h23, h23, callF_step h17, h17, callF_step h22, h22, callF_step h39, h39, annC, fx, rx, cx1, cx2, hd, hown, hdy, hoff, oKn, h0, w0, w1, w2, w3, hr0, hr1, hlo, hhi, hche, q1, n1, n2, n3, n4, lts, -lenA, hlt, hlt2, hmore, hbud, q3, q4, o1, o2, o3]; rfl) ?_)
      simp only [AEx.thn, AEx.blk]
      refine runs_seq ?_
      refine runs_reg (ops_run (by simp [lop, loud, callA, calleeA, callF_step h18, h18, callF_step h19, h19, callF_step h40, h40, callF_step h23, h23, callF_step h17, h17, callF_step h22, h22, callF_step h39, h39, annC, fx, rx, cx1, cx2, hd, hown, hdy, hoff, oKn, h0, w0, w1, w2, w3, hr0, hr1, hlo, hhi, hche, q1, n1, n2, n3, n4, lts, -lenA, hlt, hlt2, hmore, hbud, q3, q4, o1, o2, o3]; rfl) ?_)
      simp only [AEx.thn, AEx.blk]
      refine runs_seq ?_
      refine runs_reg (ops_run (by simp [lop, loud, callA, calleeA, callF_step h18, h18, callF_step h19, h19, callF_step h40, h40, callF_step h23, h23, callF_step h17, h17, callF_step h22, h22, callF_step h39, h39, annC, fx, rx, cx1, cx2, hd, hown, hdy, hoff, oKn, h0, w0, w1, w2, w3, hr0, hr1, hlo, hhi, hche, q1, n1, n2, n3, n4, lts, -lenA, hlt, hlt2, hmore, hbud, q3, q4, o1, o2, o3]; rfl) ?_)
      simp only [AEx.thn, AEx.blk]
      refine runs_seq ?_
      refine runs_seq ?_
      refine runs_reg (ops_run (by simp [lop, loud, callA, calleeA, callF_step h18, h18, callF_step h19, h19, callF_step h40, h40, callF_step h23, h23, callF_step h17, h17, callF_step h22, h22, callF_step h39, h39, annC, fx, rx, cx1, cx2, hd, hown, hdy, hoff, oKn, h0, w0, w1, w2, w3, hr0, hr1, hlo, hhi, hche, q1, n1, n2, n3, n4, lts, -lenA, hlt, hlt2, hmore, hbud, q3, q4, o1, o2, o3]; rfl) ?_)
      simp only [AEx.thn, AEx.blk]
      refine runs_cond (x := false) (by simp) ?_
      refine runs_skip ?_
      simp only [AEx.thn, AEx.blk]
      refine runs_seq ?_
      refine runs_seq ?_
      refine runs_reg (ops_run (by simp [lop, loud, callA, calleeA, callF_step h18, h18, callF_step h19, h19, callF_step h40, h40, callF_step h23, h23, callF_step h17, h17, callF_step h22, h22, callF_step h39, h39, annC, fx, rx, cx1, cx2, hd, hown, hdy, hoff, oKn, h0, w0, w1, w2, w3, hr0, hr1, hlo, hhi, hche, q1, n1, n2, n3, n4, lts, -lenA, hlt, hlt2, hmore, hbud, q3, q4, o1, o2, o3]; rfl) ?_)
      simp only [AEx.thn, AEx.blk]
      refine runs_seq ?_
      refine runs_reg (ops_run (by simp [lop, loud, callA, calleeA, callF_step h18, h18, callF_step h19, h19, callF_step h40, h40, callF_step h23, h23, callF_step h17, h17, callF_step h22, h22, callF_step h39, h39, annC, fx, rx, cx1, cx2, hd, hown, hdy, hoff, oKn, h0, w0, w1, w2, w3, hr0, hr1, hlo, hhi, hche, q1, n1, n2, n3, n4, lts, -lenA, hlt, hlt2, hmore, hbud, q3, q4, o1, o2, o3]; rfl) ?_)
      simp only [AEx.thn, AEx.blk]
      refine runs_cond (x := false) (by simp) ?_
      refine runs_skip ?_
      simp only [AEx.thn, AEx.blk]
      refine runs_seq ?_
      refine runs_seq ?_
      refine runs_reg (ops_run (by simp [lop, loud, callA, calleeA, callF_step h18, h18, callF_step h19, h19, callF_step h40, h40, callF_step h23, h23, callF_step h17, h17, callF_step h22, h22, callF_step h39, h39, annC, fx, rx, cx1, cx2, hd, hown, hdy, hoff, oKn, h0, w0, w1, w2, w3, hr0, hr1, hlo, hhi, hche, q1, n1, n2, n3, n4, lts, -lenA, hlt, hlt2, hmore, hbud, q3, q4, o1, o2, o3]; rfl) ?_)
      simp only [AEx.thn, AEx.blk]
      refine runs_block ?_
      refine runs_loop_inv (fun m σ => ∃ (k : Nat) (i : Int), i = k ∧ xs.length - k = m ∧ k ≤ xs.length ∧ σ = ⟨[.any, .any, ts, .any, .any, .any, .any, .ref 2 0 0, .any, .any, .any, .any, .any, .any, .any, .any, .any, .any, .any, .any, I more, .any, .any, I money, .any, .any, .any, .any, .any, .any, I i, .any, .any, .any, .any, .any, .any, .any, .any, .any, .any, .any, .any, .any, .any, .any, .any, .any, .any, .any, .any, .any, .any, .any, .any, .any, .any, .any, .any, .any, .any, .any, .any, .any, .any, .any, .any, .any, .any, .any, .any, .any, .any, .any, .any, .any, .any, .any, .any, .any, .any, .any, .any, .any, .any, .any, .any, .any, .any, .any, .any, .any, .any, .any, .any, .any, .any, .any, .any, .any, .any, .any, .any, .any, .any, .any, .any, .any, .any, .any, .any, .any, .any, .any, .any, .any, .any, .any, .any, .any, .any, .any, .any, .any, .any, .any, .any, .any, .any, .any, .any, .any, .any, .any, .any, .any, .any, .any, .any, .any, .any, .any, .any, .any, .any, .any, .any, .any, .any, .any, .any, .any, .any, .any, .any, .any, .any, .any, .any, .any, .any, .any, .any, .any, .any, .any, .any, .any, .any, .any, .any, .any, .any, .any, .any, .any, .any, .any, .any, .any, .any, .any, .any, .any, .any, .any, .any, .any, .any, .any, .any, .any, .any, .any, .any, .any, .any, .any, .any, .any, .any, .any, .any, .any, .any, .any, .any, .any, .any, .any, .any, .any, .any, .any, .any, .any, .any, .any, .any, .any, .any, .any, .any, .any, .any, .any, .any, .any, .any, .any, .any, .any, .any, .any, .any, .any, .any, .any, .any, .any, .any, .any, .any, .any, .any, .any, .any, .any, .any, .any, .any, .any, .any, .any, .any, .any, .any, .any, .any, .any, .any, .any, .any, .any], [some (.row 17 [[.int .u16 za, .int .u16 zb, .int .u8 zw, .int .u8 zm, .int .u16 zt, .int .u16 zs, .int .u8 zr, .int .u8 zp, .int .u16 zk, .int .u16 zf, .int .u8 ze0, .int .u8 ze1, .int .u8 zg0, .int .u8 zg1, .int .u8 zh0, .int .u8 zh1, .int .u8 zz]]), some (.row 3 [[.int .u16 v0, .int .u16 v1, .int .u16 v2]]), some (.row 11 [[I q.area, I q.board, I q.waste, I q.tool, I q.setup, I q.run, I q.work, I q.pallet, I q.freight, I q.margin, x]]), some (.row 2 [[I lo, I hi]]), none, none, none, none, none, none, none, none, none, some (.row 5 [[I (partsI q best).board, I (partsI q best).tool, I (partsI q best).setup, I (partsI q best).work, I (partsI q best).freight]]), some (.row 5 [[I (partsI q lo).board, I (partsI q lo).tool, I (partsI q lo).setup, I (partsI q lo).work, I (partsI q lo).freight]]), some (.row 5 [[I (partsI q more).board, I (partsI q more).tool, I (partsI q more).setup, I (partsI q more).work, I (partsI q more).freight]])]⟩) ?_ (xs.length - 0) _ ⟨0, 0, rfl, rfl, Nat.zero_le _, by simp⟩
      rintro m σ ⟨k, i, hik, rfl, hkl, rfl⟩
      by_cases hlt : i < (xs.length : Int)
      · by_cases hlt2 : i < 30
        · have hk0 : k < xs.length := by omega
          obtain ⟨tq, rfl⟩ := rowsV_get hts (k := k) (by rw [List.length_map]; omega)
          have hi0 : 0 ≤ i := by omega
          have htn : i.toNat = k := by omega
          have bt := hxs _ (List.getElem_mem hk0)
          generalize hs : xs[k] = t at *
          have wt := wv16 bt
          have wi : W .i64 (i + 1) = i + 1 := W_small (by omega)
          have we : W .i64 (more + 1) = more + 1 := W_fit (by omega)
          have wf : W .i64 (more + 1 + t) = more + 1 + t := W_fit (by omega)
          have mt := Int.tmod_nonneg 20 bt.1
          have mt' := Int.tmod_lt_of_pos t (show (0 : Int) < 20 by decide)
          generalize hmt : t.tmod 20 = u at *
          have wg : W .i64 (more + 1 + u) = more + 1 + u := W_fit (by omega)
          refine runs_seq ?_
          refine runs_seq ?_
          refine runs_reg (ops_run (by simp [lop, loud, callA, calleeA, callF_step h18, h18, callF_step h19, h19, callF_step h40, h40, callF_step h23, h23, callF_step h17, h17, callF_step h22, h22, callF_step h39, h39, annC, fx, rx, cx1, cx2, hd, hown, hdy, hoff, oKn, h0, w0, w1, w2, w3, hr0, hr1, hlo, hhi, hche, q1, n1, n2, n3, n4, lts, -lenA, hlt, hlt2, hmore, hbud, q3, q4, o1, o2, o3, hlt, hlt2, hi0, htn, hk0, hs, wt, wi, we, wf, hmt, wg]; rfl) ?_)
          simp only [AEx.thn, AEx.blk]
          refine runs_cond (x := true) (by simp) ?_
          refine runs_skip ?_
          simp only [AEx.thn, AEx.blk]
          refine runs_seq ?_
          refine runs_block ?_
          refine runs_seq ?_
          refine runs_reg (ops_run (by simp [lop, loud, callA, calleeA, callF_step h18, h18, callF_step h19, h19, callF_step h40, h40, callF_step h23, h23, callF_step h17, h17, callF_step h22, h22, callF_step h39, h39, annC, fx, rx, cx1, cx2, hd, hown, hdy, hoff, oKn, h0, w0, w1, w2, w3, hr0, hr1, hlo, hhi, hche, q1, n1, n2, n3, n4, lts, -lenA, hlt, hlt2, hmore, hbud, q3, q4, o1, o2, o3, hlt, hlt2, hi0, htn, hk0, hs, wt, wi, we, wf, hmt, wg]; rfl) ?_)
          simp only [AEx.thn, AEx.blk]
          refine runs_seq ?_
          refine runs_seq ?_
          refine runs_reg (ops_run (by simp [lop, loud, callA, calleeA, callF_step h18, h18, callF_step h19, h19, callF_step h40, h40, callF_step h23, h23, callF_step h17, h17, callF_step h22, h22, callF_step h39, h39, annC, fx, rx, cx1, cx2, hd, hown, hdy, hoff, oKn, h0, w0, w1, w2, w3, hr0, hr1, hlo, hhi, hche, q1, n1, n2, n3, n4, lts, -lenA, hlt, hlt2, hmore, hbud, q3, q4, o1, o2, o3, hlt, hlt2, hi0, htn, hk0, hs, wt, wi, we, wf, hmt, wg]; rfl) ?_)
          simp only [AEx.thn, AEx.blk]
          refine runs_cond_split (x := (i.tmod 2 == 0)) (by simp) (fun hev => ?_) (fun hev => ?_)
          · refine runs_reg (ops_run (by simp [lop, loud, callA, calleeA, callF_step h18, h18, callF_step h19, h19, callF_step h40, h40, callF_step h23, h23, callF_step h17, h17, callF_step h22, h22, callF_step h39, h39, annC, fx, rx, cx1, cx2, hd, hown, hdy, hoff, oKn, h0, w0, w1, w2, w3, hr0, hr1, hlo, hhi, hche, q1, n1, n2, n3, n4, lts, -lenA, hlt, hlt2, hmore, hbud, q3, q4, o1, o2, o3, hlt, hlt2, hi0, htn, hk0, hs, wt, wi, we, wf, hmt, wg]; rfl) ?_)
            simp only [AEx.thn, AEx.blk]
            refine runs_seq ?_
            refine runs_seq ?_
            refine runs_reg (ops_run (by simp [lop, loud, callA, calleeA, callF_step h18, h18, callF_step h19, h19, callF_step h40, h40, callF_step h23, h23, callF_step h17, h17, callF_step h22, h22, callF_step h39, h39, annC, fx, rx, cx1, cx2, hd, hown, hdy, hoff, oKn, h0, w0, w1, w2, w3, hr0, hr1, hlo, hhi, hche, q1, n1, n2, n3, n4, lts, -lenA, hlt, hlt2, hmore, hbud, q3, q4, o1, o2, o3, hlt, hlt2, hi0, htn, hk0, hs, wt, wi, we, wf, hmt, wg]; rfl) ?_)
            simp only [AEx.thn, AEx.blk]
            generalize hN : more + 1 + u = n at *
            by_cases hbig : 100000 < n
            · refine runs_cond (x := true) (by simp [hbig]) ?_
              refine runs_exit ?_
              simp only [AEx.thn, AEx.blk, if_true, if_false, reduceIte, Nat.reduceEqDiff, Nat.succ_ne_zero, Nat.one_ne_zero, Nat.zero_ne_one]
              refine runs_reg (ops_run (by simp [lop, loud, callA, calleeA, callF_step h18, h18, callF_step h19, h19, callF_step h40, h40, callF_step h23, h23, callF_step h17, h17, callF_step h22, h22, callF_step h39, h39, annC, fx, rx, cx1, cx2, hd, hown, hdy, hoff, oKn, h0, w0, w1, w2, w3, hr0, hr1, hlo, hhi, hche, q1, n1, n2, n3, n4, lts, -lenA, hlt, hlt2, hmore, hbud, q3, q4, o1, o2, o3, hlt, hlt2, hi0, htn, hk0, hs, wt, wi, we, wf, hmt, wg, hN]; rfl) ?_)
              simp only [AEx.thn, AEx.blk]
              exact ⟨xs.length - (k + 1), by omega, k + 1, i + 1, by omega, rfl, by omega, by simp [trim, rbB_row, rbB_none, lop, loud, callA, calleeA, callF_step h18, h18, callF_step h19, h19, callF_step h40, h40, callF_step h23, h23, callF_step h17, h17, callF_step h22, h22, callF_step h39, h39, annC, fx, rx, cx1, cx2, hd, hown, hdy, hoff, oKn, h0, w0, w1, w2, w3, hr0, hr1, hlo, hhi, hche, q1, n1, n2, n3, n4, lts, -lenA, hlt, hlt2, hmore, hbud, q3, q4, o1, o2, o3, hlt, hlt2, hi0, htn, hk0, hs, wt, wi, we, wf, hmt, wg, hN]⟩
            · have hn1 : 1 ≤ n := by omega
              have hn2 : n ≤ 100000 := by omega
              have q5 := hquo n hn1 hn2
              have o4 : ¬ priceI q n ≤ money := by have := hms.2 n (by omega) (by omega); omega
              refine runs_cond (x := false) (by simp [hbig]) ?_
              refine runs_skip ?_
              simp only [AEx.thn, AEx.blk]
              refine runs_seq ?_
              refine runs_reg (ops_run (by simp [lop, loud, callA, calleeA, callF_step h18, h18, callF_step h19, h19, callF_step h40, h40, callF_step h23, h23, callF_step h17, h17, callF_step h22, h22, callF_step h39, h39, annC, fx, rx, cx1, cx2, hd, hown, hdy, hoff, oKn, h0, w0, w1, w2, w3, hr0, hr1, hlo, hhi, hche, q1, n1, n2, n3, n4, lts, -lenA, hlt, hlt2, hmore, hbud, q3, q4, o1, o2, o3, hlt, hlt2, hi0, htn, hk0, hs, wt, wi, we, wf, hmt, wg, hN, q5, o4]; rfl) ?_)
              simp only [AEx.thn, AEx.blk]
              refine runs_seq ?_
              refine runs_reg (ops_run (by simp [lop, loud, callA, calleeA, callF_step h18, h18, callF_step h19, h19, callF_step h40, h40, callF_step h23, h23, callF_step h17, h17, callF_step h22, h22, callF_step h39, h39, annC, fx, rx, cx1, cx2, hd, hown, hdy, hoff, oKn, h0, w0, w1, w2, w3, hr0, hr1, hlo, hhi, hche, q1, n1, n2, n3, n4, lts, -lenA, hlt, hlt2, hmore, hbud, q3, q4, o1, o2, o3, hlt, hlt2, hi0, htn, hk0, hs, wt, wi, we, wf, hmt, wg, hN, q5, o4]; rfl) ?_)
              simp only [AEx.thn, AEx.blk]
              refine runs_cond (x := false) (by simp) ?_
              refine runs_skip ?_
              simp only [AEx.thn, AEx.blk]
              refine runs_reg (ops_run (by simp [lop, loud, callA, calleeA, callF_step h18, h18, callF_step h19, h19, callF_step h40, h40, callF_step h23, h23, callF_step h17, h17, callF_step h22, h22, callF_step h39, h39, annC, fx, rx, cx1, cx2, hd, hown, hdy, hoff, oKn, h0, w0, w1, w2, w3, hr0, hr1, hlo, hhi, hche, q1, n1, n2, n3, n4, lts, -lenA, hlt, hlt2, hmore, hbud, q3, q4, o1, o2, o3, hlt, hlt2, hi0, htn, hk0, hs, wt, wi, we, wf, hmt, wg, hN, q5, o4]; rfl) ?_)
              simp only [AEx.thn, AEx.blk]
              exact ⟨xs.length - (k + 1), by omega, k + 1, i + 1, by omega, rfl, by omega, by simp [trim, rbB_row, rbB_none, lop, loud, callA, calleeA, callF_step h18, h18, callF_step h19, h19, callF_step h40, h40, callF_step h23, h23, callF_step h17, h17, callF_step h22, h22, callF_step h39, h39, annC, fx, rx, cx1, cx2, hd, hown, hdy, hoff, oKn, h0, w0, w1, w2, w3, hr0, hr1, hlo, hhi, hche, q1, n1, n2, n3, n4, lts, -lenA, hlt, hlt2, hmore, hbud, q3, q4, o1, o2, o3, hlt, hlt2, hi0, htn, hk0, hs, wt, wi, we, wf, hmt, wg, hN, q5, o4]⟩
          · refine runs_skip ?_
            simp only [AEx.thn, AEx.blk]
            refine runs_seq ?_
            refine runs_seq ?_
            refine runs_reg (ops_run (by simp [lop, loud, callA, calleeA, callF_step h18, h18, callF_step h19, h19, callF_step h40, h40, callF_step h23, h23, callF_step h17, h17, callF_step h22, h22, callF_step h39, h39, annC, fx, rx, cx1, cx2, hd, hown, hdy, hoff, oKn, h0, w0, w1, w2, w3, hr0, hr1, hlo, hhi, hche, q1, n1, n2, n3, n4, lts, -lenA, hlt, hlt2, hmore, hbud, q3, q4, o1, o2, o3, hlt, hlt2, hi0, htn, hk0, hs, wt, wi, we, wf, hmt, wg]; rfl) ?_)
            simp only [AEx.thn, AEx.blk]
            generalize hN : more + 1 + t = n at *
            by_cases hbig : 100000 < n
            · refine runs_cond (x := true) (by simp [hbig]) ?_
              refine runs_exit ?_
              simp only [AEx.thn, AEx.blk, if_true, if_false, reduceIte, Nat.reduceEqDiff, Nat.succ_ne_zero, Nat.one_ne_zero, Nat.zero_ne_one]
              refine runs_reg (ops_run (by simp [lop, loud, callA, calleeA, callF_step h18, h18, callF_step h19, h19, callF_step h40, h40, callF_step h23, h23, callF_step h17, h17, callF_step h22, h22, callF_step h39, h39, annC, fx, rx, cx1, cx2, hd, hown, hdy, hoff, oKn, h0, w0, w1, w2, w3, hr0, hr1, hlo, hhi, hche, q1, n1, n2, n3, n4, lts, -lenA, hlt, hlt2, hmore, hbud, q3, q4, o1, o2, o3, hlt, hlt2, hi0, htn, hk0, hs, wt, wi, we, wf, hmt, wg, hN]; rfl) ?_)
              simp only [AEx.thn, AEx.blk]
              exact ⟨xs.length - (k + 1), by omega, k + 1, i + 1, by omega, rfl, by omega, by simp [trim, rbB_row, rbB_none, lop, loud, callA, calleeA, callF_step h18, h18, callF_step h19, h19, callF_step h40, h40, callF_step h23, h23, callF_step h17, h17, callF_step h22, h22, callF_step h39, h39, annC, fx, rx, cx1, cx2, hd, hown, hdy, hoff, oKn, h0, w0, w1, w2, w3, hr0, hr1, hlo, hhi, hche, q1, n1, n2, n3, n4, lts, -lenA, hlt, hlt2, hmore, hbud, q3, q4, o1, o2, o3, hlt, hlt2, hi0, htn, hk0, hs, wt, wi, we, wf, hmt, wg, hN]⟩
            · have hn1 : 1 ≤ n := by omega
              have hn2 : n ≤ 100000 := by omega
              have q5 := hquo n hn1 hn2
              have o4 : ¬ priceI q n ≤ money := by have := hms.2 n (by omega) (by omega); omega
              refine runs_cond (x := false) (by simp [hbig]) ?_
              refine runs_skip ?_
              simp only [AEx.thn, AEx.blk]
              refine runs_seq ?_
              refine runs_reg (ops_run (by simp [lop, loud, callA, calleeA, callF_step h18, h18, callF_step h19, h19, callF_step h40, h40, callF_step h23, h23, callF_step h17, h17, callF_step h22, h22, callF_step h39, h39, annC, fx, rx, cx1, cx2, hd, hown, hdy, hoff, oKn, h0, w0, w1, w2, w3, hr0, hr1, hlo, hhi, hche, q1, n1, n2, n3, n4, lts, -lenA, hlt, hlt2, hmore, hbud, q3, q4, o1, o2, o3, hlt, hlt2, hi0, htn, hk0, hs, wt, wi, we, wf, hmt, wg, hN, q5, o4]; rfl) ?_)
              simp only [AEx.thn, AEx.blk]
              refine runs_seq ?_
              refine runs_reg (ops_run (by simp [lop, loud, callA, calleeA, callF_step h18, h18, callF_step h19, h19, callF_step h40, h40, callF_step h23, h23, callF_step h17, h17, callF_step h22, h22, callF_step h39, h39, annC, fx, rx, cx1, cx2, hd, hown, hdy, hoff, oKn, h0, w0, w1, w2, w3, hr0, hr1, hlo, hhi, hche, q1, n1, n2, n3, n4, lts, -lenA, hlt, hlt2, hmore, hbud, q3, q4, o1, o2, o3, hlt, hlt2, hi0, htn, hk0, hs, wt, wi, we, wf, hmt, wg, hN, q5, o4]; rfl) ?_)
              simp only [AEx.thn, AEx.blk]
              refine runs_cond (x := false) (by simp) ?_
              refine runs_skip ?_
              simp only [AEx.thn, AEx.blk]
              refine runs_reg (ops_run (by simp [lop, loud, callA, calleeA, callF_step h18, h18, callF_step h19, h19, callF_step h40, h40, callF_step h23, h23, callF_step h17, h17, callF_step h22, h22, callF_step h39, h39, annC, fx, rx, cx1, cx2, hd, hown, hdy, hoff, oKn, h0, w0, w1, w2, w3, hr0, hr1, hlo, hhi, hche, q1, n1, n2, n3, n4, lts, -lenA, hlt, hlt2, hmore, hbud, q3, q4, o1, o2, o3, hlt, hlt2, hi0, htn, hk0, hs, wt, wi, we, wf, hmt, wg, hN, q5, o4]; rfl) ?_)
              simp only [AEx.thn, AEx.blk]
              exact ⟨xs.length - (k + 1), by omega, k + 1, i + 1, by omega, rfl, by omega, by simp [trim, rbB_row, rbB_none, lop, loud, callA, calleeA, callF_step h18, h18, callF_step h19, h19, callF_step h40, h40, callF_step h23, h23, callF_step h17, h17, callF_step h22, h22, callF_step h39, h39, annC, fx, rx, cx1, cx2, hd, hown, hdy, hoff, oKn, h0, w0, w1, w2, w3, hr0, hr1, hlo, hhi, hche, q1, n1, n2, n3, n4, lts, -lenA, hlt, hlt2, hmore, hbud, q3, q4, o1, o2, o3, hlt, hlt2, hi0, htn, hk0, hs, wt, wi, we, wf, hmt, wg, hN, q5, o4]⟩
        · refine runs_seq ?_
          refine runs_seq ?_
          refine runs_reg (ops_run (by simp [lop, loud, callA, calleeA, callF_step h18, h18, callF_step h19, h19, callF_step h40, h40, callF_step h23, h23, callF_step h17, h17, callF_step h22, h22, callF_step h39, h39, annC, fx, rx, cx1, cx2, hd, hown, hdy, hoff, oKn, h0, w0, w1, w2, w3, hr0, hr1, hlo, hhi, hche, q1, n1, n2, n3, n4, lts, -lenA, hlt, hlt2, hmore, hbud, q3, q4, o1, o2, o3, hlt, hlt2]; rfl) ?_)
          simp only [AEx.thn, AEx.blk]
          refine runs_cond (x := false) (by simp) ?_
          refine runs_exit ?_
          simp only [AEx.thn, AEx.blk, if_true, if_false, reduceIte, Nat.reduceEqDiff, Nat.succ_ne_zero, Nat.one_ne_zero, Nat.zero_ne_one]
          refine runs_seq ?_
          refine runs_reg (ops_run (by simp [lop, loud, callA, calleeA, callF_step h18, h18, callF_step h19, h19, callF_step h40, h40, callF_step h23, h23, callF_step h17, h17, callF_step h22, h22, callF_step h39, h39, annC, fx, rx, cx1, cx2, hd, hown, hdy, hoff, oKn, h0, w0, w1, w2, w3, hr0, hr1, hlo, hhi, hche, q1, n1, n2, n3, n4, lts, -lenA, hlt, hlt2, hmore, hbud, q3, q4, o1, o2, o3, hlt, hlt2]; rfl) ?_)
          simp only [AEx.thn, AEx.blk]
          refine runs_ret ?_
          simp [lop, loud, callA, calleeA, callF_step h18, h18, callF_step h19, h19, callF_step h40, h40, callF_step h23, h23, callF_step h17, h17, callF_step h22, h22, callF_step h39, h39, annC, fx, rx, cx1, cx2, hd, hown, hdy, hoff, oKn, h0, w0, w1, w2, w3, hr0, hr1, hlo, hhi, hche, q1, n1, n2, n3, n4, lts, -lenA, hlt, hlt2, hmore, hbud, q3, q4, o1, o2, o3, hlt, hlt2]
      · refine runs_seq ?_
        refine runs_seq ?_
        refine runs_reg (ops_run (by simp [lop, loud, callA, calleeA, callF_step h18, h18, callF_step h19, h19, callF_step h40, h40, callF_step h23, h23, callF_step h17, h17, callF_step h22, h22, callF_step h39, h39, annC, fx, rx, cx1, cx2, hd, hown, hdy, hoff, oKn, h0, w0, w1, w2, w3, hr0, hr1, hlo, hhi, hche, q1, n1, n2, n3, n4, lts, -lenA, hlt, hlt2, hmore, hbud, q3, q4, o1, o2, o3, hlt]; rfl) ?_)
        simp only [AEx.thn, AEx.blk]
        refine runs_cond (x := false) (by simp) ?_
        refine runs_exit ?_
        simp only [AEx.thn, AEx.blk, if_true, if_false, reduceIte, Nat.reduceEqDiff, Nat.succ_ne_zero, Nat.one_ne_zero, Nat.zero_ne_one]
        refine runs_seq ?_
        refine runs_reg (ops_run (by simp [lop, loud, callA, calleeA, callF_step h18, h18, callF_step h19, h19, callF_step h40, h40, callF_step h23, h23, callF_step h17, h17, callF_step h22, h22, callF_step h39, h39, annC, fx, rx, cx1, cx2, hd, hown, hdy, hoff, oKn, h0, w0, w1, w2, w3, hr0, hr1, hlo, hhi, hche, q1, n1, n2, n3, n4, lts, -lenA, hlt, hlt2, hmore, hbud, q3, q4, o1, o2, o3, hlt]; rfl) ?_)
        simp only [AEx.thn, AEx.blk]
        refine runs_ret ?_
        simp [lop, loud, callA, calleeA, callF_step h18, h18, callF_step h19, h19, callF_step h40, h40, callF_step h23, h23, callF_step h17, h17, callF_step h22, h22, callF_step h39, h39, annC, fx, rx, cx1, cx2, hd, hown, hdy, hoff, oKn, h0, w0, w1, w2, w3, hr0, hr1, hlo, hhi, hche, q1, n1, n2, n3, n4, lts, -lenA, hlt, hlt2, hmore, hbud, q3, q4, o1, o2, o3, hlt]
  · refine runs_seq ?_
    refine runs_seq ?_
    refine runs_reg (ops_run (by simp [lop, loud, callA, calleeA, callF_step h18, h18, callF_step h19, h19, callF_step h40, h40, callF_step h23, h23, callF_step h17, h17, callF_step h22, h22, callF_step h39, h39, annC, fx, rx, cx1, cx2, hd, hown, hdy, hoff, oKn, h0, w0, w1, w2, w3, hr0, hr1, hlo, hhi, hche, q1, n1, n2, n3, n4, lts, -lenA, hlt]; rfl) ?_)
    simp only [AEx.thn, AEx.blk]
    refine runs_cond (x := false) (by simp) ?_
    have hmo := most_own (q := q) (l := lo) ⟨hlo1, hlo2⟩
    have hmb := mostQ_bd q (priceI q lo)
    have hms := mostQ_spec q (priceI q lo)
    have pb3 := (price_bd h0 (n := lo) ⟨hlo1, hlo2⟩).2.2
    have q3 := hquo lo hlo1 hlo2
    have hE3 : errN q lo = 0 := by simp [errN, h0, hlo1, hlo2]
    have hmz : ¬ mostQ q (priceI q lo) = 0 := by omega
    have hB : errB q (priceI q lo) = 0 := by
      have : ¬ priceI q lo < 0 := by omega
      simp [errB, h0, this, hmz]
    have hmore : oMore [.agg [I q.area, I q.board, I q.waste, I q.tool, I q.setup, I q.run, I q.work, I q.pallet, I q.freight, I q.margin, .vl (q.steps.map rP) tt], I lo] = some (.tup [I (mostQ q (priceI q lo)), I 0]) := by
      simp only [oMore, hdy, hE3, if_true]
    have hbud : oBudget [.agg [I q.area, I q.board, I q.waste, I q.tool, I q.setup, I q.run, I q.work, I q.pallet, I q.freight, I q.margin, .vl (q.steps.map rP) tt], I (priceI q lo)] = some (.tup [I (mostQ q (priceI q lo)), I 0]) := by
      simp only [oBudget, hdy, hB, if_true]
    generalize hmoney : priceI q lo = money at *
    generalize hmr : mostQ q money = more at *
    have o1 : ¬ more < lo := by omega
    have o2 : ¬ 100000 < more := by omega
    have q4 := hquo more (by omega) (by omega)
    have o3 : ¬ money < priceI q more := by rcases hms.1 with h | h <;> omega
    refine runs_exit ?_
    simp only [AEx.thn, AEx.blk, if_true, if_false, reduceIte, Nat.reduceEqDiff, Nat.succ_ne_zero, Nat.one_ne_zero, Nat.zero_ne_one]
    refine runs_seq ?_
    refine runs_reg (ops_run (by simp [lop, loud, callA, calleeA, callF_step h18, h18, callF_step h19, h19, callF_step h40, h40, callF_step h23, h23, callF_step h17, h17, callF_step h22, h22, callF_step h39, h39, annC, fx, rx, cx1, cx2, hd, hown, hdy, hoff, oKn, h0, w0, w1, w2, w3, hr0, hr1, hlo, hhi, hche, q1, n1, n2, n3, n4, lts, -lenA, hlt, hmore, hbud, q3, q4, o1, o2, o3]; rfl) ?_)
    simp only [AEx.thn, AEx.blk]
    refine runs_seq ?_
    refine runs_reg (ops_run (by simp [lop, loud, callA, calleeA, callF_step h18, h18, callF_step h19, h19, callF_step h40, h40, callF_step h23, h23, callF_step h17, h17, callF_step h22, h22, callF_step h39, h39, annC, fx, rx, cx1, cx2, hd, hown, hdy, hoff, oKn, h0, w0, w1, w2, w3, hr0, hr1, hlo, hhi, hche, q1, n1, n2, n3, n4, lts, -lenA, hlt, hmore, hbud, q3, q4, o1, o2, o3]; rfl) ?_)
    simp only [AEx.thn, AEx.blk]
    refine runs_seq ?_
    refine runs_reg (ops_run (by simp [lop, loud, callA, calleeA, callF_step h18, h18, callF_step h19, h19, callF_step h40, h40, callF_step h23, h23, callF_step h17, h17, callF_step h22, h22, callF_step h39, h39, annC, fx, rx, cx1, cx2, hd, hown, hdy, hoff, oKn, h0, w0, w1, w2, w3, hr0, hr1, hlo, hhi, hche, q1, n1, n2, n3, n4, lts, -lenA, hlt, hmore, hbud, q3, q4, o1, o2, o3]; rfl) ?_)
    simp only [AEx.thn, AEx.blk]
    refine runs_seq ?_
    refine runs_seq ?_
    refine runs_reg (ops_run (by simp [lop, loud, callA, calleeA, callF_step h18, h18, callF_step h19, h19, callF_step h40, h40, callF_step h23, h23, callF_step h17, h17, callF_step h22, h22, callF_step h39, h39, annC, fx, rx, cx1, cx2, hd, hown, hdy, hoff, oKn, h0, w0, w1, w2, w3, hr0, hr1, hlo, hhi, hche, q1, n1, n2, n3, n4, lts, -lenA, hlt, hmore, hbud, q3, q4, o1, o2, o3]; rfl) ?_)
    simp only [AEx.thn, AEx.blk]
    refine runs_cond (x := false) (by simp) ?_
    refine runs_skip ?_
    simp only [AEx.thn, AEx.blk]
    refine runs_seq ?_
    refine runs_seq ?_
    refine runs_reg (ops_run (by simp [lop, loud, callA, calleeA, callF_step h18, h18, callF_step h19, h19, callF_step h40, h40, callF_step h23, h23, callF_step h17, h17, callF_step h22, h22, callF_step h39, h39, annC, fx, rx, cx1, cx2, hd, hown, hdy, hoff, oKn, h0, w0, w1, w2, w3, hr0, hr1, hlo, hhi, hche, q1, n1, n2, n3, n4, lts, -lenA, hlt, hmore, hbud, q3, q4, o1, o2, o3]; rfl) ?_)
    simp only [AEx.thn, AEx.blk]
    refine runs_seq ?_
    refine runs_reg (ops_run (by simp [lop, loud, callA, calleeA, callF_step h18, h18, callF_step h19, h19, callF_step h40, h40, callF_step h23, h23, callF_step h17, h17, callF_step h22, h22, callF_step h39, h39, annC, fx, rx, cx1, cx2, hd, hown, hdy, hoff, oKn, h0, w0, w1, w2, w3, hr0, hr1, hlo, hhi, hche, q1, n1, n2, n3, n4, lts, -lenA, hlt, hmore, hbud, q3, q4, o1, o2, o3]; rfl) ?_)
    simp only [AEx.thn, AEx.blk]
    refine runs_cond (x := false) (by simp) ?_
    refine runs_skip ?_
    simp only [AEx.thn, AEx.blk]
    refine runs_seq ?_
    refine runs_seq ?_
    refine runs_reg (ops_run (by simp [lop, loud, callA, calleeA, callF_step h18, h18, callF_step h19, h19, callF_step h40, h40, callF_step h23, h23, callF_step h17, h17, callF_step h22, h22, callF_step h39, h39, annC, fx, rx, cx1, cx2, hd, hown, hdy, hoff, oKn, h0, w0, w1, w2, w3, hr0, hr1, hlo, hhi, hche, q1, n1, n2, n3, n4, lts, -lenA, hlt, hmore, hbud, q3, q4, o1, o2, o3]; rfl) ?_)
    simp only [AEx.thn, AEx.blk]
    refine runs_block ?_
    refine runs_loop_inv (fun m σ => ∃ (k : Nat) (i : Int), i = k ∧ xs.length - k = m ∧ k ≤ xs.length ∧ σ = ⟨[.any, .any, ts, .any, .any, .any, .any, .ref 2 0 0, .any, .any, .any, .any, .any, .any, .any, .any, .any, .any, .any, .any, I more, .any, .any, I money, .any, .any, .any, .any, .any, .any, I i, .any, .any, .any, .any, .any, .any, .any, .any, .any, .any, .any, .any, .any, .any, .any, .any, .any, .any, .any, .any, .any, .any, .any, .any, .any, .any, .any, .any, .any, .any, .any, .any, .any, .any, .any, .any, .any, .any, .any, .any, .any, .any, .any, .any, .any, .any, .any, .any, .any, .any, .any, .any, .any, .any, .any, .any, .any, .any, .any, .any, .any, .any, .any, .any, .any, .any, .any, .any, .any, .any, .any, .any, .any, .any, .any, .any, .any, .any, .any, .any, .any, .any, .any, .any, .any, .any, .any, .any, .any, .any, .any, .any, .any, .any, .any, .any, .any, .any, .any, .any, .any, .any, .any, .any, .any, .any, .any, .any, .any, .any, .any, .any, .any, .any, .any, .any, .any, .any, .any, .any, .any, .any, .any, .any, .any, .any, .any, .any, .any, .any, .any, .any, .any, .any, .any, .any, .any, .any, .any, .any, .any, .any, .any, .any, .any, .any, .any, .any, .any, .any, .any, .any, .any, .any, .any, .any, .any, .any, .any, .any, .any, .any, .any, .any, .any, .any, .any, .any, .any, .any, .any, .any, .any, .any, .any, .any, .any, .any, .any, .any, .any, .any, .any, .any, .any, .any, .any, .any, .any, .any, .any, .any, .any, .any, .any, .any, .any, .any, .any, .any, .any, .any, .any, .any, .any, .any, .any, .any, .any, .any, .any, .any, .any, .any, .any, .any, .any, .any, .any, .any, .any, .any, .any, .any, .any, .any, .any, .any, .any, .any, .any, .any, .any], [some (.row 17 [[.int .u16 za, .int .u16 zb, .int .u8 zw, .int .u8 zm, .int .u16 zt, .int .u16 zs, .int .u8 zr, .int .u8 zp, .int .u16 zk, .int .u16 zf, .int .u8 ze0, .int .u8 ze1, .int .u8 zg0, .int .u8 zg1, .int .u8 zh0, .int .u8 zh1, .int .u8 zz]]), some (.row 3 [[.int .u16 v0, .int .u16 v1, .int .u16 v2]]), some (.row 11 [[I q.area, I q.board, I q.waste, I q.tool, I q.setup, I q.run, I q.work, I q.pallet, I q.freight, I q.margin, x]]), some (.row 2 [[I lo, I hi]]), none, none, none, none, none, none, none, none, none, some (.row 5 [[I (partsI q best).board, I (partsI q best).tool, I (partsI q best).setup, I (partsI q best).work, I (partsI q best).freight]]), some (.row 5 [[I (partsI q lo).board, I (partsI q lo).tool, I (partsI q lo).setup, I (partsI q lo).work, I (partsI q lo).freight]]), some (.row 5 [[I (partsI q more).board, I (partsI q more).tool, I (partsI q more).setup, I (partsI q more).work, I (partsI q more).freight]])]⟩) ?_ (xs.length - 0) _ ⟨0, 0, rfl, rfl, Nat.zero_le _, by simp⟩
    rintro m σ ⟨k, i, hik, rfl, hkl, rfl⟩
    by_cases hlt : i < (xs.length : Int)
    · by_cases hlt2 : i < 30
      · have hk0 : k < xs.length := by omega
        obtain ⟨tq, rfl⟩ := rowsV_get hts (k := k) (by rw [List.length_map]; omega)
        have hi0 : 0 ≤ i := by omega
        have htn : i.toNat = k := by omega
        have bt := hxs _ (List.getElem_mem hk0)
        generalize hs : xs[k] = t at *
        have wt := wv16 bt
        have wi : W .i64 (i + 1) = i + 1 := W_small (by omega)
        have we : W .i64 (more + 1) = more + 1 := W_fit (by omega)
        have wf : W .i64 (more + 1 + t) = more + 1 + t := W_fit (by omega)
        have mt := Int.tmod_nonneg 20 bt.1
        have mt' := Int.tmod_lt_of_pos t (show (0 : Int) < 20 by decide)
        generalize hmt : t.tmod 20 = u at *
        have wg : W .i64 (more + 1 + u) = more + 1 + u := W_fit (by omega)
        refine runs_seq ?_
        refine runs_seq ?_
        refine runs_reg (ops_run (by simp [lop, loud, callA, calleeA, callF_step h18, h18, callF_step h19, h19, callF_step h40, h40, callF_step h23, h23, callF_step h17, h17, callF_step h22, h22, callF_step h39, h39, annC, fx, rx, cx1, cx2, hd, hown, hdy, hoff, oKn, h0, w0, w1, w2, w3, hr0, hr1, hlo, hhi, hche, q1, n1, n2, n3, n4, lts, -lenA, hlt, hmore, hbud, q3, q4, o1, o2, o3, hlt, hlt2, hi0, htn, hk0, hs, wt, wi, we, wf, hmt, wg]; rfl) ?_)
        simp only [AEx.thn, AEx.blk]
        refine runs_cond (x := true) (by simp) ?_
        refine runs_skip ?_
        simp only [AEx.thn, AEx.blk]
        refine runs_seq ?_
        refine runs_block ?_
        refine runs_seq ?_
        refine runs_reg (ops_run (by simp [lop, loud, callA, calleeA, callF_step h18, h18, callF_step h19, h19, callF_step h40, h40, callF_step h23, h23, callF_step h17, h17, callF_step h22, h22, callF_step h39, h39, annC, fx, rx, cx1, cx2, hd, hown, hdy, hoff, oKn, h0, w0, w1, w2, w3, hr0, hr1, hlo, hhi, hche, q1, n1, n2, n3, n4, lts, -lenA, hlt, hmore, hbud, q3, q4, o1, o2, o3, hlt, hlt2, hi0, htn, hk0, hs, wt, wi, we, wf, hmt, wg]; rfl) ?_)
        simp only [AEx.thn, AEx.blk]
        refine runs_seq ?_
        refine runs_seq ?_
        refine runs_reg (ops_run (by simp [lop, loud, callA, calleeA, callF_step h18, h18, callF_step h19, h19, callF_step h40, h40, callF_step h23, h23, callF_step h17, h17, callF_step h22, h22, callF_step h39, h39, annC, fx, rx, cx1, cx2, hd, hown, hdy, hoff, oKn, h0, w0, w1, w2, w3, hr0, hr1, hlo, hhi, hche, q1, n1, n2, n3, n4, lts, -lenA, hlt, hmore, hbud, q3, q4, o1, o2, o3, hlt, hlt2, hi0, htn, hk0, hs, wt, wi, we, wf, hmt, wg]; rfl) ?_)
        simp only [AEx.thn, AEx.blk]
        refine runs_cond_split (x := (i.tmod 2 == 0)) (by simp) (fun hev => ?_) (fun hev => ?_)
        · refine runs_reg (ops_run (by simp [lop, loud, callA, calleeA, callF_step h18, h18, callF_step h19, h19, callF_step h40, h40, callF_step h23, h23, callF_step h17, h17, callF_step h22, h22, callF_step h39, h39, annC, fx, rx, cx1, cx2, hd, hown, hdy, hoff, oKn, h0, w0, w1, w2, w3, hr0, hr1, hlo, hhi, hche, q1, n1, n2, n3, n4, lts, -lenA, hlt, hmore, hbud, q3, q4, o1, o2, o3, hlt, hlt2, hi0, htn, hk0, hs, wt, wi, we, wf, hmt, wg]; rfl) ?_)
          simp only [AEx.thn, AEx.blk]
          refine runs_seq ?_
          refine runs_seq ?_
          refine runs_reg (ops_run (by simp [lop, loud, callA, calleeA, callF_step h18, h18, callF_step h19, h19, callF_step h40, h40, callF_step h23, h23, callF_step h17, h17, callF_step h22, h22, callF_step h39, h39, annC, fx, rx, cx1, cx2, hd, hown, hdy, hoff, oKn, h0, w0, w1, w2, w3, hr0, hr1, hlo, hhi, hche, q1, n1, n2, n3, n4, lts, -lenA, hlt, hmore, hbud, q3, q4, o1, o2, o3, hlt, hlt2, hi0, htn, hk0, hs, wt, wi, we, wf, hmt, wg]; rfl) ?_)
          simp only [AEx.thn, AEx.blk]
          generalize hN : more + 1 + u = n at *
          by_cases hbig : 100000 < n
          · refine runs_cond (x := true) (by simp [hbig]) ?_
            refine runs_exit ?_
            simp only [AEx.thn, AEx.blk, if_true, if_false, reduceIte, Nat.reduceEqDiff, Nat.succ_ne_zero, Nat.one_ne_zero, Nat.zero_ne_one]
            refine runs_reg (ops_run (by simp [lop, loud, callA, calleeA, callF_step h18, h18, callF_step h19, h19, callF_step h40, h40, callF_step h23, h23, callF_step h17, h17, callF_step h22, h22, callF_step h39, h39, annC, fx, rx, cx1, cx2, hd, hown, hdy, hoff, oKn, h0, w0, w1, w2, w3, hr0, hr1, hlo, hhi, hche, q1, n1, n2, n3, n4, lts, -lenA, hlt, hmore, hbud, q3, q4, o1, o2, o3, hlt, hlt2, hi0, htn, hk0, hs, wt, wi, we, wf, hmt, wg, hN]; rfl) ?_)
            simp only [AEx.thn, AEx.blk]
            exact ⟨xs.length - (k + 1), by omega, k + 1, i + 1, by omega, rfl, by omega, by simp [trim, rbB_row, rbB_none, lop, loud, callA, calleeA, callF_step h18, h18, callF_step h19, h19, callF_step h40, h40, callF_step h23, h23, callF_step h17, h17, callF_step h22, h22, callF_step h39, h39, annC, fx, rx, cx1, cx2, hd, hown, hdy, hoff, oKn, h0, w0, w1, w2, w3, hr0, hr1, hlo, hhi, hche, q1, n1, n2, n3, n4, lts, -lenA, hlt, hmore, hbud, q3, q4, o1, o2, o3, hlt, hlt2, hi0, htn, hk0, hs, wt, wi, we, wf, hmt, wg, hN]⟩
          · have hn1 : 1 ≤ n := by omega
            have hn2 : n ≤ 100000 := by omega
            have q5 := hquo n hn1 hn2
            have o4 : ¬ priceI q n ≤ money := by have := hms.2 n (by omega) (by omega); omega
            refine runs_cond (x := false) (by simp [hbig]) ?_
            refine runs_skip ?_
            simp only [AEx.thn, AEx.blk]
            refine runs_seq ?_
            refine runs_reg (ops_run (by simp [lop, loud, callA, calleeA, callF_step h18, h18, callF_step h19, h19, callF_step h40, h40, callF_step h23, h23, callF_step h17, h17, callF_step h22, h22, callF_step h39, h39, annC, fx, rx, cx1, cx2, hd, hown, hdy, hoff, oKn, h0, w0, w1, w2, w3, hr0, hr1, hlo, hhi, hche, q1, n1, n2, n3, n4, lts, -lenA, hlt, hmore, hbud, q3, q4, o1, o2, o3, hlt, hlt2, hi0, htn, hk0, hs, wt, wi, we, wf, hmt, wg, hN, q5, o4]; rfl) ?_)
            simp only [AEx.thn, AEx.blk]
            refine runs_seq ?_
            refine runs_reg (ops_run (by simp [lop, loud, callA, calleeA, callF_step h18, h18, callF_step h19, h19, callF_step h40, h40, callF_step h23, h23, callF_step h17, h17, callF_step h22, h22, callF_step h39, h39, annC, fx, rx, cx1, cx2, hd, hown, hdy, hoff, oKn, h0, w0, w1, w2, w3, hr0, hr1, hlo, hhi, hche, q1, n1, n2, n3, n4, lts, -lenA, hlt, hmore, hbud, q3, q4, o1, o2, o3, hlt, hlt2, hi0, htn, hk0, hs, wt, wi, we, wf, hmt, wg, hN, q5, o4]; rfl) ?_)
            simp only [AEx.thn, AEx.blk]
            refine runs_cond (x := false) (by simp) ?_
            refine runs_skip ?_
            simp only [AEx.thn, AEx.blk]
            refine runs_reg (ops_run (by simp [lop, loud, callA, calleeA, callF_step h18, h18, callF_step h19, h19, callF_step h40, h40, callF_step h23, h23, callF_step h17, h17, callF_step h22, h22, callF_step h39, h39, annC, fx, rx, cx1, cx2, hd, hown, hdy, hoff, oKn, h0, w0, w1, w2, w3, hr0, hr1, hlo, hhi, hche, q1, n1, n2, n3, n4, lts, -lenA, hlt, hmore, hbud, q3, q4, o1, o2, o3, hlt, hlt2, hi0, htn, hk0, hs, wt, wi, we, wf, hmt, wg, hN, q5, o4]; rfl) ?_)
            simp only [AEx.thn, AEx.blk]
            exact ⟨xs.length - (k + 1), by omega, k + 1, i + 1, by omega, rfl, by omega, by simp [trim, rbB_row, rbB_none, lop, loud, callA, calleeA, callF_step h18, h18, callF_step h19, h19, callF_step h40, h40, callF_step h23, h23, callF_step h17, h17, callF_step h22, h22, callF_step h39, h39, annC, fx, rx, cx1, cx2, hd, hown, hdy, hoff, oKn, h0, w0, w1, w2, w3, hr0, hr1, hlo, hhi, hche, q1, n1, n2, n3, n4, lts, -lenA, hlt, hmore, hbud, q3, q4, o1, o2, o3, hlt, hlt2, hi0, htn, hk0, hs, wt, wi, we, wf, hmt, wg, hN, q5, o4]⟩
        · refine runs_skip ?_
          simp only [AEx.thn, AEx.blk]
          refine runs_seq ?_
          refine runs_seq ?_
          refine runs_reg (ops_run (by simp [lop, loud, callA, calleeA, callF_step h18, h18, callF_step h19, h19, callF_step h40, h40, callF_step h23, h23, callF_step h17, h17, callF_step h22, h22, callF_step h39, h39, annC, fx, rx, cx1, cx2, hd, hown, hdy, hoff, oKn, h0, w0, w1, w2, w3, hr0, hr1, hlo, hhi, hche, q1, n1, n2, n3, n4, lts, -lenA, hlt, hmore, hbud, q3, q4, o1, o2, o3, hlt, hlt2, hi0, htn, hk0, hs, wt, wi, we, wf, hmt, wg]; rfl) ?_)
          simp only [AEx.thn, AEx.blk]
          generalize hN : more + 1 + t = n at *
          by_cases hbig : 100000 < n
          · refine runs_cond (x := true) (by simp [hbig]) ?_
            refine runs_exit ?_
            simp only [AEx.thn, AEx.blk, if_true, if_false, reduceIte, Nat.reduceEqDiff, Nat.succ_ne_zero, Nat.one_ne_zero, Nat.zero_ne_one]
            refine runs_reg (ops_run (by simp [lop, loud, callA, calleeA, callF_step h18, h18, callF_step h19, h19, callF_step h40, h40, callF_step h23, h23, callF_step h17, h17, callF_step h22, h22, callF_step h39, h39, annC, fx, rx, cx1, cx2, hd, hown, hdy, hoff, oKn, h0, w0, w1, w2, w3, hr0, hr1, hlo, hhi, hche, q1, n1, n2, n3, n4, lts, -lenA, hlt, hmore, hbud, q3, q4, o1, o2, o3, hlt, hlt2, hi0, htn, hk0, hs, wt, wi, we, wf, hmt, wg, hN]; rfl) ?_)
            simp only [AEx.thn, AEx.blk]
            exact ⟨xs.length - (k + 1), by omega, k + 1, i + 1, by omega, rfl, by omega, by simp [trim, rbB_row, rbB_none, lop, loud, callA, calleeA, callF_step h18, h18, callF_step h19, h19, callF_step h40, h40, callF_step h23, h23, callF_step h17, h17, callF_step h22, h22, callF_step h39, h39, annC, fx, rx, cx1, cx2, hd, hown, hdy, hoff, oKn, h0, w0, w1, w2, w3, hr0, hr1, hlo, hhi, hche, q1, n1, n2, n3, n4, lts, -lenA, hlt, hmore, hbud, q3, q4, o1, o2, o3, hlt, hlt2, hi0, htn, hk0, hs, wt, wi, we, wf, hmt, wg, hN]⟩
          · have hn1 : 1 ≤ n := by omega
            have hn2 : n ≤ 100000 := by omega
            have q5 := hquo n hn1 hn2
            have o4 : ¬ priceI q n ≤ money := by have := hms.2 n (by omega) (by omega); omega
            refine runs_cond (x := false) (by simp [hbig]) ?_
            refine runs_skip ?_
            simp only [AEx.thn, AEx.blk]
            refine runs_seq ?_
            refine runs_reg (ops_run (by simp [lop, loud, callA, calleeA, callF_step h18, h18, callF_step h19, h19, callF_step h40, h40, callF_step h23, h23, callF_step h17, h17, callF_step h22, h22, callF_step h39, h39, annC, fx, rx, cx1, cx2, hd, hown, hdy, hoff, oKn, h0, w0, w1, w2, w3, hr0, hr1, hlo, hhi, hche, q1, n1, n2, n3, n4, lts, -lenA, hlt, hmore, hbud, q3, q4, o1, o2, o3, hlt, hlt2, hi0, htn, hk0, hs, wt, wi, we, wf, hmt, wg, hN, q5, o4]; rfl) ?_)
            simp only [AEx.thn, AEx.blk]
            refine runs_seq ?_
            refine runs_reg (ops_run (by simp [lop, loud, callA, calleeA, callF_step h18, h18, callF_step h19, h19, callF_step h40, h40, callF_step h23, h23, callF_step h17, h17, callF_step h22, h22, callF_step h39, h39, annC, fx, rx, cx1, cx2, hd, hown, hdy, hoff, oKn, h0, w0, w1, w2, w3, hr0, hr1, hlo, hhi, hche, q1, n1, n2, n3, n4, lts, -lenA, hlt, hmore, hbud, q3, q4, o1, o2, o3, hlt, hlt2, hi0, htn, hk0, hs, wt, wi, we, wf, hmt, wg, hN, q5, o4]; rfl) ?_)
            simp only [AEx.thn, AEx.blk]
            refine runs_cond (x := false) (by simp) ?_
            refine runs_skip ?_
            simp only [AEx.thn, AEx.blk]
            refine runs_reg (ops_run (by simp [lop, loud, callA, calleeA, callF_step h18, h18, callF_step h19, h19, callF_step h40, h40, callF_step h23, h23, callF_step h17, h17, callF_step h22, h22, callF_step h39, h39, annC, fx, rx, cx1, cx2, hd, hown, hdy, hoff, oKn, h0, w0, w1, w2, w3, hr0, hr1, hlo, hhi, hche, q1, n1, n2, n3, n4, lts, -lenA, hlt, hmore, hbud, q3, q4, o1, o2, o3, hlt, hlt2, hi0, htn, hk0, hs, wt, wi, we, wf, hmt, wg, hN, q5, o4]; rfl) ?_)
            simp only [AEx.thn, AEx.blk]
            exact ⟨xs.length - (k + 1), by omega, k + 1, i + 1, by omega, rfl, by omega, by simp [trim, rbB_row, rbB_none, lop, loud, callA, calleeA, callF_step h18, h18, callF_step h19, h19, callF_step h40, h40, callF_step h23, h23, callF_step h17, h17, callF_step h22, h22, callF_step h39, h39, annC, fx, rx, cx1, cx2, hd, hown, hdy, hoff, oKn, h0, w0, w1, w2, w3, hr0, hr1, hlo, hhi, hche, q1, n1, n2, n3, n4, lts, -lenA, hlt, hmore, hbud, q3, q4, o1, o2, o3, hlt, hlt2, hi0, htn, hk0, hs, wt, wi, we, wf, hmt, wg, hN, q5, o4]⟩
      · refine runs_seq ?_
        refine runs_seq ?_
        refine runs_reg (ops_run (by simp [lop, loud, callA, calleeA, callF_step h18, h18, callF_step h19, h19, callF_step h40, h40, callF_step h23, h23, callF_step h17, h17, callF_step h22, h22, callF_step h39, h39, annC, fx, rx, cx1, cx2, hd, hown, hdy, hoff, oKn, h0, w0, w1, w2, w3, hr0, hr1, hlo, hhi, hche, q1, n1, n2, n3, n4, lts, -lenA, hlt, hmore, hbud, q3, q4, o1, o2, o3, hlt, hlt2]; rfl) ?_)
        simp only [AEx.thn, AEx.blk]
        refine runs_cond (x := false) (by simp) ?_
        refine runs_exit ?_
        simp only [AEx.thn, AEx.blk, if_true, if_false, reduceIte, Nat.reduceEqDiff, Nat.succ_ne_zero, Nat.one_ne_zero, Nat.zero_ne_one]
        refine runs_seq ?_
        refine runs_reg (ops_run (by simp [lop, loud, callA, calleeA, callF_step h18, h18, callF_step h19, h19, callF_step h40, h40, callF_step h23, h23, callF_step h17, h17, callF_step h22, h22, callF_step h39, h39, annC, fx, rx, cx1, cx2, hd, hown, hdy, hoff, oKn, h0, w0, w1, w2, w3, hr0, hr1, hlo, hhi, hche, q1, n1, n2, n3, n4, lts, -lenA, hlt, hmore, hbud, q3, q4, o1, o2, o3, hlt, hlt2]; rfl) ?_)
        simp only [AEx.thn, AEx.blk]
        refine runs_ret ?_
        simp [lop, loud, callA, calleeA, callF_step h18, h18, callF_step h19, h19, callF_step h40, h40, callF_step h23, h23, callF_step h17, h17, callF_step h22, h22, callF_step h39, h39, annC, fx, rx, cx1, cx2, hd, hown, hdy, hoff, oKn, h0, w0, w1, w2, w3, hr0, hr1, hlo, hhi, hche, q1, n1, n2, n3, n4, lts, -lenA, hlt, hmore, hbud, q3, q4, o1, o2, o3, hlt, hlt2]
    · refine runs_seq ?_
      refine runs_seq ?_
      refine runs_reg (ops_run (by simp [lop, loud, callA, calleeA, callF_step h18, h18, callF_step h19, h19, callF_step h40, h40, callF_step h23, h23, callF_step h17, h17, callF_step h22, h22, callF_step h39, h39, annC, fx, rx, cx1, cx2, hd, hown, hdy, hoff, oKn, h0, w0, w1, w2, w3, hr0, hr1, hlo, hhi, hche, q1, n1, n2, n3, n4, lts, -lenA, hlt, hmore, hbud, q3, q4, o1, o2, o3, hlt]; rfl) ?_)
      simp only [AEx.thn, AEx.blk]
      refine runs_cond (x := false) (by simp) ?_
      refine runs_exit ?_
      simp only [AEx.thn, AEx.blk, if_true, if_false, reduceIte, Nat.reduceEqDiff, Nat.succ_ne_zero, Nat.one_ne_zero, Nat.zero_ne_one]
      refine runs_seq ?_
      refine runs_reg (ops_run (by simp [lop, loud, callA, calleeA, callF_step h18, h18, callF_step h19, h19, callF_step h40, h40, callF_step h23, h23, callF_step h17, h17, callF_step h22, h22, callF_step h39, h39, annC, fx, rx, cx1, cx2, hd, hown, hdy, hoff, oKn, h0, w0, w1, w2, w3, hr0, hr1, hlo, hhi, hche, q1, n1, n2, n3, n4, lts, -lenA, hlt, hmore, hbud, q3, q4, o1, o2, o3, hlt]; rfl) ?_)
      simp only [AEx.thn, AEx.blk]
      refine runs_ret ?_
      simp [lop, loud, callA, calleeA, callF_step h18, h18, callF_step h19, h19, callF_step h40, h40, callF_step h23, h23, callF_step h17, h17, callF_step h22, h22, callF_step h39, h39, annC, fx, rx, cx1, cx2, hd, hown, hdy, hoff, oKn, h0, w0, w1, w2, w3, hr0, hr1, hlo, hhi, hche, q1, n1, n2, n3, n4, lts, -lenA, hlt, hmore, hbud, q3, q4, o1, o2, o3, hlt]
theorem law9 (za zb zw zm zt zs zr zp zk zf ze0 ze1 zg0 zg1 zh0 zh1 zz v0 v1 v2 : Int) (ts : AVal) (xs : List Int) (hg : (0 ≤ za ∧ za ≤ 65535) ∧ (0 ≤ zb ∧ zb ≤ 65535) ∧ (0 ≤ zw ∧ zw ≤ 255) ∧ (0 ≤ zm ∧ zm ≤ 255) ∧ (0 ≤ zt ∧ zt ≤ 65535) ∧ (0 ≤ zs ∧ zs ≤ 65535) ∧ (0 ≤ zr ∧ zr ≤ 255) ∧ (0 ≤ zp ∧ zp ≤ 255) ∧ (0 ≤ zk ∧ zk ≤ 65535) ∧ (0 ≤ zf ∧ zf ≤ 65535) ∧ (0 ≤ ze0 ∧ ze0 ≤ 255) ∧ (0 ≤ ze1 ∧ ze1 ≤ 255) ∧ (0 ≤ zg0 ∧ zg0 ≤ 255) ∧ (0 ≤ zg1 ∧ zg1 ≤ 255) ∧ (0 ≤ zh0 ∧ zh0 ≤ 255) ∧ (0 ≤ zh1 ∧ zh1 ≤ 255) ∧ (0 ≤ zz ∧ zz ≤ 255)) (hv : (0 ≤ v0 ∧ v0 ≤ 65535) ∧ (0 ≤ v1 ∧ v1 ≤ 65535) ∧ (0 ≤ v2 ∧ v2 ≤ 65535)) (hts : rowsV ts = some (xs.map fun b => [.int .u16 b])) (hxs : ∀ b ∈ xs, 0 ≤ b ∧ b ≤ 65535) :
    Answers Try.prog PM 9 [.agg [.int .u16 za, .int .u16 zb, .int .u8 zw, .int .u8 zm, .int .u16 zt, .int .u16 zs, .int .u8 zr, .int .u8 zp, .int .u16 zk, .int .u16 zf, .int .u8 ze0, .int .u8 ze1, .int .u8 zg0, .int .u8 zg1, .int .u8 zh0, .int .u8 zh1, .int .u8 zz], .agg [.int .u16 v0, .int .u16 v1, .int .u16 v2], ts] [] fun v _ => v = .bool true := a9 Try.prog PM rfl rfl rfl rfl rfl rfl rfl rfl za zb zw zm zt zs zr zp zk zf ze0 ze1 zg0 zg1 zh0 zh1 zz v0 v1 v2 ts xs hg hv hts hxs
end
end Go.Proofs.Ytfnnonoffiljhaa.Tab

namespace Go.Proofs.Ytfnnonoffiljhaa
open Go Go.Abs Go.Proofs Go.ChangeShapes Go.WideShapes Go.ChangeAt Go.RowKit
set_option maxRecDepth 100000 in
theorem chosen_lifted (os : Os) (started : os.Started) (H : Type) (enc : TypeId × Value → H) :
    ReturnsInHanded {} Try.checked os 9 .any (Rows.priceChosenSpec.pre6 enc Try.prog Try.f9 [] false) (Rows.priceChosenSpec.post enc Try.prog Try.f9 false true false false) := by
  refine returnsInHanded_of_change (C := Try.checked) own started (by kernel_rfl) Try.func9
    (ChangeSpec.witness6 (enc := enc) (C := Try.checked) false ⟨#[], #[.agg #[.int .u16 0, .int .u16 0, .int .u8 0, .int .u8 0, .int .u16 0, .int .u16 0, .int .u8 0, .int .u8 0, .int .u16 0, .int .u16 0, .int .u8 0, .int .u8 0, .int .u8 0, .int .u8 0, .int .u8 0, .int .u8 0, .int .u8 0], .agg #[.int .u16 0, .int .u16 0, .int .u16 0], .slice Option.none 0 0], []⟩ 12 (by kernel_rfl) (by kernel_rfl) (by kernel_rfl) (by kernel_rfl)) ?_
  intro W base args ds gs before hval0 hW _ _
  have hval : ∀ (j : Nat) t v, Try.f9.params[j]? = some t → args[j]? = some v → Value.okWide Try.prog W .any base t v := hval0
  have hW' := hW
  obtain ⟨p, q, hA0, hV, rfl, hfz, hnd⟩ := hW
  have hA : DataW.TrodAll enc Try.prog W 0 (fun _ => true) true Try.f9.params.toList args.toList ds p := hA0
  rw [Try.params9] at hA hval
  obtain ⟨v0, vs0, d0, ds0, p0, q0, hargs, rfl, rfl, h0, r0⟩ := trodAll_cons hA
  obtain ⟨v1, vs1, d1, ds1, p1, q1, rfl, rfl, rfl, h1, r1⟩ := trodAll_cons r0
  obtain ⟨v2, vs2, d2, ds2, p2, q2, rfl, rfl, rfl, h2, r2⟩ := trodAll_cons r1
  obtain ⟨rfl, rfl, rfl⟩ := trodAll_nil r2
  obtain rfl : args = #[v0, v1, v2] := by cases args; simp_all
  obtain ⟨rfl, rfl⟩ := trodVars_none hV
  have lt0 : ∀ x ∈ p0, x.block < W.heap.size := by obtain ⟨m, hm⟩ := h0; exact DataW.trod_lt m _ _ _ hm
  have lt1 : ∀ x ∈ p1, x.block < W.heap.size := by obtain ⟨m, hm⟩ := h1; exact DataW.trod_lt m _ _ _ hm
  have lt2 : ∀ x ∈ p2, x.block < W.heap.size := by obtain ⟨m, hm⟩ := h2; exact DataW.trod_lt m _ _ _ hm
  obtain ⟨x0, e0, f0⟩ := open_struct Try.underlying67 (L := [.int .u16, .int .u16, .int .u8, .int .u8, .int .u16, .int .u16, .int .u8, .int .u8, .int .u16, .int .u16, .int .u8, .int .u8, .int .u8, .int .u8, .int .u8, .int .u8, .int .u8]) (by kernel_rfl) (hval 0 _ v0 rfl rfl) h0
  obtain ⟨za, zb, zw, zm, zt, zs, zr, zp, zk, zf, ze0, ze1, zg0, zg1, zh0, zh1, zz, rfl, hg0⟩ := fits_offer f0
  obtain ⟨x1, e1, f1⟩ := open_array Try.underlying68 (L := [.int .u16, .int .u16, .int .u16]) (by kernel_rfl) (hval 1 _ v1 rfl rfl) h1
  obtain ⟨va, vb, vc, rfl, hv1⟩ := fits_w3 f1
  obtain ⟨sa2, sn2, sc2, rfl⟩ := okWide_slice Try.underlying82 (hval 2 _ v2 rfl rfl)
  obtain ⟨x2, e2, f2⟩ := open_cell (l := .sl [.int .u16]) (by kernel_rfl) rfl h2
  obtain ⟨ws, hts2, hxs2⟩ := fits_words f2
  refine (law_calls Tab.mixed Tab.PM_ok (fun g r hg => by cases hg) (xs := [.agg [.int .u16 za, .int .u16 zb, .int .u8 zw, .int .u8 zm, .int .u16 zt, .int .u16 zs, .int .u8 zr, .int .u8 zp, .int .u16 zk, .int .u16 zf, .int .u8 ze0, .int .u8 ze1, .int .u8 zg0, .int .u8 zg1, .int .u8 zh0, .int .u8 zh1, .int .u8 zz], .agg [.int .u16 va, .int .u16 vb, .int .u16 vc], x2]) (rowR_cons e0 (rowR_cons e1 (rowR_cons e2 rowR_nil))) (Tab.law9 za zb zw zm zt zs zr zp zk zf ze0 ze1 zg0 zg1 zh0 zh1 zz va vb vc x2 ws hg0 hv1 hts2 hxs2)).mono fun e W' ⟨he, bel⟩ => ?_
  subst he
  exact ⟨_, rfl, _, _, _, [], _, [], hW', trodAll_mk1 (shut_bool Try.underlying4 _), (trodAll_cons_mk (Below.trod laidOut (by kernel_rfl) (of_decide_eq_true (by kernel_rfl)) h0 bel lt0) (trodAll_cons_mk (Below.trod laidOut (by kernel_rfl) (of_decide_eq_true (by kernel_rfl)) h1 bel lt1) (trodAll_cons_mk (Below.trod laidOut (by kernel_rfl) (of_decide_eq_true (by kernel_rfl)) h2 bel lt2) trodAll_mk0))), rfl, bel.frame _, fun h => by cases h⟩

/-- THE STATEMENT. -/
theorem chosen_holds : Rows.PriceChosenSaid :=
  OpenClaim.holds_of_wide 9 Try.f9 rfl rfl rfl rfl rfl rfl rfl ⟨rfl, rfl, rfl, rfl, rfl⟩ rfl rfl rfl rfl rfl (by kernel_rfl) Try.func9 (by kernel_rfl)
    (of_decide_eq_true (by kernel_rfl)) (by unfold Func.isWrapper; first | (rw [if_pos (by decide +kernel)]; kernel_rfl) | (rw [if_neg (by decide +kernel)]; exact ⟨rfl, rfl⟩))
    (fun os started H enc _ => chosen_lifted os started H enc)
end Go.Proofs.Ytfnnonoffiljhaa
