/- PriceBudgets, proved: for every quote, money and number the law returns true, and the arguments read as before. No condition. -/
import Derived.Test.YtfnnonoffiljhaaBaM
import Derived.Test.YtfnnonoffiljhaaBaW
import Derived.OpenShut
set_option linter.unusedSimpArgs false
set_option linter.unusedVariables false
namespace Go.Proofs.Ytfnnonoffiljhaa.Tab
open Go Go.Abs Go.Proofs
set_option maxRecDepth 100000
set_option maxHeartbeats 4000000
set_option linter.unusedSimpArgs false
set_option linter.unusedVariables false
section
attribute [local simp] frz_int frz_bool frz_vl frz_pv frz_agg frz_tup frz_fn frz_ref frz_sl frz_nils optAll orcF rb_int rb_bool rb_agg rb_tup rb_int' rb_bool' rb_vl rb_pv rb_yld rb_nilf rb_nilp rb_nils rb_any rb_und rb_ref rb_sl rb_fn slE chunk fillA evParts evParts3 putAt List.range_succ List.range_zero List.range'_succ List.range'_zero runX_nil' unary_not evalS_pure evAll_nil evAll_cons runX_cons stepX wantedA dop CV.ev putK_eq setK_eq appK_eq fA_eq fI_eq fN_eq fRow_eq fRows_eq nth_eq Out.v putT List.replicate_succ AEx.thn AEx.blk arI pointee Abs.rowAt ldRow allV toV toC ofV ofC Builtin.min_ Builtin.min2 Builtin.max_ Builtin.max2 min_if max_if resA tupA kill trim_self trim_len trim_emp trim_nil lenA
attribute [local simp] runD_nil' runD_cons' stepD actK_eq actD clash disj masks holes maskH unmaskH diffs news eqB allB eqA ldRowN wrote toCs ofCs stA rowsV_vl rowsV_nils rowsOf dI1 dI2 dI3 dI5 elt
attribute [local simp] st_any st_und st_agg st_tup st_bool st_int st_nilp st_ref st_pv st_nils st_sl st_vl st_nilm st_mp st_fn st_nilf st_yld co_any co_und co_agg co_tup co_bool co_int co_nilp co_ref co_pv co_nils co_sl co_vl co_nilm co_mp co_fn co_nilf co_yld
theorem a4 (T : Nat → Option CFn) (hT : T 4 = some c4) (h15 : T 15 = some { c15 with frsh := true, orc := oCheckR }) (h16 : T 16 = some { c16 with frsh := true, orc := oIn }) (h17 : T 17 = some { c17 with frsh := true, orc := oKn }) (h18 : T 18 = some { c18 with frsh := true, orc := oOwnQ }) (h20 : T 20 = some { c20 with frsh := true, orc := oSameQ }) (h22 : T 22 = some { c22 with frsh := true, orc := oBudget }) (h23 : T 23 = some { c23 with frsh := true, orc := oMore }) (h24 : T 24 = some { c24 with frsh := true, orc := oMost }) (h25 : T 25 = some { c25 with frsh := true, orc := oPrice }) (q : PQ) (x : AVal) (hx : rowsV x = some (q.steps.map rP)) (money n : Int) : Answers Try.prog T 4 [vQ q x, I money, I n] [] fun v h => v = .bool true := by
  have lx := rowsV_len hx
  rw [List.length_map] at lx
  have hdu : dQu (vQ q x) = some q := dQu_vQ hx
  have fx := fun H d => rowsV_frz hx H d
  have rx := fun n d => rowsV_rb hx n d
  obtain ⟨cx1, cx2⟩ := rowsV_cells hx
  simp only [vQ] at hdu ⊢
  refine answers_of hT (orcF_none rfl) ?_
  simp only [c4]
  refine runs_seq ?_
  refine runs_reg (ops_run (by simp [lop, loud, callA, calleeA, callF_step h15, h15, callF_step h16, h16, callF_step h17, h17, callF_step h18, h18, callF_step h20, h20, callF_step h22, h22, callF_step h23, h23, callF_step h24, h24, callF_step h25, h25, lx, -lenA, hdu, fx, rx, cx1, cx2, oCheckR, oKn, oIn]; rfl) ?_)
  simp only [AEx.thn, AEx.blk]
  refine runs_seq ?_
  refine runs_seq ?_
  refine runs_reg (ops_run (by simp [lop, loud, callA, calleeA, callF_step h15, h15, callF_step h16, h16, callF_step h17, h17, callF_step h18, h18, callF_step h20, h20, callF_step h22, h22, callF_step h23, h23, callF_step h24, h24, callF_step h25, h25, lx, -lenA, hdu, fx, rx, cx1, cx2, oCheckR, oKn, oIn]; rfl) ?_)
  simp only [AEx.thn, AEx.blk]
  refine runs_cond_split (x := decide ((20 : Int) < (q.steps.length : Int))) (by simp) (fun h1 => ?_) (fun h1 => ?_)
  · refine runs_seq ?_
    refine runs_reg (ops_run (by simp [lop, loud, callA, calleeA, callF_step h15, h15, callF_step h16, h16, callF_step h17, h17, callF_step h18, h18, callF_step h20, h20, callF_step h22, h22, callF_step h23, h23, callF_step h24, h24, callF_step h25, h25, lx, -lenA, hdu, fx, rx, cx1, cx2, oCheckR, oKn, oIn]; rfl) ?_)
    simp only [AEx.thn, AEx.blk]
    refine runs_ret ?_
    simp [lop, loud, callA, calleeA, callF_step h15, h15, callF_step h16, h16, callF_step h17, h17, callF_step h18, h18, callF_step h20, h20, callF_step h22, h22, callF_step h23, h23, callF_step h24, h24, callF_step h25, h25, lx, -lenA, hdu, fx, rx, cx1, cx2, oCheckR, oKn, oIn]
  have h1 := of_decide_eq_false h1
  have hl20 : q.steps.length ≤ 20 := by omega
  have hl : q.steps.length ≤ 1000 := by omega
  have hd := dQ_vQ hx hl
  have hown : oOwnQ [vQ q x] = some (vQ q (.vl (q.steps.map rP) (q.steps.length == 0))) := by simp [oOwnQ, hd]
  generalize (q.steps.length == 0) = tt at hown
  have hdy : dQ (vQ q (.vl (q.steps.map rP) tt)) = some q := dQ_vQ rfl hl
  have hsame : oSameQ [vQ q (.vl (q.steps.map rP) tt), vQ q x] = some (.bool true) := by simp [oSameQ, hd, hdy]
  simp only [vQ] at hd hown hdy hsame
  by_cases h0 : checkQ q = 0
  · by_cases hn : 1 ≤ n ∧ n ≤ 100000
    · have hE : errN q n = 0 := by simp [errN, h0, hn]
      by_cases hm : money < 0
      · have hB : errB q money = 9 := by simp [errB, h0, hm]
        refine runs_skip ?_
        simp only [AEx.thn, AEx.blk]
        refine runs_seq ?_
        refine runs_reg (ops_run (by simp [lop, loud, callA, calleeA, callF_step h15, h15, callF_step h16, h16, callF_step h17, h17, callF_step h18, h18, callF_step h20, h20, callF_step h22, h22, callF_step h23, h23, callF_step h24, h24, callF_step h25, h25, lx, -lenA, hdu, fx, rx, cx1, cx2, oCheckR, oKn, oIn, hd, hown, hdy, hsame, oCheck, oQuote, oEach, oPrice, oParts, oLowR, oCheapest, oRefCheap, oCredit, vP, zP, oBudget, oMore, oMost, h0, hE, hB, hm]; rfl) ?_)
        simp only [AEx.thn, AEx.blk]
        refine runs_seq ?_
        refine runs_reg (ops_run (by simp [lop, loud, callA, calleeA, callF_step h15, h15, callF_step h16, h16, callF_step h17, h17, callF_step h18, h18, callF_step h20, h20, callF_step h22, h22, callF_step h23, h23, callF_step h24, h24, callF_step h25, h25, lx, -lenA, hdu, fx, rx, cx1, cx2, oCheckR, oKn, oIn, hd, hown, hdy, hsame, oCheck, oQuote, oEach, oPrice, oParts, oLowR, oCheapest, oRefCheap, oCredit, vP, zP, oBudget, oMore, oMost, h0, hE, hB, hm]; rfl) ?_)
        simp only [AEx.thn, AEx.blk]
        refine runs_seq ?_
        refine runs_reg (ops_run (by simp [lop, loud, callA, calleeA, callF_step h15, h15, callF_step h16, h16, callF_step h17, h17, callF_step h18, h18, callF_step h20, h20, callF_step h22, h22, callF_step h23, h23, callF_step h24, h24, callF_step h25, h25, lx, -lenA, hdu, fx, rx, cx1, cx2, oCheckR, oKn, oIn, hd, hown, hdy, hsame, oCheck, oQuote, oEach, oPrice, oParts, oLowR, oCheapest, oRefCheap, oCredit, vP, zP, oBudget, oMore, oMost, h0, hE, hB, hm]; rfl) ?_)
        simp only [AEx.thn, AEx.blk]
        refine runs_seq ?_
        refine runs_seq ?_
        refine runs_reg (ops_run (by simp [lop, loud, callA, calleeA, callF_step h15, h15, callF_step h16, h16, callF_step h17, h17, callF_step h18, h18, callF_step h20, h20, callF_step h22, h22, callF_step h23, h23, callF_step h24, h24, callF_step h25, h25, lx, -lenA, hdu, fx, rx, cx1, cx2, oCheckR, oKn, oIn, hd, hown, hdy, hsame, oCheck, oQuote, oEach, oPrice, oParts, oLowR, oCheapest, oRefCheap, oCredit, vP, zP, oBudget, oMore, oMost, h0, hE, hB, hm]; rfl) ?_)
        simp only [AEx.thn, AEx.blk]
        refine runs_cond (x := false) (by simp) ?_
        refine runs_skip ?_
        simp only [AEx.thn, AEx.blk]
        refine runs_seq ?_
        refine runs_seq ?_
        refine runs_reg (ops_run (by simp [lop, loud, callA, calleeA, callF_step h15, h15, callF_step h16, h16, callF_step h17, h17, callF_step h18, h18, callF_step h20, h20, callF_step h22, h22, callF_step h23, h23, callF_step h24, h24, callF_step h25, h25, lx, -lenA, hdu, fx, rx, cx1, cx2, oCheckR, oKn, oIn, hd, hown, hdy, hsame, oCheck, oQuote, oEach, oPrice, oParts, oLowR, oCheapest, oRefCheap, oCredit, vP, zP, oBudget, oMore, oMost, h0, hE, hB, hm]; rfl) ?_)
        simp only [AEx.thn, AEx.blk]
        refine runs_seq ?_
        refine runs_reg (ops_run (by simp [lop, loud, callA, calleeA, callF_step h15, h15, callF_step h16, h16, callF_step h17, h17, callF_step h18, h18, callF_step h20, h20, callF_step h22, h22, callF_step h23, h23, callF_step h24, h24, callF_step h25, h25, lx, -lenA, hdu, fx, rx, cx1, cx2, oCheckR, oKn, oIn, hd, hown, hdy, hsame, oCheck, oQuote, oEach, oPrice, oParts, oLowR, oCheapest, oRefCheap, oCredit, vP, zP, oBudget, oMore, oMost, h0, hE, hB, hm]; rfl) ?_)
        simp only [AEx.thn, AEx.blk]
        refine runs_cond (x := false) (by simp) ?_
        refine runs_skip ?_
        simp only [AEx.thn, AEx.blk]
        refine runs_seq ?_
        refine runs_block ?_
        refine runs_seq ?_
        refine runs_reg (ops_run (by simp [lop, loud, callA, calleeA, callF_step h15, h15, callF_step h16, h16, callF_step h17, h17, callF_step h18, h18, callF_step h20, h20, callF_step h22, h22, callF_step h23, h23, callF_step h24, h24, callF_step h25, h25, lx, -lenA, hdu, fx, rx, cx1, cx2, oCheckR, oKn, oIn, hd, hown, hdy, hsame, oCheck, oQuote, oEach, oPrice, oParts, oLowR, oCheapest, oRefCheap, oCredit, vP, zP, oBudget, oMore, oMost, h0, hE, hB, hm]; rfl) ?_)
        simp only [AEx.thn, AEx.blk]
        refine runs_cond (x := true) (by simp) ?_
        refine runs_seq ?_
        refine runs_reg (ops_run (by simp [lop, loud, callA, calleeA, callF_step h15, h15, callF_step h16, h16, callF_step h17, h17, callF_step h18, h18, callF_step h20, h20, callF_step h22, h22, callF_step h23, h23, callF_step h24, h24, callF_step h25, h25, lx, -lenA, hdu, fx, rx, cx1, cx2, oCheckR, oKn, oIn, hd, hown, hdy, hsame, oCheck, oQuote, oEach, oPrice, oParts, oLowR, oCheapest, oRefCheap, oCredit, vP, zP, oBudget, oMore, oMost, h0, hE, hB, hm]; rfl) ?_)
        simp only [AEx.thn, AEx.blk]
        refine runs_cond (x := false) (by simp) ?_
        obtain ⟨hn1, hn2⟩ := hn
        have hi : inI 1 n 100000 = true := by simp [inI]; omega
        refine runs_skip ?_
        simp only [AEx.thn, AEx.blk]
        refine runs_seq ?_
        refine runs_seq ?_
        refine runs_reg (ops_run (by simp [lop, loud, callA, calleeA, callF_step h15, h15, callF_step h16, h16, callF_step h17, h17, callF_step h18, h18, callF_step h20, h20, callF_step h22, h22, callF_step h23, h23, callF_step h24, h24, callF_step h25, h25, lx, -lenA, hdu, fx, rx, cx1, cx2, oCheckR, oKn, oIn, hd, hown, hdy, hsame, oCheck, oQuote, oEach, oPrice, oParts, oLowR, oCheapest, oRefCheap, oCredit, vP, zP, oBudget, oMore, oMost, h0, hE, hB, hm, hi, hn1, hn2]; rfl) ?_)
        simp only [AEx.thn, AEx.blk]
        refine runs_cond (x := false) (by simp) ?_
        refine runs_skip ?_
        simp only [AEx.thn, AEx.blk]
        refine runs_seq ?_
        refine runs_drw (by simp (maxSteps := 3000000) [lop, loud, callA, calleeA, callF_step h15, h15, callF_step h16, h16, callF_step h17, h17, callF_step h18, h18, callF_step h20, h20, callF_step h22, h22, callF_step h23, h23, callF_step h24, h24, callF_step h25, h25, lx, -lenA, hdu, fx, rx, cx1, cx2, oCheckR, oKn, oIn, hd, hown, hdy, hsame, oCheck, oQuote, oEach, oPrice, oParts, oLowR, oCheapest, oRefCheap, oCredit, vP, zP, oBudget, oMore, oMost, h0, hE, hB, hm, hi, hn1, hn2]; rfl) ?_
        simp only [AEx.thn, AEx.blk]
        refine runs_ret ?_
        simp [lop, loud, callA, calleeA, callF_step h15, h15, callF_step h16, h16, callF_step h17, h17, callF_step h18, h18, callF_step h20, h20, callF_step h22, h22, callF_step h23, h23, callF_step h24, h24, callF_step h25, h25, lx, -lenA, hdu, fx, rx, cx1, cx2, oCheckR, oKn, oIn, hd, hown, hdy, hsame, oCheck, oQuote, oEach, oPrice, oParts, oLowR, oCheapest, oRefCheap, oCredit, vP, zP, oBudget, oMore, oMost, h0, hE, hB, hm, hi, hn1, hn2]
      · by_cases hz : mostQ q money = 0
        · have hB : errB q money = 7 := by simp [errB, h0, hm, hz]
          refine runs_skip ?_
          simp only [AEx.thn, AEx.blk]
          refine runs_seq ?_
          refine runs_reg (ops_run (by simp [lop, loud, callA, calleeA, callF_step h15, h15, callF_step h16, h16, callF_step h17, h17, callF_step h18, h18, callF_step h20, h20, callF_step h22, h22, callF_step h23, h23, callF_step h24, h24, callF_step h25, h25, lx, -lenA, hdu, fx, rx, cx1, cx2, oCheckR, oKn, oIn, hd, hown, hdy, hsame, oCheck, oQuote, oEach, oPrice, oParts, oLowR, oCheapest, oRefCheap, oCredit, vP, zP, oBudget, oMore, oMost, h0, hE, hB, hm, hz]; rfl) ?_)
          simp only [AEx.thn, AEx.blk]
          refine runs_seq ?_
          refine runs_reg (ops_run (by simp [lop, loud, callA, calleeA, callF_step h15, h15, callF_step h16, h16, callF_step h17, h17, callF_step h18, h18, callF_step h20, h20, callF_step h22, h22, callF_step h23, h23, callF_step h24, h24, callF_step h25, h25, lx, -lenA, hdu, fx, rx, cx1, cx2, oCheckR, oKn, oIn, hd, hown, hdy, hsame, oCheck, oQuote, oEach, oPrice, oParts, oLowR, oCheapest, oRefCheap, oCredit, vP, zP, oBudget, oMore, oMost, h0, hE, hB, hm, hz]; rfl) ?_)
          simp only [AEx.thn, AEx.blk]
          refine runs_seq ?_
          refine runs_reg (ops_run (by simp [lop, loud, callA, calleeA, callF_step h15, h15, callF_step h16, h16, callF_step h17, h17, callF_step h18, h18, callF_step h20, h20, callF_step h22, h22, callF_step h23, h23, callF_step h24, h24, callF_step h25, h25, lx, -lenA, hdu, fx, rx, cx1, cx2, oCheckR, oKn, oIn, hd, hown, hdy, hsame, oCheck, oQuote, oEach, oPrice, oParts, oLowR, oCheapest, oRefCheap, oCredit, vP, zP, oBudget, oMore, oMost, h0, hE, hB, hm, hz]; rfl) ?_)
          simp only [AEx.thn, AEx.blk]
          refine runs_seq ?_
          refine runs_seq ?_
          refine runs_reg (ops_run (by simp [lop, loud, callA, calleeA, callF_step h15, h15, callF_step h16, h16, callF_step h17, h17, callF_step h18, h18, callF_step h20, h20, callF_step h22, h22, callF_step h23, h23, callF_step h24, h24, callF_step h25, h25, lx, -lenA, hdu, fx, rx, cx1, cx2, oCheckR, oKn, oIn, hd, hown, hdy, hsame, oCheck, oQuote, oEach, oPrice, oParts, oLowR, oCheapest, oRefCheap, oCredit, vP, zP, oBudget, oMore, oMost, h0, hE, hB, hm, hz]; rfl) ?_)
          simp only [AEx.thn, AEx.blk]
          refine runs_cond (x := false) (by simp) ?_
          refine runs_skip ?_
          simp only [AEx.thn, AEx.blk]
          refine runs_seq ?_
          refine runs_seq ?_
          refine runs_reg (ops_run (by simp [lop, loud, callA, calleeA, callF_step h15, h15, callF_step h16, h16, callF_step h17, h17, callF_step h18, h18, callF_step h20, h20, callF_step h22, h22, callF_step h23, h23, callF_step h24, h24, callF_step h25, h25, lx, -lenA, hdu, fx, rx, cx1, cx2, oCheckR, oKn, oIn, hd, hown, hdy, hsame, oCheck, oQuote, oEach, oPrice, oParts, oLowR, oCheapest, oRefCheap, oCredit, vP, zP, oBudget, oMore, oMost, h0, hE, hB, hm, hz]; rfl) ?_)
          simp only [AEx.thn, AEx.blk]
          refine runs_seq ?_
          refine runs_reg (ops_run (by simp [lop, loud, callA, calleeA, callF_step h15, h15, callF_step h16, h16, callF_step h17, h17, callF_step h18, h18, callF_step h20, h20, callF_step h22, h22, callF_step h23, h23, callF_step h24, h24, callF_step h25, h25, lx, -lenA, hdu, fx, rx, cx1, cx2, oCheckR, oKn, oIn, hd, hown, hdy, hsame, oCheck, oQuote, oEach, oPrice, oParts, oLowR, oCheapest, oRefCheap, oCredit, vP, zP, oBudget, oMore, oMost, h0, hE, hB, hm, hz]; rfl) ?_)
          simp only [AEx.thn, AEx.blk]
          refine runs_cond (x := false) (by simp) ?_
          refine runs_skip ?_
          simp only [AEx.thn, AEx.blk]
          refine runs_seq ?_
          refine runs_block ?_
          refine runs_seq ?_
          refine runs_reg (ops_run (by simp [lop, loud, callA, calleeA, callF_step h15, h15, callF_step h16, h16, callF_step h17, h17, callF_step h18, h18, callF_step h20, h20, callF_step h22, h22, callF_step h23, h23, callF_step h24, h24, callF_step h25, h25, lx, -lenA, hdu, fx, rx, cx1, cx2, oCheckR, oKn, oIn, hd, hown, hdy, hsame, oCheck, oQuote, oEach, oPrice, oParts, oLowR, oCheapest, oRefCheap, oCredit, vP, zP, oBudget, oMore, oMost, h0, hE, hB, hm, hz]; rfl) ?_)
          simp only [AEx.thn, AEx.blk]
          refine runs_cond (x := false) (by simp) ?_
          refine runs_seq ?_
          refine runs_reg (ops_run (by simp [lop, loud, callA, calleeA, callF_step h15, h15, callF_step h16, h16, callF_step h17, h17, callF_step h18, h18, callF_step h20, h20, callF_step h22, h22, callF_step h23, h23, callF_step h24, h24, callF_step h25, h25, lx, -lenA, hdu, fx, rx, cx1, cx2, oCheckR, oKn, oIn, hd, hown, hdy, hsame, oCheck, oQuote, oEach, oPrice, oParts, oLowR, oCheapest, oRefCheap, oCredit, vP, zP, oBudget, oMore, oMost, h0, hE, hB, hm, hz]; rfl) ?_)
          simp only [AEx.thn, AEx.blk]
          refine runs_seq ?_
          refine runs_reg (ops_run (by simp [lop, loud, callA, calleeA, callF_step h15, h15, callF_step h16, h16, callF_step h17, h17, callF_step h18, h18, callF_step h20, h20, callF_step h22, h22, callF_step h23, h23, callF_step h24, h24, callF_step h25, h25, lx, -lenA, hdu, fx, rx, cx1, cx2, oCheckR, oKn, oIn, hd, hown, hdy, hsame, oCheck, oQuote, oEach, oPrice, oParts, oLowR, oCheapest, oRefCheap, oCredit, vP, zP, oBudget, oMore, oMost, h0, hE, hB, hm, hz]; rfl) ?_)
          simp only [AEx.thn, AEx.blk]
          refine runs_cond (x := false) (by simp) ?_
          obtain ⟨hn1, hn2⟩ := hn
          have hi : inI 1 n 100000 = true := by simp [inI]; omega
          refine runs_skip ?_
          simp only [AEx.thn, AEx.blk]
          refine runs_seq ?_
          refine runs_seq ?_
          refine runs_reg (ops_run (by simp [lop, loud, callA, calleeA, callF_step h15, h15, callF_step h16, h16, callF_step h17, h17, callF_step h18, h18, callF_step h20, h20, callF_step h22, h22, callF_step h23, h23, callF_step h24, h24, callF_step h25, h25, lx, -lenA, hdu, fx, rx, cx1, cx2, oCheckR, oKn, oIn, hd, hown, hdy, hsame, oCheck, oQuote, oEach, oPrice, oParts, oLowR, oCheapest, oRefCheap, oCredit, vP, zP, oBudget, oMore, oMost, h0, hE, hB, hm, hz, hi, hn1, hn2]; rfl) ?_)
          simp only [AEx.thn, AEx.blk]
          refine runs_cond (x := false) (by simp) ?_
          refine runs_skip ?_
          simp only [AEx.thn, AEx.blk]
          refine runs_seq ?_
          refine runs_drw (by simp (maxSteps := 3000000) [lop, loud, callA, calleeA, callF_step h15, h15, callF_step h16, h16, callF_step h17, h17, callF_step h18, h18, callF_step h20, h20, callF_step h22, h22, callF_step h23, h23, callF_step h24, h24, callF_step h25, h25, lx, -lenA, hdu, fx, rx, cx1, cx2, oCheckR, oKn, oIn, hd, hown, hdy, hsame, oCheck, oQuote, oEach, oPrice, oParts, oLowR, oCheapest, oRefCheap, oCredit, vP, zP, oBudget, oMore, oMost, h0, hE, hB, hm, hz, hi, hn1, hn2]; rfl) ?_
          simp only [AEx.thn, AEx.blk]
          refine runs_ret ?_
          simp [lop, loud, callA, calleeA, callF_step h15, h15, callF_step h16, h16, callF_step h17, h17, callF_step h18, h18, callF_step h20, h20, callF_step h22, h22, callF_step h23, h23, callF_step h24, h24, callF_step h25, h25, lx, -lenA, hdu, fx, rx, cx1, cx2, oCheckR, oKn, oIn, hd, hown, hdy, hsame, oCheck, oQuote, oEach, oPrice, oParts, oLowR, oCheapest, oRefCheap, oCredit, vP, zP, oBudget, oMore, oMost, h0, hE, hB, hm, hz, hi, hn1, hn2]
        · have hB : errB q money = 0 := by simp [errB, h0, hm, hz]
          have hzb : (mostQ q money == 0) = false := by simpa using hz
          have hz0 : 0 < mostQ q money := by have := mostQ_bd q money; omega
          refine runs_skip ?_
          simp only [AEx.thn, AEx.blk]
          refine runs_seq ?_
          refine runs_reg (ops_run (by simp [lop, loud, callA, calleeA, callF_step h15, h15, callF_step h16, h16, callF_step h17, h17, callF_step h18, h18, callF_step h20, h20, callF_step h22, h22, callF_step h23, h23, callF_step h24, h24, callF_step h25, h25, lx, -lenA, hdu, fx, rx, cx1, cx2, oCheckR, oKn, oIn, hd, hown, hdy, hsame, oCheck, oQuote, oEach, oPrice, oParts, oLowR, oCheapest, oRefCheap, oCredit, vP, zP, oBudget, oMore, oMost, h0, hE, hB, hm, hzb, hz0]; rfl) ?_)
          simp only [AEx.thn, AEx.blk]
          refine runs_seq ?_
          refine runs_reg (ops_run (by simp [lop, loud, callA, calleeA, callF_step h15, h15, callF_step h16, h16, callF_step h17, h17, callF_step h18, h18, callF_step h20, h20, callF_step h22, h22, callF_step h23, h23, callF_step h24, h24, callF_step h25, h25, lx, -lenA, hdu, fx, rx, cx1, cx2, oCheckR, oKn, oIn, hd, hown, hdy, hsame, oCheck, oQuote, oEach, oPrice, oParts, oLowR, oCheapest, oRefCheap, oCredit, vP, zP, oBudget, oMore, oMost, h0, hE, hB, hm, hzb, hz0]; rfl) ?_)
          simp only [AEx.thn, AEx.blk]
          refine runs_seq ?_
          refine runs_reg (ops_run (by simp [lop, loud, callA, calleeA, callF_step h15, h15, callF_step h16, h16, callF_step h17, h17, callF_step h18, h18, callF_step h20, h20, callF_step h22, h22, callF_step h23, h23, callF_step h24, h24, callF_step h25, h25, lx, -lenA, hdu, fx, rx, cx1, cx2, oCheckR, oKn, oIn, hd, hown, hdy, hsame, oCheck, oQuote, oEach, oPrice, oParts, oLowR, oCheapest, oRefCheap, oCredit, vP, zP, oBudget, oMore, oMost, h0, hE, hB, hm, hzb, hz0]; rfl) ?_)
          simp only [AEx.thn, AEx.blk]
          refine runs_seq ?_
          refine runs_seq ?_
          refine runs_reg (ops_run (by simp [lop, loud, callA, calleeA, callF_step h15, h15, callF_step h16, h16, callF_step h17, h17, callF_step h18, h18, callF_step h20, h20, callF_step h22, h22, callF_step h23, h23, callF_step h24, h24, callF_step h25, h25, lx, -lenA, hdu, fx, rx, cx1, cx2, oCheckR, oKn, oIn, hd, hown, hdy, hsame, oCheck, oQuote, oEach, oPrice, oParts, oLowR, oCheapest, oRefCheap, oCredit, vP, zP, oBudget, oMore, oMost, h0, hE, hB, hm, hzb, hz0]; rfl) ?_)
          simp only [AEx.thn, AEx.blk]
          refine runs_cond (x := false) (by simp) ?_
          refine runs_skip ?_
          simp only [AEx.thn, AEx.blk]
          refine runs_seq ?_
          refine runs_seq ?_
          refine runs_reg (ops_run (by simp [lop, loud, callA, calleeA, callF_step h15, h15, callF_step h16, h16, callF_step h17, h17, callF_step h18, h18, callF_step h20, h20, callF_step h22, h22, callF_step h23, h23, callF_step h24, h24, callF_step h25, h25, lx, -lenA, hdu, fx, rx, cx1, cx2, oCheckR, oKn, oIn, hd, hown, hdy, hsame, oCheck, oQuote, oEach, oPrice, oParts, oLowR, oCheapest, oRefCheap, oCredit, vP, zP, oBudget, oMore, oMost, h0, hE, hB, hm, hzb, hz0]; rfl) ?_)
          simp only [AEx.thn, AEx.blk]
          refine runs_seq ?_
          refine runs_reg (ops_run (by simp [lop, loud, callA, calleeA, callF_step h15, h15, callF_step h16, h16, callF_step h17, h17, callF_step h18, h18, callF_step h20, h20, callF_step h22, h22, callF_step h23, h23, callF_step h24, h24, callF_step h25, h25, lx, -lenA, hdu, fx, rx, cx1, cx2, oCheckR, oKn, oIn, hd, hown, hdy, hsame, oCheck, oQuote, oEach, oPrice, oParts, oLowR, oCheapest, oRefCheap, oCredit, vP, zP, oBudget, oMore, oMost, h0, hE, hB, hm, hzb, hz0]; rfl) ?_)
          simp only [AEx.thn, AEx.blk]
          refine runs_cond (x := false) (by simp) ?_
          refine runs_skip ?_
          simp only [AEx.thn, AEx.blk]
          refine runs_seq ?_
          refine runs_block ?_
          refine runs_seq ?_
          refine runs_reg (ops_run (by simp [lop, loud, callA, calleeA, callF_step h15, h15, callF_step h16, h16, callF_step h17, h17, callF_step h18, h18, callF_step h20, h20, callF_step h22, h22, callF_step h23, h23, callF_step h24, h24, callF_step h25, h25, lx, -lenA, hdu, fx, rx, cx1, cx2, oCheckR, oKn, oIn, hd, hown, hdy, hsame, oCheck, oQuote, oEach, oPrice, oParts, oLowR, oCheapest, oRefCheap, oCredit, vP, zP, oBudget, oMore, oMost, h0, hE, hB, hm, hzb, hz0]; rfl) ?_)
          simp only [AEx.thn, AEx.blk]
          refine runs_cond (x := false) (by simp) ?_
          refine runs_seq ?_
          refine runs_reg (ops_run (by simp [lop, loud, callA, calleeA, callF_step h15, h15, callF_step h16, h16, callF_step h17, h17, callF_step h18, h18, callF_step h20, h20, callF_step h22, h22, callF_step h23, h23, callF_step h24, h24, callF_step h25, h25, lx, -lenA, hdu, fx, rx, cx1, cx2, oCheckR, oKn, oIn, hd, hown, hdy, hsame, oCheck, oQuote, oEach, oPrice, oParts, oLowR, oCheapest, oRefCheap, oCredit, vP, zP, oBudget, oMore, oMost, h0, hE, hB, hm, hzb, hz0]; rfl) ?_)
          simp only [AEx.thn, AEx.blk]
          refine runs_seq ?_
          refine runs_reg (ops_run (by simp [lop, loud, callA, calleeA, callF_step h15, h15, callF_step h16, h16, callF_step h17, h17, callF_step h18, h18, callF_step h20, h20, callF_step h22, h22, callF_step h23, h23, callF_step h24, h24, callF_step h25, h25, lx, -lenA, hdu, fx, rx, cx1, cx2, oCheckR, oKn, oIn, hd, hown, hdy, hsame, oCheck, oQuote, oEach, oPrice, oParts, oLowR, oCheapest, oRefCheap, oCredit, vP, zP, oBudget, oMore, oMost, h0, hE, hB, hm, hzb, hz0]; rfl) ?_)
          simp only [AEx.thn, AEx.blk]
          refine runs_cond (x := false) (by simp) ?_
          obtain ⟨hn1, hn2⟩ := hn
          have hi : inI 1 n 100000 = true := by simp [inI]; omega
          refine runs_skip ?_
          simp only [AEx.thn, AEx.blk]
          refine runs_seq ?_
          refine runs_seq ?_
          refine runs_reg (ops_run (by simp [lop, loud, callA, calleeA, callF_step h15, h15, callF_step h16, h16, callF_step h17, h17, callF_step h18, h18, callF_step h20, h20, callF_step h22, h22, callF_step h23, h23, callF_step h24, h24, callF_step h25, h25, lx, -lenA, hdu, fx, rx, cx1, cx2, oCheckR, oKn, oIn, hd, hown, hdy, hsame, oCheck, oQuote, oEach, oPrice, oParts, oLowR, oCheapest, oRefCheap, oCredit, vP, zP, oBudget, oMore, oMost, h0, hE, hB, hm, hzb, hz0, hi, hn1, hn2]; rfl) ?_)
          simp only [AEx.thn, AEx.blk]
          refine runs_cond (x := false) (by simp) ?_
          refine runs_skip ?_
          simp only [AEx.thn, AEx.blk]
          refine runs_seq ?_
          refine runs_drw (by simp (maxSteps := 3000000) [lop, loud, callA, calleeA, callF_step h15, h15, callF_step h16, h16, callF_step h17, h17, callF_step h18, h18, callF_step h20, h20, callF_step h22, h22, callF_step h23, h23, callF_step h24, h24, callF_step h25, h25, lx, -lenA, hdu, fx, rx, cx1, cx2, oCheckR, oKn, oIn, hd, hown, hdy, hsame, oCheck, oQuote, oEach, oPrice, oParts, oLowR, oCheapest, oRefCheap, oCredit, vP, zP, oBudget, oMore, oMost, h0, hE, hB, hm, hzb, hz0, hi, hn1, hn2]; rfl) ?_
          simp only [AEx.thn, AEx.blk]
          refine runs_ret ?_
          simp [lop, loud, callA, calleeA, callF_step h15, h15, callF_step h16, h16, callF_step h17, h17, callF_step h18, h18, callF_step h20, h20, callF_step h22, h22, callF_step h23, h23, callF_step h24, h24, callF_step h25, h25, lx, -lenA, hdu, fx, rx, cx1, cx2, oCheckR, oKn, oIn, hd, hown, hdy, hsame, oCheck, oQuote, oEach, oPrice, oParts, oLowR, oCheapest, oRefCheap, oCredit, vP, zP, oBudget, oMore, oMost, h0, hE, hB, hm, hzb, hz0, hi, hn1, hn2]
    · have hE : errN q n = 3 := by simp only [errN, h0, if_true]; rw [if_neg hn]
      by_cases hm : money < 0
      · have hB : errB q money = 9 := by simp [errB, h0, hm]
        refine runs_skip ?_
        simp only [AEx.thn, AEx.blk]
        refine runs_seq ?_
        refine runs_reg (ops_run (by simp [lop, loud, callA, calleeA, callF_step h15, h15, callF_step h16, h16, callF_step h17, h17, callF_step h18, h18, callF_step h20, h20, callF_step h22, h22, callF_step h23, h23, callF_step h24, h24, callF_step h25, h25, lx, -lenA, hdu, fx, rx, cx1, cx2, oCheckR, oKn, oIn, hd, hown, hdy, hsame, oCheck, oQuote, oEach, oPrice, oParts, oLowR, oCheapest, oRefCheap, oCredit, vP, zP, oBudget, oMore, oMost, h0, hE, hB, hm]; rfl) ?_)
        simp only [AEx.thn, AEx.blk]
        refine runs_seq ?_
        refine runs_reg (ops_run (by simp [lop, loud, callA, calleeA, callF_step h15, h15, callF_step h16, h16, callF_step h17, h17, callF_step h18, h18, callF_step h20, h20, callF_step h22, h22, callF_step h23, h23, callF_step h24, h24, callF_step h25, h25, lx, -lenA, hdu, fx, rx, cx1, cx2, oCheckR, oKn, oIn, hd, hown, hdy, hsame, oCheck, oQuote, oEach, oPrice, oParts, oLowR, oCheapest, oRefCheap, oCredit, vP, zP, oBudget, oMore, oMost, h0, hE, hB, hm]; rfl) ?_)
        simp only [AEx.thn, AEx.blk]
        refine runs_seq ?_
        refine runs_reg (ops_run (by simp [lop, loud, callA, calleeA, callF_step h15, h15, callF_step h16, h16, callF_step h17, h17, callF_step h18, h18, callF_step h20, h20, callF_step h22, h22, callF_step h23, h23, callF_step h24, h24, callF_step h25, h25, lx, -lenA, hdu, fx, rx, cx1, cx2, oCheckR, oKn, oIn, hd, hown, hdy, hsame, oCheck, oQuote, oEach, oPrice, oParts, oLowR, oCheapest, oRefCheap, oCredit, vP, zP, oBudget, oMore, oMost, h0, hE, hB, hm]; rfl) ?_)
        simp only [AEx.thn, AEx.blk]
        refine runs_seq ?_
        refine runs_seq ?_
        refine runs_reg (ops_run (by simp [lop, loud, callA, calleeA, callF_step h15, h15, callF_step h16, h16, callF_step h17, h17, callF_step h18, h18, callF_step h20, h20, callF_step h22, h22, callF_step h23, h23, callF_step h24, h24, callF_step h25, h25, lx, -lenA, hdu, fx, rx, cx1, cx2, oCheckR, oKn, oIn, hd, hown, hdy, hsame, oCheck, oQuote, oEach, oPrice, oParts, oLowR, oCheapest, oRefCheap, oCredit, vP, zP, oBudget, oMore, oMost, h0, hE, hB, hm]; rfl) ?_)
        simp only [AEx.thn, AEx.blk]
        refine runs_cond (x := false) (by simp) ?_
        refine runs_skip ?_
        simp only [AEx.thn, AEx.blk]
        refine runs_seq ?_
        refine runs_seq ?_
        refine runs_reg (ops_run (by simp [lop, loud, callA, calleeA, callF_step h15, h15, callF_step h16, h16, callF_step h17, h17, callF_step h18, h18, callF_step h20, h20, callF_step h22, h22, callF_step h23, h23, callF_step h24, h24, callF_step h25, h25, lx, -lenA, hdu, fx, rx, cx1, cx2, oCheckR, oKn, oIn, hd, hown, hdy, hsame, oCheck, oQuote, oEach, oPrice, oParts, oLowR, oCheapest, oRefCheap, oCredit, vP, zP, oBudget, oMore, oMost, h0, hE, hB, hm]; rfl) ?_)
        simp only [AEx.thn, AEx.blk]
        refine runs_seq ?_
        refine runs_reg (ops_run (by simp [lop, loud, callA, calleeA, callF_step h15, h15, callF_step h16, h16, callF_step h17, h17, callF_step h18, h18, callF_step h20, h20, callF_step h22, h22, callF_step h23, h23, callF_step h24, h24, callF_step h25, h25, lx, -lenA, hdu, fx, rx, cx1, cx2, oCheckR, oKn, oIn, hd, hown, hdy, hsame, oCheck, oQuote, oEach, oPrice, oParts, oLowR, oCheapest, oRefCheap, oCredit, vP, zP, oBudget, oMore, oMost, h0, hE, hB, hm]; rfl) ?_)
        simp only [AEx.thn, AEx.blk]
        refine runs_cond (x := false) (by simp) ?_
        refine runs_skip ?_
        simp only [AEx.thn, AEx.blk]
        refine runs_seq ?_
        refine runs_block ?_
        refine runs_seq ?_
        refine runs_reg (ops_run (by simp [lop, loud, callA, calleeA, callF_step h15, h15, callF_step h16, h16, callF_step h17, h17, callF_step h18, h18, callF_step h20, h20, callF_step h22, h22, callF_step h23, h23, callF_step h24, h24, callF_step h25, h25, lx, -lenA, hdu, fx, rx, cx1, cx2, oCheckR, oKn, oIn, hd, hown, hdy, hsame, oCheck, oQuote, oEach, oPrice, oParts, oLowR, oCheapest, oRefCheap, oCredit, vP, zP, oBudget, oMore, oMost, h0, hE, hB, hm]; rfl) ?_)
        simp only [AEx.thn, AEx.blk]
        refine runs_cond (x := true) (by simp) ?_
        refine runs_seq ?_
        refine runs_reg (ops_run (by simp [lop, loud, callA, calleeA, callF_step h15, h15, callF_step h16, h16, callF_step h17, h17, callF_step h18, h18, callF_step h20, h20, callF_step h22, h22, callF_step h23, h23, callF_step h24, h24, callF_step h25, h25, lx, -lenA, hdu, fx, rx, cx1, cx2, oCheckR, oKn, oIn, hd, hown, hdy, hsame, oCheck, oQuote, oEach, oPrice, oParts, oLowR, oCheapest, oRefCheap, oCredit, vP, zP, oBudget, oMore, oMost, h0, hE, hB, hm]; rfl) ?_)
        simp only [AEx.thn, AEx.blk]
        refine runs_cond (x := false) (by simp) ?_
        have hi : inI 1 n 100000 = false := by simp [inI]; omega
        refine runs_skip ?_
        simp only [AEx.thn, AEx.blk]
        refine runs_seq ?_
        refine runs_seq ?_
        refine runs_reg (ops_run (by simp [lop, loud, callA, calleeA, callF_step h15, h15, callF_step h16, h16, callF_step h17, h17, callF_step h18, h18, callF_step h20, h20, callF_step h22, h22, callF_step h23, h23, callF_step h24, h24, callF_step h25, h25, lx, -lenA, hdu, fx, rx, cx1, cx2, oCheckR, oKn, oIn, hd, hown, hdy, hsame, oCheck, oQuote, oEach, oPrice, oParts, oLowR, oCheapest, oRefCheap, oCredit, vP, zP, oBudget, oMore, oMost, h0, hE, hB, hm, hi]; rfl) ?_)
        simp only [AEx.thn, AEx.blk]
        refine runs_cond (x := true) (by simp) ?_
        refine runs_seq ?_
        refine runs_reg (ops_run (by simp [lop, loud, callA, calleeA, callF_step h15, h15, callF_step h16, h16, callF_step h17, h17, callF_step h18, h18, callF_step h20, h20, callF_step h22, h22, callF_step h23, h23, callF_step h24, h24, callF_step h25, h25, lx, -lenA, hdu, fx, rx, cx1, cx2, oCheckR, oKn, oIn, hd, hown, hdy, hsame, oCheck, oQuote, oEach, oPrice, oParts, oLowR, oCheapest, oRefCheap, oCredit, vP, zP, oBudget, oMore, oMost, h0, hE, hB, hm, hi]; rfl) ?_)
        simp only [AEx.thn, AEx.blk]
        refine runs_ret ?_
        simp [lop, loud, callA, calleeA, callF_step h15, h15, callF_step h16, h16, callF_step h17, h17, callF_step h18, h18, callF_step h20, h20, callF_step h22, h22, callF_step h23, h23, callF_step h24, h24, callF_step h25, h25, lx, -lenA, hdu, fx, rx, cx1, cx2, oCheckR, oKn, oIn, hd, hown, hdy, hsame, oCheck, oQuote, oEach, oPrice, oParts, oLowR, oCheapest, oRefCheap, oCredit, vP, zP, oBudget, oMore, oMost, h0, hE, hB, hm, hi]
      · by_cases hz : mostQ q money = 0
        · have hB : errB q money = 7 := by simp [errB, h0, hm, hz]
          refine runs_skip ?_
          simp only [AEx.thn, AEx.blk]
          refine runs_seq ?_
          refine runs_reg (ops_run (by simp [lop, loud, callA, calleeA, callF_step h15, h15, callF_step h16, h16, callF_step h17, h17, callF_step h18, h18, callF_step h20, h20, callF_step h22, h22, callF_step h23, h23, callF_step h24, h24, callF_step h25, h25, lx, -lenA, hdu, fx, rx, cx1, cx2, oCheckR, oKn, oIn, hd, hown, hdy, hsame, oCheck, oQuote, oEach, oPrice, oParts, oLowR, oCheapest, oRefCheap, oCredit, vP, zP, oBudget, oMore, oMost, h0, hE, hB, hm, hz]; rfl) ?_)
          simp only [AEx.thn, AEx.blk]
          refine runs_seq ?_
          refine runs_reg (ops_run (by simp [lop, loud, callA, calleeA, callF_step h15, h15, callF_step h16, h16, callF_step h17, h17, callF_step h18, h18, callF_step h20, h20, callF_step h22, h22, callF_step h23, h23, callF_step h24, h24, callF_step h25, h25, lx, -lenA, hdu, fx, rx, cx1, cx2, oCheckR, oKn, oIn, hd, hown, hdy, hsame, oCheck, oQuote, oEach, oPrice, oParts, oLowR, oCheapest, oRefCheap, oCredit, vP, zP, oBudget, oMore, oMost, h0, hE, hB, hm, hz]; rfl) ?_)
          simp only [AEx.thn, AEx.blk]
          refine runs_seq ?_
          refine runs_reg (ops_run (by simp [lop, loud, callA, calleeA, callF_step h15, h15, callF_step h16, h16, callF_step h17, h17, callF_step h18, h18, callF_step h20, h20, callF_step h22, h22, callF_step h23, h23, callF_step h24, h24, callF_step h25, h25, lx, -lenA, hdu, fx, rx, cx1, cx2, oCheckR, oKn, oIn, hd, hown, hdy, hsame, oCheck, oQuote, oEach, oPrice, oParts, oLowR, oCheapest, oRefCheap, oCredit, vP, zP, oBudget, oMore, oMost, h0, hE, hB, hm, hz]; rfl) ?_)
          simp only [AEx.thn, AEx.blk]
          refine runs_seq ?_
          refine runs_seq ?_
          refine runs_reg (ops_run (by simp [lop, loud, callA, calleeA, callF_step h15, h15, callF_step h16, h16, callF_step h17, h17, callF_step h18, h18, callF_step h20, h20, callF_step h22, h22, callF_step h23, h23, callF_step h24, h24, callF_step h25, h25, lx, -lenA, hdu, fx, rx, cx1, cx2, oCheckR, oKn, oIn, hd, hown, hdy, hsame, oCheck, oQuote, oEach, oPrice, oParts, oLowR, oCheapest, oRefCheap, oCredit, vP, zP, oBudget, oMore, oMost, h0, hE, hB, hm, hz]; rfl) ?_)
          simp only [AEx.thn, AEx.blk]
          refine runs_cond (x := false) (by simp) ?_
          refine runs_skip ?_
          simp only [AEx.thn, AEx.blk]
          refine runs_seq ?_
          refine runs_seq ?_
          refine runs_reg (ops_run (by simp [lop, loud, callA, calleeA, callF_step h15, h15, callF_step h16, h16, callF_step h17, h17, callF_step h18, h18, callF_step h20, h20, callF_step h22, h22, callF_step h23, h23, callF_step h24, h24, callF_step h25, h25, lx, -lenA, hdu, fx, rx, cx1, cx2, oCheckR, oKn, oIn, hd, hown, hdy, hsame, oCheck, oQuote, oEach, oPrice, oParts, oLowR, oCheapest, oRefCheap, oCredit, vP, zP, oBudget, oMore, oMost, h0, hE, hB, hm, hz]; rfl) ?_)
          simp only [AEx.thn, AEx.blk]
          refine runs_seq ?_
          refine runs_reg (ops_run (by simp [lop, loud, callA, calleeA, callF_step h15, h15, callF_step h16, h16, callF_step h17, h17, callF_step h18, h18, callF_step h20, h20, callF_step h22, h22, callF_step h23, h23, callF_step h24, h24, callF_step h25, h25, lx, -lenA, hdu, fx, rx, cx1, cx2, oCheckR, oKn, oIn, hd, hown, hdy, hsame, oCheck, oQuote, oEach, oPrice, oParts, oLowR, oCheapest, oRefCheap, oCredit, vP, zP, oBudget, oMore, oMost, h0, hE, hB, hm, hz]; rfl) ?_)
          simp only [AEx.thn, AEx.blk]
          refine runs_cond (x := false) (by simp) ?_
          refine runs_skip ?_
          simp only [AEx.thn, AEx.blk]
          refine runs_seq ?_
          refine runs_block ?_
          refine runs_seq ?_
          refine runs_reg (ops_run (by simp [lop, loud, callA, calleeA, callF_step h15, h15, callF_step h16, h16, callF_step h17, h17, callF_step h18, h18, callF_step h20, h20, callF_step h22, h22, callF_step h23, h23, callF_step h24, h24, callF_step h25, h25, lx, -lenA, hdu, fx, rx, cx1, cx2, oCheckR, oKn, oIn, hd, hown, hdy, hsame, oCheck, oQuote, oEach, oPrice, oParts, oLowR, oCheapest, oRefCheap, oCredit, vP, zP, oBudget, oMore, oMost, h0, hE, hB, hm, hz]; rfl) ?_)
          simp only [AEx.thn, AEx.blk]
          refine runs_cond (x := false) (by simp) ?_
          refine runs_seq ?_
          refine runs_reg (ops_run (by simp [lop, loud, callA, calleeA, callF_step h15, h15, callF_step h16, h16, callF_step h17, h17, callF_step h18, h18, callF_step h20, h20, callF_step h22, h22, callF_step h23, h23, callF_step h24, h24, callF_step h25, h25, lx, -lenA, hdu, fx, rx, cx1, cx2, oCheckR, oKn, oIn, hd, hown, hdy, hsame, oCheck, oQuote, oEach, oPrice, oParts, oLowR, oCheapest, oRefCheap, oCredit, vP, zP, oBudget, oMore, oMost, h0, hE, hB, hm, hz]; rfl) ?_)
          simp only [AEx.thn, AEx.blk]
          refine runs_seq ?_
          refine runs_reg (ops_run (by simp [lop, loud, callA, calleeA, callF_step h15, h15, callF_step h16, h16, callF_step h17, h17, callF_step h18, h18, callF_step h20, h20, callF_step h22, h22, callF_step h23, h23, callF_step h24, h24, callF_step h25, h25, lx, -lenA, hdu, fx, rx, cx1, cx2, oCheckR, oKn, oIn, hd, hown, hdy, hsame, oCheck, oQuote, oEach, oPrice, oParts, oLowR, oCheapest, oRefCheap, oCredit, vP, zP, oBudget, oMore, oMost, h0, hE, hB, hm, hz]; rfl) ?_)
          simp only [AEx.thn, AEx.blk]
          refine runs_cond (x := false) (by simp) ?_
          have hi : inI 1 n 100000 = false := by simp [inI]; omega
          refine runs_skip ?_
          simp only [AEx.thn, AEx.blk]
          refine runs_seq ?_
          refine runs_seq ?_
          refine runs_reg (ops_run (by simp [lop, loud, callA, calleeA, callF_step h15, h15, callF_step h16, h16, callF_step h17, h17, callF_step h18, h18, callF_step h20, h20, callF_step h22, h22, callF_step h23, h23, callF_step h24, h24, callF_step h25, h25, lx, -lenA, hdu, fx, rx, cx1, cx2, oCheckR, oKn, oIn, hd, hown, hdy, hsame, oCheck, oQuote, oEach, oPrice, oParts, oLowR, oCheapest, oRefCheap, oCredit, vP, zP, oBudget, oMore, oMost, h0, hE, hB, hm, hz, hi]; rfl) ?_)
          simp only [AEx.thn, AEx.blk]
          refine runs_cond (x := true) (by simp) ?_
          refine runs_seq ?_
          refine runs_reg (ops_run (by simp [lop, loud, callA, calleeA, callF_step h15, h15, callF_step h16, h16, callF_step h17, h17, callF_step h18, h18, callF_step h20, h20, callF_step h22, h22, callF_step h23, h23, callF_step h24, h24, callF_step h25, h25, lx, -lenA, hdu, fx, rx, cx1, cx2, oCheckR, oKn, oIn, hd, hown, hdy, hsame, oCheck, oQuote, oEach, oPrice, oParts, oLowR, oCheapest, oRefCheap, oCredit, vP, zP, oBudget, oMore, oMost, h0, hE, hB, hm, hz, hi]; rfl) ?_)
          simp only [AEx.thn, AEx.blk]
          refine runs_ret ?_
          simp [lop, loud, callA, calleeA, callF_step h15, h15, callF_step h16, h16, callF_step h17, h17, callF_step h18, h18, callF_step h20, h20, callF_step h22, h22, callF_step h23, h23, callF_step h24, h24, callF_step h25, h25, lx, -lenA, hdu, fx, rx, cx1, cx2, oCheckR, oKn, oIn, hd, hown, hdy, hsame, oCheck, oQuote, oEach, oPrice, oParts, oLowR, oCheapest, oRefCheap, oCredit, vP, zP, oBudget, oMore, oMost, h0, hE, hB, hm, hz, hi]
        · have hB : errB q money = 0 := by simp [errB, h0, hm, hz]
          have hzb : (mostQ q money == 0) = false := by simpa using hz
          have hz0 : 0 < mostQ q money := by have := mostQ_bd q money; omega
          refine runs_skip ?_
          simp only [AEx.thn, AEx.blk]
          refine runs_seq ?_
          refine runs_reg (ops_run (by simp [lop, loud, callA, calleeA, callF_step h15, h15, callF_step h16, h16, callF_step h17, h17, callF_step h18, h18, callF_step h20, h20, callF_step h22, h22, callF_step h23, h23, callF_step h24, h24, callF_step h25, h25, lx, -lenA, hdu, fx, rx, cx1, cx2, oCheckR, oKn, oIn, hd, hown, hdy, hsame, oCheck, oQuote, oEach, oPrice, oParts, oLowR, oCheapest, oRefCheap, oCredit, vP, zP, oBudget, oMore, oMost, h0, hE, hB, hm, hzb, hz0]; rfl) ?_)
          simp only [AEx.thn, AEx.blk]
          refine runs_seq ?_
          refine runs_reg (ops_run (by simp [lop, loud, callA, calleeA, callF_step h15, h15, callF_step h16, h16, callF_step h17, h17, callF_step h18, h18, callF_step h20, h20, callF_step h22, h22, callF_step h23, h23, callF_step h24, h24, callF_step h25, h25, lx, -lenA, hdu, fx, rx, cx1, cx2, oCheckR, oKn, oIn, hd, hown, hdy, hsame, oCheck, oQuote, oEach, oPrice, oParts, oLowR, oCheapest, oRefCheap, oCredit, vP, zP, oBudget, oMore, oMost, h0, hE, hB, hm, hzb, hz0]; rfl) ?_)
          simp only [AEx.thn, AEx.blk]
          refine runs_seq ?_
          refine runs_reg (ops_run (by simp [lop, loud, callA, calleeA, callF_step h15, h15, callF_step h16, h16, callF_step h17, h17, callF_step h18, h18, callF_step h20, h20, callF_step h22, h22, callF_step h23, h23, callF_step h24, h24, callF_step h25, h25, lx, -lenA, hdu, fx, rx, cx1, cx2, oCheckR, oKn, oIn, hd, hown, hdy, hsame, oCheck, oQuote, oEach, oPrice, oParts, oLowR, oCheapest, oRefCheap, oCredit, vP, zP, oBudget, oMore, oMost, h0, hE, hB, hm, hzb, hz0]; rfl) ?_)
          simp only [AEx.thn, AEx.blk]
          refine runs_seq ?_
          refine runs_seq ?_
          refine runs_reg (ops_run (by simp [lop, loud, callA, calleeA, callF_step h15, h15, callF_step h16, h16, callF_step h17, h17, callF_step h18, h18, callF_step h20, h20, callF_step h22, h22, callF_step h23, h23, callF_step h24, h24, callF_step h25, h25, lx, -lenA, hdu, fx, rx, cx1, cx2, oCheckR, oKn, oIn, hd, hown, hdy, hsame, oCheck, oQuote, oEach, oPrice, oParts, oLowR, oCheapest, oRefCheap, oCredit, vP, zP, oBudget, oMore, oMost, h0, hE, hB, hm, hzb, hz0]; rfl) ?_)
          simp only [AEx.thn, AEx.blk]
          refine runs_cond (x := false) (by simp) ?_
          refine runs_skip ?_
          simp only [AEx.thn, AEx.blk]
          refine runs_seq ?_
          refine runs_seq ?_
          refine runs_reg (ops_run (by simp [lop, loud, callA, calleeA, callF_step h15, h15, callF_step h16, h16, callF_step h17, h17, callF_step h18, h18, callF_step h20, h20, callF_step h22, h22, callF_step h23, h23, callF_step h24, h24, callF_step h25, h25, lx, -lenA, hdu, fx, rx, cx1, cx2, oCheckR, oKn, oIn, hd, hown, hdy, hsame, oCheck, oQuote, oEach, oPrice, oParts, oLowR, oCheapest, oRefCheap, oCredit, vP, zP, oBudget, oMore, oMost, h0, hE, hB, hm, hzb, hz0]; rfl) ?_)
          simp only [AEx.thn, AEx.blk]
          refine runs_seq ?_
          refine runs_reg (ops_run (by simp [lop, loud, callA, calleeA, callF_step h15, h15, callF_step h16, h16, callF_step h17, h17, callF_step h18, h18, callF_step h20, h20, callF_step h22, h22, callF_step h23, h23, callF_step h24, h24, callF_step h25, h25, lx, -lenA, hdu, fx, rx, cx1, cx2, oCheckR, oKn, oIn, hd, hown, hdy, hsame, oCheck, oQuote, oEach, oPrice, oParts, oLowR, oCheapest, oRefCheap, oCredit, vP, zP, oBudget, oMore, oMost, h0, hE, hB, hm, hzb, hz0]; rfl) ?_)
          simp only [AEx.thn, AEx.blk]
          refine runs_cond (x := false) (by simp) ?_
          refine runs_skip ?_
          simp only [AEx.thn, AEx.blk]
          refine runs_seq ?_
          refine runs_block ?_
          refine runs_seq ?_
          refine runs_reg (ops_run (by simp [lop, loud, callA, calleeA, callF_step h15, h15, callF_step h16, h16, callF_step h17, h17, callF_step h18, h18, callF_step h20, h20, callF_step h22, h22, callF_step h23, h23, callF_step h24, h24, callF_step h25, h25, lx, -lenA, hdu, fx, rx, cx1, cx2, oCheckR, oKn, oIn, hd, hown, hdy, hsame, oCheck, oQuote, oEach, oPrice, oParts, oLowR, oCheapest, oRefCheap, oCredit, vP, zP, oBudget, oMore, oMost, h0, hE, hB, hm, hzb, hz0]; rfl) ?_)
          simp only [AEx.thn, AEx.blk]
          refine runs_cond (x := false) (by simp) ?_
          refine runs_seq ?_
          refine runs_reg (ops_run (by simp [lop, loud, callA, calleeA, callF_step h15, h15, callF_step h16, h16, callF_step h17, h17, callF_step h18, h18, callF_step h20, h20, callF_step h22, h22, callF_step h23, h23, callF_step h24, h24, callF_step h25, h25, lx, -lenA, hdu, fx, rx, cx1, cx2, oCheckR, oKn, oIn, hd, hown, hdy, hsame, oCheck, oQuote, oEach, oPrice, oParts, oLowR, oCheapest, oRefCheap, oCredit, vP, zP, oBudget, oMore, oMost, h0, hE, hB, hm, hzb, hz0]; rfl) ?_)
          simp only [AEx.thn, AEx.blk]
          refine runs_seq ?_
          refine runs_reg (ops_run (by simp [lop, loud, callA, calleeA, callF_step h15, h15, callF_step h16, h16, callF_step h17, h17, callF_step h18, h18, callF_step h20, h20, callF_step h22, h22, callF_step h23, h23, callF_step h24, h24, callF_step h25, h25, lx, -lenA, hdu, fx, rx, cx1, cx2, oCheckR, oKn, oIn, hd, hown, hdy, hsame, oCheck, oQuote, oEach, oPrice, oParts, oLowR, oCheapest, oRefCheap, oCredit, vP, zP, oBudget, oMore, oMost, h0, hE, hB, hm, hzb, hz0]; rfl) ?_)
          simp only [AEx.thn, AEx.blk]
          refine runs_cond (x := false) (by simp) ?_
          have hi : inI 1 n 100000 = false := by simp [inI]; omega
          refine runs_skip ?_
          simp only [AEx.thn, AEx.blk]
          refine runs_seq ?_
          refine runs_seq ?_
          refine runs_reg (ops_run (by simp [lop, loud, callA, calleeA, callF_step h15, h15, callF_step h16, h16, callF_step h17, h17, callF_step h18, h18, callF_step h20, h20, callF_step h22, h22, callF_step h23, h23, callF_step h24, h24, callF_step h25, h25, lx, -lenA, hdu, fx, rx, cx1, cx2, oCheckR, oKn, oIn, hd, hown, hdy, hsame, oCheck, oQuote, oEach, oPrice, oParts, oLowR, oCheapest, oRefCheap, oCredit, vP, zP, oBudget, oMore, oMost, h0, hE, hB, hm, hzb, hz0, hi]; rfl) ?_)
          simp only [AEx.thn, AEx.blk]
          refine runs_cond (x := true) (by simp) ?_
          refine runs_seq ?_
          refine runs_reg (ops_run (by simp [lop, loud, callA, calleeA, callF_step h15, h15, callF_step h16, h16, callF_step h17, h17, callF_step h18, h18, callF_step h20, h20, callF_step h22, h22, callF_step h23, h23, callF_step h24, h24, callF_step h25, h25, lx, -lenA, hdu, fx, rx, cx1, cx2, oCheckR, oKn, oIn, hd, hown, hdy, hsame, oCheck, oQuote, oEach, oPrice, oParts, oLowR, oCheapest, oRefCheap, oCredit, vP, zP, oBudget, oMore, oMost, h0, hE, hB, hm, hzb, hz0, hi]; rfl) ?_)
          simp only [AEx.thn, AEx.blk]
          refine runs_ret ?_
          simp [lop, loud, callA, calleeA, callF_step h15, h15, callF_step h16, h16, callF_step h17, h17, callF_step h18, h18, callF_step h20, h20, callF_step h22, h22, callF_step h23, h23, callF_step h24, h24, callF_step h25, h25, lx, -lenA, hdu, fx, rx, cx1, cx2, oCheckR, oKn, oIn, hd, hown, hdy, hsame, oCheck, oQuote, oEach, oPrice, oParts, oLowR, oCheapest, oRefCheap, oCredit, vP, zP, oBudget, oMore, oMost, h0, hE, hB, hm, hzb, hz0, hi]
  · have hE : errN q n = checkQ q := by simp only [errN]; rw [if_neg h0]
    have hB : errB q money = checkQ q := by simp only [errB]; rw [if_neg h0]
    have hcb : (checkQ q == 0) = false := by simpa using h0
    have hcn : (checkQ q != 0) = true := by simpa using h0
    refine runs_skip ?_
    simp only [AEx.thn, AEx.blk]
    refine runs_seq ?_
    refine runs_reg (ops_run (by simp [lop, loud, callA, calleeA, callF_step h15, h15, callF_step h16, h16, callF_step h17, h17, callF_step h18, h18, callF_step h20, h20, callF_step h22, h22, callF_step h23, h23, callF_step h24, h24, callF_step h25, h25, lx, -lenA, hdu, fx, rx, cx1, cx2, oCheckR, oKn, oIn, hd, hown, hdy, hsame, oCheck, oQuote, oEach, oPrice, oParts, oLowR, oCheapest, oRefCheap, oCredit, vP, zP, oBudget, oMore, oMost, h0, hE, hB, hcb, hcn]; rfl) ?_)
    simp only [AEx.thn, AEx.blk]
    refine runs_seq ?_
    refine runs_reg (ops_run (by simp [lop, loud, callA, calleeA, callF_step h15, h15, callF_step h16, h16, callF_step h17, h17, callF_step h18, h18, callF_step h20, h20, callF_step h22, h22, callF_step h23, h23, callF_step h24, h24, callF_step h25, h25, lx, -lenA, hdu, fx, rx, cx1, cx2, oCheckR, oKn, oIn, hd, hown, hdy, hsame, oCheck, oQuote, oEach, oPrice, oParts, oLowR, oCheapest, oRefCheap, oCredit, vP, zP, oBudget, oMore, oMost, h0, hE, hB, hcb, hcn]; rfl) ?_)
    simp only [AEx.thn, AEx.blk]
    refine runs_seq ?_
    refine runs_reg (ops_run (by simp [lop, loud, callA, calleeA, callF_step h15, h15, callF_step h16, h16, callF_step h17, h17, callF_step h18, h18, callF_step h20, h20, callF_step h22, h22, callF_step h23, h23, callF_step h24, h24, callF_step h25, h25, lx, -lenA, hdu, fx, rx, cx1, cx2, oCheckR, oKn, oIn, hd, hown, hdy, hsame, oCheck, oQuote, oEach, oPrice, oParts, oLowR, oCheapest, oRefCheap, oCredit, vP, zP, oBudget, oMore, oMost, h0, hE, hB, hcb, hcn]; rfl) ?_)
    simp only [AEx.thn, AEx.blk]
    refine runs_seq ?_
    refine runs_seq ?_
    refine runs_reg (ops_run (by simp [lop, loud, callA, calleeA, callF_step h15, h15, callF_step h16, h16, callF_step h17, h17, callF_step h18, h18, callF_step h20, h20, callF_step h22, h22, callF_step h23, h23, callF_step h24, h24, callF_step h25, h25, lx, -lenA, hdu, fx, rx, cx1, cx2, oCheckR, oKn, oIn, hd, hown, hdy, hsame, oCheck, oQuote, oEach, oPrice, oParts, oLowR, oCheapest, oRefCheap, oCredit, vP, zP, oBudget, oMore, oMost, h0, hE, hB, hcb, hcn]; rfl) ?_)
    simp only [AEx.thn, AEx.blk]
    refine runs_cond (x := false) (by simp) ?_
    refine runs_skip ?_
    simp only [AEx.thn, AEx.blk]
    refine runs_seq ?_
    refine runs_seq ?_
    refine runs_reg (ops_run (by simp [lop, loud, callA, calleeA, callF_step h15, h15, callF_step h16, h16, callF_step h17, h17, callF_step h18, h18, callF_step h20, h20, callF_step h22, h22, callF_step h23, h23, callF_step h24, h24, callF_step h25, h25, lx, -lenA, hdu, fx, rx, cx1, cx2, oCheckR, oKn, oIn, hd, hown, hdy, hsame, oCheck, oQuote, oEach, oPrice, oParts, oLowR, oCheapest, oRefCheap, oCredit, vP, zP, oBudget, oMore, oMost, h0, hE, hB, hcb, hcn]; rfl) ?_)
    simp only [AEx.thn, AEx.blk]
    refine runs_seq ?_
    refine runs_reg (ops_run (by simp [lop, loud, callA, calleeA, callF_step h15, h15, callF_step h16, h16, callF_step h17, h17, callF_step h18, h18, callF_step h20, h20, callF_step h22, h22, callF_step h23, h23, callF_step h24, h24, callF_step h25, h25, lx, -lenA, hdu, fx, rx, cx1, cx2, oCheckR, oKn, oIn, hd, hown, hdy, hsame, oCheck, oQuote, oEach, oPrice, oParts, oLowR, oCheapest, oRefCheap, oCredit, vP, zP, oBudget, oMore, oMost, h0, hE, hB, hcb, hcn]; rfl) ?_)
    simp only [AEx.thn, AEx.blk]
    refine runs_cond (x := true) (by simp) ?_
    refine runs_seq ?_
    refine runs_reg (ops_run (by simp [lop, loud, callA, calleeA, callF_step h15, h15, callF_step h16, h16, callF_step h17, h17, callF_step h18, h18, callF_step h20, h20, callF_step h22, h22, callF_step h23, h23, callF_step h24, h24, callF_step h25, h25, lx, -lenA, hdu, fx, rx, cx1, cx2, oCheckR, oKn, oIn, hd, hown, hdy, hsame, oCheck, oQuote, oEach, oPrice, oParts, oLowR, oCheapest, oRefCheap, oCredit, vP, zP, oBudget, oMore, oMost, h0, hE, hB, hcb, hcn]; rfl) ?_)
    simp only [AEx.thn, AEx.blk]
    refine runs_ret ?_
    simp [lop, loud, callA, calleeA, callF_step h15, h15, callF_step h16, h16, callF_step h17, h17, callF_step h18, h18, callF_step h20, h20, callF_step h22, h22, callF_step h23, h23, callF_step h24, h24, callF_step h25, h25, lx, -lenA, hdu, fx, rx, cx1, cx2, oCheckR, oKn, oIn, hd, hown, hdy, hsame, oCheck, oQuote, oEach, oPrice, oParts, oLowR, oCheapest, oRefCheap, oCredit, vP, zP, oBudget, oMore, oMost, h0, hE, hB, hcb, hcn]
theorem law4 (q : PQ) (x : AVal) (hx : rowsV x = some (q.steps.map rP)) (money n : Int) : Answers Try.prog PL 4 [vQ q x, I money, I n] [] fun v _ => v = .bool true := (a4 PL rfl rfl rfl rfl rfl rfl rfl rfl rfl rfl q x hx money n).mono fun _ _ h => h
end
end Go.Proofs.Ytfnnonoffiljhaa.Tab

namespace Go.Proofs.Ytfnnonoffiljhaa
open Go Go.Abs Go.Proofs Go.ChangeShapes Go.WideShapes Go.ChangeAt Go.RowKit
set_option maxRecDepth 100000 in
theorem budgets_lifted (os : Os) (started : os.Started) (H : Type) (enc : TypeId × Value → H) :
    ReturnsInHanded {} Try.checked os 4 .any (Rows.priceBudgetsSpec.pre6 enc Try.prog Try.f4 [] false) (Rows.priceBudgetsSpec.post enc Try.prog Try.f4 false true false false) := by
  refine returnsInHanded_of_change (C := Try.checked) own started (by kernel_rfl) Try.func4
    (ChangeSpec.witness6 (enc := enc) (C := Try.checked) false ⟨#[], #[.agg #[.int .i64 0, .int .i64 0, .int .i64 0, .int .i64 0, .int .i64 0, .int .i64 0, .int .i64 0, .int .i64 0, .int .i64 0, .int .i64 0, .slice Option.none 0 0], .int .i64 0, .int .i64 0], []⟩ 12 (by kernel_rfl) (by kernel_rfl) (by kernel_rfl) (by kernel_rfl)) ?_
  intro W base args ds gs before hval0 hW _ _
  have hval : ∀ (j : Nat) t v, Try.f4.params[j]? = some t → args[j]? = some v → Value.okWide Try.prog W .any base t v := hval0
  have hW' := hW
  obtain ⟨p, q, hA0, hV, rfl, hfz, hnd⟩ := hW
  have hA : DataW.TrodAll enc Try.prog W 0 (fun _ => true) true Try.f4.params.toList args.toList ds p := hA0
  rw [Try.params4] at hA hval
  obtain ⟨v0, vs0, d0, ds0, p0, q0, hargs, rfl, rfl, h0, r0⟩ := trodAll_cons hA
  obtain ⟨v1, vs1, d1, ds1, p1, q1, rfl, rfl, rfl, h1, r1⟩ := trodAll_cons r0
  obtain ⟨v2, vs2, d2, ds2, p2, q2, rfl, rfl, rfl, h2, r2⟩ := trodAll_cons r1
  obtain ⟨rfl, rfl, rfl⟩ := trodAll_nil r2
  obtain rfl : args = #[v0, v1, v2] := by cases args; simp_all
  obtain ⟨rfl, rfl⟩ := trodVars_none hV
  have lt0 : ∀ x ∈ p0, x.block < W.heap.size := by obtain ⟨m, hm⟩ := h0; exact DataW.trod_lt m _ _ _ hm
  have lt1 : ∀ x ∈ p1, x.block < W.heap.size := by obtain ⟨m, hm⟩ := h1; exact DataW.trod_lt m _ _ _ hm
  have lt2 : ∀ x ∈ p2, x.block < W.heap.size := by obtain ⟨m, hm⟩ := h2; exact DataW.trod_lt m _ _ _ hm
  obtain ⟨x0, e0, f0⟩ := open_struct Try.underlying24 (L := [.int .i64, .int .i64, .int .i64, .int .i64, .int .i64, .int .i64, .int .i64, .int .i64, .int .i64, .int .i64, .sl [.int .i64, .int .i64]]) (by kernel_rfl) (hval 0 _ v0 rfl rfl) h0
  obtain ⟨pq, y0, hq0, hy0⟩ := fits_quote f0
  rw [hq0] at e0
  obtain ⟨n1, rfl⟩ := okWide_int Try.underlying3 (hval 1 _ v1 rfl rfl)
  obtain ⟨x1, e1, f1⟩ := open_cell (l := .int .i64) (by kernel_rfl) rfl h1
  obtain ⟨m1, rfl, _⟩ := fits_int f1
  obtain ⟨n2, rfl⟩ := okWide_int Try.underlying3 (hval 2 _ v2 rfl rfl)
  obtain ⟨x2, e2, f2⟩ := open_cell (l := .int .i64) (by kernel_rfl) rfl h2
  obtain ⟨m2, rfl, _⟩ := fits_int f2
  refine (law_calls Tab.mixed Tab.PL_ok (fun g r hg => by cases hg) (xs := [Tab.vQ pq y0, .int .i64 m1, .int .i64 m2]) (rowR_cons e0 (rowR_cons e1 (rowR_cons e2 rowR_nil))) (Tab.law4 pq y0 hy0 m1 m2)).mono fun e W' ⟨he, bel⟩ => ?_
  subst he
  exact ⟨_, rfl, _, _, _, [], _, [], hW', trodAll_mk1 (shut_bool Try.underlying4 _), (trodAll_cons_mk (Below.trod laidOut (by kernel_rfl) (of_decide_eq_true (by kernel_rfl)) h0 bel lt0) (trodAll_cons_mk (Below.trod laidOut (by kernel_rfl) (of_decide_eq_true (by kernel_rfl)) h1 bel lt1) (trodAll_cons_mk (Below.trod laidOut (by kernel_rfl) (of_decide_eq_true (by kernel_rfl)) h2 bel lt2) trodAll_mk0))), rfl, bel.frame _, fun h => by cases h⟩

/-- THE STATEMENT. -/
theorem budgets_holds : Rows.PriceBudgetsSaid :=
  OpenClaim.holds_of_wide 4 Try.f4 rfl rfl rfl rfl rfl rfl rfl ⟨rfl, rfl, rfl, rfl, rfl⟩ rfl rfl rfl rfl rfl (by kernel_rfl) Try.func4 (by kernel_rfl)
    (of_decide_eq_true (by kernel_rfl)) (by unfold Func.isWrapper; first | (rw [if_pos (by decide +kernel)]; kernel_rfl) | (rw [if_neg (by decide +kernel)]; exact ⟨rfl, rfl⟩))
    (fun os started H enc _ => budgets_lifted os started H enc)
end Go.Proofs.Ytfnnonoffiljhaa
