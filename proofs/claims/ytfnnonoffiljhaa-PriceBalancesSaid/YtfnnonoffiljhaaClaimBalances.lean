/- PriceBalances, proved: for every book the law returns true, and the argument reads as before. No condition. -/
import Derived.Test.YtfnnonoffiljhaaBaW
import Derived.Test.YtfnnonoffiljhaaBaE
import Derived.OpenShut
set_option linter.unusedSimpArgs false
set_option linter.unusedVariables false
namespace Go.Proofs.Ytfnnonoffiljhaa
open Go Go.Abs Go.Proofs
theorem rows_of {x : AVal} {rs : List (List AVal)} (hx : x = .nils ∧ rs = [] ∨ ∃ t, x = .vl rs t) : rowsV x = some rs := by
  rcases hx with ⟨rfl, rfl⟩ | ⟨t, rfl⟩ <;> rfl
theorem fits_book {xs : List AVal} (h : FitsR [.sl [.int .i64], .sl [.int .i64], .sl [.int .i64, .int .i64, .int .i64]] xs) : ∃ (b : Tab.PB) (x y z : AVal), xs = [x, y, z] ∧ rowsV x = some (b.opening.map Tab.rI) ∧ rowsV y = some (b.closing.map Tab.rI) ∧ rowsV z = some (b.entries.map Tab.rE) := by
  obtain ⟨x, ys, rfl, g1, h⟩ := fitsR_cons h
  obtain ⟨y, ys, rfl, g2, h⟩ := fitsR_cons h
  obtain ⟨z, rfl, g3⟩ := fitsR_one h
  obtain ⟨r1, k1, q1⟩ := fits_rows g1
  obtain ⟨r2, k2, q2⟩ := fits_rows g2
  obtain ⟨r3, k3, q3⟩ := fits_rows g3
  obtain ⟨os, rfl⟩ := map_of (enc := Tab.rI) (l := r1) fun a ha => by
    obtain ⟨a, rfl⟩ := fits_i1 (q1 a ha)
    exact ⟨a, rfl⟩
  obtain ⟨cs, rfl⟩ := map_of (enc := Tab.rI) (l := r2) fun a ha => by
    obtain ⟨a, rfl⟩ := fits_i1 (q2 a ha)
    exact ⟨a, rfl⟩
  obtain ⟨es, rfl⟩ := map_of (enc := Tab.rE) (l := r3) fun a ha => by
    obtain ⟨a, b, c, rfl⟩ := fits_i3 (q3 a ha)
    exact ⟨(a, b, c), rfl⟩
  exact ⟨⟨os, cs, es⟩, x, y, z, rfl, rows_of k1, rows_of k2, rows_of k3⟩
end Go.Proofs.Ytfnnonoffiljhaa

namespace Go.Proofs.Ytfnnonoffiljhaa.Tab
open Go Go.Abs Go.Proofs
set_option maxRecDepth 100000
set_option maxHeartbeats 4000000
set_option linter.unusedSimpArgs false
set_option linter.unusedVariables false
section
attribute [local simp] frz_int frz_bool frz_vl frz_pv frz_agg frz_tup frz_fn frz_ref frz_sl frz_nils optAll orcF rb_int rb_bool rb_agg rb_tup rb_int' rb_bool' rb_vl rb_pv rb_yld rb_nilf rb_nilp rb_nils rb_any rb_und rb_ref rb_sl rb_fn slE chunk fillA evParts evParts3 putAt List.range_succ List.range_zero List.range'_succ List.range'_zero runX_nil' unary_not evalS_pure evAll_nil evAll_cons runX_cons stepX wantedA dop CV.ev putK_eq setK_eq appK_eq fA_eq fI_eq fN_eq fRow_eq fRows_eq nth_eq Out.v putT List.replicate_succ AEx.thn AEx.blk arI pointee Abs.rowAt ldRow allV toV toC ofV ofC Builtin.min_ Builtin.min2 Builtin.max_ Builtin.max2 min_if max_if resA tupA kill trim_self trim_len trim_emp trim_nil lenA
attribute [local simp] runD_nil' runD_cons' stepD actK_eq actD clash disj masks holes maskH unmaskH diffs news eqB allB eqA ldRowN wrote toCs ofCs stA rowsV_vl rowsV_nils rowsOf dI1 dI2 dI3 dI5 elt
attribute [local simp] st_any st_und st_agg st_tup st_bool st_int st_nilp st_ref st_pv st_nils st_sl st_vl st_nilm st_mp st_fn st_nilf st_yld co_any co_und co_agg co_tup co_bool co_int co_nilp co_ref co_pv co_nils co_sl co_vl co_nilm co_mp co_fn co_nilf co_yld
theorem readE_eq (b : PB) : readE b = if bookE b = 0 then (if 0 < blotsI b.entries then 9 else 0) else bookE b := by
  unfold readE
  split
  · have := blots_any b.entries
    cases h : b.entries.any fun e => e.2.2 == -1
    · rw [if_neg (by simp), if_neg (by rw [this, h]; simp)]
    · rw [if_pos rfl, if_pos (this.2 h)]
  · rfl
theorem lenA_vl' (rs : List (List AVal)) (t : Bool) : lenA (.vl rs t) = some rs.length := rfl
theorem lenA_nils' : lenA .nils = some 0 := rfl
theorem a14 (T : Nat → Option CFn) (hT : T 14 = some c14) (h17 : T 17 = some { c17 with frsh := true, orc := oKn }) (h27 : T 27 = some { c27 with frsh := true, orc := oLong }) (h28 : T 28 = some { c28 with frsh := true, orc := oCopy }) (h30 : T 30 = some { c30 with frsh := true, orc := oEqual }) (h31 : T 31 = some { c31 with frsh := true, orc := oBook }) (h32 : T 32 = some { c32 with frsh := true, orc := oBlots }) (h47 : T 47 = some { c47 with frsh := false, orc := oBalance }) (h52 : T 52 = some { c52 with frsh := true, orc := oBook }) (h53 : T 53 = some { c53 with frsh := true, orc := oAcc }) (b : PB) (x y z : AVal) (hx : rowsV x = some (b.opening.map rI)) (hy : rowsV y = some (b.closing.map rI)) (hz : rowsV z = some (b.entries.map rE)) : Answers Try.prog T 14 [vB x y z] [] fun v h => v = .bool true := by
  have lx := rowsV_len hx
  have ly := rowsV_len hy
  have lz := rowsV_len hz
  rw [List.length_map] at lx ly lz
  have fx := fun H d => rowsV_frz hx H d
  have fy := fun H d => rowsV_frz hy H d
  have fz := fun H d => rowsV_frz hz H d
  have rx := fun n d => rowsV_rb hx n d
  have ry := fun n d => rowsV_rb hy n d
  have rz := fun n d => rowsV_rb hz n d
  obtain ⟨cx1, cx2⟩ := rowsV_cells hx
  obtain ⟨cy1, cy2⟩ := rowsV_cells hy
  obtain ⟨cz1, cz2⟩ := rowsV_cells hz
  have hdu := dBu_vB hx hy hz
  have hlong : oLong [vB x y z] = some (.bool (decide (10 < b.opening.length) || decide (10 < b.closing.length) || decide (20 < b.entries.length))) := by simp only [oLong, hdu]
  generalize hL : (decide (10 < b.opening.length) || decide (10 < b.closing.length) || decide (20 < b.entries.length)) = lg at hlong
  simp only [vB] at hlong ⊢
  refine answers_of hT (orcF_none rfl) ?_
  simp only [c14]
  refine runs_seq ?_
  refine runs_reg (ops_run (by simp [lop, loud, callA, calleeA, callF_step h17, h17, callF_step h27, h27, callF_step h28, h28, callF_step h30, h30, callF_step h31, h31, callF_step h32, h32, callF_step h47, h47, callF_step h52, h52, callF_step h53, h53, lx, ly, lz, -lenA, fx, fy, fz, rx, ry, rz, cx1, cx2, cy1, cy2, cz1, cz2, hlong, oKn, lenA_vl', lenA_nils']; rfl) ?_)
  simp only [AEx.thn, AEx.blk]
  refine runs_seq ?_
  refine runs_seq ?_
  refine runs_reg (ops_run (by simp [lop, loud, callA, calleeA, callF_step h17, h17, callF_step h27, h27, callF_step h28, h28, callF_step h30, h30, callF_step h31, h31, callF_step h32, h32, callF_step h47, h47, callF_step h52, h52, callF_step h53, h53, lx, ly, lz, -lenA, fx, fy, fz, rx, ry, rz, cx1, cx2, cy1, cy2, cz1, cz2, hlong, oKn, lenA_vl', lenA_nils']; rfl) ?_)
  simp only [AEx.thn, AEx.blk]
  refine runs_cond_split (x := lg) (by simp) (fun hlg => ?_) (fun hlg => ?_)
  · refine runs_seq ?_
    refine runs_reg (ops_run (by simp [lop, loud, callA, calleeA, callF_step h17, h17, callF_step h27, h27, callF_step h28, h28, callF_step h30, h30, callF_step h31, h31, callF_step h32, h32, callF_step h47, h47, callF_step h52, h52, callF_step h53, h53, lx, ly, lz, -lenA, fx, fy, fz, rx, ry, rz, cx1, cx2, cy1, cy2, cz1, cz2, hlong, oKn, lenA_vl', lenA_nils']; rfl) ?_)
    simp only [AEx.thn, AEx.blk]
    refine runs_ret ?_
    simp [lop, loud, callA, calleeA, callF_step h17, h17, callF_step h27, h27, callF_step h28, h28, callF_step h30, h30, callF_step h31, h31, callF_step h32, h32, callF_step h47, h47, callF_step h52, h52, callF_step h53, h53, lx, ly, lz, -lenA, fx, fy, fz, rx, ry, rz, cx1, cx2, cy1, cy2, cz1, cz2, hlong, oKn, lenA_vl', lenA_nils']
  subst hlg
  have hl3 : b.opening.length ≤ 10 ∧ b.closing.length ≤ 10 ∧ b.entries.length ≤ 20 := by simp at hL; omega
  have hl : b.opening.length ≤ 1000 ∧ b.closing.length ≤ 1000 ∧ b.entries.length ≤ 1000 := by omega
  have hd := dB_vB hx hy hz hl
  have hcopy : oCopy [vB x y z] = some (vB (.vl (b.opening.map rI) (b.opening.length == 0)) (.vl (b.closing.map rI) (b.closing.length == 0)) (.vl (b.entries.map rE) (b.entries.length == 0))) := by simp only [oCopy, hd]
  generalize (b.opening.length == 0) = t1 at hcopy
  generalize (b.closing.length == 0) = t2 at hcopy
  generalize (b.entries.length == 0) = t3 at hcopy
  have hdc : dB (vB (.vl (b.opening.map rI) t1) (.vl (b.closing.map rI) t2) (.vl (b.entries.map rE) t3)) = some b := dB_vB rfl rfl rfl hl
  have hequ : oEqual [vB (.vl (b.opening.map rI) t1) (.vl (b.closing.map rI) t2) (.vl (b.entries.map rE) t3), vB x y z] = some (.bool true) := by
    simp only [oEqual, hd, hdc, and_self, if_true]
  simp only [vB] at hd hcopy hdc hequ
  by_cases h0 : bookE b = 0
  · by_cases hb : 0 < blotsI b.entries
    · have hR : readE b = 9 := by rw [readE_eq, if_pos h0, if_pos hb]
      refine runs_skip ?_
      simp only [AEx.thn, AEx.blk]
      refine runs_seq ?_
      refine runs_reg (ops_run (by simp [lop, loud, callA, calleeA, callF_step h17, h17, callF_step h27, h27, callF_step h28, h28, callF_step h30, h30, callF_step h31, h31, callF_step h32, h32, callF_step h47, h47, callF_step h52, h52, callF_step h53, h53, lx, ly, lz, -lenA, fx, fy, fz, rx, ry, rz, cx1, cx2, cy1, cy2, cz1, cz2, hlong, oKn, lenA_vl', lenA_nils', hd, hcopy, hdc, hequ, oBook, oBlots, oBalance, h0, hR, hb]; rfl) ?_)
      simp only [AEx.thn, AEx.blk]
      refine runs_seq ?_
      refine runs_reg (ops_run (by simp [lop, loud, callA, calleeA, callF_step h17, h17, callF_step h27, h27, callF_step h28, h28, callF_step h30, h30, callF_step h31, h31, callF_step h32, h32, callF_step h47, h47, callF_step h52, h52, callF_step h53, h53, lx, ly, lz, -lenA, fx, fy, fz, rx, ry, rz, cx1, cx2, cy1, cy2, cz1, cz2, hlong, oKn, lenA_vl', lenA_nils', hd, hcopy, hdc, hequ, oBook, oBlots, oBalance, h0, hR, hb]; rfl) ?_)
      simp only [AEx.thn, AEx.blk]
      refine runs_seq ?_
      refine runs_reg (ops_run (by simp [lop, loud, callA, calleeA, callF_step h17, h17, callF_step h27, h27, callF_step h28, h28, callF_step h30, h30, callF_step h31, h31, callF_step h32, h32, callF_step h47, h47, callF_step h52, h52, callF_step h53, h53, lx, ly, lz, -lenA, fx, fy, fz, rx, ry, rz, cx1, cx2, cy1, cy2, cz1, cz2, hlong, oKn, lenA_vl', lenA_nils', hd, hcopy, hdc, hequ, oBook, oBlots, oBalance, h0, hR, hb]; rfl) ?_)
      simp only [AEx.thn, AEx.blk]
      refine runs_seq ?_
      refine runs_seq ?_
      refine runs_reg (ops_run (by simp [lop, loud, callA, calleeA, callF_step h17, h17, callF_step h27, h27, callF_step h28, h28, callF_step h30, h30, callF_step h31, h31, callF_step h32, h32, callF_step h47, h47, callF_step h52, h52, callF_step h53, h53, lx, ly, lz, -lenA, fx, fy, fz, rx, ry, rz, cx1, cx2, cy1, cy2, cz1, cz2, hlong, oKn, lenA_vl', lenA_nils', hd, hcopy, hdc, hequ, oBook, oBlots, oBalance, h0, hR, hb]; rfl) ?_)
      simp only [AEx.thn, AEx.blk]
      refine runs_cond (x := false) (by simp) ?_
      refine runs_skip ?_
      simp only [AEx.thn, AEx.blk]
      refine runs_seq ?_
      refine runs_reg (ops_run (by simp [lop, loud, callA, calleeA, callF_step h17, h17, callF_step h27, h27, callF_step h28, h28, callF_step h30, h30, callF_step h31, h31, callF_step h32, h32, callF_step h47, h47, callF_step h52, h52, callF_step h53, h53, lx, ly, lz, -lenA, fx, fy, fz, rx, ry, rz, cx1, cx2, cy1, cy2, cz1, cz2, hlong, oKn, lenA_vl', lenA_nils', hd, hcopy, hdc, hequ, oBook, oBlots, oBalance, h0, hR, hb]; rfl) ?_)
      simp only [AEx.thn, AEx.blk]
      refine runs_seq ?_
      refine runs_seq ?_
      refine runs_reg (ops_run (by simp [lop, loud, callA, calleeA, callF_step h17, h17, callF_step h27, h27, callF_step h28, h28, callF_step h30, h30, callF_step h31, h31, callF_step h32, h32, callF_step h47, h47, callF_step h52, h52, callF_step h53, h53, lx, ly, lz, -lenA, fx, fy, fz, rx, ry, rz, cx1, cx2, cy1, cy2, cz1, cz2, hlong, oKn, lenA_vl', lenA_nils', hd, hcopy, hdc, hequ, oBook, oBlots, oBalance, h0, hR, hb]; rfl) ?_)
      simp only [AEx.thn, AEx.blk]
      refine runs_cond (x := true) (by simp) ?_
      refine runs_reg (ops_run (by simp [lop, loud, callA, calleeA, callF_step h17, h17, callF_step h27, h27, callF_step h28, h28, callF_step h30, h30, callF_step h31, h31, callF_step h32, h32, callF_step h47, h47, callF_step h52, h52, callF_step h53, h53, lx, ly, lz, -lenA, fx, fy, fz, rx, ry, rz, cx1, cx2, cy1, cy2, cz1, cz2, hlong, oKn, lenA_vl', lenA_nils', hd, hcopy, hdc, hequ, oBook, oBlots, oBalance, h0, hR, hb]; rfl) ?_)
      simp only [AEx.thn, AEx.blk]
      refine runs_seq ?_
      refine runs_seq ?_
      refine runs_reg (ops_run (by simp [lop, loud, callA, calleeA, callF_step h17, h17, callF_step h27, h27, callF_step h28, h28, callF_step h30, h30, callF_step h31, h31, callF_step h32, h32, callF_step h47, h47, callF_step h52, h52, callF_step h53, h53, lx, ly, lz, -lenA, fx, fy, fz, rx, ry, rz, cx1, cx2, cy1, cy2, cz1, cz2, hlong, oKn, lenA_vl', lenA_nils', hd, hcopy, hdc, hequ, oBook, oBlots, oBalance, h0, hR, hb]; rfl) ?_)
      simp only [AEx.thn, AEx.blk]
      refine runs_cond (x := true) (by simp) ?_
      refine runs_seq ?_
      refine runs_reg (ops_run (by simp [lop, loud, callA, calleeA, callF_step h17, h17, callF_step h27, h27, callF_step h28, h28, callF_step h30, h30, callF_step h31, h31, callF_step h32, h32, callF_step h47, h47, callF_step h52, h52, callF_step h53, h53, lx, ly, lz, -lenA, fx, fy, fz, rx, ry, rz, cx1, cx2, cy1, cy2, cz1, cz2, hlong, oKn, lenA_vl', lenA_nils', hd, hcopy, hdc, hequ, oBook, oBlots, oBalance, h0, hR, hb]; rfl) ?_)
      simp only [AEx.thn, AEx.blk]
      refine runs_ret ?_
      simp [lop, loud, callA, calleeA, callF_step h17, h17, callF_step h27, h27, callF_step h28, h28, callF_step h30, h30, callF_step h31, h31, callF_step h32, h32, callF_step h47, h47, callF_step h52, h52, callF_step h53, h53, lx, ly, lz, -lenA, fx, fy, fz, rx, ry, rz, cx1, cx2, cy1, cy2, cz1, cz2, hlong, oKn, lenA_vl', lenA_nils', hd, hcopy, hdc, hequ, oBook, oBlots, oBalance, h0, hR, hb]
    · have hR : readE b = 0 := by rw [readE_eq, if_pos h0, if_neg hb]
      have hbl : (balI b).length = b.opening.length := bal_len b.entries b.opening
      refine runs_skip ?_
      simp only [AEx.thn, AEx.blk]
      refine runs_seq ?_
      refine runs_reg (ops_run (by simp [lop, loud, callA, calleeA, callF_step h17, h17, callF_step h27, h27, callF_step h28, h28, callF_step h30, h30, callF_step h31, h31, callF_step h32, h32, callF_step h47, h47, callF_step h52, h52, callF_step h53, h53, lx, ly, lz, -lenA, fx, fy, fz, rx, ry, rz, cx1, cx2, cy1, cy2, cz1, cz2, hlong, oKn, lenA_vl', lenA_nils', hd, hcopy, hdc, hequ, oBook, oBlots, oBalance, h0, hR, hb, hbl]; rfl) ?_)
      simp only [AEx.thn, AEx.blk]
      refine runs_seq ?_
      refine runs_reg (ops_run (by simp [lop, loud, callA, calleeA, callF_step h17, h17, callF_step h27, h27, callF_step h28, h28, callF_step h30, h30, callF_step h31, h31, callF_step h32, h32, callF_step h47, h47, callF_step h52, h52, callF_step h53, h53, lx, ly, lz, -lenA, fx, fy, fz, rx, ry, rz, cx1, cx2, cy1, cy2, cz1, cz2, hlong, oKn, lenA_vl', lenA_nils', hd, hcopy, hdc, hequ, oBook, oBlots, oBalance, h0, hR, hb, hbl]; rfl) ?_)
      simp only [AEx.thn, AEx.blk]
      refine runs_seq ?_
      refine runs_reg (ops_run (by simp [lop, loud, callA, calleeA, callF_step h17, h17, callF_step h27, h27, callF_step h28, h28, callF_step h30, h30, callF_step h31, h31, callF_step h32, h32, callF_step h47, h47, callF_step h52, h52, callF_step h53, h53, lx, ly, lz, -lenA, fx, fy, fz, rx, ry, rz, cx1, cx2, cy1, cy2, cz1, cz2, hlong, oKn, lenA_vl', lenA_nils', hd, hcopy, hdc, hequ, oBook, oBlots, oBalance, h0, hR, hb, hbl]; rfl) ?_)
      simp only [AEx.thn, AEx.blk]
      refine runs_seq ?_
      refine runs_seq ?_
      refine runs_reg (ops_run (by simp [lop, loud, callA, calleeA, callF_step h17, h17, callF_step h27, h27, callF_step h28, h28, callF_step h30, h30, callF_step h31, h31, callF_step h32, h32, callF_step h47, h47, callF_step h52, h52, callF_step h53, h53, lx, ly, lz, -lenA, fx, fy, fz, rx, ry, rz, cx1, cx2, cy1, cy2, cz1, cz2, hlong, oKn, lenA_vl', lenA_nils', hd, hcopy, hdc, hequ, oBook, oBlots, oBalance, h0, hR, hb, hbl]; rfl) ?_)
      simp only [AEx.thn, AEx.blk]
      refine runs_cond (x := false) (by simp) ?_
      refine runs_skip ?_
      simp only [AEx.thn, AEx.blk]
      refine runs_seq ?_
      refine runs_reg (ops_run (by simp [lop, loud, callA, calleeA, callF_step h17, h17, callF_step h27, h27, callF_step h28, h28, callF_step h30, h30, callF_step h31, h31, callF_step h32, h32, callF_step h47, h47, callF_step h52, h52, callF_step h53, h53, lx, ly, lz, -lenA, fx, fy, fz, rx, ry, rz, cx1, cx2, cy1, cy2, cz1, cz2, hlong, oKn, lenA_vl', lenA_nils', hd, hcopy, hdc, hequ, oBook, oBlots, oBalance, h0, hR, hb, hbl]; rfl) ?_)
      simp only [AEx.thn, AEx.blk]
      refine runs_seq ?_
      refine runs_seq ?_
      refine runs_reg (ops_run (by simp [lop, loud, callA, calleeA, callF_step h17, h17, callF_step h27, h27, callF_step h28, h28, callF_step h30, h30, callF_step h31, h31, callF_step h32, h32, callF_step h47, h47, callF_step h52, h52, callF_step h53, h53, lx, ly, lz, -lenA, fx, fy, fz, rx, ry, rz, cx1, cx2, cy1, cy2, cz1, cz2, hlong, oKn, lenA_vl', lenA_nils', hd, hcopy, hdc, hequ, oBook, oBlots, oBalance, h0, hR, hb, hbl]; rfl) ?_)
      simp only [AEx.thn, AEx.blk]
      refine runs_cond (x := false) (by simp) ?_
      refine runs_skip ?_
      simp only [AEx.thn, AEx.blk]
      refine runs_seq ?_
      refine runs_seq ?_
      refine runs_reg (ops_run (by simp [lop, loud, callA, calleeA, callF_step h17, h17, callF_step h27, h27, callF_step h28, h28, callF_step h30, h30, callF_step h31, h31, callF_step h32, h32, callF_step h47, h47, callF_step h52, h52, callF_step h53, h53, lx, ly, lz, -lenA, fx, fy, fz, rx, ry, rz, cx1, cx2, cy1, cy2, cz1, cz2, hlong, oKn, lenA_vl', lenA_nils', hd, hcopy, hdc, hequ, oBook, oBlots, oBalance, h0, hR, hb, hbl]; rfl) ?_)
      simp only [AEx.thn, AEx.blk]
      refine runs_cond (x := false) (by simp) ?_
      refine runs_skip ?_
      simp only [AEx.thn, AEx.blk]
      refine runs_seq ?_
      refine runs_seq ?_
      refine runs_reg (ops_run (by simp [lop, loud, callA, calleeA, callF_step h17, h17, callF_step h27, h27, callF_step h28, h28, callF_step h30, h30, callF_step h31, h31, callF_step h32, h32, callF_step h47, h47, callF_step h52, h52, callF_step h53, h53, lx, ly, lz, -lenA, fx, fy, fz, rx, ry, rz, cx1, cx2, cy1, cy2, cz1, cz2, hlong, oKn, lenA_vl', lenA_nils', hd, hcopy, hdc, hequ, oBook, oBlots, oBalance, h0, hR, hb, hbl]; rfl) ?_)
      simp only [AEx.thn, AEx.blk]
      refine runs_cond (x := false) (by simp) ?_
      refine runs_skip ?_
      simp only [AEx.thn, AEx.blk]
      refine runs_seq ?_
      refine runs_seq ?_
      refine runs_reg (ops_run (by simp [lop, loud, callA, calleeA, callF_step h17, h17, callF_step h27, h27, callF_step h28, h28, callF_step h30, h30, callF_step h31, h31, callF_step h32, h32, callF_step h47, h47, callF_step h52, h52, callF_step h53, h53, lx, ly, lz, -lenA, fx, fy, fz, rx, ry, rz, cx1, cx2, cy1, cy2, cz1, cz2, hlong, oKn, lenA_vl', lenA_nils', hd, hcopy, hdc, hequ, oBook, oBlots, oBalance, h0, hR, hb, hbl]; rfl) ?_)
      simp only [AEx.thn, AEx.blk]
      refine runs_block ?_
      refine runs_loop_inv (fun m σ => ∃ (k : Nat) (i : Int), i = k ∧ b.opening.length - k = m ∧ k ≤ b.opening.length ∧ σ = ⟨[.any, .ref 0 0 0, .any, .any, .any, .vl ((balI b).map rI) false, .any, .any, I i, .any, .any, .any, .any, .any, .any, .any, .any, .any, .any, .any, .any, .any, .any, .any, .any, .any, .any, .any, .any, .any, .any, .any, .any, .any, .any, .any, .any, .any, .any, .any, .any, .any, .any, .any, .any, .any, .any, .any, .any, .any, .any, .any, .any, .any, .any, .any, .any, .any, .any, .any, .any, .any, .any, .any, .any, .any, .any, .any, .any, .any, .any, .any, .any, .any, .any, .any, .any], [some (.row 3 [[x, y, z]]), some (.row 3 [[.vl (b.opening.map rI) t1, .vl (b.closing.map rI) t2, .vl (b.entries.map rE) t3]])]⟩) ?_ (b.opening.length - 0) _ ⟨0, 0, rfl, rfl, Nat.zero_le _, by simp⟩
      rintro m σ ⟨k, i, hik, rfl, hkl, rfl⟩
      refine runs_seq ?_
      refine runs_seq ?_
      refine runs_reg (ops_run (by simp [lop, loud, callA, calleeA, callF_step h17, h17, callF_step h27, h27, callF_step h28, h28, callF_step h30, h30, callF_step h31, h31, callF_step h32, h32, callF_step h47, h47, callF_step h52, h52, callF_step h53, h53, lx, ly, lz, -lenA, fx, fy, fz, rx, ry, rz, cx1, cx2, cy1, cy2, cz1, cz2, hlong, oKn, lenA_vl', lenA_nils', hd, hcopy, hdc, hequ, oBook, oBlots, oBalance, h0, hR, hb, hbl]; rfl) ?_)
      simp only [AEx.thn, AEx.blk]
      refine runs_cond_split (x := decide (i < (b.opening.length : Int))) (by simp) (fun hlt => ?_) (fun hlt => ?_)
      · have hlt := of_decide_eq_true hlt
        have hk0 : k < (balI b).length := by omega
        have hi0 : 0 ≤ i := by omega
        have htn : i.toNat = k := by omega
        have hwi : W .i64 (i + 1) = i + 1 := W_small (by omega)
        have hat := balI_at (book_ok h0) (a := k) (by omega)
        have hg : (balI b)[k]? = some (accI b i) := by
          rw [List.getD_eq_getElem?_getD, List.getElem?_eq_getElem hk0] at hat
          rw [List.getElem?_eq_getElem hk0, hik]
          simpa using hat
        have hil : i < (b.opening.length : Int) := by omega
        have hacc : oAcc [.agg [x, y, z], I i] = some (I (accI b i)) := by simp only [oAcc, hd]; rw [if_pos ⟨h0, hi0, hil⟩]
        refine runs_skip ?_
        simp only [AEx.thn, AEx.blk]
        refine runs_seq ?_
        refine runs_block ?_
        refine runs_seq ?_
        refine runs_drw (by simp (maxSteps := 3000000) [lop, loud, callA, calleeA, callF_step h17, h17, callF_step h27, h27, callF_step h28, h28, callF_step h30, h30, callF_step h31, h31, callF_step h32, h32, callF_step h47, h47, callF_step h52, h52, callF_step h53, h53, lx, ly, lz, -lenA, fx, fy, fz, rx, ry, rz, cx1, cx2, cy1, cy2, cz1, cz2, hlong, oKn, lenA_vl', lenA_nils', hd, hcopy, hdc, hequ, oBook, oBlots, oBalance, h0, hR, hb, hbl, hi0, htn, hk0, hwi, hg, hacc, rI]; rfl) ?_
        simp only [AEx.thn, AEx.blk]
        refine runs_cond (x := false) (by simp) ?_
        refine runs_skip ?_
        simp only [AEx.thn, AEx.blk]
        refine runs_reg (ops_run (by simp [lop, loud, callA, calleeA, callF_step h17, h17, callF_step h27, h27, callF_step h28, h28, callF_step h30, h30, callF_step h31, h31, callF_step h32, h32, callF_step h47, h47, callF_step h52, h52, callF_step h53, h53, lx, ly, lz, -lenA, fx, fy, fz, rx, ry, rz, cx1, cx2, cy1, cy2, cz1, cz2, hlong, oKn, lenA_vl', lenA_nils', hd, hcopy, hdc, hequ, oBook, oBlots, oBalance, h0, hR, hb, hbl, hi0, htn, hk0, hwi, hg, hacc, rI]; rfl) ?_)
        simp only [AEx.thn, AEx.blk]
        exact ⟨b.opening.length - (k + 1), by omega, k + 1, i + 1, by omega, rfl, by omega, by simp [trim, rbB_row, rbB_none, lop, loud, callA, calleeA, callF_step h17, h17, callF_step h27, h27, callF_step h28, h28, callF_step h30, h30, callF_step h31, h31, callF_step h32, h32, callF_step h47, h47, callF_step h52, h52, callF_step h53, h53, lx, ly, lz, -lenA, fx, fy, fz, rx, ry, rz, cx1, cx2, cy1, cy2, cz1, cz2, hlong, oKn, lenA_vl', lenA_nils', hd, hcopy, hdc, hequ, oBook, oBlots, oBalance, h0, hR, hb, hbl, hi0, htn, hk0, hwi, hg, hacc, rI]⟩
      · refine runs_exit ?_
        simp only [AEx.thn, AEx.blk, if_true, if_false, reduceIte, Nat.reduceEqDiff, Nat.succ_ne_zero, Nat.one_ne_zero, Nat.zero_ne_one]
        refine runs_seq ?_
        refine runs_reg (ops_run (by simp [lop, loud, callA, calleeA, callF_step h17, h17, callF_step h27, h27, callF_step h28, h28, callF_step h30, h30, callF_step h31, h31, callF_step h32, h32, callF_step h47, h47, callF_step h52, h52, callF_step h53, h53, lx, ly, lz, -lenA, fx, fy, fz, rx, ry, rz, cx1, cx2, cy1, cy2, cz1, cz2, hlong, oKn, lenA_vl', lenA_nils', hd, hcopy, hdc, hequ, oBook, oBlots, oBalance, h0, hR, hb, hbl]; rfl) ?_)
        simp only [AEx.thn, AEx.blk]
        refine runs_ret ?_
        simp [lop, loud, callA, calleeA, callF_step h17, h17, callF_step h27, h27, callF_step h28, h28, callF_step h30, h30, callF_step h31, h31, callF_step h32, h32, callF_step h47, h47, callF_step h52, h52, callF_step h53, h53, lx, ly, lz, -lenA, fx, fy, fz, rx, ry, rz, cx1, cx2, cy1, cy2, cz1, cz2, hlong, oKn, lenA_vl', lenA_nils', hd, hcopy, hdc, hequ, oBook, oBlots, oBalance, h0, hR, hb, hbl]
  · have hR : readE b = bookE b := by rw [readE_eq, if_neg h0]
    have hcb : (bookE b == 0) = false := by simpa using h0
    have hcn : (bookE b != 0) = true := by simpa using h0
    refine runs_skip ?_
    simp only [AEx.thn, AEx.blk]
    refine runs_seq ?_
    refine runs_reg (ops_run (by simp [lop, loud, callA, calleeA, callF_step h17, h17, callF_step h27, h27, callF_step h28, h28, callF_step h30, h30, callF_step h31, h31, callF_step h32, h32, callF_step h47, h47, callF_step h52, h52, callF_step h53, h53, lx, ly, lz, -lenA, fx, fy, fz, rx, ry, rz, cx1, cx2, cy1, cy2, cz1, cz2, hlong, oKn, lenA_vl', lenA_nils', hd, hcopy, hdc, hequ, oBook, oBlots, oBalance, h0, hR, hcb, hcn]; rfl) ?_)
    simp only [AEx.thn, AEx.blk]
    refine runs_seq ?_
    refine runs_reg (ops_run (by simp [lop, loud, callA, calleeA, callF_step h17, h17, callF_step h27, h27, callF_step h28, h28, callF_step h30, h30, callF_step h31, h31, callF_step h32, h32, callF_step h47, h47, callF_step h52, h52, callF_step h53, h53, lx, ly, lz, -lenA, fx, fy, fz, rx, ry, rz, cx1, cx2, cy1, cy2, cz1, cz2, hlong, oKn, lenA_vl', lenA_nils', hd, hcopy, hdc, hequ, oBook, oBlots, oBalance, h0, hR, hcb, hcn]; rfl) ?_)
    simp only [AEx.thn, AEx.blk]
    refine runs_seq ?_
    refine runs_reg (ops_run (by simp [lop, loud, callA, calleeA, callF_step h17, h17, callF_step h27, h27, callF_step h28, h28, callF_step h30, h30, callF_step h31, h31, callF_step h32, h32, callF_step h47, h47, callF_step h52, h52, callF_step h53, h53, lx, ly, lz, -lenA, fx, fy, fz, rx, ry, rz, cx1, cx2, cy1, cy2, cz1, cz2, hlong, oKn, lenA_vl', lenA_nils', hd, hcopy, hdc, hequ, oBook, oBlots, oBalance, h0, hR, hcb, hcn]; rfl) ?_)
    simp only [AEx.thn, AEx.blk]
    refine runs_seq ?_
    refine runs_seq ?_
    refine runs_reg (ops_run (by simp [lop, loud, callA, calleeA, callF_step h17, h17, callF_step h27, h27, callF_step h28, h28, callF_step h30, h30, callF_step h31, h31, callF_step h32, h32, callF_step h47, h47, callF_step h52, h52, callF_step h53, h53, lx, ly, lz, -lenA, fx, fy, fz, rx, ry, rz, cx1, cx2, cy1, cy2, cz1, cz2, hlong, oKn, lenA_vl', lenA_nils', hd, hcopy, hdc, hequ, oBook, oBlots, oBalance, h0, hR, hcb, hcn]; rfl) ?_)
    simp only [AEx.thn, AEx.blk]
    refine runs_cond (x := false) (by simp) ?_
    refine runs_skip ?_
    simp only [AEx.thn, AEx.blk]
    refine runs_seq ?_
    refine runs_reg (ops_run (by simp [lop, loud, callA, calleeA, callF_step h17, h17, callF_step h27, h27, callF_step h28, h28, callF_step h30, h30, callF_step h31, h31, callF_step h32, h32, callF_step h47, h47, callF_step h52, h52, callF_step h53, h53, lx, ly, lz, -lenA, fx, fy, fz, rx, ry, rz, cx1, cx2, cy1, cy2, cz1, cz2, hlong, oKn, lenA_vl', lenA_nils', hd, hcopy, hdc, hequ, oBook, oBlots, oBalance, h0, hR, hcb, hcn]; rfl) ?_)
    simp only [AEx.thn, AEx.blk]
    refine runs_seq ?_
    refine runs_seq ?_
    refine runs_reg (ops_run (by simp [lop, loud, callA, calleeA, callF_step h17, h17, callF_step h27, h27, callF_step h28, h28, callF_step h30, h30, callF_step h31, h31, callF_step h32, h32, callF_step h47, h47, callF_step h52, h52, callF_step h53, h53, lx, ly, lz, -lenA, fx, fy, fz, rx, ry, rz, cx1, cx2, cy1, cy2, cz1, cz2, hlong, oKn, lenA_vl', lenA_nils', hd, hcopy, hdc, hequ, oBook, oBlots, oBalance, h0, hR, hcb, hcn]; rfl) ?_)
    simp only [AEx.thn, AEx.blk]
    refine runs_cond (x := false) (by simp) ?_
    refine runs_skip ?_
    simp only [AEx.thn, AEx.blk]
    refine runs_seq ?_
    refine runs_seq ?_
    refine runs_reg (ops_run (by simp [lop, loud, callA, calleeA, callF_step h17, h17, callF_step h27, h27, callF_step h28, h28, callF_step h30, h30, callF_step h31, h31, callF_step h32, h32, callF_step h47, h47, callF_step h52, h52, callF_step h53, h53, lx, ly, lz, -lenA, fx, fy, fz, rx, ry, rz, cx1, cx2, cy1, cy2, cz1, cz2, hlong, oKn, lenA_vl', lenA_nils', hd, hcopy, hdc, hequ, oBook, oBlots, oBalance, h0, hR, hcb, hcn]; rfl) ?_)
    simp only [AEx.thn, AEx.blk]
    refine runs_cond (x := true) (by simp) ?_
    refine runs_seq ?_
    refine runs_reg (ops_run (by simp [lop, loud, callA, calleeA, callF_step h17, h17, callF_step h27, h27, callF_step h28, h28, callF_step h30, h30, callF_step h31, h31, callF_step h32, h32, callF_step h47, h47, callF_step h52, h52, callF_step h53, h53, lx, ly, lz, -lenA, fx, fy, fz, rx, ry, rz, cx1, cx2, cy1, cy2, cz1, cz2, hlong, oKn, lenA_vl', lenA_nils', hd, hcopy, hdc, hequ, oBook, oBlots, oBalance, h0, hR, hcb, hcn]; rfl) ?_)
    simp only [AEx.thn, AEx.blk]
    refine runs_ret ?_
    simp [lop, loud, callA, calleeA, callF_step h17, h17, callF_step h27, h27, callF_step h28, h28, callF_step h30, h30, callF_step h31, h31, callF_step h32, h32, callF_step h47, h47, callF_step h52, h52, callF_step h53, h53, lx, ly, lz, -lenA, fx, fy, fz, rx, ry, rz, cx1, cx2, cy1, cy2, cz1, cz2, hlong, oKn, lenA_vl', lenA_nils', hd, hcopy, hdc, hequ, oBook, oBlots, oBalance, h0, hR, hcb, hcn]
theorem law14 (b : PB) (x y z : AVal) (hx : rowsV x = some (b.opening.map rI)) (hy : rowsV y = some (b.closing.map rI)) (hz : rowsV z = some (b.entries.map rE)) : Answers Try.prog PR 14 [vB x y z] [] fun v _ => v = .bool true := (a14 PR rfl rfl rfl rfl rfl rfl rfl rfl rfl rfl b x y z hx hy hz).mono fun _ _ h => h
end
end Go.Proofs.Ytfnnonoffiljhaa.Tab

namespace Go.Proofs.Ytfnnonoffiljhaa
open Go Go.Abs Go.Proofs Go.ChangeShapes Go.WideShapes Go.ChangeAt Go.RowKit
set_option maxRecDepth 100000 in
theorem balances_lifted (os : Os) (started : os.Started) (H : Type) (enc : TypeId × Value → H) :
    ReturnsInHanded {} Try.checked os 14 .any (Rows.priceBalancesSpec.pre6 enc Try.prog Try.f14 [] false) (Rows.priceBalancesSpec.post enc Try.prog Try.f14 false true false false) := by
  refine returnsInHanded_of_change (C := Try.checked) own started (by kernel_rfl) Try.func14
    (ChangeSpec.witness6 (enc := enc) (C := Try.checked) false ⟨#[], #[.agg #[.slice Option.none 0 0, .slice Option.none 0 0, .slice Option.none 0 0]], []⟩ 12 (by kernel_rfl) (by kernel_rfl) (by kernel_rfl) (by kernel_rfl)) ?_
  intro W base args ds gs before hval0 hW _ _
  have hval : ∀ (j : Nat) t v, Try.f14.params[j]? = some t → args[j]? = some v → Value.okWide Try.prog W .any base t v := hval0
  have hW' := hW
  obtain ⟨p, q, hA0, hV, rfl, hfz, hnd⟩ := hW
  have hA : DataW.TrodAll enc Try.prog W 0 (fun _ => true) true Try.f14.params.toList args.toList ds p := hA0
  rw [Try.params14] at hA hval
  obtain ⟨v0, vs0, d0, ds0, p0, q0, hargs, rfl, rfl, h0, r0⟩ := trodAll_cons hA
  obtain ⟨rfl, rfl, rfl⟩ := trodAll_nil r0
  obtain rfl : args = #[v0] := by cases args; simp_all
  obtain ⟨rfl, rfl⟩ := trodVars_none hV
  have lt0 : ∀ x ∈ p0, x.block < W.heap.size := by obtain ⟨m, hm⟩ := h0; exact DataW.trod_lt m _ _ _ hm
  obtain ⟨x0, e0, f0⟩ := open_struct Try.underlying45 (L := [.sl [.int .i64], .sl [.int .i64], .sl [.int .i64, .int .i64, .int .i64]]) (by kernel_rfl) (hval 0 _ v0 rfl rfl) h0
  obtain ⟨pb, bx, by_, bz, rfl, hbx, hby, hbz⟩ := fits_book f0
  refine (law_calls Tab.mixed Tab.PR_ok (fun g r hg => by cases hg) (xs := [Tab.vB bx by_ bz]) (rowR_cons e0 rowR_nil) (Tab.law14 pb bx by_ bz hbx hby hbz)).mono fun e W' ⟨he, bel⟩ => ?_
  subst he
  exact ⟨_, rfl, _, _, _, [], _, [], hW', trodAll_mk1 (shut_bool Try.underlying4 _), (trodAll_cons_mk (Below.trod laidOut (by kernel_rfl) (of_decide_eq_true (by kernel_rfl)) h0 bel lt0) trodAll_mk0), rfl, bel.frame _, fun h => by cases h⟩

/-- THE STATEMENT. -/
theorem balances_holds : Rows.PriceBalancesSaid :=
  OpenClaim.holds_of_wide 14 Try.f14 rfl rfl rfl rfl rfl rfl rfl ⟨rfl, rfl, rfl, rfl, rfl⟩ rfl rfl rfl rfl rfl (by kernel_rfl) Try.func14 (by kernel_rfl)
    (of_decide_eq_true (by kernel_rfl)) (by unfold Func.isWrapper; first | (rw [if_pos (by decide +kernel)]; kernel_rfl) | (rw [if_neg (by decide +kernel)]; exact ⟨rfl, rfl⟩))
    (fun os started H enc _ => balances_lifted os started H enc)
end Go.Proofs.Ytfnnonoffiljhaa
