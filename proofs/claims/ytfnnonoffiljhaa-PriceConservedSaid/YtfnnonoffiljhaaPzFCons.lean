/- Law 11 (PriceConserved): the walk and the plain facts joined. No condition. -/
import Derived.Test.YtfnnonoffiljhaaPzECons
set_option linter.unusedSimpArgs false
set_option linter.unusedVariables false
namespace Go.Proofs.Ytfnnonoffiljhaa.Tab
open Go Go.Abs Go.Proofs
set_option maxRecDepth 100000
set_option maxHeartbeats 4000000
set_option linter.unusedSimpArgs false
set_option linter.unusedVariables false
section
attribute [local simp] frz_int frz_bool frz_vl frz_pv frz_agg frz_tup frz_fn frz_ref frz_sl frz_nils optAll orcF rb_int rb_bool rb_agg rb_tup rb_int' rb_bool' rb_vl rb_pv rb_yld rb_nilf rb_nilp rb_nils rb_any rb_und rb_ref rb_sl rb_fn slE chunk fillA evParts evParts3 putAt List.range_succ List.range_zero List.range'_succ List.range'_zero runX_nil' unary_not evalS_pure evAll_nil evAll_cons runX_cons stepX wantedA dop CV.ev putK_eq setK_eq appK_eq fA_eq fI_eq fN_eq fRow_eq fRows_eq nth_eq Out.v putT List.replicate_succ AEx.thn AEx.blk arI pointee Abs.rowAt ldRow allV toV toC ofV ofC Builtin.min_ Builtin.min2 Builtin.max_ Builtin.max2 min_if max_if resA tupA kill trim_self trim_len trim_emp trim_nil lenA
attribute [local simp] runD_nil' runD_cons' stepD actK_eq actD clash disj masks holes maskH unmaskH diffs news eqB allB eqA ldRowN wrote toCs ofCs stA rowsV_vl rowsV_nils rowsOf dI1 dI2 dI3 dI5 elt
attribute [local simp] st_any st_und st_agg st_tup st_bool st_int st_nilp st_ref st_pv st_nils st_sl st_vl st_nilm st_mp st_fn st_nilf st_yld co_any co_und co_agg co_tup co_bool co_int co_nilp co_ref co_pv co_nils co_sl co_vl co_nilm co_mp co_fn co_nilf co_yld
noncomputable def PT7 : Nat → Option CFn := upd PT6 84 false (fun _ => none)
theorem PT7_ok : TabOk Try.prog GG PT7 := tab_add mixed PT6_ok fun args v ho => by simp at ho
noncomputable def PT8 : Nat → Option CFn := upd PT7 47 false (fun _ => none)
theorem PT8_ok : TabOk Try.prog GG PT8 := tab_add mixed PT7_ok fun args v ho => by simp at ho
theorem a98_3 (P : Program) (T : Nat → Option CFn) (hT : T 98 = some c98) (a0 a1 a2 : Option Blk) (xs : List Int) (t : Bool) (h0 : xs ≠ []) (hl : xs.length ≤ 1000) : Answers P T 98 [.vl (xs.map rI) t] [a0, a1, a2] fun v h => v = .sl 4 0 xs.length false ∧ h = [a0, a1, a2, some (.row 1 []), some (.row 1 (xs.map rI))] := by
  have hs : ¬ xs = [] := h0
  have hl1 : xs.length ≤ 1048576 := by omega
  have hl2 : 0 < xs.length := List.length_pos_iff.2 h0
  refine answers_of hT (orcF_none rfl) ?_
  simp only [c98]
  refine runs_seq ?_
  refine runs_reg (ops_run (by simp [lop, loud, callA, calleeA, lim, hl1, hl2, hs, List.all_map, Function.comp_def, rI]; rfl) ?_)
  simp only [AEx.thn, AEx.blk]
  refine runs_seq ?_
  refine runs_seq ?_
  refine runs_reg (ops_run (by simp [lop, loud, callA, calleeA, lim, hl1, hl2, hs, List.all_map, Function.comp_def, rI]; rfl) ?_)
  simp only [AEx.thn, AEx.blk]
  refine runs_cond (x := false) (by simp) ?_
  refine runs_skip ?_
  simp only [AEx.thn, AEx.blk]
  refine runs_seq ?_
  refine runs_reg (ops_run (by simp [lop, loud, callA, calleeA, lim, hl1, hl2, hs, List.all_map, Function.comp_def, rI]; rfl) ?_)
  simp only [AEx.thn, AEx.blk]
  refine runs_ret ?_
  refine ⟨by simp, _, by simp; rfl, ?_⟩
  exact ⟨rfl, by simp [trim, rI]⟩
theorem a84_2 (P : Program) (T : Nat → Option CFn) (hT : T 84 = some c84) (h98 : T 98 = some c98) (h67 : T 67 = some { c67 with frsh := true, orc := oBlot }) (b : PB) (x y z : AVal) (hx : rowsV x = some (b.opening.map rI)) (hy : rowsV y = some (b.closing.map rI)) (hz : rowsV z = some (b.entries.map rE)) (hl : b.opening.length ≤ 1000 ∧ b.closing.length ≤ 1000 ∧ b.entries.length ≤ 1000) (h0 : bookE b = 0) (a0 a1 : Option Blk) (ra0 : ∀ n, 2 ≤ n → rbB n a0 = true) (ra1 : ∀ n, 2 ≤ n → rbB n a1 = true) : Answers P T 84 [vB x y z] [a0, a1] fun v h => v = .sl 4 0 b.opening.length false ∧ h = [a0, a1, some (.row 3 [[x, y, z]]), some (.row 1 []), some (.row 1 ((balI b).map rI))] := by
  have hok := book_ok h0
  obtain ⟨hn5, he12, hn0, hcl, hop, hco, hen⟩ := hok
  obtain ⟨tx, rfl⟩ : ∃ t, x = .vl (b.opening.map rI) t := (rowsV_cases hx).resolve_left fun h => hn0 (by have := h.2; simp at this; rw [this]; rfl)
  have ho0 : b.opening ≠ [] := by intro h; rw [h] at hn0; simp at hn0
  have fx := fun H d => rowsV_frz hx H d
  have fy := fun H d => rowsV_frz hy H d
  have fz := fun H d => rowsV_frz hz H d
  have rx := fun n d => rowsV_rb hx n d
  have ry := fun n d => rowsV_rb hy n d
  have rz := fun n d => rowsV_rb hz n d
  have hd := dB_vB hx hy hz hl
  have lx := rowsV_len hx
  have ly := rowsV_len hy
  have lz := rowsV_len hz
  rw [List.length_map] at lx ly lz
  obtain ⟨cx1, cx2⟩ := rowsV_cells hx
  obtain ⟨cy1, cy2⟩ := rowsV_cells hy
  obtain ⟨cz1, cz2⟩ := rowsV_cells hz
  simp only [vB] at hd ⊢
  refine answers_of hT (orcF_none rfl) ?_
  simp only [c84]
  refine runs_seq ?_
  refine runs_reg (ops_run (by simp [lop, loud, callA, calleeA, callF_step h67, h67, oBlot, fx, fy, fz, rx, ry, rz, hd, lx, ly, lz, -lenA, cx1, cx2, cy1, cy2, cz1, cz2, zB, lim]; rfl) ?_)
  simp only [AEx.thn, AEx.blk]
  refine runs_seq ?_
  refine runs_reg (ops_take 3 (by simp; rfl) ?_)
  simp only [List.drop_succ_cons, List.drop_zero]
  refine ops_call (f := 98) (args := [.vl (b.opening.map rI) tx]) (by simp) (by simp) (by simp [lop]) (by simp [calleeA]) ?_
  refine (a98_3 P T h98 _ _ _ b.opening tx ho0 hl.1).mono ?_
  rintro v h' ⟨rfl, rfl⟩
  refine ops_run (by simp; rfl) ?_
  simp only [AEx.thn, AEx.blk]
  refine runs_seq ?_
  refine runs_seq ?_
  refine runs_reg (ops_run (by simp [lop, loud, callA, calleeA, callF_step h67, h67, oBlot, fx, fy, fz, rx, ry, rz, hd, lx, ly, lz, -lenA, cx1, cx2, cy1, cy2, cz1, cz2, zB, lim]; rfl) ?_)
  simp only [AEx.thn, AEx.blk]
  refine runs_block ?_
  refine runs_loop_inv (fun m σ => ∃ (k : Nat) (i : Int) (out : List Int), i = k ∧ b.entries.length - k = m ∧ k ≤ b.entries.length ∧ out.length = b.opening.length ∧ (∀ j, j < out.length → -(1000000000 + 1000000 * (k : Int)) ≤ out.getD j 0 ∧ out.getD j 0 ≤ 1000000000 + 1000000 * (k : Int)) ∧ (b.entries.drop k).foldl balStep out = balI b ∧ σ = ⟨[.any, .any, .any, .sl 4 0 b.opening.length false, .any, .any, .any, .any, .any, .any, .any, .any, z, I b.entries.length, I i, .any, .any, .any, .any, .any, .any, .any, .any, .any, .any, .any, .any, .any, .any, .any, .any, .any, .any, .any, .any, .any, .any, .any, .any, .any, .any], [a0, a1, some (.row 3 [[.vl (b.opening.map rI) tx, y, z]]), some (.row 1 []), some (.row 1 (out.map rI))]⟩) ?_ (b.entries.length - 0) _ ⟨0, 0, b.opening, rfl, rfl, Nat.zero_le _, rfl, fun j hj => by rw [List.getD_eq_getElem?_getD, List.getElem?_eq_getElem hj]; have := hop _ (List.getElem_mem hj); simp only [Option.getD_some]; omega, rfl, by simp⟩
  rintro m σ ⟨k, i, out, hik, rfl, hkl, hol, hbd, hinv, rfl⟩
  refine runs_seq ?_
  refine runs_reg (ops_run (by simp [lop, loud, callA, calleeA, callF_step h67, h67, oBlot, fx, fy, fz, rx, ry, rz, hd, lx, ly, lz, -lenA, cx1, cx2, cy1, cy2, cz1, cz2, zB, lim]; rfl) ?_)
  simp only [AEx.thn, AEx.blk]
  refine runs_seq ?_
  refine runs_cond_split (x := decide (i < (b.entries.length : Int))) (by simp) (fun hlt => ?_) (fun hlt => ?_)
  · have hlt := of_decide_eq_true hlt
    have hk0 : k < b.entries.length := by omega
    have hne := hen _ (List.getElem_mem hk0)
    obtain ⟨tz, rfl⟩ := rowsV_get hz (k := k) (by rw [List.length_map]; omega)
    have hi0 : 0 ≤ i := by omega
    have htn : i.toNat = k := by omega
    have hwi : W .i64 (i + 1) = i + 1 := W_small (by omega)
    rw [List.drop_eq_getElem_cons hk0, List.foldl_cons] at hinv
    generalize hs : b.entries[k] = e at *
    obtain ⟨f, t, a⟩ := e
    simp only at hne
    obtain ⟨⟨hf0, hf1⟩, ⟨ht0, ht1⟩, hft, ha0, ha1⟩ := hne
    refine runs_skip ?_
    simp only [AEx.thn, AEx.blk]
    refine runs_seq ?_
    refine runs_block ?_
    refine runs_seq ?_
    refine runs_reg (ops_run (by simp [lop, loud, callA, calleeA, callF_step h67, h67, oBlot, fx, fy, fz, rx, ry, rz, hd, lx, ly, lz, -lenA, cx1, cx2, cy1, cy2, cz1, cz2, zB, lim, hi0, htn, hk0, hs, hwi, rE]; rfl) ?_)
    simp only [AEx.thn, AEx.blk]
    refine runs_seq ?_
    refine runs_reg (ops_run (by simp [lop, loud, callA, calleeA, callF_step h67, h67, oBlot, fx, fy, fz, rx, ry, rz, hd, lx, ly, lz, -lenA, cx1, cx2, cy1, cy2, cz1, cz2, zB, lim, hi0, htn, hk0, hs, hwi, rE]; rfl) ?_)
    simp only [AEx.thn, AEx.blk]
    refine runs_cond_split (x := !(a == -1)) (by simp) (fun hb => ?_) (fun hb => ?_)
    · have ha : ¬ a = -1 := by simpa using hb
      have hfl : f.toNat < out.length := by omega
      have htl : t.toNat < out.length := by omega
      have b1 := hbd f.toNat hfl
      have b2 := hbd t.toNat htl
      have g1 : out[f.toNat]? = some (out.getD f.toNat 0) := by rw [List.getD_eq_getElem?_getD, List.getElem?_eq_getElem hfl]; rfl
      have hk13 : (k : Int) ≤ 12 := by omega
      have w1 : W .i64 (out.getD f.toNat 0 - a) = out.getD f.toNat 0 - a := W_fit (by omega)
      have w2 : W .i64 (out.getD t.toNat 0 + a) = out.getD t.toNat 0 + a := W_fit (by omega)
      have hl1 : f.toNat < b.opening.length := by omega
      have hl2 : t.toNat < b.opening.length := by omega
      have e0 : (out.map rI).set f.toNat [I (out.getD f.toNat 0 - a)] = (out.set f.toNat (out.getD f.toNat 0 - a)).map rI := by rw [List.map_set]; rfl
      have hno : f.toNat ≠ t.toNat := by omega
      have g2 : (out.set f.toNat (out.getD f.toNat 0 - a))[t.toNat]? = some (out.getD t.toNat 0) := by
        rw [List.getElem?_set_ne hno, List.getD_eq_getElem?_getD, List.getElem?_eq_getElem htl]; rfl
      have e1 : balStep out (f, t, a) = (out.set f.toNat (out.getD f.toNat 0 - a)).set t.toNat (out.getD t.toNat 0 + a) := by
        unfold balStep
        simp only [ha, if_false]
        rw [List.getD_eq_getElem?_getD (l := out.set _ _), g2]; rfl
      generalize hV1 : out.getD f.toNat 0 = V1 at *
      generalize hV2 : out.getD t.toNat 0 = V2 at *
      generalize hO1 : out.set f.toNat (V1 - a) = o1 at *
      have hol1 : o1.length = b.opening.length := by rw [← hO1, List.length_set]; exact hol
      have e2 : (o1.map rI).set t.toNat [I (V2 + a)] = (o1.set t.toNat (V2 + a)).map rI := by rw [List.map_set]; rfl
      generalize hO2 : o1.set t.toNat (V2 + a) = o2 at *
      have hol2 : o2.length = b.opening.length := by rw [← hO2, List.length_set]; exact hol1
      have hr1 : ∀ v : Int, rI v = [I v] := fun _ => rfl
      have hv1 : ∀ h, out[f.toNat]'h = V1 := fun h => by rw [List.getElem?_eq_getElem h] at g1; exact Option.some.inj g1
      have hv2 : ∀ h, o1[t.toNat]'h = V2 := fun h => by rw [List.getElem?_eq_getElem h] at g2; exact Option.some.inj g2
      refine runs_seq ?_
      refine runs_drw (by simp (maxSteps := 3000000) [lop, loud, callA, calleeA, callF_step h67, h67, oBlot, fx, fy, fz, rx, ry, rz, hd, lx, ly, lz, -lenA, cx1, cx2, cy1, cy2, cz1, cz2, zB, lim, hi0, htn, hk0, hs, hwi, rE, hf0, hf1, ht0, ht1, hl1, hl2, g1, g2, w1, w2, hol, hol1, hr1, hv1, hv2, e0, e2]; rfl) ?_
      simp only [AEx.thn, AEx.blk]
      refine runs_drw (by simp (maxSteps := 3000000) [lop, loud, callA, calleeA, callF_step h67, h67, oBlot, fx, fy, fz, rx, ry, rz, hd, lx, ly, lz, -lenA, cx1, cx2, cy1, cy2, cz1, cz2, zB, lim, hi0, htn, hk0, hs, hwi, rE, hf0, hf1, ht0, ht1, hl1, hl2, g1, g2, w1, w2, hol, hol1, hr1, hv1, hv2, e0, e2]; rfl) ?_
      simp only [AEx.thn, AEx.blk]
      refine runs_reg (ops_run (by simp [lop, loud, callA, calleeA, callF_step h67, h67, oBlot, fx, fy, fz, rx, ry, rz, hd, lx, ly, lz, -lenA, cx1, cx2, cy1, cy2, cz1, cz2, zB, lim, hi0, htn, hk0, hs, hwi, rE, hf0, hf1, ht0, ht1, hl1, hl2, g1, g2, w1, w2, hol, hol1, hr1, hv1, hv2, e0, e2]; rfl) ?_)
      simp only [AEx.thn, AEx.blk]
      refine ⟨b.entries.length - (k + 1), by omega, k + 1, i + 1, o2, by omega, rfl, by omega, hol2, fun j hj => ?_, ?_, by (simp [trim, rbB_row, rbB_none, ra0 5 (by decide), ra1 5 (by decide), lop, loud, callA, calleeA, callF_step h67, h67, oBlot, fx, fy, fz, rx, ry, rz, hd, lx, ly, lz, -lenA, cx1, cx2, cy1, cy2, cz1, cz2, zB, lim, hi0, htn, hk0, hs, hwi, rE]; try (intro x _ y hy; simp [rI] at hy; subst hy; rfl))⟩
      · rw [← hO2, ← hO1] at hj ⊢
        simp only [List.length_set] at hj
        have hbj := hbd j hj
        rw [List.getD_eq_getElem?_getD, List.getElem?_set, List.getElem?_set] at *
        simp only [List.length_set]
        split
        · try rw [if_pos (by omega)]
          simp only [Option.getD_some]; omega
        · split
          · try rw [if_pos (by omega)]
            simp only [Option.getD_some]; omega
          · omega
      · rw [e1] at hinv; exact hinv
    · obtain rfl : a = -1 := by simpa using hb
      have e1 : balStep out (f, t, -1) = out := by simp [balStep]
      rw [e1] at hinv
      refine runs_skip ?_
      simp only [AEx.thn, AEx.blk]
      refine runs_reg (ops_run (by simp [lop, loud, callA, calleeA, callF_step h67, h67, oBlot, fx, fy, fz, rx, ry, rz, hd, lx, ly, lz, -lenA, cx1, cx2, cy1, cy2, cz1, cz2, zB, lim, hi0, htn, hk0, hs, hwi, rE]; rfl) ?_)
      simp only [AEx.thn, AEx.blk]
      exact ⟨b.entries.length - (k + 1), by omega, k + 1, i + 1, out, by omega, rfl, by omega, hol, fun j hj => by have := hbd j hj; omega, hinv, by (simp [trim, rbB_row, rbB_none, ra0 5 (by decide), ra1 5 (by decide), lop, loud, callA, calleeA, callF_step h67, h67, oBlot, fx, fy, fz, rx, ry, rz, hd, lx, ly, lz, -lenA, cx1, cx2, cy1, cy2, cz1, cz2, zB, lim, hi0, htn, hk0, hs, hwi, rE]; try (intro x _ y hy; simp [rI] at hy; subst hy; rfl))⟩
  · have hlt := of_decide_eq_false hlt
    obtain rfl : k = b.entries.length := by omega
    rw [List.drop_length] at hinv
    simp only [List.foldl_nil] at hinv
    subst hinv
    refine runs_exit ?_
    simp only [AEx.thn, AEx.blk, if_true, if_false, reduceIte, Nat.reduceEqDiff, Nat.succ_ne_zero, Nat.one_ne_zero, Nat.zero_ne_one]
    refine runs_seq ?_
    refine runs_reg (ops_run (by simp [lop, loud, callA, calleeA, callF_step h67, h67, oBlot, fx, fy, fz, rx, ry, rz, hd, lx, ly, lz, -lenA, cx1, cx2, cy1, cy2, cz1, cz2, zB, lim]; rfl) ?_)
    simp only [AEx.thn, AEx.blk]
    refine runs_ret ?_
    refine ⟨by simp, _, by simp; rfl, ?_⟩
    exact ⟨rfl, by simp [trim]⟩
theorem bal_len' (b : PB) : (balI b).length = b.opening.length := bal_len b.entries b.opening
theorem tk_bal (b : PB) : ((balI b).map rI).take b.opening.length = (balI b).map rI := List.take_of_length_le (by simp [bal_len'])
def oBalT : List AVal → Option AVal
  | [v] => match dB v with
    | some b => if readE b = 0 then some (.tup [.vl ((balI b).map rI) false, I 0]) else none
    | none => none
  | _ => none
theorem a47t (P : Program) (T : Nat → Option CFn) (hT : T 47 = some { c47 with frsh := false, orc := fun _ => none }) (h74 : T 74 = some { c74 with frsh := false, orc := oRead }) (h84 : T 84 = some { c84 with frsh := false, orc := fun _ => none }) (h98 : T 98 = some c98) (h67 : T 67 = some { c67 with frsh := true, orc := oBlot }) (b : PB) (x y z : AVal) (hx : rowsV x = some (b.opening.map rI)) (hy : rowsV y = some (b.closing.map rI)) (hz : rowsV z = some (b.entries.map rE)) (hl : b.opening.length ≤ 1000 ∧ b.closing.length ≤ 1000 ∧ b.entries.length ≤ 1000) (h0 : readE b = 0) : Answers P T 47 [vB x y z] [] fun v h => frz true h 5 v = some (.tup [.vl ((balI b).map rI) false, I 0]) := by
  have hb := read_book h0
  have fx := fun H d => rowsV_frz hx H d
  have fy := fun H d => rowsV_frz hy H d
  have fz := fun H d => rowsV_frz hz H d
  have rx := fun n d => rowsV_rb hx n d
  have ry := fun n d => rowsV_rb hy n d
  have rz := fun n d => rowsV_rb hz n d
  have hd := dB_vB hx hy hz hl
  have lx := rowsV_len hx
  have ly := rowsV_len hy
  have lz := rowsV_len hz
  rw [List.length_map] at lx ly lz
  obtain ⟨cx1, cx2⟩ := rowsV_cells hx
  obtain ⟨cy1, cy2⟩ := rowsV_cells hy
  obtain ⟨cz1, cz2⟩ := rowsV_cells hz
  simp only [vB] at hd ⊢
  refine answers_of hT (orcF_none rfl) ?_
  simp only [c47]
  refine runs_seq ?_
  refine runs_reg (ops_run (by simp [lop, loud, callA, calleeA, callF_step h74, h74, oRead, h0, hb, fx, fy, fz, rx, ry, rz, hd, lx, ly, lz, -lenA, cx1, cx2, cy1, cy2, cz1, cz2, zB]; rfl) ?_)
  simp only [AEx.thn, AEx.blk]
  refine runs_seq ?_
  refine runs_reg (ops_run (by simp [lop, loud, callA, calleeA, callF_step h74, h74, oRead, h0, hb, fx, fy, fz, rx, ry, rz, hd, lx, ly, lz, -lenA, cx1, cx2, cy1, cy2, cz1, cz2, zB]; rfl) ?_)
  simp only [AEx.thn, AEx.blk]
  refine runs_seq ?_
  refine runs_seq ?_
  refine runs_reg (ops_run (by simp [lop, loud, callA, calleeA, callF_step h74, h74, oRead, h0, hb, fx, fy, fz, rx, ry, rz, hd, lx, ly, lz, -lenA, cx1, cx2, cy1, cy2, cz1, cz2, zB]; rfl) ?_)
  simp only [AEx.thn, AEx.blk]
  refine runs_cond (x := false) (by simp) ?_
  refine runs_skip ?_
  simp only [AEx.thn, AEx.blk]
  refine runs_seq ?_
  refine runs_reg (ops_take 1 (by simp [lop, loud, callA, calleeA, callF_step h74, h74, oRead, h0, hb, fx, fy, fz, rx, ry, rz, hd, lx, ly, lz, -lenA, cx1, cx2, cy1, cy2, cz1, cz2, zB]; rfl) ?_)
  simp only [List.drop_succ_cons, List.drop_zero]
  refine ops_call (f := 84) (args := [.agg [x, y, z]]) (by simp) (by simp) (by simp [lop]) (by simp [calleeA]) ?_
  refine (a84_2 P T h84 h98 h67 b x y z hx hy hz hl hb (some (.row 3 [[x, y, z]])) (some (.row 3 [[x, y, z]])) (fun n hn => by simp [rbB_row, rx, ry, rz]) (fun n hn => by simp [rbB_row, rx, ry, rz])).mono ?_
  rintro v h' ⟨rfl, rfl⟩
  refine ops_run (by simp; rfl) ?_
  simp only [AEx.thn, AEx.blk]
  refine runs_ret ?_
  simp [lop, loud, callA, calleeA, callF_step h74, h74, oRead, h0, hb, fx, fy, fz, rx, ry, rz, hd, lx, ly, lz, -lenA, cx1, cx2, cy1, cy2, cz1, cz2, zB, frz_mapI, bal_len', tk_bal, trim]
noncomputable def PT9 : Nat → Option CFn := upd PT8 47 true (oBalT)
theorem PT9_ok : TabOk Try.prog GG PT9 := tab_add mixed PT8_ok fun args v ho => by
  unfold oBalT at ho; split at ho <;> (try simp at ho)
  rename_i v
  split at ho <;> (try simp at ho)
  rename_i b hb
  obtain ⟨x, y, z, rfl, hx, hy, hz, hl⟩ := dB_eq hb
  try simp at ho
  obtain ⟨h0, rfl⟩ := ho
  exact a47t Try.prog PT8 rfl rfl rfl rfl rfl b x y z hx hy hz hl h0
noncomputable def PT10 : Nat → Option CFn := upd PT9 46 false (fun _ => none)
theorem PT10_ok : TabOk Try.prog GG PT10 := tab_add mixed PT9_ok fun args v ho => by simp at ho
noncomputable def PT11 : Nat → Option CFn := upd PT10 46 true (oCopX)
theorem PT11_ok : TabOk Try.prog GG PT11 := tab_add mixed PT10_ok fun args v ho => by
  unfold oCopX at ho; split at ho <;> (try simp at ho)
  rename_i v
  split at ho <;> (try simp at ho)
  rename_i b hb
  obtain ⟨x, y, z, rfl, hx, hy, hz, hl⟩ := dB_eq hb
  try simp at ho
  obtain ⟨h0, rfl⟩ := ho
  exact a46 Try.prog PT10 rfl b x y z hx hy hz hl
end
end Go.Proofs.Ytfnnonoffiljhaa.Tab

namespace Go.Proofs.Ytfnnonoffiljhaa.Tab
open Go Go.Abs Go.Proofs
set_option maxRecDepth 100000
set_option maxHeartbeats 4000000
set_option linter.unusedSimpArgs false
set_option linter.unusedVariables false
section
attribute [local simp] frz_int frz_bool frz_vl frz_pv frz_agg frz_tup frz_fn frz_ref frz_sl frz_nils optAll orcF rb_int rb_bool rb_agg rb_tup rb_int' rb_bool' rb_vl rb_pv rb_yld rb_nilf rb_nilp rb_nils rb_any rb_und rb_ref rb_sl rb_fn slE chunk fillA evParts evParts3 putAt List.range_succ List.range_zero List.range'_succ List.range'_zero runX_nil' unary_not evalS_pure evAll_nil evAll_cons runX_cons stepX wantedA dop CV.ev putK_eq setK_eq appK_eq fA_eq fI_eq fN_eq fRow_eq fRows_eq nth_eq Out.v putT List.replicate_succ AEx.thn AEx.blk arI pointee Abs.rowAt ldRow allV toV toC ofV ofC Builtin.min_ Builtin.min2 Builtin.max_ Builtin.max2 min_if max_if resA tupA kill trim_self trim_len trim_emp trim_nil lenA
attribute [local simp] runD_nil' runD_cons' stepD actK_eq actD clash disj masks holes maskH unmaskH diffs news eqB allB eqA ldRowN wrote toCs ofCs stA rowsV_vl rowsV_nils rowsOf dI1 dI2 dI3 dI5 elt
attribute [local simp] st_any st_und st_agg st_tup st_bool st_int st_nilp st_ref st_pv st_nils st_sl st_vl st_nilm st_mp st_fn st_nilf st_yld co_any co_und co_agg co_tup co_bool co_int co_nilp co_ref co_pv co_nils co_sl co_vl co_nilm co_mp co_fn co_nilf co_yld
theorem eq26n (x y : Operand) (a0 a1 b0 b1 : Int) : evalS Try.prog (do eqGuard .neq 26 x y (.agg #[.int .i64 a0, .int .i64 a1]) (.agg #[.int .i64 b0, .int .i64 b1]); binOp .neq 26 (.agg #[.int .i64 a0, .int .i64 a1]) (.agg #[.int .i64 b0, .int .i64 b1])) = some (.bool (!((a0 == b0) && ((a1 == b1) && true)))) := by
  have h := evalS_eqv (P := Try.prog) (ne := true) (t := 26) (x := x) (y := y) (xs := #[.int .i64 a0, .int .i64 a1]) (ys := #[.int .i64 b0, .int .i64 b1]) (b := ((a0 == b0) && ((a1 == b1) && true))) (by kernel_rfl) (by kernel_rfl)
  simpa only [if_true, if_false, Bool.false_eq_true, Bool.bne_true, Bool.bne_false] using h
theorem sum_take : ∀ (xs : List Int) (k : Nat) (h : k < xs.length), (xs.take (k + 1)).sum = (xs.take k).sum + xs[k]
  | [], _, h => absurd h (by simp)
  | x :: xs, 0, _ => by simp
  | x :: xs, k + 1, h => by
    rw [List.take_succ_cons, List.take_succ_cons, List.sum_cons, List.sum_cons, sum_take xs k (by simpa using h)]
    simp; omega
theorem eqA_vlI (n : Nat) (xs : List Int) (t : Bool) : eqA (n + 2) (.vl (xs.map rI) t) (.vl (xs.map rI) t) = true := eq_of rfl n (eq_rI n xs)
theorem eqA_vlE (n : Nat) (xs : List Ent) (t : Bool) : eqA (n + 2) (.vl (xs.map rE) t) (.vl (xs.map rE) t) = true := eq_of rfl n (eq_rE n xs)
theorem trim_ok {n : Nat} {vs : List AVal} {h h0 : Heap} (h1 : vs.all (rb n 5) = true) (h2 : (h.take n).all (rbB n) = true) (h3 : h.take n = h0) : trim n vs h = h0 := by
  unfold trim; rw [h1, h2]; exact h3
theorem st_eq {t t' : List AVal} {h h' : Heap} (h1 : t = t') (h2 : h = h') : (⟨t, h⟩ : St) = ⟨t', h'⟩ := by rw [h1, h2]
theorem rIe (v : Int) : rI v = [I v] := rfl
theorem a11n (T : Nat → Option CFn) (hT : T 11 = some c11) (h46 : T 46 = some { c46 with frsh := true, orc := oCopX }) (h17 : T 17 = some { c17 with frsh := true, orc := oKn }) (h44 : T 44 = some { c44 with body := annK [(62, [.cell 3 0]), (94, [.cell 3 2])] [] c44.body, frsh := true, orc := oPages }) (h47 : T 47 = some { c47 with frsh := true, orc := oBalT }) (h37 : T 37 = some { c37 with frsh := true, orc := oSlips0 }) (h29 : T 29 = some { c29 with body := annK [(3940649673949476, [.slot 2])] [] c29.body, frsh := true, orc := oFill0 })
    (acc o0 o1 o2 o3 o4 bl w0 w1 : Int) (x y : AVal) (rx ry : List (List AVal)) (hx : rowsV x = some rx) (hy : rowsV y = some ry) (eqb : eqB (some (.row 9 [[.int .u8 acc, .int .i16 o0, .int .i16 o1, .int .i16 o2, .int .i16 o3, .int .i16 o4, x, y, .int .u16 bl]])) (some (.row 9 [[.int .u8 acc, .int .i16 o0, .int .i16 o1, .int .i16 o2, .int .i16 o3, .int .i16 o4, x, y, .int .u16 bl]])) = true) (hw : (0 ≤ w0 ∧ w0 ≤ 255) ∧ (0 ≤ w1 ∧ w1 ≤ 255)) (B : PB)
    (hpg : oPages [.agg [.int .u8 acc, .int .i16 o0, .int .i16 o1, .int .i16 o2, .int .i16 o3, .int .i16 o4, x, y, .int .u16 bl]] = some (.agg [.vl (B.opening.map rI) false, .vl (B.closing.map rI) false, .vl (B.entries.map rE) false])) (hl : B.opening.length ≤ 1000 ∧ B.closing.length ≤ 1000 ∧ B.entries.length ≤ 1000) (hn1 : B.opening ≠ []) (hn2 : B.closing ≠ []) (hn3 : B.opening.length ≤ 5) (hE : B.entries ≠ []) (hln : B.opening.length = B.closing.length)
    (ho : ∀ o ∈ B.opening, -40000 ≤ o ∧ o ≤ 40000) (hc : ∀ o ∈ B.closing, -20000000 ≤ o ∧ o ≤ 20000000) (hsum : B.opening.sum = B.closing.sum) (hJJ : 0 ≤ w0.tmod (B.closing.length : Int) ∧ w0.tmod (B.closing.length : Int) < (B.closing.length : Int))
    (hX : oCopX [.agg [.vl (B.opening.map rI) false, .vl (B.closing.map rI) false, .vl (B.entries.map rE) false]] = none) (hbal : oBalT [.agg [.vl (B.opening.map rI) false, .vl (B.closing.map rI) false, .vl (B.entries.map rE) false]] = some (.tup [.vl (B.closing.map rI) false, I 0])) (hsl : oSlips0 [.agg [.vl (B.opening.map rI) false, .vl (B.closing.map rI) false, .vl (B.entries.map rE) false]] = some (.tup [.nils, I 6])) (hfi : oFill0 [.agg [.vl (B.opening.map rI) false, .vl (B.closing.map rI) false, .vl (B.entries.map rE) false]] = some (.tup [.vl (B.entries.map rS2) false, I 0]))
    (hcp : oCopX [.agg [.vl (B.opening.map rI) false, .vl ((B.closing.set (w0.tmod (B.closing.length : Int)).toNat (B.closing.getD (w0.tmod (B.closing.length : Int)).toNat 0 + (1 + w1))).map rI) false, .vl (B.entries.map rE) false]] = some (.agg [.vl (B.opening.map rI) false, .vl ((B.closing.set (w0.tmod (B.closing.length : Int)).toNat (B.closing.getD (w0.tmod (B.closing.length : Int)).toNat 0 + (1 + w1))).map rI) false, .vl (B.entries.map rE) false])) (hfi2 : oFill0 [.agg [.vl (B.opening.map rI) false, .vl ((B.closing.set (w0.tmod (B.closing.length : Int)).toNat (B.closing.getD (w0.tmod (B.closing.length : Int)).toNat 0 + (1 + w1))).map rI) false, .vl (B.entries.map rE) false]] = some (.tup [.nils, I 9])) (hsl2 : oSlips0 [.agg [.vl (B.opening.map rI) false, .vl ((B.closing.set (w0.tmod (B.closing.length : Int)).toNat (B.closing.getD (w0.tmod (B.closing.length : Int)).toNat 0 + (1 + w1))).map rI) false, .vl (B.entries.map rE) false]] = some (.tup [.nils, I 7]))
    : Answers Try.prog T 11 [.agg [.int .u8 acc, .int .i16 o0, .int .i16 o1, .int .i16 o2, .int .i16 o3, .int .i16 o4, x, y, .int .u16 bl], .agg [.int .u8 w0, .int .u8 w1]] [] fun v _ => v = .bool true := by
  have rx1 := fun n d => rowsV_rb hx n d
  have ry1 := fun n d => rowsV_rb hy n d
  have tkI := tk_rI B.opening
  have tkC := tk_rI B.closing
  have tkE := tk_rE B.entries
  have fx := fun H d => rowsV_frz hx H d
  have fy := fun H d => rowsV_frz hy H d
  obtain ⟨cx1, cx2⟩ := rowsV_cells hx
  obtain ⟨cy1, cy2⟩ := rowsV_cells hy
  refine answers_of hT (orcF_none rfl) ?_
  simp only [c11]
  refine runs_seq ?_
  refine runs_reg (ops_run (by simp [lop, loud, callA, calleeA, callF_step h17, h17, callF_step h44, h44, callF_step h47, h47, callF_step h37, h37, callF_step h29, h29, oKn, hpg, hbal, hsl, hfi, rx1, ry1, lim, frz_mapI, frz_mapE, frz_mapS, tkI, tkE, tkC, ro_sl, ro_vl, ro_nils, rbI, rbE, hn3, fx, fy, cx1, cx2, cy1, cy2]; rfl) ?_)
  simp only [AEx.thn, AEx.blk]
  refine runs_seq ?_
  refine runs_reg (ops_run (by simp [lop, loud, callA, calleeA, callF_step h17, h17, callF_step h44, h44, callF_step h47, h47, callF_step h37, h37, callF_step h29, h29, oKn, hpg, hbal, hsl, hfi, rx1, ry1, lim, frz_mapI, frz_mapE, frz_mapS, tkI, tkE, tkC, ro_sl, ro_vl, ro_nils, rbI, rbE, hn3, fx, fy, cx1, cx2, cy1, cy2]; rfl) ?_)
  simp only [AEx.thn, AEx.blk]
  refine runs_seq ?_
  refine runs_reg (ops_take 1 (by simp [lop, loud, callA, calleeA, callF_step h17, h17, callF_step h44, h44, callF_step h47, h47, callF_step h37, h37, callF_step h29, h29, oKn, hpg, hbal, hsl, hfi, rx1, ry1, lim, frz_mapI, frz_mapE, frz_mapS, tkI, tkE, tkC, ro_sl, ro_vl, ro_nils, rbI, rbE, hn3, fx, fy, cx1, cx2, cy1, cy2]; rfl) ?_)
  simp only [List.drop_succ_cons, List.drop_zero]
  refine ops_call (f := 46) (args := [.agg [.vl (B.opening.map rI) false, .vl (B.closing.map rI) false, .vl (B.entries.map rE) false]]) (by simp) (by simp) (by simp [lop]) (by simp [calleeA]) ?_
  refine (a46_3n Try.prog T h46 _ _ _ (by first | exact eqb | simp [eqB, allB, ↓eqA_vlI, ↓eqA_vlE, ↓eq_rI, ↓eq_rE]) (by first | exact eqb | simp [eqB, allB, ↓eqA_vlI, ↓eqA_vlE, ↓eq_rI, ↓eq_rE]) (by first | exact eqb | simp [eqB, allB, ↓eqA_vlI, ↓eqA_vlE, ↓eq_rI, ↓eq_rE]) B (.vl (B.opening.map rI) false) (.vl (B.closing.map rI) false) (.vl (B.entries.map rE) false) rfl rfl rfl hl hn1 hn2 hE hX).mono ?_
  rintro v h' ⟨rfl, rfl⟩
  refine ops_run (by simp [lop, loud, callA, calleeA, callF_step h17, h17, callF_step h44, h44, callF_step h47, h47, callF_step h37, h37, callF_step h29, h29, oKn, hpg, hbal, hsl, hfi, rx1, ry1, lim, frz_mapI, frz_mapE, frz_mapS, tkI, tkE, tkC, ro_sl, ro_vl, ro_nils, rbI, rbE, hn3, fx, fy, cx1, cx2, cy1, cy2]; rfl) ?_
  simp only [AEx.thn, AEx.blk]
  refine runs_seq ?_
  refine runs_seq ?_
  refine runs_reg (ops_run (by simp [lop, loud, callA, calleeA, callF_step h17, h17, callF_step h44, h44, callF_step h47, h47, callF_step h37, h37, callF_step h29, h29, oKn, hpg, hbal, hsl, hfi, rx1, ry1, lim, frz_mapI, frz_mapE, frz_mapS, tkI, tkE, tkC, ro_sl, ro_vl, ro_nils, rbI, rbE, hn3, fx, fy, cx1, cx2, cy1, cy2]; rfl) ?_)
  simp only [AEx.thn, AEx.blk]
  refine runs_cond (x := false) (by simp [hln]) ?_
  refine runs_skip ?_
  simp only [AEx.thn, AEx.blk]
  refine runs_seq ?_
  refine runs_reg (ops_run (by simp [lop, loud, callA, calleeA, callF_step h17, h17, callF_step h44, h44, callF_step h47, h47, callF_step h37, h37, callF_step h29, h29, oKn, hpg, hbal, hsl, hfi, rx1, ry1, lim, frz_mapI, frz_mapE, frz_mapS, tkI, tkE, tkC, ro_sl, ro_vl, ro_nils, rbI, rbE, hn3, fx, fy, cx1, cx2, cy1, cy2]; rfl) ?_)
  simp only [AEx.thn, AEx.blk]
  refine runs_seq ?_
  refine runs_seq ?_
  refine runs_reg (ops_run (by simp [lop, loud, callA, calleeA, callF_step h17, h17, callF_step h44, h44, callF_step h47, h47, callF_step h37, h37, callF_step h29, h29, oKn, hpg, hbal, hsl, hfi, rx1, ry1, lim, frz_mapI, frz_mapE, frz_mapS, tkI, tkE, tkC, ro_sl, ro_vl, ro_nils, rbI, rbE, hn3, fx, fy, cx1, cx2, cy1, cy2]; rfl) ?_)
  simp only [AEx.thn, AEx.blk]
  refine runs_block ?_
  refine runs_loop_inv (fun m σ => ∃ (k : Nat) (i s1 s2 : Int), i = k ∧ B.closing.length - k = m ∧ k ≤ B.closing.length ∧ s1 = (B.opening.take k).sum ∧ s2 = (B.closing.take k).sum ∧ (-40000 * (k : Int) ≤ s1 ∧ s1 ≤ 40000 * (k : Int)) ∧ (-20000000 * (k : Int) ≤ s2 ∧ s2 ≤ 20000000 * (k : Int)) ∧ σ = ⟨[.any, .any, .any, .ref 1 0 0, .any, .ref 2 0 0, .vl (B.closing.map rI) false, .any, I s1, I s2, I i, .any, .any, .any, .any, .any, .any, .any, .any, .any, .any, .any, .any, .any, .any, .any, .any, .any, .any, .any, .any, .any, .any, .any, .any, .any, .any, .any, .any, .any, .any, .any, .any, .any, .any, .any, .any, .any, .any, .any, .any, .any, .any, .any, .any, .any, .any, .any, .any, .any, .any, .any, .any, .any, .any, .any, .any, .any, .any, .any, .any, .any, .any, .any, .any, .any, .any, .any, .any, .any, .any, .any, .any, .any, .any, .any, .any, .any, .any, .any, .any, .any, .any, .any, .any, .any, .any, .any, .any, .any, .any, .any, .any, .any, .any, .any, .any, .any, .any, .any, .any, .any, .any, .any, .any, .any, .any, .any, .any, .any, .any, .any, .any, .any, .any, .any, .any, .any, .any, .any, .any, .any, .any, .any, .any, .any, .any, .any, .any, .any, .any, .any, .any, .any, .any, .any, .any, .any, .any, .any, .any, .any, .any, .any, .any, .any, .any, .any, .any, .any, .any, .any, .any, .any, .any, .any, .any, .any], [some (.row 9 [[.int .u8 acc, .int .i16 o0, .int .i16 o1, .int .i16 o2, .int .i16 o3, .int .i16 o4, x, y, .int .u16 bl]]), some (.row 2 [[.int .u8 w0, .int .u8 w1]]), some (.row 3 [[.vl (B.opening.map rI) false, .vl (B.closing.map rI) false, .vl (B.entries.map rE) false]]), some (.row 3 [[.vl (B.opening.map rI) false, .vl (B.closing.map rI) false, .vl (B.entries.map rE) false]]), some (.row 3 [[.sl 19 0 B.opening.length false, .sl 20 0 B.closing.length false, .sl 21 0 B.entries.length false]]), some (.row 1 []), none, none, none, some (.row 1 []), none, none, none, some (.row 3 []), none, none, none, none, none, some (.row 1 (B.opening.map rI)), some (.row 1 (B.closing.map rI)), some (.row 3 (B.entries.map rE))]⟩) ?_ (B.closing.length - 0) _ ⟨0, 0, 0, 0, rfl, rfl, Nat.zero_le _, rfl, rfl, by omega, by omega, by simp⟩
  rintro m σ ⟨k, i, s1, s2, hik, rfl, hkl, hs1, hs2, hb1, hb2, rfl⟩
  refine runs_seq ?_
  refine runs_seq ?_
  refine runs_reg (ops_run (by simp [lop, loud, callA, calleeA, callF_step h17, h17, callF_step h44, h44, callF_step h47, h47, callF_step h37, h37, callF_step h29, h29, oKn, hpg, hbal, hsl, hfi, rx1, ry1, lim, frz_mapI, frz_mapE, frz_mapS, tkI, tkE, tkC, ro_sl, ro_vl, ro_nils, rbI, rbE, hn3, fx, fy, cx1, cx2, cy1, cy2]; rfl) ?_)
  simp only [AEx.thn, AEx.blk]
  refine runs_cond_split (x := decide (i < (B.closing.length : Int))) (by simp) (fun hlt => ?_) (fun hlt => ?_)
  · have hlt := of_decide_eq_true hlt
    have hk1 : k < B.closing.length := by omega
    have hk0 : k < B.opening.length := by omega
    have hi0 : 0 ≤ i := by omega
    have htn : i.toNat = k := by omega
    have hwi : W .i64 (i + 1) = i + 1 := W_small (by omega)
    have hoo := ho _ (List.getElem_mem hk0)
    have hcc := hc _ (List.getElem_mem hk1)
    have t1 := sum_take B.opening k hk0
    have t2 := sum_take B.closing k hk1
    generalize hV1 : B.opening[k] = V1 at *
    generalize hV2 : B.closing[k] = V2 at *
    have wf : W .i64 (s1 + V1) = s1 + V1 := W_fit (by omega)
    have wl : W .i64 (s2 + V2) = s2 + V2 := W_fit (by omega)
    refine runs_skip ?_
    simp only [AEx.thn, AEx.blk]
    refine runs_seq ?_
    refine runs_block ?_
    refine runs_seq ?_
    refine runs_drw (by simp (maxSteps := 3000000) [lop, loud, callA, calleeA, callF_step h17, h17, callF_step h44, h44, callF_step h47, h47, callF_step h37, h37, callF_step h29, h29, oKn, hpg, hbal, hsl, hfi, rx1, ry1, lim, frz_mapI, frz_mapE, frz_mapS, tkI, tkE, tkC, ro_sl, ro_vl, ro_nils, rbI, rbE, hn3, fx, fy, cx1, cx2, cy1, cy2, hi0, htn, hk0, hk1, hwi, hV1, hV2, wf, wl, rI]; rfl) ?_
    simp only [AEx.thn, AEx.blk]
    refine runs_seq ?_
    refine runs_drw (by simp (maxSteps := 3000000) [lop, loud, callA, calleeA, callF_step h17, h17, callF_step h44, h44, callF_step h47, h47, callF_step h37, h37, callF_step h29, h29, oKn, hpg, hbal, hsl, hfi, rx1, ry1, lim, frz_mapI, frz_mapE, frz_mapS, tkI, tkE, tkC, ro_sl, ro_vl, ro_nils, rbI, rbE, hn3, fx, fy, cx1, cx2, cy1, cy2, hi0, htn, hk0, hk1, hwi, hV1, hV2, wf, wl, rI]; rfl) ?_
    simp only [AEx.thn, AEx.blk]
    refine runs_cond (x := false) (by simp) ?_
    refine runs_skip ?_
    simp only [AEx.thn, AEx.blk]
    refine runs_reg (ops_run (by simp [lop, loud, callA, calleeA, callF_step h17, h17, callF_step h44, h44, callF_step h47, h47, callF_step h37, h37, callF_step h29, h29, oKn, hpg, hbal, hsl, hfi, rx1, ry1, lim, frz_mapI, frz_mapE, frz_mapS, tkI, tkE, tkC, ro_sl, ro_vl, ro_nils, rbI, rbE, hn3, fx, fy, cx1, cx2, cy1, cy2, hi0, htn, hk0, hk1, hwi, hV1, hV2, wf, wl, rI]; rfl) ?_)
    simp only [AEx.thn, AEx.blk]
    exact ⟨B.closing.length - (k + 1), by omega, k + 1, i + 1, s1 + V1, s2 + V2, by omega, rfl, by omega, by omega, by omega, by omega, by omega, st_eq (by simp) (trim_ok (by simp) (by simp [rbB_row, rbB_none, rx1, ry1, ↓rbI, ↓rbE]) (by simp))⟩
  · have hlt := of_decide_eq_false hlt
    obtain rfl : k = B.closing.length := by omega
    rw [List.take_length] at hs2
    rw [← hln, List.take_length] at hs1
    obtain rfl : s1 = s2 := by omega
    refine runs_exit ?_
    simp only [AEx.thn, AEx.blk, if_true, if_false, reduceIte, Nat.reduceEqDiff, Nat.succ_ne_zero, Nat.one_ne_zero, Nat.zero_ne_one]
    refine runs_seq ?_
    refine runs_reg (ops_take 1 (by simp [lop, loud, callA, calleeA, callF_step h17, h17, callF_step h44, h44, callF_step h47, h47, callF_step h37, h37, callF_step h29, h29, oKn, hpg, hbal, hsl, hfi, rx1, ry1, lim, frz_mapI, frz_mapE, frz_mapS, tkI, tkE, tkC, ro_sl, ro_vl, ro_nils, rbI, rbE, hn3, fx, fy, cx1, cx2, cy1, cy2]; rfl) ?_)
    simp only [List.drop_succ_cons, List.drop_zero]
    refine ops_call (f := 46) (args := [.agg [.vl (B.opening.map rI) false, .vl (B.closing.map rI) false, .vl (B.entries.map rE) false]]) (by simp) (by simp) (by simp [lop]) (by simp [calleeA]) ?_
    refine (a46_22n Try.prog T h46 _ _ _ _ _ _ _ _ _ _ _ _ _ _ _ _ _ _ _ _ _ _ (by first | exact eqb | simp [eqB, allB, ↓eqA_vlI, ↓eqA_vlE, ↓eq_rI, ↓eq_rE]) (by first | exact eqb | simp [eqB, allB, ↓eqA_vlI, ↓eqA_vlE, ↓eq_rI, ↓eq_rE]) (by first | exact eqb | simp [eqB, allB, ↓eqA_vlI, ↓eqA_vlE, ↓eq_rI, ↓eq_rE]) (by first | exact eqb | simp [eqB, allB, ↓eqA_vlI, ↓eqA_vlE, ↓eq_rI, ↓eq_rE]) (by first | exact eqb | simp [eqB, allB, ↓eqA_vlI, ↓eqA_vlE, ↓eq_rI, ↓eq_rE]) (by first | exact eqb | simp [eqB, allB, ↓eqA_vlI, ↓eqA_vlE, ↓eq_rI, ↓eq_rE]) (by first | exact eqb | simp [eqB, allB, ↓eqA_vlI, ↓eqA_vlE, ↓eq_rI, ↓eq_rE]) (by first | exact eqb | simp [eqB, allB, ↓eqA_vlI, ↓eqA_vlE, ↓eq_rI, ↓eq_rE]) (by first | exact eqb | simp [eqB, allB, ↓eqA_vlI, ↓eqA_vlE, ↓eq_rI, ↓eq_rE]) (by first | exact eqb | simp [eqB, allB, ↓eqA_vlI, ↓eqA_vlE, ↓eq_rI, ↓eq_rE]) (by first | exact eqb | simp [eqB, allB, ↓eqA_vlI, ↓eqA_vlE, ↓eq_rI, ↓eq_rE]) (by first | exact eqb | simp [eqB, allB, ↓eqA_vlI, ↓eqA_vlE, ↓eq_rI, ↓eq_rE]) (by first | exact eqb | simp [eqB, allB, ↓eqA_vlI, ↓eqA_vlE, ↓eq_rI, ↓eq_rE]) (by first | exact eqb | simp [eqB, allB, ↓eqA_vlI, ↓eqA_vlE, ↓eq_rI, ↓eq_rE]) (by first | exact eqb | simp [eqB, allB, ↓eqA_vlI, ↓eqA_vlE, ↓eq_rI, ↓eq_rE]) (by first | exact eqb | simp [eqB, allB, ↓eqA_vlI, ↓eqA_vlE, ↓eq_rI, ↓eq_rE]) (by first | exact eqb | simp [eqB, allB, ↓eqA_vlI, ↓eqA_vlE, ↓eq_rI, ↓eq_rE]) (by first | exact eqb | simp [eqB, allB, ↓eqA_vlI, ↓eqA_vlE, ↓eq_rI, ↓eq_rE]) (by first | exact eqb | simp [eqB, allB, ↓eqA_vlI, ↓eqA_vlE, ↓eq_rI, ↓eq_rE]) (by first | exact eqb | simp [eqB, allB, ↓eqA_vlI, ↓eqA_vlE, ↓eq_rI, ↓eq_rE]) (by first | exact eqb | simp [eqB, allB, ↓eqA_vlI, ↓eqA_vlE, ↓eq_rI, ↓eq_rE]) (by first | exact eqb | simp [eqB, allB, ↓eqA_vlI, ↓eqA_vlE, ↓eq_rI, ↓eq_rE]) B (.vl (B.opening.map rI) false) (.vl (B.closing.map rI) false) (.vl (B.entries.map rE) false) rfl rfl rfl hl hn1 hn2 hE hX).mono ?_
    rintro v h' ⟨rfl, rfl⟩
    refine ops_run (by simp [lop, loud, callA, calleeA, callF_step h17, h17, callF_step h44, h44, callF_step h47, h47, callF_step h37, h37, callF_step h29, h29, oKn, hpg, hbal, hsl, hfi, rx1, ry1, lim, frz_mapI, frz_mapE, frz_mapS, tkI, tkE, tkC, ro_sl, ro_vl, ro_nils, rbI, rbE, hn3, fx, fy, cx1, cx2, cy1, cy2]; rfl) ?_
    simp only [AEx.thn, AEx.blk]
    refine runs_seq ?_
    refine runs_reg (ops_take 1 (by simp [lop, loud, callA, calleeA, callF_step h17, h17, callF_step h44, h44, callF_step h47, h47, callF_step h37, h37, callF_step h29, h29, oKn, hpg, hbal, hsl, hfi, rx1, ry1, lim, frz_mapI, frz_mapE, frz_mapS, tkI, tkE, tkC, ro_sl, ro_vl, ro_nils, rbI, rbE, hn3, fx, fy, cx1, cx2, cy1, cy2]; rfl) ?_)
    simp only [List.drop_succ_cons, List.drop_zero]
    refine ops_call (f := 46) (args := [.agg [.vl (B.opening.map rI) false, .vl (B.closing.map rI) false, .vl (B.entries.map rE) false]]) (by simp) (by simp) (by simp [lop]) (by simp [calleeA]) ?_
    refine (a46_41n Try.prog T h46 _ _ _ _ _ _ _ _ _ _ _ _ _ _ _ _ _ _ _ _ _ _ _ _ _ _ _ _ _ _ _ _ _ _ _ _ _ _ _ _ _ (by first | exact eqb | simp [eqB, allB, ↓eqA_vlI, ↓eqA_vlE, ↓eq_rI, ↓eq_rE]) (by first | exact eqb | simp [eqB, allB, ↓eqA_vlI, ↓eqA_vlE, ↓eq_rI, ↓eq_rE]) (by first | exact eqb | simp [eqB, allB, ↓eqA_vlI, ↓eqA_vlE, ↓eq_rI, ↓eq_rE]) (by first | exact eqb | simp [eqB, allB, ↓eqA_vlI, ↓eqA_vlE, ↓eq_rI, ↓eq_rE]) (by first | exact eqb | simp [eqB, allB, ↓eqA_vlI, ↓eqA_vlE, ↓eq_rI, ↓eq_rE]) (by first | exact eqb | simp [eqB, allB, ↓eqA_vlI, ↓eqA_vlE, ↓eq_rI, ↓eq_rE]) (by first | exact eqb | simp [eqB, allB, ↓eqA_vlI, ↓eqA_vlE, ↓eq_rI, ↓eq_rE]) (by first | exact eqb | simp [eqB, allB, ↓eqA_vlI, ↓eqA_vlE, ↓eq_rI, ↓eq_rE]) (by first | exact eqb | simp [eqB, allB, ↓eqA_vlI, ↓eqA_vlE, ↓eq_rI, ↓eq_rE]) (by first | exact eqb | simp [eqB, allB, ↓eqA_vlI, ↓eqA_vlE, ↓eq_rI, ↓eq_rE]) (by first | exact eqb | simp [eqB, allB, ↓eqA_vlI, ↓eqA_vlE, ↓eq_rI, ↓eq_rE]) (by first | exact eqb | simp [eqB, allB, ↓eqA_vlI, ↓eqA_vlE, ↓eq_rI, ↓eq_rE]) (by first | exact eqb | simp [eqB, allB, ↓eqA_vlI, ↓eqA_vlE, ↓eq_rI, ↓eq_rE]) (by first | exact eqb | simp [eqB, allB, ↓eqA_vlI, ↓eqA_vlE, ↓eq_rI, ↓eq_rE]) (by first | exact eqb | simp [eqB, allB, ↓eqA_vlI, ↓eqA_vlE, ↓eq_rI, ↓eq_rE]) (by first | exact eqb | simp [eqB, allB, ↓eqA_vlI, ↓eqA_vlE, ↓eq_rI, ↓eq_rE]) (by first | exact eqb | simp [eqB, allB, ↓eqA_vlI, ↓eqA_vlE, ↓eq_rI, ↓eq_rE]) (by first | exact eqb | simp [eqB, allB, ↓eqA_vlI, ↓eqA_vlE, ↓eq_rI, ↓eq_rE]) (by first | exact eqb | simp [eqB, allB, ↓eqA_vlI, ↓eqA_vlE, ↓eq_rI, ↓eq_rE]) (by first | exact eqb | simp [eqB, allB, ↓eqA_vlI, ↓eqA_vlE, ↓eq_rI, ↓eq_rE]) (by first | exact eqb | simp [eqB, allB, ↓eqA_vlI, ↓eqA_vlE, ↓eq_rI, ↓eq_rE]) (by first | exact eqb | simp [eqB, allB, ↓eqA_vlI, ↓eqA_vlE, ↓eq_rI, ↓eq_rE]) (by first | exact eqb | simp [eqB, allB, ↓eqA_vlI, ↓eqA_vlE, ↓eq_rI, ↓eq_rE]) (by first | exact eqb | simp [eqB, allB, ↓eqA_vlI, ↓eqA_vlE, ↓eq_rI, ↓eq_rE]) (by first | exact eqb | simp [eqB, allB, ↓eqA_vlI, ↓eqA_vlE, ↓eq_rI, ↓eq_rE]) (by first | exact eqb | simp [eqB, allB, ↓eqA_vlI, ↓eqA_vlE, ↓eq_rI, ↓eq_rE]) (by first | exact eqb | simp [eqB, allB, ↓eqA_vlI, ↓eqA_vlE, ↓eq_rI, ↓eq_rE]) (by first | exact eqb | simp [eqB, allB, ↓eqA_vlI, ↓eqA_vlE, ↓eq_rI, ↓eq_rE]) (by first | exact eqb | simp [eqB, allB, ↓eqA_vlI, ↓eqA_vlE, ↓eq_rI, ↓eq_rE]) (by first | exact eqb | simp [eqB, allB, ↓eqA_vlI, ↓eqA_vlE, ↓eq_rI, ↓eq_rE]) (by first | exact eqb | simp [eqB, allB, ↓eqA_vlI, ↓eqA_vlE, ↓eq_rI, ↓eq_rE]) (by first | exact eqb | simp [eqB, allB, ↓eqA_vlI, ↓eqA_vlE, ↓eq_rI, ↓eq_rE]) (by first | exact eqb | simp [eqB, allB, ↓eqA_vlI, ↓eqA_vlE, ↓eq_rI, ↓eq_rE]) (by first | exact eqb | simp [eqB, allB, ↓eqA_vlI, ↓eqA_vlE, ↓eq_rI, ↓eq_rE]) (by first | exact eqb | simp [eqB, allB, ↓eqA_vlI, ↓eqA_vlE, ↓eq_rI, ↓eq_rE]) (by first | exact eqb | simp [eqB, allB, ↓eqA_vlI, ↓eqA_vlE, ↓eq_rI, ↓eq_rE]) (by first | exact eqb | simp [eqB, allB, ↓eqA_vlI, ↓eqA_vlE, ↓eq_rI, ↓eq_rE]) (by first | exact eqb | simp [eqB, allB, ↓eqA_vlI, ↓eqA_vlE, ↓eq_rI, ↓eq_rE]) (by first | exact eqb | simp [eqB, allB, ↓eqA_vlI, ↓eqA_vlE, ↓eq_rI, ↓eq_rE]) (by first | exact eqb | simp [eqB, allB, ↓eqA_vlI, ↓eqA_vlE, ↓eq_rI, ↓eq_rE]) (by first | exact eqb | simp [eqB, allB, ↓eqA_vlI, ↓eqA_vlE, ↓eq_rI, ↓eq_rE]) B (.vl (B.opening.map rI) false) (.vl (B.closing.map rI) false) (.vl (B.entries.map rE) false) rfl rfl rfl hl hn1 hn2 hE hX).mono ?_
    rintro v h' ⟨rfl, rfl⟩
    refine ops_run (by simp [lop, loud, callA, calleeA, callF_step h17, h17, callF_step h44, h44, callF_step h47, h47, callF_step h37, h37, callF_step h29, h29, oKn, hpg, hbal, hsl, hfi, rx1, ry1, lim, frz_mapI, frz_mapE, frz_mapS, tkI, tkE, tkC, ro_sl, ro_vl, ro_nils, rbI, rbE, hn3, fx, fy, cx1, cx2, cy1, cy2]; rfl) ?_
    simp only [AEx.thn, AEx.blk]
    refine runs_seq ?_
    refine runs_seq ?_
    refine runs_reg (ops_run (by simp [lop, loud, callA, calleeA, callF_step h17, h17, callF_step h44, h44, callF_step h47, h47, callF_step h37, h37, callF_step h29, h29, oKn, hpg, hbal, hsl, hfi, rx1, ry1, lim, frz_mapI, frz_mapE, frz_mapS, tkI, tkE, tkC, ro_sl, ro_vl, ro_nils, rbI, rbE, hn3, fx, fy, cx1, cx2, cy1, cy2]; rfl) ?_)
    simp only [AEx.thn, AEx.blk]
    refine runs_cond (x := false) (by simp) ?_
    refine runs_skip ?_
    simp only [AEx.thn, AEx.blk]
    refine runs_seq ?_
    refine runs_seq ?_
    refine runs_reg (ops_run (by simp [lop, loud, callA, calleeA, callF_step h17, h17, callF_step h44, h44, callF_step h47, h47, callF_step h37, h37, callF_step h29, h29, oKn, hpg, hbal, hsl, hfi, rx1, ry1, lim, frz_mapI, frz_mapE, frz_mapS, tkI, tkE, tkC, ro_sl, ro_vl, ro_nils, rbI, rbE, hn3, fx, fy, cx1, cx2, cy1, cy2]; rfl) ?_)
    simp only [AEx.thn, AEx.blk]
    refine runs_block ?_
    refine runs_loop_inv (fun m σ => ∃ (k : Nat) (i : Int), i = k ∧ B.entries.length - k = m ∧ k ≤ B.entries.length ∧ σ = ⟨[.any, .any, .any, .ref 1 0 0, .any, .ref 2 0 0, .vl (B.closing.map rI) false, .any, .any, .any, .any, .any, .any, .vl (B.entries.map rS2) false, .any, I i, .any, .any, .any, .any, .any, .any, .any, .any, .any, .any, .any, .any, .any, .any, .any, .any, .any, .any, .any, .any, .any, .any, .any, .any, .any, .any, .any, .any, .any, .any, .any, .any, .any, .any, .any, .any, .any, .any, .any, .any, .any, .any, .any, .any, .any, .any, .any, .any, .any, .any, .any, .any, .any, .any, .any, .any, .any, .any, .any, .any, .any, .any, .any, .any, .any, .any, .any, .any, .any, .any, .any, .any, .any, .any, .any, .any, .any, .any, .any, .any, .any, .any, .any, .any, .any, .any, .any, .any, .any, .any, .any, .any, .any, .any, .any, .any, .any, .any, .any, .any, .any, .any, .any, .any, .any, .any, .any, .any, .any, .any, .any, .any, .any, .any, .any, .any, .any, .any, .any, .any, .any, .any, .any, .any, .any, .any, .any, .any, .any, .any, .any, .any, .any, .any, .any, .any, .any, .any, .any, .any, .any, .any, .any, .any, .any, .any, .any, .any, .any, .any, .any, .any], [some (.row 9 [[.int .u8 acc, .int .i16 o0, .int .i16 o1, .int .i16 o2, .int .i16 o3, .int .i16 o4, x, y, .int .u16 bl]]), some (.row 2 [[.int .u8 w0, .int .u8 w1]]), some (.row 3 [[.vl (B.opening.map rI) false, .vl (B.closing.map rI) false, .vl (B.entries.map rE) false]]), some (.row 3 [[.vl (B.opening.map rI) false, .vl (B.closing.map rI) false, .vl (B.entries.map rE) false]]), some (.row 3 [[.sl 19 0 B.opening.length false, .sl 20 0 B.closing.length false, .sl 21 0 B.entries.length false]]), some (.row 1 []), none, none, none, some (.row 1 []), none, none, none, some (.row 3 []), none, none, none, none, none, some (.row 1 (B.opening.map rI)), some (.row 1 (B.closing.map rI)), some (.row 3 (B.entries.map rE)), some (.row 3 [[.vl (B.opening.map rI) false, .vl (B.closing.map rI) false, .vl (B.entries.map rE) false]]), some (.row 3 [[.sl 38 0 B.opening.length false, .sl 39 0 B.closing.length false, .sl 40 0 B.entries.length false]]), some (.row 1 []), none, none, none, some (.row 1 []), none, none, none, some (.row 3 []), none, none, none, none, none, some (.row 1 (B.opening.map rI)), some (.row 1 (B.closing.map rI)), some (.row 3 (B.entries.map rE)), some (.row 3 [[.vl (B.opening.map rI) false, .vl (B.closing.map rI) false, .vl (B.entries.map rE) false]]), some (.row 3 [[.sl 57 0 B.opening.length false, .sl 58 0 B.closing.length false, .sl 59 0 B.entries.length false]]), some (.row 1 []), none, none, none, some (.row 1 []), none, none, none, some (.row 3 []), none, none, none, none, none, some (.row 1 (B.opening.map rI)), some (.row 1 (B.closing.map rI)), some (.row 3 (B.entries.map rE))]⟩) ?_ (B.entries.length - 0) _ ⟨0, 0, rfl, rfl, Nat.zero_le _, by simp⟩
    rintro m σ ⟨k, i, hik, rfl, hkl, rfl⟩
    refine runs_seq ?_
    refine runs_seq ?_
    refine runs_reg (ops_run (by simp [lop, loud, callA, calleeA, callF_step h17, h17, callF_step h44, h44, callF_step h47, h47, callF_step h37, h37, callF_step h29, h29, oKn, hpg, hbal, hsl, hfi, rx1, ry1, lim, frz_mapI, frz_mapE, frz_mapS, tkI, tkE, tkC, ro_sl, ro_vl, ro_nils, rbI, rbE, hn3, fx, fy, cx1, cx2, cy1, cy2]; rfl) ?_)
    simp only [AEx.thn, AEx.blk]
    refine runs_cond_split (x := decide (i < (B.entries.length : Int))) (by simp) (fun hlt => ?_) (fun hlt => ?_)
    · have hlt := of_decide_eq_true hlt
      have hk0 : k < B.entries.length := by omega
      have hi0 : 0 ≤ i := by omega
      have htn : i.toNat = k := by omega
      have hwi : W .i64 (i + 1) = i + 1 := W_small (by omega)
      generalize hV1 : B.entries[k] = V1 at *
      refine runs_skip ?_
      simp only [AEx.thn, AEx.blk]
      refine runs_seq ?_
      refine runs_block ?_
      refine runs_seq ?_
      refine runs_reg (ops_run (by simp [lop, loud, callA, calleeA, callF_step h17, h17, callF_step h44, h44, callF_step h47, h47, callF_step h37, h37, callF_step h29, h29, oKn, hpg, hbal, hsl, hfi, rx1, ry1, lim, frz_mapI, frz_mapE, frz_mapS, tkI, tkE, tkC, ro_sl, ro_vl, ro_nils, rbI, rbE, hn3, fx, fy, cx1, cx2, cy1, cy2, hi0, htn, hk0, hwi, hV1, rE, rS2, eq26n]; rfl) ?_)
      simp only [AEx.thn, AEx.blk]
      refine runs_seq ?_
      refine runs_reg (ops_run (by simp [lop, loud, callA, calleeA, callF_step h17, h17, callF_step h44, h44, callF_step h47, h47, callF_step h37, h37, callF_step h29, h29, oKn, hpg, hbal, hsl, hfi, rx1, ry1, lim, frz_mapI, frz_mapE, frz_mapS, tkI, tkE, tkC, ro_sl, ro_vl, ro_nils, rbI, rbE, hn3, fx, fy, cx1, cx2, cy1, cy2, hi0, htn, hk0, hwi, hV1, rE, rS2, eq26n]; rfl) ?_)
      simp only [AEx.thn, AEx.blk]
      refine runs_cond (x := false) (by simp) ?_
      refine runs_skip ?_
      simp only [AEx.thn, AEx.blk]
      refine runs_reg (ops_run (by simp [lop, loud, callA, calleeA, callF_step h17, h17, callF_step h44, h44, callF_step h47, h47, callF_step h37, h37, callF_step h29, h29, oKn, hpg, hbal, hsl, hfi, rx1, ry1, lim, frz_mapI, frz_mapE, frz_mapS, tkI, tkE, tkC, ro_sl, ro_vl, ro_nils, rbI, rbE, hn3, fx, fy, cx1, cx2, cy1, cy2, hi0, htn, hk0, hwi, hV1, rE, rS2, eq26n]; rfl) ?_)
      simp only [AEx.thn, AEx.blk]
      exact ⟨B.entries.length - (k + 1), by omega, k + 1, i + 1, by omega, rfl, by omega, st_eq (by simp) (trim_ok (by simp) (by simp [rbB_row, rbB_none, rx1, ry1, ↓rbI, ↓rbE]) (by simp))⟩
    · refine runs_exit ?_
      simp only [AEx.thn, AEx.blk, if_true, if_false, reduceIte, Nat.reduceEqDiff, Nat.succ_ne_zero, Nat.one_ne_zero, Nat.zero_ne_one]
      refine runs_seq ?_
      refine runs_reg (ops_take 1 (by simp [lop, loud, callA, calleeA, callF_step h17, h17, callF_step h44, h44, callF_step h47, h47, callF_step h37, h37, callF_step h29, h29, oKn, hpg, hbal, hsl, hfi, rx1, ry1, lim, frz_mapI, frz_mapE, frz_mapS, tkI, tkE, tkC, ro_sl, ro_vl, ro_nils, rbI, rbE, hn3, fx, fy, cx1, cx2, cy1, cy2]; rfl) ?_)
      simp only [List.drop_succ_cons, List.drop_zero]
      refine ops_call (f := 46) (args := [.agg [.vl (B.opening.map rI) false, .vl (B.closing.map rI) false, .vl (B.entries.map rE) false]]) (by simp) (by simp) (by simp [lop]) (by simp [calleeA]) ?_
      refine (a46_60n Try.prog T h46 _ _ _ _ _ _ _ _ _ _ _ _ _ _ _ _ _ _ _ _ _ _ _ _ _ _ _ _ _ _ _ _ _ _ _ _ _ _ _ _ _ _ _ _ _ _ _ _ _ _ _ _ _ _ _ _ _ _ _ _ (by first | exact eqb | simp [eqB, allB, ↓eqA_vlI, ↓eqA_vlE, ↓eq_rI, ↓eq_rE]) (by first | exact eqb | simp [eqB, allB, ↓eqA_vlI, ↓eqA_vlE, ↓eq_rI, ↓eq_rE]) (by first | exact eqb | simp [eqB, allB, ↓eqA_vlI, ↓eqA_vlE, ↓eq_rI, ↓eq_rE]) (by first | exact eqb | simp [eqB, allB, ↓eqA_vlI, ↓eqA_vlE, ↓eq_rI, ↓eq_rE]) (by first | exact eqb | simp [eqB, allB, ↓eqA_vlI, ↓eqA_vlE, ↓eq_rI, ↓eq_rE]) (by first | exact eqb | simp [eqB, allB, ↓eqA_vlI, ↓eqA_vlE, ↓eq_rI, ↓eq_rE]) (by first | exact eqb | simp [eqB, allB, ↓eqA_vlI, ↓eqA_vlE, ↓eq_rI, ↓eq_rE]) (by first | exact eqb | simp [eqB, allB, ↓eqA_vlI, ↓eqA_vlE, ↓eq_rI, ↓eq_rE]) (by first | exact eqb | simp [eqB, allB, ↓eqA_vlI, ↓eqA_vlE, ↓eq_rI, ↓eq_rE]) (by first | exact eqb | simp [eqB, allB, ↓eqA_vlI, ↓eqA_vlE, ↓eq_rI, ↓eq_rE]) (by first | exact eqb | simp [eqB, allB, ↓eqA_vlI, ↓eqA_vlE, ↓eq_rI, ↓eq_rE]) (by first | exact eqb | simp [eqB, allB, ↓eqA_vlI, ↓eqA_vlE, ↓eq_rI, ↓eq_rE]) (by first | exact eqb | simp [eqB, allB, ↓eqA_vlI, ↓eqA_vlE, ↓eq_rI, ↓eq_rE]) (by first | exact eqb | simp [eqB, allB, ↓eqA_vlI, ↓eqA_vlE, ↓eq_rI, ↓eq_rE]) (by first | exact eqb | simp [eqB, allB, ↓eqA_vlI, ↓eqA_vlE, ↓eq_rI, ↓eq_rE]) (by first | exact eqb | simp [eqB, allB, ↓eqA_vlI, ↓eqA_vlE, ↓eq_rI, ↓eq_rE]) (by first | exact eqb | simp [eqB, allB, ↓eqA_vlI, ↓eqA_vlE, ↓eq_rI, ↓eq_rE]) (by first | exact eqb | simp [eqB, allB, ↓eqA_vlI, ↓eqA_vlE, ↓eq_rI, ↓eq_rE]) (by first | exact eqb | simp [eqB, allB, ↓eqA_vlI, ↓eqA_vlE, ↓eq_rI, ↓eq_rE]) (by first | exact eqb | simp [eqB, allB, ↓eqA_vlI, ↓eqA_vlE, ↓eq_rI, ↓eq_rE]) (by first | exact eqb | simp [eqB, allB, ↓eqA_vlI, ↓eqA_vlE, ↓eq_rI, ↓eq_rE]) (by first | exact eqb | simp [eqB, allB, ↓eqA_vlI, ↓eqA_vlE, ↓eq_rI, ↓eq_rE]) (by first | exact eqb | simp [eqB, allB, ↓eqA_vlI, ↓eqA_vlE, ↓eq_rI, ↓eq_rE]) (by first | exact eqb | simp [eqB, allB, ↓eqA_vlI, ↓eqA_vlE, ↓eq_rI, ↓eq_rE]) (by first | exact eqb | simp [eqB, allB, ↓eqA_vlI, ↓eqA_vlE, ↓eq_rI, ↓eq_rE]) (by first | exact eqb | simp [eqB, allB, ↓eqA_vlI, ↓eqA_vlE, ↓eq_rI, ↓eq_rE]) (by first | exact eqb | simp [eqB, allB, ↓eqA_vlI, ↓eqA_vlE, ↓eq_rI, ↓eq_rE]) (by first | exact eqb | simp [eqB, allB, ↓eqA_vlI, ↓eqA_vlE, ↓eq_rI, ↓eq_rE]) (by first | exact eqb | simp [eqB, allB, ↓eqA_vlI, ↓eqA_vlE, ↓eq_rI, ↓eq_rE]) (by first | exact eqb | simp [eqB, allB, ↓eqA_vlI, ↓eqA_vlE, ↓eq_rI, ↓eq_rE]) (by first | exact eqb | simp [eqB, allB, ↓eqA_vlI, ↓eqA_vlE, ↓eq_rI, ↓eq_rE]) (by first | exact eqb | simp [eqB, allB, ↓eqA_vlI, ↓eqA_vlE, ↓eq_rI, ↓eq_rE]) (by first | exact eqb | simp [eqB, allB, ↓eqA_vlI, ↓eqA_vlE, ↓eq_rI, ↓eq_rE]) (by first | exact eqb | simp [eqB, allB, ↓eqA_vlI, ↓eqA_vlE, ↓eq_rI, ↓eq_rE]) (by first | exact eqb | simp [eqB, allB, ↓eqA_vlI, ↓eqA_vlE, ↓eq_rI, ↓eq_rE]) (by first | exact eqb | simp [eqB, allB, ↓eqA_vlI, ↓eqA_vlE, ↓eq_rI, ↓eq_rE]) (by first | exact eqb | simp [eqB, allB, ↓eqA_vlI, ↓eqA_vlE, ↓eq_rI, ↓eq_rE]) (by first | exact eqb | simp [eqB, allB, ↓eqA_vlI, ↓eqA_vlE, ↓eq_rI, ↓eq_rE]) (by first | exact eqb | simp [eqB, allB, ↓eqA_vlI, ↓eqA_vlE, ↓eq_rI, ↓eq_rE]) (by first | exact eqb | simp [eqB, allB, ↓eqA_vlI, ↓eqA_vlE, ↓eq_rI, ↓eq_rE]) (by first | exact eqb | simp [eqB, allB, ↓eqA_vlI, ↓eqA_vlE, ↓eq_rI, ↓eq_rE]) (by first | exact eqb | simp [eqB, allB, ↓eqA_vlI, ↓eqA_vlE, ↓eq_rI, ↓eq_rE]) (by first | exact eqb | simp [eqB, allB, ↓eqA_vlI, ↓eqA_vlE, ↓eq_rI, ↓eq_rE]) (by first | exact eqb | simp [eqB, allB, ↓eqA_vlI, ↓eqA_vlE, ↓eq_rI, ↓eq_rE]) (by first | exact eqb | simp [eqB, allB, ↓eqA_vlI, ↓eqA_vlE, ↓eq_rI, ↓eq_rE]) (by first | exact eqb | simp [eqB, allB, ↓eqA_vlI, ↓eqA_vlE, ↓eq_rI, ↓eq_rE]) (by first | exact eqb | simp [eqB, allB, ↓eqA_vlI, ↓eqA_vlE, ↓eq_rI, ↓eq_rE]) (by first | exact eqb | simp [eqB, allB, ↓eqA_vlI, ↓eqA_vlE, ↓eq_rI, ↓eq_rE]) (by first | exact eqb | simp [eqB, allB, ↓eqA_vlI, ↓eqA_vlE, ↓eq_rI, ↓eq_rE]) (by first | exact eqb | simp [eqB, allB, ↓eqA_vlI, ↓eqA_vlE, ↓eq_rI, ↓eq_rE]) (by first | exact eqb | simp [eqB, allB, ↓eqA_vlI, ↓eqA_vlE, ↓eq_rI, ↓eq_rE]) (by first | exact eqb | simp [eqB, allB, ↓eqA_vlI, ↓eqA_vlE, ↓eq_rI, ↓eq_rE]) (by first | exact eqb | simp [eqB, allB, ↓eqA_vlI, ↓eqA_vlE, ↓eq_rI, ↓eq_rE]) (by first | exact eqb | simp [eqB, allB, ↓eqA_vlI, ↓eqA_vlE, ↓eq_rI, ↓eq_rE]) (by first | exact eqb | simp [eqB, allB, ↓eqA_vlI, ↓eqA_vlE, ↓eq_rI, ↓eq_rE]) (by first | exact eqb | simp [eqB, allB, ↓eqA_vlI, ↓eqA_vlE, ↓eq_rI, ↓eq_rE]) (by first | exact eqb | simp [eqB, allB, ↓eqA_vlI, ↓eqA_vlE, ↓eq_rI, ↓eq_rE]) (by first | exact eqb | simp [eqB, allB, ↓eqA_vlI, ↓eqA_vlE, ↓eq_rI, ↓eq_rE]) (by first | exact eqb | simp [eqB, allB, ↓eqA_vlI, ↓eqA_vlE, ↓eq_rI, ↓eq_rE]) (by first | exact eqb | simp [eqB, allB, ↓eqA_vlI, ↓eqA_vlE, ↓eq_rI, ↓eq_rE]) B (.vl (B.opening.map rI) false) (.vl (B.closing.map rI) false) (.vl (B.entries.map rE) false) rfl rfl rfl hl hn1 hn2 hE hX).mono ?_
      rintro v h' ⟨rfl, rfl⟩
      refine ops_run (by simp [lop, loud, callA, calleeA, callF_step h17, h17, callF_step h44, h44, callF_step h47, h47, callF_step h37, h37, callF_step h29, h29, oKn, hpg, hbal, hsl, hfi, rx1, ry1, lim, frz_mapI, frz_mapE, frz_mapS, tkI, tkE, tkC, ro_sl, ro_vl, ro_nils, rbI, rbE, hn3, fx, fy, cx1, cx2, cy1, cy2]; rfl) ?_
      simp only [AEx.thn, AEx.blk]
      generalize hJ : w0.tmod (B.closing.length : Int) = J at *
      have hJ0 : 0 ≤ J := by omega
      have hJ1 : J < (B.closing.length : Int) := by omega
      have hjl : J.toNat < B.closing.length := by omega
      have hVb := hc _ (List.getElem_mem hjl)
      have hgd : B.closing.getD J.toNat 0 = B.closing[J.toNat] := by rw [List.getD_eq_getElem?_getD, List.getElem?_eq_getElem hjl]; rfl
      generalize hV : B.closing[J.toNat] = V at *
      rw [hgd] at hcp hfi2 hsl2
      have ww0 : W .i64 w0 = w0 := W_fit (by omega)
      have ww1 : W .i64 w1 = w1 := W_fit (by omega)
      have wd : W .i64 (1 + w1) = 1 + w1 := W_fit (by omega)
      have wv : W .i64 (V + (1 + w1)) = V + (1 + w1) := W_fit (by omega)
      have e0 : (B.closing.map rI).set J.toNat [I (V + (1 + w1))] = (B.closing.set J.toNat (V + (1 + w1))).map rI := by rw [List.map_set]; rfl
      have hcl : (B.closing.set J.toNat (V + (1 + w1))).length = B.closing.length := List.length_set
      generalize hC : B.closing.set J.toNat (V + (1 + w1)) = C at *
      have tkC2 := tk_rI C
      rw [hcl] at tkC2
      refine runs_seq ?_
      have hF : True := trivial
      refine runs_drw (by simp (maxSteps := 3000000) [lop, loud, callA, calleeA, callF_step h17, h17, callF_step h44, h44, callF_step h47, h47, callF_step h37, h37, callF_step h29, h29, oKn, hpg, hbal, hsl, hfi, rx1, ry1, lim, frz_mapI, frz_mapE, frz_mapS, tkI, tkE, tkC, ro_sl, ro_vl, ro_nils, rbI, rbE, hn3, fx, fy, cx1, cx2, cy1, cy2, hJ, hJ0, hJ1, hjl, hV, ww0, ww1, wd, wv, rIe, hcl, e0, tkC2, hn2, callF_step h46, h46, hcp, hfi2, hsl2]; rfl) ?_
      simp only [AEx.thn, AEx.blk]
      refine runs_seq ?_
      refine runs_reg (ops_run (by simp [lop, loud, callA, calleeA, callF_step h17, h17, callF_step h44, h44, callF_step h47, h47, callF_step h37, h37, callF_step h29, h29, oKn, hpg, hbal, hsl, hfi, rx1, ry1, lim, frz_mapI, frz_mapE, frz_mapS, tkI, tkE, tkC, ro_sl, ro_vl, ro_nils, rbI, rbE, hn3, fx, fy, cx1, cx2, cy1, cy2, hJ, hJ0, hJ1, hjl, hV, ww0, ww1, wd, wv, rIe, hcl, e0, tkC2, hn2, callF_step h46, h46, hcp, hfi2, hsl2]; rfl) ?_)
      simp only [AEx.thn, AEx.blk]
      refine runs_seq ?_
      refine runs_reg (ops_run (by simp [lop, loud, callA, calleeA, callF_step h17, h17, callF_step h44, h44, callF_step h47, h47, callF_step h37, h37, callF_step h29, h29, oKn, hpg, hbal, hsl, hfi, rx1, ry1, lim, frz_mapI, frz_mapE, frz_mapS, tkI, tkE, tkC, ro_sl, ro_vl, ro_nils, rbI, rbE, hn3, fx, fy, cx1, cx2, cy1, cy2, hJ, hJ0, hJ1, hjl, hV, ww0, ww1, wd, wv, rIe, hcl, e0, tkC2, hn2, callF_step h46, h46, hcp, hfi2, hsl2]; rfl) ?_)
      simp only [AEx.thn, AEx.blk]
      refine runs_seq ?_
      refine runs_reg (ops_run (by simp [lop, loud, callA, calleeA, callF_step h17, h17, callF_step h44, h44, callF_step h47, h47, callF_step h37, h37, callF_step h29, h29, oKn, hpg, hbal, hsl, hfi, rx1, ry1, lim, frz_mapI, frz_mapE, frz_mapS, tkI, tkE, tkC, ro_sl, ro_vl, ro_nils, rbI, rbE, hn3, fx, fy, cx1, cx2, cy1, cy2, hJ, hJ0, hJ1, hjl, hV, ww0, ww1, wd, wv, rIe, hcl, e0, tkC2, hn2, callF_step h46, h46, hcp, hfi2, hsl2]; rfl) ?_)
      simp only [AEx.thn, AEx.blk]
      refine runs_ret ?_
      simp [lop, loud, callA, calleeA, callF_step h17, h17, callF_step h44, h44, callF_step h47, h47, callF_step h37, h37, callF_step h29, h29, oKn, hpg, hbal, hsl, hfi, rx1, ry1, lim, frz_mapI, frz_mapE, frz_mapS, tkI, tkE, tkC, ro_sl, ro_vl, ro_nils, rbI, rbE, hn3, fx, fy, cx1, cx2, cy1, cy2, hJ, hJ0, hJ1, hjl, hV, ww0, ww1, wd, wv, rIe, hcl, e0, tkC2, hn2, callF_step h46, h46, hcp, hfi2, hsl2]
theorem a11e (T : Nat → Option CFn) (hT : T 11 = some c11) (h46 : T 46 = some { c46 with frsh := true, orc := oCopX }) (h17 : T 17 = some { c17 with frsh := true, orc := oKn }) (h44 : T 44 = some { c44 with body := annK [(62, [.cell 3 0]), (94, [.cell 3 2])] [] c44.body, frsh := true, orc := oPages }) (h47 : T 47 = some { c47 with frsh := true, orc := oBalT }) (h37 : T 37 = some { c37 with frsh := true, orc := oSlips0 }) (h29 : T 29 = some { c29 with body := annK [(3940649673949476, [.slot 2])] [] c29.body, frsh := true, orc := oFill0 })
    (acc o0 o1 o2 o3 o4 bl w0 w1 : Int) (x y : AVal) (rx ry : List (List AVal)) (hx : rowsV x = some rx) (hy : rowsV y = some ry) (eqb : eqB (some (.row 9 [[.int .u8 acc, .int .i16 o0, .int .i16 o1, .int .i16 o2, .int .i16 o3, .int .i16 o4, x, y, .int .u16 bl]])) (some (.row 9 [[.int .u8 acc, .int .i16 o0, .int .i16 o1, .int .i16 o2, .int .i16 o3, .int .i16 o4, x, y, .int .u16 bl]])) = true) (hw : (0 ≤ w0 ∧ w0 ≤ 255) ∧ (0 ≤ w1 ∧ w1 ≤ 255)) (B : PB)
    (hpg : oPages [.agg [.int .u8 acc, .int .i16 o0, .int .i16 o1, .int .i16 o2, .int .i16 o3, .int .i16 o4, x, y, .int .u16 bl]] = some (.agg [.vl (B.opening.map rI) false, .vl (B.closing.map rI) false, .nils])) (hl : B.opening.length ≤ 1000 ∧ B.closing.length ≤ 1000 ∧ B.entries.length ≤ 1000) (hn1 : B.opening ≠ []) (hn2 : B.closing ≠ []) (hn3 : B.opening.length ≤ 5) (hE : B.entries = []) (hln : B.opening.length = B.closing.length)
    (ho : ∀ o ∈ B.opening, -40000 ≤ o ∧ o ≤ 40000) (hc : ∀ o ∈ B.closing, -20000000 ≤ o ∧ o ≤ 20000000) (hsum : B.opening.sum = B.closing.sum) (hJJ : 0 ≤ w0.tmod (B.closing.length : Int) ∧ w0.tmod (B.closing.length : Int) < (B.closing.length : Int))
    (hX : oCopX [.agg [.vl (B.opening.map rI) false, .vl (B.closing.map rI) false, .nils]] = none) (hbal : oBalT [.agg [.vl (B.opening.map rI) false, .vl (B.closing.map rI) false, .vl [] true]] = some (.tup [.vl (B.closing.map rI) false, I 0])) (hsl : oSlips0 [.agg [.vl (B.opening.map rI) false, .vl (B.closing.map rI) false, .vl [] true]] = some (.tup [.nils, I 6])) (hfi : oFill0 [.agg [.vl (B.opening.map rI) false, .vl (B.closing.map rI) false, .vl [] true]] = some (.tup [.nils, I 0]))
    (hcp : oCopX [.agg [.vl (B.opening.map rI) false, .vl ((B.closing.set (w0.tmod (B.closing.length : Int)).toNat (B.closing.getD (w0.tmod (B.closing.length : Int)).toNat 0 + (1 + w1))).map rI) false, .vl [] true]] = some (.agg [.vl (B.opening.map rI) false, .vl ((B.closing.set (w0.tmod (B.closing.length : Int)).toNat (B.closing.getD (w0.tmod (B.closing.length : Int)).toNat 0 + (1 + w1))).map rI) false, .vl [] true])) (hfi2 : oFill0 [.agg [.vl (B.opening.map rI) false, .vl ((B.closing.set (w0.tmod (B.closing.length : Int)).toNat (B.closing.getD (w0.tmod (B.closing.length : Int)).toNat 0 + (1 + w1))).map rI) false, .vl [] true]] = some (.tup [.nils, I 9])) (hsl2 : oSlips0 [.agg [.vl (B.opening.map rI) false, .vl ((B.closing.set (w0.tmod (B.closing.length : Int)).toNat (B.closing.getD (w0.tmod (B.closing.length : Int)).toNat 0 + (1 + w1))).map rI) false, .vl [] true]] = some (.tup [.nils, I 7]))
    : Answers Try.prog T 11 [.agg [.int .u8 acc, .int .i16 o0, .int .i16 o1, .int .i16 o2, .int .i16 o3, .int .i16 o4, x, y, .int .u16 bl], .agg [.int .u8 w0, .int .u8 w1]] [] fun v _ => v = .bool true := by
  have rx1 := fun n d => rowsV_rb hx n d
  have ry1 := fun n d => rowsV_rb hy n d
  have tkI := tk_rI B.opening
  have tkC := tk_rI B.closing
  have tkE := tk_rE B.entries
  have fx := fun H d => rowsV_frz hx H d
  have fy := fun H d => rowsV_frz hy H d
  obtain ⟨cx1, cx2⟩ := rowsV_cells hx
  obtain ⟨cy1, cy2⟩ := rowsV_cells hy
  refine answers_of hT (orcF_none rfl) ?_
  simp only [c11]
  refine runs_seq ?_
  refine runs_reg (ops_run (by simp [lop, loud, callA, calleeA, callF_step h17, h17, callF_step h44, h44, callF_step h47, h47, callF_step h37, h37, callF_step h29, h29, oKn, hpg, hbal, hsl, hfi, rx1, ry1, lim, frz_mapI, frz_mapE, frz_mapS, tkI, tkE, tkC, ro_sl, ro_vl, ro_nils, rbI, rbE, hn3, fx, fy, cx1, cx2, cy1, cy2]; rfl) ?_)
  simp only [AEx.thn, AEx.blk]
  refine runs_seq ?_
  refine runs_reg (ops_run (by simp [lop, loud, callA, calleeA, callF_step h17, h17, callF_step h44, h44, callF_step h47, h47, callF_step h37, h37, callF_step h29, h29, oKn, hpg, hbal, hsl, hfi, rx1, ry1, lim, frz_mapI, frz_mapE, frz_mapS, tkI, tkE, tkC, ro_sl, ro_vl, ro_nils, rbI, rbE, hn3, fx, fy, cx1, cx2, cy1, cy2]; rfl) ?_)
  simp only [AEx.thn, AEx.blk]
  refine runs_seq ?_
  refine runs_reg (ops_take 1 (by simp [lop, loud, callA, calleeA, callF_step h17, h17, callF_step h44, h44, callF_step h47, h47, callF_step h37, h37, callF_step h29, h29, oKn, hpg, hbal, hsl, hfi, rx1, ry1, lim, frz_mapI, frz_mapE, frz_mapS, tkI, tkE, tkC, ro_sl, ro_vl, ro_nils, rbI, rbE, hn3, fx, fy, cx1, cx2, cy1, cy2]; rfl) ?_)
  simp only [List.drop_succ_cons, List.drop_zero]
  refine ops_call (f := 46) (args := [.agg [.vl (B.opening.map rI) false, .vl (B.closing.map rI) false, .nils]]) (by simp) (by simp) (by simp [lop]) (by simp [calleeA]) ?_
  refine (a46_3e Try.prog T h46 _ _ _ (by first | exact eqb | simp [eqB, allB, ↓eqA_vlI, ↓eqA_vlE, ↓eq_rI, ↓eq_rE]) (by first | exact eqb | simp [eqB, allB, ↓eqA_vlI, ↓eqA_vlE, ↓eq_rI, ↓eq_rE]) (by first | exact eqb | simp [eqB, allB, ↓eqA_vlI, ↓eqA_vlE, ↓eq_rI, ↓eq_rE]) B (.vl (B.opening.map rI) false) (.vl (B.closing.map rI) false) (.nils) rfl rfl (by rw [hE]; rfl) hl hn1 hn2 hE hX).mono ?_
  rintro v h' ⟨rfl, rfl⟩
  refine ops_run (by simp [lop, loud, callA, calleeA, callF_step h17, h17, callF_step h44, h44, callF_step h47, h47, callF_step h37, h37, callF_step h29, h29, oKn, hpg, hbal, hsl, hfi, rx1, ry1, lim, frz_mapI, frz_mapE, frz_mapS, tkI, tkE, tkC, ro_sl, ro_vl, ro_nils, rbI, rbE, hn3, fx, fy, cx1, cx2, cy1, cy2]; rfl) ?_
  simp only [AEx.thn, AEx.blk]
  refine runs_seq ?_
  refine runs_seq ?_
  refine runs_reg (ops_run (by simp [lop, loud, callA, calleeA, callF_step h17, h17, callF_step h44, h44, callF_step h47, h47, callF_step h37, h37, callF_step h29, h29, oKn, hpg, hbal, hsl, hfi, rx1, ry1, lim, frz_mapI, frz_mapE, frz_mapS, tkI, tkE, tkC, ro_sl, ro_vl, ro_nils, rbI, rbE, hn3, fx, fy, cx1, cx2, cy1, cy2]; rfl) ?_)
  simp only [AEx.thn, AEx.blk]
  refine runs_cond (x := false) (by simp [hln]) ?_
  refine runs_skip ?_
  simp only [AEx.thn, AEx.blk]
  refine runs_seq ?_
  refine runs_reg (ops_run (by simp [lop, loud, callA, calleeA, callF_step h17, h17, callF_step h44, h44, callF_step h47, h47, callF_step h37, h37, callF_step h29, h29, oKn, hpg, hbal, hsl, hfi, rx1, ry1, lim, frz_mapI, frz_mapE, frz_mapS, tkI, tkE, tkC, ro_sl, ro_vl, ro_nils, rbI, rbE, hn3, fx, fy, cx1, cx2, cy1, cy2]; rfl) ?_)
  simp only [AEx.thn, AEx.blk]
  refine runs_seq ?_
  refine runs_seq ?_
  refine runs_reg (ops_run (by simp [lop, loud, callA, calleeA, callF_step h17, h17, callF_step h44, h44, callF_step h47, h47, callF_step h37, h37, callF_step h29, h29, oKn, hpg, hbal, hsl, hfi, rx1, ry1, lim, frz_mapI, frz_mapE, frz_mapS, tkI, tkE, tkC, ro_sl, ro_vl, ro_nils, rbI, rbE, hn3, fx, fy, cx1, cx2, cy1, cy2]; rfl) ?_)
  simp only [AEx.thn, AEx.blk]
  refine runs_block ?_
  refine runs_loop_inv (fun m σ => ∃ (k : Nat) (i s1 s2 : Int), i = k ∧ B.closing.length - k = m ∧ k ≤ B.closing.length ∧ s1 = (B.opening.take k).sum ∧ s2 = (B.closing.take k).sum ∧ (-40000 * (k : Int) ≤ s1 ∧ s1 ≤ 40000 * (k : Int)) ∧ (-20000000 * (k : Int) ≤ s2 ∧ s2 ≤ 20000000 * (k : Int)) ∧ σ = ⟨[.any, .any, .any, .ref 1 0 0, .any, .ref 2 0 0, .vl (B.closing.map rI) false, .any, I s1, I s2, I i, .any, .any, .any, .any, .any, .any, .any, .any, .any, .any, .any, .any, .any, .any, .any, .any, .any, .any, .any, .any, .any, .any, .any, .any, .any, .any, .any, .any, .any, .any, .any, .any, .any, .any, .any, .any, .any, .any, .any, .any, .any, .any, .any, .any, .any, .any, .any, .any, .any, .any, .any, .any, .any, .any, .any, .any, .any, .any, .any, .any, .any, .any, .any, .any, .any, .any, .any, .any, .any, .any, .any, .any, .any, .any, .any, .any, .any, .any, .any, .any, .any, .any, .any, .any, .any, .any, .any, .any, .any, .any, .any, .any, .any, .any, .any, .any, .any, .any, .any, .any, .any, .any, .any, .any, .any, .any, .any, .any, .any, .any, .any, .any, .any, .any, .any, .any, .any, .any, .any, .any, .any, .any, .any, .any, .any, .any, .any, .any, .any, .any, .any, .any, .any, .any, .any, .any, .any, .any, .any, .any, .any, .any, .any, .any, .any, .any, .any, .any, .any, .any, .any, .any, .any, .any, .any, .any, .any], [some (.row 9 [[.int .u8 acc, .int .i16 o0, .int .i16 o1, .int .i16 o2, .int .i16 o3, .int .i16 o4, x, y, .int .u16 bl]]), some (.row 2 [[.int .u8 w0, .int .u8 w1]]), some (.row 3 [[.vl (B.opening.map rI) false, .vl (B.closing.map rI) false, .nils]]), some (.row 3 [[.vl (B.opening.map rI) false, .vl (B.closing.map rI) false, .nils]]), some (.row 3 [[.sl 19 0 B.opening.length false, .sl 20 0 B.closing.length false, .sl 13 0 0 true]]), some (.row 1 []), none, none, none, some (.row 1 []), none, none, none, some (.row 3 []), none, none, none, none, none, some (.row 1 (B.opening.map rI)), some (.row 1 (B.closing.map rI))]⟩) ?_ (B.closing.length - 0) _ ⟨0, 0, 0, 0, rfl, rfl, Nat.zero_le _, rfl, rfl, by omega, by omega, by simp⟩
  rintro m σ ⟨k, i, s1, s2, hik, rfl, hkl, hs1, hs2, hb1, hb2, rfl⟩
  refine runs_seq ?_
  refine runs_seq ?_
  refine runs_reg (ops_run (by simp [lop, loud, callA, calleeA, callF_step h17, h17, callF_step h44, h44, callF_step h47, h47, callF_step h37, h37, callF_step h29, h29, oKn, hpg, hbal, hsl, hfi, rx1, ry1, lim, frz_mapI, frz_mapE, frz_mapS, tkI, tkE, tkC, ro_sl, ro_vl, ro_nils, rbI, rbE, hn3, fx, fy, cx1, cx2, cy1, cy2]; rfl) ?_)
  simp only [AEx.thn, AEx.blk]
  refine runs_cond_split (x := decide (i < (B.closing.length : Int))) (by simp) (fun hlt => ?_) (fun hlt => ?_)
  · have hlt := of_decide_eq_true hlt
    have hk1 : k < B.closing.length := by omega
    have hk0 : k < B.opening.length := by omega
    have hi0 : 0 ≤ i := by omega
    have htn : i.toNat = k := by omega
    have hwi : W .i64 (i + 1) = i + 1 := W_small (by omega)
    have hoo := ho _ (List.getElem_mem hk0)
    have hcc := hc _ (List.getElem_mem hk1)
    have t1 := sum_take B.opening k hk0
    have t2 := sum_take B.closing k hk1
    generalize hV1 : B.opening[k] = V1 at *
    generalize hV2 : B.closing[k] = V2 at *
    have wf : W .i64 (s1 + V1) = s1 + V1 := W_fit (by omega)
    have wl : W .i64 (s2 + V2) = s2 + V2 := W_fit (by omega)
    refine runs_skip ?_
    simp only [AEx.thn, AEx.blk]
    refine runs_seq ?_
    refine runs_block ?_
    refine runs_seq ?_
    refine runs_drw (by simp (maxSteps := 3000000) [lop, loud, callA, calleeA, callF_step h17, h17, callF_step h44, h44, callF_step h47, h47, callF_step h37, h37, callF_step h29, h29, oKn, hpg, hbal, hsl, hfi, rx1, ry1, lim, frz_mapI, frz_mapE, frz_mapS, tkI, tkE, tkC, ro_sl, ro_vl, ro_nils, rbI, rbE, hn3, fx, fy, cx1, cx2, cy1, cy2, hi0, htn, hk0, hk1, hwi, hV1, hV2, wf, wl, rI]; rfl) ?_
    simp only [AEx.thn, AEx.blk]
    refine runs_seq ?_
    refine runs_drw (by simp (maxSteps := 3000000) [lop, loud, callA, calleeA, callF_step h17, h17, callF_step h44, h44, callF_step h47, h47, callF_step h37, h37, callF_step h29, h29, oKn, hpg, hbal, hsl, hfi, rx1, ry1, lim, frz_mapI, frz_mapE, frz_mapS, tkI, tkE, tkC, ro_sl, ro_vl, ro_nils, rbI, rbE, hn3, fx, fy, cx1, cx2, cy1, cy2, hi0, htn, hk0, hk1, hwi, hV1, hV2, wf, wl, rI]; rfl) ?_
    simp only [AEx.thn, AEx.blk]
    refine runs_cond (x := false) (by simp) ?_
    refine runs_skip ?_
    simp only [AEx.thn, AEx.blk]
    refine runs_reg (ops_run (by simp [lop, loud, callA, calleeA, callF_step h17, h17, callF_step h44, h44, callF_step h47, h47, callF_step h37, h37, callF_step h29, h29, oKn, hpg, hbal, hsl, hfi, rx1, ry1, lim, frz_mapI, frz_mapE, frz_mapS, tkI, tkE, tkC, ro_sl, ro_vl, ro_nils, rbI, rbE, hn3, fx, fy, cx1, cx2, cy1, cy2, hi0, htn, hk0, hk1, hwi, hV1, hV2, wf, wl, rI]; rfl) ?_)
    simp only [AEx.thn, AEx.blk]
    exact ⟨B.closing.length - (k + 1), by omega, k + 1, i + 1, s1 + V1, s2 + V2, by omega, rfl, by omega, by omega, by omega, by omega, by omega, st_eq (by simp) (trim_ok (by simp) (by simp [rbB_row, rbB_none, rx1, ry1, ↓rbI, ↓rbE]) (by simp))⟩
  · have hlt := of_decide_eq_false hlt
    obtain rfl : k = B.closing.length := by omega
    rw [List.take_length] at hs2
    rw [← hln, List.take_length] at hs1
    obtain rfl : s1 = s2 := by omega
    refine runs_exit ?_
    simp only [AEx.thn, AEx.blk, if_true, if_false, reduceIte, Nat.reduceEqDiff, Nat.succ_ne_zero, Nat.one_ne_zero, Nat.zero_ne_one]
    refine runs_seq ?_
    refine runs_reg (ops_take 1 (by simp [lop, loud, callA, calleeA, callF_step h17, h17, callF_step h44, h44, callF_step h47, h47, callF_step h37, h37, callF_step h29, h29, oKn, hpg, hbal, hsl, hfi, rx1, ry1, lim, frz_mapI, frz_mapE, frz_mapS, tkI, tkE, tkC, ro_sl, ro_vl, ro_nils, rbI, rbE, hn3, fx, fy, cx1, cx2, cy1, cy2]; rfl) ?_)
    simp only [List.drop_succ_cons, List.drop_zero]
    refine ops_call (f := 46) (args := [.agg [.vl (B.opening.map rI) false, .vl (B.closing.map rI) false, .nils]]) (by simp) (by simp) (by simp [lop]) (by simp [calleeA]) ?_
    refine (a46_21e Try.prog T h46 _ _ _ _ _ _ _ _ _ _ _ _ _ _ _ _ _ _ _ _ _ (by first | exact eqb | simp [eqB, allB, ↓eqA_vlI, ↓eqA_vlE, ↓eq_rI, ↓eq_rE]) (by first | exact eqb | simp [eqB, allB, ↓eqA_vlI, ↓eqA_vlE, ↓eq_rI, ↓eq_rE]) (by first | exact eqb | simp [eqB, allB, ↓eqA_vlI, ↓eqA_vlE, ↓eq_rI, ↓eq_rE]) (by first | exact eqb | simp [eqB, allB, ↓eqA_vlI, ↓eqA_vlE, ↓eq_rI, ↓eq_rE]) (by first | exact eqb | simp [eqB, allB, ↓eqA_vlI, ↓eqA_vlE, ↓eq_rI, ↓eq_rE]) (by first | exact eqb | simp [eqB, allB, ↓eqA_vlI, ↓eqA_vlE, ↓eq_rI, ↓eq_rE]) (by first | exact eqb | simp [eqB, allB, ↓eqA_vlI, ↓eqA_vlE, ↓eq_rI, ↓eq_rE]) (by first | exact eqb | simp [eqB, allB, ↓eqA_vlI, ↓eqA_vlE, ↓eq_rI, ↓eq_rE]) (by first | exact eqb | simp [eqB, allB, ↓eqA_vlI, ↓eqA_vlE, ↓eq_rI, ↓eq_rE]) (by first | exact eqb | simp [eqB, allB, ↓eqA_vlI, ↓eqA_vlE, ↓eq_rI, ↓eq_rE]) (by first | exact eqb | simp [eqB, allB, ↓eqA_vlI, ↓eqA_vlE, ↓eq_rI, ↓eq_rE]) (by first | exact eqb | simp [eqB, allB, ↓eqA_vlI, ↓eqA_vlE, ↓eq_rI, ↓eq_rE]) (by first | exact eqb | simp [eqB, allB, ↓eqA_vlI, ↓eqA_vlE, ↓eq_rI, ↓eq_rE]) (by first | exact eqb | simp [eqB, allB, ↓eqA_vlI, ↓eqA_vlE, ↓eq_rI, ↓eq_rE]) (by first | exact eqb | simp [eqB, allB, ↓eqA_vlI, ↓eqA_vlE, ↓eq_rI, ↓eq_rE]) (by first | exact eqb | simp [eqB, allB, ↓eqA_vlI, ↓eqA_vlE, ↓eq_rI, ↓eq_rE]) (by first | exact eqb | simp [eqB, allB, ↓eqA_vlI, ↓eqA_vlE, ↓eq_rI, ↓eq_rE]) (by first | exact eqb | simp [eqB, allB, ↓eqA_vlI, ↓eqA_vlE, ↓eq_rI, ↓eq_rE]) (by first | exact eqb | simp [eqB, allB, ↓eqA_vlI, ↓eqA_vlE, ↓eq_rI, ↓eq_rE]) (by first | exact eqb | simp [eqB, allB, ↓eqA_vlI, ↓eqA_vlE, ↓eq_rI, ↓eq_rE]) (by first | exact eqb | simp [eqB, allB, ↓eqA_vlI, ↓eqA_vlE, ↓eq_rI, ↓eq_rE]) B (.vl (B.opening.map rI) false) (.vl (B.closing.map rI) false) (.nils) rfl rfl (by rw [hE]; rfl) hl hn1 hn2 hE hX).mono ?_
    rintro v h' ⟨rfl, rfl⟩
    refine ops_run (by simp [lop, loud, callA, calleeA, callF_step h17, h17, callF_step h44, h44, callF_step h47, h47, callF_step h37, h37, callF_step h29, h29, oKn, hpg, hbal, hsl, hfi, rx1, ry1, lim, frz_mapI, frz_mapE, frz_mapS, tkI, tkE, tkC, ro_sl, ro_vl, ro_nils, rbI, rbE, hn3, fx, fy, cx1, cx2, cy1, cy2]; rfl) ?_
    simp only [AEx.thn, AEx.blk]
    refine runs_seq ?_
    refine runs_reg (ops_take 1 (by simp [lop, loud, callA, calleeA, callF_step h17, h17, callF_step h44, h44, callF_step h47, h47, callF_step h37, h37, callF_step h29, h29, oKn, hpg, hbal, hsl, hfi, rx1, ry1, lim, frz_mapI, frz_mapE, frz_mapS, tkI, tkE, tkC, ro_sl, ro_vl, ro_nils, rbI, rbE, hn3, fx, fy, cx1, cx2, cy1, cy2]; rfl) ?_)
    simp only [List.drop_succ_cons, List.drop_zero]
    refine ops_call (f := 46) (args := [.agg [.vl (B.opening.map rI) false, .vl (B.closing.map rI) false, .nils]]) (by simp) (by simp) (by simp [lop]) (by simp [calleeA]) ?_
    refine (a46_39e Try.prog T h46 _ _ _ _ _ _ _ _ _ _ _ _ _ _ _ _ _ _ _ _ _ _ _ _ _ _ _ _ _ _ _ _ _ _ _ _ _ _ _ (by first | exact eqb | simp [eqB, allB, ↓eqA_vlI, ↓eqA_vlE, ↓eq_rI, ↓eq_rE]) (by first | exact eqb | simp [eqB, allB, ↓eqA_vlI, ↓eqA_vlE, ↓eq_rI, ↓eq_rE]) (by first | exact eqb | simp [eqB, allB, ↓eqA_vlI, ↓eqA_vlE, ↓eq_rI, ↓eq_rE]) (by first | exact eqb | simp [eqB, allB, ↓eqA_vlI, ↓eqA_vlE, ↓eq_rI, ↓eq_rE]) (by first | exact eqb | simp [eqB, allB, ↓eqA_vlI, ↓eqA_vlE, ↓eq_rI, ↓eq_rE]) (by first | exact eqb | simp [eqB, allB, ↓eqA_vlI, ↓eqA_vlE, ↓eq_rI, ↓eq_rE]) (by first | exact eqb | simp [eqB, allB, ↓eqA_vlI, ↓eqA_vlE, ↓eq_rI, ↓eq_rE]) (by first | exact eqb | simp [eqB, allB, ↓eqA_vlI, ↓eqA_vlE, ↓eq_rI, ↓eq_rE]) (by first | exact eqb | simp [eqB, allB, ↓eqA_vlI, ↓eqA_vlE, ↓eq_rI, ↓eq_rE]) (by first | exact eqb | simp [eqB, allB, ↓eqA_vlI, ↓eqA_vlE, ↓eq_rI, ↓eq_rE]) (by first | exact eqb | simp [eqB, allB, ↓eqA_vlI, ↓eqA_vlE, ↓eq_rI, ↓eq_rE]) (by first | exact eqb | simp [eqB, allB, ↓eqA_vlI, ↓eqA_vlE, ↓eq_rI, ↓eq_rE]) (by first | exact eqb | simp [eqB, allB, ↓eqA_vlI, ↓eqA_vlE, ↓eq_rI, ↓eq_rE]) (by first | exact eqb | simp [eqB, allB, ↓eqA_vlI, ↓eqA_vlE, ↓eq_rI, ↓eq_rE]) (by first | exact eqb | simp [eqB, allB, ↓eqA_vlI, ↓eqA_vlE, ↓eq_rI, ↓eq_rE]) (by first | exact eqb | simp [eqB, allB, ↓eqA_vlI, ↓eqA_vlE, ↓eq_rI, ↓eq_rE]) (by first | exact eqb | simp [eqB, allB, ↓eqA_vlI, ↓eqA_vlE, ↓eq_rI, ↓eq_rE]) (by first | exact eqb | simp [eqB, allB, ↓eqA_vlI, ↓eqA_vlE, ↓eq_rI, ↓eq_rE]) (by first | exact eqb | simp [eqB, allB, ↓eqA_vlI, ↓eqA_vlE, ↓eq_rI, ↓eq_rE]) (by first | exact eqb | simp [eqB, allB, ↓eqA_vlI, ↓eqA_vlE, ↓eq_rI, ↓eq_rE]) (by first | exact eqb | simp [eqB, allB, ↓eqA_vlI, ↓eqA_vlE, ↓eq_rI, ↓eq_rE]) (by first | exact eqb | simp [eqB, allB, ↓eqA_vlI, ↓eqA_vlE, ↓eq_rI, ↓eq_rE]) (by first | exact eqb | simp [eqB, allB, ↓eqA_vlI, ↓eqA_vlE, ↓eq_rI, ↓eq_rE]) (by first | exact eqb | simp [eqB, allB, ↓eqA_vlI, ↓eqA_vlE, ↓eq_rI, ↓eq_rE]) (by first | exact eqb | simp [eqB, allB, ↓eqA_vlI, ↓eqA_vlE, ↓eq_rI, ↓eq_rE]) (by first | exact eqb | simp [eqB, allB, ↓eqA_vlI, ↓eqA_vlE, ↓eq_rI, ↓eq_rE]) (by first | exact eqb | simp [eqB, allB, ↓eqA_vlI, ↓eqA_vlE, ↓eq_rI, ↓eq_rE]) (by first | exact eqb | simp [eqB, allB, ↓eqA_vlI, ↓eqA_vlE, ↓eq_rI, ↓eq_rE]) (by first | exact eqb | simp [eqB, allB, ↓eqA_vlI, ↓eqA_vlE, ↓eq_rI, ↓eq_rE]) (by first | exact eqb | simp [eqB, allB, ↓eqA_vlI, ↓eqA_vlE, ↓eq_rI, ↓eq_rE]) (by first | exact eqb | simp [eqB, allB, ↓eqA_vlI, ↓eqA_vlE, ↓eq_rI, ↓eq_rE]) (by first | exact eqb | simp [eqB, allB, ↓eqA_vlI, ↓eqA_vlE, ↓eq_rI, ↓eq_rE]) (by first | exact eqb | simp [eqB, allB, ↓eqA_vlI, ↓eqA_vlE, ↓eq_rI, ↓eq_rE]) (by first | exact eqb | simp [eqB, allB, ↓eqA_vlI, ↓eqA_vlE, ↓eq_rI, ↓eq_rE]) (by first | exact eqb | simp [eqB, allB, ↓eqA_vlI, ↓eqA_vlE, ↓eq_rI, ↓eq_rE]) (by first | exact eqb | simp [eqB, allB, ↓eqA_vlI, ↓eqA_vlE, ↓eq_rI, ↓eq_rE]) (by first | exact eqb | simp [eqB, allB, ↓eqA_vlI, ↓eqA_vlE, ↓eq_rI, ↓eq_rE]) (by first | exact eqb | simp [eqB, allB, ↓eqA_vlI, ↓eqA_vlE, ↓eq_rI, ↓eq_rE]) (by first | exact eqb | simp [eqB, allB, ↓eqA_vlI, ↓eqA_vlE, ↓eq_rI, ↓eq_rE]) B (.vl (B.opening.map rI) false) (.vl (B.closing.map rI) false) (.nils) rfl rfl (by rw [hE]; rfl) hl hn1 hn2 hE hX).mono ?_
    rintro v h' ⟨rfl, rfl⟩
    refine ops_run (by simp [lop, loud, callA, calleeA, callF_step h17, h17, callF_step h44, h44, callF_step h47, h47, callF_step h37, h37, callF_step h29, h29, oKn, hpg, hbal, hsl, hfi, rx1, ry1, lim, frz_mapI, frz_mapE, frz_mapS, tkI, tkE, tkC, ro_sl, ro_vl, ro_nils, rbI, rbE, hn3, fx, fy, cx1, cx2, cy1, cy2]; rfl) ?_
    simp only [AEx.thn, AEx.blk]
    refine runs_seq ?_
    refine runs_seq ?_
    refine runs_reg (ops_run (by simp [lop, loud, callA, calleeA, callF_step h17, h17, callF_step h44, h44, callF_step h47, h47, callF_step h37, h37, callF_step h29, h29, oKn, hpg, hbal, hsl, hfi, rx1, ry1, lim, frz_mapI, frz_mapE, frz_mapS, tkI, tkE, tkC, ro_sl, ro_vl, ro_nils, rbI, rbE, hn3, fx, fy, cx1, cx2, cy1, cy2]; rfl) ?_)
    simp only [AEx.thn, AEx.blk]
    refine runs_cond (x := false) (by simp) ?_
    refine runs_skip ?_
    simp only [AEx.thn, AEx.blk]
    refine runs_seq ?_
    refine runs_seq ?_
    refine runs_reg (ops_run (by simp [lop, loud, callA, calleeA, callF_step h17, h17, callF_step h44, h44, callF_step h47, h47, callF_step h37, h37, callF_step h29, h29, oKn, hpg, hbal, hsl, hfi, rx1, ry1, lim, frz_mapI, frz_mapE, frz_mapS, tkI, tkE, tkC, ro_sl, ro_vl, ro_nils, rbI, rbE, hn3, fx, fy, cx1, cx2, cy1, cy2]; rfl) ?_)
    simp only [AEx.thn, AEx.blk]
    refine runs_block ?_
    refine runs_loop_inv (fun m σ => σ = ⟨[.any, .any, .any, .ref 1 0 0, .any, .ref 2 0 0, .vl (B.closing.map rI) false, .any, .any, .any, .any, .any, .any, .nils, .any, I 0, .any, .any, .any, .any, .any, .any, .any, .any, .any, .any, .any, .any, .any, .any, .any, .any, .any, .any, .any, .any, .any, .any, .any, .any, .any, .any, .any, .any, .any, .any, .any, .any, .any, .any, .any, .any, .any, .any, .any, .any, .any, .any, .any, .any, .any, .any, .any, .any, .any, .any, .any, .any, .any, .any, .any, .any, .any, .any, .any, .any, .any, .any, .any, .any, .any, .any, .any, .any, .any, .any, .any, .any, .any, .any, .any, .any, .any, .any, .any, .any, .any, .any, .any, .any, .any, .any, .any, .any, .any, .any, .any, .any, .any, .any, .any, .any, .any, .any, .any, .any, .any, .any, .any, .any, .any, .any, .any, .any, .any, .any, .any, .any, .any, .any, .any, .any, .any, .any, .any, .any, .any, .any, .any, .any, .any, .any, .any, .any, .any, .any, .any, .any, .any, .any, .any, .any, .any, .any, .any, .any, .any, .any, .any, .any, .any, .any, .any, .any, .any, .any, .any, .any], [some (.row 9 [[.int .u8 acc, .int .i16 o0, .int .i16 o1, .int .i16 o2, .int .i16 o3, .int .i16 o4, x, y, .int .u16 bl]]), some (.row 2 [[.int .u8 w0, .int .u8 w1]]), some (.row 3 [[.vl (B.opening.map rI) false, .vl (B.closing.map rI) false, .nils]]), some (.row 3 [[.vl (B.opening.map rI) false, .vl (B.closing.map rI) false, .nils]]), some (.row 3 [[.sl 19 0 B.opening.length false, .sl 20 0 B.closing.length false, .sl 13 0 0 true]]), some (.row 1 []), none, none, none, some (.row 1 []), none, none, none, some (.row 3 []), none, none, none, none, none, some (.row 1 (B.opening.map rI)), some (.row 1 (B.closing.map rI)), some (.row 3 [[.vl (B.opening.map rI) false, .vl (B.closing.map rI) false, .nils]]), some (.row 3 [[.sl 37 0 B.opening.length false, .sl 38 0 B.closing.length false, .sl 31 0 0 true]]), some (.row 1 []), none, none, none, some (.row 1 []), none, none, none, some (.row 3 []), none, none, none, none, none, some (.row 1 (B.opening.map rI)), some (.row 1 (B.closing.map rI)), some (.row 3 [[.vl (B.opening.map rI) false, .vl (B.closing.map rI) false, .nils]]), some (.row 3 [[.sl 55 0 B.opening.length false, .sl 56 0 B.closing.length false, .sl 49 0 0 true]]), some (.row 1 []), none, none, none, some (.row 1 []), none, none, none, some (.row 3 []), none, none, none, none, none, some (.row 1 (B.opening.map rI)), some (.row 1 (B.closing.map rI))]⟩) ?_ 0 _ (by simp)
    rintro m σ rfl
    refine runs_seq ?_
    refine runs_seq ?_
    refine runs_reg (ops_run (by simp [lop, loud, callA, calleeA, callF_step h17, h17, callF_step h44, h44, callF_step h47, h47, callF_step h37, h37, callF_step h29, h29, oKn, hpg, hbal, hsl, hfi, rx1, ry1, lim, frz_mapI, frz_mapE, frz_mapS, tkI, tkE, tkC, ro_sl, ro_vl, ro_nils, rbI, rbE, hn3, fx, fy, cx1, cx2, cy1, cy2]; rfl) ?_)
    simp only [AEx.thn, AEx.blk]
    refine runs_cond (x := false) (by simp) ?_
    refine runs_exit ?_
    simp only [AEx.thn, AEx.blk, if_true, if_false, reduceIte, Nat.reduceEqDiff, Nat.succ_ne_zero, Nat.one_ne_zero, Nat.zero_ne_one]
    refine runs_seq ?_
    refine runs_reg (ops_take 1 (by simp [lop, loud, callA, calleeA, callF_step h17, h17, callF_step h44, h44, callF_step h47, h47, callF_step h37, h37, callF_step h29, h29, oKn, hpg, hbal, hsl, hfi, rx1, ry1, lim, frz_mapI, frz_mapE, frz_mapS, tkI, tkE, tkC, ro_sl, ro_vl, ro_nils, rbI, rbE, hn3, fx, fy, cx1, cx2, cy1, cy2]; rfl) ?_)
    simp only [List.drop_succ_cons, List.drop_zero]
    refine ops_call (f := 46) (args := [.agg [.vl (B.opening.map rI) false, .vl (B.closing.map rI) false, .nils]]) (by simp) (by simp) (by simp [lop]) (by simp [calleeA]) ?_
    refine (a46_57e Try.prog T h46 _ _ _ _ _ _ _ _ _ _ _ _ _ _ _ _ _ _ _ _ _ _ _ _ _ _ _ _ _ _ _ _ _ _ _ _ _ _ _ _ _ _ _ _ _ _ _ _ _ _ _ _ _ _ _ _ _ (by first | exact eqb | simp [eqB, allB, ↓eqA_vlI, ↓eqA_vlE, ↓eq_rI, ↓eq_rE]) (by first | exact eqb | simp [eqB, allB, ↓eqA_vlI, ↓eqA_vlE, ↓eq_rI, ↓eq_rE]) (by first | exact eqb | simp [eqB, allB, ↓eqA_vlI, ↓eqA_vlE, ↓eq_rI, ↓eq_rE]) (by first | exact eqb | simp [eqB, allB, ↓eqA_vlI, ↓eqA_vlE, ↓eq_rI, ↓eq_rE]) (by first | exact eqb | simp [eqB, allB, ↓eqA_vlI, ↓eqA_vlE, ↓eq_rI, ↓eq_rE]) (by first | exact eqb | simp [eqB, allB, ↓eqA_vlI, ↓eqA_vlE, ↓eq_rI, ↓eq_rE]) (by first | exact eqb | simp [eqB, allB, ↓eqA_vlI, ↓eqA_vlE, ↓eq_rI, ↓eq_rE]) (by first | exact eqb | simp [eqB, allB, ↓eqA_vlI, ↓eqA_vlE, ↓eq_rI, ↓eq_rE]) (by first | exact eqb | simp [eqB, allB, ↓eqA_vlI, ↓eqA_vlE, ↓eq_rI, ↓eq_rE]) (by first | exact eqb | simp [eqB, allB, ↓eqA_vlI, ↓eqA_vlE, ↓eq_rI, ↓eq_rE]) (by first | exact eqb | simp [eqB, allB, ↓eqA_vlI, ↓eqA_vlE, ↓eq_rI, ↓eq_rE]) (by first | exact eqb | simp [eqB, allB, ↓eqA_vlI, ↓eqA_vlE, ↓eq_rI, ↓eq_rE]) (by first | exact eqb | simp [eqB, allB, ↓eqA_vlI, ↓eqA_vlE, ↓eq_rI, ↓eq_rE]) (by first | exact eqb | simp [eqB, allB, ↓eqA_vlI, ↓eqA_vlE, ↓eq_rI, ↓eq_rE]) (by first | exact eqb | simp [eqB, allB, ↓eqA_vlI, ↓eqA_vlE, ↓eq_rI, ↓eq_rE]) (by first | exact eqb | simp [eqB, allB, ↓eqA_vlI, ↓eqA_vlE, ↓eq_rI, ↓eq_rE]) (by first | exact eqb | simp [eqB, allB, ↓eqA_vlI, ↓eqA_vlE, ↓eq_rI, ↓eq_rE]) (by first | exact eqb | simp [eqB, allB, ↓eqA_vlI, ↓eqA_vlE, ↓eq_rI, ↓eq_rE]) (by first | exact eqb | simp [eqB, allB, ↓eqA_vlI, ↓eqA_vlE, ↓eq_rI, ↓eq_rE]) (by first | exact eqb | simp [eqB, allB, ↓eqA_vlI, ↓eqA_vlE, ↓eq_rI, ↓eq_rE]) (by first | exact eqb | simp [eqB, allB, ↓eqA_vlI, ↓eqA_vlE, ↓eq_rI, ↓eq_rE]) (by first | exact eqb | simp [eqB, allB, ↓eqA_vlI, ↓eqA_vlE, ↓eq_rI, ↓eq_rE]) (by first | exact eqb | simp [eqB, allB, ↓eqA_vlI, ↓eqA_vlE, ↓eq_rI, ↓eq_rE]) (by first | exact eqb | simp [eqB, allB, ↓eqA_vlI, ↓eqA_vlE, ↓eq_rI, ↓eq_rE]) (by first | exact eqb | simp [eqB, allB, ↓eqA_vlI, ↓eqA_vlE, ↓eq_rI, ↓eq_rE]) (by first | exact eqb | simp [eqB, allB, ↓eqA_vlI, ↓eqA_vlE, ↓eq_rI, ↓eq_rE]) (by first | exact eqb | simp [eqB, allB, ↓eqA_vlI, ↓eqA_vlE, ↓eq_rI, ↓eq_rE]) (by first | exact eqb | simp [eqB, allB, ↓eqA_vlI, ↓eqA_vlE, ↓eq_rI, ↓eq_rE]) (by first | exact eqb | simp [eqB, allB, ↓eqA_vlI, ↓eqA_vlE, ↓eq_rI, ↓eq_rE]) (by first | exact eqb | simp [eqB, allB, ↓eqA_vlI, ↓eqA_vlE, ↓eq_rI, ↓eq_rE]) (by first | exact eqb | simp [eqB, allB, ↓eqA_vlI, ↓eqA_vlE, ↓eq_rI, ↓eq_rE]) (by first | exact eqb | simp [eqB, allB, ↓eqA_vlI, ↓eqA_vlE, ↓eq_rI, ↓eq_rE]) (by first | exact eqb | simp [eqB, allB, ↓eqA_vlI, ↓eqA_vlE, ↓eq_rI, ↓eq_rE]) (by first | exact eqb | simp [eqB, allB, ↓eqA_vlI, ↓eqA_vlE, ↓eq_rI, ↓eq_rE]) (by first | exact eqb | simp [eqB, allB, ↓eqA_vlI, ↓eqA_vlE, ↓eq_rI, ↓eq_rE]) (by first | exact eqb | simp [eqB, allB, ↓eqA_vlI, ↓eqA_vlE, ↓eq_rI, ↓eq_rE]) (by first | exact eqb | simp [eqB, allB, ↓eqA_vlI, ↓eqA_vlE, ↓eq_rI, ↓eq_rE]) (by first | exact eqb | simp [eqB, allB, ↓eqA_vlI, ↓eqA_vlE, ↓eq_rI, ↓eq_rE]) (by first | exact eqb | simp [eqB, allB, ↓eqA_vlI, ↓eqA_vlE, ↓eq_rI, ↓eq_rE]) (by first | exact eqb | simp [eqB, allB, ↓eqA_vlI, ↓eqA_vlE, ↓eq_rI, ↓eq_rE]) (by first | exact eqb | simp [eqB, allB, ↓eqA_vlI, ↓eqA_vlE, ↓eq_rI, ↓eq_rE]) (by first | exact eqb | simp [eqB, allB, ↓eqA_vlI, ↓eqA_vlE, ↓eq_rI, ↓eq_rE]) (by first | exact eqb | simp [eqB, allB, ↓eqA_vlI, ↓eqA_vlE, ↓eq_rI, ↓eq_rE]) (by first | exact eqb | simp [eqB, allB, ↓eqA_vlI, ↓eqA_vlE, ↓eq_rI, ↓eq_rE]) (by first | exact eqb | simp [eqB, allB, ↓eqA_vlI, ↓eqA_vlE, ↓eq_rI, ↓eq_rE]) (by first | exact eqb | simp [eqB, allB, ↓eqA_vlI, ↓eqA_vlE, ↓eq_rI, ↓eq_rE]) (by first | exact eqb | simp [eqB, allB, ↓eqA_vlI, ↓eqA_vlE, ↓eq_rI, ↓eq_rE]) (by first | exact eqb | simp [eqB, allB, ↓eqA_vlI, ↓eqA_vlE, ↓eq_rI, ↓eq_rE]) (by first | exact eqb | simp [eqB, allB, ↓eqA_vlI, ↓eqA_vlE, ↓eq_rI, ↓eq_rE]) (by first | exact eqb | simp [eqB, allB, ↓eqA_vlI, ↓eqA_vlE, ↓eq_rI, ↓eq_rE]) (by first | exact eqb | simp [eqB, allB, ↓eqA_vlI, ↓eqA_vlE, ↓eq_rI, ↓eq_rE]) (by first | exact eqb | simp [eqB, allB, ↓eqA_vlI, ↓eqA_vlE, ↓eq_rI, ↓eq_rE]) (by first | exact eqb | simp [eqB, allB, ↓eqA_vlI, ↓eqA_vlE, ↓eq_rI, ↓eq_rE]) (by first | exact eqb | simp [eqB, allB, ↓eqA_vlI, ↓eqA_vlE, ↓eq_rI, ↓eq_rE]) (by first | exact eqb | simp [eqB, allB, ↓eqA_vlI, ↓eqA_vlE, ↓eq_rI, ↓eq_rE]) (by first | exact eqb | simp [eqB, allB, ↓eqA_vlI, ↓eqA_vlE, ↓eq_rI, ↓eq_rE]) (by first | exact eqb | simp [eqB, allB, ↓eqA_vlI, ↓eqA_vlE, ↓eq_rI, ↓eq_rE]) B (.vl (B.opening.map rI) false) (.vl (B.closing.map rI) false) (.nils) rfl rfl (by rw [hE]; rfl) hl hn1 hn2 hE hX).mono ?_
    rintro v h' ⟨rfl, rfl⟩
    refine ops_run (by simp [lop, loud, callA, calleeA, callF_step h17, h17, callF_step h44, h44, callF_step h47, h47, callF_step h37, h37, callF_step h29, h29, oKn, hpg, hbal, hsl, hfi, rx1, ry1, lim, frz_mapI, frz_mapE, frz_mapS, tkI, tkE, tkC, ro_sl, ro_vl, ro_nils, rbI, rbE, hn3, fx, fy, cx1, cx2, cy1, cy2]; rfl) ?_
    simp only [AEx.thn, AEx.blk]
    generalize hJ : w0.tmod (B.closing.length : Int) = J at *
    have hJ0 : 0 ≤ J := by omega
    have hJ1 : J < (B.closing.length : Int) := by omega
    have hjl : J.toNat < B.closing.length := by omega
    have hVb := hc _ (List.getElem_mem hjl)
    have hgd : B.closing.getD J.toNat 0 = B.closing[J.toNat] := by rw [List.getD_eq_getElem?_getD, List.getElem?_eq_getElem hjl]; rfl
    generalize hV : B.closing[J.toNat] = V at *
    rw [hgd] at hcp hfi2 hsl2
    have ww0 : W .i64 w0 = w0 := W_fit (by omega)
    have ww1 : W .i64 w1 = w1 := W_fit (by omega)
    have wd : W .i64 (1 + w1) = 1 + w1 := W_fit (by omega)
    have wv : W .i64 (V + (1 + w1)) = V + (1 + w1) := W_fit (by omega)
    have e0 : (B.closing.map rI).set J.toNat [I (V + (1 + w1))] = (B.closing.set J.toNat (V + (1 + w1))).map rI := by rw [List.map_set]; rfl
    have hcl : (B.closing.set J.toNat (V + (1 + w1))).length = B.closing.length := List.length_set
    generalize hC : B.closing.set J.toNat (V + (1 + w1)) = C at *
    have tkC2 := tk_rI C
    rw [hcl] at tkC2
    refine runs_seq ?_
    have hF : True := trivial
    refine runs_drw (by simp (maxSteps := 3000000) [lop, loud, callA, calleeA, callF_step h17, h17, callF_step h44, h44, callF_step h47, h47, callF_step h37, h37, callF_step h29, h29, oKn, hpg, hbal, hsl, hfi, rx1, ry1, lim, frz_mapI, frz_mapE, frz_mapS, tkI, tkE, tkC, ro_sl, ro_vl, ro_nils, rbI, rbE, hn3, fx, fy, cx1, cx2, cy1, cy2, hJ, hJ0, hJ1, hjl, hV, ww0, ww1, wd, wv, rIe, hcl, e0, tkC2, hn2, callF_step h46, h46, hcp, hfi2, hsl2]; rfl) ?_
    simp only [AEx.thn, AEx.blk]
    refine runs_seq ?_
    refine runs_reg (ops_run (by simp [lop, loud, callA, calleeA, callF_step h17, h17, callF_step h44, h44, callF_step h47, h47, callF_step h37, h37, callF_step h29, h29, oKn, hpg, hbal, hsl, hfi, rx1, ry1, lim, frz_mapI, frz_mapE, frz_mapS, tkI, tkE, tkC, ro_sl, ro_vl, ro_nils, rbI, rbE, hn3, fx, fy, cx1, cx2, cy1, cy2, hJ, hJ0, hJ1, hjl, hV, ww0, ww1, wd, wv, rIe, hcl, e0, tkC2, hn2, callF_step h46, h46, hcp, hfi2, hsl2]; rfl) ?_)
    simp only [AEx.thn, AEx.blk]
    refine runs_seq ?_
    refine runs_reg (ops_run (by simp [lop, loud, callA, calleeA, callF_step h17, h17, callF_step h44, h44, callF_step h47, h47, callF_step h37, h37, callF_step h29, h29, oKn, hpg, hbal, hsl, hfi, rx1, ry1, lim, frz_mapI, frz_mapE, frz_mapS, tkI, tkE, tkC, ro_sl, ro_vl, ro_nils, rbI, rbE, hn3, fx, fy, cx1, cx2, cy1, cy2, hJ, hJ0, hJ1, hjl, hV, ww0, ww1, wd, wv, rIe, hcl, e0, tkC2, hn2, callF_step h46, h46, hcp, hfi2, hsl2]; rfl) ?_)
    simp only [AEx.thn, AEx.blk]
    refine runs_seq ?_
    refine runs_reg (ops_run (by simp [lop, loud, callA, calleeA, callF_step h17, h17, callF_step h44, h44, callF_step h47, h47, callF_step h37, h37, callF_step h29, h29, oKn, hpg, hbal, hsl, hfi, rx1, ry1, lim, frz_mapI, frz_mapE, frz_mapS, tkI, tkE, tkC, ro_sl, ro_vl, ro_nils, rbI, rbE, hn3, fx, fy, cx1, cx2, cy1, cy2, hJ, hJ0, hJ1, hjl, hV, ww0, ww1, wd, wv, rIe, hcl, e0, tkC2, hn2, callF_step h46, h46, hcp, hfi2, hsl2]; rfl) ?_)
    simp only [AEx.thn, AEx.blk]
    refine runs_ret ?_
    simp [lop, loud, callA, calleeA, callF_step h17, h17, callF_step h44, h44, callF_step h47, h47, callF_step h37, h37, callF_step h29, h29, oKn, hpg, hbal, hsl, hfi, rx1, ry1, lim, frz_mapI, frz_mapE, frz_mapS, tkI, tkE, tkC, ro_sl, ro_vl, ro_nils, rbI, rbE, hn3, fx, fy, cx1, cx2, cy1, cy2, hJ, hJ0, hJ1, hjl, hV, ww0, ww1, wd, wv, rIe, hcl, e0, tkC2, hn2, callF_step h46, h46, hcp, hfi2, hsl2]
end
end Go.Proofs.Ytfnnonoffiljhaa.Tab

namespace Go.Proofs.Ytfnnonoffiljhaa.Tab
open Go Go.Abs Go.Proofs
set_option maxRecDepth 100000
set_option linter.unusedVariables false
variable {acc : Int} {os : List Int} {es : List (Int × Int × Int)} {am : List Int}
theorem pg_len (h : PgOk acc os es am) : 2 ≤ (pgOs acc os).length ∧ (pgOs acc os).length ≤ 5 ∧ (pgEs (2 + acc.tmod 4) es am).length ≤ 10 := by
  have h1 := pgOs_len h
  have h2 := pg_n h.ac
  rw [pgEs_len]
  omega
theorem pg_E0 (h : PgOk acc os es am) : bookE (pgB acc os es am) = 0 := by
  have hb := pg_bal h
  exact pg_bookE h (pgB acc os es am).closing (bal_len _ _) fun m hm => by have := hb m hm; omega
theorem pg_R0 (h : PgOk acc os es am) : readE (pgB acc os es am) = 0 := pg_read h (pgB acc os es am).closing (pg_E0 h)
theorem wB_rep (n : Nat) : wB 0 0 (List.replicate n 0) = true := by
  simp only [wB, List.all_eq_true]
  intro x hx
  obtain rfl := List.eq_of_mem_replicate hx
  rfl
theorem pg_w0 (h : PgOk acc os es am) : wB 0 0 (missI (pgB acc os es am)) = true := by rw [pg_miss]; exact wB_rep _
theorem eqB_pg (o0 o1 o2 o3 o4 bl : Int) (x y : AVal) (hx : rowsV x = some (es.map rB3)) (hy : rowsV y = some (am.map rW1)) : eqB (some (.row 9 [[.int .u8 acc, .int .i16 o0, .int .i16 o1, .int .i16 o2, .int .i16 o3, .int .i16 o4, x, y, .int .u16 bl]])) (some (.row 9 [[.int .u8 acc, .int .i16 o0, .int .i16 o1, .int .i16 o2, .int .i16 o3, .int .i16 o4, x, y, .int .u16 bl]])) = true := by
  have e1 : ∀ l : List (Int × Int × Int), allB (allB (eqA 11)) (l.map rB3) (l.map rB3) = true := by
    intro l
    induction l with
    | nil => rfl
    | cons a l ih =>
      rw [List.map_cons]
      show (allB (eqA 11) (rB3 a) (rB3 a) && allB (allB (eqA 11)) (l.map rB3) (l.map rB3)) = true
      rw [ih]; simp [rB3, allB, eqA]
  have e2 : ∀ l : List Int, allB (allB (eqA 11)) (l.map rW1) (l.map rW1) = true := by
    intro l
    induction l with
    | nil => rfl
    | cons a l ih =>
      rw [List.map_cons]
      show (allB (eqA 11) (rW1 a) (rW1 a) && allB (allB (eqA 11)) (l.map rW1) (l.map rW1)) = true
      rw [ih]; simp [rW1, allB, eqA]
  have hqx : eqA 12 x x = true := eq_of hx 10 (e1 es)
  have hqy : eqA 12 y y = true := eq_of hy 10 (e2 am)
  show (9 == 9 && (( _ && (_ && (_ && (_ && (_ && (_ && (eqA 12 x x && (eqA 12 y y && (_ && true))))))))) && true)) = true
  rw [hqx, hqy]
  simp [eqA]
theorem law11 (acc o0 o1 o2 o3 o4 bl w0 w1 : Int) (x y : AVal) (es : List (Int × Int × Int)) (am : List Int) (hx : rowsV x = some (es.map rB3)) (hy : rowsV y = some (am.map rW1))
    (hg : (0 ≤ acc ∧ acc ≤ 255) ∧ (-32768 ≤ o0 ∧ o0 ≤ 32767) ∧ (-32768 ≤ o1 ∧ o1 ≤ 32767) ∧ (-32768 ≤ o2 ∧ o2 ≤ 32767) ∧ (-32768 ≤ o3 ∧ o3 ≤ 32767) ∧ (-32768 ≤ o4 ∧ o4 ≤ 32767))
    (hes : ∀ v ∈ es, (0 ≤ v.1 ∧ v.1 ≤ 255) ∧ (0 ≤ v.2.1 ∧ v.2.1 ≤ 255) ∧ (0 ≤ v.2.2 ∧ v.2.2 ≤ 255)) (ham : ∀ a ∈ am, 0 ≤ a ∧ a ≤ 65535) (hw : (0 ≤ w0 ∧ w0 ≤ 255) ∧ (0 ≤ w1 ∧ w1 ≤ 255)) :
    Answers Try.prog PT11 11 [.agg [.int .u8 acc, .int .i16 o0, .int .i16 o1, .int .i16 o2, .int .i16 o3, .int .i16 o4, x, y, .int .u16 bl], .agg [.int .u8 w0, .int .u8 w1]] [] fun v _ => v = .bool true := by
  have h : PgOk acc [o0, o1, o2, o3, o4] es am := by
    obtain ⟨ha, h0, h1, h2, h3, h4⟩ := hg
    refine ⟨ha, rfl, ?_, hes, ham⟩
    intro o ho
    simp only [List.mem_cons, List.not_mem_nil, or_false] at ho
    rcases ho with rfl | rfl | rfl | rfl | rfl <;> assumption
  have heq := eqB_pg (acc := acc) o0 o1 o2 o3 o4 bl x y hx hy
  have hpg : oPages [.agg [.int .u8 acc, .int .i16 o0, .int .i16 o1, .int .i16 o2, .int .i16 o3, .int .i16 o4, x, y, .int .u16 bl]] = some (pgV (pgB acc [o0, o1, o2, o3, o4] es am)) := by
    unfold oPages
    simp only [hx, hy]
    rw [optAll_map (d := dU3) (enc := rB3) (fun _ => rfl), optAll_map (d := dW1) (enc := rW1) (fun _ => rfl)]
    simp only
    rw [if_pos ⟨hg, hes, ham⟩]
  obtain ⟨hn2, hn5, he10⟩ := pg_len h
  have hE0 := pg_E0 h
  have hR0 := pg_R0 h
  have hW0 := pg_w0 h
  have hcl : (pgB acc [o0, o1, o2, o3, o4] es am).closing.length = (pgOs acc [o0, o1, o2, o3, o4]).length := bal_len _ _
  have hcb := pg_bal h
  have hbal : balI (pgB acc [o0, o1, o2, o3, o4] es am) = (pgB acc [o0, o1, o2, o3, o4] es am).closing := rfl
  have hos : (pgB acc [o0, o1, o2, o3, o4] es am).opening = pgOs acc [o0, o1, o2, o3, o4] := rfl
  have hen : (pgB acc [o0, o1, o2, o3, o4] es am).entries = pgEs (2 + acc.tmod 4) es am := rfl
  have hsum : (pgB acc [o0, o1, o2, o3, o4] es am).opening.sum = (pgB acc [o0, o1, o2, o3, o4] es am).closing.sum := (bal_sum _ _ fun e he => by
      obtain ⟨h1, h2, h3, _⟩ := pg_ent h e he
      exact ⟨h1, h2, h3⟩).symm
  have hnb : ∀ e ∈ pgEs (2 + acc.tmod 4) es am, e.2.2 ≠ -1 := fun e he => by have := (pg_ent h e he).2.2.2.1; omega
  have hob : ∀ o ∈ pgOs acc [o0, o1, o2, o3, o4], -40000 ≤ o ∧ o ≤ 40000 := fun o ho => by have := h.ob o (List.mem_of_mem_take ho); omega
  have hJ : 0 ≤ w0.tmod ((pgB acc [o0, o1, o2, o3, o4] es am).closing.length : Int) ∧ w0.tmod ((pgB acc [o0, o1, o2, o3, o4] es am).closing.length : Int) < ((pgB acc [o0, o1, o2, o3, o4] es am).closing.length : Int) :=
    ⟨Int.tmod_nonneg _ hw.1.1, Int.tmod_lt_of_pos _ (by omega)⟩
  have hX := pgX_ok h (j := (w0.tmod ((pgB acc [o0, o1, o2, o3, o4] es am).closing.length : Int)).toNat) (by omega) (d := 1 + w1) (by omega)
  have e0 : pgX acc [o0, o1, o2, o3, o4] es am (w0.tmod ((pgB acc [o0, o1, o2, o3, o4] es am).closing.length : Int)).toNat (1 + w1) = ⟨(pgB acc [o0, o1, o2, o3, o4] es am).opening, (pgB acc [o0, o1, o2, o3, o4] es am).closing.set (w0.tmod ((pgB acc [o0, o1, o2, o3, o4] es am).closing.length : Int)).toNat ((pgB acc [o0, o1, o2, o3, o4] es am).closing.getD (w0.tmod ((pgB acc [o0, o1, o2, o3, o4] es am).closing.length : Int)).toNat 0 + (1 + w1)), (pgB acc [o0, o1, o2, o3, o4] es am).entries⟩ := rfl
  rw [e0] at hX
  clear e0
  have hm0 : ∀ m ∈ missI (pgB acc [o0, o1, o2, o3, o4] es am), 0 ≤ m := by
    rw [pg_miss]; intro m hm; rw [List.eq_of_mem_replicate hm]; exact Int.le_refl 0
  rw [← hos] at hn2 hn5 hcl hob
  rw [← hen] at he10 hnb
  generalize pgB acc [o0, o1, o2, o3, o4] es am = B at *
  clear hos hen
  generalize hC : B.closing.set (w0.tmod (B.closing.length : Int)).toNat (B.closing.getD (w0.tmod (B.closing.length : Int)).toNat 0 + (1 + w1)) = C at hX
  have hCl : C.length = B.closing.length := by rw [← hC, List.length_set]
  obtain ⟨x1, x2, x3, x4, x5⟩ := hX
  have hl : B.opening.length ≤ 1000 ∧ B.closing.length ≤ 1000 ∧ B.entries.length ≤ 1000 := by omega
  have hlC : (⟨B.opening, C, B.entries⟩ : PB).opening.length ≤ 1000 ∧ (⟨B.opening, C, B.entries⟩ : PB).closing.length ≤ 1000 ∧ (⟨B.opening, C, B.entries⟩ : PB).entries.length ≤ 1000 := by simp only; omega
  have hn1 : B.opening ≠ [] := by intro e; rw [e] at hn2; simp at hn2
  have hn2' : B.closing ≠ [] := by intro e; rw [e] at hcl; simp at hcl; omega
  have b1 : (B.opening.length == 0) = false := by simpa using hn1
  have b2 : (C.length == 0) = false := by rw [hCl]; simpa using hn2'
  have dB1 : ∀ z, rowsV z = some (B.entries.map rE) → dB (.agg [.vl (B.opening.map rI) false, .vl (B.closing.map rI) false, z]) = some B := fun z hz => dB_vB (b := B) rfl rfl hz hl
  have dB2 : ∀ z, rowsV z = some (B.entries.map rE) → dB (.agg [.vl (B.opening.map rI) false, .vl (C.map rI) false, z]) = some ⟨B.opening, C, B.entries⟩ := fun z hz => dB_vB (b := ⟨B.opening, C, B.entries⟩) rfl rfl hz hlC
  have c1 : ∀ z, rowsV z = some (B.entries.map rE) → oCopX [.agg [.vl (B.opening.map rI) false, .vl (B.closing.map rI) false, z]] = none := fun z hz => by
    simp only [oCopX, dB1 z hz, hW0]; rfl
  have c2 : ∀ z, rowsV z = some (B.entries.map rE) → oBalT [.agg [.vl (B.opening.map rI) false, .vl (B.closing.map rI) false, z]] = some (.tup [.vl (B.closing.map rI) false, I 0]) := fun z hz => by
    simp only [oBalT, dB1 z hz, hR0, if_true, hbal]
  have c3 : ∀ z, rowsV z = some (B.entries.map rE) → oSlips0 [.agg [.vl (B.opening.map rI) false, .vl (B.closing.map rI) false, z]] = some (.tup [.nils, I 6]) := fun z hz => by
    simp only [oSlips0, dB1 z hz]
    rw [if_pos ⟨hR0, .inl hW0⟩, if_pos hW0]
  have c4 : ∀ z, rowsV z = some (B.entries.map rE) → oFill0 [.agg [.vl (B.opening.map rI) false, .vl (B.closing.map rI) false, z]] = some (.tup [sV' (B.entries.map rS2), I 0]) := fun z hz => by
    simp only [oFill0, dB1 z hz]
    rw [if_pos ⟨hE0, hnb, hm0⟩, if_pos hW0, if_pos hW0]
  have c5 : ∀ z, rowsV z = some (B.entries.map rE) → oCopX [.agg [.vl (B.opening.map rI) false, .vl (C.map rI) false, z]] = some (.agg [.vl (B.opening.map rI) false, .vl (C.map rI) false, .vl (B.entries.map rE) (B.entries.length == 0)]) := fun z hz => by
    simp only [oCopX, dB2 z hz]
    rw [if_pos x5, b1, b2]; rfl
  have c6 : ∀ z, rowsV z = some (B.entries.map rE) → oFill0 [.agg [.vl (B.opening.map rI) false, .vl (C.map rI) false, z]] = some (.tup [.nils, I 9]) := fun z hz => by
    simp only [oFill0, dB2 z hz]
    rw [if_pos ⟨x1, hnb, x4⟩, if_neg (by rw [x5]; simp), if_neg (by rw [x5]; simp)]
  have c7 : ∀ z, rowsV z = some (B.entries.map rE) → oSlips0 [.agg [.vl (B.opening.map rI) false, .vl (C.map rI) false, z]] = some (.tup [.nils, I 7]) := fun z hz => by
    simp only [oSlips0, dB2 z hz]
    rw [if_pos ⟨x2, .inr (by rw [x3]; omega)⟩, if_neg (by rw [x5]; simp)]
  clear dB1 dB2
  subst hC
  have hcb' : ∀ o ∈ B.closing, -20000000 ≤ o ∧ o ≤ 20000000 := hcb
  by_cases hE : B.entries = []
  · have hpg' : oPages [.agg [.int .u8 acc, .int .i16 o0, .int .i16 o1, .int .i16 o2, .int .i16 o3, .int .i16 o4, x, y, .int .u16 bl]] = some (.agg [.vl (B.opening.map rI) false, .vl (B.closing.map rI) false, .nils]) := by
      rw [hpg]; unfold pgV vB; rw [hE]; rfl
    have z1 : rowsV .nils = some (B.entries.map rE) := by rw [hE]; rfl
    have z2 : rowsV (.vl [] true) = some (B.entries.map rE) := by rw [hE]; rfl
    have c4' := c4 (.vl [] true) z2
    have c5' := c5 (.vl [] true) z2
    have e4 : sV' (B.entries.map rS2) = .nils := by rw [hE]; rfl
    have e5 : AVal.vl (B.entries.map rE) (B.entries.length == 0) = .vl [] true := by rw [hE]; rfl
    rw [e4] at c4'
    rw [e5] at c5'
    exact a11e PT11 rfl rfl rfl rfl rfl rfl rfl acc o0 o1 o2 o3 o4 bl w0 w1 x y _ _ hx hy heq hw B hpg' hl hn1 hn2' hn5 hE hcl.symm hob hcb' hsum hJ (c1 _ z1) (c2 _ z2) (c3 _ z2) c4' c5' (c6 _ z2) (c7 _ z2)
  · have z1 : rowsV (.vl (B.entries.map rE) false) = some (B.entries.map rE) := rfl
    obtain ⟨e, l, hel⟩ : ∃ e l, B.entries = e :: l := by
      cases hb : B.entries with
      | nil => exact absurd hb hE
      | cons e l => exact ⟨e, l, rfl⟩
    have hpg' : oPages [.agg [.int .u8 acc, .int .i16 o0, .int .i16 o1, .int .i16 o2, .int .i16 o3, .int .i16 o4, x, y, .int .u16 bl]] = some (.agg [.vl (B.opening.map rI) false, .vl (B.closing.map rI) false, .vl (B.entries.map rE) false]) := by
      rw [hpg]; unfold pgV vB; rw [hel]; rfl
    have c4' := c4 _ z1
    have c5' := c5 _ z1
    have e4 : sV' (B.entries.map rS2) = .vl (B.entries.map rS2) false := by rw [hel]; rfl
    have e5 : AVal.vl (B.entries.map rE) (B.entries.length == 0) = .vl (B.entries.map rE) false := by rw [hel]; rfl
    rw [e4] at c4'
    rw [e5] at c5'
    exact a11n PT11 rfl rfl rfl rfl rfl rfl rfl acc o0 o1 o2 o3 o4 bl w0 w1 x y _ _ hx hy heq hw B hpg' hl hn1 hn2' hn5 hE hcl.symm hob hcb' hsum hJ (c1 _ z1) (c2 _ z1) (c3 _ z1) c4' c5' (c6 _ z1) (c7 _ z1)
end Go.Proofs.Ytfnnonoffiljhaa.Tab
