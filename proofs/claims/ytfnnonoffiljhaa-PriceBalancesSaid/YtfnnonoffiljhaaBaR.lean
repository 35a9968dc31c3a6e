/- Contracts of the reference of price: In, Check. No condition. -/
import Derived.Test.YtfnnonoffiljhaaBaQ
import Derived.Test.YtfnnonoffiljhaaBaC
set_option linter.unusedSimpArgs false
set_option linter.unusedVariables false
namespace Go.Proofs.Ytfnnonoffiljhaa.Tab
open Go Go.Abs Go.Proofs
set_option maxRecDepth 100000
set_option maxHeartbeats 4000000
set_option linter.unusedSimpArgs false
set_option linter.unusedVariables false
section
attribute [local simp] frz_int frz_bool frz_vl frz_pv frz_agg frz_tup frz_fn frz_ref frz_sl frz_nils optAll orcF rb_int rb_bool rb_agg rb_tup rb_int' rb_bool' rb_vl rb_pv rb_yld rb_nilf rb_nilp rb_nils rb_any rb_und rb_ref rb_sl rb_fn slE chunk fillA evParts evParts3 putAt List.range_succ List.range_zero List.range'_succ List.range'_zero runX_nil' unary_not evalS_pure evAll_nil evAll_cons runX_cons stepX wantedA dop CV.ev putK_eq setK_eq appK_eq fA_eq fI_eq fN_eq fRow_eq fRows_eq nth_eq Out.v putT List.replicate_succ AEx.thn AEx.blk arI pointee Abs.rowAt ldRow allV toV toC ofV ofC Builtin.min_ Builtin.min2 Builtin.max_ Builtin.max2 min_if max_if resA tupA kill trim_self trim_len trim_emp trim_nil lenA
attribute [local simp] runD_nil' runD_cons' stepD actK_eq actD clash disj masks holes maskH unmaskH diffs news eqB allB eqA ldRowN wrote toCs ofCs stA rowsV_vl rowsV_nils rowsOf dI1 dI2 dI3 dI5 elt
attribute [local simp] st_any st_und st_agg st_tup st_bool st_int st_nilp st_ref st_pv st_nils st_sl st_vl st_nilm st_mp st_fn st_nilf st_yld co_any co_und co_agg co_tup co_bool co_int co_nilp co_ref co_pv co_nils co_sl co_vl co_nilm co_mp co_fn co_nilf co_yld
def oIn : List AVal → Option AVal
  | [.int .i64 n, .int .i64 a, .int .i64 b] => some (.bool (inI a n b))
  | _ => none
theorem a16 (P : Program) (T : Nat → Option CFn) (hT : T 16 = some c16) (n a b : Int) : Answers P T 16 [I n, I a, I b] [] fun v h => frz true h 5 v = some (.bool (inI a n b)) := by
  refine answers_of hT (orcF_none rfl) ?_
  simp only [c16]
  by_cases hx : a ≤ n
  · refine runs_seq ?_
    refine runs_reg (ops_run (by simp [lop, loud, callA, calleeA, hx]; rfl) ?_)
    simp only [AEx.thn, AEx.blk]
    refine runs_seq ?_
    refine runs_reg (ops_run (by simp [lop, loud, callA, calleeA, hx]; rfl) ?_)
    simp only [AEx.thn, AEx.blk]
    refine runs_ret ?_
    simp [lop, loud, callA, calleeA, hx, inI]
  · refine runs_seq ?_
    refine runs_reg (ops_run (by simp [lop, loud, callA, calleeA, hx]; rfl) ?_)
    simp only [AEx.thn, AEx.blk]
    refine runs_seq ?_
    refine runs_reg (ops_run (by simp [lop, loud, callA, calleeA, hx]; rfl) ?_)
    simp only [AEx.thn, AEx.blk]
    refine runs_ret ?_
    simp [lop, loud, callA, calleeA, hx, inI]
noncomputable def PE1 : Nat → Option CFn := upd PD 16 true (oIn)
theorem PE1_ok : TabOk Try.prog GG PE1 := tab_add mixed PD_ok fun args v ho => by
  unfold oIn at ho; split at ho <;> simp at ho
  rename_i n a b
  subst ho
  exact a16 Try.prog PD rfl  n a b
/-- The steps from one on are right, behind one with that From. -/
def okFrom : Option Int → List (Int × Int) → Bool
  | _, [] => true
  | p, s :: l => stepOkI s && (match p with | none => true | some t => decide (t < s.1)) && okFrom (some s.1) l
theorem okFrom_some : ∀ (l : List (Int × Int)) (s : Int × Int), (stepOkI s && okFrom (some s.1) l) = ((s :: l).all stepOkI && ascI (s :: l))
  | [], s => by simp [okFrom, ascI]
  | t :: l, s => by
    have ih := okFrom_some l t
    simp only [okFrom, ascI, List.all_cons] at ih ⊢
    rw [show (stepOkI s && (stepOkI t && decide (s.1 < t.1) && okFrom (some t.1) l)) = (stepOkI s && decide (s.1 < t.1) && (stepOkI t && okFrom (some t.1) l)) by cases stepOkI s <;> cases stepOkI t <;> cases decide (s.1 < t.1) <;> simp]
    rw [ih]
    cases stepOkI s <;> cases stepOkI t <;> cases decide (s.1 < t.1) <;> simp
theorem okFrom_none (l : List (Int × Int)) : okFrom none l = (l.all stepOkI && ascI l) := by
  cases l with
  | nil => rfl
  | cons s l => rw [← okFrom_some l s]; simp [okFrom]
theorem checkR_eq {q : PQ} {A b1 b2 b3 b4 b5 b6 c1 c2 c3 c4 : Bool} (hA : okFrom none q.steps = A) (h1 : inI 1 q.area 100000 = b1) (h2 : inI 0 q.board 100000 = b2) (h3 : inI 0 q.waste 500 = b3) (h4 : inI 0 q.margin 1000 = b4) (h5 : inI 1 q.run 100000 = b5) (h6 : inI 1 q.pallet 100000 = b6)
    (h7 : inI 0 q.tool 1000000 = c1) (h8 : inI 0 q.setup 1000000 = c2) (h9 : inI 0 q.work 1000000 = c3) (h10 : inI 0 q.freight 1000000 = c4) :
    checkQ q = if 6 < q.steps.length then 5 else if !A then 4 else if !(b1 && b2 && b3 && b4 && b5 && b6) then 2 else if !(c1 && c2 && c3 && c4) then 2 else 0 := by
  unfold checkQ argsI
  rw [← okFrom_none, hA, h1, h2, h3, h4, h5, h6, h7, h8, h9, h10]
  cases b1 <;> cases b2 <;> cases b3 <;> cases b4 <;> cases b5 <;> cases b6 <;> cases c1 <;> cases c2 <;> cases c3 <;> cases c4 <;> rfl
theorem getElem?_of {α : Type} {l : List α} {i : Nat} {a : α} (h : i < l.length) (e : l[i] = a) : l[i]? = some a := by rw [List.getElem?_eq_getElem h, e]
theorem a15 (P : Program) (T : Nat → Option CFn) (hT : T 15 = some c15) (h16 : T 16 = some { c16 with frsh := true, orc := oIn }) (q : PQ) (x : AVal) (hx : rowsV x = some (q.steps.map rP)) : Answers P T 15 [vQ q x] [] fun v h => frz true h 5 v = some (I (checkQ q)) := by
  have lx := rowsV_len hx
  rw [List.length_map] at lx
  generalize hA : okFrom none q.steps = A
  generalize hb1 : inI 1 q.area 100000 = b1
  generalize hb2 : inI 0 q.board 100000 = b2
  generalize hb3 : inI 0 q.waste 500 = b3
  generalize hb4 : inI 0 q.margin 1000 = b4
  generalize hb5 : inI 1 q.run 100000 = b5
  generalize hb6 : inI 1 q.pallet 100000 = b6
  generalize hc1 : inI 0 q.tool 1000000 = c1
  generalize hc2 : inI 0 q.setup 1000000 = c2
  generalize hc3 : inI 0 q.work 1000000 = c3
  generalize hc4 : inI 0 q.freight 1000000 = c4
  have he := checkR_eq hA hb1 hb2 hb3 hb4 hb5 hb6 hc1 hc2 hc3 hc4
  have fx := fun H d => rowsV_frz hx H d
  have rx := fun n d => rowsV_rb hx n d
  obtain ⟨cx1, cx2⟩ := rowsV_cells hx
  simp only [vQ]
  refine answers_of hT (orcF_none rfl) ?_
  simp only [c15]
  refine runs_seq ?_
  refine runs_reg (ops_run (by simp [lop, loud, callA, calleeA, callF_step h16, h16, lx, -lenA, fx, cx1, cx2, rx, oIn]; rfl) ?_)
  simp only [AEx.thn, AEx.blk]
  refine runs_seq ?_
  refine runs_seq ?_
  refine runs_reg (ops_run (by simp [lop, loud, callA, calleeA, callF_step h16, h16, lx, -lenA, fx, cx1, cx2, rx, oIn]; rfl) ?_)
  simp only [AEx.thn, AEx.blk]
  refine runs_cond_split (x := decide ((6 : Int) < (q.steps.length : Int))) (by simp) (fun h1 => ?_) (fun h1 => ?_)
  · have h1' : 6 < q.steps.length := by have := of_decide_eq_true h1; omega
    refine runs_seq ?_
    refine runs_reg (ops_run (by simp [lop, loud, callA, calleeA, callF_step h16, h16, lx, -lenA, fx, cx1, cx2, rx, oIn]; rfl) ?_)
    simp only [AEx.thn, AEx.blk]
    refine runs_ret ?_
    simp [lop, loud, callA, calleeA, callF_step h16, h16, lx, -lenA, fx, cx1, cx2, rx, oIn, he, h1']
  have h1' : ¬ 6 < q.steps.length := by have := of_decide_eq_false h1; omega
  refine runs_skip ?_
  simp only [AEx.thn, AEx.blk]
  refine runs_seq ?_
  refine runs_seq ?_
  refine runs_reg (ops_run (by simp [lop, loud, callA, calleeA, callF_step h16, h16, lx, -lenA, fx, cx1, cx2, rx, oIn]; rfl) ?_)
  simp only [AEx.thn, AEx.blk]
  refine runs_block ?_
  refine runs_loop_inv (fun m σ => ∃ (k : Nat) (i : Int) (p : Option Int), i = k ∧ q.steps.length - k = m ∧ k ≤ q.steps.length ∧ ((k = 0 ∧ p = none) ∨ (0 < k ∧ ∃ p1 p2, q.steps[k - 1]? = some (p1, p2) ∧ p = some p1)) ∧ A = okFrom p (q.steps.drop k) ∧ σ = ⟨[.any, .ref 0 0 0, .any, I i, .any, .any, .any, .any, .any, .any, .any, .any, .any, .any, .any, .any, .any, .any, .any, .any, .any, .any, .any, .any, .any, .any, .any, .any, .any, .any, .any, .any, .any, .any, .any, .any, .any, .any, .any, .any, .any, .any, .any, .any, .any, .any, .any, .any, .any, .any, .any, .any, .any, .any, .any, .any, .any, .any, .any, .any, .any, .any, .any, .any, .any, .any, .any, .any, .any, .any, .any, .any, .any, .any, .any, .any, .any, .any, .any, .any, .any, .any, .any, .any, .any, .any, .any, .any, .any, .any, .any, .any, .any, .any, .any, .any, .any, .any, .any, .any, .any, .any, .any], [some (.row 11 [[I q.area, I q.board, I q.waste, I q.tool, I q.setup, I q.run, I q.work, I q.pallet, I q.freight, I q.margin, x]])]⟩) ?_ (q.steps.length - 0) _ ⟨0, 0, none, rfl, rfl, Nat.zero_le _, .inl ⟨rfl, rfl⟩, hA.symm, by simp⟩
  rintro m σ ⟨k, i, p, hik, rfl, hkl, hprev, hinv, rfl⟩
  refine runs_seq ?_
  refine runs_seq ?_
  refine runs_reg (ops_run (by simp [lop, loud, callA, calleeA, callF_step h16, h16, lx, -lenA, fx, cx1, cx2, rx, oIn]; rfl) ?_)
  simp only [AEx.thn, AEx.blk]
  refine runs_cond_split (x := decide (i < (q.steps.length : Int))) (by simp) (fun hlt => ?_) (fun hlt => ?_)
  · have hlt := of_decide_eq_true hlt
    have hk0 : k < q.steps.length := by omega
    obtain ⟨tt, rfl⟩ := rowsV_get hx (k := k) (by rw [List.length_map]; omega)
    have h0 : 0 ≤ i := by omega
    have htn : i.toNat = k := by omega
    have hwi : W .i64 (i + 1) = i + 1 := W_small (by omega)
    rw [List.drop_eq_getElem_cons hk0] at hinv
    generalize hs : q.steps[k] = s at *
    obtain ⟨s1, s2⟩ := s
    simp only [okFrom] at hinv
    have hst : stepOkI (s1, s2) = (inI 1 s1 100000 && inI 0 s2 900) := rfl
    rw [hst] at hinv
    generalize hA1 : inI 1 s1 100000 = A1 at *
    generalize hA2 : inI 0 s2 900 = A2 at *
    cases A1
    · refine runs_skip ?_
      simp only [AEx.thn, AEx.blk]
      refine runs_seq ?_
      refine runs_block ?_
      refine runs_seq ?_
      refine runs_reg (ops_run (by simp [lop, loud, callA, calleeA, callF_step h16, h16, lx, -lenA, fx, cx1, cx2, rx, oIn, h0, htn, hk0, hs, rP, hwi, hA1, hA2]; rfl) ?_)
      simp only [AEx.thn, AEx.blk]
      refine runs_seq ?_
      refine runs_drw (by simp (maxSteps := 3000000) [lop, loud, callA, calleeA, callF_step h16, h16, lx, -lenA, fx, cx1, cx2, rx, oIn, h0, htn, hk0, hs, rP, hwi, hA1, hA2]; rfl) ?_
      simp only [AEx.thn, AEx.blk]
      refine runs_cond (x := true) (by simp) ?_
      have hA' : A = false := by rw [hinv]; simp
      refine runs_seq ?_
      refine runs_reg (ops_run (by simp [lop, loud, callA, calleeA, callF_step h16, h16, lx, -lenA, fx, cx1, cx2, rx, oIn, h0, htn, hk0, hs, rP, hwi, hA1, hA2]; rfl) ?_)
      simp only [AEx.thn, AEx.blk]
      refine runs_ret ?_
      simp [lop, loud, callA, calleeA, callF_step h16, h16, lx, -lenA, fx, cx1, cx2, rx, oIn, h0, htn, hk0, hs, rP, hwi, hA1, hA2, he, h1', hA']
    · cases A2
      · refine runs_skip ?_
        simp only [AEx.thn, AEx.blk]
        refine runs_seq ?_
        refine runs_block ?_
        refine runs_seq ?_
        refine runs_reg (ops_run (by simp [lop, loud, callA, calleeA, callF_step h16, h16, lx, -lenA, fx, cx1, cx2, rx, oIn, h0, htn, hk0, hs, rP, hwi, hA1, hA2]; rfl) ?_)
        simp only [AEx.thn, AEx.blk]
        refine runs_seq ?_
        refine runs_drw (by simp (maxSteps := 3000000) [lop, loud, callA, calleeA, callF_step h16, h16, lx, -lenA, fx, cx1, cx2, rx, oIn, h0, htn, hk0, hs, rP, hwi, hA1, hA2]; rfl) ?_
        simp only [AEx.thn, AEx.blk]
        refine runs_cond (x := true) (by simp) ?_
        have hA' : A = false := by rw [hinv]; simp
        refine runs_seq ?_
        refine runs_reg (ops_run (by simp [lop, loud, callA, calleeA, callF_step h16, h16, lx, -lenA, fx, cx1, cx2, rx, oIn, h0, htn, hk0, hs, rP, hwi, hA1, hA2]; rfl) ?_)
        simp only [AEx.thn, AEx.blk]
        refine runs_ret ?_
        simp [lop, loud, callA, calleeA, callF_step h16, h16, lx, -lenA, fx, cx1, cx2, rx, oIn, h0, htn, hk0, hs, rP, hwi, hA1, hA2, he, h1', hA']
      · rcases hprev with ⟨hk, hp⟩ | ⟨hk, p1, p2, hp1, hp2⟩
        · subst hk
          obtain rfl : i = 0 := by omega
          have hw0 : W .i64 1 = 1 := by decide
          have hz : (0 : Int) ≤ 0 := Int.le_refl _
          refine runs_skip ?_
          simp only [AEx.thn, AEx.blk]
          refine runs_seq ?_
          refine runs_block ?_
          refine runs_seq ?_
          refine runs_reg (ops_run (by simp [lop, loud, callA, calleeA, callF_step h16, h16, lx, -lenA, fx, cx1, cx2, rx, oIn, hk0, hs, rP, hA1, hA2, hw0]; rfl) ?_)
          simp only [AEx.thn, AEx.blk]
          refine runs_seq ?_
          refine runs_drw (by simp (maxSteps := 3000000) [lop, loud, callA, calleeA, callF_step h16, h16, lx, -lenA, fx, cx1, cx2, rx, oIn, hk0, hs, rP, hA1, hA2, hw0]; rfl) ?_
          simp only [AEx.thn, AEx.blk]
          refine runs_cond (x := false) (by simp) ?_
          refine runs_skip ?_
          simp only [AEx.thn, AEx.blk]
          refine runs_reg (ops_run (by simp [lop, loud, callA, calleeA, callF_step h16, h16, lx, -lenA, fx, cx1, cx2, rx, oIn, hk0, hs, rP, hA1, hA2, hw0]; rfl) ?_)
          simp only [AEx.thn, AEx.blk]
          exact ⟨q.steps.length - (0 + 1), by omega, 0 + 1, 1, some s1, by omega, rfl, by omega, .inr ⟨by omega, s1, s2, by simpa using getElem?_of hk0 hs, rfl⟩, by rw [hinv, hp]; simp, by simp [trim, rbB, lop, loud, callA, calleeA, callF_step h16, h16, lx, -lenA, fx, cx1, cx2, rx, oIn, hk0, hs, rP, hA1, hA2, hw0]⟩
        · have hk1 : k - 1 < q.steps.length := by omega
          have hr : q.steps[k - 1] = (p1, p2) := by rw [List.getElem?_eq_getElem hk1] at hp1; simpa using hp1
          have e2 : W .i64 (i - 1) = i - 1 := W_small (by omega)
          have e3 : (i - 1).toNat = k - 1 := by omega
          have e4 : 0 ≤ i - 1 := by omega
          have e5 : 0 < i := by omega
          have e6 : 1 ≤ i := by omega
          by_cases hc : s1 ≤ p1
          · refine runs_skip ?_
            simp only [AEx.thn, AEx.blk]
            refine runs_seq ?_
            refine runs_block ?_
            refine runs_seq ?_
            refine runs_reg (ops_run (by simp [lop, loud, callA, calleeA, callF_step h16, h16, lx, -lenA, fx, cx1, cx2, rx, oIn, h0, htn, hk0, hs, rP, hwi, hA1, hA2, hk1, hr, e2, e3, e4, e5, e6, hc]; rfl) ?_)
            simp only [AEx.thn, AEx.blk]
            refine runs_seq ?_
            refine runs_drw (by simp (maxSteps := 3000000) [lop, loud, callA, calleeA, callF_step h16, h16, lx, -lenA, fx, cx1, cx2, rx, oIn, h0, htn, hk0, hs, rP, hwi, hA1, hA2, hk1, hr, e2, e3, e4, e5, e6, hc]; rfl) ?_
            simp only [AEx.thn, AEx.blk]
            refine runs_cond (x := true) (by simp) ?_
            have hA' : A = false := by rw [hinv, hp2]; simp; omega
            refine runs_seq ?_
            refine runs_reg (ops_run (by simp [lop, loud, callA, calleeA, callF_step h16, h16, lx, -lenA, fx, cx1, cx2, rx, oIn, h0, htn, hk0, hs, rP, hwi, hA1, hA2, hk1, hr, e2, e3, e4, e5, e6, hc]; rfl) ?_)
            simp only [AEx.thn, AEx.blk]
            refine runs_ret ?_
            simp [lop, loud, callA, calleeA, callF_step h16, h16, lx, -lenA, fx, cx1, cx2, rx, oIn, h0, htn, hk0, hs, rP, hwi, hA1, hA2, hk1, hr, e2, e3, e4, e5, e6, hc, he, h1', hA']
          · have hc' : p1 < s1 := by omega
            refine runs_skip ?_
            simp only [AEx.thn, AEx.blk]
            refine runs_seq ?_
            refine runs_block ?_
            refine runs_seq ?_
            refine runs_reg (ops_run (by simp [lop, loud, callA, calleeA, callF_step h16, h16, lx, -lenA, fx, cx1, cx2, rx, oIn, h0, htn, hk0, hs, rP, hwi, hA1, hA2, hk1, hr, e2, e3, e4, e5, e6, hc]; rfl) ?_)
            simp only [AEx.thn, AEx.blk]
            refine runs_seq ?_
            refine runs_drw (by simp (maxSteps := 3000000) [lop, loud, callA, calleeA, callF_step h16, h16, lx, -lenA, fx, cx1, cx2, rx, oIn, h0, htn, hk0, hs, rP, hwi, hA1, hA2, hk1, hr, e2, e3, e4, e5, e6, hc]; rfl) ?_
            simp only [AEx.thn, AEx.blk]
            refine runs_cond (x := false) (by simp) ?_
            refine runs_skip ?_
            simp only [AEx.thn, AEx.blk]
            refine runs_reg (ops_run (by simp [lop, loud, callA, calleeA, callF_step h16, h16, lx, -lenA, fx, cx1, cx2, rx, oIn, h0, htn, hk0, hs, rP, hwi, hA1, hA2, hk1, hr, e2, e3, e4, e5, e6, hc]; rfl) ?_)
            simp only [AEx.thn, AEx.blk]
            exact ⟨q.steps.length - (k + 1), by omega, k + 1, i + 1, some s1, by omega, rfl, by omega, .inr ⟨by omega, s1, s2, by simpa using getElem?_of hk0 hs, rfl⟩, by rw [hinv, hp2]; simp [hc'], by simp [trim, rbB, lop, loud, callA, calleeA, callF_step h16, h16, lx, -lenA, fx, cx1, cx2, rx, oIn, h0, htn, hk0, hs, rP, hwi, hA1, hA2, hk1, hr, e2, e3, e4, e5, e6, hc]⟩
  · have hlt := of_decide_eq_false hlt
    obtain rfl : k = q.steps.length := by omega
    rw [List.drop_length] at hinv
    obtain rfl : A = true := by rw [hinv]; rfl
    refine runs_exit ?_
    simp only [AEx.thn, AEx.blk, if_true, if_false, reduceIte, Nat.reduceEqDiff, Nat.succ_ne_zero, Nat.one_ne_zero, Nat.zero_ne_one]
    refine runs_seq ?_
    refine runs_seq ?_
    cases b1
    · refine runs_reg (ops_run (by simp [lop, loud, callA, calleeA, callF_step h16, h16, lx, -lenA, fx, cx1, cx2, rx, oIn, hb1, hb2, hb3, hb4, hb5, hb6, hc1, hc2, hc3, hc4]; rfl) ?_)
      simp only [AEx.thn, AEx.blk]
      refine runs_cond (x := true) (by simp) ?_
      refine runs_seq ?_
      refine runs_reg (ops_run (by simp [lop, loud, callA, calleeA, callF_step h16, h16, lx, -lenA, fx, cx1, cx2, rx, oIn, hb1, hb2, hb3, hb4, hb5, hb6, hc1, hc2, hc3, hc4]; rfl) ?_)
      simp only [AEx.thn, AEx.blk]
      refine runs_ret ?_
      simp [lop, loud, callA, calleeA, callF_step h16, h16, lx, -lenA, fx, cx1, cx2, rx, oIn, hb1, hb2, hb3, hb4, hb5, hb6, hc1, hc2, hc3, hc4, he, h1']
    · cases b2
      · refine runs_reg (ops_run (by simp [lop, loud, callA, calleeA, callF_step h16, h16, lx, -lenA, fx, cx1, cx2, rx, oIn, hb1, hb2, hb3, hb4, hb5, hb6, hc1, hc2, hc3, hc4]; rfl) ?_)
        simp only [AEx.thn, AEx.blk]
        refine runs_cond (x := true) (by simp) ?_
        refine runs_seq ?_
        refine runs_reg (ops_run (by simp [lop, loud, callA, calleeA, callF_step h16, h16, lx, -lenA, fx, cx1, cx2, rx, oIn, hb1, hb2, hb3, hb4, hb5, hb6, hc1, hc2, hc3, hc4]; rfl) ?_)
        simp only [AEx.thn, AEx.blk]
        refine runs_ret ?_
        simp [lop, loud, callA, calleeA, callF_step h16, h16, lx, -lenA, fx, cx1, cx2, rx, oIn, hb1, hb2, hb3, hb4, hb5, hb6, hc1, hc2, hc3, hc4, he, h1']
      · cases b3
        · refine runs_reg (ops_run (by simp [lop, loud, callA, calleeA, callF_step h16, h16, lx, -lenA, fx, cx1, cx2, rx, oIn, hb1, hb2, hb3, hb4, hb5, hb6, hc1, hc2, hc3, hc4]; rfl) ?_)
          simp only [AEx.thn, AEx.blk]
          refine runs_cond (x := true) (by simp) ?_
          refine runs_seq ?_
          refine runs_reg (ops_run (by simp [lop, loud, callA, calleeA, callF_step h16, h16, lx, -lenA, fx, cx1, cx2, rx, oIn, hb1, hb2, hb3, hb4, hb5, hb6, hc1, hc2, hc3, hc4]; rfl) ?_)
          simp only [AEx.thn, AEx.blk]
          refine runs_ret ?_
          simp [lop, loud, callA, calleeA, callF_step h16, h16, lx, -lenA, fx, cx1, cx2, rx, oIn, hb1, hb2, hb3, hb4, hb5, hb6, hc1, hc2, hc3, hc4, he, h1']
        · cases b4
          · refine runs_reg (ops_run (by simp [lop, loud, callA, calleeA, callF_step h16, h16, lx, -lenA, fx, cx1, cx2, rx, oIn, hb1, hb2, hb3, hb4, hb5, hb6, hc1, hc2, hc3, hc4]; rfl) ?_)
            simp only [AEx.thn, AEx.blk]
            refine runs_cond (x := true) (by simp) ?_
            refine runs_seq ?_
            refine runs_reg (ops_run (by simp [lop, loud, callA, calleeA, callF_step h16, h16, lx, -lenA, fx, cx1, cx2, rx, oIn, hb1, hb2, hb3, hb4, hb5, hb6, hc1, hc2, hc3, hc4]; rfl) ?_)
            simp only [AEx.thn, AEx.blk]
            refine runs_ret ?_
            simp [lop, loud, callA, calleeA, callF_step h16, h16, lx, -lenA, fx, cx1, cx2, rx, oIn, hb1, hb2, hb3, hb4, hb5, hb6, hc1, hc2, hc3, hc4, he, h1']
          · cases b5
            · refine runs_reg (ops_run (by simp [lop, loud, callA, calleeA, callF_step h16, h16, lx, -lenA, fx, cx1, cx2, rx, oIn, hb1, hb2, hb3, hb4, hb5, hb6, hc1, hc2, hc3, hc4]; rfl) ?_)
              simp only [AEx.thn, AEx.blk]
              refine runs_cond (x := true) (by simp) ?_
              refine runs_seq ?_
              refine runs_reg (ops_run (by simp [lop, loud, callA, calleeA, callF_step h16, h16, lx, -lenA, fx, cx1, cx2, rx, oIn, hb1, hb2, hb3, hb4, hb5, hb6, hc1, hc2, hc3, hc4]; rfl) ?_)
              simp only [AEx.thn, AEx.blk]
              refine runs_ret ?_
              simp [lop, loud, callA, calleeA, callF_step h16, h16, lx, -lenA, fx, cx1, cx2, rx, oIn, hb1, hb2, hb3, hb4, hb5, hb6, hc1, hc2, hc3, hc4, he, h1']
            · cases b6
              · refine runs_reg (ops_run (by simp [lop, loud, callA, calleeA, callF_step h16, h16, lx, -lenA, fx, cx1, cx2, rx, oIn, hb1, hb2, hb3, hb4, hb5, hb6, hc1, hc2, hc3, hc4]; rfl) ?_)
                simp only [AEx.thn, AEx.blk]
                refine runs_cond (x := true) (by simp) ?_
                refine runs_seq ?_
                refine runs_reg (ops_run (by simp [lop, loud, callA, calleeA, callF_step h16, h16, lx, -lenA, fx, cx1, cx2, rx, oIn, hb1, hb2, hb3, hb4, hb5, hb6, hc1, hc2, hc3, hc4]; rfl) ?_)
                simp only [AEx.thn, AEx.blk]
                refine runs_ret ?_
                simp [lop, loud, callA, calleeA, callF_step h16, h16, lx, -lenA, fx, cx1, cx2, rx, oIn, hb1, hb2, hb3, hb4, hb5, hb6, hc1, hc2, hc3, hc4, he, h1']
              · refine runs_reg (ops_run (by simp [lop, loud, callA, calleeA, callF_step h16, h16, lx, -lenA, fx, cx1, cx2, rx, oIn, hb1, hb2, hb3, hb4, hb5, hb6, hc1, hc2, hc3, hc4]; rfl) ?_)
                simp only [AEx.thn, AEx.blk]
                refine runs_cond (x := false) (by simp) ?_
                refine runs_skip ?_
                simp only [AEx.thn, AEx.blk]
                refine runs_seq ?_
                refine runs_seq ?_
                cases c1
                · refine runs_reg (ops_run (by simp [lop, loud, callA, calleeA, callF_step h16, h16, lx, -lenA, fx, cx1, cx2, rx, oIn, hb1, hb2, hb3, hb4, hb5, hb6, hc1, hc2, hc3, hc4]; rfl) ?_)
                  simp only [AEx.thn, AEx.blk]
                  refine runs_cond (x := true) (by simp) ?_
                  refine runs_seq ?_
                  refine runs_reg (ops_run (by simp [lop, loud, callA, calleeA, callF_step h16, h16, lx, -lenA, fx, cx1, cx2, rx, oIn, hb1, hb2, hb3, hb4, hb5, hb6, hc1, hc2, hc3, hc4]; rfl) ?_)
                  simp only [AEx.thn, AEx.blk]
                  refine runs_ret ?_
                  simp [lop, loud, callA, calleeA, callF_step h16, h16, lx, -lenA, fx, cx1, cx2, rx, oIn, hb1, hb2, hb3, hb4, hb5, hb6, hc1, hc2, hc3, hc4, he, h1']
                · cases c2
                  · refine runs_reg (ops_run (by simp [lop, loud, callA, calleeA, callF_step h16, h16, lx, -lenA, fx, cx1, cx2, rx, oIn, hb1, hb2, hb3, hb4, hb5, hb6, hc1, hc2, hc3, hc4]; rfl) ?_)
                    simp only [AEx.thn, AEx.blk]
                    refine runs_cond (x := true) (by simp) ?_
                    refine runs_seq ?_
                    refine runs_reg (ops_run (by simp [lop, loud, callA, calleeA, callF_step h16, h16, lx, -lenA, fx, cx1, cx2, rx, oIn, hb1, hb2, hb3, hb4, hb5, hb6, hc1, hc2, hc3, hc4]; rfl) ?_)
                    simp only [AEx.thn, AEx.blk]
                    refine runs_ret ?_
                    simp [lop, loud, callA, calleeA, callF_step h16, h16, lx, -lenA, fx, cx1, cx2, rx, oIn, hb1, hb2, hb3, hb4, hb5, hb6, hc1, hc2, hc3, hc4, he, h1']
                  · cases c3
                    · refine runs_reg (ops_run (by simp [lop, loud, callA, calleeA, callF_step h16, h16, lx, -lenA, fx, cx1, cx2, rx, oIn, hb1, hb2, hb3, hb4, hb5, hb6, hc1, hc2, hc3, hc4]; rfl) ?_)
                      simp only [AEx.thn, AEx.blk]
                      refine runs_cond (x := true) (by simp) ?_
                      refine runs_seq ?_
                      refine runs_reg (ops_run (by simp [lop, loud, callA, calleeA, callF_step h16, h16, lx, -lenA, fx, cx1, cx2, rx, oIn, hb1, hb2, hb3, hb4, hb5, hb6, hc1, hc2, hc3, hc4]; rfl) ?_)
                      simp only [AEx.thn, AEx.blk]
                      refine runs_ret ?_
                      simp [lop, loud, callA, calleeA, callF_step h16, h16, lx, -lenA, fx, cx1, cx2, rx, oIn, hb1, hb2, hb3, hb4, hb5, hb6, hc1, hc2, hc3, hc4, he, h1']
                    · cases c4
                      · refine runs_reg (ops_run (by simp [lop, loud, callA, calleeA, callF_step h16, h16, lx, -lenA, fx, cx1, cx2, rx, oIn, hb1, hb2, hb3, hb4, hb5, hb6, hc1, hc2, hc3, hc4]; rfl) ?_)
                        simp only [AEx.thn, AEx.blk]
                        refine runs_cond (x := true) (by simp) ?_
                        refine runs_seq ?_
                        refine runs_reg (ops_run (by simp [lop, loud, callA, calleeA, callF_step h16, h16, lx, -lenA, fx, cx1, cx2, rx, oIn, hb1, hb2, hb3, hb4, hb5, hb6, hc1, hc2, hc3, hc4]; rfl) ?_)
                        simp only [AEx.thn, AEx.blk]
                        refine runs_ret ?_
                        simp [lop, loud, callA, calleeA, callF_step h16, h16, lx, -lenA, fx, cx1, cx2, rx, oIn, hb1, hb2, hb3, hb4, hb5, hb6, hc1, hc2, hc3, hc4, he, h1']
                      · refine runs_reg (ops_run (by simp [lop, loud, callA, calleeA, callF_step h16, h16, lx, -lenA, fx, cx1, cx2, rx, oIn, hb1, hb2, hb3, hb4, hb5, hb6, hc1, hc2, hc3, hc4]; rfl) ?_)
                        simp only [AEx.thn, AEx.blk]
                        refine runs_cond (x := false) (by simp) ?_
                        refine runs_skip ?_
                        simp only [AEx.thn, AEx.blk]
                        refine runs_seq ?_
                        refine runs_reg (ops_run (by simp [lop, loud, callA, calleeA, callF_step h16, h16, lx, -lenA, fx, cx1, cx2, rx, oIn, hb1, hb2, hb3, hb4, hb5, hb6, hc1, hc2, hc3, hc4]; rfl) ?_)
                        simp only [AEx.thn, AEx.blk]
                        refine runs_ret ?_
                        simp [lop, loud, callA, calleeA, callF_step h16, h16, lx, -lenA, fx, cx1, cx2, rx, oIn, hb1, hb2, hb3, hb4, hb5, hb6, hc1, hc2, hc3, hc4, he, h1']
noncomputable def PE2 : Nat → Option CFn := upd PE1 15 true (oCheckR)
theorem PE2_ok : TabOk Try.prog GG PE2 := tab_add mixed PE1_ok fun args v ho => by
  unfold oCheckR at ho; split at ho <;> (try simp at ho)
  rename_i v
  split at ho <;> (try simp at ho)
  rename_i q hq
  obtain ⟨x, rfl, hx⟩ := dQu_eq hq
  try simp at ho
  subst ho
  exact a15 Try.prog PE1 rfl rfl q x hx
end
end Go.Proofs.Ytfnnonoffiljhaa.Tab

namespace Go.Proofs.Ytfnnonoffiljhaa.Tab
open Go Go.Abs Go.Proofs
set_option maxRecDepth 100000
set_option maxHeartbeats 4000000
set_option linter.unusedSimpArgs false
set_option linter.unusedVariables false
section
attribute [local simp] frz_int frz_bool frz_vl frz_pv frz_agg frz_tup frz_fn frz_ref frz_sl frz_nils optAll orcF rb_int rb_bool rb_agg rb_tup rb_int' rb_bool' rb_vl rb_pv rb_yld rb_nilf rb_nilp rb_nils rb_any rb_und rb_ref rb_sl rb_fn slE chunk fillA evParts evParts3 putAt List.range_succ List.range_zero List.range'_succ List.range'_zero runX_nil' unary_not evalS_pure evAll_nil evAll_cons runX_cons stepX wantedA dop CV.ev putK_eq setK_eq appK_eq fA_eq fI_eq fN_eq fRow_eq fRows_eq nth_eq Out.v putT List.replicate_succ AEx.thn AEx.blk arI pointee Abs.rowAt ldRow allV toV toC ofV ofC Builtin.min_ Builtin.min2 Builtin.max_ Builtin.max2 min_if max_if resA tupA kill trim_self trim_len trim_emp trim_nil lenA
attribute [local simp] runD_nil' runD_cons' stepD actK_eq actD clash disj masks holes maskH unmaskH diffs news eqB allB eqA ldRowN wrote toCs ofCs stA rowsV_vl rowsV_nils rowsOf dI1 dI2 dI3 dI5 elt
attribute [local simp] st_any st_und st_agg st_tup st_bool st_int st_nilp st_ref st_pv st_nils st_sl st_vl st_nilm st_mp st_fn st_nilf st_yld co_any co_und co_agg co_tup co_bool co_int co_nilp co_ref co_pv co_nils co_sl co_vl co_nilm co_mp co_fn co_nilf co_yld
theorem a62 (P : Program) (T : Nat → Option CFn) (hT : T 62 = some c62) (n b : Int) (hg : (0 ≤ n ∧ n ≤ 4000000000000000000) ∧ 1 ≤ b ∧ b ≤ 10000000000) : Answers P T 62 [I n, I b] [] fun v h => frz true h 5 v = some (I (upI n b)) := by
  have hb : b ≠ 0 := by omega
  have hd : n.tdiv b = n / b := tdiv_pos hg.1.1
  have hm : n.tmod b = n % b := Int.tmod_eq_emod_of_nonneg hg.1.1
  have hq : 0 ≤ n / b ∧ n / b ≤ n := ⟨Int.ediv_nonneg (by omega) (by omega), Int.ediv_le_self _ (by omega)⟩
  have w1 : W .i64 (n / b) = n / b := W_fit (by omega)
  have w2 : W .i64 (n / b + 1) = n / b + 1 := W_fit (by omega)
  have hu := up_ref (n := n) (b := b) (by omega)
  refine answers_of hT (orcF_none rfl) ?_
  simp only [c62]
  refine runs_seq ?_
  refine runs_reg (ops_run (by simp [lop, loud, callA, calleeA, w1, w2, hb, hd, hm]; rfl) ?_)
  simp only [AEx.thn, AEx.blk]
  refine runs_seq ?_
  refine runs_seq ?_
  refine runs_reg (ops_run (by simp [lop, loud, callA, calleeA, w1, w2, hb, hd, hm]; rfl) ?_)
  simp only [AEx.thn, AEx.blk]
  refine runs_cond_split (x := (n % b == 0)) (by simp) (fun hc => ?_) (fun hc => ?_)
  · have hc : n % b = 0 := by simpa using hc
    rw [if_pos hc] at hu
    refine runs_seq ?_
    refine runs_reg (ops_run (by simp [lop, loud, callA, calleeA, w1, w2, hb, hd, hm, hc]; rfl) ?_)
    simp only [AEx.thn, AEx.blk]
    refine runs_ret ?_
    simp [lop, loud, callA, calleeA, w1, w2, hb, hd, hm, hc, hu]
  · have hc : ¬ n % b = 0 := by simpa using hc
    rw [if_neg hc] at hu
    refine runs_skip ?_
    simp only [AEx.thn, AEx.blk]
    refine runs_seq ?_
    refine runs_reg (ops_run (by simp [lop, loud, callA, calleeA, w1, w2, hb, hd, hm]; rfl) ?_)
    simp only [AEx.thn, AEx.blk]
    refine runs_ret ?_
    simp [lop, loud, callA, calleeA, w1, w2, hb, hd, hm, hu]
theorem a63 (P : Program) (T : Nat → Option CFn) (hT : T 63 = some c63) (a b c d e : Int) (hg : (0 ≤ a ∧ a ≤ 1000000000000) ∧ (0 ≤ b ∧ b ≤ 1000000000000) ∧ (0 ≤ c ∧ c ≤ 1000000000000) ∧ (0 ≤ d ∧ d ≤ 1000000000000) ∧ (0 ≤ e ∧ e ≤ 1000000000000)) : Answers P T 63 [.agg [I a, I b, I c, I d, I e]] [] fun v h => frz true h 5 v = some (I (a + b + c + d + e)) := by
  have w1 : W .i64 (a + b) = a + b := W_fit (by omega)
  have w2 : W .i64 (a + b + c) = a + b + c := W_fit (by omega)
  have w3 : W .i64 (a + b + c + d) = a + b + c + d := W_fit (by omega)
  have w4 : W .i64 (a + b + c + d + e) = a + b + c + d + e := W_fit (by omega)
  refine answers_of hT (orcF_none rfl) ?_
  simp only [c63]
  refine runs_seq ?_
  refine runs_reg (ops_run (by simp [lop, loud, callA, calleeA, w1, w2, w3, w4]; rfl) ?_)
  simp only [AEx.thn, AEx.blk]
  refine runs_seq ?_
  refine runs_reg (ops_run (by simp [lop, loud, callA, calleeA, w1, w2, w3, w4]; rfl) ?_)
  simp only [AEx.thn, AEx.blk]
  refine runs_ret ?_
  simp [lop, loud, callA, calleeA, w1, w2, w3, w4]
theorem a64 (P : Program) (T : Nat → Option CFn) (hT : T 64 = some c64) (q : PQ) (x : AVal) (hx : rowsV x = some (q.steps.map rP)) (hl : q.steps.length ≤ 1000) (n : Int) (hg : checkQ q = 0) : Answers P T 64 [vQ q x, I n] [] fun v h => frz true h 5 v = some (I (offI q.steps n)) := by
  have lx := rowsV_len hx
  rw [List.length_map] at lx
  have fx := fun H d => rowsV_frz hx H d
  have rx := fun n d => rowsV_rb hx n d
  have hd := dQ_vQ hx hl
  have cx := rowsV_cells hx
  obtain ⟨cx1, cx2⟩ := cx
  simp only [vQ] at hd ⊢
  refine answers_of hT (orcF_none rfl) ?_
  simp only [c64]
  refine runs_seq ?_
  refine runs_reg (ops_run (by simp [lop, loud, callA, calleeA, lx, -lenA, fx, hd, cx1, cx2, rx, W_fit0, zQ, vP]; rfl) ?_)
  simp only [AEx.thn, AEx.blk]
  refine runs_seq ?_
  refine runs_reg (ops_run (by simp [lop, loud, callA, calleeA, lx, -lenA, fx, hd, cx1, cx2, rx, W_fit0, zQ, vP]; rfl) ?_)
  simp only [AEx.thn, AEx.blk]
  refine runs_seq ?_
  refine runs_seq ?_
  refine runs_reg (ops_run (by simp [lop, loud, callA, calleeA, lx, -lenA, fx, hd, cx1, cx2, rx, W_fit0, zQ, vP]; rfl) ?_)
  simp only [AEx.thn, AEx.blk]
  refine runs_block ?_
  refine runs_loop_inv (fun m σ => ∃ (k : Nat) (i o : Int), i = k ∧ q.steps.length - k = m ∧ k ≤ q.steps.length ∧ (q.steps.drop k).foldl (fun o s => if s.1 ≤ n then s.2 else o) o = offI q.steps n ∧ σ = ⟨[.any, I n, .ref 0 0 0, .any, .any, I o, I i, .any, .any, .any, .any, .any, .any, .any, .any, .any, .any, .any, .any, .any, .any, .any, .any, .any, .any, .any, .any, .any, .any, .any, .any], [some (.row 11 [[I q.area, I q.board, I q.waste, I q.tool, I q.setup, I q.run, I q.work, I q.pallet, I q.freight, I q.margin, x]])]⟩) ?_ (q.steps.length - 0) _ ⟨0, 0, 0, rfl, rfl, Nat.zero_le _, rfl, by simp⟩
  rintro m σ ⟨k, i, o, hik, rfl, hkl, hinv, rfl⟩
  by_cases hlt : i < (q.steps.length : Int)
  · have hk0 : k < q.steps.length := by omega
    obtain ⟨tt, rfl⟩ := rowsV_get hx (k := k) (by rw [List.length_map]; omega)
    have h0 : 0 ≤ i := by omega
    have htn : i.toNat = k := by omega
    have hwi : W .i64 (i + 1) = i + 1 := W_small (by omega)
    have hasc := asc_drop (check_ok hg).2.2.2 k
    rw [List.drop_eq_getElem_cons hk0] at hinv hasc
    generalize hs : q.steps[k] = s at *
    obtain ⟨s1, s2⟩ := s
    by_cases hc : s1 ≤ n
    · rw [List.foldl_cons, if_pos hc] at hinv
      refine runs_seq ?_
      refine runs_seq ?_
      refine runs_reg (ops_run (by simp [lop, loud, callA, calleeA, lx, -lenA, fx, hd, cx1, cx2, rx, W_fit0, zQ, vP, hlt, h0, htn, hk0, hs, rP, hwi, hc]; rfl) ?_)
      simp only [AEx.thn, AEx.blk]
      refine runs_cond (x := true) (by simp) ?_
      refine runs_skip ?_
      simp only [AEx.thn, AEx.blk]
      refine runs_seq ?_
      refine runs_block ?_
      refine runs_reg (ops_run (by simp [lop, loud, callA, calleeA, lx, -lenA, fx, hd, cx1, cx2, rx, W_fit0, zQ, vP, hlt, h0, htn, hk0, hs, rP, hwi, hc]; rfl) ?_)
      simp only [AEx.thn, AEx.blk]
      refine runs_reg (ops_run (by simp [lop, loud, callA, calleeA, lx, -lenA, fx, hd, cx1, cx2, rx, W_fit0, zQ, vP, hlt, h0, htn, hk0, hs, rP, hwi, hc]; rfl) ?_)
      simp only [AEx.thn, AEx.blk]
      exact ⟨q.steps.length - (k + 1), by omega, k + 1, i + 1, s2, by omega, rfl, by omega, hinv, by simp [trim, rbB, lop, loud, callA, calleeA, lx, -lenA, fx, hd, cx1, cx2, rx, W_fit0, zQ, vP, hlt, h0, htn, hk0, hs, rP, hwi, hc]⟩
    · refine runs_seq ?_
      refine runs_seq ?_
      refine runs_reg (ops_run (by simp [lop, loud, callA, calleeA, lx, -lenA, fx, hd, cx1, cx2, rx, W_fit0, zQ, vP, hlt, h0, htn, hk0, hs, rP, hwi, hc]; rfl) ?_)
      simp only [AEx.thn, AEx.blk]
      refine runs_cond (x := false) (by simp) ?_
      rw [off_keep _ _ (fun t ht => by
        rcases List.mem_cons.1 ht with rfl | ht
        · simp only; omega
        · have := (asc_cons hasc).1 t ht; simp only at this; omega)] at hinv
      subst hinv
      refine runs_exit ?_
      simp only [AEx.thn, AEx.blk, if_true, if_false, reduceIte, Nat.reduceEqDiff, Nat.succ_ne_zero, Nat.one_ne_zero, Nat.zero_ne_one]
      refine runs_seq ?_
      refine runs_reg (ops_run (by simp [lop, loud, callA, calleeA, lx, -lenA, fx, hd, cx1, cx2, rx, W_fit0, zQ, vP, hlt, h0, htn, hk0, hs, rP, hwi, hc]; rfl) ?_)
      simp only [AEx.thn, AEx.blk]
      refine runs_ret ?_
      simp [lop, loud, callA, calleeA, lx, -lenA, fx, hd, cx1, cx2, rx, W_fit0, zQ, vP, hlt, h0, htn, hk0, hs, rP, hwi, hc, offI]
  · obtain rfl : k = q.steps.length := by omega
    rw [List.drop_length] at hinv
    simp only [List.foldl_nil] at hinv
    refine runs_seq ?_
    refine runs_seq ?_
    refine runs_reg (ops_run (by simp [lop, loud, callA, calleeA, lx, -lenA, fx, hd, cx1, cx2, rx, W_fit0, zQ, vP, hlt]; rfl) ?_)
    simp only [AEx.thn, AEx.blk]
    refine runs_cond (x := false) (by simp) ?_
    subst hinv
    refine runs_exit ?_
    simp only [AEx.thn, AEx.blk, if_true, if_false, reduceIte, Nat.reduceEqDiff, Nat.succ_ne_zero, Nat.one_ne_zero, Nat.zero_ne_one]
    refine runs_seq ?_
    refine runs_reg (ops_run (by simp [lop, loud, callA, calleeA, lx, -lenA, fx, hd, cx1, cx2, rx, W_fit0, zQ, vP, hlt]; rfl) ?_)
    simp only [AEx.thn, AEx.blk]
    refine runs_ret ?_
    simp [lop, loud, callA, calleeA, lx, -lenA, fx, hd, cx1, cx2, rx, W_fit0, zQ, vP, hlt, offI]
noncomputable def PF1_62 : Nat → Option CFn := upd PE2 62 true (oUp)
theorem PF1_62_ok : TabOk Try.prog GG PF1_62 := tab_add mixed PE2_ok fun args v ho => by
  unfold oUp at ho; split at ho <;> (try simp at ho)
  rename_i n b
  obtain ⟨hg, rfl⟩ := ho
  exact a62 Try.prog PE2 rfl  n b hg
noncomputable def PF1_63 : Nat → Option CFn := upd PF1_62 63 true (oCost)
theorem PF1_63_ok : TabOk Try.prog GG PF1_63 := tab_add mixed PF1_62_ok fun args v ho => by
  unfold oCost at ho; split at ho <;> (try simp at ho)
  rename_i a b c d e
  obtain ⟨hg, rfl⟩ := ho
  exact a63 Try.prog PF1_62 rfl  a b c d e hg
noncomputable def PF1 : Nat → Option CFn := upd PF1_63 64 true (oOff)
theorem PF1_ok : TabOk Try.prog GG PF1 := tab_add mixed PF1_63_ok fun args v ho => by
  unfold oOff at ho; split at ho <;> (try simp at ho)
  rename_i v n
  split at ho <;> (try simp at ho)
  rename_i q hq
  obtain ⟨x, rfl, hx, hl⟩ := dQ_eq hq
  try simp at ho
  obtain ⟨hg, rfl⟩ := ho
  exact a64 Try.prog PF1_63 rfl q x hx hl n hg
theorem a50 (P : Program) (T : Nat → Option CFn) (hT : T 50 = some c50) (h62 : T 62 = some { c62 with frsh := true, orc := oUp }) (q : PQ) (x : AVal) (hx : rowsV x = some (q.steps.map rP)) (hl : q.steps.length ≤ 1000) (n : Int) (hg : checkQ q = 0 ∧ 1 ≤ n ∧ n ≤ 100000) : Answers P T 50 [vQ q x, I n] [] fun v h => frz true h 5 v = some (vP (partsI q n)) := by
  have ha := (check_ok hg.1).1
  have b := parts_bd ha hg.2
  have hcm : n * q.work = q.work * n := Int.mul_comm _ _
  have w1 : W .i64 (n * q.area) = n * q.area := W_fit0 b.a1 (by decide)
  have w2 : W .i64 (1000 + q.waste) = 1000 + q.waste := W_fit (by have := ha.waste; omega)
  have w3 : W .i64 (n * q.area * (1000 + q.waste)) = n * q.area * (1000 + q.waste) := W_fit0 b.a2 (by decide)
  have w4 : W .i64 (n * q.area * (1000 + q.waste) * q.board) = n * q.area * (1000 + q.waste) * q.board := W_fit0 b.a3 (by decide)
  have w5 : W .i64 (q.setup * upI n q.run) = q.setup * upI n q.run := W_fit0 b.setup (by decide)
  have w6 : W .i64 (n * q.work) = q.work * n := by rw [hcm]; exact W_fit0 b.wn (by decide)
  have w7 : W .i64 (q.freight * upI n q.pallet) = q.freight * upI n q.pallet := W_fit0 b.freight (by decide)
  have u1 : oUp [I (n * q.area * (1000 + q.waste) * q.board), I 10000000000] = some (I (upI (n * q.area * (1000 + q.waste) * q.board) 10000000000)) := by
    simp only [oUp]; rw [if_pos ⟨⟨b.a3.1, by have := b.a3.2; omega⟩, by decide, by decide⟩]
  have u2 : oUp [I n, I q.run] = some (I (upI n q.run)) := by simp only [oUp]; rw [if_pos ⟨by omega, ha.run.1, by have := ha.run; omega⟩]
  have u3 : oUp [I n, I q.pallet] = some (I (upI n q.pallet)) := by simp only [oUp]; rw [if_pos ⟨by omega, ha.pallet.1, by have := ha.pallet; omega⟩]
  have u4 : oUp [I (q.work * n), I 1000] = some (I (upI (q.work * n) 1000)) := by simp only [oUp]; rw [if_pos ⟨⟨b.wn.1, by have := b.wn.2; omega⟩, by decide, by decide⟩]
  have fx := fun H d => rowsV_frz hx H d
  have rx := fun n d => rowsV_rb hx n d
  have hd := dQ_vQ hx hl
  have cx := rowsV_cells hx
  obtain ⟨cx1, cx2⟩ := cx
  simp only [vQ] at hd ⊢
  refine answers_of hT (orcF_none rfl) ?_
  simp only [c50]
  refine runs_seq ?_
  refine runs_reg (ops_run (by simp [lop, loud, callA, calleeA, callF_step h62, h62, w1, w2, w3, w4, w5, w6, w7, u1, u2, u3, u4, fx, hd, cx1, cx2, rx, W_fit0, zQ, vP]; rfl) ?_)
  simp only [AEx.thn, AEx.blk]
  refine runs_seq ?_
  refine runs_drw (by simp (maxSteps := 3000000) [lop, loud, callA, calleeA, callF_step h62, h62, w1, w2, w3, w4, w5, w6, w7, u1, u2, u3, u4, fx, hd, cx1, cx2, rx, W_fit0, zQ, vP]; rfl) ?_
  simp only [AEx.thn, AEx.blk]
  refine runs_seq ?_
  refine runs_drw (by simp (maxSteps := 3000000) [lop, loud, callA, calleeA, callF_step h62, h62, w1, w2, w3, w4, w5, w6, w7, u1, u2, u3, u4, fx, hd, cx1, cx2, rx, W_fit0, zQ, vP]; rfl) ?_
  simp only [AEx.thn, AEx.blk]
  refine runs_ret ?_
  simp [lop, loud, callA, calleeA, callF_step h62, h62, w1, w2, w3, w4, w5, w6, w7, u1, u2, u3, u4, fx, hd, cx1, cx2, rx, W_fit0, zQ, vP, vP, partsI]
noncomputable def PF2 : Nat → Option CFn := upd PF1 50 true (oParts)
theorem PF2_ok : TabOk Try.prog GG PF2 := tab_add mixed PF1_ok fun args v ho => by
  unfold oParts at ho; split at ho <;> (try simp at ho)
  rename_i v n
  split at ho <;> (try simp at ho)
  rename_i q hq
  obtain ⟨x, rfl, hx, hl⟩ := dQ_eq hq
  try simp at ho
  obtain ⟨hg, rfl⟩ := ho
  exact a50 Try.prog PF1 rfl rfl q x hx hl n hg
theorem a25 (P : Program) (T : Nat → Option CFn) (hT : T 25 = some c25) (h50 : T 50 = some { c50 with frsh := true, orc := oParts }) (h62 : T 62 = some { c62 with frsh := true, orc := oUp }) (h63 : T 63 = some { c63 with frsh := true, orc := oCost }) (h64 : T 64 = some { c64 with frsh := true, orc := oOff }) (q : PQ) (x : AVal) (hx : rowsV x = some (q.steps.map rP)) (hl : q.steps.length ≤ 1000) (n : Int) (hg : checkQ q = 0 ∧ 1 ≤ n ∧ n ≤ 100000) : Answers P T 25 [vQ q x, I n] [] fun v h => frz true h 5 v = some (I (priceI q n)) := by
  obtain ⟨hc, hn⟩ := hg
  have ha := (check_ok hc).1
  have b := parts_bd ha hn
  have pb := price_bd hc hn
  have ob := off_bd (check_ok hc).2.2.1 n
  have w1 : W .i64 (1000 + q.margin) = 1000 + q.margin := W_fit (by have := ha.margin; omega)
  have w2 : W .i64 (costI (partsI q n) * (1000 + q.margin)) = costI (partsI q n) * (1000 + q.margin) := W_fit0 pb.1 (by decide)
  have w3 : W .i64 (1000 - offI q.steps n) = 1000 - offI q.steps n := W_fit (by omega)
  have w4 : W .i64 (costI (partsI q n) * (1000 + q.margin) * (1000 - offI q.steps n)) = costI (partsI q n) * (1000 + q.margin) * (1000 - offI q.steps n) := W_fit0 pb.2.1 (by decide)
  have u1 : oUp [I (costI (partsI q n) * (1000 + q.margin) * (1000 - offI q.steps n)), I 1000000] = some (I (upI (costI (partsI q n) * (1000 + q.margin) * (1000 - offI q.steps n)) 1000000)) := by
    simp only [oUp]; rw [if_pos ⟨⟨pb.2.1.1, by have := pb.2.1.2; omega⟩, by decide, by decide⟩]
  have u2 : oCost [.agg [I (partsI q n).board, I (partsI q n).tool, I (partsI q n).setup, I (partsI q n).work, I (partsI q n).freight]] = some (I (costI (partsI q n))) := by
    simp only [oCost]; rw [if_pos ⟨⟨b.board.1, by have := b.board.2; omega⟩, ⟨b.tool.1, by have := b.tool.2; omega⟩, ⟨b.setup.1, by have := b.setup.2; omega⟩, ⟨b.work.1, by have := b.work.2; omega⟩, ⟨b.freight.1, by have := b.freight.2; omega⟩⟩]; rfl
  have hnn : 1 ≤ n ∧ n ≤ 100000 := hn
  have fx := fun H d => rowsV_frz hx H d
  have rx := fun n d => rowsV_rb hx n d
  have hd := dQ_vQ hx hl
  have cx := rowsV_cells hx
  obtain ⟨cx1, cx2⟩ := cx
  simp only [vQ] at hd ⊢
  refine answers_of hT (orcF_none rfl) ?_
  simp only [c25]
  refine runs_seq ?_
  refine runs_reg (ops_run (by simp [lop, loud, callA, calleeA, callF_step h50, h50, callF_step h62, h62, callF_step h63, h63, callF_step h64, h64, oParts, oOff, w1, w2, w3, w4, u1, u2, hc, hnn, fx, hd, cx1, cx2, rx, W_fit0, zQ, vP]; rfl) ?_)
  simp only [AEx.thn, AEx.blk]
  refine runs_seq ?_
  refine runs_drw (by simp (maxSteps := 3000000) [lop, loud, callA, calleeA, callF_step h50, h50, callF_step h62, h62, callF_step h63, h63, callF_step h64, h64, oParts, oOff, w1, w2, w3, w4, u1, u2, hc, hnn, fx, hd, cx1, cx2, rx, W_fit0, zQ, vP]; rfl) ?_
  simp only [AEx.thn, AEx.blk]
  refine runs_ret ?_
  simp [lop, loud, callA, calleeA, callF_step h50, h50, callF_step h62, h62, callF_step h63, h63, callF_step h64, h64, oParts, oOff, w1, w2, w3, w4, u1, u2, hc, hnn, fx, hd, cx1, cx2, rx, W_fit0, zQ, vP, priceI]
noncomputable def PF3 : Nat → Option CFn := upd PF2 25 true (oPrice)
theorem PF3_ok : TabOk Try.prog GG PF3 := tab_add mixed PF2_ok fun args v ho => by
  unfold oPrice at ho; split at ho <;> (try simp at ho)
  rename_i v n
  split at ho <;> (try simp at ho)
  rename_i q hq
  obtain ⟨x, rfl, hx, hl⟩ := dQ_eq hq
  try simp at ho
  obtain ⟨hg, rfl⟩ := ho
  exact a25 Try.prog PF2 rfl rfl rfl rfl rfl q x hx hl n hg
theorem a51 (P : Program) (T : Nat → Option CFn) (hT : T 51 = some c51) (a b : Int) (hg : 0 ≤ a ∧ 1 ≤ b) (hA : a ≤ 4000000000000000000) (hB : b ≤ 4000000000000000000) : Answers P T 51 [I a, I b] [] fun v h => frz true h 5 v = some (.agg [I (lowNum a b), I (lowDen a b)]) := by
  refine answers_of hT (orcF_none rfl) ?_
  simp only [c51]
  refine runs_seq ?_
  refine runs_reg (ops_run (by simp [lop, loud, callA, calleeA]; rfl) ?_)
  simp only [AEx.thn, AEx.blk]
  refine runs_seq ?_
  refine runs_reg (ops_run (by simp [lop, loud, callA, calleeA]; rfl) ?_)
  simp only [AEx.thn, AEx.blk]
  refine runs_seq ?_
  refine runs_block ?_
  refine runs_loop_inv (fun m σ => ∃ (d c : Int), c.toNat = m ∧ 0 ≤ d ∧ 0 ≤ c ∧ gcdI d c = gcdI a b ∧ σ = ⟨[I a, I b, .any, .any, .ref 0 0 0, I d, I c, .any, .any, .any, .any, .any, .any, .any, .any, .any, .any, .any, .any, .any, .any, .any], [some (.row 2 [[I 0, I 0]])]⟩) ?_ b.toNat _ ⟨a, b, rfl, hg.1, by omega, rfl, by simp⟩
  rintro m σ ⟨d, c, rfl, h1, h2, hg', rfl⟩
  refine runs_seq ?_
  refine runs_seq ?_
  refine runs_reg (ops_run (by simp [lop, loud, callA, calleeA]; rfl) ?_)
  simp only [AEx.thn, AEx.blk]
  refine runs_cond_split (x := (c != 0)) (by simp) (fun hlt => ?_) (fun hlt => ?_)
  · have hb : c ≠ 0 := by simpa using hlt
    have hb' : 0 < c := by omega
    have hst := gcdI_step h1 hb'
    refine runs_skip ?_
    simp only [AEx.thn, AEx.blk]
    refine runs_block ?_
    refine runs_drw (by simp (maxSteps := 3000000) [lop, loud, callA, calleeA, hb]; rfl) ?_
    simp only [AEx.thn, AEx.blk]
    refine ⟨(d.tmod c).toNat, ?_, c, d.tmod c, rfl, h2, Int.tmod_nonneg _ h1, by rw [hst]; exact hg', by simp [trim, rbB]⟩
    have := Int.tmod_lt_of_pos d hb'
    have := Int.tmod_nonneg c h1
    omega
  · obtain rfl : c = 0 := by simpa using hlt
    rw [gcdI_zero h1] at hg'
    subst hg'
    have hf := gcdI_facts hg.1 hg.2
    have hf1 := hf.1
    have hg0 : gcdI a b ≠ 0 := by omega
    have d1 : a.tdiv (gcdI a b) = lowNum a b := tdiv_pos hg.1
    have d2 : b.tdiv (gcdI a b) = lowDen a b := tdiv_pos (by omega)
    have fe := far_each (money := a) hg.2 hg.1
    have w1 : W .i64 (lowNum a b) = lowNum a b := W_fit (by have := fe.n1; have := fe.n2; omega)
    have w2 : W .i64 (lowDen a b) = lowDen a b := W_fit (by have := fe.d1; have := fe.d2; omega)
    refine runs_exit ?_
    simp only [AEx.thn, AEx.blk, if_true, if_false, reduceIte, Nat.reduceEqDiff, Nat.succ_ne_zero, Nat.one_ne_zero, Nat.zero_ne_one]
    refine runs_seq ?_
    refine runs_drw (by simp (maxSteps := 3000000) [lop, loud, callA, calleeA, hg0, d1, d2, w1, w2]; rfl) ?_
    simp only [AEx.thn, AEx.blk]
    refine runs_ret ?_
    simp [lop, loud, callA, calleeA, hg0, d1, d2, w1, w2]
def oLowR : List AVal → Option AVal
  | [.int .i64 a, .int .i64 b] => if (0 ≤ a ∧ a ≤ 4000000000000000000) ∧ 1 ≤ b ∧ b ≤ 4000000000000000000 then some (.agg [I (lowNum a b), I (lowDen a b)]) else none
  | _ => none
theorem a21 (P : Program) (T : Nat → Option CFn) (hT : T 21 = some c21) (h25 : T 25 = some { c25 with frsh := true, orc := oPrice }) (q : PQ) (x : AVal) (hx : rowsV x = some (q.steps.map rP)) (hl : q.steps.length ≤ 1000) (l r : Int) (hg : checkQ q = 0 ∧ 1 ≤ l ∧ l ≤ r ∧ r ≤ 100000) : Answers P T 21 [vQ q x, .agg [I l, I r]] [] fun v h => frz true h 5 v = some (I (cheapQ q l r)) := by
  obtain ⟨h0, hpl, hlr, hr⟩ := hg
  have hph : l ≤ 100000 := by omega
  have fx := fun H d => rowsV_frz hx H d
  have rx := fun n d => rowsV_rb hx n d
  have hd := dQ_vQ hx hl
  have cx := rowsV_cells hx
  obtain ⟨cx1, cx2⟩ := cx
  simp only [vQ] at hd ⊢
  refine answers_of hT (orcF_none rfl) ?_
  simp only [c21]
  refine runs_seq ?_
  refine runs_reg (ops_run (by simp [lop, loud, callA, calleeA, callF_step h25, h25, oPrice, h0, hpl, hph, fx, hd, cx1, cx2, rx, W_fit0, zQ, vP]; rfl) ?_)
  simp only [AEx.thn, AEx.blk]
  refine runs_seq ?_
  refine runs_drw (by simp (maxSteps := 3000000) [lop, loud, callA, calleeA, callF_step h25, h25, oPrice, h0, hpl, hph, fx, hd, cx1, cx2, rx, W_fit0, zQ, vP]; rfl) ?_
  simp only [AEx.thn, AEx.blk]
  refine runs_seq ?_
  refine runs_seq ?_
  refine runs_reg (ops_run (by simp [lop, loud, callA, calleeA, callF_step h25, h25, oPrice, h0, hpl, hph, fx, hd, cx1, cx2, rx, W_fit0, zQ, vP]; rfl) ?_)
  simp only [AEx.thn, AEx.blk]
  refine runs_block ?_
  refine runs_loop_inv (fun m σ => ∃ (n best : Int), (r + 1 - n).toNat = m ∧ l ≤ best ∧ best ≤ n ∧ n ≤ r + 1 ∧ cheapI (priceI q) (r + 1 - n).toNat n best (priceI q best) = cheapQ q l r ∧ σ = ⟨[.any, .any, .ref 0 0 0, .ref 1 0 0, .any, I best, I (priceI q best), I n, .any, .any, .any, .any, .any, .any, .any, .any, .any, .any, .any, .any, .any, .any, .any, .any, .any, .any, .any, .any, .any, .any, .any, .any, .any, .any, .any, .any], [some (.row 11 [[I q.area, I q.board, I q.waste, I q.tool, I q.setup, I q.run, I q.work, I q.pallet, I q.freight, I q.margin, x]]), some (.row 2 [[I l, I r]]), none, none, none, none, none, none, none, none]⟩) ?_ (r + 1 - l).toNat _ ⟨l, l, rfl, by omega, by omega, by omega, by rw [show (r + 1 - l).toNat = (r - l).toNat + 1 by omega]; exact cheap_first _ _ _, by simp⟩
  rintro m σ ⟨n, best, rfl, hb1, hb2, hb3, hinv, rfl⟩
  refine runs_seq ?_
  refine runs_seq ?_
  refine runs_reg (ops_run (by simp [lop, loud, callA, calleeA, callF_step h25, h25, oPrice, h0, hpl, hph, fx, hd, cx1, cx2, rx, W_fit0, zQ, vP]; rfl) ?_)
  simp only [AEx.thn, AEx.blk]
  refine runs_cond_split (x := decide (n ≤ r)) (by simp) (fun hlt => ?_) (fun hlt => ?_)
  · have hlt := of_decide_eq_true hlt
    have hn1 : 1 ≤ n := by omega
    have hn2 : n ≤ 100000 := by omega
    have pb := (price_bd h0 ⟨hn1, hn2⟩).2.2
    have pc := (price_bd h0 (n := best) ⟨by omega, by omega⟩).2.2
    have e1 := mul_bd pb.1 pb.2 (show 0 ≤ best by omega) (show best ≤ 100000 by omega)
    have e2 := mul_bd pc.1 pc.2 (show 0 ≤ n by omega) (show n ≤ 100000 by omega)
    have w3 : W .i64 (priceI q n * best) = priceI q n * best := W_fit (by omega)
    have w4 : W .i64 (priceI q best * n) = priceI q best * n := W_fit (by omega)
    have w5 : W .i64 (n + 1) = n + 1 := W_small (by omega)
    have hk : (r + 1 - n).toNat = (r + 1 - (n + 1)).toNat + 1 := by omega
    rw [hk] at hinv
    simp only [cheapI] at hinv
    refine runs_skip ?_
    simp only [AEx.thn, AEx.blk]
    refine runs_seq ?_
    refine runs_block ?_
    refine runs_seq ?_
    refine runs_reg (ops_run (by simp [lop, loud, callA, calleeA, callF_step h25, h25, oPrice, h0, hpl, hph, fx, hd, cx1, cx2, rx, W_fit0, zQ, vP, hn1, hn2, w3, w4, w5]; rfl) ?_)
    simp only [AEx.thn, AEx.blk]
    refine runs_seq ?_
    refine runs_reg (ops_run (by simp [lop, loud, callA, calleeA, callF_step h25, h25, oPrice, h0, hpl, hph, fx, hd, cx1, cx2, rx, W_fit0, zQ, vP, hn1, hn2, w3, w4, w5]; rfl) ?_)
    simp only [AEx.thn, AEx.blk]
    refine runs_cond_split (x := decide (priceI q n * best < priceI q best * n)) (by simp) (fun hc => ?_) (fun hc => ?_)
    · have hc := of_decide_eq_true hc
      rw [if_pos hc] at hinv
      refine runs_reg (ops_run (by simp [lop, loud, callA, calleeA, callF_step h25, h25, oPrice, h0, hpl, hph, fx, hd, cx1, cx2, rx, W_fit0, zQ, vP, hn1, hn2, w3, w4, w5]; rfl) ?_)
      simp only [AEx.thn, AEx.blk]
      refine runs_reg (ops_run (by simp [lop, loud, callA, calleeA, callF_step h25, h25, oPrice, h0, hpl, hph, fx, hd, cx1, cx2, rx, W_fit0, zQ, vP, hn1, hn2, w3, w4, w5]; rfl) ?_)
      simp only [AEx.thn, AEx.blk]
      exact ⟨(r + 1 - (n + 1)).toNat, by omega, n + 1, n, rfl, by omega, by omega, by omega, hinv, by simp⟩
    · have hc := of_decide_eq_false hc
      rw [if_neg hc] at hinv
      refine runs_skip ?_
      simp only [AEx.thn, AEx.blk]
      refine runs_reg (ops_run (by simp [lop, loud, callA, calleeA, callF_step h25, h25, oPrice, h0, hpl, hph, fx, hd, cx1, cx2, rx, W_fit0, zQ, vP, hn1, hn2, w3, w4, w5]; rfl) ?_)
      simp only [AEx.thn, AEx.blk]
      exact ⟨(r + 1 - (n + 1)).toNat, by omega, n + 1, best, rfl, by omega, by omega, by omega, hinv, by simp⟩
  · have hlt := of_decide_eq_false hlt
    obtain rfl : n = r + 1 := by omega
    rw [show (r + 1 - (r + 1)).toNat = 0 by omega] at hinv
    simp only [cheapI] at hinv
    subst hinv
    refine runs_exit ?_
    simp only [AEx.thn, AEx.blk, if_true, if_false, reduceIte, Nat.reduceEqDiff, Nat.succ_ne_zero, Nat.one_ne_zero, Nat.zero_ne_one]
    refine runs_seq ?_
    refine runs_reg (ops_run (by simp [lop, loud, callA, calleeA, callF_step h25, h25, oPrice, h0, hpl, hph, fx, hd, cx1, cx2, rx, W_fit0, zQ, vP]; rfl) ?_)
    simp only [AEx.thn, AEx.blk]
    refine runs_ret ?_
    simp [lop, loud, callA, calleeA, callF_step h25, h25, oPrice, h0, hpl, hph, fx, hd, cx1, cx2, rx, W_fit0, zQ, vP]
theorem a24 (P : Program) (T : Nat → Option CFn) (hT : T 24 = some c24) (h25 : T 25 = some { c25 with frsh := true, orc := oPrice }) (q : PQ) (x : AVal) (hx : rowsV x = some (q.steps.map rP)) (hl : q.steps.length ≤ 1000) (money : Int) (h0 : checkQ q = 0) : Answers P T 24 [vQ q x, I money] [] fun v h => frz true h 5 v = some (I (mostQ q money)) := by
  have fx := fun H d => rowsV_frz hx H d
  have rx := fun n d => rowsV_rb hx n d
  have hd := dQ_vQ hx hl
  have cx := rowsV_cells hx
  obtain ⟨cx1, cx2⟩ := cx
  simp only [vQ] at hd ⊢
  refine answers_of hT (orcF_none rfl) ?_
  simp only [c24]
  refine runs_seq ?_
  refine runs_reg (ops_run (by simp [lop, loud, callA, calleeA, callF_step h25, h25, oPrice, h0, fx, hd, cx1, cx2, rx, W_fit0, zQ, vP]; rfl) ?_)
  simp only [AEx.thn, AEx.blk]
  refine runs_seq ?_
  refine runs_reg (ops_run (by simp [lop, loud, callA, calleeA, callF_step h25, h25, oPrice, h0, fx, hd, cx1, cx2, rx, W_fit0, zQ, vP]; rfl) ?_)
  simp only [AEx.thn, AEx.blk]
  refine runs_seq ?_
  refine runs_block ?_
  refine runs_loop_inv (fun m σ => ∃ (k : Nat) (i : Int), i = k ∧ k = m ∧ k ≤ 100000 ∧ mostI (priceI q) money k = mostQ q money ∧ σ = ⟨[.any, I money, .ref 0 0 0, .any, .any, I i, .any, .any, .any, .any, .any, .any, .any, .any, .any, .any, .any, .any], [some (.row 11 [[I q.area, I q.board, I q.waste, I q.tool, I q.setup, I q.run, I q.work, I q.pallet, I q.freight, I q.margin, x]])]⟩) ?_ 100000 _ ⟨100000, 100000, rfl, rfl, Nat.le_refl _, (by unfold mostQ; rfl), by simp⟩
  rintro m σ ⟨k, i, hik, rfl, hk, hinv, rfl⟩
  by_cases hz : k = 0
  · subst hz
    obtain rfl : i = 0 := by omega
    refine runs_seq ?_
    refine runs_seq ?_
    refine runs_reg (ops_run (by simp [lop, loud, callA, calleeA, callF_step h25, h25, oPrice, h0, fx, hd, cx1, cx2, rx, W_fit0, zQ, vP]; rfl) ?_)
    simp only [AEx.thn, AEx.blk]
    refine runs_cond (x := false) (by simp) ?_
    have hinv' : mostQ q money = 0 := by rw [← hinv]; rfl
    refine runs_exit ?_
    simp only [AEx.thn, AEx.blk, if_true, if_false, reduceIte, Nat.reduceEqDiff, Nat.succ_ne_zero, Nat.one_ne_zero, Nat.zero_ne_one]
    refine runs_seq ?_
    refine runs_reg (ops_run (by simp [lop, loud, callA, calleeA, callF_step h25, h25, oPrice, h0, fx, hd, cx1, cx2, rx, W_fit0, zQ, vP]; rfl) ?_)
    simp only [AEx.thn, AEx.blk]
    refine runs_ret ?_
    simp [lop, loud, callA, calleeA, callF_step h25, h25, oPrice, h0, fx, hd, cx1, cx2, rx, W_fit0, zQ, vP, hinv']
  · obtain ⟨k, rfl⟩ : ∃ j, k = j + 1 := ⟨k - 1, by omega⟩
    have hi0 : 0 < i := by omega
    have hi1 : 1 ≤ i := by omega
    have hi2 : i ≤ 100000 := by omega
    have w1 : W .i64 (i - 1) = i - 1 := W_small (by omega)
    simp only [mostI] at hinv
    rw [← hik] at hinv
    by_cases hc : money < priceI q i
    · rw [if_pos hc] at hinv
      refine runs_seq ?_
      refine runs_seq ?_
      refine runs_reg (ops_run (by simp [lop, loud, callA, calleeA, callF_step h25, h25, oPrice, h0, fx, hd, cx1, cx2, rx, W_fit0, zQ, vP, hi0, hi1, hi2, w1, hc]; rfl) ?_)
      simp only [AEx.thn, AEx.blk]
      refine runs_cond (x := true) (by simp) ?_
      refine runs_skip ?_
      simp only [AEx.thn, AEx.blk]
      refine runs_block ?_
      refine runs_reg (ops_run (by simp [lop, loud, callA, calleeA, callF_step h25, h25, oPrice, h0, fx, hd, cx1, cx2, rx, W_fit0, zQ, vP, hi0, hi1, hi2, w1, hc]; rfl) ?_)
      simp only [AEx.thn, AEx.blk]
      exact ⟨k, by omega, k, i - 1, by omega, rfl, by omega, hinv, by simp⟩
    · rw [if_neg hc] at hinv
      refine runs_seq ?_
      refine runs_seq ?_
      refine runs_reg (ops_run (by simp [lop, loud, callA, calleeA, callF_step h25, h25, oPrice, h0, fx, hd, cx1, cx2, rx, W_fit0, zQ, vP, hi0, hi1, hi2, w1, hc]; rfl) ?_)
      simp only [AEx.thn, AEx.blk]
      refine runs_cond (x := false) (by simp) ?_
      refine runs_exit ?_
      simp only [AEx.thn, AEx.blk, if_true, if_false, reduceIte, Nat.reduceEqDiff, Nat.succ_ne_zero, Nat.one_ne_zero, Nat.zero_ne_one]
      refine runs_seq ?_
      refine runs_reg (ops_run (by simp [lop, loud, callA, calleeA, callF_step h25, h25, oPrice, h0, fx, hd, cx1, cx2, rx, W_fit0, zQ, vP, hi0, hi1, hi2, w1, hc]; rfl) ?_)
      simp only [AEx.thn, AEx.blk]
      refine runs_ret ?_
      simp [lop, loud, callA, calleeA, callF_step h25, h25, oPrice, h0, fx, hd, cx1, cx2, rx, W_fit0, zQ, vP, hi0, hi1, hi2, w1, hc, hinv]
noncomputable def PF_51 : Nat → Option CFn := upd PF3 51 true (oLowR)
theorem PF_51_ok : TabOk Try.prog GG PF_51 := tab_add mixed PF3_ok fun args v ho => by
  unfold oLowR at ho; split at ho <;> (try simp at ho)
  rename_i a b
  obtain ⟨hg, rfl⟩ := ho
  exact a51 Try.prog PF3 rfl a b ⟨hg.1.1, hg.2.1⟩ hg.1.2 hg.2.2
noncomputable def PF_21 : Nat → Option CFn := upd PF_51 21 true (oRefCheap)
theorem PF_21_ok : TabOk Try.prog GG PF_21 := tab_add mixed PF_51_ok fun args v ho => by
  unfold oRefCheap at ho; split at ho <;> (try simp at ho)
  rename_i v l r
  split at ho <;> (try simp at ho)
  rename_i q hq
  obtain ⟨x, rfl, hx, hl⟩ := dQ_eq hq
  try simp at ho
  obtain ⟨hg, rfl⟩ := ho
  exact a21 Try.prog PF_51 rfl rfl q x hx hl l r hg
noncomputable def PF : Nat → Option CFn := upd PF_21 24 true (oMost)
theorem PF_ok : TabOk Try.prog GG PF := tab_add mixed PF_21_ok fun args v ho => by
  unfold oMost at ho; split at ho <;> (try simp at ho)
  rename_i v n
  split at ho <;> (try simp at ho)
  rename_i q hq
  obtain ⟨x, rfl, hx, hl⟩ := dQ_eq hq
  try simp at ho
  obtain ⟨hg, rfl⟩ := ho
  exact a24 Try.prog PF_21 rfl rfl q x hx hl n hg
end
end Go.Proofs.Ytfnnonoffiljhaa.Tab

namespace Go.Proofs.Ytfnnonoffiljhaa.Tab
open Go Go.Abs Go.Proofs
set_option maxRecDepth 100000
set_option maxHeartbeats 4000000
set_option linter.unusedSimpArgs false
set_option linter.unusedVariables false
section
attribute [local simp] frz_int frz_bool frz_vl frz_pv frz_agg frz_tup frz_fn frz_ref frz_sl frz_nils optAll orcF rb_int rb_bool rb_agg rb_tup rb_int' rb_bool' rb_vl rb_pv rb_yld rb_nilf rb_nilp rb_nils rb_any rb_und rb_ref rb_sl rb_fn slE chunk fillA evParts evParts3 putAt List.range_succ List.range_zero List.range'_succ List.range'_zero runX_nil' unary_not evalS_pure evAll_nil evAll_cons runX_cons stepX wantedA dop CV.ev putK_eq setK_eq appK_eq fA_eq fI_eq fN_eq fRow_eq fRows_eq nth_eq Out.v putT List.replicate_succ AEx.thn AEx.blk arI pointee Abs.rowAt ldRow allV toV toC ofV ofC Builtin.min_ Builtin.min2 Builtin.max_ Builtin.max2 min_if max_if resA tupA kill trim_self trim_len trim_emp trim_nil lenA
attribute [local simp] runD_nil' runD_cons' stepD actK_eq actD clash disj masks holes maskH unmaskH diffs news eqB allB eqA ldRowN wrote toCs ofCs stA rowsV_vl rowsV_nils rowsOf dI1 dI2 dI3 dI5 elt
attribute [local simp] st_any st_und st_agg st_tup st_bool st_int st_nilp st_ref st_pv st_nils st_sl st_vl st_nilm st_mp st_fn st_nilf st_yld co_any co_und co_agg co_tup co_bool co_int co_nilp co_ref co_pv co_nils co_sl co_vl co_nilm co_mp co_fn co_nilf co_yld
theorem a18 (P : Program) (T : Nat → Option CFn) (hT : T 18 = some c18) (q : PQ) (x : AVal) (hx : rowsV x = some (q.steps.map rP)) (hl : q.steps.length ≤ 1000) : Answers P T 18 [vQ q x] [] fun v h => frz true h 5 v = some (vQ q (.vl (q.steps.map rP) (q.steps.length == 0))) := by
  simp only [vQ]
  refine answers_of hT (orcF_none rfl) ?_
  simp only [c18]
  refine runs_seq ?_
  refine runs_reg (ops_run (by simp; rfl) ?_)
  simp only [AEx.thn, AEx.blk]
  rcases rowsV_cases hx with ⟨rfl, hnil⟩ | ⟨t, rfl⟩
  · have hs0 : q.steps = [] := by simpa using hnil
    refine runs_seq ?_
    refine runs_reg (ops_run (by simp [lop, loud, callA, calleeA, vQ, hs0, lim]; rfl) ?_)
    simp only [AEx.thn, AEx.blk]
    refine runs_seq ?_
    refine runs_reg (ops_run (by simp [lop, loud, callA, calleeA, vQ, hs0, lim]; rfl) ?_)
    simp only [AEx.thn, AEx.blk]
    refine runs_ret ?_
    simp [lop, loud, callA, calleeA, vQ, hs0, lim, trim]
  · cases hs0 : q.steps with
    | nil =>
      simp only [hs0, List.map_nil]
      refine runs_seq ?_
      refine runs_reg (ops_run (by simp [lop, loud, callA, calleeA, vQ, hs0, lim]; rfl) ?_)
      simp only [AEx.thn, AEx.blk]
      refine runs_seq ?_
      refine runs_reg (ops_run (by simp [lop, loud, callA, calleeA, vQ, hs0, lim]; rfl) ?_)
      simp only [AEx.thn, AEx.blk]
      refine runs_ret ?_
      simp [lop, loud, callA, calleeA, vQ, hs0, lim, trim]
    | cons s l =>
      have hl1 : l.length + 1 ≤ 1048576 := by rw [hs0] at hl; simp at hl; omega
      have hl2 : l.length ≤ 1048575 := by omega
      simp only [hs0, List.map_cons]
      refine runs_seq ?_
      refine runs_reg (ops_run (by simp [lop, loud, callA, calleeA, vQ, hl1, hl2, hs0, List.all_map, Function.comp_def, rP, lim]; rfl) ?_)
      simp only [AEx.thn, AEx.blk]
      refine runs_seq ?_
      refine runs_reg (ops_run (by simp [lop, loud, callA, calleeA, vQ, hl1, hl2, hs0, List.all_map, Function.comp_def, rP, lim]; rfl) ?_)
      simp only [AEx.thn, AEx.blk]
      refine runs_ret ?_
      refine ⟨by simp, _, by simp; rfl, ?_⟩
      have e : frz true [some (.row 11 [[I q.area, I q.board, I q.waste, I q.tool, I q.setup, I q.run, I q.work, I q.pallet, I q.freight, I q.margin, .sl 3 0 (l.length + 1) false]]), some (.row 11 [[I q.area, I q.board, I q.waste, I q.tool, I q.setup, I q.run, I q.work, I q.pallet, I q.freight, I q.margin, .sl 3 0 (l.length + 1) false]]), some (.row 2 []), some (.row 2 (rP s :: l.map rP))] 4 (.sl 3 0 (l.length + 1) false) = some (.vl (rP s :: l.map rP) false) := frz_row true _ 3 3 _ 2 false (rP s :: l.map rP) rfl (by simp) (frz_rows true _ 2 _ fun r hr y hy => by
        simp only [List.mem_cons, List.mem_map] at hr
        rcases hr with rfl | ⟨a, _, rfl⟩ <;> (simp [rP] at hy; rcases hy with rfl | rfl <;> rfl))
      simp only [rP] at e
      simp [trim, vQ, hs0, rP, -frz_sl, e]
theorem eq106n (x y : Operand) (a0 a1 b0 b1 : Int) : evalS Try.prog (do eqGuard .neq 106 x y (.agg #[.int .i64 a0, .int .i64 a1]) (.agg #[.int .i64 b0, .int .i64 b1]); binOp .neq 106 (.agg #[.int .i64 a0, .int .i64 a1]) (.agg #[.int .i64 b0, .int .i64 b1])) = some (.bool (!((a0 == b0) && ((a1 == b1) && true)))) := by
  have h := evalS_eqv (P := Try.prog) (ne := true) (t := 106) (x := x) (y := y) (xs := #[.int .i64 a0, .int .i64 a1]) (ys := #[.int .i64 b0, .int .i64 b1]) (b := ((a0 == b0) && ((a1 == b1) && true))) (by kernel_rfl) (by kernel_rfl)
  simpa only [if_true, if_false, Bool.false_eq_true, Bool.bne_true, Bool.bne_false] using h
theorem eq106e (x y : Operand) (a0 a1 b0 b1 : Int) : evalS Try.prog (do eqGuard .eql 106 x y (.agg #[.int .i64 a0, .int .i64 a1]) (.agg #[.int .i64 b0, .int .i64 b1]); binOp .eql 106 (.agg #[.int .i64 a0, .int .i64 a1]) (.agg #[.int .i64 b0, .int .i64 b1])) = some (.bool (((a0 == b0) && ((a1 == b1) && true)))) := by
  have h := evalS_eqv (P := Try.prog) (ne := false) (t := 106) (x := x) (y := y) (xs := #[.int .i64 a0, .int .i64 a1]) (ys := #[.int .i64 b0, .int .i64 b1]) (b := ((a0 == b0) && ((a1 == b1) && true))) (by kernel_rfl) (by kernel_rfl)
  simpa only [if_true, if_false, Bool.false_eq_true, Bool.bne_true, Bool.bne_false] using h
theorem a20 (T : Nat → Option CFn) (hT : T 20 = some c20) (q : PQ) (x y : AVal) (hx : rowsV x = some (q.steps.map rP)) (hy : rowsV y = some (q.steps.map rP)) (hl : q.steps.length ≤ 1000) : Answers Try.prog T 20 [vQ q x, vQ q y] [] fun v h => frz true h 5 v = some (.bool true) := by
  have lx := rowsV_len hx
  rw [List.length_map] at lx
  have ly := rowsV_len hy
  rw [List.length_map] at ly
  obtain ⟨cx1, cx2⟩ := rowsV_cells hx
  obtain ⟨cy1, cy2⟩ := rowsV_cells hy
  have rx := fun n d => rowsV_rb hx n d
  have ry := fun n d => rowsV_rb hy n d
  simp only [vQ]
  refine answers_of hT (orcF_none rfl) ?_
  simp only [c20]
  refine runs_seq ?_
  refine runs_reg (ops_run (by simp [lop, loud, callA, calleeA, lx, ly, -lenA, cx1, cx2, cy1, cy2, rx, ry]; rfl) ?_)
  simp only [AEx.thn, AEx.blk]
  refine runs_seq ?_
  refine runs_seq ?_
  refine runs_reg (ops_run (by simp [lop, loud, callA, calleeA, lx, ly, -lenA, cx1, cx2, cy1, cy2, rx, ry]; rfl) ?_)
  simp only [AEx.thn, AEx.blk]
  refine runs_cond (x := false) (by simp) ?_
  refine runs_skip ?_
  simp only [AEx.thn, AEx.blk]
  refine runs_seq ?_
  refine runs_seq ?_
  refine runs_reg (ops_run (by simp [lop, loud, callA, calleeA, lx, ly, -lenA, cx1, cx2, cy1, cy2, rx, ry]; rfl) ?_)
  simp only [AEx.thn, AEx.blk]
  refine runs_block ?_
  refine runs_loop_inv (fun m σ => ∃ (k : Nat) (i : Int), i = k ∧ q.steps.length - k = m ∧ k ≤ q.steps.length ∧ σ = ⟨[.any, .any, .ref 0 0 0, .ref 1 0 0, .any, I i, .any, .any, .any, .any, .any, .any, .any, .any, .any, .any, .any, .any, .any, .any, .any, .any, .any, .any, .any, .any, .any, .any, .any, .any, .any, .any, .any, .any, .any, .any, .any, .any, .any, .any, .any, .any, .any, .any, .any, .any, .any, .any, .any, .any, .any, .any, .any, .any, .any, .any, .any, .any, .any, .any, .any, .any, .any, .any, .any, .any, .any, .any, .any, .any, .any, .any, .any, .any, .any, .any, .any, .any, .any, .any, .any, .any, .any, .any, .any, .any, .any, .any, .any, .any, .any, .any, .any, .any, .any, .any, .any, .any, .any], [some (.row 11 [[I q.area, I q.board, I q.waste, I q.tool, I q.setup, I q.run, I q.work, I q.pallet, I q.freight, I q.margin, x]]), some (.row 11 [[I q.area, I q.board, I q.waste, I q.tool, I q.setup, I q.run, I q.work, I q.pallet, I q.freight, I q.margin, y]])]⟩) ?_ (q.steps.length - 0) _ ⟨0, 0, rfl, rfl, Nat.zero_le _, by simp⟩
  rintro m σ ⟨k, i, hik, rfl, hkl, rfl⟩
  refine runs_seq ?_
  refine runs_seq ?_
  refine runs_reg (ops_run (by simp [lop, loud, callA, calleeA, lx, ly, -lenA, cx1, cx2, cy1, cy2, rx, ry]; rfl) ?_)
  simp only [AEx.thn, AEx.blk]
  refine runs_cond_split (x := decide (i < (q.steps.length : Int))) (by simp) (fun hlt => ?_) (fun hlt => ?_)
  · have hlt := of_decide_eq_true hlt
    have hk0 : k < q.steps.length := by omega
    obtain ⟨t1, rfl⟩ := rowsV_get hx (k := k) (by rw [List.length_map]; omega)
    obtain ⟨t2, rfl⟩ := rowsV_get hy (k := k) (by rw [List.length_map]; omega)
    have h0 : 0 ≤ i := by omega
    have htn : i.toNat = k := by omega
    have hwi : W .i64 (i + 1) = i + 1 := W_small (by omega)
    generalize hs : q.steps[k] = s at *
    obtain ⟨s1, s2⟩ := s
    refine runs_skip ?_
    simp only [AEx.thn, AEx.blk]
    refine runs_seq ?_
    refine runs_block ?_
    refine runs_seq ?_
    refine runs_drw (by simp (maxSteps := 3000000) [lop, loud, callA, calleeA, lx, ly, -lenA, cx1, cx2, cy1, cy2, rx, ry, h0, htn, hk0, hs, rP, hwi, eq106n]; rfl) ?_
    simp only [AEx.thn, AEx.blk]
    refine runs_cond (x := false) (by simp) ?_
    refine runs_skip ?_
    simp only [AEx.thn, AEx.blk]
    refine runs_reg (ops_run (by simp [lop, loud, callA, calleeA, lx, ly, -lenA, cx1, cx2, cy1, cy2, rx, ry, h0, htn, hk0, hs, rP, hwi, eq106n]; rfl) ?_)
    simp only [AEx.thn, AEx.blk]
    exact ⟨q.steps.length - (k + 1), by omega, k + 1, i + 1, by omega, rfl, by omega, by simp [trim, rbB, lop, loud, callA, calleeA, lx, ly, -lenA, cx1, cx2, cy1, cy2, rx, ry, h0, htn, hk0, hs, rP, hwi, eq106n]⟩
  · refine runs_exit ?_
    simp only [AEx.thn, AEx.blk, if_true, if_false, reduceIte, Nat.reduceEqDiff, Nat.succ_ne_zero, Nat.one_ne_zero, Nat.zero_ne_one]
    refine runs_seq ?_
    refine runs_reg (ops_run (by simp [lop, loud, callA, calleeA, lx, ly, -lenA, cx1, cx2, cy1, cy2, rx, ry]; rfl) ?_)
    simp only [AEx.thn, AEx.blk]
    refine runs_ret ?_
    simp [lop, loud, callA, calleeA, lx, ly, -lenA, cx1, cx2, cy1, cy2, rx, ry]
noncomputable def PG1_18 : Nat → Option CFn := upd PF 18 true (oOwnQ)
theorem PG1_18_ok : TabOk Try.prog GG PG1_18 := tab_add mixed PF_ok fun args v ho => by
  unfold oOwnQ at ho; split at ho <;> (try simp at ho)
  rename_i v
  split at ho <;> (try simp at ho)
  rename_i q hq
  obtain ⟨x, rfl, hx, hl⟩ := dQ_eq hq
  try simp at ho
  subst ho
  exact a18 Try.prog PF rfl q x hx hl
noncomputable def PG1 : Nat → Option CFn := upd PG1_18 20 true (oSameQ)
theorem PG1_ok : TabOk Try.prog GG PG1 := tab_add mixed PG1_18_ok fun args v ho => by
  unfold oSameQ at ho; split at ho <;> (try simp at ho)
  rename_i v u
  split at ho <;> (try simp at ho)
  rename_i q q' hq hq'
  obtain ⟨⟨h1, h2, h3, h4, h5, h6, h7, h8, h9, h10, h11⟩, rfl⟩ := ho
  obtain ⟨x, rfl, hx, hl⟩ := dQ_eq hq
  obtain ⟨y, rfl, hy, hl'⟩ := dQ_eq hq'
  have e : vQ q' y = vQ q y := by simp only [vQ, h2, h3, h4, h5, h6, h7, h8, h9, h10, h11]
  rw [e]
  rw [← h1] at hy
  exact a20 PG1_18 rfl q x y hx hy hl
end
end Go.Proofs.Ytfnnonoffiljhaa.Tab

namespace Go.Proofs.Ytfnnonoffiljhaa.Tab
open Go Go.Abs Go.Proofs
set_option maxRecDepth 1000000
noncomputable def kBook (es : List (List AVal)) (t : Bool) : AVal := .agg [.vl [[I 100], [I 0], [I 0]] true, .vl [[I 40], [I 35], [I 25]] true, .vl es t]
noncomputable def kB1 : AVal := kBook [[I 0, I 1, I 60], [I 1, I 2, I (-1)]] true
noncomputable def kB2 : AVal := kBook [[I 0, I 1, I 60], [I 1, I 2, I (-1)], [I 2, I 1, I (-1)]] false
noncomputable def kB3 : AVal := kBook [[I 0, I 1, I 60], [I 1, I 2, I 20]] true
theorem k29a : isR (.tup [.vl [[I 60, I 60], [I 25, I 25]] false, I 0]) (callF PG1 (exec Try.prog PG1 3000) 29 [kB1] []) = true := by kernel_rfl
theorem k29b : isR (.tup [.vl [[I 60, I 60], [I 25, I 1000000], [I 0, I 999975]] false, I 0]) (callF PG1 (exec Try.prog PG1 3000) 29 [kB2] []) = true := by kernel_rfl
noncomputable def L29 : List (List AVal × AVal) := [([kB1], .tup [.vl [[I 60, I 60], [I 25, I 25]] false, I 0]), ([kB2], .tup [.vl [[I 60, I 60], [I 25, I 1000000], [I 0, I 999975]] false, I 0])]
noncomputable def PK1 : Nat → Option CFn := upd PG1 29 true (oAt L29)
theorem PK1_ok : TabOk Try.prog GG PK1 := tab_add mixed PG1_ok (oAt_ok fun p hp => by
  simp only [L29, List.mem_cons, List.not_mem_nil, or_false] at hp
  rcases hp with rfl | rfl
  · exact isR_answers k29a
  · exact isR_answers k29b)
theorem k37 : isR (.tup [.vl [[I 1, I 1, I 2, I 25]] false, I 0]) (callF PK1 (exec Try.prog PK1 3000) 37 [kB3] []) = true := by kernel_rfl
noncomputable def L37 : List (List AVal × AVal) := [([kB3], .tup [.vl [[I 1, I 1, I 2, I 25]] false, I 0])]
noncomputable def PK2 : Nat → Option CFn := upd PK1 37 true (oAt L37)
theorem PK2_ok : TabOk Try.prog GG PK2 := tab_add mixed PK1_ok (oAt_ok fun p hp => by
  simp only [L37, List.mem_cons, List.not_mem_nil, or_false] at hp
  subst hp
  exact isR_answers k37)
theorem kn : isR (.bool true) (callF PK2 (exec Try.prog PK2 3000) 17 [] []) = true := by kernel_rfl
def oKn : List AVal → Option AVal
  | [] => some (.bool true)
  | _ => none
noncomputable def PK : Nat → Option CFn := upd PK2 17 true oKn
theorem PK_ok : TabOk Try.prog GG PK := tab_add mixed PK2_ok fun args v ho => by
  unfold oKn at ho; split at ho <;> simp at ho
  subst ho
  exact isR_answers kn
end Go.Proofs.Ytfnnonoffiljhaa.Tab
