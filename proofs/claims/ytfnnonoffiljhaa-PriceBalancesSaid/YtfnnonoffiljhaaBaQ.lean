/- Contracts of price: within, isCount, what open asks of steps. No condition. -/
import Derived.Test.YtfnnonoffiljhaaBaC
import Derived.Test.YtfnnonoffiljhaaBaK
import Derived.Test.YtfnnonoffiljhaaBaP
set_option linter.unusedSimpArgs false
set_option linter.unusedVariables false
namespace Go.Proofs.Ytfnnonoffiljhaa.Tab
open Go Go.Abs Go.Proofs
set_option maxRecDepth 100000
set_option maxHeartbeats 4000000
set_option linter.unusedSimpArgs false
set_option linter.unusedVariables false
section
attribute [local simp] frz_int frz_bool frz_vl frz_pv frz_agg frz_tup frz_fn frz_ref frz_sl frz_nils optAll orcF rb_int rb_bool rb_agg rb_tup rb_int' rb_bool' rb_vl rb_pv rb_yld rb_nilf rb_nilp rb_nils rb_any rb_und rb_ref rb_sl rb_fn slE chunk fillA evParts evParts3 putAt List.range_succ List.range_zero List.range'_succ List.range'_zero runX_nil' unary_not evalS_pure evAll_nil evAll_cons runX_cons stepX wantedA dop CV.ev putK_eq setK_eq appK_eq fA_eq fI_eq fN_eq fRow_eq fRows_eq nth_eq Out.v putT List.replicate_succ AEx.thn AEx.blk arI pointee Abs.rowAt ldRow allV toV toC ofV ofC Builtin.min_ Builtin.min2 Builtin.max_ Builtin.max2 min_if max_if resA tupA kill trim_self trim_len trim_emp trim_nil lenA
attribute [local simp] runD_nil' runD_cons' stepD actK_eq actD clash disj masks holes maskH unmaskH diffs news eqB allB eqA ldRowN wrote toCs ofCs stA rowsV_vl rowsV_nils rowsOf dI1 dI2 dI3 dI5 elt
attribute [local simp] st_any st_und st_agg st_tup st_bool st_int st_nilp st_ref st_pv st_nils st_sl st_vl st_nilm st_mp st_fn st_nilf st_yld co_any co_und co_agg co_tup co_bool co_int co_nilp co_ref co_pv co_nils co_sl co_vl co_nilm co_mp co_fn co_nilf co_yld
/-- Integers lie between two others. -/
def wB (a b : Int) (xs : List Int) : Bool := xs.all fun x => decide (a ≤ x) && decide (x ≤ b)
def oWc : List AVal → Option AVal
  | [.int .i64 x, .pv [.int .i64 a] 0, .pv [.int .i64 b] 0] => some (.bool (decide (x < a) || decide (b < x)))
  | _ => none
def oWithin : List AVal → Option AVal
  | [.int .i64 a, .int .i64 b, x] => match rowsV x with
    | some rs => match optAll dI1 rs with
      | some xs => if xs.length ≤ 1000 then some (.bool (wB a b xs)) else none
      | none => none
    | none => none
  | _ => none

theorem a94 (P : Program) (T : Nat → Option CFn) (hT : T 94 = some c94) (x a b : Int) : Answers P T 94 [I x, .pv [I a] 0, .pv [I b] 0] [] fun v h => frz true h 5 v = some (.bool (decide (x < a) || decide (b < x))) := by
  refine answers_of hT (orcF_none rfl) ?_
  simp only [c94]
  by_cases hx : x < a
  · refine runs_seq ?_
    refine runs_reg (ops_run (by simp [lop, loud, callA, calleeA, hx]; rfl) ?_)
    simp only [AEx.thn, AEx.blk]
    refine runs_seq ?_
    refine runs_reg (ops_run (by simp [lop, loud, callA, calleeA, hx]; rfl) ?_)
    simp only [AEx.thn, AEx.blk]
    refine runs_ret ?_
    simp [lop, loud, callA, calleeA, hx]
  · refine runs_seq ?_
    refine runs_reg (ops_run (by simp [lop, loud, callA, calleeA, hx]; rfl) ?_)
    simp only [AEx.thn, AEx.blk]
    refine runs_seq ?_
    refine runs_reg (ops_run (by simp [lop, loud, callA, calleeA, hx]; rfl) ?_)
    simp only [AEx.thn, AEx.blk]
    refine runs_ret ?_
    simp [lop, loud, callA, calleeA, hx]
theorem a106 (P : Program) (T : Nat → Option CFn) (hT : T 106 = some c106) (x : AVal) (rs : List (List AVal)) (hx : rowsV x = some rs) (g : Nat) (a b : List AVal) (r : Int) (hl : rs.length ≤ 1000) (hr : rs.all (fun r => r.length == 1 && r.all isI) = true)
    (hq : idxA (fun r => known T g (a ++ [elt r] ++ b)) 0 rs = some r) : Answers P T 106 [x, .fn g a b] [] fun v h => v = .int .i64 r ∧ h = [] := by
  have lx := rowsV_len hx
  refine answers_of hT (orcF_none rfl) ?_
  simp only [c106]
  refine runs_seq (runs_reg (ops_run (by simp; rfl) ?_))
  simp only [AEx.thn, AEx.blk]
  refine runs_seq (runs_seq (runs_reg (ops_run (by simp [lx, -lenA]; rfl) ?_)))
  simp only [AEx.thn, AEx.blk]
  refine runs_block ?_
  refine runs_loop_inv (fun m σ => ∃ (k : Nat) (i : Int), i = k ∧ m = rs.length - k ∧ k ≤ rs.length ∧ idxA (fun r => known T g (a ++ [elt r] ++ b)) k (rs.drop k) = some r ∧
    σ = ⟨[x, .fn g a b, .any, .any, .any, .any, .any, I rs.length, I i, .any, .any, .any, .any, .any, .any, .any, .any, .any, .any], []⟩) ?_ (rs.length - 0) _ ⟨0, 0, rfl, rfl, Nat.zero_le _, hq, by simp⟩
  rintro m σ ⟨k, i, hik, rfl, hk, hi, rfl⟩
  have h0 : 0 ≤ i := by omega
  have htn : i.toNat = k := by omega
  refine runs_seq (runs_reg (ops_run (by simp; rfl) ?_))
  simp only [AEx.thn, AEx.blk]
  refine runs_seq (runs_cond_split (x := decide (i < rs.length)) (by simp) (fun hlt => ?_) (fun hge => ?_))
  · refine runs_skip ?_
    simp only [AEx.thn, AEx.blk]
    have hlt' : k < rs.length := by have := of_decide_eq_true hlt; omega
    obtain ⟨tt, rfl⟩ := rowsV_get hx hlt'
    have hr1 := List.all_eq_true.1 hr _ (List.getElem_mem hlt')
    simp only [Bool.and_eq_true, beq_iff_eq, List.all_eq_true] at hr1
    obtain ⟨y0, hrk⟩ := ints1 hr1.1 hr1.2
    rw [List.drop_eq_getElem_cons hlt'] at hi
    simp only [idxA] at hi
    refine runs_seq (runs_block ?_)
    refine runs_seq (runs_reg (ops_run (by simp; rfl) ?_))
    simp only [AEx.thn, AEx.blk]
    split at hi
    · rename_i hb
      simp at hi; rw [← hik] at hi; subst hi
      rw [hrk] at hb; simp only [elt, List.append_assoc, List.cons_append, List.nil_append] at hb
      refine runs_seq (runs_reg (ops_run (by simp [h0, htn, hlt', hrk, lop, loud, callA, calleeA, callF_known hb]; rfl) ?_))
      simp only [AEx.thn, AEx.blk]
      refine runs_cond (x := true) (by simp) ?_
      refine runs_seq (runs_reg (ops_run (by simp; rfl) ?_))
      simp only [AEx.thn, AEx.blk]
      refine runs_ret ?_
      simp
    · rename_i hb
      rw [hrk] at hb; simp only [elt, List.append_assoc, List.cons_append, List.nil_append] at hb
      refine runs_seq (runs_reg (ops_run (by simp [h0, htn, hlt', hrk, lop, loud, callA, calleeA, callF_known hb]; rfl) ?_))
      simp only [AEx.thn, AEx.blk]
      refine runs_cond (x := false) (by simp) ?_
      refine runs_skip ?_
      simp only [AEx.thn, AEx.blk]
      refine runs_reg (ops_run (by simp; rfl) ?_)
      simp only [AEx.thn, AEx.blk]
      refine ⟨rs.length - (k + 1), by omega, k + 1, i + 1, by omega, rfl, by omega, hi, ?_⟩
      simp [W_small (show -1000000 ≤ i + 1 ∧ i + 1 ≤ 1000000 by omega)]
    · simp at hi
  · refine runs_exit ?_
    simp only [AEx.thn, AEx.blk, if_true]
    have hke : k = rs.length := by
      have := of_decide_eq_false hge
      omega
    subst hke
    rw [List.drop_length] at hi
    simp [idxA] at hi
    subst hi
    refine runs_seq (runs_reg (ops_run (by simp; rfl) ?_))
    simp only [AEx.thn, AEx.blk]
    refine runs_ret ?_
    simp

theorem a93 (P : Program) (T : Nat → Option CFn) (hT : T 93 = some c93) (hj : T 106 = some c106) (x : AVal) (rs : List (List AVal)) (hx : rowsV x = some rs) (g : Nat) (a b : List AVal) (r : Int) (hl : rs.length ≤ 1000) (hr : rs.all (fun r => r.length == 1 && r.all isI) = true)
    (hq : idxA (fun r => known T g (a ++ [elt r] ++ b)) 0 rs = some r) : Answers P T 93 [x, .fn g a b] [] fun v h => v = .bool (decide (0 ≤ r)) ∧ h = [] := by
  refine answers_of hT (orcF_none rfl) ?_
  simp only [c93]
  refine runs_seq (runs_reg (ops_run (by simp; rfl) ?_))
  simp only [AEx.thn, AEx.blk]
  refine runs_seq (runs_reg ?_)
  refine ops_cons 0 (by simp; rfl) (ops_cons 0 (by simp; rfl) ?_)
  refine ops_call (f := 106) (args := [x, .fn g a b]) (by simp) (by simp) (by simp [lop]) (by simp [calleeA]) ?_
  refine (a106 P T hj x rs hx g a b r hl hr hq).mono ?_
  rintro v h' ⟨rfl, rfl⟩
  refine ops_run (by simp; rfl) ?_
  simp only [AEx.thn, AEx.blk]
  refine runs_ret ?_
  simp

theorem a104 (P : Program) (T : Nat → Option CFn) (hT : T 104 = some c104) (x : AVal) (rs : List (List AVal)) (hx : rowsV x = some rs) (g : Nat) (a b : List AVal) (r : Int) (hl : rs.length ≤ 1000) (hr : rs.all (fun r => r.length == 2 && r.all isI) = true)
    (hq : idxA (fun r => known T g (a ++ [elt r] ++ b)) 0 rs = some r) : Answers P T 104 [x, .fn g a b] [] fun v h => v = .int .i64 r ∧ h = [] := by
  have lx := rowsV_len hx
  refine answers_of hT (orcF_none rfl) ?_
  simp only [c104]
  refine runs_seq (runs_reg (ops_run (by simp; rfl) ?_))
  simp only [AEx.thn, AEx.blk]
  refine runs_seq (runs_seq (runs_reg (ops_run (by simp [lx, -lenA]; rfl) ?_)))
  simp only [AEx.thn, AEx.blk]
  refine runs_block ?_
  refine runs_loop_inv (fun m σ => ∃ (k : Nat) (i : Int), i = k ∧ m = rs.length - k ∧ k ≤ rs.length ∧ idxA (fun r => known T g (a ++ [elt r] ++ b)) k (rs.drop k) = some r ∧
    σ = ⟨[x, .fn g a b, .any, .any, .any, .any, .any, I rs.length, I i, .any, .any, .any, .any, .any, .any, .any, .any, .any, .any], []⟩) ?_ (rs.length - 0) _ ⟨0, 0, rfl, rfl, Nat.zero_le _, hq, by simp⟩
  rintro m σ ⟨k, i, hik, rfl, hk, hi, rfl⟩
  have h0 : 0 ≤ i := by omega
  have htn : i.toNat = k := by omega
  refine runs_seq (runs_reg (ops_run (by simp; rfl) ?_))
  simp only [AEx.thn, AEx.blk]
  refine runs_seq (runs_cond_split (x := decide (i < rs.length)) (by simp) (fun hlt => ?_) (fun hge => ?_))
  · refine runs_skip ?_
    simp only [AEx.thn, AEx.blk]
    have hlt' : k < rs.length := by have := of_decide_eq_true hlt; omega
    obtain ⟨tt, rfl⟩ := rowsV_get hx hlt'
    have hr1 := List.all_eq_true.1 hr _ (List.getElem_mem hlt')
    simp only [Bool.and_eq_true, beq_iff_eq, List.all_eq_true] at hr1
    obtain ⟨y0, y1, hrk⟩ := ints2 hr1.1 hr1.2
    rw [List.drop_eq_getElem_cons hlt'] at hi
    simp only [idxA] at hi
    refine runs_seq (runs_block ?_)
    refine runs_seq (runs_reg (ops_run (by simp; rfl) ?_))
    simp only [AEx.thn, AEx.blk]
    split at hi
    · rename_i hb
      simp at hi; rw [← hik] at hi; subst hi
      rw [hrk] at hb; simp only [elt, List.append_assoc, List.cons_append, List.nil_append] at hb
      refine runs_seq (runs_reg (ops_run (by simp [h0, htn, hlt', hrk, lop, loud, callA, calleeA, callF_known hb]; rfl) ?_))
      simp only [AEx.thn, AEx.blk]
      refine runs_cond (x := true) (by simp) ?_
      refine runs_seq (runs_reg (ops_run (by simp; rfl) ?_))
      simp only [AEx.thn, AEx.blk]
      refine runs_ret ?_
      simp
    · rename_i hb
      rw [hrk] at hb; simp only [elt, List.append_assoc, List.cons_append, List.nil_append] at hb
      refine runs_seq (runs_reg (ops_run (by simp [h0, htn, hlt', hrk, lop, loud, callA, calleeA, callF_known hb]; rfl) ?_))
      simp only [AEx.thn, AEx.blk]
      refine runs_cond (x := false) (by simp) ?_
      refine runs_skip ?_
      simp only [AEx.thn, AEx.blk]
      refine runs_reg (ops_run (by simp; rfl) ?_)
      simp only [AEx.thn, AEx.blk]
      refine ⟨rs.length - (k + 1), by omega, k + 1, i + 1, by omega, rfl, by omega, hi, ?_⟩
      simp [W_small (show -1000000 ≤ i + 1 ∧ i + 1 ≤ 1000000 by omega)]
    · simp at hi
  · refine runs_exit ?_
    simp only [AEx.thn, AEx.blk, if_true]
    have hke : k = rs.length := by
      have := of_decide_eq_false hge
      omega
    subst hke
    rw [List.drop_length] at hi
    simp [idxA] at hi
    subst hi
    refine runs_seq (runs_reg (ops_run (by simp; rfl) ?_))
    simp only [AEx.thn, AEx.blk]
    refine runs_ret ?_
    simp

theorem a88 (P : Program) (T : Nat → Option CFn) (hT : T 88 = some c88) (hj : T 104 = some c104) (x : AVal) (rs : List (List AVal)) (hx : rowsV x = some rs) (g : Nat) (a b : List AVal) (r : Int) (hl : rs.length ≤ 1000) (hr : rs.all (fun r => r.length == 2 && r.all isI) = true)
    (hq : idxA (fun r => known T g (a ++ [elt r] ++ b)) 0 rs = some r) : Answers P T 88 [x, .fn g a b] [] fun v h => v = .bool (decide (0 ≤ r)) ∧ h = [] := by
  refine answers_of hT (orcF_none rfl) ?_
  simp only [c88]
  refine runs_seq (runs_reg (ops_run (by simp; rfl) ?_))
  simp only [AEx.thn, AEx.blk]
  refine runs_seq (runs_reg ?_)
  refine ops_cons 0 (by simp; rfl) (ops_cons 0 (by simp; rfl) ?_)
  refine ops_call (f := 104) (args := [x, .fn g a b]) (by simp) (by simp) (by simp [lop]) (by simp [calleeA]) ?_
  refine (a104 P T hj x rs hx g a b r hl hr hq).mono ?_
  rintro v h' ⟨rfl, rfl⟩
  refine ops_run (by simp; rfl) ?_
  simp only [AEx.thn, AEx.blk]
  refine runs_ret ?_
  simp

theorem T_ok : TabOk Try.prog GG T := tabOk
noncomputable def PA1 : Nat → Option CFn := upd T 94 true (oWc)
theorem PA1_ok : TabOk Try.prog GG PA1 := tab_add mixed T_ok fun args v ho => by
  unfold oWc at ho; split at ho <;> simp at ho
  rename_i x a b
  subst ho
  exact a94 Try.prog T rfl x a b
noncomputable def PA2 : Nat → Option CFn := upd PA1 93 true (oCF PA1 1)
theorem PA2_ok : TabOk Try.prog GG PA2 := tab_add mixed PA1_ok fun args v ho => by
  unfold oCF at ho; split at ho <;> (try simp at ho)
  rename_i x g a b
  split at ho <;> (try simp at ho)
  rename_i rs hx
  obtain ⟨⟨hl, hr⟩, ho⟩ := ho
  split at ho <;> simp at ho
  rename_i r hq
  subst ho
  refine (a93 Try.prog PA1 rfl rfl x rs hx g a b r hl (by simpa using hr) (by simpa using hq)).mono ?_
  rintro v h ⟨rfl, rfl⟩
  rfl
theorem a65 (P : Program) (T : Nat → Option CFn) (hT : T 65 = some c65) (h93 : T 93 = some { c93 with frsh := true, orc := oCF PA1 1 }) (a b : Int) (x : AVal) (xs : List Int) (hx : rowsV x = some (xs.map fun x => [I x])) (hl : xs.length ≤ 1000) :
    Answers P T 65 [I a, I b, x] [] fun v h => frz true h 5 v = some (.bool (wB a b xs)) := by
  have hcf : oCF PA1 1 [x, .fn 94 [] [.pv [I a] 0, .pv [I b] 0]] = some (.bool ((xs.map fun x => [I x]).any fun r => match r with | [.int .i64 n] => decide (n < a) || decide (b < n) | _ => false)) := by
    refine oCF_any hx (by simpa using hl) (by simp [isI]) ?_
    intro r hr
    obtain ⟨n, _, rfl⟩ := List.mem_map.1 hr
    rfl
  have hv : (!((xs.map fun x => [I x]).any fun r => match r with | [.int .i64 n] => decide (n < a) || decide (b < n) | _ => false)) = wB a b xs := by
    simp only [wB, List.any_map, List.not_any_eq_all_not]
    congr 1
    funext n
    simp only [Function.comp]
    rw [Bool.eq_iff_iff]
    simp
  rw [← hv]
  generalize hbb : ((xs.map fun x => [I x]).any fun r => match r with | [.int .i64 n] => decide (n < a) || decide (b < n) | _ => false) = bb at hcf
  refine answers_of hT (orcF_none rfl) ?_
  simp only [c65]
  refine runs_seq (runs_reg (ops_run (by simp; rfl) ?_))
  simp only [AEx.thn, AEx.blk]
  refine runs_seq (runs_reg (ops_run (by simp [lop, loud, callA, calleeA, callF_step h93, rowsV_frz hx, hcf]; rfl) ?_))
  simp only [AEx.thn, AEx.blk]
  refine runs_ret ?_
  simp

noncomputable def PA3 : Nat → Option CFn := upd PA2 65 true (oWithin)
theorem PA3_ok : TabOk Try.prog GG PA3 := tab_add mixed PA2_ok fun args v ho => by
  unfold oWithin at ho; split at ho <;> (try simp at ho)
  rename_i a b x
  split at ho <;> (try simp at ho)
  rename_i rs hx
  split at ho <;> (try simp at ho)
  rename_i xs hxs
  obtain ⟨hl, rfl⟩ := ho
  have e := optAll_eq dI1_eq hxs
  subst e
  exact a65 Try.prog PA2 rfl rfl a b x xs hx hl
def oIsCount : List AVal → Option AVal
  | [x] => match rowsV x with
    | some rs => match optAll dI1 rs with
      | some xs => if xs.length ≤ 1000 then some (.bool (wB 1 100000 xs)) else none
      | none => none
    | none => none
  | _ => none
theorem dI1_self : ∀ (xs : List Int), optAll dI1 (xs.map fun x => [I x]) = some xs := optAll_map (d := dI1) (enc := fun x => [I x]) fun _ => rfl
theorem oWithin_eq {x : AVal} {xs : List Int} (a b : Int) (hx : rowsV x = some (xs.map fun x => [I x])) (hl : xs.length ≤ 1000) : oWithin [I a, I b, x] = some (.bool (wB a b xs)) := by
  simp only [oWithin, hx, dI1_self, hl, if_true]
theorem a58 (P : Program) (T : Nat → Option CFn) (hT : T 58 = some c58) (h65 : T 65 = some { c65 with frsh := true, orc := oWithin }) (x : AVal) (xs : List Int) (hx : rowsV x = some (xs.map fun x => [I x])) (hl : xs.length ≤ 1000) : Answers P T 58 [x] [] fun v h => frz true h 5 v = some (.bool (wB 1 100000 xs)) := by
  refine answers_of hT (orcF_none rfl) ?_
  simp only [c58]
  refine runs_seq ?_
  refine runs_reg (ops_run (by simp [lop, loud, callA, calleeA, callF_step h65, h65, rowsV_frz hx, oWithin_eq 1 100000 hx hl]; rfl) ?_)
  simp only [AEx.thn, AEx.blk]
  refine runs_seq ?_
  refine runs_reg (ops_run (by simp [lop, loud, callA, calleeA, callF_step h65, h65, rowsV_frz hx, oWithin_eq 1 100000 hx hl]; rfl) ?_)
  simp only [AEx.thn, AEx.blk]
  refine runs_ret ?_
  simp [lop, loud, callA, calleeA, callF_step h65, h65, rowsV_frz hx, oWithin_eq 1 100000 hx hl]
noncomputable def PA4 : Nat → Option CFn := upd PA3 58 true (oIsCount)
theorem PA4_ok : TabOk Try.prog GG PA4 := tab_add mixed PA3_ok fun args v ho => by
  unfold oIsCount at ho; split at ho <;> (try simp at ho)
  rename_i x
  split at ho <;> (try simp at ho)
  rename_i rs hx
  split at ho <;> (try simp at ho)
  rename_i xs hxs
  obtain ⟨hl, rfl⟩ := ho
  have e := optAll_eq dI1_eq hxs
  subst e
  exact a58 Try.prog PA3 rfl rfl x xs hx hl
theorem wB_one (a b n : Int) : wB a b [n] = inI a n b := by simp [wB, inI]
def oStepBad : List AVal → Option AVal
  | [.agg [.int .i64 f, .int .i64 o]] => some (.bool (!stepOkI (f, o)))
  | _ => none
def oStepCmp : List AVal → Option AVal
  | [.agg [.int .i64 f, .int .i64 o], .agg [.int .i64 g, .int .i64 p]] => some (I (if f ≤ g then -1 else 1))
  | _ => none
theorem a85 (P : Program) (T : Nat → Option CFn) (hT : T 85 = some c85) (h58 : T 58 = some { c58 with frsh := true, orc := oIsCount }) (h65 : T 65 = some { c65 with frsh := true, orc := oWithin }) (f o : Int) : Answers P T 85 [.agg [I f, I o]] [] fun v h => frz true h 5 v = some (.bool (!stepOkI (f, o))) := by
  refine answers_of hT (orcF_none rfl) ?_
  simp only [c85]
  unfold stepOkI
  cases hb : inI 1 f 100000
  · refine runs_seq ?_
    refine runs_reg (ops_run (by simp [lop, loud, callA, calleeA, callF_step h58, h58, callF_step h65, h65, oIsCount, oWithin, wB_one, hb]; rfl) ?_)
    simp only [AEx.thn, AEx.blk]
    refine runs_seq ?_
    refine runs_reg (ops_run (by simp [lop, loud, callA, calleeA, callF_step h58, h58, callF_step h65, h65, oIsCount, oWithin, wB_one, hb]; rfl) ?_)
    simp only [AEx.thn, AEx.blk]
    refine runs_ret ?_
    simp [lop, loud, callA, calleeA, callF_step h58, h58, callF_step h65, h65, oIsCount, oWithin, wB_one, hb]
  · refine runs_seq ?_
    refine runs_reg (ops_run (by simp [lop, loud, callA, calleeA, callF_step h58, h58, callF_step h65, h65, oIsCount, oWithin, wB_one, hb]; rfl) ?_)
    simp only [AEx.thn, AEx.blk]
    refine runs_seq ?_
    refine runs_reg (ops_run (by simp [lop, loud, callA, calleeA, callF_step h58, h58, callF_step h65, h65, oIsCount, oWithin, wB_one, hb]; rfl) ?_)
    simp only [AEx.thn, AEx.blk]
    refine runs_ret ?_
    simp [lop, loud, callA, calleeA, callF_step h58, h58, callF_step h65, h65, oIsCount, oWithin, wB_one, hb]
theorem a87 (P : Program) (T : Nat → Option CFn) (hT : T 87 = some c87) (f o g p : Int) : Answers P T 87 [.agg [I f, I o], .agg [I g, I p]] [] fun v h => frz true h 5 v = some (I (if f ≤ g then -1 else 1)) := by
  refine answers_of hT (orcF_none rfl) ?_
  simp only [c87]
  refine runs_seq ?_
  refine runs_reg (ops_run (by simp [lop, loud, callA, calleeA]; rfl) ?_)
  simp only [AEx.thn, AEx.blk]
  refine runs_seq ?_
  refine runs_seq ?_
  refine runs_reg (ops_run (by simp [lop, loud, callA, calleeA]; rfl) ?_)
  simp only [AEx.thn, AEx.blk]
  refine runs_cond_split (x := decide (f ≤ g)) (by simp) (fun hc => ?_) (fun hc => ?_)
  · have hc := of_decide_eq_true hc
    refine runs_seq ?_
    refine runs_reg (ops_run (by simp [lop, loud, callA, calleeA]; rfl) ?_)
    simp only [AEx.thn, AEx.blk]
    refine runs_ret ?_
    simp [lop, loud, callA, calleeA, hc]
  · have hc := of_decide_eq_false hc
    refine runs_skip ?_
    simp only [AEx.thn, AEx.blk]
    refine runs_seq ?_
    refine runs_reg (ops_run (by simp [lop, loud, callA, calleeA]; rfl) ?_)
    simp only [AEx.thn, AEx.blk]
    refine runs_ret ?_
    simp [lop, loud, callA, calleeA, hc]
noncomputable def PA5_85 : Nat → Option CFn := upd PA4 85 true (oStepBad)
theorem PA5_85_ok : TabOk Try.prog GG PA5_85 := tab_add mixed PA4_ok fun args v ho => by
  unfold oStepBad at ho; split at ho <;> simp at ho
  rename_i f o
  subst ho
  exact a85 Try.prog PA4 rfl rfl rfl f o
noncomputable def PA5 : Nat → Option CFn := upd PA5_85 87 true (oStepCmp)
theorem PA5_ok : TabOk Try.prog GG PA5 := tab_add mixed PA5_85_ok fun args v ho => by
  unfold oStepCmp at ho; split at ho <;> simp at ho
  rename_i f o g p
  subst ho
  exact a87 Try.prog PA5_85 rfl f o g p
noncomputable def PA6 : Nat → Option CFn := upd PA5 88 true (oCF PA5 2)
theorem PA6_ok : TabOk Try.prog GG PA6 := tab_add mixed PA5_ok fun args v ho => by
  unfold oCF at ho; split at ho <;> (try simp at ho)
  rename_i x g a b
  split at ho <;> (try simp at ho)
  rename_i rs hx
  obtain ⟨⟨hl, hr⟩, ho⟩ := ho
  split at ho <;> simp at ho
  rename_i r hq
  subst ho
  refine (a88 Try.prog PA5 rfl rfl x rs hx g a b r hl (by simpa using hr) (by simpa using hq)).mono ?_
  rintro v h ⟨rfl, rfl⟩
  rfl
theorem asc_at {l : List (Int × Int)} {i : Nat} (h1 : i + 1 < l.length) : ascI (l.drop i) = (decide (l[i].1 < l[i + 1].1) && ascI (l.drop (i + 1))) := by
  rw [List.drop_eq_getElem_cons (by omega : i < l.length)]
  conv => lhs; rw [List.drop_eq_getElem_cons h1]
  rw [List.drop_eq_getElem_cons h1]
  rfl
def oAsc : List AVal → Option AVal
  | [x, .fn 87 [] []] => match rowsV x with
    | some rs => match optAll dI2 rs with
      | some xs => if xs.length ≤ 1000 then some (.bool (ascI xs)) else none
      | none => none
    | none => none
  | _ => none
theorem dI2_self : ∀ (xs : List (Int × Int)), optAll dI2 (xs.map rP) = some xs := optAll_map (d := dI2) (enc := rP) fun _ => rfl
theorem a86 (P : Program) (T : Nat → Option CFn) (hT : T 86 = some c86) (h87 : T 87 = some { c87 with frsh := true, orc := oStepCmp }) (x : AVal) (xs : List (Int × Int)) (hx : rowsV x = some (xs.map rP)) (hl : xs.length ≤ 1000) : Answers P T 86 [x, .fn 87 [] []] [] fun v h => frz true h 5 v = some (.bool (ascI xs)) := by
  have lx := rowsV_len hx
  rw [List.length_map] at lx
  have hw0 : W .i64 ((xs.length : Int) - 1) = (xs.length : Int) - 1 := W_small (by omega)
  have hlast : xs.length ≠ 0 → ascI (xs.drop (xs.length - 1)) = true := by
    intro h0
    rw [List.drop_eq_getElem_cons (by omega), List.drop_eq_nil_of_le (by omega)]; rfl
  refine answers_of hT (orcF_none rfl) ?_
  simp only [c86]
  refine runs_seq ?_
  refine runs_reg (ops_run (by simp [lop, loud, callA, calleeA, callF_step h87, h87, lx, hw0, -lenA]; rfl) ?_)
  simp only [AEx.thn, AEx.blk]
  refine runs_seq ?_
  refine runs_seq ?_
  refine runs_reg (ops_run (by simp [lop, loud, callA, calleeA, callF_step h87, h87, lx, hw0, -lenA]; rfl) ?_)
  simp only [AEx.thn, AEx.blk]
  refine runs_block ?_
  refine runs_loop_inv (fun m σ => ∃ (k : Nat) (i : Int), ((i = k ∧ k < xs.length) ∨ (i = -1 ∧ k = 0 ∧ xs.length = 0)) ∧ k = m ∧ (xs.length ≠ 0 → ascI (xs.drop k) = true) ∧ σ = ⟨[x, .fn 87 [] [], .any, .any, .any, I i, .any, .any, .any, .any, .any, .any, .any, .any, .any, .any, .any, .any, .any, .any, .any, .any, .any, .any, .any], []⟩) ?_ (xs.length - 1) _ ⟨xs.length - 1, (xs.length : Int) - 1, by omega, rfl, hlast, by simp⟩
  rintro m σ ⟨k, i, hik, rfl, hinv, rfl⟩
  refine runs_seq ?_
  refine runs_seq ?_
  refine runs_reg (ops_run (by simp [lop, loud, callA, calleeA, callF_step h87, h87, lx, hw0, -lenA]; rfl) ?_)
  simp only [AEx.thn, AEx.blk]
  refine runs_cond_split (x := decide (0 < i)) (by simp) (fun hlt => ?_) (fun hlt => ?_)
  · have hlt := of_decide_eq_true hlt
    obtain ⟨tt, rfl⟩ := rowsV_get hx (k := k) (by rw [List.length_map]; omega)
    have hk1 : k - 1 < xs.length := by omega
    have e1 : i.toNat = k := by omega
    have e2 : (W .i64 (i - 1)) = i - 1 := W_small (by omega)
    have e3 : (i - 1).toNat = k - 1 := by omega
    have e4 : 0 ≤ i - 1 := by omega
    have e6 : 1 ≤ i := by omega
    have e5 : 0 ≤ i := by omega
    have hk0 : k < xs.length := by omega
    have hat := asc_at (l := xs) (i := k - 1) (by omega)
    have hkk : k - 1 + 1 = k := by omega
    simp only [hkk] at hat
    generalize hs : xs[k] = s at *
    generalize hr : xs[k - 1] = r at *
    obtain ⟨s1, s2⟩ := s
    obtain ⟨r1, r2⟩ := r
    simp only at hat
    by_cases hc : s1 ≤ r1
    · refine runs_skip ?_
      simp only [AEx.thn, AEx.blk]
      refine runs_seq ?_
      refine runs_block ?_
      refine runs_seq ?_
      refine runs_drw (by simp (maxSteps := 3000000) [lop, loud, callA, calleeA, callF_step h87, h87, lx, hw0, -lenA, oStepCmp, e1, e2, e3, e4, e5, e6, hk0, hk1, hs, hr, rP, hc]; rfl) ?_
      simp only [AEx.thn, AEx.blk]
      refine runs_cond (x := true) (by simp) ?_
      have h9 : ascI xs = false := by
        cases h : ascI xs with
        | false => rfl
        | true =>
          have := asc_drop h (k - 1)
          rw [hat] at this
          simp at this; omega
      refine runs_seq ?_
      refine runs_reg (ops_run (by simp [lop, loud, callA, calleeA, callF_step h87, h87, lx, hw0, -lenA, oStepCmp, e1, e2, e3, e4, e5, e6, hk0, hk1, hs, hr, rP, hc]; rfl) ?_)
      simp only [AEx.thn, AEx.blk]
      refine runs_ret ?_
      simp [lop, loud, callA, calleeA, callF_step h87, h87, lx, hw0, -lenA, oStepCmp, e1, e2, e3, e4, e5, e6, hk0, hk1, hs, hr, rP, hc, h9]
    · refine runs_skip ?_
      simp only [AEx.thn, AEx.blk]
      refine runs_seq ?_
      refine runs_block ?_
      refine runs_seq ?_
      refine runs_drw (by simp (maxSteps := 3000000) [lop, loud, callA, calleeA, callF_step h87, h87, lx, hw0, -lenA, oStepCmp, e1, e2, e3, e4, e5, e6, hk0, hk1, hs, hr, rP, hc]; rfl) ?_
      simp only [AEx.thn, AEx.blk]
      refine runs_cond (x := false) (by simp) ?_
      refine runs_skip ?_
      simp only [AEx.thn, AEx.blk]
      refine runs_reg (ops_run (by simp [lop, loud, callA, calleeA, callF_step h87, h87, lx, hw0, -lenA, oStepCmp, e1, e2, e3, e4, e5, e6, hk0, hk1, hs, hr, rP, hc]; rfl) ?_)
      simp only [AEx.thn, AEx.blk]
      refine ⟨k - 1, by omega, k - 1, i - 1, by omega, rfl, ?_, by simp⟩
      intro h0
      rw [hat, hinv (by omega)]
      simp; omega
  · have hlt := of_decide_eq_false hlt
    refine runs_exit ?_
    simp only [AEx.thn, AEx.blk, if_true, if_false, reduceIte, Nat.reduceEqDiff, Nat.succ_ne_zero, Nat.one_ne_zero, Nat.zero_ne_one]
    refine runs_seq ?_
    refine runs_reg (ops_run (by simp [lop, loud, callA, calleeA, callF_step h87, h87, lx, hw0, -lenA]; rfl) ?_)
    simp only [AEx.thn, AEx.blk]
    refine runs_ret ?_
    have h9 : ascI xs = true := by
      by_cases h0 : xs.length = 0
      · have : xs = [] := List.eq_nil_of_length_eq_zero h0
        subst this; rfl
      · have := hinv (by omega)
        rwa [show k = 0 by omega, List.drop_zero] at this
    simp [h9]
noncomputable def PA : Nat → Option CFn := upd PA6 86 true (oAsc)
theorem PA_ok : TabOk Try.prog GG PA := tab_add mixed PA6_ok fun args v ho => by
  unfold oAsc at ho; split at ho <;> (try simp at ho)
  rename_i x
  split at ho <;> (try simp at ho)
  rename_i rs hx
  split at ho <;> (try simp at ho)
  rename_i xs hxs
  obtain ⟨hl, rfl⟩ := ho
  have e := optAll_eq dI2_eq hxs
  subst e
  exact a86 Try.prog PA6 rfl rfl x xs hx hl
end
end Go.Proofs.Ytfnnonoffiljhaa.Tab

namespace Go.Proofs.Ytfnnonoffiljhaa.Tab
open Go Go.Abs Go.Proofs
set_option maxRecDepth 100000
set_option maxHeartbeats 4000000
set_option linter.unusedSimpArgs false
set_option linter.unusedVariables false
section
attribute [local simp] frz_int frz_bool frz_vl frz_pv frz_agg frz_tup frz_fn frz_ref frz_sl frz_nils optAll orcF rb_int rb_bool rb_agg rb_tup rb_int' rb_bool' rb_vl rb_pv rb_yld rb_nilf rb_nilp rb_nils rb_any rb_und rb_ref rb_sl rb_fn slE chunk fillA evParts evParts3 putAt List.range_succ List.range_zero List.range'_succ List.range'_zero runX_nil' unary_not evalS_pure evAll_nil evAll_cons runX_cons stepX wantedA dop CV.ev putK_eq setK_eq appK_eq fA_eq fI_eq fN_eq fRow_eq fRows_eq nth_eq Out.v putT List.replicate_succ AEx.thn AEx.blk arI pointee Abs.rowAt ldRow allV toV toC ofV ofC Builtin.min_ Builtin.min2 Builtin.max_ Builtin.max2 min_if max_if resA tupA kill trim_self trim_len trim_emp trim_nil lenA
attribute [local simp] runD_nil' runD_cons' stepD actK_eq actD clash disj masks holes maskH unmaskH diffs news eqB allB eqA ldRowN wrote toCs ofCs stA rowsV_vl rowsV_nils rowsOf dI1 dI2 dI3 dI5 elt
attribute [local simp] st_any st_und st_agg st_tup st_bool st_int st_nilp st_ref st_pv st_nils st_sl st_vl st_nilm st_mp st_fn st_nilf st_yld co_any co_und co_agg co_tup co_bool co_int co_nilp co_ref co_pv co_nils co_sl co_vl co_nilm co_mp co_fn co_nilf co_yld
theorem dQ_z : dQ zQ = some ⟨0, 0, 0, 0, 0, 0, 0, 0, 0, 0, []⟩ := rfl
theorem oAsc_eq {x : AVal} {xs : List (Int × Int)} (hx : rowsV x = some (xs.map rP)) (hl : xs.length ≤ 1000) : oAsc [x, .fn 87 [] []] = some (.bool (ascI xs)) := by
  simp only [oAsc, hx, dI2_self, hl, if_true]
theorem cfBad {x : AVal} {xs : List (Int × Int)} (hx : rowsV x = some (xs.map rP)) (hl : xs.length ≤ 1000) : oCF PA5 2 [x, .fn 85 [] []] = some (.bool (!(xs.all stepOkI))) := by
  have h := oCF_any (T := PA5) (s := 2) (g := 85) (a := []) (b := []) (p := fun r => match r with | [.int .i64 f, .int .i64 o] => !stepOkI (f, o) | _ => false) hx (by simpa using hl) (by simp [isI, rP]) (by
    intro r hr
    obtain ⟨n, _, rfl⟩ := List.mem_map.1 hr
    rfl)
  rw [h]
  simp [List.any_map, Function.comp_def, rP, List.not_all_eq_any_not]
theorem wB_two (a b n m : Int) : wB a b [n, m] = (inI a n b && inI a m b) := by simp [wB, inI]
theorem wB_four (a b n m k l : Int) : wB a b [n, m, k, l] = (inI a n b && inI a m b && inI a k b && inI a l b) := by simp [wB, inI, Bool.and_assoc]
/-- What open asks of the numbers, in its order. -/
theorem argsI_eq (q : PQ) : argsI q = ((inI 1 q.area 100000 && inI 0 q.board 100000 && inI 0 q.waste 500) && ((inI 0 q.tool 1000000 && inI 0 q.setup 1000000 && inI 0 q.work 1000000 && inI 0 q.freight 1000000) && (inI 1 q.run 100000 && inI 1 q.pallet 100000) && inI 0 q.margin 1000)) := by
  simp only [argsI, Bool.and_assoc]
theorem check_eq {q : PQ} {A S b1 b2 b3 b4 b5 b6 : Bool} (hA : q.steps.all stepOkI = A) (hS : ascI q.steps = S) (h1 : wB 1 100000 [q.area] = b1) (h2 : wB 0 100000 [q.board] = b2) (h3 : wB 0 500 [q.waste] = b3) (h4 : wB 0 1000000 [q.tool, q.setup, q.work, q.freight] = b4)
    (h5 : wB 1 100000 [q.run, q.pallet] = b5) (h6 : wB 0 1000 [q.margin] = b6) : checkQ q = if 6 < q.steps.length then 5 else if !(A && S) then 4 else if !(b1 && b2 && b3 && b4 && b5 && b6) then 2 else 0 := by
  rw [wB_one] at h1 h2 h3 h6
  rw [wB_four] at h4
  rw [wB_two] at h5
  unfold checkQ
  rw [hA, hS, argsI_eq, h1, h2, h3, h4, h5, h6]
  cases b1 <;> cases b2 <;> cases b3 <;> cases b4 <;> cases b5 <;> cases b6 <;> rfl
theorem a57 (P : Program) (T : Nat → Option CFn) (hT : T 57 = some c57) (h86 : T 86 = some { c86 with frsh := true, orc := oAsc }) (h88 : T 88 = some { c88 with frsh := true, orc := oCF PA5 2 }) (h65 : T 65 = some { c65 with frsh := true, orc := oWithin }) (h58 : T 58 = some { c58 with frsh := true, orc := oIsCount }) (q : PQ) (x : AVal) (hx : rowsV x = some (q.steps.map rP)) (hl : q.steps.length ≤ 1000) : Answers P T 57 [vQ q x] [] fun v h => frz false h 5 v = some (.tup [if checkQ q = 0 then vQ q x else zQ, I (checkQ q)]) := by
  have lx := rowsV_len hx
  rw [List.length_map] at lx
  have hcf := cfBad hx hl
  have has := oAsc_eq hx hl
  generalize hA : q.steps.all stepOkI = A at hcf
  generalize hS : ascI q.steps = S at has
  generalize hb1 : wB 1 100000 [q.area] = b1
  generalize hb2 : wB 0 100000 [q.board] = b2
  generalize hb3 : wB 0 500 [q.waste] = b3
  generalize hb4 : wB 0 1000000 [q.tool, q.setup, q.work, q.freight] = b4
  generalize hb5 : wB 1 100000 [q.run, q.pallet] = b5
  generalize hb6 : wB 0 1000 [q.margin] = b6
  have he := check_eq hA hS hb1 hb2 hb3 hb4 hb5 hb6
  have fx := fun H d => rowsV_frz hx H d
  have rx := fun n d => rowsV_rb hx n d
  have hd := dQ_vQ hx hl
  have cx := rowsV_cells hx
  obtain ⟨cx1, cx2⟩ := cx
  simp only [vQ] at hd ⊢
  refine answers_of hT (orcF_none rfl) ?_
  simp only [c57]
  refine runs_seq ?_
  refine runs_reg (ops_run (by simp [lop, loud, callA, calleeA, callF_step h86, h86, callF_step h88, h88, callF_step h65, h65, callF_step h58, h58, rowsV_frz hx, has, hcf, oWithin, oIsCount, hb1, hb2, hb3, hb4, hb5, hb6, lx, -lenA, fx, hd, cx1, cx2, rx, W_fit0, zQ, vP]; rfl) ?_)
  simp only [AEx.thn, AEx.blk]
  refine runs_seq ?_
  refine runs_reg (ops_run (by simp [lop, loud, callA, calleeA, callF_step h86, h86, callF_step h88, h88, callF_step h65, h65, callF_step h58, h58, rowsV_frz hx, has, hcf, oWithin, oIsCount, hb1, hb2, hb3, hb4, hb5, hb6, lx, -lenA, fx, hd, cx1, cx2, rx, W_fit0, zQ, vP]; rfl) ?_)
  simp only [AEx.thn, AEx.blk]
  refine runs_seq ?_
  refine runs_reg (ops_run (by simp [lop, loud, callA, calleeA, callF_step h86, h86, callF_step h88, h88, callF_step h65, h65, callF_step h58, h58, rowsV_frz hx, has, hcf, oWithin, oIsCount, hb1, hb2, hb3, hb4, hb5, hb6, lx, -lenA, fx, hd, cx1, cx2, rx, W_fit0, zQ, vP]; rfl) ?_)
  simp only [AEx.thn, AEx.blk]
  refine runs_seq ?_
  refine runs_block ?_
  refine runs_seq ?_
  refine runs_reg (ops_run (by simp [lop, loud, callA, calleeA, callF_step h86, h86, callF_step h88, h88, callF_step h65, h65, callF_step h58, h58, rowsV_frz hx, has, hcf, oWithin, oIsCount, hb1, hb2, hb3, hb4, hb5, hb6, lx, -lenA, fx, hd, cx1, cx2, rx, W_fit0, zQ, vP]; rfl) ?_)
  simp only [AEx.thn, AEx.blk]
  refine runs_cond_split (x := decide ((6 : Int) < (q.steps.length : Int))) (by simp) (fun h1 => ?_) (fun h1 => ?_)
  · have h1' : 6 < q.steps.length := by have := of_decide_eq_true h1; omega
    refine runs_seq ?_
    refine runs_reg (ops_run (by simp [lop, loud, callA, calleeA, callF_step h86, h86, callF_step h88, h88, callF_step h65, h65, callF_step h58, h58, rowsV_frz hx, has, hcf, oWithin, oIsCount, hb1, hb2, hb3, hb4, hb5, hb6, lx, -lenA, fx, hd, cx1, cx2, rx, W_fit0, zQ, vP]; rfl) ?_)
    simp only [AEx.thn, AEx.blk]
    refine runs_ret ?_
    simp [lop, loud, callA, calleeA, callF_step h86, h86, callF_step h88, h88, callF_step h65, h65, callF_step h58, h58, rowsV_frz hx, has, hcf, oWithin, oIsCount, hb1, hb2, hb3, hb4, hb5, hb6, lx, -lenA, fx, hd, cx1, cx2, rx, W_fit0, zQ, vP, he, h1']
  have h1' : ¬ 6 < q.steps.length := by have := of_decide_eq_false h1; omega
  refine runs_seq ?_
  refine runs_seq ?_
  refine runs_reg (ops_run (by simp [lop, loud, callA, calleeA, callF_step h86, h86, callF_step h88, h88, callF_step h65, h65, callF_step h58, h58, rowsV_frz hx, has, hcf, oWithin, oIsCount, hb1, hb2, hb3, hb4, hb5, hb6, lx, -lenA, fx, hd, cx1, cx2, rx, W_fit0, zQ, vP]; rfl) ?_)
  simp only [AEx.thn, AEx.blk]
  refine runs_cond_split (x := !A) (by simp) (fun h2 => ?_) (fun h2 => ?_)
  · refine runs_skip ?_
    simp only [AEx.thn, AEx.blk]
    refine runs_cond (x := true) (by simpa using h2) ?_
    refine runs_seq ?_
    refine runs_reg (ops_run (by simp [lop, loud, callA, calleeA, callF_step h86, h86, callF_step h88, h88, callF_step h65, h65, callF_step h58, h58, rowsV_frz hx, has, hcf, oWithin, oIsCount, hb1, hb2, hb3, hb4, hb5, hb6, lx, -lenA, fx, hd, cx1, cx2, rx, W_fit0, zQ, vP]; rfl) ?_)
    simp only [AEx.thn, AEx.blk]
    refine runs_ret ?_
    simp [lop, loud, callA, calleeA, callF_step h86, h86, callF_step h88, h88, callF_step h65, h65, callF_step h58, h58, rowsV_frz hx, has, hcf, oWithin, oIsCount, hb1, hb2, hb3, hb4, hb5, hb6, lx, -lenA, fx, hd, cx1, cx2, rx, W_fit0, zQ, vP, he, h1', h2]
  refine runs_reg (ops_run (by simp [lop, loud, callA, calleeA, callF_step h86, h86, callF_step h88, h88, callF_step h65, h65, callF_step h58, h58, rowsV_frz hx, has, hcf, oWithin, oIsCount, hb1, hb2, hb3, hb4, hb5, hb6, lx, -lenA, fx, hd, cx1, cx2, rx, W_fit0, zQ, vP]; rfl) ?_)
  simp only [AEx.thn, AEx.blk]
  refine runs_cond_split (x := !S) (by simp) (fun h3 => ?_) (fun h3 => ?_)
  · refine runs_seq ?_
    refine runs_reg (ops_run (by simp [lop, loud, callA, calleeA, callF_step h86, h86, callF_step h88, h88, callF_step h65, h65, callF_step h58, h58, rowsV_frz hx, has, hcf, oWithin, oIsCount, hb1, hb2, hb3, hb4, hb5, hb6, lx, -lenA, fx, hd, cx1, cx2, rx, W_fit0, zQ, vP]; rfl) ?_)
    simp only [AEx.thn, AEx.blk]
    refine runs_ret ?_
    simp [lop, loud, callA, calleeA, callF_step h86, h86, callF_step h88, h88, callF_step h65, h65, callF_step h58, h58, rowsV_frz hx, has, hcf, oWithin, oIsCount, hb1, hb2, hb3, hb4, hb5, hb6, lx, -lenA, fx, hd, cx1, cx2, rx, W_fit0, zQ, vP, he, h1', h2, h3]
  refine runs_seq ?_
  refine runs_seq ?_
  refine runs_reg (ops_run (by simp [lop, loud, callA, calleeA, callF_step h86, h86, callF_step h88, h88, callF_step h65, h65, callF_step h58, h58, rowsV_frz hx, has, hcf, oWithin, oIsCount, hb1, hb2, hb3, hb4, hb5, hb6, lx, -lenA, fx, hd, cx1, cx2, rx, W_fit0, zQ, vP]; rfl) ?_)
  simp only [AEx.thn, AEx.blk]
  refine runs_cond_split (x := !b1) (by simp) (fun h4 => ?_) (fun h4 => ?_)
  · refine runs_skip ?_
    simp only [AEx.thn, AEx.blk]
    refine runs_cond (x := true) (by simpa using h4) ?_
    refine runs_seq ?_
    refine runs_reg (ops_run (by simp [lop, loud, callA, calleeA, callF_step h86, h86, callF_step h88, h88, callF_step h65, h65, callF_step h58, h58, rowsV_frz hx, has, hcf, oWithin, oIsCount, hb1, hb2, hb3, hb4, hb5, hb6, lx, -lenA, fx, hd, cx1, cx2, rx, W_fit0, zQ, vP]; rfl) ?_)
    simp only [AEx.thn, AEx.blk]
    refine runs_ret ?_
    simp [lop, loud, callA, calleeA, callF_step h86, h86, callF_step h88, h88, callF_step h65, h65, callF_step h58, h58, rowsV_frz hx, has, hcf, oWithin, oIsCount, hb1, hb2, hb3, hb4, hb5, hb6, lx, -lenA, fx, hd, cx1, cx2, rx, W_fit0, zQ, vP, he, h1', h2, h3, h4]
  refine runs_seq ?_
  refine runs_reg (ops_run (by simp [lop, loud, callA, calleeA, callF_step h86, h86, callF_step h88, h88, callF_step h65, h65, callF_step h58, h58, rowsV_frz hx, has, hcf, oWithin, oIsCount, hb1, hb2, hb3, hb4, hb5, hb6, lx, -lenA, fx, hd, cx1, cx2, rx, W_fit0, zQ, vP]; rfl) ?_)
  simp only [AEx.thn, AEx.blk]
  refine runs_cond_split (x := !b2) (by simp) (fun h5 => ?_) (fun h5 => ?_)
  · refine runs_skip ?_
    simp only [AEx.thn, AEx.blk]
    refine runs_cond (x := true) (by simpa using h5) ?_
    refine runs_seq ?_
    refine runs_reg (ops_run (by simp [lop, loud, callA, calleeA, callF_step h86, h86, callF_step h88, h88, callF_step h65, h65, callF_step h58, h58, rowsV_frz hx, has, hcf, oWithin, oIsCount, hb1, hb2, hb3, hb4, hb5, hb6, lx, -lenA, fx, hd, cx1, cx2, rx, W_fit0, zQ, vP]; rfl) ?_)
    simp only [AEx.thn, AEx.blk]
    refine runs_ret ?_
    simp [lop, loud, callA, calleeA, callF_step h86, h86, callF_step h88, h88, callF_step h65, h65, callF_step h58, h58, rowsV_frz hx, has, hcf, oWithin, oIsCount, hb1, hb2, hb3, hb4, hb5, hb6, lx, -lenA, fx, hd, cx1, cx2, rx, W_fit0, zQ, vP, he, h1', h2, h3, h4, h5]
  refine runs_reg (ops_run (by simp [lop, loud, callA, calleeA, callF_step h86, h86, callF_step h88, h88, callF_step h65, h65, callF_step h58, h58, rowsV_frz hx, has, hcf, oWithin, oIsCount, hb1, hb2, hb3, hb4, hb5, hb6, lx, -lenA, fx, hd, cx1, cx2, rx, W_fit0, zQ, vP]; rfl) ?_)
  simp only [AEx.thn, AEx.blk]
  refine runs_cond_split (x := !b3) (by simp) (fun h6 => ?_) (fun h6 => ?_)
  · refine runs_seq ?_
    refine runs_reg (ops_run (by simp [lop, loud, callA, calleeA, callF_step h86, h86, callF_step h88, h88, callF_step h65, h65, callF_step h58, h58, rowsV_frz hx, has, hcf, oWithin, oIsCount, hb1, hb2, hb3, hb4, hb5, hb6, lx, -lenA, fx, hd, cx1, cx2, rx, W_fit0, zQ, vP]; rfl) ?_)
    simp only [AEx.thn, AEx.blk]
    refine runs_ret ?_
    simp [lop, loud, callA, calleeA, callF_step h86, h86, callF_step h88, h88, callF_step h65, h65, callF_step h58, h58, rowsV_frz hx, has, hcf, oWithin, oIsCount, hb1, hb2, hb3, hb4, hb5, hb6, lx, -lenA, fx, hd, cx1, cx2, rx, W_fit0, zQ, vP, he, h1', h2, h3, h4, h5, h6]
  refine runs_seq ?_
  refine runs_seq ?_
  refine runs_reg (ops_run (by simp [lop, loud, callA, calleeA, callF_step h86, h86, callF_step h88, h88, callF_step h65, h65, callF_step h58, h58, rowsV_frz hx, has, hcf, oWithin, oIsCount, hb1, hb2, hb3, hb4, hb5, hb6, lx, -lenA, fx, hd, cx1, cx2, rx, W_fit0, zQ, vP]; rfl) ?_)
  simp only [AEx.thn, AEx.blk]
  refine runs_cond_split (x := !b4) (by simp) (fun h7 => ?_) (fun h7 => ?_)
  · refine runs_skip ?_
    simp only [AEx.thn, AEx.blk]
    refine runs_cond (x := true) (by simpa using h7) ?_
    refine runs_seq ?_
    refine runs_reg (ops_run (by simp [lop, loud, callA, calleeA, callF_step h86, h86, callF_step h88, h88, callF_step h65, h65, callF_step h58, h58, rowsV_frz hx, has, hcf, oWithin, oIsCount, hb1, hb2, hb3, hb4, hb5, hb6, lx, -lenA, fx, hd, cx1, cx2, rx, W_fit0, zQ, vP]; rfl) ?_)
    simp only [AEx.thn, AEx.blk]
    refine runs_ret ?_
    simp [lop, loud, callA, calleeA, callF_step h86, h86, callF_step h88, h88, callF_step h65, h65, callF_step h58, h58, rowsV_frz hx, has, hcf, oWithin, oIsCount, hb1, hb2, hb3, hb4, hb5, hb6, lx, -lenA, fx, hd, cx1, cx2, rx, W_fit0, zQ, vP, he, h1', h2, h3, h4, h5, h6, h7]
  refine runs_seq ?_
  refine runs_reg (ops_run (by simp [lop, loud, callA, calleeA, callF_step h86, h86, callF_step h88, h88, callF_step h65, h65, callF_step h58, h58, rowsV_frz hx, has, hcf, oWithin, oIsCount, hb1, hb2, hb3, hb4, hb5, hb6, lx, -lenA, fx, hd, cx1, cx2, rx, W_fit0, zQ, vP]; rfl) ?_)
  simp only [AEx.thn, AEx.blk]
  refine runs_cond_split (x := !b5) (by simp) (fun h8 => ?_) (fun h8 => ?_)
  · refine runs_skip ?_
    simp only [AEx.thn, AEx.blk]
    refine runs_cond (x := true) (by simpa using h8) ?_
    refine runs_seq ?_
    refine runs_reg (ops_run (by simp [lop, loud, callA, calleeA, callF_step h86, h86, callF_step h88, h88, callF_step h65, h65, callF_step h58, h58, rowsV_frz hx, has, hcf, oWithin, oIsCount, hb1, hb2, hb3, hb4, hb5, hb6, lx, -lenA, fx, hd, cx1, cx2, rx, W_fit0, zQ, vP]; rfl) ?_)
    simp only [AEx.thn, AEx.blk]
    refine runs_ret ?_
    simp [lop, loud, callA, calleeA, callF_step h86, h86, callF_step h88, h88, callF_step h65, h65, callF_step h58, h58, rowsV_frz hx, has, hcf, oWithin, oIsCount, hb1, hb2, hb3, hb4, hb5, hb6, lx, -lenA, fx, hd, cx1, cx2, rx, W_fit0, zQ, vP, he, h1', h2, h3, h4, h5, h6, h7, h8]
  refine runs_reg (ops_run (by simp [lop, loud, callA, calleeA, callF_step h86, h86, callF_step h88, h88, callF_step h65, h65, callF_step h58, h58, rowsV_frz hx, has, hcf, oWithin, oIsCount, hb1, hb2, hb3, hb4, hb5, hb6, lx, -lenA, fx, hd, cx1, cx2, rx, W_fit0, zQ, vP]; rfl) ?_)
  simp only [AEx.thn, AEx.blk]
  refine runs_cond_split (x := !b6) (by simp) (fun h9 => ?_) (fun h9 => ?_)
  · refine runs_seq ?_
    refine runs_reg (ops_run (by simp [lop, loud, callA, calleeA, callF_step h86, h86, callF_step h88, h88, callF_step h65, h65, callF_step h58, h58, rowsV_frz hx, has, hcf, oWithin, oIsCount, hb1, hb2, hb3, hb4, hb5, hb6, lx, -lenA, fx, hd, cx1, cx2, rx, W_fit0, zQ, vP]; rfl) ?_)
    simp only [AEx.thn, AEx.blk]
    refine runs_ret ?_
    simp [lop, loud, callA, calleeA, callF_step h86, h86, callF_step h88, h88, callF_step h65, h65, callF_step h58, h58, rowsV_frz hx, has, hcf, oWithin, oIsCount, hb1, hb2, hb3, hb4, hb5, hb6, lx, -lenA, fx, hd, cx1, cx2, rx, W_fit0, zQ, vP, he, h1', h2, h3, h4, h5, h6, h7, h8, h9]
  refine runs_skip ?_
  simp only [AEx.thn, AEx.blk]
  refine runs_seq ?_
  refine runs_reg (ops_run (by simp [lop, loud, callA, calleeA, callF_step h86, h86, callF_step h88, h88, callF_step h65, h65, callF_step h58, h58, rowsV_frz hx, has, hcf, oWithin, oIsCount, hb1, hb2, hb3, hb4, hb5, hb6, lx, -lenA, fx, hd, cx1, cx2, rx, W_fit0, zQ, vP]; rfl) ?_)
  simp only [AEx.thn, AEx.blk]
  refine runs_ret ?_
  simp [lop, loud, callA, calleeA, callF_step h86, h86, callF_step h88, h88, callF_step h65, h65, callF_step h58, h58, rowsV_frz hx, has, hcf, oWithin, oIsCount, hb1, hb2, hb3, hb4, hb5, hb6, lx, -lenA, fx, hd, cx1, cx2, rx, W_fit0, zQ, vP, he, h1', h2, h3, h4, h5, h6, h7, h8, h9]
noncomputable def PB1 : Nat → Option CFn := upd PA 57 false (oOpen)
theorem PB1_ok : TabOk Try.prog GG PB1 := tab_add mixed PA_ok fun args v ho => by
  unfold oOpen at ho; split at ho <;> (try simp at ho)
  rename_i v
  split at ho <;> (try simp at ho)
  rename_i q hq
  obtain ⟨x, rfl, hx, hl⟩ := dQ_eq hq
  try simp at ho
  subst ho
  exact a57 Try.prog PA rfl rfl rfl rfl rfl q x hx hl
end
end Go.Proofs.Ytfnnonoffiljhaa.Tab

namespace Go.Proofs.Ytfnnonoffiljhaa.Tab
open Go Go.Abs Go.Proofs
set_option maxRecDepth 100000
set_option maxHeartbeats 4000000
set_option linter.unusedSimpArgs false
set_option linter.unusedVariables false
section
attribute [local simp] frz_int frz_bool frz_vl frz_pv frz_agg frz_tup frz_fn frz_ref frz_sl frz_nils optAll orcF rb_int rb_bool rb_agg rb_tup rb_int' rb_bool' rb_vl rb_pv rb_yld rb_nilf rb_nilp rb_nils rb_any rb_und rb_ref rb_sl rb_fn slE chunk fillA evParts evParts3 putAt List.range_succ List.range_zero List.range'_succ List.range'_zero runX_nil' unary_not evalS_pure evAll_nil evAll_cons runX_cons stepX wantedA dop CV.ev putK_eq setK_eq appK_eq fA_eq fI_eq fN_eq fRow_eq fRows_eq nth_eq Out.v putT List.replicate_succ AEx.thn AEx.blk arI pointee Abs.rowAt ldRow allV toV toC ofV ofC Builtin.min_ Builtin.min2 Builtin.max_ Builtin.max2 min_if max_if resA tupA kill trim_self trim_len trim_emp trim_nil lenA
attribute [local simp] runD_nil' runD_cons' stepD actK_eq actD clash disj masks holes maskH unmaskH diffs news eqB allB eqA ldRowN wrote toCs ofCs stA rowsV_vl rowsV_nils rowsOf dI1 dI2 dI3 dI5 elt
attribute [local simp] st_any st_und st_agg st_tup st_bool st_int st_nilp st_ref st_pv st_nils st_sl st_vl st_nilm st_mp st_fn st_nilf st_yld co_any co_und co_agg co_tup co_bool co_int co_nilp co_ref co_pv co_nils co_sl co_vl co_nilm co_mp co_fn co_nilf co_yld
theorem a49 (P : Program) (T : Nat → Option CFn) (hT : T 49 = some c49) (h57 : T 57 = some { c57 with frsh := false, orc := oOpen }) (q : PQ) (x : AVal) (hx : rowsV x = some (q.steps.map rP)) (hl : q.steps.length ≤ 1000) : Answers P T 49 [vQ q x] [] fun v h => frz true h 5 v = some (I (checkQ q)) := by
  have fx := fun H d => rowsV_frz hx H d
  have rx := fun n d => rowsV_rb hx n d
  have hd := dQ_vQ hx hl
  have cx := rowsV_cells hx
  obtain ⟨cx1, cx2⟩ := cx
  simp only [vQ] at hd ⊢
  refine answers_of hT (orcF_none rfl) ?_
  simp only [c49]
  by_cases h0 : checkQ q = 0
  · refine runs_seq ?_
    refine runs_reg (ops_run (by simp [lop, loud, callA, calleeA, callF_step h57, h57, oOpen, fx, hd, cx1, cx2, rx, W_fit0, zQ, vP, h0]; rfl) ?_)
    simp only [AEx.thn, AEx.blk]
    refine runs_seq ?_
    refine runs_reg (ops_run (by simp [lop, loud, callA, calleeA, callF_step h57, h57, oOpen, fx, hd, cx1, cx2, rx, W_fit0, zQ, vP, h0]; rfl) ?_)
    simp only [AEx.thn, AEx.blk]
    refine runs_seq ?_
    refine runs_reg (ops_run (by simp [lop, loud, callA, calleeA, callF_step h57, h57, oOpen, fx, hd, cx1, cx2, rx, W_fit0, zQ, vP, h0]; rfl) ?_)
    simp only [AEx.thn, AEx.blk]
    refine runs_ret ?_
    simp [lop, loud, callA, calleeA, callF_step h57, h57, oOpen, fx, hd, cx1, cx2, rx, W_fit0, zQ, vP, h0]
  · refine runs_seq ?_
    refine runs_reg (ops_run (by simp [lop, loud, callA, calleeA, callF_step h57, h57, oOpen, fx, hd, cx1, cx2, rx, W_fit0, zQ, vP, h0]; rfl) ?_)
    simp only [AEx.thn, AEx.blk]
    refine runs_seq ?_
    refine runs_reg (ops_run (by simp [lop, loud, callA, calleeA, callF_step h57, h57, oOpen, fx, hd, cx1, cx2, rx, W_fit0, zQ, vP, h0]; rfl) ?_)
    simp only [AEx.thn, AEx.blk]
    refine runs_seq ?_
    refine runs_reg (ops_run (by simp [lop, loud, callA, calleeA, callF_step h57, h57, oOpen, fx, hd, cx1, cx2, rx, W_fit0, zQ, vP, h0]; rfl) ?_)
    simp only [AEx.thn, AEx.blk]
    refine runs_ret ?_
    simp [lop, loud, callA, calleeA, callF_step h57, h57, oOpen, fx, hd, cx1, cx2, rx, W_fit0, zQ, vP, h0]
theorem a61 (P : Program) (T : Nat → Option CFn) (hT : T 61 = some c61) (h57 : T 57 = some { c57 with frsh := false, orc := oOpen }) (h58 : T 58 = some { c58 with frsh := true, orc := oIsCount }) (q : PQ) (x : AVal) (hx : rowsV x = some (q.steps.map rP)) (hl : q.steps.length ≤ 1000) (n : Int) : Answers P T 61 [vQ q x, I n] [] fun v h => frz false h 5 v = some (.tup [if checkQ q = 0 then vQ q x else zQ, I (errN q n)]) := by
  have fx := fun H d => rowsV_frz hx H d
  have rx := fun n d => rowsV_rb hx n d
  have hd := dQ_vQ hx hl
  have cx := rowsV_cells hx
  obtain ⟨cx1, cx2⟩ := cx
  simp only [vQ] at hd ⊢
  refine answers_of hT (orcF_none rfl) ?_
  simp only [c61]
  by_cases h0 : checkQ q = 0
  · refine runs_seq ?_
    refine runs_reg (ops_run (by simp [lop, loud, callA, calleeA, callF_step h57, h57, callF_step h58, h58, oOpen, oIsCount, wB_one, fx, hd, cx1, cx2, rx, W_fit0, zQ, vP, h0]; rfl) ?_)
    simp only [AEx.thn, AEx.blk]
    refine runs_seq ?_
    refine runs_reg (ops_run (by simp [lop, loud, callA, calleeA, callF_step h57, h57, callF_step h58, h58, oOpen, oIsCount, wB_one, fx, hd, cx1, cx2, rx, W_fit0, zQ, vP, h0]; rfl) ?_)
    simp only [AEx.thn, AEx.blk]
    refine runs_seq ?_
    refine runs_seq ?_
    refine runs_reg (ops_run (by simp [lop, loud, callA, calleeA, callF_step h57, h57, callF_step h58, h58, oOpen, oIsCount, wB_one, fx, hd, cx1, cx2, rx, W_fit0, zQ, vP, h0]; rfl) ?_)
    simp only [AEx.thn, AEx.blk]
    refine runs_cond_split (x := !(inI 1 n 100000)) (by simp) (fun h1 => ?_) (fun h1 => ?_)
    · have h1 : ¬ (1 ≤ n ∧ n ≤ 100000) := by simp [inI] at h1; omega
      refine runs_reg (ops_run (by simp [lop, loud, callA, calleeA, callF_step h57, h57, callF_step h58, h58, oOpen, oIsCount, wB_one, fx, hd, cx1, cx2, rx, W_fit0, zQ, vP, h0]; rfl) ?_)
      simp only [AEx.thn, AEx.blk]
      refine runs_seq ?_
      refine runs_reg (ops_run (by simp [lop, loud, callA, calleeA, callF_step h57, h57, callF_step h58, h58, oOpen, oIsCount, wB_one, fx, hd, cx1, cx2, rx, W_fit0, zQ, vP, h0]; rfl) ?_)
      simp only [AEx.thn, AEx.blk]
      refine runs_ret ?_
      simp [lop, loud, callA, calleeA, callF_step h57, h57, callF_step h58, h58, oOpen, oIsCount, wB_one, fx, hd, cx1, cx2, rx, W_fit0, zQ, vP, h0, errN, h0, h1]
    · have h1 : 1 ≤ n ∧ n ≤ 100000 := by simpa [inI] using h1
      refine runs_skip ?_
      simp only [AEx.thn, AEx.blk]
      refine runs_seq ?_
      refine runs_reg (ops_run (by simp [lop, loud, callA, calleeA, callF_step h57, h57, callF_step h58, h58, oOpen, oIsCount, wB_one, fx, hd, cx1, cx2, rx, W_fit0, zQ, vP, h0]; rfl) ?_)
      simp only [AEx.thn, AEx.blk]
      refine runs_ret ?_
      simp [lop, loud, callA, calleeA, callF_step h57, h57, callF_step h58, h58, oOpen, oIsCount, wB_one, fx, hd, cx1, cx2, rx, W_fit0, zQ, vP, h0, errN, h0, h1]
  · have h0b : (checkQ q == 0) = false := by simpa using h0
    refine runs_seq ?_
    refine runs_reg (ops_run (by simp [lop, loud, callA, calleeA, callF_step h57, h57, callF_step h58, h58, oOpen, oIsCount, wB_one, fx, hd, cx1, cx2, rx, W_fit0, zQ, vP, h0, h0b]; rfl) ?_)
    simp only [AEx.thn, AEx.blk]
    refine runs_seq ?_
    refine runs_reg (ops_run (by simp [lop, loud, callA, calleeA, callF_step h57, h57, callF_step h58, h58, oOpen, oIsCount, wB_one, fx, hd, cx1, cx2, rx, W_fit0, zQ, vP, h0, h0b]; rfl) ?_)
    simp only [AEx.thn, AEx.blk]
    refine runs_seq ?_
    refine runs_seq ?_
    refine runs_reg (ops_run (by simp [lop, loud, callA, calleeA, callF_step h57, h57, callF_step h58, h58, oOpen, oIsCount, wB_one, fx, hd, cx1, cx2, rx, W_fit0, zQ, vP, h0, h0b]; rfl) ?_)
    simp only [AEx.thn, AEx.blk]
    refine runs_cond (x := false) (by simp) ?_
    refine runs_skip ?_
    simp only [AEx.thn, AEx.blk]
    refine runs_seq ?_
    refine runs_reg (ops_run (by simp [lop, loud, callA, calleeA, callF_step h57, h57, callF_step h58, h58, oOpen, oIsCount, wB_one, fx, hd, cx1, cx2, rx, W_fit0, zQ, vP, h0, h0b]; rfl) ?_)
    simp only [AEx.thn, AEx.blk]
    refine runs_ret ?_
    simp [lop, loud, callA, calleeA, callF_step h57, h57, callF_step h58, h58, oOpen, oIsCount, wB_one, fx, hd, cx1, cx2, rx, W_fit0, zQ, vP, h0, h0b, errN, h0]
noncomputable def PC1_49 : Nat → Option CFn := upd PB1 49 true (oCheck)
theorem PC1_49_ok : TabOk Try.prog GG PC1_49 := tab_add mixed PB1_ok fun args v ho => by
  unfold oCheck at ho; split at ho <;> (try simp at ho)
  rename_i v
  split at ho <;> (try simp at ho)
  rename_i q hq
  obtain ⟨x, rfl, hx, hl⟩ := dQ_eq hq
  try simp at ho
  subst ho
  exact a49 Try.prog PB1 rfl rfl q x hx hl
noncomputable def PC1 : Nat → Option CFn := upd PC1_49 61 false (oOpenN)
theorem PC1_ok : TabOk Try.prog GG PC1 := tab_add mixed PC1_49_ok fun args v ho => by
  unfold oOpenN at ho; split at ho <;> (try simp at ho)
  rename_i v n
  split at ho <;> (try simp at ho)
  rename_i q hq
  obtain ⟨x, rfl, hx, hl⟩ := dQ_eq hq
  try simp at ho
  subst ho
  exact a61 Try.prog PC1_49 rfl rfl rfl q x hx hl n
theorem tdiv_pos {a b : Int} (h : 0 ≤ a) : a.tdiv b = a / b := Int.tdiv_eq_ediv_of_nonneg h
theorem a89 (P : Program) (T : Nat → Option CFn) (hT : T 89 = some c89) (n b : Int) (hg : (0 ≤ n ∧ n ≤ 4000000000000000000) ∧ 1 ≤ b ∧ b ≤ 10000000000) : Answers P T 89 [I n, I b] [] fun v h => frz true h 5 v = some (I (upI n b)) := by
  have w1 : W .i64 (n + b) = n + b := W_fit (by omega)
  have w2 : W .i64 (n + b - 1) = n + b - 1 := W_fit (by omega)
  have hb : b ≠ 0 := by omega
  have hd : (n + b - 1).tdiv b = (n + b - 1) / b := tdiv_pos (by omega)
  have hq : 0 ≤ (n + b - 1) / b ∧ (n + b - 1) / b ≤ n + b - 1 := ⟨Int.ediv_nonneg (by omega) (by omega), Int.ediv_le_self _ (by omega)⟩
  have w3 : W .i64 ((n + b - 1) / b) = (n + b - 1) / b := W_fit (by omega)
  refine answers_of hT (orcF_none rfl) ?_
  simp only [c89]
  refine runs_seq ?_
  refine runs_reg (ops_run (by simp [lop, loud, callA, calleeA, w1, w2, w3, hb, hd]; rfl) ?_)
  simp only [AEx.thn, AEx.blk]
  refine runs_seq ?_
  refine runs_reg (ops_run (by simp [lop, loud, callA, calleeA, w1, w2, w3, hb, hd]; rfl) ?_)
  simp only [AEx.thn, AEx.blk]
  refine runs_ret ?_
  simp [lop, loud, callA, calleeA, w1, w2, w3, hb, hd, upI]
theorem a90 (P : Program) (T : Nat → Option CFn) (hT : T 90 = some c90) (a b c d e : Int) (hg : (0 ≤ a ∧ a ≤ 1000000000000) ∧ (0 ≤ b ∧ b ≤ 1000000000000) ∧ (0 ≤ c ∧ c ≤ 1000000000000) ∧ (0 ≤ d ∧ d ≤ 1000000000000) ∧ (0 ≤ e ∧ e ≤ 1000000000000)) : Answers P T 90 [.agg [I a, I b, I c, I d, I e]] [] fun v h => frz true h 5 v = some (I (a + b + c + d + e)) := by
  have w1 : W .i64 (a + b) = a + b := W_fit (by omega)
  have w2 : W .i64 (a + b + c) = a + b + c := W_fit (by omega)
  have w3 : W .i64 (a + b + c + d) = a + b + c + d := W_fit (by omega)
  have w4 : W .i64 (a + b + c + d + e) = a + b + c + d + e := W_fit (by omega)
  refine answers_of hT (orcF_none rfl) ?_
  simp only [c90]
  refine runs_seq ?_
  refine runs_reg (ops_run (by simp [lop, loud, callA, calleeA, w1, w2, w3, w4]; rfl) ?_)
  simp only [AEx.thn, AEx.blk]
  refine runs_seq ?_
  refine runs_reg (ops_run (by simp [lop, loud, callA, calleeA, w1, w2, w3, w4]; rfl) ?_)
  simp only [AEx.thn, AEx.blk]
  refine runs_ret ?_
  simp [lop, loud, callA, calleeA, w1, w2, w3, w4]
theorem a91 (P : Program) (T : Nat → Option CFn) (hT : T 91 = some c91) (q : PQ) (x : AVal) (hx : rowsV x = some (q.steps.map rP)) (hl : q.steps.length ≤ 1000) (n : Int) (hg : checkQ q = 0) : Answers P T 91 [vQ q x, I n] [] fun v h => frz true h 5 v = some (I (offI q.steps n)) := by
  have lx := rowsV_len hx
  rw [List.length_map] at lx
  have fx := fun H d => rowsV_frz hx H d
  have rx := fun n d => rowsV_rb hx n d
  have hd := dQ_vQ hx hl
  have cx := rowsV_cells hx
  obtain ⟨cx1, cx2⟩ := cx
  simp only [vQ] at hd ⊢
  refine answers_of hT (orcF_none rfl) ?_
  simp only [c91]
  refine runs_seq ?_
  refine runs_reg (ops_run (by simp [lop, loud, callA, calleeA, lx, -lenA, fx, hd, cx1, cx2, rx, W_fit0, zQ, vP]; rfl) ?_)
  simp only [AEx.thn, AEx.blk]
  refine runs_seq ?_
  refine runs_seq ?_
  refine runs_reg (ops_run (by simp [lop, loud, callA, calleeA, lx, -lenA, fx, hd, cx1, cx2, rx, W_fit0, zQ, vP]; rfl) ?_)
  simp only [AEx.thn, AEx.blk]
  refine runs_block ?_
  refine runs_loop_inv (fun m σ => ∃ (k : Nat) (i o : Int), i = k ∧ q.steps.length - k = m ∧ k ≤ q.steps.length ∧ (q.steps.drop k).foldl (fun o s => if s.1 ≤ n then s.2 else o) o = offI q.steps n ∧ σ = ⟨[.any, I n, .any, .any, I o, .any, .any, .any, .any, x, I q.steps.length, I i, .any, .any, .any, .any, .any, .any, .any, .any, .any, .any, .any], [some (.row 11 [[I q.area, I q.board, I q.waste, I q.tool, I q.setup, I q.run, I q.work, I q.pallet, I q.freight, I q.margin, x]])]⟩) ?_ (q.steps.length - 0) _ ⟨0, 0, 0, rfl, rfl, Nat.zero_le _, rfl, by simp⟩
  rintro m σ ⟨k, i, o, hik, rfl, hkl, hinv, rfl⟩
  refine runs_seq ?_
  refine runs_reg (ops_run (by simp [lop, loud, callA, calleeA, lx, -lenA, fx, hd, cx1, cx2, rx, W_fit0, zQ, vP]; rfl) ?_)
  simp only [AEx.thn, AEx.blk]
  refine runs_seq ?_
  refine runs_cond_split (x := decide (i < (q.steps.length : Int))) (by simp) (fun hlt => ?_) (fun hlt => ?_)
  · have hlt := of_decide_eq_true hlt
    have hk0 : k < q.steps.length := by omega
    obtain ⟨tt, rfl⟩ := rowsV_get hx (k := k) (by rw [List.length_map]; omega)
    have h0 : 0 ≤ i := by omega
    have htn : i.toNat = k := by omega
    rw [List.drop_eq_getElem_cons hk0, List.foldl_cons] at hinv
    generalize hs : q.steps[k] = s at *
    obtain ⟨s1, s2⟩ := s
    have hwi : W .i64 (i + 1) = i + 1 := W_small (by omega)
    refine runs_skip ?_
    simp only [AEx.thn, AEx.blk]
    refine runs_seq ?_
    refine runs_block ?_
    refine runs_seq ?_
    refine runs_reg (ops_run (by simp [lop, loud, callA, calleeA, lx, -lenA, fx, hd, cx1, cx2, rx, W_fit0, zQ, vP, h0, htn, hk0, hs, rP, hwi]; rfl) ?_)
    simp only [AEx.thn, AEx.blk]
    refine runs_seq ?_
    refine runs_reg (ops_run (by simp [lop, loud, callA, calleeA, lx, -lenA, fx, hd, cx1, cx2, rx, W_fit0, zQ, vP, h0, htn, hk0, hs, rP, hwi]; rfl) ?_)
    simp only [AEx.thn, AEx.blk]
    refine runs_cond_split (x := decide (s1 ≤ n)) (by simp) (fun hc => ?_) (fun hc => ?_)
    · have hc := of_decide_eq_true hc
      refine runs_reg (ops_run (by simp [lop, loud, callA, calleeA, lx, -lenA, fx, hd, cx1, cx2, rx, W_fit0, zQ, vP, h0, htn, hk0, hs, rP, hwi]; rfl) ?_)
      simp only [AEx.thn, AEx.blk]
      refine runs_reg (ops_run (by simp [lop, loud, callA, calleeA, lx, -lenA, fx, hd, cx1, cx2, rx, W_fit0, zQ, vP, h0, htn, hk0, hs, rP, hwi]; rfl) ?_)
      simp only [AEx.thn, AEx.blk]
      exact ⟨q.steps.length - (k + 1), by omega, k + 1, i + 1, _, by omega, rfl, by omega, by simpa [hc] using hinv, by simp [trim, rbB, lop, loud, callA, calleeA, lx, -lenA, fx, hd, cx1, cx2, rx, W_fit0, zQ, vP, h0, htn, hk0, hs, rP, hwi]⟩
    · have hc := of_decide_eq_false hc
      refine runs_skip ?_
      simp only [AEx.thn, AEx.blk]
      refine runs_reg (ops_run (by simp [lop, loud, callA, calleeA, lx, -lenA, fx, hd, cx1, cx2, rx, W_fit0, zQ, vP, h0, htn, hk0, hs, rP, hwi]; rfl) ?_)
      simp only [AEx.thn, AEx.blk]
      exact ⟨q.steps.length - (k + 1), by omega, k + 1, i + 1, _, by omega, rfl, by omega, by simpa [hc] using hinv, by simp [trim, rbB, lop, loud, callA, calleeA, lx, -lenA, fx, hd, cx1, cx2, rx, W_fit0, zQ, vP, h0, htn, hk0, hs, rP, hwi]⟩
  · have hlt := of_decide_eq_false hlt
    obtain rfl : k = q.steps.length := by omega
    rw [List.drop_length] at hinv
    simp only [List.foldl_nil] at hinv
    subst hinv
    refine runs_exit ?_
    simp only [AEx.thn, AEx.blk, if_true, if_false, reduceIte, Nat.reduceEqDiff, Nat.succ_ne_zero, Nat.one_ne_zero, Nat.zero_ne_one]
    refine runs_seq ?_
    refine runs_reg (ops_run (by simp [lop, loud, callA, calleeA, lx, -lenA, fx, hd, cx1, cx2, rx, W_fit0, zQ, vP]; rfl) ?_)
    simp only [AEx.thn, AEx.blk]
    refine runs_ret ?_
    simp [lop, loud, callA, calleeA, lx, -lenA, fx, hd, cx1, cx2, rx, W_fit0, zQ, vP, offI]
noncomputable def PC2_89 : Nat → Option CFn := upd PC1 89 true (oUp)
theorem PC2_89_ok : TabOk Try.prog GG PC2_89 := tab_add mixed PC1_ok fun args v ho => by
  unfold oUp at ho; split at ho <;> (try simp at ho)
  rename_i n b
  obtain ⟨hg, rfl⟩ := ho
  exact a89 Try.prog PC1 rfl  n b hg
noncomputable def PC2_90 : Nat → Option CFn := upd PC2_89 90 true (oCost)
theorem PC2_90_ok : TabOk Try.prog GG PC2_90 := tab_add mixed PC2_89_ok fun args v ho => by
  unfold oCost at ho; split at ho <;> (try simp at ho)
  rename_i a b c d e
  obtain ⟨hg, rfl⟩ := ho
  exact a90 Try.prog PC2_89 rfl  a b c d e hg
noncomputable def PC2 : Nat → Option CFn := upd PC2_90 91 true (oOff)
theorem PC2_ok : TabOk Try.prog GG PC2 := tab_add mixed PC2_90_ok fun args v ho => by
  unfold oOff at ho; split at ho <;> (try simp at ho)
  rename_i v n
  split at ho <;> (try simp at ho)
  rename_i q hq
  obtain ⟨x, rfl, hx, hl⟩ := dQ_eq hq
  try simp at ho
  obtain ⟨hg, rfl⟩ := ho
  exact a91 Try.prog PC2_90 rfl q x hx hl n hg
theorem a82 (P : Program) (T : Nat → Option CFn) (hT : T 82 = some c82) (h89 : T 89 = some { c89 with frsh := true, orc := oUp }) (q : PQ) (x : AVal) (hx : rowsV x = some (q.steps.map rP)) (hl : q.steps.length ≤ 1000) (n : Int) (hg : checkQ q = 0 ∧ 1 ≤ n ∧ n ≤ 100000) : Answers P T 82 [vQ q x, I n] [] fun v h => frz true h 5 v = some (vP (partsI q n)) := by
  have ha := (check_ok hg.1).1
  have b := parts_bd ha hg.2
  have w1 : W .i64 (n * q.area) = n * q.area := W_fit0 b.a1 (by decide)
  have w2 : W .i64 (1000 + q.waste) = 1000 + q.waste := W_fit (by have := ha.waste; omega)
  have w3 : W .i64 (n * q.area * (1000 + q.waste)) = n * q.area * (1000 + q.waste) := W_fit0 b.a2 (by decide)
  have w4 : W .i64 (n * q.area * (1000 + q.waste) * q.board) = n * q.area * (1000 + q.waste) * q.board := W_fit0 b.a3 (by decide)
  have w5 : W .i64 (q.setup * upI n q.run) = q.setup * upI n q.run := W_fit0 b.setup (by decide)
  have w6 : W .i64 (q.work * n) = q.work * n := W_fit0 b.wn (by decide)
  have w7 : W .i64 (q.freight * upI n q.pallet) = q.freight * upI n q.pallet := W_fit0 b.freight (by decide)
  have u1 : oUp [I (n * q.area * (1000 + q.waste) * q.board), I 10000000000] = some (I (upI (n * q.area * (1000 + q.waste) * q.board) 10000000000)) := by
    simp only [oUp]; rw [if_pos ⟨⟨b.a3.1, by have := b.a3.2; omega⟩, by decide, by decide⟩]
  have u2 : oUp [I n, I q.run] = some (I (upI n q.run)) := by simp only [oUp]; rw [if_pos ⟨by omega, ha.run.1, by have := ha.run; omega⟩]
  have u3 : oUp [I n, I q.pallet] = some (I (upI n q.pallet)) := by simp only [oUp]; rw [if_pos ⟨by omega, ha.pallet.1, by have := ha.pallet; omega⟩]
  have u4 : oUp [I (q.work * n), I 1000] = some (I (upI (q.work * n) 1000)) := by simp only [oUp]; rw [if_pos ⟨⟨b.wn.1, by have := b.wn.2; omega⟩, by decide, by decide⟩]
  have fx := fun H d => rowsV_frz hx H d
  have rx := fun n d => rowsV_rb hx n d
  have hd := dQ_vQ hx hl
  have cx := rowsV_cells hx
  obtain ⟨cx1, cx2⟩ := cx
  simp only [vQ] at hd ⊢
  refine answers_of hT (orcF_none rfl) ?_
  simp only [c82]
  refine runs_seq ?_
  refine runs_reg (ops_run (by simp [lop, loud, callA, calleeA, callF_step h89, h89, w1, w2, w3, w4, w5, w6, w7, u1, u2, u3, u4, fx, hd, cx1, cx2, rx, W_fit0, zQ, vP]; rfl) ?_)
  simp only [AEx.thn, AEx.blk]
  refine runs_seq ?_
  refine runs_drw (by simp (maxSteps := 3000000) [lop, loud, callA, calleeA, callF_step h89, h89, w1, w2, w3, w4, w5, w6, w7, u1, u2, u3, u4, fx, hd, cx1, cx2, rx, W_fit0, zQ, vP]; rfl) ?_
  simp only [AEx.thn, AEx.blk]
  refine runs_ret ?_
  simp [lop, loud, callA, calleeA, callF_step h89, h89, w1, w2, w3, w4, w5, w6, w7, u1, u2, u3, u4, fx, hd, cx1, cx2, rx, W_fit0, zQ, vP, vP, partsI]
noncomputable def PC3 : Nat → Option CFn := upd PC2 82 true (oParts)
theorem PC3_ok : TabOk Try.prog GG PC3 := tab_add mixed PC2_ok fun args v ho => by
  unfold oParts at ho; split at ho <;> (try simp at ho)
  rename_i v n
  split at ho <;> (try simp at ho)
  rename_i q hq
  obtain ⟨x, rfl, hx, hl⟩ := dQ_eq hq
  try simp at ho
  obtain ⟨hg, rfl⟩ := ho
  exact a82 Try.prog PC2 rfl rfl q x hx hl n hg
theorem a59 (P : Program) (T : Nat → Option CFn) (hT : T 59 = some c59) (h82 : T 82 = some { c82 with frsh := true, orc := oParts }) (h89 : T 89 = some { c89 with frsh := true, orc := oUp }) (h90 : T 90 = some { c90 with frsh := true, orc := oCost }) (h91 : T 91 = some { c91 with frsh := true, orc := oOff }) (q : PQ) (x : AVal) (hx : rowsV x = some (q.steps.map rP)) (hl : q.steps.length ≤ 1000) (n : Int) (hg : checkQ q = 0 ∧ 1 ≤ n ∧ n ≤ 100000) : Answers P T 59 [vQ q x, I n] [] fun v h => frz true h 5 v = some (I (priceI q n)) := by
  obtain ⟨hc, hn⟩ := hg
  have ha := (check_ok hc).1
  have b := parts_bd ha hn
  have pb := price_bd hc hn
  have ob := off_bd (check_ok hc).2.2.1 n
  have w1 : W .i64 (1000 + q.margin) = 1000 + q.margin := W_fit (by have := ha.margin; omega)
  have w2 : W .i64 (costI (partsI q n) * (1000 + q.margin)) = costI (partsI q n) * (1000 + q.margin) := W_fit0 pb.1 (by decide)
  have w3 : W .i64 (1000 - offI q.steps n) = 1000 - offI q.steps n := W_fit (by omega)
  have w4 : W .i64 (costI (partsI q n) * (1000 + q.margin) * (1000 - offI q.steps n)) = costI (partsI q n) * (1000 + q.margin) * (1000 - offI q.steps n) := W_fit0 pb.2.1 (by decide)
  have u1 : oUp [I (costI (partsI q n) * (1000 + q.margin) * (1000 - offI q.steps n)), I 1000000] = some (I (upI (costI (partsI q n) * (1000 + q.margin) * (1000 - offI q.steps n)) 1000000)) := by
    simp only [oUp]; rw [if_pos ⟨⟨pb.2.1.1, by have := pb.2.1.2; omega⟩, by decide, by decide⟩]
  have u2 : oCost [.agg [I (partsI q n).board, I (partsI q n).tool, I (partsI q n).setup, I (partsI q n).work, I (partsI q n).freight]] = some (I (costI (partsI q n))) := by
    simp only [oCost]; rw [if_pos ⟨⟨b.board.1, by have := b.board.2; omega⟩, ⟨b.tool.1, by have := b.tool.2; omega⟩, ⟨b.setup.1, by have := b.setup.2; omega⟩, ⟨b.work.1, by have := b.work.2; omega⟩, ⟨b.freight.1, by have := b.freight.2; omega⟩⟩]; rfl
  have hnn : 1 ≤ n ∧ n ≤ 100000 := hn
  have fx := fun H d => rowsV_frz hx H d
  have rx := fun n d => rowsV_rb hx n d
  have hd := dQ_vQ hx hl
  have cx := rowsV_cells hx
  obtain ⟨cx1, cx2⟩ := cx
  simp only [vQ] at hd ⊢
  refine answers_of hT (orcF_none rfl) ?_
  simp only [c59]
  refine runs_seq ?_
  refine runs_reg (ops_run (by simp [lop, loud, callA, calleeA, callF_step h82, h82, callF_step h89, h89, callF_step h90, h90, callF_step h91, h91, oParts, oOff, w1, w2, w3, w4, u1, u2, hc, hnn, fx, hd, cx1, cx2, rx, W_fit0, zQ, vP]; rfl) ?_)
  simp only [AEx.thn, AEx.blk]
  refine runs_seq ?_
  refine runs_drw (by simp (maxSteps := 3000000) [lop, loud, callA, calleeA, callF_step h82, h82, callF_step h89, h89, callF_step h90, h90, callF_step h91, h91, oParts, oOff, w1, w2, w3, w4, u1, u2, hc, hnn, fx, hd, cx1, cx2, rx, W_fit0, zQ, vP]; rfl) ?_
  simp only [AEx.thn, AEx.blk]
  refine runs_ret ?_
  simp [lop, loud, callA, calleeA, callF_step h82, h82, callF_step h89, h89, callF_step h90, h90, callF_step h91, h91, oParts, oOff, w1, w2, w3, w4, u1, u2, hc, hnn, fx, hd, cx1, cx2, rx, W_fit0, zQ, vP, priceI]
noncomputable def PC : Nat → Option CFn := upd PC3 59 true (oPrice)
theorem PC_ok : TabOk Try.prog GG PC := tab_add mixed PC3_ok fun args v ho => by
  unfold oPrice at ho; split at ho <;> (try simp at ho)
  rename_i v n
  split at ho <;> (try simp at ho)
  rename_i q hq
  obtain ⟨x, rfl, hx, hl⟩ := dQ_eq hq
  try simp at ho
  obtain ⟨hg, rfl⟩ := ho
  exact a59 Try.prog PC3 rfl rfl rfl rfl rfl q x hx hl n hg
end
end Go.Proofs.Ytfnnonoffiljhaa.Tab

namespace Go.Proofs.Ytfnnonoffiljhaa.Tab
open Go Go.Abs Go.Proofs
set_option maxRecDepth 100000
set_option maxHeartbeats 4000000
set_option linter.unusedSimpArgs false
set_option linter.unusedVariables false
section
attribute [local simp] frz_int frz_bool frz_vl frz_pv frz_agg frz_tup frz_fn frz_ref frz_sl frz_nils optAll orcF rb_int rb_bool rb_agg rb_tup rb_int' rb_bool' rb_vl rb_pv rb_yld rb_nilf rb_nilp rb_nils rb_any rb_und rb_ref rb_sl rb_fn slE chunk fillA evParts evParts3 putAt List.range_succ List.range_zero List.range'_succ List.range'_zero runX_nil' unary_not evalS_pure evAll_nil evAll_cons runX_cons stepX wantedA dop CV.ev putK_eq setK_eq appK_eq fA_eq fI_eq fN_eq fRow_eq fRows_eq nth_eq Out.v putT List.replicate_succ AEx.thn AEx.blk arI pointee Abs.rowAt ldRow allV toV toC ofV ofC Builtin.min_ Builtin.min2 Builtin.max_ Builtin.max2 min_if max_if resA tupA kill trim_self trim_len trim_emp trim_nil lenA
attribute [local simp] runD_nil' runD_cons' stepD actK_eq actD clash disj masks holes maskH unmaskH diffs news eqB allB eqA ldRowN wrote toCs ofCs stA rowsV_vl rowsV_nils rowsOf dI1 dI2 dI3 dI5 elt
attribute [local simp] st_any st_und st_agg st_tup st_bool st_int st_nilp st_ref st_pv st_nils st_sl st_vl st_nilm st_mp st_fn st_nilf st_yld co_any co_und co_agg co_tup co_bool co_int co_nilp co_ref co_pv co_nils co_sl co_vl co_nilm co_mp co_fn co_nilf co_yld
theorem a40 (P : Program) (T : Nat → Option CFn) (hT : T 40 = some c40) (h61 : T 61 = some { c61 with frsh := false, orc := oOpenN }) (h82 : T 82 = some { c82 with frsh := true, orc := oParts }) (h59 : T 59 = some { c59 with frsh := true, orc := oPrice }) (q : PQ) (x : AVal) (hx : rowsV x = some (q.steps.map rP)) (hl : q.steps.length ≤ 1000) (n : Int) : Answers P T 40 [vQ q x, I n] [] fun v h => frz true h 5 v = some (.tup [vP (if errN q n = 0 then partsI q n else zP), I (if errN q n = 0 then priceI q n else 0), I (errN q n)]) := by
  have hck : errN q n = 0 → checkQ q = 0 ∧ 1 ≤ n ∧ n ≤ 100000 := by
    unfold errN
    split
    · rename_i h; split
      · rename_i h2; exact fun _ => ⟨h, h2⟩
      · intro h; simp at h
    · rename_i h; intro h'; exact absurd h' h
  have fx := fun H d => rowsV_frz hx H d
  have rx := fun n d => rowsV_rb hx n d
  have hd := dQ_vQ hx hl
  have cx := rowsV_cells hx
  obtain ⟨cx1, cx2⟩ := cx
  simp only [vQ] at hd ⊢
  refine answers_of hT (orcF_none rfl) ?_
  simp only [c40]
  by_cases h0 : errN q n = 0
  · obtain ⟨hc, hn1, hn2⟩ := hck h0
    refine runs_seq ?_
    refine runs_reg (ops_run (by simp [lop, loud, callA, calleeA, callF_step h61, h61, callF_step h82, h82, callF_step h59, h59, oOpenN, oParts, oPrice, zP, fx, hd, cx1, cx2, rx, W_fit0, zQ, vP, h0, hc, hn1, hn2]; rfl) ?_)
    simp only [AEx.thn, AEx.blk]
    refine runs_seq ?_
    refine runs_reg (ops_run (by simp [lop, loud, callA, calleeA, callF_step h61, h61, callF_step h82, h82, callF_step h59, h59, oOpenN, oParts, oPrice, zP, fx, hd, cx1, cx2, rx, W_fit0, zQ, vP, h0, hc, hn1, hn2]; rfl) ?_)
    simp only [AEx.thn, AEx.blk]
    refine runs_seq ?_
    refine runs_seq ?_
    refine runs_reg (ops_run (by simp [lop, loud, callA, calleeA, callF_step h61, h61, callF_step h82, h82, callF_step h59, h59, oOpenN, oParts, oPrice, zP, fx, hd, cx1, cx2, rx, W_fit0, zQ, vP, h0, hc, hn1, hn2]; rfl) ?_)
    simp only [AEx.thn, AEx.blk]
    refine runs_cond (x := false) (by simp) ?_
    refine runs_skip ?_
    simp only [AEx.thn, AEx.blk]
    refine runs_seq ?_
    refine runs_drw (by simp (maxSteps := 3000000) [lop, loud, callA, calleeA, callF_step h61, h61, callF_step h82, h82, callF_step h59, h59, oOpenN, oParts, oPrice, zP, fx, hd, cx1, cx2, rx, W_fit0, zQ, vP, h0, hc, hn1, hn2]; rfl) ?_
    simp only [AEx.thn, AEx.blk]
    refine runs_ret ?_
    simp [lop, loud, callA, calleeA, callF_step h61, h61, callF_step h82, h82, callF_step h59, h59, oOpenN, oParts, oPrice, zP, fx, hd, cx1, cx2, rx, W_fit0, zQ, vP, h0, hc, hn1, hn2]
  · have h0b : (errN q n == 0) = false := by simpa using h0
    by_cases hc : checkQ q = 0
    · refine runs_seq ?_
      refine runs_reg (ops_run (by simp [lop, loud, callA, calleeA, callF_step h61, h61, callF_step h82, h82, callF_step h59, h59, oOpenN, oParts, oPrice, zP, fx, hd, cx1, cx2, rx, W_fit0, zQ, vP, h0, h0b, hc]; rfl) ?_)
      simp only [AEx.thn, AEx.blk]
      refine runs_seq ?_
      refine runs_reg (ops_run (by simp [lop, loud, callA, calleeA, callF_step h61, h61, callF_step h82, h82, callF_step h59, h59, oOpenN, oParts, oPrice, zP, fx, hd, cx1, cx2, rx, W_fit0, zQ, vP, h0, h0b, hc]; rfl) ?_)
      simp only [AEx.thn, AEx.blk]
      refine runs_seq ?_
      refine runs_seq ?_
      refine runs_reg (ops_run (by simp [lop, loud, callA, calleeA, callF_step h61, h61, callF_step h82, h82, callF_step h59, h59, oOpenN, oParts, oPrice, zP, fx, hd, cx1, cx2, rx, W_fit0, zQ, vP, h0, h0b, hc]; rfl) ?_)
      simp only [AEx.thn, AEx.blk]
      refine runs_cond (x := true) (by simp [h0]) ?_
      refine runs_seq ?_
      refine runs_reg (ops_run (by simp [lop, loud, callA, calleeA, callF_step h61, h61, callF_step h82, h82, callF_step h59, h59, oOpenN, oParts, oPrice, zP, fx, hd, cx1, cx2, rx, W_fit0, zQ, vP, h0, h0b, hc]; rfl) ?_)
      simp only [AEx.thn, AEx.blk]
      refine runs_ret ?_
      simp [lop, loud, callA, calleeA, callF_step h61, h61, callF_step h82, h82, callF_step h59, h59, oOpenN, oParts, oPrice, zP, fx, hd, cx1, cx2, rx, W_fit0, zQ, vP, h0, h0b, hc]
    · refine runs_seq ?_
      refine runs_reg (ops_run (by simp [lop, loud, callA, calleeA, callF_step h61, h61, callF_step h82, h82, callF_step h59, h59, oOpenN, oParts, oPrice, zP, fx, hd, cx1, cx2, rx, W_fit0, zQ, vP, h0, h0b, hc]; rfl) ?_)
      simp only [AEx.thn, AEx.blk]
      refine runs_seq ?_
      refine runs_reg (ops_run (by simp [lop, loud, callA, calleeA, callF_step h61, h61, callF_step h82, h82, callF_step h59, h59, oOpenN, oParts, oPrice, zP, fx, hd, cx1, cx2, rx, W_fit0, zQ, vP, h0, h0b, hc]; rfl) ?_)
      simp only [AEx.thn, AEx.blk]
      refine runs_seq ?_
      refine runs_seq ?_
      refine runs_reg (ops_run (by simp [lop, loud, callA, calleeA, callF_step h61, h61, callF_step h82, h82, callF_step h59, h59, oOpenN, oParts, oPrice, zP, fx, hd, cx1, cx2, rx, W_fit0, zQ, vP, h0, h0b, hc]; rfl) ?_)
      simp only [AEx.thn, AEx.blk]
      refine runs_cond (x := true) (by simp [h0]) ?_
      refine runs_seq ?_
      refine runs_reg (ops_run (by simp [lop, loud, callA, calleeA, callF_step h61, h61, callF_step h82, h82, callF_step h59, h59, oOpenN, oParts, oPrice, zP, fx, hd, cx1, cx2, rx, W_fit0, zQ, vP, h0, h0b, hc]; rfl) ?_)
      simp only [AEx.thn, AEx.blk]
      refine runs_ret ?_
      simp [lop, loud, callA, calleeA, callF_step h61, h61, callF_step h82, h82, callF_step h59, h59, oOpenN, oParts, oPrice, zP, fx, hd, cx1, cx2, rx, W_fit0, zQ, vP, h0, h0b, hc]
theorem a83 (P : Program) (T : Nat → Option CFn) (hT : T 83 = some c83) (a b : Int) (hg : 0 ≤ a ∧ 0 ≤ b) : Answers P T 83 [I a, I b] [] fun v h => frz true h 5 v = some (I (gcdI a b)) := by
  refine answers_of hT (orcF_none rfl) ?_
  simp only [c83]
  refine runs_seq ?_
  refine runs_reg (ops_run (by simp [lop, loud, callA, calleeA]; rfl) ?_)
  simp only [AEx.thn, AEx.blk]
  refine runs_seq ?_
  refine runs_block ?_
  refine runs_loop_inv (fun m σ => ∃ (d c : Int), c.toNat = m ∧ 0 ≤ d ∧ 0 ≤ c ∧ gcdI d c = gcdI a b ∧ σ = ⟨[I d, I c, .any, .any, .any, .any, .any, .any, .any, .any, .any, .any], []⟩) ?_ b.toNat _ ⟨a, b, rfl, hg.1, hg.2, rfl, by simp⟩
  rintro m σ ⟨d, c, rfl, h1, h2, hg, rfl⟩
  refine runs_seq ?_
  refine runs_seq ?_
  refine runs_reg (ops_run (by simp [lop, loud, callA, calleeA]; rfl) ?_)
  simp only [AEx.thn, AEx.blk]
  refine runs_cond_split (x := decide (0 < c)) (by simp) (fun hlt => ?_) (fun hlt => ?_)
  · have hlt := of_decide_eq_true hlt
    have hb : c ≠ 0 := by omega
    have hst := gcdI_step h1 hlt
    refine runs_skip ?_
    simp only [AEx.thn, AEx.blk]
    refine runs_block ?_
    refine runs_drw (by simp (maxSteps := 3000000) [lop, loud, callA, calleeA, hb]; rfl) ?_
    simp only [AEx.thn, AEx.blk]
    refine ⟨(d.tmod c).toNat, ?_, c, d.tmod c, rfl, h2, Int.tmod_nonneg _ h1, by rw [hst]; exact hg, by simp⟩
    have := Int.tmod_lt_of_pos d hlt
    have := Int.tmod_nonneg c h1
    omega
  · have hlt := of_decide_eq_false hlt
    obtain rfl : c = 0 := by omega
    rw [gcdI_zero h1] at hg
    subst hg
    refine runs_exit ?_
    simp only [AEx.thn, AEx.blk, if_true, if_false, reduceIte, Nat.reduceEqDiff, Nat.succ_ne_zero, Nat.one_ne_zero, Nat.zero_ne_one]
    refine runs_seq ?_
    refine runs_reg (ops_run (by simp [lop, loud, callA, calleeA]; rfl) ?_)
    simp only [AEx.thn, AEx.blk]
    refine runs_ret ?_
    simp [lop, loud, callA, calleeA]
noncomputable def PD1_40 : Nat → Option CFn := upd PC 40 true (oQuote)
theorem PD1_40_ok : TabOk Try.prog GG PD1_40 := tab_add mixed PC_ok fun args v ho => by
  unfold oQuote at ho; split at ho <;> (try simp at ho)
  rename_i v n
  split at ho <;> (try simp at ho)
  rename_i q hq
  obtain ⟨x, rfl, hx, hl⟩ := dQ_eq hq
  try simp at ho
  subst ho
  exact a40 Try.prog PC rfl rfl rfl rfl q x hx hl n
noncomputable def PD1 : Nat → Option CFn := upd PD1_40 83 true (oGcd)
theorem PD1_ok : TabOk Try.prog GG PD1 := tab_add mixed PD1_40_ok fun args v ho => by
  unfold oGcd at ho; split at ho <;> (try simp at ho)
  rename_i a b
  obtain ⟨hg, rfl⟩ := ho
  exact a83 Try.prog PD1_40 rfl  a b hg
theorem a41 (P : Program) (T : Nat → Option CFn) (hT : T 41 = some c41) (h61 : T 61 = some { c61 with frsh := false, orc := oOpenN }) (h59 : T 59 = some { c59 with frsh := true, orc := oPrice }) (h83 : T 83 = some { c83 with frsh := true, orc := oGcd }) (q : PQ) (x : AVal) (hx : rowsV x = some (q.steps.map rP)) (hl : q.steps.length ≤ 1000) (n : Int) : Answers P T 41 [vQ q x, I n] [] fun v h => frz true h 5 v = some (.tup [if errN q n = 0 then .agg [I (lowNum (priceI q n) n), I (lowDen (priceI q n) n)] else .agg [I 0, I 0], I (errN q n)]) := by
  have hck : errN q n = 0 → checkQ q = 0 ∧ 1 ≤ n ∧ n ≤ 100000 := by
    unfold errN
    split
    · rename_i h; split
      · rename_i h2; exact fun _ => ⟨h, h2⟩
      · intro h; simp at h
    · rename_i h; intro h'; exact absurd h' h
  have fx := fun H d => rowsV_frz hx H d
  have rx := fun n d => rowsV_rb hx n d
  have hd := dQ_vQ hx hl
  have cx := rowsV_cells hx
  obtain ⟨cx1, cx2⟩ := cx
  simp only [vQ] at hd ⊢
  refine answers_of hT (orcF_none rfl) ?_
  simp only [c41]
  by_cases h0 : errN q n = 0
  · obtain ⟨hc, hn1, hn2⟩ := hck h0
    have pb := (price_bd hc ⟨hn1, hn2⟩).2.2
    have hg := gcdI_facts (n := n) pb.1 hn1
    have hg1 := hg.1
    have hg0 : gcdI (priceI q n) n ≠ 0 := by omega
    have d1 : (priceI q n).tdiv (gcdI (priceI q n) n) = lowNum (priceI q n) n := tdiv_pos pb.1
    have d2 : n.tdiv (gcdI (priceI q n) n) = lowDen (priceI q n) n := tdiv_pos (by omega)
    have fe := far_each (money := priceI q n) hn1 pb.1
    have w1 : W .i64 (lowNum (priceI q n) n) = lowNum (priceI q n) n := W_fit (by have := fe.n1; have := fe.n2; omega)
    have w2 : W .i64 (lowDen (priceI q n) n) = lowDen (priceI q n) n := W_fit (by have := fe.d1; have := fe.d2; omega)
    have pb1 := pb.1
    have hn0 : 0 ≤ n := by omega
    refine runs_seq ?_
    refine runs_reg (ops_run (by simp [lop, loud, callA, calleeA, callF_step h61, h61, callF_step h59, h59, callF_step h83, h83, oOpenN, oPrice, fx, hd, cx1, cx2, rx, W_fit0, zQ, vP, h0, hc, hn1, hn2, oGcd, pb1, hn0, hg0, d1, d2, w1, w2]; rfl) ?_)
    simp only [AEx.thn, AEx.blk]
    refine runs_seq ?_
    refine runs_reg (ops_run (by simp [lop, loud, callA, calleeA, callF_step h61, h61, callF_step h59, h59, callF_step h83, h83, oOpenN, oPrice, fx, hd, cx1, cx2, rx, W_fit0, zQ, vP, h0, hc, hn1, hn2, oGcd, pb1, hn0, hg0, d1, d2, w1, w2]; rfl) ?_)
    simp only [AEx.thn, AEx.blk]
    refine runs_seq ?_
    refine runs_seq ?_
    refine runs_reg (ops_run (by simp [lop, loud, callA, calleeA, callF_step h61, h61, callF_step h59, h59, callF_step h83, h83, oOpenN, oPrice, fx, hd, cx1, cx2, rx, W_fit0, zQ, vP, h0, hc, hn1, hn2, oGcd, pb1, hn0, hg0, d1, d2, w1, w2]; rfl) ?_)
    simp only [AEx.thn, AEx.blk]
    refine runs_cond (x := false) (by simp) ?_
    refine runs_skip ?_
    simp only [AEx.thn, AEx.blk]
    refine runs_seq ?_
    refine runs_reg (ops_run (by simp [lop, loud, callA, calleeA, callF_step h61, h61, callF_step h59, h59, callF_step h83, h83, oOpenN, oPrice, fx, hd, cx1, cx2, rx, W_fit0, zQ, vP, h0, hc, hn1, hn2, oGcd, pb1, hn0, hg0, d1, d2, w1, w2]; rfl) ?_)
    simp only [AEx.thn, AEx.blk]
    refine runs_seq ?_
    refine runs_reg (ops_run (by simp [lop, loud, callA, calleeA, callF_step h61, h61, callF_step h59, h59, callF_step h83, h83, oOpenN, oPrice, fx, hd, cx1, cx2, rx, W_fit0, zQ, vP, h0, hc, hn1, hn2, oGcd, pb1, hn0, hg0, d1, d2, w1, w2]; rfl) ?_)
    simp only [AEx.thn, AEx.blk]
    refine runs_seq ?_
    refine runs_drw (by simp (maxSteps := 3000000) [lop, loud, callA, calleeA, callF_step h61, h61, callF_step h59, h59, callF_step h83, h83, oOpenN, oPrice, fx, hd, cx1, cx2, rx, W_fit0, zQ, vP, h0, hc, hn1, hn2, oGcd, pb1, hn0, hg0, d1, d2, w1, w2]; rfl) ?_
    simp only [AEx.thn, AEx.blk]
    refine runs_ret ?_
    simp [lop, loud, callA, calleeA, callF_step h61, h61, callF_step h59, h59, callF_step h83, h83, oOpenN, oPrice, fx, hd, cx1, cx2, rx, W_fit0, zQ, vP, h0, hc, hn1, hn2, oGcd, pb1, hn0, hg0, d1, d2, w1, w2]
  · have h0b : (errN q n == 0) = false := by simpa using h0
    by_cases hc : checkQ q = 0
    · refine runs_seq ?_
      refine runs_reg (ops_run (by simp [lop, loud, callA, calleeA, callF_step h61, h61, callF_step h59, h59, callF_step h83, h83, oOpenN, oPrice, fx, hd, cx1, cx2, rx, W_fit0, zQ, vP, h0, h0b, hc]; rfl) ?_)
      simp only [AEx.thn, AEx.blk]
      refine runs_seq ?_
      refine runs_reg (ops_run (by simp [lop, loud, callA, calleeA, callF_step h61, h61, callF_step h59, h59, callF_step h83, h83, oOpenN, oPrice, fx, hd, cx1, cx2, rx, W_fit0, zQ, vP, h0, h0b, hc]; rfl) ?_)
      simp only [AEx.thn, AEx.blk]
      refine runs_seq ?_
      refine runs_seq ?_
      refine runs_reg (ops_run (by simp [lop, loud, callA, calleeA, callF_step h61, h61, callF_step h59, h59, callF_step h83, h83, oOpenN, oPrice, fx, hd, cx1, cx2, rx, W_fit0, zQ, vP, h0, h0b, hc]; rfl) ?_)
      simp only [AEx.thn, AEx.blk]
      refine runs_cond (x := true) (by simp [h0]) ?_
      refine runs_seq ?_
      refine runs_reg (ops_run (by simp [lop, loud, callA, calleeA, callF_step h61, h61, callF_step h59, h59, callF_step h83, h83, oOpenN, oPrice, fx, hd, cx1, cx2, rx, W_fit0, zQ, vP, h0, h0b, hc]; rfl) ?_)
      simp only [AEx.thn, AEx.blk]
      refine runs_ret ?_
      simp [lop, loud, callA, calleeA, callF_step h61, h61, callF_step h59, h59, callF_step h83, h83, oOpenN, oPrice, fx, hd, cx1, cx2, rx, W_fit0, zQ, vP, h0, h0b, hc]
    · refine runs_seq ?_
      refine runs_reg (ops_run (by simp [lop, loud, callA, calleeA, callF_step h61, h61, callF_step h59, h59, callF_step h83, h83, oOpenN, oPrice, fx, hd, cx1, cx2, rx, W_fit0, zQ, vP, h0, h0b, hc]; rfl) ?_)
      simp only [AEx.thn, AEx.blk]
      refine runs_seq ?_
      refine runs_reg (ops_run (by simp [lop, loud, callA, calleeA, callF_step h61, h61, callF_step h59, h59, callF_step h83, h83, oOpenN, oPrice, fx, hd, cx1, cx2, rx, W_fit0, zQ, vP, h0, h0b, hc]; rfl) ?_)
      simp only [AEx.thn, AEx.blk]
      refine runs_seq ?_
      refine runs_seq ?_
      refine runs_reg (ops_run (by simp [lop, loud, callA, calleeA, callF_step h61, h61, callF_step h59, h59, callF_step h83, h83, oOpenN, oPrice, fx, hd, cx1, cx2, rx, W_fit0, zQ, vP, h0, h0b, hc]; rfl) ?_)
      simp only [AEx.thn, AEx.blk]
      refine runs_cond (x := true) (by simp [h0]) ?_
      refine runs_seq ?_
      refine runs_reg (ops_run (by simp [lop, loud, callA, calleeA, callF_step h61, h61, callF_step h59, h59, callF_step h83, h83, oOpenN, oPrice, fx, hd, cx1, cx2, rx, W_fit0, zQ, vP, h0, h0b, hc]; rfl) ?_)
      simp only [AEx.thn, AEx.blk]
      refine runs_ret ?_
      simp [lop, loud, callA, calleeA, callF_step h61, h61, callF_step h59, h59, callF_step h83, h83, oOpenN, oPrice, fx, hd, cx1, cx2, rx, W_fit0, zQ, vP, h0, h0b, hc]
theorem a19 (P : Program) (T : Nat → Option CFn) (hT : T 19 = some c19) (h57 : T 57 = some { c57 with frsh := false, orc := oOpen }) (h58 : T 58 = some { c58 with frsh := true, orc := oIsCount }) (h59 : T 59 = some { c59 with frsh := true, orc := oPrice }) (q : PQ) (x : AVal) (hx : rowsV x = some (q.steps.map rP)) (hl : q.steps.length ≤ 1000) (l r : Int) : Answers P T 19 [vQ q x, .agg [I l, I r]] [] fun v h => frz true h 5 v = some (.tup [I (if errS q l r = 0 then cheapQ q l r else 0), I (errS q l r)]) := by
  have fx := fun H d => rowsV_frz hx H d
  have rx := fun n d => rowsV_rb hx n d
  have hd := dQ_vQ hx hl
  have cx := rowsV_cells hx
  obtain ⟨cx1, cx2⟩ := cx
  simp only [vQ] at hd ⊢
  refine answers_of hT (orcF_none rfl) ?_
  simp only [c19]
  by_cases h0 : checkQ q = 0
  · refine runs_seq ?_
    refine runs_reg (ops_run (by simp [lop, loud, callA, calleeA, callF_step h57, h57, callF_step h58, h58, callF_step h59, h59, oOpen, oPrice, oIsCount, optAll, dI1, fx, hd, cx1, cx2, rx, W_fit0, zQ, vP, h0]; rfl) ?_)
    simp only [AEx.thn, AEx.blk]
    refine runs_seq ?_
    refine runs_reg (ops_run (by simp [lop, loud, callA, calleeA, callF_step h57, h57, callF_step h58, h58, callF_step h59, h59, oOpen, oPrice, oIsCount, optAll, dI1, fx, hd, cx1, cx2, rx, W_fit0, zQ, vP, h0]; rfl) ?_)
    simp only [AEx.thn, AEx.blk]
    refine runs_seq ?_
    refine runs_block ?_
    refine runs_seq ?_
    refine runs_reg (ops_run (by simp [lop, loud, callA, calleeA, callF_step h57, h57, callF_step h58, h58, callF_step h59, h59, oOpen, oPrice, oIsCount, optAll, dI1, fx, hd, cx1, cx2, rx, W_fit0, zQ, vP, h0]; rfl) ?_)
    simp only [AEx.thn, AEx.blk]
    refine runs_cond (x := false) (by simp) ?_
    refine runs_seq ?_
    refine runs_seq ?_
    refine runs_reg (ops_run (by simp [lop, loud, callA, calleeA, callF_step h57, h57, callF_step h58, h58, callF_step h59, h59, oOpen, oPrice, oIsCount, optAll, dI1, fx, hd, cx1, cx2, rx, W_fit0, zQ, vP, h0]; rfl) ?_)
    simp only [AEx.thn, AEx.blk]
    cases hb : wB 1 100000 [l, r]
    · have h9 : ¬ (1 ≤ l ∧ l ≤ r ∧ r ≤ 100000) := by simp [wB] at hb; omega
      refine runs_cond (x := true) (by simp) ?_
      refine runs_skip ?_
      simp only [AEx.thn, AEx.blk]
      refine runs_cond (x := true) (by simp) ?_
      refine runs_seq ?_
      refine runs_reg (ops_run (by simp [lop, loud, callA, calleeA, callF_step h57, h57, callF_step h58, h58, callF_step h59, h59, oOpen, oPrice, oIsCount, optAll, dI1, fx, hd, cx1, cx2, rx, W_fit0, zQ, vP, h0, hb]; rfl) ?_)
      simp only [AEx.thn, AEx.blk]
      refine runs_ret ?_
      simp [lop, loud, callA, calleeA, callF_step h57, h57, callF_step h58, h58, callF_step h59, h59, oOpen, oPrice, oIsCount, optAll, dI1, fx, hd, cx1, cx2, rx, W_fit0, zQ, vP, h0, hb, errS, h9, h0]
    · have hb' : (1 ≤ l ∧ l ≤ 100000) ∧ 1 ≤ r ∧ r ≤ 100000 := by simpa [wB] using hb
      refine runs_cond (x := false) (by simp) ?_
      refine runs_reg (ops_run (by simp [lop, loud, callA, calleeA, callF_step h57, h57, callF_step h58, h58, callF_step h59, h59, oOpen, oPrice, oIsCount, optAll, dI1, fx, hd, cx1, cx2, rx, W_fit0, zQ, vP, h0, hb]; rfl) ?_)
      simp only [AEx.thn, AEx.blk]
      refine runs_cond_split (x := decide (r < l)) (by simp) (fun hgt => ?_) (fun hgt => ?_)
      · have hgt := of_decide_eq_true hgt
        have h9 : ¬ (1 ≤ l ∧ l ≤ r ∧ r ≤ 100000) := by omega
        refine runs_seq ?_
        refine runs_reg (ops_run (by simp [lop, loud, callA, calleeA, callF_step h57, h57, callF_step h58, h58, callF_step h59, h59, oOpen, oPrice, oIsCount, optAll, dI1, fx, hd, cx1, cx2, rx, W_fit0, zQ, vP, h0, hb]; rfl) ?_)
        simp only [AEx.thn, AEx.blk]
        refine runs_ret ?_
        simp [lop, loud, callA, calleeA, callF_step h57, h57, callF_step h58, h58, callF_step h59, h59, oOpen, oPrice, oIsCount, optAll, dI1, fx, hd, cx1, cx2, rx, W_fit0, zQ, vP, h0, hb, errS, h9, h0]
      have hgt := of_decide_eq_false hgt
      have h9 : 1 ≤ l ∧ l ≤ r ∧ r ≤ 100000 := by omega
      have w1 : W .i64 (r - l) = r - l := W_fit (by omega)
      refine runs_seq ?_
      refine runs_reg (ops_run (by simp [lop, loud, callA, calleeA, callF_step h57, h57, callF_step h58, h58, callF_step h59, h59, oOpen, oPrice, oIsCount, optAll, dI1, fx, hd, cx1, cx2, rx, W_fit0, zQ, vP, h0, hb, w1]; rfl) ?_)
      simp only [AEx.thn, AEx.blk]
      refine runs_cond_split (x := decide (5000 ≤ r - l)) (by simp) (fun h5 => ?_) (fun h5 => ?_)
      · have h5 := of_decide_eq_true h5
        have h5' : 5000 ≤ r - l := by omega
        refine runs_seq ?_
        refine runs_reg (ops_run (by simp [lop, loud, callA, calleeA, callF_step h57, h57, callF_step h58, h58, callF_step h59, h59, oOpen, oPrice, oIsCount, optAll, dI1, fx, hd, cx1, cx2, rx, W_fit0, zQ, vP, h0, hb, w1]; rfl) ?_)
        simp only [AEx.thn, AEx.blk]
        refine runs_ret ?_
        simp [lop, loud, callA, calleeA, callF_step h57, h57, callF_step h58, h58, callF_step h59, h59, oOpen, oPrice, oIsCount, optAll, dI1, fx, hd, cx1, cx2, rx, W_fit0, zQ, vP, h0, hb, w1, errS, h9, h0, h5']
      have h5 := of_decide_eq_false h5
      have hE : errS q l r = 0 := by simp [errS, h9, h0, h5]
      have hpl := h9.1
      have hph : l ≤ 100000 := by omega
      have w2 : W .i64 (l + 1) = l + 1 := W_fit (by omega)
      refine runs_skip ?_
      simp only [AEx.thn, AEx.blk]
      refine runs_seq ?_
      refine runs_reg (ops_run (by simp [lop, loud, callA, calleeA, callF_step h57, h57, callF_step h58, h58, callF_step h59, h59, oOpen, oPrice, oIsCount, optAll, dI1, fx, hd, cx1, cx2, rx, W_fit0, zQ, vP, h0, hb, w1, hpl, hph, w2, hE]; rfl) ?_)
      simp only [AEx.thn, AEx.blk]
      refine runs_seq ?_
      refine runs_reg (ops_run (by simp [lop, loud, callA, calleeA, callF_step h57, h57, callF_step h58, h58, callF_step h59, h59, oOpen, oPrice, oIsCount, optAll, dI1, fx, hd, cx1, cx2, rx, W_fit0, zQ, vP, h0, hb, w1, hpl, hph, w2, hE]; rfl) ?_)
      simp only [AEx.thn, AEx.blk]
      refine runs_seq ?_
      refine runs_seq ?_
      refine runs_reg (ops_run (by simp [lop, loud, callA, calleeA, callF_step h57, h57, callF_step h58, h58, callF_step h59, h59, oOpen, oPrice, oIsCount, optAll, dI1, fx, hd, cx1, cx2, rx, W_fit0, zQ, vP, h0, hb, w1, hpl, hph, w2, hE]; rfl) ?_)
      simp only [AEx.thn, AEx.blk]
      refine runs_block ?_
      refine runs_loop_inv (fun m σ => ∃ (n best : Int), (r + 1 - n).toNat = m ∧ l ≤ best ∧ best < n ∧ n ≤ r + 1 ∧ cheapI (priceI q) (r + 1 - n).toNat n best (priceI q best) = cheapQ q l r ∧ σ = ⟨[.any, .any, .any, .ref 1 0 0, I best, .any, .ref 2 0 0, I (priceI q best), I n, .any, .any, .any, .any, .any, .any, .any, .any, .any, .any, .any, .any, .any, .any, .any, .any, .any, .any, .any, .any, .any, .any, .any, .any, .any, .any, .any, .any, .any, .any, .any, .any, .any, .any, .any, .any, .any, .any, .any, .any, .any, .any, .any, .any, .any, .any, .any, .any, .any, .any, .any, .any, .any, .any, .any, .any, .any], [some (.row 11 [[I q.area, I q.board, I q.waste, I q.tool, I q.setup, I q.run, I q.work, I q.pallet, I q.freight, I q.margin, x]]), some (.row 2 [[I l, I r]]), some (.row 11 [[I q.area, I q.board, I q.waste, I q.tool, I q.setup, I q.run, I q.work, I q.pallet, I q.freight, I q.margin, x]]), some (.row 1 [[I l], [I r]])]⟩) ?_ (r + 1 - (l + 1)).toNat _ ⟨l + 1, l, rfl, by omega, by omega, by omega, by rw [show r + 1 - (l + 1) = r - l by omega]; rfl, by simp⟩
      rintro m σ ⟨n, best, rfl, hb1, hb2, hb3, hinv, rfl⟩
      refine runs_seq ?_
      refine runs_seq ?_
      refine runs_reg (ops_run (by simp [lop, loud, callA, calleeA, callF_step h57, h57, callF_step h58, h58, callF_step h59, h59, oOpen, oPrice, oIsCount, optAll, dI1, fx, hd, cx1, cx2, rx, W_fit0, zQ, vP, h0, hb, w1, hpl, hph, w2, hE]; rfl) ?_)
      simp only [AEx.thn, AEx.blk]
      refine runs_cond_split (x := decide (n ≤ r)) (by simp) (fun hlt => ?_) (fun hlt => ?_)
      · have hlt := of_decide_eq_true hlt
        have hn1 : 1 ≤ n := by omega
        have hn2 : n ≤ 100000 := by omega
        have pb := (price_bd h0 ⟨hn1, hn2⟩).2.2
        have pc := (price_bd h0 (n := best) ⟨by omega, by omega⟩).2.2
        have e1 := mul_bd pb.1 pb.2 (show 0 ≤ best by omega) (show best ≤ 100000 by omega)
        have e2 := mul_bd pc.1 pc.2 (show 0 ≤ n by omega) (show n ≤ 100000 by omega)
        have w3 : W .i64 (priceI q n * best) = priceI q n * best := W_fit (by omega)
        have w4 : W .i64 (priceI q best * n) = priceI q best * n := W_fit (by omega)
        have w5 : W .i64 (n + 1) = n + 1 := W_small (by omega)
        have hk : (r + 1 - n).toNat = (r + 1 - (n + 1)).toNat + 1 := by omega
        rw [hk] at hinv
        simp only [cheapI] at hinv
        refine runs_skip ?_
        simp only [AEx.thn, AEx.blk]
        refine runs_seq ?_
        refine runs_block ?_
        refine runs_seq ?_
        refine runs_reg (ops_run (by simp [lop, loud, callA, calleeA, callF_step h57, h57, callF_step h58, h58, callF_step h59, h59, oOpen, oPrice, oIsCount, optAll, dI1, fx, hd, cx1, cx2, rx, W_fit0, zQ, vP, h0, hb, w1, hpl, hph, w2, hE, hn1, hn2, w3, w4, w5]; rfl) ?_)
        simp only [AEx.thn, AEx.blk]
        refine runs_seq ?_
        refine runs_reg (ops_run (by simp [lop, loud, callA, calleeA, callF_step h57, h57, callF_step h58, h58, callF_step h59, h59, oOpen, oPrice, oIsCount, optAll, dI1, fx, hd, cx1, cx2, rx, W_fit0, zQ, vP, h0, hb, w1, hpl, hph, w2, hE, hn1, hn2, w3, w4, w5]; rfl) ?_)
        simp only [AEx.thn, AEx.blk]
        refine runs_cond_split (x := decide (priceI q n * best < priceI q best * n)) (by simp) (fun hc => ?_) (fun hc => ?_)
        · have hc := of_decide_eq_true hc
          rw [if_pos hc] at hinv
          refine runs_reg (ops_run (by simp [lop, loud, callA, calleeA, callF_step h57, h57, callF_step h58, h58, callF_step h59, h59, oOpen, oPrice, oIsCount, optAll, dI1, fx, hd, cx1, cx2, rx, W_fit0, zQ, vP, h0, hb, w1, hpl, hph, w2, hE, hn1, hn2, w3, w4, w5]; rfl) ?_)
          simp only [AEx.thn, AEx.blk]
          refine runs_reg (ops_run (by simp [lop, loud, callA, calleeA, callF_step h57, h57, callF_step h58, h58, callF_step h59, h59, oOpen, oPrice, oIsCount, optAll, dI1, fx, hd, cx1, cx2, rx, W_fit0, zQ, vP, h0, hb, w1, hpl, hph, w2, hE, hn1, hn2, w3, w4, w5]; rfl) ?_)
          simp only [AEx.thn, AEx.blk]
          exact ⟨(r + 1 - (n + 1)).toNat, by omega, n + 1, n, rfl, by omega, by omega, by omega, hinv, by simp⟩
        · have hc := of_decide_eq_false hc
          rw [if_neg hc] at hinv
          refine runs_skip ?_
          simp only [AEx.thn, AEx.blk]
          refine runs_reg (ops_run (by simp [lop, loud, callA, calleeA, callF_step h57, h57, callF_step h58, h58, callF_step h59, h59, oOpen, oPrice, oIsCount, optAll, dI1, fx, hd, cx1, cx2, rx, W_fit0, zQ, vP, h0, hb, w1, hpl, hph, w2, hE, hn1, hn2, w3, w4, w5]; rfl) ?_)
          simp only [AEx.thn, AEx.blk]
          exact ⟨(r + 1 - (n + 1)).toNat, by omega, n + 1, best, rfl, by omega, by omega, by omega, hinv, by simp⟩
      · have hlt := of_decide_eq_false hlt
        obtain rfl : n = r + 1 := by omega
        rw [show (r + 1 - (r + 1)).toNat = 0 by omega] at hinv
        simp only [cheapI] at hinv
        subst hinv
        refine runs_exit ?_
        simp only [AEx.thn, AEx.blk, if_true, if_false, reduceIte, Nat.reduceEqDiff, Nat.succ_ne_zero, Nat.one_ne_zero, Nat.zero_ne_one]
        refine runs_seq ?_
        refine runs_reg (ops_run (by simp [lop, loud, callA, calleeA, callF_step h57, h57, callF_step h58, h58, callF_step h59, h59, oOpen, oPrice, oIsCount, optAll, dI1, fx, hd, cx1, cx2, rx, W_fit0, zQ, vP, h0, hb, w1, hpl, hph, w2, hE]; rfl) ?_)
        simp only [AEx.thn, AEx.blk]
        refine runs_ret ?_
        simp [lop, loud, callA, calleeA, callF_step h57, h57, callF_step h58, h58, callF_step h59, h59, oOpen, oPrice, oIsCount, optAll, dI1, fx, hd, cx1, cx2, rx, W_fit0, zQ, vP, h0, hb, w1, hpl, hph, w2, hE]
  · have h0b : (checkQ q == 0) = false := by simpa using h0
    refine runs_seq ?_
    refine runs_reg (ops_run (by simp [lop, loud, callA, calleeA, callF_step h57, h57, callF_step h58, h58, callF_step h59, h59, oOpen, oPrice, oIsCount, optAll, dI1, fx, hd, cx1, cx2, rx, W_fit0, zQ, vP, h0, h0b]; rfl) ?_)
    simp only [AEx.thn, AEx.blk]
    refine runs_seq ?_
    refine runs_reg (ops_run (by simp [lop, loud, callA, calleeA, callF_step h57, h57, callF_step h58, h58, callF_step h59, h59, oOpen, oPrice, oIsCount, optAll, dI1, fx, hd, cx1, cx2, rx, W_fit0, zQ, vP, h0, h0b]; rfl) ?_)
    simp only [AEx.thn, AEx.blk]
    refine runs_seq ?_
    refine runs_block ?_
    refine runs_seq ?_
    refine runs_reg (ops_run (by simp [lop, loud, callA, calleeA, callF_step h57, h57, callF_step h58, h58, callF_step h59, h59, oOpen, oPrice, oIsCount, optAll, dI1, fx, hd, cx1, cx2, rx, W_fit0, zQ, vP, h0, h0b]; rfl) ?_)
    simp only [AEx.thn, AEx.blk]
    refine runs_cond (x := true) (by simp [h0]) ?_
    refine runs_seq ?_
    refine runs_reg (ops_run (by simp [lop, loud, callA, calleeA, callF_step h57, h57, callF_step h58, h58, callF_step h59, h59, oOpen, oPrice, oIsCount, optAll, dI1, fx, hd, cx1, cx2, rx, W_fit0, zQ, vP, h0, h0b]; rfl) ?_)
    simp only [AEx.thn, AEx.blk]
    refine runs_ret ?_
    simp [lop, loud, callA, calleeA, callF_step h57, h57, callF_step h58, h58, callF_step h59, h59, oOpen, oPrice, oIsCount, optAll, dI1, fx, hd, cx1, cx2, rx, W_fit0, zQ, vP, h0, h0b, errS]
theorem a26 (P : Program) (T : Nat → Option CFn) (hT : T 26 = some c26) (h61 : T 61 = some { c61 with frsh := false, orc := oOpenN }) (h65 : T 65 = some { c65 with frsh := true, orc := oWithin }) (h59 : T 59 = some { c59 with frsh := true, orc := oPrice }) (q : PQ) (x : AVal) (hx : rowsV x = some (q.steps.map rP)) (hl : q.steps.length ≤ 1000) (n bad : Int) : Answers P T 26 [vQ q x, I n, I bad] [] fun v h => frz true h 5 v = some (.tup [I (if errC q n bad = 0 then priceI q n * bad / n else 0), I (if errC q n bad = 0 then priceI q n - priceI q n * bad / n else 0), I (errC q n bad)]) := by
  have hck : errN q n = 0 → checkQ q = 0 ∧ 1 ≤ n ∧ n ≤ 100000 := by
    unfold errN
    split
    · rename_i h; split
      · rename_i h2; exact fun _ => ⟨h, h2⟩
      · intro h; simp at h
    · rename_i h; intro h'; exact absurd h' h
  have fx := fun H d => rowsV_frz hx H d
  have rx := fun n d => rowsV_rb hx n d
  have hd := dQ_vQ hx hl
  have cx := rowsV_cells hx
  obtain ⟨cx1, cx2⟩ := cx
  simp only [vQ] at hd ⊢
  refine answers_of hT (orcF_none rfl) ?_
  simp only [c26]
  by_cases h0 : errN q n = 0
  · obtain ⟨hc, hn1, hn2⟩ := hck h0
    have pb := (price_bd hc ⟨hn1, hn2⟩).2.2
    refine runs_seq ?_
    refine runs_reg (ops_run (by simp [lop, loud, callA, calleeA, callF_step h61, h61, callF_step h65, h65, callF_step h59, h59, oOpenN, oPrice, oWithin, optAll, dI1, fx, hd, cx1, cx2, rx, W_fit0, zQ, vP, h0, hc, hn1, hn2, wB_one]; rfl) ?_)
    simp only [AEx.thn, AEx.blk]
    refine runs_seq ?_
    refine runs_reg (ops_run (by simp [lop, loud, callA, calleeA, callF_step h61, h61, callF_step h65, h65, callF_step h59, h59, oOpenN, oPrice, oWithin, optAll, dI1, fx, hd, cx1, cx2, rx, W_fit0, zQ, vP, h0, hc, hn1, hn2, wB_one]; rfl) ?_)
    simp only [AEx.thn, AEx.blk]
    refine runs_seq ?_
    refine runs_block ?_
    refine runs_seq ?_
    refine runs_reg (ops_run (by simp [lop, loud, callA, calleeA, callF_step h61, h61, callF_step h65, h65, callF_step h59, h59, oOpenN, oPrice, oWithin, optAll, dI1, fx, hd, cx1, cx2, rx, W_fit0, zQ, vP, h0, hc, hn1, hn2, wB_one]; rfl) ?_)
    simp only [AEx.thn, AEx.blk]
    refine runs_cond (x := false) (by simp) ?_
    refine runs_seq ?_
    refine runs_reg (ops_run (by simp [lop, loud, callA, calleeA, callF_step h61, h61, callF_step h65, h65, callF_step h59, h59, oOpenN, oPrice, oWithin, optAll, dI1, fx, hd, cx1, cx2, rx, W_fit0, zQ, vP, h0, hc, hn1, hn2, wB_one]; rfl) ?_)
    simp only [AEx.thn, AEx.blk]
    refine runs_cond_split (x := !(inI 0 bad n)) (by simp) (fun hb => ?_) (fun hb => ?_)
    · have hb : ¬ (0 ≤ bad ∧ bad ≤ n) := by simp [inI] at hb; omega
      refine runs_seq ?_
      refine runs_reg (ops_run (by simp [lop, loud, callA, calleeA, callF_step h61, h61, callF_step h65, h65, callF_step h59, h59, oOpenN, oPrice, oWithin, optAll, dI1, fx, hd, cx1, cx2, rx, W_fit0, zQ, vP, h0, hc, hn1, hn2, wB_one]; rfl) ?_)
      simp only [AEx.thn, AEx.blk]
      refine runs_ret ?_
      simp [lop, loud, callA, calleeA, callF_step h61, h61, callF_step h65, h65, callF_step h59, h59, oOpenN, oPrice, oWithin, optAll, dI1, fx, hd, cx1, cx2, rx, W_fit0, zQ, vP, h0, hc, hn1, hn2, wB_one, errC, h0, hb]
    have hb : 0 ≤ bad ∧ bad ≤ n := by simpa [inI] using hb
    have hE : errC q n bad = 0 := by simp [errC, h0, hb]
    have e1 := mul_bd pb.1 pb.2 hb.1 (show bad ≤ 100000 by omega)
    have w1 : W .i64 (priceI q n * bad) = priceI q n * bad := W_fit (by omega)
    have d1 : (priceI q n * bad).tdiv n = priceI q n * bad / n := tdiv_pos e1.1
    have fb := share (m := priceI q n) pb.1 hb.1 hb.2 hn1
    have w2 : W .i64 (priceI q n * bad / n) = priceI q n * bad / n := W_fit (by omega)
    have w3 : W .i64 (priceI q n - priceI q n * bad / n) = priceI q n - priceI q n * bad / n := W_fit (by omega)
    have hn0 : n ≠ 0 := by omega
    refine runs_skip ?_
    simp only [AEx.thn, AEx.blk]
    refine runs_seq ?_
    refine runs_reg (ops_run (by simp [lop, loud, callA, calleeA, callF_step h61, h61, callF_step h65, h65, callF_step h59, h59, oOpenN, oPrice, oWithin, optAll, dI1, fx, hd, cx1, cx2, rx, W_fit0, zQ, vP, h0, hc, hn1, hn2, wB_one, w1, w2, w3, d1, hn0, hE]; rfl) ?_)
    simp only [AEx.thn, AEx.blk]
    refine runs_seq ?_
    refine runs_reg (ops_run (by simp [lop, loud, callA, calleeA, callF_step h61, h61, callF_step h65, h65, callF_step h59, h59, oOpenN, oPrice, oWithin, optAll, dI1, fx, hd, cx1, cx2, rx, W_fit0, zQ, vP, h0, hc, hn1, hn2, wB_one, w1, w2, w3, d1, hn0, hE]; rfl) ?_)
    simp only [AEx.thn, AEx.blk]
    refine runs_seq ?_
    refine runs_reg (ops_run (by simp [lop, loud, callA, calleeA, callF_step h61, h61, callF_step h65, h65, callF_step h59, h59, oOpenN, oPrice, oWithin, optAll, dI1, fx, hd, cx1, cx2, rx, W_fit0, zQ, vP, h0, hc, hn1, hn2, wB_one, w1, w2, w3, d1, hn0, hE]; rfl) ?_)
    simp only [AEx.thn, AEx.blk]
    refine runs_ret ?_
    simp [lop, loud, callA, calleeA, callF_step h61, h61, callF_step h65, h65, callF_step h59, h59, oOpenN, oPrice, oWithin, optAll, dI1, fx, hd, cx1, cx2, rx, W_fit0, zQ, vP, h0, hc, hn1, hn2, wB_one, w1, w2, w3, d1, hn0, hE]
  · have h0b : (errN q n == 0) = false := by simpa using h0
    by_cases hc : checkQ q = 0
    · refine runs_seq ?_
      refine runs_reg (ops_run (by simp [lop, loud, callA, calleeA, callF_step h61, h61, callF_step h65, h65, callF_step h59, h59, oOpenN, oPrice, oWithin, optAll, dI1, fx, hd, cx1, cx2, rx, W_fit0, zQ, vP, h0, h0b, hc]; rfl) ?_)
      simp only [AEx.thn, AEx.blk]
      refine runs_seq ?_
      refine runs_reg (ops_run (by simp [lop, loud, callA, calleeA, callF_step h61, h61, callF_step h65, h65, callF_step h59, h59, oOpenN, oPrice, oWithin, optAll, dI1, fx, hd, cx1, cx2, rx, W_fit0, zQ, vP, h0, h0b, hc]; rfl) ?_)
      simp only [AEx.thn, AEx.blk]
      refine runs_seq ?_
      refine runs_block ?_
      refine runs_seq ?_
      refine runs_reg (ops_run (by simp [lop, loud, callA, calleeA, callF_step h61, h61, callF_step h65, h65, callF_step h59, h59, oOpenN, oPrice, oWithin, optAll, dI1, fx, hd, cx1, cx2, rx, W_fit0, zQ, vP, h0, h0b, hc]; rfl) ?_)
      simp only [AEx.thn, AEx.blk]
      refine runs_cond (x := true) (by simp [h0]) ?_
      refine runs_seq ?_
      refine runs_reg (ops_run (by simp [lop, loud, callA, calleeA, callF_step h61, h61, callF_step h65, h65, callF_step h59, h59, oOpenN, oPrice, oWithin, optAll, dI1, fx, hd, cx1, cx2, rx, W_fit0, zQ, vP, h0, h0b, hc]; rfl) ?_)
      simp only [AEx.thn, AEx.blk]
      refine runs_ret ?_
      simp [lop, loud, callA, calleeA, callF_step h61, h61, callF_step h65, h65, callF_step h59, h59, oOpenN, oPrice, oWithin, optAll, dI1, fx, hd, cx1, cx2, rx, W_fit0, zQ, vP, h0, h0b, hc, errC]
    · refine runs_seq ?_
      refine runs_reg (ops_run (by simp [lop, loud, callA, calleeA, callF_step h61, h61, callF_step h65, h65, callF_step h59, h59, oOpenN, oPrice, oWithin, optAll, dI1, fx, hd, cx1, cx2, rx, W_fit0, zQ, vP, h0, h0b, hc]; rfl) ?_)
      simp only [AEx.thn, AEx.blk]
      refine runs_seq ?_
      refine runs_reg (ops_run (by simp [lop, loud, callA, calleeA, callF_step h61, h61, callF_step h65, h65, callF_step h59, h59, oOpenN, oPrice, oWithin, optAll, dI1, fx, hd, cx1, cx2, rx, W_fit0, zQ, vP, h0, h0b, hc]; rfl) ?_)
      simp only [AEx.thn, AEx.blk]
      refine runs_seq ?_
      refine runs_block ?_
      refine runs_seq ?_
      refine runs_reg (ops_run (by simp [lop, loud, callA, calleeA, callF_step h61, h61, callF_step h65, h65, callF_step h59, h59, oOpenN, oPrice, oWithin, optAll, dI1, fx, hd, cx1, cx2, rx, W_fit0, zQ, vP, h0, h0b, hc]; rfl) ?_)
      simp only [AEx.thn, AEx.blk]
      refine runs_cond (x := true) (by simp [h0]) ?_
      refine runs_seq ?_
      refine runs_reg (ops_run (by simp [lop, loud, callA, calleeA, callF_step h61, h61, callF_step h65, h65, callF_step h59, h59, oOpenN, oPrice, oWithin, optAll, dI1, fx, hd, cx1, cx2, rx, W_fit0, zQ, vP, h0, h0b, hc]; rfl) ?_)
      simp only [AEx.thn, AEx.blk]
      refine runs_ret ?_
      simp [lop, loud, callA, calleeA, callF_step h61, h61, callF_step h65, h65, callF_step h59, h59, oOpenN, oPrice, oWithin, optAll, dI1, fx, hd, cx1, cx2, rx, W_fit0, zQ, vP, h0, h0b, hc, errC]
noncomputable def PD_41 : Nat → Option CFn := upd PD1 41 true (oEach)
theorem PD_41_ok : TabOk Try.prog GG PD_41 := tab_add mixed PD1_ok fun args v ho => by
  unfold oEach at ho; split at ho <;> (try simp at ho)
  rename_i v n
  split at ho <;> (try simp at ho)
  rename_i q hq
  obtain ⟨x, rfl, hx, hl⟩ := dQ_eq hq
  try simp at ho
  subst ho
  exact a41 Try.prog PD1 rfl rfl rfl rfl q x hx hl n
noncomputable def PD_19 : Nat → Option CFn := upd PD_41 19 true (oCheapest)
theorem PD_19_ok : TabOk Try.prog GG PD_19 := tab_add mixed PD_41_ok fun args v ho => by
  unfold oCheapest at ho; split at ho <;> (try simp at ho)
  rename_i v l r
  split at ho <;> (try simp at ho)
  rename_i q hq
  obtain ⟨x, rfl, hx, hl⟩ := dQ_eq hq
  try simp at ho
  subst ho
  exact a19 Try.prog PD_41 rfl rfl rfl rfl q x hx hl l r
noncomputable def PD : Nat → Option CFn := upd PD_19 26 true (oCredit)
theorem PD_ok : TabOk Try.prog GG PD := tab_add mixed PD_19_ok fun args v ho => by
  unfold oCredit at ho; split at ho <;> (try simp at ho)
  rename_i v n bad
  split at ho <;> (try simp at ho)
  rename_i q hq
  obtain ⟨x, rfl, hx, hl⟩ := dQ_eq hq
  try simp at ho
  subst ho
  exact a26 Try.prog PD_19 rfl rfl rfl rfl q x hx hl n bad
end
end Go.Proofs.Ytfnnonoffiljhaa.Tab
