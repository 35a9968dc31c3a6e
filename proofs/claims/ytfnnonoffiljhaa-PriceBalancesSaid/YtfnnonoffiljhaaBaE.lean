/- The plain law of books: their errors, what each account has in the end. No condition. -/
import Derived.Test.YtfnnonoffiljhaaBaP
import Derived.Test.YtfnnonoffiljhaaBaN
set_option linter.unusedSimpArgs false
set_option linter.unusedVariables false
namespace Go.Proofs.Ytfnnonoffiljhaa.Tab
open Go Go.Abs Go.Proofs

/-- An entry: from, to, the amount. -/
abbrev Ent := Int × Int × Int
structure PB where
  opening : List Int
  closing : List Int
  entries : List Ent
def rI (n : Int) : List AVal := [I n]
def rE (e : Ent) : List AVal := [I e.1, I e.2.1, I e.2.2]
def entryOk (n : Int) (e : Ent) : Bool := inI 0 e.1 (n - 1) && inI 0 e.2.1 (n - 1) && (e.1 != e.2.1) && inI (-1) e.2.2 1000000
def sumOk (n : Int) : Bool := inI (-1000000000) n 1000000000
/-- The error of a book. -/
def bookE (b : PB) : Int :=
  if 5 < b.opening.length ∨ 12 < b.entries.length then 5
  else if b.opening.length = 0 ∨ b.closing.length ≠ b.opening.length ∨ ¬ (b.opening.all sumOk && b.closing.all sumOk) = true then 4
  else if b.entries.all (entryOk b.opening.length) then 0 else 2
structure BookOk (b : PB) : Prop where
  n5 : b.opening.length ≤ 5
  e12 : b.entries.length ≤ 12
  n0 : b.opening.length ≠ 0
  cl : b.closing.length = b.opening.length
  op : ∀ n ∈ b.opening, -1000000000 ≤ n ∧ n ≤ 1000000000
  co : ∀ n ∈ b.closing, -1000000000 ≤ n ∧ n ≤ 1000000000
  en : ∀ e ∈ b.entries, (0 ≤ e.1 ∧ e.1 < b.opening.length) ∧ (0 ≤ e.2.1 ∧ e.2.1 < b.opening.length) ∧ e.1 ≠ e.2.1 ∧ -1 ≤ e.2.2 ∧ e.2.2 ≤ 1000000
theorem book_ok {b : PB} (h : bookE b = 0) : BookOk b := by
  unfold bookE at h
  split at h
  · simp at h
  rename_i h1
  split at h
  · simp at h
  rename_i h2
  split at h
  · rename_i h3
    simp only [not_or, Decidable.not_not, Bool.and_eq_true, List.all_eq_true, sumOk, inI, decide_eq_true_eq] at h1 h2
    simp only [List.all_eq_true, entryOk, inI, Bool.and_eq_true, decide_eq_true_eq, bne_iff_ne, ne_eq] at h3
    refine ⟨by omega, by omega, h2.1, h2.2.1, h2.2.2.1, h2.2.2.2, fun e he => ?_⟩
    obtain ⟨⟨⟨h4, h5⟩, h6⟩, h7⟩ := h3 e he
    exact ⟨by omega, by omega, h6, h7⟩
  · simp at h

/-- Do amounts lack? -/
def blotsI (es : List Ent) : Int := es.foldl (fun n e => if e.2.2 = -1 then n + 1 else n) 0
theorem blots_from (es : List Ent) : ∀ n : Int, es.foldl (fun n e => if e.2.2 = -1 then n + 1 else n) n = n + blotsI es := by
  unfold blotsI
  induction es with
  | nil => intro n; simp
  | cons e es ih =>
    intro n
    simp only [List.foldl_cons]
    rw [ih, ih (if e.2.2 = -1 then 0 + 1 else 0)]
    split <;> omega
theorem blots_bd (es : List Ent) : 0 ≤ blotsI es ∧ blotsI es ≤ es.length := by
  induction es with
  | nil => simp [blotsI]
  | cons e es ih =>
    have := blots_from es (if e.2.2 = -1 then 0 + 1 else 0)
    have e2 : blotsI (e :: es) = es.foldl (fun n e => if e.2.2 = -1 then n + 1 else n) (if e.2.2 = -1 then 0 + 1 else 0) := rfl
    rw [e2, this]
    simp only [List.length_cons]
    split <;> omega
theorem blots_any (es : List Ent) : (0 < blotsI es) ↔ es.any (fun e => e.2.2 == -1) = true := by
  induction es with
  | nil => simp [blotsI]
  | cons e es ih =>
    have := blots_from es (if e.2.2 = -1 then 0 + 1 else 0)
    have e2 : blotsI (e :: es) = es.foldl (fun n e => if e.2.2 = -1 then n + 1 else n) (if e.2.2 = -1 then 0 + 1 else 0) := rfl
    have b := blots_bd es
    rw [e2, this, List.any_cons, Bool.or_eq_true, ← ih]
    by_cases h : e.2.2 = -1
    · simp [h]; omega
    · simp [h]

/-- An entry's work on all accounts. -/
def balStep (out : List Int) (e : Ent) : List Int :=
  if e.2.2 = -1 then out else
    let o1 := out.set e.1.toNat (out.getD e.1.toNat 0 - e.2.2)
    o1.set e.2.1.toNat (o1.getD e.2.1.toNat 0 + e.2.2)
def balI (b : PB) : List Int := b.entries.foldl balStep b.opening
/-- An entry's work on one account. -/
def accStep (a : Int) (x : Int) (e : Ent) : Int :=
  let y := if 0 ≤ e.2.2 ∧ e.2.1 = a then x + e.2.2 else x
  if 0 ≤ e.2.2 ∧ e.1 = a then y - e.2.2 else y
def accI (b : PB) (a : Int) : Int := b.entries.foldl (accStep a) (b.opening.getD a.toNat 0)
theorem balStep_len (out : List Int) (e : Ent) : (balStep out e).length = out.length := by unfold balStep; split <;> simp
theorem bal_len : ∀ (es : List Ent) (out : List Int), (es.foldl balStep out).length = out.length
  | [], _ => rfl
  | e :: es, out => by rw [List.foldl_cons, bal_len es, balStep_len]
theorem balStep_at {out : List Int} {e : Ent} (h1 : 0 ≤ e.1 ∧ e.1 < out.length) (h2 : 0 ≤ e.2.1 ∧ e.2.1 < out.length) (h3 : e.1 ≠ e.2.1) (h4 : -1 ≤ e.2.2) {a : Nat} (ha : a < out.length) : (balStep out e).getD a 0 = accStep a (out.getD a 0) e := by
  obtain ⟨f, t, n⟩ := e
  simp only at h1 h2 h3 h4
  unfold balStep accStep
  simp only
  by_cases hn : n = -1
  · subst hn; simp
  · have h0 : 0 ≤ n := by omega
    simp only [hn, if_false, h0, true_and]
    simp only [List.getD_eq_getElem?_getD, List.getElem?_set, List.length_set]
    have e1 : t.toNat < out.length := by omega
    have e2 : f.toNat < out.length := by omega
    have e3 : f.toNat ≠ t.toNat := by omega
    by_cases c1 : t.toNat = a
    · subst c1
      have c2 : t = (t.toNat : Int) := by omega
      have c3 : ¬ f = (t.toNat : Int) := by omega
      simp only [if_true, e1, e3, if_false, ← c2, c3, Option.getD_some]
      simp only [h3, if_false]
    · have c2 : ¬ t = (a : Int) := by omega
      simp only [c1, if_false, c2]
      by_cases c3 : f.toNat = a
      · subst c3
        have c4 : f = (f.toNat : Int) := by omega
        simp only [if_true, e2, Option.getD_some]
        rw [if_pos c4]
      · have c4 : ¬ f = (a : Int) := by omega
        simp [c3, c4]
theorem bal_at : ∀ (es : List Ent) (out : List Int), (∀ e ∈ es, (0 ≤ e.1 ∧ e.1 < out.length) ∧ (0 ≤ e.2.1 ∧ e.2.1 < out.length) ∧ e.1 ≠ e.2.1 ∧ -1 ≤ e.2.2 ∧ e.2.2 ≤ 1000000) → ∀ a : Nat, a < out.length → (es.foldl balStep out).getD a 0 = es.foldl (accStep a) (out.getD a 0)
  | [], _, _, _, _ => rfl
  | e :: es, out, h, a, ha => by
    obtain ⟨h1, h2, h3, h4, h5⟩ := h e (by simp)
    rw [List.foldl_cons, List.foldl_cons, bal_at es (balStep out e) (fun e' he' => by rw [balStep_len]; exact h e' (by simp [he'])) a (by rw [balStep_len]; exact ha), balStep_at h1 h2 h3 h4 ha]
theorem balI_at {b : PB} (h : BookOk b) {a : Nat} (ha : a < b.opening.length) : (balI b).getD a 0 = accI b a := by
  have := bal_at b.entries b.opening h.en a ha
  unfold balI accI
  rw [this]
  simp
/-- No account leaves the range. -/
theorem acc_bd (a : Int) : ∀ (es : List Ent) (x M : Int), (∀ e ∈ es, -1 ≤ e.2.2 ∧ e.2.2 ≤ 1000000) → -M ≤ x ∧ x ≤ M → -(M + 1000000 * es.length) ≤ es.foldl (accStep a) x ∧ es.foldl (accStep a) x ≤ M + 1000000 * es.length
  | [], x, M, _, h => by simpa using h
  | e :: es, x, M, he, h => by
    have h1 := he e (by simp)
    have h2 : -(M + 1000000) ≤ accStep a x e ∧ accStep a x e ≤ M + 1000000 := by
      unfold accStep
      simp only
      split <;> split <;> omega
    have := acc_bd a es (accStep a x e) (M + 1000000) (fun e he' => he e (by simp [he'])) h2
    rw [List.foldl_cons]
    simp only [List.length_cons]
    omega
end Go.Proofs.Ytfnnonoffiljhaa.Tab

namespace Go.Proofs.Ytfnnonoffiljhaa.Tab
open Go Go.Abs Go.Proofs
set_option maxRecDepth 100000
set_option maxHeartbeats 4000000
set_option linter.unusedSimpArgs false
set_option linter.unusedVariables false
section
attribute [local simp] frz_int frz_bool frz_vl frz_pv frz_agg frz_tup frz_fn frz_ref frz_sl frz_nils optAll orcF rb_int rb_bool rb_agg rb_tup rb_int' rb_bool' rb_vl rb_pv rb_yld rb_nilf rb_nilp rb_nils rb_any rb_und rb_ref rb_sl rb_fn slE chunk fillA evParts evParts3 putAt List.range_succ List.range_zero List.range'_succ List.range'_zero runX_nil' unary_not evalS_pure evAll_nil evAll_cons runX_cons stepX wantedA dop CV.ev putK_eq setK_eq appK_eq fA_eq fI_eq fN_eq fRow_eq fRows_eq nth_eq Out.v putT List.replicate_succ AEx.thn AEx.blk arI pointee Abs.rowAt ldRow allV toV toC ofV ofC Builtin.min_ Builtin.min2 Builtin.max_ Builtin.max2 min_if max_if resA tupA kill trim_self trim_len trim_emp trim_nil lenA
attribute [local simp] runD_nil' runD_cons' stepD actK_eq actD clash disj masks holes maskH unmaskH diffs news eqB allB eqA ldRowN wrote toCs ofCs stA rowsV_vl rowsV_nils rowsOf dI1 dI2 dI3 dI5 elt
attribute [local simp] st_any st_und st_agg st_tup st_bool st_int st_nilp st_ref st_pv st_nils st_sl st_vl st_nilm st_mp st_fn st_nilf st_yld co_any co_und co_agg co_tup co_bool co_int co_nilp co_ref co_pv co_nils co_sl co_vl co_nilm co_mp co_fn co_nilf co_yld
def vB (x y z : AVal) : AVal := .agg [x, y, z]
def zB : AVal := .agg [.nils, .nils, .nils]
def dI3e : List AVal → Option Ent := dI3
def dBu : AVal → Option PB
  | .agg [x, y, z] => match rowsV x, rowsV y, rowsV z with
    | some rx, some ry, some rz => match optAll dI1 rx, optAll dI1 ry, optAll dI3 rz with
      | some o, some c, some e => some ⟨o, c, e⟩
      | _, _, _ => none
    | _, _, _ => none
  | _ => none
theorem dBu_eq {v : AVal} {b : PB} (h : dBu v = some b) : ∃ x y z, v = vB x y z ∧ rowsV x = some (b.opening.map rI) ∧ rowsV y = some (b.closing.map rI) ∧ rowsV z = some (b.entries.map rE) := by
  unfold dBu at h
  split at h <;> (try simp at h)
  rename_i x y z
  split at h <;> (try simp at h)
  rename_i r1 r2 r3 hx hy hz
  split at h <;> (try simp at h)
  rename_i o c e h1 h2 h3
  subst h
  have e1 := optAll_eq dI1_eq h1
  have e2 := optAll_eq dI1_eq h2
  have e3 := optAll_eq dI3_eq h3
  subst e1 e2 e3
  exact ⟨x, y, z, rfl, hx, hy, hz⟩
theorem dBu_vB {b : PB} {x y z : AVal} (hx : rowsV x = some (b.opening.map rI)) (hy : rowsV y = some (b.closing.map rI)) (hz : rowsV z = some (b.entries.map rE)) : dBu (vB x y z) = some b := by
  unfold dBu vB
  simp only [hx, hy, hz]
  rw [optAll_map (d := dI1) (enc := rI) (fun _ => rfl), optAll_map (d := dI1) (enc := rI) (fun _ => rfl), optAll_map (d := dI3) (enc := rE) (fun _ => rfl)]
def dB (v : AVal) : Option PB := match dBu v with
  | some b => if b.opening.length ≤ 1000 ∧ b.closing.length ≤ 1000 ∧ b.entries.length ≤ 1000 then some b else none
  | none => none
theorem dB_eq {v : AVal} {b : PB} (h : dB v = some b) : ∃ x y z, v = vB x y z ∧ rowsV x = some (b.opening.map rI) ∧ rowsV y = some (b.closing.map rI) ∧ rowsV z = some (b.entries.map rE) ∧ (b.opening.length ≤ 1000 ∧ b.closing.length ≤ 1000 ∧ b.entries.length ≤ 1000) := by
  unfold dB at h
  split at h <;> simp at h
  rename_i b' hb
  obtain ⟨hl, rfl⟩ := h
  obtain ⟨x, y, z, e, hx, hy, hz⟩ := dBu_eq hb
  exact ⟨x, y, z, e, hx, hy, hz, hl⟩
theorem dB_vB {b : PB} {x y z : AVal} (hx : rowsV x = some (b.opening.map rI)) (hy : rowsV y = some (b.closing.map rI)) (hz : rowsV z = some (b.entries.map rE)) (hl : b.opening.length ≤ 1000 ∧ b.closing.length ≤ 1000 ∧ b.entries.length ≤ 1000) : dB (vB x y z) = some b := by
  unfold dB
  rw [dBu_vB hx hy hz]
  simp [hl]
def oEntry : List AVal → Option AVal
  | [.agg [.int .i64 f, .int .i64 t, .int .i64 a], .int .i64 n] => if 0 ≤ n ∧ n ≤ 1000 then some (.bool (entryOk n (f, t, a))) else none
  | _ => none
def oNone : List AVal → Option AVal
  | [.agg [.int .i64 f, .int .i64 t, .int .i64 a], .pv [.int .i64 n] 0] => if 0 ≤ n ∧ n ≤ 1000 then some (.bool (!entryOk n (f, t, a))) else none
  | _ => none
def oBlot : List AVal → Option AVal
  | [.agg [.int .i64 _, .int .i64 _, .int .i64 a]] => some (.bool (a == -1))
  | _ => none
theorem wB_two' (a b n m : Int) : wB a b [n, m] = (inI a n b && inI a m b) := by simp [wB, inI]
theorem a77 (P : Program) (T : Nat → Option CFn) (hT : T 77 = some c77) (h65 : T 65 = some { c65 with frsh := true, orc := oWithin }) (f t a n : Int) (hg : 0 ≤ n ∧ n ≤ 1000) : Answers P T 77 [.agg [I f, I t, I a], I n] [] fun v h => frz true h 5 v = some (.bool (entryOk n (f, t, a))) := by
  have w1 : W .i64 (n - 1) = n - 1 := W_small (by omega)
  generalize hb1 : inI 0 f (n - 1) = b1
  generalize hb2 : inI 0 t (n - 1) = b2
  refine answers_of hT (orcF_none rfl) ?_
  simp only [c77]
  refine runs_seq ?_
  cases b1
  · refine runs_reg (ops_run (by simp [lop, loud, callA, calleeA, callF_step h65, h65, w1, oWithin, optAll, dI1, wB_two', wB_one, hb1, hb2]; rfl) ?_)
    simp only [AEx.thn, AEx.blk]
    refine runs_seq ?_
    refine runs_reg (ops_run (by simp [lop, loud, callA, calleeA, callF_step h65, h65, w1, oWithin, optAll, dI1, wB_two', wB_one, hb1, hb2]; rfl) ?_)
    simp only [AEx.thn, AEx.blk]
    refine runs_ret ?_
    simp [lop, loud, callA, calleeA, callF_step h65, h65, w1, oWithin, optAll, dI1, wB_two', wB_one, hb1, hb2, entryOk]
  · cases b2
    · refine runs_reg (ops_run (by simp [lop, loud, callA, calleeA, callF_step h65, h65, w1, oWithin, optAll, dI1, wB_two', wB_one, hb1, hb2]; rfl) ?_)
      simp only [AEx.thn, AEx.blk]
      refine runs_seq ?_
      refine runs_reg (ops_run (by simp [lop, loud, callA, calleeA, callF_step h65, h65, w1, oWithin, optAll, dI1, wB_two', wB_one, hb1, hb2]; rfl) ?_)
      simp only [AEx.thn, AEx.blk]
      refine runs_ret ?_
      simp [lop, loud, callA, calleeA, callF_step h65, h65, w1, oWithin, optAll, dI1, wB_two', wB_one, hb1, hb2, entryOk]
    · cases hb3 : f != t
      · refine runs_reg (ops_run (by simp [lop, loud, callA, calleeA, callF_step h65, h65, w1, oWithin, optAll, dI1, wB_two', wB_one, hb1, hb2, hb3]; rfl) ?_)
        simp only [AEx.thn, AEx.blk]
        refine runs_seq ?_
        refine runs_reg (ops_run (by simp [lop, loud, callA, calleeA, callF_step h65, h65, w1, oWithin, optAll, dI1, wB_two', wB_one, hb1, hb2, hb3]; rfl) ?_)
        simp only [AEx.thn, AEx.blk]
        refine runs_ret ?_
        simp [lop, loud, callA, calleeA, callF_step h65, h65, w1, oWithin, optAll, dI1, wB_two', wB_one, hb1, hb2, hb3, entryOk]
      · refine runs_reg (ops_run (by simp [lop, loud, callA, calleeA, callF_step h65, h65, w1, oWithin, optAll, dI1, wB_two', wB_one, hb1, hb2, hb3]; rfl) ?_)
        simp only [AEx.thn, AEx.blk]
        refine runs_seq ?_
        refine runs_reg (ops_run (by simp [lop, loud, callA, calleeA, callF_step h65, h65, w1, oWithin, optAll, dI1, wB_two', wB_one, hb1, hb2, hb3]; rfl) ?_)
        simp only [AEx.thn, AEx.blk]
        refine runs_ret ?_
        simp [lop, loud, callA, calleeA, callF_step h65, h65, w1, oWithin, optAll, dI1, wB_two', wB_one, hb1, hb2, hb3, entryOk]
noncomputable def PP1 : Nat → Option CFn := upd PM 77 true (oEntry)
theorem PP1_ok : TabOk Try.prog GG PP1 := tab_add mixed PM_ok fun args v ho => by
  unfold oEntry at ho; split at ho <;> (try simp at ho)
  rename_i f t a n
  obtain ⟨hg, rfl⟩ := ho
  exact a77 Try.prog PM rfl rfl f t a n hg
theorem a95 (P : Program) (T : Nat → Option CFn) (hT : T 95 = some c95) (h77 : T 77 = some { c77 with frsh := true, orc := oEntry }) (f t a n : Int) (hg : 0 ≤ n ∧ n ≤ 1000) : Answers P T 95 [.agg [I f, I t, I a], .pv [I n] 0] [] fun v h => frz true h 5 v = some (.bool (!entryOk n (f, t, a))) := by
  refine answers_of hT (orcF_none rfl) ?_
  simp only [c95]
  refine runs_seq ?_
  refine runs_reg (ops_run (by simp [lop, loud, callA, calleeA, callF_step h77, h77, oEntry, hg.1, hg.2]; rfl) ?_)
  simp only [AEx.thn, AEx.blk]
  refine runs_seq ?_
  refine runs_reg (ops_run (by simp [lop, loud, callA, calleeA, callF_step h77, h77, oEntry, hg.1, hg.2]; rfl) ?_)
  simp only [AEx.thn, AEx.blk]
  refine runs_ret ?_
  simp [lop, loud, callA, calleeA, callF_step h77, h77, oEntry, hg.1, hg.2]
theorem a67 (P : Program) (T : Nat → Option CFn) (hT : T 67 = some c67) (f t a : Int) : Answers P T 67 [.agg [I f, I t, I a]] [] fun v h => frz true h 5 v = some (.bool (a == -1)) := by
  refine answers_of hT (orcF_none rfl) ?_
  simp only [c67]
  refine runs_seq ?_
  refine runs_reg (ops_run (by simp [lop, loud, callA, calleeA]; rfl) ?_)
  simp only [AEx.thn, AEx.blk]
  refine runs_seq ?_
  refine runs_reg (ops_run (by simp [lop, loud, callA, calleeA]; rfl) ?_)
  simp only [AEx.thn, AEx.blk]
  refine runs_ret ?_
  simp [lop, loud, callA, calleeA]
theorem a108 (P : Program) (T : Nat → Option CFn) (hT : T 108 = some c108) (x : AVal) (rs : List (List AVal)) (hx : rowsV x = some rs) (g : Nat) (a b : List AVal) (r : Int) (hl : rs.length ≤ 1000) (hr : rs.all (fun r => r.length == 3 && r.all isI) = true)
    (hq : idxA (fun r => known T g (a ++ [elt r] ++ b)) 0 rs = some r) : Answers P T 108 [x, .fn g a b] [] fun v h => v = .int .i64 r ∧ h = [] := by
  have lx := rowsV_len hx
  refine answers_of hT (orcF_none rfl) ?_
  simp only [c108]
  refine runs_seq (runs_reg (ops_run (by simp; rfl) ?_))
  simp only [AEx.thn, AEx.blk]
  refine runs_seq (runs_seq (runs_reg (ops_run (by simp [lx, -lenA]; rfl) ?_)))
  simp only [AEx.thn, AEx.blk]
  refine runs_block ?_
  refine runs_loop_inv (fun m σ => ∃ (k : Nat) (i : Int), i = k ∧ m = rs.length - k ∧ k ≤ rs.length ∧ idxA (fun r => known T g (a ++ [elt r] ++ b)) k (rs.drop k) = some r ∧
    σ = ⟨[x, .fn g a b, .any, .any, .any, .any, .any, I rs.length, I i, .any, .any, .any, .any, .any, .any, .any, .any, .any, .any], []⟩) ?_ (rs.length - 0) _ ⟨0, 0, rfl, rfl, Nat.zero_le _, hq, by simp⟩
  rintro m σ ⟨k, i, hik, rfl, hk, hi, rfl⟩
  have h0 : 0 ≤ i := by omega
  have htn : i.toNat = k := by omega
  refine runs_seq (runs_reg (ops_run (by simp; rfl) ?_))
  simp only [AEx.thn, AEx.blk]
  refine runs_seq (runs_cond_split (x := decide (i < rs.length)) (by simp) (fun hlt => ?_) (fun hge => ?_))
  · refine runs_skip ?_
    simp only [AEx.thn, AEx.blk]
    have hlt' : k < rs.length := by have := of_decide_eq_true hlt; omega
    obtain ⟨tt, rfl⟩ := rowsV_get hx hlt'
    have hr1 := List.all_eq_true.1 hr _ (List.getElem_mem hlt')
    simp only [Bool.and_eq_true, beq_iff_eq, List.all_eq_true] at hr1
    obtain ⟨y0, y1, y2, hrk⟩ := ints3 hr1.1 hr1.2
    rw [List.drop_eq_getElem_cons hlt'] at hi
    simp only [idxA] at hi
    refine runs_seq (runs_block ?_)
    refine runs_seq (runs_reg (ops_run (by simp; rfl) ?_))
    simp only [AEx.thn, AEx.blk]
    split at hi
    · rename_i hb
      simp at hi; rw [← hik] at hi; subst hi
      rw [hrk] at hb; simp only [elt, List.append_assoc, List.cons_append, List.nil_append] at hb
      refine runs_seq (runs_reg (ops_run (by simp [h0, htn, hlt', hrk, lop, loud, callA, calleeA, callF_known hb]; rfl) ?_))
      simp only [AEx.thn, AEx.blk]
      refine runs_cond (x := true) (by simp) ?_
      refine runs_seq (runs_reg (ops_run (by simp; rfl) ?_))
      simp only [AEx.thn, AEx.blk]
      refine runs_ret ?_
      simp
    · rename_i hb
      rw [hrk] at hb; simp only [elt, List.append_assoc, List.cons_append, List.nil_append] at hb
      refine runs_seq (runs_reg (ops_run (by simp [h0, htn, hlt', hrk, lop, loud, callA, calleeA, callF_known hb]; rfl) ?_))
      simp only [AEx.thn, AEx.blk]
      refine runs_cond (x := false) (by simp) ?_
      refine runs_skip ?_
      simp only [AEx.thn, AEx.blk]
      refine runs_reg (ops_run (by simp; rfl) ?_)
      simp only [AEx.thn, AEx.blk]
      refine ⟨rs.length - (k + 1), by omega, k + 1, i + 1, by omega, rfl, by omega, hi, ?_⟩
      simp [W_small (show -1000000 ≤ i + 1 ∧ i + 1 ≤ 1000000 by omega)]
    · simp at hi
  · refine runs_exit ?_
    simp only [AEx.thn, AEx.blk, if_true]
    have hke : k = rs.length := by
      have := of_decide_eq_false hge
      omega
    subst hke
    rw [List.drop_length] at hi
    simp [idxA] at hi
    subst hi
    refine runs_seq (runs_reg (ops_run (by simp; rfl) ?_))
    simp only [AEx.thn, AEx.blk]
    refine runs_ret ?_
    simp

theorem a97 (P : Program) (T : Nat → Option CFn) (hT : T 97 = some c97) (hj : T 108 = some c108) (x : AVal) (rs : List (List AVal)) (hx : rowsV x = some rs) (g : Nat) (a b : List AVal) (r : Int) (hl : rs.length ≤ 1000) (hr : rs.all (fun r => r.length == 3 && r.all isI) = true)
    (hq : idxA (fun r => known T g (a ++ [elt r] ++ b)) 0 rs = some r) : Answers P T 97 [x, .fn g a b] [] fun v h => v = .bool (decide (0 ≤ r)) ∧ h = [] := by
  refine answers_of hT (orcF_none rfl) ?_
  simp only [c97]
  refine runs_seq (runs_reg (ops_run (by simp; rfl) ?_))
  simp only [AEx.thn, AEx.blk]
  refine runs_seq (runs_reg ?_)
  refine ops_cons 0 (by simp; rfl) (ops_cons 0 (by simp; rfl) ?_)
  refine ops_call (f := 108) (args := [x, .fn g a b]) (by simp) (by simp) (by simp [lop]) (by simp [calleeA]) ?_
  refine (a108 P T hj x rs hx g a b r hl hr hq).mono ?_
  rintro v h' ⟨rfl, rfl⟩
  refine ops_run (by simp; rfl) ?_
  simp only [AEx.thn, AEx.blk]
  refine runs_ret ?_
  simp

noncomputable def PP2_95 : Nat → Option CFn := upd PP1 95 true (oNone)
theorem PP2_95_ok : TabOk Try.prog GG PP2_95 := tab_add mixed PP1_ok fun args v ho => by
  unfold oNone at ho; split at ho <;> (try simp at ho)
  rename_i f t a n
  obtain ⟨hg, rfl⟩ := ho
  exact a95 Try.prog PP1 rfl rfl f t a n hg
noncomputable def PP2 : Nat → Option CFn := upd PP2_95 67 true (oBlot)
theorem PP2_ok : TabOk Try.prog GG PP2 := tab_add mixed PP2_95_ok fun args v ho => by
  unfold oBlot at ho; split at ho <;> simp at ho
  rename_i f t a
  subst ho
  exact a67 Try.prog PP2_95 rfl f t a
noncomputable def PP3 : Nat → Option CFn := upd PP2 97 true (oCF PP2 3)
theorem PP3_ok : TabOk Try.prog GG PP3 := tab_add mixed PP2_ok fun args v ho => by
  unfold oCF at ho; split at ho <;> (try simp at ho)
  rename_i x g a b
  split at ho <;> (try simp at ho)
  rename_i rs hx
  obtain ⟨⟨hl, hr⟩, ho⟩ := ho
  split at ho <;> simp at ho
  rename_i r hq
  subst ho
  refine (a97 Try.prog PP2 rfl rfl x rs hx g a b r hl (by simpa using hr) (by simpa using hq)).mono ?_
  rintro v h ⟨rfl, rfl⟩
  rfl
theorem a107 (P : Program) (T : Nat → Option CFn) (hT : T 107 = some c107) (n : Nat) (hn : 1 ≤ n ∧ n ≤ 2000) : Answers P T 107 [.nils, I n] [] fun v h => v = .sl 0 0 0 false ∧ h = [some (.row 1 (List.replicate n [I 0]))] := by
  have hw0 : W .i64 (n : Int) = n := W_small (by omega)
  have hw00 : W .i64 0 = 0 := by decide
  have hn0 : ¬ (n : Int) < 0 := by omega
  have hn1 : 0 < n := by omega
  have hw1 : W .i64 ((n : Int) - 0) = n := W_small (by omega)
  have hlim : (n : Int) ≤ 1048576 := by omega
  have hl1 : 1 ≤ (n : Int) := by omega
  refine answers_of hT (orcF_none rfl) ?_
  simp only [c107]
  refine runs_seq ?_
  refine runs_reg (ops_run (by simp [lop, loud, callA, calleeA, hw0, hw00, hn0, hn1, hw1, lim, slE, List.drop_zero, hlim, hl1, evOpt, sliceA, bounds, hiB, bound]; rfl) ?_)
  simp only [AEx.thn, AEx.blk]
  refine runs_seq ?_
  refine runs_seq ?_
  refine runs_reg (ops_run (by simp [lop, loud, callA, calleeA, hw0, hw00, hn0, hn1, hw1, lim, slE, List.drop_zero, hlim, hl1, evOpt, sliceA, bounds, hiB, bound]; rfl) ?_)
  simp only [AEx.thn, AEx.blk]
  refine runs_cond (x := false) (by simp [hn0]) ?_
  refine runs_skip ?_
  simp only [AEx.thn, AEx.blk]
  refine runs_seq ?_
  refine runs_seq ?_
  refine runs_reg (ops_run (by simp [lop, loud, callA, calleeA, hw0, hw00, hn0, hn1, hw1, lim, slE, List.drop_zero, hlim, hl1, evOpt, sliceA, bounds, hiB, bound]; rfl) ?_)
  simp only [AEx.thn, AEx.blk]
  refine runs_seq ?_
  refine runs_reg (ops_run (by simp [lop, loud, callA, calleeA, hw0, hw00, hn0, hn1, hw1, lim, slE, List.drop_zero, hlim, hl1, evOpt, sliceA, bounds, hiB, bound]; rfl) ?_)
  simp only [AEx.thn, AEx.blk]
  refine runs_cond (x := true) (by simp [hw0, hw00, hn1]) ?_
  refine runs_reg (ops_run (by simp [lop, loud, callA, calleeA, hw0, hw00, hn0, hn1, hw1, lim, slE, List.drop_zero, hlim, hl1, evOpt, sliceA, bounds, hiB, bound]; rfl) ?_)
  simp only [AEx.thn, AEx.blk]
  refine runs_seq ?_
  refine runs_reg (ops_run (by simp [lop, loud, callA, calleeA, hw0, hw00, hn0, hn1, hw1, lim, slE, List.drop_zero, hlim, hl1, evOpt, sliceA, bounds, hiB, bound]; rfl) ?_)
  simp only [AEx.thn, AEx.blk]
  refine runs_ret ?_
  simp [lop, loud, callA, calleeA, hw0, hw00, hn0, hn1, hw1, lim, slE, List.drop_zero, hlim, hl1, evOpt, sliceA, bounds, hiB, bound, trim]
end
end Go.Proofs.Ytfnnonoffiljhaa.Tab

namespace Go.Proofs.Ytfnnonoffiljhaa.Tab
open Go Go.Abs Go.Proofs
set_option maxRecDepth 100000
set_option maxHeartbeats 4000000
set_option linter.unusedSimpArgs false
set_option linter.unusedVariables false
section
attribute [local simp] frz_int frz_bool frz_vl frz_pv frz_agg frz_tup frz_fn frz_ref frz_sl frz_nils optAll orcF rb_int rb_bool rb_agg rb_tup rb_int' rb_bool' rb_vl rb_pv rb_yld rb_nilf rb_nilp rb_nils rb_any rb_und rb_ref rb_sl rb_fn slE chunk fillA evParts evParts3 putAt List.range_succ List.range_zero List.range'_succ List.range'_zero runX_nil' unary_not evalS_pure evAll_nil evAll_cons runX_cons stepX wantedA dop CV.ev putK_eq setK_eq appK_eq fA_eq fI_eq fN_eq fRow_eq fRows_eq nth_eq Out.v putT List.replicate_succ AEx.thn AEx.blk arI pointee Abs.rowAt ldRow allV toV toC ofV ofC Builtin.min_ Builtin.min2 Builtin.max_ Builtin.max2 min_if max_if resA tupA kill trim_self trim_len trim_emp trim_nil lenA
attribute [local simp] runD_nil' runD_cons' stepD actK_eq actD clash disj masks holes maskH unmaskH diffs news eqB allB eqA ldRowN wrote toCs ofCs stA rowsV_vl rowsV_nils rowsOf dI1 dI2 dI3 dI5 elt
attribute [local simp] st_any st_und st_agg st_tup st_bool st_int st_nilp st_ref st_pv st_nils st_sl st_vl st_nilm st_mp st_fn st_nilf st_yld co_any co_und co_agg co_tup co_bool co_int co_nilp co_ref co_pv co_nils co_sl co_vl co_nilm co_mp co_fn co_nilf co_yld
theorem a96 (P : Program) (T : Nat → Option CFn) (hT : T 96 = some c96) (h107 : T 107 = some c107) (x y : AVal) (xs ys : List Int) (tq : Bool) (hx : rowsV x = some (xs.map rI)) (hy : rowsV y = some (ys.map rI)) (hx0 : xs ≠ []) (hy0 : ys ≠ []) (hl : xs.length ≤ 1000 ∧ ys.length ≤ 1000) :
    Answers P T 96 [.vl [[x], [y]] tq] [] fun v h => frz true h 5 v = some (.vl ((xs ++ ys).map rI) false) := by
  obtain ⟨tx, rfl⟩ : ∃ t, x = .vl (xs.map rI) t := (rowsV_cases hx).resolve_left fun h => hx0 (by simpa using h.2)
  obtain ⟨ty, rfl⟩ : ∃ t, y = .vl (ys.map rI) t := (rowsV_cases hy).resolve_left fun h => hy0 (by simpa using h.2)
  have lxp : 0 < xs.length := List.length_pos_iff.2 hx0
  have lyp : 0 < ys.length := List.length_pos_iff.2 hy0
  have e1 : W .i64 (0 + (xs.length : Int)) = xs.length := by rw [Int.zero_add]; exact W_small (by omega)
  have e1' : W .i64 (xs.length : Int) = xs.length := W_small (by omega)
  have e2 : W .i64 ((xs.length : Int) + (ys.length : Int)) = (xs.length : Int) + (ys.length : Int) := W_small (by omega)
  have n1 : ¬ (xs.length : Int) < 0 := by omega
  have n2 : ¬ (xs.length : Int) + (ys.length : Int) < 0 := by omega
  have i1 : W .i64 1 = 1 := by decide
  have i2 : W .i64 2 = 2 := by decide
  have l1 : xs.length ≤ 1048576 := by omega
  have l2 : xs.length + ys.length ≤ 1048576 := by omega
  have tk : (xs.map rI).take xs.length = xs.map rI := List.take_of_length_le (by simp)
  refine answers_of hT (orcF_none rfl) ?_
  simp only [c96]
  refine runs_seq ?_
  refine runs_reg (ops_run (by simp [lop, loud, callA, calleeA, e1, e1', e2, n1, n2, i1, i2]; rfl) ?_)
  simp only [AEx.thn, AEx.blk]
  refine runs_seq ?_
  refine runs_reg (ops_run (by simp [lop, loud, callA, calleeA, e1, e1', e2, n1, n2, i1, i2]; rfl) ?_)
  simp only [AEx.thn, AEx.blk]
  refine runs_seq ?_
  refine runs_seq ?_
  refine runs_reg (ops_run (by simp [lop, loud, callA, calleeA, e1, e1', e2, n1, n2, i1, i2]; rfl) ?_)
  simp only [AEx.thn, AEx.blk]
  refine runs_block ?_
  refine runs_loop_inv (fun m σ => ∃ (k : Nat) (i sz : Int), 2 - k = m ∧ i = k ∧ k ≤ 2 ∧ ((k = 0 ∧ sz = 0) ∨ (k = 1 ∧ sz = xs.length) ∨ (k = 2 ∧ sz = (xs.length : Int) + (ys.length : Int))) ∧ σ = ⟨[.vl [[.vl (xs.map rI) tx], [.vl (ys.map rI) ty]] tq, .any, .any, I sz, .any, .any, .any, .any, .any, .vl [[.vl (xs.map rI) tx], [.vl (ys.map rI) ty]] tq, I 2, I i, .any, .any, .any, .any, .any, .any, .any, .any, .any, .any, .any, .any, .any, .any, .any, .any, .any, .any, .any, .any, .any, .any, .any, .any], []⟩) ?_ 2 _ ⟨0, 0, 0, rfl, rfl, by decide, .inl ⟨rfl, rfl⟩, by simp⟩
  rintro m σ ⟨k, i, sz, rfl, rfl, hk, ⟨rfl, rfl⟩ | ⟨rfl, rfl⟩ | ⟨rfl, rfl⟩, rfl⟩
  · refine runs_seq ?_
    refine runs_reg (ops_run (by simp [lop, loud, callA, calleeA, e1, e1', e2, n1, n2, i1, i2]; rfl) ?_)
    simp only [AEx.thn, AEx.blk]
    refine runs_seq ?_
    refine runs_cond (x := true) (by simp) ?_
    refine runs_skip ?_
    simp only [AEx.thn, AEx.blk]
    refine runs_seq ?_
    refine runs_block ?_
    refine runs_seq ?_
    refine runs_reg (ops_run (by simp [lop, loud, callA, calleeA, e1, e1', e2, n1, n2, i1, i2]; rfl) ?_)
    simp only [AEx.thn, AEx.blk]
    refine runs_seq ?_
    refine runs_reg (ops_run (by simp [lop, loud, callA, calleeA, e1, e1', e2, n1, n2, i1, i2]; rfl) ?_)
    simp only [AEx.thn, AEx.blk]
    refine runs_seq ?_
    refine runs_reg (ops_run (by simp [lop, loud, callA, calleeA, e1, e1', e2, n1, n2, i1, i2]; rfl) ?_)
    simp only [AEx.thn, AEx.blk]
    refine runs_cond (x := false) (by simp) ?_
    refine runs_skip ?_
    simp only [AEx.thn, AEx.blk]
    refine runs_reg (ops_run (by simp [lop, loud, callA, calleeA, e1, e1', e2, n1, n2, i1, i2]; rfl) ?_)
    simp only [AEx.thn, AEx.blk]
    exact ⟨1, by decide, 1, 1, _, rfl, rfl, by decide, .inr (.inl ⟨rfl, rfl⟩), by simp [lop, loud, callA, calleeA, e1, e1', e2, n1, n2, i1, i2]⟩
  · refine runs_seq ?_
    refine runs_reg (ops_run (by simp [lop, loud, callA, calleeA, e1, e1', e2, n1, n2, i1, i2]; rfl) ?_)
    simp only [AEx.thn, AEx.blk]
    refine runs_seq ?_
    refine runs_cond (x := true) (by simp) ?_
    refine runs_skip ?_
    simp only [AEx.thn, AEx.blk]
    refine runs_seq ?_
    refine runs_block ?_
    refine runs_seq ?_
    refine runs_reg (ops_run (by simp [lop, loud, callA, calleeA, e1, e1', e2, n1, n2, i1, i2]; rfl) ?_)
    simp only [AEx.thn, AEx.blk]
    refine runs_seq ?_
    refine runs_reg (ops_run (by simp [lop, loud, callA, calleeA, e1, e1', e2, n1, n2, i1, i2]; rfl) ?_)
    simp only [AEx.thn, AEx.blk]
    refine runs_seq ?_
    refine runs_reg (ops_run (by simp [lop, loud, callA, calleeA, e1, e1', e2, n1, n2, i1, i2]; rfl) ?_)
    simp only [AEx.thn, AEx.blk]
    refine runs_cond (x := false) (by simp) ?_
    refine runs_skip ?_
    simp only [AEx.thn, AEx.blk]
    refine runs_reg (ops_run (by simp [lop, loud, callA, calleeA, e1, e1', e2, n1, n2, i1, i2]; rfl) ?_)
    simp only [AEx.thn, AEx.blk]
    exact ⟨0, by decide, 2, 2, _, rfl, rfl, by decide, .inr (.inr ⟨rfl, rfl⟩), by simp [lop, loud, callA, calleeA, e1, e1', e2, n1, n2, i1, i2]⟩
  · refine runs_seq ?_
    refine runs_reg (ops_run (by simp [lop, loud, callA, calleeA, e1, e1', e2, n1, n2, i1, i2]; rfl) ?_)
    simp only [AEx.thn, AEx.blk]
    refine runs_seq ?_
    refine runs_cond (x := false) (by simp) ?_
    refine runs_exit ?_
    simp only [AEx.thn, AEx.blk, if_true, if_false, reduceIte, Nat.reduceEqDiff, Nat.succ_ne_zero, Nat.one_ne_zero, Nat.zero_ne_one]
    refine runs_seq ?_
    refine runs_reg (ops_take 1 (by simp; rfl) ?_)
    simp only [List.drop_succ_cons, List.drop_zero]
    refine ops_call (f := 107) (args := [.nils, I ((xs.length + ys.length : Nat) : Int)]) (by simp) (by simp) (by simp [lop]) (by simp [calleeA]) ?_
    refine (a107 P T h107 (xs.length + ys.length) (by omega)).mono ?_
    rintro v h' ⟨rfl, rfl⟩
    refine ops_run (by simp; rfl) ?_
    simp only [AEx.thn, AEx.blk]
    refine runs_seq ?_
    refine runs_seq ?_
    refine runs_reg (ops_run (by simp [lop, loud, callA, calleeA, e1, e1', e2, n1, n2, i1, i2]; rfl) ?_)
    simp only [AEx.thn, AEx.blk]
    refine runs_block ?_
    refine runs_loop_inv (fun m σ => ∃ (k : Nat) (i : Int) (v : AVal) (g : Heap), 2 - k = m ∧ i = k ∧ k ≤ 2 ∧ ((k = 0 ∧ v = .sl 0 0 0 false ∧ g = [some (.row 1 (List.replicate (xs.length + ys.length) [I 0]))]) ∨ (k = 1 ∧ v = .sl 1 0 xs.length false ∧ g = [none, some (.row 1 (xs.map rI))]) ∨ (k = 2 ∧ v = .sl 2 0 (xs.length + ys.length) false ∧ g = [none, none, some (.row 1 ((xs ++ ys).map rI))])) ∧ σ = ⟨[.any, .any, .any, .any, .any, .any, v, .any, .any, .any, .any, .any, .any, .any, .any, .any, .any, .any, .any, .any, .any, .any, .any, .any, .any, .vl [[.vl (xs.map rI) tx], [.vl (ys.map rI) ty]] tq, I 2, I i, .any, .any, .any, .any, .any, .any, .any, .any], g⟩) ?_ 2 _ ⟨0, 0, _, _, rfl, rfl, by decide, .inl ⟨rfl, rfl, rfl⟩, by simp⟩
    rintro m σ ⟨k, i, v, g, rfl, rfl, hk, ⟨rfl, rfl, rfl⟩ | ⟨rfl, rfl, rfl⟩ | ⟨rfl, rfl, rfl⟩, rfl⟩
    · refine runs_seq ?_
      refine runs_reg (ops_run (by simp [lop, loud, callA, calleeA, e1, e1', e2, n1, n2, i1, i2, hx0, hy0, l1, l2, tk, lim, slE, rI, List.all_map, Function.comp_def]; rfl) ?_)
      simp only [AEx.thn, AEx.blk]
      refine runs_seq ?_
      refine runs_cond (x := true) (by simp) ?_
      refine runs_skip ?_
      simp only [AEx.thn, AEx.blk]
      refine runs_seq ?_
      refine runs_block ?_
      refine runs_seq ?_
      refine runs_reg (ops_run (by simp [lop, loud, callA, calleeA, e1, e1', e2, n1, n2, i1, i2, hx0, hy0, l1, l2, tk, lim, slE, rI, List.all_map, Function.comp_def]; rfl) ?_)
      simp only [AEx.thn, AEx.blk]
      refine runs_reg (ops_run (by simp [lop, loud, callA, calleeA, e1, e1', e2, n1, n2, i1, i2, hx0, hy0, l1, l2, tk, lim, slE, rI, List.all_map, Function.comp_def]; rfl) ?_)
      simp only [AEx.thn, AEx.blk]
      refine runs_reg (ops_run (by simp [lop, loud, callA, calleeA, e1, e1', e2, n1, n2, i1, i2, hx0, hy0, l1, l2, tk, lim, slE, rI, List.all_map, Function.comp_def]; rfl) ?_)
      simp only [AEx.thn, AEx.blk]
      refine ⟨1, by decide, 1, 1, _, _, rfl, rfl, by decide, .inr (.inl ⟨rfl, rfl, rfl⟩), ?_⟩
      simp [trim, rbB_row, rbB_none, lop, loud, callA, calleeA, e1, e1', e2, n1, n2, i1, i2, hx0, hy0, l1, l2, tk, lim, slE, rI, List.all_map, Function.comp_def]
    · refine runs_seq ?_
      refine runs_reg (ops_run (by simp [lop, loud, callA, calleeA, e1, e1', e2, n1, n2, i1, i2, hx0, hy0, l1, l2, tk, lim, slE, rI, List.all_map, Function.comp_def]; rfl) ?_)
      simp only [AEx.thn, AEx.blk]
      refine runs_seq ?_
      refine runs_cond (x := true) (by simp) ?_
      refine runs_skip ?_
      simp only [AEx.thn, AEx.blk]
      refine runs_seq ?_
      refine runs_block ?_
      refine runs_seq ?_
      refine runs_reg (ops_run (by simp [lop, loud, callA, calleeA, e1, e1', e2, n1, n2, i1, i2, hx0, hy0, l1, l2, tk, lim, slE, rI, List.all_map, Function.comp_def]; rfl) ?_)
      simp only [AEx.thn, AEx.blk]
      refine runs_reg (ops_run (by simp [lop, loud, callA, calleeA, e1, e1', e2, n1, n2, i1, i2, hx0, hy0, l1, l2, tk, lim, slE, rI, List.all_map, Function.comp_def]; rfl) ?_)
      simp only [AEx.thn, AEx.blk]
      refine runs_reg (ops_run (by simp [lop, loud, callA, calleeA, e1, e1', e2, n1, n2, i1, i2, hx0, hy0, l1, l2, tk, lim, slE, rI, List.all_map, Function.comp_def]; rfl) ?_)
      simp only [AEx.thn, AEx.blk]
      refine ⟨0, by decide, 2, 2, _, _, rfl, rfl, by decide, .inr (.inr ⟨rfl, rfl, rfl⟩), ?_⟩
      simp [trim, rbB_row, rbB_none, lop, loud, callA, calleeA, e1, e1', e2, n1, n2, i1, i2, hx0, hy0, l1, l2, tk, lim, slE, rI, List.all_map, Function.comp_def]
    · refine runs_seq ?_
      refine runs_reg (ops_run (by simp [lop, loud, callA, calleeA, e1, e1', e2, n1, n2, i1, i2, hx0, hy0, l1, l2, tk, lim, slE, rI, List.all_map, Function.comp_def]; rfl) ?_)
      simp only [AEx.thn, AEx.blk]
      refine runs_seq ?_
      refine runs_cond (x := false) (by simp) ?_
      refine runs_exit ?_
      simp only [AEx.thn, AEx.blk, if_true, if_false, reduceIte, Nat.reduceEqDiff, Nat.succ_ne_zero, Nat.one_ne_zero, Nat.zero_ne_one]
      refine runs_seq ?_
      refine runs_reg (ops_run (by simp [lop, loud, callA, calleeA, e1, e1', e2, n1, n2, i1, i2, hx0, hy0, l1, l2, tk, lim, slE, rI, List.all_map, Function.comp_def]; rfl) ?_)
      simp only [AEx.thn, AEx.blk]
      refine runs_ret ?_
      refine ⟨by simp, _, by simp; rfl, ?_⟩
      have e : frz true [none, none, some (.row 1 ((xs ++ ys).map rI))] 5 (.sl 2 0 (xs.length + ys.length) false) = some (.vl ((xs ++ ys).map rI) false) := frz_row true _ 4 2 _ 1 false _ rfl (by simp) (frz_rows true _ 3 _ fun r hr z hz => by
        obtain ⟨a, _, rfl⟩ := List.mem_map.1 hr
        simp [rI] at hz; subst hz; rfl)
      rw [List.map_append] at e
      simp [trim, -frz_sl, e]
def oConcat : List AVal → Option AVal
  | [.vl [[x], [y]] _] => match rowsV x, rowsV y with
    | some rx, some ry => match optAll dI1 rx, optAll dI1 ry with
      | some xs, some ys => if xs ≠ [] ∧ ys ≠ [] ∧ xs.length ≤ 1000 ∧ ys.length ≤ 1000 then some (.vl ((xs ++ ys).map rI) false) else none
      | _, _ => none
    | _, _ => none
  | _ => none
theorem dI1_rI (xs : List Int) : optAll dI1 (xs.map rI) = some xs := optAll_map (d := dI1) (enc := rI) (fun _ => rfl) xs
theorem oConcat_eq {x y : AVal} {xs ys : List Int} (t : Bool) (hx : rowsV x = some (xs.map rI)) (hy : rowsV y = some (ys.map rI)) (hx0 : xs ≠ []) (hy0 : ys ≠ []) (hl : xs.length ≤ 1000 ∧ ys.length ≤ 1000) : oConcat [.vl [[x], [y]] t] = some (.vl ((xs ++ ys).map rI) false) := by
  simp only [oConcat, hx, hy, dI1_rI]
  rw [if_pos ⟨hx0, hy0, hl⟩]
noncomputable def PP4 : Nat → Option CFn := upd PP3 96 true (oConcat)
theorem PP4_ok : TabOk Try.prog GG PP4 := tab_add mixed PP3_ok fun args v ho => by
  unfold oConcat at ho; split at ho <;> (try simp at ho)
  rename_i x y t
  split at ho <;> (try simp at ho)
  rename_i rx ry hx hy
  split at ho <;> (try simp at ho)
  rename_i xs ys h1 h2
  obtain ⟨⟨h3, h4, h5⟩, rfl⟩ := ho
  have e1 := optAll_eq dI1_eq h1
  have e2 := optAll_eq dI1_eq h2
  subst e1 e2
  exact (a96 Try.prog PP3 rfl rfl x y xs ys t hx hy h3 h4 h5).mono fun v h e => by simpa using e
end
end Go.Proofs.Ytfnnonoffiljhaa.Tab

namespace Go.Proofs.Ytfnnonoffiljhaa.Tab
open Go Go.Abs Go.Proofs
set_option maxRecDepth 100000
set_option maxHeartbeats 4000000
set_option linter.unusedSimpArgs false
set_option linter.unusedVariables false
section
attribute [local simp] frz_int frz_bool frz_vl frz_pv frz_agg frz_tup frz_fn frz_ref frz_sl frz_nils optAll orcF rb_int rb_bool rb_agg rb_tup rb_int' rb_bool' rb_vl rb_pv rb_yld rb_nilf rb_nilp rb_nils rb_any rb_und rb_ref rb_sl rb_fn slE chunk fillA evParts evParts3 putAt List.range_succ List.range_zero List.range'_succ List.range'_zero runX_nil' unary_not evalS_pure evAll_nil evAll_cons runX_cons stepX wantedA dop CV.ev putK_eq setK_eq appK_eq fA_eq fI_eq fN_eq fRow_eq fRows_eq nth_eq Out.v putT List.replicate_succ AEx.thn AEx.blk arI pointee Abs.rowAt ldRow allV toV toC ofV ofC Builtin.min_ Builtin.min2 Builtin.max_ Builtin.max2 min_if max_if resA tupA kill trim_self trim_len trim_emp trim_nil lenA
attribute [local simp] runD_nil' runD_cons' stepD actK_eq actD clash disj masks holes maskH unmaskH diffs news eqB allB eqA ldRowN wrote toCs ofCs stA rowsV_vl rowsV_nils rowsOf dI1 dI2 dI3 dI5 elt
attribute [local simp] st_any st_und st_agg st_tup st_bool st_int st_nilp st_ref st_pv st_nils st_sl st_vl st_nilm st_mp st_fn st_nilf st_yld co_any co_und co_agg co_tup co_bool co_int co_nilp co_ref co_pv co_nils co_sl co_vl co_nilm co_mp co_fn co_nilf co_yld
def oOpenB : List AVal → Option AVal
  | [v] => match dB v with
    | some b => some (.tup [if bookE b = 0 then v else zB, I (bookE b)])
    | none => none
  | _ => none
def oBook : List AVal → Option AVal
  | [v] => match dB v with
    | some b => some (I (bookE b))
    | none => none
  | _ => none
/-- The error of a book all of whose amounts must be read. -/
def readE (b : PB) : Int := if bookE b = 0 then (if b.entries.any (fun e => e.2.2 == -1) then 9 else 0) else bookE b
def oRead : List AVal → Option AVal
  | [v] => match dB v with
    | some b => some (.tup [if bookE b = 0 then v else zB, I (readE b)])
    | none => none
  | _ => none
theorem cfEnt {z : AVal} {es : List Ent} {n : Int} (hn : 0 ≤ n ∧ n ≤ 1000) (hz : rowsV z = some (es.map rE)) (hl : es.length ≤ 1000) : oCF PP2 3 [z, .fn 95 [] [.pv [I n] 0]] = some (.bool (!(es.all (entryOk n)))) := by
  have h := oCF_any (T := PP2) (s := 3) (g := 95) (a := []) (b := [.pv [I n] 0]) (p := fun r => match r with | [.int .i64 f, .int .i64 t, .int .i64 a] => !entryOk n (f, t, a) | _ => false) hz (by simpa using hl) (by simp [isI, rE]) (by
    intro r hr
    obtain ⟨e, _, rfl⟩ := List.mem_map.1 hr
    have : oNone [elt (rE e), .pv [I n] 0] = some (.bool (!entryOk n e)) := by
      show (if 0 ≤ n ∧ n ≤ 1000 then _ else _) = _
      rw [if_pos hn]
    exact this)
  rw [h]
  simp [List.any_map, Function.comp_def, rE, List.not_all_eq_any_not]
theorem cfBlot {z : AVal} {es : List Ent} (hz : rowsV z = some (es.map rE)) (hl : es.length ≤ 1000) : oCF PP2 3 [z, .fn 67 [] []] = some (.bool (es.any fun e => e.2.2 == -1)) := by
  have h := oCF_any (T := PP2) (s := 3) (g := 67) (a := []) (b := []) (p := fun r => match r with | [.int .i64 f, .int .i64 t, .int .i64 a] => a == -1 | _ => false) hz (by simpa using hl) (by simp [isI, rE]) (by
    intro r hr
    obtain ⟨e, _, rfl⟩ := List.mem_map.1 hr
    rfl)
  rw [h]
  simp [List.any_map, Function.comp_def, rE]
theorem wB_all (xs : List Int) : wB (-1000000000) 1000000000 xs = xs.all sumOk := rfl
theorem a66 (P : Program) (T : Nat → Option CFn) (hT : T 66 = some c66) (h96 : T 96 = some { c96 with frsh := true, orc := oConcat }) (h65 : T 65 = some { c65 with frsh := true, orc := oWithin }) (h97 : T 97 = some { c97 with frsh := true, orc := oCF PP2 3 }) (b : PB) (x y z : AVal) (hx : rowsV x = some (b.opening.map rI)) (hy : rowsV y = some (b.closing.map rI)) (hz : rowsV z = some (b.entries.map rE)) (hl : b.opening.length ≤ 1000 ∧ b.closing.length ≤ 1000 ∧ b.entries.length ≤ 1000) : Answers P T 66 [vB x y z] [] fun v h => frz false h 5 v = some (.tup [if bookE b = 0 then vB x y z else zB, I (bookE b)]) := by
  have fx := fun H d => rowsV_frz hx H d
  have fy := fun H d => rowsV_frz hy H d
  have fz := fun H d => rowsV_frz hz H d
  have rx := fun n d => rowsV_rb hx n d
  have ry := fun n d => rowsV_rb hy n d
  have rz := fun n d => rowsV_rb hz n d
  have hd := dB_vB hx hy hz hl
  have lx := rowsV_len hx
  have ly := rowsV_len hy
  have lz := rowsV_len hz
  rw [List.length_map] at lx ly lz
  obtain ⟨cx1, cx2⟩ := rowsV_cells hx
  obtain ⟨cy1, cy2⟩ := rowsV_cells hy
  obtain ⟨cz1, cz2⟩ := rowsV_cells hz
  simp only [vB] at hd ⊢
  refine answers_of hT (orcF_none rfl) ?_
  simp only [c66]
  refine runs_seq ?_
  refine runs_reg (ops_run (by simp [lop, loud, callA, calleeA, callF_step h96, h96, callF_step h65, h65, callF_step h97, h97, fx, fy, fz, rx, ry, rz, hd, lx, ly, lz, -lenA, cx1, cx2, cy1, cy2, cz1, cz2, zB, vB]; rfl) ?_)
  simp only [AEx.thn, AEx.blk]
  refine runs_seq ?_
  refine runs_reg (ops_run (by simp [lop, loud, callA, calleeA, callF_step h96, h96, callF_step h65, h65, callF_step h97, h97, fx, fy, fz, rx, ry, rz, hd, lx, ly, lz, -lenA, cx1, cx2, cy1, cy2, cz1, cz2, zB, vB]; rfl) ?_)
  simp only [AEx.thn, AEx.blk]
  refine runs_seq ?_
  refine runs_reg (ops_run (by simp [lop, loud, callA, calleeA, callF_step h96, h96, callF_step h65, h65, callF_step h97, h97, fx, fy, fz, rx, ry, rz, hd, lx, ly, lz, -lenA, cx1, cx2, cy1, cy2, cz1, cz2, zB, vB]; rfl) ?_)
  simp only [AEx.thn, AEx.blk]
  refine runs_seq ?_
  refine runs_block ?_
  refine runs_seq ?_
  refine runs_seq ?_
  refine runs_reg (ops_run (by simp [lop, loud, callA, calleeA, callF_step h96, h96, callF_step h65, h65, callF_step h97, h97, fx, fy, fz, rx, ry, rz, hd, lx, ly, lz, -lenA, cx1, cx2, cy1, cy2, cz1, cz2, zB, vB]; rfl) ?_)
  simp only [AEx.thn, AEx.blk]
  refine runs_cond_split (x := decide ((5 : Int) < (b.opening.length : Int))) (by simp) (fun h1 => ?_) (fun h1 => ?_)
  · have h1 := of_decide_eq_true h1
    refine runs_skip ?_
    simp only [AEx.thn, AEx.blk]
    refine runs_cond (x := true) (by simp; omega) ?_
    have he : bookE b = 5 := by unfold bookE; rw [if_pos (by omega)]
    refine runs_seq ?_
    refine runs_reg (ops_run (by simp [lop, loud, callA, calleeA, callF_step h96, h96, callF_step h65, h65, callF_step h97, h97, fx, fy, fz, rx, ry, rz, hd, lx, ly, lz, -lenA, cx1, cx2, cy1, cy2, cz1, cz2, zB, vB]; rfl) ?_)
    simp only [AEx.thn, AEx.blk]
    refine runs_ret ?_
    simp [lop, loud, callA, calleeA, callF_step h96, h96, callF_step h65, h65, callF_step h97, h97, fx, fy, fz, rx, ry, rz, hd, lx, ly, lz, -lenA, cx1, cx2, cy1, cy2, cz1, cz2, zB, vB, he]
  have h1 := of_decide_eq_false h1
  refine runs_reg (ops_run (by simp [lop, loud, callA, calleeA, callF_step h96, h96, callF_step h65, h65, callF_step h97, h97, fx, fy, fz, rx, ry, rz, hd, lx, ly, lz, -lenA, cx1, cx2, cy1, cy2, cz1, cz2, zB, vB]; rfl) ?_)
  simp only [AEx.thn, AEx.blk]
  refine runs_cond_split (x := decide ((12 : Int) < (b.entries.length : Int))) (by simp) (fun h2 => ?_) (fun h2 => ?_)
  · have h2 := of_decide_eq_true h2
    have he : bookE b = 5 := by unfold bookE; rw [if_pos (by omega)]
    refine runs_seq ?_
    refine runs_reg (ops_run (by simp [lop, loud, callA, calleeA, callF_step h96, h96, callF_step h65, h65, callF_step h97, h97, fx, fy, fz, rx, ry, rz, hd, lx, ly, lz, -lenA, cx1, cx2, cy1, cy2, cz1, cz2, zB, vB]; rfl) ?_)
    simp only [AEx.thn, AEx.blk]
    refine runs_ret ?_
    simp [lop, loud, callA, calleeA, callF_step h96, h96, callF_step h65, h65, callF_step h97, h97, fx, fy, fz, rx, ry, rz, hd, lx, ly, lz, -lenA, cx1, cx2, cy1, cy2, cz1, cz2, zB, vB, he]
  have h2 := of_decide_eq_false h2
  have h12 : ¬ (5 < b.opening.length ∨ 12 < b.entries.length) := by omega
  refine runs_seq ?_
  refine runs_seq ?_
  refine runs_reg (ops_run (by simp [lop, loud, callA, calleeA, callF_step h96, h96, callF_step h65, h65, callF_step h97, h97, fx, fy, fz, rx, ry, rz, hd, lx, ly, lz, -lenA, cx1, cx2, cy1, cy2, cz1, cz2, zB, vB]; rfl) ?_)
  simp only [AEx.thn, AEx.blk]
  refine runs_cond_split (x := ((b.opening.length : Int) == 0)) (by simp) (fun h3 => ?_) (fun h3 => ?_)
  · have h3 : b.opening.length = 0 := by simpa using h3
    have hb4 : b.opening.length = 0 ∨ b.closing.length ≠ b.opening.length ∨ ¬ (b.opening.all sumOk && b.closing.all sumOk) = true := .inl h3
    refine runs_skip ?_
    simp only [AEx.thn, AEx.blk]
    refine runs_cond (x := true) (by simp [h3]) ?_
    have he : bookE b = 4 := by unfold bookE; rw [if_neg h12, if_pos hb4]
    refine runs_seq ?_
    refine runs_reg (ops_run (by simp [lop, loud, callA, calleeA, callF_step h96, h96, callF_step h65, h65, callF_step h97, h97, fx, fy, fz, rx, ry, rz, hd, lx, ly, lz, -lenA, cx1, cx2, cy1, cy2, cz1, cz2, zB, vB]; rfl) ?_)
    simp only [AEx.thn, AEx.blk]
    refine runs_ret ?_
    simp [lop, loud, callA, calleeA, callF_step h96, h96, callF_step h65, h65, callF_step h97, h97, fx, fy, fz, rx, ry, rz, hd, lx, ly, lz, -lenA, cx1, cx2, cy1, cy2, cz1, cz2, zB, vB, he]
  have h3 : ¬ b.opening.length = 0 := by simpa using h3
  refine runs_seq ?_
  refine runs_reg (ops_run (by simp [lop, loud, callA, calleeA, callF_step h96, h96, callF_step h65, h65, callF_step h97, h97, fx, fy, fz, rx, ry, rz, hd, lx, ly, lz, -lenA, cx1, cx2, cy1, cy2, cz1, cz2, zB, vB]; rfl) ?_)
  simp only [AEx.thn, AEx.blk]
  refine runs_cond_split (x := ((b.closing.length : Int) != (b.opening.length : Int))) (by simp) (fun h4 => ?_) (fun h4 => ?_)
  · have h4 : ¬ (b.closing.length : Int) = (b.opening.length : Int) := by simpa using h4
    have hb4 : b.opening.length = 0 ∨ b.closing.length ≠ b.opening.length ∨ ¬ (b.opening.all sumOk && b.closing.all sumOk) = true := .inr (.inl (by omega))
    refine runs_skip ?_
    simp only [AEx.thn, AEx.blk]
    refine runs_cond (x := true) (by simp [h4]; try omega) ?_
    have he : bookE b = 4 := by unfold bookE; rw [if_neg h12, if_pos hb4]
    refine runs_seq ?_
    refine runs_reg (ops_run (by simp [lop, loud, callA, calleeA, callF_step h96, h96, callF_step h65, h65, callF_step h97, h97, fx, fy, fz, rx, ry, rz, hd, lx, ly, lz, -lenA, cx1, cx2, cy1, cy2, cz1, cz2, zB, vB]; rfl) ?_)
    simp only [AEx.thn, AEx.blk]
    refine runs_ret ?_
    simp [lop, loud, callA, calleeA, callF_step h96, h96, callF_step h65, h65, callF_step h97, h97, fx, fy, fz, rx, ry, rz, hd, lx, ly, lz, -lenA, cx1, cx2, cy1, cy2, cz1, cz2, zB, vB, he]
  have h4i : (b.closing.length : Int) = (b.opening.length : Int) := by simpa using h4
  have h4 : b.closing.length = b.opening.length := by omega
  have ho0 : b.opening ≠ [] := by intro h; rw [h] at h3; simp at h3
  have hc0 : b.closing ≠ [] := by intro h; rw [h] at h4; simp at h4; omega
  have hcc := fun t => oConcat_eq t hx hy ho0 hc0 (by omega)
  have hw := oWithin_eq (x := .vl ((b.opening ++ b.closing).map rI) false) (xs := b.opening ++ b.closing) (-1000000000) 1000000000 rfl (by simp; omega)
  rw [wB_all, List.all_append] at hw
  simp only [List.map_append] at hcc hw
  generalize hA : (b.opening.all sumOk && b.closing.all sumOk) = A at *
  refine runs_reg (ops_run (by simp [lop, loud, callA, calleeA, callF_step h96, h96, callF_step h65, h65, callF_step h97, h97, fx, fy, fz, rx, ry, rz, hd, lx, ly, lz, -lenA, cx1, cx2, cy1, cy2, cz1, cz2, zB, vB, hcc, hw]; rfl) ?_)
  simp only [AEx.thn, AEx.blk]
  refine runs_cond_split (x := !A) (by simp) (fun h5 => ?_) (fun h5 => ?_)
  · have hb4 : b.opening.length = 0 ∨ b.closing.length ≠ b.opening.length ∨ ¬ (b.opening.all sumOk && b.closing.all sumOk) = true := .inr (.inr (by rw [hA]; simpa using h5))
    have he : bookE b = 4 := by unfold bookE; rw [if_neg h12, if_pos hb4]
    refine runs_seq ?_
    refine runs_reg (ops_run (by simp [lop, loud, callA, calleeA, callF_step h96, h96, callF_step h65, h65, callF_step h97, h97, fx, fy, fz, rx, ry, rz, hd, lx, ly, lz, -lenA, cx1, cx2, cy1, cy2, cz1, cz2, zB, vB, hcc, hw]; rfl) ?_)
    simp only [AEx.thn, AEx.blk]
    refine runs_ret ?_
    simp [lop, loud, callA, calleeA, callF_step h96, h96, callF_step h65, h65, callF_step h97, h97, fx, fy, fz, rx, ry, rz, hd, lx, ly, lz, -lenA, cx1, cx2, cy1, cy2, cz1, cz2, zB, vB, hcc, hw, he]
  have h5 : A = true := by simpa using h5
  have hn4 : ¬ (b.opening.length = 0 ∨ b.closing.length ≠ b.opening.length ∨ ¬ (b.opening.all sumOk && b.closing.all sumOk) = true) := fun h => h.elim h3 fun h => h.elim (fun h => h h4) fun h => h (hA.trans h5)
  have hcf := cfEnt (n := (b.opening.length : Int)) (by omega) hz hl.2.2
  generalize hE : b.entries.all (entryOk b.opening.length) = E at hcf
  refine runs_seq ?_
  refine runs_reg (ops_run (by simp [lop, loud, callA, calleeA, callF_step h96, h96, callF_step h65, h65, callF_step h97, h97, fx, fy, fz, rx, ry, rz, hd, lx, ly, lz, -lenA, cx1, cx2, cy1, cy2, cz1, cz2, zB, vB, hcc, hw, hcf]; rfl) ?_)
  simp only [AEx.thn, AEx.blk]
  refine runs_cond_split (x := !E) (by simp) (fun h6 => ?_) (fun h6 => ?_)
  · have he : bookE b = 2 := by unfold bookE; rw [if_neg h12, if_neg hn4, hE, if_neg (by simpa using h6)]
    refine runs_seq ?_
    refine runs_reg (ops_run (by simp [lop, loud, callA, calleeA, callF_step h96, h96, callF_step h65, h65, callF_step h97, h97, fx, fy, fz, rx, ry, rz, hd, lx, ly, lz, -lenA, cx1, cx2, cy1, cy2, cz1, cz2, zB, vB, hcc, hw, hcf]; rfl) ?_)
    simp only [AEx.thn, AEx.blk]
    refine runs_ret ?_
    simp [lop, loud, callA, calleeA, callF_step h96, h96, callF_step h65, h65, callF_step h97, h97, fx, fy, fz, rx, ry, rz, hd, lx, ly, lz, -lenA, cx1, cx2, cy1, cy2, cz1, cz2, zB, vB, hcc, hw, hcf, he]
  have he : bookE b = 0 := by unfold bookE; rw [if_neg h12, if_neg hn4, hE, if_pos (by simpa using h6)]
  refine runs_skip ?_
  simp only [AEx.thn, AEx.blk]
  refine runs_seq ?_
  refine runs_reg (ops_run (by simp [lop, loud, callA, calleeA, callF_step h96, h96, callF_step h65, h65, callF_step h97, h97, fx, fy, fz, rx, ry, rz, hd, lx, ly, lz, -lenA, cx1, cx2, cy1, cy2, cz1, cz2, zB, vB, hcc, hw, hcf]; rfl) ?_)
  simp only [AEx.thn, AEx.blk]
  refine runs_ret ?_
  simp [lop, loud, callA, calleeA, callF_step h96, h96, callF_step h65, h65, callF_step h97, h97, fx, fy, fz, rx, ry, rz, hd, lx, ly, lz, -lenA, cx1, cx2, cy1, cy2, cz1, cz2, zB, vB, hcc, hw, hcf, he]
noncomputable def PP5 : Nat → Option CFn := upd PP4 66 false (oOpenB)
theorem PP5_ok : TabOk Try.prog GG PP5 := tab_add mixed PP4_ok fun args v ho => by
  unfold oOpenB at ho; split at ho <;> (try simp at ho)
  rename_i v
  split at ho <;> (try simp at ho)
  rename_i b hb
  obtain ⟨x, y, z, rfl, hx, hy, hz, hl⟩ := dB_eq hb
  try simp at ho
  subst ho
  exact a66 Try.prog PP4 rfl rfl rfl rfl b x y z hx hy hz hl
theorem a52 (P : Program) (T : Nat → Option CFn) (hT : T 52 = some c52) (h66 : T 66 = some { c66 with frsh := false, orc := oOpenB }) (b : PB) (x y z : AVal) (hx : rowsV x = some (b.opening.map rI)) (hy : rowsV y = some (b.closing.map rI)) (hz : rowsV z = some (b.entries.map rE)) (hl : b.opening.length ≤ 1000 ∧ b.closing.length ≤ 1000 ∧ b.entries.length ≤ 1000) : Answers P T 52 [vB x y z] [] fun v h => frz true h 5 v = some (I (bookE b)) := by
  have fx := fun H d => rowsV_frz hx H d
  have fy := fun H d => rowsV_frz hy H d
  have fz := fun H d => rowsV_frz hz H d
  have rx := fun n d => rowsV_rb hx n d
  have ry := fun n d => rowsV_rb hy n d
  have rz := fun n d => rowsV_rb hz n d
  have hd := dB_vB hx hy hz hl
  have lx := rowsV_len hx
  have ly := rowsV_len hy
  have lz := rowsV_len hz
  rw [List.length_map] at lx ly lz
  obtain ⟨cx1, cx2⟩ := rowsV_cells hx
  obtain ⟨cy1, cy2⟩ := rowsV_cells hy
  obtain ⟨cz1, cz2⟩ := rowsV_cells hz
  simp only [vB] at hd ⊢
  refine answers_of hT (orcF_none rfl) ?_
  simp only [c52]
  by_cases h0 : bookE b = 0
  · refine runs_seq ?_
    refine runs_reg (ops_run (by simp [lop, loud, callA, calleeA, callF_step h66, h66, fx, fy, fz, rx, ry, rz, hd, lx, ly, lz, -lenA, cx1, cx2, cy1, cy2, cz1, cz2, zB, oOpenB, vB, h0]; rfl) ?_)
    simp only [AEx.thn, AEx.blk]
    refine runs_seq ?_
    refine runs_reg (ops_run (by simp [lop, loud, callA, calleeA, callF_step h66, h66, fx, fy, fz, rx, ry, rz, hd, lx, ly, lz, -lenA, cx1, cx2, cy1, cy2, cz1, cz2, zB, oOpenB, vB, h0]; rfl) ?_)
    simp only [AEx.thn, AEx.blk]
    refine runs_seq ?_
    refine runs_reg (ops_run (by simp [lop, loud, callA, calleeA, callF_step h66, h66, fx, fy, fz, rx, ry, rz, hd, lx, ly, lz, -lenA, cx1, cx2, cy1, cy2, cz1, cz2, zB, oOpenB, vB, h0]; rfl) ?_)
    simp only [AEx.thn, AEx.blk]
    refine runs_ret ?_
    simp [lop, loud, callA, calleeA, callF_step h66, h66, fx, fy, fz, rx, ry, rz, hd, lx, ly, lz, -lenA, cx1, cx2, cy1, cy2, cz1, cz2, zB, oOpenB, vB, h0]
  · refine runs_seq ?_
    refine runs_reg (ops_run (by simp [lop, loud, callA, calleeA, callF_step h66, h66, fx, fy, fz, rx, ry, rz, hd, lx, ly, lz, -lenA, cx1, cx2, cy1, cy2, cz1, cz2, zB, oOpenB, vB, h0]; rfl) ?_)
    simp only [AEx.thn, AEx.blk]
    refine runs_seq ?_
    refine runs_reg (ops_run (by simp [lop, loud, callA, calleeA, callF_step h66, h66, fx, fy, fz, rx, ry, rz, hd, lx, ly, lz, -lenA, cx1, cx2, cy1, cy2, cz1, cz2, zB, oOpenB, vB, h0]; rfl) ?_)
    simp only [AEx.thn, AEx.blk]
    refine runs_seq ?_
    refine runs_reg (ops_run (by simp [lop, loud, callA, calleeA, callF_step h66, h66, fx, fy, fz, rx, ry, rz, hd, lx, ly, lz, -lenA, cx1, cx2, cy1, cy2, cz1, cz2, zB, oOpenB, vB, h0]; rfl) ?_)
    simp only [AEx.thn, AEx.blk]
    refine runs_ret ?_
    simp [lop, loud, callA, calleeA, callF_step h66, h66, fx, fy, fz, rx, ry, rz, hd, lx, ly, lz, -lenA, cx1, cx2, cy1, cy2, cz1, cz2, zB, oOpenB, vB, h0]
theorem a74 (P : Program) (T : Nat → Option CFn) (hT : T 74 = some c74) (h66 : T 66 = some { c66 with frsh := false, orc := oOpenB }) (h97 : T 97 = some { c97 with frsh := true, orc := oCF PP2 3 }) (b : PB) (x y z : AVal) (hx : rowsV x = some (b.opening.map rI)) (hy : rowsV y = some (b.closing.map rI)) (hz : rowsV z = some (b.entries.map rE)) (hl : b.opening.length ≤ 1000 ∧ b.closing.length ≤ 1000 ∧ b.entries.length ≤ 1000) : Answers P T 74 [vB x y z] [] fun v h => frz false h 5 v = some (.tup [if bookE b = 0 then vB x y z else zB, I (readE b)]) := by
  have fx := fun H d => rowsV_frz hx H d
  have fy := fun H d => rowsV_frz hy H d
  have fz := fun H d => rowsV_frz hz H d
  have rx := fun n d => rowsV_rb hx n d
  have ry := fun n d => rowsV_rb hy n d
  have rz := fun n d => rowsV_rb hz n d
  have hd := dB_vB hx hy hz hl
  have lx := rowsV_len hx
  have ly := rowsV_len hy
  have lz := rowsV_len hz
  rw [List.length_map] at lx ly lz
  obtain ⟨cx1, cx2⟩ := rowsV_cells hx
  obtain ⟨cy1, cy2⟩ := rowsV_cells hy
  obtain ⟨cz1, cz2⟩ := rowsV_cells hz
  simp only [vB] at hd ⊢
  refine answers_of hT (orcF_none rfl) ?_
  simp only [c74]
  by_cases h0 : bookE b = 0
  · have hcf := cfBlot hz hl.2.2
    generalize hA : (b.entries.any fun e => e.2.2 == -1) = A at hcf
    refine runs_seq ?_
    refine runs_reg (ops_run (by simp [lop, loud, callA, calleeA, callF_step h66, h66, callF_step h97, h97, fx, fy, fz, rx, ry, rz, hd, lx, ly, lz, -lenA, cx1, cx2, cy1, cy2, cz1, cz2, zB, oOpenB, vB, h0, hcf]; rfl) ?_)
    simp only [AEx.thn, AEx.blk]
    refine runs_seq ?_
    refine runs_reg (ops_run (by simp [lop, loud, callA, calleeA, callF_step h66, h66, callF_step h97, h97, fx, fy, fz, rx, ry, rz, hd, lx, ly, lz, -lenA, cx1, cx2, cy1, cy2, cz1, cz2, zB, oOpenB, vB, h0, hcf]; rfl) ?_)
    simp only [AEx.thn, AEx.blk]
    refine runs_seq ?_
    refine runs_seq ?_
    refine runs_reg (ops_run (by simp [lop, loud, callA, calleeA, callF_step h66, h66, callF_step h97, h97, fx, fy, fz, rx, ry, rz, hd, lx, ly, lz, -lenA, cx1, cx2, cy1, cy2, cz1, cz2, zB, oOpenB, vB, h0, hcf]; rfl) ?_)
    simp only [AEx.thn, AEx.blk]
    refine runs_cond_split (x := A) (by simp) (fun h1 => ?_) (fun h1 => ?_)
    · refine runs_reg (ops_run (by simp [lop, loud, callA, calleeA, callF_step h66, h66, callF_step h97, h97, fx, fy, fz, rx, ry, rz, hd, lx, ly, lz, -lenA, cx1, cx2, cy1, cy2, cz1, cz2, zB, oOpenB, vB, h0, hcf]; rfl) ?_)
      simp only [AEx.thn, AEx.blk]
      refine runs_seq ?_
      refine runs_reg (ops_run (by simp [lop, loud, callA, calleeA, callF_step h66, h66, callF_step h97, h97, fx, fy, fz, rx, ry, rz, hd, lx, ly, lz, -lenA, cx1, cx2, cy1, cy2, cz1, cz2, zB, oOpenB, vB, h0, hcf]; rfl) ?_)
      simp only [AEx.thn, AEx.blk]
      refine runs_ret ?_
      simp [lop, loud, callA, calleeA, callF_step h66, h66, callF_step h97, h97, fx, fy, fz, rx, ry, rz, hd, lx, ly, lz, -lenA, cx1, cx2, cy1, cy2, cz1, cz2, zB, oOpenB, vB, h0, hcf, readE, h0, hA, h1]
    · refine runs_skip ?_
      simp only [AEx.thn, AEx.blk]
      refine runs_seq ?_
      refine runs_reg (ops_run (by simp [lop, loud, callA, calleeA, callF_step h66, h66, callF_step h97, h97, fx, fy, fz, rx, ry, rz, hd, lx, ly, lz, -lenA, cx1, cx2, cy1, cy2, cz1, cz2, zB, oOpenB, vB, h0, hcf]; rfl) ?_)
      simp only [AEx.thn, AEx.blk]
      refine runs_ret ?_
      simp [lop, loud, callA, calleeA, callF_step h66, h66, callF_step h97, h97, fx, fy, fz, rx, ry, rz, hd, lx, ly, lz, -lenA, cx1, cx2, cy1, cy2, cz1, cz2, zB, oOpenB, vB, h0, hcf, readE, h0, hA, h1]
  · have h0b : (bookE b == 0) = false := by simpa using h0
    refine runs_seq ?_
    refine runs_reg (ops_run (by simp [lop, loud, callA, calleeA, callF_step h66, h66, callF_step h97, h97, fx, fy, fz, rx, ry, rz, hd, lx, ly, lz, -lenA, cx1, cx2, cy1, cy2, cz1, cz2, zB, oOpenB, vB, h0, h0b]; rfl) ?_)
    simp only [AEx.thn, AEx.blk]
    refine runs_seq ?_
    refine runs_reg (ops_run (by simp [lop, loud, callA, calleeA, callF_step h66, h66, callF_step h97, h97, fx, fy, fz, rx, ry, rz, hd, lx, ly, lz, -lenA, cx1, cx2, cy1, cy2, cz1, cz2, zB, oOpenB, vB, h0, h0b]; rfl) ?_)
    simp only [AEx.thn, AEx.blk]
    refine runs_seq ?_
    refine runs_seq ?_
    refine runs_reg (ops_run (by simp [lop, loud, callA, calleeA, callF_step h66, h66, callF_step h97, h97, fx, fy, fz, rx, ry, rz, hd, lx, ly, lz, -lenA, cx1, cx2, cy1, cy2, cz1, cz2, zB, oOpenB, vB, h0, h0b]; rfl) ?_)
    simp only [AEx.thn, AEx.blk]
    refine runs_cond (x := false) (by simp) ?_
    refine runs_skip ?_
    simp only [AEx.thn, AEx.blk]
    refine runs_seq ?_
    refine runs_reg (ops_run (by simp [lop, loud, callA, calleeA, callF_step h66, h66, callF_step h97, h97, fx, fy, fz, rx, ry, rz, hd, lx, ly, lz, -lenA, cx1, cx2, cy1, cy2, cz1, cz2, zB, oOpenB, vB, h0, h0b]; rfl) ?_)
    simp only [AEx.thn, AEx.blk]
    refine runs_ret ?_
    simp [lop, loud, callA, calleeA, callF_step h66, h66, callF_step h97, h97, fx, fy, fz, rx, ry, rz, hd, lx, ly, lz, -lenA, cx1, cx2, cy1, cy2, cz1, cz2, zB, oOpenB, vB, h0, h0b, readE, h0]
noncomputable def PP6_52 : Nat → Option CFn := upd PP5 52 true (oBook)
theorem PP6_52_ok : TabOk Try.prog GG PP6_52 := tab_add mixed PP5_ok fun args v ho => by
  unfold oBook at ho; split at ho <;> (try simp at ho)
  rename_i v
  split at ho <;> (try simp at ho)
  rename_i b hb
  obtain ⟨x, y, z, rfl, hx, hy, hz, hl⟩ := dB_eq hb
  try simp at ho
  subst ho
  exact a52 Try.prog PP5 rfl rfl b x y z hx hy hz hl
noncomputable def PP6 : Nat → Option CFn := upd PP6_52 74 false (oRead)
theorem PP6_ok : TabOk Try.prog GG PP6 := tab_add mixed PP6_52_ok fun args v ho => by
  unfold oRead at ho; split at ho <;> (try simp at ho)
  rename_i v
  split at ho <;> (try simp at ho)
  rename_i b hb
  obtain ⟨x, y, z, rfl, hx, hy, hz, hl⟩ := dB_eq hb
  try simp at ho
  subst ho
  exact a74 Try.prog PP6_52 rfl rfl rfl b x y z hx hy hz hl
theorem a98_1 (P : Program) (T : Nat → Option CFn) (hT : T 98 = some c98) (a0 : Option Blk) (xs : List Int) (t : Bool) (h0 : xs ≠ []) (hl : xs.length ≤ 1000) : Answers P T 98 [.vl (xs.map rI) t] [a0] fun v h => v = .sl 2 0 xs.length false ∧ h = [a0, some (.row 1 []), some (.row 1 (xs.map rI))] := by
  have hs : ¬ xs = [] := h0
  have hl1 : xs.length ≤ 1048576 := by omega
  have hl2 : 0 < xs.length := List.length_pos_iff.2 h0
  refine answers_of hT (orcF_none rfl) ?_
  simp only [c98]
  refine runs_seq ?_
  refine runs_reg (ops_run (by simp [lop, loud, callA, calleeA, lim, hl1, hl2, hs, List.all_map, Function.comp_def, rI]; rfl) ?_)
  simp only [AEx.thn, AEx.blk]
  refine runs_seq ?_
  refine runs_seq ?_
  refine runs_reg (ops_run (by simp [lop, loud, callA, calleeA, lim, hl1, hl2, hs, List.all_map, Function.comp_def, rI]; rfl) ?_)
  simp only [AEx.thn, AEx.blk]
  refine runs_cond (x := false) (by simp) ?_
  refine runs_skip ?_
  simp only [AEx.thn, AEx.blk]
  refine runs_seq ?_
  refine runs_reg (ops_run (by simp [lop, loud, callA, calleeA, lim, hl1, hl2, hs, List.all_map, Function.comp_def, rI]; rfl) ?_)
  simp only [AEx.thn, AEx.blk]
  refine runs_ret ?_
  refine ⟨by simp, _, by simp; rfl, ?_⟩
  exact ⟨rfl, by simp [trim, rI]⟩
theorem a98_2 (P : Program) (T : Nat → Option CFn) (hT : T 98 = some c98) (a0 a1 : Option Blk) (xs : List Int) (t : Bool) (h0 : xs ≠ []) (hl : xs.length ≤ 1000) : Answers P T 98 [.vl (xs.map rI) t] [a0, a1] fun v h => v = .sl 3 0 xs.length false ∧ h = [a0, a1, some (.row 1 []), some (.row 1 (xs.map rI))] := by
  have hs : ¬ xs = [] := h0
  have hl1 : xs.length ≤ 1048576 := by omega
  have hl2 : 0 < xs.length := List.length_pos_iff.2 h0
  refine answers_of hT (orcF_none rfl) ?_
  simp only [c98]
  refine runs_seq ?_
  refine runs_reg (ops_run (by simp [lop, loud, callA, calleeA, lim, hl1, hl2, hs, List.all_map, Function.comp_def, rI]; rfl) ?_)
  simp only [AEx.thn, AEx.blk]
  refine runs_seq ?_
  refine runs_seq ?_
  refine runs_reg (ops_run (by simp [lop, loud, callA, calleeA, lim, hl1, hl2, hs, List.all_map, Function.comp_def, rI]; rfl) ?_)
  simp only [AEx.thn, AEx.blk]
  refine runs_cond (x := false) (by simp) ?_
  refine runs_skip ?_
  simp only [AEx.thn, AEx.blk]
  refine runs_seq ?_
  refine runs_reg (ops_run (by simp [lop, loud, callA, calleeA, lim, hl1, hl2, hs, List.all_map, Function.comp_def, rI]; rfl) ?_)
  simp only [AEx.thn, AEx.blk]
  refine runs_ret ?_
  refine ⟨by simp, _, by simp; rfl, ?_⟩
  exact ⟨rfl, by simp [trim, rI]⟩
end
end Go.Proofs.Ytfnnonoffiljhaa.Tab

namespace Go.Proofs.Ytfnnonoffiljhaa.Tab
open Go Go.Abs Go.Proofs
set_option maxRecDepth 100000
set_option maxHeartbeats 4000000
set_option linter.unusedSimpArgs false
set_option linter.unusedVariables false
section
attribute [local simp] frz_int frz_bool frz_vl frz_pv frz_agg frz_tup frz_fn frz_ref frz_sl frz_nils optAll orcF rb_int rb_bool rb_agg rb_tup rb_int' rb_bool' rb_vl rb_pv rb_yld rb_nilf rb_nilp rb_nils rb_any rb_und rb_ref rb_sl rb_fn slE chunk fillA evParts evParts3 putAt List.range_succ List.range_zero List.range'_succ List.range'_zero runX_nil' unary_not evalS_pure evAll_nil evAll_cons runX_cons stepX wantedA dop CV.ev putK_eq setK_eq appK_eq fA_eq fI_eq fN_eq fRow_eq fRows_eq nth_eq Out.v putT List.replicate_succ AEx.thn AEx.blk arI pointee Abs.rowAt ldRow allV toV toC ofV ofC Builtin.min_ Builtin.min2 Builtin.max_ Builtin.max2 min_if max_if resA tupA kill trim_self trim_len trim_emp trim_nil lenA
attribute [local simp] runD_nil' runD_cons' stepD actK_eq actD clash disj masks holes maskH unmaskH diffs news eqB allB eqA ldRowN wrote toCs ofCs stA rowsV_vl rowsV_nils rowsOf dI1 dI2 dI3 dI5 elt
attribute [local simp] st_any st_und st_agg st_tup st_bool st_int st_nilp st_ref st_pv st_nils st_sl st_vl st_nilm st_mp st_fn st_nilf st_yld co_any co_und co_agg co_tup co_bool co_int co_nilp co_ref co_pv co_nils co_sl co_vl co_nilm co_mp co_fn co_nilf co_yld
theorem a84_0 (P : Program) (T : Nat → Option CFn) (hT : T 84 = some c84) (h98 : T 98 = some c98) (h67 : T 67 = some { c67 with frsh := true, orc := oBlot }) (b : PB) (x y z : AVal) (hx : rowsV x = some (b.opening.map rI)) (hy : rowsV y = some (b.closing.map rI)) (hz : rowsV z = some (b.entries.map rE)) (hl : b.opening.length ≤ 1000 ∧ b.closing.length ≤ 1000 ∧ b.entries.length ≤ 1000) (h0 : bookE b = 0) : Answers P T 84 [vB x y z] [] fun v h => frz true h 5 v = some (.vl ((balI b).map rI) false) := by
  have hok := book_ok h0
  obtain ⟨hn5, he12, hn0, hcl, hop, hco, hen⟩ := hok
  obtain ⟨tx, rfl⟩ : ∃ t, x = .vl (b.opening.map rI) t := (rowsV_cases hx).resolve_left fun h => hn0 (by have := h.2; simp at this; rw [this]; rfl)
  have ho0 : b.opening ≠ [] := by intro h; rw [h] at hn0; simp at hn0
  have fx := fun H d => rowsV_frz hx H d
  have fy := fun H d => rowsV_frz hy H d
  have fz := fun H d => rowsV_frz hz H d
  have rx := fun n d => rowsV_rb hx n d
  have ry := fun n d => rowsV_rb hy n d
  have rz := fun n d => rowsV_rb hz n d
  have hd := dB_vB hx hy hz hl
  have lx := rowsV_len hx
  have ly := rowsV_len hy
  have lz := rowsV_len hz
  rw [List.length_map] at lx ly lz
  obtain ⟨cx1, cx2⟩ := rowsV_cells hx
  obtain ⟨cy1, cy2⟩ := rowsV_cells hy
  obtain ⟨cz1, cz2⟩ := rowsV_cells hz
  simp only [vB] at hd ⊢
  refine answers_of hT (orcF_none rfl) ?_
  simp only [c84]
  refine runs_seq ?_
  refine runs_reg (ops_run (by simp [lop, loud, callA, calleeA, callF_step h67, h67, oBlot, fx, fy, fz, rx, ry, rz, hd, lx, ly, lz, -lenA, cx1, cx2, cy1, cy2, cz1, cz2, zB, lim]; rfl) ?_)
  simp only [AEx.thn, AEx.blk]
  refine runs_seq ?_
  refine runs_reg (ops_take 3 (by simp; rfl) ?_)
  simp only [List.drop_succ_cons, List.drop_zero]
  refine ops_call (f := 98) (args := [.vl (b.opening.map rI) tx]) (by simp) (by simp) (by simp [lop]) (by simp [calleeA]) ?_
  refine (a98_1 P T h98 _ b.opening tx ho0 hl.1).mono ?_
  rintro v h' ⟨rfl, rfl⟩
  refine ops_run (by simp; rfl) ?_
  simp only [AEx.thn, AEx.blk]
  refine runs_seq ?_
  refine runs_seq ?_
  refine runs_reg (ops_run (by simp [lop, loud, callA, calleeA, callF_step h67, h67, oBlot, fx, fy, fz, rx, ry, rz, hd, lx, ly, lz, -lenA, cx1, cx2, cy1, cy2, cz1, cz2, zB, lim]; rfl) ?_)
  simp only [AEx.thn, AEx.blk]
  refine runs_block ?_
  refine runs_loop_inv (fun m σ => ∃ (k : Nat) (i : Int) (out : List Int), i = k ∧ b.entries.length - k = m ∧ k ≤ b.entries.length ∧ out.length = b.opening.length ∧ (∀ j, j < out.length → -(1000000000 + 1000000 * (k : Int)) ≤ out.getD j 0 ∧ out.getD j 0 ≤ 1000000000 + 1000000 * (k : Int)) ∧ (b.entries.drop k).foldl balStep out = balI b ∧ σ = ⟨[.any, .any, .any, .sl 2 0 b.opening.length false, .any, .any, .any, .any, .any, .any, .any, .any, z, I b.entries.length, I i, .any, .any, .any, .any, .any, .any, .any, .any, .any, .any, .any, .any, .any, .any, .any, .any, .any, .any, .any, .any, .any, .any, .any, .any, .any, .any], [some (.row 3 [[.vl (b.opening.map rI) tx, y, z]]), some (.row 1 []), some (.row 1 (out.map rI))]⟩) ?_ (b.entries.length - 0) _ ⟨0, 0, b.opening, rfl, rfl, Nat.zero_le _, rfl, fun j hj => by rw [List.getD_eq_getElem?_getD, List.getElem?_eq_getElem hj]; have := hop _ (List.getElem_mem hj); simp only [Option.getD_some]; omega, rfl, by simp⟩
  rintro m σ ⟨k, i, out, hik, rfl, hkl, hol, hbd, hinv, rfl⟩
  refine runs_seq ?_
  refine runs_reg (ops_run (by simp [lop, loud, callA, calleeA, callF_step h67, h67, oBlot, fx, fy, fz, rx, ry, rz, hd, lx, ly, lz, -lenA, cx1, cx2, cy1, cy2, cz1, cz2, zB, lim]; rfl) ?_)
  simp only [AEx.thn, AEx.blk]
  refine runs_seq ?_
  refine runs_cond_split (x := decide (i < (b.entries.length : Int))) (by simp) (fun hlt => ?_) (fun hlt => ?_)
  · have hlt := of_decide_eq_true hlt
    have hk0 : k < b.entries.length := by omega
    have hne := hen _ (List.getElem_mem hk0)
    obtain ⟨tz, rfl⟩ := rowsV_get hz (k := k) (by rw [List.length_map]; omega)
    have hi0 : 0 ≤ i := by omega
    have htn : i.toNat = k := by omega
    have hwi : W .i64 (i + 1) = i + 1 := W_small (by omega)
    rw [List.drop_eq_getElem_cons hk0, List.foldl_cons] at hinv
    generalize hs : b.entries[k] = e at *
    obtain ⟨f, t, a⟩ := e
    simp only at hne
    obtain ⟨⟨hf0, hf1⟩, ⟨ht0, ht1⟩, hft, ha0, ha1⟩ := hne
    refine runs_skip ?_
    simp only [AEx.thn, AEx.blk]
    refine runs_seq ?_
    refine runs_block ?_
    refine runs_seq ?_
    refine runs_reg (ops_run (by simp [lop, loud, callA, calleeA, callF_step h67, h67, oBlot, fx, fy, fz, rx, ry, rz, hd, lx, ly, lz, -lenA, cx1, cx2, cy1, cy2, cz1, cz2, zB, lim, hi0, htn, hk0, hs, hwi, rE]; rfl) ?_)
    simp only [AEx.thn, AEx.blk]
    refine runs_seq ?_
    refine runs_reg (ops_run (by simp [lop, loud, callA, calleeA, callF_step h67, h67, oBlot, fx, fy, fz, rx, ry, rz, hd, lx, ly, lz, -lenA, cx1, cx2, cy1, cy2, cz1, cz2, zB, lim, hi0, htn, hk0, hs, hwi, rE]; rfl) ?_)
    simp only [AEx.thn, AEx.blk]
    refine runs_cond_split (x := !(a == -1)) (by simp) (fun hb => ?_) (fun hb => ?_)
    · have ha : ¬ a = -1 := by simpa using hb
      have hfl : f.toNat < out.length := by omega
      have htl : t.toNat < out.length := by omega
      have b1 := hbd f.toNat hfl
      have b2 := hbd t.toNat htl
      have g1 : out[f.toNat]? = some (out.getD f.toNat 0) := by rw [List.getD_eq_getElem?_getD, List.getElem?_eq_getElem hfl]; rfl
      have hk13 : (k : Int) ≤ 12 := by omega
      have w1 : W .i64 (out.getD f.toNat 0 - a) = out.getD f.toNat 0 - a := W_fit (by omega)
      have w2 : W .i64 (out.getD t.toNat 0 + a) = out.getD t.toNat 0 + a := W_fit (by omega)
      have hl1 : f.toNat < b.opening.length := by omega
      have hl2 : t.toNat < b.opening.length := by omega
      have e0 : (out.map rI).set f.toNat [I (out.getD f.toNat 0 - a)] = (out.set f.toNat (out.getD f.toNat 0 - a)).map rI := by rw [List.map_set]; rfl
      have hno : f.toNat ≠ t.toNat := by omega
      have g2 : (out.set f.toNat (out.getD f.toNat 0 - a))[t.toNat]? = some (out.getD t.toNat 0) := by
        rw [List.getElem?_set_ne hno, List.getD_eq_getElem?_getD, List.getElem?_eq_getElem htl]; rfl
      have e1 : balStep out (f, t, a) = (out.set f.toNat (out.getD f.toNat 0 - a)).set t.toNat (out.getD t.toNat 0 + a) := by
        unfold balStep
        simp only [ha, if_false]
        rw [List.getD_eq_getElem?_getD (l := out.set _ _), g2]; rfl
      generalize hV1 : out.getD f.toNat 0 = V1 at *
      generalize hV2 : out.getD t.toNat 0 = V2 at *
      generalize hO1 : out.set f.toNat (V1 - a) = o1 at *
      have hol1 : o1.length = b.opening.length := by rw [← hO1, List.length_set]; exact hol
      have e2 : (o1.map rI).set t.toNat [I (V2 + a)] = (o1.set t.toNat (V2 + a)).map rI := by rw [List.map_set]; rfl
      generalize hO2 : o1.set t.toNat (V2 + a) = o2 at *
      have hol2 : o2.length = b.opening.length := by rw [← hO2, List.length_set]; exact hol1
      have hr1 : ∀ v : Int, rI v = [I v] := fun _ => rfl
      have hv1 : ∀ h, out[f.toNat]'h = V1 := fun h => by rw [List.getElem?_eq_getElem h] at g1; exact Option.some.inj g1
      have hv2 : ∀ h, o1[t.toNat]'h = V2 := fun h => by rw [List.getElem?_eq_getElem h] at g2; exact Option.some.inj g2
      refine runs_seq ?_
      refine runs_drw (by simp (maxSteps := 3000000) [lop, loud, callA, calleeA, callF_step h67, h67, oBlot, fx, fy, fz, rx, ry, rz, hd, lx, ly, lz, -lenA, cx1, cx2, cy1, cy2, cz1, cz2, zB, lim, hi0, htn, hk0, hs, hwi, rE, hf0, hf1, ht0, ht1, hl1, hl2, g1, g2, w1, w2, hol, hol1, hr1, hv1, hv2, e0, e2]; rfl) ?_
      simp only [AEx.thn, AEx.blk]
      refine runs_drw (by simp (maxSteps := 3000000) [lop, loud, callA, calleeA, callF_step h67, h67, oBlot, fx, fy, fz, rx, ry, rz, hd, lx, ly, lz, -lenA, cx1, cx2, cy1, cy2, cz1, cz2, zB, lim, hi0, htn, hk0, hs, hwi, rE, hf0, hf1, ht0, ht1, hl1, hl2, g1, g2, w1, w2, hol, hol1, hr1, hv1, hv2, e0, e2]; rfl) ?_
      simp only [AEx.thn, AEx.blk]
      refine runs_reg (ops_run (by simp [lop, loud, callA, calleeA, callF_step h67, h67, oBlot, fx, fy, fz, rx, ry, rz, hd, lx, ly, lz, -lenA, cx1, cx2, cy1, cy2, cz1, cz2, zB, lim, hi0, htn, hk0, hs, hwi, rE, hf0, hf1, ht0, ht1, hl1, hl2, g1, g2, w1, w2, hol, hol1, hr1, hv1, hv2, e0, e2]; rfl) ?_)
      simp only [AEx.thn, AEx.blk]
      refine ⟨b.entries.length - (k + 1), by omega, k + 1, i + 1, o2, by omega, rfl, by omega, hol2, fun j hj => ?_, ?_, by (simp [trim, rbB_row, rbB_none, lop, loud, callA, calleeA, callF_step h67, h67, oBlot, fx, fy, fz, rx, ry, rz, hd, lx, ly, lz, -lenA, cx1, cx2, cy1, cy2, cz1, cz2, zB, lim, hi0, htn, hk0, hs, hwi, rE]; try (intro x _ y hy; simp [rI] at hy; subst hy; rfl))⟩
      · rw [← hO2, ← hO1] at hj ⊢
        simp only [List.length_set] at hj
        have hbj := hbd j hj
        rw [List.getD_eq_getElem?_getD, List.getElem?_set, List.getElem?_set] at *
        simp only [List.length_set]
        split
        · try rw [if_pos (by omega)]
          simp only [Option.getD_some]; omega
        · split
          · try rw [if_pos (by omega)]
            simp only [Option.getD_some]; omega
          · omega
      · rw [e1] at hinv; exact hinv
    · obtain rfl : a = -1 := by simpa using hb
      have e1 : balStep out (f, t, -1) = out := by simp [balStep]
      rw [e1] at hinv
      refine runs_skip ?_
      simp only [AEx.thn, AEx.blk]
      refine runs_reg (ops_run (by simp [lop, loud, callA, calleeA, callF_step h67, h67, oBlot, fx, fy, fz, rx, ry, rz, hd, lx, ly, lz, -lenA, cx1, cx2, cy1, cy2, cz1, cz2, zB, lim, hi0, htn, hk0, hs, hwi, rE]; rfl) ?_)
      simp only [AEx.thn, AEx.blk]
      exact ⟨b.entries.length - (k + 1), by omega, k + 1, i + 1, out, by omega, rfl, by omega, hol, fun j hj => by have := hbd j hj; omega, hinv, by (simp [trim, rbB_row, rbB_none, lop, loud, callA, calleeA, callF_step h67, h67, oBlot, fx, fy, fz, rx, ry, rz, hd, lx, ly, lz, -lenA, cx1, cx2, cy1, cy2, cz1, cz2, zB, lim, hi0, htn, hk0, hs, hwi, rE]; try (intro x _ y hy; simp [rI] at hy; subst hy; rfl))⟩
  · have hlt := of_decide_eq_false hlt
    obtain rfl : k = b.entries.length := by omega
    rw [List.drop_length] at hinv
    simp only [List.foldl_nil] at hinv
    subst hinv
    refine runs_exit ?_
    simp only [AEx.thn, AEx.blk, if_true, if_false, reduceIte, Nat.reduceEqDiff, Nat.succ_ne_zero, Nat.one_ne_zero, Nat.zero_ne_one]
    refine runs_seq ?_
    refine runs_reg (ops_run (by simp [lop, loud, callA, calleeA, callF_step h67, h67, oBlot, fx, fy, fz, rx, ry, rz, hd, lx, ly, lz, -lenA, cx1, cx2, cy1, cy2, cz1, cz2, zB, lim]; rfl) ?_)
    simp only [AEx.thn, AEx.blk]
    refine runs_ret ?_
    refine ⟨by simp, _, by simp; rfl, ?_⟩
    have e : frz true [some (.row 3 [[.vl (b.opening.map rI) tx, y, z]]), some (.row 1 []), some (.row 1 ((balI b).map rI))] 5 (.sl 2 0 b.opening.length false) = some (.vl ((balI b).map rI) false) := frz_row true _ 4 2 _ 1 false _ rfl (by simp [hol]) (frz_rows true _ 3 _ fun r hr z hz => by
      obtain ⟨a, _, rfl⟩ := List.mem_map.1 hr
      simp [rI] at hz; subst hz; rfl)
    simp [trim, -frz_sl, e]
def oBal : List AVal → Option AVal
  | [v] => match dB v with
    | some b => if bookE b = 0 then some (.vl ((balI b).map rI) false) else none
    | none => none
  | _ => none
def oBalance : List AVal → Option AVal
  | [v] => match dB v with
    | some b => some (.tup [if readE b = 0 then .vl ((balI b).map rI) false else .nils, I (readE b)])
    | none => none
  | _ => none
theorem read_book {b : PB} (h : readE b = 0) : bookE b = 0 := by
  unfold readE at h
  split at h
  · assumption
  · rename_i h0; exact absurd h h0
noncomputable def PP7 : Nat → Option CFn := upd PP6 84 true (oBal)
theorem PP7_ok : TabOk Try.prog GG PP7 := tab_add mixed PP6_ok fun args v ho => by
  unfold oBal at ho; split at ho <;> (try simp at ho)
  rename_i v
  split at ho <;> (try simp at ho)
  rename_i b hb
  obtain ⟨x, y, z, rfl, hx, hy, hz, hl⟩ := dB_eq hb
  try simp at ho
  obtain ⟨h0, rfl⟩ := ho
  exact a84_0 Try.prog PP6 rfl rfl rfl b x y z hx hy hz hl h0
theorem a47 (P : Program) (T : Nat → Option CFn) (hT : T 47 = some c47) (h74 : T 74 = some { c74 with frsh := false, orc := oRead }) (h84 : T 84 = some { c84 with frsh := true, orc := oBal }) (b : PB) (x y z : AVal) (hx : rowsV x = some (b.opening.map rI)) (hy : rowsV y = some (b.closing.map rI)) (hz : rowsV z = some (b.entries.map rE)) (hl : b.opening.length ≤ 1000 ∧ b.closing.length ≤ 1000 ∧ b.entries.length ≤ 1000) : Answers P T 47 [vB x y z] [] fun v h => frz false h 5 v = some (.tup [if readE b = 0 then .vl ((balI b).map rI) false else .nils, I (readE b)]) := by
  have fx := fun H d => rowsV_frz hx H d
  have fy := fun H d => rowsV_frz hy H d
  have fz := fun H d => rowsV_frz hz H d
  have rx := fun n d => rowsV_rb hx n d
  have ry := fun n d => rowsV_rb hy n d
  have rz := fun n d => rowsV_rb hz n d
  have hd := dB_vB hx hy hz hl
  have lx := rowsV_len hx
  have ly := rowsV_len hy
  have lz := rowsV_len hz
  rw [List.length_map] at lx ly lz
  obtain ⟨cx1, cx2⟩ := rowsV_cells hx
  obtain ⟨cy1, cy2⟩ := rowsV_cells hy
  obtain ⟨cz1, cz2⟩ := rowsV_cells hz
  simp only [vB] at hd ⊢
  refine answers_of hT (orcF_none rfl) ?_
  simp only [c47]
  by_cases h0 : readE b = 0
  · have hb := read_book h0
    refine runs_seq ?_
    refine runs_reg (ops_run (by simp [lop, loud, callA, calleeA, callF_step h74, h74, callF_step h84, h84, fx, fy, fz, rx, ry, rz, hd, lx, ly, lz, -lenA, cx1, cx2, cy1, cy2, cz1, cz2, zB, oRead, oBal, vB, h0, hb]; rfl) ?_)
    simp only [AEx.thn, AEx.blk]
    refine runs_seq ?_
    refine runs_reg (ops_run (by simp [lop, loud, callA, calleeA, callF_step h74, h74, callF_step h84, h84, fx, fy, fz, rx, ry, rz, hd, lx, ly, lz, -lenA, cx1, cx2, cy1, cy2, cz1, cz2, zB, oRead, oBal, vB, h0, hb]; rfl) ?_)
    simp only [AEx.thn, AEx.blk]
    refine runs_seq ?_
    refine runs_seq ?_
    refine runs_reg (ops_run (by simp [lop, loud, callA, calleeA, callF_step h74, h74, callF_step h84, h84, fx, fy, fz, rx, ry, rz, hd, lx, ly, lz, -lenA, cx1, cx2, cy1, cy2, cz1, cz2, zB, oRead, oBal, vB, h0, hb]; rfl) ?_)
    simp only [AEx.thn, AEx.blk]
    refine runs_cond (x := false) (by simp) ?_
    refine runs_skip ?_
    simp only [AEx.thn, AEx.blk]
    refine runs_seq ?_
    refine runs_reg (ops_run (by simp [lop, loud, callA, calleeA, callF_step h74, h74, callF_step h84, h84, fx, fy, fz, rx, ry, rz, hd, lx, ly, lz, -lenA, cx1, cx2, cy1, cy2, cz1, cz2, zB, oRead, oBal, vB, h0, hb]; rfl) ?_)
    simp only [AEx.thn, AEx.blk]
    refine runs_ret ?_
    simp [lop, loud, callA, calleeA, callF_step h74, h74, callF_step h84, h84, fx, fy, fz, rx, ry, rz, hd, lx, ly, lz, -lenA, cx1, cx2, cy1, cy2, cz1, cz2, zB, oRead, oBal, vB, h0, hb]
  · have h0b : (readE b == 0) = false := by simpa using h0
    by_cases hc : bookE b = 0
    · refine runs_seq ?_
      refine runs_reg (ops_run (by simp [lop, loud, callA, calleeA, callF_step h74, h74, callF_step h84, h84, fx, fy, fz, rx, ry, rz, hd, lx, ly, lz, -lenA, cx1, cx2, cy1, cy2, cz1, cz2, zB, oRead, oBal, vB, h0, h0b, hc]; rfl) ?_)
      simp only [AEx.thn, AEx.blk]
      refine runs_seq ?_
      refine runs_reg (ops_run (by simp [lop, loud, callA, calleeA, callF_step h74, h74, callF_step h84, h84, fx, fy, fz, rx, ry, rz, hd, lx, ly, lz, -lenA, cx1, cx2, cy1, cy2, cz1, cz2, zB, oRead, oBal, vB, h0, h0b, hc]; rfl) ?_)
      simp only [AEx.thn, AEx.blk]
      refine runs_seq ?_
      refine runs_seq ?_
      refine runs_reg (ops_run (by simp [lop, loud, callA, calleeA, callF_step h74, h74, callF_step h84, h84, fx, fy, fz, rx, ry, rz, hd, lx, ly, lz, -lenA, cx1, cx2, cy1, cy2, cz1, cz2, zB, oRead, oBal, vB, h0, h0b, hc]; rfl) ?_)
      simp only [AEx.thn, AEx.blk]
      refine runs_cond (x := true) (by simp [h0]) ?_
      refine runs_seq ?_
      refine runs_reg (ops_run (by simp [lop, loud, callA, calleeA, callF_step h74, h74, callF_step h84, h84, fx, fy, fz, rx, ry, rz, hd, lx, ly, lz, -lenA, cx1, cx2, cy1, cy2, cz1, cz2, zB, oRead, oBal, vB, h0, h0b, hc]; rfl) ?_)
      simp only [AEx.thn, AEx.blk]
      refine runs_ret ?_
      simp [lop, loud, callA, calleeA, callF_step h74, h74, callF_step h84, h84, fx, fy, fz, rx, ry, rz, hd, lx, ly, lz, -lenA, cx1, cx2, cy1, cy2, cz1, cz2, zB, oRead, oBal, vB, h0, h0b, hc]
    · refine runs_seq ?_
      refine runs_reg (ops_run (by simp [lop, loud, callA, calleeA, callF_step h74, h74, callF_step h84, h84, fx, fy, fz, rx, ry, rz, hd, lx, ly, lz, -lenA, cx1, cx2, cy1, cy2, cz1, cz2, zB, oRead, oBal, vB, h0, h0b, hc]; rfl) ?_)
      simp only [AEx.thn, AEx.blk]
      refine runs_seq ?_
      refine runs_reg (ops_run (by simp [lop, loud, callA, calleeA, callF_step h74, h74, callF_step h84, h84, fx, fy, fz, rx, ry, rz, hd, lx, ly, lz, -lenA, cx1, cx2, cy1, cy2, cz1, cz2, zB, oRead, oBal, vB, h0, h0b, hc]; rfl) ?_)
      simp only [AEx.thn, AEx.blk]
      refine runs_seq ?_
      refine runs_seq ?_
      refine runs_reg (ops_run (by simp [lop, loud, callA, calleeA, callF_step h74, h74, callF_step h84, h84, fx, fy, fz, rx, ry, rz, hd, lx, ly, lz, -lenA, cx1, cx2, cy1, cy2, cz1, cz2, zB, oRead, oBal, vB, h0, h0b, hc]; rfl) ?_)
      simp only [AEx.thn, AEx.blk]
      refine runs_cond (x := true) (by simp [h0]) ?_
      refine runs_seq ?_
      refine runs_reg (ops_run (by simp [lop, loud, callA, calleeA, callF_step h74, h74, callF_step h84, h84, fx, fy, fz, rx, ry, rz, hd, lx, ly, lz, -lenA, cx1, cx2, cy1, cy2, cz1, cz2, zB, oRead, oBal, vB, h0, h0b, hc]; rfl) ?_)
      simp only [AEx.thn, AEx.blk]
      refine runs_ret ?_
      simp [lop, loud, callA, calleeA, callF_step h74, h74, callF_step h84, h84, fx, fy, fz, rx, ry, rz, hd, lx, ly, lz, -lenA, cx1, cx2, cy1, cy2, cz1, cz2, zB, oRead, oBal, vB, h0, h0b, hc]
noncomputable def PP8 : Nat → Option CFn := upd PP7 47 false (oBalance)
theorem PP8_ok : TabOk Try.prog GG PP8 := tab_add mixed PP7_ok fun args v ho => by
  unfold oBalance at ho; split at ho <;> (try simp at ho)
  rename_i v
  split at ho <;> (try simp at ho)
  rename_i b hb
  obtain ⟨x, y, z, rfl, hx, hy, hz, hl⟩ := dB_eq hb
  try simp at ho
  subst ho
  exact a47 Try.prog PP7 rfl rfl rfl b x y z hx hy hz hl
end
end Go.Proofs.Ytfnnonoffiljhaa.Tab

namespace Go.Proofs.Ytfnnonoffiljhaa.Tab
open Go Go.Abs Go.Proofs
set_option maxRecDepth 100000
set_option maxHeartbeats 4000000
set_option linter.unusedSimpArgs false
set_option linter.unusedVariables false
section
attribute [local simp] frz_int frz_bool frz_vl frz_pv frz_agg frz_tup frz_fn frz_ref frz_sl frz_nils optAll orcF rb_int rb_bool rb_agg rb_tup rb_int' rb_bool' rb_vl rb_pv rb_yld rb_nilf rb_nilp rb_nils rb_any rb_und rb_ref rb_sl rb_fn slE chunk fillA evParts evParts3 putAt List.range_succ List.range_zero List.range'_succ List.range'_zero runX_nil' unary_not evalS_pure evAll_nil evAll_cons runX_cons stepX wantedA dop CV.ev putK_eq setK_eq appK_eq fA_eq fI_eq fN_eq fRow_eq fRows_eq nth_eq Out.v putT List.replicate_succ AEx.thn AEx.blk arI pointee Abs.rowAt ldRow allV toV toC ofV ofC Builtin.min_ Builtin.min2 Builtin.max_ Builtin.max2 min_if max_if resA tupA kill trim_self trim_len trim_emp trim_nil lenA
attribute [local simp] runD_nil' runD_cons' stepD actK_eq actD clash disj masks holes maskH unmaskH diffs news eqB allB eqA ldRowN wrote toCs ofCs stA rowsV_vl rowsV_nils rowsOf dI1 dI2 dI3 dI5 elt
attribute [local simp] st_any st_und st_agg st_tup st_bool st_int st_nilp st_ref st_pv st_nils st_sl st_vl st_nilm st_mp st_fn st_nilf st_yld co_any co_und co_agg co_tup co_bool co_int co_nilp co_ref co_pv co_nils co_sl co_vl co_nilm co_mp co_fn co_nilf co_yld
theorem a71 (P : Program) (T : Nat → Option CFn) (hT : T 71 = some c71) (h16 : T 16 = some { c16 with frsh := true, orc := oIn }) (f t a n : Int) (hg : 0 ≤ n ∧ n ≤ 1000) : Answers P T 71 [.agg [I f, I t, I a], I n] [] fun v h => frz true h 5 v = some (.bool (entryOk n (f, t, a))) := by
  have w1 : W .i64 (n - 1) = n - 1 := W_small (by omega)
  generalize hb1 : inI 0 f (n - 1) = b1
  generalize hb2 : inI 0 t (n - 1) = b2
  refine answers_of hT (orcF_none rfl) ?_
  simp only [c71]
  refine runs_seq ?_
  cases b1
  · refine runs_reg (ops_run (by simp [lop, loud, callA, calleeA, callF_step h16, h16, w1, oIn, hb1, hb2]; rfl) ?_)
    simp only [AEx.thn, AEx.blk]
    refine runs_seq ?_
    refine runs_reg (ops_run (by simp [lop, loud, callA, calleeA, callF_step h16, h16, w1, oIn, hb1, hb2]; rfl) ?_)
    simp only [AEx.thn, AEx.blk]
    refine runs_ret ?_
    simp [lop, loud, callA, calleeA, callF_step h16, h16, w1, oIn, hb1, hb2, entryOk]
  · cases b2
    · refine runs_reg (ops_run (by simp [lop, loud, callA, calleeA, callF_step h16, h16, w1, oIn, hb1, hb2]; rfl) ?_)
      simp only [AEx.thn, AEx.blk]
      refine runs_seq ?_
      refine runs_reg (ops_run (by simp [lop, loud, callA, calleeA, callF_step h16, h16, w1, oIn, hb1, hb2]; rfl) ?_)
      simp only [AEx.thn, AEx.blk]
      refine runs_ret ?_
      simp [lop, loud, callA, calleeA, callF_step h16, h16, w1, oIn, hb1, hb2, entryOk]
    · cases hb3 : f != t
      · refine runs_reg (ops_run (by simp [lop, loud, callA, calleeA, callF_step h16, h16, w1, oIn, hb1, hb2, hb3]; rfl) ?_)
        simp only [AEx.thn, AEx.blk]
        refine runs_seq ?_
        refine runs_reg (ops_run (by simp [lop, loud, callA, calleeA, callF_step h16, h16, w1, oIn, hb1, hb2, hb3]; rfl) ?_)
        simp only [AEx.thn, AEx.blk]
        refine runs_ret ?_
        simp [lop, loud, callA, calleeA, callF_step h16, h16, w1, oIn, hb1, hb2, hb3, entryOk]
      · refine runs_reg (ops_run (by simp [lop, loud, callA, calleeA, callF_step h16, h16, w1, oIn, hb1, hb2, hb3]; rfl) ?_)
        simp only [AEx.thn, AEx.blk]
        refine runs_seq ?_
        refine runs_reg (ops_run (by simp [lop, loud, callA, calleeA, callF_step h16, h16, w1, oIn, hb1, hb2, hb3]; rfl) ?_)
        simp only [AEx.thn, AEx.blk]
        refine runs_ret ?_
        simp [lop, loud, callA, calleeA, callF_step h16, h16, w1, oIn, hb1, hb2, hb3, entryOk]
noncomputable def PR1 : Nat → Option CFn := upd PP8 71 true (oEntry)
theorem PR1_ok : TabOk Try.prog GG PR1 := tab_add mixed PP8_ok fun args v ho => by
  unfold oEntry at ho; split at ho <;> (try simp at ho)
  rename_i f t a n
  obtain ⟨hg, rfl⟩ := ho
  exact a71 Try.prog PP8 rfl rfl f t a n hg
theorem a32 (P : Program) (T : Nat → Option CFn) (hT : T 32 = some c32) (b : PB) (x y z : AVal) (hx : rowsV x = some (b.opening.map rI)) (hy : rowsV y = some (b.closing.map rI)) (hz : rowsV z = some (b.entries.map rE)) (hl : b.opening.length ≤ 1000 ∧ b.closing.length ≤ 1000 ∧ b.entries.length ≤ 1000) : Answers P T 32 [vB x y z] [] fun v h => frz true h 5 v = some (I (blotsI b.entries)) := by
  have fx := fun H d => rowsV_frz hx H d
  have fy := fun H d => rowsV_frz hy H d
  have fz := fun H d => rowsV_frz hz H d
  have rx := fun n d => rowsV_rb hx n d
  have ry := fun n d => rowsV_rb hy n d
  have rz := fun n d => rowsV_rb hz n d
  have hd := dB_vB hx hy hz hl
  have lx := rowsV_len hx
  have ly := rowsV_len hy
  have lz := rowsV_len hz
  rw [List.length_map] at lx ly lz
  obtain ⟨cx1, cx2⟩ := rowsV_cells hx
  obtain ⟨cy1, cy2⟩ := rowsV_cells hy
  obtain ⟨cz1, cz2⟩ := rowsV_cells hz
  simp only [vB] at hd ⊢
  refine answers_of hT (orcF_none rfl) ?_
  simp only [c32]
  refine runs_seq ?_
  refine runs_reg (ops_run (by simp [lop, loud, callA, calleeA, fx, fy, fz, rx, ry, rz, hd, lx, ly, lz, -lenA, cx1, cx2, cy1, cy2, cz1, cz2, zB]; rfl) ?_)
  simp only [AEx.thn, AEx.blk]
  refine runs_seq ?_
  refine runs_reg (ops_run (by simp [lop, loud, callA, calleeA, fx, fy, fz, rx, ry, rz, hd, lx, ly, lz, -lenA, cx1, cx2, cy1, cy2, cz1, cz2, zB]; rfl) ?_)
  simp only [AEx.thn, AEx.blk]
  refine runs_seq ?_
  refine runs_seq ?_
  refine runs_reg (ops_run (by simp [lop, loud, callA, calleeA, fx, fy, fz, rx, ry, rz, hd, lx, ly, lz, -lenA, cx1, cx2, cy1, cy2, cz1, cz2, zB]; rfl) ?_)
  simp only [AEx.thn, AEx.blk]
  refine runs_block ?_
  refine runs_loop_inv (fun m σ => ∃ (k : Nat) (i c : Int), i = k ∧ b.entries.length - k = m ∧ k ≤ b.entries.length ∧ (0 ≤ c ∧ c ≤ k) ∧ (b.entries.drop k).foldl (fun n e => if e.2.2 = -1 then n + 1 else n) c = blotsI b.entries ∧ σ = ⟨[.any, .ref 0 0 0, .any, I c, I i, .any, .any, .any, .any, .any, .any, .any, .any, .any, .any, .any, .any, .any, .any, .any, .any, .any], [some (.row 3 [[x, y, z]])]⟩) ?_ (b.entries.length - 0) _ ⟨0, 0, 0, rfl, rfl, Nat.zero_le _, by decide, rfl, by simp⟩
  rintro m σ ⟨k, i, c, hik, rfl, hkl, hc0, hinv, rfl⟩
  refine runs_seq ?_
  refine runs_seq ?_
  refine runs_reg (ops_run (by simp [lop, loud, callA, calleeA, fx, fy, fz, rx, ry, rz, hd, lx, ly, lz, -lenA, cx1, cx2, cy1, cy2, cz1, cz2, zB]; rfl) ?_)
  simp only [AEx.thn, AEx.blk]
  refine runs_cond_split (x := decide (i < (b.entries.length : Int))) (by simp) (fun hlt => ?_) (fun hlt => ?_)
  · have hlt := of_decide_eq_true hlt
    have hk0 : k < b.entries.length := by omega
    obtain ⟨tz, rfl⟩ := rowsV_get hz (k := k) (by rw [List.length_map]; omega)
    have hi0 : 0 ≤ i := by omega
    have htn : i.toNat = k := by omega
    have hwi : W .i64 (i + 1) = i + 1 := W_small (by omega)
    rw [List.drop_eq_getElem_cons hk0, List.foldl_cons] at hinv
    generalize hs : b.entries[k] = e at *
    obtain ⟨f, t, a⟩ := e
    simp only at hinv
    have hwc : W .i64 (c + 1) = c + 1 := W_small (by omega)
    refine runs_skip ?_
    simp only [AEx.thn, AEx.blk]
    refine runs_seq ?_
    refine runs_block ?_
    refine runs_seq ?_
    refine runs_reg (ops_run (by simp [lop, loud, callA, calleeA, fx, fy, fz, rx, ry, rz, hd, lx, ly, lz, -lenA, cx1, cx2, cy1, cy2, cz1, cz2, zB, hi0, htn, hk0, hs, hwi, rE, hwc]; rfl) ?_)
    simp only [AEx.thn, AEx.blk]
    refine runs_cond_split (x := (a == -1)) (by simp) (fun hc => ?_) (fun hc => ?_)
    · have hc : a = -1 := by simpa using hc
      rw [if_pos hc] at hinv
      refine runs_reg (ops_run (by simp [lop, loud, callA, calleeA, fx, fy, fz, rx, ry, rz, hd, lx, ly, lz, -lenA, cx1, cx2, cy1, cy2, cz1, cz2, zB, hi0, htn, hk0, hs, hwi, rE, hwc]; rfl) ?_)
      simp only [AEx.thn, AEx.blk]
      refine runs_reg (ops_run (by simp [lop, loud, callA, calleeA, fx, fy, fz, rx, ry, rz, hd, lx, ly, lz, -lenA, cx1, cx2, cy1, cy2, cz1, cz2, zB, hi0, htn, hk0, hs, hwi, rE, hwc]; rfl) ?_)
      simp only [AEx.thn, AEx.blk]
      exact ⟨b.entries.length - (k + 1), by omega, k + 1, i + 1, c + 1, by omega, rfl, by omega, by omega, hinv, by simp [trim, rbB_row, rbB_none, lop, loud, callA, calleeA, fx, fy, fz, rx, ry, rz, hd, lx, ly, lz, -lenA, cx1, cx2, cy1, cy2, cz1, cz2, zB, hi0, htn, hk0, hs, hwi, rE, hwc]⟩
    · have hc : ¬ a = -1 := by simpa using hc
      rw [if_neg hc] at hinv
      refine runs_skip ?_
      simp only [AEx.thn, AEx.blk]
      refine runs_reg (ops_run (by simp [lop, loud, callA, calleeA, fx, fy, fz, rx, ry, rz, hd, lx, ly, lz, -lenA, cx1, cx2, cy1, cy2, cz1, cz2, zB, hi0, htn, hk0, hs, hwi, rE, hwc]; rfl) ?_)
      simp only [AEx.thn, AEx.blk]
      exact ⟨b.entries.length - (k + 1), by omega, k + 1, i + 1, c, by omega, rfl, by omega, by omega, hinv, by simp [trim, rbB_row, rbB_none, lop, loud, callA, calleeA, fx, fy, fz, rx, ry, rz, hd, lx, ly, lz, -lenA, cx1, cx2, cy1, cy2, cz1, cz2, zB, hi0, htn, hk0, hs, hwi, rE, hwc]⟩
  · have hlt := of_decide_eq_false hlt
    obtain rfl : k = b.entries.length := by omega
    rw [List.drop_length] at hinv
    simp only [List.foldl_nil] at hinv
    refine runs_exit ?_
    simp only [AEx.thn, AEx.blk, if_true, if_false, reduceIte, Nat.reduceEqDiff, Nat.succ_ne_zero, Nat.one_ne_zero, Nat.zero_ne_one]
    refine runs_seq ?_
    refine runs_reg (ops_run (by simp [lop, loud, callA, calleeA, fx, fy, fz, rx, ry, rz, hd, lx, ly, lz, -lenA, cx1, cx2, cy1, cy2, cz1, cz2, zB]; rfl) ?_)
    simp only [AEx.thn, AEx.blk]
    refine runs_ret ?_
    simp [lop, loud, callA, calleeA, fx, fy, fz, rx, ry, rz, hd, lx, ly, lz, -lenA, cx1, cx2, cy1, cy2, cz1, cz2, zB, hinv]
def oBlots : List AVal → Option AVal
  | [v] => match dB v with
    | some b => some (I (blotsI b.entries))
    | none => none
  | _ => none
def oAcc : List AVal → Option AVal
  | [v, .int .i64 a] => match dB v with
    | some b => if bookE b = 0 ∧ 0 ≤ a ∧ a < b.opening.length then some (I (accI b a)) else none
    | none => none
  | _ => none
theorem a53 (P : Program) (T : Nat → Option CFn) (hT : T 53 = some c53) (b : PB) (x y z : AVal) (hx : rowsV x = some (b.opening.map rI)) (hy : rowsV y = some (b.closing.map rI)) (hz : rowsV z = some (b.entries.map rE)) (hl : b.opening.length ≤ 1000 ∧ b.closing.length ≤ 1000 ∧ b.entries.length ≤ 1000) (a : Int) (hg : bookE b = 0 ∧ 0 ≤ a ∧ a < b.opening.length) : Answers P T 53 [vB x y z, I a] [] fun v h => frz true h 5 v = some (I (accI b a)) := by
  obtain ⟨h0, ha0, ha1⟩ := hg
  obtain ⟨hn5, he12, hn0, hcl, hop, hco, hen⟩ := book_ok h0
  obtain ⟨tx, rfl⟩ : ∃ t, x = .vl (b.opening.map rI) t := (rowsV_cases hx).resolve_left fun h => hn0 (by have := h.2; simp at this; rw [this]; rfl)
  have hal : a.toNat < b.opening.length := by omega
  obtain ⟨V, hV⟩ : ∃ V, V = b.opening.getD a.toNat 0 := ⟨_, rfl⟩
  have hga : b.opening[a.toNat]? = some V := by rw [hV, List.getD_eq_getElem?_getD, List.getElem?_eq_getElem hal]; rfl
  have hob : -(1000000000 + 1000000 * ((0 : Nat) : Int)) ≤ V ∧ V ≤ 1000000000 + 1000000 * ((0 : Nat) : Int) := by
    have := hop _ (List.mem_of_getElem? hga); omega
  have hac : (b.entries.drop 0).foldl (accStep a) V = accI b a := by rw [hV]; rfl
  have hgg : ∀ h, b.opening[a.toNat]'h = V := fun h => by rw [List.getElem?_eq_getElem h] at hga; exact Option.some.inj hga
  have fx := fun H d => rowsV_frz hx H d
  have fy := fun H d => rowsV_frz hy H d
  have fz := fun H d => rowsV_frz hz H d
  have rx := fun n d => rowsV_rb hx n d
  have ry := fun n d => rowsV_rb hy n d
  have rz := fun n d => rowsV_rb hz n d
  have hd := dB_vB hx hy hz hl
  have lx := rowsV_len hx
  have ly := rowsV_len hy
  have lz := rowsV_len hz
  rw [List.length_map] at lx ly lz
  obtain ⟨cx1, cx2⟩ := rowsV_cells hx
  obtain ⟨cy1, cy2⟩ := rowsV_cells hy
  obtain ⟨cz1, cz2⟩ := rowsV_cells hz
  simp only [vB] at hd ⊢
  refine answers_of hT (orcF_none rfl) ?_
  simp only [c53]
  refine runs_seq ?_
  refine runs_reg (ops_run (by simp [lop, loud, callA, calleeA, fx, fy, fz, rx, ry, rz, hd, lx, ly, lz, -lenA, cx1, cx2, cy1, cy2, cz1, cz2, zB, hga, hgg, ha0, ha1, rI]; rfl) ?_)
  simp only [AEx.thn, AEx.blk]
  refine runs_seq ?_
  refine runs_reg (ops_run (by simp [lop, loud, callA, calleeA, fx, fy, fz, rx, ry, rz, hd, lx, ly, lz, -lenA, cx1, cx2, cy1, cy2, cz1, cz2, zB, hga, hgg, ha0, ha1, rI]; rfl) ?_)
  simp only [AEx.thn, AEx.blk]
  refine runs_seq ?_
  refine runs_seq ?_
  refine runs_reg (ops_run (by simp [lop, loud, callA, calleeA, fx, fy, fz, rx, ry, rz, hd, lx, ly, lz, -lenA, cx1, cx2, cy1, cy2, cz1, cz2, zB, hga, hgg, ha0, ha1, rI]; rfl) ?_)
  simp only [AEx.thn, AEx.blk]
  refine runs_block ?_
  refine runs_loop_inv (fun m σ => ∃ (k : Nat) (i c : Int), i = k ∧ b.entries.length - k = m ∧ k ≤ b.entries.length ∧ (-(1000000000 + 1000000 * (k : Int)) ≤ c ∧ c ≤ 1000000000 + 1000000 * (k : Int)) ∧ (b.entries.drop k).foldl (accStep a) c = accI b a ∧ σ = ⟨[.any, I a, .ref 0 0 0, .any, .any, I c, I i, .any, .any, .any, .any, .any, .any, .any, .any, .any, .any, .any, .any, .any, .any, .any, .any, .any, .any, .any, .any, .any, .any, .any, .any, .any, .any, .any, .any, .any, .any, .any, .any, .any, .any, .any, .any, .any, .any, .any, .any, .any, .any, .any, .any, .any], [some (.row 3 [[.vl (b.opening.map rI) tx, y, z]])]⟩) ?_ (b.entries.length - 0) _ ⟨0, 0, V, rfl, rfl, Nat.zero_le _, hob, hac, by simp⟩
  rintro m σ ⟨k, i, c, hik, rfl, hkl, hc0, hinv, rfl⟩
  refine runs_seq ?_
  refine runs_seq ?_
  refine runs_reg (ops_run (by simp [lop, loud, callA, calleeA, fx, fy, fz, rx, ry, rz, hd, lx, ly, lz, -lenA, cx1, cx2, cy1, cy2, cz1, cz2, zB, hga, hgg, ha0, ha1, rI]; rfl) ?_)
  simp only [AEx.thn, AEx.blk]
  refine runs_cond_split (x := decide (i < (b.entries.length : Int))) (by simp) (fun hlt => ?_) (fun hlt => ?_)
  · have hlt := of_decide_eq_true hlt
    have hk0 : k < b.entries.length := by omega
    obtain ⟨tz, rfl⟩ := rowsV_get hz (k := k) (by rw [List.length_map]; omega)
    have hi0 : 0 ≤ i := by omega
    have htn : i.toNat = k := by omega
    have hwi : W .i64 (i + 1) = i + 1 := W_small (by omega)
    have hne := hen _ (List.getElem_mem hk0)
    rw [List.drop_eq_getElem_cons hk0, List.foldl_cons] at hinv
    generalize hs : b.entries[k] = e at *
    obtain ⟨f, t, n⟩ := e
    simp only at hne
    obtain ⟨_, _, hft, hn0, hn1⟩ := hne
    have wa : W .i64 (c + n) = c + n := W_fit (by omega)
    have wb : W .i64 (c - n) = c - n := W_fit (by omega)
    simp only [accStep] at hinv
    by_cases hn : 0 ≤ n
    · by_cases ht : t = a
      · have hf : ¬ f = a := by omega
        rw [if_neg (by omega), if_pos ⟨hn, ht⟩] at hinv
        refine runs_skip ?_
        simp only [AEx.thn, AEx.blk]
        refine runs_seq ?_
        refine runs_block ?_
        refine runs_seq ?_
        refine runs_reg (ops_run (by simp [lop, loud, callA, calleeA, fx, fy, fz, rx, ry, rz, hd, lx, ly, lz, -lenA, cx1, cx2, cy1, cy2, cz1, cz2, zB, hga, hgg, ha0, ha1, rI, hi0, htn, hk0, hs, hwi, rE, wa, wb, hn, ht, hf]; rfl) ?_)
        simp only [AEx.thn, AEx.blk]
        refine runs_seq ?_
        refine runs_seq ?_
        refine runs_reg (ops_run (by simp [lop, loud, callA, calleeA, fx, fy, fz, rx, ry, rz, hd, lx, ly, lz, -lenA, cx1, cx2, cy1, cy2, cz1, cz2, zB, hga, hgg, ha0, ha1, rI, hi0, htn, hk0, hs, hwi, rE, wa, wb, hn, ht, hf]; rfl) ?_)
        simp only [AEx.thn, AEx.blk]
        refine runs_cond (x := true) (by simp [hn, ht]) ?_
        refine runs_reg (ops_run (by simp [lop, loud, callA, calleeA, fx, fy, fz, rx, ry, rz, hd, lx, ly, lz, -lenA, cx1, cx2, cy1, cy2, cz1, cz2, zB, hga, hgg, ha0, ha1, rI, hi0, htn, hk0, hs, hwi, rE, wa, wb, hn, ht, hf]; rfl) ?_)
        simp only [AEx.thn, AEx.blk]
        refine runs_seq ?_
        refine runs_reg (ops_run (by simp [lop, loud, callA, calleeA, fx, fy, fz, rx, ry, rz, hd, lx, ly, lz, -lenA, cx1, cx2, cy1, cy2, cz1, cz2, zB, hga, hgg, ha0, ha1, rI, hi0, htn, hk0, hs, hwi, rE, wa, wb, hn, ht, hf]; rfl) ?_)
        simp only [AEx.thn, AEx.blk]
        refine runs_cond (x := false) (by simp [hn, hf]) ?_
        refine runs_skip ?_
        simp only [AEx.thn, AEx.blk]
        refine runs_reg (ops_run (by simp [lop, loud, callA, calleeA, fx, fy, fz, rx, ry, rz, hd, lx, ly, lz, -lenA, cx1, cx2, cy1, cy2, cz1, cz2, zB, hga, hgg, ha0, ha1, rI, hi0, htn, hk0, hs, hwi, rE, wa, wb, hn, ht, hf]; rfl) ?_)
        simp only [AEx.thn, AEx.blk]
        exact ⟨b.entries.length - (k + 1), by omega, k + 1, i + 1, c + n, by omega, rfl, by omega, by omega, hinv, by simp [trim, rbB_row, rbB_none, lop, loud, callA, calleeA, fx, fy, fz, rx, ry, rz, hd, lx, ly, lz, -lenA, cx1, cx2, cy1, cy2, cz1, cz2, zB, hga, hgg, ha0, ha1, rI, hi0, htn, hk0, hs, hwi, rE, wa, wb, hn, ht, hf]⟩
      · by_cases hf : f = a
        · rw [if_pos ⟨hn, hf⟩, if_neg (by omega)] at hinv
          refine runs_skip ?_
          simp only [AEx.thn, AEx.blk]
          refine runs_seq ?_
          refine runs_block ?_
          refine runs_seq ?_
          refine runs_reg (ops_run (by simp [lop, loud, callA, calleeA, fx, fy, fz, rx, ry, rz, hd, lx, ly, lz, -lenA, cx1, cx2, cy1, cy2, cz1, cz2, zB, hga, hgg, ha0, ha1, rI, hi0, htn, hk0, hs, hwi, rE, wa, wb, hn, ht, hf]; rfl) ?_)
          simp only [AEx.thn, AEx.blk]
          refine runs_seq ?_
          refine runs_seq ?_
          refine runs_reg (ops_run (by simp [lop, loud, callA, calleeA, fx, fy, fz, rx, ry, rz, hd, lx, ly, lz, -lenA, cx1, cx2, cy1, cy2, cz1, cz2, zB, hga, hgg, ha0, ha1, rI, hi0, htn, hk0, hs, hwi, rE, wa, wb, hn, ht, hf]; rfl) ?_)
          simp only [AEx.thn, AEx.blk]
          refine runs_cond (x := false) (by simp [hn, ht]) ?_
          refine runs_skip ?_
          simp only [AEx.thn, AEx.blk]
          refine runs_seq ?_
          refine runs_reg (ops_run (by simp [lop, loud, callA, calleeA, fx, fy, fz, rx, ry, rz, hd, lx, ly, lz, -lenA, cx1, cx2, cy1, cy2, cz1, cz2, zB, hga, hgg, ha0, ha1, rI, hi0, htn, hk0, hs, hwi, rE, wa, wb, hn, ht, hf]; rfl) ?_)
          simp only [AEx.thn, AEx.blk]
          refine runs_cond (x := true) (by simp [hn, hf]) ?_
          refine runs_reg (ops_run (by simp [lop, loud, callA, calleeA, fx, fy, fz, rx, ry, rz, hd, lx, ly, lz, -lenA, cx1, cx2, cy1, cy2, cz1, cz2, zB, hga, hgg, ha0, ha1, rI, hi0, htn, hk0, hs, hwi, rE, wa, wb, hn, ht, hf]; rfl) ?_)
          simp only [AEx.thn, AEx.blk]
          refine runs_reg (ops_run (by simp [lop, loud, callA, calleeA, fx, fy, fz, rx, ry, rz, hd, lx, ly, lz, -lenA, cx1, cx2, cy1, cy2, cz1, cz2, zB, hga, hgg, ha0, ha1, rI, hi0, htn, hk0, hs, hwi, rE, wa, wb, hn, ht, hf]; rfl) ?_)
          simp only [AEx.thn, AEx.blk]
          exact ⟨b.entries.length - (k + 1), by omega, k + 1, i + 1, c - n, by omega, rfl, by omega, by omega, hinv, by simp [trim, rbB_row, rbB_none, lop, loud, callA, calleeA, fx, fy, fz, rx, ry, rz, hd, lx, ly, lz, -lenA, cx1, cx2, cy1, cy2, cz1, cz2, zB, hga, hgg, ha0, ha1, rI, hi0, htn, hk0, hs, hwi, rE, wa, wb, hn, ht, hf]⟩
        · rw [if_neg (by omega), if_neg (by omega)] at hinv
          refine runs_skip ?_
          simp only [AEx.thn, AEx.blk]
          refine runs_seq ?_
          refine runs_block ?_
          refine runs_seq ?_
          refine runs_reg (ops_run (by simp [lop, loud, callA, calleeA, fx, fy, fz, rx, ry, rz, hd, lx, ly, lz, -lenA, cx1, cx2, cy1, cy2, cz1, cz2, zB, hga, hgg, ha0, ha1, rI, hi0, htn, hk0, hs, hwi, rE, wa, wb, hn, ht, hf]; rfl) ?_)
          simp only [AEx.thn, AEx.blk]
          refine runs_seq ?_
          refine runs_seq ?_
          refine runs_reg (ops_run (by simp [lop, loud, callA, calleeA, fx, fy, fz, rx, ry, rz, hd, lx, ly, lz, -lenA, cx1, cx2, cy1, cy2, cz1, cz2, zB, hga, hgg, ha0, ha1, rI, hi0, htn, hk0, hs, hwi, rE, wa, wb, hn, ht, hf]; rfl) ?_)
          simp only [AEx.thn, AEx.blk]
          refine runs_cond (x := false) (by simp [hn, ht]) ?_
          refine runs_skip ?_
          simp only [AEx.thn, AEx.blk]
          refine runs_seq ?_
          refine runs_reg (ops_run (by simp [lop, loud, callA, calleeA, fx, fy, fz, rx, ry, rz, hd, lx, ly, lz, -lenA, cx1, cx2, cy1, cy2, cz1, cz2, zB, hga, hgg, ha0, ha1, rI, hi0, htn, hk0, hs, hwi, rE, wa, wb, hn, ht, hf]; rfl) ?_)
          simp only [AEx.thn, AEx.blk]
          refine runs_cond (x := false) (by simp [hn, hf]) ?_
          refine runs_skip ?_
          simp only [AEx.thn, AEx.blk]
          refine runs_reg (ops_run (by simp [lop, loud, callA, calleeA, fx, fy, fz, rx, ry, rz, hd, lx, ly, lz, -lenA, cx1, cx2, cy1, cy2, cz1, cz2, zB, hga, hgg, ha0, ha1, rI, hi0, htn, hk0, hs, hwi, rE, wa, wb, hn, ht, hf]; rfl) ?_)
          simp only [AEx.thn, AEx.blk]
          exact ⟨b.entries.length - (k + 1), by omega, k + 1, i + 1, c, by omega, rfl, by omega, by omega, hinv, by simp [trim, rbB_row, rbB_none, lop, loud, callA, calleeA, fx, fy, fz, rx, ry, rz, hd, lx, ly, lz, -lenA, cx1, cx2, cy1, cy2, cz1, cz2, zB, hga, hgg, ha0, ha1, rI, hi0, htn, hk0, hs, hwi, rE, wa, wb, hn, ht, hf]⟩
    · rw [if_neg (by omega), if_neg (by omega)] at hinv
      refine runs_skip ?_
      simp only [AEx.thn, AEx.blk]
      refine runs_seq ?_
      refine runs_block ?_
      refine runs_seq ?_
      refine runs_reg (ops_run (by simp [lop, loud, callA, calleeA, fx, fy, fz, rx, ry, rz, hd, lx, ly, lz, -lenA, cx1, cx2, cy1, cy2, cz1, cz2, zB, hga, hgg, ha0, ha1, rI, hi0, htn, hk0, hs, hwi, rE, wa, wb, hn]; rfl) ?_)
      simp only [AEx.thn, AEx.blk]
      refine runs_seq ?_
      refine runs_seq ?_
      refine runs_reg (ops_run (by simp [lop, loud, callA, calleeA, fx, fy, fz, rx, ry, rz, hd, lx, ly, lz, -lenA, cx1, cx2, cy1, cy2, cz1, cz2, zB, hga, hgg, ha0, ha1, rI, hi0, htn, hk0, hs, hwi, rE, wa, wb, hn]; rfl) ?_)
      simp only [AEx.thn, AEx.blk]
      refine runs_cond (x := false) (by simp) ?_
      refine runs_skip ?_
      simp only [AEx.thn, AEx.blk]
      refine runs_seq ?_
      refine runs_reg (ops_run (by simp [lop, loud, callA, calleeA, fx, fy, fz, rx, ry, rz, hd, lx, ly, lz, -lenA, cx1, cx2, cy1, cy2, cz1, cz2, zB, hga, hgg, ha0, ha1, rI, hi0, htn, hk0, hs, hwi, rE, wa, wb, hn]; rfl) ?_)
      simp only [AEx.thn, AEx.blk]
      refine runs_cond (x := false) (by simp) ?_
      refine runs_skip ?_
      simp only [AEx.thn, AEx.blk]
      refine runs_reg (ops_run (by simp [lop, loud, callA, calleeA, fx, fy, fz, rx, ry, rz, hd, lx, ly, lz, -lenA, cx1, cx2, cy1, cy2, cz1, cz2, zB, hga, hgg, ha0, ha1, rI, hi0, htn, hk0, hs, hwi, rE, wa, wb, hn]; rfl) ?_)
      simp only [AEx.thn, AEx.blk]
      exact ⟨b.entries.length - (k + 1), by omega, k + 1, i + 1, c, by omega, rfl, by omega, by omega, hinv, by simp [trim, rbB_row, rbB_none, lop, loud, callA, calleeA, fx, fy, fz, rx, ry, rz, hd, lx, ly, lz, -lenA, cx1, cx2, cy1, cy2, cz1, cz2, zB, hga, hgg, ha0, ha1, rI, hi0, htn, hk0, hs, hwi, rE, wa, wb, hn]⟩
  · have hlt := of_decide_eq_false hlt
    obtain rfl : k = b.entries.length := by omega
    rw [List.drop_length] at hinv
    simp only [List.foldl_nil] at hinv
    refine runs_exit ?_
    simp only [AEx.thn, AEx.blk, if_true, if_false, reduceIte, Nat.reduceEqDiff, Nat.succ_ne_zero, Nat.one_ne_zero, Nat.zero_ne_one]
    refine runs_seq ?_
    refine runs_reg (ops_run (by simp [lop, loud, callA, calleeA, fx, fy, fz, rx, ry, rz, hd, lx, ly, lz, -lenA, cx1, cx2, cy1, cy2, cz1, cz2, zB, hga, hgg, ha0, ha1, rI]; rfl) ?_)
    simp only [AEx.thn, AEx.blk]
    refine runs_ret ?_
    simp [lop, loud, callA, calleeA, fx, fy, fz, rx, ry, rz, hd, lx, ly, lz, -lenA, cx1, cx2, cy1, cy2, cz1, cz2, zB, hga, hgg, ha0, ha1, rI, hinv]
theorem a56 (P : Program) (T : Nat → Option CFn) (hT : T 56 = some c56) (x y : AVal) (xs : List Int) (hx : rowsV x = some (xs.map rI)) (hy : rowsV y = some (xs.map rI)) (hl : xs.length ≤ 1000) : Answers P T 56 [x, y] [] fun v h => frz true h 5 v = some (.bool true) := by
  have lx := rowsV_len hx
  have ly := rowsV_len hy
  rw [List.length_map] at lx ly
  refine answers_of hT (orcF_none rfl) ?_
  simp only [c56]
  refine runs_seq ?_
  refine runs_reg (ops_run (by simp [lop, loud, callA, calleeA, lx, ly, -lenA]; rfl) ?_)
  simp only [AEx.thn, AEx.blk]
  refine runs_seq ?_
  refine runs_seq ?_
  refine runs_reg (ops_run (by simp [lop, loud, callA, calleeA, lx, ly, -lenA]; rfl) ?_)
  simp only [AEx.thn, AEx.blk]
  refine runs_cond (x := false) (by simp) ?_
  refine runs_skip ?_
  simp only [AEx.thn, AEx.blk]
  refine runs_seq ?_
  refine runs_seq ?_
  refine runs_reg (ops_run (by simp [lop, loud, callA, calleeA, lx, ly, -lenA]; rfl) ?_)
  simp only [AEx.thn, AEx.blk]
  refine runs_block ?_
  refine runs_loop_inv (fun m σ => ∃ (k : Nat) (i : Int), i = k ∧ xs.length - k = m ∧ k ≤ xs.length ∧ σ = ⟨[x, y, .any, .any, .any, I i, .any, .any, .any, .any, .any, .any, .any, .any, .any, .any, .any, .any, .any, .any, .any, .any, .any, .any, .any, .any], []⟩) ?_ (xs.length - 0) _ ⟨0, 0, rfl, rfl, Nat.zero_le _, by simp⟩
  rintro m σ ⟨k, i, hik, rfl, hkl, rfl⟩
  refine runs_seq ?_
  refine runs_seq ?_
  refine runs_reg (ops_run (by simp [lop, loud, callA, calleeA, lx, ly, -lenA]; rfl) ?_)
  simp only [AEx.thn, AEx.blk]
  refine runs_cond_split (x := decide (i < (xs.length : Int))) (by simp) (fun hlt => ?_) (fun hlt => ?_)
  · have hlt := of_decide_eq_true hlt
    have hk0 : k < xs.length := by omega
    obtain ⟨t1, rfl⟩ := rowsV_get hx (k := k) (by rw [List.length_map]; omega)
    obtain ⟨t2, rfl⟩ := rowsV_get hy (k := k) (by rw [List.length_map]; omega)
    have hi0 : 0 ≤ i := by omega
    have htn : i.toNat = k := by omega
    have hwi : W .i64 (i + 1) = i + 1 := W_small (by omega)
    generalize hs : xs[k] = s at *
    refine runs_skip ?_
    simp only [AEx.thn, AEx.blk]
    refine runs_seq ?_
    refine runs_block ?_
    refine runs_seq ?_
    refine runs_drw (by simp (maxSteps := 3000000) [lop, loud, callA, calleeA, lx, ly, -lenA, hi0, htn, hk0, hs, rI, hwi]; rfl) ?_
    simp only [AEx.thn, AEx.blk]
    refine runs_cond (x := false) (by simp) ?_
    refine runs_skip ?_
    simp only [AEx.thn, AEx.blk]
    refine runs_reg (ops_run (by simp [lop, loud, callA, calleeA, lx, ly, -lenA, hi0, htn, hk0, hs, rI, hwi]; rfl) ?_)
    simp only [AEx.thn, AEx.blk]
    exact ⟨xs.length - (k + 1), by omega, k + 1, i + 1, by omega, rfl, by omega, by simp [lop, loud, callA, calleeA, lx, ly, -lenA, hi0, htn, hk0, hs, rI, hwi]⟩
  · refine runs_exit ?_
    simp only [AEx.thn, AEx.blk, if_true, if_false, reduceIte, Nat.reduceEqDiff, Nat.succ_ne_zero, Nat.one_ne_zero, Nat.zero_ne_one]
    refine runs_seq ?_
    refine runs_reg (ops_run (by simp [lop, loud, callA, calleeA, lx, ly, -lenA]; rfl) ?_)
    simp only [AEx.thn, AEx.blk]
    refine runs_ret ?_
    simp [lop, loud, callA, calleeA, lx, ly, -lenA]
def oIntsEq : List AVal → Option AVal
  | [x, y] => match rowsV x, rowsV y with
    | some rx, some ry => match optAll dI1 rx, optAll dI1 ry with
      | some xs, some ys => if xs = ys ∧ xs.length ≤ 1000 then some (.bool true) else none
      | _, _ => none
    | _, _ => none
  | _ => none
theorem oIntsEq_eq {x y : AVal} {xs : List Int} (hx : rowsV x = some (xs.map rI)) (hy : rowsV y = some (xs.map rI)) (hl : xs.length ≤ 1000) : oIntsEq [x, y] = some (.bool true) := by
  simp only [oIntsEq, hx, hy, dI1_rI, hl, and_self, if_true]
noncomputable def PR2_32 : Nat → Option CFn := upd PR1 32 true (oBlots)
theorem PR2_32_ok : TabOk Try.prog GG PR2_32 := tab_add mixed PR1_ok fun args v ho => by
  unfold oBlots at ho; split at ho <;> (try simp at ho)
  rename_i v
  split at ho <;> (try simp at ho)
  rename_i b hb
  obtain ⟨x, y, z, rfl, hx, hy, hz, hl⟩ := dB_eq hb
  try simp at ho
  subst ho
  exact a32 Try.prog PR1 rfl b x y z hx hy hz hl
noncomputable def PR2_53 : Nat → Option CFn := upd PR2_32 53 true (oAcc)
theorem PR2_53_ok : TabOk Try.prog GG PR2_53 := tab_add mixed PR2_32_ok fun args v ho => by
  unfold oAcc at ho; split at ho <;> (try simp at ho)
  rename_i v a
  split at ho <;> (try simp at ho)
  rename_i b hb
  obtain ⟨x, y, z, rfl, hx, hy, hz, hl⟩ := dB_eq hb
  try simp at ho
  obtain ⟨hg, rfl⟩ := ho
  exact a53 Try.prog PR2_32 rfl b x y z hx hy hz hl a hg
noncomputable def PR2 : Nat → Option CFn := upd PR2_53 56 true (oIntsEq)
theorem PR2_ok : TabOk Try.prog GG PR2 := tab_add mixed PR2_53_ok fun args v ho => by
  unfold oIntsEq at ho; split at ho <;> (try simp at ho)
  rename_i x y
  split at ho <;> (try simp at ho)
  rename_i rx ry hx hy
  split at ho <;> (try simp at ho)
  rename_i xs ys h1 h2
  obtain ⟨⟨rfl, hl⟩, rfl⟩ := ho
  have e1 := optAll_eq dI1_eq h1
  have e2 := optAll_eq dI1_eq h2
  subst e1 e2
  exact a56 Try.prog PR2_53 rfl x y xs hx hy hl
end
end Go.Proofs.Ytfnnonoffiljhaa.Tab

namespace Go.Proofs.Ytfnnonoffiljhaa.Tab
open Go Go.Abs Go.Proofs
set_option maxRecDepth 100000
set_option maxHeartbeats 4000000
set_option linter.unusedSimpArgs false
set_option linter.unusedVariables false
section
attribute [local simp] frz_int frz_bool frz_vl frz_pv frz_agg frz_tup frz_fn frz_ref frz_sl frz_nils optAll orcF rb_int rb_bool rb_agg rb_tup rb_int' rb_bool' rb_vl rb_pv rb_yld rb_nilf rb_nilp rb_nils rb_any rb_und rb_ref rb_sl rb_fn slE chunk fillA evParts evParts3 putAt List.range_succ List.range_zero List.range'_succ List.range'_zero runX_nil' unary_not evalS_pure evAll_nil evAll_cons runX_cons stepX wantedA dop CV.ev putK_eq setK_eq appK_eq fA_eq fI_eq fN_eq fRow_eq fRows_eq nth_eq Out.v putT List.replicate_succ AEx.thn AEx.blk arI pointee Abs.rowAt ldRow allV toV toC ofV ofC Builtin.min_ Builtin.min2 Builtin.max_ Builtin.max2 min_if max_if resA tupA kill trim_self trim_len trim_emp trim_nil lenA
attribute [local simp] runD_nil' runD_cons' stepD actK_eq actD clash disj masks holes maskH unmaskH diffs news eqB allB eqA ldRowN wrote toCs ofCs stA rowsV_vl rowsV_nils rowsOf dI1 dI2 dI3 dI5 elt
attribute [local simp] st_any st_und st_agg st_tup st_bool st_int st_nilp st_ref st_pv st_nils st_sl st_vl st_nilm st_mp st_fn st_nilf st_yld co_any co_und co_agg co_tup co_bool co_int co_nilp co_ref co_pv co_nils co_sl co_vl co_nilm co_mp co_fn co_nilf co_yld
def oLong : List AVal → Option AVal
  | [v] => match dBu v with
    | some b => some (.bool (decide (10 < b.opening.length) || decide (10 < b.closing.length) || decide (20 < b.entries.length)))
    | none => none
  | _ => none
theorem a27 (P : Program) (T : Nat → Option CFn) (hT : T 27 = some c27) (b : PB) (x y z : AVal) (hx : rowsV x = some (b.opening.map rI)) (hy : rowsV y = some (b.closing.map rI)) (hz : rowsV z = some (b.entries.map rE)) : Answers P T 27 [vB x y z] [] fun v h => frz true h 5 v = some (.bool (decide (10 < b.opening.length) || decide (10 < b.closing.length) || decide (20 < b.entries.length))) := by
  have lx := rowsV_len hx
  have ly := rowsV_len hy
  have lz := rowsV_len hz
  rw [List.length_map] at lx ly lz
  have rx := fun n d => rowsV_rb hx n d
  have ry := fun n d => rowsV_rb hy n d
  have rz := fun n d => rowsV_rb hz n d
  obtain ⟨cx1, cx2⟩ := rowsV_cells hx
  obtain ⟨cy1, cy2⟩ := rowsV_cells hy
  obtain ⟨cz1, cz2⟩ := rowsV_cells hz
  have c1 : ((10 : Int) < (b.opening.length : Int)) = (10 < b.opening.length) := by rw [eq_iff_iff]; omega
  have c2 : ((10 : Int) < (b.closing.length : Int)) = (10 < b.closing.length) := by rw [eq_iff_iff]; omega
  have c3 : ((20 : Int) < (b.entries.length : Int)) = (20 < b.entries.length) := by rw [eq_iff_iff]; omega
  simp only [vB]
  refine answers_of hT (orcF_none rfl) ?_
  simp only [c27]
  refine runs_seq ?_
  by_cases h1 : 10 < b.opening.length
  · refine runs_reg (ops_run (by simp [lop, loud, callA, calleeA, lx, ly, lz, -lenA, rx, ry, rz, cx1, cx2, cy1, cy2, cz1, cz2, c1, c2, c3, h1]; rfl) ?_)
    simp only [AEx.thn, AEx.blk]
    refine runs_seq ?_
    refine runs_reg (ops_run (by simp [lop, loud, callA, calleeA, lx, ly, lz, -lenA, rx, ry, rz, cx1, cx2, cy1, cy2, cz1, cz2, c1, c2, c3, h1]; rfl) ?_)
    simp only [AEx.thn, AEx.blk]
    refine runs_ret ?_
    simp [lop, loud, callA, calleeA, lx, ly, lz, -lenA, rx, ry, rz, cx1, cx2, cy1, cy2, cz1, cz2, c1, c2, c3, h1]
  · by_cases h2 : 10 < b.closing.length
    · refine runs_reg (ops_run (by simp [lop, loud, callA, calleeA, lx, ly, lz, -lenA, rx, ry, rz, cx1, cx2, cy1, cy2, cz1, cz2, c1, c2, c3, h1, h2]; rfl) ?_)
      simp only [AEx.thn, AEx.blk]
      refine runs_seq ?_
      refine runs_reg (ops_run (by simp [lop, loud, callA, calleeA, lx, ly, lz, -lenA, rx, ry, rz, cx1, cx2, cy1, cy2, cz1, cz2, c1, c2, c3, h1, h2]; rfl) ?_)
      simp only [AEx.thn, AEx.blk]
      refine runs_ret ?_
      simp [lop, loud, callA, calleeA, lx, ly, lz, -lenA, rx, ry, rz, cx1, cx2, cy1, cy2, cz1, cz2, c1, c2, c3, h1, h2]
    · refine runs_reg (ops_run (by simp [lop, loud, callA, calleeA, lx, ly, lz, -lenA, rx, ry, rz, cx1, cx2, cy1, cy2, cz1, cz2, c1, c2, c3, h1, h2]; rfl) ?_)
      simp only [AEx.thn, AEx.blk]
      refine runs_seq ?_
      refine runs_reg (ops_run (by simp [lop, loud, callA, calleeA, lx, ly, lz, -lenA, rx, ry, rz, cx1, cx2, cy1, cy2, cz1, cz2, c1, c2, c3, h1, h2]; rfl) ?_)
      simp only [AEx.thn, AEx.blk]
      refine runs_ret ?_
      simp [lop, loud, callA, calleeA, lx, ly, lz, -lenA, rx, ry, rz, cx1, cx2, cy1, cy2, cz1, cz2, c1, c2, c3, h1, h2]
theorem frz_mapI (nv : Bool) (h : Heap) (d : Nat) (xs : List Int) : optAll (optAll (frz nv h (d + 1))) (xs.map rI) = some (xs.map rI) := frz_rows nv h d _ fun r hr z hz => by
  obtain ⟨a, _, rfl⟩ := List.mem_map.1 hr
  simp [rI] at hz; subst hz; rfl
theorem frz_mapE (nv : Bool) (h : Heap) (d : Nat) (xs : List Ent) : optAll (optAll (frz nv h (d + 1))) (xs.map rE) = some (xs.map rE) := frz_rows nv h d _ fun r hr z hz => by
  obtain ⟨a, _, rfl⟩ := List.mem_map.1 hr
  simp [rE] at hz; rcases hz with rfl | rfl | rfl <;> rfl
theorem ro_sl (h : Heap) (i k n : Nat) (t : Bool) : rowsOf h (.sl i k n t) = match Abs.rowAt h i with
    | some (_, rs) => if k + n ≤ rs.length then some ((rs.drop k).take n) else none
    | none => none := rfl
theorem ro_vl (h : Heap) (rs : List (List AVal)) (t : Bool) : rowsOf h (.vl rs t) = some rs := rfl
theorem ro_nils (h : Heap) : rowsOf h .nils = some [] := rfl
theorem ro_of {x : AVal} {rs : List (List AVal)} (hx : rowsV x = some rs) (h : Heap) : rowsOf h x = some rs := by
  cases x <;> simp [rowsV] at hx <;> subst hx <;> rfl
theorem eq_rI (n : Nat) : ∀ xs : List Int, allB (allB (eqA (n + 1))) (xs.map rI) (xs.map rI) = true
  | [] => rfl
  | v :: vs => by
    rw [List.map_cons]
    show (allB (eqA (n + 1)) (rI v) (rI v) && allB (allB (eqA (n + 1))) (vs.map rI) (vs.map rI)) = true
    rw [eq_rI n vs]; simp [rI]
theorem eq_rE (n : Nat) : ∀ xs : List Ent, allB (allB (eqA (n + 1))) (xs.map rE) (xs.map rE) = true
  | [] => rfl
  | v :: vs => by
    rw [List.map_cons]
    show (allB (eqA (n + 1)) (rE v) (rE v) && allB (allB (eqA (n + 1))) (vs.map rE) (vs.map rE)) = true
    rw [eq_rE n vs]; simp [rE]
theorem eq_rIc (n : Nat) (c : Int) (xs : List Int) : allB (allB (eqA (n + 1))) ([I c] :: xs.map rI) ([I c] :: xs.map rI) = true := eq_rI n (c :: xs)
theorem eq_rEc (n : Nat) (e : Ent) (xs : List Ent) : allB (allB (eqA (n + 1))) ([I e.1, I e.2.1, I e.2.2] :: xs.map rE) ([I e.1, I e.2.1, I e.2.2] :: xs.map rE) = true := eq_rE n (e :: xs)
theorem tk_rI (xs : List Int) : (xs.map rI).take xs.length = xs.map rI := List.take_of_length_le (by simp)
theorem tk_rE (xs : List Ent) : (xs.map rE).take xs.length = xs.map rE := List.take_of_length_le (by simp)
theorem eq_of {x : AVal} {rs : List (List AVal)} (hx : rowsV x = some rs) (n : Nat) (h : allB (allB (eqA (n + 1))) rs rs = true) : eqA (n + 2) x x = true := by
  rcases rowsV_cases hx with ⟨rfl, _⟩ | ⟨t, rfl⟩
  · rfl
  · show (allB (allB (eqA (n + 1))) rs rs && t == t) = true
    rw [h]; simp
def oCopy : List AVal → Option AVal
  | [v] => match dB v with
    | some b => some (vB (.vl (b.opening.map rI) (b.opening.length == 0)) (.vl (b.closing.map rI) (b.closing.length == 0)) (.vl (b.entries.map rE) (b.entries.length == 0)))
    | none => none
  | _ => none
theorem a28 (P : Program) (T : Nat → Option CFn) (hT : T 28 = some c28) (b : PB) (x y z : AVal) (hx : rowsV x = some (b.opening.map rI)) (hy : rowsV y = some (b.closing.map rI)) (hz : rowsV z = some (b.entries.map rE)) (hl : b.opening.length ≤ 1000 ∧ b.closing.length ≤ 1000 ∧ b.entries.length ≤ 1000) : Answers P T 28 [vB x y z] [] fun v h => frz true h 5 v = some (vB (.vl (b.opening.map rI) (b.opening.length == 0)) (.vl (b.closing.map rI) (b.closing.length == 0)) (.vl (b.entries.map rE) (b.entries.length == 0))) := by
  have rox := fun h => ro_of hx h
  have roy := fun h => ro_of hy h
  have roz := fun h => ro_of hz h
  have eqx := fun n => eq_of hx n (eq_rI n _)
  have eqy := fun n => eq_of hy n (eq_rI n _)
  have eqz := fun n => eq_of hz n (eq_rE n _)
  have fx := fun H d => rowsV_frz hx H d
  have fy := fun H d => rowsV_frz hy H d
  have fz := fun H d => rowsV_frz hz H d
  have rx := fun n d => rowsV_rb hx n d
  have ry := fun n d => rowsV_rb hy n d
  have rz := fun n d => rowsV_rb hz n d
  have hd := dB_vB hx hy hz hl
  have lx := rowsV_len hx
  have ly := rowsV_len hy
  have lz := rowsV_len hz
  rw [List.length_map] at lx ly lz
  obtain ⟨cx1, cx2⟩ := rowsV_cells hx
  obtain ⟨cy1, cy2⟩ := rowsV_cells hy
  obtain ⟨cz1, cz2⟩ := rowsV_cells hz
  simp only [vB] at hd ⊢
  refine answers_of hT (orcF_none rfl) ?_
  simp only [c28]
  refine runs_seq ?_
  refine runs_reg (ops_run (by simp [lop, loud, callA, calleeA, fx, fy, fz, rx, ry, rz, hd, lx, ly, lz, -lenA, cx1, cx2, cy1, cy2, cz1, cz2, zB, ↓eqx, ↓eqy, ↓eqz, ↓eq_rI, ↓eq_rE, ↓eq_rIc, ↓eq_rEc, tk_rI, tk_rE, vB, rox, roy, roz, ro_sl, ro_vl, ro_nils, -rowsOf, lim, List.all_map, Function.comp_def, rI, rE]; rfl) ?_)
  simp only [AEx.thn, AEx.blk]
  refine runs_seq ?_
  rcases hopening : b.opening with _ | ⟨o0, os⟩
  · skip
    rcases hclosing : b.closing with _ | ⟨c0, cs⟩
    · skip
      rcases hentries : b.entries with _ | ⟨e0, es⟩
      · skip
        refine runs_drw (by simp (maxSteps := 3000000) [lop, loud, callA, calleeA, fx, fy, fz, rx, ry, rz, hd, lx, ly, lz, -lenA, cx1, cx2, cy1, cy2, cz1, cz2, zB, ↓eqx, ↓eqy, ↓eqz, ↓eq_rI, ↓eq_rE, ↓eq_rIc, ↓eq_rEc, tk_rI, tk_rE, vB, rox, roy, roz, ro_sl, ro_vl, ro_nils, -rowsOf, lim, List.all_map, Function.comp_def, rI, rE, hopening, hclosing, hentries]; rfl) ?_
        simp only [AEx.thn, AEx.blk]
        refine runs_ret ?_
        simp [lop, loud, callA, calleeA, fx, fy, fz, rx, ry, rz, hd, lx, ly, lz, -lenA, cx1, cx2, cy1, cy2, cz1, cz2, zB, ↓eqx, ↓eqy, ↓eqz, ↓eq_rI, ↓eq_rE, ↓eq_rIc, ↓eq_rEc, tk_rI, tk_rE, vB, rox, roy, roz, ro_sl, ro_vl, ro_nils, -rowsOf, lim, List.all_map, Function.comp_def, rI, rE, hopening, hclosing, hentries, trim, frz_mapI, frz_mapE, rI, rE, optAll]
      · have lentries : es.length + 1 ≤ 1048576 := by have := hl; rw [hentries] at this; simp at this; omega
        have lentries' : es.length ≤ 1048575 := by omega
        refine runs_drw (by simp (maxSteps := 3000000) [lop, loud, callA, calleeA, fx, fy, fz, rx, ry, rz, hd, lx, ly, lz, -lenA, cx1, cx2, cy1, cy2, cz1, cz2, zB, ↓eqx, ↓eqy, ↓eqz, ↓eq_rI, ↓eq_rE, ↓eq_rIc, ↓eq_rEc, tk_rI, tk_rE, vB, rox, roy, roz, ro_sl, ro_vl, ro_nils, -rowsOf, lim, List.all_map, Function.comp_def, rI, rE, hopening, hclosing, hentries, lentries, lentries']; rfl) ?_
        simp only [AEx.thn, AEx.blk]
        refine runs_ret ?_
        simp [lop, loud, callA, calleeA, fx, fy, fz, rx, ry, rz, hd, lx, ly, lz, -lenA, cx1, cx2, cy1, cy2, cz1, cz2, zB, ↓eqx, ↓eqy, ↓eqz, ↓eq_rI, ↓eq_rE, ↓eq_rIc, ↓eq_rEc, tk_rI, tk_rE, vB, rox, roy, roz, ro_sl, ro_vl, ro_nils, -rowsOf, lim, List.all_map, Function.comp_def, rI, rE, hopening, hclosing, hentries, lentries, lentries', trim, frz_mapI, frz_mapE, rI, rE, optAll]
    · have lclosing : cs.length + 1 ≤ 1048576 := by have := hl; rw [hclosing] at this; simp at this; omega
      have lclosing' : cs.length ≤ 1048575 := by omega
      rcases hentries : b.entries with _ | ⟨e0, es⟩
      · skip
        refine runs_drw (by simp (maxSteps := 3000000) [lop, loud, callA, calleeA, fx, fy, fz, rx, ry, rz, hd, lx, ly, lz, -lenA, cx1, cx2, cy1, cy2, cz1, cz2, zB, ↓eqx, ↓eqy, ↓eqz, ↓eq_rI, ↓eq_rE, ↓eq_rIc, ↓eq_rEc, tk_rI, tk_rE, vB, rox, roy, roz, ro_sl, ro_vl, ro_nils, -rowsOf, lim, List.all_map, Function.comp_def, rI, rE, hopening, hclosing, lclosing, lclosing', hentries]; rfl) ?_
        simp only [AEx.thn, AEx.blk]
        refine runs_ret ?_
        simp [lop, loud, callA, calleeA, fx, fy, fz, rx, ry, rz, hd, lx, ly, lz, -lenA, cx1, cx2, cy1, cy2, cz1, cz2, zB, ↓eqx, ↓eqy, ↓eqz, ↓eq_rI, ↓eq_rE, ↓eq_rIc, ↓eq_rEc, tk_rI, tk_rE, vB, rox, roy, roz, ro_sl, ro_vl, ro_nils, -rowsOf, lim, List.all_map, Function.comp_def, rI, rE, hopening, hclosing, lclosing, lclosing', hentries, trim, frz_mapI, frz_mapE, rI, rE, optAll]
      · have lentries : es.length + 1 ≤ 1048576 := by have := hl; rw [hentries] at this; simp at this; omega
        have lentries' : es.length ≤ 1048575 := by omega
        refine runs_drw (by simp (maxSteps := 3000000) [lop, loud, callA, calleeA, fx, fy, fz, rx, ry, rz, hd, lx, ly, lz, -lenA, cx1, cx2, cy1, cy2, cz1, cz2, zB, ↓eqx, ↓eqy, ↓eqz, ↓eq_rI, ↓eq_rE, ↓eq_rIc, ↓eq_rEc, tk_rI, tk_rE, vB, rox, roy, roz, ro_sl, ro_vl, ro_nils, -rowsOf, lim, List.all_map, Function.comp_def, rI, rE, hopening, hclosing, lclosing, lclosing', hentries, lentries, lentries']; rfl) ?_
        simp only [AEx.thn, AEx.blk]
        refine runs_ret ?_
        simp [lop, loud, callA, calleeA, fx, fy, fz, rx, ry, rz, hd, lx, ly, lz, -lenA, cx1, cx2, cy1, cy2, cz1, cz2, zB, ↓eqx, ↓eqy, ↓eqz, ↓eq_rI, ↓eq_rE, ↓eq_rIc, ↓eq_rEc, tk_rI, tk_rE, vB, rox, roy, roz, ro_sl, ro_vl, ro_nils, -rowsOf, lim, List.all_map, Function.comp_def, rI, rE, hopening, hclosing, lclosing, lclosing', hentries, lentries, lentries', trim, frz_mapI, frz_mapE, rI, rE, optAll]
  · have lopening : os.length + 1 ≤ 1048576 := by have := hl; rw [hopening] at this; simp at this; omega
    have lopening' : os.length ≤ 1048575 := by omega
    rcases hclosing : b.closing with _ | ⟨c0, cs⟩
    · skip
      rcases hentries : b.entries with _ | ⟨e0, es⟩
      · skip
        refine runs_drw (by simp (maxSteps := 3000000) [lop, loud, callA, calleeA, fx, fy, fz, rx, ry, rz, hd, lx, ly, lz, -lenA, cx1, cx2, cy1, cy2, cz1, cz2, zB, ↓eqx, ↓eqy, ↓eqz, ↓eq_rI, ↓eq_rE, ↓eq_rIc, ↓eq_rEc, tk_rI, tk_rE, vB, rox, roy, roz, ro_sl, ro_vl, ro_nils, -rowsOf, lim, List.all_map, Function.comp_def, rI, rE, hopening, lopening, lopening', hclosing, hentries]; rfl) ?_
        simp only [AEx.thn, AEx.blk]
        refine runs_ret ?_
        simp [lop, loud, callA, calleeA, fx, fy, fz, rx, ry, rz, hd, lx, ly, lz, -lenA, cx1, cx2, cy1, cy2, cz1, cz2, zB, ↓eqx, ↓eqy, ↓eqz, ↓eq_rI, ↓eq_rE, ↓eq_rIc, ↓eq_rEc, tk_rI, tk_rE, vB, rox, roy, roz, ro_sl, ro_vl, ro_nils, -rowsOf, lim, List.all_map, Function.comp_def, rI, rE, hopening, lopening, lopening', hclosing, hentries, trim, frz_mapI, frz_mapE, rI, rE, optAll]
      · have lentries : es.length + 1 ≤ 1048576 := by have := hl; rw [hentries] at this; simp at this; omega
        have lentries' : es.length ≤ 1048575 := by omega
        refine runs_drw (by simp (maxSteps := 3000000) [lop, loud, callA, calleeA, fx, fy, fz, rx, ry, rz, hd, lx, ly, lz, -lenA, cx1, cx2, cy1, cy2, cz1, cz2, zB, ↓eqx, ↓eqy, ↓eqz, ↓eq_rI, ↓eq_rE, ↓eq_rIc, ↓eq_rEc, tk_rI, tk_rE, vB, rox, roy, roz, ro_sl, ro_vl, ro_nils, -rowsOf, lim, List.all_map, Function.comp_def, rI, rE, hopening, lopening, lopening', hclosing, hentries, lentries, lentries']; rfl) ?_
        simp only [AEx.thn, AEx.blk]
        refine runs_ret ?_
        simp [lop, loud, callA, calleeA, fx, fy, fz, rx, ry, rz, hd, lx, ly, lz, -lenA, cx1, cx2, cy1, cy2, cz1, cz2, zB, ↓eqx, ↓eqy, ↓eqz, ↓eq_rI, ↓eq_rE, ↓eq_rIc, ↓eq_rEc, tk_rI, tk_rE, vB, rox, roy, roz, ro_sl, ro_vl, ro_nils, -rowsOf, lim, List.all_map, Function.comp_def, rI, rE, hopening, lopening, lopening', hclosing, hentries, lentries, lentries', trim, frz_mapI, frz_mapE, rI, rE, optAll]
    · have lclosing : cs.length + 1 ≤ 1048576 := by have := hl; rw [hclosing] at this; simp at this; omega
      have lclosing' : cs.length ≤ 1048575 := by omega
      rcases hentries : b.entries with _ | ⟨e0, es⟩
      · skip
        refine runs_drw (by simp (maxSteps := 3000000) [lop, loud, callA, calleeA, fx, fy, fz, rx, ry, rz, hd, lx, ly, lz, -lenA, cx1, cx2, cy1, cy2, cz1, cz2, zB, ↓eqx, ↓eqy, ↓eqz, ↓eq_rI, ↓eq_rE, ↓eq_rIc, ↓eq_rEc, tk_rI, tk_rE, vB, rox, roy, roz, ro_sl, ro_vl, ro_nils, -rowsOf, lim, List.all_map, Function.comp_def, rI, rE, hopening, lopening, lopening', hclosing, lclosing, lclosing', hentries]; rfl) ?_
        simp only [AEx.thn, AEx.blk]
        refine runs_ret ?_
        simp [lop, loud, callA, calleeA, fx, fy, fz, rx, ry, rz, hd, lx, ly, lz, -lenA, cx1, cx2, cy1, cy2, cz1, cz2, zB, ↓eqx, ↓eqy, ↓eqz, ↓eq_rI, ↓eq_rE, ↓eq_rIc, ↓eq_rEc, tk_rI, tk_rE, vB, rox, roy, roz, ro_sl, ro_vl, ro_nils, -rowsOf, lim, List.all_map, Function.comp_def, rI, rE, hopening, lopening, lopening', hclosing, lclosing, lclosing', hentries, trim, frz_mapI, frz_mapE, rI, rE, optAll]
      · have lentries : es.length + 1 ≤ 1048576 := by have := hl; rw [hentries] at this; simp at this; omega
        have lentries' : es.length ≤ 1048575 := by omega
        refine runs_drw (by simp (maxSteps := 3000000) [lop, loud, callA, calleeA, fx, fy, fz, rx, ry, rz, hd, lx, ly, lz, -lenA, cx1, cx2, cy1, cy2, cz1, cz2, zB, ↓eqx, ↓eqy, ↓eqz, ↓eq_rI, ↓eq_rE, ↓eq_rIc, ↓eq_rEc, tk_rI, tk_rE, vB, rox, roy, roz, ro_sl, ro_vl, ro_nils, -rowsOf, lim, List.all_map, Function.comp_def, rI, rE, hopening, lopening, lopening', hclosing, lclosing, lclosing', hentries, lentries, lentries']; rfl) ?_
        simp only [AEx.thn, AEx.blk]
        refine runs_ret ?_
        simp [lop, loud, callA, calleeA, fx, fy, fz, rx, ry, rz, hd, lx, ly, lz, -lenA, cx1, cx2, cy1, cy2, cz1, cz2, zB, ↓eqx, ↓eqy, ↓eqz, ↓eq_rI, ↓eq_rE, ↓eq_rIc, ↓eq_rEc, tk_rI, tk_rE, vB, rox, roy, roz, ro_sl, ro_vl, ro_nils, -rowsOf, lim, List.all_map, Function.comp_def, rI, rE, hopening, lopening, lopening', hclosing, lclosing, lclosing', hentries, lentries, lentries', trim, frz_mapI, frz_mapE, rI, rE, optAll]
theorem eq92n (x y : Operand) (a0 a1 a2 b0 b1 b2 : Int) : evalS Try.prog (do eqGuard .neq 92 x y (.agg #[.int .i64 a0, .int .i64 a1, .int .i64 a2]) (.agg #[.int .i64 b0, .int .i64 b1, .int .i64 b2]); binOp .neq 92 (.agg #[.int .i64 a0, .int .i64 a1, .int .i64 a2]) (.agg #[.int .i64 b0, .int .i64 b1, .int .i64 b2])) = some (.bool (!((a0 == b0) && ((a1 == b1) && ((a2 == b2) && true))))) := by
  have h := evalS_eqv (P := Try.prog) (ne := true) (t := 92) (x := x) (y := y) (xs := #[.int .i64 a0, .int .i64 a1, .int .i64 a2]) (ys := #[.int .i64 b0, .int .i64 b1, .int .i64 b2]) (b := ((a0 == b0) && ((a1 == b1) && ((a2 == b2) && true)))) (by kernel_rfl) (by kernel_rfl)
  simpa only [if_true, if_false, Bool.false_eq_true, Bool.bne_true, Bool.bne_false] using h
theorem eq92e (x y : Operand) (a0 a1 a2 b0 b1 b2 : Int) : evalS Try.prog (do eqGuard .eql 92 x y (.agg #[.int .i64 a0, .int .i64 a1, .int .i64 a2]) (.agg #[.int .i64 b0, .int .i64 b1, .int .i64 b2]); binOp .eql 92 (.agg #[.int .i64 a0, .int .i64 a1, .int .i64 a2]) (.agg #[.int .i64 b0, .int .i64 b1, .int .i64 b2])) = some (.bool (((a0 == b0) && ((a1 == b1) && ((a2 == b2) && true))))) := by
  have h := evalS_eqv (P := Try.prog) (ne := false) (t := 92) (x := x) (y := y) (xs := #[.int .i64 a0, .int .i64 a1, .int .i64 a2]) (ys := #[.int .i64 b0, .int .i64 b1, .int .i64 b2]) (b := ((a0 == b0) && ((a1 == b1) && ((a2 == b2) && true)))) (by kernel_rfl) (by kernel_rfl)
  simpa only [if_true, if_false, Bool.false_eq_true, Bool.bne_true, Bool.bne_false] using h
theorem a30 (T : Nat → Option CFn) (hT : T 30 = some c30) (h56 : T 56 = some { c56 with frsh := true, orc := oIntsEq }) (b : PB) (x y z : AVal) (hx : rowsV x = some (b.opening.map rI)) (hy : rowsV y = some (b.closing.map rI)) (hz : rowsV z = some (b.entries.map rE)) (hl : b.opening.length ≤ 1000 ∧ b.closing.length ≤ 1000 ∧ b.entries.length ≤ 1000) (x' y' z' : AVal) (hx' : rowsV x' = some (b.opening.map rI)) (hy' : rowsV y' = some (b.closing.map rI)) (hz' : rowsV z' = some (b.entries.map rE)) : Answers Try.prog T 30 [vB x y z, vB x' y' z'] [] fun v h => frz true h 5 v = some (.bool true) := by
  have i1 := oIntsEq_eq hx hx' hl.1
  have i2 := oIntsEq_eq hy hy' hl.2.1
  have lz' := rowsV_len hz'
  rw [List.length_map] at lz'
  have fx' := fun H d => rowsV_frz hx' H d
  have fy' := fun H d => rowsV_frz hy' H d
  have rx' := fun n d => rowsV_rb hx' n d
  have ry' := fun n d => rowsV_rb hy' n d
  have rz' := fun n d => rowsV_rb hz' n d
  obtain ⟨cx1', cx2'⟩ := rowsV_cells hx'
  obtain ⟨cy1', cy2'⟩ := rowsV_cells hy'
  obtain ⟨cz1', cz2'⟩ := rowsV_cells hz'
  have fx := fun H d => rowsV_frz hx H d
  have fy := fun H d => rowsV_frz hy H d
  have fz := fun H d => rowsV_frz hz H d
  have rx := fun n d => rowsV_rb hx n d
  have ry := fun n d => rowsV_rb hy n d
  have rz := fun n d => rowsV_rb hz n d
  have hd := dB_vB hx hy hz hl
  have lx := rowsV_len hx
  have ly := rowsV_len hy
  have lz := rowsV_len hz
  rw [List.length_map] at lx ly lz
  obtain ⟨cx1, cx2⟩ := rowsV_cells hx
  obtain ⟨cy1, cy2⟩ := rowsV_cells hy
  obtain ⟨cz1, cz2⟩ := rowsV_cells hz
  simp only [vB] at hd ⊢
  refine answers_of hT (orcF_none rfl) ?_
  simp only [c30]
  refine runs_seq ?_
  refine runs_reg (ops_run (by simp [lop, loud, callA, calleeA, callF_step h56, h56, fx, fy, fz, rx, ry, rz, hd, lx, ly, lz, -lenA, cx1, cx2, cy1, cy2, cz1, cz2, zB, i1, i2, lz', fx', fy', rx', ry', rz', cx1', cx2', cy1', cy2', cz1', cz2']; rfl) ?_)
  simp only [AEx.thn, AEx.blk]
  refine runs_seq ?_
  refine runs_seq ?_
  refine runs_reg (ops_run (by simp [lop, loud, callA, calleeA, callF_step h56, h56, fx, fy, fz, rx, ry, rz, hd, lx, ly, lz, -lenA, cx1, cx2, cy1, cy2, cz1, cz2, zB, i1, i2, lz', fx', fy', rx', ry', rz', cx1', cx2', cy1', cy2', cz1', cz2']; rfl) ?_)
  simp only [AEx.thn, AEx.blk]
  refine runs_cond (x := false) (by simp) ?_
  refine runs_skip ?_
  simp only [AEx.thn, AEx.blk]
  refine runs_seq ?_
  refine runs_seq ?_
  refine runs_reg (ops_run (by simp [lop, loud, callA, calleeA, callF_step h56, h56, fx, fy, fz, rx, ry, rz, hd, lx, ly, lz, -lenA, cx1, cx2, cy1, cy2, cz1, cz2, zB, i1, i2, lz', fx', fy', rx', ry', rz', cx1', cx2', cy1', cy2', cz1', cz2']; rfl) ?_)
  simp only [AEx.thn, AEx.blk]
  refine runs_block ?_
  refine runs_loop_inv (fun m σ => ∃ (k : Nat) (i : Int), i = k ∧ b.entries.length - k = m ∧ k ≤ b.entries.length ∧ σ = ⟨[.any, .any, .ref 0 0 0, .ref 1 0 0, .any, I i, .any, .any, .any, .any, .any, .any, .any, .any, .any, .any, .any, .any, .any, .any, .any, .any, .any, .any, .any, .any, .any, .any, .any, .any, .any, .any, .any, .any, .any, .any, .any, .any, .any, .any, .any, .any, .any, .any, .any, .any, .any], [some (.row 3 [[x, y, z]]), some (.row 3 [[x', y', z']])]⟩) ?_ (b.entries.length - 0) _ ⟨0, 0, rfl, rfl, Nat.zero_le _, by simp⟩
  rintro m σ ⟨k, i, hik, rfl, hkl, rfl⟩
  refine runs_seq ?_
  refine runs_seq ?_
  refine runs_reg (ops_run (by simp [lop, loud, callA, calleeA, callF_step h56, h56, fx, fy, fz, rx, ry, rz, hd, lx, ly, lz, -lenA, cx1, cx2, cy1, cy2, cz1, cz2, zB, i1, i2, lz', fx', fy', rx', ry', rz', cx1', cx2', cy1', cy2', cz1', cz2']; rfl) ?_)
  simp only [AEx.thn, AEx.blk]
  refine runs_cond_split (x := decide (i < (b.entries.length : Int))) (by simp) (fun hlt => ?_) (fun hlt => ?_)
  · have hlt := of_decide_eq_true hlt
    have hk0 : k < b.entries.length := by omega
    obtain ⟨t1, rfl⟩ := rowsV_get hz (k := k) (by rw [List.length_map]; omega)
    obtain ⟨t2, rfl⟩ := rowsV_get hz' (k := k) (by rw [List.length_map]; omega)
    have hi0 : 0 ≤ i := by omega
    have htn : i.toNat = k := by omega
    have hwi : W .i64 (i + 1) = i + 1 := W_small (by omega)
    generalize hs : b.entries[k] = e at *
    obtain ⟨f, t, a⟩ := e
    refine runs_skip ?_
    simp only [AEx.thn, AEx.blk]
    refine runs_seq ?_
    refine runs_block ?_
    refine runs_seq ?_
    refine runs_drw (by simp (maxSteps := 3000000) [lop, loud, callA, calleeA, callF_step h56, h56, fx, fy, fz, rx, ry, rz, hd, lx, ly, lz, -lenA, cx1, cx2, cy1, cy2, cz1, cz2, zB, i1, i2, lz', fx', fy', rx', ry', rz', cx1', cx2', cy1', cy2', cz1', cz2', hi0, htn, hk0, hs, rE, hwi, eq92n]; rfl) ?_
    simp only [AEx.thn, AEx.blk]
    refine runs_cond (x := false) (by simp) ?_
    refine runs_skip ?_
    simp only [AEx.thn, AEx.blk]
    refine runs_reg (ops_run (by simp [lop, loud, callA, calleeA, callF_step h56, h56, fx, fy, fz, rx, ry, rz, hd, lx, ly, lz, -lenA, cx1, cx2, cy1, cy2, cz1, cz2, zB, i1, i2, lz', fx', fy', rx', ry', rz', cx1', cx2', cy1', cy2', cz1', cz2', hi0, htn, hk0, hs, rE, hwi, eq92n]; rfl) ?_)
    simp only [AEx.thn, AEx.blk]
    exact ⟨b.entries.length - (k + 1), by omega, k + 1, i + 1, by omega, rfl, by omega, by simp [trim, rbB_row, rbB_none, lop, loud, callA, calleeA, callF_step h56, h56, fx, fy, fz, rx, ry, rz, hd, lx, ly, lz, -lenA, cx1, cx2, cy1, cy2, cz1, cz2, zB, i1, i2, lz', fx', fy', rx', ry', rz', cx1', cx2', cy1', cy2', cz1', cz2', hi0, htn, hk0, hs, rE, hwi, eq92n]⟩
  · refine runs_exit ?_
    simp only [AEx.thn, AEx.blk, if_true, if_false, reduceIte, Nat.reduceEqDiff, Nat.succ_ne_zero, Nat.one_ne_zero, Nat.zero_ne_one]
    refine runs_seq ?_
    refine runs_reg (ops_run (by simp [lop, loud, callA, calleeA, callF_step h56, h56, fx, fy, fz, rx, ry, rz, hd, lx, ly, lz, -lenA, cx1, cx2, cy1, cy2, cz1, cz2, zB, i1, i2, lz', fx', fy', rx', ry', rz', cx1', cx2', cy1', cy2', cz1', cz2']; rfl) ?_)
    simp only [AEx.thn, AEx.blk]
    refine runs_ret ?_
    simp [lop, loud, callA, calleeA, callF_step h56, h56, fx, fy, fz, rx, ry, rz, hd, lx, ly, lz, -lenA, cx1, cx2, cy1, cy2, cz1, cz2, zB, i1, i2, lz', fx', fy', rx', ry', rz', cx1', cx2', cy1', cy2', cz1', cz2']
def oEqual : List AVal → Option AVal
  | [v, w] => match dB v, dB w with
    | some b, some c => if b.opening = c.opening ∧ b.closing = c.closing ∧ b.entries = c.entries then some (.bool true) else none
    | _, _ => none
  | _ => none
theorem a31 (P : Program) (T : Nat → Option CFn) (hT : T 31 = some c31) (h16 : T 16 = some { c16 with frsh := true, orc := oIn }) (h71 : T 71 = some { c71 with frsh := true, orc := oEntry }) (b : PB) (x y z : AVal) (hx : rowsV x = some (b.opening.map rI)) (hy : rowsV y = some (b.closing.map rI)) (hz : rowsV z = some (b.entries.map rE)) (hl : b.opening.length ≤ 1000 ∧ b.closing.length ≤ 1000 ∧ b.entries.length ≤ 1000) : Answers P T 31 [vB x y z] [] fun v h => frz true h 5 v = some (I (bookE b)) := by
  have fx := fun H d => rowsV_frz hx H d
  have fy := fun H d => rowsV_frz hy H d
  have fz := fun H d => rowsV_frz hz H d
  have rx := fun n d => rowsV_rb hx n d
  have ry := fun n d => rowsV_rb hy n d
  have rz := fun n d => rowsV_rb hz n d
  have hd := dB_vB hx hy hz hl
  have lx := rowsV_len hx
  have ly := rowsV_len hy
  have lz := rowsV_len hz
  rw [List.length_map] at lx ly lz
  obtain ⟨cx1, cx2⟩ := rowsV_cells hx
  obtain ⟨cy1, cy2⟩ := rowsV_cells hy
  obtain ⟨cz1, cz2⟩ := rowsV_cells hz
  simp only [vB] at hd ⊢
  refine answers_of hT (orcF_none rfl) ?_
  simp only [c31]
  refine runs_seq ?_
  refine runs_reg (ops_run (by simp [lop, loud, callA, calleeA, callF_step h16, h16, callF_step h71, h71, fx, fy, fz, rx, ry, rz, hd, lx, ly, lz, -lenA, cx1, cx2, cy1, cy2, cz1, cz2, zB, oIn]; rfl) ?_)
  simp only [AEx.thn, AEx.blk]
  refine runs_seq ?_
  refine runs_reg (ops_run (by simp [lop, loud, callA, calleeA, callF_step h16, h16, callF_step h71, h71, fx, fy, fz, rx, ry, rz, hd, lx, ly, lz, -lenA, cx1, cx2, cy1, cy2, cz1, cz2, zB, oIn]; rfl) ?_)
  simp only [AEx.thn, AEx.blk]
  by_cases g1 : (5 : Int) < (b.opening.length : Int)
  · have he : bookE b = 5 := by unfold bookE; rw [if_pos (by omega)]
    refine runs_seq ?_
    refine runs_seq ?_
    refine runs_reg (ops_run (by simp [lop, loud, callA, calleeA, callF_step h16, h16, callF_step h71, h71, fx, fy, fz, rx, ry, rz, hd, lx, ly, lz, -lenA, cx1, cx2, cy1, cy2, cz1, cz2, zB, oIn, g1]; rfl) ?_)
    simp only [AEx.thn, AEx.blk]
    refine runs_cond (x := true) (by simp) ?_
    refine runs_seq ?_
    refine runs_reg (ops_run (by simp [lop, loud, callA, calleeA, callF_step h16, h16, callF_step h71, h71, fx, fy, fz, rx, ry, rz, hd, lx, ly, lz, -lenA, cx1, cx2, cy1, cy2, cz1, cz2, zB, oIn, g1]; rfl) ?_)
    simp only [AEx.thn, AEx.blk]
    refine runs_ret ?_
    simp [lop, loud, callA, calleeA, callF_step h16, h16, callF_step h71, h71, fx, fy, fz, rx, ry, rz, hd, lx, ly, lz, -lenA, cx1, cx2, cy1, cy2, cz1, cz2, zB, oIn, g1, he]
  · by_cases g2 : (12 : Int) < (b.entries.length : Int)
    · have he : bookE b = 5 := by unfold bookE; rw [if_pos (by omega)]
      refine runs_seq ?_
      refine runs_seq ?_
      refine runs_reg (ops_run (by simp [lop, loud, callA, calleeA, callF_step h16, h16, callF_step h71, h71, fx, fy, fz, rx, ry, rz, hd, lx, ly, lz, -lenA, cx1, cx2, cy1, cy2, cz1, cz2, zB, oIn, g1, g2]; rfl) ?_)
      simp only [AEx.thn, AEx.blk]
      refine runs_cond (x := true) (by simp) ?_
      refine runs_seq ?_
      refine runs_reg (ops_run (by simp [lop, loud, callA, calleeA, callF_step h16, h16, callF_step h71, h71, fx, fy, fz, rx, ry, rz, hd, lx, ly, lz, -lenA, cx1, cx2, cy1, cy2, cz1, cz2, zB, oIn, g1, g2]; rfl) ?_)
      simp only [AEx.thn, AEx.blk]
      refine runs_ret ?_
      simp [lop, loud, callA, calleeA, callF_step h16, h16, callF_step h71, h71, fx, fy, fz, rx, ry, rz, hd, lx, ly, lz, -lenA, cx1, cx2, cy1, cy2, cz1, cz2, zB, oIn, g1, g2, he]
    · have h12 : ¬ (5 < b.opening.length ∨ 12 < b.entries.length) := by omega
      refine runs_seq ?_
      refine runs_seq ?_
      refine runs_reg (ops_run (by simp [lop, loud, callA, calleeA, callF_step h16, h16, callF_step h71, h71, fx, fy, fz, rx, ry, rz, hd, lx, ly, lz, -lenA, cx1, cx2, cy1, cy2, cz1, cz2, zB, oIn, g1, g2]; rfl) ?_)
      simp only [AEx.thn, AEx.blk]
      refine runs_cond (x := false) (by simp) ?_
      refine runs_skip ?_
      simp only [AEx.thn, AEx.blk]
      refine runs_seq ?_
      refine runs_seq ?_
      by_cases h3 : b.opening.length = 0
      · have hb4 : b.opening.length = 0 ∨ b.closing.length ≠ b.opening.length ∨ ¬ (b.opening.all sumOk && b.closing.all sumOk) = true := .inl h3
        have he : bookE b = 4 := by unfold bookE; rw [if_neg h12, if_pos hb4]
        refine runs_reg (ops_run (by simp [lop, loud, callA, calleeA, callF_step h16, h16, callF_step h71, h71, fx, fy, fz, rx, ry, rz, hd, lx, ly, lz, -lenA, cx1, cx2, cy1, cy2, cz1, cz2, zB, oIn, g1, g2, h3]; rfl) ?_)
        simp only [AEx.thn, AEx.blk]
        refine runs_cond (x := true) (by simp) ?_
        refine runs_seq ?_
        refine runs_reg (ops_run (by simp [lop, loud, callA, calleeA, callF_step h16, h16, callF_step h71, h71, fx, fy, fz, rx, ry, rz, hd, lx, ly, lz, -lenA, cx1, cx2, cy1, cy2, cz1, cz2, zB, oIn, g1, g2, h3]; rfl) ?_)
        simp only [AEx.thn, AEx.blk]
        refine runs_ret ?_
        simp [lop, loud, callA, calleeA, callF_step h16, h16, callF_step h71, h71, fx, fy, fz, rx, ry, rz, hd, lx, ly, lz, -lenA, cx1, cx2, cy1, cy2, cz1, cz2, zB, oIn, g1, g2, h3, he]
      · by_cases h4 : (b.closing.length : Int) = (b.opening.length : Int)
        · have h3i : ((b.opening.length : Int) == 0) = false := by simpa using h3
          have h4i : ((b.closing.length : Int) != (b.opening.length : Int)) = false := by simpa using h4
          have h4n : b.closing.length = b.opening.length := by omega
          obtain ⟨tx, rfl⟩ : ∃ t, x = .vl (b.opening.map rI) t := (rowsV_cases hx).resolve_left fun h => h3 (by have := h.2; simp at this; rw [this]; rfl)
          obtain ⟨ty, rfl⟩ : ∃ t, y = .vl (b.closing.map rI) t := (rowsV_cases hy).resolve_left fun h => h3 (by have := h.2; simp at this; rw [this] at h4n; simpa using h4n.symm)
          generalize hA : (b.opening.all sumOk && b.closing.all sumOk) = A
          have he4 : A = false → bookE b = 4 := fun h => by unfold bookE; rw [if_neg h12, if_pos (.inr (.inr (by rw [hA, h]; simp)))]
          refine runs_reg (ops_run (by simp [lop, loud, callA, calleeA, callF_step h16, h16, callF_step h71, h71, fx, fy, fz, rx, ry, rz, hd, lx, ly, lz, -lenA, cx1, cx2, cy1, cy2, cz1, cz2, zB, oIn, g1, g2, h3i, h4i]; rfl) ?_)
          simp only [AEx.thn, AEx.blk]
          refine runs_cond (x := false) (by simp) ?_
          refine runs_skip ?_
          simp only [AEx.thn, AEx.blk]
          refine runs_seq ?_
          refine runs_seq ?_
          refine runs_reg (ops_run (by simp [lop, loud, callA, calleeA, callF_step h16, h16, callF_step h71, h71, fx, fy, fz, rx, ry, rz, hd, lx, ly, lz, -lenA, cx1, cx2, cy1, cy2, cz1, cz2, zB, oIn, g1, g2, h3i, h4i]; rfl) ?_)
          simp only [AEx.thn, AEx.blk]
          refine runs_block ?_
          refine runs_loop_inv (fun m σ => ∃ (k : Nat) (i : Int), i = k ∧ b.opening.length - k = m ∧ k ≤ b.opening.length ∧ ((b.opening.drop k).all sumOk && (b.closing.drop k).all sumOk) = A ∧ σ = ⟨[.any, .ref 0 0 0, .any, I b.opening.length, I i, .any, .any, .any, .any, .any, .any, .any, .any, .any, .any, .any, .any, .any, .any, .any, .any, .any, .any, .any, .any, .any, .any, .any, .any, .any, .any, .any, .any, .any, .any, .any, .any, .any, .any, .any, .any, .any, .any, .any, .any, .any, .any, .any, .any, .any, .any, .any, .any, .any, .any, .any, .any, .any, .any, .any, .any, .any], [some (.row 3 [[.vl (b.opening.map rI) tx, .vl (b.closing.map rI) ty, z]])]⟩) ?_ (b.opening.length - 0) _ ⟨0, 0, rfl, rfl, Nat.zero_le _, hA, by simp⟩
          rintro m σ ⟨k, i, hik, rfl, hkl, hinv, rfl⟩
          refine runs_seq ?_
          refine runs_seq ?_
          refine runs_reg (ops_run (by simp [lop, loud, callA, calleeA, callF_step h16, h16, callF_step h71, h71, fx, fy, fz, rx, ry, rz, hd, lx, ly, lz, -lenA, cx1, cx2, cy1, cy2, cz1, cz2, zB, oIn, g1, g2, h3i, h4i]; rfl) ?_)
          simp only [AEx.thn, AEx.blk]
          refine runs_cond_split (x := decide (i < (b.opening.length : Int))) (by simp) (fun hlt => ?_) (fun hlt => ?_)
          · have hlt := of_decide_eq_true hlt
            have hk0 : k < b.opening.length := by omega
            have hk1 : k < b.closing.length := by omega
            have hi0 : 0 ≤ i := by omega
            have htn : i.toNat = k := by omega
            have hwi : W .i64 (i + 1) = i + 1 := W_small (by omega)
            rw [List.drop_eq_getElem_cons hk0, List.drop_eq_getElem_cons hk1, List.all_cons, List.all_cons] at hinv
            generalize hs : b.opening[k] = s at *
            generalize ht : b.closing[k] = t at *
            have e1 : sumOk s = inI (-1000000000) s 1000000000 := rfl
            have e2 : sumOk t = inI (-1000000000) t 1000000000 := rfl
            rw [e1, e2] at hinv
            generalize hb1 : inI (-1000000000) s 1000000000 = b1 at *
            generalize hb2 : inI (-1000000000) t 1000000000 = b2 at *
            cases b1
            · have he := he4 (by rw [← hinv]; simp)
              refine runs_skip ?_
              simp only [AEx.thn, AEx.blk]
              refine runs_seq ?_
              refine runs_block ?_
              refine runs_seq ?_
              refine runs_reg (ops_run (by simp [lop, loud, callA, calleeA, callF_step h16, h16, callF_step h71, h71, fx, fy, fz, rx, ry, rz, hd, lx, ly, lz, -lenA, cx1, cx2, cy1, cy2, cz1, cz2, zB, oIn, g1, g2, h3i, h4i, hi0, htn, hk0, hk1, hs, ht, hwi, hb1, hb2, rI]; rfl) ?_)
              simp only [AEx.thn, AEx.blk]
              refine runs_cond (x := true) (by simp) ?_
              refine runs_seq ?_
              refine runs_reg (ops_run (by simp [lop, loud, callA, calleeA, callF_step h16, h16, callF_step h71, h71, fx, fy, fz, rx, ry, rz, hd, lx, ly, lz, -lenA, cx1, cx2, cy1, cy2, cz1, cz2, zB, oIn, g1, g2, h3i, h4i, hi0, htn, hk0, hk1, hs, ht, hwi, hb1, hb2, rI]; rfl) ?_)
              simp only [AEx.thn, AEx.blk]
              refine runs_ret ?_
              simp [lop, loud, callA, calleeA, callF_step h16, h16, callF_step h71, h71, fx, fy, fz, rx, ry, rz, hd, lx, ly, lz, -lenA, cx1, cx2, cy1, cy2, cz1, cz2, zB, oIn, g1, g2, h3i, h4i, hi0, htn, hk0, hk1, hs, ht, hwi, hb1, hb2, rI, he]
            · cases b2
              · have he := he4 (by rw [← hinv]; simp)
                refine runs_skip ?_
                simp only [AEx.thn, AEx.blk]
                refine runs_seq ?_
                refine runs_block ?_
                refine runs_seq ?_
                refine runs_reg (ops_run (by simp [lop, loud, callA, calleeA, callF_step h16, h16, callF_step h71, h71, fx, fy, fz, rx, ry, rz, hd, lx, ly, lz, -lenA, cx1, cx2, cy1, cy2, cz1, cz2, zB, oIn, g1, g2, h3i, h4i, hi0, htn, hk0, hk1, hs, ht, hwi, hb1, hb2, rI]; rfl) ?_)
                simp only [AEx.thn, AEx.blk]
                refine runs_cond (x := true) (by simp) ?_
                refine runs_seq ?_
                refine runs_reg (ops_run (by simp [lop, loud, callA, calleeA, callF_step h16, h16, callF_step h71, h71, fx, fy, fz, rx, ry, rz, hd, lx, ly, lz, -lenA, cx1, cx2, cy1, cy2, cz1, cz2, zB, oIn, g1, g2, h3i, h4i, hi0, htn, hk0, hk1, hs, ht, hwi, hb1, hb2, rI]; rfl) ?_)
                simp only [AEx.thn, AEx.blk]
                refine runs_ret ?_
                simp [lop, loud, callA, calleeA, callF_step h16, h16, callF_step h71, h71, fx, fy, fz, rx, ry, rz, hd, lx, ly, lz, -lenA, cx1, cx2, cy1, cy2, cz1, cz2, zB, oIn, g1, g2, h3i, h4i, hi0, htn, hk0, hk1, hs, ht, hwi, hb1, hb2, rI, he]
              · refine runs_skip ?_
                simp only [AEx.thn, AEx.blk]
                refine runs_seq ?_
                refine runs_block ?_
                refine runs_seq ?_
                refine runs_reg (ops_run (by simp [lop, loud, callA, calleeA, callF_step h16, h16, callF_step h71, h71, fx, fy, fz, rx, ry, rz, hd, lx, ly, lz, -lenA, cx1, cx2, cy1, cy2, cz1, cz2, zB, oIn, g1, g2, h3i, h4i, hi0, htn, hk0, hk1, hs, ht, hwi, hb1, hb2, rI]; rfl) ?_)
                simp only [AEx.thn, AEx.blk]
                refine runs_cond (x := false) (by simp) ?_
                refine runs_skip ?_
                simp only [AEx.thn, AEx.blk]
                refine runs_reg (ops_run (by simp [lop, loud, callA, calleeA, callF_step h16, h16, callF_step h71, h71, fx, fy, fz, rx, ry, rz, hd, lx, ly, lz, -lenA, cx1, cx2, cy1, cy2, cz1, cz2, zB, oIn, g1, g2, h3i, h4i, hi0, htn, hk0, hk1, hs, ht, hwi, hb1, hb2, rI]; rfl) ?_)
                simp only [AEx.thn, AEx.blk]
                exact ⟨b.opening.length - (k + 1), by omega, k + 1, i + 1, by omega, rfl, by omega, by simpa using hinv, by simp [trim, rbB_row, rbB_none, lop, loud, callA, calleeA, callF_step h16, h16, callF_step h71, h71, fx, fy, fz, rx, ry, rz, hd, lx, ly, lz, -lenA, cx1, cx2, cy1, cy2, cz1, cz2, zB, oIn, g1, g2, h3i, h4i, hi0, htn, hk0, hk1, hs, ht, hwi, hb1, hb2, rI]⟩
          · have hlt := of_decide_eq_false hlt
            obtain rfl : k = b.opening.length := by omega
            have hA1 : A = true := by rw [← hinv, List.drop_length, List.drop_eq_nil_of_le (by omega)]; rfl
            have hn4 : ¬ (b.opening.length = 0 ∨ b.closing.length ≠ b.opening.length ∨ ¬ (b.opening.all sumOk && b.closing.all sumOk) = true) := fun h => h.elim h3 fun h => h.elim (fun h => h h4n) fun h => h (hA.trans hA1)
            generalize hE : b.entries.all (entryOk b.opening.length) = E
            have he2 : E = false → bookE b = 2 := fun h => by unfold bookE; rw [if_neg h12, if_neg hn4, hE, h]; rfl
            have he0 : E = true → bookE b = 0 := fun h => by unfold bookE; rw [if_neg h12, if_neg hn4, hE, h]; rfl
            refine runs_exit ?_
            simp only [AEx.thn, AEx.blk, if_true, if_false, reduceIte, Nat.reduceEqDiff, Nat.succ_ne_zero, Nat.one_ne_zero, Nat.zero_ne_one]
            refine runs_seq ?_
            refine runs_seq ?_
            refine runs_reg (ops_run (by simp [lop, loud, callA, calleeA, callF_step h16, h16, callF_step h71, h71, fx, fy, fz, rx, ry, rz, hd, lx, ly, lz, -lenA, cx1, cx2, cy1, cy2, cz1, cz2, zB, oIn, g1, g2, h3i, h4i]; rfl) ?_)
            simp only [AEx.thn, AEx.blk]
            refine runs_block ?_
            refine runs_loop_inv (fun m σ => ∃ (j : Nat) (i2 : Int), i2 = j ∧ b.entries.length - j = m ∧ j ≤ b.entries.length ∧ (b.entries.drop j).all (entryOk b.opening.length) = E ∧ σ = ⟨[.any, .ref 0 0 0, .any, I b.opening.length, .any, I i2, .any, .any, .any, .any, .any, .any, .any, .any, .any, .any, .any, .any, .any, .any, .any, .any, .any, .any, .any, .any, .any, .any, .any, .any, .any, .any, .any, .any, .any, .any, .any, .any, .any, .any, .any, .any, .any, .any, .any, .any, .any, .any, .any, .any, .any, .any, .any, .any, .any, .any, .any, .any, .any, .any, .any, .any], [some (.row 3 [[.vl (b.opening.map rI) tx, .vl (b.closing.map rI) ty, z]])]⟩) ?_ (b.entries.length - 0) _ ⟨0, 0, rfl, rfl, Nat.zero_le _, hE, by simp⟩
            rintro m σ ⟨j, i2, hij, rfl, hjl, hinv2, rfl⟩
            refine runs_seq ?_
            refine runs_seq ?_
            refine runs_reg (ops_run (by simp [lop, loud, callA, calleeA, callF_step h16, h16, callF_step h71, h71, fx, fy, fz, rx, ry, rz, hd, lx, ly, lz, -lenA, cx1, cx2, cy1, cy2, cz1, cz2, zB, oIn, g1, g2, h3i, h4i]; rfl) ?_)
            simp only [AEx.thn, AEx.blk]
            refine runs_cond_split (x := decide (i2 < (b.entries.length : Int))) (by simp) (fun hlt2 => ?_) (fun hlt2 => ?_)
            · have hlt2 := of_decide_eq_true hlt2
              have hj0 : j < b.entries.length := by omega
              obtain ⟨tz, rfl⟩ := rowsV_get hz (k := j) (by rw [List.length_map]; omega)
              have hi0 : 0 ≤ i2 := by omega
              have htn : i2.toNat = j := by omega
              have hwi : W .i64 (i2 + 1) = i2 + 1 := W_small (by omega)
              rw [List.drop_eq_getElem_cons hj0, List.all_cons] at hinv2
              generalize hs : b.entries[j] = e at *
              obtain ⟨f, t, a⟩ := e
              have hent : oEntry [.agg [I f, I t, I a], I b.opening.length] = some (.bool (entryOk b.opening.length (f, t, a))) := by simp only [oEntry]; rw [if_pos (by omega)]
              generalize hb1 : entryOk (b.opening.length : Int) (f, t, a) = b1 at *
              cases b1
              · have he := he2 (by rw [← hinv2]; simp)
                refine runs_skip ?_
                simp only [AEx.thn, AEx.blk]
                refine runs_seq ?_
                refine runs_block ?_
                refine runs_seq ?_
                refine runs_reg (ops_run (by simp [lop, loud, callA, calleeA, callF_step h16, h16, callF_step h71, h71, fx, fy, fz, rx, ry, rz, hd, lx, ly, lz, -lenA, cx1, cx2, cy1, cy2, cz1, cz2, zB, oIn, g1, g2, h3i, h4i, hi0, htn, hj0, hs, hwi, hent, rE]; rfl) ?_)
                simp only [AEx.thn, AEx.blk]
                refine runs_cond (x := true) (by simp) ?_
                refine runs_seq ?_
                refine runs_reg (ops_run (by simp [lop, loud, callA, calleeA, callF_step h16, h16, callF_step h71, h71, fx, fy, fz, rx, ry, rz, hd, lx, ly, lz, -lenA, cx1, cx2, cy1, cy2, cz1, cz2, zB, oIn, g1, g2, h3i, h4i, hi0, htn, hj0, hs, hwi, hent, rE]; rfl) ?_)
                simp only [AEx.thn, AEx.blk]
                refine runs_ret ?_
                simp [lop, loud, callA, calleeA, callF_step h16, h16, callF_step h71, h71, fx, fy, fz, rx, ry, rz, hd, lx, ly, lz, -lenA, cx1, cx2, cy1, cy2, cz1, cz2, zB, oIn, g1, g2, h3i, h4i, hi0, htn, hj0, hs, hwi, hent, rE, he]
              · refine runs_skip ?_
                simp only [AEx.thn, AEx.blk]
                refine runs_seq ?_
                refine runs_block ?_
                refine runs_seq ?_
                refine runs_reg (ops_run (by simp [lop, loud, callA, calleeA, callF_step h16, h16, callF_step h71, h71, fx, fy, fz, rx, ry, rz, hd, lx, ly, lz, -lenA, cx1, cx2, cy1, cy2, cz1, cz2, zB, oIn, g1, g2, h3i, h4i, hi0, htn, hj0, hs, hwi, hent, rE]; rfl) ?_)
                simp only [AEx.thn, AEx.blk]
                refine runs_cond (x := false) (by simp) ?_
                refine runs_skip ?_
                simp only [AEx.thn, AEx.blk]
                refine runs_reg (ops_run (by simp [lop, loud, callA, calleeA, callF_step h16, h16, callF_step h71, h71, fx, fy, fz, rx, ry, rz, hd, lx, ly, lz, -lenA, cx1, cx2, cy1, cy2, cz1, cz2, zB, oIn, g1, g2, h3i, h4i, hi0, htn, hj0, hs, hwi, hent, rE]; rfl) ?_)
                simp only [AEx.thn, AEx.blk]
                exact ⟨b.entries.length - (j + 1), by omega, j + 1, i2 + 1, by omega, rfl, by omega, by simpa using hinv2, by simp [trim, rbB_row, rbB_none, lop, loud, callA, calleeA, callF_step h16, h16, callF_step h71, h71, fx, fy, fz, rx, ry, rz, hd, lx, ly, lz, -lenA, cx1, cx2, cy1, cy2, cz1, cz2, zB, oIn, g1, g2, h3i, h4i, hi0, htn, hj0, hs, hwi, hent, rE]⟩
            · have hlt2 := of_decide_eq_false hlt2
              obtain rfl : j = b.entries.length := by omega
              rw [List.drop_length] at hinv2
              have he := he0 hinv2.symm
              refine runs_exit ?_
              simp only [AEx.thn, AEx.blk, if_true, if_false, reduceIte, Nat.reduceEqDiff, Nat.succ_ne_zero, Nat.one_ne_zero, Nat.zero_ne_one]
              refine runs_seq ?_
              refine runs_reg (ops_run (by simp [lop, loud, callA, calleeA, callF_step h16, h16, callF_step h71, h71, fx, fy, fz, rx, ry, rz, hd, lx, ly, lz, -lenA, cx1, cx2, cy1, cy2, cz1, cz2, zB, oIn, g1, g2, h3i, h4i]; rfl) ?_)
              simp only [AEx.thn, AEx.blk]
              refine runs_ret ?_
              simp [lop, loud, callA, calleeA, callF_step h16, h16, callF_step h71, h71, fx, fy, fz, rx, ry, rz, hd, lx, ly, lz, -lenA, cx1, cx2, cy1, cy2, cz1, cz2, zB, oIn, g1, g2, h3i, h4i, he]
        · have hb4 : b.opening.length = 0 ∨ b.closing.length ≠ b.opening.length ∨ ¬ (b.opening.all sumOk && b.closing.all sumOk) = true := .inr (.inl (by omega))
          have he : bookE b = 4 := by unfold bookE; rw [if_neg h12, if_pos hb4]
          have h3i : ((b.opening.length : Int) == 0) = false := by simpa using h3
          have h4i : ((b.closing.length : Int) != (b.opening.length : Int)) = true := by simpa using h4
          refine runs_reg (ops_run (by simp [lop, loud, callA, calleeA, callF_step h16, h16, callF_step h71, h71, fx, fy, fz, rx, ry, rz, hd, lx, ly, lz, -lenA, cx1, cx2, cy1, cy2, cz1, cz2, zB, oIn, g1, g2, h3i, h4i]; rfl) ?_)
          simp only [AEx.thn, AEx.blk]
          refine runs_cond (x := true) (by simp) ?_
          refine runs_seq ?_
          refine runs_reg (ops_run (by simp [lop, loud, callA, calleeA, callF_step h16, h16, callF_step h71, h71, fx, fy, fz, rx, ry, rz, hd, lx, ly, lz, -lenA, cx1, cx2, cy1, cy2, cz1, cz2, zB, oIn, g1, g2, h3i, h4i]; rfl) ?_)
          simp only [AEx.thn, AEx.blk]
          refine runs_ret ?_
          simp [lop, loud, callA, calleeA, callF_step h16, h16, callF_step h71, h71, fx, fy, fz, rx, ry, rz, hd, lx, ly, lz, -lenA, cx1, cx2, cy1, cy2, cz1, cz2, zB, oIn, g1, g2, h3i, h4i, he]
noncomputable def PR_27 : Nat → Option CFn := upd PR2 27 true (oLong)
theorem PR_27_ok : TabOk Try.prog GG PR_27 := tab_add mixed PR2_ok fun args v ho => by
  unfold oLong at ho; split at ho <;> (try simp at ho)
  rename_i v
  split at ho <;> (try simp at ho)
  rename_i b hb
  obtain ⟨x, y, z, rfl, hx, hy, hz⟩ := dBu_eq hb
  try simp at ho
  subst ho
  refine (a27 Try.prog PR2 rfl b x y z hx hy hz).mono fun v h e => ?_
  simpa using e
noncomputable def PR_28 : Nat → Option CFn := upd PR_27 28 true (oCopy)
theorem PR_28_ok : TabOk Try.prog GG PR_28 := tab_add mixed PR_27_ok fun args v ho => by
  unfold oCopy at ho; split at ho <;> (try simp at ho)
  rename_i v
  split at ho <;> (try simp at ho)
  rename_i b hb
  obtain ⟨x, y, z, rfl, hx, hy, hz, hl⟩ := dB_eq hb
  try simp at ho
  subst ho
  exact a28 Try.prog PR_27 rfl b x y z hx hy hz hl
noncomputable def PR_30 : Nat → Option CFn := upd PR_28 30 true (oEqual)
theorem PR_30_ok : TabOk Try.prog GG PR_30 := tab_add mixed PR_28_ok fun args v ho => by
  unfold oEqual at ho; split at ho <;> (try simp at ho)
  rename_i v u
  split at ho <;> (try simp at ho)
  rename_i b c hb hc
  obtain ⟨⟨h1, h2, h3⟩, rfl⟩ := ho
  obtain ⟨x, y, z, rfl, hx, hy, hz, hl⟩ := dB_eq hb
  obtain ⟨x', y', z', rfl, hx', hy', hz', hl'⟩ := dB_eq hc
  rw [← h1] at hx'
  rw [← h2] at hy'
  rw [← h3] at hz'
  exact a30 PR_28 rfl rfl b x y z hx hy hz hl x' y' z' hx' hy' hz'
noncomputable def PR : Nat → Option CFn := upd PR_30 31 true (oBook)
theorem PR_ok : TabOk Try.prog GG PR := tab_add mixed PR_30_ok fun args v ho => by
  unfold oBook at ho; split at ho <;> (try simp at ho)
  rename_i v
  split at ho <;> (try simp at ho)
  rename_i b hb
  obtain ⟨x, y, z, rfl, hx, hy, hz, hl⟩ := dB_eq hb
  try simp at ho
  subst ho
  exact a31 Try.prog PR_30 rfl rfl rfl b x y z hx hy hz hl
end
end Go.Proofs.Ytfnnonoffiljhaa.Tab
