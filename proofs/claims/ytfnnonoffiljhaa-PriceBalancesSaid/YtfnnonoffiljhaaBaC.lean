/- The abstract machine: a table of functions is the program's, function by function. No condition. -/
import Derived.Test.YtfnnonoffiljhaaBaB
import Derived.ProofKit
import Derived.Below
import Derived.LaidMore
set_option linter.unusedSimpArgs false
set_option linter.unusedVariables false
namespace Go.Abs
open Go

/-- Function f of the program is what the table says of it. -/
def FnOk (P : Program) (G : Nat → Option (List AVal)) (f : Nat) (cf : CFn) : Prop :=
  ∃ fn c, P.funcs[f]? = some fn ∧ fn.body = some c ∧ (fn.name == "runtime.NumGoroutine") = false ∧ compC P G c = some (strip cf.body) ∧ fn.ntmps = cf.ntmps ∧ compR P fn.results.toList = some cf.res ∧ ∀ args v, cf.orc args = some v → OrcGood P G cf.frsh f args v

theorem fnOk {P : Program} {G : Nat → Option (List AVal)} {f : Nat} {cf : CFn} {fn : Func} (hf : P.funcs[f]? = some fn) (hb : (match fn.body with | some c => compC P G c | none => none) = some (strip cf.body))
    (hn : (fn.name == "runtime.NumGoroutine") = false) (ht : fn.ntmps = cf.ntmps) (hr : compR P fn.results.toList = some cf.res) (ho : cf.orc = fun _ => none) : FnOk P G f cf := by
  cases h : fn.body with
  | none => rw [h] at hb; simp at hb
  | some c => rw [h] at hb; exact ⟨fn, c, hf, h, hn, hb, ht, hr, fun _ _ h => by rw [ho] at h; simp at h⟩

/-- The same function, with more known beforehand. -/
theorem fnOk_orc {P : Program} {G : Nat → Option (List AVal)} {f : Nat} {cf : CFn} (h : FnOk P G f cf) {fr : Bool} {orc : List AVal → Option AVal} (ho : ∀ args v, orc args = some v → OrcGood P G fr f args v) : FnOk P G f { cf with frsh := fr, orc := orc } :=
  let ⟨fn, c, h1, h2, h3, h4, h5, h6, _⟩ := h
  ⟨fn, c, h1, h2, h3, h4, h5, h6, ho⟩

theorem tabOk_of {P : Program} {G : Nat → Option (List AVal)} {T : Nat → Option CFn} (tbl : List (Option CFn)) (hT : ∀ f, T f = (match nth tbl f with | some (some c) => some c | _ => none)) (h : ∀ f cf, tbl[f]? = some (some cf) → FnOk P G f cf) : TabOk P G T := by
  intro f cf hf
  rw [hT, nth_eq] at hf
  split at hf
  · rename_i c hc
    simp at hf; subst hf
    exact h f c hc
  · simp at hf

def AllOk (P : Program) (G : Nat → Option (List AVal)) : Nat → List (Option CFn) → Prop
  | _, [] => True
  | i, none :: l => AllOk P G (i + 1) l
  | i, some c :: l => FnOk P G i c ∧ AllOk P G (i + 1) l

theorem allOk_get {P : Program} {G : Nat → Option (List AVal)} {cf : CFn} : ∀ (l : List (Option CFn)) (i k : Nat), AllOk P G i l → l[k]? = some (some cf) → FnOk P G (i + k) cf
  | [], _, _, _, h => by simp at h
  | none :: l, i, 0, _, h => by simp at h
  | none :: l, i, k + 1, ha, h => by rw [← Nat.add_assoc, Nat.add_right_comm]; exact allOk_get l (i + 1) k ha (by simpa using h)
  | some c :: l, i, 0, ha, h => by simp at h; subst h; exact ha.1
  | some c :: l, i, k + 1, ha, h => by rw [← Nat.add_assoc, Nat.add_right_comm]; exact allOk_get l (i + 1) k ha.2 (by simpa using h)

theorem tabOk_all {P : Program} {G : Nat → Option (List AVal)} {T : Nat → Option CFn} (tbl : List (Option CFn)) (hT : ∀ f, T f = (match nth tbl f with | some (some c) => some c | _ => none)) (h : AllOk P G 0 tbl) : TabOk P G T :=
  tabOk_of tbl hT fun f cf hf => by have := allOk_get tbl 0 f h hf; rwa [Nat.zero_add] at this

end Go.Abs

namespace Go.Abs
open Go

section
variable {P : Program} {T : Nat → Option CFn} {ex ex' : Option Nat → CC → St → Option (AEx × St)}

abbrev Ext (ex ex' : Option Nat → CC → St → Option (AEx × St)) : Prop := ∀ r c σ x, ex r c σ = some x → ex' r c σ = some x

theorem callF_mono (hx : Ext ex ex') {f : Nat} {args : List AVal} {h : Heap} {x : AVal × Heap} (hc : callF T ex f args h = some x) : callF T ex' f args h = some x := by
  unfold callF at *
  cases hT : T f with
  | none => simp [hT] at hc
  | some fn =>
  simp only [hT, appK_eq] at hc ⊢
  cases ho : orcF fn args h with
  | some v1 => simp only [ho] at hc ⊢; exact hc
  | none =>
  simp only [ho] at hc ⊢
  rw [fL_eq _ (fun _ _ => rfl)] at hc ⊢
  cases h1 : ex none fn.body ⟨args ++ List.replicate (fn.ntmps - args.length) .und, h⟩ with
  | none => simp [h1] at hc
  | some p => rw [h1] at hc; rw [hx _ _ _ _ h1]; exact hc

theorem yieldF_mono (hx : Ext ex ex') {i : Nat} {args : List AVal} {h : Heap} {x : AVal × Heap} (hc : yieldF ex i args h = some x) : yieldF ex' i args h = some x := by
  unfold yieldF at *
  split at hc
  · split at hc
    · rename_i t ps asg bd pd hi hl
      rw [if_pos hl]
      rw [setAllK_eq] at hc ⊢
      cases h1 : ex (some i) asg ⟨setAll t (ps.zip args), h⟩ with
      | none => simp [h1] at hc
      | some p =>
      rw [h1] at hc; rw [hx _ _ _ _ h1]
      obtain ⟨e, σ⟩ := p
      cases e with
      | exit j => exact hc
      | ret => exact hc
      | normal =>
        simp only at hc ⊢
        split at hc
        · rename_i t1 ps1 as1 bd1 pd1 hi1
          rw [setK_eq] at hc ⊢
          cases h2 : ex (some i) bd ⟨σ.t, σ.h.set i (some (.loop t1 ps1 as1 bd1 .busy pd1))⟩ with
          | none => simp [h2] at hc
          | some q => rw [h2] at hc; rw [hx _ _ _ _ h2]; exact hc
        · simp at hc
    · simp at hc
  · simp at hc

theorem loud_mono (hx : Ext ex ex') {t : List AVal} {h : Heap} {o : COp} {x : AVal × Heap} (hc : loud T ex t h o = some x) : loud T ex' t h o = some x := by
  unfold loud callA at *
  cases h1 : lop t h o with
  | some r => rw [h1] at hc; exact hc
  | none =>
    rw [h1] at hc
    simp only at hc ⊢
    cases h2 : calleeA t o with
    | none => rw [h2] at hc; simp at hc
    | some c =>
      rw [h2] at hc
      cases c with
      | fn f args => exact callF_mono hx hc
      | yld i args => exact yieldF_mono hx hc

theorem stepX_mono (hx : Ext ex ex') {o : CO} {σ : St} {x : St} (hc : stepX P T ex o σ = some x) : stepX P T ex' o σ = some x := by
  unfold stepX at *
  split at hc
  · simp at hc
  · exact hc
  · split at hc
    · exact hc
    · exact hc
    · split at hc
      · rename_i v h' hl; rw [loud_mono hx hl]; exact hc
      · simp at hc

theorem runX_mono (hx : Ext ex ex') : ∀ (l : List CO) (σ : St) {x : St}, runX P T ex l σ = some x → runX P T ex' l σ = some x
  | [], _, _, h => h
  | o :: l, σ, x, h => by
    rw [runX_cons] at h ⊢
    split at h
    · rename_i σ1 h1; rw [stepX_mono hx h1]; exact runX_mono hx l σ1 h
    · simp at h

theorem actD_mono (hx : Ext ex ex') {base n j : Nat} {o : CO} {t : List AVal} {h : Heap} {x : AVal × List Nat × List Nat × Heap} (hc : actD P T ex base n j o t h = some x) : actD P T ex' base n j o t h = some x := by
  unfold actD at *
  split at hc
  · simp at hc
  · exact hc
  · split at hc
    · exact hc
    · exact hc
    · split at hc
      · rename_i v h' hl; rw [loud_mono hx hl]; exact hc
      · simp at hc

theorem stepD_mono (hx : Ext ex ex') {base n j : Nat} {o : CO} {D : DSt} {x : DSt} (hc : stepD P T ex base n j o D = some x) : stepD P T ex' base n j o D = some x := by
  rw [stepD_eq] at *
  split at hc
  · rename_i v rd wr h ha; rw [actD_mono hx ha]; exact hc
  · simp at hc

theorem runD_mono (hx : Ext ex ex') {base n : Nat} : ∀ (l : List CO) (j : Nat) (D : DSt) {x : DSt}, runD P T ex base n l j D = some x → runD P T ex' base n l j D = some x
  | [], _, _, _, h => h
  | o :: l, j, D, x, h => by
    have e : ∀ ex, runD P T ex base n (o :: l) j D = match stepD P T ex base n j o D with | some D' => runD P T ex base n l (j + 1) D' | none => none := fun _ => rfl
    rw [e] at h ⊢
    split at h
    · rename_i D1 h1; rw [stepD_mono hx h1]; exact runD_mono hx l (j + 1) D1 h
    · simp at h

theorem exec1_mono (hx : Ext ex ex') {r : Option Nat} {c : CC} {σ : St} {x : AEx × St} (h : exec1 P T ex r c σ = some x) : exec1 P T ex' r c σ = some x := by
  cases c with
  | skip => exact h
  | ret => exact h
  | exit id => exact h
  | reg l =>
    simp only [exec1] at h ⊢
    cases h1 : runX P T ex l σ with
    | none => simp [h1] at h
    | some s => rw [h1] at h; rw [runX_mono hx l σ h1]; exact h
  | drw l =>
    simp only [exec1, appK_eq, fN_eq] at h ⊢
    cases h1 : runD P T ex σ.h.length l.length l 0 ⟨σ.t, σ.h ++ List.replicate l.length none, List.replicate l.length none⟩ with
    | none => simp [h1] at h
    | some s => rw [h1] at h; rw [runD_mono hx l 0 _ h1]; exact h
  | seq a b =>
    simp only [exec1] at h ⊢
    cases h1 : ex r a σ with
    | none => simp [h1] at h
    | some p =>
      rw [h1] at h; rw [hx _ _ _ _ h1]
      obtain ⟨e, s⟩ := p
      cases e with
      | normal => exact hx _ _ _ _ h
      | _ => exact h
  | cond c a b =>
    simp only [exec1] at h ⊢
    split at h
    · exact hx _ _ _ _ h
    · exact hx _ _ _ _ h
    · simp at h
  | block id a =>
    simp only [exec1] at h ⊢
    cases h1 : ex r a σ with
    | none => simp [h1] at h
    | some p => rw [h1] at h; rw [hx _ _ _ _ h1]; exact h
  | loop keep a =>
    simp only [exec1, killK_eq] at h ⊢
    cases h1 : ex r a ⟨kill σ.t keep, σ.h⟩ with
    | none => simp [h1] at h
    | some p =>
      rw [h1] at h; rw [hx _ _ _ _ h1]
      obtain ⟨e, s⟩ := p
      cases e with
      | normal =>
        simp only [killK_eq, fN_eq, trimK_eq] at h ⊢
        exact hx _ _ _ _ h
      | _ => exact h
  | loopG keep gs a =>
    simp only [exec1, killK_eq] at h ⊢
    split at h
    · exact hx _ _ _ _ h
    · simp at h
  | loopN base keep gs a =>
    simp only [exec1] at h ⊢
    cases h1 : ex r a σ with
    | none => simp [h1] at h
    | some p =>
      rw [h1] at h; rw [hx _ _ _ _ h1]
      obtain ⟨e, s⟩ := p
      cases e with
      | normal =>
        simp only [killK_eq] at h ⊢
        split at h
        · exact hx _ _ _ _ h
        · simp at h
      | _ => exact h
  | kil keep a =>
    simp only [exec1] at h ⊢
    cases h1 : ex r a σ with
    | none => simp [h1] at h
    | some p => rw [h1] at h; rw [hx _ _ _ _ h1]; exact h
  | rf g ps asg bd =>
    simp only [exec1] at h ⊢
    split at h
    · simp only [fN_eq, appK_eq] at h ⊢
      split at h
      · rename_i h2 hc
        rw [callF_mono hx hc]
        simp only
        split at h
        · split at h
          · simp at h
          · rename_i hst
            rw [if_neg hst]
            split at h
            · exact h
            · rw [setK_eq] at h ⊢; exact hx _ _ _ _ h
        · simp at h
      · simp at h
    · simp at h

theorem exec_mono1 : ∀ n, Ext (exec P T n) (exec P T (n + 1))
  | 0 => fun _ _ _ _ h => by simp [exec] at h
  | n + 1 => fun _ _ _ _ h => exec1_mono (exec_mono1 n) h

theorem exec_mono {n m : Nat} (h : n ≤ m) : Ext (exec P T n) (exec P T m) := by
  induction m with
  | zero => have : n = 0 := by omega
            subst this; exact fun _ _ _ _ h => h
  | succ m ih =>
    by_cases e : n = m + 1
    · subst e; exact fun _ _ _ _ h => h
    · exact fun r c σ x hx => exec_mono1 m r c σ x (ih (by omega) r c σ x hx)

end
end Go.Abs

namespace Go.Abs
open Go

section
variable (P : Program) (T : Nat → Option CFn)

/-- The code comes to an end that Q takes. -/
def Runs (r : Option Nat) (c : CC) (σ : St) (Q : AEx → St → Prop) : Prop := ∃ n e σ', exec P T n r c σ = some (e, σ') ∧ Q e σ'

/-- The call answers what Q takes. -/
def Answers (f : Nat) (args : List AVal) (h : Heap) (Q : AVal → Heap → Prop) : Prop := ∃ n v h', callF T (exec P T n) f args h = some (v, h') ∧ Q v h'

/-- The operations, in the order of the text. -/
def Ops (l : List CO) (σ : St) (Q : St → Prop) : Prop := ∃ n σ', runX P T (exec P T n) l σ = some σ' ∧ Q σ'

/-- The operations of a drawn region, from the j-th on. -/
def Drw (base n : Nat) (l : List CO) (j : Nat) (D : DSt) (Q : DSt → Prop) : Prop := ∃ m D', runD P T (exec P T m) base n l j D = some D' ∧ Q D'
end

/-- What is behind a part that may end in ways of its own. -/
def AEx.thn (Q : AEx → St → Prop) (K : St → Prop) : AEx → St → Prop
  | .normal, σ => K σ
  | e, σ => Q e σ

def AEx.blk (id : Nat) (Q : AEx → St → Prop) : AEx → St → Prop
  | .exit j, σ => if j = id then Q .normal σ else Q (.exit j) σ
  | e, σ => Q e σ

section
variable {P : Program} {G : Nat → Option (List AVal)} {T : Nat → Option CFn} {r : Option Nat} {a b : CC} {σ : St} {Q Q' : AEx → St → Prop} {h : Heap} {t : List AVal}

theorem exec_succ (n : Nat) : exec P T (n + 1) = exec1 P T (exec P T n) := rfl

theorem Runs.mono {c : CC} (hr : Runs P T r c σ Q) (hq : ∀ e σ, Q e σ → Q' e σ) : Runs P T r c σ Q' := let ⟨n, e, σ', h1, h2⟩ := hr; ⟨n, e, σ', h1, hq _ _ h2⟩
theorem Answers.mono {f : Nat} {args : List AVal} {Q Q' : AVal → Heap → Prop} (hr : Answers P T f args h Q) (hq : ∀ v h, Q v h → Q' v h) : Answers P T f args h Q' := let ⟨n, e, σ', h1, h2⟩ := hr; ⟨n, e, σ', h1, hq _ _ h2⟩

theorem runs_skip (hq : Q .normal σ) : Runs P T r .skip σ Q := ⟨1, _, _, rfl, hq⟩
theorem runs_ret (hq : Q .ret σ) : Runs P T r .ret σ Q := ⟨1, _, _, rfl, hq⟩
theorem runs_exit {id : Nat} (hq : Q (.exit id) σ) : Runs P T r (.exit id) σ Q := ⟨1, _, _, rfl, hq⟩

theorem runs_seq (h : Runs P T r a σ (AEx.thn Q fun σ' => Runs P T r b σ' Q)) : Runs P T r (.seq a b) σ Q := by
  obtain ⟨n, e, σ1, h1, h2⟩ := h
  cases e with
  | normal =>
    obtain ⟨m, e, σ2, h3, h4⟩ := h2
    refine ⟨max n m + 1, e, σ2, ?_, h4⟩
    rw [exec_succ]
    simp only [exec1]
    rw [exec_mono (Nat.le_max_left n m) _ _ _ _ h1]
    exact exec_mono (Nat.le_max_right n m) _ _ _ _ h3
  | exit id =>
    refine ⟨n + 1, _, σ1, ?_, h2⟩
    rw [exec_succ]; simp only [exec1]; rw [h1]
  | ret =>
    refine ⟨n + 1, _, σ1, ?_, h2⟩
    rw [exec_succ]; simp only [exec1]; rw [h1]

theorem runs_cond {c : CV} {x : Bool} (hc : c.ev σ.t = some (.bool x)) (h : Runs P T r (if x then a else b) σ Q) : Runs P T r (.cond c a b) σ Q := by
  obtain ⟨n, e, σ1, h1, h2⟩ := h
  refine ⟨n + 1, e, σ1, ?_, h2⟩
  rw [exec_succ]; simp only [exec1, hc]
  cases x <;> exact h1

theorem runs_cond_split {c : CV} {x : Bool} (hc : c.ev σ.t = some (.bool x)) (ht : x = true → Runs P T r a σ Q) (hf : x = false → Runs P T r b σ Q) : Runs P T r (.cond c a b) σ Q :=
  runs_cond hc (by cases x <;> simp_all)

theorem runs_block {id : Nat} (h : Runs P T r a σ (AEx.blk id Q)) : Runs P T r (.block id a) σ Q := by
  obtain ⟨n, e, σ1, h1, h2⟩ := h
  cases e with
  | normal => exact ⟨n + 1, _, σ1, by rw [exec_succ]; simp only [exec1]; rw [h1], h2⟩
  | ret => exact ⟨n + 1, _, σ1, by rw [exec_succ]; simp only [exec1]; rw [h1], h2⟩
  | exit j =>
    simp only [AEx.blk] at h2
    by_cases e : j = id
    · rw [if_pos e] at h2
      exact ⟨n + 1, .normal, σ1, by rw [exec_succ]; simp only [exec1]; rw [h1]; simp [e], h2⟩
    · rw [if_neg e] at h2
      exact ⟨n + 1, .exit j, σ1, by rw [exec_succ]; simp only [exec1]; rw [h1]; simp [e], h2⟩

theorem kill_kill : ∀ (t : List AVal) (m : Nat), kill (kill t m) m = kill t m
  | [], _ => rfl
  | x :: xs, m => by simp only [kill, kill_kill xs]; split <;> rfl

/-- One round of a loop. -/
theorem runs_loop {keep : Nat} (h : Runs P T r a ⟨kill σ.t keep, σ.h⟩ (AEx.thn Q fun σ' => Runs P T r (.loop keep a) ⟨kill σ'.t keep, trim σ.h.length (kill σ'.t keep) σ'.h⟩ Q)) : Runs P T r (.loop keep a) σ Q := by
  obtain ⟨n, e, σ1, h1, h2⟩ := h
  cases e with
  | normal =>
    obtain ⟨m, e, σ2, h3, h4⟩ := h2
    refine ⟨max n m + 1, e, σ2, ?_, h4⟩
    rw [exec_succ]
    simp only [exec1, killK_eq, fN_eq, trimK_eq]
    rw [exec_mono (Nat.le_max_left n m) _ _ _ _ h1]
    exact exec_mono (Nat.le_max_right n m) _ _ _ _ h3
  | exit id => exact ⟨n + 1, _, σ1, by rw [exec_succ]; simp only [exec1, killK_eq]; rw [h1], h2⟩
  | ret => exact ⟨n + 1, _, σ1, by rw [exec_succ]; simp only [exec1, killK_eq]; rw [h1], h2⟩

/-- A loop with a relation that bears a number, which every round lowers. It is of what a loop keeps alone. -/
theorem runs_loop_inv {keep : Nat} (I : Nat → St → Prop) (step : ∀ k σ, I k σ → Runs P T r a σ (AEx.thn Q fun σ' => ∃ k', k' < k ∧ I k' ⟨kill σ'.t keep, trim σ.h.length (kill σ'.t keep) σ'.h⟩)) :
    ∀ k σ, I k ⟨kill σ.t keep, σ.h⟩ → Runs P T r (.loop keep a) σ Q := by
  intro k
  induction k using Nat.strongRecOn with
  | _ k ih =>
    intro σ hI
    refine runs_loop ((step k _ hI).mono fun e σ' hq => ?_)
    cases e with
    | normal => obtain ⟨k', hk, hI'⟩ := hq; refine ih k' hk _ ?_; rw [kill_kill]; exact hI'
    | _ => exact hq

/-- A loop whose growing slices are gathered, with a relation that bears a number. It is of what a loop keeps alone, gathered. -/
theorem runs_loopN_inv {base keep : Nat} {gs : List GL} (I : Nat → St → Prop) (step : ∀ k σ, I k σ → Runs P T r a σ (AEx.thn Q fun σ' => ∃ k' t h, k' < k ∧ gather base gs (kill σ'.t keep) σ'.h = some (t, h) ∧ I k' ⟨t, h⟩)) :
    ∀ k σ, I k σ → Runs P T r (.loopN base keep gs a) σ Q := by
  intro k
  induction k using Nat.strongRecOn with
  | _ k ih =>
    intro σ hI
    obtain ⟨n, e, σ1, h1, h2⟩ := step k σ hI
    cases e with
    | normal =>
      obtain ⟨k', t, h, hk, hg, hI'⟩ := h2
      obtain ⟨m, e, σ2, h3, h4⟩ := ih k' hk _ hI'
      refine ⟨max n m + 1, e, σ2, ?_, h4⟩
      rw [exec_succ]
      simp only [exec1]
      rw [exec_mono (Nat.le_max_left n m) _ _ _ _ h1]
      simp only [killK_eq, hg]
      exact exec_mono (Nat.le_max_right n m) _ _ _ _ h3
    | exit id => exact ⟨n + 1, _, σ1, by rw [exec_succ]; simp only [exec1]; rw [h1], h2⟩
    | ret => exact ⟨n + 1, _, σ1, by rw [exec_succ]; simp only [exec1]; rw [h1], h2⟩

theorem runs_loopG_inv {keep : Nat} {gs : List GL} (I : Nat → St → Prop) {k : Nat} {t : List AVal} {h : Heap} (hg : gather σ.h.length gs (kill σ.t keep) σ.h = some (t, h)) (h0 : I k ⟨t, h⟩)
    (step : ∀ k σ', I k σ' → Runs P T r a σ' (AEx.thn Q fun σ'' => ∃ k' t h, k' < k ∧ gather σ.h.length gs (kill σ''.t keep) σ''.h = some (t, h) ∧ I k' ⟨t, h⟩)) : Runs P T r (.loopG keep gs a) σ Q := by
  obtain ⟨n, e, σ1, h1, h2⟩ := runs_loopN_inv (base := σ.h.length) (keep := keep) (gs := gs) I step k _ h0
  exact ⟨n + 1, e, σ1, by rw [exec_succ]; simp only [exec1, killK_eq, hg]; exact h1, h2⟩

theorem runs_kil {keep : Nat} (h : Runs P T r a σ (AEx.thn Q fun σ' => Q .normal ⟨kill σ'.t keep, σ'.h⟩)) : Runs P T r (.kil keep a) σ Q := by
  obtain ⟨n, e, σ1, h1, h2⟩ := h
  cases e with
  | normal => exact ⟨n + 1, .normal, ⟨kill σ1.t keep, σ1.h⟩, by rw [exec_succ]; simp only [exec1]; rw [h1]; simp only [killK_eq], h2⟩
  | exit id => exact ⟨n + 1, _, σ1, by rw [exec_succ]; simp only [exec1]; rw [h1], h2⟩
  | ret => exact ⟨n + 1, _, σ1, by rw [exec_succ]; simp only [exec1]; rw [h1], h2⟩

theorem runs_reg {l : List CO} (h : Ops P T l σ (Q .normal)) : Runs P T r (.reg l) σ Q := by
  obtain ⟨n, σ1, h1, h2⟩ := h
  exact ⟨n + 1, _, σ1, by rw [exec_succ]; simp only [exec1]; rw [h1], h2⟩

theorem ops_nil {Q : St → Prop} (hq : Q σ) : Ops P T [] σ Q := ⟨0, _, rfl, hq⟩

theorem ops_cons {o : CO} {l : List CO} {Q : St → Prop} (n : Nat) {σ1 : St} (h : stepX P T (exec P T n) o σ = some σ1) (hl : Ops P T l σ1 Q) : Ops P T (o :: l) σ Q := by
  obtain ⟨m, σ2, h1, h2⟩ := hl
  refine ⟨max n m, σ2, ?_, h2⟩
  rw [runX_cons, stepX_mono (exec_mono (Nat.le_max_left n m)) h]
  exact runX_mono (exec_mono (Nat.le_max_right n m)) l σ1 h1

/-- A call. -/
theorem ops_call {o : CO} {l : List CO} {f : Nat} {args : List AVal} {Q : St → Prop} (hw : wantedA σ.t o.g = some true) (hd : dop P σ.t σ.h o.op = none) (hp : lop σ.t σ.h o.op = none) (hc : calleeA σ.t o.op = some (.fn f args))
    (h : Answers P T f args σ.h fun v h' => Ops P T l ⟨putT σ.t o.dst v, h'⟩ Q) : Ops P T (o :: l) σ Q := by
  obtain ⟨n, v, h', h1, h2⟩ := h
  refine ops_cons n (σ1 := ⟨putT σ.t o.dst v, h'⟩) ?_ h2
  simp only [stepX, hw, hd, loud, hp, callA, hc, h1, putK_eq]

/-- Operations that are no calls, all at once: what they come to is a matter of computing. -/
theorem ops_run {l : List CO} {Q : St → Prop} {σ1 : St} (h : runX P T (fun _ _ _ => none) l σ = some σ1) (hq : Q σ1) : Ops P T l σ Q :=
  ⟨0, σ1, h, hq⟩

theorem ops_append {l m : List CO} {Q : St → Prop} (h : Ops P T l σ fun σ' => Ops P T m σ' Q) : Ops P T (l ++ m) σ Q := by
  obtain ⟨n, σ1, h1, h2⟩ := h
  induction l generalizing σ with
  | nil => simp [runX] at h1; subst h1; exact h2
  | cons o l ih =>
    rw [runX_cons] at h1
    split at h1
    · rename_i σ2 hs; exact ops_cons n hs (ih h1)
    · simp at h1

/-- A function's answer, from its body. -/
theorem answers_of {f : Nat} {cf : CFn} {args : List AVal} {Q : AVal → Heap → Prop} (hT : T f = some cf) (ho : orcF cf args h = none)
    (hb : Runs P T none cf.body ⟨args ++ List.replicate (cf.ntmps - args.length) .und, h⟩ fun e σ => (∀ id, e ≠ .exit id) ∧ ∃ vs, resA σ.t σ.h cf.res = some vs ∧ Q (tupA vs) (trim h.length [tupA vs] σ.h)) : Answers P T f args h Q := by
  obtain ⟨n, e, σ1, h1, h2, vs, h3, h4⟩ := hb
  refine ⟨n, _, _, ?_, h4⟩
  unfold callF
  simp only [hT, ho, appK_eq]
  rw [fL_eq _ (fun _ _ => rfl), h1]
  cases e with
  | exit id => exact absurd rfl (h2 id)
  | normal => simp only [h3, fA_eq, fN_eq, trimK_eq]
  | ret => simp only [h3, fA_eq, fN_eq, trimK_eq]

/-- What is known beforehand. -/
theorem answers_orc {f : Nat} {cf : CFn} {args : List AVal} {v : AVal} {Q : AVal → Heap → Prop} (hT : T f = some cf) (ho : orcF cf args h = some v) (hq : Q v h) : Answers P T f args h Q := by
  refine ⟨0, v, h, ?_, hq⟩
  unfold callF
  simp only [hT, ho, fA_eq]

theorem answers_run {f : Nat} {args : List AVal} {Q : AVal → Heap → Prop} (n : Nat) {v : AVal} {h' : Heap} (hc : callF T (exec P T n) f args h = some (v, h')) (hq : Q v h') : Answers P T f args h Q := ⟨n, v, h', hc, hq⟩

/-- What is answered in the machine is answered by the program. -/
theorem answers_good (hm : P.follows .mixedOrders = true) (hT : TabOk P G T) {f : Nat} {args : List AVal} {Q : AVal → Heap → Prop} (ha : Answers P T f args h Q) : ∃ v h', Q v h' ∧ CallGood P G f args h v h' := by
  obtain ⟨n, v, h', h1, h2⟩ := ha
  exact ⟨v, h', h2, call_sound hm hT n f args h v h' h1⟩

end
end Go.Abs

namespace Go.Abs
open Go

section
variable {P : Program} {G : Nat → Option (List AVal)} {T : Nat → Option CFn} {E E' : Env} {h h' : Heap} {w w' : World}

/-- What the machine answers on an empty heap, with all that it points at. -/
theorem orc_of (hm : P.follows .mixedOrders = true) (hT : TabOk P G T) {f : Nat} {args : List AVal} {fr : Bool} {v : AVal} (ha : Answers P T f args [] fun v' h' => frz fr h' 5 v' = some v) : OrcGood P G fr f args v := by
  obtain ⟨v', h', hv, hg⟩ := answers_good hm hT ha
  intro E w cargs k hD hO hr hl
  refine CallsIn.mono (hg E w cargs k hr hl) ?_
  rintro e w' ⟨u, E', rfl, hle, hr', hu, _, _⟩
  have hO' : ∀ b, E'.O b → w.heap.size ≤ b := fun b hb => Nat.le_of_not_lt fun h => (hle.old b h (hO b)).2.1 hb
  refine ⟨u, fun b => b < w'.heap.size ∧ (w.heap.size ≤ b ∨ (fr = false ∧ E.I b)), rfl, hle.os, hle.tape, hle.output, hle.size, fun b hb => (hle.old b hb (hO b)).1, fun b hb => hb, ?_⟩
  refine frz_ok hr' (fun i b hi => ?_) (fun hf b hb => ?_) 5 hu hv
  · obtain ⟨_, h2, h3, _⟩ := hr'.blk i b hi
    exact ⟨h3, .inl (hO' _ h2)⟩
  · refine ⟨(hr'.imm b hb).1, ?_⟩
    by_cases h : b < w.heap.size
    · exact .inr ⟨hf, (hle.old b h (hO b)).2.2 hb⟩
    · exact .inl (by omega)

end
end Go.Abs

namespace Go.Abs
open Go

abbrev I (n : Int) : AVal := .int .i64 n
abbrev B (b : Bool) : AVal := .bool b

theorem W_small {n : Int} (h : -1000000 ≤ n ∧ n ≤ 1000000) : W .i64 n = n := by
  simp only [W]; rw [if_pos (by omega)]

theorem runX_nil' (P : Program) (T : Nat → Option CFn) (ex : Option Nat → CC → St → Option (AEx × St)) (σ : St) : runX P T ex [] σ = some σ := rfl
theorem runD_nil' (P : Program) (T : Nat → Option CFn) (ex : Option Nat → CC → St → Option (AEx × St)) (base n j : Nat) (D : DSt) : runD P T ex base n [] j D = some D := rfl
theorem runD_cons' (P : Program) (T : Nat → Option CFn) (ex : Option Nat → CC → St → Option (AEx × St)) (base n j : Nat) (o : CO) (l : List CO) (D : DSt) : runD P T ex base n (o :: l) j D = match stepD P T ex base n j o D with
    | some D' => runD P T ex base n l (j + 1) D'
    | none => none := rfl
theorem runs_drw {P : Program} {T : Nat → Option CFn} {r : Option Nat} {l : List CO} {σ : St} {Q : AEx → St → Prop} {D : DSt}
    (h : runD P T (fun _ _ _ => none) σ.h.length l.length l 0 ⟨σ.t, σ.h ++ List.replicate l.length none, List.replicate l.length none⟩ = some D) (hq : Q .normal ⟨D.t, D.h⟩) : Runs P T r (.drw l) σ Q := by
  refine ⟨1, .normal, ⟨D.t, D.h⟩, ?_, hq⟩
  show exec1 P T (fun _ _ _ => none) r (.drw l) σ = _
  simp only [exec1, appK_eq, fN_eq, h]

theorem unary_not (P : Program) (b : Bool) : evalS P (Op.unary .not (.bool b)) = some (.bool !b) := rfl
theorem evalS_pure {α : Type} (P : Program) (a : α) : evalS P (pure a) = some a := rfl
theorem evAll_nil (t : List AVal) : evAll t [] = some [] := rfl
theorem rb_int (n : Nat) (k : IntKind) (m : Int) : rb n 5 (.int k m) = true := rfl
theorem rb_bool (n : Nat) (b : Bool) : rb n 5 (.bool b) = true := rfl
theorem min_if (m n : Int) : (if n < m then n else m) = min m n := by rw [Int.min_def]; split <;> split <;> omega
theorem max_if (m n : Int) : (if m < n then n else m) = max m n := by rw [Int.max_def]; split <;> split <;> omega

theorem rb_agg (n d : Nat) (xs : List AVal) : rb n (d + 1) (.agg xs) = xs.all (rb n d) := rfl
theorem rb_tup (n d : Nat) (xs : List AVal) : rb n (d + 1) (.tup xs) = xs.all (rb n d) := rfl
theorem rb_int' (n d : Nat) (k : IntKind) (m : Int) : rb n (d + 1) (.int k m) = true := rfl
theorem rb_bool' (n d : Nat) (b : Bool) : rb n (d + 1) (.bool b) = true := rfl
theorem rb_vl (n d : Nat) (rs : List (List AVal)) (t : Bool) : rb n (d + 1) (.vl rs t) = true := rfl
theorem rb_pv (n d : Nat) (r : List AVal) (o : Nat) : rb n (d + 1) (.pv r o) = true := rfl
theorem rb_yld (n d i : Nat) : rb n (d + 1) (.yld i) = decide (i < n) := rfl
theorem rb_nilf (n d : Nat) : rb n (d + 1) .nilf = true := rfl
theorem rb_nilp (n d : Nat) : rb n (d + 1) .nilp = true := rfl
theorem rb_nils (n d : Nat) : rb n (d + 1) .nils = true := rfl
theorem rb_any (n d : Nat) : rb n (d + 1) .any = true := rfl
theorem rb_und (n d : Nat) : rb n (d + 1) .und = true := rfl
theorem rb_ref (n d i k o : Nat) : rb n (d + 1) (.ref i k o) = decide (i < n) := rfl
theorem rb_sl (n d i k m : Nat) (t : Bool) : rb n (d + 1) (.sl i k m t) = decide (i < n) := rfl
theorem rb_fn (n d f : Nat) (a b : List AVal) : rb n (d + 1) (.fn f a b) = (a.all (rb n d) && b.all (rb n d)) := rfl

theorem frz_int (nv : Bool) (h : Heap) (d : Nat) (k : IntKind) (n : Int) : frz nv h (d + 1) (.int k n) = some (.int k n) := rfl
theorem frz_bool (nv : Bool) (h : Heap) (d : Nat) (b : Bool) : frz nv h (d + 1) (.bool b) = some (.bool b) := rfl
theorem frz_nils (nv : Bool) (h : Heap) (d : Nat) : frz nv h (d + 1) .nils = some .nils := rfl
theorem frz_nilp (nv : Bool) (h : Heap) (d : Nat) : frz nv h (d + 1) .nilp = some .nilp := rfl
theorem frz_vl (h : Heap) (d : Nat) (rs : List (List AVal)) (t : Bool) : frz false h (d + 1) (.vl rs t) = some (.vl rs t) := rfl
theorem frz_pv (h : Heap) (d : Nat) (r : List AVal) (o : Nat) : frz false h (d + 1) (.pv r o) = some (.pv r o) := rfl
theorem frz_agg (nv : Bool) (h : Heap) (d : Nat) (xs : List AVal) : frz nv h (d + 1) (.agg xs) = match optAll (frz nv h d) xs with
    | some ys => some (.agg ys)
    | none => none := rfl
theorem frz_tup (nv : Bool) (h : Heap) (d : Nat) (xs : List AVal) : frz nv h (d + 1) (.tup xs) = match optAll (frz nv h d) xs with
    | some ys => some (.tup ys)
    | none => none := rfl
theorem frz_fn (nv : Bool) (h : Heap) (d f : Nat) (a b : List AVal) : frz nv h (d + 1) (.fn f a b) = match optAll (frz nv h d) a, optAll (frz nv h d) b with
    | some a, some b => some (.fn f a b)
    | _, _ => none := rfl
theorem frz_ref (nv : Bool) (h : Heap) (d i k o : Nat) : frz nv h (d + 1) (.ref i k o) = match rowAt h i with
    | some (_, rs) => match nth rs k with
      | some r => match optAll (frz nv h d) r with
        | some r => some (.pv r o)
        | none => none
      | none => none
    | none => none := rfl
theorem frz_sl (nv : Bool) (h : Heap) (d i k n : Nat) (t : Bool) : frz nv h (d + 1) (.sl i k n t) = match rowAt h i with
    | some (_, rs) => if k + n ≤ rs.length then match optAll (optAll (frz nv h d)) ((rs.drop k).take n) with
        | some rs => some (.vl rs t)
        | none => none
      else none
    | none => none := rfl

theorem optAll_self {α : Type} {f : α → Option α} : ∀ (xs : List α), (∀ x ∈ xs, f x = some x) → optAll f xs = some xs
  | [], _ => rfl
  | x :: xs, h => by simp [optAll, h x, optAll_self xs fun y hy => h y (by simp [hy])]

/-- A slice whose elements point at nothing. -/
theorem frz_row (nv : Bool) (h : Heap) (d i n e : Nat) (t : Bool) (rs : List (List AVal)) (hi : h[i]? = some (some (.row e rs))) (hn : n = rs.length) (hr : optAll (optAll (frz nv h d)) rs = some rs) : frz nv h (d + 1) (.sl i 0 n t) = some (.vl rs t) := by
  subst hn
  rw [frz_sl]
  simp [rowAt, nth_eq, hi, hr]

/-- Rows of numbers and Booleans. -/
def flat : AVal → Bool
  | .int _ _ => true
  | .bool _ => true
  | _ => false

theorem frz_flat (nv : Bool) (h : Heap) (d : Nat) {v : AVal} (hv : flat v = true) : frz nv h (d + 1) v = some v := by
  cases v <;> simp [flat] at hv <;> rfl

theorem frz_rows (nv : Bool) (h : Heap) (d : Nat) (rs : List (List AVal)) (hr : ∀ r ∈ rs, ∀ x ∈ r, flat x = true) : optAll (optAll (frz nv h (d + 1))) rs = some rs :=
  optAll_self rs fun r h1 => optAll_self r fun x h2 => frz_flat nv h d (hr r h1 x h2)

/-! ### Slices, with or without elements -/

def rowsV : AVal → Option (List (List AVal))
  | .nils => some []
  | .vl rs _ => some rs
  | _ => none

theorem rowsV_vl (rs : List (List AVal)) (t : Bool) : rowsV (.vl rs t) = some rs := rfl
theorem rowsV_nils : rowsV .nils = some [] := rfl

theorem rowsV_len {x : AVal} {rs : List (List AVal)} (h : rowsV x = some rs) : lenA x = some rs.length := by
  cases x <;> simp [rowsV] at h <;> subst h <;> rfl

theorem rowsV_get {x : AVal} {rs : List (List AVal)} (h : rowsV x = some rs) {k : Nat} (hk : k < rs.length) : ∃ t, x = .vl rs t := by
  cases x <;> simp [rowsV] at h
  · subst h; simp at hk
  · subst h; exact ⟨_, rfl⟩

theorem optAll_map {α β : Type} {d : α → Option β} {enc : β → α} (h : ∀ x, d (enc x) = some x) (xs : List β) : optAll d (xs.map enc) = some xs := by
  induction xs with
  | nil => rfl
  | cons x xs ih => simp [optAll, ih, h]

theorem optAll_eq {α β : Type} {d : α → Option β} {enc : β → α} (h : ∀ r x, d r = some x → r = enc x) : ∀ {rs : List α} {xs : List β}, optAll d rs = some xs → rs = xs.map enc
  | [], xs, e => by simp [optAll] at e; subst e; rfl
  | r :: rs, xs, e => by
    simp only [optAll] at e
    split at e <;> simp at e
    rename_i y ys h1 h2
    subst e
    rw [h r y h1, optAll_eq h h2]
    rfl

def dI1 : List AVal → Option Int
  | [.int .i64 n] => some n
  | _ => none
theorem dI1_eq (r : List AVal) (n : Int) (h : dI1 r = some n) : r = [I n] := by
  unfold dI1 at h; split at h <;> simp at h; subst h; rfl
def dI2 : List AVal → Option (Int × Int)
  | [.int .i64 a, .int .i64 b] => some (a, b)
  | _ => none
theorem dI2_eq (r : List AVal) (n : Int × Int) (h : dI2 r = some n) : r = [I n.1, I n.2] := by
  unfold dI2 at h; split at h <;> simp at h; subst h; rfl
def dI3 : List AVal → Option (Int × Int × Int)
  | [.int .i64 a, .int .i64 b, .int .i64 c] => some (a, b, c)
  | _ => none
theorem dI3_eq (r : List AVal) (n : Int × Int × Int) (h : dI3 r = some n) : r = [I n.1, I n.2.1, I n.2.2] := by
  unfold dI3 at h; split at h <;> simp at h; subst h; rfl
def dI5 : List AVal → Option (Int × Int × Int × Int × Int)
  | [.int .i64 a, .int .i64 b, .int .i64 c, .int .i64 d, .int .i64 e] => some (a, b, c, d, e)
  | _ => none
theorem dI5_eq (r : List AVal) (n : Int × Int × Int × Int × Int) (h : dI5 r = some n) : r = [I n.1, I n.2.1, I n.2.2.1, I n.2.2.2.1, I n.2.2.2.2] := by
  unfold dI5 at h; split at h <;> simp at h; subst h; rfl

def isI : AVal → Bool
  | .int .i64 _ => true
  | _ => false

theorem isI_flat {v : AVal} (h : isI v = true) : flat v = true := by
  unfold isI at h; split at h <;> simp at h; rfl

theorem ints1 {r : List AVal} (hl : r.length = 1) (h : ∀ x ∈ r, isI x = true) : ∃ a : Int, r = [I a] := by
  match r, hl, h with
  | [x], _, h =>
    have hx := h x (by simp)
    unfold isI at hx; split at hx <;> simp at hx
    exact ⟨_, rfl⟩
theorem isI_eq {x : AVal} (h : isI x = true) : ∃ a : Int, x = I a := by
  unfold isI at h; split at h <;> simp at h; exact ⟨_, rfl⟩
theorem ints2 {r : List AVal} (hl : r.length = 2) (h : ∀ x ∈ r, isI x = true) : ∃ a b : Int, r = [I a, I b] := by
  match r, hl, h with
  | [x, y], _, h =>
    obtain ⟨a, rfl⟩ := isI_eq (h x (by simp))
    obtain ⟨b, rfl⟩ := isI_eq (h y (by simp))
    exact ⟨a, b, rfl⟩
theorem ints3 {r : List AVal} (hl : r.length = 3) (h : ∀ x ∈ r, isI x = true) : ∃ a b c : Int, r = [I a, I b, I c] := by
  match r, hl, h with
  | [x, y, z], _, h =>
    obtain ⟨a, rfl⟩ := isI_eq (h x (by simp))
    obtain ⟨b, rfl⟩ := isI_eq (h y (by simp))
    obtain ⟨c, rfl⟩ := isI_eq (h z (by simp))
    exact ⟨a, b, c, rfl⟩
theorem ints5 {r : List AVal} (hl : r.length = 5) (h : ∀ x ∈ r, isI x = true) : ∃ a b c d e : Int, r = [I a, I b, I c, I d, I e] := by
  match r, hl, h with
  | [x, y, z, u, v], _, h =>
    obtain ⟨a, rfl⟩ := isI_eq (h x (by simp))
    obtain ⟨b, rfl⟩ := isI_eq (h y (by simp))
    obtain ⟨c, rfl⟩ := isI_eq (h z (by simp))
    obtain ⟨d, rfl⟩ := isI_eq (h u (by simp))
    obtain ⟨e, rfl⟩ := isI_eq (h v (by simp))
    exact ⟨a, b, c, d, e, rfl⟩

theorem allB_row : ∀ (r r' : List AVal), allB (eqA 3) r r' = true → (∀ x ∈ r, isI x = true) → r' = r
  | [], [], _, _ => rfl
  | x :: r, y :: r', h, hr => by
    simp only [allB, Bool.and_eq_true] at h
    obtain ⟨a, rfl⟩ := isI_eq (hr x (by simp))
    have h1 := h.1
    cases y <;> simp [eqA] at h1
    obtain ⟨rfl, rfl⟩ := h1
    rw [allB_row r r' h.2 fun x hx => hr x (by simp [hx])]
  | [], _ :: _, h, _ => by simp [allB] at h
  | _ :: _, [], h, _ => by simp [allB] at h

theorem allB_rows : ∀ (rs rs' : List (List AVal)), allB (allB (eqA 3)) rs rs' = true → (∀ r ∈ rs, ∀ x ∈ r, isI x = true) → rs' = rs
  | [], [], _, _ => rfl
  | x :: r, y :: r', h, hr => by
    simp only [allB, Bool.and_eq_true] at h
    rw [allB_row x y h.1 (hr x (by simp)), allB_rows r r' h.2 fun x hx => hr x (by simp [hx])]
  | [], _ :: _, h, _ => by simp [allB] at h
  | _ :: _, [], h, _ => by simp [allB] at h

theorem allB_self_row : ∀ (r : List AVal), (∀ x ∈ r, isI x = true) → allB (eqA 3) r r = true
  | [], _ => rfl
  | x :: r, h => by
    obtain ⟨a, rfl⟩ := isI_eq (h x (by simp))
    have h1 : eqA 3 (I a) (I a) = true := by simp [eqA]
    simp only [allB, h1, allB_self_row r fun x hx => h x (by simp [hx]), Bool.and_self]

theorem allB_self : ∀ (rs : List (List AVal)), (∀ r ∈ rs, ∀ x ∈ r, isI x = true) → allB (allB (eqA 3)) rs rs = true
  | [], _ => rfl
  | r :: rs, h => by simp only [allB, allB_self_row r (h r (by simp)), allB_self rs fun r hr => h r (by simp [hr]), Bool.and_self]

theorem rowsV_cells {x : AVal} {rs : List (List AVal)} (hx : rowsV x = some rs) : cellsOf x = some [x] ∧ storable x = true := by
  cases x <;> simp [rowsV] at hx <;> exact ⟨rfl, rfl⟩

theorem rowsV_rb {x : AVal} {rs : List (List AVal)} (hx : rowsV x = some rs) (n d : Nat) : rb n (d + 1) x = true := by
  cases x <;> simp [rowsV] at hx <;> rfl

theorem rowsV_cases {x : AVal} {rs : List (List AVal)} (hx : rowsV x = some rs) : (x = .nils ∧ rs = []) ∨ ∃ t, x = .vl rs t := by
  cases x <;> simp [rowsV] at hx
  · exact .inl ⟨rfl, hx⟩
  · exact .inr ⟨_, by rw [hx]⟩

theorem rowsV_frz {x : AVal} {rs : List (List AVal)} (hx : rowsV x = some rs) (h : Heap) (d : Nat) : frz false h (d + 1) x = some x := by
  cases x <;> simp [rowsV] at hx <;> rfl

/-! ### Tables with more known beforehand -/

noncomputable def upd (T : Nat → Option CFn) (f : Nat) (fr : Bool) (orc : List AVal → Option AVal) (g : Nat) : Option CFn :=
  if g = f then (match T f with
    | some c => some { c with frsh := fr, orc := orc }
    | none => none)
  else T g

theorem tab_upd {P : Program} {G : Nat → Option (List AVal)} {T : Nat → Option CFn} (hT : TabOk P G T) {f : Nat} {fr : Bool} {orc : List AVal → Option AVal} (ho : ∀ args v, orc args = some v → OrcGood P G fr f args v) : TabOk P G (upd T f fr orc) := by
  intro g cf hg
  unfold upd at hg
  split at hg
  · rename_i e
    subst e
    split at hg <;> simp at hg
    rename_i c hc
    subst hg
    obtain ⟨fn, b, h1, h2, h3, h4, h5, h6, _⟩ := hT g c hc
    exact ⟨fn, b, h1, h2, h3, h4, h5, h6, ho⟩
  · exact hT g cf hg

/-- A function that is shown to answer so. -/
theorem tab_add {P : Program} {G : Nat → Option (List AVal)} {T : Nat → Option CFn} (hm : P.follows .mixedOrders = true) (hT : TabOk P G T) {f : Nat} {fr : Bool} {orc : List AVal → Option AVal}
    (ho : ∀ args v, orc args = some v → Answers P T f args [] fun v' h' => frz fr h' 5 v' = some v) : TabOk P G (upd T f fr orc) :=
  tab_upd hT fun args v h => orc_of hm hT (ho args v h)

/-- What is known beforehand of a function of a table. -/
noncomputable def known (T : Nat → Option CFn) (f : Nat) (args : List AVal) : Option AVal :=
  match T f with
  | some c => orcF c args []
  | none => none

theorem orcF_none {cf : CFn} {args : List AVal} {h : Heap} (ho : cf.orc = fun _ => none) : orcF cf args h = none := by
  unfold orcF; rw [ho]; split <;> rfl

theorem callF_orc {T : Nat → Option CFn} {ex : Option Nat → CC → St → Option (AEx × St)} {f : Nat} {cf : CFn} {args : List AVal} {h : Heap} {v : AVal} (hT : T f = some cf) (ho : orcF cf args h = some v) : callF T ex f args h = some (v, h) := by
  unfold callF
  simp only [hT, ho, fA_eq]

/-- A call that is not known beforehand. -/
noncomputable def callB (T : Nat → Option CFn) (ex : Option Nat → CC → St → Option (AEx × St)) (f : Nat) (args : List AVal) (h : Heap) : Option (AVal × Heap) := callF T ex f args h

theorem callF_step {T : Nat → Option CFn} {ex : Option Nat → CC → St → Option (AEx × St)} {f : Nat} {cf : CFn} (hT : T f = some cf) (args : List AVal) (h : Heap) : callF T ex f args h = match orcF cf args h with
    | some v => some (v, h)
    | none => callB T ex f args h := by
  cases ho : orcF cf args h with
  | none => rfl
  | some v => exact callF_orc hT ho

theorem callF_known {T : Nat → Option CFn} {ex : Option Nat → CC → St → Option (AEx × St)} {f : Nat} {args : List AVal} {v : AVal} (hk : known T f args = some v) : callF T ex f args [] = some (v, []) := by
  unfold known at hk
  split at hk
  · rename_i c hc; exact callF_orc hc hk
  · simp at hk

/-- A call of what is known beforehand. -/
theorem callA_orc {T : Nat → Option CFn} {ex : Option Nat → CC → St → Option (AEx × St)} {t : List AVal} {h : Heap} {c : CV} {as : List CV} {f : Nat} {fs cp xs : List AVal} {cf : CFn} {v : AVal}
    (hc : c.ev t = some (.fn f fs cp)) (ha : evAll t as = some xs) (hT : T f = some cf) (ho : orcF cf (fs ++ xs ++ cp) h = some v) : callA T ex t h (.call c as) = some (v, h) := by
  unfold callA calleeA
  simp only [hc, ha, callF_orc hT ho]

/-- The elements of a slice, as a function receives them. -/
def elt : List AVal → AVal
  | [x] => x
  | r => .agg r

/-- The place of the first element of which a function says 'true'; -1 if there is none. -/
def idxA (q : List AVal → Option AVal) : Nat → List (List AVal) → Option Int
  | _, [] => some (-1)
  | k, r :: rs => match q r with
    | some (.bool true) => some k
    | some (.bool false) => idxA q (k + 1) rs
    | _ => none

theorem idxA_some {q : List AVal → Option AVal} {p : List AVal → Bool} : ∀ (rs : List (List AVal)) (k : Nat), (∀ r ∈ rs, q r = some (.bool (p r))) → idxA q k rs = some (match rs.findIdx? p with | some i => ((k + i : Nat) : Int) | none => -1)
  | [], k, _ => rfl
  | r :: rs, k, h => by
    simp only [idxA, h r (by simp), List.findIdx?_cons]
    cases hp : p r with
    | true => simp
    | false =>
      rw [idxA_some rs (k + 1) fun r hr => h r (by simp [hr])]
      cases hf : rs.findIdx? p with
      | none => simp
      | some i => simp only [Option.map_some, Bool.false_eq_true, if_false]; rw [show k + 1 + i = k + (i + 1) by omega]

theorem idxA_any {q : List AVal → Option AVal} {p : List AVal → Bool} (rs : List (List AVal)) (h : ∀ r ∈ rs, q r = some (.bool (p r))) : ∃ i, idxA q 0 rs = some i ∧ decide (0 ≤ i) = rs.any p := by
  refine ⟨_, idxA_some rs 0 h, ?_⟩
  cases hf : rs.findIdx? p with
  | none =>
    rw [List.findIdx?_eq_none_iff] at hf
    have : rs.any p = false := by rw [List.any_eq_false]; exact fun x hx => by simp [hf x hx]
    rw [this]; rfl
  | some i =>
    have h1 : (rs.findIdx? p).isSome = true := by simp [hf]
    rw [List.findIdx?_isSome] at h1
    rw [h1]
    simp only [Nat.zero_add, decide_eq_true_eq]
    omega

/-- ContainsFunc, where what is known beforehand of the function decides. -/
noncomputable def oCF (T : Nat → Option CFn) (s : Nat) : List AVal → Option AVal
  | [x, .fn g a b] => match rowsV x with
    | some rs => if rs.length ≤ 1000 ∧ rs.all (fun r => r.length == s && r.all isI) = true then (match idxA (fun r => known T g (a ++ [elt r] ++ b)) 0 rs with
      | some i => some (.bool (decide (0 ≤ i)))
      | none => none) else none
    | none => none
  | _ => none

theorem oCF_any {T : Nat → Option CFn} {s : Nat} {x : AVal} {g : Nat} {a b : List AVal} {rs : List (List AVal)} {p : List AVal → Bool} (hx : rowsV x = some rs) (hl : rs.length ≤ 1000) (hr : rs.all (fun r => r.length == s && r.all isI) = true)
    (h : ∀ r ∈ rs, known T g (a ++ [elt r] ++ b) = some (.bool (p r))) : oCF T s [x, .fn g a b] = some (.bool (rs.any p)) := by
  obtain ⟨i, h1, h2⟩ := idxA_any rs h
  simp only [oCF, hx, h1, h2, hl, hr, and_self, if_true]

/-! ### Heaps of callers -/

/-- Every block points below the heap's end alone. -/
def Shut (h : Heap) : Prop := h.all (rbB h.length) = true

theorem shut_nil : Shut [] := rfl

theorem trim_app (vs : List AVal) (h g : Heap) (hv : vs.all (rb h.length 5) = true) (hh : Shut h) : trim h.length vs (h ++ g) = h := by
  unfold trim
  rw [List.take_left' rfl, hv]
  simp only [Shut] at hh
  rw [hh]
  rfl

theorem trim_nil (vs : List AVal) (h : Heap) (hv : vs.all (rb 0 5) = true) : trim 0 vs h = [] := by simp [trim, hv]
theorem trim_emp (n : Nat) (vs : List AVal) : trim n vs [] = [] := by simp [trim]
theorem trim_len {n : Nat} (vs : List AVal) {h : Heap} (hn : h.length = n) : trim n vs h = h := by subst hn; simp [trim]
theorem trim_self (vs : List AVal) (h : Heap) : trim h.length vs h = h := by simp [trim]

theorem get_app (h g : Heap) (k : Nat) : (h ++ g)[h.length + k]? = g[k]? := by
  rw [List.getElem?_append_right (by omega)]; congr 1; omega
theorem get_app0 (h g : Heap) : (h ++ g)[h.length]? = g[0]? := get_app h g 0
theorem get_old (h g : Heap) {k : Nat} (hk : k < h.length) : (h ++ g)[k]? = h[k]? := List.getElem?_append_left hk

end Go.Abs

namespace Go.Abs
open Go

theorem evalS_bind (P : Program) {α β : Type} (s : Sem α) (f : α → Sem β) {a : α} (h : evalS P s = some a) : evalS P (s >>= f) = evalS P (f a) := by
  induction s with
  | pure b => simp only [evalS, Option.some.injEq] at h; subst h; rfl
  | program k ih => exact ih P h
  | mark m k ih => exact ih h
  | _ => simp [evalS] at h

theorem evalS_bind' (P : Program) {α β : Type} (s : Sem α) (f : α → Sem β) : evalS P (s >>= f) = (evalS P s).bind fun a => evalS P (f a) := by
  induction s with
  | pure b => rfl
  | program k ih => exact ih P
  | mark m k ih => exact ih
  | _ => rfl

theorem evalS_program (P : Program) : evalS P program = some P := rfl

theorem evalS_underlying {P : Program} {t : TypeId} {u : TypeDesc} (h : P.underlying t = some u) : evalS P (underlying t) = some u := by
  unfold underlying
  rw [evalS_bind P _ _ (evalS_program P)]
  simp only [h]
  rfl

def eqFs (P : Program) (ih : TypeId → Value → Value → Option Bool) (xs ys : Array Value) : List Field → Option Bool
  | [] => some true
  | f :: fs => if f.name = "_" then eqFs P ih xs ys fs else match evalS P (part f.type xs f.offset), evalS P (part f.type ys f.offset) with
    | some a, some b => match ih f.type a b, eqFs P ih xs ys fs with
      | some r, some q => some (r && q)
      | _, _ => none
    | _, _ => none

/-- Are two values of one type alike? -/
def eqF (P : Program) : Nat → TypeId → Value → Value → Option Bool
  | 0, _, _, _ => none
  | d + 1, t, x, y => match P.underlying t, x, y with
    | some (.int _), .int k a, .int k' b => if k = k' then some (a == b) else none
    | some .bool, .bool a, .bool b => some (a == b)
    | some (.struct fs), .agg xs, .agg ys => if P.stoodInHeld t = true then none else eqFs P (eqF P d) xs ys fs.toList
    | _, _, _ => none

theorem eqF_ok (P : Program) : ∀ (n : Nat) (t : TypeId) (x y : Value) (b : Bool), eqF P n t x y = some b → ∀ d, n ≤ d → evalS P (Op.equalIn d t x y) = some b
  | 0, _, _, _, _, h => by simp [eqF] at h
  | n + 1, t, x, y, b, h => by
    intro d hd
    obtain ⟨d, rfl⟩ : ∃ d', d = d' + 1 := ⟨d - 1, by omega⟩
    simp only [eqF] at h
    split at h
    · rename_i hu
      split at h <;> simp at h
      rename_i hk
      simp only [Op.equalIn]
      rw [evalS_bind P _ _ (evalS_underlying hu)]
      simp only [hk, if_true]
      subst h; rfl
    · rename_i hu
      simp at h
      simp only [Op.equalIn]
      rw [evalS_bind P _ _ (evalS_underlying hu)]
      subst h; rfl
    · rename_i fs xs ys hu
      split at h
      · simp at h
      · rename_i hst
        simp only [Op.equalIn]
        rw [evalS_bind P _ _ (evalS_underlying hu)]
        simp only
        rw [evalS_bind P _ _ (evalS_program P)]
        simp only [hst, if_false, Bool.false_eq_true]
        rw [← Array.forIn_toList]
        clear hu
        have hd' : n ≤ d := by omega
        generalize fs.toList = l at h
        induction l generalizing b with
        | nil => simp [eqFs] at h; subst h; rfl
        | cons f l ih =>
          simp only [eqFs] at h
          simp only [List.forIn_cons]
          split at h
          · rename_i hn
            simp only [hn, ne_eq, not_true, if_false, Bool.false_eq_true]
            exact ih b h
          · rename_i hn
            split at h
            · rename_i a1 b1 hp1 hp2
              split at h
              · rename_i r q hr hq
                simp at h
                have h3 := eqF_ok P n f.type a1 b1 r hr d hd'
                simp only [hn, ne_eq, not_false_eq_true, if_true]
                cases r with
                | false =>
                  simp at h; subst h
                  simp [evalS_bind', hp1, hp2, h3, evalS_pure]
                | true =>
                  simp at h; subst h
                  have := ih q hq
                  simp only [ne_eq] at this
                  rw [evalS_bind'] at this ⊢
                  simp only [evalS_bind', hp1, hp2, h3, evalS_pure, Option.bind_some, Bool.not_true, Bool.false_eq_true, if_false]
                  exact this
              · simp at h
            · simp at h
    · simp at h

/-- Two structs of numbers, compared. -/
theorem evalS_eqv {P : Program} {ne : Bool} {t : TypeId} {x y : Operand} {xs ys : Array Value} {b : Bool} (hg : P.eqGuardType P.depth t = false) (he : eqF P 5 t (.agg xs) (.agg ys) = some b) :
    evalS P (do eqGuard (if ne then .neq else .eql) t x y (.agg xs) (.agg ys); binOp (if ne then .neq else .eql) t (.agg xs) (.agg ys)) = some (.bool (b != ne)) := by
  have h1 := eqF_ok P 5 t _ _ b he Op.maxDepth (by decide)
  cases ne
  · have hq : evalS P (eqGuard .eql t x y (.agg xs) (.agg ys)) = some () := by
      simp [eqGuard, evalS_bind', evalS_program, hg, evalS_pure]
    simp only [Bool.false_eq_true, if_false]
    rw [evalS_bind P _ _ hq]
    simp only [binOp, Op.equal]
    rw [evalS_bind P _ _ h1]
    simp [evalS_pure]
  · have hq : evalS P (eqGuard .neq t x y (.agg xs) (.agg ys)) = some () := by
      simp [eqGuard, evalS_bind', evalS_program, hg, evalS_pure]
    simp only [if_true]
    rw [evalS_bind P _ _ hq]
    simp only [binOp, Op.equal]
    rw [evalS_bind P _ _ h1]
    simp [evalS_pure]

end Go.Abs

namespace Go.Abs
open Go

theorem set_app {A l : Heap} {n k : Nat} {x : Option Blk} (hn : A.length = n) : (A ++ l).set (n + k) x = A ++ l.set k x := by
  subst hn
  rw [List.set_append_right _ _ (by omega)]
  congr 1
  congr 1
  omega
theorem set_app0 {A l : Heap} {n : Nat} {x : Option Blk} (hn : A.length = n) : (A ++ l).set n x = A ++ l.set 0 x := set_app (k := 0) hn
theorem get_appK {A l : Heap} {n k : Nat} (hn : A.length = n) : (A ++ l)[n + k]? = l[k]? := by subst hn; exact get_app A l k
theorem get_appK0 {A l : Heap} {n : Nat} (hn : A.length = n) : (A ++ l)[n]? = l[0]? := get_appK (k := 0) hn

theorem get_of {H : Heap} {i : Nat} {b : Option Blk} (h : H[i]? = some b) (hl : i < H.length) : H[i] = b := by
  rw [List.getElem?_eq_getElem hl] at h; simpa using h

/-- Every block is of integers. -/
def FlatB : Option Blk → Prop
  | none => True
  | some (.row _ rs) => ∀ r ∈ rs, ∀ x ∈ r, isI x = true
  | _ => False
def FlatH (h : Heap) : Prop := ∀ b ∈ h, FlatB b

theorem FlatB.rb {b : Option Blk} (h : FlatB b) (n : Nat) : rbB n b = true := by
  unfold FlatB at h
  split at h
  · rfl
  · simp only [rbB, List.all_eq_true]
    intro r hr x hx
    obtain ⟨a, rfl⟩ := isI_eq (h r hr x hx)
    rfl
  · exact h.elim

theorem FlatH.app {h g : Heap} (hh : FlatH h) (hg : FlatH g) : FlatH (h ++ g) := fun b hb => (List.mem_append.1 hb).elim (hh b) (hg b)
theorem FlatH.set {h : Heap} (hh : FlatH h) {i : Nat} {b : Option Blk} (hb : FlatB b) : FlatH (h.set i b) := fun c hc => by
  rcases List.mem_or_eq_of_mem_set hc with h1 | rfl
  · exact hh c h1
  · exact hb
theorem flatH_none (n : Nat) : FlatH (List.replicate n none) := fun b hb => by rw [List.eq_of_mem_replicate hb]; trivial

theorem trim_flat {A l : Heap} {n : Nat} {vs : List AVal} (hn : A.length = n) (hA : FlatH A) (hv : vs.all (rb n 5) = true) : trim n vs (A ++ l) = A := by
  subst hn
  refine trim_app' _ _ _ hv ?_
  simp only [List.all_eq_true]
  exact fun b hb => (hA b hb).rb _
where trim_app' (vs : List AVal) (h g : Heap) (hv : vs.all (rb h.length 5) = true) (hh : h.all (rbB h.length) = true) : trim h.length vs (h ++ g) = h := trim_app vs h g hv hh

theorem trim_or (vs : List AVal) (pre g : Heap) : ∃ g', trim pre.length vs (pre ++ g) = pre ++ g' := by
  unfold trim
  split
  · exact ⟨[], by simp⟩
  · exact ⟨g, rfl⟩

/-- Something points at what is new: all is kept. -/
theorem trim_keep {n : Nat} {vs : List AVal} {h : Heap} (hv : vs.all (rb n 5) = false) : trim n vs h = h := by simp [trim, hv]

end Go.Abs

namespace Go.Abs
open Go

section
variable {P : Program} {T : Nat → Option CFn} {r : Option Nat} {σ : St}

theorem callF_ext {f : Nat} {args : List AVal} {h : Heap} {x : AVal × Heap} {n m : Nat} (hn : n ≤ m) (hc : callF T (exec P T n) f args h = some x) : callF T (exec P T m) f args h = some x :=
  callF_mono (exec_mono hn) hc

theorem runs_rf {g : CV} {ps : List Nat} {asg bd : CC} {f : Nat} {a b : List AVal} {Q : AEx → St → Prop} (hin : inLoop r σ.h = true) (hev : g.ev σ.t = some (.fn f a b))
    (h : Answers P T f (a ++ [.yld σ.h.length] ++ b) (σ.h ++ [some (.loop σ.t ps asg bd .ready none)]) fun _ h2 => ∃ t' ps' asg' bd' st pd, h2[σ.h.length]? = some (some (.loop t' ps' asg' bd' st pd)) ∧ st ≠ .busy ∧
      (match pd with
      | none => Q .normal ⟨σ.t, h2.set σ.h.length none⟩
      | some c => Runs P T r c ⟨σ.t, h2.set σ.h.length none⟩ Q)) : Runs P T r (.rf g ps asg bd) σ Q := by
  obtain ⟨n, v, h2, hc, t', ps', asg', bd', st, pd, hl, hst, hq⟩ := h
  cases pd with
  | none =>
    refine ⟨n + 1, .normal, ⟨σ.t, h2.set σ.h.length none⟩, ?_, hq⟩
    rw [exec_succ]
    simp only [exec1, hin, hev, fN_eq, appK_eq, hc, nth_eq, hl, hst, if_false, setK_eq]
  | some c =>
    obtain ⟨m, e, σ', hm, hq⟩ := hq
    refine ⟨max n m + 1, e, σ', ?_, hq⟩
    rw [exec_succ]
    simp only [exec1, hin, hev, fN_eq, appK_eq, callF_ext (Nat.le_max_left n m) hc, nth_eq, hl, hst, if_false, setK_eq]
    exact exec_mono (Nat.le_max_right n m) _ _ _ _ hm

theorem ops_yield {o : CO} {l : List CO} {i : Nat} {args t : List AVal} {ps : List Nat} {asg bd : CC} {pd : Option CC} {Q : St → Prop} (hw : wantedA σ.t o.g = some true) (hd : dop P σ.t σ.h o.op = none) (hp : lop σ.t σ.h o.op = none)
    (hc : calleeA σ.t o.op = some (.yld i args)) (hi : σ.h[i]? = some (some (.loop t ps asg bd .ready pd))) (hn : args.length = ps.length)
    (h : Runs P T (some i) asg ⟨setAll t (ps.zip args), σ.h⟩ fun e1 σ1 => e1 = .normal ∧ ∃ t1 ps1 as1 bd1 pd1, σ1.h[i]? = some (some (.loop t1 ps1 as1 bd1 .ready pd1)) ∧
      Runs P T (some i) bd ⟨σ1.t, σ1.h.set i (some (.loop t1 ps1 as1 bd1 .busy pd1))⟩ fun e2 σ2 => ∃ t2 ps2 as2 bd2 st2 pd2, σ2.h[i]? = some (some (.loop t2 ps2 as2 bd2 st2 pd2)) ∧
        (match e2 with
        | .normal => Ops P T l ⟨putT σ.t o.dst (.bool true), trim σ.h.length [] (σ2.h.set i (some (.loop t2 ps2 as2 bd2 .ready none)))⟩ Q
        | .ret => Ops P T l ⟨putT σ.t o.dst (.bool false), σ2.h.set i (some (.loop t2 ps2 as2 bd2 .done (some .ret)))⟩ Q
        | .exit id => Ops P T l ⟨putT σ.t o.dst (.bool false), σ2.h.set i (some (.loop t2 ps2 as2 bd2 .done (some (.exit id))))⟩ Q)) : Ops P T (o :: l) σ Q := by
  obtain ⟨n1, e1, σ1, h1, rfl, t1, ps1, as1, bd1, pd1, hi1, n2, e2, σ2, h2, t2, ps2, as2, bd2, st2, pd2, hi2, hq⟩ := h
  have key : ∀ v h', yieldF (exec P T (max n1 n2)) i args σ.h = some (v, h') → Ops P T l ⟨putT σ.t o.dst v, h'⟩ Q → Ops P T (o :: l) σ Q := by
    intro v h' hy hq
    refine ops_cons (max n1 n2) (σ1 := ⟨putT σ.t o.dst v, h'⟩) ?_ hq
    simp only [stepX, hw, hd, loud, hp, callA, hc, hy, putK_eq]
  have e1 := exec_mono (P := P) (T := T) (Nat.le_max_left n1 n2) _ _ _ _ h1
  have e2' := exec_mono (P := P) (T := T) (Nat.le_max_right n1 n2) _ _ _ _ h2
  cases e2 with
  | normal => exact key _ _ (by unfold yieldF; simp only [nth_eq, hi, hn, if_true, setAllK_eq, e1, hi1, setK_eq, e2', hi2, fN_eq, trimK_eq]) hq
  | ret => exact key _ _ (by unfold yieldF; simp only [nth_eq, hi, hn, if_true, setAllK_eq, e1, hi1, setK_eq, e2', hi2]) hq
  | exit id => exact key _ _ (by unfold yieldF; simp only [nth_eq, hi, hn, if_true, setAllK_eq, e1, hi1, setK_eq, e2', hi2]) hq

end
end Go.Abs

namespace Go.Abs
open Go

/-- The answer, with all that it points at, is R. -/
noncomputable def isR (R : AVal) (x : Option (AVal × Heap)) : Bool := match x with
  | some (v, h) => match frz true h 5 v with
    | some r => eqA 12 r R
    | none => false
  | none => false

theorem isR_answers {P : Program} {T : Nat → Option CFn} {f n : Nat} {A : List AVal} {R : AVal} (h : isR R (callF T (exec P T n) f A []) = true) : Answers P T f A [] fun v' h' => frz true h' 5 v' = some R := by
  cases hc : callF T (exec P T n) f A [] with
  | none => rw [hc] at h; simp [isR] at h
  | some p =>
    obtain ⟨v, g⟩ := p
    rw [hc] at h
    unfold isR at h
    simp only at h
    split at h
    · rename_i r hr
      exact ⟨n, v, g, hc, by show frz true g 5 v = some R; rw [hr, eqA_eq 12 r R h]⟩
    · simp at h

/-- What is known of some arguments, written out. -/
def oAt : List (List AVal × AVal) → List AVal → Option AVal
  | [], _ => none
  | (A, R) :: L, args => if allB (eqA 12) args A then some R else oAt L args

theorem allB_eqA : ∀ {xs ys : List AVal} {n : Nat}, allB (eqA n) xs ys = true → xs = ys
  | [], [], _, _ => rfl
  | x :: xs, y :: ys, n, h => by
    simp only [allB, Bool.and_eq_true] at h
    rw [eqA_eq n x y h.1, allB_eqA h.2]
  | [], _ :: _, _, h => by simp [allB] at h
  | _ :: _, [], _, h => by simp [allB] at h

theorem oAt_ok {P : Program} {T : Nat → Option CFn} {f : Nat} : ∀ {L : List (List AVal × AVal)}, (∀ p ∈ L, Answers P T f p.1 [] fun v' h' => frz true h' 5 v' = some p.2) → ∀ args v, oAt L args = some v → Answers P T f args [] fun v' h' => frz true h' 5 v' = some v
  | [], _, args, v, h => by simp [oAt] at h
  | (A, R) :: L, hL, args, v, h => by
    simp only [oAt] at h
    split at h
    · rename_i he
      simp at h
      subst h
      rw [allB_eqA he]
      exact hL (A, R) (by simp)
    · exact oAt_ok (fun p hp => hL p (by simp [hp])) args v h

end Go.Abs

namespace Go.Abs
open Go
theorem st_any : storable .any = false := rfl
theorem st_und : storable .und = false := rfl
theorem st_agg (a : List AVal) : storable (.agg a) = false := rfl
theorem st_tup (a : List AVal) : storable (.tup a) = false := rfl
theorem st_bool (b : Bool) : storable (.bool b) = true := rfl
theorem st_int (k : IntKind) (n : Int) : storable (.int k n) = true := rfl
theorem st_nilp : storable .nilp = true := rfl
theorem st_ref (i k o : Nat) : storable (.ref i k o) = true := rfl
theorem st_pv (r : List AVal) (o : Nat) : storable (.pv r o) = true := rfl
theorem st_nils : storable .nils = true := rfl
theorem st_sl (i k n : Nat) (t : Bool) : storable (.sl i k n t) = true := rfl
theorem st_vl (rs : List (List AVal)) (t : Bool) : storable (.vl rs t) = true := rfl
theorem st_nilm : storable .nilm = true := rfl
theorem st_mp (i : Nat) : storable (.mp i) = true := rfl
theorem st_fn (f : Nat) (a b : List AVal) : storable (.fn f a b) = true := rfl
theorem st_nilf : storable .nilf = true := rfl
theorem st_yld (i : Nat) : storable (.yld i) = true := rfl
theorem co_any : cellsOf .any = none := rfl
theorem co_und : cellsOf .und = none := rfl
theorem co_tup (a : List AVal) : cellsOf (.tup a) = none := rfl
theorem co_agg (a : List AVal) : cellsOf (.agg a) = some a := rfl
theorem co_bool (b : Bool) : cellsOf (.bool b) = some [.bool b] := rfl
theorem co_int (k : IntKind) (n : Int) : cellsOf (.int k n) = some [.int k n] := rfl
theorem co_nilp : cellsOf .nilp = some [.nilp] := rfl
theorem co_ref (i k o : Nat) : cellsOf (.ref i k o) = some [.ref i k o] := rfl
theorem co_pv (r : List AVal) (o : Nat) : cellsOf (.pv r o) = some [.pv r o] := rfl
theorem co_nils : cellsOf .nils = some [.nils] := rfl
theorem co_sl (i k n : Nat) (t : Bool) : cellsOf (.sl i k n t) = some [.sl i k n t] := rfl
theorem co_vl (rs : List (List AVal)) (t : Bool) : cellsOf (.vl rs t) = some [.vl rs t] := rfl
theorem co_nilm : cellsOf .nilm = some [.nilm] := rfl
theorem co_mp (i : Nat) : cellsOf (.mp i) = some [.mp i] := rfl
theorem co_fn (f : Nat) (a b : List AVal) : cellsOf (.fn f a b) = some [.fn f a b] := rfl
theorem co_nilf : cellsOf .nilf = some [.nilf] := rfl
theorem co_yld (i : Nat) : cellsOf (.yld i) = some [.yld i] := rfl
end Go.Abs

namespace Go.Abs
open Go

def lkG : List (Nat × List GL) → Nat → List GL
  | [], _ => []
  | (m, gs) :: l, k => if m = k then gs else lkG l k

def lkR : List (List Nat × Nat) → List Nat → Option Nat
  | [], _ => none
  | (m, k) :: l, ps => if m = ps then some k else lkR l ps

/-- The loops that keep so are gathered so; of a range over a function with these parameters, what a round keeps. -/
def annK (m : List (Nat × List GL)) (n : List (List Nat × Nat)) : CC → CC
  | .seq a b => .seq (annK m n a) (annK m n b)
  | .cond c a b => .cond c (annK m n a) (annK m n b)
  | .block id c => .block id (annK m n c)
  | .loop k c => match lkG m k with
    | [] => .loop k (annK m n c)
    | g :: gs => .loopG k (g :: gs) (annK m n c)
  | .rf f ps a b => match lkR n ps with
    | none => .rf f ps (annK m n a) (annK m n b)
    | some k => .rf f ps (annK m n a) (.kil k (annK m n b))
  | c => c

theorem strip_annK (m : List (Nat × List GL)) (n : List (List Nat × Nat)) : ∀ c, strip (annK m n c) = strip c
  | .seq a b => by simp only [annK, strip, strip_annK m n a, strip_annK m n b]
  | .cond c a b => by simp only [annK, strip, strip_annK m n a, strip_annK m n b]
  | .block id c => by simp only [annK, strip, strip_annK m n c]
  | .loop k c => by
    simp only [annK]
    split <;> simp only [strip, strip_annK m n c]
  | .rf f ps a b => by
    simp only [annK]
    split <;> simp only [strip, strip_annK m n a, strip_annK m n b]
  | .skip => rfl
  | .reg _ => rfl
  | .drw _ => rfl
  | .loopG _ _ _ => rfl
  | .loopN _ _ _ _ => rfl
  | .kil _ _ => rfl
  | .exit _ => rfl
  | .ret => rfl

noncomputable def updG (T : Nat → Option CFn) (f : Nat) (m : List (Nat × List GL)) (n : List (List Nat × Nat)) (g : Nat) : Option CFn :=
  if g = f then (match T f with
    | some c => some { c with body := annK m n c.body }
    | none => none)
  else T g

theorem tab_updG {P : Program} {G : Nat → Option (List AVal)} {T : Nat → Option CFn} (hT : TabOk P G T) {f : Nat} {m : List (Nat × List GL)} {n : List (List Nat × Nat)} : TabOk P G (updG T f m n) := by
  intro g cf hg
  unfold updG at hg
  split at hg
  · rename_i e
    subst e
    split at hg <;> simp at hg
    rename_i c hc
    subst hg
    obtain ⟨fn, b, h1, h2, h3, h4, h5⟩ := hT g c hc
    exact ⟨fn, b, h1, h2, h3, by simp only [strip_annK]; exact h4, h5⟩
  · exact hT g cf hg

/-- A growing slice: v0, blk0 as long as it is empty; else block b. -/
def accV (v0 : AVal) (b : Nat) (rows : List (List AVal)) : AVal := match rows with
  | [] => v0
  | r :: rs => .sl b 0 (rs.length + 1) false
def accB (s : Nat) (blk0 : Option Blk) (rows : List (List AVal)) : Option Blk := match rows with
  | [] => blk0
  | r :: rs => some (.row s (r :: rs))
def accX (blk0 : Option Blk) (rows : List (List AVal)) : Option Blk := match rows with
  | [] => blk0
  | _ :: _ => none
theorem accV_nil (v0 : AVal) (b : Nat) : accV v0 b [] = v0 := rfl
theorem accB_nil (s : Nat) (b : Option Blk) : accB s b [] = b := rfl
theorem accV_cons (v0 : AVal) (b : Nat) (r : List AVal) (rs : List (List AVal)) : accV v0 b (r :: rs) = .sl b 0 (rs.length + 1) false := rfl
theorem accB_cons (s : Nat) (b : Option Blk) (r : List AVal) (rs : List (List AVal)) : accB s b (r :: rs) = some (.row s (r :: rs)) := rfl
theorem accV_one (v0 : AVal) (b : Nat) (rows : List (List AVal)) (r : List AVal) : accV v0 b (rows ++ [r]) = .sl b 0 (rows.length + 1) false := by cases rows <;> simp [accV]
theorem accB_one (s : Nat) (b : Option Blk) (rows : List (List AVal)) (r : List AVal) : accB s b (rows ++ [r]) = some (.row s (rows ++ [r])) := by cases rows <;> rfl

/-- What an empty slice may be that grows. -/
inductive AccZ (s : Nat) (h : Heap) (b : Nat) : AVal → Option Blk → Prop
  | nils (x : Option Blk) : AccZ s h b .nils x
  | vl (x : Option Blk) : AccZ s h b (.vl [] true) x
  | sl (hb : h[b]? = some (some (.row s []))) : AccZ s h b (.sl b 0 0 true) (some (.row s []))

section
variable {P : Program} {T : Nat → Option CFn} {r : Option Nat} {σ : St} {Q : St → Prop}

/-- The first k operations, by computing. -/
theorem ops_take (k : Nat) {l : List CO} {σ1 : St} (h : runX P T (fun _ _ _ => none) (l.take k) σ = some σ1) (h2 : Ops P T (l.drop k) σ1 Q) : Ops P T l σ Q := by
  have : Ops P T (l.take k ++ l.drop k) σ Q := by
    obtain ⟨n, σ2, g1, g2⟩ := h2
    generalize l.take k = a at h
    generalize l.drop k = b at g1
    induction a generalizing σ with
    | nil => simp [runX] at h; subst h; exact ⟨n, σ2, g1, g2⟩
    | cons o a ih =>
      rw [runX_cons] at h
      split at h
      · rename_i σ3 hs
        exact ops_cons 0 (σ1 := σ3) (stepX_mono (fun _ _ _ _ h => by simp at h) hs) (ih h)
      · simp at h
  rwa [List.take_append_drop] at this

/-- An append to a growing slice. -/
theorem ops_acc {d s b : Nat} {un : List Nat} {x y : CV} {l : List CO} {v0 yv : AVal} {blk0 : Option Blk} {rows new : List (List AVal)} (hx : x.ev σ.t = some (accV v0 b rows)) (hy : y.ev σ.t = some yv) (hn : rowsOf σ.h yv = some new) (hne : new ≠ [])
    (hb : σ.h[b]? = some (accB s blk0 rows)) (h0 : AccZ s σ.h b v0 blk0 ∨ rows ≠ []) (hl : rows.length + new.length ≤ 1048576) (hr : ∀ q ∈ rows, q.length = s) (hnr : ∀ q ∈ new, q.length = s ∧ ∀ z ∈ q, storable z = true)
    (hq : Ops P T l ⟨σ.t.set d (.sl σ.h.length 0 (rows.length + new.length) false), σ.h.set b (accX blk0 rows) ++ [some (.row s (rows ++ new))]⟩ Q) : Ops P T (⟨some d, .app s x y, none, un⟩ :: l) σ Q := by
  refine ops_cons 0 (σ1 := ⟨σ.t.set d (.sl σ.h.length 0 (rows.length + new.length) false), σ.h.set b (accX blk0 rows) ++ [some (.row s (rows ++ new))]⟩) ?_ hq
  have hnl : ¬ new.length = 0 := by intro h; exact hne (List.eq_nil_of_length_eq_zero h)
  have hlb : b < σ.h.length := (List.getElem?_eq_some_iff.1 hb).1
  have hall : rows.all (·.length == s) = true := by simp only [List.all_eq_true, beq_iff_eq]; exact hr
  have hall2 : new.all (·.length == s) = true := by simp only [List.all_eq_true, beq_iff_eq]; exact fun q hq => (hnr q hq).1
  have hall3 : new.all (·.all storable) = true := by simp only [List.all_eq_true]; exact fun q hq => (hnr q hq).2
  have key : lop σ.t σ.h (.app s x y) = some (.sl σ.h.length 0 (rows.length + new.length) false, σ.h.set b (accX blk0 rows) ++ [some (.row s (rows ++ new))]) := by
    cases rows with
    | nil =>
      simp only [accB_nil, accV_nil, accX] at *
      have hset : σ.h.set b blk0 = σ.h := by
        have := List.set_getElem_self hlb
        rw [List.getElem?_eq_getElem hlb] at hb
        simp at hb
        rw [← hb]; exact this
      rw [hset]
      simp only [lop, hx, hy]
      have hnl2 : new.length ≤ lim := by have : lim = 1048576 := rfl; rw [this]; simpa using hl
      rcases h0 with h0 | h0
      · cases h0 with
        | nils =>
          have hra : rowsOf σ.h .nils = some [] := rfl
          simp only [hra, hn]
          simp [hnl, hne, slE, hnl2, hall2, hall3, fRows_eq, fN_eq, appK_eq]
        | vl =>
          have hra : rowsOf σ.h (.vl [] true) = some [] := rfl
          simp only [hra, hn]
          simp [hnl, hne, slE, hnl2, hall2, hall3, fRows_eq, fN_eq, appK_eq]
        | sl h1 =>
          have hrow : rowAt σ.h b = some (s, []) := by simp [rowAt, nth_eq, h1]
          have hra : rowsOf σ.h (.sl b 0 0 true) = some [] := by simp [rowsOf, hrow]
          simp only [hra, hn]
          simp [hrow, hnl, hne, slE, hnl2, hall2, hall3, fRows_eq, fN_eq, appK_eq]
      · exact absurd rfl h0
    | cons q rows =>
      simp only [accB_cons, accV_cons, accX] at *
      have hrow : rowAt σ.h b = some (s, q :: rows) := by simp [rowAt, nth_eq, hb]
      have hnl2 : rows.length + 1 + new.length ≤ lim := by have : lim = 1048576 := rfl; rw [this]; simpa using hl
      have htk : (q :: rows).take (rows.length + 1) = q :: rows := List.take_of_length_le (by simp)
      have hra : rowsOf σ.h (.sl b 0 (rows.length + 1) false) = some (q :: rows) := by simp [rowsOf, hrow]
      simp only [lop, hx, hy, hra, hn]
      rw [if_neg hnl]
      rw [if_pos ⟨by simp [slE, hrow], by simpa using hnl2, hall, hall2, hall3⟩]
      simp [fRows_eq, fN_eq, appK_eq, setK_eq]
  simp only [stepX, wantedA, dop, loud, key, putK_eq, putT]
end
end Go.Abs

namespace Go.Abs
open Go

section
variable {P : Program} {T : Nat → Option CFn} {r : Option Nat} {σ : St}

/-- A yield answers what Q takes. -/
def Ylds (P : Program) (T : Nat → Option CFn) (i : Nat) (args : List AVal) (h : Heap) (Q : AVal → Heap → Prop) : Prop := ∃ n v h', yieldF (exec P T n) i args h = some (v, h') ∧ Q v h'
theorem Ylds.mono {i : Nat} {args : List AVal} {h : Heap} {Q Q' : AVal → Heap → Prop} (hr : Ylds P T i args h Q) (hq : ∀ v h, Q v h → Q' v h) : Ylds P T i args h Q' := let ⟨n, v, h', h1, h2⟩ := hr; ⟨n, v, h', h1, hq _ _ h2⟩

/-- A yield, as an operation. -/
theorem ops_ylds {o : CO} {l : List CO} {i : Nat} {args : List AVal} {Q : St → Prop} (hw : wantedA σ.t o.g = some true) (hd : dop P σ.t σ.h o.op = none) (hp : lop σ.t σ.h o.op = none) (hc : calleeA σ.t o.op = some (.yld i args))
    (h : Ylds P T i args σ.h fun v h' => Ops P T l ⟨putT σ.t o.dst v, h'⟩ Q) : Ops P T (o :: l) σ Q := by
  obtain ⟨n, v, h', hy, hq⟩ := h
  refine ops_cons n (σ1 := ⟨putT σ.t o.dst v, h'⟩) ?_ hq
  simp only [stepX, hw, hd, loud, hp, callA, hc, hy, putK_eq]

/-- A yield runs the loop's body. -/
theorem ylds_of {i : Nat} {args t : List AVal} {h : Heap} {ps : List Nat} {asg bd : CC} {pd : Option CC} {Q : AVal → Heap → Prop} (hi : h[i]? = some (some (.loop t ps asg bd .ready pd))) (hn : args.length = ps.length)
    (hb : Runs P T (some i) asg ⟨setAll t (ps.zip args), h⟩ fun e1 σ1 => e1 = .normal ∧ ∃ t1 ps1 as1 bd1 pd1, σ1.h[i]? = some (some (.loop t1 ps1 as1 bd1 .ready pd1)) ∧
      Runs P T (some i) bd ⟨σ1.t, σ1.h.set i (some (.loop t1 ps1 as1 bd1 .busy pd1))⟩ fun e2 σ2 => ∃ t2 ps2 as2 bd2 st2 pd2, σ2.h[i]? = some (some (.loop t2 ps2 as2 bd2 st2 pd2)) ∧
        (match e2 with
        | .normal => Q (.bool true) (trim h.length [] (σ2.h.set i (some (.loop t2 ps2 as2 bd2 .ready none))))
        | .ret => Q (.bool false) (σ2.h.set i (some (.loop t2 ps2 as2 bd2 .done (some .ret))))
        | .exit id => Q (.bool false) (σ2.h.set i (some (.loop t2 ps2 as2 bd2 .done (some (.exit id))))))) : Ylds P T i args h Q := by
  obtain ⟨n1, e1, σ1, h1, rfl, t1, ps1, as1, bd1, pd1, hi1, n2, e2, σ2, h2, t2, ps2, as2, bd2, st2, pd2, hi2, hq⟩ := hb
  have e1 := exec_mono (P := P) (T := T) (Nat.le_max_left n1 n2) _ _ _ _ h1
  have e2' := exec_mono (P := P) (T := T) (Nat.le_max_right n1 n2) _ _ _ _ h2
  cases e2 with
  | normal => exact ⟨max n1 n2, _, _, by unfold yieldF; simp only [nth_eq, hi, hn, if_true, setAllK_eq, e1, hi1, setK_eq, e2', hi2, fN_eq, trimK_eq], hq⟩
  | ret => exact ⟨max n1 n2, _, _, by unfold yieldF; simp only [nth_eq, hi, hn, if_true, setAllK_eq, e1, hi1, setK_eq, e2', hi2], hq⟩
  | exit id => exact ⟨max n1 n2, _, _, by unfold yieldF; simp only [nth_eq, hi, hn, if_true, setAllK_eq, e1, hi1, setK_eq, e2', hi2], hq⟩

/-- Trimming leaves a heap as it is, or takes its beginning. -/
theorem trim_cases (n : Nat) (vs : List AVal) (h : Heap) : trim n vs h = h ∨ trim n vs h = h.take n := by unfold trim; split <;> simp
theorem trim_same {n : Nat} {vs : List AVal} {h : Heap} (hn : h.length ≤ n) : trim n vs h = h := by unfold trim; split <;> simp [List.take_of_length_le hn]
theorem trim_app2 {n : Nat} {vs : List AVal} {h g : Heap} (hn : h.length = n) (hv : vs.all (rb n 5) = true) (hh : h.all (rbB n) = true) : trim n vs (h ++ g) = h := by
  subst hn; unfold trim; rw [List.take_left' rfl, hv, hh]; rfl
end
theorem rbB_none (n : Nat) : rbB n none = true := rfl
theorem rbB_row (n e : Nat) (rs : List (List AVal)) : rbB n (some (.row e rs)) = rs.all (·.all (rb n 5)) := rfl
theorem rbB_map (n c : Nat) (es : List (AVal × AVal × Nat)) : rbB n (some (.map es c)) = es.all fun e => rb n 5 e.1 && rb n 5 e.2.1 := rfl
theorem rbB_loop (n : Nat) (t : List AVal) (ps : List Nat) (asg bd : CC) (st : LoopState) (pd : Option CC) : rbB n (some (.loop t ps asg bd st pd)) = t.all (rb n 5) := rfl
end Go.Abs

namespace Go.Abs
open Go

/-- What the cells of a type hold: integers, Booleans, slices of such rows. -/
inductive Ly where
  | int (k : IntKind)
  | bool
  | sl (e : List Ly)

/-- The fields, one behind the other. -/
def layFs (P : Program) (lay : TypeId → Option (List Ly)) : Nat → List Field → Option (List Ly)
  | _, [] => some []
  | o, f :: fs => if f.offset = o then match lay f.type with
    | some l => if l.length = P.cellsOf f.type then match layFs P lay (o + l.length) fs with
        | some r => some (l ++ r)
        | none => none
      else none
    | none => none
  else none

def layOf (P : Program) : Nat → TypeId → Option (List Ly)
  | 0, _ => none
  | d + 1, t => match P.underlying t with
    | some .bool => some [.bool]
    | some (.int k) => some [.int k]
    | some (.struct fs) => match layFs P (layOf P d) 0 fs.toList with
      | some l => if l.length = P.cellsOf t then some l else none
      | none => none
    | some (.slice e) => match layOf P d e with
      | some l => if l.length = P.cellsOf e ∧ l ≠ [] then some [.sl l] else none
      | none => none
    | some (.array n e) => match layOf P d e with
      | some l => if l.length = P.cellsOf e ∧ n * l.length = P.cellsOf t then some (List.replicate n l).flatten else none
      | none => none
    | _ => none

/-- An abstract value is as the layout says. -/
inductive Fits : Ly → AVal → Prop
  | int (k : IntKind) (n : Int) (h : (Lit.int k n).wf = true) : Fits (.int k) (.int k n)
  | bool (b : Bool) : Fits .bool (.bool b)
  | nils (e : List Ly) : Fits (.sl e) .nils
  | vl (e : List Ly) (rs : List (List AVal)) (t : Bool) (hl : ∀ r ∈ rs, r.length = e.length) (h : ∀ (i : Nat) (r : List AVal), rs[i]? = some r → ∀ (j : Nat) (x : AVal) (l : Ly), r[j]? = some x → e[j]? = some l → Fits l x) : Fits (.sl e) (.vl rs t)

def FitsR (L : List Ly) (xs : List AVal) : Prop := xs.length = L.length ∧ ∀ (j : Nat) (x : AVal) (l : Ly), xs[j]? = some x → L[j]? = some l → Fits l x

def RowR (ρ : Nat → Loc) (w : World) (xs : List AVal) (cs : List Value) : Prop := xs.length = cs.length ∧ ∀ (j : Nat) (x : AVal) (c : Value), xs[j]? = some x → cs[j]? = some c → Abs.VR ρ (fun b => b < w.heap.size) w (fun _ => False) x c

theorem rowR_app {ρ : Nat → Loc} {w : World} {xs ys : List AVal} {cs ds : List Value} (h1 : RowR ρ w xs cs) (h2 : RowR ρ w ys ds) : RowR ρ w (xs ++ ys) (cs ++ ds) := by
  refine ⟨by simp [h1.1, h2.1], fun j x c hx hc => ?_⟩
  by_cases hj : j < xs.length
  · rw [List.getElem?_append_left hj] at hx
    rw [List.getElem?_append_left (h1.1 ▸ hj)] at hc
    exact h1.2 j x c hx hc
  · rw [List.getElem?_append_right (by omega)] at hx
    rw [List.getElem?_append_right (by rw [← h1.1]; omega), ← h1.1] at hc
    exact h2.2 _ x c hx hc

theorem fitsR_app {L M : List Ly} {xs ys : List AVal} (h1 : FitsR L xs) (h2 : FitsR M ys) : FitsR (L ++ M) (xs ++ ys) := by
  refine ⟨by simp [h1.1, h2.1], fun j x c hx hc => ?_⟩
  by_cases hj : j < xs.length
  · rw [List.getElem?_append_left hj] at hx
    rw [List.getElem?_append_left (h1.1 ▸ hj)] at hc
    exact h1.2 j x c hx hc
  · rw [List.getElem?_append_right (by omega)] at hx
    rw [List.getElem?_append_right (by rw [← h1.1]; omega), ← h1.1] at hc
    exact h2.2 _ x c hx hc

theorem mapM_some {α β : Type} {f : α → Option β} : ∀ {l : List α} {ys : List β}, l.mapM f = some ys → ys.length = l.length ∧ ∀ (j : Nat) (a : α), l[j]? = some a → ∃ y, ys[j]? = some y ∧ f a = some y
  | [], ys, h => by simp at h; subst h; exact ⟨rfl, fun j a h => by simp at h⟩
  | x :: l, ys, h => by
    rw [List.mapM_cons] at h
    cases hx : f x with
    | none => simp [hx] at h
    | some y =>
    cases hl : l.mapM f with
    | none => simp [hx, hl] at h
    | some zs =>
      simp [hx, hl] at h
      subst h
      obtain ⟨g1, g2⟩ := mapM_some hl
      refine ⟨by simp [g1], fun j a hj => ?_⟩
      cases j with
      | zero => simp at hj; subst hj; exact ⟨y, rfl, hx⟩
      | succ j => exact g2 j a (by simpa using hj)

section
variable {H : Type} {enc : TypeId × Value → H} {P : Program} {w : World} {held : Bool} {ρ : Nat → Loc}

theorem fields_ok {lay : TypeId → Option (List Ly)} {fuel : Nat} (ih : ∀ t L cs x, lay t = some L → DataW.trod enc P w 0 (fun _ => true) held fuel t cs = some x → ∃ xs, RowR ρ w xs cs ∧ FitsR L xs) :
    ∀ (fs : List Field) (o : Nat) (L : List Ly) (cs : List Value) (ys : List (DataW H × List MemPlace)), layFs P lay o fs = some L →
      (fs.mapM fun f => DataW.trod enc P w 0 (fun _ => true) held fuel f.type ((cs.drop f.offset).take (P.cellsOf f.type))) = some ys → cs.length = o + L.length → ∃ xs, RowR ρ w xs (cs.drop o) ∧ FitsR L xs
  | [], o, L, cs, ys, hL, hm, hc => by
    simp [layFs] at hL; subst hL
    refine ⟨[], ⟨by simp at hc ⊢; omega, fun j x c h => by simp at h⟩, rfl, fun j x l h => by simp at h⟩
  | f :: fs, o, L, cs, ys, hL, hm, hc => by
    simp only [layFs] at hL
    split at hL
    · rename_i ho
      split at hL
      · rename_i l hl
        split at hL
        · rename_i hlen
          split at hL <;> simp at hL
          rename_i r hr
          subst hL
          rw [List.mapM_cons] at hm
          cases hx : DataW.trod enc P w 0 (fun _ => true) held fuel f.type ((cs.drop f.offset).take (P.cellsOf f.type)) with
          | none => simp [hx] at hm
          | some y =>
          cases hrest : (fs.mapM fun f => DataW.trod enc P w 0 (fun _ => true) held fuel f.type ((cs.drop f.offset).take (P.cellsOf f.type))) with
          | none => simp [hx, hrest] at hm
          | some zs =>
          obtain ⟨xs, h1, h2⟩ := ih _ _ _ _ hl hx
          obtain ⟨xs2, h3, h4⟩ := fields_ok ih fs (o + l.length) r cs zs hr hrest (by simp at hc; omega)
          refine ⟨xs ++ xs2, ?_, fitsR_app h2 h4⟩
          have e : cs.drop o = (cs.drop f.offset).take (P.cellsOf f.type) ++ cs.drop (o + l.length) := by
            rw [ho, ← hlen, ← List.drop_drop, List.take_append_drop]
          rw [e]
          exact rowR_app h1 h3
        · simp at hL
      · simp at hL
    · simp at hL

theorem elems_ok {lay : TypeId → Option (List Ly)} {fuel : Nat} (ih : ∀ t L cs x, lay t = some L → DataW.trod enc P w 0 (fun _ => true) held fuel t cs = some x → ∃ xs, RowR ρ w xs cs ∧ FitsR L xs) {e : TypeId} {l : List Ly} (hl : lay e = some l) :
    ∀ (m o : Nat) (cs : List Value) (ys : List (DataW H × List MemPlace)),
      ((List.range' o m).mapM fun i => DataW.trod enc P w 0 (fun _ => true) held fuel e ((cs.drop (i * P.cellsOf e)).take (P.cellsOf e))) = some ys → cs.length = (o + m) * P.cellsOf e → ∃ xs, RowR ρ w xs (cs.drop (o * P.cellsOf e)) ∧ FitsR (List.replicate m l).flatten xs
  | 0, o, cs, ys, hm, hc => by
    refine ⟨[], ⟨by simp at hc ⊢; omega, fun j x c h => by simp at h⟩, rfl, fun j x l h => by simp at h⟩
  | m + 1, o, cs, ys, hm, hc => by
    rw [List.range'_succ, List.mapM_cons] at hm
    cases hx : DataW.trod enc P w 0 (fun _ => true) held fuel e ((cs.drop (o * P.cellsOf e)).take (P.cellsOf e)) with
    | none => simp [hx] at hm
    | some y =>
    cases hrest : ((List.range' (o + 1) m).mapM fun i => DataW.trod enc P w 0 (fun _ => true) held fuel e ((cs.drop (i * P.cellsOf e)).take (P.cellsOf e))) with
    | none => simp [hx, hrest] at hm
    | some zs =>
    obtain ⟨xs, h1, h2⟩ := ih _ _ _ _ hl hx
    obtain ⟨xs2, h3, h4⟩ := elems_ok ih hl m (o + 1) cs zs hrest (by rw [hc]; congr 1; omega)
    refine ⟨xs ++ xs2, ?_, by rw [List.replicate_succ, List.flatten_cons]; exact fitsR_app h2 h4⟩
    have e1 : cs.drop (o * P.cellsOf e) = (cs.drop (o * P.cellsOf e)).take (P.cellsOf e) ++ cs.drop ((o + 1) * P.cellsOf e) := by
      rw [Nat.add_mul, Nat.one_mul, ← List.drop_drop, List.take_append_drop]
    rw [e1]
    exact rowR_app h1 h3

theorem cells_len {base n : Nat} {a : Addr} {c : List Value} (h : w.cells? base a n = some c) : c.length = n := by
  unfold World.cells? at h
  split at h
  · have := (mapM_some h).1; simpa using this
  · simp at h

theorem cells_get {base n : Nat} {a : Addr} {c : List Value} (h : w.cells? base a n = some c) (j : Nat) (hj : j < n) : ∃ y, c[j]? = some y ∧ w.cell? (a.add j) = some y := by
  unfold World.cells? at h
  split at h
  · obtain ⟨y, h1, h2⟩ := (mapM_some h).2 j j (by simp [hj])
    exact ⟨y, h1, h2⟩
  · simp at h

theorem trod_fits : ∀ (d fuel : Nat) (t : TypeId) (L : List Ly) (cs : List Value) (x : DataW H × List MemPlace), layOf P d t = some L → DataW.trod enc P w 0 (fun _ => true) held fuel t cs = some x → ∃ xs, RowR ρ w xs cs ∧ FitsR L xs
  | 0, _, _, _, _, _, h, _ => by simp [layOf] at h
  | d + 1, 0, _, _, _, _, _, h => by simp [DataW.trod] at h
  | d + 1, fuel + 1, t, L, cs, x, hL, hx => by
    simp only [layOf] at hL
    have one : ∀ (c : Value) (v : AVal) (l : Ly), Abs.VR ρ (fun b => b < w.heap.size) w (fun _ => False) v c → Fits l v → ∃ xs, RowR ρ w xs [c] ∧ FitsR [l] xs := fun c v l h1 h2 =>
      ⟨[v], ⟨rfl, fun j x c' hx hc => by
        cases j with
        | zero => simp at hx hc; subst hx; subst hc; exact h1
        | succ j => simp at hx⟩, rfl, fun j x l' hx hl => by
        cases j with
        | zero => simp at hx hl; subst hx; subst hl; exact h2
        | succ j => simp at hx⟩
    split at hL
    · rename_i hu
      simp at hL; subst hL
      simp only [DataW.trod, hu] at hx
      split at hx <;> simp_all
      exact one _ _ _ (.bool _ _) (.bool _)
    · rename_i k hu
      simp at hL; subst hL
      simp only [DataW.trod, hu] at hx
      split at hx <;> simp_all
      obtain ⟨⟨rfl, hwf⟩, _⟩ := hx
      exact one _ _ _ (.int _ _ _) (.int _ _ hwf)
    · rename_i fs hu
      split at hL
      · rename_i l hl
        split at hL <;> simp at hL
        rename_i hlen
        subst hL
        simp only [DataW.trod, hu] at hx
        split at hx
        · rename_i hlc
          cases hm : (fs.toList.mapM fun f => DataW.trod enc P w 0 (fun _ => true) held fuel f.type ((cs.drop f.offset).take (P.cellsOf f.type))) with
          | none => simp [hm] at hx
          | some ys =>
            have := fields_ok (ρ := ρ) (fun t L cs x => trod_fits d fuel t L cs x) fs.toList 0 l cs ys hl hm (by omega)
            simpa using this
        · simp at hx
      · simp at hL
    · rename_i e hu
      split at hL
      · rename_i l hl
        split at hL <;> simp at hL
        rename_i hlen
        subst hL
        simp only [DataW.trod, hu] at hx
        split at hx <;> (try (simp_all; done))
        · exact one _ _ _ (.nils _) (.nils _)
        · rename_i e' a len cap he'
          simp only [Option.some.injEq, TypeDesc.slice.injEq] at he'
          subst he'
          split at hx
          · rename_i hb
            cases hm : ((List.range len).mapM fun i => (w.cells? 0 (a.add (i * P.cellsOf e)) (P.cellsOf e)).bind (DataW.trod enc P w 0 (fun _ => true) held fuel e)) with
            | none => simp [hm] at hx
            | some elems =>
            rw [hm] at hx
            simp only [Option.bind_some, if_true] at hx
            cases hm2 : ((List.range (cap - len)).mapM fun j => (w.cells? 0 (a.add ((len + j) * P.cellsOf e)) (P.cellsOf e)).bind (DataW.trod enc P w 0 (fun _ => true) held fuel e)) with
            | none => simp [hm2] at hx
            | some rest =>
            clear hx
            generalize hn : P.cellsOf e = n at *
            have hn0 : 0 < n := by
              rw [← hlen.1]; exact List.length_pos_iff.2 hlen.2
            -- each element's cells
            have hel : ∀ i, i < len → ∃ ci xi, w.cells? 0 (a.add (i * n)) n = some ci ∧ DataW.trod enc P w 0 (fun _ => true) held fuel e ci = some xi := fun i hi => by
              obtain ⟨y, _, hy⟩ := (mapM_some hm).2 i i (by simp [hi])
              cases hc : w.cells? 0 (a.add (i * n)) n with
              | none => simp [hc] at hy
              | some ci => exact ⟨ci, y, rfl, by simpa [hc] using hy⟩
            have hspot : 0 < cap → a.spot = none := fun hcap => by
              have : ∃ c, w.cells? 0 (a.add (0 * n)) n = some c := by
                by_cases h0 : 0 < len
                · obtain ⟨ci, _, h, _⟩ := hel 0 h0
                  exact ⟨ci, h⟩
                · have h1 : len = 0 := by omega
                  subst h1
                  obtain ⟨y, _, hy⟩ := (mapM_some hm2).2 0 0 (by rw [List.getElem?_range (by omega)])
                  cases hc : w.cells? 0 (a.add (0 * n)) n with
                  | none => simp at hy hc; simp [hc] at hy
                  | some ci => exact ⟨ci, rfl⟩
              obtain ⟨c, hc⟩ := this
              obtain ⟨y, _, hy⟩ := cells_get hc 0 hn0
              simp only [Nat.zero_mul, Addr.add, if_true] at hy
              unfold World.cell? at hy
              split at hy
              · split at hy
                · simp at hy
                · rename_i h; simpa using h
              · simp at hy
            have hcell : ∀ i, i < len → ∀ ci, w.cells? 0 (a.add (i * n)) n = some ci → ci.length = n ∧ ∀ j (hj : j < n), ∃ y, ci[j]? = some y ∧ w.cell? ⟨a.block, a.off + (i * n + j), none⟩ = some y := fun i hi ci hci => by
              refine ⟨(cells_len hci), fun j hj => ?_⟩
              obtain ⟨y, h1, h2⟩ := cells_get hci j hj
              refine ⟨y, h1, ?_⟩
              rw [← h2]
              congr 1
              have hs := hspot (by omega)
              obtain ⟨ab, ao, as⟩ := a
              simp only at hs
              subst hs
              simp only [Addr.add]
              split <;> split <;> simp <;> omega
            have hrow : ∀ i, ∃ r : List AVal, i < len → ∃ ci, w.cells? 0 (a.add (i * n)) n = some ci ∧ RowR ρ w r ci ∧ FitsR l r := fun i => by
              by_cases hi : i < len
              · obtain ⟨ci, xi, h1, h2⟩ := hel i hi
                obtain ⟨r, h3, h4⟩ := trod_fits d fuel e l ci xi hl h2
                exact ⟨r, fun _ => ⟨ci, h1, h3, h4⟩⟩
              · exact ⟨[], fun h => absurd h hi⟩
            have hR := Classical.axiomOfChoice hrow
            obtain ⟨R, hR⟩ := hR
            have hlr : ((List.range len).map R).length = len := by simp
            have hrl : ∀ i, i < len → (R i).length = n := fun i hi => by
              obtain ⟨ci, _, _, h⟩ := hR i hi
              rw [h.1, hlen.1]
            have hv : Abs.VR ρ (fun b => b < w.heap.size) w (fun _ => False) (.vl ((List.range len).map R) false) (.slice (some a) ((List.range len).map R).length cap) := by
              refine .vl _ _ false a cap a.block a.off n (fun j => (w.cell? ⟨a.block, a.off + j, none⟩).getD undef) (by rw [hlr]; exact hb.2.1) (fun h => by simp at h) ?_ (fun hne => ?_) (fun k hk => ?_) (fun j hj => ?_) (fun k hk j hj => ?_)
              · by_cases hc : cap = 0
                · exact .inl hc
                · right
                  have hs := hspot (by omega)
                  obtain ⟨ab, ao, as⟩ := a
                  simp only at hs
                  subst hs; rfl
              · have h0 : 0 < len := by
                  rcases Nat.eq_zero_or_pos len with h | h
                  · subst h; simp at hne
                  · exact h
                obtain ⟨ci, _, hci, _⟩ := hel 0 h0
                obtain ⟨y, _, hy⟩ := (hcell 0 h0 ci hci).2 0 hn0
                unfold World.cell? at hy
                split at hy
                · rename_i hh
                  exact (Array.getElem?_eq_some_iff.1 hh).1
                · simp at hy
              · simp at hk
                simp [hrl k hk]
              · rw [hlr] at hj
                have hq : j / n < len := Nat.div_lt_of_lt_mul (by rw [Nat.mul_comm]; exact hj)
                obtain ⟨ci, _, hci, _⟩ := hel _ hq
                obtain ⟨y, _, hy⟩ := (hcell _ hq ci hci).2 (j % n) (Nat.mod_lt _ hn0)
                rw [Nat.div_add_mod' j n] at hy
                simp [hy]
              · simp at hk
                simp at hj
                obtain ⟨ci, hci, hrr, _⟩ := hR k hk
                have hjn : j < n := by rw [← hrl k hk]; exact hj
                obtain ⟨y, hy1, hy2⟩ := (hcell k hk ci hci).2 j hjn
                have := hrr.2 j (R k)[j] y (List.getElem?_eq_getElem hj) hy1
                simpa [hy2] using this
            rw [hlr] at hv
            refine one _ _ _ hv (.vl _ _ _ (fun r hr => ?_) fun i r hi j x ll hj hll => ?_)
            · obtain ⟨i, hi, rfl⟩ := List.mem_map.1 hr
              simp at hi
              rw [hrl i hi, hlen.1]
            · have hi' : i < len := by have := (List.getElem?_eq_some_iff.1 hi).1; simpa using this
              simp [hi'] at hi
              subst hi
              obtain ⟨ci, _, _, h⟩ := hR i hi'
              exact h.2 j x ll hj hll
          · simp at hx
      · simp at hL
    · rename_i n e hu
      split at hL
      · rename_i l hl
        split at hL <;> simp at hL
        rename_i hlen
        subst hL
        simp only [DataW.trod, hu] at hx
        split at hx
        · rename_i hlc
          cases hm : ((List.range n).mapM fun i => DataW.trod enc P w 0 (fun _ => true) held fuel e ((cs.drop (i * P.cellsOf e)).take (P.cellsOf e))) with
          | none => simp [hm] at hx
          | some ys =>
            rw [List.range_eq_range'] at hm
            have := elems_ok (ρ := ρ) (fun t L cs x => trod_fits d fuel t L cs x) hl n 0 cs ys hm (by rw [hlc, ← hlen.2, hlen.1, Nat.zero_add])
            simpa using this
        · simp at hx
      · simp at hL
    · simp at hL

end
end Go.Abs

namespace Go.Abs
open Go Go.RowKit

section
variable {P : Program} {G : Nat → Option (List AVal)} {T : Nat → Option CFn}

abbrev ρ0 : Nat → Loc := fun _ => ⟨0, 0, 0, 0⟩

/-- A law that answers true in the machine. -/
theorem law_calls (hm : P.follows .mixedOrders = true) (hT : TabOk P G T) {f : Nat} {xs : List AVal} {cargs : Array Value} {W : World}
    (hglob : ∀ g r, G g = some r → Abs.VR ρ0 (fun b => b < W.heap.size) W (fun _ => False) (.pv r 0) (.pointer (some ⟨g, 0, none⟩)))
    (hargs : RowR ρ0 W xs cargs.toList) (ha : Answers P T f xs [] fun v _ => v = .bool true) : Calls P f cargs W fun e W' => e = .returned (.bool true) ∧ Below W.heap.size W W' := by
  obtain ⟨v, h', rfl, hg⟩ := answers_good hm hT ha
  have hr : Env.HR P G ⟨ρ0, fun _ => False, fun _ => False, fun b => b < W.heap.size⟩ [] W :=
    ⟨fun i b hi => by simp at hi, fun i j b c hi => by simp at hi, fun i hi => hi.elim, fun b hb => hb.elim, fun b hb => ⟨hb, fun h => h⟩, hglob⟩
  have hl : Env.LR ⟨ρ0, fun _ => False, fun _ => False, fun b => b < W.heap.size⟩ W xs cargs :=
    ⟨by simpa using hargs.1, fun j h1 h2 => hargs.2 j _ _ (List.getElem?_eq_getElem h1) (by simp [h2])⟩
  refine (CallsIn.calls (hg _ W cargs 0 hr hl) fun k d hd => by simp at hd).mono ?_
  rintro e W' ⟨u, E', rfl, hle, _, hu, _, _⟩
  refine ⟨?_, hle.os, hle.tape, hle.output, hle.size, fun b hb => (hle.old b hb fun h => h).1⟩
  have := VR.bool_inv hu
  rw [this]

theorem trod_ints {H : Type} {enc : TypeId × Value → H} {w : World} {base : Nat} {sp : Nat → Bool} {held : Bool} {t e : TypeId} {n : Nat} {k : IntKind} (ht : P.underlying t = some (.array n e)) (he : P.underlying e = some (.int k)) (hc : P.cellsOf e = 1) (hct : P.cellsOf t = n) :
    ∀ (fuel : Nat) {cs : List Value} {ns : List Int} {p : List MemPlace}, DataW.trod enc P w base sp held fuel t cs = some (.agg (ns.map fun m => .lit (.int k m)), p) → cs = ns.map fun m => .int k m
  | 0, cs, ns, p, h => by simp [DataW.trod] at h
  | fuel + 1, cs, ns, p, h => by
    simp only [DataW.trod, ht] at h
    split at h
    · rename_i hl
      rw [hct] at hl
      have hin : ∀ (c : Value) (y : DataW H × List MemPlace), DataW.trod enc P w base sp held fuel e [c] = some y → ∃ m, y.1 = .lit (.int k m) ∧ c = .int k m := by
        intro c y hf
        cases fuel with
        | zero => simp [DataW.trod] at hf
        | succ fuel =>
          simp only [DataW.trod, he] at hf
          split at hf <;> simp_all
          obtain ⟨_, rfl⟩ := hf
          rfl
      generalize hF : (fun i => DataW.trod enc P w base sp held fuel e ((cs.drop (i * P.cellsOf e)).take (P.cellsOf e))) = F at h
      cases hm : (List.range n).mapM F with
      | none => simp [hm] at h
      | some ys =>
        simp only [hm, Option.map_some, Option.some.injEq, Prod.mk.injEq, DataW.agg.injEq] at h
        obtain ⟨h1, -⟩ := h
        obtain ⟨g1, g2⟩ := mapM_some hm
        simp at g1
        have hns : ns.length = n := by have := congrArg List.length h1; simp at this; omega
        refine List.ext_getElem? fun i => ?_
        by_cases hi : i < n
        · obtain ⟨y, hy, hf⟩ := g2 i i (by simp [hi])
          have hc1 : (cs.drop (i * P.cellsOf e)).take (P.cellsOf e) = [cs[i]] := by
            rw [hc, Nat.mul_one, List.drop_eq_getElem_cons (by omega)]; rfl
          rw [← hF] at hf
          simp only [hc1] at hf
          obtain ⟨m, e1, e2⟩ := hin _ _ hf
          have h2 := congrArg (fun l => l[i]?) h1
          simp only [List.getElem?_map, hy, Option.map_some] at h2
          cases hn : ns[i]? with
          | none => rw [hn] at h2; simp at h2
          | some m' =>
            rw [hn] at h2
            simp [e1] at h2
            rw [List.getElem?_eq_getElem (by omega), List.getElem?_map, hn, e2, h2]
            rfl
        · rw [List.getElem?_eq_none (by omega), List.getElem?_eq_none (by simp; omega)]
    · simp at h

/-- A package's table of numbers, as unchanging memory reads it. -/
theorem table_vr {w : World} {g : Nat} {k : IntKind} {ns : List Int} (hc : ∀ j, j < ns.length → w.cell? ⟨g, j, none⟩ = some (.int k (ns.getD j 0))) (hg : g < w.heap.size) :
    Abs.VR ρ0 (fun b => b < w.heap.size) w (fun _ => False) (.pv (ns.map fun n => .int k n) 0) (.pointer (some ⟨g, 0, none⟩)) := by
  refine .pv _ _ 0 g 0 (fun j => .int k (ns.getD j 0)) hg (fun j hj => ?_) fun j hj => ?_
  · simp at hj
    rw [Nat.zero_add]; exact hc j hj
  · simp at hj
    simp [hj]
    exact .int _ _ _

/-! ### Arguments, opened -/

theorem fits_int {k : IntKind} {x : AVal} (h : Fits (.int k) x) : ∃ n, x = .int k n ∧ (Lit.int k n).wf = true := by cases h with | int _ n h => exact ⟨n, rfl, h⟩
theorem fitsR_one {l : Ly} {xs : List AVal} (h : FitsR [l] xs) : ∃ x, xs = [x] ∧ Fits l x := by
  obtain ⟨h1, h2⟩ := h
  match xs, h1 with
  | [x], _ => exact ⟨x, rfl, h2 0 x l rfl rfl⟩
theorem fitsR_cons {l : Ly} {L : List Ly} {xs : List AVal} (h : FitsR (l :: L) xs) : ∃ x ys, xs = x :: ys ∧ Fits l x ∧ FitsR L ys := by
  obtain ⟨h1, h2⟩ := h
  match xs, h1 with
  | x :: ys, h1 => exact ⟨x, ys, rfl, h2 0 x l rfl rfl, by simpa using h1, fun j y m hy hm => h2 (j + 1) y m (by simpa using hy) (by simpa using hm)⟩
theorem fitsR_nil {xs : List AVal} (h : FitsR [] xs) : xs = [] := List.eq_nil_of_length_eq_zero h.1

theorem fits_i1 {xs : List AVal} (h : FitsR [.int .i64] xs) : ∃ a : Int, xs = [.int .i64 a] := by
  obtain ⟨x, ys, rfl, hx, h'⟩ := fitsR_cons h
  obtain ⟨a, rfl, _⟩ := fits_int hx
  rw [fitsR_nil h']; exact ⟨a, rfl⟩
theorem fits_i2 {xs : List AVal} (h : FitsR [.int .i64, .int .i64] xs) : ∃ a b : Int, xs = [.int .i64 a, .int .i64 b] := by
  obtain ⟨x, ys, rfl, hx, h'⟩ := fitsR_cons h
  obtain ⟨a, rfl, _⟩ := fits_int hx
  obtain ⟨b, rfl⟩ := fits_i1 h'
  exact ⟨a, b, rfl⟩
theorem fits_i3 {xs : List AVal} (h : FitsR [.int .i64, .int .i64, .int .i64] xs) : ∃ a b c : Int, xs = [.int .i64 a, .int .i64 b, .int .i64 c] := by
  obtain ⟨x, ys, rfl, hx, h'⟩ := fitsR_cons h
  obtain ⟨a, rfl, _⟩ := fits_int hx
  obtain ⟨b, c, rfl⟩ := fits_i2 h'
  exact ⟨a, b, c, rfl⟩

/-- The rows of a slice. -/
theorem fits_rows {e : List Ly} {x : AVal} (h : Fits (.sl e) x) : ∃ rs : List (List AVal), (x = .nils ∧ rs = [] ∨ ∃ t, x = .vl rs t) ∧ ∀ r ∈ rs, FitsR e r := by
  cases h with
  | nils => exact ⟨[], .inl ⟨rfl, rfl⟩, by simp⟩
  | vl _ rs t hl h =>
    refine ⟨rs, .inr ⟨t, rfl⟩, fun r hr => ⟨hl r hr, fun j y l hy hl' => ?_⟩⟩
    obtain ⟨i, hi⟩ := List.getElem?_of_mem hr
    exact h i r hi j y l hy hl'

theorem map_of {α β : Type} {enc : β → α} : ∀ {l : List α}, (∀ a ∈ l, ∃ b, a = enc b) → ∃ bs : List β, l = bs.map enc
  | [], _ => ⟨[], rfl⟩
  | a :: l, h => by
    obtain ⟨b, rfl⟩ := h a (by simp)
    obtain ⟨bs, rfl⟩ := map_of (l := l) fun a ha => h a (by simp [ha])
    exact ⟨b :: bs, rfl⟩

theorem rowR_cons {w : World} {x : AVal} {c : Value} {xs : List AVal} {cs : List Value} (h : Abs.VR ρ0 (fun b => b < w.heap.size) w (fun _ => False) x c) (h' : RowR ρ0 w xs cs) : RowR ρ0 w (x :: xs) (c :: cs) := by
  refine ⟨by simp [h'.1], fun j y d hy hd => ?_⟩
  cases j with
  | zero => simp at hy hd; subst hy; subst hd; exact h
  | succ j => exact h'.2 j y d (by simpa using hy) (by simpa using hd)
theorem rowR_nil {w : World} : RowR ρ0 w [] [] := ⟨rfl, fun j y d hy => by simp at hy⟩

/-- A struct comes as its cells. -/
theorem open_struct {H : Type} {enc : TypeId × Value → H} {w : World} {base : Nat} {t : TypeId} {fs : Array Field} {v : Value} {d : DataW H} {p : List MemPlace} {L : List Ly} (hu : P.underlying t = some (.struct fs)) (hL : layOf P 5 t = some L)
    (hv : Value.okWide P w .any base t v) (h : DataW.Trod enc P w 0 (fun _ => true) true t v d p) : ∃ xs, Abs.VR ρ0 (fun b => b < w.heap.size) w (fun _ => False) (.agg xs) v ∧ FitsR L xs := by
  unfold Value.okWide at hv
  rw [hu] at hv
  obtain ⟨cs, rfl, _, _⟩ := hv
  obtain ⟨fuel, hf⟩ := h
  obtain ⟨xs, h1, h2⟩ := trod_fits (ρ := ρ0) 5 fuel t L _ _ hL hf
  refine ⟨xs, .agg _ xs cs (by simpa [Value.cells] using h1.1) fun j j1 j2 => ?_, h2⟩
  exact h1.2 j _ _ (List.getElem?_eq_getElem j1) (by simp [Value.cells, j2])

/-- An array comes as its cells. -/
theorem open_array {H : Type} {enc : TypeId × Value → H} {w : World} {base : Nat} {t : TypeId} {n : Nat} {e : TypeId} {v : Value} {d : DataW H} {p : List MemPlace} {L : List Ly} (hu : P.underlying t = some (.array n e)) (hL : layOf P 5 t = some L)
    (hv : Value.okWide P w .any base t v) (h : DataW.Trod enc P w 0 (fun _ => true) true t v d p) : ∃ xs, Abs.VR ρ0 (fun b => b < w.heap.size) w (fun _ => False) (.agg xs) v ∧ FitsR L xs := by
  unfold Value.okWide at hv
  rw [hu] at hv
  obtain ⟨cs, rfl, _, _⟩ := hv
  obtain ⟨fuel, hf⟩ := h
  obtain ⟨xs, h1, h2⟩ := trod_fits (ρ := ρ0) 5 fuel t L _ _ hL hf
  refine ⟨xs, .agg _ xs cs (by simpa [Value.cells] using h1.1) fun j j1 j2 => ?_, h2⟩
  exact h1.2 j _ _ (List.getElem?_eq_getElem j1) (by simp [Value.cells, j2])

/-- A value of one cell. -/
theorem open_cell {H : Type} {enc : TypeId × Value → H} {w : World} {t : TypeId} {v : Value} {d : DataW H} {p : List MemPlace} {l : Ly} (hL : layOf P 5 t = some [l]) (hc : v.cells = #[v])
    (h : DataW.Trod enc P w 0 (fun _ => true) true t v d p) : ∃ x, Abs.VR ρ0 (fun b => b < w.heap.size) w (fun _ => False) x v ∧ Fits l x := by
  obtain ⟨fuel, hf⟩ := h
  obtain ⟨xs, h1, h2⟩ := trod_fits (ρ := ρ0) 5 fuel t [l] _ _ hL hf
  obtain ⟨x, rfl, hx⟩ := fitsR_one h2
  rw [hc] at h1
  exact ⟨x, h1.2 0 x v rfl rfl, hx⟩

end
end Go.Abs
