/- The compiled functions of this seat, printed by a program; that they are what the translation compiles to is proved where they are used. No condition. -/
import Derived.OrdersIn
import Derived.RangeFuncNested
import Derived.LoopNIn
import Derived.ProofKit
import Derived.Below
import Derived.LaidMore
import Derived.Test.YtjjapdagllclkaaGreatPzAFl
set_option linter.unusedSimpArgs false
set_option linter.unusedVariables false
namespace Go.Abs
open Go
section
variable {P : Program} {G : Nat → Option (List Za)} {T : Nat → Option CFn} {ex : Option Nat → CC → St → Option (AEx × St)} {E E' E'' : Env} {h h' h'' h1 : Zf} {w w' w'' : World} {t t' : List Za} {a : Act} {o : Oper} {co : COp} {v : Za} {base n i j : Nat} {rd wr ms : List Nat}
def Env.less (E : Env) (h : Zf) (ms : List Nat) : Env := { E with O := fun b => E.O b ∧ ∀ k ∈ ms, ∀ c, h[k]? = some (some c) → (E.ρ k).b ≠ b }
theorem less_br {i : Nat} {b : Blk} (hb : E.BR P G w i b) : (E.less h ms).BR P G w i b := by
 cases b <;> exact hb
theorem less_br' {i : Nat} {b : Blk} {O : Nat → Prop} (hb : E.BR P G w i b) : Env.BR P G { E with O := O } w i b := by
 cases b <;> exact hb
theorem hr_less (hr : E.HR P G h w) : (E.less h ms).HR P G (Xr h ms) w := by
 have get : ∀ {i b}, (Xr h ms)[i]? = some (some b) → h[i]? = some (some b) ∧ i ∉ ms := fun {i b} hi => by
  rw [maskH_get] at hi
  split at hi
  ·simp at hi
  ·rename_i hn
   exact ⟨hi, fun hm => hn ⟨hm, (List.getElem?_eq_some_iff.1 hi).1⟩⟩
 refine ⟨fun i b hi => ?_, fun i j b c hi hj he => hr.inj i j b c (get hi).1 (get hj).1 he, fun i hi => by rw [maskH_length]; exact hr.lt i hi, fun b hb => hr.own b hb.1, fun b hb => ⟨(hr.imm b hb).1, fun h1 => (hr.imm b hb).2 h1.1⟩, hr.glob⟩
 obtain ⟨x, hx⟩ := get hi
 obtain ⟨h1, h2, h3, h4⟩ := hr.blk i b x
 exact ⟨h1, ⟨h2, fun k hk c hc he => hx (hr.inj k i c b hc x he ▸ hk)⟩, h3, less_br h4⟩
theorem hr_back (hr : E.HR P G h w) (hl : Le (E.less h ms) w E' w') (hr' : E'.HR P G h' w') : ∃ O'', Le E w { E' with O := O'' } w' ∧ Env.HR P G { E' with O := O'' } (ZY h h' ms) w' := by
 have hr0 := hr_less (ms := ms) hr
 have msk : ∀ k c, k ∈ ms → h[k]? = some (some c) → w'.heap[(E.ρ k).b]? = w.heap[(E.ρ k).b]? ∧ ¬ E'.O (E.ρ k).b ∧ ¬ E'.I (E.ρ k).b ∧ E'.D k ∧ E'.ρ k = E.ρ k := fun k c hk hc => by
  obtain ⟨h1, h2, h3, h4⟩ := hr.blk k c hc
  obtain ⟨x, y, z⟩ := hl.old _ h3 (fun ho => ho.2 k hk c hc rfl)
  exact ⟨x, y, fun hi => (hr.imm _ (z hi)).2 h2, (hl.D k h1).1, (hl.D k h1).2⟩
 have get : ∀ {k c}, (ZY h h' ms)[k]? = some (some c) → (k ∈ ms ∧ h[k]? = some (some c)) ∨ (k ∉ ms ∧ h'[k]? = some (some c)) := fun {k c} hk => by
  rw [unmaskH_get] at hk
  split at hk
  ·rename_i hm
   simp at hk
   refine .inl ⟨hm.1, ?_⟩
   cases hh : h[k]? with
   | none => simp [hh] at hk
   | some x => simp [hh] at hk; rw [hk]
  ·rename_i hn
   exact .inr ⟨fun hm => hn ⟨hm, (List.getElem?_eq_some_iff.1 hk).1⟩, hk⟩
 refine ⟨fun b => E'.O b ∨ ∃ k ∈ ms, ∃ c, h[k]? = some (some c) ∧ (E.ρ k).b = b, ⟨hl.os, hl.tape, hl.output, hl.size, hl.D, hl.I, fun b hb ho => ?_⟩, ⟨fun k c hk => ?_, fun j k b c hj hk he => ?_, fun k hk => by rw [unmaskH_length]; exact hr'.lt k hk, fun b hb => ?_, fun b hb => ⟨(hr'.imm b hb).1, ?_⟩, hr'.glob⟩⟩
 ·obtain ⟨x, y, z⟩ := hl.old b hb (fun h1 => ho h1.1)
  refine ⟨x, ?_, z⟩
  rintro (h1 | ⟨k, hk, c, hc, rfl⟩)
  ·exact y h1
  ·exact ho (hr.blk k c hc).2.1
 ·rcases get hk with ⟨hm, hk⟩ | ⟨hm, hk⟩
  ·obtain ⟨x1, x2, x3, x4, x5⟩ := msk k c hm hk
   obtain ⟨h1, h2, h3, h4⟩ := hr.blk k c hk
   refine ⟨x4, .inr ⟨k, hm, c, hk, ?_⟩, ?_, less_br' (br_mono h4 x5 (x5 ▸ x1) fun _ _ hv => hl.vr hr0 hv)⟩
   ·simp only; rw [x5]
   ·simp only; rw [x5]; exact Nat.lt_of_lt_of_le h3 hl.size
  ·obtain ⟨h1, h2, h3, h4⟩ := hr'.blk k c hk
   exact ⟨h1, .inl h2, h3, less_br' h4⟩
 ·simp only at he
  rcases get hj with ⟨hjm, hj⟩ | ⟨hjm, hj⟩ <;> rcases get hk with ⟨hkm, hk⟩ | ⟨hkm, hk⟩
  ·rw [(msk j b hjm hj).2.2.2.2, (msk k c hkm hk).2.2.2.2] at he
   exact hr.inj j k b c hj hk he
  ·have := (msk j b hjm hj).2
   rw [this.2.2.2] at he
   exact absurd (he ▸ (hr'.blk k c hk).2.1) this.1
  ·have := (msk k c hkm hk).2
   rw [this.2.2.2] at he
   exact absurd (he ▸ (hr'.blk j b hj).2.1) this.1
  ·exact hr'.inj j k b c hj hk he
 ·rcases hb with hb | ⟨k, hk, c, hc, rfl⟩
  ·exact hr'.own b hb
  ·exact Nat.lt_of_lt_of_le (hr.blk k c hc).2.2.1 hl.size
 ·rintro (h1 | ⟨k, hk, c, hc, rfl⟩)
  ·exact (hr'.imm b hb).2 h1
  ·exact (msk k c hk hc).2.2.1 hb
theorem actD_wp (hT : Zr P G T) (hcall : ∀ f args h v h', Yj T ex f args h = some (v, h') → YD P G f args h v h') (hyld : ∀ i args h v h', yieldF ex i args h = some (v, h') → YieldGood P G i args h v h')
  (hr : E.HR P G h w) (ht : E.LR w t a.tmps) {c : CO} {ops : Array Oper} {un : List Nat} (hc : compCO P G ops un o = some c) (hD : ¬ E.D (base + j)) (hj : h[base + j]? = some none) (hs : actD P T ex base n j c t h = some (v, rd, wr, h1)) {ro : Option Nat} {m : Nat} {next : Act → World → Prop} {Q : Exit → Act → World → Prop}
  (hn : ∀ a' w' E', Le E w E' w' → E'.HR P G h1 w' → E'.LR w' (putT t c.dst v) a'.tmps → a'.defers = a.defers → (∀ k, E'.D k → E.D k ∨ k = base + j ∨ h.length ≤ k) → h.length ≤ h1.length → next a' w') :
  if Region.wanted o (yielded ops a.tmps) then o.wpIn (FW ro) m P a w next Q else (∀ f, o.about P w a.eval = some f → (FW ro).fn f) ∧ next (a.put o.dst undef) w := by
 obtain ⟨hco, hg, hdst, -⟩ := not_yields_defer hc
 rw [hdst] at hn
 unfold actD at hs
 split at hs
 ·simp at hs
 ·rename_i hw
  rw [wanted_eq ht hg hw]
  simp at hs
  obtain ⟨rfl, rfl, rfl, rfl⟩ := hs
  exact ⟨fun _ _ => trivial, hn _ _ E (.refl _ _) hr (lr_put' ht (.und _)) (put_defers _ _ _) (fun _ h => .inl h) (Nat.le_refl _)⟩
 ·rename_i hw
  rw [wanted_eq ht hg hw]
  split at hs
  ·rename_i v rd hd
   simp at hs
   obtain ⟨rfl, rfl, rfl, rfl⟩ := hs
   exact val_wp hr ht hco hd fun u hu => hn _ _ E (.refl _ _) hr (lr_put' ht hu) (put_defers _ _ _) (fun _ h => .inl h) (Nat.le_refl _)
  ·rename_i b f rd hd
   simp at hs
   obtain ⟨rfl, rfl, rfl, rfl⟩ := hs
   have hl := (List.getElem?_eq_some_iff.1 hj).1
   exact makes_wp hr ht (dop_new hr ht hco hd) hco (h1 := h.set (base + j) (some b)) (x := base + j) hD (List.getElem?_set_self hl) (fun k hk => .inl (List.getElem?_set_ne fun e => hk e.symm)) (by simp) fun u w' E' hle hr' ht' hDD => hn _ _ E' hle hr' ht' (put_defers _ _ _) (fun k hk => (hDD k hk).imp id .inl) (by simp)
  ·split at hs
   ·rename_i v' h' hl
    split at hs
    ·rename_i hlen
     simp at hs
     obtain ⟨rfl, rfl, rfl, rfl⟩ := hs
     have ht0 : (E.less h (Xq base n j c)).LR w t a.tmps := ht
     refine loud_wp hT hcall hyld (hr_less hr) ht0 hco hl fun u w' E' hle hr' hu hf hlen' => ?_
     obtain ⟨O'', hle', hr''⟩ := hr_back hr hle hr'
     rw [maskH_length] at hf
     refine hn _ _ { E' with O := O'' } hle' hr'' ?_ (put_defers _ _ _) (fun k hk => (hf k hk).imp id .inr) (by rw [unmaskH_length]; exact hlen)
     exact lr_put' (hle'.lr hr ht) hu
    ·simp at hs
   ·simp at hs
end
end Go.Abs
namespace Go.Abs
open Go
noncomputable section
variable (P : Program) (T : Nat → Option CFn) (ex : Option Nat → CC → St → Option (AEx × St))
def runL (base n : Nat) (l : List CO) : List Nat → DSt → Option DSt
 | [], D => some D
 | j :: xs, D => match l[j]? with
  | some c => match Xp P T ex base n j c D with
   | some D' => runL base n l xs D'
   | none => none
  | none => none
end
section
variable {P : Program} {G : Nat → Option (List Za)} {T : Nat → Option CFn} {ex : Option Nat → CC → St → Option (AEx × St)} {base n : Nat} {l : List CO} {D D' D1 : DSt}
theorem runL_runD : ∀ (l1 : List CO) (j : Nat) (D : DSt), (∀ k, l1[k]? = l[j + k]?) → runD P T ex base n l1 j D = runL P T ex base n l (List.range' j l1.length) D
 | [], _, _, _ => rfl
 | c :: l1, j, D, hl => by
  have h0 : l[j]? = some c := by have := hl 0; simp at this; exact this.symm
  have h1 := runL_runD l1 (j + 1)
  simp only [List.length_cons, List.range'_succ, runL, h0]
  show (match Xp P T ex base n j c D with | some D' => runD P T ex base n l1 (j + 1) D' | none => none) = _
  cases Xp P T ex base n j c D with
  | none => rfl
  | some D1 => exact h1 D1 fun k => by have := hl (k + 1); simp at this; rw [this]; congr 1; omega
structure Open (base n : Nat) (D : DSt) (xs : List Nat) : Prop where
 len : base + n ≤ D.h.length
 hole : ∀ k ∈ xs, k < n ∧ D.h[base + k]? = some none ∧ D.lg[k]? = some none
theorem step_keep {j : Nat} {c : CO} (hs : Xp P T ex base n j c D = some D1) {xs ys : List Nat} (ho : Open base n D ys) (hx : ∀ k ∈ xs, k ∈ ys ∧ k ≠ j ∧ (k ∈ c.un ∨ j ≤ k)) : Open base n D1 xs := by
 obtain ⟨v, rd, wr, h1, ha, hc, rfl⟩ := stepD_inv hs
 have lg : ∀ k, k ≠ j → D.lg[k]? = some none → (D.lg.set j (some (rd, wr)))[k]? = some none := fun k hk h => by rw [List.getElem?_set_ne fun e => hk e.symm]; exact h
 rcases actD_inv ha with ⟨rfl, -⟩ | ⟨b, rfl, -⟩ | ⟨-, -, g, rfl, hlen, -⟩
 ·exact ⟨ho.len, fun k hk => let ⟨h1, h2, _⟩ := hx k hk; let ⟨a, b, d⟩ := ho.hole k h1; ⟨a, b, lg k h2 d⟩⟩
 ·refine ⟨by simpa using ho.len, fun k hk => ?_⟩
  obtain ⟨h1, h2, _⟩ := hx k hk
  obtain ⟨a, b, d⟩ := ho.hole k h1
  exact ⟨a, by simp only; rw [List.getElem?_set_ne (by omega)]; exact b, lg k h2 d⟩
 ·refine ⟨by simp only [unmaskH_length]; exact Nat.le_trans ho.len hlen, fun k hk => ?_⟩
  obtain ⟨h1, h2, h3⟩ := hx k hk
  obtain ⟨a, b, d⟩ := ho.hole k h1
  refine ⟨a, ?_, lg k h2 d⟩
  have := ho.len
  simp only
  rw [unmaskH_get, if_pos ⟨mem_masks.2 (h3.imp id fun h => ⟨h, a⟩), by omega⟩, b]; rfl
structure Fit (l : List CO) : Prop where
 back : ∀ j c, l[j]? = some c → ∀ i ∈ c.un, i < j ∧ ∃ p, l[i]? = some p ∧ apartC p c = true
theorem fit_of (h : drawOk l = true) : Fit l := by
 refine ⟨fun j c hc i hi => ?_⟩
 simp only [drawOk, List.all_eq_true] at h
 have hm : (c, j) ∈ l.zipIdx := by rw [List.mem_zipIdx_iff_getElem?]; exact hc
 have := h (c, j) hm
 simp only [List.all_eq_true, Bool.and_eq_true, decide_eq_true_eq] at this
 obtain ⟨h1, h2⟩ := this i hi
 refine ⟨h1, ?_⟩
 split at h2
 ·rename_i p hp; exact ⟨p, hp, h2⟩
 ·simp at h2
theorem front (hf : Fit l) {i : Nat} {c : CO} (hc : l[i]? = some c) (post : List Nat) : ∀ (pre : List Nat) (D : DSt), (pre ++ i :: post).Pairwise (· < ·) → (∀ k ∈ pre, k ∈ c.un) → Open base n D (pre ++ i :: post) →
    runL P T ex base n l (pre ++ i :: post) D = some D' → ∃ D1, Xp P T ex base n i c D = some D1 ∧ runL P T ex base n l (pre ++ post) D1 = some D'
  | [], D, _, _, _, hr => by
    simp only [List.nil_append, runL, hc] at hr
    split at hr
    · rename_i D1 h1; exact ⟨D1, h1, hr⟩
    · simp at hr
  | p :: pre, D, hp, hu, ho, hr => by
    simp only [List.cons_append, runL] at hr
    split at hr
    · rename_i cp hcp
      split at hr
      · rename_i Dp hDp
        rw [List.cons_append, List.pairwise_cons] at hp
        have hpi : p < i := hp.1 i (by simp)
        have ho' : Open base n Dp (pre ++ i :: post) := step_keep hDp ho fun k hk => ⟨List.mem_cons_of_mem _ hk, by have := hp.1 k hk; omega, .inr (by have := hp.1 k hk; omega)⟩
        obtain ⟨Di, h1, h2⟩ := front hf hc post pre Dp hp.2 (fun k hk => hu k (List.mem_cons_of_mem _ hk)) ho' hr
        have hup := hu p (by simp)
        obtain ⟨hlt, q, hq, hap⟩ := hf.back i c hc p hup
        rw [hcp] at hq
        simp at hq; subst hq
        obtain ⟨g1, g2, g3⟩ := ho.hole p (by simp)
        obtain ⟨f1, f2, f3⟩ := ho.hole i (by simp)
        obtain ⟨D1, e1, e2⟩ := swap hpi f1 hup (fun hm => by have := (hf.back p cp hcp i hm).1; omega) hap ho.len g2 f2 g3 hDp h1
        refine ⟨D1, e1, ?_⟩
        simp only [List.cons_append, runL, hcp, e2, h2]
      · simp at hr
    · simp at hr
structure Edges (ops : Array Oper) (l : List CO) : Prop where
 back : ∀ j o, ops[j]? = some o → ∀ e ∈ o.after, Region.binds .any e = true → e.on < j
 all : ∀ j o c k, ops[j]? = some o → l[j]? = some c → k < j → k ∉ c.un → ∃ e ∈ o.after, Region.binds .any e = true ∧ (e.on = k ∨ (k < e.on ∧ ∃ c', l[e.on]? = some c' ∧ k ∉ c'.un))
theorem edges_of {ops : Array Oper} (h : edgesOk ops l = true) : Edges ops l := by
 simp only [edgesOk, List.all_eq_true, Bool.and_eq_true] at h
 have mem : ∀ {j o}, ops[j]? = some o → (o, j) ∈ ops.toList.zipIdx := fun {j o} ho => by rw [List.mem_zipIdx_iff_getElem?]; simpa using ho
 refine ⟨fun j o ho e he hb => ?_, fun j o c k ho hc hk hu => ?_⟩
 ·have := (h (o, j) (mem ho)).1
  rw [Array.all_eq_true_iff_forall_mem] at this
  have := this e he
  simpa [hb] using this
 ·have := (h (o, j) (mem ho)).2 k (by simpa using hk)
  simp only [hc, Bool.or_eq_true, Array.any_eq_true', Bool.and_eq_true, decide_eq_true_eq] at this
  rcases this with h1 | ⟨e, he, hb, h1⟩
  ·exact absurd (by simpa using h1) hu
  ·refine ⟨e, he, hb, h1.imp id fun ⟨h2, h3⟩ => ⟨h2, ?_⟩⟩
   split at h3
   ·rename_i c' hc'; exact ⟨c', hc', by simpa using h3⟩
   ·simp at h3
theorem drw_spec {ops : Array Oper} {b : Array Nat} : ∀ (os : List Oper) (j : Nat) (l : List CO), compDrw P G ops b j os = some l → l.length = os.length ∧ ∀ (k : Nat) (o : Oper), os[k]? = some o → ∃ (c : CO) (un : List Nat), l[k]? = some c ∧ compCO P G ops un o = some c
 | [], _, l, h => by simp [compDrw] at h; subst h; simp
 | o :: os, j, l, h => by
  simp only [compDrw] at h
  split at h
  ·rename_i c l' hc hl'
   simp at h; subst h
   obtain ⟨h1, h2⟩ := drw_spec os (j + 1) l' hl'
   refine ⟨by simp [h1], fun k o' hk => ?_⟩
   cases k with
   | zero => simp at hk; subst hk; exact ⟨c, _, by simp, hc⟩
   | succ k => simp at hk; obtain ⟨c', un, h3, h4⟩ := h2 k o' hk; exact ⟨c', un, by simpa using h3, h4⟩
  ·simp at h
variable {E E' E'' : Env} {h h' : Zf} {w w' : World} {t t' : List Za} {a : Act}
theorem listed_before {ops : Array Oper} (he : Edges ops l) (S : Nat → Prop) (hS : ∀ j o, S j → ops[j]? = some o → ∀ e ∈ o.after, Region.binds .any e = true → S e.on) :
  ∀ (m j : Nat), j < m → S j → j < ops.size → ∀ c k, l[j]? = some c → k < j → k ∉ c.un → S k := by
 intro m
 induction m with
 | zero => intro j hj; omega
 | succ m ih =>
  intro j hj hSj hjn c k hc hk hu
  have ho : ops[j]? = some ops[j] := Array.getElem?_eq_getElem hjn
  obtain ⟨e, he1, he2, he3⟩ := he.all j _ c k ho hc hk hu
  have hse := hS j _ hSj ho e he1 he2
  have hlt := he.back j _ ho e he1 he2
  rcases he3 with rfl | ⟨h1, c', hc', hu'⟩
  ·exact hse
  ·exact ih e.on (by omega) hse (by omega) c' k hc' h1 hu'
theorem mem_ready {ops : Array Oper} {listed : Array Bool} {i : Nat} : i ∈ Region.ready .any ops listed ↔ i < ops.size ∧ listed.getD i true = false ∧ ∃ o, ops[i]? = some o ∧ ∀ e ∈ o.after, Region.binds .any e = true → listed.getD e.on false = true := by
 simp only [Region.ready, List.mem_filter, List.mem_range, Bool.and_eq_true, Bool.not_eq_true']
 refine ⟨fun ⟨h1, h2, h3⟩ => ⟨h1, h2, ops[i], Array.getElem?_eq_getElem h1, ?_⟩, fun ⟨h1, h2, o, ho, h3⟩ => ⟨h1, h2, ?_⟩⟩
 ·rw [Array.getElem?_eq_getElem h1] at h3
  simp only [Option.map_some, Option.getD_some, Array.all_eq_true_iff_forall_mem, Bool.or_eq_true, Bool.not_eq_true'] at h3
  intro e he hb
  rcases h3 e he with h | h
  ·rw [hb] at h; simp at h
  ·exact h
 ·rw [ho]
  simp only [Option.map_some, Option.getD_some, Array.all_eq_true_iff_forall_mem, Bool.or_eq_true, Bool.not_eq_true']
  intro e he
  cases hb : Region.binds .any e with
  | false => exact .inl rfl
  | true => exact .inr (h3 e he hb)
theorem drw_any (hT : Zr P G T) (hcall : ∀ f args h v h', Yj T ex f args h = some (v, h') → YD P G f args h v h') (hyld : ∀ i args h v h', yieldF ex i args h = some (v, h') → YieldGood P G i args h v h')
    {ops : Array Oper} (hn : n = ops.size) (hll : l.length = ops.size) (hf : Fit l) (he : Edges ops l) (hco : ∀ (k : Nat) (o : Oper), ops[k]? = some o → ∃ (c : CO) (un : List Nat), l[k]? = some c ∧ compCO P G ops un o = some c) {ro : Option Nat} {nn : Nat} {Q : Exit → Act → World → Prop} :
    ∀ (m : Nat) (listed : Array Bool) (xs : List Nat) (E : Env) (w : World) (a : Act) (D : DSt), xs.length = m → listed.size = n → xs.Pairwise (· < ·) → (∀ k, k ∈ xs ↔ k < n ∧ listed.getD k true = false) →
      (∀ j o, listed.getD j false = true → ops[j]? = some o → ∀ e ∈ o.after, Region.binds .any e = true → listed.getD e.on false = true) →
      E.HR P G D.h w → E.LR w D.t a.tmps → Open base n D xs → (∀ k ∈ xs, ¬ E.D (base + k)) → runL P T ex base n l xs D = some D' →
      (∀ a' w' E', Le E w E' w' → E'.HR P G D'.h w' → E'.LR w' D'.t a'.tmps → a'.defers = a.defers → (∀ k, E'.D k → E.D k ∨ base ≤ k) → D.h.length ≤ D'.h.length → Q .normal a' w') →
      wpAnyIn (FW ro) nn P .any ops Q m listed a w := by
  intro m
  induction m with
  | zero =>
    intro listed xs E w a D hm hsz hp hx hcl hr ht ho hD hrun hq
    have hxs : xs = [] := List.length_eq_zero_iff.1 hm
    subst hxs
    simp [runL] at hrun; subst hrun
    refine ⟨?_, hq a w E (.refl _ _) hr ht rfl (fun _ h => .inl h) (Nat.le_refl _)⟩
    rw [List.eq_nil_iff_forall_not_mem]
    intro i hi
    obtain ⟨h1, h2, _⟩ := mem_ready.1 hi
    exact absurd ((hx i).2 ⟨hn ▸ h1, h2⟩) (by simp)
  | succ m ih =>
    intro listed xs E w a D hm hsz hp hx hcl hr ht ho hD hrun hq
    have out : ∀ k, k < n → k ∉ xs → listed.getD k false = true := fun k hk hn' => by
      have : ¬ listed.getD k true = false := fun h => hn' ((hx k).2 ⟨hk, h⟩)
      have hk' : k < listed.size := hsz ▸ hk
      simpa [Array.getD, hk'] using this
    have inn : ∀ k, listed.getD k false = true → k < n ∧ k ∉ xs := fun k hk => by
      have hk' : k < listed.size := by
        by_cases h : k < listed.size
        · exact h
        · simp [Array.getD, h] at hk
      refine ⟨hsz ▸ hk', fun h => ?_⟩
      have := ((hx k).1 h).2
      simp [Array.getD, hk'] at this hk
      simp [this] at hk
    refine ⟨fun hnil => ?_, fun i hi => ?_⟩
    · exfalso
      cases xs with
      | nil => simp at hm
      | cons p xs =>
        have hpn := ((hx p).1 (by simp)).1
        have hps : p < ops.size := hn ▸ hpn
        have : p ∈ Region.ready .any ops listed := mem_ready.2 ⟨hps, ((hx p).1 (by simp)).2, ops[p], Array.getElem?_eq_getElem hps, fun e he1 hb => by
          have hlt := he.back p _ (Array.getElem?_eq_getElem hps) e he1 hb
          refine out e.on (by omega) fun h => ?_
          rw [List.pairwise_cons] at hp
          rcases List.mem_cons.1 h with h | h
          · omega
          · have := hp.1 _ h; omega⟩
        rw [hnil] at this; simp at this
    · obtain ⟨hi1, hi2, o, hio, hed⟩ := mem_ready.1 hi
      have hix : i ∈ xs := (hx i).2 ⟨hn ▸ hi1, hi2⟩
      obtain ⟨c, un, hc, hcc⟩ := hco i o hio
      obtain ⟨pre, post, rfl⟩ := List.append_of_mem hix
      have hpre : ∀ k ∈ pre, k < i := fun k hk => (List.pairwise_append.1 hp).2.2 k hk i (by simp)
      have hun : ∀ k ∈ pre, k ∈ c.un := fun k hk => by
        by_cases hu : k ∈ c.un
        · exact hu
        · exfalso
          have hkx : k ∈ pre ++ i :: post := List.mem_append_left _ hk
          obtain ⟨e, he1, hb, he3⟩ := he.all i o c k hio hc (hpre k hk) hu
          have hl := hed e he1 hb
          rcases he3 with rfl | ⟨h1, c', hc', hu'⟩
          · exact (inn _ hl).2 hkx
          · have := listed_before he (fun j => listed.getD j false = true) hcl (e.on + 1) e.on (by omega) hl (hn ▸ (inn _ hl).1) c' k hc' h1 hu'
            exact (inn _ this).2 hkx
      obtain ⟨D1, h1, h2⟩ := front hf hc post pre D hp hun ho hrun
      obtain ⟨v, rd, wr, hh, ha, hcl', rfl⟩ := stepD_inv h1
      unfold wpOpIn
      simp only [hio]
      refine actD_wp hT hcall hyld hr ht hcc (hD i hix) (ho.hole i hix).2.1 ha fun a' w' E' hle hr' ht' hd hDD hlen => ?_
      have hsub : ∀ k, k ∈ pre ++ post ↔ k ∈ pre ++ i :: post ∧ k ≠ i := fun k => by
        have hpi := List.pairwise_append.1 hp
        have hpost := (List.pairwise_cons.1 hpi.2.1).1
        constructor
        · intro hk
          rcases List.mem_append.1 hk with h | h
          · exact ⟨List.mem_append_left _ h, Nat.ne_of_lt (hpre k h)⟩
          · exact ⟨List.mem_append_right _ (List.mem_cons_of_mem _ h), fun e => by have := hpost k h; omega⟩
        · rintro ⟨hk, hne⟩
          rcases List.mem_append.1 hk with h | h
          · exact List.mem_append_left _ h
          · rcases List.mem_cons.1 h with h | h
            · exact absurd h hne
            · exact List.mem_append_right _ h
      have getS : ∀ (k : Nat) (d : Bool), (listed.setIfInBounds i true).getD k d = if k = i then true else listed.getD k d := fun k d => by
        have hi' : i < listed.size := by rw [hsz, hn]; exact hi1
        rw [Array.getD_eq_getD_getElem?, Array.getD_eq_getD_getElem?, Array.getElem?_setIfInBounds]
        by_cases e : i = k
        · subst e; simp [hi']
        · rw [if_neg e, if_neg fun h => e h.symm]
      refine ih (listed.setIfInBounds i true) (pre ++ post) E' w' a' _ (by simp at hm ⊢; omega) (by simpa using hsz) ?_ (fun k => ?_) (fun j oj hj hoj e he1 hb => ?_) hr' ht' (step_keep h1 ho fun k hk => ?_) (fun k hk hdk => ?_) h2 fun a2 w2 E2 hle2 hr2 ht2 hd2 hD2 hlen2 =>
        hq a2 w2 E2 (hle.trans hle2) hr2 ht2 (hd2.trans hd) (fun k hk => (hD2 k hk).elim (fun h => (hDD k h).imp id fun h => h.elim (fun h => by omega) fun h => by have := ho.len; omega) .inr) (Nat.le_trans hlen hlen2)
      · exact hp.sublist (List.append_sublist_append_left pre |>.2 (List.sublist_cons_self i post))
      · rw [hsub, hx, getS]
        by_cases e : k = i <;> simp [e]
      · rw [getS] at hj ⊢
        by_cases e1 : e.on = i
        · simp [e1]
        · rw [if_neg e1]
          by_cases e2 : j = i
          · subst e2
            rw [hio] at hoj
            simp at hoj; subst hoj
            exact hed e he1 hb
          · rw [if_neg e2] at hj
            exact hcl j oj hj hoj e he1 hb
      · obtain ⟨h3, h4⟩ := (hsub k).1 hk
        refine ⟨h3, h4, ?_⟩
        rcases List.mem_append.1 hk with h | h
        · exact .inl (hun k h)
        · have := (List.pairwise_cons.1 (List.pairwise_append.1 hp).2.1).1 k h
          exact .inr (Nat.le_of_lt this)
      · obtain ⟨h3, h4⟩ := (hsub k).1 hk
        rcases hDD _ hdk with h | h | h
        · exact hD k h3 h
        · omega
        · have := (ho.hole k h3).1
          have := ho.len
          omega
theorem pend_len : ∀ (k n : Nat), (List.replicate n (none : Option Blk))[k]? = if k < n then some none else none := by
 intro k n
 rw [List.getElem?_replicate]
theorem drw_wp (hm : P.follows .mixedOrders = true) (hT : Zr P G T) (hcall : ∀ f args h v h', Yj T ex f args h = some (v, h') → YD P G f args h v h') (hyld : ∀ i args h v h', yieldF ex i args h = some (v, h') → YieldGood P G i args h v h')
  {id : Nat} {ops : Array Oper} {l : List CO} (hl : compDrw P G ops (Region.before ops) 0 ops.toList = some l) (hok : drawOk l = true) (hedg : edgesOk ops l = true) (hr : E.HR P G h w) (ht : E.LR w t a.tmps)
  (hs : runD P T ex h.length l.length l 0 ⟨t, h ++ List.replicate l.length none, List.replicate l.length none⟩ = some D') {ro : Option Nat} {nn : Nat} {Q : Exit → Act → World → Prop}
  (hn : ∀ a' w' E', Nx P G E h w E' D'.h w' → E'.LR w' D'.t a'.tmps → a'.defers = a.defers → Q .normal a' w') : (Code.region id ops true).wpIn (FW ro) nn P Q a w := by
 obtain ⟨hlen, hco⟩ := drw_spec ops.toList 0 l hl
 have hll : l.length = ops.size := by simpa using hlen
 refine wpIn_region_any hm ?_
 rw [runL_runD (l := l) l 0 _ (fun k => by simp)] at hs
 have hr1 : E.HR P G (h ++ List.replicate l.length none) w.drew := by
  have hr' := hr_drew hr
  have get : ∀ {i b}, (h ++ List.replicate l.length none)[i]? = some (some b) → h[i]? = some (some b) := fun {i b} hi => by
   by_cases hi' : i < h.length
   ·rwa [List.getElem?_append_left hi'] at hi
   ·rw [List.getElem?_append_right (by omega), pend_len] at hi
    split at hi <;> simp at hi
  exact ⟨fun i b hi => hr'.blk i b (get hi), fun i j b c hi hj => hr'.inj i j b c (get hi) (get hj), fun i hi => by have := hr'.lt i hi; simp; omega, hr'.own, hr'.imm, hr'.glob⟩
 refine drw_any (base := h.length) (n := l.length) (D' := D') hT hcall hyld hll hll (fit_of hok) (edges_of hedg) (fun k o ho => hco k o (by simpa using ho)) ops.size (Array.replicate ops.size false) (List.range' 0 l.length) E w.drew a
  ⟨t, h ++ List.replicate l.length none, List.replicate l.length none⟩ (by simp [hll]) (by simp [hll]) (List.pairwise_lt_range' (s := 0) (n := l.length)) (fun k => ?_) (fun j o hj => ?_) hr1 (le_drew E w |>.lr hr ht) ⟨by simp, fun k hk => ?_⟩ (fun k hk hd => ?_) hs
  fun a' w' E' hle hr2 ht2 hd2 hD2 hlen2 => hn a' w' E' ⟨(le_drew E w).trans hle, hr2, hD2, by simp at hlen2; omega⟩ ht2 hd2
 ·simp only [List.mem_range'_1, Array.getD_eq_getD_getElem?, Array.getElem?_replicate, ← hll]
  constructor
  ·intro hk; refine ⟨by omega, ?_⟩; rw [if_pos (by omega)]; rfl
  ·intro hk; exact ⟨by omega, by omega⟩
 ·simp only [Array.getD_eq_getD_getElem?, Array.getElem?_replicate] at hj
  split at hj <;> simp at hj
 ·simp only [List.mem_range'_1] at hk
  have hk' : k < l.length := by omega
  refine ⟨hk', ?_, ?_⟩
  ·simp only; rw [List.getElem?_append_right (by omega), pend_len, if_pos (by omega)]
  ·simp only; rw [List.getElem?_replicate, if_pos hk']
 ·have := hr.lt _ hd; omega
end
end Go.Abs
namespace Go.Abs
open Go
def mkd (b : Nat) : Deferred := { target := .collected b, args := #[] }
def Mk (n : Nat) (E : Env) (w : World) (d d' : List Deferred) : Prop :=
 ∃ bs : List Nat, d' = bs.map mkd ++ d ∧ bs.Nodup ∧ ∀ b ∈ bs, n ≤ b ∧ b < w.heap.size ∧ w.heap[b]? = some (.deferred (some [])) ∧ ¬ E.O b ∧ ¬ E.I b
theorem Mk.refl (n : Nat) (E : Env) (w : World) (d : List Deferred) : Mk n E w d d := ⟨[], rfl, by simp, by simp⟩
theorem Mk.le {n : Nat} {E E' : Env} {w w' : World} {d d' : List Deferred} (h : Mk n E w d d') (hl : Le E w E' w') : Mk n E' w' d d' := by
 obtain ⟨bs, h1, h2, h3⟩ := h
 refine ⟨bs, h1, h2, fun b hb => ?_⟩
 obtain ⟨a1, a2, a3, a4, a5⟩ := h3 b hb
 obtain ⟨x, y, z⟩ := hl.old b a2 a4
 exact ⟨a1, Nat.lt_of_lt_of_le a2 hl.size, x ▸ a3, y, fun hi => a5 (z hi)⟩
theorem Mk.trans {n : Nat} {E E' : Env} {w w' : World} {d d1 d2 : List Deferred} (h : Mk n E w d d1) (hl : Le E w E' w') (h' : Mk w.heap.size E' w' d1 d2) (hn : n ≤ w.heap.size) : Mk n E' w' d d2 := by
 have hs : ∃ bs : List Nat, d1 = bs.map mkd ++ d ∧ bs.Nodup ∧ ∀ b ∈ bs, n ≤ b ∧ b < w.heap.size := by
  obtain ⟨bs, h1, h2, h3⟩ := h
  exact ⟨bs, h1, h2, fun b hb => ⟨(h3 b hb).1, (h3 b hb).2.1⟩⟩
 obtain ⟨bs, h1, h2, h3⟩ := h
 obtain ⟨cs, e1, e2, e3⟩ := h'
 refine ⟨cs ++ bs, by rw [e1, h1]; simp, ?_, fun b hb => ?_⟩
 ·rw [List.nodup_append]
  refine ⟨e2, h2, fun x hx y hy e => ?_⟩
  have := (e3 x hx).1
  have := (h3 y hy).2.1
  omega
 ·rcases List.mem_append.1 hb with hb | hb
  ·obtain ⟨a1, a2⟩ := e3 b hb
   exact ⟨by omega, a2⟩
  ·obtain ⟨a1, a2, a3, a4, a5⟩ := h3 b hb
   obtain ⟨x, y, z⟩ := hl.old b a2 a4
   exact ⟨a1, Nat.lt_of_lt_of_le a2 hl.size, x ▸ a3, y, fun hi => a5 (z hi)⟩
section
variable {P : Program} {G : Nat → Option (List Za)} {T : Nat → Option CFn} {E E' E'' : Env} {h h' h'' : Zf} {w w' w'' : World} {t t' : List Za} {a a' a'' : Act} {d d' : List Deferred}
structure Run (P : Program) (G : Nat → Option (List Za)) (E : Env) (h : Zf) (w : World) (d : List Deferred) (E' : Env) (h' : Zf) (w' : World) (t' : List Za) (a' : Act) : Prop where
 nx : Nx P G E h w E' h' w'
 lr : E'.LR w' t' a'.tmps
 mks : Mk w.heap.size E' w' d a'.defers
theorem Run.refl (hr : E.HR P G h w) (ht : E.LR w t a.tmps) : Run P G E h w a.defers E h w t a := ⟨.refl hr, ht, .refl _ _ _ _⟩
theorem Run.trans (x : Run P G E h w d E' h' w' t' a') (y : Run P G E' h' w' a'.defers E'' h'' w'' t a'') : Run P G E h w d E'' h'' w'' t a'' :=
 ⟨x.nx.trans y.nx, y.lr, x.mks.trans y.nx.le y.mks x.nx.le.size⟩
def exOf : AEx → Exit
 | .normal => .normal
 | .exit id => .exit id
 | .ret => .ret
def Post (P : Program) (G : Nat → Option (List Za)) (E : Env) (h : Zf) (w : World) (d : List Deferred) (e : AEx) (σ' : St) : Exit → Act → World → Prop :=
 fun x a' w' => x = exOf e ∧ ∃ E', Run P G E h w d E' σ'.h w' σ'.t a'
theorem lr_trim {n : Nat} {xs : List Za} {cs : Array Value} (hl : E.LR w xs cs) (hx : xs.all (rb n 5) = true) : Env.LR { E with D := fun i => E.D i ∧ i < n } w xs cs :=
 ⟨hl.1, fun j h1 h2 => VR.trim 5 (hl.2 j h1 h2) ((List.all_eq_true.1 hx) _ (List.getElem_mem h1))⟩
theorem br_trim {n i : Nat} {b : Blk} (hb : E.BR P G w i b) (hx : rbB n (some b) = true) : Env.BR P G { E with D := fun i => E.D i ∧ i < n } w i b := by
 cases b with
 | row e rs =>
  obtain ⟨h1, h2, h3, c, el, h4, h5, h6⟩ := hb
  refine ⟨h1, h2, h3, c, el, h4, h5, fun k r hk j x hj => ?_⟩
  obtain ⟨v, g1, g2⟩ := h6 k r hk j x hj
  simp only [rbB, List.all_eq_true] at hx
  exact ⟨v, g1, VR.trim 5 g2 (hx r (List.mem_of_getElem? hk) x (List.mem_of_getElem? hj))⟩
 | map es c =>
  obtain ⟨ces, h1, h2, h3⟩ := hb
  refine ⟨ces, h1, h2, fun j k v b hj => ?_⟩
  obtain ⟨ce, g1, g2, g3, g4⟩ := h3 j k v b hj
  simp only [rbB, List.all_eq_true, Bool.and_eq_true] at hx
  have := hx _ (List.mem_of_getElem? hj)
  exact ⟨ce, g1, VR.trim 5 g2 this.1, VR.trim 5 g3 this.2, g4⟩
 | loop t ps asg bd st pd =>
  obtain ⟨L, h1, h2, h3⟩ := hb
  exact ⟨L, h1, lr_trim h2 hx, h3⟩
theorem trim_ok (hr : E.HR P G h w) (hx : Nx P G E h w E' h' w') {vs : List Za} {cs : Array Value} (hv : E'.LR w' vs cs) :
  ∃ E'', Nx P G E h w E'' (trim h.length vs h') w' ∧ E''.LR w' vs cs ∧ E''.O = E'.O ∧ E''.I = E'.I ∧ E''.ρ = E'.ρ := by
 unfold trim
 split
 ·rename_i hc
  simp only [Bool.and_eq_true] at hc
  have get : ∀ {i b}, (List.take h.length h')[i]? = some (some b) → i < h.length ∧ h'[i]? = some (some b) := fun {i b} hi => by
   have h1 := (List.getElem?_eq_some_iff.1 hi).1
   simp at h1
   have h1' : i < h.length := by omega
   exact ⟨h1', by rwa [List.getElem?_take_of_lt h1'] at hi⟩
  have hl := hx.le
  refine ⟨{ E' with D := fun i => E'.D i ∧ i < h.length }, ⟨⟨hl.os, hl.tape, hl.output, hl.size, fun i hi => ⟨⟨(hl.D i hi).1, hr.lt i hi⟩, (hl.D i hi).2⟩, hl.I, hl.old⟩, ?_, fun j hj => ?_, ?_⟩, lr_trim hv hc.1, rfl, rfl, rfl⟩
  ·refine ⟨fun i b hi => ?_, fun i j b c hi hj he => hx.hr.inj i j b c (get hi).2 (get hj).2 he, fun i hi => ?_, hx.hr.own, hx.hr.imm, fun g r hg => ?_⟩
   ·obtain ⟨h1, h2⟩ := get hi
    obtain ⟨g1, g2, g3, g4⟩ := hx.hr.blk i b h2
    have hm : some b ∈ List.take h.length h' := List.mem_of_getElem? hi
    exact ⟨⟨g1, h1⟩, g2, g3, br_trim g4 (List.all_eq_true.1 hc.2 _ hm)⟩
   ·have := hx.hr.lt i hi.1
    have := hi.2
    simp; omega
   ·have := hx.hr.glob g r hg
    generalize hp : Value.pointer (some ⟨g, 0, none⟩) = pv at this ⊢
    cases this with
    | pv _ _ _ b off cv hb hc h => exact .pv _ _ _ b off cv hb hc h
  ·exact (hx.fr j hj.1)
  ·have := hx.len; simp; omega
 ·exact ⟨E', hx, hv, rfl, rfl, rfl⟩
theorem kill_lr : ∀ (t : List Za) (m : Nat) (cs : Array Value), E.LR w t cs → E.LR w (kill t m) cs := by
 have len : ∀ (t : List Za) (m : Nat), (kill t m).length = t.length := by
  intro t; induction t with
  | nil => intro m; rfl
  | cons x xs ih => intro m; simp [kill, ih]
 have get : ∀ (t : List Za) (m j : Nat) (x : Za), (kill t m)[j]? = some x → x = .any ∨ t[j]? = some x := by
  intro t; induction t with
  | nil => intro m j x h; simp [kill] at h
  | cons y ys ih =>
   intro m j x h
   cases j with
   | zero => simp only [kill, List.getElem?_cons_zero, Option.some.injEq] at h; split at h <;> simp [← h]
   | succ j => simp only [kill, List.getElem?_cons_succ] at h ⊢; exact ih _ j x h
 intro t m cs hl
 rw [lr_iff] at *
 refine ⟨by rw [len]; exact hl.1, fun j x u h1 h2 => ?_⟩
 rcases get t m j x h1 with rfl | h
 ·exact .any _ _
 ·exact hl.2 j x u h h2
section
variable {code : Code} {x y : CC} {c : CV} {l : List CO} {id : Nat}
theorem co_skip (h : YG P G code = some .skip) : code = .skip := by
 cases code with
 | region id ops b => cases b <;> simp only [YG] at h <;> (repeat' split at h) <;> simp at h
 | skip => rfl
 | _ => simp only [YG] at h <;> (repeat' split at h) <;> simp at h
theorem co_ret (h : YG P G code = some .ret) : code = .ret := by
 cases code with
 | region id ops b => cases b <;> simp only [YG] at h <;> (repeat' split at h) <;> simp at h
 | ret => rfl
 | _ => simp only [YG] at h <;> (repeat' split at h) <;> simp at h
theorem co_exit (h : YG P G code = some (.exit id)) : code = .exit id := by
 cases code with
 | region id ops b => cases b <;> simp only [YG] at h <;> (repeat' split at h) <;> simp at h
 | exit i => simp only [YG] at h; simp at h; subst h; rfl
 | _ => simp only [YG] at h <;> (repeat' split at h) <;> simp at h
theorem co_reg (h : YG P G code = some (.reg l)) : ∃ id ops, code = .region id ops false ∧ compOps P G ops ops.toList = some l := by
 cases code with
 | region id ops b =>
  cases b with
  | false =>
   refine ⟨id, ops, rfl, ?_⟩
   simp only [YG] at h
   split at h
   ·rename_i l' hl; simp at h; subst h; exact hl
   ·simp at h
  | true => simp only [YG] at h; (repeat' split at h) <;> simp at h
 | _ => simp only [YG] at h <;> (repeat' split at h) <;> simp at h
theorem co_drw (h : YG P G code = some (.drw l)) : ∃ id ops, code = .region id ops true ∧ compDrw P G ops (Region.before ops) 0 ops.toList = some l ∧ drawOk l = true ∧ edgesOk ops l = true := by
 cases code with
 | region id ops b =>
  cases b with
  | true =>
   refine ⟨id, ops, rfl, ?_⟩
   simp only [YG] at h
   split at h
   ·rename_i l' hl
    split at h
    ·rename_i hc; simp at h; subst h
     simp only [Bool.and_eq_true] at hc
     exact ⟨hl, hc.1, hc.2⟩
    ·simp at h
   ·simp at h
  | false => simp only [YG] at h; (repeat' split at h) <;> simp at h
 | _ => simp only [YG] at h <;> (repeat' split at h) <;> simp at h
theorem co_seq (h : YG P G code = some (.seq x y)) : ∃ p q, code = .seq p q ∧ YG P G p = some x ∧ YG P G q = some y := by
 cases code with
 | seq p q =>
  simp only [YG] at h
  split at h
  ·rename_i h1 h2; simp at h; obtain ⟨rfl, rfl⟩ := h; exact ⟨p, q, rfl, h1, h2⟩
  ·simp at h
 | region id ops b => cases b <;> simp only [YG] at h <;> (repeat' split at h) <;> simp at h
 | _ => simp only [YG] at h <;> (repeat' split at h) <;> simp at h
theorem co_cond (h : YG P G code = some (.cond c x y)) : ∃ o p q, code = .cond o p q ∧ YM G o = some c ∧ YG P G p = some x ∧ YG P G q = some y := by
 cases code with
 | cond o p q =>
  simp only [YG] at h
  split at h
  ·rename_i h0 h1 h2; simp at h; obtain ⟨rfl, rfl, rfl⟩ := h; exact ⟨o, p, q, rfl, h0, h1, h2⟩
  ·simp at h
 | region id ops b => cases b <;> simp only [YG] at h <;> (repeat' split at h) <;> simp at h
 | _ => simp only [YG] at h <;> (repeat' split at h) <;> simp at h
theorem co_block (h : YG P G code = some (.block id x)) : ∃ p, code = .block id p ∧ YG P G p = some x := by
 cases code with
 | block id' p =>
  simp only [YG] at h
  split at h
  ·rename_i h1; simp at h; obtain ⟨rfl, rfl⟩ := h; exact ⟨p, rfl, h1⟩
  ·simp at h
 | region id ops b => cases b <;> simp only [YG] at h <;> (repeat' split at h) <;> simp at h
 | _ => simp only [YG] at h <;> (repeat' split at h) <;> simp at h
theorem co_loop {n : Nat} (h : YG P G code = some (.loop n x)) : ∃ p, code = .loop p ∧ YG P G p = some x := by
 cases code with
 | loop p =>
  simp only [YG] at h
  split at h
  ·rename_i h1; simp at h; obtain ⟨_, rfl⟩ := h; exact ⟨p, rfl, h1⟩
  ·simp at h
 | region id ops b => cases b <;> simp only [YG] at h <;> (repeat' split at h) <;> simp at h
 | _ => simp only [YG] at h <;> (repeat' split at h) <;> simp at h
theorem co_rf {ps : List Nat} (h : YG P G code = some (.rf c ps x y)) : ∃ o qs p q, code = .rangeFunc o qs p q ∧ qs.toList = ps ∧ YM G o = some c ∧ YG P G p = some x ∧ YG P G q = some y := by
 cases code with
 | rangeFunc o qs p q =>
  simp only [YG] at h
  split at h
  ·rename_i h0 h1 h2; simp at h; obtain ⟨rfl, rfl, rfl, rfl⟩ := h; exact ⟨o, qs, p, q, rfl, rfl, h0, h1, h2⟩
  ·simp at h
 | region id ops b => cases b <;> simp only [YG] at h <;> (repeat' split at h) <;> simp at h
 | _ => simp only [YG] at h <;> (repeat' split at h) <;> simp at h
end
end
end Go.Abs
namespace Go.Abs
open Go
section
variable {P : Program} {G : Nat → Option (List Za)} {E E' : Env} {h h' : Zf} {w w' : World} {t : List Za} {tmps : Array Value} {v : Za}
theorem lr_get (ht : E.LR w t tmps) {i : Nat} (hi : t[i]? = some v) : E.VR w v (tmps.getD i undef) := by
 obtain ⟨h1, rfl⟩ := List.getElem?_eq_some_iff.1 hi
 have := ht.2 i h1 (ht.1 ▸ h1)
 have h2 : i < tmps.size := ht.1 ▸ h1
 simpa [Array.getD, h2] using this
theorem loadAt_ptr {ty : TypeId} {cv u : Value} (hl : (Instr.loadAt ty cv).run P w = .ok u w) : (do loadVar ty (← asAddr cv) : Sem Value).run P w = .ok u w := by
 unfold Instr.loadAt at hl
 cases cv with
 | pointer p =>
  cases p with
  | some a => simpa [Instr.sureAddr, asAddr] using hl
  | none => simp [Instr.sureAddr, stuck, Sem.run_bind] at hl
 | _ => simp [Instr.sureAddr, stuck, Sem.run_bind] at hl
def rvF (tmps : Array Value) : ResultVar → Sem Value
 | .tmp t => pure (tmps.getD t undef)
 | .cell a t => do loadVar t (← asAddr (tmps.getD a undef))
theorem results_eq (fn : Func) (tmps : Array Value) : results fn tmps = (do let vs ← fn.results.mapM (rvF tmps); pure (if h : vs.size = 1 then vs[0] else .tuple vs)) := by
 unfold results
 congr 1
theorem res_list (hr : E.HR P G h w) (ht : E.LR w t tmps) : ∀ (rs : List ResultVar) (cs : List CRes) (vs : List Za), compR P rs = some cs → resA t h cs = some vs →
  ∃ us : List Value, (rs.mapM (rvF tmps)).run P w = .ok us w ∧ us.length = vs.length ∧ ∀ (j : Nat) (x : Za) (u : Value), vs[j]? = some x → us[j]? = some u → E.VR w x u
 | [], cs, vs, hc, hv => by
  simp [compR] at hc; subst hc
  simp [resA] at hv; subst hv
  exact ⟨[], by simp, rfl, by simp⟩
 | r :: rs, cs, vs, hc, hv => by
  have key : ∀ (cs' : List CRes) (x : Za) (xs : List Za) (u : Value), compR P rs = some cs' → resA t h cs' = some xs → E.VR w x u → vs = x :: xs →
    ((rvF tmps r).run P w = .ok u w) →
    ∃ us : List Value, ((r :: rs).mapM (rvF tmps)).run P w = .ok us w ∧ us.length = vs.length ∧ ∀ (j : Nat) (x : Za) (u : Value), vs[j]? = some x → us[j]? = some u → E.VR w x u := by
   intro cs' x xs u h1 h2 h3 h4 h5
   obtain ⟨us, g1, g2, g3⟩ := res_list hr ht rs cs' xs h1 h2
   subst h4
   refine ⟨u :: us, ?_, by simp [g2], fun j y z hy hz => ?_⟩
   ·rw [List.mapM_cons]
    simp only [Sem.run_bind]
    rw [h5]
    simp only [Result.andThen_ok, Sem.run_bind, g1, Sem.run_pure]
   ·cases j with
    | zero => simp at hy hz; subst hy; subst hz; exact h3
    | succ j => exact g3 j y z (by simpa using hy) (by simpa using hz)
  cases r with
  | tmp i =>
   simp only [compR] at hc
   split at hc <;> simp at hc
   rename_i cs' hcs
   subst hc
   simp only [resA] at hv
   split at hv <;> simp at hv
   rename_i x xs hx hxs
   rw [Zw] at hx
   exact key cs' x xs _ hcs hxs (lr_get ht hx) hv.symm (by simp [rvF])
  | cell a ty =>
   simp only [compR] at hc
   split at hc
   ·rename_i n cs' hag hsz hcs
    simp at hc; subst hc
    simp only [resA] at hv
    (repeat' split at hv) <;> simp at hv
    rename_i p hp _ _ r o i xs hpt hxs _ x hx
    rw [Zw] at hp
    obtain ⟨u, h1, h2⟩ := load_many hr hag hsz hpt (lr_get ht hp) hx
    exact key cs' x xs u hcs hxs h2 hv.symm (loadAt_ptr h1)
   ·rename_i n cs' hag hsz hcs
    simp at hc; subst hc
    simp only [resA] at hv
    (repeat' split at hv) <;> simp at hv
    rename_i p hp _ _ r o i xs hpt hxs _ x hx
    rw [Zw] at hp
    obtain ⟨u, h1, h2⟩ := load_one hr hag hpt (lr_get ht hp) hx
    exact key cs' x xs u hcs hxs h2 hv.symm (loadAt_ptr h1)
   ·simp at hc
theorem res_run (hr : E.HR P G h w) (ht : E.LR w t tmps) {fn : Func} {cs : List CRes} {vs : List Za} (hc : compR P fn.results.toList = some cs) (hv : resA t h cs = some vs) :
  ∃ u, (results fn tmps).run P w = .ok u w ∧ E.VR w (tupA vs) u := by
 obtain ⟨us, h1, h2, h3⟩ := res_list hr ht _ _ _ hc hv
 refine ⟨if h : us.toArray.size = 1 then us.toArray[0] else .tuple us.toArray, ?_, ?_⟩
 ·rw [results_eq, Array.mapM_eq_mapM_toList]
  simp [h1]
 ·match vs, us, h2, h3 with
  | [], [], _, _ => simp [tupA]; exact .tup _ _ _ rfl fun j h => by simp at h
  | [x], [u], _, h3 => simpa [tupA] using h3 0 x u rfl rfl
  | x :: y :: vs, u :: z :: us, h2, h3 =>
   simp [tupA]
   exact .tup _ _ _ (by simp at h2 ⊢; omega) fun j hj1 hj2 => h3 j _ _ (List.getElem?_eq_getElem hj1) (by simp at hj2 ⊢)
theorem hr_aside (hr : E.HR P G h w) {b : Nat} {o : Obj} (hO : ¬ E.O b) (hI : ¬ E.I b) : E.HR P G h (w.putObj b o) ∧ ∀ {x : Za} {u : Value}, E.VR w x u → E.VR (w.putObj b o) x u := by
 have mv : ∀ {x : Za} {u : Value}, E.VR w x u → E.VR (w.putObj b o) x u := fun hv => VR.mono hv E.D (fun _ h => ⟨h, rfl⟩) fun k hk => ⟨hk, World.putObj_heap_other fun e => hI (e ▸ hk)⟩
 refine ⟨⟨fun i c hi => ?_, hr.inj, hr.lt, fun k hk => by rw [World.putObj_size]; exact hr.own k hk, fun k hk => by rw [World.putObj_size]; exact hr.imm k hk, fun g r hg => mv (hr.glob g r hg)⟩, mv⟩
 obtain ⟨h1, h2, h3, h4⟩ := hr.blk i c hi
 exact ⟨h1, h2, by rw [World.putObj_size]; exact h3, br_mono h4 rfl (World.putObj_heap_other fun e => hO (e ▸ h2)) fun _ _ hv => mv hv⟩
theorem leaves {fn : Func} {cs : List CRes} {vs : List Za} (hc : compR P fn.results.toList = some cs) (hv : resA t h cs = some vs) {k : Nat} {R : Ending → World → Prop} {n : Nat} :
  ∀ (bs : List Nat) (w : World), E.HR P G h w → E.LR w t tmps → bs.Nodup → (∀ b ∈ bs, n ≤ b ∧ b < w.heap.size ∧ w.heap[b]? = some (.deferred (some [])) ∧ ¬ E.O b ∧ ¬ E.I b) →
   (∀ w' u, E.HR P G h w' → E.VR w' (tupA vs) u → w'.os = w.os → w'.tape = w.tape → w'.output = w.output → w'.heap.size = w.heap.size → (∀ b, b < n ∨ E.O b ∨ E.I b → w'.heap[b]? = w.heap[b]?) → R (.returned u) w') →
   LeavesInM (FW none) k P fn tmps R (bs.map mkd) .returning w
 | [], w, hr, ht, _, _, hR => by
  obtain ⟨u, h1, h2⟩ := res_run hr ht hc hv
  exact ⟨u, h1, hR w u hr h2 rfl rfl rfl rfl fun _ _ => rfl⟩
 | b :: bs, w, hr, ht, hn, hb, hR => by
  obtain ⟨a1, a2, a3, a4, a5⟩ := hb b (by simp)
  have hnd := List.nodup_cons.1 hn
  obtain ⟨g1, g2⟩ := hr_aside (o := .deferred none) hr a4 a5
  refine ⟨by simp, .inl ⟨b, _, rfl, run_takeDeferred a3, ?_⟩⟩
  refine leaves (n := n) (k := k) (R := R) hc hv bs _ g1 ⟨ht.1, fun j h1 h2 => g2 (ht.2 j h1 h2)⟩ hnd.2 (fun c hcm => ?_) fun w' u x1 x2 x3 x4 x5 x6 x7 => ?_
  ·obtain ⟨b1, b2, b3, b4, b5⟩ := hb c (List.mem_cons_of_mem _ hcm)
   exact ⟨b1, by rw [World.putObj_size]; exact b2, by rw [World.putObj_heap_other fun (e : c = b) => hnd.1 (by rw [← e]; exact hcm)]; exact b3, b4, b5⟩
  ·refine hR w' u x1 x2 x3 x4 x5 (by rw [x6, World.putObj_size]) fun c hcm => ?_
   rw [x7 c hcm]
   refine World.putObj_heap_other fun e => ?_
   subst e
   rcases hcm with h | h | h
   ·omega
   ·exact a4 h
   ·exact a5 h
end
end Go.Abs
namespace Go.Abs
open Go
section
variable {P : Program} {G : Nat → Option (List Za)} {T : Nat → Option CFn} {ex : Option Nat → CC → St → Option (AEx × St)} {E E' E1 : Env} {h h' h1 : Zf} {w w' w1 : World} {t t1 : List Za} {a a' a1 : Act} {d : List Deferred} {e : AEx} {σ σ' : St} {c : CC} {v : Za}
def Sound (P : Program) (G : Nat → Option (List Za)) (r : Option Nat) (c : CC) (σ : St) (e : AEx) (σ' : St) : Prop :=
 ∀ (code : Code) (E : Env) (w : World) (a : Act) (k : Nat), YG P G code = some (strip c) → E.HR P G σ.h w → E.LR w σ.t a.tmps → (∀ i, r = some i → E.D i) → code.wpIn (FW (r.map fun i => (E.ρ i).b)) k P (Post P G E σ.h w a.defers e σ') a w
theorem post_trans (hx : Run P G E h w d E1 h1 w1 t1 a1) {x : Exit} (hp : Post P G E1 h1 w1 a1.defers e σ' x a' w') : Post P G E h w d e σ' x a' w' :=
 let ⟨h1, E', h2⟩ := hp; ⟨h1, E', hx.trans h2⟩
theorem fw_eq (hl : Le E w E1 w1) {r : Option Nat} (hd : ∀ i, r = some i → E.D i) : FW (r.map fun i => (E1.ρ i).b) = FW (r.map fun i => (E.ρ i).b) := by
 cases r with
 | none => rfl
 | some i => simp only [Option.map_some, (hl.D i (hd i rfl)).2]
theorem replicate_lr (n m : Nat) (hn : n = m) : E.LR w (List.replicate n .und) (Array.replicate m undef) := by
 subst hn
 exact ⟨by simp, fun j h1 h2 => by simp; exact .und _⟩
theorem nx_side (hx : Nx P G E h w E' h' w') {w2 : World} (hr2 : E'.HR P G h' w2) (ho : w2.os = w'.os) (ht : w2.tape = w'.tape) (hu : w2.output = w'.output) (hs : w2.heap.size = w'.heap.size) (hh : ∀ b, b < w.heap.size → w2.heap[b]? = w'.heap[b]?) : Nx P G E h w E' h' w2 :=
 ⟨⟨ho.trans hx.le.os, ht.trans hx.le.tape, hu.trans hx.le.output, by rw [hs]; exact hx.le.size, hx.le.D, hx.le.I, fun b hb hno => let ⟨x, y⟩ := hx.le.old b hb hno; ⟨(hh b hb).trans x, y⟩⟩, hr2, hx.fr, hx.len⟩
theorem Zx {α β : Type} {f : α → Option β} : ∀ {xs : List α} {ys : List β}, Zd f xs = some ys → xs.length = ys.length ∧ ∀ j (h1 : j < xs.length) (h2 : j < ys.length), f xs[j] = some ys[j]
 | [], ys, h => by simp [Zd] at h; subst h; exact ⟨rfl, fun j h1 => by simp at h1⟩
 | x :: xs, ys, h => by
  simp only [Zd] at h
  split at h <;> simp at h
  rename_i y ys' h1 h2
  subst h
  obtain ⟨g1, g2⟩ := Zx h2
  refine ⟨by simp [g1], fun j j1 j2 => ?_⟩
  cases j with
  | zero => exact h1
  | succ j => exact g2 j (by simpa using j1) (by simpa using j2)
theorem frz_ok {nv : Bool} (hr : E.HR P G h w) {I' : Nat → Prop} {ρ' : Nat → Loc} (hD : ∀ i b, h[i]? = some (some b) → I' (E.ρ i).b) (hI : nv = false → ∀ b, E.I b → I' b) :
  ∀ (d : Nat) {v v' : Za} {u : Value}, E.VR w v u → frz nv h d v = some v' → Abs.VR ρ' I' w (fun _ => False) v' u := by
 intro d
 induction d with
 | zero => intro v v' u _ hf; simp [frz] at hf
 | succ d ih =>
  intro v v' u hv hf
  replace hf : frz1 nv h (frz nv h d) v = some v' := hf
  cases hv with
  | any => simp [frz1] at hf
  | und => simp [frz1] at hf
  | bool => simp [frz1] at hf; subst hf; exact .bool _ _
  | int => simp [frz1] at hf; subst hf; exact .int _ _ _
  | nilp => simp [frz1] at hf; subst hf; exact .nilp _
  | nils => simp [frz1] at hf; subst hf; exact .nils _
  | nilm => simp [frz1] at hf; subst hf; exact .nilm _
  | nilf => simp [frz1] at hf; subst hf; exact .nilf _
  | mp => simp [frz1] at hf
  | yld => simp [frz1] at hf
  | fn _ f a b ca cb hla hlb ha hb =>
   simp only [frz1] at hf
   split at hf <;> simp at hf
   rename_i a' b' h1 h2
   subst hf
   obtain ⟨g1, g2⟩ := Zx h1
   obtain ⟨g3, g4⟩ := Zx h2
   exact .fn _ f _ _ ca cb (by omega) (by omega) (fun j j1 j2 => ih (ha j (by omega) j2) (g2 j (by omega) j1)) (fun j j1 j2 => ih (hb j (by omega) j2) (g4 j (by omega) j1))
  | agg _ xs cs hl hx =>
   simp only [frz1] at hf
   split at hf <;> simp at hf
   rename_i ys hy
   subst hf
   obtain ⟨g1, g2⟩ := Zx hy
   exact .agg _ _ cs (by omega) fun j h1 h2 => ih (hx j (by omega) h2) (g2 j (by omega) h1)
  | tup _ xs cs hl hx =>
   simp only [frz1] at hf
   split at hf <;> simp at hf
   rename_i ys hy
   subst hf
   obtain ⟨g1, g2⟩ := Zx hy
   exact .tup _ _ cs (by omega) fun j h1 h2 => ih (hx j (by omega) h2) (g2 j (by omega) h1)
  | pv _ r o b off cv hb hc hx =>
   simp only [frz1] at hf
   split at hf <;> simp at hf
   rename_i hn
   subst hf
   exact .pv _ r o b off cv (hI (by simpa using hn) b hb) hc fun j hj => VR.mono (hx j hj) _ (fun i hi => hi.elim) fun b hb => ⟨hI (by simpa using hn) b hb, rfl⟩
  | vl _ rs t a cap b off e cv hn ht ha hb he hc hx =>
   simp only [frz1] at hf
   cases nv with
   | true =>
    simp at hf
    split at hf <;> simp at hf
    subst hf
    exact .vl _ [] t a cap b off e cv hn ht ha (fun h => absurd rfl h) he hc fun k hk => by simp at hk
   | false =>
    simp at hf
    subst hf
    exact .vl _ rs t a cap b off e cv hn ht ha (fun h => hI rfl b (hb h)) he hc fun k hk j hj => VR.mono (hx k hk j hj) _ (fun i hi => hi.elim) fun b hb => ⟨hI rfl b hb, rfl⟩
  | ref _ i k o hi =>
   simp only [frz1] at hf
   split at hf
   ·rename_i e rs hrow
    split at hf
    ·rename_i r hrk
     split at hf <;> simp at hf
     rename_i r' hr'
     subst hf
     obtain ⟨g1, g2⟩ := Zx hr'
     simp only [rowAt, Zw] at hrow hrk
     split at hrow <;> simp at hrow
     rename_i e1 rs1 hblk
     obtain ⟨rfl, rfl⟩ := hrow
     obtain ⟨_, _, _, b1, b2, b3, c, el, b4, b5, b6⟩ := hr.blk i _ hblk
     have hcell : ∀ j, j < r.length → ∃ v, c[(E.ρ i).d + k * (E.ρ i).e + j]? = some v ∧ ∀ h : j < r.length, E.VR w r[j] v := fun j hj => by
      obtain ⟨v, hv, hvr⟩ := b6 k r hrk j r[j] (List.getElem?_eq_getElem hj)
      rw [← b1] at hv
      exact ⟨v, hv, fun _ => hvr⟩
     refine .pv _ r' o (E.ρ i).b ((E.ρ i).d + k * (E.ρ i).e) (fun j => c.getD ((E.ρ i).d + k * (E.ρ i).e + j) undef) (hD i _ hblk) (fun j hj => ?_) fun j hj => ?_
     ·obtain ⟨v, hv, _⟩ := hcell j (by omega)
      simp [World.cell?, b4, hv, Array.getD_eq_getD_getElem?]
     ·obtain ⟨v, hv, hvr⟩ := hcell j (by omega)
      have := ih (hvr (by omega)) (g2 j (by omega) hj)
      simpa [Array.getD_eq_getD_getElem?, hv] using this
    ·simp at hf
   ·simp at hf
  | sl _ i k n t a cap hi hn ht ha hs =>
   simp only [frz1] at hf
   split at hf
   ·rename_i e rs hrow
    split at hf
    ·rename_i hkn
     split at hf <;> simp at hf
     rename_i rs' hrs
     subst hf
     obtain ⟨g1, g2⟩ := Zx hrs
     simp only [rowAt, Zw] at hrow
     split at hrow <;> simp at hrow
     rename_i e1 rs1 hblk
     obtain ⟨rfl, rfl⟩ := hrow
     obtain ⟨_, _, _, b1, b2, b3, c, el, b4, b5, b6⟩ := hr.blk i _ hblk
     have hlen : ((List.drop k rs1).take n).length = n := by simp; omega
     have hl' : rs'.length = n := by omega
     have hrow : ∀ q (hq : q < n), rs1[k + q]? = some rs1[k + q] ∧ ((List.drop k rs1).take n)[q]'(by omega) = rs1[k + q] := fun q hq => ⟨List.getElem?_eq_getElem (by omega), by simp⟩
     have hel : ∀ q (hq : q < rs'.length), rs'[q].length = e1 := fun q hq => by
      have h1 := (Zx (g2 q (by omega) hq)).1
      rw [← h1, (hrow q (by omega)).2]
      exact b2 _ (List.getElem_mem _)
     have hcell : ∀ q (hq : q < n) j (hj : j < rs1[k + q].length), ∃ v, c[(E.ρ i).d + k * (E.ρ i).e + (q * (E.ρ i).e + j)]? = some v ∧ E.VR w rs1[k + q][j] v := fun q hq j hj => by
      obtain ⟨v, hv, hvr⟩ := b6 (k + q) _ (hrow q hq).1 j _ (List.getElem?_eq_getElem hj)
      refine ⟨v, ?_, hvr⟩
      rw [← hv, b1, Nat.add_mul]
      congr 1; omega
     rw [← hl']
     refine .vl _ rs' t a cap (E.ρ i).b ((E.ρ i).d + k * (E.ρ i).e) (E.ρ i).e (fun j => c.getD ((E.ρ i).d + k * (E.ρ i).e + j) undef) (by omega) (fun h => by rw [hl']; exact ht h) ha (fun _ => hD i _ hblk) (fun q hq => by rw [b1]; exact hel q hq) (fun j hj => ?_) fun q hq j hj => ?_
     ·rw [hl'] at hj
      have he : 0 < (E.ρ i).e := Nat.pos_of_ne_zero fun h => by simp [h] at hj
      have hq : j / (E.ρ i).e < n := Nat.div_lt_of_lt_mul (by rw [Nat.mul_comm]; exact hj)
      have hm : j % (E.ρ i).e < rs1[k + j / (E.ρ i).e].length := by rw [b2 _ (List.getElem_mem _), ← b1]; exact Nat.mod_lt _ he
      obtain ⟨v, hv, _⟩ := hcell _ hq _ hm
      have hjj : j / (E.ρ i).e * (E.ρ i).e + j % (E.ρ i).e = j := Nat.div_add_mod' j _
      rw [hjj] at hv
      simp [World.cell?, b4, hv, Array.getD_eq_getD_getElem?]
     ·obtain ⟨h1, h2⟩ := Zx (g2 q (by omega) hq)
      have e2 := (hrow q (by omega)).2
      have hj2 : j < rs1[k + q].length := by rw [b2 _ (List.getElem_mem _)]; rw [hel q hq] at hj; exact hj
      obtain ⟨v, hv, hvr⟩ := hcell q (by omega) j hj2
      have h3 := h2 j (by rw [h1]; exact hj) hj
      simp only [e2] at h3
      have := ih hvr h3
      simpa [Array.getD_eq_getD_getElem?, hv] using this
    ·simp at hf
   ·simp at hf
theorem orc_good {fn : CFn} {f : Nat} {args : List Za} (horc : ∀ args v, fn.orc args = some v → OrcGood P G fn.frsh f args v) (ho : orcF fn args h = some v) : YD P G f args h v h := by
 intro E w cargs k hr hl
 -- what the run may look at, and what comes of it
 have main : ∀ (as : List Za) (I0 : Nat → Prop), fn.orc as = some v → (∀ b, E.I b → I0 b) → (∀ b, I0 b → b < w.heap.size) → (fn.frsh = false → ∀ b, I0 b → E.I b) → Env.LR ⟨E.ρ, fun _ => False, fun _ => False, I0⟩ w as cargs → CallsIn (FW none) k P f cargs w (RetPost P G E w h.length v h) := by
  intro as I0 hv hI0 hI1 hI2 hl0
  have hr0 : Env.HR P G ⟨E.ρ, fun _ => False, fun _ => False, I0⟩ [] w :=
   ⟨fun i b hi => by simp at hi, fun i j b c hi => by simp at hi, fun i hi => hi.elim, fun b hb => hb.elim, fun b hb => ⟨hI1 b hb, fun h => h⟩, fun g r hg => by
    have := hr.glob g r hg
    generalize hp : Value.pointer (some ⟨g, 0, none⟩) = pv at this ⊢
    cases this with
    | pv _ _ _ b off cv hb hc h => exact .pv _ _ _ b off cv (hI0 b hb) hc fun j hj => VR.mono (h j hj) _ (fun i hi => hi.elim) fun b hb => ⟨hI0 b hb, rfl⟩⟩
  refine CallsIn.mono (horc as v hv _ w cargs k (fun _ h => h) (fun _ h => h) hr0 hl0) ?_
  rintro e w' ⟨u, I', rfl, h1, h2, h3, h4, h5, h6, h7⟩
  have hle : Le E w { E with I := fun b => E.I b ∨ I' b } w' :=
   ⟨h1, h2, h3, h4, fun i hi => ⟨hi, rfl⟩, fun b hb => .inl hb, fun b hb ho => ⟨h5 b hb, ho, fun hi => hi.elim id fun hi => by
    rcases (h6 b hi).2 with h | ⟨hf, h⟩
    ·omega
    ·exact hI2 hf b h⟩⟩
  refine ⟨u, { E with I := fun b => E.I b ∨ I' b }, rfl, hle, ⟨fun i b hi => ?_, hr.inj, hr.lt, fun b hb => Nat.lt_of_lt_of_le (hr.own b hb) h4, fun b hb => ?_, fun g r hg => hle.vr hr (hr.glob g r hg)⟩, ?_, fun _ h => .inl h, Nat.le_refl _⟩
  ·obtain ⟨g1, g2, g3, g4⟩ := hr.blk i b hi
   exact ⟨g1, g2, Nat.lt_of_lt_of_le g3 h4, br_mono g4 rfl (h5 _ g3) fun _ _ hv => hle.vr hr hv⟩
  ·rcases hb with hb | hb
   ·exact ⟨Nat.lt_of_lt_of_le (hr.imm b hb).1 h4, (hr.imm b hb).2⟩
   ·refine ⟨(h6 b hb).1, fun ho => ?_⟩
    rcases (h6 b hb).2 with h | ⟨hf, h⟩
    ·have := hr.own b ho; omega
    ·exact (hr.imm b (hI2 hf b h)).2 ho
  ·exact VR.mono h7 _ (fun i hi => hi.elim) fun b hb => ⟨.inr hb, rfl⟩
 unfold orcF at ho
 split at ho
 ·rename_i as has
  cases hfr : fn.frsh with
  | true =>
   simp only [hfr, if_true] at has
   obtain ⟨g1, g2⟩ := Zx has
   refine main as (fun b => b < w.heap.size) ho (fun b hb => (hr.imm b hb).1) (fun b hb => hb) (fun h => by simp [hfr] at h) ⟨by rw [← g1]; exact hl.1, fun j h1 h2 => ?_⟩
   exact frz_ok hr (fun i b hi => (hr.blk i b hi).2.2.1) (fun _ b hb => (hr.imm b hb).1) 5 (hl.2 j (by omega) h2) (g2 j (by omega) h1)
  | false =>
   simp only [hfr] at has
   simp at has
   obtain ⟨hx, rfl⟩ := has
   refine main args E.I ho (fun b hb => hb) (fun b hb => (hr.imm b hb).1) (fun _ b hb => hb) ⟨hl.1, fun j h1 h2 => ?_⟩
   have := VR.trim 5 (hl.2 j h1 h2) (hx _ (List.getElem_mem h1))
   exact VR.mono this _ (fun i hi => absurd hi.2 (by omega)) fun b hb => ⟨hb, rfl⟩
 ·simp at ho
theorem call_good (hT : Zr P G T) (hex : ∀ r c σ e σ', ex r c σ = some (e, σ') → Sound P G r c σ e σ') (f : Nat) (args : List Za) (h : Zf) (v : Za) (h' : Zf) (hc : Yj T ex f args h = some (v, h')) : YD P G f args h v h' := by
 intro E w cargs k hr hl
 unfold Yj at hc
 cases hTf : T f with
 | none => simp [hTf] at hc
 | some cf =>
 obtain ⟨fn, c, hfn, hb, hname, hcomp, hnt, hres, horc, heff⟩ := hT f cf hTf
 simp only [hTf, ZA] at hc
 cases ho : orcF cf args h with
 | some v1 =>
  simp [ho, Xt] at hc
  obtain ⟨rfl, rfl⟩ := hc
  exact orc_good horc ho E w cargs k hr hl
 | none =>
 simp only [ho] at hc
 cases he : cf.eff args h with
 | some r =>
  simp [he] at hc
  obtain ⟨rfl, rfl⟩ := hc
  exact heff args h _ _ he E w cargs k hr hl
 | none =>
 simp only [he] at hc
 rw [fL_eq _ (fun _ _ => rfl)] at hc
 generalize ht0 : args ++ List.replicate (cf.ntmps - args.length) Za.und = t0 at hc
 cases hrun : ex none cf.body ⟨t0, h⟩ with
 | none => simp [hrun] at hc
 | some p =>
 obtain ⟨e, σ⟩ := p
 have hne : ∀ id, e ≠ .exit id := fun id he => by subst he; simp [hrun] at hc
 cases hv : resA σ.t σ.h cf.res with
 | none => exfalso; cases e <;> simp [hrun, hv] at hc
 | some vs =>
 have hc' : tupA vs = v ∧ trim h.length [tupA vs] σ.h = h' := by
  cases e with
  | exit id => exact absurd rfl (hne id)
  | normal => simpa [hrun, hv, Xt, YA, trimK_eq] using hc
  | ret => simpa [hrun, hv, Xt, YA, trimK_eq] using hc
 obtain ⟨rfl, rfl⟩ := hc'
 have hlr : E.LR w t0 (cargs ++ Array.replicate (fn.ntmps - cargs.size) undef) := by
  subst ht0
  exact lr_app hl (replicate_lr _ _ (by rw [hnt, hl.1]))
 refine callsIn_of_wp_marks hfn hb trivial ?_
 refine wpIn_mono (hex _ _ _ _ _ hrun c E w _ k hcomp hr hlr (by simp)) ?_
 rintro x a' w' ⟨hx, E', hR⟩
 have key : LeavesInM (FW none) k P fn a'.tmps (RetPost P G E w h.length (tupA vs) (trim h.length [tupA vs] σ.h)) a'.defers .returning w' := by
  obtain ⟨bs, hbs, hnd, hall⟩ := hR.mks
  simp only [List.append_nil] at hbs
  rw [hbs]
  refine leaves (n := w.heap.size) (k := k) hres hv bs w' hR.nx.hr hR.lr hnd hall fun w2 u g1 g2 g3 g4 g5 g6 g7 => ?_
  have hx2 := nx_side hR.nx g1 g3 g4 g5 g6 fun b hb => g7 b (.inl hb)
  have hlu : E'.LR w2 [tupA vs] #[u] := ⟨rfl, fun j h1 h2 => by
   have : j = 0 := by simp at h1; omega
   subst this; exact g2⟩
  obtain ⟨E2, hx3, hl3, _⟩ := trim_ok hr hx2 hlu
  exact ⟨u, E2, rfl, hx3.le, hx3.hr, hl3.2 0 (by simp) (by simp), hx3.fr, hx3.len⟩
 cases e with
 | exit id => exact absurd rfl (hne id)
 | normal => subst hx; exact key
 | ret => subst hx; exact key
theorem zip_lr : ∀ (ps : List Nat) (args : List Za) (cargs : List Value) (t : List Za) (ct : Array Value), args.length = cargs.length → (∀ (j : Nat) (x : Za) (u : Value), args[j]? = some x → cargs[j]? = some u → E.VR w x u) → E.LR w t ct →
  E.LR w (setAll t (ps.zip args)) ((ps.zip cargs).foldl (fun tmps (t, a) => tmps.setIfInBounds t a) ct)
 | [], _, _, t, ct, _, _, ht => by simpa [setAll] using ht
 | p :: ps, [], [], t, ct, _, _, ht => by simpa [setAll] using ht
 | p :: ps, [], _ :: _, _, _, hl, _, _ => by simp at hl
 | p :: ps, _ :: _, [], _, _, hl, _, _ => by simp at hl
 | p :: ps, x :: args, u :: cargs, t, ct, hl, hv, ht => by
  simp only [List.zip_cons_cons, setAll, List.foldl_cons]
  exact zip_lr ps args cargs _ _ (by simpa using hl) (fun j y z hy hz => hv (j + 1) y z (by simpa using hy) (by simpa using hz)) (lr_set ht (hv 0 x u rfl rfl))
theorem yield_good (hT : Zr P G T) (hex : ∀ r c σ e σ', ex r c σ = some (e, σ') → Sound P G r c σ e σ') (i : Nat) (args : List Za) (h : Zf) (v : Za) (h' : Zf) (hc : yieldF ex i args h = some (v, h')) : YieldGood P G i args h v h' := by
 intro E w cargs k hr hl
 unfold yieldF at hc
 split at hc
 ·rename_i t ps asg bd pd0 hi
  rw [Zw] at hi
  obtain ⟨hD, hO, hlt, L, hL, hLt, hLp, hLa, hLb, hLs, _⟩ := hr.blk i _ hi
  split at hc
  ·rename_i hlen
   rw [setAllK_eq] at hc
   refine ⟨L, hL, ?_, ?_⟩
   ·rw [← hl.1, hlen, ← hLp]; simp
   have hzip : E.LR w (setAll t (ps.zip args)) ((L.params.zip cargs).foldl (fun tmps (t, a) => tmps.setIfInBounds t a) L.tmps) := by
    have := zip_lr (E := E) (w := w) ps args cargs.toList t L.tmps (by simpa using hl.1) (fun j x u hx hu => by
     obtain ⟨g1, rfl⟩ := List.getElem?_eq_some_iff.1 hx
     obtain ⟨g2, rfl⟩ := List.getElem?_eq_some_iff.1 hu
     simp at g2
     simpa using hl.2 j g1 g2) hLt
    have e : (L.params.zip cargs).foldl (fun tmps (t, a) => tmps.setIfInBounds t a) L.tmps = (L.params.toList.zip cargs.toList).foldl (fun tmps (t, a) => tmps.setIfInBounds t a) L.tmps := by
     rw [← Array.foldl_toList, Array.toList_zip]
    rw [e, hLp]; exact this
   cases h1 : ex (some i) asg ⟨setAll t (ps.zip args), h⟩ with
   | none => simp [h1] at hc
   | some p1 =>
   obtain ⟨e1, σ1⟩ := p1
   cases e1 with
   | exit id => simp [h1] at hc
   | ret => simp [h1] at hc
   | normal =>
   simp only [h1] at hc
   split at hc
   ·rename_i t2 ps2 as2 bd2 pd2 hi2
    rw [Zw] at hi2
    rw [Zv] at hc
    cases h2 : ex (some i) bd ⟨σ1.t, σ1.h.set i (some (.loop t2 ps2 as2 bd2 .busy pd2))⟩ with
    | none => simp [h2] at hc
    | some p2 =>
    obtain ⟨e2, σ2⟩ := p2
    simp only [h2] at hc
    split at hc
    ·rename_i t3 ps3 as3 bd3 st3 pd3 hi3
     rw [Zw] at hi3
     refine roundIn_of_wpIn trivial ?_
     have hDi : ∀ j, some i = some j → E.D j := fun j hj => by simp at hj; subst hj; exact hD
     refine wpIn_mono (hex _ _ _ _ _ h1 L.assign E w _ k hLa hr hzip hDi) ?_
     rintro x a1 w1 ⟨hx, E1, hR1⟩
     simp only [exOf] at hx
     subst hx
     obtain ⟨hD1, hO1, hlt1, L1, hL1, hLt1, hLp1, hLa1, hLb1, hLs1, hLd1⟩ := hR1.nx.hr.blk i _ hi2
     have hρ1 : E1.ρ i = E.ρ i := (hR1.nx.le.D i hD).2
     rw [hρ1] at hL1 hlt1
     refine ⟨_, run_beginRound hL1 hLs1, ?_⟩
     obtain ⟨hle2, hr2⟩ := hr_upd (w' := w1.putObj (E.ρ i).b (.loop { L1 with state := .busy })) (b := .loop t2 ps2 as2 bd2 .busy pd2) hR1.nx.hr hi2 (fun k hk => World.putObj_heap_other (by rw [hρ1] at hk; exact hk)) World.putObj_size rfl rfl rfl (fun hle =>
      ⟨{ L1 with state := .busy }, by rw [hρ1]; exact World.putObj_heap_same hlt1, hle.lr hR1.nx.hr hLt1, hLp1, hLa1, hLb1, rfl, hLd1⟩)
     have hR2 : Run P G E h w [] E1 (σ1.h.set i (some (.loop t2 ps2 as2 bd2 .busy pd2))) (w1.putObj (E.ρ i).b (.loop { L1 with state := .busy })) σ1.t a1 :=
      ⟨hR1.nx.trans ⟨hle2, hr2, .refl _ _, by simp⟩, hle2.lr hR1.nx.hr hR1.lr, hR1.mks.le hle2⟩
     have hDi1 : ∀ j, some i = some j → E1.D j := fun j hj => by simp at hj; subst hj; exact hD1
     have hw := hex _ _ _ _ _ h2 L.body E1 _ a1 k hLb hr2 hR2.lr hDi1
     rw [fw_eq hR1.nx.le hDi] at hw
     refine wpIn_mono hw ?_
     rintro x a3 w3 hp
     obtain ⟨hx, E3, hR3⟩ := post_trans hR2 hp
     obtain ⟨hD3, hO3, hlt3, L3, hL3, hLt3, hLp3, hLa3, hLb3, hLs3, hLd3⟩ := hR3.nx.hr.blk i _ hi3
     have hρ3 : E3.ρ i = E.ρ i := (hR3.nx.le.D i hD).2
     rw [hρ3] at hL3 hlt3
     have fin : ∀ (st : LoopState) (pd : Option CC) (pc : Option Code), pendR pd pc → Nx P G E h w E3 (σ2.h.set i (some (.loop t3 ps3 as3 bd3 st pd))) (w3.putObj (E.ρ i).b (.loop { L3 with state := st, pending := pc })) := fun st pd pc hpd => by
      obtain ⟨hle4, hr4⟩ := hr_upd (w' := w3.putObj (E.ρ i).b (.loop { L3 with state := st, pending := pc })) (b := .loop t3 ps3 as3 bd3 st pd) hR3.nx.hr hi3 (fun k hk => World.putObj_heap_other (by rw [hρ3] at hk; exact hk)) World.putObj_size rfl rfl rfl (fun hle =>
       ⟨{ L3 with state := st, pending := pc }, by rw [hρ3]; exact World.putObj_heap_same hlt3, hle.lr hR3.nx.hr hLt3, hLp3, hLa3, hLb3, rfl, hpd⟩)
      exact hR3.nx.trans ⟨hle4, hr4, .refl _ _, by simp⟩
     cases e2 with
     | normal =>
      simp only [exOf] at hx
      subst hx
      simp only [Zv, YA, trimK_eq] at hc
      simp at hc
      obtain ⟨rfl, rfl⟩ := hc
      have hx4 := fin .ready none none trivial
      obtain ⟨E5, hx5, _⟩ := trim_ok (vs := []) (cs := #[]) hr hx4 ⟨rfl, fun j h1 => by simp at h1⟩
      exact ⟨_, _, run_endRound none hL3, .bool true, E5, rfl, hx5.le, hx5.hr, .bool _ true, hx5.fr, hx5.len⟩
     | ret =>
      simp only [exOf] at hx
      subst hx
      simp only [Zv] at hc
      simp at hc
      obtain ⟨rfl, rfl⟩ := hc
      have hx4 := fin .done (some .ret) (some .ret) trivial
      exact ⟨_, _, run_endRound (some .ret) hL3, .bool false, E3, rfl, hx4.le, hx4.hr, .bool _ false, hx4.fr, hx4.len⟩
     | exit id =>
      simp only [exOf] at hx
      subst hx
      simp only [Zv] at hc
      simp at hc
      obtain ⟨rfl, rfl⟩ := hc
      have hx4 := fin .done (some (.exit id)) (some (.exit id)) rfl
      exact ⟨_, _, run_endRound (some (.exit id)) hL3, .bool false, E3, rfl, hx4.le, hx4.hr, .bool _ false, hx4.fr, hx4.len⟩
    ·simp at hc
   ·simp at hc
  ·simp at hc
 ·simp at hc
end
end Go.Abs
namespace Go.Abs
open Go
section
variable {P : Program} {G : Nat → Option (List Za)} {T : Nat → Option CFn} {ex : Option Nat → CC → St → Option (AEx × St)} {E E' E1 : Env} {h h' h1 : Zf} {w w' w1 : World} {t t1 : List Za} {a a' a1 : Act} {d : List Deferred} {e : AEx} {σ σ' : St} {c : CC} {v : Za}
def SoundLoop (P : Program) (G : Nat → Option (List Za)) (n : Nat) (r : Option Nat) (c : CC) (σ : St) (e : AEx) (σ' : St) : Prop :=
 ∀ (p : Code) (E : Env) (w : World) (a : Act) (k : Nat), YG P G p = some (strip c) → E.HR P G σ.h w → E.LR w σ.t a.tmps → (∀ i, r = some i → E.D i) → Code.roundsIn (FW (r.map fun i => (E.ρ i).b)) k P p (Post P G E σ.h w a.defers e σ') n a w
theorem roundsIn_mono {F : Fence} {k : Nat} {p : Code} {Q Q' : Exit → Act → World → Prop} (hq : ∀ e a w, Q e a w → Q' e a w) : ∀ (n : Nat) (a : Act) (w : World), Code.roundsIn F k P p Q n a w → Code.roundsIn F k P p Q' n a w
 | 0, _, _, h => h.elim
 | n + 1, a, w, h => wpIn_mono h fun e a w q => by
  cases e with
  | normal => exact roundsIn_mono hq n a w q
  | _ => exact hq _ _ _ q
theorem then_post {K : Act → World → Prop} {Q : Exit → Act → World → Prop} {x : Exit} (hp : Post P G E h w d e σ' x a' w') (hn : e = .normal → ∀ E', Run P G E h w d E' σ'.h w' σ'.t a' → K a' w') (hq : e ≠ .normal → Q (exOf e) a' w') : Exit.then K Q x a' w' := by
 obtain ⟨rfl, E', hr⟩ := hp
 cases e with
 | normal => exact hn rfl E' hr
 | exit id => exact hq (by simp)
 | ret => exact hq (by simp)
theorem go_skip (hr : E.HR P G σ.h w) (ht : E.LR w σ.t a.tmps) : Post P G E σ.h w a.defers .normal σ .normal a w := ⟨rfl, E, .refl hr ht⟩
theorem go_back (hr : E.HR P G h w) (hR : Run P G E h w d E' h' w' t1 a') (keep : Nat) : ∃ E2, Run P G E h w d E2 (trim h.length (kill t1 keep) h') w' (kill t1 keep) a' := by
 obtain ⟨E2, h1, h2, h3, h4, _⟩ := trim_ok hr hR.nx (kill_lr t1 keep _ hR.lr)
 refine ⟨E2, h1, h2, ?_⟩
 obtain ⟨bs, g1, g2, g3⟩ := hR.mks
 exact ⟨bs, g1, g2, fun b hb => by rw [h3, h4]; exact g3 b hb⟩
theorem loop_step (n : Nat) {r : Option Nat} {keep : Nat} (hex : ∀ r c σ e σ', ex r c σ = some (e, σ') → Sound P G r c σ e σ') (hlp : ∀ σ e σ', ex r (.loop keep c) σ = some (e, σ') → SoundLoop P G n r c σ e σ')
  (h : Xz P T ex r (.loop keep c) σ = some (e, σ')) : SoundLoop P G (n + 1) r c σ e σ' := by
 intro p E w a k hp hr ht hd
 simp only [Xz, killK_eq] at h
 rw [roundsIn_succ]
 have ht0 := kill_lr σ.t keep _ ht
 cases h1 : ex r c ⟨kill σ.t keep, σ.h⟩ with
 | none => simp [h1] at h
 | some q =>
 obtain ⟨e1, σ1⟩ := q
 refine wpIn_mono (hex _ _ _ _ _ h1 p E w a k hp hr ht0 hd) fun x a' w' hpost => ?_
 by_cases he : e1 = .normal
 ·subst he
  simp only [h1, killK_eq, YA, trimK_eq] at h
  refine then_post hpost (fun _ E' hR => ?_) (fun h => absurd rfl h)
  obtain ⟨E2, hR2⟩ := go_back hr hR keep
  have hd2 : ∀ i, r = some i → E2.D i := fun i hi => (hR2.nx.le.D i (hd i hi)).1
  have := hlp _ _ _ h p E2 w' a' k hp hR2.nx.hr hR2.lr hd2
  rw [fw_eq hR2.nx.le hd] at this
  exact roundsIn_mono (fun x a2 w2 hq => post_trans hR2 hq) n a' w' this
 ·have hh : some (e1, σ1) = some (e, σ') := by
   cases e1 with
   | normal => exact absurd rfl he
   | _ => simpa [h1] using h
  simp at hh
  obtain ⟨rfl, rfl⟩ := hh
  obtain ⟨hx, E', hR⟩ := hpost
  exact then_post ⟨hx, E', hR⟩ (fun h => absurd h he) fun _ => ⟨rfl, E', hR⟩
theorem le_alloc (E : Env) (w : World) (ob : Obj) (hr : ∀ b, E.O b → b < w.heap.size) : Le E w E (w.alloc ob) :=
 ⟨rfl, rfl, rfl, by simp, fun _ h => ⟨h, rfl⟩, fun _ h => h, fun b hb ho => ⟨heap_alloc_old w ob hb, ho, fun h => h⟩⟩
theorem enter_ok (hr : E.HR P G h w) (ht : E.LR w t a.tmps) {fn : FuncId} {qs : Array Tmp} {p q : Code} {asg bd : CC} (hp : YG P G p = some (strip asg)) (hq : YG P G q = some (strip bd)) {r : Option Nat} (hin : inLoop r h = true) :
  ∃ (lb : Nat) (mark : List Deferred) (w1 : World), (Instr.enterLoop fn a.tmps qs p q (r.map fun i => (E.ρ i).b)).run P w = .ok (lb, mark) w1 ∧
   Nx P G E h w (E.add h.length ⟨lb, 0, 0, 0⟩) (h ++ [some (.loop t qs.toList asg bd .ready none)]) w1 ∧ Mk w.heap.size (E.add h.length ⟨lb, 0, 0, 0⟩) w1 d (mark ++ d) := by
 have hD : ¬ E.D h.length := fun hd => Nat.lt_irrefl _ (hr.lt _ hd)
 have fin : ∀ (w0 : World) (L : Loop), Le E w E w0 → (∀ b, b < w.heap.size → w0.heap[b]? = w.heap[b]?) → L.state = .ready → L.pending = none → L.tmps = a.tmps → L.params = qs → L.assign = p → L.body = q →
   Nx P G E h w (E.add h.length ⟨w0.heap.size, 0, 0, 0⟩) (h ++ [some (.loop t qs.toList asg bd .ready none)]) (w0.alloc (.loop L)) := by
  intro w0 L hle hk l1 l2 l3 l4 l5 l6
  have hs := hle.size
  have hle1 := hle.trans (le_add E w0 (.loop L) h.length ⟨w0.heap.size, 0, 0, 0⟩ hD rfl)
  have hlt : ∀ {j c}, h[j]? = some (some c) → (E.ρ j).b < w.heap.size := fun hj => (hr.blk _ _ hj).2.2.1
  refine ⟨hle1, hr_push hr hle1 h rfl (fun j c hj => ⟨hj, ?_, by have := hlt hj; simp only; omega⟩) (by simp) (fun hI => by have := (hr.imm _ hI).1; simp only at this; omega) ⟨L, ?_, ?_, by rw [l4], by rw [l5]; exact hp, by rw [l6]; exact hq, l1, by rw [l2]; trivial⟩, .add _ _ _ (Nat.le_refl _), by simp⟩
  ·rw [heap_alloc_old w0 _ (Nat.lt_of_lt_of_le (hlt hj) hs)]
   exact hk _ (hlt hj)
  ·rw [add_ρ]; exact heap_alloc_new w0 _
  ·rw [l3]; exact hle1.lr hr ht
 cases r with
 | none =>
  have hle := le_alloc E w (.deferred (some [])) hr.own
  refine ⟨w.heap.size + 1, [mkd w.heap.size], _, run_enterLoop_outer fn a.tmps qs p q, ?_, ?_⟩
  ·have := fin (w.alloc (.deferred (some []))) { state := .ready, pending := none, fn, tmps := a.tmps, params := qs, assign := p, body := q, defers := w.heap.size } hle (fun b hb => heap_alloc_old w _ hb) rfl rfl rfl rfl rfl rfl
   simpa using this
  ·refine ⟨[w.heap.size], rfl, by simp, fun b hb => ?_⟩
   have hb' : b = w.heap.size := by simpa using hb
   subst hb'
   refine ⟨Nat.le_refl _, by simp; omega, ?_, ?_, ?_⟩
   ·rw [heap_alloc_old _ _ (by simp)]; exact heap_alloc_new w _
   ·rintro (h1 | h1)
    ·exact Nat.lt_irrefl _ (hr.own _ h1)
    ·simp only at h1; omega
   ·intro h1; exact Nat.lt_irrefl _ (hr.imm _ h1).1
 | some i =>
  simp only [inLoop, Zw] at hin
  split at hin
  ·rename_i t' ps' asg' bd' st' pd' hi
   obtain ⟨_, _, _, L0, hL0, _⟩ := hr.blk i _ hi
   refine ⟨w.heap.size, [], _, run_enterLoop_inner hL0 fn a.tmps qs p q, ?_, .refl _ _ _ _⟩
   exact fin w { state := .ready, pending := none, fn, tmps := a.tmps, params := qs, assign := p, body := q, defers := L0.defers } (.refl _ _) (fun _ _ => rfl) rfl rfl rfl rfl rfl rfl
  ·simp at hin
theorem rf_step (hT : Zr P G T) (hex : ∀ r c σ e σ', ex r c σ = some (e, σ') → Sound P G r c σ e σ') {r : Option Nat} {g : CV} {ps : List Nat} {asg bd : CC}
  (h : Xz P T ex r (.rf g ps asg bd) σ = some (e, σ')) : Sound P G r (.rf g ps asg bd) σ e σ' := by
 intro code E w a k hc hr ht hd
 obtain ⟨o, qs, p, q, rfl, rfl, hg, hp, hq⟩ := co_rf hc
 simp only [Xz] at h
 split at h
 ·rename_i f fa fb hin hev
  simp only [YA, ZA] at h
  cases hcl : Yj T ex f (fa ++ [.yld σ.h.length] ++ fb) (σ.h ++ [some (.loop σ.t qs.toList asg bd .ready none)]) with
  | none => rw [hcl] at h; simp at h
  | some z =>
  obtain ⟨x, h2⟩ := z
  rw [hcl] at h
  simp only at h
  split at h
  ·rename_i t' ps' asg' bd' st pd hn
   rw [Zw] at hn
   split at h
   ·simp at h
   ·rename_i hst
    refine wpIn_rangeFunc fun fn _ => ?_
    obtain ⟨lb, mark, w1, he, hx1, hmk⟩ := enter_ok (d := a.defers) hr ht (fn := fn) (qs := qs) hp hq hin
    have hcallg := call_good hT hex f _ _ _ _ hcl
    have hvf := YB hr ht hg hev
    obtain ⟨ca, cb, e1, l1, l2⟩ := VR.fn_inv hvf
    obtain ⟨cf, hcf⟩ : ∃ cf, T f = some cf := by
     cases hg : T f with
     | none => simp [Yj, hg] at hcl
     | some cf => exact ⟨cf, rfl⟩
    obtain ⟨fnn, c, hfn, hbody, hname, _⟩ := hT f cf hcf
    have hname' : ¬ fnn.name = "runtime.NumGoroutine" := by simpa using hname
    have hl1 : (E.add σ.h.length ⟨lb, 0, 0, 0⟩).LR w1 fa ca := hx1.le.lr hr l1
    have hl2 : (E.add σ.h.length ⟨lb, 0, 0, 0⟩).LR w1 fb cb := hx1.le.lr hr l2
    have hly : (E.add σ.h.length ⟨lb, 0, 0, 0⟩).LR w1 [.yld σ.h.length] #[.func (.yield lb) #[] #[]] := ⟨rfl, fun j h1 h2 => by
     have : j = 0 := by simp at h1; omega
     subst this
     have := VR.yld (ρ := (E.add σ.h.length ⟨lb, 0, 0, 0⟩).ρ) (I := (E.add σ.h.length ⟨lb, 0, 0, 0⟩).I) (w := w1) (E.add σ.h.length ⟨lb, 0, 0, 0⟩).D σ.h.length (.inr rfl)
     rw [add_ρ] at this
     exact this⟩
    have hcalls := hcallg _ w1 (ca ++ #[.func (.yield lb) #[] #[]] ++ cb) (k - 1) hx1.hr (lr_app (lr_app hl1 hly) hl2)
    refine ⟨lb, mark, w1, { target := .fn (.func f) cb, args := ca ++ #[.func (.yield lb) #[] #[]] }, w1, f, ca ++ #[.func (.yield lb) #[] #[]] ++ cb, w1, he, ?_, fun _ _ => trivial, ?_, fun h => by simp at h, ?_⟩
    ·have hev' : a.eval o = .func (.func f) ca cb := e1
     simp [resolve, rangeCall, hev', Deferred.ofValue]
     rfl
    ·simp [invoke, callFunc, hfn, hname', hbody]
    ·refine CallsIn.mono hcalls ?_
     rintro en w3 ⟨u, E3, rfl, hle3, hr3, hu3, hf3, hlen3⟩
     have hR3 : Nx P G E σ.h w E3 h2 w3 := hx1.trans ⟨hle3, hr3, hf3, hlen3⟩
     obtain ⟨hD3, hO3, hlt3, L3, hL3, hLt3, hLp3, hLa3, hLb3, hLs3, hLd3⟩ := hr3.blk _ _ hn
     have hρ3 : E3.ρ σ.h.length = ⟨lb, 0, 0, 0⟩ := by rw [(hle3.D _ (.inr rfl)).2, add_ρ]
     rw [hρ3] at hL3 hlt3 hO3
     simp only at hL3 hlt3 hO3
     have hx4 : Nx P G E3 h2 w3 E3 (h2.set σ.h.length none) (w3.putObj lb (.loop { L3 with state := .exhausted })) := by
      have hle4 : Le E3 w3 E3 (w3.putObj lb (.loop { L3 with state := .exhausted })) := ⟨rfl, rfl, rfl, by simp, fun _ h => ⟨h, rfl⟩, fun _ h => h, fun b hb ho => ⟨World.putObj_heap_other fun e => ho (e ▸ hO3), ho, fun h => h⟩⟩
      have get : ∀ {i b}, (h2.set σ.h.length none)[i]? = some (some b) → h2[i]? = some (some b) ∧ i ≠ σ.h.length := fun {i b} hi => by
       by_cases e : σ.h.length = i
       ·subst e
        have := (List.getElem?_eq_some_iff.1 hn).1
        rw [List.getElem?_set_self this] at hi; simp at hi
       ·rw [List.getElem?_set_ne e] at hi; exact ⟨hi, fun h => e h.symm⟩
      refine ⟨hle4, ⟨fun i b hi => ?_, fun i j b c hi hj he => hr3.inj i j b c (get hi).1 (get hj).1 he, fun i hi => by simpa using hr3.lt i hi, fun b hb => by rw [World.putObj_size]; exact hr3.own b hb, fun b hb => by rw [World.putObj_size]; exact hr3.imm b hb, fun g r hg => hle4.vr hr3 (hr3.glob g r hg)⟩, .refl _ _, by simp⟩
      obtain ⟨g1, g2⟩ := get hi
      obtain ⟨b1, b2, b3, b4⟩ := hr3.blk i b g1
      exact ⟨b1, b2, by rw [World.putObj_size]; exact b3, br_mono b4 rfl (World.putObj_heap_other fun e => g2 (hr3.inj i _ _ _ g1 hn (by rw [e, hρ3]))) fun _ _ hv => hle4.vr hr3 hv⟩
     have hR4 : Run P G E σ.h w a.defers E3 (h2.set σ.h.length none) (w3.putObj lb (.loop { L3 with state := .exhausted })) σ.t { a with defers := mark ++ a.defers } :=
      ⟨hR3.trans hx4, (hR3.trans hx4).le.lr hr ht, (hmk.le hle3).le hx4.le⟩
     have hst' : L3.state ≠ .busy := by rw [hLs3]; exact hst
     refine ⟨_, _, run_endLoop hL3 hst', ?_⟩
     generalize w3.putObj lb (.loop { L3 with state := .exhausted }) = w4 at hR4 ⊢
     cases pd with
     | none =>
      simp only [Zv] at h
      simp at h
      obtain ⟨rfl, rfl⟩ := h
      cases hpend : L3.pending with
      | none => exact ⟨rfl, E3, hR4⟩
      | some c => rw [hpend] at hLd3; exact hLd3.elim
     | some c =>
      simp only [Zv] at h
      have hd4 : ∀ i, r = some i → E3.D i := fun i hi => (hR4.nx.le.D i (hd i hi)).1
      cases hpend : L3.pending with
      | none => rw [hpend] at hLd3; cases c <;> exact hLd3.elim
      | some c' =>
       rw [hpend] at hLd3
       have hcc : YG P G c' = some (strip c) := by
        cases c <;> cases c' <;> simp only [pendR] at hLd3 <;> first | exact hLd3.elim | rfl | (subst hLd3; rfl)
       have := hex _ _ _ _ _ h c' E3 _ { a with defers := mark ++ a.defers } k hcc hR4.nx.hr hR4.lr hd4
       rw [fw_eq hR4.nx.le hd] at this
       exact wpIn_mono this fun x a2 w2 hq => post_trans hR4 hq
  ·simp at h
 ·simp at h
end
end Go.Abs
namespace Go.Abs
open Go
section
variable {P : Program} {G : Nat → Option (List Za)} {T : Nat → Option CFn} {ex : Option Nat → CC → St → Option (AEx × St)} {E E' E0 : Env} {h h' h0 : Zf} {w w' w0 : World} {t t' : List Za} {tmps : Array Value} {a a' : Act} {d : List Deferred} {e : AEx} {σ σ' : St} {c : CC} {v : Za}
variable {E2 : Env} {n : Nat}
theorem frN_succ (n : Nat) (h : Zf) (d : Nat) (v : Za) : frN n h (d + 1) v = frN1 n h (frN n h d) v := rfl
theorem above_get {i : Nat} {b : Blk} (hi : (above n h)[i]? = some (some b)) : n ≤ i ∧ h[i]? = some (some b) := by
 unfold above at hi
 by_cases e : i < n
 ·rw [List.getElem?_append_left (by simpa using e)] at hi
  simp [e] at hi
 ·rw [List.getElem?_append_right (by simpa using e)] at hi
  simp at hi
  rw [show n + (i - n) = i by omega] at hi
  exact ⟨by omega, hi⟩
theorem above_hr (hr : E.HR P G h w) (hn : n ≤ h.length) : E.HR P G (above n h) w :=
  ⟨fun i b hi => hr.blk i b (above_get hi).2, fun i j b c hi hj he => hr.inj i j b c (above_get hi).2 (above_get hj).2 he,
   fun i hi => by have := hr.lt i hi; simp [above]; omega, hr.own, hr.imm, hr.glob⟩
def NewB (E : Env) (n : Nat) (h : Zf) (b : Nat) : Prop := ∃ i c, n ≤ i ∧ h[i]? = some (some c) ∧ (E.ρ i).b = b
theorem frN_ok (hr : E.HR P G h w) (hn : n ≤ h.length) (hρ : E2.ρ = E.ρ) (hD : ∀ i, E.D i → i < n → E2.D i) (hI : ∀ b, E.I b → E2.I b) (hN : ∀ b, NewB E n h b → E2.I b) :
  ∀ (d : Nat) {v v' : Za} {u : Value}, E.VR w v u → frN n h d v = some v' → E2.VR w v' u := by
 intro d
 have fz : ∀ {v v' : Za} {u : Value}, E.VR w v u → frz false (above n h) 5 v = some v' → E2.VR w v' u := fun hv hf =>
  VR.mono (frz_ok (above_hr hr hn) (I' := E2.I) (ρ' := E2.ρ) (fun i b hi => hN _ ⟨i, b, (above_get hi).1, (above_get hi).2, rfl⟩) (fun _ b hb => hI b hb) 5 hv hf) _ (fun i hi => hi.elim) fun b hb => ⟨hb, rfl⟩
 induction d with
 | zero => intro v v' u _ hf; simp [frN] at hf
 | succ d ih =>
  intro v v' u hv hf
  rw [frN_succ] at hf
  cases hv with
  | any => simp [frN1] at hf; subst hf; exact .any _ _
  | und => simp [frN1] at hf; subst hf; exact .und _
  | bool => simp [frN1] at hf; subst hf; exact .bool _ _
  | int => simp [frN1] at hf; subst hf; exact .int _ _ _
  | nilp => simp [frN1] at hf; subst hf; exact .nilp _
  | nils => simp [frN1] at hf; subst hf; exact .nils _
  | nilm => simp [frN1] at hf; subst hf; exact .nilm _
  | nilf => simp [frN1] at hf; subst hf; exact .nilf _
  | mp _ i hi =>
   simp only [frN1] at hf
   split at hf <;> simp at hf
   rename_i hin
   subst hf
   rw [← hρ]
   exact .mp _ i (hD i hi hin)
  | yld _ i hi =>
   simp only [frN1] at hf
   split at hf <;> simp at hf
   rename_i hin
   subst hf
   rw [← hρ]
   exact .yld _ i (hD i hi hin)
  | ref _ i k o hi =>
   simp only [frN1] at hf
   split at hf
   ·rename_i hin
    simp at hf; subst hf
    rw [← hρ]
    exact .ref _ i k o (hD i hi hin)
   ·exact fz (.ref _ i k o hi) hf
  | sl _ i k m t a cap hi hm ht ha hs =>
   simp only [frN1] at hf
   split at hf
   ·rename_i hin
    simp at hf; subst hf
    rw [← hρ] at ha hs
    exact .sl _ i k m t a cap (hD i hi hin) hm ht ha hs
   ·exact fz (.sl _ i k m t a cap hi hm ht ha hs) hf
  | pv _ r o b off cv hb hc hx =>
   simp only [frN1] at hf
   simp at hf; subst hf
   exact .pv _ r o b off cv (hI b hb) hc fun j hj => VR.mono (hx j hj) _ (fun i hi => hi.elim) fun b hb => ⟨hI b hb, rfl⟩
  | vl _ rs t a cap b off e cv hm ht ha hb he hc hx =>
   simp only [frN1] at hf
   simp at hf; subst hf
   exact .vl _ rs t a cap b off e cv hm ht ha (fun h => hI b (hb h)) he hc fun k hk j hj => VR.mono (hx k hk j hj) _ (fun i hi => hi.elim) fun b hb => ⟨hI b hb, rfl⟩
  | agg _ xs cs hl hx =>
   simp only [frN1] at hf
   split at hf <;> simp at hf
   rename_i ys hy
   subst hf
   obtain ⟨g1, g2⟩ := Zx hy
   exact .agg _ _ cs (by omega) fun j h1 h2 => ih (hx j (by omega) h2) (g2 j (by omega) h1)
  | tup _ xs cs hl hx =>
   simp only [frN1] at hf
   split at hf <;> simp at hf
   rename_i ys hy
   subst hf
   obtain ⟨g1, g2⟩ := Zx hy
   exact .tup _ _ cs (by omega) fun j h1 h2 => ih (hx j (by omega) h2) (g2 j (by omega) h1)
  | fn _ f a b ca cb hla hlb ha hb =>
   simp only [frN1] at hf
   split at hf <;> simp at hf
   rename_i a' b' h1 h2
   subst hf
   obtain ⟨g1, g2⟩ := Zx h1
   obtain ⟨g3, g4⟩ := Zx h2
   exact .fn _ f _ _ ca cb (by omega) (by omega) (fun j j1 j2 => ih (ha j (by omega) j2) (g2 j (by omega) j1)) (fun j j1 j2 => ih (hb j (by omega) j2) (g4 j (by omega) j1))
theorem rbB_br (hρ : E2.ρ = E.ρ) (hv : ∀ v u, E.VR w v u → rb n 5 v = true → E2.VR w v u) {i : Nat} {b : Blk} (hb : E.BR P G w i b) (hrb : rbB n (some b) = true) : E2.BR P G w i b := by
 cases b with
 | row e rs =>
  obtain ⟨h1, h2, h3, c, el, h4, h5, h6⟩ := hb
  simp only [rbB, List.all_eq_true] at hrb
  refine ⟨by rw [hρ]; exact h1, h2, by rw [hρ]; exact h3, c, el, by rw [hρ]; exact h4, by rw [hρ]; exact h5, fun k r hk j x hj => ?_⟩
  obtain ⟨v, g1, g2⟩ := h6 k r hk j x hj
  exact ⟨v, by rw [hρ]; exact g1, hv _ _ g2 (hrb _ (List.mem_of_getElem? hk) _ (List.mem_of_getElem? hj))⟩
 | map es c =>
  obtain ⟨ces, h1, h2, h3⟩ := hb
  simp only [rbB, List.all_eq_true] at hrb
  refine ⟨ces, by rw [hρ]; exact h1, h2, fun j k v b hj => ?_⟩
  obtain ⟨ce, g1, g2, g3, g4⟩ := h3 j k v b hj
  have := hrb _ (List.mem_of_getElem? hj)
  simp only [Bool.and_eq_true] at this
  exact ⟨ce, g1, hv _ _ g2 this.1, hv _ _ g3 this.2, g4⟩
 | loop t ps asg bd st pd =>
  obtain ⟨L, h1, h2, h3⟩ := hb
  simp only [rbB, List.all_eq_true] at hrb
  exact ⟨L, by rw [hρ]; exact h1, ⟨h2.1, fun j j1 j2 => hv _ _ (h2.2 j j1 j2) (hrb _ (List.getElem_mem j1))⟩, h3⟩
theorem br_move {i j : Nat} {b : Blk} (hb : E.BR P G w i b) (hρ : E'.ρ j = E.ρ i) (hv : ∀ v cv, E.VR w v cv → E'.VR w v cv) : E'.BR P G w j b := by
 cases b with
 | row e rs =>
  obtain ⟨h1, h2, h3, c, el, h4, h5, h6⟩ := hb
  refine ⟨by rw [hρ]; exact h1, h2, by rw [hρ]; exact h3, c, el, by rw [hρ]; exact h4, by rw [hρ]; exact h5, fun k r hk j x hj => ?_⟩
  obtain ⟨u, h7, h8⟩ := h6 k r hk j x hj
  exact ⟨u, by rw [hρ]; exact h7, hv _ _ h8⟩
 | map es c =>
  obtain ⟨ces, h1, h2, h3⟩ := hb
  refine ⟨ces, by rw [hρ]; exact h1, h2, fun j k v b hj => ?_⟩
  obtain ⟨ce, g1, g2, g3, g4⟩ := h3 j k v b hj
  exact ⟨ce, g1, hv _ _ g2, hv _ _ g3, g4⟩
 | loop t ps asg bd st pd =>
  obtain ⟨L, h1, h2, h3⟩ := hb
  exact ⟨L, by rw [hρ]; exact h1, ⟨h2.1, fun j a b => hv _ _ (h2.2 j a b)⟩, h3⟩
def At (E : Env) (w : World) (tmps : Array Value) : RL → Value → Prop
 | .slot s, cv => ∀ x, tmps[s]? = some x → x = cv
 | .cell i k o, cv => ∀ (c : Array Value) (el : TypeId), w.heap[(E.ρ i).b]? = some (.cells c el (0, 0)) → ∀ x, c[(E.ρ i).d + k * (E.ρ i).e + o]? = some x → x = cv
theorem lr_putG {s : Nat} {cv : Value} (ht : E.LR w t tmps) (ha : At E w tmps (.slot s) cv) (hv : E.VR w v cv) : E.LR w (t.set s v) tmps := by
 rw [lr_iff] at *
 refine ⟨by simp [ht.1], fun j x u h1 h2 => ?_⟩
 by_cases e : s = j
 ·subst e
  have hs : s < t.length := by simpa using (List.getElem?_eq_some_iff.1 h1).1
  rw [List.getElem?_set_self hs] at h1
  simp at h1; subst h1
  rw [ha u h2]; exact hv
 ·rw [List.getElem?_set_ne e] at h1
  exact ht.2 j x u h1 h2
theorem put_ok (hr : E.HR P G h w) (ht : E.LR w t tmps) {p : RL} {cv : Value} (ha : At E w tmps p cv) (hv : E.VR w v cv) (hp : putR v t h p = some (t', h')) :
  E.HR P G h' w ∧ E.LR w t' tmps ∧ h'.length = h.length ∧ ∀ (i : Nat) (c : Blk), h'[i]? = some (some c) → ∃ c', h[i]? = some (some c') := by
 cases p with
 | slot s =>
  simp only [putR, Option.some.injEq, Prod.mk.injEq] at hp
  obtain ⟨rfl, rfl⟩ := hp
  exact ⟨hr, lr_putG ht ha hv, rfl, fun i c hi => ⟨c, hi⟩⟩
 | cell i k o =>
  simp only [putR] at hp
  split at hp
  ·rename_i e rs hrow
   split at hp <;> simp at hp
   rename_i r hk
   obtain ⟨rfl, rfl⟩ := hp
   have hi := rowAt_some hrow
   rw [Zw] at hk
   obtain ⟨_, hlen, hrs⟩ := hr.blk i _ hi
   refine ⟨(hr_upd (w' := w) hr hi (fun _ _ => rfl) rfl rfl rfl rfl (fun _ => ?_)).2, ht, by simp, fun j c hj => ?_⟩
   ·obtain ⟨_, _, _, b1, b2, b3, c, el, b4, b5, b6⟩ := hr.blk i _ hi
    refine ⟨b1, fun q hq => ?_, by simpa using b3, c, el, b4, b5, fun k' r' hk' j x hj => ?_⟩
    ·rcases List.mem_or_eq_of_mem_set hq with hq | rfl
     ·exact b2 q hq
     ·simp; exact b2 r (List.mem_of_getElem? hk)
    ·by_cases hkk : k = k'
     ·subst hkk
      have hlt : k < rs.length := (List.getElem?_eq_some_iff.1 hk).1
      rw [List.getElem?_set_self hlt] at hk'
      simp at hk'; subst hk'
      by_cases hoj : o = j
      ·subst hoj
       have ho : o < r.length := by simpa using (List.getElem?_eq_some_iff.1 hj).1
       rw [List.getElem?_set_self ho] at hj
       simp at hj; subst hj
       obtain ⟨u, g1, g2⟩ := b6 k r hk o _ (List.getElem?_eq_getElem ho)
       refine ⟨u, g1, ?_⟩
       have := ha c el b4 u (by rw [← g1, b1])
       rw [this]; exact hv
      ·rw [List.getElem?_set_ne hoj] at hj
       exact b6 k r hk j x hj
     ·rw [List.getElem?_set_ne hkk] at hk'
      exact b6 k' r' hk' j x hj
   ·by_cases hij : i = j
    ·subst hij; exact ⟨_, hi⟩
    ·rw [List.getElem?_set_ne hij] at hj; exact ⟨c, hj⟩
  ·simp at hp
theorem drop_ok (hr : E.HR P G h w) (b : Nat) : E.HR P G (h.set b none) w := by
 have get : ∀ {i c}, (h.set b none)[i]? = some (some c) → h[i]? = some (some c) := fun {i c} hi => by
  by_cases e : b = i
  ·subst e
   by_cases hb : b < h.length
   ·rw [List.getElem?_set_self hb] at hi; simp at hi
   ·rw [List.getElem?_eq_none (by simp; omega)] at hi; simp at hi
  ·rwa [List.getElem?_set_ne e] at hi
 exact ⟨fun i c hi => hr.blk i c (get hi), fun i j c d hi hj he => hr.inj i j c d (get hi) (get hj) he, fun i hi => by simpa using hr.lt i hi, hr.own, hr.imm, hr.glob⟩
def SlAt (l : Loc) (k n : Nat) (t : Bool) (cv : Value) : Prop := ∃ a cap, cv = .slice (some a) n cap ∧ n ≤ cap ∧ (t = true → cap = n) ∧ (cap = 0 ∨ a = ⟨l.b, l.d + k * l.e, none⟩) ∧ l.d + (k + cap) * l.e ≤ l.s
def AccOk (P : Program) (G : Nat → Option (List Za)) (E : Env) (w : World) (tmps : Array Value) (hF : Zf) : List (Option GA) → Prop
 | [] => True
 | none :: acc => AccOk P G E w tmps hF acc
 | some x :: acc => ((∃ cv, At E w tmps x.p cv ∧ SlAt (E.ρ x.b) x.k x.n x.tt cv) ∧ E.O (E.ρ x.b).b ∧ (E.ρ x.b).b < w.heap.size ∧ E.BR P G w x.b x.blk ∧ (∀ i c, hF[i]? = some (some c) → (E.ρ i).b ≠ (E.ρ x.b).b) ∧
   ∀ y, some y ∈ acc → (E.ρ y.b).b ≠ (E.ρ x.b).b) ∧ AccOk P G E w tmps hF acc
theorem at_of (hr : E.HR P G h w) (ht : E.LR w t tmps) {p : RL} (hp : getR t h p = some v) : ∃ cv, At E w tmps p cv ∧ E.VR w v cv := by
 cases p with
 | slot s =>
  simp only [getR, Zw] at hp
  have h1 := (List.getElem?_eq_some_iff.1 hp).1
  have h2 : s < tmps.size := ht.1 ▸ h1
  refine ⟨tmps[s], fun x hx => ?_, ?_⟩
  ·rw [Array.getElem?_eq_getElem h2] at hx; simpa using hx.symm
  ·have := ht.2 s h1 h2
   rw [List.getElem?_eq_getElem h1] at hp
   simp at hp; subst hp; exact this
 | cell i k o =>
  simp only [getR] at hp
  split at hp
  ·rename_i e rs hrow
   split at hp <;> (try (simp at hp; done))
   rename_i r hk
   rw [Zw] at hk hp
   obtain ⟨_, _, _, b1, b2, b3, c, el, b4, b5, b6⟩ := hr.blk i _ (rowAt_some hrow)
   obtain ⟨u, g1, g2⟩ := b6 k r hk o v hp
   refine ⟨u, fun c' el' hc x hx => ?_, g2⟩
   rw [b4] at hc
   simp at hc
   obtain ⟨rfl, rfl⟩ := hc
   rw [b1, g1] at hx
   simpa using hx.symm
  ·simp at hp
theorem take_ok : ∀ (gs : List GL) (t : List Za) (h : Zf) (t1 : List Za) (h1 : Zf) (acc : List (Option GA)), E.HR P G h w → E.LR w t tmps → takeG gs t h = some (t1, h1, acc) →
  E.HR P G h1 w ∧ E.LR w t1 tmps ∧ h1.length = h.length ∧ (∀ (i : Nat) (c : Blk), h1[i]? = some (some c) → ∃ c', h[i]? = some (some c')) ∧ AccOk P G E w tmps h1 acc ∧ (∀ y : GA, some y ∈ acc → ∃ c', h[y.b]? = some (some c'))
 | [], t, h, t1, h1, acc, hr, ht, hg => by
  simp only [takeG, Option.some.injEq, Prod.mk.injEq] at hg
  obtain ⟨rfl, rfl, rfl⟩ := hg
  exact ⟨hr, ht, rfl, fun i c hi => ⟨c, hi⟩, trivial, by simp⟩
 | g :: gs, t, h, t1, h1, acc, hr, ht, hg => by
  simp only [takeG] at hg
  split at hg
  ·rename_i p hp
   split at hg
   ·rename_i b k n tt hget
    split at hg
    ·rename_i e rs hrow
     split at hg
     ·rename_i t2 h2 hput
      split at hg <;> simp at hg
      rename_i t3 h3 acc3 htk
      obtain ⟨rfl, rfl, rfl⟩ := hg
      have hb := rowAt_some hrow
      obtain ⟨cv, hat, hv⟩ := at_of hr ht hget
      obtain ⟨aa, cap, hcv, hD, q1, q2, q3, q4⟩ := VR.sl_inv hv
      obtain ⟨x1, x2, x3, x4⟩ := put_ok (drop_ok hr b) ht hat (.any _ _) hput
      obtain ⟨y1, y2, y3, y4, y5, y6⟩ := take_ok gs t2 h2 t3 h3 acc3 x1 x2 htk
      have sub : ∀ i c, h2[i]? = some (some c) → i ≠ b ∧ ∃ c', h[i]? = some (some c') := fun i c hi => by
       obtain ⟨c', hc'⟩ := x4 i c hi
       have hib : i ≠ b := by
        intro e; subst e
        rw [List.getElem?_set_self (List.getElem?_eq_some_iff.1 hb).1] at hc'; simp at hc'
       refine ⟨hib, c', ?_⟩
       rwa [List.getElem?_set_ne (fun e => hib e.symm)] at hc'
      obtain ⟨b1, b2, b3, b4⟩ := hr.blk b _ hb
      refine ⟨y1, y2, by rw [y3, x3]; simp, fun i c hi => ?_, ⟨⟨⟨cv, hat, aa, cap, hcv, q1, q2, q3, q4⟩, b2, b3, b4, fun i c hi he => ?_, fun y hy he => ?_⟩, y5⟩, fun y hy => ?_⟩
      ·obtain ⟨c', hc'⟩ := y4 i c hi
       exact (sub i c' hc').2
      ·obtain ⟨c', hc'⟩ := y4 i c hi
       obtain ⟨hne, c2, hc2⟩ := sub i c' hc'
       exact hne (hr.inj i b _ _ hc2 hb he)
      ·obtain ⟨c', hc'⟩ := y6 y hy
       obtain ⟨hne, c2, hc2⟩ := sub y.b c' hc'
       exact hne (hr.inj y.b b _ _ hc2 hb he)
      ·rcases List.mem_cons.1 hy with e | hy
       ·simp at e; subst e; exact ⟨_, hb⟩
       ·obtain ⟨c', hc'⟩ := y6 y hy
        exact (sub y.b c' hc').2
     ·simp at hg
    ·simp at hg
   ·split at hg <;> simp at hg
    rename_i t3 h3 acc3 htk
    obtain ⟨rfl, rfl, rfl⟩ := hg
    obtain ⟨y1, y2, y3, y4, y5, y6⟩ := take_ok gs t h t3 h3 acc3 hr ht htk
    exact ⟨y1, y2, y3, y4, y5, fun y hy => by
     rcases List.mem_cons.1 hy with e | hy
     ·simp at e
     ·exact y6 y hy⟩
   ·simp at hg
  ·simp at hg
def BRL (P : Program) (G : Nat → Option (List Za)) (E : Env) (w : World) (l : Loc) (b : Blk) : Prop := ∃ (E1 : Env) (i : Nat), E1.ρ i = l ∧ E1.BR P G w i b ∧ ∀ v cv, E1.VR w v cv → E.VR w v cv
def PutOk (P : Program) (G : Nat → Option (List Za)) (E : Env) (w : World) (tmps : Array Value) (h : Zf) (L : Nat → Loc) (n0 : Nat) : List (Option GA) → Prop
 | [] => True
 | none :: acc => PutOk P G E w tmps h L n0 acc
 | some x :: acc => ((∃ cv, At E w tmps x.p cv ∧ SlAt (L x.b) x.k x.n x.tt cv) ∧ E.O (L x.b).b ∧ (L x.b).b < w.heap.size ∧ BRL P G E w (L x.b) x.blk ∧ (∀ i c, h[i]? = some (some c) → (E.ρ i).b ≠ (L x.b).b) ∧
   lowR n0 x.p = true ∧ ∀ y, some y ∈ acc → (L y.b).b ≠ (L x.b).b) ∧ PutOk P G E w tmps h L n0 acc
theorem putok_mono {L : Nat → Loc} {n0 : Nat} {l : Loc} (hO : ∀ b, E.O b → E'.O b) (hv : ∀ v cv, E.VR w v cv → E'.VR w v cv) (hρ : ∀ i, i < n0 → E'.ρ i = E.ρ i) :
  ∀ (acc : List (Option GA)), (∀ i c, h'[i]? = some (some c) → (∃ c', h[i]? = some (some c') ∧ E'.ρ i = E.ρ i) ∨ E'.ρ i = l) → (∀ y, some y ∈ acc → (L y.b).b ≠ l.b) → PutOk P G E w tmps h L n0 acc → PutOk P G E' w tmps h' L n0 acc
 | [], _, _, _ => trivial
 | none :: acc, hh, hl, hp => putok_mono hO hv hρ acc hh (fun y hy => hl y (List.mem_cons_of_mem _ hy)) hp
 | some x :: acc, hh, hl, ⟨⟨⟨cv, ha, hs⟩, h1, h2, ⟨E1, i, e1, e2, e3⟩, h4, h5, h6⟩, hp⟩ => by
  refine ⟨⟨⟨cv, ?_, hs⟩, hO _ h1, h2, ⟨E1, i, e1, e2, fun v cv h => hv _ _ (e3 _ _ h)⟩, fun i c hi => ?_, h5, h6⟩, putok_mono hO hv hρ acc hh (fun y hy => hl y (List.mem_cons_of_mem _ hy)) hp⟩
  ·cases hp : x.p with
   | slot s => rw [hp] at ha; exact ha
   | cell i k o =>
    rw [hp] at ha h5
    simp only [lowR, decide_eq_true_eq] at h5
    simp only [At] at *
    rw [hρ i h5]; exact ha
  ·rcases hh i c hi with ⟨c', hc', e⟩ | e
   ·rw [e]; exact h4 i c' hc'
   ·rw [e]; exact fun e => hl x (by simp) e.symm
theorem hr_none (hr : E.HR P G h w) : E.HR P G (h ++ [none]) w := by
 have get : ∀ {i c}, (h ++ [none])[i]? = some (some c) → h[i]? = some (some c) := fun {i c} hi => by
  by_cases hl : i < h.length
  ·rwa [List.getElem?_append_left hl] at hi
  ·rw [List.getElem?_append_right (by omega)] at hi
   have : i - h.length = 0 := by
    have := (List.getElem?_eq_some_iff.1 hi).1
    simp at this; omega
   rw [this] at hi; simp at hi
 exact ⟨fun i c hi => hr.blk i c (get hi), fun i j c d hi hj he => hr.inj i j c d (get hi) (get hj) he, fun i hi => by have := hr.lt i hi; simp; omega, hr.own, hr.imm, hr.glob⟩
theorem putG_ok {L : Nat → Loc} {n0 : Nat} : ∀ (acc : List (Option GA)) (E : Env) (t : List Za) (h : Zf) (t' : List Za) (h' : Zf), n0 ≤ h.length → E.HR P G h w → E.LR w t tmps → PutOk P G E w tmps h L n0 acc → putG acc t h = some (t', h') →
  ∃ E', Nx P G E h w E' h' w ∧ E'.LR w t' tmps ∧ (∀ b, E'.O b → E.O b) ∧ E'.I = E.I
 | [], E, t, h, t', h', hn, hr, ht, hp, hg => by
  simp only [putG, Option.some.injEq, Prod.mk.injEq] at hg
  obtain ⟨rfl, rfl⟩ := hg
  exact ⟨E, .refl hr, ht, fun _ h => h, rfl⟩
 | none :: acc, E, t, h, t', h', hn, hr, ht, hp, hg => by
  simp only [putG] at hg
  have hp' : PutOk P G E w tmps (h ++ [none]) L n0 acc := by
   refine putok_mono (E' := E) (l := ⟨w.heap.size, 0, 0, 0⟩) (fun _ h => h) (fun _ _ h => h) (fun _ _ => rfl) acc (fun i c hi => .inl ?_) (fun y hy e => ?_) hp
   ·by_cases hl : i < h.length
    ·rw [List.getElem?_append_left hl] at hi; exact ⟨c, hi, rfl⟩
    ·rw [List.getElem?_append_right (by omega)] at hi
     have : i - h.length = 0 := by
      have := (List.getElem?_eq_some_iff.1 hi).1
      simp at this; omega
     rw [this] at hi; simp at hi
   ·have key : ∀ (acc : List (Option GA)), PutOk P G E w tmps h L n0 acc → ∀ y, some y ∈ acc → (L y.b).b < w.heap.size := by
     intro acc
     induction acc with
     | nil => intro _ y hy; simp at hy
     | cons z acc ih =>
      intro hp y hy
      cases z with
      | none => exact ih hp y (by simpa using hy)
      | some z =>
       rcases List.mem_cons.1 hy with e | hy
       ·simp at e; subst e; exact hp.1.2.2.1
       ·exact ih hp.2 y hy
    have := key acc hp y hy
    rw [e] at this
    exact Nat.lt_irrefl _ this
  obtain ⟨E', g1, g2, g3, g4⟩ := putG_ok acc E t (h ++ [none]) t' h' (by simp; omega) (hr_none hr) ht hp' hg
  have hx : Nx P G E h w E (h ++ [none]) w := ⟨.refl _ _, hr_none hr, .refl _ _, by simp⟩
  exact ⟨E', hx.trans g1, g2, g3, g4⟩
 | some x :: acc, E, t, h, t', h', hn, hr, ht, ⟨⟨⟨cv, ha, hs⟩, h1, h2, ⟨E1, i, e1, e2, e3⟩, h4, h5, h6⟩, hp⟩, hg => by
  simp only [putG] at hg
  split at hg
  ·rename_i t2 h2' hput
   have hD : ¬ E.D h.length := fun hd => Nat.lt_irrefl _ (hr.lt _ hd)
   have hρ : ∀ j, j ≠ h.length → (E.add h.length (L x.b)).ρ j = E.ρ j := fun j hj => by simp [Env.add, hj]
   have hle : Le E w (E.add h.length (L x.b)) w := ⟨rfl, rfl, rfl, Nat.le_refl _, fun j hj => ⟨.inl hj, hρ j fun e => hD (e ▸ hj)⟩, fun _ hb => hb, fun k hk ho => ⟨rfl, by
    rintro (g1 | g1)
    ·exact ho g1
    ·rw [g1] at ho; exact ho h1, fun h => h⟩⟩
   have hv : ∀ v cv, E.VR w v cv → (E.add h.length (L x.b)).VR w v cv := fun _ _ hv => hle.vr hr hv
   have hr1 : (E.add h.length (L x.b)).HR P G (h ++ [some x.blk]) w := hr_push hr hle h rfl (fun j c hj => ⟨hj, rfl, h4 j c hj⟩) h2 (fun hI => (hr.imm _ hI).2 h1) (br_move e2 (by rw [add_ρ, e1]) fun _ _ g => hv _ _ (e3 _ _ g))
   have ht1 : (E.add h.length (L x.b)).LR w t tmps := hle.lr hr ht
   have ha1 : At (E.add h.length (L x.b)) w tmps x.p cv := by
    cases hxp : x.p with
    | slot s => rw [hxp] at ha; exact ha
    | cell i k o =>
     rw [hxp] at ha h5
     simp only [lowR, decide_eq_true_eq] at h5
     simp only [At] at *
     rw [hρ i (by omega)]; exact ha
   have hsv : (E.add h.length (L x.b)).VR w (.sl h.length x.k x.n x.tt) cv := by
    obtain ⟨aa, cap, rfl, q1, q2, q3, q4⟩ := hs
    exact .sl _ _ _ _ _ aa cap (.inr rfl) q1 q2 (by rw [add_ρ]; exact q3) (by rw [add_ρ]; exact q4)
   obtain ⟨x1, x2, x3, x4⟩ := put_ok hr1 ht1 ha1 hsv hput
   have hp' : PutOk P G (E.add h.length (L x.b)) w tmps h2' L n0 acc := by
    refine putok_mono (E' := E.add h.length (L x.b)) (l := L x.b) (fun _ h => .inl h) hv (fun i hi => hρ i (by omega)) acc (fun i c hi => ?_) h6 hp
    obtain ⟨c', hc'⟩ := x4 i c hi
    by_cases hl : i < h.length
    ·rw [List.getElem?_append_left hl] at hc'
     exact .inl ⟨c', hc', hρ i (by omega)⟩
    ·have : i < (h ++ [some x.blk]).length := (List.getElem?_eq_some_iff.1 hc').1
     simp at this
     obtain rfl : i = h.length := by omega
     exact .inr (add_ρ _ _)
   have hlen : h2'.length = h.length + 1 := by rw [x3]; simp
   obtain ⟨E', g1, g2, g3, g4⟩ := putG_ok acc _ t2 h2' t' h' (by omega) x1 x2 hp' hg
   have hx : Nx P G E h w (E.add h.length (L x.b)) h2' w := ⟨hle, x1, .add _ _ _ (Nat.le_refl _), by omega⟩
   exact ⟨E', hx.trans g1, g2, fun b hb => (g3 b hb).elim id fun e => e ▸ h1, g4⟩
  ·simp at hg
theorem gather_ok {base : Nat} {gs : List GL} (hr0 : E0.HR P G h0 w0) (hb : h0.length = base) (hx : Nx P G E0 h0 w0 E h w) (ht : E.LR w t tmps) (hg : gather base gs t h = some (t', h')) :
  ∃ E', Nx P G E0 h0 w0 E' h' w ∧ E'.LR w t' tmps ∧ (∀ b, E'.O b → E.O b) ∧ (∀ b, E'.I b → E.I b ∨ E.O b) := by
 subst hb
 unfold gather at hg
 split at hg
 ·rename_i t1 h1 acc htk
  split at hg
  ·rename_i hc
   simp only [Bool.and_eq_true] at hc
   obtain ⟨⟨hc1, hc2⟩, hc3⟩ := hc
   obtain ⟨y1, y2, y3, y4, y5, y6⟩ := take_ok gs t h t1 h1 acc hx.hr ht htk
   have get : ∀ {i b}, (List.take h0.length h1)[i]? = some (some b) → i < h0.length ∧ h1[i]? = some (some b) := fun {i b} hi => by
    have g1 := (List.getElem?_eq_some_iff.1 hi).1
    simp at g1
    have g1' : i < h0.length := by omega
    exact ⟨g1', by rwa [List.getElem?_take_of_lt g1'] at hi⟩
   have hl := hx.le
   have hx2 : Nx P G E0 h0 w0 { E with D := fun i => E.D i ∧ i < h0.length } (h1.take h0.length) w := by
    refine ⟨⟨hl.os, hl.tape, hl.output, hl.size, fun i hi => ⟨⟨(hl.D i hi).1, hr0.lt i hi⟩, (hl.D i hi).2⟩, hl.I, hl.old⟩, ?_, fun j hj => ?_, ?_⟩
    ·refine ⟨fun i b hi => ?_, fun i j b c hi hj he => y1.inj i j b c (get hi).2 (get hj).2 he, fun i hi => ?_, y1.own, y1.imm, fun g r hg => ?_⟩
     ·obtain ⟨h1, h2⟩ := get hi
      obtain ⟨g1, g2, g3, g4⟩ := y1.blk i b h2
      exact ⟨⟨g1, h1⟩, g2, g3, br_trim g4 (List.all_eq_true.1 hc2 _ (List.mem_of_getElem? hi))⟩
     ·have := y1.lt i hi.1
      have := hi.2
      simp; omega
     ·have := y1.glob g r hg
      generalize hp : Value.pointer (some ⟨g, 0, none⟩) = pv at this ⊢
      cases this with
      | pv _ _ _ b off cv hb hc h => exact .pv _ _ _ b off cv hb hc h
    ·exact hx.fr j hj.1
    ·have := hx.len; simp; omega
   have ht2 : Env.LR { E with D := fun i => E.D i ∧ i < h0.length } w t1 tmps := lr_trim y2 hc1
   have hp : PutOk P G { E with D := fun i => E.D i ∧ i < h0.length } w tmps (h1.take h0.length) E.ρ h0.length acc := by
    clear hg y6 htk
    induction acc with
    | nil => trivial
    | cons x acc ih =>
     simp only [List.all_cons, Bool.and_eq_true] at hc3
     cases x with
     | none => exact ih hc3.2 y5
     | some x =>
      obtain ⟨⟨⟨cv, a1, a2⟩, a3, a4, a5, a6, a7⟩, a8⟩ := y5
      have h3 := hc3.1
      simp only [okG, Bool.and_eq_true] at h3
      refine ⟨⟨⟨cv, ?_, a2⟩, a3, a4, ⟨{ E with D := fun i => E.D i ∧ i < h0.length }, x.b, rfl, br_trim a5 h3.1, fun _ _ h => h⟩, fun i c hi => a6 i c (get hi).2, h3.2, a7⟩, ih hc3.2 a8⟩
      cases hxp : x.p with
      | slot s => rw [hxp] at a1; exact a1
      | cell i k o => rw [hxp] at a1; exact a1
   obtain ⟨E', g1, g2, g3, g4⟩ := putG_ok (L := E.ρ) (n0 := h0.length) acc _ t1 _ t' h' (by have := hx2.len; exact this) hx2.hr ht2 hp hg
   exact ⟨E', hx2.trans g1, g2, g3, fun b hb => .inl (by rw [g4] at hb; exact hb)⟩
  ·rename_i hneg
   clear hneg
   split at hg <;> (try (simp at hg; done))
   rename_i hc
   split at hg <;> (try (simp at hg; done))
   rename_i acc2 hfz
   simp only [Bool.and_eq_true] at hc
   obtain ⟨⟨hc1, hc2⟩, hc3⟩ := hc
   obtain ⟨y1, y2, y3, y4, y5, y6⟩ := take_ok gs t h t1 h1 acc hx.hr ht htk
   have hlen : h0.length ≤ h1.length := by have := hx.len; omega
   have get : ∀ {i b}, (List.take h0.length h1)[i]? = some (some b) → i < h0.length ∧ h1[i]? = some (some b) := fun {i b} hi => by
    have g1 := (List.getElem?_eq_some_iff.1 hi).1
    simp at g1
    have g1' : i < h0.length := by omega
    exact ⟨g1', by rwa [List.getElem?_take_of_lt g1'] at hi⟩
   have hl := hx.le
   let E2 : Env := ⟨E.ρ, fun i => E.D i ∧ i < h0.length, fun b => E.O b ∧ ¬ NewB E h0.length h1 b, fun b => E.I b ∨ NewB E h0.length h1 b⟩
   have hD2 : ∀ i, E.D i → i < h0.length → E2.D i := fun i h1 h2 => ⟨h1, h2⟩
   have hI2 : ∀ b, E.I b → E2.I b := fun b hb => .inl hb
   have hN2 : ∀ b, NewB E h0.length h1 b → E2.I b := fun b hb => .inr hb
   have hvr : ∀ (d : Nat) {v v' : Za} {u : Value}, E.VR w v u → frN h0.length h1 d v = some v' → E2.VR w v' u := fun d _ _ _ => frN_ok (E2 := E2) y1 hlen rfl hD2 hI2 hN2 d
   have hlo : ∀ v u, E.VR w v u → rb h0.length 5 v = true → E2.VR w v u := fun v u hv hb =>
    VR.mono (VR.trim 5 hv hb) _ (fun i hi => ⟨⟨hi.1, hi.2⟩, rfl⟩) fun b hb => ⟨.inl hb, rfl⟩
   have hNO : ∀ b, NewB E h0.length h1 b → E.O b := fun b ⟨i, c, _, hi, he⟩ => he ▸ (y1.blk i c hi).2.1
   have hx2 : Nx P G E0 h0 w0 E2 (h1.take h0.length) w := by
    refine ⟨⟨hl.os, hl.tape, hl.output, hl.size, fun i hi => ⟨⟨(hl.D i hi).1, hr0.lt i hi⟩, (hl.D i hi).2⟩, fun b hb => .inl (hl.I b hb), fun b hb ho =>
     ⟨(hl.old b hb ho).1, fun h => (hl.old b hb ho).2.1 h.1, fun h => h.elim (hl.old b hb ho).2.2 fun h => absurd (hNO b h) (hl.old b hb ho).2.1⟩⟩, ?_, fun j hj => hx.fr j hj.1, ?_⟩
    ·refine ⟨fun i b hi => ?_, fun i j b c hi hj he => y1.inj i j b c (get hi).2 (get hj).2 he, fun i hi => ?_, fun b hb => y1.own b hb.1, fun b hb => ?_, fun g r hg => ?_⟩
     ·obtain ⟨hin, hb⟩ := get hi
      obtain ⟨b1, b3, b4, b5⟩ := y1.blk i b hb
      refine ⟨⟨b1, hin⟩, ⟨b3, fun ⟨j, c, hj1, hj2, hj3⟩ => ?_⟩, b4, rbB_br (E := E) (E2 := E2) rfl hlo b5 (List.all_eq_true.1 hc2 _ (List.mem_of_getElem? hi))⟩
      have := y1.inj j i c b hj2 hb hj3
      omega
     ·have := hi.2
      simp; omega
     ·rcases hb with hb | hb
      ·exact ⟨(y1.imm b hb).1, fun h => (y1.imm b hb).2 h.1⟩
      ·obtain ⟨i, c, _, hi, he⟩ := id hb
       exact ⟨he ▸ (y1.blk i c hi).2.2.1, fun h => h.2 hb⟩
     ·have := y1.glob g r hg
      generalize hp : Value.pointer (some ⟨g, 0, none⟩) = pv at this ⊢
      cases this with
      | pv _ _ _ b off cv hb hc h => exact .pv _ _ _ b off cv (hI2 b hb) hc fun j hj => VR.mono (h j hj) _ (fun i hi => hi.elim) fun b hb => ⟨hI2 b hb, rfl⟩
    ·have := hx.len; simp; omega
   have ht2 : E2.LR w t1 tmps := ⟨y2.1, fun j j1 j2 => hlo _ _ (y2.2 j j1 j2) (List.all_eq_true.1 hc1 _ (List.getElem_mem j1))⟩
   have hp : PutOk P G E2 w tmps (h1.take h0.length) E.ρ h0.length acc2 ∧ ∀ y, some y ∈ acc2 → ∃ z, some z ∈ acc ∧ z.b = y.b := by
    clear hg y6 htk
    induction acc generalizing acc2 with
    | nil => simp only [frzG, Option.some.injEq] at hfz; subst hfz; exact ⟨trivial, by simp⟩
    | cons x acc ih =>
     simp only [List.all_cons, Bool.and_eq_true] at hc3
     cases x with
     | none =>
      simp only [frzG] at hfz
      split at hfz <;> simp at hfz
      rename_i acc3 h3
      subst hfz
      obtain ⟨k1, k2⟩ := ih acc3 h3 hc3.2 y5
      refine ⟨k1, fun y hy => ?_⟩
      obtain ⟨z, hz, e⟩ := k2 y (by simpa using hy)
      exact ⟨z, by simp [hz], e⟩
     | some x =>
      obtain ⟨⟨⟨cv, a1, a2⟩, a3, a4, a5, a6, a7⟩, a8⟩ := y5
      obtain ⟨xp, xb, xk, xn, xt, blk⟩ := x
      cases blk with
      | map => simp [frzG] at hfz
      | loop => simp [frzG] at hfz
      | row e rs =>
       simp only [frzG] at hfz
       split at hfz <;> simp at hfz
       rename_i rs2 acc3 hrs h3
       subst hfz
       obtain ⟨k1, k2⟩ := ih acc3 h3 hc3.2 a8
       have hlw := hc3.1
       simp only [lowA] at hlw
       refine ⟨⟨⟨⟨cv, ?_, a2⟩, ⟨a3, fun ⟨j, c, _, hj2, hj3⟩ => a6 j c hj2 hj3⟩, a4, ⟨E2, xb, rfl, ?_, fun _ _ h => h⟩, fun i c hi => a6 i c (get hi).2, hlw, fun y hy => ?_⟩, k1⟩, fun y hy => ?_⟩
       ·cases xp with
        | slot s => exact a1
        | cell i k o => exact a1
       ·obtain ⟨k1, k2⟩ := Zx hrs
        obtain ⟨c1, c2, c3, c, el, c4, c5, c6⟩ := a5
        refine ⟨c1, fun r hr => ?_, by rw [← k1]; exact c3, c, el, c4, c5, fun k r hk j x hj => ?_⟩
        ·obtain ⟨q, hq, rfl⟩ := List.mem_iff_getElem.1 hr
         rw [← (Zx (k2 q (by omega) hq)).1]
         exact c2 _ (List.getElem_mem _)
        ·obtain ⟨hk1, rfl⟩ := List.getElem?_eq_some_iff.1 hk
         obtain ⟨hj1, rfl⟩ := List.getElem?_eq_some_iff.1 hj
         obtain ⟨q1, q2⟩ := Zx (k2 k (by omega) hk1)
         obtain ⟨v, m1, m2⟩ := c6 k _ (List.getElem?_eq_getElem (by omega)) j _ (List.getElem?_eq_getElem (by omega))
         exact ⟨v, m1, hvr 5 m2 (q2 j (by omega) hj1)⟩
       ·obtain ⟨z, hz, e⟩ := k2 y hy
        have := a7 z hz
        rwa [e] at this
       ·rcases List.mem_cons.1 hy with e | hy
        ·simp at e; subst e; exact ⟨⟨xp, xb, xk, xn, xt, .row e rs⟩, by simp, rfl⟩
        ·obtain ⟨z, hz, e⟩ := k2 y hy
         exact ⟨z, by simp [hz], e⟩
   obtain ⟨E', g1, g2, g3, g4⟩ := putG_ok (L := E.ρ) (n0 := h0.length) acc2 _ t1 _ t' h' (by have := hx2.len; exact this) hx2.hr ht2 hp.1 hg
   exact ⟨E', hx2.trans g1, g2, fun b hb => (g3 b hb).1, fun b hb => by
    rw [g4] at hb
    exact hb.imp id fun h => hNO b h⟩
 ·simp at hg
theorem go_gather {base : Nat} {gs : List GL} (hr0 : E0.HR P G h0 w0) (hb : h0.length = base) (hR : Run P G E0 h0 w0 d E h w t a) (keep : Nat) (hg : gather base gs (kill t keep) h = some (t', h')) : ∃ E2, Run P G E0 h0 w0 d E2 h' w t' a := by
 obtain ⟨E2, h1, h2, h3, h4⟩ := gather_ok hr0 hb hR.nx (kill_lr t keep _ hR.lr) hg
 refine ⟨E2, h1, h2, ?_⟩
 obtain ⟨bs, g1, g2, g3⟩ := hR.mks
 exact ⟨bs, g1, g2, fun b hb => by
  obtain ⟨a1, a2, a3, a4, a5⟩ := g3 b hb
  exact ⟨a1, a2, a3, fun h => a4 (h3 b h), fun h => (h4 b h).elim a5 a4⟩⟩
def SoundN (P : Program) (G : Nat → Option (List Za)) (n : Nat) (r : Option Nat) (base : Nat) (c : CC) (σ : St) (e : AEx) (σ' : St) : Prop :=
 ∀ (p : Code) (E0 : Env) (h0 : Zf) (w0 : World) (d : List Deferred) (E : Env) (w : World) (a : Act) (k : Nat), YG P G p = some (strip c) → h0.length = base → E0.HR P G h0 w0 → Run P G E0 h0 w0 d E σ.h w σ.t a → (∀ i, r = some i → E0.D i) →
  Code.roundsIn (FW (r.map fun i => (E0.ρ i).b)) k P p (Post P G E0 h0 w0 d e σ') n a w
theorem loopN_step (n : Nat) {r : Option Nat} {base keep : Nat} {gs : List GL} (hex : ∀ r c σ e σ', ex r c σ = some (e, σ') → Sound P G r c σ e σ') (hlp : ∀ σ e σ', ex r (.loopN base keep gs c) σ = some (e, σ') → SoundN P G n r base c σ e σ')
  (h : Xz P T ex r (.loopN base keep gs c) σ = some (e, σ')) : SoundN P G (n + 1) r base c σ e σ' := by
 intro p E0 h0 w0 d E w a k hp hb hr0 hR hd
 simp only [Xz] at h
 rw [roundsIn_succ]
 cases h1 : ex r c σ with
 | none => simp [h1] at h
 | some q =>
 obtain ⟨e1, σ1⟩ := q
 have hd1 : ∀ i, r = some i → E.D i := fun i hi => (hR.nx.le.D i (hd i hi)).1
 have hw := hex _ _ _ _ _ h1 p E w a k hp hR.nx.hr hR.lr hd1
 rw [fw_eq hR.nx.le hd] at hw
 refine wpIn_mono hw fun x a' w' hpost => ?_
 have hpost := post_trans hR hpost
 by_cases he : e1 = .normal
 ·subst he
  simp only [h1, killK_eq] at h
  split at h
  ·rename_i t1 h1' hg
   refine then_post hpost (fun _ E' hR' => ?_) (fun h => absurd rfl h)
   obtain ⟨E2, hR2⟩ := go_gather hr0 hb hR' keep hg
   exact hlp _ _ _ h p E0 h0 w0 d E2 w' a' k hp hb hr0 hR2 hd
  ·simp at h
 ·have hh : some (e1, σ1) = some (e, σ') := by
   cases e1 with
   | normal => exact absurd rfl he
   | _ => simpa [h1] using h
  simp at hh
  obtain ⟨rfl, rfl⟩ := hh
  obtain ⟨hx, E', hR⟩ := hpost
  exact then_post ⟨hx, E', hR⟩ (fun h => absurd h he) fun _ => ⟨rfl, E', hR⟩
theorem loopG_step (n : Nat) {r : Option Nat} {keep : Nat} {gs : List GL} (hlp : ∀ base σ e σ', ex r (.loopN base keep gs c) σ = some (e, σ') → SoundN P G n r base c σ e σ')
  (h : Xz P T ex r (.loopG keep gs c) σ = some (e, σ')) (p : Code) (E : Env) (w : World) (a : Act) (k : Nat) (hp : YG P G p = some (strip c)) (hr : E.HR P G σ.h w) (ht : E.LR w σ.t a.tmps) (hd : ∀ i, r = some i → E.D i) :
  Code.roundsIn (FW (r.map fun i => (E.ρ i).b)) k P p (Post P G E σ.h w a.defers e σ') n a w := by
 simp only [Xz, killK_eq] at h
 split at h
 ·rename_i t1 h1 hg
  obtain ⟨E2, hR2⟩ := go_gather hr rfl (.refl hr ht) keep hg
  exact hlp _ _ _ _ h p E σ.h w a.defers E2 w a k hp rfl hr hR2 hd
 ·simp at h
theorem co_loop0 {code : Code} {m : Nat} {x : CC} (h : YG P G code = some (.loop m x)) : m = 0 := by
 cases code with
 | loop p =>
  simp only [YG] at h
  split at h
  ·simp at h; exact h.1.symm
  ·simp at h
 | region id ops b => cases b <;> simp only [YG] at h <;> (repeat' split at h) <;> simp at h
 | _ => simp only [YG] at h <;> (repeat' split at h) <;> simp at h
end
end Go.Abs
namespace Go.Abs
open Go
theorem onlyJ_get {J : List Nat} : ∀ {h : Zf} {k i : Nat} {b : Blk}, (onlyJ J k h)[i]? = some (some b) → (k + i) ∈ J ∧ h[i]? = some (some b)
 | [], k, i, b, hi => by simp [onlyJ] at hi
 | c :: h, k, 0, b, hi => by
  simp only [onlyJ, List.getElem?_cons_zero, Option.some.injEq] at hi
  split at hi
  ·rename_i hc
   exact ⟨by simpa using hc, by simp [hi]⟩
  ·simp at hi
 | c :: h, k, i + 1, b, hi => by
  simp only [onlyJ, List.getElem?_cons_succ] at hi
  have := onlyJ_get (k := k + 1) hi
  exact ⟨by rw [show k + (i + 1) = k + 1 + i by omega]; exact this.1, by simpa using this.2⟩
theorem onlyJ_len (J : List Nat) : ∀ (h : Zf) (k : Nat), (onlyJ J k h).length = h.length
 | [], _ => rfl
 | c :: h, k => by simp only [onlyJ, List.length_cons, onlyJ_len J h (k + 1)]
section
variable {P : Program} {G : Nat → Option (List Za)} {E E0 : Env} {h h0 h' : Zf} {w w0 : World} {t t' : List Za} {a : Act} {d : List Deferred}
theorem onlyJ_hr (hr : E.HR P G h w) (J : List Nat) : E.HR P G (onlyJ J 0 h) w :=
 ⟨fun i b hi => hr.blk i b (onlyJ_get hi).2, fun i j b c hi hj he => hr.inj i j b c (onlyJ_get hi).2 (onlyJ_get hj).2 he, fun i hi => by rw [onlyJ_len]; exact hr.lt i hi, hr.own, hr.imm, hr.glob⟩
theorem set_none_get {i j : Nat} {b : Blk} (hj : (h.set i none)[j]? = some (some b)) : j ≠ i ∧ h[j]? = some (some b) := by
 by_cases e : i = j
 ·subst e
  rcases Nat.lt_or_ge i h.length with hl | hl
  ·rw [List.getElem?_set_self hl] at hj; simp at hj
  ·rw [List.getElem?_eq_none (by simp; omega)] at hj; simp at hj
 ·rw [List.getElem?_set_ne e] at hj
  exact ⟨fun h => e h.symm, hj⟩
theorem freeze_one {s i k n : Nat} {tt : Bool} {v : Za} {cs : Array Value} (hr : E.HR P G h w) (ht : E.LR w t cs) (hs : t[s]? = some (.sl i k n tt)) (hv : frz false (onlyJ [i] 0 h) 5 (.sl i k n tt) = some v) :
  ∃ E2 : Env, Nx P G E h w E2 (h.set i none) w ∧ E2.LR w (t.set s v) cs ∧ (∀ b, E2.O b → E.O b) ∧ ∀ b, E2.I b → E.I b ∨ E.O b := by
 let B : Nat → Prop := fun b => ∃ c, h[i]? = some (some c) ∧ (E.ρ i).b = b
 have hB : ∀ b, B b → E.O b ∧ b < w.heap.size := by
  rintro b ⟨c, hi, rfl⟩
  obtain ⟨_, h2, h3, _⟩ := hr.blk i c hi
  exact ⟨h2, h3⟩
 let E2 : Env := ⟨E.ρ, E.D, fun b => E.O b ∧ ¬ B b, fun b => E.I b ∨ B b⟩
 have hv2 : ∀ x cv, E.VR w x cv → E2.VR w x cv := fun x cv hx => VR.mono hx _ (fun i hi => ⟨hi, rfl⟩) fun b hb => ⟨.inl hb, rfl⟩
 refine ⟨E2, ⟨⟨rfl, rfl, rfl, Nat.le_refl _, fun i hi => ⟨hi, rfl⟩, fun b hb => .inl hb, fun b hb ho => ⟨rfl, fun h => ho h.1, fun h => h.elim id fun h => absurd (hB b h).1 ho⟩⟩,
  ⟨fun j b hj => ?_, fun j1 j2 b c h1 h2 he => hr.inj j1 j2 b c (set_none_get h1).2 (set_none_get h2).2 he, fun j hj => by rw [List.length_set]; exact hr.lt j hj, fun b hb => hr.own b hb.1, fun b hb => ?_, fun g r hg => hv2 _ _ (hr.glob g r hg)⟩, .refl _ _, by rw [List.length_set]; exact Nat.le_refl _⟩, ?_, fun b hb => hb.1, fun b hb => hb.imp id fun h => (hB b h).1⟩
 ·obtain ⟨hn, hg⟩ := set_none_get hj
  obtain ⟨b1, b2, b3, b4⟩ := hr.blk j b hg
  refine ⟨b1, ⟨b2, ?_⟩, b3, br_mono (E' := E2) b4 rfl rfl hv2⟩
  rintro ⟨c, hi, he⟩
  exact hn (hr.inj _ _ _ _ hg hi he.symm)
 ·rcases hb with hb | hb
  ·exact ⟨(hr.imm b hb).1, fun ho => (hr.imm b hb).2 ho.1⟩
  ·exact ⟨(hB b hb).2, fun ho => ho.2 hb⟩
 ·rw [lr_iff] at ht ⊢
  refine ⟨by rw [List.length_set]; exact ht.1, fun j x u hx hu => ?_⟩
  by_cases e : s = j
  ·subst e
   have hl : s < t.length := (List.getElem?_eq_some_iff.1 hs).1
   rw [List.getElem?_set_self hl] at hx
   simp only [Option.some.injEq] at hx
   subst hx
   have hq := frz_ok (onlyJ_hr hr [i]) (I' := E2.I) (ρ' := E2.ρ) (fun j b hj => by
    obtain ⟨h1, h2⟩ := onlyJ_get hj
    simp at h1
    subst h1
    exact .inr ⟨b, h2, rfl⟩) (fun _ b hb => .inl hb) 5 (ht.2 s _ u hs hu) hv
   exact VR.mono hq _ (fun j hj => hj.elim) fun b hb => ⟨hb, rfl⟩
  ·rw [List.getElem?_set_ne e] at hx
   exact hv2 _ _ (ht.2 j x u hx hu)
theorem run_freeze {E1 E2 : Env} {h1 : Zf} (hR : Run P G E0 h0 w0 d E h w t a) (hx : Nx P G E h w E2 h1 w) (hl : E2.LR w t' a.tmps) (hO : ∀ b, E2.O b → E.O b) (hI : ∀ b, E2.I b → E.I b ∨ E.O b) : Run P G E0 h0 w0 d E2 h1 w t' a := by
 refine ⟨hR.nx.trans hx, hl, ?_⟩
 obtain ⟨bs, g1, g2, g3⟩ := hR.mks
 exact ⟨bs, g1, g2, fun b hb => by
  obtain ⟨a1, a2, a3, a4, a5⟩ := g3 b hb
  exact ⟨a1, a2, a3, fun h => a4 (hO b h), fun h => (hI b h).elim a5 a4⟩⟩
theorem go_freeze : ∀ {ss : List Nat} {t : List Za} {h : Zf} {E : Env} {t' : List Za} {h' : Zf}, Run P G E0 h0 w0 d E h w t a → fzT ss t h = some (t', h') → ∃ E2, Run P G E0 h0 w0 d E2 h' w t' a
 | [], t, h, E, t', h', hR, hf => by
  simp only [fzT, Option.some.injEq, Prod.mk.injEq] at hf
  obtain ⟨rfl, rfl⟩ := hf
  exact ⟨E, hR⟩
 | s :: ss, t, h, E, t', h', hR, hf => by
  simp only [fzT] at hf
  split at hf
  ·rename_i t1 h1 hf1
   unfold fz1 at hf1
   split at hf1
   ·rename_i i k n tt hs
    split at hf1
    ·rename_i v hv
     simp only [Option.some.injEq, Prod.mk.injEq] at hf1
     obtain ⟨rfl, rfl⟩ := hf1
     obtain ⟨E2, hx, hl, hO, hI⟩ := freeze_one hR.nx.hr hR.lr hs hv
     exact go_freeze (run_freeze (E1 := E) hR hx hl hO hI) hf
    ·simp at hf1
   ·simp only [Option.some.injEq, Prod.mk.injEq] at hf1
    obtain ⟨rfl, rfl⟩ := hf1
    exact go_freeze hR hf
   ·simp at hf1
  ·simp at hf
end
end Go.Abs
namespace Go.Abs
open Go
section
variable {P : Program} {G : Nat → Option (List Za)} {T : Nat → Option CFn} {ex : Option Nat → CC → St → Option (AEx × St)} {E E' E1 : Env} {h h' h1 : Zf} {w w' w1 : World} {e : AEx} {σ σ' : St} {c : CC} {v : Za}
theorem step_sound (hm : P.follows .mixedOrders = true) (hT : Zr P G T) (n : Nat) (hex : ∀ r c σ e σ', ex r c σ = some (e, σ') → Sound P G r c σ e σ')
  (hlp : ∀ r keep c σ e σ', ex r (.loop keep c) σ = some (e, σ') → SoundLoop P G n r c σ e σ')
  (hlg : ∀ r base keep gs c σ e σ', ex r (.loopN base keep gs c) σ = some (e, σ') → SoundN P G n r base c σ e σ') {r : Option Nat} (h : Xz P T ex r c σ = some (e, σ')) : Sound P G r c σ e σ' := by
 have hcall := fun f args h v h' => call_good hT hex f args h v h'
 have hyld := fun i args h v h' => yield_good hT hex i args h v h'
 cases c with
 | rf g ps asg bd => exact rf_step hT hex h
 | skip =>
  intro code E w a k hc hr ht hd
  have := co_skip hc
  subst this
  simp [Xz] at h
  obtain ⟨rfl, rfl⟩ := h
  exact wpIn_skip (go_skip hr ht)
 | ret =>
  intro code E w a k hc hr ht hd
  have := co_ret hc
  subst this
  simp [Xz] at h
  obtain ⟨rfl, rfl⟩ := h
  exact wpIn_ret ⟨rfl, E, .refl hr ht⟩
 | exit id =>
  intro code E w a k hc hr ht hd
  have := co_exit hc
  subst this
  simp [Xz] at h
  obtain ⟨rfl, rfl⟩ := h
  exact wpIn_exit ⟨rfl, E, .refl hr ht⟩
 | reg l =>
  intro code E w a k hc hr ht hd
  obtain ⟨id, ops, rfl, hl⟩ := co_reg hc
  simp only [Xz] at h
  cases hs : runX P T ex l σ with
  | none => simp [hs] at h
  | some σ1 =>
  simp [hs] at h
  obtain ⟨rfl, rfl⟩ := h
  exact reg_wp (t' := σ1.t) (h' := σ1.h) hT hcall hyld hl hr ht hs fun a' w' E' hx hl' hdef => ⟨rfl, E', hx, hl', hdef ▸ .refl _ _ _ _⟩
 | drw l =>
  intro code E w a k hc hr ht hd
  obtain ⟨id, ops, rfl, hl, hok, hed⟩ := co_drw hc
  simp only [Xz, ZA, YA] at h
  cases hs : runD P T ex σ.h.length l.length l 0 ⟨σ.t, σ.h ++ List.replicate l.length none, List.replicate l.length none⟩ with
  | none => simp [hs] at h
  | some D =>
  simp [hs] at h
  obtain ⟨rfl, rfl⟩ := h
  exact drw_wp hm hT hcall hyld hl hok hed hr ht hs fun a' w' E' hx hl' hdef => ⟨rfl, E', hx, hl', hdef ▸ .refl _ _ _ _⟩
 | seq x y =>
  intro code E w a k hc hr ht hd
  obtain ⟨p, q, rfl, hp, hq⟩ := co_seq hc
  simp only [Xz] at h
  cases h1 : ex r x σ with
  | none => simp [h1] at h
  | some z =>
  obtain ⟨e1, σ1⟩ := z
  refine wpIn_seq (wpIn_mono (hex _ _ _ _ _ h1 p E w a k hp hr ht hd) fun xx a' w' hpost => ?_)
  by_cases he : e1 = .normal
  ·subst he
   simp only [h1] at h
   refine then_post hpost (fun _ E' hR => ?_) (fun h => absurd rfl h)
   have hd2 : ∀ i, r = some i → E'.D i := fun i hi => (hR.nx.le.D i (hd i hi)).1
   have := hex _ _ _ _ _ h q E' w' a' k hq hR.nx.hr hR.lr hd2
   rw [fw_eq hR.nx.le hd] at this
   exact wpIn_mono this fun x a2 w2 hq => post_trans hR hq
  ·have hh : some (e1, σ1) = some (e, σ') := by
    cases e1 with
    | normal => exact absurd rfl he
    | _ => simpa [h1] using h
   simp at hh
   obtain ⟨rfl, rfl⟩ := hh
   obtain ⟨hx, E', hR⟩ := hpost
   exact then_post ⟨hx, E', hR⟩ (fun h => absurd h he) fun _ => ⟨rfl, E', hR⟩
 | cond cv x y =>
  intro code E w a k hc hr ht hd
  obtain ⟨o, p, q, rfl, ho, hp, hq⟩ := co_cond hc
  simp only [Xz] at h
  split at h
  ·rename_i hev
   exact wpIn_cond_true (YB hr ht ho hev).bool_inv (hex _ _ _ _ _ h p E w a k hp hr ht hd)
  ·rename_i hev
   exact wpIn_cond_false (YB hr ht ho hev).bool_inv (hex _ _ _ _ _ h q E w a k hq hr ht hd)
  ·simp at h
 | block id x =>
  intro code E w a k hc hr ht hd
  obtain ⟨p, rfl, hp⟩ := co_block hc
  simp only [Xz] at h
  cases h1 : ex r x σ with
  | none => simp [h1] at h
  | some z =>
  obtain ⟨e1, σ1⟩ := z
  refine wpIn_block (wpIn_mono (hex _ _ _ _ _ h1 p E w a k hp hr ht hd) ?_)
  rintro xx a' w' ⟨rfl, E', hR⟩
  cases e1 with
  | normal => simp [h1] at h; obtain ⟨rfl, rfl⟩ := h; exact ⟨rfl, E', hR⟩
  | ret => simp [h1] at h; obtain ⟨rfl, rfl⟩ := h; exact ⟨rfl, E', hR⟩
  | exit j =>
   simp only [h1] at h
   simp only [exOf, Exit.inBlock]
   by_cases hj : j = id
   ·simp only [hj, if_true] at h ⊢
    simp at h; obtain ⟨rfl, rfl⟩ := h; exact ⟨rfl, E', hR⟩
   ·simp only [hj, if_false] at h ⊢
    simp at h; obtain ⟨rfl, rfl⟩ := h; exact ⟨rfl, E', hR⟩
 | loop keep x =>
  intro code E w a k hc hr ht hd
  obtain ⟨p, rfl, hp⟩ := co_loop hc
  exact wpIn_loop_rounds (n + 1) (loop_step n hex (fun σ e σ' => hlp r keep x σ e σ') h p E w a k hp hr ht hd)
 | loopG keep gs x =>
  intro code E w a k hc hr ht hd
  obtain ⟨p, rfl, hp⟩ := co_loop (n := 0) hc
  exact wpIn_loop_rounds n (loopG_step n (fun base σ e σ' => hlg r base keep gs x σ e σ') h p E w a k hp hr ht hd)
 | kil keep x =>
  intro code E w a k hc hr ht hd
  simp only [Xz] at h
  cases h1 : ex r x σ with
  | none => simp [h1] at h
  | some z =>
  obtain ⟨e1, σ1⟩ := z
  refine wpIn_mono (hex _ _ _ _ _ h1 code E w a k hc hr ht hd) ?_
  rintro xx a' w' ⟨rfl, E', hR⟩
  cases e1 with
  | normal =>
   simp [h1, killK_eq] at h
   obtain ⟨rfl, rfl⟩ := h
   exact ⟨rfl, E', hR.nx, kill_lr _ keep _ hR.lr, hR.mks⟩
  | ret => simp [h1] at h; obtain ⟨rfl, rfl⟩ := h; exact ⟨rfl, E', hR⟩
  | exit j => simp [h1] at h; obtain ⟨rfl, rfl⟩ := h; exact ⟨rfl, E', hR⟩
 | frS ss x =>
  intro code E w a k hc hr ht hd
  simp only [Xz] at h
  cases h1 : ex r x σ with
  | none => simp [h1] at h
  | some z =>
  obtain ⟨e1, σ1⟩ := z
  refine wpIn_mono (hex _ _ _ _ _ h1 code E w a k hc hr ht hd) ?_
  rintro xx a' w' ⟨rfl, E', hR⟩
  cases e1 with
  | normal =>
   simp only [h1] at h
   split at h
   ·rename_i t1 h2 hf
    simp at h
    obtain ⟨rfl, rfl⟩ := h
    exact ⟨rfl, go_freeze hR hf⟩
   ·simp at h
  | ret => simp [h1] at h; obtain ⟨rfl, rfl⟩ := h; exact ⟨rfl, E', hR⟩
  | exit j => simp [h1] at h; obtain ⟨rfl, rfl⟩ := h; exact ⟨rfl, E', hR⟩
 | loopN base keep gs x =>
  intro code E w a k hc hr ht hd
  exact absurd (co_loop0 (m := 1) hc) (by decide)
theorem exec_sound (hm : P.follows .mixedOrders = true) (hT : Zr P G T) : ∀ n, (∀ r c σ e σ', exec P T n r c σ = some (e, σ') → Sound P G r c σ e σ') ∧ (∀ r keep c σ e σ', exec P T n r (.loop keep c) σ = some (e, σ') → SoundLoop P G n r c σ e σ') ∧
  (∀ r base keep gs c σ e σ', exec P T n r (.loopN base keep gs c) σ = some (e, σ') → SoundN P G n r base c σ e σ')
 | 0 => ⟨fun _ _ _ _ _ h => by simp [exec] at h, fun _ _ _ _ _ _ h => by simp [exec] at h, fun _ _ _ _ _ _ _ _ h => by simp [exec] at h⟩
 | n + 1 => by
  obtain ⟨h1, h2, h3⟩ := exec_sound hm hT n
  refine ⟨fun r c σ e σ' h => step_sound hm hT n h1 h2 h3 h, fun r keep c σ e σ' h => ?_, fun r base keep gs c σ e σ' h => ?_⟩
  ·exact loop_step (T := T) (ex := exec P T n) n h1 (fun σ e σ' => h2 r keep c σ e σ') h
  ·exact loopN_step (T := T) (ex := exec P T n) n h1 (fun σ e σ' => h3 r base keep gs c σ e σ') h
theorem call_sound (hm : P.follows .mixedOrders = true) (hT : Zr P G T) (n f : Nat) (args : List Za) (h : Zf) (v : Za) (h' : Zf) (hc : Yj T (exec P T n) f args h = some (v, h')) : YD P G f args h v h' :=
 call_good hT (exec_sound hm hT n).1 f args h v h' hc
end
end Go.Abs
namespace Go.Abs
open Go
section
variable {P : Program} {T : Nat → Option CFn} {ex ex' : Option Nat → CC → St → Option (AEx × St)}
abbrev Ext (ex ex' : Option Nat → CC → St → Option (AEx × St)) : Prop := ∀ r c σ x, ex r c σ = some x → ex' r c σ = some x
theorem callF_mono (hx : Ext ex ex') {f : Nat} {args : List Za} {h : Zf} {x : Za × Zf} (hc : Yj T ex f args h = some x) : Yj T ex' f args h = some x := by
 unfold Yj at *
 cases hT : T f with
 | none => simp [hT] at hc
 | some fn =>
 simp only [hT, ZA] at hc ⊢
 cases ho : orcF fn args h with
 | some v1 => simp only [ho] at hc ⊢; exact hc
 | none =>
 simp only [ho] at hc ⊢
 cases he : fn.eff args h with
 | some r => simp only [he] at hc ⊢; exact hc
 | none =>
 simp only [he] at hc ⊢
 rw [fL_eq _ (fun _ _ => rfl)] at hc ⊢
 cases h1 : ex none fn.body ⟨args ++ List.replicate (fn.ntmps - args.length) .und, h⟩ with
 | none => simp [h1] at hc
 | some p => rw [h1] at hc; rw [hx _ _ _ _ h1]; exact hc
theorem yieldF_mono (hx : Ext ex ex') {i : Nat} {args : List Za} {h : Zf} {x : Za × Zf} (hc : yieldF ex i args h = some x) : yieldF ex' i args h = some x := by
 unfold yieldF at *
 split at hc
 ·split at hc
  ·rename_i t ps asg bd pd hi hl
   rw [if_pos hl]
   rw [setAllK_eq] at hc ⊢
   cases h1 : ex (some i) asg ⟨setAll t (ps.zip args), h⟩ with
   | none => simp [h1] at hc
   | some p =>
   rw [h1] at hc; rw [hx _ _ _ _ h1]
   obtain ⟨e, σ⟩ := p
   cases e with
   | exit j => exact hc
   | ret => exact hc
   | normal =>
    simp only at hc ⊢
    split at hc
    ·rename_i t1 ps1 as1 bd1 pd1 hi1
     rw [Zv] at hc ⊢
     cases h2 : ex (some i) bd ⟨σ.t, σ.h.set i (some (.loop t1 ps1 as1 bd1 .busy pd1))⟩ with
     | none => simp [h2] at hc
     | some q => rw [h2] at hc; rw [hx _ _ _ _ h2]; exact hc
    ·simp at hc
  ·simp at hc
 ·simp at hc
theorem loud_mono (hx : Ext ex ex') {t : List Za} {h : Zf} {o : COp} {x : Za × Zf} (hc : loud T ex t h o = some x) : loud T ex' t h o = some x := by
 unfold loud callA at *
 cases h1 : lop t h o with
 | some r => rw [h1] at hc; exact hc
 | none =>
  rw [h1] at hc
  simp only at hc ⊢
  cases h2 : ZQ t o with
  | none => rw [h2] at hc; simp at hc
  | some c =>
   rw [h2] at hc
   cases c with
   | fn f args => exact callF_mono hx hc
   | yld i args => exact yieldF_mono hx hc
theorem stepX_mono (hx : Ext ex ex') {o : CO} {σ : St} {x : St} (hc : stepX P T ex o σ = some x) : stepX P T ex' o σ = some x := by
 unfold stepX at *
 split at hc
 ·simp at hc
 ·exact hc
 ·split at hc
  ·exact hc
  ·exact hc
  ·split at hc
   ·rename_i v h' hl; rw [loud_mono hx hl]; exact hc
   ·simp at hc
theorem runX_mono (hx : Ext ex ex') : ∀ (l : List CO) (σ : St) {x : St}, runX P T ex l σ = some x → runX P T ex' l σ = some x
 | [], _, _, h => h
 | o :: l, σ, x, h => by
  rw [ZM] at h ⊢
  split at h
  ·rename_i σ1 h1; rw [stepX_mono hx h1]; exact runX_mono hx l σ1 h
  ·simp at h
theorem actD_mono (hx : Ext ex ex') {base n j : Nat} {o : CO} {t : List Za} {h : Zf} {x : Za × List Nat × List Nat × Zf} (hc : actD P T ex base n j o t h = some x) : actD P T ex' base n j o t h = some x := by
 unfold actD at *
 split at hc
 ·simp at hc
 ·exact hc
 ·split at hc
  ·exact hc
  ·exact hc
  ·split at hc
   ·rename_i v h' hl; rw [loud_mono hx hl]; exact hc
   ·simp at hc
theorem stepD_mono (hx : Ext ex ex') {base n j : Nat} {o : CO} {D : DSt} {x : DSt} (hc : Xp P T ex base n j o D = some x) : Xp P T ex' base n j o D = some x := by
 rw [stepD_eq] at *
 split at hc
 ·rename_i v rd wr h ha; rw [actD_mono hx ha]; exact hc
 ·simp at hc
theorem runD_mono (hx : Ext ex ex') {base n : Nat} : ∀ (l : List CO) (j : Nat) (D : DSt) {x : DSt}, runD P T ex base n l j D = some x → runD P T ex' base n l j D = some x
 | [], _, _, _, h => h
 | o :: l, j, D, x, h => by
  have e : ∀ ex, runD P T ex base n (o :: l) j D = match Xp P T ex base n j o D with | some D' => runD P T ex base n l (j + 1) D' | none => none := fun _ => rfl
  rw [e] at h ⊢
  split at h
  ·rename_i D1 h1; rw [stepD_mono hx h1]; exact runD_mono hx l (j + 1) D1 h
  ·simp at h
theorem exec1_mono (hx : Ext ex ex') {r : Option Nat} {c : CC} {σ : St} {x : AEx × St} (h : Xz P T ex r c σ = some x) : Xz P T ex' r c σ = some x := by
 cases c with
 | skip => exact h
 | ret => exact h
 | exit id => exact h
 | reg l =>
  simp only [Xz] at h ⊢
  cases h1 : runX P T ex l σ with
  | none => simp [h1] at h
  | some s => rw [h1] at h; rw [runX_mono hx l σ h1]; exact h
 | drw l =>
  simp only [Xz, ZA, YA] at h ⊢
  cases h1 : runD P T ex σ.h.length l.length l 0 ⟨σ.t, σ.h ++ List.replicate l.length none, List.replicate l.length none⟩ with
  | none => simp [h1] at h
  | some s => rw [h1] at h; rw [runD_mono hx l 0 _ h1]; exact h
 | seq a b =>
  simp only [Xz] at h ⊢
  cases h1 : ex r a σ with
  | none => simp [h1] at h
  | some p =>
   rw [h1] at h; rw [hx _ _ _ _ h1]
   obtain ⟨e, s⟩ := p
   cases e with
   | normal => exact hx _ _ _ _ h
   | _ => exact h
 | cond c a b =>
  simp only [Xz] at h ⊢
  split at h
  ·exact hx _ _ _ _ h
  ·exact hx _ _ _ _ h
  ·simp at h
 | block id a =>
  simp only [Xz] at h ⊢
  cases h1 : ex r a σ with
  | none => simp [h1] at h
  | some p => rw [h1] at h; rw [hx _ _ _ _ h1]; exact h
 | loop keep a =>
  simp only [Xz, killK_eq] at h ⊢
  cases h1 : ex r a ⟨kill σ.t keep, σ.h⟩ with
  | none => simp [h1] at h
  | some p =>
   rw [h1] at h; rw [hx _ _ _ _ h1]
   obtain ⟨e, s⟩ := p
   cases e with
   | normal =>
    simp only [killK_eq, YA, trimK_eq] at h ⊢
    exact hx _ _ _ _ h
   | _ => exact h
 | loopG keep gs a =>
  simp only [Xz, killK_eq] at h ⊢
  split at h
  ·exact hx _ _ _ _ h
  ·simp at h
 | loopN base keep gs a =>
  simp only [Xz] at h ⊢
  cases h1 : ex r a σ with
  | none => simp [h1] at h
  | some p =>
   rw [h1] at h; rw [hx _ _ _ _ h1]
   obtain ⟨e, s⟩ := p
   cases e with
   | normal =>
    simp only [killK_eq] at h ⊢
    split at h
    ·exact hx _ _ _ _ h
    ·simp at h
   | _ => exact h
 | kil keep a =>
  simp only [Xz] at h ⊢
  cases h1 : ex r a σ with
  | none => simp [h1] at h
  | some p => rw [h1] at h; rw [hx _ _ _ _ h1]; exact h
 | frS ss a =>
  simp only [Xz] at h ⊢
  cases h1 : ex r a σ with
  | none => simp [h1] at h
  | some p => rw [h1] at h; rw [hx _ _ _ _ h1]; exact h
 | rf g ps asg bd =>
  simp only [Xz] at h ⊢
  split at h
  ·simp only [YA, ZA] at h ⊢
   split at h
   ·rename_i h2 hc
    rw [callF_mono hx hc]
    simp only
    split at h
    ·split at h
     ·simp at h
     ·rename_i hst
      rw [if_neg hst]
      split at h
      ·exact h
      ·rw [Zv] at h ⊢; exact hx _ _ _ _ h
    ·simp at h
   ·simp at h
  ·simp at h
theorem exec_mono1 : ∀ n, Ext (exec P T n) (exec P T (n + 1))
 | 0 => fun _ _ _ _ h => by simp [exec] at h
 | n + 1 => fun _ _ _ _ h => exec1_mono (exec_mono1 n) h
theorem exec_mono {n m : Nat} (h : n ≤ m) : Ext (exec P T n) (exec P T m) := by
  induction m with
  | zero => have : n = 0 := by omega
            subst this; exact fun _ _ _ _ h => h
  | succ m ih =>
    by_cases e : n = m + 1
    · subst e; exact fun _ _ _ _ h => h
    · exact fun r c σ x hx => exec_mono1 m r c σ x (ih (by omega) r c σ x hx)
end
end Go.Abs
namespace Go.Abs
open Go
section
variable (P : Program) (T : Nat → Option CFn)
def Runs (r : Option Nat) (c : CC) (σ : St) (Q : AEx → St → Prop) : Prop := ∃ n e σ', exec P T n r c σ = some (e, σ') ∧ Q e σ'
def ZH (f : Nat) (args : List Za) (h : Zf) (Q : Za → Zf → Prop) : Prop := ∃ n v h', Yj T (exec P T n) f args h = some (v, h') ∧ Q v h'
def Ops (l : List CO) (σ : St) (Q : St → Prop) : Prop := ∃ n σ', runX P T (exec P T n) l σ = some σ' ∧ Q σ'
end
def zT (Q : AEx → St → Prop) (K : St → Prop) : AEx → St → Prop
 | .normal, σ => K σ
 | e, σ => Q e σ
def zB (id : Nat) (Q : AEx → St → Prop) : AEx → St → Prop
 | .exit j, σ => if j = id then Q .normal σ else Q (.exit j) σ
 | e, σ => Q e σ
section
variable {P : Program} {G : Nat → Option (List Za)} {T : Nat → Option CFn} {r : Option Nat} {a b : CC} {σ : St} {Q Q' : AEx → St → Prop} {h : Zf} {t : List Za}
theorem exec_succ (n : Nat) : exec P T (n + 1) = Xz P T (exec P T n) := rfl
theorem Runs.mono {c : CC} (hr : Runs P T r c σ Q) (hq : ∀ e σ, Q e σ → Q' e σ) : Runs P T r c σ Q' := let ⟨n, e, σ', h1, h2⟩ := hr; ⟨n, e, σ', h1, hq _ _ h2⟩
theorem ZH.mono {f : Nat} {args : List Za} {Q Q' : Za → Zf → Prop} (hr : ZH P T f args h Q) (hq : ∀ v h, Q v h → Q' v h) : ZH P T f args h Q' := let ⟨n, e, σ', h1, h2⟩ := hr; ⟨n, e, σ', h1, hq _ _ h2⟩
theorem zK (hq : Q .normal σ) : Runs P T r .skip σ Q := ⟨1, _, _, rfl, hq⟩
theorem Zj (hq : Q .ret σ) : Runs P T r .ret σ Q := ⟨1, _, _, rfl, hq⟩
theorem ZL {id : Nat} (hq : Q (.exit id) σ) : Runs P T r (.exit id) σ Q := ⟨1, _, _, rfl, hq⟩
theorem zS (h : Runs P T r a σ (zT Q fun σ' => Runs P T r b σ' Q)) : Runs P T r (.seq a b) σ Q := by
 obtain ⟨n, e, σ1, h1, h2⟩ := h
 cases e with
 | normal =>
  obtain ⟨m, e, σ2, h3, h4⟩ := h2
  refine ⟨max n m + 1, e, σ2, ?_, h4⟩
  rw [exec_succ]
  simp only [Xz]
  rw [exec_mono (Nat.le_max_left n m) _ _ _ _ h1]
  exact exec_mono (Nat.le_max_right n m) _ _ _ _ h3
 | exit id =>
  refine ⟨n + 1, _, σ1, ?_, h2⟩
  rw [exec_succ]; simp only [Xz]; rw [h1]
 | ret =>
  refine ⟨n + 1, _, σ1, ?_, h2⟩
  rw [exec_succ]; simp only [Xz]; rw [h1]
theorem Zh {c : CV} {x : Bool} (hc : c.ev σ.t = some (.bool x)) (h : Runs P T r (if x then a else b) σ Q) : Runs P T r (.cond c a b) σ Q := by
 obtain ⟨n, e, σ1, h1, h2⟩ := h
 refine ⟨n + 1, e, σ1, ?_, h2⟩
 rw [exec_succ]; simp only [Xz, hc]
 cases x <;> exact h1
theorem Zg {c : CV} {x : Bool} (hc : c.ev σ.t = some (.bool x)) (ht : x = true → Runs P T r a σ Q) (hf : x = false → Runs P T r b σ Q) : Runs P T r (.cond c a b) σ Q :=
 Zh hc (by cases x <;> simp_all)
theorem zL {id : Nat} (h : Runs P T r a σ (zB id Q)) : Runs P T r (.block id a) σ Q := by
 obtain ⟨n, e, σ1, h1, h2⟩ := h
 cases e with
 | normal => exact ⟨n + 1, _, σ1, by rw [exec_succ]; simp only [Xz]; rw [h1], h2⟩
 | ret => exact ⟨n + 1, _, σ1, by rw [exec_succ]; simp only [Xz]; rw [h1], h2⟩
 | exit j =>
  simp only [zB] at h2
  by_cases e : j = id
  ·rw [if_pos e] at h2
   exact ⟨n + 1, .normal, σ1, by rw [exec_succ]; simp only [Xz]; rw [h1]; simp [e], h2⟩
  ·rw [if_neg e] at h2
   exact ⟨n + 1, .exit j, σ1, by rw [exec_succ]; simp only [Xz]; rw [h1]; simp [e], h2⟩
theorem kill_kill : ∀ (t : List Za) (m : Nat), kill (kill t m) m = kill t m
 | [], _ => rfl
 | x :: xs, m => by simp only [kill, kill_kill xs]; split <;> rfl
theorem runs_loop {keep : Nat} (h : Runs P T r a ⟨kill σ.t keep, σ.h⟩ (zT Q fun σ' => Runs P T r (.loop keep a) ⟨kill σ'.t keep, trim σ.h.length (kill σ'.t keep) σ'.h⟩ Q)) : Runs P T r (.loop keep a) σ Q := by
 obtain ⟨n, e, σ1, h1, h2⟩ := h
 cases e with
 | normal =>
  obtain ⟨m, e, σ2, h3, h4⟩ := h2
  refine ⟨max n m + 1, e, σ2, ?_, h4⟩
  rw [exec_succ]
  simp only [Xz, killK_eq, YA, trimK_eq]
  rw [exec_mono (Nat.le_max_left n m) _ _ _ _ h1]
  exact exec_mono (Nat.le_max_right n m) _ _ _ _ h3
 | exit id => exact ⟨n + 1, _, σ1, by rw [exec_succ]; simp only [Xz, killK_eq]; rw [h1], h2⟩
 | ret => exact ⟨n + 1, _, σ1, by rw [exec_succ]; simp only [Xz, killK_eq]; rw [h1], h2⟩
theorem YI {keep : Nat} (I : Nat → St → Prop) (step : ∀ k σ, I k σ → Runs P T r a σ (zT Q fun σ' => ∃ k', k' < k ∧ I k' ⟨kill σ'.t keep, trim σ.h.length (kill σ'.t keep) σ'.h⟩)) :
  ∀ k σ, I k ⟨kill σ.t keep, σ.h⟩ → Runs P T r (.loop keep a) σ Q := by
 intro k
 induction k using Nat.strongRecOn with
 | _ k ih =>
  intro σ hI
  refine runs_loop ((step k _ hI).mono fun e σ' hq => ?_)
  cases e with
  | normal => obtain ⟨k', hk, hI'⟩ := hq; refine ih k' hk _ ?_; rw [kill_kill]; exact hI'
  | _ => exact hq
theorem runs_loopN_inv {base keep : Nat} {gs : List GL} (I : Nat → St → Prop) (step : ∀ k σ, I k σ → Runs P T r a σ (zT Q fun σ' => ∃ k' t h, k' < k ∧ gather base gs (kill σ'.t keep) σ'.h = some (t, h) ∧ I k' ⟨t, h⟩)) :
  ∀ k σ, I k σ → Runs P T r (.loopN base keep gs a) σ Q := by
 intro k
 induction k using Nat.strongRecOn with
 | _ k ih =>
  intro σ hI
  obtain ⟨n, e, σ1, h1, h2⟩ := step k σ hI
  cases e with
  | normal =>
   obtain ⟨k', t, h, hk, hg, hI'⟩ := h2
   obtain ⟨m, e, σ2, h3, h4⟩ := ih k' hk _ hI'
   refine ⟨max n m + 1, e, σ2, ?_, h4⟩
   rw [exec_succ]
   simp only [Xz]
   rw [exec_mono (Nat.le_max_left n m) _ _ _ _ h1]
   simp only [killK_eq, hg]
   exact exec_mono (Nat.le_max_right n m) _ _ _ _ h3
  | exit id => exact ⟨n + 1, _, σ1, by rw [exec_succ]; simp only [Xz]; rw [h1], h2⟩
  | ret => exact ⟨n + 1, _, σ1, by rw [exec_succ]; simp only [Xz]; rw [h1], h2⟩
theorem XJ {keep : Nat} {gs : List GL} (I : Nat → St → Prop) {k : Nat} {t : List Za} {h : Zf} (hg : gather σ.h.length gs (kill σ.t keep) σ.h = some (t, h)) (h0 : I k ⟨t, h⟩)
  (step : ∀ k σ', I k σ' → Runs P T r a σ' (zT Q fun σ'' => ∃ k' t h, k' < k ∧ gather σ.h.length gs (kill σ''.t keep) σ''.h = some (t, h) ∧ I k' ⟨t, h⟩)) : Runs P T r (.loopG keep gs a) σ Q := by
 obtain ⟨n, e, σ1, h1, h2⟩ := runs_loopN_inv (base := σ.h.length) (keep := keep) (gs := gs) I step k _ h0
 exact ⟨n + 1, e, σ1, by rw [exec_succ]; simp only [Xz, killK_eq, hg]; exact h1, h2⟩
theorem zR {l : List CO} (h : Ops P T l σ (Q .normal)) : Runs P T r (.reg l) σ Q := by
 obtain ⟨n, σ1, h1, h2⟩ := h
 exact ⟨n + 1, _, σ1, by rw [exec_succ]; simp only [Xz]; rw [h1], h2⟩
theorem ops_cons {o : CO} {l : List CO} {Q : St → Prop} (n : Nat) {σ1 : St} (h : stepX P T (exec P T n) o σ = some σ1) (hl : Ops P T l σ1 Q) : Ops P T (o :: l) σ Q := by
 obtain ⟨m, σ2, h1, h2⟩ := hl
 refine ⟨max n m, σ2, ?_, h2⟩
 rw [ZM, stepX_mono (exec_mono (Nat.le_max_left n m)) h]
 exact runX_mono (exec_mono (Nat.le_max_right n m)) l σ1 h1
theorem ops_call {o : CO} {l : List CO} {f : Nat} {args : List Za} {Q : St → Prop} (hw : Yh σ.t o.g = some true) (hd : dop P σ.t σ.h o.op = none) (hp : lop σ.t σ.h o.op = none) (hc : ZQ σ.t o.op = some (.fn f args))
  (h : ZH P T f args σ.h fun v h' => Ops P T l ⟨putT σ.t o.dst v, h'⟩ Q) : Ops P T (o :: l) σ Q := by
 obtain ⟨n, v, h', h1, h2⟩ := h
 refine ops_cons n (σ1 := ⟨putT σ.t o.dst v, h'⟩) ?_ h2
 simp only [stepX, hw, hd, loud, hp, callA, hc, h1, Yu]
theorem zO {l : List CO} {Q : St → Prop} {σ1 : St} (h : runX P T (fun _ _ _ => none) l σ = some σ1) (hq : Q σ1) : Ops P T l σ Q :=
 ⟨0, σ1, h, hq⟩
theorem Zs {f : Nat} {cf : CFn} {args : List Za} {Q : Za → Zf → Prop} (hT : T f = some cf) (ho : orcF cf args h = none)
  (hb : Runs P T none cf.body ⟨args ++ List.replicate (cf.ntmps - args.length) .und, h⟩ fun e σ => (∀ id, e ≠ .exit id) ∧ ∃ vs, resA σ.t σ.h cf.res = some vs ∧ Q (tupA vs) (trim h.length [tupA vs] σ.h)) (he : cf.eff args h = none := by rfl) : ZH P T f args h Q := by
 obtain ⟨n, e, σ1, h1, h2, vs, h3, h4⟩ := hb
 refine ⟨n, _, _, ?_, h4⟩
 unfold Yj
 simp only [hT, ho, he, ZA]
 rw [fL_eq _ (fun _ _ => rfl), h1]
 cases e with
 | exit id => exact absurd rfl (h2 id)
 | normal => simp only [h3, Xt, YA, trimK_eq]
 | ret => simp only [h3, Xt, YA, trimK_eq]
theorem answers_good (hm : P.follows .mixedOrders = true) (hT : Zr P G T) {f : Nat} {args : List Za} {Q : Za → Zf → Prop} (ha : ZH P T f args h Q) : ∃ v h', Q v h' ∧ YD P G f args h v h' := by
 obtain ⟨n, v, h', h1, h2⟩ := ha
 exact ⟨v, h', h2, call_sound hm hT n f args h v h' h1⟩
end
end Go.Abs
namespace Go.Abs
open Go
section
variable {P : Program} {G : Nat → Option (List Za)} {T : Nat → Option CFn} {E E' : Env} {h h' : Zf} {w w' : World}
theorem YL (hm : P.follows .mixedOrders = true) (hT : Zr P G T) {f : Nat} {args : List Za} {fr : Bool} {v : Za} (ha : ZH P T f args [] fun v' h' => frz fr h' 5 v' = some v) : OrcGood P G fr f args v := by
 obtain ⟨v', h', hv, hg⟩ := answers_good hm hT ha
 intro E w cargs k hD hO hr hl
 refine CallsIn.mono (hg E w cargs k hr hl) ?_
 rintro e w' ⟨u, E', rfl, hle, hr', hu, _, _⟩
 have hO' : ∀ b, E'.O b → w.heap.size ≤ b := fun b hb => Nat.le_of_not_lt fun h => (hle.old b h (hO b)).2.1 hb
 refine ⟨u, fun b => b < w'.heap.size ∧ (w.heap.size ≤ b ∨ (fr = false ∧ E.I b)), rfl, hle.os, hle.tape, hle.output, hle.size, fun b hb => (hle.old b hb (hO b)).1, fun b hb => hb, ?_⟩
 refine frz_ok hr' (fun i b hi => ?_) (fun hf b hb => ?_) 5 hu hv
 ·obtain ⟨_, h2, h3, _⟩ := hr'.blk i b hi
  exact ⟨h3, .inl (hO' _ h2)⟩
 ·refine ⟨(hr'.imm b hb).1, ?_⟩
  by_cases h : b < w.heap.size
  ·exact .inr ⟨hf, (hle.old b h (hO b)).2.2 hb⟩
  ·exact .inl (by omega)
end
end Go.Abs
namespace Go.Abs
open Go
inductive Ly where
 | int (k : IntKind)
 | bool
 | sl (e : List Ly)
def layFs (P : Program) (lay : TypeId → Option (List Ly)) : Nat → List Field → Option (List Ly)
 | _, [] => some []
 | o, f :: fs => if f.offset = o then match lay f.type with
  | some l => if l.length = P.cellsOf f.type then match layFs P lay (o + l.length) fs with
    | some r => some (l ++ r)
    | none => none
   else none
  | none => none
 else none
def layOf (P : Program) : Nat → TypeId → Option (List Ly)
 | 0, _ => none
 | d + 1, t => match P.underlying t with
  | some .bool => some [.bool]
  | some (.int k) => some [.int k]
  | some (.struct fs) => match layFs P (layOf P d) 0 fs.toList with
   | some l => if l.length = P.cellsOf t then some l else none
   | none => none
  | some (.slice e) => match layOf P d e with
   | some l => if l.length = P.cellsOf e ∧ l ≠ [] then some [.sl l] else none
   | none => none
  | some (.array n e) => match layOf P d e with
   | some l => if l.length = P.cellsOf e ∧ n * l.length = P.cellsOf t then some (List.replicate n l).flatten else none
   | none => none
  | _ => none
inductive Fits : Ly → Za → Prop
 | int (k : IntKind) (n : Int) (h : (Lit.int k n).wf = true) : Fits (.int k) (.int k n)
 | bool (b : Bool) : Fits .bool (.bool b)
 | nils (e : List Ly) : Fits (.sl e) .nils
 | vl (e : List Ly) (rs : List (List Za)) (t : Bool) (hl : ∀ r ∈ rs, r.length = e.length) (h : ∀ (i : Nat) (r : List Za), rs[i]? = some r → ∀ (j : Nat) (x : Za) (l : Ly), r[j]? = some x → e[j]? = some l → Fits l x) : Fits (.sl e) (.vl rs t)
def FitsR (L : List Ly) (xs : List Za) : Prop := xs.length = L.length ∧ ∀ (j : Nat) (x : Za) (l : Ly), xs[j]? = some x → L[j]? = some l → Fits l x
def RowR (ρ : Nat → Loc) (w : World) (xs : List Za) (cs : List Value) : Prop := xs.length = cs.length ∧ ∀ (j : Nat) (x : Za) (c : Value), xs[j]? = some x → cs[j]? = some c → Abs.VR ρ (fun b => b < w.heap.size) w (fun _ => False) x c
theorem rowR_app {ρ : Nat → Loc} {w : World} {xs ys : List Za} {cs ds : List Value} (h1 : RowR ρ w xs cs) (h2 : RowR ρ w ys ds) : RowR ρ w (xs ++ ys) (cs ++ ds) := by
 refine ⟨by simp [h1.1, h2.1], fun j x c hx hc => ?_⟩
 by_cases hj : j < xs.length
 ·rw [List.getElem?_append_left hj] at hx
  rw [List.getElem?_append_left (h1.1 ▸ hj)] at hc
  exact h1.2 j x c hx hc
 ·rw [List.getElem?_append_right (by omega)] at hx
  rw [List.getElem?_append_right (by rw [← h1.1]; omega), ← h1.1] at hc
  exact h2.2 _ x c hx hc
theorem fitsR_app {L M : List Ly} {xs ys : List Za} (h1 : FitsR L xs) (h2 : FitsR M ys) : FitsR (L ++ M) (xs ++ ys) := by
 refine ⟨by simp [h1.1, h2.1], fun j x c hx hc => ?_⟩
 by_cases hj : j < xs.length
 ·rw [List.getElem?_append_left hj] at hx
  rw [List.getElem?_append_left (h1.1 ▸ hj)] at hc
  exact h1.2 j x c hx hc
 ·rw [List.getElem?_append_right (by omega)] at hx
  rw [List.getElem?_append_right (by rw [← h1.1]; omega), ← h1.1] at hc
  exact h2.2 _ x c hx hc
theorem mapM_some {α β : Type} {f : α → Option β} : ∀ {l : List α} {ys : List β}, l.mapM f = some ys → ys.length = l.length ∧ ∀ (j : Nat) (a : α), l[j]? = some a → ∃ y, ys[j]? = some y ∧ f a = some y
 | [], ys, h => by simp at h; subst h; exact ⟨rfl, fun j a h => by simp at h⟩
 | x :: l, ys, h => by
  rw [List.mapM_cons] at h
  cases hx : f x with
  | none => simp [hx] at h
  | some y =>
  cases hl : l.mapM f with
  | none => simp [hx, hl] at h
  | some zs =>
   simp [hx, hl] at h
   subst h
   obtain ⟨g1, g2⟩ := mapM_some hl
   refine ⟨by simp [g1], fun j a hj => ?_⟩
   cases j with
   | zero => simp at hj; subst hj; exact ⟨y, rfl, hx⟩
   | succ j => exact g2 j a (by simpa using hj)
section
variable {H : Type} {enc : TypeId × Value → H} {P : Program} {w : World} {held : Bool} {ρ : Nat → Loc}
theorem fields_ok {lay : TypeId → Option (List Ly)} {fuel : Nat} (ih : ∀ t L cs x, lay t = some L → DataW.trod enc P w 0 (fun _ => true) held fuel t cs = some x → ∃ xs, RowR ρ w xs cs ∧ FitsR L xs) :
  ∀ (fs : List Field) (o : Nat) (L : List Ly) (cs : List Value) (ys : List (DataW H × List MemPlace)), layFs P lay o fs = some L →
   (fs.mapM fun f => DataW.trod enc P w 0 (fun _ => true) held fuel f.type ((cs.drop f.offset).take (P.cellsOf f.type))) = some ys → cs.length = o + L.length → ∃ xs, RowR ρ w xs (cs.drop o) ∧ FitsR L xs
 | [], o, L, cs, ys, hL, hm, hc => by
  simp [layFs] at hL; subst hL
  refine ⟨[], ⟨by simp at hc ⊢; omega, fun j x c h => by simp at h⟩, rfl, fun j x l h => by simp at h⟩
 | f :: fs, o, L, cs, ys, hL, hm, hc => by
  simp only [layFs] at hL
  split at hL
  ·rename_i ho
   split at hL
   ·rename_i l hl
    split at hL
    ·rename_i hlen
     split at hL <;> simp at hL
     rename_i r hr
     subst hL
     rw [List.mapM_cons] at hm
     cases hx : DataW.trod enc P w 0 (fun _ => true) held fuel f.type ((cs.drop f.offset).take (P.cellsOf f.type)) with
     | none => simp [hx] at hm
     | some y =>
     cases hrest : (fs.mapM fun f => DataW.trod enc P w 0 (fun _ => true) held fuel f.type ((cs.drop f.offset).take (P.cellsOf f.type))) with
     | none => simp [hx, hrest] at hm
     | some zs =>
     obtain ⟨xs, h1, h2⟩ := ih _ _ _ _ hl hx
     obtain ⟨xs2, h3, h4⟩ := fields_ok ih fs (o + l.length) r cs zs hr hrest (by simp at hc; omega)
     refine ⟨xs ++ xs2, ?_, fitsR_app h2 h4⟩
     have e : cs.drop o = (cs.drop f.offset).take (P.cellsOf f.type) ++ cs.drop (o + l.length) := by
      rw [ho, ← hlen, ← List.drop_drop, List.take_append_drop]
     rw [e]
     exact rowR_app h1 h3
    ·simp at hL
   ·simp at hL
  ·simp at hL
theorem elems_ok {lay : TypeId → Option (List Ly)} {fuel : Nat} (ih : ∀ t L cs x, lay t = some L → DataW.trod enc P w 0 (fun _ => true) held fuel t cs = some x → ∃ xs, RowR ρ w xs cs ∧ FitsR L xs) {e : TypeId} {l : List Ly} (hl : lay e = some l) :
  ∀ (m o : Nat) (cs : List Value) (ys : List (DataW H × List MemPlace)),
   ((List.range' o m).mapM fun i => DataW.trod enc P w 0 (fun _ => true) held fuel e ((cs.drop (i * P.cellsOf e)).take (P.cellsOf e))) = some ys → cs.length = (o + m) * P.cellsOf e → ∃ xs, RowR ρ w xs (cs.drop (o * P.cellsOf e)) ∧ FitsR (List.replicate m l).flatten xs
 | 0, o, cs, ys, hm, hc => by
  refine ⟨[], ⟨by simp at hc ⊢; omega, fun j x c h => by simp at h⟩, rfl, fun j x l h => by simp at h⟩
 | m + 1, o, cs, ys, hm, hc => by
  rw [List.range'_succ, List.mapM_cons] at hm
  cases hx : DataW.trod enc P w 0 (fun _ => true) held fuel e ((cs.drop (o * P.cellsOf e)).take (P.cellsOf e)) with
  | none => simp [hx] at hm
  | some y =>
  cases hrest : ((List.range' (o + 1) m).mapM fun i => DataW.trod enc P w 0 (fun _ => true) held fuel e ((cs.drop (i * P.cellsOf e)).take (P.cellsOf e))) with
  | none => simp [hx, hrest] at hm
  | some zs =>
  obtain ⟨xs, h1, h2⟩ := ih _ _ _ _ hl hx
  obtain ⟨xs2, h3, h4⟩ := elems_ok ih hl m (o + 1) cs zs hrest (by rw [hc]; congr 1; omega)
  refine ⟨xs ++ xs2, ?_, by rw [List.replicate_succ, List.flatten_cons]; exact fitsR_app h2 h4⟩
  have e1 : cs.drop (o * P.cellsOf e) = (cs.drop (o * P.cellsOf e)).take (P.cellsOf e) ++ cs.drop ((o + 1) * P.cellsOf e) := by
   rw [Nat.add_mul, Nat.one_mul, ← List.drop_drop, List.take_append_drop]
  rw [e1]
  exact rowR_app h1 h3
theorem cells_len {base n : Nat} {a : Addr} {c : List Value} (h : w.cells? base a n = some c) : c.length = n := by
 unfold World.cells? at h
 split at h
 ·have := (mapM_some h).1; simpa using this
 ·simp at h
theorem cells_get {base n : Nat} {a : Addr} {c : List Value} (h : w.cells? base a n = some c) (j : Nat) (hj : j < n) : ∃ y, c[j]? = some y ∧ w.cell? (a.add j) = some y := by
 unfold World.cells? at h
 split at h
 ·obtain ⟨y, h1, h2⟩ := (mapM_some h).2 j j (by simp [hj])
  exact ⟨y, h1, h2⟩
 ·simp at h
theorem trod_fits : ∀ (d fuel : Nat) (t : TypeId) (L : List Ly) (cs : List Value) (x : DataW H × List MemPlace), layOf P d t = some L → DataW.trod enc P w 0 (fun _ => true) held fuel t cs = some x → ∃ xs, RowR ρ w xs cs ∧ FitsR L xs
 | 0, _, _, _, _, _, h, _ => by simp [layOf] at h
 | d + 1, 0, _, _, _, _, _, h => by simp [DataW.trod] at h
 | d + 1, fuel + 1, t, L, cs, x, hL, hx => by
  simp only [layOf] at hL
  have one : ∀ (c : Value) (v : Za) (l : Ly), Abs.VR ρ (fun b => b < w.heap.size) w (fun _ => False) v c → Fits l v → ∃ xs, RowR ρ w xs [c] ∧ FitsR [l] xs := fun c v l h1 h2 =>
   ⟨[v], ⟨rfl, fun j x c' hx hc => by
    cases j with
    | zero => simp at hx hc; subst hx; subst hc; exact h1
    | succ j => simp at hx⟩, rfl, fun j x l' hx hl => by
    cases j with
    | zero => simp at hx hl; subst hx; subst hl; exact h2
    | succ j => simp at hx⟩
  split at hL
  ·rename_i hu
   simp at hL; subst hL
   simp only [DataW.trod, hu] at hx
   split at hx <;> simp_all
   exact one _ _ _ (.bool _ _) (.bool _)
  ·rename_i k hu
   simp at hL; subst hL
   simp only [DataW.trod, hu] at hx
   split at hx <;> simp_all
   obtain ⟨⟨rfl, hwf⟩, _⟩ := hx
   exact one _ _ _ (.int _ _ _) (.int _ _ hwf)
  ·rename_i fs hu
   split at hL
   ·rename_i l hl
    split at hL <;> simp at hL
    rename_i hlen
    subst hL
    simp only [DataW.trod, hu] at hx
    split at hx
    ·rename_i hlc
     cases hm : (fs.toList.mapM fun f => DataW.trod enc P w 0 (fun _ => true) held fuel f.type ((cs.drop f.offset).take (P.cellsOf f.type))) with
     | none => simp [hm] at hx
     | some ys =>
      have := fields_ok (ρ := ρ) (fun t L cs x => trod_fits d fuel t L cs x) fs.toList 0 l cs ys hl hm (by omega)
      simpa using this
    ·simp at hx
   ·simp at hL
  ·rename_i e hu
   split at hL
   ·rename_i l hl
    split at hL <;> simp at hL
    rename_i hlen
    subst hL
    simp only [DataW.trod, hu] at hx
    split at hx <;> (try (simp_all; done))
    ·exact one _ _ _ (.nils _) (.nils _)
    ·rename_i e' a len cap he'
     simp only [Option.some.injEq, TypeDesc.slice.injEq] at he'
     subst he'
     split at hx
     ·rename_i hb
      cases hm : ((List.range len).mapM fun i => (w.cells? 0 (a.add (i * P.cellsOf e)) (P.cellsOf e)).bind (DataW.trod enc P w 0 (fun _ => true) held fuel e)) with
      | none => simp [hm] at hx
      | some elems =>
      rw [hm] at hx
      simp only [Option.bind_some, if_true] at hx
      cases hm2 : ((List.range (cap - len)).mapM fun j => (w.cells? 0 (a.add ((len + j) * P.cellsOf e)) (P.cellsOf e)).bind (DataW.trod enc P w 0 (fun _ => true) held fuel e)) with
      | none => simp [hm2] at hx
      | some rest =>
      clear hx
      generalize hn : P.cellsOf e = n at *
      have hn0 : 0 < n := by
       rw [← hlen.1]; exact List.length_pos_iff.2 hlen.2
      -- each element's cells
      have hel : ∀ i, i < len → ∃ ci xi, w.cells? 0 (a.add (i * n)) n = some ci ∧ DataW.trod enc P w 0 (fun _ => true) held fuel e ci = some xi := fun i hi => by
       obtain ⟨y, _, hy⟩ := (mapM_some hm).2 i i (by simp [hi])
       cases hc : w.cells? 0 (a.add (i * n)) n with
       | none => simp [hc] at hy
       | some ci => exact ⟨ci, y, rfl, by simpa [hc] using hy⟩
      have hspot : 0 < cap → a.spot = none := fun hcap => by
       have : ∃ c, w.cells? 0 (a.add (0 * n)) n = some c := by
        by_cases h0 : 0 < len
        ·obtain ⟨ci, _, h, _⟩ := hel 0 h0
         exact ⟨ci, h⟩
        ·have h1 : len = 0 := by omega
         subst h1
         obtain ⟨y, _, hy⟩ := (mapM_some hm2).2 0 0 (by rw [List.getElem?_range (by omega)])
         cases hc : w.cells? 0 (a.add (0 * n)) n with
         | none => simp at hy hc; simp [hc] at hy
         | some ci => exact ⟨ci, rfl⟩
       obtain ⟨c, hc⟩ := this
       obtain ⟨y, _, hy⟩ := cells_get hc 0 hn0
       simp only [Nat.zero_mul, Addr.add, if_true] at hy
       unfold World.cell? at hy
       split at hy
       ·split at hy
        ·simp at hy
        ·rename_i h; simpa using h
       ·simp at hy
      have hcell : ∀ i, i < len → ∀ ci, w.cells? 0 (a.add (i * n)) n = some ci → ci.length = n ∧ ∀ j (hj : j < n), ∃ y, ci[j]? = some y ∧ w.cell? ⟨a.block, a.off + (i * n + j), none⟩ = some y := fun i hi ci hci => by
       refine ⟨(cells_len hci), fun j hj => ?_⟩
       obtain ⟨y, h1, h2⟩ := cells_get hci j hj
       refine ⟨y, h1, ?_⟩
       rw [← h2]
       congr 1
       have hs := hspot (by omega)
       obtain ⟨ab, ao, as⟩ := a
       simp only at hs
       subst hs
       simp only [Addr.add]
       split <;> split <;> simp <;> omega
      have hrow : ∀ i, ∃ r : List Za, i < len → ∃ ci, w.cells? 0 (a.add (i * n)) n = some ci ∧ RowR ρ w r ci ∧ FitsR l r := fun i => by
       by_cases hi : i < len
       ·obtain ⟨ci, xi, h1, h2⟩ := hel i hi
        obtain ⟨r, h3, h4⟩ := trod_fits d fuel e l ci xi hl h2
        exact ⟨r, fun _ => ⟨ci, h1, h3, h4⟩⟩
       ·exact ⟨[], fun h => absurd h hi⟩
      have hR := Classical.axiomOfChoice hrow
      obtain ⟨R, hR⟩ := hR
      have hlr : ((List.range len).map R).length = len := by simp
      have hrl : ∀ i, i < len → (R i).length = n := fun i hi => by
       obtain ⟨ci, _, _, h⟩ := hR i hi
       rw [h.1, hlen.1]
      have hv : Abs.VR ρ (fun b => b < w.heap.size) w (fun _ => False) (.vl ((List.range len).map R) false) (.slice (some a) ((List.range len).map R).length cap) := by
       refine .vl _ _ false a cap a.block a.off n (fun j => (w.cell? ⟨a.block, a.off + j, none⟩).getD undef) (by rw [hlr]; exact hb.2.1) (fun h => by simp at h) ?_ (fun hne => ?_) (fun k hk => ?_) (fun j hj => ?_) (fun k hk j hj => ?_)
       ·by_cases hc : cap = 0
        ·exact .inl hc
        ·right
         have hs := hspot (by omega)
         obtain ⟨ab, ao, as⟩ := a
         simp only at hs
         subst hs; rfl
       ·have h0 : 0 < len := by
         rcases Nat.eq_zero_or_pos len with h | h
         ·subst h; simp at hne
         ·exact h
        obtain ⟨ci, _, hci, _⟩ := hel 0 h0
        obtain ⟨y, _, hy⟩ := (hcell 0 h0 ci hci).2 0 hn0
        unfold World.cell? at hy
        split at hy
        ·rename_i hh
         exact (Array.getElem?_eq_some_iff.1 hh).1
        ·simp at hy
       ·simp at hk
        simp [hrl k hk]
       ·rw [hlr] at hj
        have hq : j / n < len := Nat.div_lt_of_lt_mul (by rw [Nat.mul_comm]; exact hj)
        obtain ⟨ci, _, hci, _⟩ := hel _ hq
        obtain ⟨y, _, hy⟩ := (hcell _ hq ci hci).2 (j % n) (Nat.mod_lt _ hn0)
        rw [Nat.div_add_mod' j n] at hy
        simp [hy]
       ·simp at hk
        simp at hj
        obtain ⟨ci, hci, hrr, _⟩ := hR k hk
        have hjn : j < n := by rw [← hrl k hk]; exact hj
        obtain ⟨y, hy1, hy2⟩ := (hcell k hk ci hci).2 j hjn
        have := hrr.2 j (R k)[j] y (List.getElem?_eq_getElem hj) hy1
        simpa [hy2] using this
      rw [hlr] at hv
      refine one _ _ _ hv (.vl _ _ _ (fun r hr => ?_) fun i r hi j x ll hj hll => ?_)
      ·obtain ⟨i, hi, rfl⟩ := List.mem_map.1 hr
       simp at hi
       rw [hrl i hi, hlen.1]
      ·have hi' : i < len := by have := (List.getElem?_eq_some_iff.1 hi).1; simpa using this
       simp [hi'] at hi
       subst hi
       obtain ⟨ci, _, _, h⟩ := hR i hi'
       exact h.2 j x ll hj hll
     ·simp at hx
   ·simp at hL
  ·rename_i n e hu
   split at hL
   ·rename_i l hl
    split at hL <;> simp at hL
    rename_i hlen
    subst hL
    simp only [DataW.trod, hu] at hx
    split at hx
    ·rename_i hlc
     cases hm : ((List.range n).mapM fun i => DataW.trod enc P w 0 (fun _ => true) held fuel e ((cs.drop (i * P.cellsOf e)).take (P.cellsOf e))) with
     | none => simp [hm] at hx
     | some ys =>
      rw [List.range_eq_range'] at hm
      have := elems_ok (ρ := ρ) (fun t L cs x => trod_fits d fuel t L cs x) hl n 0 cs ys hm (by rw [hlc, ← hlen.2, hlen.1, Nat.zero_add])
      simpa using this
    ·simp at hx
   ·simp at hL
  ·simp at hL
end
end Go.Abs
namespace Go.Abs
open Go Go.RowKit
section
variable {P : Program} {G : Nat → Option (List Za)} {T : Nat → Option CFn}
abbrev ρ0 : Nat → Loc := fun _ => ⟨0, 0, 0, 0⟩
theorem fits_int {k : IntKind} {x : Za} (h : Fits (.int k) x) : ∃ n, x = .int k n ∧ (Lit.int k n).wf = true := by cases h with | int _ n h => exact ⟨n, rfl, h⟩
theorem fitsR_cons {l : Ly} {L : List Ly} {xs : List Za} (h : FitsR (l :: L) xs) : ∃ x ys, xs = x :: ys ∧ Fits l x ∧ FitsR L ys := by
 obtain ⟨h1, h2⟩ := h
 match xs, h1 with
 | x :: ys, h1 => exact ⟨x, ys, rfl, h2 0 x l rfl rfl, by simpa using h1, fun j y m hy hm => h2 (j + 1) y m (by simpa using hy) (by simpa using hm)⟩
theorem fitsR_nil {xs : List Za} (h : FitsR [] xs) : xs = [] := List.eq_nil_of_length_eq_zero h.1
theorem fits_rows {e : List Ly} {x : Za} (h : Fits (.sl e) x) : ∃ rs : List (List Za), (x = .nils ∧ rs = [] ∨ ∃ t, x = .vl rs t) ∧ ∀ r ∈ rs, FitsR e r := by
 cases h with
 | nils => exact ⟨[], .inl ⟨rfl, rfl⟩, by simp⟩
 | vl _ rs t hl h =>
  refine ⟨rs, .inr ⟨t, rfl⟩, fun r hr => ⟨hl r hr, fun j y l hy hl' => ?_⟩⟩
  obtain ⟨i, hi⟩ := List.getElem?_of_mem hr
  exact h i r hi j y l hy hl'
theorem rowR_cons {w : World} {x : Za} {c : Value} {xs : List Za} {cs : List Value} (h : Abs.VR ρ0 (fun b => b < w.heap.size) w (fun _ => False) x c) (h' : RowR ρ0 w xs cs) : RowR ρ0 w (x :: xs) (c :: cs) := by
 refine ⟨by simp [h'.1], fun j y d hy hd => ?_⟩
 cases j with
 | zero => simp at hy hd; subst hy; subst hd; exact h
 | succ j => exact h'.2 j y d (by simpa using hy) (by simpa using hd)
theorem rowR_nil {w : World} : RowR ρ0 w [] [] := ⟨rfl, fun j y d hy => by simp at hy⟩
theorem open_struct {H : Type} {enc : TypeId × Value → H} {w : World} {base : Nat} {t : TypeId} {fs : Array Field} {v : Value} {d : DataW H} {p : List MemPlace} {L : List Ly} (hu : P.underlying t = some (.struct fs)) (hL : layOf P 5 t = some L)
  (hv : Value.okWide P w .any base t v) (h : DataW.Trod enc P w 0 (fun _ => true) true t v d p) : ∃ xs, Abs.VR ρ0 (fun b => b < w.heap.size) w (fun _ => False) (.agg xs) v ∧ FitsR L xs := by
 unfold Value.okWide at hv
 rw [hu] at hv
 obtain ⟨cs, rfl, _, _⟩ := hv
 obtain ⟨fuel, hf⟩ := h
 obtain ⟨xs, h1, h2⟩ := trod_fits (ρ := ρ0) 5 fuel t L _ _ hL hf
 refine ⟨xs, .agg _ xs cs (by simpa [Value.cells] using h1.1) fun j j1 j2 => ?_, h2⟩
 exact h1.2 j _ _ (List.getElem?_eq_getElem j1) (by simp [Value.cells, j2])
theorem open_array {H : Type} {enc : TypeId × Value → H} {w : World} {base : Nat} {t : TypeId} {n : Nat} {e : TypeId} {v : Value} {d : DataW H} {p : List MemPlace} {L : List Ly} (hu : P.underlying t = some (.array n e)) (hL : layOf P 5 t = some L)
  (hv : Value.okWide P w .any base t v) (h : DataW.Trod enc P w 0 (fun _ => true) true t v d p) : ∃ xs, Abs.VR ρ0 (fun b => b < w.heap.size) w (fun _ => False) (.agg xs) v ∧ FitsR L xs := by
 unfold Value.okWide at hv
 rw [hu] at hv
 obtain ⟨cs, rfl, _, _⟩ := hv
 obtain ⟨fuel, hf⟩ := h
 obtain ⟨xs, h1, h2⟩ := trod_fits (ρ := ρ0) 5 fuel t L _ _ hL hf
 refine ⟨xs, .agg _ xs cs (by simpa [Value.cells] using h1.1) fun j j1 j2 => ?_, h2⟩
 exact h1.2 j _ _ (List.getElem?_eq_getElem j1) (by simp [Value.cells, j2])
end
end Go.Abs
namespace Go.Abs
open Go
def Xx (P : Program) (G : Nat → Option (List Za)) (f : Nat) (cf : CFn) : Prop :=
 ∃ fn c, P.funcs[f]? = some fn ∧ fn.body = some c ∧ (fn.name == "runtime.NumGoroutine") = false ∧ YG P G c = some (strip cf.body) ∧ fn.ntmps = cf.ntmps ∧ compR P fn.results.toList = some cf.res ∧ (∀ args v, cf.orc args = some v → OrcGood P G cf.frsh f args v) ∧ ∀ args h v us, cf.eff args h = some (v, us) → YD P G f args h v (setH h us)
theorem fnOk {P : Program} {G : Nat → Option (List Za)} {f : Nat} {cf : CFn} {fn : Func} (hf : P.funcs[f]? = some fn) (hb : (match fn.body with | some c => YG P G c | none => none) = some (strip cf.body))
  (hn : (fn.name == "runtime.NumGoroutine") = false) (ht : fn.ntmps = cf.ntmps) (hr : compR P fn.results.toList = some cf.res) (ho : cf.orc = fun _ => none) (hf' : cf.eff = fun _ _ => none := by rfl) : Xx P G f cf := by
 cases h : fn.body with
 | none => rw [h] at hb; simp at hb
 | some c => rw [h] at hb; exact ⟨fn, c, hf, h, hn, hb, ht, hr, fun _ _ h => by (rw [ho] at h; simp at h), fun _ _ _ _ h => by (rw [hf'] at h; simp at h)⟩
theorem tabOk_of {P : Program} {G : Nat → Option (List Za)} {T : Nat → Option CFn} (tbl : List (Option CFn)) (hT : ∀ f, T f = (match nth tbl f with | some (some c) => some c | _ => none)) (h : ∀ f cf, tbl[f]? = some (some cf) → Xx P G f cf) : Zr P G T := by
 intro f cf hf
 rw [hT, Zw] at hf
 split at hf
 ·rename_i c hc
  simp at hf; subst hf
  exact h f c hc
 ·simp at hf
def AllOk (P : Program) (G : Nat → Option (List Za)) : Nat → List (Option CFn) → Prop
 | _, [] => True
 | i, none :: l => AllOk P G (i + 1) l
 | i, some c :: l => Xx P G i c ∧ AllOk P G (i + 1) l
theorem allOk_get {P : Program} {G : Nat → Option (List Za)} {cf : CFn} : ∀ (l : List (Option CFn)) (i k : Nat), AllOk P G i l → l[k]? = some (some cf) → Xx P G (i + k) cf
 | [], _, _, _, h => by simp at h
 | none :: l, i, 0, _, h => by simp at h
 | none :: l, i, k + 1, ha, h => by rw [← Nat.add_assoc, Nat.add_right_comm]; exact allOk_get l (i + 1) k ha (by simpa using h)
 | some c :: l, i, 0, ha, h => by simp at h; subst h; exact ha.1
 | some c :: l, i, k + 1, ha, h => by rw [← Nat.add_assoc, Nat.add_right_comm]; exact allOk_get l (i + 1) k ha.2 (by simpa using h)
theorem tabOk_all {P : Program} {G : Nat → Option (List Za)} {T : Nat → Option CFn} (tbl : List (Option CFn)) (hT : ∀ f, T f = (match nth tbl f with | some (some c) => some c | _ => none)) (h : AllOk P G 0 tbl) : Zr P G T :=
 tabOk_of tbl hT fun f cf hf => by have := allOk_get tbl 0 f h hf; rwa [Nat.zero_add] at this
end Go.Abs
namespace Go.Abs
open Go
noncomputable section
abbrev I (n : Int) : Za := .int .i64 n
abbrev B (b : Bool) : Za := .bool b
theorem ZR {n : Int} (h : -1000000 ≤ n ∧ n ≤ 1000000) : W .i64 n = n := by
 simp only [W]; rw [if_pos (by omega)]
theorem ZU (P : Program) (T : Nat → Option CFn) (ex : Option Nat → CC → St → Option (AEx × St)) (σ : St) : runX P T ex [] σ = some σ := rfl
theorem ZV (P : Program) (T : Nat → Option CFn) (ex : Option Nat → CC → St → Option (AEx × St)) (base n j : Nat) (D : DSt) : runD P T ex base n [] j D = some D := rfl
theorem ZD (P : Program) (T : Nat → Option CFn) (ex : Option Nat → CC → St → Option (AEx × St)) (base n j : Nat) (o : CO) (l : List CO) (D : DSt) : runD P T ex base n (o :: l) j D = match Xp P T ex base n j o D with
  | some D' => runD P T ex base n l (j + 1) D'
  | none => none := rfl
theorem Ye {P : Program} {T : Nat → Option CFn} {r : Option Nat} {l : List CO} {σ : St} {Q : AEx → St → Prop} {D : DSt}
  (h : runD P T (fun _ _ _ => none) σ.h.length l.length l 0 ⟨σ.t, σ.h ++ List.replicate l.length none, List.replicate l.length none⟩ = some D) (hq : Q .normal ⟨D.t, D.h⟩) : Runs P T r (.drw l) σ Q := by
 refine ⟨1, .normal, ⟨D.t, D.h⟩, ?_, hq⟩
 show Xz P T (fun _ _ _ => none) r (.drw l) σ = _
 simp only [Xz, ZA, YA, h]
theorem ZS (P : Program) (b : Bool) : evalS P (Op.unary .not (.bool b)) = some (.bool !b) := rfl
theorem ZF {α : Type} (P : Program) (a : α) : evalS P (pure a) = some a := rfl
theorem ZW (t : List Za) : evAll t [] = some [] := rfl
theorem XO (n : Nat) (k : IntKind) (m : Int) : rb n 5 (.int k m) = true := rfl
theorem YX (n : Nat) (b : Bool) : rb n 5 (.bool b) = true := rfl
theorem XT (m n : Int) : (if n < m then n else m) = min m n := by rw [Int.min_def]; split <;> split <;> omega
theorem XU (m n : Int) : (if m < n then n else m) = max m n := by rw [Int.max_def]; split <;> split <;> omega
theorem XQ (n d : Nat) (xs : List Za) : rb n (d + 1) (.agg xs) = xs.all (rb n d) := rfl
theorem XM (n d : Nat) (xs : List Za) : rb n (d + 1) (.tup xs) = xs.all (rb n d) := rfl
theorem YE (n d : Nat) (k : IntKind) (m : Int) : rb n (d + 1) (.int k m) = true := rfl
theorem Yr (n d : Nat) (b : Bool) : rb n (d + 1) (.bool b) = true := rfl
theorem rb_vl (n d : Nat) (rs : List (List Za)) (t : Bool) : rb n (d + 1) (.vl rs t) = true := rfl
theorem rb_pv (n d : Nat) (r : List Za) (o : Nat) : rb n (d + 1) (.pv r o) = true := rfl
theorem XK (n d i : Nat) : rb n (d + 1) (.yld i) = decide (i < n) := rfl
theorem YW (n d : Nat) : rb n (d + 1) .nilf = true := rfl
theorem YV (n d : Nat) : rb n (d + 1) .nilp = true := rfl
theorem YU (n d : Nat) : rb n (d + 1) .nils = true := rfl
theorem XP (n d : Nat) : rb n (d + 1) .any = true := rfl
theorem XL (n d : Nat) : rb n (d + 1) .und = true := rfl
theorem XN (n d i k o : Nat) : rb n (d + 1) (.ref i k o) = decide (i < n) := rfl
theorem rb_sl (n d i k m : Nat) (t : Bool) : rb n (d + 1) (.sl i k m t) = decide (i < n) := rfl
theorem rb_fn (n d f : Nat) (a b : List Za) : rb n (d + 1) (.fn f a b) = (a.all (rb n d) && b.all (rb n d)) := rfl
theorem YC (nv : Bool) (h : Zf) (d : Nat) (k : IntKind) (n : Int) : frz nv h (d + 1) (.int k n) = some (.int k n) := rfl
theorem Yt (nv : Bool) (h : Zf) (d : Nat) (b : Bool) : frz nv h (d + 1) (.bool b) = some (.bool b) := rfl
theorem Ys (nv : Bool) (h : Zf) (d : Nat) : frz nv h (d + 1) .nils = some .nils := rfl
theorem XV (h : Zf) (d : Nat) (rs : List (List Za)) (t : Bool) : frz false h (d + 1) (.vl rs t) = some (.vl rs t) := rfl
theorem XW (h : Zf) (d : Nat) (r : List Za) (o : Nat) : frz false h (d + 1) (.pv r o) = some (.pv r o) := rfl
theorem YZ (nv : Bool) (h : Zf) (d : Nat) (xs : List Za) : frz nv h (d + 1) (.agg xs) = match Zd (frz nv h d) xs with
  | some ys => some (.agg ys)
  | none => none := rfl
theorem YY (nv : Bool) (h : Zf) (d : Nat) (xs : List Za) : frz nv h (d + 1) (.tup xs) = match Zd (frz nv h d) xs with
  | some ys => some (.tup ys)
  | none => none := rfl
theorem XX (nv : Bool) (h : Zf) (d f : Nat) (a b : List Za) : frz nv h (d + 1) (.fn f a b) = match Zd (frz nv h d) a, Zd (frz nv h d) b with
  | some a, some b => some (.fn f a b)
  | _, _ => none := rfl
theorem YJ (nv : Bool) (h : Zf) (d i k o : Nat) : frz nv h (d + 1) (.ref i k o) = match rowAt h i with
  | some (_, rs) => match nth rs k with
   | some r => match Zd (frz nv h d) r with
    | some r => some (.pv r o)
    | none => none
   | none => none
  | none => none := rfl
theorem Xw (nv : Bool) (h : Zf) (d i k n : Nat) (t : Bool) : frz nv h (d + 1) (.sl i k n t) = match rowAt h i with
  | some (_, rs) => if k + n ≤ rs.length then match Zd (Zd (frz nv h d)) ((rs.drop k).take n) with
    | some rs => some (.vl rs t)
    | none => none
   else none
  | none => none := rfl
theorem Zz {α : Type} {f : α → Option α} : ∀ (xs : List α), (∀ x ∈ xs, f x = some x) → Zd f xs = some xs
 | [], _ => rfl
 | x :: xs, h => by simp [Zd, h x, Zz xs fun y hy => h y (by simp [hy])]
theorem frz_row (nv : Bool) (h : Zf) (d i n e : Nat) (t : Bool) (rs : List (List Za)) (hi : h[i]? = some (some (.row e rs))) (hn : n = rs.length) (hr : Zd (Zd (frz nv h d)) rs = some rs) : frz nv h (d + 1) (.sl i 0 n t) = some (.vl rs t) := by
 subst hn
 rw [Xw]
 simp [rowAt, Zw, hi, hr]
def flat : Za → Bool
 | .int _ _ => true
 | .bool _ => true
 | _ => false
theorem frz_flat (nv : Bool) (h : Zf) (d : Nat) {v : Za} (hv : flat v = true) : frz nv h (d + 1) v = some v := by
 cases v <;> simp [flat] at hv <;> rfl
theorem frz_rows (nv : Bool) (h : Zf) (d : Nat) (rs : List (List Za)) (hr : ∀ r ∈ rs, ∀ x ∈ r, flat x = true) : Zd (Zd (frz nv h (d + 1))) rs = some rs :=
 Zz rs fun r h1 => Zz r fun x h2 => frz_flat nv h d (hr r h1 x h2)
def Yi : Za → Option (List (List Za))
 | .nils => some []
 | .vl rs _ => some rs
 | _ => none
theorem Yq (rs : List (List Za)) (t : Bool) : Yi (.vl rs t) = some rs := rfl
theorem ZE : Yi .nils = some [] := rfl
theorem rowsV_len {x : Za} {rs : List (List Za)} (h : Yi x = some rs) : Zc x = some rs.length := by
 cases x <;> simp [Yi] at h <;> subst h <;> rfl
theorem rowsV_get {x : Za} {rs : List (List Za)} (h : Yi x = some rs) {k : Nat} (hk : k < rs.length) : ∃ t, x = .vl rs t := by
 cases x <;> simp [Yi] at h
 ·subst h; simp at hk
 ·subst h; exact ⟨_, rfl⟩
theorem optAll_map {α β : Type} {d : α → Option β} {enc : β → α} (h : ∀ x, d (enc x) = some x) (xs : List β) : Zd d (xs.map enc) = some xs := by
 induction xs with
 | nil => rfl
 | cons x xs ih => simp [Zd, ih, h]
theorem optAll_eq {α β : Type} {d : α → Option β} {enc : β → α} (h : ∀ r x, d r = some x → r = enc x) : ∀ {rs : List α} {xs : List β}, Zd d rs = some xs → rs = xs.map enc
 | [], xs, e => by simp [Zd] at e; subst e; rfl
 | r :: rs, xs, e => by
  simp only [Zd] at e
  split at e <;> simp at e
  rename_i y ys h1 h2
  subst e
  rw [h r y h1, optAll_eq h h2]
  rfl
def dI1 : List Za → Option Int
 | [.int .i64 n] => some n
 | _ => none
theorem dI1_eq (r : List Za) (n : Int) (h : dI1 r = some n) : r = [I n] := by
 unfold dI1 at h; split at h <;> simp at h; subst h; rfl
def dI2 : List Za → Option (Int × Int)
 | [.int .i64 a, .int .i64 b] => some (a, b)
 | _ => none
def dI3 : List Za → Option (Int × Int × Int)
 | [.int .i64 a, .int .i64 b, .int .i64 c] => some (a, b, c)
 | _ => none
theorem dI3_eq (r : List Za) (n : Int × Int × Int) (h : dI3 r = some n) : r = [I n.1, I n.2.1, I n.2.2] := by
 unfold dI3 at h; split at h <;> simp at h; subst h; rfl
def dI5 : List Za → Option (Int × Int × Int × Int × Int)
 | [.int .i64 a, .int .i64 b, .int .i64 c, .int .i64 d, .int .i64 e] => some (a, b, c, d, e)
 | _ => none
def isI : Za → Bool
 | .int .i64 _ => true
 | _ => false
theorem isI_eq {x : Za} (h : isI x = true) : ∃ a : Int, x = I a := by
 unfold isI at h; split at h <;> simp at h; exact ⟨_, rfl⟩
theorem allB_self_row : ∀ (r : List Za), (∀ x ∈ r, isI x = true) → allB (eqA 3) r r = true
 | [], _ => rfl
 | x :: r, h => by
  obtain ⟨a, rfl⟩ := isI_eq (h x (by simp))
  have h1 : eqA 3 (I a) (I a) = true := by simp [eqA]
  simp only [allB, h1, allB_self_row r fun x hx => h x (by simp [hx]), Bool.and_self]
theorem allB_self : ∀ (rs : List (List Za)), (∀ r ∈ rs, ∀ x ∈ r, isI x = true) → allB (allB (eqA 3)) rs rs = true
 | [], _ => rfl
 | r :: rs, h => by simp only [allB, allB_self_row r (h r (by simp)), allB_self rs fun r hr => h r (by simp [hr]), Bool.and_self]
theorem Xl {x : Za} {rs : List (List Za)} (hx : Yi x = some rs) : cellsOf x = some [x] ∧ Zq x = true := by
 cases x <;> simp [Yi] at hx <;> exact ⟨rfl, rfl⟩
theorem rowsV_rb {x : Za} {rs : List (List Za)} (hx : Yi x = some rs) (n d : Nat) : rb n (d + 1) x = true := by
 cases x <;> simp [Yi] at hx <;> rfl
theorem rowsV_cases {x : Za} {rs : List (List Za)} (hx : Yi x = some rs) : (x = .nils ∧ rs = []) ∨ ∃ t, x = .vl rs t := by
 cases x <;> simp [Yi] at hx
 ·exact .inl ⟨rfl, hx⟩
 ·exact .inr ⟨_, by rw [hx]⟩
theorem rowsV_frz {x : Za} {rs : List (List Za)} (hx : Yi x = some rs) (h : Zf) (d : Nat) : frz false h (d + 1) x = some x := by
 cases x <;> simp [Yi] at hx <;> rfl
def upd (T : Nat → Option CFn) (f : Nat) (fr : Bool) (orc : List Za → Option Za) (g : Nat) : Option CFn :=
 if g = f then (match T f with
  | some c => some { c with frsh := fr, orc := orc }
  | none => none)
 else T g
theorem tab_upd {P : Program} {G : Nat → Option (List Za)} {T : Nat → Option CFn} (hT : Zr P G T) {f : Nat} {fr : Bool} {orc : List Za → Option Za} (ho : ∀ args v, orc args = some v → OrcGood P G fr f args v) : Zr P G (upd T f fr orc) := by
 intro g cf hg
 unfold upd at hg
 split at hg
 ·rename_i e
  subst e
  split at hg <;> simp at hg
  rename_i c hc
  subst hg
  obtain ⟨fn, b, h1, h2, h3, h4, h5, h6, _, h8⟩ := hT g c hc
  exact ⟨fn, b, h1, h2, h3, h4, h5, h6, ho, h8⟩
 ·exact hT g cf hg
theorem Xm {P : Program} {G : Nat → Option (List Za)} {T : Nat → Option CFn} (hm : P.follows .mixedOrders = true) (hT : Zr P G T) {f : Nat} {fr : Bool} {orc : List Za → Option Za}
  (ho : ∀ args v, orc args = some v → ZH P T f args [] fun v' h' => frz fr h' 5 v' = some v) : Zr P G (upd T f fr orc) :=
 tab_upd hT fun args v h => YL hm hT (ho args v h)
def known (T : Nat → Option CFn) (f : Nat) (args : List Za) : Option Za :=
 match T f with
 | some c => orcF c args []
 | none => none
theorem Zu {cf : CFn} {args : List Za} {h : Zf} (ho : cf.orc = fun _ => none) : orcF cf args h = none := by
 unfold orcF; rw [ho]; split <;> rfl
theorem callF_orc {T : Nat → Option CFn} {ex : Option Nat → CC → St → Option (AEx × St)} {f : Nat} {cf : CFn} {args : List Za} {h : Zf} {v : Za} (hT : T f = some cf) (ho : orcF cf args h = some v) : Yj T ex f args h = some (v, h) := by
 unfold Yj
 simp only [hT, ho, Xt]
def callB (T : Nat → Option CFn) (ex : Option Nat → CC → St → Option (AEx × St)) (f : Nat) (args : List Za) (h : Zf) : Option (Za × Zf) := Yj T ex f args h
theorem zC {T : Nat → Option CFn} {ex : Option Nat → CC → St → Option (AEx × St)} {f : Nat} {cf : CFn} (hT : T f = some cf) (args : List Za) (h : Zf) : Yj T ex f args h = match orcF cf args h with
  | some v => some (v, h)
  | none => callB T ex f args h := by
 cases ho : orcF cf args h with
 | none => rfl
 | some v => exact callF_orc hT ho
theorem callF_known {T : Nat → Option CFn} {ex : Option Nat → CC → St → Option (AEx × St)} {f : Nat} {args : List Za} {v : Za} (hk : known T f args = some v) : Yj T ex f args [] = some (v, []) := by
 unfold known at hk
 split at hk
 ·rename_i c hc; exact callF_orc hc hk
 ·simp at hk
def elt : List Za → Za
 | [x] => x
 | r => .agg r
def idxA (q : List Za → Option Za) : Nat → List (List Za) → Option Int
 | _, [] => some (-1)
 | k, r :: rs => match q r with
  | some (.bool true) => some k
  | some (.bool false) => idxA q (k + 1) rs
  | _ => none
theorem idxA_some {q : List Za → Option Za} {p : List Za → Bool} : ∀ (rs : List (List Za)) (k : Nat), (∀ r ∈ rs, q r = some (.bool (p r))) → idxA q k rs = some (match rs.findIdx? p with | some i => ((k + i : Nat) : Int) | none => -1)
 | [], k, _ => rfl
 | r :: rs, k, h => by
  simp only [idxA, h r (by simp), List.findIdx?_cons]
  cases hp : p r with
  | true => simp
  | false =>
   rw [idxA_some rs (k + 1) fun r hr => h r (by simp [hr])]
   cases hf : rs.findIdx? p with
   | none => simp
   | some i => simp only [Option.map_some, Bool.false_eq_true, if_false]; rw [show k + 1 + i = k + (i + 1) by omega]
theorem idxA_any {q : List Za → Option Za} {p : List Za → Bool} (rs : List (List Za)) (h : ∀ r ∈ rs, q r = some (.bool (p r))) : ∃ i, idxA q 0 rs = some i ∧ decide (0 ≤ i) = rs.any p := by
 refine ⟨_, idxA_some rs 0 h, ?_⟩
 cases hf : rs.findIdx? p with
 | none =>
  rw [List.findIdx?_eq_none_iff] at hf
  have : rs.any p = false := by rw [List.any_eq_false]; exact fun x hx => by simp [hf x hx]
  rw [this]; rfl
 | some i =>
  have h1 : (rs.findIdx? p).isSome = true := by simp [hf]
  rw [List.findIdx?_isSome] at h1
  rw [h1]
  simp only [Nat.zero_add, decide_eq_true_eq]
  omega
theorem Yn (vs : List Za) (h : Zf) (hv : vs.all (rb 0 5) = true) : trim 0 vs h = [] := by simp [trim, hv]
theorem Yp (n : Nat) (vs : List Za) : trim n vs [] = [] := by simp [trim]
theorem Yo {n : Nat} (vs : List Za) {h : Zf} (hn : h.length = n) : trim n vs h = h := by subst hn; simp [trim]
theorem ZT (vs : List Za) (h : Zf) : trim h.length vs h = h := by simp [trim]
end
end Go.Abs
namespace Go.Abs
open Go
def FlatB : Option Blk → Prop
 | none => True
 | some (.row _ rs) => ∀ r ∈ rs, ∀ x ∈ r, isI x = true
 | _ => False
def FlatH (h : Zf) : Prop := ∀ b ∈ h, FlatB b
theorem FlatB.rb {b : Option Blk} (h : FlatB b) (n : Nat) : rbB n b = true := by
 unfold FlatB at h
 split at h
 ·rfl
 ·simp only [rbB, List.all_eq_true]
  intro r hr x hx
  obtain ⟨a, rfl⟩ := isI_eq (h r hr x hx)
  rfl
 ·exact h.elim
theorem FlatH.app {h g : Zf} (hh : FlatH h) (hg : FlatH g) : FlatH (h ++ g) := fun b hb => (List.mem_append.1 hb).elim (hh b) (hg b)
theorem FlatH.set {h : Zf} (hh : FlatH h) {i : Nat} {b : Option Blk} (hb : FlatB b) : FlatH (h.set i b) := fun c hc => by
 rcases List.mem_or_eq_of_mem_set hc with h1 | rfl
 ·exact hh c h1
 ·exact hb
theorem trim_keep {n : Nat} {vs : List Za} {h : Zf} (hv : vs.all (rb n 5) = false) : trim n vs h = h := by simp [trim, hv]
end Go.Abs
namespace Go.Abs
open Go
section
variable {P : Program} {T : Nat → Option CFn} {r : Option Nat} {σ : St}
theorem callF_ext {f : Nat} {args : List Za} {h : Zf} {x : Za × Zf} {n m : Nat} (hn : n ≤ m) (hc : Yj T (exec P T n) f args h = some x) : Yj T (exec P T m) f args h = some x :=
 callF_mono (exec_mono hn) hc
theorem runs_rf {g : CV} {ps : List Nat} {asg bd : CC} {f : Nat} {a b : List Za} {Q : AEx → St → Prop} (hin : inLoop r σ.h = true) (hev : g.ev σ.t = some (.fn f a b))
  (h : ZH P T f (a ++ [.yld σ.h.length] ++ b) (σ.h ++ [some (.loop σ.t ps asg bd .ready none)]) fun _ h2 => ∃ t' ps' asg' bd' st pd, h2[σ.h.length]? = some (some (.loop t' ps' asg' bd' st pd)) ∧ st ≠ .busy ∧
   (match pd with
   | none => Q .normal ⟨σ.t, h2.set σ.h.length none⟩
   | some c => Runs P T r c ⟨σ.t, h2.set σ.h.length none⟩ Q)) : Runs P T r (.rf g ps asg bd) σ Q := by
 obtain ⟨n, v, h2, hc, t', ps', asg', bd', st, pd, hl, hst, hq⟩ := h
 cases pd with
 | none =>
  refine ⟨n + 1, .normal, ⟨σ.t, h2.set σ.h.length none⟩, ?_, hq⟩
  rw [exec_succ]
  simp only [Xz, hin, hev, YA, ZA, hc, Zw, hl, hst, if_false, Zv]
 | some c =>
  obtain ⟨m, e, σ', hm, hq⟩ := hq
  refine ⟨max n m + 1, e, σ', ?_, hq⟩
  rw [exec_succ]
  simp only [Xz, hin, hev, YA, ZA, callF_ext (Nat.le_max_left n m) hc, Zw, hl, hst, if_false, Zv]
  exact exec_mono (Nat.le_max_right n m) _ _ _ _ hm
end
end Go.Abs
namespace Go.Abs
open Go
noncomputable section
def isR (R : Za) (x : Option (Za × Zf)) : Bool := match x with
 | some (v, h) => match frz true h 5 v with
  | some r => eqA 12 r R
  | none => false
 | none => false
theorem Zo {P : Program} {T : Nat → Option CFn} {f n : Nat} {A : List Za} {R : Za} (h : isR R (Yj T (exec P T n) f A []) = true) : ZH P T f A [] fun v' h' => frz true h' 5 v' = some R := by
 cases hc : Yj T (exec P T n) f A [] with
 | none => rw [hc] at h; simp [isR] at h
 | some p =>
  obtain ⟨v, g⟩ := p
  rw [hc] at h
  unfold isR at h
  simp only at h
  split at h
  ·rename_i r hr
   exact ⟨n, v, g, hc, by show frz true g 5 v = some R; rw [hr, eqA_eq 12 r R h]⟩
  ·simp at h
def oAt : List (List Za × Za) → List Za → Option Za
 | [], _ => none
 | (A, R) :: L, args => if allB (eqA 12) args A then some R else oAt L args
theorem allB_eqA : ∀ {xs ys : List Za} {n : Nat}, allB (eqA n) xs ys = true → xs = ys
 | [], [], _, _ => rfl
 | x :: xs, y :: ys, n, h => by
  simp only [allB, Bool.and_eq_true] at h
  rw [eqA_eq n x y h.1, allB_eqA h.2]
 | [], _ :: _, _, h => by simp [allB] at h
 | _ :: _, [], _, h => by simp [allB] at h
end
end Go.Abs
namespace Go.Abs
open Go
theorem XH : Zq .any = false := rfl
theorem XD : Zq .und = false := rfl
theorem XI (a : List Za) : Zq (.agg a) = false := rfl
theorem XE (a : List Za) : Zq (.tup a) = false := rfl
theorem YS (b : Bool) : Zq (.bool b) = true := rfl
theorem XG (k : IntKind) (n : Int) : Zq (.int k n) = true := rfl
theorem YP : Zq .nilp = true := rfl
theorem XF (i k o : Nat) : Zq (.ref i k o) = true := rfl
theorem st_pv (r : List Za) (o : Nat) : Zq (.pv r o) = true := rfl
theorem YO : Zq .nils = true := rfl
theorem st_sl (i k n : Nat) (t : Bool) : Zq (.sl i k n t) = true := rfl
theorem st_vl (rs : List (List Za)) (t : Bool) : Zq (.vl rs t) = true := rfl
theorem YQ : Zq .nilm = true := rfl
theorem st_mp (i : Nat) : Zq (.mp i) = true := rfl
theorem st_fn (f : Nat) (a b : List Za) : Zq (.fn f a b) = true := rfl
theorem YR : Zq .nilf = true := rfl
theorem XC (i : Nat) : Zq (.yld i) = true := rfl
theorem co_any : cellsOf .any = none := rfl
theorem co_und : cellsOf .und = none := rfl
theorem co_tup (a : List Za) : cellsOf (.tup a) = none := rfl
theorem co_agg (a : List Za) : cellsOf (.agg a) = some a := rfl
theorem Xe (b : Bool) : cellsOf (.bool b) = some [.bool b] := rfl
theorem co_int (k : IntKind) (n : Int) : cellsOf (.int k n) = some [.int k n] := rfl
theorem Xb : cellsOf .nilp = some [.nilp] := rfl
theorem co_ref (i k o : Nat) : cellsOf (.ref i k o) = some [.ref i k o] := rfl
theorem co_pv (r : List Za) (o : Nat) : cellsOf (.pv r o) = some [.pv r o] := rfl
theorem Xa : cellsOf .nils = some [.nils] := rfl
theorem co_sl (i k n : Nat) (t : Bool) : cellsOf (.sl i k n t) = some [.sl i k n t] := rfl
theorem co_vl (rs : List (List Za)) (t : Bool) : cellsOf (.vl rs t) = some [.vl rs t] := rfl
theorem Xc : cellsOf .nilm = some [.nilm] := rfl
theorem co_mp (i : Nat) : cellsOf (.mp i) = some [.mp i] := rfl
theorem co_fn (f : Nat) (a b : List Za) : cellsOf (.fn f a b) = some [.fn f a b] := rfl
theorem Xd : cellsOf .nilf = some [.nilf] := rfl
theorem XZ (i : Nat) : cellsOf (.yld i) = some [.yld i] := rfl
end Go.Abs
namespace Go.Proofs.YtjjapdagllclkaaGreat.Tab
open Go Go.Abs Go.Proofs
noncomputable section
def inI (a n b : Int) : Bool := decide (a ≤ n) && decide (n ≤ b)
def wB (a b : Int) (xs : List Int) : Bool := xs.all fun x => decide (a ≤ x) && decide (x ≤ b)
abbrev YH := Int × Int × Int
structure FShop where
 mach : Int
 chg : List (List Int)
 stops : List YH
structure FJob where
 kind : Int
 ready : Int
 due : Int
 mins : List Int
 deriving Inhabited
def stopOk (m : Int) (x : YH) : Bool := inI 0 x.1 (m - 1) && wB 0 100000 [x.2.1, x.2.2] && decide (x.2.1 < x.2.2)
def jobOk (m : Int) (kinds : Nat) (j : FJob) : Bool := inI 0 j.kind (kinds - 1) && wB 0 100000 [j.ready, j.due] && ((j.mins.length : Int) == m) && wB 0 2000 j.mins
def chgOk (kinds : Nat) (l : List Int) : Bool := (l.length == kinds) && wB 0 500 l
def shopE (s : FShop) (js : List FJob) : Int :=
 if !(inI 1 s.mach 4 && inI 1 s.chg.length 4 && s.chg.all (chgOk s.chg.length)) then 2
 else if 10 < s.stops.length then 5
 else if !(s.stops.all (stopOk s.mach)) then 3
 else if 6 < js.length then 8
 else if !(js.all (jobOk s.mach s.chg.length)) then 4
 else 0
structure ShopOk (s : FShop) (js : List FJob) : Prop where
 mach : 1 ≤ s.mach ∧ s.mach ≤ 4
 kinds : 1 ≤ s.chg.length ∧ s.chg.length ≤ 4
 chg : ∀ l ∈ s.chg, l.length = s.chg.length ∧ ∀ c ∈ l, 0 ≤ c ∧ c ≤ 500
 nst : s.stops.length ≤ 10
 stop : ∀ x ∈ s.stops, (0 ≤ x.1 ∧ x.1 < s.mach) ∧ (0 ≤ x.2.1 ∧ x.2.1 ≤ 100000) ∧ (0 ≤ x.2.2 ∧ x.2.2 ≤ 100000) ∧ x.2.1 < x.2.2
 njob : js.length ≤ 6
 job : ∀ j ∈ js, (0 ≤ j.kind ∧ j.kind < s.chg.length) ∧ (0 ≤ j.ready ∧ j.ready ≤ 110000) ∧ (0 ≤ j.due ∧ j.due ≤ 100000) ∧ (j.mins.length : Int) = s.mach ∧ ∀ n ∈ j.mins, 0 ≤ n ∧ n ≤ 2000
theorem shop_ok {s : FShop} {js : List FJob} (h : shopE s js = 0) : ShopOk s js := by
 unfold shopE at h
 split at h
 ·simp at h
 rename_i h1
 split at h
 ·simp at h
 rename_i h2
 split at h
 ·simp at h
 rename_i h3
 split at h
 ·simp at h
 rename_i h4
 split at h
 ·simp at h
 rename_i h5
 simp only [Bool.not_eq_true', Bool.not_eq_false, Bool.and_eq_true, List.all_eq_true] at h1 h3 h5
 obtain ⟨⟨m1, m2⟩, m3⟩ := h1
 simp only [inI, Bool.and_eq_true, decide_eq_true_eq] at m1 m2
 refine ⟨m1, by omega, fun l hl => ?_, by omega, fun x hx => ?_, by omega, fun j hj => ?_⟩
 ·have := m3 l hl
  simp only [chgOk, wB, Bool.and_eq_true, beq_iff_eq, List.all_eq_true, decide_eq_true_eq] at this
  exact this
 ·have := h3 x hx
  simp only [stopOk, inI, wB, Bool.and_eq_true, List.all_eq_true, decide_eq_true_eq, List.mem_cons, List.not_mem_nil, or_false, forall_eq_or_imp, forall_eq] at this
  omega
 ·have := h5 j hj
  simp only [jobOk, inI, wB, Bool.and_eq_true, beq_iff_eq, List.all_eq_true, decide_eq_true_eq, List.mem_cons, List.not_mem_nil, or_false, forall_eq_or_imp, forall_eq] at this
  obtain ⟨⟨⟨g1, g2⟩, g3⟩, g4⟩ := this
  exact ⟨by omega, by omega, by omega, g3, g4⟩
def conf (k n t : Int) (x : YH) : Bool := (x.1 == k) && decide (t < x.2.2) && decide (x.2.1 < t + n)
def isFree (st : List YH) (k n t : Int) : Prop := ∀ x ∈ st, conf k n t x = false
structure FreeAt (st : List YH) (k n a t : Int) : Prop where
 low : a ≤ t
 free : isFree st k n t
 least : ∀ u, a ≤ u → isFree st k n u → t ≤ u
theorem FreeAt.unique {st : List YH} {k n a t u : Int} (h : FreeAt st k n a t) (h' : FreeAt st k n a u) : t = u :=
 Int.le_antisymm (h.least u h'.low h'.free) (h'.least t h.low h.free)
open Classical in
def freeT (st : List YH) (k n a : Int) : Int := if h : ∃ t, FreeAt st k n a t then h.choose else a
theorem freeT_eq {st : List YH} {k n a t : Int} (h : FreeAt st k n a t) : freeT st k n a = t := by
 have hh : ∃ t, FreeAt st k n a t := ⟨t, h⟩
 unfold freeT
 rw [dif_pos hh]
 exact hh.choose_spec.unique h
theorem conf_until {k n t : Int} {x : YH} (hc : conf k n t x = true) {u : Int} (hu : t ≤ u) (hf : conf k n u x = false) : x.2.2 ≤ u := by
 simp only [conf, Bool.and_eq_true, beq_iff_eq, decide_eq_true_eq, Bool.and_eq_false_iff, beq_eq_false_iff_ne, decide_eq_false_iff_not] at hc hf
 omega
theorem freeAt_self {st : List YH} {k n a : Int} (h : isFree st k n a) : FreeAt st k n a a := ⟨Int.le_refl _, h, fun _ h _ => h⟩
theorem freeAt_step {st : List YH} {k n a t : Int} {x : YH} (hx : x ∈ st) (hc : conf k n a x = true) (h : FreeAt st k n x.2.2 t) : FreeAt st k n a t := by
 have h1 : a < x.2.2 := by simp only [conf, Bool.and_eq_true, decide_eq_true_eq] at hc; exact hc.1.2
 have := h.low
 exact ⟨by omega, h.free, fun u hu hf => h.least u (conf_until hc hu (hf x hx)) hf⟩
theorem freeAt_ex (st : List YH) (k n : Int) : ∀ (c : Nat) (a : Int), (st.filter fun x => decide (a < x.2.2)).length ≤ c → ∃ t, FreeAt st k n a t := by
 intro c
 induction c with
 | zero =>
  intro a hc
  refine ⟨a, freeAt_self fun x hx => ?_⟩
  have h0 : st.filter (fun x => decide (a < x.2.2)) = [] := List.eq_nil_of_length_eq_zero (by omega)
  have := List.filter_eq_nil_iff.1 h0 x hx
  unfold conf
  simp only [decide_eq_true_eq] at this
  simp [this]
 | succ c ih =>
  intro a hc
  by_cases hf : isFree st k n a
  ·exact ⟨a, freeAt_self hf⟩
  ·unfold isFree at hf
   simp only [Classical.not_forall, Bool.not_eq_false] at hf
   obtain ⟨x, hx, hcx⟩ := hf
   have h1 : a < x.2.2 := by simp only [conf, Bool.and_eq_true, decide_eq_true_eq] at hcx; exact hcx.1.2
   have hlt : (st.filter fun y => decide (x.2.2 < y.2.2)).length < (st.filter fun y => decide (a < y.2.2)).length := by
    have e : st.filter (fun y => decide (x.2.2 < y.2.2)) = (st.filter fun y => decide (a < y.2.2)).filter (fun y => decide (x.2.2 < y.2.2)) := by
     rw [List.filter_filter]
     congr 1
     funext y
     by_cases h : x.2.2 < y.2.2
     ·have : a < y.2.2 := by omega
      simp [h, this]
     ·simp [h]
    rw [e]
    refine Nat.lt_of_le_of_ne (List.length_filter_le _ _) fun he => ?_
    have := List.length_filter_eq_length_iff.1 he x (List.mem_filter.2 ⟨hx, by simpa using h1⟩)
    simp at this
   obtain ⟨t, ht⟩ := ih x.2.2 (by omega)
   exact ⟨t, freeAt_step hx hcx ht⟩
theorem freeT_spec (st : List YH) (k n a : Int) : FreeAt st k n a (freeT st k n a) := by
 have hh := freeAt_ex st k n _ a (Nat.le_refl _)
 unfold freeT
 rw [dif_pos hh]
 exact hh.choose_spec
theorem freeT_low (st : List YH) (k n a : Int) : a ≤ freeT st k n a := (freeT_spec st k n a).low
theorem freeT_le {st : List YH} {k n a M : Int} (ha : a ≤ M) (hM : ∀ x ∈ st, x.2.2 ≤ M) : freeT st k n a ≤ M :=
 (freeT_spec st k n a).least M ha fun x hx => by have := hM x hx; unfold conf; simp; intros; omega
abbrev FLine := List (Int × Int × Bool)
def line0 : FLine := [(0, 0, false), (0, 0, false), (0, 0, false), (0, 0, false)]
def chgAt (s : FShop) (a b : Int) : Int := (s.chg.getD a.toNat []).getD b.toNat 0
def Xv (s : FShop) (kind : Int) (l : FLine) (k : Nat) (n t : Int) : Int :=
 if 0 < n then freeT s.stops k n (if (l.getD k (0, 0, false)).2.2 then max t ((l.getD k (0, 0, false)).1 + chgAt s (l.getD k (0, 0, false)).2.1 kind) else t) else t
def Xy (s : FShop) (kind : Int) : List Int → Nat → Int → FLine → List Int × Int × FLine
 | [], _, t, l => ([], t, l)
 | n :: ns, k, t, l => ((Xv s kind l k n t :: (Xy s kind ns (k + 1) (Xv s kind l k n t + n) (if 0 < n then l.set k (Xv s kind l k n t + n, kind, true) else l)).1),
   (Xy s kind ns (k + 1) (Xv s kind l k n t + n) (if 0 < n then l.set k (Xv s kind l k n t + n, kind, true) else l)).2)
def passF (s : FShop) (l : FLine) (j : FJob) : List Int × Int × FLine := Xy s j.kind j.mins 0 j.ready l
structure FRun where
 line : FLine
 starts : List (List Int)
 ends : List Int
def runStep (s : FShop) (js : List FJob) (r : FRun) (i : Int) : FRun :=
 ⟨(passF s r.line (js.getD i.toNat default)).2.2, r.starts.set i.toNat (passF s r.line (js.getD i.toNat default)).1, r.ends.set i.toNat (passF s r.line (js.getD i.toNat default)).2.1⟩
def run0 (n : Nat) : FRun := ⟨line0, List.replicate n [], List.replicate n 0⟩
def runF (s : FShop) (js : List FJob) (order : List Int) : FRun := order.foldl (runStep s js) (run0 js.length)
def isOrder (order : List Int) (n : Nat) : Prop := order.length = n ∧ ∀ i : Nat, i < n → (i : Int) ∈ order
structure LineOk (s : FShop) (B : Int) (l : FLine) : Prop where
 len : l.length = 4
 at' : ∀ x ∈ l, (0 ≤ x.1 ∧ x.1 ≤ B) ∧ 0 ≤ x.2.1 ∧ (x.2.1 = 0 ∨ x.2.1 < s.chg.length)
theorem line0_ok (s : FShop) {B : Int} (hB : 0 ≤ B) : LineOk s B line0 := ⟨rfl, fun x hx => by simp [line0] at hx; subst hx; simp; exact hB⟩
theorem chgAt_bd {s : FShop} {js : List FJob} (h : ShopOk s js) (a b : Int) : 0 ≤ chgAt s a b ∧ chgAt s a b ≤ 500 := by
 unfold chgAt
 rw [List.getD_eq_getElem?_getD, List.getD_eq_getElem?_getD]
 cases h1 : s.chg[a.toNat]? with
 | none => simp
 | some l =>
  simp only [Option.getD_some]
  cases h2 : l[b.toNat]? with
  | none => simp
  | some c => exact (h.chg l (List.mem_of_getElem? h1)).2 c (List.mem_of_getElem? h2)
theorem startF_bd {s : FShop} {js : List FJob} (h : ShopOk s js) {B : Int} (hB : 110000 ≤ B) {l : FLine} (hl : LineOk s B l) (kind : Int) (k : Nat) (n t : Int) (ht : 0 ≤ t ∧ t ≤ B) : t ≤ Xv s kind l k n t ∧ Xv s kind l k n t ≤ B + 500 := by
 unfold Xv
 split
 ·have hc := chgAt_bd h (l.getD k (0, 0, false)).2.1 kind
  have hx : (0 ≤ (l.getD k (0, 0, false)).1 ∧ (l.getD k (0, 0, false)).1 ≤ B) := by
   rw [List.getD_eq_getElem?_getD]
   cases h1 : l[k]? with
   | none => simp; omega
   | some x => exact (hl.at' x (List.mem_of_getElem? h1)).1
  have hs : ∀ x ∈ s.stops, x.2.2 ≤ B + 500 := fun x hx => by have := h.stop x hx; omega
  split
  ·have h1 := freeT_low s.stops k n (max t ((l.getD k (0, 0, false)).1 + chgAt s (l.getD k (0, 0, false)).2.1 kind))
   have h2 := freeT_le (k := k) (n := n) (a := max t ((l.getD k (0, 0, false)).1 + chgAt s (l.getD k (0, 0, false)).2.1 kind)) (M := B + 500) (by omega) hs
   omega
  ·have h1 := freeT_low s.stops k n t
   have h2 := freeT_le (k := k) (n := n) (a := t) (M := B + 500) (by omega) hs
   omega
 ·omega
theorem LineOk.mono {s : FShop} {B C : Int} {l : FLine} (h : LineOk s B l) (hBC : B ≤ C) : LineOk s C l := ⟨h.len, fun x hx => by have := h.at' x hx; exact ⟨by omega, this.2⟩⟩
theorem passGo_bd {s : FShop} {js : List FJob} (h : ShopOk s js) (kind : Int) (hk : 0 ≤ kind ∧ kind < s.chg.length) : ∀ (ns : List Int) (k : Nat) (t B : Int) (l : FLine), (∀ n ∈ ns, 0 ≤ n ∧ n ≤ 2000) → 110000 ≤ B → LineOk s B l → 0 ≤ t ∧ t ≤ B →
  (∀ x ∈ (Xy s kind ns k t l).1, 0 ≤ x ∧ x ≤ B + 2500 * (ns.length : Int)) ∧ (0 ≤ (Xy s kind ns k t l).2.1 ∧ (Xy s kind ns k t l).2.1 ≤ B + 2500 * (ns.length : Int)) ∧ LineOk s (B + 2500 * (ns.length : Int)) (Xy s kind ns k t l).2.2
 | [], k, t, B, l, _, hB, hl, ht => by simp [Xy]; exact ⟨ht, hl⟩
 | n :: ns, k, t, B, l, hn, hB, hl, ht => by
  have hs := startF_bd h hB hl kind k n t ht
  have hn0 := hn n (by simp)
  have hl' : LineOk s (B + 2500) (if 0 < n then l.set k (Xv s kind l k n t + n, kind, true) else l) := by
   split
   ·refine ⟨by rw [List.length_set]; exact hl.len, fun x hx => ?_⟩
    rcases List.mem_or_eq_of_mem_set hx with hx | rfl
    ·exact (hl.mono (by omega)).at' x hx
    ·simp only; omega
   ·exact hl.mono (by omega)
  have ih := passGo_bd h kind hk ns (k + 1) (Xv s kind l k n t + n) (B + 2500) _ (fun m hm => hn m (by simp [hm])) (by omega) hl' (by omega)
  simp only [Xy, List.length_cons, List.mem_cons, forall_eq_or_imp]
  have e : B + 2500 + 2500 * (ns.length : Int) = B + 2500 * ((ns.length + 1 : Nat) : Int) := by omega
  rw [e] at ih
  exact ⟨⟨by omega, ih.1⟩, ih.2⟩
theorem passGo_len (s : FShop) (kind : Int) : ∀ (ns : List Int) (k : Nat) (t : Int) (l : FLine), (Xy s kind ns k t l).1.length = ns.length
 | [], _, _, _ => rfl
 | n :: ns, k, t, l => by simp [Xy, passGo_len s kind ns]
end
end Go.Proofs.YtjjapdagllclkaaGreat.Tab
namespace Go.Proofs.YtjjapdagllclkaaGreat.Tab
open Go Go.Abs Go.Proofs
section
variable {α : Type} {le : α → α → Prop}
end
def srt (xs : List Int) : List Int := xs.mergeSort fun a b => decide (a ≤ b)
theorem srt_perm (xs : List Int) : (srt xs).Perm xs := List.mergeSort_perm _ _
theorem srt_pair (xs : List Int) : (srt xs).Pairwise (· ≤ ·) := by
  have := List.pairwise_mergeSort (le := fun a b : Int => decide (a ≤ b)) (fun _ _ _ h1 h2 => by simp only [decide_eq_true_eq] at *; omega) (fun _ _ => by simp only [Bool.or_eq_true, decide_eq_true_eq]; omega) xs
  exact this.imp fun h => by simpa using h
theorem srt_eq {xs ys : List Int} (hp : ys.Perm xs) (hs : ys.Pairwise (· ≤ ·)) : ys = srt xs :=
  List.Perm.eq_of_pairwise (le := (· ≤ ·)) (fun a b _ _ h1 h2 => Int.le_antisymm h1 h2) hs (srt_pair xs) (hp.trans (srt_perm xs).symm)
theorem srt_len (xs : List Int) : (srt xs).length = xs.length := (srt_perm xs).length_eq
def upTo (n : Nat) : List Int := (List.range n).map Int.ofNat
theorem upTo_len (n : Nat) : (upTo n).length = n := by simp [upTo]
theorem upTo_mem {n : Nat} {i : Int} : i ∈ upTo n ↔ 0 ≤ i ∧ i < n := by
 simp only [upTo, List.mem_map, List.mem_range]
 constructor
 ·rintro ⟨k, h, rfl⟩; simp only [Int.ofNat_eq_natCast]; omega
 ·intro h; exact ⟨i.toNat, by omega, by simp only [Int.ofNat_eq_natCast]; omega⟩
theorem upTo_pair (n : Nat) : (upTo n).Pairwise (· ≤ ·) := by
  rw [List.pairwise_iff_getElem]
  intro i j hi hj hij
  simp [upTo]; omega
theorem upTo_nodup (n : Nat) : (upTo n).Nodup := by
 rw [List.Nodup, List.pairwise_iff_getElem]
 intro i j hi hj hij
 simp [upTo]; omega
theorem perm_of_sub : ∀ (l m : List Int), l.Nodup → (∀ x ∈ l, x ∈ m) → m.length ≤ l.length → l.Perm m
 | [], m, _, _, hl => by
  have : m = [] := List.eq_nil_of_length_eq_zero (by simpa using hl)
  subst this; exact .nil
 | a :: l, m, hn, hs, hl => by
  have ha : a ∈ m := hs a (by simp)
  have hp := List.perm_cons_erase ha
  obtain ⟨hn1, hn2⟩ := List.nodup_cons.1 hn
  refine (List.Perm.cons a (perm_of_sub l (m.erase a) hn2 (fun x hx => ?_) ?_)).trans hp.symm
  ·exact (List.mem_erase_of_ne (fun e => hn1 (by rw [← e]; exact hx))).2 (hs x (by simp [hx]))
  ·rw [List.length_erase_of_mem ha]; simp at hl; omega
def ordB (os : List Int) (n : Nat) : Bool := srt os == upTo n
theorem ord_perm {os : List Int} {n : Nat} (h : ordB os n = true) : os.Perm (upTo n) := by
 have := eq_of_beq h
 rw [← this]; exact (srt_perm os).symm
theorem perm_ord {os : List Int} {n : Nat} (h : os.Perm (upTo n)) : ordB os n = true := by
 unfold ordB
 rw [beq_iff_eq]
 exact (srt_eq h.symm (upTo_pair n)).symm
theorem ord_iff {os : List Int} {n : Nat} : ordB os n = true ↔ isOrder os n := by
 constructor
 ·intro h
  have hp := ord_perm h
  exact ⟨by rw [hp.length_eq, upTo_len], fun i hi => hp.symm.subset (upTo_mem.2 ⟨by omega, by omega⟩)⟩
 ·rintro ⟨h1, h2⟩
  exact perm_ord (perm_of_sub (upTo n) os (upTo_nodup n) (fun x hx => by have := upTo_mem.1 hx; have h := h2 x.toNat (by omega); rwa [show ((x.toNat : Nat) : Int) = x by omega] at h) (by rw [upTo_len]; omega)).symm
theorem ord_mem {os : List Int} {n : Nat} (h : ordB os n = true) {i : Int} : i ∈ os ↔ 0 ≤ i ∧ i < n := by
 rw [(ord_perm h).mem_iff, upTo_mem]
theorem ord_len {os : List Int} {n : Nat} (h : ordB os n = true) : os.length = n := (ord_iff.1 h).1
theorem ord_nodup {os : List Int} {n : Nat} (h : ordB os n = true) : os.Nodup := (ord_perm h).symm.nodup (upTo_nodup n)
theorem ord_at {os : List Int} {n : Nat} : ordB os n = true ↔ os.length = n ∧ ∀ k (hk : k < (srt os).length), (srt os)[k] = (k : Int) := by
 constructor
 ·intro h
  refine ⟨ord_len h, fun k hk => ?_⟩
  have := eq_of_beq h
  simp [this, upTo]
 ·rintro ⟨h1, h2⟩
  unfold ordB
  rw [beq_iff_eq]
  refine List.ext_getElem (by rw [srt_len, upTo_len, h1]) fun k hk _ => ?_
  rw [h2 k hk]; simp [upTo]
def endAt (E : List Int) (k : Nat) : Int := E.getD k 0
def dueAt (js : List FJob) (k : Nat) : Int := (js.getD k default).due
def Xs (E : List Int) (js : List FJob) : Nat → List Int
 | 0 => []
 | k + 1 => Xs E js k ++ if dueAt js k < endAt E k then [(k : Int)] else []
theorem lateL_len (E : List Int) (js : List FJob) : ∀ k, (Xs E js k).length ≤ k
 | 0 => Nat.le_refl _
 | k + 1 => by
  have := lateL_len E js k
  simp only [Xs, List.length_append]
  split <;> simp <;> omega
def latF (E : List Int) (js : List FJob) : Nat → Int × Int
 | 0 => (0, 0)
 | k + 1 => ((latF E js k).1 + max 0 (endAt E k - dueAt js k), max (latF E js k).2 (endAt E k))
theorem latF_bd {E : List Int} {js : List FJob} (hE : ∀ e ∈ E, 0 ≤ e ∧ e ≤ 1000000) (hd : ∀ j ∈ js, 0 ≤ j.due) : ∀ k, k ≤ 100 → k ≤ js.length → (0 ≤ (latF E js k).1 ∧ (latF E js k).1 ≤ 1000000 * k) ∧ (0 ≤ (latF E js k).2 ∧ (latF E js k).2 ≤ 1000000)
 | 0, _, _ => by simp [latF]
 | k + 1, hk, hk2 => by
  have ih := latF_bd hE hd k (by omega) (by omega)
  have he : 0 ≤ endAt E k ∧ endAt E k ≤ 1000000 := by
   unfold endAt
   rw [List.getD_eq_getElem?_getD]
   cases h : E[k]? with
   | none => simp
   | some e => exact hE e (List.mem_of_getElem? h)
  have hdu : 0 ≤ dueAt js k := by
   unfold dueAt
   rw [List.getD_eq_getElem?_getD, List.getElem?_eq_getElem (show k < js.length by omega)]
   exact hd _ (List.getElem_mem _)
  simp only [latF]
  omega
structure RunOk (s : FShop) (B : Int) (n : Nat) (r : FRun) : Prop where
 line : LineOk s B r.line
 slen : r.starts.length = n
 elen : r.ends.length = n
 st : ∀ l ∈ r.starts, ∀ x ∈ l, 0 ≤ x ∧ x ≤ B
 en : ∀ e ∈ r.ends, 0 ≤ e ∧ e ≤ B
theorem RunOk.mono {s : FShop} {B C : Int} {n : Nat} {r : FRun} (h : RunOk s B n r) (hc : B ≤ C) : RunOk s C n r :=
 ⟨h.line.mono hc, h.slen, h.elen, fun l hl x hx => by have := h.st l hl x hx; omega, fun e he => by have := h.en e he; omega⟩
theorem run0_ok (s : FShop) (n : Nat) {B : Int} (hB : 0 ≤ B) : RunOk s B n (run0 n) :=
 ⟨line0_ok s hB, by simp [run0], by simp [run0], fun l hl x hx => by simp [run0] at hl; obtain ⟨_, rfl⟩ := hl; simp at hx, fun e he => by simp [run0] at he; omega⟩
theorem passF_bd {s : FShop} {js : List FJob} (h : ShopOk s js) {B : Int} (hB : 110000 ≤ B) {l : FLine} (hl : LineOk s B l) {j : FJob} (hj : j ∈ js) :
  (∀ x ∈ (passF s l j).1, 0 ≤ x ∧ x ≤ B + 10000) ∧ (0 ≤ (passF s l j).2.1 ∧ (passF s l j).2.1 ≤ B + 10000) ∧ LineOk s (B + 10000) (passF s l j).2.2 := by
 have hb := h.job j hj
 have hm := h.mach
 have := passGo_bd h j.kind hb.1 j.mins 0 j.ready B l hb.2.2.2.2 hB hl (by omega)
 have h4 : (j.mins.length : Int) ≤ 4 := by omega
 exact ⟨fun x hx => by have := this.1 x hx; omega, by have h5 := this.2.1; unfold passF; omega, this.2.2.mono (by omega)⟩
theorem runStep_ok {s : FShop} {js : List FJob} (h : ShopOk s js) {B : Int} (hB : 110000 ≤ B) {r : FRun} (hr : RunOk s B js.length r) {i : Int} (hi : 0 ≤ i ∧ i < js.length) : RunOk s (B + 10000) js.length (runStep s js r i) := by
 have hl : i.toNat < js.length := by omega
 have hg : js.getD i.toNat default = js[i.toNat] := by rw [List.getD_eq_getElem?_getD, List.getElem?_eq_getElem hl]; rfl
 have hb := passF_bd h hB hr.line (List.getElem_mem hl)
 unfold runStep
 rw [hg]
 refine ⟨hb.2.2, by simp [hr.slen], by simp [hr.elen], fun l hl x hx => ?_, fun e he => ?_⟩
 ·rcases List.mem_or_eq_of_mem_set hl with hl | rfl
  ·have := hr.st l hl x hx; omega
  ·exact hb.1 x hx
 ·rcases List.mem_or_eq_of_mem_set he with he | rfl
  ·have := hr.en e he; omega
  ·exact hb.2.1
theorem run_fold_ok {s : FShop} {js : List FJob} (h : ShopOk s js) : ∀ (os : List Int) (r : FRun) (B : Int), 110000 ≤ B → RunOk s B js.length r → (∀ i ∈ os, 0 ≤ i ∧ i < js.length) → RunOk s (B + 10000 * (os.length : Int)) js.length (os.foldl (runStep s js) r)
 | [], r, B, _, hr, _ => by simpa using hr
 | i :: os, r, B, hB, hr, ho => by
  have h1 := runStep_ok h hB hr (ho i (by simp))
  have := run_fold_ok h os _ (B + 10000) (by omega) h1 (fun x hx => ho x (by simp [hx]))
  simp only [List.foldl_cons, List.length_cons]
  exact this.mono (by omega)
theorem runF_ok {s : FShop} {js : List FJob} (h : ShopOk s js) {os : List Int} (hl : os.length ≤ 6) (ho : ∀ i ∈ os, 0 ≤ i ∧ i < js.length) : RunOk s 170000 js.length (runF s js os) :=
 (run_fold_ok h os _ 110000 (by omega) (run0_ok s js.length (by omega)) ho).mono (by omega)
end Go.Proofs.YtjjapdagllclkaaGreat.Tab
namespace Go.Proofs.YtjjapdagllclkaaGreat.Tab
open Go Go.Abs Go.Proofs
noncomputable section
def lAt (l : FLine) (k : Nat) : Int × Int × Bool := l.getD k (0, 0, false)
theorem lAt_set_ne {l : FLine} {k j : Nat} {x : Int × Int × Bool} (h : j ≠ k) : lAt (l.set j x) k = lAt l k := by
 unfold lAt; rw [List.getD_eq_getElem?_getD, List.getD_eq_getElem?_getD, List.getElem?_set_ne h]
theorem lAt_set {l : FLine} {k : Nat} {x : Int × Int × Bool} (h : k < l.length) : lAt (l.set k x) k = x := by
 unfold lAt; rw [List.getD_eq_getElem?_getD, List.getElem?_set_self h]; rfl
def nAt (ns : List Int) (i : Nat) : Int := ns.getD i 0
theorem nAt_zero (n : Int) (ns : List Int) : nAt (n :: ns) 0 = n := rfl
theorem nAt_succ (n : Int) (ns : List Int) (i : Nat) : nAt (n :: ns) (i + 1) = nAt ns i := by simp [nAt]
theorem passGo_end (s : FShop) (kind : Int) : ∀ (ns : List Int) (k0 : Nat) (t : Int) (l : FLine), ns ≠ [] →
  (Xy s kind ns k0 t l).2.1 = nAt (Xy s kind ns k0 t l).1 (ns.length - 1) + nAt ns (ns.length - 1)
 | [], _, _, _, h => absurd rfl h
 | [n], k0, t, l, _ => by simp [Xy, nAt]
 | n :: m :: ns, k0, t, l, _ => by
  have ih := passGo_end s kind (m :: ns) (k0 + 1) (Xv s kind l k0 n t + n) (if 0 < n then l.set k0 (Xv s kind l k0 n t + n, kind, true) else l) (by simp)
  rw [Xy]
  simp only
  rw [ih]
  simp only [List.length_cons, Nat.add_sub_cancel, nAt_succ]
def runN (s : FShop) (js : List FJob) (os : List Int) (a : Nat) : FRun := (os.take a).foldl (runStep s js) (run0 js.length)
def lineN (s : FShop) (js : List FJob) (os : List Int) (a : Nat) : FLine := (runN s js os a).line
def jobO (js : List FJob) (os : List Int) (a : Nat) : FJob := js.getD (os.getD a 0).toNat default
theorem oget {os : List Int} {a : Nat} (ha : a < os.length) : os.getD a 0 = os[a] := by rw [List.getD_eq_getElem?_getD, List.getElem?_eq_getElem ha]; rfl
theorem fold_keep (s : FShop) (js : List FJob) {i : Nat} : ∀ (os : List Int) (r : FRun), (∀ x ∈ os, x.toNat ≠ i) → (os.foldl (runStep s js) r).starts[i]? = r.starts[i]? ∧ (os.foldl (runStep s js) r).ends[i]? = r.ends[i]?
 | [], _, _ => ⟨rfl, rfl⟩
 | x :: os, r, h => by
  have hx := h x (by simp)
  have ih := fold_keep s js os (runStep s js r x) fun y hy => h y (by simp [hy])
  simp only [List.foldl_cons]
  rw [ih.1, ih.2]
  simp only [runStep]
  rw [List.getElem?_set_ne hx, List.getElem?_set_ne hx]
  exact ⟨rfl, rfl⟩
theorem fold_len (s : FShop) (js : List FJob) : ∀ (o : List Int) (r : FRun), (o.foldl (runStep s js) r).starts.length = r.starts.length ∧ (o.foldl (runStep s js) r).ends.length = r.ends.length
 | [], _ => ⟨rfl, rfl⟩
 | i :: o, r => by
  have := fold_len s js o (runStep s js r i)
  simp only [List.foldl_cons]
  rw [this.1, this.2]
  simp [runStep]
theorem run_at (s : FShop) (js : List FJob) {os : List Int} (ho : ordB os js.length = true) {a : Nat} (ha : a < os.length) :
  (runF s js os).starts[os[a].toNat]? = some (passF s (lineN s js os a) (jobO js os a)).1 ∧ (runF s js os).ends[os[a].toNat]? = some (passF s (lineN s js os a) (jobO js os a)).2.1 := by
 have e : os = os.take a ++ os[a] :: os.drop (a + 1) := by rw [← List.drop_eq_getElem_cons ha, List.take_append_drop]
 have hm : ∀ i (h : i < os.length), 0 ≤ os[i] ∧ os[i] < js.length := fun i h => (ord_mem ho).1 (List.getElem_mem h)
 have hne : ∀ x ∈ os.drop (a + 1), x.toNat ≠ os[a].toNat := fun x hx => by
  obtain ⟨p, hp, rfl⟩ := List.mem_iff_getElem.1 hx
  rw [List.getElem_drop]
  have hp' : a + 1 + p < os.length := by rw [List.length_drop] at hp; omega
  have h1 := hm (a + 1 + p) hp'
  have h2 := hm a ha
  intro hh
  have heq : os[a + 1 + p] = os[a] := by omega
  have hn := ord_nodup ho
  rw [List.Nodup, List.pairwise_iff_getElem] at hn
  exact hn a (a + 1 + p) ha hp' (by omega) heq.symm
 have hr : runF s js os = (os.drop (a + 1)).foldl (runStep s js) (runStep s js (runN s js os a) os[a]) := by
  unfold runF runN
  conv => lhs; rw [e]
  rw [List.foldl_append]; rfl
 have hk := fold_keep s js (os.drop (a + 1)) (runStep s js (runN s js os a) os[a]) hne
 have hl := fold_len s js (os.take a) (run0 js.length)
 have h2 := hm a ha
 have hj : jobO js os a = js.getD os[a].toNat default := by unfold jobO; rw [oget ha]
 rw [hr, hk.1, hk.2, hj]
 simp only [runStep, lineN]
 have hl1 : (runN s js os a).starts.length = js.length := by unfold runN; rw [hl.1]; simp [run0]
 have hl2 : (runN s js os a).ends.length = js.length := by unfold runN; rw [hl.2]; simp [run0]
 rw [List.getElem?_set_self (by omega), List.getElem?_set_self (by omega)]
 exact ⟨rfl, rfl⟩
theorem ord_find {os : List Int} {n : Nat} (ho : ordB os n = true) {i : Nat} (hi : i < n) : ∃ a, ∃ h : a < os.length, os[a].toNat = i := by
 have hm := (ord_mem ho (i := (i : Int))).2 ⟨by omega, by omega⟩
 obtain ⟨a, ha, e⟩ := List.mem_iff_getElem.1 hm
 exact ⟨a, ha, by rw [e]; omega⟩
theorem jobO_mem {js : List FJob} {os : List Int} (ho : ordB os js.length = true) {a : Nat} (ha : a < os.length) : jobO js os a ∈ js := by
 have h := (ord_mem ho).1 (List.getElem_mem ha)
 unfold jobO
 rw [oget ha, List.getD_eq_getElem?_getD, List.getElem?_eq_getElem (by omega)]
 exact List.getElem_mem _
end
end Go.Proofs.YtjjapdagllclkaaGreat.Tab
set_option maxRecDepth 100000
namespace Go.Proofs.YtjjapdagllclkaaGreat.Tab
open Go Go.Abs
noncomputable section
def ci (n : Int) : CV := .c (.int .i64 n)
def cl (f : Nat) (l : List CV) : COp := .call (.c (.fn f [] [])) l
def oo (d : Nat) (c : COp) : CO := ⟨some d, c, none, []⟩
def om (d e : Nat) : CO := ⟨some d, .mv (.t e), none, []⟩
def op (d : Nat) (c : COp) (b : List Nat) : CO := ⟨some d, c, none, b⟩
def og (d : Nat) (c : COp) (g : Nat) (v : Bool) : CO := ⟨some d, c, some (g, v), []⟩
theorem zA {a b : Prop} (x : a) (y : b) : a ∧ b := ⟨x, y⟩
def c10 : CFn := ⟨(.seq (.reg [oo 2 (.box (.t 0)), oo 3 (.box (.t 1)), oo 4 (.mv (.c (.bool false)))]) (.seq (.reg [oo 41 (.ldn 26 (.t 2)), oo 42 (cl 41 [(.t 41)]), om 40 42, oo 43 (.ext 0 (.t 40)), oo 44 (.ext 1 (.t 40)), oo 5 (.new [(.int .i64 (0)), .nils, .nils]), ⟨none, (.st 3 (.t 5) (.t 43)), none, []⟩, om 6 44]) (.seq (.seq (.reg [om 45 6, oo 46 (.len (.t 45)), oo 47 (.ar .eql (.t 46) (ci 0))]) (.cond (.t 47) (.seq (.reg [oo 48 (cl 15 []), om 4 48]) .ret) .skip)) (.seq (.drw [oo 49 (.ldn 26 (.t 2)), op 50 (.mv (.t 6)) [0], op 51 (.len (.t 50)) [0], oo 52 (cl 42 [(.t 49), (.t 51)]), op 53 (.iaa 6 1 (.t 3) (ci 0)) [0, 1, 2, 3], op 54 (.ld (.t 53)) [0, 1, 2, 3], op 55 (.conv .i64 (.t 54)) [0, 1, 2, 3], op 56 (.mv (.t 6)) [0, 1, 2, 3, 4, 5, 6], op 57 (.len (.t 56)) [0, 1, 2, 3, 4, 5, 6], op 58 (.ar .rem (.t 55) (.t 57)) [0, 1, 2, 3], op 7 (.mv (.t 52)) [4, 5, 6, 7, 8, 9], om 8 58]) (.seq (.reg [oo 60 (.ldn 3 (.t 5)), oo 61 (cl 16 [(.t 60)]), om 62 6, oo 63 (cl 17 [(.t 62)]), om 64 7, oo 65 (cl 18 [(.t 64)]), oo 66 (cl 43 [(.t 61), (.t 63), (.t 65)]), om 59 66, oo 67 (.ext 0 (.t 59)), oo 68 (.ext 1 (.t 59)), om 9 67, om 10 68]) (.seq (.reg [oo 70 (.ldn 3 (.t 5)), om 71 6, om 72 9, oo 73 (cl 44 [(.t 70), (.t 71), (.t 72)]), om 69 73, oo 74 (.ext 0 (.t 69)), oo 75 (.ext 1 (.t 69)), om 11 74, om 12 75]) (.seq (.seq (.reg [om 76 10, oo 77 (.ar .neq (.t 76) (ci 0)), om 78 77, og 79 (.mv (.t 12)) 78 false, og 80 (.un .not (.t 79)) 78 false, oo 81 (.pick (.t 78) (.c (.bool true)) (.t 80))]) (.cond (.t 81) (.seq (.reg [oo 4 (.mv (.c (.bool false)))]) .ret) .skip)) (.seq (.reg [om 82 6, oo 83 (cl 17 [(.t 82)]), om 13 83]) (.seq (.seq (.reg [oo 84 (.iaa 6 1 (.t 3) (ci 1)), oo 85 (.ld (.t 84)), oo 86 (.ar .rem (.t 85) (.c (.int .u8 (2)))), oo 87 (.ar .eql (.t 86) (.c (.int .u8 (0))))]) (.cond (.t 87) (.drw [om 88 13, op 89 (.mv (.t 8)) [0], oo 90 (.ias 4 (.t 88) (.t 89)), oo 91 (.fa 1 (.t 90)), oo 92 (.ld (.t 91)), op 93 (.iaa 6 1 (.t 3) (ci 2)) [0, 1, 2, 3, 4], op 94 (.ld (.t 93)) [0, 1, 2, 3, 4], op 95 (.conv .i64 (.t 94)) [0, 1, 2, 3, 4], oo 96 (.ar .add (.t 92) (.t 95)), oo 97 (.ias 4 (.t 88) (.t 89)), oo 98 (.fa 1 (.t 97)), ⟨none, (.st 1 (.t 98) (.t 96)), none, []⟩]) (.seq (.reg [oo 99 (.iaa 6 1 (.t 3) (ci 2)), oo 100 (.ld (.t 99)), oo 101 (.conv .i64 (.t 100)), oo 102 (.fa 0 (.t 5)), oo 103 (.ld (.t 102)), oo 104 (.ar .rem (.t 101) (.t 103)), om 14 104]) (.seq (.reg [om 105 13, om 106 8, oo 107 (.ias 4 (.t 105) (.t 106)), oo 108 (.fa 3 (.t 107)), oo 109 (.ld (.t 108)), om 110 14, oo 111 (.ias 1 (.t 109) (.t 110)), oo 112 (.ld (.t 111)), oo 113 (.ar .gtr (.t 112) (ci 0))]) (.cond (.t 113) (.drw [om 114 13, op 115 (.mv (.t 8)) [0], oo 116 (.ias 4 (.t 114) (.t 115)), oo 117 (.fa 3 (.t 116)), oo 118 (.ld (.t 117)), op 119 (.mv (.t 14)) [0, 1, 2, 3, 4], oo 120 (.ias 1 (.t 118) (.t 119)), oo 121 (.ld (.t 120)), op 122 (.iaa 6 1 (.t 3) (ci 3)) [0, 1, 2, 3, 4, 5, 6, 7], op 123 (.ld (.t 122)) [0, 1, 2, 3, 4, 5, 6, 7], op 124 (.conv .i64 (.t 123)) [0, 1, 2, 3, 4, 5, 6, 7], oo 125 (.ar .add (.t 121) (.t 124)), oo 126 (.ias 1 (.t 118) (.t 119)), ⟨none, (.st 1 (.t 126) (.t 125)), none, []⟩]) .skip))))) (.seq (.reg [oo 128 (.ldn 3 (.t 5)), oo 129 (cl 16 [(.t 128)]), om 130 13, oo 131 (cl 17 [(.t 130)]), om 132 7, oo 133 (cl 18 [(.t 132)]), oo 134 (cl 43 [(.t 129), (.t 131), (.t 133)]), om 127 134, oo 135 (.ext 0 (.t 127)), oo 136 (.ext 1 (.t 127)), om 15 135, om 16 136]) (.seq (.reg [oo 138 (.ldn 3 (.t 5)), om 139 13, om 140 15, oo 141 (cl 44 [(.t 138), (.t 139), (.t 140)]), om 137 141, oo 142 (.ext 0 (.t 137)), oo 143 (.ext 1 (.t 137)), om 12 143]) (.seq (.seq (.reg [om 144 16, oo 145 (.ar .neq (.t 144) (ci 0)), om 146 145, og 147 (.mv (.t 12)) 146 false, og 148 (.un .not (.t 147)) 146 false, oo 149 (.pick (.t 146) (.c (.bool true)) (.t 148)), om 150 149, og 151 (.mv (.t 15)) 150 false, og 152 (.mv (.t 9)) 150 false, og 153 (cl 46 [(.t 151), (.t 152)]) 150 false, oo 154 (.pick (.t 150) (.c (.bool true)) (.t 153))]) (.cond (.t 154) (.seq (.reg [oo 4 (.mv (.c (.bool false)))]) .ret) .skip)) (.seq (.reg [oo 155 (.iaa 6 1 (.t 3) (ci 4)), oo 156 (.ld (.t 155)), oo 157 (.conv .i64 (.t 156)), oo 158 (.ar .mul (ci 2) (.t 157)), om 17 158]) (.seq (.drw [oo 159 (.iaa 6 1 (.t 3) (ci 3)), oo 160 (.ld (.t 159)), oo 161 (.conv .i64 (.t 160)), op 162 (.fa 0 (.t 5)) [0, 1, 2], op 163 (.ld (.t 162)) [0, 1, 2], oo 164 (.ar .rem (.t 161) (.t 163)), op 165 (.mv (.t 17)) [0, 1, 2, 3, 4, 5], op 166 (.mv (.t 17)) [0, 1, 2, 3, 4, 5, 6], op 167 (.ar .add (.t 166) (ci 1)) [0, 1, 2, 3, 4, 5, 6], op 168 (.iaa 6 1 (.t 3) (ci 5)) [0, 1, 2, 3, 4, 5, 6, 7, 8], op 169 (.ld (.t 168)) [0, 1, 2, 3, 4, 5, 6, 7, 8], op 170 (.conv .i64 (.t 169)) [0, 1, 2, 3, 4, 5, 6, 7, 8], op 171 (.ar .add (.t 167) (.t 170)) [0, 1, 2, 3, 4, 5, 6], oo 172 (.bld [(.int .i64 (0)), (.int .i64 (0)), (.int .i64 (0))] [(0, (1, (.t 164))), (1, (1, (.t 165))), (2, (1, (.t 171)))]), op 18 (.new [(.int .i64 (0)), (.int .i64 (0)), (.int .i64 (0))]) [0, 1, 2, 3, 4, 5, 6, 7, 8, 9, 10, 11, 12, 13], ⟨none, (.st 3 (.t 18) (.t 172)), none, []⟩]) (.seq (.drw [oo 174 (.ldn 3 (.t 5)), oo 175 (cl 16 [(.t 174)]), op 176 (.mv (.t 6)) [0, 1], oo 177 (cl 17 [(.t 176)]), op 178 (.mv (.t 7)) [0, 1, 2, 3], oo 179 (cl 18 [(.t 178)]), op 180 (.ldn 3 (.t 18)) [0, 1, 2, 3, 4, 5], oo 181 (cl 35 [(.t 175), (.t 177), (.t 179), (.t 180)]), om 173 181, oo 182 (.ext 0 (.t 173)), op 183 (.ext 1 (.t 173)) [9], op 19 (.mv (.t 182)) [10], om 20 183]) (.seq (.reg [oo 184 (.ldn 3 (.t 5)), oo 185 (cl 16 [(.t 184)]), oo 21 (.new [(.int .i64 (0)), .nils, .nils]), ⟨none, (.st 3 (.t 21) (.t 185)), none, []⟩]) (.seq (.reg [oo 186 (.fa 2 (.t 21)), oo 187 (.ld (.t 186)), oo 188 (.ldn 3 (.t 18)), oo 189 (.bsl 3 1 [(.int .i64 (0)), (.int .i64 (0)), (.int .i64 (0))] [(0, (.t 188))]), oo 190 (.app 3 (.t 187) (.t 189)), oo 191 (.fa 2 (.t 21)), ⟨none, (.st 1 (.t 191) (.t 190)), none, []⟩]) (.seq (.reg [oo 193 (.ldn 3 (.t 21)), oo 194 (cl 16 [(.t 193)]), om 195 6, oo 196 (cl 17 [(.t 195)]), om 197 7, oo 198 (cl 18 [(.t 197)]), oo 199 (cl 43 [(.t 194), (.t 196), (.t 198)]), om 192 199, oo 200 (.ext 0 (.t 192)), oo 201 (.ext 1 (.t 192)), om 22 200, om 23 201]) (.seq (.reg [oo 203 (.ldn 3 (.t 5)), om 204 6, om 205 22, oo 206 (cl 44 [(.t 203), (.t 204), (.t 205)]), om 202 206, oo 207 (.ext 0 (.t 202)), oo 208 (.ext 1 (.t 202)), om 24 207, om 25 208]) (.seq (.seq (.reg [om 209 20, oo 210 (.ar .neq (.t 209) (ci 0)), om 211 210, og 212 (.mv (.t 23)) 211 false, og 213 (.ar .neq (.t 212) (ci 0)) 211 false, oo 214 (.pick (.t 211) (.c (.bool true)) (.t 213)), om 215 214, og 216 (.mv (.t 25)) 215 false, og 217 (.un .not (.t 216)) 215 false, oo 218 (.pick (.t 215) (.c (.bool true)) (.t 217)), om 219 218, og 220 (.mv (.t 22)) 219 false, og 221 (.mv (.t 9)) 219 false, og 222 (cl 46 [(.t 220), (.t 221)]) 219 false, oo 223 (.pick (.t 219) (.c (.bool true)) (.t 222))]) (.cond (.t 223) (.seq (.reg [oo 4 (.mv (.c (.bool false)))]) .ret) .skip)) (.seq (.reg [oo 26 (.mv (ci 0)), oo 27 (.mv (.c (.bool false)))]) (.seq (.seq (.reg [oo 28 (.mv (ci 0))]) (.block 0 (.loop 487066080 (.seq (.seq (.reg [om 224 28, om 225 6, oo 226 (.len (.t 225)), oo 227 (.ar .lss (.t 224) (.t 226))]) (.cond (.t 227) .skip (.exit 0))) (.seq (.block 1 (.seq (.drw [om 230 27, om 231 230, og 232 (.mv (.t 11)) 231 false, ⟨(some 233), (.mv (.t 28)), (some (231, false)), [2]⟩, og 234 (.ias 1 (.t 232) (.t 233)) 231 false, og 235 (.ld (.t 234)) 231 false, ⟨(some 236), (.mv (.t 6)), (some (231, false)), [2, 3, 4, 5]⟩, ⟨(some 237), (.mv (.t 28)), (some (231, false)), [2, 3, 4, 5, 6]⟩, ⟨(some 238), (.ias 4 (.t 236) (.t 237)), (some (231, false)), [2, 3, 4, 5]⟩, ⟨(some 239), (.fa 2 (.t 238)), (some (231, false)), [2, 3, 4, 5]⟩, ⟨(some 240), (.ld (.t 239)), (some (231, false)), [2, 3, 4, 5]⟩, og 241 (.ar .gtr (.t 235) (.t 240)) 231 false, oo 242 (.pick (.t 231) (.c (.bool true)) (.t 241)), om 27 242]) (.seq (.seq (.drw [om 243 24, op 244 (.mv (.t 28)) [0], oo 245 (.ias 1 (.t 243) (.t 244)), oo 246 (.ld (.t 245)), op 247 (.mv (.t 6)) [0, 1, 2, 3], op 248 (.mv (.t 28)) [0, 1, 2, 3, 4], op 249 (.ias 4 (.t 247) (.t 248)) [0, 1, 2, 3], op 250 (.fa 2 (.t 249)) [0, 1, 2, 3], op 251 (.ld (.t 250)) [0, 1, 2, 3], oo 252 (.ar .leq (.t 246) (.t 251)), om 253 252, og 254 (.mv (.t 11)) 253 false, ⟨(some 255), (.mv (.t 28)), (some (253, false)), [11]⟩, og 256 (.ias 1 (.t 254) (.t 255)) 253 false, og 257 (.ld (.t 256)) 253 false, ⟨(some 258), (.mv (.t 6)), (some (253, false)), [11, 12, 13, 14]⟩, ⟨(some 259), (.mv (.t 28)), (some (253, false)), [11, 12, 13, 14, 15]⟩, ⟨(some 260), (.ias 4 (.t 258) (.t 259)), (some (253, false)), [11, 12, 13, 14]⟩, ⟨(some 261), (.fa 2 (.t 260)), (some (253, false)), [11, 12, 13, 14]⟩, ⟨(some 262), (.ld (.t 261)), (some (253, false)), [11, 12, 13, 14]⟩, og 263 (.ar .gtr (.t 257) (.t 262)) 253 false, oo 264 (.pick (.t 253) (.c (.bool true)) (.t 263))]) (.cond (.t 264) (.exit 1) .skip)) (.seq (.seq (.reg [om 265 26, om 266 19, oo 267 (.len (.t 266)), oo 268 (.ar .geq (.t 265) (.t 267)), om 269 268, og 270 (.mv (.t 19)) 269 false, og 271 (.mv (.t 26)) 269 false, og 272 (.ias 1 (.t 270) (.t 271)) 269 false, og 273 (.ld (.t 272)) 269 false, og 274 (.mv (.t 28)) 269 false, og 275 (.ar .neq (.t 273) (.t 274)) 269 false, oo 276 (.pick (.t 269) (.c (.bool true)) (.t 275))]) (.cond (.t 276) (.seq (.reg [oo 4 (.mv (.c (.bool false)))]) .ret) .skip)) (.reg [om 277 26, oo 278 (.ar .add (.t 277) (ci 1)), om 26 278]))))) (.reg [om 228 28, oo 229 (.ar .add (.t 228) (ci 1)), om 28 229])))))) (.seq (.reg [oo 280 (.ldn 3 (.t 5)), oo 281 (cl 16 [(.t 280)]), om 282 6, oo 283 (cl 17 [(.t 282)]), om 284 7, oo 285 (cl 18 [(.t 284)]), om 286 8, oo 287 (cl 38 [(.t 281), (.t 283), (.t 285), (.t 286)]), om 279 287, oo 288 (.ext 0 (.t 279)), oo 289 (.ext 1 (.t 279)), om 29 288, om 30 289]) (.seq (.seq (.reg [om 290 27]) (.cond (.t 290) (.seq (.reg [om 291 26, om 292 19, oo 293 (.len (.t 292)), oo 294 (.ar .eql (.t 291) (.t 293)), om 295 294, og 296 (.mv (.t 30)) 295 true, og 297 (.ar .eql (.t 296) (ci 9)) 295 true, oo 298 (.pick (.t 295) (.t 297) (.c (.bool false))), om 299 298, og 300 (.mv (.t 29)) 299 true, og 301 (.ar .eql (.t 300) (ci 0)) 299 true, oo 302 (.pick (.t 299) (.t 301) (.c (.bool false))), om 303 302, og 304 (cl 15 []) 303 true, oo 305 (.pick (.t 303) (.t 304) (.c (.bool false))), om 4 305]) .ret) .skip)) (.seq (.seq (.reg [om 306 26, om 307 19, oo 308 (.len (.t 307)), oo 309 (.ar .neq (.t 306) (.t 308)), om 310 309, og 311 (.mv (.t 30)) 310 false, og 312 (.ar .neq (.t 311) (ci 0)) 310 false, oo 313 (.pick (.t 310) (.c (.bool true)) (.t 312)), om 314 313, og 315 (.mv (.t 29)) 314 false, og 316 (.ar .lss (.t 315) (ci 0)) 314 false, oo 317 (.pick (.t 314) (.c (.bool true)) (.t 316)), om 318 317, og 319 (.mv (.t 29)) 318 false, og 320 (.ar .gtr (.t 319) (ci 10000)) 318 false, oo 321 (.pick (.t 318) (.c (.bool true)) (.t 320))]) (.cond (.t 321) (.seq (.reg [oo 4 (.mv (.c (.bool false)))]) .ret) .skip)) (.seq (.reg [om 322 6, oo 323 (cl 17 [(.t 322)]), om 31 323]) (.seq (.reg [om 324 31, om 325 8, oo 326 (.ias 4 (.t 324) (.t 325)), oo 327 (.fa 1 (.t 326)), oo 328 (.ld (.t 327)), om 329 29, oo 330 (.ar .add (.t 328) (.t 329)), oo 331 (.ias 4 (.t 324) (.t 325)), oo 332 (.fa 1 (.t 331)), ⟨none, (.st 1 (.t 332) (.t 330)), none, []⟩]) (.seq (.seq (.reg [oo 334 (.ldn 3 (.t 5)), oo 335 (cl 16 [(.t 334)]), om 336 31, oo 337 (cl 17 [(.t 336)]), om 338 7, oo 339 (cl 18 [(.t 338)]), oo 340 (cl 19 [(.t 335), (.t 337), (.t 339)]), om 333 340, oo 341 (.ext 0 (.t 333)), oo 342 (.ext 1 (.t 333)), oo 343 (.ext 2 (.t 333)), oo 344 (.ext 3 (.t 333)), om 32 341, om 33 342, om 34 343, om 35 344]) (.seq (.reg [om 345 35, oo 346 (.ar .neq (.t 345) (ci 0)), om 347 346, og 348 (.mv (.t 32)) 347 false, og 349 (.ar .neq (.t 348) (ci 0)) 347 false, oo 350 (.pick (.t 347) (.c (.bool true)) (.t 349))]) (.cond (.t 350) (.seq (.reg [oo 4 (.mv (.c (.bool false)))]) .ret) .skip))) (.seq (.reg [om 351 31, om 352 8, oo 353 (.ias 4 (.t 351) (.t 352)), oo 354 (.fa 1 (.t 353)), oo 355 (.ld (.t 354)), oo 356 (.ar .add (.t 355) (ci 1)), oo 357 (.ias 4 (.t 351) (.t 352)), oo 358 (.fa 1 (.t 357)), ⟨none, (.st 1 (.t 358) (.t 356)), none, []⟩]) (.seq (.seq (.reg [oo 360 (.ldn 3 (.t 5)), oo 361 (cl 16 [(.t 360)]), om 362 31, oo 363 (cl 17 [(.t 362)]), om 364 7, oo 365 (cl 18 [(.t 364)]), oo 366 (cl 19 [(.t 361), (.t 363), (.t 365)]), om 359 366, oo 367 (.ext 0 (.t 359)), oo 368 (.ext 1 (.t 359)), oo 369 (.ext 2 (.t 359)), oo 370 (.ext 3 (.t 359)), om 36 367, om 37 368, om 38 369, om 39 370]) (.seq (.reg [om 371 39, oo 372 (.ar .neq (.t 371) (ci 0)), om 373 372, og 374 (.mv (.t 36)) 373 false, og 375 (.ar .eql (.t 374) (ci 0)) 373 false, og 376 (.mv (.t 375)) 373 false, og 377 (.mv (.t 29)) 376 true, og 378 (.ar .lss (.t 377) (ci 10000)) 376 true, og 379 (.pick (.t 376) (.t 378) (.c (.bool false))) 373 false, oo 380 (.pick (.t 373) (.c (.bool true)) (.t 379))]) (.cond (.t 380) (.seq (.reg [oo 4 (.mv (.c (.bool false)))]) .ret) .skip))) (.seq (.reg [oo 381 (cl 15 []), om 4 381]) .ret))))))))))))))))))))))))))))))), 382, [(.tmp 4)], false, fun _ => none, fun _ _ => none⟩
def c15 : CFn := ⟨(.seq (.reg [oo 0 (.mv (.c (.bool false)))]) (.seq (.reg [oo 22 (cl 57 [(.c .nils)]), oo 23 (cl 58 [(ci 90)]), oo 24 (.bsl 1 3 [(.int .i64 (0))] [(0, (ci 1)), (1, (ci 0)), (2, (ci 2))]), oo 25 (cl 43 [(.t 22), (.t 23), (.t 24)]), om 21 25, oo 26 (.ext 0 (.t 21)), oo 27 (.ext 1 (.t 21)), om 1 26, om 2 27]) (.seq (.reg [oo 29 (cl 57 [(.c .nils)]), oo 30 (cl 58 [(ci 90)]), oo 31 (.bsl 1 3 [(.int .i64 (0))] [(0, (ci 1)), (1, (ci 0)), (2, (ci 2))]), oo 32 (cl 19 [(.t 29), (.t 30), (.t 31)]), om 28 32, oo 33 (.ext 0 (.t 28)), oo 34 (.ext 1 (.t 28)), oo 35 (.ext 2 (.t 28)), oo 36 (.ext 3 (.t 28)), om 3 33, om 4 34, om 5 35, om 6 36]) (.seq (.reg [oo 38 (cl 57 [(.c .nils)]), oo 39 (cl 58 [(ci 90)]), oo 40 (cl 29 [(.t 38), (.t 39)]), om 37 40, oo 41 (.ext 0 (.t 37)), oo 42 (.ext 1 (.t 37)), om 7 41, om 8 42]) (.seq (.reg [oo 44 (cl 57 [(.c .nils)]), oo 45 (cl 58 [(ci 90)]), oo 46 (cl 33 [(.t 44), (.t 45)]), om 43 46, oo 47 (.ext 0 (.t 43)), oo 48 (.ext 1 (.t 43)), om 9 47, om 10 48]) (.seq (.reg [oo 50 (cl 57 [(.c .nils)]), oo 51 (cl 58 [(ci 90)]), oo 52 (cl 30 [(.t 50), (.t 51)]), om 49 52, oo 53 (.ext 0 (.t 49)), oo 54 (.ext 1 (.t 49)), om 11 53, om 12 54]) (.seq (.reg [oo 56 (cl 57 [(.c .nils)]), oo 57 (cl 58 [(ci 90)]), oo 58 (.bsl 1 3 [(.int .i64 (0))] [(0, (ci 0)), (1, (ci 1)), (2, (ci 2))]), oo 59 (cl 20 [(.t 56), (.t 57), (.t 58)]), om 55 59, oo 60 (.ext 0 (.t 55)), oo 61 (.ext 1 (.t 55)), om 13 60, om 14 61]) (.seq (.reg [oo 63 (cl 57 [(.c .nils)]), oo 64 (cl 58 [(ci 100)]), oo 65 (.bsl 1 3 [(.int .i64 (0))] [(0, (ci 0)), (1, (ci 1)), (2, (ci 2))]), oo 66 (cl 38 [(.t 63), (.t 64), (.t 65), (ci 0)]), om 62 66, oo 67 (.ext 0 (.t 62)), oo 68 (.ext 1 (.t 62)), om 15 67, om 16 68]) (.seq (.reg [oo 70 (cl 57 [(.c .nils)]), oo 71 (cl 58 [(ci 100)]), oo 72 (.bsl 1 3 [(.int .i64 (0))] [(0, (ci 0)), (1, (ci 1)), (2, (ci 2))]), oo 73 (cl 38 [(.t 70), (.t 71), (.t 72), (ci 1)]), om 69 73, oo 74 (.ext 0 (.t 69)), oo 75 (.ext 1 (.t 69)), om 17 74, om 18 75]) (.seq (.reg [oo 77 (cl 57 [(.c .nils)]), oo 78 (cl 58 [(ci 100)]), oo 79 (.bsl 1 3 [(.int .i64 (0))] [(0, (ci 0)), (1, (ci 1)), (2, (ci 2))]), oo 80 (.bld [(.int .i64 (0)), (.int .i64 (0)), (.int .i64 (0))] [(0, (1, (ci 1))), (1, (1, (ci 60))), (2, (1, (ci 70)))]), oo 81 (cl 35 [(.t 77), (.t 78), (.t 79), (.t 80)]), om 76 81, oo 82 (.ext 0 (.t 76)), oo 83 (.ext 1 (.t 76)), om 19 82, om 20 83]) (.seq (.seq (.reg [om 84 2, oo 85 (.ar .neq (.t 84) (ci 0)), om 86 85, og 87 (.mv (.t 6)) 86 false, og 88 (.ar .neq (.t 87) (ci 0)) 86 false, oo 89 (.pick (.t 86) (.c (.bool true)) (.t 88)), om 90 89, og 91 (.mv (.t 8)) 90 false, og 92 (.ar .neq (.t 91) (ci 0)) 90 false, oo 93 (.pick (.t 90) (.c (.bool true)) (.t 92)), om 94 93, og 95 (.mv (.t 10)) 94 false, og 96 (.ar .neq (.t 95) (ci 0)) 94 false, oo 97 (.pick (.t 94) (.c (.bool true)) (.t 96)), om 98 97, og 99 (.mv (.t 12)) 98 false, og 100 (.ar .neq (.t 99) (ci 0)) 98 false, oo 101 (.pick (.t 98) (.c (.bool true)) (.t 100)), om 102 101, og 103 (.mv (.t 14)) 102 false, og 104 (.ar .neq (.t 103) (ci 0)) 102 false, oo 105 (.pick (.t 102) (.c (.bool true)) (.t 104)), om 106 105, og 107 (.mv (.t 16)) 106 false, og 108 (.ar .neq (.t 107) (ci 0)) 106 false, oo 109 (.pick (.t 106) (.c (.bool true)) (.t 108)), om 110 109, og 111 (.mv (.t 18)) 110 false, og 112 (.ar .neq (.t 111) (ci 0)) 110 false, oo 113 (.pick (.t 110) (.c (.bool true)) (.t 112)), om 114 113, og 115 (.mv (.t 20)) 114 false, og 116 (.ar .neq (.t 115) (ci 0)) 114 false, oo 117 (.pick (.t 114) (.c (.bool true)) (.t 116)), om 118 117, og 119 (.mv (.t 1)) 118 false, og 120 (.len (.t 119)) 118 false, og 121 (.ar .neq (.t 120) (ci 3)) 118 false, oo 122 (.pick (.t 118) (.c (.bool true)) (.t 121))]) (.cond (.t 122) (.seq (.reg [oo 0 (.mv (.c (.bool false)))]) .ret) .skip)) (.seq (.seq (.reg [om 123 1, oo 124 (.ias 1 (.t 123) (ci 0)), oo 125 (.ld (.t 124)), oo 126 (.bsl 1 2 [(.int .i64 (0))] [(0, (ci 40)), (1, (ci 70))]), oo 127 (cl 23 [(.t 125), (.t 126)]), oo 128 (.un .not (.t 127)), om 129 128, og 130 (.mv (.t 1)) 129 false, og 131 (.ias 1 (.t 130) (ci 1)) 129 false, og 132 (.ld (.t 131)) 129 false, og 133 (.bsl 1 2 [(.int .i64 (0))] [(0, (ci 0)), (1, (ci 20))]) 129 false, og 134 (cl 23 [(.t 132), (.t 133)]) 129 false, og 135 (.un .not (.t 134)) 129 false, oo 136 (.pick (.t 129) (.c (.bool true)) (.t 135)), om 137 136, og 138 (.mv (.t 1)) 137 false, og 139 (.ias 1 (.t 138) (ci 2)) 137 false, og 140 (.ld (.t 139)) 137 false, og 141 (.bsl 1 2 [(.int .i64 (0))] [(0, (ci 70)), (1, (ci 80))]) 137 false, og 142 (cl 23 [(.t 140), (.t 141)]) 137 false, og 143 (.un .not (.t 142)) 137 false, oo 144 (.pick (.t 137) (.c (.bool true)) (.t 143)), om 145 144, og 146 (.mv (.t 3)) 145 false, og 147 (.ar .neq (.t 146) (ci 1)) 145 false, oo 148 (.pick (.t 145) (.c (.bool true)) (.t 147)), om 149 148, og 150 (.mv (.t 4)) 149 false, og 151 (.ar .neq (.t 150) (ci 10)) 149 false, oo 152 (.pick (.t 149) (.c (.bool true)) (.t 151)), om 153 152, og 154 (.mv (.t 5)) 153 false, og 155 (.ar .neq (.t 154) (ci 110)) 153 false, oo 156 (.pick (.t 153) (.c (.bool true)) (.t 155)), om 157 156, og 158 (.mv (.t 7)) 157 false, og 159 (.bsl 1 3 [(.int .i64 (0))] [(0, (ci 0)), (1, (ci 1)), (2, (ci 2))]) 157 false, og 160 (cl 23 [(.t 158), (.t 159)]) 157 false, og 161 (.un .not (.t 160)) 157 false, oo 162 (.pick (.t 157) (.c (.bool true)) (.t 161))]) (.cond (.t 162) (.seq (.reg [oo 0 (.mv (.c (.bool false)))]) .ret) .skip)) (.seq (.reg [om 163 9, oo 164 (.bsl 1 2 [(.int .i64 (0))] [(0, (ci 0)), (1, (ci 1))]), oo 165 (cl 23 [(.t 163), (.t 164)]), om 166 165, og 167 (.mv (.t 11)) 166 true, og 168 (.ar .eql (.t 167) (ci 80)) 166 true, oo 169 (.pick (.t 166) (.t 168) (.c (.bool false))), om 170 169, og 171 (.mv (.t 13)) 170 true, og 172 (.bsl 1 2 [(.int .i64 (0))] [(0, (ci 2)), (1, (ci 1))]) 170 true, og 173 (cl 23 [(.t 171), (.t 172)]) 170 true, oo 174 (.pick (.t 170) (.t 173) (.c (.bool false))), om 175 174, og 176 (.mv (.t 15)) 175 true, og 177 (.ar .eql (.t 176) (ci 0)) 175 true, oo 178 (.pick (.t 175) (.t 177) (.c (.bool false))), om 179 178, og 180 (.mv (.t 17)) 179 true, og 181 (.ar .eql (.t 180) (ci 60)) 179 true, oo 182 (.pick (.t 179) (.t 181) (.c (.bool false))), om 183 182, og 184 (.mv (.t 19)) 183 true, og 185 (.bsl 1 2 [(.int .i64 (0))] [(0, (ci 0)), (1, (ci 1))]) 183 true, og 186 (cl 23 [(.t 184), (.t 185)]) 183 true, oo 187 (.pick (.t 183) (.t 186) (.c (.bool false))), om 0 187]) .ret))))))))))))), 188, [(.tmp 0)], false, fun _ => none, fun _ _ => none⟩
def c16 : CFn := ⟨(.seq (.reg [oo 1 (.box (.t 0)), oo 2 (.new [(.int .i64 (0)), .nils, .nils])]) (.seq (.reg [oo 3 (.ldn 3 (.t 1)), oo 4 (cl 59 [(.t 3)]), ⟨none, (.st 3 (.t 2) (.t 4)), none, []⟩]) .ret)), 5, [(.ldn 3 2)], false, fun _ => none, fun _ _ => none⟩
def c17 : CFn := ⟨(.seq (.reg [oo 2 (.mv (.c .nils))]) (.seq (.reg [om 3 0, oo 4 (cl 60 [(.t 3)]), om 2 4]) .ret)), 5, [(.tmp 2)], false, fun _ => none, fun _ _ => none⟩
def c18 : CFn := ⟨(.seq (.reg [oo 2 (.mv (.c .nils))]) (.seq (.reg [oo 3 (.bsl 1 0 [(.int .i64 (0))] []), om 4 0, oo 5 (.app 1 (.t 3) (.t 4)), om 2 5]) .ret)), 6, [(.tmp 2)], false, fun _ => none, fun _ _ => none⟩
def c19 : CFn := ⟨(.seq (.reg [oo 3 (.box (.t 0)), oo 6 (.mv (ci 0)), oo 7 (.mv (ci 0)), oo 8 (.mv (ci 0)), oo 9 (.mv (ci 0))]) (.seq (.reg [oo 15 (.ldn 3 (.t 3)), om 16 1, om 17 2, oo 18 (cl 61 [(.t 15), (.t 16), (.t 17)]), om 14 18, oo 19 (.ext 0 (.t 14)), oo 20 (.ext 1 (.t 14)), oo 10 (.new [(.int .i64 (0)), .nils, .nils, .nils]), ⟨none, (.st 4 (.t 10) (.t 19)), none, []⟩, om 9 20]) (.seq (.seq (.reg [om 21 9, oo 22 (.ar .neq (.t 21) (ci 0))]) (.cond (.t 22) (.seq (.reg [om 23 9, oo 6 (.mv (ci 0)), oo 7 (.mv (ci 0)), oo 8 (.mv (ci 0)), om 9 23]) .ret) .skip)) (.seq (.reg [oo 11 (.new [(.int .i64 (0)), (.int .i64 (0))])]) (.seq (.seq (.reg [oo 24 (.ldn 4 (.t 10)), om 25 2, oo 26 (cl 62 [(.t 24), (.t 25)]), oo 27 (.part 1 (.t 26)), oo 28 (.len (.t 27)), oo 29 (.mv (ci 0))]) (.block 0 (.loop 939527174 (.seq (.reg [oo 30 (.ar .lss (.t 29) (.t 28))]) (.seq (.cond (.t 30) .skip (.exit 0)) (.seq (.block 1 (.seq (.reg [om 31 29, oo 32 (.ias 1 (.t 27) (.t 29)), oo 33 (.ld (.t 32)), om 12 31, om 13 33]) (.drw [oo 34 (.ldn 2 (.t 11)), op 35 (.mv (.t 1)) [0], op 36 (.mv (.t 12)) [0, 1], op 37 (.ias 4 (.t 35) (.t 36)) [0], op 38 (.ldn 4 (.t 37)) [0], op 39 (.mv (.t 13)) [0, 1, 2, 3, 4], oo 40 (cl 63 [(.t 34), (.t 38), (.t 39)]), ⟨none, (.st 2 (.t 11) (.t 40)), none, []⟩]))) (.reg [oo 41 (.ar .add (.t 29) (ci 1)), om 29 41]))))))) (.seq (.drw [oo 42 (.ldn 4 (.t 10)), op 43 (.mv (.t 2)) [0], oo 44 (cl 64 [(.t 42), (.t 43)]), oo 45 (.len (.t 44)), op 46 (.fa 0 (.t 11)) [0, 1, 2, 3], op 47 (.ld (.t 46)) [0, 1, 2, 3], op 48 (.fa 1 (.t 11)) [0, 1, 2, 3, 4, 5], op 49 (.ld (.t 48)) [0, 1, 2, 3, 4, 5], op 6 (.mv (.t 45)) [4, 5, 6, 7], op 7 (.mv (.t 47)) [6, 7], om 8 49, oo 9 (.mv (ci 0))]) .ret)))))), 50, [(.tmp 6), (.tmp 7), (.tmp 8), (.tmp 9)], false, fun _ => none, fun _ _ => none⟩
def c20 : CFn := ⟨(.seq (.reg [oo 3 (.box (.t 0)), oo 6 (.mv (.c .nils)), oo 7 (.mv (ci 0))]) (.seq (.reg [oo 20 (.ldn 3 (.t 3)), om 21 1, om 22 2, oo 23 (cl 61 [(.t 20), (.t 21), (.t 22)]), om 19 23, oo 24 (.ext 0 (.t 19)), oo 25 (.ext 1 (.t 19)), oo 8 (.new [(.int .i64 (0)), .nils, .nils, .nils]), ⟨none, (.st 4 (.t 8) (.t 24)), none, []⟩, om 7 25]) (.seq (.seq (.reg [om 26 7, oo 27 (.ar .neq (.t 26) (ci 0))]) (.cond (.t 27) (.seq (.reg [om 28 7, oo 6 (.mv (.c .nils)), om 7 28]) .ret) .skip)) (.seq (.reg [oo 29 (.ldn 4 (.t 8)), om 30 2, oo 31 (cl 62 [(.t 29), (.t 30)]), oo 32 (.part 0 (.t 31)), om 9 32]) (.seq (.seq (.reg [oo 33 (.fa 0 (.t 3)), oo 34 (.ld (.t 33)), oo 35 (.mv (ci 0))]) (.block 0 (.loop 51539608130 (.seq (.reg [oo 36 (.ar .lss (.t 35) (.t 34))]) (.seq (.cond (.t 36) .skip (.exit 0)) (.seq (.block 1 (.seq (.reg [om 37 35, om 10 37]) (.seq (.reg [oo 11 (.mv (.c .nils))]) (.seq (.seq (.reg [om 38 1, oo 39 (.len (.t 38)), oo 40 (.mv (ci 0))]) (.block 2 (.loop 1975684959810 (.seq (.reg [oo 41 (.ar .lss (.t 40) (.t 39))]) (.seq (.cond (.t 41) .skip (.exit 2)) (.seq (.block 3 (.seq (.reg [om 42 40, oo 43 (.ias 4 (.t 38) (.t 40)), oo 44 (.ldn 4 (.t 43)), oo 13 (.new [(.int .i64 (0)), (.int .i64 (0)), (.int .i64 (0)), .nils]), om 12 42, ⟨none, (.st 4 (.t 13) (.t 44)), none, []⟩]) (.seq (.reg [oo 45 (.fa 1 (.t 13)), oo 46 (.ld (.t 45)), om 14 46]) (.seq (.seq (.reg [om 47 10, oo 48 (.ar .gtr (.t 47) (ci 0))]) (.cond (.t 48) (.drw [om 49 9, op 50 (.mv (.t 12)) [0], oo 51 (.ias 1 (.t 49) (.t 50)), oo 52 (.ld (.t 51)), op 53 (.mv (.t 10)) [0, 1, 2, 3], op 54 (.ar .sub (.t 53) (ci 1)) [0, 1, 2, 3], oo 55 (.ias 1 (.t 52) (.t 54)), oo 56 (.ld (.t 55)), op 57 (.fa 3 (.t 13)) [0, 1, 2, 3, 4, 5, 6, 7], op 58 (.ld (.t 57)) [0, 1, 2, 3, 4, 5, 6, 7], op 59 (.mv (.t 10)) [0, 1, 2, 3, 4, 5, 6, 7, 8, 9], op 60 (.ar .sub (.t 59) (ci 1)) [0, 1, 2, 3, 4, 5, 6, 7, 8, 9], op 61 (.ias 1 (.t 58) (.t 60)) [0, 1, 2, 3, 4, 5, 6, 7], op 62 (.ld (.t 61)) [0, 1, 2, 3, 4, 5, 6, 7], oo 63 (.ar .add (.t 56) (.t 62)), om 14 63]) .skip)) (.seq (.reg [oo 64 (.fa 3 (.t 13)), oo 65 (.ld (.t 64)), om 66 10, oo 67 (.ias 1 (.t 65) (.t 66)), oo 68 (.ld (.t 67)), oo 69 (.ar .gtr (.t 68) (ci 0)), om 70 69, og 71 (.mv (.t 14)) 70 true, og 72 (.mv (.t 9)) 70 true, og 73 (.mv (.t 12)) 70 true, og 74 (.ias 1 (.t 72) (.t 73)) 70 true, og 75 (.ld (.t 74)) 70 true, og 76 (.mv (.t 10)) 70 true, og 77 (.ias 1 (.t 75) (.t 76)) 70 true, og 78 (.ld (.t 77)) 70 true, og 79 (.ar .lss (.t 71) (.t 78)) 70 true, oo 80 (.pick (.t 70) (.t 79) (.c (.bool false)))]) (.cond (.t 80) (.reg [om 81 11, om 82 14, oo 83 (.bld [(.int .i64 (0)), (.int .i64 (0))] [(0, (1, (.t 82))), (1, (1, (ci 1)))]), om 84 9, om 85 12, oo 86 (.ias 1 (.t 84) (.t 85)), oo 87 (.ld (.t 86)), om 88 10, oo 89 (.ias 1 (.t 87) (.t 88)), oo 90 (.ld (.t 89)), oo 91 (.bld [(.int .i64 (0)), (.int .i64 (0))] [(0, (1, (.t 90))), (1, (1, (ci (-1))))]), oo 92 (.bsl 2 2 [(.int .i64 (0)), (.int .i64 (0))] [(0, (.t 83)), (1, (.t 91))]), oo 93 (.app 2 (.t 81) (.t 92)), om 11 93]) .skip)))))) (.reg [oo 94 (.ar .add (.t 40) (ci 1)), om 40 94]))))))) (.seq (.reg [om 95 11, oo 96 (cl 65 [(.t 95), (.c (.fn 66 [] []))])]) (.seq (.reg [oo 15 (.mv (ci 0)), oo 16 (.mv (ci 0))]) (.seq (.seq (.reg [om 97 11, oo 98 (.len (.t 97)), oo 99 (.mv (ci 0))]) (.block 4 (.loop 1109194275199700726361155011138 (.seq (.reg [oo 100 (.ar .lss (.t 99) (.t 98))]) (.seq (.cond (.t 100) .skip (.exit 4)) (.seq (.block 5 (.seq (.reg [oo 101 (.ias 2 (.t 97) (.t 99)), oo 102 (.ldn 2 (.t 101)), oo 18 (.new [(.int .i64 (0)), (.int .i64 (0))]), ⟨none, (.st 2 (.t 18) (.t 102)), none, []⟩]) (.seq (.reg [om 103 15, oo 104 (.fa 1 (.t 18)), oo 105 (.ld (.t 104)), oo 106 (.ar .add (.t 103) (.t 105)), om 15 106]) (.reg [om 107 16, om 108 15, oo 109 (.mx [(.t 107), (.t 108)]), om 16 109])))) (.reg [oo 110 (.ar .add (.t 99) (ci 1)), om 99 110]))))))) (.reg [om 111 6, om 112 16, oo 113 (.bsl 1 1 [(.int .i64 (0))] [(0, (.t 112))]), oo 114 (.app 1 (.t 111) (.t 113)), om 6 114])))))))) (.reg [oo 115 (.ar .add (.t 35) (ci 1)), om 35 115]))))))) (.seq (.reg [om 116 6, om 6 116, oo 7 (.mv (ci 0))]) .ret)))))), 117, [(.tmp 6), (.tmp 7)], false, fun _ => none, fun _ _ => none⟩
def c23 : CFn := ⟨(.seq (.reg [oo 4 (.mv (.c (.bool false)))]) (.seq (.seq (.reg [om 6 0, oo 7 (.len (.t 6)), om 8 1, oo 9 (.len (.t 8)), oo 10 (.ar .neq (.t 7) (.t 9))]) (.cond (.t 10) (.seq (.reg [oo 4 (.mv (.c (.bool false)))]) .ret) .skip)) (.seq (.seq (.reg [oo 5 (.mv (ci 0))]) (.block 0 (.loop 35 (.seq (.seq (.reg [om 11 5, om 12 0, oo 13 (.len (.t 12)), oo 14 (.ar .lss (.t 11) (.t 13))]) (.cond (.t 14) .skip (.exit 0))) (.seq (.block 1 (.seq (.drw [om 17 0, op 18 (.mv (.t 5)) [0], oo 19 (.ias 1 (.t 17) (.t 18)), oo 20 (.ld (.t 19)), op 21 (.mv (.t 1)) [0, 1, 2, 3], op 22 (.mv (.t 5)) [0, 1, 2, 3, 4], op 23 (.ias 1 (.t 21) (.t 22)) [0, 1, 2, 3], op 24 (.ld (.t 23)) [0, 1, 2, 3], oo 25 (.ar .neq (.t 20) (.t 24))]) (.cond (.t 25) (.seq (.reg [oo 4 (.mv (.c (.bool false)))]) .ret) .skip))) (.reg [om 15 5, oo 16 (.ar .add (.t 15) (ci 1)), om 5 16])))))) (.seq (.reg [oo 4 (.mv (.c (.bool true)))]) .ret)))), 26, [(.tmp 4)], false, fun _ => none, fun _ _ => none⟩
def c29 : CFn := ⟨(.seq (.reg [oo 2 (.box (.t 0)), oo 4 (.mv (.c .nils)), oo 5 (.mv (ci 0))]) (.seq (.reg [oo 11 (.ldn 3 (.t 2)), om 12 1, oo 13 (cl 70 [(.t 11), (.t 12)]), om 10 13, oo 14 (.ext 0 (.t 10)), oo 15 (.ext 1 (.t 10)), oo 6 (.new [(.int .i64 (0)), .nils, .nils, .nils]), ⟨none, (.st 4 (.t 6) (.t 14)), none, []⟩, om 7 15]) (.seq (.seq (.reg [om 16 7, oo 17 (.ar .neq (.t 16) (ci 0))]) (.cond (.t 17) (.seq (.reg [om 18 7, oo 4 (.mv (.c .nils)), om 5 18]) .ret) .skip)) (.seq (.reg [oo 20 (.ldn 4 (.t 6)), oo 21 (cl 71 [(.t 20)]), om 19 21, oo 22 (.ext 0 (.t 19)), oo 23 (.ext 1 (.t 19)), oo 9 (.new [(.int .i64 (0)), (.int .i64 (0))]), om 8 22, ⟨none, (.st 2 (.t 9) (.t 23)), none, []⟩]) (.seq (.reg [om 24 8, om 4 24, oo 5 (.mv (ci 0))]) .ret))))), 25, [(.tmp 4), (.tmp 5)], false, fun _ => none, fun _ _ => none⟩
def c30 : CFn := ⟨(.seq (.reg [oo 2 (.box (.t 0)), oo 4 (.mv (ci 0)), oo 5 (.mv (ci 0))]) (.seq (.seq (.reg [oo 20 (.ldn 3 (.t 2)), om 21 1, oo 22 (cl 70 [(.t 20), (.t 21)]), om 19 22, oo 23 (.ext 0 (.t 19)), oo 24 (.ext 1 (.t 19)), oo 6 (.new [(.int .i64 (0)), .nils, .nils, .nils]), ⟨none, (.st 4 (.t 6) (.t 23)), none, []⟩, om 7 24]) (.seq (.reg [om 25 7, oo 26 (.ar .neq (.t 25) (ci 0))]) (.cond (.t 26) (.seq (.reg [om 27 7, oo 4 (.mv (ci 0)), om 5 27]) .ret) .skip))) (.seq (.seq (.reg [om 28 1, oo 29 (.len (.t 28)), oo 30 (.mv (ci 0))]) (.block 0 (.loop 1879048214 (.seq (.reg [oo 31 (.ar .lss (.t 30) (.t 29))]) (.seq (.cond (.t 31) .skip (.exit 0)) (.seq (.block 1 (.seq (.reg [oo 32 (.ias 4 (.t 28) (.t 30)), oo 33 (.ldn 4 (.t 32)), oo 9 (.new [(.int .i64 (0)), (.int .i64 (0)), (.int .i64 (0)), .nils]), ⟨none, (.st 4 (.t 9) (.t 33)), none, []⟩]) (.drw [om 34 4, op 35 (.fa 1 (.t 9)) [0], op 36 (.ld (.t 35)) [0], op 37 (.fa 3 (.t 9)) [0, 1, 2], op 38 (.ld (.t 37)) [0, 1, 2], op 39 (cl 72 [(.t 38)]) [0, 1, 2], op 40 (.ar .add (.t 36) (.t 39)) [0], oo 41 (.mx [(.t 34), (.t 40)]), om 4 41]))) (.reg [oo 42 (.ar .add (.t 30) (ci 1)), om 30 42]))))))) (.seq (.seq (.reg [oo 43 (.fa 0 (.t 2)), oo 44 (.ld (.t 43)), oo 45 (.mv (ci 0))]) (.block 2 (.loop 52776558133266 (.seq (.reg [oo 46 (.ar .lss (.t 45) (.t 44))]) (.seq (.cond (.t 46) .skip (.exit 2)) (.seq (.block 3 (.seq (.reg [om 47 45, om 10 47]) (.seq (.reg [oo 11 (.mv (ci 0)), oo 12 (.mv (ci 0)), oo 13 (.mv (ci 0)), oo 14 (.mv (.c (.bool false)))]) (.seq (.seq (.reg [om 48 1, oo 49 (.len (.t 48)), oo 50 (.mv (ci 0))]) (.block 4 (.loop 2023101395139602 (.seq (.reg [oo 51 (.ar .lss (.t 50) (.t 49))]) (.seq (.cond (.t 51) .skip (.exit 4)) (.seq (.block 5 (.seq (.reg [oo 52 (.ias 4 (.t 48) (.t 50)), oo 53 (.ldn 4 (.t 52)), oo 16 (.new [(.int .i64 (0)), (.int .i64 (0)), (.int .i64 (0)), .nils]), ⟨none, (.st 4 (.t 16) (.t 53)), none, []⟩]) (.seq (.seq (.reg [oo 54 (.fa 3 (.t 16)), oo 55 (.ld (.t 54)), om 56 10, oo 57 (.ias 1 (.t 55) (.t 56)), oo 58 (.ld (.t 57)), oo 59 (.ar .eql (.t 58) (ci 0))]) (.cond (.t 59) (.exit 5) .skip)) (.seq (.drw [oo 60 (.fa 1 (.t 16)), oo 61 (.ld (.t 60)), op 62 (.fa 3 (.t 16)) [0, 1], op 63 (.ld (.t 62)) [0, 1], op 64 (.mv (.t 10)) [0, 1, 2, 3], op 65 (.slc 1 (.t 63) none (some (.t 64)) none) [0, 1], op 66 (cl 72 [(.t 65)]) [0, 1], oo 67 (.ar .add (.t 61) (.t 66)), op 68 (.fa 3 (.t 16)) [0, 1, 2, 3, 4, 5, 6, 7], op 69 (.ld (.t 68)) [0, 1, 2, 3, 4, 5, 6, 7], op 70 (.mv (.t 10)) [0, 1, 2, 3, 4, 5, 6, 7, 8, 9], op 71 (.ar .add (.t 70) (ci 1)) [0, 1, 2, 3, 4, 5, 6, 7, 8, 9], op 72 (.slc 1 (.t 69) (some (.t 71)) none none) [0, 1, 2, 3, 4, 5, 6, 7], op 73 (cl 72 [(.t 72)]) [0, 1, 7], om 17 67, om 18 73]) (.seq (.seq (.reg [om 74 14]) (.cond (.t 74) (.reg [om 75 17, om 76 11, oo 77 (.mn [(.t 75), (.t 76)]), om 78 18, om 79 12, oo 80 (.mn [(.t 78), (.t 79)]), om 17 77, om 18 80]) .skip)) (.drw [om 81 17, op 82 (.mv (.t 18)) [0], op 83 (.mv (.t 13)) [0, 1], op 84 (.fa 3 (.t 16)) [0, 1, 2], op 85 (.ld (.t 84)) [0, 1, 2], op 86 (.mv (.t 10)) [0, 1, 2, 3, 4], op 87 (.ias 1 (.t 85) (.t 86)) [0, 1, 2], op 88 (.ld (.t 87)) [0, 1, 2], op 89 (.ar .add (.t 83) (.t 88)) [0, 1], op 11 (.mv (.t 81)) [1, 2, 3, 4, 5, 6, 7, 8], op 12 (.mv (.t 82)) [2, 3, 4, 5, 6, 7, 8], om 13 89, oo 14 (.mv (.c (.bool true)))])))))) (.reg [oo 90 (.ar .add (.t 50) (ci 1)), om 50 90]))))))) (.reg [om 91 4, om 92 11, om 93 13, oo 94 (.ar .add (.t 92) (.t 93)), om 95 12, oo 96 (.ar .add (.t 94) (.t 95)), oo 97 (.mx [(.t 91), (.t 96)]), om 4 97]))))) (.reg [oo 98 (.ar .add (.t 45) (ci 1)), om 45 98]))))))) (.seq (.reg [om 99 4, om 4 99, oo 5 (.mv (ci 0))]) .ret))))), 100, [(.tmp 4), (.tmp 5)], false, fun _ => none, fun _ _ => none⟩
def c33 : CFn := ⟨(.seq (.reg [oo 2 (.box (.t 0)), oo 4 (.mv (.c .nils)), oo 5 (.mv (ci 0))]) (.seq (.reg [oo 16 (.ldn 3 (.t 2)), om 17 1, oo 18 (cl 70 [(.t 16), (.t 17)]), om 15 18, oo 19 (.ext 0 (.t 15)), oo 20 (.ext 1 (.t 15)), oo 6 (.new [(.int .i64 (0)), .nils, .nils, .nils]), ⟨none, (.st 4 (.t 6) (.t 19)), none, []⟩, om 5 20]) (.seq (.seq (.reg [om 21 5, oo 22 (.ar .neq (.t 21) (ci 0))]) (.cond (.t 22) (.seq (.reg [om 23 5, oo 4 (.mv (.c .nils)), om 5 23]) .ret) .skip)) (.seq (.seq (.reg [oo 25 (.ldn 4 (.t 6)), oo 26 (cl 71 [(.t 25)]), om 24 26, oo 27 (.ext 0 (.t 24)), oo 28 (.ext 1 (.t 24)), oo 8 (.new [(.int .i64 (0)), (.int .i64 (0))]), om 7 27, ⟨none, (.st 2 (.t 8) (.t 28)), none, []⟩]) (.seq (.reg [oo 29 (.fa 0 (.t 8)), oo 30 (.ld (.t 29)), oo 31 (.ar .eql (.t 30) (ci 0))]) (.cond (.t 31) (.seq (.reg [oo 4 (.mv (.c .nils)), oo 5 (.mv (ci 7))]) .ret) .skip))) (.seq (.reg [oo 9 (.mv (.c .nils))]) (.seq (.seq (.reg [om 32 1, oo 33 (.len (.t 32)), oo 34 (.sh .shl (ci 1) (.t 33)), oo 35 (.mv (ci 0))]) (.block 0 (.loop 51539608128 (.seq (.reg [oo 36 (.ar .lss (.t 35) (.t 34))]) (.seq (.cond (.t 36) .skip (.exit 0)) (.seq (.block 1 (.seq (.reg [om 37 35, om 10 37]) (.seq (.reg [oo 39 (.ldn 4 (.t 6)), om 40 10, oo 41 (cl 74 [(.t 39), (.t 40)]), om 38 41, oo 42 (.ext 0 (.t 38)), oo 43 (.ext 1 (.t 38)), oo 11 (.new [(.int .i64 (0)), .nils, .nils, .nils]), ⟨none, (.st 4 (.t 11) (.t 42)), none, []⟩, om 12 43]) (.seq (.reg [oo 45 (.ldn 4 (.t 11)), oo 46 (cl 71 [(.t 45)]), om 44 46, oo 47 (.ext 0 (.t 44)), oo 48 (.ext 1 (.t 44)), oo 14 (.new [(.int .i64 (0)), (.int .i64 (0))]), om 13 47, ⟨none, (.st 2 (.t 14) (.t 48)), none, []⟩]) (.seq (.reg [oo 49 (.fa 0 (.t 14)), oo 50 (.ld (.t 49)), oo 51 (.ar .gtr (.t 50) (ci 0))]) (.cond (.t 51) (.reg [om 52 9, om 53 12, oo 54 (.bsl 1 1 [.nils] [(0, (.t 53))]), oo 55 (.app 1 (.t 52) (.t 54)), om 9 55]) .skip)))))) (.reg [oo 56 (.ar .add (.t 35) (ci 1)), om 35 56]))))))) (.seq (.reg [om 57 9, oo 58 (cl 75 [(.t 57), (.c (.fn 76 [] []))]), om 4 58, oo 5 (.mv (ci 0))]) .ret))))))), 59, [(.tmp 4), (.tmp 5)], false, fun _ => none, fun _ _ => none⟩
def c35 : CFn := ⟨(.seq (.reg [oo 4 (.box (.t 0)), oo 7 (.box (.t 3)), oo 8 (.mv (.c .nils)), oo 9 (.mv (ci 0))]) (.seq (.reg [oo 14 (.ldn 3 (.t 4)), om 15 1, om 16 2, oo 17 (cl 61 [(.t 14), (.t 15), (.t 16)]), om 13 17, oo 18 (.ext 0 (.t 13)), oo 19 (.ext 1 (.t 13)), oo 10 (.new [(.int .i64 (0)), .nils, .nils, .nils]), ⟨none, (.st 4 (.t 10) (.t 18)), none, []⟩, om 11 19]) (.seq (.block 0 (.seq (.reg [om 21 11, oo 22 (.ar .neq (.t 21) (ci 0)), om 20 22]) (.cond (.t 20) (.seq (.reg [om 23 11, oo 8 (.mv (.c .nils)), om 9 23]) .ret) (.seq (.reg [oo 25 (.fa 2 (.t 4)), oo 26 (.ld (.t 25)), oo 27 (.len (.t 26)), oo 28 (.ar .eql (.t 27) (ci 10)), om 24 28]) (.cond (.t 24) (.seq (.reg [oo 8 (.mv (.c .nils)), oo 9 (.mv (ci 5))]) .ret) (.seq (.reg [oo 30 (.ldn 3 (.t 4)), oo 31 (.ldn 3 (.t 7)), oo 32 (cl 80 [(.t 30), (.t 31)]), oo 33 (.un .not (.t 32)), om 29 33]) (.cond (.t 29) (.seq (.reg [oo 8 (.mv (.c .nils)), oo 9 (.mv (ci 3))]) .ret) .skip))))))) (.seq (.reg [oo 34 (.ldn 4 (.t 10)), om 35 2, oo 36 (cl 64 [(.t 34), (.t 35)]), oo 12 (.new [.nils]), ⟨none, (.st 1 (.t 12) (.t 36)), none, []⟩]) (.seq (.drw [oo 37 (.fa 2 (.t 4)), oo 38 (.ld (.t 37)), oo 39 (cl 81 [(.t 38)]), op 40 (.ldn 3 (.t 7)) [0, 1, 2], op 41 (.bsl 3 1 [(.int .i64 (0)), (.int .i64 (0)), (.int .i64 (0))] [(0, (.t 40))]) [0, 1, 2], oo 42 (.app 3 (.t 39) (.t 41)), oo 43 (.fa 0 (.t 10)), oo 44 (.fa 2 (.t 43)), ⟨none, (.st 1 (.t 44) (.t 42)), none, []⟩]) (.seq (.reg [oo 45 (.ldn 4 (.t 10)), om 46 2, oo 47 (cl 64 [(.t 45), (.t 46)]), oo 48 (.mkf 83 [] [(.t 12)]), oo 49 (cl 82 [(.t 47), (.t 48)]), om 8 49, oo 9 (.mv (ci 0))]) .ret)))))), 50, [(.tmp 8), (.tmp 9)], false, fun _ => none, fun _ _ => none⟩
def c38 : CFn := ⟨(.seq (.reg [oo 4 (.box (.t 0)), oo 5 (.box (.t 1)), oo 6 (.box (.t 2)), oo 7 (.box (.t 3)), oo 8 (.mv (ci 0)), oo 9 (.mv (ci 0))]) (.seq (.reg [oo 17 (.ldn 3 (.t 4)), oo 18 (.ld (.t 5)), oo 19 (.ld (.t 6)), oo 20 (cl 61 [(.t 17), (.t 18), (.t 19)]), om 16 20, oo 21 (.ext 0 (.t 16)), oo 22 (.ext 1 (.t 16)), oo 10 (.new [(.int .i64 (0)), .nils, .nils, .nils]), ⟨none, (.st 4 (.t 10) (.t 21)), none, []⟩, om 11 22]) (.seq (.block 0 (.seq (.reg [om 24 11, oo 25 (.ar .neq (.t 24) (ci 0)), om 23 25]) (.cond (.t 23) (.seq (.reg [om 26 11, oo 8 (.mv (ci 0)), om 9 26]) .ret) (.seq (.reg [oo 28 (.ld (.t 5)), oo 29 (.len (.t 28)), oo 30 (.ar .sub (.t 29) (ci 1)), oo 31 (.ld (.t 7)), oo 32 (.bsl 1 1 [(.int .i64 (0))] [(0, (.t 31))]), oo 33 (cl 85 [(ci 0), (.t 30), (.t 32)]), oo 34 (.un .not (.t 33)), om 27 34]) (.cond (.t 27) (.seq (.reg [oo 8 (.mv (ci 0)), oo 9 (.mv (ci 7))]) .ret) (.seq (.reg [oo 36 (.ldn 4 (.t 10)), oo 37 (.ld (.t 6)), oo 38 (cl 64 [(.t 36), (.t 37)]), oo 39 (.len (.t 38)), oo 40 (.ar .gtr (.t 39) (ci 0)), om 35 40]) (.cond (.t 35) (.seq (.reg [oo 8 (.mv (ci 0)), oo 9 (.mv (ci 9))]) .ret) .skip))))))) (.seq (.reg [oo 41 (.ld (.t 5)), oo 42 (cl 86 [(.t 41)]), oo 43 (.fa 3 (.t 10)), ⟨none, (.st 1 (.t 43) (.t 42)), none, []⟩]) (.seq (.reg [oo 44 (.mkf 87 [] [(.t 5), (.t 7), (.t 10), (.t 6)]), om 12 44]) (.seq (.reg [oo 13 (.mv (ci 0)), oo 14 (.mv (ci 10000))]) (.seq (.block 1 (.loop 28672 (.seq (.seq (.reg [om 45 13, om 46 14, oo 47 (.ar .lss (.t 45) (.t 46))]) (.cond (.t 47) .skip (.exit 1))) (.block 2 (.seq (.reg [om 48 13, om 49 14, oo 50 (.ar .add (.t 48) (.t 49)), oo 51 (.ar .add (.t 50) (ci 1)), oo 52 (.ar .quo (.t 51) (ci 2)), om 15 52]) (.seq (.reg [om 53 12, om 54 15, oo 55 (.call (.t 53) [(.t 54)])]) (.cond (.t 55) (.reg [om 56 15, oo 57 (.ar .sub (.t 56) (ci 1)), om 14 57]) (.reg [om 58 15, om 13 58])))))))) (.seq (.reg [om 59 13, om 8 59, oo 9 (.mv (ci 0))]) .ret)))))))), 60, [(.tmp 8), (.tmp 9)], false, fun _ => none, fun _ _ => none⟩
def c41 : CFn := ⟨(.seq (.reg [oo 1 (.box (.t 0)), oo 2 (.new [(.int .i64 (0)), .nils, .nils]), oo 3 (.mv (.c .nils))]) (.seq (.reg [oo 17 (.fa 0 (.t 1)), oo 18 (.ld (.t 17)), oo 19 (.conv .i64 (.t 18)), oo 20 (.ar .rem (.t 19) (ci 4)), oo 21 (.ar .add (ci 1) (.t 20)), oo 22 (.bld [(.int .i64 (0)), .nils, .nils] [(0, (1, (.t 21)))]), oo 4 (.new [(.int .i64 (0)), .nils, .nils]), ⟨none, (.st 3 (.t 4) (.t 22)), none, []⟩]) (.seq (.reg [oo 23 (.fa 1 (.t 1)), oo 24 (.ld (.t 23)), oo 25 (.conv .i64 (.t 24)), oo 26 (.ar .rem (.t 25) (ci 4)), oo 27 (.ar .add (ci 1) (.t 26)), om 5 27]) (.seq (.seq (.reg [oo 6 (.mv (ci 0))]) (.block 0 (.loop 118 (.seq (.seq (.reg [om 28 6, om 29 5, oo 30 (.ar .lss (.t 28) (.t 29))]) (.cond (.t 30) .skip (.exit 0))) (.seq (.block 1 (.seq (.reg [oo 33 (.bsl 1 0 [(.int .i64 (0))] []), om 7 33]) (.seq (.seq (.reg [oo 8 (.mv (ci 0))]) (.block 2 (.loop 502 (.seq (.seq (.reg [om 34 8, om 35 5, oo 36 (.ar .lss (.t 34) (.t 35))]) (.cond (.t 36) .skip (.exit 2))) (.seq (.block 3 (.reg [om 39 7, om 40 6, om 41 8, oo 42 (.fa 2 (.t 1)), oo 43 (.iaa 4 4 (.t 42) (.t 40)), oo 44 (.iaa 4 1 (.t 43) (.t 41)), oo 45 (.ld (.t 44)), oo 46 (.conv .i64 (.t 45)), oo 47 (.ar .rem (.t 46) (ci 40)), oo 48 (.bsl 1 1 [(.int .i64 (0))] [(0, (.t 47))]), oo 49 (.app 1 (.t 39) (.t 48)), om 7 49])) (.reg [om 37 8, oo 38 (.ar .add (.t 37) (ci 1)), om 8 38])))))) (.reg [oo 50 (.fa 1 (.t 4)), oo 51 (.ld (.t 50)), om 52 7, oo 53 (.bsl 1 1 [.nils] [(0, (.t 52))]), oo 54 (.app 1 (.t 51) (.t 53)), oo 55 (.fa 1 (.t 4)), ⟨none, (.st 1 (.t 55) (.t 54)), none, []⟩])))) (.reg [om 31 6, oo 32 (.ar .add (.t 31) (ci 1)), om 6 32])))))) (.seq (.seq (.reg [oo 9 (.mv (ci 0))]) (.block 4 (.loop 566 (.seq (.seq (.reg [om 56 9, oo 57 (.fa 18 (.t 1)), oo 58 (.ld (.t 57)), oo 59 (.len (.t 58)), oo 60 (.ar .lss (.t 56) (.t 59)), om 61 60, og 62 (.mv (.t 9)) 61 true, og 63 (.ar .lss (.t 62) (ci 6)) 61 true, oo 64 (.pick (.t 61) (.t 63) (.c (.bool false)))]) (.cond (.t 64) .skip (.exit 4))) (.seq (.block 5 (.seq (.reg [oo 67 (.fa 18 (.t 1)), oo 68 (.ld (.t 67)), om 69 9, oo 70 (.ias 4 (.t 68) (.t 69)), oo 71 (.ldn 4 (.t 70)), oo 10 (.new [(.int .u8 (0)), (.int .u8 (0)), (.int .u8 (0)), (.int .u8 (0))]), ⟨none, (.st 4 (.t 10) (.t 71)), none, []⟩]) (.seq (.reg [oo 72 (.iaa 4 1 (.t 10) (ci 1)), oo 73 (.ld (.t 72)), oo 74 (.conv .i64 (.t 73)), oo 75 (.ar .mul (ci 2) (.t 74)), oo 76 (.iaa 4 1 (.t 10) (ci 2)), oo 77 (.ld (.t 76)), oo 78 (.conv .i64 (.t 77)), oo 79 (.ar .rem (.t 78) (ci 2)), oo 80 (.ar .add (.t 75) (.t 79)), om 11 80]) (.drw [oo 81 (.fa 2 (.t 4)), oo 82 (.ld (.t 81)), op 83 (.iaa 4 1 (.t 10) (ci 0)) [0, 1], op 84 (.ld (.t 83)) [0, 1], op 85 (.conv .i64 (.t 84)) [0, 1], op 86 (.fa 0 (.t 4)) [0, 1, 2, 3, 4], op 87 (.ld (.t 86)) [0, 1, 2, 3, 4], op 88 (.ar .rem (.t 85) (.t 87)) [0, 1], op 89 (.mv (.t 11)) [0, 1, 2, 3, 4, 5, 6, 7], op 90 (.mv (.t 11)) [0, 1, 2, 3, 4, 5, 6, 7, 8], op 91 (.ar .add (.t 90) (ci 1)) [0, 1, 2, 3, 4, 5, 6, 7, 8], op 92 (.iaa 4 1 (.t 10) (ci 3)) [0, 1, 2, 3, 4, 5, 6, 7, 8, 9, 10], op 93 (.ld (.t 92)) [0, 1, 2, 3, 4, 5, 6, 7, 8, 9, 10], op 94 (.conv .i64 (.t 93)) [0, 1, 2, 3, 4, 5, 6, 7, 8, 9, 10], op 95 (.ar .rem (.t 94) (ci 60)) [0, 1, 2, 3, 4, 5, 6, 7, 8, 9, 10], op 96 (.ar .add (.t 91) (.t 95)) [0, 1, 2, 3, 4, 5, 6, 7, 8], op 97 (.bld [(.int .i64 (0)), (.int .i64 (0)), (.int .i64 (0))] [(0, (1, (.t 88))), (1, (1, (.t 89))), (2, (1, (.t 96)))]) [0, 1], op 98 (.bsl 3 1 [(.int .i64 (0)), (.int .i64 (0)), (.int .i64 (0))] [(0, (.t 97))]) [0, 1], oo 99 (.app 3 (.t 82) (.t 98)), oo 100 (.fa 2 (.t 4)), ⟨none, (.st 1 (.t 100) (.t 99)), none, []⟩])))) (.reg [om 65 9, oo 66 (.ar .add (.t 65) (ci 1)), om 9 66])))))) (.seq (.reg [oo 101 (.bsl 4 0 [(.int .i64 (0)), (.int .i64 (0)), (.int .i64 (0)), .nils] []), om 12 101]) (.seq (.seq (.reg [oo 13 (.mv (ci 0))]) (.block 6 (.loop 12342 (.seq (.seq (.reg [om 102 13, oo 103 (.fa 19 (.t 1)), oo 104 (.ld (.t 103)), oo 105 (.len (.t 104)), oo 106 (.ar .lss (.t 102) (.t 105)), om 107 106, og 108 (.mv (.t 13)) 107 true, og 109 (.ar .lss (.t 108) (ci 5)) 107 true, oo 110 (.pick (.t 107) (.t 109) (.c (.bool false)))]) (.cond (.t 110) .skip (.exit 6))) (.seq (.block 7 (.seq (.reg [oo 113 (.fa 19 (.t 1)), oo 114 (.ld (.t 113)), om 115 13, oo 116 (.ias 7 (.t 114) (.t 115)), oo 117 (.ldn 7 (.t 116)), oo 14 (.new [(.int .u8 (0)), (.int .u8 (0)), (.int .u8 (0)), (.int .u8 (0)), (.int .u8 (0)), (.int .u8 (0)), (.int .u8 (0))]), ⟨none, (.st 7 (.t 14) (.t 117)), none, []⟩]) (.seq (.drw [oo 118 (.iaa 7 1 (.t 14) (ci 0)), oo 119 (.ld (.t 118)), oo 120 (.conv .i64 (.t 119)), op 121 (.mv (.t 5)) [0, 1, 2], oo 122 (.ar .rem (.t 120) (.t 121)), op 123 (.iaa 7 1 (.t 14) (ci 1)) [0, 1, 2, 3, 4], op 124 (.ld (.t 123)) [0, 1, 2, 3, 4], op 125 (.conv .i64 (.t 124)) [0, 1, 2, 3, 4], op 126 (.iaa 7 1 (.t 14) (ci 2)) [0, 1, 2, 3, 4, 5, 6, 7], op 127 (.ld (.t 126)) [0, 1, 2, 3, 4, 5, 6, 7], op 128 (.conv .i64 (.t 127)) [0, 1, 2, 3, 4, 5, 6, 7], op 129 (.ar .mul (ci 3) (.t 128)) [0, 1, 2, 3, 4, 5, 6, 7], oo 130 (.bld [(.int .i64 (0)), (.int .i64 (0)), (.int .i64 (0)), .nils] [(0, (1, (.t 122))), (1, (1, (.t 125))), (2, (1, (.t 129)))]), op 15 (.new [(.int .i64 (0)), (.int .i64 (0)), (.int .i64 (0)), .nils]) [0, 1, 2, 3, 4, 5, 6, 7, 8, 9, 10, 11, 12], ⟨none, (.st 4 (.t 15) (.t 130)), none, []⟩]) (.seq (.seq (.reg [oo 16 (.mv (ci 0))]) (.block 8 (.loop 127030 (.seq (.seq (.reg [om 131 16, oo 132 (.fa 0 (.t 4)), oo 133 (.ld (.t 132)), oo 134 (.ar .lss (.t 131) (.t 133))]) (.cond (.t 134) .skip (.exit 8))) (.seq (.block 9 (.drw [oo 137 (.fa 3 (.t 15)), oo 138 (.ld (.t 137)), op 139 (.mv (.t 16)) [0, 1], op 140 (.ar .add (ci 3) (.t 139)) [0, 1], op 141 (.iaa 7 1 (.t 14) (.t 140)) [0, 1], op 142 (.ld (.t 141)) [0, 1], op 143 (.conv .i64 (.t 142)) [0, 1], op 144 (.ar .rem (.t 143) (ci 90)) [0, 1], op 145 (.ar .sub (.t 144) (ci 10)) [0, 1], op 146 (.mx [(ci 0), (.t 145)]) [0, 1], op 147 (.bsl 1 1 [(.int .i64 (0))] [(0, (.t 146))]) [0, 1], oo 148 (.app 1 (.t 138) (.t 147)), oo 149 (.fa 3 (.t 15)), ⟨none, (.st 1 (.t 149) (.t 148)), none, []⟩])) (.reg [om 135 16, oo 136 (.ar .add (.t 135) (ci 1)), om 16 136])))))) (.reg [om 150 12, oo 151 (.ldn 4 (.t 15)), oo 152 (.bsl 4 1 [(.int .i64 (0)), (.int .i64 (0)), (.int .i64 (0)), .nils] [(0, (.t 151))]), oo 153 (.app 4 (.t 150) (.t 152)), om 12 153]))))) (.reg [om 111 13, oo 112 (.ar .add (.t 111) (ci 1)), om 13 112])))))) (.seq (.reg [oo 154 (.ldn 3 (.t 4)), om 155 12, ⟨none, (.st 3 (.t 2) (.t 154)), none, []⟩, om 3 155]) .ret)))))))), 156, [(.ldn 3 2), (.tmp 3)], false, fun _ => none, fun _ _ => none⟩
def c42 : CFn := ⟨(.seq (.reg [oo 2 (.box (.t 0)), oo 4 (.mv (.c .nils))]) (.seq (.reg [oo 10 (.bsl 1 0 [(.int .i64 (0))] []), oo 11 (.bsl 1 0 [(.int .i64 (0))] []), om 5 10, om 6 11]) (.seq (.seq (.reg [oo 7 (.mv (ci 0))]) (.block 0 (.loop 230 (.seq (.seq (.reg [om 12 7, om 13 1, oo 14 (.ar .lss (.t 12) (.t 13))]) (.cond (.t 14) .skip (.exit 0))) (.seq (.block 1 (.reg [om 17 5, om 18 7, oo 19 (.bsl 1 1 [(.int .i64 (0))] [(0, (.t 18))]), oo 20 (.app 1 (.t 17) (.t 19)), om 5 20])) (.reg [om 15 7, oo 16 (.ar .add (.t 15) (ci 1)), om 7 16])))))) (.seq (.seq (.reg [oo 8 (.mv (ci 0))]) (.block 2 (.loop 358 (.seq (.seq (.reg [om 21 8, om 22 1, oo 23 (.ar .lss (.t 21) (.t 22))]) (.cond (.t 23) .skip (.exit 2))) (.seq (.block 3 (.seq (.reg [om 26 8, oo 27 (.fa 20 (.t 2)), oo 28 (.iaa 6 1 (.t 27) (.t 26)), oo 29 (.ld (.t 28)), oo 30 (.conv .i64 (.t 29)), om 31 5, oo 32 (.len (.t 31)), oo 33 (.ar .rem (.t 30) (.t 32)), om 9 33]) (.seq (.reg [om 34 6, om 35 5, om 36 9, oo 37 (.ias 1 (.t 35) (.t 36)), oo 38 (.ld (.t 37)), oo 39 (.bsl 1 1 [(.int .i64 (0))] [(0, (.t 38))]), oo 40 (.app 1 (.t 34) (.t 39)), om 6 40]) (.drw [om 41 5, op 42 (.mv (.t 9)) [0], oo 43 (.slc 1 (.t 41) none (some (.t 42)) none), oo 44 (cl 18 [(.t 43)]), op 45 (.mv (.t 5)) [0, 1, 2, 3], op 46 (.mv (.t 9)) [0, 1, 2, 3, 4], op 47 (.ar .add (.t 46) (ci 1)) [0, 1, 2, 3, 4], op 48 (.slc 1 (.t 45) (some (.t 47)) none none) [0, 1, 2, 3], oo 49 (.app 1 (.t 44) (.t 48)), om 5 49])))) (.reg [om 24 8, oo 25 (.ar .add (.t 24) (ci 1)), om 8 25])))))) (.seq (.reg [om 50 6, om 4 50]) .ret))))), 51, [(.tmp 4)], false, fun _ => none, fun _ _ => none⟩
def c43 : CFn := ⟨(.seq (.reg [oo 3 (.box (.t 0)), oo 6 (.mv (.c .nils)), oo 7 (.mv (ci 0))]) (.seq (.reg [oo 11 (.ldn 3 (.t 3)), om 12 1, om 13 2, oo 14 (cl 61 [(.t 11), (.t 12), (.t 13)]), om 10 14, oo 15 (.ext 0 (.t 10)), oo 16 (.ext 1 (.t 10)), oo 8 (.new [(.int .i64 (0)), .nils, .nils, .nils]), ⟨none, (.st 4 (.t 8) (.t 15)), none, []⟩, om 9 16]) (.seq (.seq (.reg [om 17 9, oo 18 (.ar .neq (.t 17) (ci 0))]) (.cond (.t 18) (.seq (.reg [om 19 9, oo 6 (.mv (.c .nils)), om 7 19]) .ret) .skip)) (.seq (.reg [oo 20 (.ldn 4 (.t 8)), om 21 2, oo 22 (cl 62 [(.t 20), (.t 21)]), oo 23 (.part 0 (.t 22)), om 6 23, oo 7 (.mv (ci 0))]) .ret)))), 24, [(.tmp 6), (.tmp 7)], false, fun _ => none, fun _ _ => none⟩
def c44 : CFn := ⟨(.seq (.reg [oo 3 (.box (.t 0)), oo 6 (.mv (.c .nils)), oo 7 (.mv (.c (.bool false)))]) (.seq (.seq (.reg [om 11 2, oo 12 (.len (.t 11)), om 13 1, oo 14 (.len (.t 13)), oo 15 (.ar .neq (.t 12) (.t 14))]) (.cond (.t 15) (.seq (.reg [oo 6 (.mv (.c .nils)), oo 7 (.mv (.c (.bool false)))]) .ret) .skip)) (.seq (.reg [oo 16 (.bsl 1 0 [(.int .i64 (0))] []), om 8 16]) (.seq (.seq (.reg [oo 9 (.mv (ci 0))]) (.block 0 (.loop 782 (.seq (.seq (.reg [om 17 9, om 18 1, oo 19 (.len (.t 18)), oo 20 (.ar .lss (.t 17) (.t 19))]) (.cond (.t 20) .skip (.exit 0))) (.seq (.block 1 (.seq (.seq (.drw [om 23 2, op 24 (.mv (.t 9)) [0], oo 25 (.ias 1 (.t 23) (.t 24)), oo 26 (.ld (.t 25)), oo 27 (.len (.t 26)), op 28 (.fa 0 (.t 3)) [0, 1, 2, 3, 4], op 29 (.ld (.t 28)) [0, 1, 2, 3, 4], oo 30 (.ar .neq (.t 27) (.t 29))]) (.cond (.t 30) (.seq (.reg [oo 6 (.mv (.c .nils)), oo 7 (.mv (.c (.bool false)))]) .ret) .skip)) (.seq (.seq (.reg [oo 10 (.mv (ci 0))]) (.block 2 (.loop 1806 (.seq (.seq (.reg [om 31 10, oo 32 (.fa 0 (.t 3)), oo 33 (.ld (.t 32)), oo 34 (.ar .lss (.t 31) (.t 33))]) (.cond (.t 34) .skip (.exit 2))) (.seq (.block 3 (.seq (.reg [om 37 2, om 38 9, oo 39 (.ias 1 (.t 37) (.t 38)), oo 40 (.ld (.t 39)), om 41 10, oo 42 (.ias 1 (.t 40) (.t 41)), oo 43 (.ld (.t 42)), oo 44 (.ar .lss (.t 43) (ci 0)), om 45 44, og 46 (.mv (.t 2)) 45 false, og 47 (.mv (.t 9)) 45 false, og 48 (.ias 1 (.t 46) (.t 47)) 45 false, og 49 (.ld (.t 48)) 45 false, og 50 (.mv (.t 10)) 45 false, og 51 (.ias 1 (.t 49) (.t 50)) 45 false, og 52 (.ld (.t 51)) 45 false, og 53 (.ar .gtr (.t 52) (ci 1073741824)) 45 false, oo 54 (.pick (.t 45) (.c (.bool true)) (.t 53))]) (.cond (.t 54) (.seq (.reg [oo 6 (.mv (.c .nils)), oo 7 (.mv (.c (.bool false)))]) .ret) .skip))) (.reg [om 35 10, oo 36 (.ar .add (.t 35) (ci 1)), om 10 36])))))) (.drw [om 55 8, op 56 (.mv (.t 2)) [0], op 57 (.mv (.t 9)) [0, 1], op 58 (.ias 1 (.t 56) (.t 57)) [0], op 59 (.ld (.t 58)) [0], op 60 (.fa 0 (.t 3)) [0, 1, 2, 3, 4], op 61 (.ld (.t 60)) [0, 1, 2, 3, 4], op 62 (.ar .sub (.t 61) (ci 1)) [0, 1, 2, 3, 4], op 63 (.ias 1 (.t 59) (.t 62)) [0], op 64 (.ld (.t 63)) [0], op 65 (.mv (.t 1)) [0, 1, 2, 3, 4, 5, 6, 7, 8, 9], op 66 (.mv (.t 9)) [0, 1, 2, 3, 4, 5, 6, 7, 8, 9, 10], op 67 (.ias 4 (.t 65) (.t 66)) [0, 1, 2, 3, 4, 5, 6, 7, 8, 9], op 68 (.fa 3 (.t 67)) [0, 1, 2, 3, 4, 5, 6, 7, 8, 9], op 69 (.ld (.t 68)) [0, 1, 2, 3, 4, 5, 6, 7, 8, 9], op 70 (.fa 0 (.t 3)) [0, 1, 2, 3, 4, 5, 6, 7, 8, 9, 10, 11, 12, 13, 14], op 71 (.ld (.t 70)) [0, 1, 2, 3, 4, 5, 6, 7, 8, 9, 10, 11, 12, 13, 14], op 72 (.ar .sub (.t 71) (ci 1)) [0, 1, 2, 3, 4, 5, 6, 7, 8, 9, 10, 11, 12, 13, 14], op 73 (.ias 1 (.t 69) (.t 72)) [0, 1, 2, 3, 4, 5, 6, 7, 8, 9], op 74 (.ld (.t 73)) [0, 1, 2, 3, 4, 5, 6, 7, 8, 9], op 75 (.ar .add (.t 64) (.t 74)) [0], op 76 (.bsl 1 1 [(.int .i64 (0))] [(0, (.t 75))]) [0], oo 77 (.app 1 (.t 55) (.t 76)), om 8 77])))) (.reg [om 21 9, oo 22 (.ar .add (.t 21) (ci 1)), om 9 22])))))) (.seq (.reg [om 78 8, om 6 78, oo 7 (.mv (.c (.bool true)))]) .ret))))), 79, [(.tmp 6), (.tmp 7)], false, fun _ => none, fun _ _ => none⟩
def c46 : CFn := ⟨(.seq (.reg [oo 4 (.mv (.c (.bool false)))]) (.seq (.seq (.reg [oo 5 (.mv (ci 0))]) (.block 0 (.loop 35 (.seq (.seq (.reg [om 7 5, om 8 0, oo 9 (.len (.t 8)), oo 10 (.ar .lss (.t 7) (.t 9))]) (.cond (.t 10) .skip (.exit 0))) (.seq (.block 1 (.seq (.reg [oo 6 (.mv (ci 0))]) (.block 2 (.loop 99 (.seq (.seq (.reg [om 13 6, om 14 0, om 15 5, oo 16 (.ias 1 (.t 14) (.t 15)), oo 17 (.ld (.t 16)), oo 18 (.len (.t 17)), oo 19 (.ar .lss (.t 13) (.t 18))]) (.cond (.t 19) .skip (.exit 2))) (.seq (.block 3 (.seq (.drw [om 22 0, op 23 (.mv (.t 5)) [0], oo 24 (.ias 1 (.t 22) (.t 23)), oo 25 (.ld (.t 24)), op 26 (.mv (.t 6)) [0, 1, 2, 3], oo 27 (.ias 1 (.t 25) (.t 26)), oo 28 (.ld (.t 27)), op 29 (.mv (.t 1)) [0, 1, 2, 3, 4, 5, 6], op 30 (.mv (.t 5)) [0, 1, 2, 3, 4, 5, 6, 7], op 31 (.ias 1 (.t 29) (.t 30)) [0, 1, 2, 3, 4, 5, 6], op 32 (.ld (.t 31)) [0, 1, 2, 3, 4, 5, 6], op 33 (.mv (.t 6)) [0, 1, 2, 3, 4, 5, 6, 7, 8, 9, 10], op 34 (.ias 1 (.t 32) (.t 33)) [0, 1, 2, 3, 4, 5, 6], op 35 (.ld (.t 34)) [0, 1, 2, 3, 4, 5, 6], oo 36 (.ar .lss (.t 28) (.t 35))]) (.cond (.t 36) (.seq (.reg [oo 4 (.mv (.c (.bool true)))]) .ret) .skip))) (.reg [om 20 6, oo 21 (.ar .add (.t 20) (ci 1)), om 6 21]))))))) (.reg [om 11 5, oo 12 (.ar .add (.t 11) (ci 1)), om 5 12])))))) (.seq (.reg [oo 4 (.mv (.c (.bool false)))]) .ret))), 37, [(.tmp 4)], false, fun _ => none, fun _ _ => none⟩
end
end Go.Proofs.YtjjapdagllclkaaGreat.Tab
