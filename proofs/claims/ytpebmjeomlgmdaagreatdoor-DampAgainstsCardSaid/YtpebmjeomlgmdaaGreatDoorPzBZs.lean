/- The compiled functions of this seat, printed by a program; that they are what the translation compiles to is proved where they are used. No condition. -/
import Derived.OrdersIn
import Derived.RangeFuncNested
import Derived.LoopNIn
import Derived.Test.YtpebmjeomlgmdaaGreatDoorPzAZs
set_option linter.unusedSimpArgs false
set_option linter.unusedVariables false
namespace Go.Abs
open Go
section
variable {P : Program} {T : Nat → Option CFn} {ex : Option Nat → CC → St → Option (AEx × St)} {t t' : List Za} {h h' : Zj}
theorem ev_c {x : CV} (hs : ∀ s ∈ slotsV x, t'[s]? = t[s]?) : x.ev t' = x.ev t := by
 cases x with
 | t i => simp only [CV.ev, Zz]; exact hs i (by simp [slotsV])
 | c v => rfl
theorem evAll_c : ∀ {l : List CV} (_ : ∀ s ∈ l.flatMap slotsV, t'[s]? = t[s]?), evAll t' l = evAll t l
 | [], _ => rfl
 | x :: l, hs => by
  show (match x.ev t', evAll t' l with | some v, some vs => some (v :: vs) | _, _ => none) = (match x.ev t, evAll t l with | some v, some vs => some (v :: vs) | _, _ => none)
  rw [ev_c (x := x) fun s h => hs s (by simp [h]), evAll_c (l := l) fun s h => hs s (by rw [List.flatMap_cons]; exact List.mem_append_right _ h)]
theorem evOpt_c {x : Option CV} (hs : ∀ s ∈ slotsOpt x, t'[s]? = t[s]?) : evOpt t' x = evOpt t x := by
 cases x with
 | none => rfl
 | some x => simp only [evOpt, ev_c (x := x) hs]
theorem evParts3_c : ∀ {l : List (Nat × Nat × CV)} (_ : ∀ s ∈ l.flatMap fun p => slotsV p.2.2, t'[s]? = t[s]?), ZQ t' l = ZQ t l
 | [], _ => rfl
 | (i, s, x) :: l, hs => by
  simp only [ZQ]
  rw [ev_c (x := x) fun s h => hs s (by simp [h]), evParts3_c (l := l) fun s h => hs s (by rw [List.flatMap_cons]; exact List.mem_append_right _ h)]
theorem evParts_c {n : Nat} : ∀ {l : List (Nat × CV)} (_ : ∀ s ∈ l.flatMap fun p => slotsV p.2, t'[s]? = t[s]?), Yp n t' l = Yp n t l
 | [], _ => rfl
 | (i, x) :: l, hs => by
  simp only [Yp]
  rw [ev_c (x := x) fun s h => hs s (by simp [h]), evParts_c (l := l) fun s h => hs s (by rw [List.flatMap_cons]; exact List.mem_append_right _ h)]
theorem dop_t {o : COp} (hs : ∀ s ∈ Xe o, t'[s]? = t[s]?) : dop P t' h o = dop P t h o := by
 cases o <;> first
  | rfl
  | (rename_i x; simp only [dop]; rw [ev_c (x := x) fun s h => hs s (by simp [Xe, h])]; done)
  | (rename_i x y; simp only [dop]; rw [ev_c (x := x) fun s h => hs s (by simp [Xe, h]), ev_c (x := y) fun s h => hs s (by simp [Xe, h])]; done)
  | (rename_i x y z; simp only [dop]; rw [ev_c (x := x) fun s h => hs s (by simp [Xe, h]), ev_c (x := y) fun s h => hs s (by simp [Xe, h]), ev_c (x := z) fun s h => hs s (by simp [Xe, h])]; done)
  | (rename_i x; simp only [dop]; rw [evAll_c (l := x) fun s h => hs s (by simpa [Xe] using h)]; done)
  | (rename_i x y; simp only [dop]; rw [evAll_c (l := x) fun s h => hs s (by simp only [Xe]; exact List.mem_append_left _ h), evAll_c (l := y) fun s h => hs s (by simp only [Xe]; exact List.mem_append_right _ h)]; done)
  | (rename_i x; simp only [dop]; rw [evParts3_c (l := x) fun s h => hs s (by simpa [Xe] using h)]; done)
  | (rename_i x; simp only [dop]; rw [evParts_c (l := x) fun s h => hs s (by simpa [Xe] using h)]; done)
  | (rename_i x y z u; simp only [dop]; rw [ev_c (x := x) fun s h => hs s (by simp [Xe, h]), evOpt_c (x := y) fun s h => hs s (by simp [Xe, h]), evOpt_c (x := z) fun s h => hs s (by simp [Xe, h]), evOpt_c (x := u) fun s h => hs s (by simp [Xe, h])]; done)
theorem wanted_t {g : Option (Nat × Bool)} (hs : ∀ d b, g = some (d, b) → t'[d]? = t[d]?) : Yf t' g = Yf t g := by
 cases g with
 | none => rfl
 | some p => obtain ⟨d, b⟩ := p; simp only [Yf, Zz, hs d b rfl]
theorem loud_t {o : COp} (hs : ∀ s ∈ Xe o, t'[s]? = t[s]?) : Yk T ex t' h o = Yk T ex t h o := by
 have h1 : lop t' h o = lop t h o := by
  cases o <;> first
   | rfl
   | (rename_i s z x; simp only [lop]; rw [ev_c (x := x) fun s h => hs s (by simp [Xe, h])]; done)
   | (rename_i x y; simp only [lop]; rw [ev_c (x := x) fun s h => hs s (by simp [Xe, h]), ev_c (x := y) fun s h => hs s (by simp [Xe, h])]; done)
   | (rename_i x y z; simp only [lop]; rw [ev_c (x := x) fun s h => hs s (by simp [Xe, h]), ev_c (x := y) fun s h => hs s (by simp [Xe, h]), ev_c (x := z) fun s h => hs s (by simp [Xe, h])]; done)
 have h2 : Zq t' o = Zq t o := by
  cases o <;> first
   | rfl
   | (rename_i x y; simp only [Zq]; rw [ev_c (x := x) fun s h => hs s (by simp only [Xe]; exact List.mem_append_left _ h), evAll_c (l := y) fun s h => hs s (by simp only [Xe]; exact List.mem_append_right _ h)]; done)
 simp only [Yk, Ya, h1, h2]
theorem rowAt_h {i : Nat} (hs : h'[i]? = h[i]?) : rowAt h' i = rowAt h i := by simp only [rowAt, Zz, hs]
theorem pointee_h {p : Za} {r : List Za} {o : Nat} {i : Option Nat} (hp : ZO h p = some (r, o, i)) (hs : ∀ r, i = some r → h'[r]? = h[r]?) : ZO h' p = some (r, o, i) := by
 unfold ZO at *
 split at hp
 ·rename_i j k o'
  have key : i = some j := by (repeat' split at hp) <;> simp at hp; exact hp.2.2.symm
  rw [rowAt_h (hs j key)]; exact hp
 ·exact hp
 ·simp at hp
theorem dop_h {o : COp} {e : Eff} {rd : Option Nat} (hd : dop P t h o = some (e, rd)) (hs : ∀ r, rd = some r → h'[r]? = h[r]?) : dop P t h' o = some (e, rd) := by
 cases o with
 | ld p =>
  simp only [dop] at hd ⊢
  split at hd <;> (try (simp at hd; done))
  rename_i pv hp
  split at hd <;> (try (simp at hd; done))
  rename_i r o i hpt
  split at hd <;> (try (simp at hd; done))
  rename_i x hx
  simp at hd
  obtain ⟨rfl, rfl⟩ := hd
  simp only [pointee_h hpt hs, hx]
 | ldn n p =>
  simp only [dop] at hd ⊢
  split at hd <;> (try (simp at hd; done))
  rename_i pv hp
  split at hd <;> (try (simp at hd; done))
  rename_i r o i hpt
  split at hd <;> (try (simp at hd; done))
  rename_i x hx
  simp at hd
  obtain ⟨rfl, rfl⟩ := hd
  simp only [pointee_h hpt hs, hx]
 | ias s x ix =>
  simp only [dop] at hd ⊢
  split at hd
  ·rename_i i k n tt kk q h1 h2
   have key : rd = some i := by (repeat' split at hd) <;> simp at hd; exact hd.2.symm
   simp only [rowAt_h (hs i key)]; exact hd
  ·exact hd
  ·simp at hd
 | slc s x lo hi mx =>
  simp only [dop] at hd ⊢
  split at hd
  ·rename_i i k n tt lo' hi' mx' h1 h2 h3 h4
   have key : rd = some i := by (repeat' split at hd) <;> simp at hd; exact hd.2.symm
   simp only [rowAt_h (hs i key)]; exact hd
  ·exact hd
  ·exact hd
  ·simp at hd
 | lenm x =>
  simp only [dop] at hd ⊢
  split at hd
  ·exact hd
  ·rename_i i h1
   have key : rd = some i := by (repeat' split at hd) <;> simp at hd; exact hd.2.symm
   simp only [Zz, hs i key] at hd ⊢; exact hd
  ·simp at hd
 | lk ok z m k =>
  simp only [dop] at hd ⊢
  split at hd
  ·exact hd
  ·rename_i i kd n h1 h2
   have key : rd = some i := by (repeat' split at hd) <;> simp at hd <;> exact hd.2.symm
   simp only [Zz, hs i key] at hd ⊢; exact hd
  ·simp at hd
 | lkS n ok z m k =>
  simp only [dop] at hd ⊢
  split at hd
  ·exact hd
  ·rename_i i xs h1 h2
   have key : rd = some i := by (repeat' split at hd) <;> simp at hd <;> exact hd.2.symm
   simp only [Zz, hs i key] at hd ⊢; exact hd
  ·simp at hd
 | _ => exact hd
theorem dop_new_h {o : COp} {b : Blk} {f : Nat → Za} {rd : Option Nat} (hd : dop P t h o = some (.new b f, rd)) (h' : Zj) : dop P t h' o = some (.new b f, rd) := by
 rcases dop_new_co hd with rfl | ⟨z, rfl⟩ | ⟨x, rfl⟩ | ⟨s, n, z, ps, rfl⟩ | ⟨s, z, l, c, rfl⟩ <;> exact hd
theorem loud_co {o : COp} {r : Za × Zj} (hl : Yk T ex t h o = some r) : isLoud o = true := by
 cases o <;> first
  | rfl
  | (simp [Yk, lop, Ya, Zq] at hl)
theorem dop_loud {o : COp} (hl : isLoud o = true) : dop P t h o = none := by
 cases o <;> first
  | rfl
  | (simp [isLoud] at hl)
theorem dop_alive {o : COp} {v : Za} {r : Nat} (hd : dop P t h o = some (.val v, some r)) : ∃ b, h[r]? = some (some b) := by
 have row : ∀ i p, rowAt h i = some p → ∃ b, h[i]? = some (some b) := fun i p hp => ⟨_, rowAt_some (e := p.1) (rs := p.2) hp⟩
 have pt : ∀ p r o i, ZO h p = some (r, o, some i) → ∃ b, h[i]? = some (some b) := fun p r o i hp => by
  unfold ZO at hp
  split at hp
  ·rename_i j k o'
   (repeat' split at hp) <;> simp at hp
   rename_i q h1 _ _ _
   obtain ⟨_, _, rfl⟩ := hp
   exact row _ _ h1
  ·simp at hp
  ·simp at hp
 have nov : ∀ (x : Option Za) (e : Eff), Out.v x ≠ some (e, some r) := fun x e => by cases x <;> simp [Out.v]
 cases o <;> simp only [dop] at hd <;> (repeat' split at hd) <;> first
  | (exact absurd hd (nov _ _))
  | (simp at hd; done)
  | (simp [Yc, ZN, Yt] at hd; done)
  | (simp at hd; obtain ⟨_, rfl⟩ := hd; exact pt _ _ _ _ ‹_›)
  | (simp at hd; obtain ⟨_, rfl⟩ := hd; exact row _ _ ‹_›)
  | (simp at hd; obtain ⟨_, rfl⟩ := hd; exact ⟨_, by rw [← Zz]; assumption⟩)
end
end Go.Abs
namespace Go.Abs
open Go
theorem maskH_length : ∀ (ms : List Nat) (h : Zj), (YZ h ms).length = h.length
 | [], _ => rfl
 | i :: ms, h => by show (YZ (h.set i none) ms).length = _; rw [maskH_length ms]; simp
theorem maskH_get : ∀ (ms : List Nat) (h : Zj) (k : Nat), (YZ h ms)[k]? = if k ∈ ms ∧ k < h.length then some none else h[k]?
 | [], _, _ => by simp [YZ]
 | i :: ms, h, k => by
  show (YZ (h.set i none) ms)[k]? = _
  rw [maskH_get ms]
  simp only [List.length_set, List.mem_cons]
  by_cases h1 : k ∈ ms ∧ k < h.length
  ·rw [if_pos h1, if_pos ⟨.inr h1.1, h1.2⟩]
  ·rw [if_neg h1]
   by_cases e : i = k
   ·subst e
    by_cases hl : i < h.length
    ·rw [List.getElem?_set_self hl, if_pos ⟨.inl rfl, hl⟩]
    ·rw [if_neg (by omega), List.getElem?_eq_none (by simp; omega), List.getElem?_eq_none (by omega)]
   ·rw [List.getElem?_set_ne e, if_neg]
    rintro ⟨h2 | h2, h3⟩
    ·exact e h2.symm
    ·exact h1 ⟨h2, h3⟩
theorem unmaskH_length (h0 : Zj) : ∀ (ms : List Nat) (h : Zj), (ZX h0 h ms).length = h.length
 | [], _ => rfl
 | i :: ms, h => by show (ZX h0 (h.set i _) ms).length = _; rw [unmaskH_length h0 ms]; simp
theorem unmaskH_get (h0 : Zj) : ∀ (ms : List Nat) (h : Zj) (k : Nat), (ZX h0 h ms)[k]? = if k ∈ ms ∧ k < h.length then some (h0[k]?.getD none) else h[k]?
 | [], _, _ => by simp [ZX]
 | i :: ms, h, k => by
  show (ZX h0 (h.set i (h0[i]?.getD none)) ms)[k]? = _
  rw [unmaskH_get h0 ms]
  simp only [List.length_set, List.mem_cons]
  by_cases h1 : k ∈ ms ∧ k < h.length
  ·rw [if_pos h1, if_pos ⟨.inr h1.1, h1.2⟩]
  ·rw [if_neg h1]
   by_cases e : i = k
   ·subst e
    by_cases hl : i < h.length
    ·rw [List.getElem?_set_self hl, if_pos ⟨.inl rfl, hl⟩]
    ·rw [if_neg (by omega), List.getElem?_eq_none (by simp; omega), List.getElem?_eq_none (by omega)]
   ·rw [List.getElem?_set_ne e, if_neg]
    rintro ⟨h2 | h2, h3⟩
    ·exact e h2.symm
    ·exact h1 ⟨h2, h3⟩
theorem mask_set {ms : List Nat} {h : Zj} {i : Nat} (b : Option Blk) (hi : i ∈ ms) : YZ (h.set i b) ms = YZ h ms := by
 apply List.ext_getElem?
 intro k
 rw [maskH_get, maskH_get, List.length_set]
 by_cases e : i = k
 ·subst e
  by_cases hl : i < h.length
  ·rw [if_pos ⟨hi, hl⟩, if_pos ⟨hi, hl⟩]
  ·rw [if_neg (by omega), if_neg (by omega), List.getElem?_eq_none (by simp; omega), List.getElem?_eq_none (by omega)]
 ·rw [List.getElem?_set_ne e]
theorem unmask_set {ms : List Nat} {h h' : Zj} {i : Nat} (b : Option Blk) (hi : i ∈ ms) (hl : i < h.length) : ZX (h.set i b) h' ms = (ZX h h' ms).set i b := by
 apply List.ext_getElem?
 intro k
 rw [unmaskH_get]
 by_cases e : i = k
 ·subst e
  by_cases hl' : i < h'.length
  ·rw [if_pos ⟨hi, hl'⟩, List.getElem?_set_self hl, List.getElem?_set_self (by rw [unmaskH_length]; exact hl')]; rfl
  ·rw [if_neg (by omega), List.getElem?_eq_none (by omega), List.getElem?_eq_none (by simp [unmaskH_length]; omega)]
 ·rw [List.getElem?_set_ne e, List.getElem?_set_ne e, unmaskH_get]
theorem allB_eq {α : Type} {f : α → α → Bool} (hf : ∀ x y, f x y = true → x = y) : ∀ {xs ys : List α}, Xc f xs ys = true → xs = ys
 | [], [], _ => rfl
 | x :: xs, y :: ys, h => by
  simp only [Xc, Bool.and_eq_true] at h
  rw [hf x y h.1, allB_eq hf h.2]
 | [], _ :: _, h => by simp [Xc] at h
 | _ :: _, [], h => by simp [Xc] at h
theorem eqA_eq : ∀ (n : Nat) (a b : Za), eqA n a b = true → a = b
 | 0, _, _, h => by simp [eqA] at h
 | n + 1, a, b, h => by
  have l : ∀ {xs ys : List Za}, Xc (eqA n) xs ys = true → xs = ys := allB_eq (eqA_eq n)
  have ll : ∀ {xs ys : List (List Za)}, Xc (Xc (eqA n)) xs ys = true → xs = ys := allB_eq fun _ _ => l
  cases a <;> cases b <;> simp only [eqA, Bool.and_eq_true, beq_iff_eq] at h <;> first
   | rfl
   | (simp at h; done)
   | (simp only [h]; done)
   | (rw [l h]; done)
   | (rw [l h.1, h.2]; done)
   | (rw [ll h.1, h.2]; done)
   | (obtain ⟨⟨h1, h2⟩, h3⟩ := h; rw [h1, l h2, l h3]; done)
   | (obtain ⟨⟨h1, h2⟩, h3⟩ := h; rw [h1, h2, h3]; done)
   | (obtain ⟨⟨⟨h1, h2⟩, h3⟩, h4⟩ := h; rw [h1, h2, h3, h4]; done)
theorem eqB_eq {x y : Option Blk} (h : eqB x y = true) : x = y := by
 unfold eqB at h
 split at h
 ·rfl
 ·simp only [Bool.and_eq_true, beq_iff_eq] at h
  rw [h.1, allB_eq (fun _ _ => allB_eq (eqA_eq 12)) h.2]
 ·simp only [Bool.and_eq_true, beq_iff_eq] at h
  rw [h.1, allB_eq (fun x y hxy => ?_) h.2]
  simp only [Bool.and_eq_true, beq_iff_eq] at hxy
  obtain ⟨a, b, c⟩ := x
  obtain ⟨a', b', c'⟩ := y
  obtain ⟨⟨h1, h2⟩, h3⟩ := hxy
  simp only at h1 h2 h3
  rw [eqA_eq 12 a a' h1, eqA_eq 12 b b' h2, h3]
 ·simp at h
theorem news_spec : ∀ (ys : Zj) (s k : Nat), s + k ∉ news s ys → ys[k]? = none
 | [], _, _, _ => by simp
 | y :: ys, s, 0, h => by simp [news] at h
 | y :: ys, s, k + 1, h => by
  simp only [news] at h
  have : s + 1 + k ∉ news (s + 1) ys := by
   rw [show s + 1 + k = s + (k + 1) by omega]; exact fun h1 => h (List.mem_cons_of_mem _ h1)
  simpa using news_spec ys (s + 1) k this
theorem diffs_spec : ∀ (xs ys : Zj) (s k : Nat), s + k ∉ Xb s xs ys → ys[k]? = xs[k]?
 | x :: xs, y :: ys, s, 0, h => by
  simp only [Xb] at h
  split at h
  ·rename_i he; simp [eqB_eq he]
  ·simp at h
 | x :: xs, y :: ys, s, k + 1, h => by
  simp only [Xb] at h
  have : s + 1 + k ∉ Xb (s + 1) xs ys := by
   split at h
   ·rw [show s + 1 + k = s + (k + 1) by omega]; exact h
   ·rw [show s + 1 + k = s + (k + 1) by omega]; exact fun h1 => h (List.mem_cons_of_mem _ h1)
  simp only [List.getElem?_cons_succ]
  exact diffs_spec xs ys (s + 1) k this
 | x :: xs, [], s, 0, h => by simp [Xb] at h
 | x :: xs, [], s, k + 1, h => by
  simp only [Xb] at h
  have : s + 1 + k ∉ Xb (s + 1) xs [] := by
   rw [show s + 1 + k = s + (k + 1) by omega]; exact fun h1 => h (List.mem_cons_of_mem _ h1)
  have := diffs_spec xs [] (s + 1) k this
  simpa using this
 | [], ys, s, k, h => by
  simp only [Xb] at h
  rw [news_spec ys s k h]; simp
theorem disj_mem {a b : List Nat} (h : disj a b = true) : ∀ x ∈ a, x ∉ b := by
 intro x hx hb
 simp only [disj, List.all_eq_true, Bool.not_eq_true', List.contains_eq_mem, decide_eq_false_iff_not] at h
 exact h x hx hb
section
variable {P : Program} {T : Nat → Option CFn} {ex : Option Nat → CC → St → Option (AEx × St)} {t t' : List Za} {h h' h1 : Zj} {base n j : Nat} {o : CO} {v : Za} {rd wr : List Nat}
def Same (o : CO) (t t' : List Za) : Prop := ∀ s ∈ slotsC o, t'[s]? = t[s]?
theorem Same.op (hs : Same o t t') : ∀ s ∈ Xe o.op, t'[s]? = t[s]? := fun s h => hs s (List.mem_append_left _ h)
theorem Same.g (hs : Same o t t') : ∀ d b, o.g = some (d, b) → t'[d]? = t[d]? := fun d b h => hs d (List.mem_append_right _ (by simp [h]))
theorem putH_get {h : Zj} {b : Option Blk} {i r : Nat} (hr : r ≠ i) : (putH h i b)[r]? = h[r]? := by
 unfold putH
 split
 ·exact List.getElem?_set_ne fun e => hr e.symm
 ·split
  ·rename_i e
   subst e
   rcases Nat.lt_or_ge r h.length with hl | hl
   ·rw [List.getElem?_append_left hl]
   ·rw [List.getElem?_eq_none (l := h) hl, List.getElem?_eq_none (by simp; omega)]
  ·rfl
theorem setH_get : ∀ (us : List (Nat × Option Blk)) (h : Zj) {r : Nat}, r ∉ us.map (·.1) → (setH h us)[r]? = h[r]?
 | [], h, r, _ => rfl
 | u :: us, h, r, hr => by
  simp only [List.map_cons, List.mem_cons, not_or] at hr
  show (setH (putH h u.1 u.2) us)[r]? = _
  rw [setH_get us _ hr.2, putH_get hr.1]
theorem wrote_t {hm : Zj} (hs : ∀ s ∈ Xe o.op, t'[s]? = t[s]?) : Xi T t' o.op hm h' = Xi T t o.op hm h' := by
 generalize o.op = op at hs
 cases op with
 | st n p v => simp only [Xi]; rw [ev_c (x := p) fun s h => hs s (by simp [Xe, h])]
 | app n x y => simp only [Xi]; rw [ev_c (x := x) fun s h => hs s (by simp [Xe, h])]
 | call f aZ =>
  simp only [Xi, Zq]
  rw [ev_c (x := f) fun s h => hs s (by simp only [Xe]; exact List.mem_append_left _ h), evAll_c (l := aZ) fun s h => hs s (by simp only [Xe]; exact List.mem_append_right _ h)]
 | _ => rfl
theorem get_app1 {h : Zj} {b : Option Blk} {r : Nat} (hr : r ≠ h.length) : (h ++ [b])[r]? = h[r]? := by
 rcases Nat.lt_or_ge r h.length with hl | hl
 ·rw [List.getElem?_append_left hl]
 ·rw [List.getElem?_eq_none (l := h) hl, List.getElem?_eq_none (by simp; omega)]
theorem wrote_spec {hm : Zj} {op : COp} (hl : Yk T ex t hm op = some (v, h')) {r : Nat} (hr : r ∉ Xi T t op hm h') : h'[r]? = hm[r]? := by
 have hd : r ∉ Xb 0 hm h' → h'[r]? = hm[r]? := fun h => diffs_spec hm h' 0 r (by simpa using h)
 cases op with
 | st n p v =>
  simp only [Xi] at hr
  split at hr
  ·rename_i i k o hp
   unfold Yk at hl
   simp only [lop] at hl
   split at hl
   ·rename_i q hq
    split at hq
    ·rename_i p1 v1 hp1 hv1
     rw [hp] at hp1
     simp at hp1
     subst hp1
     split at hq
     ·rename_i h2 hst
      simp at hq
      subst hq
      simp at hl
      obtain ⟨_, rfl⟩ := hl
      simp only [stA] at hst
      (repeat' split at hst) <;> first
       | (simp at hst; done)
       | (simp [Yc, ZA] at hst; subst hst; exact List.getElem?_set_ne fun e => hr (by simp [e]))
     ·simp at hq
    ·simp at hq
   ·simp [Ya, Zq] at hl
  ·exact hd hr
 | app n x y =>
  have hlen : r ≠ hm.length := by
   intro e; subst e
   simp only [Xi] at hr
   split at hr <;> simp at hr
  have hi : ∀ i k m tt, x.ev t = some (.sl i k m tt) → r ≠ i := by
   intro i k m tt hx e; subst e
   simp only [Xi, hx] at hr
   simp at hr
  unfold Yk at hl
  simp only [lop, ZN, Yt, ZM, ZA, Ya, Zq] at hl
  split at hl
  ·rename_i q hq
   split at hq
   ·rename_i a b ha hb
    split at hq
    ·split at hq
     ·simp at hq; subst hq; simp at hl; rw [← hl.2]
     ·split at hq
      ·split at hq
       ·simp at hq; subst hq; simp at hl; rw [← hl.2]; exact get_app1 hlen
       ·simp at hq; subst hq; simp at hl; rw [← hl.2]; exact get_app1 hlen
       ·simp at hq; subst hq; simp at hl; rw [← hl.2]; exact get_app1 hlen
       ·rename_i i k m _ _
        simp at hq; subst hq; simp at hl; rw [← hl.2, get_app1 (by simpa using hlen), List.getElem?_set_ne fun e => hi i k m false ha e.symm]
       ·simp at hq
      ·simp at hq
    ·simp at hq
   ·simp at hq
  ·simp at hl
 | call f aZ =>
  simp only [Xi] at hr
  split at hr
  ·rename_i g args hc
   split at hr
   ·rename_i cf hcf
    split at hr
    ·rename_i u hu
     have hlo : lop t hm (.call f aZ) = none := rfl
     simp only [Yk, hlo, Ya, hc] at hl
     unfold YH at hl
     simp only [hcf, hu, Xa] at hl
     simp at hl
     rw [hl.2]
    ·rename_i hu
     split at hr
     ·rename_i u us he
      have hlo : lop t hm (.call f aZ) = none := rfl
      simp only [Yk, hlo, Ya, hc] at hl
      unfold YH at hl
      simp only [hcf, hu, he] at hl
      simp at hl
      rw [← hl.2]
      exact setH_get us hm hr
     ·exact hd hr
   ·exact hd hr
  ·exact hd hr
 | _ => exact hd hr
def ActA (P : Program) (T : Nat → Option CFn) (ex : Option Nat → CC → St → Option (AEx × St)) (base n j : Nat) (o : CO) (t : List Za) (h : Zj) (v : Za) (rd wr : List Nat) (h1 : Zj) : Prop :=
 h1 = h ∧ wr = [] ∧ (∀ r ∈ rd, ∃ b, h[r]? = some (some b)) ∧ ∀ t' h', Same o t t' → (∀ r ∈ rd, h'[r]? = h[r]?) → XR P T ex base n j o t' h' = some (v, rd, [], h')
def ActB (P : Program) (T : Nat → Option CFn) (ex : Option Nat → CC → St → Option (AEx × St)) (base n j : Nat) (o : CO) (t : List Za) (h : Zj) (v : Za) (rd wr : List Nat) (h1 : Zj) : Prop :=
 ∃ b, h1 = h.set (base + j) (some b) ∧ rd = [] ∧ wr = [base + j] ∧ ∀ t' h', Same o t t' → XR P T ex base n j o t' h' = some (v, [], [base + j], h'.set (base + j) (some b))
def ActC (P : Program) (T : Nat → Option CFn) (ex : Option Nat → CC → St → Option (AEx × St)) (base n j : Nat) (o : CO) (t : List Za) (h : Zj) (v : Za) (rd wr : List Nat) (h1 : Zj) : Prop :=
 isLoud o.op = true ∧ rd = [] ∧ ∃ h', h1 = ZX h h' (YY base n j o) ∧ h.length ≤ h'.length ∧ (∀ r, r ∉ wr → h'[r]? = (YZ h (YY base n j o))[r]?) ∧
  ∀ t' g, Same o t t' → YZ g (YY base n j o) = YZ h (YY base n j o) → XR P T ex base n j o t' g = some (v, [], wr, ZX g h' (YY base n j o))
theorem actD_inv (ha : XR P T ex base n j o t h = some (v, rd, wr, h1)) : ActA P T ex base n j o t h v rd wr h1 ∨ ActB P T ex base n j o t h v rd wr h1 ∨ ActC P T ex base n j o t h v rd wr h1 := by
 unfold XR at ha
 split at ha
 ·simp at ha
 ·rename_i hw
  simp at ha
  obtain ⟨rfl, rfl, rfl, rfl⟩ := ha
  refine .inl ⟨rfl, rfl, by simp, fun t' h' hs _ => ?_⟩
  unfold XR
  rw [wanted_t hs.g, hw]
 ·rename_i hw
  split at ha
  ·rename_i v' rd' hd
   simp at ha
   obtain ⟨rfl, rfl, rfl, rfl⟩ := ha
   refine .inl ⟨rfl, rfl, fun r hr => ?_, fun t' h' hs hr => ?_⟩
   ·cases rd' with
    | none => simp at hr
    | some r' => simp at hr; subst hr; exact dop_alive hd
   ·unfold XR
    have e : dop P t' h' o.op = some (.val v', rd') := dop_h (h := h) (by rw [dop_t hs.op]; exact hd) fun r he => hr r (by simp [he])
    rw [wanted_t hs.g, hw]
    simp only [e]
  ·rename_i b f rd' hd
   simp at ha
   obtain ⟨rfl, rfl, rfl, rfl⟩ := ha
   refine .inr (.inl ⟨b, rfl, rfl, rfl, fun t' h' hs => ?_⟩)
   unfold XR
   have e : dop P t' h' o.op = some (.new b f, rd') := dop_new_h (h := h) (by rw [dop_t hs.op]; exact hd) h'
   rw [wanted_t hs.g, hw]
   simp only [e]
  ·split at ha
   ·rename_i v' h' hl
    split at ha
    ·rename_i hlen
     simp at ha
     obtain ⟨rfl, rfl, rfl, rfl⟩ := ha
     refine .inr (.inr ⟨loud_co hl, rfl, h', rfl, hlen, fun r hr => wrote_spec hl hr, fun t' g hs hm => ?_⟩)
     unfold XR
     have hgl : g.length = h.length := by rw [← maskH_length (YY base n j o) g, hm, maskH_length]
     rw [wanted_t hs.g, hw]
     simp only [dop_loud (loud_co hl), loud_t hs.op, wrote_t hs.op, hm, hl, hgl, hlen, if_true]
    ·simp at ha
   ·simp at ha
end
end Go.Abs
namespace Go.Abs
open Go
section
variable {P : Program} {T : Nat → Option CFn} {ex : Option Nat → CC → St → Option (AEx × St)} {t t' : List Za} {h h' h1 : Zj} {base n i j : Nat} {o oi oj : CO} {v : Za} {rd wr : List Nat} {D D1 D2 : DSt}
theorem stepD_eq (base n j : Nat) (o : CO) (D : DSt) : YP P T ex base n j o D = match XR P T ex base n j o D.t D.h with
  | some (v, rd, wr, h) => if Xo D.lg o.un rd wr then some ⟨Xy D.t o.dst v, h, D.lg.set j (some (rd, wr))⟩ else none
  | none => none := by
 unfold YP
 rw [YM]
 cases XR P T ex base n j o D.t D.h with
 | none => rfl
 | some r => simp only [Ys, ZA]
theorem stepD_inv (hs : YP P T ex base n j o D = some D1) : ∃ v rd wr h, XR P T ex base n j o D.t D.h = some (v, rd, wr, h) ∧ Xo D.lg o.un rd wr = true ∧ D1 = ⟨Xy D.t o.dst v, h, D.lg.set j (some (rd, wr))⟩ := by
 rw [stepD_eq] at hs
 split at hs
 ·rename_i v rd wr h ha
  split at hs
  ·rename_i hc
   simp at hs
   exact ⟨v, rd, wr, h, ha, hc, hs.symm⟩
  ·simp at hs
 ·simp at hs
theorem clash_drop {lg : List (Option (List Nat × List Nat))} {un : List Nat} {e : Option (List Nat × List Nat)} (hl : lg[i]? = some none) (hc : Xo (lg.set i e) un rd wr = true) : Xo lg un rd wr = true := by
 simp only [Xo, List.all_eq_true, Zz] at *
 intro k hk
 by_cases he : i = k
 ·subst he; rw [hl]
 ·have := hc k hk
  rw [List.getElem?_set_ne he] at this
  exact this
theorem clash_other {lg : List (Option (List Nat × List Nat))} {un : List Nat} {e : Option (List Nat × List Nat)} (hj : j ∉ un) (hc : Xo lg un rd wr = true) : Xo (lg.set j e) un rd wr = true := by
 simp only [Xo, List.all_eq_true, Zz] at *
 intro k hk
 rw [List.getElem?_set_ne (fun e : j = k => hj (e ▸ hk))]
 exact hc k hk
theorem clash_spec {lg : List (Option (List Nat × List Nat))} {un r w : List Nat} (hi : i ∈ un) (hl : lg[i]? = some (some (r, w))) (hc : Xo lg un rd wr = true) : (∀ x ∈ wr, x ∉ r) ∧ (∀ x ∈ wr, x ∉ w) ∧ ∀ x ∈ rd, x ∉ w := by
 simp only [Xo, List.all_eq_true, Zz] at hc
 have := hc i hi
 rw [hl] at this
 simp only [Bool.and_eq_true] at this
 exact ⟨disj_mem this.1.1, disj_mem this.1.2, disj_mem this.2⟩
theorem apart_spec {a b : CO} (hp : apartC a b = true) : (∀ d, a.dst = some d → d ∉ slotsC b ∧ b.dst ≠ some d) ∧ (∀ d, b.dst = some d → d ∉ slotsC a) ∧ (isLoud a.op = true → isLoud b.op = true → False) := by
 unfold apartC at hp
 simp only [Bool.and_eq_true, Bool.not_eq_true'] at hp
 obtain ⟨⟨h1, h2⟩, h3⟩ := hp
 refine ⟨fun d hd => ?_, fun d hd => ?_, fun ha hb => by simp [ha, hb] at h3⟩
 ·rw [hd] at h1
  simpa using h1
 ·rw [hd] at h2
  simpa using h2
theorem same_put {dst : Option Nat} (hd : ∀ d, dst = some d → d ∉ slotsC o) (v : Za) : Same o t (Xy t dst v) := by
 intro s hs
 cases dst with
 | none => rfl
 | some d => exact List.getElem?_set_ne fun (e : d = s) => hd d rfl (by rw [e]; exact hs)
theorem same_put' {dst : Option Nat} (hd : ∀ d, dst = some d → d ∉ slotsC o) (v : Za) : Same o (Xy t dst v) t := fun s hs => (same_put hd v s hs).symm
theorem putT_comm {d e : Option Nat} (hne : ∀ x, d = some x → e ≠ some x) (u v : Za) : Xy (Xy t d u) e v = Xy (Xy t e v) d u := by
 cases d with
 | none => rfl
 | some x =>
  cases e with
  | none => rfl
  | some y => exact List.set_comm _ _ fun h => hne x rfl (by rw [h])
theorem mem_masks {k : Nat} : base + k ∈ YY base n j o ↔ k ∈ o.un ∨ (j ≤ k ∧ k < n) := by
 simp only [YY, holes, List.mem_map, List.mem_append, List.mem_range'_1]
 constructor
 ·rintro ⟨a, h, e⟩
  have : a = k := by omega
  subst this
  rcases h with h | h
  ·exact .inl h
  ·exact .inr ⟨h.1, by omega⟩
 ·rintro (h | h)
  ·exact ⟨k, .inl h, rfl⟩
  ·exact ⟨k, .inr ⟨h.1, by omega⟩, rfl⟩
theorem keep_loud {ms wr : List Nat} {r : Nat} (hlen : h.length ≤ h'.length) (hw : ∀ r, r ∉ wr → h'[r]? = (YZ h ms)[r]?) (hd : r ∉ wr) : (ZX h h' ms)[r]? = h[r]? := by
 have e := hw r hd
 rw [unmaskH_get]
 split
 ·rename_i hm
  have hr : r < h.length := by
   have := List.getElem?_eq_getElem hm.2
   rw [e] at this
   have := (List.getElem?_eq_some_iff.1 this).1
   rwa [maskH_length] at this
  rw [List.getElem?_eq_getElem hr]; rfl
 ·rename_i hm
  rw [e, maskH_get, if_neg]
  rintro ⟨h1, _⟩
  exact hm ⟨h1, by omega⟩
theorem swap (hij : i < j) (hjn : j < n) (hun : i ∈ oj.un) (hnu : j ∉ oi.un) (hap : apartC oi oj = true) (hn : base + n ≤ D.h.length) (hi : D.h[base + i]? = some none) (hj : D.h[base + j]? = some none) (hlg : D.lg[i]? = some none)
  (h1 : YP P T ex base n i oi D = some D1) (h2 : YP P T ex base n j oj D1 = some D2) : ∃ D1', YP P T ex base n j oj D = some D1' ∧ YP P T ex base n i oi D1' = some D2 := by
 obtain ⟨vi, ri, wi, hi1, ai, ci, rfl⟩ := stepD_inv h1
 obtain ⟨vj, rj, wj, hj1, aj, cj, rfl⟩ := stepD_inv h2
 simp only at aj cj
 obtain ⟨p1, p2, p3⟩ := apart_spec hap
 have il : i < D.lg.length := (List.getElem?_eq_some_iff.1 hlg).1
 obtain ⟨q1, q2, q3⟩ := clash_spec hun (by rw [List.getElem?_set_self il]) cj
 have cj' := clash_drop hlg cj
 have sj : Same oj (Xy D.t oi.dst vi) D.t := same_put' (fun d hd => (p1 d hd).1) _
 have si : Same oi D.t (Xy D.t oj.dst vj) := same_put p2 _
 have mi : base + j ∈ YY base n i oi := mem_masks.2 (.inr ⟨Nat.le_of_lt hij, hjn⟩)
 have mj : base + i ∈ YY base n j oj := mem_masks.2 (.inl hun)
 have fin : ∀ hj', XR P T ex base n j oj D.t D.h = some (vj, rj, wj, hj') → XR P T ex base n i oi (Xy D.t oj.dst vj) hj' = some (vi, ri, wi, hj1) →
   ∃ D1', YP P T ex base n j oj D = some D1' ∧ YP P T ex base n i oi D1' = some ⟨Xy (Xy D.t oi.dst vi) oj.dst vj, hj1, (D.lg.set i (some (ri, wi))).set j (some (rj, wj))⟩ := by
  intro hj' e1 e2
  refine ⟨⟨Xy D.t oj.dst vj, hj', D.lg.set j (some (rj, wj))⟩, ?_, ?_⟩
  ·rw [stepD_eq]; simp only [e1, cj', if_true]
  ·rw [stepD_eq]
   simp only [e2, clash_other hnu ci, if_true]
   rw [putT_comm (fun d hd => (p1 d hd).2), List.set_comm _ _ (Nat.ne_of_lt hij)]
 rcases actD_inv ai with ⟨rfl, rfl, al, fi⟩ | ⟨b, rfl, rfl, rfl, fi⟩ | ⟨li, rfl, g, rfl, hlen, hwr, fi⟩
 ·rcases actD_inv aj with ⟨rfl, rfl, al', fj⟩ | ⟨b, rfl, rfl, rfl, fj⟩ | ⟨lj, rfl, g, rfl, hlen, hwr, fj⟩
  ·exact fin _ (fj _ _ sj fun _ _ => rfl) (fi _ _ si fun _ _ => rfl)
  ·refine fin _ (fj _ _ sj) (fi _ _ si fun r hr => List.getElem?_set_ne fun e => ?_)
   obtain ⟨c, hc⟩ := al r hr
   rw [← e, hj] at hc; simp at hc
  ·refine fin _ (fj _ _ sj rfl) (fi _ _ si fun r hr => keep_loud hlen hwr fun hd => q1 r hd hr)
 ·rcases actD_inv aj with ⟨rfl, rfl, al', fj⟩ | ⟨c, rfl, rfl, rfl, fj⟩ | ⟨lj, rfl, g, rfl, hlen, hwr, fj⟩
  ·exact fin _ (fj _ D.h sj fun r hr => (List.getElem?_set_ne fun e => q3 r hr (by simp [e])).symm) (fi _ _ si)
  ·have e := fi _ (D.h.set (base + j) (some c)) si
   rw [List.set_comm _ _ (by omega)] at e
   exact fin _ (fj _ _ sj) e
  ·have e := fi _ (ZX D.h g (YY base n j oj)) si
   rw [← unmask_set (some b) mj (by omega)] at e
   exact fin _ (fj _ _ sj (mask_set _ mj).symm) e
 ·rcases actD_inv aj with ⟨rfl, rfl, al', fj⟩ | ⟨c, rfl, rfl, rfl, fj⟩ | ⟨lj, rfl, g, rfl, hlen, hwr, fj⟩
  ·exact fin _ (fj _ D.h sj fun r hr => (keep_loud hlen hwr (q3 r hr)).symm) (fi _ _ si rfl)
  ·have := fi _ (D.h.set (base + j) (some c)) si (mask_set _ mi)
   rw [unmask_set (some c) mi (by omega)] at this
   exact fin _ (fj _ _ sj) this
  ·exact (p3 li lj).elim
end
end Go.Abs
namespace Go.Abs
open Go
section
variable {P : Program} {G : Nat → Option (List Za)} {T : Nat → Option CFn} {ex : Option Nat → CC → St → Option (AEx × St)} {E E' E'' : Env} {h h' h'' h1 : Zj} {w w' w'' : World} {t t' : List Za} {a : Act} {o : Oper} {co : COp} {v : Za} {base n i j : Nat} {rd wr ms : List Nat}
def Env.less (E : Env) (h : Zj) (ms : List Nat) : Env := { E with O := fun b => E.O b ∧ ∀ k ∈ ms, ∀ c, h[k]? = some (some c) → (E.ρ k).b ≠ b }
theorem less_br {i : Nat} {b : Blk} (hb : E.BR P G w i b) : (E.less h ms).BR P G w i b := by
 cases b <;> exact hb
theorem less_br' {i : Nat} {b : Blk} {O : Nat → Prop} (hb : E.BR P G w i b) : Env.BR P G { E with O := O } w i b := by
 cases b <;> exact hb
theorem hr_less (hr : E.HR P G h w) : (E.less h ms).HR P G (YZ h ms) w := by
 have get : ∀ {i b}, (YZ h ms)[i]? = some (some b) → h[i]? = some (some b) ∧ i ∉ ms := fun {i b} hi => by
  rw [maskH_get] at hi
  split at hi
  ·simp at hi
  ·rename_i hn
   exact ⟨hi, fun hm => hn ⟨hm, (List.getElem?_eq_some_iff.1 hi).1⟩⟩
 refine ⟨fun i b hi => ?_, fun i j b c hi hj he => hr.inj i j b c (get hi).1 (get hj).1 he, fun i hi => by rw [maskH_length]; exact hr.lt i hi, fun b hb => hr.own b hb.1, fun b hb => ⟨(hr.imm b hb).1, fun h1 => (hr.imm b hb).2 h1.1⟩, hr.glob⟩
 obtain ⟨x, hx⟩ := get hi
 obtain ⟨h1, h2, h3, h4⟩ := hr.blk i b x
 exact ⟨h1, ⟨h2, fun k hk c hc he => hx (hr.inj k i c b hc x he ▸ hk)⟩, h3, less_br h4⟩
theorem hr_back (hr : E.HR P G h w) (hl : Le (E.less h ms) w E' w') (hr' : E'.HR P G h' w') : ∃ O'', Le E w { E' with O := O'' } w' ∧ Env.HR P G { E' with O := O'' } (ZX h h' ms) w' := by
 have hr0 := hr_less (ms := ms) hr
 have msk : ∀ k c, k ∈ ms → h[k]? = some (some c) → w'.heap[(E.ρ k).b]? = w.heap[(E.ρ k).b]? ∧ ¬ E'.O (E.ρ k).b ∧ ¬ E'.I (E.ρ k).b ∧ E'.D k ∧ E'.ρ k = E.ρ k := fun k c hk hc => by
  obtain ⟨h1, h2, h3, h4⟩ := hr.blk k c hc
  obtain ⟨x, y, z⟩ := hl.old _ h3 (fun ho => ho.2 k hk c hc rfl)
  exact ⟨x, y, fun hi => (hr.imm _ (z hi)).2 h2, (hl.D k h1).1, (hl.D k h1).2⟩
 have get : ∀ {k c}, (ZX h h' ms)[k]? = some (some c) → (k ∈ ms ∧ h[k]? = some (some c)) ∨ (k ∉ ms ∧ h'[k]? = some (some c)) := fun {k c} hk => by
  rw [unmaskH_get] at hk
  split at hk
  ·rename_i hm
   simp at hk
   refine .inl ⟨hm.1, ?_⟩
   cases hh : h[k]? with
   | none => simp [hh] at hk
   | some x => simp [hh] at hk; rw [hk]
  ·rename_i hn
   exact .inr ⟨fun hm => hn ⟨hm, (List.getElem?_eq_some_iff.1 hk).1⟩, hk⟩
 refine ⟨fun b => E'.O b ∨ ∃ k ∈ ms, ∃ c, h[k]? = some (some c) ∧ (E.ρ k).b = b, ⟨hl.os, hl.tape, hl.output, hl.size, hl.D, hl.I, fun b hb ho => ?_⟩, ⟨fun k c hk => ?_, fun j k b c hj hk he => ?_, fun k hk => by rw [unmaskH_length]; exact hr'.lt k hk, fun b hb => ?_, fun b hb => ⟨(hr'.imm b hb).1, ?_⟩, hr'.glob⟩⟩
 ·obtain ⟨x, y, z⟩ := hl.old b hb (fun h1 => ho h1.1)
  refine ⟨x, ?_, z⟩
  rintro (h1 | ⟨k, hk, c, hc, rfl⟩)
  ·exact y h1
  ·exact ho (hr.blk k c hc).2.1
 ·rcases get hk with ⟨hm, hk⟩ | ⟨hm, hk⟩
  ·obtain ⟨x1, x2, x3, x4, x5⟩ := msk k c hm hk
   obtain ⟨h1, h2, h3, h4⟩ := hr.blk k c hk
   refine ⟨x4, .inr ⟨k, hm, c, hk, ?_⟩, ?_, less_br' (br_mono h4 x5 (x5 ▸ x1) fun _ _ hv => hl.vr hr0 hv)⟩
   ·simp only; rw [x5]
   ·simp only; rw [x5]; exact Nat.lt_of_lt_of_le h3 hl.size
  ·obtain ⟨h1, h2, h3, h4⟩ := hr'.blk k c hk
   exact ⟨h1, .inl h2, h3, less_br' h4⟩
 ·simp only at he
  rcases get hj with ⟨hjm, hj⟩ | ⟨hjm, hj⟩ <;> rcases get hk with ⟨hkm, hk⟩ | ⟨hkm, hk⟩
  ·rw [(msk j b hjm hj).2.2.2.2, (msk k c hkm hk).2.2.2.2] at he
   exact hr.inj j k b c hj hk he
  ·have := (msk j b hjm hj).2
   rw [this.2.2.2] at he
   exact absurd (he ▸ (hr'.blk k c hk).2.1) this.1
  ·have := (msk k c hkm hk).2
   rw [this.2.2.2] at he
   exact absurd (he ▸ (hr'.blk j b hj).2.1) this.1
  ·exact hr'.inj j k b c hj hk he
 ·rcases hb with hb | ⟨k, hk, c, hc, rfl⟩
  ·exact hr'.own b hb
  ·exact Nat.lt_of_lt_of_le (hr.blk k c hc).2.2.1 hl.size
 ·rintro (h1 | ⟨k, hk, c, hc, rfl⟩)
  ·exact (hr'.imm b hb).2 h1
  ·exact (msk k c hk hc).2.2.1 hb
theorem actD_wp (hT : ZB P G T) (hcall : ∀ f args h v h', YH T ex f args h = some (v, h') → Xl P G f args h v h') (hyld : ∀ i args h v h', yieldF ex i args h = some (v, h') → YieldGood P G i args h v h')
  (hr : E.HR P G h w) (ht : E.LR w t a.tmps) {c : CO} {ops : Array Oper} {un : List Nat} (hc : compCO P G ops un o = some c) (hD : ¬ E.D (base + j)) (hj : h[base + j]? = some none) (hs : XR P T ex base n j c t h = some (v, rd, wr, h1)) {ro : Option Nat} {m : Nat} {next : Act → World → Prop} {Q : Exit → Act → World → Prop}
  (hn : ∀ a' w' E', Le E w E' w' → E'.HR P G h1 w' → E'.LR w' (Xy t c.dst v) a'.tmps → a'.defers = a.defers → (∀ k, E'.D k → E.D k ∨ k = base + j ∨ h.length ≤ k) → h.length ≤ h1.length → next a' w') :
  if Region.wanted o (yielded ops a.tmps) then o.wpIn (FW ro) m P a w next Q else (∀ f, o.about P w a.eval = some f → (FW ro).fn f) ∧ next (a.put o.dst undef) w := by
 obtain ⟨hco, hg, hdst, -⟩ := not_yields_defer hc
 rw [hdst] at hn
 unfold XR at hs
 split at hs
 ·simp at hs
 ·rename_i hw
  rw [wanted_eq ht hg hw]
  simp at hs
  obtain ⟨rfl, rfl, rfl, rfl⟩ := hs
  exact ⟨fun _ _ => trivial, hn _ _ E (.refl _ _) hr (lr_put' ht (.und _)) (put_defers _ _ _) (fun _ h => .inl h) (Nat.le_refl _)⟩
 ·rename_i hw
  rw [wanted_eq ht hg hw]
  split at hs
  ·rename_i v rd hd
   simp at hs
   obtain ⟨rfl, rfl, rfl, rfl⟩ := hs
   exact val_wp hr ht hco hd fun u hu => hn _ _ E (.refl _ _) hr (lr_put' ht hu) (put_defers _ _ _) (fun _ h => .inl h) (Nat.le_refl _)
  ·rename_i b f rd hd
   simp at hs
   obtain ⟨rfl, rfl, rfl, rfl⟩ := hs
   have hl := (List.getElem?_eq_some_iff.1 hj).1
   exact makes_wp hr ht (dop_new hr ht hco hd) hco (h1 := h.set (base + j) (some b)) (x := base + j) hD (List.getElem?_set_self hl) (fun k hk => .inl (List.getElem?_set_ne fun e => hk e.symm)) (by simp) fun u w' E' hle hr' ht' hDD => hn _ _ E' hle hr' ht' (put_defers _ _ _) (fun k hk => (hDD k hk).imp id .inl) (by simp)
  ·split at hs
   ·rename_i v' h' hl
    split at hs
    ·rename_i hlen
     simp at hs
     obtain ⟨rfl, rfl, rfl, rfl⟩ := hs
     have ht0 : (E.less h (YY base n j c)).LR w t a.tmps := ht
     refine loud_wp hT hcall hyld (hr_less hr) ht0 hco hl fun u w' E' hle hr' hu hf hlen' => ?_
     obtain ⟨O'', hle', hr''⟩ := hr_back hr hle hr'
     rw [maskH_length] at hf
     refine hn _ _ { E' with O := O'' } hle' hr'' ?_ (put_defers _ _ _) (fun k hk => (hf k hk).imp id .inr) (by rw [unmaskH_length]; exact hlen)
     exact lr_put' (hle'.lr hr ht) hu
    ·simp at hs
   ·simp at hs
end
end Go.Abs
namespace Go.Abs
open Go
noncomputable section
variable (P : Program) (T : Nat → Option CFn) (ex : Option Nat → CC → St → Option (AEx × St))
def runL (base n : Nat) (l : List CO) : List Nat → DSt → Option DSt
 | [], D => some D
 | j :: xs, D => match l[j]? with
  | some c => match YP P T ex base n j c D with
   | some D' => runL base n l xs D'
   | none => none
  | none => none
end
section
variable {P : Program} {G : Nat → Option (List Za)} {T : Nat → Option CFn} {ex : Option Nat → CC → St → Option (AEx × St)} {base n : Nat} {l : List CO} {D D' D1 : DSt}
theorem runL_runD : ∀ (l1 : List CO) (j : Nat) (D : DSt), (∀ k, l1[k]? = l[j + k]?) → runD P T ex base n l1 j D = runL P T ex base n l (List.range' j l1.length) D
 | [], _, _, _ => rfl
 | c :: l1, j, D, hl => by
  have h0 : l[j]? = some c := by have := hl 0; simp at this; exact this.symm
  have h1 := runL_runD l1 (j + 1)
  simp only [List.length_cons, List.range'_succ, runL, h0]
  show (match YP P T ex base n j c D with | some D' => runD P T ex base n l1 (j + 1) D' | none => none) = _
  cases YP P T ex base n j c D with
  | none => rfl
  | some D1 => exact h1 D1 fun k => by have := hl (k + 1); simp at this; rw [this]; congr 1; omega
structure Open (base n : Nat) (D : DSt) (xs : List Nat) : Prop where
 len : base + n ≤ D.h.length
 hole : ∀ k ∈ xs, k < n ∧ D.h[base + k]? = some none ∧ D.lg[k]? = some none
theorem step_keep {j : Nat} {c : CO} (hs : YP P T ex base n j c D = some D1) {xs ys : List Nat} (ho : Open base n D ys) (hx : ∀ k ∈ xs, k ∈ ys ∧ k ≠ j ∧ (k ∈ c.un ∨ j ≤ k)) : Open base n D1 xs := by
 obtain ⟨v, rd, wr, h1, ha, hc, rfl⟩ := stepD_inv hs
 have lg : ∀ k, k ≠ j → D.lg[k]? = some none → (D.lg.set j (some (rd, wr)))[k]? = some none := fun k hk h => by rw [List.getElem?_set_ne fun e => hk e.symm]; exact h
 rcases actD_inv ha with ⟨rfl, -⟩ | ⟨b, rfl, -⟩ | ⟨-, -, g, rfl, hlen, -⟩
 ·exact ⟨ho.len, fun k hk => let ⟨h1, h2, _⟩ := hx k hk; let ⟨a, b, d⟩ := ho.hole k h1; ⟨a, b, lg k h2 d⟩⟩
 ·refine ⟨by simpa using ho.len, fun k hk => ?_⟩
  obtain ⟨h1, h2, _⟩ := hx k hk
  obtain ⟨a, b, d⟩ := ho.hole k h1
  exact ⟨a, by simp only; rw [List.getElem?_set_ne (by omega)]; exact b, lg k h2 d⟩
 ·refine ⟨by simp only [unmaskH_length]; exact Nat.le_trans ho.len hlen, fun k hk => ?_⟩
  obtain ⟨h1, h2, h3⟩ := hx k hk
  obtain ⟨a, b, d⟩ := ho.hole k h1
  refine ⟨a, ?_, lg k h2 d⟩
  have := ho.len
  simp only
  rw [unmaskH_get, if_pos ⟨mem_masks.2 (h3.imp id fun h => ⟨h, a⟩), by omega⟩, b]; rfl
structure Fit (l : List CO) : Prop where
 back : ∀ j c, l[j]? = some c → ∀ i ∈ c.un, i < j ∧ ∃ p, l[i]? = some p ∧ apartC p c = true
theorem fit_of (h : drawOk l = true) : Fit l := by
 refine ⟨fun j c hc i hi => ?_⟩
 simp only [drawOk, List.all_eq_true] at h
 have hm : (c, j) ∈ l.zipIdx := by rw [List.mem_zipIdx_iff_getElem?]; exact hc
 have := h (c, j) hm
 simp only [List.all_eq_true, Bool.and_eq_true, decide_eq_true_eq] at this
 obtain ⟨h1, h2⟩ := this i hi
 refine ⟨h1, ?_⟩
 split at h2
 ·rename_i p hp; exact ⟨p, hp, h2⟩
 ·simp at h2
theorem front (hf : Fit l) {i : Nat} {c : CO} (hc : l[i]? = some c) (post : List Nat) : ∀ (pre : List Nat) (D : DSt), (pre ++ i :: post).Pairwise (· < ·) → (∀ k ∈ pre, k ∈ c.un) → Open base n D (pre ++ i :: post) →
    runL P T ex base n l (pre ++ i :: post) D = some D' → ∃ D1, YP P T ex base n i c D = some D1 ∧ runL P T ex base n l (pre ++ post) D1 = some D'
  | [], D, _, _, _, hr => by
    simp only [List.nil_append, runL, hc] at hr
    split at hr
    · rename_i D1 h1; exact ⟨D1, h1, hr⟩
    · simp at hr
  | p :: pre, D, hp, hu, ho, hr => by
    simp only [List.cons_append, runL] at hr
    split at hr
    · rename_i cp hcp
      split at hr
      · rename_i Dp hDp
        rw [List.cons_append, List.pairwise_cons] at hp
        have hpi : p < i := hp.1 i (by simp)
        have ho' : Open base n Dp (pre ++ i :: post) := step_keep hDp ho fun k hk => ⟨List.mem_cons_of_mem _ hk, by have := hp.1 k hk; omega, .inr (by have := hp.1 k hk; omega)⟩
        obtain ⟨Di, h1, h2⟩ := front hf hc post pre Dp hp.2 (fun k hk => hu k (List.mem_cons_of_mem _ hk)) ho' hr
        have hup := hu p (by simp)
        obtain ⟨hlt, q, hq, hap⟩ := hf.back i c hc p hup
        rw [hcp] at hq
        simp at hq; subst hq
        obtain ⟨g1, g2, g3⟩ := ho.hole p (by simp)
        obtain ⟨f1, f2, f3⟩ := ho.hole i (by simp)
        obtain ⟨D1, e1, e2⟩ := swap hpi f1 hup (fun hm => by have := (hf.back p cp hcp i hm).1; omega) hap ho.len g2 f2 g3 hDp h1
        refine ⟨D1, e1, ?_⟩
        simp only [List.cons_append, runL, hcp, e2, h2]
      · simp at hr
    · simp at hr
structure Edges (ops : Array Oper) (l : List CO) : Prop where
 back : ∀ j o, ops[j]? = some o → ∀ e ∈ o.after, Region.binds .any e = true → e.on < j
 all : ∀ j o c k, ops[j]? = some o → l[j]? = some c → k < j → k ∉ c.un → ∃ e ∈ o.after, Region.binds .any e = true ∧ (e.on = k ∨ (k < e.on ∧ ∃ c', l[e.on]? = some c' ∧ k ∉ c'.un))
theorem edges_of {ops : Array Oper} (h : edgesOk ops l = true) : Edges ops l := by
 simp only [edgesOk, List.all_eq_true, Bool.and_eq_true] at h
 have mem : ∀ {j o}, ops[j]? = some o → (o, j) ∈ ops.toList.zipIdx := fun {j o} ho => by rw [List.mem_zipIdx_iff_getElem?]; simpa using ho
 refine ⟨fun j o ho e he hb => ?_, fun j o c k ho hc hk hu => ?_⟩
 ·have := (h (o, j) (mem ho)).1
  rw [Array.all_eq_true_iff_forall_mem] at this
  have := this e he
  simpa [hb] using this
 ·have := (h (o, j) (mem ho)).2 k (by simpa using hk)
  simp only [hc, Bool.or_eq_true, Array.any_eq_true', Bool.and_eq_true, decide_eq_true_eq] at this
  rcases this with h1 | ⟨e, he, hb, h1⟩
  ·exact absurd (by simpa using h1) hu
  ·refine ⟨e, he, hb, h1.imp id fun ⟨h2, h3⟩ => ⟨h2, ?_⟩⟩
   split at h3
   ·rename_i c' hc'; exact ⟨c', hc', by simpa using h3⟩
   ·simp at h3
theorem drw_spec {ops : Array Oper} {b : Array Nat} : ∀ (os : List Oper) (j : Nat) (l : List CO), compDrw P G ops b j os = some l → l.length = os.length ∧ ∀ (k : Nat) (o : Oper), os[k]? = some o → ∃ (c : CO) (un : List Nat), l[k]? = some c ∧ compCO P G ops un o = some c
 | [], _, l, h => by simp [compDrw] at h; subst h; simp
 | o :: os, j, l, h => by
  simp only [compDrw] at h
  split at h
  ·rename_i c l' hc hl'
   simp at h; subst h
   obtain ⟨h1, h2⟩ := drw_spec os (j + 1) l' hl'
   refine ⟨by simp [h1], fun k o' hk => ?_⟩
   cases k with
   | zero => simp at hk; subst hk; exact ⟨c, _, by simp, hc⟩
   | succ k => simp at hk; obtain ⟨c', un, h3, h4⟩ := h2 k o' hk; exact ⟨c', un, by simpa using h3, h4⟩
  ·simp at h
variable {E E' E'' : Env} {h h' : Zj} {w w' : World} {t t' : List Za} {a : Act}
theorem listed_before {ops : Array Oper} (he : Edges ops l) (S : Nat → Prop) (hS : ∀ j o, S j → ops[j]? = some o → ∀ e ∈ o.after, Region.binds .any e = true → S e.on) :
  ∀ (m j : Nat), j < m → S j → j < ops.size → ∀ c k, l[j]? = some c → k < j → k ∉ c.un → S k := by
 intro m
 induction m with
 | zero => intro j hj; omega
 | succ m ih =>
  intro j hj hSj hjn c k hc hk hu
  have ho : ops[j]? = some ops[j] := Array.getElem?_eq_getElem hjn
  obtain ⟨e, he1, he2, he3⟩ := he.all j _ c k ho hc hk hu
  have hse := hS j _ hSj ho e he1 he2
  have hlt := he.back j _ ho e he1 he2
  rcases he3 with rfl | ⟨h1, c', hc', hu'⟩
  ·exact hse
  ·exact ih e.on (by omega) hse (by omega) c' k hc' h1 hu'
theorem mem_ready {ops : Array Oper} {listed : Array Bool} {i : Nat} : i ∈ Region.ready .any ops listed ↔ i < ops.size ∧ listed.getD i true = false ∧ ∃ o, ops[i]? = some o ∧ ∀ e ∈ o.after, Region.binds .any e = true → listed.getD e.on false = true := by
 simp only [Region.ready, List.mem_filter, List.mem_range, Bool.and_eq_true, Bool.not_eq_true']
 refine ⟨fun ⟨h1, h2, h3⟩ => ⟨h1, h2, ops[i], Array.getElem?_eq_getElem h1, ?_⟩, fun ⟨h1, h2, o, ho, h3⟩ => ⟨h1, h2, ?_⟩⟩
 ·rw [Array.getElem?_eq_getElem h1] at h3
  simp only [Option.map_some, Option.getD_some, Array.all_eq_true_iff_forall_mem, Bool.or_eq_true, Bool.not_eq_true'] at h3
  intro e he hb
  rcases h3 e he with h | h
  ·rw [hb] at h; simp at h
  ·exact h
 ·rw [ho]
  simp only [Option.map_some, Option.getD_some, Array.all_eq_true_iff_forall_mem, Bool.or_eq_true, Bool.not_eq_true']
  intro e he
  cases hb : Region.binds .any e with
  | false => exact .inl rfl
  | true => exact .inr (h3 e he hb)
theorem drw_any (hT : ZB P G T) (hcall : ∀ f args h v h', YH T ex f args h = some (v, h') → Xl P G f args h v h') (hyld : ∀ i args h v h', yieldF ex i args h = some (v, h') → YieldGood P G i args h v h')
    {ops : Array Oper} (hn : n = ops.size) (hll : l.length = ops.size) (hf : Fit l) (he : Edges ops l) (hco : ∀ (k : Nat) (o : Oper), ops[k]? = some o → ∃ (c : CO) (un : List Nat), l[k]? = some c ∧ compCO P G ops un o = some c) {ro : Option Nat} {nn : Nat} {Q : Exit → Act → World → Prop} :
    ∀ (m : Nat) (listed : Array Bool) (xs : List Nat) (E : Env) (w : World) (a : Act) (D : DSt), xs.length = m → listed.size = n → xs.Pairwise (· < ·) → (∀ k, k ∈ xs ↔ k < n ∧ listed.getD k true = false) →
      (∀ j o, listed.getD j false = true → ops[j]? = some o → ∀ e ∈ o.after, Region.binds .any e = true → listed.getD e.on false = true) →
      E.HR P G D.h w → E.LR w D.t a.tmps → Open base n D xs → (∀ k ∈ xs, ¬ E.D (base + k)) → runL P T ex base n l xs D = some D' →
      (∀ a' w' E', Le E w E' w' → E'.HR P G D'.h w' → E'.LR w' D'.t a'.tmps → a'.defers = a.defers → (∀ k, E'.D k → E.D k ∨ base ≤ k) → D.h.length ≤ D'.h.length → Q .normal a' w') →
      wpAnyIn (FW ro) nn P .any ops Q m listed a w := by
  intro m
  induction m with
  | zero =>
    intro listed xs E w a D hm hsz hp hx hcl hr ht ho hD hrun hq
    have hxs : xs = [] := List.length_eq_zero_iff.1 hm
    subst hxs
    simp [runL] at hrun; subst hrun
    refine ⟨?_, hq a w E (.refl _ _) hr ht rfl (fun _ h => .inl h) (Nat.le_refl _)⟩
    rw [List.eq_nil_iff_forall_not_mem]
    intro i hi
    obtain ⟨h1, h2, _⟩ := mem_ready.1 hi
    exact absurd ((hx i).2 ⟨hn ▸ h1, h2⟩) (by simp)
  | succ m ih =>
    intro listed xs E w a D hm hsz hp hx hcl hr ht ho hD hrun hq
    have out : ∀ k, k < n → k ∉ xs → listed.getD k false = true := fun k hk hn' => by
      have : ¬ listed.getD k true = false := fun h => hn' ((hx k).2 ⟨hk, h⟩)
      have hk' : k < listed.size := hsz ▸ hk
      simpa [Array.getD, hk'] using this
    have inn : ∀ k, listed.getD k false = true → k < n ∧ k ∉ xs := fun k hk => by
      have hk' : k < listed.size := by
        by_cases h : k < listed.size
        · exact h
        · simp [Array.getD, h] at hk
      refine ⟨hsz ▸ hk', fun h => ?_⟩
      have := ((hx k).1 h).2
      simp [Array.getD, hk'] at this hk
      simp [this] at hk
    refine ⟨fun hnil => ?_, fun i hi => ?_⟩
    · exfalso
      cases xs with
      | nil => simp at hm
      | cons p xs =>
        have hpn := ((hx p).1 (by simp)).1
        have hps : p < ops.size := hn ▸ hpn
        have : p ∈ Region.ready .any ops listed := mem_ready.2 ⟨hps, ((hx p).1 (by simp)).2, ops[p], Array.getElem?_eq_getElem hps, fun e he1 hb => by
          have hlt := he.back p _ (Array.getElem?_eq_getElem hps) e he1 hb
          refine out e.on (by omega) fun h => ?_
          rw [List.pairwise_cons] at hp
          rcases List.mem_cons.1 h with h | h
          · omega
          · have := hp.1 _ h; omega⟩
        rw [hnil] at this; simp at this
    · obtain ⟨hi1, hi2, o, hio, hed⟩ := mem_ready.1 hi
      have hix : i ∈ xs := (hx i).2 ⟨hn ▸ hi1, hi2⟩
      obtain ⟨c, un, hc, hcc⟩ := hco i o hio
      obtain ⟨pre, post, rfl⟩ := List.append_of_mem hix
      have hpre : ∀ k ∈ pre, k < i := fun k hk => (List.pairwise_append.1 hp).2.2 k hk i (by simp)
      have hun : ∀ k ∈ pre, k ∈ c.un := fun k hk => by
        by_cases hu : k ∈ c.un
        · exact hu
        · exfalso
          have hkx : k ∈ pre ++ i :: post := List.mem_append_left _ hk
          obtain ⟨e, he1, hb, he3⟩ := he.all i o c k hio hc (hpre k hk) hu
          have hl := hed e he1 hb
          rcases he3 with rfl | ⟨h1, c', hc', hu'⟩
          · exact (inn _ hl).2 hkx
          · have := listed_before he (fun j => listed.getD j false = true) hcl (e.on + 1) e.on (by omega) hl (hn ▸ (inn _ hl).1) c' k hc' h1 hu'
            exact (inn _ this).2 hkx
      obtain ⟨D1, h1, h2⟩ := front hf hc post pre D hp hun ho hrun
      obtain ⟨v, rd, wr, hh, ha, hcl', rfl⟩ := stepD_inv h1
      unfold wpOpIn
      simp only [hio]
      refine actD_wp hT hcall hyld hr ht hcc (hD i hix) (ho.hole i hix).2.1 ha fun a' w' E' hle hr' ht' hd hDD hlen => ?_
      have hsub : ∀ k, k ∈ pre ++ post ↔ k ∈ pre ++ i :: post ∧ k ≠ i := fun k => by
        have hpi := List.pairwise_append.1 hp
        have hpost := (List.pairwise_cons.1 hpi.2.1).1
        constructor
        · intro hk
          rcases List.mem_append.1 hk with h | h
          · exact ⟨List.mem_append_left _ h, Nat.ne_of_lt (hpre k h)⟩
          · exact ⟨List.mem_append_right _ (List.mem_cons_of_mem _ h), fun e => by have := hpost k h; omega⟩
        · rintro ⟨hk, hne⟩
          rcases List.mem_append.1 hk with h | h
          · exact List.mem_append_left _ h
          · rcases List.mem_cons.1 h with h | h
            · exact absurd h hne
            · exact List.mem_append_right _ h
      have getS : ∀ (k : Nat) (d : Bool), (listed.setIfInBounds i true).getD k d = if k = i then true else listed.getD k d := fun k d => by
        have hi' : i < listed.size := by rw [hsz, hn]; exact hi1
        rw [Array.getD_eq_getD_getElem?, Array.getD_eq_getD_getElem?, Array.getElem?_setIfInBounds]
        by_cases e : i = k
        · subst e; simp [hi']
        · rw [if_neg e, if_neg fun h => e h.symm]
      refine ih (listed.setIfInBounds i true) (pre ++ post) E' w' a' _ (by simp at hm ⊢; omega) (by simpa using hsz) ?_ (fun k => ?_) (fun j oj hj hoj e he1 hb => ?_) hr' ht' (step_keep h1 ho fun k hk => ?_) (fun k hk hdk => ?_) h2 fun a2 w2 E2 hle2 hr2 ht2 hd2 hD2 hlen2 =>
        hq a2 w2 E2 (hle.trans hle2) hr2 ht2 (hd2.trans hd) (fun k hk => (hD2 k hk).elim (fun h => (hDD k h).imp id fun h => h.elim (fun h => by omega) fun h => by have := ho.len; omega) .inr) (Nat.le_trans hlen hlen2)
      · exact hp.sublist (List.append_sublist_append_left pre |>.2 (List.sublist_cons_self i post))
      · rw [hsub, hx, getS]
        by_cases e : k = i <;> simp [e]
      · rw [getS] at hj ⊢
        by_cases e1 : e.on = i
        · simp [e1]
        · rw [if_neg e1]
          by_cases e2 : j = i
          · subst e2
            rw [hio] at hoj
            simp at hoj; subst hoj
            exact hed e he1 hb
          · rw [if_neg e2] at hj
            exact hcl j oj hj hoj e he1 hb
      · obtain ⟨h3, h4⟩ := (hsub k).1 hk
        refine ⟨h3, h4, ?_⟩
        rcases List.mem_append.1 hk with h | h
        · exact .inl (hun k h)
        · have := (List.pairwise_cons.1 (List.pairwise_append.1 hp).2.1).1 k h
          exact .inr (Nat.le_of_lt this)
      · obtain ⟨h3, h4⟩ := (hsub k).1 hk
        rcases hDD _ hdk with h | h | h
        · exact hD k h3 h
        · omega
        · have := (ho.hole k h3).1
          have := ho.len
          omega
theorem pend_len : ∀ (k n : Nat), (List.replicate n (none : Option Blk))[k]? = if k < n then some none else none := by
 intro k n
 rw [List.getElem?_replicate]
theorem drw_wp (hm : P.follows .mixedOrders = true) (hT : ZB P G T) (hcall : ∀ f args h v h', YH T ex f args h = some (v, h') → Xl P G f args h v h') (hyld : ∀ i args h v h', yieldF ex i args h = some (v, h') → YieldGood P G i args h v h')
  {id : Nat} {ops : Array Oper} {l : List CO} (hl : compDrw P G ops (Region.before ops) 0 ops.toList = some l) (hok : drawOk l = true) (hedg : edgesOk ops l = true) (hr : E.HR P G h w) (ht : E.LR w t a.tmps)
  (hs : runD P T ex h.length l.length l 0 ⟨t, h ++ List.replicate l.length none, List.replicate l.length none⟩ = some D') {ro : Option Nat} {nn : Nat} {Q : Exit → Act → World → Prop}
  (hn : ∀ a' w' E', Nx P G E h w E' D'.h w' → E'.LR w' D'.t a'.tmps → a'.defers = a.defers → Q .normal a' w') : (Code.region id ops true).wpIn (FW ro) nn P Q a w := by
 obtain ⟨hlen, hco⟩ := drw_spec ops.toList 0 l hl
 have hll : l.length = ops.size := by simpa using hlen
 refine wpIn_region_any hm ?_
 rw [runL_runD (l := l) l 0 _ (fun k => by simp)] at hs
 have hr1 : E.HR P G (h ++ List.replicate l.length none) w.drew := by
  have hr' := hr_drew hr
  have get : ∀ {i b}, (h ++ List.replicate l.length none)[i]? = some (some b) → h[i]? = some (some b) := fun {i b} hi => by
   by_cases hi' : i < h.length
   ·rwa [List.getElem?_append_left hi'] at hi
   ·rw [List.getElem?_append_right (by omega), pend_len] at hi
    split at hi <;> simp at hi
  exact ⟨fun i b hi => hr'.blk i b (get hi), fun i j b c hi hj => hr'.inj i j b c (get hi) (get hj), fun i hi => by have := hr'.lt i hi; simp; omega, hr'.own, hr'.imm, hr'.glob⟩
 refine drw_any (base := h.length) (n := l.length) (D' := D') hT hcall hyld hll hll (fit_of hok) (edges_of hedg) (fun k o ho => hco k o (by simpa using ho)) ops.size (Array.replicate ops.size false) (List.range' 0 l.length) E w.drew a
  ⟨t, h ++ List.replicate l.length none, List.replicate l.length none⟩ (by simp [hll]) (by simp [hll]) (List.pairwise_lt_range' (s := 0) (n := l.length)) (fun k => ?_) (fun j o hj => ?_) hr1 (le_drew E w |>.lr hr ht) ⟨by simp, fun k hk => ?_⟩ (fun k hk hd => ?_) hs
  fun a' w' E' hle hr2 ht2 hd2 hD2 hlen2 => hn a' w' E' ⟨(le_drew E w).trans hle, hr2, hD2, by simp at hlen2; omega⟩ ht2 hd2
 ·simp only [List.mem_range'_1, Array.getD_eq_getD_getElem?, Array.getElem?_replicate, ← hll]
  constructor
  ·intro hk; refine ⟨by omega, ?_⟩; rw [if_pos (by omega)]; rfl
  ·intro hk; exact ⟨by omega, by omega⟩
 ·simp only [Array.getD_eq_getD_getElem?, Array.getElem?_replicate] at hj
  split at hj <;> simp at hj
 ·simp only [List.mem_range'_1] at hk
  have hk' : k < l.length := by omega
  refine ⟨hk', ?_, ?_⟩
  ·simp only; rw [List.getElem?_append_right (by omega), pend_len, if_pos (by omega)]
  ·simp only; rw [List.getElem?_replicate, if_pos hk']
 ·have := hr.lt _ hd; omega
end
end Go.Abs
namespace Go.Abs
open Go
def mkd (b : Nat) : Deferred := { target := .collected b, args := #[] }
def Mk (n : Nat) (E : Env) (w : World) (d d' : List Deferred) : Prop :=
 ∃ bs : List Nat, d' = bs.map mkd ++ d ∧ bs.Nodup ∧ ∀ b ∈ bs, n ≤ b ∧ b < w.heap.size ∧ w.heap[b]? = some (.deferred (some [])) ∧ ¬ E.O b ∧ ¬ E.I b
theorem Mk.refl (n : Nat) (E : Env) (w : World) (d : List Deferred) : Mk n E w d d := ⟨[], rfl, by simp, by simp⟩
theorem Mk.le {n : Nat} {E E' : Env} {w w' : World} {d d' : List Deferred} (h : Mk n E w d d') (hl : Le E w E' w') : Mk n E' w' d d' := by
 obtain ⟨bs, h1, h2, h3⟩ := h
 refine ⟨bs, h1, h2, fun b hb => ?_⟩
 obtain ⟨a1, a2, a3, a4, a5⟩ := h3 b hb
 obtain ⟨x, y, z⟩ := hl.old b a2 a4
 exact ⟨a1, Nat.lt_of_lt_of_le a2 hl.size, x ▸ a3, y, fun hi => a5 (z hi)⟩
theorem Mk.trans {n : Nat} {E E' : Env} {w w' : World} {d d1 d2 : List Deferred} (h : Mk n E w d d1) (hl : Le E w E' w') (h' : Mk w.heap.size E' w' d1 d2) (hn : n ≤ w.heap.size) : Mk n E' w' d d2 := by
 have hs : ∃ bs : List Nat, d1 = bs.map mkd ++ d ∧ bs.Nodup ∧ ∀ b ∈ bs, n ≤ b ∧ b < w.heap.size := by
  obtain ⟨bs, h1, h2, h3⟩ := h
  exact ⟨bs, h1, h2, fun b hb => ⟨(h3 b hb).1, (h3 b hb).2.1⟩⟩
 obtain ⟨bs, h1, h2, h3⟩ := h
 obtain ⟨cs, e1, e2, e3⟩ := h'
 refine ⟨cs ++ bs, by rw [e1, h1]; simp, ?_, fun b hb => ?_⟩
 ·rw [List.nodup_append]
  refine ⟨e2, h2, fun x hx y hy e => ?_⟩
  have := (e3 x hx).1
  have := (h3 y hy).2.1
  omega
 ·rcases List.mem_append.1 hb with hb | hb
  ·obtain ⟨a1, a2⟩ := e3 b hb
   exact ⟨by omega, a2⟩
  ·obtain ⟨a1, a2, a3, a4, a5⟩ := h3 b hb
   obtain ⟨x, y, z⟩ := hl.old b a2 a4
   exact ⟨a1, Nat.lt_of_lt_of_le a2 hl.size, x ▸ a3, y, fun hi => a5 (z hi)⟩
section
variable {P : Program} {G : Nat → Option (List Za)} {T : Nat → Option CFn} {E E' E'' : Env} {h h' h'' : Zj} {w w' w'' : World} {t t' : List Za} {a a' a'' : Act} {d d' : List Deferred}
structure Run (P : Program) (G : Nat → Option (List Za)) (E : Env) (h : Zj) (w : World) (d : List Deferred) (E' : Env) (h' : Zj) (w' : World) (t' : List Za) (a' : Act) : Prop where
 nx : Nx P G E h w E' h' w'
 lr : E'.LR w' t' a'.tmps
 mks : Mk w.heap.size E' w' d a'.defers
theorem Run.refl (hr : E.HR P G h w) (ht : E.LR w t a.tmps) : Run P G E h w a.defers E h w t a := ⟨.refl hr, ht, .refl _ _ _ _⟩
theorem Run.trans (x : Run P G E h w d E' h' w' t' a') (y : Run P G E' h' w' a'.defers E'' h'' w'' t a'') : Run P G E h w d E'' h'' w'' t a'' :=
 ⟨x.nx.trans y.nx, y.lr, x.mks.trans y.nx.le y.mks x.nx.le.size⟩
def exOf : AEx → Exit
 | .normal => .normal
 | .exit id => .exit id
 | .ret => .ret
def Post (P : Program) (G : Nat → Option (List Za)) (E : Env) (h : Zj) (w : World) (d : List Deferred) (e : AEx) (σ' : St) : Exit → Act → World → Prop :=
 fun x a' w' => x = exOf e ∧ ∃ E', Run P G E h w d E' σ'.h w' σ'.t a'
theorem lr_trim {n : Nat} {xs : List Za} {cs : Array Value} (hl : E.LR w xs cs) (hx : xs.all (rb n 5) = true) : Env.LR { E with D := fun i => E.D i ∧ i < n } w xs cs :=
 ⟨hl.1, fun j h1 h2 => VR.trim 5 (hl.2 j h1 h2) ((List.all_eq_true.1 hx) _ (List.getElem_mem h1))⟩
theorem br_trim {n i : Nat} {b : Blk} (hb : E.BR P G w i b) (hx : rbB n (some b) = true) : Env.BR P G { E with D := fun i => E.D i ∧ i < n } w i b := by
 cases b with
 | row e rs =>
  obtain ⟨h1, h2, h3, c, el, h4, h5, h6⟩ := hb
  refine ⟨h1, h2, h3, c, el, h4, h5, fun k r hk j x hj => ?_⟩
  obtain ⟨v, g1, g2⟩ := h6 k r hk j x hj
  simp only [rbB, List.all_eq_true] at hx
  exact ⟨v, g1, VR.trim 5 g2 (hx r (List.mem_of_getElem? hk) x (List.mem_of_getElem? hj))⟩
 | map es c =>
  obtain ⟨ces, h1, h2, h3⟩ := hb
  refine ⟨ces, h1, h2, fun j k v b hj => ?_⟩
  obtain ⟨ce, g1, g2, g3, g4⟩ := h3 j k v b hj
  simp only [rbB, List.all_eq_true, Bool.and_eq_true] at hx
  have := hx _ (List.mem_of_getElem? hj)
  exact ⟨ce, g1, VR.trim 5 g2 this.1, VR.trim 5 g3 this.2, g4⟩
 | loop t ps asg bd st pd =>
  obtain ⟨L, h1, h2, h3⟩ := hb
  exact ⟨L, h1, lr_trim h2 hx, h3⟩
theorem trim_ok (hr : E.HR P G h w) (hx : Nx P G E h w E' h' w') {vs : List Za} {cs : Array Value} (hv : E'.LR w' vs cs) :
  ∃ E'', Nx P G E h w E'' (trim h.length vs h') w' ∧ E''.LR w' vs cs ∧ E''.O = E'.O ∧ E''.I = E'.I ∧ E''.ρ = E'.ρ := by
 unfold trim
 split
 ·rename_i hc
  simp only [Bool.and_eq_true] at hc
  have get : ∀ {i b}, (List.take h.length h')[i]? = some (some b) → i < h.length ∧ h'[i]? = some (some b) := fun {i b} hi => by
   have h1 := (List.getElem?_eq_some_iff.1 hi).1
   simp at h1
   have h1' : i < h.length := by omega
   exact ⟨h1', by rwa [List.getElem?_take_of_lt h1'] at hi⟩
  have hl := hx.le
  refine ⟨{ E' with D := fun i => E'.D i ∧ i < h.length }, ⟨⟨hl.os, hl.tape, hl.output, hl.size, fun i hi => ⟨⟨(hl.D i hi).1, hr.lt i hi⟩, (hl.D i hi).2⟩, hl.I, hl.old⟩, ?_, fun j hj => ?_, ?_⟩, lr_trim hv hc.1, rfl, rfl, rfl⟩
  ·refine ⟨fun i b hi => ?_, fun i j b c hi hj he => hx.hr.inj i j b c (get hi).2 (get hj).2 he, fun i hi => ?_, hx.hr.own, hx.hr.imm, fun g r hg => ?_⟩
   ·obtain ⟨h1, h2⟩ := get hi
    obtain ⟨g1, g2, g3, g4⟩ := hx.hr.blk i b h2
    have hm : some b ∈ List.take h.length h' := List.mem_of_getElem? hi
    exact ⟨⟨g1, h1⟩, g2, g3, br_trim g4 (List.all_eq_true.1 hc.2 _ hm)⟩
   ·have := hx.hr.lt i hi.1
    have := hi.2
    simp; omega
   ·have := hx.hr.glob g r hg
    generalize hp : Value.pointer (some ⟨g, 0, none⟩) = pv at this ⊢
    cases this with
    | pv _ _ _ b off cv hb hc h => exact .pv _ _ _ b off cv hb hc h
  ·exact (hx.fr j hj.1)
  ·have := hx.len; simp; omega
 ·exact ⟨E', hx, hv, rfl, rfl, rfl⟩
theorem kill_lr : ∀ (t : List Za) (m : Nat) (cs : Array Value), E.LR w t cs → E.LR w (Xj t m) cs := by
 have len : ∀ (t : List Za) (m : Nat), (Xj t m).length = t.length := by
  intro t; induction t with
  | nil => intro m; rfl
  | cons x xs ih => intro m; simp [Xj, ih]
 have get : ∀ (t : List Za) (m j : Nat) (x : Za), (Xj t m)[j]? = some x → x = .any ∨ t[j]? = some x := by
  intro t; induction t with
  | nil => intro m j x h; simp [Xj] at h
  | cons y ys ih =>
   intro m j x h
   cases j with
   | zero => simp only [Xj, List.getElem?_cons_zero, Option.some.injEq] at h; split at h <;> simp [← h]
   | succ j => simp only [Xj, List.getElem?_cons_succ] at h ⊢; exact ih _ j x h
 intro t m cs hl
 rw [lr_iff] at *
 refine ⟨by rw [len]; exact hl.1, fun j x u h1 h2 => ?_⟩
 rcases get t m j x h1 with rfl | h
 ·exact .any _ _
 ·exact hl.2 j x u h h2
section
variable {code : Code} {x y : CC} {c : CV} {l : List CO} {id : Nat}
theorem co_skip (h : ZW P G code = some .skip) : code = .skip := by
 cases code with
 | region id ops b => cases b <;> simp only [ZW] at h <;> (repeat' split at h) <;> simp at h
 | skip => rfl
 | _ => simp only [ZW] at h <;> (repeat' split at h) <;> simp at h
theorem co_ret (h : ZW P G code = some .ret) : code = .ret := by
 cases code with
 | region id ops b => cases b <;> simp only [ZW] at h <;> (repeat' split at h) <;> simp at h
 | ret => rfl
 | _ => simp only [ZW] at h <;> (repeat' split at h) <;> simp at h
theorem co_exit (h : ZW P G code = some (.exit id)) : code = .exit id := by
 cases code with
 | region id ops b => cases b <;> simp only [ZW] at h <;> (repeat' split at h) <;> simp at h
 | exit i => simp only [ZW] at h; simp at h; subst h; rfl
 | _ => simp only [ZW] at h <;> (repeat' split at h) <;> simp at h
theorem co_reg (h : ZW P G code = some (.reg l)) : ∃ id ops, code = .region id ops false ∧ compOps P G ops ops.toList = some l := by
 cases code with
 | region id ops b =>
  cases b with
  | false =>
   refine ⟨id, ops, rfl, ?_⟩
   simp only [ZW] at h
   split at h
   ·rename_i l' hl; simp at h; subst h; exact hl
   ·simp at h
  | true => simp only [ZW] at h; (repeat' split at h) <;> simp at h
 | _ => simp only [ZW] at h <;> (repeat' split at h) <;> simp at h
theorem co_drw (h : ZW P G code = some (.drw l)) : ∃ id ops, code = .region id ops true ∧ compDrw P G ops (Region.before ops) 0 ops.toList = some l ∧ drawOk l = true ∧ edgesOk ops l = true := by
 cases code with
 | region id ops b =>
  cases b with
  | true =>
   refine ⟨id, ops, rfl, ?_⟩
   simp only [ZW] at h
   split at h
   ·rename_i l' hl
    split at h
    ·rename_i hc; simp at h; subst h
     simp only [Bool.and_eq_true] at hc
     exact ⟨hl, hc.1, hc.2⟩
    ·simp at h
   ·simp at h
  | false => simp only [ZW] at h; (repeat' split at h) <;> simp at h
 | _ => simp only [ZW] at h <;> (repeat' split at h) <;> simp at h
theorem co_seq (h : ZW P G code = some (.seq x y)) : ∃ p q, code = .seq p q ∧ ZW P G p = some x ∧ ZW P G q = some y := by
 cases code with
 | seq p q =>
  simp only [ZW] at h
  split at h
  ·rename_i h1 h2; simp at h; obtain ⟨rfl, rfl⟩ := h; exact ⟨p, q, rfl, h1, h2⟩
  ·simp at h
 | region id ops b => cases b <;> simp only [ZW] at h <;> (repeat' split at h) <;> simp at h
 | _ => simp only [ZW] at h <;> (repeat' split at h) <;> simp at h
theorem co_cond (h : ZW P G code = some (.cond c x y)) : ∃ o p q, code = .cond o p q ∧ ZZ G o = some c ∧ ZW P G p = some x ∧ ZW P G q = some y := by
 cases code with
 | cond o p q =>
  simp only [ZW] at h
  split at h
  ·rename_i h0 h1 h2; simp at h; obtain ⟨rfl, rfl, rfl⟩ := h; exact ⟨o, p, q, rfl, h0, h1, h2⟩
  ·simp at h
 | region id ops b => cases b <;> simp only [ZW] at h <;> (repeat' split at h) <;> simp at h
 | _ => simp only [ZW] at h <;> (repeat' split at h) <;> simp at h
theorem co_block (h : ZW P G code = some (.block id x)) : ∃ p, code = .block id p ∧ ZW P G p = some x := by
 cases code with
 | block id' p =>
  simp only [ZW] at h
  split at h
  ·rename_i h1; simp at h; obtain ⟨rfl, rfl⟩ := h; exact ⟨p, rfl, h1⟩
  ·simp at h
 | region id ops b => cases b <;> simp only [ZW] at h <;> (repeat' split at h) <;> simp at h
 | _ => simp only [ZW] at h <;> (repeat' split at h) <;> simp at h
theorem co_loop {n : Nat} (h : ZW P G code = some (.loop n x)) : ∃ p, code = .loop p ∧ ZW P G p = some x := by
 cases code with
 | loop p =>
  simp only [ZW] at h
  split at h
  ·rename_i h1; simp at h; obtain ⟨_, rfl⟩ := h; exact ⟨p, rfl, h1⟩
  ·simp at h
 | region id ops b => cases b <;> simp only [ZW] at h <;> (repeat' split at h) <;> simp at h
 | _ => simp only [ZW] at h <;> (repeat' split at h) <;> simp at h
theorem co_rf {ps : List Nat} (h : ZW P G code = some (.rf c ps x y)) : ∃ o qs p q, code = .rangeFunc o qs p q ∧ qs.toList = ps ∧ ZZ G o = some c ∧ ZW P G p = some x ∧ ZW P G q = some y := by
 cases code with
 | rangeFunc o qs p q =>
  simp only [ZW] at h
  split at h
  ·rename_i h0 h1 h2; simp at h; obtain ⟨rfl, rfl, rfl, rfl⟩ := h; exact ⟨o, qs, p, q, rfl, rfl, h0, h1, h2⟩
  ·simp at h
 | region id ops b => cases b <;> simp only [ZW] at h <;> (repeat' split at h) <;> simp at h
 | _ => simp only [ZW] at h <;> (repeat' split at h) <;> simp at h
end
end
end Go.Abs
namespace Go.Abs
open Go
section
variable {P : Program} {G : Nat → Option (List Za)} {E E' : Env} {h h' : Zj} {w w' : World} {t : List Za} {tmps : Array Value} {v : Za}
theorem lr_get (ht : E.LR w t tmps) {i : Nat} (hi : t[i]? = some v) : E.VR w v (tmps.getD i undef) := by
 obtain ⟨h1, rfl⟩ := List.getElem?_eq_some_iff.1 hi
 have := ht.2 i h1 (ht.1 ▸ h1)
 have h2 : i < tmps.size := ht.1 ▸ h1
 simpa [Array.getD, h2] using this
theorem loadAt_ptr {ty : TypeId} {cv u : Value} (hl : (Instr.loadAt ty cv).run P w = .ok u w) : (do loadVar ty (← asAddr cv) : Sem Value).run P w = .ok u w := by
 unfold Instr.loadAt at hl
 cases cv with
 | pointer p =>
  cases p with
  | some a => simpa [Instr.sureAddr, asAddr] using hl
  | none => simp [Instr.sureAddr, stuck, Sem.run_bind] at hl
 | _ => simp [Instr.sureAddr, stuck, Sem.run_bind] at hl
def rvF (tmps : Array Value) : ResultVar → Sem Value
 | .tmp t => pure (tmps.getD t undef)
 | .cell a t => do loadVar t (← asAddr (tmps.getD a undef))
theorem results_eq (fn : Func) (tmps : Array Value) : results fn tmps = (do let vs ← fn.results.mapM (rvF tmps); pure (if h : vs.size = 1 then vs[0] else .tuple vs)) := by
 unfold results
 congr 1
theorem res_list (hr : E.HR P G h w) (ht : E.LR w t tmps) : ∀ (rs : List ResultVar) (cs : List CRes) (vs : List Za), compR P rs = some cs → resA t h cs = some vs →
  ∃ us : List Value, (rs.mapM (rvF tmps)).run P w = .ok us w ∧ us.length = vs.length ∧ ∀ (j : Nat) (x : Za) (u : Value), vs[j]? = some x → us[j]? = some u → E.VR w x u
 | [], cs, vs, hc, hv => by
  simp [compR] at hc; subst hc
  simp [resA] at hv; subst hv
  exact ⟨[], by simp, rfl, by simp⟩
 | r :: rs, cs, vs, hc, hv => by
  have key : ∀ (cs' : List CRes) (x : Za) (xs : List Za) (u : Value), compR P rs = some cs' → resA t h cs' = some xs → E.VR w x u → vs = x :: xs →
    ((rvF tmps r).run P w = .ok u w) →
    ∃ us : List Value, ((r :: rs).mapM (rvF tmps)).run P w = .ok us w ∧ us.length = vs.length ∧ ∀ (j : Nat) (x : Za) (u : Value), vs[j]? = some x → us[j]? = some u → E.VR w x u := by
   intro cs' x xs u h1 h2 h3 h4 h5
   obtain ⟨us, g1, g2, g3⟩ := res_list hr ht rs cs' xs h1 h2
   subst h4
   refine ⟨u :: us, ?_, by simp [g2], fun j y z hy hz => ?_⟩
   ·rw [List.mapM_cons]
    simp only [Sem.run_bind]
    rw [h5]
    simp only [Result.andThen_ok, Sem.run_bind, g1, Sem.run_pure]
   ·cases j with
    | zero => simp at hy hz; subst hy; subst hz; exact h3
    | succ j => exact g3 j y z (by simpa using hy) (by simpa using hz)
  cases r with
  | tmp i =>
   simp only [compR] at hc
   split at hc <;> simp at hc
   rename_i cs' hcs
   subst hc
   simp only [resA] at hv
   split at hv <;> simp at hv
   rename_i x xs hx hxs
   rw [Zz] at hx
   exact key cs' x xs _ hcs hxs (lr_get ht hx) hv.symm (by simp [rvF])
  | cell a ty =>
   simp only [compR] at hc
   split at hc
   ·rename_i n cs' hag hsz hcs
    simp at hc; subst hc
    simp only [resA] at hv
    (repeat' split at hv) <;> simp at hv
    rename_i p hp _ _ r o i xs hpt hxs _ x hx
    rw [Zz] at hp
    obtain ⟨u, h1, h2⟩ := load_many hr hag hsz hpt (lr_get ht hp) hx
    exact key cs' x xs u hcs hxs h2 hv.symm (loadAt_ptr h1)
   ·rename_i n cs' hag hsz hcs
    simp at hc; subst hc
    simp only [resA] at hv
    (repeat' split at hv) <;> simp at hv
    rename_i p hp _ _ r o i xs hpt hxs _ x hx
    rw [Zz] at hp
    obtain ⟨u, h1, h2⟩ := load_one hr hag hpt (lr_get ht hp) hx
    exact key cs' x xs u hcs hxs h2 hv.symm (loadAt_ptr h1)
   ·simp at hc
theorem res_run (hr : E.HR P G h w) (ht : E.LR w t tmps) {fn : Func} {cs : List CRes} {vs : List Za} (hc : compR P fn.results.toList = some cs) (hv : resA t h cs = some vs) :
  ∃ u, (results fn tmps).run P w = .ok u w ∧ E.VR w (XS vs) u := by
 obtain ⟨us, h1, h2, h3⟩ := res_list hr ht _ _ _ hc hv
 refine ⟨if h : us.toArray.size = 1 then us.toArray[0] else .tuple us.toArray, ?_, ?_⟩
 ·rw [results_eq, Array.mapM_eq_mapM_toList]
  simp [h1]
 ·match vs, us, h2, h3 with
  | [], [], _, _ => simp [XS]; exact .tup _ _ _ rfl fun j h => by simp at h
  | [x], [u], _, h3 => simpa [XS] using h3 0 x u rfl rfl
  | x :: y :: vs, u :: z :: us, h2, h3 =>
   simp [XS]
   exact .tup _ _ _ (by simp at h2 ⊢; omega) fun j hj1 hj2 => h3 j _ _ (List.getElem?_eq_getElem hj1) (by simp at hj2 ⊢)
theorem hr_aside (hr : E.HR P G h w) {b : Nat} {o : Obj} (hO : ¬ E.O b) (hI : ¬ E.I b) : E.HR P G h (w.putObj b o) ∧ ∀ {x : Za} {u : Value}, E.VR w x u → E.VR (w.putObj b o) x u := by
 have mv : ∀ {x : Za} {u : Value}, E.VR w x u → E.VR (w.putObj b o) x u := fun hv => VR.mono hv E.D (fun _ h => ⟨h, rfl⟩) fun k hk => ⟨hk, World.putObj_heap_other fun e => hI (e ▸ hk)⟩
 refine ⟨⟨fun i c hi => ?_, hr.inj, hr.lt, fun k hk => by rw [World.putObj_size]; exact hr.own k hk, fun k hk => by rw [World.putObj_size]; exact hr.imm k hk, fun g r hg => mv (hr.glob g r hg)⟩, mv⟩
 obtain ⟨h1, h2, h3, h4⟩ := hr.blk i c hi
 exact ⟨h1, h2, by rw [World.putObj_size]; exact h3, br_mono h4 rfl (World.putObj_heap_other fun e => hO (e ▸ h2)) fun _ _ hv => mv hv⟩
theorem leaves {fn : Func} {cs : List CRes} {vs : List Za} (hc : compR P fn.results.toList = some cs) (hv : resA t h cs = some vs) {k : Nat} {R : Ending → World → Prop} {n : Nat} :
  ∀ (bs : List Nat) (w : World), E.HR P G h w → E.LR w t tmps → bs.Nodup → (∀ b ∈ bs, n ≤ b ∧ b < w.heap.size ∧ w.heap[b]? = some (.deferred (some [])) ∧ ¬ E.O b ∧ ¬ E.I b) →
   (∀ w' u, E.HR P G h w' → E.VR w' (XS vs) u → w'.os = w.os → w'.tape = w.tape → (w'.output = w.output ∧ w.drawn ≤ w'.drawn) → w'.heap.size = w.heap.size → (∀ b, b < n ∨ E.O b ∨ E.I b → w'.heap[b]? = w.heap[b]?) → R (.returned u) w') →
   LeavesInM (FW none) k P fn tmps R (bs.map mkd) .returning w
 | [], w, hr, ht, _, _, hR => by
  obtain ⟨u, h1, h2⟩ := res_run hr ht hc hv
  exact ⟨u, h1, hR w u hr h2 rfl rfl ⟨rfl, Nat.le_refl _⟩ rfl fun _ _ => rfl⟩
 | b :: bs, w, hr, ht, hn, hb, hR => by
  obtain ⟨a1, a2, a3, a4, a5⟩ := hb b (by simp)
  have hnd := List.nodup_cons.1 hn
  obtain ⟨g1, g2⟩ := hr_aside (o := .deferred none) hr a4 a5
  refine ⟨by simp, .inl ⟨b, _, rfl, run_takeDeferred a3, ?_⟩⟩
  refine leaves (n := n) (k := k) (R := R) hc hv bs _ g1 ⟨ht.1, fun j h1 h2 => g2 (ht.2 j h1 h2)⟩ hnd.2 (fun c hcm => ?_) fun w' u x1 x2 x3 x4 x5 x6 x7 => ?_
  ·obtain ⟨b1, b2, b3, b4, b5⟩ := hb c (List.mem_cons_of_mem _ hcm)
   exact ⟨b1, by rw [World.putObj_size]; exact b2, by rw [World.putObj_heap_other fun (e : c = b) => hnd.1 (by rw [← e]; exact hcm)]; exact b3, b4, b5⟩
  ·refine hR w' u x1 x2 x3 x4 x5 (by rw [x6, World.putObj_size]) fun c hcm => ?_
   rw [x7 c hcm]
   refine World.putObj_heap_other fun e => ?_
   subst e
   rcases hcm with h | h | h
   ·omega
   ·exact a4 h
   ·exact a5 h
end
end Go.Abs
namespace Go.Abs
open Go
section
variable {P : Program} {G : Nat → Option (List Za)} {T : Nat → Option CFn} {ex : Option Nat → CC → St → Option (AEx × St)} {E E' E1 : Env} {h h' h1 : Zj} {w w' w1 : World} {t t1 : List Za} {a a' a1 : Act} {d : List Deferred} {e : AEx} {σ σ' : St} {c : CC} {v : Za}
def Sound (P : Program) (G : Nat → Option (List Za)) (r : Option Nat) (c : CC) (σ : St) (e : AEx) (σ' : St) : Prop :=
 ∀ (code : Code) (E : Env) (w : World) (a : Act) (k : Nat), ZW P G code = some (XI c) → E.HR P G σ.h w → E.LR w σ.t a.tmps → (∀ i, r = some i → E.D i) → code.wpIn (FW (r.map fun i => (E.ρ i).b)) k P (Post P G E σ.h w a.defers e σ') a w
theorem post_trans (hx : Run P G E h w d E1 h1 w1 t1 a1) {x : Exit} (hp : Post P G E1 h1 w1 a1.defers e σ' x a' w') : Post P G E h w d e σ' x a' w' :=
 let ⟨h1, E', h2⟩ := hp; ⟨h1, E', hx.trans h2⟩
theorem fw_eq (hl : Le E w E1 w1) {r : Option Nat} (hd : ∀ i, r = some i → E.D i) : FW (r.map fun i => (E1.ρ i).b) = FW (r.map fun i => (E.ρ i).b) := by
 cases r with
 | none => rfl
 | some i => simp only [Option.map_some, (hl.D i (hd i rfl)).2]
theorem replicate_lr (n m : Nat) (hn : n = m) : E.LR w (List.replicate n .und) (Array.replicate m undef) := by
 subst hn
 exact ⟨by simp, fun j h1 h2 => by simp; exact .und _⟩
theorem nx_side (hx : Nx P G E h w E' h' w') {w2 : World} (hr2 : E'.HR P G h' w2) (ho : w2.os = w'.os) (ht : w2.tape = w'.tape) (hu : w2.output = w'.output ∧ w'.drawn ≤ w2.drawn) (hs : w2.heap.size = w'.heap.size) (hh : ∀ b, b < w.heap.size → w2.heap[b]? = w'.heap[b]?) : Nx P G E h w E' h' w2 :=
 ⟨⟨ho.trans hx.le.os, ht.trans hx.le.tape, ⟨hu.1.trans hx.le.output.1, Nat.le_trans hx.le.output.2 hu.2⟩, by rw [hs]; exact hx.le.size, hx.le.D, hx.le.I, fun b hb hno => let ⟨x, y⟩ := hx.le.old b hb hno; ⟨(hh b hb).trans x, y⟩⟩, hr2, hx.fr, hx.len⟩
theorem ZJ {α β : Type} {f : α → Option β} : ∀ {xs : List α} {ys : List β}, Zf f xs = some ys → xs.length = ys.length ∧ ∀ j (h1 : j < xs.length) (h2 : j < ys.length), f xs[j] = some ys[j]
 | [], ys, h => by simp [Zf] at h; subst h; exact ⟨rfl, fun j h1 => by simp at h1⟩
 | x :: xs, ys, h => by
  simp only [Zf] at h
  split at h <;> simp at h
  rename_i y ys' h1 h2
  subst h
  obtain ⟨g1, g2⟩ := ZJ h2
  refine ⟨by simp [g1], fun j j1 j2 => ?_⟩
  cases j with
  | zero => exact h1
  | succ j => exact g2 j (by simpa using j1) (by simpa using j2)
theorem frz_ok {nv : Bool} (hr : E.HR P G h w) {I' : Nat → Prop} {ρ' : Nat → Loc} (hD : ∀ i b, h[i]? = some (some b) → I' (E.ρ i).b) (hI : nv = false → ∀ b, E.I b → I' b) :
  ∀ (d : Nat) {v v' : Za} {u : Value}, E.VR w v u → frz nv h d v = some v' → Abs.VR ρ' I' w (fun _ => False) v' u := by
 intro d
 induction d with
 | zero => intro v v' u _ hf; simp [frz] at hf
 | succ d ih =>
  intro v v' u hv hf
  replace hf : frz1 nv h (frz nv h d) v = some v' := hf
  cases hv with
  | any => simp [frz1] at hf
  | und => simp [frz1] at hf
  | bool => simp [frz1] at hf; subst hf; exact .bool _ _
  | int => simp [frz1] at hf; subst hf; exact .int _ _ _
  | nilp => simp [frz1] at hf; subst hf; exact .nilp _
  | nils => simp [frz1] at hf; subst hf; exact .nils _
  | nilm => simp [frz1] at hf; subst hf; exact .nilm _
  | nilf => simp [frz1] at hf; subst hf; exact .nilf _
  | mp => simp [frz1] at hf
  | yld => simp [frz1] at hf
  | fn _ f a b ca cb hla hlb ha hb =>
   simp only [frz1] at hf
   split at hf <;> simp at hf
   rename_i a' b' h1 h2
   subst hf
   obtain ⟨g1, g2⟩ := ZJ h1
   obtain ⟨g3, g4⟩ := ZJ h2
   exact .fn _ f _ _ ca cb (by omega) (by omega) (fun j j1 j2 => ih (ha j (by omega) j2) (g2 j (by omega) j1)) (fun j j1 j2 => ih (hb j (by omega) j2) (g4 j (by omega) j1))
  | agg _ xs cs hl hx =>
   simp only [frz1] at hf
   split at hf <;> simp at hf
   rename_i ys hy
   subst hf
   obtain ⟨g1, g2⟩ := ZJ hy
   exact .agg _ _ cs (by omega) fun j h1 h2 => ih (hx j (by omega) h2) (g2 j (by omega) h1)
  | tup _ xs cs hl hx =>
   simp only [frz1] at hf
   split at hf <;> simp at hf
   rename_i ys hy
   subst hf
   obtain ⟨g1, g2⟩ := ZJ hy
   exact .tup _ _ cs (by omega) fun j h1 h2 => ih (hx j (by omega) h2) (g2 j (by omega) h1)
  | pv _ r o b off cv hb hc hx =>
   simp only [frz1] at hf
   split at hf <;> simp at hf
   rename_i hn
   subst hf
   exact .pv _ r o b off cv (hI (by simpa using hn) b hb) hc fun j hj => VR.mono (hx j hj) _ (fun i hi => hi.elim) fun b hb => ⟨hI (by simpa using hn) b hb, rfl⟩
  | vl _ rs t a cap b off e cv hn ht ha hb he hc hx =>
   simp only [frz1] at hf
   cases nv with
   | true =>
    simp at hf
    split at hf <;> simp at hf
    subst hf
    exact .vl _ [] t a cap b off e cv hn ht ha (fun h => absurd rfl h) he hc fun k hk => by simp at hk
   | false =>
    simp at hf
    subst hf
    exact .vl _ rs t a cap b off e cv hn ht ha (fun h => hI rfl b (hb h)) he hc fun k hk j hj => VR.mono (hx k hk j hj) _ (fun i hi => hi.elim) fun b hb => ⟨hI rfl b hb, rfl⟩
  | ref _ i k o hi =>
   simp only [frz1] at hf
   split at hf
   ·rename_i e rs hrow
    split at hf
    ·rename_i r hrk
     split at hf <;> simp at hf
     rename_i r' hr'
     subst hf
     obtain ⟨g1, g2⟩ := ZJ hr'
     simp only [rowAt, Zz] at hrow hrk
     split at hrow <;> simp at hrow
     rename_i e1 rs1 hblk
     obtain ⟨rfl, rfl⟩ := hrow
     obtain ⟨_, _, _, b1, b2, b3, c, el, b4, b5, b6⟩ := hr.blk i _ hblk
     have hcell : ∀ j, j < r.length → ∃ v, c[(E.ρ i).d + k * (E.ρ i).e + j]? = some v ∧ ∀ h : j < r.length, E.VR w r[j] v := fun j hj => by
      obtain ⟨v, hv, hvr⟩ := b6 k r hrk j r[j] (List.getElem?_eq_getElem hj)
      rw [← b1] at hv
      exact ⟨v, hv, fun _ => hvr⟩
     refine .pv _ r' o (E.ρ i).b ((E.ρ i).d + k * (E.ρ i).e) (fun j => c.getD ((E.ρ i).d + k * (E.ρ i).e + j) undef) (hD i _ hblk) (fun j hj => ?_) fun j hj => ?_
     ·obtain ⟨v, hv, _⟩ := hcell j (by omega)
      simp [World.cell?, b4, hv, Array.getD_eq_getD_getElem?]
     ·obtain ⟨v, hv, hvr⟩ := hcell j (by omega)
      have := ih (hvr (by omega)) (g2 j (by omega) hj)
      simpa [Array.getD_eq_getD_getElem?, hv] using this
    ·simp at hf
   ·simp at hf
  | sl _ i k n t a cap hi hn ht ha hs =>
   simp only [frz1] at hf
   split at hf
   ·rename_i e rs hrow
    split at hf
    ·rename_i hkn
     split at hf <;> simp at hf
     rename_i rs' hrs
     subst hf
     obtain ⟨g1, g2⟩ := ZJ hrs
     simp only [rowAt, Zz] at hrow
     split at hrow <;> simp at hrow
     rename_i e1 rs1 hblk
     obtain ⟨rfl, rfl⟩ := hrow
     obtain ⟨_, _, _, b1, b2, b3, c, el, b4, b5, b6⟩ := hr.blk i _ hblk
     have hlen : ((List.drop k rs1).take n).length = n := by simp; omega
     have hl' : rs'.length = n := by omega
     have hrow : ∀ q (hq : q < n), rs1[k + q]? = some rs1[k + q] ∧ ((List.drop k rs1).take n)[q]'(by omega) = rs1[k + q] := fun q hq => ⟨List.getElem?_eq_getElem (by omega), by simp⟩
     have hel : ∀ q (hq : q < rs'.length), rs'[q].length = e1 := fun q hq => by
      have h1 := (ZJ (g2 q (by omega) hq)).1
      rw [← h1, (hrow q (by omega)).2]
      exact b2 _ (List.getElem_mem _)
     have hcell : ∀ q (hq : q < n) j (hj : j < rs1[k + q].length), ∃ v, c[(E.ρ i).d + k * (E.ρ i).e + (q * (E.ρ i).e + j)]? = some v ∧ E.VR w rs1[k + q][j] v := fun q hq j hj => by
      obtain ⟨v, hv, hvr⟩ := b6 (k + q) _ (hrow q hq).1 j _ (List.getElem?_eq_getElem hj)
      refine ⟨v, ?_, hvr⟩
      rw [← hv, b1, Nat.add_mul]
      congr 1; omega
     rw [← hl']
     refine .vl _ rs' t a cap (E.ρ i).b ((E.ρ i).d + k * (E.ρ i).e) (E.ρ i).e (fun j => c.getD ((E.ρ i).d + k * (E.ρ i).e + j) undef) (by omega) (fun h => by rw [hl']; exact ht h) ha (fun _ => hD i _ hblk) (fun q hq => by rw [b1]; exact hel q hq) (fun j hj => ?_) fun q hq j hj => ?_
     ·rw [hl'] at hj
      have he : 0 < (E.ρ i).e := Nat.pos_of_ne_zero fun h => by simp [h] at hj
      have hq : j / (E.ρ i).e < n := Nat.div_lt_of_lt_mul (by rw [Nat.mul_comm]; exact hj)
      have hm : j % (E.ρ i).e < rs1[k + j / (E.ρ i).e].length := by rw [b2 _ (List.getElem_mem _), ← b1]; exact Nat.mod_lt _ he
      obtain ⟨v, hv, _⟩ := hcell _ hq _ hm
      have hjj : j / (E.ρ i).e * (E.ρ i).e + j % (E.ρ i).e = j := Nat.div_add_mod' j _
      rw [hjj] at hv
      simp [World.cell?, b4, hv, Array.getD_eq_getD_getElem?]
     ·obtain ⟨h1, h2⟩ := ZJ (g2 q (by omega) hq)
      have e2 := (hrow q (by omega)).2
      have hj2 : j < rs1[k + q].length := by rw [b2 _ (List.getElem_mem _)]; rw [hel q hq] at hj; exact hj
      obtain ⟨v, hv, hvr⟩ := hcell q (by omega) j hj2
      have h3 := h2 j (by rw [h1]; exact hj) hj
      simp only [e2] at h3
      have := ih hvr h3
      simpa [Array.getD_eq_getD_getElem?, hv] using this
    ·simp at hf
   ·simp at hf
theorem orc_good {fn : CFn} {f : Nat} {args : List Za} (horc : ∀ args v, fn.orc args = some v → OrcGood P G fn.frsh f args v) (ho : orcF fn args h = some v) : Xl P G f args h v h := by
 intro E w cargs k hr hl
 -- what the run may look at, and what comes of it
 have main : ∀ (aZ : List Za) (I0 : Nat → Prop), fn.orc aZ = some v → (∀ b, E.I b → I0 b) → (∀ b, I0 b → b < w.heap.size) → (fn.frsh = false → ∀ b, I0 b → E.I b) → Env.LR ⟨E.ρ, fun _ => False, fun _ => False, I0⟩ w aZ cargs → CallsIn (FW none) k P f cargs w (RetPost P G E w h.length v h) := by
  intro aZ I0 hv hI0 hI1 hI2 hl0
  have hr0 : Env.HR P G ⟨E.ρ, fun _ => False, fun _ => False, I0⟩ [] w :=
   ⟨fun i b hi => by simp at hi, fun i j b c hi => by simp at hi, fun i hi => hi.elim, fun b hb => hb.elim, fun b hb => ⟨hI1 b hb, fun h => h⟩, fun g r hg => by
    have := hr.glob g r hg
    generalize hp : Value.pointer (some ⟨g, 0, none⟩) = pv at this ⊢
    cases this with
    | pv _ _ _ b off cv hb hc h => exact .pv _ _ _ b off cv (hI0 b hb) hc fun j hj => VR.mono (h j hj) _ (fun i hi => hi.elim) fun b hb => ⟨hI0 b hb, rfl⟩⟩
  refine CallsIn.mono (horc aZ v hv _ w cargs k (fun _ h => h) (fun _ h => h) hr0 hl0) ?_
  rintro e w' ⟨u, I', rfl, h1, h2, h3, h4, h5, h6, h7⟩
  have hle : Le E w { E with I := fun b => E.I b ∨ I' b } w' :=
   ⟨h1, h2, h3, h4, fun i hi => ⟨hi, rfl⟩, fun b hb => .inl hb, fun b hb ho => ⟨h5 b hb, ho, fun hi => hi.elim id fun hi => by
    rcases (h6 b hi).2 with h | ⟨hf, h⟩
    ·omega
    ·exact hI2 hf b h⟩⟩
  refine ⟨u, { E with I := fun b => E.I b ∨ I' b }, rfl, hle, ⟨fun i b hi => ?_, hr.inj, hr.lt, fun b hb => Nat.lt_of_lt_of_le (hr.own b hb) h4, fun b hb => ?_, fun g r hg => hle.vr hr (hr.glob g r hg)⟩, ?_, fun _ h => .inl h, Nat.le_refl _⟩
  ·obtain ⟨g1, g2, g3, g4⟩ := hr.blk i b hi
   exact ⟨g1, g2, Nat.lt_of_lt_of_le g3 h4, br_mono g4 rfl (h5 _ g3) fun _ _ hv => hle.vr hr hv⟩
  ·rcases hb with hb | hb
   ·exact ⟨Nat.lt_of_lt_of_le (hr.imm b hb).1 h4, (hr.imm b hb).2⟩
   ·refine ⟨(h6 b hb).1, fun ho => ?_⟩
    rcases (h6 b hb).2 with h | ⟨hf, h⟩
    ·have := hr.own b ho; omega
    ·exact (hr.imm b (hI2 hf b h)).2 ho
  ·exact VR.mono h7 _ (fun i hi => hi.elim) fun b hb => ⟨.inr hb, rfl⟩
 unfold orcF at ho
 split at ho
 ·rename_i aZ has
  cases hfr : fn.frsh with
  | true =>
   simp only [hfr, if_true] at has
   obtain ⟨g1, g2⟩ := ZJ has
   refine main aZ (fun b => b < w.heap.size) ho (fun b hb => (hr.imm b hb).1) (fun b hb => hb) (fun h => by simp [hfr] at h) ⟨by rw [← g1]; exact hl.1, fun j h1 h2 => ?_⟩
   exact frz_ok hr (fun i b hi => (hr.blk i b hi).2.2.1) (fun _ b hb => (hr.imm b hb).1) 5 (hl.2 j (by omega) h2) (g2 j (by omega) h1)
  | false =>
   simp only [hfr] at has
   simp at has
   obtain ⟨hx, rfl⟩ := has
   refine main args E.I ho (fun b hb => hb) (fun b hb => (hr.imm b hb).1) (fun _ b hb => hb) ⟨hl.1, fun j h1 h2 => ?_⟩
   have := VR.trim 5 (hl.2 j h1 h2) (hx _ (List.getElem_mem h1))
   exact VR.mono this _ (fun i hi => absurd hi.2 (by omega)) fun b hb => ⟨hb, rfl⟩
 ·simp at ho
theorem call_good (hT : ZB P G T) (hex : ∀ r c σ e σ', ex r c σ = some (e, σ') → Sound P G r c σ e σ') (f : Nat) (args : List Za) (h : Zj) (v : Za) (h' : Zj) (hc : YH T ex f args h = some (v, h')) : Xl P G f args h v h' := by
 intro E w cargs k hr hl
 unfold YH at hc
 cases hTf : T f with
 | none => simp [hTf] at hc
 | some cf =>
 obtain ⟨fn, c, hfn, hb, hname, hcomp, hnt, hres, horc, heff⟩ := hT f cf hTf
 simp only [hTf, ZM] at hc
 cases ho : orcF cf args h with
 | some v1 =>
  simp [ho, Xa] at hc
  obtain ⟨rfl, rfl⟩ := hc
  exact orc_good horc ho E w cargs k hr hl
 | none =>
 simp only [ho] at hc
 cases he : cf.eff args h with
 | some r =>
  simp [he] at hc
  obtain ⟨rfl, rfl⟩ := hc
  exact heff args h _ _ he E w cargs k hr hl
 | none =>
 simp only [he] at hc
 rw [fL_eq _ (fun _ _ => rfl)] at hc
 generalize ht0 : args ++ List.replicate (cf.ntmps - args.length) Za.und = t0 at hc
 cases hrun : ex none cf.body ⟨t0, h⟩ with
 | none => simp [hrun] at hc
 | some p =>
 obtain ⟨e, σ⟩ := p
 have hne : ∀ id, e ≠ .exit id := fun id he => by subst he; simp [hrun] at hc
 cases hv : resA σ.t σ.h cf.res with
 | none => exfalso; cases e <;> simp [hrun, hv] at hc
 | some vs =>
 have hc' : XS vs = v ∧ trim h.length [XS vs] σ.h = h' := by
  cases e with
  | exit id => exact absurd rfl (hne id)
  | normal => simpa [hrun, hv, Xa, Yt, trimK_eq] using hc
  | ret => simpa [hrun, hv, Xa, Yt, trimK_eq] using hc
 obtain ⟨rfl, rfl⟩ := hc'
 have hlr : E.LR w t0 (cargs ++ Array.replicate (fn.ntmps - cargs.size) undef) := by
  subst ht0
  exact lr_app hl (replicate_lr _ _ (by rw [hnt, hl.1]))
 refine callsIn_of_wp_marks hfn hb trivial ?_
 refine wpIn_mono (hex _ _ _ _ _ hrun c E w _ k hcomp hr hlr (by simp)) ?_
 rintro x a' w' ⟨hx, E', hR⟩
 have key : LeavesInM (FW none) k P fn a'.tmps (RetPost P G E w h.length (XS vs) (trim h.length [XS vs] σ.h)) a'.defers .returning w' := by
  obtain ⟨bs, hbs, hnd, hall⟩ := hR.mks
  simp only [List.append_nil] at hbs
  rw [hbs]
  refine leaves (n := w.heap.size) (k := k) hres hv bs w' hR.nx.hr hR.lr hnd hall fun w2 u g1 g2 g3 g4 g5 g6 g7 => ?_
  have hx2 := nx_side hR.nx g1 g3 g4 g5 g6 fun b hb => g7 b (.inl hb)
  have hlu : E'.LR w2 [XS vs] #[u] := ⟨rfl, fun j h1 h2 => by
   have : j = 0 := by simp at h1; omega
   subst this; exact g2⟩
  obtain ⟨E2, hx3, hl3, _⟩ := trim_ok hr hx2 hlu
  exact ⟨u, E2, rfl, hx3.le, hx3.hr, hl3.2 0 (by simp) (by simp), hx3.fr, hx3.len⟩
 cases e with
 | exit id => exact absurd rfl (hne id)
 | normal => subst hx; exact key
 | ret => subst hx; exact key
theorem zip_lr : ∀ (ps : List Nat) (args : List Za) (cargs : List Value) (t : List Za) (ct : Array Value), args.length = cargs.length → (∀ (j : Nat) (x : Za) (u : Value), args[j]? = some x → cargs[j]? = some u → E.VR w x u) → E.LR w t ct →
  E.LR w (setAll t (ps.zip args)) ((ps.zip cargs).foldl (fun tmps (t, a) => tmps.setIfInBounds t a) ct)
 | [], _, _, t, ct, _, _, ht => by simpa [setAll] using ht
 | p :: ps, [], [], t, ct, _, _, ht => by simpa [setAll] using ht
 | p :: ps, [], _ :: _, _, _, hl, _, _ => by simp at hl
 | p :: ps, _ :: _, [], _, _, hl, _, _ => by simp at hl
 | p :: ps, x :: args, u :: cargs, t, ct, hl, hv, ht => by
  simp only [List.zip_cons_cons, setAll, List.foldl_cons]
  exact zip_lr ps args cargs _ _ (by simpa using hl) (fun j y z hy hz => hv (j + 1) y z (by simpa using hy) (by simpa using hz)) (lr_set ht (hv 0 x u rfl rfl))
theorem yield_good (hT : ZB P G T) (hex : ∀ r c σ e σ', ex r c σ = some (e, σ') → Sound P G r c σ e σ') (i : Nat) (args : List Za) (h : Zj) (v : Za) (h' : Zj) (hc : yieldF ex i args h = some (v, h')) : YieldGood P G i args h v h' := by
 intro E w cargs k hr hl
 unfold yieldF at hc
 split at hc
 ·rename_i t ps asg bd pd0 hi
  rw [Zz] at hi
  obtain ⟨hD, hO, hlt, L, hL, hLt, hLp, hLa, hLb, hLs, _⟩ := hr.blk i _ hi
  split at hc
  ·rename_i hlen
   rw [setAllK_eq] at hc
   refine ⟨L, hL, ?_, ?_⟩
   ·rw [← hl.1, hlen, ← hLp]; simp
   have hzip : E.LR w (setAll t (ps.zip args)) ((L.params.zip cargs).foldl (fun tmps (t, a) => tmps.setIfInBounds t a) L.tmps) := by
    have := zip_lr (E := E) (w := w) ps args cargs.toList t L.tmps (by simpa using hl.1) (fun j x u hx hu => by
     obtain ⟨g1, rfl⟩ := List.getElem?_eq_some_iff.1 hx
     obtain ⟨g2, rfl⟩ := List.getElem?_eq_some_iff.1 hu
     simp at g2
     simpa using hl.2 j g1 g2) hLt
    have e : (L.params.zip cargs).foldl (fun tmps (t, a) => tmps.setIfInBounds t a) L.tmps = (L.params.toList.zip cargs.toList).foldl (fun tmps (t, a) => tmps.setIfInBounds t a) L.tmps := by
     rw [← Array.foldl_toList, Array.toList_zip]
    rw [e, hLp]; exact this
   cases h1 : ex (some i) asg ⟨setAll t (ps.zip args), h⟩ with
   | none => simp [h1] at hc
   | some p1 =>
   obtain ⟨e1, σ1⟩ := p1
   cases e1 with
   | exit id => simp [h1] at hc
   | ret => simp [h1] at hc
   | normal =>
   simp only [h1] at hc
   split at hc
   ·rename_i t2 ps2 as2 bd2 pd2 hi2
    rw [Zz] at hi2
    rw [ZA] at hc
    cases h2 : ex (some i) bd ⟨σ1.t, σ1.h.set i (some (.loop t2 ps2 as2 bd2 .busy pd2))⟩ with
    | none => simp [h2] at hc
    | some p2 =>
    obtain ⟨e2, σ2⟩ := p2
    simp only [h2] at hc
    split at hc
    ·rename_i t3 ps3 as3 bd3 st3 pd3 hi3
     rw [Zz] at hi3
     refine roundIn_of_wpIn trivial ?_
     have hDi : ∀ j, some i = some j → E.D j := fun j hj => by simp at hj; subst hj; exact hD
     refine wpIn_mono (hex _ _ _ _ _ h1 L.assign E w _ k hLa hr hzip hDi) ?_
     rintro x a1 w1 ⟨hx, E1, hR1⟩
     simp only [exOf] at hx
     subst hx
     obtain ⟨hD1, hO1, hlt1, L1, hL1, hLt1, hLp1, hLa1, hLb1, hLs1, hLd1⟩ := hR1.nx.hr.blk i _ hi2
     have hρ1 : E1.ρ i = E.ρ i := (hR1.nx.le.D i hD).2
     rw [hρ1] at hL1 hlt1
     refine ⟨_, run_beginRound hL1 hLs1, ?_⟩
     obtain ⟨hle2, hr2⟩ := hr_upd (w' := w1.putObj (E.ρ i).b (.loop { L1 with state := .busy })) (b := .loop t2 ps2 as2 bd2 .busy pd2) hR1.nx.hr hi2 (fun k hk => World.putObj_heap_other (by rw [hρ1] at hk; exact hk)) World.putObj_size rfl rfl ⟨rfl, Nat.le_refl _⟩ (fun hle =>
      ⟨{ L1 with state := .busy }, by rw [hρ1]; exact World.putObj_heap_same hlt1, hle.lr hR1.nx.hr hLt1, hLp1, hLa1, hLb1, rfl, hLd1⟩)
     have hR2 : Run P G E h w [] E1 (σ1.h.set i (some (.loop t2 ps2 as2 bd2 .busy pd2))) (w1.putObj (E.ρ i).b (.loop { L1 with state := .busy })) σ1.t a1 :=
      ⟨hR1.nx.trans ⟨hle2, hr2, .refl _ _, by simp⟩, hle2.lr hR1.nx.hr hR1.lr, hR1.mks.le hle2⟩
     have hDi1 : ∀ j, some i = some j → E1.D j := fun j hj => by simp at hj; subst hj; exact hD1
     have hw := hex _ _ _ _ _ h2 L.body E1 _ a1 k hLb hr2 hR2.lr hDi1
     rw [fw_eq hR1.nx.le hDi] at hw
     refine wpIn_mono hw ?_
     rintro x a3 w3 hp
     obtain ⟨hx, E3, hR3⟩ := post_trans hR2 hp
     obtain ⟨hD3, hO3, hlt3, L3, hL3, hLt3, hLp3, hLa3, hLb3, hLs3, hLd3⟩ := hR3.nx.hr.blk i _ hi3
     have hρ3 : E3.ρ i = E.ρ i := (hR3.nx.le.D i hD).2
     rw [hρ3] at hL3 hlt3
     have fin : ∀ (st : LoopState) (pd : Option CC) (pc : Option Code), pendR pd pc → Nx P G E h w E3 (σ2.h.set i (some (.loop t3 ps3 as3 bd3 st pd))) (w3.putObj (E.ρ i).b (.loop { L3 with state := st, pending := pc })) := fun st pd pc hpd => by
      obtain ⟨hle4, hr4⟩ := hr_upd (w' := w3.putObj (E.ρ i).b (.loop { L3 with state := st, pending := pc })) (b := .loop t3 ps3 as3 bd3 st pd) hR3.nx.hr hi3 (fun k hk => World.putObj_heap_other (by rw [hρ3] at hk; exact hk)) World.putObj_size rfl rfl ⟨rfl, Nat.le_refl _⟩ (fun hle =>
       ⟨{ L3 with state := st, pending := pc }, by rw [hρ3]; exact World.putObj_heap_same hlt3, hle.lr hR3.nx.hr hLt3, hLp3, hLa3, hLb3, rfl, hpd⟩)
      exact hR3.nx.trans ⟨hle4, hr4, .refl _ _, by simp⟩
     cases e2 with
     | normal =>
      simp only [exOf] at hx
      subst hx
      simp only [ZA, Yt, trimK_eq] at hc
      simp at hc
      obtain ⟨rfl, rfl⟩ := hc
      have hx4 := fin .ready none none trivial
      obtain ⟨E5, hx5, _⟩ := trim_ok (vs := []) (cs := #[]) hr hx4 ⟨rfl, fun j h1 => by simp at h1⟩
      exact ⟨_, _, run_endRound none hL3, .bool true, E5, rfl, hx5.le, hx5.hr, .bool _ true, hx5.fr, hx5.len⟩
     | ret =>
      simp only [exOf] at hx
      subst hx
      simp only [ZA] at hc
      simp at hc
      obtain ⟨rfl, rfl⟩ := hc
      have hx4 := fin .done (some .ret) (some .ret) trivial
      exact ⟨_, _, run_endRound (some .ret) hL3, .bool false, E3, rfl, hx4.le, hx4.hr, .bool _ false, hx4.fr, hx4.len⟩
     | exit id =>
      simp only [exOf] at hx
      subst hx
      simp only [ZA] at hc
      simp at hc
      obtain ⟨rfl, rfl⟩ := hc
      have hx4 := fin .done (some (.exit id)) (some (.exit id)) rfl
      exact ⟨_, _, run_endRound (some (.exit id)) hL3, .bool false, E3, rfl, hx4.le, hx4.hr, .bool _ false, hx4.fr, hx4.len⟩
    ·simp at hc
   ·simp at hc
  ·simp at hc
 ·simp at hc
end
end Go.Abs
namespace Go.Abs
open Go
section
variable {P : Program} {G : Nat → Option (List Za)} {T : Nat → Option CFn} {ex : Option Nat → CC → St → Option (AEx × St)} {E E' E1 : Env} {h h' h1 : Zj} {w w' w1 : World} {t t1 : List Za} {a a' a1 : Act} {d : List Deferred} {e : AEx} {σ σ' : St} {c : CC} {v : Za}
def SoundLoop (P : Program) (G : Nat → Option (List Za)) (n : Nat) (r : Option Nat) (c : CC) (σ : St) (e : AEx) (σ' : St) : Prop :=
 ∀ (p : Code) (E : Env) (w : World) (a : Act) (k : Nat), ZW P G p = some (XI c) → E.HR P G σ.h w → E.LR w σ.t a.tmps → (∀ i, r = some i → E.D i) → Code.roundsIn (FW (r.map fun i => (E.ρ i).b)) k P p (Post P G E σ.h w a.defers e σ') n a w
theorem roundsIn_mono {F : Fence} {k : Nat} {p : Code} {Q Q' : Exit → Act → World → Prop} (hq : ∀ e a w, Q e a w → Q' e a w) : ∀ (n : Nat) (a : Act) (w : World), Code.roundsIn F k P p Q n a w → Code.roundsIn F k P p Q' n a w
 | 0, _, _, h => h.elim
 | n + 1, a, w, h => wpIn_mono h fun e a w q => by
  cases e with
  | normal => exact roundsIn_mono hq n a w q
  | _ => exact hq _ _ _ q
theorem then_post {K : Act → World → Prop} {Q : Exit → Act → World → Prop} {x : Exit} (hp : Post P G E h w d e σ' x a' w') (hn : e = .normal → ∀ E', Run P G E h w d E' σ'.h w' σ'.t a' → K a' w') (hq : e ≠ .normal → Q (exOf e) a' w') : Exit.then K Q x a' w' := by
 obtain ⟨rfl, E', hr⟩ := hp
 cases e with
 | normal => exact hn rfl E' hr
 | exit id => exact hq (by simp)
 | ret => exact hq (by simp)
theorem go_skip (hr : E.HR P G σ.h w) (ht : E.LR w σ.t a.tmps) : Post P G E σ.h w a.defers .normal σ .normal a w := ⟨rfl, E, .refl hr ht⟩
theorem go_back (hr : E.HR P G h w) (hR : Run P G E h w d E' h' w' t1 a') (keep : Nat) : ∃ E2, Run P G E h w d E2 (trim h.length (Xj t1 keep) h') w' (Xj t1 keep) a' := by
 obtain ⟨E2, h1, h2, h3, h4, _⟩ := trim_ok hr hR.nx (kill_lr t1 keep _ hR.lr)
 refine ⟨E2, h1, h2, ?_⟩
 obtain ⟨bs, g1, g2, g3⟩ := hR.mks
 exact ⟨bs, g1, g2, fun b hb => by rw [h3, h4]; exact g3 b hb⟩
theorem loop_step (n : Nat) {r : Option Nat} {keep : Nat} (hex : ∀ r c σ e σ', ex r c σ = some (e, σ') → Sound P G r c σ e σ') (hlp : ∀ σ e σ', ex r (.loop keep c) σ = some (e, σ') → SoundLoop P G n r c σ e σ')
  (h : YE P T ex r (.loop keep c) σ = some (e, σ')) : SoundLoop P G (n + 1) r c σ e σ' := by
 intro p E w a k hp hr ht hd
 simp only [YE, XN] at h
 rw [roundsIn_succ]
 have ht0 := kill_lr σ.t keep _ ht
 cases h1 : ex r c ⟨Xj σ.t keep, σ.h⟩ with
 | none => simp [h1] at h
 | some q =>
 obtain ⟨e1, σ1⟩ := q
 refine wpIn_mono (hex _ _ _ _ _ h1 p E w a k hp hr ht0 hd) fun x a' w' hpost => ?_
 by_cases he : e1 = .normal
 ·subst he
  simp only [h1, XN, Yt, trimK_eq] at h
  refine then_post hpost (fun _ E' hR => ?_) (fun h => absurd rfl h)
  obtain ⟨E2, hR2⟩ := go_back hr hR keep
  have hd2 : ∀ i, r = some i → E2.D i := fun i hi => (hR2.nx.le.D i (hd i hi)).1
  have := hlp _ _ _ h p E2 w' a' k hp hR2.nx.hr hR2.lr hd2
  rw [fw_eq hR2.nx.le hd] at this
  exact roundsIn_mono (fun x a2 w2 hq => post_trans hR2 hq) n a' w' this
 ·have hh : some (e1, σ1) = some (e, σ') := by
   cases e1 with
   | normal => exact absurd rfl he
   | _ => simpa [h1] using h
  simp at hh
  obtain ⟨rfl, rfl⟩ := hh
  obtain ⟨hx, E', hR⟩ := hpost
  exact then_post ⟨hx, E', hR⟩ (fun h => absurd h he) fun _ => ⟨rfl, E', hR⟩
theorem le_alloc (E : Env) (w : World) (ob : Obj) (hr : ∀ b, E.O b → b < w.heap.size) : Le E w E (w.alloc ob) :=
 ⟨rfl, rfl, ⟨rfl, Nat.le_refl _⟩, by simp, fun _ h => ⟨h, rfl⟩, fun _ h => h, fun b hb ho => ⟨XH w ob hb, ho, fun h => h⟩⟩
theorem enter_ok (hr : E.HR P G h w) (ht : E.LR w t a.tmps) {fn : FuncId} {qs : Array Tmp} {p q : Code} {asg bd : CC} (hp : ZW P G p = some (XI asg)) (hq : ZW P G q = some (XI bd)) {r : Option Nat} (hin : inLoop r h = true) :
  ∃ (lb : Nat) (mark : List Deferred) (w1 : World), (Instr.enterLoop fn a.tmps qs p q (r.map fun i => (E.ρ i).b)).run P w = .ok (lb, mark) w1 ∧
   Nx P G E h w (E.add h.length ⟨lb, 0, 0, 0⟩) (h ++ [some (.loop t qs.toList asg bd .ready none)]) w1 ∧ Mk w.heap.size (E.add h.length ⟨lb, 0, 0, 0⟩) w1 d (mark ++ d) := by
 have hD : ¬ E.D h.length := fun hd => Nat.lt_irrefl _ (hr.lt _ hd)
 have fin : ∀ (w0 : World) (L : Loop), Le E w E w0 → (∀ b, b < w.heap.size → w0.heap[b]? = w.heap[b]?) → L.state = .ready → L.pending = none → L.tmps = a.tmps → L.params = qs → L.assign = p → L.body = q →
   Nx P G E h w (E.add h.length ⟨w0.heap.size, 0, 0, 0⟩) (h ++ [some (.loop t qs.toList asg bd .ready none)]) (w0.alloc (.loop L)) := by
  intro w0 L hle hk l1 l2 l3 l4 l5 l6
  have hs := hle.size
  have hle1 := hle.trans (le_add E w0 (.loop L) h.length ⟨w0.heap.size, 0, 0, 0⟩ hD rfl)
  have hlt : ∀ {j c}, h[j]? = some (some c) → (E.ρ j).b < w.heap.size := fun hj => (hr.blk _ _ hj).2.2.1
  refine ⟨hle1, hr_push hr hle1 h rfl (fun j c hj => ⟨hj, ?_, by have := hlt hj; simp only; omega⟩) (by simp) (fun hI => by have := (hr.imm _ hI).1; simp only at this; omega) ⟨L, ?_, ?_, by rw [l4], by rw [l5]; exact hp, by rw [l6]; exact hq, l1, by rw [l2]; trivial⟩, .add _ _ _ (Nat.le_refl _), by simp⟩
  ·rw [XH w0 _ (Nat.lt_of_lt_of_le (hlt hj) hs)]
   exact hk _ (hlt hj)
  ·rw [XL]; exact heap_alloc_new w0 _
  ·rw [l3]; exact hle1.lr hr ht
 cases r with
 | none =>
  have hle := le_alloc E w (.deferred (some [])) hr.own
  refine ⟨w.heap.size + 1, [mkd w.heap.size], _, run_enterLoop_outer fn a.tmps qs p q, ?_, ?_⟩
  ·have := fin (w.alloc (.deferred (some []))) { state := .ready, pending := none, fn, tmps := a.tmps, params := qs, assign := p, body := q, defers := w.heap.size } hle (fun b hb => XH w _ hb) rfl rfl rfl rfl rfl rfl
   simpa using this
  ·refine ⟨[w.heap.size], rfl, by simp, fun b hb => ?_⟩
   have hb' : b = w.heap.size := by simpa using hb
   subst hb'
   refine ⟨Nat.le_refl _, by simp; omega, ?_, ?_, ?_⟩
   ·rw [XH _ _ (by simp)]; exact heap_alloc_new w _
   ·rintro (h1 | h1)
    ·exact Nat.lt_irrefl _ (hr.own _ h1)
    ·simp only at h1; omega
   ·intro h1; exact Nat.lt_irrefl _ (hr.imm _ h1).1
 | some i =>
  simp only [inLoop, Zz] at hin
  split at hin
  ·rename_i t' ps' asg' bd' st' pd' hi
   obtain ⟨_, _, _, L0, hL0, _⟩ := hr.blk i _ hi
   refine ⟨w.heap.size, [], _, run_enterLoop_inner hL0 fn a.tmps qs p q, ?_, .refl _ _ _ _⟩
   exact fin w { state := .ready, pending := none, fn, tmps := a.tmps, params := qs, assign := p, body := q, defers := L0.defers } (.refl _ _) (fun _ _ => rfl) rfl rfl rfl rfl rfl rfl
  ·simp at hin
theorem rf_step (hT : ZB P G T) (hex : ∀ r c σ e σ', ex r c σ = some (e, σ') → Sound P G r c σ e σ') {r : Option Nat} {g : CV} {ps : List Nat} {asg bd : CC}
  (h : YE P T ex r (.rf g ps asg bd) σ = some (e, σ')) : Sound P G r (.rf g ps asg bd) σ e σ' := by
 intro code E w a k hc hr ht hd
 obtain ⟨o, qs, p, q, rfl, rfl, hg, hp, hq⟩ := co_rf hc
 simp only [YE] at h
 split at h
 ·rename_i f fa fb hin hev
  simp only [Yt, ZM] at h
  cases hcl : YH T ex f (fa ++ [.yld σ.h.length] ++ fb) (σ.h ++ [some (.loop σ.t qs.toList asg bd .ready none)]) with
  | none => rw [hcl] at h; simp at h
  | some z =>
  obtain ⟨x, h2⟩ := z
  rw [hcl] at h
  simp only at h
  split at h
  ·rename_i t' ps' asg' bd' st pd hn
   rw [Zz] at hn
   split at h
   ·simp at h
   ·rename_i hst
    refine wpIn_rangeFunc fun fn _ => ?_
    obtain ⟨lb, mark, w1, he, hx1, hmk⟩ := enter_ok (d := a.defers) hr ht (fn := fn) (qs := qs) hp hq hin
    have hcallg := call_good hT hex f _ _ _ _ hcl
    have hvf := ZP hr ht hg hev
    obtain ⟨ca, cb, e1, l1, l2⟩ := VR.fn_inv hvf
    obtain ⟨cf, hcf⟩ : ∃ cf, T f = some cf := by
     cases hg : T f with
     | none => simp [YH, hg] at hcl
     | some cf => exact ⟨cf, rfl⟩
    obtain ⟨fnn, c, hfn, hbody, hname, _⟩ := hT f cf hcf
    have hname' : ¬ fnn.name = "runtime.NumGoroutine" := by simpa using hname
    have hl1 : (E.add σ.h.length ⟨lb, 0, 0, 0⟩).LR w1 fa ca := hx1.le.lr hr l1
    have hl2 : (E.add σ.h.length ⟨lb, 0, 0, 0⟩).LR w1 fb cb := hx1.le.lr hr l2
    have hly : (E.add σ.h.length ⟨lb, 0, 0, 0⟩).LR w1 [.yld σ.h.length] #[.func (.yield lb) #[] #[]] := ⟨rfl, fun j h1 h2 => by
     have : j = 0 := by simp at h1; omega
     subst this
     have := VR.yld (ρ := (E.add σ.h.length ⟨lb, 0, 0, 0⟩).ρ) (I := (E.add σ.h.length ⟨lb, 0, 0, 0⟩).I) (w := w1) (E.add σ.h.length ⟨lb, 0, 0, 0⟩).D σ.h.length (.inr rfl)
     rw [XL] at this
     exact this⟩
    have hcalls := hcallg _ w1 (ca ++ #[.func (.yield lb) #[] #[]] ++ cb) (k - 1) hx1.hr (lr_app (lr_app hl1 hly) hl2)
    refine ⟨lb, mark, w1, { target := .fn (.func f) cb, args := ca ++ #[.func (.yield lb) #[] #[]] }, w1, f, ca ++ #[.func (.yield lb) #[] #[]] ++ cb, w1, he, ?_, fun _ _ => trivial, ?_, fun h => by simp at h, ?_⟩
    ·have hev' : a.eval o = .func (.func f) ca cb := e1
     simp [resolve, rangeCall, hev', Deferred.ofValue]
     rfl
    ·simp [invoke, callFunc, hfn, hname', hbody]
    ·refine CallsIn.mono hcalls ?_
     rintro en w3 ⟨u, E3, rfl, hle3, hr3, hu3, hf3, hlen3⟩
     have hR3 : Nx P G E σ.h w E3 h2 w3 := hx1.trans ⟨hle3, hr3, hf3, hlen3⟩
     obtain ⟨hD3, hO3, hlt3, L3, hL3, hLt3, hLp3, hLa3, hLb3, hLs3, hLd3⟩ := hr3.blk _ _ hn
     have hρ3 : E3.ρ σ.h.length = ⟨lb, 0, 0, 0⟩ := by rw [(hle3.D _ (.inr rfl)).2, XL]
     rw [hρ3] at hL3 hlt3 hO3
     simp only at hL3 hlt3 hO3
     have hx4 : Nx P G E3 h2 w3 E3 (h2.set σ.h.length none) (w3.putObj lb (.loop { L3 with state := .exhausted })) := by
      have hle4 : Le E3 w3 E3 (w3.putObj lb (.loop { L3 with state := .exhausted })) := ⟨rfl, rfl, ⟨rfl, Nat.le_refl _⟩, by simp, fun _ h => ⟨h, rfl⟩, fun _ h => h, fun b hb ho => ⟨World.putObj_heap_other fun e => ho (e ▸ hO3), ho, fun h => h⟩⟩
      have get : ∀ {i b}, (h2.set σ.h.length none)[i]? = some (some b) → h2[i]? = some (some b) ∧ i ≠ σ.h.length := fun {i b} hi => by
       by_cases e : σ.h.length = i
       ·subst e
        have := (List.getElem?_eq_some_iff.1 hn).1
        rw [List.getElem?_set_self this] at hi; simp at hi
       ·rw [List.getElem?_set_ne e] at hi; exact ⟨hi, fun h => e h.symm⟩
      refine ⟨hle4, ⟨fun i b hi => ?_, fun i j b c hi hj he => hr3.inj i j b c (get hi).1 (get hj).1 he, fun i hi => by simpa using hr3.lt i hi, fun b hb => by rw [World.putObj_size]; exact hr3.own b hb, fun b hb => by rw [World.putObj_size]; exact hr3.imm b hb, fun g r hg => hle4.vr hr3 (hr3.glob g r hg)⟩, .refl _ _, by simp⟩
      obtain ⟨g1, g2⟩ := get hi
      obtain ⟨b1, b2, b3, b4⟩ := hr3.blk i b g1
      exact ⟨b1, b2, by rw [World.putObj_size]; exact b3, br_mono b4 rfl (World.putObj_heap_other fun e => g2 (hr3.inj i _ _ _ g1 hn (by rw [e, hρ3]))) fun _ _ hv => hle4.vr hr3 hv⟩
     have hR4 : Run P G E σ.h w a.defers E3 (h2.set σ.h.length none) (w3.putObj lb (.loop { L3 with state := .exhausted })) σ.t { a with defers := mark ++ a.defers } :=
      ⟨hR3.trans hx4, (hR3.trans hx4).le.lr hr ht, (hmk.le hle3).le hx4.le⟩
     have hst' : L3.state ≠ .busy := by rw [hLs3]; exact hst
     refine ⟨_, _, run_endLoop hL3 hst', ?_⟩
     generalize w3.putObj lb (.loop { L3 with state := .exhausted }) = w4 at hR4 ⊢
     cases pd with
     | none =>
      simp only [ZA] at h
      simp at h
      obtain ⟨rfl, rfl⟩ := h
      cases hpend : L3.pending with
      | none => exact ⟨rfl, E3, hR4⟩
      | some c => rw [hpend] at hLd3; exact hLd3.elim
     | some c =>
      simp only [ZA] at h
      have hd4 : ∀ i, r = some i → E3.D i := fun i hi => (hR4.nx.le.D i (hd i hi)).1
      cases hpend : L3.pending with
      | none => rw [hpend] at hLd3; cases c <;> exact hLd3.elim
      | some c' =>
       rw [hpend] at hLd3
       have hcc : ZW P G c' = some (XI c) := by
        cases c <;> cases c' <;> simp only [pendR] at hLd3 <;> first | exact hLd3.elim | rfl | (subst hLd3; rfl)
       have := hex _ _ _ _ _ h c' E3 _ { a with defers := mark ++ a.defers } k hcc hR4.nx.hr hR4.lr hd4
       rw [fw_eq hR4.nx.le hd] at this
       exact wpIn_mono this fun x a2 w2 hq => post_trans hR4 hq
  ·simp at h
 ·simp at h
end
end Go.Abs
namespace Go.Abs
open Go
section
variable {P : Program} {G : Nat → Option (List Za)} {T : Nat → Option CFn} {ex : Option Nat → CC → St → Option (AEx × St)} {E E' E0 : Env} {h h' h0 : Zj} {w w' w0 : World} {t t' : List Za} {tmps : Array Value} {a a' : Act} {d : List Deferred} {e : AEx} {σ σ' : St} {c : CC} {v : Za}
variable {E2 : Env} {n : Nat}
theorem frN_succ (n : Nat) (h : Zj) (d : Nat) (v : Za) : frN n h (d + 1) v = frN1 n h (frN n h d) v := rfl
theorem above_get {i : Nat} {b : Blk} (hi : (above n h)[i]? = some (some b)) : n ≤ i ∧ h[i]? = some (some b) := by
 unfold above at hi
 by_cases e : i < n
 ·rw [List.getElem?_append_left (by simpa using e)] at hi
  simp [e] at hi
 ·rw [List.getElem?_append_right (by simpa using e)] at hi
  simp at hi
  rw [show n + (i - n) = i by omega] at hi
  exact ⟨by omega, hi⟩
theorem above_hr (hr : E.HR P G h w) (hn : n ≤ h.length) : E.HR P G (above n h) w :=
  ⟨fun i b hi => hr.blk i b (above_get hi).2, fun i j b c hi hj he => hr.inj i j b c (above_get hi).2 (above_get hj).2 he,
   fun i hi => by have := hr.lt i hi; simp [above]; omega, hr.own, hr.imm, hr.glob⟩
def NewB (E : Env) (n : Nat) (h : Zj) (b : Nat) : Prop := ∃ i c, n ≤ i ∧ h[i]? = some (some c) ∧ (E.ρ i).b = b
theorem frN_ok (hr : E.HR P G h w) (hn : n ≤ h.length) (hρ : E2.ρ = E.ρ) (hD : ∀ i, E.D i → i < n → E2.D i) (hI : ∀ b, E.I b → E2.I b) (hN : ∀ b, NewB E n h b → E2.I b) :
  ∀ (d : Nat) {v v' : Za} {u : Value}, E.VR w v u → frN n h d v = some v' → E2.VR w v' u := by
 intro d
 have fz : ∀ {v v' : Za} {u : Value}, E.VR w v u → frz false (above n h) 5 v = some v' → E2.VR w v' u := fun hv hf =>
  VR.mono (frz_ok (above_hr hr hn) (I' := E2.I) (ρ' := E2.ρ) (fun i b hi => hN _ ⟨i, b, (above_get hi).1, (above_get hi).2, rfl⟩) (fun _ b hb => hI b hb) 5 hv hf) _ (fun i hi => hi.elim) fun b hb => ⟨hb, rfl⟩
 induction d with
 | zero => intro v v' u _ hf; simp [frN] at hf
 | succ d ih =>
  intro v v' u hv hf
  rw [frN_succ] at hf
  cases hv with
  | any => simp [frN1] at hf; subst hf; exact .any _ _
  | und => simp [frN1] at hf; subst hf; exact .und _
  | bool => simp [frN1] at hf; subst hf; exact .bool _ _
  | int => simp [frN1] at hf; subst hf; exact .int _ _ _
  | nilp => simp [frN1] at hf; subst hf; exact .nilp _
  | nils => simp [frN1] at hf; subst hf; exact .nils _
  | nilm => simp [frN1] at hf; subst hf; exact .nilm _
  | nilf => simp [frN1] at hf; subst hf; exact .nilf _
  | mp _ i hi =>
   simp only [frN1] at hf
   split at hf <;> simp at hf
   rename_i hin
   subst hf
   rw [← hρ]
   exact .mp _ i (hD i hi hin)
  | yld _ i hi =>
   simp only [frN1] at hf
   split at hf <;> simp at hf
   rename_i hin
   subst hf
   rw [← hρ]
   exact .yld _ i (hD i hi hin)
  | ref _ i k o hi =>
   simp only [frN1] at hf
   split at hf
   ·rename_i hin
    simp at hf; subst hf
    rw [← hρ]
    exact .ref _ i k o (hD i hi hin)
   ·exact fz (.ref _ i k o hi) hf
  | sl _ i k m t a cap hi hm ht ha hs =>
   simp only [frN1] at hf
   split at hf
   ·rename_i hin
    simp at hf; subst hf
    rw [← hρ] at ha hs
    exact .sl _ i k m t a cap (hD i hi hin) hm ht ha hs
   ·exact fz (.sl _ i k m t a cap hi hm ht ha hs) hf
  | pv _ r o b off cv hb hc hx =>
   simp only [frN1] at hf
   simp at hf; subst hf
   exact .pv _ r o b off cv (hI b hb) hc fun j hj => VR.mono (hx j hj) _ (fun i hi => hi.elim) fun b hb => ⟨hI b hb, rfl⟩
  | vl _ rs t a cap b off e cv hm ht ha hb he hc hx =>
   simp only [frN1] at hf
   simp at hf; subst hf
   exact .vl _ rs t a cap b off e cv hm ht ha (fun h => hI b (hb h)) he hc fun k hk j hj => VR.mono (hx k hk j hj) _ (fun i hi => hi.elim) fun b hb => ⟨hI b hb, rfl⟩
  | agg _ xs cs hl hx =>
   simp only [frN1] at hf
   split at hf <;> simp at hf
   rename_i ys hy
   subst hf
   obtain ⟨g1, g2⟩ := ZJ hy
   exact .agg _ _ cs (by omega) fun j h1 h2 => ih (hx j (by omega) h2) (g2 j (by omega) h1)
  | tup _ xs cs hl hx =>
   simp only [frN1] at hf
   split at hf <;> simp at hf
   rename_i ys hy
   subst hf
   obtain ⟨g1, g2⟩ := ZJ hy
   exact .tup _ _ cs (by omega) fun j h1 h2 => ih (hx j (by omega) h2) (g2 j (by omega) h1)
  | fn _ f a b ca cb hla hlb ha hb =>
   simp only [frN1] at hf
   split at hf <;> simp at hf
   rename_i a' b' h1 h2
   subst hf
   obtain ⟨g1, g2⟩ := ZJ h1
   obtain ⟨g3, g4⟩ := ZJ h2
   exact .fn _ f _ _ ca cb (by omega) (by omega) (fun j j1 j2 => ih (ha j (by omega) j2) (g2 j (by omega) j1)) (fun j j1 j2 => ih (hb j (by omega) j2) (g4 j (by omega) j1))
theorem rbB_br (hρ : E2.ρ = E.ρ) (hv : ∀ v u, E.VR w v u → rb n 5 v = true → E2.VR w v u) {i : Nat} {b : Blk} (hb : E.BR P G w i b) (hrb : rbB n (some b) = true) : E2.BR P G w i b := by
 cases b with
 | row e rs =>
  obtain ⟨h1, h2, h3, c, el, h4, h5, h6⟩ := hb
  simp only [rbB, List.all_eq_true] at hrb
  refine ⟨by rw [hρ]; exact h1, h2, by rw [hρ]; exact h3, c, el, by rw [hρ]; exact h4, by rw [hρ]; exact h5, fun k r hk j x hj => ?_⟩
  obtain ⟨v, g1, g2⟩ := h6 k r hk j x hj
  exact ⟨v, by rw [hρ]; exact g1, hv _ _ g2 (hrb _ (List.mem_of_getElem? hk) _ (List.mem_of_getElem? hj))⟩
 | map es c =>
  obtain ⟨ces, h1, h2, h3⟩ := hb
  simp only [rbB, List.all_eq_true] at hrb
  refine ⟨ces, by rw [hρ]; exact h1, h2, fun j k v b hj => ?_⟩
  obtain ⟨ce, g1, g2, g3, g4⟩ := h3 j k v b hj
  have := hrb _ (List.mem_of_getElem? hj)
  simp only [Bool.and_eq_true] at this
  exact ⟨ce, g1, hv _ _ g2 this.1, hv _ _ g3 this.2, g4⟩
 | loop t ps asg bd st pd =>
  obtain ⟨L, h1, h2, h3⟩ := hb
  simp only [rbB, List.all_eq_true] at hrb
  exact ⟨L, by rw [hρ]; exact h1, ⟨h2.1, fun j j1 j2 => hv _ _ (h2.2 j j1 j2) (hrb _ (List.getElem_mem j1))⟩, h3⟩
theorem br_move {i j : Nat} {b : Blk} (hb : E.BR P G w i b) (hρ : E'.ρ j = E.ρ i) (hv : ∀ v cv, E.VR w v cv → E'.VR w v cv) : E'.BR P G w j b := by
 cases b with
 | row e rs =>
  obtain ⟨h1, h2, h3, c, el, h4, h5, h6⟩ := hb
  refine ⟨by rw [hρ]; exact h1, h2, by rw [hρ]; exact h3, c, el, by rw [hρ]; exact h4, by rw [hρ]; exact h5, fun k r hk j x hj => ?_⟩
  obtain ⟨u, h7, h8⟩ := h6 k r hk j x hj
  exact ⟨u, by rw [hρ]; exact h7, hv _ _ h8⟩
 | map es c =>
  obtain ⟨ces, h1, h2, h3⟩ := hb
  refine ⟨ces, by rw [hρ]; exact h1, h2, fun j k v b hj => ?_⟩
  obtain ⟨ce, g1, g2, g3, g4⟩ := h3 j k v b hj
  exact ⟨ce, g1, hv _ _ g2, hv _ _ g3, g4⟩
 | loop t ps asg bd st pd =>
  obtain ⟨L, h1, h2, h3⟩ := hb
  exact ⟨L, by rw [hρ]; exact h1, ⟨h2.1, fun j a b => hv _ _ (h2.2 j a b)⟩, h3⟩
def At (E : Env) (w : World) (tmps : Array Value) : RL → Value → Prop
 | .slot s, cv => ∀ x, tmps[s]? = some x → x = cv
 | .cell i k o, cv => ∀ (c : Array Value) (el : TypeId), w.heap[(E.ρ i).b]? = some (.cells c el (0, 0)) → ∀ x, c[(E.ρ i).d + k * (E.ρ i).e + o]? = some x → x = cv
theorem lr_putG {s : Nat} {cv : Value} (ht : E.LR w t tmps) (ha : At E w tmps (.slot s) cv) (hv : E.VR w v cv) : E.LR w (t.set s v) tmps := by
 rw [lr_iff] at *
 refine ⟨by simp [ht.1], fun j x u h1 h2 => ?_⟩
 by_cases e : s = j
 ·subst e
  have hs : s < t.length := by simpa using (List.getElem?_eq_some_iff.1 h1).1
  rw [List.getElem?_set_self hs] at h1
  simp at h1; subst h1
  rw [ha u h2]; exact hv
 ·rw [List.getElem?_set_ne e] at h1
  exact ht.2 j x u h1 h2
theorem put_ok (hr : E.HR P G h w) (ht : E.LR w t tmps) {p : RL} {cv : Value} (ha : At E w tmps p cv) (hv : E.VR w v cv) (hp : putR v t h p = some (t', h')) :
  E.HR P G h' w ∧ E.LR w t' tmps ∧ h'.length = h.length ∧ ∀ (i : Nat) (c : Blk), h'[i]? = some (some c) → ∃ c', h[i]? = some (some c') := by
 cases p with
 | slot s =>
  simp only [putR, Option.some.injEq, Prod.mk.injEq] at hp
  obtain ⟨rfl, rfl⟩ := hp
  exact ⟨hr, lr_putG ht ha hv, rfl, fun i c hi => ⟨c, hi⟩⟩
 | cell i k o =>
  simp only [putR] at hp
  split at hp
  ·rename_i e rs hrow
   split at hp <;> simp at hp
   rename_i r hk
   obtain ⟨rfl, rfl⟩ := hp
   have hi := rowAt_some hrow
   rw [Zz] at hk
   obtain ⟨_, hlen, hrs⟩ := hr.blk i _ hi
   refine ⟨(hr_upd (w' := w) hr hi (fun _ _ => rfl) rfl rfl rfl ⟨rfl, Nat.le_refl _⟩ (fun _ => ?_)).2, ht, by simp, fun j c hj => ?_⟩
   ·obtain ⟨_, _, _, b1, b2, b3, c, el, b4, b5, b6⟩ := hr.blk i _ hi
    refine ⟨b1, fun q hq => ?_, by simpa using b3, c, el, b4, b5, fun k' r' hk' j x hj => ?_⟩
    ·rcases List.mem_or_eq_of_mem_set hq with hq | rfl
     ·exact b2 q hq
     ·simp; exact b2 r (List.mem_of_getElem? hk)
    ·by_cases hkk : k = k'
     ·subst hkk
      have hlt : k < rs.length := (List.getElem?_eq_some_iff.1 hk).1
      rw [List.getElem?_set_self hlt] at hk'
      simp at hk'; subst hk'
      by_cases hoj : o = j
      ·subst hoj
       have ho : o < r.length := by simpa using (List.getElem?_eq_some_iff.1 hj).1
       rw [List.getElem?_set_self ho] at hj
       simp at hj; subst hj
       obtain ⟨u, g1, g2⟩ := b6 k r hk o _ (List.getElem?_eq_getElem ho)
       refine ⟨u, g1, ?_⟩
       have := ha c el b4 u (by rw [← g1, b1])
       rw [this]; exact hv
      ·rw [List.getElem?_set_ne hoj] at hj
       exact b6 k r hk j x hj
     ·rw [List.getElem?_set_ne hkk] at hk'
      exact b6 k' r' hk' j x hj
   ·by_cases hij : i = j
    ·subst hij; exact ⟨_, hi⟩
    ·rw [List.getElem?_set_ne hij] at hj; exact ⟨c, hj⟩
  ·simp at hp
theorem drop_ok (hr : E.HR P G h w) (b : Nat) : E.HR P G (h.set b none) w := by
 have get : ∀ {i c}, (h.set b none)[i]? = some (some c) → h[i]? = some (some c) := fun {i c} hi => by
  by_cases e : b = i
  ·subst e
   by_cases hb : b < h.length
   ·rw [List.getElem?_set_self hb] at hi; simp at hi
   ·rw [List.getElem?_eq_none (by simp; omega)] at hi; simp at hi
  ·rwa [List.getElem?_set_ne e] at hi
 exact ⟨fun i c hi => hr.blk i c (get hi), fun i j c d hi hj he => hr.inj i j c d (get hi) (get hj) he, fun i hi => by simpa using hr.lt i hi, hr.own, hr.imm, hr.glob⟩
def SlAt (l : Loc) (k n : Nat) (t : Bool) (cv : Value) : Prop := ∃ a cap, cv = .slice (some a) n cap ∧ n ≤ cap ∧ (t = true → cap = n) ∧ (cap = 0 ∨ a = ⟨l.b, l.d + k * l.e, none⟩) ∧ l.d + (k + cap) * l.e ≤ l.s
def AccOk (P : Program) (G : Nat → Option (List Za)) (E : Env) (w : World) (tmps : Array Value) (hF : Zj) : List (Option GA) → Prop
 | [] => True
 | none :: acc => AccOk P G E w tmps hF acc
 | some x :: acc => ((∃ cv, At E w tmps x.p cv ∧ SlAt (E.ρ x.b) x.k x.n x.tt cv) ∧ E.O (E.ρ x.b).b ∧ (E.ρ x.b).b < w.heap.size ∧ E.BR P G w x.b x.blk ∧ (∀ i c, hF[i]? = some (some c) → (E.ρ i).b ≠ (E.ρ x.b).b) ∧
   ∀ y, some y ∈ acc → (E.ρ y.b).b ≠ (E.ρ x.b).b) ∧ AccOk P G E w tmps hF acc
theorem at_of (hr : E.HR P G h w) (ht : E.LR w t tmps) {p : RL} (hp : getR t h p = some v) : ∃ cv, At E w tmps p cv ∧ E.VR w v cv := by
 cases p with
 | slot s =>
  simp only [getR, Zz] at hp
  have h1 := (List.getElem?_eq_some_iff.1 hp).1
  have h2 : s < tmps.size := ht.1 ▸ h1
  refine ⟨tmps[s], fun x hx => ?_, ?_⟩
  ·rw [Array.getElem?_eq_getElem h2] at hx; simpa using hx.symm
  ·have := ht.2 s h1 h2
   rw [List.getElem?_eq_getElem h1] at hp
   simp at hp; subst hp; exact this
 | cell i k o =>
  simp only [getR] at hp
  split at hp
  ·rename_i e rs hrow
   split at hp <;> (try (simp at hp; done))
   rename_i r hk
   rw [Zz] at hk hp
   obtain ⟨_, _, _, b1, b2, b3, c, el, b4, b5, b6⟩ := hr.blk i _ (rowAt_some hrow)
   obtain ⟨u, g1, g2⟩ := b6 k r hk o v hp
   refine ⟨u, fun c' el' hc x hx => ?_, g2⟩
   rw [b4] at hc
   simp at hc
   obtain ⟨rfl, rfl⟩ := hc
   rw [b1, g1] at hx
   simpa using hx.symm
  ·simp at hp
theorem take_ok : ∀ (gs : List GL) (t : List Za) (h : Zj) (t1 : List Za) (h1 : Zj) (acc : List (Option GA)), E.HR P G h w → E.LR w t tmps → takeG gs t h = some (t1, h1, acc) →
  E.HR P G h1 w ∧ E.LR w t1 tmps ∧ h1.length = h.length ∧ (∀ (i : Nat) (c : Blk), h1[i]? = some (some c) → ∃ c', h[i]? = some (some c')) ∧ AccOk P G E w tmps h1 acc ∧ (∀ y : GA, some y ∈ acc → ∃ c', h[y.b]? = some (some c'))
 | [], t, h, t1, h1, acc, hr, ht, hg => by
  simp only [takeG, Option.some.injEq, Prod.mk.injEq] at hg
  obtain ⟨rfl, rfl, rfl⟩ := hg
  exact ⟨hr, ht, rfl, fun i c hi => ⟨c, hi⟩, trivial, by simp⟩
 | g :: gs, t, h, t1, h1, acc, hr, ht, hg => by
  simp only [takeG] at hg
  split at hg
  ·rename_i p hp
   split at hg
   ·rename_i b k n tt hget
    split at hg
    ·rename_i e rs hrow
     split at hg
     ·rename_i t2 h2 hput
      split at hg <;> simp at hg
      rename_i t3 h3 acc3 htk
      obtain ⟨rfl, rfl, rfl⟩ := hg
      have hb := rowAt_some hrow
      obtain ⟨cv, hat, hv⟩ := at_of hr ht hget
      obtain ⟨aa, cap, hcv, hD, q1, q2, q3, q4⟩ := VR.sl_inv hv
      obtain ⟨x1, x2, x3, x4⟩ := put_ok (drop_ok hr b) ht hat (.any _ _) hput
      obtain ⟨y1, y2, y3, y4, y5, y6⟩ := take_ok gs t2 h2 t3 h3 acc3 x1 x2 htk
      have sub : ∀ i c, h2[i]? = some (some c) → i ≠ b ∧ ∃ c', h[i]? = some (some c') := fun i c hi => by
       obtain ⟨c', hc'⟩ := x4 i c hi
       have hib : i ≠ b := by
        intro e; subst e
        rw [List.getElem?_set_self (List.getElem?_eq_some_iff.1 hb).1] at hc'; simp at hc'
       refine ⟨hib, c', ?_⟩
       rwa [List.getElem?_set_ne (fun e => hib e.symm)] at hc'
      obtain ⟨b1, b2, b3, b4⟩ := hr.blk b _ hb
      refine ⟨y1, y2, by rw [y3, x3]; simp, fun i c hi => ?_, ⟨⟨⟨cv, hat, aa, cap, hcv, q1, q2, q3, q4⟩, b2, b3, b4, fun i c hi he => ?_, fun y hy he => ?_⟩, y5⟩, fun y hy => ?_⟩
      ·obtain ⟨c', hc'⟩ := y4 i c hi
       exact (sub i c' hc').2
      ·obtain ⟨c', hc'⟩ := y4 i c hi
       obtain ⟨hne, c2, hc2⟩ := sub i c' hc'
       exact hne (hr.inj i b _ _ hc2 hb he)
      ·obtain ⟨c', hc'⟩ := y6 y hy
       obtain ⟨hne, c2, hc2⟩ := sub y.b c' hc'
       exact hne (hr.inj y.b b _ _ hc2 hb he)
      ·rcases List.mem_cons.1 hy with e | hy
       ·simp at e; subst e; exact ⟨_, hb⟩
       ·obtain ⟨c', hc'⟩ := y6 y hy
        exact (sub y.b c' hc').2
     ·simp at hg
    ·simp at hg
   ·split at hg <;> simp at hg
    rename_i t3 h3 acc3 htk
    obtain ⟨rfl, rfl, rfl⟩ := hg
    obtain ⟨y1, y2, y3, y4, y5, y6⟩ := take_ok gs t h t3 h3 acc3 hr ht htk
    exact ⟨y1, y2, y3, y4, y5, fun y hy => by
     rcases List.mem_cons.1 hy with e | hy
     ·simp at e
     ·exact y6 y hy⟩
   ·simp at hg
  ·simp at hg
def BRL (P : Program) (G : Nat → Option (List Za)) (E : Env) (w : World) (l : Loc) (b : Blk) : Prop := ∃ (E1 : Env) (i : Nat), E1.ρ i = l ∧ E1.BR P G w i b ∧ ∀ v cv, E1.VR w v cv → E.VR w v cv
def PutOk (P : Program) (G : Nat → Option (List Za)) (E : Env) (w : World) (tmps : Array Value) (h : Zj) (L : Nat → Loc) (n0 : Nat) : List (Option GA) → Prop
 | [] => True
 | none :: acc => PutOk P G E w tmps h L n0 acc
 | some x :: acc => ((∃ cv, At E w tmps x.p cv ∧ SlAt (L x.b) x.k x.n x.tt cv) ∧ E.O (L x.b).b ∧ (L x.b).b < w.heap.size ∧ BRL P G E w (L x.b) x.blk ∧ (∀ i c, h[i]? = some (some c) → (E.ρ i).b ≠ (L x.b).b) ∧
   lowR n0 x.p = true ∧ ∀ y, some y ∈ acc → (L y.b).b ≠ (L x.b).b) ∧ PutOk P G E w tmps h L n0 acc
theorem putok_mono {L : Nat → Loc} {n0 : Nat} {l : Loc} (hO : ∀ b, E.O b → E'.O b) (hv : ∀ v cv, E.VR w v cv → E'.VR w v cv) (hρ : ∀ i, i < n0 → E'.ρ i = E.ρ i) :
  ∀ (acc : List (Option GA)), (∀ i c, h'[i]? = some (some c) → (∃ c', h[i]? = some (some c') ∧ E'.ρ i = E.ρ i) ∨ E'.ρ i = l) → (∀ y, some y ∈ acc → (L y.b).b ≠ l.b) → PutOk P G E w tmps h L n0 acc → PutOk P G E' w tmps h' L n0 acc
 | [], _, _, _ => trivial
 | none :: acc, hh, hl, hp => putok_mono hO hv hρ acc hh (fun y hy => hl y (List.mem_cons_of_mem _ hy)) hp
 | some x :: acc, hh, hl, ⟨⟨⟨cv, ha, hs⟩, h1, h2, ⟨E1, i, e1, e2, e3⟩, h4, h5, h6⟩, hp⟩ => by
  refine ⟨⟨⟨cv, ?_, hs⟩, hO _ h1, h2, ⟨E1, i, e1, e2, fun v cv h => hv _ _ (e3 _ _ h)⟩, fun i c hi => ?_, h5, h6⟩, putok_mono hO hv hρ acc hh (fun y hy => hl y (List.mem_cons_of_mem _ hy)) hp⟩
  ·cases hp : x.p with
   | slot s => rw [hp] at ha; exact ha
   | cell i k o =>
    rw [hp] at ha h5
    simp only [lowR, decide_eq_true_eq] at h5
    simp only [At] at *
    rw [hρ i h5]; exact ha
  ·rcases hh i c hi with ⟨c', hc', e⟩ | e
   ·rw [e]; exact h4 i c' hc'
   ·rw [e]; exact fun e => hl x (by simp) e.symm
theorem hr_none (hr : E.HR P G h w) : E.HR P G (h ++ [none]) w := by
 have get : ∀ {i c}, (h ++ [none])[i]? = some (some c) → h[i]? = some (some c) := fun {i c} hi => by
  by_cases hl : i < h.length
  ·rwa [List.getElem?_append_left hl] at hi
  ·rw [List.getElem?_append_right (by omega)] at hi
   have : i - h.length = 0 := by
    have := (List.getElem?_eq_some_iff.1 hi).1
    simp at this; omega
   rw [this] at hi; simp at hi
 exact ⟨fun i c hi => hr.blk i c (get hi), fun i j c d hi hj he => hr.inj i j c d (get hi) (get hj) he, fun i hi => by have := hr.lt i hi; simp; omega, hr.own, hr.imm, hr.glob⟩
theorem putG_ok {L : Nat → Loc} {n0 : Nat} : ∀ (acc : List (Option GA)) (E : Env) (t : List Za) (h : Zj) (t' : List Za) (h' : Zj), n0 ≤ h.length → E.HR P G h w → E.LR w t tmps → PutOk P G E w tmps h L n0 acc → putG acc t h = some (t', h') →
  ∃ E', Nx P G E h w E' h' w ∧ E'.LR w t' tmps ∧ (∀ b, E'.O b → E.O b) ∧ E'.I = E.I
 | [], E, t, h, t', h', hn, hr, ht, hp, hg => by
  simp only [putG, Option.some.injEq, Prod.mk.injEq] at hg
  obtain ⟨rfl, rfl⟩ := hg
  exact ⟨E, .refl hr, ht, fun _ h => h, rfl⟩
 | none :: acc, E, t, h, t', h', hn, hr, ht, hp, hg => by
  simp only [putG] at hg
  have hp' : PutOk P G E w tmps (h ++ [none]) L n0 acc := by
   refine putok_mono (E' := E) (l := ⟨w.heap.size, 0, 0, 0⟩) (fun _ h => h) (fun _ _ h => h) (fun _ _ => rfl) acc (fun i c hi => .inl ?_) (fun y hy e => ?_) hp
   ·by_cases hl : i < h.length
    ·rw [List.getElem?_append_left hl] at hi; exact ⟨c, hi, rfl⟩
    ·rw [List.getElem?_append_right (by omega)] at hi
     have : i - h.length = 0 := by
      have := (List.getElem?_eq_some_iff.1 hi).1
      simp at this; omega
     rw [this] at hi; simp at hi
   ·have key : ∀ (acc : List (Option GA)), PutOk P G E w tmps h L n0 acc → ∀ y, some y ∈ acc → (L y.b).b < w.heap.size := by
     intro acc
     induction acc with
     | nil => intro _ y hy; simp at hy
     | cons z acc ih =>
      intro hp y hy
      cases z with
      | none => exact ih hp y (by simpa using hy)
      | some z =>
       rcases List.mem_cons.1 hy with e | hy
       ·simp at e; subst e; exact hp.1.2.2.1
       ·exact ih hp.2 y hy
    have := key acc hp y hy
    rw [e] at this
    exact Nat.lt_irrefl _ this
  obtain ⟨E', g1, g2, g3, g4⟩ := putG_ok acc E t (h ++ [none]) t' h' (by simp; omega) (hr_none hr) ht hp' hg
  have hx : Nx P G E h w E (h ++ [none]) w := ⟨.refl _ _, hr_none hr, .refl _ _, by simp⟩
  exact ⟨E', hx.trans g1, g2, g3, g4⟩
 | some x :: acc, E, t, h, t', h', hn, hr, ht, ⟨⟨⟨cv, ha, hs⟩, h1, h2, ⟨E1, i, e1, e2, e3⟩, h4, h5, h6⟩, hp⟩, hg => by
  simp only [putG] at hg
  split at hg
  ·rename_i t2 h2' hput
   have hD : ¬ E.D h.length := fun hd => Nat.lt_irrefl _ (hr.lt _ hd)
   have hρ : ∀ j, j ≠ h.length → (E.add h.length (L x.b)).ρ j = E.ρ j := fun j hj => by simp [Env.add, hj]
   have hle : Le E w (E.add h.length (L x.b)) w := ⟨rfl, rfl, ⟨rfl, Nat.le_refl _⟩, Nat.le_refl _, fun j hj => ⟨.inl hj, hρ j fun e => hD (e ▸ hj)⟩, fun _ hb => hb, fun k hk ho => ⟨rfl, by
    rintro (g1 | g1)
    ·exact ho g1
    ·rw [g1] at ho; exact ho h1, fun h => h⟩⟩
   have hv : ∀ v cv, E.VR w v cv → (E.add h.length (L x.b)).VR w v cv := fun _ _ hv => hle.vr hr hv
   have hr1 : (E.add h.length (L x.b)).HR P G (h ++ [some x.blk]) w := hr_push hr hle h rfl (fun j c hj => ⟨hj, rfl, h4 j c hj⟩) h2 (fun hI => (hr.imm _ hI).2 h1) (br_move e2 (by rw [XL, e1]) fun _ _ g => hv _ _ (e3 _ _ g))
   have ht1 : (E.add h.length (L x.b)).LR w t tmps := hle.lr hr ht
   have ha1 : At (E.add h.length (L x.b)) w tmps x.p cv := by
    cases hxp : x.p with
    | slot s => rw [hxp] at ha; exact ha
    | cell i k o =>
     rw [hxp] at ha h5
     simp only [lowR, decide_eq_true_eq] at h5
     simp only [At] at *
     rw [hρ i (by omega)]; exact ha
   have hsv : (E.add h.length (L x.b)).VR w (.sl h.length x.k x.n x.tt) cv := by
    obtain ⟨aa, cap, rfl, q1, q2, q3, q4⟩ := hs
    exact .sl _ _ _ _ _ aa cap (.inr rfl) q1 q2 (by rw [XL]; exact q3) (by rw [XL]; exact q4)
   obtain ⟨x1, x2, x3, x4⟩ := put_ok hr1 ht1 ha1 hsv hput
   have hp' : PutOk P G (E.add h.length (L x.b)) w tmps h2' L n0 acc := by
    refine putok_mono (E' := E.add h.length (L x.b)) (l := L x.b) (fun _ h => .inl h) hv (fun i hi => hρ i (by omega)) acc (fun i c hi => ?_) h6 hp
    obtain ⟨c', hc'⟩ := x4 i c hi
    by_cases hl : i < h.length
    ·rw [List.getElem?_append_left hl] at hc'
     exact .inl ⟨c', hc', hρ i (by omega)⟩
    ·have : i < (h ++ [some x.blk]).length := (List.getElem?_eq_some_iff.1 hc').1
     simp at this
     obtain rfl : i = h.length := by omega
     exact .inr (XL _ _)
   have hlen : h2'.length = h.length + 1 := by rw [x3]; simp
   obtain ⟨E', g1, g2, g3, g4⟩ := putG_ok acc _ t2 h2' t' h' (by omega) x1 x2 hp' hg
   have hx : Nx P G E h w (E.add h.length (L x.b)) h2' w := ⟨hle, x1, .add _ _ _ (Nat.le_refl _), by omega⟩
   exact ⟨E', hx.trans g1, g2, fun b hb => (g3 b hb).elim id fun e => e ▸ h1, g4⟩
  ·simp at hg
theorem gather_ok {base : Nat} {gs : List GL} (hr0 : E0.HR P G h0 w0) (hb : h0.length = base) (hx : Nx P G E0 h0 w0 E h w) (ht : E.LR w t tmps) (hg : gather base gs t h = some (t', h')) :
  ∃ E', Nx P G E0 h0 w0 E' h' w ∧ E'.LR w t' tmps ∧ (∀ b, E'.O b → E.O b) ∧ (∀ b, E'.I b → E.I b ∨ E.O b) := by
 subst hb
 unfold gather at hg
 split at hg
 ·rename_i t1 h1 acc htk
  split at hg
  ·rename_i hc
   simp only [Bool.and_eq_true] at hc
   obtain ⟨⟨hc1, hc2⟩, hc3⟩ := hc
   obtain ⟨y1, y2, y3, y4, y5, y6⟩ := take_ok gs t h t1 h1 acc hx.hr ht htk
   have get : ∀ {i b}, (List.take h0.length h1)[i]? = some (some b) → i < h0.length ∧ h1[i]? = some (some b) := fun {i b} hi => by
    have g1 := (List.getElem?_eq_some_iff.1 hi).1
    simp at g1
    have g1' : i < h0.length := by omega
    exact ⟨g1', by rwa [List.getElem?_take_of_lt g1'] at hi⟩
   have hl := hx.le
   have hx2 : Nx P G E0 h0 w0 { E with D := fun i => E.D i ∧ i < h0.length } (h1.take h0.length) w := by
    refine ⟨⟨hl.os, hl.tape, hl.output, hl.size, fun i hi => ⟨⟨(hl.D i hi).1, hr0.lt i hi⟩, (hl.D i hi).2⟩, hl.I, hl.old⟩, ?_, fun j hj => ?_, ?_⟩
    ·refine ⟨fun i b hi => ?_, fun i j b c hi hj he => y1.inj i j b c (get hi).2 (get hj).2 he, fun i hi => ?_, y1.own, y1.imm, fun g r hg => ?_⟩
     ·obtain ⟨h1, h2⟩ := get hi
      obtain ⟨g1, g2, g3, g4⟩ := y1.blk i b h2
      exact ⟨⟨g1, h1⟩, g2, g3, br_trim g4 (List.all_eq_true.1 hc2 _ (List.mem_of_getElem? hi))⟩
     ·have := y1.lt i hi.1
      have := hi.2
      simp; omega
     ·have := y1.glob g r hg
      generalize hp : Value.pointer (some ⟨g, 0, none⟩) = pv at this ⊢
      cases this with
      | pv _ _ _ b off cv hb hc h => exact .pv _ _ _ b off cv hb hc h
    ·exact hx.fr j hj.1
    ·have := hx.len; simp; omega
   have ht2 : Env.LR { E with D := fun i => E.D i ∧ i < h0.length } w t1 tmps := lr_trim y2 hc1
   have hp : PutOk P G { E with D := fun i => E.D i ∧ i < h0.length } w tmps (h1.take h0.length) E.ρ h0.length acc := by
    clear hg y6 htk
    induction acc with
    | nil => trivial
    | cons x acc ih =>
     simp only [List.all_cons, Bool.and_eq_true] at hc3
     cases x with
     | none => exact ih hc3.2 y5
     | some x =>
      obtain ⟨⟨⟨cv, a1, a2⟩, a3, a4, a5, a6, a7⟩, a8⟩ := y5
      have h3 := hc3.1
      simp only [okG, Bool.and_eq_true] at h3
      refine ⟨⟨⟨cv, ?_, a2⟩, a3, a4, ⟨{ E with D := fun i => E.D i ∧ i < h0.length }, x.b, rfl, br_trim a5 h3.1, fun _ _ h => h⟩, fun i c hi => a6 i c (get hi).2, h3.2, a7⟩, ih hc3.2 a8⟩
      cases hxp : x.p with
      | slot s => rw [hxp] at a1; exact a1
      | cell i k o => rw [hxp] at a1; exact a1
   obtain ⟨E', g1, g2, g3, g4⟩ := putG_ok (L := E.ρ) (n0 := h0.length) acc _ t1 _ t' h' (by have := hx2.len; exact this) hx2.hr ht2 hp hg
   exact ⟨E', hx2.trans g1, g2, g3, fun b hb => .inl (by rw [g4] at hb; exact hb)⟩
  ·rename_i hneg
   clear hneg
   split at hg <;> (try (simp at hg; done))
   rename_i hc
   split at hg <;> (try (simp at hg; done))
   rename_i acc2 hfz
   simp only [Bool.and_eq_true] at hc
   obtain ⟨⟨hc1, hc2⟩, hc3⟩ := hc
   obtain ⟨y1, y2, y3, y4, y5, y6⟩ := take_ok gs t h t1 h1 acc hx.hr ht htk
   have hlen : h0.length ≤ h1.length := by have := hx.len; omega
   have get : ∀ {i b}, (List.take h0.length h1)[i]? = some (some b) → i < h0.length ∧ h1[i]? = some (some b) := fun {i b} hi => by
    have g1 := (List.getElem?_eq_some_iff.1 hi).1
    simp at g1
    have g1' : i < h0.length := by omega
    exact ⟨g1', by rwa [List.getElem?_take_of_lt g1'] at hi⟩
   have hl := hx.le
   let E2 : Env := ⟨E.ρ, fun i => E.D i ∧ i < h0.length, fun b => E.O b ∧ ¬ NewB E h0.length h1 b, fun b => E.I b ∨ NewB E h0.length h1 b⟩
   have hD2 : ∀ i, E.D i → i < h0.length → E2.D i := fun i h1 h2 => ⟨h1, h2⟩
   have hI2 : ∀ b, E.I b → E2.I b := fun b hb => .inl hb
   have hN2 : ∀ b, NewB E h0.length h1 b → E2.I b := fun b hb => .inr hb
   have hvr : ∀ (d : Nat) {v v' : Za} {u : Value}, E.VR w v u → frN h0.length h1 d v = some v' → E2.VR w v' u := fun d _ _ _ => frN_ok (E2 := E2) y1 hlen rfl hD2 hI2 hN2 d
   have hlo : ∀ v u, E.VR w v u → rb h0.length 5 v = true → E2.VR w v u := fun v u hv hb =>
    VR.mono (VR.trim 5 hv hb) _ (fun i hi => ⟨⟨hi.1, hi.2⟩, rfl⟩) fun b hb => ⟨.inl hb, rfl⟩
   have hNO : ∀ b, NewB E h0.length h1 b → E.O b := fun b ⟨i, c, _, hi, he⟩ => he ▸ (y1.blk i c hi).2.1
   have hx2 : Nx P G E0 h0 w0 E2 (h1.take h0.length) w := by
    refine ⟨⟨hl.os, hl.tape, hl.output, hl.size, fun i hi => ⟨⟨(hl.D i hi).1, hr0.lt i hi⟩, (hl.D i hi).2⟩, fun b hb => .inl (hl.I b hb), fun b hb ho =>
     ⟨(hl.old b hb ho).1, fun h => (hl.old b hb ho).2.1 h.1, fun h => h.elim (hl.old b hb ho).2.2 fun h => absurd (hNO b h) (hl.old b hb ho).2.1⟩⟩, ?_, fun j hj => hx.fr j hj.1, ?_⟩
    ·refine ⟨fun i b hi => ?_, fun i j b c hi hj he => y1.inj i j b c (get hi).2 (get hj).2 he, fun i hi => ?_, fun b hb => y1.own b hb.1, fun b hb => ?_, fun g r hg => ?_⟩
     ·obtain ⟨hin, hb⟩ := get hi
      obtain ⟨b1, b3, b4, b5⟩ := y1.blk i b hb
      refine ⟨⟨b1, hin⟩, ⟨b3, fun ⟨j, c, hj1, hj2, hj3⟩ => ?_⟩, b4, rbB_br (E := E) (E2 := E2) rfl hlo b5 (List.all_eq_true.1 hc2 _ (List.mem_of_getElem? hi))⟩
      have := y1.inj j i c b hj2 hb hj3
      omega
     ·have := hi.2
      simp; omega
     ·rcases hb with hb | hb
      ·exact ⟨(y1.imm b hb).1, fun h => (y1.imm b hb).2 h.1⟩
      ·obtain ⟨i, c, _, hi, he⟩ := id hb
       exact ⟨he ▸ (y1.blk i c hi).2.2.1, fun h => h.2 hb⟩
     ·have := y1.glob g r hg
      generalize hp : Value.pointer (some ⟨g, 0, none⟩) = pv at this ⊢
      cases this with
      | pv _ _ _ b off cv hb hc h => exact .pv _ _ _ b off cv (hI2 b hb) hc fun j hj => VR.mono (h j hj) _ (fun i hi => hi.elim) fun b hb => ⟨hI2 b hb, rfl⟩
    ·have := hx.len; simp; omega
   have ht2 : E2.LR w t1 tmps := ⟨y2.1, fun j j1 j2 => hlo _ _ (y2.2 j j1 j2) (List.all_eq_true.1 hc1 _ (List.getElem_mem j1))⟩
   have hp : PutOk P G E2 w tmps (h1.take h0.length) E.ρ h0.length acc2 ∧ ∀ y, some y ∈ acc2 → ∃ z, some z ∈ acc ∧ z.b = y.b := by
    clear hg y6 htk
    induction acc generalizing acc2 with
    | nil => simp only [frzG, Option.some.injEq] at hfz; subst hfz; exact ⟨trivial, by simp⟩
    | cons x acc ih =>
     simp only [List.all_cons, Bool.and_eq_true] at hc3
     cases x with
     | none =>
      simp only [frzG] at hfz
      split at hfz <;> simp at hfz
      rename_i acc3 h3
      subst hfz
      obtain ⟨k1, k2⟩ := ih acc3 h3 hc3.2 y5
      refine ⟨k1, fun y hy => ?_⟩
      obtain ⟨z, hz, e⟩ := k2 y (by simpa using hy)
      exact ⟨z, by simp [hz], e⟩
     | some x =>
      obtain ⟨⟨⟨cv, a1, a2⟩, a3, a4, a5, a6, a7⟩, a8⟩ := y5
      obtain ⟨xp, xb, xk, xn, xt, blk⟩ := x
      cases blk with
      | map => simp [frzG] at hfz
      | loop => simp [frzG] at hfz
      | row e rs =>
       simp only [frzG] at hfz
       split at hfz <;> simp at hfz
       rename_i rs2 acc3 hrs h3
       subst hfz
       obtain ⟨k1, k2⟩ := ih acc3 h3 hc3.2 a8
       have hlw := hc3.1
       simp only [lowA] at hlw
       refine ⟨⟨⟨⟨cv, ?_, a2⟩, ⟨a3, fun ⟨j, c, _, hj2, hj3⟩ => a6 j c hj2 hj3⟩, a4, ⟨E2, xb, rfl, ?_, fun _ _ h => h⟩, fun i c hi => a6 i c (get hi).2, hlw, fun y hy => ?_⟩, k1⟩, fun y hy => ?_⟩
       ·cases xp with
        | slot s => exact a1
        | cell i k o => exact a1
       ·obtain ⟨k1, k2⟩ := ZJ hrs
        obtain ⟨c1, c2, c3, c, el, c4, c5, c6⟩ := a5
        refine ⟨c1, fun r hr => ?_, by rw [← k1]; exact c3, c, el, c4, c5, fun k r hk j x hj => ?_⟩
        ·obtain ⟨q, hq, rfl⟩ := List.mem_iff_getElem.1 hr
         rw [← (ZJ (k2 q (by omega) hq)).1]
         exact c2 _ (List.getElem_mem _)
        ·obtain ⟨hk1, rfl⟩ := List.getElem?_eq_some_iff.1 hk
         obtain ⟨hj1, rfl⟩ := List.getElem?_eq_some_iff.1 hj
         obtain ⟨q1, q2⟩ := ZJ (k2 k (by omega) hk1)
         obtain ⟨v, m1, m2⟩ := c6 k _ (List.getElem?_eq_getElem (by omega)) j _ (List.getElem?_eq_getElem (by omega))
         exact ⟨v, m1, hvr 5 m2 (q2 j (by omega) hj1)⟩
       ·obtain ⟨z, hz, e⟩ := k2 y hy
        have := a7 z hz
        rwa [e] at this
       ·rcases List.mem_cons.1 hy with e | hy
        ·simp at e; subst e; exact ⟨⟨xp, xb, xk, xn, xt, .row e rs⟩, by simp, rfl⟩
        ·obtain ⟨z, hz, e⟩ := k2 y hy
         exact ⟨z, by simp [hz], e⟩
   obtain ⟨E', g1, g2, g3, g4⟩ := putG_ok (L := E.ρ) (n0 := h0.length) acc2 _ t1 _ t' h' (by have := hx2.len; exact this) hx2.hr ht2 hp.1 hg
   exact ⟨E', hx2.trans g1, g2, fun b hb => (g3 b hb).1, fun b hb => by
    rw [g4] at hb
    exact hb.imp id fun h => hNO b h⟩
 ·simp at hg
theorem go_gather {base : Nat} {gs : List GL} (hr0 : E0.HR P G h0 w0) (hb : h0.length = base) (hR : Run P G E0 h0 w0 d E h w t a) (keep : Nat) (hg : gather base gs (Xj t keep) h = some (t', h')) : ∃ E2, Run P G E0 h0 w0 d E2 h' w t' a := by
 obtain ⟨E2, h1, h2, h3, h4⟩ := gather_ok hr0 hb hR.nx (kill_lr t keep _ hR.lr) hg
 refine ⟨E2, h1, h2, ?_⟩
 obtain ⟨bs, g1, g2, g3⟩ := hR.mks
 exact ⟨bs, g1, g2, fun b hb => by
  obtain ⟨a1, a2, a3, a4, a5⟩ := g3 b hb
  exact ⟨a1, a2, a3, fun h => a4 (h3 b h), fun h => (h4 b h).elim a5 a4⟩⟩
def SoundN (P : Program) (G : Nat → Option (List Za)) (n : Nat) (r : Option Nat) (base : Nat) (c : CC) (σ : St) (e : AEx) (σ' : St) : Prop :=
 ∀ (p : Code) (E0 : Env) (h0 : Zj) (w0 : World) (d : List Deferred) (E : Env) (w : World) (a : Act) (k : Nat), ZW P G p = some (XI c) → h0.length = base → E0.HR P G h0 w0 → Run P G E0 h0 w0 d E σ.h w σ.t a → (∀ i, r = some i → E0.D i) →
  Code.roundsIn (FW (r.map fun i => (E0.ρ i).b)) k P p (Post P G E0 h0 w0 d e σ') n a w
theorem loopN_step (n : Nat) {r : Option Nat} {base keep : Nat} {gs : List GL} (hex : ∀ r c σ e σ', ex r c σ = some (e, σ') → Sound P G r c σ e σ') (hlp : ∀ σ e σ', ex r (.loopN base keep gs c) σ = some (e, σ') → SoundN P G n r base c σ e σ')
  (h : YE P T ex r (.loopN base keep gs c) σ = some (e, σ')) : SoundN P G (n + 1) r base c σ e σ' := by
 intro p E0 h0 w0 d E w a k hp hb hr0 hR hd
 simp only [YE] at h
 rw [roundsIn_succ]
 cases h1 : ex r c σ with
 | none => simp [h1] at h
 | some q =>
 obtain ⟨e1, σ1⟩ := q
 have hd1 : ∀ i, r = some i → E.D i := fun i hi => (hR.nx.le.D i (hd i hi)).1
 have hw := hex _ _ _ _ _ h1 p E w a k hp hR.nx.hr hR.lr hd1
 rw [fw_eq hR.nx.le hd] at hw
 refine wpIn_mono hw fun x a' w' hpost => ?_
 have hpost := post_trans hR hpost
 by_cases he : e1 = .normal
 ·subst he
  simp only [h1, XN] at h
  split at h
  ·rename_i t1 h1' hg
   refine then_post hpost (fun _ E' hR' => ?_) (fun h => absurd rfl h)
   obtain ⟨E2, hR2⟩ := go_gather hr0 hb hR' keep hg
   exact hlp _ _ _ h p E0 h0 w0 d E2 w' a' k hp hb hr0 hR2 hd
  ·simp at h
 ·have hh : some (e1, σ1) = some (e, σ') := by
   cases e1 with
   | normal => exact absurd rfl he
   | _ => simpa [h1] using h
  simp at hh
  obtain ⟨rfl, rfl⟩ := hh
  obtain ⟨hx, E', hR⟩ := hpost
  exact then_post ⟨hx, E', hR⟩ (fun h => absurd h he) fun _ => ⟨rfl, E', hR⟩
theorem loopG_step (n : Nat) {r : Option Nat} {keep : Nat} {gs : List GL} (hlp : ∀ base σ e σ', ex r (.loopN base keep gs c) σ = some (e, σ') → SoundN P G n r base c σ e σ')
  (h : YE P T ex r (.loopG keep gs c) σ = some (e, σ')) (p : Code) (E : Env) (w : World) (a : Act) (k : Nat) (hp : ZW P G p = some (XI c)) (hr : E.HR P G σ.h w) (ht : E.LR w σ.t a.tmps) (hd : ∀ i, r = some i → E.D i) :
  Code.roundsIn (FW (r.map fun i => (E.ρ i).b)) k P p (Post P G E σ.h w a.defers e σ') n a w := by
 simp only [YE, XN] at h
 split at h
 ·rename_i t1 h1 hg
  obtain ⟨E2, hR2⟩ := go_gather hr rfl (.refl hr ht) keep hg
  exact hlp _ _ _ _ h p E σ.h w a.defers E2 w a k hp rfl hr hR2 hd
 ·simp at h
theorem co_loop0 {code : Code} {m : Nat} {x : CC} (h : ZW P G code = some (.loop m x)) : m = 0 := by
 cases code with
 | loop p =>
  simp only [ZW] at h
  split at h
  ·simp at h; exact h.1.symm
  ·simp at h
 | region id ops b => cases b <;> simp only [ZW] at h <;> (repeat' split at h) <;> simp at h
 | _ => simp only [ZW] at h <;> (repeat' split at h) <;> simp at h
end
end Go.Abs
namespace Go.Abs
open Go
theorem onlyJ_get {J : List Nat} : ∀ {h : Zj} {k i : Nat} {b : Blk}, (onlyJ J k h)[i]? = some (some b) → (k + i) ∈ J ∧ h[i]? = some (some b)
 | [], k, i, b, hi => by simp [onlyJ] at hi
 | c :: h, k, 0, b, hi => by
  simp only [onlyJ, List.getElem?_cons_zero, Option.some.injEq] at hi
  split at hi
  ·rename_i hc
   exact ⟨by simpa using hc, by simp [hi]⟩
  ·simp at hi
 | c :: h, k, i + 1, b, hi => by
  simp only [onlyJ, List.getElem?_cons_succ] at hi
  have := onlyJ_get (k := k + 1) hi
  exact ⟨by rw [show k + (i + 1) = k + 1 + i by omega]; exact this.1, by simpa using this.2⟩
theorem onlyJ_len (J : List Nat) : ∀ (h : Zj) (k : Nat), (onlyJ J k h).length = h.length
 | [], _ => rfl
 | c :: h, k => by simp only [onlyJ, List.length_cons, onlyJ_len J h (k + 1)]
section
variable {P : Program} {G : Nat → Option (List Za)} {E E0 : Env} {h h0 h' : Zj} {w w0 : World} {t t' : List Za} {a : Act} {d : List Deferred}
theorem onlyJ_hr (hr : E.HR P G h w) (J : List Nat) : E.HR P G (onlyJ J 0 h) w :=
 ⟨fun i b hi => hr.blk i b (onlyJ_get hi).2, fun i j b c hi hj he => hr.inj i j b c (onlyJ_get hi).2 (onlyJ_get hj).2 he, fun i hi => by rw [onlyJ_len]; exact hr.lt i hi, hr.own, hr.imm, hr.glob⟩
theorem set_none_get {i j : Nat} {b : Blk} (hj : (h.set i none)[j]? = some (some b)) : j ≠ i ∧ h[j]? = some (some b) := by
 by_cases e : i = j
 ·subst e
  rcases Nat.lt_or_ge i h.length with hl | hl
  ·rw [List.getElem?_set_self hl] at hj; simp at hj
  ·rw [List.getElem?_eq_none (by simp; omega)] at hj; simp at hj
 ·rw [List.getElem?_set_ne e] at hj
  exact ⟨fun h => e h.symm, hj⟩
theorem freeze_one {s i k n : Nat} {tt : Bool} {v : Za} {cs : Array Value} (hr : E.HR P G h w) (ht : E.LR w t cs) (hs : t[s]? = some (.sl i k n tt)) (hv : frz false (onlyJ [i] 0 h) 5 (.sl i k n tt) = some v) :
  ∃ E2 : Env, Nx P G E h w E2 (h.set i none) w ∧ E2.LR w (t.set s v) cs ∧ (∀ b, E2.O b → E.O b) ∧ ∀ b, E2.I b → E.I b ∨ E.O b := by
 let B : Nat → Prop := fun b => ∃ c, h[i]? = some (some c) ∧ (E.ρ i).b = b
 have hB : ∀ b, B b → E.O b ∧ b < w.heap.size := by
  rintro b ⟨c, hi, rfl⟩
  obtain ⟨_, h2, h3, _⟩ := hr.blk i c hi
  exact ⟨h2, h3⟩
 let E2 : Env := ⟨E.ρ, E.D, fun b => E.O b ∧ ¬ B b, fun b => E.I b ∨ B b⟩
 have hv2 : ∀ x cv, E.VR w x cv → E2.VR w x cv := fun x cv hx => VR.mono hx _ (fun i hi => ⟨hi, rfl⟩) fun b hb => ⟨.inl hb, rfl⟩
 refine ⟨E2, ⟨⟨rfl, rfl, ⟨rfl, Nat.le_refl _⟩, Nat.le_refl _, fun i hi => ⟨hi, rfl⟩, fun b hb => .inl hb, fun b hb ho => ⟨rfl, fun h => ho h.1, fun h => h.elim id fun h => absurd (hB b h).1 ho⟩⟩,
  ⟨fun j b hj => ?_, fun j1 j2 b c h1 h2 he => hr.inj j1 j2 b c (set_none_get h1).2 (set_none_get h2).2 he, fun j hj => by rw [List.length_set]; exact hr.lt j hj, fun b hb => hr.own b hb.1, fun b hb => ?_, fun g r hg => hv2 _ _ (hr.glob g r hg)⟩, .refl _ _, by rw [List.length_set]; exact Nat.le_refl _⟩, ?_, fun b hb => hb.1, fun b hb => hb.imp id fun h => (hB b h).1⟩
 ·obtain ⟨hn, hg⟩ := set_none_get hj
  obtain ⟨b1, b2, b3, b4⟩ := hr.blk j b hg
  refine ⟨b1, ⟨b2, ?_⟩, b3, br_mono (E' := E2) b4 rfl rfl hv2⟩
  rintro ⟨c, hi, he⟩
  exact hn (hr.inj _ _ _ _ hg hi he.symm)
 ·rcases hb with hb | hb
  ·exact ⟨(hr.imm b hb).1, fun ho => (hr.imm b hb).2 ho.1⟩
  ·exact ⟨(hB b hb).2, fun ho => ho.2 hb⟩
 ·rw [lr_iff] at ht ⊢
  refine ⟨by rw [List.length_set]; exact ht.1, fun j x u hx hu => ?_⟩
  by_cases e : s = j
  ·subst e
   have hl : s < t.length := (List.getElem?_eq_some_iff.1 hs).1
   rw [List.getElem?_set_self hl] at hx
   simp only [Option.some.injEq] at hx
   subst hx
   have hq := frz_ok (onlyJ_hr hr [i]) (I' := E2.I) (ρ' := E2.ρ) (fun j b hj => by
    obtain ⟨h1, h2⟩ := onlyJ_get hj
    simp at h1
    subst h1
    exact .inr ⟨b, h2, rfl⟩) (fun _ b hb => .inl hb) 5 (ht.2 s _ u hs hu) hv
   exact VR.mono hq _ (fun j hj => hj.elim) fun b hb => ⟨hb, rfl⟩
  ·rw [List.getElem?_set_ne e] at hx
   exact hv2 _ _ (ht.2 j x u hx hu)
theorem run_freeze {E1 E2 : Env} {h1 : Zj} (hR : Run P G E0 h0 w0 d E h w t a) (hx : Nx P G E h w E2 h1 w) (hl : E2.LR w t' a.tmps) (hO : ∀ b, E2.O b → E.O b) (hI : ∀ b, E2.I b → E.I b ∨ E.O b) : Run P G E0 h0 w0 d E2 h1 w t' a := by
 refine ⟨hR.nx.trans hx, hl, ?_⟩
 obtain ⟨bs, g1, g2, g3⟩ := hR.mks
 exact ⟨bs, g1, g2, fun b hb => by
  obtain ⟨a1, a2, a3, a4, a5⟩ := g3 b hb
  exact ⟨a1, a2, a3, fun h => a4 (hO b h), fun h => (hI b h).elim a5 a4⟩⟩
theorem go_freeze : ∀ {ss : List Nat} {t : List Za} {h : Zj} {E : Env} {t' : List Za} {h' : Zj}, Run P G E0 h0 w0 d E h w t a → fzT ss t h = some (t', h') → ∃ E2, Run P G E0 h0 w0 d E2 h' w t' a
 | [], t, h, E, t', h', hR, hf => by
  simp only [fzT, Option.some.injEq, Prod.mk.injEq] at hf
  obtain ⟨rfl, rfl⟩ := hf
  exact ⟨E, hR⟩
 | s :: ss, t, h, E, t', h', hR, hf => by
  simp only [fzT] at hf
  split at hf
  ·rename_i t1 h1 hf1
   unfold fz1 at hf1
   split at hf1
   ·rename_i i k n tt hs
    split at hf1
    ·rename_i v hv
     simp only [Option.some.injEq, Prod.mk.injEq] at hf1
     obtain ⟨rfl, rfl⟩ := hf1
     obtain ⟨E2, hx, hl, hO, hI⟩ := freeze_one hR.nx.hr hR.lr hs hv
     exact go_freeze (run_freeze (E1 := E) hR hx hl hO hI) hf
    ·simp at hf1
   ·simp only [Option.some.injEq, Prod.mk.injEq] at hf1
    obtain ⟨rfl, rfl⟩ := hf1
    exact go_freeze hR hf
   ·simp at hf1
  ·simp at hf
end
end Go.Abs
namespace Go.Abs
open Go
section
variable {P : Program} {G : Nat → Option (List Za)} {T : Nat → Option CFn} {ex : Option Nat → CC → St → Option (AEx × St)} {E E' E1 : Env} {h h' h1 : Zj} {w w' w1 : World} {e : AEx} {σ σ' : St} {c : CC} {v : Za}
theorem step_sound (hm : P.follows .mixedOrders = true) (hT : ZB P G T) (n : Nat) (hex : ∀ r c σ e σ', ex r c σ = some (e, σ') → Sound P G r c σ e σ')
  (hlp : ∀ r keep c σ e σ', ex r (.loop keep c) σ = some (e, σ') → SoundLoop P G n r c σ e σ')
  (hlg : ∀ r base keep gs c σ e σ', ex r (.loopN base keep gs c) σ = some (e, σ') → SoundN P G n r base c σ e σ') {r : Option Nat} (h : YE P T ex r c σ = some (e, σ')) : Sound P G r c σ e σ' := by
 have hcall := fun f args h v h' => call_good hT hex f args h v h'
 have hyld := fun i args h v h' => yield_good hT hex i args h v h'
 cases c with
 | rf g ps asg bd => exact rf_step hT hex h
 | skip =>
  intro code E w a k hc hr ht hd
  have := co_skip hc
  subst this
  simp [YE] at h
  obtain ⟨rfl, rfl⟩ := h
  exact wpIn_skip (go_skip hr ht)
 | ret =>
  intro code E w a k hc hr ht hd
  have := co_ret hc
  subst this
  simp [YE] at h
  obtain ⟨rfl, rfl⟩ := h
  exact wpIn_ret ⟨rfl, E, .refl hr ht⟩
 | exit id =>
  intro code E w a k hc hr ht hd
  have := co_exit hc
  subst this
  simp [YE] at h
  obtain ⟨rfl, rfl⟩ := h
  exact wpIn_exit ⟨rfl, E, .refl hr ht⟩
 | reg l =>
  intro code E w a k hc hr ht hd
  obtain ⟨id, ops, rfl, hl⟩ := co_reg hc
  simp only [YE] at h
  cases hs : runX P T ex l σ with
  | none => simp [hs] at h
  | some σ1 =>
  simp [hs] at h
  obtain ⟨rfl, rfl⟩ := h
  exact reg_wp (t' := σ1.t) (h' := σ1.h) hT hcall hyld hl hr ht hs fun a' w' E' hx hl' hdef => ⟨rfl, E', hx, hl', hdef ▸ .refl _ _ _ _⟩
 | drw l =>
  intro code E w a k hc hr ht hd
  obtain ⟨id, ops, rfl, hl, hok, hed⟩ := co_drw hc
  simp only [YE, ZM, Yt] at h
  cases hs : runD P T ex σ.h.length l.length l 0 ⟨σ.t, σ.h ++ List.replicate l.length none, List.replicate l.length none⟩ with
  | none => simp [hs] at h
  | some D =>
  simp [hs] at h
  obtain ⟨rfl, rfl⟩ := h
  exact drw_wp hm hT hcall hyld hl hok hed hr ht hs fun a' w' E' hx hl' hdef => ⟨rfl, E', hx, hl', hdef ▸ .refl _ _ _ _⟩
 | seq x y =>
  intro code E w a k hc hr ht hd
  obtain ⟨p, q, rfl, hp, hq⟩ := co_seq hc
  simp only [YE] at h
  cases h1 : ex r x σ with
  | none => simp [h1] at h
  | some z =>
  obtain ⟨e1, σ1⟩ := z
  refine wpIn_seq (wpIn_mono (hex _ _ _ _ _ h1 p E w a k hp hr ht hd) fun xx a' w' hpost => ?_)
  by_cases he : e1 = .normal
  ·subst he
   simp only [h1] at h
   refine then_post hpost (fun _ E' hR => ?_) (fun h => absurd rfl h)
   have hd2 : ∀ i, r = some i → E'.D i := fun i hi => (hR.nx.le.D i (hd i hi)).1
   have := hex _ _ _ _ _ h q E' w' a' k hq hR.nx.hr hR.lr hd2
   rw [fw_eq hR.nx.le hd] at this
   exact wpIn_mono this fun x a2 w2 hq => post_trans hR hq
  ·have hh : some (e1, σ1) = some (e, σ') := by
    cases e1 with
    | normal => exact absurd rfl he
    | _ => simpa [h1] using h
   simp at hh
   obtain ⟨rfl, rfl⟩ := hh
   obtain ⟨hx, E', hR⟩ := hpost
   exact then_post ⟨hx, E', hR⟩ (fun h => absurd h he) fun _ => ⟨rfl, E', hR⟩
 | cond cv x y =>
  intro code E w a k hc hr ht hd
  obtain ⟨o, p, q, rfl, ho, hp, hq⟩ := co_cond hc
  simp only [YE] at h
  split at h
  ·rename_i hev
   exact wpIn_cond_true (ZP hr ht ho hev).bool_inv (hex _ _ _ _ _ h p E w a k hp hr ht hd)
  ·rename_i hev
   exact wpIn_cond_false (ZP hr ht ho hev).bool_inv (hex _ _ _ _ _ h q E w a k hq hr ht hd)
  ·simp at h
 | block id x =>
  intro code E w a k hc hr ht hd
  obtain ⟨p, rfl, hp⟩ := co_block hc
  simp only [YE] at h
  cases h1 : ex r x σ with
  | none => simp [h1] at h
  | some z =>
  obtain ⟨e1, σ1⟩ := z
  refine wpIn_block (wpIn_mono (hex _ _ _ _ _ h1 p E w a k hp hr ht hd) ?_)
  rintro xx a' w' ⟨rfl, E', hR⟩
  cases e1 with
  | normal => simp [h1] at h; obtain ⟨rfl, rfl⟩ := h; exact ⟨rfl, E', hR⟩
  | ret => simp [h1] at h; obtain ⟨rfl, rfl⟩ := h; exact ⟨rfl, E', hR⟩
  | exit j =>
   simp only [h1] at h
   simp only [exOf, Exit.inBlock]
   by_cases hj : j = id
   ·simp only [hj, if_true] at h ⊢
    simp at h; obtain ⟨rfl, rfl⟩ := h; exact ⟨rfl, E', hR⟩
   ·simp only [hj, if_false] at h ⊢
    simp at h; obtain ⟨rfl, rfl⟩ := h; exact ⟨rfl, E', hR⟩
 | loop keep x =>
  intro code E w a k hc hr ht hd
  obtain ⟨p, rfl, hp⟩ := co_loop hc
  exact wpIn_loop_rounds (n + 1) (loop_step n hex (fun σ e σ' => hlp r keep x σ e σ') h p E w a k hp hr ht hd)
 | loopG keep gs x =>
  intro code E w a k hc hr ht hd
  obtain ⟨p, rfl, hp⟩ := co_loop (n := 0) hc
  exact wpIn_loop_rounds n (loopG_step n (fun base σ e σ' => hlg r base keep gs x σ e σ') h p E w a k hp hr ht hd)
 | kil keep x =>
  intro code E w a k hc hr ht hd
  simp only [YE] at h
  cases h1 : ex r x σ with
  | none => simp [h1] at h
  | some z =>
  obtain ⟨e1, σ1⟩ := z
  refine wpIn_mono (hex _ _ _ _ _ h1 code E w a k hc hr ht hd) ?_
  rintro xx a' w' ⟨rfl, E', hR⟩
  cases e1 with
  | normal =>
   simp [h1, XN] at h
   obtain ⟨rfl, rfl⟩ := h
   exact ⟨rfl, E', hR.nx, kill_lr _ keep _ hR.lr, hR.mks⟩
  | ret => simp [h1] at h; obtain ⟨rfl, rfl⟩ := h; exact ⟨rfl, E', hR⟩
  | exit j => simp [h1] at h; obtain ⟨rfl, rfl⟩ := h; exact ⟨rfl, E', hR⟩
 | frS ss x =>
  intro code E w a k hc hr ht hd
  simp only [YE] at h
  cases h1 : ex r x σ with
  | none => simp [h1] at h
  | some z =>
  obtain ⟨e1, σ1⟩ := z
  refine wpIn_mono (hex _ _ _ _ _ h1 code E w a k hc hr ht hd) ?_
  rintro xx a' w' ⟨rfl, E', hR⟩
  cases e1 with
  | normal =>
   simp only [h1] at h
   split at h
   ·rename_i t1 h2 hf
    simp at h
    obtain ⟨rfl, rfl⟩ := h
    exact ⟨rfl, go_freeze hR hf⟩
   ·simp at h
  | ret => simp [h1] at h; obtain ⟨rfl, rfl⟩ := h; exact ⟨rfl, E', hR⟩
  | exit j => simp [h1] at h; obtain ⟨rfl, rfl⟩ := h; exact ⟨rfl, E', hR⟩
 | loopN base keep gs x =>
  intro code E w a k hc hr ht hd
  exact absurd (co_loop0 (m := 1) hc) (by decide)
theorem exec_sound (hm : P.follows .mixedOrders = true) (hT : ZB P G T) : ∀ n, (∀ r c σ e σ', exec P T n r c σ = some (e, σ') → Sound P G r c σ e σ') ∧ (∀ r keep c σ e σ', exec P T n r (.loop keep c) σ = some (e, σ') → SoundLoop P G n r c σ e σ') ∧
  (∀ r base keep gs c σ e σ', exec P T n r (.loopN base keep gs c) σ = some (e, σ') → SoundN P G n r base c σ e σ')
 | 0 => ⟨fun _ _ _ _ _ h => by simp [exec] at h, fun _ _ _ _ _ _ h => by simp [exec] at h, fun _ _ _ _ _ _ _ _ h => by simp [exec] at h⟩
 | n + 1 => by
  obtain ⟨h1, h2, h3⟩ := exec_sound hm hT n
  refine ⟨fun r c σ e σ' h => step_sound hm hT n h1 h2 h3 h, fun r keep c σ e σ' h => ?_, fun r base keep gs c σ e σ' h => ?_⟩
  ·exact loop_step (T := T) (ex := exec P T n) n h1 (fun σ e σ' => h2 r keep c σ e σ') h
  ·exact loopN_step (T := T) (ex := exec P T n) n h1 (fun σ e σ' => h3 r base keep gs c σ e σ') h
theorem call_sound (hm : P.follows .mixedOrders = true) (hT : ZB P G T) (n f : Nat) (args : List Za) (h : Zj) (v : Za) (h' : Zj) (hc : YH T (exec P T n) f args h = some (v, h')) : Xl P G f args h v h' :=
 call_good hT (exec_sound hm hT n).1 f args h v h' hc
end
end Go.Abs
namespace Go.Abs
open Go
def ZS (P : Program) (G : Nat → Option (List Za)) (f : Nat) (cf : CFn) : Prop :=
 ∃ fn c, P.funcs[f]? = some fn ∧ fn.body = some c ∧ (fn.name == "runtime.NumGoroutine") = false ∧ ZW P G c = some (XI cf.body) ∧ fn.ntmps = cf.ntmps ∧ compR P fn.results.toList = some cf.res ∧ (∀ args v, cf.orc args = some v → OrcGood P G cf.frsh f args v) ∧ ∀ args h v us, cf.eff args h = some (v, us) → Xl P G f args h v (setH h us)
theorem fnOk {P : Program} {G : Nat → Option (List Za)} {f : Nat} {cf : CFn} {fn : Func} (hf : P.funcs[f]? = some fn) (hb : (match fn.body with | some c => ZW P G c | none => none) = some (XI cf.body))
  (hn : (fn.name == "runtime.NumGoroutine") = false) (ht : fn.ntmps = cf.ntmps) (hr : compR P fn.results.toList = some cf.res) (ho : cf.orc = fun _ => none) (hf' : cf.eff = fun _ _ => none := by rfl) : ZS P G f cf := by
 cases h : fn.body with
 | none => rw [h] at hb; simp at hb
 | some c => rw [h] at hb; exact ⟨fn, c, hf, h, hn, hb, ht, hr, fun _ _ h => by (rw [ho] at h; simp at h), fun _ _ _ _ h => by (rw [hf'] at h; simp at h)⟩
theorem tabOk_of {P : Program} {G : Nat → Option (List Za)} {T : Nat → Option CFn} (tbl : List (Option CFn)) (hT : ∀ f, T f = (match nth tbl f with | some (some c) => some c | _ => none)) (h : ∀ f cf, tbl[f]? = some (some cf) → ZS P G f cf) : ZB P G T := by
 intro f cf hf
 rw [hT, Zz] at hf
 split at hf
 ·rename_i c hc
  simp at hf; subst hf
  exact h f c hc
 ·simp at hf
def AllOk (P : Program) (G : Nat → Option (List Za)) : Nat → List (Option CFn) → Prop
 | _, [] => True
 | i, none :: l => AllOk P G (i + 1) l
 | i, some c :: l => ZS P G i c ∧ AllOk P G (i + 1) l
theorem allOk_get {P : Program} {G : Nat → Option (List Za)} {cf : CFn} : ∀ (l : List (Option CFn)) (i k : Nat), AllOk P G i l → l[k]? = some (some cf) → ZS P G (i + k) cf
 | [], _, _, _, h => by simp at h
 | none :: l, i, 0, _, h => by simp at h
 | none :: l, i, k + 1, ha, h => by rw [← Nat.add_assoc, Nat.add_right_comm]; exact allOk_get l (i + 1) k ha (by simpa using h)
 | some c :: l, i, 0, ha, h => by simp at h; subst h; exact ha.1
 | some c :: l, i, k + 1, ha, h => by rw [← Nat.add_assoc, Nat.add_right_comm]; exact allOk_get l (i + 1) k ha.2 (by simpa using h)
theorem tabOk_all {P : Program} {G : Nat → Option (List Za)} {T : Nat → Option CFn} (tbl : List (Option CFn)) (hT : ∀ f, T f = (match nth tbl f with | some (some c) => some c | _ => none)) (h : AllOk P G 0 tbl) : ZB P G T :=
 tabOk_of tbl hT fun f cf hf => by have := allOk_get tbl 0 f h hf; rwa [Nat.zero_add] at this
end Go.Abs
set_option maxRecDepth 100000
namespace Go.Proofs.YtpebmjeomlgmdaaGreatDoor.Tab
open Go Go.Abs
noncomputable section
def ci (n : Int) : CV := .c (.int .i64 n)
def cl (f : Nat) (l : List CV) : COp := .call (.c (.fn f [] [])) l
def oo (d : Nat) (c : COp) : CO := ⟨some d, c, none, []⟩
def om (d e : Nat) : CO := ⟨some d, .mv (.t e), none, []⟩
def op (d : Nat) (c : COp) (b : List Nat) : CO := ⟨some d, c, none, b⟩
def og (d : Nat) (c : COp) (g : Nat) (v : Bool) : CO := ⟨some d, c, some (g, v), []⟩
theorem zA {a b : Prop} (x : a) (y : b) : a ∧ b := ⟨x, y⟩
def c3 : CFn := ⟨(.seq (.reg [oo 3 (.box (.t 0)), oo 6 (.mv (.c (.bool false)))]) (.seq (.seq (.reg [om 14 1, oo 15 (.len (.t 14)), oo 16 (.ar .gtr (.t 15) (ci 15)), om 17 16, og 18 (.mv (.t 2)) 17 false, og 19 (.len (.t 18)) 17 false, og 20 (.ar .gtr (.t 19) (ci 15)) 17 false, oo 21 (.pick (.t 17) (.c (.bool true)) (.t 20))]) (.cond (.t 21) (.seq (.reg [oo 22 (cl 5 []), om 6 22]) .ret) .skip)) (.seq (.reg [om 23 1, oo 24 (cl 6 [(.t 23)]), om 25 2, oo 26 (cl 7 [(.t 25)]), om 7 24, om 8 26]) (.seq (.reg [oo 28 (.ldn 2 (.t 3)), om 29 7, om 30 8, oo 31 (cl 8 [(.t 28), (.t 29), (.t 30)]), om 27 31, oo 32 (.ext 0 (.t 27)), oo 33 (.ext 1 (.t 27)), om 9 32, om 10 33]) (.seq (.seq (.reg [om 34 7, om 35 1, oo 36 (cl 9 [(.t 34), (.t 35)]), oo 37 (.un .not (.t 36)), om 38 37, og 39 (.mv (.t 8)) 38 false, og 40 (.mv (.t 2)) 38 false, og 41 (cl 10 [(.t 39), (.t 40)]) 38 false, og 42 (.un .not (.t 41)) 38 false, oo 43 (.pick (.t 38) (.c (.bool true)) (.t 42))]) (.cond (.t 43) (.seq (.reg [oo 6 (.mv (.c (.bool false)))]) .ret) .skip)) (.seq (.reg [oo 44 (.ldn 2 (.t 3)), om 45 1, om 46 2, oo 47 (cl 11 [(.t 44), (.t 45), (.t 46)]), om 11 47]) (.seq (.seq (.reg [om 48 11, oo 49 (.ar .eql (.t 48) (ci 0))]) (.cond (.t 49) (.seq (.drw [oo 51 (.ldn 2 (.t 3)), op 52 (.mv (.t 1)) [0], op 53 (.mv (.t 2)) [0, 1], oo 54 (cl 13 [(.t 51), (.t 52), (.t 53)]), op 55 (.mv (.t 2)) [0, 1, 2, 3], op 56 (.mv (.t 1)) [0, 1, 2, 3, 4], op 57 (.len (.t 56)) [0, 1, 2, 3, 4], op 58 (.mks 1 [(.bool false)] (.t 57) (.t 57)) [0, 1, 2, 3, 4], op 59 (.bsl 1 0 [(.int .i64 (0))] []) [0, 1, 2, 3, 4, 5, 6, 7], oo 60 (cl 12 [(.t 54), (.t 55), (.t 58), (.t 59)]), om 50 60, oo 61 (.ext 0 (.t 50)), op 62 (.ext 1 (.t 50)) [11], op 12 (.mv (.t 61)) [12], om 13 62]) (.seq (.seq (.reg [om 63 13]) (.cond (.t 63) (.seq (.reg [om 64 10, oo 65 (.ar .eql (.t 64) (ci 0)), om 66 65, og 67 (.mv (.t 9)) 66 true, og 68 (.mv (.t 12)) 66 true, og 69 (cl 14 [(.t 67), (.t 68)]) 66 true, oo 70 (.pick (.t 66) (.t 69) (.c (.bool false))), om 71 70, og 72 (cl 5 []) 71 true, oo 73 (.pick (.t 71) (.t 72) (.c (.bool false))), om 6 73]) .ret) .skip)) (.reg [oo 11 (.mv (ci 9))]))) .skip)) (.seq (.reg [om 74 10, om 75 11, oo 76 (.ar .eql (.t 74) (.t 75)), om 77 76, og 78 (.mv (.t 9)) 77 true, og 79 (.len (.t 78)) 77 true, og 80 (.ar .eql (.t 79) (ci 0)) 77 true, oo 81 (.pick (.t 77) (.t 80) (.c (.bool false))), om 82 81, og 83 (cl 5 []) 82 true, oo 84 (.pick (.t 82) (.t 83) (.c (.bool false))), om 6 84]) .ret)))))))), 85, [(.tmp 6)], false, fun _ => none, fun _ _ => none⟩
def c4 : CFn := ⟨(.seq (.reg [oo 3 (.box (.t 0)), oo 6 (.mv (.c (.bool false)))]) (.seq (.seq (.reg [om 14 1, oo 15 (.len (.t 14)), oo 16 (.ar .gtr (.t 15) (ci 15)), om 17 16, og 18 (.mv (.t 2)) 17 false, og 19 (.len (.t 18)) 17 false, og 20 (.ar .gtr (.t 19) (ci 15)) 17 false, oo 21 (.pick (.t 17) (.c (.bool true)) (.t 20))]) (.cond (.t 21) (.seq (.reg [oo 22 (cl 5 []), om 6 22]) .ret) .skip)) (.seq (.reg [om 23 1, oo 24 (cl 6 [(.t 23)]), om 25 2, oo 26 (cl 7 [(.t 25)]), om 7 24, om 8 26]) (.seq (.reg [oo 28 (.ldn 2 (.t 3)), om 29 7, om 30 8, oo 31 (cl 15 [(.t 28), (.t 29), (.t 30)]), om 27 31, oo 32 (.ext 0 (.t 27)), oo 33 (.ext 1 (.t 27)), om 9 32, om 10 33]) (.seq (.seq (.reg [om 34 7, om 35 1, oo 36 (cl 9 [(.t 34), (.t 35)]), oo 37 (.un .not (.t 36)), om 38 37, og 39 (.mv (.t 8)) 38 false, og 40 (.mv (.t 2)) 38 false, og 41 (cl 10 [(.t 39), (.t 40)]) 38 false, og 42 (.un .not (.t 41)) 38 false, oo 43 (.pick (.t 38) (.c (.bool true)) (.t 42))]) (.cond (.t 43) (.seq (.reg [oo 6 (.mv (.c (.bool false)))]) .ret) .skip)) (.seq (.reg [oo 44 (.ldn 2 (.t 3)), om 45 1, om 46 2, oo 47 (cl 11 [(.t 44), (.t 45), (.t 46)]), om 11 47]) (.seq (.seq (.reg [om 48 11, oo 49 (.ar .eql (.t 48) (ci 0))]) (.cond (.t 49) (.seq (.reg [oo 51 (.ldn 2 (.t 3)), om 52 1, om 53 2, oo 54 (cl 13 [(.t 51), (.t 52), (.t 53)]), om 55 2, oo 56 (cl 16 [(.t 54), (.t 55)]), om 50 56, oo 57 (.ext 0 (.t 50)), oo 58 (.ext 1 (.t 50)), om 12 57, om 13 58]) (.seq (.seq (.reg [om 59 13]) (.cond (.t 59) (.seq (.reg [om 60 10, oo 61 (.ar .eql (.t 60) (ci 0)), om 62 61, og 63 (.mv (.t 9)) 62 true, og 64 (.mv (.t 12)) 62 true, og 65 (cl 14 [(.t 63), (.t 64)]) 62 true, oo 66 (.pick (.t 62) (.t 65) (.c (.bool false))), om 67 66, og 68 (cl 5 []) 67 true, oo 69 (.pick (.t 67) (.t 68) (.c (.bool false))), om 6 69]) .ret) .skip)) (.reg [oo 11 (.mv (ci 7))]))) .skip)) (.seq (.reg [om 70 10, om 71 11, oo 72 (.ar .eql (.t 70) (.t 71)), om 73 72, og 74 (.mv (.t 9)) 73 true, og 75 (.len (.t 74)) 73 true, og 76 (.ar .eql (.t 75) (ci 0)) 73 true, oo 77 (.pick (.t 73) (.t 76) (.c (.bool false))), om 78 77, og 79 (cl 5 []) 78 true, oo 80 (.pick (.t 78) (.t 79) (.c (.bool false))), om 6 80]) .ret)))))))), 81, [(.tmp 6)], false, fun _ => none, fun _ _ => none⟩
def c5 : CFn := ⟨(.seq (.reg [oo 0 (.mv (.c (.bool false)))]) (.seq (.reg [oo 28 (cl 17 [(ci 90), (ci 100)]), oo 29 (.bld [(.int .i64 (0)), (.int .i64 (0)), (.int .i64 (0))] [(0, (2, (.t 28))), (2, (1, (ci 2)))]), oo 30 (cl 17 [(ci 50), (ci 60)]), oo 31 (.bld [(.int .i64 (0)), (.int .i64 (0)), (.int .i64 (0))] [(0, (2, (.t 30))), (2, (1, (ci 5)))]), oo 32 (.bsl 3 2 [(.int .i64 (0)), (.int .i64 (0)), (.int .i64 (0))] [(0, (.t 29)), (1, (.t 31))]), om 1 32]) (.seq (.reg [oo 33 (cl 17 [(ci 90), (ci 100)]), oo 34 (.bld [(.int .i64 (0)), (.int .i64 (0)), (.int .i64 (0))] [(0, (2, (.t 33))), (2, (1, (ci 2)))]), oo 35 (cl 17 [(ci 50), (ci 60)]), oo 36 (.bld [(.int .i64 (0)), (.int .i64 (0)), (.int .i64 (0))] [(0, (2, (.t 35))), (2, (1, (ci 1)))]), oo 37 (.bsl 3 2 [(.int .i64 (0)), (.int .i64 (0)), (.int .i64 (0))] [(0, (.t 34)), (1, (.t 36))]), om 2 37]) (.seq (.reg [oo 38 (.bld [(.int .i64 (0)), (.int .i64 (0))] [(0, (1, (ci 1))), (1, (1, (ci 2)))]), oo 39 (.bld [(.int .i64 (0)), (.int .i64 (0))] [(0, (1, (ci 4)))]), oo 40 (.bld [(.int .i64 (0)), (.int .i64 (0))] [(1, (1, (ci 7)))]), oo 41 (.bld [(.int .i64 (0)), (.int .i64 (0))] [(0, (1, (ci 8))), (1, (1, (ci 1)))]), oo 42 (.bsl 2 4 [(.int .i64 (0)), (.int .i64 (0))] [(0, (.t 38)), (1, (.t 39)), (2, (.t 40)), (3, (.t 41))]), om 3 42]) (.seq (.reg [oo 44 (cl 19 []), oo 45 (cl 17 [(ci 60), (ci 70)]), om 46 1, oo 47 (cl 18 [(.t 44), (.t 45), (.t 46)]), om 43 47, oo 48 (.ext 0 (.t 43)), oo 49 (.ext 1 (.t 43)), om 4 48, om 5 49]) (.seq (.reg [oo 51 (cl 19 []), oo 52 (cl 17 [(ci 60), (ci 70)]), om 53 1, oo 54 (cl 20 [(.t 51), (.t 52), (.t 53)]), om 50 54, oo 55 (.ext 0 (.t 50)), oo 56 (.ext 1 (.t 50)), oo 57 (.ext 2 (.t 50)), om 6 55, om 7 56, om 8 57]) (.seq (.reg [oo 59 (cl 19 []), oo 60 (cl 17 [(ci 60), (ci 70)]), oo 61 (cl 17 [(ci 90), (ci 100)]), oo 62 (cl 17 [(ci 50), (ci 85)]), oo 63 (cl 21 [(.t 59), (.t 60), (.t 61), (.t 62)]), om 58 63, oo 64 (.ext 0 (.t 58)), oo 65 (.ext 1 (.t 58)), om 9 64, om 10 65]) (.seq (.reg [oo 67 (.bld [(.int .i64 (0)), (.int .i64 (0))] [(1, (1, (ci 1000)))]), oo 68 (.bld [(.int .i64 (0)), (.int .i64 (0))] [(0, (1, (ci 80))), (1, (1, (ci 700)))]), oo 69 (.bld [(.int .i64 (0)), (.int .i64 (0))] [(0, (1, (ci 120))), (1, (1, (ci 400)))]), oo 70 (.bsl 2 3 [(.int .i64 (0)), (.int .i64 (0))] [(0, (.t 67)), (1, (.t 68)), (2, (.t 69))]), oo 71 (cl 17 [(ci 70), (ci 80)]), oo 72 (cl 22 [(.t 70), (.t 71)]), om 66 72, oo 73 (.ext 0 (.t 66)), oo 74 (.ext 1 (.t 66)), oo 11 (.new [(.int .i64 (0)), (.int .i64 (0))]), ⟨none, (.st 2 (.t 11) (.t 73)), none, []⟩, om 12 74]) (.seq (.reg [oo 76 (cl 19 []), oo 77 (cl 23 [(ci 1)]), oo 78 (cl 23 [(ci 2)]), oo 79 (.bsl 5 2 [(.int .i64 (0)), (.int .i64 (0)), (.int .i64 (0)), (.int .i64 (0)), (.int .i64 (0))] [(0, (.t 77)), (1, (.t 78))]), om 80 2, oo 81 (cl 8 [(.t 76), (.t 79), (.t 80)]), om 75 81, oo 82 (.ext 0 (.t 75)), oo 83 (.ext 1 (.t 75)), om 13 82, om 14 83]) (.seq (.reg [oo 85 (cl 19 []), oo 86 (cl 23 [(ci 2)]), oo 87 (cl 23 [(ci 2)]), oo 88 (.bsl 5 2 [(.int .i64 (0)), (.int .i64 (0)), (.int .i64 (0)), (.int .i64 (0)), (.int .i64 (0))] [(0, (.t 86)), (1, (.t 87))]), om 89 2, oo 90 (cl 8 [(.t 85), (.t 88), (.t 89)]), om 84 90, oo 91 (.ext 0 (.t 84)), oo 92 (.ext 1 (.t 84)), om 15 91, om 16 92]) (.seq (.reg [oo 94 (cl 19 []), oo 95 (cl 23 [(ci 2)]), oo 96 (cl 23 [(ci 2)]), oo 97 (.bsl 5 2 [(.int .i64 (0)), (.int .i64 (0)), (.int .i64 (0)), (.int .i64 (0)), (.int .i64 (0))] [(0, (.t 95)), (1, (.t 96))]), om 98 2, oo 99 (cl 15 [(.t 94), (.t 97), (.t 98)]), om 93 99, oo 100 (.ext 0 (.t 93)), oo 101 (.ext 1 (.t 93)), om 17 100, om 18 101]) (.seq (.reg [oo 103 (.bsl 2 0 [(.int .i64 (0)), (.int .i64 (0))] []), om 104 3, oo 105 (.app 2 (.t 103) (.t 104)), oo 106 (cl 24 [(.t 105), (ci 5), (ci 8)]), om 102 106, oo 107 (.ext 0 (.t 102)), oo 108 (.ext 1 (.t 102)), om 19 107, om 20 108]) (.seq (.reg [om 109 3, oo 110 (.ias 2 (.t 109) (ci 2)), oo 111 (.fa 1 (.t 110)), ⟨none, (.st 1 (.t 111) (ci 0)), none, []⟩]) (.seq (.reg [oo 113 (.bsl 2 0 [(.int .i64 (0)), (.int .i64 (0))] []), om 114 3, oo 115 (.app 2 (.t 113) (.t 114)), oo 116 (cl 24 [(.t 115), (ci 5), (ci 0)]), om 112 116, oo 117 (.ext 0 (.t 112)), oo 118 (.ext 1 (.t 112)), om 21 117, om 22 118]) (.seq (.reg [oo 120 (.bsl 2 0 [(.int .i64 (0)), (.int .i64 (0))] []), om 121 3, oo 122 (.app 2 (.t 120) (.t 121)), oo 123 (cl 25 [(.t 122), (ci 5), (ci 0)]), om 119 123, oo 124 (.ext 0 (.t 119)), oo 125 (.ext 1 (.t 119)), om 23 124, om 24 125]) (.seq (.reg [om 127 3, oo 128 (cl 26 [(.t 127), (ci 5), (ci 0)]), om 126 128, oo 129 (.ext 0 (.t 126)), oo 130 (.ext 1 (.t 126)), oo 131 (.ext 2 (.t 126)), om 25 129, om 26 130, om 27 131]) (.seq (.seq (.reg [om 132 5, oo 133 (.ar .neq (.t 132) (ci 0)), om 134 133, og 135 (.mv (.t 8)) 134 false, og 136 (.ar .neq (.t 135) (ci 0)) 134 false, oo 137 (.pick (.t 134) (.c (.bool true)) (.t 136)), om 138 137, og 139 (.mv (.t 10)) 138 false, og 140 (.ar .neq (.t 139) (ci 0)) 138 false, oo 141 (.pick (.t 138) (.c (.bool true)) (.t 140)), om 142 141, og 143 (.mv (.t 12)) 142 false, og 144 (.ar .neq (.t 143) (ci 0)) 142 false, oo 145 (.pick (.t 142) (.c (.bool true)) (.t 144)), om 146 145, og 147 (.mv (.t 14)) 146 false, og 148 (.ar .neq (.t 147) (ci 0)) 146 false, oo 149 (.pick (.t 146) (.c (.bool true)) (.t 148)), om 150 149, og 151 (.mv (.t 16)) 150 false, og 152 (.ar .neq (.t 151) (ci 9)) 150 false, oo 153 (.pick (.t 150) (.c (.bool true)) (.t 152)), om 154 153, og 155 (.mv (.t 18)) 154 false, og 156 (.ar .neq (.t 155) (ci 0)) 154 false, oo 157 (.pick (.t 154) (.c (.bool true)) (.t 156)), om 158 157, og 159 (.mv (.t 20)) 158 false, og 160 (.ar .neq (.t 159) (ci 0)) 158 false, oo 161 (.pick (.t 158) (.c (.bool true)) (.t 160)), om 162 161, og 163 (.mv (.t 22)) 162 false, og 164 (.ar .neq (.t 163) (ci 0)) 162 false, oo 165 (.pick (.t 162) (.c (.bool true)) (.t 164)), om 166 165, og 167 (.mv (.t 24)) 166 false, og 168 (.ar .neq (.t 167) (ci 0)) 166 false, oo 169 (.pick (.t 166) (.c (.bool true)) (.t 168)), om 170 169, og 171 (.mv (.t 27)) 170 false, og 172 (.ar .neq (.t 171) (ci 0)) 170 false, oo 173 (.pick (.t 170) (.c (.bool true)) (.t 172)), om 174 173, og 175 (.mv (.t 19)) 174 false, og 176 (.len (.t 175)) 174 false, og 177 (.ar .neq (.t 176) (ci 1)) 174 false, oo 178 (.pick (.t 174) (.c (.bool true)) (.t 177)), om 179 178, og 180 (.mv (.t 21)) 179 false, og 181 (.len (.t 180)) 179 false, og 182 (.ar .neq (.t 181) (ci 2)) 179 false, oo 183 (.pick (.t 179) (.c (.bool true)) (.t 182))]) (.cond (.t 183) (.seq (.reg [oo 0 (.mv (.c (.bool false)))]) .ret) .skip)) (.seq (.drw [om 184 4, op 185 (cl 17 [(ci 80), (ci 90)]) [0], op 186 (cl 17 [(ci 60), (ci 70)]) [0], op 187 (.bsl 2 2 [(.int .i64 (0)), (.int .i64 (0))] [(0, (.t 185)), (1, (.t 186))]) [0], oo 188 (cl 27 [(.t 184), (.t 187)]), om 189 188, og 190 (.mv (.t 6)) 189 true, og 191 (.ar .eql (.t 190) (ci 90)) 189 true, oo 192 (.pick (.t 189) (.t 191) (.c (.bool false))), om 193 192, og 194 (.mv (.t 7)) 193 true, og 195 (.ar .eql (.t 194) (ci 2)) 193 true, oo 196 (.pick (.t 193) (.t 195) (.c (.bool false))), om 197 196, og 198 (.mv (.t 9)) 197 true, og 199 (.ar .eql (.t 198) (ci 1)) 197 true, oo 200 (.pick (.t 197) (.t 199) (.c (.bool false))), om 201 200, og 202 (.ldn 2 (.t 11)) 201 true, ⟨(some 203), (cl 17 [(ci 700), (ci 1000)]), (some (201, true)), [18]⟩, og 204 (.eqv false 45 (.tmp 202) (.tmp 203) (.t 202) (.t 203)) 201 true, oo 205 (.pick (.t 201) (.t 204) (.c (.bool false))), om 206 205, og 207 (.mv (.t 13)) 206 true, ⟨(some 208), (.bsl 1 2 [(.int .i64 (0))] [(0, (ci 0)), (1, (ci 1))]), (some (206, true)), [23]⟩, og 209 (cl 14 [(.t 207), (.t 208)]) 206 true, oo 210 (.pick (.t 206) (.t 209) (.c (.bool false))), om 211 210, og 212 (.mv (.t 17)) 211 true, ⟨(some 213), (.bsl 1 2 [(.int .i64 (0))] [(0, (ci 0)), (1, (ci 1))]), (some (211, true)), [28]⟩, og 214 (cl 14 [(.t 212), (.t 213)]) 211 true, oo 215 (.pick (.t 211) (.t 214) (.c (.bool false))), om 216 215, og 217 (.mv (.t 19)) 216 true, og 218 (.ias 1 (.t 217) (ci 0)) 216 true, og 219 (.ld (.t 218)) 216 true, ⟨(some 220), (.bsl 1 1 [(.int .i64 (0))] [(0, (ci 2))]), (some (216, true)), [33, 34, 35]⟩, og 221 (cl 14 [(.t 219), (.t 220)]) 216 true, oo 222 (.pick (.t 216) (.t 221) (.c (.bool false))), om 223 222, og 224 (.mv (.t 21)) 223 true, og 225 (.ias 1 (.t 224) (ci 0)) 223 true, og 226 (.ld (.t 225)) 223 true, ⟨(some 227), (.bsl 1 2 [(.int .i64 (0))] [(0, (ci 0)), (1, (ci 1))]), (some (223, true)), [40, 41, 42]⟩, og 228 (cl 14 [(.t 226), (.t 227)]) 223 true, oo 229 (.pick (.t 223) (.t 228) (.c (.bool false))), om 230 229, og 231 (.mv (.t 21)) 230 true, og 232 (.ias 1 (.t 231) (ci 1)) 230 true, og 233 (.ld (.t 232)) 230 true, ⟨(some 234), (.bsl 1 2 [(.int .i64 (0))] [(0, (ci 1)), (1, (ci 3))]), (some (230, true)), [47, 48, 49]⟩, og 235 (cl 14 [(.t 233), (.t 234)]) 230 true, oo 236 (.pick (.t 230) (.t 235) (.c (.bool false))), om 237 236, og 238 (.mv (.t 23)) 237 true, ⟨(some 239), (.bsl 1 1 [(.int .i64 (0))] [(0, (ci 1))]), (some (237, true)), [54]⟩, og 240 (cl 14 [(.t 238), (.t 239)]) 237 true, oo 241 (.pick (.t 237) (.t 240) (.c (.bool false))), om 242 241, og 243 (.mv (.t 25)) 242 true, og 244 (.ar .eql (.t 243) (ci 3)) 242 true, oo 245 (.pick (.t 242) (.t 244) (.c (.bool false))), om 246 245, og 247 (.mv (.t 26)) 246 true, og 248 (.ar .eql (.t 247) (ci 1)) 246 true, oo 249 (.pick (.t 246) (.t 248) (.c (.bool false))), om 0 249]) .ret)))))))))))))))))), 250, [(.tmp 0)], false, fun _ => none, fun _ _ => none⟩
def c6 : CFn := ⟨(.seq (.reg [oo 2 (.mv (.c .nils))]) (.seq (.reg [oo 3 (.bsl 5 0 [(.int .i64 (0)), (.int .i64 (0)), (.int .i64 (0)), (.int .i64 (0)), (.int .i64 (0))] []), om 4 0, oo 5 (.app 5 (.t 3) (.t 4)), om 2 5]) .ret)), 6, [(.tmp 2)], false, fun _ => none, fun _ _ => none⟩
def c7 : CFn := ⟨(.seq (.reg [oo 2 (.mv (.c .nils))]) (.seq (.reg [oo 3 (.bsl 3 0 [(.int .i64 (0)), (.int .i64 (0)), (.int .i64 (0))] []), om 4 0, oo 5 (.app 3 (.t 3) (.t 4)), om 2 5]) .ret)), 6, [(.tmp 2)], false, fun _ => none, fun _ _ => none⟩
def c8 : CFn := ⟨(.seq (.reg [oo 3 (.box (.t 0)), oo 6 (.new [.nils]), oo 7 (.mv (ci 0))]) (.seq (.reg [oo 14 (.ldn 2 (.t 3)), om 15 1, om 16 2, oo 17 (cl 28 [(.t 14), (.t 15), (.t 16)]), om 13 17, oo 18 (.ext 0 (.t 13)), oo 19 (.ext 1 (.t 13)), oo 8 (.new [.nilp]), ⟨none, (.st 1 (.t 8) (.t 18)), none, []⟩, om 7 19]) (.seq (.seq (.reg [om 20 7, oo 21 (.ar .neq (.t 20) (ci 0))]) (.cond (.t 21) (.seq (.reg [om 22 7, ⟨none, (.st 1 (.t 6) (.c .nils)), none, []⟩, om 7 22]) .ret) .skip)) (.seq (.drw [om 23 1, oo 24 (.len (.t 23)), oo 25 (.sh .shl (.c (.int .u64 (1))) (.t 24)), oo 26 (.ar .sub (.t 25) (.c (.int .u64 (1)))), op 27 (.ld (.t 8)) [0, 1, 2, 3], op 28 (.chk (.t 27)) [0, 1, 2, 3], op 29 (.fa 1 (.t 28)) [0, 1, 2, 3], op 30 (.ld (.t 29)) [0, 1, 2, 3], op 31 (cl 29 [(.t 30)]) [0, 1, 2, 3], op 9 (.new [(.int .u64 (0))]) [0, 1, 2, 3, 4, 5, 6, 7, 8], op 10 (.new [.nils]) [0, 1, 2, 3, 4, 5, 6, 7, 8, 9], ⟨none, (.st 1 (.t 9) (.t 26)), none, []⟩, ⟨none, (.st 1 (.t 10) (.t 31)), none, []⟩]) (.seq (.seq (.reg [oo 32 (.ld (.t 8)), oo 33 (.ld (.t 9)), oo 34 (.ld (.t 10)), oo 35 (cl 30 [(.t 32), (.t 33), (.t 34)]), oo 36 (.un .not (.t 35))]) (.cond (.t 36) (.seq (.reg [⟨none, (.st 1 (.t 6) (.c .nils)), none, []⟩, oo 7 (.mv (ci 9))]) .ret) .skip)) (.seq (.seq (.reg [om 37 1, oo 38 (.len (.t 37)), oo 39 (.mv (ci 0))]) (.block 0 (.loop 18015223143204800 (.seq (.reg [oo 40 (.ar .lss (.t 39) (.t 38))]) (.seq (.cond (.t 40) .skip (.exit 0)) (.seq (.block 1 (.seq (.reg [om 41 39, om 11 41]) (.seq (.drw [oo 42 (.ld (.t 9)), op 43 (.mv (.t 11)) [0], op 44 (.sh .shl (.c (.int .u64 (1))) (.t 43)) [0], oo 45 (.ar .andNot (.t 42) (.t 44)), ⟨none, (.st 1 (.t 9) (.t 45)), none, []⟩]) (.seq (.reg [oo 46 (.ld (.t 8)), oo 47 (.chk (.t 46)), oo 48 (.fa 0 (.t 47)), oo 49 (.ld (.t 48)), om 50 11, oo 51 (.ias 1 (.t 49) (.t 50)), oo 52 (.ld (.t 51)), oo 53 (.mkf 31 [(.t 52)] [])]) (.block 2 (.rf (.t 53) [54] (.reg [om 12 54]) (.block 3 (.seq (.seq (.reg [oo 55 (.ld (.t 10)), om 56 12, oo 57 (.ias 1 (.t 55) (.t 56)), oo 58 (.ld (.t 57)), oo 59 (.ar .eql (.t 58) (ci 0))]) (.cond (.t 59) (.exit 3) .skip)) (.seq (.reg [oo 60 (.ld (.t 10)), om 61 12, oo 62 (.ias 1 (.t 60) (.t 61)), oo 63 (.ld (.t 62)), oo 64 (.ar .sub (.t 63) (ci 1)), oo 65 (.ias 1 (.t 60) (.t 61)), ⟨none, (.st 1 (.t 65) (.t 64)), none, []⟩]) (.seq (.seq (.reg [oo 66 (.ld (.t 8)), oo 67 (.ld (.t 9)), oo 68 (.ld (.t 10)), oo 69 (cl 30 [(.t 66), (.t 67), (.t 68)])]) (.cond (.t 69) (.seq (.reg [oo 70 (.ld (.t 6)), om 71 12, oo 72 (.bsl 1 1 [(.int .i64 (0))] [(0, (.t 71))]), oo 73 (.app 1 (.t 70) (.t 72)), ⟨none, (.st 1 (.t 6) (.t 73)), none, []⟩]) (.exit 2)) .skip)) (.reg [oo 74 (.ld (.t 10)), om 75 12, oo 76 (.ias 1 (.t 74) (.t 75)), oo 77 (.ld (.t 76)), oo 78 (.ar .add (.t 77) (ci 1)), oo 79 (.ias 1 (.t 74) (.t 75)), ⟨none, (.st 1 (.t 79) (.t 78)), none, []⟩]))))))))))) (.reg [oo 80 (.ar .add (.t 39) (ci 1)), om 39 80]))))))) (.seq (.reg [oo 81 (.ld (.t 6)), ⟨none, (.st 1 (.t 6) (.t 81)), none, []⟩, oo 7 (.mv (ci 0))]) .ret))))))), 82, [(.ld 6), (.tmp 7)], false, fun _ => none, fun _ _ => none⟩
def c9 : CFn := ⟨(.seq (.reg [oo 4 (.mv (.c (.bool false)))]) (.seq (.seq (.reg [om 6 0, oo 7 (.len (.t 6)), om 8 1, oo 9 (.len (.t 8)), oo 10 (.ar .neq (.t 7) (.t 9))]) (.cond (.t 10) (.seq (.reg [oo 4 (.mv (.c (.bool false)))]) .ret) .skip)) (.seq (.seq (.reg [oo 5 (.mv (ci 0))]) (.block 0 (.loop 35 (.seq (.seq (.reg [om 11 5, om 12 0, oo 13 (.len (.t 12)), oo 14 (.ar .lss (.t 11) (.t 13))]) (.cond (.t 14) .skip (.exit 0))) (.seq (.block 1 (.seq (.drw [om 17 0, op 18 (.mv (.t 5)) [0], oo 19 (.ias 5 (.t 17) (.t 18)), oo 20 (.ldn 5 (.t 19)), op 21 (.mv (.t 1)) [0, 1, 2, 3], op 22 (.mv (.t 5)) [0, 1, 2, 3, 4], op 23 (.ias 5 (.t 21) (.t 22)) [0, 1, 2, 3], op 24 (.ldn 5 (.t 23)) [0, 1, 2, 3], oo 25 (.eqv true 69 (.tmp 20) (.tmp 24) (.t 20) (.t 24))]) (.cond (.t 25) (.seq (.reg [oo 4 (.mv (.c (.bool false)))]) .ret) .skip))) (.reg [om 15 5, oo 16 (.ar .add (.t 15) (ci 1)), om 5 16])))))) (.seq (.reg [oo 4 (.mv (.c (.bool true)))]) .ret)))), 26, [(.tmp 4)], false, fun _ => none, fun _ _ => none⟩
def c10 : CFn := ⟨(.seq (.reg [oo 4 (.mv (.c (.bool false)))]) (.seq (.seq (.reg [om 6 0, oo 7 (.len (.t 6)), om 8 1, oo 9 (.len (.t 8)), oo 10 (.ar .neq (.t 7) (.t 9))]) (.cond (.t 10) (.seq (.reg [oo 4 (.mv (.c (.bool false)))]) .ret) .skip)) (.seq (.seq (.reg [oo 5 (.mv (ci 0))]) (.block 0 (.loop 35 (.seq (.seq (.reg [om 11 5, om 12 0, oo 13 (.len (.t 12)), oo 14 (.ar .lss (.t 11) (.t 13))]) (.cond (.t 14) .skip (.exit 0))) (.seq (.block 1 (.seq (.drw [om 17 0, op 18 (.mv (.t 5)) [0], oo 19 (.ias 3 (.t 17) (.t 18)), oo 20 (.ldn 3 (.t 19)), op 21 (.mv (.t 1)) [0, 1, 2, 3], op 22 (.mv (.t 5)) [0, 1, 2, 3, 4], op 23 (.ias 3 (.t 21) (.t 22)) [0, 1, 2, 3], op 24 (.ldn 3 (.t 23)) [0, 1, 2, 3], oo 25 (.eqv true 51 (.tmp 20) (.tmp 24) (.t 20) (.t 24))]) (.cond (.t 25) (.seq (.reg [oo 4 (.mv (.c (.bool false)))]) .ret) .skip))) (.reg [om 15 5, oo 16 (.ar .add (.t 15) (ci 1)), om 5 16])))))) (.seq (.reg [oo 4 (.mv (.c (.bool true)))]) .ret)))), 26, [(.tmp 4)], false, fun _ => none, fun _ _ => none⟩
def c11 : CFn := ⟨(.seq (.reg [oo 3 (.box (.t 0)), oo 6 (.mv (ci 0))]) (.seq (.seq (.reg [oo 9 (.ldn 2 (.t 3)), oo 10 (cl 32 [(.t 9)]), oo 11 (.un .not (.t 10))]) (.cond (.t 11) (.seq (.reg [oo 6 (.mv (ci 2))]) .ret) .skip)) (.seq (.seq (.reg [om 12 1, oo 13 (.len (.t 12)), oo 14 (.ar .gtr (.t 13) (ci 7)), om 15 14, og 16 (.mv (.t 2)) 15 false, og 17 (.len (.t 16)) 15 false, og 18 (.ar .gtr (.t 17) (ci 4)) 15 false, oo 19 (.pick (.t 15) (.c (.bool true)) (.t 18))]) (.cond (.t 19) (.seq (.reg [oo 6 (.mv (ci 5))]) .ret) .skip)) (.seq (.seq (.reg [oo 7 (.mv (ci 0))]) (.block 0 (.loop 134 (.seq (.seq (.reg [om 20 7, om 21 1, oo 22 (.len (.t 21)), oo 23 (.ar .lss (.t 20) (.t 22))]) (.cond (.t 23) .skip (.exit 0))) (.seq (.block 1 (.seq (.reg [om 26 1, om 27 7, oo 28 (.ias 5 (.t 26) (.t 27)), oo 29 (.fa 0 (.t 28)), oo 30 (.ldn 2 (.t 29)), oo 31 (cl 33 [(.t 30)]), oo 32 (.un .not (.t 31)), om 33 32, og 34 (.mv (.t 1)) 33 false, og 35 (.mv (.t 7)) 33 false, og 36 (.ias 5 (.t 34) (.t 35)) 33 false, og 37 (.fa 2 (.t 36)) 33 false, og 38 (.ldn 2 (.t 37)) 33 false, og 39 (cl 33 [(.t 38)]) 33 false, og 40 (.un .not (.t 39)) 33 false, oo 41 (.pick (.t 33) (.c (.bool true)) (.t 40)), om 42 41, og 43 (.mv (.t 1)) 42 false, og 44 (.mv (.t 7)) 42 false, og 45 (.ias 5 (.t 43) (.t 44)) 42 false, og 46 (.fa 4 (.t 45)) 42 false, og 47 (.ld (.t 46)) 42 false, og 48 (cl 34 [(.t 47), (ci 0), (ci 500)]) 42 false, og 49 (.un .not (.t 48)) 42 false, oo 50 (.pick (.t 42) (.c (.bool true)) (.t 49))]) (.cond (.t 50) (.seq (.reg [oo 6 (.mv (ci 4))]) .ret) .skip))) (.reg [om 24 7, oo 25 (.ar .add (.t 24) (ci 1)), om 7 25])))))) (.seq (.seq (.reg [oo 8 (.mv (ci 0))]) (.block 2 (.loop 260 (.seq (.seq (.reg [om 51 8, om 52 2, oo 53 (.len (.t 52)), oo 54 (.ar .lss (.t 51) (.t 53))]) (.cond (.t 54) .skip (.exit 2))) (.seq (.block 3 (.seq (.reg [om 57 2, om 58 8, oo 59 (.ias 3 (.t 57) (.t 58)), oo 60 (.fa 0 (.t 59)), oo 61 (.ldn 2 (.t 60)), oo 62 (cl 33 [(.t 61)]), oo 63 (.un .not (.t 62)), om 64 63, og 65 (.mv (.t 2)) 64 false, og 66 (.mv (.t 8)) 64 false, og 67 (.ias 3 (.t 65) (.t 66)) 64 false, og 68 (.fa 2 (.t 67)) 64 false, og 69 (.ld (.t 68)) 64 false, og 70 (cl 34 [(.t 69), (ci 0), (ci 7)]) 64 false, og 71 (.un .not (.t 70)) 64 false, oo 72 (.pick (.t 64) (.c (.bool true)) (.t 71))]) (.cond (.t 72) (.seq (.reg [oo 6 (.mv (ci 4))]) .ret) .skip))) (.reg [om 55 8, oo 56 (.ar .add (.t 55) (ci 1)), om 8 56])))))) (.seq (.reg [oo 6 (.mv (ci 0))]) .ret)))))), 73, [(.tmp 6)], false, fun _ => none, fun _ _ => none⟩
def c12 : CFn := ⟨(.seq (.reg [oo 8 (.mv (.c .nils)), oo 9 (.mv (.c (.bool false)))]) (.seq (.reg [om 16 3, oo 17 (.len (.t 16)), om 10 17]) (.seq (.seq (.reg [om 18 10, om 19 0, oo 20 (.len (.t 19)), oo 21 (.ar .eql (.t 18) (.t 20))]) (.cond (.t 21) (.seq (.reg [om 22 3, om 8 22, oo 9 (.mv (.c (.bool true)))]) .ret) .skip)) (.seq (.seq (.reg [om 23 2, om 24 10, oo 25 (.ias 1 (.t 23) (.t 24)), oo 26 (.ld (.t 25))]) (.cond (.t 26) (.seq (.reg [om 27 0, om 28 1, om 29 2, oo 30 (.bsl 1 0 [(.int .i64 (0))] []), om 31 3, oo 32 (.app 1 (.t 30) (.t 31)), oo 33 (.bsl 1 1 [(.int .i64 (0))] [(0, (ci (-1)))]), oo 34 (.app 1 (.t 32) (.t 33)), oo 35 (cl 12 [(.t 27), (.t 28), (.t 29), (.t 34)]), oo 36 (.ext 0 (.t 35)), oo 37 (.ext 1 (.t 35)), om 8 36, om 9 37]) .ret) .skip)) (.seq (.seq (.reg [oo 11 (.mv (ci 0))]) (.block 0 (.loop 3087 (.seq (.seq (.reg [om 38 11, om 39 1, oo 40 (.len (.t 39)), oo 41 (.ar .lss (.t 38) (.t 40))]) (.cond (.t 41) .skip (.exit 0))) (.seq (.block 1 (.seq (.reg [oo 12 (.mv (ci 0))]) (.seq (.seq (.reg [oo 13 (.mv (ci 0))]) (.block 2 (.loop 15375 (.seq (.seq (.reg [om 44 13, om 45 10, oo 46 (.ar .lss (.t 44) (.t 45))]) (.cond (.t 46) .skip (.exit 2))) (.seq (.block 3 (.seq (.reg [om 49 3, om 50 13, oo 51 (.ias 1 (.t 49) (.t 50)), oo 52 (.ld (.t 51)), om 53 11, oo 54 (.ar .eql (.t 52) (.t 53))]) (.cond (.t 54) (.reg [om 55 12, oo 56 (.ar .add (.t 55) (ci 1)), om 12 56]) .skip))) (.reg [om 47 13, oo 48 (.ar .add (.t 47) (ci 1)), om 13 48])))))) (.seq (.seq (.reg [om 57 0, om 58 10, oo 59 (.ias 1 (.t 57) (.t 58)), oo 60 (.ld (.t 59)), om 61 11, oo 62 (.ias 1 (.t 60) (.t 61)), oo 63 (.ld (.t 62)), oo 64 (.un .not (.t 63)), om 65 64, og 66 (.mv (.t 12)) 65 false, og 67 (.mv (.t 1)) 65 false, og 68 (.mv (.t 11)) 65 false, og 69 (.ias 3 (.t 67) (.t 68)) 65 false, og 70 (.fa 2 (.t 69)) 65 false, og 71 (.ld (.t 70)) 65 false, og 72 (.ar .geq (.t 66) (.t 71)) 65 false, oo 73 (.pick (.t 65) (.c (.bool true)) (.t 72))]) (.cond (.t 73) (.exit 1) .skip)) (.seq (.reg [om 75 0, om 76 1, om 77 2, oo 78 (.bsl 1 0 [(.int .i64 (0))] []), om 79 3, oo 80 (.app 1 (.t 78) (.t 79)), om 81 11, oo 82 (.bsl 1 1 [(.int .i64 (0))] [(0, (.t 81))]), oo 83 (.app 1 (.t 80) (.t 82)), oo 84 (cl 12 [(.t 75), (.t 76), (.t 77), (.t 83)]), om 74 84, oo 85 (.ext 0 (.t 74)), oo 86 (.ext 1 (.t 74)), om 14 85, om 15 86]) (.seq (.reg [om 87 15]) (.cond (.t 87) (.seq (.reg [om 88 14, om 8 88, oo 9 (.mv (.c (.bool true)))]) .ret) .skip))))))) (.reg [om 42 11, oo 43 (.ar .add (.t 42) (ci 1)), om 11 43])))))) (.seq (.reg [oo 8 (.mv (.c .nils)), oo 9 (.mv (.c (.bool false)))]) .ret)))))), 89, [(.tmp 8), (.tmp 9)], false, fun _ => none, fun _ _ => none⟩
def c13 : CFn := ⟨(.seq (.reg [oo 3 (.box (.t 0)), oo 6 (.mv (.c .nils))]) (.seq (.reg [oo 11 (.bsl 1 0 [.nils] []), om 7 11]) (.seq (.seq (.reg [oo 8 (.mv (ci 0))]) (.block 0 (.loop 398 (.seq (.seq (.reg [om 12 8, om 13 1, oo 14 (.len (.t 13)), oo 15 (.ar .lss (.t 12) (.t 14))]) (.cond (.t 15) .skip (.exit 0))) (.seq (.block 1 (.seq (.reg [oo 18 (.bsl 1 0 [(.bool false)] []), om 9 18]) (.seq (.seq (.reg [oo 10 (.mv (ci 0))]) (.block 2 (.loop 1934 (.seq (.seq (.reg [om 19 10, om 20 2, oo 21 (.len (.t 20)), oo 22 (.ar .lss (.t 19) (.t 21))]) (.cond (.t 22) .skip (.exit 2))) (.seq (.block 3 (.drw [om 25 9, op 26 (.ldn 2 (.t 3)) [0], op 27 (.mv (.t 1)) [0, 1], op 28 (.mv (.t 8)) [0, 1, 2], op 29 (.ias 5 (.t 27) (.t 28)) [0, 1], op 30 (.ldn 5 (.t 29)) [0, 1], op 31 (.mv (.t 2)) [0, 1, 2, 3, 4, 5], op 32 (.mv (.t 10)) [0, 1, 2, 3, 4, 5, 6], op 33 (.ias 3 (.t 31) (.t 32)) [0, 1, 2, 3, 4, 5], op 34 (.ldn 3 (.t 33)) [0, 1, 2, 3, 4, 5], op 35 (cl 35 [(.t 26), (.t 30), (.t 34)]) [0], op 36 (.bsl 1 1 [(.bool false)] [(0, (.t 35))]) [0], oo 37 (.app 1 (.t 25) (.t 36)), om 9 37])) (.reg [om 23 10, oo 24 (.ar .add (.t 23) (ci 1)), om 10 24])))))) (.reg [om 38 7, om 39 9, oo 40 (.bsl 1 1 [.nils] [(0, (.t 39))]), oo 41 (.app 1 (.t 38) (.t 40)), om 7 41])))) (.reg [om 16 8, oo 17 (.ar .add (.t 16) (ci 1)), om 8 17])))))) (.seq (.reg [om 42 7, om 6 42]) .ret)))), 43, [(.tmp 6)], false, fun _ => none, fun _ _ => none⟩
def c14 : CFn := ⟨(.seq (.reg [oo 4 (.mv (.c (.bool false)))]) (.seq (.seq (.reg [om 6 0, oo 7 (.len (.t 6)), om 8 1, oo 9 (.len (.t 8)), oo 10 (.ar .neq (.t 7) (.t 9))]) (.cond (.t 10) (.seq (.reg [oo 4 (.mv (.c (.bool false)))]) .ret) .skip)) (.seq (.seq (.reg [oo 5 (.mv (ci 0))]) (.block 0 (.loop 35 (.seq (.seq (.reg [om 11 5, om 12 0, oo 13 (.len (.t 12)), oo 14 (.ar .lss (.t 11) (.t 13))]) (.cond (.t 14) .skip (.exit 0))) (.seq (.block 1 (.seq (.drw [om 17 0, op 18 (.mv (.t 5)) [0], oo 19 (.ias 1 (.t 17) (.t 18)), oo 20 (.ld (.t 19)), op 21 (.mv (.t 1)) [0, 1, 2, 3], op 22 (.mv (.t 5)) [0, 1, 2, 3, 4], op 23 (.ias 1 (.t 21) (.t 22)) [0, 1, 2, 3], op 24 (.ld (.t 23)) [0, 1, 2, 3], oo 25 (.ar .neq (.t 20) (.t 24))]) (.cond (.t 25) (.seq (.reg [oo 4 (.mv (.c (.bool false)))]) .ret) .skip))) (.reg [om 15 5, oo 16 (.ar .add (.t 15) (ci 1)), om 5 16])))))) (.seq (.reg [oo 4 (.mv (.c (.bool true)))]) .ret)))), 26, [(.tmp 4)], false, fun _ => none, fun _ _ => none⟩
def c15 : CFn := ⟨(.seq (.reg [oo 3 (.box (.t 0)), oo 6 (.mv (.c .nils)), oo 7 (.mv (ci 0))]) (.seq (.reg [oo 12 (.ldn 2 (.t 3)), om 13 1, om 14 2, oo 15 (cl 28 [(.t 12), (.t 13), (.t 14)]), om 11 15, oo 16 (.ext 0 (.t 11)), oo 17 (.ext 1 (.t 11)), om 8 16, om 7 17]) (.seq (.seq (.reg [om 18 7, oo 19 (.ar .neq (.t 18) (ci 0))]) (.cond (.t 19) (.seq (.reg [om 20 7, oo 6 (.mv (.c .nils)), om 7 20]) .ret) .skip)) (.seq (.seq (.reg [om 21 1, oo 22 (.len (.t 21)), oo 23 (.sh .shl (.c (.int .u64 (1))) (.t 22)), oo 24 (.mv (.c (.int .u64 (0))))]) (.block 0 (.loop 25166144 (.seq (.reg [oo 25 (.ar .lss (.t 24) (.t 23))]) (.seq (.cond (.t 25) .skip (.exit 0)) (.seq (.block 1 (.seq (.reg [om 26 24, om 9 26]) (.seq (.seq (.reg [om 27 8, om 28 9, om 29 8, oo 30 (.chk (.t 29)), oo 31 (.fa 1 (.t 30)), oo 32 (.ld (.t 31)), oo 33 (cl 30 [(.t 27), (.t 28), (.t 32)])]) (.cond (.t 33) (.exit 1) .skip)) (.seq (.reg [om 34 9, oo 35 (.mkf 31 [(.t 34)] []), oo 36 (cl 36 [(.t 35)]), om 10 36]) (.seq (.reg [om 37 6, oo 38 (.snil false (.t 37) (.c .nils)), om 39 38, og 40 (.mv (.t 10)) 39 false, og 41 (.len (.t 40)) 39 false, og 42 (.mv (.t 6)) 39 false, og 43 (.len (.t 42)) 39 false, og 44 (.ar .lss (.t 41) (.t 43)) 39 false, oo 45 (.pick (.t 39) (.c (.bool true)) (.t 44)), om 46 45, og 47 (.mv (.t 10)) 46 false, og 48 (.len (.t 47)) 46 false, og 49 (.mv (.t 6)) 46 false, og 50 (.len (.t 49)) 46 false, og 51 (.ar .eql (.t 48) (.t 50)) 46 false, og 52 (.mv (.t 51)) 46 false, og 53 (.mv (.t 10)) 52 true, og 54 (.mv (.t 6)) 52 true, og 55 (cl 37 [(.t 53), (.t 54)]) 52 true, og 56 (.ar .lss (.t 55) (ci 0)) 52 true, og 57 (.pick (.t 52) (.t 56) (.c (.bool false))) 46 false, oo 58 (.pick (.t 46) (.c (.bool true)) (.t 57))]) (.cond (.t 58) (.reg [om 59 10, om 6 59]) .skip)))))) (.reg [oo 60 (.ar .add (.t 24) (.c (.int .u64 (1)))), om 24 60]))))))) (.seq (.seq (.reg [om 61 6, oo 62 (.snil false (.t 61) (.c .nils))]) (.cond (.t 62) (.seq (.reg [oo 6 (.mv (.c .nils)), oo 7 (.mv (ci 7))]) .ret) .skip)) (.seq (.reg [om 63 6, om 6 63, oo 7 (.mv (ci 0))]) .ret)))))), 64, [(.tmp 6), (.tmp 7)], false, fun _ => none, fun _ _ => none⟩
def c16 : CFn := ⟨(.seq (.reg [oo 4 (.mv (.c .nils)), oo 5 (.mv (.c (.bool false)))]) (.seq (.reg [oo 15 (.bsl 1 0 [(.int .i64 (0))] []), om 6 15, oo 7 (.mv (.c (.bool false)))]) (.seq (.seq (.reg [oo 8 (.mv (ci 0))]) (.block 0 (.loop 451 (.seq (.seq (.reg [om 16 8, om 17 0, oo 18 (.len (.t 17)), oo 19 (.conv .u64 (.t 18)), oo 20 (.sh .shl (ci 1) (.t 19)), oo 21 (.ar .lss (.t 16) (.t 20))]) (.cond (.t 21) .skip (.exit 0))) (.seq (.block 1 (.seq (.reg [oo 24 (.bsl 1 0 [(.int .i64 (0))] []), oo 25 (.bsl 1 0 [(.bool false)] []), om 9 24, om 10 25]) (.seq (.seq (.reg [oo 11 (.mv (ci 0))]) (.block 2 (.loop 4035 (.seq (.seq (.reg [om 26 11, om 27 0, oo 28 (.len (.t 27)), oo 29 (.ar .lss (.t 26) (.t 28))]) (.cond (.t 29) .skip (.exit 2))) (.seq (.block 3 (.seq (.reg [om 32 8, om 33 11, oo 34 (.conv .u64 (.t 33)), oo 35 (.sh .shr (.t 32) (.t 34)), oo 36 (.ar .and (.t 35) (ci 1)), oo 37 (.ar .eql (.t 36) (ci 1)), om 12 37]) (.seq (.reg [om 38 10, om 39 12, oo 40 (.un .not (.t 39)), oo 41 (.bsl 1 1 [(.bool false)] [(0, (.t 40))]), oo 42 (.app 1 (.t 38) (.t 41)), om 10 42]) (.seq (.reg [om 43 12]) (.cond (.t 43) (.reg [om 44 9, om 45 11, oo 46 (.bsl 1 1 [(.int .i64 (0))] [(0, (.t 45))]), oo 47 (.app 1 (.t 44) (.t 46)), om 9 47]) .skip))))) (.reg [om 30 11, oo 31 (.ar .add (.t 30) (ci 1)), om 11 31])))))) (.seq (.reg [om 49 0, om 50 1, om 51 10, oo 52 (cl 12 [(.t 49), (.t 50), (.t 51), (.c .nils)]), om 48 52, oo 53 (.ext 0 (.t 48)), oo 54 (.ext 1 (.t 48)), om 13 53, om 14 54]) (.seq (.reg [om 55 14, oo 56 (.un .not (.t 55)), om 57 56, og 58 (.mv (.t 7)) 57 true, og 59 (.un .not (.t 58)) 57 true, og 60 (.mv (.t 59)) 57 true, og 61 (.mv (.t 9)) 60 false, og 62 (.mv (.t 6)) 60 false, og 63 (cl 38 [(.t 61), (.t 62)]) 60 false, og 64 (.pick (.t 60) (.c (.bool true)) (.t 63)) 57 true, oo 65 (.pick (.t 57) (.t 64) (.c (.bool false)))]) (.cond (.t 65) (.reg [om 66 9, om 6 66, oo 7 (.mv (.c (.bool true)))]) .skip)))))) (.reg [om 22 8, oo 23 (.ar .add (.t 22) (ci 1)), om 8 23])))))) (.seq (.reg [om 67 6, om 68 7, om 4 67, om 5 68]) .ret)))), 69, [(.tmp 4), (.tmp 5)], false, fun _ => none, fun _ _ => none⟩
def c17 : CFn := ⟨(.seq (.reg [oo 4 (.new [(.int .i64 (0)), (.int .i64 (0))])]) (.seq (.reg [om 5 0, om 6 1, oo 7 (.bld [(.int .i64 (0)), (.int .i64 (0))] [(0, (1, (.t 5))), (1, (1, (.t 6)))]), ⟨none, (.st 2 (.t 4) (.t 7)), none, []⟩]) .ret)), 8, [(.ldn 2 4)], false, fun _ => none, fun _ _ => none⟩
def c18 : CFn := ⟨(.seq (.reg [oo 3 (.box (.t 0)), oo 4 (.box (.t 1)), oo 6 (.new [.nils]), oo 7 (.mv (ci 0))]) (.seq (.seq (.reg [oo 11 (.ldn 2 (.t 3)), oo 12 (.ldn 2 (.t 4)), om 13 2, oo 14 (cl 39 [(.t 11), (.t 12), (.t 13)]), om 8 14]) (.seq (.reg [om 15 8, oo 16 (.ar .neq (.t 15) (ci 0))]) (.cond (.t 16) (.seq (.reg [om 17 8, ⟨none, (.st 1 (.t 6) (.c .nils)), none, []⟩, om 7 17]) .ret) .skip))) (.seq (.seq (.reg [oo 18 (.ldn 2 (.t 4)), oo 19 (.bld [(.int .i64 (0)), (.int .i64 (0))] [(0, (2, (.t 18)))]), oo 20 (.ldn 2 (.t 3)), om 21 2, oo 22 (cl 40 [(.t 19), (.t 20), (.t 21)])]) (.block 0 (.rf (.t 22) [23, 24] (.reg [oo 10 (.new [(.int .i64 (0)), (.int .i64 (0))]), ⟨none, (.st 2 (.t 10) (.t 24)), none, []⟩]) (.block 1 (.reg [oo 25 (.ld (.t 6)), oo 26 (.fa 0 (.t 10)), oo 27 (.ldn 2 (.t 26)), oo 28 (.bsl 2 1 [(.int .i64 (0)), (.int .i64 (0))] [(0, (.t 27))]), oo 29 (.app 2 (.t 25) (.t 28)), ⟨none, (.st 1 (.t 6) (.t 29)), none, []⟩]))))) (.seq (.reg [oo 30 (.ld (.t 6)), ⟨none, (.st 1 (.t 6) (.t 30)), none, []⟩, oo 7 (.mv (ci 0))]) .ret)))), 31, [(.ld 6), (.tmp 7)], false, fun _ => none, fun _ _ => none⟩
def c19 : CFn := ⟨(.seq (.reg [oo 0 (.new [(.int .i64 (0)), (.int .i64 (0))])]) (.seq (.reg [oo 1 (.bld [(.int .i64 (0)), (.int .i64 (0))] [(0, (1, (ci 10))), (1, (1, (ci 4)))]), ⟨none, (.st 2 (.t 0) (.t 1)), none, []⟩]) .ret)), 2, [(.ldn 2 0)], false, fun _ => none, fun _ _ => none⟩
def c20 : CFn := ⟨(.seq (.reg [oo 3 (.box (.t 0)), oo 4 (.box (.t 1)), oo 6 (.new [(.int .i64 (0))]), oo 7 (.new [(.int .i64 (0))]), oo 8 (.mv (ci 0))]) (.seq (.seq (.reg [oo 14 (.ldn 2 (.t 3)), oo 15 (.ldn 2 (.t 4)), om 16 2, oo 17 (cl 39 [(.t 14), (.t 15), (.t 16)]), om 9 17]) (.seq (.reg [om 18 9, oo 19 (.ar .neq (.t 18) (ci 0))]) (.cond (.t 19) (.seq (.reg [om 20 9, ⟨none, (.st 1 (.t 6) (ci 0)), none, []⟩, ⟨none, (.st 1 (.t 7) (ci 0)), none, []⟩, om 8 20]) .ret) .skip))) (.seq (.reg [oo 21 (.ldn 2 (.t 4)), oo 22 (.bld [(.int .i64 (0)), (.int .i64 (0))] [(0, (2, (.t 21)))]), oo 10 (.new [(.int .i64 (0)), (.int .i64 (0))]), oo 11 (.new [(.int .i64 (0))]), ⟨none, (.st 2 (.t 10) (.t 22)), none, []⟩, ⟨none, (.st 1 (.t 11) (ci 0)), none, []⟩]) (.seq (.reg [oo 23 (.fa 1 (.t 4)), oo 24 (.ld (.t 23)), ⟨none, (.st 1 (.t 6) (.t 24)), none, []⟩]) (.seq (.seq (.reg [oo 25 (.ldn 2 (.t 10)), oo 26 (.ldn 2 (.t 3)), om 27 2, oo 28 (cl 40 [(.t 25), (.t 26), (.t 27)])]) (.block 0 (.rf (.t 28) [29, 30] (.seq (.reg [oo 12 (.new [(.int .i64 (0)), (.int .i64 (0)), (.int .i64 (0))]), ⟨none, (.st 3 (.t 12) (.t 29)), none, []⟩]) (.reg [oo 13 (.new [(.int .i64 (0)), (.int .i64 (0))]), ⟨none, (.st 2 (.t 13) (.t 30)), none, []⟩])) (.block 1 (.seq (.seq (.reg [oo 31 (.fa 0 (.t 13)), oo 32 (.fa 1 (.t 31)), oo 33 (.ld (.t 32)), oo 34 (.ld (.t 6)), oo 35 (.ar .gtr (.t 33) (.t 34))]) (.cond (.t 35) (.drw [oo 36 (.fa 0 (.t 13)), oo 37 (.fa 1 (.t 36)), oo 38 (.ld (.t 37)), op 39 (.ld (.t 11)) [0, 1, 2], op 40 (.fa 0 (.t 13)) [0, 1, 2, 3], op 41 (.fa 1 (.t 40)) [0, 1, 2, 3], op 42 (.ld (.t 41)) [0, 1, 2, 3], op 43 (.fa 0 (.t 10)) [0, 1, 2, 3, 4, 5, 6], op 44 (.fa 1 (.t 43)) [0, 1, 2, 3, 4, 5, 6], op 45 (.ld (.t 44)) [0, 1, 2, 3, 4, 5, 6], op 46 (.ar .sub (.t 42) (.t 45)) [0, 1, 2, 3], op 47 (.fa 0 (.t 3)) [0, 1, 2, 3, 4, 5, 6, 7, 8, 9, 10], op 48 (.ld (.t 47)) [0, 1, 2, 3, 4, 5, 6, 7, 8, 9, 10], op 49 (.ar .add (.t 46) (.t 48)) [0, 1, 2, 3], op 50 (.ar .sub (.t 49) (ci 1)) [0, 1, 2, 3], op 51 (.fa 0 (.t 3)) [0, 1, 2, 3, 4, 5, 6, 7, 8, 9, 10, 11, 12, 13, 14], op 52 (.ld (.t 51)) [0, 1, 2, 3, 4, 5, 6, 7, 8, 9, 10, 11, 12, 13, 14], op 53 (.ar .quo (.t 50) (.t 52)) [0, 1, 2, 3], op 54 (.ar .add (.t 39) (.t 53)) [0, 1, 2], ⟨none, (.st 1 (.t 6) (.t 38)), none, [3, 4, 5, 6, 7, 8, 9, 10, 11, 12, 13, 14, 15, 16, 17, 18]⟩, ⟨none, (.st 1 (.t 7) (.t 54)), none, []⟩]) .skip)) (.drw [oo 55 (.ldn 2 (.t 13)), op 56 (.ld (.t 11)) [0], op 57 (.fa 2 (.t 12)) [0, 1], op 58 (.ld (.t 57)) [0, 1], op 59 (.ar .add (.t 56) (.t 58)) [0], ⟨none, (.st 2 (.t 10) (.t 55)), none, [1, 2, 3, 4]⟩, ⟨none, (.st 1 (.t 11) (.t 59)), none, []⟩])))))) (.seq (.drw [oo 60 (.ld (.t 6)), op 61 (.ld (.t 7)) [0], ⟨none, (.st 1 (.t 6) (.t 60)), none, [1]⟩, ⟨none, (.st 1 (.t 7) (.t 61)), none, []⟩, oo 8 (.mv (ci 0))]) .ret)))))), 62, [(.ld 6), (.ld 7), (.tmp 8)], false, fun _ => none, fun _ _ => none⟩
def c21 : CFn := ⟨(.seq (.reg [oo 4 (.box (.t 0)), oo 5 (.box (.t 1)), oo 6 (.box (.t 2)), oo 7 (.box (.t 3)), oo 8 (.mv (ci 0)), oo 9 (.mv (ci 0))]) (.seq (.block 0 (.seq (.reg [oo 12 (.ldn 2 (.t 4)), oo 13 (cl 41 [(.t 12)]), oo 14 (.un .not (.t 13)), om 11 14]) (.cond (.t 11) (.seq (.reg [oo 8 (.mv (ci 0)), oo 9 (.mv (ci 2))]) .ret) (.seq (.reg [oo 16 (.ldn 2 (.t 5)), oo 17 (.ldn 2 (.t 6)), oo 18 (.ldn 2 (.t 7)), oo 19 (.bsl 2 3 [(.int .i64 (0)), (.int .i64 (0))] [(0, (.t 16)), (1, (.t 17)), (2, (.t 18))]), oo 20 (cl 42 [(.t 19)]), oo 21 (.un .not (.t 20)), om 15 21]) (.cond (.t 15) (.seq (.reg [oo 8 (.mv (ci 0)), oo 9 (.mv (ci 3))]) .ret) (.seq (.reg [oo 23 (.ldn 2 (.t 5)), oo 24 (.bld [(.int .i64 (0)), (.int .i64 (0))] [(0, (2, (.t 23)))]), oo 25 (.ldn 2 (.t 7)), oo 26 (cl 43 [(.t 24), (.t 25)]), oo 27 (.un .not (.t 26)), om 22 27]) (.cond (.t 22) (.seq (.reg [oo 8 (.mv (ci 0)), oo 9 (.mv (ci 9))]) .ret) .skip))))))) (.seq (.reg [oo 10 (.mv (ci 0))]) (.seq (.block 1 (.loop 1264 (.seq (.seq (.drw [om 28 10, oo 29 (.ar .lss (.t 28) (ci 500)), om 30 29, og 31 (.ldn 2 (.t 5)) 30 true, og 32 (.bld [(.int .i64 (0)), (.int .i64 (0))] [(0, (2, (.t 31)))]) 30 true, ⟨(some 33), (.ldn 2 (.t 4)), (some (30, true)), [3, 4]⟩, ⟨(some 34), (.ldn 2 (.t 6)), (some (30, true)), [3, 4, 5]⟩, ⟨(some 35), (.mv (.t 10)), (some (30, true)), [3, 4, 5, 6]⟩, ⟨(some 36), (.ar .add (.t 35) (ci 1)), (some (30, true)), [3, 4, 5, 6]⟩, og 37 (cl 44 [(.t 32), (.t 33), (.t 34), (.t 36)]) 30 true, ⟨(some 38), (.ldn 2 (.t 7)), (some (30, true)), [3, 4, 5, 6, 7, 8, 9]⟩, og 39 (cl 43 [(.t 37), (.t 38)]) 30 true, oo 40 (.pick (.t 30) (.t 39) (.c (.bool false)))]) (.cond (.t 40) .skip (.exit 1))) (.block 2 (.reg [om 41 10, oo 42 (.ar .add (.t 41) (ci 1)), om 10 42]))))) (.seq (.reg [om 43 10, om 8 43, oo 9 (.mv (ci 0))]) .ret))))), 44, [(.tmp 8), (.tmp 9)], false, fun _ => none, fun _ _ => none⟩
def c22 : CFn := ⟨(.seq (.reg [oo 3 (.box (.t 1)), oo 4 (.new [(.int .i64 (0)), (.int .i64 (0))]), oo 5 (.mv (ci 0))]) (.seq (.seq (.reg [om 10 0, oo 11 (.len (.t 10)), oo 12 (.bsl 1 1 [(.int .i64 (0))] [(0, (.t 11))]), oo 13 (cl 45 [(ci 1), (ci 10), (.t 12)]), oo 14 (.un .not (.t 13)), om 15 14, og 16 (.mv (.t 0)) 15 false, og 17 (.ias 2 (.t 16) (ci 0)) 15 false, og 18 (.fa 0 (.t 17)) 15 false, og 19 (.ld (.t 18)) 15 false, og 20 (.ar .neq (.t 19) (ci 0)) 15 false, oo 21 (.pick (.t 15) (.c (.bool true)) (.t 20))]) (.cond (.t 21) (.seq (.reg [oo 22 (.ldn 2 (.t 4)), ⟨none, (.st 2 (.t 4) (.t 22)), none, []⟩, oo 5 (.mv (ci 4))]) .ret) .skip)) (.seq (.seq (.reg [om 23 0, oo 24 (.len (.t 23)), oo 25 (.mv (ci 0))]) (.block 0 (.loop 58720281 (.seq (.reg [oo 26 (.ar .lss (.t 25) (.t 24))]) (.seq (.cond (.t 26) .skip (.exit 0)) (.seq (.block 1 (.seq (.reg [om 27 25, oo 28 (.ias 2 (.t 23) (.t 25)), oo 29 (.ldn 2 (.t 28)), oo 7 (.new [(.int .i64 (0)), (.int .i64 (0))]), om 6 27, ⟨none, (.st 2 (.t 7) (.t 29)), none, []⟩]) (.seq (.drw [oo 30 (.fa 0 (.t 7)), oo 31 (.ld (.t 30)), oo 32 (.bsl 1 1 [(.int .i64 (0))] [(0, (.t 31))]), oo 33 (cl 45 [(ci 0), (ci 300), (.t 32)]), oo 34 (.un .not (.t 33)), om 35 34, og 36 (.fa 1 (.t 7)) 35 false, og 37 (.ld (.t 36)) 35 false, og 38 (.bsl 1 1 [(.int .i64 (0))] [(0, (.t 37))]) 35 false, og 39 (cl 45 [(ci 0), (ci 1000), (.t 38)]) 35 false, og 40 (.un .not (.t 39)) 35 false, oo 41 (.pick (.t 35) (.c (.bool true)) (.t 40)), om 42 41, og 43 (.mv (.t 6)) 42 false, og 44 (.ar .gtr (.t 43) (ci 0)) 42 false, og 45 (.mv (.t 44)) 42 false, og 46 (.fa 0 (.t 7)) 45 true, og 47 (.ld (.t 46)) 45 true, ⟨(some 48), (.mv (.t 0)), (some (45, true)), [16, 17]⟩, ⟨(some 49), (.mv (.t 6)), (some (45, true)), [16, 17, 18]⟩, ⟨(some 50), (.ar .sub (.t 49) (ci 1)), (some (45, true)), [16, 17, 18]⟩, ⟨(some 51), (.ias 2 (.t 48) (.t 50)), (some (45, true)), [16, 17]⟩, ⟨(some 52), (.fa 0 (.t 51)), (some (45, true)), [16, 17]⟩, ⟨(some 53), (.ld (.t 52)), (some (45, true)), [16, 17]⟩, og 54 (.ar .leq (.t 47) (.t 53)) 45 true, og 55 (.mv (.t 54)) 45 true, og 56 (.fa 1 (.t 7)) 55 false, og 57 (.ld (.t 56)) 55 false, ⟨(some 58), (.mv (.t 0)), (some (55, false)), [26, 27]⟩, ⟨(some 59), (.mv (.t 6)), (some (55, false)), [26, 27, 28]⟩, ⟨(some 60), (.ar .sub (.t 59) (ci 1)), (some (55, false)), [26, 27, 28]⟩, ⟨(some 61), (.ias 2 (.t 58) (.t 60)), (some (55, false)), [26, 27]⟩, ⟨(some 62), (.fa 1 (.t 61)), (some (55, false)), [26, 27]⟩, ⟨(some 63), (.ld (.t 62)), (some (55, false)), [26, 27]⟩, og 64 (.ar .gtr (.t 57) (.t 63)) 55 false, og 65 (.pick (.t 55) (.c (.bool true)) (.t 64)) 45 true, og 66 (.pick (.t 45) (.t 65) (.c (.bool false))) 42 false, oo 67 (.pick (.t 42) (.c (.bool true)) (.t 66))]) (.cond (.t 67) (.seq (.reg [oo 68 (.ldn 2 (.t 4)), ⟨none, (.st 2 (.t 4) (.t 68)), none, []⟩, oo 5 (.mv (ci 4))]) .ret) .skip)))) (.reg [oo 69 (.ar .add (.t 25) (ci 1)), om 25 69]))))))) (.seq (.seq (.reg [oo 70 (.ldn 2 (.t 3)), oo 71 (.bsl 2 1 [(.int .i64 (0)), (.int .i64 (0))] [(0, (.t 70))]), oo 72 (cl 42 [(.t 71)]), oo 73 (.un .not (.t 72))]) (.cond (.t 73) (.seq (.reg [oo 74 (.ldn 2 (.t 4)), ⟨none, (.st 2 (.t 4) (.t 74)), none, []⟩, oo 5 (.mv (ci 3))]) .ret) .skip)) (.seq (.seq (.reg [om 75 0, oo 76 (.len (.t 75)), oo 77 (.mv (ci 0))]) (.block 2 (.loop 264452523040700131967000 (.seq (.reg [oo 78 (.ar .lss (.t 77) (.t 76))]) (.seq (.cond (.t 78) .skip (.exit 2)) (.seq (.block 3 (.seq (.reg [oo 79 (.ias 2 (.t 75) (.t 77)), oo 80 (.ldn 2 (.t 79)), oo 9 (.new [(.int .i64 (0)), (.int .i64 (0))]), ⟨none, (.st 2 (.t 9) (.t 80)), none, []⟩]) (.seq (.seq (.reg [oo 81 (.fa 0 (.t 9)), oo 82 (.ld (.t 81)), oo 83 (.fa 0 (.t 3)), oo 84 (.ld (.t 83)), oo 85 (.ar .leq (.t 82) (.t 84))]) (.cond (.t 85) (.reg [oo 86 (.fa 1 (.t 9)), oo 87 (.ld (.t 86)), oo 88 (.fa 1 (.t 4)), ⟨none, (.st 1 (.t 88) (.t 87)), none, []⟩]) .skip)) (.seq (.reg [oo 89 (.fa 0 (.t 9)), oo 90 (.ld (.t 89)), oo 91 (.fa 1 (.t 3)), oo 92 (.ld (.t 91)), oo 93 (.ar .leq (.t 90) (.t 92))]) (.cond (.t 93) (.reg [oo 94 (.fa 1 (.t 9)), oo 95 (.ld (.t 94)), oo 96 (.fa 0 (.t 4)), ⟨none, (.st 1 (.t 96) (.t 95)), none, []⟩]) .skip))))) (.reg [oo 97 (.ar .add (.t 77) (ci 1)), om 77 97]))))))) (.seq (.reg [oo 98 (.ldn 2 (.t 4)), ⟨none, (.st 2 (.t 4) (.t 98)), none, []⟩, oo 5 (.mv (ci 0))]) .ret)))))), 99, [(.ldn 2 4), (.tmp 5)], false, fun _ => none, fun _ _ => none⟩
def c23 : CFn := ⟨(.seq (.reg [oo 2 (.new [(.int .i64 (0)), (.int .i64 (0)), (.int .i64 (0)), (.int .i64 (0)), (.int .i64 (0))])]) (.seq (.reg [oo 3 (cl 17 [(ci 60), (ci 70)]), oo 4 (cl 17 [(ci 50), (ci 85)]), om 5 0, oo 6 (.bld [(.int .i64 (0)), (.int .i64 (0)), (.int .i64 (0)), (.int .i64 (0)), (.int .i64 (0))] [(0, (2, (.t 3))), (2, (2, (.t 4))), (4, (1, (.t 5)))]), ⟨none, (.st 5 (.t 2) (.t 6)), none, []⟩]) .ret)), 7, [(.ldn 5 2)], false, fun _ => none, fun _ _ => none⟩
def c24 : CFn := ⟨(.seq (.reg [oo 6 (.mv (.c .nils)), oo 7 (.mv (ci 0))]) (.seq (.reg [om 13 0, om 14 1, om 15 2, oo 16 (cl 46 [(.t 13), (.t 14), (.t 15)]), om 12 16, oo 17 (.ext 0 (.t 12)), oo 18 (.ext 1 (.t 12)), oo 19 (.ext 2 (.t 12)), oo 8 (.new [(.int .u64 (0)), (.int .u64 (0)), .nils]), ⟨none, (.st 3 (.t 8) (.t 17)), none, []⟩, om 9 18, om 7 19]) (.seq (.seq (.reg [om 20 7, oo 21 (.ar .neq (.t 20) (ci 0))]) (.cond (.t 21) (.seq (.reg [om 22 7, oo 6 (.mv (.c .nils)), om 7 22]) .ret) .skip)) (.seq (.seq (.reg [om 23 9, oo 24 (.len (.t 23)), oo 25 (.mv (ci 0))]) (.block 0 (.loop 58720320 (.seq (.reg [oo 26 (.ar .lss (.t 25) (.t 24))]) (.seq (.cond (.t 26) .skip (.exit 0)) (.seq (.block 1 (.seq (.reg [oo 27 (.ias 1 (.t 23) (.t 25)), oo 28 (.ld (.t 27)), om 11 28]) (.reg [om 29 6, om 30 11, oo 31 (.mkf 31 [(.t 30)] []), oo 32 (cl 36 [(.t 31)]), oo 33 (.bsl 1 1 [.nils] [(0, (.t 32))]), oo 34 (.app 1 (.t 29) (.t 33)), om 6 34]))) (.reg [oo 35 (.ar .add (.t 25) (ci 1)), om 25 35]))))))) (.seq (.reg [om 36 6, om 6 36, oo 7 (.mv (ci 0))]) .ret))))), 37, [(.tmp 6), (.tmp 7)], false, fun _ => none, fun _ _ => none⟩
def c25 : CFn := ⟨(.seq (.reg [oo 6 (.mv (.c .nils)), oo 7 (.mv (ci 0))]) (.seq (.reg [om 15 0, om 16 1, om 17 2, oo 18 (cl 46 [(.t 15), (.t 16), (.t 17)]), om 14 18, oo 19 (.ext 0 (.t 14)), oo 20 (.ext 1 (.t 14)), oo 21 (.ext 2 (.t 14)), oo 8 (.new [(.int .u64 (0)), (.int .u64 (0)), .nils]), ⟨none, (.st 3 (.t 8) (.t 19)), none, []⟩, om 9 20, om 10 21]) (.seq (.seq (.reg [om 22 10, oo 23 (.ar .neq (.t 22) (ci 0))]) (.cond (.t 23) (.seq (.reg [om 24 10, oo 6 (.mv (.c .nils)), om 7 24]) .ret) .skip)) (.seq (.reg [om 25 9, oo 26 (.ias 1 (.t 25) (ci 0)), oo 27 (.ld (.t 26)), om 11 27]) (.seq (.seq (.reg [om 28 9, oo 29 (.len (.t 28)), oo 30 (.mv (ci 0))]) (.block 0 (.loop 1879050240 (.seq (.reg [oo 31 (.ar .lss (.t 30) (.t 29))]) (.seq (.cond (.t 31) .skip (.exit 0)) (.seq (.block 1 (.seq (.reg [oo 32 (.ias 1 (.t 28) (.t 30)), oo 33 (.ld (.t 32)), om 13 33]) (.reg [om 34 11, om 35 13, oo 36 (.ar .and (.t 34) (.t 35)), om 11 36]))) (.reg [oo 37 (.ar .add (.t 30) (ci 1)), om 30 37]))))))) (.seq (.reg [om 38 11, oo 39 (.mkf 31 [(.t 38)] []), oo 40 (cl 36 [(.t 39)]), om 6 40, oo 7 (.mv (ci 0))]) .ret)))))), 41, [(.tmp 6), (.tmp 7)], false, fun _ => none, fun _ _ => none⟩
def c26 : CFn := ⟨(.seq (.reg [oo 6 (.mv (ci 0)), oo 7 (.mv (ci 0)), oo 8 (.mv (ci 0))]) (.seq (.reg [om 15 0, om 16 1, om 17 2, oo 18 (cl 46 [(.t 15), (.t 16), (.t 17)]), om 14 18, oo 19 (.ext 0 (.t 14)), oo 20 (.ext 1 (.t 14)), oo 21 (.ext 2 (.t 14)), oo 9 (.new [(.int .u64 (0)), (.int .u64 (0)), .nils]), ⟨none, (.st 3 (.t 9) (.t 19)), none, []⟩, om 10 20, om 8 21]) (.seq (.seq (.reg [om 22 8, oo 23 (.ar .neq (.t 22) (ci 0))]) (.cond (.t 23) (.seq (.reg [om 24 8, oo 6 (.mv (ci 0)), oo 7 (.mv (ci 0)), om 8 24]) .ret) .skip)) (.seq (.reg [om 25 10, oo 26 (.len (.t 25)), om 7 26]) (.seq (.seq (.reg [oo 27 (.mv (ci 0))]) (.block 0 (.loop 134219456 (.seq (.reg [oo 28 (.ar .lss (.t 27) (ci 12))]) (.seq (.cond (.t 28) .skip (.exit 0)) (.seq (.block 1 (.seq (.reg [om 29 27, om 11 29]) (.seq (.reg [om 30 11, oo 31 (.sh .shl (.c (.int .u64 (1))) (.t 30)), om 12 31]) (.seq (.seq (.reg [oo 32 (.fa 0 (.t 9)), oo 33 (.fa 0 (.t 32)), oo 34 (.ld (.t 33)), oo 35 (.fa 0 (.t 9)), oo 36 (.fa 1 (.t 35)), oo 37 (.ld (.t 36)), oo 38 (.ar .or (.t 34) (.t 37)), om 39 12, oo 40 (.ar .and (.t 38) (.t 39)), oo 41 (.ar .neq (.t 40) (.c (.int .u64 (0))))]) (.cond (.t 41) (.exit 1) .skip)) (.seq (.drw [oo 42 (.ldn 3 (.t 9)), op 43 (.mv (.t 10)) [0], op 44 (.fa 0 (.t 9)) [0, 1], op 45 (.fa 0 (.t 44)) [0, 1], op 46 (.ld (.t 45)) [0, 1], op 47 (.mv (.t 12)) [0, 1, 2, 3, 4], op 48 (.ar .or (.t 46) (.t 47)) [0, 1], op 49 (.fa 0 (.t 9)) [0, 1, 2, 3, 4, 5, 6], op 50 (.fa 1 (.t 49)) [0, 1, 2, 3, 4, 5, 6], op 51 (.ld (.t 50)) [0, 1, 2, 3, 4, 5, 6], op 52 (.bld [(.int .u64 (0)), (.int .u64 (0))] [(0, (1, (.t 48))), (1, (1, (.t 51)))]) [0, 1], oo 53 (cl 47 [(.t 42), (.t 43), (.t 52)]), op 54 (.ldn 3 (.t 9)) [0, 1, 2, 3, 4, 5, 6, 7, 8, 9, 10, 11], op 55 (.mv (.t 10)) [0, 1, 2, 3, 4, 5, 6, 7, 8, 9, 10, 11, 12], op 56 (.fa 0 (.t 9)) [0, 1, 2, 3, 4, 5, 6, 7, 8, 9, 10, 11, 12, 13], op 57 (.fa 0 (.t 56)) [0, 1, 2, 3, 4, 5, 6, 7, 8, 9, 10, 11, 12, 13], op 58 (.ld (.t 57)) [0, 1, 2, 3, 4, 5, 6, 7, 8, 9, 10, 11, 12, 13], op 59 (.fa 0 (.t 9)) [0, 1, 2, 3, 4, 5, 6, 7, 8, 9, 10, 11, 12, 13, 14, 15, 16], op 60 (.fa 1 (.t 59)) [0, 1, 2, 3, 4, 5, 6, 7, 8, 9, 10, 11, 12, 13, 14, 15, 16], op 61 (.ld (.t 60)) [0, 1, 2, 3, 4, 5, 6, 7, 8, 9, 10, 11, 12, 13, 14, 15, 16], op 62 (.mv (.t 12)) [0, 1, 2, 3, 4, 5, 6, 7, 8, 9, 10, 11, 12, 13, 14, 15, 16, 17, 18, 19], op 63 (.ar .or (.t 61) (.t 62)) [0, 1, 2, 3, 4, 5, 6, 7, 8, 9, 10, 11, 12, 13, 14, 15, 16], op 64 (.bld [(.int .u64 (0)), (.int .u64 (0))] [(0, (1, (.t 58))), (1, (1, (.t 63)))]) [0, 1, 2, 3, 4, 5, 6, 7, 8, 9, 10, 11, 12, 13], oo 65 (cl 47 [(.t 54), (.t 55), (.t 64)]), oo 66 (.mx [(.t 53), (.t 65)]), om 13 66]) (.seq (.reg [om 67 13, om 68 7, oo 69 (.ar .lss (.t 67) (.t 68))]) (.cond (.t 69) (.reg [om 70 11, om 71 13, om 6 70, om 7 71]) .skip))))))) (.reg [oo 72 (.ar .add (.t 27) (ci 1)), om 27 72]))))))) (.seq (.seq (.reg [om 73 7, om 74 10, oo 75 (.len (.t 74)), oo 76 (.ar .eql (.t 73) (.t 75))]) (.cond (.t 76) (.seq (.reg [oo 6 (.mv (ci 0)), oo 7 (.mv (ci 0)), oo 8 (.mv (ci 7))]) .ret) .skip)) (.seq (.reg [om 77 6, om 78 7, om 6 77, om 7 78, oo 8 (.mv (ci 0))]) .ret))))))), 79, [(.tmp 6), (.tmp 7), (.tmp 8)], false, fun _ => none, fun _ _ => none⟩
def c27 : CFn := ⟨(.seq (.reg [oo 4 (.mv (.c (.bool false)))]) (.seq (.seq (.reg [om 6 0, oo 7 (.len (.t 6)), om 8 1, oo 9 (.len (.t 8)), oo 10 (.ar .neq (.t 7) (.t 9))]) (.cond (.t 10) (.seq (.reg [oo 4 (.mv (.c (.bool false)))]) .ret) .skip)) (.seq (.seq (.reg [oo 5 (.mv (ci 0))]) (.block 0 (.loop 35 (.seq (.seq (.reg [om 11 5, om 12 0, oo 13 (.len (.t 12)), oo 14 (.ar .lss (.t 11) (.t 13))]) (.cond (.t 14) .skip (.exit 0))) (.seq (.block 1 (.seq (.drw [om 17 0, op 18 (.mv (.t 5)) [0], oo 19 (.ias 2 (.t 17) (.t 18)), oo 20 (.ldn 2 (.t 19)), op 21 (.mv (.t 1)) [0, 1, 2, 3], op 22 (.mv (.t 5)) [0, 1, 2, 3, 4], op 23 (.ias 2 (.t 21) (.t 22)) [0, 1, 2, 3], op 24 (.ldn 2 (.t 23)) [0, 1, 2, 3], oo 25 (.eqv true 45 (.tmp 20) (.tmp 24) (.t 20) (.t 24))]) (.cond (.t 25) (.seq (.reg [oo 4 (.mv (.c (.bool false)))]) .ret) .skip))) (.reg [om 15 5, oo 16 (.ar .add (.t 15) (ci 1)), om 5 16])))))) (.seq (.reg [oo 4 (.mv (.c (.bool true)))]) .ret)))), 26, [(.tmp 4)], false, fun _ => none, fun _ _ => none⟩
def c28 : CFn := ⟨(.seq (.reg [oo 3 (.box (.t 0)), oo 6 (.mv (.c .nilp)), oo 7 (.mv (ci 0))]) (.seq (.reg [oo 8 (.new [.nilf]), ⟨none, (.st 1 (.t 8) (.c (.fn 48 [] []))), none, []⟩]) (.seq (.reg [oo 9 (.new [.nilf]), ⟨none, (.st 1 (.t 9) (.c (.fn 49 [] []))), none, []⟩]) (.seq (.block 0 (.seq (.reg [oo 21 (.ldn 2 (.t 3)), oo 22 (cl 41 [(.t 21)]), oo 23 (.un .not (.t 22)), om 20 23]) (.cond (.t 20) (.seq (.reg [oo 6 (.mv (.c .nilp)), oo 7 (.mv (ci 2))]) .ret) (.seq (.seq (.reg [om 25 1, oo 26 (.len (.t 25)), oo 27 (.ar .gtr (.t 26) (ci 7)), om 24 27]) (.cond (.t 24) .skip (.reg [om 28 2, oo 29 (.len (.t 28)), oo 30 (.ar .gtr (.t 29) (ci 4)), om 24 30]))) (.cond (.t 24) (.seq (.reg [oo 6 (.mv (.c .nilp)), oo 7 (.mv (ci 5))]) .ret) (.seq (.seq (.reg [om 32 1, oo 33 (.mkf 51 [] [(.t 8)]), oo 34 (cl 50 [(.t 32), (.t 33)]), om 31 34]) (.cond (.t 31) .skip (.reg [om 35 2, oo 36 (.mkf 53 [] [(.t 9)]), oo 37 (cl 52 [(.t 35), (.t 36)]), om 31 37]))) (.cond (.t 31) (.seq (.reg [oo 6 (.mv (.c .nilp)), oo 7 (.mv (ci 4))]) .ret) .skip))))))) (.seq (.reg [oo 38 (.bld [.nils, .nils] []), oo 39 (.box (.t 38)), om 10 39]) (.seq (.seq (.reg [om 40 1, oo 41 (.len (.t 40)), oo 42 (.mv (ci 0))]) (.block 1 (.loop 7696581395468 (.seq (.reg [oo 43 (.ar .lss (.t 42) (.t 41))]) (.seq (.cond (.t 43) .skip (.exit 1)) (.seq (.block 2 (.seq (.reg [oo 44 (.ias 5 (.t 40) (.t 42)), oo 45 (.ldn 5 (.t 44)), oo 12 (.new [(.int .i64 (0)), (.int .i64 (0)), (.int .i64 (0)), (.int .i64 (0)), (.int .i64 (0))]), ⟨none, (.st 5 (.t 12) (.t 45)), none, []⟩]) (.seq (.reg [oo 13 (.mv (.c (.int .u64 (0))))]) (.seq (.seq (.reg [om 46 2, oo 47 (.len (.t 46)), oo 48 (.mv (ci 0))]) (.block 3 (.loop 500277790651404 (.seq (.reg [oo 49 (.ar .lss (.t 48) (.t 47))]) (.seq (.cond (.t 49) .skip (.exit 3)) (.seq (.block 4 (.seq (.reg [om 50 48, oo 51 (.ias 3 (.t 46) (.t 48)), oo 52 (.ldn 3 (.t 51)), oo 15 (.new [(.int .i64 (0)), (.int .i64 (0)), (.int .i64 (0))]), om 14 50, ⟨none, (.st 3 (.t 15) (.t 52)), none, []⟩]) (.seq (.reg [oo 54 (.ldn 2 (.t 3)), oo 55 (.fa 0 (.t 12)), oo 56 (.ldn 2 (.t 55)), oo 57 (.fa 0 (.t 15)), oo 58 (.ldn 2 (.t 57)), oo 59 (.fa 2 (.t 12)), oo 60 (.ldn 2 (.t 59)), oo 61 (cl 21 [(.t 54), (.t 56), (.t 58), (.t 60)]), om 53 61, oo 62 (.ext 0 (.t 53)), oo 63 (.ext 1 (.t 53)), om 16 62, om 17 63]) (.seq (.reg [om 64 17, oo 65 (.ar .eql (.t 64) (ci 0)), om 66 65, og 67 (.mv (.t 16)) 66 true, og 68 (.fa 4 (.t 12)) 66 true, og 69 (.ld (.t 68)) 66 true, og 70 (.ar .geq (.t 67) (.t 69)) 66 true, oo 71 (.pick (.t 66) (.t 70) (.c (.bool false)))]) (.cond (.t 71) (.reg [om 72 13, om 73 14, oo 74 (.sh .shl (.c (.int .u64 (1))) (.t 73)), oo 75 (.ar .or (.t 72) (.t 74)), om 13 75]) .skip))))) (.reg [oo 76 (.ar .add (.t 48) (ci 1)), om 48 76]))))))) (.reg [om 77 10, om 78 10, oo 79 (.chk (.t 78)), oo 80 (.fa 0 (.t 79)), oo 81 (.ld (.t 80)), om 82 13, oo 83 (.bsl 1 1 [(.int .u64 (0))] [(0, (.t 82))]), oo 84 (.app 1 (.t 81) (.t 83)), oo 85 (.chk (.t 77)), oo 86 (.fa 0 (.t 85)), ⟨none, (.st 1 (.t 86) (.t 84)), none, []⟩]))))) (.reg [oo 87 (.ar .add (.t 42) (ci 1)), om 42 87]))))))) (.seq (.seq (.reg [om 88 2, oo 89 (.len (.t 88)), oo 90 (.mv (ci 0))]) (.block 5 (.loop 2166395068749415481073468416 (.seq (.reg [oo 91 (.ar .lss (.t 90) (.t 89))]) (.seq (.cond (.t 91) .skip (.exit 5)) (.seq (.block 6 (.seq (.reg [oo 92 (.ias 3 (.t 88) (.t 90)), oo 93 (.ldn 3 (.t 92)), oo 19 (.new [(.int .i64 (0)), (.int .i64 (0)), (.int .i64 (0))]), ⟨none, (.st 3 (.t 19) (.t 93)), none, []⟩]) (.drw [om 94 10, op 95 (.mv (.t 10)) [0], op 96 (.chk (.t 95)) [0], op 97 (.fa 1 (.t 96)) [0], op 98 (.ld (.t 97)) [0], op 99 (.fa 2 (.t 19)) [0, 1, 2, 3, 4], op 100 (.ld (.t 99)) [0, 1, 2, 3, 4], op 101 (.bsl 1 1 [(.int .i64 (0))] [(0, (.t 100))]) [0, 1, 2, 3, 4], op 102 (.app 1 (.t 98) (.t 101)) [0], oo 103 (.chk (.t 94)), oo 104 (.fa 1 (.t 103)), ⟨none, (.st 1 (.t 104) (.t 102)), none, []⟩]))) (.reg [oo 105 (.ar .add (.t 90) (ci 1)), om 90 105]))))))) (.seq (.reg [om 106 10, om 6 106, oo 7 (.mv (ci 0))]) .ret)))))))), 107, [(.tmp 6), (.tmp 7)], false, fun _ => none, fun _ _ => none⟩
def c29 : CFn := ⟨(.seq (.reg [oo 2 (.mv (.c .nils))]) (.seq (.seq (.reg [om 3 0, oo 4 (.snil false (.t 3) (.c .nils))]) (.cond (.t 4) (.seq (.reg [oo 2 (.mv (.c .nils))]) .ret) .skip)) (.seq (.reg [oo 5 (.bsl 1 0 [(.int .i64 (0))] []), om 6 0, oo 7 (.app 1 (.t 5) (.t 6)), om 2 7]) .ret))), 8, [(.tmp 2)], false, fun _ => none, fun _ _ => none⟩
def c30 : CFn := ⟨(.seq (.reg [oo 3 (.box (.t 0)), oo 5 (.box (.t 2)), oo 6 (.mv (.c (.bool false)))]) (.seq (.seq (.reg [oo 12 (.ld (.t 5)), oo 13 (.len (.t 12)), oo 14 (.sh .shl (.c (.int .u64 (1))) (.t 13)), oo 15 (.mv (.c (.int .u64 (0))))]) (.block 0 (.loop 34360836202 (.seq (.reg [oo 16 (.ar .lss (.t 15) (.t 14))]) (.seq (.cond (.t 16) .skip (.exit 0)) (.seq (.block 1 (.seq (.reg [om 17 15, oo 7 (.new [(.int .u64 (0))]), ⟨none, (.st 1 (.t 7) (.t 17)), none, []⟩]) (.seq (.reg [oo 8 (.new [(.int .i64 (0))]), oo 9 (.new [(.int .i64 (0))]), ⟨none, (.st 1 (.t 8) (ci 0)), none, []⟩, ⟨none, (.st 1 (.t 9) (ci 0)), none, []⟩]) (.seq (.seq (.reg [om 18 1, oo 19 (.mkf 31 [(.t 18)] [])]) (.block 2 (.rf (.t 19) [20] (.reg [om 10 20]) (.block 3 (.seq (.drw [oo 21 (.ld (.t 3)), oo 22 (.chk (.t 21)), oo 23 (.fa 0 (.t 22)), oo 24 (.ld (.t 23)), op 25 (.mv (.t 10)) [0, 1, 2, 3], oo 26 (.ias 1 (.t 24) (.t 25)), oo 27 (.ld (.t 26)), op 28 (.ld (.t 7)) [0, 1, 2, 3, 4, 5, 6], oo 29 (.ar .andNot (.t 27) (.t 28)), oo 30 (.ar .eql (.t 29) (.c (.int .u64 (0))))]) (.cond (.t 30) (.reg [oo 31 (.ld (.t 8)), oo 32 (.ar .add (.t 31) (ci 1)), ⟨none, (.st 1 (.t 8) (.t 32)), none, []⟩]) .skip)))))) (.seq (.seq (.reg [oo 33 (.ld (.t 7)), oo 34 (.mkf 31 [(.t 33)] [])]) (.block 4 (.rf (.t 34) [35] (.reg [om 11 35]) (.block 5 (.drw [oo 36 (.ld (.t 9)), op 37 (.ld (.t 5)) [0], op 38 (.mv (.t 11)) [0, 1], op 39 (.ias 1 (.t 37) (.t 38)) [0], op 40 (.ld (.t 39)) [0], oo 41 (.ar .add (.t 36) (.t 40)), ⟨none, (.st 1 (.t 9) (.t 41)), none, []⟩]))))) (.seq (.reg [oo 42 (.ld (.t 8)), oo 43 (.ld (.t 9)), oo 44 (.ar .gtr (.t 42) (.t 43))]) (.cond (.t 44) (.seq (.reg [oo 6 (.mv (.c (.bool false)))]) .ret) .skip))))))) (.reg [oo 45 (.ar .add (.t 15) (.c (.int .u64 (1)))), om 15 45]))))))) (.seq (.reg [oo 6 (.mv (.c (.bool true)))]) .ret))), 46, [(.tmp 6)], false, fun _ => none, fun _ _ => none⟩
def c31 : CFn := ⟨(.block 0 (.loop 3 (.seq (.seq (.reg [om 4 0, oo 5 (.ar .neq (.t 4) (.c (.int .u64 (0))))]) (.cond (.t 5) .skip (.exit 0))) (.seq (.block 1 (.seq (.reg [om 10 1, om 11 0, oo 12 (cl 54 [(.t 11)]), oo 13 (.call (.t 10) [(.t 12)]), oo 14 (.un .not (.t 13))]) (.cond (.t 14) .ret .skip))) (.reg [om 6 0, om 7 0, oo 8 (.ar .sub (.t 7) (.c (.int .u64 (1)))), oo 9 (.ar .and (.t 6) (.t 8)), om 0 9]))))), 15, [], false, fun _ => none, fun _ _ => none⟩
def c32 : CFn := ⟨(.seq (.reg [oo 1 (.box (.t 0)), oo 2 (.mv (.c (.bool false)))]) (.seq (.reg [oo 3 (.fa 0 (.t 1)), oo 4 (.ld (.t 3)), oo 5 (cl 34 [(.t 4), (ci 0), (ci 50)]), om 6 5, og 7 (.fa 1 (.t 1)) 6 true, og 8 (.ld (.t 7)) 6 true, og 9 (cl 34 [(.t 8), (ci 0), (ci 50)]) 6 true, oo 10 (.pick (.t 6) (.t 9) (.c (.bool false))), om 2 10]) .ret)), 11, [(.tmp 2)], false, fun _ => none, fun _ _ => none⟩
def c33 : CFn := ⟨(.seq (.reg [oo 1 (.box (.t 0)), oo 2 (.mv (.c (.bool false)))]) (.seq (.reg [oo 3 (.ldn 2 (.t 1)), oo 4 (cl 55 [(.t 3), (ci 0), (ci 300)]), om 2 4]) .ret)), 5, [(.tmp 2)], false, fun _ => none, fun _ _ => none⟩
def c34 : CFn := ⟨(.seq (.reg [oo 6 (.mv (.c (.bool false)))]) (.seq (.reg [om 7 0, om 8 1, oo 9 (.ar .geq (.t 7) (.t 8)), om 10 9, og 11 (.mv (.t 0)) 10 true, og 12 (.mv (.t 2)) 10 true, og 13 (.ar .leq (.t 11) (.t 12)) 10 true, oo 14 (.pick (.t 10) (.t 13) (.c (.bool false))), om 6 14]) .ret)), 15, [(.tmp 6)], false, fun _ => none, fun _ _ => none⟩
def c35 : CFn := ⟨(.seq (.reg [oo 3 (.box (.t 0)), oo 4 (.box (.t 1)), oo 5 (.box (.t 2)), oo 6 (.mv (.c (.bool false)))]) (.seq (.drw [oo 7 (.ldn 2 (.t 3)), op 8 (.fa 0 (.t 4)) [0], op 9 (.ldn 2 (.t 8)) [0], op 10 (.fa 0 (.t 5)) [0, 1, 2], op 11 (.ldn 2 (.t 10)) [0, 1, 2], op 12 (.fa 2 (.t 4)) [0, 1, 2, 3, 4], op 13 (.ldn 2 (.t 12)) [0, 1, 2, 3, 4], op 14 (.fa 4 (.t 4)) [0, 1, 2, 3, 4, 5, 6], op 15 (.ld (.t 14)) [0, 1, 2, 3, 4, 5, 6], oo 16 (cl 56 [(.t 7), (.t 9), (.t 11), (.t 13), (.t 15)]), op 17 (.fa 4 (.t 4)) [0, 1, 2, 3, 4, 5, 6, 7, 8, 9], op 18 (.ld (.t 17)) [0, 1, 2, 3, 4, 5, 6, 7, 8, 9], oo 19 (.ar .eql (.t 16) (.t 18)), om 6 19]) .ret)), 20, [(.tmp 6)], false, fun _ => none, fun _ _ => none⟩
def c36 : CFn := ⟨(.seq (.reg [oo 2 (.mv (.c .nils))]) (.seq (.reg [om 3 0, oo 4 (cl 57 [(.c .nils), (.t 3)]), om 2 4]) .ret)), 5, [(.tmp 2)], false, fun _ => none, fun _ _ => none⟩
def c37 : CFn := ⟨(.seq (.reg [oo 4 (.mv (ci 0))]) (.seq (.seq (.reg [om 9 0, oo 10 (.len (.t 9)), oo 11 (.mv (ci 0))]) (.block 0 (.loop 3587 (.seq (.reg [oo 12 (.ar .lss (.t 11) (.t 10))]) (.seq (.cond (.t 12) .skip (.exit 0)) (.seq (.block 1 (.seq (.reg [om 13 11, oo 14 (.ias 1 (.t 9) (.t 11)), oo 15 (.ld (.t 14)), om 5 13, om 6 15]) (.seq (.seq (.reg [om 16 5, om 17 1, oo 18 (.len (.t 17)), oo 19 (.ar .geq (.t 16) (.t 18))]) (.cond (.t 19) (.seq (.reg [oo 4 (.mv (ci 1))]) .ret) .skip)) (.seq (.reg [om 20 1, om 21 5, oo 22 (.ias 1 (.t 20) (.t 21)), oo 23 (.ld (.t 22)), om 7 23]) (.seq (.reg [om 24 6, om 25 7, oo 26 (cl 58 [(.t 24), (.t 25)]), om 8 26]) (.seq (.reg [om 27 8, oo 28 (.ar .neq (.t 27) (ci 0))]) (.cond (.t 28) (.seq (.reg [om 29 8, om 4 29]) .ret) .skip))))))) (.reg [oo 30 (.ar .add (.t 11) (ci 1)), om 11 30]))))))) (.seq (.seq (.reg [om 31 0, oo 32 (.len (.t 31)), om 33 1, oo 34 (.len (.t 33)), oo 35 (.ar .lss (.t 32) (.t 34))]) (.cond (.t 35) (.seq (.reg [oo 4 (.mv (ci (-1)))]) .ret) .skip)) (.seq (.reg [oo 4 (.mv (ci 0))]) .ret)))), 36, [(.tmp 4)], false, fun _ => none, fun _ _ => none⟩
def c38 : CFn := ⟨(.seq (.reg [oo 4 (.mv (.c (.bool false)))]) (.seq (.seq (.reg [om 6 0, oo 7 (.len (.t 6)), om 8 1, oo 9 (.len (.t 8)), oo 10 (.ar .neq (.t 7) (.t 9))]) (.cond (.t 10) (.seq (.reg [om 11 0, oo 12 (.len (.t 11)), om 13 1, oo 14 (.len (.t 13)), oo 15 (.ar .lss (.t 12) (.t 14)), om 4 15]) .ret) .skip)) (.seq (.seq (.reg [oo 5 (.mv (ci 0))]) (.block 0 (.loop 35 (.seq (.seq (.reg [om 16 5, om 17 0, oo 18 (.len (.t 17)), oo 19 (.ar .lss (.t 16) (.t 18))]) (.cond (.t 19) .skip (.exit 0))) (.seq (.block 1 (.seq (.drw [om 22 0, op 23 (.mv (.t 5)) [0], oo 24 (.ias 1 (.t 22) (.t 23)), oo 25 (.ld (.t 24)), op 26 (.mv (.t 1)) [0, 1, 2, 3], op 27 (.mv (.t 5)) [0, 1, 2, 3, 4], op 28 (.ias 1 (.t 26) (.t 27)) [0, 1, 2, 3], op 29 (.ld (.t 28)) [0, 1, 2, 3], oo 30 (.ar .neq (.t 25) (.t 29))]) (.cond (.t 30) (.seq (.drw [om 31 0, op 32 (.mv (.t 5)) [0], oo 33 (.ias 1 (.t 31) (.t 32)), oo 34 (.ld (.t 33)), op 35 (.mv (.t 1)) [0, 1, 2, 3], op 36 (.mv (.t 5)) [0, 1, 2, 3, 4], op 37 (.ias 1 (.t 35) (.t 36)) [0, 1, 2, 3], op 38 (.ld (.t 37)) [0, 1, 2, 3], oo 39 (.ar .lss (.t 34) (.t 38)), om 4 39]) .ret) .skip))) (.reg [om 20 5, oo 21 (.ar .add (.t 20) (ci 1)), om 5 21])))))) (.seq (.reg [oo 4 (.mv (.c (.bool false)))]) .ret)))), 40, [(.tmp 4)], false, fun _ => none, fun _ _ => none⟩
def c39 : CFn := ⟨(.seq (.reg [oo 3 (.box (.t 0)), oo 4 (.box (.t 1)), oo 6 (.mv (ci 0))]) (.seq (.reg [oo 7 (.mv (.c (.fn 59 [] [])))]) (.seq (.block 0 (.seq (.reg [oo 9 (.ldn 2 (.t 3)), oo 10 (cl 41 [(.t 9)]), oo 11 (.un .not (.t 10)), om 8 11]) (.cond (.t 8) (.seq (.reg [oo 6 (.mv (ci 2))]) .ret) (.seq (.reg [oo 13 (.ldn 2 (.t 4)), oo 14 (.bsl 2 1 [(.int .i64 (0)), (.int .i64 (0))] [(0, (.t 13))]), oo 15 (cl 42 [(.t 14)]), oo 16 (.un .not (.t 15)), om 12 16]) (.cond (.t 12) (.seq (.reg [oo 6 (.mv (ci 3))]) .ret) (.seq (.reg [om 18 2, oo 19 (.len (.t 18)), oo 20 (.ar .gtr (.t 19) (ci 10)), om 17 20]) (.cond (.t 17) (.seq (.reg [oo 6 (.mv (ci 5))]) .ret) (.seq (.reg [om 22 2, om 23 7, oo 24 (cl 60 [(.t 22), (.t 23)]), om 21 24]) (.cond (.t 21) (.seq (.reg [oo 6 (.mv (ci 4))]) .ret) .skip))))))))) (.seq (.reg [oo 6 (.mv (ci 0))]) .ret)))), 25, [(.tmp 6)], false, fun _ => none, fun _ _ => none⟩
def c40 : CFn := ⟨(.seq (.reg [oo 3 (.box (.t 0)), oo 4 (.box (.t 1)), oo 5 (.box (.t 2)), oo 6 (.mv (.c .nilf))]) (.seq (.reg [oo 7 (.mkf 61 [] [(.t 5), (.t 3), (.t 4)]), om 6 7]) .ret)), 8, [(.tmp 6)], false, fun _ => none, fun _ _ => none⟩
def c41 : CFn := ⟨(.seq (.reg [oo 1 (.box (.t 0)), oo 2 (.mv (.c (.bool false)))]) (.seq (.reg [oo 3 (.fa 0 (.t 1)), oo 4 (.ld (.t 3)), oo 5 (.fa 1 (.t 1)), oo 6 (.ld (.t 5)), oo 7 (.bsl 1 2 [(.int .i64 (0))] [(0, (.t 4)), (1, (.t 6))]), oo 8 (cl 45 [(ci 0), (ci 50), (.t 7)]), om 2 8]) .ret)), 9, [(.tmp 2)], false, fun _ => none, fun _ _ => none⟩
def c42 : CFn := ⟨(.seq (.reg [oo 2 (.mv (.c (.bool false)))]) (.seq (.reg [om 3 0, oo 4 (cl 62 [(.t 3), (.c (.fn 63 [] []))]), oo 5 (.un .not (.t 4)), om 2 5]) .ret)), 6, [(.tmp 2)], false, fun _ => none, fun _ _ => none⟩
def c43 : CFn := ⟨(.seq (.reg [oo 2 (.box (.t 0)), oo 3 (.box (.t 1)), oo 4 (.mv (.c (.bool false)))]) (.seq (.reg [oo 5 (.fa 0 (.t 2)), oo 6 (.fa 0 (.t 5)), oo 7 (.ld (.t 6)), oo 8 (.fa 0 (.t 3)), oo 9 (.ld (.t 8)), oo 10 (.ar .geq (.t 7) (.t 9)), om 11 10, og 12 (.fa 0 (.t 2)) 11 true, og 13 (.fa 1 (.t 12)) 11 true, og 14 (.ld (.t 13)) 11 true, og 15 (.fa 1 (.t 3)) 11 true, og 16 (.ld (.t 15)) 11 true, og 17 (.ar .leq (.t 14) (.t 16)) 11 true, oo 18 (.pick (.t 11) (.t 17) (.c (.bool false))), om 4 18]) .ret)), 19, [(.tmp 4)], false, fun _ => none, fun _ _ => none⟩
def c44 : CFn := ⟨(.seq (.reg [oo 4 (.box (.t 0)), oo 5 (.box (.t 1)), oo 6 (.box (.t 2)), oo 8 (.new [(.int .i64 (0)), (.int .i64 (0))])]) (.seq (.drw [oo 9 (.ldn 2 (.t 5)), op 10 (.fa 0 (.t 4)) [0], op 11 (.fa 0 (.t 10)) [0], op 12 (.ld (.t 11)) [0], op 13 (.fa 0 (.t 6)) [0, 1, 2, 3], op 14 (.ld (.t 13)) [0, 1, 2, 3], op 15 (.mv (.t 3)) [0, 1, 2, 3, 4, 5], oo 16 (cl 65 [(.t 9), (.t 12), (.t 14), (.t 15)]), op 17 (.ldn 2 (.t 5)) [0, 1, 2, 3, 4, 5, 6, 7], op 18 (.fa 0 (.t 4)) [0, 1, 2, 3, 4, 5, 6, 7, 8], op 19 (.fa 1 (.t 18)) [0, 1, 2, 3, 4, 5, 6, 7, 8], op 20 (.ld (.t 19)) [0, 1, 2, 3, 4, 5, 6, 7, 8], op 21 (.fa 1 (.t 6)) [0, 1, 2, 3, 4, 5, 6, 7, 8, 9, 10, 11], op 22 (.ld (.t 21)) [0, 1, 2, 3, 4, 5, 6, 7, 8, 9, 10, 11], op 23 (.mv (.t 3)) [0, 1, 2, 3, 4, 5, 6, 7, 8, 9, 10, 11, 12, 13], oo 24 (cl 65 [(.t 17), (.t 20), (.t 22), (.t 23)]), oo 25 (.bld [(.int .i64 (0)), (.int .i64 (0))] [(0, (1, (.t 16))), (1, (1, (.t 24)))]), oo 26 (.bld [(.int .i64 (0)), (.int .i64 (0))] [(0, (2, (.t 25)))]), ⟨none, (.st 2 (.t 8) (.t 26)), none, []⟩]) .ret)), 27, [(.ldn 2 8)], false, fun _ => none, fun _ _ => none⟩
def c45 : CFn := ⟨(.seq (.reg [oo 3 (.box (.t 0)), oo 4 (.box (.t 1)), oo 6 (.mv (.c (.bool false)))]) (.seq (.reg [om 7 2, oo 8 (.mkf 67 [] [(.t 3), (.t 4)]), oo 9 (cl 66 [(.t 7), (.t 8)]), oo 10 (.un .not (.t 9)), om 6 10]) .ret)), 11, [(.tmp 6)], false, fun _ => none, fun _ _ => none⟩
def c46 : CFn := ⟨(.seq (.reg [oo 6 (.new [(.int .u64 (0)), (.int .u64 (0)), .nils]), oo 7 (.mv (.c .nils)), oo 8 (.mv (ci 0))]) (.seq (.seq (.reg [om 10 0, om 11 1, om 12 2, oo 13 (cl 68 [(.t 10), (.t 11), (.t 12)]), om 9 13, oo 14 (.ext 0 (.t 9)), oo 15 (.ext 1 (.t 9)), ⟨none, (.st 3 (.t 6) (.t 14)), none, []⟩, om 8 15]) (.seq (.reg [om 16 8, oo 17 (.ar .eql (.t 16) (ci 0))]) (.cond (.t 17) (.reg [oo 19 (.ldn 3 (.t 6)), oo 20 (cl 69 [(.t 19)]), om 18 20, oo 21 (.ext 0 (.t 18)), oo 22 (.ext 1 (.t 18)), om 7 21, om 8 22]) .skip))) (.seq (.reg [oo 23 (.ldn 3 (.t 6)), om 24 7, om 25 8, ⟨none, (.st 3 (.t 6) (.t 23)), none, []⟩, om 7 24, om 8 25]) .ret))), 26, [(.ldn 3 6), (.tmp 7), (.tmp 8)], false, fun _ => none, fun _ _ => none⟩
def c47 : CFn := ⟨(.seq (.reg [oo 3 (.box (.t 0)), oo 5 (.box (.t 2)), oo 6 (.mv (ci 0))]) (.seq (.seq (.reg [om 9 1, oo 10 (.len (.t 9)), oo 11 (.mv (ci 0))]) (.block 0 (.loop 3688 (.seq (.reg [oo 12 (.ar .lss (.t 11) (.t 10))]) (.seq (.cond (.t 12) .skip (.exit 0)) (.seq (.block 1 (.seq (.reg [oo 13 (.ias 1 (.t 9) (.t 11)), oo 14 (.ld (.t 13)), om 8 14]) (.seq (.reg [oo 15 (.ldn 3 (.t 3)), om 16 8, oo 17 (.ldn 2 (.t 5)), oo 18 (cl 70 [(.t 15), (.t 16), (.t 17)])]) (.cond (.t 18) (.reg [om 19 6, oo 20 (.ar .add (.t 19) (ci 1)), om 6 20]) .skip)))) (.reg [oo 21 (.ar .add (.t 11) (ci 1)), om 11 21]))))))) (.seq (.reg [om 22 6, om 6 22]) .ret))), 23, [(.tmp 6)], false, fun _ => none, fun _ _ => none⟩
def c48 : CFn := ⟨(.seq (.reg [oo 1 (.box (.t 0)), oo 2 (.mv (.c (.bool false)))]) (.seq (.reg [oo 3 (.fa 0 (.t 1)), oo 4 (.ldn 2 (.t 3)), oo 5 (.fa 2 (.t 1)), oo 6 (.ldn 2 (.t 5)), oo 7 (.bsl 2 2 [(.int .i64 (0)), (.int .i64 (0))] [(0, (.t 4)), (1, (.t 6))]), oo 8 (cl 42 [(.t 7)]), om 9 8, og 10 (.fa 4 (.t 1)) 9 true, og 11 (.ld (.t 10)) 9 true, og 12 (.bsl 1 1 [(.int .i64 (0))] [(0, (.t 11))]) 9 true, og 13 (cl 45 [(ci 0), (ci 500), (.t 12)]) 9 true, oo 14 (.pick (.t 9) (.t 13) (.c (.bool false))), om 2 14]) .ret)), 15, [(.tmp 2)], false, fun _ => none, fun _ _ => none⟩
def c49 : CFn := ⟨(.seq (.reg [oo 1 (.box (.t 0)), oo 2 (.mv (.c (.bool false)))]) (.seq (.reg [oo 3 (.fa 0 (.t 1)), oo 4 (.ldn 2 (.t 3)), oo 5 (.bsl 2 1 [(.int .i64 (0)), (.int .i64 (0))] [(0, (.t 4))]), oo 6 (cl 42 [(.t 5)]), om 7 6, og 8 (.fa 2 (.t 1)) 7 true, og 9 (.ld (.t 8)) 7 true, og 10 (.bsl 1 1 [(.int .i64 (0))] [(0, (.t 9))]) 7 true, og 11 (cl 45 [(ci 0), (ci 7), (.t 10)]) 7 true, oo 12 (.pick (.t 7) (.t 11) (.c (.bool false))), om 2 12]) .ret)), 13, [(.tmp 2)], false, fun _ => none, fun _ _ => none⟩
def c50 : CFn := ⟨(.seq (.reg [oo 4 (.mv (.c (.bool false)))]) (.seq (.reg [om 5 0, om 6 1, oo 7 (cl 71 [(.t 5), (.t 6)]), oo 8 (.ar .geq (.t 7) (ci 0)), om 4 8]) .ret)), 9, [(.tmp 4)], false, fun _ => none, fun _ _ => none⟩
def c51 : CFn := ⟨(.seq (.reg [oo 2 (.box (.t 0)), oo 3 (.mv (.c (.bool false)))]) (.seq (.reg [oo 4 (.ld (.t 1)), oo 5 (.ldn 5 (.t 2)), oo 6 (.call (.t 4) [(.t 5)]), oo 7 (.un .not (.t 6)), om 3 7]) .ret)), 8, [(.tmp 3)], false, fun _ => none, fun _ _ => none⟩
def c52 : CFn := ⟨(.seq (.reg [oo 4 (.mv (.c (.bool false)))]) (.seq (.reg [om 5 0, om 6 1, oo 7 (cl 72 [(.t 5), (.t 6)]), oo 8 (.ar .geq (.t 7) (ci 0)), om 4 8]) .ret)), 9, [(.tmp 4)], false, fun _ => none, fun _ _ => none⟩
def c53 : CFn := ⟨(.seq (.reg [oo 2 (.box (.t 0)), oo 3 (.mv (.c (.bool false)))]) (.seq (.reg [oo 4 (.ld (.t 1)), oo 5 (.ldn 3 (.t 2)), oo 6 (.call (.t 4) [(.t 5)]), oo 7 (.un .not (.t 6)), om 3 7]) .ret)), 8, [(.tmp 3)], false, fun _ => none, fun _ _ => none⟩
def c54 : CFn := ⟨(.seq (.reg [oo 2 (.mv (ci 0))]) (.seq (.cond (.c (.bool false)) (.seq (.reg [om 3 0, oo 4 (.conv .u32 (.t 3)), oo 5 (cl 73 [(.t 4)]), om 2 5]) .ret) .skip) (.seq (.reg [om 6 0, oo 7 (cl 74 [(.t 6)]), om 2 7]) .ret))), 8, [(.tmp 2)], false, fun _ => none, fun _ _ => none⟩
def c55 : CFn := ⟨(.seq (.reg [oo 3 (.box (.t 0)), oo 6 (.mv (.c (.bool false)))]) (.seq (.reg [oo 7 (.fa 0 (.t 3)), oo 8 (.ld (.t 7)), om 9 1, oo 10 (.fa 1 (.t 3)), oo 11 (.ld (.t 10)), oo 12 (cl 34 [(.t 8), (.t 9), (.t 11)]), om 13 12, og 14 (.fa 1 (.t 3)) 13 true, og 15 (.ld (.t 14)) 13 true, og 16 (.mv (.t 2)) 13 true, og 17 (.ar .leq (.t 15) (.t 16)) 13 true, oo 18 (.pick (.t 13) (.t 17) (.c (.bool false))), om 6 18]) .ret)), 19, [(.tmp 6)], false, fun _ => none, fun _ _ => none⟩
def c56 : CFn := ⟨(.seq (.reg [oo 5 (.box (.t 0)), oo 6 (.box (.t 1)), oo 7 (.box (.t 2)), oo 8 (.box (.t 3)), oo 10 (.mv (ci 0))]) (.seq (.drw [oo 14 (.ldn 2 (.t 6)), op 12 (.new [(.int .i64 (0)), (.int .i64 (0))]) [0], op 11 (.mv (ci (-1))) [0], ⟨none, (.st 2 (.t 12) (.t 14)), none, []⟩]) (.seq (.seq (.reg [oo 13 (.mv (ci 0))]) (.block 0 (.loop 14768 (.seq (.seq (.reg [om 15 13, om 16 4, oo 17 (.ar .leq (.t 15) (.t 16)), om 18 17, og 19 (.ldn 2 (.t 12)) 18 true, og 20 (.ldn 2 (.t 8)) 18 true, og 21 (cl 75 [(.t 19), (.t 20)]) 18 true, oo 22 (.pick (.t 18) (.t 21) (.c (.bool false)))]) (.cond (.t 22) .skip (.exit 0))) (.seq (.block 1 (.reg [om 25 13, oo 26 (.ldn 2 (.t 5)), oo 27 (.ldn 2 (.t 12)), oo 28 (.ldn 2 (.t 7)), oo 29 (cl 76 [(.t 26), (.t 27), (.t 28)]), om 11 25, ⟨none, (.st 2 (.t 12) (.t 29)), none, []⟩])) (.reg [om 23 13, oo 24 (.ar .add (.t 23) (ci 1)), om 13 24])))))) (.seq (.reg [om 30 11, om 10 30]) .ret)))), 31, [(.tmp 10)], false, fun _ => none, fun _ _ => none⟩
def c57 : CFn := ⟨(.seq (.reg [oo 2 (.box (.t 0)), oo 4 (.mv (.c .nils))]) (.seq (.seq (.reg [om 6 1]) (.block 0 (.rf (.t 6) [7] (.reg [om 5 7]) (.block 1 (.reg [oo 8 (.ld (.t 2)), om 9 5, oo 10 (.bsl 1 1 [(.int .i64 (0))] [(0, (.t 9))]), oo 11 (.app 1 (.t 8) (.t 10)), ⟨none, (.st 1 (.t 2) (.t 11)), none, []⟩]))))) (.seq (.reg [oo 12 (.ld (.t 2)), om 4 12]) .ret))), 13, [(.tmp 4)], false, fun _ => none, fun _ _ => none⟩
def c58 : CFn := ⟨(.seq (.reg [oo 4 (.mv (ci 0))]) (.seq (.reg [om 7 0, oo 8 (cl 77 [(.t 7)]), om 5 8]) (.seq (.reg [om 9 1, oo 10 (cl 77 [(.t 9)]), om 6 10]) (.seq (.seq (.reg [om 11 5]) (.cond (.t 11) (.seq (.seq (.reg [om 12 6]) (.cond (.t 12) (.seq (.reg [oo 4 (.mv (ci 0))]) .ret) .skip)) (.seq (.reg [oo 4 (.mv (ci (-1)))]) .ret)) .skip)) (.seq (.seq (.reg [om 13 6]) (.cond (.t 13) (.seq (.reg [oo 4 (.mv (ci 1))]) .ret) .skip)) (.seq (.seq (.reg [om 14 0, om 15 1, oo 16 (.ar .lss (.t 14) (.t 15))]) (.cond (.t 16) (.seq (.reg [oo 4 (.mv (ci (-1)))]) .ret) .skip)) (.seq (.seq (.reg [om 17 0, om 18 1, oo 19 (.ar .gtr (.t 17) (.t 18))]) (.cond (.t 19) (.seq (.reg [oo 4 (.mv (ci 1))]) .ret) .skip)) (.seq (.reg [oo 4 (.mv (ci 0))]) .ret)))))))), 20, [(.tmp 4)], false, fun _ => none, fun _ _ => none⟩
def c59 : CFn := ⟨(.seq (.reg [oo 1 (.box (.t 0)), oo 2 (.mv (.c (.bool false)))]) (.seq (.reg [oo 3 (.fa 0 (.t 1)), oo 4 (.ldn 2 (.t 3)), oo 5 (.bsl 2 1 [(.int .i64 (0)), (.int .i64 (0))] [(0, (.t 4))]), oo 6 (cl 42 [(.t 5)]), oo 7 (.un .not (.t 6)), om 8 7, og 9 (.fa 2 (.t 1)) 8 false, og 10 (.ld (.t 9)) 8 false, og 11 (.bsl 1 1 [(.int .i64 (0))] [(0, (.t 10))]) 8 false, og 12 (cl 45 [(ci 0), (ci 500), (.t 11)]) 8 false, og 13 (.un .not (.t 12)) 8 false, oo 14 (.pick (.t 8) (.c (.bool true)) (.t 13)), om 2 14]) .ret)), 15, [(.tmp 2)], false, fun _ => none, fun _ _ => none⟩
def c60 : CFn := ⟨(.seq (.reg [oo 4 (.mv (.c (.bool false)))]) (.seq (.reg [om 5 0, om 6 1, oo 7 (cl 78 [(.t 5), (.t 6)]), oo 8 (.ar .geq (.t 7) (ci 0)), om 4 8]) .ret)), 9, [(.tmp 4)], false, fun _ => none, fun _ _ => none⟩
def c61 : CFn := ⟨(.seq (.reg [oo 7 (.ld (.t 1)), oo 8 (.len (.t 7)), oo 9 (.mv (ci 0))]) (.block 0 (.loop 909 (.seq (.reg [oo 10 (.ar .lss (.t 9) (.t 8))]) (.seq (.cond (.t 10) .skip (.exit 0)) (.seq (.block 1 (.seq (.reg [oo 11 (.ias 3 (.t 7) (.t 9)), oo 12 (.ldn 3 (.t 11)), oo 6 (.new [(.int .i64 (0)), (.int .i64 (0)), (.int .i64 (0))]), ⟨none, (.st 3 (.t 6) (.t 12)), none, []⟩]) (.seq (.reg [oo 13 (.ldn 2 (.t 2)), oo 14 (.ldn 2 (.t 3)), oo 15 (.fa 0 (.t 6)), oo 16 (.ldn 2 (.t 15)), oo 17 (.fa 2 (.t 6)), oo 18 (.ld (.t 17)), oo 19 (cl 44 [(.t 13), (.t 14), (.t 16), (.t 18)]), ⟨none, (.st 2 (.t 2) (.t 19)), none, []⟩]) (.seq (.reg [om 20 0, oo 21 (.ldn 3 (.t 6)), oo 22 (.ldn 2 (.t 2)), oo 23 (.call (.t 20) [(.t 21), (.t 22)]), oo 24 (.un .not (.t 23))]) (.cond (.t 24) .ret .skip))))) (.reg [oo 25 (.ar .add (.t 9) (ci 1)), om 9 25]))))))), 26, [], false, fun _ => none, fun _ _ => none⟩
def c62 : CFn := ⟨(.seq (.reg [oo 4 (.mv (.c (.bool false)))]) (.seq (.reg [om 5 0, om 6 1, oo 7 (cl 79 [(.t 5), (.t 6)]), oo 8 (.ar .geq (.t 7) (ci 0)), om 4 8]) .ret)), 9, [(.tmp 4)], false, fun _ => none, fun _ _ => none⟩
def c63 : CFn := ⟨(.seq (.reg [oo 1 (.box (.t 0)), oo 2 (.mv (.c (.bool false)))]) (.seq (.reg [oo 3 (.ldn 2 (.t 1)), oo 4 (.bld [(.int .i64 (0)), (.int .i64 (0))] [(0, (2, (.t 3)))]), oo 5 (cl 64 [(.t 4)]), oo 6 (.un .not (.t 5)), om 2 6]) .ret)), 7, [(.tmp 2)], false, fun _ => none, fun _ _ => none⟩
def c64 : CFn := ⟨(.seq (.reg [oo 1 (.box (.t 0)), oo 2 (.mv (.c (.bool false)))]) (.seq (.reg [oo 3 (.fa 0 (.t 1)), oo 4 (.fa 0 (.t 3)), oo 5 (.ld (.t 4)), oo 6 (.fa 0 (.t 1)), oo 7 (.fa 1 (.t 6)), oo 8 (.ld (.t 7)), oo 9 (.bsl 1 2 [(.int .i64 (0))] [(0, (.t 5)), (1, (.t 8))]), oo 10 (cl 45 [(ci 0), (ci 300), (.t 9)]), om 11 10, og 12 (.fa 0 (.t 1)) 11 true, og 13 (.fa 0 (.t 12)) 11 true, og 14 (.ld (.t 13)) 11 true, og 15 (.fa 0 (.t 1)) 11 true, og 16 (.fa 1 (.t 15)) 11 true, og 17 (.ld (.t 16)) 11 true, og 18 (.ar .leq (.t 14) (.t 17)) 11 true, oo 19 (.pick (.t 11) (.t 18) (.c (.bool false))), om 2 19]) .ret)), 20, [(.tmp 2)], false, fun _ => none, fun _ _ => none⟩
def c65 : CFn := ⟨(.seq (.reg [oo 4 (.box (.t 0)), oo 8 (.mv (ci 0))]) (.seq (.seq (.reg [om 9 2, om 10 1, oo 11 (.ar .gtr (.t 9) (.t 10))]) (.cond (.t 11) (.seq (.reg [om 12 2, om 13 1, oo 14 (.fa 0 (.t 4)), oo 15 (.ld (.t 14)), om 16 3, oo 17 (.ar .mul (.t 15) (.t 16)), oo 18 (.ar .add (.t 13) (.t 17)), oo 19 (.mn [(.t 12), (.t 18)]), om 8 19]) .ret) .skip)) (.seq (.reg [om 20 2, om 21 1, oo 22 (.fa 1 (.t 4)), oo 23 (.ld (.t 22)), om 24 3, oo 25 (.ar .mul (.t 23) (.t 24)), oo 26 (.ar .sub (.t 21) (.t 25)), oo 27 (.mx [(.t 20), (.t 26)]), om 8 27]) .ret))), 28, [(.tmp 8)], false, fun _ => none, fun _ _ => none⟩
end
end Go.Proofs.YtpebmjeomlgmdaaGreatDoor.Tab
