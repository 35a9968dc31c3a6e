/- What the rows of shops and jobs share. No condition. -/
import Derived.Shelf.Sort.Plain
import Derived.Test.YtjjapdagllclkaaGreatProg
import Derived.Test.YtjjapdagllclkaaGreatChecked
import Derived.Test.YtjjapdagllclkaaGreatRows
import Derived.OpenShut
import Derived.JoinedOf
import Derived.Handed
import Derived.Test.YtjjapdagllclkaaGreatPzBFn
import Derived.Test.YtjjapdagllclkaaGreatPzCFn
set_option linter.unusedSimpArgs false
set_option linter.unusedVariables false
namespace Go.Abs
open Go
def lkG : List (Nat × List GL) → Nat → List GL
 | [], _ => []
 | (m, gs) :: l, k => if m = k then gs else lkG l k
def lkR : List (List Nat × Nat) → List Nat → Option Nat
 | [], _ => none
 | (m, k) :: l, ps => if m = ps then some k else lkR l ps
def annK (m : List (Nat × List GL)) (n : List (List Nat × Nat)) : CC → CC
 | .seq a b => .seq (annK m n a) (annK m n b)
 | .cond c a b => .cond c (annK m n a) (annK m n b)
 | .block id c => .block id (annK m n c)
 | .loop k c => match lkG m k with
  | [] => .loop k (annK m n c)
  | g :: gs => .loopG k (g :: gs) (annK m n c)
 | .rf f ps a b => match lkR n ps with
  | none => .rf f ps (annK m n a) (annK m n b)
  | some k => .rf f ps (annK m n a) (.kil k (annK m n b))
 | c => c
theorem strip_annK (m : List (Nat × List GL)) (n : List (List Nat × Nat)) : ∀ c, strip (annK m n c) = strip c
 | .seq a b => by simp only [annK, strip, strip_annK m n a, strip_annK m n b]
 | .cond c a b => by simp only [annK, strip, strip_annK m n a, strip_annK m n b]
 | .block id c => by simp only [annK, strip, strip_annK m n c]
 | .loop k c => by
  simp only [annK]
  split <;> simp only [strip, strip_annK m n c]
 | .rf f ps a b => by
  simp only [annK]
  split <;> simp only [strip, strip_annK m n a, strip_annK m n b]
 | .skip => rfl
 | .reg _ => rfl
 | .drw _ => rfl
 | .loopG _ _ _ => rfl
 | .loopN _ _ _ _ => rfl
 | .kil _ _ => rfl
 | .exit _ => rfl
 | .ret => rfl
noncomputable def updG (T : Nat → Option CFn) (f : Nat) (m : List (Nat × List GL)) (n : List (List Nat × Nat)) (g : Nat) : Option CFn :=
 if g = f then (match T f with
  | some c => some { c with body := annK m n c.body }
  | none => none)
 else T g
theorem tab_updG {P : Program} {G : Nat → Option (List AVal)} {T : Nat → Option CFn} (hT : TabOk P G T) {f : Nat} {m : List (Nat × List GL)} {n : List (List Nat × Nat)} : TabOk P G (updG T f m n) := by
 intro g cf hg
 unfold updG at hg
 split at hg
 ·rename_i e
  subst e
  split at hg <;> simp at hg
  rename_i c hc
  subst hg
  obtain ⟨fn, b, h1, h2, h3, h4, h5⟩ := hT g c hc
  exact ⟨fn, b, h1, h2, h3, by simp only [strip_annK]; exact h4, h5⟩
 ·exact hT g cf hg
section
variable {P : Program} {T : Nat → Option CFn} {r : Option Nat} {σ : St} {Q : St → Prop}
end
end Go.Abs
namespace Go.Abs
open Go
section
variable {P : Program} {T : Nat → Option CFn} {r : Option Nat} {σ : St}
def Ylds (P : Program) (T : Nat → Option CFn) (i : Nat) (args : List AVal) (h : Heap) (Q : AVal → Heap → Prop) : Prop := ∃ n v h', yieldF (exec P T n) i args h = some (v, h') ∧ Q v h'
theorem Ylds.mono {i : Nat} {args : List AVal} {h : Heap} {Q Q' : AVal → Heap → Prop} (hr : Ylds P T i args h Q) (hq : ∀ v h, Q v h → Q' v h) : Ylds P T i args h Q' := let ⟨n, v, h', h1, h2⟩ := hr; ⟨n, v, h', h1, hq _ _ h2⟩
end
theorem rbB_none (n : Nat) : rbB n none = true := rfl
theorem rbB_row (n e : Nat) (rs : List (List AVal)) : rbB n (some (.row e rs)) = rs.all (·.all (rb n 5)) := rfl
end Go.Abs
namespace Go.Abs
open Go
noncomputable def frNB (n : Nat) (h : Heap) : Option Blk → Option (Option Blk)
 | none => some none
 | some (.row e rs) => match optAll (optAll (frN n h 5)) rs with
  | some rs => some (some (.row e rs))
  | none => none
 | b => if rbB n b then some b else none
noncomputable def norm (n : Nat) (v : AVal) (h : Heap) : Option (AVal × Heap) := match frN n h 5 v, optAll (frNB n h) (h.take n) with
 | some v, some h => some (v, h)
 | _, _ => none
section
variable {P : Program} {G : Nat → Option (List AVal)} {T : Nat → Option CFn} {E E' E2 : Env} {h h' : Heap} {w w' : World} {n : Nat}
theorem norm_good {f : Nat} {args : List AVal} {v v2 : AVal} {h2 : Heap} (hc : CallGood P G f args h v h') (hn : norm h.length v h' = some (v2, h2)) : CallGood P G f args h v2 h2 := by
 intro E w cargs k hr hl
 refine CallsIn.mono (hc E w cargs k hr hl) ?_
 rintro e w' ⟨u, E', rfl, hle, hr', hu, hfr, hlen⟩
 unfold norm at hn
 split at hn <;> simp at hn
 rename_i v3 h3 e1 e2
 obtain ⟨rfl, rfl⟩ := hn
 obtain ⟨g1, g2⟩ := optAll_get e2
 have hl3 : h3.length = h.length := by rw [← g1, List.length_take]; omega
 let E2 : Env := ⟨E'.ρ, fun i => E'.D i ∧ i < h.length, fun b => E'.O b ∧ ¬ NewB E' h.length h' b, fun b => E'.I b ∨ NewB E' h.length h' b⟩
 have hD2 : ∀ i, E'.D i → i < h.length → E2.D i := fun i h1 h2 => ⟨h1, h2⟩
 have hI2 : ∀ b, E'.I b → E2.I b := fun b hb => .inl hb
 have hN2 : ∀ b, NewB E' h.length h' b → E2.I b := fun b hb => .inr hb
 have hvr : ∀ (d : Nat) {v v' : AVal} {u : Value}, E'.VR w' v u → frN h.length h' d v = some v' → E2.VR w' v' u := fun d _ _ _ => frN_ok (E2 := E2) hr' hlen rfl hD2 hI2 hN2 d
 have hlo : ∀ v u, E'.VR w' v u → rb h.length 5 v = true → E2.VR w' v u := fun v u hv hb =>
  VR.mono (VR.trim 5 hv hb) _ (fun i hi => ⟨⟨hi.1, hi.2⟩, rfl⟩) fun b hb => ⟨.inl hb, rfl⟩
 have hNO : ∀ b, NewB E' h.length h' b → E'.O b := fun b ⟨i, c, _, hi, he⟩ => he ▸ (hr'.blk i c hi).2.1
 have get : ∀ i b2, h3[i]? = some (some b2) → i < h.length ∧ ∃ b, h'[i]? = some (some b) ∧ frNB h.length h' (some b) = some (some b2) := by
  intro i b2 hi
  obtain ⟨hi3, he⟩ := List.getElem?_eq_some_iff.1 hi
  have hin : i < h.length := by omega
  have := g2 i (by rw [List.length_take]; omega) hi3
  rw [he, List.getElem_take] at this
  refine ⟨hin, ?_⟩
  cases hb : h'[i]'(by omega) with
  | none => rw [hb] at this; simp [frNB] at this
  | some b => rw [hb] at this; exact ⟨b, by rw [List.getElem?_eq_getElem (by omega), hb], this⟩
 have hle2 : Le E w E2 w' := ⟨hle.os, hle.tape, hle.output, hle.size, fun i hi => ⟨⟨(hle.D i hi).1, hr.lt i hi⟩, (hle.D i hi).2⟩, fun b hb => .inl (hle.I b hb), fun b hb ho =>
  ⟨(hle.old b hb ho).1, fun h => (hle.old b hb ho).2.1 h.1, fun h => h.elim (hle.old b hb ho).2.2 fun h => absurd (hNO b h) (hle.old b hb ho).2.1⟩⟩
 refine ⟨u, E2, rfl, hle2, ⟨fun i b2 hi => ?_, fun i j b c hi hj he => ?_, fun i hi => by rw [hl3]; exact hi.2, fun b hb => hr'.own b hb.1, fun b hb => ?_, fun g r hg => ?_⟩, hvr 5 hu e1, fun j hj => (hfr j hj.1).elim .inl fun h => absurd hj.2 (by omega), by omega⟩
 ·obtain ⟨hin, b, hb, hf⟩ := get i b2 hi
  obtain ⟨b1, b3, b4, b5⟩ := hr'.blk i b hb
  refine ⟨⟨b1, hin⟩, ⟨b3, fun ⟨j, c, hj1, hj2, hj3⟩ => ?_⟩, b4, ?_⟩
  ·have := hr'.inj j i c b hj2 hb hj3
   omega
  ·cases b with
   | row e rs =>
    simp only [frNB] at hf
    split at hf <;> simp at hf
    rename_i rs2 hrs
    subst hf
    obtain ⟨k1, k2⟩ := optAll_get hrs
    obtain ⟨c1, c2, c3, c, el, c4, c5, c6⟩ := b5
    refine ⟨c1, fun r hr => ?_, by rw [← k1]; exact c3, c, el, c4, c5, fun k r hk j x hj => ?_⟩
    ·obtain ⟨q, hq, rfl⟩ := List.mem_iff_getElem.1 hr
     rw [← (optAll_get (k2 q (by omega) hq)).1]
     exact c2 _ (List.getElem_mem _)
    ·obtain ⟨hk1, rfl⟩ := List.getElem?_eq_some_iff.1 hk
     obtain ⟨hj1, rfl⟩ := List.getElem?_eq_some_iff.1 hj
     obtain ⟨q1, q2⟩ := optAll_get (k2 k (by omega) hk1)
     obtain ⟨v, m1, m2⟩ := c6 k _ (List.getElem?_eq_getElem (by omega)) j _ (List.getElem?_eq_getElem (by omega))
     exact ⟨v, m1, hvr 5 m2 (q2 j (by omega) hj1)⟩
   | map es c =>
    simp only [frNB] at hf
    split at hf <;> simp at hf
    rename_i hrb
    subst hf
    exact rbB_br (E := E') (E2 := E2) rfl hlo b5 hrb
   | loop t ps asg bd st pd =>
    simp only [frNB] at hf
    split at hf <;> simp at hf
    rename_i hrb
    subst hf
    exact rbB_br (E := E') (E2 := E2) rfl hlo b5 hrb
 ·obtain ⟨_, b', hb', _⟩ := get i b hi
  obtain ⟨_, c', hc', _⟩ := get j c hj
  exact hr'.inj i j b' c' hb' hc' he
 ·rcases hb with hb | hb
  ·exact ⟨(hr'.imm b hb).1, fun h => (hr'.imm b hb).2 h.1⟩
  ·obtain ⟨i, c, _, hi, he⟩ := id hb
   exact ⟨he ▸ (hr'.blk i c hi).2.2.1, fun h => h.2 hb⟩
 ·have := hr'.glob g r hg
  generalize hp : Value.pointer (some ⟨g, 0, none⟩) = pv at this ⊢
  cases this with
  | pv _ _ _ b off cv hb hc h => exact .pv _ _ _ b off cv (hI2 b hb) hc fun j hj => VR.mono (h j hj) _ (fun i hi => hi.elim) fun b hb => ⟨hI2 b hb, rfl⟩
noncomputable def updE (T : Nat → Option CFn) (f : Nat) (eff : List AVal → Heap → Option (AVal × List (Nat × Option Blk))) (g : Nat) : Option CFn :=
 if g = f then (match T f with
  | some c => some { c with eff := eff }
  | none => none)
 else T g
theorem tab_updE (hT : TabOk P G T) {f : Nat} {eff : List AVal → Heap → Option (AVal × List (Nat × Option Blk))} (ho : ∀ args h v us, eff args h = some (v, us) → CallGood P G f args h v (setH h us)) : TabOk P G (updE T f eff) := by
 intro g cf hg
 unfold updE at hg
 split at hg
 ·rename_i e
  subst e
  split at hg <;> simp at hg
  rename_i c hc
  subst hg
  obtain ⟨fn, b, h1, h2, h3, h4, h5, h6, h7, _⟩ := hT g c hc
  exact ⟨fn, b, h1, h2, h3, h4, h5, h6, h7, ho⟩
 ·exact hT g cf hg
theorem orc_nil (b : CC) (n : Nat) (r : List CRes) (fr : Bool) (e : List AVal → Heap → Option (AVal × List (Nat × Option Blk))) (args : List AVal) (h : Heap) : orcF ⟨b, n, r, fr, fun _ => none, e⟩ args h = none := by
 unfold orcF; split <;> rfl
theorem callF_eff {ex : Option Nat → CC → St → Option (AEx × St)} {f : Nat} {cf : CFn} (hT : T f = some cf) (ho : cf.orc = fun _ => none) (args : List AVal) (h : Heap) : callF T ex f args h = match cf.eff args h with
  | some (v, us) => some (v, setH h us)
  | none => callB T ex f args h := by
 cases he : cf.eff args h with
 | none => rfl
 | some r =>
  unfold callF
  simp only [hT, orcF_none ho, he]
theorem frN_int (n : Nat) (h : Heap) (d : Nat) (k : IntKind) (m : Int) : frN n h (d + 1) (.int k m) = some (.int k m) := rfl
theorem frN_bool (n : Nat) (h : Heap) (d : Nat) (b : Bool) : frN n h (d + 1) (.bool b) = some (.bool b) := rfl
theorem frN_nils (n : Nat) (h : Heap) (d : Nat) : frN n h (d + 1) .nils = some .nils := rfl
theorem frN_vl (n : Nat) (h : Heap) (d : Nat) (rs : List (List AVal)) (t : Bool) : frN n h (d + 1) (.vl rs t) = some (.vl rs t) := rfl
theorem frN_agg (n : Nat) (h : Heap) (d : Nat) (xs : List AVal) : frN n h (d + 1) (.agg xs) = match optAll (frN n h d) xs with
 | some ys => some (.agg ys)
 | none => none := rfl
theorem frN_tup (n : Nat) (h : Heap) (d : Nat) (xs : List AVal) : frN n h (d + 1) (.tup xs) = match optAll (frN n h d) xs with
 | some ys => some (.tup ys)
 | none => none := rfl
theorem frN_sl (n : Nat) (h : Heap) (d i k m : Nat) (t : Bool) : frN n h (d + 1) (.sl i k m t) = if i < n then some (.sl i k m t) else frz false (above n h) 5 (.sl i k m t) := rfl
theorem frN_ref (n : Nat) (h : Heap) (d i k o : Nat) : frN n h (d + 1) (.ref i k o) = if i < n then some (.ref i k o) else frz false (above n h) 5 (.ref i k o) := rfl
theorem frNB_none (n : Nat) (h : Heap) : frNB n h none = some none := rfl
theorem frNB_row (n : Nat) (h : Heap) (e : Nat) (rs : List (List AVal)) : frNB n h (some (.row e rs)) = match optAll (optAll (frN n h 5)) rs with
 | some rs => some (some (.row e rs))
 | none => none := rfl
end
end Go.Abs
namespace Go.Abs
open Go
def posOf : List Nat → Nat → Nat → Option Nat
 | [], _, _ => none
 | j :: J, i, p => if j = i then some p else posOf J i (p + 1)
noncomputable def renA (J : List Nat) : AVal → Option AVal
 | .ref i k o => match posOf J i 0 with
  | some p => some (.ref p k o)
  | none => none
 | .sl i k n t => match posOf J i 0 with
  | some p => some (.sl p k n t)
  | none => none
 | v => if rb 0 5 v then some v else none
noncomputable def backA1 (J : List Nat) : AVal → Option AVal
 | .ref p k o => match J[p]? with
  | some i => some (.ref i k o)
  | none => none
 | .sl p k n t => match J[p]? with
  | some i => some (.sl i k n t)
  | none => none
 | v => if rb 0 5 v then some v else none
noncomputable def backA (J : List Nat) : AVal → Option AVal
 | .tup xs => match optAll (backA1 J) xs with
  | some ys => some (.tup ys)
  | none => none
 | v => backA1 J v
def flatBlk : Option Blk → Bool
 | some (.row _ rs) => rs.all (·.all (rb 0 5))
 | _ => false
def ptrs : List Nat → List AVal → List Nat
 | J, [] => J
 | J, .ref i _ _ :: l => if J.contains i then ptrs J l else ptrs (J ++ [i]) l
 | J, .sl i _ _ _ :: l => if J.contains i then ptrs J l else ptrs (J ++ [i]) l
 | J, _ :: l => ptrs J l
noncomputable def flatAt (h : Heap) (j : Nat) : Option (Option Blk) := match nth h j with
 | some b => if flatBlk b then some b else none
 | none => none
noncomputable def frameE (sp : List AVal → Heap → Option (AVal × Heap)) (args : List AVal) (h : Heap) : Option (AVal × List (Nat × Option Blk)) :=
 match optAll (renA (ptrs [] args)) args, optAll (flatAt h) (ptrs [] args) with
 | some ass, some h0 => match sp ass h0 with
  | some (v, h1) => if h1.length = (ptrs [] args).length ∧ h1.all flatBlk = true then (match backA (ptrs [] args) v with
   | some v' => some (v', (ptrs [] args).zip h1)
   | none => none) else none
  | none => none
 | _, _ => none
theorem ptrs_nodup : ∀ (l : List AVal) (J : List Nat), J.Nodup → (ptrs J l).Nodup
 | [], J, h => h
 | v :: l, J, h => by
  have add : ∀ i, J.contains i = false → (J ++ [i]).Nodup := fun i hi => by
   rw [List.nodup_append]
   refine ⟨h, by simp, fun a ha b hb => ?_⟩
   simp at hb; subst hb
   rintro rfl
   simp [ha] at hi
  cases v with
  | ref i k o =>
   simp only [ptrs]
   split
   ·exact ptrs_nodup l J h
   ·rename_i hc; exact ptrs_nodup l _ (add i (by simpa using hc))
  | sl i k n t =>
   simp only [ptrs]
   split
   ·exact ptrs_nodup l J h
   ·rename_i hc; exact ptrs_nodup l _ (add i (by simpa using hc))
  | _ => exact ptrs_nodup l J h
theorem posOf_some : ∀ {J : List Nat} {i p q : Nat}, posOf J i p = some q → p ≤ q ∧ J[q - p]? = some i
 | [], _, _, _, h => by simp [posOf] at h
 | j :: J, i, p, q, h => by
  simp only [posOf] at h
  split at h
  ·rename_i e
   simp at h; subst h; subst e
   exact ⟨Nat.le_refl _, by simp⟩
  ·obtain ⟨h1, h2⟩ := posOf_some h
   refine ⟨by omega, ?_⟩
   rw [show q - p = (q - (p + 1)) + 1 by omega, List.getElem?_cons_succ]
   exact h2
theorem putH_lt {h : Heap} {i : Nat} {b : Option Blk} (hi : i < h.length) : putH h i b = h.set i b := if_pos hi
theorem setH_zip : ∀ {J : List Nat} {l : List (Option Blk)} {h : Heap}, J.Nodup → l.length = J.length → (∀ j ∈ J, j < h.length) → ∀ p (hp : p < J.length), (setH h (J.zip l))[J[p]]? = l[p]?
 | [], _, _, _, _, _, p, hp => by simp at hp
 | j :: J, [], _, _, hl, _, _, _ => by simp at hl
 | j :: J, b :: l, h, hn, hl, hb, p, hp => by
  have hn' := List.nodup_cons.1 hn
  cases p with
  | zero =>
   show (setH (putH h j b) (J.zip l))[j]? = _
   rw [putH_lt (hb j (by simp)), setH_get]
   ·rw [List.getElem?_set_self (hb j (by simp))]; rfl
   ·intro hm
    obtain ⟨u, hu, rfl⟩ := List.mem_map.1 hm
    exact hn'.1 (List.of_mem_zip hu).1
  | succ p =>
   show (setH (putH h j b) (J.zip l))[J[p]'(by simpa using hp)]? = _
   rw [putH_lt (hb j (by simp)), setH_zip hn'.2 (by simpa using hl) (fun k hk => by rw [List.length_set]; exact hb k (by simp [hk])) p (by simpa using hp)]
   simp
theorem setH_len : ∀ (us : List (Nat × Option Blk)) (h : Heap), (∀ u ∈ us, u.1 < h.length) → (setH h us).length = h.length
 | [], _, _ => rfl
 | u :: us, h, hu => by
  show (setH (putH h u.1 u.2) us).length = _
  rw [putH_lt (hu u (by simp)), setH_len us _ fun v hv => by rw [List.length_set]; exact hu v (by simp [hv]), List.length_set]
section
variable {P : Program} {G : Nat → Option (List AVal)} {T : Nat → Option CFn} {E E' E2 : Env} {h h' h0 h1 : Heap} {w w' : World} {n : Nat} {J : List Nat}
theorem vr_flat (hI : ∀ b, E.I b → E2.I b) {v : AVal} {u : Value} (hv : E.VR w v u) (hb : rb 0 5 v = true) : E2.VR w v u :=
 VR.mono (VR.trim 5 hv hb) _ (fun i hi => absurd hi.2 (by omega)) fun b hb => ⟨hI b hb, rfl⟩
theorem br_flat (hI : ∀ b, E.I b → E2.I b) {i j : Nat} (hρ : E2.ρ j = E.ρ i) {b : Blk} (hb : E.BR P G w i b) (hf : flatBlk (some b) = true) : E2.BR P G w j b := by
 cases b with
 | row e rs =>
  obtain ⟨h1, h2, h3, c, el, h4, h5, h6⟩ := hb
  simp only [flatBlk, List.all_eq_true] at hf
  refine ⟨by rw [hρ]; exact h1, h2, by rw [hρ]; exact h3, c, el, by rw [hρ]; exact h4, by rw [hρ]; exact h5, fun k r hk j x hj => ?_⟩
  obtain ⟨v, g1, g2⟩ := h6 k r hk j x hj
  exact ⟨v, by rw [hρ]; exact g1, vr_flat hI g2 (hf _ (List.mem_of_getElem? hk) _ (List.mem_of_getElem? hj))⟩
 | map es c => simp [flatBlk] at hf
 | loop t ps asg bd st pd => simp [flatBlk] at hf
theorem frame_good {f : Nat} {args ass : List AVal} {v v' : AVal} (hc : CallGood P G f ass h0 v h1) (hJ : J.Nodup) (has : optAll (renA J) args = some ass) (hh : optAll (flatAt h) J = some h0)
  (hl1 : h1.length = J.length) (hf1 : h1.all flatBlk = true) (hb : backA J v = some v') : CallGood P G f args h v' (setH h (J.zip h1)) := by
 intro E w cargs k hr hl
 obtain ⟨g1, g2⟩ := optAll_get hh
 have hat : ∀ p (hp : p < J.length), ∃ e rs, h[J[p]]? = some (some (.row e rs)) ∧ h0[p]? = some (some (.row e rs)) ∧ flatBlk (some (.row e rs)) = true := fun p hp => by
  have := g2 p hp (by omega)
  simp only [flatAt, nth_eq] at this
  split at this
  ·rename_i b hb
   split at this <;> simp at this
   rename_i hfb
   cases b with
   | none => simp [flatBlk] at hfb
   | some b =>
    cases b with
    | row e rs => exact ⟨e, rs, hb, by rw [List.getElem?_eq_getElem (by omega), ← this], hfb⟩
    | map es c => simp [flatBlk] at hfb
    | loop t ps asg bd st pd => simp [flatBlk] at hfb
  ·simp at this
 have hat1 : ∀ p (hp : p < J.length), ∃ e rs, h1[p]? = some (some (.row e rs)) ∧ flatBlk (some (.row e rs)) = true := fun p hp => by
  simp only [List.all_eq_true] at hf1
  have hm := hf1 _ (List.getElem_mem (h := (by omega : p < h1.length)))
  cases hb : h1[p]'(by omega) with
  | none => rw [hb] at hm; simp [flatBlk] at hm
  | some b =>
   rw [hb] at hm
   cases b with
   | row e rs => exact ⟨e, rs, by rw [List.getElem?_eq_getElem (by omega), hb], hm⟩
   | map es c => simp [flatBlk] at hm
   | loop t ps asg bd st pd => simp [flatBlk] at hm
 have gd : ∀ p (hp : p < J.length), J.getD p 0 = J[p] := fun p hp => by rw [List.getD_eq_getElem?_getD, List.getElem?_eq_getElem hp]; rfl
 let E0 : Env := ⟨fun p => E.ρ (J.getD p 0), fun p => p < J.length, fun b => ∃ p, p < J.length ∧ b = (E.ρ (J.getD p 0)).b, E.I⟩
 have hO : ∀ b, E0.O b → E.O b := fun b ⟨p, hp, hb⟩ => by
  obtain ⟨e, rs, h1, _⟩ := hat p hp
  rw [hb, gd p hp]
  exact (hr.blk _ _ h1).2.1
 have hr0 : E0.HR P G h0 w := by
  refine ⟨fun i b hi => ?_, fun i j b c hi hj he => ?_, fun i hi => by rw [← g1]; exact hi, fun b hb => hr.own b (hO b hb), fun b hb => ⟨(hr.imm b hb).1, fun ho => (hr.imm b hb).2 (hO b ho)⟩, fun g r hg => ?_⟩
  ·have hil : i < J.length := by have := (List.getElem?_eq_some_iff.1 hi).1; omega
   obtain ⟨e, rs, k1, k2, k3⟩ := hat i hil
   rw [hi] at k2
   simp at k2; subst k2
   obtain ⟨b1, b2, b3, b4⟩ := hr.blk _ _ k1
   refine ⟨hil, ⟨i, hil, rfl⟩, ?_, br_flat (E := E) (E2 := E0) (fun _ h => h) (by show E.ρ (J.getD i 0) = _; rw [gd i hil]) b4 k3⟩
   show (E.ρ (J.getD i 0)).b < _
   rw [gd i hil]; exact b3
  ·have hil : i < J.length := by have := (List.getElem?_eq_some_iff.1 hi).1; omega
   have hjl : j < J.length := by have := (List.getElem?_eq_some_iff.1 hj).1; omega
   obtain ⟨_, _, k1, _⟩ := hat i hil
   obtain ⟨_, _, k2, _⟩ := hat j hjl
   have he' : (E.ρ (J.getD i 0)).b = (E.ρ (J.getD j 0)).b := he
   rw [gd i hil, gd j hjl] at he'
   exact (List.getElem_inj hJ).1 (hr.inj _ _ _ _ k1 k2 he')
  ·have := hr.glob g r hg
   generalize hp : Value.pointer (some ⟨g, 0, none⟩) = pv at this ⊢
   cases this with
   | pv _ _ _ b off cv hb hc h => exact .pv _ _ _ b off cv hb hc fun j hj => VR.mono (h j hj) _ (fun i hi => hi.elim) fun b hb => ⟨hb, rfl⟩
 have hl0 : E0.LR w ass cargs := by
  obtain ⟨a1, a2⟩ := optAll_get has
  refine ⟨by rw [← a1]; exact hl.1, fun j j1 j2 => ?_⟩
  have hv := hl.2 j (by omega) j2
  have ha := a2 j (by omega) j1
  generalize args[j]'(by omega) = x at hv ha
  generalize ass[j] = y at ha ⊢
  generalize cargs[j] = u at hv ⊢
  have low : (if rb 0 5 x then some x else none) = some y → E0.VR w y u := fun h => by
   split at h <;> simp at h
   rename_i hx
   subst h
   exact vr_flat (E := E) (E2 := E0) (fun _ h => h) hv hx
  cases hv with
  | ref _ i k o hi =>
   simp only [renA] at ha
   split at ha <;> simp at ha
   rename_i p hp
   subst ha
   obtain ⟨_, hp2⟩ := posOf_some hp
   obtain ⟨hp3, hp4⟩ := List.getElem?_eq_some_iff.1 hp2
   have e : E0.ρ p = E.ρ i := by show E.ρ (J.getD p 0) = _; rw [gd p (by simpa using hp3)]; exact congrArg E.ρ (by simpa using hp4)
   rw [← e]
   exact .ref _ p k o (by show p < J.length; simpa using hp3)
  | sl _ i k n t a cap hi hn ht ha' hs =>
   simp only [renA] at ha
   split at ha <;> simp at ha
   rename_i p hp
   subst ha
   obtain ⟨_, hp2⟩ := posOf_some hp
   obtain ⟨hp3, hp4⟩ := List.getElem?_eq_some_iff.1 hp2
   have e : E0.ρ p = E.ρ i := by show E.ρ (J.getD p 0) = _; rw [gd p (by simpa using hp3)]; exact congrArg E.ρ (by simpa using hp4)
   rw [← e] at ha' hs
   exact .sl _ p k n t a cap (by show p < J.length; simpa using hp3) hn ht ha' hs
  | _ => exact low ha
 refine CallsIn.mono (hc E0 w cargs k hr0 hl0) ?_
 rintro e w' ⟨u, E0', rfl, hle0, hr1, hu, hfr, hlen⟩
 have hρ1 : ∀ p (hp : p < J.length), E0'.ρ p = E.ρ J[p] := fun p hp => by
  rw [(hle0.D p hp).2]
  show E.ρ (J.getD p 0) = _
  rw [gd p hp]
 have hI : ∀ b, E0'.I b → b < w.heap.size → E.I b := fun b hb hs => by
  by_cases ho : E0.O b
  ·obtain ⟨p, hp, rfl⟩ := ho
   obtain ⟨e, rs, k1, _⟩ := hat1 p hp
   have := (hr1.blk p _ k1).2.1
   rw [hρ1 p hp, ← gd p hp] at this
   exact absurd this (hr1.imm _ hb).2
  ·exact (hle0.old b hs ho).2.2 hb
 let E2 : Env := ⟨E.ρ, E.D, E.O, fun b => E.I b ∨ E0'.I b⟩
 have hle2 : Le E w E2 w' := ⟨hle0.os, hle0.tape, hle0.output, hle0.size, fun i hi => ⟨hi, rfl⟩, fun b hb => .inl hb, fun b hs ho =>
  ⟨(hle0.old b hs fun h => ho (hO b h)).1, ho, fun h => h.elim id fun h => hI b h hs⟩⟩
 have get1 : ∀ i b, (setH h (J.zip h1))[i]? = some (some b) → (∃ p, ∃ hp : p < J.length, i = J[p] ∧ h1[p]? = some (some b)) ∨ (i ∉ J ∧ h[i]? = some (some b)) := fun i b hi => by
  by_cases hm : i ∈ J
  ·obtain ⟨p, hp, rfl⟩ := List.mem_iff_getElem.1 hm
   rw [setH_zip hJ (by omega) (fun j hj => ?_) p hp] at hi
   ·exact .inl ⟨p, hp, rfl, hi⟩
   ·obtain ⟨q, hq, rfl⟩ := List.mem_iff_getElem.1 hj
    obtain ⟨_, _, k1, _⟩ := hat q hq
    exact (List.getElem?_eq_some_iff.1 k1).1
  ·rw [setH_get] at hi
   ·exact .inr ⟨hm, hi⟩
   ·intro h
    obtain ⟨u, hu, rfl⟩ := List.mem_map.1 h
    exact hm (List.of_mem_zip hu).1
 have was : ∀ i b, (setH h (J.zip h1))[i]? = some (some b) → ∃ c, h[i]? = some (some c) := fun i b hi => by
  rcases get1 i b hi with ⟨p, hp, rfl, _⟩ | ⟨_, h⟩
  ·obtain ⟨e, rs, k1, _⟩ := hat p hp
   exact ⟨_, k1⟩
  ·exact ⟨b, h⟩
 have hvb : ∀ {x y : AVal} {u : Value}, E0'.VR w' x u → backA1 J x = some y → E2.VR w' y u := by
  intro x y u hx hy
  have low : (if rb 0 5 x then some x else none) = some y → E2.VR w' y u := fun h => by
   split at h <;> simp at h
   rename_i hb
   subst h
   exact vr_flat (E := E0') (E2 := E2) (fun _ h => .inr h) hx hb
  cases hx with
  | ref _ p k o hp =>
   simp only [backA1] at hy
   split at hy <;> simp at hy
   rename_i i hi
   subst hy
   obtain ⟨hp3, rfl⟩ := List.getElem?_eq_some_iff.1 hi
   rw [hρ1 p hp3]
   obtain ⟨e, rs, k1, _⟩ := hat p hp3
   exact .ref _ _ k o (hr.blk _ _ k1).1
  | sl _ p k n t a cap hp hn ht ha hs =>
   simp only [backA1] at hy
   split at hy <;> simp at hy
   rename_i i hi
   subst hy
   obtain ⟨hp3, rfl⟩ := List.getElem?_eq_some_iff.1 hi
   rw [hρ1 p hp3] at ha hs
   obtain ⟨e, rs, k1, _⟩ := hat p hp3
   exact .sl _ _ k n t a cap (hr.blk _ _ k1).1 hn ht ha hs
  | _ => exact low hy
 have hsl : (setH h (J.zip h1)).length = h.length := setH_len _ _ fun x hx => by
  obtain ⟨q, hq, e⟩ := List.mem_iff_getElem.1 (List.of_mem_zip hx).1
  obtain ⟨_, _, k1, _⟩ := hat q hq
  rw [← e]
  exact (List.getElem?_eq_some_iff.1 k1).1
 refine ⟨u, E2, rfl, hle2, ⟨fun i b hi => ?_, fun i j b c hi hj he => ?_, fun i hi => by rw [hsl]; exact hr.lt i hi, fun b hb => Nat.lt_of_lt_of_le (hr.own b hb) hle0.size, fun b hb => ?_, fun g r hg => hle2.vr hr (hr.glob g r hg)⟩, ?_, fun j hj => .inl hj, by rw [hsl]; exact Nat.le_refl _⟩
 ·rcases get1 i b hi with ⟨p, hp, rfl, hb1⟩ | ⟨hm, hb1⟩
  ·obtain ⟨e, rs, k1, _⟩ := hat p hp
   obtain ⟨b1, b2, b3, _⟩ := hr.blk _ _ k1
   obtain ⟨e', rs', k2, k3⟩ := hat1 p hp
   rw [hb1] at k2
   simp at k2; subst k2
   obtain ⟨_, _, _, b4⟩ := hr1.blk p _ hb1
   exact ⟨b1, b2, Nat.lt_of_lt_of_le b3 hle0.size, br_flat (E := E0') (E2 := E2) (fun _ h => .inr h) (hρ1 p hp).symm b4 k3⟩
  ·obtain ⟨b1, b2, b3, b4⟩ := hr.blk i b hb1
   refine ⟨b1, b2, Nat.lt_of_lt_of_le b3 hle0.size, br_mono b4 rfl (hle0.old _ b3 fun ⟨p, hp, he⟩ => ?_).1 fun _ _ hv => hle2.vr hr hv⟩
   rw [gd p hp] at he
   obtain ⟨e, rs, k1, _⟩ := hat p hp
   exact hm (hr.inj _ _ _ _ hb1 k1 he ▸ List.getElem_mem hp)
 ·obtain ⟨b', hb'⟩ := was i b hi
  obtain ⟨c', hc'⟩ := was j c hj
  exact hr.inj i j b' c' hb' hc' he
 ·rcases hb with hb | hb
  ·exact ⟨Nat.lt_of_lt_of_le (hr.imm b hb).1 hle0.size, (hr.imm b hb).2⟩
  ·refine ⟨(hr1.imm b hb).1, fun ho => ?_⟩
   have hs := hr.own b ho
   exact (hr.imm b (hI b hb hs)).2 ho
 ·unfold backA at hb
  cases hu with
  | tup _ xs cs hl hx =>
   simp only at hb
   split at hb <;> simp at hb
   rename_i ys hy
   subst hb
   obtain ⟨q1, q2⟩ := optAll_get hy
   exact .tup _ _ cs (by omega) fun j h1 h2 => hvb (hx j (by omega) h2) (q2 j (by omega) h1)
  | any => exact hvb (.any _ _) hb
  | und => exact hvb (.und _) hb
  | bool => exact hvb (.bool _ _) hb
  | int => exact hvb (.int _ _ _) hb
  | agg _ xs cs hl hx => exact hvb (.agg _ xs cs hl hx) hb
  | nilp => exact hvb (.nilp _) hb
  | ref _ i k o hi => exact hvb (.ref _ i k o hi) hb
  | pv _ r o b off cv hb' hc' h => exact hvb (.pv _ r o b off cv hb' hc' h) hb
  | nils => exact hvb (.nils _) hb
  | sl _ i k n t a cap hi hn ht ha hs => exact hvb (.sl _ i k n t a cap hi hn ht ha hs) hb
  | vl _ rs t a cap b off e cv hn ht ha hb' he hc' h => exact hvb (.vl _ rs t a cap b off e cv hn ht ha hb' he hc' h) hb
  | nilm => exact hvb (.nilm _) hb
  | mp _ i hi => exact hvb (.mp _ i hi) hb
  | fn _ f a b ca cb hla hlb ha hb' => exact hvb (.fn _ f a b ca cb hla hlb ha hb') hb
  | nilf => exact hvb (.nilf _) hb
  | yld _ i hi => exact hvb (.yld _ i hi) hb
theorem tab_frame (hm : P.follows .mixedOrders = true) (hT : TabOk P G T) {f : Nat} {sp : List AVal → Heap → Option (AVal × Heap)}
  (ho : ∀ args h v h', sp args h = some (v, h') → Answers P T f args h fun v1 h1 => norm h.length v1 h1 = some (v, h')) : TabOk P G (updE T f (frameE sp)) :=
 tab_updE hT fun args h v us he => by
  unfold frameE at he
  split at he <;> (try simp only [reduceCtorEq] at he)
  rename_i ass h0 e1 e2
  split at he <;> (try simp only [reduceCtorEq] at he)
  rename_i v1 h1 e3
  split at he <;> (try simp only [reduceCtorEq] at he)
  rename_i hg
  split at he <;> (try simp only [reduceCtorEq] at he)
  rename_i v' hb
  simp at he
  obtain ⟨rfl, rfl⟩ := he
  obtain ⟨v2, h2, hn, hgood⟩ := answers_good hm hT (ho ass h0 v1 h1 e3)
  exact frame_good (norm_good hgood hn) (ptrs_nodup args [] List.nodup_nil) e1 e2 hg.1 hg.2 hb
end
end Go.Abs
namespace Go.Proofs.YtjjapdagllclkaaGreat.Tab
open Go Go.Abs Go.Proofs
set_option maxRecDepth 100000
set_option maxHeartbeats 4000000
set_option linter.unusedSimpArgs false
set_option linter.unusedVariables false
section
attribute [local simp] frz_int frz_bool frz_vl frz_pv frz_agg frz_tup frz_fn frz_ref frz_sl frz_nils optAll orcF rb_int rb_bool rb_agg rb_tup rb_int' rb_bool' rb_vl rb_pv rb_yld rb_nilf rb_nilp rb_nils rb_any rb_und rb_ref rb_sl rb_fn slE chunk fillA evParts evParts3 putAt List.range_succ List.range_zero List.range'_succ List.range'_zero runX_nil' unary_not evalS_pure evAll_nil evAll_cons runX_cons stepX wantedA dop CV.ev putK_eq setK_eq appK_eq fA_eq fI_eq fN_eq fRow_eq fRows_eq nth_eq Out.v putT List.replicate_succ zT zB arI pointee Abs.rowAt ldRow allV toV toC ofV ofC Builtin.min_ Builtin.min2 Builtin.max_ Builtin.max2 min_if max_if resA tupA kill trim_self trim_len trim_emp trim_nil lenA
attribute [local simp] runD_nil' runD_cons' stepD actK_eq actD clash disj masks holes maskH unmaskH diffs news eqB allB eqA ldRowN wrote toCs ofCs stA rowsV_vl rowsV_nils rowsOf dI1 dI2 dI3 dI5 elt
attribute [local simp] st_any st_und st_agg st_tup st_bool st_int st_nilp st_ref st_pv st_nils st_sl st_vl st_nilm st_mp st_fn st_nilf st_yld co_any co_und co_agg co_tup co_bool co_int co_nilp co_ref co_pv co_nils co_sl co_vl co_nilm co_mp co_fn co_nilf co_yld
section
attribute [local simp] callA calleeA lop loud rbB_none rbB_row
def oFree0 (ts : List FStop) (a n : Int) : Prop := (0 ≤ a ∧ a ≤ 1000000) ∧ (0 ≤ n ∧ n ≤ 10000) ∧ ts.length ≤ 100 ∧ ∀ x ∈ ts, x.2.2 ≤ 100000
open Classical in
noncomputable def oFree : List AVal → Option AVal
  | [.agg [.int .i64 _, c, t, j], .int .i64 k, .int .i64 a, .int .i64 n] => match dInts2 c, dStops t, dJobs j with
    | some _, some ts, some _ => if oFree0 ts a n then some (I (freeT ts k n a)) else none
    | _, _, _ => none
  | _ => none
theorem isFree_of {st : List FStop} {k n a : Int} (h : ∀ p, p < st.length → ∀ x, st[p]? = some x → conf k n a x = false) : isFree st k n a := fun x hx => by
  obtain ⟨p, hp, e⟩ := List.mem_iff_getElem.1 hx
  exact h p hp x (by rw [List.getElem?_eq_getElem hp, e])
theorem a134 (P : Program) (T : Nat → Option CFn) (hT : T 134 = some c134) (s : FShop) (js : List FJob) (c t j : AVal) (hc : dInts2 c = some s.chg) (ht : dStops t = some s.stops) (hj : dJobs j = some js) (k a0 n : Int) (hg : oFree0 s.stops a0 n) : Answers P T 134 [.agg [I s.mach, c, t, j], I k, I a0, I n] [] fun v h => frz true h 5 v = some (I (freeT s.stops k n a0)) := by
 have fc := fun H d => dInts2_frz hc H d
 have ft := fun H d => dStops_frz ht H d
 have fj := fun H d => dJobs_frz hj H d
 have rc := fun n d => dInts2_rb hc n d
 have rt := fun n d => dStops_rb ht n d
 have rj := fun n d => dJobs_rb hj n d
 have lc := dInts2_len hc
 have lt := dStops_len ht
 have lj := dJobs_len hj
 obtain ⟨cc1, cc2⟩ := dInts2_cells hc
 obtain ⟨ct1, ct2⟩ := dStops_cells ht
 obtain ⟨cj1, cj2⟩ := dJobs_cells hj
 obtain ⟨ha, hn, hln, hS⟩ := hg
 obtain ⟨M, hM0, hM1, ha0M⟩ : ∃ M : Int, M ≤ 1000000 ∧ 100000 ≤ M ∧ a0 ≤ M := ⟨1000000, by omega, by omega, by omega⟩
 refine answers_of hT (orcF_none rfl) ?_
 simp only [oo, om, op, og, ci, cl, c134]
 have HH1 := zA fc (zA ft (zA fj (zA rc (zA rt (zA rj (zA lc (zA lt (zA lj (zA cc1 (zA cc2 (zA ct1 (zA ct2 (zA cj1 cj2)))))))))))))
 refine zS ?_
 refine zR (zO (by simp [-lenA, HH1]; rfl) ?_)
 simp only [zT, zB]
 refine zS ?_
 refine zS ?_
 refine zR (zO (by simp [-lenA, HH1]; rfl) ?_)
 simp only [zT, zB]
 refine zL ?_
 refine runs_loop_inv (fun m σ => ∃ (a : Int) (mv : Bool), m = 2 * (M - a).toNat + (if mv = true then 1 else 0) ∧ a0 ≤ a ∧ a ≤ M ∧ (∀ u, a0 ≤ u → isFree s.stops k n u → a ≤ u) ∧ (mv = false → isFree s.stops k n a) ∧ σ = ⟨[.any, I k, I a, I n, .ref 0 0 0, .any, .any, .any, .any, .bool mv, .any, .any, .any, .any, .any, .any, .any, .any, .any, .any, .any, .any, .any, .any, .any, .any, .any, .any, .any, .any, .any, .any, .any, .any, .any, .any, .any, .any, .any, .any, .any, .any, .any], [some (.row 4 [[I s.mach, c, t, j]])]⟩) ?_ (2 * (M - a0).toNat + 1) _ ⟨a0, true, rfl, Int.le_refl _, ha0M, fun u h _ => h, by simp, by simp⟩
 rintro m σ ⟨a, mv, rfl, hlo, haM, hlow, hfr, rfl⟩
 refine zS ?_
 refine zS ?_
 refine zR (zO (by simp [-lenA, HH1]; rfl) ?_)
 simp only [zT, zB]
 refine runs_cond_split (x := mv) (by simp) (fun hmv => ?_) (fun hmv => ?_)
 ·subst hmv
  refine zK ?_
  simp only [zT, zB]
  refine zL ?_
  refine zS ?_
  refine zR (zO (by simp [-lenA, HH1]; rfl) ?_)
  simp only [zT, zB]
  refine zS ?_
  refine zR (zO (by simp [-lenA, HH1]; rfl) ?_)
  simp only [zT, zB]
  refine zL ?_
  refine runs_loop_inv (fun m σ => ∃ (p : Nat) (i b : Int) (mv : Bool), i = p ∧ s.stops.length - p = m ∧ p ≤ s.stops.length ∧ a ≤ b ∧ b ≤ M ∧ (∀ u, a0 ≤ u → isFree s.stops k n u → b ≤ u) ∧ (mv = true → a < b) ∧ (mv = false → b = a ∧ ∀ q, q < p → ∀ x, s.stops[q]? = some x → conf k n a x = false) ∧ σ = ⟨[.any, I k, I b, I n, .ref 0 0 0, .any, .any, .any, .any, .bool mv, .any, .any, .any, .any, .any, t, I s.stops.length, I i, .any, .any, .any, .any, .any, .any, .any, .any, .any, .any, .any, .any, .any, .any, .any, .any, .any, .any, .any, .any, .any, .any, .any, .any, .any], [some (.row 4 [[I s.mach, c, t, j]])]⟩) ?_ (s.stops.length - 0) _ ⟨0, 0, a, false, rfl, rfl, Nat.zero_le _, Int.le_refl _, haM, hlow, by simp, (fun _ => ⟨rfl, fun q hq => by omega⟩), by simp⟩
  rintro m σ ⟨p, i, b, mv, hip, rfl, hpl, hab, hbM, hbl, hm1, hm2, rfl⟩
  refine zS ?_
  refine zR (zO (by simp [-lenA, HH1]; rfl) ?_)
  simp only [zT, zB]
  refine zS ?_
  refine runs_cond_split (x := decide (i < (s.stops.length : Int))) (by simp) (fun hlt => ?_) (fun hlt => ?_)
  ·have hlt := of_decide_eq_true hlt
   have hp0 : p < s.stops.length := by omega
   have hi0 : 0 ≤ i := by omega
   have htn : i.toNat = p := by omega
   have hwi : W .i64 (i + 1) = i + 1 := W_small (by omega)
   have hxM := hS _ (List.getElem_mem hp0)
   have hxm := List.getElem_mem hp0
   have hxg : s.stops[p]? = some s.stops[p] := List.getElem?_eq_getElem hp0
   obtain ⟨tt, rfl⟩ := dStops_get ht hp0
   have hwb : W .i64 (b + n) = b + n := W_fit (by omega)
   generalize hX : s.stops[p] = X at *
   obtain ⟨x1, x2, x3⟩ := X
   simp only at hxM
   generalize hA1 : (x1 == k) = A1 at *
   generalize hA2 : decide (b < x3) = A2 at *
   generalize hA3 : decide (x2 < b + n) = A3 at *
   have hcf : conf k n b (x1, x2, x3) = (A1 && A2 && A3) := by unfold conf; simp only; rw [hA1, hA2, hA3]
   rcases A1 with _ | _
   ·have HH2 := zA hi0 (zA htn (zA hp0 (zA hX (zA hwi (zA hwb (zA hA1 (zA hA2 hA3)))))))
    refine zK ?_
    simp only [zT, zB]
    refine zS ?_
    refine zL ?_
    refine zS ?_
    refine zR (zO (by simp [-lenA, HH1, rS3, HH2]; rfl) ?_)
    simp only [zT, zB]
    refine zS ?_
    refine zR (zO (by simp [-lenA, HH1, rS3, HH2]; rfl) ?_)
    simp only [zT, zB]
    refine runs_cond (x := false) (by simp) ?_
    refine zK ?_
    simp only [zT, zB]
    refine zR (zO (by simp [-lenA, HH1, rS3, HH2]; rfl) ?_)
    simp only [zT, zB]
    refine ⟨s.stops.length - (p + 1), by omega, p + 1, i + 1, b, mv, by omega, rfl, by omega, hab, hbM, hbl, hm1, fun hmv => ⟨(hm2 hmv).1, fun q hq x hx => ?_⟩, by simp [trim, -lenA, HH1, rS3, HH2]⟩
    rcases Nat.lt_or_ge q p with h | h
    ·exact (hm2 hmv).2 q h x hx
    ·obtain rfl : q = p := by omega
     rw [hxg] at hx
     cases hx
     rw [← (hm2 hmv).1]
     exact hcf
   ·rcases A2 with _ | _
    ·have HH3 := zA hi0 (zA htn (zA hp0 (zA hX (zA hwi (zA hwb (zA hA1 (zA hA2 hA3)))))))
     refine zK ?_
     simp only [zT, zB]
     refine zS ?_
     refine zL ?_
     refine zS ?_
     refine zR (zO (by simp [-lenA, HH1, rS3, HH3]; rfl) ?_)
     simp only [zT, zB]
     refine zS ?_
     refine zR (zO (by simp [-lenA, HH1, rS3, HH3]; rfl) ?_)
     simp only [zT, zB]
     refine runs_cond (x := false) (by simp) ?_
     refine zK ?_
     simp only [zT, zB]
     refine zR (zO (by simp [-lenA, HH1, rS3, HH3]; rfl) ?_)
     simp only [zT, zB]
     refine ⟨s.stops.length - (p + 1), by omega, p + 1, i + 1, b, mv, by omega, rfl, by omega, hab, hbM, hbl, hm1, fun hmv => ⟨(hm2 hmv).1, fun q hq x hx => ?_⟩, by simp [trim, -lenA, HH1, rS3, HH3]⟩
     rcases Nat.lt_or_ge q p with h | h
     ·exact (hm2 hmv).2 q h x hx
     ·obtain rfl : q = p := by omega
      rw [hxg] at hx
      cases hx
      rw [← (hm2 hmv).1]
      exact hcf
    ·rcases A3 with _ | _
     ·have HH4 := zA hi0 (zA htn (zA hp0 (zA hX (zA hwi (zA hwb (zA hA1 (zA hA2 hA3)))))))
      refine zK ?_
      simp only [zT, zB]
      refine zS ?_
      refine zL ?_
      refine zS ?_
      refine zR (zO (by simp [-lenA, HH1, rS3, HH4]; rfl) ?_)
      simp only [zT, zB]
      refine zS ?_
      refine zR (zO (by simp [-lenA, HH1, rS3, HH4]; rfl) ?_)
      simp only [zT, zB]
      refine runs_cond (x := false) (by simp) ?_
      refine zK ?_
      simp only [zT, zB]
      refine zR (zO (by simp [-lenA, HH1, rS3, HH4]; rfl) ?_)
      simp only [zT, zB]
      refine ⟨s.stops.length - (p + 1), by omega, p + 1, i + 1, b, mv, by omega, rfl, by omega, hab, hbM, hbl, hm1, fun hmv => ⟨(hm2 hmv).1, fun q hq x hx => ?_⟩, by simp [trim, -lenA, HH1, rS3, HH4]⟩
      rcases Nat.lt_or_ge q p with h | h
      ·exact (hm2 hmv).2 q h x hx
      ·obtain rfl : q = p := by omega
       rw [hxg] at hx
       cases hx
       rw [← (hm2 hmv).1]
       exact hcf
     ·have HH5 := zA hi0 (zA htn (zA hp0 (zA hX (zA hwi (zA hwb (zA hA1 (zA hA2 hA3)))))))
      refine zK ?_
      simp only [zT, zB]
      refine zS ?_
      refine zL ?_
      refine zS ?_
      refine zR (zO (by simp [-lenA, HH1, rS3, HH5]; rfl) ?_)
      simp only [zT, zB]
      refine zS ?_
      refine zR (zO (by simp [-lenA, HH1, rS3, HH5]; rfl) ?_)
      simp only [zT, zB]
      refine runs_cond (x := true) (by simp) ?_
      refine zR (zO (by simp [-lenA, HH1, rS3, HH5]; rfl) ?_)
      simp only [zT, zB]
      refine zR (zO (by simp [-lenA, HH1, rS3, HH5]; rfl) ?_)
      simp only [zT, zB]
      have hcf' : conf k n b (x1, x2, x3) = true := hcf
      have hbx : b < x3 := of_decide_eq_true hA2
      refine ⟨s.stops.length - (p + 1), by omega, p + 1, i + 1, x3, true, by omega, rfl, by omega, by omega, by omega, fun u hu hf => ?_, fun _ => by omega, fun h => by simp at h, by simp [trim, -lenA, HH1, rS3, HH5]⟩
      exact conf_until hcf' (hbl u hu hf) (hf _ hxm)
  ·have hlt := of_decide_eq_false hlt
   obtain rfl : p = s.stops.length := by omega
   refine runs_exit ?_
   simp only [zT, zB, if_true, if_false, reduceIte, Nat.reduceEqDiff, Nat.succ_ne_zero, Nat.one_ne_zero, Nat.zero_ne_one]
   rcases mv with _ | _
   ·obtain ⟨rfl, hf⟩ := hm2 rfl
    exact ⟨2 * (M - b).toNat, by omega, b, false, by simp, by omega, hbM, hbl, fun _ => isFree_of hf, by simp [trim, -lenA, HH1]⟩
   ·have := hm1 rfl
    exact ⟨2 * (M - b).toNat + 1, by omega, b, true, by simp, by omega, hbM, hbl, fun h => by simp at h, by simp [trim, -lenA, HH1]⟩
 ·subst hmv
  have e := freeT_eq (st := s.stops) (k := k) (n := n) (a := a0) ⟨hlo, hfr rfl, hlow⟩
  refine runs_exit ?_
  simp only [zT, zB, if_true, if_false, reduceIte, Nat.reduceEqDiff, Nat.succ_ne_zero, Nat.one_ne_zero, Nat.zero_ne_one]
  refine zS ?_
  refine zR (zO (by simp [-lenA, HH1]; rfl) ?_)
  simp only [zT, zB]
  refine runs_ret ?_
  simp [-lenA, HH1, e]
noncomputable def FC1 : Nat → Option CFn := upd FB 134 true (oFree)
theorem FC1_ok : TabOk Tryz.prog GG FC1 := tab_add mixed FB_ok fun args v ho => by
  unfold oFree at ho; split at ho <;> (try simp only [reduceCtorEq] at ho)
  rename_i m c t j k a n
  split at ho <;> (try simp only [reduceCtorEq] at ho)
  rename_i cs ts js hc ht hj
  split at ho <;> (try simp only [reduceCtorEq] at ho)
  rename_i hg
  simp only [Option.some.injEq] at ho
  subst ho
  exact a134 Tryz.prog FB rfl ⟨m, cs, ts⟩ js c t j hc ht hj k a n hg
end
section
attribute [local simp] above callA calleeA frNB_none frNB_row frN_agg frN_bool frN_int frN_nils frN_ref frN_sl frN_tup frN_vl gather getR lop loud lowR norm okG putG putR rbB_none rbB_row resG rowAt takeG
def lineC : FLine → List AVal
  | [] => []
  | x :: l => I x.1 :: I x.2.1 :: .bool x.2.2 :: lineC l
def dLine : List AVal → Option FLine
  | [.int .i64 d0, .int .i64 k0, .bool h0, .int .i64 d1, .int .i64 k1, .bool h1, .int .i64 d2, .int .i64 k2, .bool h2, .int .i64 d3, .int .i64 k3, .bool h3] => some [(d0, k0, h0), (d1, k1, h1), (d2, k2, h2), (d3, k3, h3)]
  | _ => none
theorem dLine_eq {r : List AVal} {l : FLine} (h : dLine r = some l) : r = lineC l ∧ l.length = 4 := by
  unfold dLine at h
  split at h <;> simp at h
  subst h
  exact ⟨rfl, rfl⟩
theorem line4 {l : FLine} (h : l.length = 4) : ∃ d0 k0 h0 d1 k1 h1 d2 k2 h2 d3 k3 h3, l = [(d0, k0, h0), (d1, k1, h1), (d2, k2, h2), (d3, k3, h3)] := by
  rcases l with _ | ⟨⟨a0, a1, a2⟩, _ | ⟨⟨b0, b1, b2⟩, _ | ⟨⟨c0, c1, c2⟩, _ | ⟨⟨e0, e1, e2⟩, _ | ⟨f, l⟩⟩⟩⟩⟩ <;> simp at h
  exact ⟨a0, a1, a2, b0, b1, b2, c0, c1, c2, e0, e1, e2, rfl⟩
structure PassOk (s : FShop) (js : List FJob) (l : FLine) (j : FJob) : Prop where
  shop : ShopOk s js
  line : LineOk s 200000 l
  kind : 0 ≤ j.kind ∧ j.kind < s.chg.length
  ready : 0 ≤ j.ready ∧ j.ready ≤ 200000
  mins : (j.mins.length : Int) = s.mach
  each : ∀ n ∈ j.mins, 0 ≤ n ∧ n ≤ 10000
theorem chgAt_get {s : FShop} {js : List FJob} {c : AVal} (h : ShopOk s js) (hc : dInts2 c = some s.chg) {a b : Int} (ha : 0 ≤ a ∧ a < s.chg.length) (hb : 0 ≤ b ∧ b < s.chg.length) :
    ∃ (rs : List (List AVal)) (t : Bool) (row : List Int) (t' : Bool), c = .vl rs t ∧ a.toNat < rs.length ∧ rs[a.toNat]? = some [.vl (row.map rI) t'] ∧ b.toNat < row.length ∧ row[b.toNat]? = some (chgAt s a b) := by
  have hka : a.toNat < s.chg.length := by omega
  obtain ⟨rs, t, w, rfl, hl, hr, hw⟩ := dInts2_get hc hka
  have hlen := (h.chg _ (List.getElem_mem hka)).1
  have hkb : b.toNat < s.chg[a.toNat].length := by omega
  obtain ⟨t', rfl⟩ := dInts_get hw hkb
  refine ⟨rs, t, s.chg[a.toNat], t', rfl, by omega, hr, hkb, ?_⟩
  unfold chgAt
  rw [List.getD_eq_getElem?_getD, List.getD_eq_getElem?_getD, List.getElem?_eq_getElem hka, Option.getD_some, List.getElem?_eq_getElem hkb]
  rfl
open Classical in
noncomputable def sPass : List AVal → Heap → Option (AVal × Heap)
  | [.agg [.int .i64 m, c, t, j], .ref 0 0 0, .agg [.int .i64 kd, .int .i64 rd, .int .i64 du, v]], [some (.row 12 [r])] => match dInts2 c, dStops t, dJobs j, dInts v, dLine r with
    | some cs, some ts, some js, some ms, some l => if PassOk ⟨m, cs, ts⟩ js l ⟨kd, rd, du, ms⟩ then
        some (.tup [.vl ((passF ⟨m, cs, ts⟩ l ⟨kd, rd, du, ms⟩).1.map rI) false, I (passF ⟨m, cs, ts⟩ l ⟨kd, rd, du, ms⟩).2.1], [some (.row 12 [lineC (passF ⟨m, cs, ts⟩ l ⟨kd, rd, du, ms⟩).2.2])]) else none
    | _, _, _, _, _ => none
  | _, _ => none
theorem startF_zero {s : FShop} {kind : Int} {l : FLine} {k : Nat} {n t : Int} (h : ¬ 0 < n) : startF s kind l k n t = t := by unfold startF; rw [if_neg h]
theorem startF_had {s : FShop} {kind : Int} {l : FLine} {k : Nat} {n t d kd : Int} (h : 0 < n) (hl : l[k]? = some (d, kd, true)) : startF s kind l k n t = freeT s.stops k n (max t (d + chgAt s kd kind)) := by
  unfold startF; rw [if_pos h, List.getD_eq_getElem?_getD, hl]; rfl
theorem startF_new {s : FShop} {kind : Int} {l : FLine} {k : Nat} {n t d kd : Int} (h : 0 < n) (hl : l[k]? = some (d, kd, false)) : startF s kind l k n t = freeT s.stops k n t := by
  unfold startF; rw [if_pos h, List.getD_eq_getElem?_getD, hl]; rfl
theorem a102 (P : Program) (T : Nat → Option CFn) (hT : T 102 = some { c102 with body := annK [(229738, [.slot 6])] [] c102.body }) (h134 : T 134 = some { c134 with frsh := true, orc := oFree }) (s : FShop) (js : List FJob) (c t j : AVal) (hc : dInts2 c = some s.chg) (ht : dStops t = some s.stops) (hj : dJobs j = some js) (kd rd du : Int) (v : AVal) (ms : List Int) (l : FLine) (hv : dInts v = some ms) (hg : PassOk s js l ⟨kd, rd, du, ms⟩) :
  Answers P T 102 [.agg [I s.mach, c, t, j], .ref 0 0 0, .agg [I kd, I rd, I du, v]] [some (.row 12 [lineC l])] fun v1 h1 => norm 1 v1 h1 = some (.tup [.vl ((passF s l ⟨kd, rd, du, ms⟩).1.map rI) false, I (passF s l ⟨kd, rd, du, ms⟩).2.1], [some (.row 12 [lineC (passF s l ⟨kd, rd, du, ms⟩).2.2])]) := by
 have fc := fun H d => dInts2_frz hc H d
 have ft := fun H d => dStops_frz ht H d
 have fj := fun H d => dJobs_frz hj H d
 have rc := fun n d => dInts2_rb hc n d
 have rt := fun n d => dStops_rb ht n d
 have rj := fun n d => dJobs_rb hj n d
 have lc := dInts2_len hc
 have lt := dStops_len ht
 have lj := dJobs_len hj
 obtain ⟨cc1, cc2⟩ := dInts2_cells hc
 obtain ⟨ct1, ct2⟩ := dStops_cells ht
 obtain ⟨cj1, cj2⟩ := dJobs_cells hj
 have fv := fun H d => dInts_frz hv H d
 have rv := fun n d => dInts_rb hv n d
 have lv := dInts_len hv
 obtain ⟨cv1, cv2⟩ := dInts_cells hv
 obtain ⟨hsh, hln, hkd, hrd, hml, hmn⟩ := hg
 have hm4 : ms.length ≤ 4 := by have := hsh.mach; simp only at hml; omega
 have hm1 : 1 ≤ ms.length := by have := hsh.mach; simp only at hml; omega
 simp only at hkd hrd hmn
 have hS0 : ∀ x ∈ s.stops, x.2.2 ≤ 100000 := fun x hx => (hsh.stop x hx).2.2.1.2
 obtain ⟨S, hSe⟩ : ∃ S, (passGo s kd ms 0 rd l).1 = S := ⟨_, rfl⟩
 obtain ⟨E, hEe⟩ : ∃ E, (passGo s kd ms 0 rd l).2.1 = E := ⟨_, rfl⟩
 obtain ⟨F, hFe⟩ : ∃ F, (passGo s kd ms 0 rd l).2.2 = F := ⟨_, rfl⟩
 obtain ⟨d0, k0, h0, d1, k1, h1, d2, k2, h2, d3, k3, h3, rfl⟩ := line4 hln.len
 have hpF : passF s [(d0, k0, h0), (d1, k1, h1), (d2, k2, h2), (d3, k3, h3)] ⟨kd, rd, du, ms⟩ = (S, E, F) := by unfold passF; simp only; rw [← hSe, ← hEe, ← hFe]
 rw [hpF]
 simp only [lineC]
 refine answers_of hT (orcF_none rfl) ?_
 simp only [oo, om, op, og, ci, cl, c102, annK, lkG, lkR, reduceIte, Nat.reduceEqDiff, reduceCtorEq, List.cons.injEq, and_true, and_false, false_and, true_and]
 have HH1 := zA h134 (zA fc (zA ft (zA fj (zA rc (zA rt (zA rj (zA lc (zA lt (zA lj (zA cc1 (zA cc2 (zA ct1 (zA ct2 (zA cj1 (zA cj2 (zA fv (zA rv (zA lv (zA cv1 cv2)))))))))))))))))))
 refine zS ?_
 refine zR (zO (by simp [zC h134, -lenA, HH1]; rfl) ?_)
 simp only [zT, zB]
 refine zS ?_
 refine zR (zO (by simp [zC h134, -lenA, HH1]; rfl) ?_)
 simp only [zT, zB]
 refine zS ?_
 refine zS ?_
 refine zR (zO (by simp [zC h134, -lenA, HH1]; rfl) ?_)
 simp only [zT, zB]
 refine zL ?_
 refine runs_loopG_inv (fun mm σ => ∃ (p : Nat) (tt : Int) (acc : List Int) (d0 k0 d1 k1 d2 k2 d3 k3 : Int) (h0 h1 h2 h3 : Bool), ms.length - p = mm ∧ p ≤ ms.length ∧ LineOk s (200000 + 10500 * (p : Int)) [(d0, k0, h0), (d1, k1, h1), (d2, k2, h2), (d3, k3, h3)] ∧ (0 ≤ tt ∧ tt ≤ 200000 + 10500 * (p : Int)) ∧ S = acc ++ (passGo s kd (ms.drop p) p tt [(d0, k0, h0), (d1, k1, h1), (d2, k2, h2), (d3, k3, h3)]).1 ∧ (passGo s kd (ms.drop p) p tt [(d0, k0, h0), (d1, k1, h1), (d2, k2, h2), (d3, k3, h3)]).2 = (E, F) ∧ ((p = 0 ∧ acc = [] ∧ σ = ⟨[.any, .ref 0 0 0, .any, .ref 1 0 0, .any, .ref 2 0 0, .nils, .any, I tt, .any, .any, .any, .any, .any, .any, v, I ms.length, I 0, .any, .any, .any, .any, .any, .any, .any, .any, .any, .any, .any, .any, .any, .any, .any, .any, .any, .any, .any, .any, .any, .any, .any, .any, .any, .any, .any, .any, .any, .any, .any, .any, .any, .any, .any, .any, .any, .any, .any, .any, .any, .any, .any, .any, .any, .any, .any, .any, .any, .any, .any, .any, .any, .any, .any, .any, .any, .any, .any, .any, .any, .any, .any, .any, .any, .any, .any, .any, .any], [some (.row 12 [[I d0, I k0, .bool h0, I d1, I k1, .bool h1, I d2, I k2, .bool h2, I d3, I k3, .bool h3]]), some (.row 4 [[I s.mach, c, t, j]]), some (.row 4 [[I kd, I rd, I du, v]]), none]⟩) ∨ (p = 1 ∧ ∃ a0 : Int, acc = [a0] ∧ σ = ⟨[.any, .ref 0 0 0, .any, .ref 1 0 0, .any, .ref 2 0 0, .sl 3 0 1 false, .any, I tt, .any, .any, .any, .any, .any, .any, v, I ms.length, I 1, .any, .any, .any, .any, .any, .any, .any, .any, .any, .any, .any, .any, .any, .any, .any, .any, .any, .any, .any, .any, .any, .any, .any, .any, .any, .any, .any, .any, .any, .any, .any, .any, .any, .any, .any, .any, .any, .any, .any, .any, .any, .any, .any, .any, .any, .any, .any, .any, .any, .any, .any, .any, .any, .any, .any, .any, .any, .any, .any, .any, .any, .any, .any, .any, .any, .any, .any, .any, .any], [some (.row 12 [[I d0, I k0, .bool h0, I d1, I k1, .bool h1, I d2, I k2, .bool h2, I d3, I k3, .bool h3]]), some (.row 4 [[I s.mach, c, t, j]]), some (.row 4 [[I kd, I rd, I du, v]]), some (.row 1 [[I a0]])]⟩) ∨ (p = 2 ∧ ∃ a0 a1 : Int, acc = [a0, a1] ∧ σ = ⟨[.any, .ref 0 0 0, .any, .ref 1 0 0, .any, .ref 2 0 0, .sl 3 0 2 false, .any, I tt, .any, .any, .any, .any, .any, .any, v, I ms.length, I 2, .any, .any, .any, .any, .any, .any, .any, .any, .any, .any, .any, .any, .any, .any, .any, .any, .any, .any, .any, .any, .any, .any, .any, .any, .any, .any, .any, .any, .any, .any, .any, .any, .any, .any, .any, .any, .any, .any, .any, .any, .any, .any, .any, .any, .any, .any, .any, .any, .any, .any, .any, .any, .any, .any, .any, .any, .any, .any, .any, .any, .any, .any, .any, .any, .any, .any, .any, .any, .any], [some (.row 12 [[I d0, I k0, .bool h0, I d1, I k1, .bool h1, I d2, I k2, .bool h2, I d3, I k3, .bool h3]]), some (.row 4 [[I s.mach, c, t, j]]), some (.row 4 [[I kd, I rd, I du, v]]), some (.row 1 [[I a0], [I a1]])]⟩) ∨ (p = 3 ∧ ∃ a0 a1 a2 : Int, acc = [a0, a1, a2] ∧ σ = ⟨[.any, .ref 0 0 0, .any, .ref 1 0 0, .any, .ref 2 0 0, .sl 3 0 3 false, .any, I tt, .any, .any, .any, .any, .any, .any, v, I ms.length, I 3, .any, .any, .any, .any, .any, .any, .any, .any, .any, .any, .any, .any, .any, .any, .any, .any, .any, .any, .any, .any, .any, .any, .any, .any, .any, .any, .any, .any, .any, .any, .any, .any, .any, .any, .any, .any, .any, .any, .any, .any, .any, .any, .any, .any, .any, .any, .any, .any, .any, .any, .any, .any, .any, .any, .any, .any, .any, .any, .any, .any, .any, .any, .any, .any, .any, .any, .any, .any, .any], [some (.row 12 [[I d0, I k0, .bool h0, I d1, I k1, .bool h1, I d2, I k2, .bool h2, I d3, I k3, .bool h3]]), some (.row 4 [[I s.mach, c, t, j]]), some (.row 4 [[I kd, I rd, I du, v]]), some (.row 1 [[I a0], [I a1], [I a2]])]⟩) ∨ (p = 4 ∧ ∃ a0 a1 a2 a3 : Int, acc = [a0, a1, a2, a3] ∧ σ = ⟨[.any, .ref 0 0 0, .any, .ref 1 0 0, .any, .ref 2 0 0, .sl 3 0 4 false, .any, I tt, .any, .any, .any, .any, .any, .any, v, I ms.length, I 4, .any, .any, .any, .any, .any, .any, .any, .any, .any, .any, .any, .any, .any, .any, .any, .any, .any, .any, .any, .any, .any, .any, .any, .any, .any, .any, .any, .any, .any, .any, .any, .any, .any, .any, .any, .any, .any, .any, .any, .any, .any, .any, .any, .any, .any, .any, .any, .any, .any, .any, .any, .any, .any, .any, .any, .any, .any, .any, .any, .any, .any, .any, .any, .any, .any, .any, .any, .any, .any], [some (.row 12 [[I d0, I k0, .bool h0, I d1, I k1, .bool h1, I d2, I k2, .bool h2, I d3, I k3, .bool h3]]), some (.row 4 [[I s.mach, c, t, j]]), some (.row 4 [[I kd, I rd, I du, v]]), some (.row 1 [[I a0], [I a1], [I a2], [I a3]])]⟩))) (by simp [zC h134, -lenA, HH1] <;> first | exact ⟨rfl, rfl⟩ | rfl) (⟨0, rd, [], d0, k0, d1, k1, d2, k2, d3, k3, h0, h1, h2, h3, rfl, Nat.zero_le _, hln.mono (by omega), by omega, by simpa using hSe.symm, by rw [List.drop_zero, ← hEe, ← hFe], .inl ⟨rfl, rfl, rfl⟩⟩) ?_
 intro mm σ hI
 obtain ⟨p, hI⟩ := hI
 obtain ⟨tt, hI⟩ := hI
 obtain ⟨acc, hI⟩ := hI
 obtain ⟨d0, k0, d1, k1, d2, k2, d3, k3, hI⟩ := hI
 obtain ⟨h0, h1, h2, h3, hI⟩ := hI
 obtain ⟨hmm, hpl, hlo, htt, hS, hE, hd⟩ := hI
 rcases hd with hd | hd | hd | hd | hd
 ·obtain ⟨hp, ha, hσ⟩ := hd
  subst hp
  subst ha
  subst hσ
  subst hmm
  refine zS ?_
  refine zR (zO (by simp [zC h134, -lenA, HH1]; rfl) ?_)
  simp only [zT, zB]
  refine zS ?_
  refine runs_cond_split (x := decide ((0 : Int) < (ms.length : Int))) (by simp) (fun hlt => ?_) (fun hlt => ?_)
  ·have hlt := of_decide_eq_true hlt
   have hp0 : 0 < ms.length := by omega
   obtain ⟨tv, rfl⟩ := dInts_get hv hp0
   rw [List.drop_eq_getElem_cons hp0] at hS hE
   have hnn := hmn _ (List.getElem_mem hp0)
   have hN' : (ms.map rI)[0]? = some [I ms[0]] := by rw [List.getElem?_map, List.getElem?_eq_getElem hp0]; rfl
   have hN2 : ∀ h, (ms.map rI)[0]'h = [I ms[0]] := fun h => by rw [List.getElem_map]; rfl
   generalize ms[0] = n at *
   simp only [passGo] at hS hE
   have hsb := startF_bd hsh (by omega) hlo kd 0 n tt htt
   have hgl : ([(d0, k0, h0), (d1, k1, h1), (d2, k2, h2), (d3, k3, h3)] : FLine)[0]? = some (d0, k0, h0) := rfl
   have hxl := hlo.at' (d0, k0, h0) (by simp)
   simp only at hxl
   have hkb : 0 ≤ k0 ∧ k0 < (s.chg.length : Int) := by have := hsh.kinds; omega
   have hst0 : ∀ h : ¬ 0 < n, startF s kd [(d0, k0, h0), (d1, k1, h1), (d2, k2, h2), (d3, k3, h3)] 0 n tt = tt := fun h => startF_zero h
   have hst1 : ∀ h : 0 < n, h0 = true → startF s kd [(d0, k0, h0), (d1, k1, h1), (d2, k2, h2), (d3, k3, h3)] 0 n tt = freeT s.stops 0 n (max tt (d0 + chgAt s k0 kd)) := fun h e => startF_had h (by rw [hgl, e])
   have hst2 : ∀ h : 0 < n, h0 = false → startF s kd [(d0, k0, h0), (d1, k1, h1), (d2, k2, h2), (d3, k3, h3)] 0 n tt = freeT s.stops 0 n tt := fun h e => startF_new h (by rw [hgl, e])
   generalize startF s kd [(d0, k0, h0), (d1, k1, h1), (d2, k2, h2), (d3, k3, h3)] 0 n tt = st at *
   have wst : W .i64 (st + n) = st + n := W_fit (by omega)
   have wi : W .i64 1 = 1 := by decide
   generalize hA0 : decide (0 < n) = A0 at *
   have HH2 := zA hp0 (zA hN' (zA hN2 (zA wi hA0)))
   refine zK ?_
   simp only [zT, zB]
   refine zS ?_
   refine zL ?_
   refine zS ?_
   refine zR (zO (by simp [zC h134, -lenA, HH1, wst, HH2]; rfl) ?_)
   simp only [zT, zB]
   refine zS ?_
   refine zS ?_
   refine zR (zO (by simp [zC h134, -lenA, HH1, wst, HH2]; rfl) ?_)
   simp only [zT, zB]
   rcases A0 with _ | _
   ·have hn : ¬ 0 < n := of_decide_eq_false hA0
    have hst := hst0 hn
    rw [hst] at hS hE hsb wst
    refine runs_cond (x := false) (by simp) ?_
    refine zK ?_
    simp only [zT, zB]
    refine zS ?_
    refine zR (zO (by simp [zC h134, -lenA, HH1, wst, HH2]; rfl) ?_)
    simp only [zT, zB]
    refine zR (zO (by simp [zC h134, -lenA, HH1, wst, HH2]; rfl) ?_)
    simp only [zT, zB]
    refine zR (zO (by simp [zC h134, -lenA, HH1, wst, HH2]; rfl) ?_)
    simp only [zT, zB]
    refine ⟨ms.length - 1, _, _, by omega, by simp [zC h134, -lenA, HH1, wst, HH2] <;> rfl, 1, tt + n, _, d0, k0, d1, k1, d2, k2, d3, k3, h0, h1, h2, h3, rfl, by omega, ?_, by omega, ?_, ?_, .inr (.inl ⟨rfl, tt, rfl, rfl⟩)⟩
    ·exact ⟨rfl, fun x hx => by
      simp only [List.mem_cons, List.not_mem_nil, or_false] at hx
      rcases hx with rfl | rfl | rfl | rfl
      ·exact (hlo.mono (by omega)).at' (d0, k0, h0) (by simp)
      ·exact (hlo.mono (by omega)).at' (d1, k1, h1) (by simp)
      ·exact (hlo.mono (by omega)).at' (d2, k2, h2) (by simp)
      ·exact (hlo.mono (by omega)).at' (d3, k3, h3) (by simp)⟩
    ·rw [if_neg hn] at hS
     rw [hS]; simp
    ·rw [if_neg hn] at hE
     exact hE
   ·have hn : 0 < n := of_decide_eq_true hA0
    refine runs_cond (x := true) (by simp) ?_
    refine zS ?_
    refine zS ?_
    refine zR (zO (by simp [zC h134, -lenA, HH1, wst, HH2]; rfl) ?_)
    simp only [zT, zB]
    refine zS ?_
    refine zR (zO (by simp [zC h134, -lenA, HH1, wst, HH2]; rfl) ?_)
    simp only [zT, zB]
    rcases h0 with _ | _
    ·have hst := hst2 hn rfl
     have hof : oFree [.agg [I s.mach, c, t, j], I 0, I tt, I n] = some (I st) := by
      simp only [oFree, hc, ht, hj]
      rw [if_pos ⟨by omega, by omega, by have := hsh.nst; omega, hS0⟩, hst]
     refine runs_cond (x := false) (by simp) ?_
     refine zK ?_
     simp only [zT, zB]
     refine zS ?_
     refine zR (zO (by simp [zC h134, -lenA, HH1, wst, HH2, hof]; rfl) ?_)
     simp only [zT, zB]
     refine runs_drw (by simp (maxSteps := 3000000) [zC h134, -lenA, HH1, wst, HH2, hof]; rfl) ?_
     simp only [zT, zB]
     refine zS ?_
     refine zR (zO (by simp [zC h134, -lenA, HH1, wst, HH2, hof]; rfl) ?_)
     simp only [zT, zB]
     refine zR (zO (by simp [zC h134, -lenA, HH1, wst, HH2, hof]; rfl) ?_)
     simp only [zT, zB]
     refine zR (zO (by simp [zC h134, -lenA, HH1, wst, HH2, hof]; rfl) ?_)
     simp only [zT, zB]
     refine ⟨ms.length - 1, _, _, by omega, by simp [zC h134, -lenA, HH1, wst, HH2, hof] <;> rfl, 1, st + n, _, st + n, kd, d1, k1, d2, k2, d3, k3, true, h1, h2, h3, rfl, by omega, ?_, by omega, ?_, ?_, .inr (.inl ⟨rfl, st, rfl, rfl⟩)⟩
     ·exact ⟨rfl, fun x hx => by
       simp only [List.mem_cons, List.not_mem_nil, or_false] at hx
       rcases hx with rfl | rfl | rfl | rfl
       ·simp only; omega
       ·exact (hlo.mono (by omega)).at' (d1, k1, h1) (by simp)
       ·exact (hlo.mono (by omega)).at' (d2, k2, h2) (by simp)
       ·exact (hlo.mono (by omega)).at' (d3, k3, h3) (by simp)⟩
     ·rw [if_pos hn] at hS
      rw [hS]; simp
     ·rw [if_pos hn] at hE
      exact hE
    ·have hst := hst1 hn rfl
     obtain ⟨rs, tr, row, tw, rfl, hr1, hr2, hr3, hr4⟩ := chgAt_get hsh hc hkb hkd
     have hcb := chgAt_bd hsh k0 kd
     generalize chgAt s k0 kd = V at *
     have hr2' : ∀ h, rs[k0.toNat]'h = [.vl (row.map rI) tw] := fun h => by rw [List.getElem?_eq_getElem h] at hr2; exact Option.some.inj hr2
     have hr4' : ∀ h, row[kd.toNat]'h = V := fun h => by rw [List.getElem?_eq_getElem h] at hr4; exact Option.some.inj hr4
     have wd : W .i64 (d0 + V) = d0 + V := W_fit (by omega)
     have hof : oFree [.agg [I s.mach, .vl rs tr, t, j], I 0, I (max tt (d0 + V)), I n] = some (I st) := by
      simp only [oFree, hc, ht, hj]
      rw [if_pos ⟨by omega, by omega, by have := hsh.nst; omega, hS0⟩, hst]
     have hkb1 := hkb.1
     have hkd1 := hkd.1
     refine runs_cond (x := true) (by simp) ?_
     have HH3 := zA hr1 (zA hr2 (zA hr2' (zA hr3 (zA hr4 (zA hr4' (zA wd (zA hof (zA hkb1 hkd1))))))))
     refine runs_drw (by simp (maxSteps := 3000000) [zC h134, -lenA, HH1, wst, HH2, rI, HH3]; rfl) ?_
     simp only [zT, zB]
     refine zS ?_
     refine zR (zO (by simp [zC h134, -lenA, HH1, wst, HH2, rI, HH3]; rfl) ?_)
     simp only [zT, zB]
     refine runs_drw (by simp (maxSteps := 3000000) [zC h134, -lenA, HH1, wst, HH2, rI, HH3]; rfl) ?_
     simp only [zT, zB]
     refine zS ?_
     refine zR (zO (by simp [zC h134, -lenA, HH1, wst, HH2, rI, HH3]; rfl) ?_)
     simp only [zT, zB]
     refine zR (zO (by simp [zC h134, -lenA, HH1, wst, HH2, rI, HH3]; rfl) ?_)
     simp only [zT, zB]
     refine zR (zO (by simp [zC h134, -lenA, HH1, wst, HH2, rI, HH3]; rfl) ?_)
     simp only [zT, zB]
     refine ⟨ms.length - 1, _, _, by omega, by simp [zC h134, -lenA, HH1, wst, HH2, rI, HH3] <;> rfl, 1, st + n, _, st + n, kd, d1, k1, d2, k2, d3, k3, true, h1, h2, h3, rfl, by omega, ?_, by omega, ?_, ?_, .inr (.inl ⟨rfl, st, rfl, rfl⟩)⟩
     ·exact ⟨rfl, fun x hx => by
       simp only [List.mem_cons, List.not_mem_nil, or_false] at hx
       rcases hx with rfl | rfl | rfl | rfl
       ·simp only; omega
       ·exact (hlo.mono (by omega)).at' (d1, k1, h1) (by simp)
       ·exact (hlo.mono (by omega)).at' (d2, k2, h2) (by simp)
       ·exact (hlo.mono (by omega)).at' (d3, k3, h3) (by simp)⟩
     ·rw [if_pos hn] at hS
      rw [hS]; simp
     ·rw [if_pos hn] at hE
      exact hE
  ·have hlt := of_decide_eq_false hlt
   omega
 ·obtain ⟨hp, a0, ha, hσ⟩ := hd
  subst hp
  subst ha
  subst hσ
  subst hmm
  refine zS ?_
  refine zR (zO (by simp [zC h134, -lenA, HH1]; rfl) ?_)
  simp only [zT, zB]
  refine zS ?_
  refine runs_cond_split (x := decide ((1 : Int) < (ms.length : Int))) (by simp) (fun hlt => ?_) (fun hlt => ?_)
  ·have hlt := of_decide_eq_true hlt
   have hp0 : 1 < ms.length := by omega
   obtain ⟨tv, rfl⟩ := dInts_get hv hp0
   rw [List.drop_eq_getElem_cons hp0] at hS hE
   have hnn := hmn _ (List.getElem_mem hp0)
   have hN' : (ms.map rI)[1]? = some [I ms[1]] := by rw [List.getElem?_map, List.getElem?_eq_getElem hp0]; rfl
   have hN2 : ∀ h, (ms.map rI)[1]'h = [I ms[1]] := fun h => by rw [List.getElem_map]; rfl
   generalize ms[1] = n at *
   simp only [passGo] at hS hE
   have hsb := startF_bd hsh (by omega) hlo kd 1 n tt htt
   have hgl : ([(d0, k0, h0), (d1, k1, h1), (d2, k2, h2), (d3, k3, h3)] : FLine)[1]? = some (d1, k1, h1) := rfl
   have hxl := hlo.at' (d1, k1, h1) (by simp)
   simp only at hxl
   have hkb : 0 ≤ k1 ∧ k1 < (s.chg.length : Int) := by have := hsh.kinds; omega
   have hst0 : ∀ h : ¬ 0 < n, startF s kd [(d0, k0, h0), (d1, k1, h1), (d2, k2, h2), (d3, k3, h3)] 1 n tt = tt := fun h => startF_zero h
   have hst1 : ∀ h : 0 < n, h1 = true → startF s kd [(d0, k0, h0), (d1, k1, h1), (d2, k2, h2), (d3, k3, h3)] 1 n tt = freeT s.stops 1 n (max tt (d1 + chgAt s k1 kd)) := fun h e => startF_had h (by rw [hgl, e])
   have hst2 : ∀ h : 0 < n, h1 = false → startF s kd [(d0, k0, h0), (d1, k1, h1), (d2, k2, h2), (d3, k3, h3)] 1 n tt = freeT s.stops 1 n tt := fun h e => startF_new h (by rw [hgl, e])
   generalize startF s kd [(d0, k0, h0), (d1, k1, h1), (d2, k2, h2), (d3, k3, h3)] 1 n tt = st at *
   have wst : W .i64 (st + n) = st + n := W_fit (by omega)
   have wi : W .i64 2 = 2 := by decide
   generalize hA0 : decide (0 < n) = A0 at *
   have HH4 := zA hp0 (zA hN' (zA hN2 (zA wi hA0)))
   refine zK ?_
   simp only [zT, zB]
   refine zS ?_
   refine zL ?_
   refine zS ?_
   refine zR (zO (by simp [zC h134, -lenA, HH1, wst, HH4]; rfl) ?_)
   simp only [zT, zB]
   refine zS ?_
   refine zS ?_
   refine zR (zO (by simp [zC h134, -lenA, HH1, wst, HH4]; rfl) ?_)
   simp only [zT, zB]
   rcases A0 with _ | _
   ·have hn : ¬ 0 < n := of_decide_eq_false hA0
    have hst := hst0 hn
    rw [hst] at hS hE hsb wst
    refine runs_cond (x := false) (by simp) ?_
    refine zK ?_
    simp only [zT, zB]
    refine zS ?_
    refine zR (zO (by simp [zC h134, -lenA, HH1, wst, HH4]; rfl) ?_)
    simp only [zT, zB]
    refine zR (zO (by simp [zC h134, -lenA, HH1, wst, HH4]; rfl) ?_)
    simp only [zT, zB]
    refine zR (zO (by simp [zC h134, -lenA, HH1, wst, HH4]; rfl) ?_)
    simp only [zT, zB]
    refine ⟨ms.length - 2, _, _, by omega, by simp [zC h134, -lenA, HH1, wst, HH4] <;> rfl, 2, tt + n, _, d0, k0, d1, k1, d2, k2, d3, k3, h0, h1, h2, h3, rfl, by omega, ?_, by omega, ?_, ?_, .inr (.inr (.inl ⟨rfl, a0, tt, rfl, rfl⟩))⟩
    ·exact ⟨rfl, fun x hx => by
      simp only [List.mem_cons, List.not_mem_nil, or_false] at hx
      rcases hx with rfl | rfl | rfl | rfl
      ·exact (hlo.mono (by omega)).at' (d0, k0, h0) (by simp)
      ·exact (hlo.mono (by omega)).at' (d1, k1, h1) (by simp)
      ·exact (hlo.mono (by omega)).at' (d2, k2, h2) (by simp)
      ·exact (hlo.mono (by omega)).at' (d3, k3, h3) (by simp)⟩
    ·rw [if_neg hn] at hS
     rw [hS]; simp
    ·rw [if_neg hn] at hE
     exact hE
   ·have hn : 0 < n := of_decide_eq_true hA0
    refine runs_cond (x := true) (by simp) ?_
    refine zS ?_
    refine zS ?_
    refine zR (zO (by simp [zC h134, -lenA, HH1, wst, HH4]; rfl) ?_)
    simp only [zT, zB]
    refine zS ?_
    refine zR (zO (by simp [zC h134, -lenA, HH1, wst, HH4]; rfl) ?_)
    simp only [zT, zB]
    rcases h1 with _ | _
    ·have hst := hst2 hn rfl
     have hof : oFree [.agg [I s.mach, c, t, j], I 1, I tt, I n] = some (I st) := by
      simp only [oFree, hc, ht, hj]
      rw [if_pos ⟨by omega, by omega, by have := hsh.nst; omega, hS0⟩, hst]
     refine runs_cond (x := false) (by simp) ?_
     refine zK ?_
     simp only [zT, zB]
     refine zS ?_
     refine zR (zO (by simp [zC h134, -lenA, HH1, wst, HH4, hof]; rfl) ?_)
     simp only [zT, zB]
     refine runs_drw (by simp (maxSteps := 3000000) [zC h134, -lenA, HH1, wst, HH4, hof]; rfl) ?_
     simp only [zT, zB]
     refine zS ?_
     refine zR (zO (by simp [zC h134, -lenA, HH1, wst, HH4, hof]; rfl) ?_)
     simp only [zT, zB]
     refine zR (zO (by simp [zC h134, -lenA, HH1, wst, HH4, hof]; rfl) ?_)
     simp only [zT, zB]
     refine zR (zO (by simp [zC h134, -lenA, HH1, wst, HH4, hof]; rfl) ?_)
     simp only [zT, zB]
     refine ⟨ms.length - 2, _, _, by omega, by simp [zC h134, -lenA, HH1, wst, HH4, hof] <;> rfl, 2, st + n, _, d0, k0, st + n, kd, d2, k2, d3, k3, h0, true, h2, h3, rfl, by omega, ?_, by omega, ?_, ?_, .inr (.inr (.inl ⟨rfl, a0, st, rfl, rfl⟩))⟩
     ·exact ⟨rfl, fun x hx => by
       simp only [List.mem_cons, List.not_mem_nil, or_false] at hx
       rcases hx with rfl | rfl | rfl | rfl
       ·exact (hlo.mono (by omega)).at' (d0, k0, h0) (by simp)
       ·simp only; omega
       ·exact (hlo.mono (by omega)).at' (d2, k2, h2) (by simp)
       ·exact (hlo.mono (by omega)).at' (d3, k3, h3) (by simp)⟩
     ·rw [if_pos hn] at hS
      rw [hS]; simp
     ·rw [if_pos hn] at hE
      exact hE
    ·have hst := hst1 hn rfl
     obtain ⟨rs, tr, row, tw, rfl, hr1, hr2, hr3, hr4⟩ := chgAt_get hsh hc hkb hkd
     have hcb := chgAt_bd hsh k1 kd
     generalize chgAt s k1 kd = V at *
     have hr2' : ∀ h, rs[k1.toNat]'h = [.vl (row.map rI) tw] := fun h => by rw [List.getElem?_eq_getElem h] at hr2; exact Option.some.inj hr2
     have hr4' : ∀ h, row[kd.toNat]'h = V := fun h => by rw [List.getElem?_eq_getElem h] at hr4; exact Option.some.inj hr4
     have wd : W .i64 (d1 + V) = d1 + V := W_fit (by omega)
     have hof : oFree [.agg [I s.mach, .vl rs tr, t, j], I 1, I (max tt (d1 + V)), I n] = some (I st) := by
      simp only [oFree, hc, ht, hj]
      rw [if_pos ⟨by omega, by omega, by have := hsh.nst; omega, hS0⟩, hst]
     have hkb1 := hkb.1
     have hkd1 := hkd.1
     refine runs_cond (x := true) (by simp) ?_
     have HH5 := zA hr1 (zA hr2 (zA hr2' (zA hr3 (zA hr4 (zA hr4' (zA wd (zA hof (zA hkb1 hkd1))))))))
     refine runs_drw (by simp (maxSteps := 3000000) [zC h134, -lenA, HH1, wst, HH4, rI, HH5]; rfl) ?_
     simp only [zT, zB]
     refine zS ?_
     refine zR (zO (by simp [zC h134, -lenA, HH1, wst, HH4, rI, HH5]; rfl) ?_)
     simp only [zT, zB]
     refine runs_drw (by simp (maxSteps := 3000000) [zC h134, -lenA, HH1, wst, HH4, rI, HH5]; rfl) ?_
     simp only [zT, zB]
     refine zS ?_
     refine zR (zO (by simp [zC h134, -lenA, HH1, wst, HH4, rI, HH5]; rfl) ?_)
     simp only [zT, zB]
     refine zR (zO (by simp [zC h134, -lenA, HH1, wst, HH4, rI, HH5]; rfl) ?_)
     simp only [zT, zB]
     refine zR (zO (by simp [zC h134, -lenA, HH1, wst, HH4, rI, HH5]; rfl) ?_)
     simp only [zT, zB]
     refine ⟨ms.length - 2, _, _, by omega, by simp [zC h134, -lenA, HH1, wst, HH4, rI, HH5] <;> rfl, 2, st + n, _, d0, k0, st + n, kd, d2, k2, d3, k3, h0, true, h2, h3, rfl, by omega, ?_, by omega, ?_, ?_, .inr (.inr (.inl ⟨rfl, a0, st, rfl, rfl⟩))⟩
     ·exact ⟨rfl, fun x hx => by
       simp only [List.mem_cons, List.not_mem_nil, or_false] at hx
       rcases hx with rfl | rfl | rfl | rfl
       ·exact (hlo.mono (by omega)).at' (d0, k0, h0) (by simp)
       ·simp only; omega
       ·exact (hlo.mono (by omega)).at' (d2, k2, h2) (by simp)
       ·exact (hlo.mono (by omega)).at' (d3, k3, h3) (by simp)⟩
     ·rw [if_pos hn] at hS
      rw [hS]; simp
     ·rw [if_pos hn] at hE
      exact hE
  ·have hlt := of_decide_eq_false hlt
   have hpe : ms.drop 1 = [] := List.drop_eq_nil_of_le (by omega)
   rw [hpe] at hS hE
   simp only [passGo, List.append_nil, Prod.mk.injEq] at hS hE
   obtain ⟨rfl, rfl⟩ := hE
   subst hS
   refine runs_exit ?_
   simp only [zT, zB, if_true, if_false, reduceIte, Nat.reduceEqDiff, Nat.succ_ne_zero, Nat.one_ne_zero, Nat.zero_ne_one]
   refine zS ?_
   refine zR (zO (by simp [zC h134, -lenA, HH1]; rfl) ?_)
   simp only [zT, zB]
   refine runs_ret ?_
   simp [zC h134, -lenA, HH1, trim, rI, lineC]
 ·obtain ⟨hp, a0, a1, ha, hσ⟩ := hd
  subst hp
  subst ha
  subst hσ
  subst hmm
  refine zS ?_
  refine zR (zO (by simp [zC h134, -lenA, HH1]; rfl) ?_)
  simp only [zT, zB]
  refine zS ?_
  refine runs_cond_split (x := decide ((2 : Int) < (ms.length : Int))) (by simp) (fun hlt => ?_) (fun hlt => ?_)
  ·have hlt := of_decide_eq_true hlt
   have hp0 : 2 < ms.length := by omega
   obtain ⟨tv, rfl⟩ := dInts_get hv hp0
   rw [List.drop_eq_getElem_cons hp0] at hS hE
   have hnn := hmn _ (List.getElem_mem hp0)
   have hN' : (ms.map rI)[2]? = some [I ms[2]] := by rw [List.getElem?_map, List.getElem?_eq_getElem hp0]; rfl
   have hN2 : ∀ h, (ms.map rI)[2]'h = [I ms[2]] := fun h => by rw [List.getElem_map]; rfl
   generalize ms[2] = n at *
   simp only [passGo] at hS hE
   have hsb := startF_bd hsh (by omega) hlo kd 2 n tt htt
   have hgl : ([(d0, k0, h0), (d1, k1, h1), (d2, k2, h2), (d3, k3, h3)] : FLine)[2]? = some (d2, k2, h2) := rfl
   have hxl := hlo.at' (d2, k2, h2) (by simp)
   simp only at hxl
   have hkb : 0 ≤ k2 ∧ k2 < (s.chg.length : Int) := by have := hsh.kinds; omega
   have hst0 : ∀ h : ¬ 0 < n, startF s kd [(d0, k0, h0), (d1, k1, h1), (d2, k2, h2), (d3, k3, h3)] 2 n tt = tt := fun h => startF_zero h
   have hst1 : ∀ h : 0 < n, h2 = true → startF s kd [(d0, k0, h0), (d1, k1, h1), (d2, k2, h2), (d3, k3, h3)] 2 n tt = freeT s.stops 2 n (max tt (d2 + chgAt s k2 kd)) := fun h e => startF_had h (by rw [hgl, e])
   have hst2 : ∀ h : 0 < n, h2 = false → startF s kd [(d0, k0, h0), (d1, k1, h1), (d2, k2, h2), (d3, k3, h3)] 2 n tt = freeT s.stops 2 n tt := fun h e => startF_new h (by rw [hgl, e])
   generalize startF s kd [(d0, k0, h0), (d1, k1, h1), (d2, k2, h2), (d3, k3, h3)] 2 n tt = st at *
   have wst : W .i64 (st + n) = st + n := W_fit (by omega)
   have wi : W .i64 3 = 3 := by decide
   generalize hA0 : decide (0 < n) = A0 at *
   have HH6 := zA hp0 (zA hN' (zA hN2 (zA wi hA0)))
   refine zK ?_
   simp only [zT, zB]
   refine zS ?_
   refine zL ?_
   refine zS ?_
   refine zR (zO (by simp [zC h134, -lenA, HH1, wst, HH6]; rfl) ?_)
   simp only [zT, zB]
   refine zS ?_
   refine zS ?_
   refine zR (zO (by simp [zC h134, -lenA, HH1, wst, HH6]; rfl) ?_)
   simp only [zT, zB]
   rcases A0 with _ | _
   ·have hn : ¬ 0 < n := of_decide_eq_false hA0
    have hst := hst0 hn
    rw [hst] at hS hE hsb wst
    refine runs_cond (x := false) (by simp) ?_
    refine zK ?_
    simp only [zT, zB]
    refine zS ?_
    refine zR (zO (by simp [zC h134, -lenA, HH1, wst, HH6]; rfl) ?_)
    simp only [zT, zB]
    refine zR (zO (by simp [zC h134, -lenA, HH1, wst, HH6]; rfl) ?_)
    simp only [zT, zB]
    refine zR (zO (by simp [zC h134, -lenA, HH1, wst, HH6]; rfl) ?_)
    simp only [zT, zB]
    refine ⟨ms.length - 3, _, _, by omega, by simp [zC h134, -lenA, HH1, wst, HH6] <;> rfl, 3, tt + n, _, d0, k0, d1, k1, d2, k2, d3, k3, h0, h1, h2, h3, rfl, by omega, ?_, by omega, ?_, ?_, .inr (.inr (.inr (.inl ⟨rfl, a0, a1, tt, rfl, rfl⟩)))⟩
    ·exact ⟨rfl, fun x hx => by
      simp only [List.mem_cons, List.not_mem_nil, or_false] at hx
      rcases hx with rfl | rfl | rfl | rfl
      ·exact (hlo.mono (by omega)).at' (d0, k0, h0) (by simp)
      ·exact (hlo.mono (by omega)).at' (d1, k1, h1) (by simp)
      ·exact (hlo.mono (by omega)).at' (d2, k2, h2) (by simp)
      ·exact (hlo.mono (by omega)).at' (d3, k3, h3) (by simp)⟩
    ·rw [if_neg hn] at hS
     rw [hS]; simp
    ·rw [if_neg hn] at hE
     exact hE
   ·have hn : 0 < n := of_decide_eq_true hA0
    refine runs_cond (x := true) (by simp) ?_
    refine zS ?_
    refine zS ?_
    refine zR (zO (by simp [zC h134, -lenA, HH1, wst, HH6]; rfl) ?_)
    simp only [zT, zB]
    refine zS ?_
    refine zR (zO (by simp [zC h134, -lenA, HH1, wst, HH6]; rfl) ?_)
    simp only [zT, zB]
    rcases h2 with _ | _
    ·have hst := hst2 hn rfl
     have hof : oFree [.agg [I s.mach, c, t, j], I 2, I tt, I n] = some (I st) := by
      simp only [oFree, hc, ht, hj]
      rw [if_pos ⟨by omega, by omega, by have := hsh.nst; omega, hS0⟩, hst]
     refine runs_cond (x := false) (by simp) ?_
     refine zK ?_
     simp only [zT, zB]
     refine zS ?_
     refine zR (zO (by simp [zC h134, -lenA, HH1, wst, HH6, hof]; rfl) ?_)
     simp only [zT, zB]
     refine runs_drw (by simp (maxSteps := 3000000) [zC h134, -lenA, HH1, wst, HH6, hof]; rfl) ?_
     simp only [zT, zB]
     refine zS ?_
     refine zR (zO (by simp [zC h134, -lenA, HH1, wst, HH6, hof]; rfl) ?_)
     simp only [zT, zB]
     refine zR (zO (by simp [zC h134, -lenA, HH1, wst, HH6, hof]; rfl) ?_)
     simp only [zT, zB]
     refine zR (zO (by simp [zC h134, -lenA, HH1, wst, HH6, hof]; rfl) ?_)
     simp only [zT, zB]
     refine ⟨ms.length - 3, _, _, by omega, by simp [zC h134, -lenA, HH1, wst, HH6, hof] <;> rfl, 3, st + n, _, d0, k0, d1, k1, st + n, kd, d3, k3, h0, h1, true, h3, rfl, by omega, ?_, by omega, ?_, ?_, .inr (.inr (.inr (.inl ⟨rfl, a0, a1, st, rfl, rfl⟩)))⟩
     ·exact ⟨rfl, fun x hx => by
       simp only [List.mem_cons, List.not_mem_nil, or_false] at hx
       rcases hx with rfl | rfl | rfl | rfl
       ·exact (hlo.mono (by omega)).at' (d0, k0, h0) (by simp)
       ·exact (hlo.mono (by omega)).at' (d1, k1, h1) (by simp)
       ·simp only; omega
       ·exact (hlo.mono (by omega)).at' (d3, k3, h3) (by simp)⟩
     ·rw [if_pos hn] at hS
      rw [hS]; simp
     ·rw [if_pos hn] at hE
      exact hE
    ·have hst := hst1 hn rfl
     obtain ⟨rs, tr, row, tw, rfl, hr1, hr2, hr3, hr4⟩ := chgAt_get hsh hc hkb hkd
     have hcb := chgAt_bd hsh k2 kd
     generalize chgAt s k2 kd = V at *
     have hr2' : ∀ h, rs[k2.toNat]'h = [.vl (row.map rI) tw] := fun h => by rw [List.getElem?_eq_getElem h] at hr2; exact Option.some.inj hr2
     have hr4' : ∀ h, row[kd.toNat]'h = V := fun h => by rw [List.getElem?_eq_getElem h] at hr4; exact Option.some.inj hr4
     have wd : W .i64 (d2 + V) = d2 + V := W_fit (by omega)
     have hof : oFree [.agg [I s.mach, .vl rs tr, t, j], I 2, I (max tt (d2 + V)), I n] = some (I st) := by
      simp only [oFree, hc, ht, hj]
      rw [if_pos ⟨by omega, by omega, by have := hsh.nst; omega, hS0⟩, hst]
     have hkb1 := hkb.1
     have hkd1 := hkd.1
     refine runs_cond (x := true) (by simp) ?_
     have HH7 := zA hr1 (zA hr2 (zA hr2' (zA hr3 (zA hr4 (zA hr4' (zA wd (zA hof (zA hkb1 hkd1))))))))
     refine runs_drw (by simp (maxSteps := 3000000) [zC h134, -lenA, HH1, wst, HH6, rI, HH7]; rfl) ?_
     simp only [zT, zB]
     refine zS ?_
     refine zR (zO (by simp [zC h134, -lenA, HH1, wst, HH6, rI, HH7]; rfl) ?_)
     simp only [zT, zB]
     refine runs_drw (by simp (maxSteps := 3000000) [zC h134, -lenA, HH1, wst, HH6, rI, HH7]; rfl) ?_
     simp only [zT, zB]
     refine zS ?_
     refine zR (zO (by simp [zC h134, -lenA, HH1, wst, HH6, rI, HH7]; rfl) ?_)
     simp only [zT, zB]
     refine zR (zO (by simp [zC h134, -lenA, HH1, wst, HH6, rI, HH7]; rfl) ?_)
     simp only [zT, zB]
     refine zR (zO (by simp [zC h134, -lenA, HH1, wst, HH6, rI, HH7]; rfl) ?_)
     simp only [zT, zB]
     refine ⟨ms.length - 3, _, _, by omega, by simp [zC h134, -lenA, HH1, wst, HH6, rI, HH7] <;> rfl, 3, st + n, _, d0, k0, d1, k1, st + n, kd, d3, k3, h0, h1, true, h3, rfl, by omega, ?_, by omega, ?_, ?_, .inr (.inr (.inr (.inl ⟨rfl, a0, a1, st, rfl, rfl⟩)))⟩
     ·exact ⟨rfl, fun x hx => by
       simp only [List.mem_cons, List.not_mem_nil, or_false] at hx
       rcases hx with rfl | rfl | rfl | rfl
       ·exact (hlo.mono (by omega)).at' (d0, k0, h0) (by simp)
       ·exact (hlo.mono (by omega)).at' (d1, k1, h1) (by simp)
       ·simp only; omega
       ·exact (hlo.mono (by omega)).at' (d3, k3, h3) (by simp)⟩
     ·rw [if_pos hn] at hS
      rw [hS]; simp
     ·rw [if_pos hn] at hE
      exact hE
  ·have hlt := of_decide_eq_false hlt
   have hpe : ms.drop 2 = [] := List.drop_eq_nil_of_le (by omega)
   rw [hpe] at hS hE
   simp only [passGo, List.append_nil, Prod.mk.injEq] at hS hE
   obtain ⟨rfl, rfl⟩ := hE
   subst hS
   refine runs_exit ?_
   simp only [zT, zB, if_true, if_false, reduceIte, Nat.reduceEqDiff, Nat.succ_ne_zero, Nat.one_ne_zero, Nat.zero_ne_one]
   refine zS ?_
   refine zR (zO (by simp [zC h134, -lenA, HH1]; rfl) ?_)
   simp only [zT, zB]
   refine runs_ret ?_
   simp [zC h134, -lenA, HH1, trim, rI, lineC]
 ·obtain ⟨hp, a0, a1, a2, ha, hσ⟩ := hd
  subst hp
  subst ha
  subst hσ
  subst hmm
  refine zS ?_
  refine zR (zO (by simp [zC h134, -lenA, HH1]; rfl) ?_)
  simp only [zT, zB]
  refine zS ?_
  refine runs_cond_split (x := decide ((3 : Int) < (ms.length : Int))) (by simp) (fun hlt => ?_) (fun hlt => ?_)
  ·have hlt := of_decide_eq_true hlt
   have hp0 : 3 < ms.length := by omega
   obtain ⟨tv, rfl⟩ := dInts_get hv hp0
   rw [List.drop_eq_getElem_cons hp0] at hS hE
   have hnn := hmn _ (List.getElem_mem hp0)
   have hN' : (ms.map rI)[3]? = some [I ms[3]] := by rw [List.getElem?_map, List.getElem?_eq_getElem hp0]; rfl
   have hN2 : ∀ h, (ms.map rI)[3]'h = [I ms[3]] := fun h => by rw [List.getElem_map]; rfl
   generalize ms[3] = n at *
   simp only [passGo] at hS hE
   have hsb := startF_bd hsh (by omega) hlo kd 3 n tt htt
   have hgl : ([(d0, k0, h0), (d1, k1, h1), (d2, k2, h2), (d3, k3, h3)] : FLine)[3]? = some (d3, k3, h3) := rfl
   have hxl := hlo.at' (d3, k3, h3) (by simp)
   simp only at hxl
   have hkb : 0 ≤ k3 ∧ k3 < (s.chg.length : Int) := by have := hsh.kinds; omega
   have hst0 : ∀ h : ¬ 0 < n, startF s kd [(d0, k0, h0), (d1, k1, h1), (d2, k2, h2), (d3, k3, h3)] 3 n tt = tt := fun h => startF_zero h
   have hst1 : ∀ h : 0 < n, h3 = true → startF s kd [(d0, k0, h0), (d1, k1, h1), (d2, k2, h2), (d3, k3, h3)] 3 n tt = freeT s.stops 3 n (max tt (d3 + chgAt s k3 kd)) := fun h e => startF_had h (by rw [hgl, e])
   have hst2 : ∀ h : 0 < n, h3 = false → startF s kd [(d0, k0, h0), (d1, k1, h1), (d2, k2, h2), (d3, k3, h3)] 3 n tt = freeT s.stops 3 n tt := fun h e => startF_new h (by rw [hgl, e])
   generalize startF s kd [(d0, k0, h0), (d1, k1, h1), (d2, k2, h2), (d3, k3, h3)] 3 n tt = st at *
   have wst : W .i64 (st + n) = st + n := W_fit (by omega)
   have wi : W .i64 4 = 4 := by decide
   generalize hA0 : decide (0 < n) = A0 at *
   have HH8 := zA hp0 (zA hN' (zA hN2 (zA wi hA0)))
   refine zK ?_
   simp only [zT, zB]
   refine zS ?_
   refine zL ?_
   refine zS ?_
   refine zR (zO (by simp [zC h134, -lenA, HH1, wst, HH8]; rfl) ?_)
   simp only [zT, zB]
   refine zS ?_
   refine zS ?_
   refine zR (zO (by simp [zC h134, -lenA, HH1, wst, HH8]; rfl) ?_)
   simp only [zT, zB]
   rcases A0 with _ | _
   ·have hn : ¬ 0 < n := of_decide_eq_false hA0
    have hst := hst0 hn
    rw [hst] at hS hE hsb wst
    refine runs_cond (x := false) (by simp) ?_
    refine zK ?_
    simp only [zT, zB]
    refine zS ?_
    refine zR (zO (by simp [zC h134, -lenA, HH1, wst, HH8]; rfl) ?_)
    simp only [zT, zB]
    refine zR (zO (by simp [zC h134, -lenA, HH1, wst, HH8]; rfl) ?_)
    simp only [zT, zB]
    refine zR (zO (by simp [zC h134, -lenA, HH1, wst, HH8]; rfl) ?_)
    simp only [zT, zB]
    refine ⟨ms.length - 4, _, _, by omega, by simp [zC h134, -lenA, HH1, wst, HH8] <;> rfl, 4, tt + n, _, d0, k0, d1, k1, d2, k2, d3, k3, h0, h1, h2, h3, rfl, by omega, ?_, by omega, ?_, ?_, .inr (.inr (.inr (.inr (⟨rfl, a0, a1, a2, tt, rfl, rfl⟩))))⟩
    ·exact ⟨rfl, fun x hx => by
      simp only [List.mem_cons, List.not_mem_nil, or_false] at hx
      rcases hx with rfl | rfl | rfl | rfl
      ·exact (hlo.mono (by omega)).at' (d0, k0, h0) (by simp)
      ·exact (hlo.mono (by omega)).at' (d1, k1, h1) (by simp)
      ·exact (hlo.mono (by omega)).at' (d2, k2, h2) (by simp)
      ·exact (hlo.mono (by omega)).at' (d3, k3, h3) (by simp)⟩
    ·rw [if_neg hn] at hS
     rw [hS]; simp
    ·rw [if_neg hn] at hE
     exact hE
   ·have hn : 0 < n := of_decide_eq_true hA0
    refine runs_cond (x := true) (by simp) ?_
    refine zS ?_
    refine zS ?_
    refine zR (zO (by simp [zC h134, -lenA, HH1, wst, HH8]; rfl) ?_)
    simp only [zT, zB]
    refine zS ?_
    refine zR (zO (by simp [zC h134, -lenA, HH1, wst, HH8]; rfl) ?_)
    simp only [zT, zB]
    rcases h3 with _ | _
    ·have hst := hst2 hn rfl
     have hof : oFree [.agg [I s.mach, c, t, j], I 3, I tt, I n] = some (I st) := by
      simp only [oFree, hc, ht, hj]
      rw [if_pos ⟨by omega, by omega, by have := hsh.nst; omega, hS0⟩, hst]
     refine runs_cond (x := false) (by simp) ?_
     refine zK ?_
     simp only [zT, zB]
     refine zS ?_
     refine zR (zO (by simp [zC h134, -lenA, HH1, wst, HH8, hof]; rfl) ?_)
     simp only [zT, zB]
     refine runs_drw (by simp (maxSteps := 3000000) [zC h134, -lenA, HH1, wst, HH8, hof]; rfl) ?_
     simp only [zT, zB]
     refine zS ?_
     refine zR (zO (by simp [zC h134, -lenA, HH1, wst, HH8, hof]; rfl) ?_)
     simp only [zT, zB]
     refine zR (zO (by simp [zC h134, -lenA, HH1, wst, HH8, hof]; rfl) ?_)
     simp only [zT, zB]
     refine zR (zO (by simp [zC h134, -lenA, HH1, wst, HH8, hof]; rfl) ?_)
     simp only [zT, zB]
     refine ⟨ms.length - 4, _, _, by omega, by simp [zC h134, -lenA, HH1, wst, HH8, hof] <;> rfl, 4, st + n, _, d0, k0, d1, k1, d2, k2, st + n, kd, h0, h1, h2, true, rfl, by omega, ?_, by omega, ?_, ?_, .inr (.inr (.inr (.inr (⟨rfl, a0, a1, a2, st, rfl, rfl⟩))))⟩
     ·exact ⟨rfl, fun x hx => by
       simp only [List.mem_cons, List.not_mem_nil, or_false] at hx
       rcases hx with rfl | rfl | rfl | rfl
       ·exact (hlo.mono (by omega)).at' (d0, k0, h0) (by simp)
       ·exact (hlo.mono (by omega)).at' (d1, k1, h1) (by simp)
       ·exact (hlo.mono (by omega)).at' (d2, k2, h2) (by simp)
       ·simp only; omega⟩
     ·rw [if_pos hn] at hS
      rw [hS]; simp
     ·rw [if_pos hn] at hE
      exact hE
    ·have hst := hst1 hn rfl
     obtain ⟨rs, tr, row, tw, rfl, hr1, hr2, hr3, hr4⟩ := chgAt_get hsh hc hkb hkd
     have hcb := chgAt_bd hsh k3 kd
     generalize chgAt s k3 kd = V at *
     have hr2' : ∀ h, rs[k3.toNat]'h = [.vl (row.map rI) tw] := fun h => by rw [List.getElem?_eq_getElem h] at hr2; exact Option.some.inj hr2
     have hr4' : ∀ h, row[kd.toNat]'h = V := fun h => by rw [List.getElem?_eq_getElem h] at hr4; exact Option.some.inj hr4
     have wd : W .i64 (d3 + V) = d3 + V := W_fit (by omega)
     have hof : oFree [.agg [I s.mach, .vl rs tr, t, j], I 3, I (max tt (d3 + V)), I n] = some (I st) := by
      simp only [oFree, hc, ht, hj]
      rw [if_pos ⟨by omega, by omega, by have := hsh.nst; omega, hS0⟩, hst]
     have hkb1 := hkb.1
     have hkd1 := hkd.1
     refine runs_cond (x := true) (by simp) ?_
     have HH9 := zA hr1 (zA hr2 (zA hr2' (zA hr3 (zA hr4 (zA hr4' (zA wd (zA hof (zA hkb1 hkd1))))))))
     refine runs_drw (by simp (maxSteps := 3000000) [zC h134, -lenA, HH1, wst, HH8, rI, HH9]; rfl) ?_
     simp only [zT, zB]
     refine zS ?_
     refine zR (zO (by simp [zC h134, -lenA, HH1, wst, HH8, rI, HH9]; rfl) ?_)
     simp only [zT, zB]
     refine runs_drw (by simp (maxSteps := 3000000) [zC h134, -lenA, HH1, wst, HH8, rI, HH9]; rfl) ?_
     simp only [zT, zB]
     refine zS ?_
     refine zR (zO (by simp [zC h134, -lenA, HH1, wst, HH8, rI, HH9]; rfl) ?_)
     simp only [zT, zB]
     refine zR (zO (by simp [zC h134, -lenA, HH1, wst, HH8, rI, HH9]; rfl) ?_)
     simp only [zT, zB]
     refine zR (zO (by simp [zC h134, -lenA, HH1, wst, HH8, rI, HH9]; rfl) ?_)
     simp only [zT, zB]
     refine ⟨ms.length - 4, _, _, by omega, by simp [zC h134, -lenA, HH1, wst, HH8, rI, HH9] <;> rfl, 4, st + n, _, d0, k0, d1, k1, d2, k2, st + n, kd, h0, h1, h2, true, rfl, by omega, ?_, by omega, ?_, ?_, .inr (.inr (.inr (.inr (⟨rfl, a0, a1, a2, st, rfl, rfl⟩))))⟩
     ·exact ⟨rfl, fun x hx => by
       simp only [List.mem_cons, List.not_mem_nil, or_false] at hx
       rcases hx with rfl | rfl | rfl | rfl
       ·exact (hlo.mono (by omega)).at' (d0, k0, h0) (by simp)
       ·exact (hlo.mono (by omega)).at' (d1, k1, h1) (by simp)
       ·exact (hlo.mono (by omega)).at' (d2, k2, h2) (by simp)
       ·simp only; omega⟩
     ·rw [if_pos hn] at hS
      rw [hS]; simp
     ·rw [if_pos hn] at hE
      exact hE
  ·have hlt := of_decide_eq_false hlt
   have hpe : ms.drop 3 = [] := List.drop_eq_nil_of_le (by omega)
   rw [hpe] at hS hE
   simp only [passGo, List.append_nil, Prod.mk.injEq] at hS hE
   obtain ⟨rfl, rfl⟩ := hE
   subst hS
   refine runs_exit ?_
   simp only [zT, zB, if_true, if_false, reduceIte, Nat.reduceEqDiff, Nat.succ_ne_zero, Nat.one_ne_zero, Nat.zero_ne_one]
   refine zS ?_
   refine zR (zO (by simp [zC h134, -lenA, HH1]; rfl) ?_)
   simp only [zT, zB]
   refine runs_ret ?_
   simp [zC h134, -lenA, HH1, trim, rI, lineC]
 ·obtain ⟨hp, a0, a1, a2, a3, ha, hσ⟩ := hd
  subst hp
  subst ha
  subst hσ
  subst hmm
  have hm4' : ms.length = 4 := by omega
  refine zS ?_
  refine zR (zO (by simp [zC h134, -lenA, HH1, hm4']; rfl) ?_)
  simp only [zT, zB]
  refine zS ?_
  refine runs_cond (x := false) (by simp) ?_
  have hpe : ms.drop 4 = [] := List.drop_eq_nil_of_le (by omega)
  rw [hpe] at hS hE
  simp only [passGo, List.append_nil, Prod.mk.injEq] at hS hE
  obtain ⟨rfl, rfl⟩ := hE
  subst hS
  refine runs_exit ?_
  simp only [zT, zB, if_true, if_false, reduceIte, Nat.reduceEqDiff, Nat.succ_ne_zero, Nat.one_ne_zero, Nat.zero_ne_one]
  refine zS ?_
  refine zR (zO (by simp [zC h134, -lenA, HH1, hm4']; rfl) ?_)
  simp only [zT, zB]
  refine runs_ret ?_
  simp [zC h134, -lenA, HH1, hm4', trim, rI, lineC]
end
section
attribute [local simp] backA backA1 callA calleeA flatAt flatBlk frameE lim lop loud posOf ptrs putH rbB_none rbB_row renA setH
noncomputable def FD1 : Nat → Option CFn := updG FC1 102 [(229738, [.slot 6])] []
theorem FD1_ok : TabOk Tryz.prog GG FD1 := tab_updG FC1_ok
noncomputable def FD2 : Nat → Option CFn := upd FD1 102 false (fun _ => none)
theorem FD2_ok : TabOk Tryz.prog GG FD2 := tab_add mixed FD1_ok fun args v ho => by simp at ho
noncomputable def FD : Nat → Option CFn := updE FD2 102 (frameE sPass)
theorem FD_ok : TabOk Tryz.prog GG FD := tab_frame mixed FD2_ok fun args h v h' ho => by
  unfold sPass at ho
  split at ho <;> (try simp only [reduceCtorEq] at ho)
  rename_i m c t j kd rd du vv r
  split at ho <;> (try simp only [reduceCtorEq] at ho)
  rename_i cs ts js ms l hc ht hj hv hl
  split at ho <;> (try simp only [reduceCtorEq] at ho)
  rename_i hg
  simp only [Option.some.injEq, Prod.mk.injEq] at ho
  obtain ⟨rfl, rfl⟩ := ho
  obtain ⟨rfl, _⟩ := dLine_eq hl
  exact a102 Tryz.prog FD2 rfl rfl ⟨m, cs, ts⟩ js c t j hc ht hj kd rd du vv ms l hv hg
def encS (xs : List Int) : List AVal := [match xs with | [] => .nils | x :: l => .vl ((x :: l).map rI) false]
theorem encS_len (xs : List Int) : (encS xs).length = 1 := rfl
theorem encS_ne {xs : List Int} (h : xs ≠ []) : encS xs = [.vl (xs.map rI) false] := by cases xs with | nil => exact absurd rfl h | cons x l => rfl
theorem lineC_rb (n d : Nat) : ∀ l : FLine, (lineC l).all (rb n (d + 1)) = true
  | [] => rfl
  | x :: l => by
    show (rb n (d + 1) (I x.1) && (rb n (d + 1) (I x.2.1) && (rb n (d + 1) (.bool x.2.2) && (lineC l).all (rb n (d + 1))))) = true
    rw [lineC_rb n d l]; rfl
theorem lineC_len : ∀ l : FLine, (lineC l).length = 3 * l.length
  | [] => rfl
  | x :: l => by
    show (lineC l).length + 1 + 1 + 1 = 3 * (l.length + 1)
    rw [lineC_len l]; omega
theorem dLine_of {l : FLine} (h : l.length = 4) : dLine (lineC l) = some l := by
  obtain ⟨d0, k0, h0, d1, k1, h1, d2, k2, h2, d3, k3, h3, rfl⟩ := line4 h
  rfl
theorem encS_rb (n d : Nat) (xs : List (List Int)) : ((xs.map encS).all fun r => r.all (rb n (d + 1))) = true := by
  simp only [List.all_eq_true]
  intro r hr z hz
  obtain ⟨x, _, rfl⟩ := List.mem_map.1 hr
  simp only [encS, List.mem_singleton] at hz
  subst hz
  cases x <;> rfl
theorem rI_rb (n d : Nat) (xs : List Int) : ((xs.map rI).all fun r => r.all (rb n (d + 1))) = true := by
  simp only [List.all_eq_true]
  intro r hr z hz
  obtain ⟨x, _, rfl⟩ := List.mem_map.1 hr
  simp only [rI, List.mem_singleton] at hz
  subst hz; rfl
theorem trim_ok {n : Nat} {vs : List AVal} {h h0 : Heap} (h1 : vs.all (rb n 5) = true) (h2 : (h.take n).all (rbB n) = true) (h3 : h.take n = h0) : trim n vs h = h0 := by
  unfold trim; rw [h1, h2]; exact h3
theorem st_eq {t t' : List AVal} {h h' : Heap} (h1 : t = t') (h2 : h = h') : (⟨t, h⟩ : St) = ⟨t', h'⟩ := by rw [h1, h2]
theorem frz_encS (H : Heap) (d : Nat) (xs : List (List Int)) : optAll (optAll (frz false H (d + 1))) (xs.map encS) = some (xs.map encS) := optAll_self _ fun r hr => optAll_self _ fun x hx => by
  obtain ⟨a, _, rfl⟩ := List.mem_map.1 hr
  simp only [encS, List.mem_singleton] at hx
  subst hx
  cases a <;> rfl
theorem frz_mapI (nv : Bool) (h : Heap) (d : Nat) (xs : List Int) : optAll (optAll (frz nv h (d + 1))) (xs.map rI) = some (xs.map rI) := frz_rows nv h d _ fun r hr z hz => by
  obtain ⟨a, _, rfl⟩ := List.mem_map.1 hr
  simp [rI] at hz; subst hz; rfl
end
section
attribute [local simp] Function.comp_def List.all_map callA calleeA gather getR lim lop loud lowR okG putG putR rbB_none rbB_row resG rowAt takeG
noncomputable def FE : Nat → Option CFn := FD
theorem FE_ok : TabOk Tryz.prog GG FE := FD_ok
noncomputable def FE1 : Nat → Option CFn := FE
theorem FE1_ok : TabOk Tryz.prog GG FE1 := FE_ok
def encV (xs : List Int) : AVal := match xs with | [] => .nils | x :: l => .vl ((x :: l).map rI) false
theorem encV_ne {xs : List Int} (h : xs ≠ []) : encV xs = .vl (xs.map rI) false := by cases xs with | nil => exact absurd rfl h | cons x l => rfl
theorem dInts_encV (xs : List Int) : dInts (encV xs) = some xs := by
  cases xs with
  | nil => rfl
  | cons x l => exact dInts_of rfl
theorem dInts_vl (xs : List Int) (t : Bool) : dInts (.vl (xs.map rI) t) = some xs := dInts_of (v := .vl (xs.map rI) t) rfl
noncomputable def FE2 : Nat → Option CFn := FE1
theorem FE2_ok : TabOk Tryz.prog GG FE2 := FE1_ok
def okI (n : Int) : Prop := -1000000000 ≤ n ∧ n ≤ 1000000000
instance (n : Int) : Decidable (okI n) := by unfold okI; infer_instance
def oPlus : List AVal → Option AVal
  | [.agg [.int .i64 a, .int .i64 b], .agg [.int .i64 _, .int .i64 _, .int .i64 d, v], .int .i64 e] => match dInts v with
    | some _ => if okI a ∧ okI d ∧ okI e then some (.agg [I (a + max 0 (e - d)), I (max b e)]) else none
    | none => none
  | _ => none
theorem a63 (P : Program) (T : Nat → Option CFn) (hT : T 63 = some c63) (a b k r d e : Int) (v : AVal) (ms : List Int) (hv : dInts v = some ms) (hg : okI a ∧ okI d ∧ okI e) : Answers P T 63 [.agg [I a, I b], .agg [I k, I r, I d, v], I e] [] fun v h => frz true h 5 v = some ((.agg [I (a + max 0 (e - d)), I (max b e)])) := by
 have fv := fun H d => dInts_frz hv H d
 have rv := fun n d => dInts_rb hv n d
 obtain ⟨cv1, cv2⟩ := dInts_cells hv
 obtain ⟨⟨a1, a2⟩, ⟨d1, d2⟩, ⟨e1, e2⟩⟩ := hg
 have w1 : W .i64 (e - d) = e - d := W_fit (by omega)
 have w2 : W .i64 (a + max 0 (e - d)) = a + max 0 (e - d) := W_fit (by omega)
 have hm : (if d < e then e - d else 0) = max 0 (e - d) := by split <;> omega
 refine answers_of hT (orcF_none rfl) ?_
 simp only [oo, om, op, og, ci, cl, c63]
 have HH1 := zA fv (zA rv (zA cv1 (zA cv2 (zA w1 (zA w2 hm)))))
 refine zS ?_
 refine zR (zO (by simp [HH1]; rfl) ?_)
 simp only [zT, zB]
 refine zS ?_
 refine zR (zO (by simp [HH1]; rfl) ?_)
 simp only [zT, zB]
 refine runs_ret ?_
 simp [HH1]
def sumI : List Int → Int
  | [] => 0
  | x :: l => x + sumI l
theorem sumI_nil : sumI [] = 0 := rfl
attribute [local simp] sumI_nil
theorem sumI_bd : ∀ (xs : List Int), (∀ x ∈ xs, 0 ≤ x ∧ x ≤ 10000) → 0 ≤ sumI xs ∧ sumI xs ≤ 10000 * (xs.length : Int)
  | [], _ => by simp [sumI]
  | x :: l, h => by
    have := sumI_bd l fun y hy => h y (by simp [hy])
    have h0 := h x (by simp)
    simp only [sumI, List.length_cons]
    omega
def oSum : List AVal → Option AVal
  | [v] => match dInts v with
    | some xs => if xs.length ≤ 100 ∧ ∀ x ∈ xs, 0 ≤ x ∧ x ≤ 10000 then some (I (sumI xs)) else none
    | none => none
  | _ => none
theorem sum_eq {v : AVal} {xs : List Int} (h : dInts v = some xs) (hg : xs.length ≤ 100 ∧ ∀ x ∈ xs, 0 ≤ x ∧ x ≤ 10000) : oSum [v] = some (I (sumI xs)) := by
  simp only [oSum, h]; rw [if_pos hg]
theorem sumI_take {xs : List Int} {k : Nat} (hk : k < xs.length) : sumI (xs.take (k + 1)) = sumI (xs.take k) + xs[k] := by
  induction xs generalizing k with
  | nil => simp at hk
  | cons x l ih =>
    cases k with
    | zero => simp [sumI]
    | succ k =>
      have := ih (k := k) (by simpa using hk)
      simp only [List.take_succ_cons, sumI, List.getElem_cons_succ]
      omega
theorem a72 (P : Program) (T : Nat → Option CFn) (hT : T 72 = some c72) (v : AVal) (xs : List Int) (hv : dInts v = some xs) (hg : xs.length ≤ 100 ∧ ∀ x ∈ xs, 0 ≤ x ∧ x ≤ 10000) : Answers P T 72 [v] [] fun v h => frz true h 5 v = some (I (sumI xs)) := by
 have fv := fun H d => dInts_frz hv H d
 have rv := fun n d => dInts_rb hv n d
 have lv := dInts_len hv
 obtain ⟨cv1, cv2⟩ := dInts_cells hv
 refine answers_of hT (orcF_none rfl) ?_
 simp only [oo, om, op, og, ci, cl, c72]
 have HH1 := zA fv (zA rv (zA lv (zA cv1 cv2)))
 refine zS ?_
 refine zR (zO (by simp [-lenA, sumI, HH1]; rfl) ?_)
 simp only [zT, zB]
 refine zS ?_
 refine zS ?_
 refine zR (zO (by simp [-lenA, sumI, HH1]; rfl) ?_)
 simp only [zT, zB]
 refine zL ?_
 refine runs_loop_inv (fun m σ => ∃ (k : Nat) (i : Int), i = k ∧ xs.length - k = m ∧ k ≤ xs.length ∧ σ = ⟨[.any, .any, I (sumI (xs.take k)), .any, .any, v, I xs.length, I i, .any, .any, .any, .any, .any, .any, .any, .any], []⟩) ?_ (xs.length - 0) _ ⟨0, 0, rfl, rfl, Nat.zero_le _, by simp⟩
 rintro m σ ⟨k, i, hik, rfl, hkl, rfl⟩
 refine zS ?_
 refine zR (zO (by simp [-lenA, sumI, HH1]; rfl) ?_)
 simp only [zT, zB]
 refine zS ?_
 refine runs_cond_split (x := decide (i < (xs.length : Int))) (by simp) (fun hlt => ?_) (fun hlt => ?_)
 ·have hlt := of_decide_eq_true hlt
  have hk0 : k < xs.length := by omega
  obtain ⟨tt, rfl⟩ := dInts_get hv hk0
  have h0 : 0 ≤ i := by omega
  have htn : i.toNat = k := by omega
  have hwi : W .i64 (i + 1) = i + 1 := W_small (by omega)
  have hs1 := sumI_bd (xs.take k) fun y hy => hg.2 y (List.mem_of_mem_take hy)
  have hs2 : (((xs.take k).length : Nat) : Int) ≤ 100 := by rw [List.length_take]; omega
  have hx := hg.2 _ (List.getElem_mem hk0)
  have hws : W .i64 (sumI (xs.take k) + xs[k]) = sumI (xs.take k) + xs[k] := W_fit (by omega)
  have hsx := sumI_take hk0
  have HH2 := zA h0 (zA htn (zA hk0 (zA hwi hws)))
  refine zK ?_
  simp only [zT, zB]
  refine zS ?_
  refine zL ?_
  refine zS ?_
  refine zR (zO (by simp [-lenA, sumI, HH1, rI, HH2]; rfl) ?_)
  simp only [zT, zB]
  refine zR (zO (by simp [-lenA, sumI, HH1, rI, HH2]; rfl) ?_)
  simp only [zT, zB]
  refine zR (zO (by simp [-lenA, sumI, HH1, rI, HH2]; rfl) ?_)
  simp only [zT, zB]
  exact ⟨xs.length - (k + 1), by omega, k + 1, i + 1, by omega, rfl, by omega, by simp [trim, rbB, hsx, -lenA, sumI, HH1, rI, HH2]⟩
 ·have hlt := of_decide_eq_false hlt
  obtain rfl : k = xs.length := by omega
  refine runs_exit ?_
  simp only [zT, zB, if_true, if_false, reduceIte, Nat.reduceEqDiff, Nat.succ_ne_zero, Nat.one_ne_zero, Nat.zero_ne_one]
  refine zS ?_
  refine zR (zO (by simp [-lenA, sumI, HH1]; rfl) ?_)
  simp only [zT, zB]
  refine runs_ret ?_
  simp [-lenA, sumI, HH1, List.take_length]
noncomputable def FF_63 : Nat → Option CFn := upd FE2 63 true (oPlus)
theorem FF_63_ok : TabOk Tryz.prog GG FF_63 := tab_add mixed FE2_ok fun args v ho => by
  unfold oPlus at ho; split at ho <;> (try simp only [reduceCtorEq] at ho)
  rename_i a b k r d v e
  split at ho <;> (try simp only [reduceCtorEq] at ho)
  rename_i ms hv
  split at ho <;> (try simp only [reduceCtorEq] at ho)
  rename_i hg
  simp only [Option.some.injEq] at ho
  subst ho
  exact a63 Tryz.prog FE2 rfl a b k r d e v ms hv hg
noncomputable def FF : Nat → Option CFn := upd FF_63 72 true (oSum)
theorem FF_ok : TabOk Tryz.prog GG FF := tab_add mixed FF_63_ok fun args v ho => by
  unfold oSum at ho; split at ho <;> (try simp only [reduceCtorEq] at ho)
  rename_i v
  split at ho <;> (try simp only [reduceCtorEq] at ho)
  rename_i xs hv
  split at ho <;> (try simp only [reduceCtorEq] at ho)
  rename_i hg
  simp only [Option.some.injEq] at ho
  subst ho
  exact a72 Tryz.prog FF_63 rfl v xs hv hg
end
section
theorem W_i1 : W .i64 1 = 1 := by decide
attribute [local simp] W_i1
theorem frN_mapI (n : Nat) (h : Heap) (d : Nat) (xs : List Int) : optAll (optAll (frN n h (d + 1))) (xs.map rI) = some (xs.map rI) := optAll_self _ fun r hr => optAll_self _ fun x hx => by
  obtain ⟨a, _, rfl⟩ := List.mem_map.1 hr
  simp only [rI, List.mem_singleton] at hx
  subst hx; rfl
end
section
noncomputable def FH3 : Nat → Option CFn := FF
theorem FH3_ok : TabOk Tryz.prog GG FH3 := FF_ok
noncomputable def FH4 : Nat → Option CFn := FH3
theorem FH4_ok : TabOk Tryz.prog GG FH4 := FH3_ok
noncomputable def FH : Nat → Option CFn := FH4
theorem FH_ok : TabOk Tryz.prog GG FH := FH4_ok
end
section
attribute [local simp] callA calleeA lop loud putH rbB_none rbB_row rowAt setH
noncomputable def FJ1_100 : Nat → Option CFn := FH
theorem FJ1_100_ok : TabOk Tryz.prog GG FJ1_100 := FH_ok
noncomputable def FJ1 : Nat → Option CFn := FJ1_100
theorem FJ1_ok : TabOk Tryz.prog GG FJ1 := FJ1_100_ok
noncomputable def FJ : Nat → Option CFn := FJ1
theorem FJ_ok : TabOk Tryz.prog GG FJ := FJ1_ok
end
section
attribute [local simp] callA calleeA lop loud rbB_none rbB_row
def jobAt (js : List FJob) (k : Nat) : FJob := js.getD k default
def bnd1 (js : List FJob) : Nat → Int
  | 0 => 0
  | k + 1 => max (bnd1 js k) ((jobAt js k).ready + sumI (jobAt js k).mins)
structure BAcc where
  bef : Int
  aft : Int
  all : Int
  had : Bool
def minAt (j : FJob) (k : Nat) : Int := j.mins.getD k 0
def bStep (k : Nat) (a : BAcc) (j : FJob) : BAcc :=
  if minAt j k = 0 then a else ⟨if a.had then min (j.ready + sumI (j.mins.take k)) a.bef else j.ready + sumI (j.mins.take k), if a.had then min (sumI (j.mins.drop (k + 1))) a.aft else sumI (j.mins.drop (k + 1)), a.all + minAt j k, true⟩
def bAcc (js : List FJob) (k : Nat) : Nat → BAcc
  | 0 => ⟨0, 0, 0, false⟩
  | i + 1 => bStep k (bAcc js k i) (jobAt js i)
def bnd2 (js : List FJob) : Nat → Int
  | 0 => bnd1 js js.length
  | k + 1 => max (bnd2 js k) ((bAcc js k js.length).bef + (bAcc js k js.length).all + (bAcc js k js.length).aft)
def boundF (s : FShop) (js : List FJob) : Int := bnd2 js s.mach.toNat
def oBound : List AVal → Option AVal
  | [.agg [.int .i64 m, c, t], j] => match dInts2 c, dStops t, dJobs j with
    | some cs, some ts, some js => if sizeOk ⟨m, cs, ts⟩ js = true then some (.tup [I (if shopE ⟨m, cs, ts⟩ js = 0 then boundF ⟨m, cs, ts⟩ js else 0), I (shopE ⟨m, cs, ts⟩ js)]) else none
    | _, _, _ => none
  | _ => none
theorem bound_eq {s : FShop} {js : List FJob} {c t j : AVal} (hc : dInts2 c = some s.chg) (ht : dStops t = some s.stops) (hj : dJobs j = some js) (hz : SizeOk s js) : oBound [.agg [I s.mach, c, t], j] = some (.tup [I (if shopE s js = 0 then boundF s js else 0), I (shopE s js)]) := by
  simp only [oBound, hc, ht, hj]
  rw [if_pos (size_ok.2 hz)]
theorem jobAt_eq {js : List FJob} {k : Nat} (h : k < js.length) : jobAt js k = js[k] := by unfold jobAt; rw [List.getD_eq_getElem?_getD, List.getElem?_eq_getElem h]; rfl
theorem minAt_eq {j : FJob} {k : Nat} (h : k < j.mins.length) : minAt j k = j.mins[k] := by unfold minAt; rw [List.getD_eq_getElem?_getD, List.getElem?_eq_getElem h]; rfl
theorem sum4 {s : FShop} {js : List FJob} (h : ShopOk s js) {j : FJob} (hj : j ∈ js) {l : List Int} (hl : ∀ x ∈ l, x ∈ j.mins) (hn : l.length ≤ j.mins.length) : l.length ≤ 100 ∧ (∀ x ∈ l, 0 ≤ x ∧ x ≤ 10000) ∧ 0 ≤ sumI l ∧ sumI l ≤ 40000 := by
  have hb := h.job j hj
  have hm := h.mach
  have hx : ∀ x ∈ l, 0 ≤ x ∧ x ≤ 10000 := fun x hx => by have := hb.2.2.2.2 x (hl x hx); omega
  have hs := sumI_bd l hx
  have : (l.length : Int) ≤ 4 := by omega
  exact ⟨by omega, hx, hs.1, by omega⟩
theorem bnd1_bd {s : FShop} {js : List FJob} (h : ShopOk s js) : ∀ k, k ≤ js.length → 0 ≤ bnd1 js k ∧ bnd1 js k ≤ 200000
  | 0, _ => by simp [bnd1]
  | k + 1, hk => by
    have ih := bnd1_bd h k (by omega)
    have hk0 : k < js.length := by omega
    have hb := h.job _ (List.getElem_mem hk0)
    have hs := sum4 h (List.getElem_mem hk0) (l := js[k].mins) (fun _ h => h) (Nat.le_refl _)
    simp only [bnd1, jobAt_eq hk0]
    omega
structure BOk (i : Nat) (a : BAcc) : Prop where
  bef : 0 ≤ a.bef ∧ a.bef ≤ 200000
  aft : 0 ≤ a.aft ∧ a.aft ≤ 200000
  all : 0 ≤ a.all ∧ a.all ≤ 10000 * (i : Int)
theorem bAcc_ok {s : FShop} {js : List FJob} (h : ShopOk s js) (k : Nat) : ∀ i, i ≤ js.length → BOk i (bAcc js k i)
  | 0, _ => ⟨by simp [bAcc], by simp [bAcc], by simp [bAcc]⟩
  | i + 1, hi => by
    have ih := bAcc_ok h k i (by omega)
    have hk0 : i < js.length := by omega
    have hb := h.job _ (List.getElem_mem hk0)
    have hs := sum4 h (List.getElem_mem hk0) (l := js[i].mins.take k) (fun _ h => List.mem_of_mem_take h) (by rw [List.length_take]; omega)
    have hs2 := sum4 h (List.getElem_mem hk0) (l := js[i].mins.drop (k + 1)) (fun _ h => List.mem_of_mem_drop h) (by rw [List.length_drop]; omega)
    have hm : 0 ≤ minAt js[i] k ∧ minAt js[i] k ≤ 10000 := by
      unfold minAt
      rw [List.getD_eq_getElem?_getD]
      cases hg : js[i].mins[k]? with
      | none => simp
      | some x => have := hb.2.2.2.2 x (List.mem_of_getElem? hg); simp only [Option.getD_some]; omega
    have i1 := ih.bef
    have i2 := ih.aft
    have i3 := ih.all
    simp only [bAcc, jobAt_eq hk0, bStep]
    split
    · exact ⟨i1, i2, by omega⟩
    · refine ⟨?_, ?_, by simp only; omega⟩
      · simp only; split <;> omega
      · simp only; split <;> omega
theorem bnd2_bd {s : FShop} {js : List FJob} (h : ShopOk s js) : ∀ k, 0 ≤ bnd2 js k ∧ bnd2 js k ≤ 500000
  | 0 => by have := bnd1_bd h js.length (Nat.le_refl _); simp only [bnd2]; omega
  | k + 1 => by
    have ih := bnd2_bd h k
    have hb := bAcc_ok h k js.length (Nat.le_refl _)
    have := hb.bef
    have := hb.aft
    have := hb.all
    have := h.njob
    simp only [bnd2]
    omega
noncomputable def FL1_43 : Nat → Option CFn := FJ
theorem FL1_43_ok : TabOk Tryz.prog GG FL1_43 := FJ_ok
noncomputable def FL1 : Nat → Option CFn := FL1_43
theorem FL1_ok : TabOk Tryz.prog GG FL1 := FL1_43_ok
end
section
attribute [local simp] callA calleeA lop loud rbB_none rbB_row
theorem a30 (P : Program) (T : Nat → Option CFn) (hT : T 30 = some c30) (h70 : T 70 = some { c70 with frsh := false, orc := oOpen }) (h72 : T 72 = some { c72 with frsh := true, orc := oSum }) (s : FShop) (js : List FJob) (c t j : AVal) (hc : dInts2 c = some s.chg) (ht : dStops t = some s.stops) (hj : dJobs j = some js) (hz : SizeOk s js) : Answers P T 30 [.agg [I s.mach, c, t], j] [] fun v h => frz true h 5 v = some (.tup [I (if shopE s js = 0 then boundF s js else 0), I (shopE s js)]) := by
 have fc := fun H d => dInts2_frz hc H d
 have ft := fun H d => dStops_frz ht H d
 have fj := fun H d => dJobs_frz hj H d
 have rc := fun n d => dInts2_rb hc n d
 have rt := fun n d => dStops_rb ht n d
 have rj := fun n d => dJobs_rb hj n d
 have lc := dInts2_len hc
 have lt := dStops_len ht
 have lj := dJobs_len hj
 obtain ⟨cc1, cc2⟩ := dInts2_cells hc
 obtain ⟨ct1, ct2⟩ := dStops_cells ht
 obtain ⟨cj1, cj2⟩ := dJobs_cells hj
 have hop := open_eq hc ht hj hz
 refine answers_of hT (orcF_none rfl) ?_
 simp only [oo, om, op, og, ci, cl, c30]
 by_cases h0 : shopE s js = 0
 ·have hsh := shop_ok h0
  have hn6 : js.length ≤ 6 := hsh.njob
  have hm4 := hsh.mach
  have HH1 := zA h70 (zA h72 (zA fc (zA ft (zA fj (zA rc (zA rt (zA rj (zA lc (zA lt (zA lj (zA cc1 (zA cc2 (zA ct1 (zA ct2 (zA cj1 (zA cj2 (zA hop h0)))))))))))))))))
  refine zS ?_
  refine zR (zO (by simp [zC h70, zC h72, -lenA, HH1]; rfl) ?_)
  simp only [zT, zB]
  refine zS ?_
  refine zS ?_
  refine zR (zO (by simp [zC h70, zC h72, -lenA, HH1]; rfl) ?_)
  simp only [zT, zB]
  refine zS ?_
  refine zR (zO (by simp [zC h70, zC h72, -lenA, HH1]; rfl) ?_)
  simp only [zT, zB]
  refine runs_cond (x := false) (by simp) ?_
  refine zK ?_
  simp only [zT, zB]
  refine zS ?_
  refine zS ?_
  refine zR (zO (by simp [zC h70, zC h72, -lenA, HH1]; rfl) ?_)
  simp only [zT, zB]
  refine zL ?_
  refine runs_loop_inv (fun m σ => ∃ (k : Nat) (i : Int), i = k ∧ js.length - k = m ∧ k ≤ js.length ∧ σ = ⟨[.any, j, .ref 0 0 0, .any, I (bnd1 js k), .any, .any, .any, .any, .any, .any, .any, .any, .any, .any, .any, .any, .any, .any, .any, .any, .any, .any, .any, .any, .any, .any, .any, j, I js.length, I i, .any, .any, .any, .any, .any, .any, .any, .any, .any, .any, .any, .any, .any, .any, .any, .any, .any, .any, .any, .any, .any, .any, .any, .any, .any, .any, .any, .any, .any, .any, .any, .any, .any, .any, .any, .any, .any, .any, .any, .any, .any, .any, .any, .any, .any, .any, .any, .any, .any, .any, .any, .any, .any, .any, .any, .any, .any, .any, .any, .any, .any, .any, .any, .any, .any, .any, .any, .any, .any], [some (.row 3 [[I s.mach, c, t]]), some (.row 4 [[I s.mach, c, t, j]])]⟩) ?_ (js.length - 0) _ ⟨0, 0, rfl, rfl, Nat.zero_le _, by simp [bnd1]⟩
  rintro m σ ⟨k, i, hik, rfl, hkl, rfl⟩
  refine zS ?_
  refine zR (zO (by simp [zC h70, zC h72, -lenA, HH1]; rfl) ?_)
  simp only [zT, zB]
  refine zS ?_
  refine runs_cond_split (x := decide (i < (js.length : Int))) (by simp) (fun hlt => ?_) (fun hlt => ?_)
  ·have hlt := of_decide_eq_true hlt
   have hk0 : k < js.length := by omega
   have hi0 : 0 ≤ i := by omega
   have htn : i.toNat = k := by omega
   have hwi : W .i64 (i + 1) = i + 1 := W_small (by omega)
   obtain ⟨rs, tj, wv, rfl, hr1, hr2, hwv⟩ := dJobs_get hj hk0
   have hkr : k < rs.length := by omega
   have hr4 : ∀ h, rs[k]'h = [I js[k].kind, I js[k].ready, I js[k].due, wv] := fun h => by rw [List.getElem?_eq_getElem h] at hr2; exact Option.some.inj hr2
   have rw5 := fun n d => dInts_rb hwv n d
   have fw5 := fun H d => dInts_frz hwv H d
   obtain ⟨cw1, cw2⟩ := dInts_cells hwv
   have hjb := hsh.job _ (List.getElem_mem hk0)
   have hs4 := sum4 hsh (List.getElem_mem hk0) (l := js[k].mins) (fun _ h => h) (Nat.le_refl _)
   have hsu := sum_eq hwv ⟨hs4.1, hs4.2.1⟩
   have hw1 : W .i64 (js[k].ready + sumI js[k].mins) = js[k].ready + sumI js[k].mins := W_fit (by omega)
   have hst : bnd1 js (k + 1) = max (bnd1 js k) (js[k].ready + sumI js[k].mins) := by simp only [bnd1, jobAt_eq hk0]
   have HH2 := zA hi0 (zA htn (zA hk0 (zA hwi (zA hsu (zA hw1 (zA hkr (zA hr2 (zA hr4 (zA rw5 (zA fw5 (zA cw1 cw2)))))))))))
   refine zK ?_
   simp only [zT, zB]
   refine zS ?_
   refine zL ?_
   refine zS ?_
   refine zR (zO (by simp [zC h70, zC h72, -lenA, HH1, zI, HH2]; rfl) ?_)
   simp only [zT, zB]
   refine runs_drw (by simp (maxSteps := 3000000) [zC h70, zC h72, -lenA, HH1, zI, HH2]; rfl) ?_
   simp only [zT, zB]
   refine zR (zO (by simp [zC h70, zC h72, -lenA, HH1, zI, HH2]; rfl) ?_)
   simp only [zT, zB]
   exact ⟨js.length - (k + 1), by omega, k + 1, i + 1, by omega, rfl, by omega, by simp [trim, hst, zC h70, zC h72, -lenA, HH1, zI, HH2]⟩
  ·have hlt := of_decide_eq_false hlt
   obtain rfl : k = js.length := by omega
   refine runs_exit ?_
   simp only [zT, zB, if_true, if_false, reduceIte, Nat.reduceEqDiff, Nat.succ_ne_zero, Nat.one_ne_zero, Nat.zero_ne_one]
   refine zS ?_
   refine zS ?_
   refine zR (zO (by simp [zC h70, zC h72, -lenA, HH1]; rfl) ?_)
   simp only [zT, zB]
   refine zL ?_
   refine runs_loop_inv (fun m σ => ∃ (k : Nat) (i : Int), i = k ∧ s.mach.toNat - k = m ∧ (k : Int) ≤ s.mach ∧ σ = ⟨[.any, j, .any, .any, I (bnd2 js k), .any, .any, .any, .any, .any, .any, .any, .any, .any, .any, .any, .any, .any, .any, .any, .any, .any, .any, .any, .any, .any, .any, .any, .any, .any, .any, .any, .any, .any, .any, .any, .any, .any, .any, .any, .any, .any, .any, .any, I s.mach, I i, .any, .any, .any, .any, .any, .any, .any, .any, .any, .any, .any, .any, .any, .any, .any, .any, .any, .any, .any, .any, .any, .any, .any, .any, .any, .any, .any, .any, .any, .any, .any, .any, .any, .any, .any, .any, .any, .any, .any, .any, .any, .any, .any, .any, .any, .any, .any, .any, .any, .any, .any, .any, .any, .any], [some (.row 3 [[I s.mach, c, t]]), some (.row 4 [[I s.mach, c, t, j]])]⟩) ?_ (s.mach.toNat - 0) _ ⟨0, 0, rfl, rfl, by omega, by simp [bnd2]⟩
   rintro m σ ⟨k, i, hik2, rfl, hkm, rfl⟩
   refine zS ?_
   refine zR (zO (by simp [zC h70, zC h72, -lenA, HH1]; rfl) ?_)
   simp only [zT, zB]
   refine zS ?_
   refine runs_cond_split (x := decide (i < s.mach)) (by simp) (fun hlt2 => ?_) (fun hlt2 => ?_)
   ·have hlt2 := of_decide_eq_true hlt2
    have hwi2 : W .i64 (i + 1) = i + 1 := W_small (by omega)
    have hi2 : 0 ≤ i := by omega
    have htn2 : i.toNat = k := by omega
    refine zK ?_
    simp only [zT, zB]
    refine zS ?_
    refine zL ?_
    refine zS ?_
    refine zR (zO (by simp [zC h70, zC h72, -lenA, HH1, hwi2, hi2, htn2]; rfl) ?_)
    simp only [zT, zB]
    refine zS ?_
    refine zR (zO (by simp [zC h70, zC h72, -lenA, HH1, hwi2, hi2, htn2]; rfl) ?_)
    simp only [zT, zB]
    refine zS ?_
    refine zS ?_
    refine zR (zO (by simp [zC h70, zC h72, -lenA, HH1, hwi2, hi2, htn2]; rfl) ?_)
    simp only [zT, zB]
    refine zL ?_
    refine runs_loop_inv (fun m2 σ => ∃ (p : Nat) (q b1 b2 b3 : Int) (b4 : Bool), q = p ∧ js.length - p = m2 ∧ p ≤ js.length ∧ bAcc js k p = ⟨b1, b2, b3, b4⟩ ∧ σ = ⟨[.any, j, .any, .any, I (bnd2 js k), .any, .any, .any, .any, .any, I i, I b1, I b2, I b3, .bool b4, .any, .any, .any, .any, .any, .any, .any, .any, .any, .any, .any, .any, .any, .any, .any, .any, .any, .any, .any, .any, .any, .any, .any, .any, .any, .any, .any, .any, .any, I s.mach, I i, .any, .any, j, I js.length, I q, .any, .any, .any, .any, .any, .any, .any, .any, .any, .any, .any, .any, .any, .any, .any, .any, .any, .any, .any, .any, .any, .any, .any, .any, .any, .any, .any, .any, .any, .any, .any, .any, .any, .any, .any, .any, .any, .any, .any, .any, .any, .any, .any, .any, .any, .any, .any, .any, .any], [some (.row 3 [[I s.mach, c, t]]), some (.row 4 [[I s.mach, c, t, j]])]⟩) ?_ (js.length - 0) _ ⟨0, 0, 0, 0, 0, false, rfl, rfl, Nat.zero_le _, rfl, by simp⟩
    rintro m2 σ ⟨p, q, b1, b2, b3, b4, hqp, rfl, hpl, hA, rfl⟩
    refine zS ?_
    refine zR (zO (by simp [zC h70, zC h72, -lenA, HH1, hwi2, hi2, htn2]; rfl) ?_)
    simp only [zT, zB]
    refine zS ?_
    refine runs_cond_split (x := decide (q < (js.length : Int))) (by simp) (fun hlt3 => ?_) (fun hlt3 => ?_)
    ·have hlt3 := of_decide_eq_true hlt3
     have hp0 : p < js.length := by omega
     have hq0 : 0 ≤ q := by omega
     have htq : q.toNat = p := by omega
     have hwq : W .i64 (q + 1) = q + 1 := W_small (by omega)
     obtain ⟨rs, tj, wv, rfl, hr1, hr2, hwv⟩ := dJobs_get hj hp0
     have hpr : p < rs.length := by omega
     have hr4 : ∀ h, rs[p]'h = [I js[p].kind, I js[p].ready, I js[p].due, wv] := fun h => by rw [List.getElem?_eq_getElem h] at hr2; exact Option.some.inj hr2
     have rw5 := fun n d => dInts_rb hwv n d
     have fw5 := fun H d => dInts_frz hwv H d
     obtain ⟨cw1, cw2⟩ := dInts_cells hwv
     have hjb := hsh.job _ (List.getElem_mem hp0)
     have hkl : k < js[p].mins.length := by omega
     obtain ⟨tw, rfl⟩ := dInts_get hwv hkl
     have hbo := bAcc_ok hsh k p hpl
     rw [hA] at hbo
     obtain ⟨bo1, bo2, bo3⟩ := hbo
     simp only at bo1 bo2 bo3
     have hs4 := sum4 hsh (List.getElem_mem hp0) (l := js[p].mins.take k) (fun _ h => List.mem_of_mem_take h) (by rw [List.length_take]; omega)
     have hs5 := sum4 hsh (List.getElem_mem hp0) (l := js[p].mins.drop (k + 1)) (fun _ h => List.mem_of_mem_drop h) (by rw [List.length_drop]; omega)
     have hsu := fun t' => sum_eq (dInts_vl (js[p].mins.take k) t') ⟨hs4.1, hs4.2.1⟩
     have hsv := fun t' => sum_eq (dInts_vl (js[p].mins.drop (k + 1)) t') ⟨hs5.1, hs5.2.1⟩
     have hst : bAcc js k (p + 1) = bStep k ⟨b1, b2, b3, b4⟩ js[p] := by simp only [bAcc, jobAt_eq hp0, hA]
     have hmk := hjb.2.2.2.2 _ (List.getElem_mem hkl)
     simp only [bStep, minAt_eq hkl] at hst
     generalize hV : js[p].mins[k] = V at *
     generalize hS1 : sumI (js[p].mins.take k) = S1 at *
     generalize hS2 : sumI (js[p].mins.drop (k + 1)) = S2 at *
     have hw1 : W .i64 (js[p].ready + S1) = js[p].ready + S1 := W_fit (by omega)
     have hw2 : W .i64 (b3 + V) = b3 + V := W_fit (by omega)
     have hil : i ≤ (js[p].mins.length : Int) := by omega
     have hil2 : i + 1 ≤ (js[p].mins.length : Int) := by omega
     have htn3 : (i + 1).toNat = k + 1 := by omega
     have hi3 : 0 ≤ i + 1 := by omega
     have hkl1 : k ≤ js[p].mins.length := by omega
     have hkl2 : k + 1 ≤ js[p].mins.length := by omega
     have hilt : i < (js[p].mins.length : Int) := by omega
     have htk2 : ((js[p].mins.map rI).drop (k + 1)).take (js[p].mins.length - (k + 1)) = (js[p].mins.drop (k + 1)).map rI := by rw [List.map_drop]; exact List.take_of_length_le (by simp)
     have htk1 : (js[p].mins.map rI).take k = (js[p].mins.take k).map rI := by rw [List.map_take]
     have htk3 : (js[p].mins.map rI).drop (k + 1) = (js[p].mins.drop (k + 1)).map rI := by rw [List.map_drop]
     have hrl : ((js[p].mins.map rI).all fun r => r.length == 1) = true := by simp [rI]
     have HH3 := zA hwi2 (zA hi2 (zA htn2 (zA hp0 (zA hq0 (zA htq (zA hwq (zA hsu (zA hsv (zA hw1 (zA hw2 (zA hV (zA hil (zA hil2 (zA htn3 (zA hi3 (zA hkl (zA hkl1 (zA hkl2 (zA hilt (zA hpr (zA hr2 (zA hr4 (zA rw5 (zA fw5 (zA cw1 cw2)))))))))))))))))))))))))
     refine zK ?_
     simp only [zT, zB]
     refine zS ?_
     refine zL ?_
     refine zS ?_
     refine zR (zO (by simp [zC h70, zC h72, -lenA, HH1, zI, -List.map_take, -List.map_drop, ↓htk2, ↓htk1, ↓htk3, ↓hrl, evOpt, sliceA, bounds, hiB, bound, HH3]; rfl) ?_)
     simp only [zT, zB]
     refine zS ?_
     refine zS ?_
     refine zR (zO (by simp [zC h70, zC h72, -lenA, HH1, zI, -List.map_take, -List.map_drop, ↓htk2, ↓htk1, ↓htk3, ↓hrl, evOpt, sliceA, bounds, hiB, bound, HH3]; rfl) ?_)
     simp only [zT, zB]
     by_cases hz : V = 0
     ·rw [if_pos hz] at hst
      refine runs_cond (x := true) (by simp [hz]) ?_
      refine runs_exit ?_
      simp only [zT, zB, if_true, if_false, reduceIte, Nat.reduceEqDiff, Nat.succ_ne_zero, Nat.one_ne_zero, Nat.zero_ne_one]
      refine zR (zO (by simp [zC h70, zC h72, -lenA, HH1, zI, -List.map_take, -List.map_drop, ↓htk2, ↓htk1, ↓htk3, ↓hrl, evOpt, sliceA, bounds, hiB, bound, HH3, hz]; rfl) ?_)
      simp only [zT, zB]
      exact ⟨js.length - (p + 1), by omega, p + 1, q + 1, _, _, _, _, by omega, rfl, by omega, hst, by simp [trim, zC h70, zC h72, -lenA, HH1, zI, -List.map_take, -List.map_drop, ↓htk2, ↓htk1, ↓htk3, ↓hrl, evOpt, sliceA, bounds, hiB, bound, HH3, hz]⟩
     ·rw [if_neg hz] at hst
      have hzb : (V == 0) = false := by simpa using hz
      refine runs_cond (x := false) (by simp [hz]) ?_
      refine zK ?_
      simp only [zT, zB]
      refine zS ?_
      refine runs_drw (by simp (maxSteps := 3000000) [zC h70, zC h72, -lenA, HH1, zI, -List.map_take, -List.map_drop, ↓htk2, ↓htk1, ↓htk3, ↓hrl, evOpt, sliceA, bounds, hiB, bound, HH3, hz, hzb]; rfl) ?_
      simp only [zT, zB]
      refine zS ?_
      refine zS ?_
      refine zR (zO (by simp [zC h70, zC h72, -lenA, HH1, zI, -List.map_take, -List.map_drop, ↓htk2, ↓htk1, ↓htk3, ↓hrl, evOpt, sliceA, bounds, hiB, bound, HH3, hz, hzb]; rfl) ?_)
      simp only [zT, zB]
      rcases b4 with _ | _
      ·simp only [Bool.false_eq_true, if_false] at hst
       refine runs_cond (x := false) (by simp) ?_
       refine zK ?_
       simp only [zT, zB]
       refine runs_drw (by simp (maxSteps := 3000000) [zC h70, zC h72, -lenA, HH1, zI, -List.map_take, -List.map_drop, ↓htk2, ↓htk1, ↓htk3, ↓hrl, evOpt, sliceA, bounds, hiB, bound, HH3, hz, hzb]; rfl) ?_
       simp only [zT, zB]
       refine zR (zO (by simp [zC h70, zC h72, -lenA, HH1, zI, -List.map_take, -List.map_drop, ↓htk2, ↓htk1, ↓htk3, ↓hrl, evOpt, sliceA, bounds, hiB, bound, HH3, hz, hzb]; rfl) ?_)
       simp only [zT, zB]
       exact ⟨js.length - (p + 1), by omega, p + 1, q + 1, _, _, _, _, by omega, rfl, by omega, hst, by simp [trim, zC h70, zC h72, -lenA, HH1, zI, -List.map_take, -List.map_drop, ↓htk2, ↓htk1, ↓htk3, ↓hrl, evOpt, sliceA, bounds, hiB, bound, HH3, hz, hzb]⟩
      ·simp only [if_true] at hst
       refine runs_cond (x := true) (by simp) ?_
       refine zR (zO (by simp [zC h70, zC h72, -lenA, HH1, zI, -List.map_take, -List.map_drop, ↓htk2, ↓htk1, ↓htk3, ↓hrl, evOpt, sliceA, bounds, hiB, bound, HH3, hz, hzb]; rfl) ?_)
       simp only [zT, zB]
       refine runs_drw (by simp (maxSteps := 3000000) [zC h70, zC h72, -lenA, HH1, zI, -List.map_take, -List.map_drop, ↓htk2, ↓htk1, ↓htk3, ↓hrl, evOpt, sliceA, bounds, hiB, bound, HH3, hz, hzb]; rfl) ?_
       simp only [zT, zB]
       refine zR (zO (by simp [zC h70, zC h72, -lenA, HH1, zI, -List.map_take, -List.map_drop, ↓htk2, ↓htk1, ↓htk3, ↓hrl, evOpt, sliceA, bounds, hiB, bound, HH3, hz, hzb]; rfl) ?_)
       simp only [zT, zB]
       exact ⟨js.length - (p + 1), by omega, p + 1, q + 1, _, _, _, _, by omega, rfl, by omega, hst, by simp [trim, zC h70, zC h72, -lenA, HH1, zI, -List.map_take, -List.map_drop, ↓htk2, ↓htk1, ↓htk3, ↓hrl, evOpt, sliceA, bounds, hiB, bound, HH3, hz, hzb]⟩
    ·have hlt3 := of_decide_eq_false hlt3
     obtain rfl : p = js.length := by omega
     have hbo := bAcc_ok hsh k js.length (Nat.le_refl _)
     have hst : bnd2 js (k + 1) = max (bnd2 js k) (b1 + b3 + b2) := by simp only [bnd2, hA]
     rw [hA] at hbo
     obtain ⟨bo1, bo2, bo3⟩ := hbo
     simp only at bo1 bo2 bo3
     have hw1 : W .i64 (b1 + b3) = b1 + b3 := W_fit (by omega)
     have hw2 : W .i64 (b1 + b3 + b2) = b1 + b3 + b2 := W_fit (by omega)
     have HH4 := zA hwi2 (zA hi2 (zA htn2 (zA hw1 hw2)))
     refine runs_exit ?_
     simp only [zT, zB, if_true, if_false, reduceIte, Nat.reduceEqDiff, Nat.succ_ne_zero, Nat.one_ne_zero, Nat.zero_ne_one]
     refine zR (zO (by simp [zC h70, zC h72, -lenA, HH1, HH4]; rfl) ?_)
     simp only [zT, zB]
     refine zR (zO (by simp [zC h70, zC h72, -lenA, HH1, HH4]; rfl) ?_)
     simp only [zT, zB]
     exact ⟨s.mach.toNat - (k + 1), by omega, k + 1, i + 1, by omega, rfl, by omega, by simp [trim, hst, zC h70, zC h72, -lenA, HH1, HH4]⟩
   ·have hlt2 := of_decide_eq_false hlt2
    have hkm2 : k = s.mach.toNat := by omega
    refine runs_exit ?_
    simp only [zT, zB, if_true, if_false, reduceIte, Nat.reduceEqDiff, Nat.succ_ne_zero, Nat.one_ne_zero, Nat.zero_ne_one]
    refine zS ?_
    refine zR (zO (by simp [zC h70, zC h72, -lenA, HH1, boundF, hkm2]; rfl) ?_)
    simp only [zT, zB]
    refine runs_ret ?_
    simp [zC h70, zC h72, -lenA, HH1, boundF, hkm2, trim]
 ·have HH5 := zA h70 (zA h72 (zA fc (zA ft (zA fj (zA rc (zA rt (zA rj (zA lc (zA lt (zA lj (zA cc1 (zA cc2 (zA ct1 (zA ct2 (zA cj1 (zA cj2 (zA hop h0)))))))))))))))))
  refine zS ?_
  refine zR (zO (by simp [zC h70, zC h72, -lenA, zWork, HH5]; rfl) ?_)
  simp only [zT, zB]
  refine zS ?_
  refine zS ?_
  refine zR (zO (by simp [zC h70, zC h72, -lenA, zWork, HH5]; rfl) ?_)
  simp only [zT, zB]
  refine zS ?_
  refine zR (zO (by simp [zC h70, zC h72, -lenA, zWork, HH5]; rfl) ?_)
  simp only [zT, zB]
  refine runs_cond (x := true) (by simp [h0]) ?_
  refine zS ?_
  refine zR (zO (by simp [zC h70, zC h72, -lenA, zWork, HH5]; rfl) ?_)
  simp only [zT, zB]
  refine runs_ret ?_
  simp [zC h70, zC h72, -lenA, zWork, HH5, trim]
noncomputable def FM : Nat → Option CFn := upd FL1 30 true (oBound)
theorem FM_ok : TabOk Tryz.prog GG FM := tab_add mixed FL1_ok fun args v ho => by
  unfold oBound at ho; split at ho <;> (try simp only [reduceCtorEq] at ho)
  rename_i m c t j
  split at ho <;> (try simp only [reduceCtorEq] at ho)
  rename_i cs ts js hc ht hj
  split at ho <;> (try simp only [reduceCtorEq] at ho)
  rename_i hz
  simp only [Option.some.injEq] at ho
  subst ho
  exact a30 Tryz.prog FL1 rfl rfl rfl ⟨m, cs, ts⟩ js c t j hc ht hj (size_ok.1 hz)
end
section
attribute [local simp] Function.comp_def List.all_append List.all_map above callA calleeA frNB_none frNB_row frN_agg frN_bool frN_int frN_nils frN_ref frN_sl frN_tup frN_vl frzG gather getR lim lop loud lowA lowR norm okG putG putR rbB_none rbB_row resG rowAt takeG
def encE (xs : List Int) : AVal := match xs with | [] => .vl [] true | x :: l => .vl ((x :: l).map rI) false
theorem dInts_encE (xs : List Int) : dInts (encE xs) = some xs := by
  cases xs with
  | nil => rfl
  | cons x l => exact dInts_vl (x :: l) false
theorem optAll_snoc {α : Type} {f : α → Option α} {l : List α} (h : ∀ x ∈ l, f x = some x) (a : α) : optAll f (l ++ [a]) = match f a with | some b => some (l ++ [b]) | none => none := by
  induction l with
  | nil => simp only [List.nil_append, optAll]; cases f a <;> rfl
  | cons x l ih =>
    have := ih fun y hy => h y (by simp [hy])
    simp only [List.cons_append, optAll, h x (by simp), this]
    cases f a <;> rfl
noncomputable def FN1 : Nat → Option CFn := FM
theorem FN1_ok : TabOk Tryz.prog GG FN1 := FM_ok
noncomputable def FN2 : Nat → Option CFn := updG FN1 60 [(25, [.slot 3])] []
theorem FN2_ok : TabOk Tryz.prog GG FN2 := tab_updG FN1_ok
def rowJ (j : FJob) : List AVal := [I j.kind, I j.ready, I j.due, encE j.mins]
theorem dJob_rowJ (j : FJob) : dJob (rowJ j) = some j := by
  simp only [dJob, rowJ, dInts_encE]
def encJ (js : List FJob) : AVal := match js with | [] => .vl [] true | x :: l => .vl ((x :: l).map rowJ) false
theorem encJ_ne {js : List FJob} (h : js ≠ []) : encJ js = .vl (js.map rowJ) false := by cases js with | nil => exact absurd rfl h | cons x l => rfl
theorem dJobs_encJ (js : List FJob) : dJobs (encJ js) = some js := by
  cases js with
  | nil => rfl
  | cons x l =>
    simp only [encJ, dJobs, rowsV]
    exact optAll_map (d := dJob) (enc := rowJ) dJob_rowJ (x :: l)
theorem frN_rowJ (n : Nat) (h : Heap) (js : List FJob) : ∀ r ∈ js.map rowJ, optAll (frN n h 5) r = some r := fun r hr => by
  obtain ⟨j, _, rfl⟩ := List.mem_map.1 hr
  refine optAll_self _ fun x hx => ?_
  simp only [rowJ, List.mem_cons, List.not_mem_nil, or_false] at hx
  rcases hx with rfl | rfl | rfl | rfl
  · rfl
  · rfl
  · rfl
  · cases j.mins <;> rfl
theorem frz_rowJ (H : Heap) (d : Nat) (js : List FJob) : optAll (optAll (frz false H (d + 1))) (js.map rowJ) = some (js.map rowJ) := optAll_self _ fun r hr => optAll_self _ fun x hx => by
  obtain ⟨j, _, rfl⟩ := List.mem_map.1 hr
  simp only [rowJ, List.mem_cons, List.not_mem_nil, or_false] at hx
  rcases hx with rfl | rfl | rfl | rfl
  · rfl
  · rfl
  · rfl
  · cases j.mins <;> rfl
theorem rowJ_rb (n d : Nat) (js : List FJob) : ((js.map rowJ).all fun r => r.all (rb n (d + 1))) = true := by
  simp only [List.all_eq_true]
  intro r hr z hz
  obtain ⟨j, _, rfl⟩ := List.mem_map.1 hr
  simp only [rowJ, List.mem_cons, List.not_mem_nil, or_false] at hz
  rcases hz with rfl | rfl | rfl | rfl
  · rfl
  · rfl
  · rfl
  · cases j.mins <;> rfl
theorem a60 (P : Program) (T : Nat → Option CFn) (hT : T 60 = some { c60 with body := annK [(25, [.slot 3])] [] c60.body }) (j : AVal) (js : List FJob) (hj : dJobs j = some js) (hl : js.length ≤ 1000) (hm : ∀ x ∈ js, x.mins.length ≤ 1000) : Answers P T 60 [j] [] fun v h => frz false h 5 v = some (encJ js) := by
 have fj := fun H d => dJobs_frz hj H d
 have rj := fun n d => dJobs_rb hj n d
 have lj := dJobs_len hj
 obtain ⟨cj1, cj2⟩ := dJobs_cells hj
 refine answers_of hT (orcF_none rfl) ?_
 simp only [oo, om, op, og, ci, cl, c60, annK, lkG, lkR, reduceIte, Nat.reduceEqDiff, reduceCtorEq, List.cons.injEq, and_true, and_false, false_and, true_and]
 have HH1 := zA fj (zA rj (zA lj (zA cj1 cj2)))
 refine zS ?_
 refine zR (zO (by simp [-lenA, HH1]; rfl) ?_)
 simp only [zT, zB]
 refine zS ?_
 refine zR (zO (by simp [-lenA, HH1]; rfl) ?_)
 simp only [zT, zB]
 refine zS ?_
 refine zS ?_
 refine zR (zO (by simp [-lenA, HH1]; rfl) ?_)
 simp only [zT, zB]
 refine zL ?_
 refine runs_loopG_inv (fun mm σ => ∃ (k : Nat) (i : Int), i = k ∧ js.length - k = mm ∧ k ≤ js.length ∧ ((k = 0 ∧ σ = ⟨[j, .any, .any, .sl 1 0 0 true, I i, .any, .any, .any, .any, .any, .any, .any, .any, .any, .any, .any, .any, .any, .any, .any, .any, .any, .any, .any, .any, .any, .any], [none, some (.row 4 [])]⟩) ∨ (∃ (p : Nat) (ac : List FJob), k = p + 1 ∧ ac = js.take k ∧ ac.length = p + 1 ∧ σ = ⟨[j, .any, .any, .sl 1 0 (p + 1) false, I i, .any, .any, .any, .any, .any, .any, .any, .any, .any, .any, .any, .any, .any, .any, .any, .any, .any, .any, .any, .any, .any, .any], [none, some (.row 4 (ac.map rowJ))]⟩))) (by simp [-lenA, HH1] <;> first | exact ⟨rfl, rfl⟩ | rfl) (⟨0, 0, rfl, rfl, Nat.zero_le _, .inl ⟨rfl, rfl⟩⟩) ?_
 rintro mm σ ⟨k, i, hik, rfl, hkl, ⟨hk0', rfl⟩ | ⟨p, ac, hkp, hac, hacl, rfl⟩⟩
 ·refine zS ?_
  refine zS ?_
  refine zR (zO (by simp [-lenA, HH1]; rfl) ?_)
  simp only [zT, zB]
  refine runs_cond_split (x := decide (i < (js.length : Int))) (by simp) (fun hlt => ?_) (fun hlt => ?_)
  ·have hlt2 := of_decide_eq_true hlt
   have hk0 : k < js.length := by omega
   have hEt : js.take (k + 1) = js.take k ++ [js[k]] := List.take_succ_eq_append_getElem hk0
   obtain ⟨rs, tj, wv, rfl, hr1, hr2, hwv⟩ := dJobs_get hj hk0
   have hkr : k < rs.length := by omega
   have hr4 : ∀ h, rs[k]'h = [I js[k].kind, I js[k].ready, I js[k].due, wv] := fun h => by rw [List.getElem?_eq_getElem h] at hr2; exact Option.some.inj hr2
   have rw5 := fun n d => dInts_rb hwv n d
   have fw5 := fun H d => dInts_frz hwv H d
   obtain ⟨cw1, cw2⟩ := dInts_cells hwv
   have hi0 : 0 ≤ i := by omega
   have htn : i.toNat = k := by omega
   have hwi : W .i64 (i + 1) = i + 1 := W_small (by omega)
   have hml := hm js[k] (List.getElem_mem hk0)
   generalize hX : js[k] = X at *
   obtain ⟨xk, xr, xd, xm⟩ := X
   simp only at hwv hml hr2 hr4
   have hnx : [(⟨xk, xr, xd, xm⟩ : FJob)] = js.take (k + 1) := by rw [hEt, hk0']; rfl
   have hap : [[I xk, I xr, I xd, encE xm]] = [(⟨xk, xr, xd, xm⟩ : FJob)].map rowJ := rfl
   rcases xm with _ | ⟨a, l⟩
   ·simp only [encE] at hap
    rcases dInts_cases hwv with ⟨rfl, _⟩ | ⟨tt, rfl⟩
    ·have HH2 := zA hi0 (zA htn (zA hk0 (zA hX (zA hwi (zA hkr (zA hr2 (zA hr4 (zA rw5 (zA fw5 (zA cw1 cw2))))))))))
     refine zK ?_
     simp only [zT, zB]
     refine zS ?_
     refine zL ?_
     refine zS ?_
     refine zR (zO (by simp [-lenA, HH1, zI, HH2]; rfl) ?_)
     simp only [zT, zB]
     refine zS ?_
     refine zR (zO (by simp [-lenA, HH1, zI, HH2]; rfl) ?_)
     simp only [zT, zB]
     refine zR (zO (by simp [-lenA, HH1, zI, HH2]; rfl) ?_)
     simp only [zT, zB]
     refine zR (zO (by simp [-lenA, HH1, zI, HH2]; rfl) ?_)
     simp only [zT, zB]
     exact ⟨js.length - (k + 1), _, _, by omega, by simp [-lenA, HH1, zI, HH2] <;> rfl, k + 1, i + 1, by omega, rfl, by omega, .inr ⟨0, _, by omega, hnx, rfl, rfl⟩⟩
    ·have HH3 := zA hi0 (zA htn (zA hk0 (zA hX (zA hwi (zA hkr (zA hr2 (zA hr4 (zA rw5 (zA fw5 (zA cw1 cw2))))))))))
     refine zK ?_
     simp only [zT, zB]
     refine zS ?_
     refine zL ?_
     refine zS ?_
     refine zR (zO (by simp [-lenA, HH1, zI, HH3]; rfl) ?_)
     simp only [zT, zB]
     refine zS ?_
     refine zR (zO (by simp [-lenA, HH1, zI, HH3]; rfl) ?_)
     simp only [zT, zB]
     refine zR (zO (by simp [-lenA, HH1, zI, HH3]; rfl) ?_)
     simp only [zT, zB]
     refine zR (zO (by simp [-lenA, HH1, zI, HH3]; rfl) ?_)
     simp only [zT, zB]
     exact ⟨js.length - (k + 1), _, _, by omega, by simp [-lenA, HH1, zI, HH3] <;> rfl, k + 1, i + 1, by omega, rfl, by omega, .inr ⟨0, _, by omega, hnx, rfl, rfl⟩⟩
   ·obtain ⟨tt, rfl⟩ := dInts_get hwv (k := 0) (by simp)
    simp only [encE] at hap
    have hll : l.length + 1 ≤ 1048576 := by simp at hml; omega
    have hrr : ((l.map rI).all fun r => r.length == 1) = true := by simp [rI]
    have hss : ((l.map rI).all fun r => r.all storable) = true := by simp [rI]
    have tkl : (l.map rI).take l.length = l.map rI := List.take_of_length_le (by simp)
    have HH4 := zA hi0 (zA htn (zA hk0 (zA hX (zA hwi (zA hkr (zA hr2 (zA hr4 (zA rw5 (zA fw5 (zA cw1 (zA cw2 (zA hll tkl))))))))))))
    refine zK ?_
    simp only [zT, zB]
    refine zS ?_
    refine zL ?_
    refine zS ?_
    refine zR (zO (by simp [-lenA, HH1, zI, ↓hrr, ↓hss, frz_mapI, HH4]; rfl) ?_)
    simp only [zT, zB]
    refine zS ?_
    refine zR (zO (by simp [-lenA, HH1, zI, ↓hrr, ↓hss, frz_mapI, HH4]; rfl) ?_)
    simp only [zT, zB]
    refine zR (zO (by simp [-lenA, HH1, zI, ↓hrr, ↓hss, frz_mapI, HH4]; rfl) ?_)
    simp only [zT, zB]
    refine zR (zO (by simp [-lenA, HH1, zI, ↓hrr, ↓hss, frz_mapI, HH4]; rfl) ?_)
    simp only [zT, zB]
    exact ⟨js.length - (k + 1), _, _, by omega, by simp [-lenA, HH1, zI, ↓hrr, ↓hss, frz_mapI, HH4] <;> rfl, k + 1, i + 1, by omega, rfl, by omega, .inr ⟨0, _, by omega, hnx, rfl, rfl⟩⟩
  ·have hx1 := of_decide_eq_false hlt
   have hkE : k = js.length := by omega
   have htE : js.take k = js := List.take_of_length_le (by omega)
   have hE0 : js = [] := List.eq_nil_of_length_eq_zero (by omega)
   subst hE0
   refine runs_exit ?_
   simp only [zT, zB, if_true, if_false, reduceIte, Nat.reduceEqDiff, Nat.succ_ne_zero, Nat.one_ne_zero, Nat.zero_ne_one]
   refine zS ?_
   refine zR (zO (by simp [-lenA, HH1]; rfl) ?_)
   simp only [zT, zB]
   refine runs_ret ?_
   simp [-lenA, HH1, trim, encJ]
 ·have tk : (ac.map rowJ).take (p + 1) = ac.map rowJ := List.take_of_length_le (by simp [hacl])
  have hlac : p + 1 + 1 ≤ 1048576 := by omega
  have hr3 : ∀ e : FJob, (rowJ e).length = 4 := fun _ => rfl
  have hfr := fun n h r => optAll_snoc (frN_rowJ n h ac) r
  have hrj := rowJ_rb 1 4 ac
  refine zS ?_
  refine zS ?_
  refine zR (zO (by simp [-lenA, HH1, tk, hlac, hacl, hr3, ↓hfr, ↓hrj]; rfl) ?_)
  simp only [zT, zB]
  refine runs_cond_split (x := decide (i < (js.length : Int))) (by simp) (fun hlt => ?_) (fun hlt => ?_)
  ·have hlt2 := of_decide_eq_true hlt
   have hk0 : k < js.length := by omega
   have hEt : js.take (k + 1) = js.take k ++ [js[k]] := List.take_succ_eq_append_getElem hk0
   obtain ⟨rs, tj, wv, rfl, hr1, hr2, hwv⟩ := dJobs_get hj hk0
   have hkr : k < rs.length := by omega
   have hr4 : ∀ h, rs[k]'h = [I js[k].kind, I js[k].ready, I js[k].due, wv] := fun h => by rw [List.getElem?_eq_getElem h] at hr2; exact Option.some.inj hr2
   have rw5 := fun n d => dInts_rb hwv n d
   have fw5 := fun H d => dInts_frz hwv H d
   obtain ⟨cw1, cw2⟩ := dInts_cells hwv
   have hi0 : 0 ≤ i := by omega
   have htn : i.toNat = k := by omega
   have hwi : W .i64 (i + 1) = i + 1 := W_small (by omega)
   have hml := hm js[k] (List.getElem_mem hk0)
   generalize hX : js[k] = X at *
   obtain ⟨xk, xr, xd, xm⟩ := X
   simp only at hwv hml hr2 hr4
   have hnx : ac ++ [(⟨xk, xr, xd, xm⟩ : FJob)] = js.take (k + 1) := by rw [hEt, ← hac]
   have hnl : (ac ++ [(⟨xk, xr, xd, xm⟩ : FJob)]).length = p + 1 + 1 := by simp [hacl]
   have hap : ac.map rowJ ++ [[I xk, I xr, I xd, encE xm]] = (ac ++ [(⟨xk, xr, xd, xm⟩ : FJob)]).map rowJ := by rw [List.map_append]; rfl
   rcases xm with _ | ⟨a, l⟩
   ·simp only [encE] at hap
    rcases dInts_cases hwv with ⟨rfl, _⟩ | ⟨tt, rfl⟩
    ·have HH5 := zA tk (zA hlac (zA hacl (zA hr3 (zA hi0 (zA htn (zA hk0 (zA hX (zA hwi (zA hkr (zA hr2 (zA hr4 (zA rw5 (zA fw5 (zA cw1 (zA cw2 hap)))))))))))))))
     refine zK ?_
     simp only [zT, zB]
     refine zS ?_
     refine zL ?_
     refine zS ?_
     refine zR (zO (by simp [-lenA, HH1, ↓hfr, ↓hrj, zI, HH5]; rfl) ?_)
     simp only [zT, zB]
     refine zS ?_
     refine zR (zO (by simp [-lenA, HH1, ↓hfr, ↓hrj, zI, HH5]; rfl) ?_)
     simp only [zT, zB]
     refine zR (zO (by simp [-lenA, HH1, ↓hfr, ↓hrj, zI, HH5]; rfl) ?_)
     simp only [zT, zB]
     refine zR (zO (by simp [-lenA, HH1, ↓hfr, ↓hrj, zI, HH5]; rfl) ?_)
     simp only [zT, zB]
     exact ⟨js.length - (k + 1), _, _, by omega, by simp [-lenA, HH1, ↓hfr, ↓hrj, zI, HH5] <;> rfl, k + 1, i + 1, by omega, rfl, by omega, .inr ⟨p + 1, _, by omega, hnx, hnl, rfl⟩⟩
    ·have HH6 := zA tk (zA hlac (zA hacl (zA hr3 (zA hi0 (zA htn (zA hk0 (zA hX (zA hwi (zA hkr (zA hr2 (zA hr4 (zA rw5 (zA fw5 (zA cw1 (zA cw2 hap)))))))))))))))
     refine zK ?_
     simp only [zT, zB]
     refine zS ?_
     refine zL ?_
     refine zS ?_
     refine zR (zO (by simp [-lenA, HH1, ↓hfr, ↓hrj, zI, HH6]; rfl) ?_)
     simp only [zT, zB]
     refine zS ?_
     refine zR (zO (by simp [-lenA, HH1, ↓hfr, ↓hrj, zI, HH6]; rfl) ?_)
     simp only [zT, zB]
     refine zR (zO (by simp [-lenA, HH1, ↓hfr, ↓hrj, zI, HH6]; rfl) ?_)
     simp only [zT, zB]
     refine zR (zO (by simp [-lenA, HH1, ↓hfr, ↓hrj, zI, HH6]; rfl) ?_)
     simp only [zT, zB]
     exact ⟨js.length - (k + 1), _, _, by omega, by simp [-lenA, HH1, ↓hfr, ↓hrj, zI, HH6] <;> rfl, k + 1, i + 1, by omega, rfl, by omega, .inr ⟨p + 1, _, by omega, hnx, hnl, rfl⟩⟩
   ·obtain ⟨tt, rfl⟩ := dInts_get hwv (k := 0) (by simp)
    simp only [encE] at hap
    have hll : l.length + 1 ≤ 1048576 := by simp at hml; omega
    have hrr : ((l.map rI).all fun r => r.length == 1) = true := by simp [rI]
    have hss : ((l.map rI).all fun r => r.all storable) = true := by simp [rI]
    have tkl : (l.map rI).take l.length = l.map rI := List.take_of_length_le (by simp)
    have HH7 := zA tk (zA hlac (zA hacl (zA hr3 (zA hi0 (zA htn (zA hk0 (zA hX (zA hwi (zA hkr (zA hr2 (zA hr4 (zA rw5 (zA fw5 (zA cw1 (zA cw2 (zA hll (zA tkl hap)))))))))))))))))
    refine zK ?_
    simp only [zT, zB]
    refine zS ?_
    refine zL ?_
    refine zS ?_
    refine zR (zO (by simp [-lenA, HH1, ↓hfr, ↓hrj, zI, ↓hrr, ↓hss, frz_mapI, HH7]; rfl) ?_)
    simp only [zT, zB]
    refine zS ?_
    refine zR (zO (by simp [-lenA, HH1, ↓hfr, ↓hrj, zI, ↓hrr, ↓hss, frz_mapI, HH7]; rfl) ?_)
    simp only [zT, zB]
    refine zR (zO (by simp [-lenA, HH1, ↓hfr, ↓hrj, zI, ↓hrr, ↓hss, frz_mapI, HH7]; rfl) ?_)
    simp only [zT, zB]
    refine zR (zO (by simp [-lenA, HH1, ↓hfr, ↓hrj, zI, ↓hrr, ↓hss, frz_mapI, HH7]; rfl) ?_)
    simp only [zT, zB]
    exact ⟨js.length - (k + 1), _, _, by omega, by simp [-lenA, HH1, ↓hfr, ↓hrj, zI, ↓hrr, ↓hss, frz_mapI, HH7] <;> rfl, k + 1, i + 1, by omega, rfl, by omega, .inr ⟨p + 1, _, by omega, hnx, hnl, rfl⟩⟩
  ·have hx1 := of_decide_eq_false hlt
   have hkE : k = js.length := by omega
   have htE : js.take k = js := List.take_of_length_le (by omega)
   rw [htE] at hac
   subst hac
   rw [encJ_ne (by intro e; rw [e] at hacl; simp at hacl)]
   refine runs_exit ?_
   simp only [zT, zB, if_true, if_false, reduceIte, Nat.reduceEqDiff, Nat.succ_ne_zero, Nat.one_ne_zero, Nat.zero_ne_one]
   refine zS ?_
   refine zR (zO (by simp [-lenA, HH1, tk, hlac, hacl, hr3, ↓hfr, ↓hrj, frz_rowJ]; rfl) ?_)
   simp only [zT, zB]
   refine runs_ret ?_
   simp [-lenA, HH1, tk, hlac, hacl, hr3, ↓hfr, ↓hrj, frz_rowJ, trim]
end
section
attribute [local simp] Function.comp_def List.all_append List.all_map above callA calleeA frNB_none frNB_row frN_agg frN_bool frN_int frN_nils frN_ref frN_sl frN_tup frN_vl frzG gather getR lim lop loud lowA lowR norm okG putG putR rbB_none rbB_row resG rowAt takeG
def oJobs : List AVal → Option AVal
  | [j] => match dJobs j with
    | some js => if js.length ≤ 1000 ∧ ∀ x ∈ js, x.mins.length ≤ 1000 then some (encJ js) else none
    | none => none
  | _ => none
theorem jobs_eq {j : AVal} {js : List FJob} (hj : dJobs j = some js) (h : js.length ≤ 1000 ∧ ∀ x ∈ js, x.mins.length ≤ 1000) : oJobs [j] = some (encJ js) := by
  simp only [oJobs, hj]; rw [if_pos h]
theorem a17 (P : Program) (T : Nat → Option CFn) (hT : T 17 = some c17) (h60 : T 60 = some { c60 with body := annK [(25, [.slot 3])] [] c60.body, frsh := false, orc := oJobs }) (j : AVal) (js : List FJob) (hj : dJobs j = some js) (hl : js.length ≤ 1000) (hm : ∀ x ∈ js, x.mins.length ≤ 1000) : Answers P T 17 [j] [] fun v h => frz false h 5 v = some (encJ js) := by
 have fj := fun H d => dJobs_frz hj H d
 have rj := fun n d => dJobs_rb hj n d
 have h := jobs_eq hj ⟨hl, hm⟩
 have he := dJobs_encJ js
 generalize encJ js = e at *
 have fe := fun H d => dJobs_frz he H d
 refine answers_of hT (orcF_none rfl) ?_
 simp only [oo, om, op, og, ci, cl, c17]
 have HH1 := zA h60 (zA fj (zA rj (zA h fe)))
 refine zS ?_
 refine zR (zO (by simp [zC h60, HH1]; rfl) ?_)
 simp only [zT, zB]
 refine zS ?_
 refine zR (zO (by simp [zC h60, HH1]; rfl) ?_)
 simp only [zT, zB]
 refine runs_ret ?_
 simp [zC h60, HH1, trim]
noncomputable def FO1_60 : Nat → Option CFn := upd FN2 60 false (oJobs)
theorem FO1_60_ok : TabOk Tryz.prog GG FO1_60 := tab_add mixed FN2_ok fun args v ho => by
  unfold oJobs at ho; split at ho <;> (try simp only [reduceCtorEq] at ho)
  rename_i j
  split at ho <;> (try simp only [reduceCtorEq] at ho)
  rename_i js hj
  split at ho <;> (try simp only [reduceCtorEq] at ho)
  rename_i hg
  simp only [Option.some.injEq] at ho
  subst ho
  exact a60 Tryz.prog FN2 rfl  j js hj hg.1 hg.2
noncomputable def FO1 : Nat → Option CFn := upd FO1_60 17 false (oJobs)
theorem FO1_ok : TabOk Tryz.prog GG FO1 := tab_add mixed FO1_60_ok fun args v ho => by
  unfold oJobs at ho; split at ho <;> (try simp only [reduceCtorEq] at ho)
  rename_i j
  split at ho <;> (try simp only [reduceCtorEq] at ho)
  rename_i js hj
  split at ho <;> (try simp only [reduceCtorEq] at ho)
  rename_i hg
  simp only [Option.some.injEq] at ho
  subst ho
  exact a17 Tryz.prog FO1_60 rfl rfl j js hj hg.1 hg.2
noncomputable def FO2 : Nat → Option CFn := updG FO1 59 [(30, [.cell 3 1])] []
theorem FO2_ok : TabOk Tryz.prog GG FO2 := tab_updG FO1_ok
def rowC (l : List Int) : List AVal := [encE l]
def encC (cs : List (List Int)) : AVal := match cs with | [] => .nils | x :: l => .vl ((x :: l).map rowC) false
theorem encC_ne {cs : List (List Int)} (h : cs ≠ []) : encC cs = .vl (cs.map rowC) false := by cases cs with | nil => exact absurd rfl h | cons x l => rfl
theorem dInts2_encC (cs : List (List Int)) : dInts2 (encC cs) = some cs := by
  cases cs with
  | nil => rfl
  | cons x l =>
    simp only [encC, dInts2, rowsV]
    exact optAll_map (d := dRow1) (enc := rowC) (fun l => dInts_encE l) (x :: l)
def encT (ts : List FStop) : AVal := match ts with | [] => .vl [] true | x :: l => .vl ((x :: l).map rS3) false
theorem dStops_encT (ts : List FStop) : dStops (encT ts) = some ts := by
  cases ts with
  | nil => rfl
  | cons x l => exact dStops_of (v := .vl ((x :: l).map rS3) false) rfl
theorem frN_rowC (n : Nat) (h : Heap) (cs : List (List Int)) : ∀ r ∈ cs.map rowC, optAll (frN n h 5) r = some r := fun r hr => by
  obtain ⟨j, _, rfl⟩ := List.mem_map.1 hr
  refine optAll_self _ fun x hx => ?_
  simp only [rowC, List.mem_cons, List.not_mem_nil, or_false] at hx
  subst hx
  cases j <;> rfl
theorem frz_rowC (H : Heap) (d : Nat) (cs : List (List Int)) : optAll (optAll (frz false H (d + 1))) (cs.map rowC) = some (cs.map rowC) := optAll_self _ fun r hr => optAll_self _ fun x hx => by
  obtain ⟨j, _, rfl⟩ := List.mem_map.1 hr
  simp only [rowC, List.mem_cons, List.not_mem_nil, or_false] at hx
  subst hx
  cases j <;> rfl
theorem rowC_rb (n d : Nat) (cs : List (List Int)) : ((cs.map rowC).all fun r => r.all (rb n (d + 1))) = true := by
  simp only [List.all_eq_true]
  intro r hr z hz
  obtain ⟨j, _, rfl⟩ := List.mem_map.1 hr
  simp only [rowC, List.mem_cons, List.not_mem_nil, or_false] at hz
  subst hz
  cases j <;> rfl
theorem frz_mapT (nv : Bool) (H : Heap) (d : Nat) (ts : List FStop) : optAll (optAll (frz nv H (d + 1))) (ts.map rS3) = some (ts.map rS3) := optAll_self _ fun r hr => optAll_self _ fun x hx => by
  obtain ⟨j, _, rfl⟩ := List.mem_map.1 hr
  simp only [rS3, List.mem_cons, List.not_mem_nil, or_false] at hx
  rcases hx with rfl | rfl | rfl <;> rfl
theorem rS3_rb (n d : Nat) (ts : List FStop) : ((ts.map rS3).all fun r => r.all (rb n (d + 1))) = true := by
  simp only [List.all_eq_true]
  intro r hr z hz
  obtain ⟨j, _, rfl⟩ := List.mem_map.1 hr
  simp only [rS3, List.mem_cons, List.not_mem_nil, or_false] at hz
  rcases hz with rfl | rfl | rfl <;> rfl
theorem dStops_cases {v : AVal} {xs : List FStop} (h : dStops v = some xs) : (v = .nils ∧ xs = []) ∨ ∃ t, v = .vl (xs.map rS3) t := by
  rcases rowsV_cases (dStops_rows h) with ⟨h1, h2⟩ | h1
  · exact .inl ⟨h1, List.map_eq_nil_iff.1 h2⟩
  · exact .inr h1
theorem a59 (P : Program) (T : Nat → Option CFn) (hT : T 59 = some { c59 with body := annK [(30, [.cell 3 1])] [] c59.body }) (m : Int) (c t : AVal) (cs : List (List Int)) (ts : List FStop) (hc : dInts2 c = some cs) (ht : dStops t = some ts) (hm1 : cs.length ≤ 1000) (hm2 : ∀ x ∈ cs, x.length ≤ 1000) (hm3 : ts.length ≤ 1000) : Answers P T 59 [.agg [I m, c, t]] [] fun v h => frz false h 5 v = some (.agg [I m, encC cs, encT ts]) := by
 have fc := fun H d => dInts2_frz hc H d
 have ft := fun H d => dStops_frz ht H d
 have rc := fun n d => dInts2_rb hc n d
 have rt := fun n d => dStops_rb ht n d
 have lc := dInts2_len hc
 have lt := dStops_len ht
 obtain ⟨cc1, cc2⟩ := dInts2_cells hc
 obtain ⟨ct1, ct2⟩ := dStops_cells ht
 refine answers_of hT (orcF_none rfl) ?_
 simp only [oo, om, op, og, ci, cl, c59, annK, lkG, lkR, reduceIte, Nat.reduceEqDiff, reduceCtorEq, List.cons.injEq, and_true, and_false, false_and, true_and]
 rcases ts with _ | ⟨ta, tl⟩
 ·rcases dStops_cases ht with ⟨rfl, _⟩ | ⟨tt, rfl⟩
  ·have HH1 := zA fc (zA ft (zA rc (zA rt (zA lc (zA lt (zA cc1 (zA cc2 (zA ct1 ct2))))))))
   refine zS ?_
   refine zR (zO (by simp [-lenA, HH1]; rfl) ?_)
   simp only [zT, zB]
   refine zS ?_
   refine runs_drw (by simp (maxSteps := 3000000) [-lenA, HH1]; rfl) ?_
   simp only [zT, zB]
   refine zS ?_
   refine zS ?_
   refine zR (zO (by simp [-lenA, HH1]; rfl) ?_)
   simp only [zT, zB]
   refine zL ?_
   refine runs_loopG_inv (fun mm σ => ∃ (k : Nat) (i : Int), i = k ∧ cs.length - k = mm ∧ k ≤ cs.length ∧ ((k = 0 ∧ σ = ⟨[.any, .ref 0 0 0, .ref 1 0 0, .ref 9 0 0, I i, .any, .any, .any, .any, .any, .any, .any, .any, .any, .any, .any, .any, .any, .any, .any, .any, .any, .any, .any, .any, .any, .any, .any, .any, .any, .any, .any], [some (.row 3 [[I m, c, .nils]]), some (.row 3 [[I 0, .nils, .nils]]), none, none, some (.row 3 []), none, none, none, none, some (.row 3 [[I m, .nils, .sl 4 0 0 true]]), none, none]⟩) ∨ (∃ (p : Nat) (ac : List (List Int)), k = p + 1 ∧ ac = cs.take k ∧ ac.length = p + 1 ∧ σ = ⟨[.any, .ref 0 0 0, .ref 1 0 0, .ref 9 0 0, I i, .any, .any, .any, .any, .any, .any, .any, .any, .any, .any, .any, .any, .any, .any, .any, .any, .any, .any, .any, .any, .any, .any, .any, .any, .any, .any, .any], [some (.row 3 [[I m, c, .nils]]), some (.row 3 [[I 0, .nils, .nils]]), none, none, some (.row 3 []), none, none, none, none, some (.row 3 [[I m, .sl 11 0 (p + 1) false, .sl 4 0 0 true]]), none, some (.row 1 (ac.map rowC))]⟩))) (by simp [-lenA, HH1] <;> first | exact ⟨rfl, rfl⟩ | rfl) (⟨0, 0, rfl, rfl, Nat.zero_le _, .inl ⟨rfl, rfl⟩⟩) ?_
   rintro mm σ ⟨k, i, hik, rfl, hkl, ⟨hk0', rfl⟩ | ⟨p, ac, hkp, hac, hacl, rfl⟩⟩
   ·refine zS ?_
    refine zS ?_
    refine zR (zO (by simp [-lenA, HH1]; rfl) ?_)
    simp only [zT, zB]
    refine runs_cond_split (x := decide (i < (cs.length : Int))) (by simp) (fun hlt => ?_) (fun hlt => ?_)
    ·have hlt2 := of_decide_eq_true hlt
     have hk0 : k < cs.length := by omega
     have hEt : cs.take (k + 1) = cs.take k ++ [cs[k]] := List.take_succ_eq_append_getElem hk0
     obtain ⟨rs, tj, wv, rfl, hr1, hr2, hwv⟩ := dInts2_get hc hk0
     have hkr : k < rs.length := by omega
     have hr4 : ∀ h, rs[k]'h = [wv] := fun h => by rw [List.getElem?_eq_getElem h] at hr2; exact Option.some.inj hr2
     have rw5 := fun n d => dInts_rb hwv n d
     have fw5 := fun H d => dInts_frz hwv H d
     obtain ⟨cw1, cw2⟩ := dInts_cells hwv
     have hi0 : 0 ≤ i := by omega
     have htn : i.toNat = k := by omega
     have hwi : W .i64 (i + 1) = i + 1 := W_small (by omega)
     have hml := hm2 cs[k] (List.getElem_mem hk0)
     generalize hX : cs[k] = xm at *
     have hnx : [xm] = cs.take (k + 1) := by rw [hEt, hk0']; rfl
     have hap : [[encE xm]] = [xm].map rowC := rfl
     rcases xm with _ | ⟨a, l⟩
     ·simp only [encE] at hap
      rcases dInts_cases hwv with ⟨rfl, _⟩ | ⟨tt, rfl⟩
      ·have HH2 := zA hi0 (zA htn (zA hk0 (zA hX (zA hwi (zA hkr (zA hr2 (zA hr4 (zA rw5 (zA fw5 (zA cw1 cw2))))))))))
       refine zK ?_
       simp only [zT, zB]
       refine zS ?_
       refine zL ?_
       refine runs_drw (by simp (maxSteps := 3000000) [-lenA, HH1, zI, HH2]; rfl) ?_
       simp only [zT, zB]
       refine zR (zO (by simp [-lenA, HH1, zI, HH2]; rfl) ?_)
       simp only [zT, zB]
       exact ⟨cs.length - (k + 1), _, _, by omega, by simp [-lenA, HH1, zI, HH2] <;> rfl, k + 1, i + 1, by omega, rfl, by omega, .inr ⟨0, _, by omega, hnx, rfl, rfl⟩⟩
      ·have HH3 := zA hi0 (zA htn (zA hk0 (zA hX (zA hwi (zA hkr (zA hr2 (zA hr4 (zA rw5 (zA fw5 (zA cw1 cw2))))))))))
       refine zK ?_
       simp only [zT, zB]
       refine zS ?_
       refine zL ?_
       refine runs_drw (by simp (maxSteps := 3000000) [-lenA, HH1, zI, HH3]; rfl) ?_
       simp only [zT, zB]
       refine zR (zO (by simp [-lenA, HH1, zI, HH3]; rfl) ?_)
       simp only [zT, zB]
       exact ⟨cs.length - (k + 1), _, _, by omega, by simp [-lenA, HH1, zI, HH3] <;> rfl, k + 1, i + 1, by omega, rfl, by omega, .inr ⟨0, _, by omega, hnx, rfl, rfl⟩⟩
     ·obtain ⟨tt, rfl⟩ := dInts_get hwv (k := 0) (by simp)
      simp only [encE] at hap
      have hll : l.length + 1 ≤ 1048576 := by simp at hml; omega
      have hrr : ((l.map rI).all fun r => r.length == 1) = true := by simp [rI]
      have hss : ((l.map rI).all fun r => r.all storable) = true := by simp [rI]
      have tkl : (l.map rI).take l.length = l.map rI := List.take_of_length_le (by simp)
      have HH4 := zA hi0 (zA htn (zA hk0 (zA hX (zA hwi (zA hkr (zA hr2 (zA hr4 (zA rw5 (zA fw5 (zA cw1 (zA cw2 (zA hll tkl))))))))))))
      refine zK ?_
      simp only [zT, zB]
      refine zS ?_
      refine zL ?_
      refine runs_drw (by simp (maxSteps := 3000000) [-lenA, HH1, zI, ↓hrr, ↓hss, frz_mapI, HH4]; rfl) ?_
      simp only [zT, zB]
      refine zR (zO (by simp [-lenA, HH1, zI, ↓hrr, ↓hss, frz_mapI, HH4]; rfl) ?_)
      simp only [zT, zB]
      exact ⟨cs.length - (k + 1), _, _, by omega, by simp [-lenA, HH1, zI, ↓hrr, ↓hss, frz_mapI, HH4] <;> rfl, k + 1, i + 1, by omega, rfl, by omega, .inr ⟨0, _, by omega, hnx, rfl, rfl⟩⟩
    ·have hx1 := of_decide_eq_false hlt
     have hkE : k = cs.length := by omega
     have htE : cs.take k = cs := List.take_of_length_le (by omega)
     have hE0 : cs = [] := List.eq_nil_of_length_eq_zero (by omega)
     subst hE0
     refine runs_exit ?_
     simp only [zT, zB, if_true, if_false, reduceIte, Nat.reduceEqDiff, Nat.succ_ne_zero, Nat.one_ne_zero, Nat.zero_ne_one]
     refine zS ?_
     refine zR (zO (by simp [-lenA, HH1]; rfl) ?_)
     simp only [zT, zB]
     refine runs_ret ?_
     simp [-lenA, HH1, trim, encC, encT]
   ·have tk : (ac.map rowC).take (p + 1) = ac.map rowC := List.take_of_length_le (by simp [hacl])
    have hlac : p + 1 + 1 ≤ 1048576 := by omega
    have hr3 : ∀ e : List Int, (rowC e).length = 1 := fun _ => rfl
    have hfr := fun n h r => optAll_snoc (frN_rowC n h ac) r
    have hrj := rowC_rb 11 4 ac
    refine zS ?_
    refine zS ?_
    refine zR (zO (by simp [-lenA, HH1, tk, hlac, hacl, hr3, ↓hfr, ↓hrj]; rfl) ?_)
    simp only [zT, zB]
    refine runs_cond_split (x := decide (i < (cs.length : Int))) (by simp) (fun hlt => ?_) (fun hlt => ?_)
    ·have hlt2 := of_decide_eq_true hlt
     have hk0 : k < cs.length := by omega
     have hEt : cs.take (k + 1) = cs.take k ++ [cs[k]] := List.take_succ_eq_append_getElem hk0
     obtain ⟨rs, tj, wv, rfl, hr1, hr2, hwv⟩ := dInts2_get hc hk0
     have hkr : k < rs.length := by omega
     have hr4 : ∀ h, rs[k]'h = [wv] := fun h => by rw [List.getElem?_eq_getElem h] at hr2; exact Option.some.inj hr2
     have rw5 := fun n d => dInts_rb hwv n d
     have fw5 := fun H d => dInts_frz hwv H d
     obtain ⟨cw1, cw2⟩ := dInts_cells hwv
     have hi0 : 0 ≤ i := by omega
     have htn : i.toNat = k := by omega
     have hwi : W .i64 (i + 1) = i + 1 := W_small (by omega)
     have hml := hm2 cs[k] (List.getElem_mem hk0)
     generalize hX : cs[k] = xm at *
     have hnx : ac ++ [xm] = cs.take (k + 1) := by rw [hEt, ← hac]
     have hnl : (ac ++ [xm]).length = p + 1 + 1 := by simp [hacl]
     have hap : ac.map rowC ++ [[encE xm]] = (ac ++ [xm]).map rowC := by rw [List.map_append]; rfl
     rcases xm with _ | ⟨a, l⟩
     ·simp only [encE] at hap
      rcases dInts_cases hwv with ⟨rfl, _⟩ | ⟨tt, rfl⟩
      ·have HH5 := zA tk (zA hlac (zA hacl (zA hr3 (zA hi0 (zA htn (zA hk0 (zA hX (zA hwi (zA hkr (zA hr2 (zA hr4 (zA rw5 (zA fw5 (zA cw1 (zA cw2 hap)))))))))))))))
       refine zK ?_
       simp only [zT, zB]
       refine zS ?_
       refine zL ?_
       refine runs_drw (by simp (maxSteps := 3000000) [-lenA, HH1, ↓hfr, ↓hrj, zI, HH5]; rfl) ?_
       simp only [zT, zB]
       refine zR (zO (by simp [-lenA, HH1, ↓hfr, ↓hrj, zI, HH5]; rfl) ?_)
       simp only [zT, zB]
       exact ⟨cs.length - (k + 1), _, _, by omega, by simp [-lenA, HH1, ↓hfr, ↓hrj, zI, HH5] <;> rfl, k + 1, i + 1, by omega, rfl, by omega, .inr ⟨p + 1, _, by omega, hnx, hnl, rfl⟩⟩
      ·have HH6 := zA tk (zA hlac (zA hacl (zA hr3 (zA hi0 (zA htn (zA hk0 (zA hX (zA hwi (zA hkr (zA hr2 (zA hr4 (zA rw5 (zA fw5 (zA cw1 (zA cw2 hap)))))))))))))))
       refine zK ?_
       simp only [zT, zB]
       refine zS ?_
       refine zL ?_
       refine runs_drw (by simp (maxSteps := 3000000) [-lenA, HH1, ↓hfr, ↓hrj, zI, HH6]; rfl) ?_
       simp only [zT, zB]
       refine zR (zO (by simp [-lenA, HH1, ↓hfr, ↓hrj, zI, HH6]; rfl) ?_)
       simp only [zT, zB]
       exact ⟨cs.length - (k + 1), _, _, by omega, by simp [-lenA, HH1, ↓hfr, ↓hrj, zI, HH6] <;> rfl, k + 1, i + 1, by omega, rfl, by omega, .inr ⟨p + 1, _, by omega, hnx, hnl, rfl⟩⟩
     ·obtain ⟨tt, rfl⟩ := dInts_get hwv (k := 0) (by simp)
      simp only [encE] at hap
      have hll : l.length + 1 ≤ 1048576 := by simp at hml; omega
      have hrr : ((l.map rI).all fun r => r.length == 1) = true := by simp [rI]
      have hss : ((l.map rI).all fun r => r.all storable) = true := by simp [rI]
      have tkl : (l.map rI).take l.length = l.map rI := List.take_of_length_le (by simp)
      have HH7 := zA tk (zA hlac (zA hacl (zA hr3 (zA hi0 (zA htn (zA hk0 (zA hX (zA hwi (zA hkr (zA hr2 (zA hr4 (zA rw5 (zA fw5 (zA cw1 (zA cw2 (zA hll (zA tkl hap)))))))))))))))))
      refine zK ?_
      simp only [zT, zB]
      refine zS ?_
      refine zL ?_
      refine runs_drw (by simp (maxSteps := 3000000) [-lenA, HH1, ↓hfr, ↓hrj, zI, ↓hrr, ↓hss, frz_mapI, HH7]; rfl) ?_
      simp only [zT, zB]
      refine zR (zO (by simp [-lenA, HH1, ↓hfr, ↓hrj, zI, ↓hrr, ↓hss, frz_mapI, HH7]; rfl) ?_)
      simp only [zT, zB]
      exact ⟨cs.length - (k + 1), _, _, by omega, by simp [-lenA, HH1, ↓hfr, ↓hrj, zI, ↓hrr, ↓hss, frz_mapI, HH7] <;> rfl, k + 1, i + 1, by omega, rfl, by omega, .inr ⟨p + 1, _, by omega, hnx, hnl, rfl⟩⟩
    ·have hx1 := of_decide_eq_false hlt
     have hkE : k = cs.length := by omega
     have htE : cs.take k = cs := List.take_of_length_le (by omega)
     rw [htE] at hac
     subst hac
     rw [encC_ne (by intro e; rw [e] at hacl; simp at hacl)]
     refine runs_exit ?_
     simp only [zT, zB, if_true, if_false, reduceIte, Nat.reduceEqDiff, Nat.succ_ne_zero, Nat.one_ne_zero, Nat.zero_ne_one]
     refine zS ?_
     refine zR (zO (by simp [-lenA, HH1, tk, hlac, hacl, hr3, ↓hfr, ↓hrj, frz_rowC]; rfl) ?_)
     simp only [zT, zB]
     refine runs_ret ?_
     simp [-lenA, HH1, tk, hlac, hacl, hr3, ↓hfr, ↓hrj, frz_rowC, trim, encT]
  ·have HH8 := zA fc (zA ft (zA rc (zA rt (zA lc (zA lt (zA cc1 (zA cc2 (zA ct1 ct2))))))))
   refine zS ?_
   refine zR (zO (by simp [-lenA, HH8]; rfl) ?_)
   simp only [zT, zB]
   refine zS ?_
   refine runs_drw (by simp (maxSteps := 3000000) [-lenA, HH8]; rfl) ?_
   simp only [zT, zB]
   refine zS ?_
   refine zS ?_
   refine zR (zO (by simp [-lenA, HH8]; rfl) ?_)
   simp only [zT, zB]
   refine zL ?_
   refine runs_loopG_inv (fun mm σ => ∃ (k : Nat) (i : Int), i = k ∧ cs.length - k = mm ∧ k ≤ cs.length ∧ ((k = 0 ∧ σ = ⟨[.any, .ref 0 0 0, .ref 1 0 0, .ref 9 0 0, I i, .any, .any, .any, .any, .any, .any, .any, .any, .any, .any, .any, .any, .any, .any, .any, .any, .any, .any, .any, .any, .any, .any, .any, .any, .any, .any, .any], [some (.row 3 [[I m, c, .vl [] tt]]), some (.row 3 [[I 0, .nils, .nils]]), none, none, some (.row 3 []), none, none, none, none, some (.row 3 [[I m, .nils, .sl 4 0 0 true]]), none, none]⟩) ∨ (∃ (p : Nat) (ac : List (List Int)), k = p + 1 ∧ ac = cs.take k ∧ ac.length = p + 1 ∧ σ = ⟨[.any, .ref 0 0 0, .ref 1 0 0, .ref 9 0 0, I i, .any, .any, .any, .any, .any, .any, .any, .any, .any, .any, .any, .any, .any, .any, .any, .any, .any, .any, .any, .any, .any, .any, .any, .any, .any, .any, .any], [some (.row 3 [[I m, c, .vl [] tt]]), some (.row 3 [[I 0, .nils, .nils]]), none, none, some (.row 3 []), none, none, none, none, some (.row 3 [[I m, .sl 11 0 (p + 1) false, .sl 4 0 0 true]]), none, some (.row 1 (ac.map rowC))]⟩))) (by simp [-lenA, HH8] <;> first | exact ⟨rfl, rfl⟩ | rfl) (⟨0, 0, rfl, rfl, Nat.zero_le _, .inl ⟨rfl, rfl⟩⟩) ?_
   rintro mm σ ⟨k, i, hik, rfl, hkl, ⟨hk0', rfl⟩ | ⟨p, ac, hkp, hac, hacl, rfl⟩⟩
   ·refine zS ?_
    refine zS ?_
    refine zR (zO (by simp [-lenA, HH8]; rfl) ?_)
    simp only [zT, zB]
    refine runs_cond_split (x := decide (i < (cs.length : Int))) (by simp) (fun hlt => ?_) (fun hlt => ?_)
    ·have hlt2 := of_decide_eq_true hlt
     have hk0 : k < cs.length := by omega
     have hEt : cs.take (k + 1) = cs.take k ++ [cs[k]] := List.take_succ_eq_append_getElem hk0
     obtain ⟨rs, tj, wv, rfl, hr1, hr2, hwv⟩ := dInts2_get hc hk0
     have hkr : k < rs.length := by omega
     have hr4 : ∀ h, rs[k]'h = [wv] := fun h => by rw [List.getElem?_eq_getElem h] at hr2; exact Option.some.inj hr2
     have rw5 := fun n d => dInts_rb hwv n d
     have fw5 := fun H d => dInts_frz hwv H d
     obtain ⟨cw1, cw2⟩ := dInts_cells hwv
     have hi0 : 0 ≤ i := by omega
     have htn : i.toNat = k := by omega
     have hwi : W .i64 (i + 1) = i + 1 := W_small (by omega)
     have hml := hm2 cs[k] (List.getElem_mem hk0)
     generalize hX : cs[k] = xm at *
     have hnx : [xm] = cs.take (k + 1) := by rw [hEt, hk0']; rfl
     have hap : [[encE xm]] = [xm].map rowC := rfl
     rcases xm with _ | ⟨a, l⟩
     ·simp only [encE] at hap
      rcases dInts_cases hwv with ⟨rfl, _⟩ | ⟨tt, rfl⟩
      ·have HH9 := zA hi0 (zA htn (zA hk0 (zA hX (zA hwi (zA hkr (zA hr2 (zA hr4 (zA rw5 (zA fw5 (zA cw1 cw2))))))))))
       refine zK ?_
       simp only [zT, zB]
       refine zS ?_
       refine zL ?_
       refine runs_drw (by simp (maxSteps := 3000000) [-lenA, HH8, zI, HH9]; rfl) ?_
       simp only [zT, zB]
       refine zR (zO (by simp [-lenA, HH8, zI, HH9]; rfl) ?_)
       simp only [zT, zB]
       exact ⟨cs.length - (k + 1), _, _, by omega, by simp [-lenA, HH8, zI, HH9] <;> rfl, k + 1, i + 1, by omega, rfl, by omega, .inr ⟨0, _, by omega, hnx, rfl, rfl⟩⟩
      ·have HH10 := zA hi0 (zA htn (zA hk0 (zA hX (zA hwi (zA hkr (zA hr2 (zA hr4 (zA rw5 (zA fw5 (zA cw1 cw2))))))))))
       refine zK ?_
       simp only [zT, zB]
       refine zS ?_
       refine zL ?_
       refine runs_drw (by simp (maxSteps := 3000000) [-lenA, HH8, zI, HH10]; rfl) ?_
       simp only [zT, zB]
       refine zR (zO (by simp [-lenA, HH8, zI, HH10]; rfl) ?_)
       simp only [zT, zB]
       exact ⟨cs.length - (k + 1), _, _, by omega, by simp [-lenA, HH8, zI, HH10] <;> rfl, k + 1, i + 1, by omega, rfl, by omega, .inr ⟨0, _, by omega, hnx, rfl, rfl⟩⟩
     ·obtain ⟨tt, rfl⟩ := dInts_get hwv (k := 0) (by simp)
      simp only [encE] at hap
      have hll : l.length + 1 ≤ 1048576 := by simp at hml; omega
      have hrr : ((l.map rI).all fun r => r.length == 1) = true := by simp [rI]
      have hss : ((l.map rI).all fun r => r.all storable) = true := by simp [rI]
      have tkl : (l.map rI).take l.length = l.map rI := List.take_of_length_le (by simp)
      have HH11 := zA hi0 (zA htn (zA hk0 (zA hX (zA hwi (zA hkr (zA hr2 (zA hr4 (zA rw5 (zA fw5 (zA cw1 (zA cw2 (zA hll tkl))))))))))))
      refine zK ?_
      simp only [zT, zB]
      refine zS ?_
      refine zL ?_
      refine runs_drw (by simp (maxSteps := 3000000) [-lenA, HH8, zI, ↓hrr, ↓hss, frz_mapI, HH11]; rfl) ?_
      simp only [zT, zB]
      refine zR (zO (by simp [-lenA, HH8, zI, ↓hrr, ↓hss, frz_mapI, HH11]; rfl) ?_)
      simp only [zT, zB]
      exact ⟨cs.length - (k + 1), _, _, by omega, by simp [-lenA, HH8, zI, ↓hrr, ↓hss, frz_mapI, HH11] <;> rfl, k + 1, i + 1, by omega, rfl, by omega, .inr ⟨0, _, by omega, hnx, rfl, rfl⟩⟩
    ·have hx1 := of_decide_eq_false hlt
     have hkE : k = cs.length := by omega
     have htE : cs.take k = cs := List.take_of_length_le (by omega)
     have hE0 : cs = [] := List.eq_nil_of_length_eq_zero (by omega)
     subst hE0
     refine runs_exit ?_
     simp only [zT, zB, if_true, if_false, reduceIte, Nat.reduceEqDiff, Nat.succ_ne_zero, Nat.one_ne_zero, Nat.zero_ne_one]
     refine zS ?_
     refine zR (zO (by simp [-lenA, HH8]; rfl) ?_)
     simp only [zT, zB]
     refine runs_ret ?_
     simp [-lenA, HH8, trim, encC, encT]
   ·have tk : (ac.map rowC).take (p + 1) = ac.map rowC := List.take_of_length_le (by simp [hacl])
    have hlac : p + 1 + 1 ≤ 1048576 := by omega
    have hr3 : ∀ e : List Int, (rowC e).length = 1 := fun _ => rfl
    have hfr := fun n h r => optAll_snoc (frN_rowC n h ac) r
    have hrj := rowC_rb 11 4 ac
    refine zS ?_
    refine zS ?_
    refine zR (zO (by simp [-lenA, HH8, tk, hlac, hacl, hr3, ↓hfr, ↓hrj]; rfl) ?_)
    simp only [zT, zB]
    refine runs_cond_split (x := decide (i < (cs.length : Int))) (by simp) (fun hlt => ?_) (fun hlt => ?_)
    ·have hlt2 := of_decide_eq_true hlt
     have hk0 : k < cs.length := by omega
     have hEt : cs.take (k + 1) = cs.take k ++ [cs[k]] := List.take_succ_eq_append_getElem hk0
     obtain ⟨rs, tj, wv, rfl, hr1, hr2, hwv⟩ := dInts2_get hc hk0
     have hkr : k < rs.length := by omega
     have hr4 : ∀ h, rs[k]'h = [wv] := fun h => by rw [List.getElem?_eq_getElem h] at hr2; exact Option.some.inj hr2
     have rw5 := fun n d => dInts_rb hwv n d
     have fw5 := fun H d => dInts_frz hwv H d
     obtain ⟨cw1, cw2⟩ := dInts_cells hwv
     have hi0 : 0 ≤ i := by omega
     have htn : i.toNat = k := by omega
     have hwi : W .i64 (i + 1) = i + 1 := W_small (by omega)
     have hml := hm2 cs[k] (List.getElem_mem hk0)
     generalize hX : cs[k] = xm at *
     have hnx : ac ++ [xm] = cs.take (k + 1) := by rw [hEt, ← hac]
     have hnl : (ac ++ [xm]).length = p + 1 + 1 := by simp [hacl]
     have hap : ac.map rowC ++ [[encE xm]] = (ac ++ [xm]).map rowC := by rw [List.map_append]; rfl
     rcases xm with _ | ⟨a, l⟩
     ·simp only [encE] at hap
      rcases dInts_cases hwv with ⟨rfl, _⟩ | ⟨tt, rfl⟩
      ·have HH12 := zA tk (zA hlac (zA hacl (zA hr3 (zA hi0 (zA htn (zA hk0 (zA hX (zA hwi (zA hkr (zA hr2 (zA hr4 (zA rw5 (zA fw5 (zA cw1 (zA cw2 hap)))))))))))))))
       refine zK ?_
       simp only [zT, zB]
       refine zS ?_
       refine zL ?_
       refine runs_drw (by simp (maxSteps := 3000000) [-lenA, HH8, ↓hfr, ↓hrj, zI, HH12]; rfl) ?_
       simp only [zT, zB]
       refine zR (zO (by simp [-lenA, HH8, ↓hfr, ↓hrj, zI, HH12]; rfl) ?_)
       simp only [zT, zB]
       exact ⟨cs.length - (k + 1), _, _, by omega, by simp [-lenA, HH8, ↓hfr, ↓hrj, zI, HH12] <;> rfl, k + 1, i + 1, by omega, rfl, by omega, .inr ⟨p + 1, _, by omega, hnx, hnl, rfl⟩⟩
      ·have HH13 := zA tk (zA hlac (zA hacl (zA hr3 (zA hi0 (zA htn (zA hk0 (zA hX (zA hwi (zA hkr (zA hr2 (zA hr4 (zA rw5 (zA fw5 (zA cw1 (zA cw2 hap)))))))))))))))
       refine zK ?_
       simp only [zT, zB]
       refine zS ?_
       refine zL ?_
       refine runs_drw (by simp (maxSteps := 3000000) [-lenA, HH8, ↓hfr, ↓hrj, zI, HH13]; rfl) ?_
       simp only [zT, zB]
       refine zR (zO (by simp [-lenA, HH8, ↓hfr, ↓hrj, zI, HH13]; rfl) ?_)
       simp only [zT, zB]
       exact ⟨cs.length - (k + 1), _, _, by omega, by simp [-lenA, HH8, ↓hfr, ↓hrj, zI, HH13] <;> rfl, k + 1, i + 1, by omega, rfl, by omega, .inr ⟨p + 1, _, by omega, hnx, hnl, rfl⟩⟩
     ·obtain ⟨tt, rfl⟩ := dInts_get hwv (k := 0) (by simp)
      simp only [encE] at hap
      have hll : l.length + 1 ≤ 1048576 := by simp at hml; omega
      have hrr : ((l.map rI).all fun r => r.length == 1) = true := by simp [rI]
      have hss : ((l.map rI).all fun r => r.all storable) = true := by simp [rI]
      have tkl : (l.map rI).take l.length = l.map rI := List.take_of_length_le (by simp)
      have HH14 := zA tk (zA hlac (zA hacl (zA hr3 (zA hi0 (zA htn (zA hk0 (zA hX (zA hwi (zA hkr (zA hr2 (zA hr4 (zA rw5 (zA fw5 (zA cw1 (zA cw2 (zA hll (zA tkl hap)))))))))))))))))
      refine zK ?_
      simp only [zT, zB]
      refine zS ?_
      refine zL ?_
      refine runs_drw (by simp (maxSteps := 3000000) [-lenA, HH8, ↓hfr, ↓hrj, zI, ↓hrr, ↓hss, frz_mapI, HH14]; rfl) ?_
      simp only [zT, zB]
      refine zR (zO (by simp [-lenA, HH8, ↓hfr, ↓hrj, zI, ↓hrr, ↓hss, frz_mapI, HH14]; rfl) ?_)
      simp only [zT, zB]
      exact ⟨cs.length - (k + 1), _, _, by omega, by simp [-lenA, HH8, ↓hfr, ↓hrj, zI, ↓hrr, ↓hss, frz_mapI, HH14] <;> rfl, k + 1, i + 1, by omega, rfl, by omega, .inr ⟨p + 1, _, by omega, hnx, hnl, rfl⟩⟩
    ·have hx1 := of_decide_eq_false hlt
     have hkE : k = cs.length := by omega
     have htE : cs.take k = cs := List.take_of_length_le (by omega)
     rw [htE] at hac
     subst hac
     rw [encC_ne (by intro e; rw [e] at hacl; simp at hacl)]
     refine runs_exit ?_
     simp only [zT, zB, if_true, if_false, reduceIte, Nat.reduceEqDiff, Nat.succ_ne_zero, Nat.one_ne_zero, Nat.zero_ne_one]
     refine zS ?_
     refine zR (zO (by simp [-lenA, HH8, tk, hlac, hacl, hr3, ↓hfr, ↓hrj, frz_rowC]; rfl) ?_)
     simp only [zT, zB]
     refine runs_ret ?_
     simp [-lenA, HH8, tk, hlac, hacl, hr3, ↓hfr, ↓hrj, frz_rowC, trim, encT]
 ·obtain ⟨tt, rfl⟩ := dStops_get ht (k := 0) (by simp)
  have htl : tl.length + 1 ≤ 1048576 := by simp at hm3; omega
  have htr : ((tl.map rS3).all fun r => r.length == 3) = true := by simp [rS3]
  have hts : ((tl.map rS3).all fun r => r.all storable) = true := by simp [rS3]
  have tkt : (tl.map rS3).take tl.length = tl.map rS3 := List.take_of_length_le (by simp)
  have HH15 := zA fc (zA ft (zA rc (zA rt (zA lc (zA lt (zA cc1 (zA cc2 (zA ct1 (zA ct2 (zA htl tkt))))))))))
  refine zS ?_
  refine zR (zO (by simp [-lenA, rS3, ↓htr, ↓hts, frz_mapT, ↓rS3_rb, HH15]; rfl) ?_)
  simp only [zT, zB]
  refine zS ?_
  refine runs_drw (by simp (maxSteps := 3000000) [-lenA, rS3, ↓htr, ↓hts, frz_mapT, ↓rS3_rb, HH15]; rfl) ?_
  simp only [zT, zB]
  refine zS ?_
  refine zS ?_
  refine zR (zO (by simp [-lenA, rS3, ↓htr, ↓hts, frz_mapT, ↓rS3_rb, HH15]; rfl) ?_)
  simp only [zT, zB]
  refine zL ?_
  refine runs_loopG_inv (fun mm σ => ∃ (k : Nat) (i : Int), i = k ∧ cs.length - k = mm ∧ k ≤ cs.length ∧ ((k = 0 ∧ σ = ⟨[.any, .ref 0 0 0, .ref 1 0 0, .ref 9 0 0, I i, .any, .any, .any, .any, .any, .any, .any, .any, .any, .any, .any, .any, .any, .any, .any, .any, .any, .any, .any, .any, .any, .any, .any, .any, .any, .any, .any], [some (.row 3 [[I m, c, .vl ([I ta.1, I ta.2.1, I ta.2.2] :: tl.map rS3) tt]]), some (.row 3 [[I 0, .nils, .nils]]), none, none, some (.row 3 []), none, none, none, none, some (.row 3 [[I m, .nils, .sl 11 0 (tl.length + 1) false]]), none, some (.row 3 ([I ta.1, I ta.2.1, I ta.2.2] :: tl.map rS3)), none]⟩) ∨ (∃ (p : Nat) (ac : List (List Int)), k = p + 1 ∧ ac = cs.take k ∧ ac.length = p + 1 ∧ σ = ⟨[.any, .ref 0 0 0, .ref 1 0 0, .ref 9 0 0, I i, .any, .any, .any, .any, .any, .any, .any, .any, .any, .any, .any, .any, .any, .any, .any, .any, .any, .any, .any, .any, .any, .any, .any, .any, .any, .any, .any], [some (.row 3 [[I m, c, .vl ([I ta.1, I ta.2.1, I ta.2.2] :: tl.map rS3) tt]]), some (.row 3 [[I 0, .nils, .nils]]), none, none, some (.row 3 []), none, none, none, none, some (.row 3 [[I m, .sl 12 0 (p + 1) false, .sl 11 0 (tl.length + 1) false]]), none, some (.row 3 ([I ta.1, I ta.2.1, I ta.2.2] :: tl.map rS3)), some (.row 1 (ac.map rowC))]⟩))) (by simp [-lenA, rS3, ↓htr, ↓hts, frz_mapT, ↓rS3_rb, HH15] <;> first | exact ⟨rfl, rfl⟩ | rfl) (⟨0, 0, rfl, rfl, Nat.zero_le _, .inl ⟨rfl, rfl⟩⟩) ?_
  rintro mm σ ⟨k, i, hik, rfl, hkl, ⟨hk0', rfl⟩ | ⟨p, ac, hkp, hac, hacl, rfl⟩⟩
  ·refine zS ?_
   refine zS ?_
   refine zR (zO (by simp [-lenA, rS3, ↓htr, ↓hts, frz_mapT, ↓rS3_rb, HH15]; rfl) ?_)
   simp only [zT, zB]
   refine runs_cond_split (x := decide (i < (cs.length : Int))) (by simp) (fun hlt => ?_) (fun hlt => ?_)
   ·have hlt2 := of_decide_eq_true hlt
    have hk0 : k < cs.length := by omega
    have hEt : cs.take (k + 1) = cs.take k ++ [cs[k]] := List.take_succ_eq_append_getElem hk0
    obtain ⟨rs, tj, wv, rfl, hr1, hr2, hwv⟩ := dInts2_get hc hk0
    have hkr : k < rs.length := by omega
    have hr4 : ∀ h, rs[k]'h = [wv] := fun h => by rw [List.getElem?_eq_getElem h] at hr2; exact Option.some.inj hr2
    have rw5 := fun n d => dInts_rb hwv n d
    have fw5 := fun H d => dInts_frz hwv H d
    obtain ⟨cw1, cw2⟩ := dInts_cells hwv
    have hi0 : 0 ≤ i := by omega
    have htn : i.toNat = k := by omega
    have hwi : W .i64 (i + 1) = i + 1 := W_small (by omega)
    have hml := hm2 cs[k] (List.getElem_mem hk0)
    generalize hX : cs[k] = xm at *
    have hnx : [xm] = cs.take (k + 1) := by rw [hEt, hk0']; rfl
    have hap : [[encE xm]] = [xm].map rowC := rfl
    rcases xm with _ | ⟨a, l⟩
    ·simp only [encE] at hap
     rcases dInts_cases hwv with ⟨rfl, _⟩ | ⟨tt, rfl⟩
     ·have HH16 := zA hi0 (zA htn (zA hk0 (zA hX (zA hwi (zA hkr (zA hr2 (zA hr4 (zA rw5 (zA fw5 (zA cw1 cw2))))))))))
      refine zK ?_
      simp only [zT, zB]
      refine zS ?_
      refine zL ?_
      refine runs_drw (by simp (maxSteps := 3000000) [-lenA, rS3, ↓htr, ↓hts, frz_mapT, ↓rS3_rb, HH15, zI, HH16]; rfl) ?_
      simp only [zT, zB]
      refine zR (zO (by simp [-lenA, rS3, ↓htr, ↓hts, frz_mapT, ↓rS3_rb, HH15, zI, HH16]; rfl) ?_)
      simp only [zT, zB]
      exact ⟨cs.length - (k + 1), _, _, by omega, by simp [-lenA, rS3, ↓htr, ↓hts, frz_mapT, ↓rS3_rb, HH15, zI, HH16] <;> rfl, k + 1, i + 1, by omega, rfl, by omega, .inr ⟨0, _, by omega, hnx, rfl, rfl⟩⟩
     ·have HH17 := zA hi0 (zA htn (zA hk0 (zA hX (zA hwi (zA hkr (zA hr2 (zA hr4 (zA rw5 (zA fw5 (zA cw1 cw2))))))))))
      refine zK ?_
      simp only [zT, zB]
      refine zS ?_
      refine zL ?_
      refine runs_drw (by simp (maxSteps := 3000000) [-lenA, rS3, ↓htr, ↓hts, frz_mapT, ↓rS3_rb, HH15, zI, HH17]; rfl) ?_
      simp only [zT, zB]
      refine zR (zO (by simp [-lenA, rS3, ↓htr, ↓hts, frz_mapT, ↓rS3_rb, HH15, zI, HH17]; rfl) ?_)
      simp only [zT, zB]
      exact ⟨cs.length - (k + 1), _, _, by omega, by simp [-lenA, rS3, ↓htr, ↓hts, frz_mapT, ↓rS3_rb, HH15, zI, HH17] <;> rfl, k + 1, i + 1, by omega, rfl, by omega, .inr ⟨0, _, by omega, hnx, rfl, rfl⟩⟩
    ·obtain ⟨tt, rfl⟩ := dInts_get hwv (k := 0) (by simp)
     simp only [encE] at hap
     have hll : l.length + 1 ≤ 1048576 := by simp at hml; omega
     have hrr : ((l.map rI).all fun r => r.length == 1) = true := by simp [rI]
     have hss : ((l.map rI).all fun r => r.all storable) = true := by simp [rI]
     have tkl : (l.map rI).take l.length = l.map rI := List.take_of_length_le (by simp)
     have HH18 := zA hi0 (zA htn (zA hk0 (zA hX (zA hwi (zA hkr (zA hr2 (zA hr4 (zA rw5 (zA fw5 (zA cw1 (zA cw2 (zA hll tkl))))))))))))
     refine zK ?_
     simp only [zT, zB]
     refine zS ?_
     refine zL ?_
     refine runs_drw (by simp (maxSteps := 3000000) [-lenA, rS3, ↓htr, ↓hts, frz_mapT, ↓rS3_rb, HH15, zI, ↓hrr, ↓hss, frz_mapI, HH18]; rfl) ?_
     simp only [zT, zB]
     refine zR (zO (by simp [-lenA, rS3, ↓htr, ↓hts, frz_mapT, ↓rS3_rb, HH15, zI, ↓hrr, ↓hss, frz_mapI, HH18]; rfl) ?_)
     simp only [zT, zB]
     exact ⟨cs.length - (k + 1), _, _, by omega, by simp [-lenA, rS3, ↓htr, ↓hts, frz_mapT, ↓rS3_rb, HH15, zI, ↓hrr, ↓hss, frz_mapI, HH18] <;> rfl, k + 1, i + 1, by omega, rfl, by omega, .inr ⟨0, _, by omega, hnx, rfl, rfl⟩⟩
   ·have hx1 := of_decide_eq_false hlt
    have hkE : k = cs.length := by omega
    have htE : cs.take k = cs := List.take_of_length_le (by omega)
    have hE0 : cs = [] := List.eq_nil_of_length_eq_zero (by omega)
    subst hE0
    refine runs_exit ?_
    simp only [zT, zB, if_true, if_false, reduceIte, Nat.reduceEqDiff, Nat.succ_ne_zero, Nat.one_ne_zero, Nat.zero_ne_one]
    refine zS ?_
    refine zR (zO (by simp [-lenA, rS3, ↓htr, ↓hts, frz_mapT, ↓rS3_rb, HH15]; rfl) ?_)
    simp only [zT, zB]
    refine runs_ret ?_
    simp [-lenA, rS3, ↓htr, ↓hts, frz_mapT, ↓rS3_rb, HH15, trim, encC, encT]
  ·have tk : (ac.map rowC).take (p + 1) = ac.map rowC := List.take_of_length_le (by simp [hacl])
   have hlac : p + 1 + 1 ≤ 1048576 := by omega
   have hr3 : ∀ e : List Int, (rowC e).length = 1 := fun _ => rfl
   have hfr := fun n h r => optAll_snoc (frN_rowC n h ac) r
   have hrj := rowC_rb 12 4 ac
   refine zS ?_
   refine zS ?_
   refine zR (zO (by simp [-lenA, rS3, ↓htr, ↓hts, frz_mapT, ↓rS3_rb, HH15, tk, hlac, hacl, hr3, ↓hfr, ↓hrj]; rfl) ?_)
   simp only [zT, zB]
   refine runs_cond_split (x := decide (i < (cs.length : Int))) (by simp) (fun hlt => ?_) (fun hlt => ?_)
   ·have hlt2 := of_decide_eq_true hlt
    have hk0 : k < cs.length := by omega
    have hEt : cs.take (k + 1) = cs.take k ++ [cs[k]] := List.take_succ_eq_append_getElem hk0
    obtain ⟨rs, tj, wv, rfl, hr1, hr2, hwv⟩ := dInts2_get hc hk0
    have hkr : k < rs.length := by omega
    have hr4 : ∀ h, rs[k]'h = [wv] := fun h => by rw [List.getElem?_eq_getElem h] at hr2; exact Option.some.inj hr2
    have rw5 := fun n d => dInts_rb hwv n d
    have fw5 := fun H d => dInts_frz hwv H d
    obtain ⟨cw1, cw2⟩ := dInts_cells hwv
    have hi0 : 0 ≤ i := by omega
    have htn : i.toNat = k := by omega
    have hwi : W .i64 (i + 1) = i + 1 := W_small (by omega)
    have hml := hm2 cs[k] (List.getElem_mem hk0)
    generalize hX : cs[k] = xm at *
    have hnx : ac ++ [xm] = cs.take (k + 1) := by rw [hEt, ← hac]
    have hnl : (ac ++ [xm]).length = p + 1 + 1 := by simp [hacl]
    have hap : ac.map rowC ++ [[encE xm]] = (ac ++ [xm]).map rowC := by rw [List.map_append]; rfl
    rcases xm with _ | ⟨a, l⟩
    ·simp only [encE] at hap
     rcases dInts_cases hwv with ⟨rfl, _⟩ | ⟨tt, rfl⟩
     ·have HH19 := zA tk (zA hlac (zA hacl (zA hr3 (zA hi0 (zA htn (zA hk0 (zA hX (zA hwi (zA hkr (zA hr2 (zA hr4 (zA rw5 (zA fw5 (zA cw1 (zA cw2 hap)))))))))))))))
      refine zK ?_
      simp only [zT, zB]
      refine zS ?_
      refine zL ?_
      refine runs_drw (by simp (maxSteps := 3000000) [-lenA, rS3, ↓htr, ↓hts, frz_mapT, ↓rS3_rb, HH15, ↓hfr, ↓hrj, zI, HH19]; rfl) ?_
      simp only [zT, zB]
      refine zR (zO (by simp [-lenA, rS3, ↓htr, ↓hts, frz_mapT, ↓rS3_rb, HH15, ↓hfr, ↓hrj, zI, HH19]; rfl) ?_)
      simp only [zT, zB]
      exact ⟨cs.length - (k + 1), _, _, by omega, by simp [-lenA, rS3, ↓htr, ↓hts, frz_mapT, ↓rS3_rb, HH15, ↓hfr, ↓hrj, zI, HH19] <;> rfl, k + 1, i + 1, by omega, rfl, by omega, .inr ⟨p + 1, _, by omega, hnx, hnl, rfl⟩⟩
     ·have HH20 := zA tk (zA hlac (zA hacl (zA hr3 (zA hi0 (zA htn (zA hk0 (zA hX (zA hwi (zA hkr (zA hr2 (zA hr4 (zA rw5 (zA fw5 (zA cw1 (zA cw2 hap)))))))))))))))
      refine zK ?_
      simp only [zT, zB]
      refine zS ?_
      refine zL ?_
      refine runs_drw (by simp (maxSteps := 3000000) [-lenA, rS3, ↓htr, ↓hts, frz_mapT, ↓rS3_rb, HH15, ↓hfr, ↓hrj, zI, HH20]; rfl) ?_
      simp only [zT, zB]
      refine zR (zO (by simp [-lenA, rS3, ↓htr, ↓hts, frz_mapT, ↓rS3_rb, HH15, ↓hfr, ↓hrj, zI, HH20]; rfl) ?_)
      simp only [zT, zB]
      exact ⟨cs.length - (k + 1), _, _, by omega, by simp [-lenA, rS3, ↓htr, ↓hts, frz_mapT, ↓rS3_rb, HH15, ↓hfr, ↓hrj, zI, HH20] <;> rfl, k + 1, i + 1, by omega, rfl, by omega, .inr ⟨p + 1, _, by omega, hnx, hnl, rfl⟩⟩
    ·obtain ⟨tt, rfl⟩ := dInts_get hwv (k := 0) (by simp)
     simp only [encE] at hap
     have hll : l.length + 1 ≤ 1048576 := by simp at hml; omega
     have hrr : ((l.map rI).all fun r => r.length == 1) = true := by simp [rI]
     have hss : ((l.map rI).all fun r => r.all storable) = true := by simp [rI]
     have tkl : (l.map rI).take l.length = l.map rI := List.take_of_length_le (by simp)
     have HH21 := zA tk (zA hlac (zA hacl (zA hr3 (zA hi0 (zA htn (zA hk0 (zA hX (zA hwi (zA hkr (zA hr2 (zA hr4 (zA rw5 (zA fw5 (zA cw1 (zA cw2 (zA hll (zA tkl hap)))))))))))))))))
     have HH22 := zA htr (zA hts (zA hfr (zA hrj (zA hrr hss))))
     refine zK ?_
     simp only [zT, zB]
     refine zS ?_
     refine zL ?_
     refine runs_drw (by simp (maxSteps := 3000000) [-lenA, rS3, frz_mapT, ↓rS3_rb, HH15, zI, frz_mapI, HH21, ↓HH22]; rfl) ?_
     simp only [zT, zB]
     refine zR (zO (by simp [-lenA, rS3, frz_mapT, ↓rS3_rb, HH15, zI, frz_mapI, HH21, ↓HH22]; rfl) ?_)
     simp only [zT, zB]
     exact ⟨cs.length - (k + 1), _, _, by omega, by simp [-lenA, rS3, frz_mapT, ↓rS3_rb, HH15, zI, frz_mapI, HH21, ↓HH22] <;> rfl, k + 1, i + 1, by omega, rfl, by omega, .inr ⟨p + 1, _, by omega, hnx, hnl, rfl⟩⟩
   ·have hx1 := of_decide_eq_false hlt
    have hkE : k = cs.length := by omega
    have htE : cs.take k = cs := List.take_of_length_le (by omega)
    rw [htE] at hac
    subst hac
    rw [encC_ne (by intro e; rw [e] at hacl; simp at hacl)]
    refine runs_exit ?_
    simp only [zT, zB, if_true, if_false, reduceIte, Nat.reduceEqDiff, Nat.succ_ne_zero, Nat.one_ne_zero, Nat.zero_ne_one]
    refine zS ?_
    refine zR (zO (by simp [-lenA, rS3, ↓htr, ↓hts, frz_mapT, ↓rS3_rb, HH15, tk, hlac, hacl, hr3, ↓hfr, ↓hrj, frz_rowC]; rfl) ?_)
    simp only [zT, zB]
    refine runs_ret ?_
    simp [-lenA, rS3, ↓htr, ↓hts, frz_mapT, ↓rS3_rb, HH15, tk, hlac, hacl, hr3, ↓hfr, ↓hrj, frz_rowC, trim, encT]
end
section
attribute [local simp] Function.comp_def List.all_map callA calleeA frzG gather getR lim lop loud lowA lowR okG putG putR rbB_none rbB_row resG rowAt takeG
def oCopy : List AVal → Option AVal
  | [.agg [.int .i64 m, c, t]] => match dInts2 c, dStops t with
    | some cs, some ts => if cs.length ≤ 1000 ∧ (∀ x ∈ cs, x.length ≤ 1000) ∧ ts.length ≤ 1000 then some (.agg [.int .i64 m, encC cs, encT ts]) else none
    | _, _ => none
  | _ => none
theorem copy_eq {m : Int} {c t : AVal} {cs : List (List Int)} {ts : List FStop} (hc : dInts2 c = some cs) (ht : dStops t = some ts) (h : cs.length ≤ 1000 ∧ (∀ x ∈ cs, x.length ≤ 1000) ∧ ts.length ≤ 1000) : oCopy [.agg [I m, c, t]] = some (.agg [I m, encC cs, encT ts]) := by
  simp only [oCopy, hc, ht]; rw [if_pos h]
theorem a16 (P : Program) (T : Nat → Option CFn) (hT : T 16 = some c16) (h59 : T 59 = some { c59 with body := annK [(30, [.cell 3 1])] [] c59.body, frsh := false, orc := oCopy }) (m : Int) (c t : AVal) (cs : List (List Int)) (ts : List FStop) (hc : dInts2 c = some cs) (ht : dStops t = some ts) (hm1 : cs.length ≤ 1000) (hm2 : ∀ x ∈ cs, x.length ≤ 1000) (hm3 : ts.length ≤ 1000) : Answers P T 16 [.agg [I m, c, t]] [] fun v h => frz false h 5 v = some (.agg [I m, encC cs, encT ts]) := by
 have fc := fun H d => dInts2_frz hc H d
 have ft := fun H d => dStops_frz ht H d
 have rc := fun n d => dInts2_rb hc n d
 have rt := fun n d => dStops_rb ht n d
 obtain ⟨cc1, cc2⟩ := dInts2_cells hc
 obtain ⟨ct1, ct2⟩ := dStops_cells ht
 have h := copy_eq (m := m) hc ht ⟨hm1, hm2, hm3⟩
 have he := dInts2_encC cs
 have he2 := dStops_encT ts
 generalize encC cs = e at *
 generalize encT ts = e2 at *
 have fe := fun H d => dInts2_frz he H d
 have fe2 := fun H d => dStops_frz he2 H d
 obtain ⟨ce1, ce2⟩ := dInts2_cells he
 obtain ⟨ce3, ce4⟩ := dStops_cells he2
 refine answers_of hT (orcF_none rfl) ?_
 simp only [oo, om, op, og, ci, cl, c16]
 have HH1 := zA h59 (zA fc (zA ft (zA rc (zA rt (zA cc1 (zA cc2 (zA ct1 (zA ct2 (zA h (zA fe (zA fe2 (zA ce1 (zA ce2 (zA ce3 ce4))))))))))))))
 refine zS ?_
 refine zR (zO (by simp [zC h59, HH1]; rfl) ?_)
 simp only [zT, zB]
 refine zS ?_
 refine zR (zO (by simp [zC h59, HH1]; rfl) ?_)
 simp only [zT, zB]
 refine runs_ret ?_
 simp [zC h59, HH1, trim]
noncomputable def FP1_59 : Nat → Option CFn := upd FO2 59 false (oCopy)
theorem FP1_59_ok : TabOk Tryz.prog GG FP1_59 := tab_add mixed FO2_ok fun args v ho => by
  unfold oCopy at ho; split at ho <;> (try simp only [reduceCtorEq] at ho)
  rename_i m c t
  split at ho <;> (try simp only [reduceCtorEq] at ho)
  rename_i cs ts hc ht
  split at ho <;> (try simp only [reduceCtorEq] at ho)
  rename_i hg
  simp only [Option.some.injEq] at ho
  subst ho
  exact a59 Tryz.prog FO2 rfl  m c t cs ts hc ht hg.1 hg.2.1 hg.2.2
noncomputable def FP1 : Nat → Option CFn := upd FP1_59 16 false (oCopy)
theorem FP1_ok : TabOk Tryz.prog GG FP1 := tab_add mixed FP1_59_ok fun args v ho => by
  unfold oCopy at ho; split at ho <;> (try simp only [reduceCtorEq] at ho)
  rename_i m c t
  split at ho <;> (try simp only [reduceCtorEq] at ho)
  rename_i cs ts hc ht
  split at ho <;> (try simp only [reduceCtorEq] at ho)
  rename_i hg
  simp only [Option.some.injEq] at ho
  subst ho
  exact a16 Tryz.prog FP1_59 rfl rfl m c t cs ts hc ht hg.1 hg.2.1 hg.2.2
noncomputable def FP2 : Nat → Option CFn := FP1
theorem FP2_ok : TabOk Tryz.prog GG FP2 := FP1_ok
structure StOk (s : FShop) (js : List FJob) (S : List (List Int)) : Prop where
  len : S.length = js.length
  row : ∀ l ∈ S, (l.length : Int) = s.mach ∧ ∀ x ∈ l, 0 ≤ x ∧ x ≤ 1000000
def stAt (S : List (List Int)) (i k : Nat) : Int := (S.getD i []).getD k 0
end
section
attribute [local simp] callA calleeA lop loud rbB_none rbB_row
def oAtN (os : List Int) (n : Nat) : Nat := (os.getD n 0).toNat
theorem oAtN_eq {os : List Int} {n : Nat} (h : n < os.length) : oAtN os n = os[n].toNat := by unfold oAtN; rw [List.getD_eq_getElem?_getD, List.getElem?_eq_getElem h]; rfl
def jn (js : List FJob) (os : List Int) (n : Nat) : FJob := jobAt js (oAtN os n)
def fromA (js : List FJob) (S : List (List Int)) (os : List Int) (a k : Nat) : Int := if k = 0 then (jn js os a).ready else stAt S (oAtN os a) (k - 1) + minAt (jn js os a) (k - 1)
theorem jobs_at {rs : List (List AVal)} {t : Bool} {js : List FJob} (h : dJobs (.vl rs t) = some js) {k : Nat} (hk : k < js.length) : ∃ w, rs[k]? = some [I js[k].kind, I js[k].ready, I js[k].due, w] ∧ dInts w = some js[k].mins := by
  obtain ⟨rs2, t2, w, e, _, h2, h3⟩ := dJobs_get h hk
  cases e
  exact ⟨w, h2, h3⟩
end
end
end Go.Proofs.YtjjapdagllclkaaGreat.Tab
namespace Go.Proofs.YtjjapdagllclkaaGreat.Tab
open Go Go.Abs Go.Proofs
set_option linter.unusedSimpArgs false
set_option linter.unusedVariables false
structure RunCtx (s : FShop) (js : List FJob) (os : List Int) : Prop where
 ok : ShopOk s js
 ord : ordB os js.length = true
theorem RunCtx.len6 {s : FShop} {js : List FJob} {os : List Int} (h : RunCtx s js os) : os.length ≤ 6 := by
 rw [ord_len h.ord]; exact h.ok.njob
theorem RunCtx.mem {s : FShop} {js : List FJob} {os : List Int} (h : RunCtx s js os) : ∀ i ∈ os, 0 ≤ i ∧ i < js.length := fun _ hi => (ord_mem h.ord).1 hi
noncomputable def stsF (s : FShop) (js : List FJob) (os : List Int) : List (List Int) := (runF s js os).starts
noncomputable def endF (s : FShop) (js : List FJob) (os : List Int) : List Int := (runF s js os).ends
theorem jn_mem {s : FShop} {js : List FJob} {os : List Int} (h : RunCtx s js os) {a : Nat} (ha : a < os.length) : jn js os a ∈ js := jobO_mem h.ord ha
theorem jn_mach {s : FShop} {js : List FJob} {os : List Int} (h : RunCtx s js os) {a : Nat} (ha : a < os.length) : ((jn js os a).mins.length : Int) = s.mach := (h.ok.job _ (jn_mem h ha)).2.2.2.1
theorem row_at {s : FShop} {js : List FJob} {os : List Int} (h : RunCtx s js os) {a : Nat} (ha : a < os.length) :
  (stsF s js os)[oAtN os a]? = some (passF s (lineN s js os a) (jn js os a)).1 ∧ (endF s js os)[oAtN os a]? = some (passF s (lineN s js os a) (jn js os a)).2.1 := by
 have := run_at s js h.ord ha
 rw [oAtN_eq ha]
 exact this
theorem st_at {s : FShop} {js : List FJob} {os : List Int} (h : RunCtx s js os) {a : Nat} (ha : a < os.length) (k : Nat) : stAt (stsF s js os) (oAtN os a) k = nAt (passF s (lineN s js os a) (jn js os a)).1 k := by
 unfold stAt nAt
 rw [List.getD_eq_getElem?_getD (l := stsF s js os), (row_at h ha).1]; rfl
theorem st_eq' {s : FShop} {js : List FJob} {os : List Int} (h : RunCtx s js os) {a k : Nat} (ha : a < os.length) (hk : (k : Int) < s.mach) :
  stAt (stsF s js os) (oAtN os a) k = startF s (jn js os a).kind (lineN s js os a) k (minAt (jn js os a) k) (fromA js (stsF s js os) os a k) := by
 have hm := jn_mach h ha
 have hp := passGo_st s (jn js os a).kind (jn js os a).mins 0 (jn js os a).ready (lineN s js os a) k (by omega)
 rw [st_at h ha]
 unfold passF
 rw [hp, Nat.zero_add]
 unfold fromA
 by_cases h0 : k = 0
 ·subst h0; rfl
 ·rw [if_neg h0, if_neg h0, st_at h ha]; rfl
theorem line_step {s : FShop} {js : List FJob} {os : List Int} (h : RunCtx s js os) {a k : Nat} (ha : a < os.length) (hk : (k : Int) < s.mach) :
  lAt (lineN s js os (a + 1)) k = if 0 < minAt (jn js os a) k then (stAt (stsF s js os) (oAtN os a) k + minAt (jn js os a) k, (jn js os a).kind, true) else lAt (lineN s js os a) k := by
 have hm := jn_mach h ha
 have hl := lineN_len h.ok h.len6 h.mem a
 have hb := h.ok.mach
 have hp := passGo_line s (jn js os a).kind (jn js os a).mins 0 (jn js os a).ready (lineN s js os a) k (by omega) (by omega)
 rw [lineN_succ s js ha, st_at h ha]
 rw [Nat.zero_add] at hp
 exact hp
theorem line_last {s : FShop} {js : List FJob} {os : List Int} (h : RunCtx s js os) {k : Nat} (hk : (k : Int) < s.mach) : ∀ (a : Nat), a ≤ os.length →
  ((∀ b, b < a → ¬ 0 < minAt (jn js os b) k) ∧ (lAt (lineN s js os a) k).2.2 = false) ∨
  (∃ b, b < a ∧ 0 < minAt (jn js os b) k ∧ (∀ c, b < c → c < a → ¬ 0 < minAt (jn js os c) k) ∧ lAt (lineN s js os a) k = (stAt (stsF s js os) (oAtN os b) k + minAt (jn js os b) k, (jn js os b).kind, true))
 | 0, _ => .inl ⟨fun b hb => by omega, by
   have : lineN s js os 0 = line0 := rfl
   have hb := h.ok.mach
   rw [this]
   have : k = 0 ∨ k = 1 ∨ k = 2 ∨ k = 3 := by omega
   rcases this with rfl | rfl | rfl | rfl <;> rfl⟩
 | a + 1, ha => by
  have ih := line_last h hk a (by omega)
  rw [line_step h (by omega) hk]
  by_cases h0 : 0 < minAt (jn js os a) k
  ·rw [if_pos h0]
   exact .inr ⟨a, by omega, h0, fun c h1 h2 => by omega, rfl⟩
  ·rw [if_neg h0]
   rcases ih with ⟨h1, h2⟩ | ⟨b, h1, h2, h3, h4⟩
   ·refine .inl ⟨fun b hb => ?_, h2⟩
    by_cases e : b = a
    ·subst e; exact h0
    ·exact h1 b (by omega)
   ·refine .inr ⟨b, by omega, h2, fun c hc1 hc2 => ?_, h4⟩
    by_cases e : c = a
    ·subst e; exact h0
    ·exact h3 c hc1 (by omega)
theorem endF_len {s : FShop} {js : List FJob} {os : List Int} (h : RunCtx s js os) : (endF s js os).length = js.length := (runF_ok h.ok h.len6 h.mem).elen
theorem stsF_len {s : FShop} {js : List FJob} {os : List Int} (h : RunCtx s js os) : (stsF s js os).length = js.length := (runF_ok h.ok h.len6 h.mem).slen
theorem sts_ok {s : FShop} {js : List FJob} {os : List Int} (h : RunCtx s js os) : StOk s js (stsF s js os) := by
 have hr := runF_ok h.ok h.len6 h.mem
 refine ⟨stsF_len h, fun l hl => ⟨?_, fun x hx => by have := hr.st l hl x hx; omega⟩⟩
 obtain ⟨i, hi, e⟩ := List.mem_iff_getElem.1 hl
 have hi' : i < js.length := by rw [← stsF_len h]; exact hi
 obtain ⟨a, ha, hai⟩ := ord_find h.ord hi'
 have hoa : oAtN os a = i := by rw [oAtN_eq ha]; exact hai
 have hra := (row_at h ha).1
 rw [hoa, List.getElem?_eq_getElem hi, e] at hra
 cases hra
 unfold passF
 rw [passGo_len]
 exact jn_mach h ha
end Go.Proofs.YtjjapdagllclkaaGreat.Tab
namespace Go.Proofs.YtjjapdagllclkaaGreat.Tab
open Go Go.Abs Go.Proofs
set_option maxRecDepth 100000
set_option maxHeartbeats 4000000
set_option linter.unusedSimpArgs false
set_option linter.unusedVariables false
section
attribute [local simp] frz_int frz_bool frz_vl frz_pv frz_agg frz_tup frz_fn frz_ref frz_sl frz_nils optAll orcF rb_int rb_bool rb_agg rb_tup rb_int' rb_bool' rb_vl rb_pv rb_yld rb_nilf rb_nilp rb_nils rb_any rb_und rb_ref rb_sl rb_fn slE chunk fillA evParts evParts3 putAt List.range_succ List.range_zero List.range'_succ List.range'_zero runX_nil' unary_not evalS_pure evAll_nil evAll_cons runX_cons stepX wantedA dop CV.ev putK_eq setK_eq appK_eq fA_eq fI_eq fN_eq fRow_eq fRows_eq nth_eq Out.v putT List.replicate_succ zT zB arI pointee Abs.rowAt ldRow allV toV toC ofV ofC Builtin.min_ Builtin.min2 Builtin.max_ Builtin.max2 min_if max_if resA tupA kill trim_self trim_len trim_emp trim_nil lenA
attribute [local simp] runD_nil' runD_cons' stepD actK_eq actD clash disj masks holes maskH unmaskH diffs news eqB allB eqA ldRowN wrote toCs ofCs stA rowsV_vl rowsV_nils rowsOf dI1 dI2 dI3 dI5 elt
attribute [local simp] st_any st_und st_agg st_tup st_bool st_int st_nilp st_ref st_pv st_nils st_sl st_vl st_nilm st_mp st_fn st_nilf st_yld co_any co_und co_agg co_tup co_bool co_int co_nilp co_ref co_pv co_nils co_sl co_vl co_nilm co_mp co_fn co_nilf co_yld
section
attribute [local simp] Function.comp_def List.all_append List.all_map above callA calleeA frNB_none frNB_row frN_agg frN_bool frN_int frN_nils frN_ref frN_sl frN_tup frN_vl frzG gather getR lim lop loud lowA lowR norm okG putG putR rbB_none rbB_row resG rowAt takeG
structure FWorks where
  m : Int
  k : Int
  g : List Int
  xs : List (List Int)
  ys : List (List Int)
  o : List Int
def isU (n : Int) : Prop := 0 ≤ n ∧ n ≤ 255
instance (n : Int) : Decidable (isU n) := by unfold isU; infer_instance
def wK (w : FWorks) : Int := 1 + w.k.tmod 4
def gAt (w : FWorks) (i k : Nat) : Int := w.g.getD (i * 4 + k) 0
def wRow (w : FWorks) (i n : Nat) : List Int := (List.range n).map fun k => (gAt w i k).tmod 40
def wC (w : FWorks) (n : Nat) : List (List Int) := (List.range n).map fun i => wRow w i (wK w).toNat
theorem frN_rI (n : Nat) (h : Heap) (xs : List Int) : ∀ r ∈ xs.map rI, optAll (frN n h 5) r = some r := fun r hr => by
  obtain ⟨j, _, rfl⟩ := List.mem_map.1 hr; rfl
end
end
end Go.Proofs.YtjjapdagllclkaaGreat.Tab
namespace Go.Proofs.YtjjapdagllclkaaGreat.Tab
open Go Go.Abs Go.Proofs
def isFreeB (st : List FStop) (k n t : Int) : Bool := st.all fun x => !conf k n t x
theorem isFreeB_ok {st : List FStop} {k n t : Int} (h : isFreeB st k n t = true) : isFree st k n t := fun x hx => by
 have := List.all_eq_true.1 h x hx
 simpa using this
def freeC (st : List FStop) (k n : Int) : Nat → Int → Int
 | 0, a => a
 | f + 1, a => match st.find? (conf k n a) with
  | some x => freeC st k n f x.2.2
  | none => a
theorem freeC_ok {st : List FStop} {k n : Int} : ∀ (f : Nat) (a : Int), isFree st k n (freeC st k n f a) → FreeAt st k n a (freeC st k n f a)
 | 0, a, h => freeAt_self h
 | f + 1, a, h => by
  unfold freeC at h ⊢
  split
  ·rename_i x hx
   rw [hx] at h
   exact freeAt_step (List.mem_of_find?_eq_some hx) (List.find?_some hx) (freeC_ok f _ h)
  ·rename_i hx
   rw [hx] at h
   exact freeAt_self h
def freeO (st : List FStop) (k n a : Int) : Option Int := if isFreeB st k n (freeC st k n 12 a) = true then some (freeC st k n 12 a) else none
theorem freeO_eq {st : List FStop} {k n a u : Int} (h : freeO st k n a = some u) : freeT st k n a = u := by
 unfold freeO at h
 by_cases hf : isFreeB st k n (freeC st k n 12 a) = true
 ·rw [if_pos hf] at h
  cases h
  exact freeT_eq (freeC_ok 12 _ (isFreeB_ok hf))
 ·rw [if_neg hf] at h; simp at h
def startC (s : FShop) (kind : Int) (l : FLine) (k : Nat) (n t : Int) : Option Int :=
 if 0 < n then freeO s.stops k n (if (l.getD k (0, 0, false)).2.2 then max t ((l.getD k (0, 0, false)).1 + chgAt s (l.getD k (0, 0, false)).2.1 kind) else t) else some t
theorem startC_eq {s : FShop} {kind : Int} {l : FLine} {k : Nat} {n t u : Int} (h : startC s kind l k n t = some u) : startF s kind l k n t = u := by
 unfold startC at h
 unfold startF
 by_cases hn : 0 < n
 ·rw [if_pos hn] at h ⊢
  exact freeO_eq h
 ·rw [if_neg hn] at h ⊢
  exact Option.some.inj h
def passGoC (s : FShop) (kind : Int) : List Int → Nat → Int → FLine → Option (List Int × Int × FLine)
 | [], _, t, l => some ([], t, l)
 | n :: ns, k, t, l => match startC s kind l k n t with
  | some u => match passGoC s kind ns (k + 1) (u + n) (if 0 < n then l.set k (u + n, kind, true) else l) with
   | some r => some (u :: r.1, r.2)
   | none => none
  | none => none
theorem passGoC_eq {s : FShop} {kind : Int} : ∀ {ns : List Int} {k : Nat} {t : Int} {l : FLine} {r : List Int × Int × FLine}, passGoC s kind ns k t l = some r → passGo s kind ns k t l = r
 | [], k, t, l, r, h => by simp only [passGoC, Option.some.injEq] at h; subst h; rfl
 | n :: ns, k, t, l, r, h => by
  simp only [passGoC] at h
  split at h
  ·rename_i u hu
   split at h
   ·rename_i r2 hr
    cases h
    have e := startC_eq hu
    simp only [passGo, e, passGoC_eq hr]
   ·simp at h
  ·simp at h
def passC (s : FShop) (l : FLine) (j : FJob) : Option (List Int × Int × FLine) := passGoC s j.kind j.mins 0 j.ready l
theorem passC_eq {s : FShop} {l : FLine} {j : FJob} {r : List Int × Int × FLine} (h : passC s l j = some r) : passF s l j = r := passGoC_eq h
def lineB (s : FShop) (B : Int) (l : FLine) : Bool := (l.length == 4) && l.all fun x => decide (0 ≤ x.1) && decide (x.1 ≤ B) && decide (0 ≤ x.2.1) && (x.2.1 == 0 || decide (x.2.1 < s.chg.length))
theorem lineB_ok {s : FShop} {B : Int} {l : FLine} (h : lineB s B l = true) : LineOk s B l := by
 simp only [lineB, Bool.and_eq_true, beq_iff_eq, List.all_eq_true, decide_eq_true_eq, Bool.or_eq_true] at h
 exact ⟨h.1, fun x hx => by have := h.2 x hx; exact ⟨⟨this.1.1.1, this.1.1.2⟩, this.1.2, this.2⟩⟩
end Go.Proofs.YtjjapdagllclkaaGreat.Tab
namespace Go.Proofs.YtjjapdagllclkaaGreat.Tab
open Go Go.Abs Go.Proofs
set_option maxRecDepth 1000000
theorem oAt_good {P : Program} {G : Nat → Option (List AVal)} {f : Nat} {fr : Bool} : ∀ {L : List (List AVal × AVal)}, (∀ p ∈ L, OrcGood P G fr f p.1 p.2) → ∀ args v, oAt L args = some v → OrcGood P G fr f args v
  | [], _, args, v, h => by simp [oAt] at h
  | (A, R) :: L, hL, args, v, h => by
    simp only [oAt] at h
    split at h
    · rename_i he
      simp at h
      subst h
      rw [allB_eqA he]
      exact hL (A, R) (by simp)
    · exact oAt_good (fun p hp => hL p (by simp [hp])) args v h
def sPassK : List AVal → Heap → Option (AVal × Heap)
  | [.agg [.int .i64 m, c, t, j], .ref 0 0 0, .agg [.int .i64 kd, .int .i64 rd, .int .i64 du, v]], [some (.row 12 [r])] => match dInts2 c, dStops t, dJobs j, dInts v, dLine r with
    | some cs, some ts, some js, some ms, some l => if (shopE ⟨m, cs, ts⟩ js == 0) && lineB ⟨m, cs, ts⟩ 200000 l && decide (0 ≤ kd) && decide (kd < cs.length) && decide (0 ≤ rd) && decide (rd ≤ 200000) && ((ms.length : Int) == m) && (ms.all fun n => decide (0 ≤ n) && decide (n ≤ 10000)) then
        (match passC ⟨m, cs, ts⟩ l ⟨kd, rd, du, ms⟩ with
          | some r => some (.tup [.vl (r.1.map rI) false, I r.2.1], [some (.row 12 [lineC r.2.2])])
          | none => none) else none
    | _, _, _, _, _ => none
  | _, _ => none
noncomputable def FDK1 : Nat → Option CFn := updG FC1 102 [(229738, [.slot 6])] []
theorem FDK1_ok : TabOk Tryz.prog GG FDK1 := tab_updG FC1_ok
noncomputable def FDK2 : Nat → Option CFn := upd FDK1 102 false (fun _ => none)
theorem FDK2_ok : TabOk Tryz.prog GG FDK2 := tab_add mixed FDK1_ok fun args v ho => by simp at ho
noncomputable def FK0 : Nat → Option CFn := updE FDK2 102 (frameE sPassK)
theorem FK0_ok : TabOk Tryz.prog GG FK0 := tab_frame mixed FDK2_ok fun args h v h' ho => by
  unfold sPassK at ho
  split at ho <;> (try simp only [reduceCtorEq] at ho)
  rename_i m c t j kd rd du vv r
  split at ho <;> (try simp only [reduceCtorEq] at ho)
  rename_i cs ts js ms l hc ht hj hv hl
  split at ho <;> (try simp only [reduceCtorEq] at ho)
  rename_i hg
  split at ho <;> (try simp only [reduceCtorEq] at ho)
  rename_i rr hr
  simp only [Option.some.injEq, Prod.mk.injEq] at ho
  obtain ⟨rfl, rfl⟩ := ho
  obtain ⟨rfl, _⟩ := dLine_eq hl
  simp only [Bool.and_eq_true, beq_iff_eq, decide_eq_true_eq, List.all_eq_true] at hg
  obtain ⟨⟨⟨⟨⟨⟨⟨g1, g2⟩, g3⟩, g4⟩, g5⟩, g6⟩, g7⟩, g8⟩ := hg
  have e := passC_eq hr
  subst e
  exact a102 Tryz.prog FDK2 rfl rfl ⟨m, cs, ts⟩ js c t j hc ht hj kd rd du vv ms l hv ⟨shop_ok g1, lineB_ok g2, ⟨g3, g4⟩, ⟨g5, g6⟩, g7, g8⟩
noncomputable def kS : AVal := .agg [I 2, .vl [[.vl [[I 0], [I 10]] true], [.vl [[I 20], [I 0]] true]] true, .nils]
noncomputable def kJ90 : AVal := (.vl [[I 0, I 0, I 100, (.vl [[I (30)], [I (40)]] true)], [I 1, I 0, I 90, (.vl [[I (20)], [I (20)]] true)], [I 0, I 15, I 130, (.vl [[I (10)], [I (0)]] true)]] true)
noncomputable def kJ100 : AVal := (.vl [[I 0, I 0, I 100, (.vl [[I (30)], [I (40)]] true)], [I 1, I 0, I 100, (.vl [[I (20)], [I (20)]] true)], [I 0, I 15, I 130, (.vl [[I (10)], [I (0)]] true)]] true)
theorem k71_0 : isR (.tup [.nils, .agg [I 0, I 0]]) (callF FK0 (exec Tryz.prog FK0 1000) 71 [.agg [I 2, .vl [[.vl [[I 0], [I 10]] true], [.vl [[I 20], [I 0]] true]] true, .nils, .nils]] []) = true := by kernel_rfl
theorem k71_1 : isR (.tup [(.vl [[I (0)]] false), .agg [I 0, I 70]]) (callF FK0 (exec Tryz.prog FK0 1000) 71 [.agg [I 2, .vl [[.vl [[I 0], [I 10]] true], [.vl [[I 20], [I 0]] true]] true, .nils, (.vl [[I 0, I 0, I 100, (.vl [[I (30)], [I (40)]] true)]] false)]] []) = true := by kernel_rfl
theorem k71_2 : isR (.tup [(.vl [[I (0)]] false), .agg [I 0, I 40]]) (callF FK0 (exec Tryz.prog FK0 1000) 71 [.agg [I 2, .vl [[.vl [[I 0], [I 10]] true], [.vl [[I 20], [I 0]] true]] true, .nils, (.vl [[I 1, I 0, I 90, (.vl [[I (20)], [I (20)]] true)]] false)]] []) = true := by kernel_rfl
theorem k71_3 : isR (.tup [(.vl [[I (0)], [I (1)]] false), .agg [I 10, I 100]]) (callF FK0 (exec Tryz.prog FK0 1000) 71 [.agg [I 2, .vl [[.vl [[I 0], [I 10]] true], [.vl [[I 20], [I 0]] true]] true, .nils, (.vl [[I 0, I 0, I 100, (.vl [[I (30)], [I (40)]] true)], [I 1, I 0, I 90, (.vl [[I (20)], [I (20)]] true)]] false)]] []) = true := by kernel_rfl
theorem k71_4 : isR (.tup [(.vl [[I (0)]] false), .agg [I 0, I 25]]) (callF FK0 (exec Tryz.prog FK0 1000) 71 [.agg [I 2, .vl [[.vl [[I 0], [I 10]] true], [.vl [[I 20], [I 0]] true]] true, .nils, (.vl [[I 0, I 15, I 130, (.vl [[I (10)], [I (0)]] true)]] false)]] []) = true := by kernel_rfl
theorem k71_5 : isR (.tup [(.vl [[I (0)], [I (1)]] false), .agg [I 0, I 70]]) (callF FK0 (exec Tryz.prog FK0 1000) 71 [.agg [I 2, .vl [[.vl [[I 0], [I 10]] true], [.vl [[I 20], [I 0]] true]] true, .nils, (.vl [[I 0, I 0, I 100, (.vl [[I (30)], [I (40)]] true)], [I 0, I 15, I 130, (.vl [[I (10)], [I (0)]] true)]] false)]] []) = true := by kernel_rfl
theorem k71_6 : isR (.tup [(.vl [[I (0)], [I (1)]] false), .agg [I 0, I 50]]) (callF FK0 (exec Tryz.prog FK0 1000) 71 [.agg [I 2, .vl [[.vl [[I 0], [I 10]] true], [.vl [[I 20], [I 0]] true]] true, .nils, (.vl [[I 1, I 0, I 90, (.vl [[I (20)], [I (20)]] true)], [I 0, I 15, I 130, (.vl [[I (10)], [I (0)]] true)]] false)]] []) = true := by kernel_rfl
theorem k71_7 : isR (.tup [(.vl [[I (0)], [I (1)], [I (2)]] false), .agg [I 10, I 100]]) (callF FK0 (exec Tryz.prog FK0 1000) 71 [.agg [I 2, .vl [[.vl [[I 0], [I 10]] true], [.vl [[I 20], [I 0]] true]] true, .nils, (.vl [[I 0, I 0, I 100, (.vl [[I (30)], [I (40)]] true)], [I 1, I 0, I 90, (.vl [[I (20)], [I (20)]] true)], [I 0, I 15, I 130, (.vl [[I (10)], [I (0)]] true)]] false)]] []) = true := by kernel_rfl
theorem k71_8 : isR (.tup [(.vl [[I (0)], [I (1)], [I (2)]] false), .agg [I 10, I 100]]) (callF FK0 (exec Tryz.prog FK0 1000) 71 [.agg [I 2, .vl [[.vl [[I 0], [I 10]] true], [.vl [[I 20], [I 0]] true]] true, .nils, (.vl [[I 0, I 0, I 100, (.vl [[I (30)], [I (40)]] true)], [I 1, I 0, I 90, (.vl [[I (20)], [I (20)]] true)], [I 0, I 15, I 130, (.vl [[I (10)], [I (0)]] true)]] true)]] []) = true := by kernel_rfl
theorem k64_0 : isR (.nils) (callF FK0 (exec Tryz.prog FK0 1000) 64 [.agg [I 2, .vl [[.vl [[I 0], [I 10]] true], [.vl [[I 20], [I 0]] true]] true, .nils, (.vl [[I 0, I 0, I 100, (.vl [[I (30)], [I (40)]] true)], [I 1, I 0, I 100, (.vl [[I (20)], [I (20)]] true)], [I 0, I 15, I 130, (.vl [[I (10)], [I (0)]] true)]] true)], (.vl [[I (0)], [I (1)], [I (2)]] true)] []) = true := by kernel_rfl
theorem k64_1 : isR ((.vl [[I (0)], [I (1)]] false)) (callF FK0 (exec Tryz.prog FK0 1000) 64 [.agg [I 2, .vl [[.vl [[I 0], [I 10]] true], [.vl [[I 20], [I 0]] true]] true, (.vl [[I 1, I 60, I 70]] false), (.vl [[I 0, I 0, I 100, (.vl [[I (30)], [I (40)]] true)], [I 1, I 0, I 100, (.vl [[I (20)], [I (20)]] true)], [I 0, I 15, I 130, (.vl [[I (10)], [I (0)]] true)]] true)], (.vl [[I (0)], [I (1)], [I (2)]] true)] []) = true := by kernel_rfl
theorem k64_0_5000 : isR ((.vl [[I (0)], [I (1)], [I (2)]] false)) (callF FK0 (exec Tryz.prog FK0 1000) 64 [.agg [I 2, .vl [[.vl [[I 0], [I 10]] true], [.vl [[I 20], [I 0]] true]] true, .nils, (.vl [[I 0, I 5000, I 100, (.vl [[I (30)], [I (40)]] true)], [I 1, I 0, I 100, (.vl [[I (20)], [I (20)]] true)], [I 0, I 15, I 130, (.vl [[I (10)], [I (0)]] true)]] false)], (.vl [[I (0)], [I (1)], [I (2)]] true)] []) = true := by kernel_rfl
theorem k64_0_2500 : isR ((.vl [[I (0)], [I (1)], [I (2)]] false)) (callF FK0 (exec Tryz.prog FK0 1000) 64 [.agg [I 2, .vl [[.vl [[I 0], [I 10]] true], [.vl [[I 20], [I 0]] true]] true, .nils, (.vl [[I 0, I 2500, I 100, (.vl [[I (30)], [I (40)]] true)], [I 1, I 0, I 100, (.vl [[I (20)], [I (20)]] true)], [I 0, I 15, I 130, (.vl [[I (10)], [I (0)]] true)]] false)], (.vl [[I (0)], [I (1)], [I (2)]] true)] []) = true := by kernel_rfl
theorem k64_0_1250 : isR ((.vl [[I (0)], [I (1)], [I (2)]] false)) (callF FK0 (exec Tryz.prog FK0 1000) 64 [.agg [I 2, .vl [[.vl [[I 0], [I 10]] true], [.vl [[I 20], [I 0]] true]] true, .nils, (.vl [[I 0, I 1250, I 100, (.vl [[I (30)], [I (40)]] true)], [I 1, I 0, I 100, (.vl [[I (20)], [I (20)]] true)], [I 0, I 15, I 130, (.vl [[I (10)], [I (0)]] true)]] false)], (.vl [[I (0)], [I (1)], [I (2)]] true)] []) = true := by kernel_rfl
theorem k64_0_625 : isR ((.vl [[I (0)], [I (1)], [I (2)]] false)) (callF FK0 (exec Tryz.prog FK0 1000) 64 [.agg [I 2, .vl [[.vl [[I 0], [I 10]] true], [.vl [[I 20], [I 0]] true]] true, .nils, (.vl [[I 0, I 625, I 100, (.vl [[I (30)], [I (40)]] true)], [I 1, I 0, I 100, (.vl [[I (20)], [I (20)]] true)], [I 0, I 15, I 130, (.vl [[I (10)], [I (0)]] true)]] false)], (.vl [[I (0)], [I (1)], [I (2)]] true)] []) = true := by kernel_rfl
theorem k64_0_312 : isR ((.vl [[I (0)], [I (1)], [I (2)]] false)) (callF FK0 (exec Tryz.prog FK0 1000) 64 [.agg [I 2, .vl [[.vl [[I 0], [I 10]] true], [.vl [[I 20], [I 0]] true]] true, .nils, (.vl [[I 0, I 312, I 100, (.vl [[I (30)], [I (40)]] true)], [I 1, I 0, I 100, (.vl [[I (20)], [I (20)]] true)], [I 0, I 15, I 130, (.vl [[I (10)], [I (0)]] true)]] false)], (.vl [[I (0)], [I (1)], [I (2)]] true)] []) = true := by kernel_rfl
theorem k64_0_156 : isR ((.vl [[I (0)], [I (1)], [I (2)]] false)) (callF FK0 (exec Tryz.prog FK0 1000) 64 [.agg [I 2, .vl [[.vl [[I 0], [I 10]] true], [.vl [[I 20], [I 0]] true]] true, .nils, (.vl [[I 0, I 156, I 100, (.vl [[I (30)], [I (40)]] true)], [I 1, I 0, I 100, (.vl [[I (20)], [I (20)]] true)], [I 0, I 15, I 130, (.vl [[I (10)], [I (0)]] true)]] false)], (.vl [[I (0)], [I (1)], [I (2)]] true)] []) = true := by kernel_rfl
theorem k64_0_78 : isR ((.vl [[I (0)], [I (1)], [I (2)]] false)) (callF FK0 (exec Tryz.prog FK0 1000) 64 [.agg [I 2, .vl [[.vl [[I 0], [I 10]] true], [.vl [[I 20], [I 0]] true]] true, .nils, (.vl [[I 0, I 78, I 100, (.vl [[I (30)], [I (40)]] true)], [I 1, I 0, I 100, (.vl [[I (20)], [I (20)]] true)], [I 0, I 15, I 130, (.vl [[I (10)], [I (0)]] true)]] false)], (.vl [[I (0)], [I (1)], [I (2)]] true)] []) = true := by kernel_rfl
theorem k64_0_39 : isR ((.vl [[I (0)], [I (1)]] false)) (callF FK0 (exec Tryz.prog FK0 1000) 64 [.agg [I 2, .vl [[.vl [[I 0], [I 10]] true], [.vl [[I 20], [I 0]] true]] true, .nils, (.vl [[I 0, I 39, I 100, (.vl [[I (30)], [I (40)]] true)], [I 1, I 0, I 100, (.vl [[I (20)], [I (20)]] true)], [I 0, I 15, I 130, (.vl [[I (10)], [I (0)]] true)]] false)], (.vl [[I (0)], [I (1)], [I (2)]] true)] []) = true := by kernel_rfl
theorem k64_0_19 : isR ((.vl [[I (1)]] false)) (callF FK0 (exec Tryz.prog FK0 1000) 64 [.agg [I 2, .vl [[.vl [[I 0], [I 10]] true], [.vl [[I 20], [I 0]] true]] true, .nils, (.vl [[I 0, I 19, I 100, (.vl [[I (30)], [I (40)]] true)], [I 1, I 0, I 100, (.vl [[I (20)], [I (20)]] true)], [I 0, I 15, I 130, (.vl [[I (10)], [I (0)]] true)]] false)], (.vl [[I (0)], [I (1)], [I (2)]] true)] []) = true := by kernel_rfl
theorem k64_0_9 : isR ((.vl [[I (1)]] false)) (callF FK0 (exec Tryz.prog FK0 1000) 64 [.agg [I 2, .vl [[.vl [[I 0], [I 10]] true], [.vl [[I 20], [I 0]] true]] true, .nils, (.vl [[I 0, I 9, I 100, (.vl [[I (30)], [I (40)]] true)], [I 1, I 0, I 100, (.vl [[I (20)], [I (20)]] true)], [I 0, I 15, I 130, (.vl [[I (10)], [I (0)]] true)]] false)], (.vl [[I (0)], [I (1)], [I (2)]] true)] []) = true := by kernel_rfl
theorem k64_0_4 : isR ((.vl [[I (1)]] false)) (callF FK0 (exec Tryz.prog FK0 1000) 64 [.agg [I 2, .vl [[.vl [[I 0], [I 10]] true], [.vl [[I 20], [I 0]] true]] true, .nils, (.vl [[I 0, I 4, I 100, (.vl [[I (30)], [I (40)]] true)], [I 1, I 0, I 100, (.vl [[I (20)], [I (20)]] true)], [I 0, I 15, I 130, (.vl [[I (10)], [I (0)]] true)]] false)], (.vl [[I (0)], [I (1)], [I (2)]] true)] []) = true := by kernel_rfl
theorem k64_0_2 : isR ((.vl [[I (1)]] false)) (callF FK0 (exec Tryz.prog FK0 1000) 64 [.agg [I 2, .vl [[.vl [[I 0], [I 10]] true], [.vl [[I 20], [I 0]] true]] true, .nils, (.vl [[I 0, I 2, I 100, (.vl [[I (30)], [I (40)]] true)], [I 1, I 0, I 100, (.vl [[I (20)], [I (20)]] true)], [I 0, I 15, I 130, (.vl [[I (10)], [I (0)]] true)]] false)], (.vl [[I (0)], [I (1)], [I (2)]] true)] []) = true := by kernel_rfl
theorem k64_0_1 : isR ((.vl [[I (1)]] false)) (callF FK0 (exec Tryz.prog FK0 1000) 64 [.agg [I 2, .vl [[.vl [[I 0], [I 10]] true], [.vl [[I 20], [I 0]] true]] true, .nils, (.vl [[I 0, I 1, I 100, (.vl [[I (30)], [I (40)]] true)], [I 1, I 0, I 100, (.vl [[I (20)], [I (20)]] true)], [I 0, I 15, I 130, (.vl [[I (10)], [I (0)]] true)]] false)], (.vl [[I (0)], [I (1)], [I (2)]] true)] []) = true := by kernel_rfl
theorem k64_1_5000 : isR ((.vl [[I (1)], [I (2)]] false)) (callF FK0 (exec Tryz.prog FK0 1000) 64 [.agg [I 2, .vl [[.vl [[I 0], [I 10]] true], [.vl [[I 20], [I 0]] true]] true, .nils, (.vl [[I 0, I 0, I 100, (.vl [[I (30)], [I (40)]] true)], [I 1, I 5000, I 100, (.vl [[I (20)], [I (20)]] true)], [I 0, I 15, I 130, (.vl [[I (10)], [I (0)]] true)]] false)], (.vl [[I (0)], [I (1)], [I (2)]] true)] []) = true := by kernel_rfl
theorem k64_1_2500 : isR ((.vl [[I (1)], [I (2)]] false)) (callF FK0 (exec Tryz.prog FK0 1000) 64 [.agg [I 2, .vl [[.vl [[I 0], [I 10]] true], [.vl [[I 20], [I 0]] true]] true, .nils, (.vl [[I 0, I 0, I 100, (.vl [[I (30)], [I (40)]] true)], [I 1, I 2500, I 100, (.vl [[I (20)], [I (20)]] true)], [I 0, I 15, I 130, (.vl [[I (10)], [I (0)]] true)]] false)], (.vl [[I (0)], [I (1)], [I (2)]] true)] []) = true := by kernel_rfl
theorem k64_1_1250 : isR ((.vl [[I (1)], [I (2)]] false)) (callF FK0 (exec Tryz.prog FK0 1000) 64 [.agg [I 2, .vl [[.vl [[I 0], [I 10]] true], [.vl [[I 20], [I 0]] true]] true, .nils, (.vl [[I 0, I 0, I 100, (.vl [[I (30)], [I (40)]] true)], [I 1, I 1250, I 100, (.vl [[I (20)], [I (20)]] true)], [I 0, I 15, I 130, (.vl [[I (10)], [I (0)]] true)]] false)], (.vl [[I (0)], [I (1)], [I (2)]] true)] []) = true := by kernel_rfl
theorem k64_1_625 : isR ((.vl [[I (1)], [I (2)]] false)) (callF FK0 (exec Tryz.prog FK0 1000) 64 [.agg [I 2, .vl [[.vl [[I 0], [I 10]] true], [.vl [[I 20], [I 0]] true]] true, .nils, (.vl [[I 0, I 0, I 100, (.vl [[I (30)], [I (40)]] true)], [I 1, I 625, I 100, (.vl [[I (20)], [I (20)]] true)], [I 0, I 15, I 130, (.vl [[I (10)], [I (0)]] true)]] false)], (.vl [[I (0)], [I (1)], [I (2)]] true)] []) = true := by kernel_rfl
theorem k64_1_312 : isR ((.vl [[I (1)], [I (2)]] false)) (callF FK0 (exec Tryz.prog FK0 1000) 64 [.agg [I 2, .vl [[.vl [[I 0], [I 10]] true], [.vl [[I 20], [I 0]] true]] true, .nils, (.vl [[I 0, I 0, I 100, (.vl [[I (30)], [I (40)]] true)], [I 1, I 312, I 100, (.vl [[I (20)], [I (20)]] true)], [I 0, I 15, I 130, (.vl [[I (10)], [I (0)]] true)]] false)], (.vl [[I (0)], [I (1)], [I (2)]] true)] []) = true := by kernel_rfl
theorem k64_1_156 : isR ((.vl [[I (1)], [I (2)]] false)) (callF FK0 (exec Tryz.prog FK0 1000) 64 [.agg [I 2, .vl [[.vl [[I 0], [I 10]] true], [.vl [[I 20], [I 0]] true]] true, .nils, (.vl [[I 0, I 0, I 100, (.vl [[I (30)], [I (40)]] true)], [I 1, I 156, I 100, (.vl [[I (20)], [I (20)]] true)], [I 0, I 15, I 130, (.vl [[I (10)], [I (0)]] true)]] false)], (.vl [[I (0)], [I (1)], [I (2)]] true)] []) = true := by kernel_rfl
theorem k64_1_78 : isR ((.vl [[I (1)]] false)) (callF FK0 (exec Tryz.prog FK0 1000) 64 [.agg [I 2, .vl [[.vl [[I 0], [I 10]] true], [.vl [[I 20], [I 0]] true]] true, .nils, (.vl [[I 0, I 0, I 100, (.vl [[I (30)], [I (40)]] true)], [I 1, I 78, I 100, (.vl [[I (20)], [I (20)]] true)], [I 0, I 15, I 130, (.vl [[I (10)], [I (0)]] true)]] false)], (.vl [[I (0)], [I (1)], [I (2)]] true)] []) = true := by kernel_rfl
theorem k64_1_39 : isR (.nils) (callF FK0 (exec Tryz.prog FK0 1000) 64 [.agg [I 2, .vl [[.vl [[I 0], [I 10]] true], [.vl [[I 20], [I 0]] true]] true, .nils, (.vl [[I 0, I 0, I 100, (.vl [[I (30)], [I (40)]] true)], [I 1, I 39, I 100, (.vl [[I (20)], [I (20)]] true)], [I 0, I 15, I 130, (.vl [[I (10)], [I (0)]] true)]] false)], (.vl [[I (0)], [I (1)], [I (2)]] true)] []) = true := by kernel_rfl
theorem k64_1_58 : isR (.nils) (callF FK0 (exec Tryz.prog FK0 1000) 64 [.agg [I 2, .vl [[.vl [[I 0], [I 10]] true], [.vl [[I 20], [I 0]] true]] true, .nils, (.vl [[I 0, I 0, I 100, (.vl [[I (30)], [I (40)]] true)], [I 1, I 58, I 100, (.vl [[I (20)], [I (20)]] true)], [I 0, I 15, I 130, (.vl [[I (10)], [I (0)]] true)]] false)], (.vl [[I (0)], [I (1)], [I (2)]] true)] []) = true := by kernel_rfl
theorem k64_1_68 : isR ((.vl [[I (1)]] false)) (callF FK0 (exec Tryz.prog FK0 1000) 64 [.agg [I 2, .vl [[.vl [[I 0], [I 10]] true], [.vl [[I 20], [I 0]] true]] true, .nils, (.vl [[I 0, I 0, I 100, (.vl [[I (30)], [I (40)]] true)], [I 1, I 68, I 100, (.vl [[I (20)], [I (20)]] true)], [I 0, I 15, I 130, (.vl [[I (10)], [I (0)]] true)]] false)], (.vl [[I (0)], [I (1)], [I (2)]] true)] []) = true := by kernel_rfl
theorem k64_1_63 : isR ((.vl [[I (1)]] false)) (callF FK0 (exec Tryz.prog FK0 1000) 64 [.agg [I 2, .vl [[.vl [[I 0], [I 10]] true], [.vl [[I 20], [I 0]] true]] true, .nils, (.vl [[I 0, I 0, I 100, (.vl [[I (30)], [I (40)]] true)], [I 1, I 63, I 100, (.vl [[I (20)], [I (20)]] true)], [I 0, I 15, I 130, (.vl [[I (10)], [I (0)]] true)]] false)], (.vl [[I (0)], [I (1)], [I (2)]] true)] []) = true := by kernel_rfl
theorem k64_1_60 : isR (.nils) (callF FK0 (exec Tryz.prog FK0 1000) 64 [.agg [I 2, .vl [[.vl [[I 0], [I 10]] true], [.vl [[I 20], [I 0]] true]] true, .nils, (.vl [[I 0, I 0, I 100, (.vl [[I (30)], [I (40)]] true)], [I 1, I 60, I 100, (.vl [[I (20)], [I (20)]] true)], [I 0, I 15, I 130, (.vl [[I (10)], [I (0)]] true)]] false)], (.vl [[I (0)], [I (1)], [I (2)]] true)] []) = true := by kernel_rfl
theorem k64_1_61 : isR ((.vl [[I (1)]] false)) (callF FK0 (exec Tryz.prog FK0 1000) 64 [.agg [I 2, .vl [[.vl [[I 0], [I 10]] true], [.vl [[I 20], [I 0]] true]] true, .nils, (.vl [[I 0, I 0, I 100, (.vl [[I (30)], [I (40)]] true)], [I 1, I 61, I 100, (.vl [[I (20)], [I (20)]] true)], [I 0, I 15, I 130, (.vl [[I (10)], [I (0)]] true)]] false)], (.vl [[I (0)], [I (1)], [I (2)]] true)] []) = true := by kernel_rfl
noncomputable def kL71 : List (List AVal × AVal) := [([.agg [I 2, .vl [[.vl [[I 0], [I 10]] true], [.vl [[I 20], [I 0]] true]] true, .nils, .nils]], .tup [.nils, .agg [I 0, I 0]]), ([.agg [I 2, .vl [[.vl [[I 0], [I 10]] true], [.vl [[I 20], [I 0]] true]] true, .nils, (.vl [[I 0, I 0, I 100, (.vl [[I (30)], [I (40)]] true)]] false)]], .tup [(.vl [[I (0)]] false), .agg [I 0, I 70]]), ([.agg [I 2, .vl [[.vl [[I 0], [I 10]] true], [.vl [[I 20], [I 0]] true]] true, .nils, (.vl [[I 1, I 0, I 90, (.vl [[I (20)], [I (20)]] true)]] false)]], .tup [(.vl [[I (0)]] false), .agg [I 0, I 40]]), ([.agg [I 2, .vl [[.vl [[I 0], [I 10]] true], [.vl [[I 20], [I 0]] true]] true, .nils, (.vl [[I 0, I 0, I 100, (.vl [[I (30)], [I (40)]] true)], [I 1, I 0, I 90, (.vl [[I (20)], [I (20)]] true)]] false)]], .tup [(.vl [[I (0)], [I (1)]] false), .agg [I 10, I 100]]), ([.agg [I 2, .vl [[.vl [[I 0], [I 10]] true], [.vl [[I 20], [I 0]] true]] true, .nils, (.vl [[I 0, I 15, I 130, (.vl [[I (10)], [I (0)]] true)]] false)]], .tup [(.vl [[I (0)]] false), .agg [I 0, I 25]]), ([.agg [I 2, .vl [[.vl [[I 0], [I 10]] true], [.vl [[I 20], [I 0]] true]] true, .nils, (.vl [[I 0, I 0, I 100, (.vl [[I (30)], [I (40)]] true)], [I 0, I 15, I 130, (.vl [[I (10)], [I (0)]] true)]] false)]], .tup [(.vl [[I (0)], [I (1)]] false), .agg [I 0, I 70]]), ([.agg [I 2, .vl [[.vl [[I 0], [I 10]] true], [.vl [[I 20], [I 0]] true]] true, .nils, (.vl [[I 1, I 0, I 90, (.vl [[I (20)], [I (20)]] true)], [I 0, I 15, I 130, (.vl [[I (10)], [I (0)]] true)]] false)]], .tup [(.vl [[I (0)], [I (1)]] false), .agg [I 0, I 50]]), ([.agg [I 2, .vl [[.vl [[I 0], [I 10]] true], [.vl [[I 20], [I 0]] true]] true, .nils, (.vl [[I 0, I 0, I 100, (.vl [[I (30)], [I (40)]] true)], [I 1, I 0, I 90, (.vl [[I (20)], [I (20)]] true)], [I 0, I 15, I 130, (.vl [[I (10)], [I (0)]] true)]] false)]], .tup [(.vl [[I (0)], [I (1)], [I (2)]] false), .agg [I 10, I 100]]), ([.agg [I 2, .vl [[.vl [[I 0], [I 10]] true], [.vl [[I 20], [I 0]] true]] true, .nils, (.vl [[I 0, I 0, I 100, (.vl [[I (30)], [I (40)]] true)], [I 1, I 0, I 90, (.vl [[I (20)], [I (20)]] true)], [I 0, I 15, I 130, (.vl [[I (10)], [I (0)]] true)]] true)]], .tup [(.vl [[I (0)], [I (1)], [I (2)]] false), .agg [I 10, I 100]])]
noncomputable def FKa1 : Nat → Option CFn := upd FK0 71 true (oAt kL71)
theorem FKa1_ok : TabOk Tryz.prog GG FKa1 := tab_upd FK0_ok (oAt_good fun p hp => by
  simp only [kL71, List.mem_cons, List.not_mem_nil, or_false] at hp
  rcases hp with rfl | rfl | rfl | rfl | rfl | rfl | rfl | rfl | rfl
  · exact orc_of mixed FK0_ok (isR_answers k71_0)
  · exact orc_of mixed FK0_ok (isR_answers k71_1)
  · exact orc_of mixed FK0_ok (isR_answers k71_2)
  · exact orc_of mixed FK0_ok (isR_answers k71_3)
  · exact orc_of mixed FK0_ok (isR_answers k71_4)
  · exact orc_of mixed FK0_ok (isR_answers k71_5)
  · exact orc_of mixed FK0_ok (isR_answers k71_6)
  · exact orc_of mixed FK0_ok (isR_answers k71_7)
  · exact orc_of mixed FK0_ok (isR_answers k71_8))
noncomputable def kL64 : List (List AVal × AVal) := [([.agg [I 2, .vl [[.vl [[I 0], [I 10]] true], [.vl [[I 20], [I 0]] true]] true, .nils, (.vl [[I 0, I 0, I 100, (.vl [[I (30)], [I (40)]] true)], [I 1, I 0, I 100, (.vl [[I (20)], [I (20)]] true)], [I 0, I 15, I 130, (.vl [[I (10)], [I (0)]] true)]] true)], (.vl [[I (0)], [I (1)], [I (2)]] true)], .nils), ([.agg [I 2, .vl [[.vl [[I 0], [I 10]] true], [.vl [[I 20], [I 0]] true]] true, (.vl [[I 1, I 60, I 70]] false), (.vl [[I 0, I 0, I 100, (.vl [[I (30)], [I (40)]] true)], [I 1, I 0, I 100, (.vl [[I (20)], [I (20)]] true)], [I 0, I 15, I 130, (.vl [[I (10)], [I (0)]] true)]] true)], (.vl [[I (0)], [I (1)], [I (2)]] true)], (.vl [[I (0)], [I (1)]] false)), ([.agg [I 2, .vl [[.vl [[I 0], [I 10]] true], [.vl [[I 20], [I 0]] true]] true, .nils, (.vl [[I 0, I 5000, I 100, (.vl [[I (30)], [I (40)]] true)], [I 1, I 0, I 100, (.vl [[I (20)], [I (20)]] true)], [I 0, I 15, I 130, (.vl [[I (10)], [I (0)]] true)]] false)], (.vl [[I (0)], [I (1)], [I (2)]] true)], (.vl [[I (0)], [I (1)], [I (2)]] false)), ([.agg [I 2, .vl [[.vl [[I 0], [I 10]] true], [.vl [[I 20], [I 0]] true]] true, .nils, (.vl [[I 0, I 2500, I 100, (.vl [[I (30)], [I (40)]] true)], [I 1, I 0, I 100, (.vl [[I (20)], [I (20)]] true)], [I 0, I 15, I 130, (.vl [[I (10)], [I (0)]] true)]] false)], (.vl [[I (0)], [I (1)], [I (2)]] true)], (.vl [[I (0)], [I (1)], [I (2)]] false)), ([.agg [I 2, .vl [[.vl [[I 0], [I 10]] true], [.vl [[I 20], [I 0]] true]] true, .nils, (.vl [[I 0, I 1250, I 100, (.vl [[I (30)], [I (40)]] true)], [I 1, I 0, I 100, (.vl [[I (20)], [I (20)]] true)], [I 0, I 15, I 130, (.vl [[I (10)], [I (0)]] true)]] false)], (.vl [[I (0)], [I (1)], [I (2)]] true)], (.vl [[I (0)], [I (1)], [I (2)]] false)), ([.agg [I 2, .vl [[.vl [[I 0], [I 10]] true], [.vl [[I 20], [I 0]] true]] true, .nils, (.vl [[I 0, I 625, I 100, (.vl [[I (30)], [I (40)]] true)], [I 1, I 0, I 100, (.vl [[I (20)], [I (20)]] true)], [I 0, I 15, I 130, (.vl [[I (10)], [I (0)]] true)]] false)], (.vl [[I (0)], [I (1)], [I (2)]] true)], (.vl [[I (0)], [I (1)], [I (2)]] false)), ([.agg [I 2, .vl [[.vl [[I 0], [I 10]] true], [.vl [[I 20], [I 0]] true]] true, .nils, (.vl [[I 0, I 312, I 100, (.vl [[I (30)], [I (40)]] true)], [I 1, I 0, I 100, (.vl [[I (20)], [I (20)]] true)], [I 0, I 15, I 130, (.vl [[I (10)], [I (0)]] true)]] false)], (.vl [[I (0)], [I (1)], [I (2)]] true)], (.vl [[I (0)], [I (1)], [I (2)]] false)), ([.agg [I 2, .vl [[.vl [[I 0], [I 10]] true], [.vl [[I 20], [I 0]] true]] true, .nils, (.vl [[I 0, I 156, I 100, (.vl [[I (30)], [I (40)]] true)], [I 1, I 0, I 100, (.vl [[I (20)], [I (20)]] true)], [I 0, I 15, I 130, (.vl [[I (10)], [I (0)]] true)]] false)], (.vl [[I (0)], [I (1)], [I (2)]] true)], (.vl [[I (0)], [I (1)], [I (2)]] false)), ([.agg [I 2, .vl [[.vl [[I 0], [I 10]] true], [.vl [[I 20], [I 0]] true]] true, .nils, (.vl [[I 0, I 78, I 100, (.vl [[I (30)], [I (40)]] true)], [I 1, I 0, I 100, (.vl [[I (20)], [I (20)]] true)], [I 0, I 15, I 130, (.vl [[I (10)], [I (0)]] true)]] false)], (.vl [[I (0)], [I (1)], [I (2)]] true)], (.vl [[I (0)], [I (1)], [I (2)]] false)), ([.agg [I 2, .vl [[.vl [[I 0], [I 10]] true], [.vl [[I 20], [I 0]] true]] true, .nils, (.vl [[I 0, I 39, I 100, (.vl [[I (30)], [I (40)]] true)], [I 1, I 0, I 100, (.vl [[I (20)], [I (20)]] true)], [I 0, I 15, I 130, (.vl [[I (10)], [I (0)]] true)]] false)], (.vl [[I (0)], [I (1)], [I (2)]] true)], (.vl [[I (0)], [I (1)]] false)), ([.agg [I 2, .vl [[.vl [[I 0], [I 10]] true], [.vl [[I 20], [I 0]] true]] true, .nils, (.vl [[I 0, I 19, I 100, (.vl [[I (30)], [I (40)]] true)], [I 1, I 0, I 100, (.vl [[I (20)], [I (20)]] true)], [I 0, I 15, I 130, (.vl [[I (10)], [I (0)]] true)]] false)], (.vl [[I (0)], [I (1)], [I (2)]] true)], (.vl [[I (1)]] false)), ([.agg [I 2, .vl [[.vl [[I 0], [I 10]] true], [.vl [[I 20], [I 0]] true]] true, .nils, (.vl [[I 0, I 9, I 100, (.vl [[I (30)], [I (40)]] true)], [I 1, I 0, I 100, (.vl [[I (20)], [I (20)]] true)], [I 0, I 15, I 130, (.vl [[I (10)], [I (0)]] true)]] false)], (.vl [[I (0)], [I (1)], [I (2)]] true)], (.vl [[I (1)]] false)), ([.agg [I 2, .vl [[.vl [[I 0], [I 10]] true], [.vl [[I 20], [I 0]] true]] true, .nils, (.vl [[I 0, I 4, I 100, (.vl [[I (30)], [I (40)]] true)], [I 1, I 0, I 100, (.vl [[I (20)], [I (20)]] true)], [I 0, I 15, I 130, (.vl [[I (10)], [I (0)]] true)]] false)], (.vl [[I (0)], [I (1)], [I (2)]] true)], (.vl [[I (1)]] false)), ([.agg [I 2, .vl [[.vl [[I 0], [I 10]] true], [.vl [[I 20], [I 0]] true]] true, .nils, (.vl [[I 0, I 2, I 100, (.vl [[I (30)], [I (40)]] true)], [I 1, I 0, I 100, (.vl [[I (20)], [I (20)]] true)], [I 0, I 15, I 130, (.vl [[I (10)], [I (0)]] true)]] false)], (.vl [[I (0)], [I (1)], [I (2)]] true)], (.vl [[I (1)]] false)), ([.agg [I 2, .vl [[.vl [[I 0], [I 10]] true], [.vl [[I 20], [I 0]] true]] true, .nils, (.vl [[I 0, I 1, I 100, (.vl [[I (30)], [I (40)]] true)], [I 1, I 0, I 100, (.vl [[I (20)], [I (20)]] true)], [I 0, I 15, I 130, (.vl [[I (10)], [I (0)]] true)]] false)], (.vl [[I (0)], [I (1)], [I (2)]] true)], (.vl [[I (1)]] false)), ([.agg [I 2, .vl [[.vl [[I 0], [I 10]] true], [.vl [[I 20], [I 0]] true]] true, .nils, (.vl [[I 0, I 0, I 100, (.vl [[I (30)], [I (40)]] true)], [I 1, I 5000, I 100, (.vl [[I (20)], [I (20)]] true)], [I 0, I 15, I 130, (.vl [[I (10)], [I (0)]] true)]] false)], (.vl [[I (0)], [I (1)], [I (2)]] true)], (.vl [[I (1)], [I (2)]] false)), ([.agg [I 2, .vl [[.vl [[I 0], [I 10]] true], [.vl [[I 20], [I 0]] true]] true, .nils, (.vl [[I 0, I 0, I 100, (.vl [[I (30)], [I (40)]] true)], [I 1, I 2500, I 100, (.vl [[I (20)], [I (20)]] true)], [I 0, I 15, I 130, (.vl [[I (10)], [I (0)]] true)]] false)], (.vl [[I (0)], [I (1)], [I (2)]] true)], (.vl [[I (1)], [I (2)]] false)), ([.agg [I 2, .vl [[.vl [[I 0], [I 10]] true], [.vl [[I 20], [I 0]] true]] true, .nils, (.vl [[I 0, I 0, I 100, (.vl [[I (30)], [I (40)]] true)], [I 1, I 1250, I 100, (.vl [[I (20)], [I (20)]] true)], [I 0, I 15, I 130, (.vl [[I (10)], [I (0)]] true)]] false)], (.vl [[I (0)], [I (1)], [I (2)]] true)], (.vl [[I (1)], [I (2)]] false)), ([.agg [I 2, .vl [[.vl [[I 0], [I 10]] true], [.vl [[I 20], [I 0]] true]] true, .nils, (.vl [[I 0, I 0, I 100, (.vl [[I (30)], [I (40)]] true)], [I 1, I 625, I 100, (.vl [[I (20)], [I (20)]] true)], [I 0, I 15, I 130, (.vl [[I (10)], [I (0)]] true)]] false)], (.vl [[I (0)], [I (1)], [I (2)]] true)], (.vl [[I (1)], [I (2)]] false)), ([.agg [I 2, .vl [[.vl [[I 0], [I 10]] true], [.vl [[I 20], [I 0]] true]] true, .nils, (.vl [[I 0, I 0, I 100, (.vl [[I (30)], [I (40)]] true)], [I 1, I 312, I 100, (.vl [[I (20)], [I (20)]] true)], [I 0, I 15, I 130, (.vl [[I (10)], [I (0)]] true)]] false)], (.vl [[I (0)], [I (1)], [I (2)]] true)], (.vl [[I (1)], [I (2)]] false)), ([.agg [I 2, .vl [[.vl [[I 0], [I 10]] true], [.vl [[I 20], [I 0]] true]] true, .nils, (.vl [[I 0, I 0, I 100, (.vl [[I (30)], [I (40)]] true)], [I 1, I 156, I 100, (.vl [[I (20)], [I (20)]] true)], [I 0, I 15, I 130, (.vl [[I (10)], [I (0)]] true)]] false)], (.vl [[I (0)], [I (1)], [I (2)]] true)], (.vl [[I (1)], [I (2)]] false)), ([.agg [I 2, .vl [[.vl [[I 0], [I 10]] true], [.vl [[I 20], [I 0]] true]] true, .nils, (.vl [[I 0, I 0, I 100, (.vl [[I (30)], [I (40)]] true)], [I 1, I 78, I 100, (.vl [[I (20)], [I (20)]] true)], [I 0, I 15, I 130, (.vl [[I (10)], [I (0)]] true)]] false)], (.vl [[I (0)], [I (1)], [I (2)]] true)], (.vl [[I (1)]] false)), ([.agg [I 2, .vl [[.vl [[I 0], [I 10]] true], [.vl [[I 20], [I 0]] true]] true, .nils, (.vl [[I 0, I 0, I 100, (.vl [[I (30)], [I (40)]] true)], [I 1, I 39, I 100, (.vl [[I (20)], [I (20)]] true)], [I 0, I 15, I 130, (.vl [[I (10)], [I (0)]] true)]] false)], (.vl [[I (0)], [I (1)], [I (2)]] true)], .nils), ([.agg [I 2, .vl [[.vl [[I 0], [I 10]] true], [.vl [[I 20], [I 0]] true]] true, .nils, (.vl [[I 0, I 0, I 100, (.vl [[I (30)], [I (40)]] true)], [I 1, I 58, I 100, (.vl [[I (20)], [I (20)]] true)], [I 0, I 15, I 130, (.vl [[I (10)], [I (0)]] true)]] false)], (.vl [[I (0)], [I (1)], [I (2)]] true)], .nils), ([.agg [I 2, .vl [[.vl [[I 0], [I 10]] true], [.vl [[I 20], [I 0]] true]] true, .nils, (.vl [[I 0, I 0, I 100, (.vl [[I (30)], [I (40)]] true)], [I 1, I 68, I 100, (.vl [[I (20)], [I (20)]] true)], [I 0, I 15, I 130, (.vl [[I (10)], [I (0)]] true)]] false)], (.vl [[I (0)], [I (1)], [I (2)]] true)], (.vl [[I (1)]] false)), ([.agg [I 2, .vl [[.vl [[I 0], [I 10]] true], [.vl [[I 20], [I 0]] true]] true, .nils, (.vl [[I 0, I 0, I 100, (.vl [[I (30)], [I (40)]] true)], [I 1, I 63, I 100, (.vl [[I (20)], [I (20)]] true)], [I 0, I 15, I 130, (.vl [[I (10)], [I (0)]] true)]] false)], (.vl [[I (0)], [I (1)], [I (2)]] true)], (.vl [[I (1)]] false)), ([.agg [I 2, .vl [[.vl [[I 0], [I 10]] true], [.vl [[I 20], [I 0]] true]] true, .nils, (.vl [[I 0, I 0, I 100, (.vl [[I (30)], [I (40)]] true)], [I 1, I 60, I 100, (.vl [[I (20)], [I (20)]] true)], [I 0, I 15, I 130, (.vl [[I (10)], [I (0)]] true)]] false)], (.vl [[I (0)], [I (1)], [I (2)]] true)], .nils), ([.agg [I 2, .vl [[.vl [[I 0], [I 10]] true], [.vl [[I 20], [I 0]] true]] true, .nils, (.vl [[I 0, I 0, I 100, (.vl [[I (30)], [I (40)]] true)], [I 1, I 61, I 100, (.vl [[I (20)], [I (20)]] true)], [I 0, I 15, I 130, (.vl [[I (10)], [I (0)]] true)]] false)], (.vl [[I (0)], [I (1)], [I (2)]] true)], (.vl [[I (1)]] false))]
noncomputable def FKa2 : Nat → Option CFn := upd FKa1 64 true (oAt kL64)
theorem FKa2_ok : TabOk Tryz.prog GG FKa2 := tab_upd FKa1_ok (oAt_good fun p hp => by
  simp only [kL64, List.mem_cons, List.not_mem_nil, or_false] at hp
  rcases hp with rfl | rfl | rfl | rfl | rfl | rfl | rfl | rfl | rfl | rfl | rfl | rfl | rfl | rfl | rfl | rfl | rfl | rfl | rfl | rfl | rfl | rfl | rfl | rfl | rfl | rfl | rfl | rfl
  · exact orc_of mixed FK0_ok (isR_answers k64_0)
  · exact orc_of mixed FK0_ok (isR_answers k64_1)
  · exact orc_of mixed FK0_ok (isR_answers k64_0_5000)
  · exact orc_of mixed FK0_ok (isR_answers k64_0_2500)
  · exact orc_of mixed FK0_ok (isR_answers k64_0_1250)
  · exact orc_of mixed FK0_ok (isR_answers k64_0_625)
  · exact orc_of mixed FK0_ok (isR_answers k64_0_312)
  · exact orc_of mixed FK0_ok (isR_answers k64_0_156)
  · exact orc_of mixed FK0_ok (isR_answers k64_0_78)
  · exact orc_of mixed FK0_ok (isR_answers k64_0_39)
  · exact orc_of mixed FK0_ok (isR_answers k64_0_19)
  · exact orc_of mixed FK0_ok (isR_answers k64_0_9)
  · exact orc_of mixed FK0_ok (isR_answers k64_0_4)
  · exact orc_of mixed FK0_ok (isR_answers k64_0_2)
  · exact orc_of mixed FK0_ok (isR_answers k64_0_1)
  · exact orc_of mixed FK0_ok (isR_answers k64_1_5000)
  · exact orc_of mixed FK0_ok (isR_answers k64_1_2500)
  · exact orc_of mixed FK0_ok (isR_answers k64_1_1250)
  · exact orc_of mixed FK0_ok (isR_answers k64_1_625)
  · exact orc_of mixed FK0_ok (isR_answers k64_1_312)
  · exact orc_of mixed FK0_ok (isR_answers k64_1_156)
  · exact orc_of mixed FK0_ok (isR_answers k64_1_78)
  · exact orc_of mixed FK0_ok (isR_answers k64_1_39)
  · exact orc_of mixed FK0_ok (isR_answers k64_1_58)
  · exact orc_of mixed FK0_ok (isR_answers k64_1_68)
  · exact orc_of mixed FK0_ok (isR_answers k64_1_63)
  · exact orc_of mixed FK0_ok (isR_answers k64_1_60)
  · exact orc_of mixed FK0_ok (isR_answers k64_1_61))
theorem k43 : isR (.tup [.vl [[(.vl [[I (40)], [I (70)]] false)], [(.vl [[I (0)], [I (20)]] false)], [(.vl [[I (70)], [I (80)]] false)]] true, I 0]) (callF FA3 (exec Tryz.prog FA3 1000) 43 [kS, kJ90, (.vl [[I (1)], [I (0)], [I (2)]] true)] []) = true := by kernel_rfl
theorem k19 : isR (.tup [I 1, I 10, I 110, I 0]) (callF FA3 (exec Tryz.prog FA3 1000) 19 [kS, kJ90, (.vl [[I (1)], [I (0)], [I (2)]] true)] []) = true := by kernel_rfl
theorem k29 : isR (.tup [(.vl [[I (0)], [I (1)], [I (2)]] false), I 0]) (callF FK0 (exec Tryz.prog FK0 1000) 29 [kS, kJ90] []) = true := by kernel_rfl
theorem k33 : isR (.tup [(.vl [[I (0)], [I (1)]] false), I 0]) (callF FKa2 (exec Tryz.prog FKa2 1000) 33 [kS, kJ90] []) = true := by kernel_rfl
theorem k30 : isR (.tup [I 80, I 0]) (callF FA3 (exec Tryz.prog FA3 1000) 30 [kS, kJ90] []) = true := by kernel_rfl
theorem k20 : isR (.tup [(.vl [[I (2)], [I (1)]] false), I 0]) (callF FA3 (exec Tryz.prog FA3 1000) 20 [kS, kJ90, (.vl [[I (0)], [I (1)], [I (2)]] true)] []) = true := by kernel_rfl
theorem k38a : isR (.tup [I 0, I 0]) (callF FKa2 (exec Tryz.prog FKa2 1000) 38 [kS, kJ100, (.vl [[I (0)], [I (1)], [I (2)]] true), I 0] []) = true := by kernel_rfl
theorem k38b : isR (.tup [I 60, I 0]) (callF FKa2 (exec Tryz.prog FKa2 1000) 38 [kS, kJ100, (.vl [[I (0)], [I (1)], [I (2)]] true), I 1] []) = true := by kernel_rfl
theorem k35 : isR (.tup [(.vl [[I (0)], [I (1)]] false), I 0]) (callF FA3 (exec Tryz.prog FA3 1000) 35 [kS, kJ100, (.vl [[I (0)], [I (1)], [I (2)]] true), .agg [I 1, I 60, I 70]] []) = true := by kernel_rfl
noncomputable def kL43 : List (List AVal × AVal) := [([kS, kJ90, (.vl [[I (1)], [I (0)], [I (2)]] true)], .tup [.vl [[(.vl [[I (40)], [I (70)]] false)], [(.vl [[I (0)], [I (20)]] false)], [(.vl [[I (70)], [I (80)]] false)]] true, I 0])]
noncomputable def FKb1 : Nat → Option CFn := upd FA3 43 true (oAt kL43)
theorem FKb1_ok : TabOk Tryz.prog GG FKb1 := tab_upd FA3_ok (oAt_good fun p hp => by
  simp only [kL43, List.mem_cons, List.not_mem_nil, or_false] at hp
  subst hp
  exact orc_of mixed FA3_ok (isR_answers k43))
noncomputable def kL19 : List (List AVal × AVal) := [([kS, kJ90, (.vl [[I (1)], [I (0)], [I (2)]] true)], .tup [I 1, I 10, I 110, I 0])]
noncomputable def FKb2 : Nat → Option CFn := upd FKb1 19 true (oAt kL19)
theorem FKb2_ok : TabOk Tryz.prog GG FKb2 := tab_upd FKb1_ok (oAt_good fun p hp => by
  simp only [kL19, List.mem_cons, List.not_mem_nil, or_false] at hp
  subst hp
  exact orc_of mixed FA3_ok (isR_answers k19))
noncomputable def kL29 : List (List AVal × AVal) := [([kS, kJ90], .tup [(.vl [[I (0)], [I (1)], [I (2)]] false), I 0])]
noncomputable def FKb3 : Nat → Option CFn := upd FKb2 29 true (oAt kL29)
theorem FKb3_ok : TabOk Tryz.prog GG FKb3 := tab_upd FKb2_ok (oAt_good fun p hp => by
  simp only [kL29, List.mem_cons, List.not_mem_nil, or_false] at hp
  subst hp
  exact orc_of mixed FK0_ok (isR_answers k29))
noncomputable def kL33 : List (List AVal × AVal) := [([kS, kJ90], .tup [(.vl [[I (0)], [I (1)]] false), I 0])]
noncomputable def FKb4 : Nat → Option CFn := upd FKb3 33 true (oAt kL33)
theorem FKb4_ok : TabOk Tryz.prog GG FKb4 := tab_upd FKb3_ok (oAt_good fun p hp => by
  simp only [kL33, List.mem_cons, List.not_mem_nil, or_false] at hp
  subst hp
  exact orc_of mixed FKa2_ok (isR_answers k33))
noncomputable def kL30 : List (List AVal × AVal) := [([kS, kJ90], .tup [I 80, I 0])]
noncomputable def FKb5 : Nat → Option CFn := upd FKb4 30 true (oAt kL30)
theorem FKb5_ok : TabOk Tryz.prog GG FKb5 := tab_upd FKb4_ok (oAt_good fun p hp => by
  simp only [kL30, List.mem_cons, List.not_mem_nil, or_false] at hp
  subst hp
  exact orc_of mixed FA3_ok (isR_answers k30))
noncomputable def kL20 : List (List AVal × AVal) := [([kS, kJ90, (.vl [[I (0)], [I (1)], [I (2)]] true)], .tup [(.vl [[I (2)], [I (1)]] false), I 0])]
noncomputable def FKb6 : Nat → Option CFn := upd FKb5 20 true (oAt kL20)
theorem FKb6_ok : TabOk Tryz.prog GG FKb6 := tab_upd FKb5_ok (oAt_good fun p hp => by
  simp only [kL20, List.mem_cons, List.not_mem_nil, or_false] at hp
  subst hp
  exact orc_of mixed FA3_ok (isR_answers k20))
noncomputable def kL38 : List (List AVal × AVal) := [([kS, kJ100, (.vl [[I (0)], [I (1)], [I (2)]] true), I 0], .tup [I 0, I 0]), ([kS, kJ100, (.vl [[I (0)], [I (1)], [I (2)]] true), I 1], .tup [I 60, I 0])]
noncomputable def FKb7 : Nat → Option CFn := upd FKb6 38 true (oAt kL38)
theorem FKb7_ok : TabOk Tryz.prog GG FKb7 := tab_upd FKb6_ok (oAt_good fun p hp => by
  simp only [kL38, List.mem_cons, List.not_mem_nil, or_false] at hp
  rcases hp with rfl | rfl
  · exact orc_of mixed FKa2_ok (isR_answers k38a)
  · exact orc_of mixed FKa2_ok (isR_answers k38b))
noncomputable def kL35 : List (List AVal × AVal) := [([kS, kJ100, (.vl [[I (0)], [I (1)], [I (2)]] true), .agg [I 1, I 60, I 70]], .tup [(.vl [[I (0)], [I (1)]] false), I 0])]
noncomputable def FKb8 : Nat → Option CFn := upd FKb7 35 true (oAt kL35)
theorem FKb8_ok : TabOk Tryz.prog GG FKb8 := tab_upd FKb7_ok (oAt_good fun p hp => by
  simp only [kL35, List.mem_cons, List.not_mem_nil, or_false] at hp
  subst hp
  exact orc_of mixed FA3_ok (isR_answers k35))
theorem kn : isR (.bool true) (callF FKb8 (exec Tryz.prog FKb8 300) 15 [] []) = true := by kernel_rfl
def oKn : List AVal → Option AVal
  | [] => some (.bool true)
  | _ => none
theorem kn_good : ∀ args v, oKn args = some v → OrcGood Tryz.prog GG true 15 args v := fun args v ho => by
  unfold oKn at ho; split at ho <;> simp at ho
  subst ho
  exact orc_of mixed FKb8_ok (isR_answers kn)
end Go.Proofs.YtjjapdagllclkaaGreat.Tab
namespace Go.Proofs.YtjjapdagllclkaaGreat.Tab
open Go Go.Abs Go.Proofs
set_option maxRecDepth 100000
set_option maxHeartbeats 4000000
set_option linter.unusedSimpArgs false
set_option linter.unusedVariables false
section
attribute [local simp] frz_int frz_bool frz_vl frz_pv frz_agg frz_tup frz_fn frz_ref frz_sl frz_nils optAll orcF rb_int rb_bool rb_agg rb_tup rb_int' rb_bool' rb_vl rb_pv rb_yld rb_nilf rb_nilp rb_nils rb_any rb_und rb_ref rb_sl rb_fn slE chunk fillA evParts evParts3 putAt List.range_succ List.range_zero List.range'_succ List.range'_zero runX_nil' unary_not evalS_pure evAll_nil evAll_cons runX_cons stepX wantedA dop CV.ev putK_eq setK_eq appK_eq fA_eq fI_eq fN_eq fRow_eq fRows_eq nth_eq Out.v putT List.replicate_succ zT zB arI pointee Abs.rowAt ldRow allV toV toC ofV ofC Builtin.min_ Builtin.min2 Builtin.max_ Builtin.max2 min_if max_if resA tupA kill trim_self trim_len trim_emp trim_nil lenA
attribute [local simp] runD_nil' runD_cons' stepD actK_eq actD clash disj masks holes maskH unmaskH diffs news eqB allB eqA ldRowN wrote toCs ofCs stA rowsV_vl rowsV_nils rowsOf dI1 dI2 dI3 dI5 elt
attribute [local simp] st_any st_und st_agg st_tup st_bool st_int st_nilp st_ref st_pv st_nils st_sl st_vl st_nilm st_mp st_fn st_nilf st_yld co_any co_und co_agg co_tup co_bool co_int co_nilp co_ref co_pv co_nils co_sl co_vl co_nilm co_mp co_fn co_nilf co_yld
section
attribute [local simp] callA calleeA lim lop loud rbB_none rbB_row
noncomputable def FT1 : Nat → Option CFn := FP2
theorem FT1_ok : TabOk Tryz.prog GG FT1 := FP2_ok
noncomputable def FT2 : Nat → Option CFn := FT1
theorem FT2_ok : TabOk Tryz.prog GG FT2 := FT1_ok
noncomputable def FT3 : Nat → Option CFn := upd FT2 15 true oKn
theorem FT3_ok : TabOk Tryz.prog GG FT3 := tab_upd FT2_ok kn_good
noncomputable def FT_44 : Nat → Option CFn := FT3
theorem FT_44_ok : TabOk Tryz.prog GG FT_44 := FT3_ok
noncomputable def FT : Nat → Option CFn := FT_44
theorem FT_ok : TabOk Tryz.prog GG FT := FT_44_ok
end
end
end Go.Proofs.YtjjapdagllclkaaGreat.Tab
namespace Go.Proofs.YtjjapdagllclkaaGreat
open Go Go.Abs Go.Proofs Go.ChangeShapes Go.WideShapes Go.ChangeAt Go.RowKit
theorem own : ownKnob Tryz.prog.godebug = none := by kernel_rfl
theorem laidOut : laidOutB Tryz.prog = true := by kernel_rfl
theorem rows_of {x : AVal} {rs : List (List AVal)} (hx : x = .nils ∧ rs = [] ∨ ∃ t, x = .vl rs t) : rowsV x = some rs := by
  rcases hx with ⟨rfl, rfl⟩ | ⟨t, rfl⟩ <;> rfl
end Go.Proofs.YtjjapdagllclkaaGreat
namespace Go.Proofs.YtjjapdagllclkaaGreat
open Go Go.Abs Go.Proofs
theorem optAll_ex {α β : Type} {f : α → Option β} : ∀ {l : List α}, (∀ x ∈ l, ∃ a, f x = some a) → ∃ zs, optAll f l = some zs
  | [], _ => ⟨[], rfl⟩
  | x :: l, h => by
    obtain ⟨a, ha⟩ := h x (by simp)
    obtain ⟨zs, has⟩ := optAll_ex (l := l) fun y hy => h y (by simp [hy])
    exact ⟨a :: zs, by simp only [optAll, ha, has]⟩
theorem rows_ex {e : List Ly} {x : AVal} {β : Type} {f : List AVal → Option β} (h : Fits (.sl e) x) (hf : ∀ r, FitsR e r → ∃ a, f r = some a) : ∃ rs zs, rowsV x = some rs ∧ optAll f rs = some zs := by
  obtain ⟨rs, hx, hrs⟩ := fits_rows h
  obtain ⟨zs, has⟩ := optAll_ex fun r hr => hf r (hrs r hr)
  exact ⟨rs, zs, rows_of hx, has⟩
theorem fits_ints {x : AVal} (h : Fits (.sl [.int .i64]) x) : ∃ xs, Tab.dInts x = some xs := by
  obtain ⟨rs, zs, h1, h2⟩ := rows_ex (f := dI1) h fun r hr => by
    obtain ⟨y1, ys1, rfl, hy1, h1⟩ := fitsR_cons hr
    obtain ⟨n, rfl, _⟩ := fits_int hy1
    obtain rfl := fitsR_nil h1
    exact ⟨n, rfl⟩
  exact ⟨zs, by unfold Tab.dInts; rw [h1]; exact h2⟩
theorem fits_ints2 {x : AVal} (h : Fits (.sl [.sl [.int .i64]]) x) : ∃ xs, Tab.dInts2 x = some xs := by
  obtain ⟨rs, zs, h1, h2⟩ := rows_ex (f := Tab.dRow1) h fun r hr => by
    obtain ⟨y1, ys1, rfl, hy1, h1⟩ := fitsR_cons hr
    obtain ⟨n, hn⟩ := fits_ints hy1
    obtain rfl := fitsR_nil h1
    exact ⟨n, hn⟩
  exact ⟨zs, by unfold Tab.dInts2; rw [h1]; exact h2⟩
theorem fits_stops {x : AVal} (h : Fits (.sl [.int .i64, .int .i64, .int .i64]) x) : ∃ xs, Tab.dStops x = some xs := by
  obtain ⟨rs, zs, h1, h2⟩ := rows_ex (f := dI3) h fun r hr => by
    obtain ⟨y1, ys1, rfl, hy1, h1⟩ := fitsR_cons hr
    obtain ⟨n, rfl, _⟩ := fits_int hy1
    obtain ⟨y2, ys2, rfl, hy2, h2⟩ := fitsR_cons h1
    obtain ⟨m, rfl, _⟩ := fits_int hy2
    obtain ⟨y3, ys3, rfl, hy3, h3⟩ := fitsR_cons h2
    obtain ⟨k, rfl, _⟩ := fits_int hy3
    obtain rfl := fitsR_nil h3
    exact ⟨(n, m, k), rfl⟩
  exact ⟨zs, by unfold Tab.dStops; rw [h1]; exact h2⟩
theorem fits_jobs {x : AVal} (h : Fits (.sl [.int .i64, .int .i64, .int .i64, .sl [.int .i64]]) x) : ∃ xs, Tab.dJobs x = some xs := by
  obtain ⟨rs, zs, h1, h2⟩ := rows_ex (f := Tab.dJob) h fun r hr => by
    obtain ⟨y1, ys1, rfl, hy1, h1⟩ := fitsR_cons hr
    obtain ⟨n, rfl, _⟩ := fits_int hy1
    obtain ⟨y2, ys2, rfl, hy2, h2⟩ := fitsR_cons h1
    obtain ⟨m, rfl, _⟩ := fits_int hy2
    obtain ⟨y3, ys3, rfl, hy3, h3⟩ := fitsR_cons h2
    obtain ⟨k, rfl, _⟩ := fits_int hy3
    obtain ⟨y4, ys4, rfl, hy4, h4⟩ := fitsR_cons h3
    obtain ⟨ms, hms⟩ := fits_ints hy4
    obtain rfl := fitsR_nil h4
    exact ⟨⟨n, m, k, ms⟩, by simp only [Tab.dJob, hms]⟩
  exact ⟨zs, by unfold Tab.dJobs; rw [h1]; exact h2⟩
theorem fits_shop {xs : List AVal} (h : FitsR [.int .i64, .sl [.sl [.int .i64]], .sl [.int .i64, .int .i64, .int .i64]] xs) : ∃ (s : Tab.FShop) (c t : AVal), xs = [.int .i64 s.mach, c, t] ∧ Tab.dInts2 c = some s.chg ∧ Tab.dStops t = some s.stops := by
  obtain ⟨y, ys, rfl, hy, h1⟩ := fitsR_cons h
  obtain ⟨c, ys2, rfl, hc, h2⟩ := fitsR_cons h1
  obtain ⟨t, ys3, rfl, ht, h3⟩ := fitsR_cons h2
  obtain rfl := fitsR_nil h3
  obtain ⟨n, rfl, _⟩ := fits_int hy
  obtain ⟨cs, hcs⟩ := fits_ints2 hc
  obtain ⟨ts, hts⟩ := fits_stops ht
  exact ⟨⟨n, cs, ts⟩, c, t, rfl, hcs, hts⟩
end Go.Proofs.YtjjapdagllclkaaGreat
