/- The abstract machine: what an argument reads as, as an abstract value. No condition. -/
import Derived.Test.YtfnnonoffiljhaaBaB
import Derived.ProofKit
import Derived.Below
import Derived.LaidMore
set_option linter.unusedSimpArgs false
set_option linter.unusedVariables false
namespace Go.Abs
open Go

/-- What the cells of a type hold: integers, Booleans, slices of such rows. -/
inductive Ly where
  | int (k : IntKind)
  | bool
  | sl (e : List Ly)

/-- The fields, one behind the other. -/
def layFs (P : Program) (lay : TypeId → Option (List Ly)) : Nat → List Field → Option (List Ly)
  | _, [] => some []
  | o, f :: fs => if f.offset = o then match lay f.type with
    | some l => if l.length = P.cellsOf f.type then match layFs P lay (o + l.length) fs with
        | some r => some (l ++ r)
        | none => none
      else none
    | none => none
  else none

def layOf (P : Program) : Nat → TypeId → Option (List Ly)
  | 0, _ => none
  | d + 1, t => match P.underlying t with
    | some .bool => some [.bool]
    | some (.int k) => some [.int k]
    | some (.struct fs) => match layFs P (layOf P d) 0 fs.toList with
      | some l => if l.length = P.cellsOf t then some l else none
      | none => none
    | some (.slice e) => match layOf P d e with
      | some l => if l.length = P.cellsOf e ∧ l ≠ [] then some [.sl l] else none
      | none => none
    | some (.array n e) => match layOf P d e with
      | some l => if l.length = P.cellsOf e ∧ n * l.length = P.cellsOf t then some (List.replicate n l).flatten else none
      | none => none
    | _ => none

/-- An abstract value is as the layout says. -/
inductive Fits : Ly → AVal → Prop
  | int (k : IntKind) (n : Int) (h : (Lit.int k n).wf = true) : Fits (.int k) (.int k n)
  | bool (b : Bool) : Fits .bool (.bool b)
  | nils (e : List Ly) : Fits (.sl e) .nils
  | vl (e : List Ly) (rs : List (List AVal)) (t : Bool) (hl : ∀ r ∈ rs, r.length = e.length) (h : ∀ (i : Nat) (r : List AVal), rs[i]? = some r → ∀ (j : Nat) (x : AVal) (l : Ly), r[j]? = some x → e[j]? = some l → Fits l x) : Fits (.sl e) (.vl rs t)

def FitsR (L : List Ly) (xs : List AVal) : Prop := xs.length = L.length ∧ ∀ (j : Nat) (x : AVal) (l : Ly), xs[j]? = some x → L[j]? = some l → Fits l x

def RowR (ρ : Nat → Loc) (w : World) (xs : List AVal) (cs : List Value) : Prop := xs.length = cs.length ∧ ∀ (j : Nat) (x : AVal) (c : Value), xs[j]? = some x → cs[j]? = some c → Abs.VR ρ (fun b => b < w.heap.size) w (fun _ => False) x c

theorem rowR_app {ρ : Nat → Loc} {w : World} {xs ys : List AVal} {cs ds : List Value} (h1 : RowR ρ w xs cs) (h2 : RowR ρ w ys ds) : RowR ρ w (xs ++ ys) (cs ++ ds) := by
  refine ⟨by simp [h1.1, h2.1], fun j x c hx hc => ?_⟩
  by_cases hj : j < xs.length
  · rw [List.getElem?_append_left hj] at hx
    rw [List.getElem?_append_left (h1.1 ▸ hj)] at hc
    exact h1.2 j x c hx hc
  · rw [List.getElem?_append_right (by omega)] at hx
    rw [List.getElem?_append_right (by rw [← h1.1]; omega), ← h1.1] at hc
    exact h2.2 _ x c hx hc

theorem fitsR_app {L M : List Ly} {xs ys : List AVal} (h1 : FitsR L xs) (h2 : FitsR M ys) : FitsR (L ++ M) (xs ++ ys) := by
  refine ⟨by simp [h1.1, h2.1], fun j x c hx hc => ?_⟩
  by_cases hj : j < xs.length
  · rw [List.getElem?_append_left hj] at hx
    rw [List.getElem?_append_left (h1.1 ▸ hj)] at hc
    exact h1.2 j x c hx hc
  · rw [List.getElem?_append_right (by omega)] at hx
    rw [List.getElem?_append_right (by rw [← h1.1]; omega), ← h1.1] at hc
    exact h2.2 _ x c hx hc

theorem mapM_some {α β : Type} {f : α → Option β} : ∀ {l : List α} {ys : List β}, l.mapM f = some ys → ys.length = l.length ∧ ∀ (j : Nat) (a : α), l[j]? = some a → ∃ y, ys[j]? = some y ∧ f a = some y
  | [], ys, h => by simp at h; subst h; exact ⟨rfl, fun j a h => by simp at h⟩
  | x :: l, ys, h => by
    rw [List.mapM_cons] at h
    cases hx : f x with
    | none => simp [hx] at h
    | some y =>
    cases hl : l.mapM f with
    | none => simp [hx, hl] at h
    | some zs =>
      simp [hx, hl] at h
      subst h
      obtain ⟨g1, g2⟩ := mapM_some hl
      refine ⟨by simp [g1], fun j a hj => ?_⟩
      cases j with
      | zero => simp at hj; subst hj; exact ⟨y, rfl, hx⟩
      | succ j => exact g2 j a (by simpa using hj)

section
variable {H : Type} {enc : TypeId × Value → H} {P : Program} {w : World} {held : Bool} {ρ : Nat → Loc}

theorem fields_ok {lay : TypeId → Option (List Ly)} {fuel : Nat} (ih : ∀ t L cs x, lay t = some L → DataW.trod enc P w 0 (fun _ => true) held fuel t cs = some x → ∃ xs, RowR ρ w xs cs ∧ FitsR L xs) :
    ∀ (fs : List Field) (o : Nat) (L : List Ly) (cs : List Value) (ys : List (DataW H × List MemPlace)), layFs P lay o fs = some L →
      (fs.mapM fun f => DataW.trod enc P w 0 (fun _ => true) held fuel f.type ((cs.drop f.offset).take (P.cellsOf f.type))) = some ys → cs.length = o + L.length → ∃ xs, RowR ρ w xs (cs.drop o) ∧ FitsR L xs
  | [], o, L, cs, ys, hL, hm, hc => by
    simp [layFs] at hL; subst hL
    refine ⟨[], ⟨by simp at hc ⊢; omega, fun j x c h => by simp at h⟩, rfl, fun j x l h => by simp at h⟩
  | f :: fs, o, L, cs, ys, hL, hm, hc => by
    simp only [layFs] at hL
    split at hL
    · rename_i ho
      split at hL
      · rename_i l hl
        split at hL
        · rename_i hlen
          split at hL <;> simp at hL
          rename_i r hr
          subst hL
          rw [List.mapM_cons] at hm
          cases hx : DataW.trod enc P w 0 (fun _ => true) held fuel f.type ((cs.drop f.offset).take (P.cellsOf f.type)) with
          | none => simp [hx] at hm
          | some y =>
          cases hrest : (fs.mapM fun f => DataW.trod enc P w 0 (fun _ => true) held fuel f.type ((cs.drop f.offset).take (P.cellsOf f.type))) with
          | none => simp [hx, hrest] at hm
          | some zs =>
          obtain ⟨xs, h1, h2⟩ := ih _ _ _ _ hl hx
          obtain ⟨xs2, h3, h4⟩ := fields_ok ih fs (o + l.length) r cs zs hr hrest (by simp at hc; omega)
          refine ⟨xs ++ xs2, ?_, fitsR_app h2 h4⟩
          have e : cs.drop o = (cs.drop f.offset).take (P.cellsOf f.type) ++ cs.drop (o + l.length) := by
            rw [ho, ← hlen, ← List.drop_drop, List.take_append_drop]
          rw [e]
          exact rowR_app h1 h3
        · simp at hL
      · simp at hL
    · simp at hL

theorem elems_ok {lay : TypeId → Option (List Ly)} {fuel : Nat} (ih : ∀ t L cs x, lay t = some L → DataW.trod enc P w 0 (fun _ => true) held fuel t cs = some x → ∃ xs, RowR ρ w xs cs ∧ FitsR L xs) {e : TypeId} {l : List Ly} (hl : lay e = some l) :
    ∀ (m o : Nat) (cs : List Value) (ys : List (DataW H × List MemPlace)),
      ((List.range' o m).mapM fun i => DataW.trod enc P w 0 (fun _ => true) held fuel e ((cs.drop (i * P.cellsOf e)).take (P.cellsOf e))) = some ys → cs.length = (o + m) * P.cellsOf e → ∃ xs, RowR ρ w xs (cs.drop (o * P.cellsOf e)) ∧ FitsR (List.replicate m l).flatten xs
  | 0, o, cs, ys, hm, hc => by
    refine ⟨[], ⟨by simp at hc ⊢; omega, fun j x c h => by simp at h⟩, rfl, fun j x l h => by simp at h⟩
  | m + 1, o, cs, ys, hm, hc => by
    rw [List.range'_succ, List.mapM_cons] at hm
    cases hx : DataW.trod enc P w 0 (fun _ => true) held fuel e ((cs.drop (o * P.cellsOf e)).take (P.cellsOf e)) with
    | none => simp [hx] at hm
    | some y =>
    cases hrest : ((List.range' (o + 1) m).mapM fun i => DataW.trod enc P w 0 (fun _ => true) held fuel e ((cs.drop (i * P.cellsOf e)).take (P.cellsOf e))) with
    | none => simp [hx, hrest] at hm
    | some zs =>
    obtain ⟨xs, h1, h2⟩ := ih _ _ _ _ hl hx
    obtain ⟨xs2, h3, h4⟩ := elems_ok ih hl m (o + 1) cs zs hrest (by rw [hc]; congr 1; omega)
    refine ⟨xs ++ xs2, ?_, by rw [List.replicate_succ, List.flatten_cons]; exact fitsR_app h2 h4⟩
    have e1 : cs.drop (o * P.cellsOf e) = (cs.drop (o * P.cellsOf e)).take (P.cellsOf e) ++ cs.drop ((o + 1) * P.cellsOf e) := by
      rw [Nat.add_mul, Nat.one_mul, ← List.drop_drop, List.take_append_drop]
    rw [e1]
    exact rowR_app h1 h3

theorem cells_len {base n : Nat} {a : Addr} {c : List Value} (h : w.cells? base a n = some c) : c.length = n := by
  unfold World.cells? at h
  split at h
  · have := (mapM_some h).1; simpa using this
  · simp at h

theorem cells_get {base n : Nat} {a : Addr} {c : List Value} (h : w.cells? base a n = some c) (j : Nat) (hj : j < n) : ∃ y, c[j]? = some y ∧ w.cell? (a.add j) = some y := by
  unfold World.cells? at h
  split at h
  · obtain ⟨y, h1, h2⟩ := (mapM_some h).2 j j (by simp [hj])
    exact ⟨y, h1, h2⟩
  · simp at h

theorem trod_fits : ∀ (d fuel : Nat) (t : TypeId) (L : List Ly) (cs : List Value) (x : DataW H × List MemPlace), layOf P d t = some L → DataW.trod enc P w 0 (fun _ => true) held fuel t cs = some x → ∃ xs, RowR ρ w xs cs ∧ FitsR L xs
  | 0, _, _, _, _, _, h, _ => by simp [layOf] at h
  | d + 1, 0, _, _, _, _, _, h => by simp [DataW.trod] at h
  | d + 1, fuel + 1, t, L, cs, x, hL, hx => by
    simp only [layOf] at hL
    have one : ∀ (c : Value) (v : AVal) (l : Ly), Abs.VR ρ (fun b => b < w.heap.size) w (fun _ => False) v c → Fits l v → ∃ xs, RowR ρ w xs [c] ∧ FitsR [l] xs := fun c v l h1 h2 =>
      ⟨[v], ⟨rfl, fun j x c' hx hc => by
        cases j with
        | zero => simp at hx hc; subst hx; subst hc; exact h1
        | succ j => simp at hx⟩, rfl, fun j x l' hx hl => by
        cases j with
        | zero => simp at hx hl; subst hx; subst hl; exact h2
        | succ j => simp at hx⟩
    split at hL
    · rename_i hu
      simp at hL; subst hL
      simp only [DataW.trod, hu] at hx
      split at hx <;> simp_all
      exact one _ _ _ (.bool _ _) (.bool _)
    · rename_i k hu
      simp at hL; subst hL
      simp only [DataW.trod, hu] at hx
      split at hx <;> simp_all
      obtain ⟨⟨rfl, hwf⟩, _⟩ := hx
      exact one _ _ _ (.int _ _ _) (.int _ _ hwf)
    · rename_i fs hu
      split at hL
      · rename_i l hl
        split at hL <;> simp at hL
        rename_i hlen
        subst hL
        simp only [DataW.trod, hu] at hx
        split at hx
        · rename_i hlc
          cases hm : (fs.toList.mapM fun f => DataW.trod enc P w 0 (fun _ => true) held fuel f.type ((cs.drop f.offset).take (P.cellsOf f.type))) with
          | none => simp [hm] at hx
          | some ys =>
            have := fields_ok (ρ := ρ) (fun t L cs x => trod_fits d fuel t L cs x) fs.toList 0 l cs ys hl hm (by omega)
            simpa using this
        · simp at hx
      · simp at hL
    · rename_i e hu
      split at hL
      · rename_i l hl
        split at hL <;> simp at hL
        rename_i hlen
        subst hL
        simp only [DataW.trod, hu] at hx
        split at hx <;> (try (simp_all; done))
        · exact one _ _ _ (.nils _) (.nils _)
        · rename_i e' a len cap he'
          simp only [Option.some.injEq, TypeDesc.slice.injEq] at he'
          subst he'
          split at hx
          · rename_i hb
            cases hm : ((List.range len).mapM fun i => (w.cells? 0 (a.add (i * P.cellsOf e)) (P.cellsOf e)).bind (DataW.trod enc P w 0 (fun _ => true) held fuel e)) with
            | none => simp [hm] at hx
            | some elems =>
            rw [hm] at hx
            simp only [Option.bind_some, if_true] at hx
            cases hm2 : ((List.range (cap - len)).mapM fun j => (w.cells? 0 (a.add ((len + j) * P.cellsOf e)) (P.cellsOf e)).bind (DataW.trod enc P w 0 (fun _ => true) held fuel e)) with
            | none => simp [hm2] at hx
            | some rest =>
            clear hx
            generalize hn : P.cellsOf e = n at *
            have hn0 : 0 < n := by
              rw [← hlen.1]; exact List.length_pos_iff.2 hlen.2
            -- each element's cells
            have hel : ∀ i, i < len → ∃ ci xi, w.cells? 0 (a.add (i * n)) n = some ci ∧ DataW.trod enc P w 0 (fun _ => true) held fuel e ci = some xi := fun i hi => by
              obtain ⟨y, _, hy⟩ := (mapM_some hm).2 i i (by simp [hi])
              cases hc : w.cells? 0 (a.add (i * n)) n with
              | none => simp [hc] at hy
              | some ci => exact ⟨ci, y, rfl, by simpa [hc] using hy⟩
            have hspot : 0 < cap → a.spot = none := fun hcap => by
              have : ∃ c, w.cells? 0 (a.add (0 * n)) n = some c := by
                by_cases h0 : 0 < len
                · obtain ⟨ci, _, h, _⟩ := hel 0 h0
                  exact ⟨ci, h⟩
                · have h1 : len = 0 := by omega
                  subst h1
                  obtain ⟨y, _, hy⟩ := (mapM_some hm2).2 0 0 (by rw [List.getElem?_range (by omega)])
                  cases hc : w.cells? 0 (a.add (0 * n)) n with
                  | none => simp at hy hc; simp [hc] at hy
                  | some ci => exact ⟨ci, rfl⟩
              obtain ⟨c, hc⟩ := this
              obtain ⟨y, _, hy⟩ := cells_get hc 0 hn0
              simp only [Nat.zero_mul, Addr.add, if_true] at hy
              unfold World.cell? at hy
              split at hy
              · split at hy
                · simp at hy
                · rename_i h; simpa using h
              · simp at hy
            have hcell : ∀ i, i < len → ∀ ci, w.cells? 0 (a.add (i * n)) n = some ci → ci.length = n ∧ ∀ j (hj : j < n), ∃ y, ci[j]? = some y ∧ w.cell? ⟨a.block, a.off + (i * n + j), none⟩ = some y := fun i hi ci hci => by
              refine ⟨(cells_len hci), fun j hj => ?_⟩
              obtain ⟨y, h1, h2⟩ := cells_get hci j hj
              refine ⟨y, h1, ?_⟩
              rw [← h2]
              congr 1
              have hs := hspot (by omega)
              obtain ⟨ab, ao, as⟩ := a
              simp only at hs
              subst hs
              simp only [Addr.add]
              split <;> split <;> simp <;> omega
            have hrow : ∀ i, ∃ r : List AVal, i < len → ∃ ci, w.cells? 0 (a.add (i * n)) n = some ci ∧ RowR ρ w r ci ∧ FitsR l r := fun i => by
              by_cases hi : i < len
              · obtain ⟨ci, xi, h1, h2⟩ := hel i hi
                obtain ⟨r, h3, h4⟩ := trod_fits d fuel e l ci xi hl h2
                exact ⟨r, fun _ => ⟨ci, h1, h3, h4⟩⟩
              · exact ⟨[], fun h => absurd h hi⟩
            have hR := Classical.axiomOfChoice hrow
            obtain ⟨R, hR⟩ := hR
            have hlr : ((List.range len).map R).length = len := by simp
            have hrl : ∀ i, i < len → (R i).length = n := fun i hi => by
              obtain ⟨ci, _, _, h⟩ := hR i hi
              rw [h.1, hlen.1]
            have hv : Abs.VR ρ (fun b => b < w.heap.size) w (fun _ => False) (.vl ((List.range len).map R) false) (.slice (some a) ((List.range len).map R).length cap) := by
              refine .vl _ _ false a cap a.block a.off n (fun j => (w.cell? ⟨a.block, a.off + j, none⟩).getD undef) (by rw [hlr]; exact hb.2.1) (fun h => by simp at h) ?_ (fun hne => ?_) (fun k hk => ?_) (fun j hj => ?_) (fun k hk j hj => ?_)
              · by_cases hc : cap = 0
                · exact .inl hc
                · right
                  have hs := hspot (by omega)
                  obtain ⟨ab, ao, as⟩ := a
                  simp only at hs
                  subst hs; rfl
              · have h0 : 0 < len := by
                  rcases Nat.eq_zero_or_pos len with h | h
                  · subst h; simp at hne
                  · exact h
                obtain ⟨ci, _, hci, _⟩ := hel 0 h0
                obtain ⟨y, _, hy⟩ := (hcell 0 h0 ci hci).2 0 hn0
                unfold World.cell? at hy
                split at hy
                · rename_i hh
                  exact (Array.getElem?_eq_some_iff.1 hh).1
                · simp at hy
              · simp at hk
                simp [hrl k hk]
              · rw [hlr] at hj
                have hq : j / n < len := Nat.div_lt_of_lt_mul (by rw [Nat.mul_comm]; exact hj)
                obtain ⟨ci, _, hci, _⟩ := hel _ hq
                obtain ⟨y, _, hy⟩ := (hcell _ hq ci hci).2 (j % n) (Nat.mod_lt _ hn0)
                rw [Nat.div_add_mod' j n] at hy
                simp [hy]
              · simp at hk
                simp at hj
                obtain ⟨ci, hci, hrr, _⟩ := hR k hk
                have hjn : j < n := by rw [← hrl k hk]; exact hj
                obtain ⟨y, hy1, hy2⟩ := (hcell k hk ci hci).2 j hjn
                have := hrr.2 j (R k)[j] y (List.getElem?_eq_getElem hj) hy1
                simpa [hy2] using this
            rw [hlr] at hv
            refine one _ _ _ hv (.vl _ _ _ (fun r hr => ?_) fun i r hi j x ll hj hll => ?_)
            · obtain ⟨i, hi, rfl⟩ := List.mem_map.1 hr
              simp at hi
              rw [hrl i hi, hlen.1]
            · have hi' : i < len := by have := (List.getElem?_eq_some_iff.1 hi).1; simpa using this
              simp [hi'] at hi
              subst hi
              obtain ⟨ci, _, _, h⟩ := hR i hi'
              exact h.2 j x ll hj hll
          · simp at hx
      · simp at hL
    · rename_i n e hu
      split at hL
      · rename_i l hl
        split at hL <;> simp at hL
        rename_i hlen
        subst hL
        simp only [DataW.trod, hu] at hx
        split at hx
        · rename_i hlc
          cases hm : ((List.range n).mapM fun i => DataW.trod enc P w 0 (fun _ => true) held fuel e ((cs.drop (i * P.cellsOf e)).take (P.cellsOf e))) with
          | none => simp [hm] at hx
          | some ys =>
            rw [List.range_eq_range'] at hm
            have := elems_ok (ρ := ρ) (fun t L cs x => trod_fits d fuel t L cs x) hl n 0 cs ys hm (by rw [hlc, ← hlen.2, hlen.1, Nat.zero_add])
            simpa using this
        · simp at hx
      · simp at hL
    · simp at hL

end
end Go.Abs

namespace Go.Abs
open Go Go.RowKit

section
variable {P : Program} {G : Nat → Option (List AVal)} {T : Nat → Option CFn}

abbrev ρ0 : Nat → Loc := fun _ => ⟨0, 0, 0, 0⟩

/-- A law that answers true in the machine. -/
theorem law_calls (hm : P.follows .mixedOrders = true) (hT : TabOk P G T) {f : Nat} {xs : List AVal} {cargs : Array Value} {W : World}
    (hglob : ∀ g r, G g = some r → Abs.VR ρ0 (fun b => b < W.heap.size) W (fun _ => False) (.pv r 0) (.pointer (some ⟨g, 0, none⟩)))
    (hargs : RowR ρ0 W xs cargs.toList) (ha : Answers P T f xs [] fun v _ => v = .bool true) : Calls P f cargs W fun e W' => e = .returned (.bool true) ∧ Below W.heap.size W W' := by
  obtain ⟨v, h', rfl, hg⟩ := answers_good hm hT ha
  have hr : Env.HR P G ⟨ρ0, fun _ => False, fun _ => False, fun b => b < W.heap.size⟩ [] W :=
    ⟨fun i b hi => by simp at hi, fun i j b c hi => by simp at hi, fun i hi => hi.elim, fun b hb => hb.elim, fun b hb => ⟨hb, fun h => h⟩, hglob⟩
  have hl : Env.LR ⟨ρ0, fun _ => False, fun _ => False, fun b => b < W.heap.size⟩ W xs cargs :=
    ⟨by simpa using hargs.1, fun j h1 h2 => hargs.2 j _ _ (List.getElem?_eq_getElem h1) (by simp [h2])⟩
  refine (CallsIn.calls (hg _ W cargs 0 hr hl) fun k d hd => by simp at hd).mono ?_
  rintro e W' ⟨u, E', rfl, hle, _, hu, _, _⟩
  refine ⟨?_, hle.os, hle.tape, hle.output, hle.size, fun b hb => (hle.old b hb fun h => h).1⟩
  have := VR.bool_inv hu
  rw [this]

theorem trod_ints {H : Type} {enc : TypeId × Value → H} {w : World} {base : Nat} {sp : Nat → Bool} {held : Bool} {t e : TypeId} {n : Nat} {k : IntKind} (ht : P.underlying t = some (.array n e)) (he : P.underlying e = some (.int k)) (hc : P.cellsOf e = 1) (hct : P.cellsOf t = n) :
    ∀ (fuel : Nat) {cs : List Value} {ns : List Int} {p : List MemPlace}, DataW.trod enc P w base sp held fuel t cs = some (.agg (ns.map fun m => .lit (.int k m)), p) → cs = ns.map fun m => .int k m
  | 0, cs, ns, p, h => by simp [DataW.trod] at h
  | fuel + 1, cs, ns, p, h => by
    simp only [DataW.trod, ht] at h
    split at h
    · rename_i hl
      rw [hct] at hl
      have hin : ∀ (c : Value) (y : DataW H × List MemPlace), DataW.trod enc P w base sp held fuel e [c] = some y → ∃ m, y.1 = .lit (.int k m) ∧ c = .int k m := by
        intro c y hf
        cases fuel with
        | zero => simp [DataW.trod] at hf
        | succ fuel =>
          simp only [DataW.trod, he] at hf
          split at hf <;> simp_all
          obtain ⟨_, rfl⟩ := hf
          rfl
      generalize hF : (fun i => DataW.trod enc P w base sp held fuel e ((cs.drop (i * P.cellsOf e)).take (P.cellsOf e))) = F at h
      cases hm : (List.range n).mapM F with
      | none => simp [hm] at h
      | some ys =>
        simp only [hm, Option.map_some, Option.some.injEq, Prod.mk.injEq, DataW.agg.injEq] at h
        obtain ⟨h1, -⟩ := h
        obtain ⟨g1, g2⟩ := mapM_some hm
        simp at g1
        have hns : ns.length = n := by have := congrArg List.length h1; simp at this; omega
        refine List.ext_getElem? fun i => ?_
        by_cases hi : i < n
        · obtain ⟨y, hy, hf⟩ := g2 i i (by simp [hi])
          have hc1 : (cs.drop (i * P.cellsOf e)).take (P.cellsOf e) = [cs[i]] := by
            rw [hc, Nat.mul_one, List.drop_eq_getElem_cons (by omega)]; rfl
          rw [← hF] at hf
          simp only [hc1] at hf
          obtain ⟨m, e1, e2⟩ := hin _ _ hf
          have h2 := congrArg (fun l => l[i]?) h1
          simp only [List.getElem?_map, hy, Option.map_some] at h2
          cases hn : ns[i]? with
          | none => rw [hn] at h2; simp at h2
          | some m' =>
            rw [hn] at h2
            simp [e1] at h2
            rw [List.getElem?_eq_getElem (by omega), List.getElem?_map, hn, e2, h2]
            rfl
        · rw [List.getElem?_eq_none (by omega), List.getElem?_eq_none (by simp; omega)]
    · simp at h

/-- A package's table of numbers, as unchanging memory reads it. -/
theorem table_vr {w : World} {g : Nat} {k : IntKind} {ns : List Int} (hc : ∀ j, j < ns.length → w.cell? ⟨g, j, none⟩ = some (.int k (ns.getD j 0))) (hg : g < w.heap.size) :
    Abs.VR ρ0 (fun b => b < w.heap.size) w (fun _ => False) (.pv (ns.map fun n => .int k n) 0) (.pointer (some ⟨g, 0, none⟩)) := by
  refine .pv _ _ 0 g 0 (fun j => .int k (ns.getD j 0)) hg (fun j hj => ?_) fun j hj => ?_
  · simp at hj
    rw [Nat.zero_add]; exact hc j hj
  · simp at hj
    simp [hj]
    exact .int _ _ _

/-! ### Arguments, opened -/

theorem fits_int {k : IntKind} {x : AVal} (h : Fits (.int k) x) : ∃ n, x = .int k n ∧ (Lit.int k n).wf = true := by cases h with | int _ n h => exact ⟨n, rfl, h⟩
theorem fitsR_one {l : Ly} {xs : List AVal} (h : FitsR [l] xs) : ∃ x, xs = [x] ∧ Fits l x := by
  obtain ⟨h1, h2⟩ := h
  match xs, h1 with
  | [x], _ => exact ⟨x, rfl, h2 0 x l rfl rfl⟩
theorem fitsR_cons {l : Ly} {L : List Ly} {xs : List AVal} (h : FitsR (l :: L) xs) : ∃ x ys, xs = x :: ys ∧ Fits l x ∧ FitsR L ys := by
  obtain ⟨h1, h2⟩ := h
  match xs, h1 with
  | x :: ys, h1 => exact ⟨x, ys, rfl, h2 0 x l rfl rfl, by simpa using h1, fun j y m hy hm => h2 (j + 1) y m (by simpa using hy) (by simpa using hm)⟩
theorem fitsR_nil {xs : List AVal} (h : FitsR [] xs) : xs = [] := List.eq_nil_of_length_eq_zero h.1

theorem fits_i1 {xs : List AVal} (h : FitsR [.int .i64] xs) : ∃ a : Int, xs = [.int .i64 a] := by
  obtain ⟨x, ys, rfl, hx, h'⟩ := fitsR_cons h
  obtain ⟨a, rfl, _⟩ := fits_int hx
  rw [fitsR_nil h']; exact ⟨a, rfl⟩
theorem fits_i2 {xs : List AVal} (h : FitsR [.int .i64, .int .i64] xs) : ∃ a b : Int, xs = [.int .i64 a, .int .i64 b] := by
  obtain ⟨x, ys, rfl, hx, h'⟩ := fitsR_cons h
  obtain ⟨a, rfl, _⟩ := fits_int hx
  obtain ⟨b, rfl⟩ := fits_i1 h'
  exact ⟨a, b, rfl⟩
theorem fits_i3 {xs : List AVal} (h : FitsR [.int .i64, .int .i64, .int .i64] xs) : ∃ a b c : Int, xs = [.int .i64 a, .int .i64 b, .int .i64 c] := by
  obtain ⟨x, ys, rfl, hx, h'⟩ := fitsR_cons h
  obtain ⟨a, rfl, _⟩ := fits_int hx
  obtain ⟨b, c, rfl⟩ := fits_i2 h'
  exact ⟨a, b, c, rfl⟩

/-- The rows of a slice. -/
theorem fits_rows {e : List Ly} {x : AVal} (h : Fits (.sl e) x) : ∃ rs : List (List AVal), (x = .nils ∧ rs = [] ∨ ∃ t, x = .vl rs t) ∧ ∀ r ∈ rs, FitsR e r := by
  cases h with
  | nils => exact ⟨[], .inl ⟨rfl, rfl⟩, by simp⟩
  | vl _ rs t hl h =>
    refine ⟨rs, .inr ⟨t, rfl⟩, fun r hr => ⟨hl r hr, fun j y l hy hl' => ?_⟩⟩
    obtain ⟨i, hi⟩ := List.getElem?_of_mem hr
    exact h i r hi j y l hy hl'

theorem map_of {α β : Type} {enc : β → α} : ∀ {l : List α}, (∀ a ∈ l, ∃ b, a = enc b) → ∃ bs : List β, l = bs.map enc
  | [], _ => ⟨[], rfl⟩
  | a :: l, h => by
    obtain ⟨b, rfl⟩ := h a (by simp)
    obtain ⟨bs, rfl⟩ := map_of (l := l) fun a ha => h a (by simp [ha])
    exact ⟨b :: bs, rfl⟩

theorem rowR_cons {w : World} {x : AVal} {c : Value} {xs : List AVal} {cs : List Value} (h : Abs.VR ρ0 (fun b => b < w.heap.size) w (fun _ => False) x c) (h' : RowR ρ0 w xs cs) : RowR ρ0 w (x :: xs) (c :: cs) := by
  refine ⟨by simp [h'.1], fun j y d hy hd => ?_⟩
  cases j with
  | zero => simp at hy hd; subst hy; subst hd; exact h
  | succ j => exact h'.2 j y d (by simpa using hy) (by simpa using hd)
theorem rowR_nil {w : World} : RowR ρ0 w [] [] := ⟨rfl, fun j y d hy => by simp at hy⟩

/-- A struct comes as its cells. -/
theorem open_struct {H : Type} {enc : TypeId × Value → H} {w : World} {base : Nat} {t : TypeId} {fs : Array Field} {v : Value} {d : DataW H} {p : List MemPlace} {L : List Ly} (hu : P.underlying t = some (.struct fs)) (hL : layOf P 5 t = some L)
    (hv : Value.okWide P w .any base t v) (h : DataW.Trod enc P w 0 (fun _ => true) true t v d p) : ∃ xs, Abs.VR ρ0 (fun b => b < w.heap.size) w (fun _ => False) (.agg xs) v ∧ FitsR L xs := by
  unfold Value.okWide at hv
  rw [hu] at hv
  obtain ⟨cs, rfl, _, _⟩ := hv
  obtain ⟨fuel, hf⟩ := h
  obtain ⟨xs, h1, h2⟩ := trod_fits (ρ := ρ0) 5 fuel t L _ _ hL hf
  refine ⟨xs, .agg _ xs cs (by simpa [Value.cells] using h1.1) fun j j1 j2 => ?_, h2⟩
  exact h1.2 j _ _ (List.getElem?_eq_getElem j1) (by simp [Value.cells, j2])

/-- An array comes as its cells. -/
theorem open_array {H : Type} {enc : TypeId × Value → H} {w : World} {base : Nat} {t : TypeId} {n : Nat} {e : TypeId} {v : Value} {d : DataW H} {p : List MemPlace} {L : List Ly} (hu : P.underlying t = some (.array n e)) (hL : layOf P 5 t = some L)
    (hv : Value.okWide P w .any base t v) (h : DataW.Trod enc P w 0 (fun _ => true) true t v d p) : ∃ xs, Abs.VR ρ0 (fun b => b < w.heap.size) w (fun _ => False) (.agg xs) v ∧ FitsR L xs := by
  unfold Value.okWide at hv
  rw [hu] at hv
  obtain ⟨cs, rfl, _, _⟩ := hv
  obtain ⟨fuel, hf⟩ := h
  obtain ⟨xs, h1, h2⟩ := trod_fits (ρ := ρ0) 5 fuel t L _ _ hL hf
  refine ⟨xs, .agg _ xs cs (by simpa [Value.cells] using h1.1) fun j j1 j2 => ?_, h2⟩
  exact h1.2 j _ _ (List.getElem?_eq_getElem j1) (by simp [Value.cells, j2])

/-- A value of one cell. -/
theorem open_cell {H : Type} {enc : TypeId × Value → H} {w : World} {t : TypeId} {v : Value} {d : DataW H} {p : List MemPlace} {l : Ly} (hL : layOf P 5 t = some [l]) (hc : v.cells = #[v])
    (h : DataW.Trod enc P w 0 (fun _ => true) true t v d p) : ∃ x, Abs.VR ρ0 (fun b => b < w.heap.size) w (fun _ => False) x v ∧ Fits l x := by
  obtain ⟨fuel, hf⟩ := h
  obtain ⟨xs, h1, h2⟩ := trod_fits (ρ := ρ0) 5 fuel t [l] _ _ hL hf
  obtain ⟨x, rfl, hx⟩ := fitsR_one h2
  rw [hc] at h1
  exact ⟨x, h1.2 0 x v rfl rfl, hx⟩

end
end Go.Abs
