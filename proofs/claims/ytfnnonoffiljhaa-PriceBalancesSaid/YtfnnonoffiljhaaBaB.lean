/- The abstract machine: operations that change blocks. No condition. -/
import Derived.Test.YtfnnonoffiljhaaBaA
import Derived.OrdersIn
import Derived.RangeFuncNested
import Derived.LoopNIn
set_option linter.unusedSimpArgs false
set_option linter.unusedVariables false
namespace Go.Abs
open Go

section
variable {P : Program} {G : Nat → Option (List AVal)} {E E' : Env} {h h' : Heap} {w w' : World} {t : List AVal} {a : Act} {o : Oper} {co : COp} {v : AVal} {rd : Option Nat}

/-- The numbers that have been given anew lie at n or above. -/
def Fresh (E : Env) (n : Nat) (E' : Env) : Prop := ∀ j, E'.D j → E.D j ∨ n ≤ j

theorem Fresh.refl (E : Env) (n : Nat) : Fresh E n E := fun _ h => .inl h
theorem Fresh.add (E : Env) (n : Nat) (l : Loc) {m : Nat} (h : m ≤ n) : Fresh E m (E.add n l) := fun j h1 => h1.imp id fun (e : j = n) => e ▸ h
theorem Fresh.trans {E E' E'' : Env} {n m : Nat} (h : Fresh E n E') (h' : Fresh E' m E'') (hn : n ≤ m) : Fresh E n E'' := fun j hj => (h' j hj).elim (h j) fun h => .inr (Nat.le_trans hn h)

/-- What is shown of an operation that changes blocks. -/
def Acts (P : Program) (G : Nat → Option (List AVal)) (E : Env) (w : World) (a : Act) (o : Oper) (v : AVal) (n : Nat) (h' : Heap) : Prop :=
  ∃ (r : Next) (u : Value) (w' : World) (E' : Env), (execOp a.eval o).run P w = .ok r w' ∧ (r = .value u ∨ (r = .skip ∧ u = undef)) ∧ Le E w E' w' ∧ E'.HR P G h' w' ∧ E'.VR w' v u ∧ Fresh E n E'

/-- One block of the heap has changed, at its place. -/
theorem hr_upd (hr : E.HR P G h w) {i : Nat} {b0 b : Blk} (hi : h[i]? = some (some b0)) (hw : ∀ k, k ≠ (E.ρ i).b → w'.heap[k]? = w.heap[k]?) (hs : w'.heap.size = w.heap.size) (ho : w'.os = w.os) (ht : w'.tape = w.tape) (hou : w'.output = w.output)
    (hb : Le E w E w' → E.BR P G w' i b) : Le E w E w' ∧ E.HR P G (h.set i (some b)) w' := by
  obtain ⟨hD, hO, hlt, _⟩ := hr.blk i b0 hi
  have hl : Le E w E w' := ⟨ho, ht, hou, by omega, fun _ h => ⟨h, rfl⟩, fun _ h => h, fun k hk hno => ⟨hw k (fun e => hno (e ▸ hO)), hno, fun h => h⟩⟩
  refine ⟨hl, ⟨fun j c hj => ?_, fun j k c d hj hk he => ?_, fun j hj => by simpa using hr.lt j hj, fun k hk => by rw [hs]; exact hr.own k hk, fun k hk => by rw [hs]; exact hr.imm k hk, fun g r hg => hl.vr hr (hr.glob g r hg)⟩⟩
  · by_cases hji : i = j
    · subst hji
      rw [List.getElem?_set_self (List.getElem?_eq_some_iff.1 hi).1] at hj
      simp at hj; subst hj
      exact ⟨hD, hO, by rw [hs]; exact hlt, hb hl⟩
    · rw [List.getElem?_set_ne hji] at hj
      obtain ⟨h1, h2, h3, h4⟩ := hr.blk j c hj
      exact ⟨h1, h2, by rw [hs]; exact h3, br_mono h4 rfl (hw _ fun e => hji (hr.inj i j _ _ hi hj e.symm)) fun _ _ hv => hl.vr hr hv⟩
  · have alive : ∀ j c, (h.set i (some b))[j]? = some (some c) → ∃ c', h[j]? = some (some c') := fun j c hj => by
      by_cases hji : i = j
      · subst hji; exact ⟨b0, hi⟩
      · rw [List.getElem?_set_ne hji] at hj; exact ⟨c, hj⟩
    obtain ⟨c', hj'⟩ := alive j c hj
    obtain ⟨d', hk'⟩ := alive k d hk
    exact hr.inj j k _ _ hj' hk' he

/-- A block more at the heap's end; another one may be gone. -/
theorem hr_push (hr : E.HR P G h w) {l : Loc} {b : Blk} (hl : Le E w (E.add h.length l) w') (h0 : Heap) (h0l : h0.length = h.length) (h00 : ∀ j c, h0[j]? = some (some c) → h[j]? = some (some c) ∧ w'.heap[(E.ρ j).b]? = w.heap[(E.ρ j).b]? ∧ (E.ρ j).b ≠ l.b)
    (hlt : l.b < w'.heap.size) (hI : ¬ E.I l.b) (hb : (E.add h.length l).BR P G w' h.length b) : (E.add h.length l).HR P G (h0 ++ [some b]) w' := by
  have hD : ¬ E.D h.length := fun hd => Nat.lt_irrefl _ (hr.lt _ hd)
  have hρ : ∀ j, j ≠ h.length → (E.add h.length l).ρ j = E.ρ j := fun j hj => by simp [Env.add, hj]
  have split : ∀ j c, (h0 ++ [some b])[j]? = some (some c) → (j = h.length ∧ c = b) ∨ (j ≠ h.length ∧ h0[j]? = some (some c)) := fun j c hj => by
    by_cases hjl : j < h0.length
    · rw [List.getElem?_append_left hjl] at hj; exact .inr ⟨by omega, hj⟩
    · rw [List.getElem?_append_right (by omega)] at hj
      have : j - h0.length = 0 := by
        have := (List.getElem?_eq_some_iff.1 hj).1
        simp at this; omega
      rw [this] at hj; simp at hj
      exact .inl ⟨by omega, hj.symm⟩
  refine ⟨fun j c hj => ?_, fun j k c d hj hk he => ?_, fun j hj => ?_, fun k hk => ?_, fun k hk => ?_, fun g r hg => hl.vr hr (hr.glob g r hg)⟩
  · rcases split j c hj with ⟨rfl, rfl⟩ | ⟨hne, hj⟩
    · exact ⟨.inr rfl, .inr (by rw [add_ρ]), by rw [add_ρ]; exact hlt, hb⟩
    · obtain ⟨a1, a2, a3⟩ := h00 j c hj
      obtain ⟨h1, h2, h3, h4⟩ := hr.blk j c a1
      refine ⟨.inl h1, .inl (by rw [hρ j hne]; exact h2), by rw [hρ j hne]; exact Nat.lt_of_lt_of_le h3 hl.size, br_mono h4 (hρ j hne) a2 fun _ _ hv => hl.vr hr hv⟩
  · rcases split j c hj with ⟨rfl, rfl⟩ | ⟨hnj, hj2⟩ <;> rcases split k d hk with ⟨rfl, rfl⟩ | ⟨hnk, hk2⟩
    · rfl
    · rw [add_ρ, hρ k hnk] at he; exact absurd he.symm (h00 k _ hk2).2.2
    · rw [add_ρ, hρ j hnj] at he; exact absurd he (h00 j _ hj2).2.2
    · rw [hρ j hnj, hρ k hnk] at he
      exact hr.inj j k _ _ (h00 j _ hj2).1 (h00 k _ hk2).1 he
  · rcases hj with hj | rfl
    · have := hr.lt j hj; simp [h0l]; omega
    · simp [h0l]
  · rcases hk with hk | rfl
    · exact Nat.lt_of_lt_of_le (hr.own k hk) hl.size
    · exact hlt
  · refine ⟨Nat.lt_of_lt_of_le (hr.imm k hk).1 hl.size, ?_⟩
    rintro (h1 | h1)
    · exact (hr.imm k hk).2 h1
    · exact hI (h1 ▸ hk)

theorem splice_get {α : Type} {cells xs : List α} {off : Nat} (hle : off + xs.length ≤ cells.length) (q : Nat) :
    (cells.take off ++ xs ++ cells.drop (off + xs.length))[q]? = if off ≤ q ∧ q < off + xs.length then xs[q - off]? else cells[q]? := by
  have hl : (cells.take off).length = off := by simp; omega
  by_cases h1 : q < off
  · rw [if_neg (by omega), List.append_assoc, List.getElem?_append_left (by omega), List.getElem?_take_of_lt h1]
  · by_cases h2 : q < off + xs.length
    · rw [if_pos ⟨by omega, h2⟩, List.append_assoc, List.getElem?_append_right (by omega), hl, List.getElem?_append_left (by omega)]
    · rw [if_neg (by omega), List.append_assoc, List.getElem?_append_right (by omega), hl, List.getElem?_append_right (by omega), List.getElem?_drop]
      congr 1; omega

theorem one_all {xs : List AVal} {vs : Array Value} (hl : E.LR w xs vs) (hs : xs.all storable = true) : ∀ v ∈ vs.toList, v.oneCell' = true := by
  intro v hv
  obtain ⟨j, hj⟩ := List.getElem?_of_mem hv
  rw [Array.getElem?_toList] at hj
  obtain ⟨h1, rfl⟩ := Array.getElem?_eq_some_iff.1 hj
  rw [List.all_eq_true] at hs
  exact storable_one (hs _ (List.getElem_mem (hl.1 ▸ h1))) (hl.2 j (hl.1 ▸ h1) h1)

/-- 'k' is not the row 'k'' : their cells are apart. -/
theorem row_apart {k k' e j j' : Nat} (hne : k' ≠ k) (hj : j < e) (hj' : j' < e) : k' * e + j' ≠ k * e + j := by
  rcases Nat.lt_or_gt_of_ne hne with h | h
  · have : (k' + 1) * e ≤ k * e := Nat.mul_le_mul_right e h
    rw [Nat.add_mul] at this; omega
  · have : (k + 1) * e ≤ k' * e := Nat.mul_le_mul_right e h
    rw [Nat.add_mul] at this; omega

theorem l_st (hr : E.HR P G h w) (ht : E.LR w t a.tmps) {ty : TypeId} {p x : Operand} (ho : o.op = .store ty p x) (hc : compO P G o.op = some co) (hd : lop t h co = some (v, h')) : Acts P G E w a o v h.length h' := by
  cases hsz : szOf P ty with
  | none => simp [compO, ho, hsz] at hc
  | some n =>
  cases hp : compV G p with
  | none => simp [compO, ho, hsz, hp] at hc
  | some p' =>
  cases hx : compV G x with
  | none => simp [compO, ho, hsz, hp, hx] at hc
  | some x' =>
  simp [compO, ho, hsz, hp, hx] at hc
  subst hc
  simp only [lop] at hd
  cases h1 : p'.ev t with
  | none => simp [h1] at hd
  | some pv =>
  cases h2 : x'.ev t with
  | none => simp [h1, h2] at hd
  | some xv =>
  cases h3 : stA n h pv xv with
  | none => simp [h1, h2, h3] at hd
  | some hh =>
  simp [h1, h2, h3] at hd
  obtain ⟨rfl, rfl⟩ := hd
  have vp := ev_vr hr ht hp h1
  have vx := ev_vr hr ht hx h2
  unfold stA at h3
  split at h3
  · rename_i i k off
    cases hrow : rowAt h i with
    | none => simp [hrow] at h3
    | some q =>
    obtain ⟨e, rs⟩ := q
    cases hcs : cellsOf xv with
    | none => simp [hrow, hcs] at h3
    | some xs =>
    cases hk : nth rs k with
    | none => simp [hrow, hcs, hk] at h3
    | some r =>
    simp only [hrow, hcs, hk] at h3
    split at h3
    · rename_i hcond
      simp [fRow_eq, setK_eq] at h3
      subst h3
      have hb := rowAt_some hrow
      obtain ⟨hD, hO, hlt, he, hall, hroom, c, el, hc, hcsz, hcell⟩ := hr.blk i _ hb
      rw [nth_eq] at hk
      obtain ⟨hk1, hk2⟩ := List.getElem?_eq_some_iff.1 hk
      have hre : r.length = e := hall r (List.mem_of_getElem? hk)
      have e1 := vp.ref_inv.2
      have lx := cellsOf_vr hcs vx
      have hfit : (E.ρ i).d + k * e + off + n ≤ c.size := by
        have : (k + 1) * e ≤ rs.length * e := Nat.mul_le_mul_right e hk1
        rw [Nat.add_mul] at this
        rw [hcsz]; omega
      have hvl : (a.eval x).cells.toList.length = n := by simp; rw [← lx.1]; exact hcond.1
      have hst := run_storeCells_at P (E.ρ i).b ((E.ρ i).d + k * (E.ρ i).e + off) el (a.eval x).cells.toList 0 c w hc (by rw [hvl, he]; omega) (one_all lx hcond.2.1)
      rw [Nat.add_zero] at hst
      generalize harr : (c.toList.take ((E.ρ i).d + k * (E.ρ i).e + off) ++ (a.eval x).cells.toList ++ c.toList.drop ((E.ρ i).d + k * (E.ρ i).e + off + (a.eval x).cells.toList.length)).toArray = arr at hst
      have hget : ∀ q, arr[q]? = if (E.ρ i).d + k * e + off ≤ q ∧ q < (E.ρ i).d + k * e + off + n then (a.eval x).cells[q - ((E.ρ i).d + k * e + off)]? else c[q]? := fun q => by
        rw [← harr, List.getElem?_toArray, he, splice_get (by rw [hvl]; simpa using hfit), hvl]
        simp
      have hasz : arr.size = c.size := by rw [← harr]; simp [he]; rw [show (a.eval x).cells.size = n by simpa using hvl]; omega
      have := hr_upd (P := P) (G := G) (w' := w.setRow (E.ρ i).b arr) (b := .row e (rs.set k (putAt r off xs))) hr hb (fun k' hk' => setRow_other w _ _ _ hk') (by simp) rfl rfl rfl (fun hl => by
        have hpl : (putAt r off xs).length = r.length := putAt_length (by rw [hcond.1]; exact hcond.2.2)
        refine ⟨he, fun r' hr' => ?_, by simpa using hroom, arr, el, setRow_heap w _ _ _ _ _ hc, by rw [hasz]; exact hcsz, fun k' r' hk' j y hj => ?_⟩
        · rcases List.mem_or_eq_of_mem_set hr' with h | h
          · exact hall r' h
          · rw [h, hpl]; exact hre
        · rw [hget]
          have hj1 := (List.getElem?_eq_some_iff.1 hj).1
          by_cases hkk : k = k'
          · subst hkk
            rw [List.getElem?_set_self hk1] at hk'
            simp at hk'; subst hk'
            rw [putAt_get (by rw [hcond.1]; exact hcond.2.2), hcond.1] at hj
            rw [hpl, hre] at hj1
            split at hj
            · rename_i hin
              rw [if_pos (by omega)]
              obtain ⟨g1, g2⟩ := List.getElem?_eq_some_iff.1 hj
              have e9 : (E.ρ i).d + k * e + j - ((E.ρ i).d + k * e + off) = j - off := by omega
              rw [e9]
              exact ⟨(a.eval x).cells[j - off]'(lx.1 ▸ g1), by simp [lx.1 ▸ g1], g2 ▸ hl.vr hr (lx.2 _ g1 (lx.1 ▸ g1))⟩
            · rename_i hin
              rw [if_neg (by omega)]
              obtain ⟨u, g1, g2⟩ := hcell k _ hk j y hj
              exact ⟨u, g1, hl.vr hr g2⟩
          · rw [List.getElem?_set_ne hkk] at hk'
            have hre' : r'.length = e := hall r' (List.mem_of_getElem? hk')
            rw [hre'] at hj1
            obtain ⟨u, g1, g2⟩ := hcell k' _ hk' j y hj
            rw [if_neg ?_]
            · exact ⟨u, g1, hl.vr hr g2⟩
            · intro hin
              have h8 := row_apart (k := k) (k' := k') (e := e) (j' := j) (j := (E.ρ i).d + k' * e + j - ((E.ρ i).d + k * e)) (fun h => hkk h.symm) (by omega) hj1
              omega)
      refine ⟨.skip, undef, w.setRow (E.ρ i).b arr, E, ?_, .inr ⟨rfl, rfl⟩, this.1, this.2, .und _, .refl _ _⟩
      have hsz2 : (a.eval x).cells.size = n := by simpa using hvl
      simp [execOp, ho, Instr.storeAt, Instr.sureAddr, e1, storeVar, run_sz hsz, hsz2, hst]
    · simp at h3
  · simp at h3

end
end Go.Abs

namespace Go.Abs
open Go

section
variable {P : Program} {G : Nat → Option (List AVal)} {E E' : Env} {h h' : Heap} {w w' : World} {t : List AVal} {a : Act} {o : Oper} {co : COp} {v : AVal} {rd : Option Nat}

theorem mapR_mono {es : List (AVal × AVal × Nat)} {ces : List MapEntry} (hm : MapR E w es ces) (hv : ∀ v cv, E.VR w v cv → E'.VR w' v cv) : MapR E' w' es ces :=
  ⟨hm.1, fun j k v b hj => let ⟨ce, h1, h2, h3, h4⟩ := hm.2 j k v b hj; ⟨ce, h1, hv _ _ h2, hv _ _ h3, h4⟩⟩

theorem br_map {i : Nat} {es : List (AVal × AVal × Nat)} {c : Nat} {ces : Array MapEntry} (h1 : w.heap[(E.ρ i).b]? = some (.map ces c)) (hm : MapR E w es ces.toList) : E.BR P G w i (.map es c) :=
  ⟨ces, h1, by simpa using hm.1.symm, fun j k v b hj => by simpa using hm.2 j k v b hj⟩

theorem mapR_set {es : List (AVal × AVal × Nat)} {ces : List MapEntry} {j : Nat} {k v : AVal} {b : Nat} {ce : MapEntry} (hm : MapR E w es ces) (hk : E.VR w k ce.key) (hv : E.VR w v ce.val) (hb : ce.born = b) (hj : j < es.length) :
    MapR E w (es.set j (k, v, b)) (ces.set j ce) := by
  refine ⟨by simpa using hm.1, fun q k' v' b' hq => ?_⟩
  by_cases e : j = q
  · subst e
    rw [List.getElem?_set_self hj] at hq
    simp at hq
    obtain ⟨rfl, rfl, rfl⟩ := hq
    exact ⟨ce, List.getElem?_set_self (hm.1 ▸ hj), hk, hv, hb⟩
  · rw [List.getElem?_set_ne e] at hq
    obtain ⟨c, h1, h2⟩ := hm.2 q k' v' b' hq
    exact ⟨c, by rw [List.getElem?_set_ne e]; exact h1, h2⟩

theorem mapR_push {es : List (AVal × AVal × Nat)} {ces : List MapEntry} {k v : AVal} {b : Nat} {ce : MapEntry} (hm : MapR E w es ces) (hk : E.VR w k ce.key) (hv : E.VR w v ce.val) (hb : ce.born = b) :
    MapR E w (es ++ [(k, v, b)]) (ces ++ [ce]) := by
  refine ⟨by simpa using hm.1, fun q k' v' b' hq => ?_⟩
  by_cases e : q < es.length
  · rw [List.getElem?_append_left e] at hq
    obtain ⟨c, h1, h2⟩ := hm.2 q k' v' b' hq
    exact ⟨c, by rw [List.getElem?_append_left (hm.1 ▸ e)]; exact h1, h2⟩
  · rw [List.getElem?_append_right (by omega)] at hq
    have : q - es.length = 0 := by
      have := (List.getElem?_eq_some_iff.1 hq).1
      simp at this; omega
    rw [this] at hq
    simp at hq
    obtain ⟨rfl, rfl, rfl⟩ := hq
    exact ⟨ce, by rw [List.getElem?_append_right (by rw [← hm.1]; omega), ← hm.1, this]; rfl, hk, hv, hb⟩

theorem keyStays (kd : IntKind) (q : Int) (w : World) : (Instr.keyThatStays (.int kd q) (.int kd q)).run P w = .ok (.int kd q) w := by
  have : Instr.sameBits 10000 (.int kd q) (.int kd q) = true := by unfold Instr.sameBits; simp
  simp [Instr.keyThatStays, this]

theorem l_mu (hr : E.HR P G h w) (ht : E.LR w t a.tmps) {ty : TypeId} {m k x : Operand} (ho : o.op = .mapUpdate ty m k x) (hc : compO P G o.op = some co) (hd : lop t h co = some (v, h')) : Acts P G E w a o v h.length h' := by
  simp only [compO, ho] at hc
  split at hc
  · rename_i kt el m' k' x' hu hm hk hx
    cases hkt : P.underlying kt with
    | none => simp [hkt] at hc
    | some d =>
    cases d with
    | int k0 =>
      simp [hkt] at hc
      subst hc
      simp only [lop] at hd
      split at hd
      · rename_i i kd q xv h1 h2 h3
        cases hb : nth h i with
        | none => simp [hb] at hd
        | some ob =>
        cases ob with
        | none => simp [hb] at hd
        | some blk =>
        cases blk with
        | map es c =>
          rw [nth_eq] at hb
          have e1 := (ev_vr hr ht hm h1).mp_inv
          have e2 := (ev_vr hr ht hk h2).int_inv
          have vx := ev_vr hr ht hx h3
          obtain ⟨ces, hce, hmr⟩ := map_br (hr.blk i _ hb).2.2.2
          have hlt := (hr.blk i _ hb).2.2.1
          simp only [nth_eq, hb, fA_eq] at hd
          have fin : ∀ (es' : List (AVal × AVal × Nat)) (c' : Nat) (ces' : Array MapEntry), (Instr.mapUpdate ty (.map (some (E.ρ i).b)) (.int kd q) (a.eval x)).run P w = .ok () (w.putObj (E.ρ i).b (.map ces' c')) → MapR E w es' ces'.toList →
              Acts P G E w a o .und h.length (h.set i (some (.map es' c'))) := by
            intro es' c' ces' hrun hm'
            have := hr_upd (P := P) (G := G) (w' := w.putObj (E.ρ i).b (.map ces' c')) (b := .map es' c') hr hb (fun k' hk' => World.putObj_heap_other hk') World.putObj_size rfl rfl rfl (fun hl =>
              br_map (World.putObj_heap_same hlt) (mapR_mono hm' fun _ _ hv => hl.vr hr hv))
            refine ⟨.skip, undef, _, E, ?_, .inr ⟨rfl, rfl⟩, this.1, this.2, .und _, .refl _ _⟩
            simp [execOp, ho, e1, e2, hrun]
          have hget : (getObj (E.ρ i).b).run P w = .ok (.map ces c) w := by simp [getObj, Sem.run, hce]
          have hset : ∀ ob, (setObj (E.ρ i).b ob).run P w = .ok () (w.putObj (E.ρ i).b ob) := fun ob => by simp [setObj, Sem.run, hce, World.putObj]
          split at hd
          · rename_i j y b hf
            simp [setK_eq] at hd
            obtain ⟨rfl, rfl⟩ := hd
            obtain ⟨u, f1, f2, f3, f4, ce, f5, f6, f7⟩ := findE_now (k0 := k0) hmr hf
            simp only [Nat.sub_zero] at f4 f5
            have hj := (List.getElem?_eq_some_iff.1 f4).1
            refine fin _ c (ces.modify j fun e => { e with key := .int kd q, val := a.eval x }) ?_ ?_
            · have f5' : ces[j]? = some ce := by simpa using f5
              simp [Instr.mapUpdate, run_underlying hu, hget, run_checkKey' hkt, Instr.findKey, run_underlying hkt, f1, f5', f6, keyStays, hset]
            · have : (ces.modify j fun e => { e with key := .int kd q, val := a.eval x }).toList = ces.toList.set j { ce with key := .int kd q, val := a.eval x } := by
                apply List.ext_getElem?
                intro n
                simp only [Array.getElem?_toList, Array.getElem?_modify, List.getElem?_set]
                have f5' : ces[j]? = some ce := by simpa using f5
                by_cases e : j = n
                · subst e
                  have hjs := (Array.getElem?_eq_some_iff.1 f5').1
                  rw [if_pos rfl, if_pos rfl, if_pos (by simpa using hjs), f5']
                  rfl
                · rw [if_neg e, if_neg e]
              rw [this]
              exact mapR_set hmr (.int _ _ _) vx f7 hj
          · rename_i hf
            simp [setK_eq, appK_eq, fN_eq] at hd
            obtain ⟨rfl, rfl⟩ := hd
            have f1 := findE_now (k0 := k0) hmr hf
            refine fin _ (c + 1) (ces.push { key := .int kd q, val := a.eval x, born := c }) ?_ ?_
            · simp only at f1
              simp [Instr.mapUpdate, run_underlying hu, hget, run_checkKey' hkt, Instr.findKey, run_underlying hkt, f1, hset]
            · simp only [Array.toList_push]
              exact mapR_push hmr (.int _ _ _) vx rfl
          · simp at hd
        | _ => simp [hb] at hd
      · simp at hd
    | _ => simp [hkt] at hc
  · simp at hc

theorem l_ins (hr : E.HR P G h w) (ht : E.LR w t a.tmps) {ty : TypeId} {m k x : Operand} (ho : o.op = .insert ty m k x) (hc : compO P G o.op = some co) (hd : lop t h co = some (v, h')) : Acts P G E w a o v h.length h' := by
  have h1 : compO P G (.mapUpdate ty m k x) = some co := by rw [ho] at hc; exact hc
  have key := l_mu (o := { o with op := .mapUpdate ty m k x }) hr ht rfl h1 hd
  obtain ⟨r, u, w', E', hrun, rest⟩ := key
  have e : (execOp a.eval o).run P w = .ok r w' := by rw [← hrun]; simp only [execOp, ho]
  exact ⟨r, u, w', E', e, rest⟩

/-! ### append -/

/-- Rows of cells, one behind the other. -/
def FR (E : Env) (w : World) (rs : List (List AVal)) (arr : Array Value) (s : Nat) : Prop :=
  arr.size = rs.length * s ∧ ∀ (k : Nat) (r : List AVal), rs[k]? = some r → ∀ (j : Nat) (x : AVal), r[j]? = some x → ∃ v, arr[k * s + j]? = some v ∧ E.VR w x v

theorem fr_app {xs ys : List (List AVal)} {ax ay : Array Value} {s : Nat} (hx : FR E w xs ax s) (hy : FR E w ys ay s) : FR E w (xs ++ ys) (ax ++ ay) s := by
  refine ⟨by rw [Array.size_append, hx.1, hy.1, List.length_append, Nat.add_mul], fun k r hk j x hj => ?_⟩
  by_cases e : k < xs.length
  · rw [List.getElem?_append_left e] at hk
    obtain ⟨u, h1, h2⟩ := hx.2 k r hk j x hj
    refine ⟨u, ?_, h2⟩
    have := (Array.getElem?_eq_some_iff.1 h1).1
    rw [Array.getElem?_append_left this]; exact h1
  · rw [List.getElem?_append_right (by omega)] at hk
    obtain ⟨u, h1, h2⟩ := hy.2 _ r hk j x hj
    refine ⟨u, ?_, h2⟩
    have hm : xs.length * s ≤ k * s := Nat.mul_le_mul_right _ (by omega)
    rw [Array.getElem?_append_right (by rw [hx.1]; omega), hx.1]
    have : k * s + j - xs.length * s = (k - xs.length) * s + j := by rw [Nat.mul_sub_right_distrib]; omega
    rw [this]; exact h1

theorem load_cells_from {b off : Nat} {n : Nat} {cv : Nat → Value} (hw : w'.heap[b]? = w.heap[b]?) (h : ∀ j, j < n → w.cell? ⟨b, off + j, none⟩ = some (cv j)) :
    (loadCells ⟨b, off, none⟩ n).run P w' = .ok ((List.range n).map cv).toArray w' :=
  run_loadCells (P := P) w' ⟨b, off, none⟩ n cv fun j hj => by rw [addr_add, cell_of_block (w := w) hw]; exact h j hj

theorem fr_of {rs : List (List AVal)} {n s : Nat} {cv : Nat → Value} (hn : n = rs.length) (hall : ∀ r ∈ rs, r.length = s) (h : ∀ (k : Nat) (r : List AVal), rs[k]? = some r → ∀ (j : Nat) (x : AVal), r[j]? = some x → E.VR w x (cv (k * s + j))) :
    FR E w rs ((List.range (n * s)).map cv).toArray s := by
  subst hn
  refine ⟨by simp, fun k r hk j x hj => ⟨cv (k * s + j), ?_, h k r hk j x hj⟩⟩
  have h1 := (List.getElem?_eq_some_iff.1 hk).1
  have h2 := (List.getElem?_eq_some_iff.1 hj).1
  rw [hall r (List.mem_of_getElem? hk)] at h2
  have : (k + 1) * s ≤ rs.length * s := Nat.mul_le_mul_right _ h1
  rw [Nat.add_mul] at this
  have : k * s + j < rs.length * s := by omega
  simp [this]

/-- The cells of a slice, read in this world or in one with the same blocks. -/
theorem first_cells (hr : E.HR P G h w) {p : AVal} {cv : Value} {rs : List (List AVal)} {s : Nat} (hv : E.VR w p cv) (hro : rowsOf h p = some rs) (hall : ∀ r ∈ rs, r.length = s) :
    ∃ base cap arr, cv = .slice base rs.length cap ∧ rs.length ≤ cap ∧ (base = none → cap = 0) ∧ FR E w rs arr s ∧ ∀ w', w'.heap = w.heap → (Builtin.firstCells s rs.length cv).run P w' = .ok arr w' := by
  cases hv with
  | nils =>
    simp [rowsOf] at hro; subst hro
    exact ⟨none, 0, #[], rfl, Nat.le_refl _, fun _ => rfl, ⟨by simp, fun k r hk => by simp at hk⟩, fun w' _ => by simp [Builtin.firstCells]⟩
  | sl _ i k n tt sa cap hi hn htt ha hs =>
    simp only [rowsOf] at hro
    cases hrow : rowAt h i with
    | none => simp [hrow] at hro
    | some q =>
    obtain ⟨e, qs⟩ := q
    simp only [hrow] at hro
    split at hro
    · rename_i hle
      simp at hro
      subst hro
      have hlen : ((qs.drop k).take n).length = n := by simp; omega
      obtain ⟨hD, hO, hlt, he, hal, hroom, c, el, hc, hcs, hcell⟩ := hr.blk i _ (rowAt_some hrow)
      by_cases h0 : n = 0
      · subst h0
        refine ⟨some sa, cap, #[], by simp, by simp, fun h => by simp at h, ⟨by simp, fun k r hk => by simp at hk⟩, fun w' _ => ?_⟩
        simp [Builtin.firstCells, loadCells, loadCellsFrom]
      · have hcap : cap ≠ 0 := by omega
        have hsa := ha.resolve_left hcap
        have hes : e = s := by
          have : 0 < ((qs.drop k).take n).length := by omega
          have h1 := hall _ (List.getElem_mem this)
          have h2 : ((qs.drop k).take n)[0] = qs[k]'(by omega) := by simp
          rw [h2] at h1
          rw [← h1]; exact (hal _ (List.getElem_mem _)).symm
        have hget : ∀ j r, ((qs.drop k).take n)[j]? = some r → qs[k + j]? = some r := fun j r hj => by
          have hj1 := (List.getElem?_eq_some_iff.1 hj).1
          rw [hlen] at hj1
          rw [List.getElem?_take_of_lt hj1, List.getElem?_drop] at hj
          exact hj
        have hch : ∀ j, j < n * s → ∃ u, w.cell? ⟨(E.ρ i).b, (E.ρ i).d + k * (E.ρ i).e + j, none⟩ = some u := fun j hj => by
          have hb : (E.ρ i).d + k * (E.ρ i).e + j < c.size := by
            have : (k + n) * e ≤ qs.length * e := Nat.mul_le_mul_right _ hle
            rw [Nat.add_mul] at this
            rw [hcs, he]; subst hes; omega
          exact ⟨c[(E.ρ i).d + k * (E.ρ i).e + j], by simp [World.cell?, hc, hb]⟩
        have hf := fun w' => load_cells_from (P := P) (w := w) (w' := w') (b := (E.ρ i).b) (off := (E.ρ i).d + k * (E.ρ i).e) (n := n * s) (cv := fun j => (w.cell? ⟨(E.ρ i).b, (E.ρ i).d + k * (E.ρ i).e + j, none⟩).getD undef)
        refine ⟨some sa, cap, ((List.range (n * s)).map fun j => (w.cell? ⟨(E.ρ i).b, (E.ρ i).d + k * (E.ρ i).e + j, none⟩).getD undef).toArray, by rw [hlen], by rw [hlen]; exact hn, fun h => by simp at h, fr_of hlen.symm hall (fun k' r hk j x hj => ?_), fun w' hw' => ?_⟩
        · obtain ⟨u, g1, g2⟩ := hcell _ r (hget _ _ hk) j x hj
          have e9 : (E.ρ i).d + k * (E.ρ i).e + (k' * s + j) = (E.ρ i).d + (k + k') * e + j := by rw [he, Nat.add_mul, ← hes]; omega
          have : w.cell? ⟨(E.ρ i).b, (E.ρ i).d + k * (E.ρ i).e + (k' * s + j), none⟩ = some u := by rw [e9]; simp [World.cell?, hc]; exact g1
          simp only [this, Option.getD_some]; exact g2
        · rw [hlen, hsa]
          simp only [Builtin.firstCells]
          exact hf w' (by rw [hw']) fun j hj => by obtain ⟨u, hu⟩ := hch j hj; rw [hu]; rfl
    · simp at hro
  | vl _ _ tt sa cap b off e cv hn htt ha hb he hcl hh =>
    simp [rowsOf] at hro; subst hro
    rename_i rs
    by_cases h0 : rs.length = 0
    · have : rs = [] := List.eq_nil_of_length_eq_zero h0
      subst this
      exact ⟨some sa, cap, #[], rfl, hn, fun h => by simp at h, ⟨by simp, fun k r hk => by simp at hk⟩, fun w' _ => by simp [Builtin.firstCells, loadCells, loadCellsFrom]⟩
    · have hcap : cap ≠ 0 := by omega
      have hsa := ha.resolve_left hcap
      have hes : e = s := by
        have h1 := hall _ (List.getElem_mem (show 0 < rs.length by omega))
        rw [← h1]; exact (he 0 (by omega)).symm
      subst hes
      refine ⟨some sa, cap, ((List.range (rs.length * e)).map cv).toArray, rfl, hn, fun h => by simp at h, fr_of rfl hall (fun k' r hk j x hj => ?_), fun w' hw' => ?_⟩
      · obtain ⟨k1, rfl⟩ := List.getElem?_eq_some_iff.1 hk
        obtain ⟨j1, rfl⟩ := List.getElem?_eq_some_iff.1 hj
        exact Abs.VR.mono (hh k' k1 j j1) _ (fun _ h => h.elim) fun b hb => ⟨hb, rfl⟩
      · rw [hsa]
        simp only [Builtin.firstCells]
        exact load_cells_from (w := w) (by rw [hw']) fun j hj => hcl j hj
  | _ => simp [rowsOf] at hro

theorem next_cap {need cap : Nat} (h : cap < need) (hn : need ≤ lim) : Builtin.nextslicecap need cap ≤ 16 * lim := by
  unfold lim at *
  unfold Builtin.nextslicecap
  split
  · omega
  · split
    · omega
    · rename_i h1 h2
      have g : ∀ c, c ≤ 1048576 * 8 → c + (c + 768) / 4 ≤ 2 * c + 192 := fun c _ => by omega
      simp only [Builtin.growBy]
      split
      · omega
      · split
        · omega
        · split
          · omega
          · split <;> omega

theorem le_drew (E : Env) (w : World) : Le E w E w.drew := ⟨rfl, rfl, rfl, Nat.le_refl _, fun _ h => ⟨h, rfl⟩, fun _ h => h, fun _ _ h => ⟨rfl, h, fun h => h⟩⟩

theorem hr_drew (hr : E.HR P G h w) : E.HR P G h w.drew :=
  ⟨fun i b hi => let ⟨a1, a2, a3, a4⟩ := hr.blk i b hi; ⟨a1, a2, a3, br_mono a4 rfl rfl fun _ _ hv => (le_drew E w).vr hr hv⟩, hr.inj, hr.lt, hr.own, hr.imm, fun g r hg => (le_drew E w).vr hr (hr.glob g r hg)⟩

theorem all_len {rs : List (List AVal)} {s : Nat} (h : rs.all (·.length == s) = true) : ∀ r ∈ rs, r.length = s := fun r hr => by
  rw [List.all_eq_true] at h
  simpa using h r hr

theorem one_rows {rs : List (List AVal)} {arr : Array Value} {s : Nat} (hf : FR E w rs arr s) (hall : ∀ r ∈ rs, r.length = s) (hs : rs.all (·.all storable) = true) : ∀ v ∈ arr.toList, v.oneCell' = true := by
  intro v hv
  obtain ⟨j, hj⟩ := List.getElem?_of_mem hv
  rw [Array.getElem?_toList] at hj
  have hj1 := (Array.getElem?_eq_some_iff.1 hj).1
  rw [hf.1] at hj1
  have hs0 : 0 < s := by
    rcases Nat.eq_zero_or_pos s with h0 | h0
    · subst h0; simp at hj1
    · exact h0
  have hk : j / s < rs.length := by rw [Nat.div_lt_iff_lt_mul hs0]; exact hj1
  have hm : j % s < rs[j / s].length := by rw [hall _ (List.getElem_mem hk)]; exact Nat.mod_lt _ hs0
  obtain ⟨u, h1, h2⟩ := hf.2 (j / s) _ (List.getElem?_eq_getElem hk) (j % s) _ (List.getElem?_eq_getElem hm)
  have e : j / s * s + j % s = j := by rw [Nat.mul_comm]; exact Nat.div_add_mod j s
  rw [e, hj] at h1
  simp at h1; subst h1
  rw [List.all_eq_true] at hs
  have h3 := hs _ (List.getElem_mem hk)
  rw [List.all_eq_true] at h3
  exact storable_one (h3 _ (List.getElem_mem hm)) h2

/-- A row of cells that begins with some rows. -/
theorem br_row {x : Nat} {l : Loc} {rs : List (List AVal)} {c arr : Array Value} {el : TypeId} (hρ : E'.ρ x = l) (hall : ∀ r ∈ rs, r.length = l.e) (hfit : l.d + rs.length * l.e ≤ l.s) (hb : w'.heap[l.b]? = some (.cells c el (0, 0))) (hs : c.size = l.s)
    (hf : FR E' w' rs arr l.e) (hget : ∀ q, q < rs.length * l.e → c[l.d + q]? = arr[q]?) : E'.BR P G w' x (.row l.e rs) := by
  refine ⟨by rw [hρ], hall, by rw [hρ]; exact hfit, c, el, by rw [hρ]; exact hb, by rw [hρ]; exact hs, fun k r hk j y hj => ?_⟩
  obtain ⟨u, h1, h2⟩ := hf.2 k r hk j y hj
  refine ⟨u, ?_, h2⟩
  have := (Array.getElem?_eq_some_iff.1 h1).1
  rw [hf.1] at this
  rw [hρ, Nat.add_assoc, hget _ this]; exact h1

theorem fr_le {rs : List (List AVal)} {arr : Array Value} {s : Nat} (hf : FR E w rs arr s) (hv : ∀ v cv, E.VR w v cv → E'.VR w' v cv) : FR E' w' rs arr s :=
  ⟨hf.1, fun k r hk j x hj => let ⟨u, h1, h2⟩ := hf.2 k r hk j x hj; ⟨u, h1, hv _ _ h2⟩⟩

theorem slice_shape {p : AVal} {cv : Value} {rs : List (List AVal)} (hv : E.VR w p cv) (hro : rowsOf h p = some rs) : ∃ base cap, cv = .slice base rs.length cap ∧ rs.length ≤ cap := by
  cases hv with
  | nils => simp [rowsOf] at hro; subst hro; exact ⟨none, 0, rfl, Nat.le_refl _⟩
  | sl _ i k n tt sa cap hi hn htt ha hs =>
    simp only [rowsOf] at hro
    cases hrow : rowAt h i with
    | none => simp [hrow] at hro
    | some q =>
    simp only [hrow] at hro
    split at hro
    · rename_i hle
      simp at hro
      subst hro
      have hlen : ((q.2.drop k).take n).length = n := by simp; omega
      exact ⟨some sa, cap, by rw [hlen], by rw [hlen]; exact hn⟩
    · simp at hro
  | vl _ _ tt sa cap b off e cv hn => simp [rowsOf] at hro; subst hro; exact ⟨some sa, cap, rfl, hn⟩
  | _ => simp [rowsOf] at hro

/-- Rows of zeros. -/
theorem fr_zeros {z : List AVal} {zc : Array Value} {s : Nat} (hl : E.LR w z zc) (hs : z.length = s) (n : Nat) : FR E w (List.replicate n z) (Builtin.zeroCells zc n) s := by
  have hlr := lr_zeros hl n
  have hzs : zc.size = s := by rw [← hl.1]; exact hs
  refine ⟨by simp [Builtin.zeroCells, hzs], fun k r hk j x hj => ?_⟩
  obtain ⟨hk1, hk2⟩ := List.getElem?_eq_some_iff.1 hk
  simp at hk1 hk2
  subst hk2
  obtain ⟨hj1, hj2⟩ := List.getElem?_eq_some_iff.1 hj
  have hlt : k * s + j < n * z.length := by
    have h9 : (k + 1) * s ≤ n * s := Nat.mul_le_mul_right _ (by omega)
    rw [Nat.add_mul] at h9
    rw [hs]; rw [hs] at hj1; omega
  have hg := flatten_get z n (k * s + j) hlt
  have hmod : (k * s + j) % z.length = j := by
    rw [hs, Nat.mul_comm, Nat.mul_add_mod, Nat.mod_eq_of_lt (hs ▸ hj1)]
  rw [hmod, hj] at hg
  obtain ⟨g1, g2⟩ := List.getElem?_eq_some_iff.1 hg
  have g3 : k * s + j < (Builtin.zeroCells zc n).size := hlr.1 ▸ g1
  exact ⟨_, Array.getElem?_eq_getElem g3, g2 ▸ hlr.2 _ g1 g3⟩

set_option maxHeartbeats 4000000 in
theorem l_app (hr : E.HR P G h w) (ht : E.LR w t a.tmps) {args : Array Operand} {ts : Array TypeId} (ho : o.op = .call { callee := .builtin .append, args := args, argTypes := ts }) (hc : compO P G o.op = some co) (hd : lop t h co = some (v, h')) : Acts P G E w a o v h.length h' := by
  simp only [compO, ho] at hc
  split at hc
  · rename_i sx x sT xT hargs hts
    have ea : args = #[sx, x] := by rw [← Array.toArray_toList (xs := args), hargs]
    have et : ts = #[sT, xT] := by rw [← Array.toArray_toList (xs := ts), hts]
    subst ea; subst et
    split at hc
    · rename_i el el2 s' x' hu hux hsx hxx
      cases hi : P.info? el with
      | none => simp [hi] at hc
      | some inf =>
      cases hz : zeroV P el with
      | none => simp [hi, hz] at hc
      | some z =>
      simp only [hi, hz] at hc
      split at hc
      · rename_i hcond
        simp at hc
        subst hc
        simp only [lop] at hd
        cases h1 : s'.ev t with
        | none => simp [h1] at hd
        | some av =>
        cases h2 : x'.ev t with
        | none => simp [h1, h2] at hd
        | some bv =>
        cases h3 : rowsOf h av with
        | none => simp [h1, h2, h3] at hd
        | some old =>
        cases h4 : rowsOf h bv with
        | none => simp [h1, h2, h3, h4] at hd
        | some new =>
        simp only [h1, h2, h3, h4] at hd
        have va := ev_vr hr ht hsx h1
        have vb := ev_vr hr ht hxx h2
        obtain ⟨inf', zv, hi', hzv, hzr0, hzl⟩ := zero_lr hz E w
        have hinf : inf' = inf := by rw [hi] at hi'; simpa using hi'.symm
        subst hinf
        have hzs : zv.cells.size = inf'.size := by rw [← hzl.1]; exact hcond.2
        have hszr : ∀ w', (sizeOf el).run P w' = .ok inf'.size w' := fun w' => by simp [sizeOf, typeInfo, hi]
        have hti : ∀ w', (typeInfo el).run P w' = .ok inf' w' := fun w' => by simp [typeInfo, hi]
        have hzr : ∀ w', (zeroValue el).run P w' = .ok zv w' := fun w' => by simp [zeroValue, typeInfo, hi, hzv]
        split at hd
        · rename_i hn0
          simp at hd
          obtain ⟨rfl, rfl⟩ := hd
          obtain ⟨ba, ca, e1, b1⟩ := slice_shape va h3
          obtain ⟨bb, cb, e2, _⟩ := slice_shape vb h4
          rw [hn0] at e2
          have hfc : (Builtin.firstCells inf'.size 0 (.slice bb 0 cb)).run P w = .ok #[] w := by
            cases bb <;> simp [Builtin.firstCells, loadCells, loadCellsFrom]
          refine ⟨.value (a.eval sx), a.eval sx, w, E, ?_, .inl rfl, Le.refl _ _, hr, va, .refl _ _⟩
          cases ba <;> simp [execOp, ho, resolve, invoke, builtin, Builtin.append_, run_underlying hu, run_underlying hux, e1, e2, hszr, Builtin.lenOf, b1, hfc, storeCells]
        · rename_i hn0
          split at hd
          · rename_i hcnd
            obtain ⟨hse, hlen, ho1, hn1, hst⟩ := hcnd
            simp only [fRows_eq, fN_eq, appK_eq, setK_eq] at hd
            have hallo := all_len ho1
            have halln := all_len hn1
            obtain ⟨ba, ca, arrA, e1, b1, bn1, f1, r1⟩ := first_cells (P := P) hr va h3 hallo
            obtain ⟨bb, cb, arrB, e2, b2, bn2, f2, r2⟩ := first_cells (P := P) hr vb h4 halln
            have hD : ¬ E.D h.length := fun hd => Nat.lt_irrefl _ (hr.lt _ hd)
            have hallr : ∀ r ∈ old ++ new, r.length = inf'.size := fun r hr' => by
              rcases List.mem_append.1 hr' with h | h
              · exact hallo r h
              · exact halln r h
            have grow : ca < old.length + new.length → ∀ h0 : Heap, h0.length = h.length → (∀ (j : Nat) (c : Blk), h0[j]? = some (some c) → h[j]? = some (some c)) →
                Acts P G E w a o (.sl h.length 0 (old.length + new.length) false) h.length (h0 ++ [some (.row inf'.size (old ++ new))]) := by
              intro hlt h0 hl0 hal
              have hcap : old.length + new.length ≤ (Question.appendCap (old.length + new.length) ca el).cut (w.tape w.drawn (Question.appendCap (old.length + new.length) ca el)) := by simp only [Question.cut]; omega
              generalize hnc : (Question.appendCap (old.length + new.length) ca el).cut (w.tape w.drawn (Question.appendCap (old.length + new.length) ca el)) = newCap at hcap
              generalize hrest : Builtin.zeroCells zv.cells (newCap - (old.length + new.length)) = rest
              have hrs : rest.size = (newCap - (old.length + new.length)) * inf'.size := by rw [← hrest]; simp [Builtin.zeroCells, hzs]
              have hfr := fr_app f1 f2
              have hcs : (arrA ++ arrB ++ rest).size = newCap * inf'.size := by
                rw [Array.size_append, hfr.1, hrs, List.length_append, ← Nat.add_mul]; congr 1; omega
              have hn1' : ¬ old.length + new.length ≤ ca := by omega
              have hbig1 : ¬ (((old.length + new.length : Nat) : Int) > IntKind.i64.max) := by
                have : IntKind.i64.max = 9223372036854775807 := by decide
                unfold lim at hlen
                rw [this]; omega
              have hbig1' : ¬ ((9223372036854775807 : Int) < (old.length : Int) + (new.length : Int)) := by unfold lim at hlen; omega
              have hbig2 : ¬ (Builtin.nextslicecap (old.length + new.length) ca * inf'.bytes > 2 ^ 48) := by
                have g1 := next_cap hlt hlen
                have g2 := Nat.mul_le_mul g1 hcond.1
                have : 16 * lim * lim ≤ 2 ^ 48 := by decide
                omega
              have run : (execOp a.eval o).run P w = .ok (.value (.slice (some ⟨w.heap.size, 0, none⟩) (old.length + new.length) newCap)) (w.drew.alloc (.cells (arrA ++ arrB ++ rest) el)) := by
                have q1 := r1 w.drew rfl
                have q2 := r2 w.drew rfl
                rw [e1] at q1
                rw [e2] at q2
                simp only [execOp, ho, resolve, invoke, builtin, Builtin.append_]
                simp [run_underlying hu, run_underlying hux, e1, e2, hszr, hti, hzr, Builtin.lenOf, hn1', hbig1', hbig2, Question.forced, hnc, q1, q2, hrest, newRow]
              have hl := (le_drew E w).trans (le_add E w.drew (.cells (arrA ++ arrB ++ rest) el) h.length ⟨w.heap.size, 0, inf'.size, (arrA ++ arrB ++ rest).size⟩ hD rfl)
              refine ⟨_, _, _, E.add h.length ⟨w.heap.size, 0, inf'.size, (arrA ++ arrB ++ rest).size⟩, run, .inl rfl, hl, ?_, ?_⟩
              · refine hr_push hr hl h0 hl0 (fun j c hj => ?_) ?_ ?_ ?_
                · have hb := hal j c hj
                  have hlt' := (hr.blk j c hb).2.2.1
                  exact ⟨hb, heap_alloc_old w.drew _ hlt', Nat.ne_of_lt hlt'⟩
                · simp
                · intro hI; exact Nat.lt_irrefl _ (hr.imm _ hI).1
                · refine br_row (l := ⟨w.heap.size, 0, inf'.size, (arrA ++ arrB ++ rest).size⟩) (add_ρ _ _) hallr ?_ (heap_alloc_new w.drew _) rfl (fr_le hfr fun _ _ hv => hl.vr hr hv) fun q hq => ?_
                  · simp only [Nat.zero_add]; rw [hcs, List.length_append]; exact Nat.mul_le_mul_right _ hcap
                  · rw [Nat.zero_add, Array.getElem?_append_left (by rw [hfr.1]; exact hq)]
              · exact ⟨sl_new (w := w.drew) h.length (old.length + new.length) newCap false ⟨w.heap.size, 0, inf'.size, (arrA ++ arrB ++ rest).size⟩ _ rfl rfl hcap (fun h => by simp at h) (by rw [hcs]; exact Nat.le_refl _), Fresh.add _ _ _ (Nat.le_refl _)⟩
            split at hd
            · simp at hd
              obtain ⟨rfl, rfl⟩ := hd
              have hca : ca = 0 := by
                have := va.nils_inv
                rw [e1] at this
                simp at this
                exact this.2.2
              exact grow (by omega) h rfl fun _ _ hj => hj
            · simp at hd
              obtain ⟨rfl, rfl⟩ := hd
              refine grow ?_ h rfl fun _ _ hj => hj
              generalize hcv : a.eval sx = cv at va
              cases va with
              | vl _ _ _ sa cap b off e cvv hn htt =>
                rw [hcv] at e1
                simp at e1
                have := htt rfl
                omega
            · simp at hd
              obtain ⟨rfl, rfl⟩ := hd
              refine grow ?_ h rfl fun _ _ hj => hj
              obtain ⟨sa, cap, e3, _, _, htt, _⟩ := va.sl_inv
              rw [e1] at e3
              simp at e3
              have := htt rfl
              omega
            · rename_i i k n
              simp at hd
              obtain ⟨rfl, rfl⟩ := hd
              by_cases hin : old.length + new.length ≤ ca
              · cases hrow : rowAt h i with
                | none => simp [slE, hrow] at hse
                | some q =>
                obtain ⟨e, qs⟩ := q
                have hes : e = inf'.size := by simpa [slE, hrow] using hse
                subst hes
                simp only [rowsOf, hrow] at h3
                split at h3
                · rename_i hle
                  simp at h3
                  obtain ⟨sa, cap, e3, hi', hnc, htt, ha, hs⟩ := va.sl_inv
                  rw [e1] at e3
                  simp only [Value.slice.injEq] at e3
                  obtain ⟨rfl, hon, rfl⟩ := e3
                  have hbk := rowAt_some hrow
                  obtain ⟨hD', hO, hlt, he, hal, hroom, c, elc, hc, hcs, hcell⟩ := hr.blk i _ hbk
                  have hca : ca ≠ 0 := by omega
                  have hsa := ha.resolve_left hca
                  rw [he] at hsa hs
                  have hfit : (E.ρ i).d + k * inf'.size + old.length * inf'.size + arrB.toList.length ≤ c.size := by
                    have : (k + (old.length + new.length)) * inf'.size ≤ (k + ca) * inf'.size := Nat.mul_le_mul_right _ (by omega)
                    rw [Nat.add_mul, Nat.add_mul] at this
                    rw [Array.length_toList (xs := arrB), f2.1, hcs]; omega
                  have hsto := run_storeCells_at P (E.ρ i).b ((E.ρ i).d + k * inf'.size + old.length * inf'.size) elc arrB.toList 0 c w hc (by simpa using hfit) (one_rows f2 halln hst)
                  rw [Nat.add_zero] at hsto
                  generalize harr : (c.toList.take ((E.ρ i).d + k * inf'.size + old.length * inf'.size) ++ arrB.toList ++ c.toList.drop ((E.ρ i).d + k * inf'.size + old.length * inf'.size + arrB.toList.length)).toArray = arr at hsto
                  have hget : ∀ q, arr[q]? = if (E.ρ i).d + k * inf'.size + old.length * inf'.size ≤ q ∧ q < (E.ρ i).d + k * inf'.size + old.length * inf'.size + arrB.toList.length then arrB[q - ((E.ρ i).d + k * inf'.size + old.length * inf'.size)]? else c[q]? := fun q => by
                    rw [← harr, List.getElem?_toArray, splice_get (by simpa using hfit)]
                    simp
                  have hasz : arr.size = c.size := by rw [← harr]; simp at hfit ⊢; omega
                  have hl : Le E w (E.add h.length ⟨(E.ρ i).b, (E.ρ i).d + k * inf'.size, inf'.size, (E.ρ i).s⟩) (w.setRow (E.ρ i).b arr) := by
                    refine ⟨rfl, rfl, rfl, by simp, fun j hj => ⟨.inl hj, ?_⟩, fun b hb => hb, fun b hb hno => ⟨setRow_other w _ _ _ (fun e => hno (e ▸ hO)), ?_, fun h => h⟩⟩
                    · show (if j = h.length then _ else E.ρ j) = _
                      rw [if_neg]; intro e; subst e; exact hD hj
                    · rintro (h | h)
                      · exact hno h
                      · exact hno (h ▸ hO)
                  refine ⟨.value (.slice (some sa) (old.length + new.length) ca), _, w.setRow (E.ρ i).b arr, _, ?_, .inl rfl, hl, ?_, ?_⟩
                  · have q2 := r2 w rfl
                    rw [e2] at q2
                    simp only [execOp, ho, resolve, invoke, builtin, Builtin.append_]
                    simp [run_underlying hu, run_underlying hux, e1, e2, hszr, Builtin.lenOf, hin, q2, hsa, addr_add, hsto]
                  · refine hr_push hr hl (h.set i none) (by simp) (fun j c' hj => ?_) (by simpa using hlt) (fun hI => (hr.imm _ hI).2 hO) ?_
                    · by_cases hji : i = j
                      · subst hji
                        by_cases hil : i < h.length
                        · rw [List.getElem?_set_self hil] at hj; simp at hj
                        · rw [List.getElem?_eq_none (by simp; omega)] at hj; simp at hj
                      · rw [List.getElem?_set_ne hji] at hj
                        have hne : (E.ρ j).b ≠ (E.ρ i).b := fun e => hji (hr.inj i j _ _ hbk hj e.symm)
                        exact ⟨hj, setRow_other w _ _ _ hne, hne⟩
                    · refine ⟨by rw [add_ρ], hallr, ?_, arr, elc, by rw [add_ρ]; exact setRow_heap w _ _ _ _ _ hc, by rw [add_ρ, hasz]; exact hcs, fun k' r hk j y hj => ?_⟩
                      · rw [add_ρ]
                        have : (k + (old.length + new.length)) * inf'.size ≤ (k + ca) * inf'.size := Nat.mul_le_mul_right _ (by omega)
                        rw [Nat.add_mul] at this
                        simp only [List.length_append]; omega
                      · rw [add_ρ, hget]
                        have hj1 := (List.getElem?_eq_some_iff.1 hj).1
                        have hrl : r.length = inf'.size := hallr r (List.mem_of_getElem? hk)
                        rw [hrl] at hj1
                        by_cases hko : k' < old.length
                        · rw [List.getElem?_append_left hko] at hk
                          have : (k' + 1) * inf'.size ≤ old.length * inf'.size := Nat.mul_le_mul_right _ hko
                          rw [Nat.add_mul] at this
                          rw [if_neg (by simp only; omega)]
                          have hk2 : qs[k + k']? = some r := by
                            rw [← h3] at hk
                            have hk3 := (List.getElem?_eq_some_iff.1 hk).1
                            simp at hk3
                            rw [List.getElem?_take_of_lt (by omega), List.getElem?_drop] at hk
                            exact hk
                          obtain ⟨u, g1, g2⟩ := hcell _ r hk2 j y hj
                          refine ⟨u, ?_, hl.vr hr g2⟩
                          rw [← g1]; congr 1; simp only; rw [Nat.add_mul]; omega
                        · rw [List.getElem?_append_right (by omega)] at hk
                          obtain ⟨u, g1, g2⟩ := f2.2 _ r hk j y hj
                          have g3 := (Array.getElem?_eq_some_iff.1 g1).1
                          have hm : old.length * inf'.size ≤ k' * inf'.size := Nat.mul_le_mul_right _ (by omega)
                          have e9 : (k' - old.length) * inf'.size + j = k' * inf'.size + j - old.length * inf'.size := by rw [Nat.mul_sub_right_distrib]; omega
                          rw [e9] at g1 g3
                          simp only
                          rw [if_pos (by rw [Array.length_toList (xs := arrB)]; omega)]
                          refine ⟨u, ?_, hl.vr hr g2⟩
                          rw [← g1]; congr 1; omega
                  · refine ⟨.sl _ h.length 0 (old.length + new.length) false sa ca (.inr rfl) hin (fun h => by simp at h) (.inr ?_) ?_, Fresh.add _ _ _ (Nat.le_refl _)⟩
                    · rw [add_ρ, hsa]; simp
                    · rw [add_ρ]; simp only; rw [Nat.add_mul] at hs; rw [Nat.zero_add]; omega
                · simp at h3
              · refine grow (by omega) (h.set i none) (by simp) fun j c hj => ?_
                by_cases hji : i = j
                · subst hji
                  by_cases hil : i < h.length
                  · rw [List.getElem?_set_self hil] at hj; simp at hj
                  · rw [List.getElem?_eq_none (by simp; omega)] at hj; simp at hj
                · rwa [List.getElem?_set_ne hji] at hj
            · simp at hd
          · simp at hd
      · simp at hc
    · rename_i el k0 s' x' hu hux hsx hxx
      cases hi : P.info? el with
      | none => simp [hi] at hc
      | some inf =>
      cases hz : zeroV P el with
      | none => simp [hi, hz] at hc
      | some z =>
      simp only [hi, hz] at hc
      split at hc
      · rename_i hcond
        simp at hc
        subst hc
        simp only [lop] at hd
        split at hd
        · rename_i kd n h1 h2
          split at hd
          · rename_i hb
            simp only [fRows_eq, fN_eq, appK_eq, Option.some.injEq, Prod.mk.injEq] at hd
            obtain ⟨rfl, rfl⟩ := hd
            have e1 := (ev_vr hr ht hsx h1).nils_inv
            have e2 := (ev_vr hr ht hxx h2).int_inv
            obtain ⟨inf', zv, hi', hzv, hzr0, hzl⟩ := zero_lr hz E w
            have hinf : inf' = inf := by rw [hi] at hi'; simpa using hi'.symm
            subst hinf
            have hzs : zv.cells.size = inf'.size := by rw [← hzl.1]; exact hcond.2
            have hszr : ∀ w', (sizeOf el).run P w' = .ok inf'.size w' := fun w' => by simp [sizeOf, typeInfo, hi]
            have hti : ∀ w', (typeInfo el).run P w' = .ok inf' w' := fun w' => by simp [typeInfo, hi]
            have hzr : ∀ w', (zeroValue el).run P w' = .ok zv w' := fun w' => by simp [zeroValue, typeInfo, hi, hzv]
            have hD : ¬ E.D h.length := fun hd => Nat.lt_irrefl _ (hr.lt _ hd)
            have w1 : IntKind.i64.wrap n = n := by rw [← W_eq]; simp only [W]; rw [if_pos (by omega)]
            have hfr := fr_zeros (E := E) (w := w) hzl hcond.2 n.toNat
            generalize hm : n.toNat = m at *
            have hm1 : 1 ≤ m := by omega
            have hm2 : m ≤ lim := by unfold lim; omega
            have hnm : n = (m : Int) := by omega
            have hcap : m ≤ (Question.appendCap m 0 el).cut (w.tape w.drawn (Question.appendCap m 0 el)) := by simp only [Question.cut]; omega
            generalize hnc : (Question.appendCap m 0 el).cut (w.tape w.drawn (Question.appendCap m 0 el)) = newCap at hcap
            generalize hrest : Builtin.zeroCells zv.cells (newCap - m) = rest
            have hrs : rest.size = (newCap - m) * inf'.size := by rw [← hrest]; simp [Builtin.zeroCells, hzs]
            have hcs : (Builtin.zeroCells zv.cells m ++ rest).size = newCap * inf'.size := by
              rw [Array.size_append, hfr.1, hrs, List.length_replicate, ← Nat.add_mul]; congr 1; omega
            have hbig1' : ¬ ((9223372036854775807 : Int) < (m : Int)) := by unfold lim at hm2; omega
            have hbig2 : ¬ (Builtin.nextslicecap m 0 * inf'.bytes > 2 ^ 48) := by
              have g1 := next_cap (need := m) (cap := 0) (by omega) hm2
              have g2 := Nat.mul_le_mul g1 hcond.1
              have : 16 * lim * lim ≤ 2 ^ 48 := by decide
              omega
            have hbytes : ¬ ((m : Int) * inf'.bytes > 2 ^ 48) := by
              have h3 : (inf'.bytes : Int) ≤ 1048576 := by have := hcond.1; unfold lim at this; omega
              have h4 : (m : Int) * inf'.bytes ≤ 1048576 * 1048576 := Int.mul_le_mul (by unfold lim at hm2; omega) h3 (by omega) (by omega)
              have : (1048576 : Int) * 1048576 ≤ 2 ^ 48 := by decide
              omega
            have hbytes' : ¬ ((281474976710656 : Int) < (m : Int) * inf'.bytes) := hbytes
            have hn0 : ¬ m = 0 := by omega
            have hneg : ¬ ((m : Int) < 0) := by omega
            have hzc : m * inf'.size = 0 → Builtin.zeroCells zv.cells m = #[] := fun h => by
              apply Array.eq_empty_of_size_eq_zero
              rw [hfr.1, List.length_replicate]; exact h
            have w1' : IntKind.i64.wrap (m : Int) = (m : Int) := by rw [← hnm]; exact w1
            have run : (execOp a.eval o).run P w = .ok (.value (.slice (some ⟨w.heap.size, 0, none⟩) m newCap)) (w.drew.alloc (.cells (Builtin.zeroCells zv.cells m ++ rest) el)) := by
              by_cases h0 : m * inf'.size = 0
              · have hz0 := hzc h0
                simp only [execOp, ho, resolve, invoke, builtin, Builtin.append_]
                simp [run_underlying hu, run_underlying hux, e1, e2, hnm, asInt, asIntOf, w1', hneg, hszr, hti, hzr, hn0, hbig1', hbig2, hbytes', Question.forced, hnc, h0, hz0, hrest, newRow, Builtin.firstCells]
              · simp only [execOp, ho, resolve, invoke, builtin, Builtin.append_]
                simp [run_underlying hu, run_underlying hux, e1, e2, hnm, asInt, asIntOf, w1', hneg, hszr, hti, hzr, hn0, hbig1', hbig2, hbytes', Question.forced, hnc, h0, hrest, newRow, Builtin.firstCells]
            have hl := (le_drew E w).trans (le_add E w.drew (.cells (Builtin.zeroCells zv.cells m ++ rest) el) h.length ⟨w.heap.size, 0, inf'.size, (Builtin.zeroCells zv.cells m ++ rest).size⟩ hD rfl)
            refine ⟨_, _, _, E.add h.length ⟨w.heap.size, 0, inf'.size, (Builtin.zeroCells zv.cells m ++ rest).size⟩, run, .inl rfl, hl, ?_, ?_⟩
            · refine hr_push hr hl h rfl (fun j c hj => ?_) ?_ ?_ ?_
              · have hlt' := (hr.blk j c hj).2.2.1
                exact ⟨hj, heap_alloc_old w.drew _ hlt', Nat.ne_of_lt hlt'⟩
              · simp
              · intro hI; exact Nat.lt_irrefl _ (hr.imm _ hI).1
              · refine br_row (l := ⟨w.heap.size, 0, inf'.size, (Builtin.zeroCells zv.cells m ++ rest).size⟩) (add_ρ _ _) (fun r hr' => by rw [List.eq_of_mem_replicate hr']; exact hcond.2) ?_ (heap_alloc_new w.drew _) rfl (fr_le hfr fun _ _ hv => hl.vr hr hv) fun q hq => ?_
                · simp only [Nat.zero_add]; rw [hcs, List.length_replicate]; exact Nat.mul_le_mul_right _ hcap
                · rw [Nat.zero_add, Array.getElem?_append_left (by rw [hfr.1]; exact hq)]
            · exact ⟨sl_new (w := w.drew) h.length m newCap false ⟨w.heap.size, 0, inf'.size, (Builtin.zeroCells zv.cells m ++ rest).size⟩ _ rfl rfl hcap (fun h => by simp at h) (by rw [hcs]; exact Nat.le_refl _), Fresh.add _ _ _ (Nat.le_refl _)⟩
          · simp at hd
        · simp at hd
      · simp at hc
    · simp at hc
  · simp at hc

end
end Go.Abs

namespace Go.Abs
open Go

section
variable {P : Program} {G : Nat → Option (List AVal)} {E E' : Env} {h h' : Heap} {w w' : World} {t : List AVal} {a : Act} {o : Oper} {co : COp} {v : AVal} {rd : Option Nat}

theorem dop_new_co {b : Blk} {f : Nat → AVal} (hd : dop P t h co = some (.new b f, rd)) : co = .mkm ∨ (∃ z, co = .new z) ∨ (∃ x, co = .box x) ∨ (∃ s n z ps, co = .bsl s n z ps) ∨ (∃ s z l c, co = .mks s z l c) := by
  cases co <;> first
    | exact .inl rfl
    | exact .inr (.inl ⟨_, rfl⟩)
    | exact .inr (.inr (.inl ⟨_, rfl⟩))
    | exact .inr (.inr (.inr (.inl ⟨_, _, _, _, rfl⟩)))
    | exact .inr (.inr (.inr (.inr ⟨_, _, _, _, rfl⟩)))
    | (exfalso; simp only [dop] at hd; (repeat' split at hd) <;> first | exact outv_new hd | simp at hd)

theorem dop_new (hr : E.HR P G h w) (ht : E.LR w t a.tmps) (hc : compO P G o.op = some co) {b : Blk} {f : Nat → AVal} (hd : dop P t h co = some (.new b f, rd)) : Makes P G E w a o b f := by
  cases ho : o.op with
  | box ty x => exact m_box hr ht ho hc hd
  | alloc ty => exact m_alloc hr ho hc hd
  | buildSlice ty n ps => exact m_bsl hr ht ho hc hd
  | makeSlice ty l c => exact m_mks hr ht ho hc hd
  | makeMap ty r =>
    cases r with
    | none => exact m_mkm ho hc hd
    | some r => simp [compO, ho] at hc
  | makeFunc f fs cs =>
    exfalso
    cases f <;> simp only [ho, compO] at hc <;> (try (simp at hc; done))
    split at hc <;> simp at hc
    subst hc
    simp only [dop] at hd
    split at hd
    · exact outv_new hd
    · simp at hd
  | _ =>
    exfalso
    have key : co ≠ .mkm ∧ (∀ z, co ≠ .new z) ∧ (∀ x, co ≠ .box x) ∧ (∀ s n z ps, co ≠ .bsl s n z ps) ∧ (∀ s z l c, co ≠ .mks s z l c) := by
      simp only [ho, compO] at hc
      refine ⟨?_, fun z => ?_, fun x => ?_, fun s n z ps => ?_, fun s z l c => ?_⟩ <;> intro e <;> subst e <;> (repeat' split at hc) <;> simp at hc
    rcases dop_new_co hd with h | ⟨_, h⟩ | ⟨_, h⟩ | ⟨_, _, _, _, h⟩ | ⟨_, _, _, _, h⟩
    · exact key.1 h
    · exact key.2.1 _ h
    · exact key.2.2.1 _ h
    · exact key.2.2.2.1 _ _ _ _ h
    · exact key.2.2.2.2 _ _ _ _ h

theorem lop_acts (hr : E.HR P G h w) (ht : E.LR w t a.tmps) (hc : compO P G o.op = some co) (hd : lop t h co = some (v, h')) : Acts P G E w a o v h.length h' := by
  cases ho : o.op with
  | store ty p x => exact l_st hr ht ho hc hd
  | mapUpdate ty m k x => exact l_mu hr ht ho hc hd
  | insert ty m k x => exact l_ins hr ht ho hc hd
  | call c =>
    obtain ⟨callee, args, ts⟩ := c
    cases callee with
    | builtin b =>
      cases b with
      | append => exact l_app hr ht ho hc hd
      | _ =>
        exfalso
        simp only [ho, compO] at hc
        (repeat' split at hc) <;> simp at hc <;> (try subst hc) <;> simp [lop] at hd
    | _ =>
      exfalso
      simp only [ho, compO] at hc
      (repeat' split at hc) <;> simp at hc <;> (try subst hc) <;> simp [lop] at hd
  | makeFunc f fs cs =>
    exfalso
    cases f <;> simp only [ho, compO] at hc <;> (try (simp at hc; done))
    split at hc <;> simp at hc
    subst hc
    simp [lop] at hd
  | makeMap ty r =>
    exfalso
    cases r <;> simp [ho, compO] at hc
    subst hc
    simp [lop] at hd
  | _ =>
    exfalso
    simp only [ho, compO] at hc
    (repeat' split at hc) <;> simp at hc <;> (try subst hc) <;> simp [lop] at hd

end
end Go.Abs

namespace Go.Abs
open Go

/-- The wide fence, in a round or in none. -/
abbrev FW (ro : Option Nat) : Fence := { fn := fun _ => True, depth := none, alive := false, round := ro }

section
variable (P : Program) (G : Nat → Option (List AVal))

def RetPost (E : Env) (w : World) (n : Nat) (v : AVal) (h' : Heap) : Ending → World → Prop := fun e w' => ∃ u E', e = .returned u ∧ Le E w E' w' ∧ E'.HR P G h' w' ∧ E'.VR w' v u ∧ Fresh E n E' ∧ n ≤ h'.length

def CallGood (f : Nat) (args : List AVal) (h : Heap) (v : AVal) (h' : Heap) : Prop :=
  ∀ (E : Env) (w : World) (cargs : Array Value) (k : Nat), E.HR P G h w → E.LR w args cargs → CallsIn (FW none) k P f cargs w (RetPost P G E w h.length v h')

def YieldGood (i : Nat) (args : List AVal) (h : Heap) (v : AVal) (h' : Heap) : Prop :=
  ∀ (E : Env) (w : World) (cargs : Array Value) (k : Nat), E.HR P G h w → E.LR w args cargs → ∃ L : Loop, w.heap[(E.ρ i).b]? = some (.loop L) ∧ cargs.size = L.params.size ∧
    RoundIn (FW none) k P (E.ρ i).b L.fn ((L.params.zip cargs).foldl (fun tmps (t, a) => tmps.setIfInBounds t a) L.tmps) L.assign L.body w (RetPost P G E w h.length v h')

/-- What is known beforehand: the run changes nothing; what it answers points at unchanging memory alone (fr: memory that is new). -/
def OrcPost (E : Env) (w : World) (fr : Bool) (v : AVal) : Ending → World → Prop := fun e w' => ∃ (u : Value) (I' : Nat → Prop), e = .returned u ∧ w'.os = w.os ∧ w'.tape = w.tape ∧ w'.output = w.output ∧ w.heap.size ≤ w'.heap.size ∧
  (∀ b, b < w.heap.size → w'.heap[b]? = w.heap[b]?) ∧ (∀ b, I' b → b < w'.heap.size ∧ (w.heap.size ≤ b ∨ (fr = false ∧ E.I b))) ∧ Abs.VR E.ρ I' w' (fun _ => False) v u

def OrcGood (fr : Bool) (f : Nat) (args : List AVal) (v : AVal) : Prop :=
  ∀ (E : Env) (w : World) (cargs : Array Value) (k : Nat), (∀ i, ¬ E.D i) → (∀ b, ¬ E.O b) → E.HR P G [] w → E.LR w args cargs → CallsIn (FW none) k P f cargs w (OrcPost E w fr v)

/-- A function of the table is the program's. -/
def TabOk (T : Nat → Option CFn) : Prop := ∀ f cf, T f = some cf → ∃ fn c, P.funcs[f]? = some fn ∧ fn.body = some c ∧ (fn.name == "runtime.NumGoroutine") = false ∧
  compC P G c = some (strip cf.body) ∧ fn.ntmps = cf.ntmps ∧ compR P fn.results.toList = some cf.res ∧
  ∀ args v, cf.orc args = some v → OrcGood P G cf.frsh f args v
end

section
variable {P : Program} {G : Nat → Option (List AVal)} {T : Nat → Option CFn} {ex : Option Nat → CC → St → Option (AEx × St)} {E E' : Env} {h h' : Heap} {w w' : World} {t : List AVal} {a : Act} {o : Oper} {co : COp} {v : AVal}

theorem lr_app {xs ys : List AVal} {ax ay : Array Value} (hx : E.LR w xs ax) (hy : E.LR w ys ay) : E.LR w (xs ++ ys) (ax ++ ay) := by
  rw [lr_iff] at *
  refine ⟨by simp [hx.1, hy.1], fun j x u h1 h2 => ?_⟩
  by_cases e : j < xs.length
  · rw [List.getElem?_append_left e] at h1
    rw [Array.getElem?_append_left (hx.1 ▸ e)] at h2
    exact hx.2 j x u h1 h2
  · rw [List.getElem?_append_right (by omega)] at h1
    rw [Array.getElem?_append_right (by rw [← hx.1]; omega), ← hx.1] at h2
    exact hy.2 _ x u h1 h2

theorem lr_set {xs : List AVal} {ax : Array Value} (hx : E.LR w xs ax) {d : Nat} {v : AVal} {u : Value} (hv : E.VR w v u) : E.LR w (xs.set d v) (ax.setIfInBounds d u) := by
  rw [lr_iff] at *
  refine ⟨by simp [hx.1], fun j x u' h1 h2 => ?_⟩
  by_cases e : d = j
  · subst e
    have hd : d < xs.length := by simpa using (List.getElem?_eq_some_iff.1 h1).1
    rw [List.getElem?_set_self hd] at h1
    rw [Array.getElem?_setIfInBounds_self_of_lt (hx.1 ▸ hd)] at h2
    simp at h1 h2
    subst h1; subst h2; exact hv
  · rw [List.getElem?_set_ne e] at h1
    rw [Array.getElem?_setIfInBounds_ne e] at h2
    exact hx.2 j x u' h1 h2

theorem lr_put' (ht : E.LR w t a.tmps) {dst : Option Nat} {u : Value} (hv : E.VR w v u) : E.LR w (putT t dst v) (a.put dst u).tmps := by
  cases dst with
  | none => exact ht
  | some d => exact lr_set ht hv

theorem put_defers (a : Act) (dst : Option Nat) (u : Value) : (a.put dst u).defers = a.defers := by cases dst <;> rfl

theorem not_defer (hc : compO P G o.op = some co) : ∀ c, o.op ≠ .defer c := fun c e => by simp [compO, e] at hc

theorem VR.fn_inv {ρ : Nat → Loc} {I : Nat → Prop} {D : Nat → Prop} {cv : Value} {f : Nat} {xs ys : List AVal} (h : VR ρ I w D (.fn f xs ys) cv) : ∃ ca cb : Array Value, cv = .func (.func f) ca cb ∧ (xs.length = ca.size ∧ ∀ j (h : j < xs.length) (h' : j < ca.size), VR ρ I w D xs[j] ca[j]) ∧
    (ys.length = cb.size ∧ ∀ j (h : j < ys.length) (h' : j < cb.size), VR ρ I w D ys[j] cb[j]) := by
  cases h with
  | fn _ _ _ _ ca cb hla hlb ha hb => exact ⟨ca, cb, rfl, ⟨hla, ha⟩, ⟨hlb, hb⟩⟩
theorem VR.yld_inv {ρ : Nat → Loc} {I : Nat → Prop} {D : Nat → Prop} {cv : Value} {i : Nat} (h : VR ρ I w D (.yld i) cv) : cv = .func (.yield (ρ i).b) #[] #[] := by cases h; rfl

theorem lop_len (hd : lop t h co = some (v, h')) : h.length ≤ h'.length := by
  cases co <;> simp only [lop] at hd <;> (try (simp at hd; done))
  · split at hd <;> (try (simp at hd; done))
    split at hd <;> (try (simp at hd; done))
    rename_i h3
    simp at hd
    obtain ⟨_, rfl⟩ := hd
    unfold stA at h3
    (repeat' split at h3) <;> simp [fRow_eq, setK_eq] at h3
    subst h3; simp
  · (repeat' split at hd) <;> simp [fRows_eq, fN_eq, appK_eq, setK_eq, fA_eq] at hd <;> (try (split at hd <;> simp at hd)) <;> obtain ⟨_, rfl⟩ := hd <;> simp
  · (repeat' split at hd) <;> simp [fRows_eq, fN_eq, appK_eq, setK_eq, fA_eq] at hd <;> (try (split at hd <;> simp at hd)) <;> obtain ⟨_, rfl⟩ := hd <;> simp
  · (repeat' split at hd) <;> simp [fRows_eq, fN_eq, appK_eq, setK_eq, fA_eq] at hd <;> (try (split at hd <;> simp at hd)) <;> obtain ⟨_, rfl⟩ := hd <;> simp

/-- An operation that changes blocks, or a call. -/
theorem loud_wp (hT : TabOk P G T) (hcall : ∀ f args h v h', callF T ex f args h = some (v, h') → CallGood P G f args h v h') (hyld : ∀ i args h v h', yieldF ex i args h = some (v, h') → YieldGood P G i args h v h')
    (hr : E.HR P G h w) (ht : E.LR w t a.tmps) (hc : compO P G o.op = some co) (hl : loud T ex t h co = some (v, h')) {ro : Option Nat} {n : Nat} {next : Act → World → Prop} {Q : Exit → Act → World → Prop}
    (hn : ∀ u w' E', Le E w E' w' → E'.HR P G h' w' → E'.VR w' v u → Fresh E h.length E' → h.length ≤ h'.length → next (a.put o.dst u) w') : o.wpIn (FW ro) n P a w next Q := by
  refine ⟨fun _ _ => trivial, ?_⟩
  rw [Oper.semAt_eq _ _ _ (not_defer hc)]
  unfold loud at hl
  cases hlo : lop t h co with
  | some r =>
    simp [hlo] at hl
    subst hl
    obtain ⟨r, u, w', E', h1, h2, h3, h4, h5, h6⟩ := lop_acts hr ht hc hlo
    have hlen := lop_len hlo
    rw [h1]
    rcases h2 with rfl | ⟨rfl, rfl⟩
    · exact hn _ _ _ h3 h4 h5 h6 hlen
    · exact hn _ _ _ h3 h4 h5 h6 hlen
  | none =>
    simp only [hlo] at hl
    unfold callA at hl
    cases hca : calleeA t co with
    | none => simp [hca] at hl
    | some c1 =>
    cases co with
    | call fv as =>
      cases ho : o.op with
      | call c =>
        obtain ⟨callee, args, ts⟩ := c
        cases callee with
        | value f =>
          cases hf : compV G f with
          | none => simp [compO, ho, hf] at hc
          | some f' =>
          cases hcs : compVs G args.toList with
          | none => simp [compO, ho, hf, hcs] at hc
          | some cs =>
          simp [compO, ho, hf, hcs] at hc
          obtain ⟨rfl, rfl⟩ := hc
          simp only [calleeA] at hca
          split at hca
          · rename_i g fs cp us h1 h2
            have hca' : calleeA t (.call f' cs) = some (.fn g (fs ++ us ++ cp)) := by simp [calleeA, h1, h2]
            simp only [hca'] at hl
            have vf := ev_vr hr ht hf h1
            have la := evAll_lr hr ht hcs h2
            obtain ⟨ca, cb, e1, l1, l2⟩ := vf.fn_inv
            have hfa : ∃ cf, T g = some cf := by
              cases hg : T g with
              | none => simp [callF, hg] at hl
              | some cf => exact ⟨cf, rfl⟩
            obtain ⟨cf, hcf⟩ := hfa
            obtain ⟨fn, c, hfn, hbody, hname, _⟩ := hT g cf hcf
            have hrun : (execOp a.eval o).run P w = .ok (.enter g (ca ++ args.map a.eval ++ cb)) w := by
              have hname' : ¬ fn.name = "runtime.NumGoroutine" := by simpa using hname
              simp [execOp, ho, resolve, e1, Deferred.ofValue, invoke, callFunc, hfn, hname', hbody]
            rw [hrun, Oper.uponIn_enter]
            refine ⟨fun h => by simp at h, ?_⟩
            refine CallsIn.mono (hcall _ _ _ _ _ hl E w (ca ++ args.map a.eval ++ cb) (n - 1) hr (lr_app (lr_app l1 la) l2)) ?_
            rintro e w' ⟨u, E', rfl, h3, h4, h5, h6, h7⟩
            exact hn _ _ _ h3 h4 h5 h6 h7
          · rename_i i us h1 h2
            have hca' : calleeA t (.call f' cs) = some (.yld i us) := by simp [calleeA, h1, h2]
            simp only [hca'] at hl
            have e1 := (ev_vr hr ht hf h1).yld_inv
            have la := evAll_lr hr ht hcs h2
            obtain ⟨L, hL, hsz, hround⟩ := hyld _ _ _ _ _ hl E w (args.map a.eval) (n - 1) hr la
            have hrun : (execOp a.eval o).run P w = .ok (.round (E.ρ i).b L.fn ((L.params.zip (args.map a.eval)).foldl (fun tmps (t, a) => tmps.setIfInBounds t a) L.tmps) L.assign L.body) w := by
              have := run_yield (P := P) hL hsz
              simp only [execOp, ho, resolve, e1, Deferred.ofValue, invoke, Sem.run_bind, Sem.run_pure, Result.andThen_ok]
              simpa using this
            rw [hrun, Oper.uponIn_round]
            refine ⟨fun h => by simp at h, ?_⟩
            refine RoundIn.mono hround ?_
            rintro e w' ⟨u, E', rfl, h3, h4, h5, h6, h7⟩
            exact hn _ _ _ h3 h4 h5 h6 h7
          · simp at hca
        | invoke r m => simp [compO, ho] at hc
        | builtin b =>
          exfalso
          simp only [ho, compO] at hc
          (repeat' split at hc) <;> simp_all
      | makeFunc f fs cs =>
        exfalso
        cases f <;> simp only [ho, compO] at hc <;> (try (simp at hc; done))
        split at hc <;> simp at hc
      | makeMap ty r => cases r <;> simp [ho, compO] at hc
      | _ =>
        exfalso
        simp only [ho, compO] at hc
        (repeat' split at hc) <;> simp at hc
    | _ => simp [calleeA] at hca

/-- Is the operation wanted? -/
theorem wanted_eq (ht : E.LR w t a.tmps) {ops : Array Oper} {g : Option (Nat × Bool)} (hg : compG ops o.guard = some g) {b : Bool} (hw : wantedA t g = some b) : Region.wanted o (yielded ops a.tmps) = b := by
  unfold Region.wanted
  cases hgd : o.guard with
  | none =>
    rw [hgd] at hg
    simp [compG] at hg; subst hg
    simp [wantedA] at hw
    simpa using hw
  | some p =>
    obtain ⟨j, want⟩ := p
    rw [hgd] at hg
    simp only [compG] at hg
    cases hd : (ops[j]?).bind (·.dst) with
    | none => simp [hd] at hg
    | some d =>
    simp [hd] at hg; subst hg
    simp only [wantedA, nth_eq] at hw
    simp only [yielded, hd, Option.bind_some]
    split at hw
    · rename_i x hx
      obtain ⟨h1, h2⟩ := List.getElem?_eq_some_iff.1 hx
      have h3 := ht.2 d h1 (ht.1 ▸ h1)
      rw [h2] at h3
      have h4 := h3.bool_inv
      simp at hw; subst hw
      simp [Array.getElem?_eq_getElem (ht.1 ▸ h1 : d < a.tmps.size), h4]
    · rename_i hx
      obtain ⟨h1, h2⟩ := List.getElem?_eq_some_iff.1 hx
      have h3 := ht.2 d h1 (ht.1 ▸ h1)
      rw [h2] at h3
      have h4 := h3.und_inv
      simp at hw; subst hw
      simp [Array.getElem?_eq_getElem (ht.1 ▸ h1 : d < a.tmps.size), h4, undef]
    · simp at hw

/-- A step that lays a block where no block is. -/
theorem makes_wp (hr : E.HR P G h w) (ht : E.LR w t a.tmps) {b : Blk} {f : Nat → AVal} (hm : Makes P G E w a o b f) (hc : compO P G o.op = some co) {h1 : Heap} {x : Nat} (hx : ¬ E.D x) (hx1 : h1[x]? = some (some b)) (hold : ∀ j, j ≠ x → h1[j]? = h[j]? ∨ (∀ c, h1[j]? ≠ some (some c))) (hlen : h.length ≤ h1.length)
    {ro : Option Nat} {n : Nat} {next : Act → World → Prop} {Q : Exit → Act → World → Prop}
    (hn : ∀ u w' E', Le E w E' w' → E'.HR P G h1 w' → E'.LR w' (putT t o.dst (f x)) (a.put o.dst u).tmps → (∀ j, E'.D j → E.D j ∨ j = x) → next (a.put o.dst u) w') : o.wpIn (FW ro) n P a w next Q := by
  refine ⟨fun _ _ => trivial, ?_⟩
  rw [Oper.semAt_eq _ _ _ (not_defer hc)]
  obtain ⟨ob, u, l, hl, hrun, hxx⟩ := hm
  obtain ⟨hv, hb⟩ := hxx x hx
  rw [hrun]
  have hle := le_add E w ob x l hx hl
  have hρ : ∀ j, j ≠ x → (E.add x l).ρ j = E.ρ j := fun j hj => by simp [Env.add, hj]
  have hxl : x < h1.length := (List.getElem?_eq_some_iff.1 hx1).1
  have alive : ∀ j c, h1[j]? = some (some c) → (j = x ∧ c = b) ∨ (j ≠ x ∧ h[j]? = some (some c)) := fun j c hj => by
    by_cases e : j = x
    · subst e; rw [hx1] at hj; simp at hj; exact .inl ⟨rfl, hj.symm⟩
    · rcases hold j e with h2 | h2
      · exact .inr ⟨e, h2 ▸ hj⟩
      · exact absurd hj (h2 c)
  refine hn u _ (E.add x l) hle ⟨fun j c hj => ?_, fun j k c d hj hk he => ?_, fun j hj => ?_, fun k hk => ?_, fun k hk => ?_, fun g r hg => hle.vr hr (hr.glob g r hg)⟩ (lr_put' (hle.lr hr ht) hv) fun _ h => h
  · rcases alive j c hj with ⟨rfl, rfl⟩ | ⟨hne, hj⟩
    · exact ⟨.inr rfl, .inr (by rw [add_ρ]), by rw [add_ρ, hl]; simp, hb⟩
    · obtain ⟨h1, h2, h3, h4⟩ := hr.blk j c hj
      refine ⟨.inl h1, .inl (by rw [hρ j hne]; exact h2), by rw [hρ j hne]; simp; omega, br_mono h4 (hρ j hne) (heap_alloc_old w ob h3) fun _ _ hv => hle.vr hr hv⟩
  · rcases alive j c hj with ⟨rfl, rfl⟩ | ⟨hnj, hj2⟩ <;> rcases alive k d hk with ⟨rfl, rfl⟩ | ⟨hnk, hk2⟩
    · rfl
    · rw [add_ρ, hρ k hnk, hl] at he; have := (hr.blk k _ hk2).2.2.1; omega
    · rw [add_ρ, hρ j hnj, hl] at he; have := (hr.blk j _ hj2).2.2.1; omega
    · rw [hρ j hnj, hρ k hnk] at he
      exact hr.inj j k _ _ hj2 hk2 he
  · rcases hj with hj | rfl
    · exact Nat.lt_of_lt_of_le (hr.lt j hj) hlen
    · exact hxl
  · rcases hk with hk | rfl
    · exact Nat.lt_of_lt_of_le (hr.own k hk) hle.size
    · rw [hl]; simp
  · refine ⟨Nat.lt_of_lt_of_le (hr.imm k hk).1 hle.size, ?_⟩
    rintro (h1 | h1)
    · exact (hr.imm k hk).2 h1
    · have := (hr.imm k hk).1; omega

end
end Go.Abs

namespace Go.Abs
open Go

/-- How a run goes on: what it has done to the world, and what the heap says of it then. -/
structure Nx (P : Program) (G : Nat → Option (List AVal)) (E : Env) (h : Heap) (w : World) (E' : Env) (h' : Heap) (w' : World) : Prop where
  le : Le E w E' w'
  hr : E'.HR P G h' w'
  fr : Fresh E h.length E'
  len : h.length ≤ h'.length

section
variable {P : Program} {G : Nat → Option (List AVal)} {T : Nat → Option CFn} {ex : Option Nat → CC → St → Option (AEx × St)} {E E' E'' : Env} {h h' h'' : Heap} {w w' w'' : World} {t t' : List AVal} {a : Act} {o : Oper} {co : COp} {v : AVal}

theorem Nx.refl (hr : E.HR P G h w) : Nx P G E h w E h w := ⟨.refl _ _, hr, .refl _ _, Nat.le_refl _⟩
theorem Nx.trans (x : Nx P G E h w E' h' w') (y : Nx P G E' h' w' E'' h'' w'') : Nx P G E h w E'' h'' w'' :=
  ⟨x.le.trans y.le, y.hr, x.fr.trans y.fr x.len, Nat.le_trans x.len y.len⟩

theorem not_yields_defer {cs : CO} {ops : Array Oper} {un : List Nat} (hc : compCO P G ops un o = some cs) : compO P G o.op = some cs.op ∧ compG ops o.guard = some cs.g ∧ cs.dst = o.dst ∧ cs.un = un := by
  unfold compCO at hc
  split at hc
  · rename_i op g h1 h2
    simp at hc; subst hc
    exact ⟨h1, h2, rfl, rfl⟩
  · simp at hc

/-- A step whose operation is not wanted, or yields a value. -/
theorem val_wp (hr : E.HR P G h w) (ht : E.LR w t a.tmps) (hc : compO P G o.op = some co) {rd : Option Nat} (hd : dop P t h co = some (.val v, rd)) {ro : Option Nat} {n : Nat} {next : Act → World → Prop} {Q : Exit → Act → World → Prop}
    (hn : ∀ u, E.VR w v u → next (a.put o.dst u) w) : o.wpIn (FW ro) n P a w next Q := by
  refine ⟨fun _ _ => trivial, ?_⟩
  rw [Oper.semAt_eq _ _ _ (not_defer hc)]
  obtain ⟨u, h1, h2⟩ := dop_val hr ht hc hd
  rw [h1]
  exact hn u h2

/-- One operation, in the order of the text. -/
theorem stepX_wp (hT : TabOk P G T) (hcall : ∀ f args h v h', callF T ex f args h = some (v, h') → CallGood P G f args h v h') (hyld : ∀ i args h v h', yieldF ex i args h = some (v, h') → YieldGood P G i args h v h')
    (hr : E.HR P G h w) (ht : E.LR w t a.tmps) {c : CO} {ops : Array Oper} {un : List Nat} (hc : compCO P G ops un o = some c) (hs : stepX P T ex c ⟨t, h⟩ = some ⟨t', h'⟩) {ro : Option Nat} {n : Nat} {next : Act → World → Prop} {Q : Exit → Act → World → Prop}
    (hn : ∀ a' w' E', Nx P G E h w E' h' w' → E'.LR w' t' a'.tmps → a'.defers = a.defers → next a' w') :
    if Region.wanted o (yielded ops a.tmps) then o.wpIn (FW ro) n P a w next Q else (∀ f, o.about P w a.eval = some f → (FW ro).fn f) ∧ next (a.put o.dst undef) w := by
  obtain ⟨hco, hg, hdst, -⟩ := not_yields_defer hc
  unfold stepX at hs
  split at hs
  · simp at hs
  · rename_i hw
    rw [wanted_eq ht hg hw]
    simp only [putK_eq, hdst] at hs
    simp at hs
    obtain ⟨rfl, rfl⟩ := hs
    exact ⟨fun _ _ => trivial, hn _ _ E (.refl hr) (lr_put' ht (.und _)) (put_defers _ _ _)⟩
  · rename_i hw
    rw [wanted_eq ht hg hw]
    split at hs
    · rename_i v rd hd
      simp only [putK_eq, hdst] at hs
      simp at hs
      obtain ⟨rfl, rfl⟩ := hs
      exact val_wp hr ht hco hd fun u hu => hn _ _ E (.refl hr) (lr_put' ht hu) (put_defers _ _ _)
    · rename_i b f rd hd
      simp only [putK_eq, appK_eq, hdst] at hs
      simp at hs
      obtain ⟨rfl, rfl⟩ := hs
      refine makes_wp hr ht (dop_new hr ht hco hd) hco (h1 := h ++ [some b]) (x := h.length) (fun hd => Nat.lt_irrefl _ (hr.lt _ hd)) (by simp) (fun j hj => ?_) (by simp) fun u w' E' hle hr' ht' hD => hn _ _ E' ⟨hle, hr', fun j hj => (hD j hj).imp id fun (e : j = h.length) => e ▸ Nat.le_refl _, by simp⟩ ht' (put_defers _ _ _)
      by_cases e : j < h.length
      · exact .inl (List.getElem?_append_left e)
      · exact .inl (by rw [List.getElem?_eq_none (by simp; omega), List.getElem?_eq_none (by omega)])
    · split at hs
      · rename_i v hh hl
        simp only [putK_eq, hdst] at hs
        simp at hs
        obtain ⟨rfl, rfl⟩ := hs
        exact loud_wp hT hcall hyld hr ht hco hl fun u w' E' hle hr' hu hf hlen => hn _ _ E' ⟨hle, hr', hf, hlen⟩ (lr_put' (hle.lr hr ht) hu) (put_defers _ _ _)
      · simp at hs

theorem runX_cons (c : CO) (l : List CO) (σ : St) : runX P T ex (c :: l) σ = match stepX P T ex c σ with | some σ' => runX P T ex l σ' | none => none := rfl

/-- The operations from k on. -/
theorem runX_wp (hT : TabOk P G T) (hcall : ∀ f args h v h', callF T ex f args h = some (v, h') → CallGood P G f args h v h') (hyld : ∀ i args h v h', yieldF ex i args h = some (v, h') → YieldGood P G i args h v h')
    {ops : Array Oper} {ro : Option Nat} {n : Nat} {Q : Exit → Act → World → Prop} : ∀ (os : List Oper) (k : Nat) (l : List CO) (E : Env) (h : Heap) (w : World) (t : List AVal) (a : Act), (∀ j, os[j]? = ops[k + j]?) → compOps P G ops os = some l →
      E.HR P G h w → E.LR w t a.tmps → runX P T ex l ⟨t, h⟩ = some ⟨t', h'⟩ → (∀ a' w' E', Nx P G E h w E' h' w' → E'.LR w' t' a'.tmps → a'.defers = a.defers → Q .normal a' w') →
      wpOpsIn (FW ro) n P ops Q (List.range' k os.length) a w := by
  intro os
  induction os with
  | nil =>
    intro k l E h w t a _ hl hr ht hs hn
    simp [compOps] at hl; subst hl
    simp [runX] at hs
    obtain ⟨rfl, rfl⟩ := hs
    exact hn a w E (.refl hr) ht rfl
  | cons o os ih =>
    intro k l E h w t a hos hl hr ht hs hn
    simp only [compOps] at hl
    split at hl
    · rename_i c l' hc hl'
      simp at hl; subst hl
      rw [runX_cons] at hs
      split at hs
      · rename_i σ hσ
        obtain ⟨t1, h1⟩ := σ
        have ho : ops[k]? = some o := by have := hos 0; simp at this; exact this.symm
        simp only [List.length_cons, List.range'_succ, wpOpsIn, ho]
        exact stepX_wp hT hcall hyld hr ht hc hσ fun a' w' E' hx ht' hd => ih (k + 1) l' E' h1 w' t1 a' (fun j => by have := hos (j + 1); simp at this; rw [this]; congr 1; omega) hl' hx.hr ht' hs fun a2 w2 E2 hx2 ht2 hd2 => hn a2 w2 E2 (hx.trans hx2) ht2 (hd2.trans hd)
      · simp at hs
    · simp at hl

theorem reg_wp (hT : TabOk P G T) (hcall : ∀ f args h v h', callF T ex f args h = some (v, h') → CallGood P G f args h v h') (hyld : ∀ i args h v h', yieldF ex i args h = some (v, h') → YieldGood P G i args h v h')
    {id : Nat} {ops : Array Oper} {l : List CO} (hl : compOps P G ops ops.toList = some l) (hr : E.HR P G h w) (ht : E.LR w t a.tmps) (hs : runX P T ex l ⟨t, h⟩ = some ⟨t', h'⟩) {ro : Option Nat} {n : Nat} {Q : Exit → Act → World → Prop}
    (hn : ∀ a' w' E', Nx P G E h w E' h' w' → E'.LR w' t' a'.tmps → a'.defers = a.defers → Q .normal a' w') : (Code.region id ops false).wpIn (FW ro) n P Q a w := by
  refine wpIn_region ?_
  have := runX_wp hT hcall hyld (ro := ro) (n := n) (Q := Q) ops.toList 0 l E h w t a (fun j => by simp) hl hr ht hs hn
  simpa [List.range_eq_range'] using this

end
end Go.Abs

namespace Go.Abs
open Go

section
variable {P : Program} {T : Nat → Option CFn} {ex : Option Nat → CC → St → Option (AEx × St)} {t t' : List AVal} {h h' : Heap}

theorem ev_c {x : CV} (hs : ∀ s ∈ slotsV x, t'[s]? = t[s]?) : x.ev t' = x.ev t := by
  cases x with
  | t i => simp only [CV.ev, nth_eq]; exact hs i (by simp [slotsV])
  | c v => rfl

theorem evAll_c : ∀ {l : List CV} (_ : ∀ s ∈ l.flatMap slotsV, t'[s]? = t[s]?), evAll t' l = evAll t l
  | [], _ => rfl
  | x :: l, hs => by
    show (match x.ev t', evAll t' l with | some v, some vs => some (v :: vs) | _, _ => none) = (match x.ev t, evAll t l with | some v, some vs => some (v :: vs) | _, _ => none)
    rw [ev_c (x := x) fun s h => hs s (by simp [h]), evAll_c (l := l) fun s h => hs s (by rw [List.flatMap_cons]; exact List.mem_append_right _ h)]

theorem evOpt_c {x : Option CV} (hs : ∀ s ∈ slotsOpt x, t'[s]? = t[s]?) : evOpt t' x = evOpt t x := by
  cases x with
  | none => rfl
  | some x => simp only [evOpt, ev_c (x := x) hs]

theorem evParts3_c : ∀ {l : List (Nat × Nat × CV)} (_ : ∀ s ∈ l.flatMap fun p => slotsV p.2.2, t'[s]? = t[s]?), evParts3 t' l = evParts3 t l
  | [], _ => rfl
  | (i, s, x) :: l, hs => by
    simp only [evParts3]
    rw [ev_c (x := x) fun s h => hs s (by simp [h]), evParts3_c (l := l) fun s h => hs s (by rw [List.flatMap_cons]; exact List.mem_append_right _ h)]

theorem evParts_c {n : Nat} : ∀ {l : List (Nat × CV)} (_ : ∀ s ∈ l.flatMap fun p => slotsV p.2, t'[s]? = t[s]?), evParts n t' l = evParts n t l
  | [], _ => rfl
  | (i, x) :: l, hs => by
    simp only [evParts]
    rw [ev_c (x := x) fun s h => hs s (by simp [h]), evParts_c (l := l) fun s h => hs s (by rw [List.flatMap_cons]; exact List.mem_append_right _ h)]

theorem dop_t {o : COp} (hs : ∀ s ∈ slotsO o, t'[s]? = t[s]?) : dop P t' h o = dop P t h o := by
  cases o <;> first
    | rfl
    | (rename_i x; simp only [dop]; rw [ev_c (x := x) fun s h => hs s (by simp [slotsO, h])]; done)
    | (rename_i x y; simp only [dop]; rw [ev_c (x := x) fun s h => hs s (by simp [slotsO, h]), ev_c (x := y) fun s h => hs s (by simp [slotsO, h])]; done)
    | (rename_i x y z; simp only [dop]; rw [ev_c (x := x) fun s h => hs s (by simp [slotsO, h]), ev_c (x := y) fun s h => hs s (by simp [slotsO, h]), ev_c (x := z) fun s h => hs s (by simp [slotsO, h])]; done)
    | (rename_i x; simp only [dop]; rw [evAll_c (l := x) fun s h => hs s (by simpa [slotsO] using h)]; done)
    | (rename_i x y; simp only [dop]; rw [evAll_c (l := x) fun s h => hs s (by simp only [slotsO]; exact List.mem_append_left _ h), evAll_c (l := y) fun s h => hs s (by simp only [slotsO]; exact List.mem_append_right _ h)]; done)
    | (rename_i x; simp only [dop]; rw [evParts3_c (l := x) fun s h => hs s (by simpa [slotsO] using h)]; done)
    | (rename_i x; simp only [dop]; rw [evParts_c (l := x) fun s h => hs s (by simpa [slotsO] using h)]; done)
    | (rename_i x y z u; simp only [dop]; rw [ev_c (x := x) fun s h => hs s (by simp [slotsO, h]), evOpt_c (x := y) fun s h => hs s (by simp [slotsO, h]), evOpt_c (x := z) fun s h => hs s (by simp [slotsO, h]), evOpt_c (x := u) fun s h => hs s (by simp [slotsO, h])]; done)

theorem wanted_t {g : Option (Nat × Bool)} (hs : ∀ d b, g = some (d, b) → t'[d]? = t[d]?) : wantedA t' g = wantedA t g := by
  cases g with
  | none => rfl
  | some p => obtain ⟨d, b⟩ := p; simp only [wantedA, nth_eq, hs d b rfl]

theorem loud_t {o : COp} (hs : ∀ s ∈ slotsO o, t'[s]? = t[s]?) : loud T ex t' h o = loud T ex t h o := by
  have h1 : lop t' h o = lop t h o := by
    cases o <;> first
      | rfl
      | (rename_i x y; simp only [lop]; rw [ev_c (x := x) fun s h => hs s (by simp [slotsO, h]), ev_c (x := y) fun s h => hs s (by simp [slotsO, h])]; done)
      | (rename_i x y z; simp only [lop]; rw [ev_c (x := x) fun s h => hs s (by simp [slotsO, h]), ev_c (x := y) fun s h => hs s (by simp [slotsO, h]), ev_c (x := z) fun s h => hs s (by simp [slotsO, h])]; done)
  have h2 : calleeA t' o = calleeA t o := by
    cases o <;> first
      | rfl
      | (rename_i x y; simp only [calleeA]; rw [ev_c (x := x) fun s h => hs s (by simp only [slotsO]; exact List.mem_append_left _ h), evAll_c (l := y) fun s h => hs s (by simp only [slotsO]; exact List.mem_append_right _ h)]; done)
  simp only [loud, callA, h1, h2]

theorem rowAt_h {i : Nat} (hs : h'[i]? = h[i]?) : rowAt h' i = rowAt h i := by simp only [rowAt, nth_eq, hs]

theorem pointee_h {p : AVal} {r : List AVal} {o : Nat} {i : Option Nat} (hp : pointee h p = some (r, o, i)) (hs : ∀ r, i = some r → h'[r]? = h[r]?) : pointee h' p = some (r, o, i) := by
  unfold pointee at *
  split at hp
  · rename_i j k o'
    have key : i = some j := by (repeat' split at hp) <;> simp at hp; exact hp.2.2.symm
    rw [rowAt_h (hs j key)]; exact hp
  · exact hp
  · simp at hp

theorem dop_h {o : COp} {e : Eff} {rd : Option Nat} (hd : dop P t h o = some (e, rd)) (hs : ∀ r, rd = some r → h'[r]? = h[r]?) : dop P t h' o = some (e, rd) := by
  cases o with
  | ld p =>
    simp only [dop] at hd ⊢
    split at hd <;> (try (simp at hd; done))
    rename_i pv hp
    split at hd <;> (try (simp at hd; done))
    rename_i r o i hpt
    split at hd <;> (try (simp at hd; done))
    rename_i x hx
    simp at hd
    obtain ⟨rfl, rfl⟩ := hd
    simp only [pointee_h hpt hs, hx]
  | ldn n p =>
    simp only [dop] at hd ⊢
    split at hd <;> (try (simp at hd; done))
    rename_i pv hp
    split at hd <;> (try (simp at hd; done))
    rename_i r o i hpt
    split at hd <;> (try (simp at hd; done))
    rename_i x hx
    simp at hd
    obtain ⟨rfl, rfl⟩ := hd
    simp only [pointee_h hpt hs, hx]
  | ias s x ix =>
    simp only [dop] at hd ⊢
    split at hd
    · rename_i i k n tt kk q h1 h2
      have key : rd = some i := by (repeat' split at hd) <;> simp at hd; exact hd.2.symm
      simp only [rowAt_h (hs i key)]; exact hd
    · exact hd
    · simp at hd
  | slc s x lo hi mx =>
    simp only [dop] at hd ⊢
    split at hd
    · rename_i i k n tt lo' hi' mx' h1 h2 h3 h4
      have key : rd = some i := by (repeat' split at hd) <;> simp at hd; exact hd.2.symm
      simp only [rowAt_h (hs i key)]; exact hd
    · exact hd
    · exact hd
    · simp at hd
  | lenm x =>
    simp only [dop] at hd ⊢
    split at hd
    · exact hd
    · rename_i i h1
      have key : rd = some i := by (repeat' split at hd) <;> simp at hd; exact hd.2.symm
      simp only [nth_eq, hs i key] at hd ⊢; exact hd
    · simp at hd
  | lk ok z m k =>
    simp only [dop] at hd ⊢
    split at hd
    · exact hd
    · rename_i i kd n h1 h2
      have key : rd = some i := by (repeat' split at hd) <;> simp at hd <;> exact hd.2.symm
      simp only [nth_eq, hs i key] at hd ⊢; exact hd
    · simp at hd
  | _ => exact hd

/-- An operation that lays a block reads none. -/
theorem dop_new_h {o : COp} {b : Blk} {f : Nat → AVal} {rd : Option Nat} (hd : dop P t h o = some (.new b f, rd)) (h' : Heap) : dop P t h' o = some (.new b f, rd) := by
  rcases dop_new_co hd with rfl | ⟨z, rfl⟩ | ⟨x, rfl⟩ | ⟨s, n, z, ps, rfl⟩ | ⟨s, z, l, c, rfl⟩ <;> exact hd

/-- Where nothing quiet is done, but something is, the operation is loud; and of a loud one nothing quiet is done. -/
theorem loud_co {o : COp} {r : AVal × Heap} (hl : loud T ex t h o = some r) : isLoud o = true := by
  cases o <;> first
    | rfl
    | (simp [loud, lop, callA, calleeA] at hl)

theorem dop_loud {o : COp} (hl : isLoud o = true) : dop P t h o = none := by
  cases o <;> first
    | rfl
    | (simp [isLoud] at hl)

/-- What is read is there. -/
theorem dop_alive {o : COp} {v : AVal} {r : Nat} (hd : dop P t h o = some (.val v, some r)) : ∃ b, h[r]? = some (some b) := by
  have row : ∀ i p, rowAt h i = some p → ∃ b, h[i]? = some (some b) := fun i p hp => ⟨_, rowAt_some (e := p.1) (rs := p.2) hp⟩
  have pt : ∀ p r o i, pointee h p = some (r, o, some i) → ∃ b, h[i]? = some (some b) := fun p r o i hp => by
    unfold pointee at hp
    split at hp
    · rename_i j k o'
      (repeat' split at hp) <;> simp at hp
      rename_i q h1 _ _ _
      obtain ⟨_, _, rfl⟩ := hp
      exact row _ _ h1
    · simp at hp
    · simp at hp
  have nov : ∀ (x : Option AVal) (e : Eff), Out.v x ≠ some (e, some r) := fun x e => by cases x <;> simp [Out.v]
  cases o <;> simp only [dop] at hd <;> (repeat' split at hd) <;> first
    | (exact absurd hd (nov _ _))
    | (simp at hd; done)
    | (simp [fRow_eq, fRows_eq, fN_eq] at hd; done)
    | (simp at hd; obtain ⟨_, rfl⟩ := hd; exact pt _ _ _ _ ‹_›)
    | (simp at hd; obtain ⟨_, rfl⟩ := hd; exact row _ _ ‹_›)
    | (simp at hd; obtain ⟨_, rfl⟩ := hd; exact ⟨_, by rw [← nth_eq]; assumption⟩)

end
end Go.Abs

namespace Go.Abs
open Go

/-! ### Masks -/

theorem maskH_length : ∀ (ms : List Nat) (h : Heap), (maskH h ms).length = h.length
  | [], _ => rfl
  | i :: ms, h => by show (maskH (h.set i none) ms).length = _; rw [maskH_length ms]; simp

theorem maskH_get : ∀ (ms : List Nat) (h : Heap) (k : Nat), (maskH h ms)[k]? = if k ∈ ms ∧ k < h.length then some none else h[k]?
  | [], _, _ => by simp [maskH]
  | i :: ms, h, k => by
    show (maskH (h.set i none) ms)[k]? = _
    rw [maskH_get ms]
    simp only [List.length_set, List.mem_cons]
    by_cases h1 : k ∈ ms ∧ k < h.length
    · rw [if_pos h1, if_pos ⟨.inr h1.1, h1.2⟩]
    · rw [if_neg h1]
      by_cases e : i = k
      · subst e
        by_cases hl : i < h.length
        · rw [List.getElem?_set_self hl, if_pos ⟨.inl rfl, hl⟩]
        · rw [if_neg (by omega), List.getElem?_eq_none (by simp; omega), List.getElem?_eq_none (by omega)]
      · rw [List.getElem?_set_ne e, if_neg]
        rintro ⟨h2 | h2, h3⟩
        · exact e h2.symm
        · exact h1 ⟨h2, h3⟩

theorem unmaskH_length (h0 : Heap) : ∀ (ms : List Nat) (h : Heap), (unmaskH h0 h ms).length = h.length
  | [], _ => rfl
  | i :: ms, h => by show (unmaskH h0 (h.set i _) ms).length = _; rw [unmaskH_length h0 ms]; simp

theorem unmaskH_get (h0 : Heap) : ∀ (ms : List Nat) (h : Heap) (k : Nat), (unmaskH h0 h ms)[k]? = if k ∈ ms ∧ k < h.length then some (h0[k]?.getD none) else h[k]?
  | [], _, _ => by simp [unmaskH]
  | i :: ms, h, k => by
    show (unmaskH h0 (h.set i (h0[i]?.getD none)) ms)[k]? = _
    rw [unmaskH_get h0 ms]
    simp only [List.length_set, List.mem_cons]
    by_cases h1 : k ∈ ms ∧ k < h.length
    · rw [if_pos h1, if_pos ⟨.inr h1.1, h1.2⟩]
    · rw [if_neg h1]
      by_cases e : i = k
      · subst e
        by_cases hl : i < h.length
        · rw [List.getElem?_set_self hl, if_pos ⟨.inl rfl, hl⟩]
        · rw [if_neg (by omega), List.getElem?_eq_none (by simp; omega), List.getElem?_eq_none (by omega)]
      · rw [List.getElem?_set_ne e, if_neg]
        rintro ⟨h2 | h2, h3⟩
        · exact e h2.symm
        · exact h1 ⟨h2, h3⟩

theorem mask_set {ms : List Nat} {h : Heap} {i : Nat} (b : Option Blk) (hi : i ∈ ms) : maskH (h.set i b) ms = maskH h ms := by
  apply List.ext_getElem?
  intro k
  rw [maskH_get, maskH_get, List.length_set]
  by_cases e : i = k
  · subst e
    by_cases hl : i < h.length
    · rw [if_pos ⟨hi, hl⟩, if_pos ⟨hi, hl⟩]
    · rw [if_neg (by omega), if_neg (by omega), List.getElem?_eq_none (by simp; omega), List.getElem?_eq_none (by omega)]
  · rw [List.getElem?_set_ne e]

theorem unmask_set {ms : List Nat} {h h' : Heap} {i : Nat} (b : Option Blk) (hi : i ∈ ms) (hl : i < h.length) : unmaskH (h.set i b) h' ms = (unmaskH h h' ms).set i b := by
  apply List.ext_getElem?
  intro k
  rw [unmaskH_get]
  by_cases e : i = k
  · subst e
    by_cases hl' : i < h'.length
    · rw [if_pos ⟨hi, hl'⟩, List.getElem?_set_self hl, List.getElem?_set_self (by rw [unmaskH_length]; exact hl')]; rfl
    · rw [if_neg (by omega), List.getElem?_eq_none (by omega), List.getElem?_eq_none (by simp [unmaskH_length]; omega)]
  · rw [List.getElem?_set_ne e, List.getElem?_set_ne e, unmaskH_get]

theorem allB_eq {α : Type} {f : α → α → Bool} (hf : ∀ x y, f x y = true → x = y) : ∀ {xs ys : List α}, allB f xs ys = true → xs = ys
  | [], [], _ => rfl
  | x :: xs, y :: ys, h => by
    simp only [allB, Bool.and_eq_true] at h
    rw [hf x y h.1, allB_eq hf h.2]
  | [], _ :: _, h => by simp [allB] at h
  | _ :: _, [], h => by simp [allB] at h

theorem eqA_eq : ∀ (n : Nat) (a b : AVal), eqA n a b = true → a = b
  | 0, _, _, h => by simp [eqA] at h
  | n + 1, a, b, h => by
    have l : ∀ {xs ys : List AVal}, allB (eqA n) xs ys = true → xs = ys := allB_eq (eqA_eq n)
    have ll : ∀ {xs ys : List (List AVal)}, allB (allB (eqA n)) xs ys = true → xs = ys := allB_eq fun _ _ => l
    cases a <;> cases b <;> simp only [eqA, Bool.and_eq_true, beq_iff_eq] at h <;> first
      | rfl
      | (simp at h; done)
      | (simp only [h]; done)
      | (rw [l h]; done)
      | (rw [l h.1, h.2]; done)
      | (rw [ll h.1, h.2]; done)
      | (obtain ⟨⟨h1, h2⟩, h3⟩ := h; rw [h1, l h2, l h3]; done)
      | (obtain ⟨⟨h1, h2⟩, h3⟩ := h; rw [h1, h2, h3]; done)
      | (obtain ⟨⟨⟨h1, h2⟩, h3⟩, h4⟩ := h; rw [h1, h2, h3, h4]; done)

theorem eqB_eq {x y : Option Blk} (h : eqB x y = true) : x = y := by
  unfold eqB at h
  split at h
  · rfl
  · simp only [Bool.and_eq_true, beq_iff_eq] at h
    rw [h.1, allB_eq (fun _ _ => allB_eq (eqA_eq 12)) h.2]
  · simp only [Bool.and_eq_true, beq_iff_eq] at h
    rw [h.1, allB_eq (fun x y hxy => ?_) h.2]
    simp only [Bool.and_eq_true, beq_iff_eq] at hxy
    obtain ⟨a, b, c⟩ := x
    obtain ⟨a', b', c'⟩ := y
    obtain ⟨⟨h1, h2⟩, h3⟩ := hxy
    simp only at h1 h2 h3
    rw [eqA_eq 12 a a' h1, eqA_eq 12 b b' h2, h3]
  · simp at h

theorem news_spec : ∀ (ys : Heap) (s k : Nat), s + k ∉ news s ys → ys[k]? = none
  | [], _, _, _ => by simp
  | y :: ys, s, 0, h => by simp [news] at h
  | y :: ys, s, k + 1, h => by
    simp only [news] at h
    have : s + 1 + k ∉ news (s + 1) ys := by
      rw [show s + 1 + k = s + (k + 1) by omega]; exact fun h1 => h (List.mem_cons_of_mem _ h1)
    simpa using news_spec ys (s + 1) k this

theorem diffs_spec : ∀ (xs ys : Heap) (s k : Nat), s + k ∉ diffs s xs ys → ys[k]? = xs[k]?
  | x :: xs, y :: ys, s, 0, h => by
    simp only [diffs] at h
    split at h
    · rename_i he; simp [eqB_eq he]
    · simp at h
  | x :: xs, y :: ys, s, k + 1, h => by
    simp only [diffs] at h
    have : s + 1 + k ∉ diffs (s + 1) xs ys := by
      split at h
      · rw [show s + 1 + k = s + (k + 1) by omega]; exact h
      · rw [show s + 1 + k = s + (k + 1) by omega]; exact fun h1 => h (List.mem_cons_of_mem _ h1)
    simp only [List.getElem?_cons_succ]
    exact diffs_spec xs ys (s + 1) k this
  | x :: xs, [], s, 0, h => by simp [diffs] at h
  | x :: xs, [], s, k + 1, h => by
    simp only [diffs] at h
    have : s + 1 + k ∉ diffs (s + 1) xs [] := by
      rw [show s + 1 + k = s + (k + 1) by omega]; exact fun h1 => h (List.mem_cons_of_mem _ h1)
    have := diffs_spec xs [] (s + 1) k this
    simpa using this
  | [], ys, s, k, h => by
    simp only [diffs] at h
    rw [news_spec ys s k h]; simp

/-! ### What one operation does -/

theorem disj_mem {a b : List Nat} (h : disj a b = true) : ∀ x ∈ a, x ∉ b := by
  intro x hx hb
  simp only [disj, List.all_eq_true, Bool.not_eq_true', List.contains_eq_mem, decide_eq_false_iff_not] at h
  exact h x hx hb

section
variable {P : Program} {T : Nat → Option CFn} {ex : Option Nat → CC → St → Option (AEx × St)} {t t' : List AVal} {h h' h1 : Heap} {base n j : Nat} {o : CO} {v : AVal} {rd wr : List Nat}

/-- The temporaries are the same to an operation. -/
def Same (o : CO) (t t' : List AVal) : Prop := ∀ s ∈ slotsC o, t'[s]? = t[s]?

theorem Same.op (hs : Same o t t') : ∀ s ∈ slotsO o.op, t'[s]? = t[s]? := fun s h => hs s (List.mem_append_left _ h)
theorem Same.g (hs : Same o t t') : ∀ d b, o.g = some (d, b) → t'[d]? = t[d]? := fun d b h => hs d (List.mem_append_right _ (by simp [h]))

theorem wrote_t {hm : Heap} (hs : ∀ s ∈ slotsO o.op, t'[s]? = t[s]?) : wrote T t' o.op hm h' = wrote T t o.op hm h' := by
  generalize o.op = op at hs
  cases op with
  | st n p v => simp only [wrote]; rw [ev_c (x := p) fun s h => hs s (by simp [slotsO, h])]
  | call f as =>
    simp only [wrote, calleeA]
    rw [ev_c (x := f) fun s h => hs s (by simp only [slotsO]; exact List.mem_append_left _ h), evAll_c (l := as) fun s h => hs s (by simp only [slotsO]; exact List.mem_append_right _ h)]
  | _ => rfl

theorem wrote_spec {hm : Heap} {op : COp} (hl : loud T ex t hm op = some (v, h')) {r : Nat} (hr : r ∉ wrote T t op hm h') : h'[r]? = hm[r]? := by
  have hd : r ∉ diffs 0 hm h' → h'[r]? = hm[r]? := fun h => diffs_spec hm h' 0 r (by simpa using h)
  cases op with
  | st n p v =>
    simp only [wrote] at hr
    split at hr
    · rename_i i k o hp
      unfold loud at hl
      simp only [lop] at hl
      split at hl
      · rename_i q hq
        split at hq
        · rename_i p1 v1 hp1 hv1
          rw [hp] at hp1
          simp at hp1
          subst hp1
          split at hq
          · rename_i h2 hst
            simp at hq
            subst hq
            simp at hl
            obtain ⟨_, rfl⟩ := hl
            simp only [stA] at hst
            (repeat' split at hst) <;> first
              | (simp at hst; done)
              | (simp [fRow_eq, setK_eq] at hst; subst hst; exact List.getElem?_set_ne fun e => hr (by simp [e]))
          · simp at hq
        · simp at hq
      · simp [callA, calleeA] at hl
    · exact hd hr
  | call f as =>
    simp only [wrote] at hr
    split at hr
    · rename_i g args hc
      split at hr
      · rename_i cf hcf
        split at hr
        · rename_i u hu
          have hlo : lop t hm (.call f as) = none := rfl
          simp only [loud, hlo, callA, hc] at hl
          unfold callF at hl
          simp only [hcf, hu, fA_eq] at hl
          simp at hl
          rw [hl.2]
        · exact hd hr
      · exact hd hr
    · exact hd hr
  | _ => exact hd hr

/-- It changes nothing. -/
def ActA (P : Program) (T : Nat → Option CFn) (ex : Option Nat → CC → St → Option (AEx × St)) (base n j : Nat) (o : CO) (t : List AVal) (h : Heap) (v : AVal) (rd wr : List Nat) (h1 : Heap) : Prop :=
  h1 = h ∧ wr = [] ∧ (∀ r ∈ rd, ∃ b, h[r]? = some (some b)) ∧ ∀ t' h', Same o t t' → (∀ r ∈ rd, h'[r]? = h[r]?) → actD P T ex base n j o t' h' = some (v, rd, [], h')

/-- It lays a block in its hole. -/
def ActB (P : Program) (T : Nat → Option CFn) (ex : Option Nat → CC → St → Option (AEx × St)) (base n j : Nat) (o : CO) (t : List AVal) (h : Heap) (v : AVal) (rd wr : List Nat) (h1 : Heap) : Prop :=
  ∃ b, h1 = h.set (base + j) (some b) ∧ rd = [] ∧ wr = [base + j] ∧ ∀ t' h', Same o t t' → actD P T ex base n j o t' h' = some (v, [], [base + j], h'.set (base + j) (some b))

/-- It is loud. -/
def ActC (P : Program) (T : Nat → Option CFn) (ex : Option Nat → CC → St → Option (AEx × St)) (base n j : Nat) (o : CO) (t : List AVal) (h : Heap) (v : AVal) (rd wr : List Nat) (h1 : Heap) : Prop :=
  isLoud o.op = true ∧ rd = [] ∧ ∃ h', h1 = unmaskH h h' (masks base n j o) ∧ h.length ≤ h'.length ∧ (∀ r, r ∉ wr → h'[r]? = (maskH h (masks base n j o))[r]?) ∧
    ∀ t' g, Same o t t' → maskH g (masks base n j o) = maskH h (masks base n j o) → actD P T ex base n j o t' g = some (v, [], wr, unmaskH g h' (masks base n j o))

theorem actD_inv (ha : actD P T ex base n j o t h = some (v, rd, wr, h1)) : ActA P T ex base n j o t h v rd wr h1 ∨ ActB P T ex base n j o t h v rd wr h1 ∨ ActC P T ex base n j o t h v rd wr h1 := by
  unfold actD at ha
  split at ha
  · simp at ha
  · rename_i hw
    simp at ha
    obtain ⟨rfl, rfl, rfl, rfl⟩ := ha
    refine .inl ⟨rfl, rfl, by simp, fun t' h' hs _ => ?_⟩
    unfold actD
    rw [wanted_t hs.g, hw]
  · rename_i hw
    split at ha
    · rename_i v' rd' hd
      simp at ha
      obtain ⟨rfl, rfl, rfl, rfl⟩ := ha
      refine .inl ⟨rfl, rfl, fun r hr => ?_, fun t' h' hs hr => ?_⟩
      · cases rd' with
        | none => simp at hr
        | some r' => simp at hr; subst hr; exact dop_alive hd
      · unfold actD
        have e : dop P t' h' o.op = some (.val v', rd') := dop_h (h := h) (by rw [dop_t hs.op]; exact hd) fun r he => hr r (by simp [he])
        rw [wanted_t hs.g, hw]
        simp only [e]
    · rename_i b f rd' hd
      simp at ha
      obtain ⟨rfl, rfl, rfl, rfl⟩ := ha
      refine .inr (.inl ⟨b, rfl, rfl, rfl, fun t' h' hs => ?_⟩)
      unfold actD
      have e : dop P t' h' o.op = some (.new b f, rd') := dop_new_h (h := h) (by rw [dop_t hs.op]; exact hd) h'
      rw [wanted_t hs.g, hw]
      simp only [e]
    · split at ha
      · rename_i v' h' hl
        split at ha
        · rename_i hlen
          simp at ha
          obtain ⟨rfl, rfl, rfl, rfl⟩ := ha
          refine .inr (.inr ⟨loud_co hl, rfl, h', rfl, hlen, fun r hr => wrote_spec hl hr, fun t' g hs hm => ?_⟩)
          unfold actD
          have hgl : g.length = h.length := by rw [← maskH_length (masks base n j o) g, hm, maskH_length]
          rw [wanted_t hs.g, hw]
          simp only [dop_loud (loud_co hl), loud_t hs.op, wrote_t hs.op, hm, hl, hgl, hlen, if_true]
        · simp at ha
      · simp at ha

end
end Go.Abs

namespace Go.Abs
open Go

section
variable {P : Program} {T : Nat → Option CFn} {ex : Option Nat → CC → St → Option (AEx × St)} {t t' : List AVal} {h h' h1 : Heap} {base n i j : Nat} {o oi oj : CO} {v : AVal} {rd wr : List Nat} {D D1 D2 : DSt}

theorem stepD_eq (base n j : Nat) (o : CO) (D : DSt) : stepD P T ex base n j o D = match actD P T ex base n j o D.t D.h with
    | some (v, rd, wr, h) => if clash D.lg o.un rd wr then some ⟨putT D.t o.dst v, h, D.lg.set j (some (rd, wr))⟩ else none
    | none => none := by
  unfold stepD
  rw [actK_eq]
  cases actD P T ex base n j o D.t D.h with
  | none => rfl
  | some r => simp only [putK_eq, setK_eq]

theorem stepD_inv (hs : stepD P T ex base n j o D = some D1) : ∃ v rd wr h, actD P T ex base n j o D.t D.h = some (v, rd, wr, h) ∧ clash D.lg o.un rd wr = true ∧ D1 = ⟨putT D.t o.dst v, h, D.lg.set j (some (rd, wr))⟩ := by
  rw [stepD_eq] at hs
  split at hs
  · rename_i v rd wr h ha
    split at hs
    · rename_i hc
      simp at hs
      exact ⟨v, rd, wr, h, ha, hc, hs.symm⟩
    · simp at hs
  · simp at hs

theorem clash_drop {lg : List (Option (List Nat × List Nat))} {un : List Nat} {e : Option (List Nat × List Nat)} (hl : lg[i]? = some none) (hc : clash (lg.set i e) un rd wr = true) : clash lg un rd wr = true := by
  simp only [clash, List.all_eq_true, nth_eq] at *
  intro k hk
  by_cases he : i = k
  · subst he; rw [hl]
  · have := hc k hk
    rw [List.getElem?_set_ne he] at this
    exact this

theorem clash_other {lg : List (Option (List Nat × List Nat))} {un : List Nat} {e : Option (List Nat × List Nat)} (hj : j ∉ un) (hc : clash lg un rd wr = true) : clash (lg.set j e) un rd wr = true := by
  simp only [clash, List.all_eq_true, nth_eq] at *
  intro k hk
  rw [List.getElem?_set_ne (fun e : j = k => hj (e ▸ hk))]
  exact hc k hk

theorem clash_spec {lg : List (Option (List Nat × List Nat))} {un r w : List Nat} (hi : i ∈ un) (hl : lg[i]? = some (some (r, w))) (hc : clash lg un rd wr = true) : (∀ x ∈ wr, x ∉ r) ∧ (∀ x ∈ wr, x ∉ w) ∧ ∀ x ∈ rd, x ∉ w := by
  simp only [clash, List.all_eq_true, nth_eq] at hc
  have := hc i hi
  rw [hl] at this
  simp only [Bool.and_eq_true] at this
  exact ⟨disj_mem this.1.1, disj_mem this.1.2, disj_mem this.2⟩

theorem apart_spec {a b : CO} (hp : apartC a b = true) : (∀ d, a.dst = some d → d ∉ slotsC b ∧ b.dst ≠ some d) ∧ (∀ d, b.dst = some d → d ∉ slotsC a) ∧ (isLoud a.op = true → isLoud b.op = true → False) := by
  unfold apartC at hp
  simp only [Bool.and_eq_true, Bool.not_eq_true'] at hp
  obtain ⟨⟨h1, h2⟩, h3⟩ := hp
  refine ⟨fun d hd => ?_, fun d hd => ?_, fun ha hb => by simp [ha, hb] at h3⟩
  · rw [hd] at h1
    simpa using h1
  · rw [hd] at h2
    simpa using h2

theorem same_put {dst : Option Nat} (hd : ∀ d, dst = some d → d ∉ slotsC o) (v : AVal) : Same o t (putT t dst v) := by
  intro s hs
  cases dst with
  | none => rfl
  | some d => exact List.getElem?_set_ne fun (e : d = s) => hd d rfl (by rw [e]; exact hs)

theorem same_put' {dst : Option Nat} (hd : ∀ d, dst = some d → d ∉ slotsC o) (v : AVal) : Same o (putT t dst v) t := fun s hs => (same_put hd v s hs).symm

theorem putT_comm {d e : Option Nat} (hne : ∀ x, d = some x → e ≠ some x) (u v : AVal) : putT (putT t d u) e v = putT (putT t e v) d u := by
  cases d with
  | none => rfl
  | some x =>
    cases e with
    | none => rfl
    | some y => exact List.set_comm _ _ fun h => hne x rfl (by rw [h])

theorem mem_masks {k : Nat} : base + k ∈ masks base n j o ↔ k ∈ o.un ∨ (j ≤ k ∧ k < n) := by
  simp only [masks, holes, List.mem_map, List.mem_append, List.mem_range'_1]
  constructor
  · rintro ⟨a, h, e⟩
    have : a = k := by omega
    subst this
    rcases h with h | h
    · exact .inl h
    · exact .inr ⟨h.1, by omega⟩
  · rintro (h | h)
    · exact ⟨k, .inl h, rfl⟩
    · exact ⟨k, .inr ⟨h.1, by omega⟩, rfl⟩

/-- What a loud operation has not changed stands as it was. -/
theorem keep_loud {ms wr : List Nat} {r : Nat} (hlen : h.length ≤ h'.length) (hw : ∀ r, r ∉ wr → h'[r]? = (maskH h ms)[r]?) (hd : r ∉ wr) : (unmaskH h h' ms)[r]? = h[r]? := by
  have e := hw r hd
  rw [unmaskH_get]
  split
  · rename_i hm
    have hr : r < h.length := by
      have := List.getElem?_eq_getElem hm.2
      rw [e] at this
      have := (List.getElem?_eq_some_iff.1 this).1
      rwa [maskH_length] at this
    rw [List.getElem?_eq_getElem hr]; rfl
  · rename_i hm
    rw [e, maskH_get, if_neg]
    rintro ⟨h1, _⟩
    exact hm ⟨h1, by omega⟩

theorem swap (hij : i < j) (hjn : j < n) (hun : i ∈ oj.un) (hnu : j ∉ oi.un) (hap : apartC oi oj = true) (hn : base + n ≤ D.h.length) (hi : D.h[base + i]? = some none) (hj : D.h[base + j]? = some none) (hlg : D.lg[i]? = some none)
    (h1 : stepD P T ex base n i oi D = some D1) (h2 : stepD P T ex base n j oj D1 = some D2) : ∃ D1', stepD P T ex base n j oj D = some D1' ∧ stepD P T ex base n i oi D1' = some D2 := by
  obtain ⟨vi, ri, wi, hi1, ai, ci, rfl⟩ := stepD_inv h1
  obtain ⟨vj, rj, wj, hj1, aj, cj, rfl⟩ := stepD_inv h2
  simp only at aj cj
  obtain ⟨p1, p2, p3⟩ := apart_spec hap
  have il : i < D.lg.length := (List.getElem?_eq_some_iff.1 hlg).1
  obtain ⟨q1, q2, q3⟩ := clash_spec hun (by rw [List.getElem?_set_self il]) cj
  have cj' := clash_drop hlg cj
  have sj : Same oj (putT D.t oi.dst vi) D.t := same_put' (fun d hd => (p1 d hd).1) _
  have si : Same oi D.t (putT D.t oj.dst vj) := same_put p2 _
  have mi : base + j ∈ masks base n i oi := mem_masks.2 (.inr ⟨Nat.le_of_lt hij, hjn⟩)
  have mj : base + i ∈ masks base n j oj := mem_masks.2 (.inl hun)
  have fin : ∀ hj', actD P T ex base n j oj D.t D.h = some (vj, rj, wj, hj') → actD P T ex base n i oi (putT D.t oj.dst vj) hj' = some (vi, ri, wi, hj1) →
      ∃ D1', stepD P T ex base n j oj D = some D1' ∧ stepD P T ex base n i oi D1' = some ⟨putT (putT D.t oi.dst vi) oj.dst vj, hj1, (D.lg.set i (some (ri, wi))).set j (some (rj, wj))⟩ := by
    intro hj' e1 e2
    refine ⟨⟨putT D.t oj.dst vj, hj', D.lg.set j (some (rj, wj))⟩, ?_, ?_⟩
    · rw [stepD_eq]; simp only [e1, cj', if_true]
    · rw [stepD_eq]
      simp only [e2, clash_other hnu ci, if_true]
      rw [putT_comm (fun d hd => (p1 d hd).2), List.set_comm _ _ (Nat.ne_of_lt hij)]
  rcases actD_inv ai with ⟨rfl, rfl, al, fi⟩ | ⟨b, rfl, rfl, rfl, fi⟩ | ⟨li, rfl, g, rfl, hlen, hwr, fi⟩
  · rcases actD_inv aj with ⟨rfl, rfl, al', fj⟩ | ⟨b, rfl, rfl, rfl, fj⟩ | ⟨lj, rfl, g, rfl, hlen, hwr, fj⟩
    · exact fin _ (fj _ _ sj fun _ _ => rfl) (fi _ _ si fun _ _ => rfl)
    · refine fin _ (fj _ _ sj) (fi _ _ si fun r hr => List.getElem?_set_ne fun e => ?_)
      obtain ⟨c, hc⟩ := al r hr
      rw [← e, hj] at hc; simp at hc
    · refine fin _ (fj _ _ sj rfl) (fi _ _ si fun r hr => keep_loud hlen hwr fun hd => q1 r hd hr)
  · rcases actD_inv aj with ⟨rfl, rfl, al', fj⟩ | ⟨c, rfl, rfl, rfl, fj⟩ | ⟨lj, rfl, g, rfl, hlen, hwr, fj⟩
    · exact fin _ (fj _ D.h sj fun r hr => (List.getElem?_set_ne fun e => q3 r hr (by simp [e])).symm) (fi _ _ si)
    · have e := fi _ (D.h.set (base + j) (some c)) si
      rw [List.set_comm _ _ (by omega)] at e
      exact fin _ (fj _ _ sj) e
    · have e := fi _ (unmaskH D.h g (masks base n j oj)) si
      rw [← unmask_set (some b) mj (by omega)] at e
      exact fin _ (fj _ _ sj (mask_set _ mj).symm) e
  · rcases actD_inv aj with ⟨rfl, rfl, al', fj⟩ | ⟨c, rfl, rfl, rfl, fj⟩ | ⟨lj, rfl, g, rfl, hlen, hwr, fj⟩
    · exact fin _ (fj _ D.h sj fun r hr => (keep_loud hlen hwr (q3 r hr)).symm) (fi _ _ si rfl)
    · have := fi _ (D.h.set (base + j) (some c)) si (mask_set _ mi)
      rw [unmask_set (some c) mi (by omega)] at this
      exact fin _ (fj _ _ sj) this
    · exact (p3 li lj).elim

end
end Go.Abs

namespace Go.Abs
open Go

section
variable {P : Program} {G : Nat → Option (List AVal)} {T : Nat → Option CFn} {ex : Option Nat → CC → St → Option (AEx × St)} {E E' E'' : Env} {h h' h'' h1 : Heap} {w w' w'' : World} {t t' : List AVal} {a : Act} {o : Oper} {co : COp} {v : AVal} {base n i j : Nat} {rd wr ms : List Nat}

/-- The blocks that are masked are not the run's. -/
def Env.less (E : Env) (h : Heap) (ms : List Nat) : Env := { E with O := fun b => E.O b ∧ ∀ k ∈ ms, ∀ c, h[k]? = some (some c) → (E.ρ k).b ≠ b }

theorem less_br {i : Nat} {b : Blk} (hb : E.BR P G w i b) : (E.less h ms).BR P G w i b := by
  cases b <;> exact hb
theorem less_br' {i : Nat} {b : Blk} {O : Nat → Prop} (hb : E.BR P G w i b) : Env.BR P G { E with O := O } w i b := by
  cases b <;> exact hb

theorem hr_less (hr : E.HR P G h w) : (E.less h ms).HR P G (maskH h ms) w := by
  have get : ∀ {i b}, (maskH h ms)[i]? = some (some b) → h[i]? = some (some b) ∧ i ∉ ms := fun {i b} hi => by
    rw [maskH_get] at hi
    split at hi
    · simp at hi
    · rename_i hn
      exact ⟨hi, fun hm => hn ⟨hm, (List.getElem?_eq_some_iff.1 hi).1⟩⟩
  refine ⟨fun i b hi => ?_, fun i j b c hi hj he => hr.inj i j b c (get hi).1 (get hj).1 he, fun i hi => by rw [maskH_length]; exact hr.lt i hi, fun b hb => hr.own b hb.1, fun b hb => ⟨(hr.imm b hb).1, fun h1 => (hr.imm b hb).2 h1.1⟩, hr.glob⟩
  obtain ⟨x, hx⟩ := get hi
  obtain ⟨h1, h2, h3, h4⟩ := hr.blk i b x
  exact ⟨h1, ⟨h2, fun k hk c hc he => hx (hr.inj k i c b hc x he ▸ hk)⟩, h3, less_br h4⟩

/-- What was masked comes back. -/
theorem hr_back (hr : E.HR P G h w) (hl : Le (E.less h ms) w E' w') (hr' : E'.HR P G h' w') : ∃ O'', Le E w { E' with O := O'' } w' ∧ Env.HR P G { E' with O := O'' } (unmaskH h h' ms) w' := by
  have hr0 := hr_less (ms := ms) hr
  have msk : ∀ k c, k ∈ ms → h[k]? = some (some c) → w'.heap[(E.ρ k).b]? = w.heap[(E.ρ k).b]? ∧ ¬ E'.O (E.ρ k).b ∧ ¬ E'.I (E.ρ k).b ∧ E'.D k ∧ E'.ρ k = E.ρ k := fun k c hk hc => by
    obtain ⟨h1, h2, h3, h4⟩ := hr.blk k c hc
    obtain ⟨x, y, z⟩ := hl.old _ h3 (fun ho => ho.2 k hk c hc rfl)
    exact ⟨x, y, fun hi => (hr.imm _ (z hi)).2 h2, (hl.D k h1).1, (hl.D k h1).2⟩
  have get : ∀ {k c}, (unmaskH h h' ms)[k]? = some (some c) → (k ∈ ms ∧ h[k]? = some (some c)) ∨ (k ∉ ms ∧ h'[k]? = some (some c)) := fun {k c} hk => by
    rw [unmaskH_get] at hk
    split at hk
    · rename_i hm
      simp at hk
      refine .inl ⟨hm.1, ?_⟩
      cases hh : h[k]? with
      | none => simp [hh] at hk
      | some x => simp [hh] at hk; rw [hk]
    · rename_i hn
      exact .inr ⟨fun hm => hn ⟨hm, (List.getElem?_eq_some_iff.1 hk).1⟩, hk⟩
  refine ⟨fun b => E'.O b ∨ ∃ k ∈ ms, ∃ c, h[k]? = some (some c) ∧ (E.ρ k).b = b, ⟨hl.os, hl.tape, hl.output, hl.size, hl.D, hl.I, fun b hb ho => ?_⟩, ⟨fun k c hk => ?_, fun j k b c hj hk he => ?_, fun k hk => by rw [unmaskH_length]; exact hr'.lt k hk, fun b hb => ?_, fun b hb => ⟨(hr'.imm b hb).1, ?_⟩, hr'.glob⟩⟩
  · obtain ⟨x, y, z⟩ := hl.old b hb (fun h1 => ho h1.1)
    refine ⟨x, ?_, z⟩
    rintro (h1 | ⟨k, hk, c, hc, rfl⟩)
    · exact y h1
    · exact ho (hr.blk k c hc).2.1
  · rcases get hk with ⟨hm, hk⟩ | ⟨hm, hk⟩
    · obtain ⟨x1, x2, x3, x4, x5⟩ := msk k c hm hk
      obtain ⟨h1, h2, h3, h4⟩ := hr.blk k c hk
      refine ⟨x4, .inr ⟨k, hm, c, hk, ?_⟩, ?_, less_br' (br_mono h4 x5 (x5 ▸ x1) fun _ _ hv => hl.vr hr0 hv)⟩
      · simp only; rw [x5]
      · simp only; rw [x5]; exact Nat.lt_of_lt_of_le h3 hl.size
    · obtain ⟨h1, h2, h3, h4⟩ := hr'.blk k c hk
      exact ⟨h1, .inl h2, h3, less_br' h4⟩
  · simp only at he
    rcases get hj with ⟨hjm, hj⟩ | ⟨hjm, hj⟩ <;> rcases get hk with ⟨hkm, hk⟩ | ⟨hkm, hk⟩
    · rw [(msk j b hjm hj).2.2.2.2, (msk k c hkm hk).2.2.2.2] at he
      exact hr.inj j k b c hj hk he
    · have := (msk j b hjm hj).2
      rw [this.2.2.2] at he
      exact absurd (he ▸ (hr'.blk k c hk).2.1) this.1
    · have := (msk k c hkm hk).2
      rw [this.2.2.2] at he
      exact absurd (he ▸ (hr'.blk j b hj).2.1) this.1
    · exact hr'.inj j k b c hj hk he
  · rcases hb with hb | ⟨k, hk, c, hc, rfl⟩
    · exact hr'.own b hb
    · exact Nat.lt_of_lt_of_le (hr.blk k c hc).2.2.1 hl.size
  · rintro (h1 | ⟨k, hk, c, hc, rfl⟩)
    · exact (hr'.imm b hb).2 h1
    · exact (msk k c hk hc).2.2.1 hb

/-- One operation of a drawn region. -/
theorem actD_wp (hT : TabOk P G T) (hcall : ∀ f args h v h', callF T ex f args h = some (v, h') → CallGood P G f args h v h') (hyld : ∀ i args h v h', yieldF ex i args h = some (v, h') → YieldGood P G i args h v h')
    (hr : E.HR P G h w) (ht : E.LR w t a.tmps) {c : CO} {ops : Array Oper} {un : List Nat} (hc : compCO P G ops un o = some c) (hD : ¬ E.D (base + j)) (hj : h[base + j]? = some none) (hs : actD P T ex base n j c t h = some (v, rd, wr, h1)) {ro : Option Nat} {m : Nat} {next : Act → World → Prop} {Q : Exit → Act → World → Prop}
    (hn : ∀ a' w' E', Le E w E' w' → E'.HR P G h1 w' → E'.LR w' (putT t c.dst v) a'.tmps → a'.defers = a.defers → (∀ k, E'.D k → E.D k ∨ k = base + j ∨ h.length ≤ k) → h.length ≤ h1.length → next a' w') :
    if Region.wanted o (yielded ops a.tmps) then o.wpIn (FW ro) m P a w next Q else (∀ f, o.about P w a.eval = some f → (FW ro).fn f) ∧ next (a.put o.dst undef) w := by
  obtain ⟨hco, hg, hdst, -⟩ := not_yields_defer hc
  rw [hdst] at hn
  unfold actD at hs
  split at hs
  · simp at hs
  · rename_i hw
    rw [wanted_eq ht hg hw]
    simp at hs
    obtain ⟨rfl, rfl, rfl, rfl⟩ := hs
    exact ⟨fun _ _ => trivial, hn _ _ E (.refl _ _) hr (lr_put' ht (.und _)) (put_defers _ _ _) (fun _ h => .inl h) (Nat.le_refl _)⟩
  · rename_i hw
    rw [wanted_eq ht hg hw]
    split at hs
    · rename_i v rd hd
      simp at hs
      obtain ⟨rfl, rfl, rfl, rfl⟩ := hs
      exact val_wp hr ht hco hd fun u hu => hn _ _ E (.refl _ _) hr (lr_put' ht hu) (put_defers _ _ _) (fun _ h => .inl h) (Nat.le_refl _)
    · rename_i b f rd hd
      simp at hs
      obtain ⟨rfl, rfl, rfl, rfl⟩ := hs
      have hl := (List.getElem?_eq_some_iff.1 hj).1
      exact makes_wp hr ht (dop_new hr ht hco hd) hco (h1 := h.set (base + j) (some b)) (x := base + j) hD (List.getElem?_set_self hl) (fun k hk => .inl (List.getElem?_set_ne fun e => hk e.symm)) (by simp) fun u w' E' hle hr' ht' hDD => hn _ _ E' hle hr' ht' (put_defers _ _ _) (fun k hk => (hDD k hk).imp id .inl) (by simp)
    · split at hs
      · rename_i v' h' hl
        split at hs
        · rename_i hlen
          simp at hs
          obtain ⟨rfl, rfl, rfl, rfl⟩ := hs
          have ht0 : (E.less h (masks base n j c)).LR w t a.tmps := ht
          refine loud_wp hT hcall hyld (hr_less hr) ht0 hco hl fun u w' E' hle hr' hu hf hlen' => ?_
          obtain ⟨O'', hle', hr''⟩ := hr_back hr hle hr'
          rw [maskH_length] at hf
          refine hn _ _ { E' with O := O'' } hle' hr'' ?_ (put_defers _ _ _) (fun k hk => (hf k hk).imp id .inr) (by rw [unmaskH_length]; exact hlen)
          exact lr_put' (hle'.lr hr ht) hu
        · simp at hs
      · simp at hs

end
end Go.Abs

namespace Go.Abs
open Go

section
variable (P : Program) (T : Nat → Option CFn) (ex : Option Nat → CC → St → Option (AEx × St))

noncomputable def runL (base n : Nat) (l : List CO) : List Nat → DSt → Option DSt
  | [], D => some D
  | j :: xs, D => match l[j]? with
    | some c => match stepD P T ex base n j c D with
      | some D' => runL base n l xs D'
      | none => none
    | none => none
end

section
variable {P : Program} {G : Nat → Option (List AVal)} {T : Nat → Option CFn} {ex : Option Nat → CC → St → Option (AEx × St)} {base n : Nat} {l : List CO} {D D' D1 : DSt}

theorem runL_runD : ∀ (l1 : List CO) (j : Nat) (D : DSt), (∀ k, l1[k]? = l[j + k]?) → runD P T ex base n l1 j D = runL P T ex base n l (List.range' j l1.length) D
  | [], _, _, _ => rfl
  | c :: l1, j, D, hl => by
    have h0 : l[j]? = some c := by have := hl 0; simp at this; exact this.symm
    have h1 := runL_runD l1 (j + 1)
    simp only [List.length_cons, List.range'_succ, runL, h0]
    show (match stepD P T ex base n j c D with | some D' => runD P T ex base n l1 (j + 1) D' | none => none) = _
    cases stepD P T ex base n j c D with
    | none => rfl
    | some D1 => exact h1 D1 fun k => by have := hl (k + 1); simp at this; rw [this]; congr 1; omega

/-- The holes of the operations that are still to come stand open. -/
structure Open (base n : Nat) (D : DSt) (xs : List Nat) : Prop where
  len : base + n ≤ D.h.length
  hole : ∀ k ∈ xs, k < n ∧ D.h[base + k]? = some none ∧ D.lg[k]? = some none

theorem step_keep {j : Nat} {c : CO} (hs : stepD P T ex base n j c D = some D1) {xs ys : List Nat} (ho : Open base n D ys) (hx : ∀ k ∈ xs, k ∈ ys ∧ k ≠ j ∧ (k ∈ c.un ∨ j ≤ k)) : Open base n D1 xs := by
  obtain ⟨v, rd, wr, h1, ha, hc, rfl⟩ := stepD_inv hs
  have lg : ∀ k, k ≠ j → D.lg[k]? = some none → (D.lg.set j (some (rd, wr)))[k]? = some none := fun k hk h => by rw [List.getElem?_set_ne fun e => hk e.symm]; exact h
  rcases actD_inv ha with ⟨rfl, -⟩ | ⟨b, rfl, -⟩ | ⟨-, -, g, rfl, hlen, -⟩
  · exact ⟨ho.len, fun k hk => let ⟨h1, h2, _⟩ := hx k hk; let ⟨a, b, d⟩ := ho.hole k h1; ⟨a, b, lg k h2 d⟩⟩
  · refine ⟨by simpa using ho.len, fun k hk => ?_⟩
    obtain ⟨h1, h2, _⟩ := hx k hk
    obtain ⟨a, b, d⟩ := ho.hole k h1
    exact ⟨a, by simp only; rw [List.getElem?_set_ne (by omega)]; exact b, lg k h2 d⟩
  · refine ⟨by simp only [unmaskH_length]; exact Nat.le_trans ho.len hlen, fun k hk => ?_⟩
    obtain ⟨h1, h2, h3⟩ := hx k hk
    obtain ⟨a, b, d⟩ := ho.hole k h1
    refine ⟨a, ?_, lg k h2 d⟩
    have := ho.len
    simp only
    rw [unmaskH_get, if_pos ⟨mem_masks.2 (h3.imp id fun h => ⟨h, a⟩), by omega⟩, b]; rfl

/-- The list's own checks. -/
structure Fit (l : List CO) : Prop where
  back : ∀ j c, l[j]? = some c → ∀ i ∈ c.un, i < j ∧ ∃ p, l[i]? = some p ∧ apartC p c = true

theorem fit_of (h : drawOk l = true) : Fit l := by
  refine ⟨fun j c hc i hi => ?_⟩
  simp only [drawOk, List.all_eq_true] at h
  have hm : (c, j) ∈ l.zipIdx := by rw [List.mem_zipIdx_iff_getElem?]; exact hc
  have := h (c, j) hm
  simp only [List.all_eq_true, Bool.and_eq_true, decide_eq_true_eq] at this
  obtain ⟨h1, h2⟩ := this i hi
  refine ⟨h1, ?_⟩
  split at h2
  · rename_i p hp; exact ⟨p, hp, h2⟩
  · simp at h2

/-- What is bound by nothing that is still to come may be done first. -/
theorem front (hf : Fit l) {i : Nat} {c : CO} (hc : l[i]? = some c) (post : List Nat) : ∀ (pre : List Nat) (D : DSt), (pre ++ i :: post).Pairwise (· < ·) → (∀ k ∈ pre, k ∈ c.un) → Open base n D (pre ++ i :: post) →
    runL P T ex base n l (pre ++ i :: post) D = some D' → ∃ D1, stepD P T ex base n i c D = some D1 ∧ runL P T ex base n l (pre ++ post) D1 = some D'
  | [], D, _, _, _, hr => by
    simp only [List.nil_append, runL, hc] at hr
    split at hr
    · rename_i D1 h1; exact ⟨D1, h1, hr⟩
    · simp at hr
  | p :: pre, D, hp, hu, ho, hr => by
    simp only [List.cons_append, runL] at hr
    split at hr
    · rename_i cp hcp
      split at hr
      · rename_i Dp hDp
        rw [List.cons_append, List.pairwise_cons] at hp
        have hpi : p < i := hp.1 i (by simp)
        have ho' : Open base n Dp (pre ++ i :: post) := step_keep hDp ho fun k hk => ⟨List.mem_cons_of_mem _ hk, by have := hp.1 k hk; omega, .inr (by have := hp.1 k hk; omega)⟩
        obtain ⟨Di, h1, h2⟩ := front hf hc post pre Dp hp.2 (fun k hk => hu k (List.mem_cons_of_mem _ hk)) ho' hr
        have hup := hu p (by simp)
        obtain ⟨hlt, q, hq, hap⟩ := hf.back i c hc p hup
        rw [hcp] at hq
        simp at hq; subst hq
        obtain ⟨g1, g2, g3⟩ := ho.hole p (by simp)
        obtain ⟨f1, f2, f3⟩ := ho.hole i (by simp)
        obtain ⟨D1, e1, e2⟩ := swap hpi f1 hup (fun hm => by have := (hf.back p cp hcp i hm).1; omega) hap ho.len g2 f2 g3 hDp h1
        refine ⟨D1, e1, ?_⟩
        simp only [List.cons_append, runL, hcp, e2, h2]
      · simp at hr
    · simp at hr

/-- What is checked of the edges. -/
structure Edges (ops : Array Oper) (l : List CO) : Prop where
  back : ∀ j o, ops[j]? = some o → ∀ e ∈ o.after, Region.binds .any e = true → e.on < j
  all : ∀ j o c k, ops[j]? = some o → l[j]? = some c → k < j → k ∉ c.un → ∃ e ∈ o.after, Region.binds .any e = true ∧ (e.on = k ∨ (k < e.on ∧ ∃ c', l[e.on]? = some c' ∧ k ∉ c'.un))

theorem edges_of {ops : Array Oper} (h : edgesOk ops l = true) : Edges ops l := by
  simp only [edgesOk, List.all_eq_true, Bool.and_eq_true] at h
  have mem : ∀ {j o}, ops[j]? = some o → (o, j) ∈ ops.toList.zipIdx := fun {j o} ho => by rw [List.mem_zipIdx_iff_getElem?]; simpa using ho
  refine ⟨fun j o ho e he hb => ?_, fun j o c k ho hc hk hu => ?_⟩
  · have := (h (o, j) (mem ho)).1
    rw [Array.all_eq_true_iff_forall_mem] at this
    have := this e he
    simpa [hb] using this
  · have := (h (o, j) (mem ho)).2 k (by simpa using hk)
    simp only [hc, Bool.or_eq_true, Array.any_eq_true', Bool.and_eq_true, decide_eq_true_eq] at this
    rcases this with h1 | ⟨e, he, hb, h1⟩
    · exact absurd (by simpa using h1) hu
    · refine ⟨e, he, hb, h1.imp id fun ⟨h2, h3⟩ => ⟨h2, ?_⟩⟩
      split at h3
      · rename_i c' hc'; exact ⟨c', hc', by simpa using h3⟩
      · simp at h3

theorem drw_spec {ops : Array Oper} {b : Array Nat} : ∀ (os : List Oper) (j : Nat) (l : List CO), compDrw P G ops b j os = some l → l.length = os.length ∧ ∀ (k : Nat) (o : Oper), os[k]? = some o → ∃ (c : CO) (un : List Nat), l[k]? = some c ∧ compCO P G ops un o = some c
  | [], _, l, h => by simp [compDrw] at h; subst h; simp
  | o :: os, j, l, h => by
    simp only [compDrw] at h
    split at h
    · rename_i c l' hc hl'
      simp at h; subst h
      obtain ⟨h1, h2⟩ := drw_spec os (j + 1) l' hl'
      refine ⟨by simp [h1], fun k o' hk => ?_⟩
      cases k with
      | zero => simp at hk; subst hk; exact ⟨c, _, by simp, hc⟩
      | succ k => simp at hk; obtain ⟨c', un, h3, h4⟩ := h2 k o' hk; exact ⟨c', un, by simpa using h3, h4⟩
    · simp at h

variable {E E' E'' : Env} {h h' : Heap} {w w' : World} {t t' : List AVal} {a : Act}

/-- Listed, and what is bound before it listed. -/
theorem listed_before {ops : Array Oper} (he : Edges ops l) (S : Nat → Prop) (hS : ∀ j o, S j → ops[j]? = some o → ∀ e ∈ o.after, Region.binds .any e = true → S e.on) :
    ∀ (m j : Nat), j < m → S j → j < ops.size → ∀ c k, l[j]? = some c → k < j → k ∉ c.un → S k := by
  intro m
  induction m with
  | zero => intro j hj; omega
  | succ m ih =>
    intro j hj hSj hjn c k hc hk hu
    have ho : ops[j]? = some ops[j] := Array.getElem?_eq_getElem hjn
    obtain ⟨e, he1, he2, he3⟩ := he.all j _ c k ho hc hk hu
    have hse := hS j _ hSj ho e he1 he2
    have hlt := he.back j _ ho e he1 he2
    rcases he3 with rfl | ⟨h1, c', hc', hu'⟩
    · exact hse
    · exact ih e.on (by omega) hse (by omega) c' k hc' h1 hu'

theorem mem_ready {ops : Array Oper} {listed : Array Bool} {i : Nat} : i ∈ Region.ready .any ops listed ↔ i < ops.size ∧ listed.getD i true = false ∧ ∃ o, ops[i]? = some o ∧ ∀ e ∈ o.after, Region.binds .any e = true → listed.getD e.on false = true := by
  simp only [Region.ready, List.mem_filter, List.mem_range, Bool.and_eq_true, Bool.not_eq_true']
  refine ⟨fun ⟨h1, h2, h3⟩ => ⟨h1, h2, ops[i], Array.getElem?_eq_getElem h1, ?_⟩, fun ⟨h1, h2, o, ho, h3⟩ => ⟨h1, h2, ?_⟩⟩
  · rw [Array.getElem?_eq_getElem h1] at h3
    simp only [Option.map_some, Option.getD_some, Array.all_eq_true_iff_forall_mem, Bool.or_eq_true, Bool.not_eq_true'] at h3
    intro e he hb
    rcases h3 e he with h | h
    · rw [hb] at h; simp at h
    · exact h
  · rw [ho]
    simp only [Option.map_some, Option.getD_some, Array.all_eq_true_iff_forall_mem, Bool.or_eq_true, Bool.not_eq_true']
    intro e he
    cases hb : Region.binds .any e with
    | false => exact .inl rfl
    | true => exact .inr (h3 e he hb)

theorem drw_any (hT : TabOk P G T) (hcall : ∀ f args h v h', callF T ex f args h = some (v, h') → CallGood P G f args h v h') (hyld : ∀ i args h v h', yieldF ex i args h = some (v, h') → YieldGood P G i args h v h')
    {ops : Array Oper} (hn : n = ops.size) (hll : l.length = ops.size) (hf : Fit l) (he : Edges ops l) (hco : ∀ (k : Nat) (o : Oper), ops[k]? = some o → ∃ (c : CO) (un : List Nat), l[k]? = some c ∧ compCO P G ops un o = some c) {ro : Option Nat} {nn : Nat} {Q : Exit → Act → World → Prop} :
    ∀ (m : Nat) (listed : Array Bool) (xs : List Nat) (E : Env) (w : World) (a : Act) (D : DSt), xs.length = m → listed.size = n → xs.Pairwise (· < ·) → (∀ k, k ∈ xs ↔ k < n ∧ listed.getD k true = false) →
      (∀ j o, listed.getD j false = true → ops[j]? = some o → ∀ e ∈ o.after, Region.binds .any e = true → listed.getD e.on false = true) →
      E.HR P G D.h w → E.LR w D.t a.tmps → Open base n D xs → (∀ k ∈ xs, ¬ E.D (base + k)) → runL P T ex base n l xs D = some D' →
      (∀ a' w' E', Le E w E' w' → E'.HR P G D'.h w' → E'.LR w' D'.t a'.tmps → a'.defers = a.defers → (∀ k, E'.D k → E.D k ∨ base ≤ k) → D.h.length ≤ D'.h.length → Q .normal a' w') →
      wpAnyIn (FW ro) nn P .any ops Q m listed a w := by
  intro m
  induction m with
  | zero =>
    intro listed xs E w a D hm hsz hp hx hcl hr ht ho hD hrun hq
    have hxs : xs = [] := List.length_eq_zero_iff.1 hm
    subst hxs
    simp [runL] at hrun; subst hrun
    refine ⟨?_, hq a w E (.refl _ _) hr ht rfl (fun _ h => .inl h) (Nat.le_refl _)⟩
    rw [List.eq_nil_iff_forall_not_mem]
    intro i hi
    obtain ⟨h1, h2, _⟩ := mem_ready.1 hi
    exact absurd ((hx i).2 ⟨hn ▸ h1, h2⟩) (by simp)
  | succ m ih =>
    intro listed xs E w a D hm hsz hp hx hcl hr ht ho hD hrun hq
    have out : ∀ k, k < n → k ∉ xs → listed.getD k false = true := fun k hk hn' => by
      have : ¬ listed.getD k true = false := fun h => hn' ((hx k).2 ⟨hk, h⟩)
      have hk' : k < listed.size := hsz ▸ hk
      simpa [Array.getD, hk'] using this
    have inn : ∀ k, listed.getD k false = true → k < n ∧ k ∉ xs := fun k hk => by
      have hk' : k < listed.size := by
        by_cases h : k < listed.size
        · exact h
        · simp [Array.getD, h] at hk
      refine ⟨hsz ▸ hk', fun h => ?_⟩
      have := ((hx k).1 h).2
      simp [Array.getD, hk'] at this hk
      simp [this] at hk
    refine ⟨fun hnil => ?_, fun i hi => ?_⟩
    · exfalso
      cases xs with
      | nil => simp at hm
      | cons p xs =>
        have hpn := ((hx p).1 (by simp)).1
        have hps : p < ops.size := hn ▸ hpn
        have : p ∈ Region.ready .any ops listed := mem_ready.2 ⟨hps, ((hx p).1 (by simp)).2, ops[p], Array.getElem?_eq_getElem hps, fun e he1 hb => by
          have hlt := he.back p _ (Array.getElem?_eq_getElem hps) e he1 hb
          refine out e.on (by omega) fun h => ?_
          rw [List.pairwise_cons] at hp
          rcases List.mem_cons.1 h with h | h
          · omega
          · have := hp.1 _ h; omega⟩
        rw [hnil] at this; simp at this
    · obtain ⟨hi1, hi2, o, hio, hed⟩ := mem_ready.1 hi
      have hix : i ∈ xs := (hx i).2 ⟨hn ▸ hi1, hi2⟩
      obtain ⟨c, un, hc, hcc⟩ := hco i o hio
      obtain ⟨pre, post, rfl⟩ := List.append_of_mem hix
      have hpre : ∀ k ∈ pre, k < i := fun k hk => (List.pairwise_append.1 hp).2.2 k hk i (by simp)
      have hun : ∀ k ∈ pre, k ∈ c.un := fun k hk => by
        by_cases hu : k ∈ c.un
        · exact hu
        · exfalso
          have hkx : k ∈ pre ++ i :: post := List.mem_append_left _ hk
          obtain ⟨e, he1, hb, he3⟩ := he.all i o c k hio hc (hpre k hk) hu
          have hl := hed e he1 hb
          rcases he3 with rfl | ⟨h1, c', hc', hu'⟩
          · exact (inn _ hl).2 hkx
          · have := listed_before he (fun j => listed.getD j false = true) hcl (e.on + 1) e.on (by omega) hl (hn ▸ (inn _ hl).1) c' k hc' h1 hu'
            exact (inn _ this).2 hkx
      obtain ⟨D1, h1, h2⟩ := front hf hc post pre D hp hun ho hrun
      obtain ⟨v, rd, wr, hh, ha, hcl', rfl⟩ := stepD_inv h1
      unfold wpOpIn
      simp only [hio]
      refine actD_wp hT hcall hyld hr ht hcc (hD i hix) (ho.hole i hix).2.1 ha fun a' w' E' hle hr' ht' hd hDD hlen => ?_
      have hsub : ∀ k, k ∈ pre ++ post ↔ k ∈ pre ++ i :: post ∧ k ≠ i := fun k => by
        have hpi := List.pairwise_append.1 hp
        have hpost := (List.pairwise_cons.1 hpi.2.1).1
        constructor
        · intro hk
          rcases List.mem_append.1 hk with h | h
          · exact ⟨List.mem_append_left _ h, Nat.ne_of_lt (hpre k h)⟩
          · exact ⟨List.mem_append_right _ (List.mem_cons_of_mem _ h), fun e => by have := hpost k h; omega⟩
        · rintro ⟨hk, hne⟩
          rcases List.mem_append.1 hk with h | h
          · exact List.mem_append_left _ h
          · rcases List.mem_cons.1 h with h | h
            · exact absurd h hne
            · exact List.mem_append_right _ h
      have getS : ∀ (k : Nat) (d : Bool), (listed.setIfInBounds i true).getD k d = if k = i then true else listed.getD k d := fun k d => by
        have hi' : i < listed.size := by rw [hsz, hn]; exact hi1
        rw [Array.getD_eq_getD_getElem?, Array.getD_eq_getD_getElem?, Array.getElem?_setIfInBounds]
        by_cases e : i = k
        · subst e; simp [hi']
        · rw [if_neg e, if_neg fun h => e h.symm]
      refine ih (listed.setIfInBounds i true) (pre ++ post) E' w' a' _ (by simp at hm ⊢; omega) (by simpa using hsz) ?_ (fun k => ?_) (fun j oj hj hoj e he1 hb => ?_) hr' ht' (step_keep h1 ho fun k hk => ?_) (fun k hk hdk => ?_) h2 fun a2 w2 E2 hle2 hr2 ht2 hd2 hD2 hlen2 =>
        hq a2 w2 E2 (hle.trans hle2) hr2 ht2 (hd2.trans hd) (fun k hk => (hD2 k hk).elim (fun h => (hDD k h).imp id fun h => h.elim (fun h => by omega) fun h => by have := ho.len; omega) .inr) (Nat.le_trans hlen hlen2)
      · exact hp.sublist (List.append_sublist_append_left pre |>.2 (List.sublist_cons_self i post))
      · rw [hsub, hx, getS]
        by_cases e : k = i <;> simp [e]
      · rw [getS] at hj ⊢
        by_cases e1 : e.on = i
        · simp [e1]
        · rw [if_neg e1]
          by_cases e2 : j = i
          · subst e2
            rw [hio] at hoj
            simp at hoj; subst hoj
            exact hed e he1 hb
          · rw [if_neg e2] at hj
            exact hcl j oj hj hoj e he1 hb
      · obtain ⟨h3, h4⟩ := (hsub k).1 hk
        refine ⟨h3, h4, ?_⟩
        rcases List.mem_append.1 hk with h | h
        · exact .inl (hun k h)
        · have := (List.pairwise_cons.1 (List.pairwise_append.1 hp).2.1).1 k h
          exact .inr (Nat.le_of_lt this)
      · obtain ⟨h3, h4⟩ := (hsub k).1 hk
        rcases hDD _ hdk with h | h | h
        · exact hD k h3 h
        · omega
        · have := (ho.hole k h3).1
          have := ho.len
          omega

theorem pend_len : ∀ (k n : Nat), (List.replicate n (none : Option Blk))[k]? = if k < n then some none else none := by
  intro k n
  rw [List.getElem?_replicate]

/-- A drawn region. -/
theorem drw_wp (hm : P.follows .mixedOrders = true) (hT : TabOk P G T) (hcall : ∀ f args h v h', callF T ex f args h = some (v, h') → CallGood P G f args h v h') (hyld : ∀ i args h v h', yieldF ex i args h = some (v, h') → YieldGood P G i args h v h')
    {id : Nat} {ops : Array Oper} {l : List CO} (hl : compDrw P G ops (Region.before ops) 0 ops.toList = some l) (hok : drawOk l = true) (hedg : edgesOk ops l = true) (hr : E.HR P G h w) (ht : E.LR w t a.tmps)
    (hs : runD P T ex h.length l.length l 0 ⟨t, h ++ List.replicate l.length none, List.replicate l.length none⟩ = some D') {ro : Option Nat} {nn : Nat} {Q : Exit → Act → World → Prop}
    (hn : ∀ a' w' E', Nx P G E h w E' D'.h w' → E'.LR w' D'.t a'.tmps → a'.defers = a.defers → Q .normal a' w') : (Code.region id ops true).wpIn (FW ro) nn P Q a w := by
  obtain ⟨hlen, hco⟩ := drw_spec ops.toList 0 l hl
  have hll : l.length = ops.size := by simpa using hlen
  refine wpIn_region_any hm ?_
  rw [runL_runD (l := l) l 0 _ (fun k => by simp)] at hs
  have hr1 : E.HR P G (h ++ List.replicate l.length none) w.drew := by
    have hr' := hr_drew hr
    have get : ∀ {i b}, (h ++ List.replicate l.length none)[i]? = some (some b) → h[i]? = some (some b) := fun {i b} hi => by
      by_cases hi' : i < h.length
      · rwa [List.getElem?_append_left hi'] at hi
      · rw [List.getElem?_append_right (by omega), pend_len] at hi
        split at hi <;> simp at hi
    exact ⟨fun i b hi => hr'.blk i b (get hi), fun i j b c hi hj => hr'.inj i j b c (get hi) (get hj), fun i hi => by have := hr'.lt i hi; simp; omega, hr'.own, hr'.imm, hr'.glob⟩
  refine drw_any (base := h.length) (n := l.length) (D' := D') hT hcall hyld hll hll (fit_of hok) (edges_of hedg) (fun k o ho => hco k o (by simpa using ho)) ops.size (Array.replicate ops.size false) (List.range' 0 l.length) E w.drew a
    ⟨t, h ++ List.replicate l.length none, List.replicate l.length none⟩ (by simp [hll]) (by simp [hll]) (List.pairwise_lt_range' (s := 0) (n := l.length)) (fun k => ?_) (fun j o hj => ?_) hr1 (le_drew E w |>.lr hr ht) ⟨by simp, fun k hk => ?_⟩ (fun k hk hd => ?_) hs
    fun a' w' E' hle hr2 ht2 hd2 hD2 hlen2 => hn a' w' E' ⟨(le_drew E w).trans hle, hr2, hD2, by simp at hlen2; omega⟩ ht2 hd2
  · simp only [List.mem_range'_1, Array.getD_eq_getD_getElem?, Array.getElem?_replicate, ← hll]
    constructor
    · intro hk; refine ⟨by omega, ?_⟩; rw [if_pos (by omega)]; rfl
    · intro hk; exact ⟨by omega, by omega⟩
  · simp only [Array.getD_eq_getD_getElem?, Array.getElem?_replicate] at hj
    split at hj <;> simp at hj
  · simp only [List.mem_range'_1] at hk
    have hk' : k < l.length := by omega
    refine ⟨hk', ?_, ?_⟩
    · simp only; rw [List.getElem?_append_right (by omega), pend_len, if_pos (by omega)]
    · simp only; rw [List.getElem?_replicate, if_pos hk']
  · have := hr.lt _ hd; omega

end
end Go.Abs

namespace Go.Abs
open Go

def mkd (b : Nat) : Deferred := { target := .collected b, args := #[] }

/-- The marks that have been set since the heap had n blocks. -/
def Mk (n : Nat) (E : Env) (w : World) (d d' : List Deferred) : Prop :=
  ∃ bs : List Nat, d' = bs.map mkd ++ d ∧ bs.Nodup ∧ ∀ b ∈ bs, n ≤ b ∧ b < w.heap.size ∧ w.heap[b]? = some (.deferred (some [])) ∧ ¬ E.O b ∧ ¬ E.I b

theorem Mk.refl (n : Nat) (E : Env) (w : World) (d : List Deferred) : Mk n E w d d := ⟨[], rfl, by simp, by simp⟩

theorem Mk.le {n : Nat} {E E' : Env} {w w' : World} {d d' : List Deferred} (h : Mk n E w d d') (hl : Le E w E' w') : Mk n E' w' d d' := by
  obtain ⟨bs, h1, h2, h3⟩ := h
  refine ⟨bs, h1, h2, fun b hb => ?_⟩
  obtain ⟨a1, a2, a3, a4, a5⟩ := h3 b hb
  obtain ⟨x, y, z⟩ := hl.old b a2 a4
  exact ⟨a1, Nat.lt_of_lt_of_le a2 hl.size, x ▸ a3, y, fun hi => a5 (z hi)⟩

theorem Mk.trans {n : Nat} {E E' : Env} {w w' : World} {d d1 d2 : List Deferred} (h : Mk n E w d d1) (hl : Le E w E' w') (h' : Mk w.heap.size E' w' d1 d2) (hn : n ≤ w.heap.size) : Mk n E' w' d d2 := by
  have hs : ∃ bs : List Nat, d1 = bs.map mkd ++ d ∧ bs.Nodup ∧ ∀ b ∈ bs, n ≤ b ∧ b < w.heap.size := by
    obtain ⟨bs, h1, h2, h3⟩ := h
    exact ⟨bs, h1, h2, fun b hb => ⟨(h3 b hb).1, (h3 b hb).2.1⟩⟩
  obtain ⟨bs, h1, h2, h3⟩ := h
  obtain ⟨cs, e1, e2, e3⟩ := h'
  refine ⟨cs ++ bs, by rw [e1, h1]; simp, ?_, fun b hb => ?_⟩
  · rw [List.nodup_append]
    refine ⟨e2, h2, fun x hx y hy e => ?_⟩
    have := (e3 x hx).1
    have := (h3 y hy).2.1
    omega
  · rcases List.mem_append.1 hb with hb | hb
    · obtain ⟨a1, a2⟩ := e3 b hb
      exact ⟨by omega, a2⟩
    · obtain ⟨a1, a2, a3, a4, a5⟩ := h3 b hb
      obtain ⟨x, y, z⟩ := hl.old b a2 a4
      exact ⟨a1, Nat.lt_of_lt_of_le a2 hl.size, x ▸ a3, y, fun hi => a5 (z hi)⟩

section
variable {P : Program} {G : Nat → Option (List AVal)} {T : Nat → Option CFn} {E E' E'' : Env} {h h' h'' : Heap} {w w' w'' : World} {t t' : List AVal} {a a' a'' : Act} {d d' : List Deferred}

structure Run (P : Program) (G : Nat → Option (List AVal)) (E : Env) (h : Heap) (w : World) (d : List Deferred) (E' : Env) (h' : Heap) (w' : World) (t' : List AVal) (a' : Act) : Prop where
  nx : Nx P G E h w E' h' w'
  lr : E'.LR w' t' a'.tmps
  mks : Mk w.heap.size E' w' d a'.defers

theorem Run.refl (hr : E.HR P G h w) (ht : E.LR w t a.tmps) : Run P G E h w a.defers E h w t a := ⟨.refl hr, ht, .refl _ _ _ _⟩
theorem Run.trans (x : Run P G E h w d E' h' w' t' a') (y : Run P G E' h' w' a'.defers E'' h'' w'' t a'') : Run P G E h w d E'' h'' w'' t a'' :=
  ⟨x.nx.trans y.nx, y.lr, x.mks.trans y.nx.le y.mks x.nx.le.size⟩

def exOf : AEx → Exit
  | .normal => .normal
  | .exit id => .exit id
  | .ret => .ret

def Post (P : Program) (G : Nat → Option (List AVal)) (E : Env) (h : Heap) (w : World) (d : List Deferred) (e : AEx) (σ' : St) : Exit → Act → World → Prop :=
  fun x a' w' => x = exOf e ∧ ∃ E', Run P G E h w d E' σ'.h w' σ'.t a'

/-! ### Trimming -/

theorem lr_trim {n : Nat} {xs : List AVal} {cs : Array Value} (hl : E.LR w xs cs) (hx : xs.all (rb n 5) = true) : Env.LR { E with D := fun i => E.D i ∧ i < n } w xs cs :=
  ⟨hl.1, fun j h1 h2 => VR.trim 5 (hl.2 j h1 h2) ((List.all_eq_true.1 hx) _ (List.getElem_mem h1))⟩

theorem br_trim {n i : Nat} {b : Blk} (hb : E.BR P G w i b) (hx : rbB n (some b) = true) : Env.BR P G { E with D := fun i => E.D i ∧ i < n } w i b := by
  cases b with
  | row e rs =>
    obtain ⟨h1, h2, h3, c, el, h4, h5, h6⟩ := hb
    refine ⟨h1, h2, h3, c, el, h4, h5, fun k r hk j x hj => ?_⟩
    obtain ⟨v, g1, g2⟩ := h6 k r hk j x hj
    simp only [rbB, List.all_eq_true] at hx
    exact ⟨v, g1, VR.trim 5 g2 (hx r (List.mem_of_getElem? hk) x (List.mem_of_getElem? hj))⟩
  | map es c =>
    obtain ⟨ces, h1, h2, h3⟩ := hb
    refine ⟨ces, h1, h2, fun j k v b hj => ?_⟩
    obtain ⟨ce, g1, g2, g3, g4⟩ := h3 j k v b hj
    simp only [rbB, List.all_eq_true, Bool.and_eq_true] at hx
    have := hx _ (List.mem_of_getElem? hj)
    exact ⟨ce, g1, VR.trim 5 g2 this.1, VR.trim 5 g3 this.2, g4⟩
  | loop t ps asg bd st pd =>
    obtain ⟨L, h1, h2, h3⟩ := hb
    exact ⟨L, h1, lr_trim h2 hx, h3⟩

theorem trim_ok (hr : E.HR P G h w) (hx : Nx P G E h w E' h' w') {vs : List AVal} {cs : Array Value} (hv : E'.LR w' vs cs) :
    ∃ E'', Nx P G E h w E'' (trim h.length vs h') w' ∧ E''.LR w' vs cs ∧ E''.O = E'.O ∧ E''.I = E'.I ∧ E''.ρ = E'.ρ := by
  unfold trim
  split
  · rename_i hc
    simp only [Bool.and_eq_true] at hc
    have get : ∀ {i b}, (List.take h.length h')[i]? = some (some b) → i < h.length ∧ h'[i]? = some (some b) := fun {i b} hi => by
      have h1 := (List.getElem?_eq_some_iff.1 hi).1
      simp at h1
      have h1' : i < h.length := by omega
      exact ⟨h1', by rwa [List.getElem?_take_of_lt h1'] at hi⟩
    have hl := hx.le
    refine ⟨{ E' with D := fun i => E'.D i ∧ i < h.length }, ⟨⟨hl.os, hl.tape, hl.output, hl.size, fun i hi => ⟨⟨(hl.D i hi).1, hr.lt i hi⟩, (hl.D i hi).2⟩, hl.I, hl.old⟩, ?_, fun j hj => ?_, ?_⟩, lr_trim hv hc.1, rfl, rfl, rfl⟩
    · refine ⟨fun i b hi => ?_, fun i j b c hi hj he => hx.hr.inj i j b c (get hi).2 (get hj).2 he, fun i hi => ?_, hx.hr.own, hx.hr.imm, fun g r hg => ?_⟩
      · obtain ⟨h1, h2⟩ := get hi
        obtain ⟨g1, g2, g3, g4⟩ := hx.hr.blk i b h2
        have hm : some b ∈ List.take h.length h' := List.mem_of_getElem? hi
        exact ⟨⟨g1, h1⟩, g2, g3, br_trim g4 (List.all_eq_true.1 hc.2 _ hm)⟩
      · have := hx.hr.lt i hi.1
        have := hi.2
        simp; omega
      · have := hx.hr.glob g r hg
        generalize hp : Value.pointer (some ⟨g, 0, none⟩) = pv at this ⊢
        cases this with
        | pv _ _ _ b off cv hb hc h => exact .pv _ _ _ b off cv hb hc h
    · exact (hx.fr j hj.1)
    · have := hx.len; simp; omega
  · exact ⟨E', hx, hv, rfl, rfl, rfl⟩

theorem kill_lr : ∀ (t : List AVal) (m : Nat) (cs : Array Value), E.LR w t cs → E.LR w (kill t m) cs := by
  have len : ∀ (t : List AVal) (m : Nat), (kill t m).length = t.length := by
    intro t; induction t with
    | nil => intro m; rfl
    | cons x xs ih => intro m; simp [kill, ih]
  have get : ∀ (t : List AVal) (m j : Nat) (x : AVal), (kill t m)[j]? = some x → x = .any ∨ t[j]? = some x := by
    intro t; induction t with
    | nil => intro m j x h; simp [kill] at h
    | cons y ys ih =>
      intro m j x h
      cases j with
      | zero => simp only [kill, List.getElem?_cons_zero, Option.some.injEq] at h; split at h <;> simp [← h]
      | succ j => simp only [kill, List.getElem?_cons_succ] at h ⊢; exact ih _ j x h
  intro t m cs hl
  rw [lr_iff] at *
  refine ⟨by rw [len]; exact hl.1, fun j x u h1 h2 => ?_⟩
  rcases get t m j x h1 with rfl | h
  · exact .any _ _
  · exact hl.2 j x u h h2

/-! ### The shape of compiled code -/


section
variable {code : Code} {x y : CC} {c : CV} {l : List CO} {id : Nat}
theorem co_skip (h : compC P G code = some .skip) : code = .skip := by
  cases code with
  | region id ops b => cases b <;> simp only [compC] at h <;> (repeat' split at h) <;> simp at h
  | skip => rfl
  | _ => simp only [compC] at h <;> (repeat' split at h) <;> simp at h
theorem co_ret (h : compC P G code = some .ret) : code = .ret := by
  cases code with
  | region id ops b => cases b <;> simp only [compC] at h <;> (repeat' split at h) <;> simp at h
  | ret => rfl
  | _ => simp only [compC] at h <;> (repeat' split at h) <;> simp at h
theorem co_exit (h : compC P G code = some (.exit id)) : code = .exit id := by
  cases code with
  | region id ops b => cases b <;> simp only [compC] at h <;> (repeat' split at h) <;> simp at h
  | exit i => simp only [compC] at h; simp at h; subst h; rfl
  | _ => simp only [compC] at h <;> (repeat' split at h) <;> simp at h
theorem co_reg (h : compC P G code = some (.reg l)) : ∃ id ops, code = .region id ops false ∧ compOps P G ops ops.toList = some l := by
  cases code with
  | region id ops b =>
    cases b with
    | false =>
      refine ⟨id, ops, rfl, ?_⟩
      simp only [compC] at h
      split at h
      · rename_i l' hl; simp at h; subst h; exact hl
      · simp at h
    | true => simp only [compC] at h; (repeat' split at h) <;> simp at h
  | _ => simp only [compC] at h <;> (repeat' split at h) <;> simp at h
theorem co_drw (h : compC P G code = some (.drw l)) : ∃ id ops, code = .region id ops true ∧ compDrw P G ops (Region.before ops) 0 ops.toList = some l ∧ drawOk l = true ∧ edgesOk ops l = true := by
  cases code with
  | region id ops b =>
    cases b with
    | true =>
      refine ⟨id, ops, rfl, ?_⟩
      simp only [compC] at h
      split at h
      · rename_i l' hl
        split at h
        · rename_i hc; simp at h; subst h
          simp only [Bool.and_eq_true] at hc
          exact ⟨hl, hc.1, hc.2⟩
        · simp at h
      · simp at h
    | false => simp only [compC] at h; (repeat' split at h) <;> simp at h
  | _ => simp only [compC] at h <;> (repeat' split at h) <;> simp at h
theorem co_seq (h : compC P G code = some (.seq x y)) : ∃ p q, code = .seq p q ∧ compC P G p = some x ∧ compC P G q = some y := by
  cases code with
  | seq p q =>
    simp only [compC] at h
    split at h
    · rename_i h1 h2; simp at h; obtain ⟨rfl, rfl⟩ := h; exact ⟨p, q, rfl, h1, h2⟩
    · simp at h
  | region id ops b => cases b <;> simp only [compC] at h <;> (repeat' split at h) <;> simp at h
  | _ => simp only [compC] at h <;> (repeat' split at h) <;> simp at h
theorem co_cond (h : compC P G code = some (.cond c x y)) : ∃ o p q, code = .cond o p q ∧ compV G o = some c ∧ compC P G p = some x ∧ compC P G q = some y := by
  cases code with
  | cond o p q =>
    simp only [compC] at h
    split at h
    · rename_i h0 h1 h2; simp at h; obtain ⟨rfl, rfl, rfl⟩ := h; exact ⟨o, p, q, rfl, h0, h1, h2⟩
    · simp at h
  | region id ops b => cases b <;> simp only [compC] at h <;> (repeat' split at h) <;> simp at h
  | _ => simp only [compC] at h <;> (repeat' split at h) <;> simp at h
theorem co_block (h : compC P G code = some (.block id x)) : ∃ p, code = .block id p ∧ compC P G p = some x := by
  cases code with
  | block id' p =>
    simp only [compC] at h
    split at h
    · rename_i h1; simp at h; obtain ⟨rfl, rfl⟩ := h; exact ⟨p, rfl, h1⟩
    · simp at h
  | region id ops b => cases b <;> simp only [compC] at h <;> (repeat' split at h) <;> simp at h
  | _ => simp only [compC] at h <;> (repeat' split at h) <;> simp at h
theorem co_loop {n : Nat} (h : compC P G code = some (.loop n x)) : ∃ p, code = .loop p ∧ compC P G p = some x := by
  cases code with
  | loop p =>
    simp only [compC] at h
    split at h
    · rename_i h1; simp at h; obtain ⟨_, rfl⟩ := h; exact ⟨p, rfl, h1⟩
    · simp at h
  | region id ops b => cases b <;> simp only [compC] at h <;> (repeat' split at h) <;> simp at h
  | _ => simp only [compC] at h <;> (repeat' split at h) <;> simp at h
theorem co_rf {ps : List Nat} (h : compC P G code = some (.rf c ps x y)) : ∃ o qs p q, code = .rangeFunc o qs p q ∧ qs.toList = ps ∧ compV G o = some c ∧ compC P G p = some x ∧ compC P G q = some y := by
  cases code with
  | rangeFunc o qs p q =>
    simp only [compC] at h
    split at h
    · rename_i h0 h1 h2; simp at h; obtain ⟨rfl, rfl, rfl, rfl⟩ := h; exact ⟨o, qs, p, q, rfl, rfl, h0, h1, h2⟩
    · simp at h
  | region id ops b => cases b <;> simp only [compC] at h <;> (repeat' split at h) <;> simp at h
  | _ => simp only [compC] at h <;> (repeat' split at h) <;> simp at h
end

end
end Go.Abs

namespace Go.Abs
open Go

section
variable {P : Program} {G : Nat → Option (List AVal)} {E E' : Env} {h h' : Heap} {w w' : World} {t : List AVal} {tmps : Array Value} {v : AVal}

theorem lr_get (ht : E.LR w t tmps) {i : Nat} (hi : t[i]? = some v) : E.VR w v (tmps.getD i undef) := by
  obtain ⟨h1, rfl⟩ := List.getElem?_eq_some_iff.1 hi
  have := ht.2 i h1 (ht.1 ▸ h1)
  have h2 : i < tmps.size := ht.1 ▸ h1
  simpa [Array.getD, h2] using this

theorem loadAt_ptr {ty : TypeId} {cv u : Value} (hl : (Instr.loadAt ty cv).run P w = .ok u w) : (do loadVar ty (← asAddr cv) : Sem Value).run P w = .ok u w := by
  unfold Instr.loadAt at hl
  cases cv with
  | pointer p =>
    cases p with
    | some a => simpa [Instr.sureAddr, asAddr] using hl
    | none => simp [Instr.sureAddr, stuck, Sem.run_bind] at hl
  | _ => simp [Instr.sureAddr, stuck, Sem.run_bind] at hl

/-- What one result of a function is. -/
def rvF (tmps : Array Value) : ResultVar → Sem Value
  | .tmp t => pure (tmps.getD t undef)
  | .cell a t => do loadVar t (← asAddr (tmps.getD a undef))

theorem results_eq (fn : Func) (tmps : Array Value) : results fn tmps = (do let vs ← fn.results.mapM (rvF tmps); pure (if h : vs.size = 1 then vs[0] else .tuple vs)) := by
  unfold results
  congr 1

theorem res_list (hr : E.HR P G h w) (ht : E.LR w t tmps) : ∀ (rs : List ResultVar) (cs : List CRes) (vs : List AVal), compR P rs = some cs → resA t h cs = some vs →
    ∃ us : List Value, (rs.mapM (rvF tmps)).run P w = .ok us w ∧ us.length = vs.length ∧ ∀ (j : Nat) (x : AVal) (u : Value), vs[j]? = some x → us[j]? = some u → E.VR w x u
  | [], cs, vs, hc, hv => by
    simp [compR] at hc; subst hc
    simp [resA] at hv; subst hv
    exact ⟨[], by simp, rfl, by simp⟩
  | r :: rs, cs, vs, hc, hv => by
    have key : ∀ (cs' : List CRes) (x : AVal) (xs : List AVal) (u : Value), compR P rs = some cs' → resA t h cs' = some xs → E.VR w x u → vs = x :: xs →
        ((rvF tmps r).run P w = .ok u w) →
        ∃ us : List Value, ((r :: rs).mapM (rvF tmps)).run P w = .ok us w ∧ us.length = vs.length ∧ ∀ (j : Nat) (x : AVal) (u : Value), vs[j]? = some x → us[j]? = some u → E.VR w x u := by
      intro cs' x xs u h1 h2 h3 h4 h5
      obtain ⟨us, g1, g2, g3⟩ := res_list hr ht rs cs' xs h1 h2
      subst h4
      refine ⟨u :: us, ?_, by simp [g2], fun j y z hy hz => ?_⟩
      · rw [List.mapM_cons]
        simp only [Sem.run_bind]
        rw [h5]
        simp only [Result.andThen_ok, Sem.run_bind, g1, Sem.run_pure]
      · cases j with
        | zero => simp at hy hz; subst hy; subst hz; exact h3
        | succ j => exact g3 j y z (by simpa using hy) (by simpa using hz)
    cases r with
    | tmp i =>
      simp only [compR] at hc
      split at hc <;> simp at hc
      rename_i cs' hcs
      subst hc
      simp only [resA] at hv
      split at hv <;> simp at hv
      rename_i x xs hx hxs
      rw [nth_eq] at hx
      exact key cs' x xs _ hcs hxs (lr_get ht hx) hv.symm (by simp [rvF])
    | cell a ty =>
      simp only [compR] at hc
      split at hc
      · rename_i n cs' hag hsz hcs
        simp at hc; subst hc
        simp only [resA] at hv
        (repeat' split at hv) <;> simp at hv
        rename_i p hp _ _ r o i xs hpt hxs _ x hx
        rw [nth_eq] at hp
        obtain ⟨u, h1, h2⟩ := load_many hr hag hsz hpt (lr_get ht hp) hx
        exact key cs' x xs u hcs hxs h2 hv.symm (loadAt_ptr h1)
      · rename_i n cs' hag hsz hcs
        simp at hc; subst hc
        simp only [resA] at hv
        (repeat' split at hv) <;> simp at hv
        rename_i p hp _ _ r o i xs hpt hxs _ x hx
        rw [nth_eq] at hp
        obtain ⟨u, h1, h2⟩ := load_one hr hag hpt (lr_get ht hp) hx
        exact key cs' x xs u hcs hxs h2 hv.symm (loadAt_ptr h1)
      · simp at hc

theorem res_run (hr : E.HR P G h w) (ht : E.LR w t tmps) {fn : Func} {cs : List CRes} {vs : List AVal} (hc : compR P fn.results.toList = some cs) (hv : resA t h cs = some vs) :
    ∃ u, (results fn tmps).run P w = .ok u w ∧ E.VR w (tupA vs) u := by
  obtain ⟨us, h1, h2, h3⟩ := res_list hr ht _ _ _ hc hv
  refine ⟨if h : us.toArray.size = 1 then us.toArray[0] else .tuple us.toArray, ?_, ?_⟩
  · rw [results_eq, Array.mapM_eq_mapM_toList]
    simp [h1]
  · match vs, us, h2, h3 with
    | [], [], _, _ => simp [tupA]; exact .tup _ _ _ rfl fun j h => by simp at h
    | [x], [u], _, h3 => simpa [tupA] using h3 0 x u rfl rfl
    | x :: y :: vs, u :: z :: us, h2, h3 =>
      simp [tupA]
      exact .tup _ _ _ (by simp at h2 ⊢; omega) fun j hj1 hj2 => h3 j _ _ (List.getElem?_eq_getElem hj1) (by simp at hj2 ⊢)

/-- A block that is not the run's, nor one that nobody changes, may change. -/
theorem hr_aside (hr : E.HR P G h w) {b : Nat} {o : Obj} (hO : ¬ E.O b) (hI : ¬ E.I b) : E.HR P G h (w.putObj b o) ∧ ∀ {x : AVal} {u : Value}, E.VR w x u → E.VR (w.putObj b o) x u := by
  have mv : ∀ {x : AVal} {u : Value}, E.VR w x u → E.VR (w.putObj b o) x u := fun hv => VR.mono hv E.D (fun _ h => ⟨h, rfl⟩) fun k hk => ⟨hk, World.putObj_heap_other fun e => hI (e ▸ hk)⟩
  refine ⟨⟨fun i c hi => ?_, hr.inj, hr.lt, fun k hk => by rw [World.putObj_size]; exact hr.own k hk, fun k hk => by rw [World.putObj_size]; exact hr.imm k hk, fun g r hg => mv (hr.glob g r hg)⟩, mv⟩
  obtain ⟨h1, h2, h3, h4⟩ := hr.blk i c hi
  exact ⟨h1, h2, by rw [World.putObj_size]; exact h3, br_mono h4 rfl (World.putObj_heap_other fun e => hO (e ▸ h2)) fun _ _ hv => mv hv⟩

/-- The marks are taken down, one by one; then the results. -/
theorem leaves {fn : Func} {cs : List CRes} {vs : List AVal} (hc : compR P fn.results.toList = some cs) (hv : resA t h cs = some vs) {k : Nat} {R : Ending → World → Prop} {n : Nat} :
    ∀ (bs : List Nat) (w : World), E.HR P G h w → E.LR w t tmps → bs.Nodup → (∀ b ∈ bs, n ≤ b ∧ b < w.heap.size ∧ w.heap[b]? = some (.deferred (some [])) ∧ ¬ E.O b ∧ ¬ E.I b) →
      (∀ w' u, E.HR P G h w' → E.VR w' (tupA vs) u → w'.os = w.os → w'.tape = w.tape → w'.output = w.output → w'.heap.size = w.heap.size → (∀ b, b < n ∨ E.O b ∨ E.I b → w'.heap[b]? = w.heap[b]?) → R (.returned u) w') →
      LeavesInM (FW none) k P fn tmps R (bs.map mkd) .returning w
  | [], w, hr, ht, _, _, hR => by
    obtain ⟨u, h1, h2⟩ := res_run hr ht hc hv
    exact ⟨u, h1, hR w u hr h2 rfl rfl rfl rfl fun _ _ => rfl⟩
  | b :: bs, w, hr, ht, hn, hb, hR => by
    obtain ⟨a1, a2, a3, a4, a5⟩ := hb b (by simp)
    have hnd := List.nodup_cons.1 hn
    obtain ⟨g1, g2⟩ := hr_aside (o := .deferred none) hr a4 a5
    refine ⟨by simp, .inl ⟨b, _, rfl, run_takeDeferred a3, ?_⟩⟩
    refine leaves (n := n) (k := k) (R := R) hc hv bs _ g1 ⟨ht.1, fun j h1 h2 => g2 (ht.2 j h1 h2)⟩ hnd.2 (fun c hcm => ?_) fun w' u x1 x2 x3 x4 x5 x6 x7 => ?_
    · obtain ⟨b1, b2, b3, b4, b5⟩ := hb c (List.mem_cons_of_mem _ hcm)
      exact ⟨b1, by rw [World.putObj_size]; exact b2, by rw [World.putObj_heap_other fun (e : c = b) => hnd.1 (by rw [← e]; exact hcm)]; exact b3, b4, b5⟩
    · refine hR w' u x1 x2 x3 x4 x5 (by rw [x6, World.putObj_size]) fun c hcm => ?_
      rw [x7 c hcm]
      refine World.putObj_heap_other fun e => ?_
      subst e
      rcases hcm with h | h | h
      · omega
      · exact a4 h
      · exact a5 h

end
end Go.Abs

namespace Go.Abs
open Go

section
variable {P : Program} {G : Nat → Option (List AVal)} {T : Nat → Option CFn} {ex : Option Nat → CC → St → Option (AEx × St)} {E E' E1 : Env} {h h' h1 : Heap} {w w' w1 : World} {t t1 : List AVal} {a a' a1 : Act} {d : List Deferred} {e : AEx} {σ σ' : St} {c : CC} {v : AVal}

def Sound (P : Program) (G : Nat → Option (List AVal)) (r : Option Nat) (c : CC) (σ : St) (e : AEx) (σ' : St) : Prop :=
  ∀ (code : Code) (E : Env) (w : World) (a : Act) (k : Nat), compC P G code = some (strip c) → E.HR P G σ.h w → E.LR w σ.t a.tmps → (∀ i, r = some i → E.D i) → code.wpIn (FW (r.map fun i => (E.ρ i).b)) k P (Post P G E σ.h w a.defers e σ') a w

theorem post_trans (hx : Run P G E h w d E1 h1 w1 t1 a1) {x : Exit} (hp : Post P G E1 h1 w1 a1.defers e σ' x a' w') : Post P G E h w d e σ' x a' w' :=
  let ⟨h1, E', h2⟩ := hp; ⟨h1, E', hx.trans h2⟩

theorem fw_eq (hl : Le E w E1 w1) {r : Option Nat} (hd : ∀ i, r = some i → E.D i) : FW (r.map fun i => (E1.ρ i).b) = FW (r.map fun i => (E.ρ i).b) := by
  cases r with
  | none => rfl
  | some i => simp only [Option.map_some, (hl.D i (hd i rfl)).2]

theorem replicate_lr (n m : Nat) (hn : n = m) : E.LR w (List.replicate n .und) (Array.replicate m undef) := by
  subst hn
  exact ⟨by simp, fun j h1 h2 => by simp; exact .und _⟩

/-- The world changes at blocks that are neither the run's nor fixed, and lie at n or above. -/
theorem nx_side (hx : Nx P G E h w E' h' w') {w2 : World} (hr2 : E'.HR P G h' w2) (ho : w2.os = w'.os) (ht : w2.tape = w'.tape) (hu : w2.output = w'.output) (hs : w2.heap.size = w'.heap.size) (hh : ∀ b, b < w.heap.size → w2.heap[b]? = w'.heap[b]?) : Nx P G E h w E' h' w2 :=
  ⟨⟨ho.trans hx.le.os, ht.trans hx.le.tape, hu.trans hx.le.output, by rw [hs]; exact hx.le.size, hx.le.D, hx.le.I, fun b hb hno => let ⟨x, y⟩ := hx.le.old b hb hno; ⟨(hh b hb).trans x, y⟩⟩, hr2, hx.fr, hx.len⟩

theorem optAll_get {α β : Type} {f : α → Option β} : ∀ {xs : List α} {ys : List β}, optAll f xs = some ys → xs.length = ys.length ∧ ∀ j (h1 : j < xs.length) (h2 : j < ys.length), f xs[j] = some ys[j]
  | [], ys, h => by simp [optAll] at h; subst h; exact ⟨rfl, fun j h1 => by simp at h1⟩
  | x :: xs, ys, h => by
    simp only [optAll] at h
    split at h <;> simp at h
    rename_i y ys' h1 h2
    subst h
    obtain ⟨g1, g2⟩ := optAll_get h2
    refine ⟨by simp [g1], fun j j1 j2 => ?_⟩
    cases j with
    | zero => exact h1
    | succ j => exact g2 j (by simpa using j1) (by simpa using j2)

/-- A value with what it points at, as what unchanging memory reads. -/
theorem frz_ok {nv : Bool} (hr : E.HR P G h w) {I' : Nat → Prop} {ρ' : Nat → Loc} (hD : ∀ i b, h[i]? = some (some b) → I' (E.ρ i).b) (hI : nv = false → ∀ b, E.I b → I' b) :
    ∀ (d : Nat) {v v' : AVal} {u : Value}, E.VR w v u → frz nv h d v = some v' → Abs.VR ρ' I' w (fun _ => False) v' u := by
  intro d
  induction d with
  | zero => intro v v' u _ hf; simp [frz] at hf
  | succ d ih =>
    intro v v' u hv hf
    replace hf : frz1 nv h (frz nv h d) v = some v' := hf
    cases hv with
    | any => simp [frz1] at hf
    | und => simp [frz1] at hf
    | bool => simp [frz1] at hf; subst hf; exact .bool _ _
    | int => simp [frz1] at hf; subst hf; exact .int _ _ _
    | nilp => simp [frz1] at hf; subst hf; exact .nilp _
    | nils => simp [frz1] at hf; subst hf; exact .nils _
    | nilm => simp [frz1] at hf; subst hf; exact .nilm _
    | nilf => simp [frz1] at hf; subst hf; exact .nilf _
    | mp => simp [frz1] at hf
    | yld => simp [frz1] at hf
    | fn _ f a b ca cb hla hlb ha hb =>
      simp only [frz1] at hf
      split at hf <;> simp at hf
      rename_i a' b' h1 h2
      subst hf
      obtain ⟨g1, g2⟩ := optAll_get h1
      obtain ⟨g3, g4⟩ := optAll_get h2
      exact .fn _ f _ _ ca cb (by omega) (by omega) (fun j j1 j2 => ih (ha j (by omega) j2) (g2 j (by omega) j1)) (fun j j1 j2 => ih (hb j (by omega) j2) (g4 j (by omega) j1))
    | agg _ xs cs hl hx =>
      simp only [frz1] at hf
      split at hf <;> simp at hf
      rename_i ys hy
      subst hf
      obtain ⟨g1, g2⟩ := optAll_get hy
      exact .agg _ _ cs (by omega) fun j h1 h2 => ih (hx j (by omega) h2) (g2 j (by omega) h1)
    | tup _ xs cs hl hx =>
      simp only [frz1] at hf
      split at hf <;> simp at hf
      rename_i ys hy
      subst hf
      obtain ⟨g1, g2⟩ := optAll_get hy
      exact .tup _ _ cs (by omega) fun j h1 h2 => ih (hx j (by omega) h2) (g2 j (by omega) h1)
    | pv _ r o b off cv hb hc hx =>
      simp only [frz1] at hf
      split at hf <;> simp at hf
      rename_i hn
      subst hf
      exact .pv _ r o b off cv (hI (by simpa using hn) b hb) hc fun j hj => VR.mono (hx j hj) _ (fun i hi => hi.elim) fun b hb => ⟨hI (by simpa using hn) b hb, rfl⟩
    | vl _ rs t a cap b off e cv hn ht ha hb he hc hx =>
      simp only [frz1] at hf
      cases nv with
      | true =>
        simp at hf
        split at hf <;> simp at hf
        subst hf
        exact .vl _ [] t a cap b off e cv hn ht ha (fun h => absurd rfl h) he hc fun k hk => by simp at hk
      | false =>
        simp at hf
        subst hf
        exact .vl _ rs t a cap b off e cv hn ht ha (fun h => hI rfl b (hb h)) he hc fun k hk j hj => VR.mono (hx k hk j hj) _ (fun i hi => hi.elim) fun b hb => ⟨hI rfl b hb, rfl⟩
    | ref _ i k o hi =>
      simp only [frz1] at hf
      split at hf
      · rename_i e rs hrow
        split at hf
        · rename_i r hrk
          split at hf <;> simp at hf
          rename_i r' hr'
          subst hf
          obtain ⟨g1, g2⟩ := optAll_get hr'
          simp only [rowAt, nth_eq] at hrow hrk
          split at hrow <;> simp at hrow
          rename_i e1 rs1 hblk
          obtain ⟨rfl, rfl⟩ := hrow
          obtain ⟨_, _, _, b1, b2, b3, c, el, b4, b5, b6⟩ := hr.blk i _ hblk
          have hcell : ∀ j, j < r.length → ∃ v, c[(E.ρ i).d + k * (E.ρ i).e + j]? = some v ∧ ∀ h : j < r.length, E.VR w r[j] v := fun j hj => by
            obtain ⟨v, hv, hvr⟩ := b6 k r hrk j r[j] (List.getElem?_eq_getElem hj)
            rw [← b1] at hv
            exact ⟨v, hv, fun _ => hvr⟩
          refine .pv _ r' o (E.ρ i).b ((E.ρ i).d + k * (E.ρ i).e) (fun j => c.getD ((E.ρ i).d + k * (E.ρ i).e + j) undef) (hD i _ hblk) (fun j hj => ?_) fun j hj => ?_
          · obtain ⟨v, hv, _⟩ := hcell j (by omega)
            simp [World.cell?, b4, hv, Array.getD_eq_getD_getElem?]
          · obtain ⟨v, hv, hvr⟩ := hcell j (by omega)
            have := ih (hvr (by omega)) (g2 j (by omega) hj)
            simpa [Array.getD_eq_getD_getElem?, hv] using this
        · simp at hf
      · simp at hf
    | sl _ i k n t a cap hi hn ht ha hs =>
      simp only [frz1] at hf
      split at hf
      · rename_i e rs hrow
        split at hf
        · rename_i hkn
          split at hf <;> simp at hf
          rename_i rs' hrs
          subst hf
          obtain ⟨g1, g2⟩ := optAll_get hrs
          simp only [rowAt, nth_eq] at hrow
          split at hrow <;> simp at hrow
          rename_i e1 rs1 hblk
          obtain ⟨rfl, rfl⟩ := hrow
          obtain ⟨_, _, _, b1, b2, b3, c, el, b4, b5, b6⟩ := hr.blk i _ hblk
          have hlen : ((List.drop k rs1).take n).length = n := by simp; omega
          have hl' : rs'.length = n := by omega
          have hrow : ∀ q (hq : q < n), rs1[k + q]? = some rs1[k + q] ∧ ((List.drop k rs1).take n)[q]'(by omega) = rs1[k + q] := fun q hq => ⟨List.getElem?_eq_getElem (by omega), by simp⟩
          have hel : ∀ q (hq : q < rs'.length), rs'[q].length = e1 := fun q hq => by
            have h1 := (optAll_get (g2 q (by omega) hq)).1
            rw [← h1, (hrow q (by omega)).2]
            exact b2 _ (List.getElem_mem _)
          have hcell : ∀ q (hq : q < n) j (hj : j < rs1[k + q].length), ∃ v, c[(E.ρ i).d + k * (E.ρ i).e + (q * (E.ρ i).e + j)]? = some v ∧ E.VR w rs1[k + q][j] v := fun q hq j hj => by
            obtain ⟨v, hv, hvr⟩ := b6 (k + q) _ (hrow q hq).1 j _ (List.getElem?_eq_getElem hj)
            refine ⟨v, ?_, hvr⟩
            rw [← hv, b1, Nat.add_mul]
            congr 1; omega
          rw [← hl']
          refine .vl _ rs' t a cap (E.ρ i).b ((E.ρ i).d + k * (E.ρ i).e) (E.ρ i).e (fun j => c.getD ((E.ρ i).d + k * (E.ρ i).e + j) undef) (by omega) (fun h => by rw [hl']; exact ht h) ha (fun _ => hD i _ hblk) (fun q hq => by rw [b1]; exact hel q hq) (fun j hj => ?_) fun q hq j hj => ?_
          · rw [hl'] at hj
            have he : 0 < (E.ρ i).e := Nat.pos_of_ne_zero fun h => by simp [h] at hj
            have hq : j / (E.ρ i).e < n := Nat.div_lt_of_lt_mul (by rw [Nat.mul_comm]; exact hj)
            have hm : j % (E.ρ i).e < rs1[k + j / (E.ρ i).e].length := by rw [b2 _ (List.getElem_mem _), ← b1]; exact Nat.mod_lt _ he
            obtain ⟨v, hv, _⟩ := hcell _ hq _ hm
            have hjj : j / (E.ρ i).e * (E.ρ i).e + j % (E.ρ i).e = j := Nat.div_add_mod' j _
            rw [hjj] at hv
            simp [World.cell?, b4, hv, Array.getD_eq_getD_getElem?]
          · obtain ⟨h1, h2⟩ := optAll_get (g2 q (by omega) hq)
            have e2 := (hrow q (by omega)).2
            have hj2 : j < rs1[k + q].length := by rw [b2 _ (List.getElem_mem _)]; rw [hel q hq] at hj; exact hj
            obtain ⟨v, hv, hvr⟩ := hcell q (by omega) j hj2
            have h3 := h2 j (by rw [h1]; exact hj) hj
            simp only [e2] at h3
            have := ih hvr h3
            simpa [Array.getD_eq_getD_getElem?, hv] using this
        · simp at hf
      · simp at hf

/-- What is known beforehand is so of every heap. -/
theorem orc_good {fn : CFn} {f : Nat} {args : List AVal} (horc : ∀ args v, fn.orc args = some v → OrcGood P G fn.frsh f args v) (ho : orcF fn args h = some v) : CallGood P G f args h v h := by
  intro E w cargs k hr hl
  -- what the run may look at, and what comes of it
  have main : ∀ (as : List AVal) (I0 : Nat → Prop), fn.orc as = some v → (∀ b, E.I b → I0 b) → (∀ b, I0 b → b < w.heap.size) → (fn.frsh = false → ∀ b, I0 b → E.I b) → Env.LR ⟨E.ρ, fun _ => False, fun _ => False, I0⟩ w as cargs → CallsIn (FW none) k P f cargs w (RetPost P G E w h.length v h) := by
    intro as I0 hv hI0 hI1 hI2 hl0
    have hr0 : Env.HR P G ⟨E.ρ, fun _ => False, fun _ => False, I0⟩ [] w :=
      ⟨fun i b hi => by simp at hi, fun i j b c hi => by simp at hi, fun i hi => hi.elim, fun b hb => hb.elim, fun b hb => ⟨hI1 b hb, fun h => h⟩, fun g r hg => by
        have := hr.glob g r hg
        generalize hp : Value.pointer (some ⟨g, 0, none⟩) = pv at this ⊢
        cases this with
        | pv _ _ _ b off cv hb hc h => exact .pv _ _ _ b off cv (hI0 b hb) hc fun j hj => VR.mono (h j hj) _ (fun i hi => hi.elim) fun b hb => ⟨hI0 b hb, rfl⟩⟩
    refine CallsIn.mono (horc as v hv _ w cargs k (fun _ h => h) (fun _ h => h) hr0 hl0) ?_
    rintro e w' ⟨u, I', rfl, h1, h2, h3, h4, h5, h6, h7⟩
    have hle : Le E w { E with I := fun b => E.I b ∨ I' b } w' :=
      ⟨h1, h2, h3, h4, fun i hi => ⟨hi, rfl⟩, fun b hb => .inl hb, fun b hb ho => ⟨h5 b hb, ho, fun hi => hi.elim id fun hi => by
        rcases (h6 b hi).2 with h | ⟨hf, h⟩
        · omega
        · exact hI2 hf b h⟩⟩
    refine ⟨u, { E with I := fun b => E.I b ∨ I' b }, rfl, hle, ⟨fun i b hi => ?_, hr.inj, hr.lt, fun b hb => Nat.lt_of_lt_of_le (hr.own b hb) h4, fun b hb => ?_, fun g r hg => hle.vr hr (hr.glob g r hg)⟩, ?_, fun _ h => .inl h, Nat.le_refl _⟩
    · obtain ⟨g1, g2, g3, g4⟩ := hr.blk i b hi
      exact ⟨g1, g2, Nat.lt_of_lt_of_le g3 h4, br_mono g4 rfl (h5 _ g3) fun _ _ hv => hle.vr hr hv⟩
    · rcases hb with hb | hb
      · exact ⟨Nat.lt_of_lt_of_le (hr.imm b hb).1 h4, (hr.imm b hb).2⟩
      · refine ⟨(h6 b hb).1, fun ho => ?_⟩
        rcases (h6 b hb).2 with h | ⟨hf, h⟩
        · have := hr.own b ho; omega
        · exact (hr.imm b (hI2 hf b h)).2 ho
    · exact VR.mono h7 _ (fun i hi => hi.elim) fun b hb => ⟨.inr hb, rfl⟩
  unfold orcF at ho
  split at ho
  · rename_i as has
    cases hfr : fn.frsh with
    | true =>
      simp only [hfr, if_true] at has
      obtain ⟨g1, g2⟩ := optAll_get has
      refine main as (fun b => b < w.heap.size) ho (fun b hb => (hr.imm b hb).1) (fun b hb => hb) (fun h => by simp [hfr] at h) ⟨by rw [← g1]; exact hl.1, fun j h1 h2 => ?_⟩
      exact frz_ok hr (fun i b hi => (hr.blk i b hi).2.2.1) (fun _ b hb => (hr.imm b hb).1) 5 (hl.2 j (by omega) h2) (g2 j (by omega) h1)
    | false =>
      simp only [hfr] at has
      simp at has
      obtain ⟨hx, rfl⟩ := has
      refine main args E.I ho (fun b hb => hb) (fun b hb => (hr.imm b hb).1) (fun _ b hb => hb) ⟨hl.1, fun j h1 h2 => ?_⟩
      have := VR.trim 5 (hl.2 j h1 h2) (hx _ (List.getElem_mem h1))
      exact VR.mono this _ (fun i hi => absurd hi.2 (by omega)) fun b hb => ⟨hb, rfl⟩
  · simp at ho

theorem call_good (hT : TabOk P G T) (hex : ∀ r c σ e σ', ex r c σ = some (e, σ') → Sound P G r c σ e σ') (f : Nat) (args : List AVal) (h : Heap) (v : AVal) (h' : Heap) (hc : callF T ex f args h = some (v, h')) : CallGood P G f args h v h' := by
  intro E w cargs k hr hl
  unfold callF at hc
  cases hTf : T f with
  | none => simp [hTf] at hc
  | some cf =>
  obtain ⟨fn, c, hfn, hb, hname, hcomp, hnt, hres, horc⟩ := hT f cf hTf
  simp only [hTf, appK_eq] at hc
  cases ho : orcF cf args h with
  | some v1 =>
    simp [ho, fA_eq] at hc
    obtain ⟨rfl, rfl⟩ := hc
    exact orc_good horc ho E w cargs k hr hl
  | none =>
  simp only [ho] at hc
  rw [fL_eq _ (fun _ _ => rfl)] at hc
  generalize ht0 : args ++ List.replicate (cf.ntmps - args.length) AVal.und = t0 at hc
  cases hrun : ex none cf.body ⟨t0, h⟩ with
  | none => simp [hrun] at hc
  | some p =>
  obtain ⟨e, σ⟩ := p
  have hne : ∀ id, e ≠ .exit id := fun id he => by subst he; simp [hrun] at hc
  cases hv : resA σ.t σ.h cf.res with
  | none => exfalso; cases e <;> simp [hrun, hv] at hc
  | some vs =>
  have hc' : tupA vs = v ∧ trim h.length [tupA vs] σ.h = h' := by
    cases e with
    | exit id => exact absurd rfl (hne id)
    | normal => simpa [hrun, hv, fA_eq, fN_eq, trimK_eq] using hc
    | ret => simpa [hrun, hv, fA_eq, fN_eq, trimK_eq] using hc
  obtain ⟨rfl, rfl⟩ := hc'
  have hlr : E.LR w t0 (cargs ++ Array.replicate (fn.ntmps - cargs.size) undef) := by
    subst ht0
    exact lr_app hl (replicate_lr _ _ (by rw [hnt, hl.1]))
  refine callsIn_of_wp_marks hfn hb trivial ?_
  refine wpIn_mono (hex _ _ _ _ _ hrun c E w _ k hcomp hr hlr (by simp)) ?_
  rintro x a' w' ⟨hx, E', hR⟩
  have key : LeavesInM (FW none) k P fn a'.tmps (RetPost P G E w h.length (tupA vs) (trim h.length [tupA vs] σ.h)) a'.defers .returning w' := by
    obtain ⟨bs, hbs, hnd, hall⟩ := hR.mks
    simp only [List.append_nil] at hbs
    rw [hbs]
    refine leaves (n := w.heap.size) (k := k) hres hv bs w' hR.nx.hr hR.lr hnd hall fun w2 u g1 g2 g3 g4 g5 g6 g7 => ?_
    have hx2 := nx_side hR.nx g1 g3 g4 g5 g6 fun b hb => g7 b (.inl hb)
    have hlu : E'.LR w2 [tupA vs] #[u] := ⟨rfl, fun j h1 h2 => by
      have : j = 0 := by simp at h1; omega
      subst this; exact g2⟩
    obtain ⟨E2, hx3, hl3, _⟩ := trim_ok hr hx2 hlu
    exact ⟨u, E2, rfl, hx3.le, hx3.hr, hl3.2 0 (by simp) (by simp), hx3.fr, hx3.len⟩
  cases e with
  | exit id => exact absurd rfl (hne id)
  | normal => subst hx; exact key
  | ret => subst hx; exact key

theorem zip_lr : ∀ (ps : List Nat) (args : List AVal) (cargs : List Value) (t : List AVal) (ct : Array Value), args.length = cargs.length → (∀ (j : Nat) (x : AVal) (u : Value), args[j]? = some x → cargs[j]? = some u → E.VR w x u) → E.LR w t ct →
    E.LR w (setAll t (ps.zip args)) ((ps.zip cargs).foldl (fun tmps (t, a) => tmps.setIfInBounds t a) ct)
  | [], _, _, t, ct, _, _, ht => by simpa [setAll] using ht
  | p :: ps, [], [], t, ct, _, _, ht => by simpa [setAll] using ht
  | p :: ps, [], _ :: _, _, _, hl, _, _ => by simp at hl
  | p :: ps, _ :: _, [], _, _, hl, _, _ => by simp at hl
  | p :: ps, x :: args, u :: cargs, t, ct, hl, hv, ht => by
    simp only [List.zip_cons_cons, setAll, List.foldl_cons]
    exact zip_lr ps args cargs _ _ (by simpa using hl) (fun j y z hy hz => hv (j + 1) y z (by simpa using hy) (by simpa using hz)) (lr_set ht (hv 0 x u rfl rfl))

theorem yield_good (hT : TabOk P G T) (hex : ∀ r c σ e σ', ex r c σ = some (e, σ') → Sound P G r c σ e σ') (i : Nat) (args : List AVal) (h : Heap) (v : AVal) (h' : Heap) (hc : yieldF ex i args h = some (v, h')) : YieldGood P G i args h v h' := by
  intro E w cargs k hr hl
  unfold yieldF at hc
  split at hc
  · rename_i t ps asg bd pd0 hi
    rw [nth_eq] at hi
    obtain ⟨hD, hO, hlt, L, hL, hLt, hLp, hLa, hLb, hLs, _⟩ := hr.blk i _ hi
    split at hc
    · rename_i hlen
      rw [setAllK_eq] at hc
      refine ⟨L, hL, ?_, ?_⟩
      · rw [← hl.1, hlen, ← hLp]; simp
      have hzip : E.LR w (setAll t (ps.zip args)) ((L.params.zip cargs).foldl (fun tmps (t, a) => tmps.setIfInBounds t a) L.tmps) := by
        have := zip_lr (E := E) (w := w) ps args cargs.toList t L.tmps (by simpa using hl.1) (fun j x u hx hu => by
          obtain ⟨g1, rfl⟩ := List.getElem?_eq_some_iff.1 hx
          obtain ⟨g2, rfl⟩ := List.getElem?_eq_some_iff.1 hu
          simp at g2
          simpa using hl.2 j g1 g2) hLt
        have e : (L.params.zip cargs).foldl (fun tmps (t, a) => tmps.setIfInBounds t a) L.tmps = (L.params.toList.zip cargs.toList).foldl (fun tmps (t, a) => tmps.setIfInBounds t a) L.tmps := by
          rw [← Array.foldl_toList, Array.toList_zip]
        rw [e, hLp]; exact this
      cases h1 : ex (some i) asg ⟨setAll t (ps.zip args), h⟩ with
      | none => simp [h1] at hc
      | some p1 =>
      obtain ⟨e1, σ1⟩ := p1
      cases e1 with
      | exit id => simp [h1] at hc
      | ret => simp [h1] at hc
      | normal =>
      simp only [h1] at hc
      split at hc
      · rename_i t2 ps2 as2 bd2 pd2 hi2
        rw [nth_eq] at hi2
        rw [setK_eq] at hc
        cases h2 : ex (some i) bd ⟨σ1.t, σ1.h.set i (some (.loop t2 ps2 as2 bd2 .busy pd2))⟩ with
        | none => simp [h2] at hc
        | some p2 =>
        obtain ⟨e2, σ2⟩ := p2
        simp only [h2] at hc
        split at hc
        · rename_i t3 ps3 as3 bd3 st3 pd3 hi3
          rw [nth_eq] at hi3
          refine roundIn_of_wpIn trivial ?_
          have hDi : ∀ j, some i = some j → E.D j := fun j hj => by simp at hj; subst hj; exact hD
          refine wpIn_mono (hex _ _ _ _ _ h1 L.assign E w _ k hLa hr hzip hDi) ?_
          rintro x a1 w1 ⟨hx, E1, hR1⟩
          simp only [exOf] at hx
          subst hx
          obtain ⟨hD1, hO1, hlt1, L1, hL1, hLt1, hLp1, hLa1, hLb1, hLs1, hLd1⟩ := hR1.nx.hr.blk i _ hi2
          have hρ1 : E1.ρ i = E.ρ i := (hR1.nx.le.D i hD).2
          rw [hρ1] at hL1 hlt1
          refine ⟨_, run_beginRound hL1 hLs1, ?_⟩
          obtain ⟨hle2, hr2⟩ := hr_upd (w' := w1.putObj (E.ρ i).b (.loop { L1 with state := .busy })) (b := .loop t2 ps2 as2 bd2 .busy pd2) hR1.nx.hr hi2 (fun k hk => World.putObj_heap_other (by rw [hρ1] at hk; exact hk)) World.putObj_size rfl rfl rfl (fun hle =>
            ⟨{ L1 with state := .busy }, by rw [hρ1]; exact World.putObj_heap_same hlt1, hle.lr hR1.nx.hr hLt1, hLp1, hLa1, hLb1, rfl, hLd1⟩)
          have hR2 : Run P G E h w [] E1 (σ1.h.set i (some (.loop t2 ps2 as2 bd2 .busy pd2))) (w1.putObj (E.ρ i).b (.loop { L1 with state := .busy })) σ1.t a1 :=
            ⟨hR1.nx.trans ⟨hle2, hr2, .refl _ _, by simp⟩, hle2.lr hR1.nx.hr hR1.lr, hR1.mks.le hle2⟩
          have hDi1 : ∀ j, some i = some j → E1.D j := fun j hj => by simp at hj; subst hj; exact hD1
          have hw := hex _ _ _ _ _ h2 L.body E1 _ a1 k hLb hr2 hR2.lr hDi1
          rw [fw_eq hR1.nx.le hDi] at hw
          refine wpIn_mono hw ?_
          rintro x a3 w3 hp
          obtain ⟨hx, E3, hR3⟩ := post_trans hR2 hp
          obtain ⟨hD3, hO3, hlt3, L3, hL3, hLt3, hLp3, hLa3, hLb3, hLs3, hLd3⟩ := hR3.nx.hr.blk i _ hi3
          have hρ3 : E3.ρ i = E.ρ i := (hR3.nx.le.D i hD).2
          rw [hρ3] at hL3 hlt3
          have fin : ∀ (st : LoopState) (pd : Option CC) (pc : Option Code), pendR pd pc → Nx P G E h w E3 (σ2.h.set i (some (.loop t3 ps3 as3 bd3 st pd))) (w3.putObj (E.ρ i).b (.loop { L3 with state := st, pending := pc })) := fun st pd pc hpd => by
            obtain ⟨hle4, hr4⟩ := hr_upd (w' := w3.putObj (E.ρ i).b (.loop { L3 with state := st, pending := pc })) (b := .loop t3 ps3 as3 bd3 st pd) hR3.nx.hr hi3 (fun k hk => World.putObj_heap_other (by rw [hρ3] at hk; exact hk)) World.putObj_size rfl rfl rfl (fun hle =>
              ⟨{ L3 with state := st, pending := pc }, by rw [hρ3]; exact World.putObj_heap_same hlt3, hle.lr hR3.nx.hr hLt3, hLp3, hLa3, hLb3, rfl, hpd⟩)
            exact hR3.nx.trans ⟨hle4, hr4, .refl _ _, by simp⟩
          cases e2 with
          | normal =>
            simp only [exOf] at hx
            subst hx
            simp only [setK_eq, fN_eq, trimK_eq] at hc
            simp at hc
            obtain ⟨rfl, rfl⟩ := hc
            have hx4 := fin .ready none none trivial
            obtain ⟨E5, hx5, _⟩ := trim_ok (vs := []) (cs := #[]) hr hx4 ⟨rfl, fun j h1 => by simp at h1⟩
            exact ⟨_, _, run_endRound none hL3, .bool true, E5, rfl, hx5.le, hx5.hr, .bool _ true, hx5.fr, hx5.len⟩
          | ret =>
            simp only [exOf] at hx
            subst hx
            simp only [setK_eq] at hc
            simp at hc
            obtain ⟨rfl, rfl⟩ := hc
            have hx4 := fin .done (some .ret) (some .ret) trivial
            exact ⟨_, _, run_endRound (some .ret) hL3, .bool false, E3, rfl, hx4.le, hx4.hr, .bool _ false, hx4.fr, hx4.len⟩
          | exit id =>
            simp only [exOf] at hx
            subst hx
            simp only [setK_eq] at hc
            simp at hc
            obtain ⟨rfl, rfl⟩ := hc
            have hx4 := fin .done (some (.exit id)) (some (.exit id)) rfl
            exact ⟨_, _, run_endRound (some (.exit id)) hL3, .bool false, E3, rfl, hx4.le, hx4.hr, .bool _ false, hx4.fr, hx4.len⟩
        · simp at hc
      · simp at hc
    · simp at hc
  · simp at hc

end
end Go.Abs

namespace Go.Abs
open Go

section
variable {P : Program} {G : Nat → Option (List AVal)} {T : Nat → Option CFn} {ex : Option Nat → CC → St → Option (AEx × St)} {E E' E1 : Env} {h h' h1 : Heap} {w w' w1 : World} {t t1 : List AVal} {a a' a1 : Act} {d : List Deferred} {e : AEx} {σ σ' : St} {c : CC} {v : AVal}

def SoundLoop (P : Program) (G : Nat → Option (List AVal)) (n : Nat) (r : Option Nat) (c : CC) (σ : St) (e : AEx) (σ' : St) : Prop :=
  ∀ (p : Code) (E : Env) (w : World) (a : Act) (k : Nat), compC P G p = some (strip c) → E.HR P G σ.h w → E.LR w σ.t a.tmps → (∀ i, r = some i → E.D i) → Code.roundsIn (FW (r.map fun i => (E.ρ i).b)) k P p (Post P G E σ.h w a.defers e σ') n a w

theorem roundsIn_mono {F : Fence} {k : Nat} {p : Code} {Q Q' : Exit → Act → World → Prop} (hq : ∀ e a w, Q e a w → Q' e a w) : ∀ (n : Nat) (a : Act) (w : World), Code.roundsIn F k P p Q n a w → Code.roundsIn F k P p Q' n a w
  | 0, _, _, h => h.elim
  | n + 1, a, w, h => wpIn_mono h fun e a w q => by
    cases e with
    | normal => exact roundsIn_mono hq n a w q
    | _ => exact hq _ _ _ q

theorem then_post {K : Act → World → Prop} {Q : Exit → Act → World → Prop} {x : Exit} (hp : Post P G E h w d e σ' x a' w') (hn : e = .normal → ∀ E', Run P G E h w d E' σ'.h w' σ'.t a' → K a' w') (hq : e ≠ .normal → Q (exOf e) a' w') : Exit.then K Q x a' w' := by
  obtain ⟨rfl, E', hr⟩ := hp
  cases e with
  | normal => exact hn rfl E' hr
  | exit id => exact hq (by simp)
  | ret => exact hq (by simp)

theorem go_skip (hr : E.HR P G σ.h w) (ht : E.LR w σ.t a.tmps) : Post P G E σ.h w a.defers .normal σ .normal a w := ⟨rfl, E, .refl hr ht⟩

/-- The back-edge of a loop: temporaries that nothing reads any more, and blocks that nothing points at any more, are forgotten. -/
theorem go_back (hr : E.HR P G h w) (hR : Run P G E h w d E' h' w' t1 a') (keep : Nat) : ∃ E2, Run P G E h w d E2 (trim h.length (kill t1 keep) h') w' (kill t1 keep) a' := by
  obtain ⟨E2, h1, h2, h3, h4, _⟩ := trim_ok hr hR.nx (kill_lr t1 keep _ hR.lr)
  refine ⟨E2, h1, h2, ?_⟩
  obtain ⟨bs, g1, g2, g3⟩ := hR.mks
  exact ⟨bs, g1, g2, fun b hb => by rw [h3, h4]; exact g3 b hb⟩

theorem loop_step (n : Nat) {r : Option Nat} {keep : Nat} (hex : ∀ r c σ e σ', ex r c σ = some (e, σ') → Sound P G r c σ e σ') (hlp : ∀ σ e σ', ex r (.loop keep c) σ = some (e, σ') → SoundLoop P G n r c σ e σ')
    (h : exec1 P T ex r (.loop keep c) σ = some (e, σ')) : SoundLoop P G (n + 1) r c σ e σ' := by
  intro p E w a k hp hr ht hd
  simp only [exec1, killK_eq] at h
  rw [roundsIn_succ]
  have ht0 := kill_lr σ.t keep _ ht
  cases h1 : ex r c ⟨kill σ.t keep, σ.h⟩ with
  | none => simp [h1] at h
  | some q =>
  obtain ⟨e1, σ1⟩ := q
  refine wpIn_mono (hex _ _ _ _ _ h1 p E w a k hp hr ht0 hd) fun x a' w' hpost => ?_
  by_cases he : e1 = .normal
  · subst he
    simp only [h1, killK_eq, fN_eq, trimK_eq] at h
    refine then_post hpost (fun _ E' hR => ?_) (fun h => absurd rfl h)
    obtain ⟨E2, hR2⟩ := go_back hr hR keep
    have hd2 : ∀ i, r = some i → E2.D i := fun i hi => (hR2.nx.le.D i (hd i hi)).1
    have := hlp _ _ _ h p E2 w' a' k hp hR2.nx.hr hR2.lr hd2
    rw [fw_eq hR2.nx.le hd] at this
    exact roundsIn_mono (fun x a2 w2 hq => post_trans hR2 hq) n a' w' this
  · have hh : some (e1, σ1) = some (e, σ') := by
      cases e1 with
      | normal => exact absurd rfl he
      | _ => simpa [h1] using h
    simp at hh
    obtain ⟨rfl, rfl⟩ := hh
    obtain ⟨hx, E', hR⟩ := hpost
    exact then_post ⟨hx, E', hR⟩ (fun h => absurd h he) fun _ => ⟨rfl, E', hR⟩

theorem le_alloc (E : Env) (w : World) (ob : Obj) (hr : ∀ b, E.O b → b < w.heap.size) : Le E w E (w.alloc ob) :=
  ⟨rfl, rfl, rfl, by simp, fun _ h => ⟨h, rfl⟩, fun _ h => h, fun b hb ho => ⟨heap_alloc_old w ob hb, ho, fun h => h⟩⟩

/-- The loop's record is laid. -/
theorem enter_ok (hr : E.HR P G h w) (ht : E.LR w t a.tmps) {fn : FuncId} {qs : Array Tmp} {p q : Code} {asg bd : CC} (hp : compC P G p = some (strip asg)) (hq : compC P G q = some (strip bd)) {r : Option Nat} (hin : inLoop r h = true) :
    ∃ (lb : Nat) (mark : List Deferred) (w1 : World), (Instr.enterLoop fn a.tmps qs p q (r.map fun i => (E.ρ i).b)).run P w = .ok (lb, mark) w1 ∧
      Nx P G E h w (E.add h.length ⟨lb, 0, 0, 0⟩) (h ++ [some (.loop t qs.toList asg bd .ready none)]) w1 ∧ Mk w.heap.size (E.add h.length ⟨lb, 0, 0, 0⟩) w1 d (mark ++ d) := by
  have hD : ¬ E.D h.length := fun hd => Nat.lt_irrefl _ (hr.lt _ hd)
  have fin : ∀ (w0 : World) (L : Loop), Le E w E w0 → (∀ b, b < w.heap.size → w0.heap[b]? = w.heap[b]?) → L.state = .ready → L.pending = none → L.tmps = a.tmps → L.params = qs → L.assign = p → L.body = q →
      Nx P G E h w (E.add h.length ⟨w0.heap.size, 0, 0, 0⟩) (h ++ [some (.loop t qs.toList asg bd .ready none)]) (w0.alloc (.loop L)) := by
    intro w0 L hle hk l1 l2 l3 l4 l5 l6
    have hs := hle.size
    have hle1 := hle.trans (le_add E w0 (.loop L) h.length ⟨w0.heap.size, 0, 0, 0⟩ hD rfl)
    have hlt : ∀ {j c}, h[j]? = some (some c) → (E.ρ j).b < w.heap.size := fun hj => (hr.blk _ _ hj).2.2.1
    refine ⟨hle1, hr_push hr hle1 h rfl (fun j c hj => ⟨hj, ?_, by have := hlt hj; simp only; omega⟩) (by simp) (fun hI => by have := (hr.imm _ hI).1; simp only at this; omega) ⟨L, ?_, ?_, by rw [l4], by rw [l5]; exact hp, by rw [l6]; exact hq, l1, by rw [l2]; trivial⟩, .add _ _ _ (Nat.le_refl _), by simp⟩
    · rw [heap_alloc_old w0 _ (Nat.lt_of_lt_of_le (hlt hj) hs)]
      exact hk _ (hlt hj)
    · rw [add_ρ]; exact heap_alloc_new w0 _
    · rw [l3]; exact hle1.lr hr ht
  cases r with
  | none =>
    have hle := le_alloc E w (.deferred (some [])) hr.own
    refine ⟨w.heap.size + 1, [mkd w.heap.size], _, run_enterLoop_outer fn a.tmps qs p q, ?_, ?_⟩
    · have := fin (w.alloc (.deferred (some []))) { state := .ready, pending := none, fn, tmps := a.tmps, params := qs, assign := p, body := q, defers := w.heap.size } hle (fun b hb => heap_alloc_old w _ hb) rfl rfl rfl rfl rfl rfl
      simpa using this
    · refine ⟨[w.heap.size], rfl, by simp, fun b hb => ?_⟩
      have hb' : b = w.heap.size := by simpa using hb
      subst hb'
      refine ⟨Nat.le_refl _, by simp; omega, ?_, ?_, ?_⟩
      · rw [heap_alloc_old _ _ (by simp)]; exact heap_alloc_new w _
      · rintro (h1 | h1)
        · exact Nat.lt_irrefl _ (hr.own _ h1)
        · simp only at h1; omega
      · intro h1; exact Nat.lt_irrefl _ (hr.imm _ h1).1
  | some i =>
    simp only [inLoop, nth_eq] at hin
    split at hin
    · rename_i t' ps' asg' bd' st' pd' hi
      obtain ⟨_, _, _, L0, hL0, _⟩ := hr.blk i _ hi
      refine ⟨w.heap.size, [], _, run_enterLoop_inner hL0 fn a.tmps qs p q, ?_, .refl _ _ _ _⟩
      exact fin w { state := .ready, pending := none, fn, tmps := a.tmps, params := qs, assign := p, body := q, defers := L0.defers } (.refl _ _) (fun _ _ => rfl) rfl rfl rfl rfl rfl rfl
    · simp at hin

/-- A range over a function. -/
theorem rf_step (hT : TabOk P G T) (hex : ∀ r c σ e σ', ex r c σ = some (e, σ') → Sound P G r c σ e σ') {r : Option Nat} {g : CV} {ps : List Nat} {asg bd : CC}
    (h : exec1 P T ex r (.rf g ps asg bd) σ = some (e, σ')) : Sound P G r (.rf g ps asg bd) σ e σ' := by
  intro code E w a k hc hr ht hd
  obtain ⟨o, qs, p, q, rfl, rfl, hg, hp, hq⟩ := co_rf hc
  simp only [exec1] at h
  split at h
  · rename_i f fa fb hin hev
    simp only [fN_eq, appK_eq] at h
    cases hcl : callF T ex f (fa ++ [.yld σ.h.length] ++ fb) (σ.h ++ [some (.loop σ.t qs.toList asg bd .ready none)]) with
    | none => rw [hcl] at h; simp at h
    | some z =>
    obtain ⟨x, h2⟩ := z
    rw [hcl] at h
    simp only at h
    split at h
    · rename_i t' ps' asg' bd' st pd hn
      rw [nth_eq] at hn
      split at h
      · simp at h
      · rename_i hst
        refine wpIn_rangeFunc fun fn _ => ?_
        obtain ⟨lb, mark, w1, he, hx1, hmk⟩ := enter_ok (d := a.defers) hr ht (fn := fn) (qs := qs) hp hq hin
        have hcallg := call_good hT hex f _ _ _ _ hcl
        have hvf := ev_vr hr ht hg hev
        obtain ⟨ca, cb, e1, l1, l2⟩ := VR.fn_inv hvf
        obtain ⟨cf, hcf⟩ : ∃ cf, T f = some cf := by
          cases hg : T f with
          | none => simp [callF, hg] at hcl
          | some cf => exact ⟨cf, rfl⟩
        obtain ⟨fnn, c, hfn, hbody, hname, _⟩ := hT f cf hcf
        have hname' : ¬ fnn.name = "runtime.NumGoroutine" := by simpa using hname
        have hl1 : (E.add σ.h.length ⟨lb, 0, 0, 0⟩).LR w1 fa ca := hx1.le.lr hr l1
        have hl2 : (E.add σ.h.length ⟨lb, 0, 0, 0⟩).LR w1 fb cb := hx1.le.lr hr l2
        have hly : (E.add σ.h.length ⟨lb, 0, 0, 0⟩).LR w1 [.yld σ.h.length] #[.func (.yield lb) #[] #[]] := ⟨rfl, fun j h1 h2 => by
          have : j = 0 := by simp at h1; omega
          subst this
          have := VR.yld (ρ := (E.add σ.h.length ⟨lb, 0, 0, 0⟩).ρ) (I := (E.add σ.h.length ⟨lb, 0, 0, 0⟩).I) (w := w1) (E.add σ.h.length ⟨lb, 0, 0, 0⟩).D σ.h.length (.inr rfl)
          rw [add_ρ] at this
          exact this⟩
        have hcalls := hcallg _ w1 (ca ++ #[.func (.yield lb) #[] #[]] ++ cb) (k - 1) hx1.hr (lr_app (lr_app hl1 hly) hl2)
        refine ⟨lb, mark, w1, { target := .fn (.func f) cb, args := ca ++ #[.func (.yield lb) #[] #[]] }, w1, f, ca ++ #[.func (.yield lb) #[] #[]] ++ cb, w1, he, ?_, fun _ _ => trivial, ?_, fun h => by simp at h, ?_⟩
        · have hev' : a.eval o = .func (.func f) ca cb := e1
          simp [resolve, rangeCall, hev', Deferred.ofValue]
          rfl
        · simp [invoke, callFunc, hfn, hname', hbody]
        · refine CallsIn.mono hcalls ?_
          rintro en w3 ⟨u, E3, rfl, hle3, hr3, hu3, hf3, hlen3⟩
          have hR3 : Nx P G E σ.h w E3 h2 w3 := hx1.trans ⟨hle3, hr3, hf3, hlen3⟩
          obtain ⟨hD3, hO3, hlt3, L3, hL3, hLt3, hLp3, hLa3, hLb3, hLs3, hLd3⟩ := hr3.blk _ _ hn
          have hρ3 : E3.ρ σ.h.length = ⟨lb, 0, 0, 0⟩ := by rw [(hle3.D _ (.inr rfl)).2, add_ρ]
          rw [hρ3] at hL3 hlt3 hO3
          simp only at hL3 hlt3 hO3
          have hx4 : Nx P G E3 h2 w3 E3 (h2.set σ.h.length none) (w3.putObj lb (.loop { L3 with state := .exhausted })) := by
            have hle4 : Le E3 w3 E3 (w3.putObj lb (.loop { L3 with state := .exhausted })) := ⟨rfl, rfl, rfl, by simp, fun _ h => ⟨h, rfl⟩, fun _ h => h, fun b hb ho => ⟨World.putObj_heap_other fun e => ho (e ▸ hO3), ho, fun h => h⟩⟩
            have get : ∀ {i b}, (h2.set σ.h.length none)[i]? = some (some b) → h2[i]? = some (some b) ∧ i ≠ σ.h.length := fun {i b} hi => by
              by_cases e : σ.h.length = i
              · subst e
                have := (List.getElem?_eq_some_iff.1 hn).1
                rw [List.getElem?_set_self this] at hi; simp at hi
              · rw [List.getElem?_set_ne e] at hi; exact ⟨hi, fun h => e h.symm⟩
            refine ⟨hle4, ⟨fun i b hi => ?_, fun i j b c hi hj he => hr3.inj i j b c (get hi).1 (get hj).1 he, fun i hi => by simpa using hr3.lt i hi, fun b hb => by rw [World.putObj_size]; exact hr3.own b hb, fun b hb => by rw [World.putObj_size]; exact hr3.imm b hb, fun g r hg => hle4.vr hr3 (hr3.glob g r hg)⟩, .refl _ _, by simp⟩
            obtain ⟨g1, g2⟩ := get hi
            obtain ⟨b1, b2, b3, b4⟩ := hr3.blk i b g1
            exact ⟨b1, b2, by rw [World.putObj_size]; exact b3, br_mono b4 rfl (World.putObj_heap_other fun e => g2 (hr3.inj i _ _ _ g1 hn (by rw [e, hρ3]))) fun _ _ hv => hle4.vr hr3 hv⟩
          have hR4 : Run P G E σ.h w a.defers E3 (h2.set σ.h.length none) (w3.putObj lb (.loop { L3 with state := .exhausted })) σ.t { a with defers := mark ++ a.defers } :=
            ⟨hR3.trans hx4, (hR3.trans hx4).le.lr hr ht, (hmk.le hle3).le hx4.le⟩
          have hst' : L3.state ≠ .busy := by rw [hLs3]; exact hst
          refine ⟨_, _, run_endLoop hL3 hst', ?_⟩
          generalize w3.putObj lb (.loop { L3 with state := .exhausted }) = w4 at hR4 ⊢
          cases pd with
          | none =>
            simp only [setK_eq] at h
            simp at h
            obtain ⟨rfl, rfl⟩ := h
            cases hpend : L3.pending with
            | none => exact ⟨rfl, E3, hR4⟩
            | some c => rw [hpend] at hLd3; exact hLd3.elim
          | some c =>
            simp only [setK_eq] at h
            have hd4 : ∀ i, r = some i → E3.D i := fun i hi => (hR4.nx.le.D i (hd i hi)).1
            cases hpend : L3.pending with
            | none => rw [hpend] at hLd3; cases c <;> exact hLd3.elim
            | some c' =>
              rw [hpend] at hLd3
              have hcc : compC P G c' = some (strip c) := by
                cases c <;> cases c' <;> simp only [pendR] at hLd3 <;> first | exact hLd3.elim | rfl | (subst hLd3; rfl)
              have := hex _ _ _ _ _ h c' E3 _ { a with defers := mark ++ a.defers } k hcc hR4.nx.hr hR4.lr hd4
              rw [fw_eq hR4.nx.le hd] at this
              exact wpIn_mono this fun x a2 w2 hq => post_trans hR4 hq
    · simp at h
  · simp at h

end
end Go.Abs

namespace Go.Abs
open Go

section
variable {P : Program} {G : Nat → Option (List AVal)} {T : Nat → Option CFn} {ex : Option Nat → CC → St → Option (AEx × St)} {E E' E0 : Env} {h h' h0 : Heap} {w w' w0 : World} {t t' : List AVal} {tmps : Array Value} {a a' : Act} {d : List Deferred} {e : AEx} {σ σ' : St} {c : CC} {v : AVal}

theorem br_move {i j : Nat} {b : Blk} (hb : E.BR P G w i b) (hρ : E'.ρ j = E.ρ i) (hv : ∀ v cv, E.VR w v cv → E'.VR w v cv) : E'.BR P G w j b := by
  cases b with
  | row e rs =>
    obtain ⟨h1, h2, h3, c, el, h4, h5, h6⟩ := hb
    refine ⟨by rw [hρ]; exact h1, h2, by rw [hρ]; exact h3, c, el, by rw [hρ]; exact h4, by rw [hρ]; exact h5, fun k r hk j x hj => ?_⟩
    obtain ⟨u, h7, h8⟩ := h6 k r hk j x hj
    exact ⟨u, by rw [hρ]; exact h7, hv _ _ h8⟩
  | map es c =>
    obtain ⟨ces, h1, h2, h3⟩ := hb
    refine ⟨ces, by rw [hρ]; exact h1, h2, fun j k v b hj => ?_⟩
    obtain ⟨ce, g1, g2, g3, g4⟩ := h3 j k v b hj
    exact ⟨ce, g1, hv _ _ g2, hv _ _ g3, g4⟩
  | loop t ps asg bd st pd =>
    obtain ⟨L, h1, h2, h3⟩ := hb
    exact ⟨L, by rw [hρ]; exact h1, ⟨h2.1, fun j a b => hv _ _ (h2.2 j a b)⟩, h3⟩

/-- What concretely lies at a place. -/
def At (E : Env) (w : World) (tmps : Array Value) : RL → Value → Prop
  | .slot s, cv => ∀ x, tmps[s]? = some x → x = cv
  | .cell i k o, cv => ∀ (c : Array Value) (el : TypeId), w.heap[(E.ρ i).b]? = some (.cells c el (0, 0)) → ∀ x, c[(E.ρ i).d + k * (E.ρ i).e + o]? = some x → x = cv

theorem lr_putG {s : Nat} {cv : Value} (ht : E.LR w t tmps) (ha : At E w tmps (.slot s) cv) (hv : E.VR w v cv) : E.LR w (t.set s v) tmps := by
  rw [lr_iff] at *
  refine ⟨by simp [ht.1], fun j x u h1 h2 => ?_⟩
  by_cases e : s = j
  · subst e
    have hs : s < t.length := by simpa using (List.getElem?_eq_some_iff.1 h1).1
    rw [List.getElem?_set_self hs] at h1
    simp at h1; subst h1
    rw [ha u h2]; exact hv
  · rw [List.getElem?_set_ne e] at h1
    exact ht.2 j x u h1 h2

/-- A value is put at a place where it lies concretely. -/
theorem put_ok (hr : E.HR P G h w) (ht : E.LR w t tmps) {p : RL} {cv : Value} (ha : At E w tmps p cv) (hv : E.VR w v cv) (hp : putR v t h p = some (t', h')) :
    E.HR P G h' w ∧ E.LR w t' tmps ∧ h'.length = h.length ∧ ∀ (i : Nat) (c : Blk), h'[i]? = some (some c) → ∃ c', h[i]? = some (some c') := by
  cases p with
  | slot s =>
    simp only [putR, Option.some.injEq, Prod.mk.injEq] at hp
    obtain ⟨rfl, rfl⟩ := hp
    exact ⟨hr, lr_putG ht ha hv, rfl, fun i c hi => ⟨c, hi⟩⟩
  | cell i k o =>
    simp only [putR] at hp
    split at hp
    · rename_i e rs hrow
      split at hp <;> simp at hp
      rename_i r hk
      obtain ⟨rfl, rfl⟩ := hp
      have hi := rowAt_some hrow
      rw [nth_eq] at hk
      obtain ⟨_, hlen, hrs⟩ := hr.blk i _ hi
      refine ⟨(hr_upd (w' := w) hr hi (fun _ _ => rfl) rfl rfl rfl rfl (fun _ => ?_)).2, ht, by simp, fun j c hj => ?_⟩
      · obtain ⟨_, _, _, b1, b2, b3, c, el, b4, b5, b6⟩ := hr.blk i _ hi
        refine ⟨b1, fun q hq => ?_, by simpa using b3, c, el, b4, b5, fun k' r' hk' j x hj => ?_⟩
        · rcases List.mem_or_eq_of_mem_set hq with hq | rfl
          · exact b2 q hq
          · simp; exact b2 r (List.mem_of_getElem? hk)
        · by_cases hkk : k = k'
          · subst hkk
            have hlt : k < rs.length := (List.getElem?_eq_some_iff.1 hk).1
            rw [List.getElem?_set_self hlt] at hk'
            simp at hk'; subst hk'
            by_cases hoj : o = j
            · subst hoj
              have ho : o < r.length := by simpa using (List.getElem?_eq_some_iff.1 hj).1
              rw [List.getElem?_set_self ho] at hj
              simp at hj; subst hj
              obtain ⟨u, g1, g2⟩ := b6 k r hk o _ (List.getElem?_eq_getElem ho)
              refine ⟨u, g1, ?_⟩
              have := ha c el b4 u (by rw [← g1, b1])
              rw [this]; exact hv
            · rw [List.getElem?_set_ne hoj] at hj
              exact b6 k r hk j x hj
          · rw [List.getElem?_set_ne hkk] at hk'
            exact b6 k' r' hk' j x hj
      · by_cases hij : i = j
        · subst hij; exact ⟨_, hi⟩
        · rw [List.getElem?_set_ne hij] at hj; exact ⟨c, hj⟩
    · simp at hp

/-- A block is let go. -/
theorem drop_ok (hr : E.HR P G h w) (b : Nat) : E.HR P G (h.set b none) w := by
  have get : ∀ {i c}, (h.set b none)[i]? = some (some c) → h[i]? = some (some c) := fun {i c} hi => by
    by_cases e : b = i
    · subst e
      by_cases hb : b < h.length
      · rw [List.getElem?_set_self hb] at hi; simp at hi
      · rw [List.getElem?_eq_none (by simp; omega)] at hi; simp at hi
    · rwa [List.getElem?_set_ne e] at hi
  exact ⟨fun i c hi => hr.blk i c (get hi), fun i j c d hi hj he => hr.inj i j c d (get hi) (get hj) he, fun i hi => by simpa using hr.lt i hi, hr.own, hr.imm, hr.glob⟩

/-- A slice of a block that lies at l. -/
def SlAt (l : Loc) (k n : Nat) (t : Bool) (cv : Value) : Prop := ∃ a cap, cv = .slice (some a) n cap ∧ n ≤ cap ∧ (t = true → cap = n) ∧ (cap = 0 ∨ a = ⟨l.b, l.d + k * l.e, none⟩) ∧ l.d + (k + cap) * l.e ≤ l.s

/-- What has been taken out: where it lies, and that nothing that is left lies there. -/
def AccOk (P : Program) (G : Nat → Option (List AVal)) (E : Env) (w : World) (tmps : Array Value) (hF : Heap) : List (Option GA) → Prop
  | [] => True
  | none :: acc => AccOk P G E w tmps hF acc
  | some x :: acc => ((∃ cv, At E w tmps x.p cv ∧ SlAt (E.ρ x.b) x.k x.n x.tt cv) ∧ E.O (E.ρ x.b).b ∧ (E.ρ x.b).b < w.heap.size ∧ E.BR P G w x.b x.blk ∧ (∀ i c, hF[i]? = some (some c) → (E.ρ i).b ≠ (E.ρ x.b).b) ∧
      ∀ y, some y ∈ acc → (E.ρ y.b).b ≠ (E.ρ x.b).b) ∧ AccOk P G E w tmps hF acc

theorem at_of (hr : E.HR P G h w) (ht : E.LR w t tmps) {p : RL} (hp : getR t h p = some v) : ∃ cv, At E w tmps p cv ∧ E.VR w v cv := by
  cases p with
  | slot s =>
    simp only [getR, nth_eq] at hp
    have h1 := (List.getElem?_eq_some_iff.1 hp).1
    have h2 : s < tmps.size := ht.1 ▸ h1
    refine ⟨tmps[s], fun x hx => ?_, ?_⟩
    · rw [Array.getElem?_eq_getElem h2] at hx; simpa using hx.symm
    · have := ht.2 s h1 h2
      rw [List.getElem?_eq_getElem h1] at hp
      simp at hp; subst hp; exact this
  | cell i k o =>
    simp only [getR] at hp
    split at hp
    · rename_i e rs hrow
      split at hp <;> (try (simp at hp; done))
      rename_i r hk
      rw [nth_eq] at hk hp
      obtain ⟨_, _, _, b1, b2, b3, c, el, b4, b5, b6⟩ := hr.blk i _ (rowAt_some hrow)
      obtain ⟨u, g1, g2⟩ := b6 k r hk o v hp
      refine ⟨u, fun c' el' hc x hx => ?_, g2⟩
      rw [b4] at hc
      simp at hc
      obtain ⟨rfl, rfl⟩ := hc
      rw [b1, g1] at hx
      simpa using hx.symm
    · simp at hp

theorem take_ok : ∀ (gs : List GL) (t : List AVal) (h : Heap) (t1 : List AVal) (h1 : Heap) (acc : List (Option GA)), E.HR P G h w → E.LR w t tmps → takeG gs t h = some (t1, h1, acc) →
    E.HR P G h1 w ∧ E.LR w t1 tmps ∧ h1.length = h.length ∧ (∀ (i : Nat) (c : Blk), h1[i]? = some (some c) → ∃ c', h[i]? = some (some c')) ∧ AccOk P G E w tmps h1 acc ∧ (∀ y : GA, some y ∈ acc → ∃ c', h[y.b]? = some (some c'))
  | [], t, h, t1, h1, acc, hr, ht, hg => by
    simp only [takeG, Option.some.injEq, Prod.mk.injEq] at hg
    obtain ⟨rfl, rfl, rfl⟩ := hg
    exact ⟨hr, ht, rfl, fun i c hi => ⟨c, hi⟩, trivial, by simp⟩
  | g :: gs, t, h, t1, h1, acc, hr, ht, hg => by
    simp only [takeG] at hg
    split at hg
    · rename_i p hp
      split at hg
      · rename_i b k n tt hget
        split at hg
        · rename_i e rs hrow
          split at hg
          · rename_i t2 h2 hput
            split at hg <;> simp at hg
            rename_i t3 h3 acc3 htk
            obtain ⟨rfl, rfl, rfl⟩ := hg
            have hb := rowAt_some hrow
            obtain ⟨cv, hat, hv⟩ := at_of hr ht hget
            obtain ⟨aa, cap, hcv, hD, q1, q2, q3, q4⟩ := VR.sl_inv hv
            obtain ⟨x1, x2, x3, x4⟩ := put_ok (drop_ok hr b) ht hat (.any _ _) hput
            obtain ⟨y1, y2, y3, y4, y5, y6⟩ := take_ok gs t2 h2 t3 h3 acc3 x1 x2 htk
            have sub : ∀ i c, h2[i]? = some (some c) → i ≠ b ∧ ∃ c', h[i]? = some (some c') := fun i c hi => by
              obtain ⟨c', hc'⟩ := x4 i c hi
              have hib : i ≠ b := by
                intro e; subst e
                rw [List.getElem?_set_self (List.getElem?_eq_some_iff.1 hb).1] at hc'; simp at hc'
              refine ⟨hib, c', ?_⟩
              rwa [List.getElem?_set_ne (fun e => hib e.symm)] at hc'
            obtain ⟨b1, b2, b3, b4⟩ := hr.blk b _ hb
            refine ⟨y1, y2, by rw [y3, x3]; simp, fun i c hi => ?_, ⟨⟨⟨cv, hat, aa, cap, hcv, q1, q2, q3, q4⟩, b2, b3, b4, fun i c hi he => ?_, fun y hy he => ?_⟩, y5⟩, fun y hy => ?_⟩
            · obtain ⟨c', hc'⟩ := y4 i c hi
              exact (sub i c' hc').2
            · obtain ⟨c', hc'⟩ := y4 i c hi
              obtain ⟨hne, c2, hc2⟩ := sub i c' hc'
              exact hne (hr.inj i b _ _ hc2 hb he)
            · obtain ⟨c', hc'⟩ := y6 y hy
              obtain ⟨hne, c2, hc2⟩ := sub y.b c' hc'
              exact hne (hr.inj y.b b _ _ hc2 hb he)
            · rcases List.mem_cons.1 hy with e | hy
              · simp at e; subst e; exact ⟨_, hb⟩
              · obtain ⟨c', hc'⟩ := y6 y hy
                exact (sub y.b c' hc').2
          · simp at hg
        · simp at hg
      · split at hg <;> simp at hg
        rename_i t3 h3 acc3 htk
        obtain ⟨rfl, rfl, rfl⟩ := hg
        obtain ⟨y1, y2, y3, y4, y5, y6⟩ := take_ok gs t h t3 h3 acc3 hr ht htk
        exact ⟨y1, y2, y3, y4, y5, fun y hy => by
          rcases List.mem_cons.1 hy with e | hy
          · simp at e
          · exact y6 y hy⟩
      · simp at hg
    · simp at hg

theorem at_add {n : Nat} {l : Loc} {p : RL} {cv : Value} (ha : At E w tmps p cv) (hp : ∀ i k o, p = .cell i k o → i ≠ n) : At (E.add n l) w tmps p cv := by
  cases p with
  | slot s => exact ha
  | cell i k o =>
    have : (E.add n l).ρ i = E.ρ i := by simp [Env.add, hp i k o rfl]
    simp only [At] at *
    rw [this]; exact ha

/-- A block of the run gets a new number. -/
theorem renum_ok (hr : E.HR P G h w) {l : Loc} {b : Blk} (hO : E.O l.b) (hlt : l.b < w.heap.size) (hne : ∀ i c, h[i]? = some (some c) → (E.ρ i).b ≠ l.b) {i : Nat} (hi : E.ρ i = l) (hb : E.BR P G w i b) :
    Nx P G E h w (E.add h.length l) (h ++ [some b]) w ∧ ∀ v cv, E.VR w v cv → (E.add h.length l).VR w v cv := by
  have hD : ¬ E.D h.length := fun hd => Nat.lt_irrefl _ (hr.lt _ hd)
  have hle : Le E w (E.add h.length l) w := ⟨rfl, rfl, rfl, Nat.le_refl _, fun j hj => ⟨.inl hj, by
      show (if j = h.length then l else E.ρ j) = _
      rw [if_neg]; intro e; subst e; exact hD hj⟩, fun _ hb => hb, fun k hk ho => ⟨rfl, by
      rintro (h1 | h1)
      · exact ho h1
      · rw [h1] at ho; exact ho hO, fun h => h⟩⟩
  have hv : ∀ v cv, E.VR w v cv → (E.add h.length l).VR w v cv := fun _ _ hv => hle.vr hr hv
  exact ⟨⟨hle, hr_push hr hle h rfl (fun j c hj => ⟨hj, rfl, hne j c hj⟩) hlt (fun hI => (hr.imm _ hI).2 hO) (br_move hb (by rw [add_ρ, hi]) hv), .add _ _ _ (Nat.le_refl _), by simp⟩, hv⟩

/-- A block that lies at l. -/
def BRL (P : Program) (G : Nat → Option (List AVal)) (E : Env) (w : World) (l : Loc) (b : Blk) : Prop := ∃ (E1 : Env) (i : Nat), E1.ρ i = l ∧ E1.BR P G w i b ∧ ∀ v cv, E1.VR w v cv → E.VR w v cv

/-- What is to be put behind the heap; L: where it lies. -/
def PutOk (P : Program) (G : Nat → Option (List AVal)) (E : Env) (w : World) (tmps : Array Value) (h : Heap) (L : Nat → Loc) (n0 : Nat) : List (Option GA) → Prop
  | [] => True
  | none :: acc => PutOk P G E w tmps h L n0 acc
  | some x :: acc => ((∃ cv, At E w tmps x.p cv ∧ SlAt (L x.b) x.k x.n x.tt cv) ∧ E.O (L x.b).b ∧ (L x.b).b < w.heap.size ∧ BRL P G E w (L x.b) x.blk ∧ (∀ i c, h[i]? = some (some c) → (E.ρ i).b ≠ (L x.b).b) ∧
      lowR n0 x.p = true ∧ ∀ y, some y ∈ acc → (L y.b).b ≠ (L x.b).b) ∧ PutOk P G E w tmps h L n0 acc

theorem putok_mono {L : Nat → Loc} {n0 : Nat} {l : Loc} (hO : ∀ b, E.O b → E'.O b) (hv : ∀ v cv, E.VR w v cv → E'.VR w v cv) (hρ : ∀ i, i < n0 → E'.ρ i = E.ρ i) :
    ∀ (acc : List (Option GA)), (∀ i c, h'[i]? = some (some c) → (∃ c', h[i]? = some (some c') ∧ E'.ρ i = E.ρ i) ∨ E'.ρ i = l) → (∀ y, some y ∈ acc → (L y.b).b ≠ l.b) → PutOk P G E w tmps h L n0 acc → PutOk P G E' w tmps h' L n0 acc
  | [], _, _, _ => trivial
  | none :: acc, hh, hl, hp => putok_mono hO hv hρ acc hh (fun y hy => hl y (List.mem_cons_of_mem _ hy)) hp
  | some x :: acc, hh, hl, ⟨⟨⟨cv, ha, hs⟩, h1, h2, ⟨E1, i, e1, e2, e3⟩, h4, h5, h6⟩, hp⟩ => by
    refine ⟨⟨⟨cv, ?_, hs⟩, hO _ h1, h2, ⟨E1, i, e1, e2, fun v cv h => hv _ _ (e3 _ _ h)⟩, fun i c hi => ?_, h5, h6⟩, putok_mono hO hv hρ acc hh (fun y hy => hl y (List.mem_cons_of_mem _ hy)) hp⟩
    · cases hp : x.p with
      | slot s => rw [hp] at ha; exact ha
      | cell i k o =>
        rw [hp] at ha h5
        simp only [lowR, decide_eq_true_eq] at h5
        simp only [At] at *
        rw [hρ i h5]; exact ha
    · rcases hh i c hi with ⟨c', hc', e⟩ | e
      · rw [e]; exact h4 i c' hc'
      · rw [e]; exact fun e => hl x (by simp) e.symm

theorem hr_none (hr : E.HR P G h w) : E.HR P G (h ++ [none]) w := by
  have get : ∀ {i c}, (h ++ [none])[i]? = some (some c) → h[i]? = some (some c) := fun {i c} hi => by
    by_cases hl : i < h.length
    · rwa [List.getElem?_append_left hl] at hi
    · rw [List.getElem?_append_right (by omega)] at hi
      have : i - h.length = 0 := by
        have := (List.getElem?_eq_some_iff.1 hi).1
        simp at this; omega
      rw [this] at hi; simp at hi
  exact ⟨fun i c hi => hr.blk i c (get hi), fun i j c d hi hj he => hr.inj i j c d (get hi) (get hj) he, fun i hi => by have := hr.lt i hi; simp; omega, hr.own, hr.imm, hr.glob⟩

theorem putG_ok {L : Nat → Loc} {n0 : Nat} : ∀ (acc : List (Option GA)) (E : Env) (t : List AVal) (h : Heap) (t' : List AVal) (h' : Heap), n0 ≤ h.length → E.HR P G h w → E.LR w t tmps → PutOk P G E w tmps h L n0 acc → putG acc t h = some (t', h') →
    ∃ E', Nx P G E h w E' h' w ∧ E'.LR w t' tmps ∧ (∀ b, E'.O b → E.O b) ∧ E'.I = E.I
  | [], E, t, h, t', h', hn, hr, ht, hp, hg => by
    simp only [putG, Option.some.injEq, Prod.mk.injEq] at hg
    obtain ⟨rfl, rfl⟩ := hg
    exact ⟨E, .refl hr, ht, fun _ h => h, rfl⟩
  | none :: acc, E, t, h, t', h', hn, hr, ht, hp, hg => by
    simp only [putG] at hg
    have hp' : PutOk P G E w tmps (h ++ [none]) L n0 acc := by
      refine putok_mono (E' := E) (l := ⟨w.heap.size, 0, 0, 0⟩) (fun _ h => h) (fun _ _ h => h) (fun _ _ => rfl) acc (fun i c hi => .inl ?_) (fun y hy e => ?_) hp
      · by_cases hl : i < h.length
        · rw [List.getElem?_append_left hl] at hi; exact ⟨c, hi, rfl⟩
        · rw [List.getElem?_append_right (by omega)] at hi
          have : i - h.length = 0 := by
            have := (List.getElem?_eq_some_iff.1 hi).1
            simp at this; omega
          rw [this] at hi; simp at hi
      · have key : ∀ (acc : List (Option GA)), PutOk P G E w tmps h L n0 acc → ∀ y, some y ∈ acc → (L y.b).b < w.heap.size := by
          intro acc
          induction acc with
          | nil => intro _ y hy; simp at hy
          | cons z acc ih =>
            intro hp y hy
            cases z with
            | none => exact ih hp y (by simpa using hy)
            | some z =>
              rcases List.mem_cons.1 hy with e | hy
              · simp at e; subst e; exact hp.1.2.2.1
              · exact ih hp.2 y hy
        have := key acc hp y hy
        rw [e] at this
        exact Nat.lt_irrefl _ this
    obtain ⟨E', g1, g2, g3, g4⟩ := putG_ok acc E t (h ++ [none]) t' h' (by simp; omega) (hr_none hr) ht hp' hg
    have hx : Nx P G E h w E (h ++ [none]) w := ⟨.refl _ _, hr_none hr, .refl _ _, by simp⟩
    exact ⟨E', hx.trans g1, g2, g3, g4⟩
  | some x :: acc, E, t, h, t', h', hn, hr, ht, ⟨⟨⟨cv, ha, hs⟩, h1, h2, ⟨E1, i, e1, e2, e3⟩, h4, h5, h6⟩, hp⟩, hg => by
    simp only [putG] at hg
    split at hg
    · rename_i t2 h2' hput
      have hD : ¬ E.D h.length := fun hd => Nat.lt_irrefl _ (hr.lt _ hd)
      have hρ : ∀ j, j ≠ h.length → (E.add h.length (L x.b)).ρ j = E.ρ j := fun j hj => by simp [Env.add, hj]
      have hle : Le E w (E.add h.length (L x.b)) w := ⟨rfl, rfl, rfl, Nat.le_refl _, fun j hj => ⟨.inl hj, hρ j fun e => hD (e ▸ hj)⟩, fun _ hb => hb, fun k hk ho => ⟨rfl, by
        rintro (g1 | g1)
        · exact ho g1
        · rw [g1] at ho; exact ho h1, fun h => h⟩⟩
      have hv : ∀ v cv, E.VR w v cv → (E.add h.length (L x.b)).VR w v cv := fun _ _ hv => hle.vr hr hv
      have hr1 : (E.add h.length (L x.b)).HR P G (h ++ [some x.blk]) w := hr_push hr hle h rfl (fun j c hj => ⟨hj, rfl, h4 j c hj⟩) h2 (fun hI => (hr.imm _ hI).2 h1) (br_move e2 (by rw [add_ρ, e1]) fun _ _ g => hv _ _ (e3 _ _ g))
      have ht1 : (E.add h.length (L x.b)).LR w t tmps := hle.lr hr ht
      have ha1 : At (E.add h.length (L x.b)) w tmps x.p cv := by
        cases hxp : x.p with
        | slot s => rw [hxp] at ha; exact ha
        | cell i k o =>
          rw [hxp] at ha h5
          simp only [lowR, decide_eq_true_eq] at h5
          simp only [At] at *
          rw [hρ i (by omega)]; exact ha
      have hsv : (E.add h.length (L x.b)).VR w (.sl h.length x.k x.n x.tt) cv := by
        obtain ⟨aa, cap, rfl, q1, q2, q3, q4⟩ := hs
        exact .sl _ _ _ _ _ aa cap (.inr rfl) q1 q2 (by rw [add_ρ]; exact q3) (by rw [add_ρ]; exact q4)
      obtain ⟨x1, x2, x3, x4⟩ := put_ok hr1 ht1 ha1 hsv hput
      have hp' : PutOk P G (E.add h.length (L x.b)) w tmps h2' L n0 acc := by
        refine putok_mono (E' := E.add h.length (L x.b)) (l := L x.b) (fun _ h => .inl h) hv (fun i hi => hρ i (by omega)) acc (fun i c hi => ?_) h6 hp
        obtain ⟨c', hc'⟩ := x4 i c hi
        by_cases hl : i < h.length
        · rw [List.getElem?_append_left hl] at hc'
          exact .inl ⟨c', hc', hρ i (by omega)⟩
        · have : i < (h ++ [some x.blk]).length := (List.getElem?_eq_some_iff.1 hc').1
          simp at this
          obtain rfl : i = h.length := by omega
          exact .inr (add_ρ _ _)
      have hlen : h2'.length = h.length + 1 := by rw [x3]; simp
      obtain ⟨E', g1, g2, g3, g4⟩ := putG_ok acc _ t2 h2' t' h' (by omega) x1 x2 hp' hg
      have hx : Nx P G E h w (E.add h.length (L x.b)) h2' w := ⟨hle, x1, .add _ _ _ (Nat.le_refl _), by omega⟩
      exact ⟨E', hx.trans g1, g2, fun b hb => (g3 b hb).elim id fun e => e ▸ h1, g4⟩
    · simp at hg

theorem gather_ok {base : Nat} {gs : List GL} (hr0 : E0.HR P G h0 w0) (hb : h0.length = base) (hx : Nx P G E0 h0 w0 E h w) (ht : E.LR w t tmps) (hg : gather base gs t h = some (t', h')) :
    ∃ E', Nx P G E0 h0 w0 E' h' w ∧ E'.LR w t' tmps ∧ (∀ b, E'.O b → E.O b) ∧ E'.I = E.I := by
  subst hb
  unfold gather at hg
  split at hg
  · rename_i t1 h1 acc htk
    split at hg
    · rename_i hc
      simp only [Bool.and_eq_true] at hc
      obtain ⟨⟨hc1, hc2⟩, hc3⟩ := hc
      obtain ⟨y1, y2, y3, y4, y5, y6⟩ := take_ok gs t h t1 h1 acc hx.hr ht htk
      have get : ∀ {i b}, (List.take h0.length h1)[i]? = some (some b) → i < h0.length ∧ h1[i]? = some (some b) := fun {i b} hi => by
        have g1 := (List.getElem?_eq_some_iff.1 hi).1
        simp at g1
        have g1' : i < h0.length := by omega
        exact ⟨g1', by rwa [List.getElem?_take_of_lt g1'] at hi⟩
      have hl := hx.le
      have hx2 : Nx P G E0 h0 w0 { E with D := fun i => E.D i ∧ i < h0.length } (h1.take h0.length) w := by
        refine ⟨⟨hl.os, hl.tape, hl.output, hl.size, fun i hi => ⟨⟨(hl.D i hi).1, hr0.lt i hi⟩, (hl.D i hi).2⟩, hl.I, hl.old⟩, ?_, fun j hj => ?_, ?_⟩
        · refine ⟨fun i b hi => ?_, fun i j b c hi hj he => y1.inj i j b c (get hi).2 (get hj).2 he, fun i hi => ?_, y1.own, y1.imm, fun g r hg => ?_⟩
          · obtain ⟨h1, h2⟩ := get hi
            obtain ⟨g1, g2, g3, g4⟩ := y1.blk i b h2
            exact ⟨⟨g1, h1⟩, g2, g3, br_trim g4 (List.all_eq_true.1 hc2 _ (List.mem_of_getElem? hi))⟩
          · have := y1.lt i hi.1
            have := hi.2
            simp; omega
          · have := y1.glob g r hg
            generalize hp : Value.pointer (some ⟨g, 0, none⟩) = pv at this ⊢
            cases this with
            | pv _ _ _ b off cv hb hc h => exact .pv _ _ _ b off cv hb hc h
        · exact hx.fr j hj.1
        · have := hx.len; simp; omega
      have ht2 : Env.LR { E with D := fun i => E.D i ∧ i < h0.length } w t1 tmps := lr_trim y2 hc1
      have hp : PutOk P G { E with D := fun i => E.D i ∧ i < h0.length } w tmps (h1.take h0.length) E.ρ h0.length acc := by
        clear hg y6 htk
        induction acc with
        | nil => trivial
        | cons x acc ih =>
          simp only [List.all_cons, Bool.and_eq_true] at hc3
          cases x with
          | none => exact ih hc3.2 y5
          | some x =>
            obtain ⟨⟨⟨cv, a1, a2⟩, a3, a4, a5, a6, a7⟩, a8⟩ := y5
            have h3 := hc3.1
            simp only [okG, Bool.and_eq_true] at h3
            refine ⟨⟨⟨cv, ?_, a2⟩, a3, a4, ⟨{ E with D := fun i => E.D i ∧ i < h0.length }, x.b, rfl, br_trim a5 h3.1, fun _ _ h => h⟩, fun i c hi => a6 i c (get hi).2, h3.2, a7⟩, ih hc3.2 a8⟩
            cases hxp : x.p with
            | slot s => rw [hxp] at a1; exact a1
            | cell i k o => rw [hxp] at a1; exact a1
      obtain ⟨E', g1, g2, g3, g4⟩ := putG_ok (L := E.ρ) (n0 := h0.length) acc _ t1 _ t' h' (by have := hx2.len; exact this) hx2.hr ht2 hp hg
      exact ⟨E', hx2.trans g1, g2, g3, g4⟩
    · simp at hg
  · simp at hg

/-- The loop, gathered. -/
theorem go_gather {base : Nat} {gs : List GL} (hr0 : E0.HR P G h0 w0) (hb : h0.length = base) (hR : Run P G E0 h0 w0 d E h w t a) (keep : Nat) (hg : gather base gs (kill t keep) h = some (t', h')) : ∃ E2, Run P G E0 h0 w0 d E2 h' w t' a := by
  obtain ⟨E2, h1, h2, h3, h4⟩ := gather_ok hr0 hb hR.nx (kill_lr t keep _ hR.lr) hg
  refine ⟨E2, h1, h2, ?_⟩
  obtain ⟨bs, g1, g2, g3⟩ := hR.mks
  exact ⟨bs, g1, g2, fun b hb => by
    obtain ⟨a1, a2, a3, a4, a5⟩ := g3 b hb
    exact ⟨a1, a2, a3, fun h => a4 (h3 b h), by rw [h4]; exact a5⟩⟩

def SoundN (P : Program) (G : Nat → Option (List AVal)) (n : Nat) (r : Option Nat) (base : Nat) (c : CC) (σ : St) (e : AEx) (σ' : St) : Prop :=
  ∀ (p : Code) (E0 : Env) (h0 : Heap) (w0 : World) (d : List Deferred) (E : Env) (w : World) (a : Act) (k : Nat), compC P G p = some (strip c) → h0.length = base → E0.HR P G h0 w0 → Run P G E0 h0 w0 d E σ.h w σ.t a → (∀ i, r = some i → E0.D i) →
    Code.roundsIn (FW (r.map fun i => (E0.ρ i).b)) k P p (Post P G E0 h0 w0 d e σ') n a w

theorem loopN_step (n : Nat) {r : Option Nat} {base keep : Nat} {gs : List GL} (hex : ∀ r c σ e σ', ex r c σ = some (e, σ') → Sound P G r c σ e σ') (hlp : ∀ σ e σ', ex r (.loopN base keep gs c) σ = some (e, σ') → SoundN P G n r base c σ e σ')
    (h : exec1 P T ex r (.loopN base keep gs c) σ = some (e, σ')) : SoundN P G (n + 1) r base c σ e σ' := by
  intro p E0 h0 w0 d E w a k hp hb hr0 hR hd
  simp only [exec1] at h
  rw [roundsIn_succ]
  cases h1 : ex r c σ with
  | none => simp [h1] at h
  | some q =>
  obtain ⟨e1, σ1⟩ := q
  have hd1 : ∀ i, r = some i → E.D i := fun i hi => (hR.nx.le.D i (hd i hi)).1
  have hw := hex _ _ _ _ _ h1 p E w a k hp hR.nx.hr hR.lr hd1
  rw [fw_eq hR.nx.le hd] at hw
  refine wpIn_mono hw fun x a' w' hpost => ?_
  have hpost := post_trans hR hpost
  by_cases he : e1 = .normal
  · subst he
    simp only [h1, killK_eq] at h
    split at h
    · rename_i t1 h1' hg
      refine then_post hpost (fun _ E' hR' => ?_) (fun h => absurd rfl h)
      obtain ⟨E2, hR2⟩ := go_gather hr0 hb hR' keep hg
      exact hlp _ _ _ h p E0 h0 w0 d E2 w' a' k hp hb hr0 hR2 hd
    · simp at h
  · have hh : some (e1, σ1) = some (e, σ') := by
      cases e1 with
      | normal => exact absurd rfl he
      | _ => simpa [h1] using h
    simp at hh
    obtain ⟨rfl, rfl⟩ := hh
    obtain ⟨hx, E', hR⟩ := hpost
    exact then_post ⟨hx, E', hR⟩ (fun h => absurd h he) fun _ => ⟨rfl, E', hR⟩

theorem loopG_step (n : Nat) {r : Option Nat} {keep : Nat} {gs : List GL} (hlp : ∀ base σ e σ', ex r (.loopN base keep gs c) σ = some (e, σ') → SoundN P G n r base c σ e σ')
    (h : exec1 P T ex r (.loopG keep gs c) σ = some (e, σ')) (p : Code) (E : Env) (w : World) (a : Act) (k : Nat) (hp : compC P G p = some (strip c)) (hr : E.HR P G σ.h w) (ht : E.LR w σ.t a.tmps) (hd : ∀ i, r = some i → E.D i) :
    Code.roundsIn (FW (r.map fun i => (E.ρ i).b)) k P p (Post P G E σ.h w a.defers e σ') n a w := by
  simp only [exec1, killK_eq] at h
  split at h
  · rename_i t1 h1 hg
    obtain ⟨E2, hR2⟩ := go_gather hr rfl (.refl hr ht) keep hg
    exact hlp _ _ _ _ h p E σ.h w a.defers E2 w a k hp rfl hr hR2 hd
  · simp at h

theorem co_loop0 {code : Code} {m : Nat} {x : CC} (h : compC P G code = some (.loop m x)) : m = 0 := by
  cases code with
  | loop p =>
    simp only [compC] at h
    split at h
    · simp at h; exact h.1.symm
    · simp at h
  | region id ops b => cases b <;> simp only [compC] at h <;> (repeat' split at h) <;> simp at h
  | _ => simp only [compC] at h <;> (repeat' split at h) <;> simp at h

end
end Go.Abs

namespace Go.Abs
open Go

section
variable {P : Program} {G : Nat → Option (List AVal)} {T : Nat → Option CFn} {ex : Option Nat → CC → St → Option (AEx × St)} {E E' E1 : Env} {h h' h1 : Heap} {w w' w1 : World} {e : AEx} {σ σ' : St} {c : CC} {v : AVal}

theorem step_sound (hm : P.follows .mixedOrders = true) (hT : TabOk P G T) (n : Nat) (hex : ∀ r c σ e σ', ex r c σ = some (e, σ') → Sound P G r c σ e σ')
    (hlp : ∀ r keep c σ e σ', ex r (.loop keep c) σ = some (e, σ') → SoundLoop P G n r c σ e σ')
    (hlg : ∀ r base keep gs c σ e σ', ex r (.loopN base keep gs c) σ = some (e, σ') → SoundN P G n r base c σ e σ') {r : Option Nat} (h : exec1 P T ex r c σ = some (e, σ')) : Sound P G r c σ e σ' := by
  have hcall := fun f args h v h' => call_good hT hex f args h v h'
  have hyld := fun i args h v h' => yield_good hT hex i args h v h'
  cases c with
  | rf g ps asg bd => exact rf_step hT hex h
  | skip =>
    intro code E w a k hc hr ht hd
    have := co_skip hc
    subst this
    simp [exec1] at h
    obtain ⟨rfl, rfl⟩ := h
    exact wpIn_skip (go_skip hr ht)
  | ret =>
    intro code E w a k hc hr ht hd
    have := co_ret hc
    subst this
    simp [exec1] at h
    obtain ⟨rfl, rfl⟩ := h
    exact wpIn_ret ⟨rfl, E, .refl hr ht⟩
  | exit id =>
    intro code E w a k hc hr ht hd
    have := co_exit hc
    subst this
    simp [exec1] at h
    obtain ⟨rfl, rfl⟩ := h
    exact wpIn_exit ⟨rfl, E, .refl hr ht⟩
  | reg l =>
    intro code E w a k hc hr ht hd
    obtain ⟨id, ops, rfl, hl⟩ := co_reg hc
    simp only [exec1] at h
    cases hs : runX P T ex l σ with
    | none => simp [hs] at h
    | some σ1 =>
    simp [hs] at h
    obtain ⟨rfl, rfl⟩ := h
    exact reg_wp (t' := σ1.t) (h' := σ1.h) hT hcall hyld hl hr ht hs fun a' w' E' hx hl' hdef => ⟨rfl, E', hx, hl', hdef ▸ .refl _ _ _ _⟩
  | drw l =>
    intro code E w a k hc hr ht hd
    obtain ⟨id, ops, rfl, hl, hok, hed⟩ := co_drw hc
    simp only [exec1, appK_eq, fN_eq] at h
    cases hs : runD P T ex σ.h.length l.length l 0 ⟨σ.t, σ.h ++ List.replicate l.length none, List.replicate l.length none⟩ with
    | none => simp [hs] at h
    | some D =>
    simp [hs] at h
    obtain ⟨rfl, rfl⟩ := h
    exact drw_wp hm hT hcall hyld hl hok hed hr ht hs fun a' w' E' hx hl' hdef => ⟨rfl, E', hx, hl', hdef ▸ .refl _ _ _ _⟩
  | seq x y =>
    intro code E w a k hc hr ht hd
    obtain ⟨p, q, rfl, hp, hq⟩ := co_seq hc
    simp only [exec1] at h
    cases h1 : ex r x σ with
    | none => simp [h1] at h
    | some z =>
    obtain ⟨e1, σ1⟩ := z
    refine wpIn_seq (wpIn_mono (hex _ _ _ _ _ h1 p E w a k hp hr ht hd) fun xx a' w' hpost => ?_)
    by_cases he : e1 = .normal
    · subst he
      simp only [h1] at h
      refine then_post hpost (fun _ E' hR => ?_) (fun h => absurd rfl h)
      have hd2 : ∀ i, r = some i → E'.D i := fun i hi => (hR.nx.le.D i (hd i hi)).1
      have := hex _ _ _ _ _ h q E' w' a' k hq hR.nx.hr hR.lr hd2
      rw [fw_eq hR.nx.le hd] at this
      exact wpIn_mono this fun x a2 w2 hq => post_trans hR hq
    · have hh : some (e1, σ1) = some (e, σ') := by
        cases e1 with
        | normal => exact absurd rfl he
        | _ => simpa [h1] using h
      simp at hh
      obtain ⟨rfl, rfl⟩ := hh
      obtain ⟨hx, E', hR⟩ := hpost
      exact then_post ⟨hx, E', hR⟩ (fun h => absurd h he) fun _ => ⟨rfl, E', hR⟩
  | cond cv x y =>
    intro code E w a k hc hr ht hd
    obtain ⟨o, p, q, rfl, ho, hp, hq⟩ := co_cond hc
    simp only [exec1] at h
    split at h
    · rename_i hev
      exact wpIn_cond_true (ev_vr hr ht ho hev).bool_inv (hex _ _ _ _ _ h p E w a k hp hr ht hd)
    · rename_i hev
      exact wpIn_cond_false (ev_vr hr ht ho hev).bool_inv (hex _ _ _ _ _ h q E w a k hq hr ht hd)
    · simp at h
  | block id x =>
    intro code E w a k hc hr ht hd
    obtain ⟨p, rfl, hp⟩ := co_block hc
    simp only [exec1] at h
    cases h1 : ex r x σ with
    | none => simp [h1] at h
    | some z =>
    obtain ⟨e1, σ1⟩ := z
    refine wpIn_block (wpIn_mono (hex _ _ _ _ _ h1 p E w a k hp hr ht hd) ?_)
    rintro xx a' w' ⟨rfl, E', hR⟩
    cases e1 with
    | normal => simp [h1] at h; obtain ⟨rfl, rfl⟩ := h; exact ⟨rfl, E', hR⟩
    | ret => simp [h1] at h; obtain ⟨rfl, rfl⟩ := h; exact ⟨rfl, E', hR⟩
    | exit j =>
      simp only [h1] at h
      simp only [exOf, Exit.inBlock]
      by_cases hj : j = id
      · simp only [hj, if_true] at h ⊢
        simp at h; obtain ⟨rfl, rfl⟩ := h; exact ⟨rfl, E', hR⟩
      · simp only [hj, if_false] at h ⊢
        simp at h; obtain ⟨rfl, rfl⟩ := h; exact ⟨rfl, E', hR⟩
  | loop keep x =>
    intro code E w a k hc hr ht hd
    obtain ⟨p, rfl, hp⟩ := co_loop hc
    exact wpIn_loop_rounds (n + 1) (loop_step n hex (fun σ e σ' => hlp r keep x σ e σ') h p E w a k hp hr ht hd)
  | loopG keep gs x =>
    intro code E w a k hc hr ht hd
    obtain ⟨p, rfl, hp⟩ := co_loop (n := 0) hc
    exact wpIn_loop_rounds n (loopG_step n (fun base σ e σ' => hlg r base keep gs x σ e σ') h p E w a k hp hr ht hd)
  | kil keep x =>
    intro code E w a k hc hr ht hd
    simp only [exec1] at h
    cases h1 : ex r x σ with
    | none => simp [h1] at h
    | some z =>
    obtain ⟨e1, σ1⟩ := z
    refine wpIn_mono (hex _ _ _ _ _ h1 code E w a k hc hr ht hd) ?_
    rintro xx a' w' ⟨rfl, E', hR⟩
    cases e1 with
    | normal =>
      simp [h1, killK_eq] at h
      obtain ⟨rfl, rfl⟩ := h
      exact ⟨rfl, E', hR.nx, kill_lr _ keep _ hR.lr, hR.mks⟩
    | ret => simp [h1] at h; obtain ⟨rfl, rfl⟩ := h; exact ⟨rfl, E', hR⟩
    | exit j => simp [h1] at h; obtain ⟨rfl, rfl⟩ := h; exact ⟨rfl, E', hR⟩
  | loopN base keep gs x =>
    intro code E w a k hc hr ht hd
    exact absurd (co_loop0 (m := 1) hc) (by decide)

theorem exec_sound (hm : P.follows .mixedOrders = true) (hT : TabOk P G T) : ∀ n, (∀ r c σ e σ', exec P T n r c σ = some (e, σ') → Sound P G r c σ e σ') ∧ (∀ r keep c σ e σ', exec P T n r (.loop keep c) σ = some (e, σ') → SoundLoop P G n r c σ e σ') ∧
    (∀ r base keep gs c σ e σ', exec P T n r (.loopN base keep gs c) σ = some (e, σ') → SoundN P G n r base c σ e σ')
  | 0 => ⟨fun _ _ _ _ _ h => by simp [exec] at h, fun _ _ _ _ _ _ h => by simp [exec] at h, fun _ _ _ _ _ _ _ _ h => by simp [exec] at h⟩
  | n + 1 => by
    obtain ⟨h1, h2, h3⟩ := exec_sound hm hT n
    refine ⟨fun r c σ e σ' h => step_sound hm hT n h1 h2 h3 h, fun r keep c σ e σ' h => ?_, fun r base keep gs c σ e σ' h => ?_⟩
    · exact loop_step (T := T) (ex := exec P T n) n h1 (fun σ e σ' => h2 r keep c σ e σ') h
    · exact loopN_step (T := T) (ex := exec P T n) n h1 (fun σ e σ' => h3 r base keep gs c σ e σ') h

/-- What the machine answers to a call, the program answers. -/
theorem call_sound (hm : P.follows .mixedOrders = true) (hT : TabOk P G T) (n f : Nat) (args : List AVal) (h : Heap) (v : AVal) (h' : Heap) (hc : callF T (exec P T n) f args h = some (v, h')) : CallGood P G f args h v h' :=
  call_good hT (exec_sound hm hT n).1 f args h v h' hc

end
end Go.Abs
