/- Contracts of damp: left, Look. No condition. -/
import Derived.Shelf.Sort.Plain
import Derived.Shelf.SlSortCmp.Whole1
import Derived.Shelf.SlSortCmp.WholeK
import Derived.Test.YtpebmjeomlgmdaaDoorProg
import Derived.Test.YtpebmjeomlgmdaaDoorChecked
import Derived.OpenShut
import Derived.Test.YtpebmjeomlgmdaaDoorPzCDy
set_option linter.unusedSimpArgs false
set_option linter.unusedVariables false
namespace Go.Abs
open Go
section
variable {P : Program} {T : Nat → Option CFn} {r : Option Nat} {σ : St}
def Ylds (P : Program) (T : Nat → Option CFn) (i : Nat) (args : List Za) (h : Zg) (Q : Za → Zg → Prop) : Prop := ∃ n v h', yieldF (exec P T n) i args h = some (v, h') ∧ Q v h'
theorem Ylds.mono {i : Nat} {args : List Za} {h : Zg} {Q Q' : Za → Zg → Prop} (hr : Ylds P T i args h Q) (hq : ∀ v h, Q v h → Q' v h) : Ylds P T i args h Q' := let ⟨n, v, h', h1, h2⟩ := hr; ⟨n, v, h', h1, hq _ _ h2⟩
theorem ops_ylds {o : CO} {l : List CO} {i : Nat} {args : List Za} {Q : St → Prop} (hw : ZS σ.t o.g = some true) (hd : dop P σ.t σ.h o.op = none) (hp : lop σ.t σ.h o.op = none) (hc : Zj σ.t o.op = some (.yld i args))
  (h : Ylds P T i args σ.h fun v h' => Ops P T l ⟨Xq σ.t o.dst v, h'⟩ Q) : Ops P T (o :: l) σ Q := by
 obtain ⟨n, v, h', hy, hq⟩ := h
 refine Yr n (σ1 := ⟨Xq σ.t o.dst v, h'⟩) ?_ hq
 simp only [YX, hw, hd, Yo, hp, Ym, hc, hy, Ya]
theorem ylds_of {i : Nat} {args t : List Za} {h : Zg} {ps : List Nat} {asg bd : CC} {pd : Option CC} {Q : Za → Zg → Prop} (hi : h[i]? = some (some (.loop t ps asg bd .ready pd))) (hn : args.length = ps.length)
  (hb : Runs P T (some i) asg ⟨setAll t (ps.zip args), h⟩ fun e1 σ1 => e1 = .normal ∧ ∃ t1 ps1 as1 bd1 pd1, σ1.h[i]? = some (some (.loop t1 ps1 as1 bd1 .ready pd1)) ∧
   Runs P T (some i) bd ⟨σ1.t, σ1.h.set i (some (.loop t1 ps1 as1 bd1 .busy pd1))⟩ fun e2 σ2 => ∃ t2 ps2 as2 bd2 st2 pd2, σ2.h[i]? = some (some (.loop t2 ps2 as2 bd2 st2 pd2)) ∧
    (match e2 with
    | .normal => Q (.bool true) (trim h.length [] (σ2.h.set i (some (.loop t2 ps2 as2 bd2 .ready none))))
    | .ret => Q (.bool false) (σ2.h.set i (some (.loop t2 ps2 as2 bd2 .done (some .ret))))
    | .exit id => Q (.bool false) (σ2.h.set i (some (.loop t2 ps2 as2 bd2 .done (some (.exit id))))))) : Ylds P T i args h Q := by
 obtain ⟨n1, e1, σ1, h1, rfl, t1, ps1, as1, bd1, pd1, hi1, n2, e2, σ2, h2, t2, ps2, as2, bd2, st2, pd2, hi2, hq⟩ := hb
 have e1 := XK (P := P) (T := T) (Nat.le_max_left n1 n2) _ _ _ _ h1
 have e2' := XK (P := P) (T := T) (Nat.le_max_right n1 n2) _ _ _ _ h2
 cases e2 with
 | normal => exact ⟨max n1 n2, _, _, by unfold yieldF; simp only [Zl, hi, hn, if_true, setAllK_eq, e1, hi1, Zm, e2', hi2, Yk, trimK_eq], hq⟩
 | ret => exact ⟨max n1 n2, _, _, by unfold yieldF; simp only [Zl, hi, hn, if_true, setAllK_eq, e1, hi1, Zm, e2', hi2], hq⟩
 | exit id => exact ⟨max n1 n2, _, _, by unfold yieldF; simp only [Zl, hi, hn, if_true, setAllK_eq, e1, hi1, Zm, e2', hi2], hq⟩
theorem trim_same {n : Nat} {vs : List Za} {h : Zg} (hn : h.length ≤ n) : trim n vs h = h := by unfold trim; split <;> simp [List.take_of_length_le hn]
end
theorem rbB_none (n : Nat) : rbB n none = true := rfl
theorem rbB_row (n e : Nat) (rs : List (List Za)) : rbB n (some (.row e rs)) = rs.all (·.all (rb n 5)) := rfl
theorem rbB_loop (n : Nat) (t : List Za) (ps : List Nat) (asg bd : CC) (st : LoopState) (pd : Option CC) : rbB n (some (.loop t ps asg bd st pd)) = t.all (rb n 5) := rfl
end Go.Abs
namespace Go.Abs
open Go
noncomputable section
variable {P : Program} {G : Nat → Option (List Za)} {T : Nat → Option CFn} {E E' E2 : Env} {h h' : Zg} {w w' : World} {n : Nat}
def updE (T : Nat → Option CFn) (f : Nat) (eff : List Za → Zg → Option (Za × List (Nat × Option Blk))) (g : Nat) : Option CFn :=
 if g = f then (match T f with
  | some c => some { c with eff := eff }
  | none => none)
 else T g
theorem tab_updE (hT : Zp P G T) {f : Nat} {eff : List Za → Zg → Option (Za × List (Nat × Option Blk))} (ho : ∀ args h v us, eff args h = some (v, us) → XH P G f args h v (setH h us)) : Zp P G (updE T f eff) := by
 intro g cf hg
 unfold updE at hg
 split at hg
 ·rename_i e
  subst e
  split at hg <;> simp at hg
  rename_i c hc
  subst hg
  obtain ⟨fn, b, h1, h2, h3, h4, h5, h6, h7, _⟩ := hT g c hc
  exact ⟨fn, b, h1, h2, h3, h4, h5, h6, h7, ho⟩
 ·exact hT g cf hg
theorem orc_nil (b : CC) (n : Nat) (r : List CRes) (fr : Bool) (e : List Za → Zg → Option (Za × List (Nat × Option Blk))) (args : List Za) (h : Zg) : XX ⟨b, n, r, fr, fun _ => none, e⟩ args h = none := by
 unfold XX; split <;> rfl
theorem callF_eff {ex : Option Nat → CC → St → Option (AEx × St)} {f : Nat} {cf : CFn} (hT : T f = some cf) (ho : cf.orc = fun _ => none) (args : List Za) (h : Zg) : YI T ex f args h = match cf.eff args h with
  | some (v, us) => some (v, setH h us)
  | none => callB T ex f args h := by
 cases he : cf.eff args h with
 | none => rfl
 | some r =>
  unfold YI
  simp only [hT, Zk ho, he]
theorem frN_rb : ∀ (d : Nat) (v : Za), rb n d v = true → frN n h d v = some v := by
 intro d
 induction d with
 | zero => intro v hv; simp [rb] at hv
 | succ d ih =>
  intro v hv
  replace hv : rb1 n (rb n d) v = true := hv
  rw [frN_succ]
  cases v with
  | agg xs => simp only [rb1, List.all_eq_true] at hv; simp only [frN1]; rw [Zx xs fun x hx => ih x (hv x hx)]
  | tup xs => simp only [rb1, List.all_eq_true] at hv; simp only [frN1]; rw [Zx xs fun x hx => ih x (hv x hx)]
  | fn f a b => simp only [rb1, Bool.and_eq_true, List.all_eq_true] at hv; simp only [frN1]; rw [Zx a fun x hx => ih x (hv.1 x hx), Zx b fun x hx => ih x (hv.2 x hx)]
  | sl i k m t => simp [rb1] at hv; simp [frN1, hv]
  | ref i k o => simp [rb1] at hv; simp [frN1, hv]
  | mp i => simp [rb1] at hv; simp [frN1, hv]
  | yld i => simp [rb1] at hv; simp [frN1, hv]
  | _ => rfl
end
end Go.Abs
namespace Go.Abs
open Go Go.Proofs
section
variable {P : Program} {G : Nat → Option (List Za)} {E : Env} {h : Zg} {w w' : World}
theorem hr_grow (hr : E.HR P G h w) (hs : w.heap.size ≤ w'.heap.size) (hw : ∀ k, k < w.heap.size → w'.heap[k]? = w.heap[k]?) (ho : w'.os = w.os) (ht : w'.tape = w.tape) (hou : w'.output = w.output ∧ w.drawn ≤ w'.drawn) : Le E w E w' ∧ E.HR P G h w' := by
 have hl : Le E w E w' := ⟨ho, ht, hou, hs, fun _ h => ⟨h, rfl⟩, fun _ h => h, fun k hk hno => ⟨hw k hk, hno, fun h => h⟩⟩
 refine ⟨hl, ⟨fun i b hi => ?_, hr.inj, hr.lt, fun k hk => Nat.lt_of_lt_of_le (hr.own k hk) hs, fun k hk => ⟨Nat.lt_of_lt_of_le (hr.imm k hk).1 hs, (hr.imm k hk).2⟩, fun g r hg => hl.vr hr (hr.glob g r hg)⟩⟩
 obtain ⟨h1, h2, h3, h4⟩ := hr.blk i b hi
 exact ⟨h1, h2, Nat.lt_of_lt_of_le h3 hs, br_mono h4 rfl (hw _ h3) fun _ _ hv => hl.vr hr hv⟩
end
end Go.Abs
namespace Go.Abs
open Go Go.Proofs
def plV : Za → Value
 | .int k n => .int k n
 | .bool b => .bool b
 | _ => undef
theorem plV_vr {ρ : Nat → Loc} {I : Nat → Prop} {w : World} {D : Nat → Prop} {v : Za} (hv : flat v = true) : VR ρ I w D v (plV v) := by
 cases v <;> simp [flat] at hv
 ·exact .bool _ _
 ·exact .int _ _ _
theorem plV_eq {ρ : Nat → Loc} {I : Nat → Prop} {w : World} {D : Nat → Prop} {v : Za} {u : Value} (hv : flat v = true) (h : VR ρ I w D v u) : u = plV v := by
 cases v <;> simp [flat] at hv
 ·cases h; rfl
 ·cases h; rfl
theorem plV_cell {v : Za} (hv : flat v = true) : (plV v).oneCell' = true := by
 cases v <;> simp [flat] at hv <;> rfl
theorem world_grown {w w' : World} (ho : w'.os = w.os) (ht : w'.tape = w.tape) (hu : w'.output = w.output ∧ w.drawn ≤ w'.drawn) (hs : w.heap.size ≤ w'.heap.size) (hh : ∀ b, b < w.heap.size → w'.heap[b]? = w.heap[b]?) :
  ∃ q os', w' = Go.Sort.grow (w.drewN q) os' := by
 refine ⟨w'.drawn - w.drawn, w'.heap.extract w.heap.size w'.heap.size, ?_⟩
 obtain ⟨heap', tape', drawn', os', out'⟩ := w'
 obtain ⟨heap, tape, drawn, os, out⟩ := w
 simp only at ho ht hu hs hh
 obtain ⟨rfl, hd⟩ := hu
 subst ho; subst ht
 simp only [Go.Sort.grow, World.drewN, World.mk.injEq, and_true, true_and]
 refine ⟨?_, by omega⟩
 refine Array.ext_getElem? fun i => ?_
 by_cases hi : i < heap.size
 ·rw [Array.getElem?_append_left hi]; exact hh i hi
 ·rw [Array.getElem?_append_right (by omega), Array.getElem?_extract]
  by_cases h2 : i < heap'.size
  ·rw [if_pos (by omega)]; congr 1; omega
  ·rw [if_neg (by omega)]; exact Array.getElem?_eq_none (by omega)
section
variable {P : Program} {G : Nat → Option (List Za)} {E : Env} {h : Zg} {w w' : World}
theorem row_put (hr : E.HR P G h w) {i e : Nat} {rs rs' : List (List Za)} (hb : h[i]? = some (some (.row e rs))) (hl : rs'.length = rs.length) (he : ∀ r ∈ rs', r.length = e) {F : Array Value} (hF : F.size = rs.length * e)
  (hx : ∀ k r, rs'[k]? = some r → ∀ j x, r[j]? = some x → flat x = true ∧ F[k * e + j]! = plV x) (m : Nat) (os : Array Obj) :
  Le E w E (Go.Sort.grow (Go.Sort.putRow id (Go.Sort.ahead w m) (E.ρ i).b (E.ρ i).d F) os) ∧ E.HR P G (h.set i (some (.row e rs'))) (Go.Sort.grow (Go.Sort.putRow id (Go.Sort.ahead w m) (E.ρ i).b (E.ρ i).d F) os) := by
 obtain ⟨_, hO, hlt, hee, hall, hsp, c, el, hc, hcs, hcell⟩ := hr.blk i _ hb
 have hc1 : (Go.Sort.putRow id (Go.Sort.ahead w m) (E.ρ i).b (E.ρ i).d F).heap[(E.ρ i).b]? = some (.cells (Go.Sort.putCells id (E.ρ i).d F c) el (0, 0)) := by
  show (w.heap.modify (E.ρ i).b _)[(E.ρ i).b]? = _
  rw [Array.getElem?_modify, if_pos rfl, hc]; rfl
 obtain ⟨hle1, hr1⟩ := hr_upd (w' := Go.Sort.putRow id (Go.Sort.ahead w m) (E.ρ i).b (E.ρ i).d F) (b := .row e rs') hr hb
  (fun k hk => by
   show (w.heap.modify (E.ρ i).b _)[k]? = _
   rw [Array.getElem?_modify, if_neg fun e => hk e.symm]) (by show (w.heap.modify _ _).size = _; simp) rfl rfl ⟨rfl, Nat.le_add_right _ _⟩
  fun _ => ⟨hee, he, by rw [hl]; exact hsp, _, el, hc1, by simpa [Go.Sort.putCells] using hcs, fun k r hk j x hj => by
   obtain ⟨hkl, hkr⟩ := List.getElem?_eq_some_iff.1 hk
   have hjl := (List.getElem?_eq_some_iff.1 hj).1
   have hre : r.length = e := he r (List.mem_of_getElem? hk)
   obtain ⟨hfl, hv⟩ := hx k r hk j x hj
   refine ⟨plV x, ?_, plV_vr hfl⟩
   have hke : k * e + j < rs.length * e := by
    have : k * e + e ≤ rs.length * e := by
     have := Nat.mul_le_mul_right e (show k + 1 ≤ rs.length by omega)
     rwa [Nat.add_mul, Nat.one_mul] at this
    omega
   have hb' : (E.ρ i).d + k * e + j < c.size := by omega
   simp only [Go.Sort.putCells, Array.getElem?_mapIdx, Array.getElem?_eq_getElem hb', Option.map_some]
   rw [if_pos ⟨by omega, by omega⟩, show (E.ρ i).d + k * e + j - (E.ρ i).d = k * e + j by omega, hv]; rfl⟩
 obtain ⟨hle2, hr2⟩ := hr_grow (w' := Go.Sort.grow (Go.Sort.putRow id (Go.Sort.ahead w m) (E.ρ i).b (E.ρ i).d F) os) hr1 (by simp [Go.Sort.grow]) (fun k hk => Go.Sort.heap_grow_old _ _ hk) rfl rfl ⟨rfl, Nat.le_refl _⟩
 exact ⟨hle1.trans hle2, hr2⟩
theorem cmp_grown (hr : E.HR P G h w) {i : Nat} {b : Blk} (hb : h[i]? = some (some b)) {g : Nat} {fr : Bool} {x y : Za} {n : Int} {u v : Value} (ho : OrcGood P G fr g [x, y] (.int .i64 n))
  {W : World} (hW : W.os = w.os ∧ W.tape = w.tape ∧ W.output = w.output) (hs : w.heap.size ≤ W.heap.size) (hh : ∀ k, k < w.heap.size → k ≠ (E.ρ i).b → W.heap[k]? = w.heap[k]?)
  (hu : ∀ {ρ : Nat → Loc} {I : Nat → Prop} {D : Nat → Prop}, VR ρ I W D x u) (hv : ∀ {ρ : Nat → Loc} {I : Nat → Prop} {D : Nat → Prop}, VR ρ I W D y v) :
  Calls P g (#[u, v] ++ #[]) W fun e w' => e = .returned (.int .i64 n) ∧ ∃ q os', w' = Go.Sort.grow (W.drewN q) os' := by
 obtain ⟨_, hO, _, _⟩ := hr.blk i _ hb
 have hI : ∀ k, E.I k → k < w.heap.size ∧ k ≠ (E.ρ i).b := fun k hk => ⟨(hr.imm k hk).1, fun e => (hr.imm k hk).2 (e ▸ hO)⟩
 let E0 : Env := ⟨E.ρ, fun _ => False, fun _ => False, E.I⟩
 have h0 : E0.HR P G [] W := ⟨fun j c hj => by simp at hj, fun j k c d hj => by simp at hj, fun j hj => hj.elim, fun k hk => hk.elim, fun k hk => ⟨Nat.lt_of_lt_of_le (hI k hk).1 hs, fun h => h⟩, fun gg r hg => by
  have := hr.glob gg r hg
  generalize hp : Value.pointer (some ⟨gg, 0, none⟩) = pv at this ⊢
  cases this with
  | pv _ _ _ b off cv hb hc hx =>
   have hbb := hI b hb
   refine .pv _ _ _ b off cv hb (fun j hj => ?_) fun j hj => VR.mono (hx j hj) _ (fun i hi => hi.elim) fun k hk => ⟨hk, hh k (hI k hk).1 (hI k hk).2⟩
   rw [cell_of_block (w := w) (hh b hbb.1 hbb.2)]; exact hc j hj⟩
 have hl : E0.LR W [x, y] (#[u, v] ++ #[]) := ⟨rfl, fun j h1 h2 => by
  match j, h1 with
  | 0, _ => exact hu
  | 1, _ => exact hv⟩
 have hc := ho E0 W (#[u, v] ++ #[]) 0 (fun _ h => h) (fun _ h => h) h0 hl
 change CallsIn Fence.wide 0 P g _ W _ at hc
 rw [callsIn_wide] at hc
 refine hc.mono ?_
 rintro e w' ⟨z, I', rfl, a1, a2, a3, a4, a5, _, a7⟩
 cases a7
 exact ⟨rfl, world_grown a1 a2 a3 a4 a5⟩
def sortBy {α : Type} (cf : α → α → Int) (xs : List α) : List α := xs.mergeSort fun x y => !ltOf cf y x
theorem sortBy_len {α : Type} (cf : α → α → Int) (xs : List α) : (sortBy cf xs).length = xs.length := List.length_mergeSort _
section
variable {α : Type} [Inhabited α]
theorem sort_perm {cf : α → α → Int} (hO : Go.Sort.SWO (ltOf cf)) (ha : ∀ x y, ¬ cf x y < 0 → ¬ cf y x < 0 → x = y) {xs : List α} {d' : Array α} (hp : Go.Sort.PermIn 0 xs.toArray.size xs.toArray d') (hs : Go.Sort.SortedIn (ltOf cf) 0 xs.toArray.size d') :
  d'.toList = xs.mergeSort fun x y => !ltOf cf y x := by
 have := Go.Sort.sorted_unique_holds (lt := ltOf cf) hO (fun x y h1 h2 => ha x y (by simpa [ltOf] using h1) (by simpa [ltOf] using h2)) xs.toArray d' hp hs
 simpa using this
theorem putRow_one (enc : α → Value) (w : World) (b o : Nat) (d : Array α) : Go.Sort.putRow enc w b o d = Go.Sort.putRow id w b o (d.map enc) := by
 unfold Go.Sort.putRow
 congr 1
 funext c
 unfold Go.Sort.putCells
 refine Array.ext (by simp) fun j h1 h2 => ?_
 simp only [Array.getElem_mapIdx, Array.size_map]
 by_cases hj : o ≤ j ∧ j < o + d.size
 ·rw [if_pos hj, if_pos hj, getElem!_pos d _ (by omega), getElem!_pos (d.map enc) _ (by simp; omega)]
  simp
 ·rw [if_neg hj, if_neg hj]
theorem sortF1_good {ρ : Go.Shelf.Ren} (L : Go.Proofs.SlLaysF.n6 P ρ) {f : Nat} (hf : ρ.f 6 = f)
  {enc : α → Za} (hfl : ∀ x, flat (enc x) = true) {cf : α → α → Int} (hO : Go.Sort.SWO (ltOf cf)) (ha : ∀ x y, ¬ cf x y < 0 → ¬ cf y x < 0 → x = y)
  {g : Nat} {fr : Bool} (hg : ∃ fn c, P.funcs[g]? = some fn ∧ fn.body = some c ∧ (fn.name == "runtime.NumGoroutine") = false) (ho : ∀ x y, OrcGood P G fr g [enc x, enc y] (.int .i64 (cf x y)))
  {i : Nat} {xs : List α} {tt : Bool} (hb : h[i]? = some (some (.row 1 (xs.map fun x => [enc x])))) (hn0 : xs ≠ []) (hsz : xs.length < 4611686018427387904) :
  XH P G f [.sl i 0 xs.length tt, .fn g [] []] h (.tup []) (h.set i (some (.row 1 ((sortBy cf xs).map fun x => [enc x])))) := by
 intro E w cargs kk hr hl
 rw [lr_iff] at hl
 obtain ⟨hl1, hl2⟩ := hl
 have hsz2 : cargs.size = 2 := hl1.symm
 obtain ⟨cv, cw, rfl⟩ : ∃ cv cw, cargs = #[cv, cw] := by
  refine ⟨cargs[0]'(by omega), cargs[1]'(by omega), Array.ext (by simpa using hsz2) fun j h1 h2 => ?_⟩
  match j, h2 with
  | 0, _ => rfl
  | 1, _ => rfl
 have hv := hl2 0 _ cv rfl rfl
 obtain ⟨a, cap, rfl, hD, hcap, htt, haa, hroom⟩ := VR.sl_inv hv
 obtain ⟨ca, cb, rfl, la, lb⟩ := (hl2 1 _ cw rfl rfl).fn_inv
 obtain rfl : ca = #[] := Array.eq_empty_of_size_eq_zero la.1.symm
 obtain rfl : cb = #[] := Array.eq_empty_of_size_eq_zero lb.1.symm
 obtain ⟨_, hO', hlt, he, hall, hsp, c, el, hc, hcs, hcell⟩ := hr.blk i _ hb
 have hx1 : 1 ≤ xs.length := by cases xs with | nil => exact absurd rfl hn0 | cons x l => simp
 have ha0 : a = ⟨(E.ρ i).b, (E.ρ i).d, none⟩ := by
  rcases haa with h0 | h0
  ·omega
  ·rw [h0]; simp
 subst ha0
 let encV : α → Value := fun x => plV (enc x)
 have h1V : Go.Proofs.OneCell encV := fun x => plV_cell (hfl x)
 have hH : Go.Sort.Holds encV w (E.ρ i).b (E.ρ i).d xs.toArray := fun j hj => by
  have hj' : j < xs.length := by simpa using hj
  obtain ⟨u, h1, h2⟩ := hcell j [enc xs[j]] (by rw [List.getElem?_map, List.getElem?_eq_getElem hj']; rfl) 0 _ rfl
  have hu := plV_eq (hfl _) h2
  subst hu
  rw [Nat.mul_one, Nat.add_zero] at h1
  have hxj : xs.toArray[j]! = xs[j] := by rw [getElem!_pos xs.toArray j hj]; simp
  rw [hxj]
  constructor
  ·simp only [World.cell?, hc]; simpa using h1
  ·simp only [World.frozen?, hc]; simp
 show CallsIn Fence.wide kk P f _ w _
 rw [callsIn_wide]
 obtain ⟨fn, cd, hfn, hbd, hnm⟩ := hg
 have hcmp : Go.Proofs.CmpLays1 P g #[] encV cf (E.ρ i).b (E.ρ i).d xs.toArray.size w := fun m os dk hdk x y => by
  refine cmp_grown hr hb (ho x y) ⟨rfl, rfl, rfl⟩ ?_ ?_ ?_ ?_
  ·show w.heap.size ≤ ((w.heap.modify _ _) ++ os).size
   simp
  ·intro b hb2 hne
   show (Go.Sort.grow (Go.Sort.putRow encV (Go.Sort.ahead w m) (E.ρ i).b (E.ρ i).d _) os).heap[b]? = _
   rw [Go.Sort.heap_grow_old _ _ (by show b < (w.heap.modify _ _).size; simpa using hb2)]
   show (w.heap.modify (E.ρ i).b _)[b]? = _
   rw [Array.getElem?_modify, if_neg fun e => hne e.symm]
  ·exact plV_vr (hfl x)
  ·exact plV_vr (hfl y)
 have hname' : ¬ fn.name = "runtime.NumGoroutine" := by simpa using hnm
 have hcon := Go.Proofs.Any.slices_SortFunc L encV h1V cf hO g #[] (E.ρ i).b (E.ρ i).d cap xs.toArray w (fun args w => by simp [callFunc, hfn, hname', hbd]) hcmp hH hlt (by simpa using hsz)
 rw [hf] at hcon
 have e1 : xs.toArray.size = xs.length := by simp
 rw [e1] at hcon
 refine hcon.mono ?_
 rintro e w' ⟨rfl, d', m, os, hp, hs, rfl⟩
 have hd := sort_perm hO ha (by rw [e1]; exact hp) (by rw [e1]; exact hs)
 have hds : d'.size = xs.length := by have := congrArg List.length hd; simpa [List.length_mergeSort] using this
 have hsb : (sortBy cf xs) = d'.toList := hd.symm
 have hsw : Go.Proofs.sortWorld encV w (E.ρ i).b (E.ρ i).d m d' os = Go.Sort.grow (Go.Sort.putRow id (Go.Sort.ahead w m) (E.ρ i).b (E.ρ i).d (d'.map encV)) os := by
  unfold Go.Proofs.sortWorld; rw [putRow_one]
 rw [hsw]
 obtain ⟨hle, hr2⟩ := row_put (rs' := (sortBy cf xs).map fun x => [enc x]) (F := d'.map encV) hr hb (by simp [sortBy_len]) (fun r hr => by obtain ⟨x, _, rfl⟩ := List.mem_map.1 hr; rfl) (by simp [hds]) (fun j r hj q x hq => by
  rw [hsb, List.getElem?_map] at hj
  obtain ⟨y, hy, rfl⟩ := Option.map_eq_some_iff.1 hj
  obtain ⟨hjl, rfl⟩ := List.getElem?_eq_some_iff.1 hy
  obtain ⟨rfl, rfl⟩ : q = 0 ∧ x = enc d'.toList[j] := by
   cases q with
   | zero => exact ⟨rfl, (Option.some.inj hq).symm⟩
   | succ q => simp at hq
  have hjs : j < d'.size := by simpa using hjl
  refine ⟨hfl _, ?_⟩
  rw [Nat.mul_one, Nat.add_zero, getElem!_pos _ _ (by simpa using hjs)]
  simp [encV]) m os
 exact ⟨_, E, rfl, hle, hr2, .tup _ _ #[] rfl (fun j h1 _ => absurd h1 (by simp)), Fresh.refl _ _, by simp⟩
end
end
end Go.Abs
namespace Go.Proofs.YtpebmjeomlgmdaaDoor.Tab
open Go Go.Abs Go.Proofs
set_option linter.unusedSimpArgs false
set_option linter.unusedVariables false
def allN (n : Nat) (p : Nat → Bool) : Bool := Nat.rec (motive := fun _ => Bool) true (fun m ih => match p m with
  | true => ih
  | false => false) n
theorem allN_get : ∀ {n : Nat} {p : Nat → Bool}, allN n p = true → ∀ s, s < n → p s = true
  | 0, _, _, s, h => absurd h (by omega)
  | n + 1, p, h, s, hs => by
    have h' : (match p n with | true => allN n p | false => false) = true := h
    cases hp : p n with
    | false => rw [hp] at h'; simp at h'
    | true =>
      rw [hp] at h'
      by_cases e : s = n
      · rw [e]; exact hp
      · exact allN_get h' s (by omega)
def Zn (s : Nat) : List Nat := (List.range 10).filter fun i => s.testBit i
def tz (s : Nat) : Nat := (Zn s).headD 0
theorem mem_bits {s i : Nat} : i ∈ Zn s ↔ i < 10 ∧ s.testBit i = true := by simp [Zn]
theorem bits_asc (s : Nat) : (Zn s).Pairwise (· < ·) := List.Pairwise.filter _ List.pairwise_lt_range
theorem bits_all : allN 1024 (fun s => s == 0 || (Zn s == tz s :: Zn (s &&& (s - 1)) && decide (tz s < 10) && decide (s &&& (s - 1) < s))) = true := by decide +kernel
theorem bits_step {s : Nat} (hs : s < 1024) (h0 : s ≠ 0) : Zn s = tz s :: Zn (s &&& (s - 1)) ∧ tz s < 10 ∧ s &&& (s - 1) < s := by
  have := allN_get bits_all s hs
  simp [h0] at this
  exact ⟨this.1.1, this.1.2, this.2⟩
theorem bits_zero : Zn 0 = [] := by decide
theorem bits_below {n s i : Nat} (hs : s < 2 ^ n) (hi : i ∈ Zn s) : i < n := by
  obtain ⟨_, h2⟩ := mem_bits.1 hi
  rcases Nat.lt_or_ge i n with h | h
  · exact h
  · rw [Nat.testBit_lt_two_pow (Nat.lt_of_lt_of_le hs (Nat.pow_le_pow_right (by decide) h))] at h2; simp at h2
theorem bits_inj {s t : Nat} (hs : s < 1024) (ht : t < 1024) (h : Zn s = Zn t) : s = t := by
  refine Nat.eq_of_testBit_eq fun i => ?_
  by_cases hi : i < 10
  · have : i ∈ Zn s ↔ i ∈ Zn t := by rw [h]
    rw [mem_bits, mem_bits] at this
    cases h1 : s.testBit i <;> cases h2 : t.testBit i <;> simp_all
  · have e : ∀ x, x < 1024 → x.testBit i = false := fun x hx => Nat.testBit_lt_two_pow (Nat.lt_of_lt_of_le hx (by have := Nat.pow_le_pow_right (n := 2) (by decide) (show 10 ≤ i by omega); omega))
    rw [e s hs, e t ht]
def mask (l : List Nat) : Nat := l.foldr (fun i a => 2 ^ i ||| a) 0
theorem mask_bit : ∀ (l : List Nat) (j : Nat), (mask l).testBit j = decide (j ∈ l)
  | [], j => by simp [mask]
  | i :: l, j => by
    have := mask_bit l j
    simp only [mask, List.foldr_cons] at this ⊢
    rw [Nat.testBit_or, this, Nat.testBit_two_pow]
    simp only [List.mem_cons, Bool.decide_or]
    congr 1
    simp [eq_comm]
theorem mask_lt {n : Nat} : ∀ {l : List Nat}, (∀ i ∈ l, i < n) → mask l < 2 ^ n
  | [], _ => Nat.two_pow_pos n
  | i :: l, h => by
    simp only [mask, List.foldr_cons]
    exact Nat.or_lt_two_pow (Nat.pow_lt_pow_right (by decide) (h i (by simp))) (mask_lt fun j hj => h j (by simp [hj]))
theorem sorted_ext {α : Type} {lt : α → α → Prop} (irr : ∀ x, ¬ lt x x) (tr : ∀ x y z, lt x y → lt y z → lt x z) : ∀ {l m : List α}, l.Pairwise lt → m.Pairwise lt → (∀ x, x ∈ l ↔ x ∈ m) → l = m
  | [], [], _, _, _ => rfl
  | [], y :: m, _, _, h => by have := (h y).2 (by simp); simp at this
  | x :: l, [], _, _, h => by have := (h x).1 (by simp); simp at this
  | x :: l, y :: m, hl, hm, h => by
    rw [List.pairwise_cons] at hl hm
    have e : x = y := by
      have h1 := (h x).1 (by simp)
      have h2 := (h y).2 (by simp)
      rcases List.mem_cons.1 h1 with e | h1
      · exact e
      rcases List.mem_cons.1 h2 with e | h2
      · exact e.symm
      exact absurd (tr _ _ _ (hl.1 y h2) (hm.1 x h1)) (irr x)
    subst e
    have : l = m := sorted_ext irr tr hl.2 hm.2 fun z => by
      have hz := h z
      simp only [List.mem_cons] at hz
      constructor
      · intro h1
        rcases hz.1 (.inr h1) with e | h2
        · rw [e] at h1; exact absurd (hl.1 _ h1) (irr _)
        · exact h2
      · intro h1
        rcases hz.2 (.inr h1) with e | h2
        · rw [e] at h1; exact absurd (hm.1 _ h1) (irr _)
        · exact h2
    rw [this]
theorem bits_mask {l : List Nat} (ha : l.Pairwise (· < ·)) (hl : ∀ i ∈ l, i < 10) : Zn (mask l) = l := by
  refine sorted_ext (fun x => Nat.lt_irrefl x) (fun x y z => Nat.lt_trans) (bits_asc _) ha fun x => ?_
  rw [mem_bits, mask_bit]
  simp
  exact hl x
def lexC : List Nat → List Nat → Int
  | [], [] => 0
  | [], _ :: _ => -1
  | _ :: _, [] => 1
  | a :: l, b :: m => if a < b then -1 else if b < a then 1 else lexC l m
theorem lexC_lt : ∀ (a b : List Nat), lexC a b < 0 ↔ a < b
  | [], [] => by simp [lexC]
  | [], _ :: _ => by simp [lexC]
  | _ :: _, [] => by simp [lexC]
  | a :: l, b :: m => by
    rw [List.cons_lt_cons_iff, ← lexC_lt l m]
    simp only [lexC]
    split
    · simp [*]
    · split
      · simp; omega
      · have : a = b := by omega
        simp [this]
def cmpB (x y : Fin 1024) : Int := lexC (Zn x) (Zn y)
theorem ltB (x y : Fin 1024) : ltOf cmpB x y = decide (Zn x < Zn y) := by
  simp only [ltOf, cmpB, lexC_lt]
theorem swoB : Go.Sort.SWO (ltOf cmpB) where
  irrefl x := by rw [ltB]; simp [List.lt_irrefl]
  trans x y z h1 h2 := by
    rw [ltB] at *
    simp only [decide_eq_true_eq] at *
    exact List.lt_trans h1 h2
  ntrans x y z h1 h2 := by
    rw [ltB] at *
    simp only [decide_eq_false_iff_not, List.not_lt] at *
    exact List.le_trans h2 h1
theorem antiB (x y : Fin 1024) (h1 : ¬ cmpB x y < 0) (h2 : ¬ cmpB y x < 0) : x = y := by
  simp only [cmpB, lexC_lt, List.not_lt] at h1 h2
  exact Fin.ext (bits_inj x.2 y.2 (List.le_antisymm h2 h1))
def nextS (b : List Nat) : Nat := match b.getLast? with
  | some x => x + 1
  | none => 0
def setsR (n : Nat) : Nat → List Nat → List (List Nat)
  | 0, b => [b]
  | d + 1, b => (List.range' (nextS b) (n - nextS b)).flatMap fun i => setsR n d (b ++ [i])
theorem next_asc {b : List Nat} {i : Nat} (hb : b.Pairwise (· < ·)) (hi : nextS b ≤ i) : (b ++ [i]).Pairwise (· < ·) := by
  rw [List.pairwise_append]
  refine ⟨hb, by simp, fun x hx y hy => ?_⟩
  simp at hy; subst hy
  unfold nextS at hi
  rcases List.eq_nil_or_concat b with rfl | ⟨c, z, rfl⟩
  · simp at hx
  · simp at hi hx
    rw [List.concat_eq_append, List.pairwise_append] at hb
    rcases hx with hx | rfl
    · have := hb.2.2 x hx z (by simp); omega
    · omega
theorem next_le {b l : List Nat} {i : Nat} (h : (b ++ i :: l).Pairwise (· < ·)) : nextS b ≤ i := by
  unfold nextS
  rcases List.eq_nil_or_concat b with rfl | ⟨c, z, rfl⟩
  · simp
  · simp only [List.concat_eq_append, List.getLast?_append, List.getLast?_singleton, Option.some_or]
    rw [List.concat_eq_append, List.pairwise_append] at h
    exact h.2.2 z (by simp) i (by simp)
theorem mem_sets {n : Nat} : ∀ {d : Nat} {b : List Nat}, b.Pairwise (· < ·) → (∀ i ∈ b, i < n) → ∀ {l : List Nat}, l ∈ setsR n d b ↔ ∃ m, l = b ++ m ∧ m.length = d ∧ l.Pairwise (· < ·) ∧ ∀ i ∈ l, i < n
  | 0, b, hb, hn, l => by
    simp only [setsR, List.mem_singleton]
    constructor
    · rintro rfl; exact ⟨[], by simp, rfl, hb, hn⟩
    · rintro ⟨m, rfl, hm, _, _⟩
      rw [List.length_eq_zero_iff] at hm; subst hm; simp
  | d + 1, b, hb, hn, l => by
    simp only [setsR, List.mem_flatMap, List.mem_range'_1]
    constructor
    · rintro ⟨i, ⟨h1, h2⟩, hl⟩
      rw [mem_sets (next_asc hb h1) (fun j hj => by rcases List.mem_append.1 hj with h | h; exact hn j h; simp at h; omega)] at hl
      obtain ⟨m, rfl, hm, h3, h4⟩ := hl
      exact ⟨i :: m, by simp, by simp [hm], h3, h4⟩
    · rintro ⟨m, rfl, hm, h3, h4⟩
      obtain ⟨i, m, rfl⟩ : ∃ i m', m = i :: m' := by cases m with | nil => simp at hm | cons i m => exact ⟨i, m, rfl⟩
      have hi := next_le h3
      have hin := h4 i (by simp)
      refine ⟨i, ⟨hi, by omega⟩, ?_⟩
      rw [mem_sets (next_asc hb hi) (fun j hj => h4 j (by rcases List.mem_append.1 hj with h | h; exact List.mem_append_left _ h; simp at h; simp [h]))]
      exact ⟨m, by simp, by simpa using hm, h3, h4⟩
theorem lt_pre {b u v : List Nat} {i j : Nat} (h : i < j) : b ++ [i] ++ u < b ++ [j] ++ v := by
  induction b with
  | nil => simp [List.cons_lt_cons_iff, h]
  | cons x b ih => simp only [List.cons_append] at ih ⊢; rw [List.cons_lt_cons_iff]; exact .inr ⟨rfl, ih⟩
theorem pre_sets {n : Nat} : ∀ {d : Nat} {b l : List Nat}, l ∈ setsR n d b → ∃ m, l = b ++ m
  | 0, b, l, h => by simp [setsR] at h; exact ⟨[], by simp [h]⟩
  | d + 1, b, l, h => by
    simp only [setsR, List.mem_flatMap] at h
    obtain ⟨i, _, h⟩ := h
    obtain ⟨m, rfl⟩ := pre_sets h
    exact ⟨i :: m, by simp⟩
theorem sets_asc {n : Nat} : ∀ (d : Nat) (b : List Nat), (setsR n d b).Pairwise (· < ·)
  | 0, b => by simp [setsR]
  | d + 1, b => by
    simp only [setsR]
    rw [List.pairwise_flatMap]
    refine ⟨fun i _ => sets_asc d _, ?_⟩
    refine List.Pairwise.imp ?_ (List.pairwise_lt_range' (s := nextS b) (n := n - nextS b))
    intro i j hij x hx y hy
    obtain ⟨u, rfl⟩ := pre_sets hx
    obtain ⟨v, rfl⟩ := pre_sets hy
    exact lt_pre hij
def XM (n k : Nat) (p : List Nat → Bool) : List Nat := (List.range (2 ^ n)).filter fun s => p (Zn s) && (Zn s).length == k
def finS (l : List Nat) : List (Fin 1024) := l.map (Fin.ofNat 1024)
theorem two_le {n : Nat} (hn : n ≤ 10) : 2 ^ n ≤ 1024 := Nat.pow_le_pow_right (n := 2) (by decide) hn
theorem sort_mem {α : Type} [Inhabited α] (cf : α → α → Int) (xs : List α) (x : α) : x ∈ sortBy cf xs ↔ x ∈ xs := by
  unfold sortBy; exact List.mem_mergeSort
theorem sets_sort {n k : Nat} (hn : n ≤ 10) (p : List Nat → Bool) : (sortBy cmpB (finS (XM n k p))).map (fun x : Fin 1024 => Zn x.1) = (setsR n k []).filter p := by
  have hlt : ∀ s ∈ XM n k p, s < 1024 := fun s hs => by
    simp [XM] at hs
    have := two_le hn; omega
  have hfin : ∀ s, s < 1024 → ((Fin.ofNat 1024 s : Fin 1024) : Nat) = s := fun s hs => Nat.mod_eq_of_lt hs
  refine sorted_ext (lt := fun a b : List Nat => a < b) (fun x => List.lt_irrefl x) (fun x y z => List.lt_trans) ?_ (List.Pairwise.filter _ (sets_asc k [])) fun l => ?_
  · rw [List.pairwise_map]
    have h1 : (sortBy cmpB (finS (XM n k p))).Pairwise fun a b => (!ltOf cmpB b a) = true :=
      List.pairwise_mergeSort (fun a b c h1 h2 => by
        simp only [Bool.not_eq_true'] at *
        exact swoB.ntrans _ _ _ h2 h1) (fun a b => by
        simp only [ltB, Bool.or_eq_true, Bool.not_eq_true', decide_eq_false_iff_not]
        by_cases h : Zn b < Zn a
        · exact .inr fun h2 => List.lt_irrefl _ (List.lt_trans h h2)
        · exact .inl h) _
    have h2 : (sortBy cmpB (finS (XM n k p))).Nodup := by
      have hp : (sortBy cmpB (finS (XM n k p))).Perm (finS (XM n k p)) := List.mergeSort_perm _ _
      rw [hp.nodup_iff]
      unfold finS
      refine List.Pairwise.map _ (fun a b hab => ?_) (List.Pairwise.imp_of_mem (S := fun a b => a < b ∧ a < 1024 ∧ b < 1024) (fun {a b} ha hb hab => ⟨hab, hlt a ha, hlt b hb⟩) (List.Pairwise.filter _ List.pairwise_lt_range))
      intro e
      have := congrArg Fin.val e
      have e1 := hfin a hab.2.1
      have e2 := hfin b hab.2.2
      have h3 := hab.1
      omega
    refine (List.Pairwise.and h1 h2).imp fun {a b} h => ?_
    have h3 := h.1
    rw [ltB] at h3
    simp only [Bool.not_eq_true', decide_eq_false_iff_not, List.not_lt] at h3
    rcases List.le_iff_lt_or_eq.1 h3 with h4 | h4
    · exact h4
    · exact absurd (Fin.ext (bits_inj a.2 b.2 h4)) h.2
  · simp only [List.mem_map, sort_mem, finS, List.mem_filter]
    rw [mem_sets List.Pairwise.nil (by simp)]
    constructor
    · rintro ⟨x, ⟨s, hs, rfl⟩, rfl⟩
      have h1 := hlt s hs
      rw [hfin s h1]
      simp [XM] at hs
      exact ⟨⟨_, rfl, hs.2.2, bits_asc s, fun i hi => bits_below hs.1 hi⟩, hs.2.1⟩
    · rintro ⟨⟨m, rfl, hm, h3, h4⟩, h5⟩
      try simp only [List.nil_append] at *
      have hb := bits_mask h3 fun i hi => by have := h4 i hi; omega
      have hm2 := mask_lt h4
      have := two_le hn
      refine ⟨Fin.ofNat 1024 (mask l), ⟨mask l, ?_, rfl⟩, by rw [hfin _ (by omega), hb]⟩
      simp [XM, hb, hm, h5, hm2]
theorem taken_len {n k : Nat} (p : List Nat → Bool) (hn : n ≤ 10) : (XM n k p).length = ((setsR n k []).filter p).length := by
  rw [← sets_sort hn p]
  simp [sortBy_len, finS]
end Go.Proofs.YtpebmjeomlgmdaaDoor.Tab
namespace Go.Abs
open Go
theorem ofInt_nat (n : Nat) : BitVec.ofInt 64 (n : Int) = BitVec.ofNat 64 n := by
 apply BitVec.eq_of_toNat_eq
 simp only [BitVec.toNat_ofInt, BitVec.toNat_ofNat]
 omega
theorem W_u {n : Nat} (h : n < 18446744073709551616) : W .u64 (n : Int) = n := by
 simp only [W]; rw [if_pos (by omega)]
theorem W_i {n : Nat} (h : n < 9223372036854775808) : W .i64 (n : Int) = n := by
 simp only [W]; rw [if_pos (by omega)]
theorem and_nat {a b : Nat} (ha : a < 9223372036854775808) (hb : b < 9223372036854775808) : (BitVec.ofInt 64 (a : Int) &&& BitVec.ofInt 64 (b : Int)).toNat = a &&& b := by
 rw [ofInt_nat, ofInt_nat, BitVec.toNat_and, BitVec.toNat_ofNat, BitVec.toNat_ofNat, Nat.mod_eq_of_lt (by omega), Nat.mod_eq_of_lt (by omega)]
theorem or_nat {a b : Nat} (ha : a < 9223372036854775808) (hb : b < 9223372036854775808) : (BitVec.ofInt 64 (a : Int) ||| BitVec.ofInt 64 (b : Int)).toNat = a ||| b := by
 rw [ofInt_nat, ofInt_nat, BitVec.toNat_or, BitVec.toNat_ofNat, BitVec.toNat_ofNat, Nat.mod_eq_of_lt (by omega), Nat.mod_eq_of_lt (by omega)]
theorem and_lt63 {a b : Nat} (ha : a < 9223372036854775808) : a &&& b < 9223372036854775808 := Nat.lt_of_le_of_lt Nat.and_le_left ha
theorem or_lt63 {a b : Nat} (ha : a < 9223372036854775808) (hb : b < 9223372036854775808) : a ||| b < 9223372036854775808 := Nat.or_lt_two_pow (n := 63) ha hb
theorem and_u {a b : Nat} (ha : a < 9223372036854775808) (hb : b < 9223372036854775808) : arI .and .u64 (a : Int) (b : Int) = some (.int .u64 ((a &&& b : Nat) : Int)) := by
 have h := and_lt63 (b := b) ha
 show some (Za.int .u64 (W .u64 ((BitVec.ofInt 64 (a : Int) &&& BitVec.ofInt 64 (b : Int)).toNat : Int))) = _
 rw [and_nat ha hb, W_u (show a &&& b < 18446744073709551616 by omega)]
theorem and_i {a b : Nat} (ha : a < 9223372036854775808) (hb : b < 9223372036854775808) : arI .and .i64 (a : Int) (b : Int) = some (.int .i64 ((a &&& b : Nat) : Int)) := by
 have h := and_lt63 (b := b) ha
 show some (Za.int .i64 (W .i64 ((BitVec.ofInt 64 (a : Int) &&& BitVec.ofInt 64 (b : Int)).toNat : Int))) = _
 rw [and_nat ha hb, W_i h]
theorem or_u {a b : Nat} (ha : a < 9223372036854775808) (hb : b < 9223372036854775808) : arI .or .u64 (a : Int) (b : Int) = some (.int .u64 ((a ||| b : Nat) : Int)) := by
 have h := or_lt63 ha hb
 show some (Za.int .u64 (W .u64 ((BitVec.ofInt 64 (a : Int) ||| BitVec.ofInt 64 (b : Int)).toNat : Int))) = _
 rw [or_nat ha hb, W_u (show a ||| b < 18446744073709551616 by omega)]
theorem or_i {a b : Nat} (ha : a < 9223372036854775808) (hb : b < 9223372036854775808) : arI .or .i64 (a : Int) (b : Int) = some (.int .i64 ((a ||| b : Nat) : Int)) := by
 have h := or_lt63 ha hb
 show some (Za.int .i64 (W .i64 ((BitVec.ofInt 64 (a : Int) ||| BitVec.ofInt 64 (b : Int)).toNat : Int))) = _
 rw [or_nat ha hb, W_i h]
def ldN (a b : Nat) : Nat := (BitVec.ofNat 64 a &&& ~~~ BitVec.ofNat 64 b).toNat
theorem ldN_bit {a b i : Nat} (ha : a < 9223372036854775808) (hb : b < 9223372036854775808) : (ldN a b).testBit i = (a.testBit i && !b.testBit i) := by
 unfold ldN
 rw [BitVec.testBit_toNat, BitVec.getLsbD_and, BitVec.getLsbD_not, BitVec.getLsbD_ofNat, BitVec.getLsbD_ofNat]
 by_cases hi : i < 64
 ·simp [hi]
 ·have : a.testBit i = false := Nat.testBit_lt_two_pow (Nat.lt_of_lt_of_le ha (by have := Nat.pow_le_pow_right (n := 2) (by decide) (show 63 ≤ i by omega); omega))
  simp [hi, this]
theorem ldN_lt {a b : Nat} : ldN a b < 18446744073709551616 := (BitVec.ofNat 64 a &&& ~~~ BitVec.ofNat 64 b).isLt
theorem not_u {a b : Nat} : arI .andNot .u64 (a : Int) (b : Int) = some (.int .u64 ((ldN a b : Nat) : Int)) := by
 show some (Za.int .u64 (W .u64 ((BitVec.ofInt 64 (a : Int) &&& ~~~ BitVec.ofInt 64 (b : Int)).toNat : Int))) = _
 rw [ofInt_nat, ofInt_nat]
 have := ldN_lt (a := a) (b := b)
 unfold ldN at this ⊢
 rw [W_u this]
def subN (a b : Nat) : Bool := a &&& b == a
theorem subN_iff {a b : Nat} : subN a b = true ↔ ∀ i, a.testBit i = true → b.testBit i = true := by
 simp only [subN, beq_iff_eq]
 constructor
 ·intro h i hi
  rw [← h, Nat.testBit_and] at hi
  simp at hi; exact hi.2
 ·intro h
  refine Nat.eq_of_testBit_eq fun i => ?_
  rw [Nat.testBit_and]
  cases e : a.testBit i with
  | false => rfl
  | true => simp [h i e]
theorem ldN_zero {a b : Nat} (ha : a < 9223372036854775808) (hb : b < 9223372036854775808) : (ldN a b == 0) = subN a b := by
 rw [Bool.eq_iff_iff, subN_iff, beq_iff_eq]
 constructor
 ·intro h i hi
  have := ldN_bit (i := i) ha hb
  rw [h, hi] at this
  simpa using this
 ·intro h
  refine Nat.eq_of_testBit_eq fun i => ?_
  rw [ldN_bit ha hb, Nat.zero_testBit]
  cases e : a.testBit i with
  | false => rfl
  | true => simp [h i e]
theorem shr_u {a k : Nat} (hk : k ≤ 63) (kd : IntKind) (hb : kd.bits = 64) : shI .shr kd (a : Int) (k : Int) = some (.int kd ((a >>> k : Nat) : Int)) := by
 have : min k 64 = k := by omega
 simp only [shI, hb, Int.toNat_natCast, this]
 rw [if_neg (by omega)]
 congr 2
 rw [Nat.shiftRight_eq_div_pow]
 have e : (2 : Int) ^ k = ((2 ^ k : Nat) : Int) := by norm_cast
 rw [e, Int.fdiv_eq_ediv_of_nonneg _ (Int.natCast_nonneg _)]
 norm_cast
theorem shl_one {k : Nat} (hk : k ≤ 62) (kd : IntKind) (hkd : kd = .i64 ∨ kd = .u64) : shI .shl kd 1 (k : Int) = some (.int kd ((2 ^ k : Nat) : Int)) := by
 have hp : 2 ^ k < 9223372036854775808 := by have := Nat.pow_le_pow_right (n := 2) (by decide) hk; omega
 have hb : kd.bits = 64 := by rcases hkd with rfl | rfl <;> rfl
 have hm : min k 64 = k := by omega
 simp only [shI, hb, Int.toNat_natCast, hm, Int.one_mul]
 rw [if_neg (by omega)]
 have : ((2 : Int) ^ k) = ((2 ^ k : Nat) : Int) := by norm_cast
 rw [this]
 rcases hkd with rfl | rfl
 ·rw [W_i hp]
 ·rw [W_u (by omega)]
theorem bit_one (a k : Nat) : ((a >>> k &&& 1 : Nat) == 1) = a.testBit k := by
 simp only [Nat.testBit, Nat.and_one_is_mod, Nat.one_and_eq_mod_two]
 have := Nat.mod_two_eq_zero_or_one (a >>> k)
 rcases this with h | h <;> rw [h] <;> rfl
theorem bit_oneI (a k : Nat) : (((a >>> k &&& 1 : Nat) : Int) == 1) = a.testBit k := by
 rw [← bit_one]
 rw [Bool.eq_iff_iff]
 simp only [beq_iff_eq]
 omega
end Go.Abs
namespace Go.Proofs.YtpebmjeomlgmdaaDoor.Tab
open Go Go.Abs Go.Proofs
set_option linter.unusedSimpArgs false
set_option linter.unusedVariables false
abbrev Cs := List (Nat × Nat)
def CsOk (cs : Cs) : Prop := cs.length ≤ 10 ∧ ∀ x ∈ cs, x.1 < 4096 ∧ x.2 < 4096
def cM (cs : Cs) (i : Nat) : Nat := (cs.getD i (0, 0)).1
def cA (cs : Cs) (i : Nat) : Nat := (cs.getD i (0, 0)).1 ||| (cs.getD i (0, 0)).2
def YF (cs : Cs) (l : List Nat) : Nat := l.foldl (fun a i => a ||| cM cs i) 0
def YP (cs : Cs) (l : List Nat) : Nat := l.foldl (fun a i => a ||| cA cs i) 0
theorem getD_ok {cs : Cs} (h : CsOk cs) (i : Nat) : (cs.getD i (0, 0)).1 < 4096 ∧ (cs.getD i (0, 0)).2 < 4096 := by
  by_cases hi : i < cs.length
  · have e : cs.getD i (0, 0) = cs[i] := by simp [List.getD, hi]
    rw [e]; exact h.2 _ (List.getElem_mem hi)
  · have e : cs.getD i (0, 0) = (0, 0) := by simp [List.getD, List.getElem?_eq_none (show cs.length ≤ i by omega)]
    rw [e]; decide
theorem cM_lt {cs : Cs} (h : CsOk cs) (i : Nat) : cM cs i < 4096 := (getD_ok h i).1
theorem cA_lt {cs : Cs} (h : CsOk cs) (i : Nat) : cA cs i < 4096 := Nat.or_lt_two_pow (n := 12) (getD_ok h i).1 (getD_ok h i).2
theorem fold_or {f : Nat → Nat} : ∀ (l : List Nat) (a s : Nat), (l.foldl (fun a i => a ||| f i) a).testBit s = (a.testBit s || l.any fun i => (f i).testBit s)
  | [], a, s => by simp
  | i :: l, a, s => by simp only [List.foldl_cons, List.any_cons]; rw [fold_or l, Nat.testBit_or, Bool.or_assoc]
theorem fold_lt {f : Nat → Nat} (hf : ∀ i, f i < 4096) : ∀ (l : List Nat) (a : Nat), a < 4096 → l.foldl (fun a i => a ||| f i) a < 4096
  | [], a, h => h
  | i :: l, a, h => by simp only [List.foldl_cons]; exact fold_lt hf l _ (Nat.or_lt_two_pow (n := 12) h (hf i))
theorem mustL_lt {cs : Cs} (h : CsOk cs) (l : List Nat) : YF cs l < 4096 := fold_lt (cM_lt h) l 0 (by decide)
theorem allL_lt {cs : Cs} (h : CsOk cs) (l : List Nat) : YP cs l < 4096 := fold_lt (cA_lt h) l 0 (by decide)
theorem mustL_bit (cs : Cs) (l : List Nat) (s : Nat) : (YF cs l).testBit s = l.any fun i => (cM cs i).testBit s := by
  unfold YF; rw [fold_or]; simp
theorem allL_bit (cs : Cs) (l : List Nat) (s : Nat) : (YP cs l).testBit s = l.any fun i => (cA cs i).testBit s := by
  unfold YP; rw [fold_or]; simp
def explN (cs : Cs) (l : List Nat) (se mi : Nat) : Bool := subN se (YP cs l) && (mi &&& YF cs l == 0)
def mayR (cs : Cs) (l : List Nat) (s : Nat) : Bool := l.any fun i => (cM cs i).testBit s || ((cs.getD i (0, 0)).2).testBit s
def explR (cs : Cs) (l : List Nat) (se mi : Nat) : Bool := (List.range 12).all fun s => !(se.testBit s && !mayR cs l s || mi.testBit s && l.any fun i => (cM cs i).testBit s)
theorem mayR_eq (cs : Cs) (l : List Nat) (s : Nat) : mayR cs l s = (YP cs l).testBit s := by
  rw [allL_bit]; unfold mayR cA cM
  congr 1; funext i; rw [Nat.testBit_or]
theorem bit12 {x s : Nat} (hx : x < 4096) (h : x.testBit s = true) : s < 12 := by
  rcases Nat.lt_or_ge s 12 with h1 | h1
  · exact h1
  · rw [Nat.testBit_lt_two_pow (Nat.lt_of_lt_of_le hx (by have := Nat.pow_le_pow_right (n := 2) (by decide) h1; omega))] at h; simp at h
theorem expl_eq {cs : Cs} {l : List Nat} {se mi : Nat} (h1 : se < 4096) (h2 : mi < 4096) : explN cs l se mi = explR cs l se mi := by
  rw [Bool.eq_iff_iff]
  unfold explN explR
  simp only [Bool.and_eq_true, subN_iff, beq_iff_eq, List.all_eq_true, List.mem_range, mayR_eq, ← mustL_bit]
  constructor
  · rintro ⟨ha, hb⟩ s hs
    have e : (mi &&& YF cs l).testBit s = false := by rw [hb]; simp
    rw [Nat.testBit_and] at e
    cases h3 : se.testBit s with
    | false => simp [e]
    | true => simp [ha s h3, e]
  · intro h
    refine ⟨fun i hi => ?_, Nat.eq_of_testBit_eq fun i => ?_⟩
    · have := h i (bit12 h1 hi)
      simp [hi] at this; exact this.1
    · rw [Nat.testBit_and, Nat.zero_testBit]
      cases h3 : mi.testBit i with
      | false => rfl
      | true =>
        have := h i (bit12 h2 h3)
        simp [h3] at this
        simp [this]
def compE (l : List (Int × Int)) (se mi : Int) : Int :=
  if l.length > 10 then 5 else if l.any (fun x => !(decide (0 ≤ x.1) && decide (x.1 ≤ 4095) && decide (0 ≤ x.2) && decide (x.2 ≤ 4095))) then 4
  else if !(decide (0 ≤ se) && decide (se ≤ 4095) && decide (0 ≤ mi) && decide (mi ≤ 4095)) then 3
  else if se.toNat &&& mi.toNat == 0 then 0 else 6
def YQ (l : List (Int × Int)) : Cs := l.map fun x => (x.1.toNat, x.2.toNat)
theorem compE_ok {l : List (Int × Int)} {se mi : Int} (h : compE l se mi = 0) : l.length ≤ 10 ∧ (∀ x ∈ l, 0 ≤ x.1 ∧ x.1 ≤ 4095 ∧ 0 ≤ x.2 ∧ x.2 ≤ 4095) ∧ (0 ≤ se ∧ se ≤ 4095 ∧ 0 ≤ mi ∧ mi ≤ 4095) ∧ se.toNat &&& mi.toNat = 0 := by
  unfold compE at h
  split at h
  · simp at h
  · rename_i h1
    split at h
    · simp at h
    · rename_i h2
      split at h
      · simp at h
      · rename_i h3
        split at h
        · rename_i h4
          refine ⟨by omega, fun x hx => ?_, ?_, by simpa using h4⟩
          · rw [Bool.not_eq_true, List.any_eq_false] at h2
            have := h2 x hx
            simp only [Bool.not_eq_true, Bool.not_eq_false', Bool.and_eq_true, decide_eq_true_eq] at this
            exact ⟨this.1.1.1, this.1.1.2, this.1.2, this.2⟩
          · simp only [Bool.not_eq_true, Bool.not_eq_false', Bool.and_eq_true, decide_eq_true_eq] at h3
            exact ⟨h3.1.1.1, h3.1.1.2, h3.1.2, h3.2⟩
        · simp at h
theorem toCs_ok {l : List (Int × Int)} {se mi : Int} (h : compE l se mi = 0) : CsOk (YQ l) := by
  obtain ⟨h1, h2, _⟩ := compE_ok h
  refine ⟨by simpa [YQ] using h1, fun x hx => ?_⟩
  obtain ⟨y, hy, rfl⟩ := List.mem_map.1 hx
  have := h2 y hy
  simp only
  omega
def setsOf (n k : Nat) (p : List Nat → Bool) : List (List Nat) := (setsR n k []).filter p
def firstS (n : Nat) (p : List Nat → Bool) : Nat → Nat → List (List Nat)
  | 0, _ => []
  | f + 1, k => if setsOf n k p = [] then firstS n p f (k + 1) else setsOf n k p
def foundS (n : Nat) (p : List Nat → Bool) : List (List Nat) := firstS n p (n + 1) 0
theorem firstS_mem {n : Nat} {p : List Nat → Bool} : ∀ {f k : Nat}, firstS n p f k ≠ [] → ∃ j, k ≤ j ∧ j < k + f ∧ firstS n p f k = setsOf n j p ∧ ∀ i, k ≤ i → i < j → setsOf n i p = []
  | 0, k, h => by simp [firstS] at h
  | f + 1, k, h => by
    simp only [firstS] at h ⊢
    split
    · rename_i e
      rw [if_pos e] at h
      obtain ⟨j, h1, h2, h3, h4⟩ := firstS_mem h
      exact ⟨j, by omega, by omega, h3, fun i hi hj => by
        by_cases e2 : i = k
        · subst e2; exact e
        · exact h4 i (by omega) hj⟩
    · exact ⟨k, Nat.le_refl _, by omega, rfl, fun i hi hj => absurd hj (by omega)⟩
theorem firstS_nil {n : Nat} {p : List Nat → Bool} : ∀ {f k : Nat}, firstS n p f k = [] → ∀ i, k ≤ i → i < k + f → setsOf n i p = []
  | 0, k, _, i, h1, h2 => absurd h2 (by omega)
  | f + 1, k, h, i, h1, h2 => by
    simp only [firstS] at h
    split at h
    · rename_i e
      by_cases e2 : i = k
      · subst e2; exact e
      · exact firstS_nil h i (by omega) (by omega)
    · rename_i e; exact absurd h e
end Go.Proofs.YtpebmjeomlgmdaaDoor.Tab
namespace Go.Proofs.YtpebmjeomlgmdaaDoor.Tab
open Go Go.Abs Go.Proofs
set_option maxRecDepth 100000
set_option maxHeartbeats 4000000
set_option linter.unusedSimpArgs false
set_option linter.unusedVariables false
noncomputable section
attribute [local simp] Yp ZZ Xi Xj Yu Yt Xk YE YO Yj Zd XX Xd YD Xf Xb YC Yi XR XT YZ YB YA Yz Xe Xa Xc XS XU slE XF YV ZX Zy Xo List.range_succ List.range_zero List.range'_succ List.range'_zero ZN ZL Zq ZQ ZA ZE YX ZS dop CV.ev Ya Zm Zv YL XP Yk ZK Zu Zl Out.v Xq List.replicate_succ zT zB arI Zw Abs.rowAt Xm allV toV toC ofV ofC Builtin.min_ Builtin.min2 Builtin.max_ Builtin.max2 Xg Xh XW XQ Xn ZM Yf Yg Ye Zb
section
attribute [local simp] ZO ZB YH Yw XI YY disj YJ XO YK ZI YM news eqB YW eqA Yx YS YQ ofCs stA Yh ZC Yl dI1 dI2 dI3 dI5 elt
attribute [local simp] st_any XZ st_agg st_tup Xw st_int Xt st_ref st_pv Xs st_sl st_vl Xu st_mp st_fn Xv XY co_any co_und co_agg co_tup XC co_int Xz co_ref co_pv Xy co_sl co_vl XA co_mp co_fn XB co_yld
attribute [local simp] Ym Zj lim lop Yo rbB_none rbB_row
theorem k92 : allN 1024 (fun s => s == 0 || isR (I (tz s : Nat)) (YI TK (exec Tryd.prog TK 300) 92 [.int .u64 (s : Nat)] [])) = true := by kernel_rfl
def o92 : List Za → Option Za
  | [.int .u64 n] => if 0 < n ∧ n < 1024 then some (I (tz n.toNat : Nat)) else none
  | _ => none
def o106 : List Za → Option Za
  | [.int .u64 n] => if 0 ≤ n ∧ n < 1024 then some (I ((Zn n.toNat).length : Nat)) else none
  | _ => none
theorem o92_eq {s : Nat} (h0 : s ≠ 0) (hs : s < 1024) : o92 [.int .u64 (s : Nat)] = some (I (tz s : Nat)) := by
  simp only [o92]; rw [if_pos (by omega)]; rfl
theorem o106_eq {s : Nat} (hs : s < 1024) : o106 [.int .u64 (s : Nat)] = some (I ((Zn s).length : Nat)) := by
  simp only [o106]; rw [if_pos (by omega)]; rfl
def DA1 : Nat → Option CFn := upd TK 92 true (o92)
theorem DA1_ok : Zp Tryd.prog GG DA1 := ZJ mixed TK_ok fun args v ho => by
  unfold o92 at ho; split at ho <;> (try simp only [reduceCtorEq] at ho)
  rename_i n
  split at ho <;> (try simp only [reduceCtorEq] at ho)
  rename_i hg
  simp only [Option.some.injEq] at ho
  subst ho
  obtain ⟨s, rfl⟩ : ∃ s : Nat, n = s := ⟨n.toNat, by omega⟩
  have h := allN_get k92 s (by omega)
  have h0 : (s == 0) = false := by simp; omega
  rw [h0, Bool.false_or] at h
  exact Yy h
theorem k106_0 : allN 128 (fun i => isR (I ((Zn (0 + i)).length : Nat)) (YI DA1 (exec Tryd.prog DA1 300) 106 [.int .u64 ((0 + i : Nat) : Int)] [])) = true := by kernel_rfl
theorem k106_1 : allN 128 (fun i => isR (I ((Zn (128 + i)).length : Nat)) (YI DA1 (exec Tryd.prog DA1 300) 106 [.int .u64 ((128 + i : Nat) : Int)] [])) = true := by kernel_rfl
theorem k106_2 : allN 128 (fun i => isR (I ((Zn (256 + i)).length : Nat)) (YI DA1 (exec Tryd.prog DA1 300) 106 [.int .u64 ((256 + i : Nat) : Int)] [])) = true := by kernel_rfl
theorem k106_3 : allN 128 (fun i => isR (I ((Zn (384 + i)).length : Nat)) (YI DA1 (exec Tryd.prog DA1 300) 106 [.int .u64 ((384 + i : Nat) : Int)] [])) = true := by kernel_rfl
theorem k106_4 : allN 128 (fun i => isR (I ((Zn (512 + i)).length : Nat)) (YI DA1 (exec Tryd.prog DA1 300) 106 [.int .u64 ((512 + i : Nat) : Int)] [])) = true := by kernel_rfl
theorem k106_5 : allN 128 (fun i => isR (I ((Zn (640 + i)).length : Nat)) (YI DA1 (exec Tryd.prog DA1 300) 106 [.int .u64 ((640 + i : Nat) : Int)] [])) = true := by kernel_rfl
theorem k106_6 : allN 128 (fun i => isR (I ((Zn (768 + i)).length : Nat)) (YI DA1 (exec Tryd.prog DA1 300) 106 [.int .u64 ((768 + i : Nat) : Int)] [])) = true := by kernel_rfl
theorem k106_7 : allN 128 (fun i => isR (I ((Zn (896 + i)).length : Nat)) (YI DA1 (exec Tryd.prog DA1 300) 106 [.int .u64 ((896 + i : Nat) : Int)] [])) = true := by kernel_rfl
def DA2 : Nat → Option CFn := upd DA1 106 true (o106)
theorem DA2_ok : Zp Tryd.prog GG DA2 := ZJ mixed DA1_ok fun args v ho => by
  unfold o106 at ho; split at ho <;> (try simp only [reduceCtorEq] at ho)
  rename_i n
  split at ho <;> (try simp only [reduceCtorEq] at ho)
  rename_i hg
  simp only [Option.some.injEq] at ho
  subst ho
  obtain ⟨s, rfl⟩ : ∃ s : Nat, n = s := ⟨n.toNat, by omega⟩
  by_cases h0 : s < 128
  · have := allN_get k106_0 (s - 0) (by omega)
    simp only [show 0 + (s - 0) = s by omega] at this
    exact Yy this
  by_cases h1 : s < 256
  · have := allN_get k106_1 (s - 128) (by omega)
    simp only [show 128 + (s - 128) = s by omega] at this
    exact Yy this
  by_cases h2 : s < 384
  · have := allN_get k106_2 (s - 256) (by omega)
    simp only [show 256 + (s - 256) = s by omega] at this
    exact Yy this
  by_cases h3 : s < 512
  · have := allN_get k106_3 (s - 384) (by omega)
    simp only [show 384 + (s - 384) = s by omega] at this
    exact Yy this
  by_cases h4 : s < 640
  · have := allN_get k106_4 (s - 512) (by omega)
    simp only [show 512 + (s - 512) = s by omega] at this
    exact Yy this
  by_cases h5 : s < 768
  · have := allN_get k106_5 (s - 640) (by omega)
    simp only [show 640 + (s - 640) = s by omega] at this
    exact Yy this
  by_cases h6 : s < 896
  · have := allN_get k106_6 (s - 768) (by omega)
    simp only [show 768 + (s - 768) = s by omega] at this
    exact Yy this
  by_cases h7 : s < 1024
  · have := allN_get k106_7 (s - 896) (by omega)
    simp only [show 896 + (s - 896) = s by omega] at this
    exact Yy this
  omega
theorem it69 (P : Program) (T : Nat → Option CFn) (hT : T 69 = some c69) (h92 : T 92 = some { c92 with frsh := true, orc := o92 }) (s : Nat) (hs : s < 1024) (r N : Nat) (J : List Nat → Zg → Prop) (hJ : ∀ l h, J l h → N ≤ h.length) (htr : ∀ l h n vs, N ≤ n → J l h → J l (trim n vs h))
    (step : ∀ i l h, J (i :: l) h → i < 10 → Ylds P T r [I (i : Nat)] h fun v h' => v = .bool true ∧ J l h') :
    ∀ h, J (Zn s) h → Zo P T 69 [.int .u64 (s : Nat), .yld r] h fun _ h2 => J [] h2 := by
  intro h hh
  have hlen0 := hJ _ _ hh
  refine Zi hT (Zk rfl) ?_
  simp only [oo, om, op, og, ci, cl, c69]
  refine zL ?_
  refine Zs (fun m σ => ∃ (x : Nat) (g : Zg), x = m ∧ x < 1024 ∧ J (Zn x) g ∧ σ = ⟨[.int .u64 (x : Nat), .yld r, .any, .any, .any, .any, .any, .any, .any, .any, .any, .any, .any, .any, .any], g⟩) ?_ s _ ⟨s, h, rfl, hs, hh, by simp⟩
  rintro m σ ⟨x, g, rfl, hx, hj, rfl⟩
  have hlen := hJ _ _ hj
  refine zS ?_
  refine zS ?_
  refine zR (zO (by simp [zC h92, h92]; rfl) ?_)
  simp only [zT, zB]
  refine Zf (x := ((x : Int) != 0)) (by simp) (fun hx0 => ?_) (fun hx0 => ?_)
  · have hx0 : x ≠ 0 := by simpa using hx0
    obtain ⟨e1, e2, e3⟩ := bits_step hx hx0
    rw [e1] at hj
    have ho92 := o92_eq hx0 hx
    have hsub : W .u64 ((x : Int) - 1) = ((x - 1 : Nat) : Int) := by rw [show (x : Int) - 1 = ((x - 1 : Nat) : Int) by omega, W_u (by omega)]
    have hand := and_u (a := x) (b := x - 1) (by omega) (by omega)
    refine zK ?_
    simp only [zT, zB]
    refine zS ?_
    refine zL ?_
    refine zS ?_
    refine zR (ops_take 3 (by simp [zC h92, h92, ho92, hsub, ↓hand]; rfl) ?_)
    simp only [List.drop_succ_cons, List.drop_zero]
    refine ops_ylds (i := r) (args := [I (tz x : Nat)]) (by simp) (by simp) (by simp) (by simp) ?_
    refine (step (tz x) _ g hj e2).mono ?_
    rintro v h' ⟨rfl, hj'⟩
    refine zO (by simp; rfl) ?_
    simp only [zT, zB]
    refine Zc (x := false) (by simp) ?_
    refine zK ?_
    simp only [zT, zB]
    refine zR (zO (by simp [zC h92, h92, ho92, hsub, ↓hand]; rfl) ?_)
    simp only [zT, zB]
    exact ⟨x &&& (x - 1), e3, x &&& (x - 1), _, rfl, by omega, htr _ _ _ _ hlen hj', by simp; rfl⟩
  · obtain rfl : x = 0 := by simpa using hx0
    refine Zr ?_
    simp only [zT, zB, if_true, if_false, reduceIte, Nat.reduceEqDiff, Nat.succ_ne_zero, Nat.one_ne_zero, Nat.zero_ne_one]
    refine ⟨by simp, _, by simp; rfl, ?_⟩
    rw [bits_zero] at hj
    exact htr _ _ _ _ hlen0 hj
def rN (n : Nat) : List Za := [I (n : Nat)]
def Ys (l : List Nat) : Za := if l.isEmpty then .nils else .vl (l.map rN) false
theorem Yq (l : List Nat) : Zt (Ys l) = some (l.map rN) := by
  unfold Ys; cases l <;> rfl
def AccN (g : Zg) (v : Za) (l : List Nat) : Prop := (l = [] ∧ v = .nils) ∨ (l ≠ [] ∧ ∃ q, v = .sl (q + 2) 0 l.length false ∧ g[q]? = some (some (.row 1 (l.map rN))))
def asg91 : CC := (.reg [⟨(some 5), (.mv (.t 7)), none, []⟩])
def bd91 : CC := (.block 1 (.reg [⟨(some 8), (.ld (.t 2)), none, []⟩, ⟨(some 9), (.mv (.t 5)), none, []⟩, ⟨(some 10), (.bsl 1 1 [(.int .i64 (0))] [(0, (.t 9))]), none, []⟩, ⟨(some 11), (.app 1 (.t 8) (.t 10)), none, []⟩, ⟨none, (.st 1 (.t 2) (.t 11)), none, []⟩]))
def r91 (s : Nat) : List Za := [.nils, .fn 69 [.int .u64 (s : Nat)] [], .ref 0 0 0, .und, .nils, .und, .fn 69 [.int .u64 (s : Nat)] [], .und, .und, .und, .und, .und, .und]
theorem acc_trim {s : Nat} {v : Za} {g : Zg} {l : List Nat} (ha : AccN g v l) (n : Nat) (vs : List Za) (hn : 2 ≤ n) : ∃ g', trim n vs (some (.row 1 [[v]]) :: some (.loop (r91 s) [7] asg91 bd91 .ready none) :: g) = (some (.row 1 [[v]]) :: some (.loop (r91 s) [7] asg91 bd91 .ready none) :: g') ∧ AccN g' v l := by
  unfold trim
  split
  · rename_i hc
    obtain ⟨m, rfl⟩ : ∃ m, n = m + 2 := ⟨n - 2, by omega⟩
    simp only [List.take_succ_cons, List.all_cons, Bool.and_eq_true] at hc ⊢
    refine ⟨_, rfl, ?_⟩
    rcases ha with ha | ⟨h1, q, rfl, h2⟩
    · exact .inl ha
    · refine .inr ⟨h1, q, rfl, ?_⟩
      have hb := hc.2.1
      simp at hb
      rw [List.getElem?_take_of_lt (by omega)]; exact h2
  · exact ⟨g, rfl, ha⟩
theorem y91 (P : Program) (T : Nat → Option CFn) (s i : Nat) (hi : i < 10) (v : Za) (g : Zg) (l : List Nat) (hl : l.length ≤ 10) (ha : AccN g v l) :
    Ylds P T 1 [I (i : Nat)] (some (.row 1 [[v]]) :: some (.loop (r91 s) [7] asg91 bd91 .ready none) :: g) fun u h' => u = .bool true ∧ ∃ v' g', h' = (some (.row 1 [[v']]) :: some (.loop (r91 s) [7] asg91 bd91 .ready none) :: g') ∧ AccN g' v' (l ++ [i]) := by
  rcases ha with ⟨rfl, rfl⟩ | ⟨hne, q, rfl, hq⟩
  · skip
    refine ylds_of rfl rfl ?_
    show Runs P T (some 1) asg91 ⟨(r91 s).set 7 (I (i : Nat)), (some (.row 1 [[.nils]]) :: some (.loop (r91 s) [7] asg91 bd91 .ready none) :: g)⟩ _
    unfold asg91
    refine zR (zO (by simp [r91]; rfl) ?_)
    refine ⟨rfl, _, _, _, _, _, rfl, ?_⟩
    unfold bd91
    refine zL ?_
    refine zR (zO (by simp [r91, rN]; rfl) ?_)
    simp only [zT, zB]
    refine ⟨_, _, _, _, _, _, rfl, trivial, ?_⟩
    obtain ⟨g', e, hacc⟩ := acc_trim (s := s) (v := .sl (g.length + 3) 0 1 false) (g := g ++ [some (.row 1 [rN i]), some (.row 1 [rN i])]) (l := [] ++ [i]) (.inr ⟨by simp, g.length + 1, by simp, by simp [rN]⟩) (g.length + 2) [] (by omega)
    exact ⟨_, g', e, hacc⟩
  · have hql := (List.getElem?_eq_some_iff.1 hq).1
    have hqx : ∀ x, (g ++ [x])[q]? = some (some (.row 1 (l.map rN))) := fun x => by rw [List.getElem?_append_left hql]; exact hq
    have hqs : ∀ x y, (g ++ [x]).set q y = g.set q y ++ [x] := fun x y => List.set_append_left _ _ hql
    have hlim : l.length ≤ 1048575 := by omega
    have htk : (l.map rN).take l.length = l.map rN := List.take_of_length_le (by simp)
    have ha1 : (l.map rN).all (fun r => r.length == 1) = true := by simp [rN]
    have ha2 : (l.map rN).all (fun r => r.all ZD) = true := by simp [rN]
    refine ylds_of rfl rfl ?_
    show Runs P T (some 1) asg91 ⟨(r91 s).set 7 (I (i : Nat)), (some (.row 1 [[(.sl (q + 2) 0 l.length false)]]) :: some (.loop (r91 s) [7] asg91 bd91 .ready none) :: g)⟩ _
    unfold asg91
    refine zR (zO (by simp [r91]; rfl) ?_)
    refine ⟨rfl, _, _, _, _, _, rfl, ?_⟩
    unfold bd91
    have HH1 := And.intro hlim (And.intro hqx (And.intro hqs (And.intro htk (And.intro ha1 ha2))))
    refine zL ?_
    refine zR (zO (by simp [r91, rN, HH1]; rfl) ?_)
    simp only [zT, zB]
    refine ⟨_, _, _, _, _, _, rfl, trivial, ?_⟩
    obtain ⟨g', e, hacc⟩ := acc_trim (s := s) (v := .sl (g.length + 3) 0 (l.length + 1) false) (g := g.set q none ++ [some (.row 1 [rN i]), some (.row 1 (l.map rN ++ [rN i]))]) (l := l ++ [i]) (.inr ⟨by simp, g.length + 1, by simp, by simp [rN]⟩) (g.length + 2) [] (by omega)
    exact ⟨_, g', e, hacc⟩
theorem bits_len (s : Nat) : (Zn s).length < 11 := by
  have := List.length_filter_le (fun i => s.testBit i) (List.range 10)
  simp only [List.length_range] at this
  unfold Zn; omega
theorem a91 (P : Program) (T : Nat → Option CFn) (hT : T 91 = some c91) (h69 : T 69 = some c69) (h92 : T 92 = some { c92 with frsh := true, orc := o92 }) (s : Nat) (hs : s < 1024) :
  Zo P T 91 [.nils, .fn 69 [.int .u64 (s : Nat)] []] [] fun v h => frz true h 5 v = some (Ys (Zn s)) := by
 refine Zi hT (Zk rfl) ?_
 simp only [oo, om, op, og, ci, cl, c91]
 refine zS ?_
 refine zR (zO (by simp; rfl) ?_)
 simp only [zT, zB]
 refine zS ?_
 refine zS ?_
 refine zR (zO (by simp; rfl) ?_)
 simp only [zT, zB]
 refine zL ?_
 refine runs_rf (f := 69) (a := [.int .u64 (s : Nat)]) (b := []) (by simp [inLoop]) (by simp) ?_
 have hit := it69 P T h69 h92 s hs 1 2 (fun l g => ∃ done v h, done ++ l = Zn s ∧ g = (some (.row 1 [[v]]) :: some (.loop (r91 s) [7] asg91 bd91 .ready none) :: h) ∧ AccN h v done)
  (fun l g ⟨d, v, h, _, e, _⟩ => by rw [e]; simp)
  (fun l g n vs hn ⟨d, v, h, e1, e2, e3⟩ => by
   obtain ⟨g', e, h3⟩ := acc_trim (s := s) e3 n vs hn
   exact ⟨d, v, g', e1, by rw [e2]; exact e, h3⟩)
  (fun i l g ⟨d, v, h, e1, e2, e3⟩ hi10 => by
   rw [e2]
   have hdl : d.length ≤ 10 := by have := bits_len s; rw [← e1] at this; simp at this; omega
   refine (y91 P T s i hi10 v h d hdl e3).mono ?_
   rintro u h' ⟨rfl, v', g', rfl, h4⟩
   exact ⟨rfl, d ++ [i], v', g', by rw [← e1]; simp, rfl, h4⟩) _ ⟨[], .nils, [], rfl, rfl, .inl ⟨rfl, rfl⟩⟩
 refine (show Zo P T 69 ([.int .u64 (s : Nat)] ++ [.yld 1] ++ []) (some (.row 1 [[.nils]]) :: some (.loop (r91 s) [7] asg91 bd91 .ready none) :: []) _ from hit).mono ?_
 rintro _ h2 ⟨d, v, g, e1, rfl, hacc⟩
 rw [List.append_nil] at e1
 refine ⟨_, _, _, _, _, _, rfl, by simp, ?_⟩
 simp only [List.set_cons_succ, List.set_cons_zero, List.length_cons, List.length_nil]
 try simp only [zT, zB]
 rw [← e1]
 rcases hacc with ⟨rfl, rfl⟩ | ⟨hne, q, rfl, hq⟩
 ·refine zS ?_
  refine zR (zO (by simp; rfl) ?_)
  simp only [zT, zB]
  refine Ze ?_
  simp [trim, Ys]
 ·have htk : (d.map rN).take d.length = d.map rN := List.take_of_length_le (by simp)
  have hfz : ∀ H n, Zd (Zd (frz true H (n + 1))) (d.map rN) = some (d.map rN) := fun H n => Zx _ fun r hr => Zx _ fun x hx => by
   obtain ⟨y, _, rfl⟩ := List.mem_map.1 hr
   simp only [rN, List.mem_singleton] at hx
   subst hx; rfl
  have hie : d.isEmpty = false := by cases d <;> simp_all
  refine zS ?_
  refine zR (zO (by simp; rfl) ?_)
  simp only [zT, zB]
  refine Ze ?_
  simp [trim, Ys, hq, htk, hfz, hie]
def o91 : List Za → Option Za
  | [.nils, .fn 69 [.int .u64 n] []] => if 0 ≤ n ∧ n < 1024 then some (Ys (Zn n.toNat)) else none
  | _ => none
theorem o91_eq {s : Nat} (hs : s < 1024) : o91 [.nils, .fn 69 [.int .u64 (s : Nat)] []] = some (Ys (Zn s)) := by
  simp only [o91]; rw [if_pos (by omega)]; rfl
def o68 : List Za → Option Za
  | [.fn 69 [.int .u64 n] []] => if 0 ≤ n ∧ n < 1024 then some (Ys (Zn n.toNat)) else none
  | _ => none
theorem o68_eq {s : Nat} (hs : s < 1024) : o68 [.fn 69 [.int .u64 (s : Nat)] []] = some (Ys (Zn s)) := by
  simp only [o68]; rw [if_pos (by omega)]; rfl
def DA2b : Nat → Option CFn := upd DA2 91 true (o91)
theorem DA2b_ok : Zp Tryd.prog GG DA2b := ZJ mixed DA2_ok fun args v ho => by
  unfold o91 at ho; split at ho <;> (try simp only [reduceCtorEq] at ho)
  rename_i n
  split at ho <;> (try simp only [reduceCtorEq] at ho)
  rename_i hg
  simp only [Option.some.injEq] at ho
  subst ho
  obtain ⟨s, rfl⟩ : ∃ s : Nat, n = s := ⟨n.toNat, by omega⟩
  exact a91 Tryd.prog DA2 rfl rfl rfl s (by omega)
theorem a68 (P : Program) (T : Nat → Option CFn) (hT : T 68 = some c68) (h91 : T 91 = some { c91 with frsh := true, orc := o91 }) (s : Nat) (hs : s < 1024) : Zo P T 68 [.fn 69 [.int .u64 (s : Nat)] []] [] fun v h => frz false h 5 v = some (Ys (Zn s)) := by
 have h1 := o91_eq hs
 have fx := fun H d => ZG (Yq (Zn s)) H d
 have rx := fun n d => ZY (Yq (Zn s)) n d
 refine Zi hT (Zk rfl) ?_
 simp only [oo, om, op, og, ci, cl, c68]
 refine zS ?_
 refine zR (zO (by simp [zC h91, h91, h1, fx, rx]; rfl) ?_)
 simp only [zT, zB]
 refine zS ?_
 refine zR (zO (by simp [zC h91, h91, h1, fx, rx]; rfl) ?_)
 simp only [zT, zB]
 refine Ze ?_
 simp [zC h91, h91, h1, fx, rx]
def DA3 : Nat → Option CFn := upd DA2b 68 false (o68)
theorem DA3_ok : Zp Tryd.prog GG DA3 := ZJ mixed DA2b_ok fun args v ho => by
  unfold o68 at ho; split at ho <;> (try simp only [reduceCtorEq] at ho)
  rename_i n
  split at ho <;> (try simp only [reduceCtorEq] at ho)
  rename_i hg
  simp only [Option.some.injEq] at ho
  subst ho
  obtain ⟨s, rfl⟩ : ∃ s : Nat, n = s := ⟨n.toNat, by omega⟩
  exact a68 Tryd.prog DA2b rfl rfl s (by omega)
def asg111 : CC := (.reg [⟨(some 6), (.mv (.t 9)), none, []⟩])
def bd111 : CC := (.block 1 (.seq (.drw [⟨(some 10), (.ld (.t 4)), none, []⟩, ⟨(some 11), (.fa 2 (.t 2)), none, [0]⟩, ⟨(some 12), (.ld (.t 11)), none, [0]⟩, ⟨(some 13), (.mv (.t 6)), none, [0, 1, 2]⟩, ⟨(some 14), (.ias 2 (.t 12) (.t 13)), none, [0]⟩, ⟨(some 15), (.fa 0 (.t 14)), none, [0]⟩, ⟨(some 16), (.ld (.t 15)), none, [0]⟩, ⟨(some 17), (.conv .u64 (.t 16)), none, [0]⟩, ⟨(some 18), (.ar .or (.t 10) (.t 17)), none, []⟩, ⟨none, (.st 1 (.t 4) (.t 18)), none, []⟩]) (.drw [⟨(some 19), (.ld (.t 5)), none, []⟩, ⟨(some 20), (.fa 2 (.t 2)), none, [0]⟩, ⟨(some 21), (.ld (.t 20)), none, [0]⟩, ⟨(some 22), (.mv (.t 6)), none, [0, 1, 2]⟩, ⟨(some 23), (.ias 2 (.t 21) (.t 22)), none, [0]⟩, ⟨(some 24), (.fa 0 (.t 23)), none, [0]⟩, ⟨(some 25), (.ld (.t 24)), none, [0]⟩, ⟨(some 26), (.fa 2 (.t 2)), none, [0, 1, 2, 3, 4, 5, 6]⟩, ⟨(some 27), (.ld (.t 26)), none, [0, 1, 2, 3, 4, 5, 6]⟩, ⟨(some 28), (.mv (.t 6)), none, [0, 1, 2, 3, 4, 5, 6, 7, 8]⟩, ⟨(some 29), (.ias 2 (.t 27) (.t 28)), none, [0, 1, 2, 3, 4, 5, 6]⟩, ⟨(some 30), (.fa 1 (.t 29)), none, [0, 1, 2, 3, 4, 5, 6]⟩, ⟨(some 31), (.ld (.t 30)), none, [0, 1, 2, 3, 4, 5, 6]⟩, ⟨(some 32), (.ar .or (.t 25) (.t 31)), none, [0]⟩, ⟨(some 33), (.conv .u64 (.t 32)), none, [0]⟩, ⟨(some 34), (.ar .or (.t 19) (.t 33)), none, []⟩, ⟨none, (.st 1 (.t 5) (.t 34)), none, []⟩])))
def rC (c : Nat × Nat) : List Za := [I (c.1 : Nat), I (c.2 : Nat)]
def r111 (se mi : Int) (c : Za) (s : Nat) : List Za := [.agg [.int .u64 se, .int .u64 mi, c], .int .u64 (s : Nat), .ref 0 0 0, .und, .ref 1 0 0, .ref 2 0 0, .und, .int .u64 (s : Nat), .fn 69 [.int .u64 (s : Nat)] [], .und, .und, .und, .und, .und, .und, .und, .und, .und, .und, .und, .und, .und, .und, .und, .und, .und, .und, .und, .und, .und, .und, .und, .und, .und, .und, .und, .und]
theorem y111 (P : Program) (T : Nat → Option CFn) (cs : List (Nat × Nat)) (c : Za) (hc : Zt c = some (cs.map rC)) (hr : ∀ x ∈ cs, x.1 < 4096 ∧ x.2 < 4096) (hn : cs.length ≤ 10) (se mi : Int) (s i m a : Nat) (hi : i < cs.length) (hm : m < 4096) (ha : a < 4096) :
    Ylds P T 3 [I (i : Nat)] [some (.row 3 [[.int .u64 se, .int .u64 mi, c]]), some (.row 1 [[.int .u64 (m : Nat)]]), some (.row 1 [[.int .u64 (a : Nat)]]), some (.loop (r111 se mi c s) [9] asg111 bd111 .ready none)] fun v h' => v = .bool true ∧ h' = [some (.row 3 [[.int .u64 se, .int .u64 mi, c]]), some (.row 1 [[.int .u64 (m ||| cs[i].1 : Nat)]]), some (.row 1 [[.int .u64 (a ||| (cs[i].1 ||| cs[i].2) : Nat)]]), some (.loop (r111 se mi c s) [9] asg111 bd111 .ready none)] := by
  have rx := fun n d => ZY hc n d
  obtain ⟨cx1, cx2⟩ := ZH hc
  obtain ⟨tt, rfl⟩ := XD hc (k := i) (by rw [List.length_map]; omega)
  have hmu := hr _ (List.getElem_mem hi)
  have hg : (cs.map rC)[i]? = some [I (cs[i].1 : Nat), I (cs[i].2 : Nat)] := by rw [List.getElem?_map, List.getElem?_eq_getElem hi]; rfl
  have hg2 : ∀ h, (cs.map rC)[i]'h = [I (cs[i].1 : Nat), I (cs[i].2 : Nat)] := fun h => by simp [rC]
  generalize cs[i].1 = mu at *
  generalize cs[i].2 = my at *
  have hil : i < cs.length := hi
  have hw1 : W .u64 (mu : Int) = mu := W_u (by omega)
  have hom : mu ||| my < 4096 := Nat.or_lt_two_pow (n := 12) hmu.1 hmu.2
  have hw2 : W .u64 ((mu ||| my : Nat) : Int) = (mu ||| my : Nat) := W_u (by omega)
  have hor1 := or_u (a := m) (b := mu) (by omega) (by omega)
  have hor2 := or_i (a := mu) (b := my) (by omega) (by omega)
  have hor3 := or_u (a := a) (b := mu ||| my) (by omega) (by omega)
  refine ylds_of rfl rfl ?_
  show Runs P T (some 3) asg111 ⟨(r111 se mi (.vl (cs.map rC) tt) s).set 9 (I (i : Nat)), [some (.row 3 [[.int .u64 se, .int .u64 mi, .vl (cs.map rC) tt]]), some (.row 1 [[.int .u64 (m : Nat)]]), some (.row 1 [[.int .u64 (a : Nat)]]), some (.loop (r111 se mi (.vl (cs.map rC) tt) s) [9] asg111 bd111 .ready none)]⟩ _
  unfold asg111 r111
  refine zR (zO (by simp; rfl) ?_)
  refine ⟨rfl, _, _, _, _, _, rfl, ?_⟩
  unfold bd111
  have HH1 := And.intro rx (And.intro cx1 (And.intro cx2 (And.intro hg (And.intro hg2 (And.intro hil (And.intro hw1 hw2))))))
  refine zL ?_
  refine zS ?_
  refine ZU (by simp (maxSteps := 3000000) [rbB_loop, ↓hor1, ↓hor2, ↓hor3, -List.getElem?_map, -List.getElem_map, HH1]; rfl) ?_
  simp only [zT, zB]
  refine ZU (by simp (maxSteps := 3000000) [rbB_loop, ↓hor1, ↓hor2, ↓hor3, -List.getElem?_map, -List.getElem_map, HH1]; rfl) ?_
  simp only [zT, zB]
  exact ⟨_, _, _, _, _, _, rfl, trivial, by simp [trim, rbB_loop, rx, r111]⟩
theorem a111 (P : Program) (T : Nat → Option CFn) (hT : T 111 = some c111) (h69 : T 69 = some c69) (h92 : T 92 = some { c92 with frsh := true, orc := o92 }) (cs : Cs) (c : Za) (hc : Zt c = some (cs.map rC)) (hk : CsOk cs) (se mi : Int) (s : Nat) (hsn : s < 2 ^ cs.length) (hs : s < 1024) :
  Zo P T 111 [.agg [.int .u64 se, .int .u64 mi, c], .int .u64 (s : Nat)] [] fun v h => frz true h 5 v = some (.tup [.int .u64 (YF cs (Zn s) : Nat), .int .u64 (YP cs (Zn s) : Nat)]) := by
 have hr := hk.2
 have hn := hk.1
 have rx := fun n d => ZY hc n d
 obtain ⟨cx1, cx2⟩ := ZH hc
 have hl2 : ∀ d H, frz false H (d + 1) c = some c := fun d H => ZG hc H d
 refine Zi hT (Zk rfl) ?_
 simp only [oo, om, op, og, ci, cl, c111]
 refine zS ?_
 refine zR (zO (by simp [cx1, cx2, rx, hl2]; rfl) ?_)
 simp only [zT, zB]
 refine zS ?_
 refine zS ?_
 refine zR (zO (by simp [cx1, cx2, rx, hl2]; rfl) ?_)
 simp only [zT, zB]
 refine zL ?_
 refine runs_rf (f := 69) (a := [.int .u64 (s : Nat)]) (b := []) (by simp [inLoop]) (by simp) ?_
 have hit := it69 P T h69 h92 s hs 3 4 (fun l g => ∃ m a : Nat, m < 4096 ∧ a < 4096 ∧ (∀ i ∈ l, i < cs.length) ∧ l.foldl (fun a i => a ||| cM cs i) m = YF cs (Zn s) ∧ l.foldl (fun a i => a ||| cA cs i) a = YP cs (Zn s) ∧ g = [some (.row 3 [[.int .u64 se, .int .u64 mi, c]]), some (.row 1 [[.int .u64 (m : Nat)]]), some (.row 1 [[.int .u64 (a : Nat)]]), some (.loop (r111 se mi c s) [9] asg111 bd111 .ready none)])
  (fun l g ⟨m, a, _, _, _, _, _, e⟩ => by rw [e]; exact Nat.le_refl 4)
  (fun l g n vs hn ⟨m, a, h1, h2, h3, h4, h5, e⟩ => ⟨m, a, h1, h2, h3, h4, h5, by rw [trim_same (by rw [e]; exact hn)]; exact e⟩)
  (fun i l g ⟨m, a, hm, ha, hlt, e1, e2, e⟩ hi10 => by
   rw [e]
   have hi := hlt i (by simp)
   have hg := getD_ok hk i
   have ge : cs.getD i (0, 0) = cs[i] := by simp [List.getD, hi]
   refine (y111 P T cs c hc hr hn se mi s i m a hi hm ha).mono ?_
   rintro v h' ⟨rfl, rfl⟩
   refine ⟨rfl, m ||| cs[i].1, a ||| (cs[i].1 ||| cs[i].2), Nat.or_lt_two_pow (n := 12) hm (by rw [← ge]; exact hg.1), Nat.or_lt_two_pow (n := 12) ha (Nat.or_lt_two_pow (n := 12) (by rw [← ge]; exact hg.1) (by rw [← ge]; exact hg.2)), fun j hj => hlt j (by simp [hj]), ?_, ?_, rfl⟩
   ·rw [← e1]; simp only [List.foldl_cons, cM, ge]
   ·rw [← e2]; simp only [List.foldl_cons, cA, ge]) _
  ⟨0, 0, by decide, by decide, fun i hi => bits_below hsn hi, rfl, rfl, rfl⟩
 refine (show Zo P T 69 ([.int .u64 (s : Nat)] ++ [.yld 3] ++ []) [some (.row 3 [[.int .u64 se, .int .u64 mi, c]]), some (.row 1 [[.int .u64 (0 : Nat)]]), some (.row 1 [[.int .u64 (0 : Nat)]]), some (.loop (r111 se mi c s) [9] asg111 bd111 .ready none)] _ from hit).mono ?_
 rintro _ h2 ⟨m, a, hm, ha, _, e1, e2, rfl⟩
 simp only [List.foldl_nil] at e1 e2
 refine ⟨_, _, _, _, _, _, rfl, by simp, ?_⟩
 simp only [List.set_cons_succ, List.set_cons_zero, List.length_cons, List.length_nil]
 try simp only [zT, zB]
 rw [← e1, ← e2]
 refine zS ?_
 refine ZU (by simp (maxSteps := 3000000) [cx1, cx2, rx, hl2]; rfl) ?_
 simp only [zT, zB]
 refine Ze ?_
 simp [cx1, cx2, rx, hl2, trim]
def dC : List Za → Option (Nat × Nat)
  | [.int .i64 a, .int .i64 b] => if 0 ≤ a ∧ a < 4096 ∧ 0 ≤ b ∧ b < 4096 then some (a.toNat, b.toNat) else none
  | _ => none
def Xx (v : Za) : Option Cs := match Zt v with
  | some rs => Zd dC rs
  | none => none
theorem dC_eq (r : List Za) (c : Nat × Nat) (h : dC r = some c) : r = rC c := by
  unfold dC at h; split at h <;> (try simp at h)
  obtain ⟨h1, rfl⟩ := h
  rename_i a b
  have e1 : ((a.toNat : Nat) : Int) = a := Int.toNat_of_nonneg (by omega)
  have e2 : ((b.toNat : Nat) : Int) = b := Int.toNat_of_nonneg (by omega)
  simp only [rC, e1, e2]
theorem dC_bd : ∀ {rs : List (List Za)} {cs : Cs}, Zd dC rs = some cs → ∀ x ∈ cs, x.1 < 4096 ∧ x.2 < 4096
  | [], cs, h, x, hx => by simp at h; subst h; simp at hx
  | r :: rs, cs, h, x, hx => by
    simp only [Zd] at h
    split at h <;> simp at h
    rename_i y ys h1 h2
    subst h
    rcases List.mem_cons.1 hx with rfl | hx
    · unfold dC at h1; split at h1 <;> (try simp at h1)
      obtain ⟨g, rfl⟩ := h1
      omega
    · exact dC_bd h2 x hx
theorem dCauses_ok {v : Za} {cs : Cs} (h : Xx v = some cs) : Zt v = some (cs.map rC) ∧ ∀ x ∈ cs, x.1 < 4096 ∧ x.2 < 4096 := by
  unfold Xx at h
  split at h
  · rename_i rs hrs
    exact ⟨by rw [hrs, Xl (enc := rC) dC_eq h], dC_bd h⟩
  · simp at h
theorem dCauses_of {v : Za} {cs : Cs} (h : Zt v = some (cs.map rC)) (hb : ∀ x ∈ cs, x.1 < 4096 ∧ x.2 < 4096) : Xx v = some cs := by
  unfold Xx; rw [h]; simp only
  clear h
  induction cs with
  | nil => rfl
  | cons x cs ih =>
    have hx := hb x (by simp)
    simp only [List.map_cons, Zd, ih fun y hy => hb y (by simp [hy])]
    have : dC (rC x) = some x := by simp only [dC, rC]; rw [if_pos (by omega)]; simp
    rw [this]
def o111 : List Za → Option Za
  | [.agg [.int .u64 _, .int .u64 _, c], .int .u64 n] => match Xx c with
    | some cs => if cs.length ≤ 10 ∧ 0 ≤ n ∧ n.toNat < 2 ^ cs.length then some (.tup [.int .u64 (YF cs (Zn n.toNat) : Nat), .int .u64 (YP cs (Zn n.toNat) : Nat)]) else none
    | none => none
  | _ => none
theorem o111_eq {se mi : Int} {c : Za} {cs : Cs} (hc : Xx c = some cs) {s : Nat} (h : cs.length ≤ 10 ∧ s < 2 ^ cs.length) : o111 [.agg [.int .u64 se, .int .u64 mi, c], .int .u64 (s : Nat)] = some (.tup [.int .u64 (YF cs (Zn s) : Nat), .int .u64 (YP cs (Zn s) : Nat)]) := by
  simp only [o111, hc]; rw [if_pos ⟨h.1, by omega, by simpa using h.2⟩]; rfl
def DA4 : Nat → Option CFn := upd DA3 111 true (o111)
theorem DA4_ok : Zp Tryd.prog GG DA4 := ZJ mixed DA3_ok fun args v ho => by
  unfold o111 at ho; split at ho <;> (try simp only [reduceCtorEq] at ho)
  rename_i se mi c n
  split at ho <;> (try simp only [reduceCtorEq] at ho)
  rename_i cs hcs
  split at ho <;> (try simp only [reduceCtorEq] at ho)
  rename_i hg
  simp only [Option.some.injEq] at ho
  subst ho
  obtain ⟨s, rfl⟩ : ∃ s : Nat, n = s := ⟨n.toNat, by omega⟩
  have h2 := two_le hg.1
  have h3 : s < 2 ^ cs.length := by simpa using hg.2.2
  exact a111 Tryd.prog DA3 rfl rfl rfl cs c (dCauses_ok hcs).1 ⟨hg.1, (dCauses_ok hcs).2⟩ se mi s h3 (by omega)
theorem a94 (P : Program) (T : Nat → Option CFn) (hT : T 94 = some c94) (h111 : T 111 = some { c111 with frsh := true, orc := o111 }) (cs : Cs) (c : Za) (hc : Xx c = some cs) (hk : CsOk cs) (se mi : Int) (s fs fm : Nat) (hsn : s < 2 ^ cs.length) (h1 : fs < 4096) (h2 : fm < 4096) : Zo P T 94 [.agg [.int .u64 se, .int .u64 mi, c], .int .u64 (s : Nat), .agg [.int .u64 (fs : Nat), .int .u64 (fm : Nat)]] [] fun v h => frz true h 5 v = some (.bool (explN cs (Zn s) fs fm)) := by
 have hx := (dCauses_ok hc).1
 have rx := fun n d => ZY hx n d
 have fx := fun H d => ZG hx H d
 obtain ⟨cx1, cx2⟩ := ZH hx
 have ho := o111_eq (se := se) (mi := mi) hc ⟨hk.1, hsn⟩
 have hm := mustL_lt hk (Zn s)
 have ha := allL_lt hk (Zn s)
 unfold explN
 generalize YF cs (Zn s) = M at *
 generalize YP cs (Zn s) = A at *
 have hno := not_u (a := fs) (b := A)
 have hz := ldN_zero (a := fs) (b := A) (by omega) (by omega)
 have hzi : (((ldN fs A : Nat) : Int) == 0) = subN fs A := by rw [← hz, Bool.eq_iff_iff]; simp only [beq_iff_eq]; omega
 have hand := and_u (a := fm) (b := M) (by omega) (by omega)
 have hzm : (((fm &&& M : Nat) : Int) == 0) = (fm &&& M == 0) := by rw [Bool.eq_iff_iff]; simp only [beq_iff_eq]; omega
 generalize subN fs A = b1 at *
 generalize (fm &&& M == 0) = b2 at *
 generalize ((ldN fs A : Nat) : Int) = L1 at *
 generalize ((fm &&& M : Nat) : Int) = L2 at *
 refine Zi hT (Zk rfl) ?_
 simp only [oo, om, op, og, ci, cl, c94]
 cases b1 <;> cases b2
 ·have HH1 := zA h111 (zA rx (zA fx (zA cx1 (zA cx2 (zA ho (zA hzi hzm))))))
  refine zS ?_
  refine zR (zO (by simp [zC h111, ↓hno, ↓hand, HH1]; rfl) ?_)
  simp only [zT, zB]
  refine zS ?_
  refine zR (zO (by simp [zC h111, ↓hno, ↓hand, HH1]; rfl) ?_)
  simp only [zT, zB]
  refine zS ?_
  refine zR (zO (by simp [zC h111, ↓hno, ↓hand, HH1]; rfl) ?_)
  simp only [zT, zB]
  refine Ze ?_
  simp [zC h111, ↓hno, ↓hand, HH1]
 ·have HH2 := zA h111 (zA rx (zA fx (zA cx1 (zA cx2 (zA ho (zA hzi hzm))))))
  refine zS ?_
  refine zR (zO (by simp [zC h111, ↓hno, ↓hand, HH2]; rfl) ?_)
  simp only [zT, zB]
  refine zS ?_
  refine zR (zO (by simp [zC h111, ↓hno, ↓hand, HH2]; rfl) ?_)
  simp only [zT, zB]
  refine zS ?_
  refine zR (zO (by simp [zC h111, ↓hno, ↓hand, HH2]; rfl) ?_)
  simp only [zT, zB]
  refine Ze ?_
  simp [zC h111, ↓hno, ↓hand, HH2]
 ·have HH3 := zA h111 (zA rx (zA fx (zA cx1 (zA cx2 (zA ho (zA hzi hzm))))))
  refine zS ?_
  refine zR (zO (by simp [zC h111, ↓hno, ↓hand, HH3]; rfl) ?_)
  simp only [zT, zB]
  refine zS ?_
  refine zR (zO (by simp [zC h111, ↓hno, ↓hand, HH3]; rfl) ?_)
  simp only [zT, zB]
  refine zS ?_
  refine zR (zO (by simp [zC h111, ↓hno, ↓hand, HH3]; rfl) ?_)
  simp only [zT, zB]
  refine Ze ?_
  simp [zC h111, ↓hno, ↓hand, HH3]
 ·have HH4 := zA h111 (zA rx (zA fx (zA cx1 (zA cx2 (zA ho (zA hzi hzm))))))
  refine zS ?_
  refine zR (zO (by simp [zC h111, ↓hno, ↓hand, HH4]; rfl) ?_)
  simp only [zT, zB]
  refine zS ?_
  refine zR (zO (by simp [zC h111, ↓hno, ↓hand, HH4]; rfl) ?_)
  simp only [zT, zB]
  refine zS ?_
  refine zR (zO (by simp [zC h111, ↓hno, ↓hand, HH4]; rfl) ?_)
  simp only [zT, zB]
  refine Ze ?_
  simp [zC h111, ↓hno, ↓hand, HH4]
def o94 : List Za → Option Za
  | [.agg [.int .u64 _, .int .u64 _, c], .int .u64 n, .agg [.int .u64 a, .int .u64 b]] => match Xx c with
    | some cs => if cs.length ≤ 10 ∧ 0 ≤ n ∧ n.toNat < 2 ^ cs.length ∧ (0 ≤ a ∧ a < 4096) ∧ (0 ≤ b ∧ b < 4096) then some (.bool (explN cs (Zn n.toNat) a.toNat b.toNat)) else none
    | none => none
  | _ => none
theorem o94_eq {se mi : Int} {c : Za} {cs : Cs} (hc : Xx c = some cs) {s a b : Nat} (h : cs.length ≤ 10 ∧ s < 2 ^ cs.length) (h1 : a < 4096) (h2 : b < 4096) : o94 [.agg [.int .u64 se, .int .u64 mi, c], .int .u64 (s : Nat), .agg [.int .u64 (a : Nat), .int .u64 (b : Nat)]] = some (.bool (explN cs (Zn s) a b)) := by
  simp only [o94, hc]; rw [if_pos ⟨h.1, by omega, by simpa using h.2, by omega, by omega⟩]; rfl
def DA : Nat → Option CFn := upd DA4 94 true (o94)
theorem DA_ok : Zp Tryd.prog GG DA := ZJ mixed DA4_ok fun args v ho => by
  unfold o94 at ho; split at ho <;> (try simp only [reduceCtorEq] at ho)
  rename_i se mi c n a b
  split at ho <;> (try simp only [reduceCtorEq] at ho)
  rename_i cs hcs
  split at ho <;> (try simp only [reduceCtorEq] at ho)
  rename_i hg
  simp only [Option.some.injEq] at ho
  subst ho
  obtain ⟨s, rfl⟩ : ∃ s : Nat, n = s := ⟨n.toNat, by omega⟩
  obtain ⟨x, rfl⟩ : ∃ s : Nat, a = s := ⟨a.toNat, by omega⟩
  obtain ⟨y, rfl⟩ : ∃ s : Nat, b = s := ⟨b.toNat, by omega⟩
  have h3 : s < 2 ^ cs.length := by simpa using hg.2.2.1
  exact a94 Tryd.prog DA4 rfl rfl cs c hcs ⟨hg.1, (dCauses_ok hcs).2⟩ se mi s x y h3 (by omega) (by omega)
end
end
end Go.Proofs.YtpebmjeomlgmdaaDoor.Tab
namespace Go.Abs
open Go
def posOf : List Nat → Nat → Nat → Option Nat
 | [], _, _ => none
 | j :: J, i, p => if j = i then some p else posOf J i (p + 1)
def ptrs : List Nat → List Za → List Nat
 | J, [] => J
 | J, .ref i _ _ :: l => if J.contains i then ptrs J l else ptrs (J ++ [i]) l
 | J, .sl i _ _ _ :: l => if J.contains i then ptrs J l else ptrs (J ++ [i]) l
 | J, _ :: l => ptrs J l
theorem posOf_some : ∀ {J : List Nat} {i p q : Nat}, posOf J i p = some q → p ≤ q ∧ J[q - p]? = some i
 | [], _, _, _, h => by simp [posOf] at h
 | j :: J, i, p, q, h => by
  simp only [posOf] at h
  split at h
  ·rename_i e
   simp at h; subst h; subst e
   exact ⟨Nat.le_refl _, by simp⟩
  ·obtain ⟨h1, h2⟩ := posOf_some h
   refine ⟨by omega, ?_⟩
   rw [show q - p = (q - (p + 1)) + 1 by omega, List.getElem?_cons_succ]
   exact h2
section
variable {P : Program} {G : Nat → Option (List Za)} {T : Nat → Option CFn} {E E' E2 : Env} {h h' h0 h1 : Zg} {w w' : World} {n : Nat} {J : List Nat}
end
end Go.Abs
namespace Go.Abs
open Go
section
variable (P : Program) (G : Nat → Option (List Za))
def SRuns (r : Option Nat) (c : CC) (σ : St) (Q : AEx → St → Prop) : Prop := ∃ e σ', Sound P G r c σ e σ' ∧ Q e σ'
def Ren (base : Nat) (σ σ' : St) : Prop := ∀ (E0 : Env) (h0 : Zg) (w0 : World) (d : List Deferred) (E : Env) (w : World) (a : Act), h0.length = base → E0.HR P G h0 w0 → Run P G E0 h0 w0 d E σ.h w σ.t a → ∃ E2, Run P G E0 h0 w0 d E2 σ'.h w σ'.t a
end
section
variable {P : Program} {G : Nat → Option (List Za)} {T : Nat → Option CFn} {r : Option Nat} {a b c : CC} {σ σ1 σ2 σ3 σ' : St} {Q Q' : AEx → St → Prop} {h : Zg} {e : AEx}
theorem Ren.refl (n : Nat) (σ : St) : Ren P G n σ σ := fun _ _ _ _ E _ _ _ _ hR => ⟨E, hR⟩
theorem Ren.trans {n : Nat} (h1 : Ren P G n σ1 σ2) (h2 : Ren P G n σ2 σ3) : Ren P G n σ1 σ3 := fun E0 h0 w0 d E w a hn hr hR => by
 obtain ⟨E1, hR1⟩ := h1 E0 h0 w0 d E w a hn hr hR
 exact h2 E0 h0 w0 d E1 w a hn hr hR1
theorem SRuns.mono (hr : SRuns P G r c σ Q) (hq : ∀ e σ, Q e σ → Q' e σ) : SRuns P G r c σ Q' := let ⟨e, σ', h1, h2⟩ := hr; ⟨e, σ', h1, hq _ _ h2⟩
theorem sruns_of (hm : P.follows .mixedOrders = true) (hT : Zp P G T) (hr : Runs P T r c σ Q) : SRuns P G r c σ Q :=
 let ⟨n, e, σ', h1, h2⟩ := hr; ⟨e, σ', (exec_sound hm hT n).1 r c σ e σ' h1, h2⟩
theorem sruns_skip (hq : Q .normal σ) : SRuns P G r .skip σ Q := ⟨.normal, σ, fun code E w a k hc hr ht hd => by
 have := co_skip hc; subst this; exact wpIn_skip (go_skip hr ht), hq⟩
theorem sruns_ret (hq : Q .ret σ) : SRuns P G r .ret σ Q := ⟨.ret, σ, fun code E w a k hc hr ht hd => by
 have := co_ret hc; subst this; exact wpIn_ret ⟨rfl, E, .refl hr ht⟩, hq⟩
theorem sruns_exit {id : Nat} (hq : Q (.exit id) σ) : SRuns P G r (.exit id) σ Q := ⟨.exit id, σ, fun code E w a k hc hr ht hd => by
 have := co_exit hc; subst this; exact wpIn_exit ⟨rfl, E, .refl hr ht⟩, hq⟩
end
end Go.Abs
namespace Go.Abs
open Go
def hideK (K : List Nat) (h : Zg) : Zg := K.foldl (fun h i => h.set i none) h
theorem hideK_get : ∀ {K : List Nat} {h : Zg} {i : Nat} {b : Blk}, (hideK K h)[i]? = some (some b) → i ∉ K ∧ h[i]? = some (some b)
 | [], h, i, b, hi => ⟨by simp, hi⟩
 | k :: K, h, i, b, hi => by
  obtain ⟨h1, h2⟩ := hideK_get (K := K) (h := h.set k none) hi
  by_cases e : k = i
  ·subst e
   rcases Nat.lt_or_ge k h.length with hl | hl
   ·rw [List.getElem?_set_self hl] at h2; simp at h2
   ·rw [List.getElem?_eq_none (by simp; omega)] at h2; simp at h2
  ·rw [List.getElem?_set_ne e] at h2
   exact ⟨fun hm => by rcases List.mem_cons.1 hm with rfl | hm <;> contradiction, h2⟩
theorem hideK_len : ∀ (K : List Nat) (h : Zg), (hideK K h).length = h.length
 | [], _ => rfl
 | k :: K, h => by show (hideK K (h.set k none)).length = _; rw [hideK_len K, List.length_set]
section
variable {P : Program} {G : Nat → Option (List Za)} {T : Nat → Option CFn} {E E' E1 E2 : Env} {h h' h0 h1 hs : Zg} {w w' : World} {n : Nat} {J K : List Nat}
theorem hideK_hr (hr : E.HR P G h w) (K : List Nat) : E.HR P G (hideK K h) w :=
 ⟨fun i b hi => hr.blk i b (hideK_get hi).2, fun i j b c hi hj he => hr.inj i j b c (hideK_get hi).2 (hideK_get hj).2 he, fun i hi => by rw [hideK_len]; exact hr.lt i hi, hr.own, hr.imm, hr.glob⟩
end
end Go.Abs
namespace Go.Abs
open Go
noncomputable section
def renV1 (K : List Nat) (H : Zg) (ih : Za → Option Za) (v : Za) : Option Za :=
 match v with
 | .agg xs => match Zd ih xs with
  | some ys => some (.agg ys)
  | none => none
 | .tup xs => match Zd ih xs with
  | some ys => some (.tup ys)
  | none => none
 | .ref i k o => match posOf K i 0 with
  | some p => some (.ref p k o)
  | none => frz false (hideK K H) 5 (.ref i k o)
 | .sl i k n t => match posOf K i 0 with
  | some p => some (.sl p k n t)
  | none => frz false (hideK K H) 5 (.sl i k n t)
 | .mp i => match posOf K i 0 with
  | some p => some (.mp p)
  | none => none
 | .yld i => match posOf K i 0 with
  | some p => some (.yld p)
  | none => none
 | .fn f a b => match Zd ih a, Zd ih b with
  | some a, some b => some (.fn f a b)
  | _, _ => none
 | v => some v
def Xp (K : List Nat) (H : Zg) : Nat → Za → Option Za
 | 0 => fun _ => none
 | d + 1 => renV1 K H (Xp K H d)
def renE (K : List Nat) (H : Zg) : Za × Za × Nat → Option (Za × Za × Nat)
 | (k, v, b) => match Xp K H 5 k, Xp K H 5 v with
  | some k, some v => some (k, v, b)
  | _, _ => none
def renB (K : List Nat) (H : Zg) (i : Nat) : Option (Option Blk) :=
 match nth H i with
 | some (some (.row e rs)) => match Zd (Zd (Xp K H 5)) rs with
  | some rs => some (some (.row e rs))
  | none => none
 | some (some (.map es c)) => match Zd (renE K H) es with
  | some es => some (some (.map es c))
  | none => none
 | some (some (.loop t ps asg bd st pd)) => match Zd (Xp K H 5) t with
  | some t => some (some (.loop t ps asg bd st pd))
  | none => none
 | _ => some none
section
variable {P : Program} {G : Nat → Option (List Za)} {E E2 : Env} {h h' : Zg} {w : World} {K : List Nat} {σ : St} {t t' : List Za}
theorem renV_ok (hr : E.HR P G h w) (hρ : ∀ p i, K[p]? = some i → E2.ρ p = E.ρ i) (hD : ∀ p i, K[p]? = some i → E.D i → E2.D p) (hI : ∀ b, E.I b → E2.I b) (hN : ∀ i b, i ∉ K → h[i]? = some (some b) → E2.I (E.ρ i).b) :
  ∀ (d : Nat) {v v' : Za} {u : Value}, E.VR w v u → Xp K h d v = some v' → E2.VR w v' u := by
 intro d
 have fz : ∀ {v v' : Za} {u : Value}, E.VR w v u → frz false (hideK K h) 5 v = some v' → E2.VR w v' u := fun hv hf =>
  VR.mono (frz_ok (hideK_hr hr K) (I' := E2.I) (ρ' := E2.ρ) (fun i b hi => hN i b (hideK_get hi).1 (hideK_get hi).2) (fun _ b hb => hI b hb) 5 hv hf) _ (fun i hi => hi.elim) fun b hb => ⟨hb, rfl⟩
 have at' : ∀ {i p}, posOf K i 0 = some p → K[p]? = some i := fun hp => by have := (posOf_some hp).2; simpa using this
 induction d with
 | zero => intro v v' u _ hf; simp [Xp] at hf
 | succ d ih =>
  intro v v' u hv hf
  replace hf : renV1 K h (Xp K h d) v = some v' := hf
  cases hv with
  | any => simp [renV1] at hf; subst hf; exact .any _ _
  | und => simp [renV1] at hf; subst hf; exact .und _
  | bool => simp [renV1] at hf; subst hf; exact .bool _ _
  | int => simp [renV1] at hf; subst hf; exact .int _ _ _
  | nilp => simp [renV1] at hf; subst hf; exact .nilp _
  | nils => simp [renV1] at hf; subst hf; exact .nils _
  | nilm => simp [renV1] at hf; subst hf; exact .nilm _
  | nilf => simp [renV1] at hf; subst hf; exact .nilf _
  | mp _ i hi =>
   simp only [renV1] at hf
   split at hf <;> simp at hf
   rename_i p hp
   subst hf
   rw [← hρ p i (at' hp)]
   exact .mp _ p (hD p i (at' hp) hi)
  | yld _ i hi =>
   simp only [renV1] at hf
   split at hf <;> simp at hf
   rename_i p hp
   subst hf
   rw [← hρ p i (at' hp)]
   exact .yld _ p (hD p i (at' hp) hi)
  | ref _ i k o hi =>
   simp only [renV1] at hf
   split at hf
   ·rename_i p hp
    simp at hf; subst hf
    rw [← hρ p i (at' hp)]
    exact .ref _ p k o (hD p i (at' hp) hi)
   ·exact fz (.ref _ i k o hi) hf
  | sl _ i k m t a cap hi hm ht ha hs =>
   simp only [renV1] at hf
   split at hf
   ·rename_i p hp
    simp at hf; subst hf
    rw [← hρ p i (at' hp)] at ha hs
    exact .sl _ p k m t a cap (hD p i (at' hp) hi) hm ht ha hs
   ·exact fz (.sl _ i k m t a cap hi hm ht ha hs) hf
  | pv _ r o b off cv hb hc hx =>
   simp [renV1] at hf; subst hf
   exact .pv _ r o b off cv (hI b hb) hc fun j hj => VR.mono (hx j hj) _ (fun i hi => hi.elim) fun b hb => ⟨hI b hb, rfl⟩
  | vl _ rs t a cap b off e cv hm ht ha hb he hc hx =>
   simp [renV1] at hf; subst hf
   exact .vl _ rs t a cap b off e cv hm ht ha (fun h => hI b (hb h)) he hc fun k hk j hj => VR.mono (hx k hk j hj) _ (fun i hi => hi.elim) fun b hb => ⟨hI b hb, rfl⟩
  | agg _ xs cs hl hx =>
   simp only [renV1] at hf
   split at hf <;> simp at hf
   rename_i ys hy
   subst hf
   obtain ⟨g1, g2⟩ := ZP hy
   exact .agg _ _ cs (by omega) fun j h1 h2 => ih (hx j (by omega) h2) (g2 j (by omega) h1)
  | tup _ xs cs hl hx =>
   simp only [renV1] at hf
   split at hf <;> simp at hf
   rename_i ys hy
   subst hf
   obtain ⟨g1, g2⟩ := ZP hy
   exact .tup _ _ cs (by omega) fun j h1 h2 => ih (hx j (by omega) h2) (g2 j (by omega) h1)
  | fn _ f a b ca cb hla hlb ha hb =>
   simp only [renV1] at hf
   split at hf <;> simp at hf
   rename_i a' b' h1 h2
   subst hf
   obtain ⟨g1, g2⟩ := ZP h1
   obtain ⟨g3, g4⟩ := ZP h2
   exact .fn _ f _ _ ca cb (by omega) (by omega) (fun j j1 j2 => ih (ha j (by omega) j2) (g2 j (by omega) j1)) (fun j j1 j2 => ih (hb j (by omega) j2) (g4 j (by omega) j1))
theorem renL_ok {d : Nat} (hv : ∀ {v v' : Za} {u : Value}, E.VR w v u → Xp K h d v = some v' → E2.VR w v' u) {cs : Array Value} (hl : E.LR w t cs) (hf : Zd (Xp K h d) t = some t') : E2.LR w t' cs := by
 obtain ⟨g1, g2⟩ := ZP hf
 exact ⟨by rw [← g1]; exact hl.1, fun j h1 h2 => hv (hl.2 j (by omega) h2) (g2 j (by omega) h1)⟩
theorem keep_nx {base : Nat} {h : Zg} {E0 : Env} {h0 : Zg} {w0 : World} (K : List Nat) (hK : K.Nodup) (hb : base ≤ K.length) (hpre : K.take base = List.range base) (hh : Zd (renB K h) K = some h') (hn : h0.length = base) (hr0 : E0.HR P G h0 w0) (hx : Nx P G E0 h0 w0 E h w) :
  ∃ E2, Nx P G E0 h0 w0 E2 h' w ∧ (∀ (d : Nat) {v v' : Za} {u : Value}, E.VR w v u → Xp K h d v = some v' → E2.VR w v' u) ∧ (∀ b, E2.O b → E.O b) ∧ (∀ b, E2.I b → E.I b ∨ E.O b) := by
 have hr := hx.hr
 obtain ⟨k1, k2⟩ := ZP hh
 have hpre' : ∀ p, p < base → K[p]? = some p := fun p hp => by
  have : (K.take base)[p]? = some p := by rw [hpre]; exact List.getElem?_range hp
  rwa [List.getElem?_take_of_lt hp] at this
 let E2 : Env := ⟨fun p => E.ρ (K.getD p 0), fun p => ∃ i, K[p]? = some i ∧ E.D i, fun b => E.O b ∧ ¬ ∃ i c, i ∉ K ∧ h[i]? = some (some c) ∧ (E.ρ i).b = b, fun b => E.I b ∨ ∃ i c, i ∉ K ∧ h[i]? = some (some c) ∧ (E.ρ i).b = b⟩
 have hρ : ∀ p i, K[p]? = some i → E2.ρ p = E.ρ i := fun p i hp => by show E.ρ (K.getD p 0) = _; rw [List.getD_eq_getElem?_getD, hp]; rfl
 have hvr : ∀ (d : Nat) {v v' : Za} {u : Value}, E.VR w v u → Xp K h d v = some v' → E2.VR w v' u := fun d _ _ _ => renV_ok hr hρ (fun p i hp hi => ⟨i, hp, hi⟩) (fun b hb => .inl hb) (fun i b hi hb => .inr ⟨i, b, hi, hb, rfl⟩) d
 have hO : ∀ b, E2.O b → E.O b := fun b hb => hb.1
 have hI : ∀ b, E2.I b → E.I b ∨ E.O b := fun b hb => hb.imp id fun ⟨i, c, _, h2, h3⟩ => h3 ▸ (hr.blk i c h2).2.1
 have hle0 := hx.le
 have hlt0 : ∀ i, E0.D i → i < base := fun i hi => hn ▸ hr0.lt i hi
 have get : ∀ p b, h'[p]? = some (some b) → ∃ i, K[p]? = some i ∧ renB K h i = some (some b) := fun p b hp => by
  obtain ⟨hp1, hp2⟩ := List.getElem?_eq_some_iff.1 hp
  refine ⟨K[p]'(by omega), List.getElem?_eq_getElem _, ?_⟩
  rw [← hp2]; exact k2 p (by omega) hp1
 have old : ∀ i b, renB K h i = some (some b) → ∃ c, h[i]? = some (some c) := fun i b hb => by
  unfold renB at hb
  rw [Zl] at hb
  split at hb
  ·rename_i hx; exact ⟨_, hx⟩
  ·rename_i hx; exact ⟨_, hx⟩
  ·rename_i hx; exact ⟨_, hx⟩
  ·simp at hb
 refine ⟨E2, ⟨⟨hle0.os, hle0.tape, hle0.output, hle0.size, fun i hi => ?_, fun b hb => .inl (hle0.I b hb), fun b hb ho => ?_⟩, ⟨fun p b hp => ?_, fun p q b c hp hq he => ?_, fun p hp => ?_, fun b hb => hr.own b hb.1, fun b hb => ?_, fun g r hg => ?_⟩, fun j hj => ?_, ?_⟩, hvr, hO, hI⟩
 ·obtain ⟨g1, g2⟩ := hle0.D i hi
  have hp := hpre' i (hlt0 i hi)
  exact ⟨⟨i, hp, g1⟩, (hρ i i hp).trans g2⟩
 ·obtain ⟨g1, g2, g3⟩ := hle0.old b hb ho
  exact ⟨g1, fun h => g2 h.1, fun h => (hI b h).elim g3 fun h => absurd h g2⟩
 ·obtain ⟨i, hi, hrb⟩ := get p b hp
  obtain ⟨c, hc⟩ := old i b hrb
  obtain ⟨b1, b2, b3, b4⟩ := hr.blk i c hc
  have e := hρ p i hi
  have hiK : i ∈ K := List.mem_of_getElem? hi
  refine ⟨⟨i, hi, b1⟩, ⟨by rw [e]; exact b2, fun ⟨j, c2, hj1, hj2, hj3⟩ => ?_⟩, by rw [e]; exact b3, ?_⟩
  ·rw [e] at hj3
   exact hj1 (hr.inj j i c2 c hj2 hc hj3 ▸ hiK)
  ·unfold renB at hrb
   rw [Zl, hc] at hrb
   cases c with
   | row e1 rs =>
    simp only at hrb
    split at hrb <;> simp at hrb
    rename_i rs2 hrs
    subst hrb
    obtain ⟨q1, q2⟩ := ZP hrs
    obtain ⟨c1, c2, c3, cc, el, c4, c5, c6⟩ := b4
    refine ⟨by rw [e]; exact c1, fun r hr => ?_, by rw [e, ← q1]; exact c3, cc, el, by rw [e]; exact c4, by rw [e]; exact c5, fun k r hk j x hj => ?_⟩
    ·obtain ⟨q, hq, rfl⟩ := List.mem_iff_getElem.1 hr
     rw [← (ZP (q2 q (by omega) hq)).1]
     exact c2 _ (List.getElem_mem _)
    ·obtain ⟨hk1, rfl⟩ := List.getElem?_eq_some_iff.1 hk
     obtain ⟨hj1, rfl⟩ := List.getElem?_eq_some_iff.1 hj
     obtain ⟨m1, m2⟩ := ZP (q2 k (by omega) hk1)
     obtain ⟨v, n1, n2⟩ := c6 k _ (List.getElem?_eq_getElem (by omega)) j _ (List.getElem?_eq_getElem (by omega))
     exact ⟨v, by rw [e]; exact n1, hvr 5 n2 (m2 j (by omega) hj1)⟩
   | map es cl =>
    simp only at hrb
    split at hrb <;> simp at hrb
    rename_i es2 hes
    subst hrb
    obtain ⟨q1, q2⟩ := ZP hes
    obtain ⟨ces, c1, c2, c3⟩ := b4
    refine ⟨ces, by rw [e]; exact c1, by rw [← q1]; exact c2, fun j k v bb hj => ?_⟩
    obtain ⟨hj1, hj2⟩ := List.getElem?_eq_some_iff.1 hj
    have := q2 j (by omega) hj1
    rw [hj2] at this
    generalize hent : es[j]'(by omega) = ent at this
    obtain ⟨k0, v0, b0⟩ := ent
    simp only [renE] at this
    split at this <;> simp at this
    rename_i k3 v3 hk3 hv3
    obtain ⟨rfl, rfl, rfl⟩ := this
    obtain ⟨ce, n1, n2, n3, n4⟩ := c3 j k0 v0 b0 (by rw [List.getElem?_eq_getElem (by omega), hent])
    exact ⟨ce, n1, hvr 5 n2 hk3, hvr 5 n3 hv3, n4⟩
   | loop tt ps asg bd st pd =>
    simp only at hrb
    split at hrb <;> simp at hrb
    rename_i t2 ht2
    subst hrb
    obtain ⟨L, c1, c2, c3⟩ := b4
    exact ⟨L, by rw [e]; exact c1, renL_ok (hvr 5) c2 ht2, c3⟩
 ·obtain ⟨i, hi, hrb⟩ := get p b hp
  obtain ⟨j, hj, hrc⟩ := get q c hq
  obtain ⟨b', hb'⟩ := old i b hrb
  obtain ⟨c', hc'⟩ := old j c hrc
  rw [hρ p i hi, hρ q j hj] at he
  have := hr.inj i j b' c' hb' hc' he
  subst this
  obtain ⟨g1, g2⟩ := List.getElem?_eq_some_iff.1 hi
  obtain ⟨g3, g4⟩ := List.getElem?_eq_some_iff.1 hj
  exact (List.getElem_inj hK).1 (g2.trans g4.symm)
 ·obtain ⟨i, hi, _⟩ := hp
  have := (List.getElem?_eq_some_iff.1 hi).1
  omega
 ·refine ⟨(hI b hb).elim (fun h => (hr.imm b h).1) (fun h => hr.own b h), fun ho => ?_⟩
  exact hb.elim (fun h => (hr.imm b h).2 ho.1) fun h => ho.2 h
 ·have := hr.glob g r hg
  generalize hp : Value.pointer (some ⟨g, 0, none⟩) = pv at this ⊢
  cases this with
  | pv _ _ _ b off cv hb hc h => exact .pv _ _ _ b off cv (.inl hb) hc fun j hj => VR.mono (h j hj) _ (fun i hi => hi.elim) fun b hb => ⟨.inl hb, rfl⟩
 ·obtain ⟨i, hi, hd⟩ := hj
  rcases Nat.lt_or_ge j base with hl | hl
  ·rw [hpre' j hl] at hi
   simp at hi; subst hi
   exact hx.fr j hd
  ·exact .inr (by rw [hn]; exact hl)
 ·omega
theorem ren_keep {base : Nat} {h : Zg} (K : List Nat) (hK : K.Nodup) (hb : base ≤ K.length) (hpre : K.take base = List.range base) (ht : Zd (Xp K h 5) t = some t') (hh : Zd (renB K h) K = some h') : Ren P G base ⟨t, h⟩ ⟨t', h'⟩ := by
 intro E0 h0 w0 d E w a hn hr0 hR
 obtain ⟨E2, hx, hvr, hO, hI⟩ := keep_nx K hK hb hpre hh hn hr0 hR.nx
 refine ⟨E2, hx, renL_ok (hvr 5) hR.lr ht, ?_⟩
 obtain ⟨bs, g1, g2, g3⟩ := hR.mks
 exact ⟨bs, g1, g2, fun b hb => by
  obtain ⟨a1, a2, a3, a4, a5⟩ := g3 b hb
  exact ⟨a1, a2, a3, fun h => a4 (hO b h), fun h => (hI b h).elim a5 a4⟩⟩
theorem ren_kill {base : Nat} (keep : Nat) : Ren P G base ⟨t, h⟩ ⟨Xn t keep, h⟩ := fun _ _ _ _ E _ _ _ _ hR => ⟨E, hR.nx, kill_lr t keep _ hR.lr, hR.mks⟩
theorem ren_kk {base : Nat} (keep : Nat) (K : List Nat) (hK : K.Nodup) (hb : base ≤ K.length) (hpre : K.take base = List.range base) (ht : Zd (Xp K h 5) (Xn t keep) = some t') (hh : Zd (renB K h) K = some h') : Ren P G base ⟨t, h⟩ ⟨t', h'⟩ :=
 (ren_kill keep).trans (ren_keep K hK hb hpre ht hh)
theorem renV_flat (K : List Nat) (H : Zg) : ∀ (d : Nat) (v : Za), rb 0 d v = true → Xp K H d v = some v := by
 intro d
 induction d with
 | zero => intro v h; simp [rb] at h
 | succ d ih =>
  intro v h
  replace h : rb1 0 (rb 0 d) v = true := h
  show renV1 K H (Xp K H d) v = some v
  cases v <;> simp only [rb1, renV1, Bool.and_eq_true] at h ⊢ <;> (try rfl)
  case agg xs => rw [Zx xs fun x hx => ih x (List.all_eq_true.1 h x hx)]
  case tup xs => rw [Zx xs fun x hx => ih x (List.all_eq_true.1 h x hx)]
  case ref i k o => simp at h
  case sl i k n t => simp at h
  case mp i => simp at h
  case yld i => simp at h
  case fn f a b =>
   rw [Zx a fun x hx => ih x (List.all_eq_true.1 h.1 x hx), Zx b fun x hx => ih x (List.all_eq_true.1 h.2 x hx)]
theorem renV_any (K : List Nat) (H : Zg) (d : Nat) : Xp K H (d + 1) .any = some .any := rfl
theorem renV_und (K : List Nat) (H : Zg) (d : Nat) : Xp K H (d + 1) .und = some .und := rfl
theorem renV_int (K : List Nat) (H : Zg) (d : Nat) (k : IntKind) (n : Int) : Xp K H (d + 1) (.int k n) = some (.int k n) := rfl
theorem renV_bool (K : List Nat) (H : Zg) (d : Nat) (b : Bool) : Xp K H (d + 1) (.bool b) = some (.bool b) := rfl
theorem renV_nils (K : List Nat) (H : Zg) (d : Nat) : Xp K H (d + 1) .nils = some .nils := rfl
theorem renV_nilp (K : List Nat) (H : Zg) (d : Nat) : Xp K H (d + 1) .nilp = some .nilp := rfl
theorem renV_nilf (K : List Nat) (H : Zg) (d : Nat) : Xp K H (d + 1) .nilf = some .nilf := rfl
theorem renV_vl (K : List Nat) (H : Zg) (d : Nat) (rs : List (List Za)) (t : Bool) : Xp K H (d + 1) (.vl rs t) = some (.vl rs t) := rfl
theorem renV_pv (K : List Nat) (H : Zg) (d : Nat) (r : List Za) (o : Nat) : Xp K H (d + 1) (.pv r o) = some (.pv r o) := rfl
theorem renV_ref (K : List Nat) (H : Zg) (d i k o : Nat) : Xp K H (d + 1) (.ref i k o) = match posOf K i 0 with
  | some p => some (.ref p k o)
  | none => frz false (hideK K H) 5 (.ref i k o) := rfl
theorem renV_sl (K : List Nat) (H : Zg) (d i k n : Nat) (t : Bool) : Xp K H (d + 1) (.sl i k n t) = match posOf K i 0 with
  | some p => some (.sl p k n t)
  | none => frz false (hideK K H) 5 (.sl i k n t) := rfl
theorem renV_mp (K : List Nat) (H : Zg) (d i : Nat) : Xp K H (d + 1) (.mp i) = match posOf K i 0 with
  | some p => some (.mp p)
  | none => none := rfl
theorem renV_yld (K : List Nat) (H : Zg) (d i : Nat) : Xp K H (d + 1) (.yld i) = match posOf K i 0 with
  | some p => some (.yld p)
  | none => none := rfl
theorem renV_agg (K : List Nat) (H : Zg) (d : Nat) (xs : List Za) : Xp K H (d + 1) (.agg xs) = match Zd (Xp K H d) xs with
  | some ys => some (.agg ys)
  | none => none := rfl
theorem renV_tup (K : List Nat) (H : Zg) (d : Nat) (xs : List Za) : Xp K H (d + 1) (.tup xs) = match Zd (Xp K H d) xs with
  | some ys => some (.tup ys)
  | none => none := rfl
theorem renV_fn (K : List Nat) (H : Zg) (d f : Nat) (a b : List Za) : Xp K H (d + 1) (.fn f a b) = match Zd (Xp K H d) a, Zd (Xp K H d) b with
  | some a, some b => some (.fn f a b)
  | _, _ => none := rfl
theorem zr : (∀ (K : List Nat) (H : Zg) (d : Nat), Xp K H (d + 1) .any = some .any) ∧ (∀ (K : List Nat) (H : Zg) (d : Nat), Xp K H (d + 1) .und = some .und) ∧ (∀ (K : List Nat) (H : Zg) (d : Nat) (k : IntKind) (n : Int), Xp K H (d + 1) (.int k n) = some (.int k n)) ∧ (∀ (K : List Nat) (H : Zg) (d : Nat) (b : Bool), Xp K H (d + 1) (.bool b) = some (.bool b)) ∧ (∀ (K : List Nat) (H : Zg) (d : Nat), Xp K H (d + 1) .nils = some .nils) ∧ (∀ (K : List Nat) (H : Zg) (d : Nat), Xp K H (d + 1) .nilp = some .nilp) ∧ (∀ (K : List Nat) (H : Zg) (d : Nat), Xp K H (d + 1) .nilf = some .nilf) ∧ (∀ (K : List Nat) (H : Zg) (d : Nat) (rs : List (List Za)) (t : Bool), Xp K H (d + 1) (.vl rs t) = some (.vl rs t)) ∧ (∀ (K : List Nat) (H : Zg) (d : Nat) (r : List Za) (o : Nat), Xp K H (d + 1) (.pv r o) = some (.pv r o)) ∧ (∀ (K : List Nat) (H : Zg) (d i k o : Nat), Xp K H (d + 1) (.ref i k o) = match posOf K i 0 with
    | some p => some (.ref p k o)
    | none => frz false (hideK K H) 5 (.ref i k o)) ∧ (∀ (K : List Nat) (H : Zg) (d i k n : Nat) (t : Bool), Xp K H (d + 1) (.sl i k n t) = match posOf K i 0 with
    | some p => some (.sl p k n t)
    | none => frz false (hideK K H) 5 (.sl i k n t)) ∧ (∀ (K : List Nat) (H : Zg) (d i : Nat), Xp K H (d + 1) (.mp i) = match posOf K i 0 with
    | some p => some (.mp p)
    | none => none) ∧ (∀ (K : List Nat) (H : Zg) (d i : Nat), Xp K H (d + 1) (.yld i) = match posOf K i 0 with
    | some p => some (.yld p)
    | none => none) ∧ (∀ (K : List Nat) (H : Zg) (d : Nat) (xs : List Za), Xp K H (d + 1) (.agg xs) = match Zd (Xp K H d) xs with
    | some ys => some (.agg ys)
    | none => none) ∧ (∀ (K : List Nat) (H : Zg) (d : Nat) (xs : List Za), Xp K H (d + 1) (.tup xs) = match Zd (Xp K H d) xs with
    | some ys => some (.tup ys)
    | none => none) ∧ (∀ (K : List Nat) (H : Zg) (d f : Nat) (a b : List Za), Xp K H (d + 1) (.fn f a b) = match Zd (Xp K H d) a, Zd (Xp K H d) b with
    | some a, some b => some (.fn f a b)
    | _, _ => none) := ⟨renV_any, renV_und, renV_int, renV_bool, renV_nils, renV_nilp, renV_nilf, renV_vl, renV_pv, renV_ref, renV_sl, renV_mp, renV_yld, renV_agg, renV_tup, renV_fn⟩
end
end
end Go.Abs
namespace Go.Abs
open Go
section
variable (P : Program) (G : Nat → Option (List Za))
def CPost (E0 : Env) (h0 : Zg) (w0 : World) (d : List Deferred) (Q : AEx → St → Prop) : Exit → Act → World → Prop := fun x a' w' => ∃ e σ', x = exOf e ∧ Q e σ' ∧ ∃ E', Run P G E0 h0 w0 d E' σ'.h w' σ'.t a'
def CRuns (base : Nat) (r : Option Nat) (c : CC) (σ : St) (Q : AEx → St → Prop) : Prop := ∀ (code : Code) (E0 : Env) (h0 : Zg) (w0 : World) (d : List Deferred) (E : Env) (w : World) (a : Act) (k : Nat),
 ZR P G code = some (XJ c) → h0.length = base → E0.HR P G h0 w0 → Run P G E0 h0 w0 d E σ.h w σ.t a → (∀ i, r = some i → E0.D i) → code.wpIn (FW (r.map fun i => (E0.ρ i).b)) k P (CPost P G E0 h0 w0 d Q) a w
def CAns (f : Nat) (args : List Za) (h : Zg) (Q : Za → Zg → Prop) : Prop :=
 ∀ (E : Env) (w : World) (cargs : Array Value) (k : Nat), E.HR P G h w → E.LR w args cargs → CallsIn (FW none) k P f cargs w fun e w' => ∃ v h', Q v h' ∧ RetPost P G E w h.length v h' e w'
end
section
variable {P : Program} {G : Nat → Option (List Za)} {T : Nat → Option CFn} {r : Option Nat} {base : Nat} {a b c : CC} {σ σ1 σ' : St} {Q Q' : AEx → St → Prop} {h : Zg}
theorem CRuns.mono (hr : CRuns P G base r c σ Q) (hq : ∀ e σ, Q e σ → Q' e σ) : CRuns P G base r c σ Q' := fun code E0 h0 w0 d E w act k hc hb h0r hR hd =>
 wpIn_mono (hr code E0 h0 w0 d E w act k hc hb h0r hR hd) fun _ _ _ ⟨e, σ', h1, h2, h3⟩ => ⟨e, σ', h1, hq _ _ h2, h3⟩
theorem cruns_sruns (h : SRuns P G r c σ Q) : CRuns P G base r c σ Q := by
 obtain ⟨e, σ', hs, hq⟩ := h
 intro code E0 h0 w0 d E w act k hc hb h0r hR hd
 have := hs code E w act k hc hR.nx.hr hR.lr fun i hi => (hR.nx.le.D i (hd i hi)).1
 rw [fw_eq hR.nx.le hd] at this
 exact wpIn_mono this fun x a2 w2 hp => by
  obtain ⟨hx, E', hR'⟩ := post_trans hR hp
  exact ⟨e, σ', hx, hq, E', hR'⟩
theorem YG (hm : P.follows .mixedOrders = true) (hT : Zp P G T) (h : Runs P T r c σ Q) : CRuns P G base r c σ Q := cruns_sruns (sruns_of hm hT h)
theorem Yd (h : CRuns P G base r a σ (zT Q fun σ' => CRuns P G base r b σ' Q)) : CRuns P G base r (.seq a b) σ Q := by
 intro code E0 h0 w0 d E w act k hc hb h0r hR hd
 obtain ⟨p, q, rfl, hp, hq⟩ := co_seq hc
 refine wpIn_seq (wpIn_mono (h p E0 h0 w0 d E w act k hp hb h0r hR hd) ?_)
 rintro xx a' w' ⟨e, σ1, rfl, h1, E', hR'⟩
 cases e with
 | normal => exact h1 q E0 h0 w0 d E' w' a' k hq hb h0r hR' hd
 | exit id => exact ⟨_, σ1, rfl, h1, E', hR'⟩
 | ret => exact ⟨_, σ1, rfl, h1, E', hR'⟩
theorem cruns_skip (hq : Q .normal σ) : CRuns P G base r .skip σ Q := cruns_sruns (sruns_skip hq)
theorem cruns_ret (hq : Q .ret σ) : CRuns P G base r .ret σ Q := cruns_sruns (sruns_ret hq)
theorem cruns_exit {id : Nat} (hq : Q (.exit id) σ) : CRuns P G base r (.exit id) σ Q := cruns_sruns (sruns_exit hq)
theorem cruns_cond {cv : CV} {x : Bool} (hv : cv.ev σ.t = some (.bool x)) (h : CRuns P G base r (if x then a else b) σ Q) : CRuns P G base r (.cond cv a b) σ Q := by
 intro code E0 h0 w0 d E w act k hc hb h0r hR hd
 obtain ⟨o, p, q, rfl, ho, hp, hq⟩ := co_cond hc
 cases x with
 | true => exact wpIn_cond_true (ZF hR.nx.hr hR.lr ho hv).bool_inv (h p E0 h0 w0 d E w act k hp hb h0r hR hd)
 | false => exact wpIn_cond_false (ZF hR.nx.hr hR.lr ho hv).bool_inv (h q E0 h0 w0 d E w act k hq hb h0r hR hd)
theorem cruns_cond_split {cv : CV} {x : Bool} (hc : cv.ev σ.t = some (.bool x)) (ht : x = true → CRuns P G base r a σ Q) (hf : x = false → CRuns P G base r b σ Q) : CRuns P G base r (.cond cv a b) σ Q :=
 cruns_cond hc (by cases x <;> simp_all)
theorem cruns_block {id : Nat} (h : CRuns P G base r a σ (zB id Q)) : CRuns P G base r (.block id a) σ Q := by
 intro code E0 h0 w0 d E w act k hc hb h0r hR hd
 obtain ⟨p, rfl, hp⟩ := co_block hc
 refine wpIn_block (wpIn_mono (h p E0 h0 w0 d E w act k hp hb h0r hR hd) ?_)
 rintro xx a' w' ⟨e, σ1, rfl, h1, E', hR'⟩
 cases e with
 | normal => exact ⟨.normal, σ1, rfl, h1, E', hR'⟩
 | ret => exact ⟨.ret, σ1, rfl, h1, E', hR'⟩
 | exit j =>
  simp only [zB] at h1
  simp only [exOf, Exit.inBlock]
  by_cases e : j = id
  ·rw [if_pos e] at h1 ⊢; exact ⟨.normal, σ1, rfl, h1, E', hR'⟩
  ·rw [if_neg e] at h1 ⊢; exact ⟨.exit j, σ1, rfl, h1, E', hR'⟩
theorem rounds_le {F : Fence} {k : Nat} {p : Code} {R : Exit → Act → World → Prop} : ∀ {n m : Nat}, n ≤ m → ∀ {a : Act} {w : World}, Code.roundsIn F k P p R n a w → Code.roundsIn F k P p R m a w
 | 0, _, _, _, _, h => h.elim
 | n + 1, 0, hnm, _, _, _ => absurd hnm (by omega)
 | n + 1, m + 1, hnm, a, w, h => wpIn_mono h fun e a w q => by
  cases e with
  | normal => exact rounds_le (by omega) q
  | _ => exact q
theorem cruns_rounds (I : Nat → St → Prop) (step : ∀ k σ1, I k σ1 → CRuns P G base r c σ1 (zT Q fun σ2 => ∃ k' σ3, k' < k ∧ Ren P G base σ2 σ3 ∧ I k' σ3)) :
  ∀ k σ, I k σ → ∀ (p : Code) (E0 : Env) (h0 : Zg) (w0 : World) (d : List Deferred) (E : Env) (w : World) (a : Act) (kk : Nat), ZR P G p = some (XJ c) → h0.length = base → E0.HR P G h0 w0 → Run P G E0 h0 w0 d E σ.h w σ.t a → (∀ i, r = some i → E0.D i) →
   Code.roundsIn (FW (r.map fun i => (E0.ρ i).b)) kk P p (CPost P G E0 h0 w0 d Q) (k + 1) a w := by
 intro k
 induction k using Nat.strongRecOn with
 | _ k ih =>
  intro σ hI p E0 h0 w0 d E w act kk hp hb h0r hR hd
  rw [roundsIn_succ]
  refine wpIn_mono (step k σ hI p E0 h0 w0 d E w act kk hp hb h0r hR hd) ?_
  rintro xx a' w' ⟨e, σ1, rfl, h1, E', hR'⟩
  cases e with
  | normal =>
   obtain ⟨k', σ3, hk, hren, hI'⟩ := h1
   obtain ⟨E2, hR2⟩ := hren E0 h0 w0 d E' w' a' hb h0r hR'
   exact rounds_le (by omega) (ih k' hk σ3 hI' p E0 h0 w0 d E2 w' a' kk hp hb h0r hR2 hd)
  | exit id => exact ⟨_, σ1, rfl, h1, E', hR'⟩
  | ret => exact ⟨_, σ1, rfl, h1, E', hR'⟩
theorem cruns_loop {keep k : Nat} (I : Nat → St → Prop) (h0 : ∃ σ0, Ren P G base σ σ0 ∧ I k σ0)
  (step : ∀ k σ1, I k σ1 → CRuns P G base r c σ1 (zT Q fun σ2 => ∃ k' σ3, k' < k ∧ Ren P G base σ2 σ3 ∧ I k' σ3)) : CRuns P G base r (.loop keep c) σ Q := by
 obtain ⟨σ0, hr0, hI⟩ := h0
 intro code E0 h0 w0 d E w act kk hc hb h0r hR hd
 obtain ⟨p, rfl, hp⟩ := co_loop hc
 obtain ⟨E2, hR2⟩ := hr0 E0 h0 w0 d E w act hb h0r hR
 exact wpIn_loop_rounds _ (cruns_rounds I step k σ0 hI p E0 h0 w0 d E2 w act kk hp hb h0r hR2 hd)
theorem cans_of (hT : Zp P G T) {f : Nat} {cf : CFn} {args : List Za} {Q : Za → Zg → Prop} (hf : T f = some cf)
  (hb : CRuns P G h.length none cf.body ⟨args ++ List.replicate (cf.ntmps - args.length) .und, h⟩ fun e σ => (∀ id, e ≠ .exit id) ∧ ∃ vs, XW σ.t σ.h cf.res = some vs ∧ Q (XQ vs) (trim h.length [XQ vs] σ.h)) : CAns P G f args h Q := by
 intro E w cargs k hr hl
 obtain ⟨fn, c, hfn, hbd, hname, hcomp, hnt, hres, horc, heff⟩ := hT f cf hf
 have hlr : E.LR w (args ++ List.replicate (cf.ntmps - args.length) Za.und) (cargs ++ Array.replicate (fn.ntmps - cargs.size) undef) :=
  lr_app hl (replicate_lr _ _ (by rw [hnt, hl.1]))
 refine callsIn_of_wp_marks hfn hbd trivial ?_
 refine wpIn_mono (hb c E h w _ E w _ k hcomp rfl hr (.refl hr hlr) (by simp)) ?_
 rintro x a' w' ⟨e, σ, hx, ⟨hne, vs, hv, hq⟩, E', hR⟩
 have key : LeavesInM (FW none) k P fn a'.tmps (fun e w' => ∃ v h', Q v h' ∧ RetPost P G E w h.length v h' e w') a'.defers .returning w' := by
  obtain ⟨bs, hbs, hnd, hall⟩ := hR.mks
  simp only [List.append_nil] at hbs
  rw [hbs]
  refine leaves (n := w.heap.size) (k := k) hres hv bs w' hR.nx.hr hR.lr hnd hall fun w2 u g1 g2 g3 g4 g5 g6 g7 => ?_
  have hx2 := nx_side hR.nx g1 g3 g4 g5 g6 fun b hb => g7 b (.inl hb)
  have hlu : E'.LR w2 [XQ vs] #[u] := ⟨rfl, fun j h1 h2 => by
   have : j = 0 := by simp at h1; omega
   subst this; exact g2⟩
  obtain ⟨E2, hx3, hl3, _⟩ := trim_ok hr hx2 hlu
  exact ⟨_, _, hq, u, E2, rfl, hx3.le, hx3.hr, hl3.2 0 (by simp) (by simp), hx3.fr, hx3.len⟩
 cases e with
 | exit id => exact absurd rfl (hne id)
 | normal => subst hx; exact key
 | ret => subst hx; exact key
theorem CAns.mono {f : Nat} {args : List Za} {Q Q' : Za → Zg → Prop} (ha : CAns P G f args h Q) (hq : ∀ v h, Q v h → Q' v h) : CAns P G f args h Q' := fun E w cargs k hr hl =>
 CallsIn.mono (ha E w cargs k hr hl) fun e w' ⟨v, h', h1, h2⟩ => ⟨v, h', hq _ _ h1, h2⟩
end
end Go.Abs
namespace Go.Proofs.YtpebmjeomlgmdaaDoor.Tab
open Go Go.Abs Go.Proofs
set_option maxRecDepth 100000
set_option maxHeartbeats 4000000
set_option linter.unusedSimpArgs false
set_option linter.unusedVariables false
noncomputable section
attribute [local simp] Yp ZZ Xi Xj Yu Yt Xk YE YO Yj Zd XX Xd YD Xf Xb YC Yi XR XT YZ YB YA Yz Xe Xa Xc XS XU slE XF YV ZX Zy Xo List.range_succ List.range_zero List.range'_succ List.range'_zero ZN ZL Zq ZQ ZA ZE YX ZS dop CV.ev Ya Zm Zv YL XP Yk ZK Zu Zl Out.v Xq List.replicate_succ zT zB arI Zw Abs.rowAt Xm allV toV toC ofV ofC Builtin.min_ Builtin.min2 Builtin.max_ Builtin.max2 Xg Xh XW XQ Xn ZM Yf Yg Ye Zb
section
attribute [local simp] ZO ZB YH Yw XI YY disj YJ XO YK ZI YM news eqB YW eqA Yx YS YQ ofCs stA Yh ZC Yl dI1 dI2 dI3 dI5 elt
attribute [local simp] st_any XZ st_agg st_tup Xw st_int Xt st_ref st_pv Xs st_sl st_vl Xu st_mp st_fn Xv XY co_any co_und co_agg co_tup XC co_int Xz co_ref co_pv Xy co_sl co_vl XA co_mp co_fn XB co_yld
attribute [local simp] Ym Zj lop Yo
def rU (s : Nat) : List Za := [.int .u64 (s : Nat)]
def blkZ (l : List Nat) : Option Blk := if l.isEmpty then none else some (.row 1 (l.map rU))
def BL (f : Nat → List Nat) : Zg := (List.range 11).map fun z => blkZ (f z)
def esG (o : Nat) (zs : List Nat) (f : Nat → List Nat) : List (Za × Za × Nat) := (zs.zipIdx o).map fun p => (I (p.1 : Nat), .sl (p.1 + 2) 0 (f p.1).length false, p.2)
theorem esG_cons (o y : Nat) (ys : List Nat) (f : Nat → List Nat) : esG o (y :: ys) f = (I (y : Nat), .sl (y + 2) 0 (f y).length false, o) :: esG (o + 1) ys f := rfl
theorem esG_app (f : Nat → List Nat) : ∀ (a b : List Nat) (o : Nat), esG o (a ++ b) f = esG o a f ++ esG (o + a.length) b f
  | [], b, o => rfl
  | y :: a, b, o => by rw [List.cons_append, esG_cons, esG_cons, esG_app f a b (o + 1), List.cons_append, List.length_cons, show o + 1 + a.length = o + (a.length + 1) by omega]
theorem findE_not {z : Nat} (f : Nat → List Nat) : ∀ (zs : List Nat) (o i : Nat), z ∉ zs → findE .i64 (z : Int) i (esG o zs f) = some none
  | [], o, i, _ => rfl
  | y :: ys, o, i, h => by
    have h1 : ¬ (z : Int) = (y : Int) := fun e => h (by rw [List.mem_cons]; exact .inl (by omega))
    rw [esG_cons]
    simp only [findE, if_true, if_neg h1]
    exact findE_not f ys (o + 1) (i + 1) fun h2 => h (List.mem_cons_of_mem _ h2)
theorem findE_at {z : Nat} (f : Nat → List Nat) (b : List Nat) : ∀ (a : List Nat) (o i : Nat), z ∉ a → findE .i64 (z : Int) i (esG o (a ++ z :: b) f) = some (some (i + a.length, .sl (z + 2) 0 (f z).length false, o + a.length))
  | [], o, i, _ => by rw [List.nil_append, esG_cons]; simp only [findE, if_true]; rfl
  | y :: a, o, i, h => by
    have h1 : ¬ (z : Int) = (y : Int) := fun e => h (by rw [List.mem_cons]; exact .inl (by omega))
    rw [List.cons_append, esG_cons]
    simp only [findE, if_true, if_neg h1]
    rw [findE_at f b a (o + 1) (i + 1) fun h2 => h (List.mem_cons_of_mem _ h2), List.length_cons]
    congr 3
    · omega
    · congr 1; omega
theorem esG_set {z : Nat} (f : Nat → List Nat) (b : List Nat) (e : Za × Za × Nat) : ∀ (a : List Nat) (o : Nat), (esG o (a ++ z :: b) f).set a.length e = esG o a f ++ e :: esG (o + a.length + 1) b f
  | [], o => rfl
  | y :: a, o => by
    rw [List.cons_append, esG_cons, List.length_cons, List.set_cons_succ, esG_set f b e a (o + 1), esG_cons, List.cons_append, show o + 1 + a.length + 1 = o + (a.length + 1) + 1 by omega]
theorem optAll_app {α β : Type} {f : α → Option β} : ∀ {l m : List α} {x y : List β}, Zd f l = some x → Zd f m = some y → Zd f (l ++ m) = some (x ++ y)
  | [], m, x, y, h1, h2 => by simp at h1; subst h1; simpa using h2
  | a :: l, m, x, y, h1, h2 => by
    simp only [Zd] at h1
    split at h1 <;> simp at h1
    rename_i u us e1 e2
    subst h1
    simp only [List.cons_append, Zd, e1, optAll_app e2 h2]
def KZ (z : Nat) : List Nat := 0 :: 1 :: (List.range 11).map fun i => if i = z then 14 else i + 2
theorem KZ_nd : ∀ z, z < 11 → (KZ z).Nodup := by decide +kernel
theorem posZ : ∀ z, z < 11 → ∀ y, y < 11 → y ≠ z → posOf (KZ z) (y + 2) 0 = some (y + 2) := by decide +kernel
theorem posZ0 : ∀ z, z < 11 → posOf (KZ z) 0 0 = some 0 ∧ posOf (KZ z) 1 0 = some 1 ∧ posOf (KZ z) 14 0 = some (z + 2) := by decide +kernel
theorem BL_len (f : Nat → List Nat) : (BL f).length = 11 := by simp [BL]
theorem BL_get (f : Nat → List Nat) {z : Nat} (hz : z < 11) : (BL f)[z]? = some (blkZ (f z)) := by simp only [BL, List.getElem?_map, List.getElem?_range hz, Option.map_some]
theorem renB_blk {K : List Nat} {H : Zg} {i : Nat} {l : List Nat} (h : H[i]? = some (blkZ l)) : renB K H i = some (blkZ l) := by
  unfold renB
  rw [Zl, h]
  unfold blkZ
  cases l with
  | nil => rfl
  | cons x l =>
    simp only [List.isEmpty_cons, Bool.false_eq_true, if_false]
    rw [Zx ((x :: l).map rU) fun r hr => Zx _ fun v hv => by
      obtain ⟨y, _, rfl⟩ := List.mem_map.1 hr
      simp only [rU, List.mem_singleton] at hv
      subst hv; rfl]
theorem optAll_map2 {α β γ : Type} {f : β → Option γ} {g : α → β} {k : α → γ} : ∀ (l : List α), (∀ x ∈ l, f (g x) = some (k x)) → Zd f (l.map g) = some (l.map k)
  | [], _ => rfl
  | x :: l, h => by simp only [List.map_cons, Zd, h x (by simp), optAll_map2 l fun y hy => h y (by simp [hy])]
theorem esG_ren {z : Nat} (hz : z < 11) {H : Zg} {f f2 : Nat → List Nat} : ∀ (a : List Nat) (o : Nat), (∀ y ∈ a, y < 11 ∧ y ≠ z ∧ f2 y = f y) → Zd (renE (KZ z) H) (esG o a f) = some (esG o a f2)
  | [], o, _ => rfl
  | y :: a, o, h => by
    obtain ⟨h1, h2, h3⟩ := h y (by simp)
    rw [esG_cons, esG_cons]
    simp only [Zd, renE, renV_int, renV_sl, posZ z hz y h1 h2, esG_ren hz a (o + 1) fun x hx => h x (by simp [hx]), h3]
theorem renZ {P : Program} {G : Nat → Option (List Za)} {z : Nat} (hz : z < 11) {keep : Nat} {t t' : List Za} {cb : List Za} {es es2 : List (Za × Za × Nat)} {cl : Nat} {f f2 : Nat → List Nat} {x : Option Blk} {rows : List (List Za)}
    (ht : ∀ H, Zd (Xp (KZ z) H 5) (Xn t keep) = some t') (hcb : ∀ H, Zd (Xp (KZ z) H 5) cb = some cb) (hes : ∀ H, Zd (renE (KZ z) H) es = some es2) (hrow : some (.row 1 rows) = blkZ (f2 z)) (hf : ∀ y, y ≠ z → f2 y = f y) :
    Ren P G 0 ⟨t, some (.row 3 [cb]) :: some (.map es cl) :: ((BL f).set z none ++ [x, some (.row 1 rows)])⟩ ⟨t', some (.row 3 [cb]) :: some (.map es2 cl) :: BL f2⟩ := by
  refine ren_kk keep (KZ z) (KZ_nd z hz) (Nat.zero_le _) rfl (ht _) ?_
  generalize hH : some (Blk.row 3 [cb]) :: some (Blk.map es cl) :: ((BL f).set z none ++ [x, some (Blk.row 1 rows)]) = H
  have e0 : renB (KZ z) H 0 = some (some (.row 3 [cb])) := by
    unfold renB; rw [Zl, ← hH]
    simp only [List.getElem?_cons_zero, Zd, hcb]
  have e1 : renB (KZ z) H 1 = some (some (.map es2 cl)) := by
    unfold renB; rw [Zl, ← hH]
    simp only [List.getElem?_cons_succ, List.getElem?_cons_zero, hes]
  show Zd (renB (KZ z) H) (0 :: 1 :: (List.range 11).map fun i => if i = z then 14 else i + 2) = _
  have e2 : Zd (renB (KZ z) H) ((List.range 11).map fun i => if i = z then 14 else i + 2) = some (BL f2) := by
    refine optAll_map2 _ fun i hi => ?_
    rw [List.mem_range] at hi
    by_cases h : i = z
    · subst h
      rw [if_pos rfl]
      refine renB_blk ?_
      rw [← hH, ← hrow]
      simp [BL_len]
    · rw [if_neg h]
      refine renB_blk ?_
      rw [← hH, hf i h]
      simp only [List.getElem?_cons_succ]
      rw [List.getElem?_append_left (by simp [BL_len]; omega), List.getElem?_set_ne (by omega)]
      exact BL_get f hi
  simp only [Zd, e0, e1, e2]
def gS (p : List Nat → Bool) (k z : Nat) : List Nat := (List.range k).filter fun s => p (Zn s) && (Zn s).length == z
theorem gS_no {p : List Nat → Bool} {k : Nat} (h : p (Zn k) = false) : gS p (k + 1) = gS p k := by
  funext z; simp [gS, h]
theorem gS_ne {p : List Nat → Bool} {k z : Nat} (h : z ≠ (Zn k).length) : gS p (k + 1) z = gS p k z := by
  have : ((Zn k).length == z) = false := by simp; omega
  simp [gS, this]
theorem gS_yes {p : List Nat → Bool} {k : Nat} (h : p (Zn k) = true) : gS p (k + 1) (Zn k).length = gS p k (Zn k).length ++ [k] := by
  simp [gS, h]
def ZOk (zs : List Nat) (f : Nat → List Nat) : Prop := zs.Nodup ∧ ∀ z, z ∈ zs ↔ (z < 11 ∧ f z ≠ [])
theorem gS_len (p : List Nat → Bool) (k z : Nat) : (gS p k z).length ≤ k := by
  have := List.length_filter_le (fun s => p (Zn s) && (Zn s).length == z) (List.range k)
  simpa [gS] using this
def firstN (n : Nat) (p : List Nat → Bool) : Nat → Nat → Option Nat
  | 0, _ => none
  | f + 1, k => if XM n k p = [] then firstN n p f (k + 1) else some k
def smallV (n : Nat) (p : List Nat → Bool) : Za := match firstN n p (n + 1) 0 with
  | none => .tup [.nils, I 9]
  | some k => if (XM n k p).length > 30 then .tup [.nils, I 8] else .tup [.vl ((sortBy cmpB (finS (XM n k p))).map fun x : Fin 1024 => rU x.1) false, I 0]
theorem orc_cans {P : Program} {G : Nat → Option (List Za)} {f : Nat} {args : List Za} {fr : Bool} {v : Za} (ha : CAns P G f args [] fun v' h' => frz fr h' 5 v' = some v) : OrcGood P G fr f args v := by
  intro E w cargs k hD hO hr hl
  refine CallsIn.mono (ha E w cargs k hr hl) ?_
  rintro e w' ⟨v', h', hv, u, E', rfl, hle, hr', hu, _, _⟩
  have hO' : ∀ b, E'.O b → w.heap.size ≤ b := fun b hb => Nat.le_of_not_lt fun h => (hle.old b h (hO b)).2.1 hb
  refine ⟨u, fun b => b < w'.heap.size ∧ (w.heap.size ≤ b ∨ (fr = false ∧ E.I b)), rfl, hle.os, hle.tape, hle.output, hle.size, fun b hb => (hle.old b hb (hO b)).1, fun b hb => hb, ?_⟩
  refine frz_ok hr' (fun i b hi => ?_) (fun hf b hb => ?_) 5 hu hv
  · obtain ⟨_, h2, h3, _⟩ := hr'.blk i b hi
    exact ⟨h3, .inl (hO' _ h2)⟩
  · refine ⟨(hr'.imm b hb).1, ?_⟩
    by_cases h : b < w.heap.size
    · exact .inr ⟨hf, (hle.old b h (hO b)).2.2 hb⟩
    · exact .inl (by omega)
def o114 : List Za → Option Za
  | [.int .i64 _] => some (.bool false)
  | _ => none
def cmpI (a b : Int) : Int := if a < b then -1 else if b < a then 1 else 0
def o101 : List Za → Option Za
  | [.int .i64 a, .int .i64 b] => some (I (cmpI a b))
  | _ => none
theorem a114 (P : Program) (T : Nat → Option CFn) (hT : T 114 = some c114) (n : Int) : Zo P T 114 [I n] [] fun v h => frz true h 5 v = some (.bool false) := by
 refine Zi hT (Zk rfl) ?_
 simp only [oo, om, op, og, ci, cl, c114]
 refine zS ?_
 refine zR (zO (by simp; rfl) ?_)
 simp only [zT, zB]
 refine zS ?_
 refine zR (zO (by simp; rfl) ?_)
 simp only [zT, zB]
 refine Ze ?_
 simp
def DB1 : Nat → Option CFn := upd DA 114 true (o114)
theorem DB1_ok : Zp Tryd.prog GG DB1 := ZJ mixed DA_ok fun args v ho => by
  unfold o114 at ho; split at ho <;> simp at ho
  rename_i n
  subst ho
  exact a114 Tryd.prog DA rfl  n
theorem a101 (P : Program) (T : Nat → Option CFn) (hT : T 101 = some c101) (h114 : T 114 = some { c114 with frsh := true, orc := o114 }) (a b : Int) : Zo P T 101 [I a, I b] [] fun v h => frz true h 5 v = some (I (cmpI a b)) := by
 refine Zi hT (Zk rfl) ?_
 simp only [oo, om, op, og, ci, cl, c101]
 refine zS ?_
 refine zR (zO (by simp [zC h114, h114, o114]; rfl) ?_)
 simp only [zT, zB]
 refine zS ?_
 refine zR (zO (by simp [zC h114, h114, o114]; rfl) ?_)
 simp only [zT, zB]
 refine zS ?_
 refine zR (zO (by simp [zC h114, h114, o114]; rfl) ?_)
 simp only [zT, zB]
 refine zS ?_
 refine zS ?_
 refine zR (zO (by simp [zC h114, h114, o114]; rfl) ?_)
 simp only [zT, zB]
 refine Zc (x := false) (by simp) ?_
 refine zK ?_
 simp only [zT, zB]
 refine zS ?_
 refine zS ?_
 refine zR (zO (by simp [zC h114, h114, o114]; rfl) ?_)
 simp only [zT, zB]
 refine Zc (x := false) (by simp) ?_
 refine zK ?_
 simp only [zT, zB]
 refine zS ?_
 refine zS ?_
 refine zR (zO (by simp [zC h114, h114, o114]; rfl) ?_)
 simp only [zT, zB]
 refine Zf (x := decide (a < b)) (by simp) (fun hA => ?_) (fun hA => ?_)
 ·have e : cmpI a b = -1 := by have := of_decide_eq_true hA; simp [cmpI, this]
  rw [e]
  refine zS ?_
  refine zR (zO (by simp [zC h114, h114, o114]; rfl) ?_)
  simp only [zT, zB]
  refine Ze ?_
  simp [zC h114, h114, o114]
 ·have hA := of_decide_eq_false hA
  refine zK ?_
  simp only [zT, zB]
  refine zS ?_
  refine zS ?_
  refine zR (zO (by simp [zC h114, h114, o114]; rfl) ?_)
  simp only [zT, zB]
  refine Zf (x := decide (b < a)) (by simp) (fun hB => ?_) (fun hB => ?_)
  ·have hB := of_decide_eq_true hB
   have e : cmpI a b = 1 := by unfold cmpI; rw [if_neg hA, if_pos hB]
   rw [e]
   refine zS ?_
   refine zR (zO (by simp [zC h114, h114, o114]; rfl) ?_)
   simp only [zT, zB]
   refine Ze ?_
   simp [zC h114, h114, o114]
  ·have hB := of_decide_eq_false hB
   have e : cmpI a b = 0 := by unfold cmpI; rw [if_neg hA, if_neg hB]
   rw [e]
   refine zK ?_
   simp only [zT, zB]
   refine zS ?_
   refine zR (zO (by simp [zC h114, h114, o114]; rfl) ?_)
   simp only [zT, zB]
   refine Ze ?_
   simp [zC h114, h114, o114]
def DB2 : Nat → Option CFn := upd DB1 101 true (o101)
theorem DB2_ok : Zp Tryd.prog GG DB2 := ZJ mixed DB1_ok fun args v ho => by
  unfold o101 at ho; split at ho <;> simp at ho
  rename_i a b
  subst ho
  exact a101 Tryd.prog DB1 rfl rfl a b
def dN1 : List Za → Option Nat
  | [.int .i64 n] => if 0 ≤ n ∧ n < 1000000 then some n.toNat else none
  | _ => none
def dNs (v : Za) : Option (List Nat) := match Zt v with
  | some rs => Zd dN1 rs
  | none => none
theorem dN1_eq (r : List Za) (n : Nat) (h : dN1 r = some n) : r = rN n := by
  unfold dN1 at h; split at h <;> (try simp at h)
  rename_i n
  obtain ⟨h1, rfl⟩ := h
  have e1 : ((n.toNat : Nat) : Int) = n := Int.toNat_of_nonneg (by omega)
  simp only [rN, e1]
theorem dNs_rows {v : Za} {l : List Nat} (h : dNs v = some l) : Zt v = some (l.map rN) := by
  unfold dNs at h
  split at h
  · rename_i rs hrs
    rw [hrs, Xl (enc := rN) dN1_eq h]
  · simp at h
theorem dNs_of {v : Za} {l : List Nat} (h : Zt v = some (l.map rN)) (hb : ∀ x ∈ l, x < 1000000) : dNs v = some l := by
  unfold dNs; rw [h]; simp only
  clear h
  induction l with
  | nil => rfl
  | cons x l ih =>
    have hx := hb x (by simp)
    simp only [List.map_cons, Zd, ih fun y hy => hb y (by simp [hy])]
    have : dN1 (rN x) = some x := by simp only [dN1, rN]; rw [if_pos (by omega)]; rfl
    rw [this]
theorem dNs_encL {l : List Nat} (hb : ∀ x ∈ l, x < 1000000) : dNs (Ys l) = some l := dNs_of (Yq l) hb
theorem dNs_len {v : Za} {l : List Nat} (h : dNs v = some l) : Zb v = some l.length := by rw [ZV (dNs_rows h), List.length_map]
theorem dNs_get {v : Za} {l : List Nat} (h : dNs v = some l) {k : Nat} (hk : k < l.length) : ∃ t, v = .vl (l.map rN) t := XD (dNs_rows h) (k := k) (by simpa using hk)
theorem dNs_frz {v : Za} {l : List Nat} (h : dNs v = some l) (H : Zg) (d : Nat) : frz false H (d + 1) v = some v := ZG (dNs_rows h) H d
def o78 : List Za → Option Za
  | [x, y] => match dNs x, dNs y with
    | some a, some b => if a.length ≤ 1000 ∧ b.length ≤ 1000 then some (I (lexC a b)) else none
    | _, _ => none
  | _ => none
theorem lexC_drop {a b : List Nat} {k : Nat} (ha : k < a.length) (hb : k < b.length) : lexC (a.drop k) (b.drop k) = if a[k] < b[k] then -1 else if b[k] < a[k] then 1 else lexC (a.drop (k + 1)) (b.drop (k + 1)) := by
  rw [List.drop_eq_getElem_cons ha, List.drop_eq_getElem_cons hb]; rfl
theorem a78 (P : Program) (T : Nat → Option CFn) (hT : T 78 = some c78) (h101 : T 101 = some { c101 with frsh := true, orc := o101 }) (x y : Za) (a b : List Nat) (hx : dNs x = some a) (hy : dNs y = some b) (ha : a.length ≤ 1000) (hb : b.length ≤ 1000) : Zo P T 78 [x, y] [] fun v h => frz true h 5 v = some (I (lexC a b)) := by
 have lx := dNs_len hx
 have ly := dNs_len hy
 refine Zi hT (Zk rfl) ?_
 simp only [oo, om, op, og, ci, cl, c78]
 refine zS ?_
 refine zR (zO (by simp [zC h101, h101, lx, ly, -Zb]; rfl) ?_)
 simp only [zT, zB]
 refine zS ?_
 refine zS ?_
 refine zR (zO (by simp [zC h101, h101, lx, ly, -Zb]; rfl) ?_)
 simp only [zT, zB]
 refine zL ?_
 refine Zs (fun m σ => ∃ (k : Nat) (i : Int), i = k ∧ a.length - k = m ∧ k ≤ a.length ∧ lexC (a.drop k) (b.drop k) = lexC a b ∧ σ = ⟨[x, y, .any, .any, .any, .any, .any, .any, .any, x, I a.length, I i, .any, .any, .any, .any, .any, .any, .any, .any, .any, .any, .any, .any, .any, .any, .any, .any, .any, .any, .any, .any, .any, .any, .any, .any], []⟩) ?_ (a.length - 0) _ ⟨0, 0, rfl, rfl, Nat.zero_le _, rfl, by simp⟩
 rintro m σ ⟨k, i, hik, rfl, hkl, hR, rfl⟩
 refine zS ?_
 refine zR (zO (by simp [zC h101, h101, lx, ly, -Zb]; rfl) ?_)
 simp only [zT, zB]
 refine zS ?_
 refine Zf (x := decide (i < (a.length : Int))) (by simp) (fun hlt => ?_) (fun hlt => ?_)
 ·have hlt := of_decide_eq_true hlt
  have hk0 : k < a.length := by omega
  obtain ⟨t1, rfl⟩ := dNs_get hx hk0
  have hi0 : 0 ≤ i := by omega
  have htn : i.toNat = k := by omega
  have hwi : W .i64 (i + 1) = i + 1 := Zz (by omega)
  have g1 : (a.map rN)[k]? = some (rN a[k]) := by rw [List.getElem?_map, List.getElem?_eq_getElem hk0]; rfl
  have g2 : ∀ h, (a.map rN)[k]'h = rN a[k] := fun h => by simp
  have HH1 := zA h101 (zA lx (zA ly (zA hi0 (zA htn (zA hk0 (zA hwi (zA g1 g2)))))))
  refine zK ?_
  simp only [zT, zB]
  refine zS ?_
  refine zL ?_
  refine zS ?_
  refine zR (zO (by simp [zC h101, -Zb, -List.getElem?_map, -List.getElem_map, HH1]; rfl) ?_)
  simp only [zT, zB]
  refine zS ?_
  refine zS ?_
  refine zR (zO (by simp [zC h101, -Zb, -List.getElem?_map, -List.getElem_map, HH1]; rfl) ?_)
  simp only [zT, zB]
  refine Zf (x := decide ((b.length : Int) ≤ i)) (by simp) (fun hge => ?_) (fun hge => ?_)
  ·have hge := of_decide_eq_true hge
   have hb0 : b.drop k = [] := List.drop_of_length_le (by omega)
   have hA : a.drop k = a[k] :: a.drop (k + 1) := List.drop_eq_getElem_cons hk0
   rw [hA, hb0] at hR
   rw [← hR]
   refine zS ?_
   refine zR (zO (by simp [zC h101, -Zb, -List.getElem?_map, -List.getElem_map, HH1]; rfl) ?_)
   simp only [zT, zB]
   refine Ze ?_
   simp [zC h101, -Zb, -List.getElem?_map, -List.getElem_map, HH1, lexC]
  ·have hge := of_decide_eq_false hge
   have hkb : k < b.length := by omega
   obtain ⟨t2, rfl⟩ := dNs_get hy hkb
   have g3 : (b.map rN)[k]? = some (rN b[k]) := by rw [List.getElem?_map, List.getElem?_eq_getElem hkb]; rfl
   have g4 : ∀ h, (b.map rN)[k]'h = rN b[k] := fun h => by simp
   rw [lexC_drop hk0 hkb] at hR
   generalize hua : a[k] = u at *
   generalize hub : b[k] = v at *
   have hcm : cmpI (u : Int) (v : Int) = if u < v then -1 else if v < u then 1 else 0 := by
    unfold cmpI; simp only [Int.ofNat_lt]
   refine zK ?_
   simp only [zT, zB]
   refine zS ?_
   refine zR (zO (by simp [zC h101, -Zb, -List.getElem?_map, -List.getElem_map, HH1, hkb, g3, g4, rN, o101]; rfl) ?_)
   simp only [zT, zB]
   refine zS ?_
   refine zR (zO (by simp [zC h101, -Zb, -List.getElem?_map, -List.getElem_map, HH1, hkb, g3, g4, rN, o101]; rfl) ?_)
   simp only [zT, zB]
   refine zS ?_
   refine zR (zO (by simp [zC h101, -Zb, -List.getElem?_map, -List.getElem_map, HH1, hkb, g3, g4, rN, o101]; rfl) ?_)
   simp only [zT, zB]
   by_cases hA : u < v
   ·rw [if_pos hA] at hR
    rw [if_pos hA] at hcm
    rw [← hR]
    refine Zc (x := true) (by simp [hcm]) ?_
    refine zS ?_
    refine zR (zO (by simp [zC h101, -Zb, -List.getElem?_map, -List.getElem_map, HH1, hkb, g3, g4, rN, o101, hcm]; rfl) ?_)
    simp only [zT, zB]
    refine Ze ?_
    simp [zC h101, -Zb, -List.getElem?_map, -List.getElem_map, HH1, hkb, g3, g4, rN, o101, hcm]
   ·by_cases hB : v < u
    ·rw [if_neg hA, if_pos hB] at hR
     rw [if_neg hA, if_pos hB] at hcm
     rw [← hR]
     refine Zc (x := true) (by simp [hcm]) ?_
     refine zS ?_
     refine zR (zO (by simp [zC h101, -Zb, -List.getElem?_map, -List.getElem_map, HH1, hkb, g3, g4, rN, o101, hcm]; rfl) ?_)
     simp only [zT, zB]
     refine Ze ?_
     simp [zC h101, -Zb, -List.getElem?_map, -List.getElem_map, HH1, hkb, g3, g4, rN, o101, hcm]
    ·rw [if_neg hA, if_neg hB] at hR
     rw [if_neg hA, if_neg hB] at hcm
     refine Zc (x := false) (by simp [hcm]) ?_
     refine zK ?_
     simp only [zT, zB]
     refine zR (zO (by simp [zC h101, -Zb, -List.getElem?_map, -List.getElem_map, HH1, hkb, g3, g4, rN, o101, hcm]; rfl) ?_)
     simp only [zT, zB]
     exact ⟨a.length - (k + 1), by omega, k + 1, i + 1, by omega, rfl, by omega, hR, by simp [zC h101, -Zb, -List.getElem?_map, -List.getElem_map, HH1, hkb, g3, g4, rN, o101, hcm]⟩
 ·have hlt := of_decide_eq_false hlt
  obtain rfl : k = a.length := by omega
  rw [List.drop_length] at hR
  refine Zr ?_
  simp only [zT, zB, if_true, if_false, reduceIte, Nat.reduceEqDiff, Nat.succ_ne_zero, Nat.one_ne_zero, Nat.zero_ne_one]
  refine zS ?_
  refine zS ?_
  refine zR (zO (by simp [zC h101, h101, lx, ly, -Zb]; rfl) ?_)
  simp only [zT, zB]
  refine Zf (x := decide ((a.length : Int) < (b.length : Int))) (by simp) (fun hsh => ?_) (fun hsh => ?_)
  ·have hsh := of_decide_eq_true hsh
   have hB : b.drop a.length = b[a.length] :: b.drop (a.length + 1) := List.drop_eq_getElem_cons (by omega)
   rw [hB] at hR
   rw [← hR]
   refine zS ?_
   refine zR (zO (by simp [zC h101, h101, lx, ly, -Zb]; rfl) ?_)
   simp only [zT, zB]
   refine Ze ?_
   simp [zC h101, h101, lx, ly, -Zb, lexC]
  ·have hsh := of_decide_eq_false hsh
   have hB : b.drop a.length = [] := List.drop_of_length_le (by omega)
   rw [hB] at hR
   rw [← hR]
   refine zK ?_
   simp only [zT, zB]
   refine zS ?_
   refine zR (zO (by simp [zC h101, h101, lx, ly, -Zb]; rfl) ?_)
   simp only [zT, zB]
   refine Ze ?_
   simp [zC h101, h101, lx, ly, -Zb, lexC]
def DB3 : Nat → Option CFn := upd DB2 78 true (o78)
theorem DB3_ok : Zp Tryd.prog GG DB3 := ZJ mixed DB2_ok fun args v ho => by
  unfold o78 at ho; split at ho <;> (try simp only [reduceCtorEq] at ho)
  rename_i x y
  split at ho <;> (try simp only [reduceCtorEq] at ho)
  rename_i a b hx hy
  split at ho <;> (try simp only [reduceCtorEq] at ho)
  rename_i hg
  simp only [Option.some.injEq] at ho
  subst ho
  exact a78 Tryd.prog DB2 rfl rfl x y a b hx hy hg.1 hg.2
def o108 : List Za → Option Za
  | [.int .u64 a, .int .u64 b] => if (0 ≤ a ∧ a < 1024) ∧ (0 ≤ b ∧ b < 1024) then some (I (lexC (Zn a.toNat) (Zn b.toNat))) else none
  | _ => none
theorem bits_dNs (s : Nat) : dNs (Ys (Zn s)) = some (Zn s) := dNs_encL fun x hx => by have := (mem_bits.1 hx).1; omega
theorem a108 (P : Program) (T : Nat → Option CFn) (hT : T 108 = some c108) (h68 : T 68 = some { c68 with frsh := false, orc := o68 }) (h78 : T 78 = some { c78 with frsh := true, orc := o78 }) (a b : Nat) (ha : a < 1024) (hb : b < 1024) : Zo P T 108 [.int .u64 (a : Nat), .int .u64 (b : Nat)] [] fun v h => frz true h 5 v = some (I (lexC (Zn a) (Zn b))) := by
 have h1 := o68_eq ha
 have h2 := o68_eq hb
 have la := bits_len a
 have lb := bits_len b
 have da := bits_dNs a
 have db := bits_dNs b
 have fa := fun H d => dNs_frz da H d
 have fb := fun H d => dNs_frz db H d
 have e78 : o78 [Ys (Zn a), Ys (Zn b)] = some (I (lexC (Zn a) (Zn b))) := by
  simp only [o78, da, db]; rw [if_pos (by omega)]
 generalize Ys (Zn a) = va at *
 generalize Ys (Zn b) = vb at *
 refine Zi hT (Zk rfl) ?_
 simp only [oo, om, op, og, ci, cl, c108]
 have HH1 := zA h68 (zA h78 (zA h1 (zA h2 (zA e78 (zA fa fb)))))
 refine zS ?_
 refine zR (zO (by simp [zC h68, zC h78, HH1]; rfl) ?_)
 simp only [zT, zB]
 refine zS ?_
 refine zR (zO (by simp [zC h68, zC h78, HH1]; rfl) ?_)
 simp only [zT, zB]
 refine Ze ?_
 simp [zC h68, zC h78, HH1]
def DB4 : Nat → Option CFn := upd DB3 108 true (o108)
theorem DB4_ok : Zp Tryd.prog GG DB4 := ZJ mixed DB3_ok fun args v ho => by
  unfold o108 at ho; split at ho <;> (try simp only [reduceCtorEq] at ho)
  rename_i a b
  split at ho <;> (try simp only [reduceCtorEq] at ho)
  rename_i hg
  simp only [Option.some.injEq] at ho
  subst ho
  obtain ⟨x, rfl⟩ : ∃ s : Nat, a = s := ⟨a.toNat, by omega⟩
  obtain ⟨y, rfl⟩ : ∃ s : Nat, b = s := ⟨b.toNat, by omega⟩
  exact a108 Tryd.prog DB3 rfl rfl rfl x y (by omega) (by omega)
end
end
end Go.Proofs.YtpebmjeomlgmdaaDoor.Tab
namespace Go.Proofs.YtpebmjeomlgmdaaDoor.Tab
open Go Go.Proofs
def layB_ren : Go.Shelf.Ren := ⟨fun | 6 => 107 | 14 => 117 | 15 => 118 | 20 => 121 | 21 => 122 | 22 => 123 | 23 => 124 | 24 => 125 | 25 => 126 | 26 => 127 | 27 => 128 | 28 => 129 | 29 => 130 | 46 => 131 | 47 => 132 | 48 => 133 | 49 => 134 | 50 => 135 | 57 => 136 | n => n, fun | 0 => 0 | 3 => 3 | 4 => 4 | 5 => 5 | 9 => 9 | 22 => 137 | 24 => 132 | 25 => 188 | 39 => 111 | 45 => 202 | 46 => 203 | 50 => 207 | 53 => 190 | 55 => 192 | 66 => 209 | 70 => 213 | 76 => 215 | 77 => 216 | n => n, fun  | n => n⟩
theorem layB : Go.Proofs.SlLaysF.n6 Tryd.prog layB_ren where
  mixed := by kernel_rfl
  f6 := ⟨Tryd.f107.name, by decide +kernel, Tryd.func107.trans (congrArg some (by kernel_rfl))⟩
  f14 := ⟨Tryd.f117.name, by decide +kernel, Tryd.func117.trans (congrArg some (by kernel_rfl))⟩
  f15 := Tryd.func118.trans (congrArg some (by kernel_rfl))
  f20 := ⟨Tryd.f121.name, by decide +kernel, Tryd.func121.trans (congrArg some (by kernel_rfl))⟩
  f21 := ⟨Tryd.f122.name, by decide +kernel, Tryd.func122.trans (congrArg some (by kernel_rfl))⟩
  f22 := ⟨Tryd.f123.name, by decide +kernel, Tryd.func123.trans (congrArg some (by kernel_rfl))⟩
  f23 := ⟨Tryd.f124.name, by decide +kernel, Tryd.func124.trans (congrArg some (by kernel_rfl))⟩
  f24 := ⟨Tryd.f125.name, by decide +kernel, Tryd.func125.trans (congrArg some (by kernel_rfl))⟩
  f25 := ⟨Tryd.f126.name, by decide +kernel, Tryd.func126.trans (congrArg some (by kernel_rfl))⟩
  f26 := ⟨Tryd.f127.name, by decide +kernel, Tryd.func127.trans (congrArg some (by kernel_rfl))⟩
  f27 := ⟨Tryd.f128.name, by decide +kernel, Tryd.func128.trans (congrArg some (by kernel_rfl))⟩
  f28 := Tryd.func129.trans (congrArg some (by kernel_rfl))
  f29 := Tryd.func130.trans (congrArg some (by kernel_rfl))
  f46 := ⟨Tryd.f131.name, by decide +kernel, Tryd.func131.trans (congrArg some (by kernel_rfl))⟩
  f47 := Tryd.func132.trans (congrArg some (by kernel_rfl))
  f48 := Tryd.func133.trans (congrArg some (by kernel_rfl))
  f49 := ⟨Tryd.f134.name, by decide +kernel, Tryd.func134.trans (congrArg some (by kernel_rfl))⟩
  f50 := ⟨Tryd.f135.name, by decide +kernel, Tryd.func135.trans (congrArg some (by kernel_rfl))⟩
  f57 := ⟨Tryd.f136.name, by decide +kernel, Tryd.func136.trans (congrArg some (by kernel_rfl))⟩
  t0 := Tryd.underlying0
  a0 := Tryd.isAgg0
  z0 := Tryd.sizeOf0
  v0 := Tryd.zeroValue0
  t3 := Tryd.underlying3
  a3 := Tryd.isAgg3
  z3 := Tryd.sizeOf3
  v3 := Tryd.zeroValue3
  t4 := Tryd.underlying4
  a4 := Tryd.isAgg4
  z4 := Tryd.sizeOf4
  v4 := Tryd.zeroValue4
  t5 := Tryd.underlying5
  a5 := Tryd.isAgg5
  z5 := Tryd.sizeOf5
  v5 := Tryd.zeroValue5
  t9 := Tryd.underlying9
  a9 := Tryd.isAgg9
  z9 := Tryd.sizeOf9
  v9 := Tryd.zeroValue9
  t22 := Tryd.underlying137
  a22 := Tryd.isAgg137
  z22 := Tryd.sizeOf137
  v22 := Tryd.zeroValue137
  a24 := Tryd.isAgg132
  z24 := Tryd.sizeOf132
  t25 := Tryd.underlying188
  a25 := Tryd.isAgg188
  z25 := Tryd.sizeOf188
  v25 := Tryd.zeroValue188
  t39 := Tryd.underlying111
  a39 := Tryd.isAgg111
  z39 := Tryd.sizeOf111
  v39 := Tryd.zeroValue111
  t45 := Tryd.underlying202
  a45 := Tryd.isAgg202
  z45 := Tryd.sizeOf202
  v45 := Tryd.zeroValue202
  t46 := Tryd.underlying203
  a46 := Tryd.isAgg203
  z46 := Tryd.sizeOf203
  v46 := Tryd.zeroValue203
  t50 := Tryd.underlying207
  a50 := Tryd.isAgg207
  z50 := Tryd.sizeOf207
  v50 := Tryd.zeroValue207
  t53 := Tryd.underlying190
  a53 := Tryd.isAgg190
  z53 := Tryd.sizeOf190
  v53 := Tryd.zeroValue190
  t55 := Tryd.underlying192
  a55 := Tryd.isAgg192
  z55 := Tryd.sizeOf192
  v55 := Tryd.zeroValue192
  t66 := Tryd.underlying209
  a66 := Tryd.isAgg209
  z66 := Tryd.sizeOf209
  v66 := Tryd.zeroValue209
  t70 := Tryd.underlying213
  a70 := Tryd.isAgg213
  z70 := Tryd.sizeOf213
  v70 := Tryd.zeroValue213
  t76 := Tryd.underlying215
  a76 := Tryd.isAgg215
  z76 := Tryd.sizeOf215
  v76 := Tryd.zeroValue215
  t77 := Tryd.underlying216
  a77 := Tryd.isAgg216
  z77 := Tryd.sizeOf216
  v77 := Tryd.zeroValue216
end Go.Proofs.YtpebmjeomlgmdaaDoor.Tab
namespace Go.Proofs.YtpebmjeomlgmdaaDoor.Tab
open Go Go.Abs Go.Proofs
set_option maxRecDepth 100000
set_option maxHeartbeats 4000000
set_option linter.unusedSimpArgs false
set_option linter.unusedVariables false
noncomputable section
attribute [local simp] Yp ZZ Xi Xj Yu Yt Xk YE YO Yj Zd XX Xd YD Xf Xb YC Yi XR XT YZ YB YA Yz Xe Xa Xc XS XU slE XF YV ZX Zy Xo List.range_succ List.range_zero List.range'_succ List.range'_zero ZN ZL Zq ZQ ZA ZE YX ZS dop CV.ev Ya Zm Zv YL XP Yk ZK Zu Zl Out.v Xq List.replicate_succ zT zB arI Zw Abs.rowAt Xm allV toV toC ofV ofC Builtin.min_ Builtin.min2 Builtin.max_ Builtin.max2 Xg Xh XW XQ Xn ZM Yf Yg Ye Zb
section
attribute [local simp] ZO ZB YH Yw XI YY disj YJ XO YK ZI YM news eqB YW eqA Yx YS YQ ofCs stA Yh ZC Yl dI1 dI2 dI3 dI5 elt
attribute [local simp] st_any XZ st_agg st_tup Xw st_int Xt st_ref st_pv Xs st_sl st_vl Xu st_mp st_fn Xv XY co_any co_und co_agg co_tup XC co_int Xz co_ref co_pv Xy co_sl co_vl XA co_mp co_fn XB co_yld
attribute [local simp] Ym Zj lim lop Yo posOf putH setH
def dU : List Za → Option Nat
  | [.int .u64 n] => if 0 ≤ n ∧ n < 1024 then some n.toNat else none
  | _ => none
theorem dU_eq (r : List Za) (n : Nat) (h : dU r = some n) : r = rU n := by
  unfold dU at h; split at h <;> (try simp at h)
  rename_i n
  obtain ⟨h1, rfl⟩ := h
  have e1 : ((n.toNat : Nat) : Int) = n := Int.toNat_of_nonneg (by omega)
  simp only [rU, e1]
theorem dU_bd : ∀ {rs : List (List Za)} {l : List Nat}, Zd dU rs = some l → ∀ x ∈ l, x < 1024
  | [], l, h, x, hx => by simp at h; subst h; simp at hx
  | r :: rs, l, h, x, hx => by
    simp only [Zd] at h
    split at h <;> simp at h
    rename_i y ys h1 h2
    subst h
    rcases List.mem_cons.1 hx with rfl | hx
    · unfold dU at h1; split at h1 <;> (try simp at h1)
      obtain ⟨g, rfl⟩ := h1
      omega
    · exact dU_bd h2 x hx
theorem dU_self : ∀ {l : List Nat}, (∀ x ∈ l, x < 1024) → Zd dU (l.map rU) = some l
  | [], _ => rfl
  | x :: l, h => by
    have hx := h x (by simp)
    have ih := dU_self (l := l) fun y hy => h y (List.mem_cons_of_mem _ hy)
    have : dU (rU x) = some x := by simp only [dU, rU]; rw [if_pos (by omega)]; rfl
    simp only [List.map_cons, Zd, this, ih]
def e107 : List Za → Zg → Option (Za × List (Nat × Option Blk))
  | [.sl i 0 n _, .fn 108 [] []], h => match h[i]? with
    | some (some (.row 1 rs)) => match Zd dU rs with
      | some xs => if 1 ≤ xs.length ∧ xs.length ≤ 1000000 ∧ n = xs.length then some (.tup [], [(i, some (.row 1 ((sortBy cmpB (finS xs)).map fun x : Fin 1024 => rU x.1)))]) else none
      | none => none
    | _ => none
  | _, _ => none
theorem fin_rows {l : List Nat} (h : ∀ x ∈ l, x < 1024) : l.map rU = (finS l).map fun x : Fin 1024 => [Za.int .u64 (x.1 : Nat)] := by
  unfold finS
  rw [List.map_map]
  refine List.map_congr_left fun x hx => ?_
  have : ((Fin.ofNat 1024 x : Fin 1024) : Nat) = x := Nat.mod_eq_of_lt (h x hx)
  simp only [Function.comp, this, rU]
theorem e107_eq {h : Zg} {b : Nat} {l : List Nat} {tt : Bool} (hb : h[b]? = some (some (.row 1 (l.map rU)))) (hl : 1 ≤ l.length ∧ l.length ≤ 1024) (hx : ∀ x ∈ l, x < 1024) : e107 [.sl b 0 l.length tt, .fn 108 [] []] h = some (.tup [], [(b, some (.row 1 ((sortBy cmpB (finS l)).map fun x : Fin 1024 => rU x.1)))]) := by
  simp only [e107, hb, dU_self hx]
  rw [if_pos ⟨hl.1, by omega, by trivial⟩]
theorem cmp_good : ∀ args v, o108 args = some v → OrcGood Tryd.prog GG true 108 args v := fun args v h => by
  obtain ⟨_, _, _, _, _, _, _, _, h7, _⟩ := DB4_ok 108 { c108 with frsh := true, orc := o108 } rfl
  exact h7 args v h
theorem e107_good : ∀ args h v us, e107 args h = some (v, us) → XH Tryd.prog GG 107 args h v (setH h us) := fun args h v us ho => by
  unfold e107 at ho
  split at ho <;> (try simp only [reduceCtorEq] at ho)
  rename_i i n tt
  split at ho <;> (try simp only [reduceCtorEq] at ho)
  rename_i rs hb
  split at ho <;> (try simp only [reduceCtorEq] at ho)
  rename_i xs hrs
  split at ho <;> (try simp only [reduceCtorEq] at ho)
  rename_i hg
  simp only [Option.some.injEq, Prod.mk.injEq] at ho
  obtain ⟨rfl, rfl⟩ := ho
  obtain rfl : rs = xs.map rU := Xl (enc := rU) dU_eq hrs
  have hx := dU_bd hrs
  obtain ⟨h1, h2, rfl⟩ := hg
  have hil : i < h.length := (List.getElem?_eq_some_iff.1 hb).1
  show XH Tryd.prog GG 107 _ h _ (putH h i _)
  unfold putH
  rw [if_pos hil]
  have hl : (finS xs).length = xs.length := by simp [finS]
  have := sortF1_good (P := Tryd.prog) (G := GG) (α := Fin 1024) layB (f := 107) rfl (enc := fun x => .int .u64 (x.1 : Nat)) (fun _ => rfl) swoB antiB (g := 108) (fr := true)
    ⟨_, _, Tryd.func108, rfl, by decide +kernel⟩ (fun x y => cmp_good _ _ (by simp only [o108]; rw [if_pos (by have := x.2; have := y.2; omega)]; simp only [cmpB, Int.toNat_natCast])) (tt := tt) (by rw [hb, fin_rows hx]) (by intro e; rw [← hl, e] at h1; simp at h1) (by rw [hl]; omega)
  rw [hl] at this
  exact this
def DB5 : Nat → Option CFn := updE DB4 107 e107
theorem DB5_ok : Zp Tryd.prog GG DB5 := tab_updE DB4_ok e107_good
set_option maxHeartbeats 8000000 in
theorem a90 (T : Nat → Option CFn) (hTb : Zp Tryd.prog GG T) (hT : T 90 = some c90) (h94 : T 94 = some { c94 with frsh := true, orc := o94 }) (h106 : T 106 = some { c106 with frsh := true, orc := o106 }) (h107 : T 107 = some { c107 with eff := e107 }) (cs : Cs) (c : Za) (hc : Xx c = some cs) (hk : CsOk cs) (se mi : Nat) (h1 : se < 4096) (h2 : mi < 4096) :
  CAns Tryd.prog GG 90 [.agg [.int .u64 (se : Nat), .int .u64 (mi : Nat), c]] [] fun v h => frz true h 5 v = some (smallV cs.length fun l => explN cs l se mi) := by
 have hx := (dCauses_ok hc).1
 have rx := fun n d => ZY hx n d
 have fx := fun H d => ZG hx H d
 obtain ⟨cx1, cx2⟩ := ZH hx
 have lx := ZV hx
 rw [List.length_map] at lx
 have nx : ∀ K H, Xp K H 5 c = some c := fun K H => renV_flat K H 5 c (rx 0 4)
 have h2n := two_le hk.1
 have hn10 := hk.1
 obtain ⟨N, hN⟩ : ∃ N, N = 2 ^ cs.length := ⟨_, rfl⟩
 have hshl : shI .shl .u64 1 ((cs.length : Nat) : Int) = some (.int .u64 (N : Nat)) := by rw [hN]; exact shl_one (by omega) .u64 (.inr rfl)
 have hN1 : N ≤ 1024 := by omega
 generalize hp : (fun l => explN cs l se mi) = p
 have hB0 : BL (gS p 0) = [none, none, none, none, none, none, none, none, none, none, none] := rfl
 have hE0 : esG 0 [] (gS p 0) = [] := rfl
 refine cans_of hTb hT ?_
 simp only [oo, om, op, og, ci, cl, c90]
 have HH1 := zA h94 (zA h106 (zA fx (zA rx (zA cx1 (zA cx2 (zA lx (zA nx (zA hB0 hE0))))))))
 refine Yd ?_
 refine YG mixed hTb (zR (zO (by simp [zC h94, zC h106, rU, -Zb, ↓hshl, HH1]; rfl) ?_))
 simp only [zT, zB]
 refine Yd ?_
 refine YG mixed hTb (zR (zO (by simp [zC h94, zC h106, rU, -Zb, ↓hshl, HH1]; rfl) ?_))
 simp only [zT, zB]
 refine Yd ?_
 refine Yd ?_
 refine YG mixed hTb (zR (zO (by simp [zC h94, zC h106, rU, -Zb, ↓hshl, HH1]; rfl) ?_))
 simp only [zT, zB]
 refine cruns_block ?_
 refine cruns_loop (k := N - 0) (fun m σ => ∃ (k : Nat) (x : Int) (zs : List Nat) (cl : Nat), x = k ∧ cl = zs.length ∧ N - k = m ∧ k ≤ N ∧ ZOk zs (gS p k) ∧ σ = ⟨[.any, .ref 0 0 0, .any, .any, .mp 1, .any, .any, .any, .any, .any, .any, .any, .any, .int .u64 (N : Nat), .int .u64 x, .any, .any, .any, .any, .any, .any, .any, .any, .any, .any, .any, .any, .any, .any, .any, .any, .any, .any, .any, .any, .any, .any, .any, .any, .any, .any, .any, .any, .any, .any, .any, .any, .any, .any, .any, .any, .any, .any, .any], (some (.row 3 [[.int .u64 (se : Nat), .int .u64 (mi : Nat), c]]) :: some (.map (esG 0 zs (gS p k)) cl) :: BL (gS p k))⟩) ⟨_, ren_kk 24594 [0, 1, 20, 21, 22, 23, 24, 25, 26, 27, 28, 29, 30] (by decide) (by simp) rfl (by simp [zr, renE, renB, hideK, zC h94, zC h106, rU, -Zb, ↓hshl, HH1] <;> rfl) (by simp [zr, renE, renB, hideK, zC h94, zC h106, rU, -Zb, ↓hshl, HH1] <;> rfl), 0, 0, [], 0, rfl, rfl, rfl, Nat.zero_le _, ⟨List.nodup_nil, fun z => by simp [gS]⟩, rfl⟩ ?_
 rintro m σ ⟨k, x, zs, cl, hxk, hcl, rfl, hkl, hZ, rfl⟩
 obtain ⟨hnd, hzs⟩ := hZ
 refine Yd ?_
 refine YG mixed hTb (zR (zO (by simp [zC h94, zC h106, rU, -Zb, ↓hshl, HH1]; rfl) ?_))
 simp only [zT, zB]
 refine Yd ?_
 refine cruns_cond_split (x := decide (x < (N : Int))) (by simp) (fun hlt => ?_) (fun hlt => ?_)
 ·have hlt := of_decide_eq_true hlt
  have hkN : k < N := by omega
  have hk1 : k < 1024 := by omega
  have hwk : W .u64 (x + 1) = x + 1 := by simp only [W]; rw [if_pos (by omega)]
  have ho94 := o94_eq (se := se) (mi := mi) (s := k) hc ⟨hn10, by omega⟩ h1 h2
  have hpk : explN cs (Zn k) se mi = p (Zn k) := by rw [← hp]
  rw [hpk, ← hxk] at ho94
  have ho106 := o106_eq hk1
  rw [← hxk] at ho106
  have hz11 := bits_len k
  refine cruns_skip ?_
  simp only [zT, zB]
  refine Yd ?_
  refine cruns_block ?_
  refine Yd ?_
  refine YG mixed hTb (zR (zO (by simp [zC h94, zC h106, rU, -Zb, ↓hshl, HH1, ho94, ho106, hwk]; rfl) ?_))
  simp only [zT, zB]
  refine Yd ?_
  refine YG mixed hTb (zR (zO (by simp [zC h94, zC h106, rU, -Zb, ↓hshl, HH1, ho94, ho106, hwk]; rfl) ?_))
  simp only [zT, zB]
  refine cruns_cond_split (x := (p (Zn k))) (by simp) (fun hpt => ?_) (fun hpt => ?_)
  ·have hg2 := gS_yes hpt
   have hgn : ∀ y, y ≠ (Zn k).length → gS p (k + 1) y = gS p k y := fun y hy => gS_ne hy
   generalize hzz : (Zn k).length = z at *
   have hLl := BL_len (gS p k)
   have hLz := BL_get (gS p k) hz11
   have hglen := gS_len p k z
   have hl5 : (gS p k z).length ≤ 1048575 := by omega
   have hrow : some (Blk.row 1 ((gS p k z).map rU ++ [[.int .u64 x]])) = blkZ (gS p (k + 1) z) := by
    rw [hg2]; unfold blkZ; simp [rU, hxk]
   have htk : ((gS p k z).map rU).take (gS p k z).length = (gS p k z).map rU := List.take_of_length_le (by simp)
   have hLx : ∀ x, (BL (gS p k) ++ [x])[z]? = some (blkZ (gS p k z)) := fun x => by rw [List.getElem?_append_left (by rw [hLl]; exact hz11)]; exact hLz
   have hLs : ∀ x y, (BL (gS p k) ++ [x]).set z y = (BL (gS p k)).set z y ++ [x] := fun x y => List.set_append_left _ _ (by rw [hLl]; exact hz11)
   have hall1 : ((gS p k z).map rU).all (fun r => r.length == 1) = true := by simp [rU]
   have hall2 : ((gS p k z).map rU).all (fun r => r.all ZD) = true := by simp [rU]
   have hsl : ∀ t : List Za, t = t := fun t => rfl
   by_cases hmz : z ∈ zs
   ·obtain ⟨a, b, rfl⟩ := List.append_of_mem hmz
    have hza : z ∉ a := fun h => by have := (List.nodup_append.1 hnd).2.2 z h z (by simp); exact this rfl
    have hzb : z ∉ b := fun h => by have := (List.nodup_append.1 hnd).2.1; rw [List.nodup_cons] at this; exact this.1 h
    have hfe := findE_at (z := z) (gS p k) b a 0 0 hza
    simp only [Nat.zero_add] at hfe
    have hne : gS p k z ≠ [] := ((hzs z).1 hmz).2
    have hbz : blkZ (gS p k z) = some (.row 1 ((gS p k z).map rU)) := by unfold blkZ; rw [if_neg (by simpa using hne)]
    rw [hbz] at hLx hLz
    have hZ2 : ZOk (a ++ z :: b) (gS p (k + 1)) := by
     refine ⟨hnd, fun y => ?_⟩
     by_cases hy : y = z
     ·subst hy; simp [hz11, hg2]
     ·rw [hgn y hy]; exact hzs y
    refine YG mixed hTb (zR (zO (by simp [zC h94, zC h106, rU, -Zb, ↓hshl, HH1, ho94, ho106, hwk, hfe, hLx, hLs, hLl, hall1, hall2, htk, hglen, hl5, hLz, -List.map_append]; rfl) ?_))
    simp only [zT, zB]
    refine YG mixed hTb (zR (zO (by simp [zC h94, zC h106, rU, -Zb, ↓hshl, HH1, ho94, ho106, hwk, hfe, hLx, hLs, hLl, hall1, hall2, htk, hglen, hl5, hLz, -List.map_append]; rfl) ?_))
    simp only [zT, zB]
    refine ⟨N - (k + 1), ⟨[.any, .ref 0 0 0, .any, .any, .mp 1, .any, .any, .any, .any, .any, .any, .any, .any, .int .u64 (N : Nat), .int .u64 (x + 1), .any, .any, .any, .any, .any, .any, .any, .any, .any, .any, .any, .any, .any, .any, .any, .any, .any, .any, .any, .any, .any, .any, .any, .any, .any, .any, .any, .any, .any, .any, .any, .any, .any, .any, .any, .any, .any, .any, .any], (some (.row 3 [[.int .u64 (se : Nat), .int .u64 (mi : Nat), c]]) :: some (.map (esG 0 (a ++ z :: b) (gS p (k + 1))) cl) :: BL (gS p (k + 1)))⟩, by omega, renZ (f := gS p k) (f2 := gS p (k + 1)) hz11 (keep := 24594) ?_ ?_ ?_ hrow hgn, k + 1, x + 1, (a ++ z :: b), cl, by omega, hcl, rfl, by omega, hZ2, rfl⟩
    ·intro H; simp [posZ0 z hz11, renV_int, renV_any, renV_ref, renV_mp, hwk]
    ·intro H; simp [renV_int, nx]
    ·intro H
     rw [esG_set, esG_app, esG_cons]
     refine optAll_app (esG_ren hz11 a 0 fun y hy => ⟨((hzs y).1 (by simp [hy])).1, fun e => hza (e ▸ hy), hgn y fun e => hza (e ▸ hy)⟩) ?_
     simp only [Zd, renE, renV_int, renV_sl, (posZ0 z hz11).2.2, esG_ren hz11 b _ fun y hy => ⟨((hzs y).1 (by simp [hy])).1, fun e => hzb (e ▸ hy), hgn y fun e => hzb (e ▸ hy)⟩, hg2, List.length_append, List.length_singleton, Nat.zero_add]
   ·have hfe := findE_not (gS p k) zs 0 0 hmz
    have he : gS p k z = [] := by
     cases h : gS p k z with
     | nil => rfl
     | cons x l => exact absurd ((hzs z).2 ⟨hz11, by simp [h]⟩) hmz
    have hbz : blkZ (gS p k z) = none := by rw [he]; rfl
    rw [hbz] at hLz
    have hLn : (BL (gS p k)).set z none = BL (gS p k) := by
     refine List.ext_getElem? fun i => ?_
     rw [List.getElem?_set]
     split
     ·rename_i e; subst e; rw [hLz, if_pos (by rw [hLl]; exact hz11)]
     ·rfl
    rw [he, List.map_nil, List.nil_append] at hrow
    rw [← hLn]
    have hZ2 : ZOk (zs ++ [z]) (gS p (k + 1)) := by
     refine ⟨?_, fun y => ?_⟩
     ·rw [List.nodup_append]
      exact ⟨hnd, by simp, fun x hx y hy => by simp at hy; subst hy; exact fun e => hmz (e ▸ hx)⟩
     ·by_cases hy : y = z
      ·subst hy; simp [hz11, hg2]
      ·rw [hgn y hy, ← hzs y]; simp [hy]
    refine YG mixed hTb (zR (zO (by simp [zC h94, zC h106, rU, -Zb, ↓hshl, HH1, ho94, ho106, hwk, hfe, hLl]; rfl) ?_))
    simp only [zT, zB]
    refine YG mixed hTb (zR (zO (by simp [zC h94, zC h106, rU, -Zb, ↓hshl, HH1, ho94, ho106, hwk, hfe, hLl]; rfl) ?_))
    simp only [zT, zB]
    refine ⟨N - (k + 1), ⟨[.any, .ref 0 0 0, .any, .any, .mp 1, .any, .any, .any, .any, .any, .any, .any, .any, .int .u64 (N : Nat), .int .u64 (x + 1), .any, .any, .any, .any, .any, .any, .any, .any, .any, .any, .any, .any, .any, .any, .any, .any, .any, .any, .any, .any, .any, .any, .any, .any, .any, .any, .any, .any, .any, .any, .any, .any, .any, .any, .any, .any, .any, .any, .any], (some (.row 3 [[.int .u64 (se : Nat), .int .u64 (mi : Nat), c]]) :: some (.map (esG 0 (zs ++ [z]) (gS p (k + 1))) (cl + 1)) :: BL (gS p (k + 1)))⟩, by omega, renZ (f := gS p k) (f2 := gS p (k + 1)) hz11 (keep := 24594) ?_ ?_ ?_ hrow hgn, k + 1, x + 1, (zs ++ [z]), cl + 1, by omega, by simp [hcl], rfl, by omega, hZ2, rfl⟩
    ·intro H; simp [posZ0 z hz11, renV_int, renV_any, renV_ref, renV_mp, hwk]
    ·intro H; simp [renV_int, nx]
    ·intro H
     rw [esG_app]
     refine optAll_app (esG_ren hz11 zs 0 fun y hy => ⟨((hzs y).1 hy).1, fun e => hmz (e ▸ hy), hgn y fun e => hmz (e ▸ hy)⟩) ?_
     simp only [esG_cons, Zd, renE, renV_int, renV_sl, (posZ0 z hz11).2.2, hg2, he, List.nil_append, List.length_singleton, Nat.zero_add, hcl]; rfl
  ·have hgn := gS_no hpt
   refine cruns_skip ?_
   simp only [zT, zB]
   refine YG mixed hTb (zR (zO (by simp [zC h94, zC h106, rU, -Zb, ↓hshl, HH1, ho94, ho106, hwk]; rfl) ?_))
   simp only [zT, zB]
   refine ⟨N - (k + 1), _, by omega, ren_kill 24594, k + 1, x + 1, zs, cl, by omega, hcl, rfl, by omega, by rw [hgn]; exact ⟨hnd, hzs⟩, ?_⟩
   rw [hgn]; simp [hwk]
 ·have hlt := of_decide_eq_false hlt
  obtain rfl : N = k := by omega
  have hgt : ∀ z, gS p N z = XM cs.length z p := fun z => by rw [hN]; rfl
  obtain ⟨nI, hnI⟩ : ∃ x : Int, (cs.length : Int) = x := ⟨_, rfl⟩
  have hwn : W .i64 (nI + 1) = nI + 1 := Zz (by omega)
  unfold smallV
  rw [← hN] at h2n
  have hBg := fun z (hz : z < 11) => BL_get (gS p N) hz
  have hBl := BL_len (gS p N)
  have hglN := fun z => gS_len p N z
  have hgx : ∀ z, ∀ x ∈ gS p N z, x < 1024 := fun z x hx => by simp [gS] at hx; omega
  have HH2 := zA hnI (zA hwn (zA fx (zA cx1 cx2)))
  refine cruns_exit ?_
  simp only [zT, zB, if_true, if_false, reduceIte, Nat.reduceEqDiff, Nat.succ_ne_zero, Nat.one_ne_zero, Nat.zero_ne_one]
  refine Yd ?_
  refine Yd ?_
  refine YG mixed hTb (zR (zO (by simp [zC h94, zC h106, rU, -Zb, ↓hshl, HH1, HH2]; rfl) ?_))
  simp only [zT, zB]
  refine cruns_block ?_
  refine cruns_loop (k := cs.length + 1 - 0) (fun m σ => ∃ (i : Nat) (y : Int), y = i ∧ cs.length + 1 - i = m ∧ i ≤ cs.length + 1 ∧ firstN cs.length p (cs.length + 1 - i) i = firstN cs.length p (cs.length + 1) 0 ∧ σ = ⟨[.any, .any, .any, .any, .mp 1, .any, .any, .any, .any, .any, .any, .any, .any, .any, .any, .any, .any, .any, .any, .any, .any, .any, .any, .any, .any, .any, .any, .any, .any, .any, .any, .any, .any, .any, .any, .any, I (nI + 1), I y, .any, .any, .any, .any, .any, .any, .any, .any, .any, .any, .any, .any, .any, .any, .any, .any], (some (.row 3 [[.int .u64 (se : Nat), .int .u64 (mi : Nat), c]]) :: some (.map (esG 0 zs (gS p N)) cl) :: BL (gS p N))⟩) ⟨_, ren_kill 206158430224, 0, 0, rfl, rfl, Nat.zero_le _, rfl, by simp⟩ ?_
  rintro m σ ⟨i, y, hyi, rfl, hil, hR, rfl⟩
  refine Yd ?_
  refine YG mixed hTb (zR (zO (by simp [zC h94, zC h106, rU, -Zb, ↓hshl, HH1, HH2]; rfl) ?_))
  simp only [zT, zB]
  refine Yd ?_
  refine cruns_cond_split (x := decide (y < nI + 1)) (by simp) (fun hli => ?_) (fun hli => ?_)
  ·have hli := of_decide_eq_true hli
   have hi : i < cs.length + 1 := by omega
   have hi11 : i < 11 := by omega
   have hwi : W .i64 (y + 1) = y + 1 := Zz (by omega)
   have hst : firstN cs.length p (cs.length + 1 - i) i = if XM cs.length i p = [] then firstN cs.length p (cs.length + 1 - (i + 1)) (i + 1) else some i := by
    rw [show cs.length + 1 - i = (cs.length + 1 - (i + 1)) + 1 from by rw [Nat.add_sub_add_right]; exact Nat.succ_sub (Nat.le_of_lt_succ hi)]; simp only [firstN]
   rw [← hgt] at hst
   rw [hst] at hR
   have hbi := hBg i hi11
   have hgi := hglN i
   have hxi := hgx i
   have hmem := hzs i
   generalize hgg : gS p N i = g at *
   have hti : XM cs.length i p = g := by rw [← hgt, hgg]
   have hgl5 : g.length ≤ 1024 := by omega
   by_cases hmz : i ∈ zs
   ·have hgne : g ≠ [] := (hmem.1 hmz).2
    obtain ⟨a, b, rfl⟩ := List.append_of_mem hmz
    have hza : i ∉ a := fun h => by have := (List.nodup_append.1 hnd).2.2 i h i (by simp); exact this rfl
    have hfe := findE_at (z := i) (gS p N) b a 0 0 hza
    rw [hgg, ← hyi] at hfe
    simp only [Nat.zero_add] at hfe
    rw [if_neg hgne] at hR
    rw [← hR]
    simp only [hti]
    have hbz : blkZ g = some (.row 1 (g.map rU)) := by unfold blkZ; rw [if_neg (by simpa using hgne)]
    rw [hbz] at hbi
    have hg1 : 1 ≤ g.length := by cases g with | nil => exact absurd rfl hgne | cons x l => simp
    have he107 := fun H (hH : H[i + 2]? = some (some (Blk.row 1 (g.map rU)))) => e107_eq (tt := false) hH ⟨hg1, hgl5⟩ hxi
    have hLs : ∀ x, ((BL (gS p N)).set i x)[i]? = some x := fun x => List.getElem?_set_self (by rw [hBl]; exact hi11)
    have hsl : ((sortBy cmpB (finS g)).map fun x : Fin 1024 => rU x.1).length = g.length := by simp [sortBy_len, finS]
    have hfz : ∀ H n, Zd (Zd (frz true H (n + 1))) ((sortBy cmpB (finS g)).map fun x : Fin 1024 => rU x.1) = some ((sortBy cmpB (finS g)).map fun x : Fin 1024 => rU x.1) := fun H n => Zx _ fun r hr => Zx _ fun x hx => by
     obtain ⟨y, _, rfl⟩ := List.mem_map.1 hr
     simp only [rU, List.mem_singleton] at hx
     subst hx; rfl
    generalize ((sortBy cmpB (finS g)).map fun x : Fin 1024 => rU x.1) = S at *
    have htk : S.take g.length = S := List.take_of_length_le (by omega)
    have hsl2 : g.length ≤ S.length := by omega
    generalize BL (gS p N) = L at *
    generalize esG 0 (a ++ i :: b) (gS p N) = es at *
    have e5 : e107 [.sl (i + 2) 0 g.length false, .fn 108 [] []] (some (Blk.row 3 [[Za.int IntKind.u64 (se : Nat), Za.int IntKind.u64 (mi : Nat), c]]) :: some (Blk.map es cl) :: L) = some (.tup [], [(i + 2, some (.row 1 S))]) := he107 _ (by simpa using hbi)
    have hi13 : i + 2 < L.length + 1 + 1 := by omega
    refine cruns_skip ?_
    simp only [zT, zB]
    refine Yd ?_
    refine cruns_block ?_
    refine Yd ?_
    refine YG mixed hTb (zR (zO (by simp [zC h94, zC h106, rU, -Zb, ↓hshl, HH1, HH2, hfe, hwi]; rfl) ?_))
    simp only [zT, zB]
    refine Yd ?_
    refine YG mixed hTb (zR (zO (by simp [zC h94, zC h106, rU, -Zb, ↓hshl, HH1, HH2, hfe, hwi]; rfl) ?_))
    simp only [zT, zB]
    refine Yd ?_
    refine YG mixed hTb (zR (zO (by simp [zC h94, zC h106, rU, -Zb, ↓hshl, HH1, HH2, hfe, hwi]; rfl) ?_))
    simp only [zT, zB]
    refine cruns_cond (x := true) (by simp) ?_
    refine Yd ?_
    refine Yd ?_
    refine YG mixed hTb (zR (zO (by simp [zC h94, zC h106, rU, -Zb, ↓hshl, HH1, HH2, hfe, hwi]; rfl) ?_))
    simp only [zT, zB]
    refine cruns_cond_split (x := decide ((30 : Int) < (g.length : Int))) (by simp) (fun hbig => ?_) (fun hbig => ?_)
    ·have hbig2 : g.length > 30 := by have := of_decide_eq_true hbig; omega
     rw [if_pos hbig2]
     refine Yd ?_
     refine YG mixed hTb (zR (zO (by simp [zC h94, zC h106, rU, -Zb, ↓hshl, HH1, HH2, hfe, hwi]; rfl) ?_))
     simp only [zT, zB]
     refine cruns_ret ?_
     simp [zC h94, zC h106, rU, -Zb, ↓hshl, HH1, HH2, hfe, hwi, trim]
    ·have hbig2 : ¬ g.length > 30 := by have := of_decide_eq_false hbig; omega
     rw [if_neg hbig2]
     have HH3 := zA hfe (zA hwi (zA h107 (zA e5 hi13)))
     refine cruns_skip ?_
     simp only [zT, zB]
     refine Yd ?_
     refine YG mixed hTb (zR (zO (by simp [zC h94, zC h106, rU, -Zb, ↓hshl, HH1, HH2, callF_eff h107 rfl, ↓orc_nil, HH3]; rfl) ?_))
     simp only [zT, zB]
     refine Yd ?_
     refine YG mixed hTb (zR (zO (by simp [zC h94, zC h106, rU, -Zb, ↓hshl, HH1, HH2, callF_eff h107 rfl, ↓orc_nil, HH3]; rfl) ?_))
     simp only [zT, zB]
     refine cruns_ret ?_
     simp [zC h94, zC h106, rU, -Zb, ↓hshl, HH1, HH2, callF_eff h107 rfl, ↓orc_nil, HH3, trim, hLs, hsl2, htk, hfz]
   ·have hfe := findE_not (gS p N) zs 0 0 hmz
    rw [← hyi] at hfe
    have hg0 : g = [] := by
     cases hh : g with
     | nil => rfl
     | cons x l => exact absurd (hmem.2 ⟨hi11, by rw [hh]; simp⟩) hmz
    rw [if_pos hg0] at hR
    refine cruns_skip ?_
    simp only [zT, zB]
    refine Yd ?_
    refine cruns_block ?_
    refine Yd ?_
    refine YG mixed hTb (zR (zO (by simp [zC h94, zC h106, rU, -Zb, ↓hshl, HH1, HH2, hfe, hwi]; rfl) ?_))
    simp only [zT, zB]
    refine Yd ?_
    refine YG mixed hTb (zR (zO (by simp [zC h94, zC h106, rU, -Zb, ↓hshl, HH1, HH2, hfe, hwi]; rfl) ?_))
    simp only [zT, zB]
    refine Yd ?_
    refine YG mixed hTb (zR (zO (by simp [zC h94, zC h106, rU, -Zb, ↓hshl, HH1, HH2, hfe, hwi]; rfl) ?_))
    simp only [zT, zB]
    refine cruns_cond (x := false) (by simp) ?_
    refine cruns_skip ?_
    simp only [zT, zB]
    refine YG mixed hTb (zR (zO (by simp [zC h94, zC h106, rU, -Zb, ↓hshl, HH1, HH2, hfe, hwi]; rfl) ?_))
    simp only [zT, zB]
    exact ⟨cs.length + 1 - (i + 1), _, Nat.sub_lt_sub_left hi (Nat.lt_succ_self i), ren_kill 206158430224, i + 1, y + 1, by omega, rfl, by omega, hR, by simp [hwi]⟩
  ·have hli := of_decide_eq_false hli
   have h9 : cs.length + 1 ≤ i := by omega
   rw [Nat.sub_eq_zero_of_le h9] at hR
   have hR2 : none = firstN cs.length p (cs.length + 1) 0 := hR
   rw [← hR2]
   refine cruns_exit ?_
   simp only [zT, zB, if_true, if_false, reduceIte, Nat.reduceEqDiff, Nat.succ_ne_zero, Nat.one_ne_zero, Nat.zero_ne_one]
   refine Yd ?_
   refine YG mixed hTb (zR (zO (by simp [zC h94, zC h106, rU, -Zb, ↓hshl, HH1, HH2]; rfl) ?_))
   simp only [zT, zB]
   refine cruns_ret ?_
   simp [zC h94, zC h106, rU, -Zb, ↓hshl, HH1, HH2, trim]
end
section
attribute [local simp] ZO ZB YH Yw XI YY disj YJ XO YK ZI YM news eqB YW eqA Yx YS YQ ofCs stA Yh ZC Yl dI1 dI2 dI3 dI5 elt
attribute [local simp] st_any XZ st_agg st_tup Xw st_int Xt st_ref st_pv Xs st_sl st_vl Xu st_mp st_fn Xv XY co_any co_und co_agg co_tup XC co_int Xz co_ref co_pv Xy co_sl co_vl XA co_mp co_fn XB co_yld
attribute [local simp] Ym Zj lop Yo
def o90 : List Za → Option Za
  | [.agg [.int .u64 a, .int .u64 b, c]] => match Xx c with
    | some cs => if cs.length ≤ 10 ∧ (0 ≤ a ∧ a < 4096) ∧ (0 ≤ b ∧ b < 4096) then some (smallV cs.length fun l => explN cs l a.toNat b.toNat) else none
    | none => none
  | _ => none
theorem o90_eq {c : Za} {cs : Cs} (hc : Xx c = some cs) {a b : Nat} (h : cs.length ≤ 10) (h1 : a < 4096) (h2 : b < 4096) : o90 [.agg [.int .u64 (a : Nat), .int .u64 (b : Nat), c]] = some (smallV cs.length fun l => explN cs l a b) := by
  simp only [o90, hc]; rw [if_pos ⟨h, by omega, by omega⟩]; rfl
def rQ (p : Int × Int) : List Za := [I p.1, I p.2]
theorem wb2 (a b : Int) : wB 0 4095 [a, b] = (decide (0 ≤ a) && decide (a ≤ 4095) && decide (0 ≤ b) && decide (b ≤ 4095)) := by
  simp [wB, Bool.and_assoc]
theorem compE_eq (l : List (Int × Int)) (se mi : Int) : compE l se mi = if l.length > 10 then 5 else if (l.any fun x => !wB 0 4095 [x.1, x.2]) = true then 4 else if (!wB 0 4095 [se, mi]) = true then 3 else if se.toNat &&& mi.toNat == 0 then 0 else 6 := by
  unfold compE
  simp only [wb2]
def DB6 : Nat → Option CFn := upd DB5 90 true o90
theorem DB6_ok : Zp Tryd.prog GG DB6 := tab_upd DB5_ok fun args v ho => by
  unfold o90 at ho; split at ho <;> (try simp only [reduceCtorEq] at ho)
  rename_i se mi c
  split at ho <;> (try simp only [reduceCtorEq] at ho)
  rename_i cs hcs
  split at ho <;> (try simp only [reduceCtorEq] at ho)
  rename_i hg
  simp only [Option.some.injEq] at ho
  subst ho
  obtain ⟨x, rfl⟩ : ∃ s : Nat, se = s := ⟨se.toNat, by omega⟩
  obtain ⟨y, rfl⟩ : ∃ s : Nat, mi = s := ⟨mi.toNat, by omega⟩
  exact orc_cans (a90 DB5 DB5_ok rfl rfl rfl rfl cs c hcs ⟨hg.1, (dCauses_ok hcs).2⟩ x y (by omega) (by omega))
def o105 : List Za → Option Za
  | [.agg [.int .i64 a, .int .i64 b]] => some (.bool (!wB 0 4095 [a, b]))
  | _ => none
theorem a105 (P : Program) (T : Nat → Option CFn) (hT : T 105 = some c105) (h56 : T 56 = some { c56 with frsh := true, orc := o56 }) (a b : Int) : Zo P T 105 [.agg [I a, I b]] [] fun v h => frz true h 5 v = some (.bool (!wB 0 4095 [a, b])) := by
 have h1 : ∀ t, o56 [I 0, I 4095, .vl [[I a], [I b]] t] = some (.bool (wB 0 4095 [a, b])) := fun t => by simp [o56, Zt]
 refine Zi hT (Zk rfl) ?_
 simp only [oo, om, op, og, ci, cl, c105]
 refine zS ?_
 refine zR (zO (by simp [zC h56, h56, h1]; rfl) ?_)
 simp only [zT, zB]
 refine zS ?_
 refine zR (zO (by simp [zC h56, h56, h1]; rfl) ?_)
 simp only [zT, zB]
 refine Ze ?_
 simp [zC h56, h56, h1]
def DC1 : Nat → Option CFn := upd DB6 105 true (o105)
theorem DC1_ok : Zp Tryd.prog GG DC1 := ZJ mixed DB6_ok fun args v ho => by
  unfold o105 at ho; split at ho <;> simp at ho
  rename_i a b
  subst ho
  exact a105 Tryd.prog DB6 rfl rfl a b
theorem a115 (P : Program) (T : Nat → Option CFn) (hT : T 115 = some c115) (x : Za) (rs : List (List Za)) (hx : Zt x = some rs) (g : Nat) (a b : List Za) (r : Int) (hl : rs.length ≤ 1000) (hr : rs.all (fun r => r.length == 2 && r.all isI) = true)
  (hq : idxA (fun r => known T g (a ++ [elt r] ++ b)) 0 rs = some r) : Zo P T 115 [x, .fn g a b] [] fun v h => v = .int .i64 r ∧ h = [] := by
 have lx := ZV hx
 refine Zi hT (Zk rfl) ?_
 simp only [oo, om, op, og, ci, cl, c115]
 refine zS (zR (zO (by simp; rfl) ?_))
 simp only [zT, zB]
 refine zS (zS (zR (zO (by simp [lx, -Zb]; rfl) ?_)))
 simp only [zT, zB]
 refine zL ?_
 refine Zs (fun m σ => ∃ (k : Nat) (i : Int), i = k ∧ m = rs.length - k ∧ k ≤ rs.length ∧ idxA (fun r => known T g (a ++ [elt r] ++ b)) k (rs.drop k) = some r ∧
  σ = ⟨[x, .fn g a b, .any, .any, .any, .any, .any, I rs.length, I i, .any, .any, .any, .any, .any, .any, .any, .any, .any, .any], []⟩) ?_ (rs.length - 0) _ ⟨0, 0, rfl, rfl, Nat.zero_le _, hq, by simp⟩
 rintro m σ ⟨k, i, hik, rfl, hk, hi, rfl⟩
 have h0 : 0 ≤ i := by omega
 have htn : i.toNat = k := by omega
 refine zS (zR (zO (by simp; rfl) ?_))
 simp only [zT, zB]
 refine zS (Zf (x := decide (i < rs.length)) (by simp) (fun hlt => ?_) (fun hge => ?_))
 ·refine zK ?_
  simp only [zT, zB]
  have hlt' : k < rs.length := by have := of_decide_eq_true hlt; omega
  obtain ⟨tt, rfl⟩ := XD hx hlt'
  have hr1 := List.all_eq_true.1 hr _ (List.getElem_mem hlt')
  simp only [Bool.and_eq_true, beq_iff_eq, List.all_eq_true] at hr1
  obtain ⟨y0, y1, hrk⟩ := ints2 hr1.1 hr1.2
  rw [List.drop_eq_getElem_cons hlt'] at hi
  simp only [idxA] at hi
  refine zS (zL ?_)
  refine zS (zR (zO (by simp; rfl) ?_))
  simp only [zT, zB]
  split at hi
  ·rename_i hb
   simp at hi; rw [← hik] at hi; subst hi
   rw [hrk] at hb; simp only [elt, List.append_assoc, List.cons_append, List.nil_append] at hb
   refine zS (zR (zO (by simp [h0, htn, hlt', hrk, callF_known hb]; rfl) ?_))
   simp only [zT, zB]
   refine Zc (x := true) (by simp) ?_
   refine zS (zR (zO (by simp; rfl) ?_))
   simp only [zT, zB]
   refine Ze ?_
   simp
  ·rename_i hb
   rw [hrk] at hb; simp only [elt, List.append_assoc, List.cons_append, List.nil_append] at hb
   refine zS (zR (zO (by simp [h0, htn, hlt', hrk, callF_known hb]; rfl) ?_))
   simp only [zT, zB]
   refine Zc (x := false) (by simp) ?_
   refine zK ?_
   simp only [zT, zB]
   refine zR (zO (by simp; rfl) ?_)
   simp only [zT, zB]
   refine ⟨rs.length - (k + 1), by omega, k + 1, i + 1, by omega, rfl, by omega, hi, ?_⟩
   simp [Zz (show -1000000 ≤ i + 1 ∧ i + 1 ≤ 1000000 by omega)]
  ·simp at hi
 ·refine Zr ?_
  simp only [zT, zB, if_true]
  have hke : k = rs.length := by
   have := of_decide_eq_false hge
   omega
  subst hke
  rw [List.drop_length] at hi
  simp [idxA] at hi
  subst hi
  refine zS (zR (zO (by simp; rfl) ?_))
  simp only [zT, zB]
  refine Ze ?_
  simp
theorem a104 (P : Program) (T : Nat → Option CFn) (hT : T 104 = some c104) (hj : T 115 = some c115) (x : Za) (rs : List (List Za)) (hx : Zt x = some rs) (g : Nat) (a b : List Za) (r : Int) (hl : rs.length ≤ 1000) (hr : rs.all (fun r => r.length == 2 && r.all isI) = true)
  (hq : idxA (fun r => known T g (a ++ [elt r] ++ b)) 0 rs = some r) : Zo P T 104 [x, .fn g a b] [] fun v h => v = .bool (decide (0 ≤ r)) ∧ h = [] := by
 refine Zi hT (Zk rfl) ?_
 simp only [oo, om, op, og, ci, cl, c104]
 refine zS (zR (zO (by simp; rfl) ?_))
 simp only [zT, zB]
 refine zS (zR ?_)
 refine Yr 0 (by simp; rfl) (Yr 0 (by simp; rfl) ?_)
 refine ops_call (f := 115) (args := [x, .fn g a b]) (by simp) (by simp) (by simp) (by simp) ?_
 refine (a115 P T hj x rs hx g a b r hl hr hq).mono ?_
 rintro v h' ⟨rfl, rfl⟩
 refine zO (by simp; rfl) ?_
 simp only [zT, zB]
 refine Ze ?_
 simp
def DC2 : Nat → Option CFn := upd DC1 104 true (oCF DC1 2)
theorem DC2_ok : Zp Tryd.prog GG DC2 := ZJ mixed DC1_ok fun args v ho => by
  unfold oCF at ho; split at ho <;> (try simp at ho)
  rename_i x g a b
  split at ho <;> (try simp at ho)
  rename_i rs hx
  obtain ⟨⟨hl, hr⟩, ho⟩ := ho
  split at ho <;> simp at ho
  rename_i r hq
  subst ho
  refine (a104 Tryd.prog DC1 rfl rfl x rs hx g a b r hl (by simpa using hr) (by simpa using hq)).mono ?_
  rintro v h ⟨rfl, rfl⟩
  rfl
def newV (c : Za) (l : List (Int × Int)) (se mi : Int) : Za := if compE l se mi = 0 then .tup [.agg [.int .u64 se, .int .u64 mi, c], I 0] else .tup [.agg [.int .u64 0, .int .u64 0, .nils], I (compE l se mi)]
theorem a89 (P : Program) (T : Nat → Option CFn) (hT : T 89 = some c89) (h104 : T 104 = some { c104 with frsh := true, orc := oCF DC1 2 }) (h56 : T 56 = some { c56 with frsh := true, orc := o56 }) (c : Za) (l : List (Int × Int)) (hc : Zt c = some (l.map rQ)) (hl : l.length ≤ 1000) (se mi : Int) : Zo P T 89 [c, I se, I mi] [] fun v h => frz false h 5 v = some (newV c l se mi) := by
 have lx := ZV hc
 rw [List.length_map] at lx
 have rx := fun n d => ZY hc n d
 have fx := fun H d => ZG hc H d
 obtain ⟨cx1, cx2⟩ := ZH hc
 have hcf : oCF DC1 2 [c, .fn 105 [] []] = some (.bool (l.any fun x => !wB 0 4095 [x.1, x.2])) := by
  rw [oCF_any (p := fun r => match r with | [.int .i64 a, .int .i64 b] => !wB 0 4095 [a, b] | _ => false) hc (by simpa using hl) (by simp [isI, rQ]) (by
   intro r hr
   obtain ⟨n, _, rfl⟩ := List.mem_map.1 hr
   rfl)]
  rw [List.any_map]; rfl
 have e56 : ∀ t, o56 [I 0, I 4095, .vl [[I se], [I mi]] t] = some (.bool (wB 0 4095 [se, mi])) := fun t => by simp [o56, Zt]
 have hE := compE_eq l se mi
 refine Zi hT (Zk rfl) ?_
 simp only [oo, om, op, og, ci, cl, c89]
 have HH1 := zA h104 (zA h56 (zA lx (zA rx (zA fx (zA cx1 (zA cx2 hcf))))))
 refine zS ?_
 refine zR (zO (by simp [zC h104, zC h56, -Zb, HH1]; rfl) ?_)
 simp only [zT, zB]
 refine zS ?_
 refine zL ?_
 refine zS ?_
 refine zR (zO (by simp [zC h104, zC h56, -Zb, HH1]; rfl) ?_)
 simp only [zT, zB]
 refine Zf (x := decide ((10 : Int) < (l.length : Int))) (by simp) (fun hA => ?_) (fun hA => ?_)
 ·have hA := of_decide_eq_true hA
  rw [if_pos (by omega)] at hE
  rw [show newV c l se mi = .tup [.agg [.int .u64 0, .int .u64 0, .nils], I 5] by unfold newV; rw [hE]; rfl]
  refine zS ?_
  refine zR (zO (by simp [zC h104, zC h56, -Zb, HH1]; rfl) ?_)
  simp only [zT, zB]
  refine Ze ?_
  simp [zC h104, zC h56, -Zb, HH1]
 ·have hA := of_decide_eq_false hA
  rw [if_neg (by omega)] at hE
  refine zS ?_
  refine zR (zO (by simp [zC h104, zC h56, -Zb, HH1]; rfl) ?_)
  simp only [zT, zB]
  refine Zf (x := (l.any fun x => !wB 0 4095 [x.1, x.2])) (by simp) (fun hB => ?_) (fun hB => ?_)
  ·rw [if_pos hB] at hE
   rw [show newV c l se mi = .tup [.agg [.int .u64 0, .int .u64 0, .nils], I 4] by unfold newV; rw [hE]; rfl]
   refine zS ?_
   refine zR (zO (by simp [zC h104, zC h56, -Zb, HH1]; rfl) ?_)
   simp only [zT, zB]
   refine Ze ?_
   simp [zC h104, zC h56, -Zb, HH1]
  ·rw [hB] at hE
   simp only [Bool.false_eq_true, if_false] at hE
   refine zS ?_
   refine zR (zO (by simp [zC h104, zC h56, -Zb, HH1]; rfl) ?_)
   simp only [zT, zB]
   refine Zf (x := (!wB 0 4095 [se, mi])) (by simp) (fun hC => ?_) (fun hC => ?_)
   ·rw [if_pos hC] at hE
    rw [show newV c l se mi = .tup [.agg [.int .u64 0, .int .u64 0, .nils], I 3] by unfold newV; rw [hE]; rfl]
    refine zS ?_
    refine zR (zO (by simp [zC h104, zC h56, -Zb, HH1]; rfl) ?_)
    simp only [zT, zB]
    refine Ze ?_
    simp [zC h104, zC h56, -Zb, HH1]
   ·rw [hC] at hE
    simp only [Bool.false_eq_true, if_false] at hE
    have hC2 := hC
    rw [wb2] at hC2
    simp only [Bool.not_eq_false', Bool.and_eq_true, decide_eq_true_eq] at hC2
    obtain ⟨⟨⟨a1, a2⟩, a3⟩, a4⟩ := hC2
    obtain ⟨sn, rfl⟩ : ∃ s : Nat, se = s := ⟨se.toNat, by omega⟩
    obtain ⟨mn, rfl⟩ : ∃ s : Nat, mi = s := ⟨mi.toNat, by omega⟩
    have hand := and_i (a := sn) (b := mn) (by omega) (by omega)
    have hw1 : W .u64 (sn : Int) = sn := W_u (by omega)
    have hw2 : W .u64 (mn : Int) = mn := W_u (by omega)
    simp only [Int.toNat_natCast] at hE
    have hne : (((sn &&& mn : Nat) : Int) != 0) = !(sn &&& mn == 0) := by
     rw [bne, Bool.not_inj_iff, Bool.eq_iff_iff]; simp only [beq_iff_eq]; omega
    rcases Bool.eq_false_or_eq_true (sn &&& mn == 0) with hz | hz
    ·rw [hz] at hne
     rw [if_pos hz] at hE
     generalize ((sn &&& mn : Nat) : Int) = an at *
     rw [show newV c l sn mn = .tup [.agg [.int .u64 sn, .int .u64 mn, c], I 0] by unfold newV; rw [if_pos hE]]
     refine zS ?_
     refine zR (zO (by simp [zC h104, zC h56, -Zb, HH1, ↓hand, hne, hw1, hw2]; rfl) ?_)
     simp only [zT, zB]
     refine Zc (x := false) (by simp) ?_
     refine zK ?_
     simp only [zT, zB]
     refine zS ?_
     refine zR (zO (by simp [zC h104, zC h56, -Zb, HH1, ↓hand, hne, hw1, hw2]; rfl) ?_)
     simp only [zT, zB]
     refine Ze ?_
     simp [zC h104, zC h56, -Zb, HH1, ↓hand, hne, hw1, hw2]
    ·rw [hz] at hne
     rw [if_neg (by rw [hz]; simp)] at hE
     generalize ((sn &&& mn : Nat) : Int) = an at *
     rw [show newV c l sn mn = .tup [.agg [.int .u64 0, .int .u64 0, .nils], I 6] by unfold newV; rw [hE]; rfl]
     refine zS ?_
     refine zR (zO (by simp [zC h104, zC h56, -Zb, HH1, ↓hand, hne, hw1, hw2]; rfl) ?_)
     simp only [zT, zB]
     refine Zc (x := true) (by simp) ?_
     refine zS ?_
     refine zR (zO (by simp [zC h104, zC h56, -Zb, HH1, ↓hand, hne, hw1, hw2]; rfl) ?_)
     simp only [zT, zB]
     refine Ze ?_
     simp [zC h104, zC h56, -Zb, HH1, ↓hand, hne, hw1, hw2]
end
section
attribute [local simp] ZO ZB YH Yw XI YY disj YJ XO YK ZI YM news eqB YW eqA Yx YS YQ ofCs stA Yh ZC Yl dI1 dI2 dI3 dI5 elt
attribute [local simp] st_any XZ st_agg st_tup Xw st_int Xt st_ref st_pv Xs st_sl st_vl Xu st_mp st_fn Xv XY co_any co_und co_agg co_tup XC co_int Xz co_ref co_pv Xy co_sl co_vl XA co_mp co_fn XB co_yld
attribute [local simp] Ym Zj lop Yo
def o89 : List Za → Option Za
  | [c, .int .i64 se, .int .i64 mi] => match Zt c with
    | some rs => match Zd dI2 rs with
      | some l => if l.length ≤ 1000 then some (newV c l se mi) else none
      | none => none
    | none => none
  | _ => none
theorem o89_eq {c : Za} {l : List (Int × Int)} (hc : Zt c = some (l.map rQ)) (hl : l.length ≤ 1000) (se mi : Int) : o89 [c, I se, I mi] = some (newV c l se mi) := by
  have := optAll_map (d := dI2) (enc := rQ) (fun _ => rfl) l
  simp only [o89, hc, this]; rw [if_pos hl]
def smallR (n : Nat) (p : List Nat → Bool) : Int × List (Fin 1024) := match firstN n p (n + 1) 0 with
  | none => (9, [])
  | some k => if (XM n k p).length > 30 then (8, []) else (0, sortBy cmpB (finS (XM n k p)))
def encS (S : List (Fin 1024)) : Za := if S.isEmpty then .nils else .vl (S.map fun x : Fin 1024 => rU x.1) false
theorem firstN_ne {n : Nat} {p : List Nat → Bool} : ∀ {f k j : Nat}, firstN n p f k = some j → XM n j p ≠ [] ∧ k ≤ j ∧ j < k + f ∧ ∀ i, k ≤ i → i < j → XM n i p = []
  | 0, k, j, h => by simp [firstN] at h
  | f + 1, k, j, h => by
    simp only [firstN] at h
    split at h
    · rename_i e
      obtain ⟨h1, h2, h3, h4⟩ := firstN_ne h
      exact ⟨h1, by omega, by omega, fun i hi hj => by
        by_cases e2 : i = k
        · subst e2; exact e
        · exact h4 i (by omega) hj⟩
    · rename_i e
      simp at h; subst h
      exact ⟨e, Nat.le_refl _, by omega, fun i hi hj => absurd hj (by omega)⟩
theorem smallR_ne {n : Nat} {p : List Nat → Bool} (h : (smallR n p).1 = 0) : (smallR n p).2 ≠ [] := by
  unfold smallR at h ⊢
  split
  · rename_i e; rw [e] at h; simp at h
  · rename_i k e
    rw [e] at h
    simp only at h
    split
    · rename_i h2; rw [if_pos h2] at h; simp at h
    · intro e2
      have := congrArg List.length e2
      simp only [sortBy_len, finS, List.length_map, List.length_nil] at this
      exact (firstN_ne e).1 (List.length_eq_zero_iff.1 this)
theorem smallR_long {n : Nat} {p : List Nat → Bool} : (smallR n p).2.length ≤ 30 := by
  unfold smallR
  split
  · simp
  · split
    · simp
    · simp only [sortBy_len, finS, List.length_map]; omega
theorem smallR_err {n : Nat} {p : List Nat → Bool} (h : (smallR n p).1 ≠ 0) : (smallR n p).2 = [] := by
  unfold smallR at h ⊢
  split
  · rfl
  · rename_i k e
    rw [e] at h
    simp only at h
    split
    · rfl
    · rename_i h2; rw [if_neg h2] at h; simp at h
theorem smallV_eq (n : Nat) (p : List Nat → Bool) : smallV n p = .tup [encS (smallR n p).2, I (smallR n p).1] := by
  have h0 := @smallR_ne n p
  unfold smallV smallR at *
  generalize firstN n p (n + 1) 0 = r at h0 ⊢
  cases r with
  | none => rfl
  | some k =>
    simp only at h0 ⊢
    by_cases h2 : (XM n k p).length > 30
    · simp only [if_pos h2]; rfl
    · simp only [if_neg h2] at h0 ⊢
      have := h0 trivial
      unfold encS
      rw [if_neg (by simpa using this)]
theorem rq_rc {l : List (Int × Int)} {se mi : Int} (h : compE l se mi = 0) : l.map rQ = (YQ l).map rC := by
  unfold YQ
  rw [List.map_map]
  refine List.map_congr_left fun x hx => ?_
  have := (compE_ok h).2.1 x hx
  have e1 : ((x.1.toNat : Nat) : Int) = x.1 := Int.toNat_of_nonneg (by omega)
  have e2 : ((x.2.toNat : Nat) : Int) = x.2 := Int.toNat_of_nonneg (by omega)
  simp only [Function.comp, rQ, rC, e1, e2]
def Yb (l : List (Int × Int)) (se mi : Int) : Int × List (Fin 1024) := if compE l se mi = 0 then smallR l.length (fun x => explN (YQ l) x se.toNat mi.toNat) else (compE l se mi, [])
def openA (c : Za) (l : List (Int × Int)) (se mi : Int) : Za := if compE l se mi = 0 then .agg [.int .u64 se, .int .u64 mi, c] else .agg [.int .u64 0, .int .u64 0, .nils]
theorem openR_ne {l : List (Int × Int)} {se mi : Int} (h : (Yb l se mi).1 = 0) : (Yb l se mi).2 ≠ [] := by
  unfold Yb at h ⊢
  split
  · rename_i e; rw [if_pos e] at h; exact smallR_ne h
  · rename_i e; rw [if_neg e] at h; exact absurd h e
theorem openR_long {l : List (Int × Int)} {se mi : Int} : (Yb l se mi).2.length ≤ 30 := by
  unfold Yb
  split
  · exact smallR_long
  · simp
theorem encS_rows (S : List (Fin 1024)) : Zt (encS S) = some (S.map fun x : Fin 1024 => rU x.1) := by
  unfold encS; cases S <;> rfl
theorem openA_cells (c : Za) (l : List (Int × Int)) (se mi : Int) : ∃ a b d, openA c l se mi = .agg [a, b, d] ∧ (openA c l se mi = .agg [.int .u64 se, .int .u64 mi, c] ∨ openA c l se mi = .agg [.int .u64 0, .int .u64 0, .nils]) := by
  unfold openA; split
  · exact ⟨_, _, _, rfl, .inl rfl⟩
  · exact ⟨_, _, _, rfl, .inr rfl⟩
def o67 : List Za → Option Za
  | [c, .int .i64 se, .int .i64 mi] => match Zt c with
    | some rs => match Zd dI2 rs with
      | some l => if l.length ≤ 1000 then some (.tup [openA c l se mi, encS (Yb l se mi).2, I (Yb l se mi).1]) else none
      | none => none
    | none => none
  | _ => none
theorem o67_eq {c : Za} {l : List (Int × Int)} (hc : Zt c = some (l.map rQ)) (hl : l.length ≤ 1000) (se mi : Int) : o67 [c, I se, I mi] = some (.tup [openA c l se mi, encS (Yb l se mi).2, I (Yb l se mi).1]) := by
  have := optAll_map (d := dI2) (enc := rQ) (fun _ => rfl) l
  simp only [o67, hc, this]; rw [if_pos hl]
def DD1 : Nat → Option CFn := upd DC2 89 false (o89)
theorem DD1_ok : Zp Tryd.prog GG DD1 := ZJ mixed DC2_ok fun args v ho => by
  unfold o89 at ho; split at ho <;> (try simp only [reduceCtorEq] at ho)
  rename_i c se mi
  split at ho <;> (try simp only [reduceCtorEq] at ho)
  rename_i rs hx
  split at ho <;> (try simp only [reduceCtorEq] at ho)
  rename_i l hl
  split at ho <;> (try simp only [reduceCtorEq] at ho)
  rename_i hg
  simp only [Option.some.injEq] at ho
  subst ho
  obtain rfl : rs = l.map rQ := Xl (enc := rQ) dI2_eq hl
  exact a89 Tryd.prog DC2 rfl rfl rfl c l hx hg se mi
theorem a67 (P : Program) (T : Nat → Option CFn) (hT : T 67 = some c67) (h89 : T 89 = some { c89 with frsh := false, orc := o89 }) (h90 : T 90 = some { c90 with frsh := true, orc := o90 }) (c : Za) (l : List (Int × Int)) (hc : Zt c = some (l.map rQ)) (hl : l.length ≤ 1000) (se mi : Int) : Zo P T 67 [c, I se, I mi] [] fun v h => frz false h 5 v = some (.tup [openA c l se mi, encS (Yb l se mi).2, I (Yb l se mi).1]) := by
 have lx := ZV hc
 rw [List.length_map] at lx
 have rx := fun n d => ZY hc n d
 have fx := fun H d => ZG hc H d
 obtain ⟨cx1, cx2⟩ := ZH hc
 have h89e := o89_eq hc hl se mi
 refine Zi hT (Zk rfl) ?_
 simp only [oo, om, op, og, ci, cl, c67]
 by_cases hE : compE l se mi = 0
 ·have hcomp := compE_ok hE
  obtain ⟨sn, rfl⟩ : ∃ s : Nat, se = s := ⟨se.toNat, by omega⟩
  obtain ⟨mn, rfl⟩ : ∃ s : Nat, mi = s := ⟨mi.toNat, by omega⟩
  have hko := toCs_ok hE
  have hcc : Xx c = some (YQ l) := dCauses_of (by rw [hc, rq_rc hE]) hko.2
  have e90 : o90 [.agg [.int .u64 (sn : Nat), .int .u64 (mn : Nat), c]] = some (.tup [encS (Yb l sn mn).2, I (Yb l sn mn).1]) := by
   rw [o90_eq hcc hko.1 (by omega) (by omega), smallV_eq]
   unfold Yb; rw [if_pos hE]
   simp only [Int.toNat_natCast, YQ, List.length_map]
  have v89 : newV c l sn mn = .tup [.agg [.int .u64 (sn : Nat), .int .u64 (mn : Nat), c], I 0] := by unfold newV; rw [if_pos hE]
  have hoa : openA c l sn mn = .agg [.int .u64 (sn : Nat), .int .u64 (mn : Nat), c] := by unfold openA; rw [if_pos hE]
  rw [v89] at h89e
  rw [hoa]
  have fs := fun H d => ZG (encS_rows (Yb l sn mn).2) H d
  have rs := fun n d => ZY (encS_rows (Yb l sn mn).2) n d
  generalize encS (Yb l sn mn).2 = xs at *
  generalize (Yb l sn mn).1 = er at *
  have HH1 := zA h89 (zA h90 (zA lx (zA rx (zA fx (zA cx1 (zA cx2 (zA h89e (zA e90 (zA fs rs)))))))))
  refine zS ?_
  refine zR (zO (by simp [zC h89, zC h90, -Zb, HH1]; rfl) ?_)
  simp only [zT, zB]
  refine zS ?_
  refine zS ?_
  refine zR (zO (by simp [zC h89, zC h90, -Zb, HH1]; rfl) ?_)
  simp only [zT, zB]
  refine zS ?_
  refine zR (zO (by simp [zC h89, zC h90, -Zb, HH1]; rfl) ?_)
  simp only [zT, zB]
  refine Zc (x := true) (by simp) ?_
  refine zR (zO (by simp [zC h89, zC h90, -Zb, HH1]; rfl) ?_)
  simp only [zT, zB]
  refine zS ?_
  refine zR (zO (by simp [zC h89, zC h90, -Zb, HH1]; rfl) ?_)
  simp only [zT, zB]
  refine Ze ?_
  simp [zC h89, zC h90, -Zb, HH1]
 ·have v89 : newV c l se mi = .tup [.agg [.int .u64 0, .int .u64 0, .nils], I (compE l se mi)] := by unfold newV; rw [if_neg hE]
  have hoa : openA c l se mi = .agg [.int .u64 0, .int .u64 0, .nils] := by unfold openA; rw [if_neg hE]
  have hor : Yb l se mi = (compE l se mi, []) := by unfold Yb; rw [if_neg hE]
  rw [v89] at h89e
  rw [hoa, hor]
  generalize compE l se mi = E at *
  have hEb : (E == 0) = false := by simp [hE]
  have HH2 := zA h89 (zA h90 (zA lx (zA rx (zA fx (zA cx1 (zA cx2 (zA h89e hEb)))))))
  refine zS ?_
  refine zR (zO (by simp [zC h89, zC h90, -Zb, HH2]; rfl) ?_)
  simp only [zT, zB]
  refine zS ?_
  refine zS ?_
  refine zR (zO (by simp [zC h89, zC h90, -Zb, HH2]; rfl) ?_)
  simp only [zT, zB]
  refine zS ?_
  refine zR (zO (by simp [zC h89, zC h90, -Zb, HH2]; rfl) ?_)
  simp only [zT, zB]
  refine Zc (x := false) (by simp) ?_
  refine zK ?_
  simp only [zT, zB]
  refine zS ?_
  refine zR (zO (by simp [zC h89, zC h90, -Zb, HH2]; rfl) ?_)
  simp only [zT, zB]
  refine Ze ?_
  simp [zC h89, zC h90, -Zb, HH2, encS]
def DD2 : Nat → Option CFn := upd DD1 67 false (o67)
theorem DD2_ok : Zp Tryd.prog GG DD2 := ZJ mixed DD1_ok fun args v ho => by
  unfold o67 at ho; split at ho <;> (try simp only [reduceCtorEq] at ho)
  rename_i c se mi
  split at ho <;> (try simp only [reduceCtorEq] at ho)
  rename_i rs hx
  split at ho <;> (try simp only [reduceCtorEq] at ho)
  rename_i l hl
  split at ho <;> (try simp only [reduceCtorEq] at ho)
  rename_i hg
  simp only [Option.some.injEq] at ho
  subst ho
  obtain rfl : rs = l.map rQ := Xl (enc := rQ) dI2_eq hl
  exact a67 Tryd.prog DD1 rfl rfl rfl c l hx hg se mi
end
section
attribute [local simp] ZO ZB YH Yw XI YY disj YJ XO YK ZI YM news eqB YW eqA Yx YS YQ ofCs stA Yh ZC Yl dI1 dI2 dI3 dI5 elt
attribute [local simp] st_any XZ st_agg st_tup Xw st_int Xt st_ref st_pv Xs st_sl st_vl Xu st_mp st_fn Xv XY co_any co_und co_agg co_tup XC co_int Xz co_ref co_pv Xy co_sl co_vl XA co_mp co_fn XB co_yld
attribute [local simp] Function.comp_def List.all_append List.all_map Ym Zj frzG gather getR lim lop Yo lowA lowR okG putG putR rbB_none rbB_row resG rowAt takeG
def rL (x : Fin 1024) : List Za := [Ys (Zn x.1)]
theorem optAll_cat {α β : Type} {f : α → Option β} {l : List α} {m : List β} (h : Zd f l = some m) (r : List α) : Zd f (l ++ r) = match Zd f r with | some b => some (m ++ b) | none => none := by
  cases hr : Zd f r with
  | some b => exact optAll_app h hr
  | none =>
    induction l generalizing m with
    | nil => simpa using hr
    | cons x l ih =>
      simp only [Zd] at h
      split at h <;> simp at h
      rename_i y ys e1 e2
      simp only [List.cons_append, Zd, e1, ih e2]
theorem rL_rb (n d : Nat) (l : List (Fin 1024)) : ((l.map rL).all fun r => r.all (rb n (d + 1))) = true := by
  simp only [List.all_map, List.all_eq_true, Function.comp]
  intro x _
  intro y hy
  simp only [rL, List.mem_singleton] at hy
  subst hy
  exact ZY (Yq (Zn x.1)) n d
theorem rL_frN (n : Nat) (h : Zg) (d : Nat) (l : List (Fin 1024)) : Zd (Zd (frN n h (d + 1))) (l.map rL) = some (l.map rL) := Zx _ fun r hr => Zx _ fun x hx => by
  obtain ⟨y, _, rfl⟩ := List.mem_map.1 hr
  simp only [rL, List.mem_singleton] at hx
  subst hx
  exact frN_rb _ _ (ZY (Yq (Zn y.1)) n d)
theorem rL_frz (h : Zg) (d : Nat) (l : List (Fin 1024)) : Zd (Zd (frz false h (d + 1))) (l.map rL) = some (l.map rL) := Zx _ fun r hr => Zx _ fun x hx => by
  obtain ⟨y, _, rfl⟩ := List.mem_map.1 hr
  simp only [rL, List.mem_singleton] at hx
  subst hx
  exact ZG (Yq (Zn y.1)) h d
def explV (r : Int × List (Fin 1024)) : Za := if r.1 = 0 then .tup [.vl (r.2.map rL) false, I 0] else .tup [.nils, I r.1]
def andS : List (Fin 1024) → Nat
  | [] => 0
  | x :: l => (x :: l).foldl (fun a y => a &&& y.1) x.1
def sureV (r : Int × List (Fin 1024)) : Za := if r.1 = 0 then .tup [Ys (Zn (andS r.2)), I 0] else .tup [.nils, I r.1]
theorem openA_ok {c : Za} {l : List (Int × Int)} {se mi : Int} (h : (Yb l se mi).1 = 0) : openA c l se mi = .agg [.int .u64 se, .int .u64 mi, c] := by
  unfold Yb at h
  unfold openA
  split at h
  · rename_i e; rw [if_pos e]
  · rename_i e; exact absurd h e
def o30 : List Za → Option Za
  | [c, .int .i64 se, .int .i64 mi] => match Zt c with
    | some rs => match Zd dI2 rs with
      | some l => if l.length ≤ 1000 then some (explV (Yb l se mi)) else none
      | none => none
    | none => none
  | _ => none
theorem o30_eq {c : Za} {l : List (Int × Int)} (hc : Zt c = some (l.map rQ)) (hl : l.length ≤ 1000) (se mi : Int) : o30 [c, I se, I mi] = some (explV (Yb l se mi)) := by
  have := optAll_map (d := dI2) (enc := rQ) (fun _ => rfl) l
  simp only [o30, hc, this]; rw [if_pos hl]
def o31 : List Za → Option Za
  | [c, .int .i64 se, .int .i64 mi] => match Zt c with
    | some rs => match Zd dI2 rs with
      | some l => if l.length ≤ 1000 then some (sureV (Yb l se mi)) else none
      | none => none
    | none => none
  | _ => none
theorem o31_eq {c : Za} {l : List (Int × Int)} (hc : Zt c = some (l.map rQ)) (hl : l.length ≤ 1000) (se mi : Int) : o31 [c, I se, I mi] = some (sureV (Yb l se mi)) := by
  have := optAll_map (d := dI2) (enc := rQ) (fun _ => rfl) l
  simp only [o31, hc, this]; rw [if_pos hl]
theorem a30 (P : Program) (T : Nat → Option CFn) (hT : T 30 = some { c30 with body := annK [(58720320, [.slot 6])] [] c30.body }) (h67 : T 67 = some { c67 with frsh := false, orc := o67 }) (h68 : T 68 = some { c68 with frsh := false, orc := o68 }) (c : Za) (l : List (Int × Int)) (hc : Zt c = some (l.map rQ)) (hl : l.length ≤ 1000) (se mi : Int) : Zo P T 30 [c, I se, I mi] [] fun v h => frz false h 5 v = some (explV (Yb l se mi)) := by
 have lx := ZV hc
 rw [List.length_map] at lx
 have rx := fun n d => ZY hc n d
 have fx := fun H d => ZG hc H d
 obtain ⟨cx1, cx2⟩ := ZH hc
 have h67e := o67_eq hc hl se mi
 refine Zi hT (Zk rfl) ?_
 simp only [oo, om, op, og, ci, cl, c30, annK, lkG, lkR, reduceIte, Nat.reduceEqDiff, reduceCtorEq, List.cons.injEq, and_true, and_false, false_and, true_and]
 by_cases hR : (Yb l se mi).1 = 0
 ·rw [show explV (Yb l se mi) = _ from if_pos hR]
  have hne := openR_ne hR
  have hlg := openR_long (l := l) (se := se) (mi := mi)
  have hoa := openA_ok (c := c) hR
  rw [hoa, hR] at h67e
  generalize (Yb l se mi).2 = S at *
  have hes : encS S = .vl (S.map fun x : Fin 1024 => rU x.1) false := by unfold encS; rw [if_neg (by simpa using hne)]
  rw [hes] at h67e
  have hS1 : 1 ≤ S.length := by cases S with | nil => exact absurd rfl hne | cons x l => simp
  have HH1 := zA h67 (zA h68 (zA lx (zA rx (zA fx (zA cx1 (zA cx2 h67e))))))
  refine zS ?_
  refine zR (zO (by simp [zC h67, zC h68, -Zb, HH1]; rfl) ?_)
  simp only [zT, zB]
  refine zS ?_
  refine zR (zO (by simp [zC h67, zC h68, -Zb, HH1]; rfl) ?_)
  simp only [zT, zB]
  refine zS ?_
  refine zS ?_
  refine zR (zO (by simp [zC h67, zC h68, -Zb, HH1]; rfl) ?_)
  simp only [zT, zB]
  refine Zc (x := false) (by simp) ?_
  refine zK ?_
  simp only [zT, zB]
  refine zS ?_
  refine zS ?_
  refine zR (zO (by simp [zC h67, zC h68, -Zb, HH1]; rfl) ?_)
  simp only [zT, zB]
  refine zL ?_
  refine runs_loopG_inv (fun mm σ => ∃ (k : Nat) (i : Int), i = k ∧ S.length - k = mm ∧ k ≤ S.length ∧ ((k = 0 ∧ σ = ⟨[.any, .any, .any, .any, .any, .any, .nils, .any, .any, .any, .any, .any, .any, .any, .any, .any, .any, .any, .any, .any, .any, .any, .any, .vl (S.map fun x : Fin 1024 => rU x.1) false, I S.length, I i, .any, .any, .any, .any, .any, .any, .any, .any, .any, .any, .any], [some (.row 3 [[.int .u64 se, .int .u64 mi, c]]), none]⟩) ∨ (∃ (p : Nat) (ac : List (Fin 1024)), k = p + 1 ∧ ac = S.take k ∧ ac.length = p + 1 ∧ σ = ⟨[.any, .any, .any, .any, .any, .any, .sl 1 0 (p + 1) false, .any, .any, .any, .any, .any, .any, .any, .any, .any, .any, .any, .any, .any, .any, .any, .any, .vl (S.map fun x : Fin 1024 => rU x.1) false, I S.length, I i, .any, .any, .any, .any, .any, .any, .any, .any, .any, .any, .any], [some (.row 3 [[.int .u64 se, .int .u64 mi, c]]), some (.row 1 (ac.map rL))]⟩))) (by simp [zC h67, zC h68, -Zb, HH1] <;> first | exact ⟨rfl, rfl⟩ | rfl) (⟨0, 0, rfl, rfl, Nat.zero_le _, .inl ⟨rfl, rfl⟩⟩) ?_
  rintro mm σ ⟨k, i, hik, rfl, hkl, ⟨hk0', rfl⟩ | ⟨p, ac, hkp, hac, hacl, rfl⟩⟩
  ·refine zS ?_
   refine zR (zO (by simp [zC h67, zC h68, -Zb, HH1]; rfl) ?_)
   simp only [zT, zB]
   refine zS ?_
   refine Zf (x := decide (i < (S.length : Int))) (by simp) (fun hlt => ?_) (fun hlt => ?_)
   ·have hlt2 := of_decide_eq_true hlt
    have hk0 : k < S.length := by omega
    have hEt : S.take (k + 1) = S.take k ++ [S[k]] := List.take_succ_eq_append_getElem hk0
    have g1 : (S.map fun x : Fin 1024 => rU x.1)[k]? = some [.int .u64 (S[k].1 : Nat)] := by rw [List.getElem?_map, List.getElem?_eq_getElem hk0]; rfl
    have g2 : ∀ h, (S.map fun x : Fin 1024 => rU x.1)[k]'h = [.int .u64 (S[k].1 : Nat)] := fun h => by rw [List.getElem_map]; rfl
    have hi0 : 0 ≤ i := by omega
    have htn : i.toNat = k := by omega
    have hwi : W .i64 (i + 1) = i + 1 := Zz (by omega)
    have h68e := o68_eq (s := S[k].1) S[k].2
    have rw5 := fun n d => ZY (Yq (Zn S[k].1)) n d
    have fw5 := fun H d => ZG (Yq (Zn S[k].1)) H d
    have fn5 := fun n h d => frN_rb (n := n) (h := h) (d + 1) _ (rw5 n d)
    obtain ⟨cw1, cw2⟩ := ZH (Yq (Zn S[k].1))
    have hrl : rL S[k] = [Ys (Zn S[k].1)] := rfl
    generalize hX : S[k] = xm at *
    generalize hV : Ys (Zn xm.1) = wv at *
    have hnx : [xm] = S.take (k + 1) := by rw [hEt, hk0']; rfl
    have hap : [[wv]] = [xm].map rL := by rw [← hrl]; rfl
    have HH2 := zA hi0 (zA htn (zA hk0 (zA hX (zA hwi (zA g1 (zA g2 (zA h68e (zA rw5 (zA fw5 (zA fn5 (zA cw1 cw2)))))))))))
    refine zK ?_
    simp only [zT, zB]
    refine zS ?_
    refine zL ?_
    refine zS ?_
    refine zR (zO (by simp [zC h67, zC h68, -Zb, HH1, -List.getElem?_map, -List.getElem_map, HH2]; rfl) ?_)
    simp only [zT, zB]
    refine zR (zO (by simp [zC h67, zC h68, -Zb, HH1, -List.getElem?_map, -List.getElem_map, HH2]; rfl) ?_)
    simp only [zT, zB]
    refine zR (zO (by simp [zC h67, zC h68, -Zb, HH1, -List.getElem?_map, -List.getElem_map, HH2]; rfl) ?_)
    simp only [zT, zB]
    exact ⟨S.length - (k + 1), _, _, by omega, by simp [zC h67, zC h68, -Zb, HH1, -List.getElem?_map, -List.getElem_map, HH2] <;> first | rfl | exact ⟨rfl, rfl⟩, k + 1, i + 1, by omega, rfl, by omega, .inr ⟨0, _, by omega, hnx, rfl, by rw [← hap]⟩⟩
   ·have hlt2 := of_decide_eq_false hlt
    exact absurd hlt2 (by omega)
  ·have tk : (ac.map rL).take (p + 1) = ac.map rL := List.take_of_length_le (by simp [hacl])
   have hlac : p + 1 + 1 ≤ 1048576 := by omega
   have hr3 : ∀ e : Fin 1024, (rL e).length = 1 := fun _ => rfl
   have hst : ((ac.map rL).all fun r => r.all ZD) = true := by
    simp only [List.all_map, List.all_eq_true, Function.comp]
    intro x _
    intro y hy
    simp only [rL, List.mem_singleton] at hy
    subst hy
    exact (ZH (Yq (Zn x.1))).2
   have hfr := fun n h r => optAll_cat (rL_frN n h 4 ac) r
   have hrj := rL_rb 1 4 ac
   have hfzz := fun H d => rL_frz H d ac
   refine zS ?_
   refine zR (zO (by simp [zC h67, zC h68, -Zb, HH1, tk, hlac, hacl, hr3, ↓hst, ↓hfr, ↓hrj, ↓hfzz]; rfl) ?_)
   simp only [zT, zB]
   refine zS ?_
   refine Zf (x := decide (i < (S.length : Int))) (by simp) (fun hlt => ?_) (fun hlt => ?_)
   ·have hlt2 := of_decide_eq_true hlt
    have hk0 : k < S.length := by omega
    have hEt : S.take (k + 1) = S.take k ++ [S[k]] := List.take_succ_eq_append_getElem hk0
    have g1 : (S.map fun x : Fin 1024 => rU x.1)[k]? = some [.int .u64 (S[k].1 : Nat)] := by rw [List.getElem?_map, List.getElem?_eq_getElem hk0]; rfl
    have g2 : ∀ h, (S.map fun x : Fin 1024 => rU x.1)[k]'h = [.int .u64 (S[k].1 : Nat)] := fun h => by rw [List.getElem_map]; rfl
    have hi0 : 0 ≤ i := by omega
    have htn : i.toNat = k := by omega
    have hwi : W .i64 (i + 1) = i + 1 := Zz (by omega)
    have h68e := o68_eq (s := S[k].1) S[k].2
    have rw5 := fun n d => ZY (Yq (Zn S[k].1)) n d
    have fw5 := fun H d => ZG (Yq (Zn S[k].1)) H d
    have fn5 := fun n h d => frN_rb (n := n) (h := h) (d + 1) _ (rw5 n d)
    obtain ⟨cw1, cw2⟩ := ZH (Yq (Zn S[k].1))
    have hrl : rL S[k] = [Ys (Zn S[k].1)] := rfl
    generalize hX : S[k] = xm at *
    generalize hV : Ys (Zn xm.1) = wv at *
    have hnx : ac ++ [xm] = S.take (k + 1) := by rw [hEt, ← hac]
    have hnl : (ac ++ [xm]).length = p + 1 + 1 := by simp [hacl]
    have hap : ac.map rL ++ [[wv]] = (ac ++ [xm]).map rL := by rw [List.map_append, ← hrl]; rfl
    have HH3 := zA tk (zA hlac (zA hacl (zA hr3 (zA hi0 (zA htn (zA hk0 (zA hX (zA hwi (zA g1 (zA g2 (zA h68e (zA rw5 (zA fw5 (zA fn5 (zA cw1 cw2)))))))))))))))
    refine zK ?_
    simp only [zT, zB]
    refine zS ?_
    refine zL ?_
    refine zS ?_
    refine zR (zO (by simp [zC h67, zC h68, -Zb, HH1, ↓hst, ↓hfr, ↓hrj, ↓hfzz, -List.getElem?_map, -List.getElem_map, HH3]; rfl) ?_)
    simp only [zT, zB]
    refine zR (zO (by simp [zC h67, zC h68, -Zb, HH1, ↓hst, ↓hfr, ↓hrj, ↓hfzz, -List.getElem?_map, -List.getElem_map, HH3]; rfl) ?_)
    simp only [zT, zB]
    refine zR (zO (by simp [zC h67, zC h68, -Zb, HH1, ↓hst, ↓hfr, ↓hrj, ↓hfzz, -List.getElem?_map, -List.getElem_map, HH3]; rfl) ?_)
    simp only [zT, zB]
    exact ⟨S.length - (k + 1), _, _, by omega, by simp [zC h67, zC h68, -Zb, HH1, ↓hst, ↓hfr, ↓hrj, ↓hfzz, -List.getElem?_map, -List.getElem_map, HH3] <;> first | rfl | exact ⟨rfl, rfl⟩, k + 1, i + 1, by omega, rfl, by omega, .inr ⟨p + 1, _, by omega, hnx, hnl, by rw [← hap]⟩⟩
   ·have hlt2 := of_decide_eq_false hlt
    have hkS : k = S.length := by omega
    rw [hkS, List.take_length] at hac
    rw [← hac]
    refine Zr ?_
    simp only [zT, zB, if_true, if_false, reduceIte, Nat.reduceEqDiff, Nat.succ_ne_zero, Nat.one_ne_zero, Nat.zero_ne_one]
    refine zS ?_
    refine zR (zO (by simp [zC h67, zC h68, -Zb, HH1, tk, hlac, hacl, hr3, ↓hst, ↓hfr, ↓hrj, ↓hfzz]; rfl) ?_)
    simp only [zT, zB]
    refine Ze ?_
    simp [zC h67, zC h68, -Zb, HH1, tk, hlac, hacl, hr3, ↓hst, ↓hfr, ↓hrj, ↓hfzz, trim]
 ·rw [show explV (Yb l se mi) = _ from if_neg hR]
  have hsm : (Yb l se mi).2 = [] := by
   unfold Yb at hR ⊢
   split
   ·rename_i e; rw [if_pos e] at hR; exact smallR_err hR
   ·rfl
  rw [hsm] at h67e
  have hen : encS [] = .nils := rfl
  rw [hen] at h67e
  generalize (Yb l se mi).1 = r at *
  have hrb : (r != 0) = true := by simpa using hR
  obtain ⟨_, _, _, _, hoa⟩ := openA_cells c l se mi
  rcases hoa with hoa | hoa
  ·rw [hoa] at h67e
   have HH4 := zA h67 (zA h68 (zA lx (zA rx (zA fx (zA cx1 (zA cx2 (zA h67e hrb)))))))
   refine zS ?_
   refine zR (zO (by simp [zC h67, zC h68, -Zb, HH4]; rfl) ?_)
   simp only [zT, zB]
   refine zS ?_
   refine zR (zO (by simp [zC h67, zC h68, -Zb, HH4]; rfl) ?_)
   simp only [zT, zB]
   refine zS ?_
   refine zS ?_
   refine zR (zO (by simp [zC h67, zC h68, -Zb, HH4]; rfl) ?_)
   simp only [zT, zB]
   refine Zc (x := true) (by simp) ?_
   refine zS ?_
   refine zR (zO (by simp [zC h67, zC h68, -Zb, HH4]; rfl) ?_)
   simp only [zT, zB]
   refine Ze ?_
   simp [zC h67, zC h68, -Zb, HH4, trim]
  ·rw [hoa] at h67e
   have HH5 := zA h67 (zA h68 (zA lx (zA rx (zA fx (zA cx1 (zA cx2 (zA h67e hrb)))))))
   refine zS ?_
   refine zR (zO (by simp [zC h67, zC h68, -Zb, HH5]; rfl) ?_)
   simp only [zT, zB]
   refine zS ?_
   refine zR (zO (by simp [zC h67, zC h68, -Zb, HH5]; rfl) ?_)
   simp only [zT, zB]
   refine zS ?_
   refine zS ?_
   refine zR (zO (by simp [zC h67, zC h68, -Zb, HH5]; rfl) ?_)
   simp only [zT, zB]
   refine Zc (x := true) (by simp) ?_
   refine zS ?_
   refine zR (zO (by simp [zC h67, zC h68, -Zb, HH5]; rfl) ?_)
   simp only [zT, zB]
   refine Ze ?_
   simp [zC h67, zC h68, -Zb, HH5, trim]
def upd0 (T : Nat → Option CFn) (f g : Nat) : Option CFn :=
  if g = f then (match T f with
    | some c => some { c with frsh := false, orc := fun _ => none }
    | none => none)
  else T g
theorem tab_upd0 {P : Program} {G : Nat → Option (List Za)} {T : Nat → Option CFn} (hT : Zp P G T) {f : Nat} : Zp P G (upd0 T f) := by
  intro g cf hg
  unfold upd0 at hg
  split at hg
  · rename_i e
    subst e
    split at hg <;> simp at hg
    rename_i c hc
    subst hg
    obtain ⟨fn, b, h1, h2, h3, h4, h5, h6, h7, h8⟩ := hT g c hc
    exact ⟨fn, b, h1, h2, h3, h4, h5, h6, fun _ _ h => by simp at h, h8⟩
  · exact hT g cf hg
def DE0 : Nat → Option CFn := updG (upd0 (upd0 (upd0 DD2 30) 31) 36) 30 [(58720320, [.slot 6])] []
theorem DE0_ok : Zp Tryd.prog GG DE0 := tab_updG (tab_upd0 (tab_upd0 (tab_upd0 DD2_ok)))
def DE1 : Nat → Option CFn := upd DE0 30 false (o30)
theorem DE1_ok : Zp Tryd.prog GG DE1 := ZJ mixed DE0_ok fun args v ho => by
  unfold o30 at ho; split at ho <;> (try simp only [reduceCtorEq] at ho)
  rename_i c se mi
  split at ho <;> (try simp only [reduceCtorEq] at ho)
  rename_i rs hx
  split at ho <;> (try simp only [reduceCtorEq] at ho)
  rename_i l hl
  split at ho <;> (try simp only [reduceCtorEq] at ho)
  rename_i hg
  simp only [Option.some.injEq] at ho
  subst ho
  obtain rfl : rs = l.map rQ := Xl (enc := rQ) dI2_eq hl
  exact a30 Tryd.prog DE0 rfl rfl rfl c l hx hg se mi
end
section
attribute [local simp] ZO ZB YH Yw XI YY disj YJ XO YK ZI YM news eqB YW eqA Yx YS YQ ofCs stA Yh ZC Yl dI1 dI2 dI3 dI5 elt
attribute [local simp] st_any XZ st_agg st_tup Xw st_int Xt st_ref st_pv Xs st_sl st_vl Xu st_mp st_fn Xv XY co_any co_und co_agg co_tup XC co_int Xz co_ref co_pv Xy co_sl co_vl XA co_mp co_fn XB co_yld
attribute [local simp] Ym Zj frzG gather getR lim lop Yo lowA lowR okG putG putR rbB_none rbB_row resG rowAt takeG
theorem and_lt {a b : Nat} (ha : a < 1024) : a &&& b < 1024 := Nat.lt_of_le_of_lt Nat.and_le_left ha
def andK (S : List (Fin 1024)) (k : Nat) : Nat := (S.take k).foldl (fun a y => a &&& y.1) (S.headD 0).1
theorem andK_lt (S : List (Fin 1024)) (k : Nat) : andK S k < 1024 := by
  unfold andK
  have : ∀ (l : List (Fin 1024)) (a : Nat), a < 1024 → l.foldl (fun a y => a &&& y.1) a < 1024 := by
    intro l
    induction l with
    | nil => intro a h; exact h
    | cons x l ih => intro a h; exact ih _ (and_lt h)
  exact this _ _ (S.headD 0).2
theorem andK_succ {S : List (Fin 1024)} {k : Nat} (h : k < S.length) : andK S (k + 1) = andK S k &&& S[k].1 := by
  unfold andK
  rw [List.take_succ_eq_append_getElem h, List.foldl_append]; rfl
theorem andS_K {S : List (Fin 1024)} (h : S ≠ []) : andS S = andK S S.length := by
  cases S with
  | nil => exact absurd rfl h
  | cons x l => unfold andK; rw [List.take_length]; rfl
theorem a31 (P : Program) (T : Nat → Option CFn) (hT : T 31 = some c31) (h67 : T 67 = some { c67 with frsh := false, orc := o67 }) (h68 : T 68 = some { c68 with frsh := false, orc := o68 }) (c : Za) (l : List (Int × Int)) (hc : Zt c = some (l.map rQ)) (hl : l.length ≤ 1000) (se mi : Int) : Zo P T 31 [c, I se, I mi] [] fun v h => frz false h 5 v = some (sureV (Yb l se mi)) := by
 have lx := ZV hc
 rw [List.length_map] at lx
 have rx := fun n d => ZY hc n d
 have fx := fun H d => ZG hc H d
 obtain ⟨cx1, cx2⟩ := ZH hc
 have h67e := o67_eq hc hl se mi
 refine Zi hT (Zk rfl) ?_
 simp only [oo, om, op, og, ci, cl, c31]
 by_cases hR : (Yb l se mi).1 = 0
 ·rw [show sureV (Yb l se mi) = _ from if_pos hR]
  have hne := openR_ne hR
  have hlg := openR_long (l := l) (se := se) (mi := mi)
  have hoa := openA_ok (c := c) hR
  rw [hoa, hR] at h67e
  generalize (Yb l se mi).2 = S at *
  have hes : encS S = .vl (S.map fun x : Fin 1024 => rU x.1) false := by unfold encS; rw [if_neg (by simpa using hne)]
  rw [hes] at h67e
  have hS1 : 1 ≤ S.length := by cases S with | nil => exact absurd rfl hne | cons x l => simp
  have hk0 : 0 < S.length := by omega
  have g1 : (S.map fun x : Fin 1024 => rU x.1)[0]? = some [.int .u64 (S[0].1 : Nat)] := by rw [List.getElem?_map, List.getElem?_eq_getElem hk0]; rfl
  have g2 : ∀ h, (S.map fun x : Fin 1024 => rU x.1)[0]'h = [.int .u64 (S[0].1 : Nat)] := fun h => by rw [List.getElem_map]; rfl
  have h0 : S[0].1 = andK S 0 := by unfold andK; cases S with
   | nil => exact absurd hk0 (by simp)
   | cons x l => rfl
  rw [h0] at g1 g2
  have HH1 := zA h67 (zA h68 (zA lx (zA rx (zA fx (zA cx1 (zA cx2 (zA h67e (zA hk0 (zA g1 g2)))))))))
  refine zS ?_
  refine zR (zO (by simp [zC h67, zC h68, -Zb, -List.getElem?_map, -List.getElem_map, HH1]; rfl) ?_)
  simp only [zT, zB]
  refine zS ?_
  refine zR (zO (by simp [zC h67, zC h68, -Zb, -List.getElem?_map, -List.getElem_map, HH1]; rfl) ?_)
  simp only [zT, zB]
  refine zS ?_
  refine zS ?_
  refine zR (zO (by simp [zC h67, zC h68, -Zb, -List.getElem?_map, -List.getElem_map, HH1]; rfl) ?_)
  simp only [zT, zB]
  refine Zc (x := false) (by simp) ?_
  refine zK ?_
  simp only [zT, zB]
  refine zS ?_
  refine zR (zO (by simp [zC h67, zC h68, -Zb, -List.getElem?_map, -List.getElem_map, HH1]; rfl) ?_)
  simp only [zT, zB]
  refine zS ?_
  refine zS ?_
  refine zR (zO (by simp [zC h67, zC h68, -Zb, -List.getElem?_map, -List.getElem_map, HH1]; rfl) ?_)
  simp only [zT, zB]
  refine zL ?_
  refine Zs (fun mm σ => ∃ (k : Nat) (i : Int), i = k ∧ S.length - k = mm ∧ k ≤ S.length ∧ σ = ⟨[.any, .any, .any, .any, .any, .any, .any, .any, .any, .any, .any, .int .u64 (andK S k : Nat), .any, .any, .any, .any, .any, .any, .any, .any, .any, .any, .any, .any, .any, .any, .any, .any, .vl (S.map fun x : Fin 1024 => rU x.1) false, I S.length, I i, .any, .any, .any, .any, .any, .any, .any, .any, .any, .any], [some (.row 3 [[.int .u64 se, .int .u64 mi, c]])]⟩) ?_ (S.length - 0) _ ⟨0, 0, rfl, rfl, Nat.zero_le _, by simp⟩
  rintro mm σ ⟨k, i, hik, rfl, hkl, rfl⟩
  have HH2 := zA h67 (zA h68 (zA lx (zA rx (zA fx (zA cx1 (zA cx2 h67e))))))
  refine zS ?_
  refine zR (zO (by simp [zC h67, zC h68, -Zb, -List.getElem?_map, -List.getElem_map, HH2]; rfl) ?_)
  simp only [zT, zB]
  refine zS ?_
  refine Zf (x := decide (i < (S.length : Int))) (by simp) (fun hlt => ?_) (fun hlt => ?_)
  ·have hlt2 := of_decide_eq_true hlt
   have hk0 : k < S.length := by omega
   have g1 : (S.map fun x : Fin 1024 => rU x.1)[k]? = some [.int .u64 (S[k].1 : Nat)] := by rw [List.getElem?_map, List.getElem?_eq_getElem hk0]; rfl
   have g2 : ∀ h, (S.map fun x : Fin 1024 => rU x.1)[k]'h = [.int .u64 (S[k].1 : Nat)] := fun h => by rw [List.getElem_map]; rfl
   have hi0 : 0 ≤ i := by omega
   have htn : i.toNat = k := by omega
   have hwi : W .i64 (i + 1) = i + 1 := Zz (by omega)
   have hAl := andK_lt S k
   have hxl := S[k].2
   have hand := and_u (a := andK S k) (b := S[k].1) (by omega) (by omega)
   rw [← andK_succ hk0] at hand
   generalize S[k].1 = xm at *
   have HH3 := zA hi0 (zA htn (zA hk0 (zA hwi (zA g1 g2))))
   refine zK ?_
   simp only [zT, zB]
   refine zS ?_
   refine zL ?_
   refine zS ?_
   refine zR (zO (by simp [zC h67, zC h68, -Zb, -List.getElem?_map, -List.getElem_map, HH2, ↓hand, HH3]; rfl) ?_)
   simp only [zT, zB]
   refine zR (zO (by simp [zC h67, zC h68, -Zb, -List.getElem?_map, -List.getElem_map, HH2, ↓hand, HH3]; rfl) ?_)
   simp only [zT, zB]
   refine zR (zO (by simp [zC h67, zC h68, -Zb, -List.getElem?_map, -List.getElem_map, HH2, ↓hand, HH3]; rfl) ?_)
   simp only [zT, zB]
   exact ⟨S.length - (k + 1), by omega, k + 1, i + 1, by omega, rfl, by omega, by simp [zC h67, zC h68, -Zb, -List.getElem?_map, -List.getElem_map, HH2, ↓hand, HH3]⟩
  ·have hlt2 := of_decide_eq_false hlt
   have hkS : k = S.length := by omega
   subst hkS
   rw [← andS_K hne] at *
   have hAl : andS S < 1024 := by rw [andS_K hne]; exact andK_lt S _
   have h68e := o68_eq (s := andS S) hAl
   have rw5 := fun n d => ZY (Yq (Zn (andS S))) n d
   have fw5 := fun H d => ZG (Yq (Zn (andS S))) H d
   have fn5 := fun n h d => frN_rb (n := n) (h := h) (d + 1) _ (rw5 n d)
   obtain ⟨cw1, cw2⟩ := ZH (Yq (Zn (andS S)))
   generalize Ys (Zn (andS S)) = wv at *
   have HH4 := zA h68e (zA rw5 (zA fw5 (zA fn5 (zA cw1 cw2))))
   refine Zr ?_
   simp only [zT, zB, if_true, if_false, reduceIte, Nat.reduceEqDiff, Nat.succ_ne_zero, Nat.one_ne_zero, Nat.zero_ne_one]
   refine zS ?_
   refine zR (zO (by simp [zC h67, zC h68, -Zb, -List.getElem?_map, -List.getElem_map, HH2, HH4]; rfl) ?_)
   simp only [zT, zB]
   refine Ze ?_
   simp [zC h67, zC h68, -Zb, -List.getElem?_map, -List.getElem_map, HH2, HH4, trim]
 ·rw [show sureV (Yb l se mi) = _ from if_neg hR]
  have hsm : (Yb l se mi).2 = [] := by
   unfold Yb at hR ⊢
   split
   ·rename_i e; rw [if_pos e] at hR; exact smallR_err hR
   ·rfl
  rw [hsm] at h67e
  have hen : encS [] = .nils := rfl
  rw [hen] at h67e
  generalize (Yb l se mi).1 = r at *
  have hrb : (r != 0) = true := by simpa using hR
  obtain ⟨_, _, _, _, hoa⟩ := openA_cells c l se mi
  rcases hoa with hoa | hoa
  ·rw [hoa] at h67e
   have HH5 := zA h67 (zA h68 (zA lx (zA rx (zA fx (zA cx1 (zA cx2 (zA h67e hrb)))))))
   refine zS ?_
   refine zR (zO (by simp [zC h67, zC h68, -Zb, HH5]; rfl) ?_)
   simp only [zT, zB]
   refine zS ?_
   refine zR (zO (by simp [zC h67, zC h68, -Zb, HH5]; rfl) ?_)
   simp only [zT, zB]
   refine zS ?_
   refine zS ?_
   refine zR (zO (by simp [zC h67, zC h68, -Zb, HH5]; rfl) ?_)
   simp only [zT, zB]
   refine Zc (x := true) (by simp) ?_
   refine zS ?_
   refine zR (zO (by simp [zC h67, zC h68, -Zb, HH5]; rfl) ?_)
   simp only [zT, zB]
   refine Ze ?_
   simp [zC h67, zC h68, -Zb, HH5, trim]
  ·rw [hoa] at h67e
   have HH6 := zA h67 (zA h68 (zA lx (zA rx (zA fx (zA cx1 (zA cx2 (zA h67e hrb)))))))
   refine zS ?_
   refine zR (zO (by simp [zC h67, zC h68, -Zb, HH6]; rfl) ?_)
   simp only [zT, zB]
   refine zS ?_
   refine zR (zO (by simp [zC h67, zC h68, -Zb, HH6]; rfl) ?_)
   simp only [zT, zB]
   refine zS ?_
   refine zS ?_
   refine zR (zO (by simp [zC h67, zC h68, -Zb, HH6]; rfl) ?_)
   simp only [zT, zB]
   refine Zc (x := true) (by simp) ?_
   refine zS ?_
   refine zR (zO (by simp [zC h67, zC h68, -Zb, HH6]; rfl) ?_)
   simp only [zT, zB]
   refine Ze ?_
   simp [zC h67, zC h68, -Zb, HH6, trim]
def DE2 : Nat → Option CFn := upd DE1 31 false (o31)
theorem DE2_ok : Zp Tryd.prog GG DE2 := ZJ mixed DE1_ok fun args v ho => by
  unfold o31 at ho; split at ho <;> (try simp only [reduceCtorEq] at ho)
  rename_i c se mi
  split at ho <;> (try simp only [reduceCtorEq] at ho)
  rename_i rs hx
  split at ho <;> (try simp only [reduceCtorEq] at ho)
  rename_i l hl
  split at ho <;> (try simp only [reduceCtorEq] at ho)
  rename_i hg
  simp only [Option.some.injEq] at ho
  subst ho
  obtain rfl : rs = l.map rQ := Xl (enc := rQ) dI2_eq hl
  exact a31 Tryd.prog DE1 rfl rfl rfl c l hx hg se mi
end
section
attribute [local simp] ZO ZB YH Yw XI YY disj YJ XO YK ZI YM news eqB YW eqA Yx YS YQ ofCs stA Yh ZC Yl dI1 dI2 dI3 dI5 elt
attribute [local simp] st_any XZ st_agg st_tup Xw st_int Xt st_ref st_pv Xs st_sl st_vl Xu st_mp st_fn Xv XY co_any co_und co_agg co_tup XC co_int Xz co_ref co_pv Xy co_sl co_vl XA co_mp co_fn XB co_yld
attribute [local simp] Ym Zj lop Yo
def o34 : List Za → Option Za
  | [x, y] => match dNs x, dNs y with
    | some a, some b => if a.length ≤ 1000 ∧ b.length ≤ 1000 then some (.bool (a == b)) else none
    | _, _ => none
  | _ => none
theorem a34 (P : Program) (T : Nat → Option CFn) (hT : T 34 = some c34) (x y : Za) (a b : List Nat) (hx : dNs x = some a) (hy : dNs y = some b) (ha : a.length ≤ 1000) (hb : b.length ≤ 1000) : Zo P T 34 [x, y] [] fun v h => frz true h 5 v = some (.bool (a == b)) := by
 have lx := dNs_len hx
 have ly := dNs_len hy
 refine Zi hT (Zk rfl) ?_
 simp only [oo, om, op, og, ci, cl, c34]
 refine zS ?_
 refine zR (zO (by simp [lx, ly, -Zb]; rfl) ?_)
 simp only [zT, zB]
 refine zS ?_
 refine zS ?_
 refine zR (zO (by simp [lx, ly, -Zb]; rfl) ?_)
 simp only [zT, zB]
 by_cases hL : a.length = b.length
 ·refine Zc (x := false) (by simp [hL] <;> omega) ?_
  refine zK ?_
  simp only [zT, zB]
  refine zS ?_
  refine zS ?_
  refine zR (zO (by simp [lx, ly, -Zb]; rfl) ?_)
  simp only [zT, zB]
  refine zL ?_
  refine Zs (fun m σ => ∃ (k : Nat) (i : Int), i = k ∧ a.length - k = m ∧ k ≤ a.length ∧ (a.drop k == b.drop k) = (a == b) ∧ σ = ⟨[x, y, .any, .any, .any, I i, .any, .any, .any, .any, .any, .any, .any, .any, .any, .any, .any, .any, .any, .any, .any, .any, .any, .any, .any, .any], []⟩) ?_ (a.length - 0) _ ⟨0, 0, rfl, rfl, Nat.zero_le _, rfl, by simp⟩
  rintro m σ ⟨k, i, hik, rfl, hkl, hR, rfl⟩
  refine zS ?_
  refine zS ?_
  refine zR (zO (by simp [lx, ly, -Zb]; rfl) ?_)
  simp only [zT, zB]
  refine Zf (x := decide (i < (a.length : Int))) (by simp) (fun hlt => ?_) (fun hlt => ?_)
  ·have hlt := of_decide_eq_true hlt
   have hk0 : k < a.length := by omega
   have hkb : k < b.length := by omega
   obtain ⟨t1, rfl⟩ := dNs_get hx hk0
   obtain ⟨t2, rfl⟩ := dNs_get hy hkb
   have g1 : (a.map rN)[k]? = some (rN a[k]) := by rw [List.getElem?_map, List.getElem?_eq_getElem hk0]; rfl
   have g1' : ∀ h, (a.map rN)[k]'h = rN a[k] := fun h => by simp
   have g2 : (b.map rN)[k]? = some (rN b[k]) := by rw [List.getElem?_map, List.getElem?_eq_getElem hkb]; rfl
   have g2' : ∀ h, (b.map rN)[k]'h = rN b[k] := fun h => by simp
   have hi0 : 0 ≤ i := by omega
   have htn : i.toNat = k := by omega
   have hwi : W .i64 (i + 1) = i + 1 := Zz (by omega)
   rw [List.drop_eq_getElem_cons hk0, List.drop_eq_getElem_cons hkb, List.cons_beq_cons] at hR
   generalize a[k] = u at *
   generalize b[k] = v at *
   have HH1 := zA lx (zA ly (zA hi0 (zA htn (zA hk0 (zA hkb (zA hwi (zA g1 (zA g1' (zA g2 g2')))))))))
   refine zK ?_
   simp only [zT, zB]
   refine zS ?_
   refine zL ?_
   refine zS ?_
   refine ZU (by simp (maxSteps := 3000000) [-Zb, -List.getElem?_map, -List.getElem_map, rN, HH1]; rfl) ?_
   simp only [zT, zB]
   by_cases hE : u = v
   ·have hab : (u == v) = true := by simpa using hE
    rw [hab, Bool.true_and] at hR
    subst hE
    refine Zc (x := false) (by simp) ?_
    refine zK ?_
    simp only [zT, zB]
    refine zR (zO (by simp [-Zb, -List.getElem?_map, -List.getElem_map, rN, HH1]; rfl) ?_)
    simp only [zT, zB]
    exact ⟨a.length - (k + 1), by omega, k + 1, i + 1, by omega, rfl, by omega, hR, by simp [-Zb, -List.getElem?_map, -List.getElem_map, rN, HH1]⟩
   ·have hab : (u == v) = false := by simpa using hE
    rw [hab, Bool.false_and] at hR
    rw [← hR]
    refine Zc (x := true) (by simp <;> omega) ?_
    refine zS ?_
    refine zR (zO (by simp [-Zb, -List.getElem?_map, -List.getElem_map, rN, HH1]; rfl) ?_)
    simp only [zT, zB]
    refine Ze ?_
    simp [-Zb, -List.getElem?_map, -List.getElem_map, rN, HH1]
  ·have hlt := of_decide_eq_false hlt
   obtain rfl : k = a.length := by omega
   rw [List.drop_length, hL, List.drop_length] at hR
   rw [← hR]
   refine Zr ?_
   simp only [zT, zB, if_true, if_false, reduceIte, Nat.reduceEqDiff, Nat.succ_ne_zero, Nat.one_ne_zero, Nat.zero_ne_one]
   refine zS ?_
   refine zR (zO (by simp [lx, ly, -Zb]; rfl) ?_)
   simp only [zT, zB]
   refine Ze ?_
   simp [lx, ly, -Zb]
 ·have hab : (a == b) = false := by rw [beq_eq_false_iff_ne]; rintro rfl; exact hL rfl
  rw [hab]
  refine Zc (x := true) (by simp [hL] <;> omega) ?_
  refine zS ?_
  refine zR (zO (by simp [lx, ly, -Zb]; rfl) ?_)
  simp only [zT, zB]
  refine Ze ?_
  simp [lx, ly, -Zb]
def DG2 : Nat → Option CFn := upd DE2 34 true (o34)
theorem DG2_ok : Zp Tryd.prog GG DG2 := ZJ mixed DE2_ok fun args v ho => by
  unfold o34 at ho; split at ho <;> (try simp only [reduceCtorEq] at ho)
  rename_i x y
  split at ho <;> (try simp only [reduceCtorEq] at ho)
  rename_i a b hx hy
  split at ho <;> (try simp only [reduceCtorEq] at ho)
  rename_i hg
  simp only [Option.some.injEq] at ho
  subst ho
  exact a34 Tryd.prog DE2 rfl x y a b hx hy hg.1 hg.2
def DG3 : Nat → Option CFn := DG2
theorem DG3_ok : Zp Tryd.prog GG DG3 := DG2_ok
end
section
attribute [local simp] ZO ZB YH Yw XI YY disj YJ XO YK ZI YM news eqB YW eqA Yx YS YQ ofCs stA Yh ZC Yl dI1 dI2 dI3 dI5 elt
attribute [local simp] st_any XZ st_agg st_tup Xw st_int Xt st_ref st_pv Xs st_sl st_vl Xu st_mp st_fn Xv XY co_any co_und co_agg co_tup XC co_int Xz co_ref co_pv Xy co_sl co_vl XA co_mp co_fn XB co_yld
attribute [local simp] Ym Zj lop Yo
def DH1 : Nat → Option CFn := DG3
theorem DH1_ok : Zp Tryd.prog GG DH1 := DG3_ok
def DH2 : Nat → Option CFn := DH1
theorem DH2_ok : Zp Tryd.prog GG DH2 := DH1_ok
end
section
attribute [local simp] ZO ZB YH Yw XI YY disj YJ XO YK ZI YM news eqB YW eqA Yx YS YQ ofCs stA Yh ZC Yl dI1 dI2 dI3 dI5 elt
attribute [local simp] st_any XZ st_agg st_tup Xw st_int Xt st_ref st_pv Xs st_sl st_vl Xu st_mp st_fn Xv XY co_any co_und co_agg co_tup XC co_int Xz co_ref co_pv Xy co_sl co_vl XA co_mp co_fn XB co_yld
attribute [local simp] Ym Zj frzG gather getR lim lop Yo lowA lowR okG putG putR rbB_none rbB_row resG rowAt takeG
theorem a29 (P : Program) (T : Nat → Option CFn) (hT : T 29 = some c29) (c : Za) (l : List (Int × Int)) (hc : Zt c = some (l.map rQ)) (hl : l.length ≤ 1000) : Zo P T 29 [c] [] fun v h => frz false h 5 v = some (.vl (l.map rQ) l.isEmpty) := by
 have lx := ZV hc
 rw [List.length_map] at lx
 refine Zi hT (Zk rfl) ?_
 simp only [oo, om, op, og, ci, cl, c29]
 rcases l with _ | ⟨p, l⟩
 ·rw [List.map_nil] at hc
  have hcc : c = .nils ∨ ∃ t, c = .vl [] t := by
   cases c <;> simp [Zt] at hc ⊢ <;> first | exact hc | trivial
  rcases hcc with rfl | ⟨t, rfl⟩
  ·refine zS ?_
   refine zR (zO (by simp [lx, -Zb]; rfl) ?_)
   simp only [zT, zB]
   refine zS ?_
   refine zR (zO (by simp [lx, -Zb]; rfl) ?_)
   simp only [zT, zB]
   refine Ze ?_
   simp [lx, -Zb, trim, appK, Zt]
  ·refine zS ?_
   refine zR (zO (by simp [lx, -Zb]; rfl) ?_)
   simp only [zT, zB]
   refine zS ?_
   refine zR (zO (by simp [lx, -Zb]; rfl) ?_)
   simp only [zT, zB]
   refine Ze ?_
   simp [lx, -Zb, trim, appK, Zt]
 ·obtain ⟨t1, rfl⟩ := XD hc (k := 0) (by simp)
  have hr2 : ((p :: l).map rQ).all (fun r => r.length == 2) = true := by simp [rQ]
  have hst : ((p :: l).map rQ).all (fun r => r.all ZD) = true := by simp [rQ]
  have hfz : ∀ H n, Zd (Zd (frz false H (n + 1))) ((p :: l).map rQ) = some ((p :: l).map rQ) := fun H n => Zx _ fun r hr => Zx _ fun x hx => by
   obtain ⟨y, _, rfl⟩ := List.mem_map.1 hr
   simp only [rQ, List.mem_cons, List.not_mem_nil, or_false] at hx
   rcases hx with rfl | rfl <;> rfl
  have htk : ((p :: l).map rQ).take ((p :: l).length) = (p :: l).map rQ := List.take_of_length_le (by simp)
  have hlen : ((p :: l).map rQ).length = (p :: l).length := by simp
  have hpos : 0 < (p :: l).length := by simp
  have hLn : ¬ (p :: l) = [] := by simp
  have hie : (p :: l).isEmpty = false := rfl
  have hl6 : (p :: l).length ≤ 1048576 := by omega
  generalize (p :: l) = L at *
  have HH1 := zA lx (zA hr2 (zA hst (zA hfz (zA htk (zA hpos (zA hLn (zA hie hl6)))))))
  refine zS ?_
  refine zR (zO (by simp [-Zb, HH1]; rfl) ?_)
  simp only [zT, zB]
  refine zS ?_
  refine zR (zO (by simp [-Zb, HH1]; rfl) ?_)
  simp only [zT, zB]
  refine Ze ?_
  simp [-Zb, HH1, trim, appK, Zt]
def o29 : List Za → Option Za
  | [c] => match Zt c with
    | some rs => match Zd dI2 rs with
      | some l => if l.length ≤ 1000 then some (.vl (l.map rQ) l.isEmpty) else none
      | none => none
    | none => none
  | _ => none
theorem o29_eq {c : Za} {l : List (Int × Int)} (hc : Zt c = some (l.map rQ)) (hl : l.length ≤ 1000) : o29 [c] = some (.vl (l.map rQ) l.isEmpty) := by
  have := optAll_map (d := dI2) (enc := rQ) (fun _ => rfl) l
  simp only [o29, hc, this]; rw [if_pos hl]
def DI1 : Nat → Option CFn := upd DH2 29 false (o29)
theorem DI1_ok : Zp Tryd.prog GG DI1 := ZJ mixed DH2_ok fun args v ho => by
  unfold o29 at ho; split at ho <;> (try simp only [reduceCtorEq] at ho)
  rename_i c
  split at ho <;> (try simp only [reduceCtorEq] at ho)
  rename_i rs hx
  split at ho <;> (try simp only [reduceCtorEq] at ho)
  rename_i l hl
  split at ho <;> (try simp only [reduceCtorEq] at ho)
  rename_i hg
  simp only [Option.some.injEq] at ho
  subst ho
  obtain rfl : rs = l.map rQ := Xl (enc := rQ) dI2_eq hl
  exact a29 Tryd.prog DH2 rfl c l hx hg
end
section
attribute [local simp] ZO ZB YH Yw XI YY disj YJ XO YK ZI YM news eqB YW eqA Yx YS YQ ofCs stA Yh ZC Yl dI1 dI2 dI3 dI5 elt
attribute [local simp] st_any XZ st_agg st_tup Xw st_int Xt st_ref st_pv Xs st_sl st_vl Xu st_mp st_fn Xv XY co_any co_und co_agg co_tup XC co_int Xz co_ref co_pv Xy co_sl co_vl XA co_mp co_fn XB co_yld
attribute [local simp] Ym Zj lop Yo
def mB (cs : Cs) (l : List Nat) (s : Nat) : Bool := l.any fun i => (cM cs i).testBit s
def fB (cs : Cs) (l : List Nat) (se mi s : Nat) : Bool := !(se.testBit s && !mayR cs l s || mi.testBit s && mB cs l s)
theorem explR_fB (cs : Cs) (l : List Nat) (se mi : Nat) : explR cs l se mi = (List.range 12).all (fB cs l se mi) := rfl
@[local simp] theorem mB_nil (cs : Cs) (s : Nat) : mB cs [] s = false := rfl
@[local simp] theorem mayR_nil (cs : Cs) (s : Nat) : mayR cs [] s = false := rfl
def DJ1 : Nat → Option CFn := DI1
theorem DJ1_ok : Zp Tryd.prog GG DJ1 := DI1_ok
end
end
end Go.Proofs.YtpebmjeomlgmdaaDoor.Tab
namespace Go.Abs
open Go
noncomputable section
def dropE (sp : List Za → Option Za) (args : List Za) (h : Zg) : Option (Za × List (Nat × Option Blk)) :=
 match Zd (frz false (onlyJ (ptrs [] args) 0 h) 5) args with
 | some ass => match sp ass with
  | some v => if rb 0 5 v = true ∧ (ptrs [] args).all (fun i => decide (i < h.length)) = true then some (v, (ptrs [] args).map fun i => (i, none)) else none
  | none => none
 | none => none
section
variable {P : Program} {G : Nat → Option (List Za)} {T : Nat → Option CFn} {E : Env} {h : Zg} {w : World}
end
end
end Go.Abs
namespace Go.Proofs.YtpebmjeomlgmdaaDoor.Tab
open Go Go.Abs Go.Proofs
set_option maxRecDepth 100000
set_option maxHeartbeats 4000000
set_option linter.unusedSimpArgs false
set_option linter.unusedVariables false
section
attribute [local simp] Yp ZZ Xi Xj Yu Yt Xk YE YO Yj Zd XX Xd YD Xf Xb YC Yi XR XT YZ YB YA Yz Xe Xa Xc XS XU slE XF YV ZX Zy Xo List.range_succ List.range_zero List.range'_succ List.range'_zero ZN ZL Zq ZQ ZA ZE YX ZS dop CV.ev Ya Zm Zv YL XP Yk ZK Zu Zl Out.v Xq List.replicate_succ zT zB arI Zw Abs.rowAt Xm allV toV toC ofV ofC Builtin.min_ Builtin.min2 Builtin.max_ Builtin.max2 Xg Xh XW XQ Xn ZM Yf Yg Ye Zb
section
attribute [local simp] ZO ZB YH Yw XI YY disj YJ XO YK ZI YM news eqB YW eqA Yx YS YQ ofCs stA Yh ZC Yl dI1 dI2 dI3 dI5 elt
attribute [local simp] st_any XZ st_agg st_tup Xw st_int Xt st_ref st_pv Xs st_sl st_vl Xu st_mp st_fn Xv XY co_any co_und co_agg co_tup XC co_int Xz co_ref co_pv Xy co_sl co_vl XA co_mp co_fn XB co_yld
attribute [local simp] List.all_append Ym Zj dropE frzG gather getR lim lop Yo lowA lowR okG onlyJ ptrs putG putH putR rbB_none rbB_row resG rowAt setH takeG
theorem rN_frz (h : Zg) (d : Nat) (l : List Nat) : Zd (Zd (frz false h (d + 1))) (l.map rN) = some (l.map rN) := Zx _ fun r hr => Zx _ fun x hx => by
  obtain ⟨y, _, rfl⟩ := List.mem_map.1 hr
  simp only [rN, List.mem_singleton] at hx
  subst hx; rfl
theorem rN_frN (n : Nat) (h : Zg) (d : Nat) (l : List Nat) : Zd (Zd (frN n h (d + 1))) (l.map rN) = some (l.map rN) := Zx _ fun r hr => Zx _ fun x hx => by
  obtain ⟨y, _, rfl⟩ := List.mem_map.1 hr
  simp only [rN, List.mem_singleton] at hx
  subst hx; rfl
end
end
end Go.Proofs.YtpebmjeomlgmdaaDoor.Tab
namespace Go.Proofs.YtpebmjeomlgmdaaDoor.Tab
open Go Go.Abs Go.Proofs
set_option maxRecDepth 100000
set_option maxHeartbeats 4000000
set_option linter.unusedSimpArgs false
set_option linter.unusedVariables false
noncomputable section
attribute [local simp] Yp ZZ Xi Xj Yu Yt Xk YE YO Yj Zd XX Xd YD Xf Xb YC Yi XR XT YZ YB YA Yz Xe Xa Xc XS XU slE XF YV ZX Zy Xo List.range_succ List.range_zero List.range'_succ List.range'_zero ZN ZL Zq ZQ ZA ZE YX ZS dop CV.ev Ya Zm Zv YL XP Yk ZK Zu Zl Out.v Xq List.replicate_succ zT zB arI Zw Abs.rowAt Xm allV toV toC ofV ofC Builtin.min_ Builtin.min2 Builtin.max_ Builtin.max2 Xg Xh XW XQ Xn ZM Yf Yg Ye Zb
section
attribute [local simp] ZO ZB YH Yw XI YY disj YJ XO YK ZI YM news eqB YW eqA Yx YS YQ ofCs stA Yh ZC Yl dI1 dI2 dI3 dI5 elt
attribute [local simp] st_any XZ st_agg st_tup Xw st_int Xt st_ref st_pv Xs st_sl st_vl Xu st_mp st_fn Xv XY co_any co_und co_agg co_tup XC co_int Xz co_ref co_pv Xy co_sl co_vl XA co_mp co_fn XB co_yld
def DM0 : Nat → Option CFn := DJ1
theorem DM0_ok : Zp Tryd.prog GG DM0 := DJ1_ok
def DM1 : Nat → Option CFn := DM0
theorem DM1_ok : Zp Tryd.prog GG DM1 := DM0_ok
end
section
attribute [local simp] ZO ZB YH Yw XI YY disj YJ XO YK ZI YM news eqB YW eqA Yx YS YQ ofCs stA Yh ZC Yl dI1 dI2 dI3 dI5 elt
attribute [local simp] st_any XZ st_agg st_tup Xw st_int Xt st_ref st_pv Xs st_sl st_vl Xu st_mp st_fn Xv XY co_any co_und co_agg co_tup XC co_int Xz co_ref co_pv Xy co_sl co_vl XA co_mp co_fn XB co_yld
attribute [local simp] List.all_append Ym Zj dropE frzG gather getR lim lop Yo lowA lowR okG onlyJ ptrs putG putH putR rbB_none rbB_row resG rowAt setH takeG
def foundR (cs : Cs) (se mi : Nat) : List (List Nat) := foundS cs.length fun l => explR cs l se mi
def DO0 : Nat → Option CFn := DM1
theorem DO0_ok : Zp Tryd.prog GG DO0 := DM1_ok
def DO1 : Nat → Option CFn := DO0
theorem DO1_ok : Zp Tryd.prog GG DO1 := DO0_ok
end
section
attribute [local simp] ZO ZB YH Yw XI YY disj YJ XO YK ZI YM news eqB YW eqA Yx YS YQ ofCs stA Yh ZC Yl dI1 dI2 dI3 dI5 elt
attribute [local simp] st_any XZ st_agg st_tup Xw st_int Xt st_ref st_pv Xs st_sl st_vl Xu st_mp st_fn Xv XY co_any co_und co_agg co_tup XC co_int Xz co_ref co_pv Xy co_sl co_vl XA co_mp co_fn XB co_yld
attribute [local simp] Ym Zj lop Yo
def lawL (l : List (Int × Int)) (se mi : Int) : Int × List (List Nat) :=
  if compE l se mi = 0 then
    (if (foundR (YQ l) se.toNat mi.toNat).length = 0 then (9, []) else if (foundR (YQ l) se.toNat mi.toNat).length > 30 then (8, []) else (0, foundR (YQ l) se.toNat mi.toNat))
  else (compE l se mi, [])
def DP1 : Nat → Option CFn := DO1
theorem DP1_ok : Zp Tryd.prog GG DP1 := DO1_ok
end
section
attribute [local simp] ZO ZB YH Yw XI YY disj YJ XO YK ZI YM news eqB YW eqA Yx YS YQ ofCs stA Yh ZC Yl dI1 dI2 dI3 dI5 elt
attribute [local simp] st_any XZ st_agg st_tup Xw st_int Xt st_ref st_pv Xs st_sl st_vl Xu st_mp st_fn Xv XY co_any co_und co_agg co_tup XC co_int Xz co_ref co_pv Xy co_sl co_vl XA co_mp co_fn XB co_yld
attribute [local simp] List.all_append Ym Zj frzG gather getR lim lop Yo lowA lowR okG putG putR rbB_none rbB_row resG rowAt takeG
def inAll (S : List (List Nat)) (i : Nat) : Bool := S.all fun s => s.contains i
def sureR (n : Nat) (S : List (List Nat)) : List Nat := (List.range n).filter (inAll S)
@[local simp] theorem inAll_nil (i : Nat) : inAll [] i = true := rfl
def DP2 : Nat → Option CFn := DP1
theorem DP2_ok : Zp Tryd.prog GG DP2 := DP1_ok
def DP3 : Nat → Option CFn := DP2
theorem DP3_ok : Zp Tryd.prog GG DP3 := DP2_ok
end
end
end Go.Proofs.YtpebmjeomlgmdaaDoor.Tab
namespace Go.Proofs.YtpebmjeomlgmdaaDoor.Tab
open Go Go.Abs Go.Proofs
set_option linter.unusedSimpArgs false
set_option linter.unusedVariables false
def bitS (S : List (Fin 1024)) : List (List Nat) := S.map fun x : Fin 1024 => Zn x.1
theorem setsOf_len {n k : Nat} (p : List Nat → Bool) (hn : n ≤ 10) : (XM n k p).length = (setsOf n k p).length := taken_len p hn
theorem first_eq {n : Nat} (hn : n ≤ 10) (p : List Nat → Bool) : ∀ (f k : Nat), firstS n p f k = match firstN n p f k with
    | none => []
    | some j => setsOf n j p
  | 0, k => rfl
  | f + 1, k => by
    have hl := setsOf_len (k := k) p hn
    simp only [firstS, firstN]
    by_cases h : setsOf n k p = []
    · have h2 : XM n k p = [] := by rw [h] at hl; exact List.length_eq_zero_iff.1 hl
      rw [if_pos h, if_pos h2]; exact first_eq hn p f (k + 1)
    · have h2 : ¬ XM n k p = [] := fun e => by rw [e] at hl; exact h (List.length_eq_zero_iff.1 hl.symm)
      rw [if_neg h, if_neg h2]
theorem toCs_len (l : List (Int × Int)) : (YQ l).length = l.length := by simp [YQ]
theorem p_eq {l : List (Int × Int)} {se mi : Int} (h : compE l se mi = 0) : (fun x => explN (YQ l) x se.toNat mi.toNat) = fun x => explR (YQ l) x se.toNat mi.toNat := by
  funext x
  have := (compE_ok h).2.2.1
  exact expl_eq (by omega) (by omega)
theorem open_law (l : List (Int × Int)) (se mi : Int) : (Yb l se mi).1 = (lawL l se mi).1 ∧ bitS (Yb l se mi).2 = (lawL l se mi).2 := by
  unfold Yb lawL
  by_cases h : compE l se mi = 0
  · rw [if_pos h, if_pos h]
    have hn := (compE_ok h).1
    rw [p_eq h]
    unfold foundR foundS smallR
    rw [toCs_len, first_eq hn]
    cases e : firstN l.length (fun x => explR (YQ l) x se.toNat mi.toNat) (l.length + 1) 0 with
    | none => simp [bitS]
    | some k =>
      have hne := (firstN_ne e).1
      have hl := setsOf_len (k := k) (fun x => explR (YQ l) x se.toNat mi.toNat) hn
      have h0 : ¬ (setsOf l.length k fun x => explR (YQ l) x se.toNat mi.toNat).length = 0 := fun h => hne (List.length_eq_zero_iff.1 (hl.trans h))
      simp only
      rw [if_neg h0, ← hl]
      split
      · exact ⟨rfl, rfl⟩
      · exact ⟨rfl, sets_sort hn _⟩
  · rw [if_neg h, if_neg h]; exact ⟨rfl, rfl⟩
theorem lawL_mem {l : List (Int × Int)} {se mi : Int} : ∀ s ∈ (lawL l se mi).2, s.length ≤ 10 ∧ s.Pairwise (· < ·) ∧ ∀ x ∈ s, x < l.length := by
  intro s hs
  unfold lawL at hs
  split at hs
  · rename_i h
    have hn := (compE_ok h).1
    split at hs
    · simp at hs
    · split at hs
      · simp at hs
      · simp only [foundR, foundS] at hs
        rw [toCs_len, first_eq hn] at hs
        split at hs
        · simp at hs
        · rename_i j e
          have hj := (firstN_ne e).2.2.1
          simp only [setsOf, List.mem_filter] at hs
          obtain ⟨m, e, h1, h2, h3⟩ := (mem_sets List.Pairwise.nil (by simp)).1 hs.1
          rw [List.nil_append] at e
          subst e
          exact ⟨by omega, h2, h3⟩
  · simp at hs
theorem andK_bit {S : List (Fin 1024)} (hS : S ≠ []) (i : Nat) : ∀ k, k ≤ S.length → (andK S k).testBit i = ((S.headD 0).1.testBit i && (S.take k).all fun x => x.1.testBit i)
  | 0, _ => by simp [andK]
  | k + 1, h => by
    rw [andK_succ (by omega), Nat.testBit_and, andK_bit hS i k (by omega), List.take_succ_eq_append_getElem (by omega : k < S.length), List.all_append, Bool.and_assoc]
    simp
theorem andS_bit {S : List (Fin 1024)} (hS : S ≠ []) (i : Nat) : (andS S).testBit i = S.all fun x => x.1.testBit i := by
  rw [andS_K hS, andK_bit hS i _ (Nat.le_refl _), List.take_length]
  cases S with
  | nil => exact absurd rfl hS
  | cons x l => simp [Bool.and_assoc]
theorem inAll_bits {S : List (Fin 1024)} {i : Nat} (hi : i < 10) : inAll (bitS S) i = S.all fun x => x.1.testBit i := by
  unfold inAll bitS
  rw [List.all_map]
  congr 1
  funext x
  simp only [Function.comp]
  rw [Bool.eq_iff_iff, List.contains_iff_mem, mem_bits]
  exact ⟨fun h => h.2, fun h => ⟨hi, h⟩⟩
theorem sure_eq {n : Nat} (hn : n ≤ 10) {S : List (Fin 1024)} (hS : S ≠ []) (hb : ∀ s ∈ bitS S, ∀ x ∈ s, x < n) : Zn (andS S) = sureR n (bitS S) := by
  refine sorted_ext (fun x => Nat.lt_irrefl x) (fun x y z => Nat.lt_trans) (bits_asc _) (List.Pairwise.filter _ List.pairwise_lt_range) fun i => ?_
  rw [mem_bits, andS_bit hS]
  unfold sureR
  rw [List.mem_filter, List.mem_range]
  constructor
  · rintro ⟨h1, h2⟩
    refine ⟨?_, by rw [inAll_bits h1]; exact h2⟩
    obtain ⟨x, hx⟩ := List.exists_mem_of_ne_nil S hS
    have h3 := List.all_eq_true.1 h2 x hx
    exact hb (Zn x.1) (List.mem_map.2 ⟨x, hx, rfl⟩) i (mem_bits.2 ⟨h1, h3⟩)
  · rintro ⟨h1, h2⟩
    have h3 : i < 10 := by omega
    exact ⟨h3, by rw [← inAll_bits h3]; exact h2⟩
theorem expl_law (l : List (Int × Int)) (se mi : Int) : explV (Yb l se mi) = if (lawL l se mi).1 = 0 then .tup [.vl ((lawL l se mi).2.map fun s => [Ys s]) false, I 0] else .tup [.nils, I (lawL l se mi).1] := by
  obtain ⟨h1, h2⟩ := open_law l se mi
  unfold explV
  rw [h1, ← h2]
  have e : (Yb l se mi).2.map rL = (bitS (Yb l se mi).2).map fun s => [Ys s] := by unfold bitS; rw [List.map_map]; rfl
  rw [e]
theorem lawL_n {l : List (Int × Int)} {se mi : Int} (h : (lawL l se mi).1 = 0) : l.length ≤ 10 := by
  unfold lawL at h
  split at h
  · rename_i e; exact (compE_ok e).1
  · rename_i e; exact absurd h e
theorem sure_law (l : List (Int × Int)) (se mi : Int) : sureV (Yb l se mi) = if (lawL l se mi).1 = 0 then .tup [Ys (sureR l.length (lawL l se mi).2), I 0] else .tup [.nils, I (lawL l se mi).1] := by
  obtain ⟨h1, h2⟩ := open_law l se mi
  unfold sureV
  rw [h1]
  by_cases h : (lawL l se mi).1 = 0
  · rw [if_pos h, if_pos h, sure_eq (lawL_n h) (openR_ne (h1.trans h)) (by rw [h2]; exact fun s hs => (lawL_mem s hs).2.2), h2]
  · rw [if_neg h, if_neg h]
end Go.Proofs.YtpebmjeomlgmdaaDoor.Tab
namespace Go.Proofs.YtpebmjeomlgmdaaDoor.Tab
open Go Go.Abs Go.Proofs
set_option linter.unusedSimpArgs false
set_option linter.unusedVariables false
theorem shl_u {a k : Nat} (hk : k ≤ 63) (h : a <<< k < 9223372036854775808) : shI .shl .i64 (a : Int) (k : Int) = some (.int .i64 ((a <<< k : Nat) : Int)) := by
  have hm : min k 64 = k := by omega
  have hb : IntKind.bits .i64 = 64 := rfl
  simp only [shI, hb, Int.toNat_natCast, hm]
  rw [if_neg (by omega)]
  have e : (a : Int) * 2 ^ k = ((a <<< k : Nat) : Int) := by rw [Nat.shiftLeft_eq]; norm_cast
  rw [e, W_i h]
theorem ldN_le {a b : Nat} (ha : a < 9223372036854775808) : ldN a b ≤ a := by
  unfold ldN
  have h : (BitVec.ofNat 64 a &&& ~~~ BitVec.ofNat 64 b).toNat = (BitVec.ofNat 64 a).toNat &&& (~~~ BitVec.ofNat 64 b).toNat := BitVec.toNat_and _ _
  rw [h, BitVec.toNat_ofNat, Nat.mod_eq_of_lt (by omega)]
  exact Nat.and_le_left
theorem not_i {a b : Nat} (ha : a < 9223372036854775808) : arI .andNot .i64 (a : Int) (b : Int) = some (.int .i64 ((ldN a b : Nat) : Int)) := by
  show some (Za.int .i64 (W .i64 ((BitVec.ofInt 64 (a : Int) &&& ~~~ BitVec.ofInt 64 (b : Int)).toNat : Int))) = _
  rw [ofInt_nat, ofInt_nat]
  have := ldN_le (b := b) ha
  show some (Za.int .i64 (W .i64 ((ldN a b : Nat) : Int))) = _
  rw [W_i (by omega)]
def u8t (t i : Nat) : Bool := match shI .shr .u8 (t : Int) (i : Int) with
  | some (.int .u8 x) => (match arI .and .u8 x 1 with
    | some (.int .u8 y) => (y == 1) == t.testBit i
    | _ => false)
  | _ => false
theorem u8_all : allN 256 (fun t => allN 8 fun i => u8t t i) = true := by decide +kernel
theorem u8_bit {t i : Nat} (ht : t < 256) (hi : i < 8) : ∃ x y : Int, shI .shr .u8 (t : Int) (i : Int) = some (.int .u8 x) ∧ arI .and .u8 x 1 = some (.int .u8 y) ∧ (y == 1) = t.testBit i := by
  have h := allN_get (allN_get u8_all t ht) i hi
  unfold u8t at h
  split at h
  · rename_i x hx
    split at h
    · rename_i y hy
      exact ⟨x, y, hx, hy, by simpa using h⟩
    · simp at h
  · simp at h
abbrev R4 := Nat × Nat × Nat × Nat
def r4 (v : R4) : List Za := [.int .u8 (v.1 : Nat), .int .u8 (v.2.1 : Nat), .int .u8 (v.2.2.1 : Nat), .int .u8 (v.2.2.2 : Nat)]
def R4Ok (v : R4) : Prop := v.1 < 256 ∧ v.2.1 < 256 ∧ v.2.2.1 < 256 ∧ v.2.2.2 < 256
def byC (v : R4) : Nat × Nat := (((((v.1 ||| v.2.1 <<< 8) &&& 585) &&& v.2.2.1) <<< 1) &&& 4095, ((v.2.2.1 ||| v.2.2.2 <<< 8) &&& 3510) &&& 4095)
def toldC (rs : List R4) : Cs := (rs.take 8).map byC
theorem byC_ok (v : R4) : (byC v).1 < 4096 ∧ (byC v).2 < 4096 := ⟨Nat.lt_of_le_of_lt Nat.and_le_right (by decide), Nat.lt_of_le_of_lt Nat.and_le_right (by decide)⟩
theorem toldC_len (rs : List R4) : (toldC rs).length = min 8 rs.length := by unfold toldC; simp
theorem toldC_ok (rs : List R4) : CsOk (toldC rs) := by
  refine ⟨by rw [toldC_len]; omega, fun x hx => ?_⟩
  obtain ⟨v, _, rfl⟩ := List.mem_map.1 hx
  exact byC_ok v
def YT (n t : Nat) : List Nat := (List.range n).filter fun i => t.testBit i
theorem trueL_succ (n t : Nat) : YT (n + 1) t = YT n t ++ (if t.testBit n = true then [n] else []) := by
  unfold YT
  rw [List.range_succ, List.filter_append]
  simp only [List.filter_cons, List.filter_nil]
theorem trueL_asc (n t : Nat) : (YT n t).Pairwise (· < ·) := List.Pairwise.filter _ List.pairwise_lt_range
theorem trueL_mem {n t i : Nat} (h : i ∈ YT n t) : i < n := by unfold YT at h; simp at h; exact h.1
theorem trueL_len (n t : Nat) : (YT n t).length ≤ n := by
  have := List.length_filter_le (fun i => t.testBit i) (List.range n)
  rw [List.length_range] at this; exact this
theorem mustL_app (cs : Cs) (l : List Nat) (i : Nat) : YF cs (l ++ [i]) = YF cs l ||| cM cs i := by unfold YF; rw [List.foldl_append]; rfl
theorem allL_app (cs : Cs) (l : List Nat) (i : Nat) : YP cs (l ++ [i]) = (YP cs l ||| cM cs i) ||| (cs.getD i (0, 0)).2 := by
  unfold YP cM; rw [List.foldl_append, Nat.or_assoc]; rfl
theorem must_all {cs : Cs} {l : List Nat} {i : Nat} (h : (YF cs l).testBit i = true) : (YP cs l).testBit i = true := by
  rw [mustL_bit, List.any_eq_true] at h
  rw [allL_bit, List.any_eq_true]
  obtain ⟨x, hx, h2⟩ := h
  refine ⟨x, hx, ?_⟩
  unfold cA
  rw [Nat.testBit_or]
  unfold cM at h2
  rw [h2]; rfl
def foundB (cs : Cs) (T : List Nat) (l1 : Nat) : Nat := YF cs T ||| (YP cs T &&& l1)
theorem foundB_lt {cs : Cs} (h : CsOk cs) (T : List Nat) (l1 : Nat) : foundB cs T l1 < 4096 := Nat.or_lt_two_pow (n := 12) (mustL_lt h T) (Nat.lt_of_le_of_lt Nat.and_le_left (allL_lt h T))
theorem foundB_all {cs : Cs} {T : List Nat} {l1 i : Nat} (h : (foundB cs T l1).testBit i = true) : (YP cs T).testBit i = true := by
  unfold foundB at h
  rw [Nat.testBit_or, Nat.testBit_and] at h
  cases h2 : (YF cs T).testBit i with
  | true => exact must_all h2
  | false => rw [h2] at h; simp at h; exact h.1
def seenB (cs : Cs) (T : List Nat) (l0 l1 : Nat) : Nat := foundB cs T l1 &&& l0
def missB (cs : Cs) (T : List Nat) (l0 l1 : Nat) : Nat := ldN (l0 &&& 4095) (foundB cs T l1)
theorem seenB_lt {cs : Cs} (h : CsOk cs) (T : List Nat) (l0 l1 : Nat) : seenB cs T l0 l1 < 4096 := Nat.lt_of_le_of_lt Nat.and_le_left (foundB_lt h T l1)
theorem miss_small (l0 : Nat) : l0 &&& 4095 < 4096 := Nat.lt_of_le_of_lt Nat.and_le_right (by decide)
theorem missB_lt {cs : Cs} (T : List Nat) (l0 l1 : Nat) : missB cs T l0 l1 < 4096 := by
  have h1 := miss_small l0
  exact Nat.lt_of_le_of_lt (ldN_le (by omega)) h1
theorem missB_bit {cs : Cs} (h : CsOk cs) {T : List Nat} {l0 l1 i : Nat} (hb : (missB cs T l0 l1).testBit i = true) : (foundB cs T l1).testBit i = false := by
  unfold missB at hb
  rw [ldN_bit (by have := miss_small l0; omega) (by have := foundB_lt h T l1; omega)] at hb
  simp at hb; exact hb.2
theorem seen_miss {cs : Cs} (h : CsOk cs) (T : List Nat) (l0 l1 : Nat) : seenB cs T l0 l1 &&& missB cs T l0 l1 = 0 := by
  refine Nat.eq_of_testBit_eq fun i => ?_
  rw [Nat.testBit_and, Nat.zero_testBit]
  cases hm : (missB cs T l0 l1).testBit i with
  | false => simp
  | true =>
    have := missB_bit h hm
    unfold seenB
    rw [Nat.testBit_and, this]; rfl
theorem true_expl {cs : Cs} (h : CsOk cs) (T : List Nat) (l0 l1 : Nat) : explR cs T (seenB cs T l0 l1) (missB cs T l0 l1) = true := by
  rw [← expl_eq (seenB_lt h T l0 l1) (missB_lt T l0 l1)]
  unfold explN
  rw [Bool.and_eq_true, subN_iff, beq_iff_eq]
  constructor
  · intro i hi
    unfold seenB at hi
    rw [Nat.testBit_and] at hi
    simp at hi
    exact foundB_all hi.1
  · refine Nat.eq_of_testBit_eq fun i => ?_
    rw [Nat.testBit_and, Nat.zero_testBit]
    cases hm : (missB cs T l0 l1).testBit i with
    | false => rfl
    | true =>
      have := missB_bit h hm
      unfold foundB at this
      rw [Nat.testBit_or] at this
      simp at this
      simp [this.1]
def toI (cs : Cs) : List (Int × Int) := cs.map fun c => ((c.1 : Int), (c.2 : Int))
theorem toI_rq (cs : Cs) : (toI cs).map rQ = cs.map rC := by unfold toI; rw [List.map_map]; rfl
theorem toI_cs (cs : Cs) : YQ (toI cs) = cs := by
  unfold YQ toI
  rw [List.map_map]
  conv => rhs; rw [← List.map_id cs]
  refine List.map_congr_left fun x _ => ?_
  simp only [Function.comp, Int.toNat_natCast, id]
theorem toI_len (cs : Cs) : (toI cs).length = cs.length := by simp [toI]
theorem toI_comp {cs : Cs} (h : CsOk cs) {se mi : Nat} (h1 : se < 4096) (h2 : mi < 4096) (h3 : se &&& mi = 0) : compE (toI cs) se mi = 0 := by
  unfold compE
  rw [if_neg (by rw [toI_len]; have := h.1; omega)]
  rw [if_neg]
  · rw [if_neg]
    · simp only [Int.toNat_natCast, h3]; rfl
    · simp; omega
  · simp only [toI, List.any_map, Function.comp_def]
    rw [Bool.not_eq_true, List.any_eq_false]
    intro x hx
    have := h.2 x hx
    simp; omega
theorem asc_len {n : Nat} {l : List Nat} (ha : l.Pairwise (· < ·)) (hb : ∀ i ∈ l, i < n) : l.length ≤ n := by
  have e : l = (List.range n).filter fun i => decide (i ∈ l) := by
    refine sorted_ext (fun x => Nat.lt_irrefl x) (fun x y z => Nat.lt_trans) ha (List.Pairwise.filter _ List.pairwise_lt_range) fun x => ?_
    simp
    exact hb x
  have := List.length_filter_le (fun i => decide (i ∈ l)) (List.range n)
  rw [List.length_range, ← e] at this; exact this
structure LeastOk (cs : Cs) (se mi : Nat) (S : List (List Nat)) : Prop where
  ne : S ≠ []
  len : S.length ≤ 30
  asc : S.Pairwise (· < ·)
  mem : ∀ s ∈ S, s.Pairwise (· < ·) ∧ (∀ i ∈ s, i < cs.length) ∧ explR cs s se mi = true
  least : ∀ s ∈ S, ∀ T : List Nat, T.Pairwise (· < ·) → (∀ i ∈ T, i < cs.length) → explR cs T se mi = true → s.length ≤ T.length
theorem law_least {cs : Cs} (h : CsOk cs) {se mi : Nat} (h1 : se < 4096) (h2 : mi < 4096) (h3 : se &&& mi = 0) {T : List Nat} (ha : T.Pairwise (· < ·)) (hb : ∀ i ∈ T, i < cs.length) (he : explR cs T se mi = true) :
    ((lawL (toI cs) se mi).1 = 8) ∨ ((lawL (toI cs) se mi).1 = 0 ∧ LeastOk cs se mi (lawL (toI cs) se mi).2) := by
  have hc := toI_comp h h1 h2 h3
  have hin : ∀ {U : List Nat}, U.Pairwise (· < ·) → (∀ i ∈ U, i < cs.length) → explR cs U se mi = true → U ∈ setsOf cs.length U.length fun l => explR cs l se mi := fun {U} ha hb he => by
    unfold setsOf
    rw [List.mem_filter, mem_sets List.Pairwise.nil (by simp)]
    exact ⟨⟨U, by simp, rfl, ha, hb⟩, he⟩
  have hT := asc_len ha hb
  have hne : foundR cs se mi ≠ [] := by
    intro e
    unfold foundR foundS at e
    have := firstS_nil e T.length (by omega) (by omega)
    have h4 := hin ha hb he
    rw [this] at h4; simp at h4
  unfold lawL
  rw [if_pos hc, toI_cs]
  simp only [Int.toNat_natCast]
  rw [if_neg (fun e => hne (List.length_eq_zero_iff.1 e))]
  split
  · exact .inl rfl
  · rename_i h30
    refine .inr ⟨rfl, ?_⟩
    simp only
    have hf := hne
    unfold foundR foundS at hf
    obtain ⟨j, _, _, e, hmin⟩ := firstS_mem hf
    have e2 : foundR cs se mi = setsOf cs.length j fun l => explR cs l se mi := e
    have hm : ∀ s ∈ foundR cs se mi, s.length = j ∧ s.Pairwise (· < ·) ∧ (∀ i ∈ s, i < cs.length) ∧ explR cs s se mi = true := by
      intro s hs
      rw [e2] at hs
      unfold setsOf at hs
      rw [List.mem_filter, mem_sets List.Pairwise.nil (by simp)] at hs
      obtain ⟨⟨m, em, h5, h6, h7⟩, h8⟩ := hs
      rw [List.nil_append] at em
      subst em
      exact ⟨h5, h6, h7, h8⟩
    refine ⟨hne, by omega, by rw [e2]; exact List.Pairwise.filter _ (sets_asc j []), fun s hs => (hm s hs).2, fun s hs U h5 h6 h7 => ?_⟩
    rw [(hm s hs).1]
    rcases Nat.lt_or_ge U.length j with h8 | h8
    · have h9 := hin h5 h6 h7
      rw [hmin U.length (by omega) h8] at h9; simp at h9
    · exact h8
theorem least_len {cs : Cs} {se mi : Nat} {S : List (List Nat)} (h : LeastOk cs se mi S) {s t : List Nat} (hs : s ∈ S) (ht : t ∈ S) : s.length = t.length := by
  have h1 := h.mem s hs
  have h2 := h.mem t ht
  have h3 := h.least s hs t h2.1 h2.2.1 h2.2.2
  have h4 := h.least t ht s h1.1 h1.2.1 h1.2.2
  omega
end Go.Proofs.YtpebmjeomlgmdaaDoor.Tab
namespace Go.Proofs.YtpebmjeomlgmdaaDoor
open Go Go.Abs Go.Proofs Go.ChangeShapes Go.WideShapes Go.ChangeAt Go.RowKit
theorem u8_nat {n : Int} (h : (Lit.int .u8 n).wf = true) : ∃ m : Nat, n = m ∧ m < 256 := by
  have e1 : IntKind.u8.min = 0 := rfl
  have e2 : IntKind.u8.max = 255 := rfl
  simp only [Lit.wf, e1, e2, Bool.and_eq_true, decide_eq_true_eq] at h
  exact ⟨n.toNat, by omega, by omega⟩
theorem u16_nat {n : Int} (h : (Lit.int .u16 n).wf = true) : ∃ m : Nat, n = m ∧ m < 65536 := by
  have e1 : IntKind.u16.min = 0 := rfl
  have e2 : IntKind.u16.max = 65535 := rfl
  simp only [Lit.wf, e1, e2, Bool.and_eq_true, decide_eq_true_eq] at h
  exact ⟨n.toNat, by omega, by omega⟩
theorem fits_u8 {Ls : List Ly} {xs : List Za} (h : FitsR (.int .u8 :: Ls) xs) : ∃ (a : Nat) (ys : List Za), xs = .int .u8 (a : Nat) :: ys ∧ a < 256 ∧ FitsR Ls ys := by
  obtain ⟨x, ys, rfl, hx, h1⟩ := fitsR_cons h
  obtain ⟨a, rfl, ha⟩ := fits_int hx
  obtain ⟨m, rfl, hm⟩ := u8_nat ha
  exact ⟨m, ys, rfl, hm, h1⟩
theorem fits_u16 {Ls : List Ly} {xs : List Za} (h : FitsR (.int .u16 :: Ls) xs) : ∃ (a : Nat) (ys : List Za), xs = .int .u16 (a : Nat) :: ys ∧ a < 65536 ∧ FitsR Ls ys := by
  obtain ⟨x, ys, rfl, hx, h1⟩ := fitsR_cons h
  obtain ⟨a, rfl, ha⟩ := fits_int hx
  obtain ⟨m, rfl, hm⟩ := u16_nat ha
  exact ⟨m, ys, rfl, hm, h1⟩
theorem fits_nil0 {xs : List Za} (h : FitsR [] xs) : xs = [] := List.length_eq_zero_iff.1 h.1
theorem fits_16 {xs : List Za} (h : FitsR [.int .u16, .int .u16] xs) : ∃ a b : Nat, xs = [.int .u16 (a : Nat), .int .u16 (b : Nat)] ∧ a < 65536 ∧ b < 65536 := by
  obtain ⟨a, ys, rfl, ha, h⟩ := fits_u16 h
  obtain ⟨b, ys, rfl, hb, h⟩ := fits_u16 h
  obtain rfl := fits_nil0 h
  exact ⟨a, b, rfl, ha, hb⟩
theorem fits_case {xs : List Za} (h : FitsR [.sl [.int .u8, .int .u8, .int .u8, .int .u8], .int .u8] xs) : ∃ (x : Za) (t : Nat) (rs : List Tab.R4), xs = [x, .int .u8 (t : Nat)] ∧ t < 256 ∧ Zt x = some (rs.map Tab.r4) ∧ ∀ v ∈ rs, Tab.R4Ok v := by
  obtain ⟨x, ys, rfl, hx, h⟩ := fitsR_cons h
  obtain ⟨t, ys, rfl, ht, h⟩ := fits_u8 h
  obtain rfl := fits_nil0 h
  obtain ⟨rs, hx, hrs⟩ := fits_rows hx
  have hb4 : ∀ r ∈ rs, ∃ v : Tab.R4, r = Tab.r4 v ∧ Tab.R4Ok v := fun r hr => by
    obtain ⟨p, ys, rfl, hp, h⟩ := fits_u8 (hrs r hr)
    obtain ⟨q, ys, rfl, hq, h⟩ := fits_u8 h
    obtain ⟨s, ys, rfl, hs, h⟩ := fits_u8 h
    obtain ⟨u, ys, rfl, hu, h⟩ := fits_u8 h
    obtain rfl := fits_nil0 h
    exact ⟨(p, q, s, u), rfl, hp, hq, hs, hu⟩
  obtain ⟨vs, rfl, hvs⟩ : ∃ vs : List Tab.R4, rs = vs.map Tab.r4 ∧ ∀ v ∈ vs, Tab.R4Ok v := by
    clear hx hrs
    induction rs with
    | nil => exact ⟨[], rfl, by simp⟩
    | cons r rs ih =>
      obtain ⟨v, rfl, hv⟩ := hb4 r (by simp)
      obtain ⟨vs, rfl, hvs⟩ := ih fun r hr => hb4 r (by simp [hr])
      exact ⟨v :: vs, rfl, fun w hw => by
        rcases List.mem_cons.1 hw with rfl | hw
        · exact hv
        · exact hvs w hw⟩
  refine ⟨x, t, vs, rfl, ht, ?_, hvs⟩
  rcases hx with ⟨rfl, h0⟩ | ⟨t, rfl⟩
  · show some [] = some _
    exact congrArg some h0.symm
  · rfl
end Go.Proofs.YtpebmjeomlgmdaaDoor
namespace Go.Proofs.YtpebmjeomlgmdaaDoor.Tab
open Go Go.Abs Go.Proofs
set_option maxRecDepth 100000
set_option maxHeartbeats 4000000
set_option linter.unusedSimpArgs false
set_option linter.unusedVariables false
section
attribute [local simp] Yp ZZ Xi Xj Yu Yt Xk YE YO Yj Zd XX Xd YD Xf Xb YC Yi XR XT YZ YB YA Yz Xe Xa Xc XS XU slE XF YV ZX Zy Xo List.range_succ List.range_zero List.range'_succ List.range'_zero ZN ZL Zq ZQ ZA ZE YX ZS dop CV.ev Ya Zm Zv YL XP Yk ZK Zu Zl Out.v Xq List.replicate_succ zT zB arI Zw Abs.rowAt Xm allV toV toC ofV ofC Builtin.min_ Builtin.min2 Builtin.max_ Builtin.max2 Xg Xh XW XQ Xn ZM Yf Yg Ye Zb
section
attribute [local simp] ZO ZB YH Yw XI YY disj YJ XO YK ZI YM news eqB YW eqA Yx YS YQ ofCs stA Yh ZC Yl dI1 dI2 dI3 dI5 elt
attribute [local simp] st_any XZ st_agg st_tup Xw st_int Xt st_ref st_pv Xs st_sl st_vl Xu st_mp st_fn Xv XY co_any co_und co_agg co_tup XC co_int Xz co_ref co_pv Xy co_sl co_vl XA co_mp co_fn XB co_yld
attribute [local simp] Ym Zj frzG gather getR lim lop Yo lowA lowR okG putG putR rbB_none rbB_row resG rowAt takeG
theorem Esets_rows (S : List (List Nat)) : Zt (.vl (S.map fun s => [Ys s]) false) = some (S.map fun s => [Ys s]) := rfl
theorem sureR_len (n : Nat) (S : List (List Nat)) : (sureR n S).length ≤ n := by
  have := List.length_filter_le (inAll S) (List.range n)
  rw [List.length_range] at this; exact this
theorem sureR_mem {n : Nat} {S : List (List Nat)} : ∀ i ∈ sureR n S, i < n := fun i h => by
  unfold sureR at h; simp at h; exact h.1
end
end
end Go.Proofs.YtpebmjeomlgmdaaDoor.Tab
namespace Go.Proofs.YtpebmjeomlgmdaaDoor.Tab
open Go Go.Abs Go.Proofs
set_option maxRecDepth 100000
set_option maxHeartbeats 4000000
set_option linter.unusedSimpArgs false
set_option linter.unusedVariables false
noncomputable section
attribute [local simp] Yp ZZ Xi Xj Yu Yt Xk YE YO Yj Zd XX Xd YD Xf Xb YC Yi XR XT YZ YB YA Yz Xe Xa Xc XS XU slE XF YV ZX Zy Xo List.range_succ List.range_zero List.range'_succ List.range'_zero ZN ZL Zq ZQ ZA ZE YX ZS dop CV.ev Ya Zm Zv YL XP Yk ZK Zu Zl Out.v Xq List.replicate_succ zT zB arI Zw Abs.rowAt Xm allV toV toC ofV ofC Builtin.min_ Builtin.min2 Builtin.max_ Builtin.max2 Xg Xh XW XQ Xn ZM Yf Yg Ye Zb
section
attribute [local simp] ZO ZB YH Yw XI YY disj YJ XO YK ZI YM news eqB YW eqA Yx YS YQ ofCs stA Yh ZC Yl dI1 dI2 dI3 dI5 elt
attribute [local simp] st_any XZ st_agg st_tup Xw st_int Xt st_ref st_pv Xs st_sl st_vl Xu st_mp st_fn Xv XY co_any co_und co_agg co_tup XC co_int Xz co_ref co_pv Xy co_sl co_vl XA co_mp co_fn XB co_yld
attribute [local simp] Ym Zj lim lop Yo rbB_row
def leftN (cs : Cs) (S : List Nat) (a b : Nat) : Nat := (S.filter fun s => explN cs (Zn s) a b).length
theorem leftN_succ {cs : Cs} {S : List Nat} {a b k : Nat} (h : k < S.length) : leftN cs (S.take (k + 1)) a b = leftN cs (S.take k) a b + (if explN cs (Zn S[k]) a b = true then 1 else 0) := by
  unfold leftN
  rw [List.take_succ_eq_append_getElem h, List.filter_append, List.length_append]
  simp only [List.filter_cons, List.filter_nil]
  split <;> rfl
theorem leftN_len (cs : Cs) (S : List Nat) (a b : Nat) : leftN cs S a b ≤ S.length := List.length_filter_le _ _
theorem leftN_len' (cs : Cs) (S : List Nat) (a b k : Nat) : leftN cs (S.take k) a b ≤ k := Nat.le_trans (leftN_len _ _ _ _) (by rw [List.length_take]; omega)
def o73 : List Za → Option Za
  | [.agg [.int .u64 _, .int .u64 _, c], v, .agg [.int .u64 a, .int .u64 b]] => match Xx c, Zt v with
    | some cs, some rs => match Zd dU rs with
      | some S => if cs.length ≤ 10 ∧ (∀ s ∈ S, s < 2 ^ cs.length) ∧ S.length ≤ 1000 ∧ (0 ≤ a ∧ a < 4096) ∧ (0 ≤ b ∧ b < 4096) then some (I (leftN cs S a.toNat b.toNat : Nat)) else none
      | none => none
    | _, _ => none
  | _ => none
theorem o73_eq {se mi : Int} {c v : Za} {cs : Cs} {S : List Nat} (hc : Xx c = some cs) (hv : Zt v = some (S.map rU)) (hn : cs.length ≤ 10) (hS : ∀ s ∈ S, s < 2 ^ cs.length) (hl : S.length ≤ 1000) {a b : Nat} (h1 : a < 4096) (h2 : b < 4096) : o73 [.agg [.int .u64 se, .int .u64 mi, c], v, .agg [.int .u64 (a : Nat), .int .u64 (b : Nat)]] = some (I (leftN cs S a b : Nat)) := by
  have hU : Zd dU (S.map rU) = some S := dU_self fun x hx => by have := hS x hx; have := two_le hn; omega
  simp only [o73, hc, hv, hU]; rw [if_pos ⟨hn, hS, hl, by omega, by omega⟩]; simp only [Int.toNat_natCast]
theorem a73 (P : Program) (T : Nat → Option CFn) (hT : T 73 = some c73) (h94 : T 94 = some { c94 with frsh := true, orc := o94 }) (se mi : Int) (cs : Cs) (c v : Za) (S : List Nat) (hc : Xx c = some cs) (hv : Zt v = some (S.map rU)) (hn : cs.length ≤ 10) (hsn : ∀ s ∈ S, s < 2 ^ cs.length) (hl : S.length ≤ 1000) (a b : Nat) (h1 : a < 4096) (h2 : b < 4096) : Zo P T 73 [.agg [.int .u64 se, .int .u64 mi, c], v, .agg [.int .u64 (a : Nat), .int .u64 (b : Nat)]] [] fun v h => frz true h 5 v = some (I (leftN cs S a b : Nat)) := by
 have hcr := (dCauses_ok hc).1
 have lc := ZV hcr
 have rc := fun n d => ZY hcr n d
 have fc := fun H d => ZG hcr H d
 obtain ⟨cc1, cc2⟩ := ZH hcr
 have lv := ZV hv
 rw [List.length_map] at lv
 have rv := fun n d => ZY hv n d
 have fv := fun H d => ZG hv H d
 obtain ⟨cv1, cv2⟩ := ZH hv
 refine Zi hT (Zk rfl) ?_
 simp only [oo, om, op, og, ci, cl, c73]
 have HH1 := zA h94 (zA rc (zA fc (zA cc1 (zA cc2 (zA lv (zA rv (zA fv (zA cv1 cv2))))))))
 refine zS ?_
 refine zR (zO (by simp [zC h94, -Zb, HH1]; rfl) ?_)
 simp only [zT, zB]
 refine zS ?_
 refine zS ?_
 refine zR (zO (by simp [zC h94, -Zb, HH1]; rfl) ?_)
 simp only [zT, zB]
 refine zL ?_
 refine Zs (fun m σ => ∃ (k : Nat) (i : Int) (N : Int), i = k ∧ S.length - k = m ∧ k ≤ S.length ∧ N = (leftN cs (S.take k) a b : Nat) ∧ σ = ⟨[.any, .any, .any, .ref 0 0 0, .any, .ref 1 0 0, I N, .any, .any, v, I S.length, I i, .any, .any, .any, .any, .any, .any, .any, .any, .any, .any, .any], [some (.row 3 [[.int .u64 se, .int .u64 mi, c]]), some (.row 2 [[.int .u64 (a : Nat), .int .u64 (b : Nat)]])]⟩) ?_ (S.length - 0) _ ⟨0, 0, 0, rfl, rfl, Nat.zero_le _, rfl, by simp⟩
 rintro m σ ⟨k, i, N, hik, rfl, hkl, hN, rfl⟩
 refine zS ?_
 refine zR (zO (by simp [zC h94, -Zb, HH1]; rfl) ?_)
 simp only [zT, zB]
 refine zS ?_
 refine Zf (x := decide (i < (S.length : Int))) (by simp) (fun hlt => ?_) (fun hlt => ?_)
 ·have hlt := of_decide_eq_true hlt
  have hk0 : k < S.length := by omega
  obtain ⟨t1, rfl⟩ := XD hv (k := k) (by simpa using hk0)
  have hi0 : 0 ≤ i := by omega
  have htn : i.toNat = k := by omega
  have hwi : W .i64 (i + 1) = i + 1 := Zz (by omega)
  have hsb := hsn _ (List.getElem_mem hk0)
  have e94 := o94_eq (se := se) (mi := mi) hc (s := S[k]) ⟨hn, hsb⟩ h1 h2
  have hNs := leftN_succ (cs := cs) (a := a) (b := b) hk0
  have hNl := leftN_len' cs S a b k
  have hwN : W .i64 (N + 1) = N + 1 := Zz (by omega)
  have g1 : (S.map rU)[k]? = some (rU S[k]) := by rw [List.getElem?_map, List.getElem?_eq_getElem hk0]; rfl
  have g2 : ∀ h, (S.map rU)[k]'h = rU S[k] := fun h => by simp
  generalize explN cs (Zn S[k]) a b = B at *
  have hru : rU S[k] = [.int .u64 (S[k] : Nat)] := rfl
  generalize ((S[k] : Nat) : Int) = xv at *
  generalize rU S[k] = rx0 at *
  subst hru
  cases B
  ·rw [if_neg (by simp)] at hNs
   have HH2 := zA hi0 (zA htn (zA hk0 (zA hwi (zA hwN (zA g1 (zA g2 e94))))))
   refine zK ?_
   simp only [zT, zB]
   refine zS ?_
   refine zL ?_
   refine zS ?_
   refine zR (zO (by simp [zC h94, -Zb, HH1, -List.getElem?_map, -List.getElem_map, HH2]; rfl) ?_)
   simp only [zT, zB]
   refine zS ?_
   refine zR (zO (by simp [zC h94, -Zb, HH1, -List.getElem?_map, -List.getElem_map, HH2]; rfl) ?_)
   simp only [zT, zB]
   refine Zc (x := false) (by simp) ?_
   refine zK ?_
   simp only [zT, zB]
   refine zR (zO (by simp [zC h94, -Zb, HH1, -List.getElem?_map, -List.getElem_map, HH2]; rfl) ?_)
   simp only [zT, zB]
   exact ⟨S.length - (k + 1), by omega, k + 1, i + 1, N, by omega, rfl, by omega, by omega, by simp [zC h94, -Zb, HH1, -List.getElem?_map, -List.getElem_map, HH2]⟩
  ·rw [if_pos rfl] at hNs
   have HH3 := zA hi0 (zA htn (zA hk0 (zA hwi (zA hwN (zA g1 (zA g2 e94))))))
   refine zK ?_
   simp only [zT, zB]
   refine zS ?_
   refine zL ?_
   refine zS ?_
   refine zR (zO (by simp [zC h94, -Zb, HH1, -List.getElem?_map, -List.getElem_map, HH3]; rfl) ?_)
   simp only [zT, zB]
   refine zS ?_
   refine zR (zO (by simp [zC h94, -Zb, HH1, -List.getElem?_map, -List.getElem_map, HH3]; rfl) ?_)
   simp only [zT, zB]
   refine Zc (x := true) (by simp) ?_
   refine zR (zO (by simp [zC h94, -Zb, HH1, -List.getElem?_map, -List.getElem_map, HH3]; rfl) ?_)
   simp only [zT, zB]
   refine zR (zO (by simp [zC h94, -Zb, HH1, -List.getElem?_map, -List.getElem_map, HH3]; rfl) ?_)
   simp only [zT, zB]
   exact ⟨S.length - (k + 1), by omega, k + 1, i + 1, N + 1, by omega, rfl, by omega, by omega, by simp [zC h94, -Zb, HH1, -List.getElem?_map, -List.getElem_map, HH3]⟩
 ·have hlt := of_decide_eq_false hlt
  obtain rfl : k = S.length := by omega
  rw [List.take_length] at hN
  rw [← hN]
  refine Zr ?_
  simp only [zT, zB, if_true, if_false, reduceIte, Nat.reduceEqDiff, Nat.succ_ne_zero, Nat.one_ne_zero, Nat.zero_ne_one]
  refine zS ?_
  refine zR (zO (by simp [zC h94, -Zb, HH1]; rfl) ?_)
  simp only [zT, zB]
  refine Ze ?_
  simp [zC h94, -Zb, HH1]
def DQ1 : Nat → Option CFn := upd DP3 73 true (o73)
theorem DQ1_ok : Zp Tryd.prog GG DQ1 := ZJ mixed DP3_ok fun args v ho => by
  unfold o73 at ho; split at ho <;> (try simp only [reduceCtorEq] at ho)
  rename_i se mi c v a b
  split at ho <;> (try simp only [reduceCtorEq] at ho)
  rename_i cs rs hc hv
  split at ho <;> (try simp only [reduceCtorEq] at ho)
  rename_i S hS
  split at ho <;> (try simp only [reduceCtorEq] at ho)
  rename_i hg
  simp only [Option.some.injEq] at ho
  subst ho
  obtain ⟨an, rfl⟩ : ∃ s : Nat, a = s := ⟨a.toNat, by omega⟩
  obtain ⟨bn, rfl⟩ : ∃ s : Nat, b = s := ⟨b.toNat, by omega⟩
  simp only [Int.toNat_natCast]
  exact a73 Tryd.prog DP3 rfl rfl se mi cs c v S hc (by rw [hv, Xl (enc := rU) dU_eq hS]) hg.1 hg.2.1 hg.2.2.1 an bn (by omega) (by omega)
def lookK (cnt : Nat → Nat) (skip : Nat → Bool) (tot : Nat) : Nat → Nat × Nat
  | 0 => (0, tot)
  | k + 1 => if skip k = true then lookK cnt skip tot k else if cnt k < (lookK cnt skip tot k).2 then (k, cnt k) else lookK cnt skip tot k
theorem lookK_le (cnt : Nat → Nat) (skip : Nat → Bool) (tot : Nat) : ∀ k, (lookK cnt skip tot k).2 ≤ tot ∧ (lookK cnt skip tot k).1 ≤ k
  | 0 => ⟨Nat.le_refl _, Nat.le_refl _⟩
  | k + 1 => by
    have := lookK_le cnt skip tot k
    simp only [lookK]
    split
    · omega
    · split
      · simp only; omega
      · omega
def cntN (cs : Cs) (S : List Nat) (se mi k : Nat) : Nat := max (leftN cs S (se ||| 2 ^ k) mi) (leftN cs S se (mi ||| 2 ^ k))
def lookN (cs : Cs) (S : List Nat) (se mi k : Nat) : Nat × Nat := lookK (cntN cs S se mi) (fun k => (se ||| mi).testBit k) S.length k
def valsS (S : List (Fin 1024)) : List Nat := S.map fun x : Fin 1024 => x.1
def lookR (l : List (Int × Int)) (se mi : Int) : Nat × Nat × Int :=
  if (Yb l se mi).1 = 0 then
    (if (lookN (YQ l) (valsS (Yb l se mi).2) se.toNat mi.toNat 12).2 = (Yb l se mi).2.length then (0, 0, 7) else ((lookN (YQ l) (valsS (Yb l se mi).2) se.toNat mi.toNat 12).1, (lookN (YQ l) (valsS (Yb l se mi).2) se.toNat mi.toNat 12).2, 0))
  else (0, 0, (Yb l se mi).1)
def lookV (r : Nat × Nat × Int) : Za := .tup [I (r.1 : Nat), I (r.2.1 : Nat), I r.2.2]
theorem openR_c {l : List (Int × Int)} {se mi : Int} (h : (Yb l se mi).1 = 0) : compE l se mi = 0 := by
  unfold Yb at h
  split at h
  · assumption
  · exact h
theorem openR_lt {l : List (Int × Int)} {se mi : Int} : ∀ x ∈ (Yb l se mi).2, x.1 < 2 ^ l.length := by
  intro x hx
  unfold Yb at hx
  split at hx
  · unfold smallR at hx
    split at hx
    · simp at hx
    · rename_i k e
      split at hx
      · simp at hx
      · simp only [sort_mem, finS, List.mem_map] at hx
        obtain ⟨s, hs, rfl⟩ := hx
        simp only [XM, List.mem_filter, List.mem_range] at hs
        exact Nat.lt_of_le_of_lt (Nat.mod_le _ _) hs.1
  · simp at hx
theorem and_pow (a k : Nat) : (((a &&& 2 ^ k : Nat) : Int) != 0) = a.testBit k := by
  have hp : 0 < 2 ^ k := Nat.two_pow_pos k
  have e : a &&& 2 ^ k = if a.testBit k = true then 2 ^ k else 0 := by
    refine Nat.eq_of_testBit_eq fun i => ?_
    rw [Nat.testBit_and, Nat.testBit_two_pow]
    by_cases h : k = i
    · subst h
      cases a.testBit k <;> simp
    · cases h2 : a.testBit k <;> simp [h, Nat.testBit_two_pow]
  rw [e]
  generalize 2 ^ k = p at *
  cases a.testBit k with
  | false => simp
  | true => rw [if_pos rfl]; simp; omega
theorem pow12 {k : Nat} (h : k < 12) : 2 ^ k < 4096 := by
  have := Nat.pow_lt_pow_right (a := 2) (by decide) h; omega
def o36 : List Za → Option Za
  | [c, .int .i64 se, .int .i64 mi] => match Zt c with
    | some rs => match Zd dI2 rs with
      | some l => if l.length ≤ 1000 then some (lookV (lookR l se mi)) else none
      | none => none
    | none => none
  | _ => none
theorem o36_eq {c : Za} {l : List (Int × Int)} (hc : Zt c = some (l.map rQ)) (hl : l.length ≤ 1000) (se mi : Int) : o36 [c, I se, I mi] = some (lookV (lookR l se mi)) := by
  have := optAll_map (d := dI2) (enc := rQ) (fun _ => rfl) l
  simp only [o36, hc, this]; rw [if_pos hl]
theorem a36 (P : Program) (T : Nat → Option CFn) (hT : T 36 = some c36) (h67 : T 67 = some { c67 with frsh := false, orc := o67 }) (h73 : T 73 = some { c73 with frsh := true, orc := o73 }) (c : Za) (l : List (Int × Int)) (hc : Zt c = some (l.map rQ)) (hl : l.length ≤ 1000) (se mi : Int) : Zo P T 36 [c, I se, I mi] [] fun v h => frz false h 5 v = some (lookV (lookR l se mi)) := by
 have lx := ZV hc
 rw [List.length_map] at lx
 have rx := fun n d => ZY hc n d
 have fx := fun H d => ZG hc H d
 obtain ⟨cx1, cx2⟩ := ZH hc
 have h67e := o67_eq hc hl se mi
 refine Zi hT (Zk rfl) ?_
 simp only [oo, om, op, og, ci, cl, c36]
 by_cases hR : (Yb l se mi).1 = 0
 ·have hne := openR_ne hR
  have hlg := openR_long (l := l) (se := se) (mi := mi)
  have hlt := openR_lt (l := l) (se := se) (mi := mi)
  have hE := openR_c hR
  have hcomp := compE_ok hE
  rw [openA_ok hR, hR] at h67e
  have hko := toCs_ok hE
  have hcc : Xx c = some (YQ l) := dCauses_of (by rw [hc, rq_rc hE]) hko.2
  rw [show lookR l se mi = _ from if_pos hR]
  obtain ⟨sn, rfl⟩ : ∃ s : Nat, se = s := ⟨se.toNat, by omega⟩
  obtain ⟨mn, rfl⟩ : ∃ s : Nat, mi = s := ⟨mi.toNat, by omega⟩
  simp only [Int.toNat_natCast]
  rw [← toCs_len l] at hlt
  generalize YQ l = cs at *
  generalize (Yb l sn mn).2 = S at *
  have hS : Zt (encS S) = some ((valsS S).map rU) := by rw [encS_rows]; unfold valsS; rw [List.map_map]; rfl
  have hvl : (valsS S).length = S.length := by unfold valsS; simp
  have hsv : ∀ s ∈ valsS S, s < 2 ^ cs.length := by
   intro s hs
   obtain ⟨x, hx, rfl⟩ := List.mem_map.1 hs
   exact hlt x hx
  rw [← hvl] at hlg ⊢
  generalize valsS S = V at *
  generalize encS S = vS at *
  have lS := ZV hS
  rw [List.length_map] at lS
  have rS := fun n d => ZY hS n d
  have fS := fun H d => ZG hS H d
  obtain ⟨cS1, cS2⟩ := ZH hS
  have hsn : sn < 4096 := by omega
  have hmn : mn < 4096 := by omega
  have HH1 := zA h67 (zA h73 (zA lx (zA rx (zA fx (zA cx1 (zA cx2 (zA h67e (zA lS (zA rS (zA fS (zA cS1 cS2)))))))))))
  refine zS ?_
  refine zR (zO (by simp [zC h67, zC h73, -Zb, HH1]; rfl) ?_)
  simp only [zT, zB]
  refine zS ?_
  refine zR (zO (by simp [zC h67, zC h73, -Zb, HH1]; rfl) ?_)
  simp only [zT, zB]
  refine zS ?_
  refine zS ?_
  refine zR (zO (by simp [zC h67, zC h73, -Zb, HH1]; rfl) ?_)
  simp only [zT, zB]
  refine Zc (x := false) (by simp) ?_
  refine zK ?_
  simp only [zT, zB]
  refine zS ?_
  refine zR (zO (by simp [zC h67, zC h73, -Zb, HH1]; rfl) ?_)
  simp only [zT, zB]
  refine zS ?_
  refine zS ?_
  refine zR (zO (by simp [zC h67, zC h73, -Zb, HH1]; rfl) ?_)
  simp only [zT, zB]
  refine zL ?_
  refine Zs (fun m σ => ∃ (k : Nat) (i A B : Int), i = k ∧ 12 - k = m ∧ k ≤ 12 ∧ A = ((lookN cs V sn mn k).1 : Nat) ∧ B = ((lookN cs V sn mn k).2 : Nat) ∧ σ = ⟨[.any, .any, .any, .any, .any, .any, I A, I B, .any, .ref 0 0 0, vS, .any, .any, .any, .any, .any, .any, .any, .any, .any, .any, .any, .any, .any, .any, .any, .any, I i, .any, .any, .any, .any, .any, .any, .any, .any, .any, .any, .any, .any, .any, .any, .any, .any, .any, .any, .any, .any, .any, .any, .any, .any, .any, .any, .any, .any, .any, .any, .any, .any, .any, .any, .any, .any, .any, .any, .any, .any, .any, .any, .any, .any, .any, .any, .any, .any, .any, .any, .any], [some (.row 3 [[.int .u64 (sn : Nat), .int .u64 (mn : Nat), c]])]⟩) ?_ 12 _ ⟨0, 0, 0, (V.length : Int), rfl, rfl, by omega, rfl, rfl, by simp⟩
  rintro m σ ⟨k, i, A, B, hik, rfl, hkl, hA, hB, rfl⟩
  refine zS ?_
  refine zR (zO (by simp [zC h67, zC h73, -Zb, HH1]; rfl) ?_)
  simp only [zT, zB]
  refine zS ?_
  refine Zf (x := decide (i < 12)) (by simp) (fun hk12 => ?_) (fun hk12 => ?_)
  ·have hk12 := of_decide_eq_true hk12
   have hk : k < 12 := by omega
   have hp := pow12 hk
   have hwi : W .i64 (i + 1) = i + 1 := Zz (by omega)
   have hsh : shI .shl .u64 1 i = some (.int .u64 ((2 ^ k : Nat) : Int)) := by rw [hik]; exact shl_one (by omega) .u64 (.inr rfl)
   have hor := or_u (a := sn) (b := mn) (by omega) (by omega)
   have hol : sn ||| mn < 4096 := Nat.or_lt_two_pow (n := 12) hsn hmn
   have hand := and_u (a := sn ||| mn) (b := 2 ^ k) (by omega) (by omega)
   have hbit := and_pow (sn ||| mn) k
   have hos := or_u (a := sn) (b := 2 ^ k) (by omega) (by omega)
   have hom := or_u (a := mn) (b := 2 ^ k) (by omega) (by omega)
   have ea := o73_eq (se := (sn : Int)) (mi := (mn : Int)) hcc hS hko.1 hsv (by omega) (Nat.or_lt_two_pow (n := 12) hsn hp) hmn
   have eb := o73_eq (se := (sn : Int)) (mi := (mn : Int)) hcc hS hko.1 hsv (by omega) hsn (Nat.or_lt_two_pow (n := 12) hmn hp)
   have hLs : lookN cs V sn mn (k + 1) = if (sn ||| mn).testBit k = true then lookN cs V sn mn k else if cntN cs V sn mn k < (lookN cs V sn mn k).2 then (k, cntN cs V sn mn k) else lookN cs V sn mn k := rfl
   have hcn : (max ((leftN cs V (sn ||| 2 ^ k) mn : Nat) : Int) ((leftN cs V sn (mn ||| 2 ^ k) : Nat) : Int)) = (cntN cs V sn mn k : Nat) := by unfold cntN; omega
   generalize (sn ||| mn).testBit k = sk at *
   generalize (((sn ||| mn) &&& 2 ^ k : Nat) : Int) = av at *
   generalize ((sn ||| mn : Nat) : Int) = ov at *
   generalize ((sn ||| 2 ^ k : Nat) : Int) = o1 at *
   generalize ((mn ||| 2 ^ k : Nat) : Int) = o2 at *
   generalize ((2 ^ k : Nat) : Int) = pk at *
   generalize ((leftN cs V (sn ||| 2 ^ k) mn : Nat) : Int) = n1 at *
   generalize ((leftN cs V sn (mn ||| 2 ^ k) : Nat) : Int) = n2 at *
   cases sk
   ·rw [if_neg (by simp)] at hLs
    have HH2 := zA hsh (zA hor (zA hand (zA hos hom)))
    refine zK ?_
    simp only [zT, zB]
    refine zS ?_
    refine zL ?_
    refine zS ?_
    refine zR (zO (by simp [zC h67, zC h73, -Zb, HH1, hwi, hbit, ea, eb, ↓HH2]; rfl) ?_)
    simp only [zT, zB]
    refine zS ?_
    refine zR (zO (by simp [zC h67, zC h73, -Zb, HH1, hwi, hbit, ea, eb, ↓HH2]; rfl) ?_)
    simp only [zT, zB]
    refine zS ?_
    refine zS ?_
    refine zR (zO (by simp [zC h67, zC h73, -Zb, HH1, hwi, hbit, ea, eb, ↓HH2]; rfl) ?_)
    simp only [zT, zB]
    refine Zc (x := false) (by simp) ?_
    refine zK ?_
    simp only [zT, zB]
    refine zS ?_
    refine ZU (by simp (maxSteps := 3000000) [zC h67, zC h73, -Zb, HH1, hwi, hbit, ea, eb, ↓HH2]; rfl) ?_
    simp only [zT, zB]
    refine zS ?_
    refine zR (zO (by simp [zC h67, zC h73, -Zb, HH1, hwi, hbit, ea, eb, ↓HH2]; rfl) ?_)
    simp only [zT, zB]
    refine Zf (x := decide (max n1 n2 < B)) (by simp) (fun hcl => ?_) (fun hcl => ?_)
    ·have hcl := of_decide_eq_true hcl
     rw [if_pos (by omega)] at hLs
     refine zR (zO (by simp [zC h67, zC h73, -Zb, HH1, hwi, hbit, ea, eb, ↓HH2]; rfl) ?_)
     simp only [zT, zB]
     refine zR (zO (by simp [zC h67, zC h73, -Zb, HH1, hwi, hbit, ea, eb, ↓HH2]; rfl) ?_)
     simp only [zT, zB]
     exact ⟨12 - (k + 1), by omega, k + 1, i + 1, i, max n1 n2, by omega, rfl, by omega, by rw [hLs]; exact hik, by rw [hLs]; exact hcn, by simp [zC h67, zC h73, -Zb, HH1, hwi, hbit, ea, eb, ↓HH2, trim]⟩
    ·have hcl := of_decide_eq_false hcl
     rw [if_neg (by omega)] at hLs
     refine zK ?_
     simp only [zT, zB]
     refine zR (zO (by simp [zC h67, zC h73, -Zb, HH1, hwi, hbit, ea, eb, ↓HH2]; rfl) ?_)
     simp only [zT, zB]
     exact ⟨12 - (k + 1), by omega, k + 1, i + 1, A, B, by omega, rfl, by omega, by rw [hLs]; exact hA, by rw [hLs]; exact hB, by simp [zC h67, zC h73, -Zb, HH1, hwi, hbit, ea, eb, ↓HH2, trim]⟩
   ·rw [if_pos rfl] at hLs
    have HH3 := zA hsh (zA hor (zA hand (zA hos hom)))
    refine zK ?_
    simp only [zT, zB]
    refine zS ?_
    refine zL ?_
    refine zS ?_
    refine zR (zO (by simp [zC h67, zC h73, -Zb, HH1, hwi, hbit, ea, eb, ↓HH3]; rfl) ?_)
    simp only [zT, zB]
    refine zS ?_
    refine zR (zO (by simp [zC h67, zC h73, -Zb, HH1, hwi, hbit, ea, eb, ↓HH3]; rfl) ?_)
    simp only [zT, zB]
    refine zS ?_
    refine zS ?_
    refine zR (zO (by simp [zC h67, zC h73, -Zb, HH1, hwi, hbit, ea, eb, ↓HH3]; rfl) ?_)
    simp only [zT, zB]
    refine Zc (x := true) (by simp) ?_
    refine Zr ?_
    simp only [zT, zB, if_true, if_false, reduceIte, Nat.reduceEqDiff, Nat.succ_ne_zero, Nat.one_ne_zero, Nat.zero_ne_one]
    refine zR (zO (by simp [zC h67, zC h73, -Zb, HH1, hwi, hbit, ea, eb, ↓HH3]; rfl) ?_)
    simp only [zT, zB]
    exact ⟨12 - (k + 1), by omega, k + 1, i + 1, A, B, by omega, rfl, by omega, by rw [hLs]; exact hA, by rw [hLs]; exact hB, by simp [zC h67, zC h73, -Zb, HH1, hwi, hbit, ea, eb, ↓HH3, trim]⟩
  ·have hk12 := of_decide_eq_false hk12
   obtain rfl : k = 12 := by omega
   generalize lookN cs V sn mn 12 = L at *
   refine Zr ?_
   simp only [zT, zB, if_true, if_false, reduceIte, Nat.reduceEqDiff, Nat.succ_ne_zero, Nat.one_ne_zero, Nat.zero_ne_one]
   refine zS ?_
   refine zS ?_
   refine zR (zO (by simp [zC h67, zC h73, -Zb, HH1]; rfl) ?_)
   simp only [zT, zB]
   refine Zf (x := (B == (V.length : Int))) (by simp) (fun hz => ?_) (fun hz => ?_)
   ·have hz : B = (V.length : Int) := by simpa using hz
    rw [if_pos (by omega)]
    refine zS ?_
    refine zR (zO (by simp [zC h67, zC h73, -Zb, HH1]; rfl) ?_)
    simp only [zT, zB]
    refine Ze ?_
    simp [zC h67, zC h73, -Zb, HH1, lookV]
   ·have hz : ¬ B = (V.length : Int) := by simpa using hz
    rw [if_neg (by omega)]
    refine zK ?_
    simp only [zT, zB]
    refine zS ?_
    refine zR (zO (by simp [zC h67, zC h73, -Zb, HH1]; rfl) ?_)
    simp only [zT, zB]
    refine Ze ?_
    simp [zC h67, zC h73, -Zb, HH1, lookV, hA, hB]
 ·have hsm : (Yb l se mi).2 = [] := by
   unfold Yb at hR ⊢
   split
   ·rename_i e; rw [if_pos e] at hR; exact smallR_err hR
   ·rfl
  rw [hsm] at h67e
  have hen : encS [] = .nils := rfl
  rw [hen] at h67e
  rw [show lookR l se mi = _ from if_neg hR]
  generalize (Yb l se mi).1 = r at *
  have hrb : (r != 0) = true := by simpa using hR
  obtain ⟨_, _, _, _, hoa⟩ := openA_cells c l se mi
  rcases hoa with hoa | hoa
  ·rw [hoa] at h67e
   have HH4 := zA h67 (zA h73 (zA lx (zA rx (zA fx (zA cx1 (zA cx2 (zA h67e hrb)))))))
   refine zS ?_
   refine zR (zO (by simp [zC h67, zC h73, -Zb, HH4]; rfl) ?_)
   simp only [zT, zB]
   refine zS ?_
   refine zR (zO (by simp [zC h67, zC h73, -Zb, HH4]; rfl) ?_)
   simp only [zT, zB]
   refine zS ?_
   refine zS ?_
   refine zR (zO (by simp [zC h67, zC h73, -Zb, HH4]; rfl) ?_)
   simp only [zT, zB]
   refine Zc (x := true) (by simp) ?_
   refine zS ?_
   refine zR (zO (by simp [zC h67, zC h73, -Zb, HH4]; rfl) ?_)
   simp only [zT, zB]
   refine Ze ?_
   simp [zC h67, zC h73, -Zb, HH4, trim, lookV]
  ·rw [hoa] at h67e
   have HH5 := zA h67 (zA h73 (zA lx (zA rx (zA fx (zA cx1 (zA cx2 (zA h67e hrb)))))))
   refine zS ?_
   refine zR (zO (by simp [zC h67, zC h73, -Zb, HH5]; rfl) ?_)
   simp only [zT, zB]
   refine zS ?_
   refine zR (zO (by simp [zC h67, zC h73, -Zb, HH5]; rfl) ?_)
   simp only [zT, zB]
   refine zS ?_
   refine zS ?_
   refine zR (zO (by simp [zC h67, zC h73, -Zb, HH5]; rfl) ?_)
   simp only [zT, zB]
   refine Zc (x := true) (by simp) ?_
   refine zS ?_
   refine zR (zO (by simp [zC h67, zC h73, -Zb, HH5]; rfl) ?_)
   simp only [zT, zB]
   refine Ze ?_
   simp [zC h67, zC h73, -Zb, HH5, trim, lookV]
def DQ2 : Nat → Option CFn := upd DQ1 36 false (o36)
theorem DQ2_ok : Zp Tryd.prog GG DQ2 := ZJ mixed DQ1_ok fun args v ho => by
  unfold o36 at ho; split at ho <;> (try simp only [reduceCtorEq] at ho)
  rename_i c se mi
  split at ho <;> (try simp only [reduceCtorEq] at ho)
  rename_i rs hx
  split at ho <;> (try simp only [reduceCtorEq] at ho)
  rename_i l hl
  split at ho <;> (try simp only [reduceCtorEq] at ho)
  rename_i hg
  simp only [Option.some.injEq] at ho
  subst ho
  obtain rfl : rs = l.map rQ := Xl (enc := rQ) dI2_eq hl
  exact a36 Tryd.prog DQ1 rfl rfl rfl c l hx hg se mi
end
end
end Go.Proofs.YtpebmjeomlgmdaaDoor.Tab
