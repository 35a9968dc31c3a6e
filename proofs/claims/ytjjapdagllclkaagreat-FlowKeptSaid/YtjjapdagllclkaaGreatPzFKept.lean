/- What the rows of the flow seat share. No condition. -/
import Derived.Test.YtjjapdagllclkaaGreatRows
import Derived.Test.YtjjapdagllclkaaGreatChecked
import Derived.OpenShut
import Derived.JoinedOf
import Derived.Handed
import Derived.Test.YtjjapdagllclkaaGreatPzEKept
import Derived.Test.YtjjapdagllclkaaGreatPzBKept
import Derived.Test.YtjjapdagllclkaaGreatPzDKept
set_option linter.unusedSimpArgs false
set_option linter.unusedVariables false
namespace Go.Proofs.YtjjapdagllclkaaGreat.Tab
open Go Go.Abs Go.Proofs
set_option maxRecDepth 100000
set_option maxHeartbeats 4000000
set_option linter.unusedSimpArgs false
set_option linter.unusedVariables false
section
attribute [local simp] frz_int frz_bool frz_vl frz_pv frz_agg frz_tup frz_fn frz_ref frz_sl frz_nils optAll orcF rb_int rb_bool rb_agg rb_tup rb_int' rb_bool' rb_vl rb_pv rb_yld rb_nilf rb_nilp rb_nils rb_any rb_und rb_ref rb_sl rb_fn slE chunk fillA evParts evParts3 putAt List.range_succ List.range_zero List.range'_succ List.range'_zero runX_nil' unary_not evalS_pure evAll_nil evAll_cons runX_cons stepX wantedA dop CV.ev putK_eq setK_eq appK_eq fA_eq fI_eq fN_eq fRow_eq fRows_eq nth_eq Out.v putT List.replicate_succ zT zB arI pointee Abs.rowAt ldRow allV toV toC ofV ofC Builtin.min_ Builtin.min2 Builtin.max_ Builtin.max2 min_if max_if resA tupA kill trim_self trim_len trim_emp trim_nil lenA
attribute [local simp] runD_nil' runD_cons' stepD actK_eq actD clash disj masks holes maskH unmaskH diffs news eqB allB eqA ldRowN wrote toCs ofCs stA rowsV_vl rowsV_nils rowsOf dI1 dI2 dI3 dI5 elt
attribute [local simp] st_any st_und st_agg st_tup st_bool st_int st_nilp st_ref st_pv st_nils st_sl st_vl st_nilm st_mp st_fn st_nilf st_yld co_any co_und co_agg co_tup co_bool co_int co_nilp co_ref co_pv co_nils co_sl co_vl co_nilm co_mp co_fn co_nilf co_yld
attribute [local simp] Function.comp_def List.all_append List.all_map above callA calleeA frNB_none frNB_row frN_agg frN_bool frN_int frN_nils frN_ref frN_sl frN_tup frN_vl frzG gather getR lim lop loud lowA lowR norm okG putG putR rbB_none rbB_row resG rowAt takeG
/-- An order out of bytes. -/
def ordGo : List Int → List Int → List Int
  | [], _ => []
  | b :: bs, L => L.getD (b.tmod (L.length : Int)).toNat 0 :: ordGo bs (L.eraseIdx (b.tmod (L.length : Int)).toNat)
def ordW (o : List Int) (n : Nat) : List Int := ordGo (o.take n) (upTo n)
theorem cons_erase_perm {L : List Int} {k : Nat} (hk : k < L.length) : (L[k] :: L.eraseIdx k).Perm L := by
  have e : L.take k ++ L[k] :: L.drop (k + 1) = L := by rw [← List.drop_eq_getElem_cons hk, List.take_append_drop]
  rw [List.eraseIdx_eq_take_drop_succ]
  exact (List.perm_middle.symm).trans (List.Perm.of_eq e)
theorem ordGo_perm : ∀ (bs L : List Int), bs.length = L.length → (∀ b ∈ bs, 0 ≤ b) → (ordGo bs L).Perm L
  | [], L, hl, _ => by
    have : L = [] := List.eq_nil_of_length_eq_zero hl.symm
    subst this; exact .nil
  | b :: bs, L, hl, hb => by
    simp only [List.length_cons] at hl
    have hb0 := hb b (by simp)
    have hp : (0 : Int) < (L.length : Int) := by omega
    have hk1 := Int.tmod_nonneg (L.length : Int) hb0
    have hk2 := Int.tmod_lt_of_pos b hp
    have hk : (b.tmod (L.length : Int)).toNat < L.length := by omega
    simp only [ordGo]
    generalize (b.tmod (L.length : Int)).toNat = k at *
    have ih := ordGo_perm bs (L.eraseIdx k) (by rw [List.length_eraseIdx_of_lt hk]; omega) (fun x hx => hb x (by simp [hx]))
    refine (List.Perm.cons _ ih).trans ?_
    rw [List.getD_eq_getElem?_getD, List.getElem?_eq_getElem hk, Option.getD_some]
    exact cons_erase_perm hk
theorem upTo_succ (n : Nat) : upTo (n + 1) = upTo n ++ [(n : Int)] := by
  unfold upTo; rw [List.range_succ, List.map_append]; rfl
theorem ordW_ord {o : List Int} {n : Nat} (ho : o.length = 6 ∧ ∀ b ∈ o, isU b) (hn : n ≤ 6) : ordB (ordW o n) n = true :=
  perm_ord (ordGo_perm _ _ (by rw [List.length_take, upTo_len]; omega) (fun b hb => (ho.2 b (List.mem_of_mem_take hb)).1))
theorem allB_refl {α : Type} {f : α → α → Bool} : ∀ (l : List α), (∀ x ∈ l, f x x = true) → allB f l l = true
  | [], _ => rfl
  | x :: l, h => by simp only [allB, h x (by simp), allB_refl l fun y hy => h y (by simp [hy]), Bool.and_self]
theorem eqA_int (n : Nat) (k : IntKind) (m : Int) : eqA (n + 1) (.int k m) (.int k m) = true := by cases k <;> simp
theorem eqA_rU (n : Nat) (v : List Int) : allB (eqA (n + 1)) (rU v) (rU v) = true := allB_refl _ fun z hz => by
  obtain ⟨a, _, rfl⟩ := List.mem_map.1 hz
  exact eqA_int n _ _
theorem eqA_rows {x : AVal} {xs : List (List Int)} (hx : rowsV x = some (xs.map rU)) (n : Nat) : eqA (n + 2) x x = true := by
  rcases rowsV_cases hx with ⟨rfl, _⟩ | ⟨t, rfl⟩
  · rfl
  · show (allB (allB (eqA (n + 1))) (xs.map rU) (xs.map rU) && t == t) = true
    rw [allB_refl _ fun r hr => by obtain ⟨v, _, rfl⟩ := List.mem_map.1 hr; exact eqA_rU n v]
    simp
theorem eqB_rI (xs : List Int) : eqB (some (.row 1 (xs.map rI))) (some (.row 1 (xs.map rI))) = true := by
  show ((1 : Nat) == 1 && allB (allB (eqA 12)) (xs.map rI) (xs.map rI)) = true
  rw [allB_refl _ fun r hr => by obtain ⟨v, _, rfl⟩ := List.mem_map.1 hr; exact allB_refl _ fun z hz => by simp [rI] at hz; subst hz; exact eqA_int 11 _ _]
  rfl
theorem runs_drwN {P : Program} {T : Nat → Option CFn} {r : Option Nat} {l : List CO} {σ : St} {Q : AEx → St → Prop} {D : DSt} (n : Nat)
    (h : runD P T (exec P T n) σ.h.length l.length l 0 ⟨σ.t, σ.h ++ List.replicate l.length none, List.replicate l.length none⟩ = some D) (hq : Q .normal ⟨D.t, D.h⟩) : Runs P T r (.drw l) σ Q := by
  refine ⟨n + 1, .normal, ⟨D.t, D.h⟩, ?_, hq⟩
  show exec1 P T (exec P T n) r (.drw l) σ = _
  simp only [exec1, appK_eq, fN_eq, h]
theorem a18h (P : Program) (T : Nat → Option CFn) (hT : T 18 = some c18) (h : Heap) (b k : Nat) (tt : Bool) (xs : List Int) (hb : h[b]? = some (some (.row 1 (xs.map rI)))) (hk : k ≤ xs.length) (hl : xs.length ≤ 1000) :
  Answers P T 18 [.sl b 0 k tt] h fun v h' => (k = 0 → v = .sl h.length 0 0 true ∧ h' = h ++ [some (.row 1 [])]) ∧ (0 < k → v = .sl (h.length + 1) 0 k false ∧ h' = h ++ [some (.row 1 []), some (.row 1 ((xs.take k).map rI))]) := by
 have hbl : b < h.length := (List.getElem?_eq_some_iff.1 hb).1
 have hb2 : (h ++ [some (Blk.row 1 [])])[b]? = some (some (.row 1 (xs.map rI))) := by rw [List.getElem?_append_left hbl]; exact hb
 have hkx : k ≤ (xs.map rI).length := by simp; omega
 refine answers_of hT (orcF_none rfl) ?_
 simp only [oo, om, op, og, ci, cl, c18]
 refine zS ?_
 by_cases hk0 : k = 0
 ·subst hk0
  refine zR (zO (by simp [hb2, hkx]; rfl) ?_)
  simp only [zT, zB]
  refine zS ?_
  refine zR (zO (by simp [hb2, hkx]; rfl) ?_)
  simp only [zT, zB]
  refine runs_ret ?_
  refine ⟨by simp, _, by simp; rfl, ?_⟩
  have ht : trim h.length [tupA [.sl h.length 0 0 true]] (h ++ [some (.row 1 [])]) = h ++ [some (.row 1 [])] := by simp [trim]
  exact ⟨fun _ => ⟨rfl, ht⟩, fun h => absurd h (Nat.lt_irrefl _)⟩
 ·have hk1 : ¬ k = 0 := hk0
  have htl : ((xs.map rI).take k).length = k := by simp; omega
  have hr1 : (((xs.map rI).take k).all fun r => r.length == 1) = true := by
   simp only [List.all_eq_true]; intro r hr; obtain ⟨a, _, rfl⟩ := List.mem_map.1 (List.mem_of_mem_take hr); rfl
  have hr2 : (((xs.map rI).take k).all fun r => r.all storable) = true := by
   simp only [List.all_eq_true]; intro r hr; obtain ⟨a, _, rfl⟩ := List.mem_map.1 (List.mem_of_mem_take hr); intro z hz; simp [rI] at hz; subst hz; rfl
  have hle : k ≤ 1048576 := by omega
  have hmin : min k xs.length = k := by omega
  have htn : (xs.map rI).take k ≠ [] := by intro e; rw [e] at htl; simp at htl; omega
  have hr1' : ∀ r, r ∈ (xs.map rI).take k → r.length = 1 := fun r hr => by obtain ⟨a, _, rfl⟩ := List.mem_map.1 (List.mem_of_mem_take hr); rfl
  have HH1 := zA hb2 (zA hkx (zA hk1 (zA hk (zA htn (zA htl hle)))))
  refine zR (zO (by simp [-List.map_take, -List.length_take, ↓hr1, ↓hr2, HH1]; rfl) ?_)
  simp only [zT, zB]
  refine zS ?_
  refine zR (zO (by simp [-List.map_take, -List.length_take, ↓hr1, ↓hr2, HH1]; rfl) ?_)
  simp only [zT, zB]
  refine runs_ret ?_
  refine ⟨by simp, _, by simp; rfl, ?_⟩
  have ht : ∀ x, trim h.length [tupA [.sl (h.length + 1) 0 k false]] x = x := fun x => by simp [trim]; intro h; omega
  exact ⟨fun h => absurd h hk1, fun _ => ⟨rfl, by rw [List.map_take]; exact ht _⟩⟩
theorem a42 (P : Program) (T : Nat → Option CFn) (hT : T 42 = some { c42 with body := annK [(230, [.slot 5]), (358, [.slot 5, .slot 6])] [] c42.body }) (h18 : T 18 = some c18) (W_ : FWorks) (x y : AVal) (hx : rowsV x = some (W_.xs.map rU)) (hy : rowsV y = some (W_.ys.map rU)) (hw : WkOk W_) (n : Nat) (hn : n ≤ 6) : Answers P T 42 [.agg (wkC W_ x y), I (n : Int)] [] fun v h => frz true h 5 v = some (encE (ordW W_.o n)) := by
 obtain ⟨bm, bk, bg, bxs, bys, bo⟩ := hw
 obtain ⟨cx1, cx2⟩ := rowsV_cells hx
 obtain ⟨cy1, cy2⟩ := rowsV_cells hy
 have rx := fun n d => rowsV_rb hx n d
 have ry := fun n d => rowsV_rb hy n d
 have co : ∀ q, q < 6 → (wkC W_ x y)[20 + q]? = some (.int .u8 (W_.o.getD q 0)) := fun q hq => by
  have e : 20 + q = (18 + q) + 1 + 1 := by omega
  unfold wkC
  rw [e, List.getElem?_cons_succ, List.getElem?_cons_succ, List.append_assoc, List.getElem?_append_right (by rw [rU_len, bg.1]; omega), rU_len, bg.1, List.getElem?_append_right (by simp; omega)]
  have e2 : 18 + q - 16 - [x, y].length = q := by simp; omega
  rw [e2]
  exact rU_get (by rw [bo.1]; exact hq)
 have crb : ∀ n, (wkC W_ x y).all (rb n 5) = true := fun n => by
  have h1 := rU_rb n 4 W_.g
  have h2 := rU_rb n 4 W_.o
  simp only [wkC, List.all_cons, List.all_append, h1, h2, rx, ry, rb_int', List.all_nil, Bool.and_true]
 have cst : (wkC W_ x y).all storable = true := by
  have h1 := rU_stor W_.g
  have h2 := rU_stor W_.o
  simp only [wkC, List.all_cons, List.all_append, h1, h2, cx2, cy2, List.all_nil, Bool.and_true]; rfl
 have ccl : cellsOf (.agg (wkC W_ x y)) = some (wkC W_ x y) := rfl
 have clen : (wkC W_ x y).length = 26 := by simp [wkC, rU_len, bg.1, bo.1]
 have hceq : allB (eqA 12) (wkC W_ x y) (wkC W_ x y) = true := by
  refine allB_refl _ fun z hz => ?_
  simp only [wkC, List.mem_cons, List.mem_append, List.not_mem_nil, or_false] at hz
  rcases hz with rfl | rfl | (h | rfl | rfl) | h
  ·exact eqA_int 11 _ _
  ·exact eqA_int 11 _ _
  ·obtain ⟨a, _, rfl⟩ := List.mem_map.1 h; exact eqA_int 11 _ _
  ·exact eqA_rows hx 10
  ·exact eqA_rows hy 10
  ·obtain ⟨a, _, rfl⟩ := List.mem_map.1 h; exact eqA_int 11 _ _
 generalize hcells : wkC W_ x y = cells at *
 have heB : eqB (some (.row 26 [cells])) (some (.row 26 [cells])) = true := by
  show ((26 : Nat) == 26 && allB (allB (eqA 12)) [cells] [cells]) = true
  rw [allB_refl _ fun r hr => by simp only [List.mem_singleton] at hr; subst hr; exact hceq]
  rfl
 have o18 : ∀ a h, orcF c18 a h = none := fun _ _ => orcF_none rfl
 have f18 : ∀ a h, c18.eff a h = none := fun _ _ => rfl
 refine answers_of hT (orcF_none rfl) ?_
 simp only [oo, om, op, og, ci, cl, c42, annK, lkG, lkR, reduceIte, Nat.reduceEqDiff, reduceCtorEq, List.cons.injEq, and_true, and_false, false_and, true_and]
 refine zS ?_
 refine zR (zO (by simp [↓crb, ↓cst, ccl, clen]; rfl) ?_)
 simp only [zT, zB]
 refine zS ?_
 refine zR (zO (by simp [↓crb, ↓cst, ccl, clen]; rfl) ?_)
 simp only [zT, zB]
 refine zS ?_
 refine zS ?_
 refine zR (zO (by simp [↓crb, ↓cst, ccl, clen]; rfl) ?_)
 simp only [zT, zB]
 refine zL ?_
 refine runs_loopG_inv (fun mm1 σ => ∃ (k1 : Nat) (i1 : Int), i1 = k1 ∧ n - k1 = mm1 ∧ k1 ≤ n ∧ ((k1 = 0 ∧ σ = ⟨[.any, I (n : Int), .ref 0 0 0, .any, .any, .sl 3 0 0 true, .sl 2 0 0 true, I i1, .any, .any, .any, .any, .any, .any, .any, .any, .any, .any, .any, .any, .any, .any, .any, .any, .any, .any, .any, .any, .any, .any, .any, .any, .any, .any, .any, .any, .any, .any, .any, .any, .any, .any, .any, .any, .any, .any, .any, .any, .any, .any, .any], [some (.row 26 [cells]), none, some (.row 1 []), some (.row 1 [])]⟩) ∨ (∃ (p1 : Nat) (ac1 : List (Int)), k1 = p1 + 1 ∧ ac1 = upTo (k1) ∧ ac1.length = p1 + 1 ∧ σ = ⟨[.any, I (n : Int), .ref 0 0 0, .any, .any, .sl 3 0 (p1 + 1) false, .sl 2 0 0 true, I i1, .any, .any, .any, .any, .any, .any, .any, .any, .any, .any, .any, .any, .any, .any, .any, .any, .any, .any, .any, .any, .any, .any, .any, .any, .any, .any, .any, .any, .any, .any, .any, .any, .any, .any, .any, .any, .any, .any, .any, .any, .any, .any, .any], [some (.row 26 [cells]), none, some (.row 1 []), some (.row 1 (ac1.map rI))]⟩))) (by simp [↓crb, ↓cst, ccl, clen] <;> first | exact ⟨rfl, rfl⟩ | rfl) (⟨0, 0, rfl, rfl, Nat.zero_le _, .inl ⟨rfl, rfl⟩⟩) ?_
 rintro mm1 σ ⟨k1, i1, hik1, rfl, hkl1, ⟨hkz1, rfl⟩ | ⟨p1, ac1, hkp1, hac1, hacl1, rfl⟩⟩
 ·refine zS ?_
  refine zS ?_
  refine zR (zO (by simp [↓crb, ↓cst, ccl, clen]; rfl) ?_)
  simp only [zT, zB]
  refine runs_cond_split (x := _) rfl (fun hlt1 => ?_) (fun hlt1 => ?_)
  ·have hltt1 := of_decide_eq_true hlt1
   have hk01 : k1 < n := by omega
   have hi01 : 0 ≤ i1 := by omega
   have htn1 : i1.toNat = k1 := by omega
   have hwi1 : W .i64 (i1 + 1) = i1 + 1 := W_small (by omega)
   have hF1 : upTo (k1 + 1) = upTo k1 ++ [i1] := by rw [upTo_succ, hik1]
   have hnx1 : [i1] = upTo (k1 + 1) := by rw [hF1, hkz1]; rfl
   have hap1 : [[I i1]] = [i1].map rI := rfl
   have HH1 := zA ccl (zA clen (zA hi01 (zA htn1 (zA hk01 hwi1))))
   refine zK ?_
   simp only [zT, zB]
   refine zS ?_
   refine zL ?_
   refine zR (zO (by simp [↓crb, ↓cst, zI, HH1]; rfl) ?_)
   simp only [zT, zB]
   refine zR (zO (by simp [↓crb, ↓cst, zI, HH1]; rfl) ?_)
   simp only [zT, zB]
   exact ⟨n - (k1 + 1), _, _, by omega, by simp [↓crb, ↓cst, zI, HH1] <;> first | exact ⟨rfl, rfl⟩ | rfl, k1 + 1, i1 + 1, by omega, rfl, by omega, .inr ⟨0, [i1], by omega, hnx1, rfl, rfl⟩⟩
  ·have hx1 := of_decide_eq_false hlt1
   have hkE1 : k1 = n := by omega
   refine runs_exit ?_
   simp only [zT, zB, if_true, if_false, reduceIte, Nat.reduceEqDiff, Nat.succ_ne_zero, Nat.one_ne_zero, Nat.zero_ne_one]
   refine zS ?_
   refine zS ?_
   refine zR (zO (by simp [↓crb, ↓cst, ccl, clen]; rfl) ?_)
   simp only [zT, zB]
   refine zL ?_
   refine runs_loopG_inv (fun mm2 σ => ∃ (k2 : Nat) (i2 : Int) (L : List Int) (tL : Bool), i2 = k2 ∧ n - k2 = mm2 ∧ k2 ≤ n ∧ L.length = n - k2 ∧ ((k2 = 0 ∧ L = upTo n ∧ σ = ⟨[.any, I (n : Int), .ref 0 0 0, .any, .any, .sl 4 0 L.length tL, .sl 5 0 0 true, .any, I i2, .any, .any, .any, .any, .any, .any, .any, .any, .any, .any, .any, .any, .any, .any, .any, .any, .any, .any, .any, .any, .any, .any, .any, .any, .any, .any, .any, .any, .any, .any, .any, .any, .any, .any, .any, .any, .any, .any, .any, .any, .any, .any], [some (.row 26 [cells]), none, none, none, some (.row 1 (L.map rI)), some (.row 1 [])]⟩) ∨ (∃ (p2 : Nat) (ac2 : List Int), k2 = p2 + 1 ∧ ac2 ++ ordGo ((W_.o.take n).drop k2) L = ordW W_.o n ∧ ac2.length = p2 + 1 ∧ σ = ⟨[.any, I (n : Int), .ref 0 0 0, .any, .any, .sl 4 0 L.length tL, .sl 5 0 (p2 + 1) false, .any, I i2, .any, .any, .any, .any, .any, .any, .any, .any, .any, .any, .any, .any, .any, .any, .any, .any, .any, .any, .any, .any, .any, .any, .any, .any, .any, .any, .any, .any, .any, .any, .any, .any, .any, .any, .any, .any, .any, .any, .any, .any, .any, .any], [some (.row 26 [cells]), none, none, none, some (.row 1 (L.map rI)), some (.row 1 (ac2.map rI))]⟩))) (by simp [↓crb, ↓cst, ccl, clen] <;> first | exact ⟨rfl, rfl⟩ | rfl) (⟨0, 0, [], true, rfl, rfl, Nat.zero_le _, by simp; omega, .inl ⟨rfl, by rw [← hkE1, hkz1]; rfl, rfl⟩⟩) ?_
   rintro mm2 σ ⟨k2, i2, L, tL, hik2, rfl, hkl2, hLl, ⟨hkz2, hL0, rfl⟩ | ⟨p2, ac2, hkp2, hac2, hacl2, rfl⟩⟩
   ·refine zS ?_
    refine zS ?_
    refine zR (zO (by simp [↓crb, ↓cst, ccl, clen]; rfl) ?_)
    simp only [zT, zB]
    refine runs_cond_split (x := _) rfl (fun hlt2 => ?_) (fun hlt2 => ?_)
    ·have hltt2 := of_decide_eq_true hlt2
     have hk2n : k2 < n := by omega
     have hi20 : 0 ≤ i2 := by omega
     have htn2 : i2.toNat = k2 := by omega
     have hi26 : i2 < 6 := by omega
     have hwi2 : W .i64 (i2 + 1) = i2 + 1 := W_small (by omega)
     have hco := co k2 (by omega)
     have hob := mins_fit (k := k2) bo.2
     have hdr : (W_.o.take n).drop k2 = W_.o.getD k2 0 :: (W_.o.take n).drop (k2 + 1) := by
      rw [List.drop_eq_getElem_cons (by rw [List.length_take, bo.1]; omega), List.getElem_take, List.getD_eq_getElem?_getD, List.getElem?_eq_getElem (by rw [bo.1]; omega)]; rfl
     generalize W_.o.getD k2 0 = ob at *
     obtain ⟨ob1, ob2⟩ := hob
     have hLp : (0 : Int) < (L.length : Int) := by omega
     have hLz : ¬ L.length = 0 := by omega
     have hLzi : ¬ (L.length : Int) = 0 := by omega
     have hLzb : ((L.length : Int) == 0) = false := by rw [beq_eq_false_iff_ne]; exact hLzi
     have hLm : ¬ ((L.length : Int) = -1) := by omega
     have hq1 := Int.tmod_nonneg (L.length : Int) ob1
     have hq2 := Int.tmod_lt_of_pos ob hLp
     have u0 : W .i64 ob = ob := W_fit (by omega)
     have hL6 : L.length ≤ 6 := by omega
     have hgo : ordGo (ob :: (W_.o.take n).drop (k2 + 1)) L = L.getD (ob.tmod (L.length : Int)).toNat 0 :: ordGo ((W_.o.take n).drop (k2 + 1)) (L.eraseIdx (ob.tmod (L.length : Int)).toNat) := rfl
     generalize hQ : ob.tmod (L.length : Int) = Qi at *
     have u1 : W .i64 Qi = Qi := W_fit (by omega)
     obtain ⟨qn, hqn⟩ : ∃ qn : Nat, Qi.toNat = qn := ⟨_, rfl⟩
     rw [hqn] at hgo
     have hql : qn < L.length := by omega
     have hqi : Qi = (qn : Int) := by omega
     have hqle : qn ≤ L.length := by omega
     have hql2 : Qi ≤ (L.length : Int) := by omega
     have hql3 : Qi + 1 ≤ (L.length : Int) := by omega
     have hq3 : 0 ≤ Qi + 1 := by omega
     have hwq : W .i64 (Qi + 1) = Qi + 1 := W_small (by omega)
     have hqn1 : (Qi + 1).toNat = qn + 1 := by omega
     have hLq : L.getD qn 0 = L[qn] := by rw [List.getD_eq_getElem?_getD, List.getElem?_eq_getElem hql]; rfl
     rw [hLq] at hgo
     have hLg : (L.map rI)[qn]? = some [I L[qn]] := by rw [List.getElem?_map, List.getElem?_eq_getElem hql]; rfl
     generalize hLv : L[qn] = lv at *
     have hLr : ((L.map rI).all fun r => r.length == 1) = true := by simp [rI]
     have hLlen : (L.map rI).length = L.length := by simp
     have her : L.eraseIdx qn = L.take qn ++ L.drop (qn + 1) := List.eraseIdx_eq_take_drop_succ L qn
     have hnx2 : [lv] ++ ordGo ((W_.o.take n).drop (k2 + 1)) (L.eraseIdx qn) = ordW W_.o n := by
      have e : ordW W_.o n = ordGo ((W_.o.take n).drop k2) L := by rw [hkz2, hL0]; rfl
      rw [e, hdr, hgo]; rfl
     have HH2 := zA ccl (zA clen (zA hi20 (zA htn2 (zA hi26 (zA hwi2 (zA hco (zA hLz (zA hLzi (zA hLzb (zA hLm (zA u0 (zA u1 (zA hQ (zA hqn (zA hq1 (zA hq2 (zA hql (zA hqle (zA hql2 (zA hql3 (zA hq3 (zA hwq (zA hqn1 (zA hLg (zA hLv hLlen)))))))))))))))))))))))))
     refine zK ?_
     simp only [zT, zB]
     refine zS ?_
     refine zL ?_
     refine zS ?_
     refine zR (zO (by simp [↓crb, ↓cst, ↓hLr, zI, -List.map_take, -List.map_drop, -List.length_map, -List.getElem?_map, evOpt, sliceA, bounds, hiB, bound, HH2]; rfl) ?_)
     simp only [zT, zB]
     refine zS ?_
     refine zR (zO (by simp [↓crb, ↓cst, ↓hLr, zI, -List.map_take, -List.map_drop, -List.length_map, -List.getElem?_map, evOpt, sliceA, bounds, hiB, bound, HH2]; rfl) ?_)
     simp only [zT, zB]
     obtain ⟨fu, cv, ch, hcall, hc0, hc1⟩ := a18h P T h18 [some (.row 26 [cells]), none, none, none, some (.row 1 (L.map rI)), some (.row 1 []), some (.row 1 [[I lv]]), some (.row 1 [[I lv]]), none, none, none, none, none, none, none, none, none, none] 4 qn (tL && (qn == L.length)) L rfl hqle (by omega)
     by_cases hz : qn = 0
     ·by_cases he : qn + 1 = L.length
      ·obtain ⟨rfl, rfl⟩ := hc0 hz
       clear hc1
       have hdl : ((L.map rI).drop (qn + 1)).take (L.length - (qn + 1)) = (L.drop (qn + 1)).map rI := by rw [List.map_drop]; exact List.take_of_length_le (by simp)
       have hdl2 : (L.map rI).drop (qn + 1) = (L.drop (qn + 1)).map rI := by rw [List.map_drop]
       have l1 : (L.take qn).length = qn := by rw [List.length_take]; omega
       have l2 : (L.drop (qn + 1)).length = L.length - (qn + 1) := by rw [List.length_drop]
       have hs1 : qn + 1 + (L.length - (qn + 1)) = L.length := by omega
       have hs2 : qn + 1 + (L.length - (qn + 1)) ≤ L.length := by omega
       generalize L.take qn = T1 at *
       generalize L.drop (qn + 1) = T2 at *
       subst hz
       obtain rfl : T1 = [] := List.eq_nil_of_length_eq_zero l1
       simp only [List.nil_append] at her
       simp only [Nat.zero_add] at hdl hdl2 l2 hs1 hs2
       obtain rfl : T2 = [] := List.eq_nil_of_length_eq_zero (by omega)
       have hls : L.length - 1 = 0 := by omega
       have hls3 : 1 ≤ L.length := by omega
       refine runs_drwN fu (by simp (maxSteps := 3000000) [↓crb, ↓cst, ↓hLr, zI, -List.map_take, -List.map_drop, -List.length_map, -List.getElem?_map, evOpt, sliceA, bounds, hiB, bound, HH2, hcall, h18, ↓o18, ↓f18, ↓heB, ↓eqB_rI, ↓hdl, ↓hdl2, hs1, hs2, hls, hls3]; rfl) ?_
       simp only [zT, zB]
       refine zR (zO (by simp [↓crb, ↓cst, ↓hLr, zI, -List.map_take, -List.map_drop, -List.length_map, -List.getElem?_map, evOpt, sliceA, bounds, hiB, bound, HH2, hcall, h18, ↓o18, ↓f18, ↓heB, ↓eqB_rI, ↓hdl, ↓hdl2, hs1, hs2, hls, hls3]; rfl) ?_)
       simp only [zT, zB]
       have hEl : (L.eraseIdx 0).length = 0 := by rw [her]; simp [l1]
       have hEn : (L.eraseIdx 0).length = n - (k2 + 1) := by rw [hEl]; omega
       rw [her] at hnx2 hEl hEn
       exact ⟨n - (k2 + 1), _, _, by omega, by simp [↓crb, ↓cst, ↓hLr, zI, -List.map_take, -List.map_drop, -List.length_map, -List.getElem?_map, evOpt, sliceA, bounds, hiB, bound, HH2, hcall, h18, ↓o18, ↓f18, ↓heB, ↓eqB_rI, ↓hdl, ↓hdl2, hs1, hs2, hls, hls3, l1, hEl] <;> rfl, k2 + 1, i2 + 1, ([] : List Int), true, by omega, rfl, by omega, hEn, .inr ⟨0, [lv], by omega, hnx2, rfl, rfl⟩⟩
      ·obtain ⟨rfl, rfl⟩ := hc0 hz
       clear hc1
       have hdl : ((L.map rI).drop (qn + 1)).take (L.length - (qn + 1)) = (L.drop (qn + 1)).map rI := by rw [List.map_drop]; exact List.take_of_length_le (by simp)
       have hdl2 : (L.map rI).drop (qn + 1) = (L.drop (qn + 1)).map rI := by rw [List.map_drop]
       have l1 : (L.take qn).length = qn := by rw [List.length_take]; omega
       have l2 : (L.drop (qn + 1)).length = L.length - (qn + 1) := by rw [List.length_drop]
       have hs1 : qn + 1 + (L.length - (qn + 1)) = L.length := by omega
       have hs2 : qn + 1 + (L.length - (qn + 1)) ≤ L.length := by omega
       generalize L.take qn = T1 at *
       generalize L.drop (qn + 1) = T2 at *
       subst hz
       obtain rfl : T1 = [] := List.eq_nil_of_length_eq_zero l1
       simp only [List.nil_append] at her
       simp only [Nat.zero_add] at hdl hdl2 l2 hs1 hs2
       obtain ⟨b2, T3, rfl⟩ : ∃ b2 T3, T2 = b2 :: T3 := by
        cases T2 with
        | nil => simp at l2; omega
        | cons a l => exact ⟨a, l, rfl⟩
       simp only [List.length_cons] at l2
       have hls : L.length - (1) = T3.length + 1 := by omega
       have t3 : T3.length + 1 ≤ 1048576 := by omega
       have t3b : 0 + (T3.length + 1) ≤ 1048576 := by omega
       have t3a : ((T3.map rI).all fun r => r.length == 1) = true := by simp [rI]
       have t3r := fun n => rI_rb n 4 T3
       have t3l : (T3.map rI).length = T3.length := by simp
       have hls3 : 1 + (T3.length + 1) ≤ L.length := by omega
       have tk3 : (T3.map rI).take T3.length = T3.map rI := List.take_of_length_le (by simp)
       refine runs_drwN fu (by simp (maxSteps := 3000000) [↓crb, ↓cst, ↓hLr, zI, -List.map_take, -List.map_drop, -List.length_map, -List.getElem?_map, evOpt, sliceA, bounds, hiB, bound, HH2, hcall, h18, ↓o18, ↓f18, ↓heB, ↓eqB_rI, ↓hdl, ↓hdl2, hs1, hs2, hls, hls3, t3, t3b, ↓t3a, ↓t3r, t3l, tk3]; rfl) ?_
       simp only [zT, zB]
       refine zR (zO (by simp [↓crb, ↓cst, ↓hLr, zI, -List.map_take, -List.map_drop, -List.length_map, -List.getElem?_map, evOpt, sliceA, bounds, hiB, bound, HH2, hcall, h18, ↓o18, ↓f18, ↓heB, ↓eqB_rI, ↓hdl, ↓hdl2, hs1, hs2, hls, hls3, t3, t3b, ↓t3a, ↓t3r, t3l, tk3]; rfl) ?_)
       simp only [zT, zB]
       have hEl : (L.eraseIdx 0).length = T3.length + 1 := by rw [her]; simp [l1]
       have hEn : (L.eraseIdx 0).length = n - (k2 + 1) := by rw [hEl]; omega
       rw [her] at hnx2 hEl hEn
       exact ⟨n - (k2 + 1), _, _, by omega, by simp [↓crb, ↓cst, ↓hLr, zI, -List.map_take, -List.map_drop, -List.length_map, -List.getElem?_map, evOpt, sliceA, bounds, hiB, bound, HH2, hcall, h18, ↓o18, ↓f18, ↓heB, ↓eqB_rI, ↓hdl, ↓hdl2, hs1, hs2, hls, hls3, t3, t3b, ↓t3a, ↓t3r, t3l, tk3, l1, hEl] <;> rfl, k2 + 1, i2 + 1, (b2 :: T3), false, by omega, rfl, by omega, hEn, .inr ⟨0, [lv], by omega, hnx2, rfl, rfl⟩⟩
     ·by_cases he : qn + 1 = L.length
      ·obtain ⟨rfl, rfl⟩ := hc1 (by omega)
       clear hc0
       have hdl : ((L.map rI).drop (qn + 1)).take (L.length - (qn + 1)) = (L.drop (qn + 1)).map rI := by rw [List.map_drop]; exact List.take_of_length_le (by simp)
       have hdl2 : (L.map rI).drop (qn + 1) = (L.drop (qn + 1)).map rI := by rw [List.map_drop]
       have l1 : (L.take qn).length = qn := by rw [List.length_take]; omega
       have l2 : (L.drop (qn + 1)).length = L.length - (qn + 1) := by rw [List.length_drop]
       have hs1 : qn + 1 + (L.length - (qn + 1)) = L.length := by omega
       have hs2 : qn + 1 + (L.length - (qn + 1)) ≤ L.length := by omega
       generalize L.take qn = T1 at *
       generalize L.drop (qn + 1) = T2 at *
       have tkq : (T1.map rI).take qn = T1.map rI := List.take_of_length_le (by simp [l1])
       have hq0 : ¬ qn = 0 := hz
       have t1l : (T1.map rI).length = qn := by simp [l1]
       have t1a : ((T1.map rI).all fun r => r.length == 1) = true := by simp [rI]
       have t1n : T1.map rI ≠ [] := by intro e; rw [e] at t1l; simp at t1l; omega
       have t1r := fun n => rI_rb n 4 T1
       obtain rfl : T2 = [] := List.eq_nil_of_length_eq_zero (by omega)
       simp only [List.append_nil] at her
       have hls : L.length - (qn + 1) = 0 := by omega
       have hls3 : qn + 1 ≤ L.length := by omega
       refine runs_drwN fu (by simp (maxSteps := 3000000) [↓crb, ↓cst, ↓hLr, zI, -List.map_take, -List.map_drop, -List.length_map, -List.getElem?_map, evOpt, sliceA, bounds, hiB, bound, HH2, hcall, h18, ↓o18, ↓f18, ↓heB, ↓eqB_rI, ↓hdl, ↓hdl2, hs1, hs2, hls, hls3, tkq, hq0, t1l, ↓t1a, t1n, ↓t1r]; rfl) ?_
       simp only [zT, zB]
       refine zR (zO (by simp [↓crb, ↓cst, ↓hLr, zI, -List.map_take, -List.map_drop, -List.length_map, -List.getElem?_map, evOpt, sliceA, bounds, hiB, bound, HH2, hcall, h18, ↓o18, ↓f18, ↓heB, ↓eqB_rI, ↓hdl, ↓hdl2, hs1, hs2, hls, hls3, tkq, hq0, t1l, ↓t1a, t1n, ↓t1r]; rfl) ?_)
       simp only [zT, zB]
       have hEl : (L.eraseIdx qn).length = qn := by rw [her]; simp [l1]
       have hEn : (L.eraseIdx qn).length = n - (k2 + 1) := by rw [hEl]; omega
       rw [her] at hnx2 hEl hEn
       exact ⟨n - (k2 + 1), _, _, by omega, by simp [↓crb, ↓cst, ↓hLr, zI, -List.map_take, -List.map_drop, -List.length_map, -List.getElem?_map, evOpt, sliceA, bounds, hiB, bound, HH2, hcall, h18, ↓o18, ↓f18, ↓heB, ↓eqB_rI, ↓hdl, ↓hdl2, hs1, hs2, hls, hls3, tkq, hq0, t1l, ↓t1a, t1n, ↓t1r, l1, hEl] <;> rfl, k2 + 1, i2 + 1, T1, false, by omega, rfl, by omega, hEn, .inr ⟨0, [lv], by omega, hnx2, rfl, rfl⟩⟩
      ·obtain ⟨rfl, rfl⟩ := hc1 (by omega)
       clear hc0
       have hdl : ((L.map rI).drop (qn + 1)).take (L.length - (qn + 1)) = (L.drop (qn + 1)).map rI := by rw [List.map_drop]; exact List.take_of_length_le (by simp)
       have hdl2 : (L.map rI).drop (qn + 1) = (L.drop (qn + 1)).map rI := by rw [List.map_drop]
       have l1 : (L.take qn).length = qn := by rw [List.length_take]; omega
       have l2 : (L.drop (qn + 1)).length = L.length - (qn + 1) := by rw [List.length_drop]
       have hs1 : qn + 1 + (L.length - (qn + 1)) = L.length := by omega
       have hs2 : qn + 1 + (L.length - (qn + 1)) ≤ L.length := by omega
       generalize L.take qn = T1 at *
       generalize L.drop (qn + 1) = T2 at *
       have tkq : (T1.map rI).take qn = T1.map rI := List.take_of_length_le (by simp [l1])
       have hq0 : ¬ qn = 0 := hz
       have t1l : (T1.map rI).length = qn := by simp [l1]
       have t1a : ((T1.map rI).all fun r => r.length == 1) = true := by simp [rI]
       have t1n : T1.map rI ≠ [] := by intro e; rw [e] at t1l; simp at t1l; omega
       have t1r := fun n => rI_rb n 4 T1
       obtain ⟨b2, T3, rfl⟩ : ∃ b2 T3, T2 = b2 :: T3 := by
        cases T2 with
        | nil => simp at l2; omega
        | cons a l => exact ⟨a, l, rfl⟩
       simp only [List.length_cons] at l2
       have hls : L.length - (qn + 1) = T3.length + 1 := by omega
       have t3 : T3.length + 1 ≤ 1048576 := by omega
       have t3b : qn + (T3.length + 1) ≤ 1048576 := by omega
       have t3a : ((T3.map rI).all fun r => r.length == 1) = true := by simp [rI]
       have t3r := fun n => rI_rb n 4 T3
       have t3l : (T3.map rI).length = T3.length := by simp
       have hls3 : qn + 1 + (T3.length + 1) ≤ L.length := by omega
       have tk3 : (T3.map rI).take T3.length = T3.map rI := List.take_of_length_le (by simp)
       refine runs_drwN fu (by simp (maxSteps := 3000000) [↓crb, ↓cst, ↓hLr, zI, -List.map_take, -List.map_drop, -List.length_map, -List.getElem?_map, evOpt, sliceA, bounds, hiB, bound, HH2, hcall, h18, ↓o18, ↓f18, ↓heB, ↓eqB_rI, ↓hdl, ↓hdl2, hs1, hs2, hls, hls3, tkq, hq0, t1l, ↓t1a, t1n, ↓t1r, t3, t3b, ↓t3a, ↓t3r, t3l, tk3]; rfl) ?_
       simp only [zT, zB]
       refine zR (zO (by simp [↓crb, ↓cst, ↓hLr, zI, -List.map_take, -List.map_drop, -List.length_map, -List.getElem?_map, evOpt, sliceA, bounds, hiB, bound, HH2, hcall, h18, ↓o18, ↓f18, ↓heB, ↓eqB_rI, ↓hdl, ↓hdl2, hs1, hs2, hls, hls3, tkq, hq0, t1l, ↓t1a, t1n, ↓t1r, t3, t3b, ↓t3a, ↓t3r, t3l, tk3]; rfl) ?_)
       simp only [zT, zB]
       have hEl : (L.eraseIdx qn).length = qn + (T3.length + 1) := by rw [her]; simp [l1]
       have hEn : (L.eraseIdx qn).length = n - (k2 + 1) := by rw [hEl]; omega
       rw [her] at hnx2 hEl hEn
       exact ⟨n - (k2 + 1), _, _, by omega, by simp [↓crb, ↓cst, ↓hLr, zI, -List.map_take, -List.map_drop, -List.length_map, -List.getElem?_map, evOpt, sliceA, bounds, hiB, bound, HH2, hcall, h18, ↓o18, ↓f18, ↓heB, ↓eqB_rI, ↓hdl, ↓hdl2, hs1, hs2, hls, hls3, tkq, hq0, t1l, ↓t1a, t1n, ↓t1r, t3, t3b, ↓t3a, ↓t3r, t3l, tk3, l1, hEl] <;> rfl, k2 + 1, i2 + 1, (T1 ++ b2 :: T3), false, by omega, rfl, by omega, hEn, .inr ⟨0, [lv], by omega, hnx2, rfl, rfl⟩⟩
    ·have hx2 := of_decide_eq_false hlt2
     have hkE2 : k2 = n := by omega
     have hn0 : n = 0 := by omega
     have hoe : ordW W_.o n = [] := by rw [hn0]; rfl
     rw [hoe]
     refine runs_exit ?_
     simp only [zT, zB, if_true, if_false, reduceIte, Nat.reduceEqDiff, Nat.succ_ne_zero, Nat.one_ne_zero, Nat.zero_ne_one]
     refine zS ?_
     refine zR (zO (by simp [↓crb, ↓cst, ccl, clen]; rfl) ?_)
     simp only [zT, zB]
     refine runs_ret ?_
     simp [↓crb, ↓cst, ccl, clen, trim, encE]
   ·have tk2 : (ac2.map rI).take (p2 + 1) = ac2.map rI := List.take_of_length_le (by simp [hacl2])
    have hlac2 : p2 + 1 + 1 ≤ 1048576 := by omega
    have hr32 : ∀ e : Int, (rI e).length = 1 := fun _ => rfl
    have hrj2 := fun n => rI_rb n 4 ac2
    have hal2 : (ac2.map rI).length = p2 + 1 := by rw [List.length_map, hacl2]
    have HH3 := zA ccl (zA clen (zA tk2 (zA hal2 (zA hlac2 (zA hacl2 hr32)))))
    refine zS ?_
    refine zS ?_
    refine zR (zO (by simp [↓crb, ↓cst, ↓hrj2, HH3]; rfl) ?_)
    simp only [zT, zB]
    refine runs_cond_split (x := _) rfl (fun hlt2 => ?_) (fun hlt2 => ?_)
    ·have hltt2 := of_decide_eq_true hlt2
     have hk2n : k2 < n := by omega
     have hi20 : 0 ≤ i2 := by omega
     have htn2 : i2.toNat = k2 := by omega
     have hi26 : i2 < 6 := by omega
     have hwi2 : W .i64 (i2 + 1) = i2 + 1 := W_small (by omega)
     have hco := co k2 (by omega)
     have hob := mins_fit (k := k2) bo.2
     have hdr : (W_.o.take n).drop k2 = W_.o.getD k2 0 :: (W_.o.take n).drop (k2 + 1) := by
      rw [List.drop_eq_getElem_cons (by rw [List.length_take, bo.1]; omega), List.getElem_take, List.getD_eq_getElem?_getD, List.getElem?_eq_getElem (by rw [bo.1]; omega)]; rfl
     generalize W_.o.getD k2 0 = ob at *
     obtain ⟨ob1, ob2⟩ := hob
     have hLp : (0 : Int) < (L.length : Int) := by omega
     have hLz : ¬ L.length = 0 := by omega
     have hLzi : ¬ (L.length : Int) = 0 := by omega
     have hLzb : ((L.length : Int) == 0) = false := by rw [beq_eq_false_iff_ne]; exact hLzi
     have hLm : ¬ ((L.length : Int) = -1) := by omega
     have hq1 := Int.tmod_nonneg (L.length : Int) ob1
     have hq2 := Int.tmod_lt_of_pos ob hLp
     have u0 : W .i64 ob = ob := W_fit (by omega)
     have hL6 : L.length ≤ 6 := by omega
     have hgo : ordGo (ob :: (W_.o.take n).drop (k2 + 1)) L = L.getD (ob.tmod (L.length : Int)).toNat 0 :: ordGo ((W_.o.take n).drop (k2 + 1)) (L.eraseIdx (ob.tmod (L.length : Int)).toNat) := rfl
     generalize hQ : ob.tmod (L.length : Int) = Qi at *
     have u1 : W .i64 Qi = Qi := W_fit (by omega)
     obtain ⟨qn, hqn⟩ : ∃ qn : Nat, Qi.toNat = qn := ⟨_, rfl⟩
     rw [hqn] at hgo
     have hql : qn < L.length := by omega
     have hqi : Qi = (qn : Int) := by omega
     have hqle : qn ≤ L.length := by omega
     have hql2 : Qi ≤ (L.length : Int) := by omega
     have hql3 : Qi + 1 ≤ (L.length : Int) := by omega
     have hq3 : 0 ≤ Qi + 1 := by omega
     have hwq : W .i64 (Qi + 1) = Qi + 1 := W_small (by omega)
     have hqn1 : (Qi + 1).toNat = qn + 1 := by omega
     have hLq : L.getD qn 0 = L[qn] := by rw [List.getD_eq_getElem?_getD, List.getElem?_eq_getElem hql]; rfl
     rw [hLq] at hgo
     have hLg : (L.map rI)[qn]? = some [I L[qn]] := by rw [List.getElem?_map, List.getElem?_eq_getElem hql]; rfl
     generalize hLv : L[qn] = lv at *
     have hLr : ((L.map rI).all fun r => r.length == 1) = true := by simp [rI]
     have hLlen : (L.map rI).length = L.length := by simp
     have her : L.eraseIdx qn = L.take qn ++ L.drop (qn + 1) := List.eraseIdx_eq_take_drop_succ L qn
     rw [hdr, hgo] at hac2
     have hnx2 : (ac2 ++ [lv]) ++ ordGo ((W_.o.take n).drop (k2 + 1)) (L.eraseIdx qn) = ordW W_.o n := by rw [← hac2, List.append_assoc]; rfl
     have hnl2 : (ac2 ++ [lv]).length = p2 + 1 + 1 := by simp [hacl2]
     have hap2 : ac2.map rI ++ [[I lv]] = (ac2 ++ [lv]).map rI := by rw [List.map_append]; rfl
     generalize ac2 ++ [lv] = nx2 at *
     have hrx2 := fun n => rI_rb n 4 nx2
     have HH4 := zA hi20 (zA htn2 (zA hi26 (zA hwi2 (zA hco (zA hLz (zA hLzi (zA hLzb (zA hLm (zA u0 (zA u1 (zA hQ (zA hqn (zA hq1 (zA hq2 (zA hql (zA hqle (zA hql2 (zA hql3 (zA hq3 (zA hwq (zA hqn1 (zA hLg (zA hLv (zA hLlen hap2))))))))))))))))))))))))
     have HH5 := zA crb (zA cst (zA hrj2 (zA hLr hrx2)))
     refine zK ?_
     simp only [zT, zB]
     refine zS ?_
     refine zL ?_
     refine zS ?_
     refine zR (zO (by simp [HH3, zI, -List.map_take, -List.map_drop, -List.length_map, -List.getElem?_map, evOpt, sliceA, bounds, hiB, bound, HH4, ↓HH5]; rfl) ?_)
     simp only [zT, zB]
     refine zS ?_
     refine zR (zO (by simp [HH3, zI, -List.map_take, -List.map_drop, -List.length_map, -List.getElem?_map, evOpt, sliceA, bounds, hiB, bound, HH4, ↓HH5]; rfl) ?_)
     simp only [zT, zB]
     obtain ⟨fu, cv, ch, hcall, hc0, hc1⟩ := a18h P T h18 [some (.row 26 [cells]), none, none, none, some (.row 1 (L.map rI)), none, some (.row 1 [[I lv]]), some (.row 1 (nx2.map rI)), none, none, none, none, none, none, none, none, none, none] 4 qn (tL && (qn == L.length)) L rfl hqle (by omega)
     by_cases hz : qn = 0
     ·by_cases he : qn + 1 = L.length
      ·obtain ⟨rfl, rfl⟩ := hc0 hz
       clear hc1
       have hdl : ((L.map rI).drop (qn + 1)).take (L.length - (qn + 1)) = (L.drop (qn + 1)).map rI := by rw [List.map_drop]; exact List.take_of_length_le (by simp)
       have hdl2 : (L.map rI).drop (qn + 1) = (L.drop (qn + 1)).map rI := by rw [List.map_drop]
       have l1 : (L.take qn).length = qn := by rw [List.length_take]; omega
       have l2 : (L.drop (qn + 1)).length = L.length - (qn + 1) := by rw [List.length_drop]
       have hs1 : qn + 1 + (L.length - (qn + 1)) = L.length := by omega
       have hs2 : qn + 1 + (L.length - (qn + 1)) ≤ L.length := by omega
       generalize L.take qn = T1 at *
       generalize L.drop (qn + 1) = T2 at *
       subst hz
       obtain rfl : T1 = [] := List.eq_nil_of_length_eq_zero l1
       simp only [List.nil_append] at her
       simp only [Nat.zero_add] at hdl hdl2 l2 hs1 hs2
       obtain rfl : T2 = [] := List.eq_nil_of_length_eq_zero (by omega)
       have hls : L.length - 1 = 0 := by omega
       have hls3 : 1 ≤ L.length := by omega
       refine runs_drwN fu (by simp (maxSteps := 3000000) [HH3, zI, -List.map_take, -List.map_drop, -List.length_map, -List.getElem?_map, evOpt, sliceA, bounds, hiB, bound, HH4, ↓HH5, hcall, h18, ↓o18, ↓f18, ↓heB, ↓eqB_rI, ↓hdl, ↓hdl2, hs1, hs2, hls, hls3]; rfl) ?_
       simp only [zT, zB]
       refine zR (zO (by simp [HH3, zI, -List.map_take, -List.map_drop, -List.length_map, -List.getElem?_map, evOpt, sliceA, bounds, hiB, bound, HH4, ↓HH5, hcall, h18, ↓o18, ↓f18, ↓heB, ↓eqB_rI, ↓hdl, ↓hdl2, hs1, hs2, hls, hls3]; rfl) ?_)
       simp only [zT, zB]
       have hEl : (L.eraseIdx 0).length = 0 := by rw [her]; simp [l1]
       have hEn : (L.eraseIdx 0).length = n - (k2 + 1) := by rw [hEl]; omega
       rw [her] at hnx2 hEl hEn
       exact ⟨n - (k2 + 1), _, _, by omega, by simp [HH3, zI, -List.map_take, -List.map_drop, -List.length_map, -List.getElem?_map, evOpt, sliceA, bounds, hiB, bound, HH4, ↓HH5, hcall, h18, ↓o18, ↓f18, ↓heB, ↓eqB_rI, ↓hdl, ↓hdl2, hs1, hs2, hls, hls3, l1, hEl] <;> rfl, k2 + 1, i2 + 1, ([] : List Int), true, by omega, rfl, by omega, hEn, .inr ⟨p2 + 1, nx2, by omega, hnx2, hnl2, rfl⟩⟩
      ·obtain ⟨rfl, rfl⟩ := hc0 hz
       clear hc1
       have hdl : ((L.map rI).drop (qn + 1)).take (L.length - (qn + 1)) = (L.drop (qn + 1)).map rI := by rw [List.map_drop]; exact List.take_of_length_le (by simp)
       have hdl2 : (L.map rI).drop (qn + 1) = (L.drop (qn + 1)).map rI := by rw [List.map_drop]
       have l1 : (L.take qn).length = qn := by rw [List.length_take]; omega
       have l2 : (L.drop (qn + 1)).length = L.length - (qn + 1) := by rw [List.length_drop]
       have hs1 : qn + 1 + (L.length - (qn + 1)) = L.length := by omega
       have hs2 : qn + 1 + (L.length - (qn + 1)) ≤ L.length := by omega
       generalize L.take qn = T1 at *
       generalize L.drop (qn + 1) = T2 at *
       subst hz
       obtain rfl : T1 = [] := List.eq_nil_of_length_eq_zero l1
       simp only [List.nil_append] at her
       simp only [Nat.zero_add] at hdl hdl2 l2 hs1 hs2
       obtain ⟨b2, T3, rfl⟩ : ∃ b2 T3, T2 = b2 :: T3 := by
        cases T2 with
        | nil => simp at l2; omega
        | cons a l => exact ⟨a, l, rfl⟩
       simp only [List.length_cons] at l2
       have hls : L.length - (1) = T3.length + 1 := by omega
       have t3 : T3.length + 1 ≤ 1048576 := by omega
       have t3b : 0 + (T3.length + 1) ≤ 1048576 := by omega
       have t3a : ((T3.map rI).all fun r => r.length == 1) = true := by simp [rI]
       have t3r := fun n => rI_rb n 4 T3
       have t3l : (T3.map rI).length = T3.length := by simp
       have hls3 : 1 + (T3.length + 1) ≤ L.length := by omega
       have tk3 : (T3.map rI).take T3.length = T3.map rI := List.take_of_length_le (by simp)
       refine runs_drwN fu (by simp (maxSteps := 3000000) [HH3, zI, -List.map_take, -List.map_drop, -List.length_map, -List.getElem?_map, evOpt, sliceA, bounds, hiB, bound, HH4, ↓HH5, hcall, h18, ↓o18, ↓f18, ↓heB, ↓eqB_rI, ↓hdl, ↓hdl2, hs1, hs2, hls, hls3, t3, t3b, ↓t3a, ↓t3r, t3l, tk3]; rfl) ?_
       simp only [zT, zB]
       refine zR (zO (by simp [HH3, zI, -List.map_take, -List.map_drop, -List.length_map, -List.getElem?_map, evOpt, sliceA, bounds, hiB, bound, HH4, ↓HH5, hcall, h18, ↓o18, ↓f18, ↓heB, ↓eqB_rI, ↓hdl, ↓hdl2, hs1, hs2, hls, hls3, t3, t3b, ↓t3a, ↓t3r, t3l, tk3]; rfl) ?_)
       simp only [zT, zB]
       have hEl : (L.eraseIdx 0).length = T3.length + 1 := by rw [her]; simp [l1]
       have hEn : (L.eraseIdx 0).length = n - (k2 + 1) := by rw [hEl]; omega
       rw [her] at hnx2 hEl hEn
       exact ⟨n - (k2 + 1), _, _, by omega, by simp [HH3, zI, -List.map_take, -List.map_drop, -List.length_map, -List.getElem?_map, evOpt, sliceA, bounds, hiB, bound, HH4, ↓HH5, hcall, h18, ↓o18, ↓f18, ↓heB, ↓eqB_rI, ↓hdl, ↓hdl2, hs1, hs2, hls, hls3, t3, t3b, ↓t3a, ↓t3r, t3l, tk3, l1, hEl] <;> rfl, k2 + 1, i2 + 1, (b2 :: T3), false, by omega, rfl, by omega, hEn, .inr ⟨p2 + 1, nx2, by omega, hnx2, hnl2, rfl⟩⟩
     ·by_cases he : qn + 1 = L.length
      ·obtain ⟨rfl, rfl⟩ := hc1 (by omega)
       clear hc0
       have hdl : ((L.map rI).drop (qn + 1)).take (L.length - (qn + 1)) = (L.drop (qn + 1)).map rI := by rw [List.map_drop]; exact List.take_of_length_le (by simp)
       have hdl2 : (L.map rI).drop (qn + 1) = (L.drop (qn + 1)).map rI := by rw [List.map_drop]
       have l1 : (L.take qn).length = qn := by rw [List.length_take]; omega
       have l2 : (L.drop (qn + 1)).length = L.length - (qn + 1) := by rw [List.length_drop]
       have hs1 : qn + 1 + (L.length - (qn + 1)) = L.length := by omega
       have hs2 : qn + 1 + (L.length - (qn + 1)) ≤ L.length := by omega
       generalize L.take qn = T1 at *
       generalize L.drop (qn + 1) = T2 at *
       have tkq : (T1.map rI).take qn = T1.map rI := List.take_of_length_le (by simp [l1])
       have hq0 : ¬ qn = 0 := hz
       have t1l : (T1.map rI).length = qn := by simp [l1]
       have t1a : ((T1.map rI).all fun r => r.length == 1) = true := by simp [rI]
       have t1n : T1.map rI ≠ [] := by intro e; rw [e] at t1l; simp at t1l; omega
       have t1r := fun n => rI_rb n 4 T1
       obtain rfl : T2 = [] := List.eq_nil_of_length_eq_zero (by omega)
       simp only [List.append_nil] at her
       have hls : L.length - (qn + 1) = 0 := by omega
       have hls3 : qn + 1 ≤ L.length := by omega
       refine runs_drwN fu (by simp (maxSteps := 3000000) [HH3, zI, -List.map_take, -List.map_drop, -List.length_map, -List.getElem?_map, evOpt, sliceA, bounds, hiB, bound, HH4, ↓HH5, hcall, h18, ↓o18, ↓f18, ↓heB, ↓eqB_rI, ↓hdl, ↓hdl2, hs1, hs2, hls, hls3, tkq, hq0, t1l, ↓t1a, t1n, ↓t1r]; rfl) ?_
       simp only [zT, zB]
       refine zR (zO (by simp [HH3, zI, -List.map_take, -List.map_drop, -List.length_map, -List.getElem?_map, evOpt, sliceA, bounds, hiB, bound, HH4, ↓HH5, hcall, h18, ↓o18, ↓f18, ↓heB, ↓eqB_rI, ↓hdl, ↓hdl2, hs1, hs2, hls, hls3, tkq, hq0, t1l, ↓t1a, t1n, ↓t1r]; rfl) ?_)
       simp only [zT, zB]
       have hEl : (L.eraseIdx qn).length = qn := by rw [her]; simp [l1]
       have hEn : (L.eraseIdx qn).length = n - (k2 + 1) := by rw [hEl]; omega
       rw [her] at hnx2 hEl hEn
       exact ⟨n - (k2 + 1), _, _, by omega, by simp [HH3, zI, -List.map_take, -List.map_drop, -List.length_map, -List.getElem?_map, evOpt, sliceA, bounds, hiB, bound, HH4, ↓HH5, hcall, h18, ↓o18, ↓f18, ↓heB, ↓eqB_rI, ↓hdl, ↓hdl2, hs1, hs2, hls, hls3, tkq, hq0, t1l, ↓t1a, t1n, ↓t1r, l1, hEl] <;> rfl, k2 + 1, i2 + 1, T1, false, by omega, rfl, by omega, hEn, .inr ⟨p2 + 1, nx2, by omega, hnx2, hnl2, rfl⟩⟩
      ·obtain ⟨rfl, rfl⟩ := hc1 (by omega)
       clear hc0
       have hdl : ((L.map rI).drop (qn + 1)).take (L.length - (qn + 1)) = (L.drop (qn + 1)).map rI := by rw [List.map_drop]; exact List.take_of_length_le (by simp)
       have hdl2 : (L.map rI).drop (qn + 1) = (L.drop (qn + 1)).map rI := by rw [List.map_drop]
       have l1 : (L.take qn).length = qn := by rw [List.length_take]; omega
       have l2 : (L.drop (qn + 1)).length = L.length - (qn + 1) := by rw [List.length_drop]
       have hs1 : qn + 1 + (L.length - (qn + 1)) = L.length := by omega
       have hs2 : qn + 1 + (L.length - (qn + 1)) ≤ L.length := by omega
       generalize L.take qn = T1 at *
       generalize L.drop (qn + 1) = T2 at *
       have tkq : (T1.map rI).take qn = T1.map rI := List.take_of_length_le (by simp [l1])
       have hq0 : ¬ qn = 0 := hz
       have t1l : (T1.map rI).length = qn := by simp [l1]
       have t1a : ((T1.map rI).all fun r => r.length == 1) = true := by simp [rI]
       have t1n : T1.map rI ≠ [] := by intro e; rw [e] at t1l; simp at t1l; omega
       have t1r := fun n => rI_rb n 4 T1
       obtain ⟨b2, T3, rfl⟩ : ∃ b2 T3, T2 = b2 :: T3 := by
        cases T2 with
        | nil => simp at l2; omega
        | cons a l => exact ⟨a, l, rfl⟩
       simp only [List.length_cons] at l2
       have hls : L.length - (qn + 1) = T3.length + 1 := by omega
       have t3 : T3.length + 1 ≤ 1048576 := by omega
       have t3b : qn + (T3.length + 1) ≤ 1048576 := by omega
       have t3a : ((T3.map rI).all fun r => r.length == 1) = true := by simp [rI]
       have t3r := fun n => rI_rb n 4 T3
       have t3l : (T3.map rI).length = T3.length := by simp
       have hls3 : qn + 1 + (T3.length + 1) ≤ L.length := by omega
       have tk3 : (T3.map rI).take T3.length = T3.map rI := List.take_of_length_le (by simp)
       refine runs_drwN fu (by simp (maxSteps := 3000000) [HH3, zI, -List.map_take, -List.map_drop, -List.length_map, -List.getElem?_map, evOpt, sliceA, bounds, hiB, bound, HH4, ↓HH5, hcall, h18, ↓o18, ↓f18, ↓heB, ↓eqB_rI, ↓hdl, ↓hdl2, hs1, hs2, hls, hls3, tkq, hq0, t1l, ↓t1a, t1n, ↓t1r, t3, t3b, ↓t3a, ↓t3r, t3l, tk3]; rfl) ?_
       simp only [zT, zB]
       refine zR (zO (by simp [HH3, zI, -List.map_take, -List.map_drop, -List.length_map, -List.getElem?_map, evOpt, sliceA, bounds, hiB, bound, HH4, ↓HH5, hcall, h18, ↓o18, ↓f18, ↓heB, ↓eqB_rI, ↓hdl, ↓hdl2, hs1, hs2, hls, hls3, tkq, hq0, t1l, ↓t1a, t1n, ↓t1r, t3, t3b, ↓t3a, ↓t3r, t3l, tk3]; rfl) ?_)
       simp only [zT, zB]
       have hEl : (L.eraseIdx qn).length = qn + (T3.length + 1) := by rw [her]; simp [l1]
       have hEn : (L.eraseIdx qn).length = n - (k2 + 1) := by rw [hEl]; omega
       rw [her] at hnx2 hEl hEn
       exact ⟨n - (k2 + 1), _, _, by omega, by simp [HH3, zI, -List.map_take, -List.map_drop, -List.length_map, -List.getElem?_map, evOpt, sliceA, bounds, hiB, bound, HH4, ↓HH5, hcall, h18, ↓o18, ↓f18, ↓heB, ↓eqB_rI, ↓hdl, ↓hdl2, hs1, hs2, hls, hls3, tkq, hq0, t1l, ↓t1a, t1n, ↓t1r, t3, t3b, ↓t3a, ↓t3r, t3l, tk3, l1, hEl] <;> rfl, k2 + 1, i2 + 1, (T1 ++ b2 :: T3), false, by omega, rfl, by omega, hEn, .inr ⟨p2 + 1, nx2, by omega, hnx2, hnl2, rfl⟩⟩
    ·have hx2 := of_decide_eq_false hlt2
     have hkE2 : k2 = n := by omega
     have hLe : L = [] := List.eq_nil_of_length_eq_zero (by omega)
     rw [hLe, hkE2, List.drop_of_length_le (by rw [List.length_take, bo.1]; omega)] at hac2
     simp only [ordGo, List.append_nil] at hac2
     rw [← hac2, encE_ne (by intro e; rw [e] at hacl2; simp at hacl2)]
     refine runs_exit ?_
     simp only [zT, zB, if_true, if_false, reduceIte, Nat.reduceEqDiff, Nat.succ_ne_zero, Nat.one_ne_zero, Nat.zero_ne_one]
     refine zS ?_
     refine zR (zO (by simp [↓crb, ↓cst, ↓hrj2, HH3, frz_mapI]; rfl) ?_)
     simp only [zT, zB]
     refine runs_ret ?_
     simp [↓crb, ↓cst, ↓hrj2, HH3, frz_mapI, trim]
 ·have tk1 : (ac1.map rI).take (p1 + 1) = ac1.map rI := List.take_of_length_le (by simp [hacl1])
  have hlac1 : p1 + 1 + 1 ≤ 1048576 := by omega
  have hr31 : ∀ e : Int, (rI e).length = 1 := fun _ => rfl
  have hfr1 := fun n h r => optAll_snoc (frN_rI n h ac1) r
  have hrj1 := fun n => rI_rb n 4 ac1
  have HH6 := zA ccl (zA clen (zA tk1 (zA hlac1 (zA hacl1 hr31))))
  refine zS ?_
  refine zS ?_
  refine zR (zO (by simp [↓crb, ↓cst, ↓hfr1, ↓hrj1, HH6]; rfl) ?_)
  simp only [zT, zB]
  refine runs_cond_split (x := _) rfl (fun hlt1 => ?_) (fun hlt1 => ?_)
  ·have hltt1 := of_decide_eq_true hlt1
   have hk01 : k1 < n := by omega
   have hi01 : 0 ≤ i1 := by omega
   have htn1 : i1.toNat = k1 := by omega
   have hwi1 : W .i64 (i1 + 1) = i1 + 1 := W_small (by omega)
   have hF1 : upTo (k1 + 1) = upTo k1 ++ [i1] := by rw [upTo_succ, hik1]
   have hnx1 : ac1 ++ [i1] = upTo (k1 + 1) := by rw [hF1, ← hac1]
   have hnl1 : (ac1 ++ [i1]).length = p1 + 1 + 1 := by simp [hacl1]
   have hap1 : ac1.map rI ++ [[I i1]] = (ac1 ++ [i1]).map rI := by rw [List.map_append]; rfl
   generalize ac1 ++ [i1] = nx1 at *
   have hrx1 := fun n => rI_rb n 4 nx1
   have HH7 := zA hi01 (zA htn1 (zA hk01 (zA hwi1 hap1)))
   have HH8 := zA crb (zA cst (zA hfr1 (zA hrj1 hrx1)))
   refine zK ?_
   simp only [zT, zB]
   refine zS ?_
   refine zL ?_
   refine zR (zO (by simp [HH6, zI, HH7, ↓HH8]; rfl) ?_)
   simp only [zT, zB]
   refine zR (zO (by simp [HH6, zI, HH7, ↓HH8]; rfl) ?_)
   simp only [zT, zB]
   exact ⟨n - (k1 + 1), _, _, by omega, by simp [HH6, zI, HH7, ↓HH8] <;> first | exact ⟨rfl, rfl⟩ | rfl, k1 + 1, i1 + 1, by omega, rfl, by omega, .inr ⟨p1 + 1, nx1, by omega, hnx1, hnl1, rfl⟩⟩
  ·have hx1 := of_decide_eq_false hlt1
   have hkE1 : k1 = n := by omega
   rw [hkE1] at hac1
   refine runs_exit ?_
   simp only [zT, zB, if_true, if_false, reduceIte, Nat.reduceEqDiff, Nat.succ_ne_zero, Nat.one_ne_zero, Nat.zero_ne_one]
   refine zS ?_
   refine zS ?_
   refine zR (zO (by simp [↓crb, ↓cst, ↓hfr1, ↓hrj1, HH6]; rfl) ?_)
   simp only [zT, zB]
   refine zL ?_
   refine runs_loopG_inv (fun mm2 σ => ∃ (k2 : Nat) (i2 : Int) (L : List Int) (tL : Bool), i2 = k2 ∧ n - k2 = mm2 ∧ k2 ≤ n ∧ L.length = n - k2 ∧ ((k2 = 0 ∧ L = upTo n ∧ σ = ⟨[.any, I (n : Int), .ref 0 0 0, .any, .any, .sl 4 0 L.length tL, .sl 5 0 0 true, .any, I i2, .any, .any, .any, .any, .any, .any, .any, .any, .any, .any, .any, .any, .any, .any, .any, .any, .any, .any, .any, .any, .any, .any, .any, .any, .any, .any, .any, .any, .any, .any, .any, .any, .any, .any, .any, .any, .any, .any, .any, .any, .any, .any], [some (.row 26 [cells]), none, none, none, some (.row 1 (L.map rI)), some (.row 1 [])]⟩) ∨ (∃ (p2 : Nat) (ac2 : List Int), k2 = p2 + 1 ∧ ac2 ++ ordGo ((W_.o.take n).drop k2) L = ordW W_.o n ∧ ac2.length = p2 + 1 ∧ σ = ⟨[.any, I (n : Int), .ref 0 0 0, .any, .any, .sl 4 0 L.length tL, .sl 5 0 (p2 + 1) false, .any, I i2, .any, .any, .any, .any, .any, .any, .any, .any, .any, .any, .any, .any, .any, .any, .any, .any, .any, .any, .any, .any, .any, .any, .any, .any, .any, .any, .any, .any, .any, .any, .any, .any, .any, .any, .any, .any, .any, .any, .any, .any, .any, .any], [some (.row 26 [cells]), none, none, none, some (.row 1 (L.map rI)), some (.row 1 (ac2.map rI))]⟩))) (by simp [↓crb, ↓cst, ↓hfr1, ↓hrj1, HH6] <;> first | exact ⟨rfl, rfl⟩ | rfl) (⟨0, 0, ac1, false, rfl, rfl, Nat.zero_le _, by omega, .inl ⟨rfl, by rw [hac1], rfl⟩⟩) ?_
   rintro mm2 σ ⟨k2, i2, L, tL, hik2, rfl, hkl2, hLl, ⟨hkz2, hL0, rfl⟩ | ⟨p2, ac2, hkp2, hac2, hacl2, rfl⟩⟩
   ·refine zS ?_
    refine zS ?_
    refine zR (zO (by simp [↓crb, ↓cst, ↓hfr1, ↓hrj1, HH6]; rfl) ?_)
    simp only [zT, zB]
    refine runs_cond_split (x := _) rfl (fun hlt2 => ?_) (fun hlt2 => ?_)
    ·have hltt2 := of_decide_eq_true hlt2
     have hk2n : k2 < n := by omega
     have hi20 : 0 ≤ i2 := by omega
     have htn2 : i2.toNat = k2 := by omega
     have hi26 : i2 < 6 := by omega
     have hwi2 : W .i64 (i2 + 1) = i2 + 1 := W_small (by omega)
     have hco := co k2 (by omega)
     have hob := mins_fit (k := k2) bo.2
     have hdr : (W_.o.take n).drop k2 = W_.o.getD k2 0 :: (W_.o.take n).drop (k2 + 1) := by
      rw [List.drop_eq_getElem_cons (by rw [List.length_take, bo.1]; omega), List.getElem_take, List.getD_eq_getElem?_getD, List.getElem?_eq_getElem (by rw [bo.1]; omega)]; rfl
     generalize W_.o.getD k2 0 = ob at *
     obtain ⟨ob1, ob2⟩ := hob
     have hLp : (0 : Int) < (L.length : Int) := by omega
     have hLz : ¬ L.length = 0 := by omega
     have hLzi : ¬ (L.length : Int) = 0 := by omega
     have hLzb : ((L.length : Int) == 0) = false := by rw [beq_eq_false_iff_ne]; exact hLzi
     have hLm : ¬ ((L.length : Int) = -1) := by omega
     have hq1 := Int.tmod_nonneg (L.length : Int) ob1
     have hq2 := Int.tmod_lt_of_pos ob hLp
     have u0 : W .i64 ob = ob := W_fit (by omega)
     have hL6 : L.length ≤ 6 := by omega
     have hgo : ordGo (ob :: (W_.o.take n).drop (k2 + 1)) L = L.getD (ob.tmod (L.length : Int)).toNat 0 :: ordGo ((W_.o.take n).drop (k2 + 1)) (L.eraseIdx (ob.tmod (L.length : Int)).toNat) := rfl
     generalize hQ : ob.tmod (L.length : Int) = Qi at *
     have u1 : W .i64 Qi = Qi := W_fit (by omega)
     obtain ⟨qn, hqn⟩ : ∃ qn : Nat, Qi.toNat = qn := ⟨_, rfl⟩
     rw [hqn] at hgo
     have hql : qn < L.length := by omega
     have hqi : Qi = (qn : Int) := by omega
     have hqle : qn ≤ L.length := by omega
     have hql2 : Qi ≤ (L.length : Int) := by omega
     have hql3 : Qi + 1 ≤ (L.length : Int) := by omega
     have hq3 : 0 ≤ Qi + 1 := by omega
     have hwq : W .i64 (Qi + 1) = Qi + 1 := W_small (by omega)
     have hqn1 : (Qi + 1).toNat = qn + 1 := by omega
     have hLq : L.getD qn 0 = L[qn] := by rw [List.getD_eq_getElem?_getD, List.getElem?_eq_getElem hql]; rfl
     rw [hLq] at hgo
     have hLg : (L.map rI)[qn]? = some [I L[qn]] := by rw [List.getElem?_map, List.getElem?_eq_getElem hql]; rfl
     generalize hLv : L[qn] = lv at *
     have hLr : ((L.map rI).all fun r => r.length == 1) = true := by simp [rI]
     have hLlen : (L.map rI).length = L.length := by simp
     have her : L.eraseIdx qn = L.take qn ++ L.drop (qn + 1) := List.eraseIdx_eq_take_drop_succ L qn
     have hnx2 : [lv] ++ ordGo ((W_.o.take n).drop (k2 + 1)) (L.eraseIdx qn) = ordW W_.o n := by
      have e : ordW W_.o n = ordGo ((W_.o.take n).drop k2) L := by rw [hkz2, hL0]; rfl
      rw [e, hdr, hgo]; rfl
     have HH9 := zA hi20 (zA htn2 (zA hi26 (zA hwi2 (zA hco (zA hLz (zA hLzi (zA hLzb (zA hLm (zA u0 (zA u1 (zA hQ (zA hqn (zA hq1 (zA hq2 (zA hql (zA hqle (zA hql2 (zA hql3 (zA hq3 (zA hwq (zA hqn1 (zA hLg (zA hLv hLlen)))))))))))))))))))))))
     have HH10 := zA crb (zA cst (zA hfr1 (zA hrj1 hLr)))
     refine zK ?_
     simp only [zT, zB]
     refine zS ?_
     refine zL ?_
     refine zS ?_
     refine zR (zO (by simp [HH6, zI, -List.map_take, -List.map_drop, -List.length_map, -List.getElem?_map, evOpt, sliceA, bounds, hiB, bound, HH9, ↓HH10]; rfl) ?_)
     simp only [zT, zB]
     refine zS ?_
     refine zR (zO (by simp [HH6, zI, -List.map_take, -List.map_drop, -List.length_map, -List.getElem?_map, evOpt, sliceA, bounds, hiB, bound, HH9, ↓HH10]; rfl) ?_)
     simp only [zT, zB]
     obtain ⟨fu, cv, ch, hcall, hc0, hc1⟩ := a18h P T h18 [some (.row 26 [cells]), none, none, none, some (.row 1 (L.map rI)), some (.row 1 []), some (.row 1 [[I lv]]), some (.row 1 [[I lv]]), none, none, none, none, none, none, none, none, none, none] 4 qn (tL && (qn == L.length)) L rfl hqle (by omega)
     by_cases hz : qn = 0
     ·by_cases he : qn + 1 = L.length
      ·obtain ⟨rfl, rfl⟩ := hc0 hz
       clear hc1
       have hdl : ((L.map rI).drop (qn + 1)).take (L.length - (qn + 1)) = (L.drop (qn + 1)).map rI := by rw [List.map_drop]; exact List.take_of_length_le (by simp)
       have hdl2 : (L.map rI).drop (qn + 1) = (L.drop (qn + 1)).map rI := by rw [List.map_drop]
       have l1 : (L.take qn).length = qn := by rw [List.length_take]; omega
       have l2 : (L.drop (qn + 1)).length = L.length - (qn + 1) := by rw [List.length_drop]
       have hs1 : qn + 1 + (L.length - (qn + 1)) = L.length := by omega
       have hs2 : qn + 1 + (L.length - (qn + 1)) ≤ L.length := by omega
       generalize L.take qn = T1 at *
       generalize L.drop (qn + 1) = T2 at *
       subst hz
       obtain rfl : T1 = [] := List.eq_nil_of_length_eq_zero l1
       simp only [List.nil_append] at her
       simp only [Nat.zero_add] at hdl hdl2 l2 hs1 hs2
       obtain rfl : T2 = [] := List.eq_nil_of_length_eq_zero (by omega)
       have hls : L.length - 1 = 0 := by omega
       have hls3 : 1 ≤ L.length := by omega
       refine runs_drwN fu (by simp (maxSteps := 3000000) [HH6, zI, -List.map_take, -List.map_drop, -List.length_map, -List.getElem?_map, evOpt, sliceA, bounds, hiB, bound, HH9, ↓HH10, hcall, h18, ↓o18, ↓f18, ↓heB, ↓eqB_rI, ↓hdl, ↓hdl2, hs1, hs2, hls, hls3]; rfl) ?_
       simp only [zT, zB]
       refine zR (zO (by simp [HH6, zI, -List.map_take, -List.map_drop, -List.length_map, -List.getElem?_map, evOpt, sliceA, bounds, hiB, bound, HH9, ↓HH10, hcall, h18, ↓o18, ↓f18, ↓heB, ↓eqB_rI, ↓hdl, ↓hdl2, hs1, hs2, hls, hls3]; rfl) ?_)
       simp only [zT, zB]
       have hEl : (L.eraseIdx 0).length = 0 := by rw [her]; simp [l1]
       have hEn : (L.eraseIdx 0).length = n - (k2 + 1) := by rw [hEl]; omega
       rw [her] at hnx2 hEl hEn
       exact ⟨n - (k2 + 1), _, _, by omega, by simp [HH6, zI, -List.map_take, -List.map_drop, -List.length_map, -List.getElem?_map, evOpt, sliceA, bounds, hiB, bound, HH9, ↓HH10, hcall, h18, ↓o18, ↓f18, ↓heB, ↓eqB_rI, ↓hdl, ↓hdl2, hs1, hs2, hls, hls3, l1, hEl] <;> rfl, k2 + 1, i2 + 1, ([] : List Int), true, by omega, rfl, by omega, hEn, .inr ⟨0, [lv], by omega, hnx2, rfl, rfl⟩⟩
      ·obtain ⟨rfl, rfl⟩ := hc0 hz
       clear hc1
       have hdl : ((L.map rI).drop (qn + 1)).take (L.length - (qn + 1)) = (L.drop (qn + 1)).map rI := by rw [List.map_drop]; exact List.take_of_length_le (by simp)
       have hdl2 : (L.map rI).drop (qn + 1) = (L.drop (qn + 1)).map rI := by rw [List.map_drop]
       have l1 : (L.take qn).length = qn := by rw [List.length_take]; omega
       have l2 : (L.drop (qn + 1)).length = L.length - (qn + 1) := by rw [List.length_drop]
       have hs1 : qn + 1 + (L.length - (qn + 1)) = L.length := by omega
       have hs2 : qn + 1 + (L.length - (qn + 1)) ≤ L.length := by omega
       generalize L.take qn = T1 at *
       generalize L.drop (qn + 1) = T2 at *
       subst hz
       obtain rfl : T1 = [] := List.eq_nil_of_length_eq_zero l1
       simp only [List.nil_append] at her
       simp only [Nat.zero_add] at hdl hdl2 l2 hs1 hs2
       obtain ⟨b2, T3, rfl⟩ : ∃ b2 T3, T2 = b2 :: T3 := by
        cases T2 with
        | nil => simp at l2; omega
        | cons a l => exact ⟨a, l, rfl⟩
       simp only [List.length_cons] at l2
       have hls : L.length - (1) = T3.length + 1 := by omega
       have t3 : T3.length + 1 ≤ 1048576 := by omega
       have t3b : 0 + (T3.length + 1) ≤ 1048576 := by omega
       have t3a : ((T3.map rI).all fun r => r.length == 1) = true := by simp [rI]
       have t3r := fun n => rI_rb n 4 T3
       have t3l : (T3.map rI).length = T3.length := by simp
       have hls3 : 1 + (T3.length + 1) ≤ L.length := by omega
       have tk3 : (T3.map rI).take T3.length = T3.map rI := List.take_of_length_le (by simp)
       refine runs_drwN fu (by simp (maxSteps := 3000000) [HH6, zI, -List.map_take, -List.map_drop, -List.length_map, -List.getElem?_map, evOpt, sliceA, bounds, hiB, bound, HH9, ↓HH10, hcall, h18, ↓o18, ↓f18, ↓heB, ↓eqB_rI, ↓hdl, ↓hdl2, hs1, hs2, hls, hls3, t3, t3b, ↓t3a, ↓t3r, t3l, tk3]; rfl) ?_
       simp only [zT, zB]
       refine zR (zO (by simp [HH6, zI, -List.map_take, -List.map_drop, -List.length_map, -List.getElem?_map, evOpt, sliceA, bounds, hiB, bound, HH9, ↓HH10, hcall, h18, ↓o18, ↓f18, ↓heB, ↓eqB_rI, ↓hdl, ↓hdl2, hs1, hs2, hls, hls3, t3, t3b, ↓t3a, ↓t3r, t3l, tk3]; rfl) ?_)
       simp only [zT, zB]
       have hEl : (L.eraseIdx 0).length = T3.length + 1 := by rw [her]; simp [l1]
       have hEn : (L.eraseIdx 0).length = n - (k2 + 1) := by rw [hEl]; omega
       rw [her] at hnx2 hEl hEn
       exact ⟨n - (k2 + 1), _, _, by omega, by simp [HH6, zI, -List.map_take, -List.map_drop, -List.length_map, -List.getElem?_map, evOpt, sliceA, bounds, hiB, bound, HH9, ↓HH10, hcall, h18, ↓o18, ↓f18, ↓heB, ↓eqB_rI, ↓hdl, ↓hdl2, hs1, hs2, hls, hls3, t3, t3b, ↓t3a, ↓t3r, t3l, tk3, l1, hEl] <;> rfl, k2 + 1, i2 + 1, (b2 :: T3), false, by omega, rfl, by omega, hEn, .inr ⟨0, [lv], by omega, hnx2, rfl, rfl⟩⟩
     ·by_cases he : qn + 1 = L.length
      ·obtain ⟨rfl, rfl⟩ := hc1 (by omega)
       clear hc0
       have hdl : ((L.map rI).drop (qn + 1)).take (L.length - (qn + 1)) = (L.drop (qn + 1)).map rI := by rw [List.map_drop]; exact List.take_of_length_le (by simp)
       have hdl2 : (L.map rI).drop (qn + 1) = (L.drop (qn + 1)).map rI := by rw [List.map_drop]
       have l1 : (L.take qn).length = qn := by rw [List.length_take]; omega
       have l2 : (L.drop (qn + 1)).length = L.length - (qn + 1) := by rw [List.length_drop]
       have hs1 : qn + 1 + (L.length - (qn + 1)) = L.length := by omega
       have hs2 : qn + 1 + (L.length - (qn + 1)) ≤ L.length := by omega
       generalize L.take qn = T1 at *
       generalize L.drop (qn + 1) = T2 at *
       have tkq : (T1.map rI).take qn = T1.map rI := List.take_of_length_le (by simp [l1])
       have hq0 : ¬ qn = 0 := hz
       have t1l : (T1.map rI).length = qn := by simp [l1]
       have t1a : ((T1.map rI).all fun r => r.length == 1) = true := by simp [rI]
       have t1n : T1.map rI ≠ [] := by intro e; rw [e] at t1l; simp at t1l; omega
       have t1r := fun n => rI_rb n 4 T1
       obtain rfl : T2 = [] := List.eq_nil_of_length_eq_zero (by omega)
       simp only [List.append_nil] at her
       have hls : L.length - (qn + 1) = 0 := by omega
       have hls3 : qn + 1 ≤ L.length := by omega
       refine runs_drwN fu (by simp (maxSteps := 3000000) [HH6, zI, -List.map_take, -List.map_drop, -List.length_map, -List.getElem?_map, evOpt, sliceA, bounds, hiB, bound, HH9, ↓HH10, hcall, h18, ↓o18, ↓f18, ↓heB, ↓eqB_rI, ↓hdl, ↓hdl2, hs1, hs2, hls, hls3, tkq, hq0, t1l, ↓t1a, t1n, ↓t1r]; rfl) ?_
       simp only [zT, zB]
       refine zR (zO (by simp [HH6, zI, -List.map_take, -List.map_drop, -List.length_map, -List.getElem?_map, evOpt, sliceA, bounds, hiB, bound, HH9, ↓HH10, hcall, h18, ↓o18, ↓f18, ↓heB, ↓eqB_rI, ↓hdl, ↓hdl2, hs1, hs2, hls, hls3, tkq, hq0, t1l, ↓t1a, t1n, ↓t1r]; rfl) ?_)
       simp only [zT, zB]
       have hEl : (L.eraseIdx qn).length = qn := by rw [her]; simp [l1]
       have hEn : (L.eraseIdx qn).length = n - (k2 + 1) := by rw [hEl]; omega
       rw [her] at hnx2 hEl hEn
       exact ⟨n - (k2 + 1), _, _, by omega, by simp [HH6, zI, -List.map_take, -List.map_drop, -List.length_map, -List.getElem?_map, evOpt, sliceA, bounds, hiB, bound, HH9, ↓HH10, hcall, h18, ↓o18, ↓f18, ↓heB, ↓eqB_rI, ↓hdl, ↓hdl2, hs1, hs2, hls, hls3, tkq, hq0, t1l, ↓t1a, t1n, ↓t1r, l1, hEl] <;> rfl, k2 + 1, i2 + 1, T1, false, by omega, rfl, by omega, hEn, .inr ⟨0, [lv], by omega, hnx2, rfl, rfl⟩⟩
      ·obtain ⟨rfl, rfl⟩ := hc1 (by omega)
       clear hc0
       have hdl : ((L.map rI).drop (qn + 1)).take (L.length - (qn + 1)) = (L.drop (qn + 1)).map rI := by rw [List.map_drop]; exact List.take_of_length_le (by simp)
       have hdl2 : (L.map rI).drop (qn + 1) = (L.drop (qn + 1)).map rI := by rw [List.map_drop]
       have l1 : (L.take qn).length = qn := by rw [List.length_take]; omega
       have l2 : (L.drop (qn + 1)).length = L.length - (qn + 1) := by rw [List.length_drop]
       have hs1 : qn + 1 + (L.length - (qn + 1)) = L.length := by omega
       have hs2 : qn + 1 + (L.length - (qn + 1)) ≤ L.length := by omega
       generalize L.take qn = T1 at *
       generalize L.drop (qn + 1) = T2 at *
       have tkq : (T1.map rI).take qn = T1.map rI := List.take_of_length_le (by simp [l1])
       have hq0 : ¬ qn = 0 := hz
       have t1l : (T1.map rI).length = qn := by simp [l1]
       have t1a : ((T1.map rI).all fun r => r.length == 1) = true := by simp [rI]
       have t1n : T1.map rI ≠ [] := by intro e; rw [e] at t1l; simp at t1l; omega
       have t1r := fun n => rI_rb n 4 T1
       obtain ⟨b2, T3, rfl⟩ : ∃ b2 T3, T2 = b2 :: T3 := by
        cases T2 with
        | nil => simp at l2; omega
        | cons a l => exact ⟨a, l, rfl⟩
       simp only [List.length_cons] at l2
       have hls : L.length - (qn + 1) = T3.length + 1 := by omega
       have t3 : T3.length + 1 ≤ 1048576 := by omega
       have t3b : qn + (T3.length + 1) ≤ 1048576 := by omega
       have t3a : ((T3.map rI).all fun r => r.length == 1) = true := by simp [rI]
       have t3r := fun n => rI_rb n 4 T3
       have t3l : (T3.map rI).length = T3.length := by simp
       have hls3 : qn + 1 + (T3.length + 1) ≤ L.length := by omega
       have tk3 : (T3.map rI).take T3.length = T3.map rI := List.take_of_length_le (by simp)
       refine runs_drwN fu (by simp (maxSteps := 3000000) [HH6, zI, -List.map_take, -List.map_drop, -List.length_map, -List.getElem?_map, evOpt, sliceA, bounds, hiB, bound, HH9, ↓HH10, hcall, h18, ↓o18, ↓f18, ↓heB, ↓eqB_rI, ↓hdl, ↓hdl2, hs1, hs2, hls, hls3, tkq, hq0, t1l, ↓t1a, t1n, ↓t1r, t3, t3b, ↓t3a, ↓t3r, t3l, tk3]; rfl) ?_
       simp only [zT, zB]
       refine zR (zO (by simp [HH6, zI, -List.map_take, -List.map_drop, -List.length_map, -List.getElem?_map, evOpt, sliceA, bounds, hiB, bound, HH9, ↓HH10, hcall, h18, ↓o18, ↓f18, ↓heB, ↓eqB_rI, ↓hdl, ↓hdl2, hs1, hs2, hls, hls3, tkq, hq0, t1l, ↓t1a, t1n, ↓t1r, t3, t3b, ↓t3a, ↓t3r, t3l, tk3]; rfl) ?_)
       simp only [zT, zB]
       have hEl : (L.eraseIdx qn).length = qn + (T3.length + 1) := by rw [her]; simp [l1]
       have hEn : (L.eraseIdx qn).length = n - (k2 + 1) := by rw [hEl]; omega
       rw [her] at hnx2 hEl hEn
       exact ⟨n - (k2 + 1), _, _, by omega, by simp [HH6, zI, -List.map_take, -List.map_drop, -List.length_map, -List.getElem?_map, evOpt, sliceA, bounds, hiB, bound, HH9, ↓HH10, hcall, h18, ↓o18, ↓f18, ↓heB, ↓eqB_rI, ↓hdl, ↓hdl2, hs1, hs2, hls, hls3, tkq, hq0, t1l, ↓t1a, t1n, ↓t1r, t3, t3b, ↓t3a, ↓t3r, t3l, tk3, l1, hEl] <;> rfl, k2 + 1, i2 + 1, (T1 ++ b2 :: T3), false, by omega, rfl, by omega, hEn, .inr ⟨0, [lv], by omega, hnx2, rfl, rfl⟩⟩
    ·have hx2 := of_decide_eq_false hlt2
     have hkE2 : k2 = n := by omega
     have hn0 : n = 0 := by omega
     have hoe : ordW W_.o n = [] := by rw [hn0]; rfl
     rw [hoe]
     refine runs_exit ?_
     simp only [zT, zB, if_true, if_false, reduceIte, Nat.reduceEqDiff, Nat.succ_ne_zero, Nat.one_ne_zero, Nat.zero_ne_one]
     refine zS ?_
     refine zR (zO (by simp [↓crb, ↓cst, ↓hfr1, ↓hrj1, HH6]; rfl) ?_)
     simp only [zT, zB]
     refine runs_ret ?_
     simp [↓crb, ↓cst, ↓hfr1, ↓hrj1, HH6, trim, encE]
   ·have tk2 : (ac2.map rI).take (p2 + 1) = ac2.map rI := List.take_of_length_le (by simp [hacl2])
    have hlac2 : p2 + 1 + 1 ≤ 1048576 := by omega
    have hr32 : ∀ e : Int, (rI e).length = 1 := fun _ => rfl
    have hrj2 := fun n => rI_rb n 4 ac2
    have hal2 : (ac2.map rI).length = p2 + 1 := by rw [List.length_map, hacl2]
    have HH11 := zA tk2 (zA hal2 (zA hlac2 (zA hacl2 hr32)))
    have HH12 := zA crb (zA cst (zA hfr1 (zA hrj1 hrj2)))
    refine zS ?_
    refine zS ?_
    refine zR (zO (by simp [HH6, HH11, ↓HH12]; rfl) ?_)
    simp only [zT, zB]
    refine runs_cond_split (x := _) rfl (fun hlt2 => ?_) (fun hlt2 => ?_)
    ·have hltt2 := of_decide_eq_true hlt2
     have hk2n : k2 < n := by omega
     have hi20 : 0 ≤ i2 := by omega
     have htn2 : i2.toNat = k2 := by omega
     have hi26 : i2 < 6 := by omega
     have hwi2 : W .i64 (i2 + 1) = i2 + 1 := W_small (by omega)
     have hco := co k2 (by omega)
     have hob := mins_fit (k := k2) bo.2
     have hdr : (W_.o.take n).drop k2 = W_.o.getD k2 0 :: (W_.o.take n).drop (k2 + 1) := by
      rw [List.drop_eq_getElem_cons (by rw [List.length_take, bo.1]; omega), List.getElem_take, List.getD_eq_getElem?_getD, List.getElem?_eq_getElem (by rw [bo.1]; omega)]; rfl
     generalize W_.o.getD k2 0 = ob at *
     obtain ⟨ob1, ob2⟩ := hob
     have hLp : (0 : Int) < (L.length : Int) := by omega
     have hLz : ¬ L.length = 0 := by omega
     have hLzi : ¬ (L.length : Int) = 0 := by omega
     have hLzb : ((L.length : Int) == 0) = false := by rw [beq_eq_false_iff_ne]; exact hLzi
     have hLm : ¬ ((L.length : Int) = -1) := by omega
     have hq1 := Int.tmod_nonneg (L.length : Int) ob1
     have hq2 := Int.tmod_lt_of_pos ob hLp
     have u0 : W .i64 ob = ob := W_fit (by omega)
     have hL6 : L.length ≤ 6 := by omega
     have hgo : ordGo (ob :: (W_.o.take n).drop (k2 + 1)) L = L.getD (ob.tmod (L.length : Int)).toNat 0 :: ordGo ((W_.o.take n).drop (k2 + 1)) (L.eraseIdx (ob.tmod (L.length : Int)).toNat) := rfl
     generalize hQ : ob.tmod (L.length : Int) = Qi at *
     have u1 : W .i64 Qi = Qi := W_fit (by omega)
     obtain ⟨qn, hqn⟩ : ∃ qn : Nat, Qi.toNat = qn := ⟨_, rfl⟩
     rw [hqn] at hgo
     have hql : qn < L.length := by omega
     have hqi : Qi = (qn : Int) := by omega
     have hqle : qn ≤ L.length := by omega
     have hql2 : Qi ≤ (L.length : Int) := by omega
     have hql3 : Qi + 1 ≤ (L.length : Int) := by omega
     have hq3 : 0 ≤ Qi + 1 := by omega
     have hwq : W .i64 (Qi + 1) = Qi + 1 := W_small (by omega)
     have hqn1 : (Qi + 1).toNat = qn + 1 := by omega
     have hLq : L.getD qn 0 = L[qn] := by rw [List.getD_eq_getElem?_getD, List.getElem?_eq_getElem hql]; rfl
     rw [hLq] at hgo
     have hLg : (L.map rI)[qn]? = some [I L[qn]] := by rw [List.getElem?_map, List.getElem?_eq_getElem hql]; rfl
     generalize hLv : L[qn] = lv at *
     have hLr : ((L.map rI).all fun r => r.length == 1) = true := by simp [rI]
     have hLlen : (L.map rI).length = L.length := by simp
     have her : L.eraseIdx qn = L.take qn ++ L.drop (qn + 1) := List.eraseIdx_eq_take_drop_succ L qn
     rw [hdr, hgo] at hac2
     have hnx2 : (ac2 ++ [lv]) ++ ordGo ((W_.o.take n).drop (k2 + 1)) (L.eraseIdx qn) = ordW W_.o n := by rw [← hac2, List.append_assoc]; rfl
     have hnl2 : (ac2 ++ [lv]).length = p2 + 1 + 1 := by simp [hacl2]
     have hap2 : ac2.map rI ++ [[I lv]] = (ac2 ++ [lv]).map rI := by rw [List.map_append]; rfl
     generalize ac2 ++ [lv] = nx2 at *
     have hrx2 := fun n => rI_rb n 4 nx2
     have HH13 := zA hi20 (zA htn2 (zA hi26 (zA hwi2 (zA hco (zA hLz (zA hLzi (zA hLzb (zA hLm (zA u0 (zA u1 (zA hQ (zA hqn (zA hq1 (zA hq2 (zA hql (zA hqle (zA hql2 (zA hql3 (zA hq3 (zA hwq (zA hqn1 (zA hLg (zA hLv (zA hLlen hap2))))))))))))))))))))))))
     refine zK ?_
     simp only [zT, zB]
     refine zS ?_
     refine zL ?_
     refine zS ?_
     refine zR (zO (by simp [HH6, HH11, ↓HH12, ↓hLr, zI, -List.map_take, -List.map_drop, -List.length_map, -List.getElem?_map, evOpt, sliceA, bounds, hiB, bound, ↓hrx2, HH13]; rfl) ?_)
     simp only [zT, zB]
     refine zS ?_
     refine zR (zO (by simp [HH6, HH11, ↓HH12, ↓hLr, zI, -List.map_take, -List.map_drop, -List.length_map, -List.getElem?_map, evOpt, sliceA, bounds, hiB, bound, ↓hrx2, HH13]; rfl) ?_)
     simp only [zT, zB]
     obtain ⟨fu, cv, ch, hcall, hc0, hc1⟩ := a18h P T h18 [some (.row 26 [cells]), none, none, none, some (.row 1 (L.map rI)), none, some (.row 1 [[I lv]]), some (.row 1 (nx2.map rI)), none, none, none, none, none, none, none, none, none, none] 4 qn (tL && (qn == L.length)) L rfl hqle (by omega)
     by_cases hz : qn = 0
     ·by_cases he : qn + 1 = L.length
      ·obtain ⟨rfl, rfl⟩ := hc0 hz
       clear hc1
       have hdl : ((L.map rI).drop (qn + 1)).take (L.length - (qn + 1)) = (L.drop (qn + 1)).map rI := by rw [List.map_drop]; exact List.take_of_length_le (by simp)
       have hdl2 : (L.map rI).drop (qn + 1) = (L.drop (qn + 1)).map rI := by rw [List.map_drop]
       have l1 : (L.take qn).length = qn := by rw [List.length_take]; omega
       have l2 : (L.drop (qn + 1)).length = L.length - (qn + 1) := by rw [List.length_drop]
       have hs1 : qn + 1 + (L.length - (qn + 1)) = L.length := by omega
       have hs2 : qn + 1 + (L.length - (qn + 1)) ≤ L.length := by omega
       generalize L.take qn = T1 at *
       generalize L.drop (qn + 1) = T2 at *
       subst hz
       obtain rfl : T1 = [] := List.eq_nil_of_length_eq_zero l1
       simp only [List.nil_append] at her
       simp only [Nat.zero_add] at hdl hdl2 l2 hs1 hs2
       obtain rfl : T2 = [] := List.eq_nil_of_length_eq_zero (by omega)
       have hls : L.length - 1 = 0 := by omega
       have hls3 : 1 ≤ L.length := by omega
       refine runs_drwN fu (by simp (maxSteps := 3000000) [HH6, HH11, ↓HH12, ↓hLr, zI, -List.map_take, -List.map_drop, -List.length_map, -List.getElem?_map, evOpt, sliceA, bounds, hiB, bound, ↓hrx2, HH13, hcall, h18, ↓o18, ↓f18, ↓heB, ↓eqB_rI, ↓hdl, ↓hdl2, hs1, hs2, hls, hls3]; rfl) ?_
       simp only [zT, zB]
       refine zR (zO (by simp [HH6, HH11, ↓HH12, ↓hLr, zI, -List.map_take, -List.map_drop, -List.length_map, -List.getElem?_map, evOpt, sliceA, bounds, hiB, bound, ↓hrx2, HH13, hcall, h18, ↓o18, ↓f18, ↓heB, ↓eqB_rI, ↓hdl, ↓hdl2, hs1, hs2, hls, hls3]; rfl) ?_)
       simp only [zT, zB]
       have hEl : (L.eraseIdx 0).length = 0 := by rw [her]; simp [l1]
       have hEn : (L.eraseIdx 0).length = n - (k2 + 1) := by rw [hEl]; omega
       rw [her] at hnx2 hEl hEn
       exact ⟨n - (k2 + 1), _, _, by omega, by simp [HH6, HH11, ↓HH12, ↓hLr, zI, -List.map_take, -List.map_drop, -List.length_map, -List.getElem?_map, evOpt, sliceA, bounds, hiB, bound, ↓hrx2, HH13, hcall, h18, ↓o18, ↓f18, ↓heB, ↓eqB_rI, ↓hdl, ↓hdl2, hs1, hs2, hls, hls3, l1, hEl] <;> rfl, k2 + 1, i2 + 1, ([] : List Int), true, by omega, rfl, by omega, hEn, .inr ⟨p2 + 1, nx2, by omega, hnx2, hnl2, rfl⟩⟩
      ·obtain ⟨rfl, rfl⟩ := hc0 hz
       clear hc1
       have hdl : ((L.map rI).drop (qn + 1)).take (L.length - (qn + 1)) = (L.drop (qn + 1)).map rI := by rw [List.map_drop]; exact List.take_of_length_le (by simp)
       have hdl2 : (L.map rI).drop (qn + 1) = (L.drop (qn + 1)).map rI := by rw [List.map_drop]
       have l1 : (L.take qn).length = qn := by rw [List.length_take]; omega
       have l2 : (L.drop (qn + 1)).length = L.length - (qn + 1) := by rw [List.length_drop]
       have hs1 : qn + 1 + (L.length - (qn + 1)) = L.length := by omega
       have hs2 : qn + 1 + (L.length - (qn + 1)) ≤ L.length := by omega
       generalize L.take qn = T1 at *
       generalize L.drop (qn + 1) = T2 at *
       subst hz
       obtain rfl : T1 = [] := List.eq_nil_of_length_eq_zero l1
       simp only [List.nil_append] at her
       simp only [Nat.zero_add] at hdl hdl2 l2 hs1 hs2
       obtain ⟨b2, T3, rfl⟩ : ∃ b2 T3, T2 = b2 :: T3 := by
        cases T2 with
        | nil => simp at l2; omega
        | cons a l => exact ⟨a, l, rfl⟩
       simp only [List.length_cons] at l2
       have hls : L.length - (1) = T3.length + 1 := by omega
       have t3 : T3.length + 1 ≤ 1048576 := by omega
       have t3b : 0 + (T3.length + 1) ≤ 1048576 := by omega
       have t3a : ((T3.map rI).all fun r => r.length == 1) = true := by simp [rI]
       have t3r := fun n => rI_rb n 4 T3
       have t3l : (T3.map rI).length = T3.length := by simp
       have hls3 : 1 + (T3.length + 1) ≤ L.length := by omega
       have tk3 : (T3.map rI).take T3.length = T3.map rI := List.take_of_length_le (by simp)
       refine runs_drwN fu (by simp (maxSteps := 3000000) [HH6, HH11, ↓HH12, ↓hLr, zI, -List.map_take, -List.map_drop, -List.length_map, -List.getElem?_map, evOpt, sliceA, bounds, hiB, bound, ↓hrx2, HH13, hcall, h18, ↓o18, ↓f18, ↓heB, ↓eqB_rI, ↓hdl, ↓hdl2, hs1, hs2, hls, hls3, t3, t3b, ↓t3a, ↓t3r, t3l, tk3]; rfl) ?_
       simp only [zT, zB]
       refine zR (zO (by simp [HH6, HH11, ↓HH12, ↓hLr, zI, -List.map_take, -List.map_drop, -List.length_map, -List.getElem?_map, evOpt, sliceA, bounds, hiB, bound, ↓hrx2, HH13, hcall, h18, ↓o18, ↓f18, ↓heB, ↓eqB_rI, ↓hdl, ↓hdl2, hs1, hs2, hls, hls3, t3, t3b, ↓t3a, ↓t3r, t3l, tk3]; rfl) ?_)
       simp only [zT, zB]
       have hEl : (L.eraseIdx 0).length = T3.length + 1 := by rw [her]; simp [l1]
       have hEn : (L.eraseIdx 0).length = n - (k2 + 1) := by rw [hEl]; omega
       rw [her] at hnx2 hEl hEn
       exact ⟨n - (k2 + 1), _, _, by omega, by simp [HH6, HH11, ↓HH12, ↓hLr, zI, -List.map_take, -List.map_drop, -List.length_map, -List.getElem?_map, evOpt, sliceA, bounds, hiB, bound, ↓hrx2, HH13, hcall, h18, ↓o18, ↓f18, ↓heB, ↓eqB_rI, ↓hdl, ↓hdl2, hs1, hs2, hls, hls3, t3, t3b, ↓t3a, ↓t3r, t3l, tk3, l1, hEl] <;> rfl, k2 + 1, i2 + 1, (b2 :: T3), false, by omega, rfl, by omega, hEn, .inr ⟨p2 + 1, nx2, by omega, hnx2, hnl2, rfl⟩⟩
     ·by_cases he : qn + 1 = L.length
      ·obtain ⟨rfl, rfl⟩ := hc1 (by omega)
       clear hc0
       have hdl : ((L.map rI).drop (qn + 1)).take (L.length - (qn + 1)) = (L.drop (qn + 1)).map rI := by rw [List.map_drop]; exact List.take_of_length_le (by simp)
       have hdl2 : (L.map rI).drop (qn + 1) = (L.drop (qn + 1)).map rI := by rw [List.map_drop]
       have l1 : (L.take qn).length = qn := by rw [List.length_take]; omega
       have l2 : (L.drop (qn + 1)).length = L.length - (qn + 1) := by rw [List.length_drop]
       have hs1 : qn + 1 + (L.length - (qn + 1)) = L.length := by omega
       have hs2 : qn + 1 + (L.length - (qn + 1)) ≤ L.length := by omega
       generalize L.take qn = T1 at *
       generalize L.drop (qn + 1) = T2 at *
       have tkq : (T1.map rI).take qn = T1.map rI := List.take_of_length_le (by simp [l1])
       have hq0 : ¬ qn = 0 := hz
       have t1l : (T1.map rI).length = qn := by simp [l1]
       have t1a : ((T1.map rI).all fun r => r.length == 1) = true := by simp [rI]
       have t1n : T1.map rI ≠ [] := by intro e; rw [e] at t1l; simp at t1l; omega
       have t1r := fun n => rI_rb n 4 T1
       obtain rfl : T2 = [] := List.eq_nil_of_length_eq_zero (by omega)
       simp only [List.append_nil] at her
       have hls : L.length - (qn + 1) = 0 := by omega
       have hls3 : qn + 1 ≤ L.length := by omega
       refine runs_drwN fu (by simp (maxSteps := 3000000) [HH6, HH11, ↓HH12, ↓hLr, zI, -List.map_take, -List.map_drop, -List.length_map, -List.getElem?_map, evOpt, sliceA, bounds, hiB, bound, ↓hrx2, HH13, hcall, h18, ↓o18, ↓f18, ↓heB, ↓eqB_rI, ↓hdl, ↓hdl2, hs1, hs2, hls, hls3, tkq, hq0, t1l, ↓t1a, t1n, ↓t1r]; rfl) ?_
       simp only [zT, zB]
       refine zR (zO (by simp [HH6, HH11, ↓HH12, ↓hLr, zI, -List.map_take, -List.map_drop, -List.length_map, -List.getElem?_map, evOpt, sliceA, bounds, hiB, bound, ↓hrx2, HH13, hcall, h18, ↓o18, ↓f18, ↓heB, ↓eqB_rI, ↓hdl, ↓hdl2, hs1, hs2, hls, hls3, tkq, hq0, t1l, ↓t1a, t1n, ↓t1r]; rfl) ?_)
       simp only [zT, zB]
       have hEl : (L.eraseIdx qn).length = qn := by rw [her]; simp [l1]
       have hEn : (L.eraseIdx qn).length = n - (k2 + 1) := by rw [hEl]; omega
       rw [her] at hnx2 hEl hEn
       exact ⟨n - (k2 + 1), _, _, by omega, by simp [HH6, HH11, ↓HH12, ↓hLr, zI, -List.map_take, -List.map_drop, -List.length_map, -List.getElem?_map, evOpt, sliceA, bounds, hiB, bound, ↓hrx2, HH13, hcall, h18, ↓o18, ↓f18, ↓heB, ↓eqB_rI, ↓hdl, ↓hdl2, hs1, hs2, hls, hls3, tkq, hq0, t1l, ↓t1a, t1n, ↓t1r, l1, hEl] <;> rfl, k2 + 1, i2 + 1, T1, false, by omega, rfl, by omega, hEn, .inr ⟨p2 + 1, nx2, by omega, hnx2, hnl2, rfl⟩⟩
      ·obtain ⟨rfl, rfl⟩ := hc1 (by omega)
       clear hc0
       have hdl : ((L.map rI).drop (qn + 1)).take (L.length - (qn + 1)) = (L.drop (qn + 1)).map rI := by rw [List.map_drop]; exact List.take_of_length_le (by simp)
       have hdl2 : (L.map rI).drop (qn + 1) = (L.drop (qn + 1)).map rI := by rw [List.map_drop]
       have l1 : (L.take qn).length = qn := by rw [List.length_take]; omega
       have l2 : (L.drop (qn + 1)).length = L.length - (qn + 1) := by rw [List.length_drop]
       have hs1 : qn + 1 + (L.length - (qn + 1)) = L.length := by omega
       have hs2 : qn + 1 + (L.length - (qn + 1)) ≤ L.length := by omega
       generalize L.take qn = T1 at *
       generalize L.drop (qn + 1) = T2 at *
       have tkq : (T1.map rI).take qn = T1.map rI := List.take_of_length_le (by simp [l1])
       have hq0 : ¬ qn = 0 := hz
       have t1l : (T1.map rI).length = qn := by simp [l1]
       have t1a : ((T1.map rI).all fun r => r.length == 1) = true := by simp [rI]
       have t1n : T1.map rI ≠ [] := by intro e; rw [e] at t1l; simp at t1l; omega
       have t1r := fun n => rI_rb n 4 T1
       obtain ⟨b2, T3, rfl⟩ : ∃ b2 T3, T2 = b2 :: T3 := by
        cases T2 with
        | nil => simp at l2; omega
        | cons a l => exact ⟨a, l, rfl⟩
       simp only [List.length_cons] at l2
       have hls : L.length - (qn + 1) = T3.length + 1 := by omega
       have t3 : T3.length + 1 ≤ 1048576 := by omega
       have t3b : qn + (T3.length + 1) ≤ 1048576 := by omega
       have t3a : ((T3.map rI).all fun r => r.length == 1) = true := by simp [rI]
       have t3r := fun n => rI_rb n 4 T3
       have t3l : (T3.map rI).length = T3.length := by simp
       have hls3 : qn + 1 + (T3.length + 1) ≤ L.length := by omega
       have tk3 : (T3.map rI).take T3.length = T3.map rI := List.take_of_length_le (by simp)
       refine runs_drwN fu (by simp (maxSteps := 3000000) [HH6, HH11, ↓HH12, ↓hLr, zI, -List.map_take, -List.map_drop, -List.length_map, -List.getElem?_map, evOpt, sliceA, bounds, hiB, bound, ↓hrx2, HH13, hcall, h18, ↓o18, ↓f18, ↓heB, ↓eqB_rI, ↓hdl, ↓hdl2, hs1, hs2, hls, hls3, tkq, hq0, t1l, ↓t1a, t1n, ↓t1r, t3, t3b, ↓t3a, ↓t3r, t3l, tk3]; rfl) ?_
       simp only [zT, zB]
       refine zR (zO (by simp [HH6, HH11, ↓HH12, ↓hLr, zI, -List.map_take, -List.map_drop, -List.length_map, -List.getElem?_map, evOpt, sliceA, bounds, hiB, bound, ↓hrx2, HH13, hcall, h18, ↓o18, ↓f18, ↓heB, ↓eqB_rI, ↓hdl, ↓hdl2, hs1, hs2, hls, hls3, tkq, hq0, t1l, ↓t1a, t1n, ↓t1r, t3, t3b, ↓t3a, ↓t3r, t3l, tk3]; rfl) ?_)
       simp only [zT, zB]
       have hEl : (L.eraseIdx qn).length = qn + (T3.length + 1) := by rw [her]; simp [l1]
       have hEn : (L.eraseIdx qn).length = n - (k2 + 1) := by rw [hEl]; omega
       rw [her] at hnx2 hEl hEn
       exact ⟨n - (k2 + 1), _, _, by omega, by simp [HH6, HH11, ↓HH12, ↓hLr, zI, -List.map_take, -List.map_drop, -List.length_map, -List.getElem?_map, evOpt, sliceA, bounds, hiB, bound, ↓hrx2, HH13, hcall, h18, ↓o18, ↓f18, ↓heB, ↓eqB_rI, ↓hdl, ↓hdl2, hs1, hs2, hls, hls3, tkq, hq0, t1l, ↓t1a, t1n, ↓t1r, t3, t3b, ↓t3a, ↓t3r, t3l, tk3, l1, hEl] <;> rfl, k2 + 1, i2 + 1, (T1 ++ b2 :: T3), false, by omega, rfl, by omega, hEn, .inr ⟨p2 + 1, nx2, by omega, hnx2, hnl2, rfl⟩⟩
    ·have hx2 := of_decide_eq_false hlt2
     have hkE2 : k2 = n := by omega
     have hLe : L = [] := List.eq_nil_of_length_eq_zero (by omega)
     rw [hLe, hkE2, List.drop_of_length_le (by rw [List.length_take, bo.1]; omega)] at hac2
     simp only [ordGo, List.append_nil] at hac2
     rw [← hac2, encE_ne (by intro e; rw [e] at hacl2; simp at hacl2)]
     refine runs_exit ?_
     simp only [zT, zB, if_true, if_false, reduceIte, Nat.reduceEqDiff, Nat.succ_ne_zero, Nat.one_ne_zero, Nat.zero_ne_one]
     refine zS ?_
     refine zR (zO (by simp [HH6, HH11, ↓HH12, frz_mapI]; rfl) ?_)
     simp only [zT, zB]
     refine runs_ret ?_
     simp [HH6, HH11, ↓HH12, frz_mapI, trim]
end
end Go.Proofs.YtjjapdagllclkaaGreat.Tab

namespace Go.Proofs.YtjjapdagllclkaaGreat.Tab
open Go Go.Abs Go.Proofs
set_option linter.unusedSimpArgs false
set_option linter.unusedVariables false
theorem shopE_of {s : FShop} {js : List FJob} (h : ShopOk s js) : shopE s js = 0 := by
  obtain ⟨h1, h2, h3, h4, h5, h6, h7⟩ := h
  have e1 : inI 1 s.mach 4 = true := by simp only [inI, Bool.and_eq_true, decide_eq_true_eq]; exact h1
  have e2 : inI 1 s.chg.length 4 = true := by simp only [inI, Bool.and_eq_true, decide_eq_true_eq]; omega
  have e3 : s.chg.all (chgOk s.chg.length) = true := by
    rw [List.all_eq_true]
    intro l hl
    have := h3 l hl
    simp only [chgOk, wB, Bool.and_eq_true, beq_iff_eq, List.all_eq_true, decide_eq_true_eq]
    exact this
  have e4 : s.stops.all (stopOk s.mach) = true := by
    rw [List.all_eq_true]
    intro x hx
    have := h5 x hx
    simp only [stopOk, inI, wB, Bool.and_eq_true, List.all_eq_true, decide_eq_true_eq, List.mem_cons, List.not_mem_nil, or_false, forall_eq_or_imp, forall_eq]
    omega
  have e5 : js.all (jobOk s.mach s.chg.length) = true := by
    rw [List.all_eq_true]
    intro j hj
    have := h7 j hj
    simp only [jobOk, inI, wB, Bool.and_eq_true, beq_iff_eq, List.all_eq_true, decide_eq_true_eq, List.mem_cons, List.not_mem_nil, or_false, forall_eq_or_imp, forall_eq]
    exact ⟨⟨⟨by omega, by omega⟩, this.2.2.2.1⟩, this.2.2.2.2⟩
  unfold shopE
  rw [e1, e2, e3, e4, e5]
  simp only [Bool.and_self, Bool.not_true, Bool.false_eq_true, if_false]
  rw [if_neg (by omega), if_neg (by omega)]
theorem tmod_bd {a m : Int} (ha : 0 ≤ a) (hm : 0 < m) : 0 ≤ a.tmod m ∧ a.tmod m < m := ⟨Int.tmod_nonneg m ha, Int.tmod_lt_of_pos a hm⟩
theorem made_ok {w : FWorks} (h : WkOk w) : ShopOk (wShop w) (wJobs w) := by
  have hm := tmod_bd (m := 4) h.m.1 (by decide)
  have hk := tmod_bd (m := 4) h.k.1 (by decide)
  have hM : 1 ≤ wM w ∧ wM w ≤ 4 := by unfold wM; omega
  have hK : 1 ≤ wK w ∧ wK w ≤ 4 := by unfold wK; omega
  have hcl : (wC w (wK w).toNat).length = (wK w).toNat := by simp [wC]
  have hv : ∀ v k, (∀ n ∈ v, isU n) → isU (v_ v k) := fun v k hv => mins_fit hv
  refine ⟨hM, ?_, ?_, ?_, ?_, ?_, ?_⟩
  · show 1 ≤ (wC w (wK w).toNat).length ∧ (wC w (wK w).toNat).length ≤ 4
    rw [hcl]; omega
  · intro l hl
    show l.length = (wC w (wK w).toNat).length ∧ _
    rw [hcl]
    simp only [wShop, wC, List.mem_map, List.mem_range] at hl
    obtain ⟨i, hi, rfl⟩ := hl
    refine ⟨by simp [wRow], fun c hc => ?_⟩
    simp only [wRow, List.mem_map, List.mem_range] at hc
    obtain ⟨k, hk, rfl⟩ := hc
    have hg : isU (gAt w i k) := mins_fit h.g.2
    have := tmod_bd (m := 40) hg.1 (by decide)
    omega
  · show (wT w (min w.xs.length 6)).length ≤ 10
    simp only [wT, List.length_map, List.length_take]; omega
  · intro x hx
    simp only [wShop, wT, List.mem_map] at hx
    obtain ⟨v, hvm, rfl⟩ := hx
    have hvv := (h.xs v (List.mem_of_mem_take hvm)).2
    have b0 := hv v 0 hvv
    have b1 := hv v 1 hvv
    have b2 := hv v 2 hvv
    have b3 := hv v 3 hvv
    have t0 := tmod_bd (m := wM w) b0.1 (by omega)
    have t2 := tmod_bd (m := 2) b2.1 (by decide)
    have t3 := tmod_bd (m := 60) b3.1 (by decide)
    obtain ⟨b10, b11⟩ := b1
    show (0 ≤ (v_ v 0).tmod (wM w) ∧ (v_ v 0).tmod (wM w) < wM w) ∧ (0 ≤ 2 * v_ v 1 + (v_ v 2).tmod 2 ∧ 2 * v_ v 1 + (v_ v 2).tmod 2 ≤ 100000) ∧ (0 ≤ 2 * v_ v 1 + (v_ v 2).tmod 2 + 1 + (v_ v 3).tmod 60 ∧ 2 * v_ v 1 + (v_ v 2).tmod 2 + 1 + (v_ v 3).tmod 60 ≤ 100000) ∧ 2 * v_ v 1 + (v_ v 2).tmod 2 < 2 * v_ v 1 + (v_ v 2).tmod 2 + 1 + (v_ v 3).tmod 60
    omega
  · show (wJ w (min w.ys.length 5)).length ≤ 6
    simp only [wJ, List.length_map, List.length_take]; omega
  · intro j hj
    simp only [wJobs, wJ, List.mem_map] at hj
    obtain ⟨v, hvm, rfl⟩ := hj
    have hvv := (h.ys v (List.mem_of_mem_take hvm)).2
    have b0 := hv v 0 hvv
    have b1 := hv v 1 hvv
    have b2 := hv v 2 hvv
    have t0 := tmod_bd (m := wK w) b0.1 (by omega)
    obtain ⟨b10, b11⟩ := b1
    obtain ⟨b20, b21⟩ := b2
    refine ⟨?_, ⟨b10, by show v_ v 1 ≤ _; omega⟩, ⟨by show 0 ≤ 3 * v_ v 2; omega, by show 3 * v_ v 2 ≤ _; omega⟩, ?_, fun n hn => ?_⟩
    · show 0 ≤ (v_ v 0).tmod (wK w) ∧ (v_ v 0).tmod (wK w) < ((wC w (wK w).toNat).length : Int)
      rw [hcl]; omega
    · show ((wMins v (wM w).toNat).length : Int) = wM w
      simp only [wMins, List.length_map, List.length_range]; omega
    · have hn' : n ∈ wMins v (wM w).toNat := hn
      simp only [wMins, List.mem_map, List.mem_range] at hn'
      obtain ⟨k, hk, rfl⟩ := hn'
      have b3 := hv v (3 + k) hvv
      have t3 := tmod_bd (m := 90) b3.1 (by decide)
      unfold wMin
      omega
theorem made_len {w : FWorks} : (wJobs w).length ≤ 5 := by simp only [wJobs, wJ, List.length_map, List.length_take]; omega
/-- The order that bytes make of the jobs that they make. -/
def wOrd (w : FWorks) : List Int := ordW w.o (wJobs w).length
theorem made_ctx {w : FWorks} (h : WkOk w) : RunCtx (wShop w) (wJobs w) (wOrd w) :=
  ⟨made_ok h, ordW_ord h.o (by have := made_len (w := w); omega)⟩
theorem ctx_ordE {s : FShop} {js : List FJob} {os : List Int} (h : RunCtx s js os) : ordE s js os = 0 := by
  unfold ordE
  rw [if_pos (shopE_of h.ok), if_pos h.ord]
/-- By which the reading of the cells of works is meant. -/
def dWk (r : List AVal) : Option (FWorks × AVal × AVal) := match r with
  | .int .u8 m :: .int .u8 k :: l => match dU (l.take 16), l.drop 16 with
    | some g, x :: y :: o => match rowsV x, rowsV y, dU o with
      | some xr, some yr, some os => match optAll dU xr, optAll dU yr with
        | some xs, some ys => some (⟨m, k, g, xs, ys, os⟩, x, y)
        | _, _ => none
      | _, _, _ => none
    | _, _ => none
  | _ => none
theorem dU_self (v : List Int) : dU (rU v) = some v := optAll_map (d := dU1) (enc := fun n => AVal.int .u8 n) (fun _ => rfl) v
theorem optAll_dU (xs : List (List Int)) : optAll dU (xs.map rU) = some xs := optAll_map (d := dU) (enc := rU) dU_self xs
theorem dWk_eq {r : List AVal} {W : FWorks} {x y : AVal} (h : dWk r = some (W, x, y)) : r = wkC W x y ∧ rowsV x = some (W.xs.map rU) ∧ rowsV y = some (W.ys.map rU) := by
  unfold dWk at h
  split at h <;> (try simp only [reduceCtorEq] at h)
  rename_i m k l
  split at h <;> (try simp only [reduceCtorEq] at h)
  rename_i g x' y' o h1 h2
  split at h <;> (try simp only [reduceCtorEq] at h)
  rename_i xr yr os h3 h4 h5
  split at h <;> (try simp only [reduceCtorEq] at h)
  rename_i xs ys h6 h7
  simp only [Option.some.injEq, Prod.mk.injEq] at h
  obtain ⟨rfl, rfl, rfl⟩ := h
  have e6 := optAll_eq (fun r v h => dU_eq h) h6
  have e7 := optAll_eq (fun r v h => dU_eq h) h7
  subst e6 e7
  refine ⟨?_, h3, h4⟩
  have e1 := dU_eq h1
  have e5 := dU_eq h5
  unfold wkC
  rw [← e1, ← e5]
  have : l = l.take 16 ++ l.drop 16 := (List.take_append_drop 16 l).symm
  rw [h2] at this
  simp only [List.append_assoc, List.cons_append, List.nil_append]
  rw [← this]
theorem dWk_self {W : FWorks} {x y : AVal} (hg : W.g.length = 16) (hx : rowsV x = some (W.xs.map rU)) (hy : rowsV y = some (W.ys.map rU)) : dWk (wkC W x y) = some (W, x, y) := by
  have hl : (rU W.g).length = 16 := by rw [rU_len, hg]
  have e1 : (rU W.g ++ [x, y] ++ rU W.o).take 16 = rU W.g := by rw [List.append_assoc, List.take_append_of_le_length (by omega), List.take_of_length_le (by omega)]
  have e2 : (rU W.g ++ [x, y] ++ rU W.o).drop 16 = x :: y :: rU W.o := by rw [List.append_assoc, List.drop_append_of_le_length (by omega), List.drop_of_length_le (by omega)]; rfl
  unfold dWk wkC
  simp only [e1, e2, dU_self, hx, hy, optAll_dU]
end Go.Proofs.YtjjapdagllclkaaGreat.Tab

namespace Go.Proofs.YtjjapdagllclkaaGreat.Tab
open Go Go.Abs Go.Proofs
def isFreeB (st : List FStop) (k n t : Int) : Bool := st.all fun x => !conf k n t x
theorem isFreeB_ok {st : List FStop} {k n t : Int} (h : isFreeB st k n t = true) : isFree st k n t := fun x hx => by
  have := List.all_eq_true.1 h x hx
  simpa using this
def freeC (st : List FStop) (k n : Int) : Nat → Int → Int
  | 0, a => a
  | f + 1, a => match st.find? (conf k n a) with
    | some x => freeC st k n f x.2.2
    | none => a
theorem freeC_ok {st : List FStop} {k n : Int} : ∀ (f : Nat) (a : Int), isFree st k n (freeC st k n f a) → FreeAt st k n a (freeC st k n f a)
  | 0, a, h => freeAt_self h
  | f + 1, a, h => by
    unfold freeC at h ⊢
    split
    · rename_i x hx
      rw [hx] at h
      exact freeAt_step (List.mem_of_find?_eq_some hx) (List.find?_some hx) (freeC_ok f _ h)
    · rename_i hx
      rw [hx] at h
      exact freeAt_self h
def freeO (st : List FStop) (k n a : Int) : Option Int := if isFreeB st k n (freeC st k n 12 a) = true then some (freeC st k n 12 a) else none
theorem freeO_eq {st : List FStop} {k n a u : Int} (h : freeO st k n a = some u) : freeT st k n a = u := by
  unfold freeO at h
  by_cases hf : isFreeB st k n (freeC st k n 12 a) = true
  · rw [if_pos hf] at h
    cases h
    exact freeT_eq (freeC_ok 12 _ (isFreeB_ok hf))
  · rw [if_neg hf] at h; simp at h
def startC (s : FShop) (kind : Int) (l : FLine) (k : Nat) (n t : Int) : Option Int :=
  if 0 < n then freeO s.stops k n (if (l.getD k (0, 0, false)).2.2 then max t ((l.getD k (0, 0, false)).1 + chgAt s (l.getD k (0, 0, false)).2.1 kind) else t) else some t
theorem startC_eq {s : FShop} {kind : Int} {l : FLine} {k : Nat} {n t u : Int} (h : startC s kind l k n t = some u) : startF s kind l k n t = u := by
  unfold startC at h
  unfold startF
  by_cases hn : 0 < n
  · rw [if_pos hn] at h ⊢
    exact freeO_eq h
  · rw [if_neg hn] at h ⊢
    exact Option.some.inj h
def passGoC (s : FShop) (kind : Int) : List Int → Nat → Int → FLine → Option (List Int × Int × FLine)
  | [], _, t, l => some ([], t, l)
  | n :: ns, k, t, l => match startC s kind l k n t with
    | some u => match passGoC s kind ns (k + 1) (u + n) (if 0 < n then l.set k (u + n, kind, true) else l) with
      | some r => some (u :: r.1, r.2)
      | none => none
    | none => none
theorem passGoC_eq {s : FShop} {kind : Int} : ∀ {ns : List Int} {k : Nat} {t : Int} {l : FLine} {r : List Int × Int × FLine}, passGoC s kind ns k t l = some r → passGo s kind ns k t l = r
  | [], k, t, l, r, h => by simp only [passGoC, Option.some.injEq] at h; subst h; rfl
  | n :: ns, k, t, l, r, h => by
    simp only [passGoC] at h
    split at h
    · rename_i u hu
      split at h
      · rename_i r2 hr
        cases h
        have e := startC_eq hu
        simp only [passGo, e, passGoC_eq hr]
      · simp at h
    · simp at h
def passC (s : FShop) (l : FLine) (j : FJob) : Option (List Int × Int × FLine) := passGoC s j.kind j.mins 0 j.ready l
theorem passC_eq {s : FShop} {l : FLine} {j : FJob} {r : List Int × Int × FLine} (h : passC s l j = some r) : passF s l j = r := passGoC_eq h
def lineB (s : FShop) (B : Int) (l : FLine) : Bool := (l.length == 4) && l.all fun x => decide (0 ≤ x.1) && decide (x.1 ≤ B) && decide (0 ≤ x.2.1) && (x.2.1 == 0 || decide (x.2.1 < s.chg.length))
theorem lineB_ok {s : FShop} {B : Int} {l : FLine} (h : lineB s B l = true) : LineOk s B l := by
  simp only [lineB, Bool.and_eq_true, beq_iff_eq, List.all_eq_true, decide_eq_true_eq, Bool.or_eq_true] at h
  exact ⟨h.1, fun x hx => by have := h.2 x hx; exact ⟨⟨this.1.1.1, this.1.1.2⟩, this.1.2, this.2⟩⟩
end Go.Proofs.YtjjapdagllclkaaGreat.Tab

namespace Go.Proofs.YtjjapdagllclkaaGreat.Tab
open Go Go.Abs Go.Proofs
set_option maxRecDepth 1000000
theorem oAt_good {P : Program} {G : Nat → Option (List AVal)} {f : Nat} {fr : Bool} : ∀ {L : List (List AVal × AVal)}, (∀ p ∈ L, OrcGood P G fr f p.1 p.2) → ∀ args v, oAt L args = some v → OrcGood P G fr f args v
  | [], _, args, v, h => by simp [oAt] at h
  | (A, R) :: L, hL, args, v, h => by
    simp only [oAt] at h
    split at h
    · rename_i he
      simp at h
      subst h
      rw [allB_eqA he]
      exact hL (A, R) (by simp)
    · exact oAt_good (fun p hp => hL p (by simp [hp])) args v h
/-- How a job passes, as one can compute it. -/
def sPassK : List AVal → Heap → Option (AVal × Heap)
  | [.agg [.int .i64 m, c, t, j], .ref 0 0 0, .agg [.int .i64 kd, .int .i64 rd, .int .i64 du, v]], [some (.row 12 [r])] => match dInts2 c, dStops t, dJobs j, dInts v, dLine r with
    | some cs, some ts, some js, some ms, some l => if (shopE ⟨m, cs, ts⟩ js == 0) && lineB ⟨m, cs, ts⟩ 200000 l && decide (0 ≤ kd) && decide (kd < cs.length) && decide (0 ≤ rd) && decide (rd ≤ 200000) && ((ms.length : Int) == m) && (ms.all fun n => decide (0 ≤ n) && decide (n ≤ 10000)) then
        (match passC ⟨m, cs, ts⟩ l ⟨kd, rd, du, ms⟩ with
          | some r => some (.tup [.vl (r.1.map rI) false, I r.2.1], [some (.row 12 [lineC r.2.2])])
          | none => none) else none
    | _, _, _, _, _ => none
  | _, _ => none
noncomputable def FDK1 : Nat → Option CFn := updG FC1 102 [(229738, [.slot 6])] []
theorem FDK1_ok : TabOk Tryz.prog GG FDK1 := tab_updG FC1_ok
noncomputable def FDK2 : Nat → Option CFn := upd FDK1 102 false (fun _ => none)
theorem FDK2_ok : TabOk Tryz.prog GG FDK2 := tab_add mixed FDK1_ok fun args v ho => by simp at ho
noncomputable def FK0 : Nat → Option CFn := updE FDK2 102 (frameE sPassK)
theorem FK0_ok : TabOk Tryz.prog GG FK0 := tab_frame mixed FDK2_ok fun args h v h' ho => by
  unfold sPassK at ho
  split at ho <;> (try simp only [reduceCtorEq] at ho)
  rename_i m c t j kd rd du vv r
  split at ho <;> (try simp only [reduceCtorEq] at ho)
  rename_i cs ts js ms l hc ht hj hv hl
  split at ho <;> (try simp only [reduceCtorEq] at ho)
  rename_i hg
  split at ho <;> (try simp only [reduceCtorEq] at ho)
  rename_i rr hr
  simp only [Option.some.injEq, Prod.mk.injEq] at ho
  obtain ⟨rfl, rfl⟩ := ho
  obtain ⟨rfl, _⟩ := dLine_eq hl
  simp only [Bool.and_eq_true, beq_iff_eq, decide_eq_true_eq, List.all_eq_true] at hg
  obtain ⟨⟨⟨⟨⟨⟨⟨g1, g2⟩, g3⟩, g4⟩, g5⟩, g6⟩, g7⟩, g8⟩ := hg
  have e := passC_eq hr
  subst e
  exact a102 Tryz.prog FDK2 rfl rfl ⟨m, cs, ts⟩ js c t j hc ht hj kd rd du vv ms l hv ⟨shop_ok g1, lineB_ok g2, ⟨g3, g4⟩, ⟨g5, g6⟩, g7, g8⟩
noncomputable def kS : AVal := .agg [I 2, .vl [[.vl [[I 0], [I 10]] true], [.vl [[I 20], [I 0]] true]] true, .nils]
noncomputable def kJ90 : AVal := (.vl [[I 0, I 0, I 100, (.vl [[I (30)], [I (40)]] true)], [I 1, I 0, I 90, (.vl [[I (20)], [I (20)]] true)], [I 0, I 15, I 130, (.vl [[I (10)], [I (0)]] true)]] true)
noncomputable def kJ100 : AVal := (.vl [[I 0, I 0, I 100, (.vl [[I (30)], [I (40)]] true)], [I 1, I 0, I 100, (.vl [[I (20)], [I (20)]] true)], [I 0, I 15, I 130, (.vl [[I (10)], [I (0)]] true)]] true)
theorem k71_0 : isR (.tup [.nils, .agg [I 0, I 0]]) (callF FK0 (exec Tryz.prog FK0 1000) 71 [.agg [I 2, .vl [[.vl [[I 0], [I 10]] true], [.vl [[I 20], [I 0]] true]] true, .nils, .nils]] []) = true := by kernel_rfl
theorem k71_1 : isR (.tup [(.vl [[I (0)]] false), .agg [I 0, I 70]]) (callF FK0 (exec Tryz.prog FK0 1000) 71 [.agg [I 2, .vl [[.vl [[I 0], [I 10]] true], [.vl [[I 20], [I 0]] true]] true, .nils, (.vl [[I 0, I 0, I 100, (.vl [[I (30)], [I (40)]] true)]] false)]] []) = true := by kernel_rfl
theorem k71_2 : isR (.tup [(.vl [[I (0)]] false), .agg [I 0, I 40]]) (callF FK0 (exec Tryz.prog FK0 1000) 71 [.agg [I 2, .vl [[.vl [[I 0], [I 10]] true], [.vl [[I 20], [I 0]] true]] true, .nils, (.vl [[I 1, I 0, I 90, (.vl [[I (20)], [I (20)]] true)]] false)]] []) = true := by kernel_rfl
theorem k71_3 : isR (.tup [(.vl [[I (0)], [I (1)]] false), .agg [I 10, I 100]]) (callF FK0 (exec Tryz.prog FK0 1000) 71 [.agg [I 2, .vl [[.vl [[I 0], [I 10]] true], [.vl [[I 20], [I 0]] true]] true, .nils, (.vl [[I 0, I 0, I 100, (.vl [[I (30)], [I (40)]] true)], [I 1, I 0, I 90, (.vl [[I (20)], [I (20)]] true)]] false)]] []) = true := by kernel_rfl
theorem k71_4 : isR (.tup [(.vl [[I (0)]] false), .agg [I 0, I 25]]) (callF FK0 (exec Tryz.prog FK0 1000) 71 [.agg [I 2, .vl [[.vl [[I 0], [I 10]] true], [.vl [[I 20], [I 0]] true]] true, .nils, (.vl [[I 0, I 15, I 130, (.vl [[I (10)], [I (0)]] true)]] false)]] []) = true := by kernel_rfl
theorem k71_5 : isR (.tup [(.vl [[I (0)], [I (1)]] false), .agg [I 0, I 70]]) (callF FK0 (exec Tryz.prog FK0 1000) 71 [.agg [I 2, .vl [[.vl [[I 0], [I 10]] true], [.vl [[I 20], [I 0]] true]] true, .nils, (.vl [[I 0, I 0, I 100, (.vl [[I (30)], [I (40)]] true)], [I 0, I 15, I 130, (.vl [[I (10)], [I (0)]] true)]] false)]] []) = true := by kernel_rfl
theorem k71_6 : isR (.tup [(.vl [[I (0)], [I (1)]] false), .agg [I 0, I 50]]) (callF FK0 (exec Tryz.prog FK0 1000) 71 [.agg [I 2, .vl [[.vl [[I 0], [I 10]] true], [.vl [[I 20], [I 0]] true]] true, .nils, (.vl [[I 1, I 0, I 90, (.vl [[I (20)], [I (20)]] true)], [I 0, I 15, I 130, (.vl [[I (10)], [I (0)]] true)]] false)]] []) = true := by kernel_rfl
theorem k71_7 : isR (.tup [(.vl [[I (0)], [I (1)], [I (2)]] false), .agg [I 10, I 100]]) (callF FK0 (exec Tryz.prog FK0 1000) 71 [.agg [I 2, .vl [[.vl [[I 0], [I 10]] true], [.vl [[I 20], [I 0]] true]] true, .nils, (.vl [[I 0, I 0, I 100, (.vl [[I (30)], [I (40)]] true)], [I 1, I 0, I 90, (.vl [[I (20)], [I (20)]] true)], [I 0, I 15, I 130, (.vl [[I (10)], [I (0)]] true)]] false)]] []) = true := by kernel_rfl
theorem k71_8 : isR (.tup [(.vl [[I (0)], [I (1)], [I (2)]] false), .agg [I 10, I 100]]) (callF FK0 (exec Tryz.prog FK0 1000) 71 [.agg [I 2, .vl [[.vl [[I 0], [I 10]] true], [.vl [[I 20], [I 0]] true]] true, .nils, (.vl [[I 0, I 0, I 100, (.vl [[I (30)], [I (40)]] true)], [I 1, I 0, I 90, (.vl [[I (20)], [I (20)]] true)], [I 0, I 15, I 130, (.vl [[I (10)], [I (0)]] true)]] true)]] []) = true := by kernel_rfl
theorem k64_0 : isR (.nils) (callF FK0 (exec Tryz.prog FK0 1000) 64 [.agg [I 2, .vl [[.vl [[I 0], [I 10]] true], [.vl [[I 20], [I 0]] true]] true, .nils, (.vl [[I 0, I 0, I 100, (.vl [[I (30)], [I (40)]] true)], [I 1, I 0, I 100, (.vl [[I (20)], [I (20)]] true)], [I 0, I 15, I 130, (.vl [[I (10)], [I (0)]] true)]] true)], (.vl [[I (0)], [I (1)], [I (2)]] true)] []) = true := by kernel_rfl
theorem k64_1 : isR ((.vl [[I (0)], [I (1)]] false)) (callF FK0 (exec Tryz.prog FK0 1000) 64 [.agg [I 2, .vl [[.vl [[I 0], [I 10]] true], [.vl [[I 20], [I 0]] true]] true, (.vl [[I 1, I 60, I 70]] false), (.vl [[I 0, I 0, I 100, (.vl [[I (30)], [I (40)]] true)], [I 1, I 0, I 100, (.vl [[I (20)], [I (20)]] true)], [I 0, I 15, I 130, (.vl [[I (10)], [I (0)]] true)]] true)], (.vl [[I (0)], [I (1)], [I (2)]] true)] []) = true := by kernel_rfl
theorem k64_0_5000 : isR ((.vl [[I (0)], [I (1)], [I (2)]] false)) (callF FK0 (exec Tryz.prog FK0 1000) 64 [.agg [I 2, .vl [[.vl [[I 0], [I 10]] true], [.vl [[I 20], [I 0]] true]] true, .nils, (.vl [[I 0, I 5000, I 100, (.vl [[I (30)], [I (40)]] true)], [I 1, I 0, I 100, (.vl [[I (20)], [I (20)]] true)], [I 0, I 15, I 130, (.vl [[I (10)], [I (0)]] true)]] false)], (.vl [[I (0)], [I (1)], [I (2)]] true)] []) = true := by kernel_rfl
theorem k64_0_2500 : isR ((.vl [[I (0)], [I (1)], [I (2)]] false)) (callF FK0 (exec Tryz.prog FK0 1000) 64 [.agg [I 2, .vl [[.vl [[I 0], [I 10]] true], [.vl [[I 20], [I 0]] true]] true, .nils, (.vl [[I 0, I 2500, I 100, (.vl [[I (30)], [I (40)]] true)], [I 1, I 0, I 100, (.vl [[I (20)], [I (20)]] true)], [I 0, I 15, I 130, (.vl [[I (10)], [I (0)]] true)]] false)], (.vl [[I (0)], [I (1)], [I (2)]] true)] []) = true := by kernel_rfl
theorem k64_0_1250 : isR ((.vl [[I (0)], [I (1)], [I (2)]] false)) (callF FK0 (exec Tryz.prog FK0 1000) 64 [.agg [I 2, .vl [[.vl [[I 0], [I 10]] true], [.vl [[I 20], [I 0]] true]] true, .nils, (.vl [[I 0, I 1250, I 100, (.vl [[I (30)], [I (40)]] true)], [I 1, I 0, I 100, (.vl [[I (20)], [I (20)]] true)], [I 0, I 15, I 130, (.vl [[I (10)], [I (0)]] true)]] false)], (.vl [[I (0)], [I (1)], [I (2)]] true)] []) = true := by kernel_rfl
theorem k64_0_625 : isR ((.vl [[I (0)], [I (1)], [I (2)]] false)) (callF FK0 (exec Tryz.prog FK0 1000) 64 [.agg [I 2, .vl [[.vl [[I 0], [I 10]] true], [.vl [[I 20], [I 0]] true]] true, .nils, (.vl [[I 0, I 625, I 100, (.vl [[I (30)], [I (40)]] true)], [I 1, I 0, I 100, (.vl [[I (20)], [I (20)]] true)], [I 0, I 15, I 130, (.vl [[I (10)], [I (0)]] true)]] false)], (.vl [[I (0)], [I (1)], [I (2)]] true)] []) = true := by kernel_rfl
theorem k64_0_312 : isR ((.vl [[I (0)], [I (1)], [I (2)]] false)) (callF FK0 (exec Tryz.prog FK0 1000) 64 [.agg [I 2, .vl [[.vl [[I 0], [I 10]] true], [.vl [[I 20], [I 0]] true]] true, .nils, (.vl [[I 0, I 312, I 100, (.vl [[I (30)], [I (40)]] true)], [I 1, I 0, I 100, (.vl [[I (20)], [I (20)]] true)], [I 0, I 15, I 130, (.vl [[I (10)], [I (0)]] true)]] false)], (.vl [[I (0)], [I (1)], [I (2)]] true)] []) = true := by kernel_rfl
theorem k64_0_156 : isR ((.vl [[I (0)], [I (1)], [I (2)]] false)) (callF FK0 (exec Tryz.prog FK0 1000) 64 [.agg [I 2, .vl [[.vl [[I 0], [I 10]] true], [.vl [[I 20], [I 0]] true]] true, .nils, (.vl [[I 0, I 156, I 100, (.vl [[I (30)], [I (40)]] true)], [I 1, I 0, I 100, (.vl [[I (20)], [I (20)]] true)], [I 0, I 15, I 130, (.vl [[I (10)], [I (0)]] true)]] false)], (.vl [[I (0)], [I (1)], [I (2)]] true)] []) = true := by kernel_rfl
theorem k64_0_78 : isR ((.vl [[I (0)], [I (1)], [I (2)]] false)) (callF FK0 (exec Tryz.prog FK0 1000) 64 [.agg [I 2, .vl [[.vl [[I 0], [I 10]] true], [.vl [[I 20], [I 0]] true]] true, .nils, (.vl [[I 0, I 78, I 100, (.vl [[I (30)], [I (40)]] true)], [I 1, I 0, I 100, (.vl [[I (20)], [I (20)]] true)], [I 0, I 15, I 130, (.vl [[I (10)], [I (0)]] true)]] false)], (.vl [[I (0)], [I (1)], [I (2)]] true)] []) = true := by kernel_rfl
theorem k64_0_39 : isR ((.vl [[I (0)], [I (1)]] false)) (callF FK0 (exec Tryz.prog FK0 1000) 64 [.agg [I 2, .vl [[.vl [[I 0], [I 10]] true], [.vl [[I 20], [I 0]] true]] true, .nils, (.vl [[I 0, I 39, I 100, (.vl [[I (30)], [I (40)]] true)], [I 1, I 0, I 100, (.vl [[I (20)], [I (20)]] true)], [I 0, I 15, I 130, (.vl [[I (10)], [I (0)]] true)]] false)], (.vl [[I (0)], [I (1)], [I (2)]] true)] []) = true := by kernel_rfl
theorem k64_0_19 : isR ((.vl [[I (1)]] false)) (callF FK0 (exec Tryz.prog FK0 1000) 64 [.agg [I 2, .vl [[.vl [[I 0], [I 10]] true], [.vl [[I 20], [I 0]] true]] true, .nils, (.vl [[I 0, I 19, I 100, (.vl [[I (30)], [I (40)]] true)], [I 1, I 0, I 100, (.vl [[I (20)], [I (20)]] true)], [I 0, I 15, I 130, (.vl [[I (10)], [I (0)]] true)]] false)], (.vl [[I (0)], [I (1)], [I (2)]] true)] []) = true := by kernel_rfl
theorem k64_0_9 : isR ((.vl [[I (1)]] false)) (callF FK0 (exec Tryz.prog FK0 1000) 64 [.agg [I 2, .vl [[.vl [[I 0], [I 10]] true], [.vl [[I 20], [I 0]] true]] true, .nils, (.vl [[I 0, I 9, I 100, (.vl [[I (30)], [I (40)]] true)], [I 1, I 0, I 100, (.vl [[I (20)], [I (20)]] true)], [I 0, I 15, I 130, (.vl [[I (10)], [I (0)]] true)]] false)], (.vl [[I (0)], [I (1)], [I (2)]] true)] []) = true := by kernel_rfl
theorem k64_0_4 : isR ((.vl [[I (1)]] false)) (callF FK0 (exec Tryz.prog FK0 1000) 64 [.agg [I 2, .vl [[.vl [[I 0], [I 10]] true], [.vl [[I 20], [I 0]] true]] true, .nils, (.vl [[I 0, I 4, I 100, (.vl [[I (30)], [I (40)]] true)], [I 1, I 0, I 100, (.vl [[I (20)], [I (20)]] true)], [I 0, I 15, I 130, (.vl [[I (10)], [I (0)]] true)]] false)], (.vl [[I (0)], [I (1)], [I (2)]] true)] []) = true := by kernel_rfl
theorem k64_0_2 : isR ((.vl [[I (1)]] false)) (callF FK0 (exec Tryz.prog FK0 1000) 64 [.agg [I 2, .vl [[.vl [[I 0], [I 10]] true], [.vl [[I 20], [I 0]] true]] true, .nils, (.vl [[I 0, I 2, I 100, (.vl [[I (30)], [I (40)]] true)], [I 1, I 0, I 100, (.vl [[I (20)], [I (20)]] true)], [I 0, I 15, I 130, (.vl [[I (10)], [I (0)]] true)]] false)], (.vl [[I (0)], [I (1)], [I (2)]] true)] []) = true := by kernel_rfl
theorem k64_0_1 : isR ((.vl [[I (1)]] false)) (callF FK0 (exec Tryz.prog FK0 1000) 64 [.agg [I 2, .vl [[.vl [[I 0], [I 10]] true], [.vl [[I 20], [I 0]] true]] true, .nils, (.vl [[I 0, I 1, I 100, (.vl [[I (30)], [I (40)]] true)], [I 1, I 0, I 100, (.vl [[I (20)], [I (20)]] true)], [I 0, I 15, I 130, (.vl [[I (10)], [I (0)]] true)]] false)], (.vl [[I (0)], [I (1)], [I (2)]] true)] []) = true := by kernel_rfl
theorem k64_1_5000 : isR ((.vl [[I (1)], [I (2)]] false)) (callF FK0 (exec Tryz.prog FK0 1000) 64 [.agg [I 2, .vl [[.vl [[I 0], [I 10]] true], [.vl [[I 20], [I 0]] true]] true, .nils, (.vl [[I 0, I 0, I 100, (.vl [[I (30)], [I (40)]] true)], [I 1, I 5000, I 100, (.vl [[I (20)], [I (20)]] true)], [I 0, I 15, I 130, (.vl [[I (10)], [I (0)]] true)]] false)], (.vl [[I (0)], [I (1)], [I (2)]] true)] []) = true := by kernel_rfl
theorem k64_1_2500 : isR ((.vl [[I (1)], [I (2)]] false)) (callF FK0 (exec Tryz.prog FK0 1000) 64 [.agg [I 2, .vl [[.vl [[I 0], [I 10]] true], [.vl [[I 20], [I 0]] true]] true, .nils, (.vl [[I 0, I 0, I 100, (.vl [[I (30)], [I (40)]] true)], [I 1, I 2500, I 100, (.vl [[I (20)], [I (20)]] true)], [I 0, I 15, I 130, (.vl [[I (10)], [I (0)]] true)]] false)], (.vl [[I (0)], [I (1)], [I (2)]] true)] []) = true := by kernel_rfl
theorem k64_1_1250 : isR ((.vl [[I (1)], [I (2)]] false)) (callF FK0 (exec Tryz.prog FK0 1000) 64 [.agg [I 2, .vl [[.vl [[I 0], [I 10]] true], [.vl [[I 20], [I 0]] true]] true, .nils, (.vl [[I 0, I 0, I 100, (.vl [[I (30)], [I (40)]] true)], [I 1, I 1250, I 100, (.vl [[I (20)], [I (20)]] true)], [I 0, I 15, I 130, (.vl [[I (10)], [I (0)]] true)]] false)], (.vl [[I (0)], [I (1)], [I (2)]] true)] []) = true := by kernel_rfl
theorem k64_1_625 : isR ((.vl [[I (1)], [I (2)]] false)) (callF FK0 (exec Tryz.prog FK0 1000) 64 [.agg [I 2, .vl [[.vl [[I 0], [I 10]] true], [.vl [[I 20], [I 0]] true]] true, .nils, (.vl [[I 0, I 0, I 100, (.vl [[I (30)], [I (40)]] true)], [I 1, I 625, I 100, (.vl [[I (20)], [I (20)]] true)], [I 0, I 15, I 130, (.vl [[I (10)], [I (0)]] true)]] false)], (.vl [[I (0)], [I (1)], [I (2)]] true)] []) = true := by kernel_rfl
theorem k64_1_312 : isR ((.vl [[I (1)], [I (2)]] false)) (callF FK0 (exec Tryz.prog FK0 1000) 64 [.agg [I 2, .vl [[.vl [[I 0], [I 10]] true], [.vl [[I 20], [I 0]] true]] true, .nils, (.vl [[I 0, I 0, I 100, (.vl [[I (30)], [I (40)]] true)], [I 1, I 312, I 100, (.vl [[I (20)], [I (20)]] true)], [I 0, I 15, I 130, (.vl [[I (10)], [I (0)]] true)]] false)], (.vl [[I (0)], [I (1)], [I (2)]] true)] []) = true := by kernel_rfl
theorem k64_1_156 : isR ((.vl [[I (1)], [I (2)]] false)) (callF FK0 (exec Tryz.prog FK0 1000) 64 [.agg [I 2, .vl [[.vl [[I 0], [I 10]] true], [.vl [[I 20], [I 0]] true]] true, .nils, (.vl [[I 0, I 0, I 100, (.vl [[I (30)], [I (40)]] true)], [I 1, I 156, I 100, (.vl [[I (20)], [I (20)]] true)], [I 0, I 15, I 130, (.vl [[I (10)], [I (0)]] true)]] false)], (.vl [[I (0)], [I (1)], [I (2)]] true)] []) = true := by kernel_rfl
theorem k64_1_78 : isR ((.vl [[I (1)]] false)) (callF FK0 (exec Tryz.prog FK0 1000) 64 [.agg [I 2, .vl [[.vl [[I 0], [I 10]] true], [.vl [[I 20], [I 0]] true]] true, .nils, (.vl [[I 0, I 0, I 100, (.vl [[I (30)], [I (40)]] true)], [I 1, I 78, I 100, (.vl [[I (20)], [I (20)]] true)], [I 0, I 15, I 130, (.vl [[I (10)], [I (0)]] true)]] false)], (.vl [[I (0)], [I (1)], [I (2)]] true)] []) = true := by kernel_rfl
theorem k64_1_39 : isR (.nils) (callF FK0 (exec Tryz.prog FK0 1000) 64 [.agg [I 2, .vl [[.vl [[I 0], [I 10]] true], [.vl [[I 20], [I 0]] true]] true, .nils, (.vl [[I 0, I 0, I 100, (.vl [[I (30)], [I (40)]] true)], [I 1, I 39, I 100, (.vl [[I (20)], [I (20)]] true)], [I 0, I 15, I 130, (.vl [[I (10)], [I (0)]] true)]] false)], (.vl [[I (0)], [I (1)], [I (2)]] true)] []) = true := by kernel_rfl
theorem k64_1_58 : isR (.nils) (callF FK0 (exec Tryz.prog FK0 1000) 64 [.agg [I 2, .vl [[.vl [[I 0], [I 10]] true], [.vl [[I 20], [I 0]] true]] true, .nils, (.vl [[I 0, I 0, I 100, (.vl [[I (30)], [I (40)]] true)], [I 1, I 58, I 100, (.vl [[I (20)], [I (20)]] true)], [I 0, I 15, I 130, (.vl [[I (10)], [I (0)]] true)]] false)], (.vl [[I (0)], [I (1)], [I (2)]] true)] []) = true := by kernel_rfl
theorem k64_1_68 : isR ((.vl [[I (1)]] false)) (callF FK0 (exec Tryz.prog FK0 1000) 64 [.agg [I 2, .vl [[.vl [[I 0], [I 10]] true], [.vl [[I 20], [I 0]] true]] true, .nils, (.vl [[I 0, I 0, I 100, (.vl [[I (30)], [I (40)]] true)], [I 1, I 68, I 100, (.vl [[I (20)], [I (20)]] true)], [I 0, I 15, I 130, (.vl [[I (10)], [I (0)]] true)]] false)], (.vl [[I (0)], [I (1)], [I (2)]] true)] []) = true := by kernel_rfl
theorem k64_1_63 : isR ((.vl [[I (1)]] false)) (callF FK0 (exec Tryz.prog FK0 1000) 64 [.agg [I 2, .vl [[.vl [[I 0], [I 10]] true], [.vl [[I 20], [I 0]] true]] true, .nils, (.vl [[I 0, I 0, I 100, (.vl [[I (30)], [I (40)]] true)], [I 1, I 63, I 100, (.vl [[I (20)], [I (20)]] true)], [I 0, I 15, I 130, (.vl [[I (10)], [I (0)]] true)]] false)], (.vl [[I (0)], [I (1)], [I (2)]] true)] []) = true := by kernel_rfl
theorem k64_1_60 : isR (.nils) (callF FK0 (exec Tryz.prog FK0 1000) 64 [.agg [I 2, .vl [[.vl [[I 0], [I 10]] true], [.vl [[I 20], [I 0]] true]] true, .nils, (.vl [[I 0, I 0, I 100, (.vl [[I (30)], [I (40)]] true)], [I 1, I 60, I 100, (.vl [[I (20)], [I (20)]] true)], [I 0, I 15, I 130, (.vl [[I (10)], [I (0)]] true)]] false)], (.vl [[I (0)], [I (1)], [I (2)]] true)] []) = true := by kernel_rfl
theorem k64_1_61 : isR ((.vl [[I (1)]] false)) (callF FK0 (exec Tryz.prog FK0 1000) 64 [.agg [I 2, .vl [[.vl [[I 0], [I 10]] true], [.vl [[I 20], [I 0]] true]] true, .nils, (.vl [[I 0, I 0, I 100, (.vl [[I (30)], [I (40)]] true)], [I 1, I 61, I 100, (.vl [[I (20)], [I (20)]] true)], [I 0, I 15, I 130, (.vl [[I (10)], [I (0)]] true)]] false)], (.vl [[I (0)], [I (1)], [I (2)]] true)] []) = true := by kernel_rfl
noncomputable def kL71 : List (List AVal × AVal) := [([.agg [I 2, .vl [[.vl [[I 0], [I 10]] true], [.vl [[I 20], [I 0]] true]] true, .nils, .nils]], .tup [.nils, .agg [I 0, I 0]]), ([.agg [I 2, .vl [[.vl [[I 0], [I 10]] true], [.vl [[I 20], [I 0]] true]] true, .nils, (.vl [[I 0, I 0, I 100, (.vl [[I (30)], [I (40)]] true)]] false)]], .tup [(.vl [[I (0)]] false), .agg [I 0, I 70]]), ([.agg [I 2, .vl [[.vl [[I 0], [I 10]] true], [.vl [[I 20], [I 0]] true]] true, .nils, (.vl [[I 1, I 0, I 90, (.vl [[I (20)], [I (20)]] true)]] false)]], .tup [(.vl [[I (0)]] false), .agg [I 0, I 40]]), ([.agg [I 2, .vl [[.vl [[I 0], [I 10]] true], [.vl [[I 20], [I 0]] true]] true, .nils, (.vl [[I 0, I 0, I 100, (.vl [[I (30)], [I (40)]] true)], [I 1, I 0, I 90, (.vl [[I (20)], [I (20)]] true)]] false)]], .tup [(.vl [[I (0)], [I (1)]] false), .agg [I 10, I 100]]), ([.agg [I 2, .vl [[.vl [[I 0], [I 10]] true], [.vl [[I 20], [I 0]] true]] true, .nils, (.vl [[I 0, I 15, I 130, (.vl [[I (10)], [I (0)]] true)]] false)]], .tup [(.vl [[I (0)]] false), .agg [I 0, I 25]]), ([.agg [I 2, .vl [[.vl [[I 0], [I 10]] true], [.vl [[I 20], [I 0]] true]] true, .nils, (.vl [[I 0, I 0, I 100, (.vl [[I (30)], [I (40)]] true)], [I 0, I 15, I 130, (.vl [[I (10)], [I (0)]] true)]] false)]], .tup [(.vl [[I (0)], [I (1)]] false), .agg [I 0, I 70]]), ([.agg [I 2, .vl [[.vl [[I 0], [I 10]] true], [.vl [[I 20], [I 0]] true]] true, .nils, (.vl [[I 1, I 0, I 90, (.vl [[I (20)], [I (20)]] true)], [I 0, I 15, I 130, (.vl [[I (10)], [I (0)]] true)]] false)]], .tup [(.vl [[I (0)], [I (1)]] false), .agg [I 0, I 50]]), ([.agg [I 2, .vl [[.vl [[I 0], [I 10]] true], [.vl [[I 20], [I 0]] true]] true, .nils, (.vl [[I 0, I 0, I 100, (.vl [[I (30)], [I (40)]] true)], [I 1, I 0, I 90, (.vl [[I (20)], [I (20)]] true)], [I 0, I 15, I 130, (.vl [[I (10)], [I (0)]] true)]] false)]], .tup [(.vl [[I (0)], [I (1)], [I (2)]] false), .agg [I 10, I 100]]), ([.agg [I 2, .vl [[.vl [[I 0], [I 10]] true], [.vl [[I 20], [I 0]] true]] true, .nils, (.vl [[I 0, I 0, I 100, (.vl [[I (30)], [I (40)]] true)], [I 1, I 0, I 90, (.vl [[I (20)], [I (20)]] true)], [I 0, I 15, I 130, (.vl [[I (10)], [I (0)]] true)]] true)]], .tup [(.vl [[I (0)], [I (1)], [I (2)]] false), .agg [I 10, I 100]])]
noncomputable def FKa1 : Nat → Option CFn := upd FK0 71 true (oAt kL71)
theorem FKa1_ok : TabOk Tryz.prog GG FKa1 := tab_upd FK0_ok (oAt_good fun p hp => by
  simp only [kL71, List.mem_cons, List.not_mem_nil, or_false] at hp
  rcases hp with rfl | rfl | rfl | rfl | rfl | rfl | rfl | rfl | rfl
  · exact orc_of mixed FK0_ok (isR_answers k71_0)
  · exact orc_of mixed FK0_ok (isR_answers k71_1)
  · exact orc_of mixed FK0_ok (isR_answers k71_2)
  · exact orc_of mixed FK0_ok (isR_answers k71_3)
  · exact orc_of mixed FK0_ok (isR_answers k71_4)
  · exact orc_of mixed FK0_ok (isR_answers k71_5)
  · exact orc_of mixed FK0_ok (isR_answers k71_6)
  · exact orc_of mixed FK0_ok (isR_answers k71_7)
  · exact orc_of mixed FK0_ok (isR_answers k71_8))
noncomputable def kL64 : List (List AVal × AVal) := [([.agg [I 2, .vl [[.vl [[I 0], [I 10]] true], [.vl [[I 20], [I 0]] true]] true, .nils, (.vl [[I 0, I 0, I 100, (.vl [[I (30)], [I (40)]] true)], [I 1, I 0, I 100, (.vl [[I (20)], [I (20)]] true)], [I 0, I 15, I 130, (.vl [[I (10)], [I (0)]] true)]] true)], (.vl [[I (0)], [I (1)], [I (2)]] true)], .nils), ([.agg [I 2, .vl [[.vl [[I 0], [I 10]] true], [.vl [[I 20], [I 0]] true]] true, (.vl [[I 1, I 60, I 70]] false), (.vl [[I 0, I 0, I 100, (.vl [[I (30)], [I (40)]] true)], [I 1, I 0, I 100, (.vl [[I (20)], [I (20)]] true)], [I 0, I 15, I 130, (.vl [[I (10)], [I (0)]] true)]] true)], (.vl [[I (0)], [I (1)], [I (2)]] true)], (.vl [[I (0)], [I (1)]] false)), ([.agg [I 2, .vl [[.vl [[I 0], [I 10]] true], [.vl [[I 20], [I 0]] true]] true, .nils, (.vl [[I 0, I 5000, I 100, (.vl [[I (30)], [I (40)]] true)], [I 1, I 0, I 100, (.vl [[I (20)], [I (20)]] true)], [I 0, I 15, I 130, (.vl [[I (10)], [I (0)]] true)]] false)], (.vl [[I (0)], [I (1)], [I (2)]] true)], (.vl [[I (0)], [I (1)], [I (2)]] false)), ([.agg [I 2, .vl [[.vl [[I 0], [I 10]] true], [.vl [[I 20], [I 0]] true]] true, .nils, (.vl [[I 0, I 2500, I 100, (.vl [[I (30)], [I (40)]] true)], [I 1, I 0, I 100, (.vl [[I (20)], [I (20)]] true)], [I 0, I 15, I 130, (.vl [[I (10)], [I (0)]] true)]] false)], (.vl [[I (0)], [I (1)], [I (2)]] true)], (.vl [[I (0)], [I (1)], [I (2)]] false)), ([.agg [I 2, .vl [[.vl [[I 0], [I 10]] true], [.vl [[I 20], [I 0]] true]] true, .nils, (.vl [[I 0, I 1250, I 100, (.vl [[I (30)], [I (40)]] true)], [I 1, I 0, I 100, (.vl [[I (20)], [I (20)]] true)], [I 0, I 15, I 130, (.vl [[I (10)], [I (0)]] true)]] false)], (.vl [[I (0)], [I (1)], [I (2)]] true)], (.vl [[I (0)], [I (1)], [I (2)]] false)), ([.agg [I 2, .vl [[.vl [[I 0], [I 10]] true], [.vl [[I 20], [I 0]] true]] true, .nils, (.vl [[I 0, I 625, I 100, (.vl [[I (30)], [I (40)]] true)], [I 1, I 0, I 100, (.vl [[I (20)], [I (20)]] true)], [I 0, I 15, I 130, (.vl [[I (10)], [I (0)]] true)]] false)], (.vl [[I (0)], [I (1)], [I (2)]] true)], (.vl [[I (0)], [I (1)], [I (2)]] false)), ([.agg [I 2, .vl [[.vl [[I 0], [I 10]] true], [.vl [[I 20], [I 0]] true]] true, .nils, (.vl [[I 0, I 312, I 100, (.vl [[I (30)], [I (40)]] true)], [I 1, I 0, I 100, (.vl [[I (20)], [I (20)]] true)], [I 0, I 15, I 130, (.vl [[I (10)], [I (0)]] true)]] false)], (.vl [[I (0)], [I (1)], [I (2)]] true)], (.vl [[I (0)], [I (1)], [I (2)]] false)), ([.agg [I 2, .vl [[.vl [[I 0], [I 10]] true], [.vl [[I 20], [I 0]] true]] true, .nils, (.vl [[I 0, I 156, I 100, (.vl [[I (30)], [I (40)]] true)], [I 1, I 0, I 100, (.vl [[I (20)], [I (20)]] true)], [I 0, I 15, I 130, (.vl [[I (10)], [I (0)]] true)]] false)], (.vl [[I (0)], [I (1)], [I (2)]] true)], (.vl [[I (0)], [I (1)], [I (2)]] false)), ([.agg [I 2, .vl [[.vl [[I 0], [I 10]] true], [.vl [[I 20], [I 0]] true]] true, .nils, (.vl [[I 0, I 78, I 100, (.vl [[I (30)], [I (40)]] true)], [I 1, I 0, I 100, (.vl [[I (20)], [I (20)]] true)], [I 0, I 15, I 130, (.vl [[I (10)], [I (0)]] true)]] false)], (.vl [[I (0)], [I (1)], [I (2)]] true)], (.vl [[I (0)], [I (1)], [I (2)]] false)), ([.agg [I 2, .vl [[.vl [[I 0], [I 10]] true], [.vl [[I 20], [I 0]] true]] true, .nils, (.vl [[I 0, I 39, I 100, (.vl [[I (30)], [I (40)]] true)], [I 1, I 0, I 100, (.vl [[I (20)], [I (20)]] true)], [I 0, I 15, I 130, (.vl [[I (10)], [I (0)]] true)]] false)], (.vl [[I (0)], [I (1)], [I (2)]] true)], (.vl [[I (0)], [I (1)]] false)), ([.agg [I 2, .vl [[.vl [[I 0], [I 10]] true], [.vl [[I 20], [I 0]] true]] true, .nils, (.vl [[I 0, I 19, I 100, (.vl [[I (30)], [I (40)]] true)], [I 1, I 0, I 100, (.vl [[I (20)], [I (20)]] true)], [I 0, I 15, I 130, (.vl [[I (10)], [I (0)]] true)]] false)], (.vl [[I (0)], [I (1)], [I (2)]] true)], (.vl [[I (1)]] false)), ([.agg [I 2, .vl [[.vl [[I 0], [I 10]] true], [.vl [[I 20], [I 0]] true]] true, .nils, (.vl [[I 0, I 9, I 100, (.vl [[I (30)], [I (40)]] true)], [I 1, I 0, I 100, (.vl [[I (20)], [I (20)]] true)], [I 0, I 15, I 130, (.vl [[I (10)], [I (0)]] true)]] false)], (.vl [[I (0)], [I (1)], [I (2)]] true)], (.vl [[I (1)]] false)), ([.agg [I 2, .vl [[.vl [[I 0], [I 10]] true], [.vl [[I 20], [I 0]] true]] true, .nils, (.vl [[I 0, I 4, I 100, (.vl [[I (30)], [I (40)]] true)], [I 1, I 0, I 100, (.vl [[I (20)], [I (20)]] true)], [I 0, I 15, I 130, (.vl [[I (10)], [I (0)]] true)]] false)], (.vl [[I (0)], [I (1)], [I (2)]] true)], (.vl [[I (1)]] false)), ([.agg [I 2, .vl [[.vl [[I 0], [I 10]] true], [.vl [[I 20], [I 0]] true]] true, .nils, (.vl [[I 0, I 2, I 100, (.vl [[I (30)], [I (40)]] true)], [I 1, I 0, I 100, (.vl [[I (20)], [I (20)]] true)], [I 0, I 15, I 130, (.vl [[I (10)], [I (0)]] true)]] false)], (.vl [[I (0)], [I (1)], [I (2)]] true)], (.vl [[I (1)]] false)), ([.agg [I 2, .vl [[.vl [[I 0], [I 10]] true], [.vl [[I 20], [I 0]] true]] true, .nils, (.vl [[I 0, I 1, I 100, (.vl [[I (30)], [I (40)]] true)], [I 1, I 0, I 100, (.vl [[I (20)], [I (20)]] true)], [I 0, I 15, I 130, (.vl [[I (10)], [I (0)]] true)]] false)], (.vl [[I (0)], [I (1)], [I (2)]] true)], (.vl [[I (1)]] false)), ([.agg [I 2, .vl [[.vl [[I 0], [I 10]] true], [.vl [[I 20], [I 0]] true]] true, .nils, (.vl [[I 0, I 0, I 100, (.vl [[I (30)], [I (40)]] true)], [I 1, I 5000, I 100, (.vl [[I (20)], [I (20)]] true)], [I 0, I 15, I 130, (.vl [[I (10)], [I (0)]] true)]] false)], (.vl [[I (0)], [I (1)], [I (2)]] true)], (.vl [[I (1)], [I (2)]] false)), ([.agg [I 2, .vl [[.vl [[I 0], [I 10]] true], [.vl [[I 20], [I 0]] true]] true, .nils, (.vl [[I 0, I 0, I 100, (.vl [[I (30)], [I (40)]] true)], [I 1, I 2500, I 100, (.vl [[I (20)], [I (20)]] true)], [I 0, I 15, I 130, (.vl [[I (10)], [I (0)]] true)]] false)], (.vl [[I (0)], [I (1)], [I (2)]] true)], (.vl [[I (1)], [I (2)]] false)), ([.agg [I 2, .vl [[.vl [[I 0], [I 10]] true], [.vl [[I 20], [I 0]] true]] true, .nils, (.vl [[I 0, I 0, I 100, (.vl [[I (30)], [I (40)]] true)], [I 1, I 1250, I 100, (.vl [[I (20)], [I (20)]] true)], [I 0, I 15, I 130, (.vl [[I (10)], [I (0)]] true)]] false)], (.vl [[I (0)], [I (1)], [I (2)]] true)], (.vl [[I (1)], [I (2)]] false)), ([.agg [I 2, .vl [[.vl [[I 0], [I 10]] true], [.vl [[I 20], [I 0]] true]] true, .nils, (.vl [[I 0, I 0, I 100, (.vl [[I (30)], [I (40)]] true)], [I 1, I 625, I 100, (.vl [[I (20)], [I (20)]] true)], [I 0, I 15, I 130, (.vl [[I (10)], [I (0)]] true)]] false)], (.vl [[I (0)], [I (1)], [I (2)]] true)], (.vl [[I (1)], [I (2)]] false)), ([.agg [I 2, .vl [[.vl [[I 0], [I 10]] true], [.vl [[I 20], [I 0]] true]] true, .nils, (.vl [[I 0, I 0, I 100, (.vl [[I (30)], [I (40)]] true)], [I 1, I 312, I 100, (.vl [[I (20)], [I (20)]] true)], [I 0, I 15, I 130, (.vl [[I (10)], [I (0)]] true)]] false)], (.vl [[I (0)], [I (1)], [I (2)]] true)], (.vl [[I (1)], [I (2)]] false)), ([.agg [I 2, .vl [[.vl [[I 0], [I 10]] true], [.vl [[I 20], [I 0]] true]] true, .nils, (.vl [[I 0, I 0, I 100, (.vl [[I (30)], [I (40)]] true)], [I 1, I 156, I 100, (.vl [[I (20)], [I (20)]] true)], [I 0, I 15, I 130, (.vl [[I (10)], [I (0)]] true)]] false)], (.vl [[I (0)], [I (1)], [I (2)]] true)], (.vl [[I (1)], [I (2)]] false)), ([.agg [I 2, .vl [[.vl [[I 0], [I 10]] true], [.vl [[I 20], [I 0]] true]] true, .nils, (.vl [[I 0, I 0, I 100, (.vl [[I (30)], [I (40)]] true)], [I 1, I 78, I 100, (.vl [[I (20)], [I (20)]] true)], [I 0, I 15, I 130, (.vl [[I (10)], [I (0)]] true)]] false)], (.vl [[I (0)], [I (1)], [I (2)]] true)], (.vl [[I (1)]] false)), ([.agg [I 2, .vl [[.vl [[I 0], [I 10]] true], [.vl [[I 20], [I 0]] true]] true, .nils, (.vl [[I 0, I 0, I 100, (.vl [[I (30)], [I (40)]] true)], [I 1, I 39, I 100, (.vl [[I (20)], [I (20)]] true)], [I 0, I 15, I 130, (.vl [[I (10)], [I (0)]] true)]] false)], (.vl [[I (0)], [I (1)], [I (2)]] true)], .nils), ([.agg [I 2, .vl [[.vl [[I 0], [I 10]] true], [.vl [[I 20], [I 0]] true]] true, .nils, (.vl [[I 0, I 0, I 100, (.vl [[I (30)], [I (40)]] true)], [I 1, I 58, I 100, (.vl [[I (20)], [I (20)]] true)], [I 0, I 15, I 130, (.vl [[I (10)], [I (0)]] true)]] false)], (.vl [[I (0)], [I (1)], [I (2)]] true)], .nils), ([.agg [I 2, .vl [[.vl [[I 0], [I 10]] true], [.vl [[I 20], [I 0]] true]] true, .nils, (.vl [[I 0, I 0, I 100, (.vl [[I (30)], [I (40)]] true)], [I 1, I 68, I 100, (.vl [[I (20)], [I (20)]] true)], [I 0, I 15, I 130, (.vl [[I (10)], [I (0)]] true)]] false)], (.vl [[I (0)], [I (1)], [I (2)]] true)], (.vl [[I (1)]] false)), ([.agg [I 2, .vl [[.vl [[I 0], [I 10]] true], [.vl [[I 20], [I 0]] true]] true, .nils, (.vl [[I 0, I 0, I 100, (.vl [[I (30)], [I (40)]] true)], [I 1, I 63, I 100, (.vl [[I (20)], [I (20)]] true)], [I 0, I 15, I 130, (.vl [[I (10)], [I (0)]] true)]] false)], (.vl [[I (0)], [I (1)], [I (2)]] true)], (.vl [[I (1)]] false)), ([.agg [I 2, .vl [[.vl [[I 0], [I 10]] true], [.vl [[I 20], [I 0]] true]] true, .nils, (.vl [[I 0, I 0, I 100, (.vl [[I (30)], [I (40)]] true)], [I 1, I 60, I 100, (.vl [[I (20)], [I (20)]] true)], [I 0, I 15, I 130, (.vl [[I (10)], [I (0)]] true)]] false)], (.vl [[I (0)], [I (1)], [I (2)]] true)], .nils), ([.agg [I 2, .vl [[.vl [[I 0], [I 10]] true], [.vl [[I 20], [I 0]] true]] true, .nils, (.vl [[I 0, I 0, I 100, (.vl [[I (30)], [I (40)]] true)], [I 1, I 61, I 100, (.vl [[I (20)], [I (20)]] true)], [I 0, I 15, I 130, (.vl [[I (10)], [I (0)]] true)]] false)], (.vl [[I (0)], [I (1)], [I (2)]] true)], (.vl [[I (1)]] false))]
noncomputable def FKa2 : Nat → Option CFn := upd FKa1 64 true (oAt kL64)
theorem FKa2_ok : TabOk Tryz.prog GG FKa2 := tab_upd FKa1_ok (oAt_good fun p hp => by
  simp only [kL64, List.mem_cons, List.not_mem_nil, or_false] at hp
  rcases hp with rfl | rfl | rfl | rfl | rfl | rfl | rfl | rfl | rfl | rfl | rfl | rfl | rfl | rfl | rfl | rfl | rfl | rfl | rfl | rfl | rfl | rfl | rfl | rfl | rfl | rfl | rfl | rfl
  · exact orc_of mixed FK0_ok (isR_answers k64_0)
  · exact orc_of mixed FK0_ok (isR_answers k64_1)
  · exact orc_of mixed FK0_ok (isR_answers k64_0_5000)
  · exact orc_of mixed FK0_ok (isR_answers k64_0_2500)
  · exact orc_of mixed FK0_ok (isR_answers k64_0_1250)
  · exact orc_of mixed FK0_ok (isR_answers k64_0_625)
  · exact orc_of mixed FK0_ok (isR_answers k64_0_312)
  · exact orc_of mixed FK0_ok (isR_answers k64_0_156)
  · exact orc_of mixed FK0_ok (isR_answers k64_0_78)
  · exact orc_of mixed FK0_ok (isR_answers k64_0_39)
  · exact orc_of mixed FK0_ok (isR_answers k64_0_19)
  · exact orc_of mixed FK0_ok (isR_answers k64_0_9)
  · exact orc_of mixed FK0_ok (isR_answers k64_0_4)
  · exact orc_of mixed FK0_ok (isR_answers k64_0_2)
  · exact orc_of mixed FK0_ok (isR_answers k64_0_1)
  · exact orc_of mixed FK0_ok (isR_answers k64_1_5000)
  · exact orc_of mixed FK0_ok (isR_answers k64_1_2500)
  · exact orc_of mixed FK0_ok (isR_answers k64_1_1250)
  · exact orc_of mixed FK0_ok (isR_answers k64_1_625)
  · exact orc_of mixed FK0_ok (isR_answers k64_1_312)
  · exact orc_of mixed FK0_ok (isR_answers k64_1_156)
  · exact orc_of mixed FK0_ok (isR_answers k64_1_78)
  · exact orc_of mixed FK0_ok (isR_answers k64_1_39)
  · exact orc_of mixed FK0_ok (isR_answers k64_1_58)
  · exact orc_of mixed FK0_ok (isR_answers k64_1_68)
  · exact orc_of mixed FK0_ok (isR_answers k64_1_63)
  · exact orc_of mixed FK0_ok (isR_answers k64_1_60)
  · exact orc_of mixed FK0_ok (isR_answers k64_1_61))
theorem k43 : isR (.tup [.vl [[(.vl [[I (40)], [I (70)]] false)], [(.vl [[I (0)], [I (20)]] false)], [(.vl [[I (70)], [I (80)]] false)]] true, I 0]) (callF FA3 (exec Tryz.prog FA3 1000) 43 [kS, kJ90, (.vl [[I (1)], [I (0)], [I (2)]] true)] []) = true := by kernel_rfl
theorem k19 : isR (.tup [I 1, I 10, I 110, I 0]) (callF FA3 (exec Tryz.prog FA3 1000) 19 [kS, kJ90, (.vl [[I (1)], [I (0)], [I (2)]] true)] []) = true := by kernel_rfl
theorem k29 : isR (.tup [(.vl [[I (0)], [I (1)], [I (2)]] false), I 0]) (callF FK0 (exec Tryz.prog FK0 1000) 29 [kS, kJ90] []) = true := by kernel_rfl
theorem k33 : isR (.tup [(.vl [[I (0)], [I (1)]] false), I 0]) (callF FKa2 (exec Tryz.prog FKa2 1000) 33 [kS, kJ90] []) = true := by kernel_rfl
theorem k30 : isR (.tup [I 80, I 0]) (callF FA3 (exec Tryz.prog FA3 1000) 30 [kS, kJ90] []) = true := by kernel_rfl
theorem k20 : isR (.tup [(.vl [[I (2)], [I (1)]] false), I 0]) (callF FA3 (exec Tryz.prog FA3 1000) 20 [kS, kJ90, (.vl [[I (0)], [I (1)], [I (2)]] true)] []) = true := by kernel_rfl
theorem k38a : isR (.tup [I 0, I 0]) (callF FKa2 (exec Tryz.prog FKa2 1000) 38 [kS, kJ100, (.vl [[I (0)], [I (1)], [I (2)]] true), I 0] []) = true := by kernel_rfl
theorem k38b : isR (.tup [I 60, I 0]) (callF FKa2 (exec Tryz.prog FKa2 1000) 38 [kS, kJ100, (.vl [[I (0)], [I (1)], [I (2)]] true), I 1] []) = true := by kernel_rfl
theorem k35 : isR (.tup [(.vl [[I (0)], [I (1)]] false), I 0]) (callF FA3 (exec Tryz.prog FA3 1000) 35 [kS, kJ100, (.vl [[I (0)], [I (1)], [I (2)]] true), .agg [I 1, I 60, I 70]] []) = true := by kernel_rfl
noncomputable def kL43 : List (List AVal × AVal) := [([kS, kJ90, (.vl [[I (1)], [I (0)], [I (2)]] true)], .tup [.vl [[(.vl [[I (40)], [I (70)]] false)], [(.vl [[I (0)], [I (20)]] false)], [(.vl [[I (70)], [I (80)]] false)]] true, I 0])]
noncomputable def FKb1 : Nat → Option CFn := upd FA3 43 true (oAt kL43)
theorem FKb1_ok : TabOk Tryz.prog GG FKb1 := tab_upd FA3_ok (oAt_good fun p hp => by
  simp only [kL43, List.mem_cons, List.not_mem_nil, or_false] at hp
  subst hp
  exact orc_of mixed FA3_ok (isR_answers k43))
noncomputable def kL19 : List (List AVal × AVal) := [([kS, kJ90, (.vl [[I (1)], [I (0)], [I (2)]] true)], .tup [I 1, I 10, I 110, I 0])]
noncomputable def FKb2 : Nat → Option CFn := upd FKb1 19 true (oAt kL19)
theorem FKb2_ok : TabOk Tryz.prog GG FKb2 := tab_upd FKb1_ok (oAt_good fun p hp => by
  simp only [kL19, List.mem_cons, List.not_mem_nil, or_false] at hp
  subst hp
  exact orc_of mixed FA3_ok (isR_answers k19))
noncomputable def kL29 : List (List AVal × AVal) := [([kS, kJ90], .tup [(.vl [[I (0)], [I (1)], [I (2)]] false), I 0])]
noncomputable def FKb3 : Nat → Option CFn := upd FKb2 29 true (oAt kL29)
theorem FKb3_ok : TabOk Tryz.prog GG FKb3 := tab_upd FKb2_ok (oAt_good fun p hp => by
  simp only [kL29, List.mem_cons, List.not_mem_nil, or_false] at hp
  subst hp
  exact orc_of mixed FK0_ok (isR_answers k29))
noncomputable def kL33 : List (List AVal × AVal) := [([kS, kJ90], .tup [(.vl [[I (0)], [I (1)]] false), I 0])]
noncomputable def FKb4 : Nat → Option CFn := upd FKb3 33 true (oAt kL33)
theorem FKb4_ok : TabOk Tryz.prog GG FKb4 := tab_upd FKb3_ok (oAt_good fun p hp => by
  simp only [kL33, List.mem_cons, List.not_mem_nil, or_false] at hp
  subst hp
  exact orc_of mixed FKa2_ok (isR_answers k33))
noncomputable def kL30 : List (List AVal × AVal) := [([kS, kJ90], .tup [I 80, I 0])]
noncomputable def FKb5 : Nat → Option CFn := upd FKb4 30 true (oAt kL30)
theorem FKb5_ok : TabOk Tryz.prog GG FKb5 := tab_upd FKb4_ok (oAt_good fun p hp => by
  simp only [kL30, List.mem_cons, List.not_mem_nil, or_false] at hp
  subst hp
  exact orc_of mixed FA3_ok (isR_answers k30))
noncomputable def kL20 : List (List AVal × AVal) := [([kS, kJ90, (.vl [[I (0)], [I (1)], [I (2)]] true)], .tup [(.vl [[I (2)], [I (1)]] false), I 0])]
noncomputable def FKb6 : Nat → Option CFn := upd FKb5 20 true (oAt kL20)
theorem FKb6_ok : TabOk Tryz.prog GG FKb6 := tab_upd FKb5_ok (oAt_good fun p hp => by
  simp only [kL20, List.mem_cons, List.not_mem_nil, or_false] at hp
  subst hp
  exact orc_of mixed FA3_ok (isR_answers k20))
noncomputable def kL38 : List (List AVal × AVal) := [([kS, kJ100, (.vl [[I (0)], [I (1)], [I (2)]] true), I 0], .tup [I 0, I 0]), ([kS, kJ100, (.vl [[I (0)], [I (1)], [I (2)]] true), I 1], .tup [I 60, I 0])]
noncomputable def FKb7 : Nat → Option CFn := upd FKb6 38 true (oAt kL38)
theorem FKb7_ok : TabOk Tryz.prog GG FKb7 := tab_upd FKb6_ok (oAt_good fun p hp => by
  simp only [kL38, List.mem_cons, List.not_mem_nil, or_false] at hp
  rcases hp with rfl | rfl
  · exact orc_of mixed FKa2_ok (isR_answers k38a)
  · exact orc_of mixed FKa2_ok (isR_answers k38b))
noncomputable def kL35 : List (List AVal × AVal) := [([kS, kJ100, (.vl [[I (0)], [I (1)], [I (2)]] true), .agg [I 1, I 60, I 70]], .tup [(.vl [[I (0)], [I (1)]] false), I 0])]
noncomputable def FKb8 : Nat → Option CFn := upd FKb7 35 true (oAt kL35)
theorem FKb8_ok : TabOk Tryz.prog GG FKb8 := tab_upd FKb7_ok (oAt_good fun p hp => by
  simp only [kL35, List.mem_cons, List.not_mem_nil, or_false] at hp
  subst hp
  exact orc_of mixed FA3_ok (isR_answers k35))
theorem kn : isR (.bool true) (callF FKb8 (exec Tryz.prog FKb8 300) 15 [] []) = true := by kernel_rfl
def oKn : List AVal → Option AVal
  | [] => some (.bool true)
  | _ => none
theorem kn_good : ∀ args v, oKn args = some v → OrcGood Tryz.prog GG true 15 args v := fun args v ho => by
  unfold oKn at ho; split at ho <;> simp at ho
  subst ho
  exact orc_of mixed FKb8_ok (isR_answers kn)
end Go.Proofs.YtjjapdagllclkaaGreat.Tab

namespace Go.Proofs.YtjjapdagllclkaaGreat.Tab
open Go Go.Abs Go.Proofs
set_option maxRecDepth 100000
set_option maxHeartbeats 4000000
set_option linter.unusedSimpArgs false
set_option linter.unusedVariables false
section
attribute [local simp] frz_int frz_bool frz_vl frz_pv frz_agg frz_tup frz_fn frz_ref frz_sl frz_nils optAll orcF rb_int rb_bool rb_agg rb_tup rb_int' rb_bool' rb_vl rb_pv rb_yld rb_nilf rb_nilp rb_nils rb_any rb_und rb_ref rb_sl rb_fn slE chunk fillA evParts evParts3 putAt List.range_succ List.range_zero List.range'_succ List.range'_zero runX_nil' unary_not evalS_pure evAll_nil evAll_cons runX_cons stepX wantedA dop CV.ev putK_eq setK_eq appK_eq fA_eq fI_eq fN_eq fRow_eq fRows_eq nth_eq Out.v putT List.replicate_succ zT zB arI pointee Abs.rowAt ldRow allV toV toC ofV ofC Builtin.min_ Builtin.min2 Builtin.max_ Builtin.max2 min_if max_if resA tupA kill trim_self trim_len trim_emp trim_nil lenA
attribute [local simp] runD_nil' runD_cons' stepD actK_eq actD clash disj masks holes maskH unmaskH diffs news eqB allB eqA ldRowN wrote toCs ofCs stA rowsV_vl rowsV_nils rowsOf dI1 dI2 dI3 dI5 elt
attribute [local simp] st_any st_und st_agg st_tup st_bool st_int st_nilp st_ref st_pv st_nils st_sl st_vl st_nilm st_mp st_fn st_nilf st_yld co_any co_und co_agg co_tup co_bool co_int co_nilp co_ref co_pv co_nils co_sl co_vl co_nilm co_mp co_fn co_nilf co_yld
attribute [local simp] callA calleeA lim lop loud rbB_none rbB_row
open Classical in
noncomputable def oMade : List AVal → Option AVal
  | [.agg r] => match dWk r with
    | some (W, _, _) => if WkOk W then some (.tup [.agg [I (wM W), encC (wC W (wK W).toNat), encN (wT W (min W.xs.length 6))], encJ (wJ W (min W.ys.length 5))]) else none
    | none => none
  | _ => none
open Classical in
noncomputable def oOrder : List AVal → Option AVal
  | [.agg r, .int .i64 n] => match dWk r with
    | some (W, _, _) => if WkOk W ∧ 0 ≤ n ∧ n ≤ 6 then some (encE (ordW W.o n.toNat)) else none
    | none => none
  | _ => none
open Classical in
noncomputable def oTimed : List AVal → Option AVal
  | [.agg [.int .i64 m, c, t], j, sv] => match dInts2 c, dStops t, dJobs j, dInts2 sv with
    | some cs, some ts, some js, some S => if ShopOk ⟨m, cs, ts⟩ js ∧ StOk ⟨m, cs, ts⟩ js S then some (.tup [encE (endsL S js m.toNat js.length), .bool true]) else none
    | _, _, _, _ => none
  | _ => none
open Classical in
noncomputable def oAllow : List AVal → Option AVal
  | [.agg [.int .i64 m, c, t], j, sv, o, .int .i64 a, .int .i64 k, .int .i64 u] => match dInts2 c, dStops t, dJobs j, dInts2 sv, dInts o with
    | some cs, some ts, some js, some S, some os => if ShopOk ⟨m, cs, ts⟩ js ∧ StOk ⟨m, cs, ts⟩ js S ∧ ordB os js.length = true ∧ (0 ≤ a ∧ a < os.length) ∧ (0 ≤ k ∧ k < m) ∧ (-1000000 ≤ u ∧ u ≤ 1000000) then some (.bool (allowB ⟨m, cs, ts⟩ js S os a.toNat k.toNat u)) else none
    | _, _, _, _, _ => none
  | _ => none
theorem made_eq {W_ : FWorks} {x y : AVal} (hx : rowsV x = some (W_.xs.map rU)) (hy : rowsV y = some (W_.ys.map rU)) (hw : WkOk W_) : oMade [.agg (wkC W_ x y)] = some (.tup [.agg [I (wM W_), encC (wC W_ (wK W_).toNat), encN (wT W_ (min W_.xs.length 6))], encJ (wJ W_ (min W_.ys.length 5))]) := by
  simp only [oMade, dWk_self hw.g.1 hx hy]; rw [if_pos hw]
theorem order_eq {W_ : FWorks} {x y : AVal} (hx : rowsV x = some (W_.xs.map rU)) (hy : rowsV y = some (W_.ys.map rU)) (hw : WkOk W_) {n : Nat} (hn : n ≤ 6) : oOrder [.agg (wkC W_ x y), I (n : Int)] = some (encE (ordW W_.o n)) := by
  simp only [oOrder, dWk_self hw.g.1 hx hy]; rw [if_pos ⟨hw, by omega, by omega⟩]; rfl
theorem timed_eq {s : FShop} {js : List FJob} {c t j sv : AVal} {S : List (List Int)} (hc : dInts2 c = some s.chg) (ht : dStops t = some s.stops) (hj : dJobs j = some js) (hs : dInts2 sv = some S) (h1 : ShopOk s js) (h2 : StOk s js S) : oTimed [.agg [I s.mach, c, t], j, sv] = some (.tup [encE (endsL S js s.mach.toNat js.length), .bool true]) := by
  simp only [oTimed, hc, ht, hj, hs]; rw [if_pos ⟨h1, h2⟩]
theorem allow_eq {s : FShop} {js : List FJob} {c t j sv o : AVal} {S : List (List Int)} {os : List Int} (hc : dInts2 c = some s.chg) (ht : dStops t = some s.stops) (hj : dJobs j = some js) (hs : dInts2 sv = some S) (ho : dInts o = some os) (h1 : ShopOk s js) (h2 : StOk s js S) (h3 : ordB os js.length = true) {a k u i g : Int} {an kn : Nat} (e1 : i = an) (e2 : g = kn) (ha : an < os.length) (hk : (kn : Int) < s.mach) (hu : -1000000 ≤ u ∧ u ≤ 1000000) : oAllow [.agg [I s.mach, c, t], j, sv, o, I i, I g, I u] = some (.bool (allowB s js S os an kn u)) := by
  subst e1 e2
  simp only [oAllow, hc, ht, hj, hs, ho]; rw [if_pos ⟨h1, h2, h3, by omega, by omega, hu⟩]; rfl
theorem made_good : ∀ args v, oMade args = some v → OrcGood Tryz.prog GG false 41 args v := fun args v ho => by
  unfold oMade at ho; split at ho <;> (try simp only [reduceCtorEq] at ho)
  rename_i r
  split at ho <;> (try simp only [reduceCtorEq] at ho)
  rename_i W_ x y hr
  split at ho <;> (try simp only [reduceCtorEq] at ho)
  rename_i hw
  simp only [Option.some.injEq] at ho
  subst ho
  obtain ⟨rfl, hx, hy⟩ := dWk_eq hr
  exact orc_of mixed (tab_updG T_ok) (a41 Tryz.prog (updG T 41 [(118, [.cell 4 1]), (502, [.slot 7]), (566, [.cell 4 2]), (12342, [.slot 12]), (127030, [.cell 15 3])] []) rfl W_ x y hx hy hw)
theorem order_good : ∀ args v, oOrder args = some v → OrcGood Tryz.prog GG true 42 args v := fun args v ho => by
  unfold oOrder at ho; split at ho <;> (try simp only [reduceCtorEq] at ho)
  rename_i r n
  split at ho <;> (try simp only [reduceCtorEq] at ho)
  rename_i W_ x y hr
  split at ho <;> (try simp only [reduceCtorEq] at ho)
  rename_i hw
  simp only [Option.some.injEq] at ho
  subst ho
  obtain ⟨rfl, hx, hy⟩ := dWk_eq hr
  obtain ⟨hw, hn0, hn6⟩ := hw
  obtain ⟨m, rfl⟩ : ∃ m : Nat, n = m := ⟨n.toNat, by omega⟩
  exact orc_of mixed (tab_updG T_ok) (a42 Tryz.prog (updG T 42 [(230, [.slot 5]), (358, [.slot 5, .slot 6])] []) rfl rfl W_ x y hx hy hw m (by omega))
noncomputable def FT1 : Nat → Option CFn := upd FP2 41 false oMade
theorem FT1_ok : TabOk Tryz.prog GG FT1 := tab_upd FP2_ok made_good
noncomputable def FT2 : Nat → Option CFn := upd FT1 42 true oOrder
theorem FT2_ok : TabOk Tryz.prog GG FT2 := tab_upd FT1_ok order_good
noncomputable def FT3 : Nat → Option CFn := upd FT2 15 true oKn
theorem FT3_ok : TabOk Tryz.prog GG FT3 := tab_upd FT2_ok kn_good
noncomputable def FT_44 : Nat → Option CFn := upd FT3 44 true (oTimed)
theorem FT_44_ok : TabOk Tryz.prog GG FT_44 := tab_add mixed FT3_ok fun args v ho => by
  unfold oTimed at ho; split at ho <;> (try simp only [reduceCtorEq] at ho)
  rename_i m c t j sv
  split at ho <;> (try simp only [reduceCtorEq] at ho)
  rename_i cs ts js S hc ht hj hs
  split at ho <;> (try simp only [reduceCtorEq] at ho)
  rename_i hg
  simp only [Option.some.injEq] at ho
  subst ho
  exact a44 Tryz.prog FT3 rfl ⟨m, cs, ts⟩ js c t j hc ht hj S sv hs hg.1 hg.2
noncomputable def FT : Nat → Option CFn := upd FT_44 45 true (oAllow)
theorem FT_ok : TabOk Tryz.prog GG FT := tab_add mixed FT_44_ok fun args v ho => by
  unfold oAllow at ho; split at ho <;> (try simp only [reduceCtorEq] at ho)
  rename_i m c t j sv o a k u
  split at ho <;> (try simp only [reduceCtorEq] at ho)
  rename_i cs ts js S os hc ht hj hs ho2
  split at ho <;> (try simp only [reduceCtorEq] at ho)
  rename_i hg
  simp only [Option.some.injEq] at ho
  subst ho
  obtain ⟨g1, g2, g3, g4, g5, g6⟩ := hg
  obtain ⟨an, rfl⟩ : ∃ m : Nat, a = m := ⟨a.toNat, by omega⟩
  obtain ⟨kn, rfl⟩ : ∃ m : Nat, k = m := ⟨k.toNat, by omega⟩
  exact a45 Tryz.prog FT_44 rfl ⟨m, cs, ts⟩ js c t j hc ht hj S sv hs o os ho2 g1 g2 g3 an kn u (by omega) g5.2 g6
/-- Works in bytes, as an argument. -/
theorem wk_cells {W_ : FWorks} {x y : AVal} (hx : rowsV x = some (W_.xs.map rU)) (hy : rowsV y = some (W_.ys.map rU)) (hw : WkOk W_) : (wkC W_ x y).length = 26 ∧ (wkC W_ x y).all storable = true ∧ (∀ n d, (wkC W_ x y).all (rb n (d + 1)) = true) ∧ (∀ H d, optAll (frz false H (d + 1)) (wkC W_ x y) = some (wkC W_ x y)) := by
  obtain ⟨cx1, cx2⟩ := rowsV_cells hx
  obtain ⟨cy1, cy2⟩ := rowsV_cells hy
  have rx := fun n d => rowsV_rb hx n d
  have ry := fun n d => rowsV_rb hy n d
  refine ⟨by simp [wkC, rU_len, hw.g.1, hw.o.1], ?_, fun n d => ?_, fun H d => optAll_self _ fun z hz => ?_⟩
  · have h1 := rU_stor W_.g
    have h2 := rU_stor W_.o
    simp only [wkC, List.all_cons, List.all_append, h1, h2, cx2, cy2, List.all_nil, Bool.and_true]; rfl
  · have h1 := rU_rb n d W_.g
    have h2 := rU_rb n d W_.o
    simp only [wkC, List.all_cons, List.all_append, h1, h2, rx, ry, rb_int', List.all_nil, Bool.and_true]
  · simp only [wkC, List.mem_cons, List.mem_append, List.not_mem_nil, or_false] at hz
    rcases hz with rfl | rfl | (h | rfl | rfl) | h
    · exact frz_int ..
    · exact frz_int ..
    · obtain ⟨a, _, rfl⟩ := List.mem_map.1 h; exact frz_int ..
    · exact rowsV_frz hx H d
    · exact rowsV_frz hy H d
    · obtain ⟨a, _, rfl⟩ := List.mem_map.1 h; exact frz_int ..
theorem a8 (P : Program) (T : Nat → Option CFn) (hT : T 8 = some c8) (h41 : T 41 = some { c41 with frsh := false, orc := oMade }) (h42 : T 42 = some { c42 with frsh := true, orc := oOrder }) (h16 : T 16 = some { c16 with frsh := false, orc := oCopy }) (h17 : T 17 = some { c17 with frsh := false, orc := oJobs }) (h18 : T 18 = some { c18 with frsh := true, orc := oInts }) (h43 : T 43 = some { c43 with frsh := false, orc := oStarts }) (h19 : T 19 = some { c19 with frsh := true, orc := oLateT }) (h30 : T 30 = some { c30 with frsh := true, orc := oBound }) (h44 : T 44 = some { c44 with body := annK [(782, [.slot 8])] [] c44.body, frsh := true, orc := oTimed }) (h45 : T 45 = some { c45 with frsh := true, orc := oAllow }) (h15 : T 15 = some { c15 with frsh := true, orc := oKn }) (W_ : FWorks) (x y : AVal) (hx : rowsV x = some (W_.xs.map rU)) (hy : rowsV y = some (W_.ys.map rU)) (hw : WkOk W_) (by_ : Int) (hby : isU by_) : Answers P T 8 [.agg (wkC W_ x y), .int .u8 by_] [] fun v h => v = .bool true := by
 obtain ⟨hby0, hby1⟩ := hby
 have hctx := made_ctx hw
 have hmade := made_eq hx hy hw
 have hord := order_eq hx hy hw (n := (wJobs W_).length) (by have := made_len (w := W_); omega)
 have hj5 := made_len (w := W_)
 obtain ⟨clen, cst, crb, cfz⟩ := wk_cells hx hy hw
 have ccl : cellsOf (.agg (wkC W_ x y)) = some (wkC W_ x y) := rfl
 have hct : (wkC W_ x y).take 26 = wkC W_ x y := List.take_of_length_le (by omega)
 generalize hcells : wkC W_ x y = cells at *
 clear hx hy
 have hc := dInts2_encC (wC W_ (wK W_).toNat)
 have ht := dStops_encN (wT W_ (min W_.xs.length 6))
 have hj : dJobs (encJ (wJ W_ (min W_.ys.length 5))) = some (wJobs W_) := dJobs_encJ _
 have ho := dInts_encE (ordW W_.o (wJobs W_).length)
 change dInts2 _ = some (wShop W_).chg at hc
 change dStops _ = some (wShop W_).stops at ht
 change RunCtx (wShop W_) (wJobs W_) (ordW W_.o (wJobs W_).length) at hctx
 change oMade _ = some (.tup [.agg [I (wShop W_).mach, _, _], _]) at hmade
 generalize ordW W_.o (wJobs W_).length = os at *
 generalize wShop W_ = s at *
 generalize wJobs W_ = js at *
 generalize encC (wC W_ (wK W_).toNat) = c at *
 generalize encN (wT W_ (min W_.xs.length 6)) = t at *
 generalize encJ (wJ W_ (min W_.ys.length 5)) = j at *
 generalize encE os = o at *
 clear hcells
 have hsh := hctx.ok
 have hz := ok_size hsh
 have hos := ord_len hctx.ord
 have h1k : s.chg.length ≤ 1000 ∧ (∀ l ∈ s.chg, l.length ≤ 1000) ∧ s.stops.length ≤ 1000 := ⟨by have := hsh.kinds; omega, fun l hl => by have := (hsh.chg l hl).1; have := hsh.kinds; omega, by have := hsh.nst; omega⟩
 have hcopy := copy_eq (m := s.mach) hc ht h1k
 have hwork := jobs_eq hj (by have := hsh.njob; exact ⟨by omega, fun l hl => by have := (hsh.job l hl).2.2.2.1; have := hsh.mach; omega⟩)
 have hints := ints_eq ho (by have := hsh.njob; omega)
 have hc2 := dInts2_encC s.chg
 have ht2 := dStops_encT s.stops
 have hj2 := dJobs_encJ js
 have ho2 := dInts_encE os
 generalize encC s.chg = c2 at *
 generalize encT s.stops = t2 at *
 generalize encJ js = j2 at *
 generalize encE os = o2 at *
 have fc := fun H d => dInts2_frz hc H d
 have rc := fun n d => dInts2_rb hc n d
 have lc := dInts2_len hc
 obtain ⟨cc1, cc2⟩ := dInts2_cells hc
 have ft := fun H d => dStops_frz ht H d
 have rt := fun n d => dStops_rb ht n d
 have lt := dStops_len ht
 obtain ⟨ct1, ct2⟩ := dStops_cells ht
 have fj := fun H d => dJobs_frz hj H d
 have rj := fun n d => dJobs_rb hj n d
 have lj := dJobs_len hj
 obtain ⟨cj1, cj2⟩ := dJobs_cells hj
 have fo := fun H d => dInts_frz ho H d
 have ro := fun n d => dInts_rb ho n d
 have lo := dInts_len ho
 obtain ⟨co1, co2⟩ := dInts_cells ho
 have fcc := fun H d => dInts2_frz hc2 H d
 have rcc := fun n d => dInts2_rb hc2 n d
 have lcc := dInts2_len hc2
 obtain ⟨ccc1, ccc2⟩ := dInts2_cells hc2
 have ftt := fun H d => dStops_frz ht2 H d
 have rtt := fun n d => dStops_rb ht2 n d
 have ltt := dStops_len ht2
 obtain ⟨ctt1, ctt2⟩ := dStops_cells ht2
 have fjj := fun H d => dJobs_frz hj2 H d
 have rjj := fun n d => dJobs_rb hj2 n d
 have ljj := dJobs_len hj2
 obtain ⟨cjj1, cjj2⟩ := dJobs_cells hj2
 have foo := fun H d => dInts_frz ho2 H d
 have roo := fun n d => dInts_rb ho2 n d
 have loo := dInts_len ho2
 obtain ⟨coo1, coo2⟩ := dInts_cells ho2
 have hstq := starts_eq hc2 ht2 hj2 ho2 hz (by have := hctx.len6; omega)
 have hlat := lateT_eq hc2 ht2 hj2 ho2 hz (by have := hctx.len6; omega)
 have hbnd := bound_eq hc2 ht2 hj2 hz
 rw [ctx_ordE hctx, show startsV s js os = .vl ((stsF s js os).map encS) true by unfold startsV; rw [if_pos (ctx_ordE hctx)]; rfl] at hstq
 rw [ctx_ordE hctx, show lateT s js os = (((lateL (endF s js os) js js.length).length : Int), (latF (endF s js os) js js.length).1, (latF (endF s js os) js js.length).2) by unfold lateT; rw [if_pos (ctx_ordE hctx)]; rfl] at hlat
 rw [if_pos (shopE_of hsh), shopE_of hsh] at hbnd
 have hb := bound_ok hctx
 have hends := ends_eq hctx
 have hS := sts_ok hctx
 have hs := dInts2_vl (stsF s js os) true
 have hE := fun e he => (runF_ok hctx.ok hctx.len6 hctx.mem).en e he
 have hallow := fun (a k : Nat) (ha : a < os.length) (hk : (k : Int) < s.mach) (u : Int) hu => allow_iff (u := u) hctx ha hk hu
 change ∀ e ∈ endF s js os, 0 ≤ e ∧ e ≤ 160000 at hE
 have hEl := endF_len hctx
 have hst160 : ∀ l ∈ stsF s js os, ∀ x ∈ l, 0 ≤ x ∧ x ≤ 160000 := (runF_ok hctx.ok hctx.len6 hctx.mem).st
 have hee := dInts_encE (endF s js os)
 generalize hbs : stsF s js os = S at *
 generalize hes : endF s js os = E at *
 unfold lastE at hb
 rw [hes] at hb
 generalize boundF s js = bnd at *
 have htim := timed_eq hc ht hj hs hsh hS
 rw [hends] at htim
 generalize encE E = ev at *
 generalize (AVal.vl (S.map encS) true) = sv at *
 have hor := fun (i g u : Int) (an kn : Nat) (e1 : i = an) (e2 : g = kn) (ha : an < os.length) (hk : (kn : Int) < s.mach) (hu : -1000000 ≤ u ∧ u ≤ 1000000) => allow_eq (a := 0) (k := 0) hc ht hj hs ho hsh hS hctx.ord e1 e2 ha hk hu
 obtain ⟨hb0, hb1⟩ := hb
 have fs := fun H d => dInts2_frz hs H d
 have rs := fun n d => dInts2_rb hs n d
 have ls := dInts2_len hs
 obtain ⟨cs1, cs2⟩ := dInts2_cells hs
 have fe := fun H d => dInts_frz hee H d
 have re := fun n d => dInts_rb hee n d
 have le := dInts_len hee
 obtain ⟨ce1, ce2⟩ := dInts_cells hee
 refine answers_of hT (orcF_none rfl) ?_
 simp only [oo, om, op, og, ci, cl, c8]
 have HH1 := zA h41 (zA h42 (zA h16 (zA h17 (zA h18 (zA h43 (zA h19 (zA h30 (zA h44 (zA h45 (zA h15 (zA hct (zA ccl (zA clen (zA hmade (zA hord (zA hcopy (zA hwork (zA hints (zA fc (zA rc (zA lc (zA cc1 (zA cc2 (zA ft (zA rt (zA lt (zA ct1 (zA ct2 (zA fj (zA rj (zA lj (zA cj1 (zA cj2 (zA fo (zA ro (zA lo (zA co1 (zA co2 (zA fcc (zA rcc (zA lcc (zA ccc1 (zA ccc2 (zA ftt (zA rtt (zA ltt (zA ctt1 (zA ctt2 (zA fjj (zA rjj (zA ljj (zA cjj1 (zA cjj2 (zA foo (zA roo (zA loo (zA coo1 (zA coo2 (zA hstq (zA hlat (zA hbnd (zA htim (zA fs (zA rs (zA ls (zA cs1 (zA cs2 (zA fe (zA re (zA ce1 ce2))))))))))))))))))))))))))))))))))))))))))))))))))))))))))))))))))))))
 refine zS ?_
 refine zR (zO (by simp [zC h41, zC h42, zC h16, zC h17, zC h18, zC h43, zC h19, zC h30, zC h44, zC h45, zC h15, oKn, ↓crb, ↓cst, ↓cfz, -lenA, le, HH1]; rfl) ?_)
 simp only [zT, zB]
 refine zS ?_
 refine zR (zO (by simp [zC h41, zC h42, zC h16, zC h17, zC h18, zC h43, zC h19, zC h30, zC h44, zC h45, zC h15, oKn, ↓crb, ↓cst, ↓cfz, -lenA, le, HH1]; rfl) ?_)
 simp only [zT, zB]
 refine zS ?_
 refine zR (zO (by simp [zC h41, zC h42, zC h16, zC h17, zC h18, zC h43, zC h19, zC h30, zC h44, zC h45, zC h15, oKn, ↓crb, ↓cst, ↓cfz, -lenA, le, HH1]; rfl) ?_)
 simp only [zT, zB]
 refine zS ?_
 refine zR (zO (by simp [zC h41, zC h42, zC h16, zC h17, zC h18, zC h43, zC h19, zC h30, zC h44, zC h45, zC h15, oKn, ↓crb, ↓cst, ↓cfz, -lenA, le, HH1]; rfl) ?_)
 simp only [zT, zB]
 refine zS ?_
 refine zR (zO (by simp [zC h41, zC h42, zC h16, zC h17, zC h18, zC h43, zC h19, zC h30, zC h44, zC h45, zC h15, oKn, ↓crb, ↓cst, ↓cfz, -lenA, le, HH1]; rfl) ?_)
 simp only [zT, zB]
 refine zS ?_
 refine zR (zO (by simp [zC h41, zC h42, zC h16, zC h17, zC h18, zC h43, zC h19, zC h30, zC h44, zC h45, zC h15, oKn, ↓crb, ↓cst, ↓cfz, -lenA, le, HH1]; rfl) ?_)
 simp only [zT, zB]
 refine zS ?_
 refine zR (zO (by simp [zC h41, zC h42, zC h16, zC h17, zC h18, zC h43, zC h19, zC h30, zC h44, zC h45, zC h15, oKn, ↓crb, ↓cst, ↓cfz, -lenA, le, HH1]; rfl) ?_)
 simp only [zT, zB]
 refine zS ?_
 refine zS ?_
 refine zR (zO (by simp [zC h41, zC h42, zC h16, zC h17, zC h18, zC h43, zC h19, zC h30, zC h44, zC h45, zC h15, oKn, ↓crb, ↓cst, ↓cfz, -lenA, le, HH1]; rfl) ?_)
 simp only [zT, zB]
 refine runs_cond (x := false) (by simp) ?_
 refine zK ?_
 simp only [zT, zB]
 refine zS ?_
 refine zS ?_
 refine zR (zO (by simp [zC h41, zC h42, zC h16, zC h17, zC h18, zC h43, zC h19, zC h30, zC h44, zC h45, zC h15, oKn, ↓crb, ↓cst, ↓cfz, -lenA, le, HH1]; rfl) ?_)
 simp only [zT, zB]
 refine zL ?_
 refine runs_loop_inv (fun m σ => ∃ (a : Nat) (i : Int), i = a ∧ os.length - a = m ∧ a ≤ os.length ∧ σ = ⟨[.any, .int .u8 by_, .any, .any, .any, .ref 1 0 0, j, o, sv, .any, I ((lateL E js js.length).length : Int), I (latF E js js.length).1, I (latF E js js.length).2, .any, I bnd, .any, ev, .any, I i, .any, .any, .any, .any, .any, .any, .any, .any, .any, .any, .any, .any, .any, .any, .any, .any, .any, .any, .any, .any, .any, .any, .any, .any, .any, .any, .any, .any, .any, .any, .any, .any, .any, .any, .any, .any, .any, .any, .any, .any, .any, .any, .any, .any, .any, .any, .any, .any, .any, .any, .any, .any, .any, .any, .any, .any, .any, .any, .any, .any, .any, .any, .any, .any, .any, .any, .any, .any, .any, .any, .any, .any, .any, .any, .any, .any, .any, .any, .any, .any, .any, .any, .any, .any, .any, .any, .any, .any, .any, .any, .any, .any, .any, .any, .any, .any, .any, .any, .any, .any, .any, .any, .any, .any, .any, .any, .any, .any, .any, .any, .any, .any, .any, .any, .any, .any, .any, .any, .any, .any, .any, .any, .any, .any, .any, .any, .any, .any, .any, .any, .any, .any, .any, .any, .any, .any, .any, .any, .any, .any, .any, .any, .any, .any, .any, .any, .any, .any, .any, .any, .any, .any, .any, .any, .any, .any, .any, .any, .any, .any, .any, .any, .any, .any, .any, .any, .any, .any, .any, .any, .any, .any, .any, .any, .any, .any, .any, .any, .any, .any, .any, .any, .any], [some (.row 26 [cells]), some (.row 3 [[I s.mach, c, t]])]⟩) ?_ (os.length - 0) _ ⟨0, 0, rfl, rfl, Nat.zero_le _, by simp⟩
 rintro m σ ⟨a, i, hia, rfl, hal, rfl⟩
 refine zS ?_
 refine zS ?_
 refine zR (zO (by simp [zC h41, zC h42, zC h16, zC h17, zC h18, zC h43, zC h19, zC h30, zC h44, zC h45, zC h15, oKn, ↓crb, ↓cst, ↓cfz, -lenA, le, HH1]; rfl) ?_)
 simp only [zT, zB]
 refine runs_cond_split (x := decide (i < (os.length : Int))) (by simp) (fun hlt => ?_) (fun hlt => ?_)
 ·have hlt := of_decide_eq_true hlt
  have ha0 : a < os.length := by omega
  have hi0 : 0 ≤ i := by omega
  have htn : i.toNat = a := by omega
  have hilo : i < (os.length : Int) := by omega
  have hwi : W .i64 (i + 1) = i + 1 := W_small (by omega)
  have hmo := hctx.mem _ (List.getElem_mem ha0)
  have hx0 : 0 ≤ os[a] := hmo.1
  have hxj : os[a].toNat < js.length := by omega
  have hxS : os[a].toNat < S.length := by rw [hS.len]; exact hxj
  have hoN := oAtN_eq ha0
  obtain ⟨to, rfl⟩ := dInts_get ho ha0
  generalize hX : os[a] = X at *
  have hrow := hS.row _ (List.getElem_mem hxS)
  obtain ⟨sr, tt, wt, rfl, hs1, hs2, hwt⟩ := dInts2_get hs hxS
  have hksr : X.toNat < sr.length := by omega
  have hs4 : ∀ h, sr[X.toNat]'h = [wt] := fun h => by rw [List.getElem?_eq_getElem h] at hs2; exact Option.some.inj hs2
  have rt5 := fun n d => dInts_rb hwt n d
  have ft5 := fun H d => dInts_frz hwt H d
  have lt5 := dInts_len hwt
  obtain ⟨ctw1, ctw2⟩ := dInts_cells hwt
  have hll : (S[X.toNat].length : Int) = s.mach := hrow.1
  have HH2 := zA hi0 (zA htn (zA hilo (zA ha0 (zA hwi (zA hX (zA hx0 (zA hxS (zA hll (zA hksr (zA hs2 (zA hs4 (zA rt5 (zA ft5 (zA lt5 (zA ctw1 ctw2)))))))))))))))
  refine zK ?_
  simp only [zT, zB]
  refine zS ?_
  refine zL ?_
  refine zS ?_
  refine zR (zO (by simp [zC h41, zC h42, zC h16, zC h17, zC h18, zC h43, zC h19, zC h30, zC h44, zC h45, zC h15, oKn, ↓crb, ↓cst, ↓cfz, -lenA, le, HH1, zI, HH2]; rfl) ?_)
  simp only [zT, zB]
  refine zL ?_
  refine runs_loop_inv (fun m2 σ => ∃ (z : Nat) (g : Int), g = z ∧ s.mach.toNat - z = m2 ∧ (z : Int) ≤ s.mach ∧ σ = ⟨[.any, .int .u8 by_, .any, .any, .any, .ref 1 0 0, j, .vl (os.map rI) to, .vl sr tt, .any, I ((lateL E js js.length).length : Int), I (latF E js js.length).1, I (latF E js js.length).2, .any, I bnd, .any, ev, .any, I i, I g, .any, .any, .any, .any, .any, .any, .any, .any, .any, .any, .any, .any, .any, .any, .any, .any, .any, .any, .any, .any, .any, .any, .any, .any, .any, .any, .any, .any, .any, .any, .any, .any, .any, .any, .any, .any, .any, .any, .any, .any, .any, .any, .any, .any, .any, .any, .any, .any, .any, .any, .any, .any, .any, .any, .any, .any, .any, .any, .any, .any, .any, .any, .any, .any, .any, .any, .any, .any, .any, .any, .any, .any, .any, .any, .any, .any, .any, .any, .any, .any, .any, .any, .any, .any, .any, .any, .any, .any, .any, .any, .any, .any, .any, .any, .any, .any, .any, .any, .any, .any, .any, .any, .any, .any, .any, .any, .any, .any, .any, .any, .any, .any, .any, .any, .any, .any, .any, .any, .any, .any, .any, .any, .any, .any, .any, .any, .any, .any, .any, .any, .any, .any, .any, .any, .any, .any, .any, .any, .any, .any, .any, .any, .any, .any, .any, .any, .any, .any, .any, .any, .any, .any, .any, .any, .any, .any, .any, .any, .any, .any, .any, .any, .any, .any, .any, .any, .any, .any, .any, .any, .any, .any, .any, .any, .any, .any, .any, .any, .any, .any, .any, .any], [some (.row 26 [cells]), some (.row 3 [[I s.mach, c, t]])]⟩) ?_ (s.mach.toNat - 0) _ ⟨0, 0, rfl, rfl, by have := hsh.mach; omega, by simp⟩
  rintro m2 σ ⟨z, g, hgz, rfl, hzm, rfl⟩
  refine zS ?_
  refine zS ?_
  refine zR (zO (by simp [zC h41, zC h42, zC h16, zC h17, zC h18, zC h43, zC h19, zC h30, zC h44, zC h45, zC h15, oKn, ↓crb, ↓cst, ↓cfz, -lenA, le, HH1, zI, HH2]; rfl) ?_)
  simp only [zT, zB]
  refine runs_cond_split (x := decide (g < s.mach)) (by simp) (fun hlt2 => ?_) (fun hlt2 => ?_)
  ·have hlt2 := of_decide_eq_true hlt2
   have hk0 : (z : Int) < s.mach := by omega
   have hzS : z < S[X.toNat].length := by omega
   have hg0 : 0 ≤ g := by omega
   have hgn : g.toNat = z := by omega
   have hgs : g < (S[X.toNat].length : Int) := by omega
   have hwg : W .i64 (g + 1) = g + 1 := W_small (by have := hsh.mach; omega)
   have hxx := hst160 _ (List.getElem_mem hxS) _ (List.getElem_mem hzS)
   have hsa : stAt S (oAtN os a) z = S[X.toNat][z] := by rw [hoN]; exact stAt_eq hxS hzS
   have h1 := hallow a z ha0 hk0
   rw [hsa] at h1
   obtain ⟨tw, rfl⟩ := dInts_get hwt hzS
   generalize hY : S[X.toNat][z] = Y at *
   have a1 := h1 Y (Int.le_refl _)
   have a2 := h1 (Y - 1) (by omega)
   have a3 := h1 (Y - 1 - by_) (by omega)
   rw [decide_eq_true rfl] at a1
   rw [decide_eq_false (by omega)] at a2 a3
   have o1 := hor i g Y a z hia hgz ha0 hk0 (by omega)
   have o2 := hor i g (Y - 1) a z hia hgz ha0 hk0 (by omega)
   have o3 := hor i g (Y - 1 - by_) a z hia hgz ha0 hk0 (by omega)
   rw [a1] at o1
   rw [a2] at o2
   rw [a3] at o3
   have w1 : W .i64 (Y - 1) = Y - 1 := W_fit (by omega)
   have w2 : W .i64 (Y - 1 - by_) = Y - 1 - by_ := W_fit (by omega)
   have w3 : W .i64 by_ = by_ := W_fit (by omega)
   have HH3 := zA hk0 (zA hzS (zA hg0 (zA hgn (zA hgs (zA hwg (zA hY (zA o1 (zA o2 (zA o3 (zA w1 (zA w2 w3)))))))))))
   refine zK ?_
   simp only [zT, zB]
   refine zS ?_
   refine zL ?_
   refine zS ?_
   refine zR (zO (by simp [zC h41, zC h42, zC h16, zC h17, zC h18, zC h43, zC h19, zC h30, zC h44, zC h45, zC h15, oKn, ↓crb, ↓cst, ↓cfz, -lenA, le, HH1, zI, HH2, HH3]; rfl) ?_)
   simp only [zT, zB]
   refine zS ?_
   refine zR (zO (by simp [zC h41, zC h42, zC h16, zC h17, zC h18, zC h43, zC h19, zC h30, zC h44, zC h45, zC h15, oKn, ↓crb, ↓cst, ↓cfz, -lenA, le, HH1, zI, HH2, HH3]; rfl) ?_)
   simp only [zT, zB]
   refine runs_cond (x := false) (by simp) ?_
   refine zK ?_
   simp only [zT, zB]
   refine zR (zO (by simp [zC h41, zC h42, zC h16, zC h17, zC h18, zC h43, zC h19, zC h30, zC h44, zC h45, zC h15, oKn, ↓crb, ↓cst, ↓cfz, -lenA, le, HH1, zI, HH2, HH3]; rfl) ?_)
   simp only [zT, zB]
   exact ⟨s.mach.toNat - (z + 1), by omega, z + 1, g + 1, by omega, rfl, by omega, by simp [trim, zC h41, zC h42, zC h16, zC h17, zC h18, zC h43, zC h19, zC h30, zC h44, zC h45, zC h15, oKn, ↓crb, ↓cst, ↓cfz, -lenA, le, HH1, zI, HH2, HH3]⟩
  ·refine runs_exit ?_
   simp only [zT, zB, if_true, if_false, reduceIte, Nat.reduceEqDiff, Nat.succ_ne_zero, Nat.one_ne_zero, Nat.zero_ne_one]
   refine zR (zO (by simp [zC h41, zC h42, zC h16, zC h17, zC h18, zC h43, zC h19, zC h30, zC h44, zC h45, zC h15, oKn, ↓crb, ↓cst, ↓cfz, -lenA, le, HH1, zI, HH2]; rfl) ?_)
   simp only [zT, zB]
   exact ⟨os.length - (a + 1), by omega, a + 1, i + 1, by omega, rfl, by omega, by simp [trim, zC h41, zC h42, zC h16, zC h17, zC h18, zC h43, zC h19, zC h30, zC h44, zC h45, zC h15, oKn, ↓crb, ↓cst, ↓cfz, -lenA, le, HH1, zI, HH2]⟩
 ·have hlt := of_decide_eq_false hlt
  have haE : a = os.length := by omega
  refine runs_exit ?_
  simp only [zT, zB, if_true, if_false, reduceIte, Nat.reduceEqDiff, Nat.succ_ne_zero, Nat.one_ne_zero, Nat.zero_ne_one]
  refine zS ?_
  refine zR (zO (by simp [zC h41, zC h42, zC h16, zC h17, zC h18, zC h43, zC h19, zC h30, zC h44, zC h45, zC h15, oKn, ↓crb, ↓cst, ↓cfz, -lenA, le, HH1]; rfl) ?_)
  simp only [zT, zB]
  refine zS ?_
  refine zS ?_
  refine zR (zO (by simp [zC h41, zC h42, zC h16, zC h17, zC h18, zC h43, zC h19, zC h30, zC h44, zC h45, zC h15, oKn, ↓crb, ↓cst, ↓cfz, -lenA, le, HH1]; rfl) ?_)
  simp only [zT, zB]
  refine zL ?_
  refine runs_loop_inv (fun m3 σ => ∃ (p : Nat) (h1 q1 q2 q3 : Int), h1 = p ∧ js.length - p = m3 ∧ p ≤ js.length ∧ q1 = ((lateL E js p).length : Int) ∧ q2 = (latF E js p).1 ∧ q3 = (latF E js p).2 ∧ σ = ⟨[.any, .any, .any, .any, .any, .any, j, .any, .any, .any, I ((lateL E js js.length).length : Int), I (latF E js js.length).1, I (latF E js js.length).2, .any, I bnd, .any, ev, .any, .any, .any, .any, I q1, I q2, I q3, I h1, .any, .any, .any, .any, .any, .any, .any, .any, .any, .any, .any, .any, .any, .any, .any, .any, .any, .any, .any, .any, .any, .any, .any, .any, .any, .any, .any, .any, .any, .any, .any, .any, .any, .any, .any, .any, .any, .any, .any, .any, .any, .any, .any, .any, .any, .any, .any, .any, .any, .any, .any, .any, .any, .any, .any, .any, .any, .any, .any, .any, .any, .any, .any, .any, .any, .any, .any, .any, .any, .any, .any, .any, .any, .any, .any, .any, .any, .any, .any, .any, .any, .any, .any, .any, .any, .any, .any, .any, .any, .any, .any, .any, .any, .any, .any, .any, .any, .any, .any, .any, .any, .any, .any, .any, .any, .any, .any, .any, .any, .any, .any, .any, .any, .any, .any, .any, .any, .any, .any, .any, .any, .any, .any, .any, .any, .any, .any, .any, .any, .any, .any, .any, .any, .any, .any, .any, .any, .any, .any, .any, .any, .any, .any, .any, .any, .any, .any, .any, .any, .any, .any, .any, .any, .any, .any, .any, .any, .any, .any, .any, .any, .any, .any, .any, .any, .any, .any, .any, .any, .any, .any, .any, .any, .any, .any, .any, .any], [some (.row 26 [cells]), some (.row 3 [[I s.mach, c, t]])]⟩) ?_ (js.length - 0) _ ⟨0, 0, 0, 0, 0, rfl, rfl, Nat.zero_le _, rfl, rfl, rfl, by simp [lateL, latF]⟩
  rintro m3 σ ⟨p, h1, q1, q2, q3, hhp, rfl, hpl, hq1, hq2, hq3, rfl⟩
  refine zS ?_
  refine zS ?_
  refine zR (zO (by simp [zC h41, zC h42, zC h16, zC h17, zC h18, zC h43, zC h19, zC h30, zC h44, zC h45, zC h15, oKn, ↓crb, ↓cst, ↓cfz, -lenA, le, HH1]; rfl) ?_)
  simp only [zT, zB]
  refine runs_cond_split (x := decide (h1 < (js.length : Int))) (by simp) (fun hlt3 => ?_) (fun hlt3 => ?_)
  ·have hlt3 := of_decide_eq_true hlt3
   have hp0 : p < js.length := by omega
   have hpE : p < E.length := by omega
   have hh0 : 0 ≤ h1 := by omega
   have hhn : h1.toNat = p := by omega
   have hhlo : h1 < (js.length : Int) := by omega
   have hhlE : h1 < (E.length : Int) := by omega
   have hwh : W .i64 (h1 + 1) = h1 + 1 := W_small (by omega)
   have hjb := hsh.job _ (List.getElem_mem hp0)
   have hEp := hE _ (List.getElem_mem hpE)
   have hlb := latF_bd (E := E) (js := js) (fun e he => by have := hE e he; omega) (fun j hj => (hsh.job j hj).2.2.1.1) p (by omega) (by omega)
   have hll2 := lateL_len E js p
   have hEA : endAt E p = E[p] := by unfold endAt; rw [List.getD_eq_getElem?_getD, List.getElem?_eq_getElem hpE]; rfl
   have hDA : dueAt js p = js[p].due := by unfold dueAt; rw [List.getD_eq_getElem?_getD, List.getElem?_eq_getElem hp0]; rfl
   have hlF : latF E js (p + 1) = ((latF E js p).1 + max 0 (endAt E p - dueAt js p), max (latF E js p).2 (endAt E p)) := rfl
   have hlL : lateL E js (p + 1) = lateL E js p ++ if dueAt js p < endAt E p then [(p : Int)] else [] := rfl
   rw [hEA, hDA] at hlF hlL
   clear hEA hDA
   obtain ⟨jr, tj, wv, rfl, hr1, hr2, hwv⟩ := dJobs_get hj hp0
   have hkr : p < jr.length := by omega
   have hr4 : ∀ h, jr[p]'h = [I js[p].kind, I js[p].ready, I js[p].due, wv] := fun h => by rw [List.getElem?_eq_getElem h] at hr2; exact Option.some.inj hr2
   have rw5 := fun n d => dInts_rb hwv n d
   have fw5 := fun H d => dInts_frz hwv H d
   have lw5 := dInts_len hwv
   obtain ⟨cw1, cw2⟩ := dInts_cells hwv
   obtain ⟨te, rfl⟩ := dInts_get hee hpE
   generalize hV : E[p] = V at *
   have hdu := hjb.2.2.1
   generalize hD : js[p].due = D at *
   have hlL2 : ((lateL E js (p + 1)).length : Int) = ((lateL E js p).length : Int) + if D < V then 1 else 0 := by rw [hlL]; split <;> simp
   rw [← hq1] at hlL2
   rw [← hq2, ← hq3] at hlF hlb
   have hq1b : 0 ≤ q1 ∧ q1 ≤ 100 := by omega
   have w1 : W .i64 (q1 + 1) = q1 + 1 := W_fit (by omega)
   have w2 : W .i64 (q2 + V) = q2 + V := W_fit (by omega)
   have w3 : W .i64 (q2 + V - D) = q2 + V - D := W_fit (by omega)
   have HH4 := zA hp0 (zA hpE (zA hh0 (zA hhn (zA hhlo (zA hhlE (zA hwh (zA hV (zA hD (zA w1 (zA w2 (zA w3 (zA hkr (zA hr2 (zA hr4 (zA rw5 (zA fw5 (zA lw5 (zA cw1 cw2))))))))))))))))))
   refine zK ?_
   simp only [zT, zB]
   refine zS ?_
   refine zL ?_
   refine zS ?_
   refine zS ?_
   refine runs_drw (by simp (maxSteps := 3000000) [zC h41, zC h42, zC h16, zC h17, zC h18, zC h43, zC h19, zC h30, zC h44, zC h45, zC h15, oKn, ↓crb, ↓cst, ↓cfz, -lenA, le, HH1, zI, HH4]; rfl) ?_
   simp only [zT, zB]
   refine runs_cond_split (x := decide (D < V)) (by simp) (fun hgt => ?_) (fun hgt => ?_)
   ·have hl3 := of_decide_eq_true hgt
    rw [if_pos hl3] at hlL2
    refine runs_drw (by simp (maxSteps := 3000000) [zC h41, zC h42, zC h16, zC h17, zC h18, zC h43, zC h19, zC h30, zC h44, zC h45, zC h15, oKn, ↓crb, ↓cst, ↓cfz, -lenA, le, HH1, zI, HH4]; rfl) ?_
    simp only [zT, zB]
    refine zR (zO (by simp [zC h41, zC h42, zC h16, zC h17, zC h18, zC h43, zC h19, zC h30, zC h44, zC h45, zC h15, oKn, ↓crb, ↓cst, ↓cfz, -lenA, le, HH1, zI, HH4]; rfl) ?_)
    simp only [zT, zB]
    refine zR (zO (by simp [zC h41, zC h42, zC h16, zC h17, zC h18, zC h43, zC h19, zC h30, zC h44, zC h45, zC h15, oKn, ↓crb, ↓cst, ↓cfz, -lenA, le, HH1, zI, HH4]; rfl) ?_)
    simp only [zT, zB]
    exact ⟨js.length - (p + 1), by omega, p + 1, h1 + 1, q1 + 1, q2 + V - D, max q3 V, by omega, rfl, by omega, hlL2.symm, by rw [hlF]; show _ = q2 + max 0 (V - D); omega, by rw [hlF], by simp [trim, zC h41, zC h42, zC h16, zC h17, zC h18, zC h43, zC h19, zC h30, zC h44, zC h45, zC h15, oKn, ↓crb, ↓cst, ↓cfz, -lenA, le, HH1, zI, HH4]⟩
   ·have hl3 := of_decide_eq_false hgt
    rw [if_neg hl3, Int.add_zero] at hlL2
    refine zK ?_
    simp only [zT, zB]
    refine zR (zO (by simp [zC h41, zC h42, zC h16, zC h17, zC h18, zC h43, zC h19, zC h30, zC h44, zC h45, zC h15, oKn, ↓crb, ↓cst, ↓cfz, -lenA, le, HH1, zI, HH4]; rfl) ?_)
    simp only [zT, zB]
    refine zR (zO (by simp [zC h41, zC h42, zC h16, zC h17, zC h18, zC h43, zC h19, zC h30, zC h44, zC h45, zC h15, oKn, ↓crb, ↓cst, ↓cfz, -lenA, le, HH1, zI, HH4]; rfl) ?_)
    simp only [zT, zB]
    exact ⟨js.length - (p + 1), by omega, p + 1, h1 + 1, q1, q2, max q3 V, by omega, rfl, by omega, hlL2.symm, by rw [hlF]; show _ = q2 + max 0 (V - D); omega, by rw [hlF], by simp [trim, zC h41, zC h42, zC h16, zC h17, zC h18, zC h43, zC h19, zC h30, zC h44, zC h45, zC h15, oKn, ↓crb, ↓cst, ↓cfz, -lenA, le, HH1, zI, HH4]⟩
  ·have hlt3 := of_decide_eq_false hlt3
   have hpe : p = js.length := by omega
   subst hpe
   rw [← hq1, ← hq2, ← hq3]
   rw [← hq3] at hb1
   refine runs_exit ?_
   simp only [zT, zB, if_true, if_false, reduceIte, Nat.reduceEqDiff, Nat.succ_ne_zero, Nat.one_ne_zero, Nat.zero_ne_one]
   refine zS ?_
   refine zR (zO (by simp [zC h41, zC h42, zC h16, zC h17, zC h18, zC h43, zC h19, zC h30, zC h44, zC h45, zC h15, oKn, ↓crb, ↓cst, ↓cfz, -lenA, le, HH1, hb0, hb1]; rfl) ?_)
   simp only [zT, zB]
   refine runs_ret ?_
   simp [zC h41, zC h42, zC h16, zC h17, zC h18, zC h43, zC h19, zC h30, zC h44, zC h45, zC h15, oKn, ↓crb, ↓cst, ↓cfz, -lenA, le, HH1, hb0, hb1]
theorem law8 (W_ : FWorks) (x y : AVal) (hx : rowsV x = some (W_.xs.map rU)) (hy : rowsV y = some (W_.ys.map rU)) (hw : WkOk W_) (by_ : Int) (hby : isU by_) : Answers Tryz.prog FT 8 [.agg (wkC W_ x y), .int .u8 by_] [] fun v h => v = .bool true :=
  a8 Tryz.prog FT rfl rfl rfl rfl rfl rfl rfl rfl rfl rfl rfl rfl W_ x y hx hy hw by_ hby
end
end Go.Proofs.YtjjapdagllclkaaGreat.Tab

namespace Go.Proofs.YtjjapdagllclkaaGreat
open Go Go.Abs Go.Proofs Go.ChangeShapes Go.WideShapes Go.ChangeAt Go.RowKit
theorem own : ownKnob Tryz.prog.godebug = none := by kernel_rfl
theorem laidOut : laidOutB Tryz.prog = true := by kernel_rfl
theorem u8_wf {n : Int} (h : (Lit.int .u8 n).wf = true) : 0 ≤ n ∧ n ≤ 255 := by
  have e1 : IntKind.u8.min = 0 := rfl
  have e2 : IntKind.u8.max = 255 := rfl
  simp only [Lit.wf, e1, e2, Bool.and_eq_true, decide_eq_true_eq] at h
  exact h
theorem fits_u {Ls : List Ly} {xs : List AVal} (h : FitsR (.int .u8 :: Ls) xs) : ∃ (a : Int) (ys : List AVal), xs = .int .u8 a :: ys ∧ (0 ≤ a ∧ a ≤ 255) ∧ FitsR Ls ys := by
  obtain ⟨x, ys, rfl, hx, h1⟩ := fitsR_cons h
  obtain ⟨a, rfl, ha⟩ := fits_int hx
  exact ⟨a, ys, rfl, u8_wf ha, h1⟩
theorem fits_us : ∀ (n : Nat) {Ls : List Ly} {xs : List AVal}, FitsR (List.replicate n (.int .u8) ++ Ls) xs → ∃ (v : List Int) (ys : List AVal), xs = Tab.rU v ++ ys ∧ v.length = n ∧ (∀ a ∈ v, Tab.isU a) ∧ FitsR Ls ys
  | 0, _, xs, h => ⟨[], xs, rfl, rfl, by simp, h⟩
  | n + 1, Ls, xs, h => by
    have h : FitsR (.int .u8 :: (List.replicate n (.int .u8) ++ Ls)) xs := h
    obtain ⟨a, ys, rfl, ha, h⟩ := fits_u h
    obtain ⟨v, zs, rfl, hl, hv, h⟩ := fits_us n h
    exact ⟨a :: v, zs, rfl, by rw [List.length_cons, hl], fun b hb => by
      rcases List.mem_cons.1 hb with rfl | hb
      · exact ha
      · exact hv b hb, h⟩
theorem map_ofP {α : Type} {enc : α → List AVal} {p : α → Prop} : ∀ {l : List (List AVal)}, (∀ r ∈ l, ∃ a, r = enc a ∧ p a) → ∃ vs : List α, l = vs.map enc ∧ ∀ a ∈ vs, p a
  | [], _ => ⟨[], rfl, by simp⟩
  | r :: l, h => by
    obtain ⟨a, rfl, ha⟩ := h r (by simp)
    obtain ⟨vs, rfl, hvs⟩ := map_ofP (l := l) fun r hr => h r (by simp [hr])
    exact ⟨a :: vs, rfl, fun b hb => by
      rcases List.mem_cons.1 hb with rfl | hb
      · exact ha
      · exact hvs b hb⟩
theorem rows_of {x : AVal} {rs : List (List AVal)} (hx : x = .nils ∧ rs = [] ∨ ∃ t, x = .vl rs t) : rowsV x = some rs := by
  rcases hx with ⟨rfl, rfl⟩ | ⟨t, rfl⟩ <;> rfl
/-- The cells of works in bytes. -/
theorem fits_works {xs : List AVal} (h : FitsR [.int .u8, .int .u8, .int .u8, .int .u8, .int .u8, .int .u8, .int .u8, .int .u8, .int .u8, .int .u8, .int .u8, .int .u8, .int .u8, .int .u8, .int .u8, .int .u8, .int .u8, .int .u8, .sl [.int .u8, .int .u8, .int .u8, .int .u8], .sl [.int .u8, .int .u8, .int .u8, .int .u8, .int .u8, .int .u8, .int .u8], .int .u8, .int .u8, .int .u8, .int .u8, .int .u8, .int .u8] xs) :
    ∃ (W_ : Tab.FWorks) (x y : AVal), xs = Tab.wkC W_ x y ∧ rowsV x = some (W_.xs.map Tab.rU) ∧ rowsV y = some (W_.ys.map Tab.rU) ∧ Tab.WkOk W_ := by
  obtain ⟨m, ys, rfl, hm, h⟩ := fits_u h
  obtain ⟨k, ys, rfl, hk, h⟩ := fits_u h
  obtain ⟨g, ys, rfl, gl, hg, h⟩ := fits_us 16 h
  obtain ⟨x, ys, rfl, gx, h⟩ := fitsR_cons h
  obtain ⟨y, ys, rfl, gy, h⟩ := fitsR_cons h
  obtain ⟨o, ys, rfl, ol, ho, h⟩ := fits_us 6 (Ls := []) h
  obtain rfl := fitsR_nil h
  obtain ⟨r1, k1, q1⟩ := fits_rows gx
  obtain ⟨r2, k2, q2⟩ := fits_rows gy
  obtain ⟨xs, rfl, hxs⟩ := map_ofP (enc := Tab.rU) (p := fun v => v.length = 4 ∧ ∀ n ∈ v, Tab.isU n) (l := r1) fun a ha => by
    obtain ⟨v, ys, rfl, vl, hv, h⟩ := fits_us 4 (Ls := []) (q1 a ha)
    obtain rfl := fitsR_nil h
    exact ⟨v, by rw [List.append_nil], vl, hv⟩
  obtain ⟨ys, rfl, hys⟩ := map_ofP (enc := Tab.rU) (p := fun v => v.length = 7 ∧ ∀ n ∈ v, Tab.isU n) (l := r2) fun a ha => by
    obtain ⟨v, ys, rfl, vl, hv, h⟩ := fits_us 7 (Ls := []) (q2 a ha)
    obtain rfl := fitsR_nil h
    exact ⟨v, by rw [List.append_nil], vl, hv⟩
  refine ⟨⟨m, k, g, xs, ys, o⟩, x, y, ?_, rows_of k1, rows_of k2, ⟨hm, hk, ⟨gl, hg⟩, hxs, hys, ⟨ol, ho⟩⟩⟩
  simp [Tab.wkC]
end Go.Proofs.YtjjapdagllclkaaGreat
