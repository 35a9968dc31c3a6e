/- Contracts of flow: Later, Clone of jobs, the closure of Slack. No condition. -/
import Derived.Test.YtjjapdagllclkaaGreatRows
import Derived.Test.YtjjapdagllclkaaGreatChecked
import Derived.OpenShut
import Derived.JoinedOf
import Derived.Handed
import Derived.Test.YtjjapdagllclkaaGreatPzDFo
import Derived.Test.YtjjapdagllclkaaGreatPzBFo
import Derived.Test.YtjjapdagllclkaaGreatPzCFo
set_option linter.unusedSimpArgs false
set_option linter.unusedVariables false
namespace Go.Proofs.YtjjapdagllclkaaGreat.Tab
open Go Go.Abs Go.Proofs
set_option maxRecDepth 100000
set_option maxHeartbeats 4000000
set_option linter.unusedSimpArgs false
set_option linter.unusedVariables false
section
attribute [local simp] frz_int frz_bool frz_vl frz_pv frz_agg frz_tup frz_fn frz_ref frz_sl frz_nils optAll orcF rb_int rb_bool rb_agg rb_tup rb_int' rb_bool' rb_vl rb_pv rb_yld rb_nilf rb_nilp rb_nils rb_any rb_und rb_ref rb_sl rb_fn slE chunk fillA evParts evParts3 putAt List.range_succ List.range_zero List.range'_succ List.range'_zero runX_nil' unary_not evalS_pure evAll_nil evAll_cons runX_cons stepX wantedA dop CV.ev putK_eq setK_eq appK_eq fA_eq fI_eq fN_eq fRow_eq fRows_eq nth_eq Out.v putT List.replicate_succ zT zB arI pointee Abs.rowAt ldRow allV toV toC ofV ofC Builtin.min_ Builtin.min2 Builtin.max_ Builtin.max2 min_if max_if resA tupA kill trim_self trim_len trim_emp trim_nil lenA
attribute [local simp] runD_nil' runD_cons' stepD actK_eq actD clash disj masks holes maskH unmaskH diffs news eqB allB eqA ldRowN wrote toCs ofCs stA rowsV_vl rowsV_nils rowsOf dI1 dI2 dI3 dI5 elt
attribute [local simp] st_any st_und st_agg st_tup st_bool st_int st_nilp st_ref st_pv st_nils st_sl st_vl st_nilm st_mp st_fn st_nilf st_yld co_any co_und co_agg co_tup co_bool co_int co_nilp co_ref co_pv co_nils co_sl co_vl co_nilm co_mp co_fn co_nilf co_yld
section
attribute [local simp] Function.comp_def List.all_append List.all_map above callA calleeA frNB_none frNB_row frN_agg frN_bool frN_int frN_nils frN_ref frN_sl frN_tup frN_vl frzG gather getR lim lop loud lowA lowR norm okG putG putR rbB_none rbB_row resG rowAt takeG
def ordGo : List Int → List Int → List Int
  | [], _ => []
  | b :: bs, L => L.getD (b.tmod (L.length : Int)).toNat 0 :: ordGo bs (L.eraseIdx (b.tmod (L.length : Int)).toNat)
def ordW (o : List Int) (n : Nat) : List Int := ordGo (o.take n) (upTo n)
theorem cons_erase_perm {L : List Int} {k : Nat} (hk : k < L.length) : (L[k] :: L.eraseIdx k).Perm L := by
  have e : L.take k ++ L[k] :: L.drop (k + 1) = L := by rw [← List.drop_eq_getElem_cons hk, List.take_append_drop]
  rw [List.eraseIdx_eq_take_drop_succ]
  exact (List.perm_middle.symm).trans (List.Perm.of_eq e)
theorem ordGo_perm : ∀ (bs L : List Int), bs.length = L.length → (∀ b ∈ bs, 0 ≤ b) → (ordGo bs L).Perm L
  | [], L, hl, _ => by
    have : L = [] := List.eq_nil_of_length_eq_zero hl.symm
    subst this; exact .nil
  | b :: bs, L, hl, hb => by
    simp only [List.length_cons] at hl
    have hb0 := hb b (by simp)
    have hp : (0 : Int) < (L.length : Int) := by omega
    have hk1 := Int.tmod_nonneg (L.length : Int) hb0
    have hk2 := Int.tmod_lt_of_pos b hp
    have hk : (b.tmod (L.length : Int)).toNat < L.length := by omega
    simp only [ordGo]
    generalize (b.tmod (L.length : Int)).toNat = k at *
    have ih := ordGo_perm bs (L.eraseIdx k) (by rw [List.length_eraseIdx_of_lt hk]; omega) (fun x hx => hb x (by simp [hx]))
    refine (List.Perm.cons _ ih).trans ?_
    rw [List.getD_eq_getElem?_getD, List.getElem?_eq_getElem hk, Option.getD_some]
    exact cons_erase_perm hk
theorem upTo_succ (n : Nat) : upTo (n + 1) = upTo n ++ [(n : Int)] := by
  unfold upTo; rw [List.range_succ, List.map_append]; rfl
theorem ordW_ord {o : List Int} {n : Nat} (ho : o.length = 6 ∧ ∀ b ∈ o, isU b) (hn : n ≤ 6) : ordB (ordW o n) n = true :=
  perm_ord (ordGo_perm _ _ (by rw [List.length_take, upTo_len]; omega) (fun b hb => (ho.2 b (List.mem_of_mem_take hb)).1))
theorem allB_refl {α : Type} {f : α → α → Bool} : ∀ (l : List α), (∀ x ∈ l, f x x = true) → allB f l l = true
  | [], _ => rfl
  | x :: l, h => by simp only [allB, h x (by simp), allB_refl l fun y hy => h y (by simp [hy]), Bool.and_self]
theorem eqA_int (n : Nat) (k : IntKind) (m : Int) : eqA (n + 1) (.int k m) (.int k m) = true := by cases k <;> simp
theorem eqA_rU (n : Nat) (v : List Int) : allB (eqA (n + 1)) (rU v) (rU v) = true := allB_refl _ fun z hz => by
  obtain ⟨a, _, rfl⟩ := List.mem_map.1 hz
  exact eqA_int n _ _
theorem eqA_rows {x : AVal} {xs : List (List Int)} (hx : rowsV x = some (xs.map rU)) (n : Nat) : eqA (n + 2) x x = true := by
  rcases rowsV_cases hx with ⟨rfl, _⟩ | ⟨t, rfl⟩
  · rfl
  · show (allB (allB (eqA (n + 1))) (xs.map rU) (xs.map rU) && t == t) = true
    rw [allB_refl _ fun r hr => by obtain ⟨v, _, rfl⟩ := List.mem_map.1 hr; exact eqA_rU n v]
    simp
theorem eqB_rI (xs : List Int) : eqB (some (.row 1 (xs.map rI))) (some (.row 1 (xs.map rI))) = true := by
  show ((1 : Nat) == 1 && allB (allB (eqA 12)) (xs.map rI) (xs.map rI)) = true
  rw [allB_refl _ fun r hr => by obtain ⟨v, _, rfl⟩ := List.mem_map.1 hr; exact allB_refl _ fun z hz => by simp [rI] at hz; subst hz; exact eqA_int 11 _ _]
  rfl
theorem runs_drwN {P : Program} {T : Nat → Option CFn} {r : Option Nat} {l : List CO} {σ : St} {Q : AEx → St → Prop} {D : DSt} (n : Nat)
    (h : runD P T (exec P T n) σ.h.length l.length l 0 ⟨σ.t, σ.h ++ List.replicate l.length none, List.replicate l.length none⟩ = some D) (hq : Q .normal ⟨D.t, D.h⟩) : Runs P T r (.drw l) σ Q := by
  refine ⟨n + 1, .normal, ⟨D.t, D.h⟩, ?_, hq⟩
  show exec1 P T (exec P T n) r (.drw l) σ = _
  simp only [exec1, appK_eq, fN_eq, h]
theorem a18h (P : Program) (T : Nat → Option CFn) (hT : T 18 = some c18) (h : Heap) (b k : Nat) (tt : Bool) (xs : List Int) (hb : h[b]? = some (some (.row 1 (xs.map rI)))) (hk : k ≤ xs.length) (hl : xs.length ≤ 1000) :
  Answers P T 18 [.sl b 0 k tt] h fun v h' => (k = 0 → v = .sl h.length 0 0 true ∧ h' = h ++ [some (.row 1 [])]) ∧ (0 < k → v = .sl (h.length + 1) 0 k false ∧ h' = h ++ [some (.row 1 []), some (.row 1 ((xs.take k).map rI))]) := by
 have hbl : b < h.length := (List.getElem?_eq_some_iff.1 hb).1
 have hb2 : (h ++ [some (Blk.row 1 [])])[b]? = some (some (.row 1 (xs.map rI))) := by rw [List.getElem?_append_left hbl]; exact hb
 have hkx : k ≤ (xs.map rI).length := by simp; omega
 refine answers_of hT (orcF_none rfl) ?_
 simp only [oo, om, op, og, ci, cl, c18]
 refine zS ?_
 by_cases hk0 : k = 0
 ·subst hk0
  refine zR (zO (by simp [hb2, hkx]; rfl) ?_)
  simp only [zT, zB]
  refine zS ?_
  refine zR (zO (by simp [hb2, hkx]; rfl) ?_)
  simp only [zT, zB]
  refine runs_ret ?_
  refine ⟨by simp, _, by simp; rfl, ?_⟩
  have ht : trim h.length [tupA [.sl h.length 0 0 true]] (h ++ [some (.row 1 [])]) = h ++ [some (.row 1 [])] := by simp [trim]
  exact ⟨fun _ => ⟨rfl, ht⟩, fun h => absurd h (Nat.lt_irrefl _)⟩
 ·have hk1 : ¬ k = 0 := hk0
  have htl : ((xs.map rI).take k).length = k := by simp; omega
  have hr1 : (((xs.map rI).take k).all fun r => r.length == 1) = true := by
   simp only [List.all_eq_true]; intro r hr; obtain ⟨a, _, rfl⟩ := List.mem_map.1 (List.mem_of_mem_take hr); rfl
  have hr2 : (((xs.map rI).take k).all fun r => r.all storable) = true := by
   simp only [List.all_eq_true]; intro r hr; obtain ⟨a, _, rfl⟩ := List.mem_map.1 (List.mem_of_mem_take hr); intro z hz; simp [rI] at hz; subst hz; rfl
  have hle : k ≤ 1048576 := by omega
  have hmin : min k xs.length = k := by omega
  have htn : (xs.map rI).take k ≠ [] := by intro e; rw [e] at htl; simp at htl; omega
  have hr1' : ∀ r, r ∈ (xs.map rI).take k → r.length = 1 := fun r hr => by obtain ⟨a, _, rfl⟩ := List.mem_map.1 (List.mem_of_mem_take hr); rfl
  have HH1 := zA hb2 (zA hkx (zA hk1 (zA hk (zA htn (zA htl hle)))))
  refine zR (zO (by simp [-List.map_take, -List.length_take, ↓hr1, ↓hr2, HH1]; rfl) ?_)
  simp only [zT, zB]
  refine zS ?_
  refine zR (zO (by simp [-List.map_take, -List.length_take, ↓hr1, ↓hr2, HH1]; rfl) ?_)
  simp only [zT, zB]
  refine runs_ret ?_
  refine ⟨by simp, _, by simp; rfl, ?_⟩
  have ht : ∀ x, trim h.length [tupA [.sl (h.length + 1) 0 k false]] x = x := fun x => by simp [trim]; intro h; omega
  exact ⟨fun h => absurd h hk1, fun _ => ⟨rfl, by rw [List.map_take]; exact ht _⟩⟩
theorem a42 (P : Program) (T : Nat → Option CFn) (hT : T 42 = some { c42 with body := annK [(230, [.slot 5]), (358, [.slot 5, .slot 6])] [] c42.body }) (h18 : T 18 = some c18) (W_ : FWorks) (x y : AVal) (hx : rowsV x = some (W_.xs.map rU)) (hy : rowsV y = some (W_.ys.map rU)) (hw : WkOk W_) (n : Nat) (hn : n ≤ 6) : Answers P T 42 [.agg (wkC W_ x y), I (n : Int)] [] fun v h => frz true h 5 v = some (encE (ordW W_.o n)) := by
 obtain ⟨bm, bk, bg, bxs, bys, bo⟩ := hw
 obtain ⟨cx1, cx2⟩ := rowsV_cells hx
 obtain ⟨cy1, cy2⟩ := rowsV_cells hy
 have rx := fun n d => rowsV_rb hx n d
 have ry := fun n d => rowsV_rb hy n d
 have co : ∀ q, q < 6 → (wkC W_ x y)[20 + q]? = some (.int .u8 (W_.o.getD q 0)) := fun q hq => by
  have e : 20 + q = (18 + q) + 1 + 1 := by omega
  unfold wkC
  rw [e, List.getElem?_cons_succ, List.getElem?_cons_succ, List.append_assoc, List.getElem?_append_right (by rw [rU_len, bg.1]; omega), rU_len, bg.1, List.getElem?_append_right (by simp; omega)]
  have e2 : 18 + q - 16 - [x, y].length = q := by simp; omega
  rw [e2]
  exact rU_get (by rw [bo.1]; exact hq)
 have crb : ∀ n, (wkC W_ x y).all (rb n 5) = true := fun n => by
  have h1 := rU_rb n 4 W_.g
  have h2 := rU_rb n 4 W_.o
  simp only [wkC, List.all_cons, List.all_append, h1, h2, rx, ry, rb_int', List.all_nil, Bool.and_true]
 have cst : (wkC W_ x y).all storable = true := by
  have h1 := rU_stor W_.g
  have h2 := rU_stor W_.o
  simp only [wkC, List.all_cons, List.all_append, h1, h2, cx2, cy2, List.all_nil, Bool.and_true]; rfl
 have ccl : cellsOf (.agg (wkC W_ x y)) = some (wkC W_ x y) := rfl
 have clen : (wkC W_ x y).length = 26 := by simp [wkC, rU_len, bg.1, bo.1]
 have hceq : allB (eqA 12) (wkC W_ x y) (wkC W_ x y) = true := by
  refine allB_refl _ fun z hz => ?_
  simp only [wkC, List.mem_cons, List.mem_append, List.not_mem_nil, or_false] at hz
  rcases hz with rfl | rfl | (h | rfl | rfl) | h
  ·exact eqA_int 11 _ _
  ·exact eqA_int 11 _ _
  ·obtain ⟨a, _, rfl⟩ := List.mem_map.1 h; exact eqA_int 11 _ _
  ·exact eqA_rows hx 10
  ·exact eqA_rows hy 10
  ·obtain ⟨a, _, rfl⟩ := List.mem_map.1 h; exact eqA_int 11 _ _
 generalize hcells : wkC W_ x y = cells at *
 have heB : eqB (some (.row 26 [cells])) (some (.row 26 [cells])) = true := by
  show ((26 : Nat) == 26 && allB (allB (eqA 12)) [cells] [cells]) = true
  rw [allB_refl _ fun r hr => by simp only [List.mem_singleton] at hr; subst hr; exact hceq]
  rfl
 have o18 : ∀ a h, orcF c18 a h = none := fun _ _ => orcF_none rfl
 have f18 : ∀ a h, c18.eff a h = none := fun _ _ => rfl
 refine answers_of hT (orcF_none rfl) ?_
 simp only [oo, om, op, og, ci, cl, c42, annK, lkG, lkR, reduceIte, Nat.reduceEqDiff, reduceCtorEq, List.cons.injEq, and_true, and_false, false_and, true_and]
 refine zS ?_
 refine zR (zO (by simp [↓crb, ↓cst, ccl, clen]; rfl) ?_)
 simp only [zT, zB]
 refine zS ?_
 refine zR (zO (by simp [↓crb, ↓cst, ccl, clen]; rfl) ?_)
 simp only [zT, zB]
 refine zS ?_
 refine zS ?_
 refine zR (zO (by simp [↓crb, ↓cst, ccl, clen]; rfl) ?_)
 simp only [zT, zB]
 refine zL ?_
 refine runs_loopG_inv (fun mm1 σ => ∃ (k1 : Nat) (i1 : Int), i1 = k1 ∧ n - k1 = mm1 ∧ k1 ≤ n ∧ ((k1 = 0 ∧ σ = ⟨[.any, I (n : Int), .ref 0 0 0, .any, .any, .sl 3 0 0 true, .sl 2 0 0 true, I i1, .any, .any, .any, .any, .any, .any, .any, .any, .any, .any, .any, .any, .any, .any, .any, .any, .any, .any, .any, .any, .any, .any, .any, .any, .any, .any, .any, .any, .any, .any, .any, .any, .any, .any, .any, .any, .any, .any, .any, .any, .any, .any, .any], [some (.row 26 [cells]), none, some (.row 1 []), some (.row 1 [])]⟩) ∨ (∃ (p1 : Nat) (ac1 : List (Int)), k1 = p1 + 1 ∧ ac1 = upTo (k1) ∧ ac1.length = p1 + 1 ∧ σ = ⟨[.any, I (n : Int), .ref 0 0 0, .any, .any, .sl 3 0 (p1 + 1) false, .sl 2 0 0 true, I i1, .any, .any, .any, .any, .any, .any, .any, .any, .any, .any, .any, .any, .any, .any, .any, .any, .any, .any, .any, .any, .any, .any, .any, .any, .any, .any, .any, .any, .any, .any, .any, .any, .any, .any, .any, .any, .any, .any, .any, .any, .any, .any, .any], [some (.row 26 [cells]), none, some (.row 1 []), some (.row 1 (ac1.map rI))]⟩))) (by simp [↓crb, ↓cst, ccl, clen] <;> first | exact ⟨rfl, rfl⟩ | rfl) (⟨0, 0, rfl, rfl, Nat.zero_le _, .inl ⟨rfl, rfl⟩⟩) ?_
 rintro mm1 σ ⟨k1, i1, hik1, rfl, hkl1, ⟨hkz1, rfl⟩ | ⟨p1, ac1, hkp1, hac1, hacl1, rfl⟩⟩
 ·refine zS ?_
  refine zS ?_
  refine zR (zO (by simp [↓crb, ↓cst, ccl, clen]; rfl) ?_)
  simp only [zT, zB]
  refine runs_cond_split (x := _) rfl (fun hlt1 => ?_) (fun hlt1 => ?_)
  ·have hltt1 := of_decide_eq_true hlt1
   have hk01 : k1 < n := by omega
   have hi01 : 0 ≤ i1 := by omega
   have htn1 : i1.toNat = k1 := by omega
   have hwi1 : W .i64 (i1 + 1) = i1 + 1 := W_small (by omega)
   have hF1 : upTo (k1 + 1) = upTo k1 ++ [i1] := by rw [upTo_succ, hik1]
   have hnx1 : [i1] = upTo (k1 + 1) := by rw [hF1, hkz1]; rfl
   have hap1 : [[I i1]] = [i1].map rI := rfl
   have HH1 := zA ccl (zA clen (zA hi01 (zA htn1 (zA hk01 hwi1))))
   refine zK ?_
   simp only [zT, zB]
   refine zS ?_
   refine zL ?_
   refine zR (zO (by simp [↓crb, ↓cst, zI, HH1]; rfl) ?_)
   simp only [zT, zB]
   refine zR (zO (by simp [↓crb, ↓cst, zI, HH1]; rfl) ?_)
   simp only [zT, zB]
   exact ⟨n - (k1 + 1), _, _, by omega, by simp [↓crb, ↓cst, zI, HH1] <;> first | exact ⟨rfl, rfl⟩ | rfl, k1 + 1, i1 + 1, by omega, rfl, by omega, .inr ⟨0, [i1], by omega, hnx1, rfl, rfl⟩⟩
  ·have hx1 := of_decide_eq_false hlt1
   have hkE1 : k1 = n := by omega
   refine runs_exit ?_
   simp only [zT, zB, if_true, if_false, reduceIte, Nat.reduceEqDiff, Nat.succ_ne_zero, Nat.one_ne_zero, Nat.zero_ne_one]
   refine zS ?_
   refine zS ?_
   refine zR (zO (by simp [↓crb, ↓cst, ccl, clen]; rfl) ?_)
   simp only [zT, zB]
   refine zL ?_
   refine runs_loopG_inv (fun mm2 σ => ∃ (k2 : Nat) (i2 : Int) (L : List Int) (tL : Bool), i2 = k2 ∧ n - k2 = mm2 ∧ k2 ≤ n ∧ L.length = n - k2 ∧ ((k2 = 0 ∧ L = upTo n ∧ σ = ⟨[.any, I (n : Int), .ref 0 0 0, .any, .any, .sl 4 0 L.length tL, .sl 5 0 0 true, .any, I i2, .any, .any, .any, .any, .any, .any, .any, .any, .any, .any, .any, .any, .any, .any, .any, .any, .any, .any, .any, .any, .any, .any, .any, .any, .any, .any, .any, .any, .any, .any, .any, .any, .any, .any, .any, .any, .any, .any, .any, .any, .any, .any], [some (.row 26 [cells]), none, none, none, some (.row 1 (L.map rI)), some (.row 1 [])]⟩) ∨ (∃ (p2 : Nat) (ac2 : List Int), k2 = p2 + 1 ∧ ac2 ++ ordGo ((W_.o.take n).drop k2) L = ordW W_.o n ∧ ac2.length = p2 + 1 ∧ σ = ⟨[.any, I (n : Int), .ref 0 0 0, .any, .any, .sl 4 0 L.length tL, .sl 5 0 (p2 + 1) false, .any, I i2, .any, .any, .any, .any, .any, .any, .any, .any, .any, .any, .any, .any, .any, .any, .any, .any, .any, .any, .any, .any, .any, .any, .any, .any, .any, .any, .any, .any, .any, .any, .any, .any, .any, .any, .any, .any, .any, .any, .any, .any, .any, .any], [some (.row 26 [cells]), none, none, none, some (.row 1 (L.map rI)), some (.row 1 (ac2.map rI))]⟩))) (by simp [↓crb, ↓cst, ccl, clen] <;> first | exact ⟨rfl, rfl⟩ | rfl) (⟨0, 0, [], true, rfl, rfl, Nat.zero_le _, by simp; omega, .inl ⟨rfl, by rw [← hkE1, hkz1]; rfl, rfl⟩⟩) ?_
   rintro mm2 σ ⟨k2, i2, L, tL, hik2, rfl, hkl2, hLl, ⟨hkz2, hL0, rfl⟩ | ⟨p2, ac2, hkp2, hac2, hacl2, rfl⟩⟩
   ·refine zS ?_
    refine zS ?_
    refine zR (zO (by simp [↓crb, ↓cst, ccl, clen]; rfl) ?_)
    simp only [zT, zB]
    refine runs_cond_split (x := _) rfl (fun hlt2 => ?_) (fun hlt2 => ?_)
    ·have hltt2 := of_decide_eq_true hlt2
     have hk2n : k2 < n := by omega
     have hi20 : 0 ≤ i2 := by omega
     have htn2 : i2.toNat = k2 := by omega
     have hi26 : i2 < 6 := by omega
     have hwi2 : W .i64 (i2 + 1) = i2 + 1 := W_small (by omega)
     have hco := co k2 (by omega)
     have hob := mins_fit (k := k2) bo.2
     have hdr : (W_.o.take n).drop k2 = W_.o.getD k2 0 :: (W_.o.take n).drop (k2 + 1) := by
      rw [List.drop_eq_getElem_cons (by rw [List.length_take, bo.1]; omega), List.getElem_take, List.getD_eq_getElem?_getD, List.getElem?_eq_getElem (by rw [bo.1]; omega)]; rfl
     generalize W_.o.getD k2 0 = ob at *
     obtain ⟨ob1, ob2⟩ := hob
     have hLp : (0 : Int) < (L.length : Int) := by omega
     have hLz : ¬ L.length = 0 := by omega
     have hLzi : ¬ (L.length : Int) = 0 := by omega
     have hLzb : ((L.length : Int) == 0) = false := by rw [beq_eq_false_iff_ne]; exact hLzi
     have hLm : ¬ ((L.length : Int) = -1) := by omega
     have hq1 := Int.tmod_nonneg (L.length : Int) ob1
     have hq2 := Int.tmod_lt_of_pos ob hLp
     have u0 : W .i64 ob = ob := W_fit (by omega)
     have hL6 : L.length ≤ 6 := by omega
     have hgo : ordGo (ob :: (W_.o.take n).drop (k2 + 1)) L = L.getD (ob.tmod (L.length : Int)).toNat 0 :: ordGo ((W_.o.take n).drop (k2 + 1)) (L.eraseIdx (ob.tmod (L.length : Int)).toNat) := rfl
     generalize hQ : ob.tmod (L.length : Int) = Qi at *
     have u1 : W .i64 Qi = Qi := W_fit (by omega)
     obtain ⟨qn, hqn⟩ : ∃ qn : Nat, Qi.toNat = qn := ⟨_, rfl⟩
     rw [hqn] at hgo
     have hql : qn < L.length := by omega
     have hqi : Qi = (qn : Int) := by omega
     have hqle : qn ≤ L.length := by omega
     have hql2 : Qi ≤ (L.length : Int) := by omega
     have hql3 : Qi + 1 ≤ (L.length : Int) := by omega
     have hq3 : 0 ≤ Qi + 1 := by omega
     have hwq : W .i64 (Qi + 1) = Qi + 1 := W_small (by omega)
     have hqn1 : (Qi + 1).toNat = qn + 1 := by omega
     have hLq : L.getD qn 0 = L[qn] := by rw [List.getD_eq_getElem?_getD, List.getElem?_eq_getElem hql]; rfl
     rw [hLq] at hgo
     have hLg : (L.map rI)[qn]? = some [I L[qn]] := by rw [List.getElem?_map, List.getElem?_eq_getElem hql]; rfl
     generalize hLv : L[qn] = lv at *
     have hLr : ((L.map rI).all fun r => r.length == 1) = true := by simp [rI]
     have hLlen : (L.map rI).length = L.length := by simp
     have her : L.eraseIdx qn = L.take qn ++ L.drop (qn + 1) := List.eraseIdx_eq_take_drop_succ L qn
     have hnx2 : [lv] ++ ordGo ((W_.o.take n).drop (k2 + 1)) (L.eraseIdx qn) = ordW W_.o n := by
      have e : ordW W_.o n = ordGo ((W_.o.take n).drop k2) L := by rw [hkz2, hL0]; rfl
      rw [e, hdr, hgo]; rfl
     have HH2 := zA ccl (zA clen (zA hi20 (zA htn2 (zA hi26 (zA hwi2 (zA hco (zA hLz (zA hLzi (zA hLzb (zA hLm (zA u0 (zA u1 (zA hQ (zA hqn (zA hq1 (zA hq2 (zA hql (zA hqle (zA hql2 (zA hql3 (zA hq3 (zA hwq (zA hqn1 (zA hLg (zA hLv hLlen)))))))))))))))))))))))))
     refine zK ?_
     simp only [zT, zB]
     refine zS ?_
     refine zL ?_
     refine zS ?_
     refine zR (zO (by simp [↓crb, ↓cst, ↓hLr, zI, -List.map_take, -List.map_drop, -List.length_map, -List.getElem?_map, evOpt, sliceA, bounds, hiB, bound, HH2]; rfl) ?_)
     simp only [zT, zB]
     refine zS ?_
     refine zR (zO (by simp [↓crb, ↓cst, ↓hLr, zI, -List.map_take, -List.map_drop, -List.length_map, -List.getElem?_map, evOpt, sliceA, bounds, hiB, bound, HH2]; rfl) ?_)
     simp only [zT, zB]
     obtain ⟨fu, cv, ch, hcall, hc0, hc1⟩ := a18h P T h18 [some (.row 26 [cells]), none, none, none, some (.row 1 (L.map rI)), some (.row 1 []), some (.row 1 [[I lv]]), some (.row 1 [[I lv]]), none, none, none, none, none, none, none, none, none, none] 4 qn (tL && (qn == L.length)) L rfl hqle (by omega)
     by_cases hz : qn = 0
     ·by_cases he : qn + 1 = L.length
      ·obtain ⟨rfl, rfl⟩ := hc0 hz
       clear hc1
       have hdl : ((L.map rI).drop (qn + 1)).take (L.length - (qn + 1)) = (L.drop (qn + 1)).map rI := by rw [List.map_drop]; exact List.take_of_length_le (by simp)
       have hdl2 : (L.map rI).drop (qn + 1) = (L.drop (qn + 1)).map rI := by rw [List.map_drop]
       have l1 : (L.take qn).length = qn := by rw [List.length_take]; omega
       have l2 : (L.drop (qn + 1)).length = L.length - (qn + 1) := by rw [List.length_drop]
       have hs1 : qn + 1 + (L.length - (qn + 1)) = L.length := by omega
       have hs2 : qn + 1 + (L.length - (qn + 1)) ≤ L.length := by omega
       generalize L.take qn = T1 at *
       generalize L.drop (qn + 1) = T2 at *
       subst hz
       obtain rfl : T1 = [] := List.eq_nil_of_length_eq_zero l1
       simp only [List.nil_append] at her
       simp only [Nat.zero_add] at hdl hdl2 l2 hs1 hs2
       obtain rfl : T2 = [] := List.eq_nil_of_length_eq_zero (by omega)
       have hls : L.length - 1 = 0 := by omega
       have hls3 : 1 ≤ L.length := by omega
       refine runs_drwN fu (by simp (maxSteps := 3000000) [↓crb, ↓cst, ↓hLr, zI, -List.map_take, -List.map_drop, -List.length_map, -List.getElem?_map, evOpt, sliceA, bounds, hiB, bound, HH2, hcall, h18, ↓o18, ↓f18, ↓heB, ↓eqB_rI, ↓hdl, ↓hdl2, hs1, hs2, hls, hls3]; rfl) ?_
       simp only [zT, zB]
       refine zR (zO (by simp [↓crb, ↓cst, ↓hLr, zI, -List.map_take, -List.map_drop, -List.length_map, -List.getElem?_map, evOpt, sliceA, bounds, hiB, bound, HH2, hcall, h18, ↓o18, ↓f18, ↓heB, ↓eqB_rI, ↓hdl, ↓hdl2, hs1, hs2, hls, hls3]; rfl) ?_)
       simp only [zT, zB]
       have hEl : (L.eraseIdx 0).length = 0 := by rw [her]; simp [l1]
       have hEn : (L.eraseIdx 0).length = n - (k2 + 1) := by rw [hEl]; omega
       rw [her] at hnx2 hEl hEn
       exact ⟨n - (k2 + 1), _, _, by omega, by simp [↓crb, ↓cst, ↓hLr, zI, -List.map_take, -List.map_drop, -List.length_map, -List.getElem?_map, evOpt, sliceA, bounds, hiB, bound, HH2, hcall, h18, ↓o18, ↓f18, ↓heB, ↓eqB_rI, ↓hdl, ↓hdl2, hs1, hs2, hls, hls3, l1, hEl] <;> rfl, k2 + 1, i2 + 1, ([] : List Int), true, by omega, rfl, by omega, hEn, .inr ⟨0, [lv], by omega, hnx2, rfl, rfl⟩⟩
      ·obtain ⟨rfl, rfl⟩ := hc0 hz
       clear hc1
       have hdl : ((L.map rI).drop (qn + 1)).take (L.length - (qn + 1)) = (L.drop (qn + 1)).map rI := by rw [List.map_drop]; exact List.take_of_length_le (by simp)
       have hdl2 : (L.map rI).drop (qn + 1) = (L.drop (qn + 1)).map rI := by rw [List.map_drop]
       have l1 : (L.take qn).length = qn := by rw [List.length_take]; omega
       have l2 : (L.drop (qn + 1)).length = L.length - (qn + 1) := by rw [List.length_drop]
       have hs1 : qn + 1 + (L.length - (qn + 1)) = L.length := by omega
       have hs2 : qn + 1 + (L.length - (qn + 1)) ≤ L.length := by omega
       generalize L.take qn = T1 at *
       generalize L.drop (qn + 1) = T2 at *
       subst hz
       obtain rfl : T1 = [] := List.eq_nil_of_length_eq_zero l1
       simp only [List.nil_append] at her
       simp only [Nat.zero_add] at hdl hdl2 l2 hs1 hs2
       obtain ⟨b2, T3, rfl⟩ : ∃ b2 T3, T2 = b2 :: T3 := by
        cases T2 with
        | nil => simp at l2; omega
        | cons a l => exact ⟨a, l, rfl⟩
       simp only [List.length_cons] at l2
       have hls : L.length - (1) = T3.length + 1 := by omega
       have t3 : T3.length + 1 ≤ 1048576 := by omega
       have t3b : 0 + (T3.length + 1) ≤ 1048576 := by omega
       have t3a : ((T3.map rI).all fun r => r.length == 1) = true := by simp [rI]
       have t3r := fun n => rI_rb n 4 T3
       have t3l : (T3.map rI).length = T3.length := by simp
       have hls3 : 1 + (T3.length + 1) ≤ L.length := by omega
       have tk3 : (T3.map rI).take T3.length = T3.map rI := List.take_of_length_le (by simp)
       refine runs_drwN fu (by simp (maxSteps := 3000000) [↓crb, ↓cst, ↓hLr, zI, -List.map_take, -List.map_drop, -List.length_map, -List.getElem?_map, evOpt, sliceA, bounds, hiB, bound, HH2, hcall, h18, ↓o18, ↓f18, ↓heB, ↓eqB_rI, ↓hdl, ↓hdl2, hs1, hs2, hls, hls3, t3, t3b, ↓t3a, ↓t3r, t3l, tk3]; rfl) ?_
       simp only [zT, zB]
       refine zR (zO (by simp [↓crb, ↓cst, ↓hLr, zI, -List.map_take, -List.map_drop, -List.length_map, -List.getElem?_map, evOpt, sliceA, bounds, hiB, bound, HH2, hcall, h18, ↓o18, ↓f18, ↓heB, ↓eqB_rI, ↓hdl, ↓hdl2, hs1, hs2, hls, hls3, t3, t3b, ↓t3a, ↓t3r, t3l, tk3]; rfl) ?_)
       simp only [zT, zB]
       have hEl : (L.eraseIdx 0).length = T3.length + 1 := by rw [her]; simp [l1]
       have hEn : (L.eraseIdx 0).length = n - (k2 + 1) := by rw [hEl]; omega
       rw [her] at hnx2 hEl hEn
       exact ⟨n - (k2 + 1), _, _, by omega, by simp [↓crb, ↓cst, ↓hLr, zI, -List.map_take, -List.map_drop, -List.length_map, -List.getElem?_map, evOpt, sliceA, bounds, hiB, bound, HH2, hcall, h18, ↓o18, ↓f18, ↓heB, ↓eqB_rI, ↓hdl, ↓hdl2, hs1, hs2, hls, hls3, t3, t3b, ↓t3a, ↓t3r, t3l, tk3, l1, hEl] <;> rfl, k2 + 1, i2 + 1, (b2 :: T3), false, by omega, rfl, by omega, hEn, .inr ⟨0, [lv], by omega, hnx2, rfl, rfl⟩⟩
     ·by_cases he : qn + 1 = L.length
      ·obtain ⟨rfl, rfl⟩ := hc1 (by omega)
       clear hc0
       have hdl : ((L.map rI).drop (qn + 1)).take (L.length - (qn + 1)) = (L.drop (qn + 1)).map rI := by rw [List.map_drop]; exact List.take_of_length_le (by simp)
       have hdl2 : (L.map rI).drop (qn + 1) = (L.drop (qn + 1)).map rI := by rw [List.map_drop]
       have l1 : (L.take qn).length = qn := by rw [List.length_take]; omega
       have l2 : (L.drop (qn + 1)).length = L.length - (qn + 1) := by rw [List.length_drop]
       have hs1 : qn + 1 + (L.length - (qn + 1)) = L.length := by omega
       have hs2 : qn + 1 + (L.length - (qn + 1)) ≤ L.length := by omega
       generalize L.take qn = T1 at *
       generalize L.drop (qn + 1) = T2 at *
       have tkq : (T1.map rI).take qn = T1.map rI := List.take_of_length_le (by simp [l1])
       have hq0 : ¬ qn = 0 := hz
       have t1l : (T1.map rI).length = qn := by simp [l1]
       have t1a : ((T1.map rI).all fun r => r.length == 1) = true := by simp [rI]
       have t1n : T1.map rI ≠ [] := by intro e; rw [e] at t1l; simp at t1l; omega
       have t1r := fun n => rI_rb n 4 T1
       obtain rfl : T2 = [] := List.eq_nil_of_length_eq_zero (by omega)
       simp only [List.append_nil] at her
       have hls : L.length - (qn + 1) = 0 := by omega
       have hls3 : qn + 1 ≤ L.length := by omega
       refine runs_drwN fu (by simp (maxSteps := 3000000) [↓crb, ↓cst, ↓hLr, zI, -List.map_take, -List.map_drop, -List.length_map, -List.getElem?_map, evOpt, sliceA, bounds, hiB, bound, HH2, hcall, h18, ↓o18, ↓f18, ↓heB, ↓eqB_rI, ↓hdl, ↓hdl2, hs1, hs2, hls, hls3, tkq, hq0, t1l, ↓t1a, t1n, ↓t1r]; rfl) ?_
       simp only [zT, zB]
       refine zR (zO (by simp [↓crb, ↓cst, ↓hLr, zI, -List.map_take, -List.map_drop, -List.length_map, -List.getElem?_map, evOpt, sliceA, bounds, hiB, bound, HH2, hcall, h18, ↓o18, ↓f18, ↓heB, ↓eqB_rI, ↓hdl, ↓hdl2, hs1, hs2, hls, hls3, tkq, hq0, t1l, ↓t1a, t1n, ↓t1r]; rfl) ?_)
       simp only [zT, zB]
       have hEl : (L.eraseIdx qn).length = qn := by rw [her]; simp [l1]
       have hEn : (L.eraseIdx qn).length = n - (k2 + 1) := by rw [hEl]; omega
       rw [her] at hnx2 hEl hEn
       exact ⟨n - (k2 + 1), _, _, by omega, by simp [↓crb, ↓cst, ↓hLr, zI, -List.map_take, -List.map_drop, -List.length_map, -List.getElem?_map, evOpt, sliceA, bounds, hiB, bound, HH2, hcall, h18, ↓o18, ↓f18, ↓heB, ↓eqB_rI, ↓hdl, ↓hdl2, hs1, hs2, hls, hls3, tkq, hq0, t1l, ↓t1a, t1n, ↓t1r, l1, hEl] <;> rfl, k2 + 1, i2 + 1, T1, false, by omega, rfl, by omega, hEn, .inr ⟨0, [lv], by omega, hnx2, rfl, rfl⟩⟩
      ·obtain ⟨rfl, rfl⟩ := hc1 (by omega)
       clear hc0
       have hdl : ((L.map rI).drop (qn + 1)).take (L.length - (qn + 1)) = (L.drop (qn + 1)).map rI := by rw [List.map_drop]; exact List.take_of_length_le (by simp)
       have hdl2 : (L.map rI).drop (qn + 1) = (L.drop (qn + 1)).map rI := by rw [List.map_drop]
       have l1 : (L.take qn).length = qn := by rw [List.length_take]; omega
       have l2 : (L.drop (qn + 1)).length = L.length - (qn + 1) := by rw [List.length_drop]
       have hs1 : qn + 1 + (L.length - (qn + 1)) = L.length := by omega
       have hs2 : qn + 1 + (L.length - (qn + 1)) ≤ L.length := by omega
       generalize L.take qn = T1 at *
       generalize L.drop (qn + 1) = T2 at *
       have tkq : (T1.map rI).take qn = T1.map rI := List.take_of_length_le (by simp [l1])
       have hq0 : ¬ qn = 0 := hz
       have t1l : (T1.map rI).length = qn := by simp [l1]
       have t1a : ((T1.map rI).all fun r => r.length == 1) = true := by simp [rI]
       have t1n : T1.map rI ≠ [] := by intro e; rw [e] at t1l; simp at t1l; omega
       have t1r := fun n => rI_rb n 4 T1
       obtain ⟨b2, T3, rfl⟩ : ∃ b2 T3, T2 = b2 :: T3 := by
        cases T2 with
        | nil => simp at l2; omega
        | cons a l => exact ⟨a, l, rfl⟩
       simp only [List.length_cons] at l2
       have hls : L.length - (qn + 1) = T3.length + 1 := by omega
       have t3 : T3.length + 1 ≤ 1048576 := by omega
       have t3b : qn + (T3.length + 1) ≤ 1048576 := by omega
       have t3a : ((T3.map rI).all fun r => r.length == 1) = true := by simp [rI]
       have t3r := fun n => rI_rb n 4 T3
       have t3l : (T3.map rI).length = T3.length := by simp
       have hls3 : qn + 1 + (T3.length + 1) ≤ L.length := by omega
       have tk3 : (T3.map rI).take T3.length = T3.map rI := List.take_of_length_le (by simp)
       refine runs_drwN fu (by simp (maxSteps := 3000000) [↓crb, ↓cst, ↓hLr, zI, -List.map_take, -List.map_drop, -List.length_map, -List.getElem?_map, evOpt, sliceA, bounds, hiB, bound, HH2, hcall, h18, ↓o18, ↓f18, ↓heB, ↓eqB_rI, ↓hdl, ↓hdl2, hs1, hs2, hls, hls3, tkq, hq0, t1l, ↓t1a, t1n, ↓t1r, t3, t3b, ↓t3a, ↓t3r, t3l, tk3]; rfl) ?_
       simp only [zT, zB]
       refine zR (zO (by simp [↓crb, ↓cst, ↓hLr, zI, -List.map_take, -List.map_drop, -List.length_map, -List.getElem?_map, evOpt, sliceA, bounds, hiB, bound, HH2, hcall, h18, ↓o18, ↓f18, ↓heB, ↓eqB_rI, ↓hdl, ↓hdl2, hs1, hs2, hls, hls3, tkq, hq0, t1l, ↓t1a, t1n, ↓t1r, t3, t3b, ↓t3a, ↓t3r, t3l, tk3]; rfl) ?_)
       simp only [zT, zB]
       have hEl : (L.eraseIdx qn).length = qn + (T3.length + 1) := by rw [her]; simp [l1]
       have hEn : (L.eraseIdx qn).length = n - (k2 + 1) := by rw [hEl]; omega
       rw [her] at hnx2 hEl hEn
       exact ⟨n - (k2 + 1), _, _, by omega, by simp [↓crb, ↓cst, ↓hLr, zI, -List.map_take, -List.map_drop, -List.length_map, -List.getElem?_map, evOpt, sliceA, bounds, hiB, bound, HH2, hcall, h18, ↓o18, ↓f18, ↓heB, ↓eqB_rI, ↓hdl, ↓hdl2, hs1, hs2, hls, hls3, tkq, hq0, t1l, ↓t1a, t1n, ↓t1r, t3, t3b, ↓t3a, ↓t3r, t3l, tk3, l1, hEl] <;> rfl, k2 + 1, i2 + 1, (T1 ++ b2 :: T3), false, by omega, rfl, by omega, hEn, .inr ⟨0, [lv], by omega, hnx2, rfl, rfl⟩⟩
    ·have hx2 := of_decide_eq_false hlt2
     have hkE2 : k2 = n := by omega
     have hn0 : n = 0 := by omega
     have hoe : ordW W_.o n = [] := by rw [hn0]; rfl
     rw [hoe]
     refine runs_exit ?_
     simp only [zT, zB, if_true, if_false, reduceIte, Nat.reduceEqDiff, Nat.succ_ne_zero, Nat.one_ne_zero, Nat.zero_ne_one]
     refine zS ?_
     refine zR (zO (by simp [↓crb, ↓cst, ccl, clen]; rfl) ?_)
     simp only [zT, zB]
     refine runs_ret ?_
     simp [↓crb, ↓cst, ccl, clen, trim, encE]
   ·have tk2 : (ac2.map rI).take (p2 + 1) = ac2.map rI := List.take_of_length_le (by simp [hacl2])
    have hlac2 : p2 + 1 + 1 ≤ 1048576 := by omega
    have hr32 : ∀ e : Int, (rI e).length = 1 := fun _ => rfl
    have hrj2 := fun n => rI_rb n 4 ac2
    have hal2 : (ac2.map rI).length = p2 + 1 := by rw [List.length_map, hacl2]
    have HH3 := zA ccl (zA clen (zA tk2 (zA hal2 (zA hlac2 (zA hacl2 hr32)))))
    refine zS ?_
    refine zS ?_
    refine zR (zO (by simp [↓crb, ↓cst, ↓hrj2, HH3]; rfl) ?_)
    simp only [zT, zB]
    refine runs_cond_split (x := _) rfl (fun hlt2 => ?_) (fun hlt2 => ?_)
    ·have hltt2 := of_decide_eq_true hlt2
     have hk2n : k2 < n := by omega
     have hi20 : 0 ≤ i2 := by omega
     have htn2 : i2.toNat = k2 := by omega
     have hi26 : i2 < 6 := by omega
     have hwi2 : W .i64 (i2 + 1) = i2 + 1 := W_small (by omega)
     have hco := co k2 (by omega)
     have hob := mins_fit (k := k2) bo.2
     have hdr : (W_.o.take n).drop k2 = W_.o.getD k2 0 :: (W_.o.take n).drop (k2 + 1) := by
      rw [List.drop_eq_getElem_cons (by rw [List.length_take, bo.1]; omega), List.getElem_take, List.getD_eq_getElem?_getD, List.getElem?_eq_getElem (by rw [bo.1]; omega)]; rfl
     generalize W_.o.getD k2 0 = ob at *
     obtain ⟨ob1, ob2⟩ := hob
     have hLp : (0 : Int) < (L.length : Int) := by omega
     have hLz : ¬ L.length = 0 := by omega
     have hLzi : ¬ (L.length : Int) = 0 := by omega
     have hLzb : ((L.length : Int) == 0) = false := by rw [beq_eq_false_iff_ne]; exact hLzi
     have hLm : ¬ ((L.length : Int) = -1) := by omega
     have hq1 := Int.tmod_nonneg (L.length : Int) ob1
     have hq2 := Int.tmod_lt_of_pos ob hLp
     have u0 : W .i64 ob = ob := W_fit (by omega)
     have hL6 : L.length ≤ 6 := by omega
     have hgo : ordGo (ob :: (W_.o.take n).drop (k2 + 1)) L = L.getD (ob.tmod (L.length : Int)).toNat 0 :: ordGo ((W_.o.take n).drop (k2 + 1)) (L.eraseIdx (ob.tmod (L.length : Int)).toNat) := rfl
     generalize hQ : ob.tmod (L.length : Int) = Qi at *
     have u1 : W .i64 Qi = Qi := W_fit (by omega)
     obtain ⟨qn, hqn⟩ : ∃ qn : Nat, Qi.toNat = qn := ⟨_, rfl⟩
     rw [hqn] at hgo
     have hql : qn < L.length := by omega
     have hqi : Qi = (qn : Int) := by omega
     have hqle : qn ≤ L.length := by omega
     have hql2 : Qi ≤ (L.length : Int) := by omega
     have hql3 : Qi + 1 ≤ (L.length : Int) := by omega
     have hq3 : 0 ≤ Qi + 1 := by omega
     have hwq : W .i64 (Qi + 1) = Qi + 1 := W_small (by omega)
     have hqn1 : (Qi + 1).toNat = qn + 1 := by omega
     have hLq : L.getD qn 0 = L[qn] := by rw [List.getD_eq_getElem?_getD, List.getElem?_eq_getElem hql]; rfl
     rw [hLq] at hgo
     have hLg : (L.map rI)[qn]? = some [I L[qn]] := by rw [List.getElem?_map, List.getElem?_eq_getElem hql]; rfl
     generalize hLv : L[qn] = lv at *
     have hLr : ((L.map rI).all fun r => r.length == 1) = true := by simp [rI]
     have hLlen : (L.map rI).length = L.length := by simp
     have her : L.eraseIdx qn = L.take qn ++ L.drop (qn + 1) := List.eraseIdx_eq_take_drop_succ L qn
     rw [hdr, hgo] at hac2
     have hnx2 : (ac2 ++ [lv]) ++ ordGo ((W_.o.take n).drop (k2 + 1)) (L.eraseIdx qn) = ordW W_.o n := by rw [← hac2, List.append_assoc]; rfl
     have hnl2 : (ac2 ++ [lv]).length = p2 + 1 + 1 := by simp [hacl2]
     have hap2 : ac2.map rI ++ [[I lv]] = (ac2 ++ [lv]).map rI := by rw [List.map_append]; rfl
     generalize ac2 ++ [lv] = nx2 at *
     have hrx2 := fun n => rI_rb n 4 nx2
     have HH4 := zA hi20 (zA htn2 (zA hi26 (zA hwi2 (zA hco (zA hLz (zA hLzi (zA hLzb (zA hLm (zA u0 (zA u1 (zA hQ (zA hqn (zA hq1 (zA hq2 (zA hql (zA hqle (zA hql2 (zA hql3 (zA hq3 (zA hwq (zA hqn1 (zA hLg (zA hLv (zA hLlen hap2))))))))))))))))))))))))
     have HH5 := zA crb (zA cst (zA hrj2 (zA hLr hrx2)))
     refine zK ?_
     simp only [zT, zB]
     refine zS ?_
     refine zL ?_
     refine zS ?_
     refine zR (zO (by simp [HH3, zI, -List.map_take, -List.map_drop, -List.length_map, -List.getElem?_map, evOpt, sliceA, bounds, hiB, bound, HH4, ↓HH5]; rfl) ?_)
     simp only [zT, zB]
     refine zS ?_
     refine zR (zO (by simp [HH3, zI, -List.map_take, -List.map_drop, -List.length_map, -List.getElem?_map, evOpt, sliceA, bounds, hiB, bound, HH4, ↓HH5]; rfl) ?_)
     simp only [zT, zB]
     obtain ⟨fu, cv, ch, hcall, hc0, hc1⟩ := a18h P T h18 [some (.row 26 [cells]), none, none, none, some (.row 1 (L.map rI)), none, some (.row 1 [[I lv]]), some (.row 1 (nx2.map rI)), none, none, none, none, none, none, none, none, none, none] 4 qn (tL && (qn == L.length)) L rfl hqle (by omega)
     by_cases hz : qn = 0
     ·by_cases he : qn + 1 = L.length
      ·obtain ⟨rfl, rfl⟩ := hc0 hz
       clear hc1
       have hdl : ((L.map rI).drop (qn + 1)).take (L.length - (qn + 1)) = (L.drop (qn + 1)).map rI := by rw [List.map_drop]; exact List.take_of_length_le (by simp)
       have hdl2 : (L.map rI).drop (qn + 1) = (L.drop (qn + 1)).map rI := by rw [List.map_drop]
       have l1 : (L.take qn).length = qn := by rw [List.length_take]; omega
       have l2 : (L.drop (qn + 1)).length = L.length - (qn + 1) := by rw [List.length_drop]
       have hs1 : qn + 1 + (L.length - (qn + 1)) = L.length := by omega
       have hs2 : qn + 1 + (L.length - (qn + 1)) ≤ L.length := by omega
       generalize L.take qn = T1 at *
       generalize L.drop (qn + 1) = T2 at *
       subst hz
       obtain rfl : T1 = [] := List.eq_nil_of_length_eq_zero l1
       simp only [List.nil_append] at her
       simp only [Nat.zero_add] at hdl hdl2 l2 hs1 hs2
       obtain rfl : T2 = [] := List.eq_nil_of_length_eq_zero (by omega)
       have hls : L.length - 1 = 0 := by omega
       have hls3 : 1 ≤ L.length := by omega
       refine runs_drwN fu (by simp (maxSteps := 3000000) [HH3, zI, -List.map_take, -List.map_drop, -List.length_map, -List.getElem?_map, evOpt, sliceA, bounds, hiB, bound, HH4, ↓HH5, hcall, h18, ↓o18, ↓f18, ↓heB, ↓eqB_rI, ↓hdl, ↓hdl2, hs1, hs2, hls, hls3]; rfl) ?_
       simp only [zT, zB]
       refine zR (zO (by simp [HH3, zI, -List.map_take, -List.map_drop, -List.length_map, -List.getElem?_map, evOpt, sliceA, bounds, hiB, bound, HH4, ↓HH5, hcall, h18, ↓o18, ↓f18, ↓heB, ↓eqB_rI, ↓hdl, ↓hdl2, hs1, hs2, hls, hls3]; rfl) ?_)
       simp only [zT, zB]
       have hEl : (L.eraseIdx 0).length = 0 := by rw [her]; simp [l1]
       have hEn : (L.eraseIdx 0).length = n - (k2 + 1) := by rw [hEl]; omega
       rw [her] at hnx2 hEl hEn
       exact ⟨n - (k2 + 1), _, _, by omega, by simp [HH3, zI, -List.map_take, -List.map_drop, -List.length_map, -List.getElem?_map, evOpt, sliceA, bounds, hiB, bound, HH4, ↓HH5, hcall, h18, ↓o18, ↓f18, ↓heB, ↓eqB_rI, ↓hdl, ↓hdl2, hs1, hs2, hls, hls3, l1, hEl] <;> rfl, k2 + 1, i2 + 1, ([] : List Int), true, by omega, rfl, by omega, hEn, .inr ⟨p2 + 1, nx2, by omega, hnx2, hnl2, rfl⟩⟩
      ·obtain ⟨rfl, rfl⟩ := hc0 hz
       clear hc1
       have hdl : ((L.map rI).drop (qn + 1)).take (L.length - (qn + 1)) = (L.drop (qn + 1)).map rI := by rw [List.map_drop]; exact List.take_of_length_le (by simp)
       have hdl2 : (L.map rI).drop (qn + 1) = (L.drop (qn + 1)).map rI := by rw [List.map_drop]
       have l1 : (L.take qn).length = qn := by rw [List.length_take]; omega
       have l2 : (L.drop (qn + 1)).length = L.length - (qn + 1) := by rw [List.length_drop]
       have hs1 : qn + 1 + (L.length - (qn + 1)) = L.length := by omega
       have hs2 : qn + 1 + (L.length - (qn + 1)) ≤ L.length := by omega
       generalize L.take qn = T1 at *
       generalize L.drop (qn + 1) = T2 at *
       subst hz
       obtain rfl : T1 = [] := List.eq_nil_of_length_eq_zero l1
       simp only [List.nil_append] at her
       simp only [Nat.zero_add] at hdl hdl2 l2 hs1 hs2
       obtain ⟨b2, T3, rfl⟩ : ∃ b2 T3, T2 = b2 :: T3 := by
        cases T2 with
        | nil => simp at l2; omega
        | cons a l => exact ⟨a, l, rfl⟩
       simp only [List.length_cons] at l2
       have hls : L.length - (1) = T3.length + 1 := by omega
       have t3 : T3.length + 1 ≤ 1048576 := by omega
       have t3b : 0 + (T3.length + 1) ≤ 1048576 := by omega
       have t3a : ((T3.map rI).all fun r => r.length == 1) = true := by simp [rI]
       have t3r := fun n => rI_rb n 4 T3
       have t3l : (T3.map rI).length = T3.length := by simp
       have hls3 : 1 + (T3.length + 1) ≤ L.length := by omega
       have tk3 : (T3.map rI).take T3.length = T3.map rI := List.take_of_length_le (by simp)
       refine runs_drwN fu (by simp (maxSteps := 3000000) [HH3, zI, -List.map_take, -List.map_drop, -List.length_map, -List.getElem?_map, evOpt, sliceA, bounds, hiB, bound, HH4, ↓HH5, hcall, h18, ↓o18, ↓f18, ↓heB, ↓eqB_rI, ↓hdl, ↓hdl2, hs1, hs2, hls, hls3, t3, t3b, ↓t3a, ↓t3r, t3l, tk3]; rfl) ?_
       simp only [zT, zB]
       refine zR (zO (by simp [HH3, zI, -List.map_take, -List.map_drop, -List.length_map, -List.getElem?_map, evOpt, sliceA, bounds, hiB, bound, HH4, ↓HH5, hcall, h18, ↓o18, ↓f18, ↓heB, ↓eqB_rI, ↓hdl, ↓hdl2, hs1, hs2, hls, hls3, t3, t3b, ↓t3a, ↓t3r, t3l, tk3]; rfl) ?_)
       simp only [zT, zB]
       have hEl : (L.eraseIdx 0).length = T3.length + 1 := by rw [her]; simp [l1]
       have hEn : (L.eraseIdx 0).length = n - (k2 + 1) := by rw [hEl]; omega
       rw [her] at hnx2 hEl hEn
       exact ⟨n - (k2 + 1), _, _, by omega, by simp [HH3, zI, -List.map_take, -List.map_drop, -List.length_map, -List.getElem?_map, evOpt, sliceA, bounds, hiB, bound, HH4, ↓HH5, hcall, h18, ↓o18, ↓f18, ↓heB, ↓eqB_rI, ↓hdl, ↓hdl2, hs1, hs2, hls, hls3, t3, t3b, ↓t3a, ↓t3r, t3l, tk3, l1, hEl] <;> rfl, k2 + 1, i2 + 1, (b2 :: T3), false, by omega, rfl, by omega, hEn, .inr ⟨p2 + 1, nx2, by omega, hnx2, hnl2, rfl⟩⟩
     ·by_cases he : qn + 1 = L.length
      ·obtain ⟨rfl, rfl⟩ := hc1 (by omega)
       clear hc0
       have hdl : ((L.map rI).drop (qn + 1)).take (L.length - (qn + 1)) = (L.drop (qn + 1)).map rI := by rw [List.map_drop]; exact List.take_of_length_le (by simp)
       have hdl2 : (L.map rI).drop (qn + 1) = (L.drop (qn + 1)).map rI := by rw [List.map_drop]
       have l1 : (L.take qn).length = qn := by rw [List.length_take]; omega
       have l2 : (L.drop (qn + 1)).length = L.length - (qn + 1) := by rw [List.length_drop]
       have hs1 : qn + 1 + (L.length - (qn + 1)) = L.length := by omega
       have hs2 : qn + 1 + (L.length - (qn + 1)) ≤ L.length := by omega
       generalize L.take qn = T1 at *
       generalize L.drop (qn + 1) = T2 at *
       have tkq : (T1.map rI).take qn = T1.map rI := List.take_of_length_le (by simp [l1])
       have hq0 : ¬ qn = 0 := hz
       have t1l : (T1.map rI).length = qn := by simp [l1]
       have t1a : ((T1.map rI).all fun r => r.length == 1) = true := by simp [rI]
       have t1n : T1.map rI ≠ [] := by intro e; rw [e] at t1l; simp at t1l; omega
       have t1r := fun n => rI_rb n 4 T1
       obtain rfl : T2 = [] := List.eq_nil_of_length_eq_zero (by omega)
       simp only [List.append_nil] at her
       have hls : L.length - (qn + 1) = 0 := by omega
       have hls3 : qn + 1 ≤ L.length := by omega
       refine runs_drwN fu (by simp (maxSteps := 3000000) [HH3, zI, -List.map_take, -List.map_drop, -List.length_map, -List.getElem?_map, evOpt, sliceA, bounds, hiB, bound, HH4, ↓HH5, hcall, h18, ↓o18, ↓f18, ↓heB, ↓eqB_rI, ↓hdl, ↓hdl2, hs1, hs2, hls, hls3, tkq, hq0, t1l, ↓t1a, t1n, ↓t1r]; rfl) ?_
       simp only [zT, zB]
       refine zR (zO (by simp [HH3, zI, -List.map_take, -List.map_drop, -List.length_map, -List.getElem?_map, evOpt, sliceA, bounds, hiB, bound, HH4, ↓HH5, hcall, h18, ↓o18, ↓f18, ↓heB, ↓eqB_rI, ↓hdl, ↓hdl2, hs1, hs2, hls, hls3, tkq, hq0, t1l, ↓t1a, t1n, ↓t1r]; rfl) ?_)
       simp only [zT, zB]
       have hEl : (L.eraseIdx qn).length = qn := by rw [her]; simp [l1]
       have hEn : (L.eraseIdx qn).length = n - (k2 + 1) := by rw [hEl]; omega
       rw [her] at hnx2 hEl hEn
       exact ⟨n - (k2 + 1), _, _, by omega, by simp [HH3, zI, -List.map_take, -List.map_drop, -List.length_map, -List.getElem?_map, evOpt, sliceA, bounds, hiB, bound, HH4, ↓HH5, hcall, h18, ↓o18, ↓f18, ↓heB, ↓eqB_rI, ↓hdl, ↓hdl2, hs1, hs2, hls, hls3, tkq, hq0, t1l, ↓t1a, t1n, ↓t1r, l1, hEl] <;> rfl, k2 + 1, i2 + 1, T1, false, by omega, rfl, by omega, hEn, .inr ⟨p2 + 1, nx2, by omega, hnx2, hnl2, rfl⟩⟩
      ·obtain ⟨rfl, rfl⟩ := hc1 (by omega)
       clear hc0
       have hdl : ((L.map rI).drop (qn + 1)).take (L.length - (qn + 1)) = (L.drop (qn + 1)).map rI := by rw [List.map_drop]; exact List.take_of_length_le (by simp)
       have hdl2 : (L.map rI).drop (qn + 1) = (L.drop (qn + 1)).map rI := by rw [List.map_drop]
       have l1 : (L.take qn).length = qn := by rw [List.length_take]; omega
       have l2 : (L.drop (qn + 1)).length = L.length - (qn + 1) := by rw [List.length_drop]
       have hs1 : qn + 1 + (L.length - (qn + 1)) = L.length := by omega
       have hs2 : qn + 1 + (L.length - (qn + 1)) ≤ L.length := by omega
       generalize L.take qn = T1 at *
       generalize L.drop (qn + 1) = T2 at *
       have tkq : (T1.map rI).take qn = T1.map rI := List.take_of_length_le (by simp [l1])
       have hq0 : ¬ qn = 0 := hz
       have t1l : (T1.map rI).length = qn := by simp [l1]
       have t1a : ((T1.map rI).all fun r => r.length == 1) = true := by simp [rI]
       have t1n : T1.map rI ≠ [] := by intro e; rw [e] at t1l; simp at t1l; omega
       have t1r := fun n => rI_rb n 4 T1
       obtain ⟨b2, T3, rfl⟩ : ∃ b2 T3, T2 = b2 :: T3 := by
        cases T2 with
        | nil => simp at l2; omega
        | cons a l => exact ⟨a, l, rfl⟩
       simp only [List.length_cons] at l2
       have hls : L.length - (qn + 1) = T3.length + 1 := by omega
       have t3 : T3.length + 1 ≤ 1048576 := by omega
       have t3b : qn + (T3.length + 1) ≤ 1048576 := by omega
       have t3a : ((T3.map rI).all fun r => r.length == 1) = true := by simp [rI]
       have t3r := fun n => rI_rb n 4 T3
       have t3l : (T3.map rI).length = T3.length := by simp
       have hls3 : qn + 1 + (T3.length + 1) ≤ L.length := by omega
       have tk3 : (T3.map rI).take T3.length = T3.map rI := List.take_of_length_le (by simp)
       refine runs_drwN fu (by simp (maxSteps := 3000000) [HH3, zI, -List.map_take, -List.map_drop, -List.length_map, -List.getElem?_map, evOpt, sliceA, bounds, hiB, bound, HH4, ↓HH5, hcall, h18, ↓o18, ↓f18, ↓heB, ↓eqB_rI, ↓hdl, ↓hdl2, hs1, hs2, hls, hls3, tkq, hq0, t1l, ↓t1a, t1n, ↓t1r, t3, t3b, ↓t3a, ↓t3r, t3l, tk3]; rfl) ?_
       simp only [zT, zB]
       refine zR (zO (by simp [HH3, zI, -List.map_take, -List.map_drop, -List.length_map, -List.getElem?_map, evOpt, sliceA, bounds, hiB, bound, HH4, ↓HH5, hcall, h18, ↓o18, ↓f18, ↓heB, ↓eqB_rI, ↓hdl, ↓hdl2, hs1, hs2, hls, hls3, tkq, hq0, t1l, ↓t1a, t1n, ↓t1r, t3, t3b, ↓t3a, ↓t3r, t3l, tk3]; rfl) ?_)
       simp only [zT, zB]
       have hEl : (L.eraseIdx qn).length = qn + (T3.length + 1) := by rw [her]; simp [l1]
       have hEn : (L.eraseIdx qn).length = n - (k2 + 1) := by rw [hEl]; omega
       rw [her] at hnx2 hEl hEn
       exact ⟨n - (k2 + 1), _, _, by omega, by simp [HH3, zI, -List.map_take, -List.map_drop, -List.length_map, -List.getElem?_map, evOpt, sliceA, bounds, hiB, bound, HH4, ↓HH5, hcall, h18, ↓o18, ↓f18, ↓heB, ↓eqB_rI, ↓hdl, ↓hdl2, hs1, hs2, hls, hls3, tkq, hq0, t1l, ↓t1a, t1n, ↓t1r, t3, t3b, ↓t3a, ↓t3r, t3l, tk3, l1, hEl] <;> rfl, k2 + 1, i2 + 1, (T1 ++ b2 :: T3), false, by omega, rfl, by omega, hEn, .inr ⟨p2 + 1, nx2, by omega, hnx2, hnl2, rfl⟩⟩
    ·have hx2 := of_decide_eq_false hlt2
     have hkE2 : k2 = n := by omega
     have hLe : L = [] := List.eq_nil_of_length_eq_zero (by omega)
     rw [hLe, hkE2, List.drop_of_length_le (by rw [List.length_take, bo.1]; omega)] at hac2
     simp only [ordGo, List.append_nil] at hac2
     rw [← hac2, encE_ne (by intro e; rw [e] at hacl2; simp at hacl2)]
     refine runs_exit ?_
     simp only [zT, zB, if_true, if_false, reduceIte, Nat.reduceEqDiff, Nat.succ_ne_zero, Nat.one_ne_zero, Nat.zero_ne_one]
     refine zS ?_
     refine zR (zO (by simp [↓crb, ↓cst, ↓hrj2, HH3, frz_mapI]; rfl) ?_)
     simp only [zT, zB]
     refine runs_ret ?_
     simp [↓crb, ↓cst, ↓hrj2, HH3, frz_mapI, trim]
 ·have tk1 : (ac1.map rI).take (p1 + 1) = ac1.map rI := List.take_of_length_le (by simp [hacl1])
  have hlac1 : p1 + 1 + 1 ≤ 1048576 := by omega
  have hr31 : ∀ e : Int, (rI e).length = 1 := fun _ => rfl
  have hfr1 := fun n h r => optAll_snoc (frN_rI n h ac1) r
  have hrj1 := fun n => rI_rb n 4 ac1
  have HH6 := zA ccl (zA clen (zA tk1 (zA hlac1 (zA hacl1 hr31))))
  refine zS ?_
  refine zS ?_
  refine zR (zO (by simp [↓crb, ↓cst, ↓hfr1, ↓hrj1, HH6]; rfl) ?_)
  simp only [zT, zB]
  refine runs_cond_split (x := _) rfl (fun hlt1 => ?_) (fun hlt1 => ?_)
  ·have hltt1 := of_decide_eq_true hlt1
   have hk01 : k1 < n := by omega
   have hi01 : 0 ≤ i1 := by omega
   have htn1 : i1.toNat = k1 := by omega
   have hwi1 : W .i64 (i1 + 1) = i1 + 1 := W_small (by omega)
   have hF1 : upTo (k1 + 1) = upTo k1 ++ [i1] := by rw [upTo_succ, hik1]
   have hnx1 : ac1 ++ [i1] = upTo (k1 + 1) := by rw [hF1, ← hac1]
   have hnl1 : (ac1 ++ [i1]).length = p1 + 1 + 1 := by simp [hacl1]
   have hap1 : ac1.map rI ++ [[I i1]] = (ac1 ++ [i1]).map rI := by rw [List.map_append]; rfl
   generalize ac1 ++ [i1] = nx1 at *
   have hrx1 := fun n => rI_rb n 4 nx1
   have HH7 := zA hi01 (zA htn1 (zA hk01 (zA hwi1 hap1)))
   have HH8 := zA crb (zA cst (zA hfr1 (zA hrj1 hrx1)))
   refine zK ?_
   simp only [zT, zB]
   refine zS ?_
   refine zL ?_
   refine zR (zO (by simp [HH6, zI, HH7, ↓HH8]; rfl) ?_)
   simp only [zT, zB]
   refine zR (zO (by simp [HH6, zI, HH7, ↓HH8]; rfl) ?_)
   simp only [zT, zB]
   exact ⟨n - (k1 + 1), _, _, by omega, by simp [HH6, zI, HH7, ↓HH8] <;> first | exact ⟨rfl, rfl⟩ | rfl, k1 + 1, i1 + 1, by omega, rfl, by omega, .inr ⟨p1 + 1, nx1, by omega, hnx1, hnl1, rfl⟩⟩
  ·have hx1 := of_decide_eq_false hlt1
   have hkE1 : k1 = n := by omega
   rw [hkE1] at hac1
   refine runs_exit ?_
   simp only [zT, zB, if_true, if_false, reduceIte, Nat.reduceEqDiff, Nat.succ_ne_zero, Nat.one_ne_zero, Nat.zero_ne_one]
   refine zS ?_
   refine zS ?_
   refine zR (zO (by simp [↓crb, ↓cst, ↓hfr1, ↓hrj1, HH6]; rfl) ?_)
   simp only [zT, zB]
   refine zL ?_
   refine runs_loopG_inv (fun mm2 σ => ∃ (k2 : Nat) (i2 : Int) (L : List Int) (tL : Bool), i2 = k2 ∧ n - k2 = mm2 ∧ k2 ≤ n ∧ L.length = n - k2 ∧ ((k2 = 0 ∧ L = upTo n ∧ σ = ⟨[.any, I (n : Int), .ref 0 0 0, .any, .any, .sl 4 0 L.length tL, .sl 5 0 0 true, .any, I i2, .any, .any, .any, .any, .any, .any, .any, .any, .any, .any, .any, .any, .any, .any, .any, .any, .any, .any, .any, .any, .any, .any, .any, .any, .any, .any, .any, .any, .any, .any, .any, .any, .any, .any, .any, .any, .any, .any, .any, .any, .any, .any], [some (.row 26 [cells]), none, none, none, some (.row 1 (L.map rI)), some (.row 1 [])]⟩) ∨ (∃ (p2 : Nat) (ac2 : List Int), k2 = p2 + 1 ∧ ac2 ++ ordGo ((W_.o.take n).drop k2) L = ordW W_.o n ∧ ac2.length = p2 + 1 ∧ σ = ⟨[.any, I (n : Int), .ref 0 0 0, .any, .any, .sl 4 0 L.length tL, .sl 5 0 (p2 + 1) false, .any, I i2, .any, .any, .any, .any, .any, .any, .any, .any, .any, .any, .any, .any, .any, .any, .any, .any, .any, .any, .any, .any, .any, .any, .any, .any, .any, .any, .any, .any, .any, .any, .any, .any, .any, .any, .any, .any, .any, .any, .any, .any, .any, .any], [some (.row 26 [cells]), none, none, none, some (.row 1 (L.map rI)), some (.row 1 (ac2.map rI))]⟩))) (by simp [↓crb, ↓cst, ↓hfr1, ↓hrj1, HH6] <;> first | exact ⟨rfl, rfl⟩ | rfl) (⟨0, 0, ac1, false, rfl, rfl, Nat.zero_le _, by omega, .inl ⟨rfl, by rw [hac1], rfl⟩⟩) ?_
   rintro mm2 σ ⟨k2, i2, L, tL, hik2, rfl, hkl2, hLl, ⟨hkz2, hL0, rfl⟩ | ⟨p2, ac2, hkp2, hac2, hacl2, rfl⟩⟩
   ·refine zS ?_
    refine zS ?_
    refine zR (zO (by simp [↓crb, ↓cst, ↓hfr1, ↓hrj1, HH6]; rfl) ?_)
    simp only [zT, zB]
    refine runs_cond_split (x := _) rfl (fun hlt2 => ?_) (fun hlt2 => ?_)
    ·have hltt2 := of_decide_eq_true hlt2
     have hk2n : k2 < n := by omega
     have hi20 : 0 ≤ i2 := by omega
     have htn2 : i2.toNat = k2 := by omega
     have hi26 : i2 < 6 := by omega
     have hwi2 : W .i64 (i2 + 1) = i2 + 1 := W_small (by omega)
     have hco := co k2 (by omega)
     have hob := mins_fit (k := k2) bo.2
     have hdr : (W_.o.take n).drop k2 = W_.o.getD k2 0 :: (W_.o.take n).drop (k2 + 1) := by
      rw [List.drop_eq_getElem_cons (by rw [List.length_take, bo.1]; omega), List.getElem_take, List.getD_eq_getElem?_getD, List.getElem?_eq_getElem (by rw [bo.1]; omega)]; rfl
     generalize W_.o.getD k2 0 = ob at *
     obtain ⟨ob1, ob2⟩ := hob
     have hLp : (0 : Int) < (L.length : Int) := by omega
     have hLz : ¬ L.length = 0 := by omega
     have hLzi : ¬ (L.length : Int) = 0 := by omega
     have hLzb : ((L.length : Int) == 0) = false := by rw [beq_eq_false_iff_ne]; exact hLzi
     have hLm : ¬ ((L.length : Int) = -1) := by omega
     have hq1 := Int.tmod_nonneg (L.length : Int) ob1
     have hq2 := Int.tmod_lt_of_pos ob hLp
     have u0 : W .i64 ob = ob := W_fit (by omega)
     have hL6 : L.length ≤ 6 := by omega
     have hgo : ordGo (ob :: (W_.o.take n).drop (k2 + 1)) L = L.getD (ob.tmod (L.length : Int)).toNat 0 :: ordGo ((W_.o.take n).drop (k2 + 1)) (L.eraseIdx (ob.tmod (L.length : Int)).toNat) := rfl
     generalize hQ : ob.tmod (L.length : Int) = Qi at *
     have u1 : W .i64 Qi = Qi := W_fit (by omega)
     obtain ⟨qn, hqn⟩ : ∃ qn : Nat, Qi.toNat = qn := ⟨_, rfl⟩
     rw [hqn] at hgo
     have hql : qn < L.length := by omega
     have hqi : Qi = (qn : Int) := by omega
     have hqle : qn ≤ L.length := by omega
     have hql2 : Qi ≤ (L.length : Int) := by omega
     have hql3 : Qi + 1 ≤ (L.length : Int) := by omega
     have hq3 : 0 ≤ Qi + 1 := by omega
     have hwq : W .i64 (Qi + 1) = Qi + 1 := W_small (by omega)
     have hqn1 : (Qi + 1).toNat = qn + 1 := by omega
     have hLq : L.getD qn 0 = L[qn] := by rw [List.getD_eq_getElem?_getD, List.getElem?_eq_getElem hql]; rfl
     rw [hLq] at hgo
     have hLg : (L.map rI)[qn]? = some [I L[qn]] := by rw [List.getElem?_map, List.getElem?_eq_getElem hql]; rfl
     generalize hLv : L[qn] = lv at *
     have hLr : ((L.map rI).all fun r => r.length == 1) = true := by simp [rI]
     have hLlen : (L.map rI).length = L.length := by simp
     have her : L.eraseIdx qn = L.take qn ++ L.drop (qn + 1) := List.eraseIdx_eq_take_drop_succ L qn
     have hnx2 : [lv] ++ ordGo ((W_.o.take n).drop (k2 + 1)) (L.eraseIdx qn) = ordW W_.o n := by
      have e : ordW W_.o n = ordGo ((W_.o.take n).drop k2) L := by rw [hkz2, hL0]; rfl
      rw [e, hdr, hgo]; rfl
     have HH9 := zA hi20 (zA htn2 (zA hi26 (zA hwi2 (zA hco (zA hLz (zA hLzi (zA hLzb (zA hLm (zA u0 (zA u1 (zA hQ (zA hqn (zA hq1 (zA hq2 (zA hql (zA hqle (zA hql2 (zA hql3 (zA hq3 (zA hwq (zA hqn1 (zA hLg (zA hLv hLlen)))))))))))))))))))))))
     have HH10 := zA crb (zA cst (zA hfr1 (zA hrj1 hLr)))
     refine zK ?_
     simp only [zT, zB]
     refine zS ?_
     refine zL ?_
     refine zS ?_
     refine zR (zO (by simp [HH6, zI, -List.map_take, -List.map_drop, -List.length_map, -List.getElem?_map, evOpt, sliceA, bounds, hiB, bound, HH9, ↓HH10]; rfl) ?_)
     simp only [zT, zB]
     refine zS ?_
     refine zR (zO (by simp [HH6, zI, -List.map_take, -List.map_drop, -List.length_map, -List.getElem?_map, evOpt, sliceA, bounds, hiB, bound, HH9, ↓HH10]; rfl) ?_)
     simp only [zT, zB]
     obtain ⟨fu, cv, ch, hcall, hc0, hc1⟩ := a18h P T h18 [some (.row 26 [cells]), none, none, none, some (.row 1 (L.map rI)), some (.row 1 []), some (.row 1 [[I lv]]), some (.row 1 [[I lv]]), none, none, none, none, none, none, none, none, none, none] 4 qn (tL && (qn == L.length)) L rfl hqle (by omega)
     by_cases hz : qn = 0
     ·by_cases he : qn + 1 = L.length
      ·obtain ⟨rfl, rfl⟩ := hc0 hz
       clear hc1
       have hdl : ((L.map rI).drop (qn + 1)).take (L.length - (qn + 1)) = (L.drop (qn + 1)).map rI := by rw [List.map_drop]; exact List.take_of_length_le (by simp)
       have hdl2 : (L.map rI).drop (qn + 1) = (L.drop (qn + 1)).map rI := by rw [List.map_drop]
       have l1 : (L.take qn).length = qn := by rw [List.length_take]; omega
       have l2 : (L.drop (qn + 1)).length = L.length - (qn + 1) := by rw [List.length_drop]
       have hs1 : qn + 1 + (L.length - (qn + 1)) = L.length := by omega
       have hs2 : qn + 1 + (L.length - (qn + 1)) ≤ L.length := by omega
       generalize L.take qn = T1 at *
       generalize L.drop (qn + 1) = T2 at *
       subst hz
       obtain rfl : T1 = [] := List.eq_nil_of_length_eq_zero l1
       simp only [List.nil_append] at her
       simp only [Nat.zero_add] at hdl hdl2 l2 hs1 hs2
       obtain rfl : T2 = [] := List.eq_nil_of_length_eq_zero (by omega)
       have hls : L.length - 1 = 0 := by omega
       have hls3 : 1 ≤ L.length := by omega
       refine runs_drwN fu (by simp (maxSteps := 3000000) [HH6, zI, -List.map_take, -List.map_drop, -List.length_map, -List.getElem?_map, evOpt, sliceA, bounds, hiB, bound, HH9, ↓HH10, hcall, h18, ↓o18, ↓f18, ↓heB, ↓eqB_rI, ↓hdl, ↓hdl2, hs1, hs2, hls, hls3]; rfl) ?_
       simp only [zT, zB]
       refine zR (zO (by simp [HH6, zI, -List.map_take, -List.map_drop, -List.length_map, -List.getElem?_map, evOpt, sliceA, bounds, hiB, bound, HH9, ↓HH10, hcall, h18, ↓o18, ↓f18, ↓heB, ↓eqB_rI, ↓hdl, ↓hdl2, hs1, hs2, hls, hls3]; rfl) ?_)
       simp only [zT, zB]
       have hEl : (L.eraseIdx 0).length = 0 := by rw [her]; simp [l1]
       have hEn : (L.eraseIdx 0).length = n - (k2 + 1) := by rw [hEl]; omega
       rw [her] at hnx2 hEl hEn
       exact ⟨n - (k2 + 1), _, _, by omega, by simp [HH6, zI, -List.map_take, -List.map_drop, -List.length_map, -List.getElem?_map, evOpt, sliceA, bounds, hiB, bound, HH9, ↓HH10, hcall, h18, ↓o18, ↓f18, ↓heB, ↓eqB_rI, ↓hdl, ↓hdl2, hs1, hs2, hls, hls3, l1, hEl] <;> rfl, k2 + 1, i2 + 1, ([] : List Int), true, by omega, rfl, by omega, hEn, .inr ⟨0, [lv], by omega, hnx2, rfl, rfl⟩⟩
      ·obtain ⟨rfl, rfl⟩ := hc0 hz
       clear hc1
       have hdl : ((L.map rI).drop (qn + 1)).take (L.length - (qn + 1)) = (L.drop (qn + 1)).map rI := by rw [List.map_drop]; exact List.take_of_length_le (by simp)
       have hdl2 : (L.map rI).drop (qn + 1) = (L.drop (qn + 1)).map rI := by rw [List.map_drop]
       have l1 : (L.take qn).length = qn := by rw [List.length_take]; omega
       have l2 : (L.drop (qn + 1)).length = L.length - (qn + 1) := by rw [List.length_drop]
       have hs1 : qn + 1 + (L.length - (qn + 1)) = L.length := by omega
       have hs2 : qn + 1 + (L.length - (qn + 1)) ≤ L.length := by omega
       generalize L.take qn = T1 at *
       generalize L.drop (qn + 1) = T2 at *
       subst hz
       obtain rfl : T1 = [] := List.eq_nil_of_length_eq_zero l1
       simp only [List.nil_append] at her
       simp only [Nat.zero_add] at hdl hdl2 l2 hs1 hs2
       obtain ⟨b2, T3, rfl⟩ : ∃ b2 T3, T2 = b2 :: T3 := by
        cases T2 with
        | nil => simp at l2; omega
        | cons a l => exact ⟨a, l, rfl⟩
       simp only [List.length_cons] at l2
       have hls : L.length - (1) = T3.length + 1 := by omega
       have t3 : T3.length + 1 ≤ 1048576 := by omega
       have t3b : 0 + (T3.length + 1) ≤ 1048576 := by omega
       have t3a : ((T3.map rI).all fun r => r.length == 1) = true := by simp [rI]
       have t3r := fun n => rI_rb n 4 T3
       have t3l : (T3.map rI).length = T3.length := by simp
       have hls3 : 1 + (T3.length + 1) ≤ L.length := by omega
       have tk3 : (T3.map rI).take T3.length = T3.map rI := List.take_of_length_le (by simp)
       refine runs_drwN fu (by simp (maxSteps := 3000000) [HH6, zI, -List.map_take, -List.map_drop, -List.length_map, -List.getElem?_map, evOpt, sliceA, bounds, hiB, bound, HH9, ↓HH10, hcall, h18, ↓o18, ↓f18, ↓heB, ↓eqB_rI, ↓hdl, ↓hdl2, hs1, hs2, hls, hls3, t3, t3b, ↓t3a, ↓t3r, t3l, tk3]; rfl) ?_
       simp only [zT, zB]
       refine zR (zO (by simp [HH6, zI, -List.map_take, -List.map_drop, -List.length_map, -List.getElem?_map, evOpt, sliceA, bounds, hiB, bound, HH9, ↓HH10, hcall, h18, ↓o18, ↓f18, ↓heB, ↓eqB_rI, ↓hdl, ↓hdl2, hs1, hs2, hls, hls3, t3, t3b, ↓t3a, ↓t3r, t3l, tk3]; rfl) ?_)
       simp only [zT, zB]
       have hEl : (L.eraseIdx 0).length = T3.length + 1 := by rw [her]; simp [l1]
       have hEn : (L.eraseIdx 0).length = n - (k2 + 1) := by rw [hEl]; omega
       rw [her] at hnx2 hEl hEn
       exact ⟨n - (k2 + 1), _, _, by omega, by simp [HH6, zI, -List.map_take, -List.map_drop, -List.length_map, -List.getElem?_map, evOpt, sliceA, bounds, hiB, bound, HH9, ↓HH10, hcall, h18, ↓o18, ↓f18, ↓heB, ↓eqB_rI, ↓hdl, ↓hdl2, hs1, hs2, hls, hls3, t3, t3b, ↓t3a, ↓t3r, t3l, tk3, l1, hEl] <;> rfl, k2 + 1, i2 + 1, (b2 :: T3), false, by omega, rfl, by omega, hEn, .inr ⟨0, [lv], by omega, hnx2, rfl, rfl⟩⟩
     ·by_cases he : qn + 1 = L.length
      ·obtain ⟨rfl, rfl⟩ := hc1 (by omega)
       clear hc0
       have hdl : ((L.map rI).drop (qn + 1)).take (L.length - (qn + 1)) = (L.drop (qn + 1)).map rI := by rw [List.map_drop]; exact List.take_of_length_le (by simp)
       have hdl2 : (L.map rI).drop (qn + 1) = (L.drop (qn + 1)).map rI := by rw [List.map_drop]
       have l1 : (L.take qn).length = qn := by rw [List.length_take]; omega
       have l2 : (L.drop (qn + 1)).length = L.length - (qn + 1) := by rw [List.length_drop]
       have hs1 : qn + 1 + (L.length - (qn + 1)) = L.length := by omega
       have hs2 : qn + 1 + (L.length - (qn + 1)) ≤ L.length := by omega
       generalize L.take qn = T1 at *
       generalize L.drop (qn + 1) = T2 at *
       have tkq : (T1.map rI).take qn = T1.map rI := List.take_of_length_le (by simp [l1])
       have hq0 : ¬ qn = 0 := hz
       have t1l : (T1.map rI).length = qn := by simp [l1]
       have t1a : ((T1.map rI).all fun r => r.length == 1) = true := by simp [rI]
       have t1n : T1.map rI ≠ [] := by intro e; rw [e] at t1l; simp at t1l; omega
       have t1r := fun n => rI_rb n 4 T1
       obtain rfl : T2 = [] := List.eq_nil_of_length_eq_zero (by omega)
       simp only [List.append_nil] at her
       have hls : L.length - (qn + 1) = 0 := by omega
       have hls3 : qn + 1 ≤ L.length := by omega
       refine runs_drwN fu (by simp (maxSteps := 3000000) [HH6, zI, -List.map_take, -List.map_drop, -List.length_map, -List.getElem?_map, evOpt, sliceA, bounds, hiB, bound, HH9, ↓HH10, hcall, h18, ↓o18, ↓f18, ↓heB, ↓eqB_rI, ↓hdl, ↓hdl2, hs1, hs2, hls, hls3, tkq, hq0, t1l, ↓t1a, t1n, ↓t1r]; rfl) ?_
       simp only [zT, zB]
       refine zR (zO (by simp [HH6, zI, -List.map_take, -List.map_drop, -List.length_map, -List.getElem?_map, evOpt, sliceA, bounds, hiB, bound, HH9, ↓HH10, hcall, h18, ↓o18, ↓f18, ↓heB, ↓eqB_rI, ↓hdl, ↓hdl2, hs1, hs2, hls, hls3, tkq, hq0, t1l, ↓t1a, t1n, ↓t1r]; rfl) ?_)
       simp only [zT, zB]
       have hEl : (L.eraseIdx qn).length = qn := by rw [her]; simp [l1]
       have hEn : (L.eraseIdx qn).length = n - (k2 + 1) := by rw [hEl]; omega
       rw [her] at hnx2 hEl hEn
       exact ⟨n - (k2 + 1), _, _, by omega, by simp [HH6, zI, -List.map_take, -List.map_drop, -List.length_map, -List.getElem?_map, evOpt, sliceA, bounds, hiB, bound, HH9, ↓HH10, hcall, h18, ↓o18, ↓f18, ↓heB, ↓eqB_rI, ↓hdl, ↓hdl2, hs1, hs2, hls, hls3, tkq, hq0, t1l, ↓t1a, t1n, ↓t1r, l1, hEl] <;> rfl, k2 + 1, i2 + 1, T1, false, by omega, rfl, by omega, hEn, .inr ⟨0, [lv], by omega, hnx2, rfl, rfl⟩⟩
      ·obtain ⟨rfl, rfl⟩ := hc1 (by omega)
       clear hc0
       have hdl : ((L.map rI).drop (qn + 1)).take (L.length - (qn + 1)) = (L.drop (qn + 1)).map rI := by rw [List.map_drop]; exact List.take_of_length_le (by simp)
       have hdl2 : (L.map rI).drop (qn + 1) = (L.drop (qn + 1)).map rI := by rw [List.map_drop]
       have l1 : (L.take qn).length = qn := by rw [List.length_take]; omega
       have l2 : (L.drop (qn + 1)).length = L.length - (qn + 1) := by rw [List.length_drop]
       have hs1 : qn + 1 + (L.length - (qn + 1)) = L.length := by omega
       have hs2 : qn + 1 + (L.length - (qn + 1)) ≤ L.length := by omega
       generalize L.take qn = T1 at *
       generalize L.drop (qn + 1) = T2 at *
       have tkq : (T1.map rI).take qn = T1.map rI := List.take_of_length_le (by simp [l1])
       have hq0 : ¬ qn = 0 := hz
       have t1l : (T1.map rI).length = qn := by simp [l1]
       have t1a : ((T1.map rI).all fun r => r.length == 1) = true := by simp [rI]
       have t1n : T1.map rI ≠ [] := by intro e; rw [e] at t1l; simp at t1l; omega
       have t1r := fun n => rI_rb n 4 T1
       obtain ⟨b2, T3, rfl⟩ : ∃ b2 T3, T2 = b2 :: T3 := by
        cases T2 with
        | nil => simp at l2; omega
        | cons a l => exact ⟨a, l, rfl⟩
       simp only [List.length_cons] at l2
       have hls : L.length - (qn + 1) = T3.length + 1 := by omega
       have t3 : T3.length + 1 ≤ 1048576 := by omega
       have t3b : qn + (T3.length + 1) ≤ 1048576 := by omega
       have t3a : ((T3.map rI).all fun r => r.length == 1) = true := by simp [rI]
       have t3r := fun n => rI_rb n 4 T3
       have t3l : (T3.map rI).length = T3.length := by simp
       have hls3 : qn + 1 + (T3.length + 1) ≤ L.length := by omega
       have tk3 : (T3.map rI).take T3.length = T3.map rI := List.take_of_length_le (by simp)
       refine runs_drwN fu (by simp (maxSteps := 3000000) [HH6, zI, -List.map_take, -List.map_drop, -List.length_map, -List.getElem?_map, evOpt, sliceA, bounds, hiB, bound, HH9, ↓HH10, hcall, h18, ↓o18, ↓f18, ↓heB, ↓eqB_rI, ↓hdl, ↓hdl2, hs1, hs2, hls, hls3, tkq, hq0, t1l, ↓t1a, t1n, ↓t1r, t3, t3b, ↓t3a, ↓t3r, t3l, tk3]; rfl) ?_
       simp only [zT, zB]
       refine zR (zO (by simp [HH6, zI, -List.map_take, -List.map_drop, -List.length_map, -List.getElem?_map, evOpt, sliceA, bounds, hiB, bound, HH9, ↓HH10, hcall, h18, ↓o18, ↓f18, ↓heB, ↓eqB_rI, ↓hdl, ↓hdl2, hs1, hs2, hls, hls3, tkq, hq0, t1l, ↓t1a, t1n, ↓t1r, t3, t3b, ↓t3a, ↓t3r, t3l, tk3]; rfl) ?_)
       simp only [zT, zB]
       have hEl : (L.eraseIdx qn).length = qn + (T3.length + 1) := by rw [her]; simp [l1]
       have hEn : (L.eraseIdx qn).length = n - (k2 + 1) := by rw [hEl]; omega
       rw [her] at hnx2 hEl hEn
       exact ⟨n - (k2 + 1), _, _, by omega, by simp [HH6, zI, -List.map_take, -List.map_drop, -List.length_map, -List.getElem?_map, evOpt, sliceA, bounds, hiB, bound, HH9, ↓HH10, hcall, h18, ↓o18, ↓f18, ↓heB, ↓eqB_rI, ↓hdl, ↓hdl2, hs1, hs2, hls, hls3, tkq, hq0, t1l, ↓t1a, t1n, ↓t1r, t3, t3b, ↓t3a, ↓t3r, t3l, tk3, l1, hEl] <;> rfl, k2 + 1, i2 + 1, (T1 ++ b2 :: T3), false, by omega, rfl, by omega, hEn, .inr ⟨0, [lv], by omega, hnx2, rfl, rfl⟩⟩
    ·have hx2 := of_decide_eq_false hlt2
     have hkE2 : k2 = n := by omega
     have hn0 : n = 0 := by omega
     have hoe : ordW W_.o n = [] := by rw [hn0]; rfl
     rw [hoe]
     refine runs_exit ?_
     simp only [zT, zB, if_true, if_false, reduceIte, Nat.reduceEqDiff, Nat.succ_ne_zero, Nat.one_ne_zero, Nat.zero_ne_one]
     refine zS ?_
     refine zR (zO (by simp [↓crb, ↓cst, ↓hfr1, ↓hrj1, HH6]; rfl) ?_)
     simp only [zT, zB]
     refine runs_ret ?_
     simp [↓crb, ↓cst, ↓hfr1, ↓hrj1, HH6, trim, encE]
   ·have tk2 : (ac2.map rI).take (p2 + 1) = ac2.map rI := List.take_of_length_le (by simp [hacl2])
    have hlac2 : p2 + 1 + 1 ≤ 1048576 := by omega
    have hr32 : ∀ e : Int, (rI e).length = 1 := fun _ => rfl
    have hrj2 := fun n => rI_rb n 4 ac2
    have hal2 : (ac2.map rI).length = p2 + 1 := by rw [List.length_map, hacl2]
    have HH11 := zA tk2 (zA hal2 (zA hlac2 (zA hacl2 hr32)))
    have HH12 := zA crb (zA cst (zA hfr1 (zA hrj1 hrj2)))
    refine zS ?_
    refine zS ?_
    refine zR (zO (by simp [HH6, HH11, ↓HH12]; rfl) ?_)
    simp only [zT, zB]
    refine runs_cond_split (x := _) rfl (fun hlt2 => ?_) (fun hlt2 => ?_)
    ·have hltt2 := of_decide_eq_true hlt2
     have hk2n : k2 < n := by omega
     have hi20 : 0 ≤ i2 := by omega
     have htn2 : i2.toNat = k2 := by omega
     have hi26 : i2 < 6 := by omega
     have hwi2 : W .i64 (i2 + 1) = i2 + 1 := W_small (by omega)
     have hco := co k2 (by omega)
     have hob := mins_fit (k := k2) bo.2
     have hdr : (W_.o.take n).drop k2 = W_.o.getD k2 0 :: (W_.o.take n).drop (k2 + 1) := by
      rw [List.drop_eq_getElem_cons (by rw [List.length_take, bo.1]; omega), List.getElem_take, List.getD_eq_getElem?_getD, List.getElem?_eq_getElem (by rw [bo.1]; omega)]; rfl
     generalize W_.o.getD k2 0 = ob at *
     obtain ⟨ob1, ob2⟩ := hob
     have hLp : (0 : Int) < (L.length : Int) := by omega
     have hLz : ¬ L.length = 0 := by omega
     have hLzi : ¬ (L.length : Int) = 0 := by omega
     have hLzb : ((L.length : Int) == 0) = false := by rw [beq_eq_false_iff_ne]; exact hLzi
     have hLm : ¬ ((L.length : Int) = -1) := by omega
     have hq1 := Int.tmod_nonneg (L.length : Int) ob1
     have hq2 := Int.tmod_lt_of_pos ob hLp
     have u0 : W .i64 ob = ob := W_fit (by omega)
     have hL6 : L.length ≤ 6 := by omega
     have hgo : ordGo (ob :: (W_.o.take n).drop (k2 + 1)) L = L.getD (ob.tmod (L.length : Int)).toNat 0 :: ordGo ((W_.o.take n).drop (k2 + 1)) (L.eraseIdx (ob.tmod (L.length : Int)).toNat) := rfl
     generalize hQ : ob.tmod (L.length : Int) = Qi at *
     have u1 : W .i64 Qi = Qi := W_fit (by omega)
     obtain ⟨qn, hqn⟩ : ∃ qn : Nat, Qi.toNat = qn := ⟨_, rfl⟩
     rw [hqn] at hgo
     have hql : qn < L.length := by omega
     have hqi : Qi = (qn : Int) := by omega
     have hqle : qn ≤ L.length := by omega
     have hql2 : Qi ≤ (L.length : Int) := by omega
     have hql3 : Qi + 1 ≤ (L.length : Int) := by omega
     have hq3 : 0 ≤ Qi + 1 := by omega
     have hwq : W .i64 (Qi + 1) = Qi + 1 := W_small (by omega)
     have hqn1 : (Qi + 1).toNat = qn + 1 := by omega
     have hLq : L.getD qn 0 = L[qn] := by rw [List.getD_eq_getElem?_getD, List.getElem?_eq_getElem hql]; rfl
     rw [hLq] at hgo
     have hLg : (L.map rI)[qn]? = some [I L[qn]] := by rw [List.getElem?_map, List.getElem?_eq_getElem hql]; rfl
     generalize hLv : L[qn] = lv at *
     have hLr : ((L.map rI).all fun r => r.length == 1) = true := by simp [rI]
     have hLlen : (L.map rI).length = L.length := by simp
     have her : L.eraseIdx qn = L.take qn ++ L.drop (qn + 1) := List.eraseIdx_eq_take_drop_succ L qn
     rw [hdr, hgo] at hac2
     have hnx2 : (ac2 ++ [lv]) ++ ordGo ((W_.o.take n).drop (k2 + 1)) (L.eraseIdx qn) = ordW W_.o n := by rw [← hac2, List.append_assoc]; rfl
     have hnl2 : (ac2 ++ [lv]).length = p2 + 1 + 1 := by simp [hacl2]
     have hap2 : ac2.map rI ++ [[I lv]] = (ac2 ++ [lv]).map rI := by rw [List.map_append]; rfl
     generalize ac2 ++ [lv] = nx2 at *
     have hrx2 := fun n => rI_rb n 4 nx2
     have HH13 := zA hi20 (zA htn2 (zA hi26 (zA hwi2 (zA hco (zA hLz (zA hLzi (zA hLzb (zA hLm (zA u0 (zA u1 (zA hQ (zA hqn (zA hq1 (zA hq2 (zA hql (zA hqle (zA hql2 (zA hql3 (zA hq3 (zA hwq (zA hqn1 (zA hLg (zA hLv (zA hLlen hap2))))))))))))))))))))))))
     refine zK ?_
     simp only [zT, zB]
     refine zS ?_
     refine zL ?_
     refine zS ?_
     refine zR (zO (by simp [HH6, HH11, ↓HH12, ↓hLr, zI, -List.map_take, -List.map_drop, -List.length_map, -List.getElem?_map, evOpt, sliceA, bounds, hiB, bound, ↓hrx2, HH13]; rfl) ?_)
     simp only [zT, zB]
     refine zS ?_
     refine zR (zO (by simp [HH6, HH11, ↓HH12, ↓hLr, zI, -List.map_take, -List.map_drop, -List.length_map, -List.getElem?_map, evOpt, sliceA, bounds, hiB, bound, ↓hrx2, HH13]; rfl) ?_)
     simp only [zT, zB]
     obtain ⟨fu, cv, ch, hcall, hc0, hc1⟩ := a18h P T h18 [some (.row 26 [cells]), none, none, none, some (.row 1 (L.map rI)), none, some (.row 1 [[I lv]]), some (.row 1 (nx2.map rI)), none, none, none, none, none, none, none, none, none, none] 4 qn (tL && (qn == L.length)) L rfl hqle (by omega)
     by_cases hz : qn = 0
     ·by_cases he : qn + 1 = L.length
      ·obtain ⟨rfl, rfl⟩ := hc0 hz
       clear hc1
       have hdl : ((L.map rI).drop (qn + 1)).take (L.length - (qn + 1)) = (L.drop (qn + 1)).map rI := by rw [List.map_drop]; exact List.take_of_length_le (by simp)
       have hdl2 : (L.map rI).drop (qn + 1) = (L.drop (qn + 1)).map rI := by rw [List.map_drop]
       have l1 : (L.take qn).length = qn := by rw [List.length_take]; omega
       have l2 : (L.drop (qn + 1)).length = L.length - (qn + 1) := by rw [List.length_drop]
       have hs1 : qn + 1 + (L.length - (qn + 1)) = L.length := by omega
       have hs2 : qn + 1 + (L.length - (qn + 1)) ≤ L.length := by omega
       generalize L.take qn = T1 at *
       generalize L.drop (qn + 1) = T2 at *
       subst hz
       obtain rfl : T1 = [] := List.eq_nil_of_length_eq_zero l1
       simp only [List.nil_append] at her
       simp only [Nat.zero_add] at hdl hdl2 l2 hs1 hs2
       obtain rfl : T2 = [] := List.eq_nil_of_length_eq_zero (by omega)
       have hls : L.length - 1 = 0 := by omega
       have hls3 : 1 ≤ L.length := by omega
       refine runs_drwN fu (by simp (maxSteps := 3000000) [HH6, HH11, ↓HH12, ↓hLr, zI, -List.map_take, -List.map_drop, -List.length_map, -List.getElem?_map, evOpt, sliceA, bounds, hiB, bound, ↓hrx2, HH13, hcall, h18, ↓o18, ↓f18, ↓heB, ↓eqB_rI, ↓hdl, ↓hdl2, hs1, hs2, hls, hls3]; rfl) ?_
       simp only [zT, zB]
       refine zR (zO (by simp [HH6, HH11, ↓HH12, ↓hLr, zI, -List.map_take, -List.map_drop, -List.length_map, -List.getElem?_map, evOpt, sliceA, bounds, hiB, bound, ↓hrx2, HH13, hcall, h18, ↓o18, ↓f18, ↓heB, ↓eqB_rI, ↓hdl, ↓hdl2, hs1, hs2, hls, hls3]; rfl) ?_)
       simp only [zT, zB]
       have hEl : (L.eraseIdx 0).length = 0 := by rw [her]; simp [l1]
       have hEn : (L.eraseIdx 0).length = n - (k2 + 1) := by rw [hEl]; omega
       rw [her] at hnx2 hEl hEn
       exact ⟨n - (k2 + 1), _, _, by omega, by simp [HH6, HH11, ↓HH12, ↓hLr, zI, -List.map_take, -List.map_drop, -List.length_map, -List.getElem?_map, evOpt, sliceA, bounds, hiB, bound, ↓hrx2, HH13, hcall, h18, ↓o18, ↓f18, ↓heB, ↓eqB_rI, ↓hdl, ↓hdl2, hs1, hs2, hls, hls3, l1, hEl] <;> rfl, k2 + 1, i2 + 1, ([] : List Int), true, by omega, rfl, by omega, hEn, .inr ⟨p2 + 1, nx2, by omega, hnx2, hnl2, rfl⟩⟩
      ·obtain ⟨rfl, rfl⟩ := hc0 hz
       clear hc1
       have hdl : ((L.map rI).drop (qn + 1)).take (L.length - (qn + 1)) = (L.drop (qn + 1)).map rI := by rw [List.map_drop]; exact List.take_of_length_le (by simp)
       have hdl2 : (L.map rI).drop (qn + 1) = (L.drop (qn + 1)).map rI := by rw [List.map_drop]
       have l1 : (L.take qn).length = qn := by rw [List.length_take]; omega
       have l2 : (L.drop (qn + 1)).length = L.length - (qn + 1) := by rw [List.length_drop]
       have hs1 : qn + 1 + (L.length - (qn + 1)) = L.length := by omega
       have hs2 : qn + 1 + (L.length - (qn + 1)) ≤ L.length := by omega
       generalize L.take qn = T1 at *
       generalize L.drop (qn + 1) = T2 at *
       subst hz
       obtain rfl : T1 = [] := List.eq_nil_of_length_eq_zero l1
       simp only [List.nil_append] at her
       simp only [Nat.zero_add] at hdl hdl2 l2 hs1 hs2
       obtain ⟨b2, T3, rfl⟩ : ∃ b2 T3, T2 = b2 :: T3 := by
        cases T2 with
        | nil => simp at l2; omega
        | cons a l => exact ⟨a, l, rfl⟩
       simp only [List.length_cons] at l2
       have hls : L.length - (1) = T3.length + 1 := by omega
       have t3 : T3.length + 1 ≤ 1048576 := by omega
       have t3b : 0 + (T3.length + 1) ≤ 1048576 := by omega
       have t3a : ((T3.map rI).all fun r => r.length == 1) = true := by simp [rI]
       have t3r := fun n => rI_rb n 4 T3
       have t3l : (T3.map rI).length = T3.length := by simp
       have hls3 : 1 + (T3.length + 1) ≤ L.length := by omega
       have tk3 : (T3.map rI).take T3.length = T3.map rI := List.take_of_length_le (by simp)
       refine runs_drwN fu (by simp (maxSteps := 3000000) [HH6, HH11, ↓HH12, ↓hLr, zI, -List.map_take, -List.map_drop, -List.length_map, -List.getElem?_map, evOpt, sliceA, bounds, hiB, bound, ↓hrx2, HH13, hcall, h18, ↓o18, ↓f18, ↓heB, ↓eqB_rI, ↓hdl, ↓hdl2, hs1, hs2, hls, hls3, t3, t3b, ↓t3a, ↓t3r, t3l, tk3]; rfl) ?_
       simp only [zT, zB]
       refine zR (zO (by simp [HH6, HH11, ↓HH12, ↓hLr, zI, -List.map_take, -List.map_drop, -List.length_map, -List.getElem?_map, evOpt, sliceA, bounds, hiB, bound, ↓hrx2, HH13, hcall, h18, ↓o18, ↓f18, ↓heB, ↓eqB_rI, ↓hdl, ↓hdl2, hs1, hs2, hls, hls3, t3, t3b, ↓t3a, ↓t3r, t3l, tk3]; rfl) ?_)
       simp only [zT, zB]
       have hEl : (L.eraseIdx 0).length = T3.length + 1 := by rw [her]; simp [l1]
       have hEn : (L.eraseIdx 0).length = n - (k2 + 1) := by rw [hEl]; omega
       rw [her] at hnx2 hEl hEn
       exact ⟨n - (k2 + 1), _, _, by omega, by simp [HH6, HH11, ↓HH12, ↓hLr, zI, -List.map_take, -List.map_drop, -List.length_map, -List.getElem?_map, evOpt, sliceA, bounds, hiB, bound, ↓hrx2, HH13, hcall, h18, ↓o18, ↓f18, ↓heB, ↓eqB_rI, ↓hdl, ↓hdl2, hs1, hs2, hls, hls3, t3, t3b, ↓t3a, ↓t3r, t3l, tk3, l1, hEl] <;> rfl, k2 + 1, i2 + 1, (b2 :: T3), false, by omega, rfl, by omega, hEn, .inr ⟨p2 + 1, nx2, by omega, hnx2, hnl2, rfl⟩⟩
     ·by_cases he : qn + 1 = L.length
      ·obtain ⟨rfl, rfl⟩ := hc1 (by omega)
       clear hc0
       have hdl : ((L.map rI).drop (qn + 1)).take (L.length - (qn + 1)) = (L.drop (qn + 1)).map rI := by rw [List.map_drop]; exact List.take_of_length_le (by simp)
       have hdl2 : (L.map rI).drop (qn + 1) = (L.drop (qn + 1)).map rI := by rw [List.map_drop]
       have l1 : (L.take qn).length = qn := by rw [List.length_take]; omega
       have l2 : (L.drop (qn + 1)).length = L.length - (qn + 1) := by rw [List.length_drop]
       have hs1 : qn + 1 + (L.length - (qn + 1)) = L.length := by omega
       have hs2 : qn + 1 + (L.length - (qn + 1)) ≤ L.length := by omega
       generalize L.take qn = T1 at *
       generalize L.drop (qn + 1) = T2 at *
       have tkq : (T1.map rI).take qn = T1.map rI := List.take_of_length_le (by simp [l1])
       have hq0 : ¬ qn = 0 := hz
       have t1l : (T1.map rI).length = qn := by simp [l1]
       have t1a : ((T1.map rI).all fun r => r.length == 1) = true := by simp [rI]
       have t1n : T1.map rI ≠ [] := by intro e; rw [e] at t1l; simp at t1l; omega
       have t1r := fun n => rI_rb n 4 T1
       obtain rfl : T2 = [] := List.eq_nil_of_length_eq_zero (by omega)
       simp only [List.append_nil] at her
       have hls : L.length - (qn + 1) = 0 := by omega
       have hls3 : qn + 1 ≤ L.length := by omega
       refine runs_drwN fu (by simp (maxSteps := 3000000) [HH6, HH11, ↓HH12, ↓hLr, zI, -List.map_take, -List.map_drop, -List.length_map, -List.getElem?_map, evOpt, sliceA, bounds, hiB, bound, ↓hrx2, HH13, hcall, h18, ↓o18, ↓f18, ↓heB, ↓eqB_rI, ↓hdl, ↓hdl2, hs1, hs2, hls, hls3, tkq, hq0, t1l, ↓t1a, t1n, ↓t1r]; rfl) ?_
       simp only [zT, zB]
       refine zR (zO (by simp [HH6, HH11, ↓HH12, ↓hLr, zI, -List.map_take, -List.map_drop, -List.length_map, -List.getElem?_map, evOpt, sliceA, bounds, hiB, bound, ↓hrx2, HH13, hcall, h18, ↓o18, ↓f18, ↓heB, ↓eqB_rI, ↓hdl, ↓hdl2, hs1, hs2, hls, hls3, tkq, hq0, t1l, ↓t1a, t1n, ↓t1r]; rfl) ?_)
       simp only [zT, zB]
       have hEl : (L.eraseIdx qn).length = qn := by rw [her]; simp [l1]
       have hEn : (L.eraseIdx qn).length = n - (k2 + 1) := by rw [hEl]; omega
       rw [her] at hnx2 hEl hEn
       exact ⟨n - (k2 + 1), _, _, by omega, by simp [HH6, HH11, ↓HH12, ↓hLr, zI, -List.map_take, -List.map_drop, -List.length_map, -List.getElem?_map, evOpt, sliceA, bounds, hiB, bound, ↓hrx2, HH13, hcall, h18, ↓o18, ↓f18, ↓heB, ↓eqB_rI, ↓hdl, ↓hdl2, hs1, hs2, hls, hls3, tkq, hq0, t1l, ↓t1a, t1n, ↓t1r, l1, hEl] <;> rfl, k2 + 1, i2 + 1, T1, false, by omega, rfl, by omega, hEn, .inr ⟨p2 + 1, nx2, by omega, hnx2, hnl2, rfl⟩⟩
      ·obtain ⟨rfl, rfl⟩ := hc1 (by omega)
       clear hc0
       have hdl : ((L.map rI).drop (qn + 1)).take (L.length - (qn + 1)) = (L.drop (qn + 1)).map rI := by rw [List.map_drop]; exact List.take_of_length_le (by simp)
       have hdl2 : (L.map rI).drop (qn + 1) = (L.drop (qn + 1)).map rI := by rw [List.map_drop]
       have l1 : (L.take qn).length = qn := by rw [List.length_take]; omega
       have l2 : (L.drop (qn + 1)).length = L.length - (qn + 1) := by rw [List.length_drop]
       have hs1 : qn + 1 + (L.length - (qn + 1)) = L.length := by omega
       have hs2 : qn + 1 + (L.length - (qn + 1)) ≤ L.length := by omega
       generalize L.take qn = T1 at *
       generalize L.drop (qn + 1) = T2 at *
       have tkq : (T1.map rI).take qn = T1.map rI := List.take_of_length_le (by simp [l1])
       have hq0 : ¬ qn = 0 := hz
       have t1l : (T1.map rI).length = qn := by simp [l1]
       have t1a : ((T1.map rI).all fun r => r.length == 1) = true := by simp [rI]
       have t1n : T1.map rI ≠ [] := by intro e; rw [e] at t1l; simp at t1l; omega
       have t1r := fun n => rI_rb n 4 T1
       obtain ⟨b2, T3, rfl⟩ : ∃ b2 T3, T2 = b2 :: T3 := by
        cases T2 with
        | nil => simp at l2; omega
        | cons a l => exact ⟨a, l, rfl⟩
       simp only [List.length_cons] at l2
       have hls : L.length - (qn + 1) = T3.length + 1 := by omega
       have t3 : T3.length + 1 ≤ 1048576 := by omega
       have t3b : qn + (T3.length + 1) ≤ 1048576 := by omega
       have t3a : ((T3.map rI).all fun r => r.length == 1) = true := by simp [rI]
       have t3r := fun n => rI_rb n 4 T3
       have t3l : (T3.map rI).length = T3.length := by simp
       have hls3 : qn + 1 + (T3.length + 1) ≤ L.length := by omega
       have tk3 : (T3.map rI).take T3.length = T3.map rI := List.take_of_length_le (by simp)
       refine runs_drwN fu (by simp (maxSteps := 3000000) [HH6, HH11, ↓HH12, ↓hLr, zI, -List.map_take, -List.map_drop, -List.length_map, -List.getElem?_map, evOpt, sliceA, bounds, hiB, bound, ↓hrx2, HH13, hcall, h18, ↓o18, ↓f18, ↓heB, ↓eqB_rI, ↓hdl, ↓hdl2, hs1, hs2, hls, hls3, tkq, hq0, t1l, ↓t1a, t1n, ↓t1r, t3, t3b, ↓t3a, ↓t3r, t3l, tk3]; rfl) ?_
       simp only [zT, zB]
       refine zR (zO (by simp [HH6, HH11, ↓HH12, ↓hLr, zI, -List.map_take, -List.map_drop, -List.length_map, -List.getElem?_map, evOpt, sliceA, bounds, hiB, bound, ↓hrx2, HH13, hcall, h18, ↓o18, ↓f18, ↓heB, ↓eqB_rI, ↓hdl, ↓hdl2, hs1, hs2, hls, hls3, tkq, hq0, t1l, ↓t1a, t1n, ↓t1r, t3, t3b, ↓t3a, ↓t3r, t3l, tk3]; rfl) ?_)
       simp only [zT, zB]
       have hEl : (L.eraseIdx qn).length = qn + (T3.length + 1) := by rw [her]; simp [l1]
       have hEn : (L.eraseIdx qn).length = n - (k2 + 1) := by rw [hEl]; omega
       rw [her] at hnx2 hEl hEn
       exact ⟨n - (k2 + 1), _, _, by omega, by simp [HH6, HH11, ↓HH12, ↓hLr, zI, -List.map_take, -List.map_drop, -List.length_map, -List.getElem?_map, evOpt, sliceA, bounds, hiB, bound, ↓hrx2, HH13, hcall, h18, ↓o18, ↓f18, ↓heB, ↓eqB_rI, ↓hdl, ↓hdl2, hs1, hs2, hls, hls3, tkq, hq0, t1l, ↓t1a, t1n, ↓t1r, t3, t3b, ↓t3a, ↓t3r, t3l, tk3, l1, hEl] <;> rfl, k2 + 1, i2 + 1, (T1 ++ b2 :: T3), false, by omega, rfl, by omega, hEn, .inr ⟨p2 + 1, nx2, by omega, hnx2, hnl2, rfl⟩⟩
    ·have hx2 := of_decide_eq_false hlt2
     have hkE2 : k2 = n := by omega
     have hLe : L = [] := List.eq_nil_of_length_eq_zero (by omega)
     rw [hLe, hkE2, List.drop_of_length_le (by rw [List.length_take, bo.1]; omega)] at hac2
     simp only [ordGo, List.append_nil] at hac2
     rw [← hac2, encE_ne (by intro e; rw [e] at hacl2; simp at hacl2)]
     refine runs_exit ?_
     simp only [zT, zB, if_true, if_false, reduceIte, Nat.reduceEqDiff, Nat.succ_ne_zero, Nat.one_ne_zero, Nat.zero_ne_one]
     refine zS ?_
     refine zR (zO (by simp [HH6, HH11, ↓HH12, frz_mapI]; rfl) ?_)
     simp only [zT, zB]
     refine runs_ret ?_
     simp [HH6, HH11, ↓HH12, frz_mapI, trim]
end
end
end Go.Proofs.YtjjapdagllclkaaGreat.Tab
namespace Go.Proofs.YtjjapdagllclkaaGreat.Tab
open Go Go.Abs Go.Proofs
set_option linter.unusedSimpArgs false
set_option linter.unusedVariables false
theorem shopE_of {s : FShop} {js : List FJob} (h : ShopOk s js) (hre : ∀ j ∈ js, j.ready ≤ 100000) : shopE s js = 0 := by
 obtain ⟨h1, h2, h3, h4, h5, h6, h7⟩ := h
 have e1 : inI 1 s.mach 4 = true := by simp only [inI, Bool.and_eq_true, decide_eq_true_eq]; exact h1
 have e2 : inI 1 s.chg.length 4 = true := by simp only [inI, Bool.and_eq_true, decide_eq_true_eq]; omega
 have e3 : s.chg.all (chgOk s.chg.length) = true := by
  rw [List.all_eq_true]
  intro l hl
  have := h3 l hl
  simp only [chgOk, wB, Bool.and_eq_true, beq_iff_eq, List.all_eq_true, decide_eq_true_eq]
  exact this
 have e4 : s.stops.all (stopOk s.mach) = true := by
  rw [List.all_eq_true]
  intro x hx
  have := h5 x hx
  simp only [stopOk, inI, wB, Bool.and_eq_true, List.all_eq_true, decide_eq_true_eq, List.mem_cons, List.not_mem_nil, or_false, forall_eq_or_imp, forall_eq]
  omega
 have e5 : js.all (jobOk s.mach s.chg.length) = true := by
  rw [List.all_eq_true]
  intro j hj
  have := h7 j hj
  have hrj := hre j hj
  simp only [jobOk, inI, wB, Bool.and_eq_true, beq_iff_eq, List.all_eq_true, decide_eq_true_eq, List.mem_cons, List.not_mem_nil, or_false, forall_eq_or_imp, forall_eq]
  exact ⟨⟨⟨by omega, by omega⟩, this.2.2.2.1⟩, this.2.2.2.2⟩
 unfold shopE
 rw [e1, e2, e3, e4, e5]
 simp only [Bool.and_self, Bool.not_true, Bool.false_eq_true, if_false]
 rw [if_neg (by omega), if_neg (by omega)]
theorem tmod_bd {a m : Int} (ha : 0 ≤ a) (hm : 0 < m) : 0 ≤ a.tmod m ∧ a.tmod m < m := ⟨Int.tmod_nonneg m ha, Int.tmod_lt_of_pos a hm⟩
theorem made_ok {w : FWorks} (h : WkOk w) : ShopOk (wShop w) (wJobs w) := by
 have hm := tmod_bd (m := 4) h.m.1 (by decide)
 have hk := tmod_bd (m := 4) h.k.1 (by decide)
 have hM : 1 ≤ wM w ∧ wM w ≤ 4 := by unfold wM; omega
 have hK : 1 ≤ wK w ∧ wK w ≤ 4 := by unfold wK; omega
 have hcl : (wC w (wK w).toNat).length = (wK w).toNat := by simp [wC]
 have hv : ∀ v k, (∀ n ∈ v, isU n) → isU (v_ v k) := fun v k hv => mins_fit hv
 refine ⟨hM, ?_, ?_, ?_, ?_, ?_, ?_⟩
 ·show 1 ≤ (wC w (wK w).toNat).length ∧ (wC w (wK w).toNat).length ≤ 4
  rw [hcl]; omega
 ·intro l hl
  show l.length = (wC w (wK w).toNat).length ∧ _
  rw [hcl]
  simp only [wShop, wC, List.mem_map, List.mem_range] at hl
  obtain ⟨i, hi, rfl⟩ := hl
  refine ⟨by simp [wRow], fun c hc => ?_⟩
  simp only [wRow, List.mem_map, List.mem_range] at hc
  obtain ⟨k, hk, rfl⟩ := hc
  have hg : isU (gAt w i k) := mins_fit h.g.2
  have := tmod_bd (m := 40) hg.1 (by decide)
  omega
 ·show (wT w (min w.xs.length 6)).length ≤ 10
  simp only [wT, List.length_map, List.length_take]; omega
 ·intro x hx
  simp only [wShop, wT, List.mem_map] at hx
  obtain ⟨v, hvm, rfl⟩ := hx
  have hvv := (h.xs v (List.mem_of_mem_take hvm)).2
  have b0 := hv v 0 hvv
  have b1 := hv v 1 hvv
  have b2 := hv v 2 hvv
  have b3 := hv v 3 hvv
  have t0 := tmod_bd (m := wM w) b0.1 (by omega)
  have t2 := tmod_bd (m := 2) b2.1 (by decide)
  have t3 := tmod_bd (m := 60) b3.1 (by decide)
  obtain ⟨b10, b11⟩ := b1
  show (0 ≤ (v_ v 0).tmod (wM w) ∧ (v_ v 0).tmod (wM w) < wM w) ∧ (0 ≤ 2 * v_ v 1 + (v_ v 2).tmod 2 ∧ 2 * v_ v 1 + (v_ v 2).tmod 2 ≤ 100000) ∧ (0 ≤ 2 * v_ v 1 + (v_ v 2).tmod 2 + 1 + (v_ v 3).tmod 60 ∧ 2 * v_ v 1 + (v_ v 2).tmod 2 + 1 + (v_ v 3).tmod 60 ≤ 100000) ∧ 2 * v_ v 1 + (v_ v 2).tmod 2 < 2 * v_ v 1 + (v_ v 2).tmod 2 + 1 + (v_ v 3).tmod 60
  omega
 ·show (wJ w (min w.ys.length 5)).length ≤ 6
  simp only [wJ, List.length_map, List.length_take]; omega
 ·intro j hj
  simp only [wJobs, wJ, List.mem_map] at hj
  obtain ⟨v, hvm, rfl⟩ := hj
  have hvv := (h.ys v (List.mem_of_mem_take hvm)).2
  have b0 := hv v 0 hvv
  have b1 := hv v 1 hvv
  have b2 := hv v 2 hvv
  have t0 := tmod_bd (m := wK w) b0.1 (by omega)
  obtain ⟨b10, b11⟩ := b1
  obtain ⟨b20, b21⟩ := b2
  refine ⟨?_, ⟨b10, by show v_ v 1 ≤ _; omega⟩, ⟨by show 0 ≤ 3 * v_ v 2; omega, by show 3 * v_ v 2 ≤ _; omega⟩, ?_, fun n hn => ?_⟩
  ·show 0 ≤ (v_ v 0).tmod (wK w) ∧ (v_ v 0).tmod (wK w) < ((wC w (wK w).toNat).length : Int)
   rw [hcl]; omega
  ·show ((wMins v (wM w).toNat).length : Int) = wM w
   simp only [wMins, List.length_map, List.length_range]; omega
  ·have hn' : n ∈ wMins v (wM w).toNat := hn
   simp only [wMins, List.mem_map, List.mem_range] at hn'
   obtain ⟨k, hk, rfl⟩ := hn'
   have b3 := hv v (3 + k) hvv
   have t3 := tmod_bd (m := 90) b3.1 (by decide)
   unfold wMin
   omega
theorem made_len {w : FWorks} : (wJobs w).length ≤ 5 := by simp only [wJobs, wJ, List.length_map, List.length_take]; omega
def wOrd (w : FWorks) : List Int := ordW w.o (wJobs w).length
theorem made_ctx {w : FWorks} (h : WkOk w) : RunCtx (wShop w) (wJobs w) (wOrd w) :=
 ⟨made_ok h, ordW_ord h.o (by have := made_len (w := w); omega)⟩
theorem made_e0 {w : FWorks} (h : WkOk w) : shopE (wShop w) (wJobs w) = 0 := shopE_of (made_ok h) fun j hj => by
 simp only [wJobs, wJ, List.mem_map] at hj
 obtain ⟨v, hvm, rfl⟩ := hj
 have b1 : isU (v_ v 1) := mins_fit (h.ys v (List.mem_of_mem_take hvm)).2
 obtain ⟨b10, b11⟩ := b1
 show v_ v 1 ≤ _
 omega
theorem ordE_of {s : FShop} {js : List FJob} {os : List Int} (h0 : shopE s js = 0) (h : ordB os js.length = true) : ordE s js os = 0 := by
 unfold ordE
 rw [if_pos h0, if_pos h]
def dWk (r : List AVal) : Option (FWorks × AVal × AVal) := match r with
 | .int .u8 m :: .int .u8 k :: l => match dU (l.take 16), l.drop 16 with
  | some g, x :: y :: o => match rowsV x, rowsV y, dU o with
   | some xr, some yr, some os => match optAll dU xr, optAll dU yr with
    | some xs, some ys => some (⟨m, k, g, xs, ys, os⟩, x, y)
    | _, _ => none
   | _, _, _ => none
  | _, _ => none
 | _ => none
theorem dU_self (v : List Int) : dU (rU v) = some v := optAll_map (d := dU1) (enc := fun n => AVal.int .u8 n) (fun _ => rfl) v
theorem optAll_dU (xs : List (List Int)) : optAll dU (xs.map rU) = some xs := optAll_map (d := dU) (enc := rU) dU_self xs
theorem dWk_eq {r : List AVal} {W : FWorks} {x y : AVal} (h : dWk r = some (W, x, y)) : r = wkC W x y ∧ rowsV x = some (W.xs.map rU) ∧ rowsV y = some (W.ys.map rU) := by
 unfold dWk at h
 split at h <;> (try simp only [reduceCtorEq] at h)
 rename_i m k l
 split at h <;> (try simp only [reduceCtorEq] at h)
 rename_i g x' y' o h1 h2
 split at h <;> (try simp only [reduceCtorEq] at h)
 rename_i xr yr os h3 h4 h5
 split at h <;> (try simp only [reduceCtorEq] at h)
 rename_i xs ys h6 h7
 simp only [Option.some.injEq, Prod.mk.injEq] at h
 obtain ⟨rfl, rfl, rfl⟩ := h
 have e6 := optAll_eq (fun r v h => dU_eq h) h6
 have e7 := optAll_eq (fun r v h => dU_eq h) h7
 subst e6 e7
 refine ⟨?_, h3, h4⟩
 have e1 := dU_eq h1
 have e5 := dU_eq h5
 unfold wkC
 rw [← e1, ← e5]
 have : l = l.take 16 ++ l.drop 16 := (List.take_append_drop 16 l).symm
 rw [h2] at this
 simp only [List.append_assoc, List.cons_append, List.nil_append]
 rw [← this]
theorem dWk_self {W : FWorks} {x y : AVal} (hg : W.g.length = 16) (hx : rowsV x = some (W.xs.map rU)) (hy : rowsV y = some (W.ys.map rU)) : dWk (wkC W x y) = some (W, x, y) := by
 have hl : (rU W.g).length = 16 := by rw [rU_len, hg]
 have e1 : (rU W.g ++ [x, y] ++ rU W.o).take 16 = rU W.g := by rw [List.append_assoc, List.take_append_of_le_length (by omega), List.take_of_length_le (by omega)]
 have e2 : (rU W.g ++ [x, y] ++ rU W.o).drop 16 = x :: y :: rU W.o := by rw [List.append_assoc, List.drop_append_of_le_length (by omega), List.drop_of_length_le (by omega)]; rfl
 unfold dWk wkC
 simp only [e1, e2, dU_self, hx, hy, optAll_dU]
end Go.Proofs.YtjjapdagllclkaaGreat.Tab
namespace Go.Proofs.YtjjapdagllclkaaGreat.Tab
open Go Go.Abs Go.Proofs
def isFreeB (st : List FStop) (k n t : Int) : Bool := st.all fun x => !conf k n t x
theorem isFreeB_ok {st : List FStop} {k n t : Int} (h : isFreeB st k n t = true) : isFree st k n t := fun x hx => by
 have := List.all_eq_true.1 h x hx
 simpa using this
def freeC (st : List FStop) (k n : Int) : Nat → Int → Int
 | 0, a => a
 | f + 1, a => match st.find? (conf k n a) with
  | some x => freeC st k n f x.2.2
  | none => a
theorem freeC_ok {st : List FStop} {k n : Int} : ∀ (f : Nat) (a : Int), isFree st k n (freeC st k n f a) → FreeAt st k n a (freeC st k n f a)
 | 0, a, h => freeAt_self h
 | f + 1, a, h => by
  unfold freeC at h ⊢
  split
  ·rename_i x hx
   rw [hx] at h
   exact freeAt_step (List.mem_of_find?_eq_some hx) (List.find?_some hx) (freeC_ok f _ h)
  ·rename_i hx
   rw [hx] at h
   exact freeAt_self h
def freeO (st : List FStop) (k n a : Int) : Option Int := if isFreeB st k n (freeC st k n 12 a) = true then some (freeC st k n 12 a) else none
theorem freeO_eq {st : List FStop} {k n a u : Int} (h : freeO st k n a = some u) : freeT st k n a = u := by
 unfold freeO at h
 by_cases hf : isFreeB st k n (freeC st k n 12 a) = true
 ·rw [if_pos hf] at h
  cases h
  exact freeT_eq (freeC_ok 12 _ (isFreeB_ok hf))
 ·rw [if_neg hf] at h; simp at h
def startC (s : FShop) (kind : Int) (l : FLine) (k : Nat) (n t : Int) : Option Int :=
 if 0 < n then freeO s.stops k n (if (l.getD k (0, 0, false)).2.2 then max t ((l.getD k (0, 0, false)).1 + chgAt s (l.getD k (0, 0, false)).2.1 kind) else t) else some t
theorem startC_eq {s : FShop} {kind : Int} {l : FLine} {k : Nat} {n t u : Int} (h : startC s kind l k n t = some u) : startF s kind l k n t = u := by
 unfold startC at h
 unfold startF
 by_cases hn : 0 < n
 ·rw [if_pos hn] at h ⊢
  exact freeO_eq h
 ·rw [if_neg hn] at h ⊢
  exact Option.some.inj h
def passGoC (s : FShop) (kind : Int) : List Int → Nat → Int → FLine → Option (List Int × Int × FLine)
 | [], _, t, l => some ([], t, l)
 | n :: ns, k, t, l => match startC s kind l k n t with
  | some u => match passGoC s kind ns (k + 1) (u + n) (if 0 < n then l.set k (u + n, kind, true) else l) with
   | some r => some (u :: r.1, r.2)
   | none => none
  | none => none
theorem passGoC_eq {s : FShop} {kind : Int} : ∀ {ns : List Int} {k : Nat} {t : Int} {l : FLine} {r : List Int × Int × FLine}, passGoC s kind ns k t l = some r → passGo s kind ns k t l = r
 | [], k, t, l, r, h => by simp only [passGoC, Option.some.injEq] at h; subst h; rfl
 | n :: ns, k, t, l, r, h => by
  simp only [passGoC] at h
  split at h
  ·rename_i u hu
   split at h
   ·rename_i r2 hr
    cases h
    have e := startC_eq hu
    simp only [passGo, e, passGoC_eq hr]
   ·simp at h
  ·simp at h
def passC (s : FShop) (l : FLine) (j : FJob) : Option (List Int × Int × FLine) := passGoC s j.kind j.mins 0 j.ready l
theorem passC_eq {s : FShop} {l : FLine} {j : FJob} {r : List Int × Int × FLine} (h : passC s l j = some r) : passF s l j = r := passGoC_eq h
def lineB (s : FShop) (B : Int) (l : FLine) : Bool := (l.length == 4) && l.all fun x => decide (0 ≤ x.1) && decide (x.1 ≤ B) && decide (0 ≤ x.2.1) && (x.2.1 == 0 || decide (x.2.1 < s.chg.length))
theorem lineB_ok {s : FShop} {B : Int} {l : FLine} (h : lineB s B l = true) : LineOk s B l := by
 simp only [lineB, Bool.and_eq_true, beq_iff_eq, List.all_eq_true, decide_eq_true_eq, Bool.or_eq_true] at h
 exact ⟨h.1, fun x hx => by have := h.2 x hx; exact ⟨⟨this.1.1.1, this.1.1.2⟩, this.1.2, this.2⟩⟩
end Go.Proofs.YtjjapdagllclkaaGreat.Tab
namespace Go.Proofs.YtjjapdagllclkaaGreat.Tab
open Go Go.Abs Go.Proofs
set_option maxRecDepth 1000000
theorem oAt_good {P : Program} {G : Nat → Option (List AVal)} {f : Nat} {fr : Bool} : ∀ {L : List (List AVal × AVal)}, (∀ p ∈ L, OrcGood P G fr f p.1 p.2) → ∀ args v, oAt L args = some v → OrcGood P G fr f args v
  | [], _, args, v, h => by simp [oAt] at h
  | (A, R) :: L, hL, args, v, h => by
    simp only [oAt] at h
    split at h
    · rename_i he
      simp at h
      subst h
      rw [allB_eqA he]
      exact hL (A, R) (by simp)
    · exact oAt_good (fun p hp => hL p (by simp [hp])) args v h
def sPassK : List AVal → Heap → Option (AVal × Heap)
  | [.agg [.int .i64 m, c, t, j], .ref 0 0 0, .agg [.int .i64 kd, .int .i64 rd, .int .i64 du, v]], [some (.row 12 [r])] => match dInts2 c, dStops t, dJobs j, dInts v, dLine r with
    | some cs, some ts, some js, some ms, some l => if (shopE ⟨m, cs, ts⟩ js == 0) && lineB ⟨m, cs, ts⟩ 200000 l && decide (0 ≤ kd) && decide (kd < cs.length) && decide (0 ≤ rd) && decide (rd ≤ 200000) && ((ms.length : Int) == m) && (ms.all fun n => decide (0 ≤ n) && decide (n ≤ 10000)) then
        (match passC ⟨m, cs, ts⟩ l ⟨kd, rd, du, ms⟩ with
          | some r => some (.tup [.vl (r.1.map rI) false, I r.2.1], [some (.row 12 [lineC r.2.2])])
          | none => none) else none
    | _, _, _, _, _ => none
  | _, _ => none
noncomputable def FDK1 : Nat → Option CFn := updG FC1 102 [(229738, [.slot 6])] []
theorem FDK1_ok : TabOk Tryz.prog GG FDK1 := tab_updG FC1_ok
noncomputable def FDK2 : Nat → Option CFn := upd FDK1 102 false (fun _ => none)
theorem FDK2_ok : TabOk Tryz.prog GG FDK2 := tab_add mixed FDK1_ok fun args v ho => by simp at ho
noncomputable def FK0 : Nat → Option CFn := updE FDK2 102 (frameE sPassK)
theorem FK0_ok : TabOk Tryz.prog GG FK0 := tab_frame mixed FDK2_ok fun args h v h' ho => by
  unfold sPassK at ho
  split at ho <;> (try simp only [reduceCtorEq] at ho)
  rename_i m c t j kd rd du vv r
  split at ho <;> (try simp only [reduceCtorEq] at ho)
  rename_i cs ts js ms l hc ht hj hv hl
  split at ho <;> (try simp only [reduceCtorEq] at ho)
  rename_i hg
  split at ho <;> (try simp only [reduceCtorEq] at ho)
  rename_i rr hr
  simp only [Option.some.injEq, Prod.mk.injEq] at ho
  obtain ⟨rfl, rfl⟩ := ho
  obtain ⟨rfl, _⟩ := dLine_eq hl
  simp only [Bool.and_eq_true, beq_iff_eq, decide_eq_true_eq, List.all_eq_true] at hg
  obtain ⟨⟨⟨⟨⟨⟨⟨g1, g2⟩, g3⟩, g4⟩, g5⟩, g6⟩, g7⟩, g8⟩ := hg
  have e := passC_eq hr
  subst e
  exact a102 Tryz.prog FDK2 rfl rfl ⟨m, cs, ts⟩ js c t j hc ht hj kd rd du vv ms l hv ⟨shop_ok g1, lineB_ok g2, ⟨g3, g4⟩, ⟨g5, g6⟩, g7, g8⟩
noncomputable def kS : AVal := .agg [I 2, .vl [[.vl [[I 0], [I 10]] true], [.vl [[I 20], [I 0]] true]] true, .nils]
noncomputable def kJ90 : AVal := (.vl [[I 0, I 0, I 100, (.vl [[I (30)], [I (40)]] true)], [I 1, I 0, I 90, (.vl [[I (20)], [I (20)]] true)], [I 0, I 15, I 130, (.vl [[I (10)], [I (0)]] true)]] true)
noncomputable def kJ100 : AVal := (.vl [[I 0, I 0, I 100, (.vl [[I (30)], [I (40)]] true)], [I 1, I 0, I 100, (.vl [[I (20)], [I (20)]] true)], [I 0, I 15, I 130, (.vl [[I (10)], [I (0)]] true)]] true)
theorem k71_0 : isR (.tup [.nils, .agg [I 0, I 0]]) (callF FK0 (exec Tryz.prog FK0 1000) 71 [.agg [I 2, .vl [[.vl [[I 0], [I 10]] true], [.vl [[I 20], [I 0]] true]] true, .nils, .nils]] []) = true := by kernel_rfl
theorem k71_1 : isR (.tup [(.vl [[I (0)]] false), .agg [I 0, I 70]]) (callF FK0 (exec Tryz.prog FK0 1000) 71 [.agg [I 2, .vl [[.vl [[I 0], [I 10]] true], [.vl [[I 20], [I 0]] true]] true, .nils, (.vl [[I 0, I 0, I 100, (.vl [[I (30)], [I (40)]] true)]] false)]] []) = true := by kernel_rfl
theorem k71_2 : isR (.tup [(.vl [[I (0)]] false), .agg [I 0, I 40]]) (callF FK0 (exec Tryz.prog FK0 1000) 71 [.agg [I 2, .vl [[.vl [[I 0], [I 10]] true], [.vl [[I 20], [I 0]] true]] true, .nils, (.vl [[I 1, I 0, I 90, (.vl [[I (20)], [I (20)]] true)]] false)]] []) = true := by kernel_rfl
theorem k71_3 : isR (.tup [(.vl [[I (0)], [I (1)]] false), .agg [I 10, I 100]]) (callF FK0 (exec Tryz.prog FK0 1000) 71 [.agg [I 2, .vl [[.vl [[I 0], [I 10]] true], [.vl [[I 20], [I 0]] true]] true, .nils, (.vl [[I 0, I 0, I 100, (.vl [[I (30)], [I (40)]] true)], [I 1, I 0, I 90, (.vl [[I (20)], [I (20)]] true)]] false)]] []) = true := by kernel_rfl
theorem k71_4 : isR (.tup [(.vl [[I (0)]] false), .agg [I 0, I 25]]) (callF FK0 (exec Tryz.prog FK0 1000) 71 [.agg [I 2, .vl [[.vl [[I 0], [I 10]] true], [.vl [[I 20], [I 0]] true]] true, .nils, (.vl [[I 0, I 15, I 130, (.vl [[I (10)], [I (0)]] true)]] false)]] []) = true := by kernel_rfl
theorem k71_5 : isR (.tup [(.vl [[I (0)], [I (1)]] false), .agg [I 0, I 70]]) (callF FK0 (exec Tryz.prog FK0 1000) 71 [.agg [I 2, .vl [[.vl [[I 0], [I 10]] true], [.vl [[I 20], [I 0]] true]] true, .nils, (.vl [[I 0, I 0, I 100, (.vl [[I (30)], [I (40)]] true)], [I 0, I 15, I 130, (.vl [[I (10)], [I (0)]] true)]] false)]] []) = true := by kernel_rfl
theorem k71_6 : isR (.tup [(.vl [[I (0)], [I (1)]] false), .agg [I 0, I 50]]) (callF FK0 (exec Tryz.prog FK0 1000) 71 [.agg [I 2, .vl [[.vl [[I 0], [I 10]] true], [.vl [[I 20], [I 0]] true]] true, .nils, (.vl [[I 1, I 0, I 90, (.vl [[I (20)], [I (20)]] true)], [I 0, I 15, I 130, (.vl [[I (10)], [I (0)]] true)]] false)]] []) = true := by kernel_rfl
theorem k71_7 : isR (.tup [(.vl [[I (0)], [I (1)], [I (2)]] false), .agg [I 10, I 100]]) (callF FK0 (exec Tryz.prog FK0 1000) 71 [.agg [I 2, .vl [[.vl [[I 0], [I 10]] true], [.vl [[I 20], [I 0]] true]] true, .nils, (.vl [[I 0, I 0, I 100, (.vl [[I (30)], [I (40)]] true)], [I 1, I 0, I 90, (.vl [[I (20)], [I (20)]] true)], [I 0, I 15, I 130, (.vl [[I (10)], [I (0)]] true)]] false)]] []) = true := by kernel_rfl
theorem k71_8 : isR (.tup [(.vl [[I (0)], [I (1)], [I (2)]] false), .agg [I 10, I 100]]) (callF FK0 (exec Tryz.prog FK0 1000) 71 [.agg [I 2, .vl [[.vl [[I 0], [I 10]] true], [.vl [[I 20], [I 0]] true]] true, .nils, (.vl [[I 0, I 0, I 100, (.vl [[I (30)], [I (40)]] true)], [I 1, I 0, I 90, (.vl [[I (20)], [I (20)]] true)], [I 0, I 15, I 130, (.vl [[I (10)], [I (0)]] true)]] true)]] []) = true := by kernel_rfl
theorem k64_0 : isR (.nils) (callF FK0 (exec Tryz.prog FK0 1000) 64 [.agg [I 2, .vl [[.vl [[I 0], [I 10]] true], [.vl [[I 20], [I 0]] true]] true, .nils, (.vl [[I 0, I 0, I 100, (.vl [[I (30)], [I (40)]] true)], [I 1, I 0, I 100, (.vl [[I (20)], [I (20)]] true)], [I 0, I 15, I 130, (.vl [[I (10)], [I (0)]] true)]] true)], (.vl [[I (0)], [I (1)], [I (2)]] true)] []) = true := by kernel_rfl
theorem k64_1 : isR ((.vl [[I (0)], [I (1)]] false)) (callF FK0 (exec Tryz.prog FK0 1000) 64 [.agg [I 2, .vl [[.vl [[I 0], [I 10]] true], [.vl [[I 20], [I 0]] true]] true, (.vl [[I 1, I 60, I 70]] false), (.vl [[I 0, I 0, I 100, (.vl [[I (30)], [I (40)]] true)], [I 1, I 0, I 100, (.vl [[I (20)], [I (20)]] true)], [I 0, I 15, I 130, (.vl [[I (10)], [I (0)]] true)]] true)], (.vl [[I (0)], [I (1)], [I (2)]] true)] []) = true := by kernel_rfl
theorem k64_0_5000 : isR ((.vl [[I (0)], [I (1)], [I (2)]] false)) (callF FK0 (exec Tryz.prog FK0 1000) 64 [.agg [I 2, .vl [[.vl [[I 0], [I 10]] true], [.vl [[I 20], [I 0]] true]] true, .nils, (.vl [[I 0, I 5000, I 100, (.vl [[I (30)], [I (40)]] true)], [I 1, I 0, I 100, (.vl [[I (20)], [I (20)]] true)], [I 0, I 15, I 130, (.vl [[I (10)], [I (0)]] true)]] false)], (.vl [[I (0)], [I (1)], [I (2)]] true)] []) = true := by kernel_rfl
theorem k64_0_2500 : isR ((.vl [[I (0)], [I (1)], [I (2)]] false)) (callF FK0 (exec Tryz.prog FK0 1000) 64 [.agg [I 2, .vl [[.vl [[I 0], [I 10]] true], [.vl [[I 20], [I 0]] true]] true, .nils, (.vl [[I 0, I 2500, I 100, (.vl [[I (30)], [I (40)]] true)], [I 1, I 0, I 100, (.vl [[I (20)], [I (20)]] true)], [I 0, I 15, I 130, (.vl [[I (10)], [I (0)]] true)]] false)], (.vl [[I (0)], [I (1)], [I (2)]] true)] []) = true := by kernel_rfl
theorem k64_0_1250 : isR ((.vl [[I (0)], [I (1)], [I (2)]] false)) (callF FK0 (exec Tryz.prog FK0 1000) 64 [.agg [I 2, .vl [[.vl [[I 0], [I 10]] true], [.vl [[I 20], [I 0]] true]] true, .nils, (.vl [[I 0, I 1250, I 100, (.vl [[I (30)], [I (40)]] true)], [I 1, I 0, I 100, (.vl [[I (20)], [I (20)]] true)], [I 0, I 15, I 130, (.vl [[I (10)], [I (0)]] true)]] false)], (.vl [[I (0)], [I (1)], [I (2)]] true)] []) = true := by kernel_rfl
theorem k64_0_625 : isR ((.vl [[I (0)], [I (1)], [I (2)]] false)) (callF FK0 (exec Tryz.prog FK0 1000) 64 [.agg [I 2, .vl [[.vl [[I 0], [I 10]] true], [.vl [[I 20], [I 0]] true]] true, .nils, (.vl [[I 0, I 625, I 100, (.vl [[I (30)], [I (40)]] true)], [I 1, I 0, I 100, (.vl [[I (20)], [I (20)]] true)], [I 0, I 15, I 130, (.vl [[I (10)], [I (0)]] true)]] false)], (.vl [[I (0)], [I (1)], [I (2)]] true)] []) = true := by kernel_rfl
theorem k64_0_312 : isR ((.vl [[I (0)], [I (1)], [I (2)]] false)) (callF FK0 (exec Tryz.prog FK0 1000) 64 [.agg [I 2, .vl [[.vl [[I 0], [I 10]] true], [.vl [[I 20], [I 0]] true]] true, .nils, (.vl [[I 0, I 312, I 100, (.vl [[I (30)], [I (40)]] true)], [I 1, I 0, I 100, (.vl [[I (20)], [I (20)]] true)], [I 0, I 15, I 130, (.vl [[I (10)], [I (0)]] true)]] false)], (.vl [[I (0)], [I (1)], [I (2)]] true)] []) = true := by kernel_rfl
theorem k64_0_156 : isR ((.vl [[I (0)], [I (1)], [I (2)]] false)) (callF FK0 (exec Tryz.prog FK0 1000) 64 [.agg [I 2, .vl [[.vl [[I 0], [I 10]] true], [.vl [[I 20], [I 0]] true]] true, .nils, (.vl [[I 0, I 156, I 100, (.vl [[I (30)], [I (40)]] true)], [I 1, I 0, I 100, (.vl [[I (20)], [I (20)]] true)], [I 0, I 15, I 130, (.vl [[I (10)], [I (0)]] true)]] false)], (.vl [[I (0)], [I (1)], [I (2)]] true)] []) = true := by kernel_rfl
theorem k64_0_78 : isR ((.vl [[I (0)], [I (1)], [I (2)]] false)) (callF FK0 (exec Tryz.prog FK0 1000) 64 [.agg [I 2, .vl [[.vl [[I 0], [I 10]] true], [.vl [[I 20], [I 0]] true]] true, .nils, (.vl [[I 0, I 78, I 100, (.vl [[I (30)], [I (40)]] true)], [I 1, I 0, I 100, (.vl [[I (20)], [I (20)]] true)], [I 0, I 15, I 130, (.vl [[I (10)], [I (0)]] true)]] false)], (.vl [[I (0)], [I (1)], [I (2)]] true)] []) = true := by kernel_rfl
theorem k64_0_39 : isR ((.vl [[I (0)], [I (1)]] false)) (callF FK0 (exec Tryz.prog FK0 1000) 64 [.agg [I 2, .vl [[.vl [[I 0], [I 10]] true], [.vl [[I 20], [I 0]] true]] true, .nils, (.vl [[I 0, I 39, I 100, (.vl [[I (30)], [I (40)]] true)], [I 1, I 0, I 100, (.vl [[I (20)], [I (20)]] true)], [I 0, I 15, I 130, (.vl [[I (10)], [I (0)]] true)]] false)], (.vl [[I (0)], [I (1)], [I (2)]] true)] []) = true := by kernel_rfl
theorem k64_0_19 : isR ((.vl [[I (1)]] false)) (callF FK0 (exec Tryz.prog FK0 1000) 64 [.agg [I 2, .vl [[.vl [[I 0], [I 10]] true], [.vl [[I 20], [I 0]] true]] true, .nils, (.vl [[I 0, I 19, I 100, (.vl [[I (30)], [I (40)]] true)], [I 1, I 0, I 100, (.vl [[I (20)], [I (20)]] true)], [I 0, I 15, I 130, (.vl [[I (10)], [I (0)]] true)]] false)], (.vl [[I (0)], [I (1)], [I (2)]] true)] []) = true := by kernel_rfl
theorem k64_0_9 : isR ((.vl [[I (1)]] false)) (callF FK0 (exec Tryz.prog FK0 1000) 64 [.agg [I 2, .vl [[.vl [[I 0], [I 10]] true], [.vl [[I 20], [I 0]] true]] true, .nils, (.vl [[I 0, I 9, I 100, (.vl [[I (30)], [I (40)]] true)], [I 1, I 0, I 100, (.vl [[I (20)], [I (20)]] true)], [I 0, I 15, I 130, (.vl [[I (10)], [I (0)]] true)]] false)], (.vl [[I (0)], [I (1)], [I (2)]] true)] []) = true := by kernel_rfl
theorem k64_0_4 : isR ((.vl [[I (1)]] false)) (callF FK0 (exec Tryz.prog FK0 1000) 64 [.agg [I 2, .vl [[.vl [[I 0], [I 10]] true], [.vl [[I 20], [I 0]] true]] true, .nils, (.vl [[I 0, I 4, I 100, (.vl [[I (30)], [I (40)]] true)], [I 1, I 0, I 100, (.vl [[I (20)], [I (20)]] true)], [I 0, I 15, I 130, (.vl [[I (10)], [I (0)]] true)]] false)], (.vl [[I (0)], [I (1)], [I (2)]] true)] []) = true := by kernel_rfl
theorem k64_0_2 : isR ((.vl [[I (1)]] false)) (callF FK0 (exec Tryz.prog FK0 1000) 64 [.agg [I 2, .vl [[.vl [[I 0], [I 10]] true], [.vl [[I 20], [I 0]] true]] true, .nils, (.vl [[I 0, I 2, I 100, (.vl [[I (30)], [I (40)]] true)], [I 1, I 0, I 100, (.vl [[I (20)], [I (20)]] true)], [I 0, I 15, I 130, (.vl [[I (10)], [I (0)]] true)]] false)], (.vl [[I (0)], [I (1)], [I (2)]] true)] []) = true := by kernel_rfl
theorem k64_0_1 : isR ((.vl [[I (1)]] false)) (callF FK0 (exec Tryz.prog FK0 1000) 64 [.agg [I 2, .vl [[.vl [[I 0], [I 10]] true], [.vl [[I 20], [I 0]] true]] true, .nils, (.vl [[I 0, I 1, I 100, (.vl [[I (30)], [I (40)]] true)], [I 1, I 0, I 100, (.vl [[I (20)], [I (20)]] true)], [I 0, I 15, I 130, (.vl [[I (10)], [I (0)]] true)]] false)], (.vl [[I (0)], [I (1)], [I (2)]] true)] []) = true := by kernel_rfl
theorem k64_1_5000 : isR ((.vl [[I (1)], [I (2)]] false)) (callF FK0 (exec Tryz.prog FK0 1000) 64 [.agg [I 2, .vl [[.vl [[I 0], [I 10]] true], [.vl [[I 20], [I 0]] true]] true, .nils, (.vl [[I 0, I 0, I 100, (.vl [[I (30)], [I (40)]] true)], [I 1, I 5000, I 100, (.vl [[I (20)], [I (20)]] true)], [I 0, I 15, I 130, (.vl [[I (10)], [I (0)]] true)]] false)], (.vl [[I (0)], [I (1)], [I (2)]] true)] []) = true := by kernel_rfl
theorem k64_1_2500 : isR ((.vl [[I (1)], [I (2)]] false)) (callF FK0 (exec Tryz.prog FK0 1000) 64 [.agg [I 2, .vl [[.vl [[I 0], [I 10]] true], [.vl [[I 20], [I 0]] true]] true, .nils, (.vl [[I 0, I 0, I 100, (.vl [[I (30)], [I (40)]] true)], [I 1, I 2500, I 100, (.vl [[I (20)], [I (20)]] true)], [I 0, I 15, I 130, (.vl [[I (10)], [I (0)]] true)]] false)], (.vl [[I (0)], [I (1)], [I (2)]] true)] []) = true := by kernel_rfl
theorem k64_1_1250 : isR ((.vl [[I (1)], [I (2)]] false)) (callF FK0 (exec Tryz.prog FK0 1000) 64 [.agg [I 2, .vl [[.vl [[I 0], [I 10]] true], [.vl [[I 20], [I 0]] true]] true, .nils, (.vl [[I 0, I 0, I 100, (.vl [[I (30)], [I (40)]] true)], [I 1, I 1250, I 100, (.vl [[I (20)], [I (20)]] true)], [I 0, I 15, I 130, (.vl [[I (10)], [I (0)]] true)]] false)], (.vl [[I (0)], [I (1)], [I (2)]] true)] []) = true := by kernel_rfl
theorem k64_1_625 : isR ((.vl [[I (1)], [I (2)]] false)) (callF FK0 (exec Tryz.prog FK0 1000) 64 [.agg [I 2, .vl [[.vl [[I 0], [I 10]] true], [.vl [[I 20], [I 0]] true]] true, .nils, (.vl [[I 0, I 0, I 100, (.vl [[I (30)], [I (40)]] true)], [I 1, I 625, I 100, (.vl [[I (20)], [I (20)]] true)], [I 0, I 15, I 130, (.vl [[I (10)], [I (0)]] true)]] false)], (.vl [[I (0)], [I (1)], [I (2)]] true)] []) = true := by kernel_rfl
theorem k64_1_312 : isR ((.vl [[I (1)], [I (2)]] false)) (callF FK0 (exec Tryz.prog FK0 1000) 64 [.agg [I 2, .vl [[.vl [[I 0], [I 10]] true], [.vl [[I 20], [I 0]] true]] true, .nils, (.vl [[I 0, I 0, I 100, (.vl [[I (30)], [I (40)]] true)], [I 1, I 312, I 100, (.vl [[I (20)], [I (20)]] true)], [I 0, I 15, I 130, (.vl [[I (10)], [I (0)]] true)]] false)], (.vl [[I (0)], [I (1)], [I (2)]] true)] []) = true := by kernel_rfl
theorem k64_1_156 : isR ((.vl [[I (1)], [I (2)]] false)) (callF FK0 (exec Tryz.prog FK0 1000) 64 [.agg [I 2, .vl [[.vl [[I 0], [I 10]] true], [.vl [[I 20], [I 0]] true]] true, .nils, (.vl [[I 0, I 0, I 100, (.vl [[I (30)], [I (40)]] true)], [I 1, I 156, I 100, (.vl [[I (20)], [I (20)]] true)], [I 0, I 15, I 130, (.vl [[I (10)], [I (0)]] true)]] false)], (.vl [[I (0)], [I (1)], [I (2)]] true)] []) = true := by kernel_rfl
theorem k64_1_78 : isR ((.vl [[I (1)]] false)) (callF FK0 (exec Tryz.prog FK0 1000) 64 [.agg [I 2, .vl [[.vl [[I 0], [I 10]] true], [.vl [[I 20], [I 0]] true]] true, .nils, (.vl [[I 0, I 0, I 100, (.vl [[I (30)], [I (40)]] true)], [I 1, I 78, I 100, (.vl [[I (20)], [I (20)]] true)], [I 0, I 15, I 130, (.vl [[I (10)], [I (0)]] true)]] false)], (.vl [[I (0)], [I (1)], [I (2)]] true)] []) = true := by kernel_rfl
theorem k64_1_39 : isR (.nils) (callF FK0 (exec Tryz.prog FK0 1000) 64 [.agg [I 2, .vl [[.vl [[I 0], [I 10]] true], [.vl [[I 20], [I 0]] true]] true, .nils, (.vl [[I 0, I 0, I 100, (.vl [[I (30)], [I (40)]] true)], [I 1, I 39, I 100, (.vl [[I (20)], [I (20)]] true)], [I 0, I 15, I 130, (.vl [[I (10)], [I (0)]] true)]] false)], (.vl [[I (0)], [I (1)], [I (2)]] true)] []) = true := by kernel_rfl
theorem k64_1_58 : isR (.nils) (callF FK0 (exec Tryz.prog FK0 1000) 64 [.agg [I 2, .vl [[.vl [[I 0], [I 10]] true], [.vl [[I 20], [I 0]] true]] true, .nils, (.vl [[I 0, I 0, I 100, (.vl [[I (30)], [I (40)]] true)], [I 1, I 58, I 100, (.vl [[I (20)], [I (20)]] true)], [I 0, I 15, I 130, (.vl [[I (10)], [I (0)]] true)]] false)], (.vl [[I (0)], [I (1)], [I (2)]] true)] []) = true := by kernel_rfl
theorem k64_1_68 : isR ((.vl [[I (1)]] false)) (callF FK0 (exec Tryz.prog FK0 1000) 64 [.agg [I 2, .vl [[.vl [[I 0], [I 10]] true], [.vl [[I 20], [I 0]] true]] true, .nils, (.vl [[I 0, I 0, I 100, (.vl [[I (30)], [I (40)]] true)], [I 1, I 68, I 100, (.vl [[I (20)], [I (20)]] true)], [I 0, I 15, I 130, (.vl [[I (10)], [I (0)]] true)]] false)], (.vl [[I (0)], [I (1)], [I (2)]] true)] []) = true := by kernel_rfl
theorem k64_1_63 : isR ((.vl [[I (1)]] false)) (callF FK0 (exec Tryz.prog FK0 1000) 64 [.agg [I 2, .vl [[.vl [[I 0], [I 10]] true], [.vl [[I 20], [I 0]] true]] true, .nils, (.vl [[I 0, I 0, I 100, (.vl [[I (30)], [I (40)]] true)], [I 1, I 63, I 100, (.vl [[I (20)], [I (20)]] true)], [I 0, I 15, I 130, (.vl [[I (10)], [I (0)]] true)]] false)], (.vl [[I (0)], [I (1)], [I (2)]] true)] []) = true := by kernel_rfl
theorem k64_1_60 : isR (.nils) (callF FK0 (exec Tryz.prog FK0 1000) 64 [.agg [I 2, .vl [[.vl [[I 0], [I 10]] true], [.vl [[I 20], [I 0]] true]] true, .nils, (.vl [[I 0, I 0, I 100, (.vl [[I (30)], [I (40)]] true)], [I 1, I 60, I 100, (.vl [[I (20)], [I (20)]] true)], [I 0, I 15, I 130, (.vl [[I (10)], [I (0)]] true)]] false)], (.vl [[I (0)], [I (1)], [I (2)]] true)] []) = true := by kernel_rfl
theorem k64_1_61 : isR ((.vl [[I (1)]] false)) (callF FK0 (exec Tryz.prog FK0 1000) 64 [.agg [I 2, .vl [[.vl [[I 0], [I 10]] true], [.vl [[I 20], [I 0]] true]] true, .nils, (.vl [[I 0, I 0, I 100, (.vl [[I (30)], [I (40)]] true)], [I 1, I 61, I 100, (.vl [[I (20)], [I (20)]] true)], [I 0, I 15, I 130, (.vl [[I (10)], [I (0)]] true)]] false)], (.vl [[I (0)], [I (1)], [I (2)]] true)] []) = true := by kernel_rfl
noncomputable def kL71 : List (List AVal × AVal) := [([.agg [I 2, .vl [[.vl [[I 0], [I 10]] true], [.vl [[I 20], [I 0]] true]] true, .nils, .nils]], .tup [.nils, .agg [I 0, I 0]]), ([.agg [I 2, .vl [[.vl [[I 0], [I 10]] true], [.vl [[I 20], [I 0]] true]] true, .nils, (.vl [[I 0, I 0, I 100, (.vl [[I (30)], [I (40)]] true)]] false)]], .tup [(.vl [[I (0)]] false), .agg [I 0, I 70]]), ([.agg [I 2, .vl [[.vl [[I 0], [I 10]] true], [.vl [[I 20], [I 0]] true]] true, .nils, (.vl [[I 1, I 0, I 90, (.vl [[I (20)], [I (20)]] true)]] false)]], .tup [(.vl [[I (0)]] false), .agg [I 0, I 40]]), ([.agg [I 2, .vl [[.vl [[I 0], [I 10]] true], [.vl [[I 20], [I 0]] true]] true, .nils, (.vl [[I 0, I 0, I 100, (.vl [[I (30)], [I (40)]] true)], [I 1, I 0, I 90, (.vl [[I (20)], [I (20)]] true)]] false)]], .tup [(.vl [[I (0)], [I (1)]] false), .agg [I 10, I 100]]), ([.agg [I 2, .vl [[.vl [[I 0], [I 10]] true], [.vl [[I 20], [I 0]] true]] true, .nils, (.vl [[I 0, I 15, I 130, (.vl [[I (10)], [I (0)]] true)]] false)]], .tup [(.vl [[I (0)]] false), .agg [I 0, I 25]]), ([.agg [I 2, .vl [[.vl [[I 0], [I 10]] true], [.vl [[I 20], [I 0]] true]] true, .nils, (.vl [[I 0, I 0, I 100, (.vl [[I (30)], [I (40)]] true)], [I 0, I 15, I 130, (.vl [[I (10)], [I (0)]] true)]] false)]], .tup [(.vl [[I (0)], [I (1)]] false), .agg [I 0, I 70]]), ([.agg [I 2, .vl [[.vl [[I 0], [I 10]] true], [.vl [[I 20], [I 0]] true]] true, .nils, (.vl [[I 1, I 0, I 90, (.vl [[I (20)], [I (20)]] true)], [I 0, I 15, I 130, (.vl [[I (10)], [I (0)]] true)]] false)]], .tup [(.vl [[I (0)], [I (1)]] false), .agg [I 0, I 50]]), ([.agg [I 2, .vl [[.vl [[I 0], [I 10]] true], [.vl [[I 20], [I 0]] true]] true, .nils, (.vl [[I 0, I 0, I 100, (.vl [[I (30)], [I (40)]] true)], [I 1, I 0, I 90, (.vl [[I (20)], [I (20)]] true)], [I 0, I 15, I 130, (.vl [[I (10)], [I (0)]] true)]] false)]], .tup [(.vl [[I (0)], [I (1)], [I (2)]] false), .agg [I 10, I 100]]), ([.agg [I 2, .vl [[.vl [[I 0], [I 10]] true], [.vl [[I 20], [I 0]] true]] true, .nils, (.vl [[I 0, I 0, I 100, (.vl [[I (30)], [I (40)]] true)], [I 1, I 0, I 90, (.vl [[I (20)], [I (20)]] true)], [I 0, I 15, I 130, (.vl [[I (10)], [I (0)]] true)]] true)]], .tup [(.vl [[I (0)], [I (1)], [I (2)]] false), .agg [I 10, I 100]])]
noncomputable def FKa1 : Nat → Option CFn := upd FK0 71 true (oAt kL71)
theorem FKa1_ok : TabOk Tryz.prog GG FKa1 := tab_upd FK0_ok (oAt_good fun p hp => by
  simp only [kL71, List.mem_cons, List.not_mem_nil, or_false] at hp
  rcases hp with rfl | rfl | rfl | rfl | rfl | rfl | rfl | rfl | rfl
  · exact orc_of mixed FK0_ok (isR_answers k71_0)
  · exact orc_of mixed FK0_ok (isR_answers k71_1)
  · exact orc_of mixed FK0_ok (isR_answers k71_2)
  · exact orc_of mixed FK0_ok (isR_answers k71_3)
  · exact orc_of mixed FK0_ok (isR_answers k71_4)
  · exact orc_of mixed FK0_ok (isR_answers k71_5)
  · exact orc_of mixed FK0_ok (isR_answers k71_6)
  · exact orc_of mixed FK0_ok (isR_answers k71_7)
  · exact orc_of mixed FK0_ok (isR_answers k71_8))
noncomputable def kL64 : List (List AVal × AVal) := [([.agg [I 2, .vl [[.vl [[I 0], [I 10]] true], [.vl [[I 20], [I 0]] true]] true, .nils, (.vl [[I 0, I 0, I 100, (.vl [[I (30)], [I (40)]] true)], [I 1, I 0, I 100, (.vl [[I (20)], [I (20)]] true)], [I 0, I 15, I 130, (.vl [[I (10)], [I (0)]] true)]] true)], (.vl [[I (0)], [I (1)], [I (2)]] true)], .nils), ([.agg [I 2, .vl [[.vl [[I 0], [I 10]] true], [.vl [[I 20], [I 0]] true]] true, (.vl [[I 1, I 60, I 70]] false), (.vl [[I 0, I 0, I 100, (.vl [[I (30)], [I (40)]] true)], [I 1, I 0, I 100, (.vl [[I (20)], [I (20)]] true)], [I 0, I 15, I 130, (.vl [[I (10)], [I (0)]] true)]] true)], (.vl [[I (0)], [I (1)], [I (2)]] true)], (.vl [[I (0)], [I (1)]] false)), ([.agg [I 2, .vl [[.vl [[I 0], [I 10]] true], [.vl [[I 20], [I 0]] true]] true, .nils, (.vl [[I 0, I 5000, I 100, (.vl [[I (30)], [I (40)]] true)], [I 1, I 0, I 100, (.vl [[I (20)], [I (20)]] true)], [I 0, I 15, I 130, (.vl [[I (10)], [I (0)]] true)]] false)], (.vl [[I (0)], [I (1)], [I (2)]] true)], (.vl [[I (0)], [I (1)], [I (2)]] false)), ([.agg [I 2, .vl [[.vl [[I 0], [I 10]] true], [.vl [[I 20], [I 0]] true]] true, .nils, (.vl [[I 0, I 2500, I 100, (.vl [[I (30)], [I (40)]] true)], [I 1, I 0, I 100, (.vl [[I (20)], [I (20)]] true)], [I 0, I 15, I 130, (.vl [[I (10)], [I (0)]] true)]] false)], (.vl [[I (0)], [I (1)], [I (2)]] true)], (.vl [[I (0)], [I (1)], [I (2)]] false)), ([.agg [I 2, .vl [[.vl [[I 0], [I 10]] true], [.vl [[I 20], [I 0]] true]] true, .nils, (.vl [[I 0, I 1250, I 100, (.vl [[I (30)], [I (40)]] true)], [I 1, I 0, I 100, (.vl [[I (20)], [I (20)]] true)], [I 0, I 15, I 130, (.vl [[I (10)], [I (0)]] true)]] false)], (.vl [[I (0)], [I (1)], [I (2)]] true)], (.vl [[I (0)], [I (1)], [I (2)]] false)), ([.agg [I 2, .vl [[.vl [[I 0], [I 10]] true], [.vl [[I 20], [I 0]] true]] true, .nils, (.vl [[I 0, I 625, I 100, (.vl [[I (30)], [I (40)]] true)], [I 1, I 0, I 100, (.vl [[I (20)], [I (20)]] true)], [I 0, I 15, I 130, (.vl [[I (10)], [I (0)]] true)]] false)], (.vl [[I (0)], [I (1)], [I (2)]] true)], (.vl [[I (0)], [I (1)], [I (2)]] false)), ([.agg [I 2, .vl [[.vl [[I 0], [I 10]] true], [.vl [[I 20], [I 0]] true]] true, .nils, (.vl [[I 0, I 312, I 100, (.vl [[I (30)], [I (40)]] true)], [I 1, I 0, I 100, (.vl [[I (20)], [I (20)]] true)], [I 0, I 15, I 130, (.vl [[I (10)], [I (0)]] true)]] false)], (.vl [[I (0)], [I (1)], [I (2)]] true)], (.vl [[I (0)], [I (1)], [I (2)]] false)), ([.agg [I 2, .vl [[.vl [[I 0], [I 10]] true], [.vl [[I 20], [I 0]] true]] true, .nils, (.vl [[I 0, I 156, I 100, (.vl [[I (30)], [I (40)]] true)], [I 1, I 0, I 100, (.vl [[I (20)], [I (20)]] true)], [I 0, I 15, I 130, (.vl [[I (10)], [I (0)]] true)]] false)], (.vl [[I (0)], [I (1)], [I (2)]] true)], (.vl [[I (0)], [I (1)], [I (2)]] false)), ([.agg [I 2, .vl [[.vl [[I 0], [I 10]] true], [.vl [[I 20], [I 0]] true]] true, .nils, (.vl [[I 0, I 78, I 100, (.vl [[I (30)], [I (40)]] true)], [I 1, I 0, I 100, (.vl [[I (20)], [I (20)]] true)], [I 0, I 15, I 130, (.vl [[I (10)], [I (0)]] true)]] false)], (.vl [[I (0)], [I (1)], [I (2)]] true)], (.vl [[I (0)], [I (1)], [I (2)]] false)), ([.agg [I 2, .vl [[.vl [[I 0], [I 10]] true], [.vl [[I 20], [I 0]] true]] true, .nils, (.vl [[I 0, I 39, I 100, (.vl [[I (30)], [I (40)]] true)], [I 1, I 0, I 100, (.vl [[I (20)], [I (20)]] true)], [I 0, I 15, I 130, (.vl [[I (10)], [I (0)]] true)]] false)], (.vl [[I (0)], [I (1)], [I (2)]] true)], (.vl [[I (0)], [I (1)]] false)), ([.agg [I 2, .vl [[.vl [[I 0], [I 10]] true], [.vl [[I 20], [I 0]] true]] true, .nils, (.vl [[I 0, I 19, I 100, (.vl [[I (30)], [I (40)]] true)], [I 1, I 0, I 100, (.vl [[I (20)], [I (20)]] true)], [I 0, I 15, I 130, (.vl [[I (10)], [I (0)]] true)]] false)], (.vl [[I (0)], [I (1)], [I (2)]] true)], (.vl [[I (1)]] false)), ([.agg [I 2, .vl [[.vl [[I 0], [I 10]] true], [.vl [[I 20], [I 0]] true]] true, .nils, (.vl [[I 0, I 9, I 100, (.vl [[I (30)], [I (40)]] true)], [I 1, I 0, I 100, (.vl [[I (20)], [I (20)]] true)], [I 0, I 15, I 130, (.vl [[I (10)], [I (0)]] true)]] false)], (.vl [[I (0)], [I (1)], [I (2)]] true)], (.vl [[I (1)]] false)), ([.agg [I 2, .vl [[.vl [[I 0], [I 10]] true], [.vl [[I 20], [I 0]] true]] true, .nils, (.vl [[I 0, I 4, I 100, (.vl [[I (30)], [I (40)]] true)], [I 1, I 0, I 100, (.vl [[I (20)], [I (20)]] true)], [I 0, I 15, I 130, (.vl [[I (10)], [I (0)]] true)]] false)], (.vl [[I (0)], [I (1)], [I (2)]] true)], (.vl [[I (1)]] false)), ([.agg [I 2, .vl [[.vl [[I 0], [I 10]] true], [.vl [[I 20], [I 0]] true]] true, .nils, (.vl [[I 0, I 2, I 100, (.vl [[I (30)], [I (40)]] true)], [I 1, I 0, I 100, (.vl [[I (20)], [I (20)]] true)], [I 0, I 15, I 130, (.vl [[I (10)], [I (0)]] true)]] false)], (.vl [[I (0)], [I (1)], [I (2)]] true)], (.vl [[I (1)]] false)), ([.agg [I 2, .vl [[.vl [[I 0], [I 10]] true], [.vl [[I 20], [I 0]] true]] true, .nils, (.vl [[I 0, I 1, I 100, (.vl [[I (30)], [I (40)]] true)], [I 1, I 0, I 100, (.vl [[I (20)], [I (20)]] true)], [I 0, I 15, I 130, (.vl [[I (10)], [I (0)]] true)]] false)], (.vl [[I (0)], [I (1)], [I (2)]] true)], (.vl [[I (1)]] false)), ([.agg [I 2, .vl [[.vl [[I 0], [I 10]] true], [.vl [[I 20], [I 0]] true]] true, .nils, (.vl [[I 0, I 0, I 100, (.vl [[I (30)], [I (40)]] true)], [I 1, I 5000, I 100, (.vl [[I (20)], [I (20)]] true)], [I 0, I 15, I 130, (.vl [[I (10)], [I (0)]] true)]] false)], (.vl [[I (0)], [I (1)], [I (2)]] true)], (.vl [[I (1)], [I (2)]] false)), ([.agg [I 2, .vl [[.vl [[I 0], [I 10]] true], [.vl [[I 20], [I 0]] true]] true, .nils, (.vl [[I 0, I 0, I 100, (.vl [[I (30)], [I (40)]] true)], [I 1, I 2500, I 100, (.vl [[I (20)], [I (20)]] true)], [I 0, I 15, I 130, (.vl [[I (10)], [I (0)]] true)]] false)], (.vl [[I (0)], [I (1)], [I (2)]] true)], (.vl [[I (1)], [I (2)]] false)), ([.agg [I 2, .vl [[.vl [[I 0], [I 10]] true], [.vl [[I 20], [I 0]] true]] true, .nils, (.vl [[I 0, I 0, I 100, (.vl [[I (30)], [I (40)]] true)], [I 1, I 1250, I 100, (.vl [[I (20)], [I (20)]] true)], [I 0, I 15, I 130, (.vl [[I (10)], [I (0)]] true)]] false)], (.vl [[I (0)], [I (1)], [I (2)]] true)], (.vl [[I (1)], [I (2)]] false)), ([.agg [I 2, .vl [[.vl [[I 0], [I 10]] true], [.vl [[I 20], [I 0]] true]] true, .nils, (.vl [[I 0, I 0, I 100, (.vl [[I (30)], [I (40)]] true)], [I 1, I 625, I 100, (.vl [[I (20)], [I (20)]] true)], [I 0, I 15, I 130, (.vl [[I (10)], [I (0)]] true)]] false)], (.vl [[I (0)], [I (1)], [I (2)]] true)], (.vl [[I (1)], [I (2)]] false)), ([.agg [I 2, .vl [[.vl [[I 0], [I 10]] true], [.vl [[I 20], [I 0]] true]] true, .nils, (.vl [[I 0, I 0, I 100, (.vl [[I (30)], [I (40)]] true)], [I 1, I 312, I 100, (.vl [[I (20)], [I (20)]] true)], [I 0, I 15, I 130, (.vl [[I (10)], [I (0)]] true)]] false)], (.vl [[I (0)], [I (1)], [I (2)]] true)], (.vl [[I (1)], [I (2)]] false)), ([.agg [I 2, .vl [[.vl [[I 0], [I 10]] true], [.vl [[I 20], [I 0]] true]] true, .nils, (.vl [[I 0, I 0, I 100, (.vl [[I (30)], [I (40)]] true)], [I 1, I 156, I 100, (.vl [[I (20)], [I (20)]] true)], [I 0, I 15, I 130, (.vl [[I (10)], [I (0)]] true)]] false)], (.vl [[I (0)], [I (1)], [I (2)]] true)], (.vl [[I (1)], [I (2)]] false)), ([.agg [I 2, .vl [[.vl [[I 0], [I 10]] true], [.vl [[I 20], [I 0]] true]] true, .nils, (.vl [[I 0, I 0, I 100, (.vl [[I (30)], [I (40)]] true)], [I 1, I 78, I 100, (.vl [[I (20)], [I (20)]] true)], [I 0, I 15, I 130, (.vl [[I (10)], [I (0)]] true)]] false)], (.vl [[I (0)], [I (1)], [I (2)]] true)], (.vl [[I (1)]] false)), ([.agg [I 2, .vl [[.vl [[I 0], [I 10]] true], [.vl [[I 20], [I 0]] true]] true, .nils, (.vl [[I 0, I 0, I 100, (.vl [[I (30)], [I (40)]] true)], [I 1, I 39, I 100, (.vl [[I (20)], [I (20)]] true)], [I 0, I 15, I 130, (.vl [[I (10)], [I (0)]] true)]] false)], (.vl [[I (0)], [I (1)], [I (2)]] true)], .nils), ([.agg [I 2, .vl [[.vl [[I 0], [I 10]] true], [.vl [[I 20], [I 0]] true]] true, .nils, (.vl [[I 0, I 0, I 100, (.vl [[I (30)], [I (40)]] true)], [I 1, I 58, I 100, (.vl [[I (20)], [I (20)]] true)], [I 0, I 15, I 130, (.vl [[I (10)], [I (0)]] true)]] false)], (.vl [[I (0)], [I (1)], [I (2)]] true)], .nils), ([.agg [I 2, .vl [[.vl [[I 0], [I 10]] true], [.vl [[I 20], [I 0]] true]] true, .nils, (.vl [[I 0, I 0, I 100, (.vl [[I (30)], [I (40)]] true)], [I 1, I 68, I 100, (.vl [[I (20)], [I (20)]] true)], [I 0, I 15, I 130, (.vl [[I (10)], [I (0)]] true)]] false)], (.vl [[I (0)], [I (1)], [I (2)]] true)], (.vl [[I (1)]] false)), ([.agg [I 2, .vl [[.vl [[I 0], [I 10]] true], [.vl [[I 20], [I 0]] true]] true, .nils, (.vl [[I 0, I 0, I 100, (.vl [[I (30)], [I (40)]] true)], [I 1, I 63, I 100, (.vl [[I (20)], [I (20)]] true)], [I 0, I 15, I 130, (.vl [[I (10)], [I (0)]] true)]] false)], (.vl [[I (0)], [I (1)], [I (2)]] true)], (.vl [[I (1)]] false)), ([.agg [I 2, .vl [[.vl [[I 0], [I 10]] true], [.vl [[I 20], [I 0]] true]] true, .nils, (.vl [[I 0, I 0, I 100, (.vl [[I (30)], [I (40)]] true)], [I 1, I 60, I 100, (.vl [[I (20)], [I (20)]] true)], [I 0, I 15, I 130, (.vl [[I (10)], [I (0)]] true)]] false)], (.vl [[I (0)], [I (1)], [I (2)]] true)], .nils), ([.agg [I 2, .vl [[.vl [[I 0], [I 10]] true], [.vl [[I 20], [I 0]] true]] true, .nils, (.vl [[I 0, I 0, I 100, (.vl [[I (30)], [I (40)]] true)], [I 1, I 61, I 100, (.vl [[I (20)], [I (20)]] true)], [I 0, I 15, I 130, (.vl [[I (10)], [I (0)]] true)]] false)], (.vl [[I (0)], [I (1)], [I (2)]] true)], (.vl [[I (1)]] false))]
noncomputable def FKa2 : Nat → Option CFn := upd FKa1 64 true (oAt kL64)
theorem FKa2_ok : TabOk Tryz.prog GG FKa2 := tab_upd FKa1_ok (oAt_good fun p hp => by
  simp only [kL64, List.mem_cons, List.not_mem_nil, or_false] at hp
  rcases hp with rfl | rfl | rfl | rfl | rfl | rfl | rfl | rfl | rfl | rfl | rfl | rfl | rfl | rfl | rfl | rfl | rfl | rfl | rfl | rfl | rfl | rfl | rfl | rfl | rfl | rfl | rfl | rfl
  · exact orc_of mixed FK0_ok (isR_answers k64_0)
  · exact orc_of mixed FK0_ok (isR_answers k64_1)
  · exact orc_of mixed FK0_ok (isR_answers k64_0_5000)
  · exact orc_of mixed FK0_ok (isR_answers k64_0_2500)
  · exact orc_of mixed FK0_ok (isR_answers k64_0_1250)
  · exact orc_of mixed FK0_ok (isR_answers k64_0_625)
  · exact orc_of mixed FK0_ok (isR_answers k64_0_312)
  · exact orc_of mixed FK0_ok (isR_answers k64_0_156)
  · exact orc_of mixed FK0_ok (isR_answers k64_0_78)
  · exact orc_of mixed FK0_ok (isR_answers k64_0_39)
  · exact orc_of mixed FK0_ok (isR_answers k64_0_19)
  · exact orc_of mixed FK0_ok (isR_answers k64_0_9)
  · exact orc_of mixed FK0_ok (isR_answers k64_0_4)
  · exact orc_of mixed FK0_ok (isR_answers k64_0_2)
  · exact orc_of mixed FK0_ok (isR_answers k64_0_1)
  · exact orc_of mixed FK0_ok (isR_answers k64_1_5000)
  · exact orc_of mixed FK0_ok (isR_answers k64_1_2500)
  · exact orc_of mixed FK0_ok (isR_answers k64_1_1250)
  · exact orc_of mixed FK0_ok (isR_answers k64_1_625)
  · exact orc_of mixed FK0_ok (isR_answers k64_1_312)
  · exact orc_of mixed FK0_ok (isR_answers k64_1_156)
  · exact orc_of mixed FK0_ok (isR_answers k64_1_78)
  · exact orc_of mixed FK0_ok (isR_answers k64_1_39)
  · exact orc_of mixed FK0_ok (isR_answers k64_1_58)
  · exact orc_of mixed FK0_ok (isR_answers k64_1_68)
  · exact orc_of mixed FK0_ok (isR_answers k64_1_63)
  · exact orc_of mixed FK0_ok (isR_answers k64_1_60)
  · exact orc_of mixed FK0_ok (isR_answers k64_1_61))
theorem k43 : isR (.tup [.vl [[(.vl [[I (40)], [I (70)]] false)], [(.vl [[I (0)], [I (20)]] false)], [(.vl [[I (70)], [I (80)]] false)]] true, I 0]) (callF FA3 (exec Tryz.prog FA3 1000) 43 [kS, kJ90, (.vl [[I (1)], [I (0)], [I (2)]] true)] []) = true := by kernel_rfl
theorem k19 : isR (.tup [I 1, I 10, I 110, I 0]) (callF FA3 (exec Tryz.prog FA3 1000) 19 [kS, kJ90, (.vl [[I (1)], [I (0)], [I (2)]] true)] []) = true := by kernel_rfl
theorem k29 : isR (.tup [(.vl [[I (0)], [I (1)], [I (2)]] false), I 0]) (callF FK0 (exec Tryz.prog FK0 1000) 29 [kS, kJ90] []) = true := by kernel_rfl
theorem k33 : isR (.tup [(.vl [[I (0)], [I (1)]] false), I 0]) (callF FKa2 (exec Tryz.prog FKa2 1000) 33 [kS, kJ90] []) = true := by kernel_rfl
theorem k30 : isR (.tup [I 80, I 0]) (callF FA3 (exec Tryz.prog FA3 1000) 30 [kS, kJ90] []) = true := by kernel_rfl
theorem k20 : isR (.tup [(.vl [[I (2)], [I (1)]] false), I 0]) (callF FA3 (exec Tryz.prog FA3 1000) 20 [kS, kJ90, (.vl [[I (0)], [I (1)], [I (2)]] true)] []) = true := by kernel_rfl
theorem k38a : isR (.tup [I 0, I 0]) (callF FKa2 (exec Tryz.prog FKa2 1000) 38 [kS, kJ100, (.vl [[I (0)], [I (1)], [I (2)]] true), I 0] []) = true := by kernel_rfl
theorem k38b : isR (.tup [I 60, I 0]) (callF FKa2 (exec Tryz.prog FKa2 1000) 38 [kS, kJ100, (.vl [[I (0)], [I (1)], [I (2)]] true), I 1] []) = true := by kernel_rfl
theorem k35 : isR (.tup [(.vl [[I (0)], [I (1)]] false), I 0]) (callF FA3 (exec Tryz.prog FA3 1000) 35 [kS, kJ100, (.vl [[I (0)], [I (1)], [I (2)]] true), .agg [I 1, I 60, I 70]] []) = true := by kernel_rfl
noncomputable def kL43 : List (List AVal × AVal) := [([kS, kJ90, (.vl [[I (1)], [I (0)], [I (2)]] true)], .tup [.vl [[(.vl [[I (40)], [I (70)]] false)], [(.vl [[I (0)], [I (20)]] false)], [(.vl [[I (70)], [I (80)]] false)]] true, I 0])]
noncomputable def FKb1 : Nat → Option CFn := upd FA3 43 true (oAt kL43)
theorem FKb1_ok : TabOk Tryz.prog GG FKb1 := tab_upd FA3_ok (oAt_good fun p hp => by
  simp only [kL43, List.mem_cons, List.not_mem_nil, or_false] at hp
  subst hp
  exact orc_of mixed FA3_ok (isR_answers k43))
noncomputable def kL19 : List (List AVal × AVal) := [([kS, kJ90, (.vl [[I (1)], [I (0)], [I (2)]] true)], .tup [I 1, I 10, I 110, I 0])]
noncomputable def FKb2 : Nat → Option CFn := upd FKb1 19 true (oAt kL19)
theorem FKb2_ok : TabOk Tryz.prog GG FKb2 := tab_upd FKb1_ok (oAt_good fun p hp => by
  simp only [kL19, List.mem_cons, List.not_mem_nil, or_false] at hp
  subst hp
  exact orc_of mixed FA3_ok (isR_answers k19))
noncomputable def kL29 : List (List AVal × AVal) := [([kS, kJ90], .tup [(.vl [[I (0)], [I (1)], [I (2)]] false), I 0])]
noncomputable def FKb3 : Nat → Option CFn := upd FKb2 29 true (oAt kL29)
theorem FKb3_ok : TabOk Tryz.prog GG FKb3 := tab_upd FKb2_ok (oAt_good fun p hp => by
  simp only [kL29, List.mem_cons, List.not_mem_nil, or_false] at hp
  subst hp
  exact orc_of mixed FK0_ok (isR_answers k29))
noncomputable def kL33 : List (List AVal × AVal) := [([kS, kJ90], .tup [(.vl [[I (0)], [I (1)]] false), I 0])]
noncomputable def FKb4 : Nat → Option CFn := upd FKb3 33 true (oAt kL33)
theorem FKb4_ok : TabOk Tryz.prog GG FKb4 := tab_upd FKb3_ok (oAt_good fun p hp => by
  simp only [kL33, List.mem_cons, List.not_mem_nil, or_false] at hp
  subst hp
  exact orc_of mixed FKa2_ok (isR_answers k33))
noncomputable def kL30 : List (List AVal × AVal) := [([kS, kJ90], .tup [I 80, I 0])]
noncomputable def FKb5 : Nat → Option CFn := upd FKb4 30 true (oAt kL30)
theorem FKb5_ok : TabOk Tryz.prog GG FKb5 := tab_upd FKb4_ok (oAt_good fun p hp => by
  simp only [kL30, List.mem_cons, List.not_mem_nil, or_false] at hp
  subst hp
  exact orc_of mixed FA3_ok (isR_answers k30))
noncomputable def kL20 : List (List AVal × AVal) := [([kS, kJ90, (.vl [[I (0)], [I (1)], [I (2)]] true)], .tup [(.vl [[I (2)], [I (1)]] false), I 0])]
noncomputable def FKb6 : Nat → Option CFn := upd FKb5 20 true (oAt kL20)
theorem FKb6_ok : TabOk Tryz.prog GG FKb6 := tab_upd FKb5_ok (oAt_good fun p hp => by
  simp only [kL20, List.mem_cons, List.not_mem_nil, or_false] at hp
  subst hp
  exact orc_of mixed FA3_ok (isR_answers k20))
noncomputable def kL38 : List (List AVal × AVal) := [([kS, kJ100, (.vl [[I (0)], [I (1)], [I (2)]] true), I 0], .tup [I 0, I 0]), ([kS, kJ100, (.vl [[I (0)], [I (1)], [I (2)]] true), I 1], .tup [I 60, I 0])]
noncomputable def FKb7 : Nat → Option CFn := upd FKb6 38 true (oAt kL38)
theorem FKb7_ok : TabOk Tryz.prog GG FKb7 := tab_upd FKb6_ok (oAt_good fun p hp => by
  simp only [kL38, List.mem_cons, List.not_mem_nil, or_false] at hp
  rcases hp with rfl | rfl
  · exact orc_of mixed FKa2_ok (isR_answers k38a)
  · exact orc_of mixed FKa2_ok (isR_answers k38b))
noncomputable def kL35 : List (List AVal × AVal) := [([kS, kJ100, (.vl [[I (0)], [I (1)], [I (2)]] true), .agg [I 1, I 60, I 70]], .tup [(.vl [[I (0)], [I (1)]] false), I 0])]
noncomputable def FKb8 : Nat → Option CFn := upd FKb7 35 true (oAt kL35)
theorem FKb8_ok : TabOk Tryz.prog GG FKb8 := tab_upd FKb7_ok (oAt_good fun p hp => by
  simp only [kL35, List.mem_cons, List.not_mem_nil, or_false] at hp
  subst hp
  exact orc_of mixed FA3_ok (isR_answers k35))
theorem kn : isR (.bool true) (callF FKb8 (exec Tryz.prog FKb8 300) 15 [] []) = true := by kernel_rfl
def oKn : List AVal → Option AVal
  | [] => some (.bool true)
  | _ => none
theorem kn_good : ∀ args v, oKn args = some v → OrcGood Tryz.prog GG true 15 args v := fun args v ho => by
  unfold oKn at ho; split at ho <;> simp at ho
  subst ho
  exact orc_of mixed FKb8_ok (isR_answers kn)
end Go.Proofs.YtjjapdagllclkaaGreat.Tab
namespace Go.Proofs.YtjjapdagllclkaaGreat.Tab
open Go Go.Abs Go.Proofs
set_option maxRecDepth 100000
set_option maxHeartbeats 4000000
set_option linter.unusedSimpArgs false
set_option linter.unusedVariables false
section
attribute [local simp] frz_int frz_bool frz_vl frz_pv frz_agg frz_tup frz_fn frz_ref frz_sl frz_nils optAll orcF rb_int rb_bool rb_agg rb_tup rb_int' rb_bool' rb_vl rb_pv rb_yld rb_nilf rb_nilp rb_nils rb_any rb_und rb_ref rb_sl rb_fn slE chunk fillA evParts evParts3 putAt List.range_succ List.range_zero List.range'_succ List.range'_zero runX_nil' unary_not evalS_pure evAll_nil evAll_cons runX_cons stepX wantedA dop CV.ev putK_eq setK_eq appK_eq fA_eq fI_eq fN_eq fRow_eq fRows_eq nth_eq Out.v putT List.replicate_succ zT zB arI pointee Abs.rowAt ldRow allV toV toC ofV ofC Builtin.min_ Builtin.min2 Builtin.max_ Builtin.max2 min_if max_if resA tupA kill trim_self trim_len trim_emp trim_nil lenA
attribute [local simp] runD_nil' runD_cons' stepD actK_eq actD clash disj masks holes maskH unmaskH diffs news eqB allB eqA ldRowN wrote toCs ofCs stA rowsV_vl rowsV_nils rowsOf dI1 dI2 dI3 dI5 elt
attribute [local simp] st_any st_und st_agg st_tup st_bool st_int st_nilp st_ref st_pv st_nils st_sl st_vl st_nilm st_mp st_fn st_nilf st_yld co_any co_und co_agg co_tup co_bool co_int co_nilp co_ref co_pv co_nils co_sl co_vl co_nilm co_mp co_fn co_nilf co_yld
section
attribute [local simp] callA calleeA lim lop loud rbB_none rbB_row
open Classical in
noncomputable def oMade : List AVal → Option AVal
  | [.agg r] => match dWk r with
    | some (W, _, _) => if WkOk W then some (.tup [.agg [I (wM W), encC (wC W (wK W).toNat), encN (wT W (min W.xs.length 6))], encJ (wJ W (min W.ys.length 5))]) else none
    | none => none
  | _ => none
open Classical in
noncomputable def oOrder : List AVal → Option AVal
  | [.agg r, .int .i64 n] => match dWk r with
    | some (W, _, _) => if WkOk W ∧ 0 ≤ n ∧ n ≤ 6 then some (encE (ordW W.o n.toNat)) else none
    | none => none
  | _ => none
theorem made_eq {W_ : FWorks} {x y : AVal} (hx : rowsV x = some (W_.xs.map rU)) (hy : rowsV y = some (W_.ys.map rU)) (hw : WkOk W_) : oMade [.agg (wkC W_ x y)] = some (.tup [.agg [I (wM W_), encC (wC W_ (wK W_).toNat), encN (wT W_ (min W_.xs.length 6))], encJ (wJ W_ (min W_.ys.length 5))]) := by
  simp only [oMade, dWk_self hw.g.1 hx hy]; rw [if_pos hw]
theorem order_eq {W_ : FWorks} {x y : AVal} (hx : rowsV x = some (W_.xs.map rU)) (hy : rowsV y = some (W_.ys.map rU)) (hw : WkOk W_) {n : Nat} (hn : n ≤ 6) : oOrder [.agg (wkC W_ x y), I (n : Int)] = some (encE (ordW W_.o n)) := by
  simp only [oOrder, dWk_self hw.g.1 hx hy]; rw [if_pos ⟨hw, by omega, by omega⟩]; rfl
theorem made_good : ∀ args v, oMade args = some v → OrcGood Tryz.prog GG false 41 args v := fun args v ho => by
  unfold oMade at ho; split at ho <;> (try simp only [reduceCtorEq] at ho)
  rename_i r
  split at ho <;> (try simp only [reduceCtorEq] at ho)
  rename_i W_ x y hr
  split at ho <;> (try simp only [reduceCtorEq] at ho)
  rename_i hw
  simp only [Option.some.injEq] at ho
  subst ho
  obtain ⟨rfl, hx, hy⟩ := dWk_eq hr
  exact orc_of mixed (tab_updG T_ok) (a41 Tryz.prog (updG T 41 [(118, [.cell 4 1]), (502, [.slot 7]), (566, [.cell 4 2]), (12342, [.slot 12]), (127030, [.cell 15 3])] []) rfl W_ x y hx hy hw)
theorem order_good : ∀ args v, oOrder args = some v → OrcGood Tryz.prog GG true 42 args v := fun args v ho => by
  unfold oOrder at ho; split at ho <;> (try simp only [reduceCtorEq] at ho)
  rename_i r n
  split at ho <;> (try simp only [reduceCtorEq] at ho)
  rename_i W_ x y hr
  split at ho <;> (try simp only [reduceCtorEq] at ho)
  rename_i hw
  simp only [Option.some.injEq] at ho
  subst ho
  obtain ⟨rfl, hx, hy⟩ := dWk_eq hr
  obtain ⟨hw, hn0, hn6⟩ := hw
  obtain ⟨m, rfl⟩ : ∃ m : Nat, n = m := ⟨n.toNat, by omega⟩
  exact orc_of mixed (tab_updG T_ok) (a42 Tryz.prog (updG T 42 [(230, [.slot 5]), (358, [.slot 5, .slot 6])] []) rfl rfl W_ x y hx hy hw m (by omega))
noncomputable def FT1 : Nat → Option CFn := upd FP2 41 false oMade
theorem FT1_ok : TabOk Tryz.prog GG FT1 := tab_upd FP2_ok made_good
noncomputable def FT2 : Nat → Option CFn := upd FT1 42 true oOrder
theorem FT2_ok : TabOk Tryz.prog GG FT2 := tab_upd FT1_ok order_good
noncomputable def FT3 : Nat → Option CFn := upd FT2 15 true oKn
theorem FT3_ok : TabOk Tryz.prog GG FT3 := tab_upd FT2_ok kn_good
noncomputable def FT_44 : Nat → Option CFn := FT3
noncomputable def FT : Nat → Option CFn := FT_44
theorem wk_cells {W_ : FWorks} {x y : AVal} (hx : rowsV x = some (W_.xs.map rU)) (hy : rowsV y = some (W_.ys.map rU)) (hw : WkOk W_) : (wkC W_ x y).length = 26 ∧ (wkC W_ x y).all storable = true ∧ (∀ n d, (wkC W_ x y).all (rb n (d + 1)) = true) ∧ (∀ H d, optAll (frz false H (d + 1)) (wkC W_ x y) = some (wkC W_ x y)) := by
  obtain ⟨cx1, cx2⟩ := rowsV_cells hx
  obtain ⟨cy1, cy2⟩ := rowsV_cells hy
  have rx := fun n d => rowsV_rb hx n d
  have ry := fun n d => rowsV_rb hy n d
  refine ⟨by simp [wkC, rU_len, hw.g.1, hw.o.1], ?_, fun n d => ?_, fun H d => optAll_self _ fun z hz => ?_⟩
  · have h1 := rU_stor W_.g
    have h2 := rU_stor W_.o
    simp only [wkC, List.all_cons, List.all_append, h1, h2, cx2, cy2, List.all_nil, Bool.and_true]; rfl
  · have h1 := rU_rb n d W_.g
    have h2 := rU_rb n d W_.o
    simp only [wkC, List.all_cons, List.all_append, h1, h2, rx, ry, rb_int', List.all_nil, Bool.and_true]
  · simp only [wkC, List.mem_cons, List.mem_append, List.not_mem_nil, or_false] at hz
    rcases hz with rfl | rfl | (h | rfl | rfl) | h
    · exact frz_int ..
    · exact frz_int ..
    · obtain ⟨a, _, rfl⟩ := List.mem_map.1 h; exact frz_int ..
    · exact rowsV_frz hx H d
    · exact rowsV_frz hy H d
    · obtain ⟨a, _, rfl⟩ := List.mem_map.1 h; exact frz_int ..
end
end
end Go.Proofs.YtjjapdagllclkaaGreat.Tab
namespace Go.Proofs.YtjjapdagllclkaaGreat
open Go Go.Abs Go.Proofs Go.ChangeShapes Go.WideShapes Go.ChangeAt Go.RowKit
theorem own : ownKnob Tryz.prog.godebug = none := by kernel_rfl
theorem laidOut : laidOutB Tryz.prog = true := by kernel_rfl
theorem u8_wf {n : Int} (h : (Lit.int .u8 n).wf = true) : 0 ≤ n ∧ n ≤ 255 := by
  have e1 : IntKind.u8.min = 0 := rfl
  have e2 : IntKind.u8.max = 255 := rfl
  simp only [Lit.wf, e1, e2, Bool.and_eq_true, decide_eq_true_eq] at h
  exact h
theorem fits_u {Ls : List Ly} {xs : List AVal} (h : FitsR (.int .u8 :: Ls) xs) : ∃ (a : Int) (ys : List AVal), xs = .int .u8 a :: ys ∧ (0 ≤ a ∧ a ≤ 255) ∧ FitsR Ls ys := by
  obtain ⟨x, ys, rfl, hx, h1⟩ := fitsR_cons h
  obtain ⟨a, rfl, ha⟩ := fits_int hx
  exact ⟨a, ys, rfl, u8_wf ha, h1⟩
theorem fits_us : ∀ (n : Nat) {Ls : List Ly} {xs : List AVal}, FitsR (List.replicate n (.int .u8) ++ Ls) xs → ∃ (v : List Int) (ys : List AVal), xs = Tab.rU v ++ ys ∧ v.length = n ∧ (∀ a ∈ v, Tab.isU a) ∧ FitsR Ls ys
  | 0, _, xs, h => ⟨[], xs, rfl, rfl, by simp, h⟩
  | n + 1, Ls, xs, h => by
    have h : FitsR (.int .u8 :: (List.replicate n (.int .u8) ++ Ls)) xs := h
    obtain ⟨a, ys, rfl, ha, h⟩ := fits_u h
    obtain ⟨v, zs, rfl, hl, hv, h⟩ := fits_us n h
    exact ⟨a :: v, zs, rfl, by rw [List.length_cons, hl], fun b hb => by
      rcases List.mem_cons.1 hb with rfl | hb
      · exact ha
      · exact hv b hb, h⟩
theorem map_ofP {α : Type} {enc : α → List AVal} {p : α → Prop} : ∀ {l : List (List AVal)}, (∀ r ∈ l, ∃ a, r = enc a ∧ p a) → ∃ vs : List α, l = vs.map enc ∧ ∀ a ∈ vs, p a
  | [], _ => ⟨[], rfl, by simp⟩
  | r :: l, h => by
    obtain ⟨a, rfl, ha⟩ := h r (by simp)
    obtain ⟨vs, rfl, hvs⟩ := map_ofP (l := l) fun r hr => h r (by simp [hr])
    exact ⟨a :: vs, rfl, fun b hb => by
      rcases List.mem_cons.1 hb with rfl | hb
      · exact ha
      · exact hvs b hb⟩
theorem rows_of {x : AVal} {rs : List (List AVal)} (hx : x = .nils ∧ rs = [] ∨ ∃ t, x = .vl rs t) : rowsV x = some rs := by
  rcases hx with ⟨rfl, rfl⟩ | ⟨t, rfl⟩ <;> rfl
theorem fits_works {xs : List AVal} (h : FitsR [.int .u8, .int .u8, .int .u8, .int .u8, .int .u8, .int .u8, .int .u8, .int .u8, .int .u8, .int .u8, .int .u8, .int .u8, .int .u8, .int .u8, .int .u8, .int .u8, .int .u8, .int .u8, .sl [.int .u8, .int .u8, .int .u8, .int .u8], .sl [.int .u8, .int .u8, .int .u8, .int .u8, .int .u8, .int .u8, .int .u8], .int .u8, .int .u8, .int .u8, .int .u8, .int .u8, .int .u8] xs) :
    ∃ (W_ : Tab.FWorks) (x y : AVal), xs = Tab.wkC W_ x y ∧ rowsV x = some (W_.xs.map Tab.rU) ∧ rowsV y = some (W_.ys.map Tab.rU) ∧ Tab.WkOk W_ := by
  obtain ⟨m, ys, rfl, hm, h⟩ := fits_u h
  obtain ⟨k, ys, rfl, hk, h⟩ := fits_u h
  obtain ⟨g, ys, rfl, gl, hg, h⟩ := fits_us 16 h
  obtain ⟨x, ys, rfl, gx, h⟩ := fitsR_cons h
  obtain ⟨y, ys, rfl, gy, h⟩ := fitsR_cons h
  obtain ⟨o, ys, rfl, ol, ho, h⟩ := fits_us 6 (Ls := []) h
  obtain rfl := fitsR_nil h
  obtain ⟨r1, k1, q1⟩ := fits_rows gx
  obtain ⟨r2, k2, q2⟩ := fits_rows gy
  obtain ⟨xs, rfl, hxs⟩ := map_ofP (enc := Tab.rU) (p := fun v => v.length = 4 ∧ ∀ n ∈ v, Tab.isU n) (l := r1) fun a ha => by
    obtain ⟨v, ys, rfl, vl, hv, h⟩ := fits_us 4 (Ls := []) (q1 a ha)
    obtain rfl := fitsR_nil h
    exact ⟨v, by rw [List.append_nil], vl, hv⟩
  obtain ⟨ys, rfl, hys⟩ := map_ofP (enc := Tab.rU) (p := fun v => v.length = 7 ∧ ∀ n ∈ v, Tab.isU n) (l := r2) fun a ha => by
    obtain ⟨v, ys, rfl, vl, hv, h⟩ := fits_us 7 (Ls := []) (q2 a ha)
    obtain rfl := fitsR_nil h
    exact ⟨v, by rw [List.append_nil], vl, hv⟩
  refine ⟨⟨m, k, g, xs, ys, o⟩, x, y, ?_, rows_of k1, rows_of k2, ⟨hm, hk, ⟨gl, hg⟩, hxs, hys, ⟨ol, ho⟩⟩⟩
  simp [Tab.wkC]
end Go.Proofs.YtjjapdagllclkaaGreat
namespace Go.Proofs.YtjjapdagllclkaaGreat.Tab
open Go Go.Abs Go.Proofs
set_option maxRecDepth 100000
set_option maxHeartbeats 4000000
set_option linter.unusedSimpArgs false
set_option linter.unusedVariables false
section
attribute [local simp] frz_int frz_bool frz_vl frz_pv frz_agg frz_tup frz_fn frz_ref frz_sl frz_nils optAll orcF rb_int rb_bool rb_agg rb_tup rb_int' rb_bool' rb_vl rb_pv rb_yld rb_nilf rb_nilp rb_nils rb_any rb_und rb_ref rb_sl rb_fn slE chunk fillA evParts evParts3 putAt List.range_succ List.range_zero List.range'_succ List.range'_zero runX_nil' unary_not evalS_pure evAll_nil evAll_cons runX_cons stepX wantedA dop CV.ev putK_eq setK_eq appK_eq fA_eq fI_eq fN_eq fRow_eq fRows_eq nth_eq Out.v putT List.replicate_succ zT zB arI pointee Abs.rowAt ldRow allV toV toC ofV ofC Builtin.min_ Builtin.min2 Builtin.max_ Builtin.max2 min_if max_if resA tupA kill trim_self trim_len trim_emp trim_nil lenA
attribute [local simp] runD_nil' runD_cons' stepD actK_eq actD clash disj masks holes maskH unmaskH diffs news eqB allB eqA ldRowN wrote toCs ofCs stA rowsV_vl rowsV_nils rowsOf dI1 dI2 dI3 dI5 elt
attribute [local simp] st_any st_und st_agg st_tup st_bool st_int st_nilp st_ref st_pv st_nils st_sl st_vl st_nilm st_mp st_fn st_nilf st_yld co_any co_und co_agg co_tup co_bool co_int co_nilp co_ref co_pv co_nils co_sl co_vl co_nilm co_mp co_fn co_nilf co_yld
section
attribute [local simp] callA calleeA lop loud rbB_none rbB_row
noncomputable def FU1 : Nat → Option CFn := T
noncomputable def FU2 : Nat → Option CFn := FU1
noncomputable def FU3_22 : Nat → Option CFn := FU2
noncomputable def FU3 : Nat → Option CFn := FU3_22
noncomputable def FU : Nat → Option CFn := FU3
end
section
attribute [local simp] callA calleeA lop loud rbB_none rbB_row
noncomputable def FV1 : Nat → Option CFn := FU
noncomputable def FV : Nat → Option CFn := FV1
end
section
attribute [local simp] callA calleeA lop loud rbB_none rbB_row
noncomputable def FW_25 : Nat → Option CFn := FV
noncomputable def FW_68 : Nat → Option CFn := FW_25
noncomputable def FW : Nat → Option CFn := FW_68
end
section
attribute [local simp] callA calleeA lop loud
def ixI (n : Int) : List Int → Int → Int
  | [], _ => -1
  | x :: l, i => if n = x then i else ixI n l (i + 1)
theorem ixI_nn (n : Int) : ∀ (l : List Int) (i : Int), 0 ≤ i → (0 ≤ ixI n l i ↔ n ∈ l)
  | [], i, _ => by simp [ixI]
  | x :: l, i, h => by
    simp only [ixI, List.mem_cons]
    split
    · rename_i e; exact ⟨fun _ => .inl e, fun _ => h⟩
    · rename_i e; rw [ixI_nn n l (i + 1) (by omega)]; exact ⟨.inr, fun h => h.resolve_left e⟩
theorem ixI_step {n : Int} {xs : List Int} {k : Nat} (hk : k < xs.length) (i : Int) : ixI n (xs.drop k) i = if n = xs[k] then i else ixI n (xs.drop (k + 1)) (i + 1) := by
  rw [List.drop_eq_getElem_cons hk]; rfl
def oIx : List AVal → Option AVal
  | [x, .int .i64 n] => match dInts x with
    | some xs => if xs.length ≤ 1000 then some (I (ixI n xs 0)) else none
    | none => none
  | _ => none
def oCont : List AVal → Option AVal
  | [x, .int .i64 n] => match dInts x with
    | some xs => if xs.length ≤ 1000 then some (.bool (decide (n ∈ xs))) else none
    | none => none
  | _ => none
theorem a115 (P : Program) (T : Nat → Option CFn) (hT : T 115 = some c115) (x : AVal) (xs : List Int) (hx : dInts x = some xs) (hl : xs.length ≤ 1000) (n : Int) : Answers P T 115 [x, I n] [] fun v h => frz true h 5 v = some (I (ixI n xs 0)) := by
 have lx := dInts_len hx
 refine answers_of hT (orcF_none rfl) ?_
 simp only [oo, om, op, og, ci, cl, c115]
 refine zS ?_
 refine zR (zO (by simp [lx, -lenA]; rfl) ?_)
 simp only [zT, zB]
 refine zS ?_
 refine zS ?_
 refine zR (zO (by simp [lx, -lenA]; rfl) ?_)
 simp only [zT, zB]
 refine zL ?_
 refine runs_loop_inv (fun m σ => ∃ (k : Nat) (i : Int), i = k ∧ xs.length - k = m ∧ k ≤ xs.length ∧ ixI n (xs.drop k) i = ixI n xs 0 ∧ σ = ⟨[x, I n, .any, .any, .any, .any, .any, I xs.length, I i, .any, .any, .any, .any, .any, .any, .any, .any, .any, .any], []⟩) ?_ (xs.length - 0) _ ⟨0, 0, rfl, rfl, Nat.zero_le _, rfl, by simp⟩
 rintro m σ ⟨k, i, hik, rfl, hkl, hR, rfl⟩
 refine zS ?_
 refine zR (zO (by simp [lx, -lenA]; rfl) ?_)
 simp only [zT, zB]
 refine zS ?_
 refine runs_cond_split (x := decide (i < (xs.length : Int))) (by simp) (fun hlt => ?_) (fun hlt => ?_)
 ·have hlt := of_decide_eq_true hlt
  have hk0 : k < xs.length := by omega
  obtain ⟨tt, rfl⟩ := dInts_get hx hk0
  have hi0 : 0 ≤ i := by omega
  have htn : i.toNat = k := by omega
  have hwi : W .i64 (i + 1) = i + 1 := W_small (by omega)
  rw [ixI_step hk0] at hR
  generalize hs : xs[k] = s at *
  have HH1 := zA lx (zA hi0 (zA htn (zA hk0 (zA hs hwi))))
  refine zK ?_
  simp only [zT, zB]
  refine zS ?_
  refine zL ?_
  refine zS ?_
  refine zR (zO (by simp [-lenA, zI, HH1]; rfl) ?_)
  simp only [zT, zB]
  refine zS ?_
  refine zR (zO (by simp [-lenA, zI, HH1]; rfl) ?_)
  simp only [zT, zB]
  refine runs_cond_split (x := (n == s)) (by simp) (fun he => ?_) (fun he => ?_)
  ·have he : n = s := by simpa using he
   rw [if_pos he] at hR
   rw [← hR]
   refine zS ?_
   refine zR (zO (by simp [-lenA, zI, HH1]; rfl) ?_)
   simp only [zT, zB]
   refine runs_ret ?_
   simp [-lenA, zI, HH1]
  ·have he : ¬ n = s := by simpa using he
   rw [if_neg he] at hR
   refine zK ?_
   simp only [zT, zB]
   refine zR (zO (by simp [-lenA, zI, HH1]; rfl) ?_)
   simp only [zT, zB]
   exact ⟨xs.length - (k + 1), by omega, k + 1, i + 1, by omega, rfl, by omega, hR, by simp [-lenA, zI, HH1]⟩
 ·have hlt := of_decide_eq_false hlt
  obtain rfl : k = xs.length := by omega
  rw [List.drop_length] at hR
  rw [← hR]
  refine runs_exit ?_
  simp only [zT, zB, if_true, if_false, reduceIte, Nat.reduceEqDiff, Nat.succ_ne_zero, Nat.one_ne_zero, Nat.zero_ne_one]
  refine zS ?_
  refine zR (zO (by simp [lx, -lenA]; rfl) ?_)
  simp only [zT, zB]
  refine runs_ret ?_
  simp [lx, -lenA, ixI]
noncomputable def FIX1 : Nat → Option CFn := upd T 115 true (oIx)
theorem FIX1_ok : TabOk Tryz.prog GG FIX1 := tab_add mixed T_ok fun args v ho => by
  unfold oIx at ho; split at ho <;> (try simp only [reduceCtorEq] at ho)
  rename_i x n
  split at ho <;> (try simp only [reduceCtorEq] at ho)
  rename_i xs hx
  split at ho <;> (try simp only [reduceCtorEq] at ho)
  rename_i hl
  simp only [Option.some.injEq] at ho
  subst ho
  exact a115 Tryz.prog T rfl  x xs hx hl n
theorem a84 (P : Program) (T : Nat → Option CFn) (hT : T 84 = some c84) (h115 : T 115 = some { c115 with frsh := true, orc := oIx }) (x : AVal) (xs : List Int) (hx : dInts x = some xs) (hl : xs.length ≤ 1000) (n : Int) : Answers P T 84 [x, I n] [] fun v h => frz true h 5 v = some (.bool (decide (n ∈ xs))) := by
 have fx := fun H d => dInts_frz hx H d
 have hix : oIx [x, I n] = some (I (ixI n xs 0)) := by simp only [oIx, hx]; rw [if_pos hl]
 have hnn : (0 ≤ ixI n xs 0) ↔ n ∈ xs := ixI_nn n xs 0 (Int.le_refl _)
 refine answers_of hT (orcF_none rfl) ?_
 simp only [oo, om, op, og, ci, cl, c84]
 refine zS ?_
 refine zR (zO (by simp [zC h115, h115, fx, hix, hnn]; rfl) ?_)
 simp only [zT, zB]
 refine zS ?_
 refine zR (zO (by simp [zC h115, h115, fx, hix, hnn]; rfl) ?_)
 simp only [zT, zB]
 refine runs_ret ?_
 simp [zC h115, h115, fx, hix, hnn]
noncomputable def FIX : Nat → Option CFn := upd FIX1 84 true (oCont)
theorem FIX_ok : TabOk Tryz.prog GG FIX := tab_add mixed FIX1_ok fun args v ho => by
  unfold oCont at ho; split at ho <;> (try simp only [reduceCtorEq] at ho)
  rename_i x n
  split at ho <;> (try simp only [reduceCtorEq] at ho)
  rename_i xs hx
  split at ho <;> (try simp only [reduceCtorEq] at ho)
  rename_i hl
  simp only [Option.some.injEq] at ho
  subst ho
  exact a84 Tryz.prog FIX1 rfl rfl x xs hx hl n
theorem tab_good {P : Program} {G : Nat → Option (List AVal)} {T : Nat → Option CFn} (hT : TabOk P G T) {f : Nat} {c : CFn} (hf : T f = some c) : ∀ args v, c.orc args = some v → OrcGood P G c.frsh f args v := fun args v h => by
  obtain ⟨_, _, _, _, _, _, _, _, h7, _⟩ := hT f c hf
  exact h7 args v h
theorem cont_good : ∀ args v, oCont args = some v → OrcGood Tryz.prog GG true 84 args v := tab_good (f := 84) (c := { c84 with frsh := true, orc := oCont }) FIX_ok rfl
end
section
attribute [local simp] callA calleeA lim lop loud rbB_none rbB_row
noncomputable def FR1 : Nat → Option CFn := FT
noncomputable def FR2 : Nat → Option CFn := FR1
noncomputable def FR3 : Nat → Option CFn := FR2
noncomputable def FR4 : Nat → Option CFn := FR3
noncomputable def FR5 : Nat → Option CFn := FR4
noncomputable def FR6 : Nat → Option CFn := FR5
noncomputable def FR7 : Nat → Option CFn := FR6
noncomputable def FR8 : Nat → Option CFn := FR7
noncomputable def FR : Nat → Option CFn := FR8
end
end
end Go.Proofs.YtjjapdagllclkaaGreat.Tab
namespace Go.Proofs.YtjjapdagllclkaaGreat.Tab
open Go Go.Abs Go.Proofs
set_option linter.unusedSimpArgs false
set_option linter.unusedVariables false
abbrev FEv := Int × Int
def eLe (a b : FEv) : Prop := a.1 < b.1 ∨ (a.1 = b.1 ∧ a.2 ≤ b.2)
instance (a b : FEv) : Decidable (eLe a b) := by unfold eLe; infer_instance
end Go.Proofs.YtjjapdagllclkaaGreat.Tab
namespace Go.Proofs.YtjjapdagllclkaaGreat.Tab
open Go Go.Abs Go.Proofs
set_option maxRecDepth 100000
set_option maxHeartbeats 4000000
set_option linter.unusedSimpArgs false
set_option linter.unusedVariables false
section
attribute [local simp] frz_int frz_bool frz_vl frz_pv frz_agg frz_tup frz_fn frz_ref frz_sl frz_nils optAll orcF rb_int rb_bool rb_agg rb_tup rb_int' rb_bool' rb_vl rb_pv rb_yld rb_nilf rb_nilp rb_nils rb_any rb_und rb_ref rb_sl rb_fn slE chunk fillA evParts evParts3 putAt List.range_succ List.range_zero List.range'_succ List.range'_zero runX_nil' unary_not evalS_pure evAll_nil evAll_cons runX_cons stepX wantedA dop CV.ev putK_eq setK_eq appK_eq fA_eq fI_eq fN_eq fRow_eq fRows_eq nth_eq Out.v putT List.replicate_succ zT zB arI pointee Abs.rowAt ldRow allV toV toC ofV ofC Builtin.min_ Builtin.min2 Builtin.max_ Builtin.max2 min_if max_if resA tupA kill trim_self trim_len trim_emp trim_nil lenA
attribute [local simp] runD_nil' runD_cons' stepD actK_eq actD clash disj masks holes maskH unmaskH diffs news eqB allB eqA ldRowN wrote toCs ofCs stA rowsV_vl rowsV_nils rowsOf dI1 dI2 dI3 dI5 elt
attribute [local simp] st_any st_und st_agg st_tup st_bool st_int st_nilp st_ref st_pv st_nils st_sl st_vl st_nilm st_mp st_fn st_nilf st_yld co_any co_und co_agg co_tup co_bool co_int co_nilp co_ref co_pv co_nils co_sl co_vl co_nilm co_mp co_fn co_nilf co_yld
section
attribute [local simp] above backA backA1 callA calleeA flatAt flatBlk frNB_none frNB_row frN_agg frN_bool frN_int frN_nils frN_ref frN_sl frN_tup frN_vl frameE lop loud norm posOf ptrs putH rbB_none rbB_row renA setH
theorem W_e0 : W .i64 0 = 0 := by decide
theorem W_e1 : W .i64 1 = 1 := by decide
theorem W_e2 : W .i64 2 = 2 := by decide
attribute [local simp] W_e0 W_e1 W_e2
end
section
attribute [local simp] Function.comp_def List.all_append List.all_map above callA calleeA frNB_none frNB_row frN_agg frN_bool frN_int frN_nils frN_ref frN_sl frN_tup frN_vl frzG gather getR lim lop loud lowA lowR norm okG putG putR rbB_none rbB_row resG rowAt takeG
noncomputable def lateR (s : FShop) (js : List FJob) (os : List Int) : Int × Int × Int := (((lateL (endF s js os) js js.length).length : Int), (latF (endF s js os) js js.length).1, (latF (endF s js os) js js.length).2)
theorem lateT_R {s : FShop} {js : List FJob} {os : List Int} (h : ordE s js os = 0) : lateT s js os = lateR s js os := by unfold lateT; rw [if_pos h]; rfl
end
end
end Go.Proofs.YtjjapdagllclkaaGreat.Tab
namespace Go.Proofs.YtjjapdagllclkaaGreat.Tab
open Go Go.Abs Go.Proofs
set_option linter.unusedSimpArgs false
set_option linter.unusedVariables false
def LLe (l l' : FLine) : Prop := ∀ k, (lAt l k).2 = (lAt l' k).2 ∧ (lAt l k).1 ≤ (lAt l' k).1
theorem LLe.refl (l : FLine) : LLe l l := fun k => ⟨rfl, Int.le_refl _⟩
theorem LLe.set {l l' : FLine} (h : LLe l l') {k : Nat} (hk : k < l.length) (hk' : k < l'.length) {d d' : Int} (hd : d ≤ d') (x : Int × Bool) : LLe (l.set k (d, x)) (l'.set k (d', x)) := fun j => by
 by_cases e : j = k
 ·subst e
  rw [lAt_set hk, lAt_set hk']; exact ⟨rfl, hd⟩
 ·rw [lAt_set_ne (fun h => e h.symm), lAt_set_ne (fun h => e h.symm)]; exact h j
def MLe : List Int → List Int → Prop
 | [], [] => True
 | n :: ns, m :: ms => (n ≤ m ∧ (0 < n ↔ 0 < m)) ∧ MLe ns ms
 | _, _ => False
theorem MLe.refl : ∀ ns, MLe ns ns
 | [] => trivial
 | n :: ns => ⟨⟨Int.le_refl _, Iff.rfl⟩, MLe.refl ns⟩
theorem getD_self {α : Type} {l : List α} {i : Nat} {x d : α} (h : i < l.length) : (l.set i x).getD i d = x := by
 rw [List.getD_eq_getElem?_getD, List.getElem?_set_self h]; rfl
theorem getD_ne {α : Type} {l : List α} {i j : Nat} {x d : α} (h : i ≠ j) : (l.set i x).getD j d = l.getD j d := by
 rw [List.getD_eq_getElem?_getD, List.getElem?_set_ne h, List.getD_eq_getElem?_getD]
structure JLe (j j' : FJob) : Prop where
 kind : j'.kind = j.kind
 ready : j.ready ≤ j'.ready
 mins : MLe j.mins j'.mins
theorem JLe.refl (j : FJob) : JLe j j := ⟨rfl, Int.le_refl _, MLe.refl _⟩
end Go.Proofs.YtjjapdagllclkaaGreat.Tab
namespace Go.Proofs.YtjjapdagllclkaaGreat.Tab
open Go Go.Abs Go.Proofs
structure FBest where
 order : List Int
 sum : Int
 last : Int
 found : Bool
def bz : FBest := ⟨[], 0, 0, false⟩
def lexB (a b c d : Int) : Bool := decide (a < c) || (decide (a = c) && decide (b < d))
def betterB (b : FBest) (o : List Int) (x : Int × Int) : FBest := if (!b.found || lexB x.1 x.2 b.sum b.last) = true then ⟨o, x.1, x.2, true⟩ else b
noncomputable def latO (s : FShop) (js : List FJob) (now : List Int) : Int × Int := latF (runF s js now).ends js js.length
noncomputable def findF (s : FShop) (js : List FJob) : Nat → List Int → FBest → FBest
 | 0, now, b => betterB b now (latO s js now)
 | d + 1, now, b => (List.range js.length).foldl (fun b (i : Nat) => if (i : Int) ∈ now then b else findF s js d (now ++ [(i : Int)]) b) b
def worseB (b : FBest) (x : Int × Int) : Bool := b.found && !lexB x.1 x.2 b.sum b.last
noncomputable def tryF (s : FShop) (js : List FJob) : Nat → List Int → FBest → FBest
 | 0, now, b => if worseB b (latO s js now) = true then b else ⟨now, (latO s js now).1, (latO s js now).2, true⟩
 | d + 1, now, b => if worseB b (latO s js now) = true then b else (List.range js.length).foldl (fun b (i : Nat) => if (i : Int) ∈ now then b else tryF s js d (now ++ [(i : Int)]) b) b
theorem latF_set {E : List Int} {js : List FJob} {i : Nat} (hi : i < E.length) (h0 : endAt E i = 0) {e : Int} (he : 0 ≤ e) (hd : ∀ k, 0 ≤ dueAt js k) : ∀ k, latF (E.set i e) js k = if i < k then ((latF E js k).1 + max 0 (e - dueAt js i), max (latF E js k).2 e) else latF E js k
 | 0 => by simp [latF]
 | k + 1 => by
  simp only [latF]
  rw [latF_set hi h0 he hd k]
  have hdk := hd k
  by_cases h : i < k
  ·have e1 : endAt (E.set i e) k = endAt E k := getD_ne (by omega)
   rw [if_pos h, if_pos (by omega), e1, Prod.mk.injEq]
   exact ⟨by omega, by omega⟩
  ·by_cases h2 : i = k
   ·subst h2
    have e1 : endAt (E.set i e) i = e := getD_self hi
    rw [if_neg h, if_pos (by omega), e1, h0, Prod.mk.injEq]
    exact ⟨by omega, by omega⟩
   ·have e1 : endAt (E.set i e) k = endAt E k := getD_ne h2
    rw [if_neg h, if_neg (by omega), e1]
theorem ends_zero {s : FShop} {js : List FJob} {k : Nat} : ∀ (os : List Int) (r : FRun), endAt r.ends k = 0 → (k : Int) ∉ os → (∀ i ∈ os, 0 ≤ i) → endAt (os.foldl (runStep s js) r).ends k = 0
 | [], _, h, _, _ => h
 | i :: os, r, h, h1, h2 => by
  have hi := h2 i (by simp)
  have hne : i.toNat ≠ k := fun e => h1 (by rw [← e, Int.toNat_of_nonneg hi]; simp)
  refine ends_zero os _ ?_ (fun hm => h1 (by simp [hm])) fun j hj => h2 j (by simp [hj])
  show endAt (r.ends.set i.toNat _) k = 0
  rw [show endAt (r.ends.set i.toNat (passF s r.line (js.getD i.toNat default)).2.1) k = endAt r.ends k from getD_ne hne, h]
theorem runF_snoc (s : FShop) (js : List FJob) (now : List Int) (i : Int) : runF s js (now ++ [i]) = runStep s js (runF s js now) i := by
 unfold runF; rw [List.foldl_append]; rfl
structure NowOk (js : List FJob) (now : List Int) (d : Nat) : Prop where
 nodup : now.Nodup
 mem : ∀ i ∈ now, 0 ≤ i ∧ i < js.length
 len : now.length + d = js.length
theorem NowOk.nil (js : List FJob) : NowOk js [] js.length := ⟨List.nodup_nil, fun _ h => by simp at h, by simp⟩
theorem NowOk.snoc {js : List FJob} {now : List Int} {d i : Nat} (h : NowOk js now (d + 1)) (hi : i < js.length) (hn : (i : Int) ∉ now) : NowOk js (now ++ [(i : Int)]) d :=
 ⟨List.nodup_append.2 ⟨h.nodup, by simp, fun a ha b hb e => by simp at hb; subst hb; subst e; exact hn ha⟩, fun j hj => by
  rcases List.mem_append.1 hj with hj | hj
  ·exact h.mem j hj
  ·simp at hj; omega, by have := h.len; simp; omega⟩
theorem NowOk.ord {js : List FJob} {now : List Int} (h : NowOk js now 0) : ordB now js.length = true :=
 perm_ord (perm_of_sub now (upTo js.length) h.nodup (fun x hx => upTo_mem.2 (h.mem x hx)) (by rw [upTo_len]; have := h.len; omega))
theorem due_nn {s : FShop} {js : List FJob} (h : ShopOk s js) (k : Nat) : 0 ≤ dueAt js k := by
 unfold dueAt
 rw [List.getD_eq_getElem?_getD]
 cases hk : js[k]? with
 | none => exact Int.le_refl _
 | some j => exact (h.job j (List.mem_of_getElem? hk)).2.2.1.1
noncomputable def passE (s : FShop) (js : List FJob) (now : List Int) (i : Nat) : Int := (passF s (runF s js now).line (js.getD i default)).2.1
theorem lat_snoc {s : FShop} {js : List FJob} (h : ShopOk s js) {now : List Int} {d i : Nat} (hw : NowOk js now (d + 1)) (hi : i < js.length) (hn : (i : Int) ∉ now) :
  latO s js (now ++ [(i : Int)]) = ((latO s js now).1 + max 0 (passE s js now i - dueAt js i), max (latO s js now).2 (passE s js now i)) ∧ 0 ≤ passE s js now i ∧ passE s js now i ≤ 170000 := by
 have hw2 := hw.snoc hi hn
 have h6 := h.njob
 have ho := runF_ok h (os := now ++ [(i : Int)]) (by have := hw2.len; omega) hw2.mem
 have ho1 := runF_ok h (os := now) (by have := hw.len; omega) hw.mem
 have hE : (runF s js (now ++ [(i : Int)])).ends = (runF s js now).ends.set i (passE s js now i) := by rw [runF_snoc]; rfl
 have hlen : i < (runF s js now).ends.length := by rw [ho1.elen]; exact hi
 have he : 0 ≤ passE s js now i ∧ passE s js now i ≤ 170000 := ho.en _ (by rw [hE]; exact List.mem_set hlen _)
 have h0 : endAt (runF s js now).ends i = 0 := ends_zero now _ (by unfold endAt run0; rw [List.getD_eq_getElem?_getD, List.getElem?_replicate]; split <;> rfl) hn fun j hj => (hw.mem j hj).1
 refine ⟨?_, he⟩
 unfold latO
 rw [hE, latF_set hlen h0 he.1 (due_nn h) js.length, if_pos hi]
theorem worse_mono {b : FBest} {x y : Int × Int} (h1 : x.1 ≤ y.1) (h2 : x.2 ≤ y.2) (h : worseB b x = true) : worseB b y = true := by
 simp only [worseB, lexB, Bool.and_eq_true, Bool.not_eq_true', Bool.or_eq_false_iff, Bool.and_eq_false_iff, decide_eq_false_iff_not] at h ⊢
 obtain ⟨h3, h4, h5⟩ := h
 exact ⟨h3, by omega, by omega⟩
theorem foldl_keep {α β : Type} {f : β → α → β} {b : β} : ∀ {l : List α}, (∀ i ∈ l, f b i = b) → l.foldl f b = b
 | [], _ => rfl
 | a :: l, h => by rw [List.foldl_cons, h a (by simp)]; exact foldl_keep fun i hi => h i (by simp [hi])
theorem foldl_same {α β : Type} {f g : β → α → β} : ∀ {l : List α} {b : β}, (∀ i ∈ l, ∀ b, f b i = g b i) → l.foldl f b = l.foldl g b
 | [], _, _ => rfl
 | a :: l, b, h => by rw [List.foldl_cons, List.foldl_cons, h a (by simp)]; exact foldl_same fun i hi => h i (by simp [hi])
theorem find_worse {s : FShop} {js : List FJob} (h : ShopOk s js) : ∀ (d : Nat) (now : List Int) (b : FBest), NowOk js now d → worseB b (latO s js now) = true → findF s js d now b = b
 | 0, now, b, _, hb => by
  simp only [findF, betterB]
  simp only [worseB, Bool.and_eq_true, Bool.not_eq_true'] at hb
  rw [if_neg (by rw [hb.1, hb.2]; simp)]
 | d + 1, now, b, hw, hb => by
  simp only [findF]
  refine foldl_keep fun i hi => ?_
  have hi := List.mem_range.1 hi
  split
  ·rfl
  ·rename_i hn
   obtain ⟨e1, e2, _⟩ := lat_snoc h hw hi hn
   exact find_worse h d _ b (hw.snoc hi hn) (worse_mono (by rw [e1]; simp only; omega) (by rw [e1]; simp only; omega) hb)
theorem try_find {s : FShop} {js : List FJob} (h : ShopOk s js) : ∀ (d : Nat) (now : List Int) (b : FBest), NowOk js now d → tryF s js d now b = findF s js d now b
 | 0, now, b, hw => by
  simp only [tryF]
  split
  ·rename_i hb; rw [find_worse h 0 now b hw hb]
  ·rename_i hb
   simp only [findF, betterB]
   rw [if_pos]
   simp only [worseB] at hb
   revert hb
   cases b.found <;> simp
 | d + 1, now, b, hw => by
  simp only [tryF]
  split
  ·rename_i hb; rw [find_worse h (d + 1) now b hw hb]
  ·simp only [findF]
   refine foldl_same fun i hi b => ?_
   have hi := List.mem_range.1 hi
   split
   ·rfl
   ·rename_i hn; exact try_find h d _ b (hw.snoc hi hn)
end Go.Proofs.YtjjapdagllclkaaGreat.Tab
namespace Go.Proofs.YtjjapdagllclkaaGreat.Tab
open Go Go.Abs Go.Proofs
set_option maxRecDepth 100000
set_option maxHeartbeats 4000000
set_option linter.unusedSimpArgs false
set_option linter.unusedVariables false
section
attribute [local simp] frz_int frz_bool frz_vl frz_pv frz_agg frz_tup frz_fn frz_ref frz_sl frz_nils optAll orcF rb_int rb_bool rb_agg rb_tup rb_int' rb_bool' rb_vl rb_pv rb_yld rb_nilf rb_nilp rb_nils rb_any rb_und rb_ref rb_sl rb_fn slE chunk fillA evParts evParts3 putAt List.range_succ List.range_zero List.range'_succ List.range'_zero runX_nil' unary_not evalS_pure evAll_nil evAll_cons runX_cons stepX wantedA dop CV.ev putK_eq setK_eq appK_eq fA_eq fI_eq fN_eq fRow_eq fRows_eq nth_eq Out.v putT List.replicate_succ zT zB arI pointee Abs.rowAt ldRow allV toV toC ofV ofC Builtin.min_ Builtin.min2 Builtin.max_ Builtin.max2 min_if max_if resA tupA kill trim_self trim_len trim_emp trim_nil lenA
attribute [local simp] runD_nil' runD_cons' stepD actK_eq actD clash disj masks holes maskH unmaskH diffs news eqB allB eqA ldRowN wrote toCs ofCs stA rowsV_vl rowsV_nils rowsOf dI1 dI2 dI3 dI5 elt
attribute [local simp] st_any st_und st_agg st_tup st_bool st_int st_nilp st_ref st_pv st_nils st_sl st_vl st_nilm st_mp st_fn st_nilf st_yld co_any co_und co_agg co_tup co_bool co_int co_nilp co_ref co_pv co_nils co_sl co_vl co_nilm co_mp co_fn co_nilf co_yld
section
attribute [local simp] above callA calleeA frNB_none frNB_row frN_agg frN_bool frN_int frN_nils frN_ref frN_sl frN_tup frN_vl frzG gather getR lim lop loud lowA lowR norm okG putG putR rbB_none rbB_row resG rowAt takeG
theorem W_i2b : W .i64 2 = 2 := by decide
def oOrB : List AVal → Option AVal
  | [.vl [[.int .i64 x], [.int .i64 y]] _] => some (I (if x = 0 then y else x))
  | _ => none
def oCloI : List AVal → Option AVal
  | [.nils] => some .nils
  | [.vl rs _] => match optAll dI1 rs with
    | some xs => if xs.length ≤ 1000 then some (if xs = [] then .vl [] true else .vl rs false) else none
    | none => none
  | _ => none
def mB (n : Int) : Prop := -100000000 ≤ n ∧ n ≤ 100000000
instance (n : Int) : Decidable (mB n) := inferInstanceAs (Decidable (_ ∧ _))
def worseV (fo : Bool) (bs be su en : Int) : Bool := fo && !lexB su en bs be
def oWorse : List AVal → Option AVal
  | [.pv [.int .i64 _, c, t, j, bv, .int .i64 bs, .int .i64 be, .bool fo] 0, .agg [.int .i64 su, .int .i64 en]] => match dInts2 c, dStops t, dJobs j, dInts bv with
    | some _, some _, some _, some _ => if (mB bs ∧ mB be) ∧ mB su ∧ mB en then some (.bool (worseV fo bs be su en)) else none
    | _, _, _, _ => none
  | _ => none
theorem a67b (P : Program) (T : Nat → Option CFn) (hT : T 67 = some c67) (x y : Int) (tt : Bool) : Answers P T 67 [.vl [[I x], [I y]] tt] [] fun v h => frz true h 5 v = some (I (if x = 0 then y else x)) := by
 refine answers_of hT (orcF_none rfl) ?_
 simp only [oo, om, op, og, ci, cl, c67]
 refine zS ?_
 refine zR (zO (by simp [W_i1, W_i2b]; rfl) ?_)
 simp only [zT, zB]
 refine zS ?_
 refine zR (zO (by simp [W_i1, W_i2b]; rfl) ?_)
 simp only [zT, zB]
 refine zS ?_
 refine zS ?_
 refine zR (zO (by simp [W_i1, W_i2b]; rfl) ?_)
 simp only [zT, zB]
 refine zL ?_
 refine runs_loop_inv (fun m σ => (m = 2 ∧ σ = ⟨[.any, .any, .any, I 0, .any, .any, .vl [[I x], [I y]] tt, I 2, I 0, .any, .any, .any, .any, .any, .any, .any, .any, .any], []⟩) ∨ (m = 1 ∧ x = 0 ∧ σ = ⟨[.any, .any, .any, I 0, .any, .any, .vl [[I x], [I y]] tt, I 2, I 1, .any, .any, .any, .any, .any, .any, .any, .any, .any], []⟩) ∨ (m = 0 ∧ x = 0 ∧ y = 0 ∧ σ = ⟨[.any, .any, .any, I 0, .any, .any, .vl [[I x], [I y]] tt, I 2, I 2, .any, .any, .any, .any, .any, .any, .any, .any, .any], []⟩)) ?_ 2 _ (.inl ⟨rfl, by simp⟩)
 intro m σ hI
 rcases hI with ⟨rfl, rfl⟩ | ⟨rfl, hx, rfl⟩ | ⟨rfl, hx, hy, rfl⟩
 ·refine zS ?_
  refine zR (zO (by simp [W_i1, W_i2b]; rfl) ?_)
  simp only [zT, zB]
  refine zS ?_
  refine runs_cond (x := true) (by simp) ?_
  refine zK ?_
  simp only [zT, zB]
  refine zS ?_
  refine zL ?_
  refine zS ?_
  refine zR (zO (by simp [W_i1, W_i2b]; rfl) ?_)
  simp only [zT, zB]
  refine zS ?_
  refine zR (zO (by simp [W_i1, W_i2b]; rfl) ?_)
  simp only [zT, zB]
  refine runs_cond_split (x := !(x == 0)) (by simp [bne]) (fun hx => ?_) (fun hx => ?_)
  ·have hx : ¬ x = 0 := by simpa using hx
   rw [if_neg hx]
   refine zS ?_
   refine zR (zO (by simp [W_i1, W_i2b]; rfl) ?_)
   simp only [zT, zB]
   refine runs_ret ?_
   simp [W_i1, W_i2b]
  ·have hx : x = 0 := by simpa using hx
   refine zK ?_
   simp only [zT, zB]
   refine zR (zO (by simp [W_i1, W_i2b]; rfl) ?_)
   simp only [zT, zB]
   exact ⟨1, by omega, .inr (.inl ⟨rfl, hx, by simp [trim, W_i1, W_i2b]⟩)⟩
 ·subst hx
  rw [if_pos rfl]
  refine zS ?_
  refine zR (zO (by simp [W_i1, W_i2b]; rfl) ?_)
  simp only [zT, zB]
  refine zS ?_
  refine runs_cond (x := true) (by simp) ?_
  refine zK ?_
  simp only [zT, zB]
  refine zS ?_
  refine zL ?_
  refine zS ?_
  refine zR (zO (by simp [W_i1, W_i2b]; rfl) ?_)
  simp only [zT, zB]
  refine zS ?_
  refine zR (zO (by simp [W_i1, W_i2b]; rfl) ?_)
  simp only [zT, zB]
  refine runs_cond_split (x := !(y == 0)) (by simp [bne]) (fun hy => ?_) (fun hy => ?_)
  ·refine zS ?_
   refine zR (zO (by simp [W_i1, W_i2b]; rfl) ?_)
   simp only [zT, zB]
   refine runs_ret ?_
   simp [W_i1, W_i2b]
  ·have hy : y = 0 := by simpa using hy
   subst hy
   refine zK ?_
   simp only [zT, zB]
   refine zR (zO (by simp [W_i1, W_i2b]; rfl) ?_)
   simp only [zT, zB]
   exact ⟨0, by omega, .inr (.inr ⟨rfl, by simp, by simp, by simp [trim, W_i1, W_i2b]⟩)⟩
 ·subst hx
  subst hy
  rw [if_pos rfl]
  refine zS ?_
  refine zR (zO (by simp [W_i1, W_i2b]; rfl) ?_)
  simp only [zT, zB]
  refine zS ?_
  refine runs_cond (x := false) (by simp) ?_
  refine runs_exit ?_
  simp only [zT, zB, if_true, if_false, reduceIte, Nat.reduceEqDiff, Nat.succ_ne_zero, Nat.one_ne_zero, Nat.zero_ne_one]
  refine zS ?_
  refine zR (zO (by simp [W_i1, W_i2b]; rfl) ?_)
  simp only [zT, zB]
  refine runs_ret ?_
  simp [W_i1, W_i2b]
noncomputable def BA1 : Nat → Option CFn := upd FL1 67 true (oOrB)
theorem BA1_ok : TabOk Tryz.prog GG BA1 := tab_add mixed FL1_ok fun args v ho => by
  unfold oOrB at ho; split at ho <;> (try simp only [reduceCtorEq] at ho)
  rename_i x y tt
  simp only [Option.some.injEq] at ho
  subst ho
  exact a67b Tryz.prog FL1 rfl x y tt
def cloV (x : AVal) (xs : List Int) : AVal := match x with | .nils => .nils | _ => if xs = [] then .vl [] true else .vl (xs.map rI) false
theorem a148 (P : Program) (T : Nat → Option CFn) (hT : T 148 = some c148) (x : AVal) (xs : List Int) (hx : dInts x = some xs) (hl : xs.length ≤ 1000) : Answers P T 148 [x] [] fun v h => frz true h 5 v = some (cloV x xs) := by
 refine answers_of hT (orcF_none rfl) ?_
 simp only [oo, om, op, og, ci, cl, c148]
 rcases dInts_cases hx with ⟨rfl, rfl⟩ | ⟨tt, rfl⟩
 ·refine zS ?_
  refine zR (zO (by simp [cloV]; rfl) ?_)
  simp only [zT, zB]
  refine zS ?_
  refine zS ?_
  refine zR (zO (by simp [cloV]; rfl) ?_)
  simp only [zT, zB]
  refine runs_cond (x := true) (by simp) ?_
  refine zS ?_
  refine zR (zO (by simp [cloV]; rfl) ?_)
  simp only [zT, zB]
  refine runs_ret ?_
  simp [cloV]
 ·rcases xs with _ | ⟨x, l⟩
  ·refine zS ?_
   refine zR (zO (by simp [cloV]; rfl) ?_)
   simp only [zT, zB]
   refine zS ?_
   refine zS ?_
   refine zR (zO (by simp [cloV]; rfl) ?_)
   simp only [zT, zB]
   refine runs_cond (x := false) (by simp) ?_
   refine zK ?_
   simp only [zT, zB]
   refine zS ?_
   refine zR (zO (by simp [cloV]; rfl) ?_)
   simp only [zT, zB]
   refine runs_ret ?_
   simp [cloV, trim]
  ·have hl3 : l.length + 1 ≤ 1048576 := by simp at hl; omega
   have h4 : ((l.map rI).all fun r => r.length == 1) = true := by simp [rI]
   have h5 : ((l.map rI).all fun r => r.all storable) = true := by simp [rI]
   have tk : (l.map rI).take l.length = l.map rI := List.take_of_length_le (by simp)
   refine zS ?_
   refine zR (zO (by simp [cloV, hl3, ↓h4, ↓h5, ↓tk, zI, frz_mapI]; rfl) ?_)
   simp only [zT, zB]
   refine zS ?_
   refine zS ?_
   refine zR (zO (by simp [cloV, hl3, ↓h4, ↓h5, ↓tk, zI, frz_mapI]; rfl) ?_)
   simp only [zT, zB]
   refine runs_cond (x := false) (by simp) ?_
   refine zK ?_
   simp only [zT, zB]
   refine zS ?_
   refine zR (zO (by simp [cloV, hl3, ↓h4, ↓h5, ↓tk, zI, frz_mapI]; rfl) ?_)
   simp only [zT, zB]
   refine runs_ret ?_
   simp [cloV, hl3, ↓h4, ↓h5, ↓tk, zI, frz_mapI, trim]
noncomputable def BA2 : Nat → Option CFn := upd BA1 148 true (oCloI)
theorem BA2_ok : TabOk Tryz.prog GG BA2 := tab_add mixed BA1_ok fun args v ho => by
  unfold oCloI at ho; split at ho <;> (try simp only [reduceCtorEq] at ho)
  · simp only [Option.some.injEq] at ho
    subst ho
    exact a148 Tryz.prog BA1 rfl .nils [] rfl (by simp)
  · rename_i rs tt
    split at ho <;> (try simp only [reduceCtorEq] at ho)
    rename_i xs hxs
    split at ho <;> (try simp only [reduceCtorEq] at ho)
    rename_i hl
    simp only [Option.some.injEq] at ho
    subst ho
    have e := optAll_eq (enc := rI) dI1_eq hxs
    subst e
    exact a148 Tryz.prog BA1 rfl (.vl (xs.map rI) tt) xs (dInts_vl xs tt) hl
theorem a149_0 (P : Program) (T : Nat → Option CFn) (hT : T 149 = some c149) : Answers P T 149 [.nils] [] fun v1 h1 => norm 0 v1 h1 = some (.nils, []) := by
 refine answers_of hT (orcF_none rfl) ?_
 simp only [oo, om, op, og, ci, cl, c149]
 refine zS ?_
 refine zR (zO (by simp; rfl) ?_)
 simp only [zT, zB]
 refine zS ?_
 refine zR (zO (by simp; rfl) ?_)
 simp only [zT, zB]
 refine runs_ret ?_
 simp [trim]
theorem a149_1 (P : Program) (T : Nat → Option CFn) (hT : T 149 = some c149) (xs : List Int) : Answers P T 149 [.sl 0 0 xs.length false] [some (.row 1 (xs.map rI))] fun v1 h1 => norm 1 v1 h1 = some (.sl 0 0 xs.length true, [some (.row 1 (xs.map rI))]) := by
 have tk : (xs.map rI).take xs.length = xs.map rI := List.take_of_length_le (by simp)
 have hr1 : ∀ e : Int, (rI e).length = 1 := fun _ => rfl
 have rbN := fun n => rI_rb n 4 xs
 have fnN := fun n H => frN_mapI n H 4 xs
 refine answers_of hT (orcF_none rfl) ?_
 simp only [oo, om, op, og, ci, cl, c149]
 refine zS ?_
 refine zR (zO (by simp [evOpt, sliceA, bounds, hiB, bound, tk, hr1, ↓rbN, ↓fnN]; rfl) ?_)
 simp only [zT, zB]
 refine zS ?_
 refine zR (zO (by simp [evOpt, sliceA, bounds, hiB, bound, tk, hr1, ↓rbN, ↓fnN]; rfl) ?_)
 simp only [zT, zB]
 refine runs_ret ?_
 simp [evOpt, sliceA, bounds, hiB, bound, tk, hr1, ↓rbN, ↓fnN, trim]
noncomputable def sClip : List AVal → Heap → Option (AVal × Heap)
  | [.nils], [] => some (.nils, [])
  | [.sl 0 0 n false], [some (.row 1 rs)] => match optAll dI1 rs with
    | some xs => if n = xs.length then some (.sl 0 0 n true, [some (.row 1 rs)]) else none
    | none => none
  | _, _ => none
theorem sClip_sl (xs : List Int) : sClip [.sl 0 0 xs.length false] [some (.row 1 (xs.map rI))] = some (.sl 0 0 xs.length true, [some (.row 1 (xs.map rI))]) := by
  simp only [sClip, dI1_self]; rw [if_pos trivial]
noncomputable def BA3 : Nat → Option CFn := updE BA2 149 (frameE sClip)
theorem BA3_ok : TabOk Tryz.prog GG BA3 := tab_frame mixed BA2_ok fun args h v h' ho => by
  unfold sClip at ho
  split at ho <;> (try simp only [reduceCtorEq] at ho)
  · simp only [Option.some.injEq, Prod.mk.injEq] at ho
    obtain ⟨rfl, rfl⟩ := ho
    exact a149_0 Tryz.prog BA2 rfl
  · rename_i n rs
    split at ho <;> (try simp only [reduceCtorEq] at ho)
    rename_i xs hxs
    split at ho <;> (try simp only [reduceCtorEq] at ho)
    rename_i hn
    simp only [Option.some.injEq, Prod.mk.injEq] at ho
    obtain ⟨rfl, rfl⟩ := ho
    have e := optAll_eq (enc := rI) dI1_eq hxs
    subst e
    subst hn
    exact a149_1 Tryz.prog BA2 rfl xs
theorem a147 (P : Program) (T : Nat → Option CFn) (hT : T 147 = some c147) (h67 : T 67 = some { c67 with frsh := true, orc := oOrB }) (m : Int) (c t j bv : AVal) (cs : List (List Int)) (ts : List FStop) (js : List FJob) (bo : List Int) (hc : dInts2 c = some cs) (ht : dStops t = some ts) (hj : dJobs j = some js) (hb : dInts bv = some bo) (bs be su en : Int) (fo : Bool) (hg : (mB bs ∧ mB be) ∧ mB su ∧ mB en) : Answers P T 147 [.pv [I m, c, t, j, bv, I bs, I be, .bool fo] 0, .agg [I su, I en]] [] fun v h => frz true h 5 v = some (.bool (worseV fo bs be su en)) := by
 have fc := fun H d => dInts2_frz hc H d
 have ft := fun H d => dStops_frz ht H d
 have fj := fun H d => dJobs_frz hj H d
 have fb := fun H d => dInts_frz hb H d
 unfold mB at hg
 refine answers_of hT (orcF_none rfl) ?_
 simp only [oo, om, op, og, ci, cl, c147]
 rcases fo with _ | _
 ·have HH1 := zA h67 (zA fc (zA ft (zA fj fb)))
  refine zS ?_
  refine zR (zO (by simp [zC h67, HH1]; rfl) ?_)
  simp only [zT, zB]
  refine zS ?_
  refine runs_drw (by simp (maxSteps := 3000000) [zC h67, HH1]; rfl) ?_
  simp only [zT, zB]
  refine runs_ret ?_
  simp [zC h67, HH1, worseV]
 ·have w1 : W .i64 (su - bs) = su - bs := W_fit (by omega)
  have w2 : W .i64 (en - be) = en - be := W_fit (by omega)
  have hor : oOrB [.vl [[I (su - bs)], [I (en - be)]] true] = some (I (if su - bs = 0 then en - be else su - bs)) := rfl
  have hfin : decide (0 ≤ (if su - bs = 0 then en - be else su - bs)) = worseV true bs be su en := by
   simp only [worseV, lexB, Bool.true_and]
   rw [Bool.eq_iff_iff]
   simp only [decide_eq_true_eq, Bool.not_eq_true', Bool.or_eq_false_iff, Bool.and_eq_false_iff, decide_eq_false_iff_not]
   split <;> omega
  generalize (if su - bs = 0 then en - be else su - bs) = z at *
  have HH2 := zA h67 (zA fc (zA ft (zA fj (zA fb (zA w1 (zA w2 (zA hor hfin)))))))
  refine zS ?_
  refine zR (zO (by simp [zC h67, HH2]; rfl) ?_)
  simp only [zT, zB]
  refine zS ?_
  refine runs_drw (by simp (maxSteps := 3000000) [zC h67, HH2]; rfl) ?_
  simp only [zT, zB]
  refine runs_ret ?_
  simp [zC h67, HH2]
noncomputable def BA : Nat → Option CFn := upd BA3 147 true (oWorse)
theorem BA_ok : TabOk Tryz.prog GG BA := tab_add mixed BA3_ok fun args v ho => by
  unfold oWorse at ho; split at ho <;> (try simp only [reduceCtorEq] at ho)
  rename_i m c t j bv bs be fo su en
  split at ho <;> (try simp only [reduceCtorEq] at ho)
  rename_i cs ts js bo hc ht hj hb
  split at ho <;> (try simp only [reduceCtorEq] at ho)
  rename_i hg
  simp only [Option.some.injEq] at ho
  subst ho
  exact a147 Tryz.prog BA3 rfl rfl m c t j bv cs ts js bo hc ht hj hb bs be su en fo hg
end
end
end Go.Proofs.YtjjapdagllclkaaGreat.Tab
namespace Go.Abs
open Go
section
variable {P : Program} {G : Nat → Option (List AVal)} {T : Nat → Option CFn}
theorem tab_frame2 (hm : P.follows .mixedOrders = true) (hT : TabOk P G T) {f : Nat} {sp sp' : List AVal → Heap → Option (AVal × Heap)}
  (hE : ∀ args h v us, frameE sp args h = some (v, us) → CallGood P G f args h v (setH h us))
  (ho : ∀ args h v h', sp' args h = some (v, h') → sp args h = some (v, h') ∨ Answers P T f args h fun v1 h1 => norm h.length v1 h1 = some (v, h')) : TabOk P G (updE T f (frameE sp')) :=
 tab_updE hT fun args h v us he => by
  unfold frameE at he
  split at he <;> (try simp only [reduceCtorEq] at he)
  rename_i ass h0 e1 e2
  split at he <;> (try simp only [reduceCtorEq] at he)
  rename_i v1 h1 e3
  split at he <;> (try simp only [reduceCtorEq] at he)
  rename_i hg
  split at he <;> (try simp only [reduceCtorEq] at he)
  rename_i v' hb
  simp at he
  obtain ⟨rfl, rfl⟩ := he
  rcases ho ass h0 v1 h1 e3 with h3 | h3
  ·refine hE _ _ _ _ ?_
   unfold frameE
   simp only [e1, e2, h3, hb]
   rw [if_pos hg]
  ·obtain ⟨v2, h2, hn, hgood⟩ := answers_good hm hT h3
   exact frame_good (norm_good hgood hn) (ptrs_nodup args [] List.nodup_nil) e1 e2 hg.1 hg.2 hb
theorem tab_eff (hT : TabOk P G T) {f : Nat} {c : CFn} (hf : T f = some c) : ∀ args h v us, c.eff args h = some (v, us) → CallGood P G f args h v (setH h us) := by
 obtain ⟨_, _, _, _, _, _, _, _, _, h8⟩ := hT f c hf
 exact h8
end
end Go.Abs
namespace Go.Proofs.YtjjapdagllclkaaGreat.Tab
open Go Go.Abs Go.Proofs
set_option maxRecDepth 100000
set_option maxHeartbeats 4000000
set_option linter.unusedSimpArgs false
set_option linter.unusedVariables false
section
attribute [local simp] frz_int frz_bool frz_vl frz_pv frz_agg frz_tup frz_fn frz_ref frz_sl frz_nils optAll orcF rb_int rb_bool rb_agg rb_tup rb_int' rb_bool' rb_vl rb_pv rb_yld rb_nilf rb_nilp rb_nils rb_any rb_und rb_ref rb_sl rb_fn slE chunk fillA evParts evParts3 putAt List.range_succ List.range_zero List.range'_succ List.range'_zero runX_nil' unary_not evalS_pure evAll_nil evAll_cons runX_cons stepX wantedA dop CV.ev putK_eq setK_eq appK_eq fA_eq fI_eq fN_eq fRow_eq fRows_eq nth_eq Out.v putT List.replicate_succ zT zB arI pointee Abs.rowAt ldRow allV toV toC ofV ofC Builtin.min_ Builtin.min2 Builtin.max_ Builtin.max2 min_if max_if resA tupA kill trim_self trim_len trim_emp trim_nil lenA
attribute [local simp] runD_nil' runD_cons' stepD actK_eq actD clash disj masks holes maskH unmaskH diffs news eqB allB eqA ldRowN wrote toCs ofCs stA rowsV_vl rowsV_nils rowsOf dI1 dI2 dI3 dI5 elt
attribute [local simp] st_any st_und st_agg st_tup st_bool st_int st_nilp st_ref st_pv st_nils st_sl st_vl st_nilm st_mp st_fn st_nilf st_yld co_any co_und co_agg co_tup co_bool co_int co_nilp co_ref co_pv co_nils co_sl co_vl co_nilm co_mp co_fn co_nilf co_yld
section
attribute [local simp] above backA backA1 callA calleeA flatAt flatBlk frNB_none frNB_row frN_agg frN_bool frN_int frN_nils frN_ref frN_sl frN_tup frN_vl frameE frzG gather getR lim lop loud lowA lowR norm okG posOf ptrs putG putH putR rbB_none rbB_row renA resG rowAt setH takeG
def bC (m : Int) (c t j : AVal) (b : FBest) : List AVal := [I m, c, t, j, encV b.order, I b.sum, I b.last, .bool b.found]
structure TryOk (D : Nat) (s : FShop) (js : List FJob) (now : List Int) (lc : List AVal) (su en : Int) (bv : AVal) (bo : List Int) (bs be : Int) : Prop where
  ok : ShopOk s js
  lt : js.length - now.length < D
  nw : NowOk js now (js.length - now.length)
  line : lc = lineC (runF s js now).line
  lat : (su, en) = latO s js now
  bv : bv = encV bo
  bb : mB bs ∧ mB be
open Classical in
noncomputable def sTry (D : Nat) : List AVal → Heap → Option (AVal × Heap)
  | [.ref 0 0 0, .nils, .agg lc, .agg [.int .i64 su, .int .i64 en]], [some (.row 8 [[.int .i64 m, c, t, j, bv, .int .i64 bs, .int .i64 be, .bool fo]])] =>
    match dInts2 c, dStops t, dJobs j, dInts bv with
    | some cs, some ts, some js, some bo => if TryOk D ⟨m, cs, ts⟩ js [] lc su en bv bo bs be then some (.tup [], [some (.row 8 [bC m c t j (tryF ⟨m, cs, ts⟩ js js.length [] ⟨bo, bs, be, fo⟩)])]) else none
    | _, _, _, _ => none
  | [.ref 0 0 0, .sl 1 0 n false, .agg lc, .agg [.int .i64 su, .int .i64 en]], [some (.row 8 [[.int .i64 m, c, t, j, bv, .int .i64 bs, .int .i64 be, .bool fo]]), some (.row 1 rs)] =>
    match dInts2 c, dStops t, dJobs j, dInts bv, optAll dI1 rs with
    | some cs, some ts, some js, some bo, some now => if TryOk D ⟨m, cs, ts⟩ js now lc su en bv bo bs be ∧ n = now.length ∧ 1 ≤ n then some (.tup [], [some (.row 8 [bC m c t j (tryF ⟨m, cs, ts⟩ js (js.length - now.length) now ⟨bo, bs, be, fo⟩)]), some (.row 1 rs)]) else none
    | _, _, _, _, _ => none
  | _, _ => none
theorem sTry_nil {D : Nat} {s : FShop} {js : List FJob} {c t j : AVal} {b : FBest} {lc : List AVal} {su en : Int} (hc : dInts2 c = some s.chg) (ht : dStops t = some s.stops) (hj : dJobs j = some js) (h : TryOk D s js [] lc su en (encV b.order) b.order b.sum b.last) : sTry D [.ref 0 0 0, .nils, .agg lc, .agg [I su, I en]] [some (.row 8 [bC s.mach c t j b])] = some (.tup [], [some (.row 8 [bC s.mach c t j (tryF s js js.length [] b)])]) := by
  simp only [sTry, bC, hc, ht, hj, dInts_encV]
  rw [if_pos h]
theorem sTry_sl {D : Nat} {s : FShop} {js : List FJob} {c t j : AVal} {b : FBest} {lc : List AVal} {su en : Int} {now : List Int} (hc : dInts2 c = some s.chg) (ht : dStops t = some s.stops) (hj : dJobs j = some js) (h : TryOk D s js now lc su en (encV b.order) b.order b.sum b.last) (h1 : 1 ≤ now.length) : sTry D [.ref 0 0 0, .sl 1 0 now.length false, .agg lc, .agg [I su, I en]] [some (.row 8 [bC s.mach c t j b]), some (.row 1 (now.map rI))] = some (.tup [], [some (.row 8 [bC s.mach c t j (tryF s js (js.length - now.length) now b)]), some (.row 1 (now.map rI))]) := by
  simp only [sTry, bC, hc, ht, hj, dInts_encV, dI1_self]
  rw [if_pos ⟨h, rfl, h1⟩]
theorem lat_bd {s : FShop} {js : List FJob} (h : ShopOk s js) {now : List Int} {d : Nat} (hw : NowOk js now d) : (0 ≤ (latO s js now).1 ∧ (latO s js now).1 ≤ 6000000) ∧ (0 ≤ (latO s js now).2 ∧ (latO s js now).2 ≤ 1000000) := by
  have h6 := h.njob
  have hr := runF_ok h (os := now) (by have := hw.len; omega) hw.mem
  have hb := latF_bd (E := (runF s js now).ends) (js := js) (fun e he => by have := hr.en e he; omega) (fun j hj => (h.job j hj).2.2.1.1) js.length (by omega) (Nat.le_refl _)
  unfold latO
  omega
def bOk (b : FBest) : Prop := mB b.sum ∧ mB b.last
theorem foldl_inv {α β : Type} {f : β → α → β} {Q : β → Prop} : ∀ {l : List α} {b : β}, Q b → (∀ i ∈ l, ∀ b, Q b → Q (f b i)) → Q (l.foldl f b)
  | [], _, h, _ => h
  | a :: l, b, h, hf => by rw [List.foldl_cons]; exact foldl_inv (hf a (by simp) b h) fun i hi => hf i (by simp [hi])
theorem try_bd {s : FShop} {js : List FJob} (h : ShopOk s js) : ∀ (d : Nat) (now : List Int) (b : FBest), NowOk js now d → bOk b → bOk (tryF s js d now b)
  | 0, now, b, hw, hb => by
    have hl := lat_bd h hw
    simp only [tryF]
    split
    · exact hb
    · exact ⟨⟨by simp only; omega, by simp only; omega⟩, ⟨by simp only; omega, by simp only; omega⟩⟩
  | d + 1, now, b, hw, hb => by
    simp only [tryF]
    split
    · exact hb
    · refine foldl_inv hb fun i hi b hb => ?_
      have hi := List.mem_range.1 hi
      split
      · exact hb
      · rename_i hn; exact try_bd h d _ b (hw.snoc hi hn) hb
noncomputable def tryS (s : FShop) (js : List FJob) (d : Nat) (now : List Int) (b : FBest) (i : Nat) : FBest := if (i : Int) ∈ now then b else tryF s js d (now ++ [(i : Int)]) b
theorem tryF_succ {s : FShop} {js : List FJob} {d : Nat} {now : List Int} {b : FBest} (h : ¬ worseB b (latO s js now) = true) : tryF s js (d + 1) now b = (List.range js.length).foldl (tryS s js d now) b := by
  simp only [tryF]; rw [if_neg h]; rfl
theorem oWorse_eq {m : Int} {c t j : AVal} {cs : List (List Int)} {ts : List FStop} {js : List FJob} (hc : dInts2 c = some cs) (ht : dStops t = some ts) (hj : dJobs j = some js) {b : FBest} (hb : bOk b) {x : Int × Int} (hx : mB x.1 ∧ mB x.2) : oWorse [.pv (bC m c t j b) 0, .agg [I x.1, I x.2]] = some (.bool (worseB b x)) := by
  simp only [oWorse, bC, hc, ht, hj, dInts_encV]
  rw [if_pos ⟨hb, hx⟩]; rfl
theorem bC_rb {c t j : AVal} {cs : List (List Int)} {ts : List FStop} {js : List FJob} (hc : dInts2 c = some cs) (ht : dStops t = some ts) (hj : dJobs j = some js) (m : Int) (b : FBest) (n d : Nat) : (bC m c t j b).all (rb n (d + 1)) = true := by
  simp only [bC, List.all_cons, List.all_nil, rb_int, rb_bool, dInts2_rb hc, dStops_rb ht, dJobs_rb hj, dInts_rb (dInts_encV b.order)]
  rfl
theorem rowsV_frN {x : AVal} {rs : List (List AVal)} (h : rowsV x = some rs) (n : Nat) (H : Heap) (d : Nat) : frN n H (d + 1) x = some x := by
  rcases rowsV_cases h with ⟨rfl, _⟩ | ⟨t, rfl⟩ <;> rfl
theorem lineC_st : ∀ l : FLine, (lineC l).all storable = true
  | [] => rfl
  | x :: l => by
    show (storable (I x.1) && (storable (I x.2.1) && (storable (.bool x.2.2) && (lineC l).all storable))) = true
    rw [lineC_st l]; rfl
theorem tryF_worse {s : FShop} {js : List FJob} {now : List Int} {b : FBest} (h : worseB b (latO s js now) = true) : ∀ {d : Nat}, tryF s js d now b = b
  | 0 => by simp only [tryF]; rw [if_pos h]
  | d + 1 => by simp only [tryF]; rw [if_pos h]
theorem a111_0 (P : Program) (T : Nat → Option CFn) (D : Nat) (hT : T 111 = some { c111 with frsh := false, orc := fun _ => none, eff := frameE (sTry D) }) (h147 : T 147 = some { c147 with frsh := true, orc := oWorse }) (h148 : T 148 = some { c148 with frsh := true, orc := oCloI }) (h149 : T 149 = some { c149 with frsh := false, orc := fun _ => none, eff := frameE sClip }) (h84 : T 84 = some { c84 with frsh := true, orc := oCont }) (h63 : T 63 = some { c63 with frsh := true, orc := oPlus }) (h102 : T 102 = some { c102 with body := annK [(229738, [.slot 6])] [] c102.body, frsh := false, orc := fun _ => none, eff := frameE sPass }) (s : FShop) (js : List FJob) (c t j : AVal) (hc : dInts2 c = some s.chg) (ht : dStops t = some s.stops) (hj : dJobs j = some js) (b : FBest) (lc : List AVal) (su en : Int) (now : List Int) (hok : TryOk (D + 1) s js now lc su en (encV b.order) b.order b.sum b.last) (hlev : js.length - now.length = D) (hn0 : now = []) (he : frameE (sTry D) [.ref 0 0 0, .nils, .agg lc, .agg [I su, I en]] [some (.row 8 [bC s.mach c t j b])] = none) : Answers P T 111 [.ref 0 0 0, .nils, .agg lc, .agg [I su, I en]] [some (.row 8 [bC s.mach c t j b])] fun v1 h1 => norm 1 v1 h1 = some (.tup [], [some (.row 8 [bC s.mach c t j (tryF s js (js.length - now.length) now b)])]) := by
 have fc := fun H d => dInts2_frz hc H d
 have ft := fun H d => dStops_frz ht H d
 have fj := fun H d => dJobs_frz hj H d
 have rc := fun n d => dInts2_rb hc n d
 have rt := fun n d => dStops_rb ht n d
 have rj := fun n d => dJobs_rb hj n d
 have lc := dInts2_len hc
 have lt := dStops_len ht
 have lj := dJobs_len hj
 obtain ⟨cc1, cc2⟩ := dInts2_cells hc
 obtain ⟨ct1, ct2⟩ := dStops_cells ht
 obtain ⟨cj1, cj2⟩ := dJobs_cells hj
 have h111 := hT
 obtain ⟨hsh, hlt, hnw, hline, hlat, hbv, hbb⟩ := hok
 have feb := fun (b : FBest) H d => dInts_frz (dInts_encV b.order) H d
 have reb := fun (b : FBest) n d => dInts_rb (dInts_encV b.order) n d
 have ceb1 := fun (b : FBest) => (dInts_cells (dInts_encV b.order)).1
 have ceb2 := fun (b : FBest) => (dInts_cells (dInts_encV b.order)).2
 have fnb := fun (b : FBest) n H d => rowsV_frN (dInts_rows (dInts_encV b.order)) n H d
 have fnc := fun n H d => let ⟨_, h1, _⟩ := dInts2_rows hc; rowsV_frN h1 n H d
 have fnt := fun n H d => rowsV_frN (dStops_rows ht) n H d
 have fnj := fun n H d => let ⟨_, h1, _⟩ := dJobs_rows hj; rowsV_frN h1 n H d
 have hn6 := hsh.njob
 have hlb := lat_bd hsh hnw
 have hrun := runF_ok hsh (os := now) (by have := hnw.len; omega) hnw.mem
 have hL4 := hrun.line.len
 have hLo := hrun.line
 subst hline
 have hx := congrArg Prod.fst hlat
 have hy := congrArg Prod.snd hlat
 simp only at hx hy
 have hwo := oWorse_eq (m := s.mach) hc ht hj (b := b) hbb (x := latO s js now) ⟨⟨by omega, by omega⟩, ⟨by omega, by omega⟩⟩
 rw [← hx, ← hy] at hwo
 simp only [bC] at hwo
 have hlr := fun n d => lineC_rb n d (runF s js now).line
 have hll : (lineC (runF s js now).line).length = 12 := by rw [lineC_len, hL4]
 have hno6 : now.length ≤ 6 := by have := hnw.len; omega
 have hlt1 : (lineC (runF s js now).line).take 12 = lineC (runF s js now).line := List.take_of_length_le (by omega)
 have hls1 := lineC_st (runF s js now).line
 subst hn0
 have hcl : oCloI [.nils] = some (encV []) := rfl
 have hcp : sClip [.nils] [] = some (.nils, []) := rfl
 have hct : ∀ i : Int, oCont [.nils, I i] = some (.bool (decide (i ∈ ([] : List Int)))) := fun i => rfl
 have fen := fun H d => dInts_frz (dInts_encV []) H d
 have ren := fun n d => dInts_rb (dInts_encV []) n d
 obtain ⟨cen1, cen2⟩ := dInts_cells (dInts_encV [])
 have fnn := fun n H d => rowsV_frN (dInts_rows (dInts_encV [])) n H d
 have lov : lenA (.nils) = some ([] : List Int).length := rfl
 refine answers_of hT (orcF_none rfl) ?_ he
 simp only [oo, om, op, og, ci, cl, c111]
 have HH1 := zA h147 (zA h148 (zA h84 (zA h63 (zA h111 (zA h102 (zA h149 (zA fc (zA ft (zA fj (zA rc (zA rt (zA rj (zA lc (zA lt (zA lj (zA cc1 (zA cc2 (zA ct1 (zA ct2 (zA cj1 (zA cj2 (zA feb (zA reb (zA ceb1 (zA ceb2 (zA fnb (zA fnc (zA fnt (zA fnj (zA hwo (zA hcl (zA hcp (zA hct (zA hlr (zA hll (zA hls1 (zA fen (zA ren (zA cen1 (zA cen2 (zA fnn lov)))))))))))))))))))))))))))))))))))))))))
 refine zS ?_
 refine zR (zO (by simp [zC h147, zC h148, zC h84, zC h63, callF_eff h111 rfl, ↓orc_nil, callF_eff h102 rfl, callF_eff h149 rfl, -lenA, bC, zI, ↓hlt1, HH1]; rfl) ?_)
 simp only [zT, zB]
 refine zS ?_
 refine zS ?_
 refine zR (zO (by simp [zC h147, zC h148, zC h84, zC h63, callF_eff h111 rfl, ↓orc_nil, callF_eff h102 rfl, callF_eff h149 rfl, -lenA, bC, zI, ↓hlt1, HH1]; rfl) ?_)
 simp only [zT, zB]
 rcases hwb : worseB b (latO s js ([] : List Int)) with _ | _
 ·refine runs_cond (x := false) (by simp [hwb]) ?_
  refine zK ?_
  simp only [zT, zB]
  refine zS ?_
  refine zS ?_
  refine zR (zO (by simp [zC h147, zC h148, zC h84, zC h63, callF_eff h111 rfl, ↓orc_nil, callF_eff h102 rfl, callF_eff h149 rfl, -lenA, bC, zI, ↓hlt1, HH1]; rfl) ?_)
  simp only [zT, zB]
  by_cases hle : ([] : List Int).length = js.length
  ·refine runs_cond (x := true) (by simp [← hle]) ?_
   have hres : tryF s js (js.length - ([] : List Int).length) ([] : List Int) b = ⟨([] : List Int), su, en, true⟩ := by
    rw [show js.length - ([] : List Int).length = 0 by omega]
    simp only [tryF]
    rw [if_neg (by rw [hwb]; simp), hx, hy]
   rw [hres]
   refine zS ?_
   refine runs_drw (by simp (maxSteps := 3000000) [zC h147, zC h148, zC h84, zC h63, callF_eff h111 rfl, ↓orc_nil, callF_eff h102 rfl, callF_eff h149 rfl, -lenA, bC, zI, ↓hlt1, HH1]; rfl) ?_
   simp only [zT, zB]
   refine runs_ret ?_
   simp [zC h147, zC h148, zC h84, zC h63, callF_eff h111 rfl, ↓orc_nil, callF_eff h102 rfl, callF_eff h149 rfl, -lenA, bC, zI, ↓hlt1, HH1, trim]
  ·refine runs_cond (x := false) (by have h0 := hle; simp at h0 ⊢; omega) ?_
   obtain ⟨d, hd⟩ : ∃ d, js.length - ([] : List Int).length = d + 1 := ⟨js.length - ([] : List Int).length - 1, by have := hnw.len; omega⟩
   rw [hd, tryF_succ (by rw [hwb]; simp)]
   rw [hd] at hnw
   have hlen := hnw.len
   have h0len : ([] : List Int).length = 0 := rfl
   refine zK ?_
   simp only [zT, zB]
   refine zS ?_
   refine zR (zO (by simp [zC h147, zC h148, zC h84, zC h63, callF_eff h111 rfl, ↓orc_nil, callF_eff h102 rfl, callF_eff h149 rfl, -lenA, bC, zI, ↓hlt1, HH1]; rfl) ?_)
   simp only [zT, zB]
   refine zL ?_
   refine runs_loop_inv (fun m σ => ∃ (k : Nat) (i : Int) (b1 : FBest), i = k ∧ js.length - k = m ∧ k ≤ js.length ∧ b1 = (List.range k).foldl (tryS s js d ([] : List Int)) b ∧ bOk b1 ∧ σ = ⟨[.ref 0 0 0, .nils, .any, .any, .any, .any, .ref 1 0 0, .ref 2 0 0, .any, .any, .any, .any, .any, .any, .any, .any, .any, .any, .any, .any, .any, .any, .any, .any, .any, .any, .any, .any, .any, .any, .any, .any, .any, .any, .any, .any, .any, .any, .any, .any, .any, j, I js.length, I i, .any, .any, .any, .any, .any, .any, .any, .any, .any, .any, .any, .any, .any, .any, .any, .any, .any, .any, .any, .any, .any, .any, .any, .any, .any, .any, .any, .any, .any, .any], [some (.row 8 [[I s.mach, c, t, j, encV b1.order, I b1.sum, I b1.last, .bool b1.found]]), some (.row 12 [lineC (runF s js ([] : List Int)).line]), some (.row 2 [[I su, I en]])]⟩) ?_ (js.length - 0) _ ⟨0, 0, b, rfl, rfl, Nat.zero_le _, rfl, hbb, by simp⟩
   rintro m σ ⟨k, i, b1, hik, rfl, hkl, hb1, hbo, rfl⟩
   refine zS ?_
   refine zR (zO (by simp [zC h147, zC h148, zC h84, zC h63, callF_eff h111 rfl, ↓orc_nil, callF_eff h102 rfl, callF_eff h149 rfl, -lenA, bC, zI, ↓hlt1, HH1]; rfl) ?_)
   simp only [zT, zB]
   refine zS ?_
   refine runs_cond_split (x := decide (i < (js.length : Int))) (by simp) (fun hlt2 => ?_) (fun hlt2 => ?_)
   ·have hlt2 := of_decide_eq_true hlt2
    have hk0 : k < js.length := by omega
    obtain ⟨rs, tj, wv, rfl, hr1, hr2, hwv⟩ := dJobs_get hj hk0
    have hkr : k < rs.length := by omega
    have hr4 : ∀ h, rs[k]'h = [I js[k].kind, I js[k].ready, I js[k].due, wv] := fun h => by rw [List.getElem?_eq_getElem h] at hr2; exact Option.some.inj hr2
    have rw5 := fun n d => dInts_rb hwv n d
    have fw5 := fun H d => dInts_frz hwv H d
    obtain ⟨cw1, cw2⟩ := dInts_cells hwv
    have hjb := hsh.job _ (List.getElem_mem hk0)
    have hi0 : 0 ≤ i := by omega
    have htn : i.toNat = k := by omega
    have hwi : W .i64 (i + 1) = i + 1 := W_small (by omega)
    have hb2 : (List.range (k + 1)).foldl (tryS s js d ([] : List Int)) b = tryS s js d ([] : List Int) b1 k := by rw [List.range_succ, List.foldl_append, ← hb1]; rfl
    by_cases hm : (k : Int) ∈ ([] : List Int)
    ·have hS : tryS s js d ([] : List Int) b1 k = b1 := by unfold tryS; rw [if_pos hm]
     have hmi : i ∈ ([] : List Int) := by rw [hik]; exact hm
     have HH2 := zA hi0 (zA htn (zA hk0 (zA hwi (zA hkr (zA hr2 (zA hr4 (zA rw5 (zA fw5 (zA cw1 (zA cw2 hmi))))))))))
     refine zK ?_
     simp only [zT, zB]
     refine zS ?_
     refine zL ?_
     refine zS ?_
     refine zR (zO (by simp [zC h147, zC h148, zC h84, zC h63, callF_eff h111 rfl, ↓orc_nil, callF_eff h102 rfl, callF_eff h149 rfl, -lenA, bC, zI, ↓hlt1, HH1, HH2]; rfl) ?_)
     simp only [zT, zB]
     refine zS ?_
     refine zS ?_
     refine zR (zO (by simp [zC h147, zC h148, zC h84, zC h63, callF_eff h111 rfl, ↓orc_nil, callF_eff h102 rfl, callF_eff h149 rfl, -lenA, bC, zI, ↓hlt1, HH1, HH2]; rfl) ?_)
     simp only [zT, zB]
     refine runs_cond (x := true) (by simp [hmi]) ?_
     refine runs_exit ?_
     simp only [zT, zB, if_true, if_false, reduceIte, Nat.reduceEqDiff, Nat.succ_ne_zero, Nat.one_ne_zero, Nat.zero_ne_one]
     refine zR (zO (by simp [zC h147, zC h148, zC h84, zC h63, callF_eff h111 rfl, ↓orc_nil, callF_eff h102 rfl, callF_eff h149 rfl, -lenA, bC, zI, ↓hlt1, HH1, HH2]; rfl) ?_)
     simp only [zT, zB]
     exact ⟨js.length - (k + 1), by omega, k + 1, i + 1, b1, by omega, rfl, by omega, by rw [hb2, hS], hbo, by simp [trim, zC h147, zC h148, zC h84, zC h63, callF_eff h111 rfl, ↓orc_nil, callF_eff h102 rfl, callF_eff h149 rfl, -lenA, bC, zI, ↓hlt1, HH1, HH2]⟩
    ·have hmi : ¬ i ∈ ([] : List Int) := by rw [hik]; exact hm
     have hS : tryS s js d ([] : List Int) b1 k = tryF s js d (([] : List Int) ++ [(k : Int)]) b1 := by unfold tryS; rw [if_neg hm]
     have hgd : js.getD k default = js[k] := by rw [List.getD_eq_getElem?_getD, List.getElem?_eq_getElem hk0]; rfl
     obtain ⟨hl1, hl2, hl3⟩ := lat_snoc hsh hnw hk0 hm
     have hnw2 := hnw.snoc hk0 hm
     have hdu : dueAt js k = js[k].due := by unfold dueAt; rw [hgd]
     have hpE : passE s js ([] : List Int) k = (passF s (runF s js ([] : List Int)).line js[k]).2.1 := by unfold passE; rw [hgd]
     rw [hdu, hpE] at hl1
     rw [hpE] at hl2 hl3
     have hrs : runF s js (([] : List Int) ++ [(k : Int)]) = runStep s js (runF s js ([] : List Int)) k := runF_snoc s js ([] : List Int) k
     have hln : (runF s js (([] : List Int) ++ [(k : Int)])).line = (passF s (runF s js ([] : List Int)).line js[k]).2.2 := by rw [hrs]; unfold runStep; simp only [Int.toNat_natCast, hgd]
     have hpass : sPass [.agg [I s.mach, c, t, .vl rs tj], .ref 0 0 0, .agg [I js[k].kind, I js[k].ready, I js[k].due, wv]] [some (.row 12 [lineC (runF s js ([] : List Int)).line])] = some (.tup [.vl ((passF s (runF s js ([] : List Int)).line js[k]).1.map rI) false, I (passF s (runF s js ([] : List Int)).line js[k]).2.1], [some (.row 12 [lineC (passF s (runF s js ([] : List Int)).line js[k]).2.2])]) := by
      simp only [sPass, hc, ht, hj, hwv, dLine_of hLo.len]
      rw [if_pos ⟨hsh, hLo.mono (by omega), hjb.1, by have := hjb.2.1; simp only; omega, hjb.2.2.2.1, fun n hn => by have := hjb.2.2.2.2 n hn; omega⟩]
     have hbd2 := try_bd hsh d _ b1 hnw2 hbo
     have hpl : oPlus [.agg [I su, I en], .agg [I js[k].kind, I js[k].ready, I js[k].due, wv], I (passF s (runF s js ([] : List Int)).line js[k]).2.1] = some (.agg [I (latO s js (([] : List Int) ++ [(k : Int)])).1, I (latO s js (([] : List Int) ++ [(k : Int)])).2]) := by
      have := hjb.2.2.1
      simp only [oPlus, hwv]
      rw [if_pos ⟨⟨by omega, by omega⟩, ⟨by omega, by omega⟩, ⟨by omega, by omega⟩⟩, hl1, hx, hy]
     have hTk : TryOk D s js (([] : List Int) ++ [(k : Int)]) (lineC (runF s js (([] : List Int) ++ [(k : Int)])).line) (latO s js (([] : List Int) ++ [(k : Int)])).1 (latO s js (([] : List Int) ++ [(k : Int)])).2 (encV b1.order) b1.order b1.sum b1.last :=
      ⟨hsh, by have := hnw2.len; omega, by rw [show js.length - (([] : List Int) ++ [(k : Int)]).length = d by have := hnw2.len; omega]; exact hnw2, rfl, rfl, rfl, hbo⟩
     have htr := sTry_sl hc ht hj hTk (by simp)
     rw [show js.length - (([] : List Int) ++ [(k : Int)]).length = d by have := hnw2.len; omega] at htr
     simp only [bC] at htr
     rw [hS] at hb2
     rw [hln] at htr
     have hlr2 := fun n d => lineC_rb n d (passF s (runF s js ([] : List Int)).line js[k]).2.2
     have hll2 : (lineC (passF s (runF s js ([] : List Int)).line js[k]).2.2).length = 12 := by
      rw [lineC_len, ← hln, (runF_ok hsh (os := ([] : List Int) ++ [(k : Int)]) (by have := hnw2.len; omega) hnw2.mem).line.len]
     have hlt3 : (lineC (passF s (runF s js ([] : List Int)).line js[k]).2.2).take 12 = lineC (passF s (runF s js ([] : List Int)).line js[k]).2.2 := List.take_of_length_le (by omega)
     have hls2 := lineC_st (passF s (runF s js ([] : List Int)).line js[k]).2.2
     generalize latO s js (([] : List Int) ++ [(k : Int)]) = LT at *
     obtain ⟨su2, en2⟩ := LT
     generalize (passF s (runF s js ([] : List Int)).line js[k]).2.2 = L2 at *
     generalize (passF s (runF s js ([] : List Int)).line js[k]).2.1 = E2 at *
     generalize (passF s (runF s js ([] : List Int)).line js[k]).1 = S2 at *
     generalize tryF s js d (([] : List Int) ++ [(k : Int)]) b1 = b2 at *
     rw [← hik] at htr
     have hnl : (([] : List Int) ++ [i]).length = ([] : List Int).length + 1 := by simp
     have hnx : (([] : List Int) ++ [i]).map rI = ([] : List Int).map rI ++ [[I i]] := by rw [List.map_append]; rfl
     rw [hnl, hnx] at htr
     have rbX : ∀ n, (((([] : List Int)).map rI ++ [[I i]]).all fun r => r.all (rb n 5)) = true := fun n => by rw [← hnx]; exact rI_rb n 4 _
     have feb1 := fun H d => dInts_frz (dInts_encV b1.order) H d
     have cl1 : ((([] : List Int).map rI ++ [[I i]]).all fun r => r.length == 1) = true := by simp [rI]
     have fnX : ∀ n H, optAll (optAll (frN n H 5)) (([] : List Int).map rI ++ [[I i]]) = some (([] : List Int).map rI ++ [[I i]]) := fun n H => by rw [← hnx]; exact frN_mapI n H 4 _
     simp only [List.nil_append, List.map_nil, List.length_nil, Nat.zero_add] at htr rbX cl1 fnX
     have HH3 := zA hi0 (zA htn (zA hk0 (zA hwi (zA hkr (zA hr2 (zA hr4 (zA rw5 (zA fw5 (zA cw1 (zA cw2 (zA hmi (zA hpass (zA hpl (zA htr (zA hlr2 (zA hll2 hls2))))))))))))))))
     have HH4 := zA hlt1 (zA hlt3 (zA rbX (zA cl1 fnX)))
     refine zK ?_
     simp only [zT, zB]
     refine zS ?_
     refine zL ?_
     refine zS ?_
     refine zR (zO (by simp [zC h147, zC h148, zC h84, zC h63, callF_eff h111 rfl, ↓orc_nil, callF_eff h102 rfl, callF_eff h149 rfl, -lenA, bC, zI, HH1, HH3, ↓HH4]; rfl) ?_)
     simp only [zT, zB]
     refine zS ?_
     refine zS ?_
     refine zR (zO (by simp [zC h147, zC h148, zC h84, zC h63, callF_eff h111 rfl, ↓orc_nil, callF_eff h102 rfl, callF_eff h149 rfl, -lenA, bC, zI, HH1, HH3, ↓HH4]; rfl) ?_)
     simp only [zT, zB]
     refine runs_cond (x := false) (by simp [hmi]) ?_
     refine zK ?_
     simp only [zT, zB]
     refine zS ?_
     refine zR (zO (by simp [zC h147, zC h148, zC h84, zC h63, callF_eff h111 rfl, ↓orc_nil, callF_eff h102 rfl, callF_eff h149 rfl, -lenA, bC, zI, HH1, HH3, ↓HH4]; rfl) ?_)
     simp only [zT, zB]
     refine zS ?_
     refine runs_drw (by simp (maxSteps := 3000000) [zC h147, zC h148, zC h84, zC h63, callF_eff h111 rfl, ↓orc_nil, callF_eff h102 rfl, callF_eff h149 rfl, -lenA, bC, zI, HH1, HH3, ↓HH4]; rfl) ?_
     simp only [zT, zB]
     refine runs_drw (by simp (maxSteps := 3000000) [zC h147, zC h148, zC h84, zC h63, callF_eff h111 rfl, ↓orc_nil, callF_eff h102 rfl, callF_eff h149 rfl, -lenA, bC, zI, HH1, HH3, ↓HH4]; rfl) ?_
     simp only [zT, zB]
     refine zR (zO (by simp [zC h147, zC h148, zC h84, zC h63, callF_eff h111 rfl, ↓orc_nil, callF_eff h102 rfl, callF_eff h149 rfl, -lenA, bC, zI, HH1, HH3, ↓HH4]; rfl) ?_)
     simp only [zT, zB]
     exact ⟨js.length - (k + 1), by omega, k + 1, i + 1, b2, by omega, rfl, by omega, hb2.symm, hbd2, by simp [trim, zC h147, zC h148, zC h84, zC h63, callF_eff h111 rfl, ↓orc_nil, callF_eff h102 rfl, callF_eff h149 rfl, -lenA, bC, zI, HH1, HH3, ↓HH4]⟩
   ·have hlt2 := of_decide_eq_false hlt2
    have hkE : k = js.length := by omega
    subst hkE
    rw [← hb1]
    refine runs_exit ?_
    simp only [zT, zB, if_true, if_false, reduceIte, Nat.reduceEqDiff, Nat.succ_ne_zero, Nat.one_ne_zero, Nat.zero_ne_one]
    simp [zC h147, zC h148, zC h84, zC h63, callF_eff h111 rfl, ↓orc_nil, callF_eff h102 rfl, callF_eff h149 rfl, -lenA, bC, zI, ↓hlt1, HH1, trim]
 ·refine runs_cond (x := true) (by simp [hwb]) ?_
  have hres : tryF s js (js.length - ([] : List Int).length) ([] : List Int) b = b := tryF_worse hwb
  rw [hres]
  refine runs_ret ?_
  simp [zC h147, zC h148, zC h84, zC h63, callF_eff h111 rfl, ↓orc_nil, callF_eff h102 rfl, callF_eff h149 rfl, -lenA, bC, zI, ↓hlt1, HH1, trim]
theorem a111_1 (P : Program) (T : Nat → Option CFn) (D : Nat) (hT : T 111 = some { c111 with frsh := false, orc := fun _ => none, eff := frameE (sTry D) }) (h147 : T 147 = some { c147 with frsh := true, orc := oWorse }) (h148 : T 148 = some { c148 with frsh := true, orc := oCloI }) (h149 : T 149 = some { c149 with frsh := false, orc := fun _ => none, eff := frameE sClip }) (h84 : T 84 = some { c84 with frsh := true, orc := oCont }) (h63 : T 63 = some { c63 with frsh := true, orc := oPlus }) (h102 : T 102 = some { c102 with body := annK [(229738, [.slot 6])] [] c102.body, frsh := false, orc := fun _ => none, eff := frameE sPass }) (s : FShop) (js : List FJob) (c t j : AVal) (hc : dInts2 c = some s.chg) (ht : dStops t = some s.stops) (hj : dJobs j = some js) (b : FBest) (lc : List AVal) (su en : Int) (now : List Int) (hok : TryOk (D + 1) s js now lc su en (encV b.order) b.order b.sum b.last) (hlev : js.length - now.length = D) (hn1 : 1 ≤ now.length) (he : frameE (sTry D) [.ref 0 0 0, .sl 1 0 now.length false, .agg lc, .agg [I su, I en]] [some (.row 8 [bC s.mach c t j b]), some (.row 1 (now.map rI))] = none) : Answers P T 111 [.ref 0 0 0, .sl 1 0 now.length false, .agg lc, .agg [I su, I en]] [some (.row 8 [bC s.mach c t j b]), some (.row 1 (now.map rI))] fun v1 h1 => norm 2 v1 h1 = some (.tup [], [some (.row 8 [bC s.mach c t j (tryF s js (js.length - now.length) now b)]), some (.row 1 (now.map rI))]) := by
 have fc := fun H d => dInts2_frz hc H d
 have ft := fun H d => dStops_frz ht H d
 have fj := fun H d => dJobs_frz hj H d
 have rc := fun n d => dInts2_rb hc n d
 have rt := fun n d => dStops_rb ht n d
 have rj := fun n d => dJobs_rb hj n d
 have lc := dInts2_len hc
 have lt := dStops_len ht
 have lj := dJobs_len hj
 obtain ⟨cc1, cc2⟩ := dInts2_cells hc
 obtain ⟨ct1, ct2⟩ := dStops_cells ht
 obtain ⟨cj1, cj2⟩ := dJobs_cells hj
 have h111 := hT
 obtain ⟨hsh, hlt, hnw, hline, hlat, hbv, hbb⟩ := hok
 have feb := fun (b : FBest) H d => dInts_frz (dInts_encV b.order) H d
 have reb := fun (b : FBest) n d => dInts_rb (dInts_encV b.order) n d
 have ceb1 := fun (b : FBest) => (dInts_cells (dInts_encV b.order)).1
 have ceb2 := fun (b : FBest) => (dInts_cells (dInts_encV b.order)).2
 have fnb := fun (b : FBest) n H d => rowsV_frN (dInts_rows (dInts_encV b.order)) n H d
 have fnc := fun n H d => let ⟨_, h1, _⟩ := dInts2_rows hc; rowsV_frN h1 n H d
 have fnt := fun n H d => rowsV_frN (dStops_rows ht) n H d
 have fnj := fun n H d => let ⟨_, h1, _⟩ := dJobs_rows hj; rowsV_frN h1 n H d
 have hn6 := hsh.njob
 have hlb := lat_bd hsh hnw
 have hrun := runF_ok hsh (os := now) (by have := hnw.len; omega) hnw.mem
 have hL4 := hrun.line.len
 have hLo := hrun.line
 subst hline
 have hx := congrArg Prod.fst hlat
 have hy := congrArg Prod.snd hlat
 simp only at hx hy
 have hwo := oWorse_eq (m := s.mach) hc ht hj (b := b) hbb (x := latO s js now) ⟨⟨by omega, by omega⟩, ⟨by omega, by omega⟩⟩
 rw [← hx, ← hy] at hwo
 simp only [bC] at hwo
 have hlr := fun n d => lineC_rb n d (runF s js now).line
 have hll : (lineC (runF s js now).line).length = 12 := by rw [lineC_len, hL4]
 have hno6 : now.length ≤ 6 := by have := hnw.len; omega
 have hlt1 : (lineC (runF s js now).line).take 12 = lineC (runF s js now).line := List.take_of_length_le (by omega)
 have hls1 := lineC_st (runF s js now).line
 have hne : now ≠ [] := by intro e; rw [e] at hn1; simp at hn1
 have fzN := fun nv H d => frz_mapI nv H d now
 have hn48 : now.length + 1 ≤ 1048576 := by omega
 have hn47 : now.length ≤ 1048575 := by omega
 have rbN := fun n => rI_rb n 4 now
 have fnN := fun n H => frN_mapI n H 4 now
 have tkN : (now.map rI).take now.length = now.map rI := List.take_of_length_le (by simp)
 have hcl : oCloI [.vl (now.map rI) false] = some (encV now) := by simp only [oCloI, dI1_self]; rw [if_pos (by omega), if_neg hne, encV_ne hne]
 have hcp := sClip_sl now
 have hct : ∀ i : Int, oCont [.vl (now.map rI) false, I i] = some (.bool (decide (i ∈ now))) := fun i => by simp only [oCont, dInts_vl]; rw [if_pos (by omega)]
 have fen := fun H d => dInts_frz (dInts_encV now) H d
 have ren := fun n d => dInts_rb (dInts_encV now) n d
 obtain ⟨cen1, cen2⟩ := dInts_cells (dInts_encV now)
 have fnn := fun n H d => rowsV_frN (dInts_rows (dInts_encV now)) n H d
 have lov : lenA (.sl 1 0 now.length false) = some now.length := rfl
 refine answers_of hT (orcF_none rfl) ?_ he
 simp only [oo, om, op, og, ci, cl, c111]
 have HH1 := zA h147 (zA h148 (zA h84 (zA h63 (zA h111 (zA h102 (zA h149 (zA fc (zA ft (zA fj (zA rc (zA rt (zA rj (zA lc (zA lt (zA lj (zA cc1 (zA cc2 (zA ct1 (zA ct2 (zA cj1 (zA cj2 (zA feb (zA reb (zA ceb1 (zA ceb2 (zA fnb (zA fnc (zA fnt (zA fnj (zA hwo (zA hn48 (zA hn47 (zA hcl (zA hcp (zA hct (zA hlr (zA hll (zA hls1 (zA fen (zA ren (zA cen1 (zA cen2 (zA fnn lov)))))))))))))))))))))))))))))))))))))))))))
 have HH2 := zA fzN (zA rbN (zA fnN (zA tkN hlt1)))
 refine zS ?_
 refine zR (zO (by simp [zC h147, zC h148, zC h84, zC h63, callF_eff h111 rfl, ↓orc_nil, callF_eff h102 rfl, callF_eff h149 rfl, -lenA, bC, zI, HH1, ↓HH2]; rfl) ?_)
 simp only [zT, zB]
 refine zS ?_
 refine zS ?_
 refine zR (zO (by simp [zC h147, zC h148, zC h84, zC h63, callF_eff h111 rfl, ↓orc_nil, callF_eff h102 rfl, callF_eff h149 rfl, -lenA, bC, zI, HH1, ↓HH2]; rfl) ?_)
 simp only [zT, zB]
 rcases hwb : worseB b (latO s js now) with _ | _
 ·refine runs_cond (x := false) (by simp [hwb]) ?_
  refine zK ?_
  simp only [zT, zB]
  refine zS ?_
  refine zS ?_
  refine zR (zO (by simp [zC h147, zC h148, zC h84, zC h63, callF_eff h111 rfl, ↓orc_nil, callF_eff h102 rfl, callF_eff h149 rfl, -lenA, bC, zI, HH1, ↓HH2]; rfl) ?_)
  simp only [zT, zB]
  by_cases hle : now.length = js.length
  ·refine runs_cond (x := true) (by simp [← hle]) ?_
   have hres : tryF s js (js.length - now.length) now b = ⟨now, su, en, true⟩ := by
    rw [show js.length - now.length = 0 by omega]
    simp only [tryF]
    rw [if_neg (by rw [hwb]; simp), hx, hy]
   rw [hres]
   refine zS ?_
   refine runs_drw (by simp (maxSteps := 3000000) [zC h147, zC h148, zC h84, zC h63, callF_eff h111 rfl, ↓orc_nil, callF_eff h102 rfl, callF_eff h149 rfl, -lenA, bC, zI, HH1, ↓HH2]; rfl) ?_
   simp only [zT, zB]
   refine runs_ret ?_
   simp [zC h147, zC h148, zC h84, zC h63, callF_eff h111 rfl, ↓orc_nil, callF_eff h102 rfl, callF_eff h149 rfl, -lenA, bC, zI, HH1, ↓HH2, trim]
  ·refine runs_cond (x := false) (by simp; omega) ?_
   obtain ⟨d, hd⟩ : ∃ d, js.length - now.length = d + 1 := ⟨js.length - now.length - 1, by have := hnw.len; omega⟩
   rw [hd, tryF_succ (by rw [hwb]; simp)]
   rw [hd] at hnw
   have hlen := hnw.len
   have h0len : ([] : List Int).length = 0 := rfl
   refine zK ?_
   simp only [zT, zB]
   refine zS ?_
   refine zR (zO (by simp [zC h147, zC h148, zC h84, zC h63, callF_eff h111 rfl, ↓orc_nil, callF_eff h102 rfl, callF_eff h149 rfl, -lenA, bC, zI, HH1, ↓HH2]; rfl) ?_)
   simp only [zT, zB]
   refine zL ?_
   refine runs_loop_inv (fun m σ => ∃ (k : Nat) (i : Int) (b1 : FBest), i = k ∧ js.length - k = m ∧ k ≤ js.length ∧ b1 = (List.range k).foldl (tryS s js d now) b ∧ bOk b1 ∧ σ = ⟨[.ref 0 0 0, .sl 1 0 now.length false, .any, .any, .any, .any, .ref 2 0 0, .ref 3 0 0, .any, .any, .any, .any, .any, .any, .any, .any, .any, .any, .any, .any, .any, .any, .any, .any, .any, .any, .any, .any, .any, .any, .any, .any, .any, .any, .any, .any, .any, .any, .any, .any, .any, j, I js.length, I i, .any, .any, .any, .any, .any, .any, .any, .any, .any, .any, .any, .any, .any, .any, .any, .any, .any, .any, .any, .any, .any, .any, .any, .any, .any, .any, .any, .any, .any, .any], [some (.row 8 [[I s.mach, c, t, j, encV b1.order, I b1.sum, I b1.last, .bool b1.found]]), some (.row 1 (now.map rI)), some (.row 12 [lineC (runF s js now).line]), some (.row 2 [[I su, I en]])]⟩) ?_ (js.length - 0) _ ⟨0, 0, b, rfl, rfl, Nat.zero_le _, rfl, hbb, by simp⟩
   rintro m σ ⟨k, i, b1, hik, rfl, hkl, hb1, hbo, rfl⟩
   refine zS ?_
   refine zR (zO (by simp [zC h147, zC h148, zC h84, zC h63, callF_eff h111 rfl, ↓orc_nil, callF_eff h102 rfl, callF_eff h149 rfl, -lenA, bC, zI, HH1, ↓HH2]; rfl) ?_)
   simp only [zT, zB]
   refine zS ?_
   refine runs_cond_split (x := decide (i < (js.length : Int))) (by simp) (fun hlt2 => ?_) (fun hlt2 => ?_)
   ·have hlt2 := of_decide_eq_true hlt2
    have hk0 : k < js.length := by omega
    obtain ⟨rs, tj, wv, rfl, hr1, hr2, hwv⟩ := dJobs_get hj hk0
    have hkr : k < rs.length := by omega
    have hr4 : ∀ h, rs[k]'h = [I js[k].kind, I js[k].ready, I js[k].due, wv] := fun h => by rw [List.getElem?_eq_getElem h] at hr2; exact Option.some.inj hr2
    have rw5 := fun n d => dInts_rb hwv n d
    have fw5 := fun H d => dInts_frz hwv H d
    obtain ⟨cw1, cw2⟩ := dInts_cells hwv
    have hjb := hsh.job _ (List.getElem_mem hk0)
    have hi0 : 0 ≤ i := by omega
    have htn : i.toNat = k := by omega
    have hwi : W .i64 (i + 1) = i + 1 := W_small (by omega)
    have hb2 : (List.range (k + 1)).foldl (tryS s js d now) b = tryS s js d now b1 k := by rw [List.range_succ, List.foldl_append, ← hb1]; rfl
    by_cases hm : (k : Int) ∈ now
    ·have hS : tryS s js d now b1 k = b1 := by unfold tryS; rw [if_pos hm]
     have hmi : i ∈ now := by rw [hik]; exact hm
     have HH3 := zA hi0 (zA htn (zA hk0 (zA hwi (zA hkr (zA hr2 (zA hr4 (zA rw5 (zA fw5 (zA cw1 (zA cw2 hmi))))))))))
     refine zK ?_
     simp only [zT, zB]
     refine zS ?_
     refine zL ?_
     refine zS ?_
     refine zR (zO (by simp [zC h147, zC h148, zC h84, zC h63, callF_eff h111 rfl, ↓orc_nil, callF_eff h102 rfl, callF_eff h149 rfl, -lenA, bC, zI, HH1, ↓HH2, HH3]; rfl) ?_)
     simp only [zT, zB]
     refine zS ?_
     refine zS ?_
     refine zR (zO (by simp [zC h147, zC h148, zC h84, zC h63, callF_eff h111 rfl, ↓orc_nil, callF_eff h102 rfl, callF_eff h149 rfl, -lenA, bC, zI, HH1, ↓HH2, HH3]; rfl) ?_)
     simp only [zT, zB]
     refine runs_cond (x := true) (by simp [hmi]) ?_
     refine runs_exit ?_
     simp only [zT, zB, if_true, if_false, reduceIte, Nat.reduceEqDiff, Nat.succ_ne_zero, Nat.one_ne_zero, Nat.zero_ne_one]
     refine zR (zO (by simp [zC h147, zC h148, zC h84, zC h63, callF_eff h111 rfl, ↓orc_nil, callF_eff h102 rfl, callF_eff h149 rfl, -lenA, bC, zI, HH1, ↓HH2, HH3]; rfl) ?_)
     simp only [zT, zB]
     exact ⟨js.length - (k + 1), by omega, k + 1, i + 1, b1, by omega, rfl, by omega, by rw [hb2, hS], hbo, by simp [trim, zC h147, zC h148, zC h84, zC h63, callF_eff h111 rfl, ↓orc_nil, callF_eff h102 rfl, callF_eff h149 rfl, -lenA, bC, zI, HH1, ↓HH2, HH3]⟩
    ·have hmi : ¬ i ∈ now := by rw [hik]; exact hm
     have hS : tryS s js d now b1 k = tryF s js d (now ++ [(k : Int)]) b1 := by unfold tryS; rw [if_neg hm]
     have hgd : js.getD k default = js[k] := by rw [List.getD_eq_getElem?_getD, List.getElem?_eq_getElem hk0]; rfl
     obtain ⟨hl1, hl2, hl3⟩ := lat_snoc hsh hnw hk0 hm
     have hnw2 := hnw.snoc hk0 hm
     have hdu : dueAt js k = js[k].due := by unfold dueAt; rw [hgd]
     have hpE : passE s js now k = (passF s (runF s js now).line js[k]).2.1 := by unfold passE; rw [hgd]
     rw [hdu, hpE] at hl1
     rw [hpE] at hl2 hl3
     have hrs : runF s js (now ++ [(k : Int)]) = runStep s js (runF s js now) k := runF_snoc s js now k
     have hln : (runF s js (now ++ [(k : Int)])).line = (passF s (runF s js now).line js[k]).2.2 := by rw [hrs]; unfold runStep; simp only [Int.toNat_natCast, hgd]
     have hpass : sPass [.agg [I s.mach, c, t, .vl rs tj], .ref 0 0 0, .agg [I js[k].kind, I js[k].ready, I js[k].due, wv]] [some (.row 12 [lineC (runF s js now).line])] = some (.tup [.vl ((passF s (runF s js now).line js[k]).1.map rI) false, I (passF s (runF s js now).line js[k]).2.1], [some (.row 12 [lineC (passF s (runF s js now).line js[k]).2.2])]) := by
      simp only [sPass, hc, ht, hj, hwv, dLine_of hLo.len]
      rw [if_pos ⟨hsh, hLo.mono (by omega), hjb.1, by have := hjb.2.1; simp only; omega, hjb.2.2.2.1, fun n hn => by have := hjb.2.2.2.2 n hn; omega⟩]
     have hbd2 := try_bd hsh d _ b1 hnw2 hbo
     have hpl : oPlus [.agg [I su, I en], .agg [I js[k].kind, I js[k].ready, I js[k].due, wv], I (passF s (runF s js now).line js[k]).2.1] = some (.agg [I (latO s js (now ++ [(k : Int)])).1, I (latO s js (now ++ [(k : Int)])).2]) := by
      have := hjb.2.2.1
      simp only [oPlus, hwv]
      rw [if_pos ⟨⟨by omega, by omega⟩, ⟨by omega, by omega⟩, ⟨by omega, by omega⟩⟩, hl1, hx, hy]
     have hTk : TryOk D s js (now ++ [(k : Int)]) (lineC (runF s js (now ++ [(k : Int)])).line) (latO s js (now ++ [(k : Int)])).1 (latO s js (now ++ [(k : Int)])).2 (encV b1.order) b1.order b1.sum b1.last :=
      ⟨hsh, by have := hnw2.len; omega, by rw [show js.length - (now ++ [(k : Int)]).length = d by have := hnw2.len; omega]; exact hnw2, rfl, rfl, rfl, hbo⟩
     have htr := sTry_sl hc ht hj hTk (by simp)
     rw [show js.length - (now ++ [(k : Int)]).length = d by have := hnw2.len; omega] at htr
     simp only [bC] at htr
     rw [hS] at hb2
     rw [hln] at htr
     have hlr2 := fun n d => lineC_rb n d (passF s (runF s js now).line js[k]).2.2
     have hll2 : (lineC (passF s (runF s js now).line js[k]).2.2).length = 12 := by
      rw [lineC_len, ← hln, (runF_ok hsh (os := now ++ [(k : Int)]) (by have := hnw2.len; omega) hnw2.mem).line.len]
     have hlt3 : (lineC (passF s (runF s js now).line js[k]).2.2).take 12 = lineC (passF s (runF s js now).line js[k]).2.2 := List.take_of_length_le (by omega)
     have hls2 := lineC_st (passF s (runF s js now).line js[k]).2.2
     generalize latO s js (now ++ [(k : Int)]) = LT at *
     obtain ⟨su2, en2⟩ := LT
     generalize (passF s (runF s js now).line js[k]).2.2 = L2 at *
     generalize (passF s (runF s js now).line js[k]).2.1 = E2 at *
     generalize (passF s (runF s js now).line js[k]).1 = S2 at *
     generalize tryF s js d (now ++ [(k : Int)]) b1 = b2 at *
     rw [← hik] at htr
     have hnl : (now ++ [i]).length = now.length + 1 := by simp
     have hnx : (now ++ [i]).map rI = now.map rI ++ [[I i]] := by rw [List.map_append]; rfl
     rw [hnl, hnx] at htr
     have rbX : ∀ n, (((now).map rI ++ [[I i]]).all fun r => r.all (rb n 5)) = true := fun n => by rw [← hnx]; exact rI_rb n 4 _
     have feb1 := fun H d => dInts_frz (dInts_encV b1.order) H d
     have cl1 : ((now.map rI ++ [[I i]]).all fun r => r.length == 1) = true := by simp [rI]
     have fnX : ∀ n H, optAll (optAll (frN n H 5)) (now.map rI ++ [[I i]]) = some (now.map rI ++ [[I i]]) := fun n H => by rw [← hnx]; exact frN_mapI n H 4 _
     have HH4 := zA hi0 (zA htn (zA hk0 (zA hwi (zA hkr (zA hr2 (zA hr4 (zA rw5 (zA fw5 (zA cw1 (zA cw2 (zA hmi (zA hpass (zA hpl (zA htr (zA hlr2 (zA hll2 hls2))))))))))))))))
     refine zK ?_
     simp only [zT, zB]
     refine zS ?_
     refine zL ?_
     refine zS ?_
     refine zR (zO (by simp [zC h147, zC h148, zC h84, zC h63, callF_eff h111 rfl, ↓orc_nil, callF_eff h102 rfl, callF_eff h149 rfl, -lenA, bC, zI, HH1, ↓HH2, ↓hlt3, ↓rbX, ↓cl1, ↓fnX, HH4]; rfl) ?_)
     simp only [zT, zB]
     refine zS ?_
     refine zS ?_
     refine zR (zO (by simp [zC h147, zC h148, zC h84, zC h63, callF_eff h111 rfl, ↓orc_nil, callF_eff h102 rfl, callF_eff h149 rfl, -lenA, bC, zI, HH1, ↓HH2, ↓hlt3, ↓rbX, ↓cl1, ↓fnX, HH4]; rfl) ?_)
     simp only [zT, zB]
     refine runs_cond (x := false) (by simp [hmi]) ?_
     refine zK ?_
     simp only [zT, zB]
     refine zS ?_
     refine zR (zO (by simp [zC h147, zC h148, zC h84, zC h63, callF_eff h111 rfl, ↓orc_nil, callF_eff h102 rfl, callF_eff h149 rfl, -lenA, bC, zI, HH1, ↓HH2, ↓hlt3, ↓rbX, ↓cl1, ↓fnX, HH4]; rfl) ?_)
     simp only [zT, zB]
     refine zS ?_
     refine runs_drw (by simp (maxSteps := 3000000) [zC h147, zC h148, zC h84, zC h63, callF_eff h111 rfl, ↓orc_nil, callF_eff h102 rfl, callF_eff h149 rfl, -lenA, bC, zI, HH1, ↓HH2, ↓hlt3, ↓rbX, ↓cl1, ↓fnX, HH4]; rfl) ?_
     simp only [zT, zB]
     refine runs_drw (by simp (maxSteps := 3000000) [zC h147, zC h148, zC h84, zC h63, callF_eff h111 rfl, ↓orc_nil, callF_eff h102 rfl, callF_eff h149 rfl, -lenA, bC, zI, HH1, ↓HH2, ↓hlt3, ↓rbX, ↓cl1, ↓fnX, HH4]; rfl) ?_
     simp only [zT, zB]
     refine zR (zO (by simp [zC h147, zC h148, zC h84, zC h63, callF_eff h111 rfl, ↓orc_nil, callF_eff h102 rfl, callF_eff h149 rfl, -lenA, bC, zI, HH1, ↓HH2, ↓hlt3, ↓rbX, ↓cl1, ↓fnX, HH4]; rfl) ?_)
     simp only [zT, zB]
     exact ⟨js.length - (k + 1), by omega, k + 1, i + 1, b2, by omega, rfl, by omega, hb2.symm, hbd2, by simp [trim, zC h147, zC h148, zC h84, zC h63, callF_eff h111 rfl, ↓orc_nil, callF_eff h102 rfl, callF_eff h149 rfl, -lenA, bC, zI, HH1, ↓HH2, ↓hlt3, ↓rbX, ↓cl1, ↓fnX, HH4]⟩
   ·have hlt2 := of_decide_eq_false hlt2
    have hkE : k = js.length := by omega
    subst hkE
    rw [← hb1]
    refine runs_exit ?_
    simp only [zT, zB, if_true, if_false, reduceIte, Nat.reduceEqDiff, Nat.succ_ne_zero, Nat.one_ne_zero, Nat.zero_ne_one]
    simp [zC h147, zC h148, zC h84, zC h63, callF_eff h111 rfl, ↓orc_nil, callF_eff h102 rfl, callF_eff h149 rfl, -lenA, bC, zI, HH1, ↓HH2, trim]
 ·refine runs_cond (x := true) (by simp [hwb]) ?_
  have hres : tryF s js (js.length - now.length) now b = b := tryF_worse hwb
  rw [hres]
  refine runs_ret ?_
  simp [zC h147, zC h148, zC h84, zC h63, callF_eff h111 rfl, ↓orc_nil, callF_eff h102 rfl, callF_eff h149 rfl, -lenA, bC, zI, HH1, ↓HH2, trim]
end
section
attribute [local simp] backA backA1 callA calleeA flatAt flatBlk frameE lim lop loud posOf ptrs putH renA setH
noncomputable def BB0 : Nat → Option CFn := upd BA 84 true oCont
theorem BB0_ok : TabOk Tryz.prog GG BB0 := tab_upd BA_ok cont_good
noncomputable def BB1 : Nat → Option CFn := upd BB0 111 false (fun _ => none)
theorem BB1_ok : TabOk Tryz.prog GG BB1 := tab_add mixed BB0_ok fun args v ho => by simp at ho
noncomputable def tT : Nat → Nat → Option CFn
  | 0 => updE BB1 111 (frameE (sTry 0))
  | D + 1 => updE (tT D) 111 (frameE (sTry (D + 1)))
theorem tT_at (D : Nat) : tT D 111 = some { c111 with frsh := false, orc := fun _ => none, eff := frameE (sTry D) } := by
  induction D with
  | zero => rfl
  | succ D ih => show updE (tT D) 111 (frameE (sTry (D + 1))) 111 = _; unfold updE; rw [if_pos rfl, ih]
theorem tT_ne (D : Nat) {f : Nat} (h : ¬ f = 111) : tT D f = BB1 f := by
  induction D with
  | zero => show updE BB1 111 (frameE (sTry 0)) f = _; unfold updE; rw [if_neg h]
  | succ D ih => show updE (tT D) 111 (frameE (sTry (D + 1))) f = _; unfold updE; rw [if_neg h, ih]
theorem fr_none0 {sp : List AVal → Heap → Option (AVal × Heap)} {lc r : List AVal} {su en : Int} (h : sp [.ref 0 0 0, .nils, .agg lc, .agg [I su, I en]] [some (.row 8 [r])] = none) (hl : ∀ n d, lc.all (rb n (d + 1)) = true) (hr : ∀ n d, r.all (rb n (d + 1)) = true) : frameE sp [.ref 0 0 0, .nils, .agg lc, .agg [I su, I en]] [some (.row 8 [r])] = none := by
  simp [hl, hr, h]
theorem fr_none1 {sp : List AVal → Heap → Option (AVal × Heap)} {lc r : List AVal} {su en : Int} {n : Nat} {rs : List (List AVal)} (h : sp [.ref 0 0 0, .sl 1 0 n false, .agg lc, .agg [I su, I en]] [some (.row 8 [r]), some (.row 1 rs)] = none) (hl : ∀ n d, lc.all (rb n (d + 1)) = true) (hr : ∀ n d, r.all (rb n (d + 1)) = true) (hs : ∀ n d, (rs.all fun r => r.all (rb n (d + 1))) = true) : frameE sp [.ref 0 0 0, .sl 1 0 n false, .agg lc, .agg [I su, I en]] [some (.row 8 [r]), some (.row 1 rs)] = none := by
  simp [hl, hr, ↓hs, h]
theorem TryOk.up {D : Nat} {s : FShop} {js : List FJob} {now lc su en bv bo bs be} (h : TryOk (D + 1) s js now lc su en bv bo bs be) (hd : js.length - now.length < D) : TryOk D s js now lc su en bv bo bs be := ⟨h.ok, hd, h.nw, h.line, h.lat, h.bv, h.bb⟩
theorem tT_ok : ∀ D, TabOk Tryz.prog GG (tT D)
  | 0 => tab_frame mixed BB1_ok fun args h v h' ho => by
    unfold sTry at ho
    split at ho <;> (try simp only [reduceCtorEq] at ho)
    · split at ho <;> (try simp only [reduceCtorEq] at ho)
      split at ho <;> (try simp only [reduceCtorEq] at ho)
      rename_i hg
      exact absurd hg.lt (Nat.not_lt_zero _)
    · split at ho <;> (try simp only [reduceCtorEq] at ho)
      split at ho <;> (try simp only [reduceCtorEq] at ho)
      rename_i hg
      exact absurd hg.1.lt (Nat.not_lt_zero _)
  | D + 1 => tab_frame2 mixed (tT_ok D) (sp := sTry D) (tab_eff (tT_ok D) (tT_at D)) fun args h v h' ho => by
    unfold sTry at ho
    split at ho <;> (try simp only [reduceCtorEq] at ho)
    · rename_i lc su en m c t j bv bs be fo
      split at ho <;> (try simp only [reduceCtorEq] at ho)
      rename_i cs ts js bo hc ht hj hb
      split at ho <;> (try simp only [reduceCtorEq] at ho)
      rename_i hg
      simp only [Option.some.injEq, Prod.mk.injEq] at ho
      obtain ⟨rfl, rfl⟩ := ho
      by_cases hl : js.length < D
      · left
        simp only [sTry, hc, ht, hj, hb]
        rw [if_pos (hg.up hl)]
      · right
        have hlv : js.length - ([] : List Int).length = D := by have := hg.lt; simp at this ⊢; omega
        obtain rfl := hg.bv
        have hn : sTry D [.ref 0 0 0, .nils, .agg lc, .agg [I su, I en]] [some (.row 8 [bC m c t j ⟨bo, bs, be, fo⟩])] = none := by
          simp only [sTry, bC, hc, ht, hj, hb]
          rw [if_neg fun h => by have := h.lt; omega]
        have hli := hg.line
        exact a111_0 Tryz.prog (tT D) D (tT_at D) (tT_ne D (by decide)) (tT_ne D (by decide)) (tT_ne D (by decide)) (tT_ne D (by decide)) (tT_ne D (by decide)) (tT_ne D (by decide)) ⟨m, cs, ts⟩ js c t j hc ht hj ⟨bo, bs, be, fo⟩ lc su en [] hg hlv rfl (fr_none0 hn (fun n d => by rw [hli]; exact lineC_rb n d _) fun n d => bC_rb hc ht hj m _ n d)
    · rename_i n lc su en m c t j bv bs be fo rs
      split at ho <;> (try simp only [reduceCtorEq] at ho)
      rename_i cs ts js bo now hc ht hj hb hnw
      split at ho <;> (try simp only [reduceCtorEq] at ho)
      rename_i hg
      simp only [Option.some.injEq, Prod.mk.injEq] at ho
      obtain ⟨rfl, rfl⟩ := ho
      obtain ⟨hg, rfl, hn1⟩ := hg
      have e := optAll_eq (enc := rI) dI1_eq hnw
      subst e
      by_cases hl : js.length - now.length < D
      · left
        simp only [sTry, hc, ht, hj, hb, hnw]
        rw [if_pos ⟨hg.up hl, rfl, hn1⟩]
      · right
        have hlv : js.length - now.length = D := by have := hg.lt; omega
        obtain rfl := hg.bv
        have hn : sTry D [.ref 0 0 0, .sl 1 0 now.length false, .agg lc, .agg [I su, I en]] [some (.row 8 [bC m c t j ⟨bo, bs, be, fo⟩]), some (.row 1 (now.map rI))] = none := by
          simp only [sTry, bC, hc, ht, hj, hb, hnw]
          rw [if_neg fun h => by have := h.1.lt; omega]
        have hli := hg.line
        exact a111_1 Tryz.prog (tT D) D (tT_at D) (tT_ne D (by decide)) (tT_ne D (by decide)) (tT_ne D (by decide)) (tT_ne D (by decide)) (tT_ne D (by decide)) (tT_ne D (by decide)) ⟨m, cs, ts⟩ js c t j hc ht hj ⟨bo, bs, be, fo⟩ lc su en now hg hlv hn1 (fr_none1 hn (fun n d => by rw [hli]; exact lineC_rb n d _) (fun n d => bC_rb hc ht hj m _ n d) fun n d => rI_rb n d now)
noncomputable def bestF (s : FShop) (js : List FJob) : FBest := tryF s js js.length [] bz
open Classical in
noncomputable def oOrd : List AVal → Option AVal
  | [.agg [.int .i64 m, c, t, j]] => match dInts2 c, dStops t, dJobs j with
    | some cs, some ts, some js => if ShopOk ⟨m, cs, ts⟩ js then some (.tup [encV (bestF ⟨m, cs, ts⟩ js).order, .agg [I (bestF ⟨m, cs, ts⟩ js).sum, I (bestF ⟨m, cs, ts⟩ js).last]]) else none
    | _, _, _ => none
  | _ => none
theorem ord_eq {s : FShop} {js : List FJob} {c t j : AVal} (hc : dInts2 c = some s.chg) (ht : dStops t = some s.stops) (hj : dJobs j = some js) (h : ShopOk s js) : oOrd [.agg [I s.mach, c, t, j]] = some (.tup [encV (bestF s js).order, .agg [I (bestF s js).sum, I (bestF s js).last]]) := by
  simp only [oOrd, hc, ht, hj]
  rw [if_pos h]
theorem lat_nil {s : FShop} {js : List FJob} (h : ShopOk s js) : latO s js [] = (0, 0) := by
  have h0 : ∀ k, endAt (run0 js.length).ends k = 0 := fun k => by unfold endAt run0; rw [List.getD_eq_getElem?_getD, List.getElem?_replicate]; split <;> rfl
  have : ∀ k, latF (run0 js.length).ends js k = (0, 0) := fun k => by
    induction k with
    | zero => rfl
    | succ k ih =>
      have hd := due_nn h k
      simp only [latF, ih, h0]
      rw [Prod.mk.injEq]
      exact ⟨by omega, by omega⟩
  exact this js.length
theorem a71 (P : Program) (T : Nat → Option CFn) (hT : T 71 = some c71) (h111 : T 111 = some { c111 with frsh := false, orc := fun _ => none, eff := frameE (sTry 7) }) (s : FShop) (js : List FJob) (c t j : AVal) (hc : dInts2 c = some s.chg) (ht : dStops t = some s.stops) (hj : dJobs j = some js) (hsh : ShopOk s js) : Answers P T 71 [.agg [I s.mach, c, t, j]] [] fun v h => frz false h 5 v = some (.tup [encV (bestF s js).order, .agg [I (bestF s js).sum, I (bestF s js).last]]) := by
 have fc := fun H d => dInts2_frz hc H d
 have ft := fun H d => dStops_frz ht H d
 have fj := fun H d => dJobs_frz hj H d
 have rc := fun n d => dInts2_rb hc n d
 have rt := fun n d => dStops_rb ht n d
 have rj := fun n d => dJobs_rb hj n d
 have lc := dInts2_len hc
 have lt := dStops_len ht
 have lj := dJobs_len hj
 obtain ⟨cc1, cc2⟩ := dInts2_cells hc
 obtain ⟨ct1, ct2⟩ := dStops_cells ht
 obtain ⟨cj1, cj2⟩ := dJobs_cells hj
 have hTk : TryOk 7 s js [] (lineC line0) 0 0 (encV bz.order) bz.order bz.sum bz.last :=
  ⟨hsh, by have := hsh.njob; simp; omega, NowOk.nil js, rfl, (lat_nil hsh).symm, rfl, ⟨⟨by decide, by decide⟩, ⟨by decide, by decide⟩⟩⟩
 have htr := sTry_nil hc ht hj hTk
 have hbe : bestF s js = tryF s js js.length [] bz := rfl
 rw [← hbe] at htr
 generalize bestF s js = b at *
 simp only [bC] at htr
 have hlr := fun n d => lineC_rb n d line0
 have hz : encV bz.order = .nils := rfl
 rw [hz] at htr
 simp only [lineC, line0, bz] at htr hlr
 have feb := fun H d => dInts_frz (dInts_encV b.order) H d
 have reb := fun n d => dInts_rb (dInts_encV b.order) n d
 obtain ⟨ceb1, ceb2⟩ := dInts_cells (dInts_encV b.order)
 refine answers_of hT (orcF_none rfl) ?_
 simp only [oo, om, op, og, ci, cl, c71]
 have HH1 := zA h111 (zA fc (zA ft (zA fj (zA rc (zA rt (zA rj (zA lc (zA lt (zA lj (zA cc1 (zA cc2 (zA ct1 (zA ct2 (zA cj1 (zA cj2 (zA htr (zA feb (zA reb (zA ceb1 (zA ceb2 hlr))))))))))))))))))))
 refine zS ?_
 refine zR (zO (by simp [callF_eff h111 rfl, ↓orc_nil, -lenA, HH1]; rfl) ?_)
 simp only [zT, zB]
 refine zS ?_
 refine zR (zO (by simp [callF_eff h111 rfl, ↓orc_nil, -lenA, HH1]; rfl) ?_)
 simp only [zT, zB]
 refine zS ?_
 refine zR (zO (by simp [callF_eff h111 rfl, ↓orc_nil, -lenA, HH1]; rfl) ?_)
 simp only [zT, zB]
 refine zS ?_
 refine runs_drw (by simp (maxSteps := 3000000) [callF_eff h111 rfl, ↓orc_nil, -lenA, HH1]; rfl) ?_
 simp only [zT, zB]
 refine runs_ret ?_
 simp [callF_eff h111 rfl, ↓orc_nil, -lenA, HH1, trim]
theorem ord_good : ∀ args v, oOrd args = some v → OrcGood Tryz.prog GG false 71 args v := fun args v ho => by
  unfold oOrd at ho; split at ho <;> (try simp only [reduceCtorEq] at ho)
  rename_i m c t j
  split at ho <;> (try simp only [reduceCtorEq] at ho)
  rename_i cs ts js hc ht hj
  split at ho <;> (try simp only [reduceCtorEq] at ho)
  rename_i hg
  simp only [Option.some.injEq] at ho
  subst ho
  exact orc_of mixed (tT_ok 7) (a71 Tryz.prog (tT 7) rfl (tT_at 7) ⟨m, cs, ts⟩ js c t j hc ht hj hg)
noncomputable def BC1 : Nat → Option CFn := upd BA 71 false oOrd
theorem BC1_ok : TabOk Tryz.prog GG BC1 := tab_upd BA_ok ord_good
noncomputable def bestV (s : FShop) (js : List FJob) : AVal := if shopE s js = 0 then encV (bestF s js).order else .nils
noncomputable def oBest : List AVal → Option AVal
  | [.agg [.int .i64 m, c, t], j] => match dInts2 c, dStops t, dJobs j with
    | some cs, some ts, some js => if sizeOk ⟨m, cs, ts⟩ js = true then some (.tup [bestV ⟨m, cs, ts⟩ js, I (shopE ⟨m, cs, ts⟩ js)]) else none
    | _, _, _ => none
  | _ => none
theorem best_eq {s : FShop} {js : List FJob} {c t j : AVal} (hc : dInts2 c = some s.chg) (ht : dStops t = some s.stops) (hj : dJobs j = some js) (hz : SizeOk s js) : oBest [.agg [I s.mach, c, t], j] = some (.tup [bestV s js, I (shopE s js)]) := by
  simp only [oBest, hc, ht, hj]
  rw [if_pos (size_ok.2 hz)]
theorem a29 (P : Program) (T : Nat → Option CFn) (hT : T 29 = some c29) (h70 : T 70 = some { c70 with frsh := false, orc := oOpen }) (h71 : T 71 = some { c71 with frsh := false, orc := oOrd }) (s : FShop) (js : List FJob) (c t j : AVal) (hc : dInts2 c = some s.chg) (ht : dStops t = some s.stops) (hj : dJobs j = some js) (hz : SizeOk s js) : Answers P T 29 [.agg [I s.mach, c, t], j] [] fun v h => frz false h 5 v = some (.tup [bestV s js, I (shopE s js)]) := by
 have fc := fun H d => dInts2_frz hc H d
 have ft := fun H d => dStops_frz ht H d
 have fj := fun H d => dJobs_frz hj H d
 have rc := fun n d => dInts2_rb hc n d
 have rt := fun n d => dStops_rb ht n d
 have rj := fun n d => dJobs_rb hj n d
 have lc := dInts2_len hc
 have lt := dStops_len ht
 have lj := dJobs_len hj
 obtain ⟨cc1, cc2⟩ := dInts2_cells hc
 obtain ⟨ct1, ct2⟩ := dStops_cells ht
 obtain ⟨cj1, cj2⟩ := dJobs_cells hj
 have ho := open_eq hc ht hj hz
 refine answers_of hT (orcF_none rfl) ?_
 simp only [oo, om, op, og, ci, cl, c29]
 by_cases h0 : shopE s js = 0
 ·unfold bestV
  have hq := ord_eq hc ht hj (shop_ok h0)
  generalize bestF s js = b at *
  have feb := fun H d => dInts_frz (dInts_encV b.order) H d
  have reb := fun n d => dInts_rb (dInts_encV b.order) n d
  obtain ⟨ceb1, ceb2⟩ := dInts_cells (dInts_encV b.order)
  have HH1 := zA h70 (zA h71 (zA fc (zA ft (zA fj (zA rc (zA rt (zA rj (zA lc (zA lt (zA lj (zA cc1 (zA cc2 (zA ct1 (zA ct2 (zA cj1 (zA cj2 (zA ho (zA hq (zA h0 (zA feb (zA reb (zA ceb1 ceb2))))))))))))))))))))))
  refine zS ?_
  refine zR (zO (by simp [zC h70, zC h71, -lenA, bestV, HH1]; rfl) ?_)
  simp only [zT, zB]
  refine zS ?_
  refine zR (zO (by simp [zC h70, zC h71, -lenA, bestV, HH1]; rfl) ?_)
  simp only [zT, zB]
  refine zS ?_
  refine zS ?_
  refine zR (zO (by simp [zC h70, zC h71, -lenA, bestV, HH1]; rfl) ?_)
  simp only [zT, zB]
  refine runs_cond (x := false) (by simp) ?_
  refine zK ?_
  simp only [zT, zB]
  refine zS ?_
  refine zR (zO (by simp [zC h70, zC h71, -lenA, bestV, HH1]; rfl) ?_)
  simp only [zT, zB]
  refine zS ?_
  refine zR (zO (by simp [zC h70, zC h71, -lenA, bestV, HH1]; rfl) ?_)
  simp only [zT, zB]
  refine runs_ret ?_
  simp [zC h70, zC h71, -lenA, bestV, HH1, trim]
 ·have HH2 := zA h70 (zA h71 (zA fc (zA ft (zA fj (zA rc (zA rt (zA rj (zA lc (zA lt (zA lj (zA cc1 (zA cc2 (zA ct1 (zA ct2 (zA cj1 (zA cj2 (zA ho h0)))))))))))))))))
  refine zS ?_
  refine zR (zO (by simp [zC h70, zC h71, -lenA, zWork, bestV, HH2]; rfl) ?_)
  simp only [zT, zB]
  refine zS ?_
  refine zR (zO (by simp [zC h70, zC h71, -lenA, zWork, bestV, HH2]; rfl) ?_)
  simp only [zT, zB]
  refine zS ?_
  refine zS ?_
  refine zR (zO (by simp [zC h70, zC h71, -lenA, zWork, bestV, HH2]; rfl) ?_)
  simp only [zT, zB]
  refine runs_cond (x := true) (by simp [h0]) ?_
  refine zS ?_
  refine zR (zO (by simp [zC h70, zC h71, -lenA, zWork, bestV, HH2]; rfl) ?_)
  simp only [zT, zB]
  refine runs_ret ?_
  simp [zC h70, zC h71, -lenA, zWork, bestV, HH2, trim]
noncomputable def BC2 : Nat → Option CFn := upd BC1 29 false (oBest)
theorem BC2_ok : TabOk Tryz.prog GG BC2 := tab_add mixed BC1_ok fun args v ho => by
  unfold oBest at ho; split at ho <;> (try simp only [reduceCtorEq] at ho)
  rename_i m c t j
  split at ho <;> (try simp only [reduceCtorEq] at ho)
  rename_i cs ts js hc ht hj
  split at ho <;> (try simp only [reduceCtorEq] at ho)
  rename_i hz
  simp only [Option.some.injEq] at ho
  subst ho
  exact a29 Tryz.prog BC1 rfl rfl rfl ⟨m, cs, ts⟩ js c t j hc ht hj (size_ok.1 hz)
end
end
end Go.Proofs.YtjjapdagllclkaaGreat.Tab
namespace Go.Abs
open Go
def plainA : AVal → Bool
 | .int _ _ => true
 | .bool _ => true
 | .nils => true
 | .nilp => true
 | _ => false
def okA (fr : Bool) (v : AVal) : Bool := if fr then plainA v else rb 0 5 v
noncomputable def backB1 (fr : Bool) (J : List Nat) : AVal → Option AVal
 | .ref p k o => match J[p]? with
  | some i => some (.ref i k o)
  | none => none
 | .sl p k n t => match J[p]? with
  | some i => some (.sl i k n t)
  | none => none
 | v => if okA fr v then some v else none
noncomputable def backB (fr : Bool) (J : List Nat) : AVal → Option AVal
 | .tup xs => match optAll (backB1 fr J) xs with
  | some ys => some (.tup ys)
  | none => none
 | .agg xs => match optAll (backB1 fr J) xs with
  | some ys => some (.agg ys)
  | none => none
 | v => backB1 fr J v
def hideK (K : List Nat) (h : Heap) : Heap := K.foldl (fun h i => h.set i none) h
noncomputable def keepA (fr : Bool) (K : List Nat) (h : Heap) : AVal → Option AVal
 | .ref i k o => match posOf K i 0 with
  | some p => some (.ref p k o)
  | none => if fr then none else frz false (hideK K h) 5 (.ref i k o)
 | .sl i k n t => match posOf K i 0 with
  | some p => some (.sl p k n t)
  | none => if fr then none else frz false (hideK K h) 5 (.sl i k n t)
 | v => if okA fr v then some v else none
noncomputable def keepB (fr : Bool) (K : List Nat) (h : Heap) : AVal → Option AVal
 | .tup xs => match optAll (keepA fr K h) xs with
  | some ys => some (.tup ys)
  | none => none
 | .agg xs => match optAll (keepA fr K h) xs with
  | some ys => some (.agg ys)
  | none => none
 | v => keepA fr K h v
theorem hideK_get : ∀ {K : List Nat} {h : Heap} {i : Nat} {b : Blk}, (hideK K h)[i]? = some (some b) → i ∉ K ∧ h[i]? = some (some b)
 | [], h, i, b, hi => ⟨by simp, hi⟩
 | k :: K, h, i, b, hi => by
  obtain ⟨h1, h2⟩ := hideK_get (K := K) (h := h.set k none) hi
  by_cases e : k = i
  ·subst e
   rcases Nat.lt_or_ge k h.length with hl | hl
   ·rw [List.getElem?_set_self hl] at h2; simp at h2
   ·rw [List.getElem?_eq_none (by simp; omega)] at h2; simp at h2
  ·rw [List.getElem?_set_ne e] at h2
   exact ⟨fun hm => by rcases List.mem_cons.1 hm with rfl | hm <;> contradiction, h2⟩
theorem hideK_len : ∀ (K : List Nat) (h : Heap), (hideK K h).length = h.length
 | [], _ => rfl
 | k :: K, h => by show (hideK K (h.set k none)).length = _; rw [hideK_len K, List.length_set]
def okBlk (fr : Bool) : Option Blk → Bool
 | some (.row _ rs) => rs.all (·.all (okA fr))
 | none => true
 | _ => false
noncomputable def freshE (fr : Bool) (sp : List AVal → Option (AVal × Heap)) (args : List AVal) (h : Heap) : Option (AVal × List (Nat × Option Blk)) :=
 match (if fr then optAll (frz false h 5) args else if args.all (rb 0 5) then some args else none) with
 | some ass => match sp ass with
  | some (v, hs) => if hs.all (okBlk fr) = true then (match backB fr (List.range' h.length hs.length) v with
   | some v' => some (v', (List.range' h.length hs.length).zip hs)
   | none => none) else none
  | none => none
 | none => none
theorem setH_new : ∀ (hs h : Heap), setH h ((List.range' h.length hs.length).zip hs) = h ++ hs
 | [], h => by simp [setH]
 | b :: hs, h => by
  show setH (putH h h.length b) ((List.range' (h.length + 1) hs.length).zip hs) = _
  have e : putH h h.length b = h ++ [b] := by unfold putH; rw [if_neg (Nat.lt_irrefl _), if_pos rfl]
  have := setH_new hs (h ++ [b])
  rw [List.length_append] at this
  rw [e]
  simpa using this
section
variable {P : Program} {G : Nat → Option (List AVal)} {T : Nat → Option CFn} {E E' E1 E2 : Env} {h h' h0 h1 hs : Heap} {w w' : World} {n : Nat} {J K : List Nat}
theorem vr_plain {v : AVal} {u : Value} (hv : E.VR w v u) (hp : plainA v = true) : E2.VR w v u := by
 cases hv <;> first | (simp [plainA] at hp; done) | skip
 ·exact .bool _ _
 ·exact .int _ _ _
 ·exact .nilp _
 ·exact .nils _
theorem vr_okA {fr : Bool} (hI : fr = false → ∀ b, E.I b → E2.I b) {v : AVal} {u : Value} (hv : E.VR w v u) (hp : okA fr v = true) : E2.VR w v u := by
 cases fr with
 | true => exact vr_plain hv hp
 | false => exact vr_flat (hI rfl) hv hp
theorem hideK_hr (hr : E.HR P G h w) (K : List Nat) : E.HR P G (hideK K h) w :=
 ⟨fun i b hi => hr.blk i b (hideK_get hi).2, fun i j b c hi hj he => hr.inj i j b c (hideK_get hi).2 (hideK_get hj).2 he, fun i hi => by rw [hideK_len]; exact hr.lt i hi, hr.own, hr.imm, hr.glob⟩
theorem frz_refv {h : Heap} {d i k o : Nat} {x : AVal} (hx : frz false h (d + 1) (.ref i k o) = some x) : ∀ xs, x ≠ .tup xs ∧ x ≠ .agg xs := fun xs => by
 rw [frz_ref] at hx
 (repeat' split at hx) <;> simp at hx <;> subst hx <;> simp
theorem frz_slv {h : Heap} {d i k n : Nat} {t : Bool} {x : AVal} (hx : frz false h (d + 1) (.sl i k n t) = some x) : ∀ xs, x ≠ .tup xs ∧ x ≠ .agg xs := fun xs => by
 rw [frz_sl] at hx
 (repeat' split at hx) <;> simp at hx <;> subst hx <;> simp
theorem fresh_good {fr : Bool} {f : Nat} {args ass : List AVal} {v v1 v' : AVal} (hc : CallGood P G f ass [] v1 h1) (hK : K.Nodup) (hsl : hs.length = K.length)
    (hat : ∀ p (hp : p < K.length) b, hs[p]? = some (some b) → h1[K[p]]? = some (some b)) (hf : hs.all (okBlk fr) = true) (hb1 : keepB fr K h1 v1 = some v) (hb2 : backB fr (List.range' h.length K.length) v = some v')
    (has : (if fr then optAll (frz false h 5) args else if args.all (rb 0 5) then some args else none) = some ass) : CallGood P G f args h v' (h ++ hs) := by
  intro E w cargs k hr hl
  obtain ⟨I0, hI0, hI1, hI2, hl0⟩ : ∃ I0 : Nat → Prop, (∀ b, E.I b → I0 b) ∧ (∀ b, I0 b → b < w.heap.size) ∧ (fr = false → ∀ b, I0 b → E.I b) ∧ Env.LR ⟨E.ρ, fun _ => False, fun _ => False, I0⟩ w ass cargs := by
    cases hfr : fr with
    | true =>
      simp only [hfr, if_true] at has
      obtain ⟨g1, g2⟩ := optAll_get has
      refine ⟨fun b => b < w.heap.size, fun b hb => (hr.imm b hb).1, fun b hb => hb, fun h => by simp at h, ⟨by rw [← g1]; exact hl.1, fun j h1 h2 => ?_⟩⟩
      exact frz_ok hr (fun i b hi => (hr.blk i b hi).2.2.1) (fun _ b hb => (hr.imm b hb).1) 5 (hl.2 j (by omega) h2) (g2 j (by omega) h1)
    | false =>
      simp only [hfr] at has
      simp at has
      obtain ⟨hx, rfl⟩ := has
      refine ⟨E.I, fun b hb => hb, fun b hb => (hr.imm b hb).1, fun _ b hb => hb, ⟨hl.1, fun j h1 h2 => ?_⟩⟩
      have := VR.trim 5 (hl.2 j h1 h2) (hx _ (List.getElem_mem h1))
      exact VR.mono this _ (fun i hi => absurd hi.2 (by omega)) fun b hb => ⟨hb, rfl⟩
  have hr0 : Env.HR P G ⟨E.ρ, fun _ => False, fun _ => False, I0⟩ [] w :=
    ⟨fun i b hi => by simp at hi, fun i j b c hi => by simp at hi, fun i hi => hi.elim, fun b hb => hb.elim, fun b hb => ⟨hI1 b hb, fun h => h⟩, fun g r hg => by
      have := hr.glob g r hg
      generalize hp : Value.pointer (some ⟨g, 0, none⟩) = pv at this ⊢
      cases this with
      | pv _ _ _ b off cv hb hc h => exact .pv _ _ _ b off cv (hI0 b hb) hc fun j hj => VR.mono (h j hj) _ (fun i hi => hi.elim) fun b hb => ⟨hI0 b hb, rfl⟩⟩
  refine CallsIn.mono (hc _ w cargs k hr0 hl0) ?_
  rintro e w' ⟨u, E1, rfl, hle, hr1, hu, _, _⟩
  have hO1 : ∀ b, E1.O b → w.heap.size ≤ b := fun b hb => Nat.le_of_not_lt fun h => (hle.old b h fun h => h).2.1 hb
  have hIo : ∀ b, E1.I b → b < w.heap.size → I0 b := fun b hb hs => (hle.old b hs fun h => h).2.2 hb
  have gd : ∀ p (hp : p < K.length), K.getD p 0 = K[p] := fun p hp => by rw [List.getD_eq_getElem?_getD, List.getElem?_eq_getElem hp]; rfl
  have hat1 : ∀ p (hp : p < K.length) b, hs[p]? = some (some b) → ∃ e rs, h1[K[p]]? = some (some (.row e rs)) ∧ hs[p]? = some (some (.row e rs)) ∧ okBlk fr (some (.row e rs)) = true := fun p hp b hb => by
    simp only [List.all_eq_true] at hf
    have h2 := hat p hp b hb
    have hm := hf _ (List.mem_of_getElem? hb)
    cases b with
    | row e rs => exact ⟨e, rs, h2, hb, hm⟩
    | map es c => simp [okBlk] at hm
    | loop t ps asg bd st pd => simp [okBlk] at hm
  let E2 : Env := ⟨fun i => if i < h.length then E.ρ i else E1.ρ (K.getD (i - h.length) 0), fun i => E.D i ∨ (h.length ≤ i ∧ i < h.length + K.length), fun b => E.O b ∨ ∃ p, (p < K.length ∧ ∃ c, hs[p]? = some (some c)) ∧ b = (E1.ρ (K.getD p 0)).b, fun b => E.I b ∨ (fr = false ∧ (E1.I b ∨ ∃ i c, i ∉ K ∧ h1[i]? = some (some c) ∧ (E1.ρ i).b = b))⟩
  have hnew : ∀ p, (p < K.length ∧ ∃ c, hs[p]? = some (some c)) → E1.O (E1.ρ (K.getD p 0)).b ∧ (E1.ρ (K.getD p 0)).b < w'.heap.size ∧ w.heap.size ≤ (E1.ρ (K.getD p 0)).b := fun p ⟨hp, c, hc⟩ => by
    obtain ⟨e, rs, k1, _⟩ := hat1 p hp c hc
    obtain ⟨_, b2, b3, _⟩ := hr1.blk _ _ k1
    rw [gd p hp]
    exact ⟨b2, b3, hO1 _ b2⟩
  have hρo : ∀ i, i < h.length → E2.ρ i = E.ρ i := fun i hi => if_pos hi
  have hρn : ∀ p, E2.ρ (h.length + p) = E1.ρ (K.getD p 0) := fun p => by
    show (if h.length + p < h.length then _ else _) = _
    rw [if_neg (by omega), Nat.add_sub_cancel_left]
  have hle2 : Le E w E2 w' := ⟨hle.os, hle.tape, hle.output, hle.size, fun i hi => ⟨.inl hi, hρo i (hr.lt i hi)⟩, fun b hb => .inl hb, fun b hb ho =>
    ⟨(hle.old b hb fun h => h).1, fun h => h.elim ho fun ⟨p, hp, e⟩ => by have := (hnew p hp).2.2; omega, fun h => h.elim id fun ⟨hf, h⟩ => h.elim (fun h => hI2 hf b (hIo b h hb)) fun ⟨i, c, _, h2, h3⟩ => by have := hO1 _ (hr1.blk i c h2).2.1; omega⟩⟩
  have hvo : ∀ {x : AVal} {u : Value}, okA fr x = true → E1.VR w' x u → E2.VR w' x u := fun hx hv => vr_okA (E := E1) (E2 := E2) (fun hf b hb => Or.inr ⟨hf, Or.inl hb⟩) hv hx
  have hvb : ∀ {x y z : AVal} {u : Value}, keepA fr K h1 y = some x → E1.VR w' y u → backB1 fr (List.range' h.length K.length) x = some z → E2.VR w' z u := by
    intro x y z u hy hv hz
    have low : ∀ (hnr : ∀ p k o, x ≠ .ref p k o) (hns : ∀ p k n t, x ≠ .sl p k n t), E2.VR w' x u → E2.VR w' z u := fun hnr hns hx => by
      have : backB1 fr (List.range' h.length K.length) x = if okA fr x then some x else none := by
        cases x <;> first | rfl | exact absurd rfl (hnr _ _ _) | exact absurd rfl (hns _ _ _ _)
      rw [this] at hz
      split at hz <;> simp at hz
      subst hz; exact hx
    have flat : (if okA fr y then some y else none) = some x → (∀ p k o, y ≠ .ref p k o) → (∀ p k n t, y ≠ .sl p k n t) → E2.VR w' z u := fun h1 h2 h3 => by
      split at h1 <;> simp at h1
      rename_i hx
      subst h1
      exact low h2 h3 (hvo hx hv)
    have frozen : (if fr = true then none else frz false (hideK K h1) 5 y) = some x → E2.VR w' z u := fun h2 => by
      split at h2 <;> (try simp at h2)
      rename_i hfr
      have hfr : fr = false := by simpa using hfr
      have hx := frz_ok (hideK_hr hr1 K) (I' := E2.I) (ρ' := E2.ρ) (fun i b hi => Or.inr ⟨hfr, Or.inr ⟨i, b, (hideK_get hi).1, (hideK_get hi).2, rfl⟩⟩) (fun _ b hb => Or.inr ⟨hfr, Or.inl hb⟩) 5 hv h2
      exact low (fun p k o e => by subst e; cases hx; contradiction) (fun p k n t e => by subst e; cases hx; contradiction) (VR.mono hx _ (fun i hi => hi.elim) fun b hb => ⟨hb, rfl⟩)
    cases hv with
    | ref _ i k o hD =>
      simp only [keepA] at hy
      split at hy
      · rename_i p hp
        simp at hy; subst hy
        obtain ⟨_, hp2⟩ := posOf_some hp
        obtain ⟨hp3, hp4⟩ := List.getElem?_eq_some_iff.1 hp2
        simp only [Nat.sub_zero] at hp3 hp4
        simp only [backB1] at hz
        split at hz <;> simp at hz
        rename_i j hj
        subst hz
        obtain ⟨hj3, rfl⟩ := List.getElem?_eq_some_iff.1 hj
        rw [List.getElem_range', Nat.one_mul]
        have e : E2.ρ (h.length + p) = E1.ρ i := by rw [hρn, gd p hp3, hp4]
        rw [← e]
        exact .ref _ _ k o (.inr ⟨by omega, by omega⟩)
      · exact frozen hy
    | sl _ i k n t a cap hD hn ht ha hs =>
      simp only [keepA] at hy
      split at hy
      · rename_i p hp
        simp at hy; subst hy
        obtain ⟨_, hp2⟩ := posOf_some hp
        obtain ⟨hp3, hp4⟩ := List.getElem?_eq_some_iff.1 hp2
        simp only [Nat.sub_zero] at hp3 hp4
        simp only [backB1] at hz
        split at hz <;> simp at hz
        rename_i j hj
        subst hz
        obtain ⟨hj3, rfl⟩ := List.getElem?_eq_some_iff.1 hj
        rw [List.getElem_range', Nat.one_mul]
        have e : E2.ρ (h.length + p) = E1.ρ i := by rw [hρn, gd p hp3, hp4]
        rw [← e] at ha hs
        exact .sl _ _ k n t a cap (.inr ⟨by omega, by omega⟩) hn ht ha hs
      · exact frozen hy
    | _ => exact flat hy (by intros; simp) (by intros; simp)
  refine ⟨u, E2, rfl, hle2, ⟨fun i b hi => ?_, fun i j b c hi hj he => ?_, fun i hi => ?_, fun b hb => ?_, fun b hb => ?_, fun g r hg => hle2.vr hr (hr.glob g r hg)⟩, ?_, fun j hj => hj.imp id fun h => h.1, by rw [List.length_append]; omega⟩
  · rcases Nat.lt_or_ge i h.length with hl | hl
    · rw [List.getElem?_append_left hl] at hi
      obtain ⟨b1, b2, b3, b4⟩ := hr.blk i b hi
      rw [hρo i hl]
      exact ⟨.inl b1, .inl b2, Nat.lt_of_lt_of_le b3 hle.size, br_mono b4 (hρo i hl) (hle.old _ b3 fun h => h).1 fun _ _ hv => hle2.vr hr hv⟩
    · rw [List.getElem?_append_right hl] at hi
      obtain ⟨hp, _⟩ := List.getElem?_eq_some_iff.1 hi
      have hpK : i - h.length < K.length := by omega
      obtain ⟨e, rs, k1, k2, k3⟩ := hat1 _ hpK _ hi
      rw [hi] at k2
      simp at k2; subst k2
      obtain ⟨_, c2, c3, c4⟩ := hr1.blk _ _ k1
      have hρ : E2.ρ i = E1.ρ K[i - h.length] := by
        have := hρn (i - h.length)
        rw [Nat.add_sub_cancel' hl] at this
        rw [this, gd _ hpK]
      refine ⟨.inr ⟨hl, by omega⟩, .inr ⟨i - h.length, ⟨hpK, _, hi⟩, by rw [hρ, gd _ hpK]⟩, by rw [hρ]; exact c3, ?_⟩
      obtain ⟨q1, q2, q3, c, el, q4, q5, q6⟩ := c4
      simp only [okBlk, List.all_eq_true] at k3
      refine ⟨by rw [hρ]; exact q1, q2, by rw [hρ]; exact q3, c, el, by rw [hρ]; exact q4, by rw [hρ]; exact q5, fun k r hk j x hj => ?_⟩
      obtain ⟨y, g1, g2⟩ := q6 k r hk j x hj
      exact ⟨y, by rw [hρ]; exact g1, hvo (k3 _ (List.mem_of_getElem? hk) _ (List.mem_of_getElem? hj)) g2⟩
  · have side : ∀ i b, (h ++ hs)[i]? = some (some b) → (i < h.length ∧ h[i]? = some (some b) ∧ E2.ρ i = E.ρ i ∧ (E.ρ i).b < w.heap.size) ∨ (∃ p, ∃ hp : p < K.length, i = h.length + p ∧ E2.ρ i = E1.ρ K[p] ∧ (∃ b', h1[K[p]]? = some (some b')) ∧ w.heap.size ≤ (E1.ρ K[p]).b) := fun i b hi => by
      rcases Nat.lt_or_ge i h.length with hl | hl
      · rw [List.getElem?_append_left hl] at hi
        exact .inl ⟨hl, hi, hρo i hl, (hr.blk i b hi).2.2.1⟩
      · rw [List.getElem?_append_right hl] at hi
        obtain ⟨hp, _⟩ := List.getElem?_eq_some_iff.1 hi
        have hpK : i - h.length < K.length := by omega
        obtain ⟨e, rs, k1, _, _⟩ := hat1 _ hpK _ hi
        have := (hnew _ ⟨hpK, _, hi⟩).2.2
        rw [gd _ hpK] at this
        refine .inr ⟨i - h.length, hpK, by omega, ?_, ⟨_, k1⟩, this⟩
        have := hρn (i - h.length)
        rw [Nat.add_sub_cancel' hl] at this
        rw [this, gd _ hpK]
    rcases side i b hi with ⟨hl, h1i, e1, s1⟩ | ⟨p, hp, rfl, e1, ⟨b1, k1⟩, s1⟩
    · rcases side j c hj with ⟨hl2, h1j, e2, s2⟩ | ⟨q, hq, rfl, e2, ⟨b2, k2⟩, s2⟩
      · rw [e1, e2] at he
        exact hr.inj i j b c h1i h1j he
      · rw [e1, e2] at he; omega
    · rcases side j c hj with ⟨hl2, h1j, e2, s2⟩ | ⟨q, hq, rfl, e2, ⟨b2, k2⟩, s2⟩
      · rw [e1, e2] at he; omega
      · rw [e1, e2] at he
        have := hr1.inj _ _ _ _ k1 k2 he
        rw [(List.getElem_inj hK).1 this]
  · rw [List.length_append]
    rcases hi with hi | hi
    · have := hr.lt i hi; omega
    · omega
  · rcases hb with hb | ⟨p, hp, rfl⟩
    · exact Nat.lt_of_lt_of_le (hr.own b hb) hle.size
    · exact (hnew p hp).2.1
  · rcases hb with hb | ⟨hf, hb | ⟨i, c, hb1, hb2, rfl⟩⟩
    · refine ⟨Nat.lt_of_lt_of_le (hr.imm b hb).1 hle.size, fun ho => ?_⟩
      rcases ho with ho | ⟨p, hp, rfl⟩
      · exact (hr.imm b hb).2 ho
      · have := (hr.imm _ hb).1
        have := (hnew p hp).2.2
        omega
    · refine ⟨(hr1.imm b hb).1, fun ho => ?_⟩
      rcases ho with ho | ⟨p, hp, rfl⟩
      · have hs := hr.own b ho
        exact (hr.imm b (hI2 hf b (hIo b hb hs))).2 ho
      · exact (hr1.imm _ hb).2 (hnew p hp).1
    · refine ⟨(hr1.blk i c hb2).2.2.1, fun ho => ?_⟩
      have hi0 := hO1 _ (hr1.blk i c hb2).2.1
      rcases ho with ho | ⟨p, ⟨hp, c2, hc2⟩, he⟩
      · have hs := hr.own _ ho; omega
      · obtain ⟨e, rs, k1, _⟩ := hat1 p hp c2 hc2
        rw [gd p hp] at he
        have := hr1.inj _ _ _ _ hb2 k1 he
        exact hb1 (this ▸ List.getElem_mem hp)
  · cases v1 with
    | tup xs =>
      simp only [keepB] at hb1
      split at hb1 <;> simp at hb1
      rename_i ys hy
      subst hb1
      simp only [backB] at hb2
      split at hb2 <;> simp at hb2
      rename_i zs hz
      subst hb2
      obtain ⟨q1, q2⟩ := optAll_get hy
      obtain ⟨r1, r2⟩ := optAll_get hz
      cases hu with
      | tup _ _ cs hl hx => exact .tup _ _ cs (by omega) fun j h1 h2 => hvb (q2 j (by omega) (by omega)) (hx j (by omega) h2) (r2 j (by omega) h1)
    | agg xs =>
      simp only [keepB] at hb1
      split at hb1 <;> simp at hb1
      rename_i ys hy
      subst hb1
      simp only [backB] at hb2
      split at hb2 <;> simp at hb2
      rename_i zs hz
      subst hb2
      obtain ⟨q1, q2⟩ := optAll_get hy
      obtain ⟨r1, r2⟩ := optAll_get hz
      cases hu with
      | agg _ _ cs hl hx => exact .agg _ _ cs (by omega) fun j h1 h2 => hvb (q2 j (by omega) (by omega)) (hx j (by omega) h2) (r2 j (by omega) h1)
    | _ =>
      simp only [keepB] at hb1
      refine hvb hb1 hu ?_
      have hv : ∀ x, v ≠ .tup x ∧ v ≠ .agg x := fun x => by
        simp only [keepA] at hb1
        first
          | (split at hb1 <;> simp at hb1 <;> subst hb1 <;> simp; done)
          | (split at hb1
             · simp at hb1; subst hb1; simp
             · split at hb1
               · simp at hb1
               · first | exact frz_refv hb1 x | exact frz_slv hb1 x)
      cases v <;> first | exact hb2 | exact absurd rfl (hv _).1 | exact absurd rfl (hv _).2
end
end Go.Abs
namespace Go.Abs
open Go
noncomputable def dropE (sp : List AVal → Option AVal) (args : List AVal) (h : Heap) : Option (AVal × List (Nat × Option Blk)) :=
 match optAll (frz false (onlyJ (ptrs [] args) 0 h) 5) args with
 | some ass => match sp ass with
  | some v => if rb 0 5 v = true ∧ (ptrs [] args).all (fun i => decide (i < h.length)) = true then some (v, (ptrs [] args).map fun i => (i, none)) else none
  | none => none
 | none => none
theorem setH_hide : ∀ (J : List Nat) (h : Heap), (∀ i ∈ J, i < h.length) → setH h (J.map fun i => (i, none)) = hideK J h
 | [], h, _ => rfl
 | i :: J, h, hj => by
  have hi := hj i (by simp)
  have e : putH h i none = h.set i none := by unfold putH; rw [if_pos hi]
  show setH (putH h i none) (J.map fun i => (i, none)) = hideK J (h.set i none)
  rw [e]
  exact setH_hide J _ fun k hk => by rw [List.length_set]; exact hj k (by simp [hk])
section
variable {P : Program} {G : Nat → Option (List AVal)} {T : Nat → Option CFn} {E : Env} {h : Heap} {w : World}
theorem drop_good {f : Nat} {args ass : List AVal} {v : AVal} {J : List Nat} (hc : OrcGood P G false f ass v) (has : optAll (frz false (onlyJ J 0 h) 5) args = some ass) : CallGood P G f args h v (hideK J h) := by
 intro E w cargs k hr hl
 let B : Nat → Prop := fun b => ∃ i c, i ∈ J ∧ h[i]? = some (some c) ∧ (E.ρ i).b = b
 have hBs : ∀ b, B b → E.O b ∧ b < w.heap.size := by
  rintro b ⟨i, c, _, hi, rfl⟩
  obtain ⟨_, h2, h3, _⟩ := hr.blk i c hi
  exact ⟨h2, h3⟩
 let E0 : Env := ⟨E.ρ, fun _ => False, fun _ => False, fun b => E.I b ∨ B b⟩
 have hI1 : ∀ b, E0.I b → b < w.heap.size := fun b hb => hb.elim (fun hb => (hr.imm b hb).1) fun hb => (hBs b hb).2
 have hr0 : E0.HR P G [] w :=
  ⟨fun i b hi => by simp at hi, fun i j b c hi => by simp at hi, fun i hi => hi.elim, fun b hb => hb.elim, fun b hb => ⟨hI1 b hb, fun h => h⟩, fun g r hg => by
   have := hr.glob g r hg
   generalize hp : Value.pointer (some ⟨g, 0, none⟩) = pv at this ⊢
   cases this with
   | pv _ _ _ b off cv hb hc h => exact .pv _ _ _ b off cv (.inl hb) hc fun j hj => VR.mono (h j hj) _ (fun i hi => hi.elim) fun b hb => ⟨.inl hb, rfl⟩⟩
 have hl0 : E0.LR w ass cargs := by
  obtain ⟨g1, g2⟩ := optAll_get has
  refine ⟨by rw [← g1]; exact hl.1, fun j h1 h2 => ?_⟩
  exact frz_ok (onlyJ_hr hr J) (fun i b hi => .inr ⟨i, b, by simpa using (onlyJ_get hi).1, (onlyJ_get hi).2, rfl⟩) (fun _ b hb => .inl hb) 5 (hl.2 j (by omega) h2) (g2 j (by omega) h1)
 refine CallsIn.mono (hc E0 w cargs k (fun _ h => h) (fun _ h => h) hr0 hl0) ?_
 rintro e w' ⟨u, I', rfl, hos, htape, hout, hsz, hold, hI', hu⟩
 let E2 : Env := ⟨E.ρ, E.D, fun b => E.O b ∧ ¬ B b, fun b => E.I b ∨ B b ∨ I' b⟩
 have hv2 : ∀ x cv, E.VR w x cv → E2.VR w' x cv := fun x cv hx => VR.mono hx _ (fun i hi => ⟨hi, rfl⟩) fun b hb => ⟨.inl hb, hold b (hr.imm b hb).1⟩
 refine ⟨u, E2, rfl, ⟨hos, htape, hout, hsz, fun i hi => ⟨hi, rfl⟩, fun b hb => .inl hb, fun b hb ho => ⟨hold b hb, fun h => ho h.1, fun h => ?_⟩⟩, ⟨fun i b hi => ?_, fun i j b c hi hj he => ?_, fun i hi => ?_, fun b hb => ?_, fun b hb => ?_, fun g r hg => ?_⟩, ?_, fun j hj => .inl hj, ?_⟩
 ·rcases h with h | h | h
  ·exact h
  ·exact absurd (hBs b h).1 ho
  ·rcases (hI' b h).2 with h2 | ⟨_, h2 | h2⟩
   ·omega
   ·exact h2
   ·exact absurd (hBs b h2).1 ho
 ·obtain ⟨hn, hg⟩ := hideK_get hi
  obtain ⟨b1, b2, b3, b4⟩ := hr.blk i b hg
  refine ⟨b1, ⟨b2, ?_⟩, Nat.lt_of_lt_of_le b3 hsz, br_mono (E' := E2) b4 rfl (hold _ b3) hv2⟩
  rintro ⟨i', c, hm, hg', he⟩
  exact hn (hr.inj _ _ _ _ hg' hg he ▸ hm)
 ·exact hr.inj i j b c (hideK_get hi).2 (hideK_get hj).2 he
 ·rw [hideK_len]; exact hr.lt i hi
 ·exact Nat.lt_of_lt_of_le (hr.own b hb.1) hsz
 ·rcases hb with hb | hb | hb
  ·exact ⟨Nat.lt_of_lt_of_le (hr.imm b hb).1 hsz, fun ho => (hr.imm b hb).2 ho.1⟩
  ·exact ⟨Nat.lt_of_lt_of_le (hBs b hb).2 hsz, fun ho => ho.2 hb⟩
  ·refine ⟨(hI' b hb).1, fun ho => ?_⟩
   rcases (hI' b hb).2 with h2 | ⟨_, h2 | h2⟩
   ·have := hr.own b ho.1; omega
   ·exact (hr.imm b h2).2 ho.1
   ·exact ho.2 h2
 ·exact hv2 _ _ (hr.glob g r hg)
 ·exact VR.mono hu _ (fun i hi => hi.elim) fun b hb => ⟨.inr (.inr hb), rfl⟩
 ·rw [hideK_len]; exact Nat.le_refl _
theorem tab_drop (hT : TabOk P G T) {f : Nat} {sp : List AVal → Option AVal} (ho : ∀ args v, sp args = some v → OrcGood P G false f args v) : TabOk P G (updE T f (dropE sp)) :=
 tab_updE hT fun args h v us he => by
  unfold dropE at he
  split at he <;> (try simp only [reduceCtorEq] at he)
  rename_i ass e1
  split at he <;> (try simp only [reduceCtorEq] at he)
  rename_i v1 e2
  split at he <;> (try simp only [reduceCtorEq] at he)
  rename_i hg
  simp only [Option.some.injEq, Prod.mk.injEq] at he
  obtain ⟨rfl, rfl⟩ := he
  rw [setH_hide _ _ fun i hi => by have := List.all_eq_true.1 hg.2 i hi; simpa using this]
  exact drop_good (ho ass v1 e2) e1
end
end Go.Abs
namespace Go.Proofs.YtjjapdagllclkaaGreat.Tab
open Go Go.Abs Go.Proofs
set_option maxRecDepth 100000
set_option maxHeartbeats 4000000
set_option linter.unusedSimpArgs false
set_option linter.unusedVariables false
section
attribute [local simp] frz_int frz_bool frz_vl frz_pv frz_agg frz_tup frz_fn frz_ref frz_sl frz_nils optAll orcF rb_int rb_bool rb_agg rb_tup rb_int' rb_bool' rb_vl rb_pv rb_yld rb_nilf rb_nilp rb_nils rb_any rb_und rb_ref rb_sl rb_fn slE chunk fillA evParts evParts3 putAt List.range_succ List.range_zero List.range'_succ List.range'_zero runX_nil' unary_not evalS_pure evAll_nil evAll_cons runX_cons stepX wantedA dop CV.ev putK_eq setK_eq appK_eq fA_eq fI_eq fN_eq fRow_eq fRows_eq nth_eq Out.v putT List.replicate_succ zT zB arI pointee Abs.rowAt ldRow allV toV toC ofV ofC Builtin.min_ Builtin.min2 Builtin.max_ Builtin.max2 min_if max_if resA tupA kill trim_self trim_len trim_emp trim_nil lenA
attribute [local simp] runD_nil' runD_cons' stepD actK_eq actD clash disj masks holes maskH unmaskH diffs news eqB allB eqA ldRowN wrote toCs ofCs stA rowsV_vl rowsV_nils rowsOf dI1 dI2 dI3 dI5 elt
attribute [local simp] st_any st_und st_agg st_tup st_bool st_int st_nilp st_ref st_pv st_nils st_sl st_vl st_nilm st_mp st_fn st_nilf st_yld co_any co_und co_agg co_tup co_bool co_int co_nilp co_ref co_pv co_nils co_sl co_vl co_nilm co_mp co_fn co_nilf co_yld
section
attribute [local simp] callA calleeA frzG gather getR lim lop loud lowA lowR okG ptrs putG putH putR rbB_none rbB_row resG rowAt setH takeG
structure FindOk (D : Nat) (s : FShop) (js : List FJob) (now : List Int) (nv bv : AVal) (bo : List Int) : Prop where
  ok : ShopOk s js
  lt : js.length - now.length < D
  nw : NowOk js now (js.length - now.length)
  nv : nv = encV now
  bv : bv = encV bo
def bA (b : FBest) : AVal := .agg [encV b.order, I b.sum, I b.last, .bool b.found]
theorem FindOk.up {D : Nat} {s : FShop} {js : List FJob} {now nv bv bo} (h : FindOk (D + 1) s js now nv bv bo) (hd : js.length - now.length < D) : FindOk D s js now nv bv bo := ⟨h.ok, hd, h.nw, h.nv, h.bv⟩
end
section
attribute [local simp] callA calleeA lim lop loud
theorem best_find {s : FShop} {js : List FJob} (h : ShopOk s js) : bestF s js = findF s js js.length [] bz := try_find h js.length [] bz (NowOk.nil js)
theorem best_good : ∀ args v, oBest args = some v → OrcGood Tryz.prog GG false 29 args v := tab_good (f := 29) (c := { c29 with frsh := false, orc := oBest }) BC2_ok rfl
end
end
end Go.Proofs.YtjjapdagllclkaaGreat.Tab
namespace Go.Abs
open Go
def looseA : AVal → AVal
 | .sl i k n _ => .sl i k n false
 | v => v
def looseV : AVal → AVal
 | .tup xs => .tup (xs.map looseA)
 | .agg xs => .agg (xs.map looseA)
 | v => looseA v
section
variable {P : Program} {G : Nat → Option (List AVal)} {T : Nat → Option CFn} {ρ : Nat → Loc} {I : Nat → Prop} {D : Nat → Prop} {w : World} {h h1 : Heap}
theorem vr_looseA {v : AVal} {u : Value} (hv : VR ρ I w D v u) : VR ρ I w D (looseA v) u := by
 cases v with
 | sl i k n t => cases hv with
  | sl _ _ _ _ _ a cap hi hn ht ha hs => exact .sl _ i k n false a cap hi hn (fun h => by simp at h) ha hs
 | _ => exact hv
theorem vr_looseV {v : AVal} {u : Value} (hv : VR ρ I w D v u) : VR ρ I w D (looseV v) u := by
 cases v with
 | tup xs => cases hv with
  | tup _ _ cs hl hx =>
   refine .tup _ _ cs (by simpa using hl) fun j h1 h2 => ?_
   rw [List.getElem_map]
   exact vr_looseA (hx j (by simpa using h1) h2)
 | agg xs => cases hv with
  | agg _ _ cs hl hx =>
   refine .agg _ _ cs (by simpa using hl) fun j h1 h2 => ?_
   rw [List.getElem_map]
   exact vr_looseA (hx j (by simpa using h1) h2)
 | _ => exact vr_looseA hv
theorem good_loose {f : Nat} {args : List AVal} {v : AVal} (hg : CallGood P G f args h v h1) : CallGood P G f args h (looseV v) h1 := fun E w cargs k hr hl =>
 CallsIn.mono (hg E w cargs k hr hl) (by
  rintro e w' ⟨u, E1, h1, h2, h3, h4, h5, h6⟩
  exact ⟨u, E1, h1, h2, h3, vr_looseV h4, h5, h6⟩)
theorem tab_fresh2 (hm : P.follows .mixedOrders = true) (hT : TabOk P G T) {fr : Bool} {f : Nat} {sp : List AVal → Option (AVal × Heap)}
  (ho : ∀ args v hs, sp args = some (v, hs) → Answers P T f args [] fun v1 h1 => ∃ K : List Nat, K.Nodup ∧ K.length = hs.length ∧ (∀ p (hp : p < K.length) b, hs[p]? = some (some b) → h1[K[p]]? = some (some b)) ∧ keepB fr K h1 (looseV v1) = some v) : TabOk P G (updE T f (freshE fr sp)) :=
 tab_updE hT fun args h v us he => by
  unfold freshE at he
  split at he <;> (try simp only [reduceCtorEq] at he)
  rename_i ass e1
  split at he <;> (try simp only [reduceCtorEq] at he)
  rename_i v0 hs e2
  split at he <;> (try simp only [reduceCtorEq] at he)
  rename_i hg
  split at he <;> (try simp only [reduceCtorEq] at he)
  rename_i v' hb
  simp at he
  obtain ⟨rfl, rfl⟩ := he
  obtain ⟨v2, h2, ⟨K, k1, k2, k3, k4⟩, hgood⟩ := answers_good hm hT (ho ass v0 hs e2)
  rw [setH_new]
  exact fresh_good (good_loose hgood) k1 k2.symm k3 hg k4 (by rw [k2]; exact hb) e1
end
end Go.Abs
namespace Go.Proofs.YtjjapdagllclkaaGreat.Tab
open Go Go.Abs Go.Proofs
set_option maxRecDepth 100000
set_option maxHeartbeats 4000000
set_option linter.unusedSimpArgs false
set_option linter.unusedVariables false
section
attribute [local simp] frz_int frz_bool frz_vl frz_pv frz_agg frz_tup frz_fn frz_ref frz_sl frz_nils optAll orcF rb_int rb_bool rb_agg rb_tup rb_int' rb_bool' rb_vl rb_pv rb_yld rb_nilf rb_nilp rb_nils rb_any rb_und rb_ref rb_sl rb_fn slE chunk fillA evParts evParts3 putAt List.range_succ List.range_zero List.range'_succ List.range'_zero runX_nil' unary_not evalS_pure evAll_nil evAll_cons runX_cons stepX wantedA dop CV.ev putK_eq setK_eq appK_eq fA_eq fI_eq fN_eq fRow_eq fRows_eq nth_eq Out.v putT List.replicate_succ zT zB arI pointee Abs.rowAt ldRow allV toV toC ofV ofC Builtin.min_ Builtin.min2 Builtin.max_ Builtin.max2 min_if max_if resA tupA kill trim_self trim_len trim_emp trim_nil lenA
attribute [local simp] runD_nil' runD_cons' stepD actK_eq actD clash disj masks holes maskH unmaskH diffs news eqB allB eqA ldRowN wrote toCs ofCs stA rowsV_vl rowsV_nils rowsOf dI1 dI2 dI3 dI5 elt
attribute [local simp] st_any st_und st_agg st_tup st_bool st_int st_nilp st_ref st_pv st_nils st_sl st_vl st_nilm st_mp st_fn st_nilf st_yld co_any co_und co_agg co_tup co_bool co_int co_nilp co_ref co_pv co_nils co_sl co_vl co_nilm co_mp co_fn co_nilf co_yld
section
attribute [local simp] callA calleeA lim lop loud posOf rbB_row
theorem jrows_at {rs : List (List AVal)} {js : List FJob} (h : optAll dJob rs = some js) : ∀ r ∈ rs, ∃ (x : FJob) (v : AVal), r = [I x.kind, I x.ready, I x.due, v] ∧ dInts v = some x.mins := fun r hr => by
  obtain ⟨x, _, e⟩ := optAll_mem h r hr
  obtain ⟨v, e2, hv⟩ := dJob_eq e
  exact ⟨x, v, e2, hv⟩
theorem rJ_frz {rs : List (List AVal)} {js : List FJob} (h : optAll dJob rs = some js) (H : Heap) (d : Nat) : optAll (optAll (frz false H (d + 1))) rs = some rs := optAll_self _ fun r hr => optAll_self _ fun z hz => by
  obtain ⟨x, v, rfl, hv⟩ := jrows_at h r hr
  simp only [List.mem_cons, List.not_mem_nil, or_false] at hz
  rcases hz with rfl | rfl | rfl | rfl
  · rfl
  · rfl
  · rfl
  · exact dInts_frz hv H d
theorem rJ_rb {rs : List (List AVal)} {js : List FJob} (h : optAll dJob rs = some js) (n d : Nat) : (rs.all fun r => r.all (rb n (d + 1))) = true := by
  simp only [List.all_eq_true]
  intro r hr z hz
  obtain ⟨x, v, rfl, hv⟩ := jrows_at h r hr
  simp only [List.mem_cons, List.not_mem_nil, or_false] at hz
  rcases hz with rfl | rfl | rfl | rfl
  · rfl
  · rfl
  · rfl
  · exact dInts_rb hv n d
theorem rJ_len {rs : List (List AVal)} {js : List FJob} (h : optAll dJob rs = some js) : (rs.all fun r => r.length == 4) = true := by
  simp only [List.all_eq_true]
  intro r hr
  obtain ⟨x, v, rfl, _⟩ := jrows_at h r hr
  rfl
end
end
end Go.Proofs.YtjjapdagllclkaaGreat.Tab
