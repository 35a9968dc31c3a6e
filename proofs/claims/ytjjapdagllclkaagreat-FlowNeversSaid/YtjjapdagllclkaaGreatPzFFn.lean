/- Contracts of flow: FlowBests. No condition. -/
import Derived.Test.YtjjapdagllclkaaGreatPzEFn
import Derived.Test.YtjjapdagllclkaaGreatPzDFn
set_option linter.unusedSimpArgs false
set_option linter.unusedVariables false
namespace Go.Abs
open Go
def onlyJ (J : List Nat) : Nat → Heap → Heap
 | _, [] => []
 | i, b :: h => (if J.contains i then b else none) :: onlyJ J (i + 1) h
theorem onlyJ_get {J : List Nat} : ∀ {h : Heap} {k i : Nat} {b : Blk}, (onlyJ J k h)[i]? = some (some b) → (k + i) ∈ J ∧ h[i]? = some (some b)
 | [], k, i, b, hi => by simp [onlyJ] at hi
 | c :: h, k, 0, b, hi => by
  simp only [onlyJ, List.getElem?_cons_zero, Option.some.injEq] at hi
  split at hi
  ·rename_i hc
   exact ⟨by simpa using hc, by simp [hi]⟩
  ·simp at hi
 | c :: h, k, i + 1, b, hi => by
  simp only [onlyJ, List.getElem?_cons_succ] at hi
  have := onlyJ_get (k := k + 1) hi
  exact ⟨by rw [show k + (i + 1) = k + 1 + i by omega]; exact this.1, by simpa using this.2⟩
theorem onlyJ_len (J : List Nat) : ∀ (h : Heap) (k : Nat), (onlyJ J k h).length = h.length
 | [], _ => rfl
 | c :: h, k => by simp only [onlyJ, List.length_cons, onlyJ_len J h (k + 1)]
noncomputable def dropE (sp : List AVal → Option AVal) (args : List AVal) (h : Heap) : Option (AVal × List (Nat × Option Blk)) :=
 match optAll (frz false (onlyJ (ptrs [] args) 0 h) 5) args with
 | some ass => match sp ass with
  | some v => if rb 0 5 v = true ∧ (ptrs [] args).all (fun i => decide (i < h.length)) = true then some (v, (ptrs [] args).map fun i => (i, none)) else none
  | none => none
 | none => none
theorem setH_hide : ∀ (J : List Nat) (h : Heap), (∀ i ∈ J, i < h.length) → setH h (J.map fun i => (i, none)) = hideK J h
 | [], h, _ => rfl
 | i :: J, h, hj => by
  have hi := hj i (by simp)
  have e : putH h i none = h.set i none := by unfold putH; rw [if_pos hi]
  show setH (putH h i none) (J.map fun i => (i, none)) = hideK J (h.set i none)
  rw [e]
  exact setH_hide J _ fun k hk => by rw [List.length_set]; exact hj k (by simp [hk])
section
variable {P : Program} {G : Nat → Option (List AVal)} {T : Nat → Option CFn} {E : Env} {h : Heap} {w : World}
theorem onlyJ_hr (hr : E.HR P G h w) (J : List Nat) : E.HR P G (onlyJ J 0 h) w :=
 ⟨fun i b hi => hr.blk i b (onlyJ_get hi).2, fun i j b c hi hj he => hr.inj i j b c (onlyJ_get hi).2 (onlyJ_get hj).2 he, fun i hi => by rw [onlyJ_len]; exact hr.lt i hi, hr.own, hr.imm, hr.glob⟩
theorem drop_good {f : Nat} {args ass : List AVal} {v : AVal} {J : List Nat} (hc : OrcGood P G false f ass v) (has : optAll (frz false (onlyJ J 0 h) 5) args = some ass) : CallGood P G f args h v (hideK J h) := by
 intro E w cargs k hr hl
 let B : Nat → Prop := fun b => ∃ i c, i ∈ J ∧ h[i]? = some (some c) ∧ (E.ρ i).b = b
 have hBs : ∀ b, B b → E.O b ∧ b < w.heap.size := by
  rintro b ⟨i, c, _, hi, rfl⟩
  obtain ⟨_, h2, h3, _⟩ := hr.blk i c hi
  exact ⟨h2, h3⟩
 let E0 : Env := ⟨E.ρ, fun _ => False, fun _ => False, fun b => E.I b ∨ B b⟩
 have hI1 : ∀ b, E0.I b → b < w.heap.size := fun b hb => hb.elim (fun hb => (hr.imm b hb).1) fun hb => (hBs b hb).2
 have hr0 : E0.HR P G [] w :=
  ⟨fun i b hi => by simp at hi, fun i j b c hi => by simp at hi, fun i hi => hi.elim, fun b hb => hb.elim, fun b hb => ⟨hI1 b hb, fun h => h⟩, fun g r hg => by
   have := hr.glob g r hg
   generalize hp : Value.pointer (some ⟨g, 0, none⟩) = pv at this ⊢
   cases this with
   | pv _ _ _ b off cv hb hc h => exact .pv _ _ _ b off cv (.inl hb) hc fun j hj => VR.mono (h j hj) _ (fun i hi => hi.elim) fun b hb => ⟨.inl hb, rfl⟩⟩
 have hl0 : E0.LR w ass cargs := by
  obtain ⟨g1, g2⟩ := optAll_get has
  refine ⟨by rw [← g1]; exact hl.1, fun j h1 h2 => ?_⟩
  exact frz_ok (onlyJ_hr hr J) (fun i b hi => .inr ⟨i, b, by simpa using (onlyJ_get hi).1, (onlyJ_get hi).2, rfl⟩) (fun _ b hb => .inl hb) 5 (hl.2 j (by omega) h2) (g2 j (by omega) h1)
 refine CallsIn.mono (hc E0 w cargs k (fun _ h => h) (fun _ h => h) hr0 hl0) ?_
 rintro e w' ⟨u, I', rfl, hos, htape, hout, hsz, hold, hI', hu⟩
 let E2 : Env := ⟨E.ρ, E.D, fun b => E.O b ∧ ¬ B b, fun b => E.I b ∨ B b ∨ I' b⟩
 have hv2 : ∀ x cv, E.VR w x cv → E2.VR w' x cv := fun x cv hx => VR.mono hx _ (fun i hi => ⟨hi, rfl⟩) fun b hb => ⟨.inl hb, hold b (hr.imm b hb).1⟩
 refine ⟨u, E2, rfl, ⟨hos, htape, hout, hsz, fun i hi => ⟨hi, rfl⟩, fun b hb => .inl hb, fun b hb ho => ⟨hold b hb, fun h => ho h.1, fun h => ?_⟩⟩, ⟨fun i b hi => ?_, fun i j b c hi hj he => ?_, fun i hi => ?_, fun b hb => ?_, fun b hb => ?_, fun g r hg => ?_⟩, ?_, fun j hj => .inl hj, ?_⟩
 ·rcases h with h | h | h
  ·exact h
  ·exact absurd (hBs b h).1 ho
  ·rcases (hI' b h).2 with h2 | ⟨_, h2 | h2⟩
   ·omega
   ·exact h2
   ·exact absurd (hBs b h2).1 ho
 ·obtain ⟨hn, hg⟩ := hideK_get hi
  obtain ⟨b1, b2, b3, b4⟩ := hr.blk i b hg
  refine ⟨b1, ⟨b2, ?_⟩, Nat.lt_of_lt_of_le b3 hsz, br_mono (E' := E2) b4 rfl (hold _ b3) hv2⟩
  rintro ⟨i', c, hm, hg', he⟩
  exact hn (hr.inj _ _ _ _ hg' hg he ▸ hm)
 ·exact hr.inj i j b c (hideK_get hi).2 (hideK_get hj).2 he
 ·rw [hideK_len]; exact hr.lt i hi
 ·exact Nat.lt_of_lt_of_le (hr.own b hb.1) hsz
 ·rcases hb with hb | hb | hb
  ·exact ⟨Nat.lt_of_lt_of_le (hr.imm b hb).1 hsz, fun ho => (hr.imm b hb).2 ho.1⟩
  ·exact ⟨Nat.lt_of_lt_of_le (hBs b hb).2 hsz, fun ho => ho.2 hb⟩
  ·refine ⟨(hI' b hb).1, fun ho => ?_⟩
   rcases (hI' b hb).2 with h2 | ⟨_, h2 | h2⟩
   ·have := hr.own b ho.1; omega
   ·exact (hr.imm b h2).2 ho.1
   ·exact ho.2 h2
 ·exact hv2 _ _ (hr.glob g r hg)
 ·exact VR.mono hu _ (fun i hi => hi.elim) fun b hb => ⟨.inr (.inr hb), rfl⟩
 ·rw [hideK_len]; exact Nat.le_refl _
theorem tab_drop (hT : TabOk P G T) {f : Nat} {sp : List AVal → Option AVal} (ho : ∀ args v, sp args = some v → OrcGood P G false f args v) : TabOk P G (updE T f (dropE sp)) :=
 tab_updE hT fun args h v us he => by
  unfold dropE at he
  split at he <;> (try simp only [reduceCtorEq] at he)
  rename_i ass e1
  split at he <;> (try simp only [reduceCtorEq] at he)
  rename_i v1 e2
  split at he <;> (try simp only [reduceCtorEq] at he)
  rename_i hg
  simp only [Option.some.injEq, Prod.mk.injEq] at he
  obtain ⟨rfl, rfl⟩ := he
  rw [setH_hide _ _ fun i hi => by have := List.all_eq_true.1 hg.2 i hi; simpa using this]
  exact drop_good (ho ass v1 e2) e1
end
end Go.Abs
namespace Go.Proofs.YtjjapdagllclkaaGreat.Tab
open Go Go.Abs Go.Proofs
set_option maxRecDepth 100000
set_option maxHeartbeats 4000000
set_option linter.unusedSimpArgs false
set_option linter.unusedVariables false
section
attribute [local simp] frz_int frz_bool frz_vl frz_pv frz_agg frz_tup frz_fn frz_ref frz_sl frz_nils optAll orcF rb_int rb_bool rb_agg rb_tup rb_int' rb_bool' rb_vl rb_pv rb_yld rb_nilf rb_nilp rb_nils rb_any rb_und rb_ref rb_sl rb_fn slE chunk fillA evParts evParts3 putAt List.range_succ List.range_zero List.range'_succ List.range'_zero runX_nil' unary_not evalS_pure evAll_nil evAll_cons runX_cons stepX wantedA dop CV.ev putK_eq setK_eq appK_eq fA_eq fI_eq fN_eq fRow_eq fRows_eq nth_eq Out.v putT List.replicate_succ zT zB arI pointee Abs.rowAt ldRow allV toV toC ofV ofC Builtin.min_ Builtin.min2 Builtin.max_ Builtin.max2 min_if max_if resA tupA kill trim_self trim_len trim_emp trim_nil lenA
attribute [local simp] runD_nil' runD_cons' stepD actK_eq actD clash disj masks holes maskH unmaskH diffs news eqB allB eqA ldRowN wrote toCs ofCs stA rowsV_vl rowsV_nils rowsOf dI1 dI2 dI3 dI5 elt
attribute [local simp] st_any st_und st_agg st_tup st_bool st_int st_nilp st_ref st_pv st_nils st_sl st_vl st_nilm st_mp st_fn st_nilf st_yld co_any co_und co_agg co_tup co_bool co_int co_nilp co_ref co_pv co_nils co_sl co_vl co_nilm co_mp co_fn co_nilf co_yld
section
attribute [local simp] callA calleeA frzG gather getR lim lop loud lowA lowR okG ptrs putG putH putR rbB_none rbB_row resG rowAt setH takeG
structure FindOk (D : Nat) (s : FShop) (js : List FJob) (now : List Int) (nv bv : AVal) (bo : List Int) : Prop where
  ok : ShopOk s js
  lt : js.length - now.length < D
  nw : NowOk js now (js.length - now.length)
  nv : nv = encV now
  bv : bv = encV bo
def bA (b : FBest) : AVal := .agg [encV b.order, I b.sum, I b.last, .bool b.found]
open Classical in
noncomputable def spFind (D : Nat) : List AVal → Option AVal
  | [.agg [.int .i64 m, c, t], j, nv, .agg [bv, .int .i64 bs, .int .i64 be, .bool fo]] =>
    match dInts2 c, dStops t, dJobs j, dInts nv, dInts bv with
    | some cs, some ts, some js, some now, some bo => if FindOk D ⟨m, cs, ts⟩ js now nv bv bo then some (bA (findF ⟨m, cs, ts⟩ js (js.length - now.length) now ⟨bo, bs, be, fo⟩)) else none
    | _, _, _, _, _ => none
  | _ => none
theorem spFind_eq {D : Nat} {s : FShop} {js : List FJob} {c t j : AVal} {now : List Int} {b : FBest} (hc : dInts2 c = some s.chg) (ht : dStops t = some s.stops) (hj : dJobs j = some js) (h : FindOk D s js now (encV now) (encV b.order) b.order) : spFind D [.agg [I s.mach, c, t], j, encV now, bA b] = some (bA (findF s js (js.length - now.length) now b)) := by
  simp only [spFind, bA, hc, ht, hj, dInts_encV]
  rw [if_pos h]
noncomputable def findS (s : FShop) (js : List FJob) (d : Nat) (now : List Int) (b : FBest) (i : Nat) : FBest := if (i : Int) ∈ now then b else findF s js d (now ++ [(i : Int)]) b
theorem findF_succ {s : FShop} {js : List FJob} {d : Nat} {now : List Int} {b : FBest} : findF s js (d + 1) now b = (List.range js.length).foldl (findS s js d now) b := rfl
theorem ptrs_rows {x : AVal} {rs : List (List AVal)} (h : rowsV x = some rs) (J : List Nat) (l : List AVal) : ptrs J (x :: l) = ptrs J l := by
  rcases rowsV_cases h with ⟨rfl, _⟩ | ⟨t, rfl⟩ <;> rfl
theorem mem_take_succ {now : List Int} {p : Nat} (hp : p < now.length) (i : Int) : decide (i ∈ now.take (p + 1)) = (decide (i ∈ now.take p) || decide (now[p] = i)) := by
  rw [List.take_succ_eq_append_getElem hp, Bool.eq_iff_iff]
  simp only [decide_eq_true_eq, Bool.or_eq_true, List.mem_append, List.mem_singleton]
  exact or_congr Iff.rfl eq_comm
theorem a31 (P : Program) (T : Nat → Option CFn) (D : Nat) (hT : T 31 = some { c31 with frsh := false, orc := fun _ => none, eff := dropE (spFind D) }) (h26 : T 26 = some { c26 with frsh := true, orc := oLateR }) (s : FShop) (js : List FJob) (c t j : AVal) (hc : dInts2 c = some s.chg) (ht : dStops t = some s.stops) (hj : dJobs j = some js) (now : List Int) (b : FBest) (hok : FindOk (D + 1) s js now (encV now) (encV b.order) b.order) (hlev : js.length - now.length = D) (he : dropE (spFind D) [.agg [I s.mach, c, t], j, encV now, bA b] [] = none) : Answers P T 31 [.agg [I s.mach, c, t], j, encV now, bA b] [] fun v h => frz false h 5 v = some (bA (findF s js (js.length - now.length) now b)) := by
 have fc := fun H d => dInts2_frz hc H d
 have ft := fun H d => dStops_frz ht H d
 have fj := fun H d => dJobs_frz hj H d
 have rc := fun n d => dInts2_rb hc n d
 have rt := fun n d => dStops_rb ht n d
 have rj := fun n d => dJobs_rb hj n d
 have lc := dInts2_len hc
 have lt := dStops_len ht
 have lj := dJobs_len hj
 obtain ⟨cc1, cc2⟩ := dInts2_cells hc
 obtain ⟨ct1, ct2⟩ := dStops_cells ht
 obtain ⟨cj1, cj2⟩ := dJobs_cells hj
 have h31 := hT
 obtain ⟨hsh, hlt, hnw, hnv, hbv⟩ := hok
 have feb := fun (b : FBest) H d => dInts_frz (dInts_encV b.order) H d
 have reb := fun (b : FBest) n d => dInts_rb (dInts_encV b.order) n d
 have ceb1 := fun (b : FBest) => (dInts_cells (dInts_encV b.order)).1
 have ceb2 := fun (b : FBest) => (dInts_cells (dInts_encV b.order)).2
 have hpj := fun J l => let ⟨_, h1, _⟩ := dJobs_rows hj; ptrs_rows h1 J l
 have hn6 := hsh.njob
 have hno6 : now.length ≤ 6 := by have := hnw.len; omega
 have hne := dInts_encV now
 have fen := fun H d => dInts_frz hne H d
 have ren := fun n d => dInts_rb hne n d
 have len_ := dInts_len hne
 obtain ⟨cen1, cen2⟩ := dInts_cells hne
 refine answers_of hT (orcF_none rfl) ?_ he
 simp only [oo, om, op, og, ci, cl, c31]
 have HH1 := zA h26 (zA h31 (zA fc (zA ft (zA fj (zA rc (zA rt (zA rj (zA lc (zA lt (zA lj (zA cc1 (zA cc2 (zA ct1 (zA ct2 (zA cj1 (zA cj2 (zA feb (zA reb (zA ceb1 (zA ceb2 (zA fen (zA ren (zA len_ (zA cen1 (zA cen2 hpj)))))))))))))))))))))))))
 refine zS ?_
 refine zR (zO (by simp [zC h26, callF_eff h31 rfl, ↓orc_nil, dropE, onlyJ, -lenA, zI, bA, HH1]; rfl) ?_)
 simp only [zT, zB]
 refine zS ?_
 refine zS ?_
 refine zR (zO (by simp [zC h26, callF_eff h31 rfl, ↓orc_nil, dropE, onlyJ, -lenA, zI, bA, HH1]; rfl) ?_)
 simp only [zT, zB]
 by_cases hle : now.length = js.length
 ·have h0 : js.length - now.length = 0 := by omega
  rw [h0] at hnw ⊢
  have hctx : RunCtx s js now := ⟨hsh, hnw.ord⟩
  have hlr := lateR_eq hc ht hj hne hctx
  have hl2 : ((lateR s js now).2.1, (lateR s js now).2.2) = latO s js now := rfl
  have hff : findF s js 0 now b = betterB b now (latO s js now) := rfl
  rw [hff, ← hl2]
  generalize lateR s js now = LT at *
  obtain ⟨l1, su, en⟩ := LT
  simp only at hlr ⊢
  generalize hR : betterB b now (su, en) = R
  generalize hfo : b.found = fo at *
  rcases fo with _ | _
  ·have hR2 : R = ⟨now, su, en, true⟩ := by rw [← hR]; unfold betterB; exact if_pos (by simp [lexB, *])
   rw [hR2]
   refine runs_cond (x := true) (by simp [hle]) ?_
   refine zS ?_
   refine zR (zO (by simp [zC h26, callF_eff h31 rfl, ↓orc_nil, dropE, onlyJ, -lenA, zI, bA, HH1, hlr, hfo]; rfl) ?_)
   simp only [zT, zB]
   refine zS ?_
   refine zS ?_
   refine zR (zO (by simp [zC h26, callF_eff h31 rfl, ↓orc_nil, dropE, onlyJ, -lenA, zI, bA, HH1, hlr, hfo]; rfl) ?_)
   simp only [zT, zB]
   refine runs_cond (x := true) (by simp [*]) ?_
   refine zS ?_
   refine zR (zO (by simp [zC h26, callF_eff h31 rfl, ↓orc_nil, dropE, onlyJ, -lenA, zI, bA, HH1, hlr, hfo]; rfl) ?_)
   simp only [zT, zB]
   refine runs_ret ?_
   simp [zC h26, callF_eff h31 rfl, ↓orc_nil, dropE, onlyJ, -lenA, zI, bA, HH1, hlr, hfo, trim]
  ·by_cases hA : su < b.sum
   ·have hR2 : R = ⟨now, su, en, true⟩ := by rw [← hR]; unfold betterB; exact if_pos (by simp [lexB, *])
    rw [hR2]
    refine runs_cond (x := true) (by simp [hle]) ?_
    refine zS ?_
    refine zR (zO (by simp [zC h26, callF_eff h31 rfl, ↓orc_nil, dropE, onlyJ, -lenA, zI, bA, HH1, hlr, hfo, hA]; rfl) ?_)
    simp only [zT, zB]
    refine zS ?_
    refine zS ?_
    refine zR (zO (by simp [zC h26, callF_eff h31 rfl, ↓orc_nil, dropE, onlyJ, -lenA, zI, bA, HH1, hlr, hfo, hA]; rfl) ?_)
    simp only [zT, zB]
    refine runs_cond (x := true) (by simp [*]) ?_
    refine zS ?_
    refine zR (zO (by simp [zC h26, callF_eff h31 rfl, ↓orc_nil, dropE, onlyJ, -lenA, zI, bA, HH1, hlr, hfo, hA]; rfl) ?_)
    simp only [zT, zB]
    refine runs_ret ?_
    simp [zC h26, callF_eff h31 rfl, ↓orc_nil, dropE, onlyJ, -lenA, zI, bA, HH1, hlr, hfo, hA, trim]
   ·have hlt1 : decide (su < b.sum) = false := by simp [hA]
    by_cases hB : su = b.sum
    ·by_cases hC : en < b.last
     ·have hR2 : R = ⟨now, su, en, true⟩ := by rw [← hR]; unfold betterB; exact if_pos (by simp [lexB, *])
      rw [hR2]
      refine runs_cond (x := true) (by simp [hle]) ?_
      have HH2 := zA hlr (zA hfo (zA hA (zA hB hC)))
      refine zS ?_
      refine zR (zO (by simp [zC h26, callF_eff h31 rfl, ↓orc_nil, dropE, onlyJ, -lenA, zI, bA, HH1, HH2]; rfl) ?_)
      simp only [zT, zB]
      refine zS ?_
      refine zS ?_
      refine zR (zO (by simp [zC h26, callF_eff h31 rfl, ↓orc_nil, dropE, onlyJ, -lenA, zI, bA, HH1, HH2]; rfl) ?_)
      simp only [zT, zB]
      refine runs_cond (x := true) (by simp [*]) ?_
      refine zS ?_
      refine zR (zO (by simp [zC h26, callF_eff h31 rfl, ↓orc_nil, dropE, onlyJ, -lenA, zI, bA, HH1, HH2]; rfl) ?_)
      simp only [zT, zB]
      refine runs_ret ?_
      simp [zC h26, callF_eff h31 rfl, ↓orc_nil, dropE, onlyJ, -lenA, zI, bA, HH1, HH2, trim]
     ·have hR2 : R = b := by rw [← hR]; unfold betterB; exact if_neg (by simp [lexB, *])
      rw [hR2]
      refine runs_cond (x := true) (by simp [hle]) ?_
      have HH3 := zA hlr (zA hfo (zA hA (zA hB hC)))
      refine zS ?_
      refine zR (zO (by simp [zC h26, callF_eff h31 rfl, ↓orc_nil, dropE, onlyJ, -lenA, zI, bA, HH1, HH3]; rfl) ?_)
      simp only [zT, zB]
      refine zS ?_
      refine zS ?_
      refine zR (zO (by simp [zC h26, callF_eff h31 rfl, ↓orc_nil, dropE, onlyJ, -lenA, zI, bA, HH1, HH3]; rfl) ?_)
      simp only [zT, zB]
      refine runs_cond (x := false) (by simp [*]) ?_
      refine zK ?_
      simp only [zT, zB]
      refine zS ?_
      refine zR (zO (by simp [zC h26, callF_eff h31 rfl, ↓orc_nil, dropE, onlyJ, -lenA, zI, bA, HH1, HH3]; rfl) ?_)
      simp only [zT, zB]
      refine runs_ret ?_
      simp [zC h26, callF_eff h31 rfl, ↓orc_nil, dropE, onlyJ, -lenA, zI, bA, HH1, HH3, trim]
    ·have hBb : (su == b.sum) = false := by simp [hB]
     have hR2 : R = b := by rw [← hR]; unfold betterB; exact if_neg (by simp [lexB, *])
     rw [hR2]
     refine runs_cond (x := true) (by simp [hle]) ?_
     have HH4 := zA hlr (zA hfo (zA hA (zA hB hBb)))
     refine zS ?_
     refine zR (zO (by simp [zC h26, callF_eff h31 rfl, ↓orc_nil, dropE, onlyJ, -lenA, zI, bA, HH1, HH4]; rfl) ?_)
     simp only [zT, zB]
     refine zS ?_
     refine zS ?_
     refine zR (zO (by simp [zC h26, callF_eff h31 rfl, ↓orc_nil, dropE, onlyJ, -lenA, zI, bA, HH1, HH4]; rfl) ?_)
     simp only [zT, zB]
     refine runs_cond (x := false) (by simp [*]) ?_
     refine zK ?_
     simp only [zT, zB]
     refine zS ?_
     refine zR (zO (by simp [zC h26, callF_eff h31 rfl, ↓orc_nil, dropE, onlyJ, -lenA, zI, bA, HH1, HH4]; rfl) ?_)
     simp only [zT, zB]
     refine runs_ret ?_
     simp [zC h26, callF_eff h31 rfl, ↓orc_nil, dropE, onlyJ, -lenA, zI, bA, HH1, HH4, trim]
 ·refine runs_cond (x := false) (by simp; omega) ?_
  obtain ⟨d, hd⟩ : ∃ d, js.length - now.length = d + 1 := ⟨js.length - now.length - 1, by have := hnw.len; omega⟩
  rw [hd, findF_succ]
  rw [hd] at hnw
  have hlen := hnw.len
  refine zK ?_
  simp only [zT, zB]
  refine zS ?_
  refine zS ?_
  refine zR (zO (by simp [zC h26, callF_eff h31 rfl, ↓orc_nil, dropE, onlyJ, -lenA, zI, bA, HH1]; rfl) ?_)
  simp only [zT, zB]
  refine zL ?_
  refine runs_loop_inv (fun m σ => ∃ (k : Nat) (i : Int) (b1 : FBest), i = k ∧ js.length - k = m ∧ k ≤ js.length ∧ b1 = (List.range k).foldl (findS s js d now) b ∧ σ = ⟨[.any, j, encV now, .any, .ref 0 0 0, .any, .any, .ref 1 0 0, .ref 2 0 0, .any, .any, .any, I i, .any, .any, .any, .any, .any, .any, .any, .any, .any, .any, .any, .any, .any, .any, .any, .any, .any, .any, .any, .any, .any, .any, .any, .any, .any, .any, .any, .any, .any, .any, .any, .any, .any, .any, .any, .any, .any, .any, .any, .any, .any, .any, .any, .any, .any, .any, .any, .any, .any, .any, .any, .any, .any, .any, .any, .any, .any, .any, .any, .any, .any, .any, .any, .any, .any, .any, .any, .any, .any, .any, .any, .any, .any, .any, .any], [some (.row 3 [[I s.mach, c, t]]), some (.row 4 [[encV b1.order, I b1.sum, I b1.last, .bool b1.found]]), some (.row 4 [[.nils, I 0, I 0, .bool false]])]⟩) ?_ (js.length - 0) _ ⟨0, 0, b, rfl, rfl, Nat.zero_le _, rfl, by simp⟩
  rintro m σ ⟨k, i, b1, hik, rfl, hkl, hb1, rfl⟩
  refine zS ?_
  refine zS ?_
  refine zR (zO (by simp [zC h26, callF_eff h31 rfl, ↓orc_nil, dropE, onlyJ, -lenA, zI, bA, HH1]; rfl) ?_)
  simp only [zT, zB]
  refine runs_cond_split (x := decide (i < (js.length : Int))) (by simp) (fun hlt2 => ?_) (fun hlt2 => ?_)
  ·have hlt2 := of_decide_eq_true hlt2
   have hk0 : k < js.length := by omega
   have hi0 : 0 ≤ i := by omega
   have htn : i.toNat = k := by omega
   have hwi : W .i64 (i + 1) = i + 1 := W_small (by omega)
   have hb2 : (List.range (k + 1)).foldl (findS s js d now) b = findS s js d now b1 k := by rw [List.range_succ, List.foldl_append, ← hb1]; rfl
   refine zK ?_
   simp only [zT, zB]
   refine zS ?_
   refine zL ?_
   refine zS ?_
   refine zR (zO (by simp [zC h26, callF_eff h31 rfl, ↓orc_nil, dropE, onlyJ, -lenA, zI, bA, HH1, hi0, htn, hk0, hwi]; rfl) ?_)
   simp only [zT, zB]
   refine zS ?_
   refine zS ?_
   refine zR (zO (by simp [zC h26, callF_eff h31 rfl, ↓orc_nil, dropE, onlyJ, -lenA, zI, bA, HH1, hi0, htn, hk0, hwi]; rfl) ?_)
   simp only [zT, zB]
   refine zL ?_
   refine runs_loop_inv (fun m2 σ => ∃ (p : Nat) (g : Int) (us : Bool), g = p ∧ now.length - p = m2 ∧ p ≤ now.length ∧ us = decide (i ∈ now.take p) ∧ σ = ⟨[.any, j, encV now, .any, .ref 0 0 0, .any, .any, .ref 1 0 0, .ref 2 0 0, .any, .any, .any, I i, .bool us, I g, .any, .any, .any, .any, .any, .any, .any, .any, .any, .any, .any, .any, .any, .any, .any, .any, .any, .any, .any, .any, .any, .any, .any, .any, .any, .any, .any, .any, .any, .any, .any, .any, .any, .any, .any, .any, .any, .any, .any, .any, .any, .any, .any, .any, .any, .any, .any, .any, .any, .any, .any, .any, .any, .any, .any, .any, .any, .any, .any, .any, .any, .any, .any, .any, .any, .any, .any, .any, .any, .any, .any, .any, .any], [some (.row 3 [[I s.mach, c, t]]), some (.row 4 [[encV b1.order, I b1.sum, I b1.last, .bool b1.found]]), some (.row 4 [[.nils, I 0, I 0, .bool false]])]⟩) ?_ (now.length - 0) _ ⟨0, 0, false, rfl, rfl, Nat.zero_le _, by simp, by simp⟩
   rintro m2 σ ⟨p, g, us, hgp, rfl, hpl, hus, rfl⟩
   refine zS ?_
   refine zS ?_
   refine zR (zO (by simp [zC h26, callF_eff h31 rfl, ↓orc_nil, dropE, onlyJ, -lenA, zI, bA, HH1, hi0, htn, hk0, hwi]; rfl) ?_)
   simp only [zT, zB]
   refine runs_cond_split (x := decide (g < (now.length : Int))) (by simp) (fun hlt3 => ?_) (fun hlt3 => ?_)
   ·have hlt3 := of_decide_eq_true hlt3
    have hp0 : p < now.length := by omega
    have hg0 : 0 ≤ g := by omega
    have hgn : g.toNat = p := by omega
    have hgi : g < (now.length : Int) := by omega
    have hwg : W .i64 (g + 1) = g + 1 := W_small (by omega)
    have hms := mem_take_succ hp0 i
    rw [← hus] at hms
    have hnn : now ≠ [] := by intro e; rw [e] at hp0; simp at hp0
    have hvl := encV_ne hnn
    have ge1 : (now.map rI)[p]? = some [I now[p]] := by rw [List.getElem?_map, List.getElem?_eq_getElem hp0]; rfl
    have ge2 : ∀ (h : p < (now.map rI).length), (now.map rI)[p]'h = [I now[p]] := fun h => by rw [List.getElem_map]; rfl
    generalize hX : now[p] = X at *
    rw [hvl]
    rcases us with _ | _
    ·rw [Bool.false_or] at hms
     by_cases hXi : X = i
     ·have hXb : (X == i) = true := by simp [hXi]
      rw [decide_eq_true hXi] at hms
      have HH5 := zA hi0 (zA htn (zA hk0 (zA hwi (zA hp0 (zA hg0 (zA hgn (zA hgi (zA hwg (zA ge1 (zA ge2 (zA hX hXb)))))))))))
      refine zK ?_
      simp only [zT, zB]
      refine zS ?_
      refine zL ?_
      refine zR (zO (by simp [zC h26, callF_eff h31 rfl, ↓orc_nil, dropE, onlyJ, -lenA, zI, bA, HH1, -List.getElem?_map, -List.getElem_map, HH5]; rfl) ?_)
      simp only [zT, zB]
      refine zR (zO (by simp [zC h26, callF_eff h31 rfl, ↓orc_nil, dropE, onlyJ, -lenA, zI, bA, HH1, -List.getElem?_map, -List.getElem_map, HH5]; rfl) ?_)
      simp only [zT, zB]
      exact ⟨now.length - (p + 1), by omega, p + 1, g + 1, true, by omega, rfl, by omega, hms.symm, by simp [trim, hvl, zC h26, callF_eff h31 rfl, ↓orc_nil, dropE, onlyJ, -lenA, zI, bA, HH1, -List.getElem?_map, -List.getElem_map, HH5]⟩
     ·have hXb : (X == i) = false := by simp [hXi]
      rw [decide_eq_false hXi] at hms
      have HH6 := zA hi0 (zA htn (zA hk0 (zA hwi (zA hp0 (zA hg0 (zA hgn (zA hgi (zA hwg (zA ge1 (zA ge2 (zA hX hXb)))))))))))
      refine zK ?_
      simp only [zT, zB]
      refine zS ?_
      refine zL ?_
      refine zR (zO (by simp [zC h26, callF_eff h31 rfl, ↓orc_nil, dropE, onlyJ, -lenA, zI, bA, HH1, -List.getElem?_map, -List.getElem_map, HH6]; rfl) ?_)
      simp only [zT, zB]
      refine zR (zO (by simp [zC h26, callF_eff h31 rfl, ↓orc_nil, dropE, onlyJ, -lenA, zI, bA, HH1, -List.getElem?_map, -List.getElem_map, HH6]; rfl) ?_)
      simp only [zT, zB]
      exact ⟨now.length - (p + 1), by omega, p + 1, g + 1, false, by omega, rfl, by omega, hms.symm, by simp [trim, hvl, zC h26, callF_eff h31 rfl, ↓orc_nil, dropE, onlyJ, -lenA, zI, bA, HH1, -List.getElem?_map, -List.getElem_map, HH6]⟩
    ·rw [Bool.true_or] at hms
     have HH7 := zA hi0 (zA htn (zA hk0 (zA hwi (zA hp0 (zA hg0 (zA hgn (zA hgi (zA hwg (zA ge1 (zA ge2 hX))))))))))
     refine zK ?_
     simp only [zT, zB]
     refine zS ?_
     refine zL ?_
     refine zR (zO (by simp [zC h26, callF_eff h31 rfl, ↓orc_nil, dropE, onlyJ, -lenA, zI, bA, HH1, -List.getElem?_map, -List.getElem_map, HH7]; rfl) ?_)
     simp only [zT, zB]
     refine zR (zO (by simp [zC h26, callF_eff h31 rfl, ↓orc_nil, dropE, onlyJ, -lenA, zI, bA, HH1, -List.getElem?_map, -List.getElem_map, HH7]; rfl) ?_)
     simp only [zT, zB]
     exact ⟨now.length - (p + 1), by omega, p + 1, g + 1, true, by omega, rfl, by omega, hms.symm, by simp [trim, hvl, zC h26, callF_eff h31 rfl, ↓orc_nil, dropE, onlyJ, -lenA, zI, bA, HH1, -List.getElem?_map, -List.getElem_map, HH7]⟩
   ·have hlt3 := of_decide_eq_false hlt3
    have hpe : p = now.length := by omega
    subst hpe
    rw [List.take_length] at hus
    refine runs_exit ?_
    simp only [zT, zB, if_true, if_false, reduceIte, Nat.reduceEqDiff, Nat.succ_ne_zero, Nat.one_ne_zero, Nat.zero_ne_one]
    refine zS ?_
    refine zR (zO (by simp [zC h26, callF_eff h31 rfl, ↓orc_nil, dropE, onlyJ, -lenA, zI, bA, HH1, hi0, htn, hk0, hwi]; rfl) ?_)
    simp only [zT, zB]
    rcases us with _ | _
    ·have hm : ¬ (k : Int) ∈ now := by rw [← hik]; exact of_decide_eq_false hus.symm
     have hS : findS s js d now b1 k = findF s js d (now ++ [(k : Int)]) b1 := by unfold findS; rw [if_neg hm]
     have hnw2 := hnw.snoc hk0 hm
     have hFk : FindOk D s js (now ++ [(k : Int)]) (encV (now ++ [(k : Int)])) (encV b1.order) b1.order :=
      ⟨hsh, by have := hnw2.len; omega, by rw [show js.length - (now ++ [(k : Int)]).length = d by have := hnw2.len; omega]; exact hnw2, rfl, rfl⟩
     have hfd := spFind_eq hc ht hj hFk
     rw [show js.length - (now ++ [(k : Int)]).length = d by have := hnw2.len; omega, encV_ne (by simp), ← hik] at hfd
     simp only [bA] at hfd
     rw [hS, ← hik] at hb2
     generalize findF s js d (now ++ [i]) b1 = b2 at *
     refine runs_cond (x := true) (by simp) ?_
     by_cases hn0 : now = []
     ·subst hn0
      have hap : [[I i]] = ([] ++ [i] : List Int).map rI := rfl
      simp only [List.nil_append, List.map_cons, List.map_nil, zI] at hfd
      have hz : encV ([] : List Int) = .nils := rfl
      have HH8 := zA hi0 (zA htn (zA hk0 (zA hwi (zA hfd hz))))
      refine runs_drw (by simp (maxSteps := 3000000) [zC h26, callF_eff h31 rfl, ↓orc_nil, dropE, onlyJ, -lenA, zI, bA, HH1, HH8]; rfl) ?_
      simp only [zT, zB]
      refine zR (zO (by simp [zC h26, callF_eff h31 rfl, ↓orc_nil, dropE, onlyJ, -lenA, zI, bA, HH1, HH8]; rfl) ?_)
      simp only [zT, zB]
      exact ⟨js.length - (k + 1), by omega, k + 1, i + 1, b2, by omega, rfl, by omega, hb2.symm, by simp [trim, zC h26, callF_eff h31 rfl, ↓orc_nil, dropE, onlyJ, -lenA, zI, bA, HH1, HH8]⟩
     ·have hvl := encV_ne hn0
      have hnx : now.map rI ++ [[I i]] = (now ++ [i]).map rI := by rw [List.map_append]; rfl
      have hnl : (now ++ [i]).length = now.length + 1 := by simp
      generalize now ++ [i] = nx at *
      have tk1 : (now.map rI).take now.length = now.map rI := List.take_of_length_le (by simp)
      have tk2 : (nx.map rI).take (now.length + 1) = nx.map rI := List.take_of_length_le (by simp [hnl])
      have cl1 : ((now.map rI).all fun r => r.length == 1) = true := by simp [rI]
      have cl2 : ((now.map rI).all fun r => r.all storable) = true := by simp [rI]
      have hn48 : now.length + 1 ≤ 1048576 := by omega
      have hn49 : now.length ≤ 1048576 := by omega
      have hn47 : now.length ≤ 1048575 := by omega
      have fz1 := fun nv H d => frz_mapI nv H d nx
      have rb1 := fun n => rI_rb n 4 nx
      have rb2 := fun n => rI_rb n 4 now
      have hl0 : ¬ now.length = 0 := fun e => hn0 (List.eq_nil_of_length_eq_zero e)
      rw [hvl]
      have HH9 := zA hi0 (zA htn (zA hk0 (zA hwi (zA hfd (zA hn48 (zA hn49 (zA hn47 (zA hl0 (zA hnl hn0)))))))))
      have HH10 := zA hnx (zA tk1 (zA tk2 (zA cl1 (zA cl2 (zA fz1 rb2)))))
      refine runs_drw (by simp (maxSteps := 3000000) [zC h26, callF_eff h31 rfl, ↓orc_nil, dropE, onlyJ, -lenA, zI, bA, HH1, ↓rb1, HH9, ↓HH10]; rfl) ?_
      simp only [zT, zB]
      refine zR (zO (by simp [zC h26, callF_eff h31 rfl, ↓orc_nil, dropE, onlyJ, -lenA, zI, bA, HH1, ↓rb1, HH9, ↓HH10]; rfl) ?_)
      simp only [zT, zB]
      exact ⟨js.length - (k + 1), by omega, k + 1, i + 1, b2, by omega, rfl, by omega, hb2.symm, by simp [trim, hvl, zC h26, callF_eff h31 rfl, ↓orc_nil, dropE, onlyJ, -lenA, zI, bA, HH1, ↓rb1, HH9, ↓HH10]⟩
    ·have hm : (k : Int) ∈ now := by rw [← hik]; exact of_decide_eq_true hus.symm
     have hS : findS s js d now b1 k = b1 := by unfold findS; rw [if_pos hm]
     refine runs_cond (x := false) (by simp) ?_
     refine zK ?_
     simp only [zT, zB]
     refine zR (zO (by simp [zC h26, callF_eff h31 rfl, ↓orc_nil, dropE, onlyJ, -lenA, zI, bA, HH1, hi0, htn, hk0, hwi]; rfl) ?_)
     simp only [zT, zB]
     exact ⟨js.length - (k + 1), by omega, k + 1, i + 1, b1, by omega, rfl, by omega, by rw [hb2, hS], by simp [trim, zC h26, callF_eff h31 rfl, ↓orc_nil, dropE, onlyJ, -lenA, zI, bA, HH1, hi0, htn, hk0, hwi]⟩
  ·have hlt2 := of_decide_eq_false hlt2
   have hkE : k = js.length := by omega
   subst hkE
   rw [← hb1]
   refine runs_exit ?_
   simp only [zT, zB, if_true, if_false, reduceIte, Nat.reduceEqDiff, Nat.succ_ne_zero, Nat.one_ne_zero, Nat.zero_ne_one]
   refine zS ?_
   refine zR (zO (by simp [zC h26, callF_eff h31 rfl, ↓orc_nil, dropE, onlyJ, -lenA, zI, bA, HH1]; rfl) ?_)
   simp only [zT, zB]
   refine runs_ret ?_
   simp [zC h26, callF_eff h31 rfl, ↓orc_nil, dropE, onlyJ, -lenA, zI, bA, HH1, trim]
theorem FindOk.up {D : Nat} {s : FShop} {js : List FJob} {now nv bv bo} (h : FindOk (D + 1) s js now nv bv bo) (hd : js.length - now.length < D) : FindOk D s js now nv bv bo := ⟨h.ok, hd, h.nw, h.nv, h.bv⟩
noncomputable def BD0 : Nat → Option CFn := upd FRL 31 false (fun _ => none)
theorem BD0_ok : TabOk Tryz.prog GG BD0 := tab_add mixed FRL_ok fun args v ho => by simp at ho
theorem find_good : ∀ (D : Nat) (args : List AVal) (v : AVal), spFind D args = some v → OrcGood Tryz.prog GG false 31 args v
  | 0, args, v, ho => by
    unfold spFind at ho
    split at ho <;> (try simp only [reduceCtorEq] at ho)
    split at ho <;> (try simp only [reduceCtorEq] at ho)
    split at ho <;> (try simp only [reduceCtorEq] at ho)
    rename_i hg
    exact absurd hg.lt (Nat.not_lt_zero _)
  | D + 1, args, v, ho => by
    unfold spFind at ho
    split at ho <;> (try simp only [reduceCtorEq] at ho)
    rename_i m c t j nv bv bs be fo
    split at ho <;> (try simp only [reduceCtorEq] at ho)
    rename_i cs ts js now bo hc ht hj hn hb
    split at ho <;> (try simp only [reduceCtorEq] at ho)
    rename_i hg
    simp only [Option.some.injEq] at ho
    subst ho
    obtain rfl := hg.nv
    obtain rfl := hg.bv
    by_cases hl : js.length - now.length < D
    · exact find_good D _ _ (spFind_eq (s := ⟨m, cs, ts⟩) (b := ⟨bo, bs, be, fo⟩) hc ht hj (hg.up hl))
    · have hlv : js.length - now.length = D := by have := hg.lt; omega
      have hn0 : spFind D [.agg [I m, c, t], j, encV now, bA ⟨bo, bs, be, fo⟩] = none := by
        simp only [spFind, bA, hc, ht, hj, hn, hb]
        rw [if_neg fun h => by have := h.lt; omega]
      have hd0 : dropE (spFind D) [.agg [I m, c, t], j, encV now, bA ⟨bo, bs, be, fo⟩] [] = none := by
        have f1 := fun H d => dInts2_frz hc H d
        have f2 := fun H d => dStops_frz ht H d
        have f3 := fun H d => dJobs_frz hj H d
        have f4 := fun H d => dInts_frz hn H d
        have f5 := fun H d => dInts_frz hb H d
        unfold dropE
        split
        · rename_i ass e
          have ha : ass = [.agg [I m, c, t], j, encV now, bA ⟨bo, bs, be, fo⟩] := by
            simp [bA, f1, f2, f3, f4, f5] at e
            exact e.symm
          rw [ha, hn0]
        · rfl
      exact orc_of mixed (tab_drop BD0_ok (f := 31) (sp := spFind D) (find_good D)) (a31 Tryz.prog (updE BD0 31 (dropE (spFind D))) D rfl rfl ⟨m, cs, ts⟩ js c t j hc ht hj now ⟨bo, bs, be, fo⟩ hg hlv hd0)
end
section
attribute [local simp] callA calleeA lop loud rbB_none rbB_row
def oSumR : List AVal → Option AVal := oSum
theorem sumR_eq {v : AVal} {xs : List Int} (h : dInts v = some xs) (hg : xs.length ≤ 100 ∧ ∀ x ∈ xs, 0 ≤ x ∧ x ≤ 10000) : oSumR [v] = some (I (sumI xs)) := sum_eq h hg
theorem a73 (P : Program) (T : Nat → Option CFn) (hT : T 73 = some c73) (v : AVal) (xs : List Int) (hv : dInts v = some xs) (hg : xs.length ≤ 100 ∧ ∀ x ∈ xs, 0 ≤ x ∧ x ≤ 10000) : Answers P T 73 [v] [] fun v h => frz true h 5 v = some (I (sumI xs)) := by
 have fv := fun H d => dInts_frz hv H d
 have rv := fun n d => dInts_rb hv n d
 have lv := dInts_len hv
 obtain ⟨cv1, cv2⟩ := dInts_cells hv
 refine answers_of hT (orcF_none rfl) ?_
 simp only [oo, om, op, og, ci, cl, c73]
 have HH1 := zA fv (zA rv (zA lv (zA cv1 cv2)))
 refine zS ?_
 refine zR (zO (by simp [-lenA, sumI, HH1]; rfl) ?_)
 simp only [zT, zB]
 refine zS ?_
 refine zR (zO (by simp [-lenA, sumI, HH1]; rfl) ?_)
 simp only [zT, zB]
 refine zS ?_
 refine zS ?_
 refine zR (zO (by simp [-lenA, sumI, HH1]; rfl) ?_)
 simp only [zT, zB]
 refine zL ?_
 refine runs_loop_inv (fun m σ => ∃ (k : Nat) (i : Int), i = k ∧ xs.length - k = m ∧ k ≤ xs.length ∧ σ = ⟨[v, .any, .any, I (sumI (xs.take k)), I i, .any, .any, .any, .any, .any, .any, .any, .any, .any, .any, .any, .any, .any], []⟩) ?_ (xs.length - 0) _ ⟨0, 0, rfl, rfl, Nat.zero_le _, by simp [sumI_nil]⟩
 rintro m σ ⟨k, i, hik, rfl, hkl, rfl⟩
 refine zS ?_
 refine zS ?_
 refine zR (zO (by simp [-lenA, sumI, HH1]; rfl) ?_)
 simp only [zT, zB]
 refine runs_cond_split (x := decide (i < (xs.length : Int))) (by simp) (fun hlt => ?_) (fun hlt => ?_)
 ·have hlt := of_decide_eq_true hlt
  have hk0 : k < xs.length := by omega
  obtain ⟨tt, rfl⟩ := dInts_get hv hk0
  have h0 : 0 ≤ i := by omega
  have htn : i.toNat = k := by omega
  have hwi : W .i64 (i + 1) = i + 1 := W_small (by omega)
  have hs1 := sumI_bd (xs.take k) fun y hy => hg.2 y (List.mem_of_mem_take hy)
  have hs2 : (((xs.take k).length : Nat) : Int) ≤ 100 := by rw [List.length_take]; omega
  have hx := hg.2 _ (List.getElem_mem hk0)
  have hws : W .i64 (sumI (xs.take k) + xs[k]) = sumI (xs.take k) + xs[k] := W_fit (by omega)
  have hsx := sumI_take hk0
  have HH2 := zA h0 (zA htn (zA hk0 (zA hwi hws)))
  refine zK ?_
  simp only [zT, zB]
  refine zS ?_
  refine zL ?_
  refine zR (zO (by simp [-lenA, sumI, HH1, rI, HH2]; rfl) ?_)
  simp only [zT, zB]
  refine zR (zO (by simp [-lenA, sumI, HH1, rI, HH2]; rfl) ?_)
  simp only [zT, zB]
  exact ⟨xs.length - (k + 1), by omega, k + 1, i + 1, by omega, rfl, by omega, by simp [trim, rbB, hsx, -lenA, sumI, HH1, rI, HH2]⟩
 ·have hlt := of_decide_eq_false hlt
  obtain rfl : k = xs.length := by omega
  refine runs_exit ?_
  simp only [zT, zB, if_true, if_false, reduceIte, Nat.reduceEqDiff, Nat.succ_ne_zero, Nat.one_ne_zero, Nat.zero_ne_one]
  refine zS ?_
  refine zR (zO (by simp [-lenA, sumI, HH1]; rfl) ?_)
  simp only [zT, zB]
  refine runs_ret ?_
  simp [-lenA, sumI, HH1, List.take_length]
noncomputable def BE1 : Nat → Option CFn := upd FRL 73 true (oSumR)
theorem BE1_ok : TabOk Tryz.prog GG BE1 := tab_add mixed FRL_ok fun args v ho => by
  unfold oSumR oSum at ho; split at ho <;> (try simp only [reduceCtorEq] at ho)
  rename_i v
  split at ho <;> (try simp only [reduceCtorEq] at ho)
  rename_i xs hv
  split at ho <;> (try simp only [reduceCtorEq] at ho)
  rename_i hg
  simp only [Option.some.injEq] at ho
  subst ho
  exact a73 Tryz.prog FRL rfl v xs hv hg
def rI3 (js : List FJob) (k p : Nat) (b1 b2 b3 : Int) : Prop := (bAcc js k p = ⟨0, 0, 0, false⟩ ∧ b1 = 1099511627776 ∧ b2 = 1099511627776 ∧ b3 = 0) ∨ (bAcc js k p = ⟨b1, b2, b3, true⟩ ∧ 0 < b3)
theorem rI3_zero {js : List FJob} {k p : Nat} {b1 b2 b3 : Int} (h : rI3 js k p b1 b2 b3) (hz : minAt (jobAt js p) k = 0) : rI3 js k (p + 1) b1 b2 b3 := by
  have e : bAcc js k (p + 1) = bAcc js k p := by simp only [bAcc, bStep]; rw [if_pos hz]
  unfold rI3; rw [e]; exact h
theorem rI3_pos {js : List FJob} {k p : Nat} {b1 b2 b3 x y v : Int} (h : rI3 js k p b1 b2 b3) (hv : minAt (jobAt js p) k = v) (h0 : 0 < v) (hx : (jobAt js p).ready + sumI ((jobAt js p).mins.take k) = x) (hy : sumI ((jobAt js p).mins.drop (k + 1)) = y) (hxb : x ≤ 1000000) (hyb : y ≤ 1000000) : rI3 js k (p + 1) (min b1 x) (min b2 y) (b3 + v) := by
  have e : bAcc js k (p + 1) = bStep k (bAcc js k p) (jobAt js p) := rfl
  right
  rw [e]
  rcases h with ⟨h, rfl, rfl, rfl⟩ | ⟨h, h3⟩
  · rw [h]
    simp only [bStep, hv, hx, hy]
    rw [if_neg (by omega)]
    refine ⟨?_, by omega⟩
    simp only [Bool.false_eq_true, if_false, BAcc.mk.injEq, and_true]
    exact ⟨by omega, by omega⟩
  · rw [h]
    simp only [bStep, hv, hx, hy]
    rw [if_neg (by omega)]
    refine ⟨?_, by omega⟩
    simp only [if_true, BAcc.mk.injEq, and_true]
    exact ⟨by omega, by omega⟩
open Classical in
noncomputable def oBoundR : List AVal → Option AVal
  | [.agg [.int .i64 m, c, t], j] => match dInts2 c, dStops t, dJobs j with
    | some cs, some ts, some js => if ShopOk ⟨m, cs, ts⟩ js then some (I (boundF ⟨m, cs, ts⟩ js)) else none
    | _, _, _ => none
  | _ => none
theorem boundR_eq {s : FShop} {js : List FJob} {c t j : AVal} (hc : dInts2 c = some s.chg) (ht : dStops t = some s.stops) (hj : dJobs j = some js) (h : ShopOk s js) : oBoundR [.agg [I s.mach, c, t], j] = some (I (boundF s js)) := by
  simp only [oBoundR, hc, ht, hj]
  rw [if_pos h]
theorem a32 (P : Program) (T : Nat → Option CFn) (hT : T 32 = some c32) (h73 : T 73 = some { c73 with frsh := true, orc := oSumR }) (s : FShop) (js : List FJob) (c t j : AVal) (hc : dInts2 c = some s.chg) (ht : dStops t = some s.stops) (hj : dJobs j = some js) (hsh : ShopOk s js) : Answers P T 32 [.agg [I s.mach, c, t], j] [] fun v h => frz true h 5 v = some (I (boundF s js)) := by
 have fc := fun H d => dInts2_frz hc H d
 have ft := fun H d => dStops_frz ht H d
 have fj := fun H d => dJobs_frz hj H d
 have rc := fun n d => dInts2_rb hc n d
 have rt := fun n d => dStops_rb ht n d
 have rj := fun n d => dJobs_rb hj n d
 have lc := dInts2_len hc
 have lt := dStops_len ht
 have lj := dJobs_len hj
 obtain ⟨cc1, cc2⟩ := dInts2_cells hc
 obtain ⟨ct1, ct2⟩ := dStops_cells ht
 obtain ⟨cj1, cj2⟩ := dJobs_cells hj
 have hn6 : js.length ≤ 6 := hsh.njob
 have hm4 := hsh.mach
 refine answers_of hT (orcF_none rfl) ?_
 simp only [oo, om, op, og, ci, cl, c32]
 have HH1 := zA h73 (zA fc (zA ft (zA fj (zA rc (zA rt (zA rj (zA lc (zA lt (zA lj (zA cc1 (zA cc2 (zA ct1 (zA ct2 (zA cj1 cj2))))))))))))))
 refine zS ?_
 refine zR (zO (by simp [zC h73, -lenA, HH1]; rfl) ?_)
 simp only [zT, zB]
 refine zS ?_
 refine zR (zO (by simp [zC h73, -lenA, HH1]; rfl) ?_)
 simp only [zT, zB]
 refine zS ?_
 refine zS ?_
 refine zR (zO (by simp [zC h73, -lenA, HH1]; rfl) ?_)
 simp only [zT, zB]
 refine zL ?_
 refine runs_loop_inv (fun m σ => ∃ (k : Nat) (i : Int), i = k ∧ js.length - k = m ∧ k ≤ js.length ∧ σ = ⟨[.any, j, .ref 0 0 0, .any, .any, I (bnd1 js k), I i, .any, .any, .any, .any, .any, .any, .any, .any, .any, .any, .any, .any, .any, .any, .any, .any, .any, .any, .any, .any, .any, .any, .any, .any, .any, .any, .any, .any, .any, .any, .any, .any, .any, .any, .any, .any, .any, .any, .any, .any, .any, .any, .any, .any, .any, .any, .any, .any, .any, .any, .any, .any, .any, .any, .any, .any, .any, .any, .any, .any, .any, .any, .any, .any, .any, .any, .any, .any, .any, .any, .any, .any, .any, .any, .any, .any, .any, .any, .any, .any, .any, .any, .any], [some (.row 3 [[I s.mach, c, t]])]⟩) ?_ (js.length - 0) _ ⟨0, 0, rfl, rfl, Nat.zero_le _, by simp [bnd1]⟩
 rintro m σ ⟨k, i, hik, rfl, hkl, rfl⟩
 refine zS ?_
 refine zS ?_
 refine zR (zO (by simp [zC h73, -lenA, HH1]; rfl) ?_)
 simp only [zT, zB]
 refine runs_cond_split (x := decide (i < (js.length : Int))) (by simp) (fun hlt => ?_) (fun hlt => ?_)
 ·have hlt := of_decide_eq_true hlt
  have hk0 : k < js.length := by omega
  have hi0 : 0 ≤ i := by omega
  have htn : i.toNat = k := by omega
  have hwi : W .i64 (i + 1) = i + 1 := W_small (by omega)
  obtain ⟨rs, tj, wv, rfl, hr1, hr2, hwv⟩ := dJobs_get hj hk0
  have hkr : k < rs.length := by omega
  have hr4 : ∀ h, rs[k]'h = [I js[k].kind, I js[k].ready, I js[k].due, wv] := fun h => by rw [List.getElem?_eq_getElem h] at hr2; exact Option.some.inj hr2
  have rw5 := fun n d => dInts_rb hwv n d
  have fw5 := fun H d => dInts_frz hwv H d
  obtain ⟨cw1, cw2⟩ := dInts_cells hwv
  have hjb := hsh.job _ (List.getElem_mem hk0)
  have hs4 := sum4 hsh (List.getElem_mem hk0) (l := js[k].mins) (fun _ h => h) (Nat.le_refl _)
  have hsu := sumR_eq hwv ⟨hs4.1, hs4.2.1⟩
  have hw1 : W .i64 (js[k].ready + sumI js[k].mins) = js[k].ready + sumI js[k].mins := W_fit (by omega)
  have hst : bnd1 js (k + 1) = max (bnd1 js k) (js[k].ready + sumI js[k].mins) := by simp only [bnd1, jobAt_eq hk0]
  have HH2 := zA hi0 (zA htn (zA hk0 (zA hwi (zA hsu (zA hw1 (zA hkr (zA hr2 (zA hr4 (zA rw5 (zA fw5 (zA cw1 cw2)))))))))))
  refine zK ?_
  simp only [zT, zB]
  refine zS ?_
  refine zL ?_
  refine runs_drw (by simp (maxSteps := 3000000) [zC h73, -lenA, HH1, zI, HH2]; rfl) ?_
  simp only [zT, zB]
  refine zR (zO (by simp [zC h73, -lenA, HH1, zI, HH2]; rfl) ?_)
  simp only [zT, zB]
  exact ⟨js.length - (k + 1), by omega, k + 1, i + 1, by omega, rfl, by omega, by simp [trim, hst, zC h73, -lenA, HH1, zI, HH2]⟩
 ·have hlt := of_decide_eq_false hlt
  obtain rfl : k = js.length := by omega
  refine runs_exit ?_
  simp only [zT, zB, if_true, if_false, reduceIte, Nat.reduceEqDiff, Nat.succ_ne_zero, Nat.one_ne_zero, Nat.zero_ne_one]
  refine zS ?_
  refine zS ?_
  refine zR (zO (by simp [zC h73, -lenA, HH1]; rfl) ?_)
  simp only [zT, zB]
  refine zL ?_
  refine runs_loop_inv (fun m σ => ∃ (k : Nat) (i : Int), i = k ∧ s.mach.toNat - k = m ∧ (k : Int) ≤ s.mach ∧ σ = ⟨[.any, j, .ref 0 0 0, .any, .any, I (bnd2 js k), .any, I i, .any, .any, .any, .any, .any, .any, .any, .any, .any, .any, .any, .any, .any, .any, .any, .any, .any, .any, .any, .any, .any, .any, .any, .any, .any, .any, .any, .any, .any, .any, .any, .any, .any, .any, .any, .any, .any, .any, .any, .any, .any, .any, .any, .any, .any, .any, .any, .any, .any, .any, .any, .any, .any, .any, .any, .any, .any, .any, .any, .any, .any, .any, .any, .any, .any, .any, .any, .any, .any, .any, .any, .any, .any, .any, .any, .any, .any, .any, .any, .any, .any, .any], [some (.row 3 [[I s.mach, c, t]])]⟩) ?_ (s.mach.toNat - 0) _ ⟨0, 0, rfl, rfl, by omega, by simp [bnd2]⟩
  rintro m σ ⟨k, i, hik2, rfl, hkm, rfl⟩
  refine zS ?_
  refine zS ?_
  refine zR (zO (by simp [zC h73, -lenA, HH1]; rfl) ?_)
  simp only [zT, zB]
  refine runs_cond_split (x := decide (i < s.mach)) (by simp) (fun hlt2 => ?_) (fun hlt2 => ?_)
  ·have hlt2 := of_decide_eq_true hlt2
   have hwi2 : W .i64 (i + 1) = i + 1 := W_small (by omega)
   have hi2 : 0 ≤ i := by omega
   have htn2 : i.toNat = k := by omega
   have hb2d := bnd2_bd hsh k
   refine zK ?_
   simp only [zT, zB]
   refine zS ?_
   refine zL ?_
   refine zS ?_
   refine zR (zO (by simp [zC h73, -lenA, HH1, hwi2, hi2, htn2]; rfl) ?_)
   simp only [zT, zB]
   refine zS ?_
   refine zS ?_
   refine zR (zO (by simp [zC h73, -lenA, HH1, hwi2, hi2, htn2]; rfl) ?_)
   simp only [zT, zB]
   refine zL ?_
   refine runs_loop_inv (fun m2 σ => ∃ (p : Nat) (q b1 b2 b3 : Int), q = p ∧ js.length - p = m2 ∧ p ≤ js.length ∧ rI3 js k p b1 b2 b3 ∧ σ = ⟨[.any, j, .ref 0 0 0, .any, .any, I (bnd2 js k), .any, I i, I b1, I b2, I b3, I q, .any, .any, .any, .any, .any, .any, .any, .any, .any, .any, .any, .any, .any, .any, .any, .any, .any, .any, .any, .any, .any, .any, .any, .any, .any, .any, .any, .any, .any, .any, .any, .any, .any, .any, .any, .any, .any, .any, .any, .any, .any, .any, .any, .any, .any, .any, .any, .any, .any, .any, .any, .any, .any, .any, .any, .any, .any, .any, .any, .any, .any, .any, .any, .any, .any, .any, .any, .any, .any, .any, .any, .any, .any, .any, .any, .any, .any, .any], [some (.row 3 [[I s.mach, c, t]])]⟩) ?_ (js.length - 0) _ ⟨0, 0, 1099511627776, 1099511627776, 0, rfl, rfl, Nat.zero_le _, .inl ⟨rfl, rfl, rfl, rfl⟩, by simp⟩
   rintro m2 σ ⟨p, q, b1, b2, b3, hqp, rfl, hpl, hA, rfl⟩
   refine zS ?_
   refine zS ?_
   refine zR (zO (by simp [zC h73, -lenA, HH1, hwi2, hi2, htn2]; rfl) ?_)
   simp only [zT, zB]
   refine runs_cond_split (x := decide (q < (js.length : Int))) (by simp) (fun hlt3 => ?_) (fun hlt3 => ?_)
   ·have hlt3 := of_decide_eq_true hlt3
    have hp0 : p < js.length := by omega
    have hq0 : 0 ≤ q := by omega
    have htq : q.toNat = p := by omega
    have hwq : W .i64 (q + 1) = q + 1 := W_small (by omega)
    obtain ⟨rs, tj, wv, rfl, hr1, hr2, hwv⟩ := dJobs_get hj hp0
    have hpr : p < rs.length := by omega
    have hr4 : ∀ h, rs[p]'h = [I js[p].kind, I js[p].ready, I js[p].due, wv] := fun h => by rw [List.getElem?_eq_getElem h] at hr2; exact Option.some.inj hr2
    have rw5 := fun n d => dInts_rb hwv n d
    have fw5 := fun H d => dInts_frz hwv H d
    obtain ⟨cw1, cw2⟩ := dInts_cells hwv
    have hjb := hsh.job _ (List.getElem_mem hp0)
    have hkl : k < js[p].mins.length := by omega
    obtain ⟨tw, rfl⟩ := dInts_get hwv hkl
    have hbo := bAcc_ok hsh k p hpl
    have hs4 := sum4 hsh (List.getElem_mem hp0) (l := js[p].mins.take k) (fun _ h => List.mem_of_mem_take h) (by rw [List.length_take]; omega)
    have hs5 := sum4 hsh (List.getElem_mem hp0) (l := js[p].mins.drop (k + 1)) (fun _ h => List.mem_of_mem_drop h) (by rw [List.length_drop]; omega)
    have hsu := fun t' => sumR_eq (dInts_vl (js[p].mins.take k) t') ⟨hs4.1, hs4.2.1⟩
    have hsv := fun t' => sumR_eq (dInts_vl (js[p].mins.drop (k + 1)) t') ⟨hs5.1, hs5.2.1⟩
    have hmk := hjb.2.2.2.2 _ (List.getElem_mem hkl)
    have hJ := jobAt_eq hp0
    have hM : minAt (jobAt js p) k = js[p].mins[k] := by rw [hJ, minAt_eq hkl]
    have hpos := fun (h0 : 0 < js[p].mins[k]) => rI3_pos hA hM h0 (show (jobAt js p).ready + sumI ((jobAt js p).mins.take k) = js[p].ready + sumI (js[p].mins.take k) by rw [hJ]) (show sumI ((jobAt js p).mins.drop (k + 1)) = sumI (js[p].mins.drop (k + 1)) by rw [hJ]) (by omega) (by omega)
    have hb3 : 0 ≤ b3 ∧ b3 ≤ 100000 := by
     have := hbo.all
     rcases hA with ⟨_, _, _, h⟩ | ⟨h, h2⟩
     ·omega
     ·rw [h] at this; simp only at this; omega
    have hge1 : (js[p].mins.map rI)[k]? = some [I js[p].mins[k]] := by rw [List.getElem?_map, List.getElem?_eq_getElem hkl]; rfl
    have hge2 : ∀ (h : k < (js[p].mins.map rI).length), (js[p].mins.map rI)[k]'h = [I js[p].mins[k]] := fun h => by rw [List.getElem_map]; rfl
    generalize hV : js[p].mins[k] = V at *
    generalize hS1 : sumI (js[p].mins.take k) = S1 at *
    generalize hS2 : sumI (js[p].mins.drop (k + 1)) = S2 at *
    have hw1 : W .i64 (js[p].ready + S1) = js[p].ready + S1 := W_fit (by omega)
    have hw2 : W .i64 (b3 + V) = b3 + V := W_fit (by omega)
    have hil : i ≤ (js[p].mins.length : Int) := by omega
    have hil2 : i + 1 ≤ (js[p].mins.length : Int) := by omega
    have htn3 : (i + 1).toNat = k + 1 := by omega
    have hi3 : 0 ≤ i + 1 := by omega
    have hkl1 : k ≤ js[p].mins.length := by omega
    have hkl2 : k + 1 ≤ js[p].mins.length := by omega
    have hilt : i < (js[p].mins.length : Int) := by omega
    have htk2 : ((js[p].mins.map rI).drop (k + 1)).take (js[p].mins.length - (k + 1)) = (js[p].mins.drop (k + 1)).map rI := by rw [List.map_drop]; exact List.take_of_length_le (by simp)
    have htk1 : (js[p].mins.map rI).take k = (js[p].mins.take k).map rI := by rw [List.map_take]
    have htk3 : (js[p].mins.map rI).drop (k + 1) = (js[p].mins.drop (k + 1)).map rI := by rw [List.map_drop]
    have hrl : ((js[p].mins.map rI).all fun r => r.length == 1) = true := by simp [rI]
    have HH3 := zA hwi2 (zA hi2 (zA htn2 (zA hp0 (zA hq0 (zA htq (zA hwq (zA hsu (zA hsv (zA hw1 (zA hw2 (zA hV (zA hil (zA hil2 (zA htn3 (zA hi3 (zA hkl (zA hkl1 (zA hkl2 (zA hilt (zA hge1 (zA hge2 (zA hpr (zA hr2 (zA hr4 (zA rw5 (zA fw5 (zA cw1 cw2)))))))))))))))))))))))))))
    refine zK ?_
    simp only [zT, zB]
    refine zS ?_
    refine zL ?_
    refine zS ?_
    refine zR (zO (by simp [zC h73, -lenA, HH1, zI, -List.map_take, -List.map_drop, -List.getElem?_map, -List.getElem_map, ↓htk2, ↓htk1, ↓htk3, ↓hrl, evOpt, sliceA, bounds, hiB, bound, HH3]; rfl) ?_)
    simp only [zT, zB]
    refine zS ?_
    refine zR (zO (by simp [zC h73, -lenA, HH1, zI, -List.map_take, -List.map_drop, -List.getElem?_map, -List.getElem_map, ↓htk2, ↓htk1, ↓htk3, ↓hrl, evOpt, sliceA, bounds, hiB, bound, HH3]; rfl) ?_)
    simp only [zT, zB]
    refine runs_cond_split (x := decide (0 < V)) (by simp) (fun hz => ?_) (fun hz => ?_)
    ·have hz2 : 0 < V := of_decide_eq_true hz
     have hst := hpos hz2
     refine zS ?_
     refine runs_drw (by simp (maxSteps := 3000000) [zC h73, -lenA, HH1, zI, -List.map_take, -List.map_drop, -List.getElem?_map, -List.getElem_map, ↓htk2, ↓htk1, ↓htk3, ↓hrl, evOpt, sliceA, bounds, hiB, bound, HH3]; rfl) ?_
     simp only [zT, zB]
     refine zS ?_
     refine zR (zO (by simp [zC h73, -lenA, HH1, zI, -List.map_take, -List.map_drop, -List.getElem?_map, -List.getElem_map, ↓htk2, ↓htk1, ↓htk3, ↓hrl, evOpt, sliceA, bounds, hiB, bound, HH3]; rfl) ?_)
     simp only [zT, zB]
     refine zR (zO (by simp [zC h73, -lenA, HH1, zI, -List.map_take, -List.map_drop, -List.getElem?_map, -List.getElem_map, ↓htk2, ↓htk1, ↓htk3, ↓hrl, evOpt, sliceA, bounds, hiB, bound, HH3]; rfl) ?_)
     simp only [zT, zB]
     refine zR (zO (by simp [zC h73, -lenA, HH1, zI, -List.map_take, -List.map_drop, -List.getElem?_map, -List.getElem_map, ↓htk2, ↓htk1, ↓htk3, ↓hrl, evOpt, sliceA, bounds, hiB, bound, HH3]; rfl) ?_)
     simp only [zT, zB]
     exact ⟨js.length - (p + 1), by omega, p + 1, q + 1, _, _, _, by omega, rfl, by omega, hst, by simp [trim, zC h73, -lenA, HH1, zI, -List.map_take, -List.map_drop, -List.getElem?_map, -List.getElem_map, ↓htk2, ↓htk1, ↓htk3, ↓hrl, evOpt, sliceA, bounds, hiB, bound, HH3]⟩
    ·have hz2 : V = 0 := by have := of_decide_eq_false hz; omega
     have hst := rI3_zero hA (by rw [hM, hz2])
     refine zK ?_
     simp only [zT, zB]
     refine zR (zO (by simp [zC h73, -lenA, HH1, zI, -List.map_take, -List.map_drop, -List.getElem?_map, -List.getElem_map, ↓htk2, ↓htk1, ↓htk3, ↓hrl, evOpt, sliceA, bounds, hiB, bound, HH3]; rfl) ?_)
     simp only [zT, zB]
     exact ⟨js.length - (p + 1), by omega, p + 1, q + 1, b1, b2, b3, by omega, rfl, by omega, hst, by simp [trim, zC h73, -lenA, HH1, zI, -List.map_take, -List.map_drop, -List.getElem?_map, -List.getElem_map, ↓htk2, ↓htk1, ↓htk3, ↓hrl, evOpt, sliceA, bounds, hiB, bound, HH3]⟩
   ·have hlt3 := of_decide_eq_false hlt3
    have hpE : p = js.length := by omega
    subst hpE
    have hbo := bAcc_ok hsh k js.length (Nat.le_refl _)
    have hst : bnd2 js (k + 1) = max (bnd2 js k) ((bAcc js k js.length).bef + (bAcc js k js.length).all + (bAcc js k js.length).aft) := rfl
    obtain ⟨bo1, bo2, bo3⟩ := hbo
    refine runs_exit ?_
    simp only [zT, zB, if_true, if_false, reduceIte, Nat.reduceEqDiff, Nat.succ_ne_zero, Nat.one_ne_zero, Nat.zero_ne_one]
    refine zS ?_
    refine zR (zO (by simp [zC h73, -lenA, HH1, hwi2, hi2, htn2]; rfl) ?_)
    simp only [zT, zB]
    refine runs_cond_split (x := decide (0 < b3)) (by simp) (fun hz => ?_) (fun hz => ?_)
    ·have hz2 : 0 < b3 := of_decide_eq_true hz
     rcases hA with ⟨_, _, _, h⟩ | ⟨hA, _⟩
     ·omega
     rw [hA] at hst bo1 bo2 bo3
     simp only at hst bo1 bo2 bo3
     have hw1 : W .i64 (b1 + b3) = b1 + b3 := W_fit (by omega)
     have hw2 : W .i64 (b1 + b3 + b2) = b1 + b3 + b2 := W_fit (by omega)
     have HH4 := zA hwi2 (zA hi2 (zA htn2 (zA hw1 hw2)))
     refine zR (zO (by simp [zC h73, -lenA, HH1, HH4]; rfl) ?_)
     simp only [zT, zB]
     refine zR (zO (by simp [zC h73, -lenA, HH1, HH4]; rfl) ?_)
     simp only [zT, zB]
     exact ⟨s.mach.toNat - (k + 1), by omega, k + 1, i + 1, by omega, rfl, by omega, by simp [trim, hst, zC h73, -lenA, HH1, HH4]⟩
    ·have hz2 := of_decide_eq_false hz
     rcases hA with ⟨hA, _, _, h⟩ | ⟨_, h⟩
     case' inr => omega
     rw [hA] at hst
     simp only at hst
     have hst2 : bnd2 js (k + 1) = bnd2 js k := by rw [hst]; omega
     refine zK ?_
     simp only [zT, zB]
     refine zR (zO (by simp [zC h73, -lenA, HH1, hwi2, hi2, htn2]; rfl) ?_)
     simp only [zT, zB]
     exact ⟨s.mach.toNat - (k + 1), by omega, k + 1, i + 1, by omega, rfl, by omega, by simp [trim, hst2, zC h73, -lenA, HH1, hwi2, hi2, htn2]⟩
  ·have hlt2 := of_decide_eq_false hlt2
   have hkm2 : k = s.mach.toNat := by omega
   refine runs_exit ?_
   simp only [zT, zB, if_true, if_false, reduceIte, Nat.reduceEqDiff, Nat.succ_ne_zero, Nat.one_ne_zero, Nat.zero_ne_one]
   refine zS ?_
   refine zR (zO (by simp [zC h73, -lenA, HH1, boundF, hkm2]; rfl) ?_)
   simp only [zT, zB]
   refine runs_ret ?_
   simp [zC h73, -lenA, HH1, boundF, hkm2, trim]
noncomputable def BE2 : Nat → Option CFn := upd BE1 32 true (oBoundR)
theorem BE2_ok : TabOk Tryz.prog GG BE2 := tab_add mixed BE1_ok fun args v ho => by
  unfold oBoundR at ho; split at ho <;> (try simp only [reduceCtorEq] at ho)
  rename_i m c t j
  split at ho <;> (try simp only [reduceCtorEq] at ho)
  rename_i cs ts js hc ht hj
  split at ho <;> (try simp only [reduceCtorEq] at ho)
  rename_i hg
  simp only [Option.some.injEq] at ho
  subst ho
  exact a32 Tryz.prog BE1 rfl rfl ⟨m, cs, ts⟩ js c t j hc ht hj hg
end
section
attribute [local simp] callA calleeA lim lop loud
theorem find_len {s : FShop} {js : List FJob} : ∀ (d : Nat) (now : List Int) (b : FBest), NowOk js now d → b.order.length ≤ js.length → (findF s js d now b).order.length ≤ js.length
  | 0, now, b, hw, hb => by
    simp only [findF, betterB]
    split
    · have := hw.len; simp only; omega
    · exact hb
  | d + 1, now, b, hw, hb => by
    simp only [findF]
    refine foldl_inv (Q := fun (b : FBest) => b.order.length ≤ js.length) hb fun i hi b hb => ?_
    have hi := List.mem_range.1 hi
    split
    · exact hb
    · rename_i hn; exact find_len d _ b (hw.snoc hi hn) hb
theorem best_find {s : FShop} {js : List FJob} (h : ShopOk s js) : bestF s js = findF s js js.length [] bz := try_find h js.length [] bz (NowOk.nil js)
theorem best_good : ∀ args v, oBest args = some v → OrcGood Tryz.prog GG false 29 args v := tab_good (f := 29) (c := { c29 with frsh := false, orc := oBest }) BC2_ok rfl
theorem bound_good : ∀ args v, oBound args = some v → OrcGood Tryz.prog GG true 30 args v := tab_good (f := 30) (c := { c30 with frsh := true, orc := oBound }) FM_ok rfl
noncomputable def BF1 : Nat → Option CFn := upd BE2 29 false oBest
theorem BF1_ok : TabOk Tryz.prog GG BF1 := tab_upd BE2_ok best_good
noncomputable def BF2 : Nat → Option CFn := upd BF1 30 true oBound
theorem BF2_ok : TabOk Tryz.prog GG BF2 := tab_upd BF1_ok bound_good
noncomputable def BF : Nat → Option CFn := upd BF2 31 false (spFind 7)
theorem BF_ok : TabOk Tryz.prog GG BF := tab_upd BF2_ok (find_good 7)
theorem a4 (P : Program) (T : Nat → Option CFn) (hT : T 4 = some c4) (h14 : T 14 = some { c14 with frsh := true, orc := oLarge }) (h15 : T 15 = some { c15 with frsh := true, orc := oKn }) (h16 : T 16 = some { c16 with frsh := false, orc := oCopy }) (h17 : T 17 = some { c17 with frsh := false, orc := oJobs }) (h21 : T 21 = some { c21 with frsh := true, orc := oSame }) (h22 : T 22 = some { c22 with frsh := true, orc := oEqual }) (h23 : T 23 = some { c23 with frsh := true, orc := oIntsEq }) (h24 : T 24 = some { c24 with frsh := true, orc := oCheck }) (h29 : T 29 = some { c29 with frsh := false, orc := oBest }) (h30 : T 30 = some { c30 with frsh := true, orc := oBound }) (h31 : T 31 = some { c31 with frsh := false, orc := spFind 7 }) (h32 : T 32 = some { c32 with frsh := true, orc := oBoundR }) (s : FShop) (js : List FJob) (c t j : AVal) (hc : dInts2 c = some s.chg) (ht : dStops t = some s.stops) (hj : dJobs j = some js) : Answers P T 4 [.agg [I s.mach, c, t], j] [] fun v h => v = .bool true := by
 have fc := fun H d => dInts2_frz hc H d
 have ft := fun H d => dStops_frz ht H d
 have fj := fun H d => dJobs_frz hj H d
 have rc := fun n d => dInts2_rb hc n d
 have rt := fun n d => dStops_rb ht n d
 have rj := fun n d => dJobs_rb hj n d
 have lc := dInts2_len hc
 have lt := dStops_len ht
 have lj := dJobs_len hj
 obtain ⟨cc1, cc2⟩ := dInts2_cells hc
 obtain ⟨ct1, ct2⟩ := dStops_cells ht
 obtain ⟨cj1, cj2⟩ := dJobs_cells hj
 have hlg := large_eq hc ht hj 5
 refine answers_of hT (orcF_none rfl) ?_
 simp only [oo, om, op, og, ci, cl, c4]
 generalize hL : largeB s js 5 = bL at hlg
 rcases bL with _ | _
 ·have HH1 := zA h14 (zA h15 (zA h16 (zA h17 (zA h21 (zA h22 (zA h23 (zA h24 (zA h29 (zA h30 (zA h31 (zA h32 (zA fc (zA ft (zA fj (zA rc (zA rt (zA rj (zA lc (zA lt (zA lj (zA cc1 (zA cc2 (zA ct1 (zA ct2 (zA cj1 (zA cj2 hlg))))))))))))))))))))))))))
  refine zS ?_
  refine zR (zO (by simp [zC h14, zC h15, zC h16, zC h17, zC h21, zC h22, zC h23, zC h24, zC h29, zC h30, zC h31, zC h32, -lenA, oKn, HH1]; rfl) ?_)
  simp only [zT, zB]
  refine zS ?_
  refine zS ?_
  refine zR (zO (by simp [zC h14, zC h15, zC h16, zC h17, zC h21, zC h22, zC h23, zC h24, zC h29, zC h30, zC h31, zC h32, -lenA, oKn, HH1]; rfl) ?_)
  simp only [zT, zB]
  refine runs_cond (x := false) (by simp) ?_
  obtain ⟨hsz, hk1, hk2, _, hst20⟩ := large_no hL
  have hcopy := copy_eq (m := s.mach) hc ht hk1
  have hwork := jobs_eq hj hk2
  have hc2 := dInts2_encC s.chg
  have ht2 := dStops_encT s.stops
  have hj2 := dJobs_encJ js
  generalize encC s.chg = c2 at *
  generalize encT s.stops = t2 at *
  generalize encJ js = j2 at *
  have hck0 := check_eq hc ht hj hsz
  have hsame := same_eq (m := s.mach) hc2 ht2 hc ht hk1
  have heq := equal_eq hj2 hj hk2
  have hbest := best_eq hc2 ht2 hj2 hsz
  have hbnd := bound_eq hc2 ht2 hj2 hsz
  have fcc := fun H d => dInts2_frz hc2 H d
  have rcc := fun n d => dInts2_rb hc2 n d
  have lcc := dInts2_len hc2
  obtain ⟨ccc1, ccc2⟩ := dInts2_cells hc2
  have ftt := fun H d => dStops_frz ht2 H d
  have rtt := fun n d => dStops_rb ht2 n d
  have ltt := dStops_len ht2
  obtain ⟨ctt1, ctt2⟩ := dStops_cells ht2
  have fjj := fun H d => dJobs_frz hj2 H d
  have rjj := fun n d => dJobs_rb hj2 n d
  have ljj := dJobs_len hj2
  obtain ⟨cjj1, cjj2⟩ := dJobs_cells hj2
  by_cases h0 : shopE s js = 0
  ·have hsh := shop_ok h0
   have hn6 := hsh.njob
   have hbr := boundR_eq hc ht hj hsh
   have hFk : FindOk 7 s js [] (encV []) (encV bz.order) bz.order := ⟨hsh, by simp; omega, NowOk.nil js, rfl, rfl⟩
   have hfd := spFind_eq hc ht hj hFk
   rw [show js.length - ([] : List Int).length = js.length from rfl, ← best_find hsh] at hfd
   have hlen : (bestF s js).order.length ≤ js.length := by rw [best_find hsh]; exact find_len _ _ _ (NowOk.nil js) (Nat.zero_le _)
   have hbv : bestV s js = encV (bestF s js).order := by unfold bestV; rw [if_pos h0]
   rw [hbv, h0] at hbest
   rw [if_pos h0, h0] at hbnd
   generalize bestF s js = b at *
   generalize boundF s js = bd at *
   have hin := intsEq_eq (dInts_encV b.order) (dInts_encV b.order) (by omega)
   have feb := fun H d => dInts_frz (dInts_encV b.order) H d
   have reb := fun n d => dInts_rb (dInts_encV b.order) n d
   obtain ⟨ceb1, ceb2⟩ := dInts_cells (dInts_encV b.order)
   change spFind 7 [.agg [I s.mach, c, t], j, .nils, .agg [.nils, I 0, I 0, .bool false]] = some (.agg [encV b.order, I b.sum, I b.last, .bool b.found]) at hfd
   generalize encV b.order = bv at *
   have HH2 := zA hcopy (zA hwork (zA hck0 (zA hsame (zA heq (zA fcc (zA rcc (zA lcc (zA ccc1 (zA ccc2 (zA ftt (zA rtt (zA ltt (zA ctt1 (zA ctt2 (zA fjj (zA rjj (zA ljj (zA cjj1 (zA cjj2 (zA hbest (zA hbnd (zA h0 (zA hbr (zA hfd (zA hin (zA feb (zA reb (zA ceb1 ceb2))))))))))))))))))))))))))))
   refine zK ?_
   simp only [zT, zB]
   refine zS ?_
   refine zR (zO (by simp [zC h14, zC h15, zC h16, zC h17, zC h21, zC h22, zC h23, zC h24, zC h29, zC h30, zC h31, zC h32, -lenA, oKn, HH1, HH2]; rfl) ?_)
   simp only [zT, zB]
   refine zS ?_
   refine zR (zO (by simp [zC h14, zC h15, zC h16, zC h17, zC h21, zC h22, zC h23, zC h24, zC h29, zC h30, zC h31, zC h32, -lenA, oKn, HH1, HH2]; rfl) ?_)
   simp only [zT, zB]
   refine zS ?_
   refine zR (zO (by simp [zC h14, zC h15, zC h16, zC h17, zC h21, zC h22, zC h23, zC h24, zC h29, zC h30, zC h31, zC h32, -lenA, oKn, HH1, HH2]; rfl) ?_)
   simp only [zT, zB]
   refine zS ?_
   refine zS ?_
   refine zR (zO (by simp [zC h14, zC h15, zC h16, zC h17, zC h21, zC h22, zC h23, zC h24, zC h29, zC h30, zC h31, zC h32, -lenA, oKn, HH1, HH2]; rfl) ?_)
   simp only [zT, zB]
   refine runs_cond (x := false) (by simp) ?_
   refine zK ?_
   simp only [zT, zB]
   refine zS ?_
   refine zS ?_
   refine zR (zO (by simp [zC h14, zC h15, zC h16, zC h17, zC h21, zC h22, zC h23, zC h24, zC h29, zC h30, zC h31, zC h32, -lenA, oKn, HH1, HH2]; rfl) ?_)
   simp only [zT, zB]
   refine zS ?_
   refine zR (zO (by simp [zC h14, zC h15, zC h16, zC h17, zC h21, zC h22, zC h23, zC h24, zC h29, zC h30, zC h31, zC h32, -lenA, oKn, HH1, HH2]; rfl) ?_)
   simp only [zT, zB]
   refine runs_cond (x := false) (by simp) ?_
   refine zK ?_
   simp only [zT, zB]
   refine zS ?_
   refine zR (zO (by simp [zC h14, zC h15, zC h16, zC h17, zC h21, zC h22, zC h23, zC h24, zC h29, zC h30, zC h31, zC h32, -lenA, oKn, HH1, HH2]; rfl) ?_)
   simp only [zT, zB]
   refine zS ?_
   refine zR (zO (by simp [zC h14, zC h15, zC h16, zC h17, zC h21, zC h22, zC h23, zC h24, zC h29, zC h30, zC h31, zC h32, -lenA, oKn, HH1, HH2]; rfl) ?_)
   simp only [zT, zB]
   refine runs_ret ?_
   simp [zC h14, zC h15, zC h16, zC h17, zC h21, zC h22, zC h23, zC h24, zC h29, zC h30, zC h31, zC h32, -lenA, oKn, HH1, HH2]
  ·have hbv : bestV s js = .nils := by unfold bestV; rw [if_neg h0]
   rw [hbv] at hbest
   rw [if_neg h0] at hbnd
   have h0b : (shopE s js == 0) = false := by simp [h0]
   have HH3 := zA hcopy (zA hwork (zA hck0 (zA hsame (zA heq (zA fcc (zA rcc (zA lcc (zA ccc1 (zA ccc2 (zA ftt (zA rtt (zA ltt (zA ctt1 (zA ctt2 (zA fjj (zA rjj (zA ljj (zA cjj1 (zA cjj2 (zA hbest (zA hbnd (zA h0 h0b))))))))))))))))))))))
   refine zK ?_
   simp only [zT, zB]
   refine zS ?_
   refine zR (zO (by simp [zC h14, zC h15, zC h16, zC h17, zC h21, zC h22, zC h23, zC h24, zC h29, zC h30, zC h31, zC h32, -lenA, oKn, HH1, HH3]; rfl) ?_)
   simp only [zT, zB]
   refine zS ?_
   refine zR (zO (by simp [zC h14, zC h15, zC h16, zC h17, zC h21, zC h22, zC h23, zC h24, zC h29, zC h30, zC h31, zC h32, -lenA, oKn, HH1, HH3]; rfl) ?_)
   simp only [zT, zB]
   refine zS ?_
   refine zR (zO (by simp [zC h14, zC h15, zC h16, zC h17, zC h21, zC h22, zC h23, zC h24, zC h29, zC h30, zC h31, zC h32, -lenA, oKn, HH1, HH3]; rfl) ?_)
   simp only [zT, zB]
   refine zS ?_
   refine zS ?_
   refine zR (zO (by simp [zC h14, zC h15, zC h16, zC h17, zC h21, zC h22, zC h23, zC h24, zC h29, zC h30, zC h31, zC h32, -lenA, oKn, HH1, HH3]; rfl) ?_)
   simp only [zT, zB]
   refine runs_cond (x := false) (by simp) ?_
   refine zK ?_
   simp only [zT, zB]
   refine zS ?_
   refine zS ?_
   refine zR (zO (by simp [zC h14, zC h15, zC h16, zC h17, zC h21, zC h22, zC h23, zC h24, zC h29, zC h30, zC h31, zC h32, -lenA, oKn, HH1, HH3]; rfl) ?_)
   simp only [zT, zB]
   refine zS ?_
   refine zR (zO (by simp [zC h14, zC h15, zC h16, zC h17, zC h21, zC h22, zC h23, zC h24, zC h29, zC h30, zC h31, zC h32, -lenA, oKn, HH1, HH3]; rfl) ?_)
   simp only [zT, zB]
   refine runs_cond (x := true) (by simp [h0]) ?_
   refine zS ?_
   refine zR (zO (by simp [zC h14, zC h15, zC h16, zC h17, zC h21, zC h22, zC h23, zC h24, zC h29, zC h30, zC h31, zC h32, -lenA, oKn, HH1, HH3]; rfl) ?_)
   simp only [zT, zB]
   refine runs_ret ?_
   simp [zC h14, zC h15, zC h16, zC h17, zC h21, zC h22, zC h23, zC h24, zC h29, zC h30, zC h31, zC h32, -lenA, oKn, HH1, HH3]
 ·have HH4 := zA h14 (zA h15 (zA h16 (zA h17 (zA h21 (zA h22 (zA h23 (zA h24 (zA h29 (zA h30 (zA h31 (zA h32 (zA fc (zA ft (zA fj (zA rc (zA rt (zA rj (zA lc (zA lt (zA lj (zA cc1 (zA cc2 (zA ct1 (zA ct2 (zA cj1 (zA cj2 hlg))))))))))))))))))))))))))
  refine zS ?_
  refine zR (zO (by simp [zC h14, zC h15, zC h16, zC h17, zC h21, zC h22, zC h23, zC h24, zC h29, zC h30, zC h31, zC h32, -lenA, oKn, HH4]; rfl) ?_)
  simp only [zT, zB]
  refine zS ?_
  refine zS ?_
  refine zR (zO (by simp [zC h14, zC h15, zC h16, zC h17, zC h21, zC h22, zC h23, zC h24, zC h29, zC h30, zC h31, zC h32, -lenA, oKn, HH4]; rfl) ?_)
  simp only [zT, zB]
  refine runs_cond (x := true) (by simp) ?_
  refine zS ?_
  refine zR (zO (by simp [zC h14, zC h15, zC h16, zC h17, zC h21, zC h22, zC h23, zC h24, zC h29, zC h30, zC h31, zC h32, -lenA, oKn, HH4]; rfl) ?_)
  simp only [zT, zB]
  refine runs_ret ?_
  simp [zC h14, zC h15, zC h16, zC h17, zC h21, zC h22, zC h23, zC h24, zC h29, zC h30, zC h31, zC h32, -lenA, oKn, HH4]
theorem law4 (s : FShop) (js : List FJob) (c t j : AVal) (hc : dInts2 c = some s.chg) (ht : dStops t = some s.stops) (hj : dJobs j = some js) : Answers Tryz.prog BF 4 [.agg [I s.mach, c, t], j] [] fun v h => v = .bool true :=
  a4 Tryz.prog BF rfl rfl rfl rfl rfl rfl rfl rfl rfl rfl rfl rfl rfl s js c t j hc ht hj
end
end
end Go.Proofs.YtjjapdagllclkaaGreat.Tab
