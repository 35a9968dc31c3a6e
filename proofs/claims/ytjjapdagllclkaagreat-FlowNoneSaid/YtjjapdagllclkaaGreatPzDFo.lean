/- Contracts of flow: made. No condition. -/
import Derived.Shelf.Sort.Plain
import Derived.Test.YtjjapdagllclkaaGreatProg
import Derived.Test.YtjjapdagllclkaaGreatChecked
import Derived.Test.YtjjapdagllclkaaGreatPzCFo
import Derived.Test.YtjjapdagllclkaaGreatPzBFo
set_option linter.unusedSimpArgs false
set_option linter.unusedVariables false
namespace Go.Proofs.YtjjapdagllclkaaGreat.Tab
open Go Go.Proofs
def lays189_ren : Go.Shelf.Ren := ⟨fun | 125 => 104 | 128 => 143 | 129 => 144 | 189 => 132 | 215 => 150 | 216 => 175 | 257 => 162 | 294 => 169 | 295 => 170 | 296 => 171 | 297 => 172 | 298 => 173 | 299 => 174 | 300 => 176 | 301 => 177 | 328 => 179 | 329 => 164 | 330 => 165 | 331 => 180 | 332 => 181 | 343 => 182 | n => n, fun | 0 => 0 | 3 => 3 | 4 => 4 | 5 => 5 | 9 => 9 | 28 => 27 | 46 => 135 | 51 => 221 | 53 => 223 | 131 => 194 | 182 => 214 | 183 => 215 | 218 => 233 | 222 => 237 | 228 => 244 | 229 => 245 | n => n, fun  | n => n⟩
theorem lays189 : Go.Proofs.Lays.n189 Tryz.prog lays189_ren where
  mixed := by kernel_rfl
  f125 := Tryz.func104.trans (congrArg some (by kernel_rfl))
  f128 := Tryz.func143.trans (congrArg some (by kernel_rfl))
  f129 := Tryz.func144.trans (congrArg some (by kernel_rfl))
  f189 := Tryz.func132.trans (congrArg some (by kernel_rfl))
  f215 := Tryz.func150.trans (congrArg some (by kernel_rfl))
  f216 := Tryz.func175.trans (congrArg some (by kernel_rfl))
  f257 := Tryz.func162.trans (congrArg some (by kernel_rfl))
  f294 := Tryz.func169.trans (congrArg some (by kernel_rfl))
  f295 := Tryz.func170.trans (congrArg some (by kernel_rfl))
  f296 := Tryz.func171.trans (congrArg some (by kernel_rfl))
  f297 := Tryz.func172.trans (congrArg some (by kernel_rfl))
  f298 := Tryz.func173.trans (congrArg some (by kernel_rfl))
  f299 := Tryz.func174.trans (congrArg some (by kernel_rfl))
  f300 := Tryz.func176.trans (congrArg some (by kernel_rfl))
  f301 := Tryz.func177.trans (congrArg some (by kernel_rfl))
  f328 := Tryz.func179.trans (congrArg some (by kernel_rfl))
  f329 := Tryz.func164.trans (congrArg some (by kernel_rfl))
  f330 := Tryz.func165.trans (congrArg some (by kernel_rfl))
  f331 := Tryz.func180.trans (congrArg some (by kernel_rfl))
  f332 := Tryz.func181.trans (congrArg some (by kernel_rfl))
  f343 := Tryz.func182.trans (congrArg some (by kernel_rfl))
  t0 := Tryz.underlying0
  a0 := Tryz.isAgg0
  z0 := Tryz.sizeOf0
  v0 := Tryz.zeroValue0
  t3 := Tryz.underlying3
  a3 := Tryz.isAgg3
  z3 := Tryz.sizeOf3
  v3 := Tryz.zeroValue3
  t4 := Tryz.underlying4
  a4 := Tryz.isAgg4
  z4 := Tryz.sizeOf4
  v4 := Tryz.zeroValue4
  t5 := Tryz.underlying5
  a5 := Tryz.isAgg5
  z5 := Tryz.sizeOf5
  v5 := Tryz.zeroValue5
  t9 := Tryz.underlying9
  a9 := Tryz.isAgg9
  z9 := Tryz.sizeOf9
  v9 := Tryz.zeroValue9
  t28 := Tryz.underlying27
  a28 := Tryz.isAgg27
  z28 := Tryz.sizeOf27
  v28 := Tryz.zeroValue27
  t46 := Tryz.underlying135
  a46 := Tryz.isAgg135
  z46 := Tryz.sizeOf135
  v46 := Tryz.zeroValue135
  t51 := Tryz.underlying221
  a51 := Tryz.isAgg221
  z51 := Tryz.sizeOf221
  v51 := Tryz.zeroValue221
  t53 := Tryz.underlying223
  a53 := Tryz.isAgg223
  z53 := Tryz.sizeOf223
  v53 := Tryz.zeroValue223
  t131 := Tryz.underlying194
  a131 := Tryz.isAgg194
  z131 := Tryz.sizeOf194
  v131 := Tryz.zeroValue194
  t182 := Tryz.underlying214
  a182 := Tryz.isAgg214
  z182 := Tryz.sizeOf214
  v182 := Tryz.zeroValue214
  t183 := Tryz.underlying215
  a183 := Tryz.isAgg215
  z183 := Tryz.sizeOf215
  v183 := Tryz.zeroValue215
  t218 := Tryz.underlying233
  a218 := Tryz.isAgg233
  z218 := Tryz.sizeOf233
  v218 := Tryz.zeroValue233
  t222 := Tryz.underlying237
  a222 := Tryz.isAgg237
  z222 := Tryz.sizeOf237
  v222 := Tryz.zeroValue237
  t228 := Tryz.underlying244
  a228 := Tryz.isAgg244
  z228 := Tryz.sizeOf244
  v228 := Tryz.zeroValue244
  t229 := Tryz.underlying245
  a229 := Tryz.isAgg245
  z229 := Tryz.sizeOf245
  v229 := Tryz.zeroValue245
end Go.Proofs.YtjjapdagllclkaaGreat.Tab
namespace Go.Proofs.YtjjapdagllclkaaGreat.Tab
open Go Go.Abs Go.Proofs
set_option maxRecDepth 100000
set_option maxHeartbeats 4000000
set_option linter.unusedSimpArgs false
set_option linter.unusedVariables false
section
attribute [local simp] frz_int frz_bool frz_vl frz_pv frz_agg frz_tup frz_fn frz_ref frz_sl frz_nils optAll orcF rb_int rb_bool rb_agg rb_tup rb_int' rb_bool' rb_vl rb_pv rb_yld rb_nilf rb_nilp rb_nils rb_any rb_und rb_ref rb_sl rb_fn slE chunk fillA evParts evParts3 putAt List.range_succ List.range_zero List.range'_succ List.range'_zero runX_nil' unary_not evalS_pure evAll_nil evAll_cons runX_cons stepX wantedA dop CV.ev putK_eq setK_eq appK_eq fA_eq fI_eq fN_eq fRow_eq fRows_eq nth_eq Out.v putT List.replicate_succ zT zB arI pointee Abs.rowAt ldRow allV toV toC ofV ofC Builtin.min_ Builtin.min2 Builtin.max_ Builtin.max2 min_if max_if resA tupA kill trim_self trim_len trim_emp trim_nil lenA
attribute [local simp] runD_nil' runD_cons' stepD actK_eq actD clash disj masks holes maskH unmaskH diffs news eqB allB eqA ldRowN wrote toCs ofCs stA rowsV_vl rowsV_nils rowsOf dI1 dI2 dI3 dI5 elt
attribute [local simp] st_any st_und st_agg st_tup st_bool st_int st_nilp st_ref st_pv st_nils st_sl st_vl st_nilm st_mp st_fn st_nilf st_yld co_any co_und co_agg co_tup co_bool co_int co_nilp co_ref co_pv co_nils co_sl co_vl co_nilm co_mp co_fn co_nilf co_yld
section
noncomputable def FH3 : Nat → Option CFn := FF
theorem FH3_ok : TabOk Tryz.prog GG FH3 := FF_ok
noncomputable def FH4 : Nat → Option CFn := upd FH3 132 false (fun _ => none)
theorem FH4_ok : TabOk Tryz.prog GG FH4 := tab_add mixed FH3_ok fun args v ho => by simp at ho
noncomputable def FH : Nat → Option CFn := updE FH4 132 eSort
theorem FH_ok : TabOk Tryz.prog GG FH := tab_updE FH4_ok (eSort_good lays189 rfl)
end
section
attribute [local simp] callA calleeA lop loud rbB_row rowAt
def asg161 : CC := (.reg [⟨(some 5), (.mv (.t 7)), none, []⟩])
def bd161 : CC := (.block 1 (.reg [⟨(some 8), (.ld (.t 2)), none, []⟩, ⟨(some 9), (.mv (.t 5)), none, []⟩, ⟨(some 10), (.bsl 1 1 [(.int .i64 (0))] [(0, (.t 9))]), none, []⟩, ⟨(some 11), (.app 1 (.t 8) (.t 10)), none, []⟩, ⟨none, (.st 1 (.t 2) (.t 11)), none, []⟩]))
theorem it133 (P : Program) (T : Nat → Option CFn) (hT : T 133 = some c133) (x : AVal) (xs : List Int) (hx : dInts x = some xs) (hl : xs.length ≤ 1000) (r : Nat) (J : Nat → Heap → Prop)
    (htr : ∀ (i j : Nat) (g h : Heap) (vs : List AVal), i ≤ j → J i g → J j h → trim g.length vs h = h)
    (step : ∀ (j : Nat) (h : Heap) (hj : j < xs.length), J j h → Ylds P T r [I xs[j]] h fun v h' => v = .bool true ∧ J (j + 1) h') :
    ∀ h, J 0 h → Answers P T 133 [.yld r, .pv [x] 0] h fun _ h2 => J xs.length h2 := by
  have lx := dInts_len hx
  intro h hh
  refine answers_of hT (orcF_none rfl) ?_
  simp only [oo, om, op, og, ci, cl, c133]
  refine zS ?_
  refine zR (zO (by simp [lx, -lenA]; rfl) ?_)
  simp only [zT, zB]
  refine zL ?_
  refine runs_loop_inv (fun m σ => ∃ (k : Nat) (i : Int) (g : Heap), i = k ∧ xs.length - k = m ∧ k ≤ xs.length ∧ J k g ∧ σ = ⟨[.yld r, .any, .any, .any, .any, x, I xs.length, I i, .any, .any, .any, .any, .any, .any, .any, .any], g⟩) ?_ (xs.length - 0) _ ⟨0, 0, h, rfl, rfl, Nat.zero_le _, hh, by simp⟩
  rintro m σ ⟨k, i, g, hik, rfl, hk, hj, rfl⟩
  refine zS ?_
  refine zR (zO (by simp [lx, -lenA]; rfl) ?_)
  simp only [zT, zB]
  refine zS ?_
  refine runs_cond_split (x := decide (i < (xs.length : Int))) (by simp) (fun hlt => ?_) (fun hlt => ?_)
  · have hlt := of_decide_eq_true hlt
    have hk0 : k < xs.length := by omega
    obtain ⟨tt, rfl⟩ := dInts_get hx hk0
    have htn : i.toNat = k := by omega
    have hi0 : 0 ≤ i := by omega
    have hwi : W .i64 (i + 1) = i + 1 := W_small (by omega)
    have HH1 := And.intro lx (And.intro htn (And.intro hi0 (And.intro hk0 (And.intro hwi hlt))))
    refine zK ?_
    simp only [zT, zB]
    refine zS ?_
    refine zL ?_
    refine zS ?_
    refine zR (zO (by simp [-lenA, zI, HH1]; rfl) ?_)
    simp only [zT, zB]
    refine zS ?_
    refine zR (ops_take 2 (by simp [-lenA, zI, HH1]; rfl) ?_)
    simp only [List.drop_succ_cons, List.drop_zero]
    refine ops_ylds (i := r) (args := [I xs[k]]) (by simp) (by simp) (by simp) (by simp) ?_
    refine (step k g hk0 hj).mono ?_
    rintro v h' ⟨rfl, hj'⟩
    refine zO (by simp; rfl) ?_
    simp only [zT, zB]
    refine runs_cond (x := false) (by simp) ?_
    refine zK ?_
    simp only [zT, zB]
    refine zR (zO (by simp [-lenA, zI, HH1]; rfl) ?_)
    simp only [zT, zB]
    have ht := fun vs => htr k (k + 1) g h' vs (by omega) hj hj'
    refine ⟨xs.length - (k + 1), by omega, k + 1, i + 1, h', by omega, rfl, by omega, hj', ?_⟩
    simp [hwi, ht]
  · have hlt := of_decide_eq_false hlt
    obtain rfl : k = xs.length := by omega
    refine runs_exit ?_
    simp only [zT, zB, if_true, if_false, reduceIte, Nat.reduceEqDiff, Nat.succ_ne_zero, Nat.one_ne_zero, Nat.zero_ne_one]
    refine ⟨by simp, _, by simp; rfl, ?_⟩
    rw [htr 0 xs.length h g _ (Nat.zero_le _) hh hj]
    exact hj
def JC (x : AVal) (xs : List Int) (j : Nat) (h : Heap) : Prop := h.length = 2 + 2 * j ∧ h[1]? = some (some (.loop [.nils, .fn 133 [] [.pv [x] 0], .ref 0 0 0, .und, .nils, .und, .fn 133 [] [.pv [x] 0], .und, .und, .und, .und, .und, .und] [7] asg161 bd161 .ready none)) ∧ h[0]? = some (some (.row 1 [[accV .nils (1 + 2 * j) ((xs.take j).map rI)]])) ∧ (0 < j → h[1 + 2 * j]? = some (some (.row 1 ((xs.take j).map rI))))
theorem trim_keep {n b r : Nat} {vs : List AVal} {h : Heap} (h0 : h[0]? = some (some (.row 1 [[.sl b 0 r false]]))) (hb : n ≤ b) (hn : 0 < n) : trim n vs h = h := by
  unfold trim
  split
  · rename_i hc
    simp only [Bool.and_eq_true, List.all_eq_true] at hc
    have hm : some (.row 1 [[.sl b 0 r false]]) ∈ h.take n := by
      refine List.mem_of_getElem? (i := 0) ?_
      rw [List.getElem?_take_of_lt hn, h0]
    have := hc.2 _ hm
    simp at this
    omega
  · rfl
theorem JC_trim (x : AVal) (xs : List Int) (i j : Nat) (g h : Heap) (vs : List AVal) (hij : i ≤ j) (hj : j ≤ xs.length) (hg : JC x xs i g) (hh : JC x xs j h) : trim g.length vs h = h := by
  by_cases e : i = j
  · exact trim_same (by rw [hg.1, hh.1, e]; exact Nat.le_refl _)
  · obtain ⟨p, hp⟩ : ∃ p, (xs.take j).length = p + 1 := ⟨j - 1, by rw [List.length_take]; omega⟩
    have h0 := hh.2.2.1
    obtain ⟨a, l, hal⟩ : ∃ a l, xs.take j = a :: l := by
      cases h : xs.take j with
      | nil => rw [h] at hp; simp at hp
      | cons a l => exact ⟨a, l, rfl⟩
    rw [hal, List.map_cons, accV_cons] at h0
    exact trim_keep h0 (by rw [hg.1]; omega) (by rw [hg.1]; omega)
theorem JC_step (P : Program) (T : Nat → Option CFn) (x : AVal) (xs : List Int) (hl : xs.length ≤ 1000) (j : Nat) (h : Heap) (hj : j < xs.length) (hJ : JC x xs j h) : Ylds P T 1 [I xs[j]] h fun v h' => v = .bool true ∧ JC x xs (j + 1) h' := by
  obtain ⟨hlen, hL, h0, hb⟩ := hJ
  have htk : (xs.take (j + 1)).map rI = (xs.take j).map rI ++ [[I xs[j]]] := by rw [List.take_succ_eq_append_getElem hj, List.map_append]; rfl
  have hrl : ((xs.take j).map rI).length = j := by simp; omega
  have hone : ∀ q ∈ (xs.take j).map rI, q.length = 1 := fun q hq => by obtain ⟨a, _, rfl⟩ := List.mem_map.1 hq; rfl
  have hne : 0 < j → (xs.take j).map rI ≠ [] := fun h e => by rw [e] at hrl; simp at hrl; omega
  unfold JC
  rw [htk]
  generalize (xs.take j).map rI = rows at *
  generalize xs[j] = y at *
  refine ylds_of hL rfl ?_
  show Runs P T (some 1) asg161 ⟨[.nils, .fn 133 [] [.pv [x] 0], .ref 0 0 0, .und, .nils, .und, .fn 133 [] [.pv [x] 0], I y, .und, .und, .und, .und, .und], h⟩ _
  refine zR (zO (by simp; rfl) ?_)
  refine ⟨rfl, _, _, _, _, _, hL, ?_⟩
  obtain ⟨H, hH⟩ : ∃ H, h.set 1 (some (.loop [.nils, .fn 133 [] [.pv [x] 0], .ref 0 0 0, .und, .nils, .und, .fn 133 [] [.pv [x] 0], .und, .und, .und, .und, .und, .und] [7] asg161 bd161 .busy none)) = H := ⟨_, rfl⟩
  have hHl : H.length = 2 + 2 * j := by rw [← hH, List.length_set, hlen]
  have hH0 : H[0]? = some (some (Blk.row 1 [[accV .nils (1 + 2 * j) rows]])) := by rw [← hH, List.getElem?_set_ne (by omega), h0]
  have hH1 : H[1]? = some (some (.loop [.nils, .fn 133 [] [.pv [x] 0], .ref 0 0 0, .und, .nils, .und, .fn 133 [] [.pv [x] 0], .und, .und, .und, .und, .und, .und] [7] asg161 bd161 .busy none)) := by rw [← hH, List.getElem?_set_self (by omega)]
  have hHb : H[1 + 2 * j]? = some (accB 1 (some (.loop [.nils, .fn 133 [] [.pv [x] 0], .ref 0 0 0, .und, .nils, .und, .fn 133 [] [.pv [x] 0], .und, .und, .und, .und, .und, .und] [7] asg161 bd161 .busy none)) rows) := by
    by_cases hj0 : 0 < j
    · rw [← hH, List.getElem?_set_ne (by omega), hb hj0]
      cases rows with
      | nil => exact absurd rfl (hne hj0)
      | cons a l => rfl
    · obtain rfl : j = 0 := by omega
      obtain rfl : rows = [] := List.eq_nil_of_length_eq_zero hrl
      exact hH1
  rw [hH]
  show Runs P T (some 1) bd161 ⟨[.nils, .fn 133 [] [.pv [x] 0], .ref 0 0 0, .und, .nils, I y, .fn 133 [] [.pv [x] 0], I y, .und, .und, .und, .und, .und], H⟩ _
  refine zL ?_
  refine zR (ops_take 3 (by simp [hH0]; rfl) ?_)
  simp only [List.drop_succ_cons, List.drop_zero]
  refine ops_acc (b := 1 + 2 * j) (v0 := .nils) (yv := .sl H.length 0 1 true) (blk0 := some (.loop [.nils, .fn 133 [] [.pv [x] 0], .ref 0 0 0, .und, .nils, .und, .fn 133 [] [.pv [x] 0], .und, .und, .und, .und, .und, .und] [7] asg161 bd161 .busy none)) (rows := rows) (new := [[I y]]) (by simp) (by simp) (by simp) (by simp) ?_ ?_ (by rw [hrl]; simp; omega) hone (by simp) ?_
  · show (H ++ [some (Blk.row 1 [[I y]])])[1 + 2 * j]? = _
    rw [List.getElem?_append_left (by omega)]; exact hHb
  · by_cases hj0 : 0 < j
    · exact .inr (hne hj0)
    · exact .inl (.nils _)
  obtain ⟨K, hK⟩ : ∃ K, (H ++ [some (Blk.row 1 [[I y]])]).set (1 + 2 * j) (accX (some (.loop [.nils, .fn 133 [] [.pv [x] 0], .ref 0 0 0, .und, .nils, .und, .fn 133 [] [.pv [x] 0], .und, .und, .und, .und, .und, .und] [7] asg161 bd161 .busy none)) rows) ++ [some (Blk.row 1 (rows ++ [[I y]]))] = K := ⟨_, rfl⟩
  have hKl : K.length = 4 + 2 * j := by rw [← hK]; simp; omega
  have hK0 : K[0]? = some (some (Blk.row 1 [[accV .nils (1 + 2 * j) rows]])) := by
    rw [← hK, List.getElem?_append_left (by simp), List.getElem?_set_ne (by omega), List.getElem?_append_left (by omega), hH0]
  have hK1 : K[1]? = some (some (.loop [.nils, .fn 133 [] [.pv [x] 0], .ref 0 0 0, .und, .nils, .und, .fn 133 [] [.pv [x] 0], .und, .und, .und, .und, .und, .und] [7] asg161 bd161 .busy none)) := by
    rw [← hK, List.getElem?_append_left (by simp; omega)]
    by_cases hj0 : 0 < j
    · rw [List.getElem?_set_ne (by omega), List.getElem?_append_left (by omega), hH1]
    · obtain rfl : j = 0 := by omega
      obtain rfl : rows = [] := List.eq_nil_of_length_eq_zero hrl
      rw [show 1 + 2 * 0 = 1 by rfl, List.getElem?_set_self (by simp; omega)]; rfl
  have hKn : K[3 + 2 * j]? = some (some (Blk.row 1 (rows ++ [[I y]]))) := by
    rw [← hK, List.getElem?_append_right (by simp; omega)]
    have : 3 + 2 * j - ((H ++ [some (Blk.row 1 [[I y]])]).set (1 + 2 * j) (accX (some (.loop [.nils, .fn 133 [] [.pv [x] 0], .ref 0 0 0, .und, .nils, .und, .fn 133 [] [.pv [x] 0], .und, .und, .und, .und, .und, .und] [7] asg161 bd161 .busy none)) rows)).length = 0 := by simp; omega
    rw [this]; rfl
  have hnl : (H ++ [some (Blk.row 1 [[I y]])] : Heap).length = 3 + 2 * j := by simp; omega
  refine zO (σ1 := ⟨[.nils, .fn 133 [] [.pv [x] 0], .ref 0 0 0, .und, .nils, I y, .fn 133 [] [.pv [x] 0], I y, accV .nils (1 + 2 * j) rows, I y, .sl H.length 0 1 true, .sl (3 + 2 * j) 0 (j + 1) false, .und], K.set 0 (some (Blk.row 1 [[.sl (3 + 2 * j) 0 (j + 1) false]]))⟩) ?_ ?_
  · show runX P T (fun _ _ _ => none) _ ⟨_, (H ++ [some (Blk.row 1 [[I y]])]).set (1 + 2 * j) (accX (some (.loop [.nils, .fn 133 [] [.pv [x] 0], .ref 0 0 0, .und, .nils, .und, .fn 133 [] [.pv [x] 0], .und, .und, .und, .und, .und, .und] [7] asg161 bd161 .busy none)) rows) ++ [some (Blk.row 1 (rows ++ [[I y]]))]⟩ = _
    rw [hK]
    have e1 : 2 + 2 * j + 1 = 3 + 2 * j := by omega
    simp [hK0, hHl, hrl, e1]
  simp only [zT, zB]
  have hF1 : (K.set 0 (some (Blk.row 1 [[.sl (3 + 2 * j) 0 (j + 1) false]])))[1]? = some (some (.loop [.nils, .fn 133 [] [.pv [x] 0], .ref 0 0 0, .und, .nils, .und, .fn 133 [] [.pv [x] 0], .und, .und, .und, .und, .und, .und] [7] asg161 bd161 .busy none)) := by rw [List.getElem?_set_ne (by omega), hK1]
  refine ⟨_, _, _, _, _, _, hF1, ?_⟩
  obtain ⟨F, hF⟩ : ∃ F, (K.set 0 (some (Blk.row 1 [[.sl (3 + 2 * j) 0 (j + 1) false]]))).set 1 (some (.loop [.nils, .fn 133 [] [.pv [x] 0], .ref 0 0 0, .und, .nils, .und, .fn 133 [] [.pv [x] 0], .und, .und, .und, .und, .und, .und] [7] asg161 bd161 .ready none)) = F := ⟨_, rfl⟩
  have hFl : F.length = 4 + 2 * j := by rw [← hF]; simp [hKl]
  have hF0 : F[0]? = some (some (Blk.row 1 [[.sl (3 + 2 * j) 0 (j + 1) false]])) := by rw [← hF, List.getElem?_set_ne (by omega), List.getElem?_set_self (by omega)]
  have hF1 : F[1]? = some (some (.loop [.nils, .fn 133 [] [.pv [x] 0], .ref 0 0 0, .und, .nils, .und, .fn 133 [] [.pv [x] 0], .und, .und, .und, .und, .und, .und] [7] asg161 bd161 .ready none)) := by rw [← hF, List.getElem?_set_self (by simp; omega)]
  have hFn : F[3 + 2 * j]? = some (some (Blk.row 1 (rows ++ [[I y]]))) := by rw [← hF, List.getElem?_set_ne (by omega), List.getElem?_set_ne (by omega), hKn]
  refine ⟨trivial, ?_⟩
  rw [hF, trim_keep hF0 (by omega) (by omega)]
  have e3 : 1 + 2 * (j + 1) = 3 + 2 * j := by omega
  refine ⟨by omega, hF1, ?_, fun _ => by rw [e3]; exact hFn⟩
  rw [hF0, accV_one, hrl, e3]
theorem a161 (P : Program) (T : Nat → Option CFn) (hT : T 161 = some c161) (h133 : T 133 = some c133) (x : AVal) (xs : List Int) : dInts x = some xs → 1 ≤ xs.length ∧ xs.length ≤ 1000 → Answers P T 161 [.nils, .fn 133 [] [.pv [x] 0]] [] fun v h => ∃ b, v = .sl b 0 xs.length false ∧ h[b]? = some (some (.row 1 (xs.map rI))) := by
 intro hx hl
 refine answers_of hT (orcF_none rfl) ?_
 simp only [oo, om, op, og, ci, cl, c161]
 refine zS ?_
 refine zR (zO (by simp; rfl) ?_)
 simp only [zT, zB]
 refine zS ?_
 refine zS ?_
 refine zR (zO (by simp; rfl) ?_)
 simp only [zT, zB]
 refine zL ?_
 refine runs_rf (f := 133) (a := []) (b := [.pv [x] 0]) (by simp [inLoop]) (by simp) ?_
 refine (it133 P T h133 x xs hx (by omega) 1 (fun j h => j ≤ xs.length ∧ JC x xs j h) (fun i j g h vs hij hg hh => JC_trim x xs i j g h vs hij hh.1 hg.2 hh.2) (fun j h hj hJ => (JC_step P T x xs (by omega) j h hj hJ.2).mono fun v h' hv => ⟨hv.1, by omega, hv.2⟩) _ ⟨Nat.zero_le _, rfl, rfl, by simp [accV], fun h => absurd h (by omega)⟩).mono ?_
 rintro v h2 ⟨_, hlen, hL, h0, hb⟩
 rw [List.take_length] at h0 hb
 refine ⟨_, _, _, _, _, _, hL, by simp, ?_⟩
 obtain ⟨a, l, hal⟩ : ∃ a l, xs = a :: l := by
  cases xs with
  | nil => simp at hl
  | cons a l => exact ⟨a, l, rfl⟩
 have hb := hb (by omega)
 rw [show accV .nils (1 + 2 * xs.length) (xs.map rI) = .sl (1 + 2 * xs.length) 0 xs.length false by rw [hal]; simp [accV]] at h0
 obtain ⟨F, hF⟩ : ∃ F, h2.set 1 none = F := ⟨_, rfl⟩
 have hF0 : F[0]? = some (some (.row 1 [[.sl (1 + 2 * xs.length) 0 xs.length false]])) := by rw [← hF, List.getElem?_set_ne (by omega), h0]
 have hFn : F[1 + 2 * xs.length]? = some (some (.row 1 (xs.map rI))) := by rw [← hF, List.getElem?_set_ne (by omega), hb]
 show Runs P T none _ ⟨_, h2.set 1 none⟩ _
 rw [hF]
 clear hF hL h0 hb
 refine zS ?_
 refine zR (zO (by simp [hF0]; rfl) ?_)
 simp only [zT, zB]
 refine runs_ret ?_
 refine ⟨by simp, _, by simp; rfl, ?_⟩
 have ht : trim 0 [tupA [.sl (1 + 2 * xs.length) 0 xs.length false]] F = F := by simp [trim]
 refine ⟨_, rfl, ?_⟩
 show (trim 0 [tupA [.sl (1 + 2 * xs.length) 0 xs.length false]] F)[1 + 2 * xs.length]? = _
 rw [ht]; exact hFn
end
section
attribute [local simp] callA calleeA lop loud putH rbB_none rbB_row rowAt setH
theorem a131 (P : Program) (T : Nat → Option CFn) (hT : T 131 = some c131) (h161 : T 161 = some c161) (h133 : T 133 = some c133) (x : AVal) (xs : List Int) (hx : dInts x = some xs) (hl : 1 ≤ xs.length ∧ xs.length ≤ 1000) : Answers P T 131 [.fn 133 [] [.pv [x] 0]] [] fun v h => ∃ b, v = .sl b 0 xs.length false ∧ h[b]? = some (some (.row 1 (xs.map rI))) := by
 refine answers_of hT (orcF_none rfl) ?_
 simp only [oo, om, op, og, ci, cl, c131]
 refine zS ?_
 refine zR (zO (by simp; rfl) ?_)
 simp only [zT, zB]
 refine zS ?_
 refine zR (ops_take 1 (by simp; rfl) ?_)
 simp only [List.drop_succ_cons, List.drop_zero]
 refine ops_call (f := 161) (args := [.nils, .fn 133 [] [.pv [x] 0]]) (by simp) (by simp) (by simp) (by simp) ?_
 refine (a161 P T h161 h133 x xs hx hl).mono ?_
 rintro v h ⟨b, rfl, hb⟩
 refine zO (by simp; rfl) ?_
 simp only [zT, zB]
 refine runs_ret ?_
 refine ⟨by simp, _, by simp; rfl, ?_⟩
 have ht : trim 0 [tupA [.sl b 0 xs.length false]] h = h := by simp [trim]
 refine ⟨b, rfl, ?_⟩
 show (trim 0 [tupA [.sl b 0 xs.length false]] h)[b]? = _
 rw [ht]; exact hb
theorem a100 (P : Program) (T : Nat → Option CFn) (hT : T 100 = some c100) (h131 : T 131 = some c131) (h161 : T 161 = some c161) (h133 : T 133 = some c133) (h132 : T 132 = some { c132 with frsh := false, orc := fun _ => none, eff := eSort }) (x : AVal) (xs : List Int) (hx : dInts x = some xs) (hl : 1 ≤ xs.length ∧ xs.length ≤ 100) : Answers P T 100 [.fn 133 [] [.pv [x] 0]] [] fun v h => frz true h 5 v = some (.vl ((srt xs).map rI) false) := by
 refine answers_of hT (orcF_none rfl) ?_
 simp only [oo, om, op, og, ci, cl, c100]
 refine zS ?_
 refine zR (zO (by simp; rfl) ?_)
 simp only [zT, zB]
 refine zS ?_
 refine zR (ops_take 1 (by simp; rfl) ?_)
 simp only [List.drop_succ_cons, List.drop_zero]
 refine ops_call (f := 131) (args := [.fn 133 [] [.pv [x] 0]]) (by simp) (by simp) (by simp) (by simp) ?_
 refine (a131 P T h131 h161 h133 x xs hx ⟨hl.1, by omega⟩).mono ?_
 rintro v h ⟨b, rfl, hb⟩
 have hlb : b < h.length := (List.getElem?_eq_some_iff.1 hb).1
 have hs := eSort_eq (tt := false) hb ⟨hl.1, by omega⟩
 refine zO (by simp; rfl) ?_
 simp only [zT, zB]
 refine zS ?_
 obtain ⟨K, hK⟩ : ∃ K, h.set b (some (.row 1 ((srt xs).map rI))) = K := ⟨_, rfl⟩
 have hKb : K[b]? = some (some (.row 1 ((srt xs).map rI))) := by rw [← hK, List.getElem?_set_self hlb]
 have tks : ((srt xs).map rI).take xs.length = (srt xs).map rI := List.take_of_length_le (by simp [srt_len])
 have hsl := srt_len xs
 have HH1 := zA h132 (zA hs (zA hlb (zA hb (zA hK (zA hKb (zA tks hsl))))))
 refine zR (zO (by simp [callF_eff h132 rfl, ↓orc_nil, ↓rI_rb, frz_mapI, dI1_self, HH1]; rfl) ?_)
 simp only [zT, zB]
 refine zS ?_
 refine zR (zO (by simp [callF_eff h132 rfl, ↓orc_nil, ↓rI_rb, frz_mapI, dI1_self, HH1]; rfl) ?_)
 simp only [zT, zB]
 refine runs_ret ?_
 simp [callF_eff h132 rfl, ↓orc_nil, ↓rI_rb, frz_mapI, dI1_self, HH1, trim]
theorem k100_0 : isR .nils (callF FH (exec Tryz.prog FH 300) 100 [.fn 133 [] [.pv [.nils] 0]] []) = true := by kernel_rfl
theorem k100_1 : isR .nils (callF FH (exec Tryz.prog FH 300) 100 [.fn 133 [] [.pv [.vl [] true] 0]] []) = true := by kernel_rfl
theorem k100_2 : isR .nils (callF FH (exec Tryz.prog FH 300) 100 [.fn 133 [] [.pv [.vl [] false] 0]] []) = true := by kernel_rfl
def oSorted : List AVal → Option AVal
  | [.fn 133 [] [.pv [x] 0]] => match dInts x with
    | some xs => if xs.length ≤ 100 then some (encV (srt xs)) else none
    | none => none
  | _ => none
def oVals : List AVal → Option AVal
  | [x] => match dInts x with
    | some _ => some (.fn 133 [] [.pv [x] 0])
    | none => none
  | _ => none
theorem a101 (P : Program) (T : Nat → Option CFn) (hT : T 101 = some c101) (x : AVal) (xs : List Int) (hx : dInts x = some xs) : Answers P T 101 [x] [] fun v h => frz false h 5 v = some (.fn 133 [] [.pv [x] 0]) := by
 have fx := fun H d => dInts_frz hx H d
 have rx := fun n d => dInts_rb hx n d
 obtain ⟨cx1, cx2⟩ := dInts_cells hx
 refine answers_of hT (orcF_none rfl) ?_
 simp only [oo, om, op, og, ci, cl, c101]
 refine zS ?_
 refine zR (zO (by simp [fx, rx, cx1, cx2]; rfl) ?_)
 simp only [zT, zB]
 refine zS ?_
 refine zR (zO (by simp [fx, rx, cx1, cx2]; rfl) ?_)
 simp only [zT, zB]
 refine runs_ret ?_
 simp [fx, rx, cx1, cx2, trim]
noncomputable def FJ1_100 : Nat → Option CFn := upd FH 100 true (oSorted)
theorem FJ1_100_ok : TabOk Tryz.prog GG FJ1_100 := tab_add mixed FH_ok fun args v ho => by
  unfold oSorted at ho; split at ho <;> (try simp only [reduceCtorEq] at ho)
  rename_i x
  split at ho <;> (try simp only [reduceCtorEq] at ho)
  rename_i xs hx
  split at ho <;> (try simp only [reduceCtorEq] at ho)
  rename_i hg
  simp only [Option.some.injEq] at ho
  subst ho
  cases xs with
  | nil =>
    have e : encV (srt []) = .nils := by simp [srt, encV]
    rw [e]
    rcases dInts_cases hx with ⟨rfl, _⟩ | ⟨t, rfl⟩
    · exact isR_answers k100_0
    · cases t
      · exact isR_answers k100_2
      · exact isR_answers k100_1
  | cons a l =>
    rw [encV_ne (by intro e; have := srt_len (a :: l); rw [e] at this; simp at this)]
    exact a100 Tryz.prog FH rfl rfl rfl rfl rfl x (a :: l) hx ⟨by simp, hg⟩
noncomputable def FJ1 : Nat → Option CFn := upd FJ1_100 101 false (oVals)
theorem FJ1_ok : TabOk Tryz.prog GG FJ1 := tab_add mixed FJ1_100_ok fun args v ho => by
  unfold oVals at ho; split at ho <;> (try simp only [reduceCtorEq] at ho)
  rename_i x
  split at ho <;> (try simp only [reduceCtorEq] at ho)
  rename_i xs hx
  simp only [Option.some.injEq] at ho
  subst ho
  exact a101 Tryz.prog FJ1_100 rfl x xs hx
def oOO : List AVal → Option AVal
  | [.agg [.int .i64 m, c, t], j, o] => match dInts2 c, dStops t, dJobs j, dInts o with
    | some cs, some ts, some js, some os => if sizeOk ⟨m, cs, ts⟩ js = true ∧ os.length ≤ 100 then some (.tup [if shopE ⟨m, cs, ts⟩ js = 0 then .agg [.int .i64 m, c, t, j] else zWork, I (if shopE ⟨m, cs, ts⟩ js = 0 then (if ordB os js.length = true then 0 else 6) else shopE ⟨m, cs, ts⟩ js)]) else none
    | _, _, _, _ => none
  | _ => none
theorem a61 (P : Program) (T : Nat → Option CFn) (hT : T 61 = some c61) (h70 : T 70 = some { c70 with frsh := false, orc := oOpen }) (h100 : T 100 = some { c100 with frsh := true, orc := oSorted }) (h101 : T 101 = some { c101 with frsh := false, orc := oVals }) (s : FShop) (js : List FJob) (c t j : AVal) (hc : dInts2 c = some s.chg) (ht : dStops t = some s.stops) (hj : dJobs j = some js) (o : AVal) (os : List Int) (ho : dInts o = some os) (hz : SizeOk s js ∧ os.length ≤ 100) : Answers P T 61 [.agg [I s.mach, c, t], j, o] [] fun v h => frz false h 5 v = some (.tup [if shopE s js = 0 then .agg [I s.mach, c, t, j] else zWork, I (if shopE s js = 0 then (if ordB os js.length = true then 0 else 6) else shopE s js)]) := by
 have fc := fun H d => dInts2_frz hc H d
 have ft := fun H d => dStops_frz ht H d
 have fj := fun H d => dJobs_frz hj H d
 have rc := fun n d => dInts2_rb hc n d
 have rt := fun n d => dStops_rb ht n d
 have rj := fun n d => dJobs_rb hj n d
 have lc := dInts2_len hc
 have lt := dStops_len ht
 have lj := dJobs_len hj
 obtain ⟨cc1, cc2⟩ := dInts2_cells hc
 obtain ⟨ct1, ct2⟩ := dStops_cells ht
 obtain ⟨cj1, cj2⟩ := dJobs_cells hj
 have fo := fun H d => dInts_frz ho H d
 have ro := fun n d => dInts_rb ho n d
 have lo := dInts_len ho
 obtain ⟨co1, co2⟩ := dInts_cells ho
 obtain ⟨hz1, hz2⟩ := hz
 have hop := open_eq hc ht hj hz1
 refine answers_of hT (orcF_none rfl) ?_
 simp only [oo, om, op, og, ci, cl, c61]
 by_cases h0 : shopE s js = 0
 ·have HH1 := zA h70 (zA h100 (zA h101 (zA fc (zA ft (zA fj (zA rc (zA rt (zA rj (zA lc (zA lt (zA lj (zA cc1 (zA cc2 (zA ct1 (zA ct2 (zA cj1 (zA cj2 (zA fo (zA ro (zA lo (zA co1 (zA co2 (zA hop h0)))))))))))))))))))))))
  refine zS ?_
  refine zR (zO (by simp [zC h70, zC h100, zC h101, -lenA, HH1]; rfl) ?_)
  simp only [zT, zB]
  refine zS ?_
  refine zR (zO (by simp [zC h70, zC h100, zC h101, -lenA, HH1]; rfl) ?_)
  simp only [zT, zB]
  refine zS ?_
  refine zS ?_
  refine zR (zO (by simp [zC h70, zC h100, zC h101, -lenA, HH1]; rfl) ?_)
  simp only [zT, zB]
  refine runs_cond (x := false) (by simp) ?_
  have hv : oVals [o] = some (.fn 133 [] [.pv [o] 0]) := by simp only [oVals, ho]
  have hso : oSorted [.fn 133 [] [.pv [o] 0]] = some (encV (srt os)) := by simp only [oSorted, ho]; rw [if_pos hz2]
  have hsv := dInts_encV (srt os)
  have hsl := srt_len os
  generalize encV (srt os) = sv at *
  have fs := fun H d => dInts_frz hsv H d
  have rs5 := fun n d => dInts_rb hsv n d
  have ls := dInts_len hsv
  have HH2 := zA hv (zA hso (zA fs (zA rs5 (zA ls hsl))))
  refine zK ?_
  simp only [zT, zB]
  refine zS ?_
  refine zS ?_
  refine zR (zO (by simp [zC h70, zC h100, zC h101, -lenA, HH1, HH2]; rfl) ?_)
  simp only [zT, zB]
  refine zL ?_
  refine runs_loop_inv (fun m σ => ∃ (k : Nat) (i : Int), i = k ∧ os.length - k = m ∧ k ≤ os.length ∧ (∀ q, q < k → ∀ (h : q < (srt os).length), (srt os)[q] = (q : Int)) ∧ σ = ⟨[.any, j, o, .any, .any, .any, .ref 1 0 0, .any, .ref 2 0 0, .any, .any, .any, .any, .any, .any, .any, .any, .any, .any, .any, .any, .any, .any, .any, sv, I os.length, I i, .any, .any, .any, .any, .any, .any, .any, .any, .any, .any, .any, .any, .any, .any, .any, .any], [some (.row 3 [[I s.mach, c, t]]), some (.row 4 [[I 0, .nils, .nils, .nils]]), some (.row 4 [[I s.mach, c, t, j]])]⟩) ?_ (os.length - 0) _ ⟨0, 0, rfl, rfl, Nat.zero_le _, (fun q hq => absurd hq (Nat.not_lt_zero _)), by simp⟩
  intro m σ hI
  obtain ⟨k, hI⟩ := hI
  obtain ⟨i, hik, hm, hkl, hA, hσ⟩ := hI
  subst hm
  subst hσ
  refine zS ?_
  refine zR (zO (by simp [zC h70, zC h100, zC h101, -lenA, HH1, HH2]; rfl) ?_)
  simp only [zT, zB]
  refine zS ?_
  refine runs_cond_split (x := decide (i < (os.length : Int))) (by simp) (fun hlt => ?_) (fun hlt => ?_)
  ·have hlt := of_decide_eq_true hlt
   have hk0 : k < (srt os).length := by omega
   obtain ⟨tt, rfl⟩ := dInts_get hsv hk0
   have hi0 : 0 ≤ i := by omega
   have htn : i.toNat = k := by omega
   have hkl : k < os.length := by omega
   have hwi : W .i64 (i + 1) = i + 1 := W_small (by omega)
   have HH3 := zA hi0 (zA htn (zA hk0 (zA hkl hwi)))
   refine zK ?_
   simp only [zT, zB]
   refine zS ?_
   refine zL ?_
   refine zS ?_
   refine zR (zO (by simp [zC h70, zC h100, zC h101, -lenA, HH1, HH2, zI, HH3]; rfl) ?_)
   simp only [zT, zB]
   refine zS ?_
   refine zR (zO (by simp [zC h70, zC h100, zC h101, -lenA, HH1, HH2, zI, HH3]; rfl) ?_)
   simp only [zT, zB]
   refine runs_cond_split (x := _) rfl (fun hne => ?_) (fun hne => ?_)
   ·have hne : ¬ (srt os)[k] = i := by simpa using hne
    have hob : ordB os js.length = false := by
     rw [Bool.eq_false_iff]
     intro h
     exact hne (by rw [(ord_at.1 h).2 k hk0]; exact hik.symm)
    refine zS ?_
    refine zR (zO (by simp [zC h70, zC h100, zC h101, -lenA, HH1, HH2, zI, HH3, hob]; rfl) ?_)
    simp only [zT, zB]
    refine runs_ret ?_
    simp [zC h70, zC h100, zC h101, -lenA, HH1, HH2, zI, HH3, hob, trim]
   ·have heq : (srt os)[k] = i := by simpa using hne
    refine zK ?_
    simp only [zT, zB]
    refine zR (zO (by simp [zC h70, zC h100, zC h101, -lenA, HH1, HH2, zI, HH3]; rfl) ?_)
    simp only [zT, zB]
    refine ⟨os.length - (k + 1), by omega, k + 1, i + 1, by omega, rfl, by omega, fun q hq hql => ?_, by simp [trim, zC h70, zC h100, zC h101, -lenA, HH1, HH2, zI, HH3]⟩
    rcases Nat.lt_or_ge q k with h | h
    ·exact hA q h hql
    ·obtain rfl : q = k := by omega
     rw [heq, hik]
  ·have hlt := of_decide_eq_false hlt
   have hkl : k = os.length := by omega
   subst hkl
   refine runs_exit ?_
   simp only [zT, zB, if_true, if_false, reduceIte, Nat.reduceEqDiff, Nat.succ_ne_zero, Nat.one_ne_zero, Nat.zero_ne_one]
   refine zS ?_
   refine zS ?_
   refine zR (zO (by simp [zC h70, zC h100, zC h101, -lenA, HH1, HH2]; rfl) ?_)
   simp only [zT, zB]
   by_cases hlen : os.length = js.length
   ·have hob : ordB os js.length = true := ord_at.2 ⟨hlen, fun q hq => hA q (by omega) hq⟩
    refine runs_cond (x := false) (by simp [hlen]) ?_
    refine zK ?_
    simp only [zT, zB]
    refine zS ?_
    refine zR (zO (by simp [zC h70, zC h100, zC h101, -lenA, HH1, HH2, hob, hlen]; rfl) ?_)
    simp only [zT, zB]
    refine runs_ret ?_
    simp [zC h70, zC h100, zC h101, -lenA, HH1, HH2, hob, hlen, trim]
   ·have hob : ordB os js.length = false := by
     rw [Bool.eq_false_iff]
     intro h
     exact hlen (ord_len h)
    refine runs_cond (x := true) (by simp [hlen]; omega) ?_
    refine zS ?_
    refine zR (zO (by simp [zC h70, zC h100, zC h101, -lenA, HH1, HH2, hob, hlen]; rfl) ?_)
    simp only [zT, zB]
    refine runs_ret ?_
    simp [zC h70, zC h100, zC h101, -lenA, HH1, HH2, hob, hlen, trim]
 ·have HH4 := zA h70 (zA h100 (zA h101 (zA fc (zA ft (zA fj (zA rc (zA rt (zA rj (zA lc (zA lt (zA lj (zA cc1 (zA cc2 (zA ct1 (zA ct2 (zA cj1 (zA cj2 (zA fo (zA ro (zA lo (zA co1 (zA co2 (zA hop h0)))))))))))))))))))))))
  refine zS ?_
  refine zR (zO (by simp [zC h70, zC h100, zC h101, -lenA, zWork, HH4]; rfl) ?_)
  simp only [zT, zB]
  refine zS ?_
  refine zR (zO (by simp [zC h70, zC h100, zC h101, -lenA, zWork, HH4]; rfl) ?_)
  simp only [zT, zB]
  refine zS ?_
  refine zS ?_
  refine zR (zO (by simp [zC h70, zC h100, zC h101, -lenA, zWork, HH4]; rfl) ?_)
  simp only [zT, zB]
  refine runs_cond (x := true) (by simp [h0]) ?_
  refine zS ?_
  refine zR (zO (by simp [zC h70, zC h100, zC h101, -lenA, zWork, HH4]; rfl) ?_)
  simp only [zT, zB]
  refine runs_ret ?_
  simp [zC h70, zC h100, zC h101, -lenA, zWork, HH4]
noncomputable def FJ : Nat → Option CFn := upd FJ1 61 false (oOO)
theorem FJ_ok : TabOk Tryz.prog GG FJ := tab_add mixed FJ1_ok fun args v ho => by
  unfold oOO at ho; split at ho <;> (try simp only [reduceCtorEq] at ho)
  rename_i m c t j o
  split at ho <;> (try simp only [reduceCtorEq] at ho)
  rename_i cs ts js os hc ht hj ho2
  split at ho <;> (try simp only [reduceCtorEq] at ho)
  rename_i hz
  simp only [Option.some.injEq] at ho
  subst ho
  exact a61 Tryz.prog FJ1 rfl rfl rfl rfl ⟨m, cs, ts⟩ js c t j hc ht hj o os ho2 ⟨size_ok.1 hz.1, hz.2⟩
theorem oo_eq {s : FShop} {js : List FJob} {c t j o : AVal} {os : List Int} (hc : dInts2 c = some s.chg) (ht : dStops t = some s.stops) (hj : dJobs j = some js) (ho : dInts o = some os) (hz : SizeOk s js) (hl : os.length ≤ 100) : oOO [.agg [I s.mach, c, t], j, o] = some (.tup [if shopE s js = 0 then .agg [I s.mach, c, t, j] else zWork, I (if shopE s js = 0 then (if ordB os js.length = true then 0 else 6) else shopE s js)]) := by
  simp only [oOO, hc, ht, hj, ho]
  rw [if_pos ⟨size_ok.2 hz, hl⟩]
end
section
attribute [local simp] callA calleeA lop loud rbB_none rbB_row
def ordE (s : FShop) (js : List FJob) (os : List Int) : Int := if shopE s js = 0 then (if ordB os js.length = true then 0 else 6) else shopE s js
theorem ordE_ok {s : FShop} {js : List FJob} {os : List Int} (h : ordE s js os = 0) : shopE s js = 0 ∧ ordB os js.length = true := by
  unfold ordE at h
  split at h
  · rename_i h0
    split at h
    · rename_i h1; exact ⟨h0, h1⟩
    · simp at h
  · rename_i h0; exact absurd h h0
theorem ordE_run {s : FShop} {js : List FJob} {os : List Int} (h : ordE s js os = 0) : ShopOk s js ∧ OrdOk js os := by
  obtain ⟨h1, h2⟩ := ordE_ok h
  have hs := shop_ok h1
  exact ⟨hs, by rw [ord_len h2]; exact hs.njob, fun i hi => (ord_mem h2).1 hi⟩
theorem ordE_eq (s : FShop) (js : List FJob) (os : List Int) : (if shopE s js = 0 then (if ordB os js.length = true then 0 else 6) else shopE s js) = ordE s js os := rfl
theorem ordE_ne {s : FShop} {js : List FJob} {os : List Int} (h : ordE s js os = 0) : shopE s js = 0 := (ordE_ok h).1
noncomputable def lateT (s : FShop) (js : List FJob) (os : List Int) : Int × Int × Int := if ordE s js os = 0 then (((lateL (runF s js os).ends js js.length).length : Int), (latF (runF s js os).ends js js.length).1, (latF (runF s js os).ends js js.length).2) else (0, 0, 0)
noncomputable def oLateT : List AVal → Option AVal
  | [.agg [.int .i64 m, c, t], j, o] => match dInts2 c, dStops t, dJobs j, dInts o with
    | some cs, some ts, some js, some os => if sizeOk ⟨m, cs, ts⟩ js = true ∧ os.length ≤ 100 then some (.tup [I (lateT ⟨m, cs, ts⟩ js os).1, I (lateT ⟨m, cs, ts⟩ js os).2.1, I (lateT ⟨m, cs, ts⟩ js os).2.2, I (ordE ⟨m, cs, ts⟩ js os)]) else none
    | _, _, _, _ => none
  | _ => none
theorem lateT_eq {s : FShop} {js : List FJob} {c t j o : AVal} {os : List Int} (hc : dInts2 c = some s.chg) (ht : dStops t = some s.stops) (hj : dJobs j = some js) (ho : dInts o = some os) (hz : SizeOk s js) (hl : os.length ≤ 100) : oLateT [.agg [I s.mach, c, t], j, o] = some (.tup [I (lateT s js os).1, I (lateT s js os).2.1, I (lateT s js os).2.2, I (ordE s js os)]) := by
  simp only [oLateT, hc, ht, hj, ho]
  rw [if_pos ⟨size_ok.2 hz, hl⟩]
theorem a19 (P : Program) (T : Nat → Option CFn) (hT : T 19 = some c19) (h61 : T 61 = some { c61 with frsh := false, orc := oOO }) (h62 : T 62 = some { c62 with frsh := false, orc := oRun }) (h63 : T 63 = some { c63 with frsh := true, orc := oPlus }) (h64 : T 64 = some { c64 with body := annK [(7188, [.slot 4])] [] c64.body, frsh := true, orc := oLate }) (s : FShop) (js : List FJob) (c t j : AVal) (hc : dInts2 c = some s.chg) (ht : dStops t = some s.stops) (hj : dJobs j = some js) (o : AVal) (os : List Int) (ho : dInts o = some os) (hz : SizeOk s js ∧ os.length ≤ 100) : Answers P T 19 [.agg [I s.mach, c, t], j, o] [] fun v h => frz true h 5 v = some (.tup [I (lateT s js os).1, I (lateT s js os).2.1, I (lateT s js os).2.2, I (ordE s js os)]) := by
 have fc := fun H d => dInts2_frz hc H d
 have ft := fun H d => dStops_frz ht H d
 have fj := fun H d => dJobs_frz hj H d
 have rc := fun n d => dInts2_rb hc n d
 have rt := fun n d => dStops_rb ht n d
 have rj := fun n d => dJobs_rb hj n d
 have lc := dInts2_len hc
 have lt := dStops_len ht
 have lj := dJobs_len hj
 obtain ⟨cc1, cc2⟩ := dInts2_cells hc
 obtain ⟨ct1, ct2⟩ := dStops_cells ht
 obtain ⟨cj1, cj2⟩ := dJobs_cells hj
 have fo := fun H d => dInts_frz ho H d
 have ro := fun n d => dInts_rb ho n d
 have lo := dInts_len ho
 obtain ⟨co1, co2⟩ := dInts_cells ho
 obtain ⟨hz1, hz2⟩ := hz
 have hop := oo_eq hc ht hj ho hz1 hz2
 rw [ordE_eq] at hop
 refine answers_of hT (orcF_none rfl) ?_
 simp only [oo, om, op, og, ci, cl, c19]
 by_cases h0 : ordE s js os = 0
 ·have hT : lateT s js os = (((lateL (runF s js os).ends js js.length).length : Int), (latF (runF s js os).ends js js.length).1, (latF (runF s js os).ends js js.length).2) := by unfold lateT; rw [if_pos h0]
  rw [hT]
  have h1 := ordE_ne h0
  have hg := ordE_run h0
  have hrun := run_eq hc ht hj ho hg
  have hlt := late_eq hc ht hj ho hg
  have hsh := hg.1
  have hro := runF_ok hsh hg.2.len hg.2.at'
  have hn6 : js.length ≤ 6 := hsh.njob
  generalize runF s js os = R at *
  have hre := hro.elen
  have hll := lateL_len R.ends js js.length
  have fz1 : ∀ H d, optAll (optAll (frz false H (d + 1))) (R.starts.map encS) = some (R.starts.map encS) := fun H d => frz_encS H d _
  have hbd := fun k (h2 : k ≤ js.length) => latF_bd (fun e he => by have := hro.en e he; omega) (fun j hj => (hsh.job j hj).2.2.1.1) k (by omega) h2
  have hsv := dInts_encV (lateL R.ends js js.length)
  generalize encV (lateL R.ends js js.length) = sv at *
  have fs := fun H d => dInts_frz hsv H d
  have ls := dInts_len hsv
  have HH1 := zA h61 (zA h62 (zA h63 (zA h64 (zA fc (zA ft (zA fj (zA rc (zA rt (zA rj (zA lc (zA lt (zA lj (zA cc1 (zA cc2 (zA ct1 (zA ct2 (zA cj1 (zA cj2 (zA fo (zA ro (zA lo (zA co1 (zA co2 (zA hop (zA h0 (zA h1 (zA hrun (zA hre (zA fz1 (zA hlt (zA fs ls)))))))))))))))))))))))))))))))
  refine zS ?_
  refine zR (zO (by simp [zC h61, zC h62, zC h63, zC h64, -lenA, frz_mapI, HH1]; rfl) ?_)
  simp only [zT, zB]
  refine zS ?_
  refine zR (zO (by simp [zC h61, zC h62, zC h63, zC h64, -lenA, frz_mapI, HH1]; rfl) ?_)
  simp only [zT, zB]
  refine zS ?_
  refine zS ?_
  refine zR (zO (by simp [zC h61, zC h62, zC h63, zC h64, -lenA, frz_mapI, HH1]; rfl) ?_)
  simp only [zT, zB]
  refine runs_cond (x := false) (by simp) ?_
  refine zK ?_
  simp only [zT, zB]
  refine zS ?_
  refine zR (zO (by simp [zC h61, zC h62, zC h63, zC h64, -lenA, frz_mapI, HH1]; rfl) ?_)
  simp only [zT, zB]
  refine zS ?_
  refine zS ?_
  refine zR (zO (by simp [zC h61, zC h62, zC h63, zC h64, -lenA, frz_mapI, HH1]; rfl) ?_)
  simp only [zT, zB]
  refine zL ?_
  refine runs_loop_inv (fun m σ => ∃ (k : Nat) (i : Int), i = k ∧ js.length - k = m ∧ k ≤ js.length ∧ σ = ⟨[.any, j, o, .any, .any, .any, .any, .any, .any, .any, .ref 1 0 0, .ref 2 0 0, .any, .any, .any, .any, .any, .any, .any, .any, .any, .any, .any, .any, .any, .any, .any, .vl (R.ends.map rI) true, I js.length, I i, .any, .any, .any, .any, .any, .any, .any, .any, .any, .any, .any, .any, .any, .any, .any, .any, .any, .any, .any, .any], [some (.row 3 [[I s.mach, c, t]]), some (.row 4 [[I s.mach, c, t, j]]), some (.row 2 [[I (latF R.ends js k).1, I (latF R.ends js k).2]])]⟩) ?_ (js.length - 0) _ ⟨0, 0, rfl, rfl, Nat.zero_le _, by simp [hre, latF]⟩
  rintro m σ ⟨k, i, hik, rfl, hkl, rfl⟩
  refine zS ?_
  refine zR (zO (by simp [zC h61, zC h62, zC h63, zC h64, -lenA, frz_mapI, HH1]; rfl) ?_)
  simp only [zT, zB]
  refine zS ?_
  refine runs_cond_split (x := decide (i < (js.length : Int))) (by simp) (fun hlt2 => ?_) (fun hlt2 => ?_)
  ·have hlt2 := of_decide_eq_true hlt2
   have hk0 : k < js.length := by omega
   have hkE : k < R.ends.length := by omega
   have hi0 : 0 ≤ i := by omega
   have htn : i.toNat = k := by omega
   have hwi : W .i64 (i + 1) = i + 1 := W_small (by omega)
   obtain ⟨rs, tj, wv, rfl, hr1, hr2, hwv⟩ := dJobs_get hj hk0
   have hkr : k < rs.length := by omega
   have hr4 : ∀ h, rs[k]'h = [I js[k].kind, I js[k].ready, I js[k].due, wv] := fun h => by rw [List.getElem?_eq_getElem h] at hr2; exact Option.some.inj hr2
   have rw5 := fun n d => dInts_rb hwv n d
   have fw5 := fun H d => dInts_frz hwv H d
   obtain ⟨cw1, cw2⟩ := dInts_cells hwv
   have hjb := hsh.job _ (List.getElem_mem hk0)
   have hbk := hbd k (by omega)
   have hek := hro.en _ (List.getElem_mem hkE)
   have hpl : oPlus [.agg [I (latF R.ends js k).1, I (latF R.ends js k).2], .agg [I js[k].kind, I js[k].ready, I js[k].due, wv], I R.ends[k]] = some (.agg [I (latF R.ends js (k + 1)).1, I (latF R.ends js (k + 1)).2]) := by
    simp only [oPlus, hwv]
    rw [if_pos ⟨⟨by omega, by omega⟩, ⟨by omega, by omega⟩, ⟨by omega, by omega⟩⟩]
    have hdu : dueAt js k = js[k].due := by unfold dueAt; rw [List.getD_eq_getElem?_getD, List.getElem?_eq_getElem hk0]; rfl
    have hen : endAt R.ends k = R.ends[k] := by unfold endAt; rw [List.getD_eq_getElem?_getD, List.getElem?_eq_getElem hkE]; rfl
    simp only [latF, hdu, hen]
   have HH2 := zA hi0 (zA htn (zA hk0 (zA hkE (zA hwi (zA hpl (zA hkr (zA hr2 (zA hr4 (zA rw5 (zA fw5 (zA cw1 cw2)))))))))))
   refine zK ?_
   simp only [zT, zB]
   refine zS ?_
   refine zL ?_
   refine zS ?_
   refine zR (zO (by simp [zC h61, zC h62, zC h63, zC h64, -lenA, frz_mapI, HH1, zI, HH2]; rfl) ?_)
   simp only [zT, zB]
   refine runs_drw (by simp (maxSteps := 3000000) [zC h61, zC h62, zC h63, zC h64, -lenA, frz_mapI, HH1, zI, HH2]; rfl) ?_
   simp only [zT, zB]
   refine zR (zO (by simp [zC h61, zC h62, zC h63, zC h64, -lenA, frz_mapI, HH1, zI, HH2]; rfl) ?_)
   simp only [zT, zB]
   exact ⟨js.length - (k + 1), by omega, k + 1, i + 1, by omega, rfl, by omega, by simp [trim, zC h61, zC h62, zC h63, zC h64, -lenA, frz_mapI, HH1, zI, HH2]⟩
  ·have hlt2 := of_decide_eq_false hlt2
   obtain rfl : k = js.length := by omega
   refine runs_exit ?_
   simp only [zT, zB, if_true, if_false, reduceIte, Nat.reduceEqDiff, Nat.succ_ne_zero, Nat.one_ne_zero, Nat.zero_ne_one]
   refine zS ?_
   refine runs_drw (by simp (maxSteps := 3000000) [zC h61, zC h62, zC h63, zC h64, -lenA, frz_mapI, HH1]; rfl) ?_
   simp only [zT, zB]
   refine runs_ret ?_
   simp [zC h61, zC h62, zC h63, zC h64, -lenA, frz_mapI, HH1, trim]
 ·by_cases h1 : shopE s js = 0
  ·have HH3 := zA h61 (zA h62 (zA h63 (zA h64 (zA fc (zA ft (zA fj (zA rc (zA rt (zA rj (zA lc (zA lt (zA lj (zA cc1 (zA cc2 (zA ct1 (zA ct2 (zA cj1 (zA cj2 (zA fo (zA ro (zA lo (zA co1 (zA co2 (zA hop (zA h0 h1)))))))))))))))))))))))))
   refine zS ?_
   refine zR (zO (by simp [zC h61, zC h62, zC h63, zC h64, -lenA, lateT, zWork, HH3]; rfl) ?_)
   simp only [zT, zB]
   refine zS ?_
   refine zR (zO (by simp [zC h61, zC h62, zC h63, zC h64, -lenA, lateT, zWork, HH3]; rfl) ?_)
   simp only [zT, zB]
   refine zS ?_
   refine zS ?_
   refine zR (zO (by simp [zC h61, zC h62, zC h63, zC h64, -lenA, lateT, zWork, HH3]; rfl) ?_)
   simp only [zT, zB]
   refine runs_cond (x := true) (by simp [h0]) ?_
   refine zS ?_
   refine zR (zO (by simp [zC h61, zC h62, zC h63, zC h64, -lenA, lateT, zWork, HH3]; rfl) ?_)
   simp only [zT, zB]
   refine runs_ret ?_
   simp [zC h61, zC h62, zC h63, zC h64, -lenA, lateT, zWork, HH3, trim]
  ·have HH4 := zA h61 (zA h62 (zA h63 (zA h64 (zA fc (zA ft (zA fj (zA rc (zA rt (zA rj (zA lc (zA lt (zA lj (zA cc1 (zA cc2 (zA ct1 (zA ct2 (zA cj1 (zA cj2 (zA fo (zA ro (zA lo (zA co1 (zA co2 (zA hop (zA h0 h1)))))))))))))))))))))))))
   refine zS ?_
   refine zR (zO (by simp [zC h61, zC h62, zC h63, zC h64, -lenA, lateT, zWork, HH4]; rfl) ?_)
   simp only [zT, zB]
   refine zS ?_
   refine zR (zO (by simp [zC h61, zC h62, zC h63, zC h64, -lenA, lateT, zWork, HH4]; rfl) ?_)
   simp only [zT, zB]
   refine zS ?_
   refine zS ?_
   refine zR (zO (by simp [zC h61, zC h62, zC h63, zC h64, -lenA, lateT, zWork, HH4]; rfl) ?_)
   simp only [zT, zB]
   refine runs_cond (x := true) (by simp [h0]) ?_
   refine zS ?_
   refine zR (zO (by simp [zC h61, zC h62, zC h63, zC h64, -lenA, lateT, zWork, HH4]; rfl) ?_)
   simp only [zT, zB]
   refine runs_ret ?_
   simp [zC h61, zC h62, zC h63, zC h64, -lenA, lateT, zWork, HH4, trim]
noncomputable def FL1_43 : Nat → Option CFn := FJ
theorem FL1_43_ok : TabOk Tryz.prog GG FL1_43 := FJ_ok
noncomputable def FL1 : Nat → Option CFn := upd FL1_43 19 true (oLateT)
theorem FL1_ok : TabOk Tryz.prog GG FL1 := tab_add mixed FL1_43_ok fun args v ho => by
  unfold oLateT at ho; split at ho <;> (try simp only [reduceCtorEq] at ho)
  rename_i m c t j o
  split at ho <;> (try simp only [reduceCtorEq] at ho)
  rename_i cs ts js os hc ht hj ho2
  split at ho <;> (try simp only [reduceCtorEq] at ho)
  rename_i hz
  simp only [Option.some.injEq] at ho
  subst ho
  exact a19 Tryz.prog FL1_43 rfl rfl rfl rfl rfl ⟨m, cs, ts⟩ js c t j hc ht hj o os ho2 ⟨size_ok.1 hz.1, hz.2⟩
end
section
attribute [local simp] callA calleeA lop loud rbB_none rbB_row
noncomputable def FM : Nat → Option CFn := FL1
theorem FM_ok : TabOk Tryz.prog GG FM := FL1_ok
end
section
attribute [local simp] Function.comp_def List.all_append List.all_map above callA calleeA frNB_none frNB_row frN_agg frN_bool frN_int frN_nils frN_ref frN_sl frN_tup frN_vl frzG gather getR lim lop loud lowA lowR norm okG putG putR rbB_none rbB_row resG rowAt takeG
def encE (xs : List Int) : AVal := match xs with | [] => .vl [] true | x :: l => .vl ((x :: l).map rI) false
theorem encE_ne {xs : List Int} (h : xs ≠ []) : encE xs = .vl (xs.map rI) false := by cases xs with | nil => exact absurd rfl h | cons x l => rfl
theorem dInts_encE (xs : List Int) : dInts (encE xs) = some xs := by
  cases xs with
  | nil => rfl
  | cons x l => exact dInts_vl (x :: l) false
def oInts : List AVal → Option AVal
  | [x] => match dInts x with
    | some xs => if xs.length ≤ 1000 then some (encE xs) else none
    | none => none
  | _ => none
theorem ints_eq {x : AVal} {xs : List Int} (hx : dInts x = some xs) (hl : xs.length ≤ 1000) : oInts [x] = some (encE xs) := by
  simp only [oInts, hx]; rw [if_pos hl]
theorem optAll_snoc {α : Type} {f : α → Option α} {l : List α} (h : ∀ x ∈ l, f x = some x) (a : α) : optAll f (l ++ [a]) = match f a with | some b => some (l ++ [b]) | none => none := by
  induction l with
  | nil => simp only [List.nil_append, optAll]; cases f a <;> rfl
  | cons x l ih =>
    have := ih fun y hy => h y (by simp [hy])
    simp only [List.cons_append, optAll, h x (by simp), this]
    cases f a <;> rfl
theorem a18 (P : Program) (T : Nat → Option CFn) (hT : T 18 = some c18) (x : AVal) (xs : List Int) (hx : dInts x = some xs) (hl : xs.length ≤ 1000) : Answers P T 18 [x] [] fun v h => frz true h 5 v = some (encE xs) := by
 have fx := fun H d => dInts_frz hx H d
 have rx := fun n d => dInts_rb hx n d
 have lx := dInts_len hx
 obtain ⟨cx1, cx2⟩ := dInts_cells hx
 refine answers_of hT (orcF_none rfl) ?_
 simp only [oo, om, op, og, ci, cl, c18]
 rcases xs with _ | ⟨a, l⟩
 ·rcases dInts_cases hx with ⟨rfl, _⟩ | ⟨tt, rfl⟩
  ·have HH1 := zA fx (zA rx (zA lx (zA cx1 cx2)))
   refine zS ?_
   refine zR (zO (by simp [-lenA, HH1]; rfl) ?_)
   simp only [zT, zB]
   refine zS ?_
   refine zR (zO (by simp [-lenA, HH1]; rfl) ?_)
   simp only [zT, zB]
   refine runs_ret ?_
   simp [-lenA, HH1, encE, trim]
  ·have HH2 := zA fx (zA rx (zA lx (zA cx1 cx2)))
   refine zS ?_
   refine zR (zO (by simp [-lenA, HH2]; rfl) ?_)
   simp only [zT, zB]
   refine zS ?_
   refine zR (zO (by simp [-lenA, HH2]; rfl) ?_)
   simp only [zT, zB]
   refine runs_ret ?_
   simp [-lenA, HH2, encE, trim]
 ·obtain ⟨tt, rfl⟩ := dInts_get hx (k := 0) (by simp)
  have hll : l.length + 1 ≤ 1048576 := by simp at hl; omega
  have hr1 : ((l.map rI).all fun r => r.length == 1) = true := by simp [rI]
  have hst : ((l.map rI).all fun r => r.all storable) = true := by simp [rI]
  have tk : (l.map rI).take l.length = l.map rI := List.take_of_length_le (by simp)
  have HH3 := zA fx (zA rx (zA lx (zA cx1 (zA cx2 (zA hll tk)))))
  refine zS ?_
  refine zR (zO (by simp [-lenA, ↓hr1, ↓hst, frz_mapI, zI, HH3]; rfl) ?_)
  simp only [zT, zB]
  refine zS ?_
  refine zR (zO (by simp [-lenA, ↓hr1, ↓hst, frz_mapI, zI, HH3]; rfl) ?_)
  simp only [zT, zB]
  refine runs_ret ?_
  simp [-lenA, ↓hr1, ↓hst, frz_mapI, zI, HH3, encE, trim]
noncomputable def FN1 : Nat → Option CFn := upd FM 18 true (oInts)
theorem FN1_ok : TabOk Tryz.prog GG FN1 := tab_add mixed FM_ok fun args v ho => by
  unfold oInts at ho; split at ho <;> (try simp only [reduceCtorEq] at ho)
  rename_i x
  split at ho <;> (try simp only [reduceCtorEq] at ho)
  rename_i xs hx
  split at ho <;> (try simp only [reduceCtorEq] at ho)
  rename_i hg
  simp only [Option.some.injEq] at ho
  subst ho
  exact a18 Tryz.prog FM rfl x xs hx hg
noncomputable def FN2 : Nat → Option CFn := updG FN1 60 [(25, [.slot 3])] []
theorem FN2_ok : TabOk Tryz.prog GG FN2 := tab_updG FN1_ok
def rowJ (j : FJob) : List AVal := [I j.kind, I j.ready, I j.due, encE j.mins]
theorem dJob_rowJ (j : FJob) : dJob (rowJ j) = some j := by
  simp only [dJob, rowJ, dInts_encE]
def encJ (js : List FJob) : AVal := match js with | [] => .vl [] true | x :: l => .vl ((x :: l).map rowJ) false
theorem encJ_ne {js : List FJob} (h : js ≠ []) : encJ js = .vl (js.map rowJ) false := by cases js with | nil => exact absurd rfl h | cons x l => rfl
theorem dJobs_encJ (js : List FJob) : dJobs (encJ js) = some js := by
  cases js with
  | nil => rfl
  | cons x l =>
    simp only [encJ, dJobs, rowsV]
    exact optAll_map (d := dJob) (enc := rowJ) dJob_rowJ (x :: l)
theorem frN_rowJ (n : Nat) (h : Heap) (js : List FJob) : ∀ r ∈ js.map rowJ, optAll (frN n h 5) r = some r := fun r hr => by
  obtain ⟨j, _, rfl⟩ := List.mem_map.1 hr
  refine optAll_self _ fun x hx => ?_
  simp only [rowJ, List.mem_cons, List.not_mem_nil, or_false] at hx
  rcases hx with rfl | rfl | rfl | rfl
  · rfl
  · rfl
  · rfl
  · cases j.mins <;> rfl
theorem frz_rowJ (H : Heap) (d : Nat) (js : List FJob) : optAll (optAll (frz false H (d + 1))) (js.map rowJ) = some (js.map rowJ) := optAll_self _ fun r hr => optAll_self _ fun x hx => by
  obtain ⟨j, _, rfl⟩ := List.mem_map.1 hr
  simp only [rowJ, List.mem_cons, List.not_mem_nil, or_false] at hx
  rcases hx with rfl | rfl | rfl | rfl
  · rfl
  · rfl
  · rfl
  · cases j.mins <;> rfl
theorem rowJ_rb (n d : Nat) (js : List FJob) : ((js.map rowJ).all fun r => r.all (rb n (d + 1))) = true := by
  simp only [List.all_eq_true]
  intro r hr z hz
  obtain ⟨j, _, rfl⟩ := List.mem_map.1 hr
  simp only [rowJ, List.mem_cons, List.not_mem_nil, or_false] at hz
  rcases hz with rfl | rfl | rfl | rfl
  · rfl
  · rfl
  · rfl
  · cases j.mins <;> rfl
theorem a60 (P : Program) (T : Nat → Option CFn) (hT : T 60 = some { c60 with body := annK [(25, [.slot 3])] [] c60.body }) (j : AVal) (js : List FJob) (hj : dJobs j = some js) (hl : js.length ≤ 1000) (hm : ∀ x ∈ js, x.mins.length ≤ 1000) : Answers P T 60 [j] [] fun v h => frz false h 5 v = some (encJ js) := by
 have fj := fun H d => dJobs_frz hj H d
 have rj := fun n d => dJobs_rb hj n d
 have lj := dJobs_len hj
 obtain ⟨cj1, cj2⟩ := dJobs_cells hj
 refine answers_of hT (orcF_none rfl) ?_
 simp only [oo, om, op, og, ci, cl, c60, annK, lkG, lkR, reduceIte, Nat.reduceEqDiff, reduceCtorEq, List.cons.injEq, and_true, and_false, false_and, true_and]
 have HH1 := zA fj (zA rj (zA lj (zA cj1 cj2)))
 refine zS ?_
 refine zR (zO (by simp [-lenA, HH1]; rfl) ?_)
 simp only [zT, zB]
 refine zS ?_
 refine zR (zO (by simp [-lenA, HH1]; rfl) ?_)
 simp only [zT, zB]
 refine zS ?_
 refine zS ?_
 refine zR (zO (by simp [-lenA, HH1]; rfl) ?_)
 simp only [zT, zB]
 refine zL ?_
 refine runs_loopG_inv (fun mm σ => ∃ (k : Nat) (i : Int), i = k ∧ js.length - k = mm ∧ k ≤ js.length ∧ ((k = 0 ∧ σ = ⟨[j, .any, .any, .sl 1 0 0 true, I i, .any, .any, .any, .any, .any, .any, .any, .any, .any, .any, .any, .any, .any, .any, .any, .any, .any, .any, .any, .any, .any, .any], [none, some (.row 4 [])]⟩) ∨ (∃ (p : Nat) (ac : List FJob), k = p + 1 ∧ ac = js.take k ∧ ac.length = p + 1 ∧ σ = ⟨[j, .any, .any, .sl 1 0 (p + 1) false, I i, .any, .any, .any, .any, .any, .any, .any, .any, .any, .any, .any, .any, .any, .any, .any, .any, .any, .any, .any, .any, .any, .any], [none, some (.row 4 (ac.map rowJ))]⟩))) (by simp [-lenA, HH1] <;> first | exact ⟨rfl, rfl⟩ | rfl) (⟨0, 0, rfl, rfl, Nat.zero_le _, .inl ⟨rfl, rfl⟩⟩) ?_
 rintro mm σ ⟨k, i, hik, rfl, hkl, ⟨hk0', rfl⟩ | ⟨p, ac, hkp, hac, hacl, rfl⟩⟩
 ·refine zS ?_
  refine zS ?_
  refine zR (zO (by simp [-lenA, HH1]; rfl) ?_)
  simp only [zT, zB]
  refine runs_cond_split (x := decide (i < (js.length : Int))) (by simp) (fun hlt => ?_) (fun hlt => ?_)
  ·have hlt2 := of_decide_eq_true hlt
   have hk0 : k < js.length := by omega
   have hEt : js.take (k + 1) = js.take k ++ [js[k]] := List.take_succ_eq_append_getElem hk0
   obtain ⟨rs, tj, wv, rfl, hr1, hr2, hwv⟩ := dJobs_get hj hk0
   have hkr : k < rs.length := by omega
   have hr4 : ∀ h, rs[k]'h = [I js[k].kind, I js[k].ready, I js[k].due, wv] := fun h => by rw [List.getElem?_eq_getElem h] at hr2; exact Option.some.inj hr2
   have rw5 := fun n d => dInts_rb hwv n d
   have fw5 := fun H d => dInts_frz hwv H d
   obtain ⟨cw1, cw2⟩ := dInts_cells hwv
   have hi0 : 0 ≤ i := by omega
   have htn : i.toNat = k := by omega
   have hwi : W .i64 (i + 1) = i + 1 := W_small (by omega)
   have hml := hm js[k] (List.getElem_mem hk0)
   generalize hX : js[k] = X at *
   obtain ⟨xk, xr, xd, xm⟩ := X
   simp only at hwv hml hr2 hr4
   have hnx : [(⟨xk, xr, xd, xm⟩ : FJob)] = js.take (k + 1) := by rw [hEt, hk0']; rfl
   have hap : [[I xk, I xr, I xd, encE xm]] = [(⟨xk, xr, xd, xm⟩ : FJob)].map rowJ := rfl
   rcases xm with _ | ⟨a, l⟩
   ·simp only [encE] at hap
    rcases dInts_cases hwv with ⟨rfl, _⟩ | ⟨tt, rfl⟩
    ·have HH2 := zA hi0 (zA htn (zA hk0 (zA hX (zA hwi (zA hkr (zA hr2 (zA hr4 (zA rw5 (zA fw5 (zA cw1 cw2))))))))))
     refine zK ?_
     simp only [zT, zB]
     refine zS ?_
     refine zL ?_
     refine zS ?_
     refine zR (zO (by simp [-lenA, HH1, zI, HH2]; rfl) ?_)
     simp only [zT, zB]
     refine zS ?_
     refine zR (zO (by simp [-lenA, HH1, zI, HH2]; rfl) ?_)
     simp only [zT, zB]
     refine zR (zO (by simp [-lenA, HH1, zI, HH2]; rfl) ?_)
     simp only [zT, zB]
     refine zR (zO (by simp [-lenA, HH1, zI, HH2]; rfl) ?_)
     simp only [zT, zB]
     exact ⟨js.length - (k + 1), _, _, by omega, by simp [-lenA, HH1, zI, HH2] <;> rfl, k + 1, i + 1, by omega, rfl, by omega, .inr ⟨0, _, by omega, hnx, rfl, rfl⟩⟩
    ·have HH3 := zA hi0 (zA htn (zA hk0 (zA hX (zA hwi (zA hkr (zA hr2 (zA hr4 (zA rw5 (zA fw5 (zA cw1 cw2))))))))))
     refine zK ?_
     simp only [zT, zB]
     refine zS ?_
     refine zL ?_
     refine zS ?_
     refine zR (zO (by simp [-lenA, HH1, zI, HH3]; rfl) ?_)
     simp only [zT, zB]
     refine zS ?_
     refine zR (zO (by simp [-lenA, HH1, zI, HH3]; rfl) ?_)
     simp only [zT, zB]
     refine zR (zO (by simp [-lenA, HH1, zI, HH3]; rfl) ?_)
     simp only [zT, zB]
     refine zR (zO (by simp [-lenA, HH1, zI, HH3]; rfl) ?_)
     simp only [zT, zB]
     exact ⟨js.length - (k + 1), _, _, by omega, by simp [-lenA, HH1, zI, HH3] <;> rfl, k + 1, i + 1, by omega, rfl, by omega, .inr ⟨0, _, by omega, hnx, rfl, rfl⟩⟩
   ·obtain ⟨tt, rfl⟩ := dInts_get hwv (k := 0) (by simp)
    simp only [encE] at hap
    have hll : l.length + 1 ≤ 1048576 := by simp at hml; omega
    have hrr : ((l.map rI).all fun r => r.length == 1) = true := by simp [rI]
    have hss : ((l.map rI).all fun r => r.all storable) = true := by simp [rI]
    have tkl : (l.map rI).take l.length = l.map rI := List.take_of_length_le (by simp)
    have HH4 := zA hi0 (zA htn (zA hk0 (zA hX (zA hwi (zA hkr (zA hr2 (zA hr4 (zA rw5 (zA fw5 (zA cw1 (zA cw2 (zA hll tkl))))))))))))
    refine zK ?_
    simp only [zT, zB]
    refine zS ?_
    refine zL ?_
    refine zS ?_
    refine zR (zO (by simp [-lenA, HH1, zI, ↓hrr, ↓hss, frz_mapI, HH4]; rfl) ?_)
    simp only [zT, zB]
    refine zS ?_
    refine zR (zO (by simp [-lenA, HH1, zI, ↓hrr, ↓hss, frz_mapI, HH4]; rfl) ?_)
    simp only [zT, zB]
    refine zR (zO (by simp [-lenA, HH1, zI, ↓hrr, ↓hss, frz_mapI, HH4]; rfl) ?_)
    simp only [zT, zB]
    refine zR (zO (by simp [-lenA, HH1, zI, ↓hrr, ↓hss, frz_mapI, HH4]; rfl) ?_)
    simp only [zT, zB]
    exact ⟨js.length - (k + 1), _, _, by omega, by simp [-lenA, HH1, zI, ↓hrr, ↓hss, frz_mapI, HH4] <;> rfl, k + 1, i + 1, by omega, rfl, by omega, .inr ⟨0, _, by omega, hnx, rfl, rfl⟩⟩
  ·have hx1 := of_decide_eq_false hlt
   have hkE : k = js.length := by omega
   have htE : js.take k = js := List.take_of_length_le (by omega)
   have hE0 : js = [] := List.eq_nil_of_length_eq_zero (by omega)
   subst hE0
   refine runs_exit ?_
   simp only [zT, zB, if_true, if_false, reduceIte, Nat.reduceEqDiff, Nat.succ_ne_zero, Nat.one_ne_zero, Nat.zero_ne_one]
   refine zS ?_
   refine zR (zO (by simp [-lenA, HH1]; rfl) ?_)
   simp only [zT, zB]
   refine runs_ret ?_
   simp [-lenA, HH1, trim, encJ]
 ·have tk : (ac.map rowJ).take (p + 1) = ac.map rowJ := List.take_of_length_le (by simp [hacl])
  have hlac : p + 1 + 1 ≤ 1048576 := by omega
  have hr3 : ∀ e : FJob, (rowJ e).length = 4 := fun _ => rfl
  have hfr := fun n h r => optAll_snoc (frN_rowJ n h ac) r
  have hrj := rowJ_rb 1 4 ac
  refine zS ?_
  refine zS ?_
  refine zR (zO (by simp [-lenA, HH1, tk, hlac, hacl, hr3, ↓hfr, ↓hrj]; rfl) ?_)
  simp only [zT, zB]
  refine runs_cond_split (x := decide (i < (js.length : Int))) (by simp) (fun hlt => ?_) (fun hlt => ?_)
  ·have hlt2 := of_decide_eq_true hlt
   have hk0 : k < js.length := by omega
   have hEt : js.take (k + 1) = js.take k ++ [js[k]] := List.take_succ_eq_append_getElem hk0
   obtain ⟨rs, tj, wv, rfl, hr1, hr2, hwv⟩ := dJobs_get hj hk0
   have hkr : k < rs.length := by omega
   have hr4 : ∀ h, rs[k]'h = [I js[k].kind, I js[k].ready, I js[k].due, wv] := fun h => by rw [List.getElem?_eq_getElem h] at hr2; exact Option.some.inj hr2
   have rw5 := fun n d => dInts_rb hwv n d
   have fw5 := fun H d => dInts_frz hwv H d
   obtain ⟨cw1, cw2⟩ := dInts_cells hwv
   have hi0 : 0 ≤ i := by omega
   have htn : i.toNat = k := by omega
   have hwi : W .i64 (i + 1) = i + 1 := W_small (by omega)
   have hml := hm js[k] (List.getElem_mem hk0)
   generalize hX : js[k] = X at *
   obtain ⟨xk, xr, xd, xm⟩ := X
   simp only at hwv hml hr2 hr4
   have hnx : ac ++ [(⟨xk, xr, xd, xm⟩ : FJob)] = js.take (k + 1) := by rw [hEt, ← hac]
   have hnl : (ac ++ [(⟨xk, xr, xd, xm⟩ : FJob)]).length = p + 1 + 1 := by simp [hacl]
   have hap : ac.map rowJ ++ [[I xk, I xr, I xd, encE xm]] = (ac ++ [(⟨xk, xr, xd, xm⟩ : FJob)]).map rowJ := by rw [List.map_append]; rfl
   rcases xm with _ | ⟨a, l⟩
   ·simp only [encE] at hap
    rcases dInts_cases hwv with ⟨rfl, _⟩ | ⟨tt, rfl⟩
    ·have HH5 := zA tk (zA hlac (zA hacl (zA hr3 (zA hi0 (zA htn (zA hk0 (zA hX (zA hwi (zA hkr (zA hr2 (zA hr4 (zA rw5 (zA fw5 (zA cw1 (zA cw2 hap)))))))))))))))
     refine zK ?_
     simp only [zT, zB]
     refine zS ?_
     refine zL ?_
     refine zS ?_
     refine zR (zO (by simp [-lenA, HH1, ↓hfr, ↓hrj, zI, HH5]; rfl) ?_)
     simp only [zT, zB]
     refine zS ?_
     refine zR (zO (by simp [-lenA, HH1, ↓hfr, ↓hrj, zI, HH5]; rfl) ?_)
     simp only [zT, zB]
     refine zR (zO (by simp [-lenA, HH1, ↓hfr, ↓hrj, zI, HH5]; rfl) ?_)
     simp only [zT, zB]
     refine zR (zO (by simp [-lenA, HH1, ↓hfr, ↓hrj, zI, HH5]; rfl) ?_)
     simp only [zT, zB]
     exact ⟨js.length - (k + 1), _, _, by omega, by simp [-lenA, HH1, ↓hfr, ↓hrj, zI, HH5] <;> rfl, k + 1, i + 1, by omega, rfl, by omega, .inr ⟨p + 1, _, by omega, hnx, hnl, rfl⟩⟩
    ·have HH6 := zA tk (zA hlac (zA hacl (zA hr3 (zA hi0 (zA htn (zA hk0 (zA hX (zA hwi (zA hkr (zA hr2 (zA hr4 (zA rw5 (zA fw5 (zA cw1 (zA cw2 hap)))))))))))))))
     refine zK ?_
     simp only [zT, zB]
     refine zS ?_
     refine zL ?_
     refine zS ?_
     refine zR (zO (by simp [-lenA, HH1, ↓hfr, ↓hrj, zI, HH6]; rfl) ?_)
     simp only [zT, zB]
     refine zS ?_
     refine zR (zO (by simp [-lenA, HH1, ↓hfr, ↓hrj, zI, HH6]; rfl) ?_)
     simp only [zT, zB]
     refine zR (zO (by simp [-lenA, HH1, ↓hfr, ↓hrj, zI, HH6]; rfl) ?_)
     simp only [zT, zB]
     refine zR (zO (by simp [-lenA, HH1, ↓hfr, ↓hrj, zI, HH6]; rfl) ?_)
     simp only [zT, zB]
     exact ⟨js.length - (k + 1), _, _, by omega, by simp [-lenA, HH1, ↓hfr, ↓hrj, zI, HH6] <;> rfl, k + 1, i + 1, by omega, rfl, by omega, .inr ⟨p + 1, _, by omega, hnx, hnl, rfl⟩⟩
   ·obtain ⟨tt, rfl⟩ := dInts_get hwv (k := 0) (by simp)
    simp only [encE] at hap
    have hll : l.length + 1 ≤ 1048576 := by simp at hml; omega
    have hrr : ((l.map rI).all fun r => r.length == 1) = true := by simp [rI]
    have hss : ((l.map rI).all fun r => r.all storable) = true := by simp [rI]
    have tkl : (l.map rI).take l.length = l.map rI := List.take_of_length_le (by simp)
    have HH7 := zA tk (zA hlac (zA hacl (zA hr3 (zA hi0 (zA htn (zA hk0 (zA hX (zA hwi (zA hkr (zA hr2 (zA hr4 (zA rw5 (zA fw5 (zA cw1 (zA cw2 (zA hll (zA tkl hap)))))))))))))))))
    refine zK ?_
    simp only [zT, zB]
    refine zS ?_
    refine zL ?_
    refine zS ?_
    refine zR (zO (by simp [-lenA, HH1, ↓hfr, ↓hrj, zI, ↓hrr, ↓hss, frz_mapI, HH7]; rfl) ?_)
    simp only [zT, zB]
    refine zS ?_
    refine zR (zO (by simp [-lenA, HH1, ↓hfr, ↓hrj, zI, ↓hrr, ↓hss, frz_mapI, HH7]; rfl) ?_)
    simp only [zT, zB]
    refine zR (zO (by simp [-lenA, HH1, ↓hfr, ↓hrj, zI, ↓hrr, ↓hss, frz_mapI, HH7]; rfl) ?_)
    simp only [zT, zB]
    refine zR (zO (by simp [-lenA, HH1, ↓hfr, ↓hrj, zI, ↓hrr, ↓hss, frz_mapI, HH7]; rfl) ?_)
    simp only [zT, zB]
    exact ⟨js.length - (k + 1), _, _, by omega, by simp [-lenA, HH1, ↓hfr, ↓hrj, zI, ↓hrr, ↓hss, frz_mapI, HH7] <;> rfl, k + 1, i + 1, by omega, rfl, by omega, .inr ⟨p + 1, _, by omega, hnx, hnl, rfl⟩⟩
  ·have hx1 := of_decide_eq_false hlt
   have hkE : k = js.length := by omega
   have htE : js.take k = js := List.take_of_length_le (by omega)
   rw [htE] at hac
   subst hac
   rw [encJ_ne (by intro e; rw [e] at hacl; simp at hacl)]
   refine runs_exit ?_
   simp only [zT, zB, if_true, if_false, reduceIte, Nat.reduceEqDiff, Nat.succ_ne_zero, Nat.one_ne_zero, Nat.zero_ne_one]
   refine zS ?_
   refine zR (zO (by simp [-lenA, HH1, tk, hlac, hacl, hr3, ↓hfr, ↓hrj, frz_rowJ]; rfl) ?_)
   simp only [zT, zB]
   refine runs_ret ?_
   simp [-lenA, HH1, tk, hlac, hacl, hr3, ↓hfr, ↓hrj, frz_rowJ, trim]
end
section
attribute [local simp] Function.comp_def List.all_append List.all_map above callA calleeA frNB_none frNB_row frN_agg frN_bool frN_int frN_nils frN_ref frN_sl frN_tup frN_vl frzG gather getR lim lop loud lowA lowR norm okG putG putR rbB_none rbB_row resG rowAt takeG
def oJobs : List AVal → Option AVal
  | [j] => match dJobs j with
    | some js => if js.length ≤ 1000 ∧ ∀ x ∈ js, x.mins.length ≤ 1000 then some (encJ js) else none
    | none => none
  | _ => none
theorem jobs_eq {j : AVal} {js : List FJob} (hj : dJobs j = some js) (h : js.length ≤ 1000 ∧ ∀ x ∈ js, x.mins.length ≤ 1000) : oJobs [j] = some (encJ js) := by
  simp only [oJobs, hj]; rw [if_pos h]
theorem a17 (P : Program) (T : Nat → Option CFn) (hT : T 17 = some c17) (h60 : T 60 = some { c60 with body := annK [(25, [.slot 3])] [] c60.body, frsh := false, orc := oJobs }) (j : AVal) (js : List FJob) (hj : dJobs j = some js) (hl : js.length ≤ 1000) (hm : ∀ x ∈ js, x.mins.length ≤ 1000) : Answers P T 17 [j] [] fun v h => frz false h 5 v = some (encJ js) := by
 have fj := fun H d => dJobs_frz hj H d
 have rj := fun n d => dJobs_rb hj n d
 have h := jobs_eq hj ⟨hl, hm⟩
 have he := dJobs_encJ js
 generalize encJ js = e at *
 have fe := fun H d => dJobs_frz he H d
 refine answers_of hT (orcF_none rfl) ?_
 simp only [oo, om, op, og, ci, cl, c17]
 have HH1 := zA h60 (zA fj (zA rj (zA h fe)))
 refine zS ?_
 refine zR (zO (by simp [zC h60, HH1]; rfl) ?_)
 simp only [zT, zB]
 refine zS ?_
 refine zR (zO (by simp [zC h60, HH1]; rfl) ?_)
 simp only [zT, zB]
 refine runs_ret ?_
 simp [zC h60, HH1, trim]
noncomputable def FO1_60 : Nat → Option CFn := upd FN2 60 false (oJobs)
theorem FO1_60_ok : TabOk Tryz.prog GG FO1_60 := tab_add mixed FN2_ok fun args v ho => by
  unfold oJobs at ho; split at ho <;> (try simp only [reduceCtorEq] at ho)
  rename_i j
  split at ho <;> (try simp only [reduceCtorEq] at ho)
  rename_i js hj
  split at ho <;> (try simp only [reduceCtorEq] at ho)
  rename_i hg
  simp only [Option.some.injEq] at ho
  subst ho
  exact a60 Tryz.prog FN2 rfl  j js hj hg.1 hg.2
noncomputable def FO1 : Nat → Option CFn := upd FO1_60 17 false (oJobs)
theorem FO1_ok : TabOk Tryz.prog GG FO1 := tab_add mixed FO1_60_ok fun args v ho => by
  unfold oJobs at ho; split at ho <;> (try simp only [reduceCtorEq] at ho)
  rename_i j
  split at ho <;> (try simp only [reduceCtorEq] at ho)
  rename_i js hj
  split at ho <;> (try simp only [reduceCtorEq] at ho)
  rename_i hg
  simp only [Option.some.injEq] at ho
  subst ho
  exact a17 Tryz.prog FO1_60 rfl rfl j js hj hg.1 hg.2
noncomputable def FO2 : Nat → Option CFn := updG FO1 59 [(30, [.cell 3 1])] []
theorem FO2_ok : TabOk Tryz.prog GG FO2 := tab_updG FO1_ok
def rowC (l : List Int) : List AVal := [encE l]
def encC (cs : List (List Int)) : AVal := match cs with | [] => .nils | x :: l => .vl ((x :: l).map rowC) false
theorem encC_ne {cs : List (List Int)} (h : cs ≠ []) : encC cs = .vl (cs.map rowC) false := by cases cs with | nil => exact absurd rfl h | cons x l => rfl
theorem dInts2_encC (cs : List (List Int)) : dInts2 (encC cs) = some cs := by
  cases cs with
  | nil => rfl
  | cons x l =>
    simp only [encC, dInts2, rowsV]
    exact optAll_map (d := dRow1) (enc := rowC) (fun l => dInts_encE l) (x :: l)
def encT (ts : List FStop) : AVal := match ts with | [] => .vl [] true | x :: l => .vl ((x :: l).map rS3) false
theorem dStops_encT (ts : List FStop) : dStops (encT ts) = some ts := by
  cases ts with
  | nil => rfl
  | cons x l => exact dStops_of (v := .vl ((x :: l).map rS3) false) rfl
theorem frN_rowC (n : Nat) (h : Heap) (cs : List (List Int)) : ∀ r ∈ cs.map rowC, optAll (frN n h 5) r = some r := fun r hr => by
  obtain ⟨j, _, rfl⟩ := List.mem_map.1 hr
  refine optAll_self _ fun x hx => ?_
  simp only [rowC, List.mem_cons, List.not_mem_nil, or_false] at hx
  subst hx
  cases j <;> rfl
theorem frz_rowC (H : Heap) (d : Nat) (cs : List (List Int)) : optAll (optAll (frz false H (d + 1))) (cs.map rowC) = some (cs.map rowC) := optAll_self _ fun r hr => optAll_self _ fun x hx => by
  obtain ⟨j, _, rfl⟩ := List.mem_map.1 hr
  simp only [rowC, List.mem_cons, List.not_mem_nil, or_false] at hx
  subst hx
  cases j <;> rfl
theorem rowC_rb (n d : Nat) (cs : List (List Int)) : ((cs.map rowC).all fun r => r.all (rb n (d + 1))) = true := by
  simp only [List.all_eq_true]
  intro r hr z hz
  obtain ⟨j, _, rfl⟩ := List.mem_map.1 hr
  simp only [rowC, List.mem_cons, List.not_mem_nil, or_false] at hz
  subst hz
  cases j <;> rfl
theorem frz_mapT (nv : Bool) (H : Heap) (d : Nat) (ts : List FStop) : optAll (optAll (frz nv H (d + 1))) (ts.map rS3) = some (ts.map rS3) := optAll_self _ fun r hr => optAll_self _ fun x hx => by
  obtain ⟨j, _, rfl⟩ := List.mem_map.1 hr
  simp only [rS3, List.mem_cons, List.not_mem_nil, or_false] at hx
  rcases hx with rfl | rfl | rfl <;> rfl
theorem rS3_rb (n d : Nat) (ts : List FStop) : ((ts.map rS3).all fun r => r.all (rb n (d + 1))) = true := by
  simp only [List.all_eq_true]
  intro r hr z hz
  obtain ⟨j, _, rfl⟩ := List.mem_map.1 hr
  simp only [rS3, List.mem_cons, List.not_mem_nil, or_false] at hz
  rcases hz with rfl | rfl | rfl <;> rfl
theorem dStops_cases {v : AVal} {xs : List FStop} (h : dStops v = some xs) : (v = .nils ∧ xs = []) ∨ ∃ t, v = .vl (xs.map rS3) t := by
  rcases rowsV_cases (dStops_rows h) with ⟨h1, h2⟩ | h1
  · exact .inl ⟨h1, List.map_eq_nil_iff.1 h2⟩
  · exact .inr h1
theorem a59 (P : Program) (T : Nat → Option CFn) (hT : T 59 = some { c59 with body := annK [(30, [.cell 3 1])] [] c59.body }) (m : Int) (c t : AVal) (cs : List (List Int)) (ts : List FStop) (hc : dInts2 c = some cs) (ht : dStops t = some ts) (hm1 : cs.length ≤ 1000) (hm2 : ∀ x ∈ cs, x.length ≤ 1000) (hm3 : ts.length ≤ 1000) : Answers P T 59 [.agg [I m, c, t]] [] fun v h => frz false h 5 v = some (.agg [I m, encC cs, encT ts]) := by
 have fc := fun H d => dInts2_frz hc H d
 have ft := fun H d => dStops_frz ht H d
 have rc := fun n d => dInts2_rb hc n d
 have rt := fun n d => dStops_rb ht n d
 have lc := dInts2_len hc
 have lt := dStops_len ht
 obtain ⟨cc1, cc2⟩ := dInts2_cells hc
 obtain ⟨ct1, ct2⟩ := dStops_cells ht
 refine answers_of hT (orcF_none rfl) ?_
 simp only [oo, om, op, og, ci, cl, c59, annK, lkG, lkR, reduceIte, Nat.reduceEqDiff, reduceCtorEq, List.cons.injEq, and_true, and_false, false_and, true_and]
 rcases ts with _ | ⟨ta, tl⟩
 ·rcases dStops_cases ht with ⟨rfl, _⟩ | ⟨tt, rfl⟩
  ·have HH1 := zA fc (zA ft (zA rc (zA rt (zA lc (zA lt (zA cc1 (zA cc2 (zA ct1 ct2))))))))
   refine zS ?_
   refine zR (zO (by simp [-lenA, HH1]; rfl) ?_)
   simp only [zT, zB]
   refine zS ?_
   refine runs_drw (by simp (maxSteps := 3000000) [-lenA, HH1]; rfl) ?_
   simp only [zT, zB]
   refine zS ?_
   refine zS ?_
   refine zR (zO (by simp [-lenA, HH1]; rfl) ?_)
   simp only [zT, zB]
   refine zL ?_
   refine runs_loopG_inv (fun mm σ => ∃ (k : Nat) (i : Int), i = k ∧ cs.length - k = mm ∧ k ≤ cs.length ∧ ((k = 0 ∧ σ = ⟨[.any, .ref 0 0 0, .ref 1 0 0, .ref 9 0 0, I i, .any, .any, .any, .any, .any, .any, .any, .any, .any, .any, .any, .any, .any, .any, .any, .any, .any, .any, .any, .any, .any, .any, .any, .any, .any, .any, .any], [some (.row 3 [[I m, c, .nils]]), some (.row 3 [[I 0, .nils, .nils]]), none, none, some (.row 3 []), none, none, none, none, some (.row 3 [[I m, .nils, .sl 4 0 0 true]]), none, none]⟩) ∨ (∃ (p : Nat) (ac : List (List Int)), k = p + 1 ∧ ac = cs.take k ∧ ac.length = p + 1 ∧ σ = ⟨[.any, .ref 0 0 0, .ref 1 0 0, .ref 9 0 0, I i, .any, .any, .any, .any, .any, .any, .any, .any, .any, .any, .any, .any, .any, .any, .any, .any, .any, .any, .any, .any, .any, .any, .any, .any, .any, .any, .any], [some (.row 3 [[I m, c, .nils]]), some (.row 3 [[I 0, .nils, .nils]]), none, none, some (.row 3 []), none, none, none, none, some (.row 3 [[I m, .sl 11 0 (p + 1) false, .sl 4 0 0 true]]), none, some (.row 1 (ac.map rowC))]⟩))) (by simp [-lenA, HH1] <;> first | exact ⟨rfl, rfl⟩ | rfl) (⟨0, 0, rfl, rfl, Nat.zero_le _, .inl ⟨rfl, rfl⟩⟩) ?_
   rintro mm σ ⟨k, i, hik, rfl, hkl, ⟨hk0', rfl⟩ | ⟨p, ac, hkp, hac, hacl, rfl⟩⟩
   ·refine zS ?_
    refine zS ?_
    refine zR (zO (by simp [-lenA, HH1]; rfl) ?_)
    simp only [zT, zB]
    refine runs_cond_split (x := decide (i < (cs.length : Int))) (by simp) (fun hlt => ?_) (fun hlt => ?_)
    ·have hlt2 := of_decide_eq_true hlt
     have hk0 : k < cs.length := by omega
     have hEt : cs.take (k + 1) = cs.take k ++ [cs[k]] := List.take_succ_eq_append_getElem hk0
     obtain ⟨rs, tj, wv, rfl, hr1, hr2, hwv⟩ := dInts2_get hc hk0
     have hkr : k < rs.length := by omega
     have hr4 : ∀ h, rs[k]'h = [wv] := fun h => by rw [List.getElem?_eq_getElem h] at hr2; exact Option.some.inj hr2
     have rw5 := fun n d => dInts_rb hwv n d
     have fw5 := fun H d => dInts_frz hwv H d
     obtain ⟨cw1, cw2⟩ := dInts_cells hwv
     have hi0 : 0 ≤ i := by omega
     have htn : i.toNat = k := by omega
     have hwi : W .i64 (i + 1) = i + 1 := W_small (by omega)
     have hml := hm2 cs[k] (List.getElem_mem hk0)
     generalize hX : cs[k] = xm at *
     have hnx : [xm] = cs.take (k + 1) := by rw [hEt, hk0']; rfl
     have hap : [[encE xm]] = [xm].map rowC := rfl
     rcases xm with _ | ⟨a, l⟩
     ·simp only [encE] at hap
      rcases dInts_cases hwv with ⟨rfl, _⟩ | ⟨tt, rfl⟩
      ·have HH2 := zA hi0 (zA htn (zA hk0 (zA hX (zA hwi (zA hkr (zA hr2 (zA hr4 (zA rw5 (zA fw5 (zA cw1 cw2))))))))))
       refine zK ?_
       simp only [zT, zB]
       refine zS ?_
       refine zL ?_
       refine runs_drw (by simp (maxSteps := 3000000) [-lenA, HH1, zI, HH2]; rfl) ?_
       simp only [zT, zB]
       refine zR (zO (by simp [-lenA, HH1, zI, HH2]; rfl) ?_)
       simp only [zT, zB]
       exact ⟨cs.length - (k + 1), _, _, by omega, by simp [-lenA, HH1, zI, HH2] <;> rfl, k + 1, i + 1, by omega, rfl, by omega, .inr ⟨0, _, by omega, hnx, rfl, rfl⟩⟩
      ·have HH3 := zA hi0 (zA htn (zA hk0 (zA hX (zA hwi (zA hkr (zA hr2 (zA hr4 (zA rw5 (zA fw5 (zA cw1 cw2))))))))))
       refine zK ?_
       simp only [zT, zB]
       refine zS ?_
       refine zL ?_
       refine runs_drw (by simp (maxSteps := 3000000) [-lenA, HH1, zI, HH3]; rfl) ?_
       simp only [zT, zB]
       refine zR (zO (by simp [-lenA, HH1, zI, HH3]; rfl) ?_)
       simp only [zT, zB]
       exact ⟨cs.length - (k + 1), _, _, by omega, by simp [-lenA, HH1, zI, HH3] <;> rfl, k + 1, i + 1, by omega, rfl, by omega, .inr ⟨0, _, by omega, hnx, rfl, rfl⟩⟩
     ·obtain ⟨tt, rfl⟩ := dInts_get hwv (k := 0) (by simp)
      simp only [encE] at hap
      have hll : l.length + 1 ≤ 1048576 := by simp at hml; omega
      have hrr : ((l.map rI).all fun r => r.length == 1) = true := by simp [rI]
      have hss : ((l.map rI).all fun r => r.all storable) = true := by simp [rI]
      have tkl : (l.map rI).take l.length = l.map rI := List.take_of_length_le (by simp)
      have HH4 := zA hi0 (zA htn (zA hk0 (zA hX (zA hwi (zA hkr (zA hr2 (zA hr4 (zA rw5 (zA fw5 (zA cw1 (zA cw2 (zA hll tkl))))))))))))
      refine zK ?_
      simp only [zT, zB]
      refine zS ?_
      refine zL ?_
      refine runs_drw (by simp (maxSteps := 3000000) [-lenA, HH1, zI, ↓hrr, ↓hss, frz_mapI, HH4]; rfl) ?_
      simp only [zT, zB]
      refine zR (zO (by simp [-lenA, HH1, zI, ↓hrr, ↓hss, frz_mapI, HH4]; rfl) ?_)
      simp only [zT, zB]
      exact ⟨cs.length - (k + 1), _, _, by omega, by simp [-lenA, HH1, zI, ↓hrr, ↓hss, frz_mapI, HH4] <;> rfl, k + 1, i + 1, by omega, rfl, by omega, .inr ⟨0, _, by omega, hnx, rfl, rfl⟩⟩
    ·have hx1 := of_decide_eq_false hlt
     have hkE : k = cs.length := by omega
     have htE : cs.take k = cs := List.take_of_length_le (by omega)
     have hE0 : cs = [] := List.eq_nil_of_length_eq_zero (by omega)
     subst hE0
     refine runs_exit ?_
     simp only [zT, zB, if_true, if_false, reduceIte, Nat.reduceEqDiff, Nat.succ_ne_zero, Nat.one_ne_zero, Nat.zero_ne_one]
     refine zS ?_
     refine zR (zO (by simp [-lenA, HH1]; rfl) ?_)
     simp only [zT, zB]
     refine runs_ret ?_
     simp [-lenA, HH1, trim, encC, encT]
   ·have tk : (ac.map rowC).take (p + 1) = ac.map rowC := List.take_of_length_le (by simp [hacl])
    have hlac : p + 1 + 1 ≤ 1048576 := by omega
    have hr3 : ∀ e : List Int, (rowC e).length = 1 := fun _ => rfl
    have hfr := fun n h r => optAll_snoc (frN_rowC n h ac) r
    have hrj := rowC_rb 11 4 ac
    refine zS ?_
    refine zS ?_
    refine zR (zO (by simp [-lenA, HH1, tk, hlac, hacl, hr3, ↓hfr, ↓hrj]; rfl) ?_)
    simp only [zT, zB]
    refine runs_cond_split (x := decide (i < (cs.length : Int))) (by simp) (fun hlt => ?_) (fun hlt => ?_)
    ·have hlt2 := of_decide_eq_true hlt
     have hk0 : k < cs.length := by omega
     have hEt : cs.take (k + 1) = cs.take k ++ [cs[k]] := List.take_succ_eq_append_getElem hk0
     obtain ⟨rs, tj, wv, rfl, hr1, hr2, hwv⟩ := dInts2_get hc hk0
     have hkr : k < rs.length := by omega
     have hr4 : ∀ h, rs[k]'h = [wv] := fun h => by rw [List.getElem?_eq_getElem h] at hr2; exact Option.some.inj hr2
     have rw5 := fun n d => dInts_rb hwv n d
     have fw5 := fun H d => dInts_frz hwv H d
     obtain ⟨cw1, cw2⟩ := dInts_cells hwv
     have hi0 : 0 ≤ i := by omega
     have htn : i.toNat = k := by omega
     have hwi : W .i64 (i + 1) = i + 1 := W_small (by omega)
     have hml := hm2 cs[k] (List.getElem_mem hk0)
     generalize hX : cs[k] = xm at *
     have hnx : ac ++ [xm] = cs.take (k + 1) := by rw [hEt, ← hac]
     have hnl : (ac ++ [xm]).length = p + 1 + 1 := by simp [hacl]
     have hap : ac.map rowC ++ [[encE xm]] = (ac ++ [xm]).map rowC := by rw [List.map_append]; rfl
     rcases xm with _ | ⟨a, l⟩
     ·simp only [encE] at hap
      rcases dInts_cases hwv with ⟨rfl, _⟩ | ⟨tt, rfl⟩
      ·have HH5 := zA tk (zA hlac (zA hacl (zA hr3 (zA hi0 (zA htn (zA hk0 (zA hX (zA hwi (zA hkr (zA hr2 (zA hr4 (zA rw5 (zA fw5 (zA cw1 (zA cw2 hap)))))))))))))))
       refine zK ?_
       simp only [zT, zB]
       refine zS ?_
       refine zL ?_
       refine runs_drw (by simp (maxSteps := 3000000) [-lenA, HH1, ↓hfr, ↓hrj, zI, HH5]; rfl) ?_
       simp only [zT, zB]
       refine zR (zO (by simp [-lenA, HH1, ↓hfr, ↓hrj, zI, HH5]; rfl) ?_)
       simp only [zT, zB]
       exact ⟨cs.length - (k + 1), _, _, by omega, by simp [-lenA, HH1, ↓hfr, ↓hrj, zI, HH5] <;> rfl, k + 1, i + 1, by omega, rfl, by omega, .inr ⟨p + 1, _, by omega, hnx, hnl, rfl⟩⟩
      ·have HH6 := zA tk (zA hlac (zA hacl (zA hr3 (zA hi0 (zA htn (zA hk0 (zA hX (zA hwi (zA hkr (zA hr2 (zA hr4 (zA rw5 (zA fw5 (zA cw1 (zA cw2 hap)))))))))))))))
       refine zK ?_
       simp only [zT, zB]
       refine zS ?_
       refine zL ?_
       refine runs_drw (by simp (maxSteps := 3000000) [-lenA, HH1, ↓hfr, ↓hrj, zI, HH6]; rfl) ?_
       simp only [zT, zB]
       refine zR (zO (by simp [-lenA, HH1, ↓hfr, ↓hrj, zI, HH6]; rfl) ?_)
       simp only [zT, zB]
       exact ⟨cs.length - (k + 1), _, _, by omega, by simp [-lenA, HH1, ↓hfr, ↓hrj, zI, HH6] <;> rfl, k + 1, i + 1, by omega, rfl, by omega, .inr ⟨p + 1, _, by omega, hnx, hnl, rfl⟩⟩
     ·obtain ⟨tt, rfl⟩ := dInts_get hwv (k := 0) (by simp)
      simp only [encE] at hap
      have hll : l.length + 1 ≤ 1048576 := by simp at hml; omega
      have hrr : ((l.map rI).all fun r => r.length == 1) = true := by simp [rI]
      have hss : ((l.map rI).all fun r => r.all storable) = true := by simp [rI]
      have tkl : (l.map rI).take l.length = l.map rI := List.take_of_length_le (by simp)
      have HH7 := zA tk (zA hlac (zA hacl (zA hr3 (zA hi0 (zA htn (zA hk0 (zA hX (zA hwi (zA hkr (zA hr2 (zA hr4 (zA rw5 (zA fw5 (zA cw1 (zA cw2 (zA hll (zA tkl hap)))))))))))))))))
      refine zK ?_
      simp only [zT, zB]
      refine zS ?_
      refine zL ?_
      refine runs_drw (by simp (maxSteps := 3000000) [-lenA, HH1, ↓hfr, ↓hrj, zI, ↓hrr, ↓hss, frz_mapI, HH7]; rfl) ?_
      simp only [zT, zB]
      refine zR (zO (by simp [-lenA, HH1, ↓hfr, ↓hrj, zI, ↓hrr, ↓hss, frz_mapI, HH7]; rfl) ?_)
      simp only [zT, zB]
      exact ⟨cs.length - (k + 1), _, _, by omega, by simp [-lenA, HH1, ↓hfr, ↓hrj, zI, ↓hrr, ↓hss, frz_mapI, HH7] <;> rfl, k + 1, i + 1, by omega, rfl, by omega, .inr ⟨p + 1, _, by omega, hnx, hnl, rfl⟩⟩
    ·have hx1 := of_decide_eq_false hlt
     have hkE : k = cs.length := by omega
     have htE : cs.take k = cs := List.take_of_length_le (by omega)
     rw [htE] at hac
     subst hac
     rw [encC_ne (by intro e; rw [e] at hacl; simp at hacl)]
     refine runs_exit ?_
     simp only [zT, zB, if_true, if_false, reduceIte, Nat.reduceEqDiff, Nat.succ_ne_zero, Nat.one_ne_zero, Nat.zero_ne_one]
     refine zS ?_
     refine zR (zO (by simp [-lenA, HH1, tk, hlac, hacl, hr3, ↓hfr, ↓hrj, frz_rowC]; rfl) ?_)
     simp only [zT, zB]
     refine runs_ret ?_
     simp [-lenA, HH1, tk, hlac, hacl, hr3, ↓hfr, ↓hrj, frz_rowC, trim, encT]
  ·have HH8 := zA fc (zA ft (zA rc (zA rt (zA lc (zA lt (zA cc1 (zA cc2 (zA ct1 ct2))))))))
   refine zS ?_
   refine zR (zO (by simp [-lenA, HH8]; rfl) ?_)
   simp only [zT, zB]
   refine zS ?_
   refine runs_drw (by simp (maxSteps := 3000000) [-lenA, HH8]; rfl) ?_
   simp only [zT, zB]
   refine zS ?_
   refine zS ?_
   refine zR (zO (by simp [-lenA, HH8]; rfl) ?_)
   simp only [zT, zB]
   refine zL ?_
   refine runs_loopG_inv (fun mm σ => ∃ (k : Nat) (i : Int), i = k ∧ cs.length - k = mm ∧ k ≤ cs.length ∧ ((k = 0 ∧ σ = ⟨[.any, .ref 0 0 0, .ref 1 0 0, .ref 9 0 0, I i, .any, .any, .any, .any, .any, .any, .any, .any, .any, .any, .any, .any, .any, .any, .any, .any, .any, .any, .any, .any, .any, .any, .any, .any, .any, .any, .any], [some (.row 3 [[I m, c, .vl [] tt]]), some (.row 3 [[I 0, .nils, .nils]]), none, none, some (.row 3 []), none, none, none, none, some (.row 3 [[I m, .nils, .sl 4 0 0 true]]), none, none]⟩) ∨ (∃ (p : Nat) (ac : List (List Int)), k = p + 1 ∧ ac = cs.take k ∧ ac.length = p + 1 ∧ σ = ⟨[.any, .ref 0 0 0, .ref 1 0 0, .ref 9 0 0, I i, .any, .any, .any, .any, .any, .any, .any, .any, .any, .any, .any, .any, .any, .any, .any, .any, .any, .any, .any, .any, .any, .any, .any, .any, .any, .any, .any], [some (.row 3 [[I m, c, .vl [] tt]]), some (.row 3 [[I 0, .nils, .nils]]), none, none, some (.row 3 []), none, none, none, none, some (.row 3 [[I m, .sl 11 0 (p + 1) false, .sl 4 0 0 true]]), none, some (.row 1 (ac.map rowC))]⟩))) (by simp [-lenA, HH8] <;> first | exact ⟨rfl, rfl⟩ | rfl) (⟨0, 0, rfl, rfl, Nat.zero_le _, .inl ⟨rfl, rfl⟩⟩) ?_
   rintro mm σ ⟨k, i, hik, rfl, hkl, ⟨hk0', rfl⟩ | ⟨p, ac, hkp, hac, hacl, rfl⟩⟩
   ·refine zS ?_
    refine zS ?_
    refine zR (zO (by simp [-lenA, HH8]; rfl) ?_)
    simp only [zT, zB]
    refine runs_cond_split (x := decide (i < (cs.length : Int))) (by simp) (fun hlt => ?_) (fun hlt => ?_)
    ·have hlt2 := of_decide_eq_true hlt
     have hk0 : k < cs.length := by omega
     have hEt : cs.take (k + 1) = cs.take k ++ [cs[k]] := List.take_succ_eq_append_getElem hk0
     obtain ⟨rs, tj, wv, rfl, hr1, hr2, hwv⟩ := dInts2_get hc hk0
     have hkr : k < rs.length := by omega
     have hr4 : ∀ h, rs[k]'h = [wv] := fun h => by rw [List.getElem?_eq_getElem h] at hr2; exact Option.some.inj hr2
     have rw5 := fun n d => dInts_rb hwv n d
     have fw5 := fun H d => dInts_frz hwv H d
     obtain ⟨cw1, cw2⟩ := dInts_cells hwv
     have hi0 : 0 ≤ i := by omega
     have htn : i.toNat = k := by omega
     have hwi : W .i64 (i + 1) = i + 1 := W_small (by omega)
     have hml := hm2 cs[k] (List.getElem_mem hk0)
     generalize hX : cs[k] = xm at *
     have hnx : [xm] = cs.take (k + 1) := by rw [hEt, hk0']; rfl
     have hap : [[encE xm]] = [xm].map rowC := rfl
     rcases xm with _ | ⟨a, l⟩
     ·simp only [encE] at hap
      rcases dInts_cases hwv with ⟨rfl, _⟩ | ⟨tt, rfl⟩
      ·have HH9 := zA hi0 (zA htn (zA hk0 (zA hX (zA hwi (zA hkr (zA hr2 (zA hr4 (zA rw5 (zA fw5 (zA cw1 cw2))))))))))
       refine zK ?_
       simp only [zT, zB]
       refine zS ?_
       refine zL ?_
       refine runs_drw (by simp (maxSteps := 3000000) [-lenA, HH8, zI, HH9]; rfl) ?_
       simp only [zT, zB]
       refine zR (zO (by simp [-lenA, HH8, zI, HH9]; rfl) ?_)
       simp only [zT, zB]
       exact ⟨cs.length - (k + 1), _, _, by omega, by simp [-lenA, HH8, zI, HH9] <;> rfl, k + 1, i + 1, by omega, rfl, by omega, .inr ⟨0, _, by omega, hnx, rfl, rfl⟩⟩
      ·have HH10 := zA hi0 (zA htn (zA hk0 (zA hX (zA hwi (zA hkr (zA hr2 (zA hr4 (zA rw5 (zA fw5 (zA cw1 cw2))))))))))
       refine zK ?_
       simp only [zT, zB]
       refine zS ?_
       refine zL ?_
       refine runs_drw (by simp (maxSteps := 3000000) [-lenA, HH8, zI, HH10]; rfl) ?_
       simp only [zT, zB]
       refine zR (zO (by simp [-lenA, HH8, zI, HH10]; rfl) ?_)
       simp only [zT, zB]
       exact ⟨cs.length - (k + 1), _, _, by omega, by simp [-lenA, HH8, zI, HH10] <;> rfl, k + 1, i + 1, by omega, rfl, by omega, .inr ⟨0, _, by omega, hnx, rfl, rfl⟩⟩
     ·obtain ⟨tt, rfl⟩ := dInts_get hwv (k := 0) (by simp)
      simp only [encE] at hap
      have hll : l.length + 1 ≤ 1048576 := by simp at hml; omega
      have hrr : ((l.map rI).all fun r => r.length == 1) = true := by simp [rI]
      have hss : ((l.map rI).all fun r => r.all storable) = true := by simp [rI]
      have tkl : (l.map rI).take l.length = l.map rI := List.take_of_length_le (by simp)
      have HH11 := zA hi0 (zA htn (zA hk0 (zA hX (zA hwi (zA hkr (zA hr2 (zA hr4 (zA rw5 (zA fw5 (zA cw1 (zA cw2 (zA hll tkl))))))))))))
      refine zK ?_
      simp only [zT, zB]
      refine zS ?_
      refine zL ?_
      refine runs_drw (by simp (maxSteps := 3000000) [-lenA, HH8, zI, ↓hrr, ↓hss, frz_mapI, HH11]; rfl) ?_
      simp only [zT, zB]
      refine zR (zO (by simp [-lenA, HH8, zI, ↓hrr, ↓hss, frz_mapI, HH11]; rfl) ?_)
      simp only [zT, zB]
      exact ⟨cs.length - (k + 1), _, _, by omega, by simp [-lenA, HH8, zI, ↓hrr, ↓hss, frz_mapI, HH11] <;> rfl, k + 1, i + 1, by omega, rfl, by omega, .inr ⟨0, _, by omega, hnx, rfl, rfl⟩⟩
    ·have hx1 := of_decide_eq_false hlt
     have hkE : k = cs.length := by omega
     have htE : cs.take k = cs := List.take_of_length_le (by omega)
     have hE0 : cs = [] := List.eq_nil_of_length_eq_zero (by omega)
     subst hE0
     refine runs_exit ?_
     simp only [zT, zB, if_true, if_false, reduceIte, Nat.reduceEqDiff, Nat.succ_ne_zero, Nat.one_ne_zero, Nat.zero_ne_one]
     refine zS ?_
     refine zR (zO (by simp [-lenA, HH8]; rfl) ?_)
     simp only [zT, zB]
     refine runs_ret ?_
     simp [-lenA, HH8, trim, encC, encT]
   ·have tk : (ac.map rowC).take (p + 1) = ac.map rowC := List.take_of_length_le (by simp [hacl])
    have hlac : p + 1 + 1 ≤ 1048576 := by omega
    have hr3 : ∀ e : List Int, (rowC e).length = 1 := fun _ => rfl
    have hfr := fun n h r => optAll_snoc (frN_rowC n h ac) r
    have hrj := rowC_rb 11 4 ac
    refine zS ?_
    refine zS ?_
    refine zR (zO (by simp [-lenA, HH8, tk, hlac, hacl, hr3, ↓hfr, ↓hrj]; rfl) ?_)
    simp only [zT, zB]
    refine runs_cond_split (x := decide (i < (cs.length : Int))) (by simp) (fun hlt => ?_) (fun hlt => ?_)
    ·have hlt2 := of_decide_eq_true hlt
     have hk0 : k < cs.length := by omega
     have hEt : cs.take (k + 1) = cs.take k ++ [cs[k]] := List.take_succ_eq_append_getElem hk0
     obtain ⟨rs, tj, wv, rfl, hr1, hr2, hwv⟩ := dInts2_get hc hk0
     have hkr : k < rs.length := by omega
     have hr4 : ∀ h, rs[k]'h = [wv] := fun h => by rw [List.getElem?_eq_getElem h] at hr2; exact Option.some.inj hr2
     have rw5 := fun n d => dInts_rb hwv n d
     have fw5 := fun H d => dInts_frz hwv H d
     obtain ⟨cw1, cw2⟩ := dInts_cells hwv
     have hi0 : 0 ≤ i := by omega
     have htn : i.toNat = k := by omega
     have hwi : W .i64 (i + 1) = i + 1 := W_small (by omega)
     have hml := hm2 cs[k] (List.getElem_mem hk0)
     generalize hX : cs[k] = xm at *
     have hnx : ac ++ [xm] = cs.take (k + 1) := by rw [hEt, ← hac]
     have hnl : (ac ++ [xm]).length = p + 1 + 1 := by simp [hacl]
     have hap : ac.map rowC ++ [[encE xm]] = (ac ++ [xm]).map rowC := by rw [List.map_append]; rfl
     rcases xm with _ | ⟨a, l⟩
     ·simp only [encE] at hap
      rcases dInts_cases hwv with ⟨rfl, _⟩ | ⟨tt, rfl⟩
      ·have HH12 := zA tk (zA hlac (zA hacl (zA hr3 (zA hi0 (zA htn (zA hk0 (zA hX (zA hwi (zA hkr (zA hr2 (zA hr4 (zA rw5 (zA fw5 (zA cw1 (zA cw2 hap)))))))))))))))
       refine zK ?_
       simp only [zT, zB]
       refine zS ?_
       refine zL ?_
       refine runs_drw (by simp (maxSteps := 3000000) [-lenA, HH8, ↓hfr, ↓hrj, zI, HH12]; rfl) ?_
       simp only [zT, zB]
       refine zR (zO (by simp [-lenA, HH8, ↓hfr, ↓hrj, zI, HH12]; rfl) ?_)
       simp only [zT, zB]
       exact ⟨cs.length - (k + 1), _, _, by omega, by simp [-lenA, HH8, ↓hfr, ↓hrj, zI, HH12] <;> rfl, k + 1, i + 1, by omega, rfl, by omega, .inr ⟨p + 1, _, by omega, hnx, hnl, rfl⟩⟩
      ·have HH13 := zA tk (zA hlac (zA hacl (zA hr3 (zA hi0 (zA htn (zA hk0 (zA hX (zA hwi (zA hkr (zA hr2 (zA hr4 (zA rw5 (zA fw5 (zA cw1 (zA cw2 hap)))))))))))))))
       refine zK ?_
       simp only [zT, zB]
       refine zS ?_
       refine zL ?_
       refine runs_drw (by simp (maxSteps := 3000000) [-lenA, HH8, ↓hfr, ↓hrj, zI, HH13]; rfl) ?_
       simp only [zT, zB]
       refine zR (zO (by simp [-lenA, HH8, ↓hfr, ↓hrj, zI, HH13]; rfl) ?_)
       simp only [zT, zB]
       exact ⟨cs.length - (k + 1), _, _, by omega, by simp [-lenA, HH8, ↓hfr, ↓hrj, zI, HH13] <;> rfl, k + 1, i + 1, by omega, rfl, by omega, .inr ⟨p + 1, _, by omega, hnx, hnl, rfl⟩⟩
     ·obtain ⟨tt, rfl⟩ := dInts_get hwv (k := 0) (by simp)
      simp only [encE] at hap
      have hll : l.length + 1 ≤ 1048576 := by simp at hml; omega
      have hrr : ((l.map rI).all fun r => r.length == 1) = true := by simp [rI]
      have hss : ((l.map rI).all fun r => r.all storable) = true := by simp [rI]
      have tkl : (l.map rI).take l.length = l.map rI := List.take_of_length_le (by simp)
      have HH14 := zA tk (zA hlac (zA hacl (zA hr3 (zA hi0 (zA htn (zA hk0 (zA hX (zA hwi (zA hkr (zA hr2 (zA hr4 (zA rw5 (zA fw5 (zA cw1 (zA cw2 (zA hll (zA tkl hap)))))))))))))))))
      refine zK ?_
      simp only [zT, zB]
      refine zS ?_
      refine zL ?_
      refine runs_drw (by simp (maxSteps := 3000000) [-lenA, HH8, ↓hfr, ↓hrj, zI, ↓hrr, ↓hss, frz_mapI, HH14]; rfl) ?_
      simp only [zT, zB]
      refine zR (zO (by simp [-lenA, HH8, ↓hfr, ↓hrj, zI, ↓hrr, ↓hss, frz_mapI, HH14]; rfl) ?_)
      simp only [zT, zB]
      exact ⟨cs.length - (k + 1), _, _, by omega, by simp [-lenA, HH8, ↓hfr, ↓hrj, zI, ↓hrr, ↓hss, frz_mapI, HH14] <;> rfl, k + 1, i + 1, by omega, rfl, by omega, .inr ⟨p + 1, _, by omega, hnx, hnl, rfl⟩⟩
    ·have hx1 := of_decide_eq_false hlt
     have hkE : k = cs.length := by omega
     have htE : cs.take k = cs := List.take_of_length_le (by omega)
     rw [htE] at hac
     subst hac
     rw [encC_ne (by intro e; rw [e] at hacl; simp at hacl)]
     refine runs_exit ?_
     simp only [zT, zB, if_true, if_false, reduceIte, Nat.reduceEqDiff, Nat.succ_ne_zero, Nat.one_ne_zero, Nat.zero_ne_one]
     refine zS ?_
     refine zR (zO (by simp [-lenA, HH8, tk, hlac, hacl, hr3, ↓hfr, ↓hrj, frz_rowC]; rfl) ?_)
     simp only [zT, zB]
     refine runs_ret ?_
     simp [-lenA, HH8, tk, hlac, hacl, hr3, ↓hfr, ↓hrj, frz_rowC, trim, encT]
 ·obtain ⟨tt, rfl⟩ := dStops_get ht (k := 0) (by simp)
  have htl : tl.length + 1 ≤ 1048576 := by simp at hm3; omega
  have htr : ((tl.map rS3).all fun r => r.length == 3) = true := by simp [rS3]
  have hts : ((tl.map rS3).all fun r => r.all storable) = true := by simp [rS3]
  have tkt : (tl.map rS3).take tl.length = tl.map rS3 := List.take_of_length_le (by simp)
  have HH15 := zA fc (zA ft (zA rc (zA rt (zA lc (zA lt (zA cc1 (zA cc2 (zA ct1 (zA ct2 (zA htl tkt))))))))))
  refine zS ?_
  refine zR (zO (by simp [-lenA, rS3, ↓htr, ↓hts, frz_mapT, ↓rS3_rb, HH15]; rfl) ?_)
  simp only [zT, zB]
  refine zS ?_
  refine runs_drw (by simp (maxSteps := 3000000) [-lenA, rS3, ↓htr, ↓hts, frz_mapT, ↓rS3_rb, HH15]; rfl) ?_
  simp only [zT, zB]
  refine zS ?_
  refine zS ?_
  refine zR (zO (by simp [-lenA, rS3, ↓htr, ↓hts, frz_mapT, ↓rS3_rb, HH15]; rfl) ?_)
  simp only [zT, zB]
  refine zL ?_
  refine runs_loopG_inv (fun mm σ => ∃ (k : Nat) (i : Int), i = k ∧ cs.length - k = mm ∧ k ≤ cs.length ∧ ((k = 0 ∧ σ = ⟨[.any, .ref 0 0 0, .ref 1 0 0, .ref 9 0 0, I i, .any, .any, .any, .any, .any, .any, .any, .any, .any, .any, .any, .any, .any, .any, .any, .any, .any, .any, .any, .any, .any, .any, .any, .any, .any, .any, .any], [some (.row 3 [[I m, c, .vl ([I ta.1, I ta.2.1, I ta.2.2] :: tl.map rS3) tt]]), some (.row 3 [[I 0, .nils, .nils]]), none, none, some (.row 3 []), none, none, none, none, some (.row 3 [[I m, .nils, .sl 11 0 (tl.length + 1) false]]), none, some (.row 3 ([I ta.1, I ta.2.1, I ta.2.2] :: tl.map rS3)), none]⟩) ∨ (∃ (p : Nat) (ac : List (List Int)), k = p + 1 ∧ ac = cs.take k ∧ ac.length = p + 1 ∧ σ = ⟨[.any, .ref 0 0 0, .ref 1 0 0, .ref 9 0 0, I i, .any, .any, .any, .any, .any, .any, .any, .any, .any, .any, .any, .any, .any, .any, .any, .any, .any, .any, .any, .any, .any, .any, .any, .any, .any, .any, .any], [some (.row 3 [[I m, c, .vl ([I ta.1, I ta.2.1, I ta.2.2] :: tl.map rS3) tt]]), some (.row 3 [[I 0, .nils, .nils]]), none, none, some (.row 3 []), none, none, none, none, some (.row 3 [[I m, .sl 12 0 (p + 1) false, .sl 11 0 (tl.length + 1) false]]), none, some (.row 3 ([I ta.1, I ta.2.1, I ta.2.2] :: tl.map rS3)), some (.row 1 (ac.map rowC))]⟩))) (by simp [-lenA, rS3, ↓htr, ↓hts, frz_mapT, ↓rS3_rb, HH15] <;> first | exact ⟨rfl, rfl⟩ | rfl) (⟨0, 0, rfl, rfl, Nat.zero_le _, .inl ⟨rfl, rfl⟩⟩) ?_
  rintro mm σ ⟨k, i, hik, rfl, hkl, ⟨hk0', rfl⟩ | ⟨p, ac, hkp, hac, hacl, rfl⟩⟩
  ·refine zS ?_
   refine zS ?_
   refine zR (zO (by simp [-lenA, rS3, ↓htr, ↓hts, frz_mapT, ↓rS3_rb, HH15]; rfl) ?_)
   simp only [zT, zB]
   refine runs_cond_split (x := decide (i < (cs.length : Int))) (by simp) (fun hlt => ?_) (fun hlt => ?_)
   ·have hlt2 := of_decide_eq_true hlt
    have hk0 : k < cs.length := by omega
    have hEt : cs.take (k + 1) = cs.take k ++ [cs[k]] := List.take_succ_eq_append_getElem hk0
    obtain ⟨rs, tj, wv, rfl, hr1, hr2, hwv⟩ := dInts2_get hc hk0
    have hkr : k < rs.length := by omega
    have hr4 : ∀ h, rs[k]'h = [wv] := fun h => by rw [List.getElem?_eq_getElem h] at hr2; exact Option.some.inj hr2
    have rw5 := fun n d => dInts_rb hwv n d
    have fw5 := fun H d => dInts_frz hwv H d
    obtain ⟨cw1, cw2⟩ := dInts_cells hwv
    have hi0 : 0 ≤ i := by omega
    have htn : i.toNat = k := by omega
    have hwi : W .i64 (i + 1) = i + 1 := W_small (by omega)
    have hml := hm2 cs[k] (List.getElem_mem hk0)
    generalize hX : cs[k] = xm at *
    have hnx : [xm] = cs.take (k + 1) := by rw [hEt, hk0']; rfl
    have hap : [[encE xm]] = [xm].map rowC := rfl
    rcases xm with _ | ⟨a, l⟩
    ·simp only [encE] at hap
     rcases dInts_cases hwv with ⟨rfl, _⟩ | ⟨tt, rfl⟩
     ·have HH16 := zA hi0 (zA htn (zA hk0 (zA hX (zA hwi (zA hkr (zA hr2 (zA hr4 (zA rw5 (zA fw5 (zA cw1 cw2))))))))))
      refine zK ?_
      simp only [zT, zB]
      refine zS ?_
      refine zL ?_
      refine runs_drw (by simp (maxSteps := 3000000) [-lenA, rS3, ↓htr, ↓hts, frz_mapT, ↓rS3_rb, HH15, zI, HH16]; rfl) ?_
      simp only [zT, zB]
      refine zR (zO (by simp [-lenA, rS3, ↓htr, ↓hts, frz_mapT, ↓rS3_rb, HH15, zI, HH16]; rfl) ?_)
      simp only [zT, zB]
      exact ⟨cs.length - (k + 1), _, _, by omega, by simp [-lenA, rS3, ↓htr, ↓hts, frz_mapT, ↓rS3_rb, HH15, zI, HH16] <;> rfl, k + 1, i + 1, by omega, rfl, by omega, .inr ⟨0, _, by omega, hnx, rfl, rfl⟩⟩
     ·have HH17 := zA hi0 (zA htn (zA hk0 (zA hX (zA hwi (zA hkr (zA hr2 (zA hr4 (zA rw5 (zA fw5 (zA cw1 cw2))))))))))
      refine zK ?_
      simp only [zT, zB]
      refine zS ?_
      refine zL ?_
      refine runs_drw (by simp (maxSteps := 3000000) [-lenA, rS3, ↓htr, ↓hts, frz_mapT, ↓rS3_rb, HH15, zI, HH17]; rfl) ?_
      simp only [zT, zB]
      refine zR (zO (by simp [-lenA, rS3, ↓htr, ↓hts, frz_mapT, ↓rS3_rb, HH15, zI, HH17]; rfl) ?_)
      simp only [zT, zB]
      exact ⟨cs.length - (k + 1), _, _, by omega, by simp [-lenA, rS3, ↓htr, ↓hts, frz_mapT, ↓rS3_rb, HH15, zI, HH17] <;> rfl, k + 1, i + 1, by omega, rfl, by omega, .inr ⟨0, _, by omega, hnx, rfl, rfl⟩⟩
    ·obtain ⟨tt, rfl⟩ := dInts_get hwv (k := 0) (by simp)
     simp only [encE] at hap
     have hll : l.length + 1 ≤ 1048576 := by simp at hml; omega
     have hrr : ((l.map rI).all fun r => r.length == 1) = true := by simp [rI]
     have hss : ((l.map rI).all fun r => r.all storable) = true := by simp [rI]
     have tkl : (l.map rI).take l.length = l.map rI := List.take_of_length_le (by simp)
     have HH18 := zA hi0 (zA htn (zA hk0 (zA hX (zA hwi (zA hkr (zA hr2 (zA hr4 (zA rw5 (zA fw5 (zA cw1 (zA cw2 (zA hll tkl))))))))))))
     refine zK ?_
     simp only [zT, zB]
     refine zS ?_
     refine zL ?_
     refine runs_drw (by simp (maxSteps := 3000000) [-lenA, rS3, ↓htr, ↓hts, frz_mapT, ↓rS3_rb, HH15, zI, ↓hrr, ↓hss, frz_mapI, HH18]; rfl) ?_
     simp only [zT, zB]
     refine zR (zO (by simp [-lenA, rS3, ↓htr, ↓hts, frz_mapT, ↓rS3_rb, HH15, zI, ↓hrr, ↓hss, frz_mapI, HH18]; rfl) ?_)
     simp only [zT, zB]
     exact ⟨cs.length - (k + 1), _, _, by omega, by simp [-lenA, rS3, ↓htr, ↓hts, frz_mapT, ↓rS3_rb, HH15, zI, ↓hrr, ↓hss, frz_mapI, HH18] <;> rfl, k + 1, i + 1, by omega, rfl, by omega, .inr ⟨0, _, by omega, hnx, rfl, rfl⟩⟩
   ·have hx1 := of_decide_eq_false hlt
    have hkE : k = cs.length := by omega
    have htE : cs.take k = cs := List.take_of_length_le (by omega)
    have hE0 : cs = [] := List.eq_nil_of_length_eq_zero (by omega)
    subst hE0
    refine runs_exit ?_
    simp only [zT, zB, if_true, if_false, reduceIte, Nat.reduceEqDiff, Nat.succ_ne_zero, Nat.one_ne_zero, Nat.zero_ne_one]
    refine zS ?_
    refine zR (zO (by simp [-lenA, rS3, ↓htr, ↓hts, frz_mapT, ↓rS3_rb, HH15]; rfl) ?_)
    simp only [zT, zB]
    refine runs_ret ?_
    simp [-lenA, rS3, ↓htr, ↓hts, frz_mapT, ↓rS3_rb, HH15, trim, encC, encT]
  ·have tk : (ac.map rowC).take (p + 1) = ac.map rowC := List.take_of_length_le (by simp [hacl])
   have hlac : p + 1 + 1 ≤ 1048576 := by omega
   have hr3 : ∀ e : List Int, (rowC e).length = 1 := fun _ => rfl
   have hfr := fun n h r => optAll_snoc (frN_rowC n h ac) r
   have hrj := rowC_rb 12 4 ac
   refine zS ?_
   refine zS ?_
   refine zR (zO (by simp [-lenA, rS3, ↓htr, ↓hts, frz_mapT, ↓rS3_rb, HH15, tk, hlac, hacl, hr3, ↓hfr, ↓hrj]; rfl) ?_)
   simp only [zT, zB]
   refine runs_cond_split (x := decide (i < (cs.length : Int))) (by simp) (fun hlt => ?_) (fun hlt => ?_)
   ·have hlt2 := of_decide_eq_true hlt
    have hk0 : k < cs.length := by omega
    have hEt : cs.take (k + 1) = cs.take k ++ [cs[k]] := List.take_succ_eq_append_getElem hk0
    obtain ⟨rs, tj, wv, rfl, hr1, hr2, hwv⟩ := dInts2_get hc hk0
    have hkr : k < rs.length := by omega
    have hr4 : ∀ h, rs[k]'h = [wv] := fun h => by rw [List.getElem?_eq_getElem h] at hr2; exact Option.some.inj hr2
    have rw5 := fun n d => dInts_rb hwv n d
    have fw5 := fun H d => dInts_frz hwv H d
    obtain ⟨cw1, cw2⟩ := dInts_cells hwv
    have hi0 : 0 ≤ i := by omega
    have htn : i.toNat = k := by omega
    have hwi : W .i64 (i + 1) = i + 1 := W_small (by omega)
    have hml := hm2 cs[k] (List.getElem_mem hk0)
    generalize hX : cs[k] = xm at *
    have hnx : ac ++ [xm] = cs.take (k + 1) := by rw [hEt, ← hac]
    have hnl : (ac ++ [xm]).length = p + 1 + 1 := by simp [hacl]
    have hap : ac.map rowC ++ [[encE xm]] = (ac ++ [xm]).map rowC := by rw [List.map_append]; rfl
    rcases xm with _ | ⟨a, l⟩
    ·simp only [encE] at hap
     rcases dInts_cases hwv with ⟨rfl, _⟩ | ⟨tt, rfl⟩
     ·have HH19 := zA tk (zA hlac (zA hacl (zA hr3 (zA hi0 (zA htn (zA hk0 (zA hX (zA hwi (zA hkr (zA hr2 (zA hr4 (zA rw5 (zA fw5 (zA cw1 (zA cw2 hap)))))))))))))))
      refine zK ?_
      simp only [zT, zB]
      refine zS ?_
      refine zL ?_
      refine runs_drw (by simp (maxSteps := 3000000) [-lenA, rS3, ↓htr, ↓hts, frz_mapT, ↓rS3_rb, HH15, ↓hfr, ↓hrj, zI, HH19]; rfl) ?_
      simp only [zT, zB]
      refine zR (zO (by simp [-lenA, rS3, ↓htr, ↓hts, frz_mapT, ↓rS3_rb, HH15, ↓hfr, ↓hrj, zI, HH19]; rfl) ?_)
      simp only [zT, zB]
      exact ⟨cs.length - (k + 1), _, _, by omega, by simp [-lenA, rS3, ↓htr, ↓hts, frz_mapT, ↓rS3_rb, HH15, ↓hfr, ↓hrj, zI, HH19] <;> rfl, k + 1, i + 1, by omega, rfl, by omega, .inr ⟨p + 1, _, by omega, hnx, hnl, rfl⟩⟩
     ·have HH20 := zA tk (zA hlac (zA hacl (zA hr3 (zA hi0 (zA htn (zA hk0 (zA hX (zA hwi (zA hkr (zA hr2 (zA hr4 (zA rw5 (zA fw5 (zA cw1 (zA cw2 hap)))))))))))))))
      refine zK ?_
      simp only [zT, zB]
      refine zS ?_
      refine zL ?_
      refine runs_drw (by simp (maxSteps := 3000000) [-lenA, rS3, ↓htr, ↓hts, frz_mapT, ↓rS3_rb, HH15, ↓hfr, ↓hrj, zI, HH20]; rfl) ?_
      simp only [zT, zB]
      refine zR (zO (by simp [-lenA, rS3, ↓htr, ↓hts, frz_mapT, ↓rS3_rb, HH15, ↓hfr, ↓hrj, zI, HH20]; rfl) ?_)
      simp only [zT, zB]
      exact ⟨cs.length - (k + 1), _, _, by omega, by simp [-lenA, rS3, ↓htr, ↓hts, frz_mapT, ↓rS3_rb, HH15, ↓hfr, ↓hrj, zI, HH20] <;> rfl, k + 1, i + 1, by omega, rfl, by omega, .inr ⟨p + 1, _, by omega, hnx, hnl, rfl⟩⟩
    ·obtain ⟨tt, rfl⟩ := dInts_get hwv (k := 0) (by simp)
     simp only [encE] at hap
     have hll : l.length + 1 ≤ 1048576 := by simp at hml; omega
     have hrr : ((l.map rI).all fun r => r.length == 1) = true := by simp [rI]
     have hss : ((l.map rI).all fun r => r.all storable) = true := by simp [rI]
     have tkl : (l.map rI).take l.length = l.map rI := List.take_of_length_le (by simp)
     have HH21 := zA tk (zA hlac (zA hacl (zA hr3 (zA hi0 (zA htn (zA hk0 (zA hX (zA hwi (zA hkr (zA hr2 (zA hr4 (zA rw5 (zA fw5 (zA cw1 (zA cw2 (zA hll (zA tkl hap)))))))))))))))))
     have HH22 := zA htr (zA hts (zA hfr (zA hrj (zA hrr hss))))
     refine zK ?_
     simp only [zT, zB]
     refine zS ?_
     refine zL ?_
     refine runs_drw (by simp (maxSteps := 3000000) [-lenA, rS3, frz_mapT, ↓rS3_rb, HH15, zI, frz_mapI, HH21, ↓HH22]; rfl) ?_
     simp only [zT, zB]
     refine zR (zO (by simp [-lenA, rS3, frz_mapT, ↓rS3_rb, HH15, zI, frz_mapI, HH21, ↓HH22]; rfl) ?_)
     simp only [zT, zB]
     exact ⟨cs.length - (k + 1), _, _, by omega, by simp [-lenA, rS3, frz_mapT, ↓rS3_rb, HH15, zI, frz_mapI, HH21, ↓HH22] <;> rfl, k + 1, i + 1, by omega, rfl, by omega, .inr ⟨p + 1, _, by omega, hnx, hnl, rfl⟩⟩
   ·have hx1 := of_decide_eq_false hlt
    have hkE : k = cs.length := by omega
    have htE : cs.take k = cs := List.take_of_length_le (by omega)
    rw [htE] at hac
    subst hac
    rw [encC_ne (by intro e; rw [e] at hacl; simp at hacl)]
    refine runs_exit ?_
    simp only [zT, zB, if_true, if_false, reduceIte, Nat.reduceEqDiff, Nat.succ_ne_zero, Nat.one_ne_zero, Nat.zero_ne_one]
    refine zS ?_
    refine zR (zO (by simp [-lenA, rS3, ↓htr, ↓hts, frz_mapT, ↓rS3_rb, HH15, tk, hlac, hacl, hr3, ↓hfr, ↓hrj, frz_rowC]; rfl) ?_)
    simp only [zT, zB]
    refine runs_ret ?_
    simp [-lenA, rS3, ↓htr, ↓hts, frz_mapT, ↓rS3_rb, HH15, tk, hlac, hacl, hr3, ↓hfr, ↓hrj, frz_rowC, trim, encT]
end
section
attribute [local simp] Function.comp_def List.all_map callA calleeA frzG gather getR lim lop loud lowA lowR okG putG putR rbB_none rbB_row resG rowAt takeG
def oCopy : List AVal → Option AVal
  | [.agg [.int .i64 m, c, t]] => match dInts2 c, dStops t with
    | some cs, some ts => if cs.length ≤ 1000 ∧ (∀ x ∈ cs, x.length ≤ 1000) ∧ ts.length ≤ 1000 then some (.agg [.int .i64 m, encC cs, encT ts]) else none
    | _, _ => none
  | _ => none
theorem copy_eq {m : Int} {c t : AVal} {cs : List (List Int)} {ts : List FStop} (hc : dInts2 c = some cs) (ht : dStops t = some ts) (h : cs.length ≤ 1000 ∧ (∀ x ∈ cs, x.length ≤ 1000) ∧ ts.length ≤ 1000) : oCopy [.agg [I m, c, t]] = some (.agg [I m, encC cs, encT ts]) := by
  simp only [oCopy, hc, ht]; rw [if_pos h]
theorem a16 (P : Program) (T : Nat → Option CFn) (hT : T 16 = some c16) (h59 : T 59 = some { c59 with body := annK [(30, [.cell 3 1])] [] c59.body, frsh := false, orc := oCopy }) (m : Int) (c t : AVal) (cs : List (List Int)) (ts : List FStop) (hc : dInts2 c = some cs) (ht : dStops t = some ts) (hm1 : cs.length ≤ 1000) (hm2 : ∀ x ∈ cs, x.length ≤ 1000) (hm3 : ts.length ≤ 1000) : Answers P T 16 [.agg [I m, c, t]] [] fun v h => frz false h 5 v = some (.agg [I m, encC cs, encT ts]) := by
 have fc := fun H d => dInts2_frz hc H d
 have ft := fun H d => dStops_frz ht H d
 have rc := fun n d => dInts2_rb hc n d
 have rt := fun n d => dStops_rb ht n d
 obtain ⟨cc1, cc2⟩ := dInts2_cells hc
 obtain ⟨ct1, ct2⟩ := dStops_cells ht
 have h := copy_eq (m := m) hc ht ⟨hm1, hm2, hm3⟩
 have he := dInts2_encC cs
 have he2 := dStops_encT ts
 generalize encC cs = e at *
 generalize encT ts = e2 at *
 have fe := fun H d => dInts2_frz he H d
 have fe2 := fun H d => dStops_frz he2 H d
 obtain ⟨ce1, ce2⟩ := dInts2_cells he
 obtain ⟨ce3, ce4⟩ := dStops_cells he2
 refine answers_of hT (orcF_none rfl) ?_
 simp only [oo, om, op, og, ci, cl, c16]
 have HH1 := zA h59 (zA fc (zA ft (zA rc (zA rt (zA cc1 (zA cc2 (zA ct1 (zA ct2 (zA h (zA fe (zA fe2 (zA ce1 (zA ce2 (zA ce3 ce4))))))))))))))
 refine zS ?_
 refine zR (zO (by simp [zC h59, HH1]; rfl) ?_)
 simp only [zT, zB]
 refine zS ?_
 refine zR (zO (by simp [zC h59, HH1]; rfl) ?_)
 simp only [zT, zB]
 refine runs_ret ?_
 simp [zC h59, HH1, trim]
noncomputable def FP1_59 : Nat → Option CFn := upd FO2 59 false (oCopy)
theorem FP1_59_ok : TabOk Tryz.prog GG FP1_59 := tab_add mixed FO2_ok fun args v ho => by
  unfold oCopy at ho; split at ho <;> (try simp only [reduceCtorEq] at ho)
  rename_i m c t
  split at ho <;> (try simp only [reduceCtorEq] at ho)
  rename_i cs ts hc ht
  split at ho <;> (try simp only [reduceCtorEq] at ho)
  rename_i hg
  simp only [Option.some.injEq] at ho
  subst ho
  exact a59 Tryz.prog FO2 rfl  m c t cs ts hc ht hg.1 hg.2.1 hg.2.2
noncomputable def FP1 : Nat → Option CFn := upd FP1_59 16 false (oCopy)
theorem FP1_ok : TabOk Tryz.prog GG FP1 := tab_add mixed FP1_59_ok fun args v ho => by
  unfold oCopy at ho; split at ho <;> (try simp only [reduceCtorEq] at ho)
  rename_i m c t
  split at ho <;> (try simp only [reduceCtorEq] at ho)
  rename_i cs ts hc ht
  split at ho <;> (try simp only [reduceCtorEq] at ho)
  rename_i hg
  simp only [Option.some.injEq] at ho
  subst ho
  exact a16 Tryz.prog FP1_59 rfl rfl m c t cs ts hc ht hg.1 hg.2.1 hg.2.2
noncomputable def FP2 : Nat → Option CFn := FP1
theorem FP2_ok : TabOk Tryz.prog GG FP2 := FP1_ok
end
end
end Go.Proofs.YtjjapdagllclkaaGreat.Tab
namespace Go.Proofs.YtjjapdagllclkaaGreat.Tab
open Go Go.Abs Go.Proofs
set_option linter.unusedSimpArgs false
set_option linter.unusedVariables false
structure RunCtx (s : FShop) (js : List FJob) (os : List Int) : Prop where
 ok : ShopOk s js
 ord : ordB os js.length = true
theorem RunCtx.mem {s : FShop} {js : List FJob} {os : List Int} (h : RunCtx s js os) : ∀ i ∈ os, 0 ≤ i ∧ i < js.length := fun _ hi => (ord_mem h.ord).1 hi
noncomputable def endF (s : FShop) (js : List FJob) (os : List Int) : List Int := (runF s js os).ends
end Go.Proofs.YtjjapdagllclkaaGreat.Tab
namespace Go.Proofs.YtjjapdagllclkaaGreat.Tab
open Go Go.Abs Go.Proofs
set_option maxRecDepth 100000
set_option maxHeartbeats 4000000
set_option linter.unusedSimpArgs false
set_option linter.unusedVariables false
section
attribute [local simp] frz_int frz_bool frz_vl frz_pv frz_agg frz_tup frz_fn frz_ref frz_sl frz_nils optAll orcF rb_int rb_bool rb_agg rb_tup rb_int' rb_bool' rb_vl rb_pv rb_yld rb_nilf rb_nilp rb_nils rb_any rb_und rb_ref rb_sl rb_fn slE chunk fillA evParts evParts3 putAt List.range_succ List.range_zero List.range'_succ List.range'_zero runX_nil' unary_not evalS_pure evAll_nil evAll_cons runX_cons stepX wantedA dop CV.ev putK_eq setK_eq appK_eq fA_eq fI_eq fN_eq fRow_eq fRows_eq nth_eq Out.v putT List.replicate_succ zT zB arI pointee Abs.rowAt ldRow allV toV toC ofV ofC Builtin.min_ Builtin.min2 Builtin.max_ Builtin.max2 min_if max_if resA tupA kill trim_self trim_len trim_emp trim_nil lenA
attribute [local simp] runD_nil' runD_cons' stepD actK_eq actD clash disj masks holes maskH unmaskH diffs news eqB allB eqA ldRowN wrote toCs ofCs stA rowsV_vl rowsV_nils rowsOf dI1 dI2 dI3 dI5 elt
attribute [local simp] st_any st_und st_agg st_tup st_bool st_int st_nilp st_ref st_pv st_nils st_sl st_vl st_nilm st_mp st_fn st_nilf st_yld co_any co_und co_agg co_tup co_bool co_int co_nilp co_ref co_pv co_nils co_sl co_vl co_nilm co_mp co_fn co_nilf co_yld
section
attribute [local simp] Function.comp_def List.all_append List.all_map above callA calleeA frNB_none frNB_row frN_agg frN_bool frN_int frN_nils frN_ref frN_sl frN_tup frN_vl frzG gather getR lim lop loud lowA lowR norm okG putG putR rbB_none rbB_row resG rowAt takeG
def rU (v : List Int) : List AVal := v.map fun n => .int .u8 n
def dU1 : AVal → Option Int
  | .int .u8 n => some n
  | _ => none
def dU (r : List AVal) : Option (List Int) := optAll dU1 r
theorem dU_eq {r : List AVal} {v : List Int} (h : dU r = some v) : r = rU v := by
  unfold dU at h
  induction r generalizing v with
  | nil => simp only [optAll, Option.some.injEq] at h; subst h; rfl
  | cons a r ih =>
    simp only [optAll] at h
    split at h <;> (try simp only [reduceCtorEq] at h)
    rename_i y ys h1 h2
    cases h
    unfold dU1 at h1
    split at h1 <;> simp at h1
    subst h1
    rw [ih h2]; rfl
theorem rU_len (v : List Int) : (rU v).length = v.length := by simp [rU]
theorem rU_get {v : List Int} {k : Nat} (h : k < v.length) : (rU v)[k]? = some (.int .u8 (v.getD k 0)) := by
  unfold rU; rw [List.getElem?_map, List.getD_eq_getElem?_getD, List.getElem?_eq_getElem h]; rfl
theorem rU_stor (v : List Int) : (rU v).all storable = true := by
  simp only [List.all_eq_true]
  intro z hz
  obtain ⟨a, _, rfl⟩ := List.mem_map.1 hz
  rfl
theorem rU_rb (n d : Nat) (v : List Int) : (rU v).all (rb n (d + 1)) = true := by
  simp only [List.all_eq_true]
  intro z hz
  obtain ⟨a, _, rfl⟩ := List.mem_map.1 hz
  rfl
structure FWorks where
  m : Int
  k : Int
  g : List Int
  xs : List (List Int)
  ys : List (List Int)
  o : List Int
def isU (n : Int) : Prop := 0 ≤ n ∧ n ≤ 255
instance (n : Int) : Decidable (isU n) := by unfold isU; infer_instance
structure WkOk (w : FWorks) : Prop where
  m : isU w.m
  k : isU w.k
  g : w.g.length = 16 ∧ ∀ n ∈ w.g, isU n
  xs : ∀ v ∈ w.xs, v.length = 4 ∧ ∀ n ∈ v, isU n
  ys : ∀ v ∈ w.ys, v.length = 7 ∧ ∀ n ∈ v, isU n
  o : w.o.length = 6 ∧ ∀ n ∈ w.o, isU n
def wkC (w : FWorks) (x y : AVal) : List AVal := .int .u8 w.m :: .int .u8 w.k :: (rU w.g ++ [x, y] ++ rU w.o)
def wM (w : FWorks) : Int := 1 + w.m.tmod 4
def wK (w : FWorks) : Int := 1 + w.k.tmod 4
def gAt (w : FWorks) (i k : Nat) : Int := w.g.getD (i * 4 + k) 0
def wRow (w : FWorks) (i n : Nat) : List Int := (List.range n).map fun k => (gAt w i k).tmod 40
def wC (w : FWorks) (n : Nat) : List (List Int) := (List.range n).map fun i => wRow w i (wK w).toNat
def v_ (v : List Int) (k : Nat) : Int := v.getD k 0
def wStop (w : FWorks) (v : List Int) : FStop := ((v_ v 0).tmod (wM w), 2 * v_ v 1 + (v_ v 2).tmod 2, 2 * v_ v 1 + (v_ v 2).tmod 2 + 1 + (v_ v 3).tmod 60)
def wT (w : FWorks) (n : Nat) : List FStop := (w.xs.take n).map (wStop w)
def wMin (v : List Int) (k : Nat) : Int := max 0 ((v_ v (3 + k)).tmod 90 - 10)
def wMins (v : List Int) (n : Nat) : List Int := (List.range n).map (wMin v)
def wJob (w : FWorks) (v : List Int) : FJob := ⟨(v_ v 0).tmod (wK w), v_ v 1, 3 * v_ v 2, wMins v (wM w).toNat⟩
def wJ (w : FWorks) (n : Nat) : List FJob := (w.ys.take n).map (wJob w)
def wShop (w : FWorks) : FShop := ⟨wM w, wC w (wK w).toNat, wT w (min w.xs.length 6)⟩
def wJobs (w : FWorks) : List FJob := wJ w (min w.ys.length 5)
theorem range_map1 {α : Type} (f : Nat → α) (n : Nat) : (List.range (n + 1)).map f = (List.range n).map f ++ [f n] := by rw [List.range_succ, List.map_append]; rfl
theorem take_map1 {α β : Type} (f : α → β) {l : List α} {n : Nat} (h : n < l.length) : (l.take (n + 1)).map f = (l.take n).map f ++ [f l[n]] := by rw [List.take_succ_eq_append_getElem h, List.map_append]; rfl
def encN (ts : List FStop) : AVal := match ts with | [] => .nils | x :: l => .vl ((x :: l).map rS3) false
theorem encN_ne {ts : List FStop} (h : ts ≠ []) : encN ts = .vl (ts.map rS3) false := by cases ts with | nil => exact absurd rfl h | cons x l => rfl
theorem dStops_encN (ts : List FStop) : dStops (encN ts) = some ts := by
  cases ts with
  | nil => rfl
  | cons x l => exact dStops_of (v := .vl ((x :: l).map rS3) false) rfl
theorem frN_rI (n : Nat) (h : Heap) (xs : List Int) : ∀ r ∈ xs.map rI, optAll (frN n h 5) r = some r := fun r hr => by
  obtain ⟨j, _, rfl⟩ := List.mem_map.1 hr; rfl
theorem frN_rS3 (n : Nat) (h : Heap) (xs : List FStop) : ∀ r ∈ xs.map rS3, optAll (frN n h 5) r = some r := fun r hr => by
  obtain ⟨j, _, rfl⟩ := List.mem_map.1 hr; rfl
theorem mins_fit {l : List Int} {k : Nat} (h : ∀ n ∈ l, isU n) : isU (l.getD k 0) := by
  rw [List.getD_eq_getElem?_getD]
  cases e : l[k]? with
  | none => exact ⟨by simp, by simp⟩
  | some n => exact h n (List.mem_of_getElem? e)
def tl41 : CC := (.seq (.reg [⟨(some 101), (.bsl 4 0 [(.int .i64 (0)), (.int .i64 (0)), (.int .i64 (0)), .nils] []), none, []⟩, ⟨(some 12), (.mv (.t 101)), none, []⟩]) (.seq (.seq (.reg [⟨(some 13), (.mv (.c (.int .i64 (0)))), none, []⟩]) (.block 6 (.loopG 12342 [.slot 12] (.seq (.seq (.reg [⟨(some 102), (.mv (.t 13)), none, []⟩, ⟨(some 103), (.fa 19 (.t 1)), none, []⟩, ⟨(some 104), (.ld (.t 103)), none, []⟩, ⟨(some 105), (.len (.t 104)), none, []⟩, ⟨(some 106), (.ar .lss (.t 102) (.t 105)), none, []⟩, ⟨(some 107), (.mv (.t 106)), none, []⟩, ⟨(some 108), (.mv (.t 13)), (some (107, true)), []⟩, ⟨(some 109), (.ar .lss (.t 108) (.c (.int .i64 (5)))), (some (107, true)), []⟩, ⟨(some 110), (.pick (.t 107) (.t 109) (.c (.bool false))), none, []⟩]) (.cond (.t 110) .skip (.exit 6))) (.seq (.block 7 (.seq (.reg [⟨(some 113), (.fa 19 (.t 1)), none, []⟩, ⟨(some 114), (.ld (.t 113)), none, []⟩, ⟨(some 115), (.mv (.t 13)), none, []⟩, ⟨(some 116), (.ias 7 (.t 114) (.t 115)), none, []⟩, ⟨(some 117), (.ldn 7 (.t 116)), none, []⟩, ⟨(some 14), (.new [(.int .u8 (0)), (.int .u8 (0)), (.int .u8 (0)), (.int .u8 (0)), (.int .u8 (0)), (.int .u8 (0)), (.int .u8 (0))]), none, []⟩, ⟨none, (.st 7 (.t 14) (.t 117)), none, []⟩]) (.seq (.drw [⟨(some 118), (.iaa 7 1 (.t 14) (.c (.int .i64 (0)))), none, []⟩, ⟨(some 119), (.ld (.t 118)), none, []⟩, ⟨(some 120), (.conv .i64 (.t 119)), none, []⟩, ⟨(some 121), (.mv (.t 5)), none, [0, 1, 2]⟩, ⟨(some 122), (.ar .rem (.t 120) (.t 121)), none, []⟩, ⟨(some 123), (.iaa 7 1 (.t 14) (.c (.int .i64 (1)))), none, [0, 1, 2, 3, 4]⟩, ⟨(some 124), (.ld (.t 123)), none, [0, 1, 2, 3, 4]⟩, ⟨(some 125), (.conv .i64 (.t 124)), none, [0, 1, 2, 3, 4]⟩, ⟨(some 126), (.iaa 7 1 (.t 14) (.c (.int .i64 (2)))), none, [0, 1, 2, 3, 4, 5, 6, 7]⟩, ⟨(some 127), (.ld (.t 126)), none, [0, 1, 2, 3, 4, 5, 6, 7]⟩, ⟨(some 128), (.conv .i64 (.t 127)), none, [0, 1, 2, 3, 4, 5, 6, 7]⟩, ⟨(some 129), (.ar .mul (.c (.int .i64 (3))) (.t 128)), none, [0, 1, 2, 3, 4, 5, 6, 7]⟩, ⟨(some 130), (.bld [(.int .i64 (0)), (.int .i64 (0)), (.int .i64 (0)), .nils] [(0, (1, (.t 122))), (1, (1, (.t 125))), (2, (1, (.t 129)))]), none, []⟩, ⟨(some 15), (.new [(.int .i64 (0)), (.int .i64 (0)), (.int .i64 (0)), .nils]), none, [0, 1, 2, 3, 4, 5, 6, 7, 8, 9, 10, 11, 12]⟩, ⟨none, (.st 4 (.t 15) (.t 130)), none, []⟩]) (.seq (.seq (.reg [⟨(some 16), (.mv (.c (.int .i64 (0)))), none, []⟩]) (.block 8 (.loopG 127030 [.cell 15 3] (.seq (.seq (.reg [⟨(some 131), (.mv (.t 16)), none, []⟩, ⟨(some 132), (.fa 0 (.t 4)), none, []⟩, ⟨(some 133), (.ld (.t 132)), none, []⟩, ⟨(some 134), (.ar .lss (.t 131) (.t 133)), none, []⟩]) (.cond (.t 134) .skip (.exit 8))) (.seq (.block 9 (.drw [⟨(some 137), (.fa 3 (.t 15)), none, []⟩, ⟨(some 138), (.ld (.t 137)), none, []⟩, ⟨(some 139), (.mv (.t 16)), none, [0, 1]⟩, ⟨(some 140), (.ar .add (.c (.int .i64 (3))) (.t 139)), none, [0, 1]⟩, ⟨(some 141), (.iaa 7 1 (.t 14) (.t 140)), none, [0, 1]⟩, ⟨(some 142), (.ld (.t 141)), none, [0, 1]⟩, ⟨(some 143), (.conv .i64 (.t 142)), none, [0, 1]⟩, ⟨(some 144), (.ar .rem (.t 143) (.c (.int .i64 (90)))), none, [0, 1]⟩, ⟨(some 145), (.ar .sub (.t 144) (.c (.int .i64 (10)))), none, [0, 1]⟩, ⟨(some 146), (.mx [(.c (.int .i64 (0))), (.t 145)]), none, [0, 1]⟩, ⟨(some 147), (.bsl 1 1 [(.int .i64 (0))] [(0, (.t 146))]), none, [0, 1]⟩, ⟨(some 148), (.app 1 (.t 138) (.t 147)), none, []⟩, ⟨(some 149), (.fa 3 (.t 15)), none, []⟩, ⟨none, (.st 1 (.t 149) (.t 148)), none, []⟩])) (.reg [⟨(some 135), (.mv (.t 16)), none, []⟩, ⟨(some 136), (.ar .add (.t 135) (.c (.int .i64 (1)))), none, []⟩, ⟨(some 16), (.mv (.t 136)), none, []⟩])))))) (.reg [⟨(some 150), (.mv (.t 12)), none, []⟩, ⟨(some 151), (.ldn 4 (.t 15)), none, []⟩, ⟨(some 152), (.bsl 4 1 [(.int .i64 (0)), (.int .i64 (0)), (.int .i64 (0)), .nils] [(0, (.t 151))]), none, []⟩, ⟨(some 153), (.app 4 (.t 150) (.t 152)), none, []⟩, ⟨(some 12), (.mv (.t 153)), none, []⟩]))))) (.reg [⟨(some 111), (.mv (.t 13)), none, []⟩, ⟨(some 112), (.ar .add (.t 111) (.c (.int .i64 (1)))), none, []⟩, ⟨(some 13), (.mv (.t 112)), none, []⟩])))))) (.seq (.reg [⟨(some 154), (.ldn 3 (.t 4)), none, []⟩, ⟨(some 155), (.mv (.t 12)), none, []⟩, ⟨none, (.st 3 (.t 2) (.t 154)), none, []⟩, ⟨(some 3), (.mv (.t 155)), none, []⟩]) .ret)))
theorem tail41 (P : Program) (T : Nat → Option CFn) (W_ : FWorks) (ac1 : List (List Int)) (Ts : List FStop) (cells : List AVal) (y : AVal) (kn mn : Nat) (tv : AVal) (tb : Option Blk) (hM1 : 1 ≤ mn) (hM4 : mn ≤ 4) (hK1 : 1 ≤ kn) (hK4 : kn ≤ 4) (hmn : wM W_ = mn) (hkn : wK W_ = kn) (hacl1 : ac1.length = kn)
  (ly : lenA y = some W_.ys.length) (hy : rowsV y = some (W_.ys.map rU)) (bys : ∀ v ∈ W_.ys, v.length = 7 ∧ ∀ n ∈ v, isU n) (crb : ∀ n, cells.all (rb n 5) = true) (ry : ∀ n d, rb n (d + 1) y = true) (c19 : cells[19]? = some y)
  (h1 : ∀ n, 5 ≤ n → rb n 5 tv = true) (h2 : ∀ n, 5 ≤ n → rbB n tb = true) (h3 : cellsOf tv = some [tv]) (h4 : storable tv = true) (hT : ∀ a b c d l, frz false (a :: b :: c :: d :: tb :: l) 3 tv = some (encN Ts)) (v0 v3 v6 v7 v8 v9 v10 v11 v12 v13 v14 v15 v16 v17 v18 v19 v20 v21 v22 v23 v24 v25 v26 v27 v28 v29 v30 v31 v32 v33 v34 v35 v36 v37 v38 v39 v40 v41 v42 v43 v44 v45 v46 v47 v48 v49 v50 v51 v52 v53 v54 v55 v56 v57 v58 v59 v60 v61 v62 v63 v64 v65 v66 v67 v68 v69 v70 v71 v72 v73 v74 v75 v76 v77 v78 v79 v80 v81 v82 v83 v84 v85 v86 v87 v88 v89 v90 v91 v92 v93 v94 v95 v96 v97 v98 v99 v100 v101 v102 v103 v104 v105 v106 v107 v108 v109 v110 v111 v112 v113 v114 v115 v116 v117 v118 v119 v120 v121 v122 v123 v124 v125 v126 v127 v128 v129 v130 v131 v132 v133 v134 v135 v136 v137 v138 v139 v140 v141 v142 v143 v144 v145 v146 v147 v148 v149 v150 v151 v152 v153 v154 v155 : AVal) :
  Runs P T none tl41 ⟨[v0, .ref 0 0 0, .ref 1 0 0, v3, .ref 2 0 0, I (kn : Int), v6, v7, v8, v9, v10, v11, v12, v13, v14, v15, v16, v17, v18, v19, v20, v21, v22, v23, v24, v25, v26, v27, v28, v29, v30, v31, v32, v33, v34, v35, v36, v37, v38, v39, v40, v41, v42, v43, v44, v45, v46, v47, v48, v49, v50, v51, v52, v53, v54, v55, v56, v57, v58, v59, v60, v61, v62, v63, v64, v65, v66, v67, v68, v69, v70, v71, v72, v73, v74, v75, v76, v77, v78, v79, v80, v81, v82, v83, v84, v85, v86, v87, v88, v89, v90, v91, v92, v93, v94, v95, v96, v97, v98, v99, v100, v101, v102, v103, v104, v105, v106, v107, v108, v109, v110, v111, v112, v113, v114, v115, v116, v117, v118, v119, v120, v121, v122, v123, v124, v125, v126, v127, v128, v129, v130, v131, v132, v133, v134, v135, v136, v137, v138, v139, v140, v141, v142, v143, v144, v145, v146, v147, v148, v149, v150, v151, v152, v153, v154, v155], [some (.row 26 [cells]), some (.row 3 [[I 0, .nils, .nils]]), some (.row 3 [[I (mn : Int), .sl 3 0 kn false, tv]]), some (.row 1 (ac1.map rowC)), tb]⟩ fun e σ => (∀ id, e ≠ .exit id) ∧ ∃ vs, resA σ.t σ.h [.ldn 3 2, .tmp 3] = some vs ∧ frz false (trim ([] : Heap).length [tupA vs] σ.h) 5 (tupA vs) = some (.tup [.agg [I (wM W_), encC ac1, encN Ts], encJ (wJ W_ (min W_.ys.length 5))]) := by
 have frb := fun n => rowC_rb n 4 ac1
 have tvr6 := h1 6 (by decide)
 have tvr23 := h1 23 (by decide)
 have tbr6 := h2 6 (by decide)
 have tbr23 := h2 23 (by decide)
 have hCne : ac1 ≠ [] := by intro e; rw [e] at hacl1; simp at hacl1; omega
 have hCe : encC ac1 = .vl (ac1.map rowC) false := encC_ne hCne
 have tk1 : (ac1.map rowC).take kn = ac1.map rowC := List.take_of_length_le (by simp [hacl1])
 have fzC := fun H d => frz_rowC H d ac1
 have hkt : (wK W_).toNat = kn := by omega
 have hmt : (wM W_).toNat = mn := by omega
 have g19 := fun (h : 19 < cells.length) => Option.some.inj ((List.getElem?_eq_getElem h).symm.trans c19)
 unfold tl41
 have HH1 := zA ly (zA g19 (zA ry (zA tvr6 (zA tvr23 (zA tbr6 (zA tbr23 (zA h3 (zA h4 (zA hT (zA hacl1 (zA tk1 (zA fzC (zA hCe hmn)))))))))))))
 refine zS ?_
 refine zR (zO (by simp [-lenA, c19, ↓crb, ↓frb, HH1]; rfl) ?_)
 simp only [zT, zB]
 refine zS ?_
 refine zS ?_
 refine zR (zO (by simp [-lenA, c19, ↓crb, ↓frb, HH1]; rfl) ?_)
 simp only [zT, zB]
 refine zL ?_
 refine runs_loopG_inv (fun mm4 σ => ∃ (k4 : Nat) (i4 : Int), i4 = k4 ∧ (min W_.ys.length 5) - k4 = mm4 ∧ k4 ≤ (min W_.ys.length 5) ∧ ((k4 = 0 ∧ σ = ⟨[.any, .ref 0 0 0, .ref 1 0 0, .any, .ref 2 0 0, I (kn : Int), .any, .any, .any, .any, .any, .any, .sl 6 0 0 true, I i4, .any, .any, .any, .any, .any, .any, .any, .any, .any, .any, .any, .any, .any, .any, .any, .any, .any, .any, .any, .any, .any, .any, .any, .any, .any, .any, .any, .any, .any, .any, .any, .any, .any, .any, .any, .any, .any, .any, .any, .any, .any, .any, .any, .any, .any, .any, .any, .any, .any, .any, .any, .any, .any, .any, .any, .any, .any, .any, .any, .any, .any, .any, .any, .any, .any, .any, .any, .any, .any, .any, .any, .any, .any, .any, .any, .any, .any, .any, .any, .any, .any, .any, .any, .any, .any, .any, .any, .any, .any, .any, .any, .any, .any, .any, .any, .any, .any, .any, .any, .any, .any, .any, .any, .any, .any, .any, .any, .any, .any, .any, .any, .any, .any, .any, .any, .any, .any, .any, .any, .any, .any, .any, .any, .any, .any, .any, .any, .any, .any, .any, .any, .any, .any, .any, .any, .any, .any, .any, .any, .any, .any, .any], [some (.row 26 [cells]), some (.row 3 [[I 0, .nils, .nils]]), some (.row 3 [[I (mn : Int), .sl 3 0 kn false, tv]]), some (.row 1 (ac1.map rowC)), tb, none, some (.row 4 [])]⟩) ∨ (∃ (p4 : Nat) (ac4 : List (FJob)), k4 = p4 + 1 ∧ ac4 = wJ W_ (k4) ∧ ac4.length = p4 + 1 ∧ σ = ⟨[.any, .ref 0 0 0, .ref 1 0 0, .any, .ref 2 0 0, I (kn : Int), .any, .any, .any, .any, .any, .any, .sl 6 0 (p4 + 1) false, I i4, .any, .any, .any, .any, .any, .any, .any, .any, .any, .any, .any, .any, .any, .any, .any, .any, .any, .any, .any, .any, .any, .any, .any, .any, .any, .any, .any, .any, .any, .any, .any, .any, .any, .any, .any, .any, .any, .any, .any, .any, .any, .any, .any, .any, .any, .any, .any, .any, .any, .any, .any, .any, .any, .any, .any, .any, .any, .any, .any, .any, .any, .any, .any, .any, .any, .any, .any, .any, .any, .any, .any, .any, .any, .any, .any, .any, .any, .any, .any, .any, .any, .any, .any, .any, .any, .any, .any, .any, .any, .any, .any, .any, .any, .any, .any, .any, .any, .any, .any, .any, .any, .any, .any, .any, .any, .any, .any, .any, .any, .any, .any, .any, .any, .any, .any, .any, .any, .any, .any, .any, .any, .any, .any, .any, .any, .any, .any, .any, .any, .any, .any, .any, .any, .any, .any, .any, .any, .any, .any, .any, .any, .any], [some (.row 26 [cells]), some (.row 3 [[I 0, .nils, .nils]]), some (.row 3 [[I (mn : Int), .sl 3 0 kn false, tv]]), some (.row 1 (ac1.map rowC)), tb, none, some (.row 4 (ac4.map rowJ))]⟩))) (by simp [-lenA, c19, ↓crb, ↓frb, HH1] <;> first | exact ⟨rfl, rfl⟩ | rfl) (⟨0, 0, rfl, rfl, Nat.zero_le _, .inl ⟨rfl, rfl⟩⟩) ?_
 rintro mm4 σ ⟨k4, i4, hik4, rfl, hkl4, ⟨hkz4, rfl⟩ | ⟨p4, ac4, hkp4, hac4, hacl4, rfl⟩⟩
 ·rcases hA4 : decide (i4 < (W_.ys.length : Int)) with _ | _
  ·refine zS ?_
   refine zS ?_
   refine zR (zO (by simp [-lenA, c19, ↓crb, ↓frb, HH1, hA4]; rfl) ?_)
   simp only [zT, zB]
   refine runs_cond (x := false) (by simp) ?_
   have hx4 := of_decide_eq_false hA4
   have hkE4 : k4 = (min W_.ys.length 5) := by omega
   have hJ0 : wJ W_ (min W_.ys.length 5) = [] := by rw [← hkE4, hkz4]; rfl
   have hJe : encJ [] = .vl [] true := rfl
   refine runs_exit ?_
   simp only [zT, zB, if_true, if_false, reduceIte, Nat.reduceEqDiff, Nat.succ_ne_zero, Nat.one_ne_zero, Nat.zero_ne_one]
   refine zS ?_
   refine zR (zO (by simp [-lenA, c19, ↓crb, ↓frb, HH1, hA4, hJ0, hJe]; rfl) ?_)
   simp only [zT, zB]
   refine runs_ret ?_
   simp [-lenA, c19, ↓crb, ↓frb, HH1, hA4, hJ0, hJe, trim]
  ·refine zS ?_
   refine zS ?_
   refine zR (zO (by simp [-lenA, c19, ↓crb, ↓frb, HH1, hA4]; rfl) ?_)
   simp only [zT, zB]
   refine runs_cond_split (x := decide (i4 < 5)) (by simp) (fun hlt4 => ?_) (fun hlt4 => ?_)
   ·have hAt4 := of_decide_eq_true hA4
    have hltt4 := of_decide_eq_true hlt4
    have hk04 : k4 < (min W_.ys.length 5) := by omega
    have hi04 : 0 ≤ i4 := by omega
    have htn4 : i4.toNat = k4 := by omega
    have hwi4 : W .i64 (i4 + 1) = i4 + 1 := W_small (by omega)
    have hyl : k4 < W_.ys.length := by omega
    obtain ⟨ty, rfl⟩ := rowsV_get hy (k := k4) (by rw [List.length_map]; omega)
    have hvv := bys _ (List.getElem_mem hyl)
    have hF4 : wJ W_ (k4 + 1) = wJ W_ k4 ++ [wJob W_ W_.ys[k4]] := take_map1 _ hyl
    generalize hV : W_.ys[k4] = v at *
    have hv0 : (rU v)[0]? = some (.int .u8 (v_ v 0)) := rU_get (by omega)
    have hv1 : (rU v)[1]? = some (.int .u8 (v_ v 1)) := rU_get (by omega)
    have hv2 : (rU v)[2]? = some (.int .u8 (v_ v 2)) := rU_get (by omega)
    have hvq : ∀ q, q < 4 → (rU v)[3 + q]? = some (.int .u8 (v_ v (3 + q))) := fun q hq => rU_get (by omega)
    have q0 := fun (h : 0 < (rU v).length) => Option.some.inj ((List.getElem?_eq_getElem h).symm.trans hv0)
    have q1 := fun (h : 1 < (rU v).length) => Option.some.inj ((List.getElem?_eq_getElem h).symm.trans hv1)
    have q2 := fun (h : 2 < (rU v).length) => Option.some.inj ((List.getElem?_eq_getElem h).symm.trans hv2)
    have hvl : (rU v).length = 7 := by rw [rU_len, hvv.1]
    have hvst := rU_stor v
    have hvrb := fun n => rU_rb n 4 v
    have hvc : cellsOf (.agg (rU v)) = some (rU v) := rfl
    have hvt : (rU v).take 7 = rU v := List.take_of_length_le (by omega)
    have hvd : (rU v).drop 7 = [] := List.drop_of_length_le (by omega)
    have b0 := mins_fit (k := 0) hvv.2
    have b1 := mins_fit (k := 1) hvv.2
    have b2 := mins_fit (k := 2) hvv.2
    have bq : ∀ q, isU (v_ v (3 + q)) := fun q => mins_fit hvv.2
    unfold wJob at hF4
    rw [hkn, hmt] at hF4
    have b01 : 0 ≤ v_ v 0 := b0.1
    have b02 : v_ v 0 ≤ 255 := b0.2
    have b11 : 0 ≤ v_ v 1 := b1.1
    have b12 : v_ v 1 ≤ 255 := b1.2
    have b21 : 0 ≤ v_ v 2 := b2.1
    have b22 : v_ v 2 ≤ 255 := b2.2
    clear b0 b1 b2
    generalize v_ v 0 = e0 at *
    generalize v_ v 1 = e1 at *
    generalize v_ v 2 = e2 at *
    have h01 : 0 ≤ e0.tmod (kn : Int) := Int.tmod_nonneg _ b01
    have h02 : e0.tmod (kn : Int) < kn := Int.tmod_lt_of_pos _ (by omega)
    have hmz : ¬ kn = 0 := by omega
    have hmzi : ¬ (kn : Int) = 0 := by omega
    have hmzb : ((kn : Int) == 0) = false := by simp; omega
    have hmm1 : ¬ ((kn : Int) = -1) := by omega
    have u0 : W .i64 e0 = e0 := W_fit (by omega)
    have u1 : W .i64 e1 = e1 := W_fit (by omega)
    have u2 : W .i64 e2 = e2 := W_fit (by omega)
    have u3 : W .i64 (3 * e2) = 3 * e2 := W_fit (by omega)
    have u4 : W .i64 (e0.tmod (kn : Int)) = e0.tmod (kn : Int) := W_fit (by omega)
    have HH2 := zA hA4 (zA hi04 (zA htn4 (zA hk04 (zA hwi4 (zA hyl (zA hV (zA hv0 (zA hv1 (zA hv2 (zA q0 (zA q1 (zA q2 (zA hvl (zA hvc (zA hvt (zA hvd (zA hmz (zA hmzi (zA hmzb (zA hmm1 (zA u0 (zA u1 (zA u2 (zA u3 u4))))))))))))))))))))))))
    refine zK ?_
    simp only [zT, zB]
    refine zS ?_
    refine zL ?_
    refine zS ?_
    refine zR (zO (by simp [-lenA, c19, ↓crb, ↓frb, HH1, ↓hvst, ↓hvrb, HH2]; rfl) ?_)
    simp only [zT, zB]
    refine zS ?_
    refine runs_drw (by simp (maxSteps := 3000000) [-lenA, c19, ↓crb, ↓frb, HH1, ↓hvst, ↓hvrb, HH2]; rfl) ?_
    simp only [zT, zB]
    refine zS ?_
    refine zS ?_
    refine zR (zO (by simp [-lenA, c19, ↓crb, ↓frb, HH1, ↓hvst, ↓hvrb, HH2]; rfl) ?_)
    simp only [zT, zB]
    refine zL ?_
    refine runs_loopG_inv (fun mm5 σ => ∃ (k5 : Nat) (i5 : Int), i5 = k5 ∧ mn - k5 = mm5 ∧ k5 ≤ mn ∧ ((k5 = 0 ∧ σ = ⟨[.any, .ref 0 0 0, .ref 1 0 0, .any, .ref 2 0 0, I (kn : Int), .any, .any, .any, .any, .any, .any, .sl 6 0 0 true, I i4, .ref 7 0 0, .ref 21 0 0, I i5, .any, .any, .any, .any, .any, .any, .any, .any, .any, .any, .any, .any, .any, .any, .any, .any, .any, .any, .any, .any, .any, .any, .any, .any, .any, .any, .any, .any, .any, .any, .any, .any, .any, .any, .any, .any, .any, .any, .any, .any, .any, .any, .any, .any, .any, .any, .any, .any, .any, .any, .any, .any, .any, .any, .any, .any, .any, .any, .any, .any, .any, .any, .any, .any, .any, .any, .any, .any, .any, .any, .any, .any, .any, .any, .any, .any, .any, .any, .any, .any, .any, .any, .any, .any, .any, .any, .any, .any, .any, .any, .any, .any, .any, .any, .any, .any, .any, .any, .any, .any, .any, .any, .any, .any, .any, .any, .any, .any, .any, .any, .any, .any, .any, .any, .any, .any, .any, .any, .any, .any, .any, .any, .any, .any, .any, .any, .any, .any, .any, .any, .any, .any, .any, .any, .any, .any, .any, .any, .any], [some (.row 26 [cells]), some (.row 3 [[I 0, .nils, .nils]]), some (.row 3 [[I (mn : Int), .sl 3 0 kn false, tv]]), some (.row 1 (ac1.map rowC)), tb, none, some (.row 4 []), some (.row 7 [rU v]), none, none, none, none, none, none, none, none, none, none, none, none, none, some (.row 4 [[I (e0.tmod (kn : Int)), I e1, I (3 * e2), .nils]]), none, none]⟩) ∨ (∃ (p5 : Nat) (ac5 : List (Int)), k5 = p5 + 1 ∧ ac5 = wMins v (k5) ∧ ac5.length = p5 + 1 ∧ σ = ⟨[.any, .ref 0 0 0, .ref 1 0 0, .any, .ref 2 0 0, I (kn : Int), .any, .any, .any, .any, .any, .any, .sl 6 0 0 true, I i4, .ref 7 0 0, .ref 21 0 0, I i5, .any, .any, .any, .any, .any, .any, .any, .any, .any, .any, .any, .any, .any, .any, .any, .any, .any, .any, .any, .any, .any, .any, .any, .any, .any, .any, .any, .any, .any, .any, .any, .any, .any, .any, .any, .any, .any, .any, .any, .any, .any, .any, .any, .any, .any, .any, .any, .any, .any, .any, .any, .any, .any, .any, .any, .any, .any, .any, .any, .any, .any, .any, .any, .any, .any, .any, .any, .any, .any, .any, .any, .any, .any, .any, .any, .any, .any, .any, .any, .any, .any, .any, .any, .any, .any, .any, .any, .any, .any, .any, .any, .any, .any, .any, .any, .any, .any, .any, .any, .any, .any, .any, .any, .any, .any, .any, .any, .any, .any, .any, .any, .any, .any, .any, .any, .any, .any, .any, .any, .any, .any, .any, .any, .any, .any, .any, .any, .any, .any, .any, .any, .any, .any, .any, .any, .any, .any, .any, .any], [some (.row 26 [cells]), some (.row 3 [[I 0, .nils, .nils]]), some (.row 3 [[I (mn : Int), .sl 3 0 kn false, tv]]), some (.row 1 (ac1.map rowC)), tb, none, some (.row 4 []), some (.row 7 [rU v]), none, none, none, none, none, none, none, none, none, none, none, none, none, some (.row 4 [[I (e0.tmod (kn : Int)), I e1, I (3 * e2), .sl 23 0 (p5 + 1) false]]), none, some (.row 1 (ac5.map rI))]⟩))) (by simp [-lenA, c19, ↓crb, ↓frb, HH1, ↓hvst, ↓hvrb, HH2] <;> first | exact ⟨rfl, rfl⟩ | rfl) (⟨0, 0, rfl, rfl, Nat.zero_le _, .inl ⟨rfl, rfl⟩⟩) ?_
    rintro mm5 σ ⟨k5, i5, hik5, rfl, hkl5, ⟨hkz5, rfl⟩ | ⟨p5, ac5, hkp5, hac5, hacl5, rfl⟩⟩
    ·refine zS ?_
     refine zS ?_
     refine zR (zO (by simp [-lenA, c19, ↓crb, ↓frb, HH1, ↓hvst, ↓hvrb, HH2]; rfl) ?_)
     simp only [zT, zB]
     refine runs_cond_split (x := _) rfl (fun hlt5 => ?_) (fun hlt5 => ?_)
     ·have hltt5 := of_decide_eq_true hlt5
      have hk05 : k5 < mn := by omega
      have hi05 : 0 ≤ i5 := by omega
      have htn5 : i5.toNat = k5 := by omega
      have hwi5 : W .i64 (i5 + 1) = i5 + 1 := W_small (by omega)
      have hk4 : k5 < 4 := by omega
      have hq := hvq k5 hk4
      have hqb := bq k5
      have hF5 : wMins v (k5 + 1) = wMins v k5 ++ [wMin v k5] := range_map1 _ _
      unfold wMin at hF5
      generalize v_ v (3 + k5) = f at *
      have f1 := hqb.1
      have f2 := hqb.2
      have f3 : 0 ≤ f.tmod 90 := Int.tmod_nonneg 90 f1
      have f4 : f.tmod 90 < 90 := Int.tmod_lt_of_pos _ (by decide)
      have y1 : W .i64 f = f := W_fit (by omega)
      have y2 : W .i64 (f.tmod 90) = f.tmod 90 := W_fit (by omega)
      have y3 : W .i64 (f.tmod 90 - 10) = f.tmod 90 - 10 := W_fit (by omega)
      have y4 : W .i64 (3 + i5) = 3 + i5 := W_fit (by omega)
      have y5 : (3 + i5).toNat = 3 + k5 := by omega
      have y6 : 0 ≤ 3 + i5 := by omega
      have y7 : 3 + i5 < 7 := by omega
      have y8 : (if 10 < f.tmod 90 then f.tmod 90 - 10 else 0) = max 0 (f.tmod 90 - 10) := by split <;> omega
      have y9 : (if 0 < f.tmod 90 - 10 then f.tmod 90 - 10 else 0) = max 0 (f.tmod 90 - 10) := by split <;> omega
      have q5 := fun (h : 3 + k5 < (rU v).length) => Option.some.inj ((List.getElem?_eq_getElem h).symm.trans hq)
      have hnx5 : [max 0 (f.tmod 90 - 10)] = wMins v (k5 + 1) := by rw [hF5, hkz5]; rfl
      have hap5 : [[I (max 0 (f.tmod 90 - 10))]] = [max 0 (f.tmod 90 - 10)].map rI := rfl
      have HH3 := zA hi05 (zA htn5 (zA hk05 (zA hwi5 (zA hq (zA q5 (zA y1 (zA y2 (zA y3 (zA y4 (zA y5 (zA y6 (zA y7 (zA y8 y9)))))))))))))
      refine zK ?_
      simp only [zT, zB]
      refine zS ?_
      refine zL ?_
      refine runs_drw (by simp (maxSteps := 3000000) [-lenA, c19, ↓crb, ↓frb, HH1, ↓hvst, ↓hvrb, HH2, zI, HH3]; rfl) ?_
      simp only [zT, zB]
      refine zR (zO (by simp [-lenA, c19, ↓crb, ↓frb, HH1, ↓hvst, ↓hvrb, HH2, zI, HH3]; rfl) ?_)
      simp only [zT, zB]
      exact ⟨mn - (k5 + 1), _, _, by omega, by simp [-lenA, c19, ↓crb, ↓frb, HH1, ↓hvst, ↓hvrb, HH2, zI, HH3] <;> first | exact ⟨rfl, rfl⟩ | rfl, k5 + 1, i5 + 1, by omega, rfl, by omega, .inr ⟨0, [max 0 (f.tmod 90 - 10)], by omega, hnx5, rfl, rfl⟩⟩
     ·have hx5 := of_decide_eq_false hlt5
      have hkE5 : k5 = mn := by omega
      omega
    ·have tk5 : (ac5.map rI).take (p5 + 1) = ac5.map rI := List.take_of_length_le (by simp [hacl5])
     have hlac5 : p5 + 1 + 1 ≤ 1048576 := by omega
     have hr35 : ∀ e : Int, (rI e).length = 1 := fun _ => rfl
     have hfr5 := fun n h r => optAll_snoc (frN_rI n h ac5) r
     have hrj5 := fun n => rI_rb n 4 ac5
     have HH4 := zA crb (zA frb (zA hvst (zA hvrb (zA hfr5 hrj5))))
     refine zS ?_
     refine zS ?_
     refine zR (zO (by simp [-lenA, c19, HH1, HH2, tk5, hlac5, hacl5, hr35, ↓HH4]; rfl) ?_)
     simp only [zT, zB]
     refine runs_cond_split (x := _) rfl (fun hlt5 => ?_) (fun hlt5 => ?_)
     ·have hltt5 := of_decide_eq_true hlt5
      have hk05 : k5 < mn := by omega
      have hi05 : 0 ≤ i5 := by omega
      have htn5 : i5.toNat = k5 := by omega
      have hwi5 : W .i64 (i5 + 1) = i5 + 1 := W_small (by omega)
      have hk4 : k5 < 4 := by omega
      have hq := hvq k5 hk4
      have hqb := bq k5
      have hF5 : wMins v (k5 + 1) = wMins v k5 ++ [wMin v k5] := range_map1 _ _
      unfold wMin at hF5
      generalize v_ v (3 + k5) = f at *
      have f1 := hqb.1
      have f2 := hqb.2
      have f3 : 0 ≤ f.tmod 90 := Int.tmod_nonneg 90 f1
      have f4 : f.tmod 90 < 90 := Int.tmod_lt_of_pos _ (by decide)
      have y1 : W .i64 f = f := W_fit (by omega)
      have y2 : W .i64 (f.tmod 90) = f.tmod 90 := W_fit (by omega)
      have y3 : W .i64 (f.tmod 90 - 10) = f.tmod 90 - 10 := W_fit (by omega)
      have y4 : W .i64 (3 + i5) = 3 + i5 := W_fit (by omega)
      have y5 : (3 + i5).toNat = 3 + k5 := by omega
      have y6 : 0 ≤ 3 + i5 := by omega
      have y7 : 3 + i5 < 7 := by omega
      have y8 : (if 10 < f.tmod 90 then f.tmod 90 - 10 else 0) = max 0 (f.tmod 90 - 10) := by split <;> omega
      have y9 : (if 0 < f.tmod 90 - 10 then f.tmod 90 - 10 else 0) = max 0 (f.tmod 90 - 10) := by split <;> omega
      have q5 := fun (h : 3 + k5 < (rU v).length) => Option.some.inj ((List.getElem?_eq_getElem h).symm.trans hq)
      have hnx5 : ac5 ++ [max 0 (f.tmod 90 - 10)] = wMins v (k5 + 1) := by rw [hF5, ← hac5]
      have hnl5 : (ac5 ++ [max 0 (f.tmod 90 - 10)]).length = p5 + 1 + 1 := by simp [hacl5]
      have hap5 : ac5.map rI ++ [[I (max 0 (f.tmod 90 - 10))]] = (ac5 ++ [max 0 (f.tmod 90 - 10)]).map rI := by rw [List.map_append]; rfl
      generalize ac5 ++ [max 0 (f.tmod 90 - 10)] = nx5 at *
      have hrx5 := fun n => rI_rb n 4 nx5
      have HH5 := zA tk5 (zA hlac5 (zA hacl5 (zA hr35 (zA hi05 (zA htn5 (zA hk05 (zA hwi5 (zA hap5 (zA hq (zA q5 (zA y1 (zA y2 (zA y3 (zA y4 (zA y5 (zA y6 (zA y7 (zA y8 y9))))))))))))))))))
      refine zK ?_
      simp only [zT, zB]
      refine zS ?_
      refine zL ?_
      refine runs_drw (by simp (maxSteps := 3000000) [-lenA, c19, HH1, HH2, ↓HH4, ↓hrx5, zI, HH5]; rfl) ?_
      simp only [zT, zB]
      refine zR (zO (by simp [-lenA, c19, HH1, HH2, ↓HH4, ↓hrx5, zI, HH5]; rfl) ?_)
      simp only [zT, zB]
      exact ⟨mn - (k5 + 1), _, _, by omega, by simp [-lenA, c19, HH1, HH2, ↓HH4, ↓hrx5, zI, HH5] <;> first | exact ⟨rfl, rfl⟩ | rfl, k5 + 1, i5 + 1, by omega, rfl, by omega, .inr ⟨p5 + 1, nx5, by omega, hnx5, hnl5, rfl⟩⟩
     ·have hx5 := of_decide_eq_false hlt5
      have hkE5 : k5 = mn := by omega
      rw [hkE5] at hac5
      have hz5 : p5 + 1 = mn := by omega
      have hne5 : ac5 ≠ [] := by intro e; rw [e] at hacl5; simp at hacl5
      rw [← hac5] at hF4
      have hro5 : rowJ ⟨e0.tmod (kn : Int), e1, 3 * e2, ac5⟩ = [I (e0.tmod (kn : Int)), I e1, I (3 * e2), .vl (ac5.map rI) false] := by unfold rowJ; rw [encE_ne hne5]
      have hrl5 : ((ac5.map rI).all fun r => r.length == 1) = true := by simp [rI]
      have hrs5 : ((ac5.map rI).all fun r => r.all storable) = true := by simp [rI]
      have hnx4 : [(⟨e0.tmod (kn : Int), e1, 3 * e2, ac5⟩ : FJob)] = wJ W_ (k4 + 1) := by rw [hF4, hkz4]; rfl
      have hap4 : [[I (e0.tmod (kn : Int)), I e1, I (3 * e2), .vl (ac5.map rI) false]] = [(⟨e0.tmod (kn : Int), e1, 3 * e2, ac5⟩ : FJob)].map rowJ := by show _ = [rowJ ((⟨e0.tmod (kn : Int), e1, 3 * e2, ac5⟩ : FJob))]; rw [hro5]
      have HH6 := zA tk5 (zA hlac5 (zA hacl5 (zA hr35 hro5)))
      refine runs_exit ?_
      simp only [zT, zB, if_true, if_false, reduceIte, Nat.reduceEqDiff, Nat.succ_ne_zero, Nat.one_ne_zero, Nat.zero_ne_one]
      refine zR (zO (by simp [-lenA, c19, HH1, HH2, ↓HH4, ↓hrl5, ↓hrs5, frz_mapI, HH6]; rfl) ?_)
      simp only [zT, zB]
      refine zR (zO (by simp [-lenA, c19, HH1, HH2, ↓HH4, ↓hrl5, ↓hrs5, frz_mapI, HH6]; rfl) ?_)
      simp only [zT, zB]
      exact ⟨(min W_.ys.length 5) - (k4 + 1), _, _, by omega, by simp [-lenA, c19, HH1, HH2, ↓HH4, ↓hrl5, ↓hrs5, frz_mapI, HH6] <;> first | exact ⟨rfl, rfl⟩ | rfl, k4 + 1, i4 + 1, by omega, rfl, by omega, .inr ⟨0, [(⟨e0.tmod (kn : Int), e1, 3 * e2, ac5⟩ : FJob)], by omega, hnx4, rfl, rfl⟩⟩
   ·have hAt4 := of_decide_eq_true hA4
    have hx4 := of_decide_eq_false hlt4
    have hkE4 : k4 = (min W_.ys.length 5) := by omega
    have hJ0 : wJ W_ (min W_.ys.length 5) = [] := by rw [← hkE4, hkz4]; rfl
    have hJe : encJ [] = .vl [] true := rfl
    refine runs_exit ?_
    simp only [zT, zB, if_true, if_false, reduceIte, Nat.reduceEqDiff, Nat.succ_ne_zero, Nat.one_ne_zero, Nat.zero_ne_one]
    refine zS ?_
    refine zR (zO (by simp [-lenA, c19, ↓crb, ↓frb, HH1, hA4, hJ0, hJe]; rfl) ?_)
    simp only [zT, zB]
    refine runs_ret ?_
    simp [-lenA, c19, ↓crb, ↓frb, HH1, hA4, hJ0, hJe, trim]
 ·have tk4 : (ac4.map rowJ).take (p4 + 1) = ac4.map rowJ := List.take_of_length_le (by simp [hacl4])
  have hlac4 : p4 + 1 + 1 ≤ 1048576 := by omega
  have hr34 : ∀ e : FJob, (rowJ e).length = 4 := fun _ => rfl
  have hfr4 := fun n h r => optAll_snoc (frN_rowJ n h ac4) r
  have hrj4 := fun n => rowJ_rb n 4 ac4
  rcases hA4 : decide (i4 < (W_.ys.length : Int)) with _ | _
  ·have HH7 := zA tk4 (zA hlac4 (zA hacl4 (zA hr34 hA4)))
   refine zS ?_
   refine zS ?_
   refine zR (zO (by simp [-lenA, c19, ↓crb, ↓frb, HH1, ↓hfr4, ↓hrj4, HH7]; rfl) ?_)
   simp only [zT, zB]
   refine runs_cond (x := false) (by simp) ?_
   have hx4 := of_decide_eq_false hA4
   have hkE4 : k4 = (min W_.ys.length 5) := by omega
   rw [hkE4] at hac4
   have hJne : ac4 ≠ [] := by intro e; rw [e] at hacl4; simp at hacl4
   have hJe : encJ ac4 = .vl (ac4.map rowJ) false := encJ_ne hJne
   have hz4 : min W_.ys.length 5 = p4 + 1 := by omega
   refine runs_exit ?_
   simp only [zT, zB, if_true, if_false, reduceIte, Nat.reduceEqDiff, Nat.succ_ne_zero, Nat.one_ne_zero, Nat.zero_ne_one]
   refine zS ?_
   refine zR (zO (by simp [-lenA, c19, ↓crb, ↓frb, HH1, ↓hfr4, ↓hrj4, HH7, hJe, ← hac4, frz_rowJ, ↓rowJ_rb]; rfl) ?_)
   simp only [zT, zB]
   refine runs_ret ?_
   simp [-lenA, c19, ↓crb, ↓frb, HH1, ↓hfr4, ↓hrj4, HH7, hJe, ← hac4, frz_rowJ, ↓rowJ_rb, trim]
  ·have HH8 := zA tk4 (zA hlac4 (zA hacl4 (zA hr34 hA4)))
   refine zS ?_
   refine zS ?_
   refine zR (zO (by simp [-lenA, c19, ↓crb, ↓frb, HH1, ↓hfr4, ↓hrj4, HH8]; rfl) ?_)
   simp only [zT, zB]
   refine runs_cond_split (x := decide (i4 < 5)) (by simp) (fun hlt4 => ?_) (fun hlt4 => ?_)
   ·have hAt4 := of_decide_eq_true hA4
    have hltt4 := of_decide_eq_true hlt4
    have hk04 : k4 < (min W_.ys.length 5) := by omega
    have hi04 : 0 ≤ i4 := by omega
    have htn4 : i4.toNat = k4 := by omega
    have hwi4 : W .i64 (i4 + 1) = i4 + 1 := W_small (by omega)
    have hyl : k4 < W_.ys.length := by omega
    obtain ⟨ty, rfl⟩ := rowsV_get hy (k := k4) (by rw [List.length_map]; omega)
    have hvv := bys _ (List.getElem_mem hyl)
    have hF4 : wJ W_ (k4 + 1) = wJ W_ k4 ++ [wJob W_ W_.ys[k4]] := take_map1 _ hyl
    generalize hV : W_.ys[k4] = v at *
    have hv0 : (rU v)[0]? = some (.int .u8 (v_ v 0)) := rU_get (by omega)
    have hv1 : (rU v)[1]? = some (.int .u8 (v_ v 1)) := rU_get (by omega)
    have hv2 : (rU v)[2]? = some (.int .u8 (v_ v 2)) := rU_get (by omega)
    have hvq : ∀ q, q < 4 → (rU v)[3 + q]? = some (.int .u8 (v_ v (3 + q))) := fun q hq => rU_get (by omega)
    have q0 := fun (h : 0 < (rU v).length) => Option.some.inj ((List.getElem?_eq_getElem h).symm.trans hv0)
    have q1 := fun (h : 1 < (rU v).length) => Option.some.inj ((List.getElem?_eq_getElem h).symm.trans hv1)
    have q2 := fun (h : 2 < (rU v).length) => Option.some.inj ((List.getElem?_eq_getElem h).symm.trans hv2)
    have hvl : (rU v).length = 7 := by rw [rU_len, hvv.1]
    have hvst := rU_stor v
    have hvrb := fun n => rU_rb n 4 v
    have hvc : cellsOf (.agg (rU v)) = some (rU v) := rfl
    have hvt : (rU v).take 7 = rU v := List.take_of_length_le (by omega)
    have hvd : (rU v).drop 7 = [] := List.drop_of_length_le (by omega)
    have b0 := mins_fit (k := 0) hvv.2
    have b1 := mins_fit (k := 1) hvv.2
    have b2 := mins_fit (k := 2) hvv.2
    have bq : ∀ q, isU (v_ v (3 + q)) := fun q => mins_fit hvv.2
    unfold wJob at hF4
    rw [hkn, hmt] at hF4
    have b01 : 0 ≤ v_ v 0 := b0.1
    have b02 : v_ v 0 ≤ 255 := b0.2
    have b11 : 0 ≤ v_ v 1 := b1.1
    have b12 : v_ v 1 ≤ 255 := b1.2
    have b21 : 0 ≤ v_ v 2 := b2.1
    have b22 : v_ v 2 ≤ 255 := b2.2
    clear b0 b1 b2
    generalize v_ v 0 = e0 at *
    generalize v_ v 1 = e1 at *
    generalize v_ v 2 = e2 at *
    have h01 : 0 ≤ e0.tmod (kn : Int) := Int.tmod_nonneg _ b01
    have h02 : e0.tmod (kn : Int) < kn := Int.tmod_lt_of_pos _ (by omega)
    have hmz : ¬ kn = 0 := by omega
    have hmzi : ¬ (kn : Int) = 0 := by omega
    have hmzb : ((kn : Int) == 0) = false := by simp; omega
    have hmm1 : ¬ ((kn : Int) = -1) := by omega
    have u0 : W .i64 e0 = e0 := W_fit (by omega)
    have u1 : W .i64 e1 = e1 := W_fit (by omega)
    have u2 : W .i64 e2 = e2 := W_fit (by omega)
    have u3 : W .i64 (3 * e2) = 3 * e2 := W_fit (by omega)
    have u4 : W .i64 (e0.tmod (kn : Int)) = e0.tmod (kn : Int) := W_fit (by omega)
    have HH9 := zA hi04 (zA htn4 (zA hk04 (zA hwi4 (zA hyl (zA hV (zA hv0 (zA hv1 (zA hv2 (zA q0 (zA q1 (zA q2 (zA hvl (zA hvc (zA hvt (zA hvd (zA hmz (zA hmzi (zA hmzb (zA hmm1 (zA u0 (zA u1 (zA u2 (zA u3 u4)))))))))))))))))))))))
    have HH10 := zA crb (zA frb (zA hfr4 (zA hrj4 (zA hvst hvrb))))
    refine zK ?_
    simp only [zT, zB]
    refine zS ?_
    refine zL ?_
    refine zS ?_
    refine zR (zO (by simp [-lenA, c19, HH1, HH8, HH9, ↓HH10]; rfl) ?_)
    simp only [zT, zB]
    refine zS ?_
    refine runs_drw (by simp (maxSteps := 3000000) [-lenA, c19, HH1, HH8, HH9, ↓HH10]; rfl) ?_
    simp only [zT, zB]
    refine zS ?_
    refine zS ?_
    refine zR (zO (by simp [-lenA, c19, HH1, HH8, HH9, ↓HH10]; rfl) ?_)
    simp only [zT, zB]
    refine zL ?_
    refine runs_loopG_inv (fun mm5 σ => ∃ (k5 : Nat) (i5 : Int), i5 = k5 ∧ mn - k5 = mm5 ∧ k5 ≤ mn ∧ ((k5 = 0 ∧ σ = ⟨[.any, .ref 0 0 0, .ref 1 0 0, .any, .ref 2 0 0, I (kn : Int), .any, .any, .any, .any, .any, .any, .sl 6 0 (p4 + 1) false, I i4, .ref 7 0 0, .ref 21 0 0, I i5, .any, .any, .any, .any, .any, .any, .any, .any, .any, .any, .any, .any, .any, .any, .any, .any, .any, .any, .any, .any, .any, .any, .any, .any, .any, .any, .any, .any, .any, .any, .any, .any, .any, .any, .any, .any, .any, .any, .any, .any, .any, .any, .any, .any, .any, .any, .any, .any, .any, .any, .any, .any, .any, .any, .any, .any, .any, .any, .any, .any, .any, .any, .any, .any, .any, .any, .any, .any, .any, .any, .any, .any, .any, .any, .any, .any, .any, .any, .any, .any, .any, .any, .any, .any, .any, .any, .any, .any, .any, .any, .any, .any, .any, .any, .any, .any, .any, .any, .any, .any, .any, .any, .any, .any, .any, .any, .any, .any, .any, .any, .any, .any, .any, .any, .any, .any, .any, .any, .any, .any, .any, .any, .any, .any, .any, .any, .any, .any, .any, .any, .any, .any, .any, .any, .any, .any, .any, .any, .any], [some (.row 26 [cells]), some (.row 3 [[I 0, .nils, .nils]]), some (.row 3 [[I (mn : Int), .sl 3 0 kn false, tv]]), some (.row 1 (ac1.map rowC)), tb, none, some (.row 4 (ac4.map rowJ)), some (.row 7 [rU v]), none, none, none, none, none, none, none, none, none, none, none, none, none, some (.row 4 [[I (e0.tmod (kn : Int)), I e1, I (3 * e2), .nils]]), none, none]⟩) ∨ (∃ (p5 : Nat) (ac5 : List (Int)), k5 = p5 + 1 ∧ ac5 = wMins v (k5) ∧ ac5.length = p5 + 1 ∧ σ = ⟨[.any, .ref 0 0 0, .ref 1 0 0, .any, .ref 2 0 0, I (kn : Int), .any, .any, .any, .any, .any, .any, .sl 6 0 (p4 + 1) false, I i4, .ref 7 0 0, .ref 21 0 0, I i5, .any, .any, .any, .any, .any, .any, .any, .any, .any, .any, .any, .any, .any, .any, .any, .any, .any, .any, .any, .any, .any, .any, .any, .any, .any, .any, .any, .any, .any, .any, .any, .any, .any, .any, .any, .any, .any, .any, .any, .any, .any, .any, .any, .any, .any, .any, .any, .any, .any, .any, .any, .any, .any, .any, .any, .any, .any, .any, .any, .any, .any, .any, .any, .any, .any, .any, .any, .any, .any, .any, .any, .any, .any, .any, .any, .any, .any, .any, .any, .any, .any, .any, .any, .any, .any, .any, .any, .any, .any, .any, .any, .any, .any, .any, .any, .any, .any, .any, .any, .any, .any, .any, .any, .any, .any, .any, .any, .any, .any, .any, .any, .any, .any, .any, .any, .any, .any, .any, .any, .any, .any, .any, .any, .any, .any, .any, .any, .any, .any, .any, .any, .any, .any, .any, .any, .any, .any, .any, .any], [some (.row 26 [cells]), some (.row 3 [[I 0, .nils, .nils]]), some (.row 3 [[I (mn : Int), .sl 3 0 kn false, tv]]), some (.row 1 (ac1.map rowC)), tb, none, some (.row 4 (ac4.map rowJ)), some (.row 7 [rU v]), none, none, none, none, none, none, none, none, none, none, none, none, none, some (.row 4 [[I (e0.tmod (kn : Int)), I e1, I (3 * e2), .sl 23 0 (p5 + 1) false]]), none, some (.row 1 (ac5.map rI))]⟩))) (by simp [-lenA, c19, HH1, HH8, HH9, ↓HH10] <;> first | exact ⟨rfl, rfl⟩ | rfl) (⟨0, 0, rfl, rfl, Nat.zero_le _, .inl ⟨rfl, rfl⟩⟩) ?_
    rintro mm5 σ ⟨k5, i5, hik5, rfl, hkl5, ⟨hkz5, rfl⟩ | ⟨p5, ac5, hkp5, hac5, hacl5, rfl⟩⟩
    ·refine zS ?_
     refine zS ?_
     refine zR (zO (by simp [-lenA, c19, HH1, HH8, HH9, ↓HH10]; rfl) ?_)
     simp only [zT, zB]
     refine runs_cond_split (x := _) rfl (fun hlt5 => ?_) (fun hlt5 => ?_)
     ·have hltt5 := of_decide_eq_true hlt5
      have hk05 : k5 < mn := by omega
      have hi05 : 0 ≤ i5 := by omega
      have htn5 : i5.toNat = k5 := by omega
      have hwi5 : W .i64 (i5 + 1) = i5 + 1 := W_small (by omega)
      have hk4 : k5 < 4 := by omega
      have hq := hvq k5 hk4
      have hqb := bq k5
      have hF5 : wMins v (k5 + 1) = wMins v k5 ++ [wMin v k5] := range_map1 _ _
      unfold wMin at hF5
      generalize v_ v (3 + k5) = f at *
      have f1 := hqb.1
      have f2 := hqb.2
      have f3 : 0 ≤ f.tmod 90 := Int.tmod_nonneg 90 f1
      have f4 : f.tmod 90 < 90 := Int.tmod_lt_of_pos _ (by decide)
      have y1 : W .i64 f = f := W_fit (by omega)
      have y2 : W .i64 (f.tmod 90) = f.tmod 90 := W_fit (by omega)
      have y3 : W .i64 (f.tmod 90 - 10) = f.tmod 90 - 10 := W_fit (by omega)
      have y4 : W .i64 (3 + i5) = 3 + i5 := W_fit (by omega)
      have y5 : (3 + i5).toNat = 3 + k5 := by omega
      have y6 : 0 ≤ 3 + i5 := by omega
      have y7 : 3 + i5 < 7 := by omega
      have y8 : (if 10 < f.tmod 90 then f.tmod 90 - 10 else 0) = max 0 (f.tmod 90 - 10) := by split <;> omega
      have y9 : (if 0 < f.tmod 90 - 10 then f.tmod 90 - 10 else 0) = max 0 (f.tmod 90 - 10) := by split <;> omega
      have q5 := fun (h : 3 + k5 < (rU v).length) => Option.some.inj ((List.getElem?_eq_getElem h).symm.trans hq)
      have hnx5 : [max 0 (f.tmod 90 - 10)] = wMins v (k5 + 1) := by rw [hF5, hkz5]; rfl
      have hap5 : [[I (max 0 (f.tmod 90 - 10))]] = [max 0 (f.tmod 90 - 10)].map rI := rfl
      have HH11 := zA hi05 (zA htn5 (zA hk05 (zA hwi5 (zA hq (zA q5 (zA y1 (zA y2 (zA y3 (zA y4 (zA y5 (zA y6 (zA y7 (zA y8 y9)))))))))))))
      refine zK ?_
      simp only [zT, zB]
      refine zS ?_
      refine zL ?_
      refine runs_drw (by simp (maxSteps := 3000000) [-lenA, c19, HH1, HH8, HH9, ↓HH10, zI, HH11]; rfl) ?_
      simp only [zT, zB]
      refine zR (zO (by simp [-lenA, c19, HH1, HH8, HH9, ↓HH10, zI, HH11]; rfl) ?_)
      simp only [zT, zB]
      exact ⟨mn - (k5 + 1), _, _, by omega, by simp [-lenA, c19, HH1, HH8, HH9, ↓HH10, zI, HH11] <;> first | exact ⟨rfl, rfl⟩ | rfl, k5 + 1, i5 + 1, by omega, rfl, by omega, .inr ⟨0, [max 0 (f.tmod 90 - 10)], by omega, hnx5, rfl, rfl⟩⟩
     ·have hx5 := of_decide_eq_false hlt5
      have hkE5 : k5 = mn := by omega
      omega
    ·have tk5 : (ac5.map rI).take (p5 + 1) = ac5.map rI := List.take_of_length_le (by simp [hacl5])
     have hlac5 : p5 + 1 + 1 ≤ 1048576 := by omega
     have hr35 : ∀ e : Int, (rI e).length = 1 := fun _ => rfl
     have hfr5 := fun n h r => optAll_snoc (frN_rI n h ac5) r
     have hrj5 := fun n => rI_rb n 4 ac5
     refine zS ?_
     refine zS ?_
     refine zR (zO (by simp [-lenA, c19, HH1, HH8, HH9, ↓HH10, tk5, hlac5, hacl5, hr35, ↓hfr5, ↓hrj5]; rfl) ?_)
     simp only [zT, zB]
     refine runs_cond_split (x := _) rfl (fun hlt5 => ?_) (fun hlt5 => ?_)
     ·have hltt5 := of_decide_eq_true hlt5
      have hk05 : k5 < mn := by omega
      have hi05 : 0 ≤ i5 := by omega
      have htn5 : i5.toNat = k5 := by omega
      have hwi5 : W .i64 (i5 + 1) = i5 + 1 := W_small (by omega)
      have hk4 : k5 < 4 := by omega
      have hq := hvq k5 hk4
      have hqb := bq k5
      have hF5 : wMins v (k5 + 1) = wMins v k5 ++ [wMin v k5] := range_map1 _ _
      unfold wMin at hF5
      generalize v_ v (3 + k5) = f at *
      have f1 := hqb.1
      have f2 := hqb.2
      have f3 : 0 ≤ f.tmod 90 := Int.tmod_nonneg 90 f1
      have f4 : f.tmod 90 < 90 := Int.tmod_lt_of_pos _ (by decide)
      have y1 : W .i64 f = f := W_fit (by omega)
      have y2 : W .i64 (f.tmod 90) = f.tmod 90 := W_fit (by omega)
      have y3 : W .i64 (f.tmod 90 - 10) = f.tmod 90 - 10 := W_fit (by omega)
      have y4 : W .i64 (3 + i5) = 3 + i5 := W_fit (by omega)
      have y5 : (3 + i5).toNat = 3 + k5 := by omega
      have y6 : 0 ≤ 3 + i5 := by omega
      have y7 : 3 + i5 < 7 := by omega
      have y8 : (if 10 < f.tmod 90 then f.tmod 90 - 10 else 0) = max 0 (f.tmod 90 - 10) := by split <;> omega
      have y9 : (if 0 < f.tmod 90 - 10 then f.tmod 90 - 10 else 0) = max 0 (f.tmod 90 - 10) := by split <;> omega
      have q5 := fun (h : 3 + k5 < (rU v).length) => Option.some.inj ((List.getElem?_eq_getElem h).symm.trans hq)
      have hnx5 : ac5 ++ [max 0 (f.tmod 90 - 10)] = wMins v (k5 + 1) := by rw [hF5, ← hac5]
      have hnl5 : (ac5 ++ [max 0 (f.tmod 90 - 10)]).length = p5 + 1 + 1 := by simp [hacl5]
      have hap5 : ac5.map rI ++ [[I (max 0 (f.tmod 90 - 10))]] = (ac5 ++ [max 0 (f.tmod 90 - 10)]).map rI := by rw [List.map_append]; rfl
      generalize ac5 ++ [max 0 (f.tmod 90 - 10)] = nx5 at *
      have hrx5 := fun n => rI_rb n 4 nx5
      have HH12 := zA tk5 (zA hlac5 (zA hacl5 (zA hr35 (zA hi05 (zA htn5 (zA hk05 (zA hwi5 (zA hap5 (zA hq (zA q5 (zA y1 (zA y2 (zA y3 (zA y4 (zA y5 (zA y6 (zA y7 (zA y8 y9))))))))))))))))))
      refine zK ?_
      simp only [zT, zB]
      refine zS ?_
      refine zL ?_
      refine runs_drw (by simp (maxSteps := 3000000) [-lenA, c19, HH1, HH8, HH9, ↓HH10, ↓hfr5, ↓hrj5, ↓hrx5, zI, HH12]; rfl) ?_
      simp only [zT, zB]
      refine zR (zO (by simp [-lenA, c19, HH1, HH8, HH9, ↓HH10, ↓hfr5, ↓hrj5, ↓hrx5, zI, HH12]; rfl) ?_)
      simp only [zT, zB]
      exact ⟨mn - (k5 + 1), _, _, by omega, by simp [-lenA, c19, HH1, HH8, HH9, ↓HH10, ↓hfr5, ↓hrj5, ↓hrx5, zI, HH12] <;> first | exact ⟨rfl, rfl⟩ | rfl, k5 + 1, i5 + 1, by omega, rfl, by omega, .inr ⟨p5 + 1, nx5, by omega, hnx5, hnl5, rfl⟩⟩
     ·have hx5 := of_decide_eq_false hlt5
      have hkE5 : k5 = mn := by omega
      rw [hkE5] at hac5
      have hz5 : p5 + 1 = mn := by omega
      have hne5 : ac5 ≠ [] := by intro e; rw [e] at hacl5; simp at hacl5
      rw [← hac5] at hF4
      have hro5 : rowJ ⟨e0.tmod (kn : Int), e1, 3 * e2, ac5⟩ = [I (e0.tmod (kn : Int)), I e1, I (3 * e2), .vl (ac5.map rI) false] := by unfold rowJ; rw [encE_ne hne5]
      have hrl5 : ((ac5.map rI).all fun r => r.length == 1) = true := by simp [rI]
      have hrs5 : ((ac5.map rI).all fun r => r.all storable) = true := by simp [rI]
      have hnx4 : ac4 ++ [(⟨e0.tmod (kn : Int), e1, 3 * e2, ac5⟩ : FJob)] = wJ W_ (k4 + 1) := by rw [hF4, ← hac4]
      have hnl4 : (ac4 ++ [(⟨e0.tmod (kn : Int), e1, 3 * e2, ac5⟩ : FJob)]).length = p4 + 1 + 1 := by simp [hacl4]
      have hap4 : ac4.map rowJ ++ [[I (e0.tmod (kn : Int)), I e1, I (3 * e2), .vl (ac5.map rI) false]] = (ac4 ++ [(⟨e0.tmod (kn : Int), e1, 3 * e2, ac5⟩ : FJob)]).map rowJ := by rw [List.map_append]; show _ = _ ++ [rowJ ((⟨e0.tmod (kn : Int), e1, 3 * e2, ac5⟩ : FJob))]; rw [hro5]
      generalize ac4 ++ [(⟨e0.tmod (kn : Int), e1, 3 * e2, ac5⟩ : FJob)] = nx4 at *
      have hrx4 := fun n => rowJ_rb n 4 nx4
      have HH13 := zA tk5 (zA hlac5 (zA hacl5 (zA hr35 hap4)))
      have HH14 := zA hfr5 (zA hrj5 (zA hrx4 (zA hrl5 hrs5)))
      refine runs_exit ?_
      simp only [zT, zB, if_true, if_false, reduceIte, Nat.reduceEqDiff, Nat.succ_ne_zero, Nat.one_ne_zero, Nat.zero_ne_one]
      refine zR (zO (by simp [-lenA, c19, HH1, HH8, HH9, ↓HH10, frz_mapI, HH13, ↓HH14]; rfl) ?_)
      simp only [zT, zB]
      refine zR (zO (by simp [-lenA, c19, HH1, HH8, HH9, ↓HH10, frz_mapI, HH13, ↓HH14]; rfl) ?_)
      simp only [zT, zB]
      exact ⟨(min W_.ys.length 5) - (k4 + 1), _, _, by omega, by simp [-lenA, c19, HH1, HH8, HH9, ↓HH10, frz_mapI, HH13, ↓HH14] <;> first | exact ⟨rfl, rfl⟩ | rfl, k4 + 1, i4 + 1, by omega, rfl, by omega, .inr ⟨p4 + 1, nx4, by omega, hnx4, hnl4, rfl⟩⟩
   ·have hAt4 := of_decide_eq_true hA4
    have hx4 := of_decide_eq_false hlt4
    have hkE4 : k4 = (min W_.ys.length 5) := by omega
    rw [hkE4] at hac4
    have hJne : ac4 ≠ [] := by intro e; rw [e] at hacl4; simp at hacl4
    have hJe : encJ ac4 = .vl (ac4.map rowJ) false := encJ_ne hJne
    have hz4 : min W_.ys.length 5 = p4 + 1 := by omega
    refine runs_exit ?_
    simp only [zT, zB, if_true, if_false, reduceIte, Nat.reduceEqDiff, Nat.succ_ne_zero, Nat.one_ne_zero, Nat.zero_ne_one]
    refine zS ?_
    refine zR (zO (by simp [-lenA, c19, ↓crb, ↓frb, HH1, ↓hfr4, ↓hrj4, HH8, hJe, ← hac4, frz_rowJ, ↓rowJ_rb]; rfl) ?_)
    simp only [zT, zB]
    refine runs_ret ?_
    simp [-lenA, c19, ↓crb, ↓frb, HH1, ↓hfr4, ↓hrj4, HH8, hJe, ← hac4, frz_rowJ, ↓rowJ_rb, trim]
theorem a41 (P : Program) (T : Nat → Option CFn) (hT : T 41 = some { c41 with body := annK [(118, [.cell 4 1]), (502, [.slot 7]), (566, [.cell 4 2]), (12342, [.slot 12]), (127030, [.cell 15 3])] [] c41.body }) (W_ : FWorks) (x y : AVal) (hx : rowsV x = some (W_.xs.map rU)) (hy : rowsV y = some (W_.ys.map rU)) (hw : WkOk W_) : Answers P T 41 [.agg (wkC W_ x y)] [] fun v h => frz false h 5 v = some (.tup [.agg [I (wM W_), encC (wC W_ (wK W_).toNat), encN (wT W_ (min W_.xs.length 6))], encJ (wJ W_ (min W_.ys.length 5))]) := by
 have lx := rowsV_len hx
 have ly := rowsV_len hy
 rw [List.length_map] at lx ly
 obtain ⟨bm, bk, bg, bxs, bys, bo⟩ := hw
 have c0 : (wkC W_ x y)[0]? = some (.int .u8 W_.m) := rfl
 have c1 : (wkC W_ x y)[1]? = some (.int .u8 W_.k) := rfl
 have cg : ∀ p q, p < 4 → q < 4 → (wkC W_ x y)[2 + p * 4 + q]? = some (.int .u8 (gAt W_ p q)) := fun p q hp hq => by
  have e : 2 + p * 4 + q = (p * 4 + q + 1) + 1 := by omega
  unfold wkC gAt
  rw [e, List.getElem?_cons_succ, List.getElem?_cons_succ, List.append_assoc, List.getElem?_append_left (by rw [rU_len, bg.1]; omega), rU_get (by rw [bg.1]; omega)]
 have c18 : (wkC W_ x y)[18]? = some x := by
  unfold wkC
  rw [show 18 = 16 + 1 + 1 by rfl, List.getElem?_cons_succ, List.getElem?_cons_succ, List.append_assoc, List.getElem?_append_right (by rw [rU_len, bg.1]; exact Nat.le_refl _), rU_len, bg.1]; rfl
 have c19 : (wkC W_ x y)[19]? = some y := by
  unfold wkC
  rw [show 19 = 17 + 1 + 1 by rfl, List.getElem?_cons_succ, List.getElem?_cons_succ, List.append_assoc, List.getElem?_append_right (by rw [rU_len, bg.1]; omega), rU_len, bg.1]; rfl
 obtain ⟨cx1, cx2⟩ := rowsV_cells hx
 obtain ⟨cy1, cy2⟩ := rowsV_cells hy
 have rx := fun n d => rowsV_rb hx n d
 have ry := fun n d => rowsV_rb hy n d
 have crb : ∀ n, (wkC W_ x y).all (rb n 5) = true := fun n => by
  have h1 := rU_rb n 4 W_.g
  have h2 := rU_rb n 4 W_.o
  simp only [wkC, List.all_cons, List.all_append, h1, h2, rx, ry, rb_int', List.all_nil, Bool.and_true]
 have cst : (wkC W_ x y).all storable = true := by
  have h1 := rU_stor W_.g
  have h2 := rU_stor W_.o
  simp only [wkC, List.all_cons, List.all_append, h1, h2, cx2, cy2, List.all_nil, Bool.and_true]; rfl
 have ccl : cellsOf (.agg (wkC W_ x y)) = some (wkC W_ x y) := rfl
 have clen : (wkC W_ x y).length = 26 := by simp [wkC, rU_len, bg.1, bo.1]
 generalize hcells : wkC W_ x y = cells at *
 have g0 := fun (h : 0 < cells.length) => Option.some.inj ((List.getElem?_eq_getElem h).symm.trans c0)
 have g1 := fun (h : 1 < cells.length) => Option.some.inj ((List.getElem?_eq_getElem h).symm.trans c1)
 have g18 := fun (h : 18 < cells.length) => Option.some.inj ((List.getElem?_eq_getElem h).symm.trans c18)
 have g19 := fun (h : 19 < cells.length) => Option.some.inj ((List.getElem?_eq_getElem h).symm.trans c19)
 have hmM : 0 ≤ W_.m.tmod 4 ∧ W_.m.tmod 4 < 4 := ⟨Int.tmod_nonneg 4 bm.1, Int.tmod_lt_of_pos _ (by decide)⟩
 have hkK : 0 ≤ W_.k.tmod 4 ∧ W_.k.tmod 4 < 4 := ⟨Int.tmod_nonneg 4 bk.1, Int.tmod_lt_of_pos _ (by decide)⟩
 have bm1 := bm.1
 have bm2 := bm.2
 have bk1 := bk.1
 have bk2 := bk.2
 have wm0 : W .i64 W_.m = W_.m := W_fit (by omega)
 have wk0 : W .i64 W_.k = W_.k := W_fit (by omega)
 have wm1 : W .i64 (1 + W_.m.tmod 4) = wM W_ := W_fit (by omega)
 have wk1 : W .i64 (1 + W_.k.tmod 4) = wK W_ := W_fit (by omega)
 have hM : 1 ≤ wM W_ ∧ wM W_ ≤ 4 := by unfold wM; omega
 have hK : 1 ≤ wK W_ ∧ wK W_ ≤ 4 := by unfold wK; omega
 obtain ⟨mn, hmn⟩ : ∃ mn : Nat, wM W_ = mn := ⟨(wM W_).toNat, by omega⟩
 obtain ⟨kn, hkn⟩ : ∃ kn : Nat, wK W_ = kn := ⟨(wK W_).toNat, by omega⟩
 have hmt : (wM W_).toNat = mn := by omega
 have hkt : (wK W_).toNat = kn := by omega
 rw [hmn] at hM wm1
 rw [hkn] at hK wk1
 obtain ⟨hM1, hM4⟩ := hM
 obtain ⟨hK1, hK4⟩ := hK
 have hM1 : 1 ≤ mn := by omega
 have hK1 : 1 ≤ kn := by omega
 have hM4 : mn ≤ 4 := by omega
 have hK4 : kn ≤ 4 := by omega
 have wmb := wm1
 have W41 : W .i64 4 = 4 := by decide
 refine answers_of hT (orcF_none rfl) ?_
 simp only [oo, om, op, og, ci, cl, c41, annK, lkG, lkR, reduceIte, Nat.reduceEqDiff, reduceCtorEq, List.cons.injEq, and_true, and_false, false_and, true_and]
 have HH1 := zA lx (zA ly (zA c0 (zA c1 (zA g0 (zA g1 (zA g18 (zA g19 (zA cx1 (zA cx2 (zA cy1 (zA cy2 (zA rx (zA ry (zA ccl (zA clen (zA wm0 (zA wk0 (zA wm1 wk1))))))))))))))))))
 refine zS ?_
 refine zR (zO (by simp [-lenA, c18, c19, ↓crb, ↓cst, HH1]; rfl) ?_)
 simp only [zT, zB]
 refine zS ?_
 refine zR (zO (by simp [-lenA, c18, c19, ↓crb, ↓cst, HH1]; rfl) ?_)
 simp only [zT, zB]
 refine zS ?_
 refine zR (zO (by simp [-lenA, c18, c19, ↓crb, ↓cst, HH1]; rfl) ?_)
 simp only [zT, zB]
 refine zS ?_
 refine zS ?_
 refine zR (zO (by simp [-lenA, c18, c19, ↓crb, ↓cst, HH1]; rfl) ?_)
 simp only [zT, zB]
 refine zL ?_
 refine runs_loopG_inv (fun mm1 σ => ∃ (k1 : Nat) (i1 : Int), i1 = k1 ∧ kn - k1 = mm1 ∧ k1 ≤ kn ∧ ((k1 = 0 ∧ σ = ⟨[.any, .ref 0 0 0, .ref 1 0 0, .any, .ref 2 0 0, I (kn : Int), I i1, .any, .any, .any, .any, .any, .any, .any, .any, .any, .any, .any, .any, .any, .any, .any, .any, .any, .any, .any, .any, .any, .any, .any, .any, .any, .any, .any, .any, .any, .any, .any, .any, .any, .any, .any, .any, .any, .any, .any, .any, .any, .any, .any, .any, .any, .any, .any, .any, .any, .any, .any, .any, .any, .any, .any, .any, .any, .any, .any, .any, .any, .any, .any, .any, .any, .any, .any, .any, .any, .any, .any, .any, .any, .any, .any, .any, .any, .any, .any, .any, .any, .any, .any, .any, .any, .any, .any, .any, .any, .any, .any, .any, .any, .any, .any, .any, .any, .any, .any, .any, .any, .any, .any, .any, .any, .any, .any, .any, .any, .any, .any, .any, .any, .any, .any, .any, .any, .any, .any, .any, .any, .any, .any, .any, .any, .any, .any, .any, .any, .any, .any, .any, .any, .any, .any, .any, .any, .any, .any, .any, .any, .any, .any, .any, .any, .any, .any, .any, .any], [some (.row 26 [cells]), some (.row 3 [[I 0, .nils, .nils]]), some (.row 3 [[I (mn : Int), .nils, .nils]]), none]⟩) ∨ (∃ (p1 : Nat) (ac1 : List (List Int)), k1 = p1 + 1 ∧ ac1 = wC W_ (k1) ∧ ac1.length = p1 + 1 ∧ σ = ⟨[.any, .ref 0 0 0, .ref 1 0 0, .any, .ref 2 0 0, I (kn : Int), I i1, .any, .any, .any, .any, .any, .any, .any, .any, .any, .any, .any, .any, .any, .any, .any, .any, .any, .any, .any, .any, .any, .any, .any, .any, .any, .any, .any, .any, .any, .any, .any, .any, .any, .any, .any, .any, .any, .any, .any, .any, .any, .any, .any, .any, .any, .any, .any, .any, .any, .any, .any, .any, .any, .any, .any, .any, .any, .any, .any, .any, .any, .any, .any, .any, .any, .any, .any, .any, .any, .any, .any, .any, .any, .any, .any, .any, .any, .any, .any, .any, .any, .any, .any, .any, .any, .any, .any, .any, .any, .any, .any, .any, .any, .any, .any, .any, .any, .any, .any, .any, .any, .any, .any, .any, .any, .any, .any, .any, .any, .any, .any, .any, .any, .any, .any, .any, .any, .any, .any, .any, .any, .any, .any, .any, .any, .any, .any, .any, .any, .any, .any, .any, .any, .any, .any, .any, .any, .any, .any, .any, .any, .any, .any, .any, .any, .any, .any, .any, .any], [some (.row 26 [cells]), some (.row 3 [[I 0, .nils, .nils]]), some (.row 3 [[I (mn : Int), .sl 3 0 (p1 + 1) false, .nils]]), some (.row 1 (ac1.map rowC))]⟩))) (by simp [-lenA, c18, c19, ↓crb, ↓cst, HH1] <;> first | exact ⟨rfl, rfl⟩ | rfl) (⟨0, 0, rfl, rfl, Nat.zero_le _, .inl ⟨rfl, rfl⟩⟩) ?_
 rintro mm1 σ ⟨k1, i1, hik1, rfl, hkl1, ⟨hkz1, rfl⟩ | ⟨p1, ac1, hkp1, hac1, hacl1, rfl⟩⟩
 ·refine zS ?_
  refine zS ?_
  refine zR (zO (by simp [-lenA, c18, c19, ↓crb, ↓cst, HH1]; rfl) ?_)
  simp only [zT, zB]
  refine runs_cond_split (x := _) rfl (fun hlt1 => ?_) (fun hlt1 => ?_)
  ·have hltt1 := of_decide_eq_true hlt1
   have hk01 : k1 < kn := by omega
   have hi01 : 0 ≤ i1 := by omega
   have htn1 : i1.toNat = k1 := by omega
   have hwi1 : W .i64 (i1 + 1) = i1 + 1 := W_small (by omega)
   refine zK ?_
   simp only [zT, zB]
   refine zS ?_
   refine zL ?_
   refine zS ?_
   refine zR (zO (by simp [-lenA, c18, c19, ↓crb, ↓cst, HH1, hi01, htn1, hk01, hwi1]; rfl) ?_)
   simp only [zT, zB]
   refine zS ?_
   refine zS ?_
   refine zR (zO (by simp [-lenA, c18, c19, ↓crb, ↓cst, HH1, hi01, htn1, hk01, hwi1]; rfl) ?_)
   simp only [zT, zB]
   refine zL ?_
   refine runs_loopG_inv (fun mm2 σ => ∃ (k2 : Nat) (i2 : Int), i2 = k2 ∧ kn - k2 = mm2 ∧ k2 ≤ kn ∧ ((k2 = 0 ∧ σ = ⟨[.any, .ref 0 0 0, .ref 1 0 0, .any, .ref 2 0 0, I (kn : Int), I i1, .sl 5 0 0 true, I i2, .any, .any, .any, .any, .any, .any, .any, .any, .any, .any, .any, .any, .any, .any, .any, .any, .any, .any, .any, .any, .any, .any, .any, .any, .any, .any, .any, .any, .any, .any, .any, .any, .any, .any, .any, .any, .any, .any, .any, .any, .any, .any, .any, .any, .any, .any, .any, .any, .any, .any, .any, .any, .any, .any, .any, .any, .any, .any, .any, .any, .any, .any, .any, .any, .any, .any, .any, .any, .any, .any, .any, .any, .any, .any, .any, .any, .any, .any, .any, .any, .any, .any, .any, .any, .any, .any, .any, .any, .any, .any, .any, .any, .any, .any, .any, .any, .any, .any, .any, .any, .any, .any, .any, .any, .any, .any, .any, .any, .any, .any, .any, .any, .any, .any, .any, .any, .any, .any, .any, .any, .any, .any, .any, .any, .any, .any, .any, .any, .any, .any, .any, .any, .any, .any, .any, .any, .any, .any, .any, .any, .any, .any, .any, .any, .any, .any, .any], [some (.row 26 [cells]), some (.row 3 [[I 0, .nils, .nils]]), some (.row 3 [[I (mn : Int), .nils, .nils]]), none, none, some (.row 1 [])]⟩) ∨ (∃ (p2 : Nat) (ac2 : List (Int)), k2 = p2 + 1 ∧ ac2 = wRow W_ k1 (k2) ∧ ac2.length = p2 + 1 ∧ σ = ⟨[.any, .ref 0 0 0, .ref 1 0 0, .any, .ref 2 0 0, I (kn : Int), I i1, .sl 5 0 (p2 + 1) false, I i2, .any, .any, .any, .any, .any, .any, .any, .any, .any, .any, .any, .any, .any, .any, .any, .any, .any, .any, .any, .any, .any, .any, .any, .any, .any, .any, .any, .any, .any, .any, .any, .any, .any, .any, .any, .any, .any, .any, .any, .any, .any, .any, .any, .any, .any, .any, .any, .any, .any, .any, .any, .any, .any, .any, .any, .any, .any, .any, .any, .any, .any, .any, .any, .any, .any, .any, .any, .any, .any, .any, .any, .any, .any, .any, .any, .any, .any, .any, .any, .any, .any, .any, .any, .any, .any, .any, .any, .any, .any, .any, .any, .any, .any, .any, .any, .any, .any, .any, .any, .any, .any, .any, .any, .any, .any, .any, .any, .any, .any, .any, .any, .any, .any, .any, .any, .any, .any, .any, .any, .any, .any, .any, .any, .any, .any, .any, .any, .any, .any, .any, .any, .any, .any, .any, .any, .any, .any, .any, .any, .any, .any, .any, .any, .any, .any, .any, .any], [some (.row 26 [cells]), some (.row 3 [[I 0, .nils, .nils]]), some (.row 3 [[I (mn : Int), .nils, .nils]]), none, none, some (.row 1 (ac2.map rI))]⟩))) (by simp [-lenA, c18, c19, ↓crb, ↓cst, HH1, hi01, htn1, hk01, hwi1] <;> first | exact ⟨rfl, rfl⟩ | rfl) (⟨0, 0, rfl, rfl, Nat.zero_le _, .inl ⟨rfl, rfl⟩⟩) ?_
   rintro mm2 σ ⟨k2, i2, hik2, rfl, hkl2, ⟨hkz2, rfl⟩ | ⟨p2, ac2, hkp2, hac2, hacl2, rfl⟩⟩
   ·refine zS ?_
    refine zS ?_
    refine zR (zO (by simp [-lenA, c18, c19, ↓crb, ↓cst, HH1, hi01, htn1, hk01, hwi1]; rfl) ?_)
    simp only [zT, zB]
    refine runs_cond_split (x := _) rfl (fun hlt2 => ?_) (fun hlt2 => ?_)
    ·have hltt2 := of_decide_eq_true hlt2
     have hk02 : k2 < kn := by omega
     have hi02 : 0 ≤ i2 := by omega
     have htn2 : i2.toNat = k2 := by omega
     have hwi2 : W .i64 (i2 + 1) = i2 + 1 := W_small (by omega)
     have hik4 : i1 < 4 := by omega
     have hjk4 : i2 < 4 := by omega
     have hgu := mins_fit (k := k1 * 4 + k2) bg.2
     have hgc := cg k1 k2 (by omega) (by omega)
     have hF2 : wRow W_ k1 (k2 + 1) = wRow W_ k1 k2 ++ [(gAt W_ k1 k2).tmod 40] := range_map1 _ _
     have hgv : isU (gAt W_ k1 k2) := hgu
     generalize gAt W_ k1 k2 = G at *
     have wg0 : W .i64 G = G := W_fit (by have := hgv.1; have := hgv.2; omega)
     have hg1 : 0 ≤ G.tmod 40 := Int.tmod_nonneg 40 hgv.1
     have hg2 : G.tmod 40 < 40 := Int.tmod_lt_of_pos _ (by decide)
     have wg1 : W .i64 (G.tmod 40) = G.tmod 40 := W_fit (by omega)
     have hnx2 : [G.tmod 40] = wRow W_ k1 (k2 + 1) := by rw [hF2, hkz2]; rfl
     have hap2 : [[I (G.tmod 40)]] = [G.tmod 40].map rI := rfl
     have HH2 := zA hi01 (zA htn1 (zA hk01 (zA hwi1 (zA hi02 (zA htn2 (zA hk02 (zA hwi2 (zA hik4 (zA hjk4 (zA hgc (zA wg0 wg1)))))))))))
     refine zK ?_
     simp only [zT, zB]
     refine zS ?_
     refine zL ?_
     refine zR (zO (by simp [-lenA, c18, c19, ↓crb, ↓cst, HH1, zI, HH2]; rfl) ?_)
     simp only [zT, zB]
     refine zR (zO (by simp [-lenA, c18, c19, ↓crb, ↓cst, HH1, zI, HH2]; rfl) ?_)
     simp only [zT, zB]
     exact ⟨kn - (k2 + 1), _, _, by omega, by simp [-lenA, c18, c19, ↓crb, ↓cst, HH1, zI, HH2] <;> first | exact ⟨rfl, rfl⟩ | rfl, k2 + 1, i2 + 1, by omega, rfl, by omega, .inr ⟨0, [G.tmod 40], by omega, hnx2, rfl, rfl⟩⟩
    ·have hx2 := of_decide_eq_false hlt2
     have hkE2 : k2 = kn := by omega
     omega
   ·have tk2 : (ac2.map rI).take (p2 + 1) = ac2.map rI := List.take_of_length_le (by simp [hacl2])
    have hlac2 : p2 + 1 + 1 ≤ 1048576 := by omega
    have hr32 : ∀ e : Int, (rI e).length = 1 := fun _ => rfl
    have hfr2 := fun n h r => optAll_snoc (frN_rI n h ac2) r
    have hrj2 := fun n => rI_rb n 4 ac2
    have HH3 := zA hi01 (zA htn1 (zA hk01 (zA hwi1 (zA tk2 (zA hlac2 (zA hacl2 hr32))))))
    refine zS ?_
    refine zS ?_
    refine zR (zO (by simp [-lenA, c18, c19, ↓crb, ↓cst, HH1, ↓hfr2, ↓hrj2, HH3]; rfl) ?_)
    simp only [zT, zB]
    refine runs_cond_split (x := _) rfl (fun hlt2 => ?_) (fun hlt2 => ?_)
    ·have hltt2 := of_decide_eq_true hlt2
     have hk02 : k2 < kn := by omega
     have hi02 : 0 ≤ i2 := by omega
     have htn2 : i2.toNat = k2 := by omega
     have hwi2 : W .i64 (i2 + 1) = i2 + 1 := W_small (by omega)
     have hik4 : i1 < 4 := by omega
     have hjk4 : i2 < 4 := by omega
     have hgu := mins_fit (k := k1 * 4 + k2) bg.2
     have hgc := cg k1 k2 (by omega) (by omega)
     have hF2 : wRow W_ k1 (k2 + 1) = wRow W_ k1 k2 ++ [(gAt W_ k1 k2).tmod 40] := range_map1 _ _
     have hgv : isU (gAt W_ k1 k2) := hgu
     generalize gAt W_ k1 k2 = G at *
     have wg0 : W .i64 G = G := W_fit (by have := hgv.1; have := hgv.2; omega)
     have hg1 : 0 ≤ G.tmod 40 := Int.tmod_nonneg 40 hgv.1
     have hg2 : G.tmod 40 < 40 := Int.tmod_lt_of_pos _ (by decide)
     have wg1 : W .i64 (G.tmod 40) = G.tmod 40 := W_fit (by omega)
     have hnx2 : ac2 ++ [G.tmod 40] = wRow W_ k1 (k2 + 1) := by rw [hF2, ← hac2]
     have hnl2 : (ac2 ++ [G.tmod 40]).length = p2 + 1 + 1 := by simp [hacl2]
     have hap2 : ac2.map rI ++ [[I (G.tmod 40)]] = (ac2 ++ [G.tmod 40]).map rI := by rw [List.map_append]; rfl
     generalize ac2 ++ [G.tmod 40] = nx2 at *
     have hrx2 := fun n => rI_rb n 4 nx2
     have HH4 := zA hi02 (zA htn2 (zA hk02 (zA hwi2 (zA hap2 (zA hik4 (zA hjk4 (zA hgc (zA wg0 wg1))))))))
     have HH5 := zA crb (zA cst (zA hfr2 (zA hrj2 hrx2)))
     refine zK ?_
     simp only [zT, zB]
     refine zS ?_
     refine zL ?_
     refine zR (zO (by simp [-lenA, c18, c19, HH1, HH3, zI, HH4, ↓HH5]; rfl) ?_)
     simp only [zT, zB]
     refine zR (zO (by simp [-lenA, c18, c19, HH1, HH3, zI, HH4, ↓HH5]; rfl) ?_)
     simp only [zT, zB]
     exact ⟨kn - (k2 + 1), _, _, by omega, by simp [-lenA, c18, c19, HH1, HH3, zI, HH4, ↓HH5] <;> first | exact ⟨rfl, rfl⟩ | rfl, k2 + 1, i2 + 1, by omega, rfl, by omega, .inr ⟨p2 + 1, nx2, by omega, hnx2, hnl2, rfl⟩⟩
    ·have hx2 := of_decide_eq_false hlt2
     have hkE2 : k2 = kn := by omega
     rw [hkE2] at hac2
     have hz2 : p2 + 1 = kn := by omega
     have hF1 : wC W_ (k1 + 1) = wC W_ k1 ++ [wRow W_ k1 kn] := by unfold wC; rw [range_map1, hkt]
     have hne2 : ac2 ≠ [] := by intro e; rw [e] at hacl2; simp at hacl2
     rw [← hac2] at hF1
     have hro : rowC ac2 = [.vl (ac2.map rI) false] := by unfold rowC; rw [encE_ne hne2]
     have hrl : ((ac2.map rI).all fun r => r.length == 1) = true := by simp [rI]
     have hrs : ((ac2.map rI).all fun r => r.all storable) = true := by simp [rI]
     have hnx1 : [ac2] = wC W_ (k1 + 1) := by rw [hF1, hkz1]; rfl
     have hap1 : [[.vl (ac2.map rI) false]] = [ac2].map rowC := by show _ = [rowC (ac2)]; rw [hro]
     have HH6 := zA crb (zA cst (zA hfr2 (zA hrj2 (zA hrl hrs))))
     refine runs_exit ?_
     simp only [zT, zB, if_true, if_false, reduceIte, Nat.reduceEqDiff, Nat.succ_ne_zero, Nat.one_ne_zero, Nat.zero_ne_one]
     refine zR (zO (by simp [-lenA, c18, c19, HH1, HH3, hro, frz_mapI, ↓HH6]; rfl) ?_)
     simp only [zT, zB]
     refine zR (zO (by simp [-lenA, c18, c19, HH1, HH3, hro, frz_mapI, ↓HH6]; rfl) ?_)
     simp only [zT, zB]
     exact ⟨kn - (k1 + 1), _, _, by omega, by simp [-lenA, c18, c19, HH1, HH3, hro, frz_mapI, ↓HH6] <;> first | exact ⟨rfl, rfl⟩ | rfl, k1 + 1, i1 + 1, by omega, rfl, by omega, .inr ⟨0, [ac2], by omega, hnx1, rfl, rfl⟩⟩
  ·have hx1 := of_decide_eq_false hlt1
   have hkE1 : k1 = kn := by omega
   omega
 ·have tk1 : (ac1.map rowC).take (p1 + 1) = ac1.map rowC := List.take_of_length_le (by simp [hacl1])
  have hlac1 : p1 + 1 + 1 ≤ 1048576 := by omega
  have hr31 : ∀ e : List Int, (rowC e).length = 1 := fun _ => rfl
  have hfr1 := fun n h r => optAll_snoc (frN_rowC n h ac1) r
  have hrj1 := fun n => rowC_rb n 4 ac1
  refine zS ?_
  refine zS ?_
  refine zR (zO (by simp [-lenA, c18, c19, ↓crb, ↓cst, HH1, tk1, hlac1, hacl1, hr31, ↓hfr1, ↓hrj1]; rfl) ?_)
  simp only [zT, zB]
  refine runs_cond_split (x := _) rfl (fun hlt1 => ?_) (fun hlt1 => ?_)
  ·have hltt1 := of_decide_eq_true hlt1
   have hk01 : k1 < kn := by omega
   have hi01 : 0 ≤ i1 := by omega
   have htn1 : i1.toNat = k1 := by omega
   have hwi1 : W .i64 (i1 + 1) = i1 + 1 := W_small (by omega)
   have HH7 := zA tk1 (zA hlac1 (zA hacl1 (zA hr31 (zA hi01 (zA htn1 (zA hk01 hwi1))))))
   refine zK ?_
   simp only [zT, zB]
   refine zS ?_
   refine zL ?_
   refine zS ?_
   refine zR (zO (by simp [-lenA, c18, c19, ↓crb, ↓cst, HH1, ↓hfr1, ↓hrj1, HH7]; rfl) ?_)
   simp only [zT, zB]
   refine zS ?_
   refine zS ?_
   refine zR (zO (by simp [-lenA, c18, c19, ↓crb, ↓cst, HH1, ↓hfr1, ↓hrj1, HH7]; rfl) ?_)
   simp only [zT, zB]
   refine zL ?_
   refine runs_loopG_inv (fun mm2 σ => ∃ (k2 : Nat) (i2 : Int), i2 = k2 ∧ kn - k2 = mm2 ∧ k2 ≤ kn ∧ ((k2 = 0 ∧ σ = ⟨[.any, .ref 0 0 0, .ref 1 0 0, .any, .ref 2 0 0, I (kn : Int), I i1, .sl 5 0 0 true, I i2, .any, .any, .any, .any, .any, .any, .any, .any, .any, .any, .any, .any, .any, .any, .any, .any, .any, .any, .any, .any, .any, .any, .any, .any, .any, .any, .any, .any, .any, .any, .any, .any, .any, .any, .any, .any, .any, .any, .any, .any, .any, .any, .any, .any, .any, .any, .any, .any, .any, .any, .any, .any, .any, .any, .any, .any, .any, .any, .any, .any, .any, .any, .any, .any, .any, .any, .any, .any, .any, .any, .any, .any, .any, .any, .any, .any, .any, .any, .any, .any, .any, .any, .any, .any, .any, .any, .any, .any, .any, .any, .any, .any, .any, .any, .any, .any, .any, .any, .any, .any, .any, .any, .any, .any, .any, .any, .any, .any, .any, .any, .any, .any, .any, .any, .any, .any, .any, .any, .any, .any, .any, .any, .any, .any, .any, .any, .any, .any, .any, .any, .any, .any, .any, .any, .any, .any, .any, .any, .any, .any, .any, .any, .any, .any, .any, .any, .any], [some (.row 26 [cells]), some (.row 3 [[I 0, .nils, .nils]]), some (.row 3 [[I (mn : Int), .sl 3 0 (p1 + 1) false, .nils]]), some (.row 1 (ac1.map rowC)), none, some (.row 1 [])]⟩) ∨ (∃ (p2 : Nat) (ac2 : List (Int)), k2 = p2 + 1 ∧ ac2 = wRow W_ k1 (k2) ∧ ac2.length = p2 + 1 ∧ σ = ⟨[.any, .ref 0 0 0, .ref 1 0 0, .any, .ref 2 0 0, I (kn : Int), I i1, .sl 5 0 (p2 + 1) false, I i2, .any, .any, .any, .any, .any, .any, .any, .any, .any, .any, .any, .any, .any, .any, .any, .any, .any, .any, .any, .any, .any, .any, .any, .any, .any, .any, .any, .any, .any, .any, .any, .any, .any, .any, .any, .any, .any, .any, .any, .any, .any, .any, .any, .any, .any, .any, .any, .any, .any, .any, .any, .any, .any, .any, .any, .any, .any, .any, .any, .any, .any, .any, .any, .any, .any, .any, .any, .any, .any, .any, .any, .any, .any, .any, .any, .any, .any, .any, .any, .any, .any, .any, .any, .any, .any, .any, .any, .any, .any, .any, .any, .any, .any, .any, .any, .any, .any, .any, .any, .any, .any, .any, .any, .any, .any, .any, .any, .any, .any, .any, .any, .any, .any, .any, .any, .any, .any, .any, .any, .any, .any, .any, .any, .any, .any, .any, .any, .any, .any, .any, .any, .any, .any, .any, .any, .any, .any, .any, .any, .any, .any, .any, .any, .any, .any, .any, .any], [some (.row 26 [cells]), some (.row 3 [[I 0, .nils, .nils]]), some (.row 3 [[I (mn : Int), .sl 3 0 (p1 + 1) false, .nils]]), some (.row 1 (ac1.map rowC)), none, some (.row 1 (ac2.map rI))]⟩))) (by simp [-lenA, c18, c19, ↓crb, ↓cst, HH1, ↓hfr1, ↓hrj1, HH7] <;> first | exact ⟨rfl, rfl⟩ | rfl) (⟨0, 0, rfl, rfl, Nat.zero_le _, .inl ⟨rfl, rfl⟩⟩) ?_
   rintro mm2 σ ⟨k2, i2, hik2, rfl, hkl2, ⟨hkz2, rfl⟩ | ⟨p2, ac2, hkp2, hac2, hacl2, rfl⟩⟩
   ·refine zS ?_
    refine zS ?_
    refine zR (zO (by simp [-lenA, c18, c19, ↓crb, ↓cst, HH1, ↓hfr1, ↓hrj1, HH7]; rfl) ?_)
    simp only [zT, zB]
    refine runs_cond_split (x := _) rfl (fun hlt2 => ?_) (fun hlt2 => ?_)
    ·have hltt2 := of_decide_eq_true hlt2
     have hk02 : k2 < kn := by omega
     have hi02 : 0 ≤ i2 := by omega
     have htn2 : i2.toNat = k2 := by omega
     have hwi2 : W .i64 (i2 + 1) = i2 + 1 := W_small (by omega)
     have hik4 : i1 < 4 := by omega
     have hjk4 : i2 < 4 := by omega
     have hgu := mins_fit (k := k1 * 4 + k2) bg.2
     have hgc := cg k1 k2 (by omega) (by omega)
     have hF2 : wRow W_ k1 (k2 + 1) = wRow W_ k1 k2 ++ [(gAt W_ k1 k2).tmod 40] := range_map1 _ _
     have hgv : isU (gAt W_ k1 k2) := hgu
     generalize gAt W_ k1 k2 = G at *
     have wg0 : W .i64 G = G := W_fit (by have := hgv.1; have := hgv.2; omega)
     have hg1 : 0 ≤ G.tmod 40 := Int.tmod_nonneg 40 hgv.1
     have hg2 : G.tmod 40 < 40 := Int.tmod_lt_of_pos _ (by decide)
     have wg1 : W .i64 (G.tmod 40) = G.tmod 40 := W_fit (by omega)
     have hnx2 : [G.tmod 40] = wRow W_ k1 (k2 + 1) := by rw [hF2, hkz2]; rfl
     have hap2 : [[I (G.tmod 40)]] = [G.tmod 40].map rI := rfl
     have HH8 := zA hi02 (zA htn2 (zA hk02 (zA hwi2 (zA hik4 (zA hjk4 (zA hgc (zA wg0 wg1)))))))
     refine zK ?_
     simp only [zT, zB]
     refine zS ?_
     refine zL ?_
     refine zR (zO (by simp [-lenA, c18, c19, ↓crb, ↓cst, HH1, ↓hfr1, ↓hrj1, HH7, zI, HH8]; rfl) ?_)
     simp only [zT, zB]
     refine zR (zO (by simp [-lenA, c18, c19, ↓crb, ↓cst, HH1, ↓hfr1, ↓hrj1, HH7, zI, HH8]; rfl) ?_)
     simp only [zT, zB]
     exact ⟨kn - (k2 + 1), _, _, by omega, by simp [-lenA, c18, c19, ↓crb, ↓cst, HH1, ↓hfr1, ↓hrj1, HH7, zI, HH8] <;> first | exact ⟨rfl, rfl⟩ | rfl, k2 + 1, i2 + 1, by omega, rfl, by omega, .inr ⟨0, [G.tmod 40], by omega, hnx2, rfl, rfl⟩⟩
    ·have hx2 := of_decide_eq_false hlt2
     have hkE2 : k2 = kn := by omega
     omega
   ·have tk2 : (ac2.map rI).take (p2 + 1) = ac2.map rI := List.take_of_length_le (by simp [hacl2])
    have hlac2 : p2 + 1 + 1 ≤ 1048576 := by omega
    have hr32 : ∀ e : Int, (rI e).length = 1 := fun _ => rfl
    have hfr2 := fun n h r => optAll_snoc (frN_rI n h ac2) r
    have hrj2 := fun n => rI_rb n 4 ac2
    have HH9 := zA crb (zA cst (zA hfr1 (zA hrj1 (zA hfr2 hrj2))))
    refine zS ?_
    refine zS ?_
    refine zR (zO (by simp [-lenA, c18, c19, HH1, HH7, tk2, hlac2, hacl2, hr32, ↓HH9]; rfl) ?_)
    simp only [zT, zB]
    refine runs_cond_split (x := _) rfl (fun hlt2 => ?_) (fun hlt2 => ?_)
    ·have hltt2 := of_decide_eq_true hlt2
     have hk02 : k2 < kn := by omega
     have hi02 : 0 ≤ i2 := by omega
     have htn2 : i2.toNat = k2 := by omega
     have hwi2 : W .i64 (i2 + 1) = i2 + 1 := W_small (by omega)
     have hik4 : i1 < 4 := by omega
     have hjk4 : i2 < 4 := by omega
     have hgu := mins_fit (k := k1 * 4 + k2) bg.2
     have hgc := cg k1 k2 (by omega) (by omega)
     have hF2 : wRow W_ k1 (k2 + 1) = wRow W_ k1 k2 ++ [(gAt W_ k1 k2).tmod 40] := range_map1 _ _
     have hgv : isU (gAt W_ k1 k2) := hgu
     generalize gAt W_ k1 k2 = G at *
     have wg0 : W .i64 G = G := W_fit (by have := hgv.1; have := hgv.2; omega)
     have hg1 : 0 ≤ G.tmod 40 := Int.tmod_nonneg 40 hgv.1
     have hg2 : G.tmod 40 < 40 := Int.tmod_lt_of_pos _ (by decide)
     have wg1 : W .i64 (G.tmod 40) = G.tmod 40 := W_fit (by omega)
     have hnx2 : ac2 ++ [G.tmod 40] = wRow W_ k1 (k2 + 1) := by rw [hF2, ← hac2]
     have hnl2 : (ac2 ++ [G.tmod 40]).length = p2 + 1 + 1 := by simp [hacl2]
     have hap2 : ac2.map rI ++ [[I (G.tmod 40)]] = (ac2 ++ [G.tmod 40]).map rI := by rw [List.map_append]; rfl
     generalize ac2 ++ [G.tmod 40] = nx2 at *
     have hrx2 := fun n => rI_rb n 4 nx2
     have HH10 := zA tk2 (zA hlac2 (zA hacl2 (zA hr32 (zA hi02 (zA htn2 (zA hk02 (zA hwi2 (zA hap2 (zA hik4 (zA hjk4 (zA hgc (zA wg0 wg1))))))))))))
     refine zK ?_
     simp only [zT, zB]
     refine zS ?_
     refine zL ?_
     refine zR (zO (by simp [-lenA, c18, c19, HH1, HH7, ↓HH9, ↓hrx2, zI, HH10]; rfl) ?_)
     simp only [zT, zB]
     refine zR (zO (by simp [-lenA, c18, c19, HH1, HH7, ↓HH9, ↓hrx2, zI, HH10]; rfl) ?_)
     simp only [zT, zB]
     exact ⟨kn - (k2 + 1), _, _, by omega, by simp [-lenA, c18, c19, HH1, HH7, ↓HH9, ↓hrx2, zI, HH10] <;> first | exact ⟨rfl, rfl⟩ | rfl, k2 + 1, i2 + 1, by omega, rfl, by omega, .inr ⟨p2 + 1, nx2, by omega, hnx2, hnl2, rfl⟩⟩
    ·have hx2 := of_decide_eq_false hlt2
     have hkE2 : k2 = kn := by omega
     rw [hkE2] at hac2
     have hz2 : p2 + 1 = kn := by omega
     have hF1 : wC W_ (k1 + 1) = wC W_ k1 ++ [wRow W_ k1 kn] := by unfold wC; rw [range_map1, hkt]
     have hne2 : ac2 ≠ [] := by intro e; rw [e] at hacl2; simp at hacl2
     rw [← hac2] at hF1
     have hro : rowC ac2 = [.vl (ac2.map rI) false] := by unfold rowC; rw [encE_ne hne2]
     have hrl : ((ac2.map rI).all fun r => r.length == 1) = true := by simp [rI]
     have hrs : ((ac2.map rI).all fun r => r.all storable) = true := by simp [rI]
     have hnx1 : ac1 ++ [ac2] = wC W_ (k1 + 1) := by rw [hF1, ← hac1]
     have hnl1 : (ac1 ++ [ac2]).length = p1 + 1 + 1 := by simp [hacl1]
     have hap1 : ac1.map rowC ++ [[.vl (ac2.map rI) false]] = (ac1 ++ [ac2]).map rowC := by rw [List.map_append]; show _ = _ ++ [rowC (ac2)]; rw [hro]
     generalize ac1 ++ [ac2] = nx1 at *
     have hrx1 := fun n => rowC_rb n 4 nx1
     have HH11 := zA tk2 (zA hlac2 (zA hacl2 (zA hr32 hap1)))
     refine runs_exit ?_
     simp only [zT, zB, if_true, if_false, reduceIte, Nat.reduceEqDiff, Nat.succ_ne_zero, Nat.one_ne_zero, Nat.zero_ne_one]
     refine zR (zO (by simp [-lenA, c18, c19, HH1, HH7, ↓HH9, ↓hrx1, ↓hrl, ↓hrs, frz_mapI, HH11]; rfl) ?_)
     simp only [zT, zB]
     refine zR (zO (by simp [-lenA, c18, c19, HH1, HH7, ↓HH9, ↓hrx1, ↓hrl, ↓hrs, frz_mapI, HH11]; rfl) ?_)
     simp only [zT, zB]
     exact ⟨kn - (k1 + 1), _, _, by omega, by simp [-lenA, c18, c19, HH1, HH7, ↓HH9, ↓hrx1, ↓hrl, ↓hrs, frz_mapI, HH11] <;> first | exact ⟨rfl, rfl⟩ | rfl, k1 + 1, i1 + 1, by omega, rfl, by omega, .inr ⟨p1 + 1, nx1, by omega, hnx1, hnl1, rfl⟩⟩
  ·have hx1 := of_decide_eq_false hlt1
   have hkE1 : k1 = kn := by omega
   rw [hkE1] at hac1
   have hz1 : p1 + 1 = kn := by omega
   rw [hz1] at hacl1
   have hCne : ac1 ≠ [] := by intro e; rw [e] at hacl1; simp at hacl1; omega
   have hCe : encC ac1 = .vl (ac1.map rowC) false := encC_ne hCne
   rw [hz1] at tk1
   have hcrb := fun n => rowC_rb n 4 ac1
   have HH12 := zA tk1 (zA hlac1 (zA hacl1 (zA hr31 hz1)))
   have HH13 := zA crb (zA cst (zA hfr1 (zA hrj1 hcrb)))
   refine runs_exit ?_
   simp only [zT, zB, if_true, if_false, reduceIte, Nat.reduceEqDiff, Nat.succ_ne_zero, Nat.one_ne_zero, Nat.zero_ne_one]
   refine zS ?_
   refine zS ?_
   refine zR (zO (by simp [-lenA, c18, c19, HH1, HH12, ↓HH13]; rfl) ?_)
   simp only [zT, zB]
   refine zL ?_
   refine runs_loopG_inv (fun mm3 σ => ∃ (k3 : Nat) (i3 : Int), i3 = k3 ∧ (min W_.xs.length 6) - k3 = mm3 ∧ k3 ≤ (min W_.xs.length 6) ∧ ((k3 = 0 ∧ σ = ⟨[.any, .ref 0 0 0, .ref 1 0 0, .any, .ref 2 0 0, I (kn : Int), .any, .any, .any, I i3, .any, .any, .any, .any, .any, .any, .any, .any, .any, .any, .any, .any, .any, .any, .any, .any, .any, .any, .any, .any, .any, .any, .any, .any, .any, .any, .any, .any, .any, .any, .any, .any, .any, .any, .any, .any, .any, .any, .any, .any, .any, .any, .any, .any, .any, .any, .any, .any, .any, .any, .any, .any, .any, .any, .any, .any, .any, .any, .any, .any, .any, .any, .any, .any, .any, .any, .any, .any, .any, .any, .any, .any, .any, .any, .any, .any, .any, .any, .any, .any, .any, .any, .any, .any, .any, .any, .any, .any, .any, .any, .any, .any, .any, .any, .any, .any, .any, .any, .any, .any, .any, .any, .any, .any, .any, .any, .any, .any, .any, .any, .any, .any, .any, .any, .any, .any, .any, .any, .any, .any, .any, .any, .any, .any, .any, .any, .any, .any, .any, .any, .any, .any, .any, .any, .any, .any, .any, .any, .any, .any, .any, .any, .any, .any, .any, .any], [some (.row 26 [cells]), some (.row 3 [[I 0, .nils, .nils]]), some (.row 3 [[I (mn : Int), .sl 3 0 kn false, .nils]]), some (.row 1 (ac1.map rowC)), none]⟩) ∨ (∃ (p3 : Nat) (ac3 : List (FStop)), k3 = p3 + 1 ∧ ac3 = wT W_ (k3) ∧ ac3.length = p3 + 1 ∧ σ = ⟨[.any, .ref 0 0 0, .ref 1 0 0, .any, .ref 2 0 0, I (kn : Int), .any, .any, .any, I i3, .any, .any, .any, .any, .any, .any, .any, .any, .any, .any, .any, .any, .any, .any, .any, .any, .any, .any, .any, .any, .any, .any, .any, .any, .any, .any, .any, .any, .any, .any, .any, .any, .any, .any, .any, .any, .any, .any, .any, .any, .any, .any, .any, .any, .any, .any, .any, .any, .any, .any, .any, .any, .any, .any, .any, .any, .any, .any, .any, .any, .any, .any, .any, .any, .any, .any, .any, .any, .any, .any, .any, .any, .any, .any, .any, .any, .any, .any, .any, .any, .any, .any, .any, .any, .any, .any, .any, .any, .any, .any, .any, .any, .any, .any, .any, .any, .any, .any, .any, .any, .any, .any, .any, .any, .any, .any, .any, .any, .any, .any, .any, .any, .any, .any, .any, .any, .any, .any, .any, .any, .any, .any, .any, .any, .any, .any, .any, .any, .any, .any, .any, .any, .any, .any, .any, .any, .any, .any, .any, .any, .any, .any, .any, .any, .any, .any], [some (.row 26 [cells]), some (.row 3 [[I 0, .nils, .nils]]), some (.row 3 [[I (mn : Int), .sl 3 0 kn false, .sl 4 0 (p3 + 1) false]]), some (.row 1 (ac1.map rowC)), some (.row 3 (ac3.map rS3))]⟩))) (by simp [-lenA, c18, c19, HH1, HH12, ↓HH13] <;> first | exact ⟨rfl, rfl⟩ | rfl) (⟨0, 0, rfl, rfl, Nat.zero_le _, .inl ⟨rfl, rfl⟩⟩) ?_
   rintro mm3 σ ⟨k3, i3, hik3, rfl, hkl3, ⟨hkz3, rfl⟩ | ⟨p3, ac3, hkp3, hac3, hacl3, rfl⟩⟩
   ·rcases hA3 : decide (i3 < (W_.xs.length : Int)) with _ | _
    ·refine zS ?_
     refine zS ?_
     refine zR (zO (by simp [-lenA, c18, c19, HH1, HH12, ↓HH13, hA3]; rfl) ?_)
     simp only [zT, zB]
     refine runs_cond (x := false) (by simp) ?_
     have hx3 := of_decide_eq_false hA3
     have hkE3 : k3 = (min W_.xs.length 6) := by omega
     have hwTe : k3 = min W_.xs.length 6 := hkE3
     refine runs_exit ?_
     simp only [zT, zB, if_true, if_false, reduceIte, Nat.reduceEqDiff, Nat.succ_ne_zero, Nat.one_ne_zero, Nat.zero_ne_one]
     have hT0 : wT W_ (min W_.xs.length 6) = [] := by rw [← hkE3, hkz3]; rfl
     rw [hT0, hkt, ← hac1]
     exact tail41 P T W_ ac1 [] cells y kn mn .nils none hM1 hM4 hK1 hK4 hmn hkn hacl1 ly hy bys crb ry c19 (fun n hn => rfl) (fun n hn => rfl) rfl rfl (fun a b c d l => rfl) _ _ _ _ _ _ _ _ _ _ _ _ _ _ _ _ _ _ _ _ _ _ _ _ _ _ _ _ _ _ _ _ _ _ _ _ _ _ _ _ _ _ _ _ _ _ _ _ _ _ _ _ _ _ _ _ _ _ _ _ _ _ _ _ _ _ _ _ _ _ _ _ _ _ _ _ _ _ _ _ _ _ _ _ _ _ _ _ _ _ _ _ _ _ _ _ _ _ _ _ _ _ _ _ _ _ _ _ _ _ _ _ _ _ _ _ _ _ _ _ _ _ _ _ _ _ _ _ _ _ _ _ _ _ _ _ _ _ _ _ _ _ _ _ _ _ _ _ _ _ _ _
    ·refine zS ?_
     refine zS ?_
     refine zR (zO (by simp [-lenA, c18, c19, HH1, HH12, ↓HH13, hA3]; rfl) ?_)
     simp only [zT, zB]
     refine runs_cond_split (x := decide (i3 < 6)) (by simp) (fun hlt3 => ?_) (fun hlt3 => ?_)
     ·have hAt3 := of_decide_eq_true hA3
      have hltt3 := of_decide_eq_true hlt3
      have hk03 : k3 < (min W_.xs.length 6) := by omega
      have hi03 : 0 ≤ i3 := by omega
      have htn3 : i3.toNat = k3 := by omega
      have hwi3 : W .i64 (i3 + 1) = i3 + 1 := W_small (by omega)
      have hxl : k3 < W_.xs.length := by omega
      obtain ⟨tx, rfl⟩ := rowsV_get hx (k := k3) (by rw [List.length_map]; omega)
      have hvv := bxs _ (List.getElem_mem hxl)
      have hF3 : wT W_ (k3 + 1) = wT W_ k3 ++ [wStop W_ W_.xs[k3]] := take_map1 _ hxl
      generalize hV : W_.xs[k3] = v at *
      have hv0 : (rU v)[0]? = some (.int .u8 (v_ v 0)) := rU_get (by omega)
      have hv1 : (rU v)[1]? = some (.int .u8 (v_ v 1)) := rU_get (by omega)
      have hv2 : (rU v)[2]? = some (.int .u8 (v_ v 2)) := rU_get (by omega)
      have hv3 : (rU v)[3]? = some (.int .u8 (v_ v 3)) := rU_get (by omega)
      have q0 := fun (h : 0 < (rU v).length) => Option.some.inj ((List.getElem?_eq_getElem h).symm.trans hv0)
      have q1 := fun (h : 1 < (rU v).length) => Option.some.inj ((List.getElem?_eq_getElem h).symm.trans hv1)
      have q2 := fun (h : 2 < (rU v).length) => Option.some.inj ((List.getElem?_eq_getElem h).symm.trans hv2)
      have q3 := fun (h : 3 < (rU v).length) => Option.some.inj ((List.getElem?_eq_getElem h).symm.trans hv3)
      have hvl : (rU v).length = 4 := by rw [rU_len, hvv.1]
      have hvst := rU_stor v
      have hvc : cellsOf (.agg (rU v)) = some (rU v) := rfl
      have hvt : (rU v).take 4 = rU v := List.take_of_length_le (by omega)
      have hvd : (rU v).drop 4 = [] := List.drop_of_length_le (by omega)
      have b0 := mins_fit (k := 0) hvv.2
      have b1 := mins_fit (k := 1) hvv.2
      have b2 := mins_fit (k := 2) hvv.2
      have b3 := mins_fit (k := 3) hvv.2
      unfold wStop v_ at hF3
      unfold v_ at hv0 hv1 hv2 hv3 q0 q1 q2 q3
      generalize v.getD 0 0 = e0 at *
      generalize v.getD 1 0 = e1 at *
      generalize v.getD 2 0 = e2 at *
      generalize v.getD 3 0 = e3 at *
      obtain ⟨b01, b02⟩ := b0
      obtain ⟨b11, b12⟩ := b1
      obtain ⟨b21, b22⟩ := b2
      obtain ⟨b31, b32⟩ := b3
      have h21 : 0 ≤ e2.tmod 2 := Int.tmod_nonneg 2 b21
      have h22 : e2.tmod 2 < 2 := Int.tmod_lt_of_pos _ (by decide)
      have h31 : 0 ≤ e3.tmod 60 := Int.tmod_nonneg 60 b31
      have h32 : e3.tmod 60 < 60 := Int.tmod_lt_of_pos _ (by decide)
      rw [hmn] at hF3
      have h01 : 0 ≤ e0.tmod (mn : Int) := Int.tmod_nonneg _ b01
      have h02 : e0.tmod (mn : Int) < mn := Int.tmod_lt_of_pos _ (by omega)
      have hmz : ¬ mn = 0 := by omega
      have hmzi : ¬ (mn : Int) = 0 := by omega
      have hmzb : ((mn : Int) == 0) = false := by simp; omega
      have hmm1 : ¬ ((mn : Int) = -1) := by omega
      have u0 : W .i64 e0 = e0 := W_fit (by omega)
      have u1 : W .i64 e1 = e1 := W_fit (by omega)
      have u2 : W .i64 e2 = e2 := W_fit (by omega)
      have u3 : W .i64 e3 = e3 := W_fit (by omega)
      have u4 : W .i64 (2 * e1) = 2 * e1 := W_fit (by omega)
      have u5 : W .i64 (e2.tmod 2) = e2.tmod 2 := W_fit (by omega)
      have u6 : W .i64 (2 * e1 + e2.tmod 2) = 2 * e1 + e2.tmod 2 := W_fit (by omega)
      have u7 : W .i64 (e0.tmod (mn : Int)) = e0.tmod (mn : Int) := W_fit (by omega)
      have u8 : W .i64 (2 * e1 + e2.tmod 2 + 1) = 2 * e1 + e2.tmod 2 + 1 := W_fit (by omega)
      have u9 : W .i64 (e3.tmod 60) = e3.tmod 60 := W_fit (by omega)
      have u10 : W .i64 (2 * e1 + e2.tmod 2 + 1 + e3.tmod 60) = 2 * e1 + e2.tmod 2 + 1 + e3.tmod 60 := W_fit (by omega)
      have hnx3 : [(e0.tmod (mn : Int), 2 * e1 + e2.tmod 2, 2 * e1 + e2.tmod 2 + 1 + e3.tmod 60)] = wT W_ (k3 + 1) := by rw [hF3, hkz3]; rfl
      have hap3 : [[I (e0.tmod (mn : Int)), I (2 * e1 + e2.tmod 2), I (2 * e1 + e2.tmod 2 + 1 + e3.tmod 60)]] = [(e0.tmod (mn : Int), 2 * e1 + e2.tmod 2, 2 * e1 + e2.tmod 2 + 1 + e3.tmod 60)].map rS3 := rfl
      have HH14 := zA hA3 (zA hi03 (zA htn3 (zA hk03 (zA hwi3 (zA hxl (zA hV (zA hv0 (zA hv1 (zA hv2 (zA hv3 (zA q0 (zA q1 (zA q2 (zA q3 (zA hvl (zA hvc (zA hvt (zA hvd (zA hmz (zA hmzi (zA hmzb (zA hmm1 (zA u0 (zA u1 (zA u2 (zA u3 (zA u4 (zA u6 (zA u7 (zA u8 (zA u9 u10)))))))))))))))))))))))))))))))
      refine zK ?_
      simp only [zT, zB]
      refine zS ?_
      refine zL ?_
      refine zS ?_
      refine zR (zO (by simp [-lenA, c18, c19, HH1, HH12, ↓HH13, ↓hvst, u5, HH14]; rfl) ?_)
      simp only [zT, zB]
      refine zS ?_
      refine zR (zO (by simp [-lenA, c18, c19, HH1, HH12, ↓HH13, ↓hvst, u5, HH14]; rfl) ?_)
      simp only [zT, zB]
      refine runs_drw (by simp (maxSteps := 3000000) [-lenA, c18, c19, HH1, HH12, ↓HH13, ↓hvst, u5, HH14]; rfl) ?_
      simp only [zT, zB]
      refine zR (zO (by simp [-lenA, c18, c19, HH1, HH12, ↓HH13, ↓hvst, u5, HH14]; rfl) ?_)
      simp only [zT, zB]
      exact ⟨(min W_.xs.length 6) - (k3 + 1), _, _, by omega, by simp [-lenA, c18, c19, HH1, HH12, ↓HH13, ↓hvst, u5, HH14] <;> first | exact ⟨rfl, rfl⟩ | rfl, k3 + 1, i3 + 1, by omega, rfl, by omega, .inr ⟨0, [(e0.tmod (mn : Int), 2 * e1 + e2.tmod 2, 2 * e1 + e2.tmod 2 + 1 + e3.tmod 60)], by omega, hnx3, rfl, rfl⟩⟩
     ·have hAt3 := of_decide_eq_true hA3
      have hx3 := of_decide_eq_false hlt3
      have hkE3 : k3 = (min W_.xs.length 6) := by omega
      have hwTe : k3 = min W_.xs.length 6 := hkE3
      refine runs_exit ?_
      simp only [zT, zB, if_true, if_false, reduceIte, Nat.reduceEqDiff, Nat.succ_ne_zero, Nat.one_ne_zero, Nat.zero_ne_one]
      have hT0 : wT W_ (min W_.xs.length 6) = [] := by rw [← hkE3, hkz3]; rfl
      rw [hT0, hkt, ← hac1]
      exact tail41 P T W_ ac1 [] cells y kn mn .nils none hM1 hM4 hK1 hK4 hmn hkn hacl1 ly hy bys crb ry c19 (fun n hn => rfl) (fun n hn => rfl) rfl rfl (fun a b c d l => rfl) _ _ _ _ _ _ _ _ _ _ _ _ _ _ _ _ _ _ _ _ _ _ _ _ _ _ _ _ _ _ _ _ _ _ _ _ _ _ _ _ _ _ _ _ _ _ _ _ _ _ _ _ _ _ _ _ _ _ _ _ _ _ _ _ _ _ _ _ _ _ _ _ _ _ _ _ _ _ _ _ _ _ _ _ _ _ _ _ _ _ _ _ _ _ _ _ _ _ _ _ _ _ _ _ _ _ _ _ _ _ _ _ _ _ _ _ _ _ _ _ _ _ _ _ _ _ _ _ _ _ _ _ _ _ _ _ _ _ _ _ _ _ _ _ _ _ _ _ _ _ _ _
   ·have tk3 : (ac3.map rS3).take (p3 + 1) = ac3.map rS3 := List.take_of_length_le (by simp [hacl3])
    have hlac3 : p3 + 1 + 1 ≤ 1048576 := by omega
    have hr33 : ∀ e : FStop, (rS3 e).length = 3 := fun _ => rfl
    have hfr3 := fun n h r => optAll_snoc (frN_rS3 n h ac3) r
    have hrj3 := fun n => rS3_rb n 4 ac3
    rcases hA3 : decide (i3 < (W_.xs.length : Int)) with _ | _
    ·have HH15 := zA tk3 (zA hlac3 (zA hacl3 (zA hr33 hA3)))
     refine zS ?_
     refine zS ?_
     refine zR (zO (by simp [-lenA, c18, c19, HH1, HH12, ↓HH13, ↓hfr3, ↓hrj3, HH15]; rfl) ?_)
     simp only [zT, zB]
     refine runs_cond (x := false) (by simp) ?_
     have hx3 := of_decide_eq_false hA3
     have hkE3 : k3 = (min W_.xs.length 6) := by omega
     rw [hkE3] at hac3
     have hwTe : k3 = min W_.xs.length 6 := hkE3
     refine runs_exit ?_
     simp only [zT, zB, if_true, if_false, reduceIte, Nat.reduceEqDiff, Nat.succ_ne_zero, Nat.one_ne_zero, Nat.zero_ne_one]
     have hTne : ac3 ≠ [] := by intro e; rw [e] at hacl3; simp at hacl3
     have hz3 : min W_.xs.length 6 = p3 + 1 := by omega
     rw [← hac3, hkt, ← hac1]
     exact tail41 P T W_ ac1 ac3 cells y kn mn (.sl 4 0 (p3 + 1) false) (some (.row 3 (ac3.map rS3))) hM1 hM4 hK1 hK4 hmn hkn hacl1 ly hy bys crb ry c19 (fun n hn => by simp; omega) (fun n hn => by rw [rbB_row]; exact rS3_rb n 4 ac3) rfl rfl (fun a b c d l => by rw [encN_ne hTne]; simp [tk3, hacl3, frz_mapT]) _ _ _ _ _ _ _ _ _ _ _ _ _ _ _ _ _ _ _ _ _ _ _ _ _ _ _ _ _ _ _ _ _ _ _ _ _ _ _ _ _ _ _ _ _ _ _ _ _ _ _ _ _ _ _ _ _ _ _ _ _ _ _ _ _ _ _ _ _ _ _ _ _ _ _ _ _ _ _ _ _ _ _ _ _ _ _ _ _ _ _ _ _ _ _ _ _ _ _ _ _ _ _ _ _ _ _ _ _ _ _ _ _ _ _ _ _ _ _ _ _ _ _ _ _ _ _ _ _ _ _ _ _ _ _ _ _ _ _ _ _ _ _ _ _ _ _ _ _ _ _ _
    ·have HH16 := zA tk3 (zA hlac3 (zA hacl3 (zA hr33 hA3)))
     refine zS ?_
     refine zS ?_
     refine zR (zO (by simp [-lenA, c18, c19, HH1, HH12, ↓HH13, ↓hfr3, ↓hrj3, HH16]; rfl) ?_)
     simp only [zT, zB]
     refine runs_cond_split (x := decide (i3 < 6)) (by simp) (fun hlt3 => ?_) (fun hlt3 => ?_)
     ·have hAt3 := of_decide_eq_true hA3
      have hltt3 := of_decide_eq_true hlt3
      have hk03 : k3 < (min W_.xs.length 6) := by omega
      have hi03 : 0 ≤ i3 := by omega
      have htn3 : i3.toNat = k3 := by omega
      have hwi3 : W .i64 (i3 + 1) = i3 + 1 := W_small (by omega)
      have hxl : k3 < W_.xs.length := by omega
      obtain ⟨tx, rfl⟩ := rowsV_get hx (k := k3) (by rw [List.length_map]; omega)
      have hvv := bxs _ (List.getElem_mem hxl)
      have hF3 : wT W_ (k3 + 1) = wT W_ k3 ++ [wStop W_ W_.xs[k3]] := take_map1 _ hxl
      generalize hV : W_.xs[k3] = v at *
      have hv0 : (rU v)[0]? = some (.int .u8 (v_ v 0)) := rU_get (by omega)
      have hv1 : (rU v)[1]? = some (.int .u8 (v_ v 1)) := rU_get (by omega)
      have hv2 : (rU v)[2]? = some (.int .u8 (v_ v 2)) := rU_get (by omega)
      have hv3 : (rU v)[3]? = some (.int .u8 (v_ v 3)) := rU_get (by omega)
      have q0 := fun (h : 0 < (rU v).length) => Option.some.inj ((List.getElem?_eq_getElem h).symm.trans hv0)
      have q1 := fun (h : 1 < (rU v).length) => Option.some.inj ((List.getElem?_eq_getElem h).symm.trans hv1)
      have q2 := fun (h : 2 < (rU v).length) => Option.some.inj ((List.getElem?_eq_getElem h).symm.trans hv2)
      have q3 := fun (h : 3 < (rU v).length) => Option.some.inj ((List.getElem?_eq_getElem h).symm.trans hv3)
      have hvl : (rU v).length = 4 := by rw [rU_len, hvv.1]
      have hvst := rU_stor v
      have hvc : cellsOf (.agg (rU v)) = some (rU v) := rfl
      have hvt : (rU v).take 4 = rU v := List.take_of_length_le (by omega)
      have hvd : (rU v).drop 4 = [] := List.drop_of_length_le (by omega)
      have b0 := mins_fit (k := 0) hvv.2
      have b1 := mins_fit (k := 1) hvv.2
      have b2 := mins_fit (k := 2) hvv.2
      have b3 := mins_fit (k := 3) hvv.2
      unfold wStop v_ at hF3
      unfold v_ at hv0 hv1 hv2 hv3 q0 q1 q2 q3
      generalize v.getD 0 0 = e0 at *
      generalize v.getD 1 0 = e1 at *
      generalize v.getD 2 0 = e2 at *
      generalize v.getD 3 0 = e3 at *
      obtain ⟨b01, b02⟩ := b0
      obtain ⟨b11, b12⟩ := b1
      obtain ⟨b21, b22⟩ := b2
      obtain ⟨b31, b32⟩ := b3
      have h21 : 0 ≤ e2.tmod 2 := Int.tmod_nonneg 2 b21
      have h22 : e2.tmod 2 < 2 := Int.tmod_lt_of_pos _ (by decide)
      have h31 : 0 ≤ e3.tmod 60 := Int.tmod_nonneg 60 b31
      have h32 : e3.tmod 60 < 60 := Int.tmod_lt_of_pos _ (by decide)
      rw [hmn] at hF3
      have h01 : 0 ≤ e0.tmod (mn : Int) := Int.tmod_nonneg _ b01
      have h02 : e0.tmod (mn : Int) < mn := Int.tmod_lt_of_pos _ (by omega)
      have hmz : ¬ mn = 0 := by omega
      have hmzi : ¬ (mn : Int) = 0 := by omega
      have hmzb : ((mn : Int) == 0) = false := by simp; omega
      have hmm1 : ¬ ((mn : Int) = -1) := by omega
      have u0 : W .i64 e0 = e0 := W_fit (by omega)
      have u1 : W .i64 e1 = e1 := W_fit (by omega)
      have u2 : W .i64 e2 = e2 := W_fit (by omega)
      have u3 : W .i64 e3 = e3 := W_fit (by omega)
      have u4 : W .i64 (2 * e1) = 2 * e1 := W_fit (by omega)
      have u5 : W .i64 (e2.tmod 2) = e2.tmod 2 := W_fit (by omega)
      have u6 : W .i64 (2 * e1 + e2.tmod 2) = 2 * e1 + e2.tmod 2 := W_fit (by omega)
      have u7 : W .i64 (e0.tmod (mn : Int)) = e0.tmod (mn : Int) := W_fit (by omega)
      have u8 : W .i64 (2 * e1 + e2.tmod 2 + 1) = 2 * e1 + e2.tmod 2 + 1 := W_fit (by omega)
      have u9 : W .i64 (e3.tmod 60) = e3.tmod 60 := W_fit (by omega)
      have u10 : W .i64 (2 * e1 + e2.tmod 2 + 1 + e3.tmod 60) = 2 * e1 + e2.tmod 2 + 1 + e3.tmod 60 := W_fit (by omega)
      have hnx3 : ac3 ++ [(e0.tmod (mn : Int), 2 * e1 + e2.tmod 2, 2 * e1 + e2.tmod 2 + 1 + e3.tmod 60)] = wT W_ (k3 + 1) := by rw [hF3, ← hac3]
      have hnl3 : (ac3 ++ [(e0.tmod (mn : Int), 2 * e1 + e2.tmod 2, 2 * e1 + e2.tmod 2 + 1 + e3.tmod 60)]).length = p3 + 1 + 1 := by simp [hacl3]
      have hap3 : ac3.map rS3 ++ [[I (e0.tmod (mn : Int)), I (2 * e1 + e2.tmod 2), I (2 * e1 + e2.tmod 2 + 1 + e3.tmod 60)]] = (ac3 ++ [(e0.tmod (mn : Int), 2 * e1 + e2.tmod 2, 2 * e1 + e2.tmod 2 + 1 + e3.tmod 60)]).map rS3 := by rw [List.map_append]; rfl
      generalize ac3 ++ [(e0.tmod (mn : Int), 2 * e1 + e2.tmod 2, 2 * e1 + e2.tmod 2 + 1 + e3.tmod 60)] = nx3 at *
      have hrx3 := fun n => rS3_rb n 4 nx3
      have HH17 := zA hi03 (zA htn3 (zA hk03 (zA hwi3 (zA hap3 (zA hxl (zA hV (zA hv0 (zA hv1 (zA hv2 (zA hv3 (zA q0 (zA q1 (zA q2 (zA q3 (zA hvl (zA hvc (zA hvt (zA hvd (zA hmz (zA hmzi (zA hmzb (zA hmm1 (zA u0 (zA u1 (zA u2 (zA u3 (zA u4 (zA u6 (zA u7 (zA u8 (zA u9 u10)))))))))))))))))))))))))))))))
      refine zK ?_
      simp only [zT, zB]
      refine zS ?_
      refine zL ?_
      refine zS ?_
      refine zR (zO (by simp [-lenA, c18, c19, HH1, HH12, ↓HH13, ↓hfr3, ↓hrj3, HH16, ↓hrx3, ↓hvst, u5, HH17]; rfl) ?_)
      simp only [zT, zB]
      refine zS ?_
      refine zR (zO (by simp [-lenA, c18, c19, HH1, HH12, ↓HH13, ↓hfr3, ↓hrj3, HH16, ↓hrx3, ↓hvst, u5, HH17]; rfl) ?_)
      simp only [zT, zB]
      refine runs_drw (by simp (maxSteps := 3000000) [-lenA, c18, c19, HH1, HH12, ↓HH13, ↓hfr3, ↓hrj3, HH16, ↓hrx3, ↓hvst, u5, HH17]; rfl) ?_
      simp only [zT, zB]
      refine zR (zO (by simp [-lenA, c18, c19, HH1, HH12, ↓HH13, ↓hfr3, ↓hrj3, HH16, ↓hrx3, ↓hvst, u5, HH17]; rfl) ?_)
      simp only [zT, zB]
      exact ⟨(min W_.xs.length 6) - (k3 + 1), _, _, by omega, by simp [-lenA, c18, c19, HH1, HH12, ↓HH13, ↓hfr3, ↓hrj3, HH16, ↓hrx3, ↓hvst, u5, HH17] <;> first | exact ⟨rfl, rfl⟩ | rfl, k3 + 1, i3 + 1, by omega, rfl, by omega, .inr ⟨p3 + 1, nx3, by omega, hnx3, hnl3, rfl⟩⟩
     ·have hAt3 := of_decide_eq_true hA3
      have hx3 := of_decide_eq_false hlt3
      have hkE3 : k3 = (min W_.xs.length 6) := by omega
      rw [hkE3] at hac3
      have hwTe : k3 = min W_.xs.length 6 := hkE3
      refine runs_exit ?_
      simp only [zT, zB, if_true, if_false, reduceIte, Nat.reduceEqDiff, Nat.succ_ne_zero, Nat.one_ne_zero, Nat.zero_ne_one]
      have hTne : ac3 ≠ [] := by intro e; rw [e] at hacl3; simp at hacl3
      have hz3 : min W_.xs.length 6 = p3 + 1 := by omega
      rw [← hac3, hkt, ← hac1]
      exact tail41 P T W_ ac1 ac3 cells y kn mn (.sl 4 0 (p3 + 1) false) (some (.row 3 (ac3.map rS3))) hM1 hM4 hK1 hK4 hmn hkn hacl1 ly hy bys crb ry c19 (fun n hn => by simp; omega) (fun n hn => by rw [rbB_row]; exact rS3_rb n 4 ac3) rfl rfl (fun a b c d l => by rw [encN_ne hTne]; simp [tk3, hacl3, frz_mapT]) _ _ _ _ _ _ _ _ _ _ _ _ _ _ _ _ _ _ _ _ _ _ _ _ _ _ _ _ _ _ _ _ _ _ _ _ _ _ _ _ _ _ _ _ _ _ _ _ _ _ _ _ _ _ _ _ _ _ _ _ _ _ _ _ _ _ _ _ _ _ _ _ _ _ _ _ _ _ _ _ _ _ _ _ _ _ _ _ _ _ _ _ _ _ _ _ _ _ _ _ _ _ _ _ _ _ _ _ _ _ _ _ _ _ _ _ _ _ _ _ _ _ _ _ _ _ _ _ _ _ _ _ _ _ _ _ _ _ _ _ _ _ _ _ _ _ _ _ _ _ _ _
end
end
end Go.Proofs.YtjjapdagllclkaaGreat.Tab
