/- known() of flow, by the kernel. No condition. -/
import Derived.Test.YtjjapdagllclkaaGreatPzCFl
import Derived.Test.YtjjapdagllclkaaGreatPzBFl
set_option linter.unusedSimpArgs false
set_option linter.unusedVariables false
namespace Go.Proofs.YtjjapdagllclkaaGreat.Tab
open Go Go.Abs Go.Proofs
set_option maxRecDepth 100000
set_option maxHeartbeats 4000000
set_option linter.unusedSimpArgs false
set_option linter.unusedVariables false
section
attribute [local simp] YC Yt XV XW YZ YY XX YJ Xw Ys Zd orcF XO YX XQ XM YE Yr rb_vl rb_pv XK YW YV YU XP XL XN rb_sl rb_fn slE chunk fillA Ym ZK putAt List.range_succ List.range_zero List.range'_succ List.range'_zero ZU ZS ZF ZW ZB ZM stepX Yh dop CV.ev Yu Zv ZA Xt fI_eq YA Yy Zy Zw Out.v putT List.replicate_succ zT zB arI ZN Abs.rowAt ldRow allV toV toC ofV ofC Builtin.min_ Builtin.min2 Builtin.max_ Builtin.max2 XT XU resA tupA kill ZT Yo Yp Yn Zc
section
attribute [local simp] ZV ZD Xp YN actD clash disj Xq holes Xr ZY Xu news eqB allB eqA Xf wrote toCs ofCs stA Yq ZE Yl dI1 dI2 dI3 dI5 elt
attribute [local simp] XH XD XI XE YS XG YP XF st_pv YO st_sl st_vl YQ st_mp st_fn YR XC co_any co_und co_agg co_tup Xe co_int Xb co_ref co_pv Xa co_sl co_vl Xc co_mp co_fn Xd XZ
attribute [local simp] callA ZQ lop loud rbB_row rowAt
def asg161 : CC := (.reg [⟨(some 5), (.mv (.t 7)), none, []⟩])
def bd161 : CC := (.block 1 (.reg [⟨(some 8), (.ld (.t 2)), none, []⟩, ⟨(some 9), (.mv (.t 5)), none, []⟩, ⟨(some 10), (.bsl 1 1 [(.int .i64 (0))] [(0, (.t 9))]), none, []⟩, ⟨(some 11), (.app 1 (.t 8) (.t 10)), none, []⟩, ⟨none, (.st 1 (.t 2) (.t 11)), none, []⟩]))
theorem it133 (P : Program) (T : Nat → Option CFn) (hT : T 133 = some c133) (x : Za) (xs : List Int) (hx : Yd x = some xs) (hl : xs.length ≤ 1000) (r : Nat) (J : Nat → Zf → Prop)
    (htr : ∀ (i j : Nat) (g h : Zf) (vs : List Za), i ≤ j → J i g → J j h → trim g.length vs h = h)
    (step : ∀ (j : Nat) (h : Zf) (hj : j < xs.length), J j h → Ylds P T r [I xs[j]] h fun v h' => v = .bool true ∧ J (j + 1) h') :
    ∀ h, J 0 h → ZH P T 133 [.yld r, .pv [x] 0] h fun _ h2 => J xs.length h2 := by
  have lx := Yz hx
  intro h hh
  refine Zs hT (Zu rfl) ?_
  simp only [oo, om, op, og, ci, cl, c133]
  refine zS ?_
  refine zR (zO (by simp [lx, -Zc]; rfl) ?_)
  simp only [zT, zB]
  refine zL ?_
  refine YI (fun m σ => ∃ (k : Nat) (i : Int) (g : Zf), i = k ∧ xs.length - k = m ∧ k ≤ xs.length ∧ J k g ∧ σ = ⟨[.yld r, .any, .any, .any, .any, x, I xs.length, I i, .any, .any, .any, .any, .any, .any, .any, .any], g⟩) ?_ (xs.length - 0) _ ⟨0, 0, h, rfl, rfl, Nat.zero_le _, hh, by simp⟩
  rintro m σ ⟨k, i, g, hik, rfl, hk, hj, rfl⟩
  refine zS ?_
  refine zR (zO (by simp [lx, -Zc]; rfl) ?_)
  simp only [zT, zB]
  refine zS ?_
  refine Zg (x := decide (i < (xs.length : Int))) (by simp) (fun hlt => ?_) (fun hlt => ?_)
  · have hlt := of_decide_eq_true hlt
    have hk0 : k < xs.length := by omega
    obtain ⟨tt, rfl⟩ := Xh hx hk0
    have htn : i.toNat = k := by omega
    have hi0 : 0 ≤ i := by omega
    have hwi : W .i64 (i + 1) = i + 1 := ZR (by omega)
    have HH1 := And.intro lx (And.intro htn (And.intro hi0 (And.intro hk0 (And.intro hwi hlt))))
    refine zK ?_
    simp only [zT, zB]
    refine zS ?_
    refine zL ?_
    refine zS ?_
    refine zR (zO (by simp [-Zc, zI, HH1]; rfl) ?_)
    simp only [zT, zB]
    refine zS ?_
    refine zR (ops_take 2 (by simp [-Zc, zI, HH1]; rfl) ?_)
    simp only [List.drop_succ_cons, List.drop_zero]
    refine ops_ylds (i := r) (args := [I xs[k]]) (by simp) (by simp) (by simp) (by simp) ?_
    refine (step k g hk0 hj).mono ?_
    rintro v h' ⟨rfl, hj'⟩
    refine zO (by simp; rfl) ?_
    simp only [zT, zB]
    refine Zh (x := false) (by simp) ?_
    refine zK ?_
    simp only [zT, zB]
    refine zR (zO (by simp [-Zc, zI, HH1]; rfl) ?_)
    simp only [zT, zB]
    have ht := fun vs => htr k (k + 1) g h' vs (by omega) hj hj'
    refine ⟨xs.length - (k + 1), by omega, k + 1, i + 1, h', by omega, rfl, by omega, hj', ?_⟩
    simp [hwi, ht]
  · have hlt := of_decide_eq_false hlt
    obtain rfl : k = xs.length := by omega
    refine ZL ?_
    simp only [zT, zB, if_true, if_false, reduceIte, Nat.reduceEqDiff, Nat.succ_ne_zero, Nat.one_ne_zero, Nat.zero_ne_one]
    refine ⟨by simp, _, by simp; rfl, ?_⟩
    rw [htr 0 xs.length h g _ (Nat.zero_le _) hh hj]
    exact hj
def JC (x : Za) (xs : List Int) (j : Nat) (h : Zf) : Prop := h.length = 2 + 2 * j ∧ h[1]? = some (some (.loop [.nils, .fn 133 [] [.pv [x] 0], .ref 0 0 0, .und, .nils, .und, .fn 133 [] [.pv [x] 0], .und, .und, .und, .und, .und, .und] [7] asg161 bd161 .ready none)) ∧ h[0]? = some (some (.row 1 [[accV .nils (1 + 2 * j) ((xs.take j).map rI)]])) ∧ (0 < j → h[1 + 2 * j]? = some (some (.row 1 ((xs.take j).map rI))))
theorem trim_keep {n b r : Nat} {vs : List Za} {h : Zf} (h0 : h[0]? = some (some (.row 1 [[.sl b 0 r false]]))) (hb : n ≤ b) (hn : 0 < n) : trim n vs h = h := by
  unfold trim
  split
  · rename_i hc
    simp only [Bool.and_eq_true, List.all_eq_true] at hc
    have hm : some (.row 1 [[.sl b 0 r false]]) ∈ h.take n := by
      refine List.mem_of_getElem? (i := 0) ?_
      rw [List.getElem?_take_of_lt hn, h0]
    have := hc.2 _ hm
    simp at this
    omega
  · rfl
theorem JC_trim (x : Za) (xs : List Int) (i j : Nat) (g h : Zf) (vs : List Za) (hij : i ≤ j) (hj : j ≤ xs.length) (hg : JC x xs i g) (hh : JC x xs j h) : trim g.length vs h = h := by
  by_cases e : i = j
  · exact trim_same (by rw [hg.1, hh.1, e]; exact Nat.le_refl _)
  · obtain ⟨p, hp⟩ : ∃ p, (xs.take j).length = p + 1 := ⟨j - 1, by rw [List.length_take]; omega⟩
    have h0 := hh.2.2.1
    obtain ⟨a, l, hal⟩ : ∃ a l, xs.take j = a :: l := by
      cases h : xs.take j with
      | nil => rw [h] at hp; simp at hp
      | cons a l => exact ⟨a, l, rfl⟩
    rw [hal, List.map_cons, accV_cons] at h0
    exact trim_keep h0 (by rw [hg.1]; omega) (by rw [hg.1]; omega)
theorem JC_step (P : Program) (T : Nat → Option CFn) (x : Za) (xs : List Int) (hl : xs.length ≤ 1000) (j : Nat) (h : Zf) (hj : j < xs.length) (hJ : JC x xs j h) : Ylds P T 1 [I xs[j]] h fun v h' => v = .bool true ∧ JC x xs (j + 1) h' := by
  obtain ⟨hlen, hL, h0, hb⟩ := hJ
  have htk : (xs.take (j + 1)).map rI = (xs.take j).map rI ++ [[I xs[j]]] := by rw [List.take_succ_eq_append_getElem hj, List.map_append]; rfl
  have hrl : ((xs.take j).map rI).length = j := by simp; omega
  have hone : ∀ q ∈ (xs.take j).map rI, q.length = 1 := fun q hq => by obtain ⟨a, _, rfl⟩ := List.mem_map.1 hq; rfl
  have hne : 0 < j → (xs.take j).map rI ≠ [] := fun h e => by rw [e] at hrl; simp at hrl; omega
  unfold JC
  rw [htk]
  generalize (xs.take j).map rI = rows at *
  generalize xs[j] = y at *
  refine ylds_of hL rfl ?_
  show Runs P T (some 1) asg161 ⟨[.nils, .fn 133 [] [.pv [x] 0], .ref 0 0 0, .und, .nils, .und, .fn 133 [] [.pv [x] 0], I y, .und, .und, .und, .und, .und], h⟩ _
  refine zR (zO (by simp; rfl) ?_)
  refine ⟨rfl, _, _, _, _, _, hL, ?_⟩
  obtain ⟨H, hH⟩ : ∃ H, h.set 1 (some (.loop [.nils, .fn 133 [] [.pv [x] 0], .ref 0 0 0, .und, .nils, .und, .fn 133 [] [.pv [x] 0], .und, .und, .und, .und, .und, .und] [7] asg161 bd161 .busy none)) = H := ⟨_, rfl⟩
  have hHl : H.length = 2 + 2 * j := by rw [← hH, List.length_set, hlen]
  have hH0 : H[0]? = some (some (Blk.row 1 [[accV .nils (1 + 2 * j) rows]])) := by rw [← hH, List.getElem?_set_ne (by omega), h0]
  have hH1 : H[1]? = some (some (.loop [.nils, .fn 133 [] [.pv [x] 0], .ref 0 0 0, .und, .nils, .und, .fn 133 [] [.pv [x] 0], .und, .und, .und, .und, .und, .und] [7] asg161 bd161 .busy none)) := by rw [← hH, List.getElem?_set_self (by omega)]
  have hHb : H[1 + 2 * j]? = some (accB 1 (some (.loop [.nils, .fn 133 [] [.pv [x] 0], .ref 0 0 0, .und, .nils, .und, .fn 133 [] [.pv [x] 0], .und, .und, .und, .und, .und, .und] [7] asg161 bd161 .busy none)) rows) := by
    by_cases hj0 : 0 < j
    · rw [← hH, List.getElem?_set_ne (by omega), hb hj0]
      cases rows with
      | nil => exact absurd rfl (hne hj0)
      | cons a l => rfl
    · obtain rfl : j = 0 := by omega
      obtain rfl : rows = [] := List.eq_nil_of_length_eq_zero hrl
      exact hH1
  rw [hH]
  show Runs P T (some 1) bd161 ⟨[.nils, .fn 133 [] [.pv [x] 0], .ref 0 0 0, .und, .nils, I y, .fn 133 [] [.pv [x] 0], I y, .und, .und, .und, .und, .und], H⟩ _
  refine zL ?_
  refine zR (ops_take 3 (by simp [hH0]; rfl) ?_)
  simp only [List.drop_succ_cons, List.drop_zero]
  refine ops_acc (b := 1 + 2 * j) (v0 := .nils) (yv := .sl H.length 0 1 true) (blk0 := some (.loop [.nils, .fn 133 [] [.pv [x] 0], .ref 0 0 0, .und, .nils, .und, .fn 133 [] [.pv [x] 0], .und, .und, .und, .und, .und, .und] [7] asg161 bd161 .busy none)) (rows := rows) (new := [[I y]]) (by simp) (by simp) (by simp) (by simp) ?_ ?_ (by rw [hrl]; simp; omega) hone (by simp) ?_
  · show (H ++ [some (Blk.row 1 [[I y]])])[1 + 2 * j]? = _
    rw [List.getElem?_append_left (by omega)]; exact hHb
  · by_cases hj0 : 0 < j
    · exact .inr (hne hj0)
    · exact .inl (.nils _)
  obtain ⟨K, hK⟩ : ∃ K, (H ++ [some (Blk.row 1 [[I y]])]).set (1 + 2 * j) (accX (some (.loop [.nils, .fn 133 [] [.pv [x] 0], .ref 0 0 0, .und, .nils, .und, .fn 133 [] [.pv [x] 0], .und, .und, .und, .und, .und, .und] [7] asg161 bd161 .busy none)) rows) ++ [some (Blk.row 1 (rows ++ [[I y]]))] = K := ⟨_, rfl⟩
  have hKl : K.length = 4 + 2 * j := by rw [← hK]; simp; omega
  have hK0 : K[0]? = some (some (Blk.row 1 [[accV .nils (1 + 2 * j) rows]])) := by
    rw [← hK, List.getElem?_append_left (by simp), List.getElem?_set_ne (by omega), List.getElem?_append_left (by omega), hH0]
  have hK1 : K[1]? = some (some (.loop [.nils, .fn 133 [] [.pv [x] 0], .ref 0 0 0, .und, .nils, .und, .fn 133 [] [.pv [x] 0], .und, .und, .und, .und, .und, .und] [7] asg161 bd161 .busy none)) := by
    rw [← hK, List.getElem?_append_left (by simp; omega)]
    by_cases hj0 : 0 < j
    · rw [List.getElem?_set_ne (by omega), List.getElem?_append_left (by omega), hH1]
    · obtain rfl : j = 0 := by omega
      obtain rfl : rows = [] := List.eq_nil_of_length_eq_zero hrl
      rw [show 1 + 2 * 0 = 1 by rfl, List.getElem?_set_self (by simp; omega)]; rfl
  have hKn : K[3 + 2 * j]? = some (some (Blk.row 1 (rows ++ [[I y]]))) := by
    rw [← hK, List.getElem?_append_right (by simp; omega)]
    have : 3 + 2 * j - ((H ++ [some (Blk.row 1 [[I y]])]).set (1 + 2 * j) (accX (some (.loop [.nils, .fn 133 [] [.pv [x] 0], .ref 0 0 0, .und, .nils, .und, .fn 133 [] [.pv [x] 0], .und, .und, .und, .und, .und, .und] [7] asg161 bd161 .busy none)) rows)).length = 0 := by simp; omega
    rw [this]; rfl
  have hnl : (H ++ [some (Blk.row 1 [[I y]])] : Zf).length = 3 + 2 * j := by simp; omega
  refine zO (σ1 := ⟨[.nils, .fn 133 [] [.pv [x] 0], .ref 0 0 0, .und, .nils, I y, .fn 133 [] [.pv [x] 0], I y, accV .nils (1 + 2 * j) rows, I y, .sl H.length 0 1 true, .sl (3 + 2 * j) 0 (j + 1) false, .und], K.set 0 (some (Blk.row 1 [[.sl (3 + 2 * j) 0 (j + 1) false]]))⟩) ?_ ?_
  · show runX P T (fun _ _ _ => none) _ ⟨_, (H ++ [some (Blk.row 1 [[I y]])]).set (1 + 2 * j) (accX (some (.loop [.nils, .fn 133 [] [.pv [x] 0], .ref 0 0 0, .und, .nils, .und, .fn 133 [] [.pv [x] 0], .und, .und, .und, .und, .und, .und] [7] asg161 bd161 .busy none)) rows) ++ [some (Blk.row 1 (rows ++ [[I y]]))]⟩ = _
    rw [hK]
    have e1 : 2 + 2 * j + 1 = 3 + 2 * j := by omega
    simp [hK0, hHl, hrl, e1]
  simp only [zT, zB]
  have hF1 : (K.set 0 (some (Blk.row 1 [[.sl (3 + 2 * j) 0 (j + 1) false]])))[1]? = some (some (.loop [.nils, .fn 133 [] [.pv [x] 0], .ref 0 0 0, .und, .nils, .und, .fn 133 [] [.pv [x] 0], .und, .und, .und, .und, .und, .und] [7] asg161 bd161 .busy none)) := by rw [List.getElem?_set_ne (by omega), hK1]
  refine ⟨_, _, _, _, _, _, hF1, ?_⟩
  obtain ⟨F, hF⟩ : ∃ F, (K.set 0 (some (Blk.row 1 [[.sl (3 + 2 * j) 0 (j + 1) false]]))).set 1 (some (.loop [.nils, .fn 133 [] [.pv [x] 0], .ref 0 0 0, .und, .nils, .und, .fn 133 [] [.pv [x] 0], .und, .und, .und, .und, .und, .und] [7] asg161 bd161 .ready none)) = F := ⟨_, rfl⟩
  have hFl : F.length = 4 + 2 * j := by rw [← hF]; simp [hKl]
  have hF0 : F[0]? = some (some (Blk.row 1 [[.sl (3 + 2 * j) 0 (j + 1) false]])) := by rw [← hF, List.getElem?_set_ne (by omega), List.getElem?_set_self (by omega)]
  have hF1 : F[1]? = some (some (.loop [.nils, .fn 133 [] [.pv [x] 0], .ref 0 0 0, .und, .nils, .und, .fn 133 [] [.pv [x] 0], .und, .und, .und, .und, .und, .und] [7] asg161 bd161 .ready none)) := by rw [← hF, List.getElem?_set_self (by simp; omega)]
  have hFn : F[3 + 2 * j]? = some (some (Blk.row 1 (rows ++ [[I y]]))) := by rw [← hF, List.getElem?_set_ne (by omega), List.getElem?_set_ne (by omega), hKn]
  refine ⟨trivial, ?_⟩
  rw [hF, trim_keep hF0 (by omega) (by omega)]
  have e3 : 1 + 2 * (j + 1) = 3 + 2 * j := by omega
  refine ⟨by omega, hF1, ?_, fun _ => by rw [e3]; exact hFn⟩
  rw [hF0, accV_one, hrl, e3]
theorem a161 (P : Program) (T : Nat → Option CFn) (hT : T 161 = some c161) (h133 : T 133 = some c133) (x : Za) (xs : List Int) : Yd x = some xs → 1 ≤ xs.length ∧ xs.length ≤ 1000 → ZH P T 161 [.nils, .fn 133 [] [.pv [x] 0]] [] fun v h => ∃ b, v = .sl b 0 xs.length false ∧ h[b]? = some (some (.row 1 (xs.map rI))) := by
 intro hx hl
 refine Zs hT (Zu rfl) ?_
 simp only [oo, om, op, og, ci, cl, c161]
 refine zS ?_
 refine zR (zO (by simp; rfl) ?_)
 simp only [zT, zB]
 refine zS ?_
 refine zS ?_
 refine zR (zO (by simp; rfl) ?_)
 simp only [zT, zB]
 refine zL ?_
 refine runs_rf (f := 133) (a := []) (b := [.pv [x] 0]) (by simp [inLoop]) (by simp) ?_
 refine (it133 P T h133 x xs hx (by omega) 1 (fun j h => j ≤ xs.length ∧ JC x xs j h) (fun i j g h vs hij hg hh => JC_trim x xs i j g h vs hij hh.1 hg.2 hh.2) (fun j h hj hJ => (JC_step P T x xs (by omega) j h hj hJ.2).mono fun v h' hv => ⟨hv.1, by omega, hv.2⟩) _ ⟨Nat.zero_le _, rfl, rfl, by simp [accV], fun h => absurd h (by omega)⟩).mono ?_
 rintro v h2 ⟨_, hlen, hL, h0, hb⟩
 rw [List.take_length] at h0 hb
 refine ⟨_, _, _, _, _, _, hL, by simp, ?_⟩
 obtain ⟨a, l, hal⟩ : ∃ a l, xs = a :: l := by
  cases xs with
  | nil => simp at hl
  | cons a l => exact ⟨a, l, rfl⟩
 have hb := hb (by omega)
 rw [show accV .nils (1 + 2 * xs.length) (xs.map rI) = .sl (1 + 2 * xs.length) 0 xs.length false by rw [hal]; simp [accV]] at h0
 obtain ⟨F, hF⟩ : ∃ F, h2.set 1 none = F := ⟨_, rfl⟩
 have hF0 : F[0]? = some (some (.row 1 [[.sl (1 + 2 * xs.length) 0 xs.length false]])) := by rw [← hF, List.getElem?_set_ne (by omega), h0]
 have hFn : F[1 + 2 * xs.length]? = some (some (.row 1 (xs.map rI))) := by rw [← hF, List.getElem?_set_ne (by omega), hb]
 show Runs P T none _ ⟨_, h2.set 1 none⟩ _
 rw [hF]
 clear hF hL h0 hb
 refine zS ?_
 refine zR (zO (by simp [hF0]; rfl) ?_)
 simp only [zT, zB]
 refine Zj ?_
 refine ⟨by simp, _, by simp; rfl, ?_⟩
 have ht : trim 0 [tupA [.sl (1 + 2 * xs.length) 0 xs.length false]] F = F := by simp [trim]
 refine ⟨_, rfl, ?_⟩
 show (trim 0 [tupA [.sl (1 + 2 * xs.length) 0 xs.length false]] F)[1 + 2 * xs.length]? = _
 rw [ht]; exact hFn
end
end
end Go.Proofs.YtjjapdagllclkaaGreat.Tab
namespace Go.Proofs.YtjjapdagllclkaaGreat.Tab
open Go Go.Abs Go.Proofs
set_option maxRecDepth 100000
set_option maxHeartbeats 4000000
set_option linter.unusedSimpArgs false
set_option linter.unusedVariables false
noncomputable section
attribute [local simp] YC Yt XV XW YZ YY XX YJ Xw Ys Zd orcF XO YX XQ XM YE Yr rb_vl rb_pv XK YW YV YU XP XL XN rb_sl rb_fn slE chunk fillA Ym ZK putAt List.range_succ List.range_zero List.range'_succ List.range'_zero ZU ZS ZF ZW ZB ZM stepX Yh dop CV.ev Yu Zv ZA Xt fI_eq YA Yy Zy Zw Out.v putT List.replicate_succ zT zB arI ZN Abs.rowAt ldRow allV toV toC ofV ofC Builtin.min_ Builtin.min2 Builtin.max_ Builtin.max2 XT XU resA tupA kill ZT Yo Yp Yn Zc
section
attribute [local simp] ZV ZD Xp YN actD clash disj Xq holes Xr ZY Xu news eqB allB eqA Xf wrote toCs ofCs stA Yq ZE Yl dI1 dI2 dI3 dI5 elt
attribute [local simp] XH XD XI XE YS XG YP XF st_pv YO st_sl st_vl YQ st_mp st_fn YR XC co_any co_und co_agg co_tup Xe co_int Xb co_ref co_pv Xa co_sl co_vl Xc co_mp co_fn Xd XZ
attribute [local simp] callA ZQ lop loud putH XR rbB_row rowAt setH
theorem a131 (P : Program) (T : Nat → Option CFn) (hT : T 131 = some c131) (h161 : T 161 = some c161) (h133 : T 133 = some c133) (x : Za) (xs : List Int) (hx : Yd x = some xs) (hl : 1 ≤ xs.length ∧ xs.length ≤ 1000) : ZH P T 131 [.fn 133 [] [.pv [x] 0]] [] fun v h => ∃ b, v = .sl b 0 xs.length false ∧ h[b]? = some (some (.row 1 (xs.map rI))) := by
 refine Zs hT (Zu rfl) ?_
 simp only [oo, om, op, og, ci, cl, c131]
 refine zS ?_
 refine zR (zO (by simp; rfl) ?_)
 simp only [zT, zB]
 refine zS ?_
 refine zR (ops_take 1 (by simp; rfl) ?_)
 simp only [List.drop_succ_cons, List.drop_zero]
 refine ops_call (f := 161) (args := [.nils, .fn 133 [] [.pv [x] 0]]) (by simp) (by simp) (by simp) (by simp) ?_
 refine (a161 P T h161 h133 x xs hx hl).mono ?_
 rintro v h ⟨b, rfl, hb⟩
 refine zO (by simp; rfl) ?_
 simp only [zT, zB]
 refine Zj ?_
 refine ⟨by simp, _, by simp; rfl, ?_⟩
 have ht : trim 0 [tupA [.sl b 0 xs.length false]] h = h := by simp [trim]
 refine ⟨b, rfl, ?_⟩
 show (trim 0 [tupA [.sl b 0 xs.length false]] h)[b]? = _
 rw [ht]; exact hb
theorem a100 (P : Program) (T : Nat → Option CFn) (hT : T 100 = some c100) (h131 : T 131 = some c131) (h161 : T 161 = some c161) (h133 : T 133 = some c133) (h132 : T 132 = some { c132 with frsh := false, orc := fun _ => none, eff := eSort }) (x : Za) (xs : List Int) (hx : Yd x = some xs) (hl : 1 ≤ xs.length ∧ xs.length ≤ 100) : ZH P T 100 [.fn 133 [] [.pv [x] 0]] [] fun v h => frz true h 5 v = some (.vl ((srt xs).map rI) false) := by
 refine Zs hT (Zu rfl) ?_
 simp only [oo, om, op, og, ci, cl, c100]
 refine zS ?_
 refine zR (zO (by simp; rfl) ?_)
 simp only [zT, zB]
 refine zS ?_
 refine zR (ops_take 1 (by simp; rfl) ?_)
 simp only [List.drop_succ_cons, List.drop_zero]
 refine ops_call (f := 131) (args := [.fn 133 [] [.pv [x] 0]]) (by simp) (by simp) (by simp) (by simp) ?_
 refine (a131 P T h131 h161 h133 x xs hx ⟨hl.1, by omega⟩).mono ?_
 rintro v h ⟨b, rfl, hb⟩
 have hlb : b < h.length := (List.getElem?_eq_some_iff.1 hb).1
 have hs := eSort_eq (tt := false) hb ⟨hl.1, by omega⟩
 refine zO (by simp; rfl) ?_
 simp only [zT, zB]
 refine zS ?_
 obtain ⟨K, hK⟩ : ∃ K, h.set b (some (.row 1 ((srt xs).map rI))) = K := ⟨_, rfl⟩
 have hKb : K[b]? = some (some (.row 1 ((srt xs).map rI))) := by rw [← hK, List.getElem?_set_self hlb]
 have tks : ((srt xs).map rI).take xs.length = (srt xs).map rI := List.take_of_length_le (by simp [srt_len])
 have hsl := srt_len xs
 have HH1 := zA h132 (zA hs (zA hlb (zA hb (zA hK (zA hKb (zA tks hsl))))))
 refine zR (zO (by simp [Zb h132 rfl, ↓Ze, ↓rI_rb, Zm, dI1_self, HH1]; rfl) ?_)
 simp only [zT, zB]
 refine zS ?_
 refine zR (zO (by simp [Zb h132 rfl, ↓Ze, ↓rI_rb, Zm, dI1_self, HH1]; rfl) ?_)
 simp only [zT, zB]
 refine Zj ?_
 simp [Zb h132 rfl, ↓Ze, ↓rI_rb, Zm, dI1_self, HH1, trim]
theorem k100_0 : isR .nils (Yj FH (exec Tryz.prog FH 300) 100 [.fn 133 [] [.pv [.nils] 0]] []) = true := by kernel_rfl
theorem k100_1 : isR .nils (Yj FH (exec Tryz.prog FH 300) 100 [.fn 133 [] [.pv [.vl [] true] 0]] []) = true := by kernel_rfl
theorem k100_2 : isR .nils (Yj FH (exec Tryz.prog FH 300) 100 [.fn 133 [] [.pv [.vl [] false] 0]] []) = true := by kernel_rfl
def oSorted : List Za → Option Za
  | [.fn 133 [] [.pv [x] 0]] => match Yd x with
    | some xs => if xs.length ≤ 100 then some (encV (srt xs)) else none
    | none => none
  | _ => none
def oVals : List Za → Option Za
  | [x] => match Yd x with
    | some _ => some (.fn 133 [] [.pv [x] 0])
    | none => none
  | _ => none
theorem a101 (P : Program) (T : Nat → Option CFn) (hT : T 101 = some c101) (x : Za) (xs : List Int) (hx : Yd x = some xs) : ZH P T 101 [x] [] fun v h => frz false h 5 v = some (.fn 133 [] [.pv [x] 0]) := by
 have fx := fun H d => ZG hx H d
 have rx := fun n d => Yc hx n d
 obtain ⟨cx1, cx2⟩ := Zp hx
 refine Zs hT (Zu rfl) ?_
 simp only [oo, om, op, og, ci, cl, c101]
 refine zS ?_
 refine zR (zO (by simp [fx, rx, cx1, cx2]; rfl) ?_)
 simp only [zT, zB]
 refine zS ?_
 refine zR (zO (by simp [fx, rx, cx1, cx2]; rfl) ?_)
 simp only [zT, zB]
 refine Zj ?_
 simp [fx, rx, cx1, cx2, trim]
def FJ1_100 : Nat → Option CFn := upd FH 100 true (oSorted)
theorem FJ1_100_ok : Zr Tryz.prog GG FJ1_100 := Xm mixed FH_ok fun args v ho => by
  unfold oSorted at ho; split at ho <;> (try simp only [reduceCtorEq] at ho)
  rename_i x
  split at ho <;> (try simp only [reduceCtorEq] at ho)
  rename_i xs hx
  split at ho <;> (try simp only [reduceCtorEq] at ho)
  rename_i hg
  simp only [Option.some.injEq] at ho
  subst ho
  cases xs with
  | nil =>
    have e : encV (srt []) = .nils := by simp [srt, encV]
    rw [e]
    rcases dInts_cases hx with ⟨rfl, _⟩ | ⟨t, rfl⟩
    · exact Zo k100_0
    · cases t
      · exact Zo k100_2
      · exact Zo k100_1
  | cons a l =>
    rw [encV_ne (by intro e; have := srt_len (a :: l); rw [e] at this; simp at this)]
    exact a100 Tryz.prog FH rfl rfl rfl rfl rfl x (a :: l) hx ⟨by simp, hg⟩
def FJ1 : Nat → Option CFn := upd FJ1_100 101 false (oVals)
theorem FJ1_ok : Zr Tryz.prog GG FJ1 := Xm mixed FJ1_100_ok fun args v ho => by
  unfold oVals at ho; split at ho <;> (try simp only [reduceCtorEq] at ho)
  rename_i x
  split at ho <;> (try simp only [reduceCtorEq] at ho)
  rename_i xs hx
  simp only [Option.some.injEq] at ho
  subst ho
  exact a101 Tryz.prog FJ1_100 rfl x xs hx
def oOO : List Za → Option Za
  | [.agg [.int .i64 m, c, t], j, o] => match ZI c, Yg t, Xj j, Yd o with
    | some cs, some ts, some js, some os => if sizeOk ⟨m, cs, ts⟩ js = true ∧ os.length ≤ 100 then some (.tup [if shopE ⟨m, cs, ts⟩ js = 0 then .agg [.int .i64 m, c, t, j] else zWork, I (if shopE ⟨m, cs, ts⟩ js = 0 then (if ordB os js.length = true then 0 else 6) else shopE ⟨m, cs, ts⟩ js)]) else none
    | _, _, _, _ => none
  | _ => none
theorem a61 (P : Program) (T : Nat → Option CFn) (hT : T 61 = some c61) (h70 : T 70 = some { c70 with frsh := false, orc := oOpen }) (h100 : T 100 = some { c100 with frsh := true, orc := oSorted }) (h101 : T 101 = some { c101 with frsh := false, orc := oVals }) (s : FShop) (js : List FJob) (c t j : Za) (hc : ZI c = some s.chg) (ht : Yg t = some s.stops) (hj : Xj j = some js) (o : Za) (os : List Int) (ho : Yd o = some os) (hz : SizeOk s js ∧ os.length ≤ 100) : ZH P T 61 [.agg [I s.mach, c, t], j, o] [] fun v h => frz false h 5 v = some (.tup [if shopE s js = 0 then .agg [I s.mach, c, t, j] else zWork, I (if shopE s js = 0 then (if ordB os js.length = true then 0 else 6) else shopE s js)]) := by
 have fc := fun H d => Xo hc H d
 have ft := fun H d => dStops_frz ht H d
 have fj := fun H d => dJobs_frz hj H d
 have rc := fun n d => Xi hc n d
 have rt := fun n d => dStops_rb ht n d
 have rj := fun n d => dJobs_rb hj n d
 have lc := Xn hc
 have lt := dStops_len ht
 have lj := dJobs_len hj
 obtain ⟨cc1, cc2⟩ := ZZ hc
 obtain ⟨ct1, ct2⟩ := YK ht
 obtain ⟨cj1, cj2⟩ := dJobs_cells hj
 have fo := fun H d => ZG ho H d
 have ro := fun n d => Yc ho n d
 have lo := Yz ho
 obtain ⟨co1, co2⟩ := Zp ho
 obtain ⟨hz1, hz2⟩ := hz
 have hop := open_eq hc ht hj hz1
 refine Zs hT (Zu rfl) ?_
 simp only [oo, om, op, og, ci, cl, c61]
 by_cases h0 : shopE s js = 0
 ·have HH1 := zA h70 (zA h100 (zA h101 (zA fc (zA ft (zA fj (zA rc (zA rt (zA rj (zA lc (zA lt (zA lj (zA cc1 (zA cc2 (zA ct1 (zA ct2 (zA cj1 (zA cj2 (zA fo (zA ro (zA lo (zA co1 (zA co2 (zA hop h0)))))))))))))))))))))))
  refine zS ?_
  refine zR (zO (by simp [zC h70, zC h100, zC h101, -Zc, HH1]; rfl) ?_)
  simp only [zT, zB]
  refine zS ?_
  refine zR (zO (by simp [zC h70, zC h100, zC h101, -Zc, HH1]; rfl) ?_)
  simp only [zT, zB]
  refine zS ?_
  refine zS ?_
  refine zR (zO (by simp [zC h70, zC h100, zC h101, -Zc, HH1]; rfl) ?_)
  simp only [zT, zB]
  refine Zh (x := false) (by simp) ?_
  have hv : oVals [o] = some (.fn 133 [] [.pv [o] 0]) := by simp only [oVals, ho]
  have hso : oSorted [.fn 133 [] [.pv [o] 0]] = some (encV (srt os)) := by simp only [oSorted, ho]; rw [if_pos hz2]
  have hsv := dInts_encV (srt os)
  have hsl := srt_len os
  generalize encV (srt os) = sv at *
  have fs := fun H d => ZG hsv H d
  have rs5 := fun n d => Yc hsv n d
  have ls := Yz hsv
  have HH2 := zA hv (zA hso (zA fs (zA rs5 (zA ls hsl))))
  refine zK ?_
  simp only [zT, zB]
  refine zS ?_
  refine zS ?_
  refine zR (zO (by simp [zC h70, zC h100, zC h101, -Zc, HH1, HH2]; rfl) ?_)
  simp only [zT, zB]
  refine zL ?_
  refine YI (fun m σ => ∃ (k : Nat) (i : Int), i = k ∧ os.length - k = m ∧ k ≤ os.length ∧ (∀ q, q < k → ∀ (h : q < (srt os).length), (srt os)[q] = (q : Int)) ∧ σ = ⟨[.any, j, o, .any, .any, .any, .ref 1 0 0, .any, .ref 2 0 0, .any, .any, .any, .any, .any, .any, .any, .any, .any, .any, .any, .any, .any, .any, .any, sv, I os.length, I i, .any, .any, .any, .any, .any, .any, .any, .any, .any, .any, .any, .any, .any, .any, .any, .any], [some (.row 3 [[I s.mach, c, t]]), some (.row 4 [[I 0, .nils, .nils, .nils]]), some (.row 4 [[I s.mach, c, t, j]])]⟩) ?_ (os.length - 0) _ ⟨0, 0, rfl, rfl, Nat.zero_le _, (fun q hq => absurd hq (Nat.not_lt_zero _)), by simp⟩
  intro m σ hI
  obtain ⟨k, hI⟩ := hI
  obtain ⟨i, hik, hm, hkl, hA, hσ⟩ := hI
  subst hm
  subst hσ
  refine zS ?_
  refine zR (zO (by simp [zC h70, zC h100, zC h101, -Zc, HH1, HH2]; rfl) ?_)
  simp only [zT, zB]
  refine zS ?_
  refine Zg (x := decide (i < (os.length : Int))) (by simp) (fun hlt => ?_) (fun hlt => ?_)
  ·have hlt := of_decide_eq_true hlt
   have hk0 : k < (srt os).length := by omega
   obtain ⟨tt, rfl⟩ := Xh hsv hk0
   have hi0 : 0 ≤ i := by omega
   have htn : i.toNat = k := by omega
   have hkl : k < os.length := by omega
   have hwi : W .i64 (i + 1) = i + 1 := ZR (by omega)
   have HH3 := zA hi0 (zA htn (zA hk0 (zA hkl hwi)))
   refine zK ?_
   simp only [zT, zB]
   refine zS ?_
   refine zL ?_
   refine zS ?_
   refine zR (zO (by simp [zC h70, zC h100, zC h101, -Zc, HH1, HH2, zI, HH3]; rfl) ?_)
   simp only [zT, zB]
   refine zS ?_
   refine zR (zO (by simp [zC h70, zC h100, zC h101, -Zc, HH1, HH2, zI, HH3]; rfl) ?_)
   simp only [zT, zB]
   refine Zg (x := _) rfl (fun hne => ?_) (fun hne => ?_)
   ·have hne : ¬ (srt os)[k] = i := by simpa using hne
    have hob : ordB os js.length = false := by
     rw [Bool.eq_false_iff]
     intro h
     exact hne (by rw [(ord_at.1 h).2 k hk0]; exact hik.symm)
    refine zS ?_
    refine zR (zO (by simp [zC h70, zC h100, zC h101, -Zc, HH1, HH2, zI, HH3, hob]; rfl) ?_)
    simp only [zT, zB]
    refine Zj ?_
    simp [zC h70, zC h100, zC h101, -Zc, HH1, HH2, zI, HH3, hob, trim]
   ·have heq : (srt os)[k] = i := by simpa using hne
    refine zK ?_
    simp only [zT, zB]
    refine zR (zO (by simp [zC h70, zC h100, zC h101, -Zc, HH1, HH2, zI, HH3]; rfl) ?_)
    simp only [zT, zB]
    refine ⟨os.length - (k + 1), by omega, k + 1, i + 1, by omega, rfl, by omega, fun q hq hql => ?_, by simp [trim, zC h70, zC h100, zC h101, -Zc, HH1, HH2, zI, HH3]⟩
    rcases Nat.lt_or_ge q k with h | h
    ·exact hA q h hql
    ·obtain rfl : q = k := by omega
     rw [heq, hik]
  ·have hlt := of_decide_eq_false hlt
   have hkl : k = os.length := by omega
   subst hkl
   refine ZL ?_
   simp only [zT, zB, if_true, if_false, reduceIte, Nat.reduceEqDiff, Nat.succ_ne_zero, Nat.one_ne_zero, Nat.zero_ne_one]
   refine zS ?_
   refine zS ?_
   refine zR (zO (by simp [zC h70, zC h100, zC h101, -Zc, HH1, HH2]; rfl) ?_)
   simp only [zT, zB]
   by_cases hlen : os.length = js.length
   ·have hob : ordB os js.length = true := ord_at.2 ⟨hlen, fun q hq => hA q (by omega) hq⟩
    refine Zh (x := false) (by simp [hlen]) ?_
    refine zK ?_
    simp only [zT, zB]
    refine zS ?_
    refine zR (zO (by simp [zC h70, zC h100, zC h101, -Zc, HH1, HH2, hob, hlen]; rfl) ?_)
    simp only [zT, zB]
    refine Zj ?_
    simp [zC h70, zC h100, zC h101, -Zc, HH1, HH2, hob, hlen, trim]
   ·have hob : ordB os js.length = false := by
     rw [Bool.eq_false_iff]
     intro h
     exact hlen (ord_len h)
    refine Zh (x := true) (by simp [hlen]; omega) ?_
    refine zS ?_
    refine zR (zO (by simp [zC h70, zC h100, zC h101, -Zc, HH1, HH2, hob, hlen]; rfl) ?_)
    simp only [zT, zB]
    refine Zj ?_
    simp [zC h70, zC h100, zC h101, -Zc, HH1, HH2, hob, hlen, trim]
 ·have HH4 := zA h70 (zA h100 (zA h101 (zA fc (zA ft (zA fj (zA rc (zA rt (zA rj (zA lc (zA lt (zA lj (zA cc1 (zA cc2 (zA ct1 (zA ct2 (zA cj1 (zA cj2 (zA fo (zA ro (zA lo (zA co1 (zA co2 (zA hop h0)))))))))))))))))))))))
  refine zS ?_
  refine zR (zO (by simp [zC h70, zC h100, zC h101, -Zc, zWork, HH4]; rfl) ?_)
  simp only [zT, zB]
  refine zS ?_
  refine zR (zO (by simp [zC h70, zC h100, zC h101, -Zc, zWork, HH4]; rfl) ?_)
  simp only [zT, zB]
  refine zS ?_
  refine zS ?_
  refine zR (zO (by simp [zC h70, zC h100, zC h101, -Zc, zWork, HH4]; rfl) ?_)
  simp only [zT, zB]
  refine Zh (x := true) (by simp [h0]) ?_
  refine zS ?_
  refine zR (zO (by simp [zC h70, zC h100, zC h101, -Zc, zWork, HH4]; rfl) ?_)
  simp only [zT, zB]
  refine Zj ?_
  simp [zC h70, zC h100, zC h101, -Zc, zWork, HH4]
def FJ : Nat → Option CFn := upd FJ1 61 false (oOO)
theorem FJ_ok : Zr Tryz.prog GG FJ := Xm mixed FJ1_ok fun args v ho => by
  unfold oOO at ho; split at ho <;> (try simp only [reduceCtorEq] at ho)
  rename_i m c t j o
  split at ho <;> (try simp only [reduceCtorEq] at ho)
  rename_i cs ts js os hc ht hj ho2
  split at ho <;> (try simp only [reduceCtorEq] at ho)
  rename_i hz
  simp only [Option.some.injEq] at ho
  subst ho
  exact a61 Tryz.prog FJ1 rfl rfl rfl rfl ⟨m, cs, ts⟩ js c t j hc ht hj o os ho2 ⟨size_ok.1 hz.1, hz.2⟩
theorem oo_eq {s : FShop} {js : List FJob} {c t j o : Za} {os : List Int} (hc : ZI c = some s.chg) (ht : Yg t = some s.stops) (hj : Xj j = some js) (ho : Yd o = some os) (hz : SizeOk s js) (hl : os.length ≤ 100) : oOO [.agg [I s.mach, c, t], j, o] = some (.tup [if shopE s js = 0 then .agg [I s.mach, c, t, j] else zWork, I (if shopE s js = 0 then (if ordB os js.length = true then 0 else 6) else shopE s js)]) := by
  simp only [oOO, hc, ht, hj, ho]
  rw [if_pos ⟨size_ok.2 hz, hl⟩]
end
section
attribute [local simp] ZV ZD Xp YN actD clash disj Xq holes Xr ZY Xu news eqB allB eqA Xf wrote toCs ofCs stA Yq ZE Yl dI1 dI2 dI3 dI5 elt
attribute [local simp] XH XD XI XE YS XG YP XF st_pv YO st_sl st_vl YQ st_mp st_fn YR XC co_any co_und co_agg co_tup Xe co_int Xb co_ref co_pv Xa co_sl co_vl Xc co_mp co_fn Xd XZ
attribute [local simp] callA ZQ lop loud XR rbB_row
def ordE (s : FShop) (js : List FJob) (os : List Int) : Int := if shopE s js = 0 then (if ordB os js.length = true then 0 else 6) else shopE s js
theorem ordE_ok {s : FShop} {js : List FJob} {os : List Int} (h : ordE s js os = 0) : shopE s js = 0 ∧ ordB os js.length = true := by
  unfold ordE at h
  split at h
  · rename_i h0
    split at h
    · rename_i h1; exact ⟨h0, h1⟩
    · simp at h
  · rename_i h0; exact absurd h h0
theorem ordE_run {s : FShop} {js : List FJob} {os : List Int} (h : ordE s js os = 0) : ShopOk s js ∧ OrdOk js os := by
  obtain ⟨h1, h2⟩ := ordE_ok h
  have hs := shop_ok h1
  exact ⟨hs, by rw [ord_len h2]; exact hs.njob, fun i hi => (ord_mem h2).1 hi⟩
theorem ordE_eq (s : FShop) (js : List FJob) (os : List Int) : (if shopE s js = 0 then (if ordB os js.length = true then 0 else 6) else shopE s js) = ordE s js os := rfl
theorem ordE_ne {s : FShop} {js : List FJob} {os : List Int} (h : ordE s js os = 0) : shopE s js = 0 := (ordE_ok h).1
def startsV (s : FShop) (js : List FJob) (os : List Int) : Za := if ordE s js os = 0 then .vl ((runF s js os).starts.map encS) true else .nils
def oStarts : List Za → Option Za
  | [.agg [.int .i64 m, c, t], j, o] => match ZI c, Yg t, Xj j, Yd o with
    | some cs, some ts, some js, some os => if sizeOk ⟨m, cs, ts⟩ js = true ∧ os.length ≤ 100 then some (.tup [startsV ⟨m, cs, ts⟩ js os, I (ordE ⟨m, cs, ts⟩ js os)]) else none
    | _, _, _, _ => none
  | _ => none
def lateT (s : FShop) (js : List FJob) (os : List Int) : Int × Int × Int := if ordE s js os = 0 then (((Xs (runF s js os).ends js js.length).length : Int), (latF (runF s js os).ends js js.length).1, (latF (runF s js os).ends js js.length).2) else (0, 0, 0)
def oLateT : List Za → Option Za
  | [.agg [.int .i64 m, c, t], j, o] => match ZI c, Yg t, Xj j, Yd o with
    | some cs, some ts, some js, some os => if sizeOk ⟨m, cs, ts⟩ js = true ∧ os.length ≤ 100 then some (.tup [I (lateT ⟨m, cs, ts⟩ js os).1, I (lateT ⟨m, cs, ts⟩ js os).2.1, I (lateT ⟨m, cs, ts⟩ js os).2.2, I (ordE ⟨m, cs, ts⟩ js os)]) else none
    | _, _, _, _ => none
  | _ => none
theorem starts_eq {s : FShop} {js : List FJob} {c t j o : Za} {os : List Int} (hc : ZI c = some s.chg) (ht : Yg t = some s.stops) (hj : Xj j = some js) (ho : Yd o = some os) (hz : SizeOk s js) (hl : os.length ≤ 100) : oStarts [.agg [I s.mach, c, t], j, o] = some (.tup [startsV s js os, I (ordE s js os)]) := by
  simp only [oStarts, hc, ht, hj, ho]
  rw [if_pos ⟨size_ok.2 hz, hl⟩]
theorem lateT_eq {s : FShop} {js : List FJob} {c t j o : Za} {os : List Int} (hc : ZI c = some s.chg) (ht : Yg t = some s.stops) (hj : Xj j = some js) (ho : Yd o = some os) (hz : SizeOk s js) (hl : os.length ≤ 100) : oLateT [.agg [I s.mach, c, t], j, o] = some (.tup [I (lateT s js os).1, I (lateT s js os).2.1, I (lateT s js os).2.2, I (ordE s js os)]) := by
  simp only [oLateT, hc, ht, hj, ho]
  rw [if_pos ⟨size_ok.2 hz, hl⟩]
def jobAt (js : List FJob) (k : Nat) : FJob := js.getD k default
def minAt (j : FJob) (k : Nat) : Int := j.mins.getD k 0
theorem jobAt_eq {js : List FJob} {k : Nat} (h : k < js.length) : jobAt js k = js[k] := by unfold jobAt; rw [List.getD_eq_getElem?_getD, List.getElem?_eq_getElem h]; rfl
theorem minAt_eq {j : FJob} {k : Nat} (h : k < j.mins.length) : minAt j k = j.mins[k] := by unfold minAt; rw [List.getD_eq_getElem?_getD, List.getElem?_eq_getElem h]; rfl
theorem a43 (P : Program) (T : Nat → Option CFn) (hT : T 43 = some c43) (h61 : T 61 = some { c61 with frsh := false, orc := oOO }) (h62 : T 62 = some { c62 with frsh := false, orc := oRun }) (s : FShop) (js : List FJob) (c t j : Za) (hc : ZI c = some s.chg) (ht : Yg t = some s.stops) (hj : Xj j = some js) (o : Za) (os : List Int) (ho : Yd o = some os) (hz : SizeOk s js ∧ os.length ≤ 100) : ZH P T 43 [.agg [I s.mach, c, t], j, o] [] fun v h => frz false h 5 v = some (.tup [startsV s js os, I (ordE s js os)]) := by
 have fc := fun H d => Xo hc H d
 have ft := fun H d => dStops_frz ht H d
 have fj := fun H d => dJobs_frz hj H d
 have rc := fun n d => Xi hc n d
 have rt := fun n d => dStops_rb ht n d
 have rj := fun n d => dJobs_rb hj n d
 have lc := Xn hc
 have lt := dStops_len ht
 have lj := dJobs_len hj
 obtain ⟨cc1, cc2⟩ := ZZ hc
 obtain ⟨ct1, ct2⟩ := YK ht
 obtain ⟨cj1, cj2⟩ := dJobs_cells hj
 have fo := fun H d => ZG ho H d
 have ro := fun n d => Yc ho n d
 have lo := Yz ho
 obtain ⟨co1, co2⟩ := Zp ho
 obtain ⟨hz1, hz2⟩ := hz
 have hop := oo_eq hc ht hj ho hz1 hz2
 rw [ordE_eq] at hop
 refine Zs hT (Zu rfl) ?_
 simp only [oo, om, op, og, ci, cl, c43]
 by_cases h0 : ordE s js os = 0
 ·have h1 := ordE_ne h0
  have hg := ordE_run h0
  have hrun := run_eq hc ht hj ho hg
  have fz1 : ∀ H d, Zd (Zd (frz false H (d + 1))) ((runF s js os).starts.map encS) = some ((runF s js os).starts.map encS) := fun H d => frz_encS H d _
  have HH1 := zA h61 (zA h62 (zA fc (zA ft (zA fj (zA rc (zA rt (zA rj (zA lc (zA lt (zA lj (zA cc1 (zA cc2 (zA ct1 (zA ct2 (zA cj1 (zA cj2 (zA fo (zA ro (zA lo (zA co1 (zA co2 (zA hop (zA h0 (zA h1 (zA hrun fz1)))))))))))))))))))))))))
  refine zS ?_
  refine zR (zO (by simp [zC h61, zC h62, -Zc, startsV, if_pos, Zm, HH1]; rfl) ?_)
  simp only [zT, zB]
  refine zS ?_
  refine zR (zO (by simp [zC h61, zC h62, -Zc, startsV, if_pos, Zm, HH1]; rfl) ?_)
  simp only [zT, zB]
  refine zS ?_
  refine zS ?_
  refine zR (zO (by simp [zC h61, zC h62, -Zc, startsV, if_pos, Zm, HH1]; rfl) ?_)
  simp only [zT, zB]
  refine Zh (x := false) (by simp) ?_
  refine zK ?_
  simp only [zT, zB]
  refine zS ?_
  refine zR (zO (by simp [zC h61, zC h62, -Zc, startsV, if_pos, Zm, HH1]; rfl) ?_)
  simp only [zT, zB]
  refine Zj ?_
  simp [zC h61, zC h62, -Zc, startsV, if_pos, Zm, HH1, trim]
 ·by_cases h1 : shopE s js = 0
  ·have HH2 := zA h61 (zA h62 (zA fc (zA ft (zA fj (zA rc (zA rt (zA rj (zA lc (zA lt (zA lj (zA cc1 (zA cc2 (zA ct1 (zA ct2 (zA cj1 (zA cj2 (zA fo (zA ro (zA lo (zA co1 (zA co2 (zA hop (zA h0 h1)))))))))))))))))))))))
   refine zS ?_
   refine zR (zO (by simp [zC h61, zC h62, -Zc, startsV, if_neg, zWork, HH2]; rfl) ?_)
   simp only [zT, zB]
   refine zS ?_
   refine zR (zO (by simp [zC h61, zC h62, -Zc, startsV, if_neg, zWork, HH2]; rfl) ?_)
   simp only [zT, zB]
   refine zS ?_
   refine zS ?_
   refine zR (zO (by simp [zC h61, zC h62, -Zc, startsV, if_neg, zWork, HH2]; rfl) ?_)
   simp only [zT, zB]
   refine Zh (x := true) (by simp [h0]) ?_
   refine zS ?_
   refine zR (zO (by simp [zC h61, zC h62, -Zc, startsV, if_neg, zWork, HH2]; rfl) ?_)
   simp only [zT, zB]
   refine Zj ?_
   simp [zC h61, zC h62, -Zc, startsV, if_neg, zWork, HH2, trim]
  ·have HH3 := zA h61 (zA h62 (zA fc (zA ft (zA fj (zA rc (zA rt (zA rj (zA lc (zA lt (zA lj (zA cc1 (zA cc2 (zA ct1 (zA ct2 (zA cj1 (zA cj2 (zA fo (zA ro (zA lo (zA co1 (zA co2 (zA hop (zA h0 h1)))))))))))))))))))))))
   refine zS ?_
   refine zR (zO (by simp [zC h61, zC h62, -Zc, startsV, if_neg, zWork, HH3]; rfl) ?_)
   simp only [zT, zB]
   refine zS ?_
   refine zR (zO (by simp [zC h61, zC h62, -Zc, startsV, if_neg, zWork, HH3]; rfl) ?_)
   simp only [zT, zB]
   refine zS ?_
   refine zS ?_
   refine zR (zO (by simp [zC h61, zC h62, -Zc, startsV, if_neg, zWork, HH3]; rfl) ?_)
   simp only [zT, zB]
   refine Zh (x := true) (by simp [h0]) ?_
   refine zS ?_
   refine zR (zO (by simp [zC h61, zC h62, -Zc, startsV, if_neg, zWork, HH3]; rfl) ?_)
   simp only [zT, zB]
   refine Zj ?_
   simp [zC h61, zC h62, -Zc, startsV, if_neg, zWork, HH3, trim]
theorem a19 (P : Program) (T : Nat → Option CFn) (hT : T 19 = some c19) (h61 : T 61 = some { c61 with frsh := false, orc := oOO }) (h62 : T 62 = some { c62 with frsh := false, orc := oRun }) (h63 : T 63 = some { c63 with frsh := true, orc := oPlus }) (h64 : T 64 = some { c64 with body := annK [(7188, [.slot 4])] [] c64.body, frsh := true, orc := oLate }) (s : FShop) (js : List FJob) (c t j : Za) (hc : ZI c = some s.chg) (ht : Yg t = some s.stops) (hj : Xj j = some js) (o : Za) (os : List Int) (ho : Yd o = some os) (hz : SizeOk s js ∧ os.length ≤ 100) : ZH P T 19 [.agg [I s.mach, c, t], j, o] [] fun v h => frz true h 5 v = some (.tup [I (lateT s js os).1, I (lateT s js os).2.1, I (lateT s js os).2.2, I (ordE s js os)]) := by
 have fc := fun H d => Xo hc H d
 have ft := fun H d => dStops_frz ht H d
 have fj := fun H d => dJobs_frz hj H d
 have rc := fun n d => Xi hc n d
 have rt := fun n d => dStops_rb ht n d
 have rj := fun n d => dJobs_rb hj n d
 have lc := Xn hc
 have lt := dStops_len ht
 have lj := dJobs_len hj
 obtain ⟨cc1, cc2⟩ := ZZ hc
 obtain ⟨ct1, ct2⟩ := YK ht
 obtain ⟨cj1, cj2⟩ := dJobs_cells hj
 have fo := fun H d => ZG ho H d
 have ro := fun n d => Yc ho n d
 have lo := Yz ho
 obtain ⟨co1, co2⟩ := Zp ho
 obtain ⟨hz1, hz2⟩ := hz
 have hop := oo_eq hc ht hj ho hz1 hz2
 rw [ordE_eq] at hop
 refine Zs hT (Zu rfl) ?_
 simp only [oo, om, op, og, ci, cl, c19]
 by_cases h0 : ordE s js os = 0
 ·have hT : lateT s js os = (((Xs (runF s js os).ends js js.length).length : Int), (latF (runF s js os).ends js js.length).1, (latF (runF s js os).ends js js.length).2) := by unfold lateT; rw [if_pos h0]
  rw [hT]
  have h1 := ordE_ne h0
  have hg := ordE_run h0
  have hrun := run_eq hc ht hj ho hg
  have hlt := late_eq hc ht hj ho hg
  have hsh := hg.1
  have hro := runF_ok hsh hg.2.len hg.2.at'
  have hn6 : js.length ≤ 6 := hsh.njob
  generalize runF s js os = R at *
  have hre := hro.elen
  have hll := lateL_len R.ends js js.length
  have fz1 : ∀ H d, Zd (Zd (frz false H (d + 1))) (R.starts.map encS) = some (R.starts.map encS) := fun H d => frz_encS H d _
  have hbd := fun k (h2 : k ≤ js.length) => latF_bd (fun e he => by have := hro.en e he; omega) (fun j hj => (hsh.job j hj).2.2.1.1) k (by omega) h2
  have hsv := dInts_encV (Xs R.ends js js.length)
  generalize encV (Xs R.ends js js.length) = sv at *
  have fs := fun H d => ZG hsv H d
  have ls := Yz hsv
  have HH1 := zA h61 (zA h62 (zA h63 (zA h64 (zA fc (zA ft (zA fj (zA rc (zA rt (zA rj (zA lc (zA lt (zA lj (zA cc1 (zA cc2 (zA ct1 (zA ct2 (zA cj1 (zA cj2 (zA fo (zA ro (zA lo (zA co1 (zA co2 (zA hop (zA h0 (zA h1 (zA hrun (zA hre (zA fz1 (zA hlt (zA fs ls)))))))))))))))))))))))))))))))
  refine zS ?_
  refine zR (zO (by simp [zC h61, zC h62, zC h63, zC h64, -Zc, Zm, HH1]; rfl) ?_)
  simp only [zT, zB]
  refine zS ?_
  refine zR (zO (by simp [zC h61, zC h62, zC h63, zC h64, -Zc, Zm, HH1]; rfl) ?_)
  simp only [zT, zB]
  refine zS ?_
  refine zS ?_
  refine zR (zO (by simp [zC h61, zC h62, zC h63, zC h64, -Zc, Zm, HH1]; rfl) ?_)
  simp only [zT, zB]
  refine Zh (x := false) (by simp) ?_
  refine zK ?_
  simp only [zT, zB]
  refine zS ?_
  refine zR (zO (by simp [zC h61, zC h62, zC h63, zC h64, -Zc, Zm, HH1]; rfl) ?_)
  simp only [zT, zB]
  refine zS ?_
  refine zS ?_
  refine zR (zO (by simp [zC h61, zC h62, zC h63, zC h64, -Zc, Zm, HH1]; rfl) ?_)
  simp only [zT, zB]
  refine zL ?_
  refine YI (fun m σ => ∃ (k : Nat) (i : Int), i = k ∧ js.length - k = m ∧ k ≤ js.length ∧ σ = ⟨[.any, j, o, .any, .any, .any, .any, .any, .any, .any, .ref 1 0 0, .ref 2 0 0, .any, .any, .any, .any, .any, .any, .any, .any, .any, .any, .any, .any, .any, .any, .any, .vl (R.ends.map rI) true, I js.length, I i, .any, .any, .any, .any, .any, .any, .any, .any, .any, .any, .any, .any, .any, .any, .any, .any, .any, .any, .any, .any], [some (.row 3 [[I s.mach, c, t]]), some (.row 4 [[I s.mach, c, t, j]]), some (.row 2 [[I (latF R.ends js k).1, I (latF R.ends js k).2]])]⟩) ?_ (js.length - 0) _ ⟨0, 0, rfl, rfl, Nat.zero_le _, by simp [hre, latF]⟩
  rintro m σ ⟨k, i, hik, rfl, hkl, rfl⟩
  refine zS ?_
  refine zR (zO (by simp [zC h61, zC h62, zC h63, zC h64, -Zc, Zm, HH1]; rfl) ?_)
  simp only [zT, zB]
  refine zS ?_
  refine Zg (x := decide (i < (js.length : Int))) (by simp) (fun hlt2 => ?_) (fun hlt2 => ?_)
  ·have hlt2 := of_decide_eq_true hlt2
   have hk0 : k < js.length := by omega
   have hkE : k < R.ends.length := by omega
   have hi0 : 0 ≤ i := by omega
   have htn : i.toNat = k := by omega
   have hwi : W .i64 (i + 1) = i + 1 := ZR (by omega)
   obtain ⟨rs, tj, wv, rfl, hr1, hr2, hwv⟩ := dJobs_get hj hk0
   have hkr : k < rs.length := by omega
   have hr4 : ∀ h, rs[k]'h = [I js[k].kind, I js[k].ready, I js[k].due, wv] := fun h => by rw [List.getElem?_eq_getElem h] at hr2; exact Option.some.inj hr2
   have rw5 := fun n d => Yc hwv n d
   have fw5 := fun H d => ZG hwv H d
   obtain ⟨cw1, cw2⟩ := Zp hwv
   have hjb := hsh.job _ (List.getElem_mem hk0)
   have hbk := hbd k (by omega)
   have hek := hro.en _ (List.getElem_mem hkE)
   have hpl : oPlus [.agg [I (latF R.ends js k).1, I (latF R.ends js k).2], .agg [I js[k].kind, I js[k].ready, I js[k].due, wv], I R.ends[k]] = some (.agg [I (latF R.ends js (k + 1)).1, I (latF R.ends js (k + 1)).2]) := by
    simp only [oPlus, hwv]
    rw [if_pos ⟨⟨by omega, by omega⟩, ⟨by omega, by omega⟩, ⟨by omega, by omega⟩⟩]
    have hdu : dueAt js k = js[k].due := by unfold dueAt; rw [List.getD_eq_getElem?_getD, List.getElem?_eq_getElem hk0]; rfl
    have hen : endAt R.ends k = R.ends[k] := by unfold endAt; rw [List.getD_eq_getElem?_getD, List.getElem?_eq_getElem hkE]; rfl
    simp only [latF, hdu, hen]
   have HH2 := zA hi0 (zA htn (zA hk0 (zA hkE (zA hwi (zA hpl (zA hkr (zA hr2 (zA hr4 (zA rw5 (zA fw5 (zA cw1 cw2)))))))))))
   refine zK ?_
   simp only [zT, zB]
   refine zS ?_
   refine zL ?_
   refine zS ?_
   refine zR (zO (by simp [zC h61, zC h62, zC h63, zC h64, -Zc, Zm, HH1, zI, HH2]; rfl) ?_)
   simp only [zT, zB]
   refine Ye (by simp (maxSteps := 3000000) [zC h61, zC h62, zC h63, zC h64, -Zc, Zm, HH1, zI, HH2]; rfl) ?_
   simp only [zT, zB]
   refine zR (zO (by simp [zC h61, zC h62, zC h63, zC h64, -Zc, Zm, HH1, zI, HH2]; rfl) ?_)
   simp only [zT, zB]
   exact ⟨js.length - (k + 1), by omega, k + 1, i + 1, by omega, rfl, by omega, by simp [trim, zC h61, zC h62, zC h63, zC h64, -Zc, Zm, HH1, zI, HH2]⟩
  ·have hlt2 := of_decide_eq_false hlt2
   obtain rfl : k = js.length := by omega
   refine ZL ?_
   simp only [zT, zB, if_true, if_false, reduceIte, Nat.reduceEqDiff, Nat.succ_ne_zero, Nat.one_ne_zero, Nat.zero_ne_one]
   refine zS ?_
   refine Ye (by simp (maxSteps := 3000000) [zC h61, zC h62, zC h63, zC h64, -Zc, Zm, HH1]; rfl) ?_
   simp only [zT, zB]
   refine Zj ?_
   simp [zC h61, zC h62, zC h63, zC h64, -Zc, Zm, HH1, trim]
 ·by_cases h1 : shopE s js = 0
  ·have HH3 := zA h61 (zA h62 (zA h63 (zA h64 (zA fc (zA ft (zA fj (zA rc (zA rt (zA rj (zA lc (zA lt (zA lj (zA cc1 (zA cc2 (zA ct1 (zA ct2 (zA cj1 (zA cj2 (zA fo (zA ro (zA lo (zA co1 (zA co2 (zA hop (zA h0 h1)))))))))))))))))))))))))
   refine zS ?_
   refine zR (zO (by simp [zC h61, zC h62, zC h63, zC h64, -Zc, lateT, zWork, HH3]; rfl) ?_)
   simp only [zT, zB]
   refine zS ?_
   refine zR (zO (by simp [zC h61, zC h62, zC h63, zC h64, -Zc, lateT, zWork, HH3]; rfl) ?_)
   simp only [zT, zB]
   refine zS ?_
   refine zS ?_
   refine zR (zO (by simp [zC h61, zC h62, zC h63, zC h64, -Zc, lateT, zWork, HH3]; rfl) ?_)
   simp only [zT, zB]
   refine Zh (x := true) (by simp [h0]) ?_
   refine zS ?_
   refine zR (zO (by simp [zC h61, zC h62, zC h63, zC h64, -Zc, lateT, zWork, HH3]; rfl) ?_)
   simp only [zT, zB]
   refine Zj ?_
   simp [zC h61, zC h62, zC h63, zC h64, -Zc, lateT, zWork, HH3, trim]
  ·have HH4 := zA h61 (zA h62 (zA h63 (zA h64 (zA fc (zA ft (zA fj (zA rc (zA rt (zA rj (zA lc (zA lt (zA lj (zA cc1 (zA cc2 (zA ct1 (zA ct2 (zA cj1 (zA cj2 (zA fo (zA ro (zA lo (zA co1 (zA co2 (zA hop (zA h0 h1)))))))))))))))))))))))))
   refine zS ?_
   refine zR (zO (by simp [zC h61, zC h62, zC h63, zC h64, -Zc, lateT, zWork, HH4]; rfl) ?_)
   simp only [zT, zB]
   refine zS ?_
   refine zR (zO (by simp [zC h61, zC h62, zC h63, zC h64, -Zc, lateT, zWork, HH4]; rfl) ?_)
   simp only [zT, zB]
   refine zS ?_
   refine zS ?_
   refine zR (zO (by simp [zC h61, zC h62, zC h63, zC h64, -Zc, lateT, zWork, HH4]; rfl) ?_)
   simp only [zT, zB]
   refine Zh (x := true) (by simp [h0]) ?_
   refine zS ?_
   refine zR (zO (by simp [zC h61, zC h62, zC h63, zC h64, -Zc, lateT, zWork, HH4]; rfl) ?_)
   simp only [zT, zB]
   refine Zj ?_
   simp [zC h61, zC h62, zC h63, zC h64, -Zc, lateT, zWork, HH4, trim]
def FL1_43 : Nat → Option CFn := upd FJ 43 false (oStarts)
theorem FL1_43_ok : Zr Tryz.prog GG FL1_43 := Xm mixed FJ_ok fun args v ho => by
  unfold oStarts at ho; split at ho <;> (try simp only [reduceCtorEq] at ho)
  rename_i m c t j o
  split at ho <;> (try simp only [reduceCtorEq] at ho)
  rename_i cs ts js os hc ht hj ho2
  split at ho <;> (try simp only [reduceCtorEq] at ho)
  rename_i hz
  simp only [Option.some.injEq] at ho
  subst ho
  exact a43 Tryz.prog FJ rfl rfl rfl ⟨m, cs, ts⟩ js c t j hc ht hj o os ho2 ⟨size_ok.1 hz.1, hz.2⟩
def FL1 : Nat → Option CFn := upd FL1_43 19 true (oLateT)
theorem FL1_ok : Zr Tryz.prog GG FL1 := Xm mixed FL1_43_ok fun args v ho => by
  unfold oLateT at ho; split at ho <;> (try simp only [reduceCtorEq] at ho)
  rename_i m c t j o
  split at ho <;> (try simp only [reduceCtorEq] at ho)
  rename_i cs ts js os hc ht hj ho2
  split at ho <;> (try simp only [reduceCtorEq] at ho)
  rename_i hz
  simp only [Option.some.injEq] at ho
  subst ho
  exact a19 Tryz.prog FL1_43 rfl rfl rfl rfl rfl ⟨m, cs, ts⟩ js c t j hc ht hj o os ho2 ⟨size_ok.1 hz.1, hz.2⟩
end
section
attribute [local simp] ZV ZD Xp YN actD clash disj Xq holes Xr ZY Xu news eqB allB eqA Xf wrote toCs ofCs stA Yq ZE Yl dI1 dI2 dI3 dI5 elt
attribute [local simp] XH XD XI XE YS XG YP XF st_pv YO st_sl st_vl YQ st_mp st_fn YR XC co_any co_und co_agg co_tup Xe co_int Xb co_ref co_pv Xa co_sl co_vl Xc co_mp co_fn Xd XZ
attribute [local simp] callA ZQ lop loud XR rbB_row
def FM : Nat → Option CFn := FL1
theorem FM_ok : Zr Tryz.prog GG FM := FL1_ok
end
section
attribute [local simp] ZV ZD Xp YN actD clash disj Xq holes Xr ZY Xu news eqB allB eqA Xf wrote toCs ofCs stA Yq ZE Yl dI1 dI2 dI3 dI5 elt
attribute [local simp] XH XD XI XE YS XG YP XF st_pv YO st_sl st_vl YQ st_mp st_fn YR XC co_any co_und co_agg co_tup Xe co_int Xb co_ref co_pv Xa co_sl co_vl Xc co_mp co_fn Xd XZ
attribute [local simp] Function.comp_def List.all_append List.all_map above callA ZQ frNB_none frNB_row frN_agg frN_bool frN_int frN_nils frN_ref frN_sl frN_tup frN_vl frzG gather getR lim lop loud lowA lowR norm okG putG putR XR rbB_row resG rowAt takeG
def encE (xs : List Int) : Za := match xs with | [] => .vl [] true | x :: l => .vl ((x :: l).map rI) false
theorem encE_ne {xs : List Int} (h : xs ≠ []) : encE xs = .vl (xs.map rI) false := by cases xs with | nil => exact absurd rfl h | cons x l => rfl
theorem dInts_encE (xs : List Int) : Yd (encE xs) = some xs := by
  cases xs with
  | nil => rfl
  | cons x l => exact dInts_vl (x :: l) false
def oInts : List Za → Option Za
  | [x] => match Yd x with
    | some xs => if xs.length ≤ 1000 then some (encE xs) else none
    | none => none
  | _ => none
theorem ints_eq {x : Za} {xs : List Int} (hx : Yd x = some xs) (hl : xs.length ≤ 1000) : oInts [x] = some (encE xs) := by
  simp only [oInts, hx]; rw [if_pos hl]
theorem optAll_snoc {α : Type} {f : α → Option α} {l : List α} (h : ∀ x ∈ l, f x = some x) (a : α) : Zd f (l ++ [a]) = match f a with | some b => some (l ++ [b]) | none => none := by
  induction l with
  | nil => simp only [List.nil_append, Zd]; cases f a <;> rfl
  | cons x l ih =>
    have := ih fun y hy => h y (by simp [hy])
    simp only [List.cons_append, Zd, h x (by simp), this]
    cases f a <;> rfl
theorem a18 (P : Program) (T : Nat → Option CFn) (hT : T 18 = some c18) (x : Za) (xs : List Int) (hx : Yd x = some xs) (hl : xs.length ≤ 1000) : ZH P T 18 [x] [] fun v h => frz true h 5 v = some (encE xs) := by
 have fx := fun H d => ZG hx H d
 have rx := fun n d => Yc hx n d
 have lx := Yz hx
 obtain ⟨cx1, cx2⟩ := Zp hx
 refine Zs hT (Zu rfl) ?_
 simp only [oo, om, op, og, ci, cl, c18]
 rcases xs with _ | ⟨a, l⟩
 ·rcases dInts_cases hx with ⟨rfl, _⟩ | ⟨tt, rfl⟩
  ·have HH1 := zA fx (zA rx (zA lx (zA cx1 cx2)))
   refine zS ?_
   refine zR (zO (by simp [-Zc, HH1]; rfl) ?_)
   simp only [zT, zB]
   refine zS ?_
   refine zR (zO (by simp [-Zc, HH1]; rfl) ?_)
   simp only [zT, zB]
   refine Zj ?_
   simp [-Zc, HH1, encE, trim]
  ·have HH2 := zA fx (zA rx (zA lx (zA cx1 cx2)))
   refine zS ?_
   refine zR (zO (by simp [-Zc, HH2]; rfl) ?_)
   simp only [zT, zB]
   refine zS ?_
   refine zR (zO (by simp [-Zc, HH2]; rfl) ?_)
   simp only [zT, zB]
   refine Zj ?_
   simp [-Zc, HH2, encE, trim]
 ·obtain ⟨tt, rfl⟩ := Xh hx (k := 0) (by simp)
  have hll : l.length + 1 ≤ 1048576 := by simp at hl; omega
  have hr1 : ((l.map rI).all fun r => r.length == 1) = true := by simp [rI]
  have hst : ((l.map rI).all fun r => r.all Zq) = true := by simp [rI]
  have tk : (l.map rI).take l.length = l.map rI := List.take_of_length_le (by simp)
  have HH3 := zA fx (zA rx (zA lx (zA cx1 (zA cx2 (zA hll tk)))))
  refine zS ?_
  refine zR (zO (by simp [-Zc, ↓hr1, ↓hst, Zm, zI, HH3]; rfl) ?_)
  simp only [zT, zB]
  refine zS ?_
  refine zR (zO (by simp [-Zc, ↓hr1, ↓hst, Zm, zI, HH3]; rfl) ?_)
  simp only [zT, zB]
  refine Zj ?_
  simp [-Zc, ↓hr1, ↓hst, Zm, zI, HH3, encE, trim]
def FN1 : Nat → Option CFn := upd FM 18 true (oInts)
theorem FN1_ok : Zr Tryz.prog GG FN1 := Xm mixed FM_ok fun args v ho => by
  unfold oInts at ho; split at ho <;> (try simp only [reduceCtorEq] at ho)
  rename_i x
  split at ho <;> (try simp only [reduceCtorEq] at ho)
  rename_i xs hx
  split at ho <;> (try simp only [reduceCtorEq] at ho)
  rename_i hg
  simp only [Option.some.injEq] at ho
  subst ho
  exact a18 Tryz.prog FM rfl x xs hx hg
def FN2 : Nat → Option CFn := FN1
theorem FN2_ok : Zr Tryz.prog GG FN2 := FN1_ok
def Yf (j : FJob) : List Za := [I j.kind, I j.ready, I j.due, encE j.mins]
theorem dJob_rowJ (j : FJob) : dJob (Yf j) = some j := by
  simp only [dJob, Yf, dInts_encE]
def encJ (js : List FJob) : Za := match js with | [] => .vl [] true | x :: l => .vl ((x :: l).map Yf) false
theorem encJ_ne {js : List FJob} (h : js ≠ []) : encJ js = .vl (js.map Yf) false := by cases js with | nil => exact absurd rfl h | cons x l => rfl
theorem dJobs_encJ (js : List FJob) : Xj (encJ js) = some js := by
  cases js with
  | nil => rfl
  | cons x l =>
    simp only [encJ, Xj, Yi]
    exact optAll_map (d := dJob) (enc := Yf) dJob_rowJ (x :: l)
theorem frN_rowJ (n : Nat) (h : Zf) (js : List FJob) : ∀ r ∈ js.map Yf, Zd (frN n h 5) r = some r := fun r hr => by
  obtain ⟨j, _, rfl⟩ := List.mem_map.1 hr
  refine Zz _ fun x hx => ?_
  simp only [Yf, List.mem_cons, List.not_mem_nil, or_false] at hx
  rcases hx with rfl | rfl | rfl | rfl
  · rfl
  · rfl
  · rfl
  · cases j.mins <;> rfl
theorem frz_rowJ (H : Zf) (d : Nat) (js : List FJob) : Zd (Zd (frz false H (d + 1))) (js.map Yf) = some (js.map Yf) := Zz _ fun r hr => Zz _ fun x hx => by
  obtain ⟨j, _, rfl⟩ := List.mem_map.1 hr
  simp only [Yf, List.mem_cons, List.not_mem_nil, or_false] at hx
  rcases hx with rfl | rfl | rfl | rfl
  · rfl
  · rfl
  · rfl
  · cases j.mins <;> rfl
theorem rowJ_rb (n d : Nat) (js : List FJob) : ((js.map Yf).all fun r => r.all (rb n (d + 1))) = true := by
  simp only [List.all_eq_true]
  intro r hr z hz
  obtain ⟨j, _, rfl⟩ := List.mem_map.1 hr
  simp only [Yf, List.mem_cons, List.not_mem_nil, or_false] at hz
  rcases hz with rfl | rfl | rfl | rfl
  · rfl
  · rfl
  · rfl
  · cases j.mins <;> rfl
end
section
attribute [local simp] ZV ZD Xp YN actD clash disj Xq holes Xr ZY Xu news eqB allB eqA Xf wrote toCs ofCs stA Yq ZE Yl dI1 dI2 dI3 dI5 elt
attribute [local simp] XH XD XI XE YS XG YP XF st_pv YO st_sl st_vl YQ st_mp st_fn YR XC co_any co_und co_agg co_tup Xe co_int Xb co_ref co_pv Xa co_sl co_vl Xc co_mp co_fn Xd XZ
attribute [local simp] Function.comp_def List.all_append List.all_map above callA ZQ frNB_none frNB_row frN_agg frN_bool frN_int frN_nils frN_ref frN_sl frN_tup frN_vl frzG gather getR lim lop loud lowA lowR norm okG putG putR XR rbB_row resG rowAt takeG
def FO1_60 : Nat → Option CFn := FN2
theorem FO1_60_ok : Zr Tryz.prog GG FO1_60 := FN2_ok
def FO1 : Nat → Option CFn := FO1_60
theorem FO1_ok : Zr Tryz.prog GG FO1 := FO1_60_ok
def FO2 : Nat → Option CFn := FO1
theorem FO2_ok : Zr Tryz.prog GG FO2 := FO1_ok
def rowC (l : List Int) : List Za := [encE l]
def encC (cs : List (List Int)) : Za := match cs with | [] => .nils | x :: l => .vl ((x :: l).map rowC) false
theorem encC_ne {cs : List (List Int)} (h : cs ≠ []) : encC cs = .vl (cs.map rowC) false := by cases cs with | nil => exact absurd rfl h | cons x l => rfl
theorem dInts2_encC (cs : List (List Int)) : ZI (encC cs) = some cs := by
  cases cs with
  | nil => rfl
  | cons x l =>
    simp only [encC, ZI, Yi]
    exact optAll_map (d := dRow1) (enc := rowC) (fun l => dInts_encE l) (x :: l)
theorem frN_rowC (n : Nat) (h : Zf) (cs : List (List Int)) : ∀ r ∈ cs.map rowC, Zd (frN n h 5) r = some r := fun r hr => by
  obtain ⟨j, _, rfl⟩ := List.mem_map.1 hr
  refine Zz _ fun x hx => ?_
  simp only [rowC, List.mem_cons, List.not_mem_nil, or_false] at hx
  subst hx
  cases j <;> rfl
theorem frz_rowC (H : Zf) (d : Nat) (cs : List (List Int)) : Zd (Zd (frz false H (d + 1))) (cs.map rowC) = some (cs.map rowC) := Zz _ fun r hr => Zz _ fun x hx => by
  obtain ⟨j, _, rfl⟩ := List.mem_map.1 hr
  simp only [rowC, List.mem_cons, List.not_mem_nil, or_false] at hx
  subst hx
  cases j <;> rfl
theorem rowC_rb (n d : Nat) (cs : List (List Int)) : ((cs.map rowC).all fun r => r.all (rb n (d + 1))) = true := by
  simp only [List.all_eq_true]
  intro r hr z hz
  obtain ⟨j, _, rfl⟩ := List.mem_map.1 hr
  simp only [rowC, List.mem_cons, List.not_mem_nil, or_false] at hz
  subst hz
  cases j <;> rfl
theorem frz_mapT (nv : Bool) (H : Zf) (d : Nat) (ts : List YH) : Zd (Zd (frz nv H (d + 1))) (ts.map rS3) = some (ts.map rS3) := Zz _ fun r hr => Zz _ fun x hx => by
  obtain ⟨j, _, rfl⟩ := List.mem_map.1 hr
  simp only [rS3, List.mem_cons, List.not_mem_nil, or_false] at hx
  rcases hx with rfl | rfl | rfl <;> rfl
theorem rS3_rb (n d : Nat) (ts : List YH) : ((ts.map rS3).all fun r => r.all (rb n (d + 1))) = true := by
  simp only [List.all_eq_true]
  intro r hr z hz
  obtain ⟨j, _, rfl⟩ := List.mem_map.1 hr
  simp only [rS3, List.mem_cons, List.not_mem_nil, or_false] at hz
  rcases hz with rfl | rfl | rfl <;> rfl
theorem dStops_cases {v : Za} {xs : List YH} (h : Yg v = some xs) : (v = .nils ∧ xs = []) ∨ ∃ t, v = .vl (xs.map rS3) t := by
  rcases rowsV_cases (dStops_rows h) with ⟨h1, h2⟩ | h1
  · exact .inl ⟨h1, List.map_eq_nil_iff.1 h2⟩
  · exact .inr h1
end
section
attribute [local simp] ZV ZD Xp YN actD clash disj Xq holes Xr ZY Xu news eqB allB eqA Xf wrote toCs ofCs stA Yq ZE Yl dI1 dI2 dI3 dI5 elt
attribute [local simp] XH XD XI XE YS XG YP XF st_pv YO st_sl st_vl YQ st_mp st_fn YR XC co_any co_und co_agg co_tup Xe co_int Xb co_ref co_pv Xa co_sl co_vl Xc co_mp co_fn Xd XZ
attribute [local simp] Function.comp_def List.all_map callA ZQ frzG gather getR lim lop loud lowA lowR okG putG putR XR rbB_row resG rowAt takeG
def FP1_59 : Nat → Option CFn := FO2
theorem FP1_59_ok : Zr Tryz.prog GG FP1_59 := FO2_ok
def FP1 : Nat → Option CFn := FP1_59
theorem FP1_ok : Zr Tryz.prog GG FP1 := FP1_59_ok
def FP2 : Nat → Option CFn := updG FP1 44 [(782, [.slot 8])] []
theorem FP2_ok : Zr Tryz.prog GG FP2 := tab_updG FP1_ok
structure StOk (s : FShop) (js : List FJob) (S : List (List Int)) : Prop where
  len : S.length = js.length
  row : ∀ l ∈ S, (l.length : Int) = s.mach ∧ ∀ x ∈ l, 0 ≤ x ∧ x ≤ 1000000
def stAt (S : List (List Int)) (i k : Nat) : Int := (S.getD i []).getD k 0
theorem stAt_eq {S : List (List Int)} {i k : Nat} (hi : i < S.length) (hk : k < S[i].length) : stAt S i k = S[i][k] := by
  unfold stAt
  rw [List.getD_eq_getElem?_getD, List.getD_eq_getElem?_getD, List.getElem?_eq_getElem hi, Option.getD_some, List.getElem?_eq_getElem hk]; rfl
def endsL (S : List (List Int)) (js : List FJob) (m : Nat) : Nat → List Int
  | 0 => []
  | k + 1 => endsL S js m k ++ [stAt S k (m - 1) + minAt (jobAt js k) (m - 1)]
theorem endsL_len (S : List (List Int)) (js : List FJob) (m : Nat) : ∀ k, (endsL S js m k).length = k
  | 0 => rfl
  | k + 1 => by simp [endsL, endsL_len S js m k]
theorem a44 (P : Program) (T : Nat → Option CFn) (hT : T 44 = some { c44 with body := annK [(782, [.slot 8])] [] c44.body }) (s : FShop) (js : List FJob) (c t j : Za) (hc : ZI c = some s.chg) (ht : Yg t = some s.stops) (hj : Xj j = some js) (S : List (List Int)) (sv : Za) (hs : ZI sv = some S) (hsh : ShopOk s js) (hS : StOk s js S) : ZH P T 44 [.agg [I s.mach, c, t], j, sv] [] fun v h => frz true h 5 v = some (.tup [encE (endsL S js s.mach.toNat js.length), .bool true]) := by
 have fc := fun H d => Xo hc H d
 have ft := fun H d => dStops_frz ht H d
 have fj := fun H d => dJobs_frz hj H d
 have rc := fun n d => Xi hc n d
 have rt := fun n d => dStops_rb ht n d
 have rj := fun n d => dJobs_rb hj n d
 have lc := Xn hc
 have lt := dStops_len ht
 have lj := dJobs_len hj
 obtain ⟨cc1, cc2⟩ := ZZ hc
 obtain ⟨ct1, ct2⟩ := YK ht
 obtain ⟨cj1, cj2⟩ := dJobs_cells hj
 have fs := fun H d => Xo hs H d
 have rs5 := fun n d => Xi hs n d
 have lsv := Xn hs
 obtain ⟨cs1, cs2⟩ := ZZ hs
 have hn6 : js.length ≤ 6 := hsh.njob
 have hm4 := hsh.mach
 have hsl := hS.len
 have hwm : W .i64 (s.mach - 1) = s.mach - 1 := ZR (by omega)
 have hm1 : 0 ≤ s.mach - 1 := by omega
 have hm1b : 1 ≤ s.mach := hm4.1
 have hmn : (s.mach - 1).toNat = s.mach.toNat - 1 := by omega
 refine Zs hT (Zu rfl) ?_
 simp only [oo, om, op, og, ci, cl, c44, annK, lkG, lkR, reduceIte, Nat.reduceEqDiff, reduceCtorEq, List.cons.injEq, and_true, and_false, false_and, true_and]
 have HH1 := zA fc (zA ft (zA fj (zA rc (zA rt (zA rj (zA lc (zA lt (zA lj (zA cc1 (zA cc2 (zA ct1 (zA ct2 (zA cj1 (zA cj2 (zA fs (zA rs5 (zA lsv (zA cs1 (zA cs2 (zA hsl (zA hwm (zA hm1 (zA hm1b hmn)))))))))))))))))))))))
 refine zS ?_
 refine zR (zO (by simp [-Zc, HH1]; rfl) ?_)
 simp only [zT, zB]
 refine zS ?_
 refine zS ?_
 refine zR (zO (by simp [-Zc, HH1]; rfl) ?_)
 simp only [zT, zB]
 refine Zh (x := false) (by simp [hsl]) ?_
 refine zK ?_
 simp only [zT, zB]
 refine zS ?_
 refine zR (zO (by simp [-Zc, HH1]; rfl) ?_)
 simp only [zT, zB]
 refine zS ?_
 refine zS ?_
 refine zR (zO (by simp [-Zc, HH1]; rfl) ?_)
 simp only [zT, zB]
 refine zL ?_
 refine XJ (fun mm σ => ∃ (k : Nat) (i : Int), i = k ∧ js.length - k = mm ∧ k ≤ js.length ∧ ((k = 0 ∧ σ = ⟨[.any, j, sv, .ref 0 0 0, .any, .any, .any, .any, .sl 2 0 0 true, I i, .any, .any, .any, .any, .any, .any, .any, .any, .any, .any, .any, .any, .any, .any, .any, .any, .any, .any, .any, .any, .any, .any, .any, .any, .any, .any, .any, .any, .any, .any, .any, .any, .any, .any, .any, .any, .any, .any, .any, .any, .any, .any, .any, .any, .any, .any, .any, .any, .any, .any, .any, .any, .any, .any, .any, .any, .any, .any, .any, .any, .any, .any, .any, .any, .any, .any, .any, .any, .any], [some (.row 3 [[I s.mach, c, t]]), none, some (.row 1 [])]⟩) ∨ (∃ (p : Nat) (ac : List Int), k = p + 1 ∧ ac = endsL S js s.mach.toNat k ∧ ac.length = p + 1 ∧ σ = ⟨[.any, j, sv, .ref 0 0 0, .any, .any, .any, .any, .sl 2 0 (p + 1) false, I i, .any, .any, .any, .any, .any, .any, .any, .any, .any, .any, .any, .any, .any, .any, .any, .any, .any, .any, .any, .any, .any, .any, .any, .any, .any, .any, .any, .any, .any, .any, .any, .any, .any, .any, .any, .any, .any, .any, .any, .any, .any, .any, .any, .any, .any, .any, .any, .any, .any, .any, .any, .any, .any, .any, .any, .any, .any, .any, .any, .any, .any, .any, .any, .any, .any, .any, .any, .any, .any], [some (.row 3 [[I s.mach, c, t]]), none, some (.row 1 (ac.map rI))]⟩))) (by simp [-Zc, HH1] <;> first | exact ⟨rfl, rfl⟩ | rfl) (⟨0, 0, rfl, rfl, Nat.zero_le _, .inl ⟨rfl, rfl⟩⟩) ?_
 rintro mm σ ⟨k, i, hik, rfl, hkl, ⟨hk0', rfl⟩ | ⟨p, ac, hkp, hac, hacl, rfl⟩⟩
 ·refine zS ?_
  refine zS ?_
  refine zR (zO (by simp [-Zc, HH1]; rfl) ?_)
  simp only [zT, zB]
  refine Zg (x := decide (i < (js.length : Int))) (by simp) (fun hlt => ?_) (fun hlt => ?_)
  ·have hlt2 := of_decide_eq_true hlt
   have hk0 : k < js.length := by omega
   have hks : k < S.length := by omega
   have hi0 : 0 ≤ i := by omega
   have htn : i.toNat = k := by omega
   have hwi : W .i64 (i + 1) = i + 1 := ZR (by omega)
   have hjb := hsh.job _ (List.getElem_mem hk0)
   have hrow := hS.row _ (List.getElem_mem hks)
   obtain ⟨jr, tj, wv, rfl, hr1, hr2, hwv⟩ := dJobs_get hj hk0
   have hkr : k < jr.length := by omega
   have hr4 : ∀ h, jr[k]'h = [I js[k].kind, I js[k].ready, I js[k].due, wv] := fun h => by rw [List.getElem?_eq_getElem h] at hr2; exact Option.some.inj hr2
   have rw5 := fun n d => Yc hwv n d
   have fw5 := fun H d => ZG hwv H d
   have lw5 := Yz hwv
   obtain ⟨cw1, cw2⟩ := Zp hwv
   obtain ⟨sr, tt, wt, rfl, hs1, hs2, hwt⟩ := dInts2_get hs hks
   have hksr : k < sr.length := by omega
   have hs4 : ∀ h, sr[k]'h = [wt] := fun h => by rw [List.getElem?_eq_getElem h] at hs2; exact Option.some.inj hs2
   have rt5 := fun n d => Yc hwt n d
   have ft5 := fun H d => ZG hwt H d
   have lt5 := Yz hwt
   obtain ⟨ctw1, ctw2⟩ := Zp hwt
   have hml : (js[k].mins.length : Int) = s.mach := hjb.2.2.2.1
   have hll : (S[k].length : Int) = s.mach := hrow.1
   have HH2 := zA hi0 (zA htn (zA hk0 (zA hks (zA hwi (zA hml (zA hll (zA hkr (zA hr2 (zA hr4 (zA rw5 (zA fw5 (zA lw5 (zA cw1 (zA cw2 (zA hksr (zA hs2 (zA hs4 (zA rt5 (zA ft5 (zA lt5 (zA ctw1 ctw2)))))))))))))))))))))
   refine zK ?_
   simp only [zT, zB]
   refine zS ?_
   refine zL ?_
   refine zS ?_
   refine zS ?_
   refine Ye (by simp (maxSteps := 3000000) [-Zc, HH1, zI, HH2]; rfl) ?_
   simp only [zT, zB]
   refine Zh (x := false) (by simp [hll]) ?_
   refine zK ?_
   simp only [zT, zB]
   refine zS ?_
   refine zS ?_
   refine zR (zO (by simp [-Zc, HH1, zI, HH2]; rfl) ?_)
   simp only [zT, zB]
   refine zL ?_
   refine YI (fun m2 σ => ∃ (z : Nat) (y : Int), y = z ∧ s.mach.toNat - z = m2 ∧ (z : Int) ≤ s.mach ∧ σ = ⟨[.any, .vl jr tj, .vl sr tt, .ref 0 0 0, .any, .any, .any, .any, .sl 2 0 0 true, I i, I y, .any, .any, .any, .any, .any, .any, .any, .any, .any, .any, .any, .any, .any, .any, .any, .any, .any, .any, .any, .any, .any, .any, .any, .any, .any, .any, .any, .any, .any, .any, .any, .any, .any, .any, .any, .any, .any, .any, .any, .any, .any, .any, .any, .any, .any, .any, .any, .any, .any, .any, .any, .any, .any, .any, .any, .any, .any, .any, .any, .any, .any, .any, .any, .any, .any, .any, .any, .any], [some (.row 3 [[I s.mach, c, t]]), none, some (.row 1 []), none, none, none, none, none, none, none, none]⟩) ?_ (s.mach.toNat - 0) _ ⟨0, 0, rfl, rfl, by omega, by simp⟩
   rintro m2 σ ⟨z, y, hyz, rfl, hzm, rfl⟩
   refine zS ?_
   refine zS ?_
   refine zR (zO (by simp [-Zc, HH1, zI, HH2]; rfl) ?_)
   simp only [zT, zB]
   refine Zg (x := decide (y < s.mach)) (by simp) (fun hlt3 => ?_) (fun hlt3 => ?_)
   ·have hlt4 := of_decide_eq_true hlt3
    have hz0 : z < S[k].length := by omega
    obtain ⟨tz, rfl⟩ := Xh hwt hz0
    have hzx := hrow.2 _ (List.getElem_mem hz0)
    have hy0 : 0 ≤ y := by omega
    have hyn : y.toNat = z := by omega
    have hylt : y < (S[k].length : Int) := by omega
    have hwy : W .i64 (y + 1) = y + 1 := ZR (by omega)
    generalize hX : S[k][z] = X at *
    have hb1 : decide (X < 0) = false := by simp; omega
    have hb2 : decide (1073741824 < X) = false := by simp; omega
    have HH3 := zA hz0 (zA hy0 (zA hyn (zA hylt (zA hwy (zA hX (zA hb1 hb2))))))
    refine zK ?_
    simp only [zT, zB]
    refine zS ?_
    refine zL ?_
    refine zS ?_
    refine zR (zO (by simp [-Zc, HH1, zI, HH2, HH3]; rfl) ?_)
    simp only [zT, zB]
    refine Zh (x := false) (by simp) ?_
    refine zK ?_
    simp only [zT, zB]
    refine zR (zO (by simp [-Zc, HH1, zI, HH2, HH3]; rfl) ?_)
    simp only [zT, zB]
    exact ⟨s.mach.toNat - (z + 1), by omega, z + 1, y + 1, by omega, rfl, by omega, by simp [trim, ↓rI_rb, -Zc, HH1, zI, HH2, HH3]⟩
   ·have hm0 : s.mach.toNat - 1 < S[k].length := by omega
    have hm0j : s.mach.toNat - 1 < js[k].mins.length := by omega
    obtain ⟨tz, rfl⟩ := Xh hwt hm0
    obtain ⟨tw, rfl⟩ := Xh hwv hm0j
    have hzx := hrow.2 _ (List.getElem_mem hm0)
    have hmx := hjb.2.2.2.2 _ (List.getElem_mem hm0j)
    have hst : endsL S js s.mach.toNat (k + 1) = endsL S js s.mach.toNat k ++ [S[k][s.mach.toNat - 1] + js[k].mins[s.mach.toNat - 1]] := by simp only [endsL, jobAt_eq hk0, minAt_eq hm0j, stAt_eq hks hm0]
    have hmlt : s.mach - 1 < (S[k].length : Int) := by omega
    have hmltj : s.mach - 1 < (js[k].mins.length : Int) := by omega
    have hmm : s.mach - 1 < s.mach := by omega
    generalize hX : S[k][s.mach.toNat - 1] = X at *
    generalize hY : js[k].mins[s.mach.toNat - 1] = Y at *
    have hwx : W .i64 (X + Y) = X + Y := ZX (by omega)
    have hst : endsL S js s.mach.toNat (k + 1) = [X + Y] := by rw [hst, hk0']; rfl
    have HH4 := zA hm0 (zA hm0j (zA hmlt (zA hmltj (zA hmm (zA hX (zA hY hwx))))))
    refine ZL ?_
    simp only [zT, zB, if_true, if_false, reduceIte, Nat.reduceEqDiff, Nat.succ_ne_zero, Nat.one_ne_zero, Nat.zero_ne_one]
    refine Ye (by simp (maxSteps := 3000000) [-Zc, HH1, zI, HH2, HH4]; rfl) ?_
    simp only [zT, zB]
    refine zR (zO (by simp [-Zc, HH1, zI, HH2, HH4]; rfl) ?_)
    simp only [zT, zB]
    exact ⟨js.length - (k + 1), _, _, by omega, by simp [-Zc, HH1, zI, HH2, HH4] <;> rfl, k + 1, i + 1, by omega, rfl, by omega, .inr ⟨0, [X + Y], by omega, hst.symm, rfl, rfl⟩⟩
  ·have hx1 := of_decide_eq_false hlt
   have hkE : k = js.length := by omega
   subst hkE
   have hE0 : js = [] := List.eq_nil_of_length_eq_zero (by omega)
   subst hE0
   refine ZL ?_
   simp only [zT, zB, if_true, if_false, reduceIte, Nat.reduceEqDiff, Nat.succ_ne_zero, Nat.one_ne_zero, Nat.zero_ne_one]
   refine zS ?_
   refine zR (zO (by simp [-Zc, HH1]; rfl) ?_)
   simp only [zT, zB]
   refine Zj ?_
   simp [-Zc, HH1, trim, encE, endsL]
 ·have tk : (ac.map rI).take (p + 1) = ac.map rI := List.take_of_length_le (by simp [hacl])
  have hlac : p + 1 + 1 ≤ 1048576 := by omega
  have hr3 : ∀ e : Int, (rI e).length = 1 := fun _ => rfl
  refine zS ?_
  refine zS ?_
  refine zR (zO (by simp [-Zc, HH1, tk, hlac, hacl, hr3]; rfl) ?_)
  simp only [zT, zB]
  refine Zg (x := decide (i < (js.length : Int))) (by simp) (fun hlt => ?_) (fun hlt => ?_)
  ·have hlt2 := of_decide_eq_true hlt
   have hk0 : k < js.length := by omega
   have hks : k < S.length := by omega
   have hi0 : 0 ≤ i := by omega
   have htn : i.toNat = k := by omega
   have hwi : W .i64 (i + 1) = i + 1 := ZR (by omega)
   have hjb := hsh.job _ (List.getElem_mem hk0)
   have hrow := hS.row _ (List.getElem_mem hks)
   obtain ⟨jr, tj, wv, rfl, hr1, hr2, hwv⟩ := dJobs_get hj hk0
   have hkr : k < jr.length := by omega
   have hr4 : ∀ h, jr[k]'h = [I js[k].kind, I js[k].ready, I js[k].due, wv] := fun h => by rw [List.getElem?_eq_getElem h] at hr2; exact Option.some.inj hr2
   have rw5 := fun n d => Yc hwv n d
   have fw5 := fun H d => ZG hwv H d
   have lw5 := Yz hwv
   obtain ⟨cw1, cw2⟩ := Zp hwv
   obtain ⟨sr, tt, wt, rfl, hs1, hs2, hwt⟩ := dInts2_get hs hks
   have hksr : k < sr.length := by omega
   have hs4 : ∀ h, sr[k]'h = [wt] := fun h => by rw [List.getElem?_eq_getElem h] at hs2; exact Option.some.inj hs2
   have rt5 := fun n d => Yc hwt n d
   have ft5 := fun H d => ZG hwt H d
   have lt5 := Yz hwt
   obtain ⟨ctw1, ctw2⟩ := Zp hwt
   have hml : (js[k].mins.length : Int) = s.mach := hjb.2.2.2.1
   have hll : (S[k].length : Int) = s.mach := hrow.1
   have HH5 := zA tk (zA hlac (zA hacl (zA hr3 (zA hi0 (zA htn (zA hk0 (zA hks (zA hwi (zA hml (zA hll (zA hkr (zA hr2 (zA hr4 (zA rw5 (zA fw5 (zA lw5 (zA cw1 (zA cw2 (zA hksr (zA hs2 (zA hs4 (zA rt5 (zA ft5 (zA lt5 (zA ctw1 ctw2)))))))))))))))))))))))))
   refine zK ?_
   simp only [zT, zB]
   refine zS ?_
   refine zL ?_
   refine zS ?_
   refine zS ?_
   refine Ye (by simp (maxSteps := 3000000) [-Zc, HH1, zI, HH5]; rfl) ?_
   simp only [zT, zB]
   refine Zh (x := false) (by simp [hll]) ?_
   refine zK ?_
   simp only [zT, zB]
   refine zS ?_
   refine zS ?_
   refine zR (zO (by simp [-Zc, HH1, zI, HH5]; rfl) ?_)
   simp only [zT, zB]
   refine zL ?_
   refine YI (fun m2 σ => ∃ (z : Nat) (y : Int), y = z ∧ s.mach.toNat - z = m2 ∧ (z : Int) ≤ s.mach ∧ σ = ⟨[.any, .vl jr tj, .vl sr tt, .ref 0 0 0, .any, .any, .any, .any, .sl 2 0 (p + 1) false, I i, I y, .any, .any, .any, .any, .any, .any, .any, .any, .any, .any, .any, .any, .any, .any, .any, .any, .any, .any, .any, .any, .any, .any, .any, .any, .any, .any, .any, .any, .any, .any, .any, .any, .any, .any, .any, .any, .any, .any, .any, .any, .any, .any, .any, .any, .any, .any, .any, .any, .any, .any, .any, .any, .any, .any, .any, .any, .any, .any, .any, .any, .any, .any, .any, .any, .any, .any, .any, .any], [some (.row 3 [[I s.mach, c, t]]), none, some (.row 1 (ac.map rI)), none, none, none, none, none, none, none, none]⟩) ?_ (s.mach.toNat - 0) _ ⟨0, 0, rfl, rfl, by omega, by simp⟩
   rintro m2 σ ⟨z, y, hyz, rfl, hzm, rfl⟩
   refine zS ?_
   refine zS ?_
   refine zR (zO (by simp [-Zc, HH1, zI, HH5]; rfl) ?_)
   simp only [zT, zB]
   refine Zg (x := decide (y < s.mach)) (by simp) (fun hlt3 => ?_) (fun hlt3 => ?_)
   ·have hlt4 := of_decide_eq_true hlt3
    have hz0 : z < S[k].length := by omega
    obtain ⟨tz, rfl⟩ := Xh hwt hz0
    have hzx := hrow.2 _ (List.getElem_mem hz0)
    have hy0 : 0 ≤ y := by omega
    have hyn : y.toNat = z := by omega
    have hylt : y < (S[k].length : Int) := by omega
    have hwy : W .i64 (y + 1) = y + 1 := ZR (by omega)
    generalize hX : S[k][z] = X at *
    have hb1 : decide (X < 0) = false := by simp; omega
    have hb2 : decide (1073741824 < X) = false := by simp; omega
    have HH6 := zA hz0 (zA hy0 (zA hyn (zA hylt (zA hwy (zA hX (zA hb1 hb2))))))
    refine zK ?_
    simp only [zT, zB]
    refine zS ?_
    refine zL ?_
    refine zS ?_
    refine zR (zO (by simp [-Zc, HH1, zI, HH5, HH6]; rfl) ?_)
    simp only [zT, zB]
    refine Zh (x := false) (by simp) ?_
    refine zK ?_
    simp only [zT, zB]
    refine zR (zO (by simp [-Zc, HH1, zI, HH5, HH6]; rfl) ?_)
    simp only [zT, zB]
    exact ⟨s.mach.toNat - (z + 1), by omega, z + 1, y + 1, by omega, rfl, by omega, by simp [trim, ↓rI_rb, -Zc, HH1, zI, HH5, HH6]⟩
   ·have hm0 : s.mach.toNat - 1 < S[k].length := by omega
    have hm0j : s.mach.toNat - 1 < js[k].mins.length := by omega
    obtain ⟨tz, rfl⟩ := Xh hwt hm0
    obtain ⟨tw, rfl⟩ := Xh hwv hm0j
    have hzx := hrow.2 _ (List.getElem_mem hm0)
    have hmx := hjb.2.2.2.2 _ (List.getElem_mem hm0j)
    have hst : endsL S js s.mach.toNat (k + 1) = endsL S js s.mach.toNat k ++ [S[k][s.mach.toNat - 1] + js[k].mins[s.mach.toNat - 1]] := by simp only [endsL, jobAt_eq hk0, minAt_eq hm0j, stAt_eq hks hm0]
    have hmlt : s.mach - 1 < (S[k].length : Int) := by omega
    have hmltj : s.mach - 1 < (js[k].mins.length : Int) := by omega
    have hmm : s.mach - 1 < s.mach := by omega
    generalize hX : S[k][s.mach.toNat - 1] = X at *
    generalize hY : js[k].mins[s.mach.toNat - 1] = Y at *
    have hwx : W .i64 (X + Y) = X + Y := ZX (by omega)
    rw [← hac] at hst
    have hap : ac.map rI ++ [[I (X + Y)]] = (ac ++ [X + Y]).map rI := by rw [List.map_append]; rfl
    have hnl : (ac ++ [X + Y]).length = p + 1 + 1 := by simp [hacl]
    generalize ac ++ [X + Y] = nx at *
    have HH7 := zA hm0 (zA hm0j (zA hmlt (zA hmltj (zA hmm (zA hX (zA hY (zA hwx hap)))))))
    refine ZL ?_
    simp only [zT, zB, if_true, if_false, reduceIte, Nat.reduceEqDiff, Nat.succ_ne_zero, Nat.one_ne_zero, Nat.zero_ne_one]
    refine Ye (by simp (maxSteps := 3000000) [-Zc, HH1, zI, HH5, HH7]; rfl) ?_
    simp only [zT, zB]
    refine zR (zO (by simp [-Zc, HH1, zI, HH5, HH7]; rfl) ?_)
    simp only [zT, zB]
    exact ⟨js.length - (k + 1), _, _, by omega, by simp [-Zc, HH1, zI, HH5, HH7] <;> rfl, k + 1, i + 1, by omega, rfl, by omega, .inr ⟨p + 1, nx, by omega, hst.symm, hnl, rfl⟩⟩
  ·have hx1 := of_decide_eq_false hlt
   have hkE : k = js.length := by omega
   subst hkE
   rw [← hac, encE_ne (by intro e; rw [e] at hacl; simp at hacl)]
   refine ZL ?_
   simp only [zT, zB, if_true, if_false, reduceIte, Nat.reduceEqDiff, Nat.succ_ne_zero, Nat.one_ne_zero, Nat.zero_ne_one]
   refine zS ?_
   refine zR (zO (by simp [-Zc, HH1, tk, hlac, hacl, hr3, Zm]; rfl) ?_)
   simp only [zT, zB]
   refine Zj ?_
   simp [-Zc, HH1, tk, hlac, hacl, hr3, Zm, trim]
end
end
end Go.Proofs.YtjjapdagllclkaaGreat.Tab
namespace Go.Proofs.YtjjapdagllclkaaGreat.Tab
open Go Go.Abs Go.Proofs
set_option maxRecDepth 100000
set_option maxHeartbeats 4000000
set_option linter.unusedSimpArgs false
set_option linter.unusedVariables false
section
attribute [local simp] YC Yt XV XW YZ YY XX YJ Xw Ys Zd orcF XO YX XQ XM YE Yr rb_vl rb_pv XK YW YV YU XP XL XN rb_sl rb_fn slE chunk fillA Ym ZK putAt List.range_succ List.range_zero List.range'_succ List.range'_zero ZU ZS ZF ZW ZB ZM stepX Yh dop CV.ev Yu Zv ZA Xt fI_eq YA Yy Zy Zw Out.v putT List.replicate_succ zT zB arI ZN Abs.rowAt ldRow allV toV toC ofV ofC Builtin.min_ Builtin.min2 Builtin.max_ Builtin.max2 XT XU resA tupA kill ZT Yo Yp Yn Zc
section
attribute [local simp] ZV ZD Xp YN actD clash disj Xq holes Xr ZY Xu news eqB allB eqA Xf wrote toCs ofCs stA Yq ZE Yl dI1 dI2 dI3 dI5 elt
attribute [local simp] XH XD XI XE YS XG YP XF st_pv YO st_sl st_vl YQ st_mp st_fn YR XC co_any co_und co_agg co_tup Xe co_int Xb co_ref co_pv Xa co_sl co_vl Xc co_mp co_fn Xd XZ
attribute [local simp] callA ZQ lop loud XR rbB_row
def oAtN (os : List Int) (n : Nat) : Nat := (os.getD n 0).toNat
theorem oAtN_eq {os : List Int} {n : Nat} (h : n < os.length) : oAtN os n = os[n].toNat := by unfold oAtN; rw [List.getD_eq_getElem?_getD, List.getElem?_eq_getElem h]; rfl
def jn (js : List FJob) (os : List Int) (n : Nat) : FJob := jobAt js (oAtN os n)
end
end
end Go.Proofs.YtjjapdagllclkaaGreat.Tab
namespace Go.Proofs.YtjjapdagllclkaaGreat.Tab
open Go Go.Abs Go.Proofs
noncomputable section
set_option linter.unusedSimpArgs false
set_option linter.unusedVariables false
structure RunCtx (s : FShop) (js : List FJob) (os : List Int) : Prop where
 ok : ShopOk s js
 ord : ordB os js.length = true
theorem RunCtx.len6 {s : FShop} {js : List FJob} {os : List Int} (h : RunCtx s js os) : os.length ≤ 6 := by
 rw [ord_len h.ord]; exact h.ok.njob
theorem RunCtx.mem {s : FShop} {js : List FJob} {os : List Int} (h : RunCtx s js os) : ∀ i ∈ os, 0 ≤ i ∧ i < js.length := fun _ hi => (ord_mem h.ord).1 hi
def stsF (s : FShop) (js : List FJob) (os : List Int) : List (List Int) := (runF s js os).starts
def endF (s : FShop) (js : List FJob) (os : List Int) : List Int := (runF s js os).ends
theorem jn_mem {s : FShop} {js : List FJob} {os : List Int} (h : RunCtx s js os) {a : Nat} (ha : a < os.length) : jn js os a ∈ js := jobO_mem h.ord ha
theorem jn_mach {s : FShop} {js : List FJob} {os : List Int} (h : RunCtx s js os) {a : Nat} (ha : a < os.length) : ((jn js os a).mins.length : Int) = s.mach := (h.ok.job _ (jn_mem h ha)).2.2.2.1
theorem row_at {s : FShop} {js : List FJob} {os : List Int} (h : RunCtx s js os) {a : Nat} (ha : a < os.length) :
  (stsF s js os)[oAtN os a]? = some (passF s (lineN s js os a) (jn js os a)).1 ∧ (endF s js os)[oAtN os a]? = some (passF s (lineN s js os a) (jn js os a)).2.1 := by
 have := run_at s js h.ord ha
 rw [oAtN_eq ha]
 exact this
theorem st_at {s : FShop} {js : List FJob} {os : List Int} (h : RunCtx s js os) {a : Nat} (ha : a < os.length) (k : Nat) : stAt (stsF s js os) (oAtN os a) k = nAt (passF s (lineN s js os a) (jn js os a)).1 k := by
 unfold stAt nAt
 rw [List.getD_eq_getElem?_getD (l := stsF s js os), (row_at h ha).1]; rfl
theorem endsL_get (S : List (List Int)) (js : List FJob) (m : Nat) : ∀ (n i : Nat), i < n → (endsL S js m n)[i]? = some (stAt S i (m - 1) + minAt (jobAt js i) (m - 1))
 | n + 1, i, hi => by
  simp only [endsL]
  by_cases e : i = n
  ·subst e
   rw [List.getElem?_append_right (by rw [endsL_len]; exact Nat.le_refl _), endsL_len, Nat.sub_self]; rfl
  ·rw [List.getElem?_append_left (by rw [endsL_len]; omega)]
   exact endsL_get S js m n i (by omega)
theorem endF_len {s : FShop} {js : List FJob} {os : List Int} (h : RunCtx s js os) : (endF s js os).length = js.length := (runF_ok h.ok h.len6 h.mem).elen
theorem stsF_len {s : FShop} {js : List FJob} {os : List Int} (h : RunCtx s js os) : (stsF s js os).length = js.length := (runF_ok h.ok h.len6 h.mem).slen
theorem ends_eq {s : FShop} {js : List FJob} {os : List Int} (h : RunCtx s js os) : endsL (stsF s js os) js s.mach.toNat js.length = endF s js os := by
 refine List.ext_getElem? fun i => ?_
 have hl := endF_len h
 by_cases hi : i < js.length
 ·rw [endsL_get _ _ _ _ _ hi]
  obtain ⟨a, ha, hai⟩ := ord_find h.ord hi
  have hoa : oAtN os a = i := by rw [oAtN_eq ha]; exact hai
  have hr := row_at h ha
  rw [hoa] at hr
  rw [hr.2]
  congr 1
  have hm := jn_mach h ha
  have hb := h.ok.mach
  have hne : (jn js os a).mins ≠ [] := by intro e; rw [e] at hm; simp at hm; omega
  have hp := passGo_end s (jn js os a).kind (jn js os a).mins 0 (jn js os a).ready (lineN s js os a) hne
  unfold passF
  rw [hp]
  have hs := st_at h ha (s.mach.toNat - 1)
  rw [hoa] at hs
  have hlen : (jn js os a).mins.length - 1 = s.mach.toNat - 1 := by omega
  rw [hs, hlen]
  have hj : jobAt js i = jn js os a := by unfold jn; rw [hoa]
  rw [hj]; rfl
 ·rw [List.getElem?_eq_none (by rw [endsL_len]; omega), List.getElem?_eq_none (by omega)]
theorem sts_ok {s : FShop} {js : List FJob} {os : List Int} (h : RunCtx s js os) : StOk s js (stsF s js os) := by
 have hr := runF_ok h.ok h.len6 h.mem
 refine ⟨stsF_len h, fun l hl => ⟨?_, fun x hx => by have := hr.st l hl x hx; omega⟩⟩
 obtain ⟨i, hi, e⟩ := List.mem_iff_getElem.1 hl
 have hi' : i < js.length := by rw [← stsF_len h]; exact hi
 obtain ⟨a, ha, hai⟩ := ord_find h.ord hi'
 have hoa : oAtN os a = i := by rw [oAtN_eq ha]; exact hai
 have hra := (row_at h ha).1
 rw [hoa, List.getElem?_eq_getElem hi, e] at hra
 cases hra
 unfold passF
 rw [passGo_len]
 exact jn_mach h ha
end
end Go.Proofs.YtjjapdagllclkaaGreat.Tab
namespace Go.Proofs.YtjjapdagllclkaaGreat.Tab
open Go Go.Abs Go.Proofs
set_option maxRecDepth 100000
set_option maxHeartbeats 4000000
set_option linter.unusedSimpArgs false
set_option linter.unusedVariables false
section
attribute [local simp] YC Yt XV XW YZ YY XX YJ Xw Ys Zd orcF XO YX XQ XM YE Yr rb_vl rb_pv XK YW YV YU XP XL XN rb_sl rb_fn slE chunk fillA Ym ZK putAt List.range_succ List.range_zero List.range'_succ List.range'_zero ZU ZS ZF ZW ZB ZM stepX Yh dop CV.ev Yu Zv ZA Xt fI_eq YA Yy Zy Zw Out.v putT List.replicate_succ zT zB arI ZN Abs.rowAt ldRow allV toV toC ofV ofC Builtin.min_ Builtin.min2 Builtin.max_ Builtin.max2 XT XU resA tupA kill ZT Yo Yp Yn Zc
section
attribute [local simp] ZV ZD Xp YN actD clash disj Xq holes Xr ZY Xu news eqB allB eqA Xf wrote toCs ofCs stA Yq ZE Yl dI1 dI2 dI3 dI5 elt
attribute [local simp] XH XD XI XE YS XG YP XF st_pv YO st_sl st_vl YQ st_mp st_fn YR XC co_any co_und co_agg co_tup Xe co_int Xb co_ref co_pv Xa co_sl co_vl Xc co_mp co_fn Xd XZ
attribute [local simp] Function.comp_def List.all_append List.all_map above callA ZQ frNB_none frNB_row frN_agg frN_bool frN_int frN_nils frN_ref frN_sl frN_tup frN_vl frzG gather getR lim lop loud lowA lowR norm okG putG putR XR rbB_row resG rowAt takeG
def rU (v : List Int) : List Za := v.map fun n => .int .u8 n
def dU1 : Za → Option Int
  | .int .u8 n => some n
  | _ => none
def dU (r : List Za) : Option (List Int) := Zd dU1 r
theorem dU_eq {r : List Za} {v : List Int} (h : dU r = some v) : r = rU v := by
  unfold dU at h
  induction r generalizing v with
  | nil => simp only [Zd, Option.some.injEq] at h; subst h; rfl
  | cons a r ih =>
    simp only [Zd] at h
    split at h <;> (try simp only [reduceCtorEq] at h)
    rename_i y ys h1 h2
    cases h
    unfold dU1 at h1
    split at h1 <;> simp at h1
    subst h1
    rw [ih h2]; rfl
theorem rU_len (v : List Int) : (rU v).length = v.length := by simp [rU]
theorem rU_get {v : List Int} {k : Nat} (h : k < v.length) : (rU v)[k]? = some (.int .u8 (v.getD k 0)) := by
  unfold rU; rw [List.getElem?_map, List.getD_eq_getElem?_getD, List.getElem?_eq_getElem h]; rfl
theorem rU_stor (v : List Int) : (rU v).all Zq = true := by
  simp only [List.all_eq_true]
  intro z hz
  obtain ⟨a, _, rfl⟩ := List.mem_map.1 hz
  rfl
theorem rU_rb (n d : Nat) (v : List Int) : (rU v).all (rb n (d + 1)) = true := by
  simp only [List.all_eq_true]
  intro z hz
  obtain ⟨a, _, rfl⟩ := List.mem_map.1 hz
  rfl
structure FWorks where
  m : Int
  k : Int
  g : List Int
  xs : List (List Int)
  ys : List (List Int)
  o : List Int
def isU (n : Int) : Prop := 0 ≤ n ∧ n ≤ 255
instance (n : Int) : Decidable (isU n) := by unfold isU; infer_instance
structure WkOk (w : FWorks) : Prop where
  m : isU w.m
  k : isU w.k
  g : w.g.length = 16 ∧ ∀ n ∈ w.g, isU n
  xs : ∀ v ∈ w.xs, v.length = 4 ∧ ∀ n ∈ v, isU n
  ys : ∀ v ∈ w.ys, v.length = 7 ∧ ∀ n ∈ v, isU n
  o : w.o.length = 6 ∧ ∀ n ∈ w.o, isU n
def wkC (w : FWorks) (x y : Za) : List Za := .int .u8 w.m :: .int .u8 w.k :: (rU w.g ++ [x, y] ++ rU w.o)
def wM (w : FWorks) : Int := 1 + w.m.tmod 4
def wK (w : FWorks) : Int := 1 + w.k.tmod 4
def gAt (w : FWorks) (i k : Nat) : Int := w.g.getD (i * 4 + k) 0
def wRow (w : FWorks) (i n : Nat) : List Int := (List.range n).map fun k => (gAt w i k).tmod 40
def wC (w : FWorks) (n : Nat) : List (List Int) := (List.range n).map fun i => wRow w i (wK w).toNat
def v_ (v : List Int) (k : Nat) : Int := v.getD k 0
def wStop (w : FWorks) (v : List Int) : YH := ((v_ v 0).tmod (wM w), 2 * v_ v 1 + (v_ v 2).tmod 2, 2 * v_ v 1 + (v_ v 2).tmod 2 + 1 + (v_ v 3).tmod 60)
def wT (w : FWorks) (n : Nat) : List YH := (w.xs.take n).map (wStop w)
def wMin (v : List Int) (k : Nat) : Int := max 0 ((v_ v (3 + k)).tmod 90 - 10)
def wMins (v : List Int) (n : Nat) : List Int := (List.range n).map (wMin v)
def wJob (w : FWorks) (v : List Int) : FJob := ⟨(v_ v 0).tmod (wK w), v_ v 1, 3 * v_ v 2, wMins v (wM w).toNat⟩
def wJ (w : FWorks) (n : Nat) : List FJob := (w.ys.take n).map (wJob w)
def wShop (w : FWorks) : FShop := ⟨wM w, wC w (wK w).toNat, wT w (min w.xs.length 6)⟩
def wJobs (w : FWorks) : List FJob := wJ w (min w.ys.length 5)
theorem range_map1 {α : Type} (f : Nat → α) (n : Nat) : (List.range (n + 1)).map f = (List.range n).map f ++ [f n] := by rw [List.range_succ, List.map_append]; rfl
theorem take_map1 {α β : Type} (f : α → β) {l : List α} {n : Nat} (h : n < l.length) : (l.take (n + 1)).map f = (l.take n).map f ++ [f l[n]] := by rw [List.take_succ_eq_append_getElem h, List.map_append]; rfl
def encN (ts : List YH) : Za := match ts with | [] => .nils | x :: l => .vl ((x :: l).map rS3) false
theorem encN_ne {ts : List YH} (h : ts ≠ []) : encN ts = .vl (ts.map rS3) false := by cases ts with | nil => exact absurd rfl h | cons x l => rfl
theorem dStops_encN (ts : List YH) : Yg (encN ts) = some ts := by
  cases ts with
  | nil => rfl
  | cons x l => exact dStops_of (v := .vl ((x :: l).map rS3) false) rfl
theorem frN_rI (n : Nat) (h : Zf) (xs : List Int) : ∀ r ∈ xs.map rI, Zd (frN n h 5) r = some r := fun r hr => by
  obtain ⟨j, _, rfl⟩ := List.mem_map.1 hr; rfl
theorem frN_rS3 (n : Nat) (h : Zf) (xs : List YH) : ∀ r ∈ xs.map rS3, Zd (frN n h 5) r = some r := fun r hr => by
  obtain ⟨j, _, rfl⟩ := List.mem_map.1 hr; rfl
theorem XS {l : List Int} {k : Nat} (h : ∀ n ∈ l, isU n) : isU (l.getD k 0) := by
  rw [List.getD_eq_getElem?_getD]
  cases e : l[k]? with
  | none => exact ⟨by simp, by simp⟩
  | some n => exact h n (List.mem_of_getElem? e)
def tl41 : CC := (.seq (.reg [⟨(some 101), (.bsl 4 0 [(.int .i64 (0)), (.int .i64 (0)), (.int .i64 (0)), .nils] []), none, []⟩, ⟨(some 12), (.mv (.t 101)), none, []⟩]) (.seq (.seq (.reg [⟨(some 13), (.mv (.c (.int .i64 (0)))), none, []⟩]) (.block 6 (.loopG 12342 [.slot 12] (.seq (.seq (.reg [⟨(some 102), (.mv (.t 13)), none, []⟩, ⟨(some 103), (.fa 19 (.t 1)), none, []⟩, ⟨(some 104), (.ld (.t 103)), none, []⟩, ⟨(some 105), (.len (.t 104)), none, []⟩, ⟨(some 106), (.ar .lss (.t 102) (.t 105)), none, []⟩, ⟨(some 107), (.mv (.t 106)), none, []⟩, ⟨(some 108), (.mv (.t 13)), (some (107, true)), []⟩, ⟨(some 109), (.ar .lss (.t 108) (.c (.int .i64 (5)))), (some (107, true)), []⟩, ⟨(some 110), (.pick (.t 107) (.t 109) (.c (.bool false))), none, []⟩]) (.cond (.t 110) .skip (.exit 6))) (.seq (.block 7 (.seq (.reg [⟨(some 113), (.fa 19 (.t 1)), none, []⟩, ⟨(some 114), (.ld (.t 113)), none, []⟩, ⟨(some 115), (.mv (.t 13)), none, []⟩, ⟨(some 116), (.ias 7 (.t 114) (.t 115)), none, []⟩, ⟨(some 117), (.ldn 7 (.t 116)), none, []⟩, ⟨(some 14), (.new [(.int .u8 (0)), (.int .u8 (0)), (.int .u8 (0)), (.int .u8 (0)), (.int .u8 (0)), (.int .u8 (0)), (.int .u8 (0))]), none, []⟩, ⟨none, (.st 7 (.t 14) (.t 117)), none, []⟩]) (.seq (.drw [⟨(some 118), (.iaa 7 1 (.t 14) (.c (.int .i64 (0)))), none, []⟩, ⟨(some 119), (.ld (.t 118)), none, []⟩, ⟨(some 120), (.conv .i64 (.t 119)), none, []⟩, ⟨(some 121), (.mv (.t 5)), none, [0, 1, 2]⟩, ⟨(some 122), (.ar .rem (.t 120) (.t 121)), none, []⟩, ⟨(some 123), (.iaa 7 1 (.t 14) (.c (.int .i64 (1)))), none, [0, 1, 2, 3, 4]⟩, ⟨(some 124), (.ld (.t 123)), none, [0, 1, 2, 3, 4]⟩, ⟨(some 125), (.conv .i64 (.t 124)), none, [0, 1, 2, 3, 4]⟩, ⟨(some 126), (.iaa 7 1 (.t 14) (.c (.int .i64 (2)))), none, [0, 1, 2, 3, 4, 5, 6, 7]⟩, ⟨(some 127), (.ld (.t 126)), none, [0, 1, 2, 3, 4, 5, 6, 7]⟩, ⟨(some 128), (.conv .i64 (.t 127)), none, [0, 1, 2, 3, 4, 5, 6, 7]⟩, ⟨(some 129), (.ar .mul (.c (.int .i64 (3))) (.t 128)), none, [0, 1, 2, 3, 4, 5, 6, 7]⟩, ⟨(some 130), (.bld [(.int .i64 (0)), (.int .i64 (0)), (.int .i64 (0)), .nils] [(0, (1, (.t 122))), (1, (1, (.t 125))), (2, (1, (.t 129)))]), none, []⟩, ⟨(some 15), (.new [(.int .i64 (0)), (.int .i64 (0)), (.int .i64 (0)), .nils]), none, [0, 1, 2, 3, 4, 5, 6, 7, 8, 9, 10, 11, 12]⟩, ⟨none, (.st 4 (.t 15) (.t 130)), none, []⟩]) (.seq (.seq (.reg [⟨(some 16), (.mv (.c (.int .i64 (0)))), none, []⟩]) (.block 8 (.loopG 127030 [.cell 15 3] (.seq (.seq (.reg [⟨(some 131), (.mv (.t 16)), none, []⟩, ⟨(some 132), (.fa 0 (.t 4)), none, []⟩, ⟨(some 133), (.ld (.t 132)), none, []⟩, ⟨(some 134), (.ar .lss (.t 131) (.t 133)), none, []⟩]) (.cond (.t 134) .skip (.exit 8))) (.seq (.block 9 (.drw [⟨(some 137), (.fa 3 (.t 15)), none, []⟩, ⟨(some 138), (.ld (.t 137)), none, []⟩, ⟨(some 139), (.mv (.t 16)), none, [0, 1]⟩, ⟨(some 140), (.ar .add (.c (.int .i64 (3))) (.t 139)), none, [0, 1]⟩, ⟨(some 141), (.iaa 7 1 (.t 14) (.t 140)), none, [0, 1]⟩, ⟨(some 142), (.ld (.t 141)), none, [0, 1]⟩, ⟨(some 143), (.conv .i64 (.t 142)), none, [0, 1]⟩, ⟨(some 144), (.ar .rem (.t 143) (.c (.int .i64 (90)))), none, [0, 1]⟩, ⟨(some 145), (.ar .sub (.t 144) (.c (.int .i64 (10)))), none, [0, 1]⟩, ⟨(some 146), (.mx [(.c (.int .i64 (0))), (.t 145)]), none, [0, 1]⟩, ⟨(some 147), (.bsl 1 1 [(.int .i64 (0))] [(0, (.t 146))]), none, [0, 1]⟩, ⟨(some 148), (.app 1 (.t 138) (.t 147)), none, []⟩, ⟨(some 149), (.fa 3 (.t 15)), none, []⟩, ⟨none, (.st 1 (.t 149) (.t 148)), none, []⟩])) (.reg [⟨(some 135), (.mv (.t 16)), none, []⟩, ⟨(some 136), (.ar .add (.t 135) (.c (.int .i64 (1)))), none, []⟩, ⟨(some 16), (.mv (.t 136)), none, []⟩])))))) (.reg [⟨(some 150), (.mv (.t 12)), none, []⟩, ⟨(some 151), (.ldn 4 (.t 15)), none, []⟩, ⟨(some 152), (.bsl 4 1 [(.int .i64 (0)), (.int .i64 (0)), (.int .i64 (0)), .nils] [(0, (.t 151))]), none, []⟩, ⟨(some 153), (.app 4 (.t 150) (.t 152)), none, []⟩, ⟨(some 12), (.mv (.t 153)), none, []⟩]))))) (.reg [⟨(some 111), (.mv (.t 13)), none, []⟩, ⟨(some 112), (.ar .add (.t 111) (.c (.int .i64 (1)))), none, []⟩, ⟨(some 13), (.mv (.t 112)), none, []⟩])))))) (.seq (.reg [⟨(some 154), (.ldn 3 (.t 4)), none, []⟩, ⟨(some 155), (.mv (.t 12)), none, []⟩, ⟨none, (.st 3 (.t 2) (.t 154)), none, []⟩, ⟨(some 3), (.mv (.t 155)), none, []⟩]) .ret)))
theorem tail41 (P : Program) (T : Nat → Option CFn) (W_ : FWorks) (ac1 : List (List Int)) (Ts : List YH) (cells : List Za) (y : Za) (kn mn : Nat) (tv : Za) (tb : Option Blk) (hM1 : 1 ≤ mn) (hM4 : mn ≤ 4) (hK1 : 1 ≤ kn) (hK4 : kn ≤ 4) (hmn : wM W_ = mn) (hkn : wK W_ = kn) (hacl1 : ac1.length = kn)
  (ly : Zc y = some W_.ys.length) (hy : Yi y = some (W_.ys.map rU)) (bys : ∀ v ∈ W_.ys, v.length = 7 ∧ ∀ n ∈ v, isU n) (crb : ∀ n, cells.all (rb n 5) = true) (ry : ∀ n d, rb n (d + 1) y = true) (c19 : cells[19]? = some y)
  (h1 : ∀ n, 5 ≤ n → rb n 5 tv = true) (h2 : ∀ n, 5 ≤ n → rbB n tb = true) (h3 : cellsOf tv = some [tv]) (h4 : Zq tv = true) (hT : ∀ a b c d l, frz false (a :: b :: c :: d :: tb :: l) 3 tv = some (encN Ts)) (v0 v3 v6 v7 v8 v9 v10 v11 v12 v13 v14 v15 v16 v17 v18 v19 v20 v21 v22 v23 v24 v25 v26 v27 v28 v29 v30 v31 v32 v33 v34 v35 v36 v37 v38 v39 v40 v41 v42 v43 v44 v45 v46 v47 v48 v49 v50 v51 v52 v53 v54 v55 v56 v57 v58 v59 v60 v61 v62 v63 v64 v65 v66 v67 v68 v69 v70 v71 v72 v73 v74 v75 v76 v77 v78 v79 v80 v81 v82 v83 v84 v85 v86 v87 v88 v89 v90 v91 v92 v93 v94 v95 v96 v97 v98 v99 v100 v101 v102 v103 v104 v105 v106 v107 v108 v109 v110 v111 v112 v113 v114 v115 v116 v117 v118 v119 v120 v121 v122 v123 v124 v125 v126 v127 v128 v129 v130 v131 v132 v133 v134 v135 v136 v137 v138 v139 v140 v141 v142 v143 v144 v145 v146 v147 v148 v149 v150 v151 v152 v153 v154 v155 : Za) :
  Runs P T none tl41 ⟨[v0, .ref 0 0 0, .ref 1 0 0, v3, .ref 2 0 0, I (kn : Int), v6, v7, v8, v9, v10, v11, v12, v13, v14, v15, v16, v17, v18, v19, v20, v21, v22, v23, v24, v25, v26, v27, v28, v29, v30, v31, v32, v33, v34, v35, v36, v37, v38, v39, v40, v41, v42, v43, v44, v45, v46, v47, v48, v49, v50, v51, v52, v53, v54, v55, v56, v57, v58, v59, v60, v61, v62, v63, v64, v65, v66, v67, v68, v69, v70, v71, v72, v73, v74, v75, v76, v77, v78, v79, v80, v81, v82, v83, v84, v85, v86, v87, v88, v89, v90, v91, v92, v93, v94, v95, v96, v97, v98, v99, v100, v101, v102, v103, v104, v105, v106, v107, v108, v109, v110, v111, v112, v113, v114, v115, v116, v117, v118, v119, v120, v121, v122, v123, v124, v125, v126, v127, v128, v129, v130, v131, v132, v133, v134, v135, v136, v137, v138, v139, v140, v141, v142, v143, v144, v145, v146, v147, v148, v149, v150, v151, v152, v153, v154, v155], [some (.row 26 [cells]), some (.row 3 [[I 0, .nils, .nils]]), some (.row 3 [[I (mn : Int), .sl 3 0 kn false, tv]]), some (.row 1 (ac1.map rowC)), tb]⟩ fun e σ => (∀ id, e ≠ .exit id) ∧ ∃ vs, resA σ.t σ.h [.ldn 3 2, .tmp 3] = some vs ∧ frz false (trim ([] : Zf).length [tupA vs] σ.h) 5 (tupA vs) = some (.tup [.agg [I (wM W_), encC ac1, encN Ts], encJ (wJ W_ (min W_.ys.length 5))]) := by
 have frb := fun n => rowC_rb n 4 ac1
 have tvr6 := h1 6 (by decide)
 have tvr23 := h1 23 (by decide)
 have tbr6 := h2 6 (by decide)
 have tbr23 := h2 23 (by decide)
 have hCne : ac1 ≠ [] := by intro e; rw [e] at hacl1; simp at hacl1; omega
 have hCe : encC ac1 = .vl (ac1.map rowC) false := encC_ne hCne
 have tk1 : (ac1.map rowC).take kn = ac1.map rowC := List.take_of_length_le (by simp [hacl1])
 have fzC := fun H d => frz_rowC H d ac1
 have hkt : (wK W_).toNat = kn := by omega
 have hmt : (wM W_).toNat = mn := by omega
 have g19 := fun (h : 19 < cells.length) => Option.some.inj ((List.getElem?_eq_getElem h).symm.trans c19)
 unfold tl41
 have HH1 := zA ly (zA g19 (zA ry (zA tvr6 (zA tvr23 (zA tbr6 (zA tbr23 (zA h3 (zA h4 (zA hT (zA hacl1 (zA tk1 (zA fzC (zA hCe hmn)))))))))))))
 refine zS ?_
 refine zR (zO (by simp [-Zc, c19, ↓crb, ↓frb, HH1]; rfl) ?_)
 simp only [zT, zB]
 refine zS ?_
 refine zS ?_
 refine zR (zO (by simp [-Zc, c19, ↓crb, ↓frb, HH1]; rfl) ?_)
 simp only [zT, zB]
 refine zL ?_
 refine XJ (fun mm4 σ => ∃ (k4 : Nat) (i4 : Int), i4 = k4 ∧ (min W_.ys.length 5) - k4 = mm4 ∧ k4 ≤ (min W_.ys.length 5) ∧ ((k4 = 0 ∧ σ = ⟨[.any, .ref 0 0 0, .ref 1 0 0, .any, .ref 2 0 0, I (kn : Int), .any, .any, .any, .any, .any, .any, .sl 6 0 0 true, I i4, .any, .any, .any, .any, .any, .any, .any, .any, .any, .any, .any, .any, .any, .any, .any, .any, .any, .any, .any, .any, .any, .any, .any, .any, .any, .any, .any, .any, .any, .any, .any, .any, .any, .any, .any, .any, .any, .any, .any, .any, .any, .any, .any, .any, .any, .any, .any, .any, .any, .any, .any, .any, .any, .any, .any, .any, .any, .any, .any, .any, .any, .any, .any, .any, .any, .any, .any, .any, .any, .any, .any, .any, .any, .any, .any, .any, .any, .any, .any, .any, .any, .any, .any, .any, .any, .any, .any, .any, .any, .any, .any, .any, .any, .any, .any, .any, .any, .any, .any, .any, .any, .any, .any, .any, .any, .any, .any, .any, .any, .any, .any, .any, .any, .any, .any, .any, .any, .any, .any, .any, .any, .any, .any, .any, .any, .any, .any, .any, .any, .any, .any, .any, .any, .any, .any, .any, .any, .any, .any, .any, .any, .any], [some (.row 26 [cells]), some (.row 3 [[I 0, .nils, .nils]]), some (.row 3 [[I (mn : Int), .sl 3 0 kn false, tv]]), some (.row 1 (ac1.map rowC)), tb, none, some (.row 4 [])]⟩) ∨ (∃ (p4 : Nat) (ac4 : List (FJob)), k4 = p4 + 1 ∧ ac4 = wJ W_ (k4) ∧ ac4.length = p4 + 1 ∧ σ = ⟨[.any, .ref 0 0 0, .ref 1 0 0, .any, .ref 2 0 0, I (kn : Int), .any, .any, .any, .any, .any, .any, .sl 6 0 (p4 + 1) false, I i4, .any, .any, .any, .any, .any, .any, .any, .any, .any, .any, .any, .any, .any, .any, .any, .any, .any, .any, .any, .any, .any, .any, .any, .any, .any, .any, .any, .any, .any, .any, .any, .any, .any, .any, .any, .any, .any, .any, .any, .any, .any, .any, .any, .any, .any, .any, .any, .any, .any, .any, .any, .any, .any, .any, .any, .any, .any, .any, .any, .any, .any, .any, .any, .any, .any, .any, .any, .any, .any, .any, .any, .any, .any, .any, .any, .any, .any, .any, .any, .any, .any, .any, .any, .any, .any, .any, .any, .any, .any, .any, .any, .any, .any, .any, .any, .any, .any, .any, .any, .any, .any, .any, .any, .any, .any, .any, .any, .any, .any, .any, .any, .any, .any, .any, .any, .any, .any, .any, .any, .any, .any, .any, .any, .any, .any, .any, .any, .any, .any, .any, .any, .any, .any, .any, .any, .any, .any, .any, .any, .any, .any, .any], [some (.row 26 [cells]), some (.row 3 [[I 0, .nils, .nils]]), some (.row 3 [[I (mn : Int), .sl 3 0 kn false, tv]]), some (.row 1 (ac1.map rowC)), tb, none, some (.row 4 (ac4.map Yf))]⟩))) (by simp [-Zc, c19, ↓crb, ↓frb, HH1] <;> first | exact ⟨rfl, rfl⟩ | rfl) (⟨0, 0, rfl, rfl, Nat.zero_le _, .inl ⟨rfl, rfl⟩⟩) ?_
 rintro mm4 σ ⟨k4, i4, hik4, rfl, hkl4, ⟨hkz4, rfl⟩ | ⟨p4, ac4, hkp4, hac4, hacl4, rfl⟩⟩
 ·rcases hA4 : decide (i4 < (W_.ys.length : Int)) with _ | _
  ·refine zS ?_
   refine zS ?_
   refine zR (zO (by simp [-Zc, c19, ↓crb, ↓frb, HH1, hA4]; rfl) ?_)
   simp only [zT, zB]
   refine Zh (x := false) (by simp) ?_
   have hx4 := of_decide_eq_false hA4
   have hkE4 : k4 = (min W_.ys.length 5) := by omega
   have hJ0 : wJ W_ (min W_.ys.length 5) = [] := by rw [← hkE4, hkz4]; rfl
   have hJe : encJ [] = .vl [] true := rfl
   refine ZL ?_
   simp only [zT, zB, if_true, if_false, reduceIte, Nat.reduceEqDiff, Nat.succ_ne_zero, Nat.one_ne_zero, Nat.zero_ne_one]
   refine zS ?_
   refine zR (zO (by simp [-Zc, c19, ↓crb, ↓frb, HH1, hA4, hJ0, hJe]; rfl) ?_)
   simp only [zT, zB]
   refine Zj ?_
   simp [-Zc, c19, ↓crb, ↓frb, HH1, hA4, hJ0, hJe, trim]
  ·refine zS ?_
   refine zS ?_
   refine zR (zO (by simp [-Zc, c19, ↓crb, ↓frb, HH1, hA4]; rfl) ?_)
   simp only [zT, zB]
   refine Zg (x := decide (i4 < 5)) (by simp) (fun hlt4 => ?_) (fun hlt4 => ?_)
   ·have hAt4 := of_decide_eq_true hA4
    have hltt4 := of_decide_eq_true hlt4
    have hk04 : k4 < (min W_.ys.length 5) := by omega
    have hi04 : 0 ≤ i4 := by omega
    have htn4 : i4.toNat = k4 := by omega
    have hwi4 : W .i64 (i4 + 1) = i4 + 1 := ZR (by omega)
    have hyl : k4 < W_.ys.length := by omega
    obtain ⟨ty, rfl⟩ := rowsV_get hy (k := k4) (by rw [List.length_map]; omega)
    have hvv := bys _ (List.getElem_mem hyl)
    have hF4 : wJ W_ (k4 + 1) = wJ W_ k4 ++ [wJob W_ W_.ys[k4]] := take_map1 _ hyl
    generalize hV : W_.ys[k4] = v at *
    have hv0 : (rU v)[0]? = some (.int .u8 (v_ v 0)) := rU_get (by omega)
    have hv1 : (rU v)[1]? = some (.int .u8 (v_ v 1)) := rU_get (by omega)
    have hv2 : (rU v)[2]? = some (.int .u8 (v_ v 2)) := rU_get (by omega)
    have hvq : ∀ q, q < 4 → (rU v)[3 + q]? = some (.int .u8 (v_ v (3 + q))) := fun q hq => rU_get (by omega)
    have q0 := fun (h : 0 < (rU v).length) => Option.some.inj ((List.getElem?_eq_getElem h).symm.trans hv0)
    have q1 := fun (h : 1 < (rU v).length) => Option.some.inj ((List.getElem?_eq_getElem h).symm.trans hv1)
    have q2 := fun (h : 2 < (rU v).length) => Option.some.inj ((List.getElem?_eq_getElem h).symm.trans hv2)
    have hvl : (rU v).length = 7 := by rw [rU_len, hvv.1]
    have hvst := rU_stor v
    have hvrb := fun n => rU_rb n 4 v
    have hvc : cellsOf (.agg (rU v)) = some (rU v) := rfl
    have hvt : (rU v).take 7 = rU v := List.take_of_length_le (by omega)
    have hvd : (rU v).drop 7 = [] := List.drop_of_length_le (by omega)
    have b0 := XS (k := 0) hvv.2
    have b1 := XS (k := 1) hvv.2
    have b2 := XS (k := 2) hvv.2
    have bq : ∀ q, isU (v_ v (3 + q)) := fun q => XS hvv.2
    unfold wJob at hF4
    rw [hkn, hmt] at hF4
    have b01 : 0 ≤ v_ v 0 := b0.1
    have b02 : v_ v 0 ≤ 255 := b0.2
    have b11 : 0 ≤ v_ v 1 := b1.1
    have b12 : v_ v 1 ≤ 255 := b1.2
    have b21 : 0 ≤ v_ v 2 := b2.1
    have b22 : v_ v 2 ≤ 255 := b2.2
    clear b0 b1 b2
    generalize v_ v 0 = e0 at *
    generalize v_ v 1 = e1 at *
    generalize v_ v 2 = e2 at *
    have h01 : 0 ≤ e0.tmod (kn : Int) := Int.tmod_nonneg _ b01
    have h02 : e0.tmod (kn : Int) < kn := Int.tmod_lt_of_pos _ (by omega)
    have hmz : ¬ kn = 0 := by omega
    have hmzi : ¬ (kn : Int) = 0 := by omega
    have hmzb : ((kn : Int) == 0) = false := by simp; omega
    have hmm1 : ¬ ((kn : Int) = -1) := by omega
    have u0 : W .i64 e0 = e0 := ZX (by omega)
    have u1 : W .i64 e1 = e1 := ZX (by omega)
    have u2 : W .i64 e2 = e2 := ZX (by omega)
    have u3 : W .i64 (3 * e2) = 3 * e2 := ZX (by omega)
    have u4 : W .i64 (e0.tmod (kn : Int)) = e0.tmod (kn : Int) := ZX (by omega)
    have HH2 := zA hA4 (zA hi04 (zA htn4 (zA hk04 (zA hwi4 (zA hyl (zA hV (zA hv0 (zA hv1 (zA hv2 (zA q0 (zA q1 (zA q2 (zA hvl (zA hvc (zA hvt (zA hvd (zA hmz (zA hmzi (zA hmzb (zA hmm1 (zA u0 (zA u1 (zA u2 (zA u3 u4))))))))))))))))))))))))
    refine zK ?_
    simp only [zT, zB]
    refine zS ?_
    refine zL ?_
    refine zS ?_
    refine zR (zO (by simp [-Zc, c19, ↓crb, ↓frb, HH1, ↓hvst, ↓hvrb, HH2]; rfl) ?_)
    simp only [zT, zB]
    refine zS ?_
    refine Ye (by simp (maxSteps := 3000000) [-Zc, c19, ↓crb, ↓frb, HH1, ↓hvst, ↓hvrb, HH2]; rfl) ?_
    simp only [zT, zB]
    refine zS ?_
    refine zS ?_
    refine zR (zO (by simp [-Zc, c19, ↓crb, ↓frb, HH1, ↓hvst, ↓hvrb, HH2]; rfl) ?_)
    simp only [zT, zB]
    refine zL ?_
    refine XJ (fun mm5 σ => ∃ (k5 : Nat) (i5 : Int), i5 = k5 ∧ mn - k5 = mm5 ∧ k5 ≤ mn ∧ ((k5 = 0 ∧ σ = ⟨[.any, .ref 0 0 0, .ref 1 0 0, .any, .ref 2 0 0, I (kn : Int), .any, .any, .any, .any, .any, .any, .sl 6 0 0 true, I i4, .ref 7 0 0, .ref 21 0 0, I i5, .any, .any, .any, .any, .any, .any, .any, .any, .any, .any, .any, .any, .any, .any, .any, .any, .any, .any, .any, .any, .any, .any, .any, .any, .any, .any, .any, .any, .any, .any, .any, .any, .any, .any, .any, .any, .any, .any, .any, .any, .any, .any, .any, .any, .any, .any, .any, .any, .any, .any, .any, .any, .any, .any, .any, .any, .any, .any, .any, .any, .any, .any, .any, .any, .any, .any, .any, .any, .any, .any, .any, .any, .any, .any, .any, .any, .any, .any, .any, .any, .any, .any, .any, .any, .any, .any, .any, .any, .any, .any, .any, .any, .any, .any, .any, .any, .any, .any, .any, .any, .any, .any, .any, .any, .any, .any, .any, .any, .any, .any, .any, .any, .any, .any, .any, .any, .any, .any, .any, .any, .any, .any, .any, .any, .any, .any, .any, .any, .any, .any, .any, .any, .any, .any, .any, .any, .any, .any, .any], [some (.row 26 [cells]), some (.row 3 [[I 0, .nils, .nils]]), some (.row 3 [[I (mn : Int), .sl 3 0 kn false, tv]]), some (.row 1 (ac1.map rowC)), tb, none, some (.row 4 []), some (.row 7 [rU v]), none, none, none, none, none, none, none, none, none, none, none, none, none, some (.row 4 [[I (e0.tmod (kn : Int)), I e1, I (3 * e2), .nils]]), none, none]⟩) ∨ (∃ (p5 : Nat) (ac5 : List (Int)), k5 = p5 + 1 ∧ ac5 = wMins v (k5) ∧ ac5.length = p5 + 1 ∧ σ = ⟨[.any, .ref 0 0 0, .ref 1 0 0, .any, .ref 2 0 0, I (kn : Int), .any, .any, .any, .any, .any, .any, .sl 6 0 0 true, I i4, .ref 7 0 0, .ref 21 0 0, I i5, .any, .any, .any, .any, .any, .any, .any, .any, .any, .any, .any, .any, .any, .any, .any, .any, .any, .any, .any, .any, .any, .any, .any, .any, .any, .any, .any, .any, .any, .any, .any, .any, .any, .any, .any, .any, .any, .any, .any, .any, .any, .any, .any, .any, .any, .any, .any, .any, .any, .any, .any, .any, .any, .any, .any, .any, .any, .any, .any, .any, .any, .any, .any, .any, .any, .any, .any, .any, .any, .any, .any, .any, .any, .any, .any, .any, .any, .any, .any, .any, .any, .any, .any, .any, .any, .any, .any, .any, .any, .any, .any, .any, .any, .any, .any, .any, .any, .any, .any, .any, .any, .any, .any, .any, .any, .any, .any, .any, .any, .any, .any, .any, .any, .any, .any, .any, .any, .any, .any, .any, .any, .any, .any, .any, .any, .any, .any, .any, .any, .any, .any, .any, .any, .any, .any, .any, .any, .any, .any], [some (.row 26 [cells]), some (.row 3 [[I 0, .nils, .nils]]), some (.row 3 [[I (mn : Int), .sl 3 0 kn false, tv]]), some (.row 1 (ac1.map rowC)), tb, none, some (.row 4 []), some (.row 7 [rU v]), none, none, none, none, none, none, none, none, none, none, none, none, none, some (.row 4 [[I (e0.tmod (kn : Int)), I e1, I (3 * e2), .sl 23 0 (p5 + 1) false]]), none, some (.row 1 (ac5.map rI))]⟩))) (by simp [-Zc, c19, ↓crb, ↓frb, HH1, ↓hvst, ↓hvrb, HH2] <;> first | exact ⟨rfl, rfl⟩ | rfl) (⟨0, 0, rfl, rfl, Nat.zero_le _, .inl ⟨rfl, rfl⟩⟩) ?_
    rintro mm5 σ ⟨k5, i5, hik5, rfl, hkl5, ⟨hkz5, rfl⟩ | ⟨p5, ac5, hkp5, hac5, hacl5, rfl⟩⟩
    ·refine zS ?_
     refine zS ?_
     refine zR (zO (by simp [-Zc, c19, ↓crb, ↓frb, HH1, ↓hvst, ↓hvrb, HH2]; rfl) ?_)
     simp only [zT, zB]
     refine Zg (x := _) rfl (fun hlt5 => ?_) (fun hlt5 => ?_)
     ·have hltt5 := of_decide_eq_true hlt5
      have hk05 : k5 < mn := by omega
      have hi05 : 0 ≤ i5 := by omega
      have htn5 : i5.toNat = k5 := by omega
      have hwi5 : W .i64 (i5 + 1) = i5 + 1 := ZR (by omega)
      have hk4 : k5 < 4 := by omega
      have hq := hvq k5 hk4
      have hqb := bq k5
      have hF5 : wMins v (k5 + 1) = wMins v k5 ++ [wMin v k5] := range_map1 _ _
      unfold wMin at hF5
      generalize v_ v (3 + k5) = f at *
      have f1 := hqb.1
      have f2 := hqb.2
      have f3 : 0 ≤ f.tmod 90 := Int.tmod_nonneg 90 f1
      have f4 : f.tmod 90 < 90 := Int.tmod_lt_of_pos _ (by decide)
      have y1 : W .i64 f = f := ZX (by omega)
      have y2 : W .i64 (f.tmod 90) = f.tmod 90 := ZX (by omega)
      have y3 : W .i64 (f.tmod 90 - 10) = f.tmod 90 - 10 := ZX (by omega)
      have y4 : W .i64 (3 + i5) = 3 + i5 := ZX (by omega)
      have y5 : (3 + i5).toNat = 3 + k5 := by omega
      have y6 : 0 ≤ 3 + i5 := by omega
      have y7 : 3 + i5 < 7 := by omega
      have y8 : (if 10 < f.tmod 90 then f.tmod 90 - 10 else 0) = max 0 (f.tmod 90 - 10) := by split <;> omega
      have y9 : (if 0 < f.tmod 90 - 10 then f.tmod 90 - 10 else 0) = max 0 (f.tmod 90 - 10) := by split <;> omega
      have q5 := fun (h : 3 + k5 < (rU v).length) => Option.some.inj ((List.getElem?_eq_getElem h).symm.trans hq)
      have hnx5 : [max 0 (f.tmod 90 - 10)] = wMins v (k5 + 1) := by rw [hF5, hkz5]; rfl
      have hap5 : [[I (max 0 (f.tmod 90 - 10))]] = [max 0 (f.tmod 90 - 10)].map rI := rfl
      have HH3 := zA hi05 (zA htn5 (zA hk05 (zA hwi5 (zA hq (zA q5 (zA y1 (zA y2 (zA y3 (zA y4 (zA y5 (zA y6 (zA y7 (zA y8 y9)))))))))))))
      refine zK ?_
      simp only [zT, zB]
      refine zS ?_
      refine zL ?_
      refine Ye (by simp (maxSteps := 3000000) [-Zc, c19, ↓crb, ↓frb, HH1, ↓hvst, ↓hvrb, HH2, zI, HH3]; rfl) ?_
      simp only [zT, zB]
      refine zR (zO (by simp [-Zc, c19, ↓crb, ↓frb, HH1, ↓hvst, ↓hvrb, HH2, zI, HH3]; rfl) ?_)
      simp only [zT, zB]
      exact ⟨mn - (k5 + 1), _, _, by omega, by simp [-Zc, c19, ↓crb, ↓frb, HH1, ↓hvst, ↓hvrb, HH2, zI, HH3] <;> first | exact ⟨rfl, rfl⟩ | rfl, k5 + 1, i5 + 1, by omega, rfl, by omega, .inr ⟨0, [max 0 (f.tmod 90 - 10)], by omega, hnx5, rfl, rfl⟩⟩
     ·have hx5 := of_decide_eq_false hlt5
      have hkE5 : k5 = mn := by omega
      omega
    ·have tk5 : (ac5.map rI).take (p5 + 1) = ac5.map rI := List.take_of_length_le (by simp [hacl5])
     have hlac5 : p5 + 1 + 1 ≤ 1048576 := by omega
     have hr35 : ∀ e : Int, (rI e).length = 1 := fun _ => rfl
     have hfr5 := fun n h r => optAll_snoc (frN_rI n h ac5) r
     have hrj5 := fun n => rI_rb n 4 ac5
     have HH4 := zA crb (zA frb (zA hvst (zA hvrb (zA hfr5 hrj5))))
     refine zS ?_
     refine zS ?_
     refine zR (zO (by simp [-Zc, c19, HH1, HH2, tk5, hlac5, hacl5, hr35, ↓HH4]; rfl) ?_)
     simp only [zT, zB]
     refine Zg (x := _) rfl (fun hlt5 => ?_) (fun hlt5 => ?_)
     ·have hltt5 := of_decide_eq_true hlt5
      have hk05 : k5 < mn := by omega
      have hi05 : 0 ≤ i5 := by omega
      have htn5 : i5.toNat = k5 := by omega
      have hwi5 : W .i64 (i5 + 1) = i5 + 1 := ZR (by omega)
      have hk4 : k5 < 4 := by omega
      have hq := hvq k5 hk4
      have hqb := bq k5
      have hF5 : wMins v (k5 + 1) = wMins v k5 ++ [wMin v k5] := range_map1 _ _
      unfold wMin at hF5
      generalize v_ v (3 + k5) = f at *
      have f1 := hqb.1
      have f2 := hqb.2
      have f3 : 0 ≤ f.tmod 90 := Int.tmod_nonneg 90 f1
      have f4 : f.tmod 90 < 90 := Int.tmod_lt_of_pos _ (by decide)
      have y1 : W .i64 f = f := ZX (by omega)
      have y2 : W .i64 (f.tmod 90) = f.tmod 90 := ZX (by omega)
      have y3 : W .i64 (f.tmod 90 - 10) = f.tmod 90 - 10 := ZX (by omega)
      have y4 : W .i64 (3 + i5) = 3 + i5 := ZX (by omega)
      have y5 : (3 + i5).toNat = 3 + k5 := by omega
      have y6 : 0 ≤ 3 + i5 := by omega
      have y7 : 3 + i5 < 7 := by omega
      have y8 : (if 10 < f.tmod 90 then f.tmod 90 - 10 else 0) = max 0 (f.tmod 90 - 10) := by split <;> omega
      have y9 : (if 0 < f.tmod 90 - 10 then f.tmod 90 - 10 else 0) = max 0 (f.tmod 90 - 10) := by split <;> omega
      have q5 := fun (h : 3 + k5 < (rU v).length) => Option.some.inj ((List.getElem?_eq_getElem h).symm.trans hq)
      have hnx5 : ac5 ++ [max 0 (f.tmod 90 - 10)] = wMins v (k5 + 1) := by rw [hF5, ← hac5]
      have hnl5 : (ac5 ++ [max 0 (f.tmod 90 - 10)]).length = p5 + 1 + 1 := by simp [hacl5]
      have hap5 : ac5.map rI ++ [[I (max 0 (f.tmod 90 - 10))]] = (ac5 ++ [max 0 (f.tmod 90 - 10)]).map rI := by rw [List.map_append]; rfl
      generalize ac5 ++ [max 0 (f.tmod 90 - 10)] = nx5 at *
      have hrx5 := fun n => rI_rb n 4 nx5
      have HH5 := zA tk5 (zA hlac5 (zA hacl5 (zA hr35 (zA hi05 (zA htn5 (zA hk05 (zA hwi5 (zA hap5 (zA hq (zA q5 (zA y1 (zA y2 (zA y3 (zA y4 (zA y5 (zA y6 (zA y7 (zA y8 y9))))))))))))))))))
      refine zK ?_
      simp only [zT, zB]
      refine zS ?_
      refine zL ?_
      refine Ye (by simp (maxSteps := 3000000) [-Zc, c19, HH1, HH2, ↓HH4, ↓hrx5, zI, HH5]; rfl) ?_
      simp only [zT, zB]
      refine zR (zO (by simp [-Zc, c19, HH1, HH2, ↓HH4, ↓hrx5, zI, HH5]; rfl) ?_)
      simp only [zT, zB]
      exact ⟨mn - (k5 + 1), _, _, by omega, by simp [-Zc, c19, HH1, HH2, ↓HH4, ↓hrx5, zI, HH5] <;> first | exact ⟨rfl, rfl⟩ | rfl, k5 + 1, i5 + 1, by omega, rfl, by omega, .inr ⟨p5 + 1, nx5, by omega, hnx5, hnl5, rfl⟩⟩
     ·have hx5 := of_decide_eq_false hlt5
      have hkE5 : k5 = mn := by omega
      rw [hkE5] at hac5
      have hz5 : p5 + 1 = mn := by omega
      have hne5 : ac5 ≠ [] := by intro e; rw [e] at hacl5; simp at hacl5
      rw [← hac5] at hF4
      have hro5 : Yf ⟨e0.tmod (kn : Int), e1, 3 * e2, ac5⟩ = [I (e0.tmod (kn : Int)), I e1, I (3 * e2), .vl (ac5.map rI) false] := by unfold Yf; rw [encE_ne hne5]
      have hrl5 : ((ac5.map rI).all fun r => r.length == 1) = true := by simp [rI]
      have hrs5 : ((ac5.map rI).all fun r => r.all Zq) = true := by simp [rI]
      have hnx4 : [(⟨e0.tmod (kn : Int), e1, 3 * e2, ac5⟩ : FJob)] = wJ W_ (k4 + 1) := by rw [hF4, hkz4]; rfl
      have hap4 : [[I (e0.tmod (kn : Int)), I e1, I (3 * e2), .vl (ac5.map rI) false]] = [(⟨e0.tmod (kn : Int), e1, 3 * e2, ac5⟩ : FJob)].map Yf := by show _ = [Yf ((⟨e0.tmod (kn : Int), e1, 3 * e2, ac5⟩ : FJob))]; rw [hro5]
      have HH6 := zA tk5 (zA hlac5 (zA hacl5 (zA hr35 hro5)))
      refine ZL ?_
      simp only [zT, zB, if_true, if_false, reduceIte, Nat.reduceEqDiff, Nat.succ_ne_zero, Nat.one_ne_zero, Nat.zero_ne_one]
      refine zR (zO (by simp [-Zc, c19, HH1, HH2, ↓HH4, ↓hrl5, ↓hrs5, Zm, HH6]; rfl) ?_)
      simp only [zT, zB]
      refine zR (zO (by simp [-Zc, c19, HH1, HH2, ↓HH4, ↓hrl5, ↓hrs5, Zm, HH6]; rfl) ?_)
      simp only [zT, zB]
      exact ⟨(min W_.ys.length 5) - (k4 + 1), _, _, by omega, by simp [-Zc, c19, HH1, HH2, ↓HH4, ↓hrl5, ↓hrs5, Zm, HH6] <;> first | exact ⟨rfl, rfl⟩ | rfl, k4 + 1, i4 + 1, by omega, rfl, by omega, .inr ⟨0, [(⟨e0.tmod (kn : Int), e1, 3 * e2, ac5⟩ : FJob)], by omega, hnx4, rfl, rfl⟩⟩
   ·have hAt4 := of_decide_eq_true hA4
    have hx4 := of_decide_eq_false hlt4
    have hkE4 : k4 = (min W_.ys.length 5) := by omega
    have hJ0 : wJ W_ (min W_.ys.length 5) = [] := by rw [← hkE4, hkz4]; rfl
    have hJe : encJ [] = .vl [] true := rfl
    refine ZL ?_
    simp only [zT, zB, if_true, if_false, reduceIte, Nat.reduceEqDiff, Nat.succ_ne_zero, Nat.one_ne_zero, Nat.zero_ne_one]
    refine zS ?_
    refine zR (zO (by simp [-Zc, c19, ↓crb, ↓frb, HH1, hA4, hJ0, hJe]; rfl) ?_)
    simp only [zT, zB]
    refine Zj ?_
    simp [-Zc, c19, ↓crb, ↓frb, HH1, hA4, hJ0, hJe, trim]
 ·have tk4 : (ac4.map Yf).take (p4 + 1) = ac4.map Yf := List.take_of_length_le (by simp [hacl4])
  have hlac4 : p4 + 1 + 1 ≤ 1048576 := by omega
  have hr34 : ∀ e : FJob, (Yf e).length = 4 := fun _ => rfl
  have hfr4 := fun n h r => optAll_snoc (frN_rowJ n h ac4) r
  have hrj4 := fun n => rowJ_rb n 4 ac4
  rcases hA4 : decide (i4 < (W_.ys.length : Int)) with _ | _
  ·have HH7 := zA tk4 (zA hlac4 (zA hacl4 (zA hr34 hA4)))
   refine zS ?_
   refine zS ?_
   refine zR (zO (by simp [-Zc, c19, ↓crb, ↓frb, HH1, ↓hfr4, ↓hrj4, HH7]; rfl) ?_)
   simp only [zT, zB]
   refine Zh (x := false) (by simp) ?_
   have hx4 := of_decide_eq_false hA4
   have hkE4 : k4 = (min W_.ys.length 5) := by omega
   rw [hkE4] at hac4
   have hJne : ac4 ≠ [] := by intro e; rw [e] at hacl4; simp at hacl4
   have hJe : encJ ac4 = .vl (ac4.map Yf) false := encJ_ne hJne
   have hz4 : min W_.ys.length 5 = p4 + 1 := by omega
   refine ZL ?_
   simp only [zT, zB, if_true, if_false, reduceIte, Nat.reduceEqDiff, Nat.succ_ne_zero, Nat.one_ne_zero, Nat.zero_ne_one]
   refine zS ?_
   refine zR (zO (by simp [-Zc, c19, ↓crb, ↓frb, HH1, ↓hfr4, ↓hrj4, HH7, hJe, ← hac4, frz_rowJ, ↓rowJ_rb]; rfl) ?_)
   simp only [zT, zB]
   refine Zj ?_
   simp [-Zc, c19, ↓crb, ↓frb, HH1, ↓hfr4, ↓hrj4, HH7, hJe, ← hac4, frz_rowJ, ↓rowJ_rb, trim]
  ·have HH8 := zA tk4 (zA hlac4 (zA hacl4 (zA hr34 hA4)))
   refine zS ?_
   refine zS ?_
   refine zR (zO (by simp [-Zc, c19, ↓crb, ↓frb, HH1, ↓hfr4, ↓hrj4, HH8]; rfl) ?_)
   simp only [zT, zB]
   refine Zg (x := decide (i4 < 5)) (by simp) (fun hlt4 => ?_) (fun hlt4 => ?_)
   ·have hAt4 := of_decide_eq_true hA4
    have hltt4 := of_decide_eq_true hlt4
    have hk04 : k4 < (min W_.ys.length 5) := by omega
    have hi04 : 0 ≤ i4 := by omega
    have htn4 : i4.toNat = k4 := by omega
    have hwi4 : W .i64 (i4 + 1) = i4 + 1 := ZR (by omega)
    have hyl : k4 < W_.ys.length := by omega
    obtain ⟨ty, rfl⟩ := rowsV_get hy (k := k4) (by rw [List.length_map]; omega)
    have hvv := bys _ (List.getElem_mem hyl)
    have hF4 : wJ W_ (k4 + 1) = wJ W_ k4 ++ [wJob W_ W_.ys[k4]] := take_map1 _ hyl
    generalize hV : W_.ys[k4] = v at *
    have hv0 : (rU v)[0]? = some (.int .u8 (v_ v 0)) := rU_get (by omega)
    have hv1 : (rU v)[1]? = some (.int .u8 (v_ v 1)) := rU_get (by omega)
    have hv2 : (rU v)[2]? = some (.int .u8 (v_ v 2)) := rU_get (by omega)
    have hvq : ∀ q, q < 4 → (rU v)[3 + q]? = some (.int .u8 (v_ v (3 + q))) := fun q hq => rU_get (by omega)
    have q0 := fun (h : 0 < (rU v).length) => Option.some.inj ((List.getElem?_eq_getElem h).symm.trans hv0)
    have q1 := fun (h : 1 < (rU v).length) => Option.some.inj ((List.getElem?_eq_getElem h).symm.trans hv1)
    have q2 := fun (h : 2 < (rU v).length) => Option.some.inj ((List.getElem?_eq_getElem h).symm.trans hv2)
    have hvl : (rU v).length = 7 := by rw [rU_len, hvv.1]
    have hvst := rU_stor v
    have hvrb := fun n => rU_rb n 4 v
    have hvc : cellsOf (.agg (rU v)) = some (rU v) := rfl
    have hvt : (rU v).take 7 = rU v := List.take_of_length_le (by omega)
    have hvd : (rU v).drop 7 = [] := List.drop_of_length_le (by omega)
    have b0 := XS (k := 0) hvv.2
    have b1 := XS (k := 1) hvv.2
    have b2 := XS (k := 2) hvv.2
    have bq : ∀ q, isU (v_ v (3 + q)) := fun q => XS hvv.2
    unfold wJob at hF4
    rw [hkn, hmt] at hF4
    have b01 : 0 ≤ v_ v 0 := b0.1
    have b02 : v_ v 0 ≤ 255 := b0.2
    have b11 : 0 ≤ v_ v 1 := b1.1
    have b12 : v_ v 1 ≤ 255 := b1.2
    have b21 : 0 ≤ v_ v 2 := b2.1
    have b22 : v_ v 2 ≤ 255 := b2.2
    clear b0 b1 b2
    generalize v_ v 0 = e0 at *
    generalize v_ v 1 = e1 at *
    generalize v_ v 2 = e2 at *
    have h01 : 0 ≤ e0.tmod (kn : Int) := Int.tmod_nonneg _ b01
    have h02 : e0.tmod (kn : Int) < kn := Int.tmod_lt_of_pos _ (by omega)
    have hmz : ¬ kn = 0 := by omega
    have hmzi : ¬ (kn : Int) = 0 := by omega
    have hmzb : ((kn : Int) == 0) = false := by simp; omega
    have hmm1 : ¬ ((kn : Int) = -1) := by omega
    have u0 : W .i64 e0 = e0 := ZX (by omega)
    have u1 : W .i64 e1 = e1 := ZX (by omega)
    have u2 : W .i64 e2 = e2 := ZX (by omega)
    have u3 : W .i64 (3 * e2) = 3 * e2 := ZX (by omega)
    have u4 : W .i64 (e0.tmod (kn : Int)) = e0.tmod (kn : Int) := ZX (by omega)
    have HH9 := zA hi04 (zA htn4 (zA hk04 (zA hwi4 (zA hyl (zA hV (zA hv0 (zA hv1 (zA hv2 (zA q0 (zA q1 (zA q2 (zA hvl (zA hvc (zA hvt (zA hvd (zA hmz (zA hmzi (zA hmzb (zA hmm1 (zA u0 (zA u1 (zA u2 (zA u3 u4)))))))))))))))))))))))
    have HH10 := zA crb (zA frb (zA hfr4 (zA hrj4 (zA hvst hvrb))))
    refine zK ?_
    simp only [zT, zB]
    refine zS ?_
    refine zL ?_
    refine zS ?_
    refine zR (zO (by simp [-Zc, c19, HH1, HH8, HH9, ↓HH10]; rfl) ?_)
    simp only [zT, zB]
    refine zS ?_
    refine Ye (by simp (maxSteps := 3000000) [-Zc, c19, HH1, HH8, HH9, ↓HH10]; rfl) ?_
    simp only [zT, zB]
    refine zS ?_
    refine zS ?_
    refine zR (zO (by simp [-Zc, c19, HH1, HH8, HH9, ↓HH10]; rfl) ?_)
    simp only [zT, zB]
    refine zL ?_
    refine XJ (fun mm5 σ => ∃ (k5 : Nat) (i5 : Int), i5 = k5 ∧ mn - k5 = mm5 ∧ k5 ≤ mn ∧ ((k5 = 0 ∧ σ = ⟨[.any, .ref 0 0 0, .ref 1 0 0, .any, .ref 2 0 0, I (kn : Int), .any, .any, .any, .any, .any, .any, .sl 6 0 (p4 + 1) false, I i4, .ref 7 0 0, .ref 21 0 0, I i5, .any, .any, .any, .any, .any, .any, .any, .any, .any, .any, .any, .any, .any, .any, .any, .any, .any, .any, .any, .any, .any, .any, .any, .any, .any, .any, .any, .any, .any, .any, .any, .any, .any, .any, .any, .any, .any, .any, .any, .any, .any, .any, .any, .any, .any, .any, .any, .any, .any, .any, .any, .any, .any, .any, .any, .any, .any, .any, .any, .any, .any, .any, .any, .any, .any, .any, .any, .any, .any, .any, .any, .any, .any, .any, .any, .any, .any, .any, .any, .any, .any, .any, .any, .any, .any, .any, .any, .any, .any, .any, .any, .any, .any, .any, .any, .any, .any, .any, .any, .any, .any, .any, .any, .any, .any, .any, .any, .any, .any, .any, .any, .any, .any, .any, .any, .any, .any, .any, .any, .any, .any, .any, .any, .any, .any, .any, .any, .any, .any, .any, .any, .any, .any, .any, .any, .any, .any, .any, .any], [some (.row 26 [cells]), some (.row 3 [[I 0, .nils, .nils]]), some (.row 3 [[I (mn : Int), .sl 3 0 kn false, tv]]), some (.row 1 (ac1.map rowC)), tb, none, some (.row 4 (ac4.map Yf)), some (.row 7 [rU v]), none, none, none, none, none, none, none, none, none, none, none, none, none, some (.row 4 [[I (e0.tmod (kn : Int)), I e1, I (3 * e2), .nils]]), none, none]⟩) ∨ (∃ (p5 : Nat) (ac5 : List (Int)), k5 = p5 + 1 ∧ ac5 = wMins v (k5) ∧ ac5.length = p5 + 1 ∧ σ = ⟨[.any, .ref 0 0 0, .ref 1 0 0, .any, .ref 2 0 0, I (kn : Int), .any, .any, .any, .any, .any, .any, .sl 6 0 (p4 + 1) false, I i4, .ref 7 0 0, .ref 21 0 0, I i5, .any, .any, .any, .any, .any, .any, .any, .any, .any, .any, .any, .any, .any, .any, .any, .any, .any, .any, .any, .any, .any, .any, .any, .any, .any, .any, .any, .any, .any, .any, .any, .any, .any, .any, .any, .any, .any, .any, .any, .any, .any, .any, .any, .any, .any, .any, .any, .any, .any, .any, .any, .any, .any, .any, .any, .any, .any, .any, .any, .any, .any, .any, .any, .any, .any, .any, .any, .any, .any, .any, .any, .any, .any, .any, .any, .any, .any, .any, .any, .any, .any, .any, .any, .any, .any, .any, .any, .any, .any, .any, .any, .any, .any, .any, .any, .any, .any, .any, .any, .any, .any, .any, .any, .any, .any, .any, .any, .any, .any, .any, .any, .any, .any, .any, .any, .any, .any, .any, .any, .any, .any, .any, .any, .any, .any, .any, .any, .any, .any, .any, .any, .any, .any, .any, .any, .any, .any, .any, .any], [some (.row 26 [cells]), some (.row 3 [[I 0, .nils, .nils]]), some (.row 3 [[I (mn : Int), .sl 3 0 kn false, tv]]), some (.row 1 (ac1.map rowC)), tb, none, some (.row 4 (ac4.map Yf)), some (.row 7 [rU v]), none, none, none, none, none, none, none, none, none, none, none, none, none, some (.row 4 [[I (e0.tmod (kn : Int)), I e1, I (3 * e2), .sl 23 0 (p5 + 1) false]]), none, some (.row 1 (ac5.map rI))]⟩))) (by simp [-Zc, c19, HH1, HH8, HH9, ↓HH10] <;> first | exact ⟨rfl, rfl⟩ | rfl) (⟨0, 0, rfl, rfl, Nat.zero_le _, .inl ⟨rfl, rfl⟩⟩) ?_
    rintro mm5 σ ⟨k5, i5, hik5, rfl, hkl5, ⟨hkz5, rfl⟩ | ⟨p5, ac5, hkp5, hac5, hacl5, rfl⟩⟩
    ·refine zS ?_
     refine zS ?_
     refine zR (zO (by simp [-Zc, c19, HH1, HH8, HH9, ↓HH10]; rfl) ?_)
     simp only [zT, zB]
     refine Zg (x := _) rfl (fun hlt5 => ?_) (fun hlt5 => ?_)
     ·have hltt5 := of_decide_eq_true hlt5
      have hk05 : k5 < mn := by omega
      have hi05 : 0 ≤ i5 := by omega
      have htn5 : i5.toNat = k5 := by omega
      have hwi5 : W .i64 (i5 + 1) = i5 + 1 := ZR (by omega)
      have hk4 : k5 < 4 := by omega
      have hq := hvq k5 hk4
      have hqb := bq k5
      have hF5 : wMins v (k5 + 1) = wMins v k5 ++ [wMin v k5] := range_map1 _ _
      unfold wMin at hF5
      generalize v_ v (3 + k5) = f at *
      have f1 := hqb.1
      have f2 := hqb.2
      have f3 : 0 ≤ f.tmod 90 := Int.tmod_nonneg 90 f1
      have f4 : f.tmod 90 < 90 := Int.tmod_lt_of_pos _ (by decide)
      have y1 : W .i64 f = f := ZX (by omega)
      have y2 : W .i64 (f.tmod 90) = f.tmod 90 := ZX (by omega)
      have y3 : W .i64 (f.tmod 90 - 10) = f.tmod 90 - 10 := ZX (by omega)
      have y4 : W .i64 (3 + i5) = 3 + i5 := ZX (by omega)
      have y5 : (3 + i5).toNat = 3 + k5 := by omega
      have y6 : 0 ≤ 3 + i5 := by omega
      have y7 : 3 + i5 < 7 := by omega
      have y8 : (if 10 < f.tmod 90 then f.tmod 90 - 10 else 0) = max 0 (f.tmod 90 - 10) := by split <;> omega
      have y9 : (if 0 < f.tmod 90 - 10 then f.tmod 90 - 10 else 0) = max 0 (f.tmod 90 - 10) := by split <;> omega
      have q5 := fun (h : 3 + k5 < (rU v).length) => Option.some.inj ((List.getElem?_eq_getElem h).symm.trans hq)
      have hnx5 : [max 0 (f.tmod 90 - 10)] = wMins v (k5 + 1) := by rw [hF5, hkz5]; rfl
      have hap5 : [[I (max 0 (f.tmod 90 - 10))]] = [max 0 (f.tmod 90 - 10)].map rI := rfl
      have HH11 := zA hi05 (zA htn5 (zA hk05 (zA hwi5 (zA hq (zA q5 (zA y1 (zA y2 (zA y3 (zA y4 (zA y5 (zA y6 (zA y7 (zA y8 y9)))))))))))))
      refine zK ?_
      simp only [zT, zB]
      refine zS ?_
      refine zL ?_
      refine Ye (by simp (maxSteps := 3000000) [-Zc, c19, HH1, HH8, HH9, ↓HH10, zI, HH11]; rfl) ?_
      simp only [zT, zB]
      refine zR (zO (by simp [-Zc, c19, HH1, HH8, HH9, ↓HH10, zI, HH11]; rfl) ?_)
      simp only [zT, zB]
      exact ⟨mn - (k5 + 1), _, _, by omega, by simp [-Zc, c19, HH1, HH8, HH9, ↓HH10, zI, HH11] <;> first | exact ⟨rfl, rfl⟩ | rfl, k5 + 1, i5 + 1, by omega, rfl, by omega, .inr ⟨0, [max 0 (f.tmod 90 - 10)], by omega, hnx5, rfl, rfl⟩⟩
     ·have hx5 := of_decide_eq_false hlt5
      have hkE5 : k5 = mn := by omega
      omega
    ·have tk5 : (ac5.map rI).take (p5 + 1) = ac5.map rI := List.take_of_length_le (by simp [hacl5])
     have hlac5 : p5 + 1 + 1 ≤ 1048576 := by omega
     have hr35 : ∀ e : Int, (rI e).length = 1 := fun _ => rfl
     have hfr5 := fun n h r => optAll_snoc (frN_rI n h ac5) r
     have hrj5 := fun n => rI_rb n 4 ac5
     refine zS ?_
     refine zS ?_
     refine zR (zO (by simp [-Zc, c19, HH1, HH8, HH9, ↓HH10, tk5, hlac5, hacl5, hr35, ↓hfr5, ↓hrj5]; rfl) ?_)
     simp only [zT, zB]
     refine Zg (x := _) rfl (fun hlt5 => ?_) (fun hlt5 => ?_)
     ·have hltt5 := of_decide_eq_true hlt5
      have hk05 : k5 < mn := by omega
      have hi05 : 0 ≤ i5 := by omega
      have htn5 : i5.toNat = k5 := by omega
      have hwi5 : W .i64 (i5 + 1) = i5 + 1 := ZR (by omega)
      have hk4 : k5 < 4 := by omega
      have hq := hvq k5 hk4
      have hqb := bq k5
      have hF5 : wMins v (k5 + 1) = wMins v k5 ++ [wMin v k5] := range_map1 _ _
      unfold wMin at hF5
      generalize v_ v (3 + k5) = f at *
      have f1 := hqb.1
      have f2 := hqb.2
      have f3 : 0 ≤ f.tmod 90 := Int.tmod_nonneg 90 f1
      have f4 : f.tmod 90 < 90 := Int.tmod_lt_of_pos _ (by decide)
      have y1 : W .i64 f = f := ZX (by omega)
      have y2 : W .i64 (f.tmod 90) = f.tmod 90 := ZX (by omega)
      have y3 : W .i64 (f.tmod 90 - 10) = f.tmod 90 - 10 := ZX (by omega)
      have y4 : W .i64 (3 + i5) = 3 + i5 := ZX (by omega)
      have y5 : (3 + i5).toNat = 3 + k5 := by omega
      have y6 : 0 ≤ 3 + i5 := by omega
      have y7 : 3 + i5 < 7 := by omega
      have y8 : (if 10 < f.tmod 90 then f.tmod 90 - 10 else 0) = max 0 (f.tmod 90 - 10) := by split <;> omega
      have y9 : (if 0 < f.tmod 90 - 10 then f.tmod 90 - 10 else 0) = max 0 (f.tmod 90 - 10) := by split <;> omega
      have q5 := fun (h : 3 + k5 < (rU v).length) => Option.some.inj ((List.getElem?_eq_getElem h).symm.trans hq)
      have hnx5 : ac5 ++ [max 0 (f.tmod 90 - 10)] = wMins v (k5 + 1) := by rw [hF5, ← hac5]
      have hnl5 : (ac5 ++ [max 0 (f.tmod 90 - 10)]).length = p5 + 1 + 1 := by simp [hacl5]
      have hap5 : ac5.map rI ++ [[I (max 0 (f.tmod 90 - 10))]] = (ac5 ++ [max 0 (f.tmod 90 - 10)]).map rI := by rw [List.map_append]; rfl
      generalize ac5 ++ [max 0 (f.tmod 90 - 10)] = nx5 at *
      have hrx5 := fun n => rI_rb n 4 nx5
      have HH12 := zA tk5 (zA hlac5 (zA hacl5 (zA hr35 (zA hi05 (zA htn5 (zA hk05 (zA hwi5 (zA hap5 (zA hq (zA q5 (zA y1 (zA y2 (zA y3 (zA y4 (zA y5 (zA y6 (zA y7 (zA y8 y9))))))))))))))))))
      refine zK ?_
      simp only [zT, zB]
      refine zS ?_
      refine zL ?_
      refine Ye (by simp (maxSteps := 3000000) [-Zc, c19, HH1, HH8, HH9, ↓HH10, ↓hfr5, ↓hrj5, ↓hrx5, zI, HH12]; rfl) ?_
      simp only [zT, zB]
      refine zR (zO (by simp [-Zc, c19, HH1, HH8, HH9, ↓HH10, ↓hfr5, ↓hrj5, ↓hrx5, zI, HH12]; rfl) ?_)
      simp only [zT, zB]
      exact ⟨mn - (k5 + 1), _, _, by omega, by simp [-Zc, c19, HH1, HH8, HH9, ↓HH10, ↓hfr5, ↓hrj5, ↓hrx5, zI, HH12] <;> first | exact ⟨rfl, rfl⟩ | rfl, k5 + 1, i5 + 1, by omega, rfl, by omega, .inr ⟨p5 + 1, nx5, by omega, hnx5, hnl5, rfl⟩⟩
     ·have hx5 := of_decide_eq_false hlt5
      have hkE5 : k5 = mn := by omega
      rw [hkE5] at hac5
      have hz5 : p5 + 1 = mn := by omega
      have hne5 : ac5 ≠ [] := by intro e; rw [e] at hacl5; simp at hacl5
      rw [← hac5] at hF4
      have hro5 : Yf ⟨e0.tmod (kn : Int), e1, 3 * e2, ac5⟩ = [I (e0.tmod (kn : Int)), I e1, I (3 * e2), .vl (ac5.map rI) false] := by unfold Yf; rw [encE_ne hne5]
      have hrl5 : ((ac5.map rI).all fun r => r.length == 1) = true := by simp [rI]
      have hrs5 : ((ac5.map rI).all fun r => r.all Zq) = true := by simp [rI]
      have hnx4 : ac4 ++ [(⟨e0.tmod (kn : Int), e1, 3 * e2, ac5⟩ : FJob)] = wJ W_ (k4 + 1) := by rw [hF4, ← hac4]
      have hnl4 : (ac4 ++ [(⟨e0.tmod (kn : Int), e1, 3 * e2, ac5⟩ : FJob)]).length = p4 + 1 + 1 := by simp [hacl4]
      have hap4 : ac4.map Yf ++ [[I (e0.tmod (kn : Int)), I e1, I (3 * e2), .vl (ac5.map rI) false]] = (ac4 ++ [(⟨e0.tmod (kn : Int), e1, 3 * e2, ac5⟩ : FJob)]).map Yf := by rw [List.map_append]; show _ = _ ++ [Yf ((⟨e0.tmod (kn : Int), e1, 3 * e2, ac5⟩ : FJob))]; rw [hro5]
      generalize ac4 ++ [(⟨e0.tmod (kn : Int), e1, 3 * e2, ac5⟩ : FJob)] = nx4 at *
      have hrx4 := fun n => rowJ_rb n 4 nx4
      have HH13 := zA tk5 (zA hlac5 (zA hacl5 (zA hr35 hap4)))
      have HH14 := zA hfr5 (zA hrj5 (zA hrx4 (zA hrl5 hrs5)))
      refine ZL ?_
      simp only [zT, zB, if_true, if_false, reduceIte, Nat.reduceEqDiff, Nat.succ_ne_zero, Nat.one_ne_zero, Nat.zero_ne_one]
      refine zR (zO (by simp [-Zc, c19, HH1, HH8, HH9, ↓HH10, Zm, HH13, ↓HH14]; rfl) ?_)
      simp only [zT, zB]
      refine zR (zO (by simp [-Zc, c19, HH1, HH8, HH9, ↓HH10, Zm, HH13, ↓HH14]; rfl) ?_)
      simp only [zT, zB]
      exact ⟨(min W_.ys.length 5) - (k4 + 1), _, _, by omega, by simp [-Zc, c19, HH1, HH8, HH9, ↓HH10, Zm, HH13, ↓HH14] <;> first | exact ⟨rfl, rfl⟩ | rfl, k4 + 1, i4 + 1, by omega, rfl, by omega, .inr ⟨p4 + 1, nx4, by omega, hnx4, hnl4, rfl⟩⟩
   ·have hAt4 := of_decide_eq_true hA4
    have hx4 := of_decide_eq_false hlt4
    have hkE4 : k4 = (min W_.ys.length 5) := by omega
    rw [hkE4] at hac4
    have hJne : ac4 ≠ [] := by intro e; rw [e] at hacl4; simp at hacl4
    have hJe : encJ ac4 = .vl (ac4.map Yf) false := encJ_ne hJne
    have hz4 : min W_.ys.length 5 = p4 + 1 := by omega
    refine ZL ?_
    simp only [zT, zB, if_true, if_false, reduceIte, Nat.reduceEqDiff, Nat.succ_ne_zero, Nat.one_ne_zero, Nat.zero_ne_one]
    refine zS ?_
    refine zR (zO (by simp [-Zc, c19, ↓crb, ↓frb, HH1, ↓hfr4, ↓hrj4, HH8, hJe, ← hac4, frz_rowJ, ↓rowJ_rb]; rfl) ?_)
    simp only [zT, zB]
    refine Zj ?_
    simp [-Zc, c19, ↓crb, ↓frb, HH1, ↓hfr4, ↓hrj4, HH8, hJe, ← hac4, frz_rowJ, ↓rowJ_rb, trim]
theorem a41 (P : Program) (T : Nat → Option CFn) (hT : T 41 = some { c41 with body := annK [(118, [.cell 4 1]), (502, [.slot 7]), (566, [.cell 4 2]), (12342, [.slot 12]), (127030, [.cell 15 3])] [] c41.body }) (W_ : FWorks) (x y : Za) (hx : Yi x = some (W_.xs.map rU)) (hy : Yi y = some (W_.ys.map rU)) (hw : WkOk W_) : ZH P T 41 [.agg (wkC W_ x y)] [] fun v h => frz false h 5 v = some (.tup [.agg [I (wM W_), encC (wC W_ (wK W_).toNat), encN (wT W_ (min W_.xs.length 6))], encJ (wJ W_ (min W_.ys.length 5))]) := by
 have lx := rowsV_len hx
 have ly := rowsV_len hy
 rw [List.length_map] at lx ly
 obtain ⟨bm, bk, bg, bxs, bys, bo⟩ := hw
 have c0 : (wkC W_ x y)[0]? = some (.int .u8 W_.m) := rfl
 have c1 : (wkC W_ x y)[1]? = some (.int .u8 W_.k) := rfl
 have cg : ∀ p q, p < 4 → q < 4 → (wkC W_ x y)[2 + p * 4 + q]? = some (.int .u8 (gAt W_ p q)) := fun p q hp hq => by
  have e : 2 + p * 4 + q = (p * 4 + q + 1) + 1 := by omega
  unfold wkC gAt
  rw [e, List.getElem?_cons_succ, List.getElem?_cons_succ, List.append_assoc, List.getElem?_append_left (by rw [rU_len, bg.1]; omega), rU_get (by rw [bg.1]; omega)]
 have c18 : (wkC W_ x y)[18]? = some x := by
  unfold wkC
  rw [show 18 = 16 + 1 + 1 by rfl, List.getElem?_cons_succ, List.getElem?_cons_succ, List.append_assoc, List.getElem?_append_right (by rw [rU_len, bg.1]; exact Nat.le_refl _), rU_len, bg.1]; rfl
 have c19 : (wkC W_ x y)[19]? = some y := by
  unfold wkC
  rw [show 19 = 17 + 1 + 1 by rfl, List.getElem?_cons_succ, List.getElem?_cons_succ, List.append_assoc, List.getElem?_append_right (by rw [rU_len, bg.1]; omega), rU_len, bg.1]; rfl
 obtain ⟨cx1, cx2⟩ := Xl hx
 obtain ⟨cy1, cy2⟩ := Xl hy
 have rx := fun n d => rowsV_rb hx n d
 have ry := fun n d => rowsV_rb hy n d
 have crb : ∀ n, (wkC W_ x y).all (rb n 5) = true := fun n => by
  have h1 := rU_rb n 4 W_.g
  have h2 := rU_rb n 4 W_.o
  simp only [wkC, List.all_cons, List.all_append, h1, h2, rx, ry, YE, List.all_nil, Bool.and_true]
 have cst : (wkC W_ x y).all Zq = true := by
  have h1 := rU_stor W_.g
  have h2 := rU_stor W_.o
  simp only [wkC, List.all_cons, List.all_append, h1, h2, cx2, cy2, List.all_nil, Bool.and_true]; rfl
 have ccl : cellsOf (.agg (wkC W_ x y)) = some (wkC W_ x y) := rfl
 have clen : (wkC W_ x y).length = 26 := by simp [wkC, rU_len, bg.1, bo.1]
 generalize hcells : wkC W_ x y = cells at *
 have g0 := fun (h : 0 < cells.length) => Option.some.inj ((List.getElem?_eq_getElem h).symm.trans c0)
 have g1 := fun (h : 1 < cells.length) => Option.some.inj ((List.getElem?_eq_getElem h).symm.trans c1)
 have g18 := fun (h : 18 < cells.length) => Option.some.inj ((List.getElem?_eq_getElem h).symm.trans c18)
 have g19 := fun (h : 19 < cells.length) => Option.some.inj ((List.getElem?_eq_getElem h).symm.trans c19)
 have hmM : 0 ≤ W_.m.tmod 4 ∧ W_.m.tmod 4 < 4 := ⟨Int.tmod_nonneg 4 bm.1, Int.tmod_lt_of_pos _ (by decide)⟩
 have hkK : 0 ≤ W_.k.tmod 4 ∧ W_.k.tmod 4 < 4 := ⟨Int.tmod_nonneg 4 bk.1, Int.tmod_lt_of_pos _ (by decide)⟩
 have bm1 := bm.1
 have bm2 := bm.2
 have bk1 := bk.1
 have bk2 := bk.2
 have wm0 : W .i64 W_.m = W_.m := ZX (by omega)
 have wk0 : W .i64 W_.k = W_.k := ZX (by omega)
 have wm1 : W .i64 (1 + W_.m.tmod 4) = wM W_ := ZX (by omega)
 have wk1 : W .i64 (1 + W_.k.tmod 4) = wK W_ := ZX (by omega)
 have hM : 1 ≤ wM W_ ∧ wM W_ ≤ 4 := by unfold wM; omega
 have hK : 1 ≤ wK W_ ∧ wK W_ ≤ 4 := by unfold wK; omega
 obtain ⟨mn, hmn⟩ : ∃ mn : Nat, wM W_ = mn := ⟨(wM W_).toNat, by omega⟩
 obtain ⟨kn, hkn⟩ : ∃ kn : Nat, wK W_ = kn := ⟨(wK W_).toNat, by omega⟩
 have hmt : (wM W_).toNat = mn := by omega
 have hkt : (wK W_).toNat = kn := by omega
 rw [hmn] at hM wm1
 rw [hkn] at hK wk1
 obtain ⟨hM1, hM4⟩ := hM
 obtain ⟨hK1, hK4⟩ := hK
 have hM1 : 1 ≤ mn := by omega
 have hK1 : 1 ≤ kn := by omega
 have hM4 : mn ≤ 4 := by omega
 have hK4 : kn ≤ 4 := by omega
 have wmb := wm1
 have W41 : W .i64 4 = 4 := by decide
 refine Zs hT (Zu rfl) ?_
 simp only [oo, om, op, og, ci, cl, c41, annK, lkG, lkR, reduceIte, Nat.reduceEqDiff, reduceCtorEq, List.cons.injEq, and_true, and_false, false_and, true_and]
 have HH1 := zA lx (zA ly (zA c0 (zA c1 (zA g0 (zA g1 (zA g18 (zA g19 (zA cx1 (zA cx2 (zA cy1 (zA cy2 (zA rx (zA ry (zA ccl (zA clen (zA wm0 (zA wk0 (zA wm1 wk1))))))))))))))))))
 refine zS ?_
 refine zR (zO (by simp [-Zc, c18, c19, ↓crb, ↓cst, HH1]; rfl) ?_)
 simp only [zT, zB]
 refine zS ?_
 refine zR (zO (by simp [-Zc, c18, c19, ↓crb, ↓cst, HH1]; rfl) ?_)
 simp only [zT, zB]
 refine zS ?_
 refine zR (zO (by simp [-Zc, c18, c19, ↓crb, ↓cst, HH1]; rfl) ?_)
 simp only [zT, zB]
 refine zS ?_
 refine zS ?_
 refine zR (zO (by simp [-Zc, c18, c19, ↓crb, ↓cst, HH1]; rfl) ?_)
 simp only [zT, zB]
 refine zL ?_
 refine XJ (fun mm1 σ => ∃ (k1 : Nat) (i1 : Int), i1 = k1 ∧ kn - k1 = mm1 ∧ k1 ≤ kn ∧ ((k1 = 0 ∧ σ = ⟨[.any, .ref 0 0 0, .ref 1 0 0, .any, .ref 2 0 0, I (kn : Int), I i1, .any, .any, .any, .any, .any, .any, .any, .any, .any, .any, .any, .any, .any, .any, .any, .any, .any, .any, .any, .any, .any, .any, .any, .any, .any, .any, .any, .any, .any, .any, .any, .any, .any, .any, .any, .any, .any, .any, .any, .any, .any, .any, .any, .any, .any, .any, .any, .any, .any, .any, .any, .any, .any, .any, .any, .any, .any, .any, .any, .any, .any, .any, .any, .any, .any, .any, .any, .any, .any, .any, .any, .any, .any, .any, .any, .any, .any, .any, .any, .any, .any, .any, .any, .any, .any, .any, .any, .any, .any, .any, .any, .any, .any, .any, .any, .any, .any, .any, .any, .any, .any, .any, .any, .any, .any, .any, .any, .any, .any, .any, .any, .any, .any, .any, .any, .any, .any, .any, .any, .any, .any, .any, .any, .any, .any, .any, .any, .any, .any, .any, .any, .any, .any, .any, .any, .any, .any, .any, .any, .any, .any, .any, .any, .any, .any, .any, .any, .any, .any], [some (.row 26 [cells]), some (.row 3 [[I 0, .nils, .nils]]), some (.row 3 [[I (mn : Int), .nils, .nils]]), none]⟩) ∨ (∃ (p1 : Nat) (ac1 : List (List Int)), k1 = p1 + 1 ∧ ac1 = wC W_ (k1) ∧ ac1.length = p1 + 1 ∧ σ = ⟨[.any, .ref 0 0 0, .ref 1 0 0, .any, .ref 2 0 0, I (kn : Int), I i1, .any, .any, .any, .any, .any, .any, .any, .any, .any, .any, .any, .any, .any, .any, .any, .any, .any, .any, .any, .any, .any, .any, .any, .any, .any, .any, .any, .any, .any, .any, .any, .any, .any, .any, .any, .any, .any, .any, .any, .any, .any, .any, .any, .any, .any, .any, .any, .any, .any, .any, .any, .any, .any, .any, .any, .any, .any, .any, .any, .any, .any, .any, .any, .any, .any, .any, .any, .any, .any, .any, .any, .any, .any, .any, .any, .any, .any, .any, .any, .any, .any, .any, .any, .any, .any, .any, .any, .any, .any, .any, .any, .any, .any, .any, .any, .any, .any, .any, .any, .any, .any, .any, .any, .any, .any, .any, .any, .any, .any, .any, .any, .any, .any, .any, .any, .any, .any, .any, .any, .any, .any, .any, .any, .any, .any, .any, .any, .any, .any, .any, .any, .any, .any, .any, .any, .any, .any, .any, .any, .any, .any, .any, .any, .any, .any, .any, .any, .any, .any], [some (.row 26 [cells]), some (.row 3 [[I 0, .nils, .nils]]), some (.row 3 [[I (mn : Int), .sl 3 0 (p1 + 1) false, .nils]]), some (.row 1 (ac1.map rowC))]⟩))) (by simp [-Zc, c18, c19, ↓crb, ↓cst, HH1] <;> first | exact ⟨rfl, rfl⟩ | rfl) (⟨0, 0, rfl, rfl, Nat.zero_le _, .inl ⟨rfl, rfl⟩⟩) ?_
 rintro mm1 σ ⟨k1, i1, hik1, rfl, hkl1, ⟨hkz1, rfl⟩ | ⟨p1, ac1, hkp1, hac1, hacl1, rfl⟩⟩
 ·refine zS ?_
  refine zS ?_
  refine zR (zO (by simp [-Zc, c18, c19, ↓crb, ↓cst, HH1]; rfl) ?_)
  simp only [zT, zB]
  refine Zg (x := _) rfl (fun hlt1 => ?_) (fun hlt1 => ?_)
  ·have hltt1 := of_decide_eq_true hlt1
   have hk01 : k1 < kn := by omega
   have hi01 : 0 ≤ i1 := by omega
   have htn1 : i1.toNat = k1 := by omega
   have hwi1 : W .i64 (i1 + 1) = i1 + 1 := ZR (by omega)
   refine zK ?_
   simp only [zT, zB]
   refine zS ?_
   refine zL ?_
   refine zS ?_
   refine zR (zO (by simp [-Zc, c18, c19, ↓crb, ↓cst, HH1, hi01, htn1, hk01, hwi1]; rfl) ?_)
   simp only [zT, zB]
   refine zS ?_
   refine zS ?_
   refine zR (zO (by simp [-Zc, c18, c19, ↓crb, ↓cst, HH1, hi01, htn1, hk01, hwi1]; rfl) ?_)
   simp only [zT, zB]
   refine zL ?_
   refine XJ (fun mm2 σ => ∃ (k2 : Nat) (i2 : Int), i2 = k2 ∧ kn - k2 = mm2 ∧ k2 ≤ kn ∧ ((k2 = 0 ∧ σ = ⟨[.any, .ref 0 0 0, .ref 1 0 0, .any, .ref 2 0 0, I (kn : Int), I i1, .sl 5 0 0 true, I i2, .any, .any, .any, .any, .any, .any, .any, .any, .any, .any, .any, .any, .any, .any, .any, .any, .any, .any, .any, .any, .any, .any, .any, .any, .any, .any, .any, .any, .any, .any, .any, .any, .any, .any, .any, .any, .any, .any, .any, .any, .any, .any, .any, .any, .any, .any, .any, .any, .any, .any, .any, .any, .any, .any, .any, .any, .any, .any, .any, .any, .any, .any, .any, .any, .any, .any, .any, .any, .any, .any, .any, .any, .any, .any, .any, .any, .any, .any, .any, .any, .any, .any, .any, .any, .any, .any, .any, .any, .any, .any, .any, .any, .any, .any, .any, .any, .any, .any, .any, .any, .any, .any, .any, .any, .any, .any, .any, .any, .any, .any, .any, .any, .any, .any, .any, .any, .any, .any, .any, .any, .any, .any, .any, .any, .any, .any, .any, .any, .any, .any, .any, .any, .any, .any, .any, .any, .any, .any, .any, .any, .any, .any, .any, .any, .any, .any, .any], [some (.row 26 [cells]), some (.row 3 [[I 0, .nils, .nils]]), some (.row 3 [[I (mn : Int), .nils, .nils]]), none, none, some (.row 1 [])]⟩) ∨ (∃ (p2 : Nat) (ac2 : List (Int)), k2 = p2 + 1 ∧ ac2 = wRow W_ k1 (k2) ∧ ac2.length = p2 + 1 ∧ σ = ⟨[.any, .ref 0 0 0, .ref 1 0 0, .any, .ref 2 0 0, I (kn : Int), I i1, .sl 5 0 (p2 + 1) false, I i2, .any, .any, .any, .any, .any, .any, .any, .any, .any, .any, .any, .any, .any, .any, .any, .any, .any, .any, .any, .any, .any, .any, .any, .any, .any, .any, .any, .any, .any, .any, .any, .any, .any, .any, .any, .any, .any, .any, .any, .any, .any, .any, .any, .any, .any, .any, .any, .any, .any, .any, .any, .any, .any, .any, .any, .any, .any, .any, .any, .any, .any, .any, .any, .any, .any, .any, .any, .any, .any, .any, .any, .any, .any, .any, .any, .any, .any, .any, .any, .any, .any, .any, .any, .any, .any, .any, .any, .any, .any, .any, .any, .any, .any, .any, .any, .any, .any, .any, .any, .any, .any, .any, .any, .any, .any, .any, .any, .any, .any, .any, .any, .any, .any, .any, .any, .any, .any, .any, .any, .any, .any, .any, .any, .any, .any, .any, .any, .any, .any, .any, .any, .any, .any, .any, .any, .any, .any, .any, .any, .any, .any, .any, .any, .any, .any, .any, .any], [some (.row 26 [cells]), some (.row 3 [[I 0, .nils, .nils]]), some (.row 3 [[I (mn : Int), .nils, .nils]]), none, none, some (.row 1 (ac2.map rI))]⟩))) (by simp [-Zc, c18, c19, ↓crb, ↓cst, HH1, hi01, htn1, hk01, hwi1] <;> first | exact ⟨rfl, rfl⟩ | rfl) (⟨0, 0, rfl, rfl, Nat.zero_le _, .inl ⟨rfl, rfl⟩⟩) ?_
   rintro mm2 σ ⟨k2, i2, hik2, rfl, hkl2, ⟨hkz2, rfl⟩ | ⟨p2, ac2, hkp2, hac2, hacl2, rfl⟩⟩
   ·refine zS ?_
    refine zS ?_
    refine zR (zO (by simp [-Zc, c18, c19, ↓crb, ↓cst, HH1, hi01, htn1, hk01, hwi1]; rfl) ?_)
    simp only [zT, zB]
    refine Zg (x := _) rfl (fun hlt2 => ?_) (fun hlt2 => ?_)
    ·have hltt2 := of_decide_eq_true hlt2
     have hk02 : k2 < kn := by omega
     have hi02 : 0 ≤ i2 := by omega
     have htn2 : i2.toNat = k2 := by omega
     have hwi2 : W .i64 (i2 + 1) = i2 + 1 := ZR (by omega)
     have hik4 : i1 < 4 := by omega
     have hjk4 : i2 < 4 := by omega
     have hgu := XS (k := k1 * 4 + k2) bg.2
     have hgc := cg k1 k2 (by omega) (by omega)
     have hF2 : wRow W_ k1 (k2 + 1) = wRow W_ k1 k2 ++ [(gAt W_ k1 k2).tmod 40] := range_map1 _ _
     have hgv : isU (gAt W_ k1 k2) := hgu
     generalize gAt W_ k1 k2 = G at *
     have wg0 : W .i64 G = G := ZX (by have := hgv.1; have := hgv.2; omega)
     have hg1 : 0 ≤ G.tmod 40 := Int.tmod_nonneg 40 hgv.1
     have hg2 : G.tmod 40 < 40 := Int.tmod_lt_of_pos _ (by decide)
     have wg1 : W .i64 (G.tmod 40) = G.tmod 40 := ZX (by omega)
     have hnx2 : [G.tmod 40] = wRow W_ k1 (k2 + 1) := by rw [hF2, hkz2]; rfl
     have hap2 : [[I (G.tmod 40)]] = [G.tmod 40].map rI := rfl
     have HH2 := zA hi01 (zA htn1 (zA hk01 (zA hwi1 (zA hi02 (zA htn2 (zA hk02 (zA hwi2 (zA hik4 (zA hjk4 (zA hgc (zA wg0 wg1)))))))))))
     refine zK ?_
     simp only [zT, zB]
     refine zS ?_
     refine zL ?_
     refine zR (zO (by simp [-Zc, c18, c19, ↓crb, ↓cst, HH1, zI, HH2]; rfl) ?_)
     simp only [zT, zB]
     refine zR (zO (by simp [-Zc, c18, c19, ↓crb, ↓cst, HH1, zI, HH2]; rfl) ?_)
     simp only [zT, zB]
     exact ⟨kn - (k2 + 1), _, _, by omega, by simp [-Zc, c18, c19, ↓crb, ↓cst, HH1, zI, HH2] <;> first | exact ⟨rfl, rfl⟩ | rfl, k2 + 1, i2 + 1, by omega, rfl, by omega, .inr ⟨0, [G.tmod 40], by omega, hnx2, rfl, rfl⟩⟩
    ·have hx2 := of_decide_eq_false hlt2
     have hkE2 : k2 = kn := by omega
     omega
   ·have tk2 : (ac2.map rI).take (p2 + 1) = ac2.map rI := List.take_of_length_le (by simp [hacl2])
    have hlac2 : p2 + 1 + 1 ≤ 1048576 := by omega
    have hr32 : ∀ e : Int, (rI e).length = 1 := fun _ => rfl
    have hfr2 := fun n h r => optAll_snoc (frN_rI n h ac2) r
    have hrj2 := fun n => rI_rb n 4 ac2
    have HH3 := zA hi01 (zA htn1 (zA hk01 (zA hwi1 (zA tk2 (zA hlac2 (zA hacl2 hr32))))))
    refine zS ?_
    refine zS ?_
    refine zR (zO (by simp [-Zc, c18, c19, ↓crb, ↓cst, HH1, ↓hfr2, ↓hrj2, HH3]; rfl) ?_)
    simp only [zT, zB]
    refine Zg (x := _) rfl (fun hlt2 => ?_) (fun hlt2 => ?_)
    ·have hltt2 := of_decide_eq_true hlt2
     have hk02 : k2 < kn := by omega
     have hi02 : 0 ≤ i2 := by omega
     have htn2 : i2.toNat = k2 := by omega
     have hwi2 : W .i64 (i2 + 1) = i2 + 1 := ZR (by omega)
     have hik4 : i1 < 4 := by omega
     have hjk4 : i2 < 4 := by omega
     have hgu := XS (k := k1 * 4 + k2) bg.2
     have hgc := cg k1 k2 (by omega) (by omega)
     have hF2 : wRow W_ k1 (k2 + 1) = wRow W_ k1 k2 ++ [(gAt W_ k1 k2).tmod 40] := range_map1 _ _
     have hgv : isU (gAt W_ k1 k2) := hgu
     generalize gAt W_ k1 k2 = G at *
     have wg0 : W .i64 G = G := ZX (by have := hgv.1; have := hgv.2; omega)
     have hg1 : 0 ≤ G.tmod 40 := Int.tmod_nonneg 40 hgv.1
     have hg2 : G.tmod 40 < 40 := Int.tmod_lt_of_pos _ (by decide)
     have wg1 : W .i64 (G.tmod 40) = G.tmod 40 := ZX (by omega)
     have hnx2 : ac2 ++ [G.tmod 40] = wRow W_ k1 (k2 + 1) := by rw [hF2, ← hac2]
     have hnl2 : (ac2 ++ [G.tmod 40]).length = p2 + 1 + 1 := by simp [hacl2]
     have hap2 : ac2.map rI ++ [[I (G.tmod 40)]] = (ac2 ++ [G.tmod 40]).map rI := by rw [List.map_append]; rfl
     generalize ac2 ++ [G.tmod 40] = nx2 at *
     have hrx2 := fun n => rI_rb n 4 nx2
     have HH4 := zA hi02 (zA htn2 (zA hk02 (zA hwi2 (zA hap2 (zA hik4 (zA hjk4 (zA hgc (zA wg0 wg1))))))))
     have HH5 := zA crb (zA cst (zA hfr2 (zA hrj2 hrx2)))
     refine zK ?_
     simp only [zT, zB]
     refine zS ?_
     refine zL ?_
     refine zR (zO (by simp [-Zc, c18, c19, HH1, HH3, zI, HH4, ↓HH5]; rfl) ?_)
     simp only [zT, zB]
     refine zR (zO (by simp [-Zc, c18, c19, HH1, HH3, zI, HH4, ↓HH5]; rfl) ?_)
     simp only [zT, zB]
     exact ⟨kn - (k2 + 1), _, _, by omega, by simp [-Zc, c18, c19, HH1, HH3, zI, HH4, ↓HH5] <;> first | exact ⟨rfl, rfl⟩ | rfl, k2 + 1, i2 + 1, by omega, rfl, by omega, .inr ⟨p2 + 1, nx2, by omega, hnx2, hnl2, rfl⟩⟩
    ·have hx2 := of_decide_eq_false hlt2
     have hkE2 : k2 = kn := by omega
     rw [hkE2] at hac2
     have hz2 : p2 + 1 = kn := by omega
     have hF1 : wC W_ (k1 + 1) = wC W_ k1 ++ [wRow W_ k1 kn] := by unfold wC; rw [range_map1, hkt]
     have hne2 : ac2 ≠ [] := by intro e; rw [e] at hacl2; simp at hacl2
     rw [← hac2] at hF1
     have hro : rowC ac2 = [.vl (ac2.map rI) false] := by unfold rowC; rw [encE_ne hne2]
     have hrl : ((ac2.map rI).all fun r => r.length == 1) = true := by simp [rI]
     have hrs : ((ac2.map rI).all fun r => r.all Zq) = true := by simp [rI]
     have hnx1 : [ac2] = wC W_ (k1 + 1) := by rw [hF1, hkz1]; rfl
     have hap1 : [[.vl (ac2.map rI) false]] = [ac2].map rowC := by show _ = [rowC (ac2)]; rw [hro]
     have HH6 := zA crb (zA cst (zA hfr2 (zA hrj2 (zA hrl hrs))))
     refine ZL ?_
     simp only [zT, zB, if_true, if_false, reduceIte, Nat.reduceEqDiff, Nat.succ_ne_zero, Nat.one_ne_zero, Nat.zero_ne_one]
     refine zR (zO (by simp [-Zc, c18, c19, HH1, HH3, hro, Zm, ↓HH6]; rfl) ?_)
     simp only [zT, zB]
     refine zR (zO (by simp [-Zc, c18, c19, HH1, HH3, hro, Zm, ↓HH6]; rfl) ?_)
     simp only [zT, zB]
     exact ⟨kn - (k1 + 1), _, _, by omega, by simp [-Zc, c18, c19, HH1, HH3, hro, Zm, ↓HH6] <;> first | exact ⟨rfl, rfl⟩ | rfl, k1 + 1, i1 + 1, by omega, rfl, by omega, .inr ⟨0, [ac2], by omega, hnx1, rfl, rfl⟩⟩
  ·have hx1 := of_decide_eq_false hlt1
   have hkE1 : k1 = kn := by omega
   omega
 ·have tk1 : (ac1.map rowC).take (p1 + 1) = ac1.map rowC := List.take_of_length_le (by simp [hacl1])
  have hlac1 : p1 + 1 + 1 ≤ 1048576 := by omega
  have hr31 : ∀ e : List Int, (rowC e).length = 1 := fun _ => rfl
  have hfr1 := fun n h r => optAll_snoc (frN_rowC n h ac1) r
  have hrj1 := fun n => rowC_rb n 4 ac1
  refine zS ?_
  refine zS ?_
  refine zR (zO (by simp [-Zc, c18, c19, ↓crb, ↓cst, HH1, tk1, hlac1, hacl1, hr31, ↓hfr1, ↓hrj1]; rfl) ?_)
  simp only [zT, zB]
  refine Zg (x := _) rfl (fun hlt1 => ?_) (fun hlt1 => ?_)
  ·have hltt1 := of_decide_eq_true hlt1
   have hk01 : k1 < kn := by omega
   have hi01 : 0 ≤ i1 := by omega
   have htn1 : i1.toNat = k1 := by omega
   have hwi1 : W .i64 (i1 + 1) = i1 + 1 := ZR (by omega)
   have HH7 := zA tk1 (zA hlac1 (zA hacl1 (zA hr31 (zA hi01 (zA htn1 (zA hk01 hwi1))))))
   refine zK ?_
   simp only [zT, zB]
   refine zS ?_
   refine zL ?_
   refine zS ?_
   refine zR (zO (by simp [-Zc, c18, c19, ↓crb, ↓cst, HH1, ↓hfr1, ↓hrj1, HH7]; rfl) ?_)
   simp only [zT, zB]
   refine zS ?_
   refine zS ?_
   refine zR (zO (by simp [-Zc, c18, c19, ↓crb, ↓cst, HH1, ↓hfr1, ↓hrj1, HH7]; rfl) ?_)
   simp only [zT, zB]
   refine zL ?_
   refine XJ (fun mm2 σ => ∃ (k2 : Nat) (i2 : Int), i2 = k2 ∧ kn - k2 = mm2 ∧ k2 ≤ kn ∧ ((k2 = 0 ∧ σ = ⟨[.any, .ref 0 0 0, .ref 1 0 0, .any, .ref 2 0 0, I (kn : Int), I i1, .sl 5 0 0 true, I i2, .any, .any, .any, .any, .any, .any, .any, .any, .any, .any, .any, .any, .any, .any, .any, .any, .any, .any, .any, .any, .any, .any, .any, .any, .any, .any, .any, .any, .any, .any, .any, .any, .any, .any, .any, .any, .any, .any, .any, .any, .any, .any, .any, .any, .any, .any, .any, .any, .any, .any, .any, .any, .any, .any, .any, .any, .any, .any, .any, .any, .any, .any, .any, .any, .any, .any, .any, .any, .any, .any, .any, .any, .any, .any, .any, .any, .any, .any, .any, .any, .any, .any, .any, .any, .any, .any, .any, .any, .any, .any, .any, .any, .any, .any, .any, .any, .any, .any, .any, .any, .any, .any, .any, .any, .any, .any, .any, .any, .any, .any, .any, .any, .any, .any, .any, .any, .any, .any, .any, .any, .any, .any, .any, .any, .any, .any, .any, .any, .any, .any, .any, .any, .any, .any, .any, .any, .any, .any, .any, .any, .any, .any, .any, .any, .any, .any, .any], [some (.row 26 [cells]), some (.row 3 [[I 0, .nils, .nils]]), some (.row 3 [[I (mn : Int), .sl 3 0 (p1 + 1) false, .nils]]), some (.row 1 (ac1.map rowC)), none, some (.row 1 [])]⟩) ∨ (∃ (p2 : Nat) (ac2 : List (Int)), k2 = p2 + 1 ∧ ac2 = wRow W_ k1 (k2) ∧ ac2.length = p2 + 1 ∧ σ = ⟨[.any, .ref 0 0 0, .ref 1 0 0, .any, .ref 2 0 0, I (kn : Int), I i1, .sl 5 0 (p2 + 1) false, I i2, .any, .any, .any, .any, .any, .any, .any, .any, .any, .any, .any, .any, .any, .any, .any, .any, .any, .any, .any, .any, .any, .any, .any, .any, .any, .any, .any, .any, .any, .any, .any, .any, .any, .any, .any, .any, .any, .any, .any, .any, .any, .any, .any, .any, .any, .any, .any, .any, .any, .any, .any, .any, .any, .any, .any, .any, .any, .any, .any, .any, .any, .any, .any, .any, .any, .any, .any, .any, .any, .any, .any, .any, .any, .any, .any, .any, .any, .any, .any, .any, .any, .any, .any, .any, .any, .any, .any, .any, .any, .any, .any, .any, .any, .any, .any, .any, .any, .any, .any, .any, .any, .any, .any, .any, .any, .any, .any, .any, .any, .any, .any, .any, .any, .any, .any, .any, .any, .any, .any, .any, .any, .any, .any, .any, .any, .any, .any, .any, .any, .any, .any, .any, .any, .any, .any, .any, .any, .any, .any, .any, .any, .any, .any, .any, .any, .any, .any], [some (.row 26 [cells]), some (.row 3 [[I 0, .nils, .nils]]), some (.row 3 [[I (mn : Int), .sl 3 0 (p1 + 1) false, .nils]]), some (.row 1 (ac1.map rowC)), none, some (.row 1 (ac2.map rI))]⟩))) (by simp [-Zc, c18, c19, ↓crb, ↓cst, HH1, ↓hfr1, ↓hrj1, HH7] <;> first | exact ⟨rfl, rfl⟩ | rfl) (⟨0, 0, rfl, rfl, Nat.zero_le _, .inl ⟨rfl, rfl⟩⟩) ?_
   rintro mm2 σ ⟨k2, i2, hik2, rfl, hkl2, ⟨hkz2, rfl⟩ | ⟨p2, ac2, hkp2, hac2, hacl2, rfl⟩⟩
   ·refine zS ?_
    refine zS ?_
    refine zR (zO (by simp [-Zc, c18, c19, ↓crb, ↓cst, HH1, ↓hfr1, ↓hrj1, HH7]; rfl) ?_)
    simp only [zT, zB]
    refine Zg (x := _) rfl (fun hlt2 => ?_) (fun hlt2 => ?_)
    ·have hltt2 := of_decide_eq_true hlt2
     have hk02 : k2 < kn := by omega
     have hi02 : 0 ≤ i2 := by omega
     have htn2 : i2.toNat = k2 := by omega
     have hwi2 : W .i64 (i2 + 1) = i2 + 1 := ZR (by omega)
     have hik4 : i1 < 4 := by omega
     have hjk4 : i2 < 4 := by omega
     have hgu := XS (k := k1 * 4 + k2) bg.2
     have hgc := cg k1 k2 (by omega) (by omega)
     have hF2 : wRow W_ k1 (k2 + 1) = wRow W_ k1 k2 ++ [(gAt W_ k1 k2).tmod 40] := range_map1 _ _
     have hgv : isU (gAt W_ k1 k2) := hgu
     generalize gAt W_ k1 k2 = G at *
     have wg0 : W .i64 G = G := ZX (by have := hgv.1; have := hgv.2; omega)
     have hg1 : 0 ≤ G.tmod 40 := Int.tmod_nonneg 40 hgv.1
     have hg2 : G.tmod 40 < 40 := Int.tmod_lt_of_pos _ (by decide)
     have wg1 : W .i64 (G.tmod 40) = G.tmod 40 := ZX (by omega)
     have hnx2 : [G.tmod 40] = wRow W_ k1 (k2 + 1) := by rw [hF2, hkz2]; rfl
     have hap2 : [[I (G.tmod 40)]] = [G.tmod 40].map rI := rfl
     have HH8 := zA hi02 (zA htn2 (zA hk02 (zA hwi2 (zA hik4 (zA hjk4 (zA hgc (zA wg0 wg1)))))))
     refine zK ?_
     simp only [zT, zB]
     refine zS ?_
     refine zL ?_
     refine zR (zO (by simp [-Zc, c18, c19, ↓crb, ↓cst, HH1, ↓hfr1, ↓hrj1, HH7, zI, HH8]; rfl) ?_)
     simp only [zT, zB]
     refine zR (zO (by simp [-Zc, c18, c19, ↓crb, ↓cst, HH1, ↓hfr1, ↓hrj1, HH7, zI, HH8]; rfl) ?_)
     simp only [zT, zB]
     exact ⟨kn - (k2 + 1), _, _, by omega, by simp [-Zc, c18, c19, ↓crb, ↓cst, HH1, ↓hfr1, ↓hrj1, HH7, zI, HH8] <;> first | exact ⟨rfl, rfl⟩ | rfl, k2 + 1, i2 + 1, by omega, rfl, by omega, .inr ⟨0, [G.tmod 40], by omega, hnx2, rfl, rfl⟩⟩
    ·have hx2 := of_decide_eq_false hlt2
     have hkE2 : k2 = kn := by omega
     omega
   ·have tk2 : (ac2.map rI).take (p2 + 1) = ac2.map rI := List.take_of_length_le (by simp [hacl2])
    have hlac2 : p2 + 1 + 1 ≤ 1048576 := by omega
    have hr32 : ∀ e : Int, (rI e).length = 1 := fun _ => rfl
    have hfr2 := fun n h r => optAll_snoc (frN_rI n h ac2) r
    have hrj2 := fun n => rI_rb n 4 ac2
    have HH9 := zA crb (zA cst (zA hfr1 (zA hrj1 (zA hfr2 hrj2))))
    refine zS ?_
    refine zS ?_
    refine zR (zO (by simp [-Zc, c18, c19, HH1, HH7, tk2, hlac2, hacl2, hr32, ↓HH9]; rfl) ?_)
    simp only [zT, zB]
    refine Zg (x := _) rfl (fun hlt2 => ?_) (fun hlt2 => ?_)
    ·have hltt2 := of_decide_eq_true hlt2
     have hk02 : k2 < kn := by omega
     have hi02 : 0 ≤ i2 := by omega
     have htn2 : i2.toNat = k2 := by omega
     have hwi2 : W .i64 (i2 + 1) = i2 + 1 := ZR (by omega)
     have hik4 : i1 < 4 := by omega
     have hjk4 : i2 < 4 := by omega
     have hgu := XS (k := k1 * 4 + k2) bg.2
     have hgc := cg k1 k2 (by omega) (by omega)
     have hF2 : wRow W_ k1 (k2 + 1) = wRow W_ k1 k2 ++ [(gAt W_ k1 k2).tmod 40] := range_map1 _ _
     have hgv : isU (gAt W_ k1 k2) := hgu
     generalize gAt W_ k1 k2 = G at *
     have wg0 : W .i64 G = G := ZX (by have := hgv.1; have := hgv.2; omega)
     have hg1 : 0 ≤ G.tmod 40 := Int.tmod_nonneg 40 hgv.1
     have hg2 : G.tmod 40 < 40 := Int.tmod_lt_of_pos _ (by decide)
     have wg1 : W .i64 (G.tmod 40) = G.tmod 40 := ZX (by omega)
     have hnx2 : ac2 ++ [G.tmod 40] = wRow W_ k1 (k2 + 1) := by rw [hF2, ← hac2]
     have hnl2 : (ac2 ++ [G.tmod 40]).length = p2 + 1 + 1 := by simp [hacl2]
     have hap2 : ac2.map rI ++ [[I (G.tmod 40)]] = (ac2 ++ [G.tmod 40]).map rI := by rw [List.map_append]; rfl
     generalize ac2 ++ [G.tmod 40] = nx2 at *
     have hrx2 := fun n => rI_rb n 4 nx2
     have HH10 := zA tk2 (zA hlac2 (zA hacl2 (zA hr32 (zA hi02 (zA htn2 (zA hk02 (zA hwi2 (zA hap2 (zA hik4 (zA hjk4 (zA hgc (zA wg0 wg1))))))))))))
     refine zK ?_
     simp only [zT, zB]
     refine zS ?_
     refine zL ?_
     refine zR (zO (by simp [-Zc, c18, c19, HH1, HH7, ↓HH9, ↓hrx2, zI, HH10]; rfl) ?_)
     simp only [zT, zB]
     refine zR (zO (by simp [-Zc, c18, c19, HH1, HH7, ↓HH9, ↓hrx2, zI, HH10]; rfl) ?_)
     simp only [zT, zB]
     exact ⟨kn - (k2 + 1), _, _, by omega, by simp [-Zc, c18, c19, HH1, HH7, ↓HH9, ↓hrx2, zI, HH10] <;> first | exact ⟨rfl, rfl⟩ | rfl, k2 + 1, i2 + 1, by omega, rfl, by omega, .inr ⟨p2 + 1, nx2, by omega, hnx2, hnl2, rfl⟩⟩
    ·have hx2 := of_decide_eq_false hlt2
     have hkE2 : k2 = kn := by omega
     rw [hkE2] at hac2
     have hz2 : p2 + 1 = kn := by omega
     have hF1 : wC W_ (k1 + 1) = wC W_ k1 ++ [wRow W_ k1 kn] := by unfold wC; rw [range_map1, hkt]
     have hne2 : ac2 ≠ [] := by intro e; rw [e] at hacl2; simp at hacl2
     rw [← hac2] at hF1
     have hro : rowC ac2 = [.vl (ac2.map rI) false] := by unfold rowC; rw [encE_ne hne2]
     have hrl : ((ac2.map rI).all fun r => r.length == 1) = true := by simp [rI]
     have hrs : ((ac2.map rI).all fun r => r.all Zq) = true := by simp [rI]
     have hnx1 : ac1 ++ [ac2] = wC W_ (k1 + 1) := by rw [hF1, ← hac1]
     have hnl1 : (ac1 ++ [ac2]).length = p1 + 1 + 1 := by simp [hacl1]
     have hap1 : ac1.map rowC ++ [[.vl (ac2.map rI) false]] = (ac1 ++ [ac2]).map rowC := by rw [List.map_append]; show _ = _ ++ [rowC (ac2)]; rw [hro]
     generalize ac1 ++ [ac2] = nx1 at *
     have hrx1 := fun n => rowC_rb n 4 nx1
     have HH11 := zA tk2 (zA hlac2 (zA hacl2 (zA hr32 hap1)))
     refine ZL ?_
     simp only [zT, zB, if_true, if_false, reduceIte, Nat.reduceEqDiff, Nat.succ_ne_zero, Nat.one_ne_zero, Nat.zero_ne_one]
     refine zR (zO (by simp [-Zc, c18, c19, HH1, HH7, ↓HH9, ↓hrx1, ↓hrl, ↓hrs, Zm, HH11]; rfl) ?_)
     simp only [zT, zB]
     refine zR (zO (by simp [-Zc, c18, c19, HH1, HH7, ↓HH9, ↓hrx1, ↓hrl, ↓hrs, Zm, HH11]; rfl) ?_)
     simp only [zT, zB]
     exact ⟨kn - (k1 + 1), _, _, by omega, by simp [-Zc, c18, c19, HH1, HH7, ↓HH9, ↓hrx1, ↓hrl, ↓hrs, Zm, HH11] <;> first | exact ⟨rfl, rfl⟩ | rfl, k1 + 1, i1 + 1, by omega, rfl, by omega, .inr ⟨p1 + 1, nx1, by omega, hnx1, hnl1, rfl⟩⟩
  ·have hx1 := of_decide_eq_false hlt1
   have hkE1 : k1 = kn := by omega
   rw [hkE1] at hac1
   have hz1 : p1 + 1 = kn := by omega
   rw [hz1] at hacl1
   have hCne : ac1 ≠ [] := by intro e; rw [e] at hacl1; simp at hacl1; omega
   have hCe : encC ac1 = .vl (ac1.map rowC) false := encC_ne hCne
   rw [hz1] at tk1
   have hcrb := fun n => rowC_rb n 4 ac1
   have HH12 := zA tk1 (zA hlac1 (zA hacl1 (zA hr31 hz1)))
   have HH13 := zA crb (zA cst (zA hfr1 (zA hrj1 hcrb)))
   refine ZL ?_
   simp only [zT, zB, if_true, if_false, reduceIte, Nat.reduceEqDiff, Nat.succ_ne_zero, Nat.one_ne_zero, Nat.zero_ne_one]
   refine zS ?_
   refine zS ?_
   refine zR (zO (by simp [-Zc, c18, c19, HH1, HH12, ↓HH13]; rfl) ?_)
   simp only [zT, zB]
   refine zL ?_
   refine XJ (fun mm3 σ => ∃ (k3 : Nat) (i3 : Int), i3 = k3 ∧ (min W_.xs.length 6) - k3 = mm3 ∧ k3 ≤ (min W_.xs.length 6) ∧ ((k3 = 0 ∧ σ = ⟨[.any, .ref 0 0 0, .ref 1 0 0, .any, .ref 2 0 0, I (kn : Int), .any, .any, .any, I i3, .any, .any, .any, .any, .any, .any, .any, .any, .any, .any, .any, .any, .any, .any, .any, .any, .any, .any, .any, .any, .any, .any, .any, .any, .any, .any, .any, .any, .any, .any, .any, .any, .any, .any, .any, .any, .any, .any, .any, .any, .any, .any, .any, .any, .any, .any, .any, .any, .any, .any, .any, .any, .any, .any, .any, .any, .any, .any, .any, .any, .any, .any, .any, .any, .any, .any, .any, .any, .any, .any, .any, .any, .any, .any, .any, .any, .any, .any, .any, .any, .any, .any, .any, .any, .any, .any, .any, .any, .any, .any, .any, .any, .any, .any, .any, .any, .any, .any, .any, .any, .any, .any, .any, .any, .any, .any, .any, .any, .any, .any, .any, .any, .any, .any, .any, .any, .any, .any, .any, .any, .any, .any, .any, .any, .any, .any, .any, .any, .any, .any, .any, .any, .any, .any, .any, .any, .any, .any, .any, .any, .any, .any, .any, .any, .any, .any], [some (.row 26 [cells]), some (.row 3 [[I 0, .nils, .nils]]), some (.row 3 [[I (mn : Int), .sl 3 0 kn false, .nils]]), some (.row 1 (ac1.map rowC)), none]⟩) ∨ (∃ (p3 : Nat) (ac3 : List (YH)), k3 = p3 + 1 ∧ ac3 = wT W_ (k3) ∧ ac3.length = p3 + 1 ∧ σ = ⟨[.any, .ref 0 0 0, .ref 1 0 0, .any, .ref 2 0 0, I (kn : Int), .any, .any, .any, I i3, .any, .any, .any, .any, .any, .any, .any, .any, .any, .any, .any, .any, .any, .any, .any, .any, .any, .any, .any, .any, .any, .any, .any, .any, .any, .any, .any, .any, .any, .any, .any, .any, .any, .any, .any, .any, .any, .any, .any, .any, .any, .any, .any, .any, .any, .any, .any, .any, .any, .any, .any, .any, .any, .any, .any, .any, .any, .any, .any, .any, .any, .any, .any, .any, .any, .any, .any, .any, .any, .any, .any, .any, .any, .any, .any, .any, .any, .any, .any, .any, .any, .any, .any, .any, .any, .any, .any, .any, .any, .any, .any, .any, .any, .any, .any, .any, .any, .any, .any, .any, .any, .any, .any, .any, .any, .any, .any, .any, .any, .any, .any, .any, .any, .any, .any, .any, .any, .any, .any, .any, .any, .any, .any, .any, .any, .any, .any, .any, .any, .any, .any, .any, .any, .any, .any, .any, .any, .any, .any, .any, .any, .any, .any, .any, .any, .any], [some (.row 26 [cells]), some (.row 3 [[I 0, .nils, .nils]]), some (.row 3 [[I (mn : Int), .sl 3 0 kn false, .sl 4 0 (p3 + 1) false]]), some (.row 1 (ac1.map rowC)), some (.row 3 (ac3.map rS3))]⟩))) (by simp [-Zc, c18, c19, HH1, HH12, ↓HH13] <;> first | exact ⟨rfl, rfl⟩ | rfl) (⟨0, 0, rfl, rfl, Nat.zero_le _, .inl ⟨rfl, rfl⟩⟩) ?_
   rintro mm3 σ ⟨k3, i3, hik3, rfl, hkl3, ⟨hkz3, rfl⟩ | ⟨p3, ac3, hkp3, hac3, hacl3, rfl⟩⟩
   ·rcases hA3 : decide (i3 < (W_.xs.length : Int)) with _ | _
    ·refine zS ?_
     refine zS ?_
     refine zR (zO (by simp [-Zc, c18, c19, HH1, HH12, ↓HH13, hA3]; rfl) ?_)
     simp only [zT, zB]
     refine Zh (x := false) (by simp) ?_
     have hx3 := of_decide_eq_false hA3
     have hkE3 : k3 = (min W_.xs.length 6) := by omega
     have hwTe : k3 = min W_.xs.length 6 := hkE3
     refine ZL ?_
     simp only [zT, zB, if_true, if_false, reduceIte, Nat.reduceEqDiff, Nat.succ_ne_zero, Nat.one_ne_zero, Nat.zero_ne_one]
     have hT0 : wT W_ (min W_.xs.length 6) = [] := by rw [← hkE3, hkz3]; rfl
     rw [hT0, hkt, ← hac1]
     exact tail41 P T W_ ac1 [] cells y kn mn .nils none hM1 hM4 hK1 hK4 hmn hkn hacl1 ly hy bys crb ry c19 (fun n hn => rfl) (fun n hn => rfl) rfl rfl (fun a b c d l => rfl) _ _ _ _ _ _ _ _ _ _ _ _ _ _ _ _ _ _ _ _ _ _ _ _ _ _ _ _ _ _ _ _ _ _ _ _ _ _ _ _ _ _ _ _ _ _ _ _ _ _ _ _ _ _ _ _ _ _ _ _ _ _ _ _ _ _ _ _ _ _ _ _ _ _ _ _ _ _ _ _ _ _ _ _ _ _ _ _ _ _ _ _ _ _ _ _ _ _ _ _ _ _ _ _ _ _ _ _ _ _ _ _ _ _ _ _ _ _ _ _ _ _ _ _ _ _ _ _ _ _ _ _ _ _ _ _ _ _ _ _ _ _ _ _ _ _ _ _ _ _ _ _
    ·refine zS ?_
     refine zS ?_
     refine zR (zO (by simp [-Zc, c18, c19, HH1, HH12, ↓HH13, hA3]; rfl) ?_)
     simp only [zT, zB]
     refine Zg (x := decide (i3 < 6)) (by simp) (fun hlt3 => ?_) (fun hlt3 => ?_)
     ·have hAt3 := of_decide_eq_true hA3
      have hltt3 := of_decide_eq_true hlt3
      have hk03 : k3 < (min W_.xs.length 6) := by omega
      have hi03 : 0 ≤ i3 := by omega
      have htn3 : i3.toNat = k3 := by omega
      have hwi3 : W .i64 (i3 + 1) = i3 + 1 := ZR (by omega)
      have hxl : k3 < W_.xs.length := by omega
      obtain ⟨tx, rfl⟩ := rowsV_get hx (k := k3) (by rw [List.length_map]; omega)
      have hvv := bxs _ (List.getElem_mem hxl)
      have hF3 : wT W_ (k3 + 1) = wT W_ k3 ++ [wStop W_ W_.xs[k3]] := take_map1 _ hxl
      generalize hV : W_.xs[k3] = v at *
      have hv0 : (rU v)[0]? = some (.int .u8 (v_ v 0)) := rU_get (by omega)
      have hv1 : (rU v)[1]? = some (.int .u8 (v_ v 1)) := rU_get (by omega)
      have hv2 : (rU v)[2]? = some (.int .u8 (v_ v 2)) := rU_get (by omega)
      have hv3 : (rU v)[3]? = some (.int .u8 (v_ v 3)) := rU_get (by omega)
      have q0 := fun (h : 0 < (rU v).length) => Option.some.inj ((List.getElem?_eq_getElem h).symm.trans hv0)
      have q1 := fun (h : 1 < (rU v).length) => Option.some.inj ((List.getElem?_eq_getElem h).symm.trans hv1)
      have q2 := fun (h : 2 < (rU v).length) => Option.some.inj ((List.getElem?_eq_getElem h).symm.trans hv2)
      have q3 := fun (h : 3 < (rU v).length) => Option.some.inj ((List.getElem?_eq_getElem h).symm.trans hv3)
      have hvl : (rU v).length = 4 := by rw [rU_len, hvv.1]
      have hvst := rU_stor v
      have hvc : cellsOf (.agg (rU v)) = some (rU v) := rfl
      have hvt : (rU v).take 4 = rU v := List.take_of_length_le (by omega)
      have hvd : (rU v).drop 4 = [] := List.drop_of_length_le (by omega)
      have b0 := XS (k := 0) hvv.2
      have b1 := XS (k := 1) hvv.2
      have b2 := XS (k := 2) hvv.2
      have b3 := XS (k := 3) hvv.2
      unfold wStop v_ at hF3
      unfold v_ at hv0 hv1 hv2 hv3 q0 q1 q2 q3
      generalize v.getD 0 0 = e0 at *
      generalize v.getD 1 0 = e1 at *
      generalize v.getD 2 0 = e2 at *
      generalize v.getD 3 0 = e3 at *
      obtain ⟨b01, b02⟩ := b0
      obtain ⟨b11, b12⟩ := b1
      obtain ⟨b21, b22⟩ := b2
      obtain ⟨b31, b32⟩ := b3
      have h21 : 0 ≤ e2.tmod 2 := Int.tmod_nonneg 2 b21
      have h22 : e2.tmod 2 < 2 := Int.tmod_lt_of_pos _ (by decide)
      have h31 : 0 ≤ e3.tmod 60 := Int.tmod_nonneg 60 b31
      have h32 : e3.tmod 60 < 60 := Int.tmod_lt_of_pos _ (by decide)
      rw [hmn] at hF3
      have h01 : 0 ≤ e0.tmod (mn : Int) := Int.tmod_nonneg _ b01
      have h02 : e0.tmod (mn : Int) < mn := Int.tmod_lt_of_pos _ (by omega)
      have hmz : ¬ mn = 0 := by omega
      have hmzi : ¬ (mn : Int) = 0 := by omega
      have hmzb : ((mn : Int) == 0) = false := by simp; omega
      have hmm1 : ¬ ((mn : Int) = -1) := by omega
      have u0 : W .i64 e0 = e0 := ZX (by omega)
      have u1 : W .i64 e1 = e1 := ZX (by omega)
      have u2 : W .i64 e2 = e2 := ZX (by omega)
      have u3 : W .i64 e3 = e3 := ZX (by omega)
      have u4 : W .i64 (2 * e1) = 2 * e1 := ZX (by omega)
      have u5 : W .i64 (e2.tmod 2) = e2.tmod 2 := ZX (by omega)
      have u6 : W .i64 (2 * e1 + e2.tmod 2) = 2 * e1 + e2.tmod 2 := ZX (by omega)
      have u7 : W .i64 (e0.tmod (mn : Int)) = e0.tmod (mn : Int) := ZX (by omega)
      have u8 : W .i64 (2 * e1 + e2.tmod 2 + 1) = 2 * e1 + e2.tmod 2 + 1 := ZX (by omega)
      have u9 : W .i64 (e3.tmod 60) = e3.tmod 60 := ZX (by omega)
      have u10 : W .i64 (2 * e1 + e2.tmod 2 + 1 + e3.tmod 60) = 2 * e1 + e2.tmod 2 + 1 + e3.tmod 60 := ZX (by omega)
      have hnx3 : [(e0.tmod (mn : Int), 2 * e1 + e2.tmod 2, 2 * e1 + e2.tmod 2 + 1 + e3.tmod 60)] = wT W_ (k3 + 1) := by rw [hF3, hkz3]; rfl
      have hap3 : [[I (e0.tmod (mn : Int)), I (2 * e1 + e2.tmod 2), I (2 * e1 + e2.tmod 2 + 1 + e3.tmod 60)]] = [(e0.tmod (mn : Int), 2 * e1 + e2.tmod 2, 2 * e1 + e2.tmod 2 + 1 + e3.tmod 60)].map rS3 := rfl
      have HH14 := zA hA3 (zA hi03 (zA htn3 (zA hk03 (zA hwi3 (zA hxl (zA hV (zA hv0 (zA hv1 (zA hv2 (zA hv3 (zA q0 (zA q1 (zA q2 (zA q3 (zA hvl (zA hvc (zA hvt (zA hvd (zA hmz (zA hmzi (zA hmzb (zA hmm1 (zA u0 (zA u1 (zA u2 (zA u3 (zA u4 (zA u6 (zA u7 (zA u8 (zA u9 u10)))))))))))))))))))))))))))))))
      refine zK ?_
      simp only [zT, zB]
      refine zS ?_
      refine zL ?_
      refine zS ?_
      refine zR (zO (by simp [-Zc, c18, c19, HH1, HH12, ↓HH13, ↓hvst, u5, HH14]; rfl) ?_)
      simp only [zT, zB]
      refine zS ?_
      refine zR (zO (by simp [-Zc, c18, c19, HH1, HH12, ↓HH13, ↓hvst, u5, HH14]; rfl) ?_)
      simp only [zT, zB]
      refine Ye (by simp (maxSteps := 3000000) [-Zc, c18, c19, HH1, HH12, ↓HH13, ↓hvst, u5, HH14]; rfl) ?_
      simp only [zT, zB]
      refine zR (zO (by simp [-Zc, c18, c19, HH1, HH12, ↓HH13, ↓hvst, u5, HH14]; rfl) ?_)
      simp only [zT, zB]
      exact ⟨(min W_.xs.length 6) - (k3 + 1), _, _, by omega, by simp [-Zc, c18, c19, HH1, HH12, ↓HH13, ↓hvst, u5, HH14] <;> first | exact ⟨rfl, rfl⟩ | rfl, k3 + 1, i3 + 1, by omega, rfl, by omega, .inr ⟨0, [(e0.tmod (mn : Int), 2 * e1 + e2.tmod 2, 2 * e1 + e2.tmod 2 + 1 + e3.tmod 60)], by omega, hnx3, rfl, rfl⟩⟩
     ·have hAt3 := of_decide_eq_true hA3
      have hx3 := of_decide_eq_false hlt3
      have hkE3 : k3 = (min W_.xs.length 6) := by omega
      have hwTe : k3 = min W_.xs.length 6 := hkE3
      refine ZL ?_
      simp only [zT, zB, if_true, if_false, reduceIte, Nat.reduceEqDiff, Nat.succ_ne_zero, Nat.one_ne_zero, Nat.zero_ne_one]
      have hT0 : wT W_ (min W_.xs.length 6) = [] := by rw [← hkE3, hkz3]; rfl
      rw [hT0, hkt, ← hac1]
      exact tail41 P T W_ ac1 [] cells y kn mn .nils none hM1 hM4 hK1 hK4 hmn hkn hacl1 ly hy bys crb ry c19 (fun n hn => rfl) (fun n hn => rfl) rfl rfl (fun a b c d l => rfl) _ _ _ _ _ _ _ _ _ _ _ _ _ _ _ _ _ _ _ _ _ _ _ _ _ _ _ _ _ _ _ _ _ _ _ _ _ _ _ _ _ _ _ _ _ _ _ _ _ _ _ _ _ _ _ _ _ _ _ _ _ _ _ _ _ _ _ _ _ _ _ _ _ _ _ _ _ _ _ _ _ _ _ _ _ _ _ _ _ _ _ _ _ _ _ _ _ _ _ _ _ _ _ _ _ _ _ _ _ _ _ _ _ _ _ _ _ _ _ _ _ _ _ _ _ _ _ _ _ _ _ _ _ _ _ _ _ _ _ _ _ _ _ _ _ _ _ _ _ _ _ _
   ·have tk3 : (ac3.map rS3).take (p3 + 1) = ac3.map rS3 := List.take_of_length_le (by simp [hacl3])
    have hlac3 : p3 + 1 + 1 ≤ 1048576 := by omega
    have hr33 : ∀ e : YH, (rS3 e).length = 3 := fun _ => rfl
    have hfr3 := fun n h r => optAll_snoc (frN_rS3 n h ac3) r
    have hrj3 := fun n => rS3_rb n 4 ac3
    rcases hA3 : decide (i3 < (W_.xs.length : Int)) with _ | _
    ·have HH15 := zA tk3 (zA hlac3 (zA hacl3 (zA hr33 hA3)))
     refine zS ?_
     refine zS ?_
     refine zR (zO (by simp [-Zc, c18, c19, HH1, HH12, ↓HH13, ↓hfr3, ↓hrj3, HH15]; rfl) ?_)
     simp only [zT, zB]
     refine Zh (x := false) (by simp) ?_
     have hx3 := of_decide_eq_false hA3
     have hkE3 : k3 = (min W_.xs.length 6) := by omega
     rw [hkE3] at hac3
     have hwTe : k3 = min W_.xs.length 6 := hkE3
     refine ZL ?_
     simp only [zT, zB, if_true, if_false, reduceIte, Nat.reduceEqDiff, Nat.succ_ne_zero, Nat.one_ne_zero, Nat.zero_ne_one]
     have hTne : ac3 ≠ [] := by intro e; rw [e] at hacl3; simp at hacl3
     have hz3 : min W_.xs.length 6 = p3 + 1 := by omega
     rw [← hac3, hkt, ← hac1]
     exact tail41 P T W_ ac1 ac3 cells y kn mn (.sl 4 0 (p3 + 1) false) (some (.row 3 (ac3.map rS3))) hM1 hM4 hK1 hK4 hmn hkn hacl1 ly hy bys crb ry c19 (fun n hn => by simp; omega) (fun n hn => by rw [rbB_row]; exact rS3_rb n 4 ac3) rfl rfl (fun a b c d l => by rw [encN_ne hTne]; simp [tk3, hacl3, frz_mapT]) _ _ _ _ _ _ _ _ _ _ _ _ _ _ _ _ _ _ _ _ _ _ _ _ _ _ _ _ _ _ _ _ _ _ _ _ _ _ _ _ _ _ _ _ _ _ _ _ _ _ _ _ _ _ _ _ _ _ _ _ _ _ _ _ _ _ _ _ _ _ _ _ _ _ _ _ _ _ _ _ _ _ _ _ _ _ _ _ _ _ _ _ _ _ _ _ _ _ _ _ _ _ _ _ _ _ _ _ _ _ _ _ _ _ _ _ _ _ _ _ _ _ _ _ _ _ _ _ _ _ _ _ _ _ _ _ _ _ _ _ _ _ _ _ _ _ _ _ _ _ _ _
    ·have HH16 := zA tk3 (zA hlac3 (zA hacl3 (zA hr33 hA3)))
     refine zS ?_
     refine zS ?_
     refine zR (zO (by simp [-Zc, c18, c19, HH1, HH12, ↓HH13, ↓hfr3, ↓hrj3, HH16]; rfl) ?_)
     simp only [zT, zB]
     refine Zg (x := decide (i3 < 6)) (by simp) (fun hlt3 => ?_) (fun hlt3 => ?_)
     ·have hAt3 := of_decide_eq_true hA3
      have hltt3 := of_decide_eq_true hlt3
      have hk03 : k3 < (min W_.xs.length 6) := by omega
      have hi03 : 0 ≤ i3 := by omega
      have htn3 : i3.toNat = k3 := by omega
      have hwi3 : W .i64 (i3 + 1) = i3 + 1 := ZR (by omega)
      have hxl : k3 < W_.xs.length := by omega
      obtain ⟨tx, rfl⟩ := rowsV_get hx (k := k3) (by rw [List.length_map]; omega)
      have hvv := bxs _ (List.getElem_mem hxl)
      have hF3 : wT W_ (k3 + 1) = wT W_ k3 ++ [wStop W_ W_.xs[k3]] := take_map1 _ hxl
      generalize hV : W_.xs[k3] = v at *
      have hv0 : (rU v)[0]? = some (.int .u8 (v_ v 0)) := rU_get (by omega)
      have hv1 : (rU v)[1]? = some (.int .u8 (v_ v 1)) := rU_get (by omega)
      have hv2 : (rU v)[2]? = some (.int .u8 (v_ v 2)) := rU_get (by omega)
      have hv3 : (rU v)[3]? = some (.int .u8 (v_ v 3)) := rU_get (by omega)
      have q0 := fun (h : 0 < (rU v).length) => Option.some.inj ((List.getElem?_eq_getElem h).symm.trans hv0)
      have q1 := fun (h : 1 < (rU v).length) => Option.some.inj ((List.getElem?_eq_getElem h).symm.trans hv1)
      have q2 := fun (h : 2 < (rU v).length) => Option.some.inj ((List.getElem?_eq_getElem h).symm.trans hv2)
      have q3 := fun (h : 3 < (rU v).length) => Option.some.inj ((List.getElem?_eq_getElem h).symm.trans hv3)
      have hvl : (rU v).length = 4 := by rw [rU_len, hvv.1]
      have hvst := rU_stor v
      have hvc : cellsOf (.agg (rU v)) = some (rU v) := rfl
      have hvt : (rU v).take 4 = rU v := List.take_of_length_le (by omega)
      have hvd : (rU v).drop 4 = [] := List.drop_of_length_le (by omega)
      have b0 := XS (k := 0) hvv.2
      have b1 := XS (k := 1) hvv.2
      have b2 := XS (k := 2) hvv.2
      have b3 := XS (k := 3) hvv.2
      unfold wStop v_ at hF3
      unfold v_ at hv0 hv1 hv2 hv3 q0 q1 q2 q3
      generalize v.getD 0 0 = e0 at *
      generalize v.getD 1 0 = e1 at *
      generalize v.getD 2 0 = e2 at *
      generalize v.getD 3 0 = e3 at *
      obtain ⟨b01, b02⟩ := b0
      obtain ⟨b11, b12⟩ := b1
      obtain ⟨b21, b22⟩ := b2
      obtain ⟨b31, b32⟩ := b3
      have h21 : 0 ≤ e2.tmod 2 := Int.tmod_nonneg 2 b21
      have h22 : e2.tmod 2 < 2 := Int.tmod_lt_of_pos _ (by decide)
      have h31 : 0 ≤ e3.tmod 60 := Int.tmod_nonneg 60 b31
      have h32 : e3.tmod 60 < 60 := Int.tmod_lt_of_pos _ (by decide)
      rw [hmn] at hF3
      have h01 : 0 ≤ e0.tmod (mn : Int) := Int.tmod_nonneg _ b01
      have h02 : e0.tmod (mn : Int) < mn := Int.tmod_lt_of_pos _ (by omega)
      have hmz : ¬ mn = 0 := by omega
      have hmzi : ¬ (mn : Int) = 0 := by omega
      have hmzb : ((mn : Int) == 0) = false := by simp; omega
      have hmm1 : ¬ ((mn : Int) = -1) := by omega
      have u0 : W .i64 e0 = e0 := ZX (by omega)
      have u1 : W .i64 e1 = e1 := ZX (by omega)
      have u2 : W .i64 e2 = e2 := ZX (by omega)
      have u3 : W .i64 e3 = e3 := ZX (by omega)
      have u4 : W .i64 (2 * e1) = 2 * e1 := ZX (by omega)
      have u5 : W .i64 (e2.tmod 2) = e2.tmod 2 := ZX (by omega)
      have u6 : W .i64 (2 * e1 + e2.tmod 2) = 2 * e1 + e2.tmod 2 := ZX (by omega)
      have u7 : W .i64 (e0.tmod (mn : Int)) = e0.tmod (mn : Int) := ZX (by omega)
      have u8 : W .i64 (2 * e1 + e2.tmod 2 + 1) = 2 * e1 + e2.tmod 2 + 1 := ZX (by omega)
      have u9 : W .i64 (e3.tmod 60) = e3.tmod 60 := ZX (by omega)
      have u10 : W .i64 (2 * e1 + e2.tmod 2 + 1 + e3.tmod 60) = 2 * e1 + e2.tmod 2 + 1 + e3.tmod 60 := ZX (by omega)
      have hnx3 : ac3 ++ [(e0.tmod (mn : Int), 2 * e1 + e2.tmod 2, 2 * e1 + e2.tmod 2 + 1 + e3.tmod 60)] = wT W_ (k3 + 1) := by rw [hF3, ← hac3]
      have hnl3 : (ac3 ++ [(e0.tmod (mn : Int), 2 * e1 + e2.tmod 2, 2 * e1 + e2.tmod 2 + 1 + e3.tmod 60)]).length = p3 + 1 + 1 := by simp [hacl3]
      have hap3 : ac3.map rS3 ++ [[I (e0.tmod (mn : Int)), I (2 * e1 + e2.tmod 2), I (2 * e1 + e2.tmod 2 + 1 + e3.tmod 60)]] = (ac3 ++ [(e0.tmod (mn : Int), 2 * e1 + e2.tmod 2, 2 * e1 + e2.tmod 2 + 1 + e3.tmod 60)]).map rS3 := by rw [List.map_append]; rfl
      generalize ac3 ++ [(e0.tmod (mn : Int), 2 * e1 + e2.tmod 2, 2 * e1 + e2.tmod 2 + 1 + e3.tmod 60)] = nx3 at *
      have hrx3 := fun n => rS3_rb n 4 nx3
      have HH17 := zA hi03 (zA htn3 (zA hk03 (zA hwi3 (zA hap3 (zA hxl (zA hV (zA hv0 (zA hv1 (zA hv2 (zA hv3 (zA q0 (zA q1 (zA q2 (zA q3 (zA hvl (zA hvc (zA hvt (zA hvd (zA hmz (zA hmzi (zA hmzb (zA hmm1 (zA u0 (zA u1 (zA u2 (zA u3 (zA u4 (zA u6 (zA u7 (zA u8 (zA u9 u10)))))))))))))))))))))))))))))))
      refine zK ?_
      simp only [zT, zB]
      refine zS ?_
      refine zL ?_
      refine zS ?_
      refine zR (zO (by simp [-Zc, c18, c19, HH1, HH12, ↓HH13, ↓hfr3, ↓hrj3, HH16, ↓hrx3, ↓hvst, u5, HH17]; rfl) ?_)
      simp only [zT, zB]
      refine zS ?_
      refine zR (zO (by simp [-Zc, c18, c19, HH1, HH12, ↓HH13, ↓hfr3, ↓hrj3, HH16, ↓hrx3, ↓hvst, u5, HH17]; rfl) ?_)
      simp only [zT, zB]
      refine Ye (by simp (maxSteps := 3000000) [-Zc, c18, c19, HH1, HH12, ↓HH13, ↓hfr3, ↓hrj3, HH16, ↓hrx3, ↓hvst, u5, HH17]; rfl) ?_
      simp only [zT, zB]
      refine zR (zO (by simp [-Zc, c18, c19, HH1, HH12, ↓HH13, ↓hfr3, ↓hrj3, HH16, ↓hrx3, ↓hvst, u5, HH17]; rfl) ?_)
      simp only [zT, zB]
      exact ⟨(min W_.xs.length 6) - (k3 + 1), _, _, by omega, by simp [-Zc, c18, c19, HH1, HH12, ↓HH13, ↓hfr3, ↓hrj3, HH16, ↓hrx3, ↓hvst, u5, HH17] <;> first | exact ⟨rfl, rfl⟩ | rfl, k3 + 1, i3 + 1, by omega, rfl, by omega, .inr ⟨p3 + 1, nx3, by omega, hnx3, hnl3, rfl⟩⟩
     ·have hAt3 := of_decide_eq_true hA3
      have hx3 := of_decide_eq_false hlt3
      have hkE3 : k3 = (min W_.xs.length 6) := by omega
      rw [hkE3] at hac3
      have hwTe : k3 = min W_.xs.length 6 := hkE3
      refine ZL ?_
      simp only [zT, zB, if_true, if_false, reduceIte, Nat.reduceEqDiff, Nat.succ_ne_zero, Nat.one_ne_zero, Nat.zero_ne_one]
      have hTne : ac3 ≠ [] := by intro e; rw [e] at hacl3; simp at hacl3
      have hz3 : min W_.xs.length 6 = p3 + 1 := by omega
      rw [← hac3, hkt, ← hac1]
      exact tail41 P T W_ ac1 ac3 cells y kn mn (.sl 4 0 (p3 + 1) false) (some (.row 3 (ac3.map rS3))) hM1 hM4 hK1 hK4 hmn hkn hacl1 ly hy bys crb ry c19 (fun n hn => by simp; omega) (fun n hn => by rw [rbB_row]; exact rS3_rb n 4 ac3) rfl rfl (fun a b c d l => by rw [encN_ne hTne]; simp [tk3, hacl3, frz_mapT]) _ _ _ _ _ _ _ _ _ _ _ _ _ _ _ _ _ _ _ _ _ _ _ _ _ _ _ _ _ _ _ _ _ _ _ _ _ _ _ _ _ _ _ _ _ _ _ _ _ _ _ _ _ _ _ _ _ _ _ _ _ _ _ _ _ _ _ _ _ _ _ _ _ _ _ _ _ _ _ _ _ _ _ _ _ _ _ _ _ _ _ _ _ _ _ _ _ _ _ _ _ _ _ _ _ _ _ _ _ _ _ _ _ _ _ _ _ _ _ _ _ _ _ _ _ _ _ _ _ _ _ _ _ _ _ _ _ _ _ _ _ _ _ _ _ _ _ _ _ _ _ _
end
section
attribute [local simp] ZV ZD Xp YN actD clash disj Xq holes Xr ZY Xu news eqB allB eqA Xf wrote toCs ofCs stA Yq ZE Yl dI1 dI2 dI3 dI5 elt
attribute [local simp] XH XD XI XE YS XG YP XF st_pv YO st_sl st_vl YQ st_mp st_fn YR XC co_any co_und co_agg co_tup Xe co_int Xb co_ref co_pv Xa co_sl co_vl Xc co_mp co_fn Xd XZ
attribute [local simp] Function.comp_def List.all_append List.all_map above callA ZQ frNB_none frNB_row frN_agg frN_bool frN_int frN_nils frN_ref frN_sl frN_tup frN_vl frzG gather getR lim lop loud lowA lowR norm okG putG putR XR rbB_row resG rowAt takeG
def ordGo : List Int → List Int → List Int
  | [], _ => []
  | b :: bs, L => L.getD (b.tmod (L.length : Int)).toNat 0 :: ordGo bs (L.eraseIdx (b.tmod (L.length : Int)).toNat)
def ordW (o : List Int) (n : Nat) : List Int := ordGo (o.take n) (upTo n)
theorem cons_erase_perm {L : List Int} {k : Nat} (hk : k < L.length) : (L[k] :: L.eraseIdx k).Perm L := by
  have e : L.take k ++ L[k] :: L.drop (k + 1) = L := by rw [← List.drop_eq_getElem_cons hk, List.take_append_drop]
  rw [List.eraseIdx_eq_take_drop_succ]
  exact (List.perm_middle.symm).trans (List.Perm.of_eq e)
theorem ordGo_perm : ∀ (bs L : List Int), bs.length = L.length → (∀ b ∈ bs, 0 ≤ b) → (ordGo bs L).Perm L
  | [], L, hl, _ => by
    have : L = [] := List.eq_nil_of_length_eq_zero hl.symm
    subst this; exact .nil
  | b :: bs, L, hl, hb => by
    simp only [List.length_cons] at hl
    have hb0 := hb b (by simp)
    have hp : (0 : Int) < (L.length : Int) := by omega
    have hk1 := Int.tmod_nonneg (L.length : Int) hb0
    have hk2 := Int.tmod_lt_of_pos b hp
    have hk : (b.tmod (L.length : Int)).toNat < L.length := by omega
    simp only [ordGo]
    generalize (b.tmod (L.length : Int)).toNat = k at *
    have ih := ordGo_perm bs (L.eraseIdx k) (by rw [List.length_eraseIdx_of_lt hk]; omega) (fun x hx => hb x (by simp [hx]))
    refine (List.Perm.cons _ ih).trans ?_
    rw [List.getD_eq_getElem?_getD, List.getElem?_eq_getElem hk, Option.getD_some]
    exact cons_erase_perm hk
theorem upTo_succ (n : Nat) : upTo (n + 1) = upTo n ++ [(n : Int)] := by
  unfold upTo; rw [List.range_succ, List.map_append]; rfl
theorem ordW_ord {o : List Int} {n : Nat} (ho : o.length = 6 ∧ ∀ b ∈ o, isU b) (hn : n ≤ 6) : ordB (ordW o n) n = true :=
  perm_ord (ordGo_perm _ _ (by rw [List.length_take, upTo_len]; omega) (fun b hb => (ho.2 b (List.mem_of_mem_take hb)).1))
theorem allB_refl {α : Type} {f : α → α → Bool} : ∀ (l : List α), (∀ x ∈ l, f x x = true) → allB f l l = true
  | [], _ => rfl
  | x :: l, h => by simp only [allB, h x (by simp), allB_refl l fun y hy => h y (by simp [hy]), Bool.and_self]
theorem eqA_int (n : Nat) (k : IntKind) (m : Int) : eqA (n + 1) (.int k m) (.int k m) = true := by cases k <;> simp
theorem eqA_rU (n : Nat) (v : List Int) : allB (eqA (n + 1)) (rU v) (rU v) = true := allB_refl _ fun z hz => by
  obtain ⟨a, _, rfl⟩ := List.mem_map.1 hz
  exact eqA_int n _ _
theorem eqA_rows {x : Za} {xs : List (List Int)} (hx : Yi x = some (xs.map rU)) (n : Nat) : eqA (n + 2) x x = true := by
  rcases rowsV_cases hx with ⟨rfl, _⟩ | ⟨t, rfl⟩
  · rfl
  · show (allB (allB (eqA (n + 1))) (xs.map rU) (xs.map rU) && t == t) = true
    rw [allB_refl _ fun r hr => by obtain ⟨v, _, rfl⟩ := List.mem_map.1 hr; exact eqA_rU n v]
    simp
theorem eqB_rI (xs : List Int) : eqB (some (.row 1 (xs.map rI))) (some (.row 1 (xs.map rI))) = true := by
  show ((1 : Nat) == 1 && allB (allB (eqA 12)) (xs.map rI) (xs.map rI)) = true
  rw [allB_refl _ fun r hr => by obtain ⟨v, _, rfl⟩ := List.mem_map.1 hr; exact allB_refl _ fun z hz => by simp [rI] at hz; subst hz; exact eqA_int 11 _ _]
  rfl
theorem runs_drwN {P : Program} {T : Nat → Option CFn} {r : Option Nat} {l : List CO} {σ : St} {Q : AEx → St → Prop} {D : DSt} (n : Nat)
    (h : runD P T (exec P T n) σ.h.length l.length l 0 ⟨σ.t, σ.h ++ List.replicate l.length none, List.replicate l.length none⟩ = some D) (hq : Q .normal ⟨D.t, D.h⟩) : Runs P T r (.drw l) σ Q := by
  refine ⟨n + 1, .normal, ⟨D.t, D.h⟩, ?_, hq⟩
  show Xz P T (exec P T n) r (.drw l) σ = _
  simp only [Xz, ZA, YA, h]
theorem a18h (P : Program) (T : Nat → Option CFn) (hT : T 18 = some c18) (h : Zf) (b k : Nat) (tt : Bool) (xs : List Int) (hb : h[b]? = some (some (.row 1 (xs.map rI)))) (hk : k ≤ xs.length) (hl : xs.length ≤ 1000) :
  ZH P T 18 [.sl b 0 k tt] h fun v h' => (k = 0 → v = .sl h.length 0 0 true ∧ h' = h ++ [some (.row 1 [])]) ∧ (0 < k → v = .sl (h.length + 1) 0 k false ∧ h' = h ++ [some (.row 1 []), some (.row 1 ((xs.take k).map rI))]) := by
 have hbl : b < h.length := (List.getElem?_eq_some_iff.1 hb).1
 have hb2 : (h ++ [some (Blk.row 1 [])])[b]? = some (some (.row 1 (xs.map rI))) := by rw [List.getElem?_append_left hbl]; exact hb
 have hkx : k ≤ (xs.map rI).length := by simp; omega
 refine Zs hT (Zu rfl) ?_
 simp only [oo, om, op, og, ci, cl, c18]
 refine zS ?_
 by_cases hk0 : k = 0
 ·subst hk0
  refine zR (zO (by simp [hb2, hkx]; rfl) ?_)
  simp only [zT, zB]
  refine zS ?_
  refine zR (zO (by simp [hb2, hkx]; rfl) ?_)
  simp only [zT, zB]
  refine Zj ?_
  refine ⟨by simp, _, by simp; rfl, ?_⟩
  have ht : trim h.length [tupA [.sl h.length 0 0 true]] (h ++ [some (.row 1 [])]) = h ++ [some (.row 1 [])] := by simp [trim]
  exact ⟨fun _ => ⟨rfl, ht⟩, fun h => absurd h (Nat.lt_irrefl _)⟩
 ·have hk1 : ¬ k = 0 := hk0
  have htl : ((xs.map rI).take k).length = k := by simp; omega
  have hr1 : (((xs.map rI).take k).all fun r => r.length == 1) = true := by
   simp only [List.all_eq_true]; intro r hr; obtain ⟨a, _, rfl⟩ := List.mem_map.1 (List.mem_of_mem_take hr); rfl
  have hr2 : (((xs.map rI).take k).all fun r => r.all Zq) = true := by
   simp only [List.all_eq_true]; intro r hr; obtain ⟨a, _, rfl⟩ := List.mem_map.1 (List.mem_of_mem_take hr); intro z hz; simp [rI] at hz; subst hz; rfl
  have hle : k ≤ 1048576 := by omega
  have hmin : min k xs.length = k := by omega
  have htn : (xs.map rI).take k ≠ [] := by intro e; rw [e] at htl; simp at htl; omega
  have hr1' : ∀ r, r ∈ (xs.map rI).take k → r.length = 1 := fun r hr => by obtain ⟨a, _, rfl⟩ := List.mem_map.1 (List.mem_of_mem_take hr); rfl
  have HH1 := zA hb2 (zA hkx (zA hk1 (zA hk (zA htn (zA htl hle)))))
  refine zR (zO (by simp [-List.map_take, -List.length_take, ↓hr1, ↓hr2, HH1]; rfl) ?_)
  simp only [zT, zB]
  refine zS ?_
  refine zR (zO (by simp [-List.map_take, -List.length_take, ↓hr1, ↓hr2, HH1]; rfl) ?_)
  simp only [zT, zB]
  refine Zj ?_
  refine ⟨by simp, _, by simp; rfl, ?_⟩
  have ht : ∀ x, trim h.length [tupA [.sl (h.length + 1) 0 k false]] x = x := fun x => by simp [trim]; intro h; omega
  exact ⟨fun h => absurd h hk1, fun _ => ⟨rfl, by rw [List.map_take]; exact ht _⟩⟩
theorem zQS {A G : Prop} (f : (Unit → A) → G) (p : A) : G := f fun _ => p
theorem runs_loopG_invBS {P : Program} {T : Nat → Option CFn} {r : Option Nat} {a : CC} {σ : St} {Q : AEx → St → Prop} {keep : Nat} {gs : List GL} (base : Nat) (hb : σ.h.length = base) (I : Nat → St → Prop)
    (step : ∀ k σ', I k σ' → Runs P T r a σ' (zT Q fun σ'' => ∃ k' t h, k' < k ∧ gather base gs (kill σ''.t keep) σ''.h = some (t, h) ∧ I k' ⟨t, h⟩)) {k : Nat} {t : List Za} {h : Zf} (hg : gather base gs (kill σ.t keep) σ.h = some (t, h)) (h0 : I k ⟨t, h⟩) : Runs P T r (.loopG keep gs a) σ Q := by
  subst hb
  exact XJ I hg h0 step
theorem a42 (P : Program) (T : Nat → Option CFn) (hT : T 42 = some { c42 with body := annK [(230, [.slot 5]), (358, [.slot 5, .slot 6])] [] c42.body }) (h18 : T 18 = some c18) (W_ : FWorks) (x y : Za) (hx : Yi x = some (W_.xs.map rU)) (hy : Yi y = some (W_.ys.map rU)) (hw : WkOk W_) (n : Nat) (hn : n ≤ 6) : ZH P T 42 [.agg (wkC W_ x y), I (n : Int)] [] fun v h => frz true h 5 v = some (encE (ordW W_.o n)) := by
 obtain ⟨bm, bk, bg, bxs, bys, bo⟩ := hw
 obtain ⟨cx1, cx2⟩ := Xl hx
 obtain ⟨cy1, cy2⟩ := Xl hy
 have rx := fun n d => rowsV_rb hx n d
 have ry := fun n d => rowsV_rb hy n d
 have co : ∀ q, q < 6 → (wkC W_ x y)[20 + q]? = some (.int .u8 (W_.o.getD q 0)) := fun q hq => by
  have e : 20 + q = (18 + q) + 1 + 1 := by omega
  unfold wkC
  rw [e, List.getElem?_cons_succ, List.getElem?_cons_succ, List.append_assoc, List.getElem?_append_right (by rw [rU_len, bg.1]; omega), rU_len, bg.1, List.getElem?_append_right (by simp; omega)]
  have e2 : 18 + q - 16 - [x, y].length = q := by simp; omega
  rw [e2]
  exact rU_get (by rw [bo.1]; exact hq)
 have crb : ∀ n, (wkC W_ x y).all (rb n 5) = true := fun n => by
  have h1 := rU_rb n 4 W_.g
  have h2 := rU_rb n 4 W_.o
  simp only [wkC, List.all_cons, List.all_append, h1, h2, rx, ry, YE, List.all_nil, Bool.and_true]
 have cst : (wkC W_ x y).all Zq = true := by
  have h1 := rU_stor W_.g
  have h2 := rU_stor W_.o
  simp only [wkC, List.all_cons, List.all_append, h1, h2, cx2, cy2, List.all_nil, Bool.and_true]; rfl
 have ccl : cellsOf (.agg (wkC W_ x y)) = some (wkC W_ x y) := rfl
 have clen : (wkC W_ x y).length = 26 := by simp [wkC, rU_len, bg.1, bo.1]
 have hceq : allB (eqA 12) (wkC W_ x y) (wkC W_ x y) = true := by
  refine allB_refl _ fun z hz => ?_
  simp only [wkC, List.mem_cons, List.mem_append, List.not_mem_nil, or_false] at hz
  rcases hz with rfl | rfl | (h | rfl | rfl) | h
  ·exact eqA_int 11 _ _
  ·exact eqA_int 11 _ _
  ·obtain ⟨a, _, rfl⟩ := List.mem_map.1 h; exact eqA_int 11 _ _
  ·exact eqA_rows hx 10
  ·exact eqA_rows hy 10
  ·obtain ⟨a, _, rfl⟩ := List.mem_map.1 h; exact eqA_int 11 _ _
 generalize hcells : wkC W_ x y = cells at *
 have heB : eqB (some (.row 26 [cells])) (some (.row 26 [cells])) = true := by
  show ((26 : Nat) == 26 && allB (allB (eqA 12)) [cells] [cells]) = true
  rw [allB_refl _ fun r hr => by simp only [List.mem_singleton] at hr; subst hr; exact hceq]
  rfl
 have o18 : ∀ a h, orcF c18 a h = none := fun _ _ => Zu rfl
 have f18 : ∀ a h, c18.eff a h = none := fun _ _ => rfl
 refine Zs hT (Zu rfl) ?_
 simp only [oo, om, op, og, ci, cl, c42, annK, lkG, lkR, reduceIte, Nat.reduceEqDiff, reduceCtorEq, List.cons.injEq, and_true, and_false, false_and, true_and]
 refine zS ?_
 refine zR (zO (by simp [↓crb, ↓cst, ccl, clen]; rfl) ?_)
 simp only [zT, zB]
 refine zS ?_
 refine zR (zO (by simp [↓crb, ↓cst, ccl, clen]; rfl) ?_)
 simp only [zT, zB]
 refine zS ?_
 refine zS ?_
 refine zR (zO (by simp [↓crb, ↓cst, ccl, clen]; rfl) ?_)
 simp only [zT, zB]
 refine zL ?_
 apply zQS
 ·intro s2
  refine XJ (fun mm1 σ => ∃ (k1 : Nat) (i1 : Int), i1 = k1 ∧ n - k1 = mm1 ∧ k1 ≤ n ∧ ((k1 = 0 ∧ σ = ⟨[.any, I (n : Int), .ref 0 0 0, .any, .any, .sl 3 0 0 true, .sl 2 0 0 true, I i1, .any, .any, .any, .any, .any, .any, .any, .any, .any, .any, .any, .any, .any, .any, .any, .any, .any, .any, .any, .any, .any, .any, .any, .any, .any, .any, .any, .any, .any, .any, .any, .any, .any, .any, .any, .any, .any, .any, .any, .any, .any, .any, .any], [some (.row 26 [cells]), none, some (.row 1 []), some (.row 1 [])]⟩) ∨ (∃ (p1 : Nat) (ac1 : List (Int)), k1 = p1 + 1 ∧ ac1 = upTo (k1) ∧ ac1.length = p1 + 1 ∧ σ = ⟨[.any, I (n : Int), .ref 0 0 0, .any, .any, .sl 3 0 (p1 + 1) false, .sl 2 0 0 true, I i1, .any, .any, .any, .any, .any, .any, .any, .any, .any, .any, .any, .any, .any, .any, .any, .any, .any, .any, .any, .any, .any, .any, .any, .any, .any, .any, .any, .any, .any, .any, .any, .any, .any, .any, .any, .any, .any, .any, .any, .any, .any, .any, .any], [some (.row 26 [cells]), none, some (.row 1 []), some (.row 1 (ac1.map rI))]⟩))) (by simp [↓crb, ↓cst, ccl, clen] <;> first | exact ⟨rfl, rfl⟩ | rfl) (⟨0, 0, rfl, rfl, Nat.zero_le _, .inl ⟨rfl, rfl⟩⟩) ?_
  rintro mm1 σ ⟨k1, i1, hik1, rfl, hkl1, ⟨hkz1, rfl⟩ | ⟨p1, ac1, hkp1, hac1, hacl1, rfl⟩⟩
  ·refine zS ?_
   refine zS ?_
   refine zR (zO (by simp [↓crb, ↓cst, ccl, clen]; rfl) ?_)
   simp only [zT, zB]
   refine Zg (x := _) rfl (fun hlt1 => ?_) (fun hlt1 => ?_)
   ·have hltt1 := of_decide_eq_true hlt1
    have hk01 : k1 < n := by omega
    have hi01 : 0 ≤ i1 := by omega
    have htn1 : i1.toNat = k1 := by omega
    have hwi1 : W .i64 (i1 + 1) = i1 + 1 := ZR (by omega)
    have hF1 : upTo (k1 + 1) = upTo k1 ++ [i1] := by rw [upTo_succ, hik1]
    have hnx1 : [i1] = upTo (k1 + 1) := by rw [hF1, hkz1]; rfl
    have hap1 : [[I i1]] = [i1].map rI := rfl
    have HH1 := zA ccl (zA clen (zA hi01 (zA htn1 (zA hk01 hwi1))))
    refine zK ?_
    simp only [zT, zB]
    refine zS ?_
    refine zL ?_
    refine zR (zO (by simp [↓crb, ↓cst, zI, HH1]; rfl) ?_)
    simp only [zT, zB]
    refine zR (zO (by simp [↓crb, ↓cst, zI, HH1]; rfl) ?_)
    simp only [zT, zB]
    exact ⟨n - (k1 + 1), _, _, by omega, by simp [↓crb, ↓cst, zI, HH1] <;> first | exact ⟨rfl, rfl⟩ | rfl, k1 + 1, i1 + 1, by omega, rfl, by omega, .inr ⟨0, [i1], by omega, hnx1, rfl, rfl⟩⟩
   ·have hx1 := of_decide_eq_false hlt1
    have hkE1 : k1 = n := by omega
    refine ZL ?_
    simp only [zT, zB, if_true, if_false, reduceIte, Nat.reduceEqDiff, Nat.succ_ne_zero, Nat.one_ne_zero, Nat.zero_ne_one]
    refine zS ?_
    refine zS ?_
    refine zR (zO (by simp [↓crb, ↓cst, ccl, clen]; rfl) ?_)
    simp only [zT, zB]
    refine zL ?_
    refine runs_loopG_invBS 4 rfl (fun mm2 σ => ∃ (k2 : Nat) (i2 : Int) (L : List Int) (tL : Bool), i2 = k2 ∧ n - k2 = mm2 ∧ k2 ≤ n ∧ L.length = n - k2 ∧ ((k2 = 0 ∧ L = upTo n ∧ σ = ⟨[.any, I (n : Int), .ref 0 0 0, .any, .any, .sl 4 0 L.length tL, .sl 5 0 0 true, .any, I i2, .any, .any, .any, .any, .any, .any, .any, .any, .any, .any, .any, .any, .any, .any, .any, .any, .any, .any, .any, .any, .any, .any, .any, .any, .any, .any, .any, .any, .any, .any, .any, .any, .any, .any, .any, .any, .any, .any, .any, .any, .any, .any], [some (.row 26 [cells]), none, none, none, some (.row 1 (L.map rI)), some (.row 1 [])]⟩) ∨ (∃ (p2 : Nat) (ac2 : List Int), k2 = p2 + 1 ∧ ac2 ++ ordGo ((W_.o.take n).drop k2) L = ordW W_.o n ∧ ac2.length = p2 + 1 ∧ σ = ⟨[.any, I (n : Int), .ref 0 0 0, .any, .any, .sl 4 0 L.length tL, .sl 5 0 (p2 + 1) false, .any, I i2, .any, .any, .any, .any, .any, .any, .any, .any, .any, .any, .any, .any, .any, .any, .any, .any, .any, .any, .any, .any, .any, .any, .any, .any, .any, .any, .any, .any, .any, .any, .any, .any, .any, .any, .any, .any, .any, .any, .any, .any, .any, .any], [some (.row 26 [cells]), none, none, none, some (.row 1 (L.map rI)), some (.row 1 (ac2.map rI))]⟩))) ?_ (by simp [↓crb, ↓cst, ccl, clen] <;> first | exact ⟨rfl, rfl⟩ | rfl) (⟨0, 0, [], true, rfl, rfl, Nat.zero_le _, by simp; omega, .inl ⟨rfl, by rw [← hkE1, hkz1]; rfl, rfl⟩⟩)
    exact s2 ()
  ·have tk1 : (ac1.map rI).take (p1 + 1) = ac1.map rI := List.take_of_length_le (by simp [hacl1])
   have hlac1 : p1 + 1 + 1 ≤ 1048576 := by omega
   have hr31 : ∀ e : Int, (rI e).length = 1 := fun _ => rfl
   have hfr1 := fun n h r => optAll_snoc (frN_rI n h ac1) r
   have hrj1 := fun n => rI_rb n 4 ac1
   have HH2 := zA ccl (zA clen (zA tk1 (zA hlac1 (zA hacl1 hr31))))
   refine zS ?_
   refine zS ?_
   refine zR (zO (by simp [↓crb, ↓cst, ↓hfr1, ↓hrj1, HH2]; rfl) ?_)
   simp only [zT, zB]
   refine Zg (x := _) rfl (fun hlt1 => ?_) (fun hlt1 => ?_)
   ·have hltt1 := of_decide_eq_true hlt1
    have hk01 : k1 < n := by omega
    have hi01 : 0 ≤ i1 := by omega
    have htn1 : i1.toNat = k1 := by omega
    have hwi1 : W .i64 (i1 + 1) = i1 + 1 := ZR (by omega)
    have hF1 : upTo (k1 + 1) = upTo k1 ++ [i1] := by rw [upTo_succ, hik1]
    have hnx1 : ac1 ++ [i1] = upTo (k1 + 1) := by rw [hF1, ← hac1]
    have hnl1 : (ac1 ++ [i1]).length = p1 + 1 + 1 := by simp [hacl1]
    have hap1 : ac1.map rI ++ [[I i1]] = (ac1 ++ [i1]).map rI := by rw [List.map_append]; rfl
    generalize ac1 ++ [i1] = nx1 at *
    have hrx1 := fun n => rI_rb n 4 nx1
    have HH3 := zA hi01 (zA htn1 (zA hk01 (zA hwi1 hap1)))
    have HH4 := zA crb (zA cst (zA hfr1 (zA hrj1 hrx1)))
    refine zK ?_
    simp only [zT, zB]
    refine zS ?_
    refine zL ?_
    refine zR (zO (by simp [HH2, zI, HH3, ↓HH4]; rfl) ?_)
    simp only [zT, zB]
    refine zR (zO (by simp [HH2, zI, HH3, ↓HH4]; rfl) ?_)
    simp only [zT, zB]
    exact ⟨n - (k1 + 1), _, _, by omega, by simp [HH2, zI, HH3, ↓HH4] <;> first | exact ⟨rfl, rfl⟩ | rfl, k1 + 1, i1 + 1, by omega, rfl, by omega, .inr ⟨p1 + 1, nx1, by omega, hnx1, hnl1, rfl⟩⟩
   ·have hx1 := of_decide_eq_false hlt1
    have hkE1 : k1 = n := by omega
    rw [hkE1] at hac1
    refine ZL ?_
    simp only [zT, zB, if_true, if_false, reduceIte, Nat.reduceEqDiff, Nat.succ_ne_zero, Nat.one_ne_zero, Nat.zero_ne_one]
    refine zS ?_
    refine zS ?_
    refine zR (zO (by simp [↓crb, ↓cst, ↓hfr1, ↓hrj1, HH2]; rfl) ?_)
    simp only [zT, zB]
    refine zL ?_
    refine runs_loopG_invBS 4 rfl (fun mm2 σ => ∃ (k2 : Nat) (i2 : Int) (L : List Int) (tL : Bool), i2 = k2 ∧ n - k2 = mm2 ∧ k2 ≤ n ∧ L.length = n - k2 ∧ ((k2 = 0 ∧ L = upTo n ∧ σ = ⟨[.any, I (n : Int), .ref 0 0 0, .any, .any, .sl 4 0 L.length tL, .sl 5 0 0 true, .any, I i2, .any, .any, .any, .any, .any, .any, .any, .any, .any, .any, .any, .any, .any, .any, .any, .any, .any, .any, .any, .any, .any, .any, .any, .any, .any, .any, .any, .any, .any, .any, .any, .any, .any, .any, .any, .any, .any, .any, .any, .any, .any, .any], [some (.row 26 [cells]), none, none, none, some (.row 1 (L.map rI)), some (.row 1 [])]⟩) ∨ (∃ (p2 : Nat) (ac2 : List Int), k2 = p2 + 1 ∧ ac2 ++ ordGo ((W_.o.take n).drop k2) L = ordW W_.o n ∧ ac2.length = p2 + 1 ∧ σ = ⟨[.any, I (n : Int), .ref 0 0 0, .any, .any, .sl 4 0 L.length tL, .sl 5 0 (p2 + 1) false, .any, I i2, .any, .any, .any, .any, .any, .any, .any, .any, .any, .any, .any, .any, .any, .any, .any, .any, .any, .any, .any, .any, .any, .any, .any, .any, .any, .any, .any, .any, .any, .any, .any, .any, .any, .any, .any, .any, .any, .any, .any, .any, .any, .any], [some (.row 26 [cells]), none, none, none, some (.row 1 (L.map rI)), some (.row 1 (ac2.map rI))]⟩))) ?_ (by simp [↓crb, ↓cst, ↓hfr1, ↓hrj1, HH2] <;> first | exact ⟨rfl, rfl⟩ | rfl) (⟨0, 0, ac1, false, rfl, rfl, Nat.zero_le _, by omega, .inl ⟨rfl, by rw [hac1], rfl⟩⟩)
    exact s2 ()
 ·rintro mm2 σ ⟨k2, i2, L, tL, hik2, rfl, hkl2, hLl, ⟨hkz2, hL0, rfl⟩ | ⟨p2, ac2, hkp2, hac2, hacl2, rfl⟩⟩
  ·refine zS ?_
   refine zS ?_
   refine zR (zO (by simp [↓crb, ↓cst, ccl, clen]; rfl) ?_)
   simp only [zT, zB]
   refine Zg (x := _) rfl (fun hlt2 => ?_) (fun hlt2 => ?_)
   ·have hltt2 := of_decide_eq_true hlt2
    have hk2n : k2 < n := by omega
    have hi20 : 0 ≤ i2 := by omega
    have htn2 : i2.toNat = k2 := by omega
    have hi26 : i2 < 6 := by omega
    have hwi2 : W .i64 (i2 + 1) = i2 + 1 := ZR (by omega)
    have hco := co k2 (by omega)
    have hob := XS (k := k2) bo.2
    have hdr : (W_.o.take n).drop k2 = W_.o.getD k2 0 :: (W_.o.take n).drop (k2 + 1) := by
     rw [List.drop_eq_getElem_cons (by rw [List.length_take, bo.1]; omega), List.getElem_take, List.getD_eq_getElem?_getD, List.getElem?_eq_getElem (by rw [bo.1]; omega)]; rfl
    generalize W_.o.getD k2 0 = ob at *
    obtain ⟨ob1, ob2⟩ := hob
    have hLp : (0 : Int) < (L.length : Int) := by omega
    have hLz : ¬ L.length = 0 := by omega
    have hLzi : ¬ (L.length : Int) = 0 := by omega
    have hLzb : ((L.length : Int) == 0) = false := by rw [beq_eq_false_iff_ne]; exact hLzi
    have hLm : ¬ ((L.length : Int) = -1) := by omega
    have hq1 := Int.tmod_nonneg (L.length : Int) ob1
    have hq2 := Int.tmod_lt_of_pos ob hLp
    have u0 : W .i64 ob = ob := ZX (by omega)
    have hL6 : L.length ≤ 6 := by omega
    have hgo : ordGo (ob :: (W_.o.take n).drop (k2 + 1)) L = L.getD (ob.tmod (L.length : Int)).toNat 0 :: ordGo ((W_.o.take n).drop (k2 + 1)) (L.eraseIdx (ob.tmod (L.length : Int)).toNat) := rfl
    generalize hQ : ob.tmod (L.length : Int) = Qi at *
    have u1 : W .i64 Qi = Qi := ZX (by omega)
    obtain ⟨qn, hqn⟩ : ∃ qn : Nat, Qi.toNat = qn := ⟨_, rfl⟩
    rw [hqn] at hgo
    have hql : qn < L.length := by omega
    have hqi : Qi = (qn : Int) := by omega
    have hqle : qn ≤ L.length := by omega
    have hql2 : Qi ≤ (L.length : Int) := by omega
    have hql3 : Qi + 1 ≤ (L.length : Int) := by omega
    have hq3 : 0 ≤ Qi + 1 := by omega
    have hwq : W .i64 (Qi + 1) = Qi + 1 := ZR (by omega)
    have hqn1 : (Qi + 1).toNat = qn + 1 := by omega
    have hLq : L.getD qn 0 = L[qn] := by rw [List.getD_eq_getElem?_getD, List.getElem?_eq_getElem hql]; rfl
    rw [hLq] at hgo
    have hLg : (L.map rI)[qn]? = some [I L[qn]] := by rw [List.getElem?_map, List.getElem?_eq_getElem hql]; rfl
    generalize hLv : L[qn] = lv at *
    have hLr : ((L.map rI).all fun r => r.length == 1) = true := by simp [rI]
    have hLlen : (L.map rI).length = L.length := by simp
    have her : L.eraseIdx qn = L.take qn ++ L.drop (qn + 1) := List.eraseIdx_eq_take_drop_succ L qn
    have hnx2 : [lv] ++ ordGo ((W_.o.take n).drop (k2 + 1)) (L.eraseIdx qn) = ordW W_.o n := by
     have e : ordW W_.o n = ordGo ((W_.o.take n).drop k2) L := by rw [hkz2, hL0]; rfl
     rw [e, hdr, hgo]; rfl
    have HH5 := zA ccl (zA clen (zA hi20 (zA htn2 (zA hi26 (zA hwi2 (zA hco (zA hLz (zA hLzi (zA hLzb (zA hLm (zA u0 (zA u1 (zA hQ (zA hqn (zA hq1 (zA hq2 (zA hql (zA hqle (zA hql2 (zA hql3 (zA hq3 (zA hwq (zA hqn1 (zA hLg (zA hLv hLlen)))))))))))))))))))))))))
    refine zK ?_
    simp only [zT, zB]
    refine zS ?_
    refine zL ?_
    refine zS ?_
    refine zR (zO (by simp [↓crb, ↓cst, ↓hLr, zI, -List.map_take, -List.map_drop, -List.length_map, -List.getElem?_map, evOpt, sliceA, bounds, hiB, bound, HH5]; rfl) ?_)
    simp only [zT, zB]
    refine zS ?_
    refine zR (zO (by simp [↓crb, ↓cst, ↓hLr, zI, -List.map_take, -List.map_drop, -List.length_map, -List.getElem?_map, evOpt, sliceA, bounds, hiB, bound, HH5]; rfl) ?_)
    simp only [zT, zB]
    obtain ⟨fu, cv, ch, hcall, hc0, hc1⟩ := a18h P T h18 [some (.row 26 [cells]), none, none, none, some (.row 1 (L.map rI)), some (.row 1 []), some (.row 1 [[I lv]]), some (.row 1 [[I lv]]), none, none, none, none, none, none, none, none, none, none] 4 qn (tL && (qn == L.length)) L rfl hqle (by omega)
    by_cases hz : qn = 0
    ·by_cases he : qn + 1 = L.length
     ·obtain ⟨rfl, rfl⟩ := hc0 hz
      clear hc1
      have hdl : ((L.map rI).drop (qn + 1)).take (L.length - (qn + 1)) = (L.drop (qn + 1)).map rI := by rw [List.map_drop]; exact List.take_of_length_le (by simp)
      have hdl2 : (L.map rI).drop (qn + 1) = (L.drop (qn + 1)).map rI := by rw [List.map_drop]
      have l1 : (L.take qn).length = qn := by rw [List.length_take]; omega
      have l2 : (L.drop (qn + 1)).length = L.length - (qn + 1) := by rw [List.length_drop]
      have hs1 : qn + 1 + (L.length - (qn + 1)) = L.length := by omega
      have hs2 : qn + 1 + (L.length - (qn + 1)) ≤ L.length := by omega
      generalize L.take qn = T1 at *
      generalize L.drop (qn + 1) = T2 at *
      subst hz
      obtain rfl : T1 = [] := List.eq_nil_of_length_eq_zero l1
      simp only [List.nil_append] at her
      simp only [Nat.zero_add] at hdl hdl2 l2 hs1 hs2
      obtain rfl : T2 = [] := List.eq_nil_of_length_eq_zero (by omega)
      have hls : L.length - 1 = 0 := by omega
      have hls3 : 1 ≤ L.length := by omega
      refine runs_drwN fu (by simp (maxSteps := 3000000) [↓crb, ↓cst, ↓hLr, zI, -List.map_take, -List.map_drop, -List.length_map, -List.getElem?_map, evOpt, sliceA, bounds, hiB, bound, HH5, hcall, h18, ↓o18, ↓f18, ↓heB, ↓eqB_rI, ↓hdl, ↓hdl2, hs1, hs2, hls, hls3]; rfl) ?_
      simp only [zT, zB]
      refine zR (zO (by simp [↓crb, ↓cst, ↓hLr, zI, -List.map_take, -List.map_drop, -List.length_map, -List.getElem?_map, evOpt, sliceA, bounds, hiB, bound, HH5, hcall, h18, ↓o18, ↓f18, ↓heB, ↓eqB_rI, ↓hdl, ↓hdl2, hs1, hs2, hls, hls3]; rfl) ?_)
      simp only [zT, zB]
      have hEl : (L.eraseIdx 0).length = 0 := by rw [her]; simp [l1]
      have hEn : (L.eraseIdx 0).length = n - (k2 + 1) := by rw [hEl]; omega
      rw [her] at hnx2 hEl hEn
      exact ⟨n - (k2 + 1), _, _, by omega, by simp [↓crb, ↓cst, ↓hLr, zI, -List.map_take, -List.map_drop, -List.length_map, -List.getElem?_map, evOpt, sliceA, bounds, hiB, bound, HH5, hcall, h18, ↓o18, ↓f18, ↓heB, ↓eqB_rI, ↓hdl, ↓hdl2, hs1, hs2, hls, hls3, l1, hEl] <;> rfl, k2 + 1, i2 + 1, ([] : List Int), true, by omega, rfl, by omega, hEn, .inr ⟨0, [lv], by omega, hnx2, rfl, rfl⟩⟩
     ·obtain ⟨rfl, rfl⟩ := hc0 hz
      clear hc1
      have hdl : ((L.map rI).drop (qn + 1)).take (L.length - (qn + 1)) = (L.drop (qn + 1)).map rI := by rw [List.map_drop]; exact List.take_of_length_le (by simp)
      have hdl2 : (L.map rI).drop (qn + 1) = (L.drop (qn + 1)).map rI := by rw [List.map_drop]
      have l1 : (L.take qn).length = qn := by rw [List.length_take]; omega
      have l2 : (L.drop (qn + 1)).length = L.length - (qn + 1) := by rw [List.length_drop]
      have hs1 : qn + 1 + (L.length - (qn + 1)) = L.length := by omega
      have hs2 : qn + 1 + (L.length - (qn + 1)) ≤ L.length := by omega
      generalize L.take qn = T1 at *
      generalize L.drop (qn + 1) = T2 at *
      subst hz
      obtain rfl : T1 = [] := List.eq_nil_of_length_eq_zero l1
      simp only [List.nil_append] at her
      simp only [Nat.zero_add] at hdl hdl2 l2 hs1 hs2
      obtain ⟨b2, T3, rfl⟩ : ∃ b2 T3, T2 = b2 :: T3 := by
       cases T2 with
       | nil => simp at l2; omega
       | cons a l => exact ⟨a, l, rfl⟩
      simp only [List.length_cons] at l2
      have hls : L.length - (1) = T3.length + 1 := by omega
      have t3 : T3.length + 1 ≤ 1048576 := by omega
      have t3b : 0 + (T3.length + 1) ≤ 1048576 := by omega
      have t3a : ((T3.map rI).all fun r => r.length == 1) = true := by simp [rI]
      have t3r := fun n => rI_rb n 4 T3
      have t3l : (T3.map rI).length = T3.length := by simp
      have hls3 : 1 + (T3.length + 1) ≤ L.length := by omega
      have tk3 : (T3.map rI).take T3.length = T3.map rI := List.take_of_length_le (by simp)
      refine runs_drwN fu (by simp (maxSteps := 3000000) [↓crb, ↓cst, ↓hLr, zI, -List.map_take, -List.map_drop, -List.length_map, -List.getElem?_map, evOpt, sliceA, bounds, hiB, bound, HH5, hcall, h18, ↓o18, ↓f18, ↓heB, ↓eqB_rI, ↓hdl, ↓hdl2, hs1, hs2, hls, hls3, t3, t3b, ↓t3a, ↓t3r, t3l, tk3]; rfl) ?_
      simp only [zT, zB]
      refine zR (zO (by simp [↓crb, ↓cst, ↓hLr, zI, -List.map_take, -List.map_drop, -List.length_map, -List.getElem?_map, evOpt, sliceA, bounds, hiB, bound, HH5, hcall, h18, ↓o18, ↓f18, ↓heB, ↓eqB_rI, ↓hdl, ↓hdl2, hs1, hs2, hls, hls3, t3, t3b, ↓t3a, ↓t3r, t3l, tk3]; rfl) ?_)
      simp only [zT, zB]
      have hEl : (L.eraseIdx 0).length = T3.length + 1 := by rw [her]; simp [l1]
      have hEn : (L.eraseIdx 0).length = n - (k2 + 1) := by rw [hEl]; omega
      rw [her] at hnx2 hEl hEn
      exact ⟨n - (k2 + 1), _, _, by omega, by simp [↓crb, ↓cst, ↓hLr, zI, -List.map_take, -List.map_drop, -List.length_map, -List.getElem?_map, evOpt, sliceA, bounds, hiB, bound, HH5, hcall, h18, ↓o18, ↓f18, ↓heB, ↓eqB_rI, ↓hdl, ↓hdl2, hs1, hs2, hls, hls3, t3, t3b, ↓t3a, ↓t3r, t3l, tk3, l1, hEl] <;> rfl, k2 + 1, i2 + 1, (b2 :: T3), false, by omega, rfl, by omega, hEn, .inr ⟨0, [lv], by omega, hnx2, rfl, rfl⟩⟩
    ·by_cases he : qn + 1 = L.length
     ·obtain ⟨rfl, rfl⟩ := hc1 (by omega)
      clear hc0
      have hdl : ((L.map rI).drop (qn + 1)).take (L.length - (qn + 1)) = (L.drop (qn + 1)).map rI := by rw [List.map_drop]; exact List.take_of_length_le (by simp)
      have hdl2 : (L.map rI).drop (qn + 1) = (L.drop (qn + 1)).map rI := by rw [List.map_drop]
      have l1 : (L.take qn).length = qn := by rw [List.length_take]; omega
      have l2 : (L.drop (qn + 1)).length = L.length - (qn + 1) := by rw [List.length_drop]
      have hs1 : qn + 1 + (L.length - (qn + 1)) = L.length := by omega
      have hs2 : qn + 1 + (L.length - (qn + 1)) ≤ L.length := by omega
      generalize L.take qn = T1 at *
      generalize L.drop (qn + 1) = T2 at *
      have tkq : (T1.map rI).take qn = T1.map rI := List.take_of_length_le (by simp [l1])
      have hq0 : ¬ qn = 0 := hz
      have t1l : (T1.map rI).length = qn := by simp [l1]
      have t1a : ((T1.map rI).all fun r => r.length == 1) = true := by simp [rI]
      have t1n : T1.map rI ≠ [] := by intro e; rw [e] at t1l; simp at t1l; omega
      have t1r := fun n => rI_rb n 4 T1
      obtain rfl : T2 = [] := List.eq_nil_of_length_eq_zero (by omega)
      simp only [List.append_nil] at her
      have hls : L.length - (qn + 1) = 0 := by omega
      have hls3 : qn + 1 ≤ L.length := by omega
      refine runs_drwN fu (by simp (maxSteps := 3000000) [↓crb, ↓cst, ↓hLr, zI, -List.map_take, -List.map_drop, -List.length_map, -List.getElem?_map, evOpt, sliceA, bounds, hiB, bound, HH5, hcall, h18, ↓o18, ↓f18, ↓heB, ↓eqB_rI, ↓hdl, ↓hdl2, hs1, hs2, hls, hls3, tkq, hq0, t1l, ↓t1a, t1n, ↓t1r]; rfl) ?_
      simp only [zT, zB]
      refine zR (zO (by simp [↓crb, ↓cst, ↓hLr, zI, -List.map_take, -List.map_drop, -List.length_map, -List.getElem?_map, evOpt, sliceA, bounds, hiB, bound, HH5, hcall, h18, ↓o18, ↓f18, ↓heB, ↓eqB_rI, ↓hdl, ↓hdl2, hs1, hs2, hls, hls3, tkq, hq0, t1l, ↓t1a, t1n, ↓t1r]; rfl) ?_)
      simp only [zT, zB]
      have hEl : (L.eraseIdx qn).length = qn := by rw [her]; simp [l1]
      have hEn : (L.eraseIdx qn).length = n - (k2 + 1) := by rw [hEl]; omega
      rw [her] at hnx2 hEl hEn
      exact ⟨n - (k2 + 1), _, _, by omega, by simp [↓crb, ↓cst, ↓hLr, zI, -List.map_take, -List.map_drop, -List.length_map, -List.getElem?_map, evOpt, sliceA, bounds, hiB, bound, HH5, hcall, h18, ↓o18, ↓f18, ↓heB, ↓eqB_rI, ↓hdl, ↓hdl2, hs1, hs2, hls, hls3, tkq, hq0, t1l, ↓t1a, t1n, ↓t1r, l1, hEl] <;> rfl, k2 + 1, i2 + 1, T1, false, by omega, rfl, by omega, hEn, .inr ⟨0, [lv], by omega, hnx2, rfl, rfl⟩⟩
     ·obtain ⟨rfl, rfl⟩ := hc1 (by omega)
      clear hc0
      have hdl : ((L.map rI).drop (qn + 1)).take (L.length - (qn + 1)) = (L.drop (qn + 1)).map rI := by rw [List.map_drop]; exact List.take_of_length_le (by simp)
      have hdl2 : (L.map rI).drop (qn + 1) = (L.drop (qn + 1)).map rI := by rw [List.map_drop]
      have l1 : (L.take qn).length = qn := by rw [List.length_take]; omega
      have l2 : (L.drop (qn + 1)).length = L.length - (qn + 1) := by rw [List.length_drop]
      have hs1 : qn + 1 + (L.length - (qn + 1)) = L.length := by omega
      have hs2 : qn + 1 + (L.length - (qn + 1)) ≤ L.length := by omega
      generalize L.take qn = T1 at *
      generalize L.drop (qn + 1) = T2 at *
      have tkq : (T1.map rI).take qn = T1.map rI := List.take_of_length_le (by simp [l1])
      have hq0 : ¬ qn = 0 := hz
      have t1l : (T1.map rI).length = qn := by simp [l1]
      have t1a : ((T1.map rI).all fun r => r.length == 1) = true := by simp [rI]
      have t1n : T1.map rI ≠ [] := by intro e; rw [e] at t1l; simp at t1l; omega
      have t1r := fun n => rI_rb n 4 T1
      obtain ⟨b2, T3, rfl⟩ : ∃ b2 T3, T2 = b2 :: T3 := by
       cases T2 with
       | nil => simp at l2; omega
       | cons a l => exact ⟨a, l, rfl⟩
      simp only [List.length_cons] at l2
      have hls : L.length - (qn + 1) = T3.length + 1 := by omega
      have t3 : T3.length + 1 ≤ 1048576 := by omega
      have t3b : qn + (T3.length + 1) ≤ 1048576 := by omega
      have t3a : ((T3.map rI).all fun r => r.length == 1) = true := by simp [rI]
      have t3r := fun n => rI_rb n 4 T3
      have t3l : (T3.map rI).length = T3.length := by simp
      have hls3 : qn + 1 + (T3.length + 1) ≤ L.length := by omega
      have tk3 : (T3.map rI).take T3.length = T3.map rI := List.take_of_length_le (by simp)
      refine runs_drwN fu (by simp (maxSteps := 3000000) [↓crb, ↓cst, ↓hLr, zI, -List.map_take, -List.map_drop, -List.length_map, -List.getElem?_map, evOpt, sliceA, bounds, hiB, bound, HH5, hcall, h18, ↓o18, ↓f18, ↓heB, ↓eqB_rI, ↓hdl, ↓hdl2, hs1, hs2, hls, hls3, tkq, hq0, t1l, ↓t1a, t1n, ↓t1r, t3, t3b, ↓t3a, ↓t3r, t3l, tk3]; rfl) ?_
      simp only [zT, zB]
      refine zR (zO (by simp [↓crb, ↓cst, ↓hLr, zI, -List.map_take, -List.map_drop, -List.length_map, -List.getElem?_map, evOpt, sliceA, bounds, hiB, bound, HH5, hcall, h18, ↓o18, ↓f18, ↓heB, ↓eqB_rI, ↓hdl, ↓hdl2, hs1, hs2, hls, hls3, tkq, hq0, t1l, ↓t1a, t1n, ↓t1r, t3, t3b, ↓t3a, ↓t3r, t3l, tk3]; rfl) ?_)
      simp only [zT, zB]
      have hEl : (L.eraseIdx qn).length = qn + (T3.length + 1) := by rw [her]; simp [l1]
      have hEn : (L.eraseIdx qn).length = n - (k2 + 1) := by rw [hEl]; omega
      rw [her] at hnx2 hEl hEn
      exact ⟨n - (k2 + 1), _, _, by omega, by simp [↓crb, ↓cst, ↓hLr, zI, -List.map_take, -List.map_drop, -List.length_map, -List.getElem?_map, evOpt, sliceA, bounds, hiB, bound, HH5, hcall, h18, ↓o18, ↓f18, ↓heB, ↓eqB_rI, ↓hdl, ↓hdl2, hs1, hs2, hls, hls3, tkq, hq0, t1l, ↓t1a, t1n, ↓t1r, t3, t3b, ↓t3a, ↓t3r, t3l, tk3, l1, hEl] <;> rfl, k2 + 1, i2 + 1, (T1 ++ b2 :: T3), false, by omega, rfl, by omega, hEn, .inr ⟨0, [lv], by omega, hnx2, rfl, rfl⟩⟩
   ·have hx2 := of_decide_eq_false hlt2
    have hkE2 : k2 = n := by omega
    have hn0 : n = 0 := by omega
    have hoe : ordW W_.o n = [] := by rw [hn0]; rfl
    rw [hoe]
    refine ZL ?_
    simp only [zT, zB, if_true, if_false, reduceIte, Nat.reduceEqDiff, Nat.succ_ne_zero, Nat.one_ne_zero, Nat.zero_ne_one]
    refine zS ?_
    refine zR (zO (by simp [↓crb, ↓cst, ccl, clen]; rfl) ?_)
    simp only [zT, zB]
    refine Zj ?_
    simp [↓crb, ↓cst, ccl, clen, trim, encE]
  ·have tk2 : (ac2.map rI).take (p2 + 1) = ac2.map rI := List.take_of_length_le (by simp [hacl2])
   have hlac2 : p2 + 1 + 1 ≤ 1048576 := by omega
   have hr32 : ∀ e : Int, (rI e).length = 1 := fun _ => rfl
   have hrj2 := fun n => rI_rb n 4 ac2
   have hal2 : (ac2.map rI).length = p2 + 1 := by rw [List.length_map, hacl2]
   have HH6 := zA ccl (zA clen (zA tk2 (zA hal2 (zA hlac2 (zA hacl2 hr32)))))
   refine zS ?_
   refine zS ?_
   refine zR (zO (by simp [↓crb, ↓cst, ↓hrj2, HH6]; rfl) ?_)
   simp only [zT, zB]
   refine Zg (x := _) rfl (fun hlt2 => ?_) (fun hlt2 => ?_)
   ·have hltt2 := of_decide_eq_true hlt2
    have hk2n : k2 < n := by omega
    have hi20 : 0 ≤ i2 := by omega
    have htn2 : i2.toNat = k2 := by omega
    have hi26 : i2 < 6 := by omega
    have hwi2 : W .i64 (i2 + 1) = i2 + 1 := ZR (by omega)
    have hco := co k2 (by omega)
    have hob := XS (k := k2) bo.2
    have hdr : (W_.o.take n).drop k2 = W_.o.getD k2 0 :: (W_.o.take n).drop (k2 + 1) := by
     rw [List.drop_eq_getElem_cons (by rw [List.length_take, bo.1]; omega), List.getElem_take, List.getD_eq_getElem?_getD, List.getElem?_eq_getElem (by rw [bo.1]; omega)]; rfl
    generalize W_.o.getD k2 0 = ob at *
    obtain ⟨ob1, ob2⟩ := hob
    have hLp : (0 : Int) < (L.length : Int) := by omega
    have hLz : ¬ L.length = 0 := by omega
    have hLzi : ¬ (L.length : Int) = 0 := by omega
    have hLzb : ((L.length : Int) == 0) = false := by rw [beq_eq_false_iff_ne]; exact hLzi
    have hLm : ¬ ((L.length : Int) = -1) := by omega
    have hq1 := Int.tmod_nonneg (L.length : Int) ob1
    have hq2 := Int.tmod_lt_of_pos ob hLp
    have u0 : W .i64 ob = ob := ZX (by omega)
    have hL6 : L.length ≤ 6 := by omega
    have hgo : ordGo (ob :: (W_.o.take n).drop (k2 + 1)) L = L.getD (ob.tmod (L.length : Int)).toNat 0 :: ordGo ((W_.o.take n).drop (k2 + 1)) (L.eraseIdx (ob.tmod (L.length : Int)).toNat) := rfl
    generalize hQ : ob.tmod (L.length : Int) = Qi at *
    have u1 : W .i64 Qi = Qi := ZX (by omega)
    obtain ⟨qn, hqn⟩ : ∃ qn : Nat, Qi.toNat = qn := ⟨_, rfl⟩
    rw [hqn] at hgo
    have hql : qn < L.length := by omega
    have hqi : Qi = (qn : Int) := by omega
    have hqle : qn ≤ L.length := by omega
    have hql2 : Qi ≤ (L.length : Int) := by omega
    have hql3 : Qi + 1 ≤ (L.length : Int) := by omega
    have hq3 : 0 ≤ Qi + 1 := by omega
    have hwq : W .i64 (Qi + 1) = Qi + 1 := ZR (by omega)
    have hqn1 : (Qi + 1).toNat = qn + 1 := by omega
    have hLq : L.getD qn 0 = L[qn] := by rw [List.getD_eq_getElem?_getD, List.getElem?_eq_getElem hql]; rfl
    rw [hLq] at hgo
    have hLg : (L.map rI)[qn]? = some [I L[qn]] := by rw [List.getElem?_map, List.getElem?_eq_getElem hql]; rfl
    generalize hLv : L[qn] = lv at *
    have hLr : ((L.map rI).all fun r => r.length == 1) = true := by simp [rI]
    have hLlen : (L.map rI).length = L.length := by simp
    have her : L.eraseIdx qn = L.take qn ++ L.drop (qn + 1) := List.eraseIdx_eq_take_drop_succ L qn
    rw [hdr, hgo] at hac2
    have hnx2 : (ac2 ++ [lv]) ++ ordGo ((W_.o.take n).drop (k2 + 1)) (L.eraseIdx qn) = ordW W_.o n := by rw [← hac2, List.append_assoc]; rfl
    have hnl2 : (ac2 ++ [lv]).length = p2 + 1 + 1 := by simp [hacl2]
    have hap2 : ac2.map rI ++ [[I lv]] = (ac2 ++ [lv]).map rI := by rw [List.map_append]; rfl
    generalize ac2 ++ [lv] = nx2 at *
    have hrx2 := fun n => rI_rb n 4 nx2
    have HH7 := zA hi20 (zA htn2 (zA hi26 (zA hwi2 (zA hco (zA hLz (zA hLzi (zA hLzb (zA hLm (zA u0 (zA u1 (zA hQ (zA hqn (zA hq1 (zA hq2 (zA hql (zA hqle (zA hql2 (zA hql3 (zA hq3 (zA hwq (zA hqn1 (zA hLg (zA hLv (zA hLlen hap2))))))))))))))))))))))))
    have HH8 := zA crb (zA cst (zA hrj2 (zA hLr hrx2)))
    refine zK ?_
    simp only [zT, zB]
    refine zS ?_
    refine zL ?_
    refine zS ?_
    refine zR (zO (by simp [HH6, zI, -List.map_take, -List.map_drop, -List.length_map, -List.getElem?_map, evOpt, sliceA, bounds, hiB, bound, HH7, ↓HH8]; rfl) ?_)
    simp only [zT, zB]
    refine zS ?_
    refine zR (zO (by simp [HH6, zI, -List.map_take, -List.map_drop, -List.length_map, -List.getElem?_map, evOpt, sliceA, bounds, hiB, bound, HH7, ↓HH8]; rfl) ?_)
    simp only [zT, zB]
    obtain ⟨fu, cv, ch, hcall, hc0, hc1⟩ := a18h P T h18 [some (.row 26 [cells]), none, none, none, some (.row 1 (L.map rI)), none, some (.row 1 [[I lv]]), some (.row 1 (nx2.map rI)), none, none, none, none, none, none, none, none, none, none] 4 qn (tL && (qn == L.length)) L rfl hqle (by omega)
    by_cases hz : qn = 0
    ·by_cases he : qn + 1 = L.length
     ·obtain ⟨rfl, rfl⟩ := hc0 hz
      clear hc1
      have hdl : ((L.map rI).drop (qn + 1)).take (L.length - (qn + 1)) = (L.drop (qn + 1)).map rI := by rw [List.map_drop]; exact List.take_of_length_le (by simp)
      have hdl2 : (L.map rI).drop (qn + 1) = (L.drop (qn + 1)).map rI := by rw [List.map_drop]
      have l1 : (L.take qn).length = qn := by rw [List.length_take]; omega
      have l2 : (L.drop (qn + 1)).length = L.length - (qn + 1) := by rw [List.length_drop]
      have hs1 : qn + 1 + (L.length - (qn + 1)) = L.length := by omega
      have hs2 : qn + 1 + (L.length - (qn + 1)) ≤ L.length := by omega
      generalize L.take qn = T1 at *
      generalize L.drop (qn + 1) = T2 at *
      subst hz
      obtain rfl : T1 = [] := List.eq_nil_of_length_eq_zero l1
      simp only [List.nil_append] at her
      simp only [Nat.zero_add] at hdl hdl2 l2 hs1 hs2
      obtain rfl : T2 = [] := List.eq_nil_of_length_eq_zero (by omega)
      have hls : L.length - 1 = 0 := by omega
      have hls3 : 1 ≤ L.length := by omega
      refine runs_drwN fu (by simp (maxSteps := 3000000) [HH6, zI, -List.map_take, -List.map_drop, -List.length_map, -List.getElem?_map, evOpt, sliceA, bounds, hiB, bound, HH7, ↓HH8, hcall, h18, ↓o18, ↓f18, ↓heB, ↓eqB_rI, ↓hdl, ↓hdl2, hs1, hs2, hls, hls3]; rfl) ?_
      simp only [zT, zB]
      refine zR (zO (by simp [HH6, zI, -List.map_take, -List.map_drop, -List.length_map, -List.getElem?_map, evOpt, sliceA, bounds, hiB, bound, HH7, ↓HH8, hcall, h18, ↓o18, ↓f18, ↓heB, ↓eqB_rI, ↓hdl, ↓hdl2, hs1, hs2, hls, hls3]; rfl) ?_)
      simp only [zT, zB]
      have hEl : (L.eraseIdx 0).length = 0 := by rw [her]; simp [l1]
      have hEn : (L.eraseIdx 0).length = n - (k2 + 1) := by rw [hEl]; omega
      rw [her] at hnx2 hEl hEn
      exact ⟨n - (k2 + 1), _, _, by omega, by simp [HH6, zI, -List.map_take, -List.map_drop, -List.length_map, -List.getElem?_map, evOpt, sliceA, bounds, hiB, bound, HH7, ↓HH8, hcall, h18, ↓o18, ↓f18, ↓heB, ↓eqB_rI, ↓hdl, ↓hdl2, hs1, hs2, hls, hls3, l1, hEl] <;> rfl, k2 + 1, i2 + 1, ([] : List Int), true, by omega, rfl, by omega, hEn, .inr ⟨p2 + 1, nx2, by omega, hnx2, hnl2, rfl⟩⟩
     ·obtain ⟨rfl, rfl⟩ := hc0 hz
      clear hc1
      have hdl : ((L.map rI).drop (qn + 1)).take (L.length - (qn + 1)) = (L.drop (qn + 1)).map rI := by rw [List.map_drop]; exact List.take_of_length_le (by simp)
      have hdl2 : (L.map rI).drop (qn + 1) = (L.drop (qn + 1)).map rI := by rw [List.map_drop]
      have l1 : (L.take qn).length = qn := by rw [List.length_take]; omega
      have l2 : (L.drop (qn + 1)).length = L.length - (qn + 1) := by rw [List.length_drop]
      have hs1 : qn + 1 + (L.length - (qn + 1)) = L.length := by omega
      have hs2 : qn + 1 + (L.length - (qn + 1)) ≤ L.length := by omega
      generalize L.take qn = T1 at *
      generalize L.drop (qn + 1) = T2 at *
      subst hz
      obtain rfl : T1 = [] := List.eq_nil_of_length_eq_zero l1
      simp only [List.nil_append] at her
      simp only [Nat.zero_add] at hdl hdl2 l2 hs1 hs2
      obtain ⟨b2, T3, rfl⟩ : ∃ b2 T3, T2 = b2 :: T3 := by
       cases T2 with
       | nil => simp at l2; omega
       | cons a l => exact ⟨a, l, rfl⟩
      simp only [List.length_cons] at l2
      have hls : L.length - (1) = T3.length + 1 := by omega
      have t3 : T3.length + 1 ≤ 1048576 := by omega
      have t3b : 0 + (T3.length + 1) ≤ 1048576 := by omega
      have t3a : ((T3.map rI).all fun r => r.length == 1) = true := by simp [rI]
      have t3r := fun n => rI_rb n 4 T3
      have t3l : (T3.map rI).length = T3.length := by simp
      have hls3 : 1 + (T3.length + 1) ≤ L.length := by omega
      have tk3 : (T3.map rI).take T3.length = T3.map rI := List.take_of_length_le (by simp)
      refine runs_drwN fu (by simp (maxSteps := 3000000) [HH6, zI, -List.map_take, -List.map_drop, -List.length_map, -List.getElem?_map, evOpt, sliceA, bounds, hiB, bound, HH7, ↓HH8, hcall, h18, ↓o18, ↓f18, ↓heB, ↓eqB_rI, ↓hdl, ↓hdl2, hs1, hs2, hls, hls3, t3, t3b, ↓t3a, ↓t3r, t3l, tk3]; rfl) ?_
      simp only [zT, zB]
      refine zR (zO (by simp [HH6, zI, -List.map_take, -List.map_drop, -List.length_map, -List.getElem?_map, evOpt, sliceA, bounds, hiB, bound, HH7, ↓HH8, hcall, h18, ↓o18, ↓f18, ↓heB, ↓eqB_rI, ↓hdl, ↓hdl2, hs1, hs2, hls, hls3, t3, t3b, ↓t3a, ↓t3r, t3l, tk3]; rfl) ?_)
      simp only [zT, zB]
      have hEl : (L.eraseIdx 0).length = T3.length + 1 := by rw [her]; simp [l1]
      have hEn : (L.eraseIdx 0).length = n - (k2 + 1) := by rw [hEl]; omega
      rw [her] at hnx2 hEl hEn
      exact ⟨n - (k2 + 1), _, _, by omega, by simp [HH6, zI, -List.map_take, -List.map_drop, -List.length_map, -List.getElem?_map, evOpt, sliceA, bounds, hiB, bound, HH7, ↓HH8, hcall, h18, ↓o18, ↓f18, ↓heB, ↓eqB_rI, ↓hdl, ↓hdl2, hs1, hs2, hls, hls3, t3, t3b, ↓t3a, ↓t3r, t3l, tk3, l1, hEl] <;> rfl, k2 + 1, i2 + 1, (b2 :: T3), false, by omega, rfl, by omega, hEn, .inr ⟨p2 + 1, nx2, by omega, hnx2, hnl2, rfl⟩⟩
    ·by_cases he : qn + 1 = L.length
     ·obtain ⟨rfl, rfl⟩ := hc1 (by omega)
      clear hc0
      have hdl : ((L.map rI).drop (qn + 1)).take (L.length - (qn + 1)) = (L.drop (qn + 1)).map rI := by rw [List.map_drop]; exact List.take_of_length_le (by simp)
      have hdl2 : (L.map rI).drop (qn + 1) = (L.drop (qn + 1)).map rI := by rw [List.map_drop]
      have l1 : (L.take qn).length = qn := by rw [List.length_take]; omega
      have l2 : (L.drop (qn + 1)).length = L.length - (qn + 1) := by rw [List.length_drop]
      have hs1 : qn + 1 + (L.length - (qn + 1)) = L.length := by omega
      have hs2 : qn + 1 + (L.length - (qn + 1)) ≤ L.length := by omega
      generalize L.take qn = T1 at *
      generalize L.drop (qn + 1) = T2 at *
      have tkq : (T1.map rI).take qn = T1.map rI := List.take_of_length_le (by simp [l1])
      have hq0 : ¬ qn = 0 := hz
      have t1l : (T1.map rI).length = qn := by simp [l1]
      have t1a : ((T1.map rI).all fun r => r.length == 1) = true := by simp [rI]
      have t1n : T1.map rI ≠ [] := by intro e; rw [e] at t1l; simp at t1l; omega
      have t1r := fun n => rI_rb n 4 T1
      obtain rfl : T2 = [] := List.eq_nil_of_length_eq_zero (by omega)
      simp only [List.append_nil] at her
      have hls : L.length - (qn + 1) = 0 := by omega
      have hls3 : qn + 1 ≤ L.length := by omega
      refine runs_drwN fu (by simp (maxSteps := 3000000) [HH6, zI, -List.map_take, -List.map_drop, -List.length_map, -List.getElem?_map, evOpt, sliceA, bounds, hiB, bound, HH7, ↓HH8, hcall, h18, ↓o18, ↓f18, ↓heB, ↓eqB_rI, ↓hdl, ↓hdl2, hs1, hs2, hls, hls3, tkq, hq0, t1l, ↓t1a, t1n, ↓t1r]; rfl) ?_
      simp only [zT, zB]
      refine zR (zO (by simp [HH6, zI, -List.map_take, -List.map_drop, -List.length_map, -List.getElem?_map, evOpt, sliceA, bounds, hiB, bound, HH7, ↓HH8, hcall, h18, ↓o18, ↓f18, ↓heB, ↓eqB_rI, ↓hdl, ↓hdl2, hs1, hs2, hls, hls3, tkq, hq0, t1l, ↓t1a, t1n, ↓t1r]; rfl) ?_)
      simp only [zT, zB]
      have hEl : (L.eraseIdx qn).length = qn := by rw [her]; simp [l1]
      have hEn : (L.eraseIdx qn).length = n - (k2 + 1) := by rw [hEl]; omega
      rw [her] at hnx2 hEl hEn
      exact ⟨n - (k2 + 1), _, _, by omega, by simp [HH6, zI, -List.map_take, -List.map_drop, -List.length_map, -List.getElem?_map, evOpt, sliceA, bounds, hiB, bound, HH7, ↓HH8, hcall, h18, ↓o18, ↓f18, ↓heB, ↓eqB_rI, ↓hdl, ↓hdl2, hs1, hs2, hls, hls3, tkq, hq0, t1l, ↓t1a, t1n, ↓t1r, l1, hEl] <;> rfl, k2 + 1, i2 + 1, T1, false, by omega, rfl, by omega, hEn, .inr ⟨p2 + 1, nx2, by omega, hnx2, hnl2, rfl⟩⟩
     ·obtain ⟨rfl, rfl⟩ := hc1 (by omega)
      clear hc0
      have hdl : ((L.map rI).drop (qn + 1)).take (L.length - (qn + 1)) = (L.drop (qn + 1)).map rI := by rw [List.map_drop]; exact List.take_of_length_le (by simp)
      have hdl2 : (L.map rI).drop (qn + 1) = (L.drop (qn + 1)).map rI := by rw [List.map_drop]
      have l1 : (L.take qn).length = qn := by rw [List.length_take]; omega
      have l2 : (L.drop (qn + 1)).length = L.length - (qn + 1) := by rw [List.length_drop]
      have hs1 : qn + 1 + (L.length - (qn + 1)) = L.length := by omega
      have hs2 : qn + 1 + (L.length - (qn + 1)) ≤ L.length := by omega
      generalize L.take qn = T1 at *
      generalize L.drop (qn + 1) = T2 at *
      have tkq : (T1.map rI).take qn = T1.map rI := List.take_of_length_le (by simp [l1])
      have hq0 : ¬ qn = 0 := hz
      have t1l : (T1.map rI).length = qn := by simp [l1]
      have t1a : ((T1.map rI).all fun r => r.length == 1) = true := by simp [rI]
      have t1n : T1.map rI ≠ [] := by intro e; rw [e] at t1l; simp at t1l; omega
      have t1r := fun n => rI_rb n 4 T1
      obtain ⟨b2, T3, rfl⟩ : ∃ b2 T3, T2 = b2 :: T3 := by
       cases T2 with
       | nil => simp at l2; omega
       | cons a l => exact ⟨a, l, rfl⟩
      simp only [List.length_cons] at l2
      have hls : L.length - (qn + 1) = T3.length + 1 := by omega
      have t3 : T3.length + 1 ≤ 1048576 := by omega
      have t3b : qn + (T3.length + 1) ≤ 1048576 := by omega
      have t3a : ((T3.map rI).all fun r => r.length == 1) = true := by simp [rI]
      have t3r := fun n => rI_rb n 4 T3
      have t3l : (T3.map rI).length = T3.length := by simp
      have hls3 : qn + 1 + (T3.length + 1) ≤ L.length := by omega
      have tk3 : (T3.map rI).take T3.length = T3.map rI := List.take_of_length_le (by simp)
      refine runs_drwN fu (by simp (maxSteps := 3000000) [HH6, zI, -List.map_take, -List.map_drop, -List.length_map, -List.getElem?_map, evOpt, sliceA, bounds, hiB, bound, HH7, ↓HH8, hcall, h18, ↓o18, ↓f18, ↓heB, ↓eqB_rI, ↓hdl, ↓hdl2, hs1, hs2, hls, hls3, tkq, hq0, t1l, ↓t1a, t1n, ↓t1r, t3, t3b, ↓t3a, ↓t3r, t3l, tk3]; rfl) ?_
      simp only [zT, zB]
      refine zR (zO (by simp [HH6, zI, -List.map_take, -List.map_drop, -List.length_map, -List.getElem?_map, evOpt, sliceA, bounds, hiB, bound, HH7, ↓HH8, hcall, h18, ↓o18, ↓f18, ↓heB, ↓eqB_rI, ↓hdl, ↓hdl2, hs1, hs2, hls, hls3, tkq, hq0, t1l, ↓t1a, t1n, ↓t1r, t3, t3b, ↓t3a, ↓t3r, t3l, tk3]; rfl) ?_)
      simp only [zT, zB]
      have hEl : (L.eraseIdx qn).length = qn + (T3.length + 1) := by rw [her]; simp [l1]
      have hEn : (L.eraseIdx qn).length = n - (k2 + 1) := by rw [hEl]; omega
      rw [her] at hnx2 hEl hEn
      exact ⟨n - (k2 + 1), _, _, by omega, by simp [HH6, zI, -List.map_take, -List.map_drop, -List.length_map, -List.getElem?_map, evOpt, sliceA, bounds, hiB, bound, HH7, ↓HH8, hcall, h18, ↓o18, ↓f18, ↓heB, ↓eqB_rI, ↓hdl, ↓hdl2, hs1, hs2, hls, hls3, tkq, hq0, t1l, ↓t1a, t1n, ↓t1r, t3, t3b, ↓t3a, ↓t3r, t3l, tk3, l1, hEl] <;> rfl, k2 + 1, i2 + 1, (T1 ++ b2 :: T3), false, by omega, rfl, by omega, hEn, .inr ⟨p2 + 1, nx2, by omega, hnx2, hnl2, rfl⟩⟩
   ·have hx2 := of_decide_eq_false hlt2
    have hkE2 : k2 = n := by omega
    have hLe : L = [] := List.eq_nil_of_length_eq_zero (by omega)
    rw [hLe, hkE2, List.drop_of_length_le (by rw [List.length_take, bo.1]; omega)] at hac2
    simp only [ordGo, List.append_nil] at hac2
    rw [← hac2, encE_ne (by intro e; rw [e] at hacl2; simp at hacl2)]
    refine ZL ?_
    simp only [zT, zB, if_true, if_false, reduceIte, Nat.reduceEqDiff, Nat.succ_ne_zero, Nat.one_ne_zero, Nat.zero_ne_one]
    refine zS ?_
    refine zR (zO (by simp [↓crb, ↓cst, ↓hrj2, HH6, Zm]; rfl) ?_)
    simp only [zT, zB]
    refine Zj ?_
    simp [↓crb, ↓cst, ↓hrj2, HH6, Zm, trim]
end
end
end Go.Proofs.YtjjapdagllclkaaGreat.Tab
namespace Go.Proofs.YtjjapdagllclkaaGreat.Tab
open Go Go.Abs Go.Proofs
set_option linter.unusedSimpArgs false
set_option linter.unusedVariables false
theorem shopE_of {s : FShop} {js : List FJob} (h : ShopOk s js) (hre : ∀ j ∈ js, j.ready ≤ 100000) : shopE s js = 0 := by
 obtain ⟨h1, h2, h3, h4, h5, h6, h7⟩ := h
 have e1 : inI 1 s.mach 4 = true := by simp only [inI, Bool.and_eq_true, decide_eq_true_eq]; exact h1
 have e2 : inI 1 s.chg.length 4 = true := by simp only [inI, Bool.and_eq_true, decide_eq_true_eq]; omega
 have e3 : s.chg.all (chgOk s.chg.length) = true := by
  rw [List.all_eq_true]
  intro l hl
  have := h3 l hl
  simp only [chgOk, wB, Bool.and_eq_true, beq_iff_eq, List.all_eq_true, decide_eq_true_eq]
  exact this
 have e4 : s.stops.all (stopOk s.mach) = true := by
  rw [List.all_eq_true]
  intro x hx
  have := h5 x hx
  simp only [stopOk, inI, wB, Bool.and_eq_true, List.all_eq_true, decide_eq_true_eq, List.mem_cons, List.not_mem_nil, or_false, forall_eq_or_imp, forall_eq]
  omega
 have e5 : js.all (jobOk s.mach s.chg.length) = true := by
  rw [List.all_eq_true]
  intro j hj
  have := h7 j hj
  have hrj := hre j hj
  simp only [jobOk, inI, wB, Bool.and_eq_true, beq_iff_eq, List.all_eq_true, decide_eq_true_eq, List.mem_cons, List.not_mem_nil, or_false, forall_eq_or_imp, forall_eq]
  exact ⟨⟨⟨by omega, by omega⟩, this.2.2.2.1⟩, this.2.2.2.2⟩
 unfold shopE
 rw [e1, e2, e3, e4, e5]
 simp only [Bool.and_self, Bool.not_true, Bool.false_eq_true, if_false]
 rw [if_neg (by omega), if_neg (by omega)]
theorem tmod_bd {a m : Int} (ha : 0 ≤ a) (hm : 0 < m) : 0 ≤ a.tmod m ∧ a.tmod m < m := ⟨Int.tmod_nonneg m ha, Int.tmod_lt_of_pos a hm⟩
theorem made_ok {w : FWorks} (h : WkOk w) : ShopOk (wShop w) (wJobs w) := by
 have hm := tmod_bd (m := 4) h.m.1 (by decide)
 have hk := tmod_bd (m := 4) h.k.1 (by decide)
 have hM : 1 ≤ wM w ∧ wM w ≤ 4 := by unfold wM; omega
 have hK : 1 ≤ wK w ∧ wK w ≤ 4 := by unfold wK; omega
 have hcl : (wC w (wK w).toNat).length = (wK w).toNat := by simp [wC]
 have hv : ∀ v k, (∀ n ∈ v, isU n) → isU (v_ v k) := fun v k hv => XS hv
 refine ⟨hM, ?_, ?_, ?_, ?_, ?_, ?_⟩
 ·show 1 ≤ (wC w (wK w).toNat).length ∧ (wC w (wK w).toNat).length ≤ 4
  rw [hcl]; omega
 ·intro l hl
  show l.length = (wC w (wK w).toNat).length ∧ _
  rw [hcl]
  simp only [wShop, wC, List.mem_map, List.mem_range] at hl
  obtain ⟨i, hi, rfl⟩ := hl
  refine ⟨by simp [wRow], fun c hc => ?_⟩
  simp only [wRow, List.mem_map, List.mem_range] at hc
  obtain ⟨k, hk, rfl⟩ := hc
  have hg : isU (gAt w i k) := XS h.g.2
  have := tmod_bd (m := 40) hg.1 (by decide)
  omega
 ·show (wT w (min w.xs.length 6)).length ≤ 10
  simp only [wT, List.length_map, List.length_take]; omega
 ·intro x hx
  simp only [wShop, wT, List.mem_map] at hx
  obtain ⟨v, hvm, rfl⟩ := hx
  have hvv := (h.xs v (List.mem_of_mem_take hvm)).2
  have b0 := hv v 0 hvv
  have b1 := hv v 1 hvv
  have b2 := hv v 2 hvv
  have b3 := hv v 3 hvv
  have t0 := tmod_bd (m := wM w) b0.1 (by omega)
  have t2 := tmod_bd (m := 2) b2.1 (by decide)
  have t3 := tmod_bd (m := 60) b3.1 (by decide)
  obtain ⟨b10, b11⟩ := b1
  show (0 ≤ (v_ v 0).tmod (wM w) ∧ (v_ v 0).tmod (wM w) < wM w) ∧ (0 ≤ 2 * v_ v 1 + (v_ v 2).tmod 2 ∧ 2 * v_ v 1 + (v_ v 2).tmod 2 ≤ 100000) ∧ (0 ≤ 2 * v_ v 1 + (v_ v 2).tmod 2 + 1 + (v_ v 3).tmod 60 ∧ 2 * v_ v 1 + (v_ v 2).tmod 2 + 1 + (v_ v 3).tmod 60 ≤ 100000) ∧ 2 * v_ v 1 + (v_ v 2).tmod 2 < 2 * v_ v 1 + (v_ v 2).tmod 2 + 1 + (v_ v 3).tmod 60
  omega
 ·show (wJ w (min w.ys.length 5)).length ≤ 6
  simp only [wJ, List.length_map, List.length_take]; omega
 ·intro j hj
  simp only [wJobs, wJ, List.mem_map] at hj
  obtain ⟨v, hvm, rfl⟩ := hj
  have hvv := (h.ys v (List.mem_of_mem_take hvm)).2
  have b0 := hv v 0 hvv
  have b1 := hv v 1 hvv
  have b2 := hv v 2 hvv
  have t0 := tmod_bd (m := wK w) b0.1 (by omega)
  obtain ⟨b10, b11⟩ := b1
  obtain ⟨b20, b21⟩ := b2
  refine ⟨?_, ⟨b10, by show v_ v 1 ≤ _; omega⟩, ⟨by show 0 ≤ 3 * v_ v 2; omega, by show 3 * v_ v 2 ≤ _; omega⟩, ?_, fun n hn => ?_⟩
  ·show 0 ≤ (v_ v 0).tmod (wK w) ∧ (v_ v 0).tmod (wK w) < ((wC w (wK w).toNat).length : Int)
   rw [hcl]; omega
  ·show ((wMins v (wM w).toNat).length : Int) = wM w
   simp only [wMins, List.length_map, List.length_range]; omega
  ·have hn' : n ∈ wMins v (wM w).toNat := hn
   simp only [wMins, List.mem_map, List.mem_range] at hn'
   obtain ⟨k, hk, rfl⟩ := hn'
   have b3 := hv v (3 + k) hvv
   have t3 := tmod_bd (m := 90) b3.1 (by decide)
   unfold wMin
   omega
theorem made_len {w : FWorks} : (wJobs w).length ≤ 5 := by simp only [wJobs, wJ, List.length_map, List.length_take]; omega
def wOrd (w : FWorks) : List Int := ordW w.o (wJobs w).length
theorem made_ctx {w : FWorks} (h : WkOk w) : RunCtx (wShop w) (wJobs w) (wOrd w) :=
 ⟨made_ok h, ordW_ord h.o (by have := made_len (w := w); omega)⟩
theorem made_e0 {w : FWorks} (h : WkOk w) : shopE (wShop w) (wJobs w) = 0 := shopE_of (made_ok h) fun j hj => by
 simp only [wJobs, wJ, List.mem_map] at hj
 obtain ⟨v, hvm, rfl⟩ := hj
 have b1 : isU (v_ v 1) := XS (h.ys v (List.mem_of_mem_take hvm)).2
 obtain ⟨b10, b11⟩ := b1
 show v_ v 1 ≤ _
 omega
theorem ordE_of {s : FShop} {js : List FJob} {os : List Int} (h0 : shopE s js = 0) (h : ordB os js.length = true) : ordE s js os = 0 := by
 unfold ordE
 rw [if_pos h0, if_pos h]
def dWk (r : List Za) : Option (FWorks × Za × Za) := match r with
 | .int .u8 m :: .int .u8 k :: l => match dU (l.take 16), l.drop 16 with
  | some g, x :: y :: o => match Yi x, Yi y, dU o with
   | some xr, some yr, some os => match Zd dU xr, Zd dU yr with
    | some xs, some ys => some (⟨m, k, g, xs, ys, os⟩, x, y)
    | _, _ => none
   | _, _, _ => none
  | _, _ => none
 | _ => none
theorem dU_self (v : List Int) : dU (rU v) = some v := optAll_map (d := dU1) (enc := fun n => Za.int .u8 n) (fun _ => rfl) v
theorem optAll_dU (xs : List (List Int)) : Zd dU (xs.map rU) = some xs := optAll_map (d := dU) (enc := rU) dU_self xs
theorem dWk_eq {r : List Za} {W : FWorks} {x y : Za} (h : dWk r = some (W, x, y)) : r = wkC W x y ∧ Yi x = some (W.xs.map rU) ∧ Yi y = some (W.ys.map rU) := by
 unfold dWk at h
 split at h <;> (try simp only [reduceCtorEq] at h)
 rename_i m k l
 split at h <;> (try simp only [reduceCtorEq] at h)
 rename_i g x' y' o h1 h2
 split at h <;> (try simp only [reduceCtorEq] at h)
 rename_i xr yr os h3 h4 h5
 split at h <;> (try simp only [reduceCtorEq] at h)
 rename_i xs ys h6 h7
 simp only [Option.some.injEq, Prod.mk.injEq] at h
 obtain ⟨rfl, rfl, rfl⟩ := h
 have e6 := optAll_eq (fun r v h => dU_eq h) h6
 have e7 := optAll_eq (fun r v h => dU_eq h) h7
 subst e6 e7
 refine ⟨?_, h3, h4⟩
 have e1 := dU_eq h1
 have e5 := dU_eq h5
 unfold wkC
 rw [← e1, ← e5]
 have : l = l.take 16 ++ l.drop 16 := (List.take_append_drop 16 l).symm
 rw [h2] at this
 simp only [List.append_assoc, List.cons_append, List.nil_append]
 rw [← this]
theorem dWk_self {W : FWorks} {x y : Za} (hg : W.g.length = 16) (hx : Yi x = some (W.xs.map rU)) (hy : Yi y = some (W.ys.map rU)) : dWk (wkC W x y) = some (W, x, y) := by
 have hl : (rU W.g).length = 16 := by rw [rU_len, hg]
 have e1 : (rU W.g ++ [x, y] ++ rU W.o).take 16 = rU W.g := by rw [List.append_assoc, List.take_append_of_le_length (by omega), List.take_of_length_le (by omega)]
 have e2 : (rU W.g ++ [x, y] ++ rU W.o).drop 16 = x :: y :: rU W.o := by rw [List.append_assoc, List.drop_append_of_le_length (by omega), List.drop_of_length_le (by omega)]; rfl
 unfold dWk wkC
 simp only [e1, e2, dU_self, hx, hy, optAll_dU]
end Go.Proofs.YtjjapdagllclkaaGreat.Tab
namespace Go.Proofs.YtjjapdagllclkaaGreat.Tab
open Go Go.Abs Go.Proofs
def isFreeB (st : List YH) (k n t : Int) : Bool := st.all fun x => !conf k n t x
theorem isFreeB_ok {st : List YH} {k n t : Int} (h : isFreeB st k n t = true) : isFree st k n t := fun x hx => by
 have := List.all_eq_true.1 h x hx
 simpa using this
def freeC (st : List YH) (k n : Int) : Nat → Int → Int
 | 0, a => a
 | f + 1, a => match st.find? (conf k n a) with
  | some x => freeC st k n f x.2.2
  | none => a
theorem freeC_ok {st : List YH} {k n : Int} : ∀ (f : Nat) (a : Int), isFree st k n (freeC st k n f a) → FreeAt st k n a (freeC st k n f a)
 | 0, a, h => freeAt_self h
 | f + 1, a, h => by
  unfold freeC at h ⊢
  split
  ·rename_i x hx
   rw [hx] at h
   exact freeAt_step (List.mem_of_find?_eq_some hx) (List.find?_some hx) (freeC_ok f _ h)
  ·rename_i hx
   rw [hx] at h
   exact freeAt_self h
def freeO (st : List YH) (k n a : Int) : Option Int := if isFreeB st k n (freeC st k n 12 a) = true then some (freeC st k n 12 a) else none
theorem freeO_eq {st : List YH} {k n a u : Int} (h : freeO st k n a = some u) : freeT st k n a = u := by
 unfold freeO at h
 by_cases hf : isFreeB st k n (freeC st k n 12 a) = true
 ·rw [if_pos hf] at h
  cases h
  exact freeT_eq (freeC_ok 12 _ (isFreeB_ok hf))
 ·rw [if_neg hf] at h; simp at h
def startC (s : FShop) (kind : Int) (l : FLine) (k : Nat) (n t : Int) : Option Int :=
 if 0 < n then freeO s.stops k n (if (l.getD k (0, 0, false)).2.2 then max t ((l.getD k (0, 0, false)).1 + chgAt s (l.getD k (0, 0, false)).2.1 kind) else t) else some t
theorem startC_eq {s : FShop} {kind : Int} {l : FLine} {k : Nat} {n t u : Int} (h : startC s kind l k n t = some u) : Xv s kind l k n t = u := by
 unfold startC at h
 unfold Xv
 by_cases hn : 0 < n
 ·rw [if_pos hn] at h ⊢
  exact freeO_eq h
 ·rw [if_neg hn] at h ⊢
  exact Option.some.inj h
def passGoC (s : FShop) (kind : Int) : List Int → Nat → Int → FLine → Option (List Int × Int × FLine)
 | [], _, t, l => some ([], t, l)
 | n :: ns, k, t, l => match startC s kind l k n t with
  | some u => match passGoC s kind ns (k + 1) (u + n) (if 0 < n then l.set k (u + n, kind, true) else l) with
   | some r => some (u :: r.1, r.2)
   | none => none
  | none => none
theorem passGoC_eq {s : FShop} {kind : Int} : ∀ {ns : List Int} {k : Nat} {t : Int} {l : FLine} {r : List Int × Int × FLine}, passGoC s kind ns k t l = some r → Xy s kind ns k t l = r
 | [], k, t, l, r, h => by simp only [passGoC, Option.some.injEq] at h; subst h; rfl
 | n :: ns, k, t, l, r, h => by
  simp only [passGoC] at h
  split at h
  ·rename_i u hu
   split at h
   ·rename_i r2 hr
    cases h
    have e := startC_eq hu
    simp only [Xy, e, passGoC_eq hr]
   ·simp at h
  ·simp at h
def passC (s : FShop) (l : FLine) (j : FJob) : Option (List Int × Int × FLine) := passGoC s j.kind j.mins 0 j.ready l
theorem passC_eq {s : FShop} {l : FLine} {j : FJob} {r : List Int × Int × FLine} (h : passC s l j = some r) : passF s l j = r := passGoC_eq h
def lineB (s : FShop) (B : Int) (l : FLine) : Bool := (l.length == 4) && l.all fun x => decide (0 ≤ x.1) && decide (x.1 ≤ B) && decide (0 ≤ x.2.1) && (x.2.1 == 0 || decide (x.2.1 < s.chg.length))
theorem lineB_ok {s : FShop} {B : Int} {l : FLine} (h : lineB s B l = true) : LineOk s B l := by
 simp only [lineB, Bool.and_eq_true, beq_iff_eq, List.all_eq_true, decide_eq_true_eq, Bool.or_eq_true] at h
 exact ⟨h.1, fun x hx => by have := h.2 x hx; exact ⟨⟨this.1.1.1, this.1.1.2⟩, this.1.2, this.2⟩⟩
end Go.Proofs.YtjjapdagllclkaaGreat.Tab
namespace Go.Proofs.YtjjapdagllclkaaGreat.Tab
open Go Go.Abs Go.Proofs
noncomputable section
set_option maxRecDepth 1000000
theorem oAt_good {P : Program} {G : Nat → Option (List Za)} {f : Nat} {fr : Bool} : ∀ {L : List (List Za × Za)}, (∀ p ∈ L, OrcGood P G fr f p.1 p.2) → ∀ args v, oAt L args = some v → OrcGood P G fr f args v
  | [], _, args, v, h => by simp [oAt] at h
  | (A, R) :: L, hL, args, v, h => by
    simp only [oAt] at h
    split at h
    · rename_i he
      simp at h
      subst h
      rw [allB_eqA he]
      exact hL (A, R) (by simp)
    · exact oAt_good (fun p hp => hL p (by simp [hp])) args v h
def sPassK : List Za → Zf → Option (Za × Zf)
  | [.agg [.int .i64 m, c, t, j], .ref 0 0 0, .agg [.int .i64 kd, .int .i64 rd, .int .i64 du, v]], [some (.row 12 [r])] => match ZI c, Yg t, Xj j, Yd v, dLine r with
    | some cs, some ts, some js, some ms, some l => if (shopE ⟨m, cs, ts⟩ js == 0) && lineB ⟨m, cs, ts⟩ 200000 l && decide (0 ≤ kd) && decide (kd < cs.length) && decide (0 ≤ rd) && decide (rd ≤ 200000) && ((ms.length : Int) == m) && (ms.all fun n => decide (0 ≤ n) && decide (n ≤ 10000)) then
        (match passC ⟨m, cs, ts⟩ l ⟨kd, rd, du, ms⟩ with
          | some r => some (.tup [.vl (r.1.map rI) false, I r.2.1], [some (.row 12 [lineC r.2.2])])
          | none => none) else none
    | _, _, _, _, _ => none
  | _, _ => none
def FDK1 : Nat → Option CFn := updG FC1 102 [(229738, [.slot 6])] []
theorem FDK1_ok : Zr Tryz.prog GG FDK1 := tab_updG FC1_ok
def FDK2 : Nat → Option CFn := upd FDK1 102 false (fun _ => none)
theorem FDK2_ok : Zr Tryz.prog GG FDK2 := Xm mixed FDK1_ok fun args v ho => by simp at ho
def FK0 : Nat → Option CFn := updE FDK2 102 (frameE sPassK)
theorem FK0_ok : Zr Tryz.prog GG FK0 := tab_frame mixed FDK2_ok fun args h v h' ho => by
  unfold sPassK at ho
  split at ho <;> (try simp only [reduceCtorEq] at ho)
  rename_i m c t j kd rd du vv r
  split at ho <;> (try simp only [reduceCtorEq] at ho)
  rename_i cs ts js ms l hc ht hj hv hl
  split at ho <;> (try simp only [reduceCtorEq] at ho)
  rename_i hg
  split at ho <;> (try simp only [reduceCtorEq] at ho)
  rename_i rr hr
  simp only [Option.some.injEq, Prod.mk.injEq] at ho
  obtain ⟨rfl, rfl⟩ := ho
  obtain ⟨rfl, _⟩ := dLine_eq hl
  simp only [Bool.and_eq_true, beq_iff_eq, decide_eq_true_eq, List.all_eq_true] at hg
  obtain ⟨⟨⟨⟨⟨⟨⟨g1, g2⟩, g3⟩, g4⟩, g5⟩, g6⟩, g7⟩, g8⟩ := hg
  have e := passC_eq hr
  subst e
  exact a102 Tryz.prog FDK2 rfl rfl ⟨m, cs, ts⟩ js c t j hc ht hj kd rd du vv ms l hv ⟨shop_ok g1, lineB_ok g2, ⟨g3, g4⟩, ⟨g5, g6⟩, g7, g8⟩
def kS : Za := .agg [I 2, .vl [[.vl [[I 0], [I 10]] true], [.vl [[I 20], [I 0]] true]] true, .nils]
def kJ90 : Za := (.vl [[I 0, I 0, I 100, (.vl [[I (30)], [I (40)]] true)], [I 1, I 0, I 90, (.vl [[I (20)], [I (20)]] true)], [I 0, I 15, I 130, (.vl [[I (10)], [I (0)]] true)]] true)
def kJ100 : Za := (.vl [[I 0, I 0, I 100, (.vl [[I (30)], [I (40)]] true)], [I 1, I 0, I 100, (.vl [[I (20)], [I (20)]] true)], [I 0, I 15, I 130, (.vl [[I (10)], [I (0)]] true)]] true)
theorem k71_0 : isR (.tup [.nils, .agg [I 0, I 0]]) (Yj FK0 (exec Tryz.prog FK0 1000) 71 [.agg [I 2, .vl [[.vl [[I 0], [I 10]] true], [.vl [[I 20], [I 0]] true]] true, .nils, .nils]] []) = true := by kernel_rfl
theorem k71_1 : isR (.tup [(.vl [[I (0)]] false), .agg [I 0, I 70]]) (Yj FK0 (exec Tryz.prog FK0 1000) 71 [.agg [I 2, .vl [[.vl [[I 0], [I 10]] true], [.vl [[I 20], [I 0]] true]] true, .nils, (.vl [[I 0, I 0, I 100, (.vl [[I (30)], [I (40)]] true)]] false)]] []) = true := by kernel_rfl
theorem k71_2 : isR (.tup [(.vl [[I (0)]] false), .agg [I 0, I 40]]) (Yj FK0 (exec Tryz.prog FK0 1000) 71 [.agg [I 2, .vl [[.vl [[I 0], [I 10]] true], [.vl [[I 20], [I 0]] true]] true, .nils, (.vl [[I 1, I 0, I 90, (.vl [[I (20)], [I (20)]] true)]] false)]] []) = true := by kernel_rfl
theorem k71_3 : isR (.tup [(.vl [[I (0)], [I (1)]] false), .agg [I 10, I 100]]) (Yj FK0 (exec Tryz.prog FK0 1000) 71 [.agg [I 2, .vl [[.vl [[I 0], [I 10]] true], [.vl [[I 20], [I 0]] true]] true, .nils, (.vl [[I 0, I 0, I 100, (.vl [[I (30)], [I (40)]] true)], [I 1, I 0, I 90, (.vl [[I (20)], [I (20)]] true)]] false)]] []) = true := by kernel_rfl
theorem k71_4 : isR (.tup [(.vl [[I (0)]] false), .agg [I 0, I 25]]) (Yj FK0 (exec Tryz.prog FK0 1000) 71 [.agg [I 2, .vl [[.vl [[I 0], [I 10]] true], [.vl [[I 20], [I 0]] true]] true, .nils, (.vl [[I 0, I 15, I 130, (.vl [[I (10)], [I (0)]] true)]] false)]] []) = true := by kernel_rfl
theorem k71_5 : isR (.tup [(.vl [[I (0)], [I (1)]] false), .agg [I 0, I 70]]) (Yj FK0 (exec Tryz.prog FK0 1000) 71 [.agg [I 2, .vl [[.vl [[I 0], [I 10]] true], [.vl [[I 20], [I 0]] true]] true, .nils, (.vl [[I 0, I 0, I 100, (.vl [[I (30)], [I (40)]] true)], [I 0, I 15, I 130, (.vl [[I (10)], [I (0)]] true)]] false)]] []) = true := by kernel_rfl
theorem k71_6 : isR (.tup [(.vl [[I (0)], [I (1)]] false), .agg [I 0, I 50]]) (Yj FK0 (exec Tryz.prog FK0 1000) 71 [.agg [I 2, .vl [[.vl [[I 0], [I 10]] true], [.vl [[I 20], [I 0]] true]] true, .nils, (.vl [[I 1, I 0, I 90, (.vl [[I (20)], [I (20)]] true)], [I 0, I 15, I 130, (.vl [[I (10)], [I (0)]] true)]] false)]] []) = true := by kernel_rfl
theorem k71_7 : isR (.tup [(.vl [[I (0)], [I (1)], [I (2)]] false), .agg [I 10, I 100]]) (Yj FK0 (exec Tryz.prog FK0 1000) 71 [.agg [I 2, .vl [[.vl [[I 0], [I 10]] true], [.vl [[I 20], [I 0]] true]] true, .nils, (.vl [[I 0, I 0, I 100, (.vl [[I (30)], [I (40)]] true)], [I 1, I 0, I 90, (.vl [[I (20)], [I (20)]] true)], [I 0, I 15, I 130, (.vl [[I (10)], [I (0)]] true)]] false)]] []) = true := by kernel_rfl
theorem k71_8 : isR (.tup [(.vl [[I (0)], [I (1)], [I (2)]] false), .agg [I 10, I 100]]) (Yj FK0 (exec Tryz.prog FK0 1000) 71 [.agg [I 2, .vl [[.vl [[I 0], [I 10]] true], [.vl [[I 20], [I 0]] true]] true, .nils, (.vl [[I 0, I 0, I 100, (.vl [[I (30)], [I (40)]] true)], [I 1, I 0, I 90, (.vl [[I (20)], [I (20)]] true)], [I 0, I 15, I 130, (.vl [[I (10)], [I (0)]] true)]] true)]] []) = true := by kernel_rfl
theorem k64_0 : isR (.nils) (Yj FK0 (exec Tryz.prog FK0 1000) 64 [.agg [I 2, .vl [[.vl [[I 0], [I 10]] true], [.vl [[I 20], [I 0]] true]] true, .nils, (.vl [[I 0, I 0, I 100, (.vl [[I (30)], [I (40)]] true)], [I 1, I 0, I 100, (.vl [[I (20)], [I (20)]] true)], [I 0, I 15, I 130, (.vl [[I (10)], [I (0)]] true)]] true)], (.vl [[I (0)], [I (1)], [I (2)]] true)] []) = true := by kernel_rfl
theorem k64_1 : isR ((.vl [[I (0)], [I (1)]] false)) (Yj FK0 (exec Tryz.prog FK0 1000) 64 [.agg [I 2, .vl [[.vl [[I 0], [I 10]] true], [.vl [[I 20], [I 0]] true]] true, (.vl [[I 1, I 60, I 70]] false), (.vl [[I 0, I 0, I 100, (.vl [[I (30)], [I (40)]] true)], [I 1, I 0, I 100, (.vl [[I (20)], [I (20)]] true)], [I 0, I 15, I 130, (.vl [[I (10)], [I (0)]] true)]] true)], (.vl [[I (0)], [I (1)], [I (2)]] true)] []) = true := by kernel_rfl
theorem k64_0_5000 : isR ((.vl [[I (0)], [I (1)], [I (2)]] false)) (Yj FK0 (exec Tryz.prog FK0 1000) 64 [.agg [I 2, .vl [[.vl [[I 0], [I 10]] true], [.vl [[I 20], [I 0]] true]] true, .nils, (.vl [[I 0, I 5000, I 100, (.vl [[I (30)], [I (40)]] true)], [I 1, I 0, I 100, (.vl [[I (20)], [I (20)]] true)], [I 0, I 15, I 130, (.vl [[I (10)], [I (0)]] true)]] false)], (.vl [[I (0)], [I (1)], [I (2)]] true)] []) = true := by kernel_rfl
theorem k64_0_2500 : isR ((.vl [[I (0)], [I (1)], [I (2)]] false)) (Yj FK0 (exec Tryz.prog FK0 1000) 64 [.agg [I 2, .vl [[.vl [[I 0], [I 10]] true], [.vl [[I 20], [I 0]] true]] true, .nils, (.vl [[I 0, I 2500, I 100, (.vl [[I (30)], [I (40)]] true)], [I 1, I 0, I 100, (.vl [[I (20)], [I (20)]] true)], [I 0, I 15, I 130, (.vl [[I (10)], [I (0)]] true)]] false)], (.vl [[I (0)], [I (1)], [I (2)]] true)] []) = true := by kernel_rfl
theorem k64_0_1250 : isR ((.vl [[I (0)], [I (1)], [I (2)]] false)) (Yj FK0 (exec Tryz.prog FK0 1000) 64 [.agg [I 2, .vl [[.vl [[I 0], [I 10]] true], [.vl [[I 20], [I 0]] true]] true, .nils, (.vl [[I 0, I 1250, I 100, (.vl [[I (30)], [I (40)]] true)], [I 1, I 0, I 100, (.vl [[I (20)], [I (20)]] true)], [I 0, I 15, I 130, (.vl [[I (10)], [I (0)]] true)]] false)], (.vl [[I (0)], [I (1)], [I (2)]] true)] []) = true := by kernel_rfl
theorem k64_0_625 : isR ((.vl [[I (0)], [I (1)], [I (2)]] false)) (Yj FK0 (exec Tryz.prog FK0 1000) 64 [.agg [I 2, .vl [[.vl [[I 0], [I 10]] true], [.vl [[I 20], [I 0]] true]] true, .nils, (.vl [[I 0, I 625, I 100, (.vl [[I (30)], [I (40)]] true)], [I 1, I 0, I 100, (.vl [[I (20)], [I (20)]] true)], [I 0, I 15, I 130, (.vl [[I (10)], [I (0)]] true)]] false)], (.vl [[I (0)], [I (1)], [I (2)]] true)] []) = true := by kernel_rfl
theorem k64_0_312 : isR ((.vl [[I (0)], [I (1)], [I (2)]] false)) (Yj FK0 (exec Tryz.prog FK0 1000) 64 [.agg [I 2, .vl [[.vl [[I 0], [I 10]] true], [.vl [[I 20], [I 0]] true]] true, .nils, (.vl [[I 0, I 312, I 100, (.vl [[I (30)], [I (40)]] true)], [I 1, I 0, I 100, (.vl [[I (20)], [I (20)]] true)], [I 0, I 15, I 130, (.vl [[I (10)], [I (0)]] true)]] false)], (.vl [[I (0)], [I (1)], [I (2)]] true)] []) = true := by kernel_rfl
theorem k64_0_156 : isR ((.vl [[I (0)], [I (1)], [I (2)]] false)) (Yj FK0 (exec Tryz.prog FK0 1000) 64 [.agg [I 2, .vl [[.vl [[I 0], [I 10]] true], [.vl [[I 20], [I 0]] true]] true, .nils, (.vl [[I 0, I 156, I 100, (.vl [[I (30)], [I (40)]] true)], [I 1, I 0, I 100, (.vl [[I (20)], [I (20)]] true)], [I 0, I 15, I 130, (.vl [[I (10)], [I (0)]] true)]] false)], (.vl [[I (0)], [I (1)], [I (2)]] true)] []) = true := by kernel_rfl
theorem k64_0_78 : isR ((.vl [[I (0)], [I (1)], [I (2)]] false)) (Yj FK0 (exec Tryz.prog FK0 1000) 64 [.agg [I 2, .vl [[.vl [[I 0], [I 10]] true], [.vl [[I 20], [I 0]] true]] true, .nils, (.vl [[I 0, I 78, I 100, (.vl [[I (30)], [I (40)]] true)], [I 1, I 0, I 100, (.vl [[I (20)], [I (20)]] true)], [I 0, I 15, I 130, (.vl [[I (10)], [I (0)]] true)]] false)], (.vl [[I (0)], [I (1)], [I (2)]] true)] []) = true := by kernel_rfl
theorem k64_0_39 : isR ((.vl [[I (0)], [I (1)]] false)) (Yj FK0 (exec Tryz.prog FK0 1000) 64 [.agg [I 2, .vl [[.vl [[I 0], [I 10]] true], [.vl [[I 20], [I 0]] true]] true, .nils, (.vl [[I 0, I 39, I 100, (.vl [[I (30)], [I (40)]] true)], [I 1, I 0, I 100, (.vl [[I (20)], [I (20)]] true)], [I 0, I 15, I 130, (.vl [[I (10)], [I (0)]] true)]] false)], (.vl [[I (0)], [I (1)], [I (2)]] true)] []) = true := by kernel_rfl
theorem k64_0_19 : isR ((.vl [[I (1)]] false)) (Yj FK0 (exec Tryz.prog FK0 1000) 64 [.agg [I 2, .vl [[.vl [[I 0], [I 10]] true], [.vl [[I 20], [I 0]] true]] true, .nils, (.vl [[I 0, I 19, I 100, (.vl [[I (30)], [I (40)]] true)], [I 1, I 0, I 100, (.vl [[I (20)], [I (20)]] true)], [I 0, I 15, I 130, (.vl [[I (10)], [I (0)]] true)]] false)], (.vl [[I (0)], [I (1)], [I (2)]] true)] []) = true := by kernel_rfl
theorem k64_0_9 : isR ((.vl [[I (1)]] false)) (Yj FK0 (exec Tryz.prog FK0 1000) 64 [.agg [I 2, .vl [[.vl [[I 0], [I 10]] true], [.vl [[I 20], [I 0]] true]] true, .nils, (.vl [[I 0, I 9, I 100, (.vl [[I (30)], [I (40)]] true)], [I 1, I 0, I 100, (.vl [[I (20)], [I (20)]] true)], [I 0, I 15, I 130, (.vl [[I (10)], [I (0)]] true)]] false)], (.vl [[I (0)], [I (1)], [I (2)]] true)] []) = true := by kernel_rfl
theorem k64_0_4 : isR ((.vl [[I (1)]] false)) (Yj FK0 (exec Tryz.prog FK0 1000) 64 [.agg [I 2, .vl [[.vl [[I 0], [I 10]] true], [.vl [[I 20], [I 0]] true]] true, .nils, (.vl [[I 0, I 4, I 100, (.vl [[I (30)], [I (40)]] true)], [I 1, I 0, I 100, (.vl [[I (20)], [I (20)]] true)], [I 0, I 15, I 130, (.vl [[I (10)], [I (0)]] true)]] false)], (.vl [[I (0)], [I (1)], [I (2)]] true)] []) = true := by kernel_rfl
theorem k64_0_2 : isR ((.vl [[I (1)]] false)) (Yj FK0 (exec Tryz.prog FK0 1000) 64 [.agg [I 2, .vl [[.vl [[I 0], [I 10]] true], [.vl [[I 20], [I 0]] true]] true, .nils, (.vl [[I 0, I 2, I 100, (.vl [[I (30)], [I (40)]] true)], [I 1, I 0, I 100, (.vl [[I (20)], [I (20)]] true)], [I 0, I 15, I 130, (.vl [[I (10)], [I (0)]] true)]] false)], (.vl [[I (0)], [I (1)], [I (2)]] true)] []) = true := by kernel_rfl
theorem k64_0_1 : isR ((.vl [[I (1)]] false)) (Yj FK0 (exec Tryz.prog FK0 1000) 64 [.agg [I 2, .vl [[.vl [[I 0], [I 10]] true], [.vl [[I 20], [I 0]] true]] true, .nils, (.vl [[I 0, I 1, I 100, (.vl [[I (30)], [I (40)]] true)], [I 1, I 0, I 100, (.vl [[I (20)], [I (20)]] true)], [I 0, I 15, I 130, (.vl [[I (10)], [I (0)]] true)]] false)], (.vl [[I (0)], [I (1)], [I (2)]] true)] []) = true := by kernel_rfl
theorem k64_1_5000 : isR ((.vl [[I (1)], [I (2)]] false)) (Yj FK0 (exec Tryz.prog FK0 1000) 64 [.agg [I 2, .vl [[.vl [[I 0], [I 10]] true], [.vl [[I 20], [I 0]] true]] true, .nils, (.vl [[I 0, I 0, I 100, (.vl [[I (30)], [I (40)]] true)], [I 1, I 5000, I 100, (.vl [[I (20)], [I (20)]] true)], [I 0, I 15, I 130, (.vl [[I (10)], [I (0)]] true)]] false)], (.vl [[I (0)], [I (1)], [I (2)]] true)] []) = true := by kernel_rfl
theorem k64_1_2500 : isR ((.vl [[I (1)], [I (2)]] false)) (Yj FK0 (exec Tryz.prog FK0 1000) 64 [.agg [I 2, .vl [[.vl [[I 0], [I 10]] true], [.vl [[I 20], [I 0]] true]] true, .nils, (.vl [[I 0, I 0, I 100, (.vl [[I (30)], [I (40)]] true)], [I 1, I 2500, I 100, (.vl [[I (20)], [I (20)]] true)], [I 0, I 15, I 130, (.vl [[I (10)], [I (0)]] true)]] false)], (.vl [[I (0)], [I (1)], [I (2)]] true)] []) = true := by kernel_rfl
theorem k64_1_1250 : isR ((.vl [[I (1)], [I (2)]] false)) (Yj FK0 (exec Tryz.prog FK0 1000) 64 [.agg [I 2, .vl [[.vl [[I 0], [I 10]] true], [.vl [[I 20], [I 0]] true]] true, .nils, (.vl [[I 0, I 0, I 100, (.vl [[I (30)], [I (40)]] true)], [I 1, I 1250, I 100, (.vl [[I (20)], [I (20)]] true)], [I 0, I 15, I 130, (.vl [[I (10)], [I (0)]] true)]] false)], (.vl [[I (0)], [I (1)], [I (2)]] true)] []) = true := by kernel_rfl
theorem k64_1_625 : isR ((.vl [[I (1)], [I (2)]] false)) (Yj FK0 (exec Tryz.prog FK0 1000) 64 [.agg [I 2, .vl [[.vl [[I 0], [I 10]] true], [.vl [[I 20], [I 0]] true]] true, .nils, (.vl [[I 0, I 0, I 100, (.vl [[I (30)], [I (40)]] true)], [I 1, I 625, I 100, (.vl [[I (20)], [I (20)]] true)], [I 0, I 15, I 130, (.vl [[I (10)], [I (0)]] true)]] false)], (.vl [[I (0)], [I (1)], [I (2)]] true)] []) = true := by kernel_rfl
theorem k64_1_312 : isR ((.vl [[I (1)], [I (2)]] false)) (Yj FK0 (exec Tryz.prog FK0 1000) 64 [.agg [I 2, .vl [[.vl [[I 0], [I 10]] true], [.vl [[I 20], [I 0]] true]] true, .nils, (.vl [[I 0, I 0, I 100, (.vl [[I (30)], [I (40)]] true)], [I 1, I 312, I 100, (.vl [[I (20)], [I (20)]] true)], [I 0, I 15, I 130, (.vl [[I (10)], [I (0)]] true)]] false)], (.vl [[I (0)], [I (1)], [I (2)]] true)] []) = true := by kernel_rfl
theorem k64_1_156 : isR ((.vl [[I (1)], [I (2)]] false)) (Yj FK0 (exec Tryz.prog FK0 1000) 64 [.agg [I 2, .vl [[.vl [[I 0], [I 10]] true], [.vl [[I 20], [I 0]] true]] true, .nils, (.vl [[I 0, I 0, I 100, (.vl [[I (30)], [I (40)]] true)], [I 1, I 156, I 100, (.vl [[I (20)], [I (20)]] true)], [I 0, I 15, I 130, (.vl [[I (10)], [I (0)]] true)]] false)], (.vl [[I (0)], [I (1)], [I (2)]] true)] []) = true := by kernel_rfl
theorem k64_1_78 : isR ((.vl [[I (1)]] false)) (Yj FK0 (exec Tryz.prog FK0 1000) 64 [.agg [I 2, .vl [[.vl [[I 0], [I 10]] true], [.vl [[I 20], [I 0]] true]] true, .nils, (.vl [[I 0, I 0, I 100, (.vl [[I (30)], [I (40)]] true)], [I 1, I 78, I 100, (.vl [[I (20)], [I (20)]] true)], [I 0, I 15, I 130, (.vl [[I (10)], [I (0)]] true)]] false)], (.vl [[I (0)], [I (1)], [I (2)]] true)] []) = true := by kernel_rfl
theorem k64_1_39 : isR (.nils) (Yj FK0 (exec Tryz.prog FK0 1000) 64 [.agg [I 2, .vl [[.vl [[I 0], [I 10]] true], [.vl [[I 20], [I 0]] true]] true, .nils, (.vl [[I 0, I 0, I 100, (.vl [[I (30)], [I (40)]] true)], [I 1, I 39, I 100, (.vl [[I (20)], [I (20)]] true)], [I 0, I 15, I 130, (.vl [[I (10)], [I (0)]] true)]] false)], (.vl [[I (0)], [I (1)], [I (2)]] true)] []) = true := by kernel_rfl
theorem k64_1_58 : isR (.nils) (Yj FK0 (exec Tryz.prog FK0 1000) 64 [.agg [I 2, .vl [[.vl [[I 0], [I 10]] true], [.vl [[I 20], [I 0]] true]] true, .nils, (.vl [[I 0, I 0, I 100, (.vl [[I (30)], [I (40)]] true)], [I 1, I 58, I 100, (.vl [[I (20)], [I (20)]] true)], [I 0, I 15, I 130, (.vl [[I (10)], [I (0)]] true)]] false)], (.vl [[I (0)], [I (1)], [I (2)]] true)] []) = true := by kernel_rfl
theorem k64_1_68 : isR ((.vl [[I (1)]] false)) (Yj FK0 (exec Tryz.prog FK0 1000) 64 [.agg [I 2, .vl [[.vl [[I 0], [I 10]] true], [.vl [[I 20], [I 0]] true]] true, .nils, (.vl [[I 0, I 0, I 100, (.vl [[I (30)], [I (40)]] true)], [I 1, I 68, I 100, (.vl [[I (20)], [I (20)]] true)], [I 0, I 15, I 130, (.vl [[I (10)], [I (0)]] true)]] false)], (.vl [[I (0)], [I (1)], [I (2)]] true)] []) = true := by kernel_rfl
theorem k64_1_63 : isR ((.vl [[I (1)]] false)) (Yj FK0 (exec Tryz.prog FK0 1000) 64 [.agg [I 2, .vl [[.vl [[I 0], [I 10]] true], [.vl [[I 20], [I 0]] true]] true, .nils, (.vl [[I 0, I 0, I 100, (.vl [[I (30)], [I (40)]] true)], [I 1, I 63, I 100, (.vl [[I (20)], [I (20)]] true)], [I 0, I 15, I 130, (.vl [[I (10)], [I (0)]] true)]] false)], (.vl [[I (0)], [I (1)], [I (2)]] true)] []) = true := by kernel_rfl
theorem k64_1_60 : isR (.nils) (Yj FK0 (exec Tryz.prog FK0 1000) 64 [.agg [I 2, .vl [[.vl [[I 0], [I 10]] true], [.vl [[I 20], [I 0]] true]] true, .nils, (.vl [[I 0, I 0, I 100, (.vl [[I (30)], [I (40)]] true)], [I 1, I 60, I 100, (.vl [[I (20)], [I (20)]] true)], [I 0, I 15, I 130, (.vl [[I (10)], [I (0)]] true)]] false)], (.vl [[I (0)], [I (1)], [I (2)]] true)] []) = true := by kernel_rfl
theorem k64_1_61 : isR ((.vl [[I (1)]] false)) (Yj FK0 (exec Tryz.prog FK0 1000) 64 [.agg [I 2, .vl [[.vl [[I 0], [I 10]] true], [.vl [[I 20], [I 0]] true]] true, .nils, (.vl [[I 0, I 0, I 100, (.vl [[I (30)], [I (40)]] true)], [I 1, I 61, I 100, (.vl [[I (20)], [I (20)]] true)], [I 0, I 15, I 130, (.vl [[I (10)], [I (0)]] true)]] false)], (.vl [[I (0)], [I (1)], [I (2)]] true)] []) = true := by kernel_rfl
def kL71 : List (List Za × Za) := [([.agg [I 2, .vl [[.vl [[I 0], [I 10]] true], [.vl [[I 20], [I 0]] true]] true, .nils, .nils]], .tup [.nils, .agg [I 0, I 0]]), ([.agg [I 2, .vl [[.vl [[I 0], [I 10]] true], [.vl [[I 20], [I 0]] true]] true, .nils, (.vl [[I 0, I 0, I 100, (.vl [[I (30)], [I (40)]] true)]] false)]], .tup [(.vl [[I (0)]] false), .agg [I 0, I 70]]), ([.agg [I 2, .vl [[.vl [[I 0], [I 10]] true], [.vl [[I 20], [I 0]] true]] true, .nils, (.vl [[I 1, I 0, I 90, (.vl [[I (20)], [I (20)]] true)]] false)]], .tup [(.vl [[I (0)]] false), .agg [I 0, I 40]]), ([.agg [I 2, .vl [[.vl [[I 0], [I 10]] true], [.vl [[I 20], [I 0]] true]] true, .nils, (.vl [[I 0, I 0, I 100, (.vl [[I (30)], [I (40)]] true)], [I 1, I 0, I 90, (.vl [[I (20)], [I (20)]] true)]] false)]], .tup [(.vl [[I (0)], [I (1)]] false), .agg [I 10, I 100]]), ([.agg [I 2, .vl [[.vl [[I 0], [I 10]] true], [.vl [[I 20], [I 0]] true]] true, .nils, (.vl [[I 0, I 15, I 130, (.vl [[I (10)], [I (0)]] true)]] false)]], .tup [(.vl [[I (0)]] false), .agg [I 0, I 25]]), ([.agg [I 2, .vl [[.vl [[I 0], [I 10]] true], [.vl [[I 20], [I 0]] true]] true, .nils, (.vl [[I 0, I 0, I 100, (.vl [[I (30)], [I (40)]] true)], [I 0, I 15, I 130, (.vl [[I (10)], [I (0)]] true)]] false)]], .tup [(.vl [[I (0)], [I (1)]] false), .agg [I 0, I 70]]), ([.agg [I 2, .vl [[.vl [[I 0], [I 10]] true], [.vl [[I 20], [I 0]] true]] true, .nils, (.vl [[I 1, I 0, I 90, (.vl [[I (20)], [I (20)]] true)], [I 0, I 15, I 130, (.vl [[I (10)], [I (0)]] true)]] false)]], .tup [(.vl [[I (0)], [I (1)]] false), .agg [I 0, I 50]]), ([.agg [I 2, .vl [[.vl [[I 0], [I 10]] true], [.vl [[I 20], [I 0]] true]] true, .nils, (.vl [[I 0, I 0, I 100, (.vl [[I (30)], [I (40)]] true)], [I 1, I 0, I 90, (.vl [[I (20)], [I (20)]] true)], [I 0, I 15, I 130, (.vl [[I (10)], [I (0)]] true)]] false)]], .tup [(.vl [[I (0)], [I (1)], [I (2)]] false), .agg [I 10, I 100]]), ([.agg [I 2, .vl [[.vl [[I 0], [I 10]] true], [.vl [[I 20], [I 0]] true]] true, .nils, (.vl [[I 0, I 0, I 100, (.vl [[I (30)], [I (40)]] true)], [I 1, I 0, I 90, (.vl [[I (20)], [I (20)]] true)], [I 0, I 15, I 130, (.vl [[I (10)], [I (0)]] true)]] true)]], .tup [(.vl [[I (0)], [I (1)], [I (2)]] false), .agg [I 10, I 100]])]
def FKa1 : Nat → Option CFn := upd FK0 71 true (oAt kL71)
theorem FKa1_ok : Zr Tryz.prog GG FKa1 := tab_upd FK0_ok (oAt_good fun p hp => by
  simp only [kL71, List.mem_cons, List.not_mem_nil, or_false] at hp
  rcases hp with rfl | rfl | rfl | rfl | rfl | rfl | rfl | rfl | rfl
  · exact YL mixed FK0_ok (Zo k71_0)
  · exact YL mixed FK0_ok (Zo k71_1)
  · exact YL mixed FK0_ok (Zo k71_2)
  · exact YL mixed FK0_ok (Zo k71_3)
  · exact YL mixed FK0_ok (Zo k71_4)
  · exact YL mixed FK0_ok (Zo k71_5)
  · exact YL mixed FK0_ok (Zo k71_6)
  · exact YL mixed FK0_ok (Zo k71_7)
  · exact YL mixed FK0_ok (Zo k71_8))
def kL64 : List (List Za × Za) := [([.agg [I 2, .vl [[.vl [[I 0], [I 10]] true], [.vl [[I 20], [I 0]] true]] true, .nils, (.vl [[I 0, I 0, I 100, (.vl [[I (30)], [I (40)]] true)], [I 1, I 0, I 100, (.vl [[I (20)], [I (20)]] true)], [I 0, I 15, I 130, (.vl [[I (10)], [I (0)]] true)]] true)], (.vl [[I (0)], [I (1)], [I (2)]] true)], .nils), ([.agg [I 2, .vl [[.vl [[I 0], [I 10]] true], [.vl [[I 20], [I 0]] true]] true, (.vl [[I 1, I 60, I 70]] false), (.vl [[I 0, I 0, I 100, (.vl [[I (30)], [I (40)]] true)], [I 1, I 0, I 100, (.vl [[I (20)], [I (20)]] true)], [I 0, I 15, I 130, (.vl [[I (10)], [I (0)]] true)]] true)], (.vl [[I (0)], [I (1)], [I (2)]] true)], (.vl [[I (0)], [I (1)]] false)), ([.agg [I 2, .vl [[.vl [[I 0], [I 10]] true], [.vl [[I 20], [I 0]] true]] true, .nils, (.vl [[I 0, I 5000, I 100, (.vl [[I (30)], [I (40)]] true)], [I 1, I 0, I 100, (.vl [[I (20)], [I (20)]] true)], [I 0, I 15, I 130, (.vl [[I (10)], [I (0)]] true)]] false)], (.vl [[I (0)], [I (1)], [I (2)]] true)], (.vl [[I (0)], [I (1)], [I (2)]] false)), ([.agg [I 2, .vl [[.vl [[I 0], [I 10]] true], [.vl [[I 20], [I 0]] true]] true, .nils, (.vl [[I 0, I 2500, I 100, (.vl [[I (30)], [I (40)]] true)], [I 1, I 0, I 100, (.vl [[I (20)], [I (20)]] true)], [I 0, I 15, I 130, (.vl [[I (10)], [I (0)]] true)]] false)], (.vl [[I (0)], [I (1)], [I (2)]] true)], (.vl [[I (0)], [I (1)], [I (2)]] false)), ([.agg [I 2, .vl [[.vl [[I 0], [I 10]] true], [.vl [[I 20], [I 0]] true]] true, .nils, (.vl [[I 0, I 1250, I 100, (.vl [[I (30)], [I (40)]] true)], [I 1, I 0, I 100, (.vl [[I (20)], [I (20)]] true)], [I 0, I 15, I 130, (.vl [[I (10)], [I (0)]] true)]] false)], (.vl [[I (0)], [I (1)], [I (2)]] true)], (.vl [[I (0)], [I (1)], [I (2)]] false)), ([.agg [I 2, .vl [[.vl [[I 0], [I 10]] true], [.vl [[I 20], [I 0]] true]] true, .nils, (.vl [[I 0, I 625, I 100, (.vl [[I (30)], [I (40)]] true)], [I 1, I 0, I 100, (.vl [[I (20)], [I (20)]] true)], [I 0, I 15, I 130, (.vl [[I (10)], [I (0)]] true)]] false)], (.vl [[I (0)], [I (1)], [I (2)]] true)], (.vl [[I (0)], [I (1)], [I (2)]] false)), ([.agg [I 2, .vl [[.vl [[I 0], [I 10]] true], [.vl [[I 20], [I 0]] true]] true, .nils, (.vl [[I 0, I 312, I 100, (.vl [[I (30)], [I (40)]] true)], [I 1, I 0, I 100, (.vl [[I (20)], [I (20)]] true)], [I 0, I 15, I 130, (.vl [[I (10)], [I (0)]] true)]] false)], (.vl [[I (0)], [I (1)], [I (2)]] true)], (.vl [[I (0)], [I (1)], [I (2)]] false)), ([.agg [I 2, .vl [[.vl [[I 0], [I 10]] true], [.vl [[I 20], [I 0]] true]] true, .nils, (.vl [[I 0, I 156, I 100, (.vl [[I (30)], [I (40)]] true)], [I 1, I 0, I 100, (.vl [[I (20)], [I (20)]] true)], [I 0, I 15, I 130, (.vl [[I (10)], [I (0)]] true)]] false)], (.vl [[I (0)], [I (1)], [I (2)]] true)], (.vl [[I (0)], [I (1)], [I (2)]] false)), ([.agg [I 2, .vl [[.vl [[I 0], [I 10]] true], [.vl [[I 20], [I 0]] true]] true, .nils, (.vl [[I 0, I 78, I 100, (.vl [[I (30)], [I (40)]] true)], [I 1, I 0, I 100, (.vl [[I (20)], [I (20)]] true)], [I 0, I 15, I 130, (.vl [[I (10)], [I (0)]] true)]] false)], (.vl [[I (0)], [I (1)], [I (2)]] true)], (.vl [[I (0)], [I (1)], [I (2)]] false)), ([.agg [I 2, .vl [[.vl [[I 0], [I 10]] true], [.vl [[I 20], [I 0]] true]] true, .nils, (.vl [[I 0, I 39, I 100, (.vl [[I (30)], [I (40)]] true)], [I 1, I 0, I 100, (.vl [[I (20)], [I (20)]] true)], [I 0, I 15, I 130, (.vl [[I (10)], [I (0)]] true)]] false)], (.vl [[I (0)], [I (1)], [I (2)]] true)], (.vl [[I (0)], [I (1)]] false)), ([.agg [I 2, .vl [[.vl [[I 0], [I 10]] true], [.vl [[I 20], [I 0]] true]] true, .nils, (.vl [[I 0, I 19, I 100, (.vl [[I (30)], [I (40)]] true)], [I 1, I 0, I 100, (.vl [[I (20)], [I (20)]] true)], [I 0, I 15, I 130, (.vl [[I (10)], [I (0)]] true)]] false)], (.vl [[I (0)], [I (1)], [I (2)]] true)], (.vl [[I (1)]] false)), ([.agg [I 2, .vl [[.vl [[I 0], [I 10]] true], [.vl [[I 20], [I 0]] true]] true, .nils, (.vl [[I 0, I 9, I 100, (.vl [[I (30)], [I (40)]] true)], [I 1, I 0, I 100, (.vl [[I (20)], [I (20)]] true)], [I 0, I 15, I 130, (.vl [[I (10)], [I (0)]] true)]] false)], (.vl [[I (0)], [I (1)], [I (2)]] true)], (.vl [[I (1)]] false)), ([.agg [I 2, .vl [[.vl [[I 0], [I 10]] true], [.vl [[I 20], [I 0]] true]] true, .nils, (.vl [[I 0, I 4, I 100, (.vl [[I (30)], [I (40)]] true)], [I 1, I 0, I 100, (.vl [[I (20)], [I (20)]] true)], [I 0, I 15, I 130, (.vl [[I (10)], [I (0)]] true)]] false)], (.vl [[I (0)], [I (1)], [I (2)]] true)], (.vl [[I (1)]] false)), ([.agg [I 2, .vl [[.vl [[I 0], [I 10]] true], [.vl [[I 20], [I 0]] true]] true, .nils, (.vl [[I 0, I 2, I 100, (.vl [[I (30)], [I (40)]] true)], [I 1, I 0, I 100, (.vl [[I (20)], [I (20)]] true)], [I 0, I 15, I 130, (.vl [[I (10)], [I (0)]] true)]] false)], (.vl [[I (0)], [I (1)], [I (2)]] true)], (.vl [[I (1)]] false)), ([.agg [I 2, .vl [[.vl [[I 0], [I 10]] true], [.vl [[I 20], [I 0]] true]] true, .nils, (.vl [[I 0, I 1, I 100, (.vl [[I (30)], [I (40)]] true)], [I 1, I 0, I 100, (.vl [[I (20)], [I (20)]] true)], [I 0, I 15, I 130, (.vl [[I (10)], [I (0)]] true)]] false)], (.vl [[I (0)], [I (1)], [I (2)]] true)], (.vl [[I (1)]] false)), ([.agg [I 2, .vl [[.vl [[I 0], [I 10]] true], [.vl [[I 20], [I 0]] true]] true, .nils, (.vl [[I 0, I 0, I 100, (.vl [[I (30)], [I (40)]] true)], [I 1, I 5000, I 100, (.vl [[I (20)], [I (20)]] true)], [I 0, I 15, I 130, (.vl [[I (10)], [I (0)]] true)]] false)], (.vl [[I (0)], [I (1)], [I (2)]] true)], (.vl [[I (1)], [I (2)]] false)), ([.agg [I 2, .vl [[.vl [[I 0], [I 10]] true], [.vl [[I 20], [I 0]] true]] true, .nils, (.vl [[I 0, I 0, I 100, (.vl [[I (30)], [I (40)]] true)], [I 1, I 2500, I 100, (.vl [[I (20)], [I (20)]] true)], [I 0, I 15, I 130, (.vl [[I (10)], [I (0)]] true)]] false)], (.vl [[I (0)], [I (1)], [I (2)]] true)], (.vl [[I (1)], [I (2)]] false)), ([.agg [I 2, .vl [[.vl [[I 0], [I 10]] true], [.vl [[I 20], [I 0]] true]] true, .nils, (.vl [[I 0, I 0, I 100, (.vl [[I (30)], [I (40)]] true)], [I 1, I 1250, I 100, (.vl [[I (20)], [I (20)]] true)], [I 0, I 15, I 130, (.vl [[I (10)], [I (0)]] true)]] false)], (.vl [[I (0)], [I (1)], [I (2)]] true)], (.vl [[I (1)], [I (2)]] false)), ([.agg [I 2, .vl [[.vl [[I 0], [I 10]] true], [.vl [[I 20], [I 0]] true]] true, .nils, (.vl [[I 0, I 0, I 100, (.vl [[I (30)], [I (40)]] true)], [I 1, I 625, I 100, (.vl [[I (20)], [I (20)]] true)], [I 0, I 15, I 130, (.vl [[I (10)], [I (0)]] true)]] false)], (.vl [[I (0)], [I (1)], [I (2)]] true)], (.vl [[I (1)], [I (2)]] false)), ([.agg [I 2, .vl [[.vl [[I 0], [I 10]] true], [.vl [[I 20], [I 0]] true]] true, .nils, (.vl [[I 0, I 0, I 100, (.vl [[I (30)], [I (40)]] true)], [I 1, I 312, I 100, (.vl [[I (20)], [I (20)]] true)], [I 0, I 15, I 130, (.vl [[I (10)], [I (0)]] true)]] false)], (.vl [[I (0)], [I (1)], [I (2)]] true)], (.vl [[I (1)], [I (2)]] false)), ([.agg [I 2, .vl [[.vl [[I 0], [I 10]] true], [.vl [[I 20], [I 0]] true]] true, .nils, (.vl [[I 0, I 0, I 100, (.vl [[I (30)], [I (40)]] true)], [I 1, I 156, I 100, (.vl [[I (20)], [I (20)]] true)], [I 0, I 15, I 130, (.vl [[I (10)], [I (0)]] true)]] false)], (.vl [[I (0)], [I (1)], [I (2)]] true)], (.vl [[I (1)], [I (2)]] false)), ([.agg [I 2, .vl [[.vl [[I 0], [I 10]] true], [.vl [[I 20], [I 0]] true]] true, .nils, (.vl [[I 0, I 0, I 100, (.vl [[I (30)], [I (40)]] true)], [I 1, I 78, I 100, (.vl [[I (20)], [I (20)]] true)], [I 0, I 15, I 130, (.vl [[I (10)], [I (0)]] true)]] false)], (.vl [[I (0)], [I (1)], [I (2)]] true)], (.vl [[I (1)]] false)), ([.agg [I 2, .vl [[.vl [[I 0], [I 10]] true], [.vl [[I 20], [I 0]] true]] true, .nils, (.vl [[I 0, I 0, I 100, (.vl [[I (30)], [I (40)]] true)], [I 1, I 39, I 100, (.vl [[I (20)], [I (20)]] true)], [I 0, I 15, I 130, (.vl [[I (10)], [I (0)]] true)]] false)], (.vl [[I (0)], [I (1)], [I (2)]] true)], .nils), ([.agg [I 2, .vl [[.vl [[I 0], [I 10]] true], [.vl [[I 20], [I 0]] true]] true, .nils, (.vl [[I 0, I 0, I 100, (.vl [[I (30)], [I (40)]] true)], [I 1, I 58, I 100, (.vl [[I (20)], [I (20)]] true)], [I 0, I 15, I 130, (.vl [[I (10)], [I (0)]] true)]] false)], (.vl [[I (0)], [I (1)], [I (2)]] true)], .nils), ([.agg [I 2, .vl [[.vl [[I 0], [I 10]] true], [.vl [[I 20], [I 0]] true]] true, .nils, (.vl [[I 0, I 0, I 100, (.vl [[I (30)], [I (40)]] true)], [I 1, I 68, I 100, (.vl [[I (20)], [I (20)]] true)], [I 0, I 15, I 130, (.vl [[I (10)], [I (0)]] true)]] false)], (.vl [[I (0)], [I (1)], [I (2)]] true)], (.vl [[I (1)]] false)), ([.agg [I 2, .vl [[.vl [[I 0], [I 10]] true], [.vl [[I 20], [I 0]] true]] true, .nils, (.vl [[I 0, I 0, I 100, (.vl [[I (30)], [I (40)]] true)], [I 1, I 63, I 100, (.vl [[I (20)], [I (20)]] true)], [I 0, I 15, I 130, (.vl [[I (10)], [I (0)]] true)]] false)], (.vl [[I (0)], [I (1)], [I (2)]] true)], (.vl [[I (1)]] false)), ([.agg [I 2, .vl [[.vl [[I 0], [I 10]] true], [.vl [[I 20], [I 0]] true]] true, .nils, (.vl [[I 0, I 0, I 100, (.vl [[I (30)], [I (40)]] true)], [I 1, I 60, I 100, (.vl [[I (20)], [I (20)]] true)], [I 0, I 15, I 130, (.vl [[I (10)], [I (0)]] true)]] false)], (.vl [[I (0)], [I (1)], [I (2)]] true)], .nils), ([.agg [I 2, .vl [[.vl [[I 0], [I 10]] true], [.vl [[I 20], [I 0]] true]] true, .nils, (.vl [[I 0, I 0, I 100, (.vl [[I (30)], [I (40)]] true)], [I 1, I 61, I 100, (.vl [[I (20)], [I (20)]] true)], [I 0, I 15, I 130, (.vl [[I (10)], [I (0)]] true)]] false)], (.vl [[I (0)], [I (1)], [I (2)]] true)], (.vl [[I (1)]] false))]
def FKa2 : Nat → Option CFn := upd FKa1 64 true (oAt kL64)
theorem FKa2_ok : Zr Tryz.prog GG FKa2 := tab_upd FKa1_ok (oAt_good fun p hp => by
  simp only [kL64, List.mem_cons, List.not_mem_nil, or_false] at hp
  rcases hp with rfl | rfl | rfl | rfl | rfl | rfl | rfl | rfl | rfl | rfl | rfl | rfl | rfl | rfl | rfl | rfl | rfl | rfl | rfl | rfl | rfl | rfl | rfl | rfl | rfl | rfl | rfl | rfl
  · exact YL mixed FK0_ok (Zo k64_0)
  · exact YL mixed FK0_ok (Zo k64_1)
  · exact YL mixed FK0_ok (Zo k64_0_5000)
  · exact YL mixed FK0_ok (Zo k64_0_2500)
  · exact YL mixed FK0_ok (Zo k64_0_1250)
  · exact YL mixed FK0_ok (Zo k64_0_625)
  · exact YL mixed FK0_ok (Zo k64_0_312)
  · exact YL mixed FK0_ok (Zo k64_0_156)
  · exact YL mixed FK0_ok (Zo k64_0_78)
  · exact YL mixed FK0_ok (Zo k64_0_39)
  · exact YL mixed FK0_ok (Zo k64_0_19)
  · exact YL mixed FK0_ok (Zo k64_0_9)
  · exact YL mixed FK0_ok (Zo k64_0_4)
  · exact YL mixed FK0_ok (Zo k64_0_2)
  · exact YL mixed FK0_ok (Zo k64_0_1)
  · exact YL mixed FK0_ok (Zo k64_1_5000)
  · exact YL mixed FK0_ok (Zo k64_1_2500)
  · exact YL mixed FK0_ok (Zo k64_1_1250)
  · exact YL mixed FK0_ok (Zo k64_1_625)
  · exact YL mixed FK0_ok (Zo k64_1_312)
  · exact YL mixed FK0_ok (Zo k64_1_156)
  · exact YL mixed FK0_ok (Zo k64_1_78)
  · exact YL mixed FK0_ok (Zo k64_1_39)
  · exact YL mixed FK0_ok (Zo k64_1_58)
  · exact YL mixed FK0_ok (Zo k64_1_68)
  · exact YL mixed FK0_ok (Zo k64_1_63)
  · exact YL mixed FK0_ok (Zo k64_1_60)
  · exact YL mixed FK0_ok (Zo k64_1_61))
theorem k43 : isR (.tup [.vl [[(.vl [[I (40)], [I (70)]] false)], [(.vl [[I (0)], [I (20)]] false)], [(.vl [[I (70)], [I (80)]] false)]] true, I 0]) (Yj FA3 (exec Tryz.prog FA3 1000) 43 [kS, kJ90, (.vl [[I (1)], [I (0)], [I (2)]] true)] []) = true := by kernel_rfl
theorem k19 : isR (.tup [I 1, I 10, I 110, I 0]) (Yj FA3 (exec Tryz.prog FA3 1000) 19 [kS, kJ90, (.vl [[I (1)], [I (0)], [I (2)]] true)] []) = true := by kernel_rfl
theorem k29 : isR (.tup [(.vl [[I (0)], [I (1)], [I (2)]] false), I 0]) (Yj FK0 (exec Tryz.prog FK0 1000) 29 [kS, kJ90] []) = true := by kernel_rfl
theorem k33 : isR (.tup [(.vl [[I (0)], [I (1)]] false), I 0]) (Yj FKa2 (exec Tryz.prog FKa2 1000) 33 [kS, kJ90] []) = true := by kernel_rfl
theorem k30 : isR (.tup [I 80, I 0]) (Yj FA3 (exec Tryz.prog FA3 1000) 30 [kS, kJ90] []) = true := by kernel_rfl
theorem k20 : isR (.tup [(.vl [[I (2)], [I (1)]] false), I 0]) (Yj FA3 (exec Tryz.prog FA3 1000) 20 [kS, kJ90, (.vl [[I (0)], [I (1)], [I (2)]] true)] []) = true := by kernel_rfl
theorem k38a : isR (.tup [I 0, I 0]) (Yj FKa2 (exec Tryz.prog FKa2 1000) 38 [kS, kJ100, (.vl [[I (0)], [I (1)], [I (2)]] true), I 0] []) = true := by kernel_rfl
theorem k38b : isR (.tup [I 60, I 0]) (Yj FKa2 (exec Tryz.prog FKa2 1000) 38 [kS, kJ100, (.vl [[I (0)], [I (1)], [I (2)]] true), I 1] []) = true := by kernel_rfl
theorem k35 : isR (.tup [(.vl [[I (0)], [I (1)]] false), I 0]) (Yj FA3 (exec Tryz.prog FA3 1000) 35 [kS, kJ100, (.vl [[I (0)], [I (1)], [I (2)]] true), .agg [I 1, I 60, I 70]] []) = true := by kernel_rfl
def kL43 : List (List Za × Za) := [([kS, kJ90, (.vl [[I (1)], [I (0)], [I (2)]] true)], .tup [.vl [[(.vl [[I (40)], [I (70)]] false)], [(.vl [[I (0)], [I (20)]] false)], [(.vl [[I (70)], [I (80)]] false)]] true, I 0])]
def FKb1 : Nat → Option CFn := upd FA3 43 true (oAt kL43)
theorem FKb1_ok : Zr Tryz.prog GG FKb1 := tab_upd FA3_ok (oAt_good fun p hp => by
  simp only [kL43, List.mem_cons, List.not_mem_nil, or_false] at hp
  subst hp
  exact YL mixed FA3_ok (Zo k43))
def kL19 : List (List Za × Za) := [([kS, kJ90, (.vl [[I (1)], [I (0)], [I (2)]] true)], .tup [I 1, I 10, I 110, I 0])]
def FKb2 : Nat → Option CFn := upd FKb1 19 true (oAt kL19)
theorem FKb2_ok : Zr Tryz.prog GG FKb2 := tab_upd FKb1_ok (oAt_good fun p hp => by
  simp only [kL19, List.mem_cons, List.not_mem_nil, or_false] at hp
  subst hp
  exact YL mixed FA3_ok (Zo k19))
def kL29 : List (List Za × Za) := [([kS, kJ90], .tup [(.vl [[I (0)], [I (1)], [I (2)]] false), I 0])]
def FKb3 : Nat → Option CFn := upd FKb2 29 true (oAt kL29)
theorem FKb3_ok : Zr Tryz.prog GG FKb3 := tab_upd FKb2_ok (oAt_good fun p hp => by
  simp only [kL29, List.mem_cons, List.not_mem_nil, or_false] at hp
  subst hp
  exact YL mixed FK0_ok (Zo k29))
def kL33 : List (List Za × Za) := [([kS, kJ90], .tup [(.vl [[I (0)], [I (1)]] false), I 0])]
def FKb4 : Nat → Option CFn := upd FKb3 33 true (oAt kL33)
theorem FKb4_ok : Zr Tryz.prog GG FKb4 := tab_upd FKb3_ok (oAt_good fun p hp => by
  simp only [kL33, List.mem_cons, List.not_mem_nil, or_false] at hp
  subst hp
  exact YL mixed FKa2_ok (Zo k33))
def kL30 : List (List Za × Za) := [([kS, kJ90], .tup [I 80, I 0])]
def FKb5 : Nat → Option CFn := upd FKb4 30 true (oAt kL30)
theorem FKb5_ok : Zr Tryz.prog GG FKb5 := tab_upd FKb4_ok (oAt_good fun p hp => by
  simp only [kL30, List.mem_cons, List.not_mem_nil, or_false] at hp
  subst hp
  exact YL mixed FA3_ok (Zo k30))
def kL20 : List (List Za × Za) := [([kS, kJ90, (.vl [[I (0)], [I (1)], [I (2)]] true)], .tup [(.vl [[I (2)], [I (1)]] false), I 0])]
def FKb6 : Nat → Option CFn := upd FKb5 20 true (oAt kL20)
theorem FKb6_ok : Zr Tryz.prog GG FKb6 := tab_upd FKb5_ok (oAt_good fun p hp => by
  simp only [kL20, List.mem_cons, List.not_mem_nil, or_false] at hp
  subst hp
  exact YL mixed FA3_ok (Zo k20))
def kL38 : List (List Za × Za) := [([kS, kJ100, (.vl [[I (0)], [I (1)], [I (2)]] true), I 0], .tup [I 0, I 0]), ([kS, kJ100, (.vl [[I (0)], [I (1)], [I (2)]] true), I 1], .tup [I 60, I 0])]
def FKb7 : Nat → Option CFn := upd FKb6 38 true (oAt kL38)
theorem FKb7_ok : Zr Tryz.prog GG FKb7 := tab_upd FKb6_ok (oAt_good fun p hp => by
  simp only [kL38, List.mem_cons, List.not_mem_nil, or_false] at hp
  rcases hp with rfl | rfl
  · exact YL mixed FKa2_ok (Zo k38a)
  · exact YL mixed FKa2_ok (Zo k38b))
def kL35 : List (List Za × Za) := [([kS, kJ100, (.vl [[I (0)], [I (1)], [I (2)]] true), .agg [I 1, I 60, I 70]], .tup [(.vl [[I (0)], [I (1)]] false), I 0])]
def FKb8 : Nat → Option CFn := upd FKb7 35 true (oAt kL35)
theorem FKb8_ok : Zr Tryz.prog GG FKb8 := tab_upd FKb7_ok (oAt_good fun p hp => by
  simp only [kL35, List.mem_cons, List.not_mem_nil, or_false] at hp
  subst hp
  exact YL mixed FA3_ok (Zo k35))
theorem kn : isR (.bool true) (Yj FKb8 (exec Tryz.prog FKb8 300) 15 [] []) = true := by kernel_rfl
def oKn : List Za → Option Za
  | [] => some (.bool true)
  | _ => none
theorem kn_good : ∀ args v, oKn args = some v → OrcGood Tryz.prog GG true 15 args v := fun args v ho => by
  unfold oKn at ho; split at ho <;> simp at ho
  subst ho
  exact YL mixed FKb8_ok (Zo kn)
end
end Go.Proofs.YtjjapdagllclkaaGreat.Tab
