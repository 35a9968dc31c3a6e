/- Contracts of damp: Store. No condition. -/
import Derived.Test.YtpebmjeomlgmdaaGreatDoorPzCZs
set_option linter.unusedSimpArgs false
set_option linter.unusedVariables false
namespace Go.Proofs.YtpebmjeomlgmdaaGreatDoor.Tab
open Go Go.Abs Go.Proofs
set_option maxRecDepth 100000
set_option maxHeartbeats 4000000
set_option linter.unusedSimpArgs false
set_option linter.unusedVariables false
noncomputable section
attribute [local simp] Yv Ye XB XC YD YJ XD YL Xh YC Zf orcF Xv YV Xx Xt YU YA rb_vl rb_pv Xr YT YS YR Xw Xs Xu XZ rb_fn slE XP Xk Yp ZQ XG List.range_succ List.range_zero List.range'_succ List.range'_zero Yi Yg ZK Yl ZR ZT Xm Yf dop CV.ev Ys ZA ZM Xa fI_eq Yt Yc ZN Zz Out.v Xy List.replicate_succ zT zB arI ZO Abs.rowAt Xq allV toV toC ofV ofC Builtin.min_ Builtin.min2 Builtin.max_ Builtin.max2 Xz XA resA XS Xj Yh Yx Yy Yw Zd
section
attribute [local simp] Yj ZU YP YM XR Xo disj YY holes YZ ZX Xb news eqB Xc eqA YK Xi toCs ofCs stA Yz ZV Yr dI1 dI2 dI3 dI5 elt
attribute [local simp] st_any st_und st_agg st_tup XX st_int XU st_ref st_pv XT st_sl st_vl XV st_mp st_fn XW st_yld co_any co_und co_agg co_tup co_bool co_int co_nilp co_ref co_pv co_nils co_sl co_vl co_nilm co_mp co_fn co_nilf co_yld
attribute [local simp] Ya Zq lim lop Yk rbB_none rbB_row
theorem k92 : allN 1024 (fun s => s == 0 || isR (I (tz s : Nat)) (YH TK (exec Tryz.prog TK 300) 54 [.int .u64 (s : Nat)] [])) = true := by kernel_rfl
def o92 : List Za → Option Za
  | [.int .u64 n] => if 0 < n ∧ n < 1024 then some (I (tz n.toNat : Nat)) else none
  | _ => none
def o106 : List Za → Option Za
  | [.int .u64 n] => if 0 ≤ n ∧ n < 1024 then some (I ((Zp n.toNat).length : Nat)) else none
  | _ => none
theorem o92_eq {s : Nat} (h0 : s ≠ 0) (hs : s < 1024) : o92 [.int .u64 (s : Nat)] = some (I (tz s : Nat)) := by
  simp only [o92]; rw [if_pos (by omega)]; rfl
def DA1 : Nat → Option CFn := upd TK 54 true (o92)
theorem DA1_ok : ZB Tryz.prog GG DA1 := ZD Zh TK_ok fun args v ho => by
  unfold o92 at ho; split at ho <;> (try simp only [reduceCtorEq] at ho)
  rename_i n
  split at ho <;> (try simp only [reduceCtorEq] at ho)
  rename_i hg
  simp only [Option.some.injEq] at ho
  subst ho
  obtain ⟨s, rfl⟩ : ∃ s : Nat, n = s := ⟨n.toNat, by omega⟩
  have h := allN_get k92 s (by omega)
  have h0 : (s == 0) = false := by simp; omega
  rw [h0, Bool.false_or] at h
  exact YF h
theorem k106_0 : allN 128 (fun i => isR (I ((Zp (0 + i)).length : Nat)) (YH DA1 (exec Tryz.prog DA1 300) 83 [.int .u64 ((0 + i : Nat) : Int)] [])) = true := by kernel_rfl
theorem k106_1 : allN 128 (fun i => isR (I ((Zp (128 + i)).length : Nat)) (YH DA1 (exec Tryz.prog DA1 300) 83 [.int .u64 ((128 + i : Nat) : Int)] [])) = true := by kernel_rfl
theorem k106_2 : allN 128 (fun i => isR (I ((Zp (256 + i)).length : Nat)) (YH DA1 (exec Tryz.prog DA1 300) 83 [.int .u64 ((256 + i : Nat) : Int)] [])) = true := by kernel_rfl
theorem k106_3 : allN 128 (fun i => isR (I ((Zp (384 + i)).length : Nat)) (YH DA1 (exec Tryz.prog DA1 300) 83 [.int .u64 ((384 + i : Nat) : Int)] [])) = true := by kernel_rfl
theorem k106_4 : allN 128 (fun i => isR (I ((Zp (512 + i)).length : Nat)) (YH DA1 (exec Tryz.prog DA1 300) 83 [.int .u64 ((512 + i : Nat) : Int)] [])) = true := by kernel_rfl
theorem k106_5 : allN 128 (fun i => isR (I ((Zp (640 + i)).length : Nat)) (YH DA1 (exec Tryz.prog DA1 300) 83 [.int .u64 ((640 + i : Nat) : Int)] [])) = true := by kernel_rfl
theorem k106_6 : allN 128 (fun i => isR (I ((Zp (768 + i)).length : Nat)) (YH DA1 (exec Tryz.prog DA1 300) 83 [.int .u64 ((768 + i : Nat) : Int)] [])) = true := by kernel_rfl
theorem k106_7 : allN 128 (fun i => isR (I ((Zp (896 + i)).length : Nat)) (YH DA1 (exec Tryz.prog DA1 300) 83 [.int .u64 ((896 + i : Nat) : Int)] [])) = true := by kernel_rfl
def DA2 : Nat → Option CFn := upd DA1 83 true (o106)
theorem DA2_ok : ZB Tryz.prog GG DA2 := ZD Zh DA1_ok fun args v ho => by
  unfold o106 at ho; split at ho <;> (try simp only [reduceCtorEq] at ho)
  rename_i n
  split at ho <;> (try simp only [reduceCtorEq] at ho)
  rename_i hg
  simp only [Option.some.injEq] at ho
  subst ho
  obtain ⟨s, rfl⟩ : ∃ s : Nat, n = s := ⟨n.toNat, by omega⟩
  by_cases h0 : s < 128
  · have := allN_get k106_0 (s - 0) (by omega)
    simp only [show 0 + (s - 0) = s by omega] at this
    exact YF this
  by_cases h1 : s < 256
  · have := allN_get k106_1 (s - 128) (by omega)
    simp only [show 128 + (s - 128) = s by omega] at this
    exact YF this
  by_cases h2 : s < 384
  · have := allN_get k106_2 (s - 256) (by omega)
    simp only [show 256 + (s - 256) = s by omega] at this
    exact YF this
  by_cases h3 : s < 512
  · have := allN_get k106_3 (s - 384) (by omega)
    simp only [show 384 + (s - 384) = s by omega] at this
    exact YF this
  by_cases h4 : s < 640
  · have := allN_get k106_4 (s - 512) (by omega)
    simp only [show 512 + (s - 512) = s by omega] at this
    exact YF this
  by_cases h5 : s < 768
  · have := allN_get k106_5 (s - 640) (by omega)
    simp only [show 640 + (s - 640) = s by omega] at this
    exact YF this
  by_cases h6 : s < 896
  · have := allN_get k106_6 (s - 768) (by omega)
    simp only [show 768 + (s - 768) = s by omega] at this
    exact YF this
  by_cases h7 : s < 1024
  · have := allN_get k106_7 (s - 896) (by omega)
    simp only [show 896 + (s - 896) = s by omega] at this
    exact YF this
  omega
theorem it69 (P : Program) (T : Nat → Option CFn) (hT : T 31 = some c31) (h92 : T 54 = some { c54 with frsh := true, orc := o92 }) (s : Nat) (hs : s < 1024) (r N : Nat) (J : List Nat → Zj → Prop) (hJ : ∀ l h, J l h → N ≤ h.length) (htr : ∀ l h n vs, N ≤ n → J l h → J l (trim n vs h))
    (step : ∀ i l h, J (i :: l) h → i < 10 → Ylds P T r [I (i : Nat)] h fun v h' => v = .bool true ∧ J l h') :
    ∀ h, J (Zp s) h → Zr P T 31 [.int .u64 (s : Nat), .yld r] h fun _ h2 => J [] h2 := by
  intro h hh
  have hlen0 := hJ _ _ hh
  refine Zl hT (Zo rfl) ?_
  simp only [oo, om, op, og, ci, cl, c31]
  refine zL ?_
  refine ZL (fun m σ => ∃ (x : Nat) (g : Zj), x = m ∧ x < 1024 ∧ J (Zp x) g ∧ σ = ⟨[.int .u64 (x : Nat), .yld r, .any, .any, .any, .any, .any, .any, .any, .any, .any, .any, .any, .any, .any], g⟩) ?_ s _ ⟨s, h, rfl, hs, hh, by simp⟩
  rintro m σ ⟨x, g, rfl, hx, hj, rfl⟩
  have hlen := hJ _ _ hj
  refine zS ?_
  refine zS ?_
  refine zR (zO (by simp [zC h92, h92]; rfl) ?_)
  simp only [zT, zB]
  refine Zk (x := ((x : Int) != 0)) (by simp) (fun hx0 => ?_) (fun hx0 => ?_)
  · have hx0 : x ≠ 0 := by simpa using hx0
    obtain ⟨e1, e2, e3⟩ := bits_step hx hx0
    rw [e1] at hj
    have ho92 := o92_eq hx0 hx
    have hsub : W .u64 ((x : Int) - 1) = ((x - 1 : Nat) : Int) := by rw [show (x : Int) - 1 = ((x - 1 : Nat) : Int) by omega, W_u (by omega)]
    have hand := and_u (a := x) (b := x - 1) (by omega) (by omega)
    refine zK ?_
    simp only [zT, zB]
    refine zS ?_
    refine zL ?_
    refine zS ?_
    refine zR (ops_take 3 (by simp [zC h92, h92, ho92, hsub, ↓hand]; rfl) ?_)
    simp only [List.drop_succ_cons, List.drop_zero]
    refine ops_ylds (i := r) (args := [I (tz x : Nat)]) (by simp) (by simp) (by simp) (by simp) ?_
    refine (step (tz x) _ g hj e2).mono ?_
    rintro v h' ⟨rfl, hj'⟩
    refine zO (by simp; rfl) ?_
    simp only [zT, zB]
    refine Zi (x := false) (by simp) ?_
    refine zK ?_
    simp only [zT, zB]
    refine zR (zO (by simp [zC h92, h92, ho92, hsub, ↓hand]; rfl) ?_)
    simp only [zT, zB]
    exact ⟨x &&& (x - 1), e3, x &&& (x - 1), _, rfl, by omega, htr _ _ _ _ hlen hj', by simp; rfl⟩
  · obtain rfl : x = 0 := by simpa using hx0
    refine ZI ?_
    simp only [zT, zB, if_true, if_false, reduceIte, Nat.reduceEqDiff, Nat.succ_ne_zero, Nat.one_ne_zero, Nat.zero_ne_one]
    refine ⟨by simp, _, by simp; rfl, ?_⟩
    rw [bits_zero] at hj
    exact htr _ _ _ _ hlen0 hj
def rN (n : Nat) : List Za := [I (n : Nat)]
def encL (l : List Nat) : Za := if l.isEmpty then .nils else .vl (l.map rN) false
theorem encL_rows (l : List Nat) : Zm (encL l) = some (l.map rN) := by
  unfold encL; cases l <;> rfl
def AccN (g : Zj) (v : Za) (l : List Nat) : Prop := (l = [] ∧ v = .nils) ∨ (l ≠ [] ∧ ∃ q, v = .sl (q + 2) 0 l.length false ∧ g[q]? = some (some (.row 1 (l.map rN))))
def asg91 : CC := (.reg [⟨(some 5), (.mv (.t 7)), none, []⟩])
def bd91 : CC := (.block 1 (.reg [⟨(some 8), (.ld (.t 2)), none, []⟩, ⟨(some 9), (.mv (.t 5)), none, []⟩, ⟨(some 10), (.bsl 1 1 [(.int .i64 (0))] [(0, (.t 9))]), none, []⟩, ⟨(some 11), (.app 1 (.t 8) (.t 10)), none, []⟩, ⟨none, (.st 1 (.t 2) (.t 11)), none, []⟩]))
def r91 (s : Nat) : List Za := [.nils, .fn 31 [.int .u64 (s : Nat)] [], .ref 0 0 0, .und, .nils, .und, .fn 31 [.int .u64 (s : Nat)] [], .und, .und, .und, .und, .und, .und]
theorem acc_trim {s : Nat} {v : Za} {g : Zj} {l : List Nat} (ha : AccN g v l) (n : Nat) (vs : List Za) (hn : 2 ≤ n) : ∃ g', trim n vs (some (.row 1 [[v]]) :: some (.loop (r91 s) [7] asg91 bd91 .ready none) :: g) = (some (.row 1 [[v]]) :: some (.loop (r91 s) [7] asg91 bd91 .ready none) :: g') ∧ AccN g' v l := by
  unfold trim
  split
  · rename_i hc
    obtain ⟨m, rfl⟩ : ∃ m, n = m + 2 := ⟨n - 2, by omega⟩
    simp only [List.take_succ_cons, List.all_cons, Bool.and_eq_true] at hc ⊢
    refine ⟨_, rfl, ?_⟩
    rcases ha with ha | ⟨h1, q, rfl, h2⟩
    · exact .inl ha
    · refine .inr ⟨h1, q, rfl, ?_⟩
      have hb := hc.2.1
      simp at hb
      rw [List.getElem?_take_of_lt (by omega)]; exact h2
  · exact ⟨g, rfl, ha⟩
theorem y91 (P : Program) (T : Nat → Option CFn) (s i : Nat) (hi : i < 10) (v : Za) (g : Zj) (l : List Nat) (hl : l.length ≤ 10) (ha : AccN g v l) :
    Ylds P T 1 [I (i : Nat)] (some (.row 1 [[v]]) :: some (.loop (r91 s) [7] asg91 bd91 .ready none) :: g) fun u h' => u = .bool true ∧ ∃ v' g', h' = (some (.row 1 [[v']]) :: some (.loop (r91 s) [7] asg91 bd91 .ready none) :: g') ∧ AccN g' v' (l ++ [i]) := by
  rcases ha with ⟨rfl, rfl⟩ | ⟨hne, q, rfl, hq⟩
  · skip
    refine ylds_of rfl rfl ?_
    show Runs P T (some 1) asg91 ⟨(r91 s).set 7 (I (i : Nat)), (some (.row 1 [[.nils]]) :: some (.loop (r91 s) [7] asg91 bd91 .ready none) :: g)⟩ _
    unfold asg91
    refine zR (zO (by simp [r91]; rfl) ?_)
    refine ⟨rfl, _, _, _, _, _, rfl, ?_⟩
    unfold bd91
    refine zL ?_
    refine zR (zO (by simp [r91, rN]; rfl) ?_)
    simp only [zT, zB]
    refine ⟨_, _, _, _, _, _, rfl, trivial, ?_⟩
    obtain ⟨g', e, hacc⟩ := acc_trim (s := s) (v := .sl (g.length + 3) 0 1 false) (g := g ++ [some (.row 1 [rN i]), some (.row 1 [rN i])]) (l := [] ++ [i]) (.inr ⟨by simp, g.length + 1, by simp, by simp [rN]⟩) (g.length + 2) [] (by omega)
    exact ⟨_, g', e, hacc⟩
  · have hql := (List.getElem?_eq_some_iff.1 hq).1
    have hqx : ∀ x, (g ++ [x])[q]? = some (some (.row 1 (l.map rN))) := fun x => by rw [List.getElem?_append_left hql]; exact hq
    have hqs : ∀ x y, (g ++ [x]).set q y = g.set q y ++ [x] := fun x y => List.set_append_left _ _ hql
    have hlim : l.length ≤ 1048575 := by omega
    have htk : (l.map rN).take l.length = l.map rN := List.take_of_length_le (by simp)
    have ha1 : (l.map rN).all (fun r => r.length == 1) = true := by simp [rN]
    have ha2 : (l.map rN).all (fun r => r.all ZE) = true := by simp [rN]
    refine ylds_of rfl rfl ?_
    show Runs P T (some 1) asg91 ⟨(r91 s).set 7 (I (i : Nat)), (some (.row 1 [[(.sl (q + 2) 0 l.length false)]]) :: some (.loop (r91 s) [7] asg91 bd91 .ready none) :: g)⟩ _
    unfold asg91
    refine zR (zO (by simp [r91]; rfl) ?_)
    refine ⟨rfl, _, _, _, _, _, rfl, ?_⟩
    unfold bd91
    have HH1 := And.intro hlim (And.intro hqx (And.intro hqs (And.intro htk (And.intro ha1 ha2))))
    refine zL ?_
    refine zR (zO (by simp [r91, rN, HH1]; rfl) ?_)
    simp only [zT, zB]
    refine ⟨_, _, _, _, _, _, rfl, trivial, ?_⟩
    obtain ⟨g', e, hacc⟩ := acc_trim (s := s) (v := .sl (g.length + 3) 0 (l.length + 1) false) (g := g.set q none ++ [some (.row 1 [rN i]), some (.row 1 (l.map rN ++ [rN i]))]) (l := l ++ [i]) (.inr ⟨by simp, g.length + 1, by simp, by simp [rN]⟩) (g.length + 2) [] (by omega)
    exact ⟨_, g', e, hacc⟩
theorem bits_len (s : Nat) : (Zp s).length < 11 := by
  have := List.length_filter_le (fun i => s.testBit i) (List.range 10)
  simp only [List.length_range] at this
  unfold Zp; omega
theorem a91 (P : Program) (T : Nat → Option CFn) (hT : T 57 = some c57) (h69 : T 31 = some c31) (h92 : T 54 = some { c54 with frsh := true, orc := o92 }) (s : Nat) (hs : s < 1024) :
  Zr P T 57 [.nils, .fn 31 [.int .u64 (s : Nat)] []] [] fun v h => frz true h 5 v = some (encL (Zp s)) := by
 refine Zl hT (Zo rfl) ?_
 simp only [oo, om, op, og, ci, cl, c57]
 refine zS ?_
 refine zR (zO (by simp; rfl) ?_)
 simp only [zT, zB]
 refine zS ?_
 refine zS ?_
 refine zR (zO (by simp; rfl) ?_)
 simp only [zT, zB]
 refine zL ?_
 refine runs_rf (f := 31) (a := [.int .u64 (s : Nat)]) (b := []) (by simp [inLoop]) (by simp) ?_
 have hit := it69 P T h69 h92 s hs 1 2 (fun l g => ∃ done v h, done ++ l = Zp s ∧ g = (some (.row 1 [[v]]) :: some (.loop (r91 s) [7] asg91 bd91 .ready none) :: h) ∧ AccN h v done)
  (fun l g ⟨d, v, h, _, e, _⟩ => by rw [e]; simp)
  (fun l g n vs hn ⟨d, v, h, e1, e2, e3⟩ => by
   obtain ⟨g', e, h3⟩ := acc_trim (s := s) e3 n vs hn
   exact ⟨d, v, g', e1, by rw [e2]; exact e, h3⟩)
  (fun i l g ⟨d, v, h, e1, e2, e3⟩ hi10 => by
   rw [e2]
   have hdl : d.length ≤ 10 := by have := bits_len s; rw [← e1] at this; simp at this; omega
   refine (y91 P T s i hi10 v h d hdl e3).mono ?_
   rintro u h' ⟨rfl, v', g', rfl, h4⟩
   exact ⟨rfl, d ++ [i], v', g', by rw [← e1]; simp, rfl, h4⟩) _ ⟨[], .nils, [], rfl, rfl, .inl ⟨rfl, rfl⟩⟩
 refine (show Zr P T 31 ([.int .u64 (s : Nat)] ++ [.yld 1] ++ []) (some (.row 1 [[.nils]]) :: some (.loop (r91 s) [7] asg91 bd91 .ready none) :: []) _ from hit).mono ?_
 rintro _ h2 ⟨d, v, g, e1, rfl, hacc⟩
 rw [List.append_nil] at e1
 refine ⟨_, _, _, _, _, _, rfl, by simp, ?_⟩
 simp only [List.set_cons_succ, List.set_cons_zero, List.length_cons, List.length_nil]
 try simp only [zT, zB]
 rw [← e1]
 rcases hacc with ⟨rfl, rfl⟩ | ⟨hne, q, rfl, hq⟩
 ·refine zS ?_
  refine zR (zO (by simp; rfl) ?_)
  simp only [zT, zB]
  refine Zg ?_
  simp [trim, encL]
 ·have htk : (d.map rN).take d.length = d.map rN := List.take_of_length_le (by simp)
  have hfz : ∀ H n, Zf (Zf (frz true H (n + 1))) (d.map rN) = some (d.map rN) := fun H n => Zu _ fun r hr => Zu _ fun x hx => by
   obtain ⟨y, _, rfl⟩ := List.mem_map.1 hr
   simp only [rN, List.mem_singleton] at hx
   subst hx; rfl
  have hie : d.isEmpty = false := by cases d <;> simp_all
  refine zS ?_
  refine zR (zO (by simp; rfl) ?_)
  simp only [zT, zB]
  refine Zg ?_
  simp [trim, encL, hq, htk, hfz, hie]
def o91 : List Za → Option Za
  | [.nils, .fn 31 [.int .u64 n] []] => if 0 ≤ n ∧ n < 1024 then some (encL (Zp n.toNat)) else none
  | _ => none
theorem o91_eq {s : Nat} (hs : s < 1024) : o91 [.nils, .fn 31 [.int .u64 (s : Nat)] []] = some (encL (Zp s)) := by
  simp only [o91]; rw [if_pos (by omega)]; rfl
def o68 : List Za → Option Za
  | [.fn 31 [.int .u64 n] []] => if 0 ≤ n ∧ n < 1024 then some (encL (Zp n.toNat)) else none
  | _ => none
theorem o68_eq {s : Nat} (hs : s < 1024) : o68 [.fn 31 [.int .u64 (s : Nat)] []] = some (encL (Zp s)) := by
  simp only [o68]; rw [if_pos (by omega)]; rfl
def DA2b : Nat → Option CFn := upd DA2 57 true (o91)
theorem DA2b_ok : ZB Tryz.prog GG DA2b := ZD Zh DA2_ok fun args v ho => by
  unfold o91 at ho; split at ho <;> (try simp only [reduceCtorEq] at ho)
  rename_i n
  split at ho <;> (try simp only [reduceCtorEq] at ho)
  rename_i hg
  simp only [Option.some.injEq] at ho
  subst ho
  obtain ⟨s, rfl⟩ : ∃ s : Nat, n = s := ⟨n.toNat, by omega⟩
  exact a91 Tryz.prog DA2 rfl rfl rfl s (by omega)
theorem a68 (P : Program) (T : Nat → Option CFn) (hT : T 36 = some c36) (h91 : T 57 = some { c57 with frsh := true, orc := o91 }) (s : Nat) (hs : s < 1024) : Zr P T 36 [.fn 31 [.int .u64 (s : Nat)] []] [] fun v h => frz false h 5 v = some (encL (Zp s)) := by
 have h1 := o91_eq hs
 have fx := fun H d => Zw (encL_rows (Zp s)) H d
 have rx := fun n d => ZF (encL_rows (Zp s)) n d
 refine Zl hT (Zo rfl) ?_
 simp only [oo, om, op, og, ci, cl, c36]
 refine zS ?_
 refine zR (zO (by simp [zC h91, h91, h1, fx, rx]; rfl) ?_)
 simp only [zT, zB]
 refine zS ?_
 refine zR (zO (by simp [zC h91, h91, h1, fx, rx]; rfl) ?_)
 simp only [zT, zB]
 refine Zg ?_
 simp [zC h91, h91, h1, fx, rx]
def DA3 : Nat → Option CFn := upd DA2b 36 false (o68)
theorem DA3_ok : ZB Tryz.prog GG DA3 := ZD Zh DA2b_ok fun args v ho => by
  unfold o68 at ho; split at ho <;> (try simp only [reduceCtorEq] at ho)
  rename_i n
  split at ho <;> (try simp only [reduceCtorEq] at ho)
  rename_i hg
  simp only [Option.some.injEq] at ho
  subst ho
  obtain ⟨s, rfl⟩ : ∃ s : Nat, n = s := ⟨n.toNat, by omega⟩
  exact a68 Tryz.prog DA2b rfl rfl s (by omega)
def asg111 : CC := (.reg [⟨(some 6), (.mv (.t 9)), none, []⟩])
def bd111 : CC := (.block 1 (.seq (.drw [⟨(some 10), (.ld (.t 4)), none, []⟩, ⟨(some 11), (.fa 2 (.t 2)), none, [0]⟩, ⟨(some 12), (.ld (.t 11)), none, [0]⟩, ⟨(some 13), (.mv (.t 6)), none, [0, 1, 2]⟩, ⟨(some 14), (.ias 2 (.t 12) (.t 13)), none, [0]⟩, ⟨(some 15), (.fa 0 (.t 14)), none, [0]⟩, ⟨(some 16), (.ld (.t 15)), none, [0]⟩, ⟨(some 17), (.conv .u64 (.t 16)), none, [0]⟩, ⟨(some 18), (.ar .or (.t 10) (.t 17)), none, []⟩, ⟨none, (.st 1 (.t 4) (.t 18)), none, []⟩]) (.drw [⟨(some 19), (.ld (.t 5)), none, []⟩, ⟨(some 20), (.fa 2 (.t 2)), none, [0]⟩, ⟨(some 21), (.ld (.t 20)), none, [0]⟩, ⟨(some 22), (.mv (.t 6)), none, [0, 1, 2]⟩, ⟨(some 23), (.ias 2 (.t 21) (.t 22)), none, [0]⟩, ⟨(some 24), (.fa 0 (.t 23)), none, [0]⟩, ⟨(some 25), (.ld (.t 24)), none, [0]⟩, ⟨(some 26), (.fa 2 (.t 2)), none, [0, 1, 2, 3, 4, 5, 6]⟩, ⟨(some 27), (.ld (.t 26)), none, [0, 1, 2, 3, 4, 5, 6]⟩, ⟨(some 28), (.mv (.t 6)), none, [0, 1, 2, 3, 4, 5, 6, 7, 8]⟩, ⟨(some 29), (.ias 2 (.t 27) (.t 28)), none, [0, 1, 2, 3, 4, 5, 6]⟩, ⟨(some 30), (.fa 1 (.t 29)), none, [0, 1, 2, 3, 4, 5, 6]⟩, ⟨(some 31), (.ld (.t 30)), none, [0, 1, 2, 3, 4, 5, 6]⟩, ⟨(some 32), (.ar .or (.t 25) (.t 31)), none, [0]⟩, ⟨(some 33), (.conv .u64 (.t 32)), none, [0]⟩, ⟨(some 34), (.ar .or (.t 19) (.t 33)), none, []⟩, ⟨none, (.st 1 (.t 5) (.t 34)), none, []⟩])))
def rC (c : Nat × Nat) : List Za := [I (c.1 : Nat), I (c.2 : Nat)]
def r111 (se mi : Int) (c : Za) (s : Nat) : List Za := [.agg [.int .u64 se, .int .u64 mi, c], .int .u64 (s : Nat), .ref 0 0 0, .und, .ref 1 0 0, .ref 2 0 0, .und, .int .u64 (s : Nat), .fn 31 [.int .u64 (s : Nat)] [], .und, .und, .und, .und, .und, .und, .und, .und, .und, .und, .und, .und, .und, .und, .und, .und, .und, .und, .und, .und, .und, .und, .und, .und, .und, .und, .und, .und]
theorem y111 (P : Program) (T : Nat → Option CFn) (cs : List (Nat × Nat)) (c : Za) (hc : Zm c = some (cs.map rC)) (hr : ∀ x ∈ cs, x.1 < 4096 ∧ x.2 < 4096) (hn : cs.length ≤ 10) (se mi : Int) (s i m a : Nat) (hi : i < cs.length) (hm : m < 4096) (ha : a < 4096) :
    Ylds P T 3 [I (i : Nat)] [some (.row 3 [[.int .u64 se, .int .u64 mi, c]]), some (.row 1 [[.int .u64 (m : Nat)]]), some (.row 1 [[.int .u64 (a : Nat)]]), some (.loop (r111 se mi c s) [9] asg111 bd111 .ready none)] fun v h' => v = .bool true ∧ h' = [some (.row 3 [[.int .u64 se, .int .u64 mi, c]]), some (.row 1 [[.int .u64 (m ||| cs[i].1 : Nat)]]), some (.row 1 [[.int .u64 (a ||| (cs[i].1 ||| cs[i].2) : Nat)]]), some (.loop (r111 se mi c s) [9] asg111 bd111 .ready none)] := by
  have rx := fun n d => ZF hc n d
  obtain ⟨cx1, cx2⟩ := Zy hc
  obtain ⟨tt, rfl⟩ := ZG hc (k := i) (by rw [List.length_map]; omega)
  have hmu := hr _ (List.getElem_mem hi)
  have hg : (cs.map rC)[i]? = some [I (cs[i].1 : Nat), I (cs[i].2 : Nat)] := by rw [List.getElem?_map, List.getElem?_eq_getElem hi]; rfl
  have hg2 : ∀ h, (cs.map rC)[i]'h = [I (cs[i].1 : Nat), I (cs[i].2 : Nat)] := fun h => by simp [rC]
  generalize cs[i].1 = mu at *
  generalize cs[i].2 = my at *
  have hil : i < cs.length := hi
  have hw1 : W .u64 (mu : Int) = mu := W_u (by omega)
  have hom : mu ||| my < 4096 := Nat.or_lt_two_pow (n := 12) hmu.1 hmu.2
  have hw2 : W .u64 ((mu ||| my : Nat) : Int) = (mu ||| my : Nat) := W_u (by omega)
  have hor1 := or_u (a := m) (b := mu) (by omega) (by omega)
  have hor2 := or_i (a := mu) (b := my) (by omega) (by omega)
  have hor3 := or_u (a := a) (b := mu ||| my) (by omega) (by omega)
  refine ylds_of rfl rfl ?_
  show Runs P T (some 3) asg111 ⟨(r111 se mi (.vl (cs.map rC) tt) s).set 9 (I (i : Nat)), [some (.row 3 [[.int .u64 se, .int .u64 mi, .vl (cs.map rC) tt]]), some (.row 1 [[.int .u64 (m : Nat)]]), some (.row 1 [[.int .u64 (a : Nat)]]), some (.loop (r111 se mi (.vl (cs.map rC) tt) s) [9] asg111 bd111 .ready none)]⟩ _
  unfold asg111 r111
  refine zR (zO (by simp; rfl) ?_)
  refine ⟨rfl, _, _, _, _, _, rfl, ?_⟩
  unfold bd111
  have HH1 := And.intro rx (And.intro cx1 (And.intro cx2 (And.intro hg (And.intro hg2 (And.intro hil (And.intro hw1 hw2))))))
  refine zL ?_
  refine zS ?_
  refine Yd (by simp (maxSteps := 3000000) [YG, ↓hor1, ↓hor2, ↓hor3, -List.getElem?_map, -List.getElem_map, HH1]; rfl) ?_
  simp only [zT, zB]
  refine Yd (by simp (maxSteps := 3000000) [YG, ↓hor1, ↓hor2, ↓hor3, -List.getElem?_map, -List.getElem_map, HH1]; rfl) ?_
  simp only [zT, zB]
  exact ⟨_, _, _, _, _, _, rfl, trivial, by simp [trim, YG, rx, r111]⟩
theorem a111 (P : Program) (T : Nat → Option CFn) (hT : T 86 = some c86) (h69 : T 31 = some c31) (h92 : T 54 = some { c54 with frsh := true, orc := o92 }) (cs : Cs) (c : Za) (hc : Zm c = some (cs.map rC)) (hk : CsOk cs) (se mi : Int) (s : Nat) (hsn : s < 2 ^ cs.length) (hs : s < 1024) :
  Zr P T 86 [.agg [.int .u64 se, .int .u64 mi, c], .int .u64 (s : Nat)] [] fun v h => frz true h 5 v = some (.tup [.int .u64 (mustL cs (Zp s) : Nat), .int .u64 (allL cs (Zp s) : Nat)]) := by
 have hr := hk.2
 have hn := hk.1
 have rx := fun n d => ZF hc n d
 obtain ⟨cx1, cx2⟩ := Zy hc
 have hl2 : ∀ d H, frz false H (d + 1) c = some c := fun d H => Zw hc H d
 refine Zl hT (Zo rfl) ?_
 simp only [oo, om, op, og, ci, cl, c86]
 refine zS ?_
 refine zR (zO (by simp [cx1, cx2, rx, hl2]; rfl) ?_)
 simp only [zT, zB]
 refine zS ?_
 refine zS ?_
 refine zR (zO (by simp [cx1, cx2, rx, hl2]; rfl) ?_)
 simp only [zT, zB]
 refine zL ?_
 refine runs_rf (f := 31) (a := [.int .u64 (s : Nat)]) (b := []) (by simp [inLoop]) (by simp) ?_
 have hit := it69 P T h69 h92 s hs 3 4 (fun l g => ∃ m a : Nat, m < 4096 ∧ a < 4096 ∧ (∀ i ∈ l, i < cs.length) ∧ l.foldl (fun a i => a ||| cM cs i) m = mustL cs (Zp s) ∧ l.foldl (fun a i => a ||| cA cs i) a = allL cs (Zp s) ∧ g = [some (.row 3 [[.int .u64 se, .int .u64 mi, c]]), some (.row 1 [[.int .u64 (m : Nat)]]), some (.row 1 [[.int .u64 (a : Nat)]]), some (.loop (r111 se mi c s) [9] asg111 bd111 .ready none)])
  (fun l g ⟨m, a, _, _, _, _, _, e⟩ => by rw [e]; exact Nat.le_refl 4)
  (fun l g n vs hn ⟨m, a, h1, h2, h3, h4, h5, e⟩ => ⟨m, a, h1, h2, h3, h4, h5, by rw [trim_same (by rw [e]; exact hn)]; exact e⟩)
  (fun i l g ⟨m, a, hm, ha, hlt, e1, e2, e⟩ hi10 => by
   rw [e]
   have hi := hlt i (by simp)
   have hg := getD_ok hk i
   have ge : cs.getD i (0, 0) = cs[i] := by simp [List.getD, hi]
   refine (y111 P T cs c hc hr hn se mi s i m a hi hm ha).mono ?_
   rintro v h' ⟨rfl, rfl⟩
   refine ⟨rfl, m ||| cs[i].1, a ||| (cs[i].1 ||| cs[i].2), Nat.or_lt_two_pow (n := 12) hm (by rw [← ge]; exact hg.1), Nat.or_lt_two_pow (n := 12) ha (Nat.or_lt_two_pow (n := 12) (by rw [← ge]; exact hg.1) (by rw [← ge]; exact hg.2)), fun j hj => hlt j (by simp [hj]), ?_, ?_, rfl⟩
   ·rw [← e1]; simp only [List.foldl_cons, cM, ge]
   ·rw [← e2]; simp only [List.foldl_cons, cA, ge]) _
  ⟨0, 0, by decide, by decide, fun i hi => bits_below hsn hi, rfl, rfl, rfl⟩
 refine (show Zr P T 31 ([.int .u64 (s : Nat)] ++ [.yld 3] ++ []) [some (.row 3 [[.int .u64 se, .int .u64 mi, c]]), some (.row 1 [[.int .u64 (0 : Nat)]]), some (.row 1 [[.int .u64 (0 : Nat)]]), some (.loop (r111 se mi c s) [9] asg111 bd111 .ready none)] _ from hit).mono ?_
 rintro _ h2 ⟨m, a, hm, ha, _, e1, e2, rfl⟩
 simp only [List.foldl_nil] at e1 e2
 refine ⟨_, _, _, _, _, _, rfl, by simp, ?_⟩
 simp only [List.set_cons_succ, List.set_cons_zero, List.length_cons, List.length_nil]
 try simp only [zT, zB]
 rw [← e1, ← e2]
 refine zS ?_
 refine Yd (by simp (maxSteps := 3000000) [cx1, cx2, rx, hl2]; rfl) ?_
 simp only [zT, zB]
 refine Zg ?_
 simp [cx1, cx2, rx, hl2, trim]
def dC : List Za → Option (Nat × Nat)
  | [.int .i64 a, .int .i64 b] => if 0 ≤ a ∧ a < 4096 ∧ 0 ≤ b ∧ b < 4096 then some (a.toNat, b.toNat) else none
  | _ => none
def dCauses (v : Za) : Option Cs := match Zm v with
  | some rs => Zf dC rs
  | none => none
theorem dC_eq (r : List Za) (c : Nat × Nat) (h : dC r = some c) : r = rC c := by
  unfold dC at h; split at h <;> (try simp at h)
  obtain ⟨h1, rfl⟩ := h
  rename_i a b
  have e1 : ((a.toNat : Nat) : Int) = a := Int.toNat_of_nonneg (by omega)
  have e2 : ((b.toNat : Nat) : Int) = b := Int.toNat_of_nonneg (by omega)
  simp only [rC, e1, e2]
theorem dC_bd : ∀ {rs : List (List Za)} {cs : Cs}, Zf dC rs = some cs → ∀ x ∈ cs, x.1 < 4096 ∧ x.2 < 4096
  | [], cs, h, x, hx => by simp at h; subst h; simp at hx
  | r :: rs, cs, h, x, hx => by
    simp only [Zf] at h
    split at h <;> simp at h
    rename_i y ys h1 h2
    subst h
    rcases List.mem_cons.1 hx with rfl | hx
    · unfold dC at h1; split at h1 <;> (try simp at h1)
      obtain ⟨g, rfl⟩ := h1
      omega
    · exact dC_bd h2 x hx
theorem dCauses_ok {v : Za} {cs : Cs} (h : dCauses v = some cs) : Zm v = some (cs.map rC) ∧ ∀ x ∈ cs, x.1 < 4096 ∧ x.2 < 4096 := by
  unfold dCauses at h
  split at h
  · rename_i rs hrs
    exact ⟨by rw [hrs, ZY (enc := rC) dC_eq h], dC_bd h⟩
  · simp at h
def o111 : List Za → Option Za
  | [.agg [.int .u64 _, .int .u64 _, c], .int .u64 n] => match dCauses c with
    | some cs => if cs.length ≤ 10 ∧ 0 ≤ n ∧ n.toNat < 2 ^ cs.length then some (.tup [.int .u64 (mustL cs (Zp n.toNat) : Nat), .int .u64 (allL cs (Zp n.toNat) : Nat)]) else none
    | none => none
  | _ => none
theorem o111_eq {se mi : Int} {c : Za} {cs : Cs} (hc : dCauses c = some cs) {s : Nat} (h : cs.length ≤ 10 ∧ s < 2 ^ cs.length) : o111 [.agg [.int .u64 se, .int .u64 mi, c], .int .u64 (s : Nat)] = some (.tup [.int .u64 (mustL cs (Zp s) : Nat), .int .u64 (allL cs (Zp s) : Nat)]) := by
  simp only [o111, hc]; rw [if_pos ⟨h.1, by omega, by simpa using h.2⟩]; rfl
def DA4 : Nat → Option CFn := upd DA3 86 true (o111)
theorem DA4_ok : ZB Tryz.prog GG DA4 := ZD Zh DA3_ok fun args v ho => by
  unfold o111 at ho; split at ho <;> (try simp only [reduceCtorEq] at ho)
  rename_i se mi c n
  split at ho <;> (try simp only [reduceCtorEq] at ho)
  rename_i cs hcs
  split at ho <;> (try simp only [reduceCtorEq] at ho)
  rename_i hg
  simp only [Option.some.injEq] at ho
  subst ho
  obtain ⟨s, rfl⟩ : ∃ s : Nat, n = s := ⟨n.toNat, by omega⟩
  have h2 := two_le hg.1
  have h3 : s < 2 ^ cs.length := by simpa using hg.2.2
  exact a111 Tryz.prog DA3 rfl rfl rfl cs c (dCauses_ok hcs).1 ⟨hg.1, (dCauses_ok hcs).2⟩ se mi s h3 (by omega)
theorem a94 (P : Program) (T : Nat → Option CFn) (hT : T 70 = some c70) (h111 : T 86 = some { c86 with frsh := true, orc := o111 }) (cs : Cs) (c : Za) (hc : dCauses c = some cs) (hk : CsOk cs) (se mi : Int) (s fs fm : Nat) (hsn : s < 2 ^ cs.length) (h1 : fs < 4096) (h2 : fm < 4096) : Zr P T 70 [.agg [.int .u64 se, .int .u64 mi, c], .int .u64 (s : Nat), .agg [.int .u64 (fs : Nat), .int .u64 (fm : Nat)]] [] fun v h => frz true h 5 v = some (.bool (explN cs (Zp s) fs fm)) := by
 have hx := (dCauses_ok hc).1
 have rx := fun n d => ZF hx n d
 have fx := fun H d => Zw hx H d
 obtain ⟨cx1, cx2⟩ := Zy hx
 have ho := o111_eq (se := se) (mi := mi) hc ⟨hk.1, hsn⟩
 have hm := mustL_lt hk (Zp s)
 have ha := allL_lt hk (Zp s)
 unfold explN
 generalize mustL cs (Zp s) = M at *
 generalize allL cs (Zp s) = A at *
 have hno := not_u (a := fs) (b := A)
 have hz := ldN_zero (a := fs) (b := A) (by omega) (by omega)
 have hzi : (((ldN fs A : Nat) : Int) == 0) = subN fs A := by rw [← hz, Bool.eq_iff_iff]; simp only [beq_iff_eq]; omega
 have hand := and_u (a := fm) (b := M) (by omega) (by omega)
 have hzm : (((fm &&& M : Nat) : Int) == 0) = (fm &&& M == 0) := by rw [Bool.eq_iff_iff]; simp only [beq_iff_eq]; omega
 generalize subN fs A = b1 at *
 generalize (fm &&& M == 0) = b2 at *
 generalize ((ldN fs A : Nat) : Int) = L1 at *
 generalize ((fm &&& M : Nat) : Int) = L2 at *
 refine Zl hT (Zo rfl) ?_
 simp only [oo, om, op, og, ci, cl, c70]
 cases b1 <;> cases b2
 ·have HH1 := zA h111 (zA rx (zA fx (zA cx1 (zA cx2 (zA ho (zA hzi hzm))))))
  refine zS ?_
  refine zR (zO (by simp [zC h111, ↓hno, ↓hand, HH1]; rfl) ?_)
  simp only [zT, zB]
  refine zS ?_
  refine zR (zO (by simp [zC h111, ↓hno, ↓hand, HH1]; rfl) ?_)
  simp only [zT, zB]
  refine zS ?_
  refine zR (zO (by simp [zC h111, ↓hno, ↓hand, HH1]; rfl) ?_)
  simp only [zT, zB]
  refine Zg ?_
  simp [zC h111, ↓hno, ↓hand, HH1]
 ·have HH2 := zA h111 (zA rx (zA fx (zA cx1 (zA cx2 (zA ho (zA hzi hzm))))))
  refine zS ?_
  refine zR (zO (by simp [zC h111, ↓hno, ↓hand, HH2]; rfl) ?_)
  simp only [zT, zB]
  refine zS ?_
  refine zR (zO (by simp [zC h111, ↓hno, ↓hand, HH2]; rfl) ?_)
  simp only [zT, zB]
  refine zS ?_
  refine zR (zO (by simp [zC h111, ↓hno, ↓hand, HH2]; rfl) ?_)
  simp only [zT, zB]
  refine Zg ?_
  simp [zC h111, ↓hno, ↓hand, HH2]
 ·have HH3 := zA h111 (zA rx (zA fx (zA cx1 (zA cx2 (zA ho (zA hzi hzm))))))
  refine zS ?_
  refine zR (zO (by simp [zC h111, ↓hno, ↓hand, HH3]; rfl) ?_)
  simp only [zT, zB]
  refine zS ?_
  refine zR (zO (by simp [zC h111, ↓hno, ↓hand, HH3]; rfl) ?_)
  simp only [zT, zB]
  refine zS ?_
  refine zR (zO (by simp [zC h111, ↓hno, ↓hand, HH3]; rfl) ?_)
  simp only [zT, zB]
  refine Zg ?_
  simp [zC h111, ↓hno, ↓hand, HH3]
 ·have HH4 := zA h111 (zA rx (zA fx (zA cx1 (zA cx2 (zA ho (zA hzi hzm))))))
  refine zS ?_
  refine zR (zO (by simp [zC h111, ↓hno, ↓hand, HH4]; rfl) ?_)
  simp only [zT, zB]
  refine zS ?_
  refine zR (zO (by simp [zC h111, ↓hno, ↓hand, HH4]; rfl) ?_)
  simp only [zT, zB]
  refine zS ?_
  refine zR (zO (by simp [zC h111, ↓hno, ↓hand, HH4]; rfl) ?_)
  simp only [zT, zB]
  refine Zg ?_
  simp [zC h111, ↓hno, ↓hand, HH4]
def o94 : List Za → Option Za
  | [.agg [.int .u64 _, .int .u64 _, c], .int .u64 n, .agg [.int .u64 a, .int .u64 b]] => match dCauses c with
    | some cs => if cs.length ≤ 10 ∧ 0 ≤ n ∧ n.toNat < 2 ^ cs.length ∧ (0 ≤ a ∧ a < 4096) ∧ (0 ≤ b ∧ b < 4096) then some (.bool (explN cs (Zp n.toNat) a.toNat b.toNat)) else none
    | none => none
  | _ => none
def DA : Nat → Option CFn := upd DA4 70 true (o94)
theorem DA_ok : ZB Tryz.prog GG DA := ZD Zh DA4_ok fun args v ho => by
  unfold o94 at ho; split at ho <;> (try simp only [reduceCtorEq] at ho)
  rename_i se mi c n a b
  split at ho <;> (try simp only [reduceCtorEq] at ho)
  rename_i cs hcs
  split at ho <;> (try simp only [reduceCtorEq] at ho)
  rename_i hg
  simp only [Option.some.injEq] at ho
  subst ho
  obtain ⟨s, rfl⟩ : ∃ s : Nat, n = s := ⟨n.toNat, by omega⟩
  obtain ⟨x, rfl⟩ : ∃ s : Nat, a = s := ⟨a.toNat, by omega⟩
  obtain ⟨y, rfl⟩ : ∃ s : Nat, b = s := ⟨b.toNat, by omega⟩
  have h3 : s < 2 ^ cs.length := by simpa using hg.2.2.1
  exact a94 Tryz.prog DA4 rfl rfl cs c hcs ⟨hg.1, (dCauses_ok hcs).2⟩ se mi s x y h3 (by omega) (by omega)
end
end
end Go.Proofs.YtpebmjeomlgmdaaGreatDoor.Tab
namespace Go.Abs
open Go
def posOf : List Nat → Nat → Nat → Option Nat
 | [], _, _ => none
 | j :: J, i, p => if j = i then some p else posOf J i (p + 1)
def ptrs : List Nat → List Za → List Nat
 | J, [] => J
 | J, .ref i _ _ :: l => if J.contains i then ptrs J l else ptrs (J ++ [i]) l
 | J, .sl i _ _ _ :: l => if J.contains i then ptrs J l else ptrs (J ++ [i]) l
 | J, _ :: l => ptrs J l
theorem posOf_some : ∀ {J : List Nat} {i p q : Nat}, posOf J i p = some q → p ≤ q ∧ J[q - p]? = some i
 | [], _, _, _, h => by simp [posOf] at h
 | j :: J, i, p, q, h => by
  simp only [posOf] at h
  split at h
  ·rename_i e
   simp at h; subst h; subst e
   exact ⟨Nat.le_refl _, by simp⟩
  ·obtain ⟨h1, h2⟩ := posOf_some h
   refine ⟨by omega, ?_⟩
   rw [show q - p = (q - (p + 1)) + 1 by omega, List.getElem?_cons_succ]
   exact h2
section
variable {P : Program} {G : Nat → Option (List Za)} {T : Nat → Option CFn} {E E' E2 : Env} {h h' h0 h1 : Zj} {w w' : World} {n : Nat} {J : List Nat}
theorem vr_flat (hI : ∀ b, E.I b → E2.I b) {v : Za} {u : Value} (hv : E.VR w v u) (hb : rb 0 5 v = true) : E2.VR w v u :=
 VR.mono (VR.trim 5 hv hb) _ (fun i hi => absurd hi.2 (by omega)) fun b hb => ⟨hI b hb, rfl⟩
end
end Go.Abs
namespace Go.Abs
open Go
section
variable (P : Program) (G : Nat → Option (List Za))
def SRuns (r : Option Nat) (c : CC) (σ : St) (Q : AEx → St → Prop) : Prop := ∃ e σ', Sound P G r c σ e σ' ∧ Q e σ'
def Ren (base : Nat) (σ σ' : St) : Prop := ∀ (E0 : Env) (h0 : Zj) (w0 : World) (d : List Deferred) (E : Env) (w : World) (a : Act), h0.length = base → E0.HR P G h0 w0 → Run P G E0 h0 w0 d E σ.h w σ.t a → ∃ E2, Run P G E0 h0 w0 d E2 σ'.h w σ'.t a
end
section
variable {P : Program} {G : Nat → Option (List Za)} {T : Nat → Option CFn} {r : Option Nat} {a b c : CC} {σ σ1 σ2 σ3 σ' : St} {Q Q' : AEx → St → Prop} {h : Zj} {e : AEx}
theorem Ren.refl (n : Nat) (σ : St) : Ren P G n σ σ := fun _ _ _ _ E _ _ _ _ hR => ⟨E, hR⟩
theorem Ren.trans {n : Nat} (h1 : Ren P G n σ1 σ2) (h2 : Ren P G n σ2 σ3) : Ren P G n σ1 σ3 := fun E0 h0 w0 d E w a hn hr hR => by
 obtain ⟨E1, hR1⟩ := h1 E0 h0 w0 d E w a hn hr hR
 exact h2 E0 h0 w0 d E1 w a hn hr hR1
theorem SRuns.mono (hr : SRuns P G r c σ Q) (hq : ∀ e σ, Q e σ → Q' e σ) : SRuns P G r c σ Q' := let ⟨e, σ', h1, h2⟩ := hr; ⟨e, σ', h1, hq _ _ h2⟩
theorem sruns_of (hm : P.follows .mixedOrders = true) (hT : ZB P G T) (hr : Runs P T r c σ Q) : SRuns P G r c σ Q :=
 let ⟨n, e, σ', h1, h2⟩ := hr; ⟨e, σ', (exec_sound hm hT n).1 r c σ e σ' h1, h2⟩
theorem sruns_skip (hq : Q .normal σ) : SRuns P G r .skip σ Q := ⟨.normal, σ, fun code E w a k hc hr ht hd => by
 have := co_skip hc; subst this; exact wpIn_skip (go_skip hr ht), hq⟩
theorem sruns_ret (hq : Q .ret σ) : SRuns P G r .ret σ Q := ⟨.ret, σ, fun code E w a k hc hr ht hd => by
 have := co_ret hc; subst this; exact wpIn_ret ⟨rfl, E, .refl hr ht⟩, hq⟩
theorem sruns_exit {id : Nat} (hq : Q (.exit id) σ) : SRuns P G r (.exit id) σ Q := ⟨.exit id, σ, fun code E w a k hc hr ht hd => by
 have := co_exit hc; subst this; exact wpIn_exit ⟨rfl, E, .refl hr ht⟩, hq⟩
end
end Go.Abs
namespace Go.Abs
open Go
noncomputable section
def plainA : Za → Bool
 | .int _ _ => true
 | .bool _ => true
 | .nils => true
 | .nilp => true
 | _ => false
def okA (fr : Bool) (v : Za) : Bool := if fr then plainA v else rb 0 5 v
def backB1 (fr : Bool) (J : List Nat) : Za → Option Za
 | .ref p k o => match J[p]? with
  | some i => some (.ref i k o)
  | none => none
 | .sl p k n t => match J[p]? with
  | some i => some (.sl i k n t)
  | none => none
 | v => if okA fr v then some v else none
def backB (fr : Bool) (J : List Nat) : Za → Option Za
 | .tup xs => match Zf (backB1 fr J) xs with
  | some ys => some (.tup ys)
  | none => none
 | .agg xs => match Zf (backB1 fr J) xs with
  | some ys => some (.agg ys)
  | none => none
 | v => backB1 fr J v
def Xn (K : List Nat) (h : Zj) : Zj := K.foldl (fun h i => h.set i none) h
def keepA (fr : Bool) (K : List Nat) (h : Zj) : Za → Option Za
 | .ref i k o => match posOf K i 0 with
  | some p => some (.ref p k o)
  | none => if fr then none else frz false (Xn K h) 5 (.ref i k o)
 | .sl i k n t => match posOf K i 0 with
  | some p => some (.sl p k n t)
  | none => if fr then none else frz false (Xn K h) 5 (.sl i k n t)
 | v => if okA fr v then some v else none
def keepB (fr : Bool) (K : List Nat) (h : Zj) : Za → Option Za
 | .tup xs => match Zf (keepA fr K h) xs with
  | some ys => some (.tup ys)
  | none => none
 | .agg xs => match Zf (keepA fr K h) xs with
  | some ys => some (.agg ys)
  | none => none
 | v => keepA fr K h v
theorem hideK_get : ∀ {K : List Nat} {h : Zj} {i : Nat} {b : Blk}, (Xn K h)[i]? = some (some b) → i ∉ K ∧ h[i]? = some (some b)
 | [], h, i, b, hi => ⟨by simp, hi⟩
 | k :: K, h, i, b, hi => by
  obtain ⟨h1, h2⟩ := hideK_get (K := K) (h := h.set k none) hi
  by_cases e : k = i
  ·subst e
   rcases Nat.lt_or_ge k h.length with hl | hl
   ·rw [List.getElem?_set_self hl] at h2; simp at h2
   ·rw [List.getElem?_eq_none (by simp; omega)] at h2; simp at h2
  ·rw [List.getElem?_set_ne e] at h2
   exact ⟨fun hm => by rcases List.mem_cons.1 hm with rfl | hm <;> contradiction, h2⟩
theorem hideK_len : ∀ (K : List Nat) (h : Zj), (Xn K h).length = h.length
 | [], _ => rfl
 | k :: K, h => by show (Xn K (h.set k none)).length = _; rw [hideK_len K, List.length_set]
def okBlk (fr : Bool) : Option Blk → Bool
 | some (.row _ rs) => rs.all (·.all (okA fr))
 | none => true
 | _ => false
def freshE (fr : Bool) (sp : List Za → Option (Za × Zj)) (args : List Za) (h : Zj) : Option (Za × List (Nat × Option Blk)) :=
 match (if fr then Zf (frz false h 5) args else if args.all (rb 0 5) then some args else none) with
 | some ass => match sp ass with
  | some (v, hs) => if hs.all (okBlk fr) = true then (match backB fr (List.range' h.length hs.length) v with
   | some v' => some (v', (List.range' h.length hs.length).zip hs)
   | none => none) else none
  | none => none
 | none => none
theorem setH_new : ∀ (hs h : Zj), setH h ((List.range' h.length hs.length).zip hs) = h ++ hs
 | [], h => by simp [setH]
 | b :: hs, h => by
  show setH (putH h h.length b) ((List.range' (h.length + 1) hs.length).zip hs) = _
  have e : putH h h.length b = h ++ [b] := by unfold putH; rw [if_neg (Nat.lt_irrefl _), if_pos rfl]
  have := setH_new hs (h ++ [b])
  rw [List.length_append] at this
  rw [e]
  simpa using this
section
variable {P : Program} {G : Nat → Option (List Za)} {T : Nat → Option CFn} {E E' E1 E2 : Env} {h h' h0 h1 hs : Zj} {w w' : World} {n : Nat} {J K : List Nat}
theorem vr_plain {v : Za} {u : Value} (hv : E.VR w v u) (hp : plainA v = true) : E2.VR w v u := by
 cases hv <;> first | (simp [plainA] at hp; done) | skip
 ·exact .bool _ _
 ·exact .int _ _ _
 ·exact .nilp _
 ·exact .nils _
theorem vr_okA {fr : Bool} (hI : fr = false → ∀ b, E.I b → E2.I b) {v : Za} {u : Value} (hv : E.VR w v u) (hp : okA fr v = true) : E2.VR w v u := by
 cases fr with
 | true => exact vr_plain hv hp
 | false => exact vr_flat (hI rfl) hv hp
theorem hideK_hr (hr : E.HR P G h w) (K : List Nat) : E.HR P G (Xn K h) w :=
 ⟨fun i b hi => hr.blk i b (hideK_get hi).2, fun i j b c hi hj he => hr.inj i j b c (hideK_get hi).2 (hideK_get hj).2 he, fun i hi => by rw [hideK_len]; exact hr.lt i hi, hr.own, hr.imm, hr.glob⟩
theorem frz_refv {h : Zj} {d i k o : Nat} {x : Za} (hx : frz false h (d + 1) (.ref i k o) = some x) : ∀ xs, x ≠ .tup xs ∧ x ≠ .agg xs := fun xs => by
 rw [YL] at hx
 (repeat' split at hx) <;> simp at hx <;> subst hx <;> simp
theorem frz_slv {h : Zj} {d i k n : Nat} {t : Bool} {x : Za} (hx : frz false h (d + 1) (.sl i k n t) = some x) : ∀ xs, x ≠ .tup xs ∧ x ≠ .agg xs := fun xs => by
 rw [Xh] at hx
 (repeat' split at hx) <;> simp at hx <;> subst hx <;> simp
theorem fresh_good {fr : Bool} {f : Nat} {args ass : List Za} {v v1 v' : Za} (hc : Xl P G f ass [] v1 h1) (hK : K.Nodup) (hsl : hs.length = K.length)
    (hat : ∀ p (hp : p < K.length) b, hs[p]? = some (some b) → h1[K[p]]? = some (some b)) (hf : hs.all (okBlk fr) = true) (hb1 : keepB fr K h1 v1 = some v) (hb2 : backB fr (List.range' h.length K.length) v = some v')
    (has : (if fr then Zf (frz false h 5) args else if args.all (rb 0 5) then some args else none) = some ass) : Xl P G f args h v' (h ++ hs) := by
  intro E w cargs k hr hl
  obtain ⟨I0, hI0, hI1, hI2, hl0⟩ : ∃ I0 : Nat → Prop, (∀ b, E.I b → I0 b) ∧ (∀ b, I0 b → b < w.heap.size) ∧ (fr = false → ∀ b, I0 b → E.I b) ∧ Env.LR ⟨E.ρ, fun _ => False, fun _ => False, I0⟩ w ass cargs := by
    cases hfr : fr with
    | true =>
      simp only [hfr, if_true] at has
      obtain ⟨g1, g2⟩ := ZJ has
      refine ⟨fun b => b < w.heap.size, fun b hb => (hr.imm b hb).1, fun b hb => hb, fun h => by simp at h, ⟨by rw [← g1]; exact hl.1, fun j h1 h2 => ?_⟩⟩
      exact frz_ok hr (fun i b hi => (hr.blk i b hi).2.2.1) (fun _ b hb => (hr.imm b hb).1) 5 (hl.2 j (by omega) h2) (g2 j (by omega) h1)
    | false =>
      simp only [hfr] at has
      simp at has
      obtain ⟨hx, rfl⟩ := has
      refine ⟨E.I, fun b hb => hb, fun b hb => (hr.imm b hb).1, fun _ b hb => hb, ⟨hl.1, fun j h1 h2 => ?_⟩⟩
      have := VR.trim 5 (hl.2 j h1 h2) (hx _ (List.getElem_mem h1))
      exact VR.mono this _ (fun i hi => absurd hi.2 (by omega)) fun b hb => ⟨hb, rfl⟩
  have hr0 : Env.HR P G ⟨E.ρ, fun _ => False, fun _ => False, I0⟩ [] w :=
    ⟨fun i b hi => by simp at hi, fun i j b c hi => by simp at hi, fun i hi => hi.elim, fun b hb => hb.elim, fun b hb => ⟨hI1 b hb, fun h => h⟩, fun g r hg => by
      have := hr.glob g r hg
      generalize hp : Value.pointer (some ⟨g, 0, none⟩) = pv at this ⊢
      cases this with
      | pv _ _ _ b off cv hb hc h => exact .pv _ _ _ b off cv (hI0 b hb) hc fun j hj => VR.mono (h j hj) _ (fun i hi => hi.elim) fun b hb => ⟨hI0 b hb, rfl⟩⟩
  refine CallsIn.mono (hc _ w cargs k hr0 hl0) ?_
  rintro e w' ⟨u, E1, rfl, hle, hr1, hu, _, _⟩
  have hO1 : ∀ b, E1.O b → w.heap.size ≤ b := fun b hb => Nat.le_of_not_lt fun h => (hle.old b h fun h => h).2.1 hb
  have hIo : ∀ b, E1.I b → b < w.heap.size → I0 b := fun b hb hs => (hle.old b hs fun h => h).2.2 hb
  have gd : ∀ p (hp : p < K.length), K.getD p 0 = K[p] := fun p hp => by rw [List.getD_eq_getElem?_getD, List.getElem?_eq_getElem hp]; rfl
  have hat1 : ∀ p (hp : p < K.length) b, hs[p]? = some (some b) → ∃ e rs, h1[K[p]]? = some (some (.row e rs)) ∧ hs[p]? = some (some (.row e rs)) ∧ okBlk fr (some (.row e rs)) = true := fun p hp b hb => by
    simp only [List.all_eq_true] at hf
    have h2 := hat p hp b hb
    have hm := hf _ (List.mem_of_getElem? hb)
    cases b with
    | row e rs => exact ⟨e, rs, h2, hb, hm⟩
    | map es c => simp [okBlk] at hm
    | loop t ps asg bd st pd => simp [okBlk] at hm
  let E2 : Env := ⟨fun i => if i < h.length then E.ρ i else E1.ρ (K.getD (i - h.length) 0), fun i => E.D i ∨ (h.length ≤ i ∧ i < h.length + K.length), fun b => E.O b ∨ ∃ p, (p < K.length ∧ ∃ c, hs[p]? = some (some c)) ∧ b = (E1.ρ (K.getD p 0)).b, fun b => E.I b ∨ (fr = false ∧ (E1.I b ∨ ∃ i c, i ∉ K ∧ h1[i]? = some (some c) ∧ (E1.ρ i).b = b))⟩
  have hnew : ∀ p, (p < K.length ∧ ∃ c, hs[p]? = some (some c)) → E1.O (E1.ρ (K.getD p 0)).b ∧ (E1.ρ (K.getD p 0)).b < w'.heap.size ∧ w.heap.size ≤ (E1.ρ (K.getD p 0)).b := fun p ⟨hp, c, hc⟩ => by
    obtain ⟨e, rs, k1, _⟩ := hat1 p hp c hc
    obtain ⟨_, b2, b3, _⟩ := hr1.blk _ _ k1
    rw [gd p hp]
    exact ⟨b2, b3, hO1 _ b2⟩
  have hρo : ∀ i, i < h.length → E2.ρ i = E.ρ i := fun i hi => if_pos hi
  have hρn : ∀ p, E2.ρ (h.length + p) = E1.ρ (K.getD p 0) := fun p => by
    show (if h.length + p < h.length then _ else _) = _
    rw [if_neg (by omega), Nat.add_sub_cancel_left]
  have hle2 : Le E w E2 w' := ⟨hle.os, hle.tape, hle.output, hle.size, fun i hi => ⟨.inl hi, hρo i (hr.lt i hi)⟩, fun b hb => .inl hb, fun b hb ho =>
    ⟨(hle.old b hb fun h => h).1, fun h => h.elim ho fun ⟨p, hp, e⟩ => by have := (hnew p hp).2.2; omega, fun h => h.elim id fun ⟨hf, h⟩ => h.elim (fun h => hI2 hf b (hIo b h hb)) fun ⟨i, c, _, h2, h3⟩ => by have := hO1 _ (hr1.blk i c h2).2.1; omega⟩⟩
  have hvo : ∀ {x : Za} {u : Value}, okA fr x = true → E1.VR w' x u → E2.VR w' x u := fun hx hv => vr_okA (E := E1) (E2 := E2) (fun hf b hb => Or.inr ⟨hf, Or.inl hb⟩) hv hx
  have hvb : ∀ {x y z : Za} {u : Value}, keepA fr K h1 y = some x → E1.VR w' y u → backB1 fr (List.range' h.length K.length) x = some z → E2.VR w' z u := by
    intro x y z u hy hv hz
    have low : ∀ (hnr : ∀ p k o, x ≠ .ref p k o) (hns : ∀ p k n t, x ≠ .sl p k n t), E2.VR w' x u → E2.VR w' z u := fun hnr hns hx => by
      have : backB1 fr (List.range' h.length K.length) x = if okA fr x then some x else none := by
        cases x <;> first | rfl | exact absurd rfl (hnr _ _ _) | exact absurd rfl (hns _ _ _ _)
      rw [this] at hz
      split at hz <;> simp at hz
      subst hz; exact hx
    have flat : (if okA fr y then some y else none) = some x → (∀ p k o, y ≠ .ref p k o) → (∀ p k n t, y ≠ .sl p k n t) → E2.VR w' z u := fun h1 h2 h3 => by
      split at h1 <;> simp at h1
      rename_i hx
      subst h1
      exact low h2 h3 (hvo hx hv)
    have frozen : (if fr = true then none else frz false (Xn K h1) 5 y) = some x → E2.VR w' z u := fun h2 => by
      split at h2 <;> (try simp at h2)
      rename_i hfr
      have hfr : fr = false := by simpa using hfr
      have hx := frz_ok (hideK_hr hr1 K) (I' := E2.I) (ρ' := E2.ρ) (fun i b hi => Or.inr ⟨hfr, Or.inr ⟨i, b, (hideK_get hi).1, (hideK_get hi).2, rfl⟩⟩) (fun _ b hb => Or.inr ⟨hfr, Or.inl hb⟩) 5 hv h2
      exact low (fun p k o e => by subst e; cases hx; contradiction) (fun p k n t e => by subst e; cases hx; contradiction) (VR.mono hx _ (fun i hi => hi.elim) fun b hb => ⟨hb, rfl⟩)
    cases hv with
    | ref _ i k o hD =>
      simp only [keepA] at hy
      split at hy
      · rename_i p hp
        simp at hy; subst hy
        obtain ⟨_, hp2⟩ := posOf_some hp
        obtain ⟨hp3, hp4⟩ := List.getElem?_eq_some_iff.1 hp2
        simp only [Nat.sub_zero] at hp3 hp4
        simp only [backB1] at hz
        split at hz <;> simp at hz
        rename_i j hj
        subst hz
        obtain ⟨hj3, rfl⟩ := List.getElem?_eq_some_iff.1 hj
        rw [List.getElem_range', Nat.one_mul]
        have e : E2.ρ (h.length + p) = E1.ρ i := by rw [hρn, gd p hp3, hp4]
        rw [← e]
        exact .ref _ _ k o (.inr ⟨by omega, by omega⟩)
      · exact frozen hy
    | sl _ i k n t a cap hD hn ht ha hs =>
      simp only [keepA] at hy
      split at hy
      · rename_i p hp
        simp at hy; subst hy
        obtain ⟨_, hp2⟩ := posOf_some hp
        obtain ⟨hp3, hp4⟩ := List.getElem?_eq_some_iff.1 hp2
        simp only [Nat.sub_zero] at hp3 hp4
        simp only [backB1] at hz
        split at hz <;> simp at hz
        rename_i j hj
        subst hz
        obtain ⟨hj3, rfl⟩ := List.getElem?_eq_some_iff.1 hj
        rw [List.getElem_range', Nat.one_mul]
        have e : E2.ρ (h.length + p) = E1.ρ i := by rw [hρn, gd p hp3, hp4]
        rw [← e] at ha hs
        exact .sl _ _ k n t a cap (.inr ⟨by omega, by omega⟩) hn ht ha hs
      · exact frozen hy
    | _ => exact flat hy (by intros; simp) (by intros; simp)
  refine ⟨u, E2, rfl, hle2, ⟨fun i b hi => ?_, fun i j b c hi hj he => ?_, fun i hi => ?_, fun b hb => ?_, fun b hb => ?_, fun g r hg => hle2.vr hr (hr.glob g r hg)⟩, ?_, fun j hj => hj.imp id fun h => h.1, by rw [List.length_append]; omega⟩
  · rcases Nat.lt_or_ge i h.length with hl | hl
    · rw [List.getElem?_append_left hl] at hi
      obtain ⟨b1, b2, b3, b4⟩ := hr.blk i b hi
      rw [hρo i hl]
      exact ⟨.inl b1, .inl b2, Nat.lt_of_lt_of_le b3 hle.size, br_mono b4 (hρo i hl) (hle.old _ b3 fun h => h).1 fun _ _ hv => hle2.vr hr hv⟩
    · rw [List.getElem?_append_right hl] at hi
      obtain ⟨hp, _⟩ := List.getElem?_eq_some_iff.1 hi
      have hpK : i - h.length < K.length := by omega
      obtain ⟨e, rs, k1, k2, k3⟩ := hat1 _ hpK _ hi
      rw [hi] at k2
      simp at k2; subst k2
      obtain ⟨_, c2, c3, c4⟩ := hr1.blk _ _ k1
      have hρ : E2.ρ i = E1.ρ K[i - h.length] := by
        have := hρn (i - h.length)
        rw [Nat.add_sub_cancel' hl] at this
        rw [this, gd _ hpK]
      refine ⟨.inr ⟨hl, by omega⟩, .inr ⟨i - h.length, ⟨hpK, _, hi⟩, by rw [hρ, gd _ hpK]⟩, by rw [hρ]; exact c3, ?_⟩
      obtain ⟨q1, q2, q3, c, el, q4, q5, q6⟩ := c4
      simp only [okBlk, List.all_eq_true] at k3
      refine ⟨by rw [hρ]; exact q1, q2, by rw [hρ]; exact q3, c, el, by rw [hρ]; exact q4, by rw [hρ]; exact q5, fun k r hk j x hj => ?_⟩
      obtain ⟨y, g1, g2⟩ := q6 k r hk j x hj
      exact ⟨y, by rw [hρ]; exact g1, hvo (k3 _ (List.mem_of_getElem? hk) _ (List.mem_of_getElem? hj)) g2⟩
  · have side : ∀ i b, (h ++ hs)[i]? = some (some b) → (i < h.length ∧ h[i]? = some (some b) ∧ E2.ρ i = E.ρ i ∧ (E.ρ i).b < w.heap.size) ∨ (∃ p, ∃ hp : p < K.length, i = h.length + p ∧ E2.ρ i = E1.ρ K[p] ∧ (∃ b', h1[K[p]]? = some (some b')) ∧ w.heap.size ≤ (E1.ρ K[p]).b) := fun i b hi => by
      rcases Nat.lt_or_ge i h.length with hl | hl
      · rw [List.getElem?_append_left hl] at hi
        exact .inl ⟨hl, hi, hρo i hl, (hr.blk i b hi).2.2.1⟩
      · rw [List.getElem?_append_right hl] at hi
        obtain ⟨hp, _⟩ := List.getElem?_eq_some_iff.1 hi
        have hpK : i - h.length < K.length := by omega
        obtain ⟨e, rs, k1, _, _⟩ := hat1 _ hpK _ hi
        have := (hnew _ ⟨hpK, _, hi⟩).2.2
        rw [gd _ hpK] at this
        refine .inr ⟨i - h.length, hpK, by omega, ?_, ⟨_, k1⟩, this⟩
        have := hρn (i - h.length)
        rw [Nat.add_sub_cancel' hl] at this
        rw [this, gd _ hpK]
    rcases side i b hi with ⟨hl, h1i, e1, s1⟩ | ⟨p, hp, rfl, e1, ⟨b1, k1⟩, s1⟩
    · rcases side j c hj with ⟨hl2, h1j, e2, s2⟩ | ⟨q, hq, rfl, e2, ⟨b2, k2⟩, s2⟩
      · rw [e1, e2] at he
        exact hr.inj i j b c h1i h1j he
      · rw [e1, e2] at he; omega
    · rcases side j c hj with ⟨hl2, h1j, e2, s2⟩ | ⟨q, hq, rfl, e2, ⟨b2, k2⟩, s2⟩
      · rw [e1, e2] at he; omega
      · rw [e1, e2] at he
        have := hr1.inj _ _ _ _ k1 k2 he
        rw [(List.getElem_inj hK).1 this]
  · rw [List.length_append]
    rcases hi with hi | hi
    · have := hr.lt i hi; omega
    · omega
  · rcases hb with hb | ⟨p, hp, rfl⟩
    · exact Nat.lt_of_lt_of_le (hr.own b hb) hle.size
    · exact (hnew p hp).2.1
  · rcases hb with hb | ⟨hf, hb | ⟨i, c, hb1, hb2, rfl⟩⟩
    · refine ⟨Nat.lt_of_lt_of_le (hr.imm b hb).1 hle.size, fun ho => ?_⟩
      rcases ho with ho | ⟨p, hp, rfl⟩
      · exact (hr.imm b hb).2 ho
      · have := (hr.imm _ hb).1
        have := (hnew p hp).2.2
        omega
    · refine ⟨(hr1.imm b hb).1, fun ho => ?_⟩
      rcases ho with ho | ⟨p, hp, rfl⟩
      · have hs := hr.own b ho
        exact (hr.imm b (hI2 hf b (hIo b hb hs))).2 ho
      · exact (hr1.imm _ hb).2 (hnew p hp).1
    · refine ⟨(hr1.blk i c hb2).2.2.1, fun ho => ?_⟩
      have hi0 := hO1 _ (hr1.blk i c hb2).2.1
      rcases ho with ho | ⟨p, ⟨hp, c2, hc2⟩, he⟩
      · have hs := hr.own _ ho; omega
      · obtain ⟨e, rs, k1, _⟩ := hat1 p hp c2 hc2
        rw [gd p hp] at he
        have := hr1.inj _ _ _ _ hb2 k1 he
        exact hb1 (this ▸ List.getElem_mem hp)
  · cases v1 with
    | tup xs =>
      simp only [keepB] at hb1
      split at hb1 <;> simp at hb1
      rename_i ys hy
      subst hb1
      simp only [backB] at hb2
      split at hb2 <;> simp at hb2
      rename_i zs hz
      subst hb2
      obtain ⟨q1, q2⟩ := ZJ hy
      obtain ⟨r1, r2⟩ := ZJ hz
      cases hu with
      | tup _ _ cs hl hx => exact .tup _ _ cs (by omega) fun j h1 h2 => hvb (q2 j (by omega) (by omega)) (hx j (by omega) h2) (r2 j (by omega) h1)
    | agg xs =>
      simp only [keepB] at hb1
      split at hb1 <;> simp at hb1
      rename_i ys hy
      subst hb1
      simp only [backB] at hb2
      split at hb2 <;> simp at hb2
      rename_i zs hz
      subst hb2
      obtain ⟨q1, q2⟩ := ZJ hy
      obtain ⟨r1, r2⟩ := ZJ hz
      cases hu with
      | agg _ _ cs hl hx => exact .agg _ _ cs (by omega) fun j h1 h2 => hvb (q2 j (by omega) (by omega)) (hx j (by omega) h2) (r2 j (by omega) h1)
    | _ =>
      simp only [keepB] at hb1
      refine hvb hb1 hu ?_
      have hv : ∀ x, v ≠ .tup x ∧ v ≠ .agg x := fun x => by
        simp only [keepA] at hb1
        first
          | (split at hb1 <;> simp at hb1 <;> subst hb1 <;> simp; done)
          | (split at hb1
             · simp at hb1; subst hb1; simp
             · split at hb1
               · simp at hb1
               · first | exact frz_refv hb1 x | exact frz_slv hb1 x)
      cases v <;> first | exact hb2 | exact absurd rfl (hv _).1 | exact absurd rfl (hv _).2
end
end
end Go.Abs
namespace Go.Abs
open Go
noncomputable section
def renV1 (K : List Nat) (H : Zj) (ih : Za → Option Za) (v : Za) : Option Za :=
 match v with
 | .agg xs => match Zf ih xs with
  | some ys => some (.agg ys)
  | none => none
 | .tup xs => match Zf ih xs with
  | some ys => some (.tup ys)
  | none => none
 | .ref i k o => match posOf K i 0 with
  | some p => some (.ref p k o)
  | none => frz false (Xn K H) 5 (.ref i k o)
 | .sl i k n t => match posOf K i 0 with
  | some p => some (.sl p k n t)
  | none => frz false (Xn K H) 5 (.sl i k n t)
 | .mp i => match posOf K i 0 with
  | some p => some (.mp p)
  | none => none
 | .yld i => match posOf K i 0 with
  | some p => some (.yld p)
  | none => none
 | .fn f a b => match Zf ih a, Zf ih b with
  | some a, some b => some (.fn f a b)
  | _, _ => none
 | v => some v
def YI (K : List Nat) (H : Zj) : Nat → Za → Option Za
 | 0 => fun _ => none
 | d + 1 => renV1 K H (YI K H d)
def renE (K : List Nat) (H : Zj) : Za × Za × Nat → Option (Za × Za × Nat)
 | (k, v, b) => match YI K H 5 k, YI K H 5 v with
  | some k, some v => some (k, v, b)
  | _, _ => none
def renB (K : List Nat) (H : Zj) (i : Nat) : Option (Option Blk) :=
 match nth H i with
 | some (some (.row e rs)) => match Zf (Zf (YI K H 5)) rs with
  | some rs => some (some (.row e rs))
  | none => none
 | some (some (.map es c)) => match Zf (renE K H) es with
  | some es => some (some (.map es c))
  | none => none
 | some (some (.loop t ps asg bd st pd)) => match Zf (YI K H 5) t with
  | some t => some (some (.loop t ps asg bd st pd))
  | none => none
 | _ => some none
section
variable {P : Program} {G : Nat → Option (List Za)} {E E2 : Env} {h h' : Zj} {w : World} {K : List Nat} {σ : St} {t t' : List Za}
theorem renV_ok (hr : E.HR P G h w) (hρ : ∀ p i, K[p]? = some i → E2.ρ p = E.ρ i) (hD : ∀ p i, K[p]? = some i → E.D i → E2.D p) (hI : ∀ b, E.I b → E2.I b) (hN : ∀ i b, i ∉ K → h[i]? = some (some b) → E2.I (E.ρ i).b) :
  ∀ (d : Nat) {v v' : Za} {u : Value}, E.VR w v u → YI K h d v = some v' → E2.VR w v' u := by
 intro d
 have fz : ∀ {v v' : Za} {u : Value}, E.VR w v u → frz false (Xn K h) 5 v = some v' → E2.VR w v' u := fun hv hf =>
  VR.mono (frz_ok (hideK_hr hr K) (I' := E2.I) (ρ' := E2.ρ) (fun i b hi => hN i b (hideK_get hi).1 (hideK_get hi).2) (fun _ b hb => hI b hb) 5 hv hf) _ (fun i hi => hi.elim) fun b hb => ⟨hb, rfl⟩
 have at' : ∀ {i p}, posOf K i 0 = some p → K[p]? = some i := fun hp => by have := (posOf_some hp).2; simpa using this
 induction d with
 | zero => intro v v' u _ hf; simp [YI] at hf
 | succ d ih =>
  intro v v' u hv hf
  replace hf : renV1 K h (YI K h d) v = some v' := hf
  cases hv with
  | any => simp [renV1] at hf; subst hf; exact .any _ _
  | und => simp [renV1] at hf; subst hf; exact .und _
  | bool => simp [renV1] at hf; subst hf; exact .bool _ _
  | int => simp [renV1] at hf; subst hf; exact .int _ _ _
  | nilp => simp [renV1] at hf; subst hf; exact .nilp _
  | nils => simp [renV1] at hf; subst hf; exact .nils _
  | nilm => simp [renV1] at hf; subst hf; exact .nilm _
  | nilf => simp [renV1] at hf; subst hf; exact .nilf _
  | mp _ i hi =>
   simp only [renV1] at hf
   split at hf <;> simp at hf
   rename_i p hp
   subst hf
   rw [← hρ p i (at' hp)]
   exact .mp _ p (hD p i (at' hp) hi)
  | yld _ i hi =>
   simp only [renV1] at hf
   split at hf <;> simp at hf
   rename_i p hp
   subst hf
   rw [← hρ p i (at' hp)]
   exact .yld _ p (hD p i (at' hp) hi)
  | ref _ i k o hi =>
   simp only [renV1] at hf
   split at hf
   ·rename_i p hp
    simp at hf; subst hf
    rw [← hρ p i (at' hp)]
    exact .ref _ p k o (hD p i (at' hp) hi)
   ·exact fz (.ref _ i k o hi) hf
  | sl _ i k m t a cap hi hm ht ha hs =>
   simp only [renV1] at hf
   split at hf
   ·rename_i p hp
    simp at hf; subst hf
    rw [← hρ p i (at' hp)] at ha hs
    exact .sl _ p k m t a cap (hD p i (at' hp) hi) hm ht ha hs
   ·exact fz (.sl _ i k m t a cap hi hm ht ha hs) hf
  | pv _ r o b off cv hb hc hx =>
   simp [renV1] at hf; subst hf
   exact .pv _ r o b off cv (hI b hb) hc fun j hj => VR.mono (hx j hj) _ (fun i hi => hi.elim) fun b hb => ⟨hI b hb, rfl⟩
  | vl _ rs t a cap b off e cv hm ht ha hb he hc hx =>
   simp [renV1] at hf; subst hf
   exact .vl _ rs t a cap b off e cv hm ht ha (fun h => hI b (hb h)) he hc fun k hk j hj => VR.mono (hx k hk j hj) _ (fun i hi => hi.elim) fun b hb => ⟨hI b hb, rfl⟩
  | agg _ xs cs hl hx =>
   simp only [renV1] at hf
   split at hf <;> simp at hf
   rename_i ys hy
   subst hf
   obtain ⟨g1, g2⟩ := ZJ hy
   exact .agg _ _ cs (by omega) fun j h1 h2 => ih (hx j (by omega) h2) (g2 j (by omega) h1)
  | tup _ xs cs hl hx =>
   simp only [renV1] at hf
   split at hf <;> simp at hf
   rename_i ys hy
   subst hf
   obtain ⟨g1, g2⟩ := ZJ hy
   exact .tup _ _ cs (by omega) fun j h1 h2 => ih (hx j (by omega) h2) (g2 j (by omega) h1)
  | fn _ f a b ca cb hla hlb ha hb =>
   simp only [renV1] at hf
   split at hf <;> simp at hf
   rename_i a' b' h1 h2
   subst hf
   obtain ⟨g1, g2⟩ := ZJ h1
   obtain ⟨g3, g4⟩ := ZJ h2
   exact .fn _ f _ _ ca cb (by omega) (by omega) (fun j j1 j2 => ih (ha j (by omega) j2) (g2 j (by omega) j1)) (fun j j1 j2 => ih (hb j (by omega) j2) (g4 j (by omega) j1))
theorem renL_ok {d : Nat} (hv : ∀ {v v' : Za} {u : Value}, E.VR w v u → YI K h d v = some v' → E2.VR w v' u) {cs : Array Value} (hl : E.LR w t cs) (hf : Zf (YI K h d) t = some t') : E2.LR w t' cs := by
 obtain ⟨g1, g2⟩ := ZJ hf
 exact ⟨by rw [← g1]; exact hl.1, fun j h1 h2 => hv (hl.2 j (by omega) h2) (g2 j (by omega) h1)⟩
theorem keep_nx {base : Nat} {h : Zj} {E0 : Env} {h0 : Zj} {w0 : World} (K : List Nat) (hK : K.Nodup) (hb : base ≤ K.length) (hpre : K.take base = List.range base) (hh : Zf (renB K h) K = some h') (hn : h0.length = base) (hr0 : E0.HR P G h0 w0) (hx : Nx P G E0 h0 w0 E h w) :
  ∃ E2, Nx P G E0 h0 w0 E2 h' w ∧ (∀ (d : Nat) {v v' : Za} {u : Value}, E.VR w v u → YI K h d v = some v' → E2.VR w v' u) ∧ (∀ b, E2.O b → E.O b) ∧ (∀ b, E2.I b → E.I b ∨ E.O b) := by
 have hr := hx.hr
 obtain ⟨k1, k2⟩ := ZJ hh
 have hpre' : ∀ p, p < base → K[p]? = some p := fun p hp => by
  have : (K.take base)[p]? = some p := by rw [hpre]; exact List.getElem?_range hp
  rwa [List.getElem?_take_of_lt hp] at this
 let E2 : Env := ⟨fun p => E.ρ (K.getD p 0), fun p => ∃ i, K[p]? = some i ∧ E.D i, fun b => E.O b ∧ ¬ ∃ i c, i ∉ K ∧ h[i]? = some (some c) ∧ (E.ρ i).b = b, fun b => E.I b ∨ ∃ i c, i ∉ K ∧ h[i]? = some (some c) ∧ (E.ρ i).b = b⟩
 have hρ : ∀ p i, K[p]? = some i → E2.ρ p = E.ρ i := fun p i hp => by show E.ρ (K.getD p 0) = _; rw [List.getD_eq_getElem?_getD, hp]; rfl
 have hvr : ∀ (d : Nat) {v v' : Za} {u : Value}, E.VR w v u → YI K h d v = some v' → E2.VR w v' u := fun d _ _ _ => renV_ok hr hρ (fun p i hp hi => ⟨i, hp, hi⟩) (fun b hb => .inl hb) (fun i b hi hb => .inr ⟨i, b, hi, hb, rfl⟩) d
 have hO : ∀ b, E2.O b → E.O b := fun b hb => hb.1
 have hI : ∀ b, E2.I b → E.I b ∨ E.O b := fun b hb => hb.imp id fun ⟨i, c, _, h2, h3⟩ => h3 ▸ (hr.blk i c h2).2.1
 have hle0 := hx.le
 have hlt0 : ∀ i, E0.D i → i < base := fun i hi => hn ▸ hr0.lt i hi
 have get : ∀ p b, h'[p]? = some (some b) → ∃ i, K[p]? = some i ∧ renB K h i = some (some b) := fun p b hp => by
  obtain ⟨hp1, hp2⟩ := List.getElem?_eq_some_iff.1 hp
  refine ⟨K[p]'(by omega), List.getElem?_eq_getElem _, ?_⟩
  rw [← hp2]; exact k2 p (by omega) hp1
 have old : ∀ i b, renB K h i = some (some b) → ∃ c, h[i]? = some (some c) := fun i b hb => by
  unfold renB at hb
  rw [Zz] at hb
  split at hb
  ·rename_i hx; exact ⟨_, hx⟩
  ·rename_i hx; exact ⟨_, hx⟩
  ·rename_i hx; exact ⟨_, hx⟩
  ·simp at hb
 refine ⟨E2, ⟨⟨hle0.os, hle0.tape, hle0.output, hle0.size, fun i hi => ?_, fun b hb => .inl (hle0.I b hb), fun b hb ho => ?_⟩, ⟨fun p b hp => ?_, fun p q b c hp hq he => ?_, fun p hp => ?_, fun b hb => hr.own b hb.1, fun b hb => ?_, fun g r hg => ?_⟩, fun j hj => ?_, ?_⟩, hvr, hO, hI⟩
 ·obtain ⟨g1, g2⟩ := hle0.D i hi
  have hp := hpre' i (hlt0 i hi)
  exact ⟨⟨i, hp, g1⟩, (hρ i i hp).trans g2⟩
 ·obtain ⟨g1, g2, g3⟩ := hle0.old b hb ho
  exact ⟨g1, fun h => g2 h.1, fun h => (hI b h).elim g3 fun h => absurd h g2⟩
 ·obtain ⟨i, hi, hrb⟩ := get p b hp
  obtain ⟨c, hc⟩ := old i b hrb
  obtain ⟨b1, b2, b3, b4⟩ := hr.blk i c hc
  have e := hρ p i hi
  have hiK : i ∈ K := List.mem_of_getElem? hi
  refine ⟨⟨i, hi, b1⟩, ⟨by rw [e]; exact b2, fun ⟨j, c2, hj1, hj2, hj3⟩ => ?_⟩, by rw [e]; exact b3, ?_⟩
  ·rw [e] at hj3
   exact hj1 (hr.inj j i c2 c hj2 hc hj3 ▸ hiK)
  ·unfold renB at hrb
   rw [Zz, hc] at hrb
   cases c with
   | row e1 rs =>
    simp only at hrb
    split at hrb <;> simp at hrb
    rename_i rs2 hrs
    subst hrb
    obtain ⟨q1, q2⟩ := ZJ hrs
    obtain ⟨c1, c2, c3, cc, el, c4, c5, c6⟩ := b4
    refine ⟨by rw [e]; exact c1, fun r hr => ?_, by rw [e, ← q1]; exact c3, cc, el, by rw [e]; exact c4, by rw [e]; exact c5, fun k r hk j x hj => ?_⟩
    ·obtain ⟨q, hq, rfl⟩ := List.mem_iff_getElem.1 hr
     rw [← (ZJ (q2 q (by omega) hq)).1]
     exact c2 _ (List.getElem_mem _)
    ·obtain ⟨hk1, rfl⟩ := List.getElem?_eq_some_iff.1 hk
     obtain ⟨hj1, rfl⟩ := List.getElem?_eq_some_iff.1 hj
     obtain ⟨m1, m2⟩ := ZJ (q2 k (by omega) hk1)
     obtain ⟨v, n1, n2⟩ := c6 k _ (List.getElem?_eq_getElem (by omega)) j _ (List.getElem?_eq_getElem (by omega))
     exact ⟨v, by rw [e]; exact n1, hvr 5 n2 (m2 j (by omega) hj1)⟩
   | map es cl =>
    simp only at hrb
    split at hrb <;> simp at hrb
    rename_i es2 hes
    subst hrb
    obtain ⟨q1, q2⟩ := ZJ hes
    obtain ⟨ces, c1, c2, c3⟩ := b4
    refine ⟨ces, by rw [e]; exact c1, by rw [← q1]; exact c2, fun j k v bb hj => ?_⟩
    obtain ⟨hj1, hj2⟩ := List.getElem?_eq_some_iff.1 hj
    have := q2 j (by omega) hj1
    rw [hj2] at this
    generalize hent : es[j]'(by omega) = ent at this
    obtain ⟨k0, v0, b0⟩ := ent
    simp only [renE] at this
    split at this <;> simp at this
    rename_i k3 v3 hk3 hv3
    obtain ⟨rfl, rfl, rfl⟩ := this
    obtain ⟨ce, n1, n2, n3, n4⟩ := c3 j k0 v0 b0 (by rw [List.getElem?_eq_getElem (by omega), hent])
    exact ⟨ce, n1, hvr 5 n2 hk3, hvr 5 n3 hv3, n4⟩
   | loop tt ps asg bd st pd =>
    simp only at hrb
    split at hrb <;> simp at hrb
    rename_i t2 ht2
    subst hrb
    obtain ⟨L, c1, c2, c3⟩ := b4
    exact ⟨L, by rw [e]; exact c1, renL_ok (hvr 5) c2 ht2, c3⟩
 ·obtain ⟨i, hi, hrb⟩ := get p b hp
  obtain ⟨j, hj, hrc⟩ := get q c hq
  obtain ⟨b', hb'⟩ := old i b hrb
  obtain ⟨c', hc'⟩ := old j c hrc
  rw [hρ p i hi, hρ q j hj] at he
  have := hr.inj i j b' c' hb' hc' he
  subst this
  obtain ⟨g1, g2⟩ := List.getElem?_eq_some_iff.1 hi
  obtain ⟨g3, g4⟩ := List.getElem?_eq_some_iff.1 hj
  exact (List.getElem_inj hK).1 (g2.trans g4.symm)
 ·obtain ⟨i, hi, _⟩ := hp
  have := (List.getElem?_eq_some_iff.1 hi).1
  omega
 ·refine ⟨(hI b hb).elim (fun h => (hr.imm b h).1) (fun h => hr.own b h), fun ho => ?_⟩
  exact hb.elim (fun h => (hr.imm b h).2 ho.1) fun h => ho.2 h
 ·have := hr.glob g r hg
  generalize hp : Value.pointer (some ⟨g, 0, none⟩) = pv at this ⊢
  cases this with
  | pv _ _ _ b off cv hb hc h => exact .pv _ _ _ b off cv (.inl hb) hc fun j hj => VR.mono (h j hj) _ (fun i hi => hi.elim) fun b hb => ⟨.inl hb, rfl⟩
 ·obtain ⟨i, hi, hd⟩ := hj
  rcases Nat.lt_or_ge j base with hl | hl
  ·rw [hpre' j hl] at hi
   simp at hi; subst hi
   exact hx.fr j hd
  ·exact .inr (by rw [hn]; exact hl)
 ·omega
theorem ren_keep {base : Nat} {h : Zj} (K : List Nat) (hK : K.Nodup) (hb : base ≤ K.length) (hpre : K.take base = List.range base) (ht : Zf (YI K h 5) t = some t') (hh : Zf (renB K h) K = some h') : Ren P G base ⟨t, h⟩ ⟨t', h'⟩ := by
 intro E0 h0 w0 d E w a hn hr0 hR
 obtain ⟨E2, hx, hvr, hO, hI⟩ := keep_nx K hK hb hpre hh hn hr0 hR.nx
 refine ⟨E2, hx, renL_ok (hvr 5) hR.lr ht, ?_⟩
 obtain ⟨bs, g1, g2, g3⟩ := hR.mks
 exact ⟨bs, g1, g2, fun b hb => by
  obtain ⟨a1, a2, a3, a4, a5⟩ := g3 b hb
  exact ⟨a1, a2, a3, fun h => a4 (hO b h), fun h => (hI b h).elim a5 a4⟩⟩
theorem ren_kill {base : Nat} (keep : Nat) : Ren P G base ⟨t, h⟩ ⟨Xj t keep, h⟩ := fun _ _ _ _ E _ _ _ _ hR => ⟨E, hR.nx, kill_lr t keep _ hR.lr, hR.mks⟩
theorem ren_kk {base : Nat} (keep : Nat) (K : List Nat) (hK : K.Nodup) (hb : base ≤ K.length) (hpre : K.take base = List.range base) (ht : Zf (YI K h 5) (Xj t keep) = some t') (hh : Zf (renB K h) K = some h') : Ren P G base ⟨t, h⟩ ⟨t', h'⟩ :=
 (ren_kill keep).trans (ren_keep K hK hb hpre ht hh)
theorem XJ (K : List Nat) (H : Zj) : ∀ (d : Nat) (v : Za), rb 0 d v = true → YI K H d v = some v := by
 intro d
 induction d with
 | zero => intro v h; simp [rb] at h
 | succ d ih =>
  intro v h
  replace h : rb1 0 (rb 0 d) v = true := h
  show renV1 K H (YI K H d) v = some v
  cases v <;> simp only [rb1, renV1, Bool.and_eq_true] at h ⊢ <;> (try rfl)
  case agg xs => rw [Zu xs fun x hx => ih x (List.all_eq_true.1 h x hx)]
  case tup xs => rw [Zu xs fun x hx => ih x (List.all_eq_true.1 h x hx)]
  case ref i k o => simp at h
  case sl i k n t => simp at h
  case mp i => simp at h
  case yld i => simp at h
  case fn f a b =>
   rw [Zu a fun x hx => ih x (List.all_eq_true.1 h.1 x hx), Zu b fun x hx => ih x (List.all_eq_true.1 h.2 x hx)]
theorem renV_any (K : List Nat) (H : Zj) (d : Nat) : YI K H (d + 1) .any = some .any := rfl
theorem renV_und (K : List Nat) (H : Zj) (d : Nat) : YI K H (d + 1) .und = some .und := rfl
theorem renV_int (K : List Nat) (H : Zj) (d : Nat) (k : IntKind) (n : Int) : YI K H (d + 1) (.int k n) = some (.int k n) := rfl
theorem renV_bool (K : List Nat) (H : Zj) (d : Nat) (b : Bool) : YI K H (d + 1) (.bool b) = some (.bool b) := rfl
theorem renV_nils (K : List Nat) (H : Zj) (d : Nat) : YI K H (d + 1) .nils = some .nils := rfl
theorem renV_nilp (K : List Nat) (H : Zj) (d : Nat) : YI K H (d + 1) .nilp = some .nilp := rfl
theorem renV_nilf (K : List Nat) (H : Zj) (d : Nat) : YI K H (d + 1) .nilf = some .nilf := rfl
theorem renV_vl (K : List Nat) (H : Zj) (d : Nat) (rs : List (List Za)) (t : Bool) : YI K H (d + 1) (.vl rs t) = some (.vl rs t) := rfl
theorem renV_pv (K : List Nat) (H : Zj) (d : Nat) (r : List Za) (o : Nat) : YI K H (d + 1) (.pv r o) = some (.pv r o) := rfl
theorem renV_ref (K : List Nat) (H : Zj) (d i k o : Nat) : YI K H (d + 1) (.ref i k o) = match posOf K i 0 with
  | some p => some (.ref p k o)
  | none => frz false (Xn K H) 5 (.ref i k o) := rfl
theorem renV_sl (K : List Nat) (H : Zj) (d i k n : Nat) (t : Bool) : YI K H (d + 1) (.sl i k n t) = match posOf K i 0 with
  | some p => some (.sl p k n t)
  | none => frz false (Xn K H) 5 (.sl i k n t) := rfl
theorem renV_mp (K : List Nat) (H : Zj) (d i : Nat) : YI K H (d + 1) (.mp i) = match posOf K i 0 with
  | some p => some (.mp p)
  | none => none := rfl
theorem renV_yld (K : List Nat) (H : Zj) (d i : Nat) : YI K H (d + 1) (.yld i) = match posOf K i 0 with
  | some p => some (.yld p)
  | none => none := rfl
theorem renV_agg (K : List Nat) (H : Zj) (d : Nat) (xs : List Za) : YI K H (d + 1) (.agg xs) = match Zf (YI K H d) xs with
  | some ys => some (.agg ys)
  | none => none := rfl
theorem renV_tup (K : List Nat) (H : Zj) (d : Nat) (xs : List Za) : YI K H (d + 1) (.tup xs) = match Zf (YI K H d) xs with
  | some ys => some (.tup ys)
  | none => none := rfl
theorem renV_fn (K : List Nat) (H : Zj) (d f : Nat) (a b : List Za) : YI K H (d + 1) (.fn f a b) = match Zf (YI K H d) a, Zf (YI K H d) b with
  | some a, some b => some (.fn f a b)
  | _, _ => none := rfl
theorem zr : (∀ (K : List Nat) (H : Zj) (d : Nat), YI K H (d + 1) .any = some .any) ∧ (∀ (K : List Nat) (H : Zj) (d : Nat), YI K H (d + 1) .und = some .und) ∧ (∀ (K : List Nat) (H : Zj) (d : Nat) (k : IntKind) (n : Int), YI K H (d + 1) (.int k n) = some (.int k n)) ∧ (∀ (K : List Nat) (H : Zj) (d : Nat) (b : Bool), YI K H (d + 1) (.bool b) = some (.bool b)) ∧ (∀ (K : List Nat) (H : Zj) (d : Nat), YI K H (d + 1) .nils = some .nils) ∧ (∀ (K : List Nat) (H : Zj) (d : Nat), YI K H (d + 1) .nilp = some .nilp) ∧ (∀ (K : List Nat) (H : Zj) (d : Nat), YI K H (d + 1) .nilf = some .nilf) ∧ (∀ (K : List Nat) (H : Zj) (d : Nat) (rs : List (List Za)) (t : Bool), YI K H (d + 1) (.vl rs t) = some (.vl rs t)) ∧ (∀ (K : List Nat) (H : Zj) (d : Nat) (r : List Za) (o : Nat), YI K H (d + 1) (.pv r o) = some (.pv r o)) ∧ (∀ (K : List Nat) (H : Zj) (d i k o : Nat), YI K H (d + 1) (.ref i k o) = match posOf K i 0 with
    | some p => some (.ref p k o)
    | none => frz false (Xn K H) 5 (.ref i k o)) ∧ (∀ (K : List Nat) (H : Zj) (d i k n : Nat) (t : Bool), YI K H (d + 1) (.sl i k n t) = match posOf K i 0 with
    | some p => some (.sl p k n t)
    | none => frz false (Xn K H) 5 (.sl i k n t)) ∧ (∀ (K : List Nat) (H : Zj) (d i : Nat), YI K H (d + 1) (.mp i) = match posOf K i 0 with
    | some p => some (.mp p)
    | none => none) ∧ (∀ (K : List Nat) (H : Zj) (d i : Nat), YI K H (d + 1) (.yld i) = match posOf K i 0 with
    | some p => some (.yld p)
    | none => none) ∧ (∀ (K : List Nat) (H : Zj) (d : Nat) (xs : List Za), YI K H (d + 1) (.agg xs) = match Zf (YI K H d) xs with
    | some ys => some (.agg ys)
    | none => none) ∧ (∀ (K : List Nat) (H : Zj) (d : Nat) (xs : List Za), YI K H (d + 1) (.tup xs) = match Zf (YI K H d) xs with
    | some ys => some (.tup ys)
    | none => none) ∧ (∀ (K : List Nat) (H : Zj) (d f : Nat) (a b : List Za), YI K H (d + 1) (.fn f a b) = match Zf (YI K H d) a, Zf (YI K H d) b with
    | some a, some b => some (.fn f a b)
    | _, _ => none) := ⟨renV_any, renV_und, renV_int, renV_bool, renV_nils, renV_nilp, renV_nilf, renV_vl, renV_pv, renV_ref, renV_sl, renV_mp, renV_yld, renV_agg, renV_tup, renV_fn⟩
end
end
end Go.Abs
namespace Go.Abs
open Go
def Xp : Za → Za
 | .sl i k n _ => .sl i k n false
 | v => v
def looseV : Za → Za
 | .tup xs => .tup (xs.map Xp)
 | .agg xs => .agg (xs.map Xp)
 | v => Xp v
section
variable {P : Program} {G : Nat → Option (List Za)} {T : Nat → Option CFn} {ρ : Nat → Loc} {I : Nat → Prop} {D : Nat → Prop} {w : World} {h h1 : Zj}
theorem vr_looseA {v : Za} {u : Value} (hv : VR ρ I w D v u) : VR ρ I w D (Xp v) u := by
 cases v with
 | sl i k n t => cases hv with
  | sl _ _ _ _ _ a cap hi hn ht ha hs => exact .sl _ i k n false a cap hi hn (fun h => by simp at h) ha hs
 | _ => exact hv
theorem vr_looseV {v : Za} {u : Value} (hv : VR ρ I w D v u) : VR ρ I w D (looseV v) u := by
 cases v with
 | tup xs => cases hv with
  | tup _ _ cs hl hx =>
   refine .tup _ _ cs (by simpa using hl) fun j h1 h2 => ?_
   rw [List.getElem_map]
   exact vr_looseA (hx j (by simpa using h1) h2)
 | agg xs => cases hv with
  | agg _ _ cs hl hx =>
   refine .agg _ _ cs (by simpa using hl) fun j h1 h2 => ?_
   rw [List.getElem_map]
   exact vr_looseA (hx j (by simpa using h1) h2)
 | _ => exact vr_looseA hv
theorem good_loose {f : Nat} {args : List Za} {v : Za} (hg : Xl P G f args h v h1) : Xl P G f args h (looseV v) h1 := fun E w cargs k hr hl =>
 CallsIn.mono (hg E w cargs k hr hl) (by
  rintro e w' ⟨u, E1, h1, h2, h3, h4, h5, h6⟩
  exact ⟨u, E1, h1, h2, h3, vr_looseV h4, h5, h6⟩)
theorem tab_fresh2 (hm : P.follows .mixedOrders = true) (hT : ZB P G T) {fr : Bool} {f : Nat} {sp : List Za → Option (Za × Zj)}
  (ho : ∀ args v hs, sp args = some (v, hs) → Zr P T f args [] fun v1 h1 => ∃ K : List Nat, K.Nodup ∧ K.length = hs.length ∧ (∀ p (hp : p < K.length) b, hs[p]? = some (some b) → h1[K[p]]? = some (some b)) ∧ keepB fr K h1 (looseV v1) = some v) : ZB P G (updE T f (freshE fr sp)) :=
 tab_updE hT fun args h v us he => by
  unfold freshE at he
  split at he <;> (try simp only [reduceCtorEq] at he)
  rename_i ass e1
  split at he <;> (try simp only [reduceCtorEq] at he)
  rename_i v0 hs e2
  split at he <;> (try simp only [reduceCtorEq] at he)
  rename_i hg
  split at he <;> (try simp only [reduceCtorEq] at he)
  rename_i v' hb
  simp at he
  obtain ⟨rfl, rfl⟩ := he
  obtain ⟨v2, h2, ⟨K, k1, k2, k3, k4⟩, hgood⟩ := answers_good hm hT (ho ass v0 hs e2)
  rw [setH_new]
  exact fresh_good (good_loose hgood) k1 k2.symm k3 hg k4 (by rw [k2]; exact hb) e1
end
end Go.Abs
namespace Go.Abs
open Go
section
variable (P : Program) (G : Nat → Option (List Za))
def CPost (E0 : Env) (h0 : Zj) (w0 : World) (d : List Deferred) (Q : AEx → St → Prop) : Exit → Act → World → Prop := fun x a' w' => ∃ e σ', x = exOf e ∧ Q e σ' ∧ ∃ E', Run P G E0 h0 w0 d E' σ'.h w' σ'.t a'
def CRuns (base : Nat) (r : Option Nat) (c : CC) (σ : St) (Q : AEx → St → Prop) : Prop := ∀ (code : Code) (E0 : Env) (h0 : Zj) (w0 : World) (d : List Deferred) (E : Env) (w : World) (a : Act) (k : Nat),
 ZW P G code = some (XI c) → h0.length = base → E0.HR P G h0 w0 → Run P G E0 h0 w0 d E σ.h w σ.t a → (∀ i, r = some i → E0.D i) → code.wpIn (FW (r.map fun i => (E0.ρ i).b)) k P (CPost P G E0 h0 w0 d Q) a w
def CAns (f : Nat) (args : List Za) (h : Zj) (Q : Za → Zj → Prop) : Prop :=
 ∀ (E : Env) (w : World) (cargs : Array Value) (k : Nat), E.HR P G h w → E.LR w args cargs → CallsIn (FW none) k P f cargs w fun e w' => ∃ v h', Q v h' ∧ RetPost P G E w h.length v h' e w'
end
section
variable {P : Program} {G : Nat → Option (List Za)} {T : Nat → Option CFn} {r : Option Nat} {base : Nat} {a b c : CC} {σ σ1 σ' : St} {Q Q' : AEx → St → Prop} {h : Zj}
theorem CRuns.mono (hr : CRuns P G base r c σ Q) (hq : ∀ e σ, Q e σ → Q' e σ) : CRuns P G base r c σ Q' := fun code E0 h0 w0 d E w act k hc hb h0r hR hd =>
 wpIn_mono (hr code E0 h0 w0 d E w act k hc hb h0r hR hd) fun _ _ _ ⟨e, σ', h1, h2, h3⟩ => ⟨e, σ', h1, hq _ _ h2, h3⟩
theorem cruns_sruns (h : SRuns P G r c σ Q) : CRuns P G base r c σ Q := by
 obtain ⟨e, σ', hs, hq⟩ := h
 intro code E0 h0 w0 d E w act k hc hb h0r hR hd
 have := hs code E w act k hc hR.nx.hr hR.lr fun i hi => (hR.nx.le.D i (hd i hi)).1
 rw [fw_eq hR.nx.le hd] at this
 exact wpIn_mono this fun x a2 w2 hp => by
  obtain ⟨hx, E', hR'⟩ := post_trans hR hp
  exact ⟨e, σ', hx, hq, E', hR'⟩
theorem Ze (hm : P.follows .mixedOrders = true) (hT : ZB P G T) (h : Runs P T r c σ Q) : CRuns P G base r c σ Q := cruns_sruns (sruns_of hm hT h)
theorem cruns_ren (hn : Ren P G base σ σ1) (hs : CRuns P G base r c σ1 Q) : CRuns P G base r c σ Q := fun code E0 h0 w0 d E w act k hc hb h0r hR hd => by
 obtain ⟨E1, hR1⟩ := hn E0 h0 w0 d E w act hb h0r hR
 exact hs code E0 h0 w0 d E1 w act k hc hb h0r hR1 hd
theorem Zc (h : CRuns P G base r a σ (zT Q fun σ' => CRuns P G base r b σ' Q)) : CRuns P G base r (.seq a b) σ Q := by
 intro code E0 h0 w0 d E w act k hc hb h0r hR hd
 obtain ⟨p, q, rfl, hp, hq⟩ := co_seq hc
 refine wpIn_seq (wpIn_mono (h p E0 h0 w0 d E w act k hp hb h0r hR hd) ?_)
 rintro xx a' w' ⟨e, σ1, rfl, h1, E', hR'⟩
 cases e with
 | normal => exact h1 q E0 h0 w0 d E' w' a' k hq hb h0r hR' hd
 | exit id => exact ⟨_, σ1, rfl, h1, E', hR'⟩
 | ret => exact ⟨_, σ1, rfl, h1, E', hR'⟩
theorem Zx (hq : Q .normal σ) : CRuns P G base r .skip σ Q := cruns_sruns (sruns_skip hq)
theorem Ym (hq : Q .ret σ) : CRuns P G base r .ret σ Q := cruns_sruns (sruns_ret hq)
theorem YO {id : Nat} (hq : Q (.exit id) σ) : CRuns P G base r (.exit id) σ Q := cruns_sruns (sruns_exit hq)
theorem Zs {cv : CV} {x : Bool} (hv : cv.ev σ.t = some (.bool x)) (h : CRuns P G base r (if x then a else b) σ Q) : CRuns P G base r (.cond cv a b) σ Q := by
 intro code E0 h0 w0 d E w act k hc hb h0r hR hd
 obtain ⟨o, p, q, rfl, ho, hp, hq⟩ := co_cond hc
 cases x with
 | true => exact wpIn_cond_true (ZP hR.nx.hr hR.lr ho hv).bool_inv (h p E0 h0 w0 d E w act k hp hb h0r hR hd)
 | false => exact wpIn_cond_false (ZP hR.nx.hr hR.lr ho hv).bool_inv (h q E0 h0 w0 d E w act k hq hb h0r hR hd)
theorem Xg {cv : CV} {x : Bool} (hc : cv.ev σ.t = some (.bool x)) (ht : x = true → CRuns P G base r a σ Q) (hf : x = false → CRuns P G base r b σ Q) : CRuns P G base r (.cond cv a b) σ Q :=
 Zs hc (by cases x <;> simp_all)
theorem Yu {id : Nat} (h : CRuns P G base r a σ (zB id Q)) : CRuns P G base r (.block id a) σ Q := by
 intro code E0 h0 w0 d E w act k hc hb h0r hR hd
 obtain ⟨p, rfl, hp⟩ := co_block hc
 refine wpIn_block (wpIn_mono (h p E0 h0 w0 d E w act k hp hb h0r hR hd) ?_)
 rintro xx a' w' ⟨e, σ1, rfl, h1, E', hR'⟩
 cases e with
 | normal => exact ⟨.normal, σ1, rfl, h1, E', hR'⟩
 | ret => exact ⟨.ret, σ1, rfl, h1, E', hR'⟩
 | exit j =>
  simp only [zB] at h1
  simp only [exOf, Exit.inBlock]
  by_cases e : j = id
  ·rw [if_pos e] at h1 ⊢; exact ⟨.normal, σ1, rfl, h1, E', hR'⟩
  ·rw [if_neg e] at h1 ⊢; exact ⟨.exit j, σ1, rfl, h1, E', hR'⟩
theorem rounds_le {F : Fence} {k : Nat} {p : Code} {R : Exit → Act → World → Prop} : ∀ {n m : Nat}, n ≤ m → ∀ {a : Act} {w : World}, Code.roundsIn F k P p R n a w → Code.roundsIn F k P p R m a w
 | 0, _, _, _, _, h => h.elim
 | n + 1, 0, hnm, _, _, _ => absurd hnm (by omega)
 | n + 1, m + 1, hnm, a, w, h => wpIn_mono h fun e a w q => by
  cases e with
  | normal => exact rounds_le (by omega) q
  | _ => exact q
theorem cruns_rounds (I : Nat → St → Prop) (step : ∀ k σ1, I k σ1 → CRuns P G base r c σ1 (zT Q fun σ2 => ∃ k' σ3, k' < k ∧ Ren P G base σ2 σ3 ∧ I k' σ3)) :
  ∀ k σ, I k σ → ∀ (p : Code) (E0 : Env) (h0 : Zj) (w0 : World) (d : List Deferred) (E : Env) (w : World) (a : Act) (kk : Nat), ZW P G p = some (XI c) → h0.length = base → E0.HR P G h0 w0 → Run P G E0 h0 w0 d E σ.h w σ.t a → (∀ i, r = some i → E0.D i) →
   Code.roundsIn (FW (r.map fun i => (E0.ρ i).b)) kk P p (CPost P G E0 h0 w0 d Q) (k + 1) a w := by
 intro k
 induction k using Nat.strongRecOn with
 | _ k ih =>
  intro σ hI p E0 h0 w0 d E w act kk hp hb h0r hR hd
  rw [roundsIn_succ]
  refine wpIn_mono (step k σ hI p E0 h0 w0 d E w act kk hp hb h0r hR hd) ?_
  rintro xx a' w' ⟨e, σ1, rfl, h1, E', hR'⟩
  cases e with
  | normal =>
   obtain ⟨k', σ3, hk, hren, hI'⟩ := h1
   obtain ⟨E2, hR2⟩ := hren E0 h0 w0 d E' w' a' hb h0r hR'
   exact rounds_le (by omega) (ih k' hk σ3 hI' p E0 h0 w0 d E2 w' a' kk hp hb h0r hR2 hd)
  | exit id => exact ⟨_, σ1, rfl, h1, E', hR'⟩
  | ret => exact ⟨_, σ1, rfl, h1, E', hR'⟩
theorem cruns_loop {keep k : Nat} (I : Nat → St → Prop) (h0 : ∃ σ0, Ren P G base σ σ0 ∧ I k σ0)
  (step : ∀ k σ1, I k σ1 → CRuns P G base r c σ1 (zT Q fun σ2 => ∃ k' σ3, k' < k ∧ Ren P G base σ2 σ3 ∧ I k' σ3)) : CRuns P G base r (.loop keep c) σ Q := by
 obtain ⟨σ0, hr0, hI⟩ := h0
 intro code E0 h0 w0 d E w act kk hc hb h0r hR hd
 obtain ⟨p, rfl, hp⟩ := co_loop hc
 obtain ⟨E2, hR2⟩ := hr0 E0 h0 w0 d E w act hb h0r hR
 exact wpIn_loop_rounds _ (cruns_rounds I step k σ0 hI p E0 h0 w0 d E2 w act kk hp hb h0r hR2 hd)
theorem cans_of (hT : ZB P G T) {f : Nat} {cf : CFn} {args : List Za} {Q : Za → Zj → Prop} (hf : T f = some cf)
  (hb : CRuns P G h.length none cf.body ⟨args ++ List.replicate (cf.ntmps - args.length) .und, h⟩ fun e σ => (∀ id, e ≠ .exit id) ∧ ∃ vs, resA σ.t σ.h cf.res = some vs ∧ Q (XS vs) (trim h.length [XS vs] σ.h)) : CAns P G f args h Q := by
 intro E w cargs k hr hl
 obtain ⟨fn, c, hfn, hbd, hname, hcomp, hnt, hres, horc, heff⟩ := hT f cf hf
 have hlr : E.LR w (args ++ List.replicate (cf.ntmps - args.length) Za.und) (cargs ++ Array.replicate (fn.ntmps - cargs.size) undef) :=
  lr_app hl (replicate_lr _ _ (by rw [hnt, hl.1]))
 refine callsIn_of_wp_marks hfn hbd trivial ?_
 refine wpIn_mono (hb c E h w _ E w _ k hcomp rfl hr (.refl hr hlr) (by simp)) ?_
 rintro x a' w' ⟨e, σ, hx, ⟨hne, vs, hv, hq⟩, E', hR⟩
 have key : LeavesInM (FW none) k P fn a'.tmps (fun e w' => ∃ v h', Q v h' ∧ RetPost P G E w h.length v h' e w') a'.defers .returning w' := by
  obtain ⟨bs, hbs, hnd, hall⟩ := hR.mks
  simp only [List.append_nil] at hbs
  rw [hbs]
  refine leaves (n := w.heap.size) (k := k) hres hv bs w' hR.nx.hr hR.lr hnd hall fun w2 u g1 g2 g3 g4 g5 g6 g7 => ?_
  have hx2 := nx_side hR.nx g1 g3 g4 g5 g6 fun b hb => g7 b (.inl hb)
  have hlu : E'.LR w2 [XS vs] #[u] := ⟨rfl, fun j h1 h2 => by
   have : j = 0 := by simp at h1; omega
   subst this; exact g2⟩
  obtain ⟨E2, hx3, hl3, _⟩ := trim_ok hr hx2 hlu
  exact ⟨_, _, hq, u, E2, rfl, hx3.le, hx3.hr, hl3.2 0 (by simp) (by simp), hx3.fr, hx3.len⟩
 cases e with
 | exit id => exact absurd rfl (hne id)
 | normal => subst hx; exact key
 | ret => subst hx; exact key
theorem CAns.mono {f : Nat} {args : List Za} {Q Q' : Za → Zj → Prop} (ha : CAns P G f args h Q) (hq : ∀ v h, Q v h → Q' v h) : CAns P G f args h Q' := fun E w cargs k hr hl =>
 CallsIn.mono (ha E w cargs k hr hl) fun e w' ⟨v, h', h1, h2⟩ => ⟨v, h', hq _ _ h1, h2⟩
end
end Go.Abs
namespace Go.Proofs.YtpebmjeomlgmdaaGreatDoor.Tab
open Go Go.Abs Go.Proofs
set_option maxRecDepth 100000
set_option maxHeartbeats 4000000
set_option linter.unusedSimpArgs false
set_option linter.unusedVariables false
noncomputable section
attribute [local simp] Yv Ye XB XC YD YJ XD YL Xh YC Zf orcF Xv YV Xx Xt YU YA rb_vl rb_pv Xr YT YS YR Xw Xs Xu XZ rb_fn slE XP Xk Yp ZQ XG List.range_succ List.range_zero List.range'_succ List.range'_zero Yi Yg ZK Yl ZR ZT Xm Yf dop CV.ev Ys ZA ZM Xa fI_eq Yt Yc ZN Zz Out.v Xy List.replicate_succ zT zB arI ZO Abs.rowAt Xq allV toV toC ofV ofC Builtin.min_ Builtin.min2 Builtin.max_ Builtin.max2 Xz XA resA XS Xj Yh Yx Yy Yw Zd
section
attribute [local simp] Yj ZU YP YM XR Xo disj YY holes YZ ZX Xb news eqB Xc eqA YK Xi toCs ofCs stA Yz ZV Yr dI1 dI2 dI3 dI5 elt
attribute [local simp] st_any st_und st_agg st_tup XX st_int XU st_ref st_pv XT st_sl st_vl XV st_mp st_fn XW st_yld co_any co_und co_agg co_tup co_bool co_int co_nilp co_ref co_pv co_nils co_sl co_vl co_nilm co_mp co_fn co_nilf co_yld
attribute [local simp] Ya Zq lop Yk
def rU (s : Nat) : List Za := [.int .u64 (s : Nat)]
theorem optAll_map2 {α β γ : Type} {f : β → Option γ} {g : α → β} {k : α → γ} : ∀ (l : List α), (∀ x ∈ l, f (g x) = some (k x)) → Zf f (l.map g) = some (l.map k)
  | [], _ => rfl
  | x :: l, h => by simp only [List.map_cons, Zf, h x (by simp), optAll_map2 l fun y hy => h y (by simp [hy])]
theorem orc_cans {P : Program} {G : Nat → Option (List Za)} {f : Nat} {args : List Za} {fr : Bool} {v : Za} (ha : CAns P G f args [] fun v' h' => frz fr h' 5 v' = some v) : OrcGood P G fr f args v := by
  intro E w cargs k hD hO hr hl
  refine CallsIn.mono (ha E w cargs k hr hl) ?_
  rintro e w' ⟨v', h', hv, u, E', rfl, hle, hr', hu, _, _⟩
  have hO' : ∀ b, E'.O b → w.heap.size ≤ b := fun b hb => Nat.le_of_not_lt fun h => (hle.old b h (hO b)).2.1 hb
  refine ⟨u, fun b => b < w'.heap.size ∧ (w.heap.size ≤ b ∨ (fr = false ∧ E.I b)), rfl, hle.os, hle.tape, hle.output, hle.size, fun b hb => (hle.old b hb (hO b)).1, fun b hb => hb, ?_⟩
  refine frz_ok hr' (fun i b hi => ?_) (fun hf b hb => ?_) 5 hu hv
  · obtain ⟨_, h2, h3, _⟩ := hr'.blk i b hi
    exact ⟨h3, .inl (hO' _ h2)⟩
  · refine ⟨(hr'.imm b hb).1, ?_⟩
    by_cases h : b < w.heap.size
    · exact .inr ⟨hf, (hle.old b h (hO b)).2.2 hb⟩
    · exact .inl (by omega)
def o114 : List Za → Option Za
  | [.int .i64 _] => some (.bool false)
  | _ => none
def cmpI (a b : Int) : Int := if a < b then -1 else if b < a then 1 else 0
def o101 : List Za → Option Za
  | [.int .i64 a, .int .i64 b] => some (I (cmpI a b))
  | _ => none
theorem a114 (P : Program) (T : Nat → Option CFn) (hT : T 77 = some c77) (n : Int) : Zr P T 77 [I n] [] fun v h => frz true h 5 v = some (.bool false) := by
 refine Zl hT (Zo rfl) ?_
 simp only [oo, om, op, og, ci, cl, c77]
 refine zS ?_
 refine zR (zO (by simp; rfl) ?_)
 simp only [zT, zB]
 refine zS ?_
 refine zR (zO (by simp; rfl) ?_)
 simp only [zT, zB]
 refine Zg ?_
 simp
def DB1 : Nat → Option CFn := upd DA 77 true (o114)
theorem DB1_ok : ZB Tryz.prog GG DB1 := ZD Zh DA_ok fun args v ho => by
  unfold o114 at ho; split at ho <;> simp at ho
  rename_i n
  subst ho
  exact a114 Tryz.prog DA rfl  n
theorem a101 (P : Program) (T : Nat → Option CFn) (hT : T 58 = some c58) (h114 : T 77 = some { c77 with frsh := true, orc := o114 }) (a b : Int) : Zr P T 58 [I a, I b] [] fun v h => frz true h 5 v = some (I (cmpI a b)) := by
 refine Zl hT (Zo rfl) ?_
 simp only [oo, om, op, og, ci, cl, c58]
 refine zS ?_
 refine zR (zO (by simp [zC h114, h114, o114]; rfl) ?_)
 simp only [zT, zB]
 refine zS ?_
 refine zR (zO (by simp [zC h114, h114, o114]; rfl) ?_)
 simp only [zT, zB]
 refine zS ?_
 refine zR (zO (by simp [zC h114, h114, o114]; rfl) ?_)
 simp only [zT, zB]
 refine zS ?_
 refine zS ?_
 refine zR (zO (by simp [zC h114, h114, o114]; rfl) ?_)
 simp only [zT, zB]
 refine Zi (x := false) (by simp) ?_
 refine zK ?_
 simp only [zT, zB]
 refine zS ?_
 refine zS ?_
 refine zR (zO (by simp [zC h114, h114, o114]; rfl) ?_)
 simp only [zT, zB]
 refine Zi (x := false) (by simp) ?_
 refine zK ?_
 simp only [zT, zB]
 refine zS ?_
 refine zS ?_
 refine zR (zO (by simp [zC h114, h114, o114]; rfl) ?_)
 simp only [zT, zB]
 refine Zk (x := decide (a < b)) (by simp) (fun hA => ?_) (fun hA => ?_)
 ·have e : cmpI a b = -1 := by have := of_decide_eq_true hA; simp [cmpI, this]
  rw [e]
  refine zS ?_
  refine zR (zO (by simp [zC h114, h114, o114]; rfl) ?_)
  simp only [zT, zB]
  refine Zg ?_
  simp [zC h114, h114, o114]
 ·have hA := of_decide_eq_false hA
  refine zK ?_
  simp only [zT, zB]
  refine zS ?_
  refine zS ?_
  refine zR (zO (by simp [zC h114, h114, o114]; rfl) ?_)
  simp only [zT, zB]
  refine Zk (x := decide (b < a)) (by simp) (fun hB => ?_) (fun hB => ?_)
  ·have hB := of_decide_eq_true hB
   have e : cmpI a b = 1 := by unfold cmpI; rw [if_neg hA, if_pos hB]
   rw [e]
   refine zS ?_
   refine zR (zO (by simp [zC h114, h114, o114]; rfl) ?_)
   simp only [zT, zB]
   refine Zg ?_
   simp [zC h114, h114, o114]
  ·have hB := of_decide_eq_false hB
   have e : cmpI a b = 0 := by unfold cmpI; rw [if_neg hA, if_neg hB]
   rw [e]
   refine zK ?_
   simp only [zT, zB]
   refine zS ?_
   refine zR (zO (by simp [zC h114, h114, o114]; rfl) ?_)
   simp only [zT, zB]
   refine Zg ?_
   simp [zC h114, h114, o114]
def DB2 : Nat → Option CFn := upd DB1 58 true (o101)
theorem DB2_ok : ZB Tryz.prog GG DB2 := ZD Zh DB1_ok fun args v ho => by
  unfold o101 at ho; split at ho <;> simp at ho
  rename_i a b
  subst ho
  exact a101 Tryz.prog DB1 rfl rfl a b
def dN1 : List Za → Option Nat
  | [.int .i64 n] => if 0 ≤ n ∧ n < 1000000 then some n.toNat else none
  | _ => none
def dNs (v : Za) : Option (List Nat) := match Zm v with
  | some rs => Zf dN1 rs
  | none => none
theorem dN1_eq (r : List Za) (n : Nat) (h : dN1 r = some n) : r = rN n := by
  unfold dN1 at h; split at h <;> (try simp at h)
  rename_i n
  obtain ⟨h1, rfl⟩ := h
  have e1 : ((n.toNat : Nat) : Int) = n := Int.toNat_of_nonneg (by omega)
  simp only [rN, e1]
theorem dNs_rows {v : Za} {l : List Nat} (h : dNs v = some l) : Zm v = some (l.map rN) := by
  unfold dNs at h
  split at h
  · rename_i rs hrs
    rw [hrs, ZY (enc := rN) dN1_eq h]
  · simp at h
theorem dNs_of {v : Za} {l : List Nat} (h : Zm v = some (l.map rN)) (hb : ∀ x ∈ l, x < 1000000) : dNs v = some l := by
  unfold dNs; rw [h]; simp only
  clear h
  induction l with
  | nil => rfl
  | cons x l ih =>
    have hx := hb x (by simp)
    simp only [List.map_cons, Zf, ih fun y hy => hb y (by simp [hy])]
    have : dN1 (rN x) = some x := by simp only [dN1, rN]; rw [if_pos (by omega)]; rfl
    rw [this]
theorem dNs_encL {l : List Nat} (hb : ∀ x ∈ l, x < 1000000) : dNs (encL l) = some l := dNs_of (encL_rows l) hb
theorem dNs_len {v : Za} {l : List Nat} (h : dNs v = some l) : Zd v = some l.length := by rw [Zv (dNs_rows h), List.length_map]
theorem dNs_get {v : Za} {l : List Nat} (h : dNs v = some l) {k : Nat} (hk : k < l.length) : ∃ t, v = .vl (l.map rN) t := ZG (dNs_rows h) (k := k) (by simpa using hk)
theorem dNs_frz {v : Za} {l : List Nat} (h : dNs v = some l) (H : Zj) (d : Nat) : frz false H (d + 1) v = some v := Zw (dNs_rows h) H d
def o78 : List Za → Option Za
  | [x, y] => match dNs x, dNs y with
    | some a, some b => if a.length ≤ 1000 ∧ b.length ≤ 1000 then some (I (lexC a b)) else none
    | _, _ => none
  | _ => none
theorem lexC_drop {a b : List Nat} {k : Nat} (ha : k < a.length) (hb : k < b.length) : lexC (a.drop k) (b.drop k) = if a[k] < b[k] then -1 else if b[k] < a[k] then 1 else lexC (a.drop (k + 1)) (b.drop (k + 1)) := by
  rw [List.drop_eq_getElem_cons ha, List.drop_eq_getElem_cons hb]; rfl
theorem a78 (P : Program) (T : Nat → Option CFn) (hT : T 37 = some c37) (h101 : T 58 = some { c58 with frsh := true, orc := o101 }) (x y : Za) (a b : List Nat) (hx : dNs x = some a) (hy : dNs y = some b) (ha : a.length ≤ 1000) (hb : b.length ≤ 1000) : Zr P T 37 [x, y] [] fun v h => frz true h 5 v = some (I (lexC a b)) := by
 have lx := dNs_len hx
 have ly := dNs_len hy
 refine Zl hT (Zo rfl) ?_
 simp only [oo, om, op, og, ci, cl, c37]
 refine zS ?_
 refine zR (zO (by simp [zC h101, h101, lx, ly, -Zd]; rfl) ?_)
 simp only [zT, zB]
 refine zS ?_
 refine zS ?_
 refine zR (zO (by simp [zC h101, h101, lx, ly, -Zd]; rfl) ?_)
 simp only [zT, zB]
 refine zL ?_
 refine ZL (fun m σ => ∃ (k : Nat) (i : Int), i = k ∧ a.length - k = m ∧ k ≤ a.length ∧ lexC (a.drop k) (b.drop k) = lexC a b ∧ σ = ⟨[x, y, .any, .any, .any, .any, .any, .any, .any, x, I a.length, I i, .any, .any, .any, .any, .any, .any, .any, .any, .any, .any, .any, .any, .any, .any, .any, .any, .any, .any, .any, .any, .any, .any, .any, .any], []⟩) ?_ (a.length - 0) _ ⟨0, 0, rfl, rfl, Nat.zero_le _, rfl, by simp⟩
 rintro m σ ⟨k, i, hik, rfl, hkl, hR, rfl⟩
 refine zS ?_
 refine zR (zO (by simp [zC h101, h101, lx, ly, -Zd]; rfl) ?_)
 simp only [zT, zB]
 refine zS ?_
 refine Zk (x := decide (i < (a.length : Int))) (by simp) (fun hlt => ?_) (fun hlt => ?_)
 ·have hlt := of_decide_eq_true hlt
  have hk0 : k < a.length := by omega
  obtain ⟨t1, rfl⟩ := dNs_get hx hk0
  have hi0 : 0 ≤ i := by omega
  have htn : i.toNat = k := by omega
  have hwi : W .i64 (i + 1) = i + 1 := ZH (by omega)
  have g1 : (a.map rN)[k]? = some (rN a[k]) := by rw [List.getElem?_map, List.getElem?_eq_getElem hk0]; rfl
  have g2 : ∀ h, (a.map rN)[k]'h = rN a[k] := fun h => by simp
  have HH1 := zA h101 (zA lx (zA ly (zA hi0 (zA htn (zA hk0 (zA hwi (zA g1 g2)))))))
  refine zK ?_
  simp only [zT, zB]
  refine zS ?_
  refine zL ?_
  refine zS ?_
  refine zR (zO (by simp [zC h101, -Zd, -List.getElem?_map, -List.getElem_map, HH1]; rfl) ?_)
  simp only [zT, zB]
  refine zS ?_
  refine zS ?_
  refine zR (zO (by simp [zC h101, -Zd, -List.getElem?_map, -List.getElem_map, HH1]; rfl) ?_)
  simp only [zT, zB]
  refine Zk (x := decide ((b.length : Int) ≤ i)) (by simp) (fun hge => ?_) (fun hge => ?_)
  ·have hge := of_decide_eq_true hge
   have hb0 : b.drop k = [] := List.drop_of_length_le (by omega)
   have hA : a.drop k = a[k] :: a.drop (k + 1) := List.drop_eq_getElem_cons hk0
   rw [hA, hb0] at hR
   rw [← hR]
   refine zS ?_
   refine zR (zO (by simp [zC h101, -Zd, -List.getElem?_map, -List.getElem_map, HH1]; rfl) ?_)
   simp only [zT, zB]
   refine Zg ?_
   simp [zC h101, -Zd, -List.getElem?_map, -List.getElem_map, HH1, lexC]
  ·have hge := of_decide_eq_false hge
   have hkb : k < b.length := by omega
   obtain ⟨t2, rfl⟩ := dNs_get hy hkb
   have g3 : (b.map rN)[k]? = some (rN b[k]) := by rw [List.getElem?_map, List.getElem?_eq_getElem hkb]; rfl
   have g4 : ∀ h, (b.map rN)[k]'h = rN b[k] := fun h => by simp
   rw [lexC_drop hk0 hkb] at hR
   generalize hua : a[k] = u at *
   generalize hub : b[k] = v at *
   have hcm : cmpI (u : Int) (v : Int) = if u < v then -1 else if v < u then 1 else 0 := by
    unfold cmpI; simp only [Int.ofNat_lt]
   refine zK ?_
   simp only [zT, zB]
   refine zS ?_
   refine zR (zO (by simp [zC h101, -Zd, -List.getElem?_map, -List.getElem_map, HH1, hkb, g3, g4, rN, o101]; rfl) ?_)
   simp only [zT, zB]
   refine zS ?_
   refine zR (zO (by simp [zC h101, -Zd, -List.getElem?_map, -List.getElem_map, HH1, hkb, g3, g4, rN, o101]; rfl) ?_)
   simp only [zT, zB]
   refine zS ?_
   refine zR (zO (by simp [zC h101, -Zd, -List.getElem?_map, -List.getElem_map, HH1, hkb, g3, g4, rN, o101]; rfl) ?_)
   simp only [zT, zB]
   by_cases hA : u < v
   ·rw [if_pos hA] at hR
    rw [if_pos hA] at hcm
    rw [← hR]
    refine Zi (x := true) (by simp [hcm]) ?_
    refine zS ?_
    refine zR (zO (by simp [zC h101, -Zd, -List.getElem?_map, -List.getElem_map, HH1, hkb, g3, g4, rN, o101, hcm]; rfl) ?_)
    simp only [zT, zB]
    refine Zg ?_
    simp [zC h101, -Zd, -List.getElem?_map, -List.getElem_map, HH1, hkb, g3, g4, rN, o101, hcm]
   ·by_cases hB : v < u
    ·rw [if_neg hA, if_pos hB] at hR
     rw [if_neg hA, if_pos hB] at hcm
     rw [← hR]
     refine Zi (x := true) (by simp [hcm]) ?_
     refine zS ?_
     refine zR (zO (by simp [zC h101, -Zd, -List.getElem?_map, -List.getElem_map, HH1, hkb, g3, g4, rN, o101, hcm]; rfl) ?_)
     simp only [zT, zB]
     refine Zg ?_
     simp [zC h101, -Zd, -List.getElem?_map, -List.getElem_map, HH1, hkb, g3, g4, rN, o101, hcm]
    ·rw [if_neg hA, if_neg hB] at hR
     rw [if_neg hA, if_neg hB] at hcm
     refine Zi (x := false) (by simp [hcm]) ?_
     refine zK ?_
     simp only [zT, zB]
     refine zR (zO (by simp [zC h101, -Zd, -List.getElem?_map, -List.getElem_map, HH1, hkb, g3, g4, rN, o101, hcm]; rfl) ?_)
     simp only [zT, zB]
     exact ⟨a.length - (k + 1), by omega, k + 1, i + 1, by omega, rfl, by omega, hR, by simp [zC h101, -Zd, -List.getElem?_map, -List.getElem_map, HH1, hkb, g3, g4, rN, o101, hcm]⟩
 ·have hlt := of_decide_eq_false hlt
  obtain rfl : k = a.length := by omega
  rw [List.drop_length] at hR
  refine ZI ?_
  simp only [zT, zB, if_true, if_false, reduceIte, Nat.reduceEqDiff, Nat.succ_ne_zero, Nat.one_ne_zero, Nat.zero_ne_one]
  refine zS ?_
  refine zS ?_
  refine zR (zO (by simp [zC h101, h101, lx, ly, -Zd]; rfl) ?_)
  simp only [zT, zB]
  refine Zk (x := decide ((a.length : Int) < (b.length : Int))) (by simp) (fun hsh => ?_) (fun hsh => ?_)
  ·have hsh := of_decide_eq_true hsh
   have hB : b.drop a.length = b[a.length] :: b.drop (a.length + 1) := List.drop_eq_getElem_cons (by omega)
   rw [hB] at hR
   rw [← hR]
   refine zS ?_
   refine zR (zO (by simp [zC h101, h101, lx, ly, -Zd]; rfl) ?_)
   simp only [zT, zB]
   refine Zg ?_
   simp [zC h101, h101, lx, ly, -Zd, lexC]
  ·have hsh := of_decide_eq_false hsh
   have hB : b.drop a.length = [] := List.drop_of_length_le (by omega)
   rw [hB] at hR
   rw [← hR]
   refine zK ?_
   simp only [zT, zB]
   refine zS ?_
   refine zR (zO (by simp [zC h101, h101, lx, ly, -Zd]; rfl) ?_)
   simp only [zT, zB]
   refine Zg ?_
   simp [zC h101, h101, lx, ly, -Zd, lexC]
def DB3 : Nat → Option CFn := upd DB2 37 true (o78)
theorem DB3_ok : ZB Tryz.prog GG DB3 := ZD Zh DB2_ok fun args v ho => by
  unfold o78 at ho; split at ho <;> (try simp only [reduceCtorEq] at ho)
  rename_i x y
  split at ho <;> (try simp only [reduceCtorEq] at ho)
  rename_i a b hx hy
  split at ho <;> (try simp only [reduceCtorEq] at ho)
  rename_i hg
  simp only [Option.some.injEq] at ho
  subst ho
  exact a78 Tryz.prog DB2 rfl rfl x y a b hx hy hg.1 hg.2
def o108 : List Za → Option Za
  | [.int .u64 a, .int .u64 b] => if (0 ≤ a ∧ a < 1024) ∧ (0 ≤ b ∧ b < 1024) then some (I (lexC (Zp a.toNat) (Zp b.toNat))) else none
  | _ => none
theorem bits_dNs (s : Nat) : dNs (encL (Zp s)) = some (Zp s) := dNs_encL fun x hx => by have := (mem_bits.1 hx).1; omega
theorem a108 (P : Program) (T : Nat → Option CFn) (hT : T 85 = some c85) (h68 : T 36 = some { c36 with frsh := false, orc := o68 }) (h78 : T 37 = some { c37 with frsh := true, orc := o78 }) (a b : Nat) (ha : a < 1024) (hb : b < 1024) : Zr P T 85 [.int .u64 (a : Nat), .int .u64 (b : Nat)] [] fun v h => frz true h 5 v = some (I (lexC (Zp a) (Zp b))) := by
 have h1 := o68_eq ha
 have h2 := o68_eq hb
 have la := bits_len a
 have lb := bits_len b
 have da := bits_dNs a
 have db := bits_dNs b
 have fa := fun H d => dNs_frz da H d
 have fb := fun H d => dNs_frz db H d
 have e78 : o78 [encL (Zp a), encL (Zp b)] = some (I (lexC (Zp a) (Zp b))) := by
  simp only [o78, da, db]; rw [if_pos (by omega)]
 generalize encL (Zp a) = va at *
 generalize encL (Zp b) = vb at *
 refine Zl hT (Zo rfl) ?_
 simp only [oo, om, op, og, ci, cl, c85]
 have HH1 := zA h68 (zA h78 (zA h1 (zA h2 (zA e78 (zA fa fb)))))
 refine zS ?_
 refine zR (zO (by simp [zC h68, zC h78, HH1]; rfl) ?_)
 simp only [zT, zB]
 refine zS ?_
 refine zR (zO (by simp [zC h68, zC h78, HH1]; rfl) ?_)
 simp only [zT, zB]
 refine Zg ?_
 simp [zC h68, zC h78, HH1]
def DB4 : Nat → Option CFn := upd DB3 85 true (o108)
theorem DB4_ok : ZB Tryz.prog GG DB4 := ZD Zh DB3_ok fun args v ho => by
  unfold o108 at ho; split at ho <;> (try simp only [reduceCtorEq] at ho)
  rename_i a b
  split at ho <;> (try simp only [reduceCtorEq] at ho)
  rename_i hg
  simp only [Option.some.injEq] at ho
  subst ho
  obtain ⟨x, rfl⟩ : ∃ s : Nat, a = s := ⟨a.toNat, by omega⟩
  obtain ⟨y, rfl⟩ : ∃ s : Nat, b = s := ⟨b.toNat, by omega⟩
  exact a108 Tryz.prog DB3 rfl rfl rfl x y (by omega) (by omega)
end
section
attribute [local simp] Yj ZU YP YM XR Xo disj YY holes YZ ZX Xb news eqB Xc eqA YK Xi toCs ofCs stA Yz ZV Yr dI1 dI2 dI3 dI5 elt
attribute [local simp] st_any st_und st_agg st_tup XX st_int XU st_ref st_pv XT st_sl st_vl XV st_mp st_fn XW st_yld co_any co_und co_agg co_tup co_bool co_int co_nilp co_ref co_pv co_nils co_sl co_vl co_nilm co_mp co_fn co_nilf co_yld
attribute [local simp] Ya Zq lim lop Yk posOf putH setH
attribute [local simp] Ya Zq lop Yk
attribute [local simp] Function.comp_def List.all_append List.all_map Ya Zq frzG gather getR lim lop Yk lowA lowR okG putG putR rbB_none rbB_row resG rowAt takeG
attribute [local simp] Ya Zq frzG gather getR lim lop Yk lowA lowR okG putG putR rbB_none rbB_row resG rowAt takeG
attribute [local simp] List.all_append Ya Zq frzG gather getR lim lop Yk lowA lowR okG putG putR rbB_none rbB_row resG rowAt takeG
attribute [local simp] Ya Zq lim lop Yk rbB_row
def dU : List Za → Option Nat
  | [.int .u64 n] => if 0 ≤ n ∧ n < 1024 then some n.toNat else none
  | _ => none
theorem dU_eq (r : List Za) (n : Nat) (h : dU r = some n) : r = rU n := by
  unfold dU at h; split at h <;> (try simp at h)
  rename_i n
  obtain ⟨h1, rfl⟩ := h
  have e1 : ((n.toNat : Nat) : Int) = n := Int.toNat_of_nonneg (by omega)
  simp only [rU, e1]
theorem dU_bd : ∀ {rs : List (List Za)} {l : List Nat}, Zf dU rs = some l → ∀ x ∈ l, x < 1024
  | [], l, h, x, hx => by simp at h; subst h; simp at hx
  | r :: rs, l, h, x, hx => by
    simp only [Zf] at h
    split at h <;> simp at h
    rename_i y ys h1 h2
    subst h
    rcases List.mem_cons.1 hx with rfl | hx
    · unfold dU at h1; split at h1 <;> (try simp at h1)
      obtain ⟨g, rfl⟩ := h1
      omega
    · exact dU_bd h2 x hx
theorem dU_self : ∀ {l : List Nat}, (∀ x ∈ l, x < 1024) → Zf dU (l.map rU) = some l
  | [], _ => rfl
  | x :: l, h => by
    have hx := h x (by simp)
    have ih := dU_self (l := l) fun y hy => h y (List.mem_cons_of_mem _ hy)
    have : dU (rU x) = some x := by simp only [dU, rU]; rw [if_pos (by omega)]; rfl
    simp only [List.map_cons, Zf, this, ih]
def upd0 (T : Nat → Option CFn) (f g : Nat) : Option CFn :=
  if g = f then (match T f with
    | some c => some { c with frsh := false, orc := fun _ => none }
    | none => none)
  else T g
theorem tab_upd0 {P : Program} {G : Nat → Option (List Za)} {T : Nat → Option CFn} (hT : ZB P G T) {f : Nat} : ZB P G (upd0 T f) := by
  intro g cf hg
  unfold upd0 at hg
  split at hg
  · rename_i e
    subst e
    split at hg <;> simp at hg
    rename_i c hc
    subst hg
    obtain ⟨fn, b, h1, h2, h3, h4, h5, h6, h7, h8⟩ := hT g c hc
    exact ⟨fn, b, h1, h2, h3, h4, h5, h6, fun _ _ h => by simp at h, h8⟩
  · exact hT g cf hg
theorem rN_frz (h : Zj) (d : Nat) (l : List Nat) : Zf (Zf (frz false h (d + 1))) (l.map rN) = some (l.map rN) := Zu _ fun r hr => Zu _ fun x hx => by
  obtain ⟨y, _, rfl⟩ := List.mem_map.1 hr
  simp only [rN, List.mem_singleton] at hx
  subst hx; rfl
theorem ldN_le {a b : Nat} (ha : a < 9223372036854775808) : ldN a b ≤ a := by
  unfold ldN
  have h : (BitVec.ofNat 64 a &&& ~~~ BitVec.ofNat 64 b).toNat = (BitVec.ofNat 64 a).toNat &&& (~~~ BitVec.ofNat 64 b).toNat := BitVec.toNat_and _ _
  rw [h, BitVec.toNat_ofNat, Nat.mod_eq_of_lt (by omega)]
  exact Nat.and_le_left
end
section
attribute [local simp] Yj ZU YP YM XR Xo disj YY holes YZ ZX Xb news eqB Xc eqA YK Xi toCs ofCs stA Yz ZV Yr dI1 dI2 dI3 dI5 elt
attribute [local simp] st_any st_und st_agg st_tup XX st_int XU st_ref st_pv XT st_sl st_vl XV st_mp st_fn XW st_yld co_any co_und co_agg co_tup co_bool co_int co_nilp co_ref co_pv co_nils co_sl co_vl co_nilm co_mp co_fn co_nilf co_yld
attribute [local simp] Function.comp_def List.all_append List.all_map Ya Zq frzG gather getR lim lop Yk lowA lowR okG putG putR rbB_none rbB_row resG rowAt takeG
theorem optAll_snoc {α : Type} {f : α → Option α} {l : List α} (h : ∀ x ∈ l, f x = some x) (a : α) : Zf f (l ++ [a]) = match f a with | some b => some (l ++ [b]) | none => none := by
  induction l with
  | nil => simp only [List.nil_append, Zf]; cases f a <;> rfl
  | cons x l ih =>
    have := ih fun y hy => h y (by simp [hy])
    simp only [List.cons_append, Zf, h x (by simp), this]
    cases f a <;> rfl
abbrev It5 := Int × Int × Int × Int × Int
abbrev Rm3 := Int × Int × Int
def rI5 (x : It5) : List Za := [I x.1, I x.2.1, I x.2.2.1, I x.2.2.2.1, I x.2.2.2.2]
def rM3 (x : Rm3) : List Za := [I x.1, I x.2.1, I x.2.2]
def itB (x : It5) : Bool := (YW x.1 x.2.1 && YW x.2.2.1 x.2.2.2.1) && wB 0 500 [x.2.2.2.2]
def rmB (x : Rm3) : Bool := YW x.1 x.2.1 && wB 0 7 [x.2.2]
def o95 : List Za → Option Za
  | [.agg [.int .i64 a, .int .i64 b, .int .i64 c, .int .i64 d, .int .i64 e]] => some (.bool (itB (a, b, c, d, e)))
  | _ => none
def o96 : List Za → Option Za
  | [.agg [.int .i64 a, .int .i64 b, .int .i64 e]] => some (.bool (rmB (a, b, e)))
  | _ => none
def o98 : List Za → Option Za
  | [.agg [.int .i64 a, .int .i64 b, .int .i64 c, .int .i64 d, .int .i64 e], .pv [.fn 48 [] []] 0] => some (.bool (!itB (a, b, c, d, e)))
  | _ => none
def o100 : List Za → Option Za
  | [.agg [.int .i64 a, .int .i64 b, .int .i64 e], .pv [.fn 49 [] []] 0] => some (.bool (!rmB (a, b, e)))
  | _ => none
theorem o55_two (a b c d : Int) (t : Bool) : o55 [.vl [[I a, I b], [I c, I d]] t] = some (.bool (YW a b && YW c d)) := by
  simp [o55, Zm]
theorem o55_one (a b : Int) (t : Bool) : o55 [.vl [[I a, I b]] t] = some (.bool (YW a b)) := by
  simp [o55, Zm]
theorem o56_one (l h a : Int) (t : Bool) : o56 [I l, I h, .vl [[I a]] t] = some (.bool (wB l h [a])) := by
  simp [o56, Zm]
theorem a95 (P : Program) (T : Nat → Option CFn) (hT : T 48 = some c48) (h55 : T 42 = some { c42 with frsh := true, orc := o55 }) (h56 : T 45 = some { c45 with frsh := true, orc := o56 }) (a b c d e : Int) : Zr P T 48 [.agg [I a, I b, I c, I d, I e]] [] fun v h => frz true h 5 v = some (.bool (itB (a, b, c, d, e))) := by
 have e1 := o55_two a b c d
 have e2 := o56_one 0 500 e
 unfold itB
 simp only
 generalize (YW a b && YW c d) = B1 at *
 generalize wB 0 500 [e] = B2 at *
 refine Zl hT (Zo rfl) ?_
 simp only [oo, om, op, og, ci, cl, c48]
 cases B1
 ·refine zS ?_
  refine zR (zO (by simp [zC h55, h55, zC h56, h56, e1, e2]; rfl) ?_)
  simp only [zT, zB]
  refine zS ?_
  refine zR (zO (by simp [zC h55, h55, zC h56, h56, e1, e2]; rfl) ?_)
  simp only [zT, zB]
  refine Zg ?_
  simp [zC h55, h55, zC h56, h56, e1, e2]
 ·cases B2
  ·refine zS ?_
   refine zR (zO (by simp [zC h55, h55, zC h56, h56, e1, e2]; rfl) ?_)
   simp only [zT, zB]
   refine zS ?_
   refine zR (zO (by simp [zC h55, h55, zC h56, h56, e1, e2]; rfl) ?_)
   simp only [zT, zB]
   refine Zg ?_
   simp [zC h55, h55, zC h56, h56, e1, e2]
  ·refine zS ?_
   refine zR (zO (by simp [zC h55, h55, zC h56, h56, e1, e2]; rfl) ?_)
   simp only [zT, zB]
   refine zS ?_
   refine zR (zO (by simp [zC h55, h55, zC h56, h56, e1, e2]; rfl) ?_)
   simp only [zT, zB]
   refine Zg ?_
   simp [zC h55, h55, zC h56, h56, e1, e2]
theorem a96 (P : Program) (T : Nat → Option CFn) (hT : T 49 = some c49) (h55 : T 42 = some { c42 with frsh := true, orc := o55 }) (h56 : T 45 = some { c45 with frsh := true, orc := o56 }) (a b e : Int) : Zr P T 49 [.agg [I a, I b, I e]] [] fun v h => frz true h 5 v = some (.bool (rmB (a, b, e))) := by
 have e1 := o55_one a b
 have e2 := o56_one 0 7 e
 unfold rmB
 simp only
 generalize YW a b = B1 at *
 generalize wB 0 7 [e] = B2 at *
 refine Zl hT (Zo rfl) ?_
 simp only [oo, om, op, og, ci, cl, c49]
 cases B1
 ·refine zS ?_
  refine zR (zO (by simp [zC h55, h55, zC h56, h56, e1, e2]; rfl) ?_)
  simp only [zT, zB]
  refine zS ?_
  refine zR (zO (by simp [zC h55, h55, zC h56, h56, e1, e2]; rfl) ?_)
  simp only [zT, zB]
  refine Zg ?_
  simp [zC h55, h55, zC h56, h56, e1, e2]
 ·cases B2
  ·refine zS ?_
   refine zR (zO (by simp [zC h55, h55, zC h56, h56, e1, e2]; rfl) ?_)
   simp only [zT, zB]
   refine zS ?_
   refine zR (zO (by simp [zC h55, h55, zC h56, h56, e1, e2]; rfl) ?_)
   simp only [zT, zB]
   refine Zg ?_
   simp [zC h55, h55, zC h56, h56, e1, e2]
  ·refine zS ?_
   refine zR (zO (by simp [zC h55, h55, zC h56, h56, e1, e2]; rfl) ?_)
   simp only [zT, zB]
   refine zS ?_
   refine zR (zO (by simp [zC h55, h55, zC h56, h56, e1, e2]; rfl) ?_)
   simp only [zT, zB]
   refine Zg ?_
   simp [zC h55, h55, zC h56, h56, e1, e2]
def DV1 : Nat → Option CFn := upd DB4 48 true (o95)
theorem DV1_ok : ZB Tryz.prog GG DV1 := ZD Zh DB4_ok fun args v ho => by
  unfold o95 at ho; split at ho <;> simp at ho
  rename_i a b c d e
  subst ho
  exact a95 Tryz.prog DB4 rfl rfl rfl a b c d e
def DV2 : Nat → Option CFn := upd DV1 49 true (o96)
theorem DV2_ok : ZB Tryz.prog GG DV2 := ZD Zh DV1_ok fun args v ho => by
  unfold o96 at ho; split at ho <;> simp at ho
  rename_i a b e
  subst ho
  exact a96 Tryz.prog DV1 rfl rfl rfl a b e
theorem a98 (P : Program) (T : Nat → Option CFn) (hT : T 51 = some c51) (h95 : T 48 = some { c48 with frsh := true, orc := o95 }) (a b c d e : Int) : Zr P T 51 [.agg [I a, I b, I c, I d, I e], .pv [.fn 48 [] []] 0] [] fun v h => frz true h 5 v = some (.bool (!itB (a, b, c, d, e))) := by
 refine Zl hT (Zo rfl) ?_
 simp only [oo, om, op, og, ci, cl, c51]
 refine zS ?_
 refine zR (zO (by simp [zC h95, h95, o95]; rfl) ?_)
 simp only [zT, zB]
 refine zS ?_
 refine zR (zO (by simp [zC h95, h95, o95]; rfl) ?_)
 simp only [zT, zB]
 refine Zg ?_
 simp [zC h95, h95, o95]
theorem a100 (P : Program) (T : Nat → Option CFn) (hT : T 53 = some c53) (h96 : T 49 = some { c49 with frsh := true, orc := o96 }) (a b e : Int) : Zr P T 53 [.agg [I a, I b, I e], .pv [.fn 49 [] []] 0] [] fun v h => frz true h 5 v = some (.bool (!rmB (a, b, e))) := by
 refine Zl hT (Zo rfl) ?_
 simp only [oo, om, op, og, ci, cl, c53]
 refine zS ?_
 refine zR (zO (by simp [zC h96, h96, o96]; rfl) ?_)
 simp only [zT, zB]
 refine zS ?_
 refine zR (zO (by simp [zC h96, h96, o96]; rfl) ?_)
 simp only [zT, zB]
 refine Zg ?_
 simp [zC h96, h96, o96]
def DV3 : Nat → Option CFn := upd DV2 51 true (o98)
theorem DV3_ok : ZB Tryz.prog GG DV3 := ZD Zh DV2_ok fun args v ho => by
  unfold o98 at ho; split at ho <;> simp at ho
  rename_i a b c d e
  subst ho
  exact a98 Tryz.prog DV2 rfl rfl a b c d e
def DV4 : Nat → Option CFn := upd DV3 53 true (o100)
theorem DV4_ok : ZB Tryz.prog GG DV4 := ZD Zh DV3_ok fun args v ho => by
  unfold o100 at ho; split at ho <;> simp at ho
  rename_i a b e
  subst ho
  exact a100 Tryz.prog DV3 rfl rfl a b e
theorem a112 (P : Program) (T : Nat → Option CFn) (hT : T 71 = some c71) (x : Za) (rs : List (List Za)) (hx : Zm x = some rs) (g : Nat) (a b : List Za) (r : Int) (hl : rs.length ≤ 1000) (hr : rs.all (fun r => r.length == 5 && r.all isI) = true)
  (hq : idxA (fun r => known T g (a ++ [elt r] ++ b)) 0 rs = some r) : Zr P T 71 [x, .fn g a b] [] fun v h => v = .int .i64 r ∧ h = [] := by
 have lx := Zv hx
 refine Zl hT (Zo rfl) ?_
 simp only [oo, om, op, og, ci, cl, c71]
 refine zS (zR (zO (by simp; rfl) ?_))
 simp only [zT, zB]
 refine zS (zS (zR (zO (by simp [lx, -Zd]; rfl) ?_)))
 simp only [zT, zB]
 refine zL ?_
 refine ZL (fun m σ => ∃ (k : Nat) (i : Int), i = k ∧ m = rs.length - k ∧ k ≤ rs.length ∧ idxA (fun r => known T g (a ++ [elt r] ++ b)) k (rs.drop k) = some r ∧
  σ = ⟨[x, .fn g a b, .any, .any, .any, .any, .any, I rs.length, I i, .any, .any, .any, .any, .any, .any, .any, .any, .any, .any], []⟩) ?_ (rs.length - 0) _ ⟨0, 0, rfl, rfl, Nat.zero_le _, hq, by simp⟩
 rintro m σ ⟨k, i, hik, rfl, hk, hi, rfl⟩
 have h0 : 0 ≤ i := by omega
 have htn : i.toNat = k := by omega
 refine zS (zR (zO (by simp; rfl) ?_))
 simp only [zT, zB]
 refine zS (Zk (x := decide (i < rs.length)) (by simp) (fun hlt => ?_) (fun hge => ?_))
 ·refine zK ?_
  simp only [zT, zB]
  have hlt' : k < rs.length := by have := of_decide_eq_true hlt; omega
  obtain ⟨tt, rfl⟩ := ZG hx hlt'
  have hr1 := List.all_eq_true.1 hr _ (List.getElem_mem hlt')
  simp only [Bool.and_eq_true, beq_iff_eq, List.all_eq_true] at hr1
  obtain ⟨y0, y1, y2, y3, y4, hrk⟩ := ints5 hr1.1 hr1.2
  rw [List.drop_eq_getElem_cons hlt'] at hi
  simp only [idxA] at hi
  refine zS (zL ?_)
  refine zS (zR (zO (by simp; rfl) ?_))
  simp only [zT, zB]
  split at hi
  ·rename_i hb
   simp at hi; rw [← hik] at hi; subst hi
   rw [hrk] at hb; simp only [elt, List.append_assoc, List.cons_append, List.nil_append] at hb
   refine zS (zR (zO (by simp [h0, htn, hlt', hrk, XQ hb]; rfl) ?_))
   simp only [zT, zB]
   refine Zi (x := true) (by simp) ?_
   refine zS (zR (zO (by simp; rfl) ?_))
   simp only [zT, zB]
   refine Zg ?_
   simp
  ·rename_i hb
   rw [hrk] at hb; simp only [elt, List.append_assoc, List.cons_append, List.nil_append] at hb
   refine zS (zR (zO (by simp [h0, htn, hlt', hrk, XQ hb]; rfl) ?_))
   simp only [zT, zB]
   refine Zi (x := false) (by simp) ?_
   refine zK ?_
   simp only [zT, zB]
   refine zR (zO (by simp; rfl) ?_)
   simp only [zT, zB]
   refine ⟨rs.length - (k + 1), by omega, k + 1, i + 1, by omega, rfl, by omega, hi, ?_⟩
   simp [ZH (show -1000000 ≤ i + 1 ∧ i + 1 ≤ 1000000 by omega)]
  ·simp at hi
 ·refine ZI ?_
  simp only [zT, zB, if_true]
  have hke : k = rs.length := by
   have := of_decide_eq_false hge
   omega
  subst hke
  rw [List.drop_length] at hi
  simp [idxA] at hi
  subst hi
  refine zS (zR (zO (by simp; rfl) ?_))
  simp only [zT, zB]
  refine Zg ?_
  simp
theorem a97 (P : Program) (T : Nat → Option CFn) (hT : T 50 = some c50) (hj : T 71 = some c71) (x : Za) (rs : List (List Za)) (hx : Zm x = some rs) (g : Nat) (a b : List Za) (r : Int) (hl : rs.length ≤ 1000) (hr : rs.all (fun r => r.length == 5 && r.all isI) = true)
  (hq : idxA (fun r => known T g (a ++ [elt r] ++ b)) 0 rs = some r) : Zr P T 50 [x, .fn g a b] [] fun v h => v = .bool (decide (0 ≤ r)) ∧ h = [] := by
 refine Zl hT (Zo rfl) ?_
 simp only [oo, om, op, og, ci, cl, c50]
 refine zS (zR (zO (by simp; rfl) ?_))
 simp only [zT, zB]
 refine zS (zR ?_)
 refine Yo 0 (by simp; rfl) (Yo 0 (by simp; rfl) ?_)
 refine ops_call (f := 71) (args := [x, .fn g a b]) (by simp) (by simp) (by simp) (by simp) ?_
 refine (a112 P T hj x rs hx g a b r hl hr hq).mono ?_
 rintro v h' ⟨rfl, rfl⟩
 refine zO (by simp; rfl) ?_
 simp only [zT, zB]
 refine Zg ?_
 simp
theorem a113 (P : Program) (T : Nat → Option CFn) (hT : T 72 = some c72) (x : Za) (rs : List (List Za)) (hx : Zm x = some rs) (g : Nat) (a b : List Za) (r : Int) (hl : rs.length ≤ 1000) (hr : rs.all (fun r => r.length == 3 && r.all isI) = true)
  (hq : idxA (fun r => known T g (a ++ [elt r] ++ b)) 0 rs = some r) : Zr P T 72 [x, .fn g a b] [] fun v h => v = .int .i64 r ∧ h = [] := by
 have lx := Zv hx
 refine Zl hT (Zo rfl) ?_
 simp only [oo, om, op, og, ci, cl, c72]
 refine zS (zR (zO (by simp; rfl) ?_))
 simp only [zT, zB]
 refine zS (zS (zR (zO (by simp [lx, -Zd]; rfl) ?_)))
 simp only [zT, zB]
 refine zL ?_
 refine ZL (fun m σ => ∃ (k : Nat) (i : Int), i = k ∧ m = rs.length - k ∧ k ≤ rs.length ∧ idxA (fun r => known T g (a ++ [elt r] ++ b)) k (rs.drop k) = some r ∧
  σ = ⟨[x, .fn g a b, .any, .any, .any, .any, .any, I rs.length, I i, .any, .any, .any, .any, .any, .any, .any, .any, .any, .any], []⟩) ?_ (rs.length - 0) _ ⟨0, 0, rfl, rfl, Nat.zero_le _, hq, by simp⟩
 rintro m σ ⟨k, i, hik, rfl, hk, hi, rfl⟩
 have h0 : 0 ≤ i := by omega
 have htn : i.toNat = k := by omega
 refine zS (zR (zO (by simp; rfl) ?_))
 simp only [zT, zB]
 refine zS (Zk (x := decide (i < rs.length)) (by simp) (fun hlt => ?_) (fun hge => ?_))
 ·refine zK ?_
  simp only [zT, zB]
  have hlt' : k < rs.length := by have := of_decide_eq_true hlt; omega
  obtain ⟨tt, rfl⟩ := ZG hx hlt'
  have hr1 := List.all_eq_true.1 hr _ (List.getElem_mem hlt')
  simp only [Bool.and_eq_true, beq_iff_eq, List.all_eq_true] at hr1
  obtain ⟨y0, y1, y2, hrk⟩ := ints3 hr1.1 hr1.2
  rw [List.drop_eq_getElem_cons hlt'] at hi
  simp only [idxA] at hi
  refine zS (zL ?_)
  refine zS (zR (zO (by simp; rfl) ?_))
  simp only [zT, zB]
  split at hi
  ·rename_i hb
   simp at hi; rw [← hik] at hi; subst hi
   rw [hrk] at hb; simp only [elt, List.append_assoc, List.cons_append, List.nil_append] at hb
   refine zS (zR (zO (by simp [h0, htn, hlt', hrk, XQ hb]; rfl) ?_))
   simp only [zT, zB]
   refine Zi (x := true) (by simp) ?_
   refine zS (zR (zO (by simp; rfl) ?_))
   simp only [zT, zB]
   refine Zg ?_
   simp
  ·rename_i hb
   rw [hrk] at hb; simp only [elt, List.append_assoc, List.cons_append, List.nil_append] at hb
   refine zS (zR (zO (by simp [h0, htn, hlt', hrk, XQ hb]; rfl) ?_))
   simp only [zT, zB]
   refine Zi (x := false) (by simp) ?_
   refine zK ?_
   simp only [zT, zB]
   refine zR (zO (by simp; rfl) ?_)
   simp only [zT, zB]
   refine ⟨rs.length - (k + 1), by omega, k + 1, i + 1, by omega, rfl, by omega, hi, ?_⟩
   simp [ZH (show -1000000 ≤ i + 1 ∧ i + 1 ≤ 1000000 by omega)]
  ·simp at hi
 ·refine ZI ?_
  simp only [zT, zB, if_true]
  have hke : k = rs.length := by
   have := of_decide_eq_false hge
   omega
  subst hke
  rw [List.drop_length] at hi
  simp [idxA] at hi
  subst hi
  refine zS (zR (zO (by simp; rfl) ?_))
  simp only [zT, zB]
  refine Zg ?_
  simp
theorem a99 (P : Program) (T : Nat → Option CFn) (hT : T 52 = some c52) (hj : T 72 = some c72) (x : Za) (rs : List (List Za)) (hx : Zm x = some rs) (g : Nat) (a b : List Za) (r : Int) (hl : rs.length ≤ 1000) (hr : rs.all (fun r => r.length == 3 && r.all isI) = true)
  (hq : idxA (fun r => known T g (a ++ [elt r] ++ b)) 0 rs = some r) : Zr P T 52 [x, .fn g a b] [] fun v h => v = .bool (decide (0 ≤ r)) ∧ h = [] := by
 refine Zl hT (Zo rfl) ?_
 simp only [oo, om, op, og, ci, cl, c52]
 refine zS (zR (zO (by simp; rfl) ?_))
 simp only [zT, zB]
 refine zS (zR ?_)
 refine Yo 0 (by simp; rfl) (Yo 0 (by simp; rfl) ?_)
 refine ops_call (f := 72) (args := [x, .fn g a b]) (by simp) (by simp) (by simp) (by simp) ?_
 refine (a113 P T hj x rs hx g a b r hl hr hq).mono ?_
 rintro v h' ⟨rfl, rfl⟩
 refine zO (by simp; rfl) ?_
 simp only [zT, zB]
 refine Zg ?_
 simp
def DV5 : Nat → Option CFn := upd DV4 50 true (oCF DV4 5)
theorem DV5_ok : ZB Tryz.prog GG DV5 := ZD Zh DV4_ok fun args v ho => by
  unfold oCF at ho; split at ho <;> (try simp at ho)
  rename_i x g a b
  split at ho <;> (try simp at ho)
  rename_i rs hx
  obtain ⟨⟨hl, hr⟩, ho⟩ := ho
  split at ho <;> simp at ho
  rename_i r hq
  subst ho
  refine (a97 Tryz.prog DV4 rfl rfl x rs hx g a b r hl (by simpa using hr) (by simpa using hq)).mono ?_
  rintro v h ⟨rfl, rfl⟩
  rfl
def DV6 : Nat → Option CFn := upd DV5 52 true (oCF DV5 3)
theorem DV6_ok : ZB Tryz.prog GG DV6 := ZD Zh DV5_ok fun args v ho => by
  unfold oCF at ho; split at ho <;> (try simp at ho)
  rename_i x g a b
  split at ho <;> (try simp at ho)
  rename_i rs hx
  obtain ⟨⟨hl, hr⟩, ho⟩ := ho
  split at ho <;> simp at ho
  rename_i r hq
  subst ho
  refine (a99 Tryz.prog DV5 rfl rfl x rs hx g a b r hl (by simpa using hr) (by simpa using hq)).mono ?_
  rintro v h ⟨rfl, rfl⟩
  rfl
def mayB (u d : Int) (x : It5) (r : Rm3) : Bool := decide (hoursE u d x.1 x.2.1 r.1 r.2.1 x.2.2.1 x.2.2.2.1 = 0) && decide (x.2.2.2.2 ≤ hRun u d x.1 x.2.1 r.1 r.2.1 x.2.2.1 x.2.2.2.1 500 0)
def mayK (u d : Int) (x : It5) (rs : List Rm3) : Nat → Nat
  | 0 => 0
  | k + 1 => if mayB u d x (rs.getD k (0, 0, 0)) = true then mayK u d x rs k ||| 2 ^ k else mayK u d x rs k
theorem mayK_lt (u d : Int) (x : It5) (rs : List Rm3) : ∀ k, mayK u d x rs k < 2 ^ k
  | 0 => by simp [mayK]
  | k + 1 => by
    have := mayK_lt u d x rs k
    simp only [mayK]
    split
    · exact Nat.or_lt_two_pow (Nat.lt_of_lt_of_le this (Nat.pow_le_pow_right (by decide) (by omega))) (Nat.pow_lt_pow_right (by decide) (by omega))
    · rw [Nat.pow_succ]; omega
def mayF (u d : Int) (rs : List Rm3) (x : It5) : Nat := mayK u d x rs rs.length
def mays (u d : Int) (its : List It5) (rs : List Rm3) : List Nat := its.map (mayF u d rs)
def depE (u d : Int) (its : List It5) (rs : List Rm3) : Int :=
  if !ruleB u d then 2 else if decide (7 < (its.length : Int)) || decide (4 < (rs.length : Int)) then 5 else if (its.any fun x => !itB x) || (rs.any fun x => !rmB x) then 4 else 0
def encU (l : List Nat) : Za := if l.isEmpty then .nils else .vl (l.map rU) false
def rJ (n : Int) : List Za := [I n]
def encJ (l : List Int) : Za := if l.isEmpty then .nils else .vl (l.map rJ) false
theorem encU_rows (l : List Nat) : Zm (encU l) = some (l.map rU) := by
  unfold encU; cases l <;> rfl
theorem encJ_rows (l : List Int) : Zm (encJ l) = some (l.map rJ) := by
  unfold encJ; cases l <;> rfl
def depV (u d : Int) (its : List It5) (rs : List Rm3) : Za := if depE u d its rs = 0 then .tup [.pv [encU (mays u d its rs), encJ (rs.map fun r => r.2.2)] 0, I 0] else .tup [.nilp, I (depE u d its rs)]
theorem rU_rb (n d : Nat) (xs : List Nat) : ((xs.map rU).all fun r => r.all (rb n (d + 1))) = true := by simp [rU]
theorem rJ_rb (n d : Nat) (xs : List Int) : ((xs.map rJ).all fun r => r.all (rb n (d + 1))) = true := by simp [rJ]
theorem frN_rU (n : Nat) (h : Zj) (xs : List Nat) : ∀ r ∈ xs.map rU, Zf (frN n h 5) r = some r := fun r hr => by
  obtain ⟨j, _, rfl⟩ := List.mem_map.1 hr; rfl
theorem frN_rJ (n : Nat) (h : Zj) (xs : List Int) : ∀ r ∈ xs.map rJ, Zf (frN n h 5) r = some r := fun r hr => by
  obtain ⟨j, _, rfl⟩ := List.mem_map.1 hr; rfl
theorem frz_rU (h : Zj) (d : Nat) (l : List Nat) : Zf (Zf (frz false h (d + 1))) (l.map rU) = some (l.map rU) := Zu _ fun r hr => Zu _ fun x hx => by
  obtain ⟨y, _, rfl⟩ := List.mem_map.1 hr
  simp only [rU, List.mem_singleton] at hx
  subst hx; rfl
theorem frz_rJ (h : Zj) (d : Nat) (l : List Int) : Zf (Zf (frz false h (d + 1))) (l.map rJ) = some (l.map rJ) := Zu _ fun r hr => Zu _ fun x hx => by
  obtain ⟨y, _, rfl⟩ := List.mem_map.1 hr
  simp only [rJ, List.mem_singleton] at hx
  subst hx; rfl
theorem a75 (P : Program) (T : Nat → Option CFn) (hT : T 28 = some { c28 with body := annK [(7696581395468, [.cell 10 0]), (2166395068749415481073468416, [.cell 10 1])] [] c28.body }) (h21 : T 21 = some { c21 with frsh := true, orc := o21 }) (h57 : T 41 = some { c41 with frsh := true, orc := o57 }) (h97 : T 50 = some { c50 with frsh := true, orc := oCF DV4 5 }) (h99 : T 52 = some { c52 with frsh := true, orc := oCF DV5 3 }) (u d : Int) (x y : Za) (its : List It5) (rs : List Rm3) (hx : Zm x = some (its.map rI5)) (hy : Zm y = some (rs.map rM3)) (hl : its.length ≤ 1000 ∧ rs.length ≤ 1000) : Zr P T 28 [.agg [I u, I d], x, y] [] fun v h => frz false h 5 v = some (depV u d its rs) := by
 have lx := Zv hx
 rw [List.length_map] at lx
 have rx := fun n d => ZF hx n d
 have fx := fun H d => Zw hx H d
 obtain ⟨cx1, cx2⟩ := Zy hx
 have ly := Zv hy
 rw [List.length_map] at ly
 have ry := fun n d => ZF hy n d
 have fy := fun H d => Zw hy H d
 obtain ⟨cy1, cy2⟩ := Zy hy
 have e57 : o57 [.agg [I u, I d]] = some (.bool (ruleB u d)) := rfl
 have e97 : oCF DV4 5 [x, .fn 51 [] [.pv [.fn 48 [] []] 0]] = some (.bool (its.any fun x => !itB x)) := by
  rw [oCF_any (p := fun r => match r with | [.int .i64 a, .int .i64 b, .int .i64 c, .int .i64 d, .int .i64 e] => !itB (a, b, c, d, e) | _ => false) hx (by simpa using hl.1) (by simp [isI, rI5]) (by
   intro r hr
   obtain ⟨n, _, rfl⟩ := List.mem_map.1 hr
   rfl)]
  rw [List.any_map]; rfl
 have e99 : oCF DV5 3 [y, .fn 53 [] [.pv [.fn 49 [] []] 0]] = some (.bool (rs.any fun x => !rmB x)) := by
  rw [oCF_any (p := fun r => match r with | [.int .i64 a, .int .i64 b, .int .i64 e] => !rmB (a, b, e) | _ => false) hy (by simpa using hl.2) (by simp [isI, rM3]) (by
   intro r hr
   obtain ⟨n, _, rfl⟩ := List.mem_map.1 hr
   rfl)]
  rw [List.any_map]; rfl
 have hE : depE u d its rs = if !ruleB u d then 2 else if decide (7 < (its.length : Int)) || decide (4 < (rs.length : Int)) then 5 else if (its.any fun x => !itB x) || (rs.any fun x => !rmB x) then 4 else 0 := rfl
 have hV : depV u d its rs = if depE u d its rs = 0 then .tup [.pv [encU (mays u d its rs), encJ (rs.map fun r => r.2.2)] 0, I 0] else .tup [.nilp, I (depE u d its rs)] := rfl
 rw [hV, hE]
 have e21a : ∀ a b c e f g : Int, o21 [.agg [I u, I d], .agg [I a, I b], .agg [I c, I e], .agg [I f, I g]] = some (.tup [I (if hoursE u d a b c e f g = 0 then hRun u d a b c e f g 500 0 else 0), I (hoursE u d a b c e f g)]) := fun _ _ _ _ _ _ => rfl
 generalize ruleB u d = B1 at *
 generalize (its.any fun x => !itB x) = B4 at *
 generalize (rs.any fun x => !rmB x) = B5 at *
 have hz7 : (7 : Int) < (its.length : Int) ↔ ¬ its.length ≤ 7 := by omega
 have hz4 : (4 : Int) < (rs.length : Int) ↔ ¬ rs.length ≤ 4 := by omega
 refine Zl hT (Zo rfl) ?_
 simp only [oo, om, op, og, ci, cl, c28, annK, lkG, lkR, reduceIte, Nat.reduceEqDiff, reduceCtorEq, List.cons.injEq, and_true, and_false, false_and, true_and]
 cases B1
 ·have HH1 := zA h21 (zA h57 (zA h97 (zA h99 (zA lx (zA rx (zA fx (zA cx1 (zA cx2 (zA ly (zA ry (zA fy (zA cy1 (zA cy2 (zA e57 (zA e97 e99)))))))))))))))
  refine zS ?_
  refine zR (zO (by simp [zC h21, zC h57, zC h97, zC h99, -Zd, HH1]; rfl) ?_)
  simp only [zT, zB]
  refine zS ?_
  refine zR (zO (by simp [zC h21, zC h57, zC h97, zC h99, -Zd, HH1]; rfl) ?_)
  simp only [zT, zB]
  refine zS ?_
  refine zR (zO (by simp [zC h21, zC h57, zC h97, zC h99, -Zd, HH1]; rfl) ?_)
  simp only [zT, zB]
  refine zS ?_
  refine zL ?_
  refine zS ?_
  refine zR (zO (by simp [zC h21, zC h57, zC h97, zC h99, -Zd, HH1]; rfl) ?_)
  simp only [zT, zB]
  refine Zi (x := true) (by simp) ?_
  refine zS ?_
  refine zR (zO (by simp [zC h21, zC h57, zC h97, zC h99, -Zd, HH1]; rfl) ?_)
  simp only [zT, zB]
  refine Zg ?_
  simp [zC h21, zC h57, zC h97, zC h99, -Zd, HH1, trim, frz_nilp]
 ·have HH2 := zA h21 (zA h57 (zA h97 (zA h99 (zA lx (zA rx (zA fx (zA cx1 (zA cx2 (zA ly (zA ry (zA fy (zA cy1 (zA cy2 (zA e57 (zA e97 e99)))))))))))))))
  refine zS ?_
  refine zR (zO (by simp [zC h21, zC h57, zC h97, zC h99, -Zd, HH2]; rfl) ?_)
  simp only [zT, zB]
  refine zS ?_
  refine zR (zO (by simp [zC h21, zC h57, zC h97, zC h99, -Zd, HH2]; rfl) ?_)
  simp only [zT, zB]
  refine zS ?_
  refine zR (zO (by simp [zC h21, zC h57, zC h97, zC h99, -Zd, HH2]; rfl) ?_)
  simp only [zT, zB]
  refine zS ?_
  refine zL ?_
  refine zS ?_
  refine zR (zO (by simp [zC h21, zC h57, zC h97, zC h99, -Zd, HH2]; rfl) ?_)
  simp only [zT, zB]
  refine Zi (x := false) (by simp) ?_
  refine zS ?_
  refine zS ?_
  refine zR (zO (by simp [zC h21, zC h57, zC h97, zC h99, -Zd, HH2]; rfl) ?_)
  simp only [zT, zB]
  by_cases h7 : (7 : Int) < (its.length : Int)
  ·refine Zi (x := true) (by simp <;> omega) ?_
   refine zK ?_
   simp only [zT, zB]
   refine Zi (x := true) (by simp <;> omega) ?_
   refine zS ?_
   refine zR (zO (by simp [zC h21, zC h57, zC h97, zC h99, -Zd, HH2, h7]; rfl) ?_)
   simp only [zT, zB]
   refine Zg ?_
   simp [zC h21, zC h57, zC h97, zC h99, -Zd, HH2, h7, trim, frz_nilp]
  ·refine Zi (x := false) (by simp <;> omega) ?_
   refine zR (zO (by simp [zC h21, zC h57, zC h97, zC h99, -Zd, HH2, h7]; rfl) ?_)
   simp only [zT, zB]
   by_cases h4 : (4 : Int) < (rs.length : Int)
   ·refine Zi (x := true) (by simp <;> omega) ?_
    refine zS ?_
    refine zR (zO (by simp [zC h21, zC h57, zC h97, zC h99, -Zd, HH2, h7, h4]; rfl) ?_)
    simp only [zT, zB]
    refine Zg ?_
    simp [zC h21, zC h57, zC h97, zC h99, -Zd, HH2, h7, h4, trim, frz_nilp]
   ·refine Zi (x := false) (by simp <;> omega) ?_
    refine zS ?_
    refine zS ?_
    refine zR (zO (by simp [zC h21, zC h57, zC h97, zC h99, -Zd, HH2, h7, h4]; rfl) ?_)
    simp only [zT, zB]
    cases B4
    ·refine Zi (x := false) (by simp) ?_
     refine zR (zO (by simp [zC h21, zC h57, zC h97, zC h99, -Zd, HH2, h7, h4]; rfl) ?_)
     simp only [zT, zB]
     cases B5
     ·have hd7 : decide (7 < (its.length : Int)) = false := decide_eq_false h7
      have hd4 : decide (4 < (rs.length : Int)) = false := decide_eq_false h4
      rw [if_pos (by simp only [hd7, hd4]; rfl)]
      refine Zi (x := false) (by simp) ?_
      have hi7 : its.length ≤ 7 := by omega
      have hr4 : rs.length ≤ 4 := by omega
      refine zK ?_
      simp only [zT, zB]
      refine zS ?_
      refine zR (zO (by simp [zC h21, zC h57, zC h97, zC h99, -Zd, HH2, h7, h4]; rfl) ?_)
      simp only [zT, zB]
      refine zS ?_
      refine zS ?_
      refine zR (zO (by simp [zC h21, zC h57, zC h97, zC h99, -Zd, HH2, h7, h4]; rfl) ?_)
      simp only [zT, zB]
      refine zL ?_
      refine runs_loopG_inv (fun mm σ => ∃ (k : Nat) (i : Int), i = k ∧ its.length - k = mm ∧ k ≤ its.length ∧ ((k = 0 ∧ σ = ⟨[.any, .any, y, .ref 0 0 0, .any, .any, .any, .any, .any, .any, .ref 3 0 0, .any, .any, .any, .any, .any, .any, .any, .any, .any, .any, .any, .any, .any, .any, .any, .any, .any, .any, .any, .any, .any, .any, .any, .any, .any, .any, .any, .any, .any, x, I its.length, I i, .any, .any, .any, .any, .any, .any, .any, .any, .any, .any, .any, .any, .any, .any, .any, .any, .any, .any, .any, .any, .any, .any, .any, .any, .any, .any, .any, .any, .any, .any, .any, .any, .any, .any, .any, .any, .any, .any, .any, .any, .any, .any, .any, .any, .any, .any, .any, .any, .any, .any, .any, .any, .any, .any, .any, .any, .any, .any, .any, .any, .any, .any, .any, .any], [some (.row 2 [[I u, I d]]), some (.row 1 [[.fn 48 [] []]]), some (.row 1 [[.fn 49 [] []]]), some (.row 2 [[.nils, .nils]]), none]⟩) ∨ (∃ (p : Nat) (ac : List (Nat)), k = p + 1 ∧ ac = mays u d (its.take (k)) rs ∧ ac.length = p + 1 ∧ σ = ⟨[.any, .any, y, .ref 0 0 0, .any, .any, .any, .any, .any, .any, .ref 3 0 0, .any, .any, .any, .any, .any, .any, .any, .any, .any, .any, .any, .any, .any, .any, .any, .any, .any, .any, .any, .any, .any, .any, .any, .any, .any, .any, .any, .any, .any, x, I its.length, I i, .any, .any, .any, .any, .any, .any, .any, .any, .any, .any, .any, .any, .any, .any, .any, .any, .any, .any, .any, .any, .any, .any, .any, .any, .any, .any, .any, .any, .any, .any, .any, .any, .any, .any, .any, .any, .any, .any, .any, .any, .any, .any, .any, .any, .any, .any, .any, .any, .any, .any, .any, .any, .any, .any, .any, .any, .any, .any, .any, .any, .any, .any, .any, .any], [some (.row 2 [[I u, I d]]), some (.row 1 [[.fn 48 [] []]]), some (.row 1 [[.fn 49 [] []]]), some (.row 2 [[.sl 4 0 (p + 1) false, .nils]]), some (.row 1 (ac.map rU))]⟩))) (by simp [zC h21, zC h57, zC h97, zC h99, -Zd, HH2, h7, h4] <;> first | exact ⟨rfl, rfl⟩ | rfl) (⟨0, 0, rfl, rfl, Nat.zero_le _, .inl ⟨rfl, rfl⟩⟩) ?_
      rintro mm σ ⟨k, i, hik, rfl, hkl, ⟨hkz, rfl⟩ | ⟨p, ac, hkp, hac, hacl, rfl⟩⟩
      ·refine zS ?_
       refine zR (zO (by simp [zC h21, zC h57, zC h97, zC h99, -Zd, HH2, h7, h4]; rfl) ?_)
       simp only [zT, zB]
       refine zS ?_
       refine Zk (x := _) rfl (fun hlt => ?_) (fun hlt => ?_)
       ·have hltt := of_decide_eq_true hlt
        have hk0 : k < its.length := by omega
        have hi0 : 0 ≤ i := by omega
        have htn : i.toNat = k := by omega
        have hwi : W .i64 (i + 1) = i + 1 := ZH (by omega)
        obtain ⟨t1, rfl⟩ := ZG hx (k := k) (by simpa using hk0)
        have g1 : (its.map rI5)[k]? = some (rI5 its[k]) := by rw [List.getElem?_map, List.getElem?_eq_getElem hk0]; rfl
        have g2 : ∀ h, (its.map rI5)[k]'h = rI5 its[k] := fun h => by simp
        have hF : mays u d (its.take (k + 1)) rs = mays u d (its.take k) rs ++ [mayF u d rs its[k]] := by
         unfold mays; rw [List.take_succ_eq_append_getElem hk0, List.map_append]; rfl
        have hmF : mayF u d rs its[k] = mayK u d its[k] rs rs.length := rfl
        generalize its[k] = z at *
        obtain ⟨z1, z2, z3, z4, z5⟩ := z
        have HH3 := zA h7 (zA h4 (zA hi0 (zA htn (zA hk0 (zA hwi (zA g1 g2))))))
        refine zK ?_
        simp only [zT, zB]
        refine zS ?_
        refine zL ?_
        refine zS ?_
        refine zR (zO (by simp [zC h21, zC h57, zC h97, zC h99, -Zd, HH2, rI5, -List.getElem?_map, -List.getElem_map, HH3]; rfl) ?_)
        simp only [zT, zB]
        refine zS ?_
        refine zR (zO (by simp [zC h21, zC h57, zC h97, zC h99, -Zd, HH2, rI5, -List.getElem?_map, -List.getElem_map, HH3]; rfl) ?_)
        simp only [zT, zB]
        refine zS ?_
        refine zS ?_
        refine zR (zO (by simp [zC h21, zC h57, zC h97, zC h99, -Zd, HH2, rI5, -List.getElem?_map, -List.getElem_map, HH3]; rfl) ?_)
        simp only [zT, zB]
        refine zL ?_
        refine ZL (fun n σ => ∃ (j : Nat) (J M : Int), J = j ∧ rs.length - j = n ∧ j ≤ rs.length ∧ M = (mayK u d (z1, z2, z3, z4, z5) rs j : Nat) ∧ σ = ⟨[.any, .any, y, .ref 0 0 0, .any, .any, .any, .any, .any, .any, .ref 3 0 0, .any, .ref 5 0 0, .int .u64 M, .any, .any, .any, .any, .any, .any, .any, .any, .any, .any, .any, .any, .any, .any, .any, .any, .any, .any, .any, .any, .any, .any, .any, .any, .any, .any, .vl (its.map rI5) t1, I its.length, I i, .any, .any, .any, y, I rs.length, I J, .any, .any, .any, .any, .any, .any, .any, .any, .any, .any, .any, .any, .any, .any, .any, .any, .any, .any, .any, .any, .any, .any, .any, .any, .any, .any, .any, .any, .any, .any, .any, .any, .any, .any, .any, .any, .any, .any, .any, .any, .any, .any, .any, .any, .any, .any, .any, .any, .any, .any, .any, .any, .any, .any, .any, .any, .any, .any], [some (.row 2 [[I u, I d]]), some (.row 1 [[.fn 48 [] []]]), some (.row 1 [[.fn 49 [] []]]), some (.row 2 [[.nils, .nils]]), none, some (.row 5 [[I z1, I z2, I z3, I z4, I z5]])]⟩) ?_ (rs.length - 0) _ ⟨0, 0, 0, rfl, rfl, Nat.zero_le _, rfl, by simp⟩
        rintro n σ ⟨j, J, M, hJ, rfl, hjl, hM, rfl⟩
        refine zS ?_
        refine zR (zO (by simp [zC h21, zC h57, zC h97, zC h99, -Zd, HH2, rI5, -List.getElem?_map, -List.getElem_map, HH3]; rfl) ?_)
        simp only [zT, zB]
        refine zS ?_
        refine Zk (x := decide (J < (rs.length : Int))) (by simp) (fun hlj => ?_) (fun hlj => ?_)
        ·have hlj := of_decide_eq_true hlj
         have hj0 : j < rs.length := by omega
         obtain ⟨t2, rfl⟩ := ZG hy (k := j) (by simpa using hj0)
         have hJ0 : 0 ≤ J := by omega
         have htJ : J.toNat = j := by omega
         have hwJ : W .i64 (J + 1) = J + 1 := ZH (by omega)
         have g3 : (rs.map rM3)[j]? = some (rM3 rs[j]) := by rw [List.getElem?_map, List.getElem?_eq_getElem hj0]; rfl
         have g4 : ∀ h, (rs.map rM3)[j]'h = rM3 rs[j] := fun h => by simp
         have hgd : rs.getD j (0, 0, 0) = rs[j] := by simp [List.getD, List.getElem?_eq_getElem hj0]
         have hMs : mayK u d (z1, z2, z3, z4, z5) rs (j + 1) = if mayB u d (z1, z2, z3, z4, z5) rs[j] = true then mayK u d (z1, z2, z3, z4, z5) rs j ||| 2 ^ j else mayK u d (z1, z2, z3, z4, z5) rs j := by rw [← hgd]; rfl
         have hMl := mayK_lt u d (z1, z2, z3, z4, z5) rs j
         have hp4 : 2 ^ j ≤ 16 := Nat.pow_le_pow_right (n := 2) (by decide) (show j ≤ 4 by omega)
         have hsh : shI .shl .u64 1 J = some (.int .u64 ((2 ^ j : Nat) : Int)) := by rw [hJ]; exact shl_one (by omega) .u64 (.inr rfl)
         have hor := or_u (a := mayK u d (z1, z2, z3, z4, z5) rs j) (b := 2 ^ j) (by omega) (by omega)
         rw [← hM] at hor
         generalize rs[j] = r at *
         obtain ⟨r1, r2, r3⟩ := r
         have e21 := e21a z1 z2 r1 r2 z3 z4
         have hmb : mayB u d (z1, z2, z3, z4, z5) (r1, r2, r3) = (decide (hoursE u d z1 z2 r1 r2 z3 z4 = 0) && decide (z5 ≤ hRun u d z1 z2 r1 r2 z3 z4 500 0)) := rfl
         generalize hoursE u d z1 z2 r1 r2 z3 z4 = E at *
         generalize hRun u d z1 z2 r1 r2 z3 z4 500 0 = N at *
         generalize hM2 : ((mayK u d (z1, z2, z3, z4, z5) rs j ||| 2 ^ j : Nat) : Int) = M2 at *
         generalize ((2 ^ j : Nat) : Int) = pj at *
         by_cases hE0 : E = 0
         ·subst hE0
          by_cases hN : z5 ≤ N
          ·rw [if_pos (by rw [hmb]; simp [hN])] at hMs
           have HH4 := zA hJ0 (zA htJ (zA hj0 (zA hwJ (zA g3 (zA g4 (zA e21 hN))))))
           refine zK ?_
           simp only [zT, zB]
           refine zS ?_
           refine zL ?_
           refine zS ?_
           refine zR (zO (by simp [zC h21, zC h57, zC h97, zC h99, -Zd, HH2, rI5, -List.getElem?_map, -List.getElem_map, HH3, rM3, ↓hsh, ↓hor, HH4]; rfl) ?_)
           simp only [zT, zB]
           refine zS ?_
           refine zR (zO (by simp [zC h21, zC h57, zC h97, zC h99, -Zd, HH2, rI5, -List.getElem?_map, -List.getElem_map, HH3, rM3, ↓hsh, ↓hor, HH4]; rfl) ?_)
           simp only [zT, zB]
           refine zS ?_
           refine zR (zO (by simp [zC h21, zC h57, zC h97, zC h99, -Zd, HH2, rI5, -List.getElem?_map, -List.getElem_map, HH3, rM3, ↓hsh, ↓hor, HH4]; rfl) ?_)
           simp only [zT, zB]
           refine Zi (x := true) (by simp) ?_
           refine zR (zO (by simp [zC h21, zC h57, zC h97, zC h99, -Zd, HH2, rI5, -List.getElem?_map, -List.getElem_map, HH3, rM3, ↓hsh, ↓hor, HH4]; rfl) ?_)
           simp only [zT, zB]
           refine zR (zO (by simp [zC h21, zC h57, zC h97, zC h99, -Zd, HH2, rI5, -List.getElem?_map, -List.getElem_map, HH3, rM3, ↓hsh, ↓hor, HH4]; rfl) ?_)
           simp only [zT, zB]
           exact ⟨rs.length - (j + 1), by omega, j + 1, J + 1, M2, by omega, rfl, by omega, by rw [hMs]; exact hM2.symm, by simp [zC h21, zC h57, zC h97, zC h99, -Zd, HH2, rI5, -List.getElem?_map, -List.getElem_map, HH3, rM3, ↓hsh, ↓hor, HH4, trim]⟩
          ·rw [if_neg (by rw [hmb]; simp [hN])] at hMs
           have HH5 := zA hJ0 (zA htJ (zA hj0 (zA hwJ (zA g3 (zA g4 (zA e21 hN))))))
           refine zK ?_
           simp only [zT, zB]
           refine zS ?_
           refine zL ?_
           refine zS ?_
           refine zR (zO (by simp [zC h21, zC h57, zC h97, zC h99, -Zd, HH2, rI5, -List.getElem?_map, -List.getElem_map, HH3, rM3, ↓hsh, ↓hor, HH5]; rfl) ?_)
           simp only [zT, zB]
           refine zS ?_
           refine zR (zO (by simp [zC h21, zC h57, zC h97, zC h99, -Zd, HH2, rI5, -List.getElem?_map, -List.getElem_map, HH3, rM3, ↓hsh, ↓hor, HH5]; rfl) ?_)
           simp only [zT, zB]
           refine zS ?_
           refine zR (zO (by simp [zC h21, zC h57, zC h97, zC h99, -Zd, HH2, rI5, -List.getElem?_map, -List.getElem_map, HH3, rM3, ↓hsh, ↓hor, HH5]; rfl) ?_)
           simp only [zT, zB]
           refine Zi (x := false) (by simp) ?_
           refine zK ?_
           simp only [zT, zB]
           refine zR (zO (by simp [zC h21, zC h57, zC h97, zC h99, -Zd, HH2, rI5, -List.getElem?_map, -List.getElem_map, HH3, rM3, ↓hsh, ↓hor, HH5]; rfl) ?_)
           simp only [zT, zB]
           exact ⟨rs.length - (j + 1), by omega, j + 1, J + 1, M, by omega, rfl, by omega, by rw [hMs]; exact hM, by simp [zC h21, zC h57, zC h97, zC h99, -Zd, HH2, rI5, -List.getElem?_map, -List.getElem_map, HH3, rM3, ↓hsh, ↓hor, HH5, trim]⟩
         ·rw [if_neg (by rw [hmb]; simp [hE0])] at hMs
          have hEb : (E == 0) = false := by simpa using hE0
          have HH6 := zA hJ0 (zA htJ (zA hj0 (zA hwJ (zA g3 (zA g4 (zA e21 (zA hE0 hEb)))))))
          refine zK ?_
          simp only [zT, zB]
          refine zS ?_
          refine zL ?_
          refine zS ?_
          refine zR (zO (by simp [zC h21, zC h57, zC h97, zC h99, -Zd, HH2, rI5, -List.getElem?_map, -List.getElem_map, HH3, rM3, ↓hsh, ↓hor, HH6]; rfl) ?_)
          simp only [zT, zB]
          refine zS ?_
          refine zR (zO (by simp [zC h21, zC h57, zC h97, zC h99, -Zd, HH2, rI5, -List.getElem?_map, -List.getElem_map, HH3, rM3, ↓hsh, ↓hor, HH6]; rfl) ?_)
          simp only [zT, zB]
          refine zS ?_
          refine zR (zO (by simp [zC h21, zC h57, zC h97, zC h99, -Zd, HH2, rI5, -List.getElem?_map, -List.getElem_map, HH3, rM3, ↓hsh, ↓hor, HH6]; rfl) ?_)
          simp only [zT, zB]
          refine Zi (x := false) (by simp) ?_
          refine zK ?_
          simp only [zT, zB]
          refine zR (zO (by simp [zC h21, zC h57, zC h97, zC h99, -Zd, HH2, rI5, -List.getElem?_map, -List.getElem_map, HH3, rM3, ↓hsh, ↓hor, HH6]; rfl) ?_)
          simp only [zT, zB]
          exact ⟨rs.length - (j + 1), by omega, j + 1, J + 1, M, by omega, rfl, by omega, by rw [hMs]; exact hM, by simp [zC h21, zC h57, zC h97, zC h99, -Zd, HH2, rI5, -List.getElem?_map, -List.getElem_map, HH3, rM3, ↓hsh, ↓hor, HH6, trim]⟩
        ·have hlj := of_decide_eq_false hlj
         obtain rfl : j = rs.length := by omega
         rw [← hmF] at hM
         generalize mayF u d rs (z1, z2, z3, z4, z5) = mm1 at *
         subst hM
         have hnx : [mm1] = mays u d (its.take (k + 1)) rs := by rw [hF, hkz]; rfl
         have hap : [[.int .u64 (mm1 : Nat)]] = [mm1].map rU := rfl
         refine ZI ?_
         simp only [zT, zB, if_true, if_false, reduceIte, Nat.reduceEqDiff, Nat.succ_ne_zero, Nat.one_ne_zero, Nat.zero_ne_one]
         refine zR (zO (by simp [zC h21, zC h57, zC h97, zC h99, -Zd, HH2, rI5, -List.getElem?_map, -List.getElem_map, HH3]; rfl) ?_)
         simp only [zT, zB]
         refine zR (zO (by simp [zC h21, zC h57, zC h97, zC h99, -Zd, HH2, rI5, -List.getElem?_map, -List.getElem_map, HH3]; rfl) ?_)
         simp only [zT, zB]
         exact ⟨its.length - (k + 1), _, _, by omega, by simp [zC h21, zC h57, zC h97, zC h99, -Zd, HH2, rI5, -List.getElem?_map, -List.getElem_map, HH3] <;> first | exact ⟨rfl, rfl⟩ | rfl, k + 1, i + 1, by omega, rfl, by omega, .inr ⟨0, [mm1], by omega, hnx, rfl, rfl⟩⟩
       ·have hx := of_decide_eq_false hlt
        have hkE : k = its.length := by omega
        have hTk : its.take its.length = its := List.take_length
        refine ZI ?_
        simp only [zT, zB, if_true, if_false, reduceIte, Nat.reduceEqDiff, Nat.succ_ne_zero, Nat.one_ne_zero, Nat.zero_ne_one]
        refine zS ?_
        refine zS ?_
        refine zR (zO (by simp [zC h21, zC h57, zC h97, zC h99, -Zd, HH2, h7, h4]; rfl) ?_)
        simp only [zT, zB]
        refine zL ?_
        refine runs_loopG_inv (fun mmb σ => ∃ (kb : Nat) (ib : Int), ib = kb ∧ rs.length - kb = mmb ∧ kb ≤ rs.length ∧ ((kb = 0 ∧ σ = ⟨[.any, .any, .any, .any, .any, .any, .any, .any, .any, .any, .ref 3 0 0, .any, .any, .any, .any, .any, .any, .any, .any, .any, .any, .any, .any, .any, .any, .any, .any, .any, .any, .any, .any, .any, .any, .any, .any, .any, .any, .any, .any, .any, .any, .any, .any, .any, .any, .any, .any, .any, .any, .any, .any, .any, .any, .any, .any, .any, .any, .any, .any, .any, .any, .any, .any, .any, .any, .any, .any, .any, .any, .any, .any, .any, .any, .any, .any, .any, .any, .any, .any, .any, .any, .any, .any, .any, .any, .any, .any, .any, y, I rs.length, I ib, .any, .any, .any, .any, .any, .any, .any, .any, .any, .any, .any, .any, .any, .any, .any, .any], [some (.row 2 [[I u, I d]]), some (.row 1 [[.fn 48 [] []]]), some (.row 1 [[.fn 49 [] []]]), some (.row 2 [[.nils, .nils]]), none, none]⟩) ∨ (∃ (pb : Nat) (acb : List (Int)), kb = pb + 1 ∧ acb = ((rs.take (kb)).map fun r => r.2.2) ∧ acb.length = pb + 1 ∧ σ = ⟨[.any, .any, .any, .any, .any, .any, .any, .any, .any, .any, .ref 3 0 0, .any, .any, .any, .any, .any, .any, .any, .any, .any, .any, .any, .any, .any, .any, .any, .any, .any, .any, .any, .any, .any, .any, .any, .any, .any, .any, .any, .any, .any, .any, .any, .any, .any, .any, .any, .any, .any, .any, .any, .any, .any, .any, .any, .any, .any, .any, .any, .any, .any, .any, .any, .any, .any, .any, .any, .any, .any, .any, .any, .any, .any, .any, .any, .any, .any, .any, .any, .any, .any, .any, .any, .any, .any, .any, .any, .any, .any, y, I rs.length, I ib, .any, .any, .any, .any, .any, .any, .any, .any, .any, .any, .any, .any, .any, .any, .any, .any], [some (.row 2 [[I u, I d]]), some (.row 1 [[.fn 48 [] []]]), some (.row 1 [[.fn 49 [] []]]), some (.row 2 [[.nils, .sl 5 0 (pb + 1) false]]), none, some (.row 1 (acb.map rJ))]⟩))) (by simp [zC h21, zC h57, zC h97, zC h99, -Zd, HH2, h7, h4] <;> first | exact ⟨rfl, rfl⟩ | rfl) (⟨0, 0, rfl, rfl, Nat.zero_le _, .inl ⟨rfl, rfl⟩⟩) ?_
        rintro mmb σ ⟨kb, ib, hikb, rfl, hklb, ⟨hkzb, rfl⟩ | ⟨pb, acb, hkpb, hacb, haclb, rfl⟩⟩
        ·refine zS ?_
         refine zR (zO (by simp [zC h21, zC h57, zC h97, zC h99, -Zd, HH2, h7, h4]; rfl) ?_)
         simp only [zT, zB]
         refine zS ?_
         refine Zk (x := _) rfl (fun hltb => ?_) (fun hltb => ?_)
         ·have hlttb := of_decide_eq_true hltb
          have hk0b : kb < rs.length := by omega
          have hi0b : 0 ≤ ib := by omega
          have htnb : ib.toNat = kb := by omega
          have hwib : W .i64 (ib + 1) = ib + 1 := ZH (by omega)
          obtain ⟨t2, rfl⟩ := ZG hy (k := kb) (by simpa using hk0b)
          have g3 : (rs.map rM3)[kb]? = some (rM3 rs[kb]) := by rw [List.getElem?_map, List.getElem?_eq_getElem hk0b]; rfl
          have g4 : ∀ h, (rs.map rM3)[kb]'h = rM3 rs[kb] := fun h => by simp
          have hFb : (rs.take (kb + 1)).map (fun r => r.2.2) = (rs.take kb).map (fun r => r.2.2) ++ [rs[kb].2.2] := by
           rw [List.take_succ_eq_append_getElem hk0b, List.map_append]; rfl
          generalize rs[kb] = r at *
          obtain ⟨r1, r2, r3⟩ := r
          simp only at hFb
          have hnxb : [r3] = ((rs.take (kb + 1)).map fun r => r.2.2) := by rw [hFb, hkzb]; rfl
          have hapb : [[I r3]] = [r3].map rJ := rfl
          have HH7 := zA h7 (zA h4 (zA hi0b (zA htnb (zA hk0b (zA hwib (zA g3 g4))))))
          refine zK ?_
          simp only [zT, zB]
          refine zS ?_
          refine zL ?_
          refine zS ?_
          refine zR (zO (by simp [zC h21, zC h57, zC h97, zC h99, -Zd, HH2, rM3, -List.getElem?_map, -List.getElem_map, HH7]; rfl) ?_)
          simp only [zT, zB]
          refine Yd (by simp (maxSteps := 3000000) [zC h21, zC h57, zC h97, zC h99, -Zd, HH2, rM3, -List.getElem?_map, -List.getElem_map, HH7]; rfl) ?_
          simp only [zT, zB]
          refine zR (zO (by simp [zC h21, zC h57, zC h97, zC h99, -Zd, HH2, rM3, -List.getElem?_map, -List.getElem_map, HH7]; rfl) ?_)
          simp only [zT, zB]
          exact ⟨rs.length - (kb + 1), _, _, by omega, by simp [zC h21, zC h57, zC h97, zC h99, -Zd, HH2, rM3, -List.getElem?_map, -List.getElem_map, HH7] <;> first | exact ⟨rfl, rfl⟩ | rfl, kb + 1, ib + 1, by omega, rfl, by omega, .inr ⟨0, [r3], by omega, hnxb, rfl, rfl⟩⟩
         ·have hxb := of_decide_eq_false hltb
          have hkEb : kb = rs.length := by omega
          have hTk2 : rs.take rs.length = rs := List.take_length
          rw [show mays u d its rs = [] by have h0 : its = [] := List.length_eq_zero_iff.1 (by omega); rw [h0]; rfl, show (rs.map fun r => r.2.2) = [] by have h0 : rs = [] := List.length_eq_zero_iff.1 (by omega); rw [h0]; rfl]
          refine ZI ?_
          simp only [zT, zB, if_true, if_false, reduceIte, Nat.reduceEqDiff, Nat.succ_ne_zero, Nat.one_ne_zero, Nat.zero_ne_one]
          refine zS ?_
          refine zR (zO (by simp [zC h21, zC h57, zC h97, zC h99, -Zd, HH2, h7, h4]; rfl) ?_)
          simp only [zT, zB]
          refine Zg ?_
          simp [zC h21, zC h57, zC h97, zC h99, -Zd, HH2, h7, h4, trim, encU, encJ]
        ·have tkb : (acb.map rJ).take (pb + 1) = acb.map rJ := List.take_of_length_le (by simp [haclb])
         have hlacb : pb + 1 + 1 ≤ 1048576 := by omega
         have hr3b : ∀ e : Int, (rJ e).length = 1 := fun _ => rfl
         have hfrb := fun n h r => optAll_snoc (frN_rJ n h acb) r
         have hrjb := fun n => rJ_rb n 4 acb
         have HH8 := zA h7 (zA h4 (zA tkb (zA hlacb (zA haclb hr3b))))
         refine zS ?_
         refine zR (zO (by simp [zC h21, zC h57, zC h97, zC h99, -Zd, HH2, ↓hfrb, ↓hrjb, HH8]; rfl) ?_)
         simp only [zT, zB]
         refine zS ?_
         refine Zk (x := _) rfl (fun hltb => ?_) (fun hltb => ?_)
         ·have hlttb := of_decide_eq_true hltb
          have hk0b : kb < rs.length := by omega
          have hi0b : 0 ≤ ib := by omega
          have htnb : ib.toNat = kb := by omega
          have hwib : W .i64 (ib + 1) = ib + 1 := ZH (by omega)
          obtain ⟨t2, rfl⟩ := ZG hy (k := kb) (by simpa using hk0b)
          have g3 : (rs.map rM3)[kb]? = some (rM3 rs[kb]) := by rw [List.getElem?_map, List.getElem?_eq_getElem hk0b]; rfl
          have g4 : ∀ h, (rs.map rM3)[kb]'h = rM3 rs[kb] := fun h => by simp
          have hFb : (rs.take (kb + 1)).map (fun r => r.2.2) = (rs.take kb).map (fun r => r.2.2) ++ [rs[kb].2.2] := by
           rw [List.take_succ_eq_append_getElem hk0b, List.map_append]; rfl
          generalize rs[kb] = r at *
          obtain ⟨r1, r2, r3⟩ := r
          simp only at hFb
          have hnxb : acb ++ [r3] = ((rs.take (kb + 1)).map fun r => r.2.2) := by rw [hFb, ← hacb]
          have hnlb : (acb ++ [r3]).length = pb + 1 + 1 := by simp [haclb]
          have hapb : acb.map rJ ++ [[I r3]] = (acb ++ [r3]).map rJ := by rw [List.map_append]; rfl
          generalize acb ++ [r3] = nxb at *
          have hrxb := fun n => rJ_rb n 4 nxb
          have HH9 := zA hi0b (zA htnb (zA hk0b (zA hwib (zA g3 (zA g4 hapb)))))
          refine zK ?_
          simp only [zT, zB]
          refine zS ?_
          refine zL ?_
          refine zS ?_
          refine zR (zO (by simp [zC h21, zC h57, zC h97, zC h99, -Zd, HH2, ↓hfrb, ↓hrjb, HH8, rM3, -List.getElem?_map, -List.getElem_map, ↓hrxb, HH9]; rfl) ?_)
          simp only [zT, zB]
          refine Yd (by simp (maxSteps := 3000000) [zC h21, zC h57, zC h97, zC h99, -Zd, HH2, ↓hfrb, ↓hrjb, HH8, rM3, -List.getElem?_map, -List.getElem_map, ↓hrxb, HH9]; rfl) ?_
          simp only [zT, zB]
          refine zR (zO (by simp [zC h21, zC h57, zC h97, zC h99, -Zd, HH2, ↓hfrb, ↓hrjb, HH8, rM3, -List.getElem?_map, -List.getElem_map, ↓hrxb, HH9]; rfl) ?_)
          simp only [zT, zB]
          exact ⟨rs.length - (kb + 1), _, _, by omega, by simp [zC h21, zC h57, zC h97, zC h99, -Zd, HH2, ↓hfrb, ↓hrjb, HH8, rM3, -List.getElem?_map, -List.getElem_map, ↓hrxb, HH9] <;> first | exact ⟨rfl, rfl⟩ | rfl, kb + 1, ib + 1, by omega, rfl, by omega, .inr ⟨pb + 1, nxb, by omega, hnxb, hnlb, rfl⟩⟩
         ·have hxb := of_decide_eq_false hltb
          have hkEb : kb = rs.length := by omega
          rw [hkEb] at hacb
          have hTk2 : rs.take rs.length = rs := List.take_length
          rw [hTk2] at hacb
          rw [show mays u d its rs = [] by have h0 : its = [] := List.length_eq_zero_iff.1 (by omega); rw [h0]; rfl, ← hacb]
          have hieb : acb.isEmpty = false := by cases acb with
          | nil => simp at haclb
          | cons y l => rfl
          have hfzb := fun H d => frz_rJ H d acb
          refine ZI ?_
          simp only [zT, zB, if_true, if_false, reduceIte, Nat.reduceEqDiff, Nat.succ_ne_zero, Nat.one_ne_zero, Nat.zero_ne_one]
          refine zS ?_
          refine zR (zO (by simp [zC h21, zC h57, zC h97, zC h99, -Zd, HH2, ↓hfrb, ↓hrjb, HH8]; rfl) ?_)
          simp only [zT, zB]
          refine Zg ?_
          simp [zC h21, zC h57, zC h97, zC h99, -Zd, HH2, ↓hfrb, ↓hrjb, HH8, trim, encU, encJ, hieb, ↓hfzb]
      ·have tk : (ac.map rU).take (p + 1) = ac.map rU := List.take_of_length_le (by simp [hacl])
       have hlac : p + 1 + 1 ≤ 1048576 := by omega
       have hr3 : ∀ e : Nat, (rU e).length = 1 := fun _ => rfl
       have hfr := fun n h r => optAll_snoc (frN_rU n h ac) r
       have hrj := fun n => rU_rb n 4 ac
       have HH10 := zA h7 (zA h4 (zA tk (zA hlac (zA hacl hr3))))
       refine zS ?_
       refine zR (zO (by simp [zC h21, zC h57, zC h97, zC h99, -Zd, HH2, ↓hfr, ↓hrj, HH10]; rfl) ?_)
       simp only [zT, zB]
       refine zS ?_
       refine Zk (x := _) rfl (fun hlt => ?_) (fun hlt => ?_)
       ·have hltt := of_decide_eq_true hlt
        have hk0 : k < its.length := by omega
        have hi0 : 0 ≤ i := by omega
        have htn : i.toNat = k := by omega
        have hwi : W .i64 (i + 1) = i + 1 := ZH (by omega)
        obtain ⟨t1, rfl⟩ := ZG hx (k := k) (by simpa using hk0)
        have g1 : (its.map rI5)[k]? = some (rI5 its[k]) := by rw [List.getElem?_map, List.getElem?_eq_getElem hk0]; rfl
        have g2 : ∀ h, (its.map rI5)[k]'h = rI5 its[k] := fun h => by simp
        have hF : mays u d (its.take (k + 1)) rs = mays u d (its.take k) rs ++ [mayF u d rs its[k]] := by
         unfold mays; rw [List.take_succ_eq_append_getElem hk0, List.map_append]; rfl
        have hmF : mayF u d rs its[k] = mayK u d its[k] rs rs.length := rfl
        generalize its[k] = z at *
        obtain ⟨z1, z2, z3, z4, z5⟩ := z
        have HH11 := zA hi0 (zA htn (zA hk0 (zA hwi (zA g1 g2))))
        refine zK ?_
        simp only [zT, zB]
        refine zS ?_
        refine zL ?_
        refine zS ?_
        refine zR (zO (by simp [zC h21, zC h57, zC h97, zC h99, -Zd, HH2, ↓hfr, ↓hrj, HH10, rI5, -List.getElem?_map, -List.getElem_map, HH11]; rfl) ?_)
        simp only [zT, zB]
        refine zS ?_
        refine zR (zO (by simp [zC h21, zC h57, zC h97, zC h99, -Zd, HH2, ↓hfr, ↓hrj, HH10, rI5, -List.getElem?_map, -List.getElem_map, HH11]; rfl) ?_)
        simp only [zT, zB]
        refine zS ?_
        refine zS ?_
        refine zR (zO (by simp [zC h21, zC h57, zC h97, zC h99, -Zd, HH2, ↓hfr, ↓hrj, HH10, rI5, -List.getElem?_map, -List.getElem_map, HH11]; rfl) ?_)
        simp only [zT, zB]
        refine zL ?_
        refine ZL (fun n σ => ∃ (j : Nat) (J M : Int), J = j ∧ rs.length - j = n ∧ j ≤ rs.length ∧ M = (mayK u d (z1, z2, z3, z4, z5) rs j : Nat) ∧ σ = ⟨[.any, .any, y, .ref 0 0 0, .any, .any, .any, .any, .any, .any, .ref 3 0 0, .any, .ref 5 0 0, .int .u64 M, .any, .any, .any, .any, .any, .any, .any, .any, .any, .any, .any, .any, .any, .any, .any, .any, .any, .any, .any, .any, .any, .any, .any, .any, .any, .any, .vl (its.map rI5) t1, I its.length, I i, .any, .any, .any, y, I rs.length, I J, .any, .any, .any, .any, .any, .any, .any, .any, .any, .any, .any, .any, .any, .any, .any, .any, .any, .any, .any, .any, .any, .any, .any, .any, .any, .any, .any, .any, .any, .any, .any, .any, .any, .any, .any, .any, .any, .any, .any, .any, .any, .any, .any, .any, .any, .any, .any, .any, .any, .any, .any, .any, .any, .any, .any, .any, .any, .any], [some (.row 2 [[I u, I d]]), some (.row 1 [[.fn 48 [] []]]), some (.row 1 [[.fn 49 [] []]]), some (.row 2 [[.sl 4 0 (p + 1) false, .nils]]), some (.row 1 (ac.map rU)), some (.row 5 [[I z1, I z2, I z3, I z4, I z5]])]⟩) ?_ (rs.length - 0) _ ⟨0, 0, 0, rfl, rfl, Nat.zero_le _, rfl, by simp⟩
        rintro n σ ⟨j, J, M, hJ, rfl, hjl, hM, rfl⟩
        refine zS ?_
        refine zR (zO (by simp [zC h21, zC h57, zC h97, zC h99, -Zd, HH2, ↓hfr, ↓hrj, HH10, rI5, -List.getElem?_map, -List.getElem_map, HH11]; rfl) ?_)
        simp only [zT, zB]
        refine zS ?_
        refine Zk (x := decide (J < (rs.length : Int))) (by simp) (fun hlj => ?_) (fun hlj => ?_)
        ·have hlj := of_decide_eq_true hlj
         have hj0 : j < rs.length := by omega
         obtain ⟨t2, rfl⟩ := ZG hy (k := j) (by simpa using hj0)
         have hJ0 : 0 ≤ J := by omega
         have htJ : J.toNat = j := by omega
         have hwJ : W .i64 (J + 1) = J + 1 := ZH (by omega)
         have g3 : (rs.map rM3)[j]? = some (rM3 rs[j]) := by rw [List.getElem?_map, List.getElem?_eq_getElem hj0]; rfl
         have g4 : ∀ h, (rs.map rM3)[j]'h = rM3 rs[j] := fun h => by simp
         have hgd : rs.getD j (0, 0, 0) = rs[j] := by simp [List.getD, List.getElem?_eq_getElem hj0]
         have hMs : mayK u d (z1, z2, z3, z4, z5) rs (j + 1) = if mayB u d (z1, z2, z3, z4, z5) rs[j] = true then mayK u d (z1, z2, z3, z4, z5) rs j ||| 2 ^ j else mayK u d (z1, z2, z3, z4, z5) rs j := by rw [← hgd]; rfl
         have hMl := mayK_lt u d (z1, z2, z3, z4, z5) rs j
         have hp4 : 2 ^ j ≤ 16 := Nat.pow_le_pow_right (n := 2) (by decide) (show j ≤ 4 by omega)
         have hsh : shI .shl .u64 1 J = some (.int .u64 ((2 ^ j : Nat) : Int)) := by rw [hJ]; exact shl_one (by omega) .u64 (.inr rfl)
         have hor := or_u (a := mayK u d (z1, z2, z3, z4, z5) rs j) (b := 2 ^ j) (by omega) (by omega)
         rw [← hM] at hor
         generalize rs[j] = r at *
         obtain ⟨r1, r2, r3⟩ := r
         have e21 := e21a z1 z2 r1 r2 z3 z4
         have hmb : mayB u d (z1, z2, z3, z4, z5) (r1, r2, r3) = (decide (hoursE u d z1 z2 r1 r2 z3 z4 = 0) && decide (z5 ≤ hRun u d z1 z2 r1 r2 z3 z4 500 0)) := rfl
         generalize hoursE u d z1 z2 r1 r2 z3 z4 = E at *
         generalize hRun u d z1 z2 r1 r2 z3 z4 500 0 = N at *
         generalize hM2 : ((mayK u d (z1, z2, z3, z4, z5) rs j ||| 2 ^ j : Nat) : Int) = M2 at *
         generalize ((2 ^ j : Nat) : Int) = pj at *
         by_cases hE0 : E = 0
         ·subst hE0
          by_cases hN : z5 ≤ N
          ·rw [if_pos (by rw [hmb]; simp [hN])] at hMs
           have HH12 := zA hJ0 (zA htJ (zA hj0 (zA hwJ (zA g3 (zA g4 (zA e21 hN))))))
           refine zK ?_
           simp only [zT, zB]
           refine zS ?_
           refine zL ?_
           refine zS ?_
           refine zR (zO (by simp [zC h21, zC h57, zC h97, zC h99, -Zd, HH2, ↓hfr, ↓hrj, HH10, rI5, -List.getElem?_map, -List.getElem_map, HH11, rM3, ↓hsh, ↓hor, HH12]; rfl) ?_)
           simp only [zT, zB]
           refine zS ?_
           refine zR (zO (by simp [zC h21, zC h57, zC h97, zC h99, -Zd, HH2, ↓hfr, ↓hrj, HH10, rI5, -List.getElem?_map, -List.getElem_map, HH11, rM3, ↓hsh, ↓hor, HH12]; rfl) ?_)
           simp only [zT, zB]
           refine zS ?_
           refine zR (zO (by simp [zC h21, zC h57, zC h97, zC h99, -Zd, HH2, ↓hfr, ↓hrj, HH10, rI5, -List.getElem?_map, -List.getElem_map, HH11, rM3, ↓hsh, ↓hor, HH12]; rfl) ?_)
           simp only [zT, zB]
           refine Zi (x := true) (by simp) ?_
           refine zR (zO (by simp [zC h21, zC h57, zC h97, zC h99, -Zd, HH2, ↓hfr, ↓hrj, HH10, rI5, -List.getElem?_map, -List.getElem_map, HH11, rM3, ↓hsh, ↓hor, HH12]; rfl) ?_)
           simp only [zT, zB]
           refine zR (zO (by simp [zC h21, zC h57, zC h97, zC h99, -Zd, HH2, ↓hfr, ↓hrj, HH10, rI5, -List.getElem?_map, -List.getElem_map, HH11, rM3, ↓hsh, ↓hor, HH12]; rfl) ?_)
           simp only [zT, zB]
           exact ⟨rs.length - (j + 1), by omega, j + 1, J + 1, M2, by omega, rfl, by omega, by rw [hMs]; exact hM2.symm, by simp [zC h21, zC h57, zC h97, zC h99, -Zd, HH2, ↓hfr, ↓hrj, HH10, rI5, -List.getElem?_map, -List.getElem_map, HH11, rM3, ↓hsh, ↓hor, HH12, trim]⟩
          ·rw [if_neg (by rw [hmb]; simp [hN])] at hMs
           have HH13 := zA hJ0 (zA htJ (zA hj0 (zA hwJ (zA g3 (zA g4 (zA e21 hN))))))
           refine zK ?_
           simp only [zT, zB]
           refine zS ?_
           refine zL ?_
           refine zS ?_
           refine zR (zO (by simp [zC h21, zC h57, zC h97, zC h99, -Zd, HH2, ↓hfr, ↓hrj, HH10, rI5, -List.getElem?_map, -List.getElem_map, HH11, rM3, ↓hsh, ↓hor, HH13]; rfl) ?_)
           simp only [zT, zB]
           refine zS ?_
           refine zR (zO (by simp [zC h21, zC h57, zC h97, zC h99, -Zd, HH2, ↓hfr, ↓hrj, HH10, rI5, -List.getElem?_map, -List.getElem_map, HH11, rM3, ↓hsh, ↓hor, HH13]; rfl) ?_)
           simp only [zT, zB]
           refine zS ?_
           refine zR (zO (by simp [zC h21, zC h57, zC h97, zC h99, -Zd, HH2, ↓hfr, ↓hrj, HH10, rI5, -List.getElem?_map, -List.getElem_map, HH11, rM3, ↓hsh, ↓hor, HH13]; rfl) ?_)
           simp only [zT, zB]
           refine Zi (x := false) (by simp) ?_
           refine zK ?_
           simp only [zT, zB]
           refine zR (zO (by simp [zC h21, zC h57, zC h97, zC h99, -Zd, HH2, ↓hfr, ↓hrj, HH10, rI5, -List.getElem?_map, -List.getElem_map, HH11, rM3, ↓hsh, ↓hor, HH13]; rfl) ?_)
           simp only [zT, zB]
           exact ⟨rs.length - (j + 1), by omega, j + 1, J + 1, M, by omega, rfl, by omega, by rw [hMs]; exact hM, by simp [zC h21, zC h57, zC h97, zC h99, -Zd, HH2, ↓hfr, ↓hrj, HH10, rI5, -List.getElem?_map, -List.getElem_map, HH11, rM3, ↓hsh, ↓hor, HH13, trim]⟩
         ·rw [if_neg (by rw [hmb]; simp [hE0])] at hMs
          have hEb : (E == 0) = false := by simpa using hE0
          have HH14 := zA hJ0 (zA htJ (zA hj0 (zA hwJ (zA g3 (zA g4 (zA e21 (zA hE0 hEb)))))))
          refine zK ?_
          simp only [zT, zB]
          refine zS ?_
          refine zL ?_
          refine zS ?_
          refine zR (zO (by simp [zC h21, zC h57, zC h97, zC h99, -Zd, HH2, ↓hfr, ↓hrj, HH10, rI5, -List.getElem?_map, -List.getElem_map, HH11, rM3, ↓hsh, ↓hor, HH14]; rfl) ?_)
          simp only [zT, zB]
          refine zS ?_
          refine zR (zO (by simp [zC h21, zC h57, zC h97, zC h99, -Zd, HH2, ↓hfr, ↓hrj, HH10, rI5, -List.getElem?_map, -List.getElem_map, HH11, rM3, ↓hsh, ↓hor, HH14]; rfl) ?_)
          simp only [zT, zB]
          refine zS ?_
          refine zR (zO (by simp [zC h21, zC h57, zC h97, zC h99, -Zd, HH2, ↓hfr, ↓hrj, HH10, rI5, -List.getElem?_map, -List.getElem_map, HH11, rM3, ↓hsh, ↓hor, HH14]; rfl) ?_)
          simp only [zT, zB]
          refine Zi (x := false) (by simp) ?_
          refine zK ?_
          simp only [zT, zB]
          refine zR (zO (by simp [zC h21, zC h57, zC h97, zC h99, -Zd, HH2, ↓hfr, ↓hrj, HH10, rI5, -List.getElem?_map, -List.getElem_map, HH11, rM3, ↓hsh, ↓hor, HH14]; rfl) ?_)
          simp only [zT, zB]
          exact ⟨rs.length - (j + 1), by omega, j + 1, J + 1, M, by omega, rfl, by omega, by rw [hMs]; exact hM, by simp [zC h21, zC h57, zC h97, zC h99, -Zd, HH2, ↓hfr, ↓hrj, HH10, rI5, -List.getElem?_map, -List.getElem_map, HH11, rM3, ↓hsh, ↓hor, HH14, trim]⟩
        ·have hlj := of_decide_eq_false hlj
         obtain rfl : j = rs.length := by omega
         rw [← hmF] at hM
         generalize mayF u d rs (z1, z2, z3, z4, z5) = mm1 at *
         subst hM
         have hnx : ac ++ [mm1] = mays u d (its.take (k + 1)) rs := by rw [hF, ← hac]
         have hnl : (ac ++ [mm1]).length = p + 1 + 1 := by simp [hacl]
         have hap : ac.map rU ++ [[.int .u64 (mm1 : Nat)]] = (ac ++ [mm1]).map rU := by rw [List.map_append]; rfl
         generalize ac ++ [mm1] = nx at *
         have hrx := fun n => rU_rb n 4 nx
         refine ZI ?_
         simp only [zT, zB, if_true, if_false, reduceIte, Nat.reduceEqDiff, Nat.succ_ne_zero, Nat.one_ne_zero, Nat.zero_ne_one]
         refine zR (zO (by simp [zC h21, zC h57, zC h97, zC h99, -Zd, HH2, ↓hfr, ↓hrj, HH10, rI5, -List.getElem?_map, -List.getElem_map, HH11, hap, ↓hrx]; rfl) ?_)
         simp only [zT, zB]
         refine zR (zO (by simp [zC h21, zC h57, zC h97, zC h99, -Zd, HH2, ↓hfr, ↓hrj, HH10, rI5, -List.getElem?_map, -List.getElem_map, HH11, hap, ↓hrx]; rfl) ?_)
         simp only [zT, zB]
         exact ⟨its.length - (k + 1), _, _, by omega, by simp [zC h21, zC h57, zC h97, zC h99, -Zd, HH2, ↓hfr, ↓hrj, HH10, rI5, -List.getElem?_map, -List.getElem_map, HH11, hap, ↓hrx] <;> first | exact ⟨rfl, rfl⟩ | rfl, k + 1, i + 1, by omega, rfl, by omega, .inr ⟨p + 1, nx, by omega, hnx, hnl, rfl⟩⟩
       ·have hx := of_decide_eq_false hlt
        have hkE : k = its.length := by omega
        rw [hkE] at hac
        have hTk : its.take its.length = its := List.take_length
        rw [hTk] at hac
        refine ZI ?_
        simp only [zT, zB, if_true, if_false, reduceIte, Nat.reduceEqDiff, Nat.succ_ne_zero, Nat.one_ne_zero, Nat.zero_ne_one]
        refine zS ?_
        refine zS ?_
        refine zR (zO (by simp [zC h21, zC h57, zC h97, zC h99, -Zd, HH2, ↓hfr, ↓hrj, HH10]; rfl) ?_)
        simp only [zT, zB]
        refine zL ?_
        refine runs_loopG_inv (fun mmb σ => ∃ (kb : Nat) (ib : Int), ib = kb ∧ rs.length - kb = mmb ∧ kb ≤ rs.length ∧ ((kb = 0 ∧ σ = ⟨[.any, .any, .any, .any, .any, .any, .any, .any, .any, .any, .ref 3 0 0, .any, .any, .any, .any, .any, .any, .any, .any, .any, .any, .any, .any, .any, .any, .any, .any, .any, .any, .any, .any, .any, .any, .any, .any, .any, .any, .any, .any, .any, .any, .any, .any, .any, .any, .any, .any, .any, .any, .any, .any, .any, .any, .any, .any, .any, .any, .any, .any, .any, .any, .any, .any, .any, .any, .any, .any, .any, .any, .any, .any, .any, .any, .any, .any, .any, .any, .any, .any, .any, .any, .any, .any, .any, .any, .any, .any, .any, y, I rs.length, I ib, .any, .any, .any, .any, .any, .any, .any, .any, .any, .any, .any, .any, .any, .any, .any, .any], [some (.row 2 [[I u, I d]]), some (.row 1 [[.fn 48 [] []]]), some (.row 1 [[.fn 49 [] []]]), some (.row 2 [[.sl 4 0 (p + 1) false, .nils]]), some (.row 1 (ac.map rU)), none]⟩) ∨ (∃ (pb : Nat) (acb : List (Int)), kb = pb + 1 ∧ acb = ((rs.take (kb)).map fun r => r.2.2) ∧ acb.length = pb + 1 ∧ σ = ⟨[.any, .any, .any, .any, .any, .any, .any, .any, .any, .any, .ref 3 0 0, .any, .any, .any, .any, .any, .any, .any, .any, .any, .any, .any, .any, .any, .any, .any, .any, .any, .any, .any, .any, .any, .any, .any, .any, .any, .any, .any, .any, .any, .any, .any, .any, .any, .any, .any, .any, .any, .any, .any, .any, .any, .any, .any, .any, .any, .any, .any, .any, .any, .any, .any, .any, .any, .any, .any, .any, .any, .any, .any, .any, .any, .any, .any, .any, .any, .any, .any, .any, .any, .any, .any, .any, .any, .any, .any, .any, .any, y, I rs.length, I ib, .any, .any, .any, .any, .any, .any, .any, .any, .any, .any, .any, .any, .any, .any, .any, .any], [some (.row 2 [[I u, I d]]), some (.row 1 [[.fn 48 [] []]]), some (.row 1 [[.fn 49 [] []]]), some (.row 2 [[.sl 4 0 (p + 1) false, .sl 5 0 (pb + 1) false]]), some (.row 1 (ac.map rU)), some (.row 1 (acb.map rJ))]⟩))) (by simp [zC h21, zC h57, zC h97, zC h99, -Zd, HH2, ↓hfr, ↓hrj, HH10] <;> first | exact ⟨rfl, rfl⟩ | rfl) (⟨0, 0, rfl, rfl, Nat.zero_le _, .inl ⟨rfl, rfl⟩⟩) ?_
        rintro mmb σ ⟨kb, ib, hikb, rfl, hklb, ⟨hkzb, rfl⟩ | ⟨pb, acb, hkpb, hacb, haclb, rfl⟩⟩
        ·refine zS ?_
         refine zR (zO (by simp [zC h21, zC h57, zC h97, zC h99, -Zd, HH2, ↓hfr, ↓hrj, HH10]; rfl) ?_)
         simp only [zT, zB]
         refine zS ?_
         refine Zk (x := _) rfl (fun hltb => ?_) (fun hltb => ?_)
         ·have hlttb := of_decide_eq_true hltb
          have hk0b : kb < rs.length := by omega
          have hi0b : 0 ≤ ib := by omega
          have htnb : ib.toNat = kb := by omega
          have hwib : W .i64 (ib + 1) = ib + 1 := ZH (by omega)
          obtain ⟨t2, rfl⟩ := ZG hy (k := kb) (by simpa using hk0b)
          have g3 : (rs.map rM3)[kb]? = some (rM3 rs[kb]) := by rw [List.getElem?_map, List.getElem?_eq_getElem hk0b]; rfl
          have g4 : ∀ h, (rs.map rM3)[kb]'h = rM3 rs[kb] := fun h => by simp
          have hFb : (rs.take (kb + 1)).map (fun r => r.2.2) = (rs.take kb).map (fun r => r.2.2) ++ [rs[kb].2.2] := by
           rw [List.take_succ_eq_append_getElem hk0b, List.map_append]; rfl
          generalize rs[kb] = r at *
          obtain ⟨r1, r2, r3⟩ := r
          simp only at hFb
          have hnxb : [r3] = ((rs.take (kb + 1)).map fun r => r.2.2) := by rw [hFb, hkzb]; rfl
          have hapb : [[I r3]] = [r3].map rJ := rfl
          have HH15 := zA hi0b (zA htnb (zA hk0b (zA hwib (zA g3 g4))))
          refine zK ?_
          simp only [zT, zB]
          refine zS ?_
          refine zL ?_
          refine zS ?_
          refine zR (zO (by simp [zC h21, zC h57, zC h97, zC h99, -Zd, HH2, ↓hfr, ↓hrj, HH10, rM3, -List.getElem?_map, -List.getElem_map, HH15]; rfl) ?_)
          simp only [zT, zB]
          refine Yd (by simp (maxSteps := 3000000) [zC h21, zC h57, zC h97, zC h99, -Zd, HH2, ↓hfr, ↓hrj, HH10, rM3, -List.getElem?_map, -List.getElem_map, HH15]; rfl) ?_
          simp only [zT, zB]
          refine zR (zO (by simp [zC h21, zC h57, zC h97, zC h99, -Zd, HH2, ↓hfr, ↓hrj, HH10, rM3, -List.getElem?_map, -List.getElem_map, HH15]; rfl) ?_)
          simp only [zT, zB]
          exact ⟨rs.length - (kb + 1), _, _, by omega, by simp [zC h21, zC h57, zC h97, zC h99, -Zd, HH2, ↓hfr, ↓hrj, HH10, rM3, -List.getElem?_map, -List.getElem_map, HH15] <;> first | exact ⟨rfl, rfl⟩ | rfl, kb + 1, ib + 1, by omega, rfl, by omega, .inr ⟨0, [r3], by omega, hnxb, rfl, rfl⟩⟩
         ·have hxb := of_decide_eq_false hltb
          have hkEb : kb = rs.length := by omega
          have hTk2 : rs.take rs.length = rs := List.take_length
          rw [← hac, show (rs.map fun r => r.2.2) = [] by have h0 : rs = [] := List.length_eq_zero_iff.1 (by omega); rw [h0]; rfl]
          have hie : ac.isEmpty = false := by cases ac with
          | nil => simp at hacl
          | cons y l => rfl
          have hfz := fun H d => frz_rU H d ac
          refine ZI ?_
          simp only [zT, zB, if_true, if_false, reduceIte, Nat.reduceEqDiff, Nat.succ_ne_zero, Nat.one_ne_zero, Nat.zero_ne_one]
          refine zS ?_
          refine zR (zO (by simp [zC h21, zC h57, zC h97, zC h99, -Zd, HH2, ↓hfr, ↓hrj, HH10]; rfl) ?_)
          simp only [zT, zB]
          refine Zg ?_
          simp [zC h21, zC h57, zC h97, zC h99, -Zd, HH2, ↓hfr, ↓hrj, HH10, trim, encU, encJ, hie, ↓hfz]
        ·have tkb : (acb.map rJ).take (pb + 1) = acb.map rJ := List.take_of_length_le (by simp [haclb])
         have hlacb : pb + 1 + 1 ≤ 1048576 := by omega
         have hr3b : ∀ e : Int, (rJ e).length = 1 := fun _ => rfl
         have hfrb := fun n h r => optAll_snoc (frN_rJ n h acb) r
         have hrjb := fun n => rJ_rb n 4 acb
         refine zS ?_
         refine zR (zO (by simp [zC h21, zC h57, zC h97, zC h99, -Zd, HH2, ↓hfr, ↓hrj, HH10, tkb, hlacb, haclb, hr3b, ↓hfrb, ↓hrjb]; rfl) ?_)
         simp only [zT, zB]
         refine zS ?_
         refine Zk (x := _) rfl (fun hltb => ?_) (fun hltb => ?_)
         ·have hlttb := of_decide_eq_true hltb
          have hk0b : kb < rs.length := by omega
          have hi0b : 0 ≤ ib := by omega
          have htnb : ib.toNat = kb := by omega
          have hwib : W .i64 (ib + 1) = ib + 1 := ZH (by omega)
          obtain ⟨t2, rfl⟩ := ZG hy (k := kb) (by simpa using hk0b)
          have g3 : (rs.map rM3)[kb]? = some (rM3 rs[kb]) := by rw [List.getElem?_map, List.getElem?_eq_getElem hk0b]; rfl
          have g4 : ∀ h, (rs.map rM3)[kb]'h = rM3 rs[kb] := fun h => by simp
          have hFb : (rs.take (kb + 1)).map (fun r => r.2.2) = (rs.take kb).map (fun r => r.2.2) ++ [rs[kb].2.2] := by
           rw [List.take_succ_eq_append_getElem hk0b, List.map_append]; rfl
          generalize rs[kb] = r at *
          obtain ⟨r1, r2, r3⟩ := r
          simp only at hFb
          have hnxb : acb ++ [r3] = ((rs.take (kb + 1)).map fun r => r.2.2) := by rw [hFb, ← hacb]
          have hnlb : (acb ++ [r3]).length = pb + 1 + 1 := by simp [haclb]
          have hapb : acb.map rJ ++ [[I r3]] = (acb ++ [r3]).map rJ := by rw [List.map_append]; rfl
          generalize acb ++ [r3] = nxb at *
          have hrxb := fun n => rJ_rb n 4 nxb
          have HH16 := zA tkb (zA hlacb (zA haclb (zA hr3b (zA hi0b (zA htnb (zA hk0b (zA hwib (zA g3 (zA g4 hapb)))))))))
          have HH17 := zA hfr (zA hrj (zA hfrb (zA hrjb hrxb)))
          refine zK ?_
          simp only [zT, zB]
          refine zS ?_
          refine zL ?_
          refine zS ?_
          refine zR (zO (by simp [zC h21, zC h57, zC h97, zC h99, -Zd, HH2, HH10, rM3, -List.getElem?_map, -List.getElem_map, HH16, ↓HH17]; rfl) ?_)
          simp only [zT, zB]
          refine Yd (by simp (maxSteps := 3000000) [zC h21, zC h57, zC h97, zC h99, -Zd, HH2, HH10, rM3, -List.getElem?_map, -List.getElem_map, HH16, ↓HH17]; rfl) ?_
          simp only [zT, zB]
          refine zR (zO (by simp [zC h21, zC h57, zC h97, zC h99, -Zd, HH2, HH10, rM3, -List.getElem?_map, -List.getElem_map, HH16, ↓HH17]; rfl) ?_)
          simp only [zT, zB]
          exact ⟨rs.length - (kb + 1), _, _, by omega, by simp [zC h21, zC h57, zC h97, zC h99, -Zd, HH2, HH10, rM3, -List.getElem?_map, -List.getElem_map, HH16, ↓HH17] <;> first | exact ⟨rfl, rfl⟩ | rfl, kb + 1, ib + 1, by omega, rfl, by omega, .inr ⟨pb + 1, nxb, by omega, hnxb, hnlb, rfl⟩⟩
         ·have hxb := of_decide_eq_false hltb
          have hkEb : kb = rs.length := by omega
          rw [hkEb] at hacb
          have hTk2 : rs.take rs.length = rs := List.take_length
          rw [hTk2] at hacb
          rw [← hac, ← hacb]
          have hie : ac.isEmpty = false := by cases ac with
          | nil => simp at hacl
          | cons y l => rfl
          have hfz := fun H d => frz_rU H d ac
          have hieb : acb.isEmpty = false := by cases acb with
          | nil => simp at haclb
          | cons y l => rfl
          have hfzb := fun H d => frz_rJ H d acb
          refine ZI ?_
          simp only [zT, zB, if_true, if_false, reduceIte, Nat.reduceEqDiff, Nat.succ_ne_zero, Nat.one_ne_zero, Nat.zero_ne_one]
          refine zS ?_
          refine zR (zO (by simp [zC h21, zC h57, zC h97, zC h99, -Zd, HH2, ↓hfr, ↓hrj, HH10, tkb, hlacb, haclb, hr3b, ↓hfrb, ↓hrjb]; rfl) ?_)
          simp only [zT, zB]
          refine Zg ?_
          simp [zC h21, zC h57, zC h97, zC h99, -Zd, HH2, ↓hfr, ↓hrj, HH10, tkb, hlacb, haclb, hr3b, ↓hfrb, ↓hrjb, trim, encU, encJ, hie, ↓hfz, hieb, ↓hfzb]
     ·refine Zi (x := true) (by simp) ?_
      refine zS ?_
      refine zR (zO (by simp [zC h21, zC h57, zC h97, zC h99, -Zd, HH2, h7, h4]; rfl) ?_)
      simp only [zT, zB]
      refine Zg ?_
      simp [zC h21, zC h57, zC h97, zC h99, -Zd, HH2, h7, h4, trim, frz_nilp]
    ·refine Zi (x := true) (by simp) ?_
     refine zK ?_
     simp only [zT, zB]
     refine Zi (x := true) (by simp) ?_
     refine zS ?_
     refine zR (zO (by simp [zC h21, zC h57, zC h97, zC h99, -Zd, HH2, h7, h4]; rfl) ?_)
     simp only [zT, zB]
     refine Zg ?_
     simp [zC h21, zC h57, zC h97, zC h99, -Zd, HH2, h7, h4, trim, frz_nilp]
def dI5' : List Za → Option It5
  | [.int .i64 a, .int .i64 b, .int .i64 c, .int .i64 d, .int .i64 e] => some (a, b, c, d, e)
  | _ => none
def dM3 : List Za → Option Rm3
  | [.int .i64 a, .int .i64 b, .int .i64 e] => some (a, b, e)
  | _ => none
theorem dI5'_eq (r : List Za) (x : It5) (h : dI5' r = some x) : r = rI5 x := by
  unfold dI5' at h; split at h <;> simp at h
  subst h; rfl
theorem dM3_eq (r : List Za) (x : Rm3) (h : dM3 r = some x) : r = rM3 x := by
  unfold dM3 at h; split at h <;> simp at h
  subst h; rfl
def o75 : List Za → Option Za
  | [.agg [.int .i64 u, .int .i64 d], x, y] => match Zm x, Zm y with
    | some r, some s => match Zf dI5' r, Zf dM3 s with
      | some its, some rs => if its.length ≤ 1000 ∧ rs.length ≤ 1000 then some (depV u d its rs) else none
      | _, _ => none
    | _, _ => none
  | _ => none
theorem o75_eq {x y : Za} {its : List It5} {rs : List Rm3} (hx : Zm x = some (its.map rI5)) (hy : Zm y = some (rs.map rM3)) (hl : its.length ≤ 1000 ∧ rs.length ≤ 1000) (u d : Int) : o75 [.agg [I u, I d], x, y] = some (depV u d its rs) := by
  have h1 := YB (d := dI5') (enc := rI5) (fun _ => rfl) its
  have h2 := YB (d := dM3) (enc := rM3) (fun _ => rfl) rs
  simp only [o75, hx, hy, h1, h2]; rw [if_pos hl]
def DV7 : Nat → Option CFn := updG DV6 28 [(7696581395468, [.cell 10 0]), (2166395068749415481073468416, [.cell 10 1])] []
theorem DV7_ok : ZB Tryz.prog GG DV7 := tab_updG DV6_ok
def DV8 : Nat → Option CFn := upd DV7 28 false (o75)
theorem DV8_ok : ZB Tryz.prog GG DV8 := ZD Zh DV7_ok fun args v ho => by
  unfold o75 at ho; split at ho <;> (try simp only [reduceCtorEq] at ho)
  rename_i u d x y
  split at ho <;> (try simp only [reduceCtorEq] at ho)
  rename_i r s hx hy
  split at ho <;> (try simp only [reduceCtorEq] at ho)
  rename_i its rs hr hs
  split at ho <;> (try simp only [reduceCtorEq] at ho)
  rename_i hg
  simp only [Option.some.injEq] at ho
  subst ho
  exact a75 Tryz.prog DV7 rfl rfl rfl rfl rfl u d x y its rs (by rw [hx, ZY (enc := rI5) dI5'_eq hr]) (by rw [hy, ZY (enc := rM3) dM3_eq hs]) hg
end
end
end Go.Proofs.YtpebmjeomlgmdaaGreatDoor.Tab
namespace Go.Proofs.YtpebmjeomlgmdaaGreatDoor.Tab
open Go Go.Abs Go.Proofs
set_option maxRecDepth 100000
set_option maxHeartbeats 4000000
set_option linter.unusedSimpArgs false
set_option linter.unusedVariables false
section
attribute [local simp] Yv Ye XB XC YD YJ XD YL Xh YC Zf orcF Xv YV Xx Xt YU YA rb_vl rb_pv Xr YT YS YR Xw Xs Xu XZ rb_fn slE XP Xk Yp ZQ XG List.range_succ List.range_zero List.range'_succ List.range'_zero Yi Yg ZK Yl ZR ZT Xm Yf dop CV.ev Ys ZA ZM Xa fI_eq Yt Yc ZN Zz Out.v Xy List.replicate_succ zT zB arI ZO Abs.rowAt Xq allV toV toC ofV ofC Builtin.min_ Builtin.min2 Builtin.max_ Builtin.max2 Xz XA resA XS Xj Yh Yx Yy Yw Zd
section
attribute [local simp] Yj ZU YP YM XR Xo disj YY holes YZ ZX Xb news eqB Xc eqA YK Xi toCs ofCs stA Yz ZV Yr dI1 dI2 dI3 dI5 elt
attribute [local simp] st_any st_und st_agg st_tup XX st_int XU st_ref st_pv XT st_sl st_vl XV st_mp st_fn XW st_yld co_any co_und co_agg co_tup co_bool co_int co_nilp co_ref co_pv co_nils co_sl co_vl co_nilm co_mp co_fn co_nilf co_yld
attribute [local simp] Ya Zq lop Yk rbB_none rbB_row
def needL (ms : List Nat) (R : Nat) (l : List Nat) : Nat := (l.filter fun i => subN (ms.getD i 0) R).length
def hasL (pl : List Int) : List Nat → Int
  | [] => 0
  | k :: l => pl.getD k 0 + hasL pl l
def YX (ms : List Nat) (s : Nat) (pl : List Int) : Bool := (List.range (2 ^ pl.length)).all fun R => decide ((needL ms R (Zp s) : Int) ≤ hasL pl (Zp R))
theorem needL_cons (ms : List Nat) (R i : Nat) (l : List Nat) : needL ms R (i :: l) = needL ms R l + if subN (ms.getD i 0) R = true then 1 else 0 := by
  unfold needL
  simp only [List.filter_cons]
  split <;> simp
theorem needL_len (ms : List Nat) (R : Nat) (l : List Nat) : needL ms R l ≤ l.length := List.length_filter_le _ _
theorem pl_bd {pl : List Int} (h : ∀ x ∈ pl, 0 ≤ x ∧ x ≤ 1000) (k : Nat) : 0 ≤ pl.getD k 0 ∧ pl.getD k 0 ≤ 1000 := by
  rw [List.getD_eq_getElem?_getD]
  cases e : pl[k]? with
  | none => simp
  | some x => exact h x (List.mem_of_getElem? e)
theorem hasL_bd {pl : List Int} (h : ∀ x ∈ pl, 0 ≤ x ∧ x ≤ 1000) : ∀ l : List Nat, 0 ≤ hasL pl l ∧ hasL pl l ≤ 1000 * l.length
  | [] => by simp [hasL]
  | k :: l => by
    have := hasL_bd h l
    have := pl_bd h k
    simp only [hasL, List.length_cons]; omega
theorem ldN_zeroI {a b : Nat} (ha : a < 9223372036854775808) (hb : b < 9223372036854775808) : (((ldN a b : Nat) : Int) == 0) = subN a b := by
  rw [← ldN_zero ha hb, Bool.eq_iff_iff, beq_iff_eq, beq_iff_eq]; omega
def asg77a : CC := (.reg [⟨(some 10), (.mv (.t 20)), none, []⟩])
def bd77a : CC := (.block 3 (.seq (.drw [⟨(some 21), (.ld (.t 3)), none, []⟩, ⟨(some 22), (.chk (.t 21)), none, []⟩, ⟨(some 23), (.fa 0 (.t 22)), none, []⟩, ⟨(some 24), (.ld (.t 23)), none, []⟩, ⟨(some 25), (.mv (.t 10)), none, [0, 1, 2, 3]⟩, ⟨(some 26), (.ias 1 (.t 24) (.t 25)), none, []⟩, ⟨(some 27), (.ld (.t 26)), none, []⟩, ⟨(some 28), (.ld (.t 7)), none, [0, 1, 2, 3, 4, 5, 6]⟩, ⟨(some 29), (.ar .andNot (.t 27) (.t 28)), none, []⟩, ⟨(some 30), (.ar .eql (.t 29) (.c (.int .u64 (0)))), none, []⟩]) (.cond (.t 30) (.reg [⟨(some 31), (.ld (.t 8)), none, []⟩, ⟨(some 32), (.ar .add (.t 31) (.c (.int .i64 (1)))), none, []⟩, ⟨none, (.st 1 (.t 8) (.t 32)), none, []⟩]) .skip)))
def r77a (s : Nat) (Ri M : Int) : List Za := [.any, .int .u64 (s : Nat), .any, .ref 0 0 0, .any, .ref 1 0 0, .bool false, .ref 2 0 0, .ref 3 0 0, .ref 4 0 0, .any, .any, .any, .any, .int .u64 M, .int .u64 Ri, .bool (decide (Ri < M)), .int .u64 Ri, .int .u64 (s : Nat), .fn 31 [.int .u64 (s : Nat)] [], .und, .any, .any, .any, .any, .any, .any, .any, .any, .any, .any, .any, .any, .any, .any, .und, .any, .any, .any, .any, .any, .any, .any, .any, .any, .any]
theorem y77a (P : Program) (T : Nat → Option CFn) (mv pv0 plv : Za) (ms : List Nat) (pl : List Int) (hm : Zm mv = some (ms.map rU)) (hp : Zm plv = some (pl.map rJ)) (hml : ms.length ≤ 10) (hmb : ∀ x ∈ ms, x < 1024) (hpl : pl.length ≤ 10) (hpb : ∀ x ∈ pl, 0 ≤ x ∧ x ≤ 1000) (hpv : ∀ n d, rb n (d + 1) pv0 = true) (s R i : Nat) (Ri M : Int) (hRi : Ri = (R : Int)) (hR : R < 1024) (nd hs : Int) (hi : i < ms.length) (hnd : 0 ≤ nd ∧ nd ≤ 1000) :
    Ylds P T 5 [I (i : Nat)] [some (.row 1 [[.pv [mv, pv0] 0]]), some (.row 1 [[plv]]), some (.row 1 [[.int .u64 Ri]]), some (.row 1 [[I nd]]), some (.row 1 [[I hs]]), some (.loop (r77a s Ri M) [20] asg77a bd77a .ready none)] fun v h' => v = .bool true ∧ h' = [some (.row 1 [[.pv [mv, pv0] 0]]), some (.row 1 [[plv]]), some (.row 1 [[.int .u64 Ri]]), some (.row 1 [[I (nd + if subN (ms.getD i 0) R = true then 1 else 0)]]), some (.row 1 [[I hs]]), some (.loop (r77a s Ri M) [20] asg77a bd77a .ready none)] := by
  have lm := Zv hm
  rw [List.length_map] at lm
  have rm := fun n d => ZF hm n d
  have fm := fun H d => Zw hm H d
  obtain ⟨cm1, cm2⟩ := Zy hm
  have lp := Zv hp
  rw [List.length_map] at lp
  have rp := fun n d => ZF hp n d
  have fp := fun H d => Zw hp H d
  obtain ⟨cp1, cp2⟩ := Zy hp
  obtain ⟨tm, rfl⟩ := ZG hm (k := i) (by rw [List.length_map]; omega)
  have hg : (ms.map rU)[i]? = some (rU ms[i]) := by rw [List.getElem?_map, List.getElem?_eq_getElem hi]; rfl
  have hg2 : ∀ h, (ms.map rU)[i]'h = rU ms[i] := fun h => by simp
  have hgd : ms.getD i 0 = ms[i] := by simp [List.getD, List.getElem?_eq_getElem hi]
  have hmx := hmb _ (List.getElem_mem hi)
  rw [hgd]
  generalize ms[i] = x at *
  have ho := not_u (a := x) (b := R)
  rw [← hRi] at ho
  have hz := ldN_zeroI (a := x) (b := R) (by omega) (by omega)
  have hwn : W .i64 (nd + 1) = nd + 1 := ZH (by omega)
  generalize subN x R = B at *
  generalize ((ldN x R : Nat) : Int) = zz at *
  refine ylds_of rfl rfl ?_
  show Runs P T (some 5) asg77a ⟨(r77a s Ri M).set 20 (I (i : Nat)), [some (.row 1 [[.pv [.vl (ms.map rU) tm, pv0] 0]]), some (.row 1 [[plv]]), some (.row 1 [[.int .u64 Ri]]), some (.row 1 [[I nd]]), some (.row 1 [[I hs]]), some (.loop (r77a s Ri M) [20] asg77a bd77a .ready none)]⟩ _
  unfold asg77a r77a
  refine zR (zO (by simp; rfl) ?_)
  refine ⟨rfl, _, _, _, _, _, rfl, ?_⟩
  unfold bd77a
  have HH1 := And.intro hg (And.intro hg2 (And.intro hi (And.intro hz (And.intro hwn (And.intro lm (And.intro rm (And.intro fm (And.intro cm1 (And.intro cm2 (And.intro lp (And.intro rp (And.intro fp (And.intro cp1 cp2)))))))))))))
  refine zL ?_
  refine zS ?_
  refine Yd (by simp (maxSteps := 3000000) [YG, rU, ↓ho, -List.getElem?_map, -List.getElem_map, HH1]; rfl) ?_
  simp only [zT, zB]
  cases B
  · refine Zi (x := false) (by simp) ?_
    refine zK ?_
    simp only [zT, zB]
    exact ⟨_, _, _, _, _, _, rfl, trivial, by simp [trim, YG, r77a, hg, hg2, hi, rU, ↓ho, hz, hwn, -List.getElem?_map, -List.getElem_map, lm, rm, fm, cm1, cm2, lp, rp, fp, cp1, cp2]⟩
  · refine Zi (x := true) (by simp) ?_
    refine zR (zO (by simp [YG, rU, ↓ho, -List.getElem?_map, -List.getElem_map, HH1]; rfl) ?_)
    simp only [zT, zB]
    exact ⟨_, _, _, _, _, _, rfl, trivial, by simp [trim, YG, r77a, hg, hg2, hi, rU, ↓ho, hz, hwn, -List.getElem?_map, -List.getElem_map, lm, rm, fm, cm1, cm2, lp, rp, fp, cp1, cp2]⟩
def asg77b : CC := (.reg [⟨(some 11), (.mv (.t 35)), none, []⟩])
def bd77b : CC := (.block 5 (.drw [⟨(some 36), (.ld (.t 9)), none, []⟩, ⟨(some 37), (.ld (.t 5)), none, [0]⟩, ⟨(some 38), (.mv (.t 11)), none, [0, 1]⟩, ⟨(some 39), (.ias 1 (.t 37) (.t 38)), none, [0]⟩, ⟨(some 40), (.ld (.t 39)), none, [0]⟩, ⟨(some 41), (.ar .add (.t 36) (.t 40)), none, []⟩, ⟨none, (.st 1 (.t 9) (.t 41)), none, []⟩]))
def r77b (s : Nat) (Ri M : Int) : List Za := [.any, .int .u64 (s : Nat), .any, .ref 0 0 0, .any, .ref 1 0 0, .bool false, .ref 2 0 0, .ref 3 0 0, .ref 4 0 0, .any, .any, .any, .any, .int .u64 M, .int .u64 Ri, .bool (decide (Ri < M)), .int .u64 Ri, .int .u64 (s : Nat), .fn 31 [.int .u64 (s : Nat)] [], .und, .any, .any, .any, .any, .any, .any, .any, .any, .any, .any, .any, .any, .int .u64 Ri, .fn 31 [.int .u64 Ri] [], .und, .any, .any, .any, .any, .any, .any, .any, .any, .any, .any]
theorem y77b (P : Program) (T : Nat → Option CFn) (mv pv0 plv : Za) (ms : List Nat) (pl : List Int) (hm : Zm mv = some (ms.map rU)) (hp : Zm plv = some (pl.map rJ)) (hml : ms.length ≤ 10) (hmb : ∀ x ∈ ms, x < 1024) (hpl : pl.length ≤ 10) (hpb : ∀ x ∈ pl, 0 ≤ x ∧ x ≤ 1000) (hpv : ∀ n d, rb n (d + 1) pv0 = true) (s R i : Nat) (Ri M : Int) (hRi : Ri = (R : Int)) (hR : R < 1024) (nd hs : Int) (hi : i < pl.length) (hhs : 0 ≤ hs ∧ hs ≤ 100000) :
    Ylds P T 6 [I (i : Nat)] [some (.row 1 [[.pv [mv, pv0] 0]]), some (.row 1 [[plv]]), some (.row 1 [[.int .u64 Ri]]), some (.row 1 [[I nd]]), some (.row 1 [[I hs]]), none, some (.loop (r77b s Ri M) [35] asg77b bd77b .ready none)] fun v h' => v = .bool true ∧ h' = [some (.row 1 [[.pv [mv, pv0] 0]]), some (.row 1 [[plv]]), some (.row 1 [[.int .u64 Ri]]), some (.row 1 [[I nd]]), some (.row 1 [[I (hs + pl.getD i 0)]]), none, some (.loop (r77b s Ri M) [35] asg77b bd77b .ready none)] := by
  have lm := Zv hm
  rw [List.length_map] at lm
  have rm := fun n d => ZF hm n d
  have fm := fun H d => Zw hm H d
  obtain ⟨cm1, cm2⟩ := Zy hm
  have lp := Zv hp
  rw [List.length_map] at lp
  have rp := fun n d => ZF hp n d
  have fp := fun H d => Zw hp H d
  obtain ⟨cp1, cp2⟩ := Zy hp
  obtain ⟨tp, rfl⟩ := ZG hp (k := i) (by rw [List.length_map]; omega)
  have hg : (pl.map rJ)[i]? = some (rJ pl[i]) := by rw [List.getElem?_map, List.getElem?_eq_getElem hi]; rfl
  have hg2 : ∀ h, (pl.map rJ)[i]'h = rJ pl[i] := fun h => by simp
  have hgd : pl.getD i 0 = pl[i] := by simp [List.getD, List.getElem?_eq_getElem hi]
  have hpx := hpb _ (List.getElem_mem hi)
  rw [hgd]
  generalize pl[i] = x at *
  have hwn : W .i64 (hs + x) = hs + x := ZH (by omega)
  refine ylds_of rfl rfl ?_
  show Runs P T (some 6) asg77b ⟨(r77b s Ri M).set 35 (I (i : Nat)), [some (.row 1 [[.pv [mv, pv0] 0]]), some (.row 1 [[.vl (pl.map rJ) tp]]), some (.row 1 [[.int .u64 Ri]]), some (.row 1 [[I nd]]), some (.row 1 [[I hs]]), none, some (.loop (r77b s Ri M) [35] asg77b bd77b .ready none)]⟩ _
  unfold asg77b r77b
  refine zR (zO (by simp; rfl) ?_)
  refine ⟨rfl, _, _, _, _, _, rfl, ?_⟩
  unfold bd77b
  have HH1 := And.intro hg (And.intro hg2 (And.intro hi (And.intro hwn (And.intro lm (And.intro rm (And.intro fm (And.intro cm1 (And.intro cm2 (And.intro lp (And.intro rp (And.intro fp (And.intro cp1 cp2))))))))))))
  refine zL ?_
  refine Yd (by simp (maxSteps := 3000000) [YG, rJ, -List.getElem?_map, -List.getElem_map, HH1]; rfl) ?_
  simp only [zT, zB]
  exact ⟨_, _, _, _, _, _, rfl, trivial, by simp [trim, YG, r77b, hg, hg2, hi, rJ, hwn, -List.getElem?_map, -List.getElem_map, lm, rm, fm, cm1, cm2, lp, rp, fp, cp1, cp2]⟩
theorem a77 (P : Program) (T : Nat → Option CFn) (hT : T 30 = some c30) (h69 : T 31 = some c31) (h92 : T 54 = some { c54 with frsh := true, orc := o92 }) (mv pv0 plv : Za) (ms : List Nat) (pl : List Int) (hm : Zm mv = some (ms.map rU)) (hp : Zm plv = some (pl.map rJ)) (hml : ms.length ≤ 10) (hmb : ∀ x ∈ ms, x < 1024) (hpl : pl.length ≤ 10) (hpb : ∀ x ∈ pl, 0 ≤ x ∧ x ≤ 1000) (hpv : ∀ n d, rb n (d + 1) pv0 = true) (hpv2 : ∀ H d, frz false H (d + 1) pv0 = some pv0) (s : Nat) (hsn : s < 2 ^ ms.length) (hs : s < 1024) : Zr P T 30 [.pv [mv, pv0] 0, .int .u64 (s : Nat), plv] [] fun v h => frz true h 5 v = some (.bool (YX ms s pl)) := by
 have lm := Zv hm
 rw [List.length_map] at lm
 have rm := fun n d => ZF hm n d
 have fm := fun H d => Zw hm H d
 obtain ⟨cm1, cm2⟩ := Zy hm
 have lp := Zv hp
 rw [List.length_map] at lp
 have rp := fun n d => ZF hp n d
 have fp := fun H d => Zw hp H d
 obtain ⟨cp1, cp2⟩ := Zy hp
 have hp10 : 2 ^ pl.length ≤ 1024 := two_le hpl
 obtain ⟨Mn, hMn⟩ : ∃ M, M = 2 ^ pl.length := ⟨_, rfl⟩
 obtain ⟨M, hM⟩ : ∃ M : Int, M = (Mn : Int) := ⟨_, rfl⟩
 have hsh : shI .shl .u64 1 (pl.length : Int) = some (.int .u64 M) := by rw [hM, hMn]; exact shl_one (by omega) .u64 (.inr rfl)
 rw [← hMn] at hp10
 refine Zl hT (Zo rfl) ?_
 simp only [oo, om, op, og, ci, cl, c30]
 have HH1 := zA lm (zA rm (zA fm (zA cm1 (zA cm2 (zA lp (zA rp (zA fp (zA cp1 cp2))))))))
 refine zS ?_
 refine zR (zO (by simp [-Zd, ↓hsh, HH1]; rfl) ?_)
 simp only [zT, zB]
 refine zS ?_
 refine zS ?_
 refine zR (zO (by simp [-Zd, ↓hsh, HH1]; rfl) ?_)
 simp only [zT, zB]
 refine zL ?_
 refine ZL (fun m σ => ∃ (R : Nat) (Ri : Int), Ri = R ∧ Mn - R = m ∧ R ≤ Mn ∧ (∀ r < R, decide ((needL ms r (Zp s) : Int) ≤ hasL pl (Zp r)) = true) ∧ σ = ⟨[.any, .int .u64 (s : Nat), .any, .ref 0 0 0, .any, .ref 1 0 0, .bool false, .any, .any, .any, .any, .any, .any, .any, .int .u64 M, .int .u64 Ri, .any, .any, .any, .any, .und, .any, .any, .any, .any, .any, .any, .any, .any, .any, .any, .any, .any, .any, .any, .und, .any, .any, .any, .any, .any, .any, .any, .any, .any, .any], [some (.row 1 [[.pv [mv, pv0] 0]]), some (.row 1 [[plv]])]⟩) ?_ (Mn - 0) _ ⟨0, 0, rfl, rfl, Nat.zero_le _, (fun r h => absurd h (by omega)), by simp⟩
 rintro m σ ⟨R, Ri, hRi, rfl, hRl, hAll, rfl⟩
 refine zS ?_
 refine zR (zO (by simp [-Zd, ↓hsh, HH1]; rfl) ?_)
 simp only [zT, zB]
 refine zS ?_
 refine Zk (x := decide (Ri < M)) (by simp) (fun hlt => ?_) (fun hlt => ?_)
 ·have hlt := of_decide_eq_true hlt
  have hRM : R < Mn := by omega
  have hR : R < 2 ^ pl.length := by rw [← hMn]; exact hRM
  have hR10 : R < 1024 := by omega
  have hwR : W .u64 (Ri + 1) = Ri + 1 := by rw [show Ri + 1 = ((R + 1 : Nat) : Int) by omega, W_u (by omega)]
  refine zK ?_
  simp only [zT, zB]
  refine zS ?_
  refine zL ?_
  refine zS ?_
  refine zR (zO (by simp [-Zd, ↓hsh, HH1, hwR]; rfl) ?_)
  simp only [zT, zB]
  refine zS ?_
  refine zR (zO (by simp [-Zd, ↓hsh, HH1, hwR]; rfl) ?_)
  simp only [zT, zB]
  refine zS ?_
  refine zS ?_
  refine zR (zO (by simp [-Zd, ↓hsh, HH1, hwR]; rfl) ?_)
  simp only [zT, zB]
  refine zL ?_
  refine runs_rf (f := 31) (a := [.int .u64 (s : Nat)]) (b := []) (by simp [inLoop]) (by simp) ?_
  have hit := it69 P T h69 h92 s hs 5 6 (fun l g => ∃ nd : Int, nd + needL ms R l = needL ms R (Zp s) ∧ 0 ≤ nd ∧ (∀ i ∈ l, i < ms.length) ∧ g = [some (.row 1 [[.pv [mv, pv0] 0]]), some (.row 1 [[plv]]), some (.row 1 [[.int .u64 Ri]]), some (.row 1 [[I nd]]), some (.row 1 [[I 0]]), some (.loop (r77a s Ri M) [20] asg77a bd77a .ready none)])
   (fun l g ⟨nd, _, _, _, e⟩ => by rw [e]; exact Nat.le_refl 6)
   (fun l g n vs hn ⟨nd, h1, h2, h3, e⟩ => ⟨nd, h1, h2, h3, by rw [trim_same (by rw [e]; exact hn)]; exact e⟩)
   (fun i l g ⟨nd, h1, h2, h3, e⟩ hi10 => by
    rw [e]
    have hbl := needL_len ms R (Zp s)
    have hbl2 := bits_len s
    rw [needL_cons] at h1
    refine (y77a P T mv pv0 plv ms pl hm hp hml hmb hpl hpb hpv s R i Ri M hRi hR10 nd 0 (h3 i (by simp)) (by omega)).mono ?_
    rintro v h' ⟨rfl, rfl⟩
    exact ⟨rfl, _, by rw [← h1]; push_cast; split <;> omega, by split <;> omega, fun j hj => h3 j (by simp [hj]), rfl⟩) _
   ⟨0, by omega, Int.le_refl _, fun i hi => bits_below hsn hi, rfl⟩
  refine (show Zr P T 31 ([.int .u64 (s : Nat)] ++ [.yld 5] ++ []) [some (.row 1 [[.pv [mv, pv0] 0]]), some (.row 1 [[plv]]), some (.row 1 [[.int .u64 Ri]]), some (.row 1 [[I 0]]), some (.row 1 [[I 0]]), some (.loop (r77a s Ri M) [20] asg77a bd77a .ready none)] _ from hit).mono ?_
  rintro _ h2 ⟨nd, h1, h2, h3, rfl⟩
  have hn0 : needL ms R [] = 0 := rfl
  rw [hn0] at h1
  refine ⟨_, _, _, _, _, _, rfl, by simp, ?_⟩
  simp only [List.set_cons_succ, List.set_cons_zero, List.length_cons, List.length_nil]
  try simp only [zT, zB]
  generalize hN : needL ms R (Zp s) = N at *
  obtain rfl : nd = (N : Int) := by omega
  refine zS ?_
  refine zS ?_
  refine zR (zO (by simp [-Zd, ↓hsh, HH1, hwR]; rfl) ?_)
  simp only [zT, zB]
  refine zL ?_
  refine runs_rf (f := 31) (a := [.int .u64 Ri]) (b := []) (by simp [inLoop]) (by simp) ?_
  have hit2 := it69 P T h69 h92 R hR10 6 7 (fun l g => ∃ hs : Int, hs + hasL pl l = hasL pl (Zp R) ∧ 0 ≤ hs ∧ (∀ i ∈ l, i < pl.length) ∧ g = [some (.row 1 [[.pv [mv, pv0] 0]]), some (.row 1 [[plv]]), some (.row 1 [[.int .u64 Ri]]), some (.row 1 [[I (N : Nat)]]), some (.row 1 [[I hs]]), none, some (.loop (r77b s Ri M) [35] asg77b bd77b .ready none)])
   (fun l g ⟨nd, _, _, _, e⟩ => by rw [e]; exact Nat.le_refl 7)
   (fun l g n vs hn ⟨nd, h1, h2, h3, e⟩ => ⟨nd, h1, h2, h3, by rw [trim_same (by rw [e]; exact hn)]; exact e⟩)
   (fun i l g ⟨hs, h1, h2, h3, e⟩ hi10 => by
    rw [e]
    have hb1 := hasL_bd hpb (Zp R)
    have hb2 := hasL_bd hpb l
    have hb3 := bits_len R
    have hb4 := pl_bd hpb i
    rw [show hasL pl (i :: l) = pl.getD i 0 + hasL pl l from rfl] at h1
    refine (y77b P T mv pv0 plv ms pl hm hp hml hmb hpl hpb hpv s R i Ri M hRi hR10 N hs (h3 i (by simp)) (by omega)).mono ?_
    rintro v h' ⟨rfl, rfl⟩
    exact ⟨rfl, _, by rw [← h1]; omega, by omega, fun j hj => h3 j (by simp [hj]), rfl⟩) _
   ⟨0, by omega, Int.le_refl _, fun i hi => bits_below hR hi, rfl⟩
  rw [← hRi] at hit2
  refine (show Zr P T 31 ([.int .u64 Ri] ++ [.yld 6] ++ []) [some (.row 1 [[.pv [mv, pv0] 0]]), some (.row 1 [[plv]]), some (.row 1 [[.int .u64 Ri]]), some (.row 1 [[I (N : Nat)]]), some (.row 1 [[I 0]]), none, some (.loop (r77b s Ri M) [35] asg77b bd77b .ready none)] _ from hit2).mono ?_
  rintro _ h2 ⟨hs2, h1, h2, h3, rfl⟩
  refine ⟨_, _, _, _, _, _, rfl, by simp, ?_⟩
  simp only [List.set_cons_succ, List.set_cons_zero, List.length_cons, List.length_nil]
  try simp only [zT, zB]
  rw [show hasL pl [] = 0 from rfl] at h1
  obtain rfl : hs2 = hasL pl (Zp R) := by omega
  have hok : (decide ((N : Int) ≤ hasL pl (Zp R))) = !decide (hasL pl (Zp R) < (N : Int)) := by rw [Bool.eq_iff_iff]; simp
  generalize hHd : hasL pl (Zp R) = H at *
  refine zS ?_
  refine zR (zO (by simp [-Zd, ↓hsh, HH1, hwR]; rfl) ?_)
  simp only [zT, zB]
  refine Zk (x := decide (H < (N : Int))) (by simp) (fun hbad => ?_) (fun hbad => ?_)
  ·have hbad := of_decide_eq_true hbad
   have hf : YX ms s pl = false := by
    unfold YX
    rw [List.all_eq_false]
    refine ⟨R, List.mem_range.2 hR, ?_⟩
    rw [hN, hHd]; simp; omega
   rw [hf]
   refine zS ?_
   refine zR (zO (by simp [-Zd, ↓hsh, HH1, hwR]; rfl) ?_)
   simp only [zT, zB]
   refine Zg ?_
   simp [-Zd, ↓hsh, HH1, hwR]
  ·have hbad := of_decide_eq_false hbad
   refine zK ?_
   simp only [zT, zB]
   refine zR (zO (by simp [-Zd, ↓hsh, HH1, hwR]; rfl) ?_)
   simp only [zT, zB]
   exact ⟨Mn - (R + 1), by omega, R + 1, Ri + 1, by omega, rfl, by omega, (fun r hr => if e : r = R then by rw [e, hN, hHd]; simp; omega else hAll r (by omega)), by simp [-Zd, ↓hsh, HH1, hwR, trim, hpv]⟩
 ·have hlt := of_decide_eq_false hlt
  obtain rfl : R = Mn := by omega
  have hf : YX ms s pl = true := by
   unfold YX
   rw [List.all_eq_true]
   exact fun r hr => hAll r (by rw [hMn]; exact List.mem_range.1 hr)
  rw [hf]
  refine ZI ?_
  simp only [zT, zB, if_true, if_false, reduceIte, Nat.reduceEqDiff, Nat.succ_ne_zero, Nat.one_ne_zero, Nat.zero_ne_one]
  refine zS ?_
  refine zR (zO (by simp [-Zd, ↓hsh, HH1]; rfl) ?_)
  simp only [zT, zB]
  refine Zg ?_
  simp [-Zd, ↓hsh, HH1]
end
end
end Go.Proofs.YtpebmjeomlgmdaaGreatDoor.Tab
namespace Go.Proofs.YtpebmjeomlgmdaaGreatDoor.Tab
open Go Go.Abs Go.Proofs
set_option maxRecDepth 100000
set_option maxHeartbeats 4000000
set_option linter.unusedSimpArgs false
set_option linter.unusedVariables false
noncomputable section
attribute [local simp] Yv Ye XB XC YD YJ XD YL Xh YC Zf orcF Xv YV Xx Xt YU YA rb_vl rb_pv Xr YT YS YR Xw Xs Xu XZ rb_fn slE XP Xk Yp ZQ XG List.range_succ List.range_zero List.range'_succ List.range'_zero Yi Yg ZK Yl ZR ZT Xm Yf dop CV.ev Ys ZA ZM Xa fI_eq Yt Yc ZN Zz Out.v Xy List.replicate_succ zT zB arI ZO Abs.rowAt Xq allV toV toC ofV ofC Builtin.min_ Builtin.min2 Builtin.max_ Builtin.max2 Xz XA resA XS Xj Yh Yx Yy Yw Zd
section
attribute [local simp] Yj ZU YP YM XR Xo disj YY holes YZ ZX Xb news eqB Xc eqA YK Xi toCs ofCs stA Yz ZV Yr dI1 dI2 dI3 dI5 elt
attribute [local simp] st_any st_und st_agg st_tup XX st_int XU st_ref st_pv XT st_sl st_vl XV st_mp st_fn XW st_yld co_any co_und co_agg co_tup co_bool co_int co_nilp co_ref co_pv co_nils co_sl co_vl co_nilm co_mp co_fn co_nilf co_yld
attribute [local simp] Ya Zq lim lop Yk okA plainA posOf
def dJ1 : List Za → Option Int
  | [.int .i64 n] => if 0 ≤ n ∧ n ≤ 1000 then some n else none
  | _ => none
theorem dJ1_eq (r : List Za) (n : Int) (h : dJ1 r = some n) : r = rJ n := by
  unfold dJ1 at h; split at h <;> (try simp only [reduceCtorEq] at h)
  split at h <;> (try simp only [reduceCtorEq] at h)
  simp only [Option.some.injEq] at h
  subst h; rfl
theorem dJ1_bd : ∀ {rs : List (List Za)} {l : List Int}, Zf dJ1 rs = some l → ∀ x ∈ l, 0 ≤ x ∧ x ≤ 1000
  | [], l, h => by simp at h; subst h; simp
  | r :: rs, l, h => by
    simp only [Zf] at h
    split at h <;> simp at h
    rename_i y ys e1 e2
    subst h
    intro v hv
    rcases List.mem_cons.1 hv with rfl | hv
    · unfold dJ1 at e1; split at e1 <;> (try simp only [reduceCtorEq] at e1)
      split at e1 <;> (try simp only [reduceCtorEq] at e1)
      rename_i hg
      simp only [Option.some.injEq] at e1
      subst e1; exact hg
    · exact dJ1_bd e2 v hv
theorem dJ1_self {l : List Int} (h : ∀ x ∈ l, 0 ≤ x ∧ x ≤ 1000) : Zf dJ1 (l.map rJ) = some l := by
  have h2 : Zf dJ1 (l.map rJ) = some (l.map id) := optAll_map2 l fun x hx => by
    simp only [dJ1, rJ, id]; rw [if_pos (h x hx)]
  rwa [List.map_id] at h2
def o77 : List Za → Option Za
  | [.pv [mv, pv0] 0, .int .u64 s, plv] => match Zm mv, Zm pv0, Zm plv with
    | some rm, some _, some rp => match Zf dU rm, Zf dJ1 rp with
      | some ms, some pl => if ms.length ≤ 10 ∧ pl.length ≤ 10 ∧ 0 ≤ s ∧ s.toNat < 2 ^ ms.length then some (.bool (YX ms s.toNat pl)) else none
      | _, _ => none
    | _, _, _ => none
  | _ => none
theorem o77_eq {mv pv0 plv : Za} {ms : List Nat} {pl : List Int} {r0 : List (List Za)} (hm : Zm mv = some (ms.map rU)) (h0 : Zm pv0 = some r0) (hp : Zm plv = some (pl.map rJ)) (hml : ms.length ≤ 10) (hmb : ∀ x ∈ ms, x < 1024) (hpl : pl.length ≤ 10) (hpb : ∀ x ∈ pl, 0 ≤ x ∧ x ≤ 1000) {s : Nat} (hs : s < 2 ^ ms.length) : o77 [.pv [mv, pv0] 0, .int .u64 (s : Nat), plv] = some (.bool (YX ms s pl)) := by
  simp only [o77, hm, h0, hp, dU_self hmb, dJ1_self hpb]
  rw [if_pos ⟨hml, hpl, by omega, by rw [Int.toNat_natCast]; exact hs⟩, Int.toNat_natCast]
def DX1 : Nat → Option CFn := upd DV8 30 true (o77)
theorem DX1_ok : ZB Tryz.prog GG DX1 := ZD Zh DV8_ok fun args v ho => by
  unfold o77 at ho; split at ho <;> (try simp only [reduceCtorEq] at ho)
  rename_i mv pv0 s plv
  split at ho <;> (try simp only [reduceCtorEq] at ho)
  rename_i rm r0 rp hm h0 hp
  split at ho <;> (try simp only [reduceCtorEq] at ho)
  rename_i ms pl hms hpl
  split at ho <;> (try simp only [reduceCtorEq] at ho)
  rename_i hg
  simp only [Option.some.injEq] at ho
  subst ho
  obtain ⟨sn, rfl⟩ : ∃ n : Nat, s = n := ⟨s.toNat, by omega⟩
  have h2 := hg.2.2.2
  rw [Int.toNat_natCast] at h2 ⊢
  exact a77 Tryz.prog DV8 rfl rfl rfl mv pv0 plv ms pl (by rw [hm, ZY (enc := rU) dU_eq hms]) (by rw [hp, ZY (enc := rJ) dJ1_eq hpl]) hg.1 (dU_bd hms) hg.2.1 (dJ1_bd hpl) (fun n d => ZF h0 n d) (fun H d => Zw h0 H d) sn h2 (Nat.lt_of_lt_of_le h2 (two_le hg.1))
def sClone : List Za → Option (Za × Zj)
  | [.vl rs _] => match Zf dJ1 rs with
    | some ts => if ts.length ≤ 1000 then some (.sl 0 0 ts.length false, [some (.row 1 (ts.map rJ))]) else none
    | none => none
  | [.nils] => some (.nils, [])
  | _ => none
theorem a76 (P : Program) (T : Nat → Option CFn) (hT : T 29 = some c29) (ts : List Int) (tt : Bool) (hl2 : ts.length ≤ 1000) : Zr P T 29 [.vl (ts.map rJ) tt] [] fun v1 h1 => ∃ K : List Nat, K.Nodup ∧ K.length = [some (Blk.row 1 (ts.map rJ))].length ∧ (∀ p (hp : p < K.length) b, [some (Blk.row 1 (ts.map rJ))][p]? = some (some b) → h1[K[p]]? = some (some b)) ∧ keepB true K h1 (looseV v1) = some (.sl 0 0 ts.length false) := by
 refine Zl hT (Zo rfl) ?_
 simp only [oo, om, op, og, ci, cl, c29]
 rcases ts with _ | ⟨x, l⟩
 ·refine zS ?_
  refine zR (zO (by simp [hl2]; rfl) ?_)
  simp only [zT, zB]
  refine zS ?_
  refine zS ?_
  refine zR (zO (by simp [hl2]; rfl) ?_)
  simp only [zT, zB]
  refine Zi (x := false) (by simp) ?_
  refine zK ?_
  simp only [zT, zB]
  refine zS ?_
  refine zR (zO (by simp [hl2]; rfl) ?_)
  simp only [zT, zB]
  refine Zg ?_
  refine ⟨by simp, _, by simp; rfl, [0], by simp, rfl, fun q hq b hb => ?_, by simp [keepB, keepA, looseV, Xp]⟩
  obtain rfl : q = 0 := by simp at hq; omega
  simpa [trim, XS, XZ] using hb
 ·have hr1 : (l.map rJ).all (fun r => r.length == 1) = true := by simp [rJ]
  have hr2 : (l.map rJ).all (fun r => r.all ZE) = true := by simp [rJ]
  have hl3 : l.length + 1 ≤ 1048576 := by simp at hl2; omega
  refine zS ?_
  refine zR (zO (by simp [↓hr1, ↓hr2, hl3, rJ]; rfl) ?_)
  simp only [zT, zB]
  refine zS ?_
  refine zS ?_
  refine zR (zO (by simp [↓hr1, ↓hr2, hl3, rJ]; rfl) ?_)
  simp only [zT, zB]
  refine Zi (x := false) (by simp) ?_
  refine zK ?_
  simp only [zT, zB]
  refine zS ?_
  refine zR (zO (by simp [↓hr1, ↓hr2, hl3, rJ]; rfl) ?_)
  simp only [zT, zB]
  refine Zg ?_
  refine ⟨by simp, _, by simp; rfl, [1], by simp, rfl, fun q hq b hb => ?_, by simp [keepB, keepA, looseV, Xp]⟩
  obtain rfl : q = 0 := by simp at hq; omega
  simpa [trim, XS, XZ, rJ] using hb
theorem a76n (P : Program) (T : Nat → Option CFn) (hT : T 29 = some c29) : Zr P T 29 [.nils] [] fun v1 h1 => ∃ K : List Nat, K.Nodup ∧ K.length = ([] : Zj).length ∧ (∀ p (hp : p < K.length) b, ([] : Zj)[p]? = some (some b) → h1[K[p]]? = some (some b)) ∧ keepB true K h1 (looseV v1) = some .nils := by
 refine Zl hT (Zo rfl) ?_
 simp only [oo, om, op, og, ci, cl, c29]
 refine zS ?_
 refine zR (zO (by simp; rfl) ?_)
 simp only [zT, zB]
 refine zS ?_
 refine zS ?_
 refine zR (zO (by simp; rfl) ?_)
 simp only [zT, zB]
 refine Zi (x := true) (by simp) ?_
 refine zS ?_
 refine zR (zO (by simp; rfl) ?_)
 simp only [zT, zB]
 refine Zg ?_
 refine ⟨by simp, _, by simp; rfl, [], by simp, rfl, fun q hq b hb => by simp at hq, by simp [keepB, keepA, looseV, Xp]⟩
def DX2 : Nat → Option CFn := updE DX1 29 (freshE true sClone)
theorem DX2_ok : ZB Tryz.prog GG DX2 := tab_fresh2 Zh DX1_ok fun args v hs ho => by
  unfold sClone at ho; split at ho <;> (try simp only [reduceCtorEq] at ho)
  · rename_i rs tt
    split at ho <;> (try simp only [reduceCtorEq] at ho)
    rename_i ts hts
    split at ho <;> (try simp only [reduceCtorEq] at ho)
    rename_i hg
    simp only [Option.some.injEq, Prod.mk.injEq] at ho
    obtain ⟨rfl, rfl⟩ := ho
    obtain rfl : rs = ts.map rJ := ZY (enc := rJ) dJ1_eq hts
    exact a76 Tryz.prog DX1 rfl ts tt hg
  · simp only [Option.some.injEq, Prod.mk.injEq] at ho
    obtain ⟨rfl, rfl⟩ := ho
    exact a76n Tryz.prog DX1 rfl
theorem it69s (P : Program) (T : Nat → Option CFn) (hT : T 31 = some c31) (h92 : T 54 = some { c54 with frsh := true, orc := o92 }) (s : Nat) (hs : s < 1024) (r N : Nat) (J : List Nat → Zj → Prop) (S : Zj → Prop) (hJ : ∀ l h, J l h → N ≤ h.length) (htr : ∀ l h n vs, N ≤ n → J l h → J l (trim n vs h)) (hSt : ∀ g h vs, J (Zp s) g → S h → S (trim g.length vs h))
    (step : ∀ i l h, J (i :: l) h → i < 10 → Ylds P T r [I (i : Nat)] h fun v h' => (v = .bool true ∧ J l h') ∨ (v = .bool false ∧ S h')) :
    ∀ h, J (Zp s) h → Zr P T 31 [.int .u64 (s : Nat), .yld r] h fun _ h2 => J [] h2 ∨ S h2 := by
  intro h hh
  have hlen0 := hJ _ _ hh
  refine Zl hT (Zo rfl) ?_
  simp only [oo, om, op, og, ci, cl, c31]
  refine zL ?_
  refine ZL (fun m σ => ∃ (x : Nat) (g : Zj), x = m ∧ x < 1024 ∧ J (Zp x) g ∧ σ = ⟨[.int .u64 (x : Nat), .yld r, .any, .any, .any, .any, .any, .any, .any, .any, .any, .any, .any, .any, .any], g⟩) ?_ s _ ⟨s, h, rfl, hs, hh, by simp⟩
  rintro m σ ⟨x, g, rfl, hx, hj, rfl⟩
  have hlen := hJ _ _ hj
  refine zS ?_
  refine zS ?_
  refine zR (zO (by simp [zC h92, h92]; rfl) ?_)
  simp only [zT, zB]
  refine Zk (x := ((x : Int) != 0)) (by simp) (fun hx0 => ?_) (fun hx0 => ?_)
  · have hx0 : x ≠ 0 := by simpa using hx0
    obtain ⟨e1, e2, e3⟩ := bits_step hx hx0
    rw [e1] at hj
    have ho92 := o92_eq hx0 hx
    have hsub : W .u64 ((x : Int) - 1) = ((x - 1 : Nat) : Int) := by rw [show (x : Int) - 1 = ((x - 1 : Nat) : Int) by omega, W_u (by omega)]
    have hand := and_u (a := x) (b := x - 1) (by omega) (by omega)
    refine zK ?_
    simp only [zT, zB]
    refine zS ?_
    refine zL ?_
    refine zS ?_
    refine zR (ops_take 3 (by simp [zC h92, h92, ho92, hsub, ↓hand]; rfl) ?_)
    simp only [List.drop_succ_cons, List.drop_zero]
    refine ops_ylds (i := r) (args := [I (tz x : Nat)]) (by simp) (by simp) (by simp) (by simp) ?_
    refine (step (tz x) _ g hj e2).mono ?_
    rintro v h' (⟨rfl, hj'⟩ | ⟨rfl, hs'⟩)
    · refine zO (by simp; rfl) ?_
      simp only [zT, zB]
      refine Zi (x := false) (by simp) ?_
      refine zK ?_
      simp only [zT, zB]
      refine zR (zO (by simp [zC h92, h92, ho92, hsub, ↓hand]; rfl) ?_)
      simp only [zT, zB]
      exact ⟨x &&& (x - 1), e3, x &&& (x - 1), _, rfl, by omega, htr _ _ _ _ hlen hj', by simp; rfl⟩
    · refine zO (by simp; rfl) ?_
      simp only [zT, zB]
      refine Zi (x := true) (by simp) ?_
      refine Zg ?_
      refine ⟨by simp, _, by simp; rfl, .inr ?_⟩
      exact hSt _ _ _ hh hs'
  · obtain rfl : x = 0 := by simpa using hx0
    refine ZI ?_
    simp only [zT, zB, if_true, if_false, reduceIte, Nat.reduceEqDiff, Nat.succ_ne_zero, Nat.one_ne_zero, Nat.zero_ne_one]
    refine ⟨by simp, _, by simp; rfl, .inl ?_⟩
    rw [bits_zero] at hj
    exact htr _ _ _ _ hlen0 hj
end
end
end Go.Proofs.YtpebmjeomlgmdaaGreatDoor.Tab
namespace Go.Proofs.YtpebmjeomlgmdaaGreatDoor.Tab
open Go Go.Abs Go.Proofs
set_option maxRecDepth 100000
set_option maxHeartbeats 4000000
set_option linter.unusedSimpArgs false
set_option linter.unusedVariables false
section
attribute [local simp] Yv Ye XB XC YD YJ XD YL Xh YC Zf orcF Xv YV Xx Xt YU YA rb_vl rb_pv Xr YT YS YR Xw Xs Xu XZ rb_fn slE XP Xk Yp ZQ XG List.range_succ List.range_zero List.range'_succ List.range'_zero Yi Yg ZK Yl ZR ZT Xm Yf dop CV.ev Ys ZA ZM Xa fI_eq Yt Yc ZN Zz Out.v Xy List.replicate_succ zT zB arI ZO Abs.rowAt Xq allV toV toC ofV ofC Builtin.min_ Builtin.min2 Builtin.max_ Builtin.max2 Xz XA resA XS Xj Yh Yx Yy Yw Zd
section
attribute [local simp] Yj ZU YP YM XR Xo disj YY holes YZ ZX Xb news eqB Xc eqA YK Xi toCs ofCs stA Yz ZV Yr dI1 dI2 dI3 dI5 elt
attribute [local simp] st_any st_und st_agg st_tup XX st_int XU st_ref st_pv XT st_sl st_vl XV st_mp st_fn XW st_yld co_any co_und co_agg co_tup co_bool co_int co_nilp co_ref co_pv co_nils co_sl co_vl co_nilm co_mp co_fn co_nilf co_yld
attribute [local simp] Ya Zq lim lop Yk rbB_none rbB_row
def XE (p : List Int) (k : Nat) : List Int := p.set k (p.getD k 0 - 1)
theorem decP_len (p : List Int) (k : Nat) : (XE p k).length = p.length := List.length_set
theorem decP_bd {p : List Int} {k : Nat} (h : ∀ x ∈ p, 0 ≤ x ∧ x ≤ 1000) (h0 : p.getD k 0 ≠ 0) : ∀ x ∈ XE p k, 0 ≤ x ∧ x ≤ 1000 := by
  intro x hx
  rcases List.mem_or_eq_of_mem_set hx with h1 | rfl
  · exact h x h1
  · have := pl_bd h k; omega
def canP (ms : List Nat) (L : Nat) (p : List Int) (k : Nat) : Bool := decide (p.getD k 0 ≠ 0) && YX ms L (XE p k)
def asg44 : CC := (.reg [⟨(some 12), (.mv (.t 54)), none, []⟩])
def bd44 : CC := (.block 3 (.seq (.seq (.reg [⟨(some 55), (.ld (.t 10)), none, []⟩, ⟨(some 56), (.mv (.t 12)), none, []⟩, ⟨(some 57), (.ias 1 (.t 55) (.t 56)), none, []⟩, ⟨(some 58), (.ld (.t 57)), none, []⟩, ⟨(some 59), (.ar .eql (.t 58) (.c (.int .i64 (0)))), none, []⟩]) (.cond (.t 59) (.exit 3) .skip)) (.seq (.reg [⟨(some 60), (.ld (.t 10)), none, []⟩, ⟨(some 61), (.mv (.t 12)), none, []⟩, ⟨(some 62), (.ias 1 (.t 60) (.t 61)), none, []⟩, ⟨(some 63), (.ld (.t 62)), none, []⟩, ⟨(some 64), (.ar .sub (.t 63) (.c (.int .i64 (1)))), none, []⟩, ⟨(some 65), (.ias 1 (.t 60) (.t 61)), none, []⟩, ⟨none, (.st 1 (.t 65) (.t 64)), none, []⟩]) (.seq (.seq (.reg [⟨(some 66), (.ld (.t 8)), none, []⟩, ⟨(some 67), (.ld (.t 9)), none, []⟩, ⟨(some 68), (.ld (.t 10)), none, []⟩, ⟨(some 69), (.call (.c (.fn 30 [] [])) [(.t 66), (.t 67), (.t 68)]), none, []⟩]) (.cond (.t 69) (.seq (.reg [⟨(some 70), (.ld (.t 6)), none, []⟩, ⟨(some 71), (.mv (.t 12)), none, []⟩, ⟨(some 72), (.bsl 1 1 [(.int .i64 (0))] [(0, (.t 71))]), none, []⟩, ⟨(some 73), (.app 1 (.t 70) (.t 72)), none, []⟩, ⟨none, (.st 1 (.t 6) (.t 73)), none, []⟩]) (.exit 2)) .skip)) (.reg [⟨(some 74), (.ld (.t 10)), none, []⟩, ⟨(some 75), (.mv (.t 12)), none, []⟩, ⟨(some 76), (.ias 1 (.t 74) (.t 75)), none, []⟩, ⟨(some 77), (.ld (.t 76)), none, []⟩, ⟨(some 78), (.ar .add (.t 77) (.c (.int .i64 (1)))), none, []⟩, ⟨(some 79), (.ias 1 (.t 74) (.t 75)), none, []⟩, ⟨none, (.st 1 (.t 79) (.t 78)), none, []⟩])))))
def r44 (N i M : Int) : List Za := [.any, .any, .any, .any, .any, .any, .ref 0 0 0, I 0, .ref 1 0 0, .ref 2 0 0, .ref 3 0 0, .any, .any, .any, .any, .any, .any, .any, .any, .any, .any, .any, .any, .any, .any, .any, .any, .any, .any, .any, .any, .any, .any, .any, .any, .any, .any, .any, I N, I i, .any, .any, .any, .any, .any, .any, .any, .any, .any, .any, .any, .any, .any, .fn 31 [.int .u64 M] [], .und, .any, .any, .any, .any, .any, .any, .any, .any, .any, .any, .any, .any, .any, .any, .any, .any, .any, .any, .any, .any, .any, .any, .any, .any, .any, .any, .any]
theorem y44n (P : Program) (T : Nat → Option CFn) (h77 : T 30 = some { c30 with frsh := true, orc := o77 }) (mv pv0 : Za) (ms : List Nat) (p : List Int) (r0 : List (List Za)) (hm : Zm mv = some (ms.map rU)) (h0 : Zm pv0 = some r0) (hml : ms.length ≤ 10) (hmb : ∀ x ∈ ms, x < 1024) (hpl : p.length ≤ 10) (hpb : ∀ x ∈ p, 0 ≤ x ∧ x ≤ 1000) (N i M Lf K : Int) (L k : Nat) (hL : Lf = (L : Int)) (hLs : L < 2 ^ ms.length) (hK : K = (k : Int)) (hk : k < p.length) :
    Ylds P T 6 [I K] [some (.row 1 [[.nils]]), some (.row 1 [[.pv [mv, pv0] 0]]), some (.row 1 [[.int .u64 Lf]]), some (.row 1 [[.sl 4 0 p.length false]]), some (.row 1 (p.map rJ)), none, some (.loop (r44 N i M) [54] asg44 bd44 .ready none)] fun v h' => (v = .bool true ∧ h' = [some (.row 1 [[.nils]]), some (.row 1 [[.pv [mv, pv0] 0]]), some (.row 1 [[.int .u64 Lf]]), some (.row 1 [[.sl 4 0 p.length false]]), some (.row 1 (p.map rJ)), none, some (.loop (r44 N i M) [54] asg44 bd44 .ready none)] ∧ canP ms L p k = false) ∨ (v = .bool false ∧ h' = [some (.row 1 [[.sl 8 0 1 false]]), some (.row 1 [[.pv [mv, pv0] 0]]), some (.row 1 [[.int .u64 Lf]]), some (.row 1 [[.sl 4 0 p.length false]]), some (.row 1 ((XE p k).map rJ)), none, some (.loop (r44 N i M) [54] asg44 bd44 .done (some (.exit 2))), some (.row 1 [[I K]]), some (.row 1 [[I K]])] ∧ canP ms L p k = true) := by
  have rm := fun n d => ZF hm n d
  have r0' := fun n d => ZF h0 n d
  have fm := fun H d => Zw hm H d
  have f0 := fun H d => Zw h0 H d
  have g1 : (p.map rJ)[k]? = some (rJ p[k]) := by rw [List.getElem?_map, List.getElem?_eq_getElem hk]; rfl
  have g2 : ∀ h, (p.map rJ)[k]'h = rJ p[k] := fun h => by simp
  have hgd : p.getD k 0 = p[k] := by simp [List.getD, List.getElem?_eq_getElem hk]
  have hpx := hpb _ (List.getElem_mem hk)
  have hcan : canP ms L p k = (decide (p.getD k 0 ≠ 0) && YX ms L (XE p k)) := rfl
  have hset : (p.map rJ).set k [I (p[k] - 1)] = (XE p k).map rJ := by unfold XE; rw [List.map_set, hgd]; rfl
  have hback : ((XE p k).map rJ).set k [I p[k]] = p.map rJ := by
    unfold XE; rw [List.map_set, List.set_set]
    refine List.ext_getElem? fun j => ?_
    by_cases e : k = j
    · subst e; rw [List.getElem?_set_self (by simpa using hk), g1]; rfl
    · rw [List.getElem?_set_ne e]
  have d1 : ((XE p k).map rJ)[k]? = some [I (p[k] - 1)] := by rw [← hset, List.getElem?_set_self (by simpa using hk)]
  have d2 : ∀ h, ((XE p k).map rJ)[k]'h = [I (p[k] - 1)] := fun h => by rw [List.getElem?_eq_getElem h] at d1; exact Option.some.inj d1
  have hdl := decP_len p k
  have hkd : k < (XE p k).length := by rw [hdl]; exact hk
  have tkp : (p.map rJ).take p.length = p.map rJ := List.take_of_length_le (by simp)
  have tkd : ((XE p k).map rJ).take p.length = (XE p k).map rJ := List.take_of_length_le (by simp [hdl])
  have hfz1 := fun H d => frz_rJ H d p
  have hfz2 := fun H d => frz_rJ H d (XE p k)
  have e77 : ∀ (t : Bool), p.getD k 0 ≠ 0 → o77 [.pv [mv, pv0] 0, .int .u64 Lf, .vl ((XE p k).map rJ) t] = some (.bool (YX ms L (XE p k))) := fun t hz => by
    rw [hL]; exact o77_eq (plv := .vl ((XE p k).map rJ) t) hm h0 rfl hml hmb (by rw [hdl]; exact hpl) (decP_bd hpb hz) hLs
  rw [hgd] at hcan e77
  have hwx : W .i64 (p[k] - 1) = p[k] - 1 := ZH (by omega)
  have hwz : W .i64 p[k] = p[k] := ZH (by omega)
  have hwy : W .i64 (p[k] - 1 + 1) = p[k] := by rw [Int.sub_add_cancel]; exact ZH (by omega)
  have hkt : K.toNat = k := by omega
  have hk0 : 0 ≤ K := by omega
  have hKl : K < (p.length : Int) := by omega
  rw [hcan]
  generalize YX ms L (XE p k) = B at *
  generalize hDv : (XE p k) = D at *
  generalize hDm : (D.map rJ) = Dm at *
  have hDl : Dm.length = p.length := by rw [← hDm, List.length_map, hdl]
  have hDk : k < Dm.length := by rw [hDl]; exact hk
  generalize p[k] = x at *
  refine ylds_of rfl rfl ?_
  show Runs P T (some 6) asg44 ⟨(r44 N i M).set 54 (I K), [some (.row 1 [[.nils]]), some (.row 1 [[.pv [mv, pv0] 0]]), some (.row 1 [[.int .u64 Lf]]), some (.row 1 [[.sl 4 0 p.length false]]), some (.row 1 (p.map rJ)), none, some (.loop (r44 N i M) [54] asg44 bd44 .ready none)]⟩ _
  unfold asg44 r44
  refine zR (zO (by simp; rfl) ?_)
  refine ⟨rfl, _, _, _, _, _, rfl, ?_⟩
  unfold bd44
  have HH1 := And.intro h77 (And.intro rm (And.intro r0' (And.intro fm (And.intro f0 (And.intro g1 (And.intro g2 (And.intro hkt (And.intro hk0 (And.intro hKl (And.intro hk (And.intro hwx (And.intro hwy (And.intro hwz (And.intro d1 (And.intro d2 (And.intro tkp (And.intro tkd (And.intro hDl (And.intro hDk (And.intro hset hback))))))))))))))))))))
  refine zL ?_
  refine zS ?_
  refine zS ?_
  refine zR (zO (by simp [zC h77, YG, trim, rJ, ↓hfz1, ↓hfz2, -List.getElem?_map, -List.getElem_map, -List.map_set, HH1]; rfl) ?_)
  simp only [zT, zB]
  by_cases hz : x = 0
  · subst hz
    refine Zi (x := true) (by simp) ?_
    refine ZI ?_
    simp only [zT, zB, if_true, if_false, reduceIte, Nat.reduceEqDiff, Nat.succ_ne_zero, Nat.one_ne_zero, Nat.zero_ne_one]
    exact ⟨_, _, _, _, _, _, rfl, .inl ⟨by trivial, by simp [zC h77, YG, trim, rJ, ↓hfz1, ↓hfz2, -List.getElem?_map, -List.getElem_map, -List.map_set, HH1, r44], by simp⟩⟩
  · have hzb : (x == 0) = false := by simpa using hz
    have e77 := fun t => e77 t hz
    refine Zi (x := false) (by simp [hz]) ?_
    refine zK ?_
    simp only [zT, zB]
    refine zS ?_
    refine zR (zO (by simp [zC h77, YG, trim, rJ, ↓hfz1, ↓hfz2, -List.getElem?_map, -List.getElem_map, -List.map_set, HH1, hz, hzb, e77]; rfl) ?_)
    simp only [zT, zB]
    refine zS ?_
    refine zS ?_
    refine zR (zO (by simp [zC h77, YG, trim, rJ, ↓hfz1, ↓hfz2, -List.getElem?_map, -List.getElem_map, -List.map_set, HH1, hz, hzb, e77]; rfl) ?_)
    simp only [zT, zB]
    cases B
    · refine Zi (x := false) (by simp) ?_
      refine zK ?_
      simp only [zT, zB]
      refine zR (zO (by simp [zC h77, YG, trim, rJ, ↓hfz1, ↓hfz2, -List.getElem?_map, -List.getElem_map, -List.map_set, HH1, hz, hzb, e77]; rfl) ?_)
      simp only [zT, zB]
      exact ⟨_, _, _, _, _, _, rfl, .inl ⟨by trivial, by simp [zC h77, YG, trim, rJ, ↓hfz1, ↓hfz2, -List.getElem?_map, -List.getElem_map, -List.map_set, HH1, hz, hzb, e77, r44], by simp⟩⟩
    · refine Zi (x := true) (by simp) ?_
      refine zS ?_
      refine zR (zO (by simp [zC h77, YG, trim, rJ, ↓hfz1, ↓hfz2, -List.getElem?_map, -List.getElem_map, -List.map_set, HH1, hz, hzb, e77]; rfl) ?_)
      simp only [zT, zB]
      refine ZI ?_
      simp only [zT, zB, if_true, if_false, reduceIte, Nat.reduceEqDiff, Nat.succ_ne_zero, Nat.one_ne_zero, Nat.zero_ne_one]
      exact ⟨_, _, _, _, _, _, rfl, .inr ⟨by trivial, by simp [zC h77, YG, trim, rJ, ↓hfz1, ↓hfz2, -List.getElem?_map, -List.getElem_map, -List.map_set, HH1, hz, hzb, e77, r44], by simp [hz]⟩⟩
theorem y44s (P : Program) (T : Nat → Option CFn) (h77 : T 30 = some { c30 with frsh := true, orc := o77 }) (mv pv0 : Za) (ms : List Nat) (p : List Int) (r0 : List (List Za)) (hm : Zm mv = some (ms.map rU)) (h0 : Zm pv0 = some r0) (hml : ms.length ≤ 10) (hmb : ∀ x ∈ ms, x < 1024) (hpl : p.length ≤ 10) (hpb : ∀ x ∈ p, 0 ≤ x ∧ x ≤ 1000) (pp : Nat) (ac : List Nat) (hac : ac.length = pp + 1) (hac1 : pp ≤ 100) (N i M Lf K : Int) (L k : Nat) (hL : Lf = (L : Int)) (hLs : L < 2 ^ ms.length) (hK : K = (k : Int)) (hk : k < p.length) :
    Ylds P T 6 [I K] [some (.row 1 [[.sl 5 0 (pp + 1) false]]), some (.row 1 [[.pv [mv, pv0] 0]]), some (.row 1 [[.int .u64 Lf]]), some (.row 1 [[.sl 4 0 p.length false]]), some (.row 1 (p.map rJ)), some (.row 1 (ac.map rN)), some (.loop (r44 N i M) [54] asg44 bd44 .ready none)] fun v h' => (v = .bool true ∧ h' = [some (.row 1 [[.sl 5 0 (pp + 1) false]]), some (.row 1 [[.pv [mv, pv0] 0]]), some (.row 1 [[.int .u64 Lf]]), some (.row 1 [[.sl 4 0 p.length false]]), some (.row 1 (p.map rJ)), some (.row 1 (ac.map rN)), some (.loop (r44 N i M) [54] asg44 bd44 .ready none)] ∧ canP ms L p k = false) ∨ (v = .bool false ∧ h' = [some (.row 1 [[.sl 8 0 (pp + 1 + 1) false]]), some (.row 1 [[.pv [mv, pv0] 0]]), some (.row 1 [[.int .u64 Lf]]), some (.row 1 [[.sl 4 0 p.length false]]), some (.row 1 ((XE p k).map rJ)), none, some (.loop (r44 N i M) [54] asg44 bd44 .done (some (.exit 2))), some (.row 1 [[I K]]), some (.row 1 (ac.map rN ++ [[I K]]))] ∧ canP ms L p k = true) := by
  have rm := fun n d => ZF hm n d
  have r0' := fun n d => ZF h0 n d
  have fm := fun H d => Zw hm H d
  have f0 := fun H d => Zw h0 H d
  have g1 : (p.map rJ)[k]? = some (rJ p[k]) := by rw [List.getElem?_map, List.getElem?_eq_getElem hk]; rfl
  have g2 : ∀ h, (p.map rJ)[k]'h = rJ p[k] := fun h => by simp
  have hgd : p.getD k 0 = p[k] := by simp [List.getD, List.getElem?_eq_getElem hk]
  have hpx := hpb _ (List.getElem_mem hk)
  have hcan : canP ms L p k = (decide (p.getD k 0 ≠ 0) && YX ms L (XE p k)) := rfl
  have hset : (p.map rJ).set k [I (p[k] - 1)] = (XE p k).map rJ := by unfold XE; rw [List.map_set, hgd]; rfl
  have hback : ((XE p k).map rJ).set k [I p[k]] = p.map rJ := by
    unfold XE; rw [List.map_set, List.set_set]
    refine List.ext_getElem? fun j => ?_
    by_cases e : k = j
    · subst e; rw [List.getElem?_set_self (by simpa using hk), g1]; rfl
    · rw [List.getElem?_set_ne e]
  have d1 : ((XE p k).map rJ)[k]? = some [I (p[k] - 1)] := by rw [← hset, List.getElem?_set_self (by simpa using hk)]
  have d2 : ∀ h, ((XE p k).map rJ)[k]'h = [I (p[k] - 1)] := fun h => by rw [List.getElem?_eq_getElem h] at d1; exact Option.some.inj d1
  have hdl := decP_len p k
  have hkd : k < (XE p k).length := by rw [hdl]; exact hk
  have tkp : (p.map rJ).take p.length = p.map rJ := List.take_of_length_le (by simp)
  have tkd : ((XE p k).map rJ).take p.length = (XE p k).map rJ := List.take_of_length_le (by simp [hdl])
  have hfz1 := fun H d => frz_rJ H d p
  have hfz2 := fun H d => frz_rJ H d (XE p k)
  have e77 : ∀ (t : Bool), p.getD k 0 ≠ 0 → o77 [.pv [mv, pv0] 0, .int .u64 Lf, .vl ((XE p k).map rJ) t] = some (.bool (YX ms L (XE p k))) := fun t hz => by
    rw [hL]; exact o77_eq (plv := .vl ((XE p k).map rJ) t) hm h0 rfl hml hmb (by rw [hdl]; exact hpl) (decP_bd hpb hz) hLs
  rw [hgd] at hcan e77
  have hwx : W .i64 (p[k] - 1) = p[k] - 1 := ZH (by omega)
  have hwz : W .i64 p[k] = p[k] := ZH (by omega)
  have hwy : W .i64 (p[k] - 1 + 1) = p[k] := by rw [Int.sub_add_cancel]; exact ZH (by omega)
  have hkt : K.toNat = k := by omega
  have hk0 : 0 ≤ K := by omega
  have hKl : K < (p.length : Int) := by omega
  rw [hcan]
  generalize YX ms L (XE p k) = B at *
  generalize hDv : (XE p k) = D at *
  generalize hDm : (D.map rJ) = Dm at *
  have hDl : Dm.length = p.length := by rw [← hDm, List.length_map, hdl]
  have hDk : k < Dm.length := by rw [hDl]; exact hk
  generalize p[k] = x at *
  have hst1 : ((ac.map rN).all fun r => r.all ZE) = true := by simp [rN]
  have hr1 : ((ac.map rN).all fun r => r.length == 1) = true := by simp [rN]
  have htk : (ac.map rN).take (pp + 1) = ac.map rN := List.take_of_length_le (by simp [hac])
  have hac' : (ac.map rN).length = pp + 1 := by simp [hac]
  have hlm : pp + 1 + 1 ≤ 1048576 := by omega
  refine ylds_of rfl rfl ?_
  show Runs P T (some 6) asg44 ⟨(r44 N i M).set 54 (I K), [some (.row 1 [[.sl 5 0 (pp + 1) false]]), some (.row 1 [[.pv [mv, pv0] 0]]), some (.row 1 [[.int .u64 Lf]]), some (.row 1 [[.sl 4 0 p.length false]]), some (.row 1 (p.map rJ)), some (.row 1 (ac.map rN)), some (.loop (r44 N i M) [54] asg44 bd44 .ready none)]⟩ _
  unfold asg44 r44
  refine zR (zO (by simp; rfl) ?_)
  refine ⟨rfl, _, _, _, _, _, rfl, ?_⟩
  unfold bd44
  have HH1 := And.intro h77 (And.intro rm (And.intro r0' (And.intro fm (And.intro f0 (And.intro g1 (And.intro g2 (And.intro hkt (And.intro hk0 (And.intro hKl (And.intro hk (And.intro hwx (And.intro hwy (And.intro hwz (And.intro d1 (And.intro d2 (And.intro tkp (And.intro tkd (And.intro hDl (And.intro hDk (And.intro hset (And.intro hback (And.intro htk (And.intro hac' hlm)))))))))))))))))))))))
  refine zL ?_
  refine zS ?_
  refine zS ?_
  refine zR (zO (by simp [zC h77, YG, trim, rJ, ↓hfz1, ↓hfz2, -List.getElem?_map, -List.getElem_map, -List.map_set, ↓hst1, ↓hr1, HH1]; rfl) ?_)
  simp only [zT, zB]
  by_cases hz : x = 0
  · subst hz
    refine Zi (x := true) (by simp) ?_
    refine ZI ?_
    simp only [zT, zB, if_true, if_false, reduceIte, Nat.reduceEqDiff, Nat.succ_ne_zero, Nat.one_ne_zero, Nat.zero_ne_one]
    exact ⟨_, _, _, _, _, _, rfl, .inl ⟨by trivial, by simp [zC h77, YG, trim, rJ, ↓hfz1, ↓hfz2, -List.getElem?_map, -List.getElem_map, -List.map_set, ↓hst1, ↓hr1, HH1, r44], by simp⟩⟩
  · have hzb : (x == 0) = false := by simpa using hz
    have e77 := fun t => e77 t hz
    refine Zi (x := false) (by simp [hz]) ?_
    refine zK ?_
    simp only [zT, zB]
    refine zS ?_
    refine zR (zO (by simp [zC h77, YG, trim, rJ, ↓hfz1, ↓hfz2, -List.getElem?_map, -List.getElem_map, -List.map_set, ↓hst1, ↓hr1, HH1, hz, hzb, e77]; rfl) ?_)
    simp only [zT, zB]
    refine zS ?_
    refine zS ?_
    refine zR (zO (by simp [zC h77, YG, trim, rJ, ↓hfz1, ↓hfz2, -List.getElem?_map, -List.getElem_map, -List.map_set, ↓hst1, ↓hr1, HH1, hz, hzb, e77]; rfl) ?_)
    simp only [zT, zB]
    cases B
    · refine Zi (x := false) (by simp) ?_
      refine zK ?_
      simp only [zT, zB]
      refine zR (zO (by simp [zC h77, YG, trim, rJ, ↓hfz1, ↓hfz2, -List.getElem?_map, -List.getElem_map, -List.map_set, ↓hst1, ↓hr1, HH1, hz, hzb, e77]; rfl) ?_)
      simp only [zT, zB]
      exact ⟨_, _, _, _, _, _, rfl, .inl ⟨by trivial, by simp [zC h77, YG, trim, rJ, ↓hfz1, ↓hfz2, -List.getElem?_map, -List.getElem_map, -List.map_set, ↓hst1, ↓hr1, HH1, hz, hzb, e77, r44], by simp⟩⟩
    · refine Zi (x := true) (by simp) ?_
      refine zS ?_
      refine zR (zO (by simp [zC h77, YG, trim, rJ, ↓hfz1, ↓hfz2, -List.getElem?_map, -List.getElem_map, -List.map_set, ↓hst1, ↓hr1, HH1, hz, hzb, e77]; rfl) ?_)
      simp only [zT, zB]
      refine ZI ?_
      simp only [zT, zB, if_true, if_false, reduceIte, Nat.reduceEqDiff, Nat.succ_ne_zero, Nat.one_ne_zero, Nat.zero_ne_one]
      exact ⟨_, _, _, _, _, _, rfl, .inr ⟨by trivial, by simp [zC h77, YG, trim, rJ, ↓hfz1, ↓hfz2, -List.getElem?_map, -List.getElem_map, -List.map_set, ↓hst1, ↓hr1, HH1, hz, hzb, e77, r44], by simp [hz]⟩⟩
end
section
attribute [local simp] Yj ZU YP YM XR Xo disj YY holes YZ ZX Xb news eqB Xc eqA YK Xi toCs ofCs stA Yz ZV Yr dI1 dI2 dI3 dI5 elt
attribute [local simp] st_any st_und st_agg st_tup XX st_int XU st_ref st_pv XT st_sl st_vl XV st_mp st_fn XW st_yld co_any co_und co_agg co_tup co_bool co_int co_nilp co_ref co_pv co_nils co_sl co_vl co_nilm co_mp co_fn co_nilf co_yld
attribute [local simp] backB backB1 Ya Zq freshE lim lop Yk okA okBlk plainA posOf putH rbB_row setH
def YQ (n : Nat) : Nat → Nat
  | 0 => 2 ^ n - 1
  | k + 1 => ldN (YQ n k) (2 ^ k)
theorem leftM_lt {n : Nat} (hn : n ≤ 10) : ∀ k, YQ n k < 2 ^ n
  | 0 => by have := Nat.two_pow_pos n; simp only [YQ]; omega
  | k + 1 => by
    have h1 := leftM_lt hn k
    have h2 := two_le hn
    have := ldN_le (a := YQ n k) (b := 2 ^ k) (by omega)
    simp only [YQ]; omega
def XO (ms : List Nat) (n : Nat) : Nat → List Int → List Nat
  | 0, _ => []
  | f + 1, p => match (Zp (ms.getD (n - (f + 1)) 0)).find? (canP ms (YQ n (n - f)) p) with
    | some k => k :: XO ms n f (XE p k)
    | none => XO ms n f p
theorem storeG_step (ms : List Nat) {n k : Nat} (h : k < n) (p : List Int) : XO ms n (n - k) p = match (Zp (ms.getD k 0)).find? (canP ms (YQ n (k + 1)) p) with
    | some j => j :: XO ms n (n - (k + 1)) (XE p j)
    | none => XO ms n (n - (k + 1)) p := by
  obtain ⟨f, hf⟩ : ∃ f, n - k = f + 1 := ⟨n - k - 1, by omega⟩
  rw [hf]
  simp only [XO]
  rw [show n - (f + 1) = k by omega, show n - f = k + 1 by omega, show n - (k + 1) = f by omega]
theorem renB_rJ (K : List Nat) (H : Zj) (d : Nat) (l : List Int) : Zf (Zf (YI K H (d + 1))) (l.map rJ) = some (l.map rJ) := Zu _ fun r hr => Zu _ fun x hx => by
  obtain ⟨y, _, rfl⟩ := List.mem_map.1 hr
  simp only [rJ, List.mem_singleton] at hx
  subst hx; rfl
theorem renB_rN (K : List Nat) (H : Zj) (d : Nat) (l : List Nat) : Zf (Zf (YI K H (d + 1))) (l.map rN) = some (l.map rN) := Zu _ fun r hr => Zu _ fun x hx => by
  obtain ⟨y, _, rfl⟩ := List.mem_map.1 hr
  simp only [rN, List.mem_singleton] at hx
  subst hx; rfl
def storeV (u d : Int) (its : List It5) (rs : List Rm3) : Za :=
  if depE u d its rs = 0 then (if YX (mays u d its rs) (2 ^ its.length - 1) (rs.map fun r => r.2.2) = true then .tup [encL (XO (mays u d its rs) its.length its.length (rs.map fun r => r.2.2)), I 0] else .tup [.nils, I 9])
  else .tup [.nils, I (depE u d its rs)]
theorem depE_ok {u d : Int} {its : List It5} {rs : List Rm3} (h : depE u d its rs = 0) : its.length ≤ 7 ∧ rs.length ≤ 4 ∧ (∀ x ∈ its, itB x = true) ∧ ∀ x ∈ rs, rmB x = true := by
  unfold depE at h
  split at h
  · simp at h
  · split at h
    · simp at h
    · rename_i h2
      simp only [Bool.or_eq_true, decide_eq_true_eq, not_or] at h2
      split at h
      · simp at h
      · rename_i h3
        simp only [Bool.or_eq_true, not_or, Bool.not_eq_true, List.any_eq_false, Bool.not_eq_eq_eq_not, Bool.not_not] at h3
        refine ⟨by omega, by omega, fun x hx => ?_, fun x hx => ?_⟩
        · have := h3.1 x hx; simpa using this
        · have := h3.2 x hx; simpa using this
theorem places_bd {rs : List Rm3} (h : ∀ x ∈ rs, rmB x = true) : ∀ x ∈ rs.map (fun r : Rm3 => r.2.2), 0 ≤ x ∧ x ≤ 7 := by
  intro x hx
  obtain ⟨r, hr, rfl⟩ := List.mem_map.1 hx
  have := h r hr
  simp only [rmB, wB, List.all_cons, List.all_nil, Bool.and_true, Bool.and_eq_true, decide_eq_true_eq] at this
  omega
theorem mays_lt (u d : Int) (its : List It5) (rs : List Rm3) : ∀ x ∈ mays u d its rs, x < 2 ^ rs.length := by
  intro x hx
  obtain ⟨y, _, rfl⟩ := List.mem_map.1 hx
  exact mayK_lt u d y rs rs.length
theorem fits_none {ms : List Nat} {n : Nat} (hn : n ≤ 10) (h0 : ∀ i < n, ms.getD i 0 = 0) (h : YX ms (2 ^ n - 1) [] = true) : n = 0 := by
  rcases Nat.eq_zero_or_pos n with h1 | h1
  · exact h1
  · unfold YX at h
    rw [List.all_eq_true] at h
    have h2 := h 0 (List.mem_range.2 (by simp))
    simp only [bits_zero, hasL, decide_eq_true_eq] at h2
    have hb : 0 ∈ Zp (2 ^ n - 1) := mem_bits.2 ⟨by omega, by rw [Nat.testBit_two_pow_sub_one]; simpa using h1⟩
    have h3 : 0 ∈ (Zp (2 ^ n - 1)).filter fun i => subN (ms.getD i 0) 0 := by
      rw [List.mem_filter]
      exact ⟨hb, by rw [h0 0 h1]; rfl⟩
    have h4 : 0 < needL ms 0 (Zp (2 ^ n - 1)) := List.length_pos_of_mem h3
    omega
theorem a44 (T : Nat → Option CFn) (hTb : ZB Tryz.prog GG T) (hT : T 8 = some c8) (h75 : T 28 = some { c28 with body := annK [(7696581395468, [.cell 10 0]), (2166395068749415481073468416, [.cell 10 1])] [] c28.body, frsh := false, orc := o75 }) (h77 : T 30 = some { c30 with frsh := true, orc := o77 }) (h69 : T 31 = some c31) (h92 : T 54 = some { c54 with frsh := true, orc := o92 }) (h76 : T 29 = some { c29 with eff := freshE true sClone }) (u d : Int) (x y : Za) (its : List It5) (rs : List Rm3) (hx : Zm x = some (its.map rI5)) (hy : Zm y = some (rs.map rM3)) (hl : its.length ≤ 1000 ∧ rs.length ≤ 1000) : CAns Tryz.prog GG 8 [.agg [I u, I d], x, y] [] fun v h => frz false h 5 v = some (storeV u d its rs) := by
 have lx := Zv hx
 rw [List.length_map] at lx
 have rx := fun n d => ZF hx n d
 have fx := fun H d => Zw hx H d
 obtain ⟨cx1, cx2⟩ := Zy hx
 have ly := Zv hy
 rw [List.length_map] at ly
 have ry := fun n d => ZF hy n d
 have fy := fun H d => Zw hy H d
 obtain ⟨cy1, cy2⟩ := Zy hy
 have e75 := o75_eq hx hy hl u d
 refine cans_of hTb hT ?_
 simp only [oo, om, op, og, ci, cl, c8]
 by_cases hE : depE u d its rs = 0
 ·unfold depV at e75
  unfold storeV
  rw [if_pos hE] at e75 ⊢
  obtain ⟨hi7, hr4, _, hrb⟩ := depE_ok hE
  have hpb7 := places_bd hrb
  have hms := mays_lt u d its rs
  have hpll : (rs.map fun r : Rm3 => r.2.2).length = rs.length := by simp
  have hmsl : (mays u d its rs).length = its.length := by simp [mays]
  generalize mays u d its rs = ms at *
  generalize (rs.map fun r : Rm3 => r.2.2) = pl at *
  rw [← hpll] at hms
  have hm16 := Nat.pow_le_pow_right (n := 2) (by decide) (show pl.length ≤ 4 by omega)
  have hm := encU_rows ms
  have h0 := encJ_rows pl
  have hmb : ∀ x ∈ ms, x < 1024 := fun x hx => by have := hms x hx; omega
  have hpb : ∀ x ∈ pl, 0 ≤ x ∧ x ≤ 1000 := fun x hx => by have := hpb7 x hx; omega
  obtain ⟨n, hn⟩ : ∃ n, n = its.length := ⟨_, rfl⟩
  rw [← hn] at hmsl lx hi7 ⊢
  have h2n := two_le (show n ≤ 10 by omega)
  have h2p := Nat.two_pow_pos n
  have hsh : shI .shl .u64 1 (n : Int) = some (.int .u64 ((2 ^ n : Nat) : Int)) := shl_one (by omega) .u64 (.inr rfl)
  have hL0 : YQ n 0 = 2 ^ n - 1 := rfl
  have hwL : W .u64 (((2 ^ n : Nat) : Int) - 1) = ((YQ n 0 : Nat) : Int) := by rw [hL0, show ((2 ^ n : Nat) : Int) - 1 = ((2 ^ n - 1 : Nat) : Int) by omega, W_u (by omega)]
  rw [← hL0]
  have hll := leftM_lt (show n ≤ 10 by omega)
  obtain ⟨N, hN⟩ : ∃ N : Int, (n : Int) = N := ⟨_, rfl⟩
  rw [hN] at hsh
  generalize ((2 ^ n : Nat) : Int) = n2 at *
  obtain ⟨L0, hL00⟩ : ∃ L : Int, ((YQ n 0 : Nat) : Int) = L := ⟨_, rfl⟩
  rw [hL00] at hwL
  have rm := fun n d => ZF hm n d
  have r0' := fun n d => ZF h0 n d
  have fm := fun H d => Zw hm H d
  have f0 := fun H d => Zw h0 H d
  have nm_ : ∀ K H, YI K H 5 (.pv [encU ms, encJ pl] 0) = some (.pv [encU ms, encJ pl] 0) := fun K H => XJ K H 5 _ (by simp [rm, r0'])
  have nx_ : ∀ K H, YI K H 5 x = some x := fun K H => XJ K H 5 x (rx 0 4)
  by_cases hp0 : pl = []
  ·subst hp0
   have hmv0 : ∀ i < n, ms.getD i 0 = 0 := fun i hi => by
    have hi2 : i < ms.length := by omega
    have e : ms.getD i 0 = ms[i] := by simp [List.getD, List.getElem?_eq_getElem hi2]
    rw [e]; have := hms _ (List.getElem_mem hi2); simp at this; exact this
   have hfn := fun h => fits_none (show n ≤ 10 by omega) hmv0 h
   rw [← hL0] at hfn
   have e77 := o77_eq (mv := encU ms) (pv0 := encJ []) (plv := .nils) (pl := []) (s := YQ n 0) hm h0 rfl (by omega) hmb (by simp) (by simp) (by rw [hmsl]; exact hll 0)
   rw [hL00] at e77
   have hjn : encJ [] = .nils := rfl
   rw [hjn] at *
   generalize encU ms = mv at *
   generalize YX ms (YQ n 0) [] = B at *
   have HH1 := zA h75 (zA h77 (zA h76 (zA lx (zA rx (zA fx (zA cx1 (zA cx2 (zA ly (zA ry (zA fy (zA cy1 (zA cy2 (zA e75 (zA hN (zA hwL (zA rm (zA r0' (zA fm (zA f0 e77)))))))))))))))))))
   refine Zc ?_
   refine Ze Zh hTb (zR (zO (by simp [zC h75, zC h77, Zb h76 rfl, trim, -Zd, ↓hsh, sClone, HH1]; rfl) ?_))
   simp only [zT, zB]
   refine Zc ?_
   refine Ze Zh hTb (zR (zO (by simp [zC h75, zC h77, Zb h76 rfl, trim, -Zd, ↓hsh, sClone, HH1]; rfl) ?_))
   simp only [zT, zB]
   refine Zc ?_
   refine Zc ?_
   refine Ze Zh hTb (zR (zO (by simp [zC h75, zC h77, Zb h76 rfl, trim, -Zd, ↓hsh, sClone, HH1]; rfl) ?_))
   simp only [zT, zB]
   refine Zs (x := false) (by simp) ?_
   refine Zx ?_
   simp only [zT, zB]
   refine Zc ?_
   refine Ze Zh hTb (Yd (by simp (maxSteps := 3000000) [zC h75, zC h77, Zb h76 rfl, trim, -Zd, ↓hsh, sClone, HH1]; rfl) ?_)
   simp only [zT, zB]
   refine Zc ?_
   refine Zc ?_
   refine Ze Zh hTb (zR (zO (by simp [zC h75, zC h77, Zb h76 rfl, trim, -Zd, ↓hsh, sClone, HH1]; rfl) ?_))
   simp only [zT, zB]
   cases B
   ·refine Zs (x := true) (by simp) ?_
    refine Zc ?_
    refine Ze Zh hTb (zR (zO (by simp [zC h75, zC h77, Zb h76 rfl, trim, -Zd, ↓hsh, sClone, HH1]; rfl) ?_))
    simp only [zT, zB]
    refine Ym ?_
    simp [zC h75, zC h77, Zb h76 rfl, trim, -Zd, ↓hsh, sClone, HH1]
   ·have hn0 : n = 0 := hfn rfl
    rw [if_pos rfl, hn0, show XO ms 0 0 [] = [] from rfl]
    have hN0 : N = 0 := by omega
    refine Zs (x := false) (by simp) ?_
    refine Zx ?_
    simp only [zT, zB]
    refine Zc ?_
    refine Zc ?_
    refine Ze Zh hTb (zR (zO (by simp [zC h75, zC h77, Zb h76 rfl, trim, -Zd, ↓hsh, sClone, HH1, hN0]; rfl) ?_))
    simp only [zT, zB]
    refine Yu ?_
    refine cruns_loop (k := 0) (fun m σ => σ = _) ⟨_, ren_kill 18015223143204800, rfl⟩ ?_
    rintro m σ rfl
    simp only [Xj]
    refine Zc ?_
    refine Ze Zh hTb (zR (zO (by simp [zC h75, zC h77, Zb h76 rfl, trim, -Zd, ↓hsh, sClone, HH1, hN0]; rfl) ?_))
    simp only [zT, zB]
    refine Zc ?_
    refine Zs (x := false) (by simp [zC h75, zC h77, Zb h76 rfl, trim, -Zd, ↓hsh, sClone, HH1, hN0]) ?_
    refine YO ?_
    simp only [zT, zB, if_true, if_false, reduceIte, Nat.reduceEqDiff, Nat.succ_ne_zero, Nat.one_ne_zero, Nat.zero_ne_one]
    refine Zc ?_
    refine Ze Zh hTb (zR (zO (by simp [zC h75, zC h77, Zb h76 rfl, trim, -Zd, ↓hsh, sClone, HH1, hN0]; rfl) ?_))
    simp only [zT, zB]
    refine Ym ?_
    simp [zC h75, zC h77, Zb h76 rfl, trim, -Zd, ↓hsh, sClone, HH1, hN0, encL]
  ·have hplp : 0 < pl.length := List.length_pos_iff.2 hp0
   have hjc : encJ pl = .vl (pl.map rJ) false := by unfold encJ; rw [if_neg (by simpa using hp0)]
   have e76 : sClone [encJ pl] = some (.sl 0 0 pl.length false, [some (.row 1 (pl.map rJ))]) := by
    rw [hjc]; simp only [sClone, dJ1_self hpb]; rw [if_pos (by omega)]
   have hokb : okBlk true (some (Blk.row 1 (pl.map rJ))) = true := by simp [rJ]
   have hfz0 := fun H d => frz_rJ H d pl
   have tkp : (pl.map rJ).take pl.length = pl.map rJ := List.take_of_length_le (by simp)
   have hrj : ∀ n d, ((pl.map rJ).all fun r => r.all (rb n (d + 1))) = true := fun n d => rJ_rb n d pl
   have e77 : ∀ t, o77 [.pv [encU ms, encJ pl] 0, .int .u64 L0, .vl (pl.map rJ) t] = some (.bool (YX ms (YQ n 0) pl)) := fun t => by
    rw [← hL00]; exact o77_eq (plv := .vl (pl.map rJ) t) hm h0 rfl (by omega) hmb (by omega) hpb (by rw [hmsl]; exact hll 0)
   have hren := fun K H d l => renB_rJ K H d l
   clear hjc
   generalize encU ms = mv at *
   generalize encJ pl = pv0 at *
   generalize YX ms (YQ n 0) pl = B at *
   have HH2 := zA h75 (zA h77 (zA h76 (zA lx (zA rx (zA fx (zA cx1 (zA cx2 (zA ly (zA ry (zA fy (zA cy1 (zA cy2 (zA e75 (zA hN (zA hwL (zA rm (zA r0' (zA fm (zA f0 (zA e76 (zA e77 tkp)))))))))))))))))))))
   refine Zc ?_
   refine Ze Zh hTb (zR (zO (by simp [zC h75, zC h77, Zb h76 rfl, trim, -Zd, ↓hsh, ↓hokb, ↓hfz0, ↓hrj, HH2]; rfl) ?_))
   simp only [zT, zB]
   refine Zc ?_
   refine Ze Zh hTb (zR (zO (by simp [zC h75, zC h77, Zb h76 rfl, trim, -Zd, ↓hsh, ↓hokb, ↓hfz0, ↓hrj, HH2]; rfl) ?_))
   simp only [zT, zB]
   refine Zc ?_
   refine Zc ?_
   refine Ze Zh hTb (zR (zO (by simp [zC h75, zC h77, Zb h76 rfl, trim, -Zd, ↓hsh, ↓hokb, ↓hfz0, ↓hrj, HH2]; rfl) ?_))
   simp only [zT, zB]
   refine Zs (x := false) (by simp) ?_
   refine Zx ?_
   simp only [zT, zB]
   refine Zc ?_
   refine Ze Zh hTb (Yd (by simp (maxSteps := 3000000) [zC h75, zC h77, Zb h76 rfl, trim, -Zd, ↓hsh, ↓hokb, ↓hfz0, ↓hrj, HH2]; rfl) ?_)
   simp only [zT, zB]
   refine Zc ?_
   refine Zc ?_
   refine Ze Zh hTb (zR (zO (by simp [zC h75, zC h77, Zb h76 rfl, trim, -Zd, ↓hsh, ↓hokb, ↓hfz0, ↓hrj, HH2]; rfl) ?_))
   simp only [zT, zB]
   cases B
   ·refine Zs (x := true) (by simp) ?_
    refine Zc ?_
    refine Ze Zh hTb (zR (zO (by simp [zC h75, zC h77, Zb h76 rfl, trim, -Zd, ↓hsh, ↓hokb, ↓hfz0, ↓hrj, HH2]; rfl) ?_))
    simp only [zT, zB]
    refine Ym ?_
    simp [zC h75, zC h77, Zb h76 rfl, trim, -Zd, ↓hsh, ↓hokb, ↓hfz0, ↓hrj, HH2]
   ·rw [if_pos rfl]
    refine Zs (x := false) (by simp) ?_
    refine Zx ?_
    simp only [zT, zB]
    refine Zc ?_
    refine Zc ?_
    refine Ze Zh hTb (zR (zO (by simp [zC h75, zC h77, Zb h76 rfl, trim, -Zd, ↓hsh, ↓hokb, ↓hfz0, ↓hrj, HH2]; rfl) ?_))
    simp only [zT, zB]
    refine Yu ?_
    refine cruns_loop (k := n - 0) (fun m σ => ∃ (k : Nat) (i Lf : Int) (p : List Int) (ac : List Nat), i = k ∧ n - k = m ∧ k ≤ n ∧ Lf = (YQ n k : Nat) ∧ p.length = pl.length ∧ (∀ x ∈ p, 0 ≤ x ∧ x ≤ 1000) ∧ ac.length ≤ k ∧ (∀ x ∈ ac, x < 10) ∧ ac ++ XO ms n (n - k) p = XO ms n n pl ∧ ((ac = [] ∧ σ = ⟨[.any, .any, .any, .any, .any, .any, .ref 0 0 0, I 0, .ref 1 0 0, .ref 2 0 0, .ref 3 0 0, .any, .any, .any, .any, .any, .any, .any, .any, .any, .any, .any, .any, .any, .any, .any, .any, .any, .any, .any, .any, .any, .any, .any, .any, .any, .any, .any, I N, I i, .any, .any, .any, .any, .any, .any, .any, .any, .any, .any, .any, .any, .any, .any, .und, .any, .any, .any, .any, .any, .any, .any, .any, .any, .any, .any, .any, .any, .any, .any, .any, .any, .any, .any, .any, .any, .any, .any, .any, .any, .any, .any], [some (.row 1 [[.nils]]), some (.row 1 [[.pv [mv, pv0] 0]]), some (.row 1 [[.int .u64 Lf]]), some (.row 1 [[.sl 4 0 p.length false]]), some (.row 1 (p.map rJ)), none]⟩) ∨ (∃ pp : Nat, ac.length = pp + 1 ∧ σ = ⟨[.any, .any, .any, .any, .any, .any, .ref 0 0 0, I 0, .ref 1 0 0, .ref 2 0 0, .ref 3 0 0, .any, .any, .any, .any, .any, .any, .any, .any, .any, .any, .any, .any, .any, .any, .any, .any, .any, .any, .any, .any, .any, .any, .any, .any, .any, .any, .any, I N, I i, .any, .any, .any, .any, .any, .any, .any, .any, .any, .any, .any, .any, .any, .any, .und, .any, .any, .any, .any, .any, .any, .any, .any, .any, .any, .any, .any, .any, .any, .any, .any, .any, .any, .any, .any, .any, .any, .any, .any, .any, .any, .any], [some (.row 1 [[.sl 5 0 (pp + 1) false]]), some (.row 1 [[.pv [mv, pv0] 0]]), some (.row 1 [[.int .u64 Lf]]), some (.row 1 [[.sl 4 0 p.length false]]), some (.row 1 (p.map rJ)), some (.row 1 (ac.map rN))]⟩))) ⟨_, ren_kk 18015223143204800 [1, 2, 12, 13, 16, 99] (by decide) (by simp) rfl (by simp [zr, renE, renB, Xn, zC h75, zC h77, Zb h76 rfl, trim, -Zd, ↓hsh, HH2, nm_, ↓hren] <;> rfl) (by simp [zr, renE, renB, Xn, zC h75, zC h77, Zb h76 rfl, trim, -Zd, ↓hsh, HH2, nm_, ↓hren] <;> rfl), 0, 0, L0, pl, [], rfl, rfl, Nat.zero_le _, hL00.symm, rfl, hpb, Nat.zero_le _, (fun x h => by simp at h), rfl, .inl ⟨rfl, by simp⟩⟩ ?_
    rintro m σ ⟨k, i, Lf, p, ac, hik, rfl, hkn, hLf, hpl2, hpb2, hack, hac10, hR, hcase⟩
    rcases hcase with ⟨hac0, rfl⟩ | ⟨pp, hacl, rfl⟩
    ·have htk := trivial
     have hfzz := trivial
     have hrn := fun K H d l => renB_rN K H d l
     have hie := trivial
     refine Zc ?_
     refine Ze Zh hTb (zR (zO (by simp [zC h75, zC h77, Zb h76 rfl, trim, -Zd, ↓hsh, HH2, nm_, ↓hren, ↓hrn]; rfl) ?_))
     simp only [zT, zB]
     refine Zc ?_
     refine Xg (x := decide (i < N)) (by simp) (fun hlt => ?_) (fun hlt => ?_)
     ·have hlt := of_decide_eq_true hlt
      have hkn' : k < n := by omega
      have hkm : k < ms.length := by omega
      obtain ⟨tm, rfl⟩ := ZG hm (k := k) (by simpa using hkm)
      have hi0 : 0 ≤ i := by omega
      have htn : i.toNat = k := by omega
      have hwi : W .i64 (i + 1) = i + 1 := ZH (by omega)
      have g1 : (ms.map rU)[k]? = some (rU ms[k]) := by rw [List.getElem?_map, List.getElem?_eq_getElem hkm]; rfl
      have g2 : ∀ h, (ms.map rU)[k]'h = rU ms[k] := fun h => by simp
      have hgd : ms.getD k 0 = ms[k] := by simp [List.getD, List.getElem?_eq_getElem hkm]
      have hst := storeG_step ms hkn' p
      rw [hgd] at hst
      have hsh2 : shI .shl .u64 1 i = some (.int .u64 ((2 ^ k : Nat) : Int)) := by rw [hik]; exact shl_one (by omega) .u64 (.inr rfl)
      have hno := not_u (a := YQ n k) (b := 2 ^ k)
      rw [show ldN (YQ n k) (2 ^ k) = YQ n (k + 1) from rfl, ← hLf] at hno
      have hlk := hll (k + 1)
      obtain ⟨L2, hL2⟩ : ∃ L : Int, L = ((YQ n (k + 1) : Nat) : Int) := ⟨_, rfl⟩
      rw [← hL2] at hno
      have hMb := hms _ (List.getElem_mem hkm)
      have hM10 : ms[k] < 1024 := by omega
      obtain ⟨M, hM⟩ : ∃ M : Int, ((ms[k] : Nat) : Int) = M := ⟨_, rfl⟩
      have hru : rU ms[k] = [.int .u64 M] := by rw [← hM]; rfl
      generalize hmk : ms[k] = mk at *
      generalize ((2 ^ k : Nat) : Int) = p2 at *
      have HH3 := zA nm_ (zA hi0 (zA htn (zA hwi (zA g1 (zA g2 (zA hru hkm))))))
      have HH4 := zA hsh (zA hren (zA hrn (zA hsh2 hno)))
      refine Zx ?_
      simp only [zT, zB]
      refine Zc ?_
      refine Yu ?_
      refine Zc ?_
      refine Ze Zh hTb (zR (zO (by simp [zC h75, zC h77, Zb h76 rfl, trim, -Zd, HH2, -List.getElem?_map, -List.getElem_map, HH3, ↓HH4]; rfl) ?_))
      simp only [zT, zB]
      refine Zc ?_
      refine Ze Zh hTb (Yd (by simp (maxSteps := 3000000) [zC h75, zC h77, Zb h76 rfl, trim, -Zd, HH2, -List.getElem?_map, -List.getElem_map, HH3, ↓HH4]; rfl) ?_)
      simp only [zT, zB]
      refine cruns_ren (ren_kk 18015223143206848 [0, 1, 2, 3, 4, 5] (by decide) (by simp) rfl (by simp [zr, renE, renB, Xn, zC h75, zC h77, Zb h76 rfl, trim, -Zd, HH2, -List.getElem?_map, -List.getElem_map, HH3, ↓HH4] <;> rfl) (by simp [zr, renE, renB, Xn, zC h75, zC h77, Zb h76 rfl, trim, -Zd, HH2, -List.getElem?_map, -List.getElem_map, HH3, ↓HH4] <;> rfl)) ?_
      skip
      refine Zc ?_
      refine Ze Zh hTb (zR (zO (by simp [zC h75, zC h77, Zb h76 rfl, trim, -Zd, HH2, -List.getElem?_map, -List.getElem_map, HH3, ↓HH4]; rfl) ?_))
      simp only [zT, zB]
      refine cruns_ren (ren_kk 27022422397945792 [0, 1, 2, 3, 4, 5] (by decide) (by simp) rfl (by simp [zr, renE, renB, Xn, zC h75, zC h77, Zb h76 rfl, trim, -Zd, HH2, -List.getElem?_map, -List.getElem_map, HH3, ↓HH4] <;> rfl) (by simp [zr, renE, renB, Xn, zC h75, zC h77, Zb h76 rfl, trim, -Zd, HH2, -List.getElem?_map, -List.getElem_map, HH3, ↓HH4] <;> rfl)) ?_
      refine Yu ?_
      refine Ze Zh hTb (runs_rf (f := 31) (a := [.int .u64 M]) (b := []) (by simp [inLoop]) (by simp) ?_)
      have hit := it69s Tryz.prog T h69 h92 mk hM10 6 7 (fun l g => (∀ j ∈ l, j < p.length) ∧ l.find? (canP ms (YQ n (k + 1)) p) = (Zp mk).find? (canP ms (YQ n (k + 1)) p) ∧ g = [some (.row 1 [[.nils]]), some (.row 1 [[.pv [.vl (ms.map rU) tm, pv0] 0]]), some (.row 1 [[.int .u64 L2]]), some (.row 1 [[.sl 4 0 p.length false]]), some (.row 1 (p.map rJ)), none, some (.loop (r44 N i M) [54] asg44 bd44 .ready none)])
       (fun g => ∃ j : Nat, (Zp mk).find? (canP ms (YQ n (k + 1)) p) = some j ∧ j < p.length ∧ g = [some (.row 1 [[.sl 8 0 1 false]]), some (.row 1 [[.pv [.vl (ms.map rU) tm, pv0] 0]]), some (.row 1 [[.int .u64 L2]]), some (.row 1 [[.sl 4 0 p.length false]]), some (.row 1 ((XE p j).map rJ)), none, some (.loop (r44 N i M) [54] asg44 bd44 .done (some (.exit 2))), some (.row 1 [[I (j : Nat)]]), some (.row 1 [[I (j : Nat)]])])
       (fun l g ⟨_, _, e⟩ => by rw [e]; exact Nat.le_refl 7)
       (fun l g n vs hn ⟨h1, h2, e⟩ => ⟨h1, h2, by rw [trim_same (by rw [e]; exact hn)]; exact e⟩)
       (fun g h vs ⟨_, _, e⟩ ⟨j, h1, h2, e2⟩ => ⟨j, h1, h2, by rw [e, e2]; simp [trim]⟩)
       (fun j l g ⟨h1, h2, e⟩ hj10 => by
        rw [e]
        refine (y44n Tryz.prog T h77 (.vl (ms.map rU) tm) pv0 ms p (pl.map rJ) hm h0 (by omega) hmb (by omega) hpb2 N i M L2 (j : Nat) (YQ n (k + 1)) j hL2 (by rw [hmsl]; exact hlk) rfl (h1 j (by simp))).mono ?_
        rintro v h' (⟨rfl, rfl, hc⟩ | ⟨rfl, rfl, hc⟩)
        ·exact .inl ⟨rfl, fun y hy => h1 y (by simp [hy]), by rw [← h2, List.find?_cons, hc], rfl⟩
        ·exact .inr ⟨rfl, j, by rw [← h2, List.find?_cons, hc], h1 j (by simp), rfl⟩) _
       ⟨fun j hj => by rw [hpl2]; exact bits_below hMb hj, rfl, rfl⟩
      rw [hM] at hit
      refine (show Zr Tryz.prog T 31 ([.int .u64 M] ++ [.yld 6] ++ []) [some (.row 1 [[.nils]]), some (.row 1 [[.pv [.vl (ms.map rU) tm, pv0] 0]]), some (.row 1 [[.int .u64 L2]]), some (.row 1 [[.sl 4 0 p.length false]]), some (.row 1 (p.map rJ)), none, some (.loop (r44 N i M) [54] asg44 bd44 .ready none)] _ from hit).mono ?_
      rintro _ h2 (⟨_, hf, rfl⟩ | ⟨j, hf, hjl, rfl⟩)
      ·rw [List.find?_nil] at hf
       rw [← hf] at hst
       simp only at hst
       refine ⟨_, _, _, _, _, _, rfl, by simp, ?_⟩
       simp only [List.set_cons_succ, List.set_cons_zero, List.length_cons, List.length_nil]
       try simp only [zT, zB]
       refine Ze Zh hTb (zR (zO (by simp [zC h75, zC h77, Zb h76 rfl, trim, -Zd, HH2, -List.getElem?_map, -List.getElem_map, HH3, ↓HH4]; rfl) ?_))
       simp only [zT, zB]
       exact ⟨n - (k + 1), _, by omega, ren_kk 18015223143204800 [0, 1, 2, 3, 4, 5] (by decide) (by simp) rfl (by simp [zr, renE, renB, Xn, zC h75, zC h77, Zb h76 rfl, trim, -Zd, HH2, -List.getElem?_map, -List.getElem_map, HH3, ↓HH4] <;> rfl) (by simp [zr, renE, renB, Xn, zC h75, zC h77, Zb h76 rfl, trim, -Zd, HH2, -List.getElem?_map, -List.getElem_map, HH3, ↓HH4] <;> rfl), k + 1, i + 1, L2, p, ac, by omega, rfl, by omega, hL2, hpl2, hpb2, by omega, hac10, by rw [← hst]; exact hR, .inl ⟨hac0, by simp⟩⟩
      ·rw [hf] at hst
       simp only at hst
       have hcj := List.find?_some hf
       have hjz : p.getD j 0 ≠ 0 := by
        unfold canP at hcj
        simp only [Bool.and_eq_true, decide_eq_true_eq] at hcj
        exact hcj.1
       have hdb := decP_bd hpb2 hjz
       have hdl := decP_len p j
       refine ⟨_, _, _, _, _, _, rfl, by simp, ?_⟩
       simp only [List.set_cons_succ, List.set_cons_zero, List.length_cons, List.length_nil]
       refine (ZI ?_)
       simp only [zT, zB, if_true, if_false, reduceIte, Nat.reduceEqDiff, Nat.succ_ne_zero, Nat.one_ne_zero, Nat.zero_ne_one]
       refine Ze Zh hTb (zR (zO (by simp [zC h75, zC h77, Zb h76 rfl, trim, -Zd, HH2, -List.getElem?_map, -List.getElem_map, HH3, ↓HH4, hdl]; rfl) ?_))
       simp only [zT, zB]
       exact ⟨n - (k + 1), _, by omega, ren_kk 18015223143204800 [0, 1, 2, 3, 4, 8] (by decide) (by simp) rfl (by simp [zr, renE, renB, Xn, zC h75, zC h77, Zb h76 rfl, trim, -Zd, HH2, -List.getElem?_map, -List.getElem_map, HH3, ↓HH4, hdl] <;> rfl) (by simp [zr, renE, renB, Xn, zC h75, zC h77, Zb h76 rfl, trim, -Zd, HH2, -List.getElem?_map, -List.getElem_map, HH3, ↓HH4, hdl] <;> rfl), k + 1, i + 1, L2, XE p j, ac ++ [j], by omega, rfl, by omega, hL2, by rw [hdl]; exact hpl2, hdb, by simp; omega, (fun x hx => by rcases List.mem_append.1 hx with h | h; exact hac10 x h; simp at h; omega), by rw [List.append_assoc, List.singleton_append, ← hst]; exact hR, .inr ⟨0, by simp [hac0], by simp [hdl, hac0, rN]⟩⟩
     ·have hlt := of_decide_eq_false hlt
      obtain rfl : k = n := by omega
      rw [Nat.sub_self, show XO ms k 0 p = [] from rfl, List.append_nil] at hR
      rw [← hR]
      rw [hac0]
      refine YO ?_
      simp only [zT, zB, if_true, if_false, reduceIte, Nat.reduceEqDiff, Nat.succ_ne_zero, Nat.one_ne_zero, Nat.zero_ne_one]
      refine Zc ?_
      refine Ze Zh hTb (zR (zO (by simp [zC h75, zC h77, Zb h76 rfl, trim, -Zd, ↓hsh, HH2, nm_, ↓hren, ↓hrn]; rfl) ?_))
      simp only [zT, zB]
      refine Ym ?_
      simp [zC h75, zC h77, Zb h76 rfl, trim, -Zd, ↓hsh, HH2, nm_, ↓hren, ↓hrn, encL]
    ·have htk : (ac.map rN).take (pp + 1) = ac.map rN := List.take_of_length_le (by simp [hacl])
     have hfzz := fun H d => rN_frz H d ac
     have hrn := fun K H d l => renB_rN K H d l
     have hie : ac.isEmpty = false := by cases ac with
      | nil => simp at hacl
      | cons y l => rfl
     refine Zc ?_
     refine Ze Zh hTb (zR (zO (by simp [zC h75, zC h77, Zb h76 rfl, trim, -Zd, ↓hsh, HH2, nm_, ↓hren, htk, ↓hfzz, ↓hrn, hie, hacl]; rfl) ?_))
     simp only [zT, zB]
     refine Zc ?_
     refine Xg (x := decide (i < N)) (by simp) (fun hlt => ?_) (fun hlt => ?_)
     ·have hlt := of_decide_eq_true hlt
      have hkn' : k < n := by omega
      have hkm : k < ms.length := by omega
      obtain ⟨tm, rfl⟩ := ZG hm (k := k) (by simpa using hkm)
      have hi0 : 0 ≤ i := by omega
      have htn : i.toNat = k := by omega
      have hwi : W .i64 (i + 1) = i + 1 := ZH (by omega)
      have g1 : (ms.map rU)[k]? = some (rU ms[k]) := by rw [List.getElem?_map, List.getElem?_eq_getElem hkm]; rfl
      have g2 : ∀ h, (ms.map rU)[k]'h = rU ms[k] := fun h => by simp
      have hgd : ms.getD k 0 = ms[k] := by simp [List.getD, List.getElem?_eq_getElem hkm]
      have hst := storeG_step ms hkn' p
      rw [hgd] at hst
      have hsh2 : shI .shl .u64 1 i = some (.int .u64 ((2 ^ k : Nat) : Int)) := by rw [hik]; exact shl_one (by omega) .u64 (.inr rfl)
      have hno := not_u (a := YQ n k) (b := 2 ^ k)
      rw [show ldN (YQ n k) (2 ^ k) = YQ n (k + 1) from rfl, ← hLf] at hno
      have hlk := hll (k + 1)
      obtain ⟨L2, hL2⟩ : ∃ L : Int, L = ((YQ n (k + 1) : Nat) : Int) := ⟨_, rfl⟩
      rw [← hL2] at hno
      have hMb := hms _ (List.getElem_mem hkm)
      have hM10 : ms[k] < 1024 := by omega
      obtain ⟨M, hM⟩ : ∃ M : Int, ((ms[k] : Nat) : Int) = M := ⟨_, rfl⟩
      have hru : rU ms[k] = [.int .u64 M] := by rw [← hM]; rfl
      generalize hmk : ms[k] = mk at *
      generalize ((2 ^ k : Nat) : Int) = p2 at *
      have HH5 := zA nm_ (zA htk (zA hie (zA hacl (zA hi0 (zA htn (zA hwi (zA g1 (zA g2 (zA hru hkm)))))))))
      have HH6 := zA hsh (zA hren (zA hfzz (zA hrn (zA hsh2 hno))))
      refine Zx ?_
      simp only [zT, zB]
      refine Zc ?_
      refine Yu ?_
      refine Zc ?_
      refine Ze Zh hTb (zR (zO (by simp [zC h75, zC h77, Zb h76 rfl, trim, -Zd, HH2, -List.getElem?_map, -List.getElem_map, HH5, ↓HH6]; rfl) ?_))
      simp only [zT, zB]
      refine Zc ?_
      refine Ze Zh hTb (Yd (by simp (maxSteps := 3000000) [zC h75, zC h77, Zb h76 rfl, trim, -Zd, HH2, -List.getElem?_map, -List.getElem_map, HH5, ↓HH6]; rfl) ?_)
      simp only [zT, zB]
      refine cruns_ren (ren_kk 18015223143206848 [0, 1, 2, 3, 4, 5] (by decide) (by simp) rfl (by simp [zr, renE, renB, Xn, zC h75, zC h77, Zb h76 rfl, trim, -Zd, HH2, -List.getElem?_map, -List.getElem_map, HH5, ↓HH6] <;> rfl) (by simp [zr, renE, renB, Xn, zC h75, zC h77, Zb h76 rfl, trim, -Zd, HH2, -List.getElem?_map, -List.getElem_map, HH5, ↓HH6] <;> rfl)) ?_
      skip
      refine Zc ?_
      refine Ze Zh hTb (zR (zO (by simp [zC h75, zC h77, Zb h76 rfl, trim, -Zd, HH2, -List.getElem?_map, -List.getElem_map, HH5, ↓HH6]; rfl) ?_))
      simp only [zT, zB]
      refine cruns_ren (ren_kk 27022422397945792 [0, 1, 2, 3, 4, 5] (by decide) (by simp) rfl (by simp [zr, renE, renB, Xn, zC h75, zC h77, Zb h76 rfl, trim, -Zd, HH2, -List.getElem?_map, -List.getElem_map, HH5, ↓HH6] <;> rfl) (by simp [zr, renE, renB, Xn, zC h75, zC h77, Zb h76 rfl, trim, -Zd, HH2, -List.getElem?_map, -List.getElem_map, HH5, ↓HH6] <;> rfl)) ?_
      refine Yu ?_
      refine Ze Zh hTb (runs_rf (f := 31) (a := [.int .u64 M]) (b := []) (by simp [inLoop]) (by simp) ?_)
      have hit := it69s Tryz.prog T h69 h92 mk hM10 6 7 (fun l g => (∀ j ∈ l, j < p.length) ∧ l.find? (canP ms (YQ n (k + 1)) p) = (Zp mk).find? (canP ms (YQ n (k + 1)) p) ∧ g = [some (.row 1 [[.sl 5 0 (pp + 1) false]]), some (.row 1 [[.pv [.vl (ms.map rU) tm, pv0] 0]]), some (.row 1 [[.int .u64 L2]]), some (.row 1 [[.sl 4 0 p.length false]]), some (.row 1 (p.map rJ)), some (.row 1 (ac.map rN)), some (.loop (r44 N i M) [54] asg44 bd44 .ready none)])
       (fun g => ∃ j : Nat, (Zp mk).find? (canP ms (YQ n (k + 1)) p) = some j ∧ j < p.length ∧ g = [some (.row 1 [[.sl 8 0 (pp + 1 + 1) false]]), some (.row 1 [[.pv [.vl (ms.map rU) tm, pv0] 0]]), some (.row 1 [[.int .u64 L2]]), some (.row 1 [[.sl 4 0 p.length false]]), some (.row 1 ((XE p j).map rJ)), none, some (.loop (r44 N i M) [54] asg44 bd44 .done (some (.exit 2))), some (.row 1 [[I (j : Nat)]]), some (.row 1 (ac.map rN ++ [[I (j : Nat)]]))])
       (fun l g ⟨_, _, e⟩ => by rw [e]; exact Nat.le_refl 7)
       (fun l g n vs hn ⟨h1, h2, e⟩ => ⟨h1, h2, by rw [trim_same (by rw [e]; exact hn)]; exact e⟩)
       (fun g h vs ⟨_, _, e⟩ ⟨j, h1, h2, e2⟩ => ⟨j, h1, h2, by rw [e, e2]; simp [trim]⟩)
       (fun j l g ⟨h1, h2, e⟩ hj10 => by
        rw [e]
        refine (y44s Tryz.prog T h77 (.vl (ms.map rU) tm) pv0 ms p (pl.map rJ) hm h0 (by omega) hmb (by omega) hpb2 pp ac hacl (by omega) N i M L2 (j : Nat) (YQ n (k + 1)) j hL2 (by rw [hmsl]; exact hlk) rfl (h1 j (by simp))).mono ?_
        rintro v h' (⟨rfl, rfl, hc⟩ | ⟨rfl, rfl, hc⟩)
        ·exact .inl ⟨rfl, fun y hy => h1 y (by simp [hy]), by rw [← h2, List.find?_cons, hc], rfl⟩
        ·exact .inr ⟨rfl, j, by rw [← h2, List.find?_cons, hc], h1 j (by simp), rfl⟩) _
       ⟨fun j hj => by rw [hpl2]; exact bits_below hMb hj, rfl, rfl⟩
      rw [hM] at hit
      refine (show Zr Tryz.prog T 31 ([.int .u64 M] ++ [.yld 6] ++ []) [some (.row 1 [[.sl 5 0 (pp + 1) false]]), some (.row 1 [[.pv [.vl (ms.map rU) tm, pv0] 0]]), some (.row 1 [[.int .u64 L2]]), some (.row 1 [[.sl 4 0 p.length false]]), some (.row 1 (p.map rJ)), some (.row 1 (ac.map rN)), some (.loop (r44 N i M) [54] asg44 bd44 .ready none)] _ from hit).mono ?_
      rintro _ h2 (⟨_, hf, rfl⟩ | ⟨j, hf, hjl, rfl⟩)
      ·rw [List.find?_nil] at hf
       rw [← hf] at hst
       simp only at hst
       refine ⟨_, _, _, _, _, _, rfl, by simp, ?_⟩
       simp only [List.set_cons_succ, List.set_cons_zero, List.length_cons, List.length_nil]
       try simp only [zT, zB]
       refine Ze Zh hTb (zR (zO (by simp [zC h75, zC h77, Zb h76 rfl, trim, -Zd, HH2, -List.getElem?_map, -List.getElem_map, HH5, ↓HH6]; rfl) ?_))
       simp only [zT, zB]
       exact ⟨n - (k + 1), _, by omega, ren_kk 18015223143204800 [0, 1, 2, 3, 4, 5] (by decide) (by simp) rfl (by simp [zr, renE, renB, Xn, zC h75, zC h77, Zb h76 rfl, trim, -Zd, HH2, -List.getElem?_map, -List.getElem_map, HH5, ↓HH6] <;> rfl) (by simp [zr, renE, renB, Xn, zC h75, zC h77, Zb h76 rfl, trim, -Zd, HH2, -List.getElem?_map, -List.getElem_map, HH5, ↓HH6] <;> rfl), k + 1, i + 1, L2, p, ac, by omega, rfl, by omega, hL2, hpl2, hpb2, by omega, hac10, by rw [← hst]; exact hR, .inr ⟨pp, hacl, by simp⟩⟩
      ·rw [hf] at hst
       simp only at hst
       have hcj := List.find?_some hf
       have hjz : p.getD j 0 ≠ 0 := by
        unfold canP at hcj
        simp only [Bool.and_eq_true, decide_eq_true_eq] at hcj
        exact hcj.1
       have hdb := decP_bd hpb2 hjz
       have hdl := decP_len p j
       refine ⟨_, _, _, _, _, _, rfl, by simp, ?_⟩
       simp only [List.set_cons_succ, List.set_cons_zero, List.length_cons, List.length_nil]
       refine (ZI ?_)
       simp only [zT, zB, if_true, if_false, reduceIte, Nat.reduceEqDiff, Nat.succ_ne_zero, Nat.one_ne_zero, Nat.zero_ne_one]
       have hap : ∀ K H d, Zf (Zf (YI K H (d + 1))) (ac.map rN ++ [[I (j : Nat)]]) = some (ac.map rN ++ [[I (j : Nat)]]) := fun K H d => by
        have h := renB_rN K H d (ac ++ [j])
        rwa [List.map_append] at h
       refine Ze Zh hTb (zR (zO (by simp [zC h75, zC h77, Zb h76 rfl, trim, -Zd, HH2, -List.getElem?_map, -List.getElem_map, HH5, ↓HH6, ↓hap, hdl]; rfl) ?_))
       simp only [zT, zB]
       exact ⟨n - (k + 1), _, by omega, ren_kk 18015223143204800 [0, 1, 2, 3, 4, 8] (by decide) (by simp) rfl (by simp [zr, renE, renB, Xn, zC h75, zC h77, Zb h76 rfl, trim, -Zd, HH2, -List.getElem?_map, -List.getElem_map, HH5, ↓HH6, ↓hap, hdl] <;> rfl) (by simp [zr, renE, renB, Xn, zC h75, zC h77, Zb h76 rfl, trim, -Zd, HH2, -List.getElem?_map, -List.getElem_map, HH5, ↓HH6, ↓hap, hdl] <;> rfl), k + 1, i + 1, L2, XE p j, ac ++ [j], by omega, rfl, by omega, hL2, by rw [hdl]; exact hpl2, hdb, by simp; omega, (fun x hx => by rcases List.mem_append.1 hx with h | h; exact hac10 x h; simp at h; omega), by rw [List.append_assoc, List.singleton_append, ← hst]; exact hR, .inr ⟨pp + 1, by simp [hacl], by simp [hdl, rN]⟩⟩
     ·have hlt := of_decide_eq_false hlt
      obtain rfl : k = n := by omega
      rw [Nat.sub_self, show XO ms k 0 p = [] from rfl, List.append_nil] at hR
      rw [← hR]
      refine YO ?_
      simp only [zT, zB, if_true, if_false, reduceIte, Nat.reduceEqDiff, Nat.succ_ne_zero, Nat.one_ne_zero, Nat.zero_ne_one]
      refine Zc ?_
      refine Ze Zh hTb (zR (zO (by simp [zC h75, zC h77, Zb h76 rfl, trim, -Zd, ↓hsh, HH2, nm_, ↓hren, htk, ↓hfzz, ↓hrn, hie, hacl]; rfl) ?_))
      simp only [zT, zB]
      refine Ym ?_
      simp [zC h75, zC h77, Zb h76 rfl, trim, -Zd, ↓hsh, HH2, nm_, ↓hren, htk, ↓hfzz, ↓hrn, hie, hacl, encL]
 ·unfold depV at e75
  unfold storeV
  rw [if_neg hE] at e75 ⊢
  have hEb : (depE u d its rs != 0) = true := by simpa using hE
  generalize depE u d its rs = E at *
  have HH7 := zA h75 (zA h77 (zA h76 (zA lx (zA rx (zA fx (zA cx1 (zA cx2 (zA ly (zA ry (zA fy (zA cy1 (zA cy2 (zA e75 hEb)))))))))))))
  refine Zc ?_
  refine Ze Zh hTb (zR (zO (by simp [zC h75, zC h77, Zb h76 rfl, trim, -Zd, HH7]; rfl) ?_))
  simp only [zT, zB]
  refine Zc ?_
  refine Ze Zh hTb (zR (zO (by simp [zC h75, zC h77, Zb h76 rfl, trim, -Zd, HH7]; rfl) ?_))
  simp only [zT, zB]
  refine Zc ?_
  refine Zc ?_
  refine Ze Zh hTb (zR (zO (by simp [zC h75, zC h77, Zb h76 rfl, trim, -Zd, HH7]; rfl) ?_))
  simp only [zT, zB]
  refine Zs (x := true) (by simp) ?_
  refine Zc ?_
  refine Ze Zh hTb (zR (zO (by simp [zC h75, zC h77, Zb h76 rfl, trim, -Zd, HH7]; rfl) ?_))
  simp only [zT, zB]
  refine Ym ?_
  simp [zC h75, zC h77, Zb h76 rfl, trim, -Zd, HH7]
end
end
end Go.Proofs.YtpebmjeomlgmdaaGreatDoor.Tab
