/- Contracts of flow: events in order. No condition. -/
import Derived.Test.YtjjapdagllclkaaGreatRows
import Derived.Test.YtjjapdagllclkaaGreatChecked
import Derived.OpenShut
import Derived.JoinedOf
import Derived.Handed
import Derived.Test.YtjjapdagllclkaaGreatPzDQueu
import Derived.Test.YtjjapdagllclkaaGreatPzBQueu
set_option linter.unusedSimpArgs false
set_option linter.unusedVariables false
namespace Go.Proofs.YtjjapdagllclkaaGreat.Tab
open Go Go.Abs Go.Proofs
set_option maxRecDepth 100000
set_option maxHeartbeats 4000000
set_option linter.unusedSimpArgs false
set_option linter.unusedVariables false
section
attribute [local simp] frz_int frz_bool frz_vl frz_pv frz_agg frz_tup frz_fn frz_ref frz_sl frz_nils optAll orcF rb_int rb_bool rb_agg rb_tup rb_int' rb_bool' rb_vl rb_pv rb_yld rb_nilf rb_nilp rb_nils rb_any rb_und rb_ref rb_sl rb_fn slE chunk fillA evParts evParts3 putAt List.range_succ List.range_zero List.range'_succ List.range'_zero runX_nil' unary_not evalS_pure evAll_nil evAll_cons runX_cons stepX wantedA dop CV.ev putK_eq setK_eq appK_eq fA_eq fI_eq fN_eq fRow_eq fRows_eq nth_eq Out.v putT List.replicate_succ zT zB arI pointee Abs.rowAt ldRow allV toV toC ofV ofC Builtin.min_ Builtin.min2 Builtin.max_ Builtin.max2 min_if max_if resA tupA kill trim_self trim_len trim_emp trim_nil lenA
attribute [local simp] runD_nil' runD_cons' stepD actK_eq actD clash disj masks holes maskH unmaskH diffs news eqB allB eqA ldRowN wrote toCs ofCs stA rowsV_vl rowsV_nils rowsOf dI1 dI2 dI3 dI5 elt
attribute [local simp] st_any st_und st_agg st_tup st_bool st_int st_nilp st_ref st_pv st_nils st_sl st_vl st_nilm st_mp st_fn st_nilf st_yld co_any co_und co_agg co_tup co_bool co_int co_nilp co_ref co_pv co_nils co_sl co_vl co_nilm co_mp co_fn co_nilf co_yld
attribute [local simp] Function.comp_def List.all_append List.all_map above callA calleeA frNB_none frNB_row frN_agg frN_bool frN_int frN_nils frN_ref frN_sl frN_tup frN_vl frzG gather getR lim lop loud lowA lowR norm okG putG putR rbB_none rbB_row resG rowAt takeG
def rU (v : List Int) : List AVal := v.map fun n => .int .u8 n
def dU1 : AVal → Option Int
  | .int .u8 n => some n
  | _ => none
def dU (r : List AVal) : Option (List Int) := optAll dU1 r
theorem dU_eq {r : List AVal} {v : List Int} (h : dU r = some v) : r = rU v := by
  unfold dU at h
  induction r generalizing v with
  | nil => simp only [optAll, Option.some.injEq] at h; subst h; rfl
  | cons a r ih =>
    simp only [optAll] at h
    split at h <;> (try simp only [reduceCtorEq] at h)
    rename_i y ys h1 h2
    cases h
    unfold dU1 at h1
    split at h1 <;> simp at h1
    subst h1
    rw [ih h2]; rfl
theorem rU_len (v : List Int) : (rU v).length = v.length := by simp [rU]
theorem rU_get {v : List Int} {k : Nat} (h : k < v.length) : (rU v)[k]? = some (.int .u8 (v.getD k 0)) := by
  unfold rU; rw [List.getElem?_map, List.getD_eq_getElem?_getD, List.getElem?_eq_getElem h]; rfl
theorem rU_stor (v : List Int) : (rU v).all storable = true := by
  simp only [List.all_eq_true]
  intro z hz
  obtain ⟨a, _, rfl⟩ := List.mem_map.1 hz
  rfl
theorem rU_rb (n d : Nat) (v : List Int) : (rU v).all (rb n (d + 1)) = true := by
  simp only [List.all_eq_true]
  intro z hz
  obtain ⟨a, _, rfl⟩ := List.mem_map.1 hz
  rfl
structure FWorks where
  m : Int
  k : Int
  g : List Int
  xs : List (List Int)
  ys : List (List Int)
  o : List Int
def isU (n : Int) : Prop := 0 ≤ n ∧ n ≤ 255
instance (n : Int) : Decidable (isU n) := by unfold isU; infer_instance
structure WkOk (w : FWorks) : Prop where
  m : isU w.m
  k : isU w.k
  g : w.g.length = 16 ∧ ∀ n ∈ w.g, isU n
  xs : ∀ v ∈ w.xs, v.length = 4 ∧ ∀ n ∈ v, isU n
  ys : ∀ v ∈ w.ys, v.length = 7 ∧ ∀ n ∈ v, isU n
  o : w.o.length = 6 ∧ ∀ n ∈ w.o, isU n
def wkC (w : FWorks) (x y : AVal) : List AVal := .int .u8 w.m :: .int .u8 w.k :: (rU w.g ++ [x, y] ++ rU w.o)
def wM (w : FWorks) : Int := 1 + w.m.tmod 4
def wK (w : FWorks) : Int := 1 + w.k.tmod 4
def gAt (w : FWorks) (i k : Nat) : Int := w.g.getD (i * 4 + k) 0
def wRow (w : FWorks) (i n : Nat) : List Int := (List.range n).map fun k => (gAt w i k).tmod 40
def wC (w : FWorks) (n : Nat) : List (List Int) := (List.range n).map fun i => wRow w i (wK w).toNat
def v_ (v : List Int) (k : Nat) : Int := v.getD k 0
def wStop (w : FWorks) (v : List Int) : FStop := ((v_ v 0).tmod (wM w), 2 * v_ v 1 + (v_ v 2).tmod 2, 2 * v_ v 1 + (v_ v 2).tmod 2 + 1 + (v_ v 3).tmod 60)
def wT (w : FWorks) (n : Nat) : List FStop := (w.xs.take n).map (wStop w)
def wMin (v : List Int) (k : Nat) : Int := max 0 ((v_ v (3 + k)).tmod 90 - 10)
def wMins (v : List Int) (n : Nat) : List Int := (List.range n).map (wMin v)
def wJob (w : FWorks) (v : List Int) : FJob := ⟨(v_ v 0).tmod (wK w), v_ v 1, 3 * v_ v 2, wMins v (wM w).toNat⟩
def wJ (w : FWorks) (n : Nat) : List FJob := (w.ys.take n).map (wJob w)
def wShop (w : FWorks) : FShop := ⟨wM w, wC w (wK w).toNat, wT w (min w.xs.length 6)⟩
def wJobs (w : FWorks) : List FJob := wJ w (min w.ys.length 5)
theorem range_map1 {α : Type} (f : Nat → α) (n : Nat) : (List.range (n + 1)).map f = (List.range n).map f ++ [f n] := by rw [List.range_succ, List.map_append]; rfl
theorem take_map1 {α β : Type} (f : α → β) {l : List α} {n : Nat} (h : n < l.length) : (l.take (n + 1)).map f = (l.take n).map f ++ [f l[n]] := by rw [List.take_succ_eq_append_getElem h, List.map_append]; rfl
def encN (ts : List FStop) : AVal := match ts with | [] => .nils | x :: l => .vl ((x :: l).map rS3) false
theorem encN_ne {ts : List FStop} (h : ts ≠ []) : encN ts = .vl (ts.map rS3) false := by cases ts with | nil => exact absurd rfl h | cons x l => rfl
theorem dStops_encN (ts : List FStop) : dStops (encN ts) = some ts := by
  cases ts with
  | nil => rfl
  | cons x l => exact dStops_of (v := .vl ((x :: l).map rS3) false) rfl
theorem frN_rI (n : Nat) (h : Heap) (xs : List Int) : ∀ r ∈ xs.map rI, optAll (frN n h 5) r = some r := fun r hr => by
  obtain ⟨j, _, rfl⟩ := List.mem_map.1 hr; rfl
theorem frN_rS3 (n : Nat) (h : Heap) (xs : List FStop) : ∀ r ∈ xs.map rS3, optAll (frN n h 5) r = some r := fun r hr => by
  obtain ⟨j, _, rfl⟩ := List.mem_map.1 hr; rfl
theorem mins_fit {l : List Int} {k : Nat} (h : ∀ n ∈ l, isU n) : isU (l.getD k 0) := by
  rw [List.getD_eq_getElem?_getD]
  cases e : l[k]? with
  | none => exact ⟨by simp, by simp⟩
  | some n => exact h n (List.mem_of_getElem? e)
def tl41 : CC := (.seq (.reg [⟨(some 101), (.bsl 4 0 [(.int .i64 (0)), (.int .i64 (0)), (.int .i64 (0)), .nils] []), none, []⟩, ⟨(some 12), (.mv (.t 101)), none, []⟩]) (.seq (.seq (.reg [⟨(some 13), (.mv (.c (.int .i64 (0)))), none, []⟩]) (.block 6 (.loopG 12342 [.slot 12] (.seq (.seq (.reg [⟨(some 102), (.mv (.t 13)), none, []⟩, ⟨(some 103), (.fa 19 (.t 1)), none, []⟩, ⟨(some 104), (.ld (.t 103)), none, []⟩, ⟨(some 105), (.len (.t 104)), none, []⟩, ⟨(some 106), (.ar .lss (.t 102) (.t 105)), none, []⟩, ⟨(some 107), (.mv (.t 106)), none, []⟩, ⟨(some 108), (.mv (.t 13)), (some (107, true)), []⟩, ⟨(some 109), (.ar .lss (.t 108) (.c (.int .i64 (5)))), (some (107, true)), []⟩, ⟨(some 110), (.pick (.t 107) (.t 109) (.c (.bool false))), none, []⟩]) (.cond (.t 110) .skip (.exit 6))) (.seq (.block 7 (.seq (.reg [⟨(some 113), (.fa 19 (.t 1)), none, []⟩, ⟨(some 114), (.ld (.t 113)), none, []⟩, ⟨(some 115), (.mv (.t 13)), none, []⟩, ⟨(some 116), (.ias 7 (.t 114) (.t 115)), none, []⟩, ⟨(some 117), (.ldn 7 (.t 116)), none, []⟩, ⟨(some 14), (.new [(.int .u8 (0)), (.int .u8 (0)), (.int .u8 (0)), (.int .u8 (0)), (.int .u8 (0)), (.int .u8 (0)), (.int .u8 (0))]), none, []⟩, ⟨none, (.st 7 (.t 14) (.t 117)), none, []⟩]) (.seq (.drw [⟨(some 118), (.iaa 7 1 (.t 14) (.c (.int .i64 (0)))), none, []⟩, ⟨(some 119), (.ld (.t 118)), none, []⟩, ⟨(some 120), (.conv .i64 (.t 119)), none, []⟩, ⟨(some 121), (.mv (.t 5)), none, [0, 1, 2]⟩, ⟨(some 122), (.ar .rem (.t 120) (.t 121)), none, []⟩, ⟨(some 123), (.iaa 7 1 (.t 14) (.c (.int .i64 (1)))), none, [0, 1, 2, 3, 4]⟩, ⟨(some 124), (.ld (.t 123)), none, [0, 1, 2, 3, 4]⟩, ⟨(some 125), (.conv .i64 (.t 124)), none, [0, 1, 2, 3, 4]⟩, ⟨(some 126), (.iaa 7 1 (.t 14) (.c (.int .i64 (2)))), none, [0, 1, 2, 3, 4, 5, 6, 7]⟩, ⟨(some 127), (.ld (.t 126)), none, [0, 1, 2, 3, 4, 5, 6, 7]⟩, ⟨(some 128), (.conv .i64 (.t 127)), none, [0, 1, 2, 3, 4, 5, 6, 7]⟩, ⟨(some 129), (.ar .mul (.c (.int .i64 (3))) (.t 128)), none, [0, 1, 2, 3, 4, 5, 6, 7]⟩, ⟨(some 130), (.bld [(.int .i64 (0)), (.int .i64 (0)), (.int .i64 (0)), .nils] [(0, (1, (.t 122))), (1, (1, (.t 125))), (2, (1, (.t 129)))]), none, []⟩, ⟨(some 15), (.new [(.int .i64 (0)), (.int .i64 (0)), (.int .i64 (0)), .nils]), none, [0, 1, 2, 3, 4, 5, 6, 7, 8, 9, 10, 11, 12]⟩, ⟨none, (.st 4 (.t 15) (.t 130)), none, []⟩]) (.seq (.seq (.reg [⟨(some 16), (.mv (.c (.int .i64 (0)))), none, []⟩]) (.block 8 (.loopG 127030 [.cell 15 3] (.seq (.seq (.reg [⟨(some 131), (.mv (.t 16)), none, []⟩, ⟨(some 132), (.fa 0 (.t 4)), none, []⟩, ⟨(some 133), (.ld (.t 132)), none, []⟩, ⟨(some 134), (.ar .lss (.t 131) (.t 133)), none, []⟩]) (.cond (.t 134) .skip (.exit 8))) (.seq (.block 9 (.drw [⟨(some 137), (.fa 3 (.t 15)), none, []⟩, ⟨(some 138), (.ld (.t 137)), none, []⟩, ⟨(some 139), (.mv (.t 16)), none, [0, 1]⟩, ⟨(some 140), (.ar .add (.c (.int .i64 (3))) (.t 139)), none, [0, 1]⟩, ⟨(some 141), (.iaa 7 1 (.t 14) (.t 140)), none, [0, 1]⟩, ⟨(some 142), (.ld (.t 141)), none, [0, 1]⟩, ⟨(some 143), (.conv .i64 (.t 142)), none, [0, 1]⟩, ⟨(some 144), (.ar .rem (.t 143) (.c (.int .i64 (90)))), none, [0, 1]⟩, ⟨(some 145), (.ar .sub (.t 144) (.c (.int .i64 (10)))), none, [0, 1]⟩, ⟨(some 146), (.mx [(.c (.int .i64 (0))), (.t 145)]), none, [0, 1]⟩, ⟨(some 147), (.bsl 1 1 [(.int .i64 (0))] [(0, (.t 146))]), none, [0, 1]⟩, ⟨(some 148), (.app 1 (.t 138) (.t 147)), none, []⟩, ⟨(some 149), (.fa 3 (.t 15)), none, []⟩, ⟨none, (.st 1 (.t 149) (.t 148)), none, []⟩])) (.reg [⟨(some 135), (.mv (.t 16)), none, []⟩, ⟨(some 136), (.ar .add (.t 135) (.c (.int .i64 (1)))), none, []⟩, ⟨(some 16), (.mv (.t 136)), none, []⟩])))))) (.reg [⟨(some 150), (.mv (.t 12)), none, []⟩, ⟨(some 151), (.ldn 4 (.t 15)), none, []⟩, ⟨(some 152), (.bsl 4 1 [(.int .i64 (0)), (.int .i64 (0)), (.int .i64 (0)), .nils] [(0, (.t 151))]), none, []⟩, ⟨(some 153), (.app 4 (.t 150) (.t 152)), none, []⟩, ⟨(some 12), (.mv (.t 153)), none, []⟩]))))) (.reg [⟨(some 111), (.mv (.t 13)), none, []⟩, ⟨(some 112), (.ar .add (.t 111) (.c (.int .i64 (1)))), none, []⟩, ⟨(some 13), (.mv (.t 112)), none, []⟩])))))) (.seq (.reg [⟨(some 154), (.ldn 3 (.t 4)), none, []⟩, ⟨(some 155), (.mv (.t 12)), none, []⟩, ⟨none, (.st 3 (.t 2) (.t 154)), none, []⟩, ⟨(some 3), (.mv (.t 155)), none, []⟩]) .ret)))
theorem tail41 (P : Program) (T : Nat → Option CFn) (W_ : FWorks) (ac1 : List (List Int)) (Ts : List FStop) (cells : List AVal) (y : AVal) (kn mn : Nat) (tv : AVal) (tb : Option Blk) (hM1 : 1 ≤ mn) (hM4 : mn ≤ 4) (hK1 : 1 ≤ kn) (hK4 : kn ≤ 4) (hmn : wM W_ = mn) (hkn : wK W_ = kn) (hacl1 : ac1.length = kn)
  (ly : lenA y = some W_.ys.length) (hy : rowsV y = some (W_.ys.map rU)) (bys : ∀ v ∈ W_.ys, v.length = 7 ∧ ∀ n ∈ v, isU n) (crb : ∀ n, cells.all (rb n 5) = true) (ry : ∀ n d, rb n (d + 1) y = true) (c19 : cells[19]? = some y)
  (h1 : ∀ n, 5 ≤ n → rb n 5 tv = true) (h2 : ∀ n, 5 ≤ n → rbB n tb = true) (h3 : cellsOf tv = some [tv]) (h4 : storable tv = true) (hT : ∀ a b c d l, frz false (a :: b :: c :: d :: tb :: l) 3 tv = some (encN Ts)) (v0 v3 v6 v7 v8 v9 v10 v11 v12 v13 v14 v15 v16 v17 v18 v19 v20 v21 v22 v23 v24 v25 v26 v27 v28 v29 v30 v31 v32 v33 v34 v35 v36 v37 v38 v39 v40 v41 v42 v43 v44 v45 v46 v47 v48 v49 v50 v51 v52 v53 v54 v55 v56 v57 v58 v59 v60 v61 v62 v63 v64 v65 v66 v67 v68 v69 v70 v71 v72 v73 v74 v75 v76 v77 v78 v79 v80 v81 v82 v83 v84 v85 v86 v87 v88 v89 v90 v91 v92 v93 v94 v95 v96 v97 v98 v99 v100 v101 v102 v103 v104 v105 v106 v107 v108 v109 v110 v111 v112 v113 v114 v115 v116 v117 v118 v119 v120 v121 v122 v123 v124 v125 v126 v127 v128 v129 v130 v131 v132 v133 v134 v135 v136 v137 v138 v139 v140 v141 v142 v143 v144 v145 v146 v147 v148 v149 v150 v151 v152 v153 v154 v155 : AVal) :
  Runs P T none tl41 ⟨[v0, .ref 0 0 0, .ref 1 0 0, v3, .ref 2 0 0, I (kn : Int), v6, v7, v8, v9, v10, v11, v12, v13, v14, v15, v16, v17, v18, v19, v20, v21, v22, v23, v24, v25, v26, v27, v28, v29, v30, v31, v32, v33, v34, v35, v36, v37, v38, v39, v40, v41, v42, v43, v44, v45, v46, v47, v48, v49, v50, v51, v52, v53, v54, v55, v56, v57, v58, v59, v60, v61, v62, v63, v64, v65, v66, v67, v68, v69, v70, v71, v72, v73, v74, v75, v76, v77, v78, v79, v80, v81, v82, v83, v84, v85, v86, v87, v88, v89, v90, v91, v92, v93, v94, v95, v96, v97, v98, v99, v100, v101, v102, v103, v104, v105, v106, v107, v108, v109, v110, v111, v112, v113, v114, v115, v116, v117, v118, v119, v120, v121, v122, v123, v124, v125, v126, v127, v128, v129, v130, v131, v132, v133, v134, v135, v136, v137, v138, v139, v140, v141, v142, v143, v144, v145, v146, v147, v148, v149, v150, v151, v152, v153, v154, v155], [some (.row 26 [cells]), some (.row 3 [[I 0, .nils, .nils]]), some (.row 3 [[I (mn : Int), .sl 3 0 kn false, tv]]), some (.row 1 (ac1.map rowC)), tb]⟩ fun e σ => (∀ id, e ≠ .exit id) ∧ ∃ vs, resA σ.t σ.h [.ldn 3 2, .tmp 3] = some vs ∧ frz false (trim ([] : Heap).length [tupA vs] σ.h) 5 (tupA vs) = some (.tup [.agg [I (wM W_), encC ac1, encN Ts], encJ (wJ W_ (min W_.ys.length 5))]) := by
 have frb := fun n => rowC_rb n 4 ac1
 have tvr6 := h1 6 (by decide)
 have tvr23 := h1 23 (by decide)
 have tbr6 := h2 6 (by decide)
 have tbr23 := h2 23 (by decide)
 have hCne : ac1 ≠ [] := by intro e; rw [e] at hacl1; simp at hacl1; omega
 have hCe : encC ac1 = .vl (ac1.map rowC) false := encC_ne hCne
 have tk1 : (ac1.map rowC).take kn = ac1.map rowC := List.take_of_length_le (by simp [hacl1])
 have fzC := fun H d => frz_rowC H d ac1
 have hkt : (wK W_).toNat = kn := by omega
 have hmt : (wM W_).toNat = mn := by omega
 have g19 := fun (h : 19 < cells.length) => Option.some.inj ((List.getElem?_eq_getElem h).symm.trans c19)
 unfold tl41
 have HH1 := zA ly (zA g19 (zA ry (zA tvr6 (zA tvr23 (zA tbr6 (zA tbr23 (zA h3 (zA h4 (zA hT (zA hacl1 (zA tk1 (zA fzC (zA hCe hmn)))))))))))))
 refine zS ?_
 refine zR (zO (by simp [-lenA, c19, ↓crb, ↓frb, HH1]; rfl) ?_)
 simp only [zT, zB]
 refine zS ?_
 refine zS ?_
 refine zR (zO (by simp [-lenA, c19, ↓crb, ↓frb, HH1]; rfl) ?_)
 simp only [zT, zB]
 refine zL ?_
 refine runs_loopG_inv (fun mm4 σ => ∃ (k4 : Nat) (i4 : Int), i4 = k4 ∧ (min W_.ys.length 5) - k4 = mm4 ∧ k4 ≤ (min W_.ys.length 5) ∧ ((k4 = 0 ∧ σ = ⟨[.any, .ref 0 0 0, .ref 1 0 0, .any, .ref 2 0 0, I (kn : Int), .any, .any, .any, .any, .any, .any, .sl 6 0 0 true, I i4, .any, .any, .any, .any, .any, .any, .any, .any, .any, .any, .any, .any, .any, .any, .any, .any, .any, .any, .any, .any, .any, .any, .any, .any, .any, .any, .any, .any, .any, .any, .any, .any, .any, .any, .any, .any, .any, .any, .any, .any, .any, .any, .any, .any, .any, .any, .any, .any, .any, .any, .any, .any, .any, .any, .any, .any, .any, .any, .any, .any, .any, .any, .any, .any, .any, .any, .any, .any, .any, .any, .any, .any, .any, .any, .any, .any, .any, .any, .any, .any, .any, .any, .any, .any, .any, .any, .any, .any, .any, .any, .any, .any, .any, .any, .any, .any, .any, .any, .any, .any, .any, .any, .any, .any, .any, .any, .any, .any, .any, .any, .any, .any, .any, .any, .any, .any, .any, .any, .any, .any, .any, .any, .any, .any, .any, .any, .any, .any, .any, .any, .any, .any, .any, .any, .any, .any, .any, .any, .any, .any, .any, .any], [some (.row 26 [cells]), some (.row 3 [[I 0, .nils, .nils]]), some (.row 3 [[I (mn : Int), .sl 3 0 kn false, tv]]), some (.row 1 (ac1.map rowC)), tb, none, some (.row 4 [])]⟩) ∨ (∃ (p4 : Nat) (ac4 : List (FJob)), k4 = p4 + 1 ∧ ac4 = wJ W_ (k4) ∧ ac4.length = p4 + 1 ∧ σ = ⟨[.any, .ref 0 0 0, .ref 1 0 0, .any, .ref 2 0 0, I (kn : Int), .any, .any, .any, .any, .any, .any, .sl 6 0 (p4 + 1) false, I i4, .any, .any, .any, .any, .any, .any, .any, .any, .any, .any, .any, .any, .any, .any, .any, .any, .any, .any, .any, .any, .any, .any, .any, .any, .any, .any, .any, .any, .any, .any, .any, .any, .any, .any, .any, .any, .any, .any, .any, .any, .any, .any, .any, .any, .any, .any, .any, .any, .any, .any, .any, .any, .any, .any, .any, .any, .any, .any, .any, .any, .any, .any, .any, .any, .any, .any, .any, .any, .any, .any, .any, .any, .any, .any, .any, .any, .any, .any, .any, .any, .any, .any, .any, .any, .any, .any, .any, .any, .any, .any, .any, .any, .any, .any, .any, .any, .any, .any, .any, .any, .any, .any, .any, .any, .any, .any, .any, .any, .any, .any, .any, .any, .any, .any, .any, .any, .any, .any, .any, .any, .any, .any, .any, .any, .any, .any, .any, .any, .any, .any, .any, .any, .any, .any, .any, .any, .any, .any, .any, .any, .any, .any], [some (.row 26 [cells]), some (.row 3 [[I 0, .nils, .nils]]), some (.row 3 [[I (mn : Int), .sl 3 0 kn false, tv]]), some (.row 1 (ac1.map rowC)), tb, none, some (.row 4 (ac4.map rowJ))]⟩))) (by simp [-lenA, c19, ↓crb, ↓frb, HH1] <;> first | exact ⟨rfl, rfl⟩ | rfl) (⟨0, 0, rfl, rfl, Nat.zero_le _, .inl ⟨rfl, rfl⟩⟩) ?_
 rintro mm4 σ ⟨k4, i4, hik4, rfl, hkl4, ⟨hkz4, rfl⟩ | ⟨p4, ac4, hkp4, hac4, hacl4, rfl⟩⟩
 ·rcases hA4 : decide (i4 < (W_.ys.length : Int)) with _ | _
  ·refine zS ?_
   refine zS ?_
   refine zR (zO (by simp [-lenA, c19, ↓crb, ↓frb, HH1, hA4]; rfl) ?_)
   simp only [zT, zB]
   refine runs_cond (x := false) (by simp) ?_
   have hx4 := of_decide_eq_false hA4
   have hkE4 : k4 = (min W_.ys.length 5) := by omega
   have hJ0 : wJ W_ (min W_.ys.length 5) = [] := by rw [← hkE4, hkz4]; rfl
   have hJe : encJ [] = .vl [] true := rfl
   refine runs_exit ?_
   simp only [zT, zB, if_true, if_false, reduceIte, Nat.reduceEqDiff, Nat.succ_ne_zero, Nat.one_ne_zero, Nat.zero_ne_one]
   refine zS ?_
   refine zR (zO (by simp [-lenA, c19, ↓crb, ↓frb, HH1, hA4, hJ0, hJe]; rfl) ?_)
   simp only [zT, zB]
   refine runs_ret ?_
   simp [-lenA, c19, ↓crb, ↓frb, HH1, hA4, hJ0, hJe, trim]
  ·refine zS ?_
   refine zS ?_
   refine zR (zO (by simp [-lenA, c19, ↓crb, ↓frb, HH1, hA4]; rfl) ?_)
   simp only [zT, zB]
   refine runs_cond_split (x := decide (i4 < 5)) (by simp) (fun hlt4 => ?_) (fun hlt4 => ?_)
   ·have hAt4 := of_decide_eq_true hA4
    have hltt4 := of_decide_eq_true hlt4
    have hk04 : k4 < (min W_.ys.length 5) := by omega
    have hi04 : 0 ≤ i4 := by omega
    have htn4 : i4.toNat = k4 := by omega
    have hwi4 : W .i64 (i4 + 1) = i4 + 1 := W_small (by omega)
    have hyl : k4 < W_.ys.length := by omega
    obtain ⟨ty, rfl⟩ := rowsV_get hy (k := k4) (by rw [List.length_map]; omega)
    have hvv := bys _ (List.getElem_mem hyl)
    have hF4 : wJ W_ (k4 + 1) = wJ W_ k4 ++ [wJob W_ W_.ys[k4]] := take_map1 _ hyl
    generalize hV : W_.ys[k4] = v at *
    have hv0 : (rU v)[0]? = some (.int .u8 (v_ v 0)) := rU_get (by omega)
    have hv1 : (rU v)[1]? = some (.int .u8 (v_ v 1)) := rU_get (by omega)
    have hv2 : (rU v)[2]? = some (.int .u8 (v_ v 2)) := rU_get (by omega)
    have hvq : ∀ q, q < 4 → (rU v)[3 + q]? = some (.int .u8 (v_ v (3 + q))) := fun q hq => rU_get (by omega)
    have q0 := fun (h : 0 < (rU v).length) => Option.some.inj ((List.getElem?_eq_getElem h).symm.trans hv0)
    have q1 := fun (h : 1 < (rU v).length) => Option.some.inj ((List.getElem?_eq_getElem h).symm.trans hv1)
    have q2 := fun (h : 2 < (rU v).length) => Option.some.inj ((List.getElem?_eq_getElem h).symm.trans hv2)
    have hvl : (rU v).length = 7 := by rw [rU_len, hvv.1]
    have hvst := rU_stor v
    have hvrb := fun n => rU_rb n 4 v
    have hvc : cellsOf (.agg (rU v)) = some (rU v) := rfl
    have hvt : (rU v).take 7 = rU v := List.take_of_length_le (by omega)
    have hvd : (rU v).drop 7 = [] := List.drop_of_length_le (by omega)
    have b0 := mins_fit (k := 0) hvv.2
    have b1 := mins_fit (k := 1) hvv.2
    have b2 := mins_fit (k := 2) hvv.2
    have bq : ∀ q, isU (v_ v (3 + q)) := fun q => mins_fit hvv.2
    unfold wJob at hF4
    rw [hkn, hmt] at hF4
    have b01 : 0 ≤ v_ v 0 := b0.1
    have b02 : v_ v 0 ≤ 255 := b0.2
    have b11 : 0 ≤ v_ v 1 := b1.1
    have b12 : v_ v 1 ≤ 255 := b1.2
    have b21 : 0 ≤ v_ v 2 := b2.1
    have b22 : v_ v 2 ≤ 255 := b2.2
    clear b0 b1 b2
    generalize v_ v 0 = e0 at *
    generalize v_ v 1 = e1 at *
    generalize v_ v 2 = e2 at *
    have h01 : 0 ≤ e0.tmod (kn : Int) := Int.tmod_nonneg _ b01
    have h02 : e0.tmod (kn : Int) < kn := Int.tmod_lt_of_pos _ (by omega)
    have hmz : ¬ kn = 0 := by omega
    have hmzi : ¬ (kn : Int) = 0 := by omega
    have hmzb : ((kn : Int) == 0) = false := by simp; omega
    have hmm1 : ¬ ((kn : Int) = -1) := by omega
    have u0 : W .i64 e0 = e0 := W_fit (by omega)
    have u1 : W .i64 e1 = e1 := W_fit (by omega)
    have u2 : W .i64 e2 = e2 := W_fit (by omega)
    have u3 : W .i64 (3 * e2) = 3 * e2 := W_fit (by omega)
    have u4 : W .i64 (e0.tmod (kn : Int)) = e0.tmod (kn : Int) := W_fit (by omega)
    have HH2 := zA hA4 (zA hi04 (zA htn4 (zA hk04 (zA hwi4 (zA hyl (zA hV (zA hv0 (zA hv1 (zA hv2 (zA q0 (zA q1 (zA q2 (zA hvl (zA hvc (zA hvt (zA hvd (zA hmz (zA hmzi (zA hmzb (zA hmm1 (zA u0 (zA u1 (zA u2 (zA u3 u4))))))))))))))))))))))))
    refine zK ?_
    simp only [zT, zB]
    refine zS ?_
    refine zL ?_
    refine zS ?_
    refine zR (zO (by simp [-lenA, c19, ↓crb, ↓frb, HH1, ↓hvst, ↓hvrb, HH2]; rfl) ?_)
    simp only [zT, zB]
    refine zS ?_
    refine runs_drw (by simp (maxSteps := 3000000) [-lenA, c19, ↓crb, ↓frb, HH1, ↓hvst, ↓hvrb, HH2]; rfl) ?_
    simp only [zT, zB]
    refine zS ?_
    refine zS ?_
    refine zR (zO (by simp [-lenA, c19, ↓crb, ↓frb, HH1, ↓hvst, ↓hvrb, HH2]; rfl) ?_)
    simp only [zT, zB]
    refine zL ?_
    refine runs_loopG_inv (fun mm5 σ => ∃ (k5 : Nat) (i5 : Int), i5 = k5 ∧ mn - k5 = mm5 ∧ k5 ≤ mn ∧ ((k5 = 0 ∧ σ = ⟨[.any, .ref 0 0 0, .ref 1 0 0, .any, .ref 2 0 0, I (kn : Int), .any, .any, .any, .any, .any, .any, .sl 6 0 0 true, I i4, .ref 7 0 0, .ref 21 0 0, I i5, .any, .any, .any, .any, .any, .any, .any, .any, .any, .any, .any, .any, .any, .any, .any, .any, .any, .any, .any, .any, .any, .any, .any, .any, .any, .any, .any, .any, .any, .any, .any, .any, .any, .any, .any, .any, .any, .any, .any, .any, .any, .any, .any, .any, .any, .any, .any, .any, .any, .any, .any, .any, .any, .any, .any, .any, .any, .any, .any, .any, .any, .any, .any, .any, .any, .any, .any, .any, .any, .any, .any, .any, .any, .any, .any, .any, .any, .any, .any, .any, .any, .any, .any, .any, .any, .any, .any, .any, .any, .any, .any, .any, .any, .any, .any, .any, .any, .any, .any, .any, .any, .any, .any, .any, .any, .any, .any, .any, .any, .any, .any, .any, .any, .any, .any, .any, .any, .any, .any, .any, .any, .any, .any, .any, .any, .any, .any, .any, .any, .any, .any, .any, .any, .any, .any, .any, .any, .any, .any], [some (.row 26 [cells]), some (.row 3 [[I 0, .nils, .nils]]), some (.row 3 [[I (mn : Int), .sl 3 0 kn false, tv]]), some (.row 1 (ac1.map rowC)), tb, none, some (.row 4 []), some (.row 7 [rU v]), none, none, none, none, none, none, none, none, none, none, none, none, none, some (.row 4 [[I (e0.tmod (kn : Int)), I e1, I (3 * e2), .nils]]), none, none]⟩) ∨ (∃ (p5 : Nat) (ac5 : List (Int)), k5 = p5 + 1 ∧ ac5 = wMins v (k5) ∧ ac5.length = p5 + 1 ∧ σ = ⟨[.any, .ref 0 0 0, .ref 1 0 0, .any, .ref 2 0 0, I (kn : Int), .any, .any, .any, .any, .any, .any, .sl 6 0 0 true, I i4, .ref 7 0 0, .ref 21 0 0, I i5, .any, .any, .any, .any, .any, .any, .any, .any, .any, .any, .any, .any, .any, .any, .any, .any, .any, .any, .any, .any, .any, .any, .any, .any, .any, .any, .any, .any, .any, .any, .any, .any, .any, .any, .any, .any, .any, .any, .any, .any, .any, .any, .any, .any, .any, .any, .any, .any, .any, .any, .any, .any, .any, .any, .any, .any, .any, .any, .any, .any, .any, .any, .any, .any, .any, .any, .any, .any, .any, .any, .any, .any, .any, .any, .any, .any, .any, .any, .any, .any, .any, .any, .any, .any, .any, .any, .any, .any, .any, .any, .any, .any, .any, .any, .any, .any, .any, .any, .any, .any, .any, .any, .any, .any, .any, .any, .any, .any, .any, .any, .any, .any, .any, .any, .any, .any, .any, .any, .any, .any, .any, .any, .any, .any, .any, .any, .any, .any, .any, .any, .any, .any, .any, .any, .any, .any, .any, .any, .any], [some (.row 26 [cells]), some (.row 3 [[I 0, .nils, .nils]]), some (.row 3 [[I (mn : Int), .sl 3 0 kn false, tv]]), some (.row 1 (ac1.map rowC)), tb, none, some (.row 4 []), some (.row 7 [rU v]), none, none, none, none, none, none, none, none, none, none, none, none, none, some (.row 4 [[I (e0.tmod (kn : Int)), I e1, I (3 * e2), .sl 23 0 (p5 + 1) false]]), none, some (.row 1 (ac5.map rI))]⟩))) (by simp [-lenA, c19, ↓crb, ↓frb, HH1, ↓hvst, ↓hvrb, HH2] <;> first | exact ⟨rfl, rfl⟩ | rfl) (⟨0, 0, rfl, rfl, Nat.zero_le _, .inl ⟨rfl, rfl⟩⟩) ?_
    rintro mm5 σ ⟨k5, i5, hik5, rfl, hkl5, ⟨hkz5, rfl⟩ | ⟨p5, ac5, hkp5, hac5, hacl5, rfl⟩⟩
    ·refine zS ?_
     refine zS ?_
     refine zR (zO (by simp [-lenA, c19, ↓crb, ↓frb, HH1, ↓hvst, ↓hvrb, HH2]; rfl) ?_)
     simp only [zT, zB]
     refine runs_cond_split (x := _) rfl (fun hlt5 => ?_) (fun hlt5 => ?_)
     ·have hltt5 := of_decide_eq_true hlt5
      have hk05 : k5 < mn := by omega
      have hi05 : 0 ≤ i5 := by omega
      have htn5 : i5.toNat = k5 := by omega
      have hwi5 : W .i64 (i5 + 1) = i5 + 1 := W_small (by omega)
      have hk4 : k5 < 4 := by omega
      have hq := hvq k5 hk4
      have hqb := bq k5
      have hF5 : wMins v (k5 + 1) = wMins v k5 ++ [wMin v k5] := range_map1 _ _
      unfold wMin at hF5
      generalize v_ v (3 + k5) = f at *
      have f1 := hqb.1
      have f2 := hqb.2
      have f3 : 0 ≤ f.tmod 90 := Int.tmod_nonneg 90 f1
      have f4 : f.tmod 90 < 90 := Int.tmod_lt_of_pos _ (by decide)
      have y1 : W .i64 f = f := W_fit (by omega)
      have y2 : W .i64 (f.tmod 90) = f.tmod 90 := W_fit (by omega)
      have y3 : W .i64 (f.tmod 90 - 10) = f.tmod 90 - 10 := W_fit (by omega)
      have y4 : W .i64 (3 + i5) = 3 + i5 := W_fit (by omega)
      have y5 : (3 + i5).toNat = 3 + k5 := by omega
      have y6 : 0 ≤ 3 + i5 := by omega
      have y7 : 3 + i5 < 7 := by omega
      have y8 : (if 10 < f.tmod 90 then f.tmod 90 - 10 else 0) = max 0 (f.tmod 90 - 10) := by split <;> omega
      have y9 : (if 0 < f.tmod 90 - 10 then f.tmod 90 - 10 else 0) = max 0 (f.tmod 90 - 10) := by split <;> omega
      have q5 := fun (h : 3 + k5 < (rU v).length) => Option.some.inj ((List.getElem?_eq_getElem h).symm.trans hq)
      have hnx5 : [max 0 (f.tmod 90 - 10)] = wMins v (k5 + 1) := by rw [hF5, hkz5]; rfl
      have hap5 : [[I (max 0 (f.tmod 90 - 10))]] = [max 0 (f.tmod 90 - 10)].map rI := rfl
      have HH3 := zA hi05 (zA htn5 (zA hk05 (zA hwi5 (zA hq (zA q5 (zA y1 (zA y2 (zA y3 (zA y4 (zA y5 (zA y6 (zA y7 (zA y8 y9)))))))))))))
      refine zK ?_
      simp only [zT, zB]
      refine zS ?_
      refine zL ?_
      refine runs_drw (by simp (maxSteps := 3000000) [-lenA, c19, ↓crb, ↓frb, HH1, ↓hvst, ↓hvrb, HH2, zI, HH3]; rfl) ?_
      simp only [zT, zB]
      refine zR (zO (by simp [-lenA, c19, ↓crb, ↓frb, HH1, ↓hvst, ↓hvrb, HH2, zI, HH3]; rfl) ?_)
      simp only [zT, zB]
      exact ⟨mn - (k5 + 1), _, _, by omega, by simp [-lenA, c19, ↓crb, ↓frb, HH1, ↓hvst, ↓hvrb, HH2, zI, HH3] <;> first | exact ⟨rfl, rfl⟩ | rfl, k5 + 1, i5 + 1, by omega, rfl, by omega, .inr ⟨0, [max 0 (f.tmod 90 - 10)], by omega, hnx5, rfl, rfl⟩⟩
     ·have hx5 := of_decide_eq_false hlt5
      have hkE5 : k5 = mn := by omega
      omega
    ·have tk5 : (ac5.map rI).take (p5 + 1) = ac5.map rI := List.take_of_length_le (by simp [hacl5])
     have hlac5 : p5 + 1 + 1 ≤ 1048576 := by omega
     have hr35 : ∀ e : Int, (rI e).length = 1 := fun _ => rfl
     have hfr5 := fun n h r => optAll_snoc (frN_rI n h ac5) r
     have hrj5 := fun n => rI_rb n 4 ac5
     have HH4 := zA crb (zA frb (zA hvst (zA hvrb (zA hfr5 hrj5))))
     refine zS ?_
     refine zS ?_
     refine zR (zO (by simp [-lenA, c19, HH1, HH2, tk5, hlac5, hacl5, hr35, ↓HH4]; rfl) ?_)
     simp only [zT, zB]
     refine runs_cond_split (x := _) rfl (fun hlt5 => ?_) (fun hlt5 => ?_)
     ·have hltt5 := of_decide_eq_true hlt5
      have hk05 : k5 < mn := by omega
      have hi05 : 0 ≤ i5 := by omega
      have htn5 : i5.toNat = k5 := by omega
      have hwi5 : W .i64 (i5 + 1) = i5 + 1 := W_small (by omega)
      have hk4 : k5 < 4 := by omega
      have hq := hvq k5 hk4
      have hqb := bq k5
      have hF5 : wMins v (k5 + 1) = wMins v k5 ++ [wMin v k5] := range_map1 _ _
      unfold wMin at hF5
      generalize v_ v (3 + k5) = f at *
      have f1 := hqb.1
      have f2 := hqb.2
      have f3 : 0 ≤ f.tmod 90 := Int.tmod_nonneg 90 f1
      have f4 : f.tmod 90 < 90 := Int.tmod_lt_of_pos _ (by decide)
      have y1 : W .i64 f = f := W_fit (by omega)
      have y2 : W .i64 (f.tmod 90) = f.tmod 90 := W_fit (by omega)
      have y3 : W .i64 (f.tmod 90 - 10) = f.tmod 90 - 10 := W_fit (by omega)
      have y4 : W .i64 (3 + i5) = 3 + i5 := W_fit (by omega)
      have y5 : (3 + i5).toNat = 3 + k5 := by omega
      have y6 : 0 ≤ 3 + i5 := by omega
      have y7 : 3 + i5 < 7 := by omega
      have y8 : (if 10 < f.tmod 90 then f.tmod 90 - 10 else 0) = max 0 (f.tmod 90 - 10) := by split <;> omega
      have y9 : (if 0 < f.tmod 90 - 10 then f.tmod 90 - 10 else 0) = max 0 (f.tmod 90 - 10) := by split <;> omega
      have q5 := fun (h : 3 + k5 < (rU v).length) => Option.some.inj ((List.getElem?_eq_getElem h).symm.trans hq)
      have hnx5 : ac5 ++ [max 0 (f.tmod 90 - 10)] = wMins v (k5 + 1) := by rw [hF5, ← hac5]
      have hnl5 : (ac5 ++ [max 0 (f.tmod 90 - 10)]).length = p5 + 1 + 1 := by simp [hacl5]
      have hap5 : ac5.map rI ++ [[I (max 0 (f.tmod 90 - 10))]] = (ac5 ++ [max 0 (f.tmod 90 - 10)]).map rI := by rw [List.map_append]; rfl
      generalize ac5 ++ [max 0 (f.tmod 90 - 10)] = nx5 at *
      have hrx5 := fun n => rI_rb n 4 nx5
      have HH5 := zA tk5 (zA hlac5 (zA hacl5 (zA hr35 (zA hi05 (zA htn5 (zA hk05 (zA hwi5 (zA hap5 (zA hq (zA q5 (zA y1 (zA y2 (zA y3 (zA y4 (zA y5 (zA y6 (zA y7 (zA y8 y9))))))))))))))))))
      refine zK ?_
      simp only [zT, zB]
      refine zS ?_
      refine zL ?_
      refine runs_drw (by simp (maxSteps := 3000000) [-lenA, c19, HH1, HH2, ↓HH4, ↓hrx5, zI, HH5]; rfl) ?_
      simp only [zT, zB]
      refine zR (zO (by simp [-lenA, c19, HH1, HH2, ↓HH4, ↓hrx5, zI, HH5]; rfl) ?_)
      simp only [zT, zB]
      exact ⟨mn - (k5 + 1), _, _, by omega, by simp [-lenA, c19, HH1, HH2, ↓HH4, ↓hrx5, zI, HH5] <;> first | exact ⟨rfl, rfl⟩ | rfl, k5 + 1, i5 + 1, by omega, rfl, by omega, .inr ⟨p5 + 1, nx5, by omega, hnx5, hnl5, rfl⟩⟩
     ·have hx5 := of_decide_eq_false hlt5
      have hkE5 : k5 = mn := by omega
      rw [hkE5] at hac5
      have hz5 : p5 + 1 = mn := by omega
      have hne5 : ac5 ≠ [] := by intro e; rw [e] at hacl5; simp at hacl5
      rw [← hac5] at hF4
      have hro5 : rowJ ⟨e0.tmod (kn : Int), e1, 3 * e2, ac5⟩ = [I (e0.tmod (kn : Int)), I e1, I (3 * e2), .vl (ac5.map rI) false] := by unfold rowJ; rw [encE_ne hne5]
      have hrl5 : ((ac5.map rI).all fun r => r.length == 1) = true := by simp [rI]
      have hrs5 : ((ac5.map rI).all fun r => r.all storable) = true := by simp [rI]
      have hnx4 : [(⟨e0.tmod (kn : Int), e1, 3 * e2, ac5⟩ : FJob)] = wJ W_ (k4 + 1) := by rw [hF4, hkz4]; rfl
      have hap4 : [[I (e0.tmod (kn : Int)), I e1, I (3 * e2), .vl (ac5.map rI) false]] = [(⟨e0.tmod (kn : Int), e1, 3 * e2, ac5⟩ : FJob)].map rowJ := by show _ = [rowJ ((⟨e0.tmod (kn : Int), e1, 3 * e2, ac5⟩ : FJob))]; rw [hro5]
      have HH6 := zA tk5 (zA hlac5 (zA hacl5 (zA hr35 hro5)))
      refine runs_exit ?_
      simp only [zT, zB, if_true, if_false, reduceIte, Nat.reduceEqDiff, Nat.succ_ne_zero, Nat.one_ne_zero, Nat.zero_ne_one]
      refine zR (zO (by simp [-lenA, c19, HH1, HH2, ↓HH4, ↓hrl5, ↓hrs5, frz_mapI, HH6]; rfl) ?_)
      simp only [zT, zB]
      refine zR (zO (by simp [-lenA, c19, HH1, HH2, ↓HH4, ↓hrl5, ↓hrs5, frz_mapI, HH6]; rfl) ?_)
      simp only [zT, zB]
      exact ⟨(min W_.ys.length 5) - (k4 + 1), _, _, by omega, by simp [-lenA, c19, HH1, HH2, ↓HH4, ↓hrl5, ↓hrs5, frz_mapI, HH6] <;> first | exact ⟨rfl, rfl⟩ | rfl, k4 + 1, i4 + 1, by omega, rfl, by omega, .inr ⟨0, [(⟨e0.tmod (kn : Int), e1, 3 * e2, ac5⟩ : FJob)], by omega, hnx4, rfl, rfl⟩⟩
   ·have hAt4 := of_decide_eq_true hA4
    have hx4 := of_decide_eq_false hlt4
    have hkE4 : k4 = (min W_.ys.length 5) := by omega
    have hJ0 : wJ W_ (min W_.ys.length 5) = [] := by rw [← hkE4, hkz4]; rfl
    have hJe : encJ [] = .vl [] true := rfl
    refine runs_exit ?_
    simp only [zT, zB, if_true, if_false, reduceIte, Nat.reduceEqDiff, Nat.succ_ne_zero, Nat.one_ne_zero, Nat.zero_ne_one]
    refine zS ?_
    refine zR (zO (by simp [-lenA, c19, ↓crb, ↓frb, HH1, hA4, hJ0, hJe]; rfl) ?_)
    simp only [zT, zB]
    refine runs_ret ?_
    simp [-lenA, c19, ↓crb, ↓frb, HH1, hA4, hJ0, hJe, trim]
 ·have tk4 : (ac4.map rowJ).take (p4 + 1) = ac4.map rowJ := List.take_of_length_le (by simp [hacl4])
  have hlac4 : p4 + 1 + 1 ≤ 1048576 := by omega
  have hr34 : ∀ e : FJob, (rowJ e).length = 4 := fun _ => rfl
  have hfr4 := fun n h r => optAll_snoc (frN_rowJ n h ac4) r
  have hrj4 := fun n => rowJ_rb n 4 ac4
  rcases hA4 : decide (i4 < (W_.ys.length : Int)) with _ | _
  ·have HH7 := zA tk4 (zA hlac4 (zA hacl4 (zA hr34 hA4)))
   refine zS ?_
   refine zS ?_
   refine zR (zO (by simp [-lenA, c19, ↓crb, ↓frb, HH1, ↓hfr4, ↓hrj4, HH7]; rfl) ?_)
   simp only [zT, zB]
   refine runs_cond (x := false) (by simp) ?_
   have hx4 := of_decide_eq_false hA4
   have hkE4 : k4 = (min W_.ys.length 5) := by omega
   rw [hkE4] at hac4
   have hJne : ac4 ≠ [] := by intro e; rw [e] at hacl4; simp at hacl4
   have hJe : encJ ac4 = .vl (ac4.map rowJ) false := encJ_ne hJne
   have hz4 : min W_.ys.length 5 = p4 + 1 := by omega
   refine runs_exit ?_
   simp only [zT, zB, if_true, if_false, reduceIte, Nat.reduceEqDiff, Nat.succ_ne_zero, Nat.one_ne_zero, Nat.zero_ne_one]
   refine zS ?_
   refine zR (zO (by simp [-lenA, c19, ↓crb, ↓frb, HH1, ↓hfr4, ↓hrj4, HH7, hJe, ← hac4, frz_rowJ, ↓rowJ_rb]; rfl) ?_)
   simp only [zT, zB]
   refine runs_ret ?_
   simp [-lenA, c19, ↓crb, ↓frb, HH1, ↓hfr4, ↓hrj4, HH7, hJe, ← hac4, frz_rowJ, ↓rowJ_rb, trim]
  ·have HH8 := zA tk4 (zA hlac4 (zA hacl4 (zA hr34 hA4)))
   refine zS ?_
   refine zS ?_
   refine zR (zO (by simp [-lenA, c19, ↓crb, ↓frb, HH1, ↓hfr4, ↓hrj4, HH8]; rfl) ?_)
   simp only [zT, zB]
   refine runs_cond_split (x := decide (i4 < 5)) (by simp) (fun hlt4 => ?_) (fun hlt4 => ?_)
   ·have hAt4 := of_decide_eq_true hA4
    have hltt4 := of_decide_eq_true hlt4
    have hk04 : k4 < (min W_.ys.length 5) := by omega
    have hi04 : 0 ≤ i4 := by omega
    have htn4 : i4.toNat = k4 := by omega
    have hwi4 : W .i64 (i4 + 1) = i4 + 1 := W_small (by omega)
    have hyl : k4 < W_.ys.length := by omega
    obtain ⟨ty, rfl⟩ := rowsV_get hy (k := k4) (by rw [List.length_map]; omega)
    have hvv := bys _ (List.getElem_mem hyl)
    have hF4 : wJ W_ (k4 + 1) = wJ W_ k4 ++ [wJob W_ W_.ys[k4]] := take_map1 _ hyl
    generalize hV : W_.ys[k4] = v at *
    have hv0 : (rU v)[0]? = some (.int .u8 (v_ v 0)) := rU_get (by omega)
    have hv1 : (rU v)[1]? = some (.int .u8 (v_ v 1)) := rU_get (by omega)
    have hv2 : (rU v)[2]? = some (.int .u8 (v_ v 2)) := rU_get (by omega)
    have hvq : ∀ q, q < 4 → (rU v)[3 + q]? = some (.int .u8 (v_ v (3 + q))) := fun q hq => rU_get (by omega)
    have q0 := fun (h : 0 < (rU v).length) => Option.some.inj ((List.getElem?_eq_getElem h).symm.trans hv0)
    have q1 := fun (h : 1 < (rU v).length) => Option.some.inj ((List.getElem?_eq_getElem h).symm.trans hv1)
    have q2 := fun (h : 2 < (rU v).length) => Option.some.inj ((List.getElem?_eq_getElem h).symm.trans hv2)
    have hvl : (rU v).length = 7 := by rw [rU_len, hvv.1]
    have hvst := rU_stor v
    have hvrb := fun n => rU_rb n 4 v
    have hvc : cellsOf (.agg (rU v)) = some (rU v) := rfl
    have hvt : (rU v).take 7 = rU v := List.take_of_length_le (by omega)
    have hvd : (rU v).drop 7 = [] := List.drop_of_length_le (by omega)
    have b0 := mins_fit (k := 0) hvv.2
    have b1 := mins_fit (k := 1) hvv.2
    have b2 := mins_fit (k := 2) hvv.2
    have bq : ∀ q, isU (v_ v (3 + q)) := fun q => mins_fit hvv.2
    unfold wJob at hF4
    rw [hkn, hmt] at hF4
    have b01 : 0 ≤ v_ v 0 := b0.1
    have b02 : v_ v 0 ≤ 255 := b0.2
    have b11 : 0 ≤ v_ v 1 := b1.1
    have b12 : v_ v 1 ≤ 255 := b1.2
    have b21 : 0 ≤ v_ v 2 := b2.1
    have b22 : v_ v 2 ≤ 255 := b2.2
    clear b0 b1 b2
    generalize v_ v 0 = e0 at *
    generalize v_ v 1 = e1 at *
    generalize v_ v 2 = e2 at *
    have h01 : 0 ≤ e0.tmod (kn : Int) := Int.tmod_nonneg _ b01
    have h02 : e0.tmod (kn : Int) < kn := Int.tmod_lt_of_pos _ (by omega)
    have hmz : ¬ kn = 0 := by omega
    have hmzi : ¬ (kn : Int) = 0 := by omega
    have hmzb : ((kn : Int) == 0) = false := by simp; omega
    have hmm1 : ¬ ((kn : Int) = -1) := by omega
    have u0 : W .i64 e0 = e0 := W_fit (by omega)
    have u1 : W .i64 e1 = e1 := W_fit (by omega)
    have u2 : W .i64 e2 = e2 := W_fit (by omega)
    have u3 : W .i64 (3 * e2) = 3 * e2 := W_fit (by omega)
    have u4 : W .i64 (e0.tmod (kn : Int)) = e0.tmod (kn : Int) := W_fit (by omega)
    have HH9 := zA hi04 (zA htn4 (zA hk04 (zA hwi4 (zA hyl (zA hV (zA hv0 (zA hv1 (zA hv2 (zA q0 (zA q1 (zA q2 (zA hvl (zA hvc (zA hvt (zA hvd (zA hmz (zA hmzi (zA hmzb (zA hmm1 (zA u0 (zA u1 (zA u2 (zA u3 u4)))))))))))))))))))))))
    have HH10 := zA crb (zA frb (zA hfr4 (zA hrj4 (zA hvst hvrb))))
    refine zK ?_
    simp only [zT, zB]
    refine zS ?_
    refine zL ?_
    refine zS ?_
    refine zR (zO (by simp [-lenA, c19, HH1, HH8, HH9, ↓HH10]; rfl) ?_)
    simp only [zT, zB]
    refine zS ?_
    refine runs_drw (by simp (maxSteps := 3000000) [-lenA, c19, HH1, HH8, HH9, ↓HH10]; rfl) ?_
    simp only [zT, zB]
    refine zS ?_
    refine zS ?_
    refine zR (zO (by simp [-lenA, c19, HH1, HH8, HH9, ↓HH10]; rfl) ?_)
    simp only [zT, zB]
    refine zL ?_
    refine runs_loopG_inv (fun mm5 σ => ∃ (k5 : Nat) (i5 : Int), i5 = k5 ∧ mn - k5 = mm5 ∧ k5 ≤ mn ∧ ((k5 = 0 ∧ σ = ⟨[.any, .ref 0 0 0, .ref 1 0 0, .any, .ref 2 0 0, I (kn : Int), .any, .any, .any, .any, .any, .any, .sl 6 0 (p4 + 1) false, I i4, .ref 7 0 0, .ref 21 0 0, I i5, .any, .any, .any, .any, .any, .any, .any, .any, .any, .any, .any, .any, .any, .any, .any, .any, .any, .any, .any, .any, .any, .any, .any, .any, .any, .any, .any, .any, .any, .any, .any, .any, .any, .any, .any, .any, .any, .any, .any, .any, .any, .any, .any, .any, .any, .any, .any, .any, .any, .any, .any, .any, .any, .any, .any, .any, .any, .any, .any, .any, .any, .any, .any, .any, .any, .any, .any, .any, .any, .any, .any, .any, .any, .any, .any, .any, .any, .any, .any, .any, .any, .any, .any, .any, .any, .any, .any, .any, .any, .any, .any, .any, .any, .any, .any, .any, .any, .any, .any, .any, .any, .any, .any, .any, .any, .any, .any, .any, .any, .any, .any, .any, .any, .any, .any, .any, .any, .any, .any, .any, .any, .any, .any, .any, .any, .any, .any, .any, .any, .any, .any, .any, .any, .any, .any, .any, .any, .any, .any], [some (.row 26 [cells]), some (.row 3 [[I 0, .nils, .nils]]), some (.row 3 [[I (mn : Int), .sl 3 0 kn false, tv]]), some (.row 1 (ac1.map rowC)), tb, none, some (.row 4 (ac4.map rowJ)), some (.row 7 [rU v]), none, none, none, none, none, none, none, none, none, none, none, none, none, some (.row 4 [[I (e0.tmod (kn : Int)), I e1, I (3 * e2), .nils]]), none, none]⟩) ∨ (∃ (p5 : Nat) (ac5 : List (Int)), k5 = p5 + 1 ∧ ac5 = wMins v (k5) ∧ ac5.length = p5 + 1 ∧ σ = ⟨[.any, .ref 0 0 0, .ref 1 0 0, .any, .ref 2 0 0, I (kn : Int), .any, .any, .any, .any, .any, .any, .sl 6 0 (p4 + 1) false, I i4, .ref 7 0 0, .ref 21 0 0, I i5, .any, .any, .any, .any, .any, .any, .any, .any, .any, .any, .any, .any, .any, .any, .any, .any, .any, .any, .any, .any, .any, .any, .any, .any, .any, .any, .any, .any, .any, .any, .any, .any, .any, .any, .any, .any, .any, .any, .any, .any, .any, .any, .any, .any, .any, .any, .any, .any, .any, .any, .any, .any, .any, .any, .any, .any, .any, .any, .any, .any, .any, .any, .any, .any, .any, .any, .any, .any, .any, .any, .any, .any, .any, .any, .any, .any, .any, .any, .any, .any, .any, .any, .any, .any, .any, .any, .any, .any, .any, .any, .any, .any, .any, .any, .any, .any, .any, .any, .any, .any, .any, .any, .any, .any, .any, .any, .any, .any, .any, .any, .any, .any, .any, .any, .any, .any, .any, .any, .any, .any, .any, .any, .any, .any, .any, .any, .any, .any, .any, .any, .any, .any, .any, .any, .any, .any, .any, .any, .any], [some (.row 26 [cells]), some (.row 3 [[I 0, .nils, .nils]]), some (.row 3 [[I (mn : Int), .sl 3 0 kn false, tv]]), some (.row 1 (ac1.map rowC)), tb, none, some (.row 4 (ac4.map rowJ)), some (.row 7 [rU v]), none, none, none, none, none, none, none, none, none, none, none, none, none, some (.row 4 [[I (e0.tmod (kn : Int)), I e1, I (3 * e2), .sl 23 0 (p5 + 1) false]]), none, some (.row 1 (ac5.map rI))]⟩))) (by simp [-lenA, c19, HH1, HH8, HH9, ↓HH10] <;> first | exact ⟨rfl, rfl⟩ | rfl) (⟨0, 0, rfl, rfl, Nat.zero_le _, .inl ⟨rfl, rfl⟩⟩) ?_
    rintro mm5 σ ⟨k5, i5, hik5, rfl, hkl5, ⟨hkz5, rfl⟩ | ⟨p5, ac5, hkp5, hac5, hacl5, rfl⟩⟩
    ·refine zS ?_
     refine zS ?_
     refine zR (zO (by simp [-lenA, c19, HH1, HH8, HH9, ↓HH10]; rfl) ?_)
     simp only [zT, zB]
     refine runs_cond_split (x := _) rfl (fun hlt5 => ?_) (fun hlt5 => ?_)
     ·have hltt5 := of_decide_eq_true hlt5
      have hk05 : k5 < mn := by omega
      have hi05 : 0 ≤ i5 := by omega
      have htn5 : i5.toNat = k5 := by omega
      have hwi5 : W .i64 (i5 + 1) = i5 + 1 := W_small (by omega)
      have hk4 : k5 < 4 := by omega
      have hq := hvq k5 hk4
      have hqb := bq k5
      have hF5 : wMins v (k5 + 1) = wMins v k5 ++ [wMin v k5] := range_map1 _ _
      unfold wMin at hF5
      generalize v_ v (3 + k5) = f at *
      have f1 := hqb.1
      have f2 := hqb.2
      have f3 : 0 ≤ f.tmod 90 := Int.tmod_nonneg 90 f1
      have f4 : f.tmod 90 < 90 := Int.tmod_lt_of_pos _ (by decide)
      have y1 : W .i64 f = f := W_fit (by omega)
      have y2 : W .i64 (f.tmod 90) = f.tmod 90 := W_fit (by omega)
      have y3 : W .i64 (f.tmod 90 - 10) = f.tmod 90 - 10 := W_fit (by omega)
      have y4 : W .i64 (3 + i5) = 3 + i5 := W_fit (by omega)
      have y5 : (3 + i5).toNat = 3 + k5 := by omega
      have y6 : 0 ≤ 3 + i5 := by omega
      have y7 : 3 + i5 < 7 := by omega
      have y8 : (if 10 < f.tmod 90 then f.tmod 90 - 10 else 0) = max 0 (f.tmod 90 - 10) := by split <;> omega
      have y9 : (if 0 < f.tmod 90 - 10 then f.tmod 90 - 10 else 0) = max 0 (f.tmod 90 - 10) := by split <;> omega
      have q5 := fun (h : 3 + k5 < (rU v).length) => Option.some.inj ((List.getElem?_eq_getElem h).symm.trans hq)
      have hnx5 : [max 0 (f.tmod 90 - 10)] = wMins v (k5 + 1) := by rw [hF5, hkz5]; rfl
      have hap5 : [[I (max 0 (f.tmod 90 - 10))]] = [max 0 (f.tmod 90 - 10)].map rI := rfl
      have HH11 := zA hi05 (zA htn5 (zA hk05 (zA hwi5 (zA hq (zA q5 (zA y1 (zA y2 (zA y3 (zA y4 (zA y5 (zA y6 (zA y7 (zA y8 y9)))))))))))))
      refine zK ?_
      simp only [zT, zB]
      refine zS ?_
      refine zL ?_
      refine runs_drw (by simp (maxSteps := 3000000) [-lenA, c19, HH1, HH8, HH9, ↓HH10, zI, HH11]; rfl) ?_
      simp only [zT, zB]
      refine zR (zO (by simp [-lenA, c19, HH1, HH8, HH9, ↓HH10, zI, HH11]; rfl) ?_)
      simp only [zT, zB]
      exact ⟨mn - (k5 + 1), _, _, by omega, by simp [-lenA, c19, HH1, HH8, HH9, ↓HH10, zI, HH11] <;> first | exact ⟨rfl, rfl⟩ | rfl, k5 + 1, i5 + 1, by omega, rfl, by omega, .inr ⟨0, [max 0 (f.tmod 90 - 10)], by omega, hnx5, rfl, rfl⟩⟩
     ·have hx5 := of_decide_eq_false hlt5
      have hkE5 : k5 = mn := by omega
      omega
    ·have tk5 : (ac5.map rI).take (p5 + 1) = ac5.map rI := List.take_of_length_le (by simp [hacl5])
     have hlac5 : p5 + 1 + 1 ≤ 1048576 := by omega
     have hr35 : ∀ e : Int, (rI e).length = 1 := fun _ => rfl
     have hfr5 := fun n h r => optAll_snoc (frN_rI n h ac5) r
     have hrj5 := fun n => rI_rb n 4 ac5
     refine zS ?_
     refine zS ?_
     refine zR (zO (by simp [-lenA, c19, HH1, HH8, HH9, ↓HH10, tk5, hlac5, hacl5, hr35, ↓hfr5, ↓hrj5]; rfl) ?_)
     simp only [zT, zB]
     refine runs_cond_split (x := _) rfl (fun hlt5 => ?_) (fun hlt5 => ?_)
     ·have hltt5 := of_decide_eq_true hlt5
      have hk05 : k5 < mn := by omega
      have hi05 : 0 ≤ i5 := by omega
      have htn5 : i5.toNat = k5 := by omega
      have hwi5 : W .i64 (i5 + 1) = i5 + 1 := W_small (by omega)
      have hk4 : k5 < 4 := by omega
      have hq := hvq k5 hk4
      have hqb := bq k5
      have hF5 : wMins v (k5 + 1) = wMins v k5 ++ [wMin v k5] := range_map1 _ _
      unfold wMin at hF5
      generalize v_ v (3 + k5) = f at *
      have f1 := hqb.1
      have f2 := hqb.2
      have f3 : 0 ≤ f.tmod 90 := Int.tmod_nonneg 90 f1
      have f4 : f.tmod 90 < 90 := Int.tmod_lt_of_pos _ (by decide)
      have y1 : W .i64 f = f := W_fit (by omega)
      have y2 : W .i64 (f.tmod 90) = f.tmod 90 := W_fit (by omega)
      have y3 : W .i64 (f.tmod 90 - 10) = f.tmod 90 - 10 := W_fit (by omega)
      have y4 : W .i64 (3 + i5) = 3 + i5 := W_fit (by omega)
      have y5 : (3 + i5).toNat = 3 + k5 := by omega
      have y6 : 0 ≤ 3 + i5 := by omega
      have y7 : 3 + i5 < 7 := by omega
      have y8 : (if 10 < f.tmod 90 then f.tmod 90 - 10 else 0) = max 0 (f.tmod 90 - 10) := by split <;> omega
      have y9 : (if 0 < f.tmod 90 - 10 then f.tmod 90 - 10 else 0) = max 0 (f.tmod 90 - 10) := by split <;> omega
      have q5 := fun (h : 3 + k5 < (rU v).length) => Option.some.inj ((List.getElem?_eq_getElem h).symm.trans hq)
      have hnx5 : ac5 ++ [max 0 (f.tmod 90 - 10)] = wMins v (k5 + 1) := by rw [hF5, ← hac5]
      have hnl5 : (ac5 ++ [max 0 (f.tmod 90 - 10)]).length = p5 + 1 + 1 := by simp [hacl5]
      have hap5 : ac5.map rI ++ [[I (max 0 (f.tmod 90 - 10))]] = (ac5 ++ [max 0 (f.tmod 90 - 10)]).map rI := by rw [List.map_append]; rfl
      generalize ac5 ++ [max 0 (f.tmod 90 - 10)] = nx5 at *
      have hrx5 := fun n => rI_rb n 4 nx5
      have HH12 := zA tk5 (zA hlac5 (zA hacl5 (zA hr35 (zA hi05 (zA htn5 (zA hk05 (zA hwi5 (zA hap5 (zA hq (zA q5 (zA y1 (zA y2 (zA y3 (zA y4 (zA y5 (zA y6 (zA y7 (zA y8 y9))))))))))))))))))
      refine zK ?_
      simp only [zT, zB]
      refine zS ?_
      refine zL ?_
      refine runs_drw (by simp (maxSteps := 3000000) [-lenA, c19, HH1, HH8, HH9, ↓HH10, ↓hfr5, ↓hrj5, ↓hrx5, zI, HH12]; rfl) ?_
      simp only [zT, zB]
      refine zR (zO (by simp [-lenA, c19, HH1, HH8, HH9, ↓HH10, ↓hfr5, ↓hrj5, ↓hrx5, zI, HH12]; rfl) ?_)
      simp only [zT, zB]
      exact ⟨mn - (k5 + 1), _, _, by omega, by simp [-lenA, c19, HH1, HH8, HH9, ↓HH10, ↓hfr5, ↓hrj5, ↓hrx5, zI, HH12] <;> first | exact ⟨rfl, rfl⟩ | rfl, k5 + 1, i5 + 1, by omega, rfl, by omega, .inr ⟨p5 + 1, nx5, by omega, hnx5, hnl5, rfl⟩⟩
     ·have hx5 := of_decide_eq_false hlt5
      have hkE5 : k5 = mn := by omega
      rw [hkE5] at hac5
      have hz5 : p5 + 1 = mn := by omega
      have hne5 : ac5 ≠ [] := by intro e; rw [e] at hacl5; simp at hacl5
      rw [← hac5] at hF4
      have hro5 : rowJ ⟨e0.tmod (kn : Int), e1, 3 * e2, ac5⟩ = [I (e0.tmod (kn : Int)), I e1, I (3 * e2), .vl (ac5.map rI) false] := by unfold rowJ; rw [encE_ne hne5]
      have hrl5 : ((ac5.map rI).all fun r => r.length == 1) = true := by simp [rI]
      have hrs5 : ((ac5.map rI).all fun r => r.all storable) = true := by simp [rI]
      have hnx4 : ac4 ++ [(⟨e0.tmod (kn : Int), e1, 3 * e2, ac5⟩ : FJob)] = wJ W_ (k4 + 1) := by rw [hF4, ← hac4]
      have hnl4 : (ac4 ++ [(⟨e0.tmod (kn : Int), e1, 3 * e2, ac5⟩ : FJob)]).length = p4 + 1 + 1 := by simp [hacl4]
      have hap4 : ac4.map rowJ ++ [[I (e0.tmod (kn : Int)), I e1, I (3 * e2), .vl (ac5.map rI) false]] = (ac4 ++ [(⟨e0.tmod (kn : Int), e1, 3 * e2, ac5⟩ : FJob)]).map rowJ := by rw [List.map_append]; show _ = _ ++ [rowJ ((⟨e0.tmod (kn : Int), e1, 3 * e2, ac5⟩ : FJob))]; rw [hro5]
      generalize ac4 ++ [(⟨e0.tmod (kn : Int), e1, 3 * e2, ac5⟩ : FJob)] = nx4 at *
      have hrx4 := fun n => rowJ_rb n 4 nx4
      have HH13 := zA tk5 (zA hlac5 (zA hacl5 (zA hr35 hap4)))
      have HH14 := zA hfr5 (zA hrj5 (zA hrx4 (zA hrl5 hrs5)))
      refine runs_exit ?_
      simp only [zT, zB, if_true, if_false, reduceIte, Nat.reduceEqDiff, Nat.succ_ne_zero, Nat.one_ne_zero, Nat.zero_ne_one]
      refine zR (zO (by simp [-lenA, c19, HH1, HH8, HH9, ↓HH10, frz_mapI, HH13, ↓HH14]; rfl) ?_)
      simp only [zT, zB]
      refine zR (zO (by simp [-lenA, c19, HH1, HH8, HH9, ↓HH10, frz_mapI, HH13, ↓HH14]; rfl) ?_)
      simp only [zT, zB]
      exact ⟨(min W_.ys.length 5) - (k4 + 1), _, _, by omega, by simp [-lenA, c19, HH1, HH8, HH9, ↓HH10, frz_mapI, HH13, ↓HH14] <;> first | exact ⟨rfl, rfl⟩ | rfl, k4 + 1, i4 + 1, by omega, rfl, by omega, .inr ⟨p4 + 1, nx4, by omega, hnx4, hnl4, rfl⟩⟩
   ·have hAt4 := of_decide_eq_true hA4
    have hx4 := of_decide_eq_false hlt4
    have hkE4 : k4 = (min W_.ys.length 5) := by omega
    rw [hkE4] at hac4
    have hJne : ac4 ≠ [] := by intro e; rw [e] at hacl4; simp at hacl4
    have hJe : encJ ac4 = .vl (ac4.map rowJ) false := encJ_ne hJne
    have hz4 : min W_.ys.length 5 = p4 + 1 := by omega
    refine runs_exit ?_
    simp only [zT, zB, if_true, if_false, reduceIte, Nat.reduceEqDiff, Nat.succ_ne_zero, Nat.one_ne_zero, Nat.zero_ne_one]
    refine zS ?_
    refine zR (zO (by simp [-lenA, c19, ↓crb, ↓frb, HH1, ↓hfr4, ↓hrj4, HH8, hJe, ← hac4, frz_rowJ, ↓rowJ_rb]; rfl) ?_)
    simp only [zT, zB]
    refine runs_ret ?_
    simp [-lenA, c19, ↓crb, ↓frb, HH1, ↓hfr4, ↓hrj4, HH8, hJe, ← hac4, frz_rowJ, ↓rowJ_rb, trim]
theorem a41 (P : Program) (T : Nat → Option CFn) (hT : T 41 = some { c41 with body := annK [(118, [.cell 4 1]), (502, [.slot 7]), (566, [.cell 4 2]), (12342, [.slot 12]), (127030, [.cell 15 3])] [] c41.body }) (W_ : FWorks) (x y : AVal) (hx : rowsV x = some (W_.xs.map rU)) (hy : rowsV y = some (W_.ys.map rU)) (hw : WkOk W_) : Answers P T 41 [.agg (wkC W_ x y)] [] fun v h => frz false h 5 v = some (.tup [.agg [I (wM W_), encC (wC W_ (wK W_).toNat), encN (wT W_ (min W_.xs.length 6))], encJ (wJ W_ (min W_.ys.length 5))]) := by
 have lx := rowsV_len hx
 have ly := rowsV_len hy
 rw [List.length_map] at lx ly
 obtain ⟨bm, bk, bg, bxs, bys, bo⟩ := hw
 have c0 : (wkC W_ x y)[0]? = some (.int .u8 W_.m) := rfl
 have c1 : (wkC W_ x y)[1]? = some (.int .u8 W_.k) := rfl
 have cg : ∀ p q, p < 4 → q < 4 → (wkC W_ x y)[2 + p * 4 + q]? = some (.int .u8 (gAt W_ p q)) := fun p q hp hq => by
  have e : 2 + p * 4 + q = (p * 4 + q + 1) + 1 := by omega
  unfold wkC gAt
  rw [e, List.getElem?_cons_succ, List.getElem?_cons_succ, List.append_assoc, List.getElem?_append_left (by rw [rU_len, bg.1]; omega), rU_get (by rw [bg.1]; omega)]
 have c18 : (wkC W_ x y)[18]? = some x := by
  unfold wkC
  rw [show 18 = 16 + 1 + 1 by rfl, List.getElem?_cons_succ, List.getElem?_cons_succ, List.append_assoc, List.getElem?_append_right (by rw [rU_len, bg.1]; exact Nat.le_refl _), rU_len, bg.1]; rfl
 have c19 : (wkC W_ x y)[19]? = some y := by
  unfold wkC
  rw [show 19 = 17 + 1 + 1 by rfl, List.getElem?_cons_succ, List.getElem?_cons_succ, List.append_assoc, List.getElem?_append_right (by rw [rU_len, bg.1]; omega), rU_len, bg.1]; rfl
 obtain ⟨cx1, cx2⟩ := rowsV_cells hx
 obtain ⟨cy1, cy2⟩ := rowsV_cells hy
 have rx := fun n d => rowsV_rb hx n d
 have ry := fun n d => rowsV_rb hy n d
 have crb : ∀ n, (wkC W_ x y).all (rb n 5) = true := fun n => by
  have h1 := rU_rb n 4 W_.g
  have h2 := rU_rb n 4 W_.o
  simp only [wkC, List.all_cons, List.all_append, h1, h2, rx, ry, rb_int', List.all_nil, Bool.and_true]
 have cst : (wkC W_ x y).all storable = true := by
  have h1 := rU_stor W_.g
  have h2 := rU_stor W_.o
  simp only [wkC, List.all_cons, List.all_append, h1, h2, cx2, cy2, List.all_nil, Bool.and_true]; rfl
 have ccl : cellsOf (.agg (wkC W_ x y)) = some (wkC W_ x y) := rfl
 have clen : (wkC W_ x y).length = 26 := by simp [wkC, rU_len, bg.1, bo.1]
 generalize hcells : wkC W_ x y = cells at *
 have g0 := fun (h : 0 < cells.length) => Option.some.inj ((List.getElem?_eq_getElem h).symm.trans c0)
 have g1 := fun (h : 1 < cells.length) => Option.some.inj ((List.getElem?_eq_getElem h).symm.trans c1)
 have g18 := fun (h : 18 < cells.length) => Option.some.inj ((List.getElem?_eq_getElem h).symm.trans c18)
 have g19 := fun (h : 19 < cells.length) => Option.some.inj ((List.getElem?_eq_getElem h).symm.trans c19)
 have hmM : 0 ≤ W_.m.tmod 4 ∧ W_.m.tmod 4 < 4 := ⟨Int.tmod_nonneg 4 bm.1, Int.tmod_lt_of_pos _ (by decide)⟩
 have hkK : 0 ≤ W_.k.tmod 4 ∧ W_.k.tmod 4 < 4 := ⟨Int.tmod_nonneg 4 bk.1, Int.tmod_lt_of_pos _ (by decide)⟩
 have bm1 := bm.1
 have bm2 := bm.2
 have bk1 := bk.1
 have bk2 := bk.2
 have wm0 : W .i64 W_.m = W_.m := W_fit (by omega)
 have wk0 : W .i64 W_.k = W_.k := W_fit (by omega)
 have wm1 : W .i64 (1 + W_.m.tmod 4) = wM W_ := W_fit (by omega)
 have wk1 : W .i64 (1 + W_.k.tmod 4) = wK W_ := W_fit (by omega)
 have hM : 1 ≤ wM W_ ∧ wM W_ ≤ 4 := by unfold wM; omega
 have hK : 1 ≤ wK W_ ∧ wK W_ ≤ 4 := by unfold wK; omega
 obtain ⟨mn, hmn⟩ : ∃ mn : Nat, wM W_ = mn := ⟨(wM W_).toNat, by omega⟩
 obtain ⟨kn, hkn⟩ : ∃ kn : Nat, wK W_ = kn := ⟨(wK W_).toNat, by omega⟩
 have hmt : (wM W_).toNat = mn := by omega
 have hkt : (wK W_).toNat = kn := by omega
 rw [hmn] at hM wm1
 rw [hkn] at hK wk1
 obtain ⟨hM1, hM4⟩ := hM
 obtain ⟨hK1, hK4⟩ := hK
 have hM1 : 1 ≤ mn := by omega
 have hK1 : 1 ≤ kn := by omega
 have hM4 : mn ≤ 4 := by omega
 have hK4 : kn ≤ 4 := by omega
 have wmb := wm1
 have W41 : W .i64 4 = 4 := by decide
 refine answers_of hT (orcF_none rfl) ?_
 simp only [oo, om, op, og, ci, cl, c41, annK, lkG, lkR, reduceIte, Nat.reduceEqDiff, reduceCtorEq, List.cons.injEq, and_true, and_false, false_and, true_and]
 have HH1 := zA lx (zA ly (zA c0 (zA c1 (zA g0 (zA g1 (zA g18 (zA g19 (zA cx1 (zA cx2 (zA cy1 (zA cy2 (zA rx (zA ry (zA ccl (zA clen (zA wm0 (zA wk0 (zA wm1 wk1))))))))))))))))))
 refine zS ?_
 refine zR (zO (by simp [-lenA, c18, c19, ↓crb, ↓cst, HH1]; rfl) ?_)
 simp only [zT, zB]
 refine zS ?_
 refine zR (zO (by simp [-lenA, c18, c19, ↓crb, ↓cst, HH1]; rfl) ?_)
 simp only [zT, zB]
 refine zS ?_
 refine zR (zO (by simp [-lenA, c18, c19, ↓crb, ↓cst, HH1]; rfl) ?_)
 simp only [zT, zB]
 refine zS ?_
 refine zS ?_
 refine zR (zO (by simp [-lenA, c18, c19, ↓crb, ↓cst, HH1]; rfl) ?_)
 simp only [zT, zB]
 refine zL ?_
 refine runs_loopG_inv (fun mm1 σ => ∃ (k1 : Nat) (i1 : Int), i1 = k1 ∧ kn - k1 = mm1 ∧ k1 ≤ kn ∧ ((k1 = 0 ∧ σ = ⟨[.any, .ref 0 0 0, .ref 1 0 0, .any, .ref 2 0 0, I (kn : Int), I i1, .any, .any, .any, .any, .any, .any, .any, .any, .any, .any, .any, .any, .any, .any, .any, .any, .any, .any, .any, .any, .any, .any, .any, .any, .any, .any, .any, .any, .any, .any, .any, .any, .any, .any, .any, .any, .any, .any, .any, .any, .any, .any, .any, .any, .any, .any, .any, .any, .any, .any, .any, .any, .any, .any, .any, .any, .any, .any, .any, .any, .any, .any, .any, .any, .any, .any, .any, .any, .any, .any, .any, .any, .any, .any, .any, .any, .any, .any, .any, .any, .any, .any, .any, .any, .any, .any, .any, .any, .any, .any, .any, .any, .any, .any, .any, .any, .any, .any, .any, .any, .any, .any, .any, .any, .any, .any, .any, .any, .any, .any, .any, .any, .any, .any, .any, .any, .any, .any, .any, .any, .any, .any, .any, .any, .any, .any, .any, .any, .any, .any, .any, .any, .any, .any, .any, .any, .any, .any, .any, .any, .any, .any, .any, .any, .any, .any, .any, .any, .any], [some (.row 26 [cells]), some (.row 3 [[I 0, .nils, .nils]]), some (.row 3 [[I (mn : Int), .nils, .nils]]), none]⟩) ∨ (∃ (p1 : Nat) (ac1 : List (List Int)), k1 = p1 + 1 ∧ ac1 = wC W_ (k1) ∧ ac1.length = p1 + 1 ∧ σ = ⟨[.any, .ref 0 0 0, .ref 1 0 0, .any, .ref 2 0 0, I (kn : Int), I i1, .any, .any, .any, .any, .any, .any, .any, .any, .any, .any, .any, .any, .any, .any, .any, .any, .any, .any, .any, .any, .any, .any, .any, .any, .any, .any, .any, .any, .any, .any, .any, .any, .any, .any, .any, .any, .any, .any, .any, .any, .any, .any, .any, .any, .any, .any, .any, .any, .any, .any, .any, .any, .any, .any, .any, .any, .any, .any, .any, .any, .any, .any, .any, .any, .any, .any, .any, .any, .any, .any, .any, .any, .any, .any, .any, .any, .any, .any, .any, .any, .any, .any, .any, .any, .any, .any, .any, .any, .any, .any, .any, .any, .any, .any, .any, .any, .any, .any, .any, .any, .any, .any, .any, .any, .any, .any, .any, .any, .any, .any, .any, .any, .any, .any, .any, .any, .any, .any, .any, .any, .any, .any, .any, .any, .any, .any, .any, .any, .any, .any, .any, .any, .any, .any, .any, .any, .any, .any, .any, .any, .any, .any, .any, .any, .any, .any, .any, .any, .any], [some (.row 26 [cells]), some (.row 3 [[I 0, .nils, .nils]]), some (.row 3 [[I (mn : Int), .sl 3 0 (p1 + 1) false, .nils]]), some (.row 1 (ac1.map rowC))]⟩))) (by simp [-lenA, c18, c19, ↓crb, ↓cst, HH1] <;> first | exact ⟨rfl, rfl⟩ | rfl) (⟨0, 0, rfl, rfl, Nat.zero_le _, .inl ⟨rfl, rfl⟩⟩) ?_
 rintro mm1 σ ⟨k1, i1, hik1, rfl, hkl1, ⟨hkz1, rfl⟩ | ⟨p1, ac1, hkp1, hac1, hacl1, rfl⟩⟩
 ·refine zS ?_
  refine zS ?_
  refine zR (zO (by simp [-lenA, c18, c19, ↓crb, ↓cst, HH1]; rfl) ?_)
  simp only [zT, zB]
  refine runs_cond_split (x := _) rfl (fun hlt1 => ?_) (fun hlt1 => ?_)
  ·have hltt1 := of_decide_eq_true hlt1
   have hk01 : k1 < kn := by omega
   have hi01 : 0 ≤ i1 := by omega
   have htn1 : i1.toNat = k1 := by omega
   have hwi1 : W .i64 (i1 + 1) = i1 + 1 := W_small (by omega)
   refine zK ?_
   simp only [zT, zB]
   refine zS ?_
   refine zL ?_
   refine zS ?_
   refine zR (zO (by simp [-lenA, c18, c19, ↓crb, ↓cst, HH1, hi01, htn1, hk01, hwi1]; rfl) ?_)
   simp only [zT, zB]
   refine zS ?_
   refine zS ?_
   refine zR (zO (by simp [-lenA, c18, c19, ↓crb, ↓cst, HH1, hi01, htn1, hk01, hwi1]; rfl) ?_)
   simp only [zT, zB]
   refine zL ?_
   refine runs_loopG_inv (fun mm2 σ => ∃ (k2 : Nat) (i2 : Int), i2 = k2 ∧ kn - k2 = mm2 ∧ k2 ≤ kn ∧ ((k2 = 0 ∧ σ = ⟨[.any, .ref 0 0 0, .ref 1 0 0, .any, .ref 2 0 0, I (kn : Int), I i1, .sl 5 0 0 true, I i2, .any, .any, .any, .any, .any, .any, .any, .any, .any, .any, .any, .any, .any, .any, .any, .any, .any, .any, .any, .any, .any, .any, .any, .any, .any, .any, .any, .any, .any, .any, .any, .any, .any, .any, .any, .any, .any, .any, .any, .any, .any, .any, .any, .any, .any, .any, .any, .any, .any, .any, .any, .any, .any, .any, .any, .any, .any, .any, .any, .any, .any, .any, .any, .any, .any, .any, .any, .any, .any, .any, .any, .any, .any, .any, .any, .any, .any, .any, .any, .any, .any, .any, .any, .any, .any, .any, .any, .any, .any, .any, .any, .any, .any, .any, .any, .any, .any, .any, .any, .any, .any, .any, .any, .any, .any, .any, .any, .any, .any, .any, .any, .any, .any, .any, .any, .any, .any, .any, .any, .any, .any, .any, .any, .any, .any, .any, .any, .any, .any, .any, .any, .any, .any, .any, .any, .any, .any, .any, .any, .any, .any, .any, .any, .any, .any, .any, .any], [some (.row 26 [cells]), some (.row 3 [[I 0, .nils, .nils]]), some (.row 3 [[I (mn : Int), .nils, .nils]]), none, none, some (.row 1 [])]⟩) ∨ (∃ (p2 : Nat) (ac2 : List (Int)), k2 = p2 + 1 ∧ ac2 = wRow W_ k1 (k2) ∧ ac2.length = p2 + 1 ∧ σ = ⟨[.any, .ref 0 0 0, .ref 1 0 0, .any, .ref 2 0 0, I (kn : Int), I i1, .sl 5 0 (p2 + 1) false, I i2, .any, .any, .any, .any, .any, .any, .any, .any, .any, .any, .any, .any, .any, .any, .any, .any, .any, .any, .any, .any, .any, .any, .any, .any, .any, .any, .any, .any, .any, .any, .any, .any, .any, .any, .any, .any, .any, .any, .any, .any, .any, .any, .any, .any, .any, .any, .any, .any, .any, .any, .any, .any, .any, .any, .any, .any, .any, .any, .any, .any, .any, .any, .any, .any, .any, .any, .any, .any, .any, .any, .any, .any, .any, .any, .any, .any, .any, .any, .any, .any, .any, .any, .any, .any, .any, .any, .any, .any, .any, .any, .any, .any, .any, .any, .any, .any, .any, .any, .any, .any, .any, .any, .any, .any, .any, .any, .any, .any, .any, .any, .any, .any, .any, .any, .any, .any, .any, .any, .any, .any, .any, .any, .any, .any, .any, .any, .any, .any, .any, .any, .any, .any, .any, .any, .any, .any, .any, .any, .any, .any, .any, .any, .any, .any, .any, .any, .any], [some (.row 26 [cells]), some (.row 3 [[I 0, .nils, .nils]]), some (.row 3 [[I (mn : Int), .nils, .nils]]), none, none, some (.row 1 (ac2.map rI))]⟩))) (by simp [-lenA, c18, c19, ↓crb, ↓cst, HH1, hi01, htn1, hk01, hwi1] <;> first | exact ⟨rfl, rfl⟩ | rfl) (⟨0, 0, rfl, rfl, Nat.zero_le _, .inl ⟨rfl, rfl⟩⟩) ?_
   rintro mm2 σ ⟨k2, i2, hik2, rfl, hkl2, ⟨hkz2, rfl⟩ | ⟨p2, ac2, hkp2, hac2, hacl2, rfl⟩⟩
   ·refine zS ?_
    refine zS ?_
    refine zR (zO (by simp [-lenA, c18, c19, ↓crb, ↓cst, HH1, hi01, htn1, hk01, hwi1]; rfl) ?_)
    simp only [zT, zB]
    refine runs_cond_split (x := _) rfl (fun hlt2 => ?_) (fun hlt2 => ?_)
    ·have hltt2 := of_decide_eq_true hlt2
     have hk02 : k2 < kn := by omega
     have hi02 : 0 ≤ i2 := by omega
     have htn2 : i2.toNat = k2 := by omega
     have hwi2 : W .i64 (i2 + 1) = i2 + 1 := W_small (by omega)
     have hik4 : i1 < 4 := by omega
     have hjk4 : i2 < 4 := by omega
     have hgu := mins_fit (k := k1 * 4 + k2) bg.2
     have hgc := cg k1 k2 (by omega) (by omega)
     have hF2 : wRow W_ k1 (k2 + 1) = wRow W_ k1 k2 ++ [(gAt W_ k1 k2).tmod 40] := range_map1 _ _
     have hgv : isU (gAt W_ k1 k2) := hgu
     generalize gAt W_ k1 k2 = G at *
     have wg0 : W .i64 G = G := W_fit (by have := hgv.1; have := hgv.2; omega)
     have hg1 : 0 ≤ G.tmod 40 := Int.tmod_nonneg 40 hgv.1
     have hg2 : G.tmod 40 < 40 := Int.tmod_lt_of_pos _ (by decide)
     have wg1 : W .i64 (G.tmod 40) = G.tmod 40 := W_fit (by omega)
     have hnx2 : [G.tmod 40] = wRow W_ k1 (k2 + 1) := by rw [hF2, hkz2]; rfl
     have hap2 : [[I (G.tmod 40)]] = [G.tmod 40].map rI := rfl
     have HH2 := zA hi01 (zA htn1 (zA hk01 (zA hwi1 (zA hi02 (zA htn2 (zA hk02 (zA hwi2 (zA hik4 (zA hjk4 (zA hgc (zA wg0 wg1)))))))))))
     refine zK ?_
     simp only [zT, zB]
     refine zS ?_
     refine zL ?_
     refine zR (zO (by simp [-lenA, c18, c19, ↓crb, ↓cst, HH1, zI, HH2]; rfl) ?_)
     simp only [zT, zB]
     refine zR (zO (by simp [-lenA, c18, c19, ↓crb, ↓cst, HH1, zI, HH2]; rfl) ?_)
     simp only [zT, zB]
     exact ⟨kn - (k2 + 1), _, _, by omega, by simp [-lenA, c18, c19, ↓crb, ↓cst, HH1, zI, HH2] <;> first | exact ⟨rfl, rfl⟩ | rfl, k2 + 1, i2 + 1, by omega, rfl, by omega, .inr ⟨0, [G.tmod 40], by omega, hnx2, rfl, rfl⟩⟩
    ·have hx2 := of_decide_eq_false hlt2
     have hkE2 : k2 = kn := by omega
     omega
   ·have tk2 : (ac2.map rI).take (p2 + 1) = ac2.map rI := List.take_of_length_le (by simp [hacl2])
    have hlac2 : p2 + 1 + 1 ≤ 1048576 := by omega
    have hr32 : ∀ e : Int, (rI e).length = 1 := fun _ => rfl
    have hfr2 := fun n h r => optAll_snoc (frN_rI n h ac2) r
    have hrj2 := fun n => rI_rb n 4 ac2
    have HH3 := zA hi01 (zA htn1 (zA hk01 (zA hwi1 (zA tk2 (zA hlac2 (zA hacl2 hr32))))))
    refine zS ?_
    refine zS ?_
    refine zR (zO (by simp [-lenA, c18, c19, ↓crb, ↓cst, HH1, ↓hfr2, ↓hrj2, HH3]; rfl) ?_)
    simp only [zT, zB]
    refine runs_cond_split (x := _) rfl (fun hlt2 => ?_) (fun hlt2 => ?_)
    ·have hltt2 := of_decide_eq_true hlt2
     have hk02 : k2 < kn := by omega
     have hi02 : 0 ≤ i2 := by omega
     have htn2 : i2.toNat = k2 := by omega
     have hwi2 : W .i64 (i2 + 1) = i2 + 1 := W_small (by omega)
     have hik4 : i1 < 4 := by omega
     have hjk4 : i2 < 4 := by omega
     have hgu := mins_fit (k := k1 * 4 + k2) bg.2
     have hgc := cg k1 k2 (by omega) (by omega)
     have hF2 : wRow W_ k1 (k2 + 1) = wRow W_ k1 k2 ++ [(gAt W_ k1 k2).tmod 40] := range_map1 _ _
     have hgv : isU (gAt W_ k1 k2) := hgu
     generalize gAt W_ k1 k2 = G at *
     have wg0 : W .i64 G = G := W_fit (by have := hgv.1; have := hgv.2; omega)
     have hg1 : 0 ≤ G.tmod 40 := Int.tmod_nonneg 40 hgv.1
     have hg2 : G.tmod 40 < 40 := Int.tmod_lt_of_pos _ (by decide)
     have wg1 : W .i64 (G.tmod 40) = G.tmod 40 := W_fit (by omega)
     have hnx2 : ac2 ++ [G.tmod 40] = wRow W_ k1 (k2 + 1) := by rw [hF2, ← hac2]
     have hnl2 : (ac2 ++ [G.tmod 40]).length = p2 + 1 + 1 := by simp [hacl2]
     have hap2 : ac2.map rI ++ [[I (G.tmod 40)]] = (ac2 ++ [G.tmod 40]).map rI := by rw [List.map_append]; rfl
     generalize ac2 ++ [G.tmod 40] = nx2 at *
     have hrx2 := fun n => rI_rb n 4 nx2
     have HH4 := zA hi02 (zA htn2 (zA hk02 (zA hwi2 (zA hap2 (zA hik4 (zA hjk4 (zA hgc (zA wg0 wg1))))))))
     have HH5 := zA crb (zA cst (zA hfr2 (zA hrj2 hrx2)))
     refine zK ?_
     simp only [zT, zB]
     refine zS ?_
     refine zL ?_
     refine zR (zO (by simp [-lenA, c18, c19, HH1, HH3, zI, HH4, ↓HH5]; rfl) ?_)
     simp only [zT, zB]
     refine zR (zO (by simp [-lenA, c18, c19, HH1, HH3, zI, HH4, ↓HH5]; rfl) ?_)
     simp only [zT, zB]
     exact ⟨kn - (k2 + 1), _, _, by omega, by simp [-lenA, c18, c19, HH1, HH3, zI, HH4, ↓HH5] <;> first | exact ⟨rfl, rfl⟩ | rfl, k2 + 1, i2 + 1, by omega, rfl, by omega, .inr ⟨p2 + 1, nx2, by omega, hnx2, hnl2, rfl⟩⟩
    ·have hx2 := of_decide_eq_false hlt2
     have hkE2 : k2 = kn := by omega
     rw [hkE2] at hac2
     have hz2 : p2 + 1 = kn := by omega
     have hF1 : wC W_ (k1 + 1) = wC W_ k1 ++ [wRow W_ k1 kn] := by unfold wC; rw [range_map1, hkt]
     have hne2 : ac2 ≠ [] := by intro e; rw [e] at hacl2; simp at hacl2
     rw [← hac2] at hF1
     have hro : rowC ac2 = [.vl (ac2.map rI) false] := by unfold rowC; rw [encE_ne hne2]
     have hrl : ((ac2.map rI).all fun r => r.length == 1) = true := by simp [rI]
     have hrs : ((ac2.map rI).all fun r => r.all storable) = true := by simp [rI]
     have hnx1 : [ac2] = wC W_ (k1 + 1) := by rw [hF1, hkz1]; rfl
     have hap1 : [[.vl (ac2.map rI) false]] = [ac2].map rowC := by show _ = [rowC (ac2)]; rw [hro]
     have HH6 := zA crb (zA cst (zA hfr2 (zA hrj2 (zA hrl hrs))))
     refine runs_exit ?_
     simp only [zT, zB, if_true, if_false, reduceIte, Nat.reduceEqDiff, Nat.succ_ne_zero, Nat.one_ne_zero, Nat.zero_ne_one]
     refine zR (zO (by simp [-lenA, c18, c19, HH1, HH3, hro, frz_mapI, ↓HH6]; rfl) ?_)
     simp only [zT, zB]
     refine zR (zO (by simp [-lenA, c18, c19, HH1, HH3, hro, frz_mapI, ↓HH6]; rfl) ?_)
     simp only [zT, zB]
     exact ⟨kn - (k1 + 1), _, _, by omega, by simp [-lenA, c18, c19, HH1, HH3, hro, frz_mapI, ↓HH6] <;> first | exact ⟨rfl, rfl⟩ | rfl, k1 + 1, i1 + 1, by omega, rfl, by omega, .inr ⟨0, [ac2], by omega, hnx1, rfl, rfl⟩⟩
  ·have hx1 := of_decide_eq_false hlt1
   have hkE1 : k1 = kn := by omega
   omega
 ·have tk1 : (ac1.map rowC).take (p1 + 1) = ac1.map rowC := List.take_of_length_le (by simp [hacl1])
  have hlac1 : p1 + 1 + 1 ≤ 1048576 := by omega
  have hr31 : ∀ e : List Int, (rowC e).length = 1 := fun _ => rfl
  have hfr1 := fun n h r => optAll_snoc (frN_rowC n h ac1) r
  have hrj1 := fun n => rowC_rb n 4 ac1
  refine zS ?_
  refine zS ?_
  refine zR (zO (by simp [-lenA, c18, c19, ↓crb, ↓cst, HH1, tk1, hlac1, hacl1, hr31, ↓hfr1, ↓hrj1]; rfl) ?_)
  simp only [zT, zB]
  refine runs_cond_split (x := _) rfl (fun hlt1 => ?_) (fun hlt1 => ?_)
  ·have hltt1 := of_decide_eq_true hlt1
   have hk01 : k1 < kn := by omega
   have hi01 : 0 ≤ i1 := by omega
   have htn1 : i1.toNat = k1 := by omega
   have hwi1 : W .i64 (i1 + 1) = i1 + 1 := W_small (by omega)
   have HH7 := zA tk1 (zA hlac1 (zA hacl1 (zA hr31 (zA hi01 (zA htn1 (zA hk01 hwi1))))))
   refine zK ?_
   simp only [zT, zB]
   refine zS ?_
   refine zL ?_
   refine zS ?_
   refine zR (zO (by simp [-lenA, c18, c19, ↓crb, ↓cst, HH1, ↓hfr1, ↓hrj1, HH7]; rfl) ?_)
   simp only [zT, zB]
   refine zS ?_
   refine zS ?_
   refine zR (zO (by simp [-lenA, c18, c19, ↓crb, ↓cst, HH1, ↓hfr1, ↓hrj1, HH7]; rfl) ?_)
   simp only [zT, zB]
   refine zL ?_
   refine runs_loopG_inv (fun mm2 σ => ∃ (k2 : Nat) (i2 : Int), i2 = k2 ∧ kn - k2 = mm2 ∧ k2 ≤ kn ∧ ((k2 = 0 ∧ σ = ⟨[.any, .ref 0 0 0, .ref 1 0 0, .any, .ref 2 0 0, I (kn : Int), I i1, .sl 5 0 0 true, I i2, .any, .any, .any, .any, .any, .any, .any, .any, .any, .any, .any, .any, .any, .any, .any, .any, .any, .any, .any, .any, .any, .any, .any, .any, .any, .any, .any, .any, .any, .any, .any, .any, .any, .any, .any, .any, .any, .any, .any, .any, .any, .any, .any, .any, .any, .any, .any, .any, .any, .any, .any, .any, .any, .any, .any, .any, .any, .any, .any, .any, .any, .any, .any, .any, .any, .any, .any, .any, .any, .any, .any, .any, .any, .any, .any, .any, .any, .any, .any, .any, .any, .any, .any, .any, .any, .any, .any, .any, .any, .any, .any, .any, .any, .any, .any, .any, .any, .any, .any, .any, .any, .any, .any, .any, .any, .any, .any, .any, .any, .any, .any, .any, .any, .any, .any, .any, .any, .any, .any, .any, .any, .any, .any, .any, .any, .any, .any, .any, .any, .any, .any, .any, .any, .any, .any, .any, .any, .any, .any, .any, .any, .any, .any, .any, .any, .any, .any], [some (.row 26 [cells]), some (.row 3 [[I 0, .nils, .nils]]), some (.row 3 [[I (mn : Int), .sl 3 0 (p1 + 1) false, .nils]]), some (.row 1 (ac1.map rowC)), none, some (.row 1 [])]⟩) ∨ (∃ (p2 : Nat) (ac2 : List (Int)), k2 = p2 + 1 ∧ ac2 = wRow W_ k1 (k2) ∧ ac2.length = p2 + 1 ∧ σ = ⟨[.any, .ref 0 0 0, .ref 1 0 0, .any, .ref 2 0 0, I (kn : Int), I i1, .sl 5 0 (p2 + 1) false, I i2, .any, .any, .any, .any, .any, .any, .any, .any, .any, .any, .any, .any, .any, .any, .any, .any, .any, .any, .any, .any, .any, .any, .any, .any, .any, .any, .any, .any, .any, .any, .any, .any, .any, .any, .any, .any, .any, .any, .any, .any, .any, .any, .any, .any, .any, .any, .any, .any, .any, .any, .any, .any, .any, .any, .any, .any, .any, .any, .any, .any, .any, .any, .any, .any, .any, .any, .any, .any, .any, .any, .any, .any, .any, .any, .any, .any, .any, .any, .any, .any, .any, .any, .any, .any, .any, .any, .any, .any, .any, .any, .any, .any, .any, .any, .any, .any, .any, .any, .any, .any, .any, .any, .any, .any, .any, .any, .any, .any, .any, .any, .any, .any, .any, .any, .any, .any, .any, .any, .any, .any, .any, .any, .any, .any, .any, .any, .any, .any, .any, .any, .any, .any, .any, .any, .any, .any, .any, .any, .any, .any, .any, .any, .any, .any, .any, .any, .any], [some (.row 26 [cells]), some (.row 3 [[I 0, .nils, .nils]]), some (.row 3 [[I (mn : Int), .sl 3 0 (p1 + 1) false, .nils]]), some (.row 1 (ac1.map rowC)), none, some (.row 1 (ac2.map rI))]⟩))) (by simp [-lenA, c18, c19, ↓crb, ↓cst, HH1, ↓hfr1, ↓hrj1, HH7] <;> first | exact ⟨rfl, rfl⟩ | rfl) (⟨0, 0, rfl, rfl, Nat.zero_le _, .inl ⟨rfl, rfl⟩⟩) ?_
   rintro mm2 σ ⟨k2, i2, hik2, rfl, hkl2, ⟨hkz2, rfl⟩ | ⟨p2, ac2, hkp2, hac2, hacl2, rfl⟩⟩
   ·refine zS ?_
    refine zS ?_
    refine zR (zO (by simp [-lenA, c18, c19, ↓crb, ↓cst, HH1, ↓hfr1, ↓hrj1, HH7]; rfl) ?_)
    simp only [zT, zB]
    refine runs_cond_split (x := _) rfl (fun hlt2 => ?_) (fun hlt2 => ?_)
    ·have hltt2 := of_decide_eq_true hlt2
     have hk02 : k2 < kn := by omega
     have hi02 : 0 ≤ i2 := by omega
     have htn2 : i2.toNat = k2 := by omega
     have hwi2 : W .i64 (i2 + 1) = i2 + 1 := W_small (by omega)
     have hik4 : i1 < 4 := by omega
     have hjk4 : i2 < 4 := by omega
     have hgu := mins_fit (k := k1 * 4 + k2) bg.2
     have hgc := cg k1 k2 (by omega) (by omega)
     have hF2 : wRow W_ k1 (k2 + 1) = wRow W_ k1 k2 ++ [(gAt W_ k1 k2).tmod 40] := range_map1 _ _
     have hgv : isU (gAt W_ k1 k2) := hgu
     generalize gAt W_ k1 k2 = G at *
     have wg0 : W .i64 G = G := W_fit (by have := hgv.1; have := hgv.2; omega)
     have hg1 : 0 ≤ G.tmod 40 := Int.tmod_nonneg 40 hgv.1
     have hg2 : G.tmod 40 < 40 := Int.tmod_lt_of_pos _ (by decide)
     have wg1 : W .i64 (G.tmod 40) = G.tmod 40 := W_fit (by omega)
     have hnx2 : [G.tmod 40] = wRow W_ k1 (k2 + 1) := by rw [hF2, hkz2]; rfl
     have hap2 : [[I (G.tmod 40)]] = [G.tmod 40].map rI := rfl
     have HH8 := zA hi02 (zA htn2 (zA hk02 (zA hwi2 (zA hik4 (zA hjk4 (zA hgc (zA wg0 wg1)))))))
     refine zK ?_
     simp only [zT, zB]
     refine zS ?_
     refine zL ?_
     refine zR (zO (by simp [-lenA, c18, c19, ↓crb, ↓cst, HH1, ↓hfr1, ↓hrj1, HH7, zI, HH8]; rfl) ?_)
     simp only [zT, zB]
     refine zR (zO (by simp [-lenA, c18, c19, ↓crb, ↓cst, HH1, ↓hfr1, ↓hrj1, HH7, zI, HH8]; rfl) ?_)
     simp only [zT, zB]
     exact ⟨kn - (k2 + 1), _, _, by omega, by simp [-lenA, c18, c19, ↓crb, ↓cst, HH1, ↓hfr1, ↓hrj1, HH7, zI, HH8] <;> first | exact ⟨rfl, rfl⟩ | rfl, k2 + 1, i2 + 1, by omega, rfl, by omega, .inr ⟨0, [G.tmod 40], by omega, hnx2, rfl, rfl⟩⟩
    ·have hx2 := of_decide_eq_false hlt2
     have hkE2 : k2 = kn := by omega
     omega
   ·have tk2 : (ac2.map rI).take (p2 + 1) = ac2.map rI := List.take_of_length_le (by simp [hacl2])
    have hlac2 : p2 + 1 + 1 ≤ 1048576 := by omega
    have hr32 : ∀ e : Int, (rI e).length = 1 := fun _ => rfl
    have hfr2 := fun n h r => optAll_snoc (frN_rI n h ac2) r
    have hrj2 := fun n => rI_rb n 4 ac2
    have HH9 := zA crb (zA cst (zA hfr1 (zA hrj1 (zA hfr2 hrj2))))
    refine zS ?_
    refine zS ?_
    refine zR (zO (by simp [-lenA, c18, c19, HH1, HH7, tk2, hlac2, hacl2, hr32, ↓HH9]; rfl) ?_)
    simp only [zT, zB]
    refine runs_cond_split (x := _) rfl (fun hlt2 => ?_) (fun hlt2 => ?_)
    ·have hltt2 := of_decide_eq_true hlt2
     have hk02 : k2 < kn := by omega
     have hi02 : 0 ≤ i2 := by omega
     have htn2 : i2.toNat = k2 := by omega
     have hwi2 : W .i64 (i2 + 1) = i2 + 1 := W_small (by omega)
     have hik4 : i1 < 4 := by omega
     have hjk4 : i2 < 4 := by omega
     have hgu := mins_fit (k := k1 * 4 + k2) bg.2
     have hgc := cg k1 k2 (by omega) (by omega)
     have hF2 : wRow W_ k1 (k2 + 1) = wRow W_ k1 k2 ++ [(gAt W_ k1 k2).tmod 40] := range_map1 _ _
     have hgv : isU (gAt W_ k1 k2) := hgu
     generalize gAt W_ k1 k2 = G at *
     have wg0 : W .i64 G = G := W_fit (by have := hgv.1; have := hgv.2; omega)
     have hg1 : 0 ≤ G.tmod 40 := Int.tmod_nonneg 40 hgv.1
     have hg2 : G.tmod 40 < 40 := Int.tmod_lt_of_pos _ (by decide)
     have wg1 : W .i64 (G.tmod 40) = G.tmod 40 := W_fit (by omega)
     have hnx2 : ac2 ++ [G.tmod 40] = wRow W_ k1 (k2 + 1) := by rw [hF2, ← hac2]
     have hnl2 : (ac2 ++ [G.tmod 40]).length = p2 + 1 + 1 := by simp [hacl2]
     have hap2 : ac2.map rI ++ [[I (G.tmod 40)]] = (ac2 ++ [G.tmod 40]).map rI := by rw [List.map_append]; rfl
     generalize ac2 ++ [G.tmod 40] = nx2 at *
     have hrx2 := fun n => rI_rb n 4 nx2
     have HH10 := zA tk2 (zA hlac2 (zA hacl2 (zA hr32 (zA hi02 (zA htn2 (zA hk02 (zA hwi2 (zA hap2 (zA hik4 (zA hjk4 (zA hgc (zA wg0 wg1))))))))))))
     refine zK ?_
     simp only [zT, zB]
     refine zS ?_
     refine zL ?_
     refine zR (zO (by simp [-lenA, c18, c19, HH1, HH7, ↓HH9, ↓hrx2, zI, HH10]; rfl) ?_)
     simp only [zT, zB]
     refine zR (zO (by simp [-lenA, c18, c19, HH1, HH7, ↓HH9, ↓hrx2, zI, HH10]; rfl) ?_)
     simp only [zT, zB]
     exact ⟨kn - (k2 + 1), _, _, by omega, by simp [-lenA, c18, c19, HH1, HH7, ↓HH9, ↓hrx2, zI, HH10] <;> first | exact ⟨rfl, rfl⟩ | rfl, k2 + 1, i2 + 1, by omega, rfl, by omega, .inr ⟨p2 + 1, nx2, by omega, hnx2, hnl2, rfl⟩⟩
    ·have hx2 := of_decide_eq_false hlt2
     have hkE2 : k2 = kn := by omega
     rw [hkE2] at hac2
     have hz2 : p2 + 1 = kn := by omega
     have hF1 : wC W_ (k1 + 1) = wC W_ k1 ++ [wRow W_ k1 kn] := by unfold wC; rw [range_map1, hkt]
     have hne2 : ac2 ≠ [] := by intro e; rw [e] at hacl2; simp at hacl2
     rw [← hac2] at hF1
     have hro : rowC ac2 = [.vl (ac2.map rI) false] := by unfold rowC; rw [encE_ne hne2]
     have hrl : ((ac2.map rI).all fun r => r.length == 1) = true := by simp [rI]
     have hrs : ((ac2.map rI).all fun r => r.all storable) = true := by simp [rI]
     have hnx1 : ac1 ++ [ac2] = wC W_ (k1 + 1) := by rw [hF1, ← hac1]
     have hnl1 : (ac1 ++ [ac2]).length = p1 + 1 + 1 := by simp [hacl1]
     have hap1 : ac1.map rowC ++ [[.vl (ac2.map rI) false]] = (ac1 ++ [ac2]).map rowC := by rw [List.map_append]; show _ = _ ++ [rowC (ac2)]; rw [hro]
     generalize ac1 ++ [ac2] = nx1 at *
     have hrx1 := fun n => rowC_rb n 4 nx1
     have HH11 := zA tk2 (zA hlac2 (zA hacl2 (zA hr32 hap1)))
     refine runs_exit ?_
     simp only [zT, zB, if_true, if_false, reduceIte, Nat.reduceEqDiff, Nat.succ_ne_zero, Nat.one_ne_zero, Nat.zero_ne_one]
     refine zR (zO (by simp [-lenA, c18, c19, HH1, HH7, ↓HH9, ↓hrx1, ↓hrl, ↓hrs, frz_mapI, HH11]; rfl) ?_)
     simp only [zT, zB]
     refine zR (zO (by simp [-lenA, c18, c19, HH1, HH7, ↓HH9, ↓hrx1, ↓hrl, ↓hrs, frz_mapI, HH11]; rfl) ?_)
     simp only [zT, zB]
     exact ⟨kn - (k1 + 1), _, _, by omega, by simp [-lenA, c18, c19, HH1, HH7, ↓HH9, ↓hrx1, ↓hrl, ↓hrs, frz_mapI, HH11] <;> first | exact ⟨rfl, rfl⟩ | rfl, k1 + 1, i1 + 1, by omega, rfl, by omega, .inr ⟨p1 + 1, nx1, by omega, hnx1, hnl1, rfl⟩⟩
  ·have hx1 := of_decide_eq_false hlt1
   have hkE1 : k1 = kn := by omega
   rw [hkE1] at hac1
   have hz1 : p1 + 1 = kn := by omega
   rw [hz1] at hacl1
   have hCne : ac1 ≠ [] := by intro e; rw [e] at hacl1; simp at hacl1; omega
   have hCe : encC ac1 = .vl (ac1.map rowC) false := encC_ne hCne
   rw [hz1] at tk1
   have hcrb := fun n => rowC_rb n 4 ac1
   have HH12 := zA tk1 (zA hlac1 (zA hacl1 (zA hr31 hz1)))
   have HH13 := zA crb (zA cst (zA hfr1 (zA hrj1 hcrb)))
   refine runs_exit ?_
   simp only [zT, zB, if_true, if_false, reduceIte, Nat.reduceEqDiff, Nat.succ_ne_zero, Nat.one_ne_zero, Nat.zero_ne_one]
   refine zS ?_
   refine zS ?_
   refine zR (zO (by simp [-lenA, c18, c19, HH1, HH12, ↓HH13]; rfl) ?_)
   simp only [zT, zB]
   refine zL ?_
   refine runs_loopG_inv (fun mm3 σ => ∃ (k3 : Nat) (i3 : Int), i3 = k3 ∧ (min W_.xs.length 6) - k3 = mm3 ∧ k3 ≤ (min W_.xs.length 6) ∧ ((k3 = 0 ∧ σ = ⟨[.any, .ref 0 0 0, .ref 1 0 0, .any, .ref 2 0 0, I (kn : Int), .any, .any, .any, I i3, .any, .any, .any, .any, .any, .any, .any, .any, .any, .any, .any, .any, .any, .any, .any, .any, .any, .any, .any, .any, .any, .any, .any, .any, .any, .any, .any, .any, .any, .any, .any, .any, .any, .any, .any, .any, .any, .any, .any, .any, .any, .any, .any, .any, .any, .any, .any, .any, .any, .any, .any, .any, .any, .any, .any, .any, .any, .any, .any, .any, .any, .any, .any, .any, .any, .any, .any, .any, .any, .any, .any, .any, .any, .any, .any, .any, .any, .any, .any, .any, .any, .any, .any, .any, .any, .any, .any, .any, .any, .any, .any, .any, .any, .any, .any, .any, .any, .any, .any, .any, .any, .any, .any, .any, .any, .any, .any, .any, .any, .any, .any, .any, .any, .any, .any, .any, .any, .any, .any, .any, .any, .any, .any, .any, .any, .any, .any, .any, .any, .any, .any, .any, .any, .any, .any, .any, .any, .any, .any, .any, .any, .any, .any, .any, .any, .any], [some (.row 26 [cells]), some (.row 3 [[I 0, .nils, .nils]]), some (.row 3 [[I (mn : Int), .sl 3 0 kn false, .nils]]), some (.row 1 (ac1.map rowC)), none]⟩) ∨ (∃ (p3 : Nat) (ac3 : List (FStop)), k3 = p3 + 1 ∧ ac3 = wT W_ (k3) ∧ ac3.length = p3 + 1 ∧ σ = ⟨[.any, .ref 0 0 0, .ref 1 0 0, .any, .ref 2 0 0, I (kn : Int), .any, .any, .any, I i3, .any, .any, .any, .any, .any, .any, .any, .any, .any, .any, .any, .any, .any, .any, .any, .any, .any, .any, .any, .any, .any, .any, .any, .any, .any, .any, .any, .any, .any, .any, .any, .any, .any, .any, .any, .any, .any, .any, .any, .any, .any, .any, .any, .any, .any, .any, .any, .any, .any, .any, .any, .any, .any, .any, .any, .any, .any, .any, .any, .any, .any, .any, .any, .any, .any, .any, .any, .any, .any, .any, .any, .any, .any, .any, .any, .any, .any, .any, .any, .any, .any, .any, .any, .any, .any, .any, .any, .any, .any, .any, .any, .any, .any, .any, .any, .any, .any, .any, .any, .any, .any, .any, .any, .any, .any, .any, .any, .any, .any, .any, .any, .any, .any, .any, .any, .any, .any, .any, .any, .any, .any, .any, .any, .any, .any, .any, .any, .any, .any, .any, .any, .any, .any, .any, .any, .any, .any, .any, .any, .any, .any, .any, .any, .any, .any, .any], [some (.row 26 [cells]), some (.row 3 [[I 0, .nils, .nils]]), some (.row 3 [[I (mn : Int), .sl 3 0 kn false, .sl 4 0 (p3 + 1) false]]), some (.row 1 (ac1.map rowC)), some (.row 3 (ac3.map rS3))]⟩))) (by simp [-lenA, c18, c19, HH1, HH12, ↓HH13] <;> first | exact ⟨rfl, rfl⟩ | rfl) (⟨0, 0, rfl, rfl, Nat.zero_le _, .inl ⟨rfl, rfl⟩⟩) ?_
   rintro mm3 σ ⟨k3, i3, hik3, rfl, hkl3, ⟨hkz3, rfl⟩ | ⟨p3, ac3, hkp3, hac3, hacl3, rfl⟩⟩
   ·rcases hA3 : decide (i3 < (W_.xs.length : Int)) with _ | _
    ·refine zS ?_
     refine zS ?_
     refine zR (zO (by simp [-lenA, c18, c19, HH1, HH12, ↓HH13, hA3]; rfl) ?_)
     simp only [zT, zB]
     refine runs_cond (x := false) (by simp) ?_
     have hx3 := of_decide_eq_false hA3
     have hkE3 : k3 = (min W_.xs.length 6) := by omega
     have hwTe : k3 = min W_.xs.length 6 := hkE3
     refine runs_exit ?_
     simp only [zT, zB, if_true, if_false, reduceIte, Nat.reduceEqDiff, Nat.succ_ne_zero, Nat.one_ne_zero, Nat.zero_ne_one]
     have hT0 : wT W_ (min W_.xs.length 6) = [] := by rw [← hkE3, hkz3]; rfl
     rw [hT0, hkt, ← hac1]
     exact tail41 P T W_ ac1 [] cells y kn mn .nils none hM1 hM4 hK1 hK4 hmn hkn hacl1 ly hy bys crb ry c19 (fun n hn => rfl) (fun n hn => rfl) rfl rfl (fun a b c d l => rfl) _ _ _ _ _ _ _ _ _ _ _ _ _ _ _ _ _ _ _ _ _ _ _ _ _ _ _ _ _ _ _ _ _ _ _ _ _ _ _ _ _ _ _ _ _ _ _ _ _ _ _ _ _ _ _ _ _ _ _ _ _ _ _ _ _ _ _ _ _ _ _ _ _ _ _ _ _ _ _ _ _ _ _ _ _ _ _ _ _ _ _ _ _ _ _ _ _ _ _ _ _ _ _ _ _ _ _ _ _ _ _ _ _ _ _ _ _ _ _ _ _ _ _ _ _ _ _ _ _ _ _ _ _ _ _ _ _ _ _ _ _ _ _ _ _ _ _ _ _ _ _ _
    ·refine zS ?_
     refine zS ?_
     refine zR (zO (by simp [-lenA, c18, c19, HH1, HH12, ↓HH13, hA3]; rfl) ?_)
     simp only [zT, zB]
     refine runs_cond_split (x := decide (i3 < 6)) (by simp) (fun hlt3 => ?_) (fun hlt3 => ?_)
     ·have hAt3 := of_decide_eq_true hA3
      have hltt3 := of_decide_eq_true hlt3
      have hk03 : k3 < (min W_.xs.length 6) := by omega
      have hi03 : 0 ≤ i3 := by omega
      have htn3 : i3.toNat = k3 := by omega
      have hwi3 : W .i64 (i3 + 1) = i3 + 1 := W_small (by omega)
      have hxl : k3 < W_.xs.length := by omega
      obtain ⟨tx, rfl⟩ := rowsV_get hx (k := k3) (by rw [List.length_map]; omega)
      have hvv := bxs _ (List.getElem_mem hxl)
      have hF3 : wT W_ (k3 + 1) = wT W_ k3 ++ [wStop W_ W_.xs[k3]] := take_map1 _ hxl
      generalize hV : W_.xs[k3] = v at *
      have hv0 : (rU v)[0]? = some (.int .u8 (v_ v 0)) := rU_get (by omega)
      have hv1 : (rU v)[1]? = some (.int .u8 (v_ v 1)) := rU_get (by omega)
      have hv2 : (rU v)[2]? = some (.int .u8 (v_ v 2)) := rU_get (by omega)
      have hv3 : (rU v)[3]? = some (.int .u8 (v_ v 3)) := rU_get (by omega)
      have q0 := fun (h : 0 < (rU v).length) => Option.some.inj ((List.getElem?_eq_getElem h).symm.trans hv0)
      have q1 := fun (h : 1 < (rU v).length) => Option.some.inj ((List.getElem?_eq_getElem h).symm.trans hv1)
      have q2 := fun (h : 2 < (rU v).length) => Option.some.inj ((List.getElem?_eq_getElem h).symm.trans hv2)
      have q3 := fun (h : 3 < (rU v).length) => Option.some.inj ((List.getElem?_eq_getElem h).symm.trans hv3)
      have hvl : (rU v).length = 4 := by rw [rU_len, hvv.1]
      have hvst := rU_stor v
      have hvc : cellsOf (.agg (rU v)) = some (rU v) := rfl
      have hvt : (rU v).take 4 = rU v := List.take_of_length_le (by omega)
      have hvd : (rU v).drop 4 = [] := List.drop_of_length_le (by omega)
      have b0 := mins_fit (k := 0) hvv.2
      have b1 := mins_fit (k := 1) hvv.2
      have b2 := mins_fit (k := 2) hvv.2
      have b3 := mins_fit (k := 3) hvv.2
      unfold wStop v_ at hF3
      unfold v_ at hv0 hv1 hv2 hv3 q0 q1 q2 q3
      generalize v.getD 0 0 = e0 at *
      generalize v.getD 1 0 = e1 at *
      generalize v.getD 2 0 = e2 at *
      generalize v.getD 3 0 = e3 at *
      obtain ⟨b01, b02⟩ := b0
      obtain ⟨b11, b12⟩ := b1
      obtain ⟨b21, b22⟩ := b2
      obtain ⟨b31, b32⟩ := b3
      have h21 : 0 ≤ e2.tmod 2 := Int.tmod_nonneg 2 b21
      have h22 : e2.tmod 2 < 2 := Int.tmod_lt_of_pos _ (by decide)
      have h31 : 0 ≤ e3.tmod 60 := Int.tmod_nonneg 60 b31
      have h32 : e3.tmod 60 < 60 := Int.tmod_lt_of_pos _ (by decide)
      rw [hmn] at hF3
      have h01 : 0 ≤ e0.tmod (mn : Int) := Int.tmod_nonneg _ b01
      have h02 : e0.tmod (mn : Int) < mn := Int.tmod_lt_of_pos _ (by omega)
      have hmz : ¬ mn = 0 := by omega
      have hmzi : ¬ (mn : Int) = 0 := by omega
      have hmzb : ((mn : Int) == 0) = false := by simp; omega
      have hmm1 : ¬ ((mn : Int) = -1) := by omega
      have u0 : W .i64 e0 = e0 := W_fit (by omega)
      have u1 : W .i64 e1 = e1 := W_fit (by omega)
      have u2 : W .i64 e2 = e2 := W_fit (by omega)
      have u3 : W .i64 e3 = e3 := W_fit (by omega)
      have u4 : W .i64 (2 * e1) = 2 * e1 := W_fit (by omega)
      have u5 : W .i64 (e2.tmod 2) = e2.tmod 2 := W_fit (by omega)
      have u6 : W .i64 (2 * e1 + e2.tmod 2) = 2 * e1 + e2.tmod 2 := W_fit (by omega)
      have u7 : W .i64 (e0.tmod (mn : Int)) = e0.tmod (mn : Int) := W_fit (by omega)
      have u8 : W .i64 (2 * e1 + e2.tmod 2 + 1) = 2 * e1 + e2.tmod 2 + 1 := W_fit (by omega)
      have u9 : W .i64 (e3.tmod 60) = e3.tmod 60 := W_fit (by omega)
      have u10 : W .i64 (2 * e1 + e2.tmod 2 + 1 + e3.tmod 60) = 2 * e1 + e2.tmod 2 + 1 + e3.tmod 60 := W_fit (by omega)
      have hnx3 : [(e0.tmod (mn : Int), 2 * e1 + e2.tmod 2, 2 * e1 + e2.tmod 2 + 1 + e3.tmod 60)] = wT W_ (k3 + 1) := by rw [hF3, hkz3]; rfl
      have hap3 : [[I (e0.tmod (mn : Int)), I (2 * e1 + e2.tmod 2), I (2 * e1 + e2.tmod 2 + 1 + e3.tmod 60)]] = [(e0.tmod (mn : Int), 2 * e1 + e2.tmod 2, 2 * e1 + e2.tmod 2 + 1 + e3.tmod 60)].map rS3 := rfl
      have HH14 := zA hA3 (zA hi03 (zA htn3 (zA hk03 (zA hwi3 (zA hxl (zA hV (zA hv0 (zA hv1 (zA hv2 (zA hv3 (zA q0 (zA q1 (zA q2 (zA q3 (zA hvl (zA hvc (zA hvt (zA hvd (zA hmz (zA hmzi (zA hmzb (zA hmm1 (zA u0 (zA u1 (zA u2 (zA u3 (zA u4 (zA u6 (zA u7 (zA u8 (zA u9 u10)))))))))))))))))))))))))))))))
      refine zK ?_
      simp only [zT, zB]
      refine zS ?_
      refine zL ?_
      refine zS ?_
      refine zR (zO (by simp [-lenA, c18, c19, HH1, HH12, ↓HH13, ↓hvst, u5, HH14]; rfl) ?_)
      simp only [zT, zB]
      refine zS ?_
      refine zR (zO (by simp [-lenA, c18, c19, HH1, HH12, ↓HH13, ↓hvst, u5, HH14]; rfl) ?_)
      simp only [zT, zB]
      refine runs_drw (by simp (maxSteps := 3000000) [-lenA, c18, c19, HH1, HH12, ↓HH13, ↓hvst, u5, HH14]; rfl) ?_
      simp only [zT, zB]
      refine zR (zO (by simp [-lenA, c18, c19, HH1, HH12, ↓HH13, ↓hvst, u5, HH14]; rfl) ?_)
      simp only [zT, zB]
      exact ⟨(min W_.xs.length 6) - (k3 + 1), _, _, by omega, by simp [-lenA, c18, c19, HH1, HH12, ↓HH13, ↓hvst, u5, HH14] <;> first | exact ⟨rfl, rfl⟩ | rfl, k3 + 1, i3 + 1, by omega, rfl, by omega, .inr ⟨0, [(e0.tmod (mn : Int), 2 * e1 + e2.tmod 2, 2 * e1 + e2.tmod 2 + 1 + e3.tmod 60)], by omega, hnx3, rfl, rfl⟩⟩
     ·have hAt3 := of_decide_eq_true hA3
      have hx3 := of_decide_eq_false hlt3
      have hkE3 : k3 = (min W_.xs.length 6) := by omega
      have hwTe : k3 = min W_.xs.length 6 := hkE3
      refine runs_exit ?_
      simp only [zT, zB, if_true, if_false, reduceIte, Nat.reduceEqDiff, Nat.succ_ne_zero, Nat.one_ne_zero, Nat.zero_ne_one]
      have hT0 : wT W_ (min W_.xs.length 6) = [] := by rw [← hkE3, hkz3]; rfl
      rw [hT0, hkt, ← hac1]
      exact tail41 P T W_ ac1 [] cells y kn mn .nils none hM1 hM4 hK1 hK4 hmn hkn hacl1 ly hy bys crb ry c19 (fun n hn => rfl) (fun n hn => rfl) rfl rfl (fun a b c d l => rfl) _ _ _ _ _ _ _ _ _ _ _ _ _ _ _ _ _ _ _ _ _ _ _ _ _ _ _ _ _ _ _ _ _ _ _ _ _ _ _ _ _ _ _ _ _ _ _ _ _ _ _ _ _ _ _ _ _ _ _ _ _ _ _ _ _ _ _ _ _ _ _ _ _ _ _ _ _ _ _ _ _ _ _ _ _ _ _ _ _ _ _ _ _ _ _ _ _ _ _ _ _ _ _ _ _ _ _ _ _ _ _ _ _ _ _ _ _ _ _ _ _ _ _ _ _ _ _ _ _ _ _ _ _ _ _ _ _ _ _ _ _ _ _ _ _ _ _ _ _ _ _ _
   ·have tk3 : (ac3.map rS3).take (p3 + 1) = ac3.map rS3 := List.take_of_length_le (by simp [hacl3])
    have hlac3 : p3 + 1 + 1 ≤ 1048576 := by omega
    have hr33 : ∀ e : FStop, (rS3 e).length = 3 := fun _ => rfl
    have hfr3 := fun n h r => optAll_snoc (frN_rS3 n h ac3) r
    have hrj3 := fun n => rS3_rb n 4 ac3
    rcases hA3 : decide (i3 < (W_.xs.length : Int)) with _ | _
    ·have HH15 := zA tk3 (zA hlac3 (zA hacl3 (zA hr33 hA3)))
     refine zS ?_
     refine zS ?_
     refine zR (zO (by simp [-lenA, c18, c19, HH1, HH12, ↓HH13, ↓hfr3, ↓hrj3, HH15]; rfl) ?_)
     simp only [zT, zB]
     refine runs_cond (x := false) (by simp) ?_
     have hx3 := of_decide_eq_false hA3
     have hkE3 : k3 = (min W_.xs.length 6) := by omega
     rw [hkE3] at hac3
     have hwTe : k3 = min W_.xs.length 6 := hkE3
     refine runs_exit ?_
     simp only [zT, zB, if_true, if_false, reduceIte, Nat.reduceEqDiff, Nat.succ_ne_zero, Nat.one_ne_zero, Nat.zero_ne_one]
     have hTne : ac3 ≠ [] := by intro e; rw [e] at hacl3; simp at hacl3
     have hz3 : min W_.xs.length 6 = p3 + 1 := by omega
     rw [← hac3, hkt, ← hac1]
     exact tail41 P T W_ ac1 ac3 cells y kn mn (.sl 4 0 (p3 + 1) false) (some (.row 3 (ac3.map rS3))) hM1 hM4 hK1 hK4 hmn hkn hacl1 ly hy bys crb ry c19 (fun n hn => by simp; omega) (fun n hn => by rw [rbB_row]; exact rS3_rb n 4 ac3) rfl rfl (fun a b c d l => by rw [encN_ne hTne]; simp [tk3, hacl3, frz_mapT]) _ _ _ _ _ _ _ _ _ _ _ _ _ _ _ _ _ _ _ _ _ _ _ _ _ _ _ _ _ _ _ _ _ _ _ _ _ _ _ _ _ _ _ _ _ _ _ _ _ _ _ _ _ _ _ _ _ _ _ _ _ _ _ _ _ _ _ _ _ _ _ _ _ _ _ _ _ _ _ _ _ _ _ _ _ _ _ _ _ _ _ _ _ _ _ _ _ _ _ _ _ _ _ _ _ _ _ _ _ _ _ _ _ _ _ _ _ _ _ _ _ _ _ _ _ _ _ _ _ _ _ _ _ _ _ _ _ _ _ _ _ _ _ _ _ _ _ _ _ _ _ _
    ·have HH16 := zA tk3 (zA hlac3 (zA hacl3 (zA hr33 hA3)))
     refine zS ?_
     refine zS ?_
     refine zR (zO (by simp [-lenA, c18, c19, HH1, HH12, ↓HH13, ↓hfr3, ↓hrj3, HH16]; rfl) ?_)
     simp only [zT, zB]
     refine runs_cond_split (x := decide (i3 < 6)) (by simp) (fun hlt3 => ?_) (fun hlt3 => ?_)
     ·have hAt3 := of_decide_eq_true hA3
      have hltt3 := of_decide_eq_true hlt3
      have hk03 : k3 < (min W_.xs.length 6) := by omega
      have hi03 : 0 ≤ i3 := by omega
      have htn3 : i3.toNat = k3 := by omega
      have hwi3 : W .i64 (i3 + 1) = i3 + 1 := W_small (by omega)
      have hxl : k3 < W_.xs.length := by omega
      obtain ⟨tx, rfl⟩ := rowsV_get hx (k := k3) (by rw [List.length_map]; omega)
      have hvv := bxs _ (List.getElem_mem hxl)
      have hF3 : wT W_ (k3 + 1) = wT W_ k3 ++ [wStop W_ W_.xs[k3]] := take_map1 _ hxl
      generalize hV : W_.xs[k3] = v at *
      have hv0 : (rU v)[0]? = some (.int .u8 (v_ v 0)) := rU_get (by omega)
      have hv1 : (rU v)[1]? = some (.int .u8 (v_ v 1)) := rU_get (by omega)
      have hv2 : (rU v)[2]? = some (.int .u8 (v_ v 2)) := rU_get (by omega)
      have hv3 : (rU v)[3]? = some (.int .u8 (v_ v 3)) := rU_get (by omega)
      have q0 := fun (h : 0 < (rU v).length) => Option.some.inj ((List.getElem?_eq_getElem h).symm.trans hv0)
      have q1 := fun (h : 1 < (rU v).length) => Option.some.inj ((List.getElem?_eq_getElem h).symm.trans hv1)
      have q2 := fun (h : 2 < (rU v).length) => Option.some.inj ((List.getElem?_eq_getElem h).symm.trans hv2)
      have q3 := fun (h : 3 < (rU v).length) => Option.some.inj ((List.getElem?_eq_getElem h).symm.trans hv3)
      have hvl : (rU v).length = 4 := by rw [rU_len, hvv.1]
      have hvst := rU_stor v
      have hvc : cellsOf (.agg (rU v)) = some (rU v) := rfl
      have hvt : (rU v).take 4 = rU v := List.take_of_length_le (by omega)
      have hvd : (rU v).drop 4 = [] := List.drop_of_length_le (by omega)
      have b0 := mins_fit (k := 0) hvv.2
      have b1 := mins_fit (k := 1) hvv.2
      have b2 := mins_fit (k := 2) hvv.2
      have b3 := mins_fit (k := 3) hvv.2
      unfold wStop v_ at hF3
      unfold v_ at hv0 hv1 hv2 hv3 q0 q1 q2 q3
      generalize v.getD 0 0 = e0 at *
      generalize v.getD 1 0 = e1 at *
      generalize v.getD 2 0 = e2 at *
      generalize v.getD 3 0 = e3 at *
      obtain ⟨b01, b02⟩ := b0
      obtain ⟨b11, b12⟩ := b1
      obtain ⟨b21, b22⟩ := b2
      obtain ⟨b31, b32⟩ := b3
      have h21 : 0 ≤ e2.tmod 2 := Int.tmod_nonneg 2 b21
      have h22 : e2.tmod 2 < 2 := Int.tmod_lt_of_pos _ (by decide)
      have h31 : 0 ≤ e3.tmod 60 := Int.tmod_nonneg 60 b31
      have h32 : e3.tmod 60 < 60 := Int.tmod_lt_of_pos _ (by decide)
      rw [hmn] at hF3
      have h01 : 0 ≤ e0.tmod (mn : Int) := Int.tmod_nonneg _ b01
      have h02 : e0.tmod (mn : Int) < mn := Int.tmod_lt_of_pos _ (by omega)
      have hmz : ¬ mn = 0 := by omega
      have hmzi : ¬ (mn : Int) = 0 := by omega
      have hmzb : ((mn : Int) == 0) = false := by simp; omega
      have hmm1 : ¬ ((mn : Int) = -1) := by omega
      have u0 : W .i64 e0 = e0 := W_fit (by omega)
      have u1 : W .i64 e1 = e1 := W_fit (by omega)
      have u2 : W .i64 e2 = e2 := W_fit (by omega)
      have u3 : W .i64 e3 = e3 := W_fit (by omega)
      have u4 : W .i64 (2 * e1) = 2 * e1 := W_fit (by omega)
      have u5 : W .i64 (e2.tmod 2) = e2.tmod 2 := W_fit (by omega)
      have u6 : W .i64 (2 * e1 + e2.tmod 2) = 2 * e1 + e2.tmod 2 := W_fit (by omega)
      have u7 : W .i64 (e0.tmod (mn : Int)) = e0.tmod (mn : Int) := W_fit (by omega)
      have u8 : W .i64 (2 * e1 + e2.tmod 2 + 1) = 2 * e1 + e2.tmod 2 + 1 := W_fit (by omega)
      have u9 : W .i64 (e3.tmod 60) = e3.tmod 60 := W_fit (by omega)
      have u10 : W .i64 (2 * e1 + e2.tmod 2 + 1 + e3.tmod 60) = 2 * e1 + e2.tmod 2 + 1 + e3.tmod 60 := W_fit (by omega)
      have hnx3 : ac3 ++ [(e0.tmod (mn : Int), 2 * e1 + e2.tmod 2, 2 * e1 + e2.tmod 2 + 1 + e3.tmod 60)] = wT W_ (k3 + 1) := by rw [hF3, ← hac3]
      have hnl3 : (ac3 ++ [(e0.tmod (mn : Int), 2 * e1 + e2.tmod 2, 2 * e1 + e2.tmod 2 + 1 + e3.tmod 60)]).length = p3 + 1 + 1 := by simp [hacl3]
      have hap3 : ac3.map rS3 ++ [[I (e0.tmod (mn : Int)), I (2 * e1 + e2.tmod 2), I (2 * e1 + e2.tmod 2 + 1 + e3.tmod 60)]] = (ac3 ++ [(e0.tmod (mn : Int), 2 * e1 + e2.tmod 2, 2 * e1 + e2.tmod 2 + 1 + e3.tmod 60)]).map rS3 := by rw [List.map_append]; rfl
      generalize ac3 ++ [(e0.tmod (mn : Int), 2 * e1 + e2.tmod 2, 2 * e1 + e2.tmod 2 + 1 + e3.tmod 60)] = nx3 at *
      have hrx3 := fun n => rS3_rb n 4 nx3
      have HH17 := zA hi03 (zA htn3 (zA hk03 (zA hwi3 (zA hap3 (zA hxl (zA hV (zA hv0 (zA hv1 (zA hv2 (zA hv3 (zA q0 (zA q1 (zA q2 (zA q3 (zA hvl (zA hvc (zA hvt (zA hvd (zA hmz (zA hmzi (zA hmzb (zA hmm1 (zA u0 (zA u1 (zA u2 (zA u3 (zA u4 (zA u6 (zA u7 (zA u8 (zA u9 u10)))))))))))))))))))))))))))))))
      refine zK ?_
      simp only [zT, zB]
      refine zS ?_
      refine zL ?_
      refine zS ?_
      refine zR (zO (by simp [-lenA, c18, c19, HH1, HH12, ↓HH13, ↓hfr3, ↓hrj3, HH16, ↓hrx3, ↓hvst, u5, HH17]; rfl) ?_)
      simp only [zT, zB]
      refine zS ?_
      refine zR (zO (by simp [-lenA, c18, c19, HH1, HH12, ↓HH13, ↓hfr3, ↓hrj3, HH16, ↓hrx3, ↓hvst, u5, HH17]; rfl) ?_)
      simp only [zT, zB]
      refine runs_drw (by simp (maxSteps := 3000000) [-lenA, c18, c19, HH1, HH12, ↓HH13, ↓hfr3, ↓hrj3, HH16, ↓hrx3, ↓hvst, u5, HH17]; rfl) ?_
      simp only [zT, zB]
      refine zR (zO (by simp [-lenA, c18, c19, HH1, HH12, ↓HH13, ↓hfr3, ↓hrj3, HH16, ↓hrx3, ↓hvst, u5, HH17]; rfl) ?_)
      simp only [zT, zB]
      exact ⟨(min W_.xs.length 6) - (k3 + 1), _, _, by omega, by simp [-lenA, c18, c19, HH1, HH12, ↓HH13, ↓hfr3, ↓hrj3, HH16, ↓hrx3, ↓hvst, u5, HH17] <;> first | exact ⟨rfl, rfl⟩ | rfl, k3 + 1, i3 + 1, by omega, rfl, by omega, .inr ⟨p3 + 1, nx3, by omega, hnx3, hnl3, rfl⟩⟩
     ·have hAt3 := of_decide_eq_true hA3
      have hx3 := of_decide_eq_false hlt3
      have hkE3 : k3 = (min W_.xs.length 6) := by omega
      rw [hkE3] at hac3
      have hwTe : k3 = min W_.xs.length 6 := hkE3
      refine runs_exit ?_
      simp only [zT, zB, if_true, if_false, reduceIte, Nat.reduceEqDiff, Nat.succ_ne_zero, Nat.one_ne_zero, Nat.zero_ne_one]
      have hTne : ac3 ≠ [] := by intro e; rw [e] at hacl3; simp at hacl3
      have hz3 : min W_.xs.length 6 = p3 + 1 := by omega
      rw [← hac3, hkt, ← hac1]
      exact tail41 P T W_ ac1 ac3 cells y kn mn (.sl 4 0 (p3 + 1) false) (some (.row 3 (ac3.map rS3))) hM1 hM4 hK1 hK4 hmn hkn hacl1 ly hy bys crb ry c19 (fun n hn => by simp; omega) (fun n hn => by rw [rbB_row]; exact rS3_rb n 4 ac3) rfl rfl (fun a b c d l => by rw [encN_ne hTne]; simp [tk3, hacl3, frz_mapT]) _ _ _ _ _ _ _ _ _ _ _ _ _ _ _ _ _ _ _ _ _ _ _ _ _ _ _ _ _ _ _ _ _ _ _ _ _ _ _ _ _ _ _ _ _ _ _ _ _ _ _ _ _ _ _ _ _ _ _ _ _ _ _ _ _ _ _ _ _ _ _ _ _ _ _ _ _ _ _ _ _ _ _ _ _ _ _ _ _ _ _ _ _ _ _ _ _ _ _ _ _ _ _ _ _ _ _ _ _ _ _ _ _ _ _ _ _ _ _ _ _ _ _ _ _ _ _ _ _ _ _ _ _ _ _ _ _ _ _ _ _ _ _ _ _ _ _ _ _ _ _ _
end
end Go.Proofs.YtjjapdagllclkaaGreat.Tab

namespace Go.Proofs.YtjjapdagllclkaaGreat.Tab
open Go Go.Abs Go.Proofs
set_option maxRecDepth 100000
set_option maxHeartbeats 4000000
set_option linter.unusedSimpArgs false
set_option linter.unusedVariables false
section
attribute [local simp] frz_int frz_bool frz_vl frz_pv frz_agg frz_tup frz_fn frz_ref frz_sl frz_nils optAll orcF rb_int rb_bool rb_agg rb_tup rb_int' rb_bool' rb_vl rb_pv rb_yld rb_nilf rb_nilp rb_nils rb_any rb_und rb_ref rb_sl rb_fn slE chunk fillA evParts evParts3 putAt List.range_succ List.range_zero List.range'_succ List.range'_zero runX_nil' unary_not evalS_pure evAll_nil evAll_cons runX_cons stepX wantedA dop CV.ev putK_eq setK_eq appK_eq fA_eq fI_eq fN_eq fRow_eq fRows_eq nth_eq Out.v putT List.replicate_succ zT zB arI pointee Abs.rowAt ldRow allV toV toC ofV ofC Builtin.min_ Builtin.min2 Builtin.max_ Builtin.max2 min_if max_if resA tupA kill trim_self trim_len trim_emp trim_nil lenA
attribute [local simp] runD_nil' runD_cons' stepD actK_eq actD clash disj masks holes maskH unmaskH diffs news eqB allB eqA ldRowN wrote toCs ofCs stA rowsV_vl rowsV_nils rowsOf dI1 dI2 dI3 dI5 elt
attribute [local simp] st_any st_und st_agg st_tup st_bool st_int st_nilp st_ref st_pv st_nils st_sl st_vl st_nilm st_mp st_fn st_nilf st_yld co_any co_und co_agg co_tup co_bool co_int co_nilp co_ref co_pv co_nils co_sl co_vl co_nilm co_mp co_fn co_nilf co_yld
attribute [local simp] Function.comp_def List.all_append List.all_map above callA calleeA frNB_none frNB_row frN_agg frN_bool frN_int frN_nils frN_ref frN_sl frN_tup frN_vl frzG gather getR lim lop loud lowA lowR norm okG putG putR rbB_none rbB_row resG rowAt takeG
def ordGo : List Int → List Int → List Int
  | [], _ => []
  | b :: bs, L => L.getD (b.tmod (L.length : Int)).toNat 0 :: ordGo bs (L.eraseIdx (b.tmod (L.length : Int)).toNat)
def ordW (o : List Int) (n : Nat) : List Int := ordGo (o.take n) (upTo n)
theorem cons_erase_perm {L : List Int} {k : Nat} (hk : k < L.length) : (L[k] :: L.eraseIdx k).Perm L := by
  have e : L.take k ++ L[k] :: L.drop (k + 1) = L := by rw [← List.drop_eq_getElem_cons hk, List.take_append_drop]
  rw [List.eraseIdx_eq_take_drop_succ]
  exact (List.perm_middle.symm).trans (List.Perm.of_eq e)
theorem ordGo_perm : ∀ (bs L : List Int), bs.length = L.length → (∀ b ∈ bs, 0 ≤ b) → (ordGo bs L).Perm L
  | [], L, hl, _ => by
    have : L = [] := List.eq_nil_of_length_eq_zero hl.symm
    subst this; exact .nil
  | b :: bs, L, hl, hb => by
    simp only [List.length_cons] at hl
    have hb0 := hb b (by simp)
    have hp : (0 : Int) < (L.length : Int) := by omega
    have hk1 := Int.tmod_nonneg (L.length : Int) hb0
    have hk2 := Int.tmod_lt_of_pos b hp
    have hk : (b.tmod (L.length : Int)).toNat < L.length := by omega
    simp only [ordGo]
    generalize (b.tmod (L.length : Int)).toNat = k at *
    have ih := ordGo_perm bs (L.eraseIdx k) (by rw [List.length_eraseIdx_of_lt hk]; omega) (fun x hx => hb x (by simp [hx]))
    refine (List.Perm.cons _ ih).trans ?_
    rw [List.getD_eq_getElem?_getD, List.getElem?_eq_getElem hk, Option.getD_some]
    exact cons_erase_perm hk
theorem upTo_succ (n : Nat) : upTo (n + 1) = upTo n ++ [(n : Int)] := by
  unfold upTo; rw [List.range_succ, List.map_append]; rfl
theorem ordW_ord {o : List Int} {n : Nat} (ho : o.length = 6 ∧ ∀ b ∈ o, isU b) (hn : n ≤ 6) : ordB (ordW o n) n = true :=
  perm_ord (ordGo_perm _ _ (by rw [List.length_take, upTo_len]; omega) (fun b hb => (ho.2 b (List.mem_of_mem_take hb)).1))
theorem allB_refl {α : Type} {f : α → α → Bool} : ∀ (l : List α), (∀ x ∈ l, f x x = true) → allB f l l = true
  | [], _ => rfl
  | x :: l, h => by simp only [allB, h x (by simp), allB_refl l fun y hy => h y (by simp [hy]), Bool.and_self]
theorem eqA_int (n : Nat) (k : IntKind) (m : Int) : eqA (n + 1) (.int k m) (.int k m) = true := by cases k <;> simp
theorem eqA_rU (n : Nat) (v : List Int) : allB (eqA (n + 1)) (rU v) (rU v) = true := allB_refl _ fun z hz => by
  obtain ⟨a, _, rfl⟩ := List.mem_map.1 hz
  exact eqA_int n _ _
theorem eqA_rows {x : AVal} {xs : List (List Int)} (hx : rowsV x = some (xs.map rU)) (n : Nat) : eqA (n + 2) x x = true := by
  rcases rowsV_cases hx with ⟨rfl, _⟩ | ⟨t, rfl⟩
  · rfl
  · show (allB (allB (eqA (n + 1))) (xs.map rU) (xs.map rU) && t == t) = true
    rw [allB_refl _ fun r hr => by obtain ⟨v, _, rfl⟩ := List.mem_map.1 hr; exact eqA_rU n v]
    simp
theorem eqB_rI (xs : List Int) : eqB (some (.row 1 (xs.map rI))) (some (.row 1 (xs.map rI))) = true := by
  show ((1 : Nat) == 1 && allB (allB (eqA 12)) (xs.map rI) (xs.map rI)) = true
  rw [allB_refl _ fun r hr => by obtain ⟨v, _, rfl⟩ := List.mem_map.1 hr; exact allB_refl _ fun z hz => by simp [rI] at hz; subst hz; exact eqA_int 11 _ _]
  rfl
theorem runs_drwN {P : Program} {T : Nat → Option CFn} {r : Option Nat} {l : List CO} {σ : St} {Q : AEx → St → Prop} {D : DSt} (n : Nat)
    (h : runD P T (exec P T n) σ.h.length l.length l 0 ⟨σ.t, σ.h ++ List.replicate l.length none, List.replicate l.length none⟩ = some D) (hq : Q .normal ⟨D.t, D.h⟩) : Runs P T r (.drw l) σ Q := by
  refine ⟨n + 1, .normal, ⟨D.t, D.h⟩, ?_, hq⟩
  show exec1 P T (exec P T n) r (.drw l) σ = _
  simp only [exec1, appK_eq, fN_eq, h]
theorem a18h (P : Program) (T : Nat → Option CFn) (hT : T 18 = some c18) (h : Heap) (b k : Nat) (tt : Bool) (xs : List Int) (hb : h[b]? = some (some (.row 1 (xs.map rI)))) (hk : k ≤ xs.length) (hl : xs.length ≤ 1000) :
  Answers P T 18 [.sl b 0 k tt] h fun v h' => (k = 0 → v = .sl h.length 0 0 true ∧ h' = h ++ [some (.row 1 [])]) ∧ (0 < k → v = .sl (h.length + 1) 0 k false ∧ h' = h ++ [some (.row 1 []), some (.row 1 ((xs.take k).map rI))]) := by
 have hbl : b < h.length := (List.getElem?_eq_some_iff.1 hb).1
 have hb2 : (h ++ [some (Blk.row 1 [])])[b]? = some (some (.row 1 (xs.map rI))) := by rw [List.getElem?_append_left hbl]; exact hb
 have hkx : k ≤ (xs.map rI).length := by simp; omega
 refine answers_of hT (orcF_none rfl) ?_
 simp only [oo, om, op, og, ci, cl, c18]
 refine zS ?_
 by_cases hk0 : k = 0
 ·subst hk0
  refine zR (zO (by simp [hb2, hkx]; rfl) ?_)
  simp only [zT, zB]
  refine zS ?_
  refine zR (zO (by simp [hb2, hkx]; rfl) ?_)
  simp only [zT, zB]
  refine runs_ret ?_
  refine ⟨by simp, _, by simp; rfl, ?_⟩
  have ht : trim h.length [tupA [.sl h.length 0 0 true]] (h ++ [some (.row 1 [])]) = h ++ [some (.row 1 [])] := by simp [trim]
  exact ⟨fun _ => ⟨rfl, ht⟩, fun h => absurd h (Nat.lt_irrefl _)⟩
 ·have hk1 : ¬ k = 0 := hk0
  have htl : ((xs.map rI).take k).length = k := by simp; omega
  have hr1 : (((xs.map rI).take k).all fun r => r.length == 1) = true := by
   simp only [List.all_eq_true]; intro r hr; obtain ⟨a, _, rfl⟩ := List.mem_map.1 (List.mem_of_mem_take hr); rfl
  have hr2 : (((xs.map rI).take k).all fun r => r.all storable) = true := by
   simp only [List.all_eq_true]; intro r hr; obtain ⟨a, _, rfl⟩ := List.mem_map.1 (List.mem_of_mem_take hr); intro z hz; simp [rI] at hz; subst hz; rfl
  have hle : k ≤ 1048576 := by omega
  have hmin : min k xs.length = k := by omega
  have htn : (xs.map rI).take k ≠ [] := by intro e; rw [e] at htl; simp at htl; omega
  have hr1' : ∀ r, r ∈ (xs.map rI).take k → r.length = 1 := fun r hr => by obtain ⟨a, _, rfl⟩ := List.mem_map.1 (List.mem_of_mem_take hr); rfl
  have HH1 := zA hb2 (zA hkx (zA hk1 (zA hk (zA htn (zA htl hle)))))
  refine zR (zO (by simp [-List.map_take, -List.length_take, ↓hr1, ↓hr2, HH1]; rfl) ?_)
  simp only [zT, zB]
  refine zS ?_
  refine zR (zO (by simp [-List.map_take, -List.length_take, ↓hr1, ↓hr2, HH1]; rfl) ?_)
  simp only [zT, zB]
  refine runs_ret ?_
  refine ⟨by simp, _, by simp; rfl, ?_⟩
  have ht : ∀ x, trim h.length [tupA [.sl (h.length + 1) 0 k false]] x = x := fun x => by simp [trim]; intro h; omega
  exact ⟨fun h => absurd h hk1, fun _ => ⟨rfl, by rw [List.map_take]; exact ht _⟩⟩
theorem a42 (P : Program) (T : Nat → Option CFn) (hT : T 42 = some { c42 with body := annK [(230, [.slot 5]), (358, [.slot 5, .slot 6])] [] c42.body }) (h18 : T 18 = some c18) (W_ : FWorks) (x y : AVal) (hx : rowsV x = some (W_.xs.map rU)) (hy : rowsV y = some (W_.ys.map rU)) (hw : WkOk W_) (n : Nat) (hn : n ≤ 6) : Answers P T 42 [.agg (wkC W_ x y), I (n : Int)] [] fun v h => frz true h 5 v = some (encE (ordW W_.o n)) := by
 obtain ⟨bm, bk, bg, bxs, bys, bo⟩ := hw
 obtain ⟨cx1, cx2⟩ := rowsV_cells hx
 obtain ⟨cy1, cy2⟩ := rowsV_cells hy
 have rx := fun n d => rowsV_rb hx n d
 have ry := fun n d => rowsV_rb hy n d
 have co : ∀ q, q < 6 → (wkC W_ x y)[20 + q]? = some (.int .u8 (W_.o.getD q 0)) := fun q hq => by
  have e : 20 + q = (18 + q) + 1 + 1 := by omega
  unfold wkC
  rw [e, List.getElem?_cons_succ, List.getElem?_cons_succ, List.append_assoc, List.getElem?_append_right (by rw [rU_len, bg.1]; omega), rU_len, bg.1, List.getElem?_append_right (by simp; omega)]
  have e2 : 18 + q - 16 - [x, y].length = q := by simp; omega
  rw [e2]
  exact rU_get (by rw [bo.1]; exact hq)
 have crb : ∀ n, (wkC W_ x y).all (rb n 5) = true := fun n => by
  have h1 := rU_rb n 4 W_.g
  have h2 := rU_rb n 4 W_.o
  simp only [wkC, List.all_cons, List.all_append, h1, h2, rx, ry, rb_int', List.all_nil, Bool.and_true]
 have cst : (wkC W_ x y).all storable = true := by
  have h1 := rU_stor W_.g
  have h2 := rU_stor W_.o
  simp only [wkC, List.all_cons, List.all_append, h1, h2, cx2, cy2, List.all_nil, Bool.and_true]; rfl
 have ccl : cellsOf (.agg (wkC W_ x y)) = some (wkC W_ x y) := rfl
 have clen : (wkC W_ x y).length = 26 := by simp [wkC, rU_len, bg.1, bo.1]
 have hceq : allB (eqA 12) (wkC W_ x y) (wkC W_ x y) = true := by
  refine allB_refl _ fun z hz => ?_
  simp only [wkC, List.mem_cons, List.mem_append, List.not_mem_nil, or_false] at hz
  rcases hz with rfl | rfl | (h | rfl | rfl) | h
  ·exact eqA_int 11 _ _
  ·exact eqA_int 11 _ _
  ·obtain ⟨a, _, rfl⟩ := List.mem_map.1 h; exact eqA_int 11 _ _
  ·exact eqA_rows hx 10
  ·exact eqA_rows hy 10
  ·obtain ⟨a, _, rfl⟩ := List.mem_map.1 h; exact eqA_int 11 _ _
 generalize hcells : wkC W_ x y = cells at *
 have heB : eqB (some (.row 26 [cells])) (some (.row 26 [cells])) = true := by
  show ((26 : Nat) == 26 && allB (allB (eqA 12)) [cells] [cells]) = true
  rw [allB_refl _ fun r hr => by simp only [List.mem_singleton] at hr; subst hr; exact hceq]
  rfl
 have o18 : ∀ a h, orcF c18 a h = none := fun _ _ => orcF_none rfl
 have f18 : ∀ a h, c18.eff a h = none := fun _ _ => rfl
 refine answers_of hT (orcF_none rfl) ?_
 simp only [oo, om, op, og, ci, cl, c42, annK, lkG, lkR, reduceIte, Nat.reduceEqDiff, reduceCtorEq, List.cons.injEq, and_true, and_false, false_and, true_and]
 refine zS ?_
 refine zR (zO (by simp [↓crb, ↓cst, ccl, clen]; rfl) ?_)
 simp only [zT, zB]
 refine zS ?_
 refine zR (zO (by simp [↓crb, ↓cst, ccl, clen]; rfl) ?_)
 simp only [zT, zB]
 refine zS ?_
 refine zS ?_
 refine zR (zO (by simp [↓crb, ↓cst, ccl, clen]; rfl) ?_)
 simp only [zT, zB]
 refine zL ?_
 refine runs_loopG_inv (fun mm1 σ => ∃ (k1 : Nat) (i1 : Int), i1 = k1 ∧ n - k1 = mm1 ∧ k1 ≤ n ∧ ((k1 = 0 ∧ σ = ⟨[.any, I (n : Int), .ref 0 0 0, .any, .any, .sl 3 0 0 true, .sl 2 0 0 true, I i1, .any, .any, .any, .any, .any, .any, .any, .any, .any, .any, .any, .any, .any, .any, .any, .any, .any, .any, .any, .any, .any, .any, .any, .any, .any, .any, .any, .any, .any, .any, .any, .any, .any, .any, .any, .any, .any, .any, .any, .any, .any, .any, .any], [some (.row 26 [cells]), none, some (.row 1 []), some (.row 1 [])]⟩) ∨ (∃ (p1 : Nat) (ac1 : List (Int)), k1 = p1 + 1 ∧ ac1 = upTo (k1) ∧ ac1.length = p1 + 1 ∧ σ = ⟨[.any, I (n : Int), .ref 0 0 0, .any, .any, .sl 3 0 (p1 + 1) false, .sl 2 0 0 true, I i1, .any, .any, .any, .any, .any, .any, .any, .any, .any, .any, .any, .any, .any, .any, .any, .any, .any, .any, .any, .any, .any, .any, .any, .any, .any, .any, .any, .any, .any, .any, .any, .any, .any, .any, .any, .any, .any, .any, .any, .any, .any, .any, .any], [some (.row 26 [cells]), none, some (.row 1 []), some (.row 1 (ac1.map rI))]⟩))) (by simp [↓crb, ↓cst, ccl, clen] <;> first | exact ⟨rfl, rfl⟩ | rfl) (⟨0, 0, rfl, rfl, Nat.zero_le _, .inl ⟨rfl, rfl⟩⟩) ?_
 rintro mm1 σ ⟨k1, i1, hik1, rfl, hkl1, ⟨hkz1, rfl⟩ | ⟨p1, ac1, hkp1, hac1, hacl1, rfl⟩⟩
 ·refine zS ?_
  refine zS ?_
  refine zR (zO (by simp [↓crb, ↓cst, ccl, clen]; rfl) ?_)
  simp only [zT, zB]
  refine runs_cond_split (x := _) rfl (fun hlt1 => ?_) (fun hlt1 => ?_)
  ·have hltt1 := of_decide_eq_true hlt1
   have hk01 : k1 < n := by omega
   have hi01 : 0 ≤ i1 := by omega
   have htn1 : i1.toNat = k1 := by omega
   have hwi1 : W .i64 (i1 + 1) = i1 + 1 := W_small (by omega)
   have hF1 : upTo (k1 + 1) = upTo k1 ++ [i1] := by rw [upTo_succ, hik1]
   have hnx1 : [i1] = upTo (k1 + 1) := by rw [hF1, hkz1]; rfl
   have hap1 : [[I i1]] = [i1].map rI := rfl
   have HH1 := zA ccl (zA clen (zA hi01 (zA htn1 (zA hk01 hwi1))))
   refine zK ?_
   simp only [zT, zB]
   refine zS ?_
   refine zL ?_
   refine zR (zO (by simp [↓crb, ↓cst, zI, HH1]; rfl) ?_)
   simp only [zT, zB]
   refine zR (zO (by simp [↓crb, ↓cst, zI, HH1]; rfl) ?_)
   simp only [zT, zB]
   exact ⟨n - (k1 + 1), _, _, by omega, by simp [↓crb, ↓cst, zI, HH1] <;> first | exact ⟨rfl, rfl⟩ | rfl, k1 + 1, i1 + 1, by omega, rfl, by omega, .inr ⟨0, [i1], by omega, hnx1, rfl, rfl⟩⟩
  ·have hx1 := of_decide_eq_false hlt1
   have hkE1 : k1 = n := by omega
   refine runs_exit ?_
   simp only [zT, zB, if_true, if_false, reduceIte, Nat.reduceEqDiff, Nat.succ_ne_zero, Nat.one_ne_zero, Nat.zero_ne_one]
   refine zS ?_
   refine zS ?_
   refine zR (zO (by simp [↓crb, ↓cst, ccl, clen]; rfl) ?_)
   simp only [zT, zB]
   refine zL ?_
   refine runs_loopG_inv (fun mm2 σ => ∃ (k2 : Nat) (i2 : Int) (L : List Int) (tL : Bool), i2 = k2 ∧ n - k2 = mm2 ∧ k2 ≤ n ∧ L.length = n - k2 ∧ ((k2 = 0 ∧ L = upTo n ∧ σ = ⟨[.any, I (n : Int), .ref 0 0 0, .any, .any, .sl 4 0 L.length tL, .sl 5 0 0 true, .any, I i2, .any, .any, .any, .any, .any, .any, .any, .any, .any, .any, .any, .any, .any, .any, .any, .any, .any, .any, .any, .any, .any, .any, .any, .any, .any, .any, .any, .any, .any, .any, .any, .any, .any, .any, .any, .any, .any, .any, .any, .any, .any, .any], [some (.row 26 [cells]), none, none, none, some (.row 1 (L.map rI)), some (.row 1 [])]⟩) ∨ (∃ (p2 : Nat) (ac2 : List Int), k2 = p2 + 1 ∧ ac2 ++ ordGo ((W_.o.take n).drop k2) L = ordW W_.o n ∧ ac2.length = p2 + 1 ∧ σ = ⟨[.any, I (n : Int), .ref 0 0 0, .any, .any, .sl 4 0 L.length tL, .sl 5 0 (p2 + 1) false, .any, I i2, .any, .any, .any, .any, .any, .any, .any, .any, .any, .any, .any, .any, .any, .any, .any, .any, .any, .any, .any, .any, .any, .any, .any, .any, .any, .any, .any, .any, .any, .any, .any, .any, .any, .any, .any, .any, .any, .any, .any, .any, .any, .any], [some (.row 26 [cells]), none, none, none, some (.row 1 (L.map rI)), some (.row 1 (ac2.map rI))]⟩))) (by simp [↓crb, ↓cst, ccl, clen] <;> first | exact ⟨rfl, rfl⟩ | rfl) (⟨0, 0, [], true, rfl, rfl, Nat.zero_le _, by simp; omega, .inl ⟨rfl, by rw [← hkE1, hkz1]; rfl, rfl⟩⟩) ?_
   rintro mm2 σ ⟨k2, i2, L, tL, hik2, rfl, hkl2, hLl, ⟨hkz2, hL0, rfl⟩ | ⟨p2, ac2, hkp2, hac2, hacl2, rfl⟩⟩
   ·refine zS ?_
    refine zS ?_
    refine zR (zO (by simp [↓crb, ↓cst, ccl, clen]; rfl) ?_)
    simp only [zT, zB]
    refine runs_cond_split (x := _) rfl (fun hlt2 => ?_) (fun hlt2 => ?_)
    ·have hltt2 := of_decide_eq_true hlt2
     have hk2n : k2 < n := by omega
     have hi20 : 0 ≤ i2 := by omega
     have htn2 : i2.toNat = k2 := by omega
     have hi26 : i2 < 6 := by omega
     have hwi2 : W .i64 (i2 + 1) = i2 + 1 := W_small (by omega)
     have hco := co k2 (by omega)
     have hob := mins_fit (k := k2) bo.2
     have hdr : (W_.o.take n).drop k2 = W_.o.getD k2 0 :: (W_.o.take n).drop (k2 + 1) := by
      rw [List.drop_eq_getElem_cons (by rw [List.length_take, bo.1]; omega), List.getElem_take, List.getD_eq_getElem?_getD, List.getElem?_eq_getElem (by rw [bo.1]; omega)]; rfl
     generalize W_.o.getD k2 0 = ob at *
     obtain ⟨ob1, ob2⟩ := hob
     have hLp : (0 : Int) < (L.length : Int) := by omega
     have hLz : ¬ L.length = 0 := by omega
     have hLzi : ¬ (L.length : Int) = 0 := by omega
     have hLzb : ((L.length : Int) == 0) = false := by rw [beq_eq_false_iff_ne]; exact hLzi
     have hLm : ¬ ((L.length : Int) = -1) := by omega
     have hq1 := Int.tmod_nonneg (L.length : Int) ob1
     have hq2 := Int.tmod_lt_of_pos ob hLp
     have u0 : W .i64 ob = ob := W_fit (by omega)
     have hL6 : L.length ≤ 6 := by omega
     have hgo : ordGo (ob :: (W_.o.take n).drop (k2 + 1)) L = L.getD (ob.tmod (L.length : Int)).toNat 0 :: ordGo ((W_.o.take n).drop (k2 + 1)) (L.eraseIdx (ob.tmod (L.length : Int)).toNat) := rfl
     generalize hQ : ob.tmod (L.length : Int) = Qi at *
     have u1 : W .i64 Qi = Qi := W_fit (by omega)
     obtain ⟨qn, hqn⟩ : ∃ qn : Nat, Qi.toNat = qn := ⟨_, rfl⟩
     rw [hqn] at hgo
     have hql : qn < L.length := by omega
     have hqi : Qi = (qn : Int) := by omega
     have hqle : qn ≤ L.length := by omega
     have hql2 : Qi ≤ (L.length : Int) := by omega
     have hql3 : Qi + 1 ≤ (L.length : Int) := by omega
     have hq3 : 0 ≤ Qi + 1 := by omega
     have hwq : W .i64 (Qi + 1) = Qi + 1 := W_small (by omega)
     have hqn1 : (Qi + 1).toNat = qn + 1 := by omega
     have hLq : L.getD qn 0 = L[qn] := by rw [List.getD_eq_getElem?_getD, List.getElem?_eq_getElem hql]; rfl
     rw [hLq] at hgo
     have hLg : (L.map rI)[qn]? = some [I L[qn]] := by rw [List.getElem?_map, List.getElem?_eq_getElem hql]; rfl
     generalize hLv : L[qn] = lv at *
     have hLr : ((L.map rI).all fun r => r.length == 1) = true := by simp [rI]
     have hLlen : (L.map rI).length = L.length := by simp
     have her : L.eraseIdx qn = L.take qn ++ L.drop (qn + 1) := List.eraseIdx_eq_take_drop_succ L qn
     have hnx2 : [lv] ++ ordGo ((W_.o.take n).drop (k2 + 1)) (L.eraseIdx qn) = ordW W_.o n := by
      have e : ordW W_.o n = ordGo ((W_.o.take n).drop k2) L := by rw [hkz2, hL0]; rfl
      rw [e, hdr, hgo]; rfl
     have HH2 := zA ccl (zA clen (zA hi20 (zA htn2 (zA hi26 (zA hwi2 (zA hco (zA hLz (zA hLzi (zA hLzb (zA hLm (zA u0 (zA u1 (zA hQ (zA hqn (zA hq1 (zA hq2 (zA hql (zA hqle (zA hql2 (zA hql3 (zA hq3 (zA hwq (zA hqn1 (zA hLg (zA hLv hLlen)))))))))))))))))))))))))
     refine zK ?_
     simp only [zT, zB]
     refine zS ?_
     refine zL ?_
     refine zS ?_
     refine zR (zO (by simp [↓crb, ↓cst, ↓hLr, zI, -List.map_take, -List.map_drop, -List.length_map, -List.getElem?_map, evOpt, sliceA, bounds, hiB, bound, HH2]; rfl) ?_)
     simp only [zT, zB]
     refine zS ?_
     refine zR (zO (by simp [↓crb, ↓cst, ↓hLr, zI, -List.map_take, -List.map_drop, -List.length_map, -List.getElem?_map, evOpt, sliceA, bounds, hiB, bound, HH2]; rfl) ?_)
     simp only [zT, zB]
     obtain ⟨fu, cv, ch, hcall, hc0, hc1⟩ := a18h P T h18 [some (.row 26 [cells]), none, none, none, some (.row 1 (L.map rI)), some (.row 1 []), some (.row 1 [[I lv]]), some (.row 1 [[I lv]]), none, none, none, none, none, none, none, none, none, none] 4 qn (tL && (qn == L.length)) L rfl hqle (by omega)
     by_cases hz : qn = 0
     ·by_cases he : qn + 1 = L.length
      ·obtain ⟨rfl, rfl⟩ := hc0 hz
       clear hc1
       have hdl : ((L.map rI).drop (qn + 1)).take (L.length - (qn + 1)) = (L.drop (qn + 1)).map rI := by rw [List.map_drop]; exact List.take_of_length_le (by simp)
       have hdl2 : (L.map rI).drop (qn + 1) = (L.drop (qn + 1)).map rI := by rw [List.map_drop]
       have l1 : (L.take qn).length = qn := by rw [List.length_take]; omega
       have l2 : (L.drop (qn + 1)).length = L.length - (qn + 1) := by rw [List.length_drop]
       have hs1 : qn + 1 + (L.length - (qn + 1)) = L.length := by omega
       have hs2 : qn + 1 + (L.length - (qn + 1)) ≤ L.length := by omega
       generalize L.take qn = T1 at *
       generalize L.drop (qn + 1) = T2 at *
       subst hz
       obtain rfl : T1 = [] := List.eq_nil_of_length_eq_zero l1
       simp only [List.nil_append] at her
       simp only [Nat.zero_add] at hdl hdl2 l2 hs1 hs2
       obtain rfl : T2 = [] := List.eq_nil_of_length_eq_zero (by omega)
       have hls : L.length - 1 = 0 := by omega
       have hls3 : 1 ≤ L.length := by omega
       refine runs_drwN fu (by simp (maxSteps := 3000000) [↓crb, ↓cst, ↓hLr, zI, -List.map_take, -List.map_drop, -List.length_map, -List.getElem?_map, evOpt, sliceA, bounds, hiB, bound, HH2, hcall, h18, ↓o18, ↓f18, ↓heB, ↓eqB_rI, ↓hdl, ↓hdl2, hs1, hs2, hls, hls3]; rfl) ?_
       simp only [zT, zB]
       refine zR (zO (by simp [↓crb, ↓cst, ↓hLr, zI, -List.map_take, -List.map_drop, -List.length_map, -List.getElem?_map, evOpt, sliceA, bounds, hiB, bound, HH2, hcall, h18, ↓o18, ↓f18, ↓heB, ↓eqB_rI, ↓hdl, ↓hdl2, hs1, hs2, hls, hls3]; rfl) ?_)
       simp only [zT, zB]
       have hEl : (L.eraseIdx 0).length = 0 := by rw [her]; simp [l1]
       have hEn : (L.eraseIdx 0).length = n - (k2 + 1) := by rw [hEl]; omega
       rw [her] at hnx2 hEl hEn
       exact ⟨n - (k2 + 1), _, _, by omega, by simp [↓crb, ↓cst, ↓hLr, zI, -List.map_take, -List.map_drop, -List.length_map, -List.getElem?_map, evOpt, sliceA, bounds, hiB, bound, HH2, hcall, h18, ↓o18, ↓f18, ↓heB, ↓eqB_rI, ↓hdl, ↓hdl2, hs1, hs2, hls, hls3, l1, hEl] <;> rfl, k2 + 1, i2 + 1, ([] : List Int), true, by omega, rfl, by omega, hEn, .inr ⟨0, [lv], by omega, hnx2, rfl, rfl⟩⟩
      ·obtain ⟨rfl, rfl⟩ := hc0 hz
       clear hc1
       have hdl : ((L.map rI).drop (qn + 1)).take (L.length - (qn + 1)) = (L.drop (qn + 1)).map rI := by rw [List.map_drop]; exact List.take_of_length_le (by simp)
       have hdl2 : (L.map rI).drop (qn + 1) = (L.drop (qn + 1)).map rI := by rw [List.map_drop]
       have l1 : (L.take qn).length = qn := by rw [List.length_take]; omega
       have l2 : (L.drop (qn + 1)).length = L.length - (qn + 1) := by rw [List.length_drop]
       have hs1 : qn + 1 + (L.length - (qn + 1)) = L.length := by omega
       have hs2 : qn + 1 + (L.length - (qn + 1)) ≤ L.length := by omega
       generalize L.take qn = T1 at *
       generalize L.drop (qn + 1) = T2 at *
       subst hz
       obtain rfl : T1 = [] := List.eq_nil_of_length_eq_zero l1
       simp only [List.nil_append] at her
       simp only [Nat.zero_add] at hdl hdl2 l2 hs1 hs2
       obtain ⟨b2, T3, rfl⟩ : ∃ b2 T3, T2 = b2 :: T3 := by
        cases T2 with
        | nil => simp at l2; omega
        | cons a l => exact ⟨a, l, rfl⟩
       simp only [List.length_cons] at l2
       have hls : L.length - (1) = T3.length + 1 := by omega
       have t3 : T3.length + 1 ≤ 1048576 := by omega
       have t3b : 0 + (T3.length + 1) ≤ 1048576 := by omega
       have t3a : ((T3.map rI).all fun r => r.length == 1) = true := by simp [rI]
       have t3r := fun n => rI_rb n 4 T3
       have t3l : (T3.map rI).length = T3.length := by simp
       have hls3 : 1 + (T3.length + 1) ≤ L.length := by omega
       have tk3 : (T3.map rI).take T3.length = T3.map rI := List.take_of_length_le (by simp)
       refine runs_drwN fu (by simp (maxSteps := 3000000) [↓crb, ↓cst, ↓hLr, zI, -List.map_take, -List.map_drop, -List.length_map, -List.getElem?_map, evOpt, sliceA, bounds, hiB, bound, HH2, hcall, h18, ↓o18, ↓f18, ↓heB, ↓eqB_rI, ↓hdl, ↓hdl2, hs1, hs2, hls, hls3, t3, t3b, ↓t3a, ↓t3r, t3l, tk3]; rfl) ?_
       simp only [zT, zB]
       refine zR (zO (by simp [↓crb, ↓cst, ↓hLr, zI, -List.map_take, -List.map_drop, -List.length_map, -List.getElem?_map, evOpt, sliceA, bounds, hiB, bound, HH2, hcall, h18, ↓o18, ↓f18, ↓heB, ↓eqB_rI, ↓hdl, ↓hdl2, hs1, hs2, hls, hls3, t3, t3b, ↓t3a, ↓t3r, t3l, tk3]; rfl) ?_)
       simp only [zT, zB]
       have hEl : (L.eraseIdx 0).length = T3.length + 1 := by rw [her]; simp [l1]
       have hEn : (L.eraseIdx 0).length = n - (k2 + 1) := by rw [hEl]; omega
       rw [her] at hnx2 hEl hEn
       exact ⟨n - (k2 + 1), _, _, by omega, by simp [↓crb, ↓cst, ↓hLr, zI, -List.map_take, -List.map_drop, -List.length_map, -List.getElem?_map, evOpt, sliceA, bounds, hiB, bound, HH2, hcall, h18, ↓o18, ↓f18, ↓heB, ↓eqB_rI, ↓hdl, ↓hdl2, hs1, hs2, hls, hls3, t3, t3b, ↓t3a, ↓t3r, t3l, tk3, l1, hEl] <;> rfl, k2 + 1, i2 + 1, (b2 :: T3), false, by omega, rfl, by omega, hEn, .inr ⟨0, [lv], by omega, hnx2, rfl, rfl⟩⟩
     ·by_cases he : qn + 1 = L.length
      ·obtain ⟨rfl, rfl⟩ := hc1 (by omega)
       clear hc0
       have hdl : ((L.map rI).drop (qn + 1)).take (L.length - (qn + 1)) = (L.drop (qn + 1)).map rI := by rw [List.map_drop]; exact List.take_of_length_le (by simp)
       have hdl2 : (L.map rI).drop (qn + 1) = (L.drop (qn + 1)).map rI := by rw [List.map_drop]
       have l1 : (L.take qn).length = qn := by rw [List.length_take]; omega
       have l2 : (L.drop (qn + 1)).length = L.length - (qn + 1) := by rw [List.length_drop]
       have hs1 : qn + 1 + (L.length - (qn + 1)) = L.length := by omega
       have hs2 : qn + 1 + (L.length - (qn + 1)) ≤ L.length := by omega
       generalize L.take qn = T1 at *
       generalize L.drop (qn + 1) = T2 at *
       have tkq : (T1.map rI).take qn = T1.map rI := List.take_of_length_le (by simp [l1])
       have hq0 : ¬ qn = 0 := hz
       have t1l : (T1.map rI).length = qn := by simp [l1]
       have t1a : ((T1.map rI).all fun r => r.length == 1) = true := by simp [rI]
       have t1n : T1.map rI ≠ [] := by intro e; rw [e] at t1l; simp at t1l; omega
       have t1r := fun n => rI_rb n 4 T1
       obtain rfl : T2 = [] := List.eq_nil_of_length_eq_zero (by omega)
       simp only [List.append_nil] at her
       have hls : L.length - (qn + 1) = 0 := by omega
       have hls3 : qn + 1 ≤ L.length := by omega
       refine runs_drwN fu (by simp (maxSteps := 3000000) [↓crb, ↓cst, ↓hLr, zI, -List.map_take, -List.map_drop, -List.length_map, -List.getElem?_map, evOpt, sliceA, bounds, hiB, bound, HH2, hcall, h18, ↓o18, ↓f18, ↓heB, ↓eqB_rI, ↓hdl, ↓hdl2, hs1, hs2, hls, hls3, tkq, hq0, t1l, ↓t1a, t1n, ↓t1r]; rfl) ?_
       simp only [zT, zB]
       refine zR (zO (by simp [↓crb, ↓cst, ↓hLr, zI, -List.map_take, -List.map_drop, -List.length_map, -List.getElem?_map, evOpt, sliceA, bounds, hiB, bound, HH2, hcall, h18, ↓o18, ↓f18, ↓heB, ↓eqB_rI, ↓hdl, ↓hdl2, hs1, hs2, hls, hls3, tkq, hq0, t1l, ↓t1a, t1n, ↓t1r]; rfl) ?_)
       simp only [zT, zB]
       have hEl : (L.eraseIdx qn).length = qn := by rw [her]; simp [l1]
       have hEn : (L.eraseIdx qn).length = n - (k2 + 1) := by rw [hEl]; omega
       rw [her] at hnx2 hEl hEn
       exact ⟨n - (k2 + 1), _, _, by omega, by simp [↓crb, ↓cst, ↓hLr, zI, -List.map_take, -List.map_drop, -List.length_map, -List.getElem?_map, evOpt, sliceA, bounds, hiB, bound, HH2, hcall, h18, ↓o18, ↓f18, ↓heB, ↓eqB_rI, ↓hdl, ↓hdl2, hs1, hs2, hls, hls3, tkq, hq0, t1l, ↓t1a, t1n, ↓t1r, l1, hEl] <;> rfl, k2 + 1, i2 + 1, T1, false, by omega, rfl, by omega, hEn, .inr ⟨0, [lv], by omega, hnx2, rfl, rfl⟩⟩
      ·obtain ⟨rfl, rfl⟩ := hc1 (by omega)
       clear hc0
       have hdl : ((L.map rI).drop (qn + 1)).take (L.length - (qn + 1)) = (L.drop (qn + 1)).map rI := by rw [List.map_drop]; exact List.take_of_length_le (by simp)
       have hdl2 : (L.map rI).drop (qn + 1) = (L.drop (qn + 1)).map rI := by rw [List.map_drop]
       have l1 : (L.take qn).length = qn := by rw [List.length_take]; omega
       have l2 : (L.drop (qn + 1)).length = L.length - (qn + 1) := by rw [List.length_drop]
       have hs1 : qn + 1 + (L.length - (qn + 1)) = L.length := by omega
       have hs2 : qn + 1 + (L.length - (qn + 1)) ≤ L.length := by omega
       generalize L.take qn = T1 at *
       generalize L.drop (qn + 1) = T2 at *
       have tkq : (T1.map rI).take qn = T1.map rI := List.take_of_length_le (by simp [l1])
       have hq0 : ¬ qn = 0 := hz
       have t1l : (T1.map rI).length = qn := by simp [l1]
       have t1a : ((T1.map rI).all fun r => r.length == 1) = true := by simp [rI]
       have t1n : T1.map rI ≠ [] := by intro e; rw [e] at t1l; simp at t1l; omega
       have t1r := fun n => rI_rb n 4 T1
       obtain ⟨b2, T3, rfl⟩ : ∃ b2 T3, T2 = b2 :: T3 := by
        cases T2 with
        | nil => simp at l2; omega
        | cons a l => exact ⟨a, l, rfl⟩
       simp only [List.length_cons] at l2
       have hls : L.length - (qn + 1) = T3.length + 1 := by omega
       have t3 : T3.length + 1 ≤ 1048576 := by omega
       have t3b : qn + (T3.length + 1) ≤ 1048576 := by omega
       have t3a : ((T3.map rI).all fun r => r.length == 1) = true := by simp [rI]
       have t3r := fun n => rI_rb n 4 T3
       have t3l : (T3.map rI).length = T3.length := by simp
       have hls3 : qn + 1 + (T3.length + 1) ≤ L.length := by omega
       have tk3 : (T3.map rI).take T3.length = T3.map rI := List.take_of_length_le (by simp)
       refine runs_drwN fu (by simp (maxSteps := 3000000) [↓crb, ↓cst, ↓hLr, zI, -List.map_take, -List.map_drop, -List.length_map, -List.getElem?_map, evOpt, sliceA, bounds, hiB, bound, HH2, hcall, h18, ↓o18, ↓f18, ↓heB, ↓eqB_rI, ↓hdl, ↓hdl2, hs1, hs2, hls, hls3, tkq, hq0, t1l, ↓t1a, t1n, ↓t1r, t3, t3b, ↓t3a, ↓t3r, t3l, tk3]; rfl) ?_
       simp only [zT, zB]
       refine zR (zO (by simp [↓crb, ↓cst, ↓hLr, zI, -List.map_take, -List.map_drop, -List.length_map, -List.getElem?_map, evOpt, sliceA, bounds, hiB, bound, HH2, hcall, h18, ↓o18, ↓f18, ↓heB, ↓eqB_rI, ↓hdl, ↓hdl2, hs1, hs2, hls, hls3, tkq, hq0, t1l, ↓t1a, t1n, ↓t1r, t3, t3b, ↓t3a, ↓t3r, t3l, tk3]; rfl) ?_)
       simp only [zT, zB]
       have hEl : (L.eraseIdx qn).length = qn + (T3.length + 1) := by rw [her]; simp [l1]
       have hEn : (L.eraseIdx qn).length = n - (k2 + 1) := by rw [hEl]; omega
       rw [her] at hnx2 hEl hEn
       exact ⟨n - (k2 + 1), _, _, by omega, by simp [↓crb, ↓cst, ↓hLr, zI, -List.map_take, -List.map_drop, -List.length_map, -List.getElem?_map, evOpt, sliceA, bounds, hiB, bound, HH2, hcall, h18, ↓o18, ↓f18, ↓heB, ↓eqB_rI, ↓hdl, ↓hdl2, hs1, hs2, hls, hls3, tkq, hq0, t1l, ↓t1a, t1n, ↓t1r, t3, t3b, ↓t3a, ↓t3r, t3l, tk3, l1, hEl] <;> rfl, k2 + 1, i2 + 1, (T1 ++ b2 :: T3), false, by omega, rfl, by omega, hEn, .inr ⟨0, [lv], by omega, hnx2, rfl, rfl⟩⟩
    ·have hx2 := of_decide_eq_false hlt2
     have hkE2 : k2 = n := by omega
     have hn0 : n = 0 := by omega
     have hoe : ordW W_.o n = [] := by rw [hn0]; rfl
     rw [hoe]
     refine runs_exit ?_
     simp only [zT, zB, if_true, if_false, reduceIte, Nat.reduceEqDiff, Nat.succ_ne_zero, Nat.one_ne_zero, Nat.zero_ne_one]
     refine zS ?_
     refine zR (zO (by simp [↓crb, ↓cst, ccl, clen]; rfl) ?_)
     simp only [zT, zB]
     refine runs_ret ?_
     simp [↓crb, ↓cst, ccl, clen, trim, encE]
   ·have tk2 : (ac2.map rI).take (p2 + 1) = ac2.map rI := List.take_of_length_le (by simp [hacl2])
    have hlac2 : p2 + 1 + 1 ≤ 1048576 := by omega
    have hr32 : ∀ e : Int, (rI e).length = 1 := fun _ => rfl
    have hrj2 := fun n => rI_rb n 4 ac2
    have hal2 : (ac2.map rI).length = p2 + 1 := by rw [List.length_map, hacl2]
    have HH3 := zA ccl (zA clen (zA tk2 (zA hal2 (zA hlac2 (zA hacl2 hr32)))))
    refine zS ?_
    refine zS ?_
    refine zR (zO (by simp [↓crb, ↓cst, ↓hrj2, HH3]; rfl) ?_)
    simp only [zT, zB]
    refine runs_cond_split (x := _) rfl (fun hlt2 => ?_) (fun hlt2 => ?_)
    ·have hltt2 := of_decide_eq_true hlt2
     have hk2n : k2 < n := by omega
     have hi20 : 0 ≤ i2 := by omega
     have htn2 : i2.toNat = k2 := by omega
     have hi26 : i2 < 6 := by omega
     have hwi2 : W .i64 (i2 + 1) = i2 + 1 := W_small (by omega)
     have hco := co k2 (by omega)
     have hob := mins_fit (k := k2) bo.2
     have hdr : (W_.o.take n).drop k2 = W_.o.getD k2 0 :: (W_.o.take n).drop (k2 + 1) := by
      rw [List.drop_eq_getElem_cons (by rw [List.length_take, bo.1]; omega), List.getElem_take, List.getD_eq_getElem?_getD, List.getElem?_eq_getElem (by rw [bo.1]; omega)]; rfl
     generalize W_.o.getD k2 0 = ob at *
     obtain ⟨ob1, ob2⟩ := hob
     have hLp : (0 : Int) < (L.length : Int) := by omega
     have hLz : ¬ L.length = 0 := by omega
     have hLzi : ¬ (L.length : Int) = 0 := by omega
     have hLzb : ((L.length : Int) == 0) = false := by rw [beq_eq_false_iff_ne]; exact hLzi
     have hLm : ¬ ((L.length : Int) = -1) := by omega
     have hq1 := Int.tmod_nonneg (L.length : Int) ob1
     have hq2 := Int.tmod_lt_of_pos ob hLp
     have u0 : W .i64 ob = ob := W_fit (by omega)
     have hL6 : L.length ≤ 6 := by omega
     have hgo : ordGo (ob :: (W_.o.take n).drop (k2 + 1)) L = L.getD (ob.tmod (L.length : Int)).toNat 0 :: ordGo ((W_.o.take n).drop (k2 + 1)) (L.eraseIdx (ob.tmod (L.length : Int)).toNat) := rfl
     generalize hQ : ob.tmod (L.length : Int) = Qi at *
     have u1 : W .i64 Qi = Qi := W_fit (by omega)
     obtain ⟨qn, hqn⟩ : ∃ qn : Nat, Qi.toNat = qn := ⟨_, rfl⟩
     rw [hqn] at hgo
     have hql : qn < L.length := by omega
     have hqi : Qi = (qn : Int) := by omega
     have hqle : qn ≤ L.length := by omega
     have hql2 : Qi ≤ (L.length : Int) := by omega
     have hql3 : Qi + 1 ≤ (L.length : Int) := by omega
     have hq3 : 0 ≤ Qi + 1 := by omega
     have hwq : W .i64 (Qi + 1) = Qi + 1 := W_small (by omega)
     have hqn1 : (Qi + 1).toNat = qn + 1 := by omega
     have hLq : L.getD qn 0 = L[qn] := by rw [List.getD_eq_getElem?_getD, List.getElem?_eq_getElem hql]; rfl
     rw [hLq] at hgo
     have hLg : (L.map rI)[qn]? = some [I L[qn]] := by rw [List.getElem?_map, List.getElem?_eq_getElem hql]; rfl
     generalize hLv : L[qn] = lv at *
     have hLr : ((L.map rI).all fun r => r.length == 1) = true := by simp [rI]
     have hLlen : (L.map rI).length = L.length := by simp
     have her : L.eraseIdx qn = L.take qn ++ L.drop (qn + 1) := List.eraseIdx_eq_take_drop_succ L qn
     rw [hdr, hgo] at hac2
     have hnx2 : (ac2 ++ [lv]) ++ ordGo ((W_.o.take n).drop (k2 + 1)) (L.eraseIdx qn) = ordW W_.o n := by rw [← hac2, List.append_assoc]; rfl
     have hnl2 : (ac2 ++ [lv]).length = p2 + 1 + 1 := by simp [hacl2]
     have hap2 : ac2.map rI ++ [[I lv]] = (ac2 ++ [lv]).map rI := by rw [List.map_append]; rfl
     generalize ac2 ++ [lv] = nx2 at *
     have hrx2 := fun n => rI_rb n 4 nx2
     have HH4 := zA hi20 (zA htn2 (zA hi26 (zA hwi2 (zA hco (zA hLz (zA hLzi (zA hLzb (zA hLm (zA u0 (zA u1 (zA hQ (zA hqn (zA hq1 (zA hq2 (zA hql (zA hqle (zA hql2 (zA hql3 (zA hq3 (zA hwq (zA hqn1 (zA hLg (zA hLv (zA hLlen hap2))))))))))))))))))))))))
     have HH5 := zA crb (zA cst (zA hrj2 (zA hLr hrx2)))
     refine zK ?_
     simp only [zT, zB]
     refine zS ?_
     refine zL ?_
     refine zS ?_
     refine zR (zO (by simp [HH3, zI, -List.map_take, -List.map_drop, -List.length_map, -List.getElem?_map, evOpt, sliceA, bounds, hiB, bound, HH4, ↓HH5]; rfl) ?_)
     simp only [zT, zB]
     refine zS ?_
     refine zR (zO (by simp [HH3, zI, -List.map_take, -List.map_drop, -List.length_map, -List.getElem?_map, evOpt, sliceA, bounds, hiB, bound, HH4, ↓HH5]; rfl) ?_)
     simp only [zT, zB]
     obtain ⟨fu, cv, ch, hcall, hc0, hc1⟩ := a18h P T h18 [some (.row 26 [cells]), none, none, none, some (.row 1 (L.map rI)), none, some (.row 1 [[I lv]]), some (.row 1 (nx2.map rI)), none, none, none, none, none, none, none, none, none, none] 4 qn (tL && (qn == L.length)) L rfl hqle (by omega)
     by_cases hz : qn = 0
     ·by_cases he : qn + 1 = L.length
      ·obtain ⟨rfl, rfl⟩ := hc0 hz
       clear hc1
       have hdl : ((L.map rI).drop (qn + 1)).take (L.length - (qn + 1)) = (L.drop (qn + 1)).map rI := by rw [List.map_drop]; exact List.take_of_length_le (by simp)
       have hdl2 : (L.map rI).drop (qn + 1) = (L.drop (qn + 1)).map rI := by rw [List.map_drop]
       have l1 : (L.take qn).length = qn := by rw [List.length_take]; omega
       have l2 : (L.drop (qn + 1)).length = L.length - (qn + 1) := by rw [List.length_drop]
       have hs1 : qn + 1 + (L.length - (qn + 1)) = L.length := by omega
       have hs2 : qn + 1 + (L.length - (qn + 1)) ≤ L.length := by omega
       generalize L.take qn = T1 at *
       generalize L.drop (qn + 1) = T2 at *
       subst hz
       obtain rfl : T1 = [] := List.eq_nil_of_length_eq_zero l1
       simp only [List.nil_append] at her
       simp only [Nat.zero_add] at hdl hdl2 l2 hs1 hs2
       obtain rfl : T2 = [] := List.eq_nil_of_length_eq_zero (by omega)
       have hls : L.length - 1 = 0 := by omega
       have hls3 : 1 ≤ L.length := by omega
       refine runs_drwN fu (by simp (maxSteps := 3000000) [HH3, zI, -List.map_take, -List.map_drop, -List.length_map, -List.getElem?_map, evOpt, sliceA, bounds, hiB, bound, HH4, ↓HH5, hcall, h18, ↓o18, ↓f18, ↓heB, ↓eqB_rI, ↓hdl, ↓hdl2, hs1, hs2, hls, hls3]; rfl) ?_
       simp only [zT, zB]
       refine zR (zO (by simp [HH3, zI, -List.map_take, -List.map_drop, -List.length_map, -List.getElem?_map, evOpt, sliceA, bounds, hiB, bound, HH4, ↓HH5, hcall, h18, ↓o18, ↓f18, ↓heB, ↓eqB_rI, ↓hdl, ↓hdl2, hs1, hs2, hls, hls3]; rfl) ?_)
       simp only [zT, zB]
       have hEl : (L.eraseIdx 0).length = 0 := by rw [her]; simp [l1]
       have hEn : (L.eraseIdx 0).length = n - (k2 + 1) := by rw [hEl]; omega
       rw [her] at hnx2 hEl hEn
       exact ⟨n - (k2 + 1), _, _, by omega, by simp [HH3, zI, -List.map_take, -List.map_drop, -List.length_map, -List.getElem?_map, evOpt, sliceA, bounds, hiB, bound, HH4, ↓HH5, hcall, h18, ↓o18, ↓f18, ↓heB, ↓eqB_rI, ↓hdl, ↓hdl2, hs1, hs2, hls, hls3, l1, hEl] <;> rfl, k2 + 1, i2 + 1, ([] : List Int), true, by omega, rfl, by omega, hEn, .inr ⟨p2 + 1, nx2, by omega, hnx2, hnl2, rfl⟩⟩
      ·obtain ⟨rfl, rfl⟩ := hc0 hz
       clear hc1
       have hdl : ((L.map rI).drop (qn + 1)).take (L.length - (qn + 1)) = (L.drop (qn + 1)).map rI := by rw [List.map_drop]; exact List.take_of_length_le (by simp)
       have hdl2 : (L.map rI).drop (qn + 1) = (L.drop (qn + 1)).map rI := by rw [List.map_drop]
       have l1 : (L.take qn).length = qn := by rw [List.length_take]; omega
       have l2 : (L.drop (qn + 1)).length = L.length - (qn + 1) := by rw [List.length_drop]
       have hs1 : qn + 1 + (L.length - (qn + 1)) = L.length := by omega
       have hs2 : qn + 1 + (L.length - (qn + 1)) ≤ L.length := by omega
       generalize L.take qn = T1 at *
       generalize L.drop (qn + 1) = T2 at *
       subst hz
       obtain rfl : T1 = [] := List.eq_nil_of_length_eq_zero l1
       simp only [List.nil_append] at her
       simp only [Nat.zero_add] at hdl hdl2 l2 hs1 hs2
       obtain ⟨b2, T3, rfl⟩ : ∃ b2 T3, T2 = b2 :: T3 := by
        cases T2 with
        | nil => simp at l2; omega
        | cons a l => exact ⟨a, l, rfl⟩
       simp only [List.length_cons] at l2
       have hls : L.length - (1) = T3.length + 1 := by omega
       have t3 : T3.length + 1 ≤ 1048576 := by omega
       have t3b : 0 + (T3.length + 1) ≤ 1048576 := by omega
       have t3a : ((T3.map rI).all fun r => r.length == 1) = true := by simp [rI]
       have t3r := fun n => rI_rb n 4 T3
       have t3l : (T3.map rI).length = T3.length := by simp
       have hls3 : 1 + (T3.length + 1) ≤ L.length := by omega
       have tk3 : (T3.map rI).take T3.length = T3.map rI := List.take_of_length_le (by simp)
       refine runs_drwN fu (by simp (maxSteps := 3000000) [HH3, zI, -List.map_take, -List.map_drop, -List.length_map, -List.getElem?_map, evOpt, sliceA, bounds, hiB, bound, HH4, ↓HH5, hcall, h18, ↓o18, ↓f18, ↓heB, ↓eqB_rI, ↓hdl, ↓hdl2, hs1, hs2, hls, hls3, t3, t3b, ↓t3a, ↓t3r, t3l, tk3]; rfl) ?_
       simp only [zT, zB]
       refine zR (zO (by simp [HH3, zI, -List.map_take, -List.map_drop, -List.length_map, -List.getElem?_map, evOpt, sliceA, bounds, hiB, bound, HH4, ↓HH5, hcall, h18, ↓o18, ↓f18, ↓heB, ↓eqB_rI, ↓hdl, ↓hdl2, hs1, hs2, hls, hls3, t3, t3b, ↓t3a, ↓t3r, t3l, tk3]; rfl) ?_)
       simp only [zT, zB]
       have hEl : (L.eraseIdx 0).length = T3.length + 1 := by rw [her]; simp [l1]
       have hEn : (L.eraseIdx 0).length = n - (k2 + 1) := by rw [hEl]; omega
       rw [her] at hnx2 hEl hEn
       exact ⟨n - (k2 + 1), _, _, by omega, by simp [HH3, zI, -List.map_take, -List.map_drop, -List.length_map, -List.getElem?_map, evOpt, sliceA, bounds, hiB, bound, HH4, ↓HH5, hcall, h18, ↓o18, ↓f18, ↓heB, ↓eqB_rI, ↓hdl, ↓hdl2, hs1, hs2, hls, hls3, t3, t3b, ↓t3a, ↓t3r, t3l, tk3, l1, hEl] <;> rfl, k2 + 1, i2 + 1, (b2 :: T3), false, by omega, rfl, by omega, hEn, .inr ⟨p2 + 1, nx2, by omega, hnx2, hnl2, rfl⟩⟩
     ·by_cases he : qn + 1 = L.length
      ·obtain ⟨rfl, rfl⟩ := hc1 (by omega)
       clear hc0
       have hdl : ((L.map rI).drop (qn + 1)).take (L.length - (qn + 1)) = (L.drop (qn + 1)).map rI := by rw [List.map_drop]; exact List.take_of_length_le (by simp)
       have hdl2 : (L.map rI).drop (qn + 1) = (L.drop (qn + 1)).map rI := by rw [List.map_drop]
       have l1 : (L.take qn).length = qn := by rw [List.length_take]; omega
       have l2 : (L.drop (qn + 1)).length = L.length - (qn + 1) := by rw [List.length_drop]
       have hs1 : qn + 1 + (L.length - (qn + 1)) = L.length := by omega
       have hs2 : qn + 1 + (L.length - (qn + 1)) ≤ L.length := by omega
       generalize L.take qn = T1 at *
       generalize L.drop (qn + 1) = T2 at *
       have tkq : (T1.map rI).take qn = T1.map rI := List.take_of_length_le (by simp [l1])
       have hq0 : ¬ qn = 0 := hz
       have t1l : (T1.map rI).length = qn := by simp [l1]
       have t1a : ((T1.map rI).all fun r => r.length == 1) = true := by simp [rI]
       have t1n : T1.map rI ≠ [] := by intro e; rw [e] at t1l; simp at t1l; omega
       have t1r := fun n => rI_rb n 4 T1
       obtain rfl : T2 = [] := List.eq_nil_of_length_eq_zero (by omega)
       simp only [List.append_nil] at her
       have hls : L.length - (qn + 1) = 0 := by omega
       have hls3 : qn + 1 ≤ L.length := by omega
       refine runs_drwN fu (by simp (maxSteps := 3000000) [HH3, zI, -List.map_take, -List.map_drop, -List.length_map, -List.getElem?_map, evOpt, sliceA, bounds, hiB, bound, HH4, ↓HH5, hcall, h18, ↓o18, ↓f18, ↓heB, ↓eqB_rI, ↓hdl, ↓hdl2, hs1, hs2, hls, hls3, tkq, hq0, t1l, ↓t1a, t1n, ↓t1r]; rfl) ?_
       simp only [zT, zB]
       refine zR (zO (by simp [HH3, zI, -List.map_take, -List.map_drop, -List.length_map, -List.getElem?_map, evOpt, sliceA, bounds, hiB, bound, HH4, ↓HH5, hcall, h18, ↓o18, ↓f18, ↓heB, ↓eqB_rI, ↓hdl, ↓hdl2, hs1, hs2, hls, hls3, tkq, hq0, t1l, ↓t1a, t1n, ↓t1r]; rfl) ?_)
       simp only [zT, zB]
       have hEl : (L.eraseIdx qn).length = qn := by rw [her]; simp [l1]
       have hEn : (L.eraseIdx qn).length = n - (k2 + 1) := by rw [hEl]; omega
       rw [her] at hnx2 hEl hEn
       exact ⟨n - (k2 + 1), _, _, by omega, by simp [HH3, zI, -List.map_take, -List.map_drop, -List.length_map, -List.getElem?_map, evOpt, sliceA, bounds, hiB, bound, HH4, ↓HH5, hcall, h18, ↓o18, ↓f18, ↓heB, ↓eqB_rI, ↓hdl, ↓hdl2, hs1, hs2, hls, hls3, tkq, hq0, t1l, ↓t1a, t1n, ↓t1r, l1, hEl] <;> rfl, k2 + 1, i2 + 1, T1, false, by omega, rfl, by omega, hEn, .inr ⟨p2 + 1, nx2, by omega, hnx2, hnl2, rfl⟩⟩
      ·obtain ⟨rfl, rfl⟩ := hc1 (by omega)
       clear hc0
       have hdl : ((L.map rI).drop (qn + 1)).take (L.length - (qn + 1)) = (L.drop (qn + 1)).map rI := by rw [List.map_drop]; exact List.take_of_length_le (by simp)
       have hdl2 : (L.map rI).drop (qn + 1) = (L.drop (qn + 1)).map rI := by rw [List.map_drop]
       have l1 : (L.take qn).length = qn := by rw [List.length_take]; omega
       have l2 : (L.drop (qn + 1)).length = L.length - (qn + 1) := by rw [List.length_drop]
       have hs1 : qn + 1 + (L.length - (qn + 1)) = L.length := by omega
       have hs2 : qn + 1 + (L.length - (qn + 1)) ≤ L.length := by omega
       generalize L.take qn = T1 at *
       generalize L.drop (qn + 1) = T2 at *
       have tkq : (T1.map rI).take qn = T1.map rI := List.take_of_length_le (by simp [l1])
       have hq0 : ¬ qn = 0 := hz
       have t1l : (T1.map rI).length = qn := by simp [l1]
       have t1a : ((T1.map rI).all fun r => r.length == 1) = true := by simp [rI]
       have t1n : T1.map rI ≠ [] := by intro e; rw [e] at t1l; simp at t1l; omega
       have t1r := fun n => rI_rb n 4 T1
       obtain ⟨b2, T3, rfl⟩ : ∃ b2 T3, T2 = b2 :: T3 := by
        cases T2 with
        | nil => simp at l2; omega
        | cons a l => exact ⟨a, l, rfl⟩
       simp only [List.length_cons] at l2
       have hls : L.length - (qn + 1) = T3.length + 1 := by omega
       have t3 : T3.length + 1 ≤ 1048576 := by omega
       have t3b : qn + (T3.length + 1) ≤ 1048576 := by omega
       have t3a : ((T3.map rI).all fun r => r.length == 1) = true := by simp [rI]
       have t3r := fun n => rI_rb n 4 T3
       have t3l : (T3.map rI).length = T3.length := by simp
       have hls3 : qn + 1 + (T3.length + 1) ≤ L.length := by omega
       have tk3 : (T3.map rI).take T3.length = T3.map rI := List.take_of_length_le (by simp)
       refine runs_drwN fu (by simp (maxSteps := 3000000) [HH3, zI, -List.map_take, -List.map_drop, -List.length_map, -List.getElem?_map, evOpt, sliceA, bounds, hiB, bound, HH4, ↓HH5, hcall, h18, ↓o18, ↓f18, ↓heB, ↓eqB_rI, ↓hdl, ↓hdl2, hs1, hs2, hls, hls3, tkq, hq0, t1l, ↓t1a, t1n, ↓t1r, t3, t3b, ↓t3a, ↓t3r, t3l, tk3]; rfl) ?_
       simp only [zT, zB]
       refine zR (zO (by simp [HH3, zI, -List.map_take, -List.map_drop, -List.length_map, -List.getElem?_map, evOpt, sliceA, bounds, hiB, bound, HH4, ↓HH5, hcall, h18, ↓o18, ↓f18, ↓heB, ↓eqB_rI, ↓hdl, ↓hdl2, hs1, hs2, hls, hls3, tkq, hq0, t1l, ↓t1a, t1n, ↓t1r, t3, t3b, ↓t3a, ↓t3r, t3l, tk3]; rfl) ?_)
       simp only [zT, zB]
       have hEl : (L.eraseIdx qn).length = qn + (T3.length + 1) := by rw [her]; simp [l1]
       have hEn : (L.eraseIdx qn).length = n - (k2 + 1) := by rw [hEl]; omega
       rw [her] at hnx2 hEl hEn
       exact ⟨n - (k2 + 1), _, _, by omega, by simp [HH3, zI, -List.map_take, -List.map_drop, -List.length_map, -List.getElem?_map, evOpt, sliceA, bounds, hiB, bound, HH4, ↓HH5, hcall, h18, ↓o18, ↓f18, ↓heB, ↓eqB_rI, ↓hdl, ↓hdl2, hs1, hs2, hls, hls3, tkq, hq0, t1l, ↓t1a, t1n, ↓t1r, t3, t3b, ↓t3a, ↓t3r, t3l, tk3, l1, hEl] <;> rfl, k2 + 1, i2 + 1, (T1 ++ b2 :: T3), false, by omega, rfl, by omega, hEn, .inr ⟨p2 + 1, nx2, by omega, hnx2, hnl2, rfl⟩⟩
    ·have hx2 := of_decide_eq_false hlt2
     have hkE2 : k2 = n := by omega
     have hLe : L = [] := List.eq_nil_of_length_eq_zero (by omega)
     rw [hLe, hkE2, List.drop_of_length_le (by rw [List.length_take, bo.1]; omega)] at hac2
     simp only [ordGo, List.append_nil] at hac2
     rw [← hac2, encE_ne (by intro e; rw [e] at hacl2; simp at hacl2)]
     refine runs_exit ?_
     simp only [zT, zB, if_true, if_false, reduceIte, Nat.reduceEqDiff, Nat.succ_ne_zero, Nat.one_ne_zero, Nat.zero_ne_one]
     refine zS ?_
     refine zR (zO (by simp [↓crb, ↓cst, ↓hrj2, HH3, frz_mapI]; rfl) ?_)
     simp only [zT, zB]
     refine runs_ret ?_
     simp [↓crb, ↓cst, ↓hrj2, HH3, frz_mapI, trim]
 ·have tk1 : (ac1.map rI).take (p1 + 1) = ac1.map rI := List.take_of_length_le (by simp [hacl1])
  have hlac1 : p1 + 1 + 1 ≤ 1048576 := by omega
  have hr31 : ∀ e : Int, (rI e).length = 1 := fun _ => rfl
  have hfr1 := fun n h r => optAll_snoc (frN_rI n h ac1) r
  have hrj1 := fun n => rI_rb n 4 ac1
  have HH6 := zA ccl (zA clen (zA tk1 (zA hlac1 (zA hacl1 hr31))))
  refine zS ?_
  refine zS ?_
  refine zR (zO (by simp [↓crb, ↓cst, ↓hfr1, ↓hrj1, HH6]; rfl) ?_)
  simp only [zT, zB]
  refine runs_cond_split (x := _) rfl (fun hlt1 => ?_) (fun hlt1 => ?_)
  ·have hltt1 := of_decide_eq_true hlt1
   have hk01 : k1 < n := by omega
   have hi01 : 0 ≤ i1 := by omega
   have htn1 : i1.toNat = k1 := by omega
   have hwi1 : W .i64 (i1 + 1) = i1 + 1 := W_small (by omega)
   have hF1 : upTo (k1 + 1) = upTo k1 ++ [i1] := by rw [upTo_succ, hik1]
   have hnx1 : ac1 ++ [i1] = upTo (k1 + 1) := by rw [hF1, ← hac1]
   have hnl1 : (ac1 ++ [i1]).length = p1 + 1 + 1 := by simp [hacl1]
   have hap1 : ac1.map rI ++ [[I i1]] = (ac1 ++ [i1]).map rI := by rw [List.map_append]; rfl
   generalize ac1 ++ [i1] = nx1 at *
   have hrx1 := fun n => rI_rb n 4 nx1
   have HH7 := zA hi01 (zA htn1 (zA hk01 (zA hwi1 hap1)))
   have HH8 := zA crb (zA cst (zA hfr1 (zA hrj1 hrx1)))
   refine zK ?_
   simp only [zT, zB]
   refine zS ?_
   refine zL ?_
   refine zR (zO (by simp [HH6, zI, HH7, ↓HH8]; rfl) ?_)
   simp only [zT, zB]
   refine zR (zO (by simp [HH6, zI, HH7, ↓HH8]; rfl) ?_)
   simp only [zT, zB]
   exact ⟨n - (k1 + 1), _, _, by omega, by simp [HH6, zI, HH7, ↓HH8] <;> first | exact ⟨rfl, rfl⟩ | rfl, k1 + 1, i1 + 1, by omega, rfl, by omega, .inr ⟨p1 + 1, nx1, by omega, hnx1, hnl1, rfl⟩⟩
  ·have hx1 := of_decide_eq_false hlt1
   have hkE1 : k1 = n := by omega
   rw [hkE1] at hac1
   refine runs_exit ?_
   simp only [zT, zB, if_true, if_false, reduceIte, Nat.reduceEqDiff, Nat.succ_ne_zero, Nat.one_ne_zero, Nat.zero_ne_one]
   refine zS ?_
   refine zS ?_
   refine zR (zO (by simp [↓crb, ↓cst, ↓hfr1, ↓hrj1, HH6]; rfl) ?_)
   simp only [zT, zB]
   refine zL ?_
   refine runs_loopG_inv (fun mm2 σ => ∃ (k2 : Nat) (i2 : Int) (L : List Int) (tL : Bool), i2 = k2 ∧ n - k2 = mm2 ∧ k2 ≤ n ∧ L.length = n - k2 ∧ ((k2 = 0 ∧ L = upTo n ∧ σ = ⟨[.any, I (n : Int), .ref 0 0 0, .any, .any, .sl 4 0 L.length tL, .sl 5 0 0 true, .any, I i2, .any, .any, .any, .any, .any, .any, .any, .any, .any, .any, .any, .any, .any, .any, .any, .any, .any, .any, .any, .any, .any, .any, .any, .any, .any, .any, .any, .any, .any, .any, .any, .any, .any, .any, .any, .any, .any, .any, .any, .any, .any, .any], [some (.row 26 [cells]), none, none, none, some (.row 1 (L.map rI)), some (.row 1 [])]⟩) ∨ (∃ (p2 : Nat) (ac2 : List Int), k2 = p2 + 1 ∧ ac2 ++ ordGo ((W_.o.take n).drop k2) L = ordW W_.o n ∧ ac2.length = p2 + 1 ∧ σ = ⟨[.any, I (n : Int), .ref 0 0 0, .any, .any, .sl 4 0 L.length tL, .sl 5 0 (p2 + 1) false, .any, I i2, .any, .any, .any, .any, .any, .any, .any, .any, .any, .any, .any, .any, .any, .any, .any, .any, .any, .any, .any, .any, .any, .any, .any, .any, .any, .any, .any, .any, .any, .any, .any, .any, .any, .any, .any, .any, .any, .any, .any, .any, .any, .any], [some (.row 26 [cells]), none, none, none, some (.row 1 (L.map rI)), some (.row 1 (ac2.map rI))]⟩))) (by simp [↓crb, ↓cst, ↓hfr1, ↓hrj1, HH6] <;> first | exact ⟨rfl, rfl⟩ | rfl) (⟨0, 0, ac1, false, rfl, rfl, Nat.zero_le _, by omega, .inl ⟨rfl, by rw [hac1], rfl⟩⟩) ?_
   rintro mm2 σ ⟨k2, i2, L, tL, hik2, rfl, hkl2, hLl, ⟨hkz2, hL0, rfl⟩ | ⟨p2, ac2, hkp2, hac2, hacl2, rfl⟩⟩
   ·refine zS ?_
    refine zS ?_
    refine zR (zO (by simp [↓crb, ↓cst, ↓hfr1, ↓hrj1, HH6]; rfl) ?_)
    simp only [zT, zB]
    refine runs_cond_split (x := _) rfl (fun hlt2 => ?_) (fun hlt2 => ?_)
    ·have hltt2 := of_decide_eq_true hlt2
     have hk2n : k2 < n := by omega
     have hi20 : 0 ≤ i2 := by omega
     have htn2 : i2.toNat = k2 := by omega
     have hi26 : i2 < 6 := by omega
     have hwi2 : W .i64 (i2 + 1) = i2 + 1 := W_small (by omega)
     have hco := co k2 (by omega)
     have hob := mins_fit (k := k2) bo.2
     have hdr : (W_.o.take n).drop k2 = W_.o.getD k2 0 :: (W_.o.take n).drop (k2 + 1) := by
      rw [List.drop_eq_getElem_cons (by rw [List.length_take, bo.1]; omega), List.getElem_take, List.getD_eq_getElem?_getD, List.getElem?_eq_getElem (by rw [bo.1]; omega)]; rfl
     generalize W_.o.getD k2 0 = ob at *
     obtain ⟨ob1, ob2⟩ := hob
     have hLp : (0 : Int) < (L.length : Int) := by omega
     have hLz : ¬ L.length = 0 := by omega
     have hLzi : ¬ (L.length : Int) = 0 := by omega
     have hLzb : ((L.length : Int) == 0) = false := by rw [beq_eq_false_iff_ne]; exact hLzi
     have hLm : ¬ ((L.length : Int) = -1) := by omega
     have hq1 := Int.tmod_nonneg (L.length : Int) ob1
     have hq2 := Int.tmod_lt_of_pos ob hLp
     have u0 : W .i64 ob = ob := W_fit (by omega)
     have hL6 : L.length ≤ 6 := by omega
     have hgo : ordGo (ob :: (W_.o.take n).drop (k2 + 1)) L = L.getD (ob.tmod (L.length : Int)).toNat 0 :: ordGo ((W_.o.take n).drop (k2 + 1)) (L.eraseIdx (ob.tmod (L.length : Int)).toNat) := rfl
     generalize hQ : ob.tmod (L.length : Int) = Qi at *
     have u1 : W .i64 Qi = Qi := W_fit (by omega)
     obtain ⟨qn, hqn⟩ : ∃ qn : Nat, Qi.toNat = qn := ⟨_, rfl⟩
     rw [hqn] at hgo
     have hql : qn < L.length := by omega
     have hqi : Qi = (qn : Int) := by omega
     have hqle : qn ≤ L.length := by omega
     have hql2 : Qi ≤ (L.length : Int) := by omega
     have hql3 : Qi + 1 ≤ (L.length : Int) := by omega
     have hq3 : 0 ≤ Qi + 1 := by omega
     have hwq : W .i64 (Qi + 1) = Qi + 1 := W_small (by omega)
     have hqn1 : (Qi + 1).toNat = qn + 1 := by omega
     have hLq : L.getD qn 0 = L[qn] := by rw [List.getD_eq_getElem?_getD, List.getElem?_eq_getElem hql]; rfl
     rw [hLq] at hgo
     have hLg : (L.map rI)[qn]? = some [I L[qn]] := by rw [List.getElem?_map, List.getElem?_eq_getElem hql]; rfl
     generalize hLv : L[qn] = lv at *
     have hLr : ((L.map rI).all fun r => r.length == 1) = true := by simp [rI]
     have hLlen : (L.map rI).length = L.length := by simp
     have her : L.eraseIdx qn = L.take qn ++ L.drop (qn + 1) := List.eraseIdx_eq_take_drop_succ L qn
     have hnx2 : [lv] ++ ordGo ((W_.o.take n).drop (k2 + 1)) (L.eraseIdx qn) = ordW W_.o n := by
      have e : ordW W_.o n = ordGo ((W_.o.take n).drop k2) L := by rw [hkz2, hL0]; rfl
      rw [e, hdr, hgo]; rfl
     have HH9 := zA hi20 (zA htn2 (zA hi26 (zA hwi2 (zA hco (zA hLz (zA hLzi (zA hLzb (zA hLm (zA u0 (zA u1 (zA hQ (zA hqn (zA hq1 (zA hq2 (zA hql (zA hqle (zA hql2 (zA hql3 (zA hq3 (zA hwq (zA hqn1 (zA hLg (zA hLv hLlen)))))))))))))))))))))))
     have HH10 := zA crb (zA cst (zA hfr1 (zA hrj1 hLr)))
     refine zK ?_
     simp only [zT, zB]
     refine zS ?_
     refine zL ?_
     refine zS ?_
     refine zR (zO (by simp [HH6, zI, -List.map_take, -List.map_drop, -List.length_map, -List.getElem?_map, evOpt, sliceA, bounds, hiB, bound, HH9, ↓HH10]; rfl) ?_)
     simp only [zT, zB]
     refine zS ?_
     refine zR (zO (by simp [HH6, zI, -List.map_take, -List.map_drop, -List.length_map, -List.getElem?_map, evOpt, sliceA, bounds, hiB, bound, HH9, ↓HH10]; rfl) ?_)
     simp only [zT, zB]
     obtain ⟨fu, cv, ch, hcall, hc0, hc1⟩ := a18h P T h18 [some (.row 26 [cells]), none, none, none, some (.row 1 (L.map rI)), some (.row 1 []), some (.row 1 [[I lv]]), some (.row 1 [[I lv]]), none, none, none, none, none, none, none, none, none, none] 4 qn (tL && (qn == L.length)) L rfl hqle (by omega)
     by_cases hz : qn = 0
     ·by_cases he : qn + 1 = L.length
      ·obtain ⟨rfl, rfl⟩ := hc0 hz
       clear hc1
       have hdl : ((L.map rI).drop (qn + 1)).take (L.length - (qn + 1)) = (L.drop (qn + 1)).map rI := by rw [List.map_drop]; exact List.take_of_length_le (by simp)
       have hdl2 : (L.map rI).drop (qn + 1) = (L.drop (qn + 1)).map rI := by rw [List.map_drop]
       have l1 : (L.take qn).length = qn := by rw [List.length_take]; omega
       have l2 : (L.drop (qn + 1)).length = L.length - (qn + 1) := by rw [List.length_drop]
       have hs1 : qn + 1 + (L.length - (qn + 1)) = L.length := by omega
       have hs2 : qn + 1 + (L.length - (qn + 1)) ≤ L.length := by omega
       generalize L.take qn = T1 at *
       generalize L.drop (qn + 1) = T2 at *
       subst hz
       obtain rfl : T1 = [] := List.eq_nil_of_length_eq_zero l1
       simp only [List.nil_append] at her
       simp only [Nat.zero_add] at hdl hdl2 l2 hs1 hs2
       obtain rfl : T2 = [] := List.eq_nil_of_length_eq_zero (by omega)
       have hls : L.length - 1 = 0 := by omega
       have hls3 : 1 ≤ L.length := by omega
       refine runs_drwN fu (by simp (maxSteps := 3000000) [HH6, zI, -List.map_take, -List.map_drop, -List.length_map, -List.getElem?_map, evOpt, sliceA, bounds, hiB, bound, HH9, ↓HH10, hcall, h18, ↓o18, ↓f18, ↓heB, ↓eqB_rI, ↓hdl, ↓hdl2, hs1, hs2, hls, hls3]; rfl) ?_
       simp only [zT, zB]
       refine zR (zO (by simp [HH6, zI, -List.map_take, -List.map_drop, -List.length_map, -List.getElem?_map, evOpt, sliceA, bounds, hiB, bound, HH9, ↓HH10, hcall, h18, ↓o18, ↓f18, ↓heB, ↓eqB_rI, ↓hdl, ↓hdl2, hs1, hs2, hls, hls3]; rfl) ?_)
       simp only [zT, zB]
       have hEl : (L.eraseIdx 0).length = 0 := by rw [her]; simp [l1]
       have hEn : (L.eraseIdx 0).length = n - (k2 + 1) := by rw [hEl]; omega
       rw [her] at hnx2 hEl hEn
       exact ⟨n - (k2 + 1), _, _, by omega, by simp [HH6, zI, -List.map_take, -List.map_drop, -List.length_map, -List.getElem?_map, evOpt, sliceA, bounds, hiB, bound, HH9, ↓HH10, hcall, h18, ↓o18, ↓f18, ↓heB, ↓eqB_rI, ↓hdl, ↓hdl2, hs1, hs2, hls, hls3, l1, hEl] <;> rfl, k2 + 1, i2 + 1, ([] : List Int), true, by omega, rfl, by omega, hEn, .inr ⟨0, [lv], by omega, hnx2, rfl, rfl⟩⟩
      ·obtain ⟨rfl, rfl⟩ := hc0 hz
       clear hc1
       have hdl : ((L.map rI).drop (qn + 1)).take (L.length - (qn + 1)) = (L.drop (qn + 1)).map rI := by rw [List.map_drop]; exact List.take_of_length_le (by simp)
       have hdl2 : (L.map rI).drop (qn + 1) = (L.drop (qn + 1)).map rI := by rw [List.map_drop]
       have l1 : (L.take qn).length = qn := by rw [List.length_take]; omega
       have l2 : (L.drop (qn + 1)).length = L.length - (qn + 1) := by rw [List.length_drop]
       have hs1 : qn + 1 + (L.length - (qn + 1)) = L.length := by omega
       have hs2 : qn + 1 + (L.length - (qn + 1)) ≤ L.length := by omega
       generalize L.take qn = T1 at *
       generalize L.drop (qn + 1) = T2 at *
       subst hz
       obtain rfl : T1 = [] := List.eq_nil_of_length_eq_zero l1
       simp only [List.nil_append] at her
       simp only [Nat.zero_add] at hdl hdl2 l2 hs1 hs2
       obtain ⟨b2, T3, rfl⟩ : ∃ b2 T3, T2 = b2 :: T3 := by
        cases T2 with
        | nil => simp at l2; omega
        | cons a l => exact ⟨a, l, rfl⟩
       simp only [List.length_cons] at l2
       have hls : L.length - (1) = T3.length + 1 := by omega
       have t3 : T3.length + 1 ≤ 1048576 := by omega
       have t3b : 0 + (T3.length + 1) ≤ 1048576 := by omega
       have t3a : ((T3.map rI).all fun r => r.length == 1) = true := by simp [rI]
       have t3r := fun n => rI_rb n 4 T3
       have t3l : (T3.map rI).length = T3.length := by simp
       have hls3 : 1 + (T3.length + 1) ≤ L.length := by omega
       have tk3 : (T3.map rI).take T3.length = T3.map rI := List.take_of_length_le (by simp)
       refine runs_drwN fu (by simp (maxSteps := 3000000) [HH6, zI, -List.map_take, -List.map_drop, -List.length_map, -List.getElem?_map, evOpt, sliceA, bounds, hiB, bound, HH9, ↓HH10, hcall, h18, ↓o18, ↓f18, ↓heB, ↓eqB_rI, ↓hdl, ↓hdl2, hs1, hs2, hls, hls3, t3, t3b, ↓t3a, ↓t3r, t3l, tk3]; rfl) ?_
       simp only [zT, zB]
       refine zR (zO (by simp [HH6, zI, -List.map_take, -List.map_drop, -List.length_map, -List.getElem?_map, evOpt, sliceA, bounds, hiB, bound, HH9, ↓HH10, hcall, h18, ↓o18, ↓f18, ↓heB, ↓eqB_rI, ↓hdl, ↓hdl2, hs1, hs2, hls, hls3, t3, t3b, ↓t3a, ↓t3r, t3l, tk3]; rfl) ?_)
       simp only [zT, zB]
       have hEl : (L.eraseIdx 0).length = T3.length + 1 := by rw [her]; simp [l1]
       have hEn : (L.eraseIdx 0).length = n - (k2 + 1) := by rw [hEl]; omega
       rw [her] at hnx2 hEl hEn
       exact ⟨n - (k2 + 1), _, _, by omega, by simp [HH6, zI, -List.map_take, -List.map_drop, -List.length_map, -List.getElem?_map, evOpt, sliceA, bounds, hiB, bound, HH9, ↓HH10, hcall, h18, ↓o18, ↓f18, ↓heB, ↓eqB_rI, ↓hdl, ↓hdl2, hs1, hs2, hls, hls3, t3, t3b, ↓t3a, ↓t3r, t3l, tk3, l1, hEl] <;> rfl, k2 + 1, i2 + 1, (b2 :: T3), false, by omega, rfl, by omega, hEn, .inr ⟨0, [lv], by omega, hnx2, rfl, rfl⟩⟩
     ·by_cases he : qn + 1 = L.length
      ·obtain ⟨rfl, rfl⟩ := hc1 (by omega)
       clear hc0
       have hdl : ((L.map rI).drop (qn + 1)).take (L.length - (qn + 1)) = (L.drop (qn + 1)).map rI := by rw [List.map_drop]; exact List.take_of_length_le (by simp)
       have hdl2 : (L.map rI).drop (qn + 1) = (L.drop (qn + 1)).map rI := by rw [List.map_drop]
       have l1 : (L.take qn).length = qn := by rw [List.length_take]; omega
       have l2 : (L.drop (qn + 1)).length = L.length - (qn + 1) := by rw [List.length_drop]
       have hs1 : qn + 1 + (L.length - (qn + 1)) = L.length := by omega
       have hs2 : qn + 1 + (L.length - (qn + 1)) ≤ L.length := by omega
       generalize L.take qn = T1 at *
       generalize L.drop (qn + 1) = T2 at *
       have tkq : (T1.map rI).take qn = T1.map rI := List.take_of_length_le (by simp [l1])
       have hq0 : ¬ qn = 0 := hz
       have t1l : (T1.map rI).length = qn := by simp [l1]
       have t1a : ((T1.map rI).all fun r => r.length == 1) = true := by simp [rI]
       have t1n : T1.map rI ≠ [] := by intro e; rw [e] at t1l; simp at t1l; omega
       have t1r := fun n => rI_rb n 4 T1
       obtain rfl : T2 = [] := List.eq_nil_of_length_eq_zero (by omega)
       simp only [List.append_nil] at her
       have hls : L.length - (qn + 1) = 0 := by omega
       have hls3 : qn + 1 ≤ L.length := by omega
       refine runs_drwN fu (by simp (maxSteps := 3000000) [HH6, zI, -List.map_take, -List.map_drop, -List.length_map, -List.getElem?_map, evOpt, sliceA, bounds, hiB, bound, HH9, ↓HH10, hcall, h18, ↓o18, ↓f18, ↓heB, ↓eqB_rI, ↓hdl, ↓hdl2, hs1, hs2, hls, hls3, tkq, hq0, t1l, ↓t1a, t1n, ↓t1r]; rfl) ?_
       simp only [zT, zB]
       refine zR (zO (by simp [HH6, zI, -List.map_take, -List.map_drop, -List.length_map, -List.getElem?_map, evOpt, sliceA, bounds, hiB, bound, HH9, ↓HH10, hcall, h18, ↓o18, ↓f18, ↓heB, ↓eqB_rI, ↓hdl, ↓hdl2, hs1, hs2, hls, hls3, tkq, hq0, t1l, ↓t1a, t1n, ↓t1r]; rfl) ?_)
       simp only [zT, zB]
       have hEl : (L.eraseIdx qn).length = qn := by rw [her]; simp [l1]
       have hEn : (L.eraseIdx qn).length = n - (k2 + 1) := by rw [hEl]; omega
       rw [her] at hnx2 hEl hEn
       exact ⟨n - (k2 + 1), _, _, by omega, by simp [HH6, zI, -List.map_take, -List.map_drop, -List.length_map, -List.getElem?_map, evOpt, sliceA, bounds, hiB, bound, HH9, ↓HH10, hcall, h18, ↓o18, ↓f18, ↓heB, ↓eqB_rI, ↓hdl, ↓hdl2, hs1, hs2, hls, hls3, tkq, hq0, t1l, ↓t1a, t1n, ↓t1r, l1, hEl] <;> rfl, k2 + 1, i2 + 1, T1, false, by omega, rfl, by omega, hEn, .inr ⟨0, [lv], by omega, hnx2, rfl, rfl⟩⟩
      ·obtain ⟨rfl, rfl⟩ := hc1 (by omega)
       clear hc0
       have hdl : ((L.map rI).drop (qn + 1)).take (L.length - (qn + 1)) = (L.drop (qn + 1)).map rI := by rw [List.map_drop]; exact List.take_of_length_le (by simp)
       have hdl2 : (L.map rI).drop (qn + 1) = (L.drop (qn + 1)).map rI := by rw [List.map_drop]
       have l1 : (L.take qn).length = qn := by rw [List.length_take]; omega
       have l2 : (L.drop (qn + 1)).length = L.length - (qn + 1) := by rw [List.length_drop]
       have hs1 : qn + 1 + (L.length - (qn + 1)) = L.length := by omega
       have hs2 : qn + 1 + (L.length - (qn + 1)) ≤ L.length := by omega
       generalize L.take qn = T1 at *
       generalize L.drop (qn + 1) = T2 at *
       have tkq : (T1.map rI).take qn = T1.map rI := List.take_of_length_le (by simp [l1])
       have hq0 : ¬ qn = 0 := hz
       have t1l : (T1.map rI).length = qn := by simp [l1]
       have t1a : ((T1.map rI).all fun r => r.length == 1) = true := by simp [rI]
       have t1n : T1.map rI ≠ [] := by intro e; rw [e] at t1l; simp at t1l; omega
       have t1r := fun n => rI_rb n 4 T1
       obtain ⟨b2, T3, rfl⟩ : ∃ b2 T3, T2 = b2 :: T3 := by
        cases T2 with
        | nil => simp at l2; omega
        | cons a l => exact ⟨a, l, rfl⟩
       simp only [List.length_cons] at l2
       have hls : L.length - (qn + 1) = T3.length + 1 := by omega
       have t3 : T3.length + 1 ≤ 1048576 := by omega
       have t3b : qn + (T3.length + 1) ≤ 1048576 := by omega
       have t3a : ((T3.map rI).all fun r => r.length == 1) = true := by simp [rI]
       have t3r := fun n => rI_rb n 4 T3
       have t3l : (T3.map rI).length = T3.length := by simp
       have hls3 : qn + 1 + (T3.length + 1) ≤ L.length := by omega
       have tk3 : (T3.map rI).take T3.length = T3.map rI := List.take_of_length_le (by simp)
       refine runs_drwN fu (by simp (maxSteps := 3000000) [HH6, zI, -List.map_take, -List.map_drop, -List.length_map, -List.getElem?_map, evOpt, sliceA, bounds, hiB, bound, HH9, ↓HH10, hcall, h18, ↓o18, ↓f18, ↓heB, ↓eqB_rI, ↓hdl, ↓hdl2, hs1, hs2, hls, hls3, tkq, hq0, t1l, ↓t1a, t1n, ↓t1r, t3, t3b, ↓t3a, ↓t3r, t3l, tk3]; rfl) ?_
       simp only [zT, zB]
       refine zR (zO (by simp [HH6, zI, -List.map_take, -List.map_drop, -List.length_map, -List.getElem?_map, evOpt, sliceA, bounds, hiB, bound, HH9, ↓HH10, hcall, h18, ↓o18, ↓f18, ↓heB, ↓eqB_rI, ↓hdl, ↓hdl2, hs1, hs2, hls, hls3, tkq, hq0, t1l, ↓t1a, t1n, ↓t1r, t3, t3b, ↓t3a, ↓t3r, t3l, tk3]; rfl) ?_)
       simp only [zT, zB]
       have hEl : (L.eraseIdx qn).length = qn + (T3.length + 1) := by rw [her]; simp [l1]
       have hEn : (L.eraseIdx qn).length = n - (k2 + 1) := by rw [hEl]; omega
       rw [her] at hnx2 hEl hEn
       exact ⟨n - (k2 + 1), _, _, by omega, by simp [HH6, zI, -List.map_take, -List.map_drop, -List.length_map, -List.getElem?_map, evOpt, sliceA, bounds, hiB, bound, HH9, ↓HH10, hcall, h18, ↓o18, ↓f18, ↓heB, ↓eqB_rI, ↓hdl, ↓hdl2, hs1, hs2, hls, hls3, tkq, hq0, t1l, ↓t1a, t1n, ↓t1r, t3, t3b, ↓t3a, ↓t3r, t3l, tk3, l1, hEl] <;> rfl, k2 + 1, i2 + 1, (T1 ++ b2 :: T3), false, by omega, rfl, by omega, hEn, .inr ⟨0, [lv], by omega, hnx2, rfl, rfl⟩⟩
    ·have hx2 := of_decide_eq_false hlt2
     have hkE2 : k2 = n := by omega
     have hn0 : n = 0 := by omega
     have hoe : ordW W_.o n = [] := by rw [hn0]; rfl
     rw [hoe]
     refine runs_exit ?_
     simp only [zT, zB, if_true, if_false, reduceIte, Nat.reduceEqDiff, Nat.succ_ne_zero, Nat.one_ne_zero, Nat.zero_ne_one]
     refine zS ?_
     refine zR (zO (by simp [↓crb, ↓cst, ↓hfr1, ↓hrj1, HH6]; rfl) ?_)
     simp only [zT, zB]
     refine runs_ret ?_
     simp [↓crb, ↓cst, ↓hfr1, ↓hrj1, HH6, trim, encE]
   ·have tk2 : (ac2.map rI).take (p2 + 1) = ac2.map rI := List.take_of_length_le (by simp [hacl2])
    have hlac2 : p2 + 1 + 1 ≤ 1048576 := by omega
    have hr32 : ∀ e : Int, (rI e).length = 1 := fun _ => rfl
    have hrj2 := fun n => rI_rb n 4 ac2
    have hal2 : (ac2.map rI).length = p2 + 1 := by rw [List.length_map, hacl2]
    have HH11 := zA tk2 (zA hal2 (zA hlac2 (zA hacl2 hr32)))
    have HH12 := zA crb (zA cst (zA hfr1 (zA hrj1 hrj2)))
    refine zS ?_
    refine zS ?_
    refine zR (zO (by simp [HH6, HH11, ↓HH12]; rfl) ?_)
    simp only [zT, zB]
    refine runs_cond_split (x := _) rfl (fun hlt2 => ?_) (fun hlt2 => ?_)
    ·have hltt2 := of_decide_eq_true hlt2
     have hk2n : k2 < n := by omega
     have hi20 : 0 ≤ i2 := by omega
     have htn2 : i2.toNat = k2 := by omega
     have hi26 : i2 < 6 := by omega
     have hwi2 : W .i64 (i2 + 1) = i2 + 1 := W_small (by omega)
     have hco := co k2 (by omega)
     have hob := mins_fit (k := k2) bo.2
     have hdr : (W_.o.take n).drop k2 = W_.o.getD k2 0 :: (W_.o.take n).drop (k2 + 1) := by
      rw [List.drop_eq_getElem_cons (by rw [List.length_take, bo.1]; omega), List.getElem_take, List.getD_eq_getElem?_getD, List.getElem?_eq_getElem (by rw [bo.1]; omega)]; rfl
     generalize W_.o.getD k2 0 = ob at *
     obtain ⟨ob1, ob2⟩ := hob
     have hLp : (0 : Int) < (L.length : Int) := by omega
     have hLz : ¬ L.length = 0 := by omega
     have hLzi : ¬ (L.length : Int) = 0 := by omega
     have hLzb : ((L.length : Int) == 0) = false := by rw [beq_eq_false_iff_ne]; exact hLzi
     have hLm : ¬ ((L.length : Int) = -1) := by omega
     have hq1 := Int.tmod_nonneg (L.length : Int) ob1
     have hq2 := Int.tmod_lt_of_pos ob hLp
     have u0 : W .i64 ob = ob := W_fit (by omega)
     have hL6 : L.length ≤ 6 := by omega
     have hgo : ordGo (ob :: (W_.o.take n).drop (k2 + 1)) L = L.getD (ob.tmod (L.length : Int)).toNat 0 :: ordGo ((W_.o.take n).drop (k2 + 1)) (L.eraseIdx (ob.tmod (L.length : Int)).toNat) := rfl
     generalize hQ : ob.tmod (L.length : Int) = Qi at *
     have u1 : W .i64 Qi = Qi := W_fit (by omega)
     obtain ⟨qn, hqn⟩ : ∃ qn : Nat, Qi.toNat = qn := ⟨_, rfl⟩
     rw [hqn] at hgo
     have hql : qn < L.length := by omega
     have hqi : Qi = (qn : Int) := by omega
     have hqle : qn ≤ L.length := by omega
     have hql2 : Qi ≤ (L.length : Int) := by omega
     have hql3 : Qi + 1 ≤ (L.length : Int) := by omega
     have hq3 : 0 ≤ Qi + 1 := by omega
     have hwq : W .i64 (Qi + 1) = Qi + 1 := W_small (by omega)
     have hqn1 : (Qi + 1).toNat = qn + 1 := by omega
     have hLq : L.getD qn 0 = L[qn] := by rw [List.getD_eq_getElem?_getD, List.getElem?_eq_getElem hql]; rfl
     rw [hLq] at hgo
     have hLg : (L.map rI)[qn]? = some [I L[qn]] := by rw [List.getElem?_map, List.getElem?_eq_getElem hql]; rfl
     generalize hLv : L[qn] = lv at *
     have hLr : ((L.map rI).all fun r => r.length == 1) = true := by simp [rI]
     have hLlen : (L.map rI).length = L.length := by simp
     have her : L.eraseIdx qn = L.take qn ++ L.drop (qn + 1) := List.eraseIdx_eq_take_drop_succ L qn
     rw [hdr, hgo] at hac2
     have hnx2 : (ac2 ++ [lv]) ++ ordGo ((W_.o.take n).drop (k2 + 1)) (L.eraseIdx qn) = ordW W_.o n := by rw [← hac2, List.append_assoc]; rfl
     have hnl2 : (ac2 ++ [lv]).length = p2 + 1 + 1 := by simp [hacl2]
     have hap2 : ac2.map rI ++ [[I lv]] = (ac2 ++ [lv]).map rI := by rw [List.map_append]; rfl
     generalize ac2 ++ [lv] = nx2 at *
     have hrx2 := fun n => rI_rb n 4 nx2
     have HH13 := zA hi20 (zA htn2 (zA hi26 (zA hwi2 (zA hco (zA hLz (zA hLzi (zA hLzb (zA hLm (zA u0 (zA u1 (zA hQ (zA hqn (zA hq1 (zA hq2 (zA hql (zA hqle (zA hql2 (zA hql3 (zA hq3 (zA hwq (zA hqn1 (zA hLg (zA hLv (zA hLlen hap2))))))))))))))))))))))))
     refine zK ?_
     simp only [zT, zB]
     refine zS ?_
     refine zL ?_
     refine zS ?_
     refine zR (zO (by simp [HH6, HH11, ↓HH12, ↓hLr, zI, -List.map_take, -List.map_drop, -List.length_map, -List.getElem?_map, evOpt, sliceA, bounds, hiB, bound, ↓hrx2, HH13]; rfl) ?_)
     simp only [zT, zB]
     refine zS ?_
     refine zR (zO (by simp [HH6, HH11, ↓HH12, ↓hLr, zI, -List.map_take, -List.map_drop, -List.length_map, -List.getElem?_map, evOpt, sliceA, bounds, hiB, bound, ↓hrx2, HH13]; rfl) ?_)
     simp only [zT, zB]
     obtain ⟨fu, cv, ch, hcall, hc0, hc1⟩ := a18h P T h18 [some (.row 26 [cells]), none, none, none, some (.row 1 (L.map rI)), none, some (.row 1 [[I lv]]), some (.row 1 (nx2.map rI)), none, none, none, none, none, none, none, none, none, none] 4 qn (tL && (qn == L.length)) L rfl hqle (by omega)
     by_cases hz : qn = 0
     ·by_cases he : qn + 1 = L.length
      ·obtain ⟨rfl, rfl⟩ := hc0 hz
       clear hc1
       have hdl : ((L.map rI).drop (qn + 1)).take (L.length - (qn + 1)) = (L.drop (qn + 1)).map rI := by rw [List.map_drop]; exact List.take_of_length_le (by simp)
       have hdl2 : (L.map rI).drop (qn + 1) = (L.drop (qn + 1)).map rI := by rw [List.map_drop]
       have l1 : (L.take qn).length = qn := by rw [List.length_take]; omega
       have l2 : (L.drop (qn + 1)).length = L.length - (qn + 1) := by rw [List.length_drop]
       have hs1 : qn + 1 + (L.length - (qn + 1)) = L.length := by omega
       have hs2 : qn + 1 + (L.length - (qn + 1)) ≤ L.length := by omega
       generalize L.take qn = T1 at *
       generalize L.drop (qn + 1) = T2 at *
       subst hz
       obtain rfl : T1 = [] := List.eq_nil_of_length_eq_zero l1
       simp only [List.nil_append] at her
       simp only [Nat.zero_add] at hdl hdl2 l2 hs1 hs2
       obtain rfl : T2 = [] := List.eq_nil_of_length_eq_zero (by omega)
       have hls : L.length - 1 = 0 := by omega
       have hls3 : 1 ≤ L.length := by omega
       refine runs_drwN fu (by simp (maxSteps := 3000000) [HH6, HH11, ↓HH12, ↓hLr, zI, -List.map_take, -List.map_drop, -List.length_map, -List.getElem?_map, evOpt, sliceA, bounds, hiB, bound, ↓hrx2, HH13, hcall, h18, ↓o18, ↓f18, ↓heB, ↓eqB_rI, ↓hdl, ↓hdl2, hs1, hs2, hls, hls3]; rfl) ?_
       simp only [zT, zB]
       refine zR (zO (by simp [HH6, HH11, ↓HH12, ↓hLr, zI, -List.map_take, -List.map_drop, -List.length_map, -List.getElem?_map, evOpt, sliceA, bounds, hiB, bound, ↓hrx2, HH13, hcall, h18, ↓o18, ↓f18, ↓heB, ↓eqB_rI, ↓hdl, ↓hdl2, hs1, hs2, hls, hls3]; rfl) ?_)
       simp only [zT, zB]
       have hEl : (L.eraseIdx 0).length = 0 := by rw [her]; simp [l1]
       have hEn : (L.eraseIdx 0).length = n - (k2 + 1) := by rw [hEl]; omega
       rw [her] at hnx2 hEl hEn
       exact ⟨n - (k2 + 1), _, _, by omega, by simp [HH6, HH11, ↓HH12, ↓hLr, zI, -List.map_take, -List.map_drop, -List.length_map, -List.getElem?_map, evOpt, sliceA, bounds, hiB, bound, ↓hrx2, HH13, hcall, h18, ↓o18, ↓f18, ↓heB, ↓eqB_rI, ↓hdl, ↓hdl2, hs1, hs2, hls, hls3, l1, hEl] <;> rfl, k2 + 1, i2 + 1, ([] : List Int), true, by omega, rfl, by omega, hEn, .inr ⟨p2 + 1, nx2, by omega, hnx2, hnl2, rfl⟩⟩
      ·obtain ⟨rfl, rfl⟩ := hc0 hz
       clear hc1
       have hdl : ((L.map rI).drop (qn + 1)).take (L.length - (qn + 1)) = (L.drop (qn + 1)).map rI := by rw [List.map_drop]; exact List.take_of_length_le (by simp)
       have hdl2 : (L.map rI).drop (qn + 1) = (L.drop (qn + 1)).map rI := by rw [List.map_drop]
       have l1 : (L.take qn).length = qn := by rw [List.length_take]; omega
       have l2 : (L.drop (qn + 1)).length = L.length - (qn + 1) := by rw [List.length_drop]
       have hs1 : qn + 1 + (L.length - (qn + 1)) = L.length := by omega
       have hs2 : qn + 1 + (L.length - (qn + 1)) ≤ L.length := by omega
       generalize L.take qn = T1 at *
       generalize L.drop (qn + 1) = T2 at *
       subst hz
       obtain rfl : T1 = [] := List.eq_nil_of_length_eq_zero l1
       simp only [List.nil_append] at her
       simp only [Nat.zero_add] at hdl hdl2 l2 hs1 hs2
       obtain ⟨b2, T3, rfl⟩ : ∃ b2 T3, T2 = b2 :: T3 := by
        cases T2 with
        | nil => simp at l2; omega
        | cons a l => exact ⟨a, l, rfl⟩
       simp only [List.length_cons] at l2
       have hls : L.length - (1) = T3.length + 1 := by omega
       have t3 : T3.length + 1 ≤ 1048576 := by omega
       have t3b : 0 + (T3.length + 1) ≤ 1048576 := by omega
       have t3a : ((T3.map rI).all fun r => r.length == 1) = true := by simp [rI]
       have t3r := fun n => rI_rb n 4 T3
       have t3l : (T3.map rI).length = T3.length := by simp
       have hls3 : 1 + (T3.length + 1) ≤ L.length := by omega
       have tk3 : (T3.map rI).take T3.length = T3.map rI := List.take_of_length_le (by simp)
       refine runs_drwN fu (by simp (maxSteps := 3000000) [HH6, HH11, ↓HH12, ↓hLr, zI, -List.map_take, -List.map_drop, -List.length_map, -List.getElem?_map, evOpt, sliceA, bounds, hiB, bound, ↓hrx2, HH13, hcall, h18, ↓o18, ↓f18, ↓heB, ↓eqB_rI, ↓hdl, ↓hdl2, hs1, hs2, hls, hls3, t3, t3b, ↓t3a, ↓t3r, t3l, tk3]; rfl) ?_
       simp only [zT, zB]
       refine zR (zO (by simp [HH6, HH11, ↓HH12, ↓hLr, zI, -List.map_take, -List.map_drop, -List.length_map, -List.getElem?_map, evOpt, sliceA, bounds, hiB, bound, ↓hrx2, HH13, hcall, h18, ↓o18, ↓f18, ↓heB, ↓eqB_rI, ↓hdl, ↓hdl2, hs1, hs2, hls, hls3, t3, t3b, ↓t3a, ↓t3r, t3l, tk3]; rfl) ?_)
       simp only [zT, zB]
       have hEl : (L.eraseIdx 0).length = T3.length + 1 := by rw [her]; simp [l1]
       have hEn : (L.eraseIdx 0).length = n - (k2 + 1) := by rw [hEl]; omega
       rw [her] at hnx2 hEl hEn
       exact ⟨n - (k2 + 1), _, _, by omega, by simp [HH6, HH11, ↓HH12, ↓hLr, zI, -List.map_take, -List.map_drop, -List.length_map, -List.getElem?_map, evOpt, sliceA, bounds, hiB, bound, ↓hrx2, HH13, hcall, h18, ↓o18, ↓f18, ↓heB, ↓eqB_rI, ↓hdl, ↓hdl2, hs1, hs2, hls, hls3, t3, t3b, ↓t3a, ↓t3r, t3l, tk3, l1, hEl] <;> rfl, k2 + 1, i2 + 1, (b2 :: T3), false, by omega, rfl, by omega, hEn, .inr ⟨p2 + 1, nx2, by omega, hnx2, hnl2, rfl⟩⟩
     ·by_cases he : qn + 1 = L.length
      ·obtain ⟨rfl, rfl⟩ := hc1 (by omega)
       clear hc0
       have hdl : ((L.map rI).drop (qn + 1)).take (L.length - (qn + 1)) = (L.drop (qn + 1)).map rI := by rw [List.map_drop]; exact List.take_of_length_le (by simp)
       have hdl2 : (L.map rI).drop (qn + 1) = (L.drop (qn + 1)).map rI := by rw [List.map_drop]
       have l1 : (L.take qn).length = qn := by rw [List.length_take]; omega
       have l2 : (L.drop (qn + 1)).length = L.length - (qn + 1) := by rw [List.length_drop]
       have hs1 : qn + 1 + (L.length - (qn + 1)) = L.length := by omega
       have hs2 : qn + 1 + (L.length - (qn + 1)) ≤ L.length := by omega
       generalize L.take qn = T1 at *
       generalize L.drop (qn + 1) = T2 at *
       have tkq : (T1.map rI).take qn = T1.map rI := List.take_of_length_le (by simp [l1])
       have hq0 : ¬ qn = 0 := hz
       have t1l : (T1.map rI).length = qn := by simp [l1]
       have t1a : ((T1.map rI).all fun r => r.length == 1) = true := by simp [rI]
       have t1n : T1.map rI ≠ [] := by intro e; rw [e] at t1l; simp at t1l; omega
       have t1r := fun n => rI_rb n 4 T1
       obtain rfl : T2 = [] := List.eq_nil_of_length_eq_zero (by omega)
       simp only [List.append_nil] at her
       have hls : L.length - (qn + 1) = 0 := by omega
       have hls3 : qn + 1 ≤ L.length := by omega
       refine runs_drwN fu (by simp (maxSteps := 3000000) [HH6, HH11, ↓HH12, ↓hLr, zI, -List.map_take, -List.map_drop, -List.length_map, -List.getElem?_map, evOpt, sliceA, bounds, hiB, bound, ↓hrx2, HH13, hcall, h18, ↓o18, ↓f18, ↓heB, ↓eqB_rI, ↓hdl, ↓hdl2, hs1, hs2, hls, hls3, tkq, hq0, t1l, ↓t1a, t1n, ↓t1r]; rfl) ?_
       simp only [zT, zB]
       refine zR (zO (by simp [HH6, HH11, ↓HH12, ↓hLr, zI, -List.map_take, -List.map_drop, -List.length_map, -List.getElem?_map, evOpt, sliceA, bounds, hiB, bound, ↓hrx2, HH13, hcall, h18, ↓o18, ↓f18, ↓heB, ↓eqB_rI, ↓hdl, ↓hdl2, hs1, hs2, hls, hls3, tkq, hq0, t1l, ↓t1a, t1n, ↓t1r]; rfl) ?_)
       simp only [zT, zB]
       have hEl : (L.eraseIdx qn).length = qn := by rw [her]; simp [l1]
       have hEn : (L.eraseIdx qn).length = n - (k2 + 1) := by rw [hEl]; omega
       rw [her] at hnx2 hEl hEn
       exact ⟨n - (k2 + 1), _, _, by omega, by simp [HH6, HH11, ↓HH12, ↓hLr, zI, -List.map_take, -List.map_drop, -List.length_map, -List.getElem?_map, evOpt, sliceA, bounds, hiB, bound, ↓hrx2, HH13, hcall, h18, ↓o18, ↓f18, ↓heB, ↓eqB_rI, ↓hdl, ↓hdl2, hs1, hs2, hls, hls3, tkq, hq0, t1l, ↓t1a, t1n, ↓t1r, l1, hEl] <;> rfl, k2 + 1, i2 + 1, T1, false, by omega, rfl, by omega, hEn, .inr ⟨p2 + 1, nx2, by omega, hnx2, hnl2, rfl⟩⟩
      ·obtain ⟨rfl, rfl⟩ := hc1 (by omega)
       clear hc0
       have hdl : ((L.map rI).drop (qn + 1)).take (L.length - (qn + 1)) = (L.drop (qn + 1)).map rI := by rw [List.map_drop]; exact List.take_of_length_le (by simp)
       have hdl2 : (L.map rI).drop (qn + 1) = (L.drop (qn + 1)).map rI := by rw [List.map_drop]
       have l1 : (L.take qn).length = qn := by rw [List.length_take]; omega
       have l2 : (L.drop (qn + 1)).length = L.length - (qn + 1) := by rw [List.length_drop]
       have hs1 : qn + 1 + (L.length - (qn + 1)) = L.length := by omega
       have hs2 : qn + 1 + (L.length - (qn + 1)) ≤ L.length := by omega
       generalize L.take qn = T1 at *
       generalize L.drop (qn + 1) = T2 at *
       have tkq : (T1.map rI).take qn = T1.map rI := List.take_of_length_le (by simp [l1])
       have hq0 : ¬ qn = 0 := hz
       have t1l : (T1.map rI).length = qn := by simp [l1]
       have t1a : ((T1.map rI).all fun r => r.length == 1) = true := by simp [rI]
       have t1n : T1.map rI ≠ [] := by intro e; rw [e] at t1l; simp at t1l; omega
       have t1r := fun n => rI_rb n 4 T1
       obtain ⟨b2, T3, rfl⟩ : ∃ b2 T3, T2 = b2 :: T3 := by
        cases T2 with
        | nil => simp at l2; omega
        | cons a l => exact ⟨a, l, rfl⟩
       simp only [List.length_cons] at l2
       have hls : L.length - (qn + 1) = T3.length + 1 := by omega
       have t3 : T3.length + 1 ≤ 1048576 := by omega
       have t3b : qn + (T3.length + 1) ≤ 1048576 := by omega
       have t3a : ((T3.map rI).all fun r => r.length == 1) = true := by simp [rI]
       have t3r := fun n => rI_rb n 4 T3
       have t3l : (T3.map rI).length = T3.length := by simp
       have hls3 : qn + 1 + (T3.length + 1) ≤ L.length := by omega
       have tk3 : (T3.map rI).take T3.length = T3.map rI := List.take_of_length_le (by simp)
       refine runs_drwN fu (by simp (maxSteps := 3000000) [HH6, HH11, ↓HH12, ↓hLr, zI, -List.map_take, -List.map_drop, -List.length_map, -List.getElem?_map, evOpt, sliceA, bounds, hiB, bound, ↓hrx2, HH13, hcall, h18, ↓o18, ↓f18, ↓heB, ↓eqB_rI, ↓hdl, ↓hdl2, hs1, hs2, hls, hls3, tkq, hq0, t1l, ↓t1a, t1n, ↓t1r, t3, t3b, ↓t3a, ↓t3r, t3l, tk3]; rfl) ?_
       simp only [zT, zB]
       refine zR (zO (by simp [HH6, HH11, ↓HH12, ↓hLr, zI, -List.map_take, -List.map_drop, -List.length_map, -List.getElem?_map, evOpt, sliceA, bounds, hiB, bound, ↓hrx2, HH13, hcall, h18, ↓o18, ↓f18, ↓heB, ↓eqB_rI, ↓hdl, ↓hdl2, hs1, hs2, hls, hls3, tkq, hq0, t1l, ↓t1a, t1n, ↓t1r, t3, t3b, ↓t3a, ↓t3r, t3l, tk3]; rfl) ?_)
       simp only [zT, zB]
       have hEl : (L.eraseIdx qn).length = qn + (T3.length + 1) := by rw [her]; simp [l1]
       have hEn : (L.eraseIdx qn).length = n - (k2 + 1) := by rw [hEl]; omega
       rw [her] at hnx2 hEl hEn
       exact ⟨n - (k2 + 1), _, _, by omega, by simp [HH6, HH11, ↓HH12, ↓hLr, zI, -List.map_take, -List.map_drop, -List.length_map, -List.getElem?_map, evOpt, sliceA, bounds, hiB, bound, ↓hrx2, HH13, hcall, h18, ↓o18, ↓f18, ↓heB, ↓eqB_rI, ↓hdl, ↓hdl2, hs1, hs2, hls, hls3, tkq, hq0, t1l, ↓t1a, t1n, ↓t1r, t3, t3b, ↓t3a, ↓t3r, t3l, tk3, l1, hEl] <;> rfl, k2 + 1, i2 + 1, (T1 ++ b2 :: T3), false, by omega, rfl, by omega, hEn, .inr ⟨p2 + 1, nx2, by omega, hnx2, hnl2, rfl⟩⟩
    ·have hx2 := of_decide_eq_false hlt2
     have hkE2 : k2 = n := by omega
     have hLe : L = [] := List.eq_nil_of_length_eq_zero (by omega)
     rw [hLe, hkE2, List.drop_of_length_le (by rw [List.length_take, bo.1]; omega)] at hac2
     simp only [ordGo, List.append_nil] at hac2
     rw [← hac2, encE_ne (by intro e; rw [e] at hacl2; simp at hacl2)]
     refine runs_exit ?_
     simp only [zT, zB, if_true, if_false, reduceIte, Nat.reduceEqDiff, Nat.succ_ne_zero, Nat.one_ne_zero, Nat.zero_ne_one]
     refine zS ?_
     refine zR (zO (by simp [HH6, HH11, ↓HH12, frz_mapI]; rfl) ?_)
     simp only [zT, zB]
     refine runs_ret ?_
     simp [HH6, HH11, ↓HH12, frz_mapI, trim]
end
end Go.Proofs.YtjjapdagllclkaaGreat.Tab

namespace Go.Proofs.YtjjapdagllclkaaGreat.Tab
open Go Go.Abs Go.Proofs
set_option linter.unusedSimpArgs false
set_option linter.unusedVariables false
theorem shopE_of {s : FShop} {js : List FJob} (h : ShopOk s js) : shopE s js = 0 := by
 obtain ⟨h1, h2, h3, h4, h5, h6, h7⟩ := h
 have e1 : inI 1 s.mach 4 = true := by simp only [inI, Bool.and_eq_true, decide_eq_true_eq]; exact h1
 have e2 : inI 1 s.chg.length 4 = true := by simp only [inI, Bool.and_eq_true, decide_eq_true_eq]; omega
 have e3 : s.chg.all (chgOk s.chg.length) = true := by
  rw [List.all_eq_true]
  intro l hl
  have := h3 l hl
  simp only [chgOk, wB, Bool.and_eq_true, beq_iff_eq, List.all_eq_true, decide_eq_true_eq]
  exact this
 have e4 : s.stops.all (stopOk s.mach) = true := by
  rw [List.all_eq_true]
  intro x hx
  have := h5 x hx
  simp only [stopOk, inI, wB, Bool.and_eq_true, List.all_eq_true, decide_eq_true_eq, List.mem_cons, List.not_mem_nil, or_false, forall_eq_or_imp, forall_eq]
  omega
 have e5 : js.all (jobOk s.mach s.chg.length) = true := by
  rw [List.all_eq_true]
  intro j hj
  have := h7 j hj
  simp only [jobOk, inI, wB, Bool.and_eq_true, beq_iff_eq, List.all_eq_true, decide_eq_true_eq, List.mem_cons, List.not_mem_nil, or_false, forall_eq_or_imp, forall_eq]
  exact ⟨⟨⟨by omega, by omega⟩, this.2.2.2.1⟩, this.2.2.2.2⟩
 unfold shopE
 rw [e1, e2, e3, e4, e5]
 simp only [Bool.and_self, Bool.not_true, Bool.false_eq_true, if_false]
 rw [if_neg (by omega), if_neg (by omega)]
theorem tmod_bd {a m : Int} (ha : 0 ≤ a) (hm : 0 < m) : 0 ≤ a.tmod m ∧ a.tmod m < m := ⟨Int.tmod_nonneg m ha, Int.tmod_lt_of_pos a hm⟩
theorem made_ok {w : FWorks} (h : WkOk w) : ShopOk (wShop w) (wJobs w) := by
 have hm := tmod_bd (m := 4) h.m.1 (by decide)
 have hk := tmod_bd (m := 4) h.k.1 (by decide)
 have hM : 1 ≤ wM w ∧ wM w ≤ 4 := by unfold wM; omega
 have hK : 1 ≤ wK w ∧ wK w ≤ 4 := by unfold wK; omega
 have hcl : (wC w (wK w).toNat).length = (wK w).toNat := by simp [wC]
 have hv : ∀ v k, (∀ n ∈ v, isU n) → isU (v_ v k) := fun v k hv => mins_fit hv
 refine ⟨hM, ?_, ?_, ?_, ?_, ?_, ?_⟩
 ·show 1 ≤ (wC w (wK w).toNat).length ∧ (wC w (wK w).toNat).length ≤ 4
  rw [hcl]; omega
 ·intro l hl
  show l.length = (wC w (wK w).toNat).length ∧ _
  rw [hcl]
  simp only [wShop, wC, List.mem_map, List.mem_range] at hl
  obtain ⟨i, hi, rfl⟩ := hl
  refine ⟨by simp [wRow], fun c hc => ?_⟩
  simp only [wRow, List.mem_map, List.mem_range] at hc
  obtain ⟨k, hk, rfl⟩ := hc
  have hg : isU (gAt w i k) := mins_fit h.g.2
  have := tmod_bd (m := 40) hg.1 (by decide)
  omega
 ·show (wT w (min w.xs.length 6)).length ≤ 10
  simp only [wT, List.length_map, List.length_take]; omega
 ·intro x hx
  simp only [wShop, wT, List.mem_map] at hx
  obtain ⟨v, hvm, rfl⟩ := hx
  have hvv := (h.xs v (List.mem_of_mem_take hvm)).2
  have b0 := hv v 0 hvv
  have b1 := hv v 1 hvv
  have b2 := hv v 2 hvv
  have b3 := hv v 3 hvv
  have t0 := tmod_bd (m := wM w) b0.1 (by omega)
  have t2 := tmod_bd (m := 2) b2.1 (by decide)
  have t3 := tmod_bd (m := 60) b3.1 (by decide)
  obtain ⟨b10, b11⟩ := b1
  show (0 ≤ (v_ v 0).tmod (wM w) ∧ (v_ v 0).tmod (wM w) < wM w) ∧ (0 ≤ 2 * v_ v 1 + (v_ v 2).tmod 2 ∧ 2 * v_ v 1 + (v_ v 2).tmod 2 ≤ 100000) ∧ (0 ≤ 2 * v_ v 1 + (v_ v 2).tmod 2 + 1 + (v_ v 3).tmod 60 ∧ 2 * v_ v 1 + (v_ v 2).tmod 2 + 1 + (v_ v 3).tmod 60 ≤ 100000) ∧ 2 * v_ v 1 + (v_ v 2).tmod 2 < 2 * v_ v 1 + (v_ v 2).tmod 2 + 1 + (v_ v 3).tmod 60
  omega
 ·show (wJ w (min w.ys.length 5)).length ≤ 6
  simp only [wJ, List.length_map, List.length_take]; omega
 ·intro j hj
  simp only [wJobs, wJ, List.mem_map] at hj
  obtain ⟨v, hvm, rfl⟩ := hj
  have hvv := (h.ys v (List.mem_of_mem_take hvm)).2
  have b0 := hv v 0 hvv
  have b1 := hv v 1 hvv
  have b2 := hv v 2 hvv
  have t0 := tmod_bd (m := wK w) b0.1 (by omega)
  obtain ⟨b10, b11⟩ := b1
  obtain ⟨b20, b21⟩ := b2
  refine ⟨?_, ⟨b10, by show v_ v 1 ≤ _; omega⟩, ⟨by show 0 ≤ 3 * v_ v 2; omega, by show 3 * v_ v 2 ≤ _; omega⟩, ?_, fun n hn => ?_⟩
  ·show 0 ≤ (v_ v 0).tmod (wK w) ∧ (v_ v 0).tmod (wK w) < ((wC w (wK w).toNat).length : Int)
   rw [hcl]; omega
  ·show ((wMins v (wM w).toNat).length : Int) = wM w
   simp only [wMins, List.length_map, List.length_range]; omega
  ·have hn' : n ∈ wMins v (wM w).toNat := hn
   simp only [wMins, List.mem_map, List.mem_range] at hn'
   obtain ⟨k, hk, rfl⟩ := hn'
   have b3 := hv v (3 + k) hvv
   have t3 := tmod_bd (m := 90) b3.1 (by decide)
   unfold wMin
   omega
theorem made_len {w : FWorks} : (wJobs w).length ≤ 5 := by simp only [wJobs, wJ, List.length_map, List.length_take]; omega
def wOrd (w : FWorks) : List Int := ordW w.o (wJobs w).length
theorem made_ctx {w : FWorks} (h : WkOk w) : RunCtx (wShop w) (wJobs w) (wOrd w) :=
 ⟨made_ok h, ordW_ord h.o (by have := made_len (w := w); omega)⟩
theorem ctx_ordE {s : FShop} {js : List FJob} {os : List Int} (h : RunCtx s js os) : ordE s js os = 0 := by
 unfold ordE
 rw [if_pos (shopE_of h.ok), if_pos h.ord]
def dWk (r : List AVal) : Option (FWorks × AVal × AVal) := match r with
 | .int .u8 m :: .int .u8 k :: l => match dU (l.take 16), l.drop 16 with
  | some g, x :: y :: o => match rowsV x, rowsV y, dU o with
   | some xr, some yr, some os => match optAll dU xr, optAll dU yr with
    | some xs, some ys => some (⟨m, k, g, xs, ys, os⟩, x, y)
    | _, _ => none
   | _, _, _ => none
  | _, _ => none
 | _ => none
theorem dU_self (v : List Int) : dU (rU v) = some v := optAll_map (d := dU1) (enc := fun n => AVal.int .u8 n) (fun _ => rfl) v
theorem optAll_dU (xs : List (List Int)) : optAll dU (xs.map rU) = some xs := optAll_map (d := dU) (enc := rU) dU_self xs
theorem dWk_eq {r : List AVal} {W : FWorks} {x y : AVal} (h : dWk r = some (W, x, y)) : r = wkC W x y ∧ rowsV x = some (W.xs.map rU) ∧ rowsV y = some (W.ys.map rU) := by
 unfold dWk at h
 split at h <;> (try simp only [reduceCtorEq] at h)
 rename_i m k l
 split at h <;> (try simp only [reduceCtorEq] at h)
 rename_i g x' y' o h1 h2
 split at h <;> (try simp only [reduceCtorEq] at h)
 rename_i xr yr os h3 h4 h5
 split at h <;> (try simp only [reduceCtorEq] at h)
 rename_i xs ys h6 h7
 simp only [Option.some.injEq, Prod.mk.injEq] at h
 obtain ⟨rfl, rfl, rfl⟩ := h
 have e6 := optAll_eq (fun r v h => dU_eq h) h6
 have e7 := optAll_eq (fun r v h => dU_eq h) h7
 subst e6 e7
 refine ⟨?_, h3, h4⟩
 have e1 := dU_eq h1
 have e5 := dU_eq h5
 unfold wkC
 rw [← e1, ← e5]
 have : l = l.take 16 ++ l.drop 16 := (List.take_append_drop 16 l).symm
 rw [h2] at this
 simp only [List.append_assoc, List.cons_append, List.nil_append]
 rw [← this]
theorem dWk_self {W : FWorks} {x y : AVal} (hg : W.g.length = 16) (hx : rowsV x = some (W.xs.map rU)) (hy : rowsV y = some (W.ys.map rU)) : dWk (wkC W x y) = some (W, x, y) := by
 have hl : (rU W.g).length = 16 := by rw [rU_len, hg]
 have e1 : (rU W.g ++ [x, y] ++ rU W.o).take 16 = rU W.g := by rw [List.append_assoc, List.take_append_of_le_length (by omega), List.take_of_length_le (by omega)]
 have e2 : (rU W.g ++ [x, y] ++ rU W.o).drop 16 = x :: y :: rU W.o := by rw [List.append_assoc, List.drop_append_of_le_length (by omega), List.drop_of_length_le (by omega)]; rfl
 unfold dWk wkC
 simp only [e1, e2, dU_self, hx, hy, optAll_dU]
end Go.Proofs.YtjjapdagllclkaaGreat.Tab

namespace Go.Proofs.YtjjapdagllclkaaGreat.Tab
open Go Go.Abs Go.Proofs
def isFreeB (st : List FStop) (k n t : Int) : Bool := st.all fun x => !conf k n t x
theorem isFreeB_ok {st : List FStop} {k n t : Int} (h : isFreeB st k n t = true) : isFree st k n t := fun x hx => by
 have := List.all_eq_true.1 h x hx
 simpa using this
def freeC (st : List FStop) (k n : Int) : Nat → Int → Int
 | 0, a => a
 | f + 1, a => match st.find? (conf k n a) with
  | some x => freeC st k n f x.2.2
  | none => a
theorem freeC_ok {st : List FStop} {k n : Int} : ∀ (f : Nat) (a : Int), isFree st k n (freeC st k n f a) → FreeAt st k n a (freeC st k n f a)
 | 0, a, h => freeAt_self h
 | f + 1, a, h => by
  unfold freeC at h ⊢
  split
  ·rename_i x hx
   rw [hx] at h
   exact freeAt_step (List.mem_of_find?_eq_some hx) (List.find?_some hx) (freeC_ok f _ h)
  ·rename_i hx
   rw [hx] at h
   exact freeAt_self h
def freeO (st : List FStop) (k n a : Int) : Option Int := if isFreeB st k n (freeC st k n 12 a) = true then some (freeC st k n 12 a) else none
theorem freeO_eq {st : List FStop} {k n a u : Int} (h : freeO st k n a = some u) : freeT st k n a = u := by
 unfold freeO at h
 by_cases hf : isFreeB st k n (freeC st k n 12 a) = true
 ·rw [if_pos hf] at h
  cases h
  exact freeT_eq (freeC_ok 12 _ (isFreeB_ok hf))
 ·rw [if_neg hf] at h; simp at h
def startC (s : FShop) (kind : Int) (l : FLine) (k : Nat) (n t : Int) : Option Int :=
 if 0 < n then freeO s.stops k n (if (l.getD k (0, 0, false)).2.2 then max t ((l.getD k (0, 0, false)).1 + chgAt s (l.getD k (0, 0, false)).2.1 kind) else t) else some t
theorem startC_eq {s : FShop} {kind : Int} {l : FLine} {k : Nat} {n t u : Int} (h : startC s kind l k n t = some u) : startF s kind l k n t = u := by
 unfold startC at h
 unfold startF
 by_cases hn : 0 < n
 ·rw [if_pos hn] at h ⊢
  exact freeO_eq h
 ·rw [if_neg hn] at h ⊢
  exact Option.some.inj h
def passGoC (s : FShop) (kind : Int) : List Int → Nat → Int → FLine → Option (List Int × Int × FLine)
 | [], _, t, l => some ([], t, l)
 | n :: ns, k, t, l => match startC s kind l k n t with
  | some u => match passGoC s kind ns (k + 1) (u + n) (if 0 < n then l.set k (u + n, kind, true) else l) with
   | some r => some (u :: r.1, r.2)
   | none => none
  | none => none
theorem passGoC_eq {s : FShop} {kind : Int} : ∀ {ns : List Int} {k : Nat} {t : Int} {l : FLine} {r : List Int × Int × FLine}, passGoC s kind ns k t l = some r → passGo s kind ns k t l = r
 | [], k, t, l, r, h => by simp only [passGoC, Option.some.injEq] at h; subst h; rfl
 | n :: ns, k, t, l, r, h => by
  simp only [passGoC] at h
  split at h
  ·rename_i u hu
   split at h
   ·rename_i r2 hr
    cases h
    have e := startC_eq hu
    simp only [passGo, e, passGoC_eq hr]
   ·simp at h
  ·simp at h
def passC (s : FShop) (l : FLine) (j : FJob) : Option (List Int × Int × FLine) := passGoC s j.kind j.mins 0 j.ready l
theorem passC_eq {s : FShop} {l : FLine} {j : FJob} {r : List Int × Int × FLine} (h : passC s l j = some r) : passF s l j = r := passGoC_eq h
def lineB (s : FShop) (B : Int) (l : FLine) : Bool := (l.length == 4) && l.all fun x => decide (0 ≤ x.1) && decide (x.1 ≤ B) && decide (0 ≤ x.2.1) && (x.2.1 == 0 || decide (x.2.1 < s.chg.length))
theorem lineB_ok {s : FShop} {B : Int} {l : FLine} (h : lineB s B l = true) : LineOk s B l := by
 simp only [lineB, Bool.and_eq_true, beq_iff_eq, List.all_eq_true, decide_eq_true_eq, Bool.or_eq_true] at h
 exact ⟨h.1, fun x hx => by have := h.2 x hx; exact ⟨⟨this.1.1.1, this.1.1.2⟩, this.1.2, this.2⟩⟩
end Go.Proofs.YtjjapdagllclkaaGreat.Tab

namespace Go.Proofs.YtjjapdagllclkaaGreat.Tab
open Go Go.Abs Go.Proofs
set_option maxRecDepth 1000000
theorem oAt_good {P : Program} {G : Nat → Option (List AVal)} {f : Nat} {fr : Bool} : ∀ {L : List (List AVal × AVal)}, (∀ p ∈ L, OrcGood P G fr f p.1 p.2) → ∀ args v, oAt L args = some v → OrcGood P G fr f args v
  | [], _, args, v, h => by simp [oAt] at h
  | (A, R) :: L, hL, args, v, h => by
    simp only [oAt] at h
    split at h
    · rename_i he
      simp at h
      subst h
      rw [allB_eqA he]
      exact hL (A, R) (by simp)
    · exact oAt_good (fun p hp => hL p (by simp [hp])) args v h
def sPassK : List AVal → Heap → Option (AVal × Heap)
  | [.agg [.int .i64 m, c, t, j], .ref 0 0 0, .agg [.int .i64 kd, .int .i64 rd, .int .i64 du, v]], [some (.row 12 [r])] => match dInts2 c, dStops t, dJobs j, dInts v, dLine r with
    | some cs, some ts, some js, some ms, some l => if (shopE ⟨m, cs, ts⟩ js == 0) && lineB ⟨m, cs, ts⟩ 200000 l && decide (0 ≤ kd) && decide (kd < cs.length) && decide (0 ≤ rd) && decide (rd ≤ 200000) && ((ms.length : Int) == m) && (ms.all fun n => decide (0 ≤ n) && decide (n ≤ 10000)) then
        (match passC ⟨m, cs, ts⟩ l ⟨kd, rd, du, ms⟩ with
          | some r => some (.tup [.vl (r.1.map rI) false, I r.2.1], [some (.row 12 [lineC r.2.2])])
          | none => none) else none
    | _, _, _, _, _ => none
  | _, _ => none
noncomputable def FDK1 : Nat → Option CFn := updG FC1 102 [(229738, [.slot 6])] []
theorem FDK1_ok : TabOk Tryz.prog GG FDK1 := tab_updG FC1_ok
noncomputable def FDK2 : Nat → Option CFn := upd FDK1 102 false (fun _ => none)
theorem FDK2_ok : TabOk Tryz.prog GG FDK2 := tab_add mixed FDK1_ok fun args v ho => by simp at ho
noncomputable def FK0 : Nat → Option CFn := updE FDK2 102 (frameE sPassK)
theorem FK0_ok : TabOk Tryz.prog GG FK0 := tab_frame mixed FDK2_ok fun args h v h' ho => by
  unfold sPassK at ho
  split at ho <;> (try simp only [reduceCtorEq] at ho)
  rename_i m c t j kd rd du vv r
  split at ho <;> (try simp only [reduceCtorEq] at ho)
  rename_i cs ts js ms l hc ht hj hv hl
  split at ho <;> (try simp only [reduceCtorEq] at ho)
  rename_i hg
  split at ho <;> (try simp only [reduceCtorEq] at ho)
  rename_i rr hr
  simp only [Option.some.injEq, Prod.mk.injEq] at ho
  obtain ⟨rfl, rfl⟩ := ho
  obtain ⟨rfl, _⟩ := dLine_eq hl
  simp only [Bool.and_eq_true, beq_iff_eq, decide_eq_true_eq, List.all_eq_true] at hg
  obtain ⟨⟨⟨⟨⟨⟨⟨g1, g2⟩, g3⟩, g4⟩, g5⟩, g6⟩, g7⟩, g8⟩ := hg
  have e := passC_eq hr
  subst e
  exact a102 Tryz.prog FDK2 rfl rfl ⟨m, cs, ts⟩ js c t j hc ht hj kd rd du vv ms l hv ⟨shop_ok g1, lineB_ok g2, ⟨g3, g4⟩, ⟨g5, g6⟩, g7, g8⟩
noncomputable def kS : AVal := .agg [I 2, .vl [[.vl [[I 0], [I 10]] true], [.vl [[I 20], [I 0]] true]] true, .nils]
noncomputable def kJ90 : AVal := (.vl [[I 0, I 0, I 100, (.vl [[I (30)], [I (40)]] true)], [I 1, I 0, I 90, (.vl [[I (20)], [I (20)]] true)], [I 0, I 15, I 130, (.vl [[I (10)], [I (0)]] true)]] true)
noncomputable def kJ100 : AVal := (.vl [[I 0, I 0, I 100, (.vl [[I (30)], [I (40)]] true)], [I 1, I 0, I 100, (.vl [[I (20)], [I (20)]] true)], [I 0, I 15, I 130, (.vl [[I (10)], [I (0)]] true)]] true)
theorem k71_0 : isR (.tup [.nils, .agg [I 0, I 0]]) (callF FK0 (exec Tryz.prog FK0 1000) 71 [.agg [I 2, .vl [[.vl [[I 0], [I 10]] true], [.vl [[I 20], [I 0]] true]] true, .nils, .nils]] []) = true := by kernel_rfl
theorem k71_1 : isR (.tup [(.vl [[I (0)]] false), .agg [I 0, I 70]]) (callF FK0 (exec Tryz.prog FK0 1000) 71 [.agg [I 2, .vl [[.vl [[I 0], [I 10]] true], [.vl [[I 20], [I 0]] true]] true, .nils, (.vl [[I 0, I 0, I 100, (.vl [[I (30)], [I (40)]] true)]] false)]] []) = true := by kernel_rfl
theorem k71_2 : isR (.tup [(.vl [[I (0)]] false), .agg [I 0, I 40]]) (callF FK0 (exec Tryz.prog FK0 1000) 71 [.agg [I 2, .vl [[.vl [[I 0], [I 10]] true], [.vl [[I 20], [I 0]] true]] true, .nils, (.vl [[I 1, I 0, I 90, (.vl [[I (20)], [I (20)]] true)]] false)]] []) = true := by kernel_rfl
theorem k71_3 : isR (.tup [(.vl [[I (0)], [I (1)]] false), .agg [I 10, I 100]]) (callF FK0 (exec Tryz.prog FK0 1000) 71 [.agg [I 2, .vl [[.vl [[I 0], [I 10]] true], [.vl [[I 20], [I 0]] true]] true, .nils, (.vl [[I 0, I 0, I 100, (.vl [[I (30)], [I (40)]] true)], [I 1, I 0, I 90, (.vl [[I (20)], [I (20)]] true)]] false)]] []) = true := by kernel_rfl
theorem k71_4 : isR (.tup [(.vl [[I (0)]] false), .agg [I 0, I 25]]) (callF FK0 (exec Tryz.prog FK0 1000) 71 [.agg [I 2, .vl [[.vl [[I 0], [I 10]] true], [.vl [[I 20], [I 0]] true]] true, .nils, (.vl [[I 0, I 15, I 130, (.vl [[I (10)], [I (0)]] true)]] false)]] []) = true := by kernel_rfl
theorem k71_5 : isR (.tup [(.vl [[I (0)], [I (1)]] false), .agg [I 0, I 70]]) (callF FK0 (exec Tryz.prog FK0 1000) 71 [.agg [I 2, .vl [[.vl [[I 0], [I 10]] true], [.vl [[I 20], [I 0]] true]] true, .nils, (.vl [[I 0, I 0, I 100, (.vl [[I (30)], [I (40)]] true)], [I 0, I 15, I 130, (.vl [[I (10)], [I (0)]] true)]] false)]] []) = true := by kernel_rfl
theorem k71_6 : isR (.tup [(.vl [[I (0)], [I (1)]] false), .agg [I 0, I 50]]) (callF FK0 (exec Tryz.prog FK0 1000) 71 [.agg [I 2, .vl [[.vl [[I 0], [I 10]] true], [.vl [[I 20], [I 0]] true]] true, .nils, (.vl [[I 1, I 0, I 90, (.vl [[I (20)], [I (20)]] true)], [I 0, I 15, I 130, (.vl [[I (10)], [I (0)]] true)]] false)]] []) = true := by kernel_rfl
theorem k71_7 : isR (.tup [(.vl [[I (0)], [I (1)], [I (2)]] false), .agg [I 10, I 100]]) (callF FK0 (exec Tryz.prog FK0 1000) 71 [.agg [I 2, .vl [[.vl [[I 0], [I 10]] true], [.vl [[I 20], [I 0]] true]] true, .nils, (.vl [[I 0, I 0, I 100, (.vl [[I (30)], [I (40)]] true)], [I 1, I 0, I 90, (.vl [[I (20)], [I (20)]] true)], [I 0, I 15, I 130, (.vl [[I (10)], [I (0)]] true)]] false)]] []) = true := by kernel_rfl
theorem k71_8 : isR (.tup [(.vl [[I (0)], [I (1)], [I (2)]] false), .agg [I 10, I 100]]) (callF FK0 (exec Tryz.prog FK0 1000) 71 [.agg [I 2, .vl [[.vl [[I 0], [I 10]] true], [.vl [[I 20], [I 0]] true]] true, .nils, (.vl [[I 0, I 0, I 100, (.vl [[I (30)], [I (40)]] true)], [I 1, I 0, I 90, (.vl [[I (20)], [I (20)]] true)], [I 0, I 15, I 130, (.vl [[I (10)], [I (0)]] true)]] true)]] []) = true := by kernel_rfl
theorem k64_0 : isR (.nils) (callF FK0 (exec Tryz.prog FK0 1000) 64 [.agg [I 2, .vl [[.vl [[I 0], [I 10]] true], [.vl [[I 20], [I 0]] true]] true, .nils, (.vl [[I 0, I 0, I 100, (.vl [[I (30)], [I (40)]] true)], [I 1, I 0, I 100, (.vl [[I (20)], [I (20)]] true)], [I 0, I 15, I 130, (.vl [[I (10)], [I (0)]] true)]] true)], (.vl [[I (0)], [I (1)], [I (2)]] true)] []) = true := by kernel_rfl
theorem k64_1 : isR ((.vl [[I (0)], [I (1)]] false)) (callF FK0 (exec Tryz.prog FK0 1000) 64 [.agg [I 2, .vl [[.vl [[I 0], [I 10]] true], [.vl [[I 20], [I 0]] true]] true, (.vl [[I 1, I 60, I 70]] false), (.vl [[I 0, I 0, I 100, (.vl [[I (30)], [I (40)]] true)], [I 1, I 0, I 100, (.vl [[I (20)], [I (20)]] true)], [I 0, I 15, I 130, (.vl [[I (10)], [I (0)]] true)]] true)], (.vl [[I (0)], [I (1)], [I (2)]] true)] []) = true := by kernel_rfl
theorem k64_0_5000 : isR ((.vl [[I (0)], [I (1)], [I (2)]] false)) (callF FK0 (exec Tryz.prog FK0 1000) 64 [.agg [I 2, .vl [[.vl [[I 0], [I 10]] true], [.vl [[I 20], [I 0]] true]] true, .nils, (.vl [[I 0, I 5000, I 100, (.vl [[I (30)], [I (40)]] true)], [I 1, I 0, I 100, (.vl [[I (20)], [I (20)]] true)], [I 0, I 15, I 130, (.vl [[I (10)], [I (0)]] true)]] false)], (.vl [[I (0)], [I (1)], [I (2)]] true)] []) = true := by kernel_rfl
theorem k64_0_2500 : isR ((.vl [[I (0)], [I (1)], [I (2)]] false)) (callF FK0 (exec Tryz.prog FK0 1000) 64 [.agg [I 2, .vl [[.vl [[I 0], [I 10]] true], [.vl [[I 20], [I 0]] true]] true, .nils, (.vl [[I 0, I 2500, I 100, (.vl [[I (30)], [I (40)]] true)], [I 1, I 0, I 100, (.vl [[I (20)], [I (20)]] true)], [I 0, I 15, I 130, (.vl [[I (10)], [I (0)]] true)]] false)], (.vl [[I (0)], [I (1)], [I (2)]] true)] []) = true := by kernel_rfl
theorem k64_0_1250 : isR ((.vl [[I (0)], [I (1)], [I (2)]] false)) (callF FK0 (exec Tryz.prog FK0 1000) 64 [.agg [I 2, .vl [[.vl [[I 0], [I 10]] true], [.vl [[I 20], [I 0]] true]] true, .nils, (.vl [[I 0, I 1250, I 100, (.vl [[I (30)], [I (40)]] true)], [I 1, I 0, I 100, (.vl [[I (20)], [I (20)]] true)], [I 0, I 15, I 130, (.vl [[I (10)], [I (0)]] true)]] false)], (.vl [[I (0)], [I (1)], [I (2)]] true)] []) = true := by kernel_rfl
theorem k64_0_625 : isR ((.vl [[I (0)], [I (1)], [I (2)]] false)) (callF FK0 (exec Tryz.prog FK0 1000) 64 [.agg [I 2, .vl [[.vl [[I 0], [I 10]] true], [.vl [[I 20], [I 0]] true]] true, .nils, (.vl [[I 0, I 625, I 100, (.vl [[I (30)], [I (40)]] true)], [I 1, I 0, I 100, (.vl [[I (20)], [I (20)]] true)], [I 0, I 15, I 130, (.vl [[I (10)], [I (0)]] true)]] false)], (.vl [[I (0)], [I (1)], [I (2)]] true)] []) = true := by kernel_rfl
theorem k64_0_312 : isR ((.vl [[I (0)], [I (1)], [I (2)]] false)) (callF FK0 (exec Tryz.prog FK0 1000) 64 [.agg [I 2, .vl [[.vl [[I 0], [I 10]] true], [.vl [[I 20], [I 0]] true]] true, .nils, (.vl [[I 0, I 312, I 100, (.vl [[I (30)], [I (40)]] true)], [I 1, I 0, I 100, (.vl [[I (20)], [I (20)]] true)], [I 0, I 15, I 130, (.vl [[I (10)], [I (0)]] true)]] false)], (.vl [[I (0)], [I (1)], [I (2)]] true)] []) = true := by kernel_rfl
theorem k64_0_156 : isR ((.vl [[I (0)], [I (1)], [I (2)]] false)) (callF FK0 (exec Tryz.prog FK0 1000) 64 [.agg [I 2, .vl [[.vl [[I 0], [I 10]] true], [.vl [[I 20], [I 0]] true]] true, .nils, (.vl [[I 0, I 156, I 100, (.vl [[I (30)], [I (40)]] true)], [I 1, I 0, I 100, (.vl [[I (20)], [I (20)]] true)], [I 0, I 15, I 130, (.vl [[I (10)], [I (0)]] true)]] false)], (.vl [[I (0)], [I (1)], [I (2)]] true)] []) = true := by kernel_rfl
theorem k64_0_78 : isR ((.vl [[I (0)], [I (1)], [I (2)]] false)) (callF FK0 (exec Tryz.prog FK0 1000) 64 [.agg [I 2, .vl [[.vl [[I 0], [I 10]] true], [.vl [[I 20], [I 0]] true]] true, .nils, (.vl [[I 0, I 78, I 100, (.vl [[I (30)], [I (40)]] true)], [I 1, I 0, I 100, (.vl [[I (20)], [I (20)]] true)], [I 0, I 15, I 130, (.vl [[I (10)], [I (0)]] true)]] false)], (.vl [[I (0)], [I (1)], [I (2)]] true)] []) = true := by kernel_rfl
theorem k64_0_39 : isR ((.vl [[I (0)], [I (1)]] false)) (callF FK0 (exec Tryz.prog FK0 1000) 64 [.agg [I 2, .vl [[.vl [[I 0], [I 10]] true], [.vl [[I 20], [I 0]] true]] true, .nils, (.vl [[I 0, I 39, I 100, (.vl [[I (30)], [I (40)]] true)], [I 1, I 0, I 100, (.vl [[I (20)], [I (20)]] true)], [I 0, I 15, I 130, (.vl [[I (10)], [I (0)]] true)]] false)], (.vl [[I (0)], [I (1)], [I (2)]] true)] []) = true := by kernel_rfl
theorem k64_0_19 : isR ((.vl [[I (1)]] false)) (callF FK0 (exec Tryz.prog FK0 1000) 64 [.agg [I 2, .vl [[.vl [[I 0], [I 10]] true], [.vl [[I 20], [I 0]] true]] true, .nils, (.vl [[I 0, I 19, I 100, (.vl [[I (30)], [I (40)]] true)], [I 1, I 0, I 100, (.vl [[I (20)], [I (20)]] true)], [I 0, I 15, I 130, (.vl [[I (10)], [I (0)]] true)]] false)], (.vl [[I (0)], [I (1)], [I (2)]] true)] []) = true := by kernel_rfl
theorem k64_0_9 : isR ((.vl [[I (1)]] false)) (callF FK0 (exec Tryz.prog FK0 1000) 64 [.agg [I 2, .vl [[.vl [[I 0], [I 10]] true], [.vl [[I 20], [I 0]] true]] true, .nils, (.vl [[I 0, I 9, I 100, (.vl [[I (30)], [I (40)]] true)], [I 1, I 0, I 100, (.vl [[I (20)], [I (20)]] true)], [I 0, I 15, I 130, (.vl [[I (10)], [I (0)]] true)]] false)], (.vl [[I (0)], [I (1)], [I (2)]] true)] []) = true := by kernel_rfl
theorem k64_0_4 : isR ((.vl [[I (1)]] false)) (callF FK0 (exec Tryz.prog FK0 1000) 64 [.agg [I 2, .vl [[.vl [[I 0], [I 10]] true], [.vl [[I 20], [I 0]] true]] true, .nils, (.vl [[I 0, I 4, I 100, (.vl [[I (30)], [I (40)]] true)], [I 1, I 0, I 100, (.vl [[I (20)], [I (20)]] true)], [I 0, I 15, I 130, (.vl [[I (10)], [I (0)]] true)]] false)], (.vl [[I (0)], [I (1)], [I (2)]] true)] []) = true := by kernel_rfl
theorem k64_0_2 : isR ((.vl [[I (1)]] false)) (callF FK0 (exec Tryz.prog FK0 1000) 64 [.agg [I 2, .vl [[.vl [[I 0], [I 10]] true], [.vl [[I 20], [I 0]] true]] true, .nils, (.vl [[I 0, I 2, I 100, (.vl [[I (30)], [I (40)]] true)], [I 1, I 0, I 100, (.vl [[I (20)], [I (20)]] true)], [I 0, I 15, I 130, (.vl [[I (10)], [I (0)]] true)]] false)], (.vl [[I (0)], [I (1)], [I (2)]] true)] []) = true := by kernel_rfl
theorem k64_0_1 : isR ((.vl [[I (1)]] false)) (callF FK0 (exec Tryz.prog FK0 1000) 64 [.agg [I 2, .vl [[.vl [[I 0], [I 10]] true], [.vl [[I 20], [I 0]] true]] true, .nils, (.vl [[I 0, I 1, I 100, (.vl [[I (30)], [I (40)]] true)], [I 1, I 0, I 100, (.vl [[I (20)], [I (20)]] true)], [I 0, I 15, I 130, (.vl [[I (10)], [I (0)]] true)]] false)], (.vl [[I (0)], [I (1)], [I (2)]] true)] []) = true := by kernel_rfl
theorem k64_1_5000 : isR ((.vl [[I (1)], [I (2)]] false)) (callF FK0 (exec Tryz.prog FK0 1000) 64 [.agg [I 2, .vl [[.vl [[I 0], [I 10]] true], [.vl [[I 20], [I 0]] true]] true, .nils, (.vl [[I 0, I 0, I 100, (.vl [[I (30)], [I (40)]] true)], [I 1, I 5000, I 100, (.vl [[I (20)], [I (20)]] true)], [I 0, I 15, I 130, (.vl [[I (10)], [I (0)]] true)]] false)], (.vl [[I (0)], [I (1)], [I (2)]] true)] []) = true := by kernel_rfl
theorem k64_1_2500 : isR ((.vl [[I (1)], [I (2)]] false)) (callF FK0 (exec Tryz.prog FK0 1000) 64 [.agg [I 2, .vl [[.vl [[I 0], [I 10]] true], [.vl [[I 20], [I 0]] true]] true, .nils, (.vl [[I 0, I 0, I 100, (.vl [[I (30)], [I (40)]] true)], [I 1, I 2500, I 100, (.vl [[I (20)], [I (20)]] true)], [I 0, I 15, I 130, (.vl [[I (10)], [I (0)]] true)]] false)], (.vl [[I (0)], [I (1)], [I (2)]] true)] []) = true := by kernel_rfl
theorem k64_1_1250 : isR ((.vl [[I (1)], [I (2)]] false)) (callF FK0 (exec Tryz.prog FK0 1000) 64 [.agg [I 2, .vl [[.vl [[I 0], [I 10]] true], [.vl [[I 20], [I 0]] true]] true, .nils, (.vl [[I 0, I 0, I 100, (.vl [[I (30)], [I (40)]] true)], [I 1, I 1250, I 100, (.vl [[I (20)], [I (20)]] true)], [I 0, I 15, I 130, (.vl [[I (10)], [I (0)]] true)]] false)], (.vl [[I (0)], [I (1)], [I (2)]] true)] []) = true := by kernel_rfl
theorem k64_1_625 : isR ((.vl [[I (1)], [I (2)]] false)) (callF FK0 (exec Tryz.prog FK0 1000) 64 [.agg [I 2, .vl [[.vl [[I 0], [I 10]] true], [.vl [[I 20], [I 0]] true]] true, .nils, (.vl [[I 0, I 0, I 100, (.vl [[I (30)], [I (40)]] true)], [I 1, I 625, I 100, (.vl [[I (20)], [I (20)]] true)], [I 0, I 15, I 130, (.vl [[I (10)], [I (0)]] true)]] false)], (.vl [[I (0)], [I (1)], [I (2)]] true)] []) = true := by kernel_rfl
theorem k64_1_312 : isR ((.vl [[I (1)], [I (2)]] false)) (callF FK0 (exec Tryz.prog FK0 1000) 64 [.agg [I 2, .vl [[.vl [[I 0], [I 10]] true], [.vl [[I 20], [I 0]] true]] true, .nils, (.vl [[I 0, I 0, I 100, (.vl [[I (30)], [I (40)]] true)], [I 1, I 312, I 100, (.vl [[I (20)], [I (20)]] true)], [I 0, I 15, I 130, (.vl [[I (10)], [I (0)]] true)]] false)], (.vl [[I (0)], [I (1)], [I (2)]] true)] []) = true := by kernel_rfl
theorem k64_1_156 : isR ((.vl [[I (1)], [I (2)]] false)) (callF FK0 (exec Tryz.prog FK0 1000) 64 [.agg [I 2, .vl [[.vl [[I 0], [I 10]] true], [.vl [[I 20], [I 0]] true]] true, .nils, (.vl [[I 0, I 0, I 100, (.vl [[I (30)], [I (40)]] true)], [I 1, I 156, I 100, (.vl [[I (20)], [I (20)]] true)], [I 0, I 15, I 130, (.vl [[I (10)], [I (0)]] true)]] false)], (.vl [[I (0)], [I (1)], [I (2)]] true)] []) = true := by kernel_rfl
theorem k64_1_78 : isR ((.vl [[I (1)]] false)) (callF FK0 (exec Tryz.prog FK0 1000) 64 [.agg [I 2, .vl [[.vl [[I 0], [I 10]] true], [.vl [[I 20], [I 0]] true]] true, .nils, (.vl [[I 0, I 0, I 100, (.vl [[I (30)], [I (40)]] true)], [I 1, I 78, I 100, (.vl [[I (20)], [I (20)]] true)], [I 0, I 15, I 130, (.vl [[I (10)], [I (0)]] true)]] false)], (.vl [[I (0)], [I (1)], [I (2)]] true)] []) = true := by kernel_rfl
theorem k64_1_39 : isR (.nils) (callF FK0 (exec Tryz.prog FK0 1000) 64 [.agg [I 2, .vl [[.vl [[I 0], [I 10]] true], [.vl [[I 20], [I 0]] true]] true, .nils, (.vl [[I 0, I 0, I 100, (.vl [[I (30)], [I (40)]] true)], [I 1, I 39, I 100, (.vl [[I (20)], [I (20)]] true)], [I 0, I 15, I 130, (.vl [[I (10)], [I (0)]] true)]] false)], (.vl [[I (0)], [I (1)], [I (2)]] true)] []) = true := by kernel_rfl
theorem k64_1_58 : isR (.nils) (callF FK0 (exec Tryz.prog FK0 1000) 64 [.agg [I 2, .vl [[.vl [[I 0], [I 10]] true], [.vl [[I 20], [I 0]] true]] true, .nils, (.vl [[I 0, I 0, I 100, (.vl [[I (30)], [I (40)]] true)], [I 1, I 58, I 100, (.vl [[I (20)], [I (20)]] true)], [I 0, I 15, I 130, (.vl [[I (10)], [I (0)]] true)]] false)], (.vl [[I (0)], [I (1)], [I (2)]] true)] []) = true := by kernel_rfl
theorem k64_1_68 : isR ((.vl [[I (1)]] false)) (callF FK0 (exec Tryz.prog FK0 1000) 64 [.agg [I 2, .vl [[.vl [[I 0], [I 10]] true], [.vl [[I 20], [I 0]] true]] true, .nils, (.vl [[I 0, I 0, I 100, (.vl [[I (30)], [I (40)]] true)], [I 1, I 68, I 100, (.vl [[I (20)], [I (20)]] true)], [I 0, I 15, I 130, (.vl [[I (10)], [I (0)]] true)]] false)], (.vl [[I (0)], [I (1)], [I (2)]] true)] []) = true := by kernel_rfl
theorem k64_1_63 : isR ((.vl [[I (1)]] false)) (callF FK0 (exec Tryz.prog FK0 1000) 64 [.agg [I 2, .vl [[.vl [[I 0], [I 10]] true], [.vl [[I 20], [I 0]] true]] true, .nils, (.vl [[I 0, I 0, I 100, (.vl [[I (30)], [I (40)]] true)], [I 1, I 63, I 100, (.vl [[I (20)], [I (20)]] true)], [I 0, I 15, I 130, (.vl [[I (10)], [I (0)]] true)]] false)], (.vl [[I (0)], [I (1)], [I (2)]] true)] []) = true := by kernel_rfl
theorem k64_1_60 : isR (.nils) (callF FK0 (exec Tryz.prog FK0 1000) 64 [.agg [I 2, .vl [[.vl [[I 0], [I 10]] true], [.vl [[I 20], [I 0]] true]] true, .nils, (.vl [[I 0, I 0, I 100, (.vl [[I (30)], [I (40)]] true)], [I 1, I 60, I 100, (.vl [[I (20)], [I (20)]] true)], [I 0, I 15, I 130, (.vl [[I (10)], [I (0)]] true)]] false)], (.vl [[I (0)], [I (1)], [I (2)]] true)] []) = true := by kernel_rfl
theorem k64_1_61 : isR ((.vl [[I (1)]] false)) (callF FK0 (exec Tryz.prog FK0 1000) 64 [.agg [I 2, .vl [[.vl [[I 0], [I 10]] true], [.vl [[I 20], [I 0]] true]] true, .nils, (.vl [[I 0, I 0, I 100, (.vl [[I (30)], [I (40)]] true)], [I 1, I 61, I 100, (.vl [[I (20)], [I (20)]] true)], [I 0, I 15, I 130, (.vl [[I (10)], [I (0)]] true)]] false)], (.vl [[I (0)], [I (1)], [I (2)]] true)] []) = true := by kernel_rfl
noncomputable def kL71 : List (List AVal × AVal) := [([.agg [I 2, .vl [[.vl [[I 0], [I 10]] true], [.vl [[I 20], [I 0]] true]] true, .nils, .nils]], .tup [.nils, .agg [I 0, I 0]]), ([.agg [I 2, .vl [[.vl [[I 0], [I 10]] true], [.vl [[I 20], [I 0]] true]] true, .nils, (.vl [[I 0, I 0, I 100, (.vl [[I (30)], [I (40)]] true)]] false)]], .tup [(.vl [[I (0)]] false), .agg [I 0, I 70]]), ([.agg [I 2, .vl [[.vl [[I 0], [I 10]] true], [.vl [[I 20], [I 0]] true]] true, .nils, (.vl [[I 1, I 0, I 90, (.vl [[I (20)], [I (20)]] true)]] false)]], .tup [(.vl [[I (0)]] false), .agg [I 0, I 40]]), ([.agg [I 2, .vl [[.vl [[I 0], [I 10]] true], [.vl [[I 20], [I 0]] true]] true, .nils, (.vl [[I 0, I 0, I 100, (.vl [[I (30)], [I (40)]] true)], [I 1, I 0, I 90, (.vl [[I (20)], [I (20)]] true)]] false)]], .tup [(.vl [[I (0)], [I (1)]] false), .agg [I 10, I 100]]), ([.agg [I 2, .vl [[.vl [[I 0], [I 10]] true], [.vl [[I 20], [I 0]] true]] true, .nils, (.vl [[I 0, I 15, I 130, (.vl [[I (10)], [I (0)]] true)]] false)]], .tup [(.vl [[I (0)]] false), .agg [I 0, I 25]]), ([.agg [I 2, .vl [[.vl [[I 0], [I 10]] true], [.vl [[I 20], [I 0]] true]] true, .nils, (.vl [[I 0, I 0, I 100, (.vl [[I (30)], [I (40)]] true)], [I 0, I 15, I 130, (.vl [[I (10)], [I (0)]] true)]] false)]], .tup [(.vl [[I (0)], [I (1)]] false), .agg [I 0, I 70]]), ([.agg [I 2, .vl [[.vl [[I 0], [I 10]] true], [.vl [[I 20], [I 0]] true]] true, .nils, (.vl [[I 1, I 0, I 90, (.vl [[I (20)], [I (20)]] true)], [I 0, I 15, I 130, (.vl [[I (10)], [I (0)]] true)]] false)]], .tup [(.vl [[I (0)], [I (1)]] false), .agg [I 0, I 50]]), ([.agg [I 2, .vl [[.vl [[I 0], [I 10]] true], [.vl [[I 20], [I 0]] true]] true, .nils, (.vl [[I 0, I 0, I 100, (.vl [[I (30)], [I (40)]] true)], [I 1, I 0, I 90, (.vl [[I (20)], [I (20)]] true)], [I 0, I 15, I 130, (.vl [[I (10)], [I (0)]] true)]] false)]], .tup [(.vl [[I (0)], [I (1)], [I (2)]] false), .agg [I 10, I 100]]), ([.agg [I 2, .vl [[.vl [[I 0], [I 10]] true], [.vl [[I 20], [I 0]] true]] true, .nils, (.vl [[I 0, I 0, I 100, (.vl [[I (30)], [I (40)]] true)], [I 1, I 0, I 90, (.vl [[I (20)], [I (20)]] true)], [I 0, I 15, I 130, (.vl [[I (10)], [I (0)]] true)]] true)]], .tup [(.vl [[I (0)], [I (1)], [I (2)]] false), .agg [I 10, I 100]])]
noncomputable def FKa1 : Nat → Option CFn := upd FK0 71 true (oAt kL71)
theorem FKa1_ok : TabOk Tryz.prog GG FKa1 := tab_upd FK0_ok (oAt_good fun p hp => by
  simp only [kL71, List.mem_cons, List.not_mem_nil, or_false] at hp
  rcases hp with rfl | rfl | rfl | rfl | rfl | rfl | rfl | rfl | rfl
  · exact orc_of mixed FK0_ok (isR_answers k71_0)
  · exact orc_of mixed FK0_ok (isR_answers k71_1)
  · exact orc_of mixed FK0_ok (isR_answers k71_2)
  · exact orc_of mixed FK0_ok (isR_answers k71_3)
  · exact orc_of mixed FK0_ok (isR_answers k71_4)
  · exact orc_of mixed FK0_ok (isR_answers k71_5)
  · exact orc_of mixed FK0_ok (isR_answers k71_6)
  · exact orc_of mixed FK0_ok (isR_answers k71_7)
  · exact orc_of mixed FK0_ok (isR_answers k71_8))
noncomputable def kL64 : List (List AVal × AVal) := [([.agg [I 2, .vl [[.vl [[I 0], [I 10]] true], [.vl [[I 20], [I 0]] true]] true, .nils, (.vl [[I 0, I 0, I 100, (.vl [[I (30)], [I (40)]] true)], [I 1, I 0, I 100, (.vl [[I (20)], [I (20)]] true)], [I 0, I 15, I 130, (.vl [[I (10)], [I (0)]] true)]] true)], (.vl [[I (0)], [I (1)], [I (2)]] true)], .nils), ([.agg [I 2, .vl [[.vl [[I 0], [I 10]] true], [.vl [[I 20], [I 0]] true]] true, (.vl [[I 1, I 60, I 70]] false), (.vl [[I 0, I 0, I 100, (.vl [[I (30)], [I (40)]] true)], [I 1, I 0, I 100, (.vl [[I (20)], [I (20)]] true)], [I 0, I 15, I 130, (.vl [[I (10)], [I (0)]] true)]] true)], (.vl [[I (0)], [I (1)], [I (2)]] true)], (.vl [[I (0)], [I (1)]] false)), ([.agg [I 2, .vl [[.vl [[I 0], [I 10]] true], [.vl [[I 20], [I 0]] true]] true, .nils, (.vl [[I 0, I 5000, I 100, (.vl [[I (30)], [I (40)]] true)], [I 1, I 0, I 100, (.vl [[I (20)], [I (20)]] true)], [I 0, I 15, I 130, (.vl [[I (10)], [I (0)]] true)]] false)], (.vl [[I (0)], [I (1)], [I (2)]] true)], (.vl [[I (0)], [I (1)], [I (2)]] false)), ([.agg [I 2, .vl [[.vl [[I 0], [I 10]] true], [.vl [[I 20], [I 0]] true]] true, .nils, (.vl [[I 0, I 2500, I 100, (.vl [[I (30)], [I (40)]] true)], [I 1, I 0, I 100, (.vl [[I (20)], [I (20)]] true)], [I 0, I 15, I 130, (.vl [[I (10)], [I (0)]] true)]] false)], (.vl [[I (0)], [I (1)], [I (2)]] true)], (.vl [[I (0)], [I (1)], [I (2)]] false)), ([.agg [I 2, .vl [[.vl [[I 0], [I 10]] true], [.vl [[I 20], [I 0]] true]] true, .nils, (.vl [[I 0, I 1250, I 100, (.vl [[I (30)], [I (40)]] true)], [I 1, I 0, I 100, (.vl [[I (20)], [I (20)]] true)], [I 0, I 15, I 130, (.vl [[I (10)], [I (0)]] true)]] false)], (.vl [[I (0)], [I (1)], [I (2)]] true)], (.vl [[I (0)], [I (1)], [I (2)]] false)), ([.agg [I 2, .vl [[.vl [[I 0], [I 10]] true], [.vl [[I 20], [I 0]] true]] true, .nils, (.vl [[I 0, I 625, I 100, (.vl [[I (30)], [I (40)]] true)], [I 1, I 0, I 100, (.vl [[I (20)], [I (20)]] true)], [I 0, I 15, I 130, (.vl [[I (10)], [I (0)]] true)]] false)], (.vl [[I (0)], [I (1)], [I (2)]] true)], (.vl [[I (0)], [I (1)], [I (2)]] false)), ([.agg [I 2, .vl [[.vl [[I 0], [I 10]] true], [.vl [[I 20], [I 0]] true]] true, .nils, (.vl [[I 0, I 312, I 100, (.vl [[I (30)], [I (40)]] true)], [I 1, I 0, I 100, (.vl [[I (20)], [I (20)]] true)], [I 0, I 15, I 130, (.vl [[I (10)], [I (0)]] true)]] false)], (.vl [[I (0)], [I (1)], [I (2)]] true)], (.vl [[I (0)], [I (1)], [I (2)]] false)), ([.agg [I 2, .vl [[.vl [[I 0], [I 10]] true], [.vl [[I 20], [I 0]] true]] true, .nils, (.vl [[I 0, I 156, I 100, (.vl [[I (30)], [I (40)]] true)], [I 1, I 0, I 100, (.vl [[I (20)], [I (20)]] true)], [I 0, I 15, I 130, (.vl [[I (10)], [I (0)]] true)]] false)], (.vl [[I (0)], [I (1)], [I (2)]] true)], (.vl [[I (0)], [I (1)], [I (2)]] false)), ([.agg [I 2, .vl [[.vl [[I 0], [I 10]] true], [.vl [[I 20], [I 0]] true]] true, .nils, (.vl [[I 0, I 78, I 100, (.vl [[I (30)], [I (40)]] true)], [I 1, I 0, I 100, (.vl [[I (20)], [I (20)]] true)], [I 0, I 15, I 130, (.vl [[I (10)], [I (0)]] true)]] false)], (.vl [[I (0)], [I (1)], [I (2)]] true)], (.vl [[I (0)], [I (1)], [I (2)]] false)), ([.agg [I 2, .vl [[.vl [[I 0], [I 10]] true], [.vl [[I 20], [I 0]] true]] true, .nils, (.vl [[I 0, I 39, I 100, (.vl [[I (30)], [I (40)]] true)], [I 1, I 0, I 100, (.vl [[I (20)], [I (20)]] true)], [I 0, I 15, I 130, (.vl [[I (10)], [I (0)]] true)]] false)], (.vl [[I (0)], [I (1)], [I (2)]] true)], (.vl [[I (0)], [I (1)]] false)), ([.agg [I 2, .vl [[.vl [[I 0], [I 10]] true], [.vl [[I 20], [I 0]] true]] true, .nils, (.vl [[I 0, I 19, I 100, (.vl [[I (30)], [I (40)]] true)], [I 1, I 0, I 100, (.vl [[I (20)], [I (20)]] true)], [I 0, I 15, I 130, (.vl [[I (10)], [I (0)]] true)]] false)], (.vl [[I (0)], [I (1)], [I (2)]] true)], (.vl [[I (1)]] false)), ([.agg [I 2, .vl [[.vl [[I 0], [I 10]] true], [.vl [[I 20], [I 0]] true]] true, .nils, (.vl [[I 0, I 9, I 100, (.vl [[I (30)], [I (40)]] true)], [I 1, I 0, I 100, (.vl [[I (20)], [I (20)]] true)], [I 0, I 15, I 130, (.vl [[I (10)], [I (0)]] true)]] false)], (.vl [[I (0)], [I (1)], [I (2)]] true)], (.vl [[I (1)]] false)), ([.agg [I 2, .vl [[.vl [[I 0], [I 10]] true], [.vl [[I 20], [I 0]] true]] true, .nils, (.vl [[I 0, I 4, I 100, (.vl [[I (30)], [I (40)]] true)], [I 1, I 0, I 100, (.vl [[I (20)], [I (20)]] true)], [I 0, I 15, I 130, (.vl [[I (10)], [I (0)]] true)]] false)], (.vl [[I (0)], [I (1)], [I (2)]] true)], (.vl [[I (1)]] false)), ([.agg [I 2, .vl [[.vl [[I 0], [I 10]] true], [.vl [[I 20], [I 0]] true]] true, .nils, (.vl [[I 0, I 2, I 100, (.vl [[I (30)], [I (40)]] true)], [I 1, I 0, I 100, (.vl [[I (20)], [I (20)]] true)], [I 0, I 15, I 130, (.vl [[I (10)], [I (0)]] true)]] false)], (.vl [[I (0)], [I (1)], [I (2)]] true)], (.vl [[I (1)]] false)), ([.agg [I 2, .vl [[.vl [[I 0], [I 10]] true], [.vl [[I 20], [I 0]] true]] true, .nils, (.vl [[I 0, I 1, I 100, (.vl [[I (30)], [I (40)]] true)], [I 1, I 0, I 100, (.vl [[I (20)], [I (20)]] true)], [I 0, I 15, I 130, (.vl [[I (10)], [I (0)]] true)]] false)], (.vl [[I (0)], [I (1)], [I (2)]] true)], (.vl [[I (1)]] false)), ([.agg [I 2, .vl [[.vl [[I 0], [I 10]] true], [.vl [[I 20], [I 0]] true]] true, .nils, (.vl [[I 0, I 0, I 100, (.vl [[I (30)], [I (40)]] true)], [I 1, I 5000, I 100, (.vl [[I (20)], [I (20)]] true)], [I 0, I 15, I 130, (.vl [[I (10)], [I (0)]] true)]] false)], (.vl [[I (0)], [I (1)], [I (2)]] true)], (.vl [[I (1)], [I (2)]] false)), ([.agg [I 2, .vl [[.vl [[I 0], [I 10]] true], [.vl [[I 20], [I 0]] true]] true, .nils, (.vl [[I 0, I 0, I 100, (.vl [[I (30)], [I (40)]] true)], [I 1, I 2500, I 100, (.vl [[I (20)], [I (20)]] true)], [I 0, I 15, I 130, (.vl [[I (10)], [I (0)]] true)]] false)], (.vl [[I (0)], [I (1)], [I (2)]] true)], (.vl [[I (1)], [I (2)]] false)), ([.agg [I 2, .vl [[.vl [[I 0], [I 10]] true], [.vl [[I 20], [I 0]] true]] true, .nils, (.vl [[I 0, I 0, I 100, (.vl [[I (30)], [I (40)]] true)], [I 1, I 1250, I 100, (.vl [[I (20)], [I (20)]] true)], [I 0, I 15, I 130, (.vl [[I (10)], [I (0)]] true)]] false)], (.vl [[I (0)], [I (1)], [I (2)]] true)], (.vl [[I (1)], [I (2)]] false)), ([.agg [I 2, .vl [[.vl [[I 0], [I 10]] true], [.vl [[I 20], [I 0]] true]] true, .nils, (.vl [[I 0, I 0, I 100, (.vl [[I (30)], [I (40)]] true)], [I 1, I 625, I 100, (.vl [[I (20)], [I (20)]] true)], [I 0, I 15, I 130, (.vl [[I (10)], [I (0)]] true)]] false)], (.vl [[I (0)], [I (1)], [I (2)]] true)], (.vl [[I (1)], [I (2)]] false)), ([.agg [I 2, .vl [[.vl [[I 0], [I 10]] true], [.vl [[I 20], [I 0]] true]] true, .nils, (.vl [[I 0, I 0, I 100, (.vl [[I (30)], [I (40)]] true)], [I 1, I 312, I 100, (.vl [[I (20)], [I (20)]] true)], [I 0, I 15, I 130, (.vl [[I (10)], [I (0)]] true)]] false)], (.vl [[I (0)], [I (1)], [I (2)]] true)], (.vl [[I (1)], [I (2)]] false)), ([.agg [I 2, .vl [[.vl [[I 0], [I 10]] true], [.vl [[I 20], [I 0]] true]] true, .nils, (.vl [[I 0, I 0, I 100, (.vl [[I (30)], [I (40)]] true)], [I 1, I 156, I 100, (.vl [[I (20)], [I (20)]] true)], [I 0, I 15, I 130, (.vl [[I (10)], [I (0)]] true)]] false)], (.vl [[I (0)], [I (1)], [I (2)]] true)], (.vl [[I (1)], [I (2)]] false)), ([.agg [I 2, .vl [[.vl [[I 0], [I 10]] true], [.vl [[I 20], [I 0]] true]] true, .nils, (.vl [[I 0, I 0, I 100, (.vl [[I (30)], [I (40)]] true)], [I 1, I 78, I 100, (.vl [[I (20)], [I (20)]] true)], [I 0, I 15, I 130, (.vl [[I (10)], [I (0)]] true)]] false)], (.vl [[I (0)], [I (1)], [I (2)]] true)], (.vl [[I (1)]] false)), ([.agg [I 2, .vl [[.vl [[I 0], [I 10]] true], [.vl [[I 20], [I 0]] true]] true, .nils, (.vl [[I 0, I 0, I 100, (.vl [[I (30)], [I (40)]] true)], [I 1, I 39, I 100, (.vl [[I (20)], [I (20)]] true)], [I 0, I 15, I 130, (.vl [[I (10)], [I (0)]] true)]] false)], (.vl [[I (0)], [I (1)], [I (2)]] true)], .nils), ([.agg [I 2, .vl [[.vl [[I 0], [I 10]] true], [.vl [[I 20], [I 0]] true]] true, .nils, (.vl [[I 0, I 0, I 100, (.vl [[I (30)], [I (40)]] true)], [I 1, I 58, I 100, (.vl [[I (20)], [I (20)]] true)], [I 0, I 15, I 130, (.vl [[I (10)], [I (0)]] true)]] false)], (.vl [[I (0)], [I (1)], [I (2)]] true)], .nils), ([.agg [I 2, .vl [[.vl [[I 0], [I 10]] true], [.vl [[I 20], [I 0]] true]] true, .nils, (.vl [[I 0, I 0, I 100, (.vl [[I (30)], [I (40)]] true)], [I 1, I 68, I 100, (.vl [[I (20)], [I (20)]] true)], [I 0, I 15, I 130, (.vl [[I (10)], [I (0)]] true)]] false)], (.vl [[I (0)], [I (1)], [I (2)]] true)], (.vl [[I (1)]] false)), ([.agg [I 2, .vl [[.vl [[I 0], [I 10]] true], [.vl [[I 20], [I 0]] true]] true, .nils, (.vl [[I 0, I 0, I 100, (.vl [[I (30)], [I (40)]] true)], [I 1, I 63, I 100, (.vl [[I (20)], [I (20)]] true)], [I 0, I 15, I 130, (.vl [[I (10)], [I (0)]] true)]] false)], (.vl [[I (0)], [I (1)], [I (2)]] true)], (.vl [[I (1)]] false)), ([.agg [I 2, .vl [[.vl [[I 0], [I 10]] true], [.vl [[I 20], [I 0]] true]] true, .nils, (.vl [[I 0, I 0, I 100, (.vl [[I (30)], [I (40)]] true)], [I 1, I 60, I 100, (.vl [[I (20)], [I (20)]] true)], [I 0, I 15, I 130, (.vl [[I (10)], [I (0)]] true)]] false)], (.vl [[I (0)], [I (1)], [I (2)]] true)], .nils), ([.agg [I 2, .vl [[.vl [[I 0], [I 10]] true], [.vl [[I 20], [I 0]] true]] true, .nils, (.vl [[I 0, I 0, I 100, (.vl [[I (30)], [I (40)]] true)], [I 1, I 61, I 100, (.vl [[I (20)], [I (20)]] true)], [I 0, I 15, I 130, (.vl [[I (10)], [I (0)]] true)]] false)], (.vl [[I (0)], [I (1)], [I (2)]] true)], (.vl [[I (1)]] false))]
noncomputable def FKa2 : Nat → Option CFn := upd FKa1 64 true (oAt kL64)
theorem FKa2_ok : TabOk Tryz.prog GG FKa2 := tab_upd FKa1_ok (oAt_good fun p hp => by
  simp only [kL64, List.mem_cons, List.not_mem_nil, or_false] at hp
  rcases hp with rfl | rfl | rfl | rfl | rfl | rfl | rfl | rfl | rfl | rfl | rfl | rfl | rfl | rfl | rfl | rfl | rfl | rfl | rfl | rfl | rfl | rfl | rfl | rfl | rfl | rfl | rfl | rfl
  · exact orc_of mixed FK0_ok (isR_answers k64_0)
  · exact orc_of mixed FK0_ok (isR_answers k64_1)
  · exact orc_of mixed FK0_ok (isR_answers k64_0_5000)
  · exact orc_of mixed FK0_ok (isR_answers k64_0_2500)
  · exact orc_of mixed FK0_ok (isR_answers k64_0_1250)
  · exact orc_of mixed FK0_ok (isR_answers k64_0_625)
  · exact orc_of mixed FK0_ok (isR_answers k64_0_312)
  · exact orc_of mixed FK0_ok (isR_answers k64_0_156)
  · exact orc_of mixed FK0_ok (isR_answers k64_0_78)
  · exact orc_of mixed FK0_ok (isR_answers k64_0_39)
  · exact orc_of mixed FK0_ok (isR_answers k64_0_19)
  · exact orc_of mixed FK0_ok (isR_answers k64_0_9)
  · exact orc_of mixed FK0_ok (isR_answers k64_0_4)
  · exact orc_of mixed FK0_ok (isR_answers k64_0_2)
  · exact orc_of mixed FK0_ok (isR_answers k64_0_1)
  · exact orc_of mixed FK0_ok (isR_answers k64_1_5000)
  · exact orc_of mixed FK0_ok (isR_answers k64_1_2500)
  · exact orc_of mixed FK0_ok (isR_answers k64_1_1250)
  · exact orc_of mixed FK0_ok (isR_answers k64_1_625)
  · exact orc_of mixed FK0_ok (isR_answers k64_1_312)
  · exact orc_of mixed FK0_ok (isR_answers k64_1_156)
  · exact orc_of mixed FK0_ok (isR_answers k64_1_78)
  · exact orc_of mixed FK0_ok (isR_answers k64_1_39)
  · exact orc_of mixed FK0_ok (isR_answers k64_1_58)
  · exact orc_of mixed FK0_ok (isR_answers k64_1_68)
  · exact orc_of mixed FK0_ok (isR_answers k64_1_63)
  · exact orc_of mixed FK0_ok (isR_answers k64_1_60)
  · exact orc_of mixed FK0_ok (isR_answers k64_1_61))
theorem k43 : isR (.tup [.vl [[(.vl [[I (40)], [I (70)]] false)], [(.vl [[I (0)], [I (20)]] false)], [(.vl [[I (70)], [I (80)]] false)]] true, I 0]) (callF FA3 (exec Tryz.prog FA3 1000) 43 [kS, kJ90, (.vl [[I (1)], [I (0)], [I (2)]] true)] []) = true := by kernel_rfl
theorem k19 : isR (.tup [I 1, I 10, I 110, I 0]) (callF FA3 (exec Tryz.prog FA3 1000) 19 [kS, kJ90, (.vl [[I (1)], [I (0)], [I (2)]] true)] []) = true := by kernel_rfl
theorem k29 : isR (.tup [(.vl [[I (0)], [I (1)], [I (2)]] false), I 0]) (callF FK0 (exec Tryz.prog FK0 1000) 29 [kS, kJ90] []) = true := by kernel_rfl
theorem k33 : isR (.tup [(.vl [[I (0)], [I (1)]] false), I 0]) (callF FKa2 (exec Tryz.prog FKa2 1000) 33 [kS, kJ90] []) = true := by kernel_rfl
theorem k30 : isR (.tup [I 80, I 0]) (callF FA3 (exec Tryz.prog FA3 1000) 30 [kS, kJ90] []) = true := by kernel_rfl
theorem k20 : isR (.tup [(.vl [[I (2)], [I (1)]] false), I 0]) (callF FA3 (exec Tryz.prog FA3 1000) 20 [kS, kJ90, (.vl [[I (0)], [I (1)], [I (2)]] true)] []) = true := by kernel_rfl
theorem k38a : isR (.tup [I 0, I 0]) (callF FKa2 (exec Tryz.prog FKa2 1000) 38 [kS, kJ100, (.vl [[I (0)], [I (1)], [I (2)]] true), I 0] []) = true := by kernel_rfl
theorem k38b : isR (.tup [I 60, I 0]) (callF FKa2 (exec Tryz.prog FKa2 1000) 38 [kS, kJ100, (.vl [[I (0)], [I (1)], [I (2)]] true), I 1] []) = true := by kernel_rfl
theorem k35 : isR (.tup [(.vl [[I (0)], [I (1)]] false), I 0]) (callF FA3 (exec Tryz.prog FA3 1000) 35 [kS, kJ100, (.vl [[I (0)], [I (1)], [I (2)]] true), .agg [I 1, I 60, I 70]] []) = true := by kernel_rfl
noncomputable def kL43 : List (List AVal × AVal) := [([kS, kJ90, (.vl [[I (1)], [I (0)], [I (2)]] true)], .tup [.vl [[(.vl [[I (40)], [I (70)]] false)], [(.vl [[I (0)], [I (20)]] false)], [(.vl [[I (70)], [I (80)]] false)]] true, I 0])]
noncomputable def FKb1 : Nat → Option CFn := upd FA3 43 true (oAt kL43)
theorem FKb1_ok : TabOk Tryz.prog GG FKb1 := tab_upd FA3_ok (oAt_good fun p hp => by
  simp only [kL43, List.mem_cons, List.not_mem_nil, or_false] at hp
  subst hp
  exact orc_of mixed FA3_ok (isR_answers k43))
noncomputable def kL19 : List (List AVal × AVal) := [([kS, kJ90, (.vl [[I (1)], [I (0)], [I (2)]] true)], .tup [I 1, I 10, I 110, I 0])]
noncomputable def FKb2 : Nat → Option CFn := upd FKb1 19 true (oAt kL19)
theorem FKb2_ok : TabOk Tryz.prog GG FKb2 := tab_upd FKb1_ok (oAt_good fun p hp => by
  simp only [kL19, List.mem_cons, List.not_mem_nil, or_false] at hp
  subst hp
  exact orc_of mixed FA3_ok (isR_answers k19))
noncomputable def kL29 : List (List AVal × AVal) := [([kS, kJ90], .tup [(.vl [[I (0)], [I (1)], [I (2)]] false), I 0])]
noncomputable def FKb3 : Nat → Option CFn := upd FKb2 29 true (oAt kL29)
theorem FKb3_ok : TabOk Tryz.prog GG FKb3 := tab_upd FKb2_ok (oAt_good fun p hp => by
  simp only [kL29, List.mem_cons, List.not_mem_nil, or_false] at hp
  subst hp
  exact orc_of mixed FK0_ok (isR_answers k29))
noncomputable def kL33 : List (List AVal × AVal) := [([kS, kJ90], .tup [(.vl [[I (0)], [I (1)]] false), I 0])]
noncomputable def FKb4 : Nat → Option CFn := upd FKb3 33 true (oAt kL33)
theorem FKb4_ok : TabOk Tryz.prog GG FKb4 := tab_upd FKb3_ok (oAt_good fun p hp => by
  simp only [kL33, List.mem_cons, List.not_mem_nil, or_false] at hp
  subst hp
  exact orc_of mixed FKa2_ok (isR_answers k33))
noncomputable def kL30 : List (List AVal × AVal) := [([kS, kJ90], .tup [I 80, I 0])]
noncomputable def FKb5 : Nat → Option CFn := upd FKb4 30 true (oAt kL30)
theorem FKb5_ok : TabOk Tryz.prog GG FKb5 := tab_upd FKb4_ok (oAt_good fun p hp => by
  simp only [kL30, List.mem_cons, List.not_mem_nil, or_false] at hp
  subst hp
  exact orc_of mixed FA3_ok (isR_answers k30))
noncomputable def kL20 : List (List AVal × AVal) := [([kS, kJ90, (.vl [[I (0)], [I (1)], [I (2)]] true)], .tup [(.vl [[I (2)], [I (1)]] false), I 0])]
noncomputable def FKb6 : Nat → Option CFn := upd FKb5 20 true (oAt kL20)
theorem FKb6_ok : TabOk Tryz.prog GG FKb6 := tab_upd FKb5_ok (oAt_good fun p hp => by
  simp only [kL20, List.mem_cons, List.not_mem_nil, or_false] at hp
  subst hp
  exact orc_of mixed FA3_ok (isR_answers k20))
noncomputable def kL38 : List (List AVal × AVal) := [([kS, kJ100, (.vl [[I (0)], [I (1)], [I (2)]] true), I 0], .tup [I 0, I 0]), ([kS, kJ100, (.vl [[I (0)], [I (1)], [I (2)]] true), I 1], .tup [I 60, I 0])]
noncomputable def FKb7 : Nat → Option CFn := upd FKb6 38 true (oAt kL38)
theorem FKb7_ok : TabOk Tryz.prog GG FKb7 := tab_upd FKb6_ok (oAt_good fun p hp => by
  simp only [kL38, List.mem_cons, List.not_mem_nil, or_false] at hp
  rcases hp with rfl | rfl
  · exact orc_of mixed FKa2_ok (isR_answers k38a)
  · exact orc_of mixed FKa2_ok (isR_answers k38b))
noncomputable def kL35 : List (List AVal × AVal) := [([kS, kJ100, (.vl [[I (0)], [I (1)], [I (2)]] true), .agg [I 1, I 60, I 70]], .tup [(.vl [[I (0)], [I (1)]] false), I 0])]
noncomputable def FKb8 : Nat → Option CFn := upd FKb7 35 true (oAt kL35)
theorem FKb8_ok : TabOk Tryz.prog GG FKb8 := tab_upd FKb7_ok (oAt_good fun p hp => by
  simp only [kL35, List.mem_cons, List.not_mem_nil, or_false] at hp
  subst hp
  exact orc_of mixed FA3_ok (isR_answers k35))
theorem kn : isR (.bool true) (callF FKb8 (exec Tryz.prog FKb8 300) 15 [] []) = true := by kernel_rfl
def oKn : List AVal → Option AVal
  | [] => some (.bool true)
  | _ => none
theorem kn_good : ∀ args v, oKn args = some v → OrcGood Tryz.prog GG true 15 args v := fun args v ho => by
  unfold oKn at ho; split at ho <;> simp at ho
  subst ho
  exact orc_of mixed FKb8_ok (isR_answers kn)
end Go.Proofs.YtjjapdagllclkaaGreat.Tab

namespace Go.Proofs.YtjjapdagllclkaaGreat.Tab
open Go Go.Abs Go.Proofs
set_option maxRecDepth 100000
set_option maxHeartbeats 4000000
set_option linter.unusedSimpArgs false
set_option linter.unusedVariables false
section
attribute [local simp] frz_int frz_bool frz_vl frz_pv frz_agg frz_tup frz_fn frz_ref frz_sl frz_nils optAll orcF rb_int rb_bool rb_agg rb_tup rb_int' rb_bool' rb_vl rb_pv rb_yld rb_nilf rb_nilp rb_nils rb_any rb_und rb_ref rb_sl rb_fn slE chunk fillA evParts evParts3 putAt List.range_succ List.range_zero List.range'_succ List.range'_zero runX_nil' unary_not evalS_pure evAll_nil evAll_cons runX_cons stepX wantedA dop CV.ev putK_eq setK_eq appK_eq fA_eq fI_eq fN_eq fRow_eq fRows_eq nth_eq Out.v putT List.replicate_succ zT zB arI pointee Abs.rowAt ldRow allV toV toC ofV ofC Builtin.min_ Builtin.min2 Builtin.max_ Builtin.max2 min_if max_if resA tupA kill trim_self trim_len trim_emp trim_nil lenA
attribute [local simp] runD_nil' runD_cons' stepD actK_eq actD clash disj masks holes maskH unmaskH diffs news eqB allB eqA ldRowN wrote toCs ofCs stA rowsV_vl rowsV_nils rowsOf dI1 dI2 dI3 dI5 elt
attribute [local simp] st_any st_und st_agg st_tup st_bool st_int st_nilp st_ref st_pv st_nils st_sl st_vl st_nilm st_mp st_fn st_nilf st_yld co_any co_und co_agg co_tup co_bool co_int co_nilp co_ref co_pv co_nils co_sl co_vl co_nilm co_mp co_fn co_nilf co_yld
attribute [local simp] callA calleeA lim lop loud rbB_none rbB_row
open Classical in
noncomputable def oMade : List AVal → Option AVal
  | [.agg r] => match dWk r with
    | some (W, _, _) => if WkOk W then some (.tup [.agg [I (wM W), encC (wC W (wK W).toNat), encN (wT W (min W.xs.length 6))], encJ (wJ W (min W.ys.length 5))]) else none
    | none => none
  | _ => none
open Classical in
noncomputable def oOrder : List AVal → Option AVal
  | [.agg r, .int .i64 n] => match dWk r with
    | some (W, _, _) => if WkOk W ∧ 0 ≤ n ∧ n ≤ 6 then some (encE (ordW W.o n.toNat)) else none
    | none => none
  | _ => none
open Classical in
noncomputable def oTimed : List AVal → Option AVal
  | [.agg [.int .i64 m, c, t], j, sv] => match dInts2 c, dStops t, dJobs j, dInts2 sv with
    | some cs, some ts, some js, some S => if ShopOk ⟨m, cs, ts⟩ js ∧ StOk ⟨m, cs, ts⟩ js S then some (.tup [encE (endsL S js m.toNat js.length), .bool true]) else none
    | _, _, _, _ => none
  | _ => none
theorem made_eq {W_ : FWorks} {x y : AVal} (hx : rowsV x = some (W_.xs.map rU)) (hy : rowsV y = some (W_.ys.map rU)) (hw : WkOk W_) : oMade [.agg (wkC W_ x y)] = some (.tup [.agg [I (wM W_), encC (wC W_ (wK W_).toNat), encN (wT W_ (min W_.xs.length 6))], encJ (wJ W_ (min W_.ys.length 5))]) := by
  simp only [oMade, dWk_self hw.g.1 hx hy]; rw [if_pos hw]
theorem order_eq {W_ : FWorks} {x y : AVal} (hx : rowsV x = some (W_.xs.map rU)) (hy : rowsV y = some (W_.ys.map rU)) (hw : WkOk W_) {n : Nat} (hn : n ≤ 6) : oOrder [.agg (wkC W_ x y), I (n : Int)] = some (encE (ordW W_.o n)) := by
  simp only [oOrder, dWk_self hw.g.1 hx hy]; rw [if_pos ⟨hw, by omega, by omega⟩]; rfl
theorem timed_eq {s : FShop} {js : List FJob} {c t j sv : AVal} {S : List (List Int)} (hc : dInts2 c = some s.chg) (ht : dStops t = some s.stops) (hj : dJobs j = some js) (hs : dInts2 sv = some S) (h1 : ShopOk s js) (h2 : StOk s js S) : oTimed [.agg [I s.mach, c, t], j, sv] = some (.tup [encE (endsL S js s.mach.toNat js.length), .bool true]) := by
  simp only [oTimed, hc, ht, hj, hs]; rw [if_pos ⟨h1, h2⟩]
theorem made_good : ∀ args v, oMade args = some v → OrcGood Tryz.prog GG false 41 args v := fun args v ho => by
  unfold oMade at ho; split at ho <;> (try simp only [reduceCtorEq] at ho)
  rename_i r
  split at ho <;> (try simp only [reduceCtorEq] at ho)
  rename_i W_ x y hr
  split at ho <;> (try simp only [reduceCtorEq] at ho)
  rename_i hw
  simp only [Option.some.injEq] at ho
  subst ho
  obtain ⟨rfl, hx, hy⟩ := dWk_eq hr
  exact orc_of mixed (tab_updG T_ok) (a41 Tryz.prog (updG T 41 [(118, [.cell 4 1]), (502, [.slot 7]), (566, [.cell 4 2]), (12342, [.slot 12]), (127030, [.cell 15 3])] []) rfl W_ x y hx hy hw)
theorem order_good : ∀ args v, oOrder args = some v → OrcGood Tryz.prog GG true 42 args v := fun args v ho => by
  unfold oOrder at ho; split at ho <;> (try simp only [reduceCtorEq] at ho)
  rename_i r n
  split at ho <;> (try simp only [reduceCtorEq] at ho)
  rename_i W_ x y hr
  split at ho <;> (try simp only [reduceCtorEq] at ho)
  rename_i hw
  simp only [Option.some.injEq] at ho
  subst ho
  obtain ⟨rfl, hx, hy⟩ := dWk_eq hr
  obtain ⟨hw, hn0, hn6⟩ := hw
  obtain ⟨m, rfl⟩ : ∃ m : Nat, n = m := ⟨n.toNat, by omega⟩
  exact orc_of mixed (tab_updG T_ok) (a42 Tryz.prog (updG T 42 [(230, [.slot 5]), (358, [.slot 5, .slot 6])] []) rfl rfl W_ x y hx hy hw m (by omega))
noncomputable def FT1 : Nat → Option CFn := upd FP2 41 false oMade
theorem FT1_ok : TabOk Tryz.prog GG FT1 := tab_upd FP2_ok made_good
noncomputable def FT2 : Nat → Option CFn := upd FT1 42 true oOrder
theorem FT2_ok : TabOk Tryz.prog GG FT2 := tab_upd FT1_ok order_good
noncomputable def FT3 : Nat → Option CFn := upd FT2 15 true oKn
theorem FT3_ok : TabOk Tryz.prog GG FT3 := tab_upd FT2_ok kn_good
noncomputable def FT_44 : Nat → Option CFn := upd FT3 44 true (oTimed)
theorem FT_44_ok : TabOk Tryz.prog GG FT_44 := tab_add mixed FT3_ok fun args v ho => by
  unfold oTimed at ho; split at ho <;> (try simp only [reduceCtorEq] at ho)
  rename_i m c t j sv
  split at ho <;> (try simp only [reduceCtorEq] at ho)
  rename_i cs ts js S hc ht hj hs
  split at ho <;> (try simp only [reduceCtorEq] at ho)
  rename_i hg
  simp only [Option.some.injEq] at ho
  subst ho
  exact a44 Tryz.prog FT3 rfl ⟨m, cs, ts⟩ js c t j hc ht hj S sv hs hg.1 hg.2
noncomputable def FT : Nat → Option CFn := FT_44
theorem FT_ok : TabOk Tryz.prog GG FT := FT_44_ok
theorem wk_cells {W_ : FWorks} {x y : AVal} (hx : rowsV x = some (W_.xs.map rU)) (hy : rowsV y = some (W_.ys.map rU)) (hw : WkOk W_) : (wkC W_ x y).length = 26 ∧ (wkC W_ x y).all storable = true ∧ (∀ n d, (wkC W_ x y).all (rb n (d + 1)) = true) ∧ (∀ H d, optAll (frz false H (d + 1)) (wkC W_ x y) = some (wkC W_ x y)) := by
  obtain ⟨cx1, cx2⟩ := rowsV_cells hx
  obtain ⟨cy1, cy2⟩ := rowsV_cells hy
  have rx := fun n d => rowsV_rb hx n d
  have ry := fun n d => rowsV_rb hy n d
  refine ⟨by simp [wkC, rU_len, hw.g.1, hw.o.1], ?_, fun n d => ?_, fun H d => optAll_self _ fun z hz => ?_⟩
  · have h1 := rU_stor W_.g
    have h2 := rU_stor W_.o
    simp only [wkC, List.all_cons, List.all_append, h1, h2, cx2, cy2, List.all_nil, Bool.and_true]; rfl
  · have h1 := rU_rb n d W_.g
    have h2 := rU_rb n d W_.o
    simp only [wkC, List.all_cons, List.all_append, h1, h2, rx, ry, rb_int', List.all_nil, Bool.and_true]
  · simp only [wkC, List.mem_cons, List.mem_append, List.not_mem_nil, or_false] at hz
    rcases hz with rfl | rfl | (h | rfl | rfl) | h
    · exact frz_int ..
    · exact frz_int ..
    · obtain ⟨a, _, rfl⟩ := List.mem_map.1 h; exact frz_int ..
    · exact rowsV_frz hx H d
    · exact rowsV_frz hy H d
    · obtain ⟨a, _, rfl⟩ := List.mem_map.1 h; exact frz_int ..
end
end Go.Proofs.YtjjapdagllclkaaGreat.Tab

namespace Go.Proofs.YtjjapdagllclkaaGreat
open Go Go.Abs Go.Proofs Go.ChangeShapes Go.WideShapes Go.ChangeAt Go.RowKit
theorem own : ownKnob Tryz.prog.godebug = none := by kernel_rfl
theorem laidOut : laidOutB Tryz.prog = true := by kernel_rfl
theorem u8_wf {n : Int} (h : (Lit.int .u8 n).wf = true) : 0 ≤ n ∧ n ≤ 255 := by
  have e1 : IntKind.u8.min = 0 := rfl
  have e2 : IntKind.u8.max = 255 := rfl
  simp only [Lit.wf, e1, e2, Bool.and_eq_true, decide_eq_true_eq] at h
  exact h
theorem fits_u {Ls : List Ly} {xs : List AVal} (h : FitsR (.int .u8 :: Ls) xs) : ∃ (a : Int) (ys : List AVal), xs = .int .u8 a :: ys ∧ (0 ≤ a ∧ a ≤ 255) ∧ FitsR Ls ys := by
  obtain ⟨x, ys, rfl, hx, h1⟩ := fitsR_cons h
  obtain ⟨a, rfl, ha⟩ := fits_int hx
  exact ⟨a, ys, rfl, u8_wf ha, h1⟩
theorem fits_us : ∀ (n : Nat) {Ls : List Ly} {xs : List AVal}, FitsR (List.replicate n (.int .u8) ++ Ls) xs → ∃ (v : List Int) (ys : List AVal), xs = Tab.rU v ++ ys ∧ v.length = n ∧ (∀ a ∈ v, Tab.isU a) ∧ FitsR Ls ys
  | 0, _, xs, h => ⟨[], xs, rfl, rfl, by simp, h⟩
  | n + 1, Ls, xs, h => by
    have h : FitsR (.int .u8 :: (List.replicate n (.int .u8) ++ Ls)) xs := h
    obtain ⟨a, ys, rfl, ha, h⟩ := fits_u h
    obtain ⟨v, zs, rfl, hl, hv, h⟩ := fits_us n h
    exact ⟨a :: v, zs, rfl, by rw [List.length_cons, hl], fun b hb => by
      rcases List.mem_cons.1 hb with rfl | hb
      · exact ha
      · exact hv b hb, h⟩
theorem map_ofP {α : Type} {enc : α → List AVal} {p : α → Prop} : ∀ {l : List (List AVal)}, (∀ r ∈ l, ∃ a, r = enc a ∧ p a) → ∃ vs : List α, l = vs.map enc ∧ ∀ a ∈ vs, p a
  | [], _ => ⟨[], rfl, by simp⟩
  | r :: l, h => by
    obtain ⟨a, rfl, ha⟩ := h r (by simp)
    obtain ⟨vs, rfl, hvs⟩ := map_ofP (l := l) fun r hr => h r (by simp [hr])
    exact ⟨a :: vs, rfl, fun b hb => by
      rcases List.mem_cons.1 hb with rfl | hb
      · exact ha
      · exact hvs b hb⟩
theorem rows_of {x : AVal} {rs : List (List AVal)} (hx : x = .nils ∧ rs = [] ∨ ∃ t, x = .vl rs t) : rowsV x = some rs := by
  rcases hx with ⟨rfl, rfl⟩ | ⟨t, rfl⟩ <;> rfl
theorem fits_works {xs : List AVal} (h : FitsR [.int .u8, .int .u8, .int .u8, .int .u8, .int .u8, .int .u8, .int .u8, .int .u8, .int .u8, .int .u8, .int .u8, .int .u8, .int .u8, .int .u8, .int .u8, .int .u8, .int .u8, .int .u8, .sl [.int .u8, .int .u8, .int .u8, .int .u8], .sl [.int .u8, .int .u8, .int .u8, .int .u8, .int .u8, .int .u8, .int .u8], .int .u8, .int .u8, .int .u8, .int .u8, .int .u8, .int .u8] xs) :
    ∃ (W_ : Tab.FWorks) (x y : AVal), xs = Tab.wkC W_ x y ∧ rowsV x = some (W_.xs.map Tab.rU) ∧ rowsV y = some (W_.ys.map Tab.rU) ∧ Tab.WkOk W_ := by
  obtain ⟨m, ys, rfl, hm, h⟩ := fits_u h
  obtain ⟨k, ys, rfl, hk, h⟩ := fits_u h
  obtain ⟨g, ys, rfl, gl, hg, h⟩ := fits_us 16 h
  obtain ⟨x, ys, rfl, gx, h⟩ := fitsR_cons h
  obtain ⟨y, ys, rfl, gy, h⟩ := fitsR_cons h
  obtain ⟨o, ys, rfl, ol, ho, h⟩ := fits_us 6 (Ls := []) h
  obtain rfl := fitsR_nil h
  obtain ⟨r1, k1, q1⟩ := fits_rows gx
  obtain ⟨r2, k2, q2⟩ := fits_rows gy
  obtain ⟨xs, rfl, hxs⟩ := map_ofP (enc := Tab.rU) (p := fun v => v.length = 4 ∧ ∀ n ∈ v, Tab.isU n) (l := r1) fun a ha => by
    obtain ⟨v, ys, rfl, vl, hv, h⟩ := fits_us 4 (Ls := []) (q1 a ha)
    obtain rfl := fitsR_nil h
    exact ⟨v, by rw [List.append_nil], vl, hv⟩
  obtain ⟨ys, rfl, hys⟩ := map_ofP (enc := Tab.rU) (p := fun v => v.length = 7 ∧ ∀ n ∈ v, Tab.isU n) (l := r2) fun a ha => by
    obtain ⟨v, ys, rfl, vl, hv, h⟩ := fits_us 7 (Ls := []) (q2 a ha)
    obtain rfl := fitsR_nil h
    exact ⟨v, by rw [List.append_nil], vl, hv⟩
  refine ⟨⟨m, k, g, xs, ys, o⟩, x, y, ?_, rows_of k1, rows_of k2, ⟨hm, hk, ⟨gl, hg⟩, hxs, hys, ⟨ol, ho⟩⟩⟩
  simp [Tab.wkC]
end Go.Proofs.YtjjapdagllclkaaGreat

namespace Go.Proofs.YtjjapdagllclkaaGreat.Tab
open Go Go.Abs Go.Proofs
set_option linter.unusedSimpArgs false
set_option linter.unusedVariables false
abbrev FEv := Int × Int
def eLe (a b : FEv) : Prop := a.1 < b.1 ∨ (a.1 = b.1 ∧ a.2 ≤ b.2)
instance (a b : FEv) : Decidable (eLe a b) := by unfold eLe; infer_instance
theorem eLe_trans (a b c : FEv) (h1 : eLe a b) (h2 : eLe b c) : eLe a c := by unfold eLe at *; omega
theorem eLe_total (a b : FEv) : eLe a b ∨ eLe b a := by unfold eLe; omega
theorem eLe_anti (a b : FEv) (h1 : eLe a b) (h2 : eLe b a) : a = b := by
 obtain ⟨a1, a2⟩ := a
 obtain ⟨b1, b2⟩ := b
 unfold eLe at *
 simp only at h1 h2
 rw [Prod.mk.injEq]
 omega
def cmpE (a b : FEv) : Int := if a.1 - b.1 = 0 then a.2 - b.2 else a.1 - b.1
theorem cmpE_lt (a b : FEv) : cmpE a b < 0 ↔ ¬ eLe b a := by unfold cmpE eLe; split <;> omega
def esrt (xs : List FEv) : List FEv := xs.mergeSort fun a b => decide (eLe a b)
theorem esrt_perm (xs : List FEv) : (esrt xs).Perm xs := List.mergeSort_perm _ _
theorem esrt_pair (xs : List FEv) : (esrt xs).Pairwise eLe := by
 have := List.pairwise_mergeSort (le := fun a b => decide (eLe a b)) (by intro a b c h1 h2; simp only [decide_eq_true_eq] at *; exact eLe_trans a b c h1 h2) (by intro a b; simp only [Bool.or_eq_true, decide_eq_true_eq]; exact eLe_total a b) xs
 exact this.imp fun h => by simpa using h
theorem esrt_eq {xs ys : List FEv} (hp : ys.Perm xs) (hs : ys.Pairwise eLe) : ys = esrt xs :=
 (hp.trans (esrt_perm xs).symm).eq_of_pairwise (fun a b _ _ h1 h2 => eLe_anti a b h1 h2) hs (esrt_pair xs)
theorem esrt_len (xs : List FEv) : (esrt xs).length = xs.length := (esrt_perm xs).length_eq
def sumB : List FEv → Int
 | [] => 0
 | e :: l => e.2 + sumB l
def topG : List FEv → Int → Int → Int
 | [], _, m => m
 | e :: l, n, m => topG l (n + e.2) (max m (n + e.2))
def topE (l : List FEv) : Int := topG l 0 0
theorem topG_le : ∀ (l : List FEv) (n m M : Int), m ≤ M → (∀ j, j < l.length → n + sumB (l.take (j + 1)) ≤ M) → topG l n m ≤ M
 | [], _, _, _, h, _ => h
 | e :: l, n, m, M, h, hj => by
  have h0 := hj 0 (by simp)
  simp only [List.take_succ_cons, List.take_zero, sumB] at h0
  refine topG_le l _ _ M (by omega) fun j hl => ?_
  have := hj (j + 1) (by simpa using hl)
  simp only [List.take_succ_cons, sumB] at this
  omega
theorem topG_ge : ∀ (l : List FEv) (n m : Int), m ≤ topG l n m ∧ ∀ j, j < l.length → n + sumB (l.take (j + 1)) ≤ topG l n m
 | [], _, _ => ⟨Int.le_refl _, fun j hj => by simp at hj⟩
 | e :: l, n, m => by
  have ⟨h1, h2⟩ := topG_ge l (n + e.2) (max m (n + e.2))
  simp only [topG]
  refine ⟨by omega, fun j hj => ?_⟩
  cases j with
  | zero => simp only [List.take_succ_cons, List.take_zero, sumB]; omega
  | succ j =>
   have := h2 j (by simpa using hj)
   simp only [List.take_succ_cons, sumB]
   omega
def atT : List FEv → Int → Int
 | [], _ => 0
 | e :: l, t => (if e.1 ≤ t then e.2 else 0) + atT l t
theorem atT_perm {l m : List FEv} (h : l.Perm m) (t : Int) : atT l t = atT m t := by
 induction h with
 | nil => rfl
 | cons x _ ih => simp only [atT, ih]
 | swap x y l => simp only [atT]; omega
 | trans _ _ h1 h2 => exact h1.trans h2
theorem atT_app : ∀ (l m : List FEv) (t : Int), atT (l ++ m) t = atT l t + atT m t
 | [], m, t => by simp [atT]
 | e :: l, m, t => by simp only [List.cons_append, atT, atT_app l m t]; omega
theorem atT_all : ∀ (l : List FEv) (t : Int), (∀ e ∈ l, e.1 ≤ t) → atT l t = sumB l
 | [], _, _ => rfl
 | e :: l, t, h => by
  simp only [atT, sumB, atT_all l t fun x hx => h x (by simp [hx])]
  rw [if_pos (h e (by simp))]
theorem atT_nn : ∀ (l : List FEv) (t : Int), (∀ e ∈ l, e.1 ≤ t → 0 ≤ e.2) → 0 ≤ atT l t
 | [], _, _ => Int.le_refl _
 | e :: l, t, h => by
  have ih := atT_nn l t fun x hx => h x (by simp [hx])
  have h0 := h e (by simp)
  simp only [atT]
  split
  ·have := h0 (by assumption); omega
  ·omega
theorem atT_zero : ∀ (l : List FEv) (t : Int), (∀ e ∈ l, t < e.1) → atT l t = 0
 | [], _, _ => rfl
 | e :: l, t, h => by
  have h0 := h e (by simp)
  simp only [atT, atT_zero l t fun x hx => h x (by simp [hx])]
  rw [if_neg (by omega)]; rfl
theorem pre_le {l : List FEv} (hs : l.Pairwise eLe) (hb : ∀ e ∈ l, e.2 = 1 ∨ e.2 = -1) {M : Int} (hM : 0 ≤ M) (h : ∀ e ∈ l, e.2 = 1 → atT l e.1 ≤ M) : ∀ j, j ≤ l.length → sumB (l.take j) ≤ M
 | 0, _ => by simpa [sumB] using hM
 | j + 1, hj => by
  have hj0 : j < l.length := by omega
  have ih := pre_le hs hb hM h j (by omega)
  have hsum : ∀ (a : List FEv) (e : FEv), sumB (a ++ [e]) = sumB a + e.2 := fun a e => by
   induction a with
   | nil => simp [sumB]
   | cons x a iha => simp only [List.cons_append, sumB, iha]; omega
  have et : l.take (j + 1) = l.take j ++ [l[j]] := List.take_succ_eq_append_getElem hj0
  rcases hb _ (List.getElem_mem hj0) with h1 | h1
  ·have hm := h _ (List.getElem_mem hj0) h1
   have hsp : atT l l[j].1 = atT (l.take (j + 1)) l[j].1 + atT (l.drop (j + 1)) l[j].1 := by rw [← atT_app, List.take_append_drop]
   rw [List.pairwise_iff_getElem] at hs
   have ha : atT (l.take (j + 1)) l[j].1 = sumB (l.take (j + 1)) := atT_all _ _ fun e he => by
    obtain ⟨p, hp, rfl⟩ := List.mem_iff_getElem.1 he
    rw [List.length_take] at hp
    rw [List.getElem_take]
    by_cases e : p = j
    ·subst e; exact Int.le_refl _
    ·have := hs p j (by omega) hj0 (by omega)
     unfold eLe at this; omega
   have hn : 0 ≤ atT (l.drop (j + 1)) l[j].1 := atT_nn _ _ fun e he hle => by
    obtain ⟨p, hp, rfl⟩ := List.mem_iff_getElem.1 he
    rw [List.length_drop] at hp
    rw [List.getElem_drop] at hle ⊢
    have := hs j (j + 1 + p) hj0 (by omega) (by omega)
    unfold eLe at this; omega
   omega
  ·rw [et, hsum]; omega
theorem pre_at {l : List FEv} (hs : l.Pairwise eLe) (t : Int) : ∃ j, j ≤ l.length ∧ sumB (l.take j) = atT l t := by
 induction l with
 | nil => exact ⟨0, Nat.le_refl _, rfl⟩
 | cons e l ih =>
  rw [List.pairwise_cons] at hs
  by_cases h : e.1 ≤ t
  ·obtain ⟨j, hj, ej⟩ := ih hs.2
   refine ⟨j + 1, by simpa using hj, ?_⟩
   simp only [List.take_succ_cons, sumB, atT, ej]
   rw [if_pos h]
  ·refine ⟨0, Nat.zero_le _, ?_⟩
   have := atT_zero l t fun x hx => by
    have := hs.1 x hx
    unfold eLe at this; omega
   simp only [List.take_zero, sumB, atT, this]
   rw [if_neg h]; rfl
theorem top_spec {l : List FEv} (hb : ∀ e ∈ l, e.2 = 1 ∨ e.2 = -1) {M : Int} (hM : 0 ≤ M) (h1 : ∀ e ∈ l, e.2 = 1 → atT l e.1 ≤ M) (h2 : M = 0 ∨ ∃ t, atT l t = M) : topE (esrt l) = M := by
 have hp := esrt_perm l
 have hs := esrt_pair l
 have hb' : ∀ e ∈ esrt l, e.2 = 1 ∨ e.2 = -1 := fun e he => hb e (hp.mem_iff.1 he)
 have hle := pre_le hs hb' hM fun e he h => by rw [atT_perm hp]; exact h1 e (hp.mem_iff.1 he) h
 have hge := topG_ge (esrt l) 0 0
 refine Int.le_antisymm (topG_le _ _ _ _ hM fun j hj => by have := hle (j + 1) (by omega); omega) ?_
 rcases h2 with rfl | ⟨t, ht⟩
 ·exact hge.1
 ·obtain ⟨j, hj, ej⟩ := pre_at hs t
  rw [atT_perm hp, ht] at ej
  cases j with
  | zero => simp only [List.take_zero, sumB] at ej; unfold topE; omega
  | succ j => have := hge.2 j (by omega); unfold topE; omega
end Go.Proofs.YtjjapdagllclkaaGreat.Tab

namespace Go.Proofs.YtjjapdagllclkaaGreat.Tab
open Go Go.Abs Go.Proofs
set_option maxRecDepth 100000
set_option maxHeartbeats 4000000
set_option linter.unusedSimpArgs false
set_option linter.unusedVariables false
section
attribute [local simp] frz_int frz_bool frz_vl frz_pv frz_agg frz_tup frz_fn frz_ref frz_sl frz_nils optAll orcF rb_int rb_bool rb_agg rb_tup rb_int' rb_bool' rb_vl rb_pv rb_yld rb_nilf rb_nilp rb_nils rb_any rb_und rb_ref rb_sl rb_fn slE chunk fillA evParts evParts3 putAt List.range_succ List.range_zero List.range'_succ List.range'_zero runX_nil' unary_not evalS_pure evAll_nil evAll_cons runX_cons stepX wantedA dop CV.ev putK_eq setK_eq appK_eq fA_eq fI_eq fN_eq fRow_eq fRows_eq nth_eq Out.v putT List.replicate_succ zT zB arI pointee Abs.rowAt ldRow allV toV toC ofV ofC Builtin.min_ Builtin.min2 Builtin.max_ Builtin.max2 min_if max_if resA tupA kill trim_self trim_len trim_emp trim_nil lenA
attribute [local simp] runD_nil' runD_cons' stepD actK_eq actD clash disj masks holes maskH unmaskH diffs news eqB allB eqA ldRowN wrote toCs ofCs stA rowsV_vl rowsV_nils rowsOf dI1 dI2 dI3 dI5 elt
attribute [local simp] st_any st_und st_agg st_tup st_bool st_int st_nilp st_ref st_pv st_nils st_sl st_vl st_nilm st_mp st_fn st_nilf st_yld co_any co_und co_agg co_tup co_bool co_int co_nilp co_ref co_pv co_nils co_sl co_vl co_nilm co_mp co_fn co_nilf co_yld
attribute [local simp] above backA backA1 callA calleeA flatAt flatBlk frNB_none frNB_row frN_agg frN_bool frN_int frN_nils frN_ref frN_sl frN_tup frN_vl frameE lop loud norm posOf ptrs rbB_none rbB_row renA setH
def rE2 (e : FEv) : List AVal := [I e.1, I e.2]
def dE2 : List AVal → Option FEv
  | [.int .i64 a, .int .i64 b] => some (a, b)
  | _ => none
theorem dE2_eq (r : List AVal) (e : FEv) (h : dE2 r = some e) : r = rE2 e := by
  unfold dE2 at h; split at h <;> simp at h
  subst h; rfl
theorem dE2_self (xs : List FEv) : optAll dE2 (xs.map rE2) = some xs := optAll_map (d := dE2) (enc := rE2) (fun _ => rfl) xs
theorem rE2_rb (n d : Nat) (xs : List FEv) : ((xs.map rE2).all fun r => r.all (rb n (d + 1))) = true := by
  rw [List.all_eq_true]
  intro r hr
  obtain ⟨e, _, rfl⟩ := List.mem_map.1 hr
  rfl
theorem frN_mapE (n : Nat) (h : Heap) (d : Nat) (xs : List FEv) : optAll (optAll (frN n h (d + 1))) (xs.map rE2) = some (xs.map rE2) := optAll_self _ fun r hr => optAll_self _ fun x hx => by
  obtain ⟨a, _, rfl⟩ := List.mem_map.1 hr
  simp only [rE2, List.mem_cons, List.not_mem_nil, or_false] at hx
  rcases hx with rfl | rfl <;> rfl
theorem W_e0 : W .i64 0 = 0 := by decide
theorem W_e1 : W .i64 1 = 1 := by decide
theorem W_e2 : W .i64 2 = 2 := by decide
attribute [local simp] W_e0 W_e1 W_e2
def oOr : List AVal → Option AVal
  | [.vl [[.int .i64 x], [.int .i64 y]] _] => some (I (if x = 0 then y else x))
  | _ => none
def oCmpE : List AVal → Option AVal
  | [.agg [.int .i64 a1, .int .i64 a2], .agg [.int .i64 b1, .int .i64 b2]] => if ((-1000000000 ≤ a1 ∧ a1 ≤ 1000000000) ∧ (-1000000000 ≤ a2 ∧ a2 ≤ 1000000000)) ∧ ((-1000000000 ≤ b1 ∧ b1 ≤ 1000000000) ∧ (-1000000000 ≤ b2 ∧ b2 ≤ 1000000000)) then some (I (cmpE (a1, a2) (b1, b2))) else none
  | _ => none
theorem a67 (P : Program) (T : Nat → Option CFn) (hT : T 67 = some c67) (x y : Int) (tt : Bool) : Answers P T 67 [.vl [[I x], [I y]] tt] [] fun v h => frz true h 5 v = some (I (if x = 0 then y else x)) := by
 refine answers_of hT (orcF_none rfl) ?_
 simp only [oo, om, op, og, ci, cl, c67]
 refine zS ?_
 refine zR (zO (by simp; rfl) ?_)
 simp only [zT, zB]
 refine zS ?_
 refine zR (zO (by simp; rfl) ?_)
 simp only [zT, zB]
 refine zS ?_
 refine zS ?_
 refine zR (zO (by simp; rfl) ?_)
 simp only [zT, zB]
 refine zL ?_
 refine runs_loop_inv (fun m σ => (m = 2 ∧ σ = ⟨[.any, .any, .any, I 0, .any, .any, .vl [[I x], [I y]] tt, I 2, I 0, .any, .any, .any, .any, .any, .any, .any, .any, .any], []⟩) ∨ (m = 1 ∧ x = 0 ∧ σ = ⟨[.any, .any, .any, I 0, .any, .any, .vl [[I x], [I y]] tt, I 2, I 1, .any, .any, .any, .any, .any, .any, .any, .any, .any], []⟩) ∨ (m = 0 ∧ x = 0 ∧ y = 0 ∧ σ = ⟨[.any, .any, .any, I 0, .any, .any, .vl [[I x], [I y]] tt, I 2, I 2, .any, .any, .any, .any, .any, .any, .any, .any, .any], []⟩)) ?_ 2 _ (.inl ⟨rfl, by simp⟩)
 intro m σ hI
 rcases hI with ⟨rfl, rfl⟩ | ⟨rfl, hx, rfl⟩ | ⟨rfl, hx, hy, rfl⟩
 ·refine zS ?_
  refine zR (zO (by simp; rfl) ?_)
  simp only [zT, zB]
  refine zS ?_
  refine runs_cond (x := true) (by simp) ?_
  refine zK ?_
  simp only [zT, zB]
  refine zS ?_
  refine zL ?_
  refine zS ?_
  refine zR (zO (by simp; rfl) ?_)
  simp only [zT, zB]
  refine zS ?_
  refine zR (zO (by simp; rfl) ?_)
  simp only [zT, zB]
  refine runs_cond_split (x := !(x == 0)) (by simp [bne]) (fun hx => ?_) (fun hx => ?_)
  ·have hx : ¬ x = 0 := by simpa using hx
   rw [if_neg hx]
   refine zS ?_
   refine zR (zO (by simp; rfl) ?_)
   simp only [zT, zB]
   refine runs_ret ?_
   simp
  ·have hx : x = 0 := by simpa using hx
   refine zK ?_
   simp only [zT, zB]
   refine zR (zO (by simp; rfl) ?_)
   simp only [zT, zB]
   exact ⟨1, by omega, .inr (.inl ⟨rfl, hx, by simp [trim]⟩)⟩
 ·subst hx
  rw [if_pos rfl]
  refine zS ?_
  refine zR (zO (by simp; rfl) ?_)
  simp only [zT, zB]
  refine zS ?_
  refine runs_cond (x := true) (by simp) ?_
  refine zK ?_
  simp only [zT, zB]
  refine zS ?_
  refine zL ?_
  refine zS ?_
  refine zR (zO (by simp; rfl) ?_)
  simp only [zT, zB]
  refine zS ?_
  refine zR (zO (by simp; rfl) ?_)
  simp only [zT, zB]
  refine runs_cond_split (x := !(y == 0)) (by simp [bne]) (fun hy => ?_) (fun hy => ?_)
  ·refine zS ?_
   refine zR (zO (by simp; rfl) ?_)
   simp only [zT, zB]
   refine runs_ret ?_
   simp
  ·have hy : y = 0 := by simpa using hy
   subst hy
   refine zK ?_
   simp only [zT, zB]
   refine zR (zO (by simp; rfl) ?_)
   simp only [zT, zB]
   exact ⟨0, by omega, .inr (.inr ⟨rfl, by simp, by simp, by simp [trim]⟩)⟩
 ·subst hx
  subst hy
  rw [if_pos rfl]
  refine zS ?_
  refine zR (zO (by simp; rfl) ?_)
  simp only [zT, zB]
  refine zS ?_
  refine runs_cond (x := false) (by simp) ?_
  refine runs_exit ?_
  simp only [zT, zB, if_true, if_false, reduceIte, Nat.reduceEqDiff, Nat.succ_ne_zero, Nat.one_ne_zero, Nat.zero_ne_one]
  refine zS ?_
  refine zR (zO (by simp; rfl) ?_)
  simp only [zT, zB]
  refine runs_ret ?_
  simp
noncomputable def FY1 : Nat → Option CFn := upd FT 67 true (oOr)
theorem FY1_ok : TabOk Tryz.prog GG FY1 := tab_add mixed FT_ok fun args v ho => by
  unfold oOr at ho; split at ho <;> (try simp only [reduceCtorEq] at ho)
  rename_i x y tt
  simp only [Option.some.injEq] at ho
  subst ho
  exact a67 Tryz.prog FT rfl x y tt
theorem a66 (P : Program) (T : Nat → Option CFn) (hT : T 66 = some c66) (h67 : T 67 = some { c67 with frsh := true, orc := oOr }) (a1 a2 b1 b2 : Int) (hg : ((-1000000000 ≤ a1 ∧ a1 ≤ 1000000000) ∧ (-1000000000 ≤ a2 ∧ a2 ≤ 1000000000)) ∧ ((-1000000000 ≤ b1 ∧ b1 ≤ 1000000000) ∧ (-1000000000 ≤ b2 ∧ b2 ≤ 1000000000))) : Answers P T 66 [.agg [I a1, I a2], .agg [I b1, I b2]] [] fun v h => frz true h 5 v = some (I (cmpE (a1, a2) (b1, b2))) := by
 have w1 : W .i64 (a1 - b1) = a1 - b1 := W_fit (by omega)
 have w2 : W .i64 (a2 - b2) = a2 - b2 := W_fit (by omega)
 refine answers_of hT (orcF_none rfl) ?_
 simp only [oo, om, op, og, ci, cl, c66]
 refine zS ?_
 refine zR (zO (by simp [zC h67, h67, oOr, w1, w2]; rfl) ?_)
 simp only [zT, zB]
 refine zS ?_
 refine zR (zO (by simp [zC h67, h67, oOr, w1, w2]; rfl) ?_)
 simp only [zT, zB]
 refine runs_ret ?_
 simp [zC h67, h67, oOr, w1, w2, cmpE]
noncomputable def FY2 : Nat → Option CFn := upd FY1 66 true (oCmpE)
theorem FY2_ok : TabOk Tryz.prog GG FY2 := tab_add mixed FY1_ok fun args v ho => by
  unfold oCmpE at ho; split at ho <;> (try simp at ho)
  rename_i a1 a2 b1 b2
  obtain ⟨hg, rfl⟩ := ho
  exact a66 Tryz.prog FY1 rfl rfl a1 a2 b1 b2 hg
theorem a135 (P : Program) (T : Nat → Option CFn) (hT : T 135 = some c135) (h66 : T 66 = some { c66 with frsh := true, orc := oCmpE }) (xs : List FEv) (hl : 1 ≤ xs.length ∧ xs.length ≤ 1000) (hbd : (∀ e ∈ xs, (-1000000000 ≤ e.1 ∧ e.1 ≤ 1000000000) ∧ (-1000000000 ≤ e.2 ∧ e.2 ≤ 1000000000))) :
  Answers P T 135 [.sl 0 0 xs.length false, I 0, I xs.length, .fn 66 [] []] [some (.row 2 (xs.map rE2))] fun v1 h1 => norm 1 v1 h1 = some (.tup [], [some (.row 2 ((esrt xs).map rE2))]) := by
 have hnl : xs.length ≤ 1048576 := by omega
 have w01 : W .i64 (0 + 1) = 1 := by decide
 refine answers_of hT (orcF_none rfl) ?_
 simp only [oo, om, op, og, ci, cl, c135]
 refine zS ?_
 refine zR (zO (by simp [zC h66, h66, oCmpE, -List.map_set, -List.getElem?_map, List.length_set, List.length_map, hnl, w01]; rfl) ?_)
 simp only [zT, zB]
 refine zL ?_
 refine runs_loop_inv (fun m σ => ∃ (k : Nat) (i : Int) (ys : List FEv), i = k ∧ xs.length - k = m ∧ 1 ≤ k ∧ k ≤ xs.length ∧ ys.Perm xs ∧ Asc eLe ys k ∧ σ = ⟨[.sl 0 0 xs.length false, I 0, I xs.length, .fn 66 [] [], .any, .any, .any, .any, I i, .any, .any, .any, .any, .any, .any, .any, .any, .any, .any, .any, .any, .any, .any, .any, .any, .any, .any, .any, .any, .any, .any, .any, .any, .any, .any, .any, .any, .any, .any, .any, .any, .any, .any, .any, .any, .any, .any, .any, .any, .any, .any, .any, .any], [some (.row 2 (ys.map rE2))]⟩) ?_ (xs.length - 1) _ ⟨1, 1, xs, rfl, rfl, Nat.le_refl _, by omega, .refl _, asc_one _, by simp⟩
 intro m σ hI
 obtain ⟨k, hI⟩ := hI
 obtain ⟨i, hI⟩ := hI
 obtain ⟨ys, hik, hm, hk1, hkl, hP, hA, hσ⟩ := hI
 subst hm
 subst hσ
 refine zS ?_
 refine zS ?_
 refine zR (zO (by simp [zC h66, h66, oCmpE, -List.map_set, -List.getElem?_map, List.length_set, List.length_map, hnl, w01]; rfl) ?_)
 simp only [zT, zB]
 refine runs_cond_split (x := decide (i < (xs.length : Int))) (by simp) (fun hlt => ?_) (fun hlt => ?_)
 ·have hlt := of_decide_eq_true hlt
  have hk0 : k < xs.length := by omega
  refine zK ?_
  simp only [zT, zB]
  refine zS ?_
  refine zL ?_
  refine zS ?_
  refine zR (zO (by simp [zC h66, h66, oCmpE, -List.map_set, -List.getElem?_map, List.length_set, List.length_map, hnl, w01]; rfl) ?_)
  simp only [zT, zB]
  refine zL ?_
  refine runs_loop_inv (fun mq σ => ∃ (p : Nat) (j : Int) (zs : List FEv), j = p ∧ p = mq ∧ p ≤ k ∧ zs.Perm xs ∧ AscBut eLe zs (k + 1) p ∧ σ = ⟨[.sl 0 0 xs.length false, I 0, I xs.length, .fn 66 [] [], .any, .any, .any, .any, I i, I j, .any, .any, .any, .any, .any, .any, .any, .any, .any, .any, .any, .any, .any, .any, .any, .any, .any, .any, .any, .any, .any, .any, .any, .any, .any, .any, .any, .any, .any, .any, .any, .any, .any, .any, .any, .any, .any, .any, .any, .any, .any, .any, .any], [some (.row 2 (zs.map rE2))]⟩) ?_ k _ ⟨k, i, ys, hik, rfl, Nat.le_refl _, hP, asc_but hA, by simp⟩
  intro mq σ hI
  obtain ⟨p, hI⟩ := hI
  obtain ⟨j, hI⟩ := hI
  obtain ⟨zs, hjp, hpm, hpk, hQ, hB, hσ⟩ := hI
  subst hpm
  subst hσ
  rcases p with _ | p
  ·obtain rfl : j = 0 := by omega
   refine zS ?_
   refine zS ?_
   refine runs_drw (by simp (maxSteps := 3000000) [zC h66, h66, oCmpE, -List.map_set, -List.getElem?_map, List.length_set, List.length_map, hnl, w01]; rfl) ?_
   simp only [zT, zB]
   refine runs_cond (x := false) (by simp) ?_
   refine runs_exit ?_
   simp only [zT, zB, if_true, if_false, reduceIte, Nat.reduceEqDiff, Nat.succ_ne_zero, Nat.one_ne_zero, Nat.zero_ne_one]
   refine zR (zO (by simp [zC h66, h66, oCmpE, -List.map_set, -List.getElem?_map, List.length_set, List.length_map, hnl, w01]; rfl) ?_)
   simp only [zT, zB]
   have hA2 : Asc eLe zs (k + 1) := but_stop eLe_trans hB (.inl rfl)
   have hwi : W .i64 (i + 1) = i + 1 := W_small (by omega)
   exact ⟨xs.length - (k + 1), by omega, k + 1, i + 1, zs, by omega, rfl, by omega, by omega, hQ, hA2, by simp [trim, hwi, ↓rE2_rb, zC h66, h66, oCmpE, -List.map_set, -List.getElem?_map, List.length_set, List.length_map, hnl, w01]⟩
  ·have hzl : zs.length = xs.length := hQ.length_eq
   have hp1 : p + 1 < zs.length := by omega
   have hp0 : p < zs.length := by omega
   have hgu : zs[p + 1]? = some zs[p + 1] := List.getElem?_eq_getElem hp1
   have hgv : zs[p]? = some zs[p] := List.getElem?_eq_getElem hp0
   have hbu := hbd _ (hQ.mem_iff.1 (List.getElem_mem hp1))
   have hbv := hbd _ (hQ.mem_iff.1 (List.getElem_mem hp0))
   have hj0 : 0 ≤ j := by omega
   have hj1 : 0 ≤ j - 1 := by omega
   have hjp : 0 < j := by omega
   have hjq : 1 ≤ j := by omega
   have htn : j.toNat = p + 1 := by omega
   have htm : (j - 1).toNat = p := by omega
   have hwj : W .i64 (j - 1) = j - 1 := W_small (by omega)
   have hjl : j < (xs.length : Int) := by omega
   have hjm : j - 1 < (xs.length : Int) := by omega
   have hpx : p + 1 < xs.length := by omega
   have hpy : p < xs.length := by omega
   generalize hU : zs[p + 1] = u at *
   generalize hV : zs[p] = v at *
   obtain ⟨u1, u2⟩ := u
   obtain ⟨v1, v2⟩ := v
   have gu : (zs.map rE2)[p + 1]? = some [I u1, I u2] := by rw [List.getElem?_map, hgu]; rfl
   have gv : (zs.map rE2)[p]? = some [I v1, I v2] := by rw [List.getElem?_map, hgv]; rfl
   have e1 : ((zs.map rE2).set (p + 1) [I v1, I v2]).set p [I u1, I u2] = ((zs.set (p + 1) (v1, v2)).set p (u1, u2)).map rE2 := by simp [List.map_set, rE2]
   have hcm : oCmpE [.agg [I u1, I u2], .agg [I v1, I v2]] = some (I (cmpE (u1, u2) (v1, v2))) := by simp only [oCmpE]; rw [if_pos ⟨hbu, hbv⟩]
   have hcl := cmpE_lt (u1, u2) (v1, v2)
   generalize cmpE (u1, u2) (v1, v2) = C at *
   have HH1 := zA h66 (zA hnl (zA w01 (zA hcm (zA hj0 (zA hj1 (zA hjp (zA hjq (zA htn (zA htm (zA hwj (zA hjl (zA hjm (zA hpx (zA hpy (zA hp1 (zA hp0 (zA hzl (zA gu (zA gv (zA hU (zA hV (zA hgu hgv))))))))))))))))))))))
   refine zS ?_
   refine zS ?_
   refine runs_drw (by simp (maxSteps := 3000000) [zC h66, -List.map_set, -List.getElem?_map, List.length_set, List.length_map, ↓e1, rE2, HH1]; rfl) ?_
   simp only [zT, zB]
   refine runs_cond_split (x := decide (C < 0)) (by simp) (fun hc => ?_) (fun hc => ?_)
   ·have hc := hcl.1 (of_decide_eq_true hc)
    refine zK ?_
    simp only [zT, zB]
    refine zS ?_
    refine zL ?_
    refine runs_drw (by simp (maxSteps := 3000000) [zC h66, -List.map_set, -List.getElem?_map, List.length_set, List.length_map, ↓e1, rE2, HH1]; rfl) ?_
    simp only [zT, zB]
    refine zR (zO (by simp [zC h66, -List.map_set, -List.getElem?_map, List.length_set, List.length_map, ↓e1, rE2, HH1]; rfl) ?_)
    simp only [zT, zB]
    have hB2 := but_step (j := p + 1) hB (by omega) (by omega) hgu hgv ((eLe_total _ _).resolve_right hc)
    have hQ2 := (swap_perm (j := p + 1) hgu hgv).trans hQ
    simp only [Nat.add_sub_cancel] at hB2 hQ2
    exact ⟨p, by omega, p, j - 1, _, by omega, rfl, by omega, hQ2, hB2, by simp [trim, ↓rE2_rb, zC h66, -List.map_set, -List.getElem?_map, List.length_set, List.length_map, ↓e1, rE2, HH1]⟩
   ·have hc : eLe (v1, v2) (u1, u2) := by
     have h0 := of_decide_eq_false hc
     by_cases h : eLe (v1, v2) (u1, u2)
     ·exact h
     ·exact absurd (hcl.2 h) h0
    refine runs_exit ?_
    simp only [zT, zB, if_true, if_false, reduceIte, Nat.reduceEqDiff, Nat.succ_ne_zero, Nat.one_ne_zero, Nat.zero_ne_one]
    refine zR (zO (by simp [zC h66, -List.map_set, -List.getElem?_map, List.length_set, List.length_map, ↓e1, rE2, HH1]; rfl) ?_)
    simp only [zT, zB]
    have hA2 : Asc eLe zs (k + 1) := but_stop eLe_trans hB (.inr fun a b ha hb => by simp only [Nat.add_sub_cancel] at hb; rw [hgu] at ha; rw [hgv] at hb; cases ha; cases hb; exact hc)
    have hwi : W .i64 (i + 1) = i + 1 := W_small (by omega)
    exact ⟨xs.length - (k + 1), by omega, k + 1, i + 1, zs, by omega, rfl, by omega, by omega, hQ, hA2, by simp [trim, hwi, ↓rE2_rb, zC h66, -List.map_set, -List.getElem?_map, List.length_set, List.length_map, ↓e1, rE2, HH1]⟩
 ·have hlt := of_decide_eq_false hlt
  have hkl : k = xs.length := by omega
  subst hkl
  have hyl := hP.length_eq
  have hfin := esrt_eq hP (asc_pair (by rw [hyl]; exact hA))
  rw [← hfin]
  refine runs_exit ?_
  simp only [zT, zB, if_true, if_false, reduceIte, Nat.reduceEqDiff, Nat.succ_ne_zero, Nat.one_ne_zero, Nat.zero_ne_one]
  simp [zC h66, h66, oCmpE, -List.map_set, -List.getElem?_map, List.length_set, List.length_map, hnl, w01, ↓frN_mapE]
theorem a135n (P : Program) (T : Nat → Option CFn) (hT : T 135 = some c135) :
  Answers P T 135 [.nils, I 0, I 0, .fn 66 [] []] [] fun v1 h1 => norm 0 v1 h1 = some (.tup [], []) := by
 have w01 : W .i64 (0 + 1) = 1 := by decide
 refine answers_of hT (orcF_none rfl) ?_
 simp only [oo, om, op, og, ci, cl, c135]
 refine zS ?_
 refine zR (zO (by simp [w01]; rfl) ?_)
 simp only [zT, zB]
 refine zL ?_
 refine runs_loop_inv (fun m σ => σ = ⟨[.nils, I 0, I 0, .fn 66 [] [], .any, .any, .any, .any, I 1, .any, .any, .any, .any, .any, .any, .any, .any, .any, .any, .any, .any, .any, .any, .any, .any, .any, .any, .any, .any, .any, .any, .any, .any, .any, .any, .any, .any, .any, .any, .any, .any, .any, .any, .any, .any, .any, .any, .any, .any, .any, .any, .any, .any], []⟩) ?_ 0 _ (by simp)
 rintro m σ rfl
 refine zS ?_
 refine zS ?_
 refine zR (zO (by simp [w01]; rfl) ?_)
 simp only [zT, zB]
 refine runs_cond (x := false) (by simp) ?_
 refine runs_exit ?_
 simp only [zT, zB, if_true, if_false, reduceIte, Nat.reduceEqDiff, Nat.succ_ne_zero, Nat.one_ne_zero, Nat.zero_ne_one]
 simp [w01]
def sInsE : List AVal → Heap → Option (AVal × Heap)
  | [.sl 0 0 n false, .int .i64 0, .int .i64 m, .fn 66 [] []], [some (.row 2 rs)] => match optAll dE2 rs with
    | some xs => if (1 ≤ xs.length ∧ xs.length ≤ 1000 ∧ n = xs.length ∧ m = xs.length) ∧ (∀ e ∈ xs, (-1000000000 ≤ e.1 ∧ e.1 ≤ 1000000000) ∧ (-1000000000 ≤ e.2 ∧ e.2 ≤ 1000000000)) then some (.tup [], [some (.row 2 ((esrt xs).map rE2))]) else none
    | none => none
  | [.nils, .int .i64 0, .int .i64 0, .fn 66 [] []], [] => some (.tup [], [])
  | _, _ => none
noncomputable def FY30 : Nat → Option CFn := upd FY2 135 false (fun _ => none)
theorem FY30_ok : TabOk Tryz.prog GG FY30 := tab_add mixed FY2_ok fun args v ho => by simp at ho
noncomputable def FY3 : Nat → Option CFn := updE FY30 135 (frameE sInsE)
theorem FY3_ok : TabOk Tryz.prog GG FY3 := tab_frame mixed FY30_ok fun args h v h' ho => by
  unfold sInsE at ho
  split at ho <;> (try simp only [reduceCtorEq] at ho)
  · rename_i n m rs
    split at ho <;> (try simp only [reduceCtorEq] at ho)
    rename_i xs hrs
    split at ho <;> (try simp only [reduceCtorEq] at ho)
    rename_i hg
    simp only [Option.some.injEq, Prod.mk.injEq] at ho
    obtain ⟨rfl, rfl⟩ := ho
    obtain rfl : rs = xs.map rE2 := optAll_eq (enc := rE2) dE2_eq hrs
    obtain ⟨⟨h1, h2, rfl, rfl⟩, h3⟩ := hg
    exact a135 Tryz.prog FY30 rfl rfl xs ⟨h1, h2⟩ h3
  · simp only [Option.some.injEq, Prod.mk.injEq] at ho
    obtain ⟨rfl, rfl⟩ := ho
    exact a135n Tryz.prog FY30 rfl
theorem insE_eq {xs : List FEv} (h : 1 ≤ xs.length ∧ xs.length ≤ 1000) (hb : (∀ e ∈ xs, (-1000000000 ≤ e.1 ∧ e.1 ≤ 1000000000) ∧ (-1000000000 ≤ e.2 ∧ e.2 ≤ 1000000000))) : sInsE [.sl 0 0 xs.length false, I 0, I xs.length, .fn 66 [] []] [some (.row 2 (xs.map rE2))] = some (.tup [], [some (.row 2 ((esrt xs).map rE2))]) := by
  simp only [sInsE, dE2_self]
  rw [if_pos ⟨⟨h.1, h.2, by trivial, by trivial⟩, hb⟩]
theorem insE_nil : sInsE [.nils, I 0, I 0, .fn 66 [] []] [] = some (.tup [], []) := rfl
theorem a103 (P : Program) (T : Nat → Option CFn) (hT : T 103 = some c103) (h135 : T 135 = some { c135 with frsh := false, orc := fun _ => none, eff := frameE sInsE }) (xs : List FEv) (hl : 1 ≤ xs.length ∧ xs.length ≤ 12) (hbd : (∀ e ∈ xs, (-1000000000 ≤ e.1 ∧ e.1 ≤ 1000000000) ∧ (-1000000000 ≤ e.2 ∧ e.2 ≤ 1000000000))) (d : Int) :
  Answers P T 103 [.sl 0 0 xs.length false, I 0, I xs.length, I d, .fn 66 [] []] [some (.row 2 (xs.map rE2))] fun v1 h1 => norm 1 v1 h1 = some (.tup [], [some (.row 2 ((esrt xs).map rE2))]) := by
 have hs := insE_eq (xs := xs) ⟨hl.1, by omega⟩ hbd
 have hwn : W .i64 (xs.length : Int) = xs.length := W_fit (by omega)
 refine answers_of hT (orcF_none rfl) ?_
 simp only [oo, om, op, og, ci, cl, c103]
 refine zS ?_
 refine zR (zO (by simp [callF_eff h135 rfl, h135, ↓orc_nil, hs, hwn, ↓rE2_rb, ↓frN_mapE]; rfl) ?_)
 simp only [zT, zB]
 refine zS ?_
 refine zR (zO (by simp [callF_eff h135 rfl, h135, ↓orc_nil, hs, hwn, ↓rE2_rb, ↓frN_mapE]; rfl) ?_)
 simp only [zT, zB]
 refine zL ?_
 refine runs_loop_inv (fun m σ => ∃ (u : Nat), u = m ∧ σ = ⟨[.sl 0 0 xs.length false, I 0, I xs.length, I d, .fn 66 [] [], .any, .any, .any, .any, .any, .bool true, .bool true, .any, .any, .any, .any, .any, .any, .any, .any, .any, .any, .any, .any, .any, .any, .any, .any, .any, .any, .any, .any, .any, .any, .any, .any, .any, .any, .any, .any, .any, .any, .any, .any, .any, .any, .any, .any, .any, .any, .any, .any, .any, .any, .any, .any, .any, .any, .any, .any, .any, .any, .any, .any, .any, .any, .any, .any, .any, .any, .any, .any, .any, .any, .any, .any, .any, .any, .any, .any, .any, .any, .any, .any, .any, .any, .any, .any, .any, .any, .any, .any, .any, .any, .any, .any, .any, .any, .any, .any, .any, .any, .any, .any, .any, .any, .any, .any, .any, .any, .any, .any, .any, .any, .any, .any, .any, .any, .any, .any, .any, .any, .any, .any, .any, .any, .any, .any, .any, .any, .any, .any, .any, .any, .any, .any, .any, .any, .any, .any, .any, .any, .any, .any, .any, .any, .any, .any], [some (.row 2 (xs.map rE2))]⟩) ?_ 0 _ ⟨0, rfl, by simp⟩
 rintro m σ ⟨u, rfl, rfl⟩
 refine zL ?_
 refine zS ?_
 refine zR (zO (by simp [callF_eff h135 rfl, h135, ↓orc_nil, hs, hwn, ↓rE2_rb, ↓frN_mapE]; rfl) ?_)
 simp only [zT, zB]
 refine zS ?_
 refine zS ?_
 refine zR (zO (by simp [callF_eff h135 rfl, h135, ↓orc_nil, hs, hwn, ↓rE2_rb, ↓frN_mapE]; rfl) ?_)
 simp only [zT, zB]
 refine runs_cond (x := true) (by simp; omega) ?_
 refine zS ?_
 refine zR (zO (by simp [callF_eff h135 rfl, h135, ↓orc_nil, hs, hwn, ↓rE2_rb, ↓frN_mapE]; rfl) ?_)
 simp only [zT, zB]
 refine runs_ret ?_
 simp [callF_eff h135 rfl, h135, ↓orc_nil, hs, hwn, ↓rE2_rb, ↓frN_mapE]
theorem a103n (P : Program) (T : Nat → Option CFn) (hT : T 103 = some c103) (h135 : T 135 = some { c135 with frsh := false, orc := fun _ => none, eff := frameE sInsE }) (d : Int) :
  Answers P T 103 [.nils, I 0, I 0, I d, .fn 66 [] []] [] fun v1 h1 => norm 0 v1 h1 = some (.tup [], []) := by
 have hs := insE_nil
 refine answers_of hT (orcF_none rfl) ?_
 simp only [oo, om, op, og, ci, cl, c103]
 refine zS ?_
 refine zR (zO (by simp [callF_eff h135 rfl, h135, ↓orc_nil, hs]; rfl) ?_)
 simp only [zT, zB]
 refine zS ?_
 refine zR (zO (by simp [callF_eff h135 rfl, h135, ↓orc_nil, hs]; rfl) ?_)
 simp only [zT, zB]
 refine zL ?_
 refine runs_loop_inv (fun m σ => σ = ⟨[.nils, I 0, I 0, I d, .fn 66 [] [], .any, .any, .any, .any, .any, .bool true, .bool true, .any, .any, .any, .any, .any, .any, .any, .any, .any, .any, .any, .any, .any, .any, .any, .any, .any, .any, .any, .any, .any, .any, .any, .any, .any, .any, .any, .any, .any, .any, .any, .any, .any, .any, .any, .any, .any, .any, .any, .any, .any, .any, .any, .any, .any, .any, .any, .any, .any, .any, .any, .any, .any, .any, .any, .any, .any, .any, .any, .any, .any, .any, .any, .any, .any, .any, .any, .any, .any, .any, .any, .any, .any, .any, .any, .any, .any, .any, .any, .any, .any, .any, .any, .any, .any, .any, .any, .any, .any, .any, .any, .any, .any, .any, .any, .any, .any, .any, .any, .any, .any, .any, .any, .any, .any, .any, .any, .any, .any, .any, .any, .any, .any, .any, .any, .any, .any, .any, .any, .any, .any, .any, .any, .any, .any, .any, .any, .any, .any, .any, .any, .any, .any, .any, .any, .any], []⟩) ?_ 0 _ (by simp)
 rintro m σ rfl
 refine zL ?_
 refine zS ?_
 refine zR (zO (by simp [callF_eff h135 rfl, h135, ↓orc_nil, hs]; rfl) ?_)
 simp only [zT, zB]
 refine zS ?_
 refine zS ?_
 refine zR (zO (by simp [callF_eff h135 rfl, h135, ↓orc_nil, hs]; rfl) ?_)
 simp only [zT, zB]
 refine runs_cond (x := true) (by simp) ?_
 refine zS ?_
 refine zR (zO (by simp [callF_eff h135 rfl, h135, ↓orc_nil, hs]; rfl) ?_)
 simp only [zT, zB]
 refine runs_ret ?_
 simp [callF_eff h135 rfl, h135, ↓orc_nil, hs]
def sPdqE : List AVal → Heap → Option (AVal × Heap)
  | [.sl 0 0 n false, .int .i64 0, .int .i64 m, .int .i64 _, .fn 66 [] []], [some (.row 2 rs)] => match optAll dE2 rs with
    | some xs => if (1 ≤ xs.length ∧ xs.length ≤ 12 ∧ n = xs.length ∧ m = xs.length) ∧ (∀ e ∈ xs, (-1000000000 ≤ e.1 ∧ e.1 ≤ 1000000000) ∧ (-1000000000 ≤ e.2 ∧ e.2 ≤ 1000000000)) then some (.tup [], [some (.row 2 ((esrt xs).map rE2))]) else none
    | none => none
  | [.nils, .int .i64 0, .int .i64 0, .int .i64 _, .fn 66 [] []], [] => some (.tup [], [])
  | _, _ => none
noncomputable def FY40 : Nat → Option CFn := upd FY3 103 false (fun _ => none)
theorem FY40_ok : TabOk Tryz.prog GG FY40 := tab_add mixed FY3_ok fun args v ho => by simp at ho
noncomputable def FY4 : Nat → Option CFn := updE FY40 103 (frameE sPdqE)
theorem FY4_ok : TabOk Tryz.prog GG FY4 := tab_frame mixed FY40_ok fun args h v h' ho => by
  unfold sPdqE at ho
  split at ho <;> (try simp only [reduceCtorEq] at ho)
  · rename_i n m d rs
    split at ho <;> (try simp only [reduceCtorEq] at ho)
    rename_i xs hrs
    split at ho <;> (try simp only [reduceCtorEq] at ho)
    rename_i hg
    simp only [Option.some.injEq, Prod.mk.injEq] at ho
    obtain ⟨rfl, rfl⟩ := ho
    obtain rfl : rs = xs.map rE2 := optAll_eq (enc := rE2) dE2_eq hrs
    obtain ⟨⟨h1, h2, rfl, rfl⟩, h3⟩ := hg
    exact a103 Tryz.prog FY40 rfl rfl xs ⟨h1, h2⟩ h3 d
  · rename_i d
    simp only [Option.some.injEq, Prod.mk.injEq] at ho
    obtain ⟨rfl, rfl⟩ := ho
    exact a103n Tryz.prog FY40 rfl rfl d
theorem pdqE_eq {xs : List FEv} (h : 1 ≤ xs.length ∧ xs.length ≤ 12) (hb : (∀ e ∈ xs, (-1000000000 ≤ e.1 ∧ e.1 ≤ 1000000000) ∧ (-1000000000 ≤ e.2 ∧ e.2 ≤ 1000000000))) (d : Int) : sPdqE [.sl 0 0 xs.length false, I 0, I xs.length, I d, .fn 66 [] []] [some (.row 2 (xs.map rE2))] = some (.tup [], [some (.row 2 ((esrt xs).map rE2))]) := by
  simp only [sPdqE, dE2_self]
  rw [if_pos ⟨⟨h.1, h.2, by trivial, by trivial⟩, hb⟩]
theorem pdqE_nil (d : Int) : sPdqE [.nils, I 0, I 0, I d, .fn 66 [] []] [] = some (.tup [], []) := rfl
theorem a65 (P : Program) (T : Nat → Option CFn) (hT : T 65 = some c65) (h103 : T 103 = some { c103 with frsh := false, orc := fun _ => none, eff := frameE sPdqE }) (h104 : T 104 = some { c104 with frsh := true, orc := oAt L104 }) (xs : List FEv) (hl : 1 ≤ xs.length ∧ xs.length ≤ 12) (hbd : (∀ e ∈ xs, (-1000000000 ≤ e.1 ∧ e.1 ≤ 1000000000) ∧ (-1000000000 ≤ e.2 ∧ e.2 ≤ 1000000000))) :
  Answers P T 65 [.sl 0 0 xs.length false, .fn 66 [] []] [some (.row 2 (xs.map rE2))] fun v1 h1 => norm 1 v1 h1 = some (.tup [], [some (.row 2 ((esrt xs).map rE2))]) := by
 obtain ⟨d, hd⟩ := bits_ex hl.2
 have hs := pdqE_eq hl hbd d
 have hwn : W .i64 (xs.length : Int) = xs.length := W_fit (by omega)
 have hwu : W .u64 (xs.length : Int) = xs.length := by simp only [W]; rw [if_pos (by omega)]
 refine answers_of hT (orcF_none rfl) ?_
 simp only [oo, om, op, og, ci, cl, c65]
 have HH1 := zA h104 (zA h103 (zA hs (zA hwn (zA hwu hd))))
 refine zS ?_
 refine zR (zO (by simp [zC h104, callF_eff h103 rfl, ↓orc_nil, ↓rE2_rb, ↓frN_mapE, HH1]; rfl) ?_)
 simp only [zT, zB]
 refine zR (zO (by simp [zC h104, callF_eff h103 rfl, ↓orc_nil, ↓rE2_rb, ↓frN_mapE, HH1]; rfl) ?_)
 simp only [zT, zB]
 simp [zC h104, callF_eff h103 rfl, ↓orc_nil, ↓rE2_rb, ↓frN_mapE, HH1]
theorem a65n (P : Program) (T : Nat → Option CFn) (hT : T 65 = some c65) (h103 : T 103 = some { c103 with frsh := false, orc := fun _ => none, eff := frameE sPdqE }) (h104 : T 104 = some { c104 with frsh := true, orc := oAt L104 }) :
  Answers P T 65 [.nils, .fn 66 [] []] [] fun v1 h1 => norm 0 v1 h1 = some (.tup [], []) := by
 obtain ⟨d, hd⟩ := bits_ex (Nat.zero_le 12)
 have hs := pdqE_nil d
 have hwu : W .u64 0 = 0 := by decide
 rw [show ((0 : Nat) : Int) = 0 by rfl] at hd
 refine answers_of hT (orcF_none rfl) ?_
 simp only [oo, om, op, og, ci, cl, c65]
 have HH1 := zA h104 (zA h103 (zA hs (zA hd hwu)))
 refine zS ?_
 refine zR (zO (by simp [zC h104, callF_eff h103 rfl, ↓orc_nil, HH1]; rfl) ?_)
 simp only [zT, zB]
 refine zR (zO (by simp [zC h104, callF_eff h103 rfl, ↓orc_nil, HH1]; rfl) ?_)
 simp only [zT, zB]
 simp [zC h104, callF_eff h103 rfl, ↓orc_nil, HH1]
def sSortE : List AVal → Heap → Option (AVal × Heap)
  | [.sl 0 0 n false, .fn 66 [] []], [some (.row 2 rs)] => match optAll dE2 rs with
    | some xs => if (1 ≤ xs.length ∧ xs.length ≤ 12 ∧ n = xs.length) ∧ (∀ e ∈ xs, (-1000000000 ≤ e.1 ∧ e.1 ≤ 1000000000) ∧ (-1000000000 ≤ e.2 ∧ e.2 ≤ 1000000000)) then some (.tup [], [some (.row 2 ((esrt xs).map rE2))]) else none
    | none => none
  | [.nils, .fn 66 [] []], [] => some (.tup [], [])
  | _, _ => none
noncomputable def FY50 : Nat → Option CFn := upd FY4 65 false (fun _ => none)
theorem FY50_ok : TabOk Tryz.prog GG FY50 := tab_add mixed FY4_ok fun args v ho => by simp at ho
noncomputable def FY5 : Nat → Option CFn := updE FY50 65 (frameE sSortE)
theorem FY5_ok : TabOk Tryz.prog GG FY5 := tab_frame mixed FY50_ok fun args h v h' ho => by
  unfold sSortE at ho
  split at ho <;> (try simp only [reduceCtorEq] at ho)
  · rename_i n rs
    split at ho <;> (try simp only [reduceCtorEq] at ho)
    rename_i xs hrs
    split at ho <;> (try simp only [reduceCtorEq] at ho)
    rename_i hg
    simp only [Option.some.injEq, Prod.mk.injEq] at ho
    obtain ⟨rfl, rfl⟩ := ho
    obtain rfl : rs = xs.map rE2 := optAll_eq (enc := rE2) dE2_eq hrs
    obtain ⟨⟨h1, h2, rfl⟩, h3⟩ := hg
    exact a65 Tryz.prog FY50 rfl rfl rfl xs ⟨h1, h2⟩ h3
  · simp only [Option.some.injEq, Prod.mk.injEq] at ho
    obtain ⟨rfl, rfl⟩ := ho
    exact a65n Tryz.prog FY50 rfl rfl rfl
theorem sortE_eq {xs : List FEv} (h : 1 ≤ xs.length ∧ xs.length ≤ 12) (hb : (∀ e ∈ xs, (-1000000000 ≤ e.1 ∧ e.1 ≤ 1000000000) ∧ (-1000000000 ≤ e.2 ∧ e.2 ≤ 1000000000))) : sSortE [.sl 0 0 xs.length false, .fn 66 [] []] [some (.row 2 (xs.map rE2))] = some (.tup [], [some (.row 2 ((esrt xs).map rE2))]) := by
  simp only [sSortE, dE2_self]
  rw [if_pos ⟨⟨h.1, h.2, by trivial⟩, hb⟩]
theorem sortE_nil : sSortE [.nils, .fn 66 [] []] [] = some (.tup [], []) := rfl
end
end Go.Proofs.YtjjapdagllclkaaGreat.Tab
