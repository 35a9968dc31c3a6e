/- The abstract machine: a function that answers with blocks of its own, where a full slice may be told as one of which nothing is said. No condition. -/
import Derived.Test.YtjjapdagllclkaaGreatRows
import Derived.Test.YtjjapdagllclkaaGreatChecked
import Derived.OpenShut
import Derived.JoinedOf
import Derived.Handed
import Derived.Test.YtjjapdagllclkaaGreatPzDFs
import Derived.Test.YtjjapdagllclkaaGreatPzBFs
import Derived.Test.YtjjapdagllclkaaGreatPzCFs
set_option linter.unusedSimpArgs false
set_option linter.unusedVariables false
namespace Go.Proofs.YtjjapdagllclkaaGreat.Tab
open Go Go.Abs Go.Proofs
set_option maxRecDepth 1000000
theorem oAt_good {P : Program} {G : Nat → Option (List AVal)} {f : Nat} {fr : Bool} : ∀ {L : List (List AVal × AVal)}, (∀ p ∈ L, OrcGood P G fr f p.1 p.2) → ∀ args v, oAt L args = some v → OrcGood P G fr f args v
  | [], _, args, v, h => by simp [oAt] at h
  | (A, R) :: L, hL, args, v, h => by
    simp only [oAt] at h
    split at h
    · rename_i he
      simp at h
      subst h
      rw [allB_eqA he]
      exact hL (A, R) (by simp)
    · exact oAt_good (fun p hp => hL p (by simp [hp])) args v h
def sPassK : List AVal → Heap → Option (AVal × Heap)
  | [.agg [.int .i64 m, c, t, j], .ref 0 0 0, .agg [.int .i64 kd, .int .i64 rd, .int .i64 du, v]], [some (.row 12 [r])] => match dInts2 c, dStops t, dJobs j, dInts v, dLine r with
    | some cs, some ts, some js, some ms, some l => if (shopE ⟨m, cs, ts⟩ js == 0) && lineB ⟨m, cs, ts⟩ 200000 l && decide (0 ≤ kd) && decide (kd < cs.length) && decide (0 ≤ rd) && decide (rd ≤ 200000) && ((ms.length : Int) == m) && (ms.all fun n => decide (0 ≤ n) && decide (n ≤ 10000)) then
        (match passC ⟨m, cs, ts⟩ l ⟨kd, rd, du, ms⟩ with
          | some r => some (.tup [.vl (r.1.map rI) false, I r.2.1], [some (.row 12 [lineC r.2.2])])
          | none => none) else none
    | _, _, _, _, _ => none
  | _, _ => none
noncomputable def FDK1 : Nat → Option CFn := updG FC1 102 [(229738, [.slot 6])] []
theorem FDK1_ok : TabOk Tryz.prog GG FDK1 := tab_updG FC1_ok
noncomputable def FDK2 : Nat → Option CFn := upd FDK1 102 false (fun _ => none)
theorem FDK2_ok : TabOk Tryz.prog GG FDK2 := tab_add mixed FDK1_ok fun args v ho => by simp at ho
noncomputable def FK0 : Nat → Option CFn := updE FDK2 102 (frameE sPassK)
theorem FK0_ok : TabOk Tryz.prog GG FK0 := tab_frame mixed FDK2_ok fun args h v h' ho => by
  unfold sPassK at ho
  split at ho <;> (try simp only [reduceCtorEq] at ho)
  rename_i m c t j kd rd du vv r
  split at ho <;> (try simp only [reduceCtorEq] at ho)
  rename_i cs ts js ms l hc ht hj hv hl
  split at ho <;> (try simp only [reduceCtorEq] at ho)
  rename_i hg
  split at ho <;> (try simp only [reduceCtorEq] at ho)
  rename_i rr hr
  simp only [Option.some.injEq, Prod.mk.injEq] at ho
  obtain ⟨rfl, rfl⟩ := ho
  obtain ⟨rfl, _⟩ := dLine_eq hl
  simp only [Bool.and_eq_true, beq_iff_eq, decide_eq_true_eq, List.all_eq_true] at hg
  obtain ⟨⟨⟨⟨⟨⟨⟨g1, g2⟩, g3⟩, g4⟩, g5⟩, g6⟩, g7⟩, g8⟩ := hg
  have e := passC_eq hr
  subst e
  exact a102 Tryz.prog FDK2 rfl rfl ⟨m, cs, ts⟩ js c t j hc ht hj kd rd du vv ms l hv ⟨shop_ok g1, lineB_ok g2, ⟨g3, g4⟩, ⟨g5, g6⟩, g7, g8⟩
noncomputable def kS : AVal := .agg [I 2, .vl [[.vl [[I 0], [I 10]] true], [.vl [[I 20], [I 0]] true]] true, .nils]
noncomputable def kJ90 : AVal := (.vl [[I 0, I 0, I 100, (.vl [[I (30)], [I (40)]] true)], [I 1, I 0, I 90, (.vl [[I (20)], [I (20)]] true)], [I 0, I 15, I 130, (.vl [[I (10)], [I (0)]] true)]] true)
noncomputable def kJ100 : AVal := (.vl [[I 0, I 0, I 100, (.vl [[I (30)], [I (40)]] true)], [I 1, I 0, I 100, (.vl [[I (20)], [I (20)]] true)], [I 0, I 15, I 130, (.vl [[I (10)], [I (0)]] true)]] true)
theorem k71_0 : isR (.tup [.nils, .agg [I 0, I 0]]) (callF FK0 (exec Tryz.prog FK0 1000) 71 [.agg [I 2, .vl [[.vl [[I 0], [I 10]] true], [.vl [[I 20], [I 0]] true]] true, .nils, .nils]] []) = true := by kernel_rfl
theorem k71_1 : isR (.tup [(.vl [[I (0)]] false), .agg [I 0, I 70]]) (callF FK0 (exec Tryz.prog FK0 1000) 71 [.agg [I 2, .vl [[.vl [[I 0], [I 10]] true], [.vl [[I 20], [I 0]] true]] true, .nils, (.vl [[I 0, I 0, I 100, (.vl [[I (30)], [I (40)]] true)]] false)]] []) = true := by kernel_rfl
theorem k71_2 : isR (.tup [(.vl [[I (0)]] false), .agg [I 0, I 40]]) (callF FK0 (exec Tryz.prog FK0 1000) 71 [.agg [I 2, .vl [[.vl [[I 0], [I 10]] true], [.vl [[I 20], [I 0]] true]] true, .nils, (.vl [[I 1, I 0, I 90, (.vl [[I (20)], [I (20)]] true)]] false)]] []) = true := by kernel_rfl
theorem k71_3 : isR (.tup [(.vl [[I (0)], [I (1)]] false), .agg [I 10, I 100]]) (callF FK0 (exec Tryz.prog FK0 1000) 71 [.agg [I 2, .vl [[.vl [[I 0], [I 10]] true], [.vl [[I 20], [I 0]] true]] true, .nils, (.vl [[I 0, I 0, I 100, (.vl [[I (30)], [I (40)]] true)], [I 1, I 0, I 90, (.vl [[I (20)], [I (20)]] true)]] false)]] []) = true := by kernel_rfl
theorem k71_4 : isR (.tup [(.vl [[I (0)]] false), .agg [I 0, I 25]]) (callF FK0 (exec Tryz.prog FK0 1000) 71 [.agg [I 2, .vl [[.vl [[I 0], [I 10]] true], [.vl [[I 20], [I 0]] true]] true, .nils, (.vl [[I 0, I 15, I 130, (.vl [[I (10)], [I (0)]] true)]] false)]] []) = true := by kernel_rfl
theorem k71_5 : isR (.tup [(.vl [[I (0)], [I (1)]] false), .agg [I 0, I 70]]) (callF FK0 (exec Tryz.prog FK0 1000) 71 [.agg [I 2, .vl [[.vl [[I 0], [I 10]] true], [.vl [[I 20], [I 0]] true]] true, .nils, (.vl [[I 0, I 0, I 100, (.vl [[I (30)], [I (40)]] true)], [I 0, I 15, I 130, (.vl [[I (10)], [I (0)]] true)]] false)]] []) = true := by kernel_rfl
theorem k71_6 : isR (.tup [(.vl [[I (0)], [I (1)]] false), .agg [I 0, I 50]]) (callF FK0 (exec Tryz.prog FK0 1000) 71 [.agg [I 2, .vl [[.vl [[I 0], [I 10]] true], [.vl [[I 20], [I 0]] true]] true, .nils, (.vl [[I 1, I 0, I 90, (.vl [[I (20)], [I (20)]] true)], [I 0, I 15, I 130, (.vl [[I (10)], [I (0)]] true)]] false)]] []) = true := by kernel_rfl
theorem k71_7 : isR (.tup [(.vl [[I (0)], [I (1)], [I (2)]] false), .agg [I 10, I 100]]) (callF FK0 (exec Tryz.prog FK0 1000) 71 [.agg [I 2, .vl [[.vl [[I 0], [I 10]] true], [.vl [[I 20], [I 0]] true]] true, .nils, (.vl [[I 0, I 0, I 100, (.vl [[I (30)], [I (40)]] true)], [I 1, I 0, I 90, (.vl [[I (20)], [I (20)]] true)], [I 0, I 15, I 130, (.vl [[I (10)], [I (0)]] true)]] false)]] []) = true := by kernel_rfl
theorem k71_8 : isR (.tup [(.vl [[I (0)], [I (1)], [I (2)]] false), .agg [I 10, I 100]]) (callF FK0 (exec Tryz.prog FK0 1000) 71 [.agg [I 2, .vl [[.vl [[I 0], [I 10]] true], [.vl [[I 20], [I 0]] true]] true, .nils, (.vl [[I 0, I 0, I 100, (.vl [[I (30)], [I (40)]] true)], [I 1, I 0, I 90, (.vl [[I (20)], [I (20)]] true)], [I 0, I 15, I 130, (.vl [[I (10)], [I (0)]] true)]] true)]] []) = true := by kernel_rfl
theorem k64_0 : isR (.nils) (callF FK0 (exec Tryz.prog FK0 1000) 64 [.agg [I 2, .vl [[.vl [[I 0], [I 10]] true], [.vl [[I 20], [I 0]] true]] true, .nils, (.vl [[I 0, I 0, I 100, (.vl [[I (30)], [I (40)]] true)], [I 1, I 0, I 100, (.vl [[I (20)], [I (20)]] true)], [I 0, I 15, I 130, (.vl [[I (10)], [I (0)]] true)]] true)], (.vl [[I (0)], [I (1)], [I (2)]] true)] []) = true := by kernel_rfl
theorem k64_1 : isR ((.vl [[I (0)], [I (1)]] false)) (callF FK0 (exec Tryz.prog FK0 1000) 64 [.agg [I 2, .vl [[.vl [[I 0], [I 10]] true], [.vl [[I 20], [I 0]] true]] true, (.vl [[I 1, I 60, I 70]] false), (.vl [[I 0, I 0, I 100, (.vl [[I (30)], [I (40)]] true)], [I 1, I 0, I 100, (.vl [[I (20)], [I (20)]] true)], [I 0, I 15, I 130, (.vl [[I (10)], [I (0)]] true)]] true)], (.vl [[I (0)], [I (1)], [I (2)]] true)] []) = true := by kernel_rfl
theorem k64_0_5000 : isR ((.vl [[I (0)], [I (1)], [I (2)]] false)) (callF FK0 (exec Tryz.prog FK0 1000) 64 [.agg [I 2, .vl [[.vl [[I 0], [I 10]] true], [.vl [[I 20], [I 0]] true]] true, .nils, (.vl [[I 0, I 5000, I 100, (.vl [[I (30)], [I (40)]] true)], [I 1, I 0, I 100, (.vl [[I (20)], [I (20)]] true)], [I 0, I 15, I 130, (.vl [[I (10)], [I (0)]] true)]] false)], (.vl [[I (0)], [I (1)], [I (2)]] true)] []) = true := by kernel_rfl
theorem k64_0_2500 : isR ((.vl [[I (0)], [I (1)], [I (2)]] false)) (callF FK0 (exec Tryz.prog FK0 1000) 64 [.agg [I 2, .vl [[.vl [[I 0], [I 10]] true], [.vl [[I 20], [I 0]] true]] true, .nils, (.vl [[I 0, I 2500, I 100, (.vl [[I (30)], [I (40)]] true)], [I 1, I 0, I 100, (.vl [[I (20)], [I (20)]] true)], [I 0, I 15, I 130, (.vl [[I (10)], [I (0)]] true)]] false)], (.vl [[I (0)], [I (1)], [I (2)]] true)] []) = true := by kernel_rfl
theorem k64_0_1250 : isR ((.vl [[I (0)], [I (1)], [I (2)]] false)) (callF FK0 (exec Tryz.prog FK0 1000) 64 [.agg [I 2, .vl [[.vl [[I 0], [I 10]] true], [.vl [[I 20], [I 0]] true]] true, .nils, (.vl [[I 0, I 1250, I 100, (.vl [[I (30)], [I (40)]] true)], [I 1, I 0, I 100, (.vl [[I (20)], [I (20)]] true)], [I 0, I 15, I 130, (.vl [[I (10)], [I (0)]] true)]] false)], (.vl [[I (0)], [I (1)], [I (2)]] true)] []) = true := by kernel_rfl
theorem k64_0_625 : isR ((.vl [[I (0)], [I (1)], [I (2)]] false)) (callF FK0 (exec Tryz.prog FK0 1000) 64 [.agg [I 2, .vl [[.vl [[I 0], [I 10]] true], [.vl [[I 20], [I 0]] true]] true, .nils, (.vl [[I 0, I 625, I 100, (.vl [[I (30)], [I (40)]] true)], [I 1, I 0, I 100, (.vl [[I (20)], [I (20)]] true)], [I 0, I 15, I 130, (.vl [[I (10)], [I (0)]] true)]] false)], (.vl [[I (0)], [I (1)], [I (2)]] true)] []) = true := by kernel_rfl
theorem k64_0_312 : isR ((.vl [[I (0)], [I (1)], [I (2)]] false)) (callF FK0 (exec Tryz.prog FK0 1000) 64 [.agg [I 2, .vl [[.vl [[I 0], [I 10]] true], [.vl [[I 20], [I 0]] true]] true, .nils, (.vl [[I 0, I 312, I 100, (.vl [[I (30)], [I (40)]] true)], [I 1, I 0, I 100, (.vl [[I (20)], [I (20)]] true)], [I 0, I 15, I 130, (.vl [[I (10)], [I (0)]] true)]] false)], (.vl [[I (0)], [I (1)], [I (2)]] true)] []) = true := by kernel_rfl
theorem k64_0_156 : isR ((.vl [[I (0)], [I (1)], [I (2)]] false)) (callF FK0 (exec Tryz.prog FK0 1000) 64 [.agg [I 2, .vl [[.vl [[I 0], [I 10]] true], [.vl [[I 20], [I 0]] true]] true, .nils, (.vl [[I 0, I 156, I 100, (.vl [[I (30)], [I (40)]] true)], [I 1, I 0, I 100, (.vl [[I (20)], [I (20)]] true)], [I 0, I 15, I 130, (.vl [[I (10)], [I (0)]] true)]] false)], (.vl [[I (0)], [I (1)], [I (2)]] true)] []) = true := by kernel_rfl
theorem k64_0_78 : isR ((.vl [[I (0)], [I (1)], [I (2)]] false)) (callF FK0 (exec Tryz.prog FK0 1000) 64 [.agg [I 2, .vl [[.vl [[I 0], [I 10]] true], [.vl [[I 20], [I 0]] true]] true, .nils, (.vl [[I 0, I 78, I 100, (.vl [[I (30)], [I (40)]] true)], [I 1, I 0, I 100, (.vl [[I (20)], [I (20)]] true)], [I 0, I 15, I 130, (.vl [[I (10)], [I (0)]] true)]] false)], (.vl [[I (0)], [I (1)], [I (2)]] true)] []) = true := by kernel_rfl
theorem k64_0_39 : isR ((.vl [[I (0)], [I (1)]] false)) (callF FK0 (exec Tryz.prog FK0 1000) 64 [.agg [I 2, .vl [[.vl [[I 0], [I 10]] true], [.vl [[I 20], [I 0]] true]] true, .nils, (.vl [[I 0, I 39, I 100, (.vl [[I (30)], [I (40)]] true)], [I 1, I 0, I 100, (.vl [[I (20)], [I (20)]] true)], [I 0, I 15, I 130, (.vl [[I (10)], [I (0)]] true)]] false)], (.vl [[I (0)], [I (1)], [I (2)]] true)] []) = true := by kernel_rfl
theorem k64_0_19 : isR ((.vl [[I (1)]] false)) (callF FK0 (exec Tryz.prog FK0 1000) 64 [.agg [I 2, .vl [[.vl [[I 0], [I 10]] true], [.vl [[I 20], [I 0]] true]] true, .nils, (.vl [[I 0, I 19, I 100, (.vl [[I (30)], [I (40)]] true)], [I 1, I 0, I 100, (.vl [[I (20)], [I (20)]] true)], [I 0, I 15, I 130, (.vl [[I (10)], [I (0)]] true)]] false)], (.vl [[I (0)], [I (1)], [I (2)]] true)] []) = true := by kernel_rfl
theorem k64_0_9 : isR ((.vl [[I (1)]] false)) (callF FK0 (exec Tryz.prog FK0 1000) 64 [.agg [I 2, .vl [[.vl [[I 0], [I 10]] true], [.vl [[I 20], [I 0]] true]] true, .nils, (.vl [[I 0, I 9, I 100, (.vl [[I (30)], [I (40)]] true)], [I 1, I 0, I 100, (.vl [[I (20)], [I (20)]] true)], [I 0, I 15, I 130, (.vl [[I (10)], [I (0)]] true)]] false)], (.vl [[I (0)], [I (1)], [I (2)]] true)] []) = true := by kernel_rfl
theorem k64_0_4 : isR ((.vl [[I (1)]] false)) (callF FK0 (exec Tryz.prog FK0 1000) 64 [.agg [I 2, .vl [[.vl [[I 0], [I 10]] true], [.vl [[I 20], [I 0]] true]] true, .nils, (.vl [[I 0, I 4, I 100, (.vl [[I (30)], [I (40)]] true)], [I 1, I 0, I 100, (.vl [[I (20)], [I (20)]] true)], [I 0, I 15, I 130, (.vl [[I (10)], [I (0)]] true)]] false)], (.vl [[I (0)], [I (1)], [I (2)]] true)] []) = true := by kernel_rfl
theorem k64_0_2 : isR ((.vl [[I (1)]] false)) (callF FK0 (exec Tryz.prog FK0 1000) 64 [.agg [I 2, .vl [[.vl [[I 0], [I 10]] true], [.vl [[I 20], [I 0]] true]] true, .nils, (.vl [[I 0, I 2, I 100, (.vl [[I (30)], [I (40)]] true)], [I 1, I 0, I 100, (.vl [[I (20)], [I (20)]] true)], [I 0, I 15, I 130, (.vl [[I (10)], [I (0)]] true)]] false)], (.vl [[I (0)], [I (1)], [I (2)]] true)] []) = true := by kernel_rfl
theorem k64_0_1 : isR ((.vl [[I (1)]] false)) (callF FK0 (exec Tryz.prog FK0 1000) 64 [.agg [I 2, .vl [[.vl [[I 0], [I 10]] true], [.vl [[I 20], [I 0]] true]] true, .nils, (.vl [[I 0, I 1, I 100, (.vl [[I (30)], [I (40)]] true)], [I 1, I 0, I 100, (.vl [[I (20)], [I (20)]] true)], [I 0, I 15, I 130, (.vl [[I (10)], [I (0)]] true)]] false)], (.vl [[I (0)], [I (1)], [I (2)]] true)] []) = true := by kernel_rfl
theorem k64_1_5000 : isR ((.vl [[I (1)], [I (2)]] false)) (callF FK0 (exec Tryz.prog FK0 1000) 64 [.agg [I 2, .vl [[.vl [[I 0], [I 10]] true], [.vl [[I 20], [I 0]] true]] true, .nils, (.vl [[I 0, I 0, I 100, (.vl [[I (30)], [I (40)]] true)], [I 1, I 5000, I 100, (.vl [[I (20)], [I (20)]] true)], [I 0, I 15, I 130, (.vl [[I (10)], [I (0)]] true)]] false)], (.vl [[I (0)], [I (1)], [I (2)]] true)] []) = true := by kernel_rfl
theorem k64_1_2500 : isR ((.vl [[I (1)], [I (2)]] false)) (callF FK0 (exec Tryz.prog FK0 1000) 64 [.agg [I 2, .vl [[.vl [[I 0], [I 10]] true], [.vl [[I 20], [I 0]] true]] true, .nils, (.vl [[I 0, I 0, I 100, (.vl [[I (30)], [I (40)]] true)], [I 1, I 2500, I 100, (.vl [[I (20)], [I (20)]] true)], [I 0, I 15, I 130, (.vl [[I (10)], [I (0)]] true)]] false)], (.vl [[I (0)], [I (1)], [I (2)]] true)] []) = true := by kernel_rfl
theorem k64_1_1250 : isR ((.vl [[I (1)], [I (2)]] false)) (callF FK0 (exec Tryz.prog FK0 1000) 64 [.agg [I 2, .vl [[.vl [[I 0], [I 10]] true], [.vl [[I 20], [I 0]] true]] true, .nils, (.vl [[I 0, I 0, I 100, (.vl [[I (30)], [I (40)]] true)], [I 1, I 1250, I 100, (.vl [[I (20)], [I (20)]] true)], [I 0, I 15, I 130, (.vl [[I (10)], [I (0)]] true)]] false)], (.vl [[I (0)], [I (1)], [I (2)]] true)] []) = true := by kernel_rfl
theorem k64_1_625 : isR ((.vl [[I (1)], [I (2)]] false)) (callF FK0 (exec Tryz.prog FK0 1000) 64 [.agg [I 2, .vl [[.vl [[I 0], [I 10]] true], [.vl [[I 20], [I 0]] true]] true, .nils, (.vl [[I 0, I 0, I 100, (.vl [[I (30)], [I (40)]] true)], [I 1, I 625, I 100, (.vl [[I (20)], [I (20)]] true)], [I 0, I 15, I 130, (.vl [[I (10)], [I (0)]] true)]] false)], (.vl [[I (0)], [I (1)], [I (2)]] true)] []) = true := by kernel_rfl
theorem k64_1_312 : isR ((.vl [[I (1)], [I (2)]] false)) (callF FK0 (exec Tryz.prog FK0 1000) 64 [.agg [I 2, .vl [[.vl [[I 0], [I 10]] true], [.vl [[I 20], [I 0]] true]] true, .nils, (.vl [[I 0, I 0, I 100, (.vl [[I (30)], [I (40)]] true)], [I 1, I 312, I 100, (.vl [[I (20)], [I (20)]] true)], [I 0, I 15, I 130, (.vl [[I (10)], [I (0)]] true)]] false)], (.vl [[I (0)], [I (1)], [I (2)]] true)] []) = true := by kernel_rfl
theorem k64_1_156 : isR ((.vl [[I (1)], [I (2)]] false)) (callF FK0 (exec Tryz.prog FK0 1000) 64 [.agg [I 2, .vl [[.vl [[I 0], [I 10]] true], [.vl [[I 20], [I 0]] true]] true, .nils, (.vl [[I 0, I 0, I 100, (.vl [[I (30)], [I (40)]] true)], [I 1, I 156, I 100, (.vl [[I (20)], [I (20)]] true)], [I 0, I 15, I 130, (.vl [[I (10)], [I (0)]] true)]] false)], (.vl [[I (0)], [I (1)], [I (2)]] true)] []) = true := by kernel_rfl
theorem k64_1_78 : isR ((.vl [[I (1)]] false)) (callF FK0 (exec Tryz.prog FK0 1000) 64 [.agg [I 2, .vl [[.vl [[I 0], [I 10]] true], [.vl [[I 20], [I 0]] true]] true, .nils, (.vl [[I 0, I 0, I 100, (.vl [[I (30)], [I (40)]] true)], [I 1, I 78, I 100, (.vl [[I (20)], [I (20)]] true)], [I 0, I 15, I 130, (.vl [[I (10)], [I (0)]] true)]] false)], (.vl [[I (0)], [I (1)], [I (2)]] true)] []) = true := by kernel_rfl
theorem k64_1_39 : isR (.nils) (callF FK0 (exec Tryz.prog FK0 1000) 64 [.agg [I 2, .vl [[.vl [[I 0], [I 10]] true], [.vl [[I 20], [I 0]] true]] true, .nils, (.vl [[I 0, I 0, I 100, (.vl [[I (30)], [I (40)]] true)], [I 1, I 39, I 100, (.vl [[I (20)], [I (20)]] true)], [I 0, I 15, I 130, (.vl [[I (10)], [I (0)]] true)]] false)], (.vl [[I (0)], [I (1)], [I (2)]] true)] []) = true := by kernel_rfl
theorem k64_1_58 : isR (.nils) (callF FK0 (exec Tryz.prog FK0 1000) 64 [.agg [I 2, .vl [[.vl [[I 0], [I 10]] true], [.vl [[I 20], [I 0]] true]] true, .nils, (.vl [[I 0, I 0, I 100, (.vl [[I (30)], [I (40)]] true)], [I 1, I 58, I 100, (.vl [[I (20)], [I (20)]] true)], [I 0, I 15, I 130, (.vl [[I (10)], [I (0)]] true)]] false)], (.vl [[I (0)], [I (1)], [I (2)]] true)] []) = true := by kernel_rfl
theorem k64_1_68 : isR ((.vl [[I (1)]] false)) (callF FK0 (exec Tryz.prog FK0 1000) 64 [.agg [I 2, .vl [[.vl [[I 0], [I 10]] true], [.vl [[I 20], [I 0]] true]] true, .nils, (.vl [[I 0, I 0, I 100, (.vl [[I (30)], [I (40)]] true)], [I 1, I 68, I 100, (.vl [[I (20)], [I (20)]] true)], [I 0, I 15, I 130, (.vl [[I (10)], [I (0)]] true)]] false)], (.vl [[I (0)], [I (1)], [I (2)]] true)] []) = true := by kernel_rfl
theorem k64_1_63 : isR ((.vl [[I (1)]] false)) (callF FK0 (exec Tryz.prog FK0 1000) 64 [.agg [I 2, .vl [[.vl [[I 0], [I 10]] true], [.vl [[I 20], [I 0]] true]] true, .nils, (.vl [[I 0, I 0, I 100, (.vl [[I (30)], [I (40)]] true)], [I 1, I 63, I 100, (.vl [[I (20)], [I (20)]] true)], [I 0, I 15, I 130, (.vl [[I (10)], [I (0)]] true)]] false)], (.vl [[I (0)], [I (1)], [I (2)]] true)] []) = true := by kernel_rfl
theorem k64_1_60 : isR (.nils) (callF FK0 (exec Tryz.prog FK0 1000) 64 [.agg [I 2, .vl [[.vl [[I 0], [I 10]] true], [.vl [[I 20], [I 0]] true]] true, .nils, (.vl [[I 0, I 0, I 100, (.vl [[I (30)], [I (40)]] true)], [I 1, I 60, I 100, (.vl [[I (20)], [I (20)]] true)], [I 0, I 15, I 130, (.vl [[I (10)], [I (0)]] true)]] false)], (.vl [[I (0)], [I (1)], [I (2)]] true)] []) = true := by kernel_rfl
theorem k64_1_61 : isR ((.vl [[I (1)]] false)) (callF FK0 (exec Tryz.prog FK0 1000) 64 [.agg [I 2, .vl [[.vl [[I 0], [I 10]] true], [.vl [[I 20], [I 0]] true]] true, .nils, (.vl [[I 0, I 0, I 100, (.vl [[I (30)], [I (40)]] true)], [I 1, I 61, I 100, (.vl [[I (20)], [I (20)]] true)], [I 0, I 15, I 130, (.vl [[I (10)], [I (0)]] true)]] false)], (.vl [[I (0)], [I (1)], [I (2)]] true)] []) = true := by kernel_rfl
noncomputable def kL71 : List (List AVal × AVal) := [([.agg [I 2, .vl [[.vl [[I 0], [I 10]] true], [.vl [[I 20], [I 0]] true]] true, .nils, .nils]], .tup [.nils, .agg [I 0, I 0]]), ([.agg [I 2, .vl [[.vl [[I 0], [I 10]] true], [.vl [[I 20], [I 0]] true]] true, .nils, (.vl [[I 0, I 0, I 100, (.vl [[I (30)], [I (40)]] true)]] false)]], .tup [(.vl [[I (0)]] false), .agg [I 0, I 70]]), ([.agg [I 2, .vl [[.vl [[I 0], [I 10]] true], [.vl [[I 20], [I 0]] true]] true, .nils, (.vl [[I 1, I 0, I 90, (.vl [[I (20)], [I (20)]] true)]] false)]], .tup [(.vl [[I (0)]] false), .agg [I 0, I 40]]), ([.agg [I 2, .vl [[.vl [[I 0], [I 10]] true], [.vl [[I 20], [I 0]] true]] true, .nils, (.vl [[I 0, I 0, I 100, (.vl [[I (30)], [I (40)]] true)], [I 1, I 0, I 90, (.vl [[I (20)], [I (20)]] true)]] false)]], .tup [(.vl [[I (0)], [I (1)]] false), .agg [I 10, I 100]]), ([.agg [I 2, .vl [[.vl [[I 0], [I 10]] true], [.vl [[I 20], [I 0]] true]] true, .nils, (.vl [[I 0, I 15, I 130, (.vl [[I (10)], [I (0)]] true)]] false)]], .tup [(.vl [[I (0)]] false), .agg [I 0, I 25]]), ([.agg [I 2, .vl [[.vl [[I 0], [I 10]] true], [.vl [[I 20], [I 0]] true]] true, .nils, (.vl [[I 0, I 0, I 100, (.vl [[I (30)], [I (40)]] true)], [I 0, I 15, I 130, (.vl [[I (10)], [I (0)]] true)]] false)]], .tup [(.vl [[I (0)], [I (1)]] false), .agg [I 0, I 70]]), ([.agg [I 2, .vl [[.vl [[I 0], [I 10]] true], [.vl [[I 20], [I 0]] true]] true, .nils, (.vl [[I 1, I 0, I 90, (.vl [[I (20)], [I (20)]] true)], [I 0, I 15, I 130, (.vl [[I (10)], [I (0)]] true)]] false)]], .tup [(.vl [[I (0)], [I (1)]] false), .agg [I 0, I 50]]), ([.agg [I 2, .vl [[.vl [[I 0], [I 10]] true], [.vl [[I 20], [I 0]] true]] true, .nils, (.vl [[I 0, I 0, I 100, (.vl [[I (30)], [I (40)]] true)], [I 1, I 0, I 90, (.vl [[I (20)], [I (20)]] true)], [I 0, I 15, I 130, (.vl [[I (10)], [I (0)]] true)]] false)]], .tup [(.vl [[I (0)], [I (1)], [I (2)]] false), .agg [I 10, I 100]]), ([.agg [I 2, .vl [[.vl [[I 0], [I 10]] true], [.vl [[I 20], [I 0]] true]] true, .nils, (.vl [[I 0, I 0, I 100, (.vl [[I (30)], [I (40)]] true)], [I 1, I 0, I 90, (.vl [[I (20)], [I (20)]] true)], [I 0, I 15, I 130, (.vl [[I (10)], [I (0)]] true)]] true)]], .tup [(.vl [[I (0)], [I (1)], [I (2)]] false), .agg [I 10, I 100]])]
noncomputable def FKa1 : Nat → Option CFn := upd FK0 71 true (oAt kL71)
theorem FKa1_ok : TabOk Tryz.prog GG FKa1 := tab_upd FK0_ok (oAt_good fun p hp => by
  simp only [kL71, List.mem_cons, List.not_mem_nil, or_false] at hp
  rcases hp with rfl | rfl | rfl | rfl | rfl | rfl | rfl | rfl | rfl
  · exact orc_of mixed FK0_ok (isR_answers k71_0)
  · exact orc_of mixed FK0_ok (isR_answers k71_1)
  · exact orc_of mixed FK0_ok (isR_answers k71_2)
  · exact orc_of mixed FK0_ok (isR_answers k71_3)
  · exact orc_of mixed FK0_ok (isR_answers k71_4)
  · exact orc_of mixed FK0_ok (isR_answers k71_5)
  · exact orc_of mixed FK0_ok (isR_answers k71_6)
  · exact orc_of mixed FK0_ok (isR_answers k71_7)
  · exact orc_of mixed FK0_ok (isR_answers k71_8))
noncomputable def kL64 : List (List AVal × AVal) := [([.agg [I 2, .vl [[.vl [[I 0], [I 10]] true], [.vl [[I 20], [I 0]] true]] true, .nils, (.vl [[I 0, I 0, I 100, (.vl [[I (30)], [I (40)]] true)], [I 1, I 0, I 100, (.vl [[I (20)], [I (20)]] true)], [I 0, I 15, I 130, (.vl [[I (10)], [I (0)]] true)]] true)], (.vl [[I (0)], [I (1)], [I (2)]] true)], .nils), ([.agg [I 2, .vl [[.vl [[I 0], [I 10]] true], [.vl [[I 20], [I 0]] true]] true, (.vl [[I 1, I 60, I 70]] false), (.vl [[I 0, I 0, I 100, (.vl [[I (30)], [I (40)]] true)], [I 1, I 0, I 100, (.vl [[I (20)], [I (20)]] true)], [I 0, I 15, I 130, (.vl [[I (10)], [I (0)]] true)]] true)], (.vl [[I (0)], [I (1)], [I (2)]] true)], (.vl [[I (0)], [I (1)]] false)), ([.agg [I 2, .vl [[.vl [[I 0], [I 10]] true], [.vl [[I 20], [I 0]] true]] true, .nils, (.vl [[I 0, I 5000, I 100, (.vl [[I (30)], [I (40)]] true)], [I 1, I 0, I 100, (.vl [[I (20)], [I (20)]] true)], [I 0, I 15, I 130, (.vl [[I (10)], [I (0)]] true)]] false)], (.vl [[I (0)], [I (1)], [I (2)]] true)], (.vl [[I (0)], [I (1)], [I (2)]] false)), ([.agg [I 2, .vl [[.vl [[I 0], [I 10]] true], [.vl [[I 20], [I 0]] true]] true, .nils, (.vl [[I 0, I 2500, I 100, (.vl [[I (30)], [I (40)]] true)], [I 1, I 0, I 100, (.vl [[I (20)], [I (20)]] true)], [I 0, I 15, I 130, (.vl [[I (10)], [I (0)]] true)]] false)], (.vl [[I (0)], [I (1)], [I (2)]] true)], (.vl [[I (0)], [I (1)], [I (2)]] false)), ([.agg [I 2, .vl [[.vl [[I 0], [I 10]] true], [.vl [[I 20], [I 0]] true]] true, .nils, (.vl [[I 0, I 1250, I 100, (.vl [[I (30)], [I (40)]] true)], [I 1, I 0, I 100, (.vl [[I (20)], [I (20)]] true)], [I 0, I 15, I 130, (.vl [[I (10)], [I (0)]] true)]] false)], (.vl [[I (0)], [I (1)], [I (2)]] true)], (.vl [[I (0)], [I (1)], [I (2)]] false)), ([.agg [I 2, .vl [[.vl [[I 0], [I 10]] true], [.vl [[I 20], [I 0]] true]] true, .nils, (.vl [[I 0, I 625, I 100, (.vl [[I (30)], [I (40)]] true)], [I 1, I 0, I 100, (.vl [[I (20)], [I (20)]] true)], [I 0, I 15, I 130, (.vl [[I (10)], [I (0)]] true)]] false)], (.vl [[I (0)], [I (1)], [I (2)]] true)], (.vl [[I (0)], [I (1)], [I (2)]] false)), ([.agg [I 2, .vl [[.vl [[I 0], [I 10]] true], [.vl [[I 20], [I 0]] true]] true, .nils, (.vl [[I 0, I 312, I 100, (.vl [[I (30)], [I (40)]] true)], [I 1, I 0, I 100, (.vl [[I (20)], [I (20)]] true)], [I 0, I 15, I 130, (.vl [[I (10)], [I (0)]] true)]] false)], (.vl [[I (0)], [I (1)], [I (2)]] true)], (.vl [[I (0)], [I (1)], [I (2)]] false)), ([.agg [I 2, .vl [[.vl [[I 0], [I 10]] true], [.vl [[I 20], [I 0]] true]] true, .nils, (.vl [[I 0, I 156, I 100, (.vl [[I (30)], [I (40)]] true)], [I 1, I 0, I 100, (.vl [[I (20)], [I (20)]] true)], [I 0, I 15, I 130, (.vl [[I (10)], [I (0)]] true)]] false)], (.vl [[I (0)], [I (1)], [I (2)]] true)], (.vl [[I (0)], [I (1)], [I (2)]] false)), ([.agg [I 2, .vl [[.vl [[I 0], [I 10]] true], [.vl [[I 20], [I 0]] true]] true, .nils, (.vl [[I 0, I 78, I 100, (.vl [[I (30)], [I (40)]] true)], [I 1, I 0, I 100, (.vl [[I (20)], [I (20)]] true)], [I 0, I 15, I 130, (.vl [[I (10)], [I (0)]] true)]] false)], (.vl [[I (0)], [I (1)], [I (2)]] true)], (.vl [[I (0)], [I (1)], [I (2)]] false)), ([.agg [I 2, .vl [[.vl [[I 0], [I 10]] true], [.vl [[I 20], [I 0]] true]] true, .nils, (.vl [[I 0, I 39, I 100, (.vl [[I (30)], [I (40)]] true)], [I 1, I 0, I 100, (.vl [[I (20)], [I (20)]] true)], [I 0, I 15, I 130, (.vl [[I (10)], [I (0)]] true)]] false)], (.vl [[I (0)], [I (1)], [I (2)]] true)], (.vl [[I (0)], [I (1)]] false)), ([.agg [I 2, .vl [[.vl [[I 0], [I 10]] true], [.vl [[I 20], [I 0]] true]] true, .nils, (.vl [[I 0, I 19, I 100, (.vl [[I (30)], [I (40)]] true)], [I 1, I 0, I 100, (.vl [[I (20)], [I (20)]] true)], [I 0, I 15, I 130, (.vl [[I (10)], [I (0)]] true)]] false)], (.vl [[I (0)], [I (1)], [I (2)]] true)], (.vl [[I (1)]] false)), ([.agg [I 2, .vl [[.vl [[I 0], [I 10]] true], [.vl [[I 20], [I 0]] true]] true, .nils, (.vl [[I 0, I 9, I 100, (.vl [[I (30)], [I (40)]] true)], [I 1, I 0, I 100, (.vl [[I (20)], [I (20)]] true)], [I 0, I 15, I 130, (.vl [[I (10)], [I (0)]] true)]] false)], (.vl [[I (0)], [I (1)], [I (2)]] true)], (.vl [[I (1)]] false)), ([.agg [I 2, .vl [[.vl [[I 0], [I 10]] true], [.vl [[I 20], [I 0]] true]] true, .nils, (.vl [[I 0, I 4, I 100, (.vl [[I (30)], [I (40)]] true)], [I 1, I 0, I 100, (.vl [[I (20)], [I (20)]] true)], [I 0, I 15, I 130, (.vl [[I (10)], [I (0)]] true)]] false)], (.vl [[I (0)], [I (1)], [I (2)]] true)], (.vl [[I (1)]] false)), ([.agg [I 2, .vl [[.vl [[I 0], [I 10]] true], [.vl [[I 20], [I 0]] true]] true, .nils, (.vl [[I 0, I 2, I 100, (.vl [[I (30)], [I (40)]] true)], [I 1, I 0, I 100, (.vl [[I (20)], [I (20)]] true)], [I 0, I 15, I 130, (.vl [[I (10)], [I (0)]] true)]] false)], (.vl [[I (0)], [I (1)], [I (2)]] true)], (.vl [[I (1)]] false)), ([.agg [I 2, .vl [[.vl [[I 0], [I 10]] true], [.vl [[I 20], [I 0]] true]] true, .nils, (.vl [[I 0, I 1, I 100, (.vl [[I (30)], [I (40)]] true)], [I 1, I 0, I 100, (.vl [[I (20)], [I (20)]] true)], [I 0, I 15, I 130, (.vl [[I (10)], [I (0)]] true)]] false)], (.vl [[I (0)], [I (1)], [I (2)]] true)], (.vl [[I (1)]] false)), ([.agg [I 2, .vl [[.vl [[I 0], [I 10]] true], [.vl [[I 20], [I 0]] true]] true, .nils, (.vl [[I 0, I 0, I 100, (.vl [[I (30)], [I (40)]] true)], [I 1, I 5000, I 100, (.vl [[I (20)], [I (20)]] true)], [I 0, I 15, I 130, (.vl [[I (10)], [I (0)]] true)]] false)], (.vl [[I (0)], [I (1)], [I (2)]] true)], (.vl [[I (1)], [I (2)]] false)), ([.agg [I 2, .vl [[.vl [[I 0], [I 10]] true], [.vl [[I 20], [I 0]] true]] true, .nils, (.vl [[I 0, I 0, I 100, (.vl [[I (30)], [I (40)]] true)], [I 1, I 2500, I 100, (.vl [[I (20)], [I (20)]] true)], [I 0, I 15, I 130, (.vl [[I (10)], [I (0)]] true)]] false)], (.vl [[I (0)], [I (1)], [I (2)]] true)], (.vl [[I (1)], [I (2)]] false)), ([.agg [I 2, .vl [[.vl [[I 0], [I 10]] true], [.vl [[I 20], [I 0]] true]] true, .nils, (.vl [[I 0, I 0, I 100, (.vl [[I (30)], [I (40)]] true)], [I 1, I 1250, I 100, (.vl [[I (20)], [I (20)]] true)], [I 0, I 15, I 130, (.vl [[I (10)], [I (0)]] true)]] false)], (.vl [[I (0)], [I (1)], [I (2)]] true)], (.vl [[I (1)], [I (2)]] false)), ([.agg [I 2, .vl [[.vl [[I 0], [I 10]] true], [.vl [[I 20], [I 0]] true]] true, .nils, (.vl [[I 0, I 0, I 100, (.vl [[I (30)], [I (40)]] true)], [I 1, I 625, I 100, (.vl [[I (20)], [I (20)]] true)], [I 0, I 15, I 130, (.vl [[I (10)], [I (0)]] true)]] false)], (.vl [[I (0)], [I (1)], [I (2)]] true)], (.vl [[I (1)], [I (2)]] false)), ([.agg [I 2, .vl [[.vl [[I 0], [I 10]] true], [.vl [[I 20], [I 0]] true]] true, .nils, (.vl [[I 0, I 0, I 100, (.vl [[I (30)], [I (40)]] true)], [I 1, I 312, I 100, (.vl [[I (20)], [I (20)]] true)], [I 0, I 15, I 130, (.vl [[I (10)], [I (0)]] true)]] false)], (.vl [[I (0)], [I (1)], [I (2)]] true)], (.vl [[I (1)], [I (2)]] false)), ([.agg [I 2, .vl [[.vl [[I 0], [I 10]] true], [.vl [[I 20], [I 0]] true]] true, .nils, (.vl [[I 0, I 0, I 100, (.vl [[I (30)], [I (40)]] true)], [I 1, I 156, I 100, (.vl [[I (20)], [I (20)]] true)], [I 0, I 15, I 130, (.vl [[I (10)], [I (0)]] true)]] false)], (.vl [[I (0)], [I (1)], [I (2)]] true)], (.vl [[I (1)], [I (2)]] false)), ([.agg [I 2, .vl [[.vl [[I 0], [I 10]] true], [.vl [[I 20], [I 0]] true]] true, .nils, (.vl [[I 0, I 0, I 100, (.vl [[I (30)], [I (40)]] true)], [I 1, I 78, I 100, (.vl [[I (20)], [I (20)]] true)], [I 0, I 15, I 130, (.vl [[I (10)], [I (0)]] true)]] false)], (.vl [[I (0)], [I (1)], [I (2)]] true)], (.vl [[I (1)]] false)), ([.agg [I 2, .vl [[.vl [[I 0], [I 10]] true], [.vl [[I 20], [I 0]] true]] true, .nils, (.vl [[I 0, I 0, I 100, (.vl [[I (30)], [I (40)]] true)], [I 1, I 39, I 100, (.vl [[I (20)], [I (20)]] true)], [I 0, I 15, I 130, (.vl [[I (10)], [I (0)]] true)]] false)], (.vl [[I (0)], [I (1)], [I (2)]] true)], .nils), ([.agg [I 2, .vl [[.vl [[I 0], [I 10]] true], [.vl [[I 20], [I 0]] true]] true, .nils, (.vl [[I 0, I 0, I 100, (.vl [[I (30)], [I (40)]] true)], [I 1, I 58, I 100, (.vl [[I (20)], [I (20)]] true)], [I 0, I 15, I 130, (.vl [[I (10)], [I (0)]] true)]] false)], (.vl [[I (0)], [I (1)], [I (2)]] true)], .nils), ([.agg [I 2, .vl [[.vl [[I 0], [I 10]] true], [.vl [[I 20], [I 0]] true]] true, .nils, (.vl [[I 0, I 0, I 100, (.vl [[I (30)], [I (40)]] true)], [I 1, I 68, I 100, (.vl [[I (20)], [I (20)]] true)], [I 0, I 15, I 130, (.vl [[I (10)], [I (0)]] true)]] false)], (.vl [[I (0)], [I (1)], [I (2)]] true)], (.vl [[I (1)]] false)), ([.agg [I 2, .vl [[.vl [[I 0], [I 10]] true], [.vl [[I 20], [I 0]] true]] true, .nils, (.vl [[I 0, I 0, I 100, (.vl [[I (30)], [I (40)]] true)], [I 1, I 63, I 100, (.vl [[I (20)], [I (20)]] true)], [I 0, I 15, I 130, (.vl [[I (10)], [I (0)]] true)]] false)], (.vl [[I (0)], [I (1)], [I (2)]] true)], (.vl [[I (1)]] false)), ([.agg [I 2, .vl [[.vl [[I 0], [I 10]] true], [.vl [[I 20], [I 0]] true]] true, .nils, (.vl [[I 0, I 0, I 100, (.vl [[I (30)], [I (40)]] true)], [I 1, I 60, I 100, (.vl [[I (20)], [I (20)]] true)], [I 0, I 15, I 130, (.vl [[I (10)], [I (0)]] true)]] false)], (.vl [[I (0)], [I (1)], [I (2)]] true)], .nils), ([.agg [I 2, .vl [[.vl [[I 0], [I 10]] true], [.vl [[I 20], [I 0]] true]] true, .nils, (.vl [[I 0, I 0, I 100, (.vl [[I (30)], [I (40)]] true)], [I 1, I 61, I 100, (.vl [[I (20)], [I (20)]] true)], [I 0, I 15, I 130, (.vl [[I (10)], [I (0)]] true)]] false)], (.vl [[I (0)], [I (1)], [I (2)]] true)], (.vl [[I (1)]] false))]
noncomputable def FKa2 : Nat → Option CFn := upd FKa1 64 true (oAt kL64)
theorem FKa2_ok : TabOk Tryz.prog GG FKa2 := tab_upd FKa1_ok (oAt_good fun p hp => by
  simp only [kL64, List.mem_cons, List.not_mem_nil, or_false] at hp
  rcases hp with rfl | rfl | rfl | rfl | rfl | rfl | rfl | rfl | rfl | rfl | rfl | rfl | rfl | rfl | rfl | rfl | rfl | rfl | rfl | rfl | rfl | rfl | rfl | rfl | rfl | rfl | rfl | rfl
  · exact orc_of mixed FK0_ok (isR_answers k64_0)
  · exact orc_of mixed FK0_ok (isR_answers k64_1)
  · exact orc_of mixed FK0_ok (isR_answers k64_0_5000)
  · exact orc_of mixed FK0_ok (isR_answers k64_0_2500)
  · exact orc_of mixed FK0_ok (isR_answers k64_0_1250)
  · exact orc_of mixed FK0_ok (isR_answers k64_0_625)
  · exact orc_of mixed FK0_ok (isR_answers k64_0_312)
  · exact orc_of mixed FK0_ok (isR_answers k64_0_156)
  · exact orc_of mixed FK0_ok (isR_answers k64_0_78)
  · exact orc_of mixed FK0_ok (isR_answers k64_0_39)
  · exact orc_of mixed FK0_ok (isR_answers k64_0_19)
  · exact orc_of mixed FK0_ok (isR_answers k64_0_9)
  · exact orc_of mixed FK0_ok (isR_answers k64_0_4)
  · exact orc_of mixed FK0_ok (isR_answers k64_0_2)
  · exact orc_of mixed FK0_ok (isR_answers k64_0_1)
  · exact orc_of mixed FK0_ok (isR_answers k64_1_5000)
  · exact orc_of mixed FK0_ok (isR_answers k64_1_2500)
  · exact orc_of mixed FK0_ok (isR_answers k64_1_1250)
  · exact orc_of mixed FK0_ok (isR_answers k64_1_625)
  · exact orc_of mixed FK0_ok (isR_answers k64_1_312)
  · exact orc_of mixed FK0_ok (isR_answers k64_1_156)
  · exact orc_of mixed FK0_ok (isR_answers k64_1_78)
  · exact orc_of mixed FK0_ok (isR_answers k64_1_39)
  · exact orc_of mixed FK0_ok (isR_answers k64_1_58)
  · exact orc_of mixed FK0_ok (isR_answers k64_1_68)
  · exact orc_of mixed FK0_ok (isR_answers k64_1_63)
  · exact orc_of mixed FK0_ok (isR_answers k64_1_60)
  · exact orc_of mixed FK0_ok (isR_answers k64_1_61))
theorem k43 : isR (.tup [.vl [[(.vl [[I (40)], [I (70)]] false)], [(.vl [[I (0)], [I (20)]] false)], [(.vl [[I (70)], [I (80)]] false)]] true, I 0]) (callF FA3 (exec Tryz.prog FA3 1000) 43 [kS, kJ90, (.vl [[I (1)], [I (0)], [I (2)]] true)] []) = true := by kernel_rfl
theorem k19 : isR (.tup [I 1, I 10, I 110, I 0]) (callF FA3 (exec Tryz.prog FA3 1000) 19 [kS, kJ90, (.vl [[I (1)], [I (0)], [I (2)]] true)] []) = true := by kernel_rfl
theorem k29 : isR (.tup [(.vl [[I (0)], [I (1)], [I (2)]] false), I 0]) (callF FK0 (exec Tryz.prog FK0 1000) 29 [kS, kJ90] []) = true := by kernel_rfl
theorem k33 : isR (.tup [(.vl [[I (0)], [I (1)]] false), I 0]) (callF FKa2 (exec Tryz.prog FKa2 1000) 33 [kS, kJ90] []) = true := by kernel_rfl
theorem k30 : isR (.tup [I 80, I 0]) (callF FA3 (exec Tryz.prog FA3 1000) 30 [kS, kJ90] []) = true := by kernel_rfl
theorem k20 : isR (.tup [(.vl [[I (2)], [I (1)]] false), I 0]) (callF FA3 (exec Tryz.prog FA3 1000) 20 [kS, kJ90, (.vl [[I (0)], [I (1)], [I (2)]] true)] []) = true := by kernel_rfl
theorem k38a : isR (.tup [I 0, I 0]) (callF FKa2 (exec Tryz.prog FKa2 1000) 38 [kS, kJ100, (.vl [[I (0)], [I (1)], [I (2)]] true), I 0] []) = true := by kernel_rfl
theorem k38b : isR (.tup [I 60, I 0]) (callF FKa2 (exec Tryz.prog FKa2 1000) 38 [kS, kJ100, (.vl [[I (0)], [I (1)], [I (2)]] true), I 1] []) = true := by kernel_rfl
theorem k35 : isR (.tup [(.vl [[I (0)], [I (1)]] false), I 0]) (callF FA3 (exec Tryz.prog FA3 1000) 35 [kS, kJ100, (.vl [[I (0)], [I (1)], [I (2)]] true), .agg [I 1, I 60, I 70]] []) = true := by kernel_rfl
noncomputable def kL43 : List (List AVal × AVal) := [([kS, kJ90, (.vl [[I (1)], [I (0)], [I (2)]] true)], .tup [.vl [[(.vl [[I (40)], [I (70)]] false)], [(.vl [[I (0)], [I (20)]] false)], [(.vl [[I (70)], [I (80)]] false)]] true, I 0])]
noncomputable def FKb1 : Nat → Option CFn := upd FA3 43 true (oAt kL43)
theorem FKb1_ok : TabOk Tryz.prog GG FKb1 := tab_upd FA3_ok (oAt_good fun p hp => by
  simp only [kL43, List.mem_cons, List.not_mem_nil, or_false] at hp
  subst hp
  exact orc_of mixed FA3_ok (isR_answers k43))
noncomputable def kL19 : List (List AVal × AVal) := [([kS, kJ90, (.vl [[I (1)], [I (0)], [I (2)]] true)], .tup [I 1, I 10, I 110, I 0])]
noncomputable def FKb2 : Nat → Option CFn := upd FKb1 19 true (oAt kL19)
theorem FKb2_ok : TabOk Tryz.prog GG FKb2 := tab_upd FKb1_ok (oAt_good fun p hp => by
  simp only [kL19, List.mem_cons, List.not_mem_nil, or_false] at hp
  subst hp
  exact orc_of mixed FA3_ok (isR_answers k19))
noncomputable def kL29 : List (List AVal × AVal) := [([kS, kJ90], .tup [(.vl [[I (0)], [I (1)], [I (2)]] false), I 0])]
noncomputable def FKb3 : Nat → Option CFn := upd FKb2 29 true (oAt kL29)
theorem FKb3_ok : TabOk Tryz.prog GG FKb3 := tab_upd FKb2_ok (oAt_good fun p hp => by
  simp only [kL29, List.mem_cons, List.not_mem_nil, or_false] at hp
  subst hp
  exact orc_of mixed FK0_ok (isR_answers k29))
noncomputable def kL33 : List (List AVal × AVal) := [([kS, kJ90], .tup [(.vl [[I (0)], [I (1)]] false), I 0])]
noncomputable def FKb4 : Nat → Option CFn := upd FKb3 33 true (oAt kL33)
theorem FKb4_ok : TabOk Tryz.prog GG FKb4 := tab_upd FKb3_ok (oAt_good fun p hp => by
  simp only [kL33, List.mem_cons, List.not_mem_nil, or_false] at hp
  subst hp
  exact orc_of mixed FKa2_ok (isR_answers k33))
noncomputable def kL30 : List (List AVal × AVal) := [([kS, kJ90], .tup [I 80, I 0])]
noncomputable def FKb5 : Nat → Option CFn := upd FKb4 30 true (oAt kL30)
theorem FKb5_ok : TabOk Tryz.prog GG FKb5 := tab_upd FKb4_ok (oAt_good fun p hp => by
  simp only [kL30, List.mem_cons, List.not_mem_nil, or_false] at hp
  subst hp
  exact orc_of mixed FA3_ok (isR_answers k30))
noncomputable def kL20 : List (List AVal × AVal) := [([kS, kJ90, (.vl [[I (0)], [I (1)], [I (2)]] true)], .tup [(.vl [[I (2)], [I (1)]] false), I 0])]
noncomputable def FKb6 : Nat → Option CFn := upd FKb5 20 true (oAt kL20)
theorem FKb6_ok : TabOk Tryz.prog GG FKb6 := tab_upd FKb5_ok (oAt_good fun p hp => by
  simp only [kL20, List.mem_cons, List.not_mem_nil, or_false] at hp
  subst hp
  exact orc_of mixed FA3_ok (isR_answers k20))
noncomputable def kL38 : List (List AVal × AVal) := [([kS, kJ100, (.vl [[I (0)], [I (1)], [I (2)]] true), I 0], .tup [I 0, I 0]), ([kS, kJ100, (.vl [[I (0)], [I (1)], [I (2)]] true), I 1], .tup [I 60, I 0])]
noncomputable def FKb7 : Nat → Option CFn := upd FKb6 38 true (oAt kL38)
theorem FKb7_ok : TabOk Tryz.prog GG FKb7 := tab_upd FKb6_ok (oAt_good fun p hp => by
  simp only [kL38, List.mem_cons, List.not_mem_nil, or_false] at hp
  rcases hp with rfl | rfl
  · exact orc_of mixed FKa2_ok (isR_answers k38a)
  · exact orc_of mixed FKa2_ok (isR_answers k38b))
noncomputable def kL35 : List (List AVal × AVal) := [([kS, kJ100, (.vl [[I (0)], [I (1)], [I (2)]] true), .agg [I 1, I 60, I 70]], .tup [(.vl [[I (0)], [I (1)]] false), I 0])]
noncomputable def FKb8 : Nat → Option CFn := upd FKb7 35 true (oAt kL35)
theorem FKb8_ok : TabOk Tryz.prog GG FKb8 := tab_upd FKb7_ok (oAt_good fun p hp => by
  simp only [kL35, List.mem_cons, List.not_mem_nil, or_false] at hp
  subst hp
  exact orc_of mixed FA3_ok (isR_answers k35))
theorem kn : isR (.bool true) (callF FKb8 (exec Tryz.prog FKb8 300) 15 [] []) = true := by kernel_rfl
def oKn : List AVal → Option AVal
  | [] => some (.bool true)
  | _ => none
theorem kn_good : ∀ args v, oKn args = some v → OrcGood Tryz.prog GG true 15 args v := fun args v ho => by
  unfold oKn at ho; split at ho <;> simp at ho
  subst ho
  exact orc_of mixed FKb8_ok (isR_answers kn)
end Go.Proofs.YtjjapdagllclkaaGreat.Tab

namespace Go.Proofs.YtjjapdagllclkaaGreat.Tab
open Go Go.Abs Go.Proofs
set_option maxRecDepth 100000
set_option maxHeartbeats 4000000
set_option linter.unusedSimpArgs false
set_option linter.unusedVariables false
section
attribute [local simp] frz_int frz_bool frz_vl frz_pv frz_agg frz_tup frz_fn frz_ref frz_sl frz_nils optAll orcF rb_int rb_bool rb_agg rb_tup rb_int' rb_bool' rb_vl rb_pv rb_yld rb_nilf rb_nilp rb_nils rb_any rb_und rb_ref rb_sl rb_fn slE chunk fillA evParts evParts3 putAt List.range_succ List.range_zero List.range'_succ List.range'_zero runX_nil' unary_not evalS_pure evAll_nil evAll_cons runX_cons stepX wantedA dop CV.ev putK_eq setK_eq appK_eq fA_eq fI_eq fN_eq fRow_eq fRows_eq nth_eq Out.v putT List.replicate_succ zT zB arI pointee Abs.rowAt ldRow allV toV toC ofV ofC Builtin.min_ Builtin.min2 Builtin.max_ Builtin.max2 min_if max_if resA tupA kill trim_self trim_len trim_emp trim_nil lenA
attribute [local simp] runD_nil' runD_cons' stepD actK_eq actD clash disj masks holes maskH unmaskH diffs news eqB allB eqA ldRowN wrote toCs ofCs stA rowsV_vl rowsV_nils rowsOf dI1 dI2 dI3 dI5 elt
attribute [local simp] st_any st_und st_agg st_tup st_bool st_int st_nilp st_ref st_pv st_nils st_sl st_vl st_nilm st_mp st_fn st_nilf st_yld co_any co_und co_agg co_tup co_bool co_int co_nilp co_ref co_pv co_nils co_sl co_vl co_nilm co_mp co_fn co_nilf co_yld
attribute [local simp] callA calleeA lim lop loud rbB_none rbB_row
noncomputable def FT1 : Nat → Option CFn := FP2
theorem FT1_ok : TabOk Tryz.prog GG FT1 := FP2_ok
noncomputable def FT2 : Nat → Option CFn := FT1
theorem FT2_ok : TabOk Tryz.prog GG FT2 := FT1_ok
noncomputable def FT3 : Nat → Option CFn := upd FT2 15 true oKn
theorem FT3_ok : TabOk Tryz.prog GG FT3 := tab_upd FT2_ok kn_good
noncomputable def FT_44 : Nat → Option CFn := FT3
theorem FT_44_ok : TabOk Tryz.prog GG FT_44 := FT3_ok
noncomputable def FT : Nat → Option CFn := FT_44
theorem FT_ok : TabOk Tryz.prog GG FT := FT_44_ok
end
end Go.Proofs.YtjjapdagllclkaaGreat.Tab

namespace Go.Proofs.YtjjapdagllclkaaGreat
open Go Go.Abs Go.Proofs Go.ChangeShapes Go.WideShapes Go.ChangeAt Go.RowKit
theorem own : ownKnob Tryz.prog.godebug = none := by kernel_rfl
theorem laidOut : laidOutB Tryz.prog = true := by kernel_rfl
theorem rows_of {x : AVal} {rs : List (List AVal)} (hx : x = .nils ∧ rs = [] ∨ ∃ t, x = .vl rs t) : rowsV x = some rs := by
  rcases hx with ⟨rfl, rfl⟩ | ⟨t, rfl⟩ <;> rfl
end Go.Proofs.YtjjapdagllclkaaGreat

namespace Go.Proofs.YtjjapdagllclkaaGreat
open Go Go.Abs Go.Proofs
theorem optAll_ex {α β : Type} {f : α → Option β} : ∀ {l : List α}, (∀ x ∈ l, ∃ a, f x = some a) → ∃ zs, optAll f l = some zs
  | [], _ => ⟨[], rfl⟩
  | x :: l, h => by
    obtain ⟨a, ha⟩ := h x (by simp)
    obtain ⟨zs, has⟩ := optAll_ex (l := l) fun y hy => h y (by simp [hy])
    exact ⟨a :: zs, by simp only [optAll, ha, has]⟩
theorem rows_ex {e : List Ly} {x : AVal} {β : Type} {f : List AVal → Option β} (h : Fits (.sl e) x) (hf : ∀ r, FitsR e r → ∃ a, f r = some a) : ∃ rs zs, rowsV x = some rs ∧ optAll f rs = some zs := by
  obtain ⟨rs, hx, hrs⟩ := fits_rows h
  obtain ⟨zs, has⟩ := optAll_ex fun r hr => hf r (hrs r hr)
  exact ⟨rs, zs, rows_of hx, has⟩
theorem fits_ints {x : AVal} (h : Fits (.sl [.int .i64]) x) : ∃ xs, Tab.dInts x = some xs := by
  obtain ⟨rs, zs, h1, h2⟩ := rows_ex (f := dI1) h fun r hr => by
    obtain ⟨y1, ys1, rfl, hy1, h1⟩ := fitsR_cons hr
    obtain ⟨n, rfl, _⟩ := fits_int hy1
    obtain rfl := fitsR_nil h1
    exact ⟨n, rfl⟩
  exact ⟨zs, by unfold Tab.dInts; rw [h1]; exact h2⟩
theorem fits_ints2 {x : AVal} (h : Fits (.sl [.sl [.int .i64]]) x) : ∃ xs, Tab.dInts2 x = some xs := by
  obtain ⟨rs, zs, h1, h2⟩ := rows_ex (f := Tab.dRow1) h fun r hr => by
    obtain ⟨y1, ys1, rfl, hy1, h1⟩ := fitsR_cons hr
    obtain ⟨n, hn⟩ := fits_ints hy1
    obtain rfl := fitsR_nil h1
    exact ⟨n, hn⟩
  exact ⟨zs, by unfold Tab.dInts2; rw [h1]; exact h2⟩
theorem fits_stops {x : AVal} (h : Fits (.sl [.int .i64, .int .i64, .int .i64]) x) : ∃ xs, Tab.dStops x = some xs := by
  obtain ⟨rs, zs, h1, h2⟩ := rows_ex (f := dI3) h fun r hr => by
    obtain ⟨y1, ys1, rfl, hy1, h1⟩ := fitsR_cons hr
    obtain ⟨n, rfl, _⟩ := fits_int hy1
    obtain ⟨y2, ys2, rfl, hy2, h2⟩ := fitsR_cons h1
    obtain ⟨m, rfl, _⟩ := fits_int hy2
    obtain ⟨y3, ys3, rfl, hy3, h3⟩ := fitsR_cons h2
    obtain ⟨k, rfl, _⟩ := fits_int hy3
    obtain rfl := fitsR_nil h3
    exact ⟨(n, m, k), rfl⟩
  exact ⟨zs, by unfold Tab.dStops; rw [h1]; exact h2⟩
theorem fits_jobs {x : AVal} (h : Fits (.sl [.int .i64, .int .i64, .int .i64, .sl [.int .i64]]) x) : ∃ xs, Tab.dJobs x = some xs := by
  obtain ⟨rs, zs, h1, h2⟩ := rows_ex (f := Tab.dJob) h fun r hr => by
    obtain ⟨y1, ys1, rfl, hy1, h1⟩ := fitsR_cons hr
    obtain ⟨n, rfl, _⟩ := fits_int hy1
    obtain ⟨y2, ys2, rfl, hy2, h2⟩ := fitsR_cons h1
    obtain ⟨m, rfl, _⟩ := fits_int hy2
    obtain ⟨y3, ys3, rfl, hy3, h3⟩ := fitsR_cons h2
    obtain ⟨k, rfl, _⟩ := fits_int hy3
    obtain ⟨y4, ys4, rfl, hy4, h4⟩ := fitsR_cons h3
    obtain ⟨ms, hms⟩ := fits_ints hy4
    obtain rfl := fitsR_nil h4
    exact ⟨⟨n, m, k, ms⟩, by simp only [Tab.dJob, hms]⟩
  exact ⟨zs, by unfold Tab.dJobs; rw [h1]; exact h2⟩
theorem fits_shop {xs : List AVal} (h : FitsR [.int .i64, .sl [.sl [.int .i64]], .sl [.int .i64, .int .i64, .int .i64]] xs) : ∃ (s : Tab.FShop) (c t : AVal), xs = [.int .i64 s.mach, c, t] ∧ Tab.dInts2 c = some s.chg ∧ Tab.dStops t = some s.stops := by
  obtain ⟨y, ys, rfl, hy, h1⟩ := fitsR_cons h
  obtain ⟨c, ys2, rfl, hc, h2⟩ := fitsR_cons h1
  obtain ⟨t, ys3, rfl, ht, h3⟩ := fitsR_cons h2
  obtain rfl := fitsR_nil h3
  obtain ⟨n, rfl, _⟩ := fits_int hy
  obtain ⟨cs, hcs⟩ := fits_ints2 hc
  obtain ⟨ts, hts⟩ := fits_stops ht
  exact ⟨⟨n, cs, ts⟩, c, t, rfl, hcs, hts⟩
end Go.Proofs.YtjjapdagllclkaaGreat

namespace Go.Proofs.YtjjapdagllclkaaGreat
open Go Go.Abs Go.Proofs
theorem fits_stopped {xs : List AVal} (h : FitsR [.sl [.int .i64], .int .i64, .int .i64, .int .i64] xs) : ∃ (o : AVal) (os : List Int) (a f u : Int), xs = [o, .int .i64 a, .int .i64 f, .int .i64 u] ∧ Tab.dInts o = some os := by
  obtain ⟨o, ys, rfl, ho, h1⟩ := fitsR_cons h
  obtain ⟨y1, ys1, rfl, hy1, h2⟩ := fitsR_cons h1
  obtain ⟨y2, ys2, rfl, hy2, h3⟩ := fitsR_cons h2
  obtain ⟨y3, ys3, rfl, hy3, h4⟩ := fitsR_cons h3
  obtain rfl := fitsR_nil h4
  obtain ⟨os, hos⟩ := fits_ints ho
  obtain ⟨a, rfl, _⟩ := fits_int hy1
  obtain ⟨f, rfl, _⟩ := fits_int hy2
  obtain ⟨u, rfl, _⟩ := fits_int hy3
  exact ⟨o, os, a, f, u, rfl, hos⟩
theorem fits_delayed {xs : List AVal} (h : FitsR [.sl [.int .i64], .int .i64] xs) : ∃ (o : AVal) (os : List Int) (i : Int), xs = [o, .int .i64 i] ∧ Tab.dInts o = some os := by
  obtain ⟨o, ys, rfl, ho, h1⟩ := fitsR_cons h
  obtain ⟨y1, ys1, rfl, hy1, h2⟩ := fitsR_cons h1
  obtain rfl := fitsR_nil h2
  obtain ⟨os, hos⟩ := fits_ints ho
  obtain ⟨i, rfl, _⟩ := fits_int hy1
  exact ⟨o, os, i, rfl, hos⟩
end Go.Proofs.YtjjapdagllclkaaGreat

namespace Go.Proofs.YtjjapdagllclkaaGreat.Tab
open Go Go.Abs Go.Proofs
set_option maxRecDepth 100000
set_option maxHeartbeats 4000000
set_option linter.unusedSimpArgs false
set_option linter.unusedVariables false
section
attribute [local simp] frz_int frz_bool frz_vl frz_pv frz_agg frz_tup frz_fn frz_ref frz_sl frz_nils optAll orcF rb_int rb_bool rb_agg rb_tup rb_int' rb_bool' rb_vl rb_pv rb_yld rb_nilf rb_nilp rb_nils rb_any rb_und rb_ref rb_sl rb_fn slE chunk fillA evParts evParts3 putAt List.range_succ List.range_zero List.range'_succ List.range'_zero runX_nil' unary_not evalS_pure evAll_nil evAll_cons runX_cons stepX wantedA dop CV.ev putK_eq setK_eq appK_eq fA_eq fI_eq fN_eq fRow_eq fRows_eq nth_eq Out.v putT List.replicate_succ zT zB arI pointee Abs.rowAt ldRow allV toV toC ofV ofC Builtin.min_ Builtin.min2 Builtin.max_ Builtin.max2 min_if max_if resA tupA kill trim_self trim_len trim_emp trim_nil lenA
attribute [local simp] runD_nil' runD_cons' stepD actK_eq actD clash disj masks holes maskH unmaskH diffs news eqB allB eqA ldRowN wrote toCs ofCs stA rowsV_vl rowsV_nils rowsOf dI1 dI2 dI3 dI5 elt
attribute [local simp] st_any st_und st_agg st_tup st_bool st_int st_nilp st_ref st_pv st_nils st_sl st_vl st_nilm st_mp st_fn st_nilf st_yld co_any co_und co_agg co_tup co_bool co_int co_nilp co_ref co_pv co_nils co_sl co_vl co_nilm co_mp co_fn co_nilf co_yld
attribute [local simp] callA calleeA lop loud rbB_none rbB_row
def oIn : List AVal → Option AVal
  | [.int .i64 n, .int .i64 a, .int .i64 b] => some (.bool (inI a n b))
  | _ => none
theorem a39 (P : Program) (T : Nat → Option CFn) (hT : T 39 = some c39) (n a b : Int) : Answers P T 39 [I n, I a, I b] [] fun v h => frz true h 5 v = some (.bool (inI a n b)) := by
 refine answers_of hT (orcF_none rfl) ?_
 simp only [oo, om, op, og, ci, cl, c39]
 by_cases hx : a ≤ n
 ·refine zS ?_
  refine zR (zO (by simp [hx]; rfl) ?_)
  simp only [zT, zB]
  refine zS ?_
  refine zR (zO (by simp [hx]; rfl) ?_)
  simp only [zT, zB]
  refine runs_ret ?_
  simp [hx, inI]
 ·refine zS ?_
  refine zR (zO (by simp [hx]; rfl) ?_)
  simp only [zT, zB]
  refine zS ?_
  refine zR (zO (by simp [hx]; rfl) ?_)
  simp only [zT, zB]
  refine runs_ret ?_
  simp [hx, inI]
noncomputable def FU1 : Nat → Option CFn := upd T 39 true (oIn)
theorem FU1_ok : TabOk Tryz.prog GG FU1 := tab_add mixed T_ok fun args v ho => by
  unfold oIn at ho; split at ho <;> simp at ho
  rename_i n a b
  subst ho
  exact a39 Tryz.prog T rfl  n a b
theorem a23 (P : Program) (T : Nat → Option CFn) (hT : T 23 = some c23) (x y : AVal) (xs : List Int) (hx : dInts x = some xs) (hy : dInts y = some xs) (hl : xs.length ≤ 1000) : Answers P T 23 [x, y] [] fun v h => frz true h 5 v = some (.bool true) := by
 have lx := dInts_len hx
 have ly := dInts_len hy
 refine answers_of hT (orcF_none rfl) ?_
 simp only [oo, om, op, og, ci, cl, c23]
 refine zS ?_
 refine zR (zO (by simp [lx, ly, -lenA]; rfl) ?_)
 simp only [zT, zB]
 refine zS ?_
 refine zS ?_
 refine zR (zO (by simp [lx, ly, -lenA]; rfl) ?_)
 simp only [zT, zB]
 refine runs_cond (x := false) (by simp) ?_
 refine zK ?_
 simp only [zT, zB]
 refine zS ?_
 refine zS ?_
 refine zR (zO (by simp [lx, ly, -lenA]; rfl) ?_)
 simp only [zT, zB]
 refine zL ?_
 refine runs_loop_inv (fun m σ => ∃ (k : Nat) (i : Int), i = k ∧ xs.length - k = m ∧ k ≤ xs.length ∧ σ = ⟨[x, y, .any, .any, .any, I i, .any, .any, .any, .any, .any, .any, .any, .any, .any, .any, .any, .any, .any, .any, .any, .any, .any, .any, .any, .any], []⟩) ?_ (xs.length - 0) _ ⟨0, 0, rfl, rfl, Nat.zero_le _, by simp⟩
 rintro m σ ⟨k, i, hik, rfl, hkl, rfl⟩
 refine zS ?_
 refine zS ?_
 refine zR (zO (by simp [lx, ly, -lenA]; rfl) ?_)
 simp only [zT, zB]
 refine runs_cond_split (x := decide (i < (xs.length : Int))) (by simp) (fun hlt => ?_) (fun hlt => ?_)
 ·have hlt := of_decide_eq_true hlt
  have hk0 : k < xs.length := by omega
  obtain ⟨t1, rfl⟩ := dInts_get hx hk0
  obtain ⟨t2, rfl⟩ := dInts_get hy hk0
  have hi0 : 0 ≤ i := by omega
  have htn : i.toNat = k := by omega
  have hwi : W .i64 (i + 1) = i + 1 := W_small (by omega)
  generalize hs : xs[k] = s at *
  have HH1 := zA lx (zA ly (zA hi0 (zA htn (zA hk0 (zA hs hwi)))))
  refine zK ?_
  simp only [zT, zB]
  refine zS ?_
  refine zL ?_
  refine zS ?_
  refine runs_drw (by simp (maxSteps := 3000000) [-lenA, rI, HH1]; rfl) ?_
  simp only [zT, zB]
  refine runs_cond (x := false) (by simp) ?_
  refine zK ?_
  simp only [zT, zB]
  refine zR (zO (by simp [-lenA, rI, HH1]; rfl) ?_)
  simp only [zT, zB]
  exact ⟨xs.length - (k + 1), by omega, k + 1, i + 1, by omega, rfl, by omega, by simp [-lenA, rI, HH1]⟩
 ·refine runs_exit ?_
  simp only [zT, zB, if_true, if_false, reduceIte, Nat.reduceEqDiff, Nat.succ_ne_zero, Nat.one_ne_zero, Nat.zero_ne_one]
  refine zS ?_
  refine zR (zO (by simp [lx, ly, -lenA]; rfl) ?_)
  simp only [zT, zB]
  refine runs_ret ?_
  simp [lx, ly, -lenA]
def oIntsEq : List AVal → Option AVal
  | [x, y] => match dInts x, dInts y with
    | some xs, some ys => if xs = ys ∧ xs.length ≤ 1000 then some (.bool true) else none
    | _, _ => none
  | _ => none
theorem intsEq_eq {x y : AVal} {xs : List Int} (hx : dInts x = some xs) (hy : dInts y = some xs) (hl : xs.length ≤ 1000) : oIntsEq [x, y] = some (.bool true) := by
  simp only [oIntsEq, hx, hy, hl, and_self, if_true]
noncomputable def FU2 : Nat → Option CFn := upd FU1 23 true (oIntsEq)
theorem FU2_ok : TabOk Tryz.prog GG FU2 := tab_add mixed FU1_ok fun args v ho => by
  unfold oIntsEq at ho; split at ho <;> (try simp only [reduceCtorEq] at ho)
  rename_i x y
  split at ho <;> (try simp only [reduceCtorEq] at ho)
  rename_i xs ys hx hy
  split at ho <;> (try simp only [reduceCtorEq] at ho)
  rename_i hg
  simp only [Option.some.injEq] at ho
  subst ho
  obtain ⟨rfl, hl⟩ := hg
  exact a23 Tryz.prog FU1 rfl x y xs hx hy hl
theorem a22 (P : Program) (T : Nat → Option CFn) (hT : T 22 = some c22) (h23 : T 23 = some { c23 with frsh := true, orc := oIntsEq }) (js : List FJob) (j j2 : AVal) (hj : dJobs j = some js) (hj2 : dJobs j2 = some js) (hl : js.length ≤ 1000) (hm : ∀ x ∈ js, x.mins.length ≤ 1000) : Answers P T 22 [j, j2] [] fun v h => frz true h 5 v = some (.bool true) := by
 have lj := dJobs_len hj
 have lj2 := dJobs_len hj2
 have fj := fun H d => dJobs_frz hj H d
 have fj2 := fun H d => dJobs_frz hj2 H d
 have rj := fun n d => dJobs_rb hj n d
 have rj2 := fun n d => dJobs_rb hj2 n d
 refine answers_of hT (orcF_none rfl) ?_
 simp only [oo, om, op, og, ci, cl, c22]
 have HH1 := zA h23 (zA lj (zA lj2 (zA fj (zA fj2 (zA rj rj2)))))
 refine zS ?_
 refine zR (zO (by simp [zC h23, -lenA, HH1]; rfl) ?_)
 simp only [zT, zB]
 refine zS ?_
 refine zS ?_
 refine zR (zO (by simp [zC h23, -lenA, HH1]; rfl) ?_)
 simp only [zT, zB]
 refine runs_cond (x := false) (by simp) ?_
 refine zK ?_
 simp only [zT, zB]
 refine zS ?_
 refine zS ?_
 refine zR (zO (by simp [zC h23, -lenA, HH1]; rfl) ?_)
 simp only [zT, zB]
 refine zL ?_
 refine runs_loop_inv (fun m σ => ∃ (k : Nat) (i : Int), i = k ∧ js.length - k = m ∧ k ≤ js.length ∧ σ = ⟨[j, j2, .any, .any, .any, I i, .any, .any, .any, .any, .any, .any, .any, .any, .any, .any, .any, .any, .any, .any, .any, .any, .any, .any, .any, .any, .any, .any, .any, .any, .any, .any, .any, .any, .any, .any, .any, .any, .any, .any, .any, .any, .any, .any, .any, .any, .any, .any, .any, .any, .any, .any, .any, .any, .any, .any, .any, .any, .any, .any, .any, .any, .any, .any, .any, .any, .any, .any], []⟩) ?_ (js.length - 0) _ ⟨0, 0, rfl, rfl, Nat.zero_le _, by simp⟩
 rintro m σ ⟨k, i, hik, rfl, hkl, rfl⟩
 refine zS ?_
 refine zS ?_
 refine zR (zO (by simp [zC h23, -lenA, HH1]; rfl) ?_)
 simp only [zT, zB]
 refine runs_cond_split (x := decide (i < (js.length : Int))) (by simp) (fun hlt => ?_) (fun hlt => ?_)
 ·have hlt := of_decide_eq_true hlt
  have hk0 : k < js.length := by omega
  have hi0 : 0 ≤ i := by omega
  have htn : i.toNat = k := by omega
  have hwi : W .i64 (i + 1) = i + 1 := W_small (by omega)
  obtain ⟨jr, tj, wv, rfl, hr1, hr2, hwv⟩ := dJobs_get hj hk0
  have hkr : k < jr.length := by omega
  have hr4 : ∀ h, jr[k]'h = [I js[k].kind, I js[k].ready, I js[k].due, wv] := fun h => by rw [List.getElem?_eq_getElem h] at hr2; exact Option.some.inj hr2
  have rw5 := fun n d => dInts_rb hwv n d
  have fw5 := fun H d => dInts_frz hwv H d
  have lw5 := dInts_len hwv
  obtain ⟨cw1, cw2⟩ := dInts_cells hwv
  obtain ⟨jrz, tjz, wvz, rfl, hr1z, hr2z, hwvz⟩ := dJobs_get hj2 hk0
  have hkrz : k < jrz.length := by omega
  have hr4z : ∀ h, jrz[k]'h = [I js[k].kind, I js[k].ready, I js[k].due, wvz] := fun h => by rw [List.getElem?_eq_getElem h] at hr2z; exact Option.some.inj hr2z
  have rw5z := fun n d => dInts_rb hwvz n d
  have fw5z := fun H d => dInts_frz hwvz H d
  have lw5z := dInts_len hwvz
  obtain ⟨cw1z, cw2z⟩ := dInts_cells hwvz
  have hml := hm _ (List.getElem_mem hk0)
  have hq := intsEq_eq hwv hwvz hml
  generalize hJk : js[k] = J at *
  obtain ⟨Jk, Jr, Jd, Jm⟩ := J
  have HH2 := zA hi0 (zA htn (zA hk0 (zA hwi (zA hq (zA hkr (zA hr2 (zA hr4 (zA rw5 (zA fw5 (zA lw5 (zA cw1 (zA cw2 (zA hkrz (zA hr2z (zA hr4z (zA rw5z (zA fw5z (zA lw5z (zA cw1z cw2z)))))))))))))))))))
  refine zK ?_
  simp only [zT, zB]
  refine zS ?_
  refine zL ?_
  refine zS ?_
  refine runs_drw (by simp (maxSteps := 3000000) [zC h23, -lenA, HH1, HH2]; rfl) ?_
  simp only [zT, zB]
  refine runs_cond (x := false) (by simp) ?_
  refine zK ?_
  simp only [zT, zB]
  refine zR (zO (by simp [zC h23, -lenA, HH1, HH2]; rfl) ?_)
  simp only [zT, zB]
  exact ⟨js.length - (k + 1), by omega, k + 1, i + 1, by omega, rfl, by omega, by simp [trim, zC h23, -lenA, HH1, HH2]⟩
 ·refine runs_exit ?_
  simp only [zT, zB, if_true, if_false, reduceIte, Nat.reduceEqDiff, Nat.succ_ne_zero, Nat.one_ne_zero, Nat.zero_ne_one]
  refine zS ?_
  refine zR (zO (by simp [zC h23, -lenA, HH1]; rfl) ?_)
  simp only [zT, zB]
  refine runs_ret ?_
  simp [zC h23, -lenA, HH1, trim]
theorem eq61n (x y : Operand) (a0 a1 a2 b0 b1 b2 : Int) : evalS Tryz.prog (do eqGuard .neq 61 x y (.agg #[.int .i64 a0, .int .i64 a1, .int .i64 a2]) (.agg #[.int .i64 b0, .int .i64 b1, .int .i64 b2]); binOp .neq 61 (.agg #[.int .i64 a0, .int .i64 a1, .int .i64 a2]) (.agg #[.int .i64 b0, .int .i64 b1, .int .i64 b2])) = some (.bool (!((a0 == b0) && ((a1 == b1) && ((a2 == b2) && true))))) := by
  have h := evalS_eqv (P := Tryz.prog) (ne := true) (t := 61) (x := x) (y := y) (xs := #[.int .i64 a0, .int .i64 a1, .int .i64 a2]) (ys := #[.int .i64 b0, .int .i64 b1, .int .i64 b2]) (b := ((a0 == b0) && ((a1 == b1) && ((a2 == b2) && true)))) (by kernel_rfl) (by kernel_rfl)
  simpa only [if_true, if_false, Bool.false_eq_true, Bool.bne_true, Bool.bne_false] using h
theorem a21 (T : Nat → Option CFn) (hT : T 21 = some c21) (h23 : T 23 = some { c23 with frsh := true, orc := oIntsEq }) (s : FShop) (c t c2 t2 : AVal) (hc : dInts2 c = some s.chg) (ht : dStops t = some s.stops) (hc2 : dInts2 c2 = some s.chg) (ht2 : dStops t2 = some s.stops) (hm1 : s.chg.length ≤ 1000) (hm2 : ∀ x ∈ s.chg, x.length ≤ 1000) (hm3 : s.stops.length ≤ 1000) : Answers Tryz.prog T 21 [.agg [I s.mach, c, t], .agg [I s.mach, c2, t2]] [] fun v h => frz true h 5 v = some (.bool true) := by
 have fc := fun H d => dInts2_frz hc H d
 have ft := fun H d => dStops_frz ht H d
 have rc := fun n d => dInts2_rb hc n d
 have rt := fun n d => dStops_rb ht n d
 have lc := dInts2_len hc
 have lt := dStops_len ht
 obtain ⟨cc1, cc2⟩ := dInts2_cells hc
 obtain ⟨ct1, ct2⟩ := dStops_cells ht
 have fc2 := fun H d => dInts2_frz hc2 H d
 have ft2 := fun H d => dStops_frz ht2 H d
 have rc2 := fun n d => dInts2_rb hc2 n d
 have rt2 := fun n d => dStops_rb ht2 n d
 have lc2 := dInts2_len hc2
 have lt2 := dStops_len ht2
 obtain ⟨cc3, cc4⟩ := dInts2_cells hc2
 obtain ⟨ct3, ct4⟩ := dStops_cells ht2
 refine answers_of hT (orcF_none rfl) ?_
 simp only [oo, om, op, og, ci, cl, c21]
 have HH1 := zA h23 (zA fc (zA ft (zA rc (zA rt (zA lc (zA lt (zA cc1 (zA cc2 (zA ct1 (zA ct2 (zA fc2 (zA ft2 (zA rc2 (zA rt2 (zA lc2 (zA lt2 (zA cc3 (zA cc4 (zA ct3 ct4)))))))))))))))))))
 refine zS ?_
 refine zR (zO (by simp [zC h23, -lenA, HH1]; rfl) ?_)
 simp only [zT, zB]
 refine zS ?_
 refine zS ?_
 refine zR (zO (by simp [zC h23, -lenA, HH1]; rfl) ?_)
 simp only [zT, zB]
 refine runs_cond (x := false) (by simp) ?_
 refine zK ?_
 simp only [zT, zB]
 refine zS ?_
 refine zS ?_
 refine zR (zO (by simp [zC h23, -lenA, HH1]; rfl) ?_)
 simp only [zT, zB]
 refine zL ?_
 refine runs_loop_inv (fun m σ => ∃ (k : Nat) (i : Int), i = k ∧ s.chg.length - k = m ∧ k ≤ s.chg.length ∧ σ = ⟨[.any, .any, .ref 0 0 0, .ref 1 0 0, .any, I i, .any, .any, .any, .any, .any, .any, .any, .any, .any, .any, .any, .any, .any, .any, .any, .any, .any, .any, .any, .any, .any, .any, .any, .any, .any, .any, .any, .any, .any, .any, .any, .any, .any, .any, .any, .any, .any, .any, .any, .any, .any, .any, .any, .any, .any, .any, .any, .any, .any, .any, .any, .any, .any, .any, .any, .any, .any, .any, .any, .any, .any], [some (.row 3 [[I s.mach, c, t]]), some (.row 3 [[I s.mach, c2, t2]])]⟩) ?_ (s.chg.length - 0) _ ⟨0, 0, rfl, rfl, Nat.zero_le _, by simp⟩
 rintro m σ ⟨k, i, hik, rfl, hkl, rfl⟩
 refine zS ?_
 refine zS ?_
 refine zR (zO (by simp [zC h23, -lenA, HH1]; rfl) ?_)
 simp only [zT, zB]
 refine runs_cond_split (x := decide (i < (s.chg.length : Int))) (by simp) (fun hlt => ?_) (fun hlt => ?_)
 ·have hlt := of_decide_eq_true hlt
  have hk0 : k < s.chg.length := by omega
  have hi0 : 0 ≤ i := by omega
  have htn : i.toNat = k := by omega
  have hwi : W .i64 (i + 1) = i + 1 := W_small (by omega)
  obtain ⟨cr, tc, wc, rfl, hq1c, hq2c, hwc⟩ := dInts2_get hc hk0
  have hkc : k < cr.length := by omega
  have hq4c : ∀ h, cr[k]'h = [wc] := fun h => by rw [List.getElem?_eq_getElem h] at hq2c; exact Option.some.inj hq2c
  have rwc := fun n d => dInts_rb hwc n d
  have fwc := fun H d => dInts_frz hwc H d
  have lwc := dInts_len hwc
  obtain ⟨cwc, cwd⟩ := dInts_cells hwc
  obtain ⟨crz, tcz, wcz, rfl, hq1cz, hq2cz, hwcz⟩ := dInts2_get hc2 hk0
  have hkcz : k < crz.length := by omega
  have hq4cz : ∀ h, crz[k]'h = [wcz] := fun h => by rw [List.getElem?_eq_getElem h] at hq2cz; exact Option.some.inj hq2cz
  have rwcz := fun n d => dInts_rb hwcz n d
  have fwcz := fun H d => dInts_frz hwcz H d
  have lwcz := dInts_len hwcz
  obtain ⟨cwcz, cwdz⟩ := dInts_cells hwcz
  have hml := hm2 _ (List.getElem_mem hk0)
  have hq := intsEq_eq hwc hwcz hml
  have HH2 := zA hi0 (zA htn (zA hk0 (zA hwi (zA hq (zA hkc (zA hq2c (zA hq4c (zA rwc (zA fwc (zA lwc (zA cwc (zA cwd (zA hkcz (zA hq2cz (zA hq4cz (zA rwcz (zA fwcz (zA lwcz (zA cwcz cwdz)))))))))))))))))))
  refine zK ?_
  simp only [zT, zB]
  refine zS ?_
  refine zL ?_
  refine zS ?_
  refine runs_drw (by simp (maxSteps := 3000000) [zC h23, -lenA, HH1, HH2]; rfl) ?_
  simp only [zT, zB]
  refine runs_cond (x := false) (by simp) ?_
  refine zK ?_
  simp only [zT, zB]
  refine zR (zO (by simp [zC h23, -lenA, HH1, HH2]; rfl) ?_)
  simp only [zT, zB]
  exact ⟨s.chg.length - (k + 1), by omega, k + 1, i + 1, by omega, rfl, by omega, by simp [trim, zC h23, -lenA, HH1, HH2]⟩
 ·refine runs_exit ?_
  simp only [zT, zB, if_true, if_false, reduceIte, Nat.reduceEqDiff, Nat.succ_ne_zero, Nat.one_ne_zero, Nat.zero_ne_one]
  refine zS ?_
  refine zS ?_
  refine zR (zO (by simp [zC h23, -lenA, HH1]; rfl) ?_)
  simp only [zT, zB]
  refine zL ?_
  refine runs_loop_inv (fun m σ => ∃ (k : Nat) (i : Int), i = k ∧ s.stops.length - k = m ∧ k ≤ s.stops.length ∧ σ = ⟨[.any, .any, .ref 0 0 0, .ref 1 0 0, .any, .any, I i, .any, .any, .any, .any, .any, .any, .any, .any, .any, .any, .any, .any, .any, .any, .any, .any, .any, .any, .any, .any, .any, .any, .any, .any, .any, .any, .any, .any, .any, .any, .any, .any, .any, .any, .any, .any, .any, .any, .any, .any, .any, .any, .any, .any, .any, .any, .any, .any, .any, .any, .any, .any, .any, .any, .any, .any, .any, .any, .any, .any], [some (.row 3 [[I s.mach, c, t]]), some (.row 3 [[I s.mach, c2, t2]])]⟩) ?_ (s.stops.length - 0) _ ⟨0, 0, rfl, rfl, Nat.zero_le _, by simp⟩
  rintro m σ ⟨k, i, hik, rfl, hkl, rfl⟩
  refine zS ?_
  refine zS ?_
  refine zR (zO (by simp [zC h23, -lenA, HH1]; rfl) ?_)
  simp only [zT, zB]
  refine runs_cond_split (x := decide (i < (s.stops.length : Int))) (by simp) (fun hlt => ?_) (fun hlt => ?_)
  ·have hlt := of_decide_eq_true hlt
   have hk0 : k < s.stops.length := by omega
   have hi0 : 0 ≤ i := by omega
   have htn : i.toNat = k := by omega
   have hwi : W .i64 (i + 1) = i + 1 := W_small (by omega)
   obtain ⟨ta, rfl⟩ := dStops_get ht hk0
   obtain ⟨tb, rfl⟩ := dStops_get ht2 hk0
   generalize hX : s.stops[k] = X at *
   obtain ⟨x1, x2, x3⟩ := X
   have HH3 := zA hi0 (zA htn (zA hk0 (zA hwi hX)))
   refine zK ?_
   simp only [zT, zB]
   refine zS ?_
   refine zL ?_
   refine zS ?_
   refine runs_drw (by simp (maxSteps := 3000000) [zC h23, -lenA, HH1, rS3, eq61n, HH3]; rfl) ?_
   simp only [zT, zB]
   refine runs_cond (x := false) (by simp) ?_
   refine zK ?_
   simp only [zT, zB]
   refine zR (zO (by simp [zC h23, -lenA, HH1, rS3, eq61n, HH3]; rfl) ?_)
   simp only [zT, zB]
   exact ⟨s.stops.length - (k + 1), by omega, k + 1, i + 1, by omega, rfl, by omega, by simp [trim, zC h23, -lenA, HH1, rS3, eq61n, HH3]⟩
  ·refine runs_exit ?_
   simp only [zT, zB, if_true, if_false, reduceIte, Nat.reduceEqDiff, Nat.succ_ne_zero, Nat.one_ne_zero, Nat.zero_ne_one]
   refine zS ?_
   refine zR (zO (by simp [zC h23, -lenA, HH1]; rfl) ?_)
   simp only [zT, zB]
   refine runs_ret ?_
   simp [zC h23, -lenA, HH1, trim]
def oSame : List AVal → Option AVal
  | [.agg [.int .i64 m, c, t], .agg [.int .i64 m2, c2, t2]] => match dInts2 c, dStops t, dInts2 c2, dStops t2 with
    | some cs, some ts, some cs2, some ts2 => if m = m2 ∧ cs = cs2 ∧ ts = ts2 ∧ cs.length ≤ 1000 ∧ (∀ x ∈ cs, x.length ≤ 1000) ∧ ts.length ≤ 1000 then some (.bool true) else none
    | _, _, _, _ => none
  | _ => none
theorem same_eq {m : Int} {c t c2 t2 : AVal} {cs : List (List Int)} {ts : List FStop} (hc : dInts2 c = some cs) (ht : dStops t = some ts) (hc2 : dInts2 c2 = some cs) (ht2 : dStops t2 = some ts) (h : cs.length ≤ 1000 ∧ (∀ x ∈ cs, x.length ≤ 1000) ∧ ts.length ≤ 1000) : oSame [.agg [I m, c, t], .agg [I m, c2, t2]] = some (.bool true) := by
  simp only [oSame, hc, ht, hc2, ht2]; rw [if_pos ⟨trivial, trivial, trivial, h⟩]
def oEqual : List AVal → Option AVal
  | [j, j2] => match dJobs j, dJobs j2 with
    | some js, some js2 => if js.length = js2.length ∧ (js.map fun x => (x.kind, x.ready, x.due, x.mins)) = (js2.map fun x => (x.kind, x.ready, x.due, x.mins)) ∧ js.length ≤ 1000 ∧ (∀ x ∈ js, x.mins.length ≤ 1000) then some (.bool true) else none
    | _, _ => none
  | _ => none
theorem equal_eq {j j2 : AVal} {js : List FJob} (hj : dJobs j = some js) (hj2 : dJobs j2 = some js) (h : js.length ≤ 1000 ∧ ∀ x ∈ js, x.mins.length ≤ 1000) : oEqual [j, j2] = some (.bool true) := by
  simp only [oEqual, hj, hj2]; rw [if_pos ⟨trivial, trivial, h⟩]
theorem job_inj : ∀ {js js2 : List FJob}, (js.map fun x => (x.kind, x.ready, x.due, x.mins)) = (js2.map fun x => (x.kind, x.ready, x.due, x.mins)) → js = js2
  | [], [], _ => rfl
  | [], _ :: _, h => by cases h
  | _ :: _, [], h => by cases h
  | a :: js, b :: js2, h => by
    simp only [List.map_cons, List.cons.injEq, Prod.mk.injEq] at h
    obtain ⟨⟨h1, h2, h3, h4⟩, h5⟩ := h
    obtain ⟨a1, a2, a3, a4⟩ := a
    obtain ⟨b1, b2, b3, b4⟩ := b
    simp only at h1 h2 h3 h4
    rw [job_inj h5, h1, h2, h3, h4]
noncomputable def FU3_22 : Nat → Option CFn := upd FU2 22 true (oEqual)
theorem FU3_22_ok : TabOk Tryz.prog GG FU3_22 := tab_add mixed FU2_ok fun args v ho => by
  unfold oEqual at ho; split at ho <;> (try simp only [reduceCtorEq] at ho)
  rename_i j j2
  split at ho <;> (try simp only [reduceCtorEq] at ho)
  rename_i js js2 hj hj2
  split at ho <;> (try simp only [reduceCtorEq] at ho)
  rename_i hg
  simp only [Option.some.injEq] at ho
  subst ho
  obtain ⟨_, he, hl, hm⟩ := hg
  have he := job_inj he
  subst he
  exact a22 Tryz.prog FU2 rfl rfl js j j2 hj hj2 hl hm
noncomputable def FU3 : Nat → Option CFn := upd FU3_22 21 true (oSame)
theorem FU3_ok : TabOk Tryz.prog GG FU3 := tab_add mixed FU3_22_ok fun args v ho => by
  unfold oSame at ho; split at ho <;> (try simp only [reduceCtorEq] at ho)
  rename_i m c t m2 c2 t2
  split at ho <;> (try simp only [reduceCtorEq] at ho)
  rename_i cs ts cs2 ts2 hc ht hc2 ht2
  split at ho <;> (try simp only [reduceCtorEq] at ho)
  rename_i hg
  simp only [Option.some.injEq] at ho
  subst ho
  obtain ⟨rfl, rfl, rfl, h1, h2, h3⟩ := hg
  exact a21 FU3_22 rfl rfl ⟨m, cs, ts⟩ c t c2 t2 hc ht hc2 ht2 h1 h2 h3
def largeB (s : FShop) (js : List FJob) (most : Int) : Bool :=
  (s.chg.take 11).any (fun l => decide (10 < l.length)) || (js.take 21).any (fun j => decide (10 < j.mins.length)) || decide (10 < s.chg.length) || decide (20 < s.stops.length) || decide (20 < js.length) || (decide (most < js.length) && decide (js.length ≤ 6))
theorem any_of {α : Type} {f : α → Bool} {l : List α} {k n : Nat} (hk : k < l.length) (hn : k < n) (h : f l[k] = true) : (l.take n).any f = true :=
  List.any_eq_true.2 ⟨l[k], by rw [List.mem_iff_getElem]; exact ⟨k, by rw [List.length_take]; omega, by rw [List.getElem_take]⟩, h⟩
theorem any_nil {α : Type} {f : α → Bool} {l : List α} {k n : Nat} (h : ∀ p (hp : p < l.length), p < k → f l[p] = false) (hk : l.length ≤ k ∨ n ≤ k) : (l.take n).any f = false := by
  rw [List.any_eq_false]
  intro x hx
  obtain ⟨p, hp, rfl⟩ := List.mem_iff_getElem.1 hx
  rw [List.length_take] at hp
  rw [List.getElem_take, h p (by omega) (by omega)]
  simp
theorem a14 (P : Program) (T : Nat → Option CFn) (hT : T 14 = some c14) (s : FShop) (js : List FJob) (c t j : AVal) (hc : dInts2 c = some s.chg) (ht : dStops t = some s.stops) (hj : dJobs j = some js) (most : Int) : Answers P T 14 [.agg [I s.mach, c, t], j, I most] [] fun v h => frz true h 5 v = some (.bool (largeB s js most)) := by
 have fc := fun H d => dInts2_frz hc H d
 have ft := fun H d => dStops_frz ht H d
 have fj := fun H d => dJobs_frz hj H d
 have rc := fun n d => dInts2_rb hc n d
 have rt := fun n d => dStops_rb ht n d
 have rj := fun n d => dJobs_rb hj n d
 have lc := dInts2_len hc
 have lt := dStops_len ht
 have lj := dJobs_len hj
 obtain ⟨cc1, cc2⟩ := dInts2_cells hc
 obtain ⟨ct1, ct2⟩ := dStops_cells ht
 obtain ⟨cj1, cj2⟩ := dJobs_cells hj
 refine answers_of hT (orcF_none rfl) ?_
 simp only [oo, om, op, og, ci, cl, c14]
 have HH1 := zA fc (zA ft (zA fj (zA rc (zA rt (zA rj (zA lc (zA lt (zA lj (zA cc1 (zA cc2 (zA ct1 (zA ct2 (zA cj1 cj2)))))))))))))
 refine zS ?_
 refine zR (zO (by simp [-lenA, HH1]; rfl) ?_)
 simp only [zT, zB]
 refine zS ?_
 refine zS ?_
 refine zR (zO (by simp [-lenA, HH1]; rfl) ?_)
 simp only [zT, zB]
 refine zL ?_
 refine runs_loop_inv (fun m σ => ∃ (k : Nat) (i : Int), i = k ∧ 11 - k = m ∧ k ≤ 11 ∧ k ≤ s.chg.length ∧ (∀ p (hp : p < s.chg.length), p < k → decide (10 < s.chg[p].length) = false) ∧ σ = ⟨[.any, j, I most, .ref 0 0 0, .any, .any, .any, I i, .any, .any, .any, .any, .any, .any, .any, .any, .any, .any, .any, .any, .any, .any, .any, .any, .any, .any, .any, .any, .any, .any, .any, .any, .any, .any, .any, .any, .any, .any, .any, .any, .any, .any, .any, .any, .any, .any, .any, .any, .any, .any, .any, .any, .any, .any, .any, .any, .any, .any, .any, .any, .any, .any, .any, .any, .any, .any, .any, .any, .any, .any], [some (.row 3 [[I s.mach, c, t]])]⟩) ?_ (11 - 0) _ ⟨0, 0, rfl, rfl, Nat.zero_le _, Nat.zero_le _, fun p hp h => absurd h (Nat.not_lt_zero _), by simp⟩
 rintro m σ ⟨k, i, hik, rfl, hkm, hkl, hN, rfl⟩
 refine zS ?_
 refine zS ?_
 rcases hA : decide (i < (s.chg.length : Int)) with _ | _
 ·have hA2 := of_decide_eq_false hA
  refine zR (zO (by simp [-lenA, HH1, hA]; rfl) ?_)
  simp only [zT, zB]
  refine runs_cond (x := false) (by simp) ?_
  obtain ⟨hN, hNE⟩ : (∀ p (hp : p < s.chg.length), p < k → decide (10 < s.chg[p].length) = false) ∧ (s.chg.length ≤ k ∨ 11 ≤ k) := ⟨hN, by omega⟩
  generalize k = kc at hN hNE
  refine runs_exit ?_
  simp only [zT, zB, if_true, if_false, reduceIte, Nat.reduceEqDiff, Nat.succ_ne_zero, Nat.one_ne_zero, Nat.zero_ne_one]
  refine zS ?_
  refine zS ?_
  refine zR (zO (by simp [-lenA, HH1, hA]; rfl) ?_)
  simp only [zT, zB]
  refine zL ?_
  refine runs_loop_inv (fun m σ => ∃ (k : Nat) (i : Int), i = k ∧ 21 - k = m ∧ k ≤ 21 ∧ k ≤ js.length ∧ (∀ p (hp : p < js.length), p < k → decide (10 < js[p].mins.length) = false) ∧ σ = ⟨[.any, j, I most, .ref 0 0 0, .any, .any, .any, .any, I i, .any, .any, .any, .any, .any, .any, .any, .any, .any, .any, .any, .any, .any, .any, .any, .any, .any, .any, .any, .any, .any, .any, .any, .any, .any, .any, .any, .any, .any, .any, .any, .any, .any, .any, .any, .any, .any, .any, .any, .any, .any, .any, .any, .any, .any, .any, .any, .any, .any, .any, .any, .any, .any, .any, .any, .any, .any, .any, .any, .any, .any], [some (.row 3 [[I s.mach, c, t]])]⟩) ?_ (21 - 0) _ ⟨0, 0, rfl, rfl, Nat.zero_le _, Nat.zero_le _, fun p hp h => absurd h (Nat.not_lt_zero _), by simp⟩
  rintro m σ ⟨k, i, hik, rfl, hkm, hkl, hM, rfl⟩
  refine zS ?_
  refine zS ?_
  rcases hA : decide (i < (js.length : Int)) with _ | _
  ·have hA2 := of_decide_eq_false hA
   refine zR (zO (by simp [-lenA, HH1, hA]; rfl) ?_)
   simp only [zT, zB]
   refine runs_cond (x := false) (by simp) ?_
   have e1 : decide (10 < s.chg.length) = decide ((10 : Int) < (s.chg.length : Int)) := by rw [decide_eq_decide]; omega
   have e2 : decide (20 < s.stops.length) = decide ((20 : Int) < (s.stops.length : Int)) := by rw [decide_eq_decide]; omega
   have e3 : decide (20 < js.length) = decide ((20 : Int) < (js.length : Int)) := by rw [decide_eq_decide]; omega
   have e5 : decide (js.length ≤ 6) = decide ((js.length : Int) ≤ 6) := by rw [decide_eq_decide]; omega
   have eL : largeB s js most = (decide ((10 : Int) < (s.chg.length : Int)) || decide ((20 : Int) < (s.stops.length : Int)) || decide ((20 : Int) < (js.length : Int)) || (decide (most < (js.length : Int)) && decide ((js.length : Int) ≤ 6))) := by
    unfold largeB; rw [any_nil hN (by omega), any_nil hM (by omega), e1, e2, e3, e5]; rfl
   rw [eL]
   generalize hg1 : decide ((10 : Int) < (s.chg.length : Int)) = g1
   generalize hg2 : decide ((20 : Int) < (s.stops.length : Int)) = g2
   generalize hg3 : decide ((20 : Int) < (js.length : Int)) = g3
   generalize hg4 : decide (most < (js.length : Int)) = g4
   generalize hg5 : decide ((js.length : Int) ≤ 6) = g5
   clear e1 e2 e3 e5 eL
   have HH2 := zA hA (zA hg1 (zA hg2 (zA hg3 (zA hg4 hg5))))
   refine runs_exit ?_
   simp only [zT, zB, if_true, if_false, reduceIte, Nat.reduceEqDiff, Nat.succ_ne_zero, Nat.one_ne_zero, Nat.zero_ne_one]
   refine zS ?_
   cases g1 <;> cases g2 <;> cases g3 <;> cases g4 <;> (refine zR (zO (by simp [-lenA, HH1, HH2]; rfl) ?_); simp only [zT, zB]; refine runs_ret ?_; simp [-lenA, HH1, HH2])
  ·refine zR (zO (by simp [-lenA, HH1, hA]; rfl) ?_)
   simp only [zT, zB]
   refine runs_cond_split (x := decide (i < (21 : Int))) (by simp) (fun hlt => ?_) (fun hlt => ?_)
   ·have hA := of_decide_eq_true hA
    have hlt := of_decide_eq_true hlt
    have hk0 : k < js.length := by omega
    have hi0 : 0 ≤ i := by omega
    have htn : i.toNat = k := by omega
    have hwi : W .i64 (i + 1) = i + 1 := W_small (by omega)
    obtain ⟨jr, tj, wv, rfl, hr1, hr2, hwv⟩ := dJobs_get hj hk0
    have hkr : k < jr.length := by omega
    have hr4 : ∀ h, jr[k]'h = [I js[k].kind, I js[k].ready, I js[k].due, wv] := fun h => by rw [List.getElem?_eq_getElem h] at hr2; exact Option.some.inj hr2
    have rw5 := fun n d => dInts_rb hwv n d
    have fw5 := fun H d => dInts_frz hwv H d
    have lw5 := dInts_len hwv
    obtain ⟨cw1, cw2⟩ := dInts_cells hwv
    have hdl : decide ((10 : Int) < (js[k].mins.length : Int)) = decide (10 < js[k].mins.length) := by rw [decide_eq_decide]; omega
    have HH3 := zA hA (zA hi0 (zA htn (zA hk0 (zA hwi (zA hdl (zA hkr (zA hr2 (zA hr4 (zA rw5 (zA fw5 (zA lw5 (zA cw1 cw2))))))))))))
    refine zK ?_
    simp only [zT, zB]
    refine zS ?_
    refine zL ?_
    refine zS ?_
    refine zR (zO (by simp [-lenA, HH1, HH3]; rfl) ?_)
    simp only [zT, zB]
    refine runs_cond_split (x := decide (10 < js[k].mins.length)) (by simp) (fun hb => ?_) (fun hb => ?_)
    ·have hL : largeB s js most = true := by unfold largeB; rw [any_of (l := js) (n := 21) hk0 (by omega) hb]; simp
     rw [hL]
     refine zS ?_
     refine zR (zO (by simp [-lenA, HH1, HH3]; rfl) ?_)
     simp only [zT, zB]
     refine runs_ret ?_
     simp [-lenA, HH1, HH3, trim]
    ·refine zK ?_
     simp only [zT, zB]
     refine zR (zO (by simp [-lenA, HH1, HH3]; rfl) ?_)
     simp only [zT, zB]
     exact ⟨21 - (k + 1), by omega, k + 1, i + 1, by omega, rfl, by omega, by omega, (fun p hp hp2 => by
      by_cases e : p = k
      ·subst e; exact hb
      ·exact hM p hp (by omega)), by simp [trim, -lenA, HH1, HH3]⟩
   ·have hlt := of_decide_eq_false hlt
    have hA := of_decide_eq_true hA
    have e1 : decide (10 < s.chg.length) = decide ((10 : Int) < (s.chg.length : Int)) := by rw [decide_eq_decide]; omega
    have e2 : decide (20 < s.stops.length) = decide ((20 : Int) < (s.stops.length : Int)) := by rw [decide_eq_decide]; omega
    have e3 : decide (20 < js.length) = decide ((20 : Int) < (js.length : Int)) := by rw [decide_eq_decide]; omega
    have e5 : decide (js.length ≤ 6) = decide ((js.length : Int) ≤ 6) := by rw [decide_eq_decide]; omega
    have eL : largeB s js most = (decide ((10 : Int) < (s.chg.length : Int)) || decide ((20 : Int) < (s.stops.length : Int)) || decide ((20 : Int) < (js.length : Int)) || (decide (most < (js.length : Int)) && decide ((js.length : Int) ≤ 6))) := by
     unfold largeB; rw [any_nil hN (by omega), any_nil hM (by omega), e1, e2, e3, e5]; rfl
    rw [eL]
    generalize hg1 : decide ((10 : Int) < (s.chg.length : Int)) = g1
    generalize hg2 : decide ((20 : Int) < (s.stops.length : Int)) = g2
    generalize hg3 : decide ((20 : Int) < (js.length : Int)) = g3
    generalize hg4 : decide (most < (js.length : Int)) = g4
    generalize hg5 : decide ((js.length : Int) ≤ 6) = g5
    clear e1 e2 e3 e5 eL
    have HH4 := zA hA (zA hg1 (zA hg2 (zA hg3 (zA hg4 hg5))))
    refine runs_exit ?_
    simp only [zT, zB, if_true, if_false, reduceIte, Nat.reduceEqDiff, Nat.succ_ne_zero, Nat.one_ne_zero, Nat.zero_ne_one]
    refine zS ?_
    cases g1 <;> cases g2 <;> cases g3 <;> cases g4 <;> (refine zR (zO (by simp [-lenA, HH1, HH4]; rfl) ?_); simp only [zT, zB]; refine runs_ret ?_; simp [-lenA, HH1, HH4])
 ·refine zR (zO (by simp [-lenA, HH1, hA]; rfl) ?_)
  simp only [zT, zB]
  refine runs_cond_split (x := decide (i < (11 : Int))) (by simp) (fun hlt => ?_) (fun hlt => ?_)
  ·have hA := of_decide_eq_true hA
   have hlt := of_decide_eq_true hlt
   have hk0 : k < s.chg.length := by omega
   have hi0 : 0 ≤ i := by omega
   have htn : i.toNat = k := by omega
   have hwi : W .i64 (i + 1) = i + 1 := W_small (by omega)
   obtain ⟨cr, tc, wc, rfl, hq1c, hq2c, hwc⟩ := dInts2_get hc hk0
   have hkc : k < cr.length := by omega
   have hq4c : ∀ h, cr[k]'h = [wc] := fun h => by rw [List.getElem?_eq_getElem h] at hq2c; exact Option.some.inj hq2c
   have rwc := fun n d => dInts_rb hwc n d
   have fwc := fun H d => dInts_frz hwc H d
   have lwc := dInts_len hwc
   obtain ⟨cwc, cwd⟩ := dInts_cells hwc
   have hdl : decide ((10 : Int) < (s.chg[k].length : Int)) = decide (10 < s.chg[k].length) := by rw [decide_eq_decide]; omega
   have HH5 := zA hA (zA hi0 (zA htn (zA hk0 (zA hwi (zA hdl (zA hkc (zA hq2c (zA hq4c (zA rwc (zA fwc (zA lwc (zA cwc cwd))))))))))))
   refine zK ?_
   simp only [zT, zB]
   refine zS ?_
   refine zL ?_
   refine zS ?_
   refine zR (zO (by simp [-lenA, HH1, HH5]; rfl) ?_)
   simp only [zT, zB]
   refine runs_cond_split (x := decide (10 < s.chg[k].length)) (by simp) (fun hb => ?_) (fun hb => ?_)
   ·have hL : largeB s js most = true := by unfold largeB; rw [any_of (l := s.chg) (n := 11) hk0 (by omega) hb]; simp
    rw [hL]
    refine zS ?_
    refine zR (zO (by simp [-lenA, HH1, HH5]; rfl) ?_)
    simp only [zT, zB]
    refine runs_ret ?_
    simp [-lenA, HH1, HH5, trim]
   ·refine zK ?_
    simp only [zT, zB]
    refine zR (zO (by simp [-lenA, HH1, HH5]; rfl) ?_)
    simp only [zT, zB]
    exact ⟨11 - (k + 1), by omega, k + 1, i + 1, by omega, rfl, by omega, by omega, (fun p hp hp2 => by
     by_cases e : p = k
     ·subst e; exact hb
     ·exact hN p hp (by omega)), by simp [trim, -lenA, HH1, HH5]⟩
  ·have hlt := of_decide_eq_false hlt
   have hA := of_decide_eq_true hA
   obtain ⟨hN, hNE⟩ : (∀ p (hp : p < s.chg.length), p < k → decide (10 < s.chg[p].length) = false) ∧ (s.chg.length ≤ k ∨ 11 ≤ k) := ⟨hN, by omega⟩
   generalize k = kc at hN hNE
   refine runs_exit ?_
   simp only [zT, zB, if_true, if_false, reduceIte, Nat.reduceEqDiff, Nat.succ_ne_zero, Nat.one_ne_zero, Nat.zero_ne_one]
   refine zS ?_
   refine zS ?_
   refine zR (zO (by simp [-lenA, HH1, hA]; rfl) ?_)
   simp only [zT, zB]
   refine zL ?_
   refine runs_loop_inv (fun m σ => ∃ (k : Nat) (i : Int), i = k ∧ 21 - k = m ∧ k ≤ 21 ∧ k ≤ js.length ∧ (∀ p (hp : p < js.length), p < k → decide (10 < js[p].mins.length) = false) ∧ σ = ⟨[.any, j, I most, .ref 0 0 0, .any, .any, .any, .any, I i, .any, .any, .any, .any, .any, .any, .any, .any, .any, .any, .any, .any, .any, .any, .any, .any, .any, .any, .any, .any, .any, .any, .any, .any, .any, .any, .any, .any, .any, .any, .any, .any, .any, .any, .any, .any, .any, .any, .any, .any, .any, .any, .any, .any, .any, .any, .any, .any, .any, .any, .any, .any, .any, .any, .any, .any, .any, .any, .any, .any, .any], [some (.row 3 [[I s.mach, c, t]])]⟩) ?_ (21 - 0) _ ⟨0, 0, rfl, rfl, Nat.zero_le _, Nat.zero_le _, fun p hp h => absurd h (Nat.not_lt_zero _), by simp⟩
   rintro m σ ⟨k, i, hik, rfl, hkm, hkl, hM, rfl⟩
   refine zS ?_
   refine zS ?_
   rcases hA : decide (i < (js.length : Int)) with _ | _
   ·have hA2 := of_decide_eq_false hA
    refine zR (zO (by simp [-lenA, HH1, hA]; rfl) ?_)
    simp only [zT, zB]
    refine runs_cond (x := false) (by simp) ?_
    have e1 : decide (10 < s.chg.length) = decide ((10 : Int) < (s.chg.length : Int)) := by rw [decide_eq_decide]; omega
    have e2 : decide (20 < s.stops.length) = decide ((20 : Int) < (s.stops.length : Int)) := by rw [decide_eq_decide]; omega
    have e3 : decide (20 < js.length) = decide ((20 : Int) < (js.length : Int)) := by rw [decide_eq_decide]; omega
    have e5 : decide (js.length ≤ 6) = decide ((js.length : Int) ≤ 6) := by rw [decide_eq_decide]; omega
    have eL : largeB s js most = (decide ((10 : Int) < (s.chg.length : Int)) || decide ((20 : Int) < (s.stops.length : Int)) || decide ((20 : Int) < (js.length : Int)) || (decide (most < (js.length : Int)) && decide ((js.length : Int) ≤ 6))) := by
     unfold largeB; rw [any_nil hN (by omega), any_nil hM (by omega), e1, e2, e3, e5]; rfl
    rw [eL]
    generalize hg1 : decide ((10 : Int) < (s.chg.length : Int)) = g1
    generalize hg2 : decide ((20 : Int) < (s.stops.length : Int)) = g2
    generalize hg3 : decide ((20 : Int) < (js.length : Int)) = g3
    generalize hg4 : decide (most < (js.length : Int)) = g4
    generalize hg5 : decide ((js.length : Int) ≤ 6) = g5
    clear e1 e2 e3 e5 eL
    have HH6 := zA hA (zA hg1 (zA hg2 (zA hg3 (zA hg4 hg5))))
    refine runs_exit ?_
    simp only [zT, zB, if_true, if_false, reduceIte, Nat.reduceEqDiff, Nat.succ_ne_zero, Nat.one_ne_zero, Nat.zero_ne_one]
    refine zS ?_
    cases g1 <;> cases g2 <;> cases g3 <;> cases g4 <;> (refine zR (zO (by simp [-lenA, HH1, HH6]; rfl) ?_); simp only [zT, zB]; refine runs_ret ?_; simp [-lenA, HH1, HH6])
   ·refine zR (zO (by simp [-lenA, HH1, hA]; rfl) ?_)
    simp only [zT, zB]
    refine runs_cond_split (x := decide (i < (21 : Int))) (by simp) (fun hlt => ?_) (fun hlt => ?_)
    ·have hA := of_decide_eq_true hA
     have hlt := of_decide_eq_true hlt
     have hk0 : k < js.length := by omega
     have hi0 : 0 ≤ i := by omega
     have htn : i.toNat = k := by omega
     have hwi : W .i64 (i + 1) = i + 1 := W_small (by omega)
     obtain ⟨jr, tj, wv, rfl, hr1, hr2, hwv⟩ := dJobs_get hj hk0
     have hkr : k < jr.length := by omega
     have hr4 : ∀ h, jr[k]'h = [I js[k].kind, I js[k].ready, I js[k].due, wv] := fun h => by rw [List.getElem?_eq_getElem h] at hr2; exact Option.some.inj hr2
     have rw5 := fun n d => dInts_rb hwv n d
     have fw5 := fun H d => dInts_frz hwv H d
     have lw5 := dInts_len hwv
     obtain ⟨cw1, cw2⟩ := dInts_cells hwv
     have hdl : decide ((10 : Int) < (js[k].mins.length : Int)) = decide (10 < js[k].mins.length) := by rw [decide_eq_decide]; omega
     have HH7 := zA hA (zA hi0 (zA htn (zA hk0 (zA hwi (zA hdl (zA hkr (zA hr2 (zA hr4 (zA rw5 (zA fw5 (zA lw5 (zA cw1 cw2))))))))))))
     refine zK ?_
     simp only [zT, zB]
     refine zS ?_
     refine zL ?_
     refine zS ?_
     refine zR (zO (by simp [-lenA, HH1, HH7]; rfl) ?_)
     simp only [zT, zB]
     refine runs_cond_split (x := decide (10 < js[k].mins.length)) (by simp) (fun hb => ?_) (fun hb => ?_)
     ·have hL : largeB s js most = true := by unfold largeB; rw [any_of (l := js) (n := 21) hk0 (by omega) hb]; simp
      rw [hL]
      refine zS ?_
      refine zR (zO (by simp [-lenA, HH1, HH7]; rfl) ?_)
      simp only [zT, zB]
      refine runs_ret ?_
      simp [-lenA, HH1, HH7, trim]
     ·refine zK ?_
      simp only [zT, zB]
      refine zR (zO (by simp [-lenA, HH1, HH7]; rfl) ?_)
      simp only [zT, zB]
      exact ⟨21 - (k + 1), by omega, k + 1, i + 1, by omega, rfl, by omega, by omega, (fun p hp hp2 => by
       by_cases e : p = k
       ·subst e; exact hb
       ·exact hM p hp (by omega)), by simp [trim, -lenA, HH1, HH7]⟩
    ·have hlt := of_decide_eq_false hlt
     have hA := of_decide_eq_true hA
     have e1 : decide (10 < s.chg.length) = decide ((10 : Int) < (s.chg.length : Int)) := by rw [decide_eq_decide]; omega
     have e2 : decide (20 < s.stops.length) = decide ((20 : Int) < (s.stops.length : Int)) := by rw [decide_eq_decide]; omega
     have e3 : decide (20 < js.length) = decide ((20 : Int) < (js.length : Int)) := by rw [decide_eq_decide]; omega
     have e5 : decide (js.length ≤ 6) = decide ((js.length : Int) ≤ 6) := by rw [decide_eq_decide]; omega
     have eL : largeB s js most = (decide ((10 : Int) < (s.chg.length : Int)) || decide ((20 : Int) < (s.stops.length : Int)) || decide ((20 : Int) < (js.length : Int)) || (decide (most < (js.length : Int)) && decide ((js.length : Int) ≤ 6))) := by
      unfold largeB; rw [any_nil hN (by omega), any_nil hM (by omega), e1, e2, e3, e5]; rfl
     rw [eL]
     generalize hg1 : decide ((10 : Int) < (s.chg.length : Int)) = g1
     generalize hg2 : decide ((20 : Int) < (s.stops.length : Int)) = g2
     generalize hg3 : decide ((20 : Int) < (js.length : Int)) = g3
     generalize hg4 : decide (most < (js.length : Int)) = g4
     generalize hg5 : decide ((js.length : Int) ≤ 6) = g5
     clear e1 e2 e3 e5 eL
     have HH8 := zA hA (zA hg1 (zA hg2 (zA hg3 (zA hg4 hg5))))
     refine runs_exit ?_
     simp only [zT, zB, if_true, if_false, reduceIte, Nat.reduceEqDiff, Nat.succ_ne_zero, Nat.one_ne_zero, Nat.zero_ne_one]
     refine zS ?_
     cases g1 <;> cases g2 <;> cases g3 <;> cases g4 <;> (refine zR (zO (by simp [-lenA, HH1, HH8]; rfl) ?_); simp only [zT, zB]; refine runs_ret ?_; simp [-lenA, HH1, HH8])
def oLarge : List AVal → Option AVal
  | [.agg [.int .i64 m, c, t], j, .int .i64 most] => match dInts2 c, dStops t, dJobs j with
    | some cs, some ts, some js => some (.bool (largeB ⟨m, cs, ts⟩ js most))
    | _, _, _ => none
  | _ => none
theorem large_eq {s : FShop} {js : List FJob} {c t j : AVal} (hc : dInts2 c = some s.chg) (ht : dStops t = some s.stops) (hj : dJobs j = some js) (most : Int) : oLarge [.agg [I s.mach, c, t], j, I most] = some (.bool (largeB s js most)) := by
  simp only [oLarge, hc, ht, hj]
noncomputable def FU : Nat → Option CFn := upd FU3 14 true (oLarge)
theorem FU_ok : TabOk Tryz.prog GG FU := tab_add mixed FU3_ok fun args v ho => by
  unfold oLarge at ho; split at ho <;> (try simp only [reduceCtorEq] at ho)
  rename_i m c t j most
  split at ho <;> (try simp only [reduceCtorEq] at ho)
  rename_i cs ts js hc ht hj
  simp only [Option.some.injEq] at ho
  subst ho
  exact a14 Tryz.prog FU3 rfl ⟨m, cs, ts⟩ js c t j hc ht hj most
end
end Go.Proofs.YtjjapdagllclkaaGreat.Tab

namespace Go.Proofs.YtjjapdagllclkaaGreat.Tab
open Go Go.Abs Go.Proofs
set_option maxRecDepth 100000
set_option maxHeartbeats 4000000
set_option linter.unusedSimpArgs false
set_option linter.unusedVariables false
section
attribute [local simp] frz_int frz_bool frz_vl frz_pv frz_agg frz_tup frz_fn frz_ref frz_sl frz_nils optAll orcF rb_int rb_bool rb_agg rb_tup rb_int' rb_bool' rb_vl rb_pv rb_yld rb_nilf rb_nilp rb_nils rb_any rb_und rb_ref rb_sl rb_fn slE chunk fillA evParts evParts3 putAt List.range_succ List.range_zero List.range'_succ List.range'_zero runX_nil' unary_not evalS_pure evAll_nil evAll_cons runX_cons stepX wantedA dop CV.ev putK_eq setK_eq appK_eq fA_eq fI_eq fN_eq fRow_eq fRows_eq nth_eq Out.v putT List.replicate_succ zT zB arI pointee Abs.rowAt ldRow allV toV toC ofV ofC Builtin.min_ Builtin.min2 Builtin.max_ Builtin.max2 min_if max_if resA tupA kill trim_self trim_len trim_emp trim_nil lenA
attribute [local simp] runD_nil' runD_cons' stepD actK_eq actD clash disj masks holes maskH unmaskH diffs news eqB allB eqA ldRowN wrote toCs ofCs stA rowsV_vl rowsV_nils rowsOf dI1 dI2 dI3 dI5 elt
attribute [local simp] st_any st_und st_agg st_tup st_bool st_int st_nilp st_ref st_pv st_nils st_sl st_vl st_nilm st_mp st_fn st_nilf st_yld co_any co_und co_agg co_tup co_bool co_int co_nilp co_ref co_pv co_nils co_sl co_vl co_nilm co_mp co_fn co_nilf co_yld
attribute [local simp] callA calleeA lop loud rbB_none rbB_row
theorem a36 (P : Program) (T : Nat → Option CFn) (hT : T 36 = some c36) (h39 : T 39 = some { c39 with frsh := true, orc := oIn }) (m x1 x2 x3 : Int) (c t : AVal) (hm : 1 ≤ m ∧ m ≤ 4) (cs : List (List Int)) (ts : List FStop) (hc : dInts2 c = some cs) (ht : dStops t = some ts) : Answers P T 36 [.agg [I m, c, t], .agg [I x1, I x2, I x3]] [] fun v h => frz true h 5 v = some (.bool (stopOk m (x1, x2, x3))) := by
 have w1 : W .i64 (m - 1) = m - 1 := W_small (by omega)
 have rc := fun n d => dInts2_rb hc n d
 have rt := fun n d => dStops_rb ht n d
 obtain ⟨cc1, cc2⟩ := dInts2_cells hc
 obtain ⟨ct1, ct2⟩ := dStops_cells ht
 have hst : stopOk m (x1, x2, x3) = (inI 0 x1 (m - 1) && inI 0 x2 100000 && inI 0 x3 100000 && decide (x2 < x3)) := by
  simp [stopOk, wB, inI, Bool.and_assoc]
 generalize hb1 : inI 0 x1 (m - 1) = b1 at *
 generalize hb2 : inI 0 x2 100000 = b2 at *
 generalize hb3 : inI 0 x3 100000 = b3 at *
 generalize hb4 : decide (x2 < x3) = b4 at *
 refine answers_of hT (orcF_none rfl) ?_
 simp only [oo, om, op, og, ci, cl, c36]
 have HH1 := zA h39 (zA w1 (zA rc (zA rt (zA cc1 (zA cc2 (zA ct1 (zA ct2 (zA hb1 (zA hb2 (zA hb3 hb4))))))))))
 refine zS ?_
 refine zR (zO (by simp [zC h39, oIn, HH1]; rfl) ?_)
 simp only [zT, zB]
 refine zS ?_
 rw [hst]
 cases b1 <;> cases b2 <;> cases b3 <;> (refine zR (zO (by simp [zC h39, oIn, HH1]; rfl) ?_); simp only [zT, zB]; refine runs_ret ?_; simp [zC h39, oIn, HH1])
def oStopR : List AVal → Option AVal
  | [.agg [.int .i64 m, c, t], .agg [.int .i64 x1, .int .i64 x2, .int .i64 x3]] => match dInts2 c, dStops t with
    | some _, some _ => if 1 ≤ m ∧ m ≤ 4 then some (.bool (stopOk m (x1, x2, x3))) else none
    | _, _ => none
  | _ => none
theorem stopR_eq {m x1 x2 x3 : Int} {c t : AVal} {cs : List (List Int)} {ts : List FStop} (hc : dInts2 c = some cs) (ht : dStops t = some ts) (hm : 1 ≤ m ∧ m ≤ 4) : oStopR [.agg [I m, c, t], .agg [I x1, I x2, I x3]] = some (.bool (stopOk m (x1, x2, x3))) := by
  simp only [oStopR, hc, ht]; rw [if_pos hm]
noncomputable def FV1 : Nat → Option CFn := upd FU 36 true (oStopR)
theorem FV1_ok : TabOk Tryz.prog GG FV1 := tab_add mixed FU_ok fun args v ho => by
  unfold oStopR at ho; split at ho <;> (try simp only [reduceCtorEq] at ho)
  rename_i m c t x1 x2 x3
  split at ho <;> (try simp only [reduceCtorEq] at ho)
  rename_i cs ts hc ht
  split at ho <;> (try simp only [reduceCtorEq] at ho)
  rename_i hm
  simp only [Option.some.injEq] at ho
  subst ho
  exact a36 Tryz.prog FU rfl rfl m x1 x2 x3 c t hm cs ts hc ht
theorem sE_m {s : FShop} {js : List FJob} (h : inI 1 s.mach 4 = false) : shopE s js = 2 := by unfold shopE; rw [h]; rfl
theorem sE_k {s : FShop} {js : List FJob} (h : inI 1 s.chg.length 4 = false) : shopE s js = 2 := by unfold shopE; rw [h]; cases inI 1 s.mach 4 <;> rfl
theorem all_bad {α : Type} {f : α → Bool} {l : List α} {k : Nat} (hk : k < l.length) (h : f l[k] = false) : l.all f = false := List.all_eq_false.2 ⟨l[k], List.getElem_mem hk, by rw [h]; simp⟩
theorem sE_c {s : FShop} {js : List FJob} (h : s.chg.all (chgOk s.chg.length) = false) : shopE s js = 2 := by unfold shopE; rw [h]; cases inI 1 s.mach 4 <;> cases inI 1 s.chg.length 4 <;> rfl
theorem sE_1 {s : FShop} {js : List FJob} (h1 : inI 1 s.mach 4 = true) (h2 : inI 1 s.chg.length 4 = true) (h3 : s.chg.all (chgOk s.chg.length) = true) : shopE s js = (if 10 < s.stops.length then 5 else if !(s.stops.all (stopOk s.mach)) then 3 else if 6 < js.length then 8 else if !(js.all (jobOk s.mach s.chg.length)) then 4 else 0) := by
  unfold shopE; rw [h1, h2, h3]; rfl
theorem all_get {α : Type} {f : α → Bool} {l : List α} (h : ∀ p (hp : p < l.length), f l[p] = true) : l.all f = true := by
  rw [List.all_eq_true]
  intro x hx
  obtain ⟨p, hp, rfl⟩ := List.mem_iff_getElem.1 hx
  exact h p hp
theorem a24 (P : Program) (T : Nat → Option CFn) (hT : T 24 = some c24) (h39 : T 39 = some { c39 with frsh := true, orc := oIn }) (h36 : T 36 = some { c36 with frsh := true, orc := oStopR }) (s : FShop) (js : List FJob) (c t j : AVal) (hc : dInts2 c = some s.chg) (ht : dStops t = some s.stops) (hj : dJobs j = some js) (hz : SizeOk s js) : Answers P T 24 [.agg [I s.mach, c, t], j] [] fun v h => frz true h 5 v = some (I (shopE s js)) := by
 have fc := fun H d => dInts2_frz hc H d
 have ft := fun H d => dStops_frz ht H d
 have fj := fun H d => dJobs_frz hj H d
 have rc := fun n d => dInts2_rb hc n d
 have rt := fun n d => dStops_rb ht n d
 have rj := fun n d => dJobs_rb hj n d
 have lc := dInts2_len hc
 have lt := dStops_len ht
 have lj := dJobs_len hj
 obtain ⟨cc1, cc2⟩ := dInts2_cells hc
 obtain ⟨ct1, ct2⟩ := dStops_cells ht
 obtain ⟨cj1, cj2⟩ := dJobs_cells hj
 refine answers_of hT (orcF_none rfl) ?_
 simp only [oo, om, op, og, ci, cl, c24]
 have HH1 := zA h39 (zA h36 (zA fc (zA ft (zA fj (zA rc (zA rt (zA rj (zA lc (zA lt (zA lj (zA cc1 (zA cc2 (zA ct1 (zA ct2 (zA cj1 cj2)))))))))))))))
 refine zS ?_
 refine zR (zO (by simp [zC h39, zC h36, -lenA, oIn, HH1]; rfl) ?_)
 simp only [zT, zB]
 refine zS ?_
 refine zR (zO (by simp [zC h39, zC h36, -lenA, oIn, HH1]; rfl) ?_)
 simp only [zT, zB]
 refine zS ?_
 refine zS ?_
 rcases hb1 : inI 1 s.mach 4 with _ | _
 ·rw [sE_m hb1]
  refine zR (zO (by simp [zC h39, zC h36, -lenA, oIn, HH1, hb1]; rfl) ?_)
  simp only [zT, zB]
  refine runs_cond (x := true) (by simp) ?_
  refine zS ?_
  refine zR (zO (by simp [zC h39, zC h36, -lenA, oIn, HH1, hb1]; rfl) ?_)
  simp only [zT, zB]
  refine runs_ret ?_
  simp [zC h39, zC h36, -lenA, oIn, HH1, hb1, trim]
 ·rcases hb2 : inI 1 (s.chg.length : Int) 4 with _ | _
  ·rw [sE_k hb2]
   refine zR (zO (by simp [zC h39, zC h36, -lenA, oIn, HH1, hb1, hb2]; rfl) ?_)
   simp only [zT, zB]
   refine runs_cond (x := true) (by simp) ?_
   refine zS ?_
   refine zR (zO (by simp [zC h39, zC h36, -lenA, oIn, HH1, hb1, hb2]; rfl) ?_)
   simp only [zT, zB]
   refine runs_ret ?_
   simp [zC h39, zC h36, -lenA, oIn, HH1, hb1, hb2, trim]
  ·have hmm : 1 ≤ s.mach ∧ s.mach ≤ 4 := by simpa [inI] using hb1
   have hkk : 1 ≤ s.chg.length ∧ s.chg.length ≤ 4 := by have := hb2; simp [inI] at this; omega
   refine zR (zO (by simp [zC h39, zC h36, -lenA, oIn, HH1, hb1, hb2]; rfl) ?_)
   simp only [zT, zB]
   refine runs_cond (x := false) (by simp) ?_
   refine zK ?_
   simp only [zT, zB]
   refine zS ?_
   refine zS ?_
   refine zR (zO (by simp [zC h39, zC h36, -lenA, oIn, HH1, hb1, hb2]; rfl) ?_)
   simp only [zT, zB]
   refine zL ?_
   refine runs_loop_inv (fun m σ => ∃ (k : Nat) (i : Int), i = k ∧ s.chg.length - k = m ∧ k ≤ s.chg.length ∧ (∀ p (hp : p < s.chg.length), p < k → chgOk s.chg.length s.chg[p] = true) ∧ σ = ⟨[.any, j, .ref 0 0 0, .any, .any, I (s.chg.length : Int), I i, .any, .any, .any, .any, .any, .any, .any, .any, .any, .any, .any, .any, .any, .any, .any, .any, .any, .any, .any, .any, .any, .any, .any, .any, .any, .any, .any, .any, .any, .any, .any, .any, .any, .any, .any, .any, .any, .any, .any, .any, .any, .any, .any, .any, .any, .any, .any, .any, .any, .any, .any, .any, .any, .any, .any, .any, .any, .any, .any, .any, .any, .any, .any, .any, .any, .any, .any, .any, .any, .any, .any, .any, .any, .any, .any, .any, .any, .any, .any, .any, .any, .any, .any, .any, .any, .any, .any, .any, .any, .any, .any, .any, .any, .any, .any, .any, .any, .any, .any, .any, .any, .any, .any, .any, .any, .any, .any, .any, .any, .any, .any, .any, .any, .any, .any, .any], [some (.row 3 [[I s.mach, c, t]])]⟩) ?_ (s.chg.length - 0) _ ⟨0, 0, rfl, rfl, Nat.zero_le _, fun p hp h => absurd h (Nat.not_lt_zero _), by simp⟩
   rintro m σ ⟨k, i, hik, rfl, hkl, hK, rfl⟩
   refine zS ?_
   refine zS ?_
   refine zR (zO (by simp [zC h39, zC h36, -lenA, oIn, HH1, hb1, hb2]; rfl) ?_)
   simp only [zT, zB]
   refine runs_cond_split (x := decide (i < (s.chg.length : Int))) (by simp) (fun hlt => ?_) (fun hlt => ?_)
   ·have hlt := of_decide_eq_true hlt
    have hk0 : k < s.chg.length := by omega
    have hi0 : 0 ≤ i := by omega
    have htn : i.toNat = k := by omega
    have hwi : W .i64 (i + 1) = i + 1 := W_small (by omega)
    obtain ⟨cr, tc, wc, rfl, hq1c, hq2c, hwc⟩ := dInts2_get hc hk0
    have hkc : k < cr.length := by omega
    have hq4c : ∀ h, cr[k]'h = [wc] := fun h => by rw [List.getElem?_eq_getElem h] at hq2c; exact Option.some.inj hq2c
    have rwc := fun n d => dInts_rb hwc n d
    have fwc := fun H d => dInts_frz hwc H d
    have lwc := dInts_len hwc
    obtain ⟨cwc, cwd⟩ := dInts_cells hwc
    have hln : ((s.chg[k].length : Int) != (s.chg.length : Int)) = !(decide (s.chg[k].length = s.chg.length)) := by
     by_cases e : s.chg[k].length = s.chg.length
     ·simp [e]
     ·have e2 : ¬ (s.chg[k].length : Int) = (s.chg.length : Int) := by omega
      simp [e, e2]
    have HH2 := zA hb1 (zA hb2 (zA hi0 (zA htn (zA hk0 (zA hwi (zA hkc (zA hq2c (zA hq4c (zA rwc (zA fwc (zA lwc (zA cwc cwd))))))))))))
    refine zK ?_
    simp only [zT, zB]
    refine zS ?_
    refine zL ?_
    refine zS ?_
    refine zS ?_
    refine zR (zO (by simp [zC h39, zC h36, -lenA, oIn, HH1, HH2]; rfl) ?_)
    simp only [zT, zB]
    refine runs_cond_split (x := !decide (s.chg[k].length = s.chg.length)) (by simp [hln]) (fun hl => ?_) (fun hl => ?_)
    ·have hx : ¬ s.chg[k].length = s.chg.length := by simpa using hl
     have hx2 : chgOk s.chg.length s.chg[k] = false := by unfold chgOk; simp [hx]
     rw [sE_c (all_bad hk0 hx2)]
     refine zS ?_
     refine zR (zO (by simp [zC h39, zC h36, -lenA, oIn, HH1, HH2]; rfl) ?_)
     simp only [zT, zB]
     refine runs_ret ?_
     simp [zC h39, zC h36, -lenA, oIn, HH1, HH2, trim]
    ·have hx : s.chg[k].length = s.chg.length := by simpa using hl
     refine zK ?_
     simp only [zT, zB]
     refine zS ?_
     refine zR (zO (by simp [zC h39, zC h36, -lenA, oIn, HH1, HH2, hx]; rfl) ?_)
     simp only [zT, zB]
     refine zL ?_
     refine runs_loop_inv (fun m2 σ => ∃ (z : Nat) (g : Int), g = z ∧ s.chg.length - z = m2 ∧ z ≤ s.chg.length ∧ (∀ p (hp : p < s.chg[k].length), p < z → (decide (0 ≤ s.chg[k][p]) && decide (s.chg[k][p] ≤ 500)) = true) ∧ σ = ⟨[.any, j, .ref 0 0 0, .any, .any, I (s.chg.length : Int), I i, I g, .any, .any, .any, .any, .any, .any, .any, .any, .any, .any, .any, .any, .any, .any, .any, .any, .any, .any, .any, .any, .any, .any, .any, .any, .any, .any, .any, .any, .any, .any, .any, .any, .any, .any, .any, .any, .any, .any, .any, .any, .any, .any, .any, .any, .any, .any, .any, .any, .any, .any, .any, .any, .any, .any, .any, .any, .any, .any, .any, .any, .any, .any, .any, .any, .any, .any, .any, .any, .any, .any, .any, .any, .any, .any, .any, .any, .any, .any, .any, .any, .any, .any, .any, .any, .any, .any, .any, .any, .any, .any, .any, .any, .any, .any, .any, .any, .any, .any, .any, .any, .any, .any, .any, .any, .any, .any, .any, .any, .any, .any, .any, .any, .any, .any, .any], [some (.row 3 [[I s.mach, .vl cr tc, t]])]⟩) ?_ (s.chg.length - 0) _ ⟨0, 0, rfl, rfl, Nat.zero_le _, fun p hp h => absurd h (Nat.not_lt_zero _), by simp⟩
     rintro m2 σ ⟨z, g, hgz, rfl, hzm, hZ, rfl⟩
     refine zS ?_
     refine zS ?_
     refine zR (zO (by simp [zC h39, zC h36, -lenA, oIn, HH1, HH2, hx]; rfl) ?_)
     simp only [zT, zB]
     refine runs_cond_split (x := decide (g < (s.chg.length : Int))) (by simp) (fun hlt2 => ?_) (fun hlt2 => ?_)
     ·have hlt2 := of_decide_eq_true hlt2
      have hz0 : z < s.chg[k].length := by omega
      have hz1 : z < s.chg.length := by omega
      have hg0 : 0 ≤ g := by omega
      have hgn : g.toNat = z := by omega
      have hgs : g < (s.chg[k].length : Int) := by omega
      have hgt : g < (s.chg.length : Int) := by omega
      have hwg : W .i64 (g + 1) = g + 1 := W_small (by omega)
      obtain ⟨tw, rfl⟩ := dInts_get hwc hz0
      generalize hV : s.chg[k][z] = V at *
      rcases hb : inI 0 V 500 with _ | _
      ·have hx2 : chgOk s.chg.length s.chg[k] = false := by
        have hw : wB 0 500 s.chg[k] = false := all_bad hz0 (by rw [hV]; simpa [inI] using hb)
        unfold chgOk; rw [hw]; simp
       rw [sE_c (all_bad hk0 hx2)]
       have HH3 := zA hx (zA hz0 (zA hz1 (zA hg0 (zA hgn (zA hgs (zA hgt (zA hwg (zA hV hb))))))))
       refine zK ?_
       simp only [zT, zB]
       refine zS ?_
       refine zL ?_
       refine zS ?_
       refine zR (zO (by simp [zC h39, zC h36, -lenA, oIn, HH1, HH2, zI, HH3]; rfl) ?_)
       simp only [zT, zB]
       refine runs_cond (x := true) (by simp) ?_
       refine zS ?_
       refine zR (zO (by simp [zC h39, zC h36, -lenA, oIn, HH1, HH2, zI, HH3]; rfl) ?_)
       simp only [zT, zB]
       refine runs_ret ?_
       simp [zC h39, zC h36, -lenA, oIn, HH1, HH2, zI, HH3, trim]
      ·have HH4 := zA hx (zA hz0 (zA hz1 (zA hg0 (zA hgn (zA hgs (zA hgt (zA hwg (zA hV hb))))))))
       refine zK ?_
       simp only [zT, zB]
       refine zS ?_
       refine zL ?_
       refine zS ?_
       refine zR (zO (by simp [zC h39, zC h36, -lenA, oIn, HH1, HH2, zI, HH4]; rfl) ?_)
       simp only [zT, zB]
       refine runs_cond (x := false) (by simp) ?_
       refine zK ?_
       simp only [zT, zB]
       refine zR (zO (by simp [zC h39, zC h36, -lenA, oIn, HH1, HH2, zI, HH4]; rfl) ?_)
       simp only [zT, zB]
       exact ⟨s.chg.length - (z + 1), by omega, z + 1, g + 1, by omega, rfl, by omega, (fun p hp hp2 => by
        by_cases e : p = z
        ·subst e; rw [hV]; simpa [inI] using hb
        ·exact hZ p hp (by omega)), by simp [trim, zC h39, zC h36, -lenA, oIn, HH1, HH2, zI, HH4]⟩
     ·have hlt2 := of_decide_eq_false hlt2
      have hzE : z = s.chg.length := by omega
      have hok : chgOk s.chg.length s.chg[k] = true := by
       have hw : wB 0 500 s.chg[k] = true := all_get fun p hp => hZ p hp (by omega)
       unfold chgOk; rw [hw, hx]; simp
      refine runs_exit ?_
      simp only [zT, zB, if_true, if_false, reduceIte, Nat.reduceEqDiff, Nat.succ_ne_zero, Nat.one_ne_zero, Nat.zero_ne_one]
      refine zR (zO (by simp [zC h39, zC h36, -lenA, oIn, HH1, HH2, hx]; rfl) ?_)
      simp only [zT, zB]
      exact ⟨s.chg.length - (k + 1), by omega, k + 1, i + 1, by omega, rfl, by omega, (fun p hp hp2 => by
       by_cases e : p = k
       ·subst e; exact hok
       ·exact hK p hp (by omega)), by simp [trim, zC h39, zC h36, -lenA, oIn, HH1, HH2, hx]⟩
   ·have hlt := of_decide_eq_false hlt
    have hkE : k = s.chg.length := by omega
    have hC : s.chg.all (chgOk s.chg.length) = true := all_get fun p hp => hK p hp (by omega)
    rw [sE_1 hb1 hb2 hC]
    clear hK hkE hlt hkl hik
    have e10 : decide ((10 : Int) < (s.stops.length : Int)) = decide (10 < s.stops.length) := by rw [decide_eq_decide]; omega
    have e6 : decide ((6 : Int) < (js.length : Int)) = decide (6 < js.length) := by rw [decide_eq_decide]; omega
    refine runs_exit ?_
    simp only [zT, zB, if_true, if_false, reduceIte, Nat.reduceEqDiff, Nat.succ_ne_zero, Nat.one_ne_zero, Nat.zero_ne_one]
    refine zS ?_
    refine zS ?_
    refine zR (zO (by simp [zC h39, zC h36, -lenA, oIn, HH1, hb1, hb2, e10, e6]; rfl) ?_)
    simp only [zT, zB]
    refine runs_cond_split (x := decide (10 < s.stops.length)) (by simp) (fun h10 => ?_) (fun h10 => ?_)
    ·rw [if_pos (of_decide_eq_true h10)]
     refine zS ?_
     refine zR (zO (by simp [zC h39, zC h36, -lenA, oIn, HH1, hb1, hb2, e10, e6]; rfl) ?_)
     simp only [zT, zB]
     refine runs_ret ?_
     simp [zC h39, zC h36, -lenA, oIn, HH1, hb1, hb2, e10, e6, trim]
    ·have h10 := of_decide_eq_false h10
     rw [if_neg h10]
     refine zK ?_
     simp only [zT, zB]
     refine zS ?_
     refine zS ?_
     refine zR (zO (by simp [zC h39, zC h36, -lenA, oIn, HH1, hb1, hb2, e10, e6]; rfl) ?_)
     simp only [zT, zB]
     refine zL ?_
     refine runs_loop_inv (fun m σ => ∃ (k : Nat) (i : Int), i = k ∧ s.stops.length - k = m ∧ k ≤ s.stops.length ∧ (∀ p (hp : p < s.stops.length), p < k → stopOk s.mach s.stops[p] = true) ∧ σ = ⟨[.any, j, .ref 0 0 0, .any, .any, I (s.chg.length : Int), .any, .any, I i, .any, .any, .any, .any, .any, .any, .any, .any, .any, .any, .any, .any, .any, .any, .any, .any, .any, .any, .any, .any, .any, .any, .any, .any, .any, .any, .any, .any, .any, .any, .any, .any, .any, .any, .any, .any, .any, .any, .any, .any, .any, .any, .any, .any, .any, .any, .any, .any, .any, .any, .any, .any, .any, .any, .any, .any, .any, .any, .any, .any, .any, .any, .any, .any, .any, .any, .any, .any, .any, .any, .any, .any, .any, .any, .any, .any, .any, .any, .any, .any, .any, .any, .any, .any, .any, .any, .any, .any, .any, .any, .any, .any, .any, .any, .any, .any, .any, .any, .any, .any, .any, .any, .any, .any, .any, .any, .any, .any, .any, .any, .any, .any, .any, .any], [some (.row 3 [[I s.mach, c, t]])]⟩) ?_ (s.stops.length - 0) _ ⟨0, 0, rfl, rfl, Nat.zero_le _, fun p hp h => absurd h (Nat.not_lt_zero _), by simp⟩
     rintro m σ ⟨k, i, hik, rfl, hkl, hK, rfl⟩
     refine zS ?_
     refine zS ?_
     refine zR (zO (by simp [zC h39, zC h36, -lenA, oIn, HH1, hb1, hb2, e10, e6]; rfl) ?_)
     simp only [zT, zB]
     refine runs_cond_split (x := decide (i < (s.stops.length : Int))) (by simp) (fun hlt => ?_) (fun hlt => ?_)
     ·have hlt := of_decide_eq_true hlt
      have hk0 : k < s.stops.length := by omega
      have hi0 : 0 ≤ i := by omega
      have htn : i.toNat = k := by omega
      have hwi : W .i64 (i + 1) = i + 1 := W_small (by omega)
      obtain ⟨ta, rfl⟩ := dStops_get ht hk0
      have hq := stopR_eq (x1 := s.stops[k].1) (x2 := s.stops[k].2.1) (x3 := s.stops[k].2.2) hc ht hmm
      rcases hb : stopOk s.mach s.stops[k] with _ | _
      ·rw [all_bad hk0 hb]
       have HH5 := zA hb1 (zA hb2 (zA e10 (zA e6 (zA hi0 (zA htn (zA hk0 (zA hwi (zA hq hb))))))))
       refine zK ?_
       simp only [zT, zB]
       refine zS ?_
       refine zL ?_
       refine zS ?_
       refine runs_drw (by simp (maxSteps := 3000000) [zC h39, zC h36, -lenA, oIn, HH1, rS3, HH5]; rfl) ?_
       simp only [zT, zB]
       refine runs_cond (x := true) (by simp) ?_
       refine zS ?_
       refine zR (zO (by simp [zC h39, zC h36, -lenA, oIn, HH1, rS3, HH5]; rfl) ?_)
       simp only [zT, zB]
       refine runs_ret ?_
       simp [zC h39, zC h36, -lenA, oIn, HH1, rS3, HH5, trim]
      ·have HH6 := zA hb1 (zA hb2 (zA e10 (zA e6 (zA hi0 (zA htn (zA hk0 (zA hwi (zA hq hb))))))))
       refine zK ?_
       simp only [zT, zB]
       refine zS ?_
       refine zL ?_
       refine zS ?_
       refine runs_drw (by simp (maxSteps := 3000000) [zC h39, zC h36, -lenA, oIn, HH1, rS3, HH6]; rfl) ?_
       simp only [zT, zB]
       refine runs_cond (x := false) (by simp) ?_
       refine zK ?_
       simp only [zT, zB]
       refine zR (zO (by simp [zC h39, zC h36, -lenA, oIn, HH1, rS3, HH6]; rfl) ?_)
       simp only [zT, zB]
       exact ⟨s.stops.length - (k + 1), by omega, k + 1, i + 1, by omega, rfl, by omega, (fun p hp hp2 => by
        by_cases e : p = k
        ·subst e; exact hb
        ·exact hK p hp (by omega)), by simp [trim, zC h39, zC h36, -lenA, oIn, HH1, rS3, HH6]⟩
     ·have hlt := of_decide_eq_false hlt
      have hkE : k = s.stops.length := by omega
      have hC2 : s.stops.all (stopOk s.mach) = true := all_get fun p hp => hK p hp (by omega)
      rw [hC2]
      simp only [Bool.not_true, Bool.false_eq_true, if_false]
      clear hK hkE hlt hkl hik
      refine runs_exit ?_
      simp only [zT, zB, if_true, if_false, reduceIte, Nat.reduceEqDiff, Nat.succ_ne_zero, Nat.one_ne_zero, Nat.zero_ne_one]
      refine zS ?_
      refine zS ?_
      refine zR (zO (by simp [zC h39, zC h36, -lenA, oIn, HH1, hb1, hb2, e10, e6]; rfl) ?_)
      simp only [zT, zB]
      refine runs_cond_split (x := decide (6 < js.length)) (by simp) (fun h6 => ?_) (fun h6 => ?_)
      ·rw [if_pos (of_decide_eq_true h6)]
       refine zS ?_
       refine zR (zO (by simp [zC h39, zC h36, -lenA, oIn, HH1, hb1, hb2, e10, e6]; rfl) ?_)
       simp only [zT, zB]
       refine runs_ret ?_
       simp [zC h39, zC h36, -lenA, oIn, HH1, hb1, hb2, e10, e6, trim]
      ·have h6 := of_decide_eq_false h6
       rw [if_neg h6]
       refine zK ?_
       simp only [zT, zB]
       refine zS ?_
       refine zS ?_
       refine zR (zO (by simp [zC h39, zC h36, -lenA, oIn, HH1, hb1, hb2, e10, e6]; rfl) ?_)
       simp only [zT, zB]
       refine zL ?_
       refine runs_loop_inv (fun m σ => ∃ (k : Nat) (i : Int), i = k ∧ js.length - k = m ∧ k ≤ js.length ∧ (∀ p (hp : p < js.length), p < k → jobOk s.mach s.chg.length js[p] = true) ∧ σ = ⟨[.any, j, .ref 0 0 0, .any, .any, I (s.chg.length : Int), .any, .any, .any, I i, .any, .any, .any, .any, .any, .any, .any, .any, .any, .any, .any, .any, .any, .any, .any, .any, .any, .any, .any, .any, .any, .any, .any, .any, .any, .any, .any, .any, .any, .any, .any, .any, .any, .any, .any, .any, .any, .any, .any, .any, .any, .any, .any, .any, .any, .any, .any, .any, .any, .any, .any, .any, .any, .any, .any, .any, .any, .any, .any, .any, .any, .any, .any, .any, .any, .any, .any, .any, .any, .any, .any, .any, .any, .any, .any, .any, .any, .any, .any, .any, .any, .any, .any, .any, .any, .any, .any, .any, .any, .any, .any, .any, .any, .any, .any, .any, .any, .any, .any, .any, .any, .any, .any, .any, .any, .any, .any, .any, .any, .any, .any, .any, .any], [some (.row 3 [[I s.mach, c, t]])]⟩) ?_ (js.length - 0) _ ⟨0, 0, rfl, rfl, Nat.zero_le _, fun p hp h => absurd h (Nat.not_lt_zero _), by simp⟩
       rintro m σ ⟨k, i, hik, rfl, hkl, hK, rfl⟩
       refine zS ?_
       refine zS ?_
       refine zR (zO (by simp [zC h39, zC h36, -lenA, oIn, HH1, hb1, hb2, e10, e6]; rfl) ?_)
       simp only [zT, zB]
       refine runs_cond_split (x := decide (i < (js.length : Int))) (by simp) (fun hlt => ?_) (fun hlt => ?_)
       ·have hlt := of_decide_eq_true hlt
        have hk0 : k < js.length := by omega
        have hi0 : 0 ≤ i := by omega
        have htn : i.toNat = k := by omega
        have hwi : W .i64 (i + 1) = i + 1 := W_small (by omega)
        obtain ⟨jr, tj, wv, rfl, hr1, hr2, hwv⟩ := dJobs_get hj hk0
        have hkr : k < jr.length := by omega
        have hr4 : ∀ h, jr[k]'h = [I js[k].kind, I js[k].ready, I js[k].due, wv] := fun h => by rw [List.getElem?_eq_getElem h] at hr2; exact Option.some.inj hr2
        have rw5 := fun n d => dInts_rb hwv n d
        have fw5 := fun H d => dInts_frz hwv H d
        have lw5 := dInts_len hwv
        obtain ⟨cw1, cw2⟩ := dInts_cells hwv
        have wk1 : W .i64 ((s.chg.length : Int) - 1) = (s.chg.length : Int) - 1 := W_small (by omega)
        have hjk : jobOk s.mach s.chg.length js[k] = (inI 0 js[k].kind ((s.chg.length : Int) - 1) && inI 0 js[k].ready 100000 && inI 0 js[k].due 100000 && decide ((js[k].mins.length : Int) = s.mach) && wB 0 2000 js[k].mins) := by
         simp only [jobOk, wB, inI, List.all_cons, List.all_nil, Bool.and_true, Bool.and_assoc]
         congr 5
        generalize hJk : js[k].kind = Jk at *
        generalize hJr : js[k].ready = Jr at *
        generalize hJd : js[k].due = Jd at *
        generalize hv1 : inI 0 Jk ((s.chg.length : Int) - 1) = v1 at *
        generalize hv2 : inI 0 Jr 100000 = v2 at *
        generalize hv3 : inI 0 Jd 100000 = v3 at *
        have HH7 := zA hb1 (zA hb2 (zA e10 (zA e6 (zA hi0 (zA htn (zA hk0 (zA hwi (zA wk1 (zA hJk (zA hJr (zA hJd (zA hv1 (zA hv2 (zA hv3 (zA hkr (zA hr2 (zA hr4 (zA rw5 (zA fw5 (zA lw5 (zA cw1 cw2)))))))))))))))))))))
        refine zK ?_
        simp only [zT, zB]
        refine zS ?_
        refine zL ?_
        refine zS ?_
        refine zR (zO (by simp [zC h39, zC h36, -lenA, oIn, HH1, HH7]; rfl) ?_)
        simp only [zT, zB]
        refine zS ?_
        refine zS ?_
        rcases v1 with _ | _
        ·rw [all_bad hk0 (by rw [hjk]; simp)]
         refine zR (zO (by simp [zC h39, zC h36, -lenA, oIn, HH1, HH7]; rfl) ?_)
         simp only [zT, zB]
         refine runs_cond (x := true) (by simp) ?_
         refine zS ?_
         refine zR (zO (by simp [zC h39, zC h36, -lenA, oIn, HH1, HH7]; rfl) ?_)
         simp only [zT, zB]
         refine runs_ret ?_
         simp [zC h39, zC h36, -lenA, oIn, HH1, HH7, trim]
        ·rcases v2 with _ | _
         ·rw [all_bad hk0 (by rw [hjk]; simp)]
          refine zR (zO (by simp [zC h39, zC h36, -lenA, oIn, HH1, HH7]; rfl) ?_)
          simp only [zT, zB]
          refine runs_cond (x := true) (by simp) ?_
          refine zS ?_
          refine zR (zO (by simp [zC h39, zC h36, -lenA, oIn, HH1, HH7]; rfl) ?_)
          simp only [zT, zB]
          refine runs_ret ?_
          simp [zC h39, zC h36, -lenA, oIn, HH1, HH7, trim]
         ·rcases v3 with _ | _
          ·rw [all_bad hk0 (by rw [hjk]; simp)]
           refine zR (zO (by simp [zC h39, zC h36, -lenA, oIn, HH1, HH7]; rfl) ?_)
           simp only [zT, zB]
           refine runs_cond (x := true) (by simp) ?_
           refine zS ?_
           refine zR (zO (by simp [zC h39, zC h36, -lenA, oIn, HH1, HH7]; rfl) ?_)
           simp only [zT, zB]
           refine runs_ret ?_
           simp [zC h39, zC h36, -lenA, oIn, HH1, HH7, trim]
          ·generalize hv4 : decide ((js[k].mins.length : Int) = s.mach) = v4 at *
           rcases v4 with _ | _
           ·have hml := of_decide_eq_false hv4
            rw [all_bad hk0 (by rw [hjk]; simp)]
            refine zR (zO (by simp [zC h39, zC h36, -lenA, oIn, HH1, HH7, hv4, hml]; rfl) ?_)
            simp only [zT, zB]
            refine runs_cond (x := true) (by simp [hml]) ?_
            refine zS ?_
            refine zR (zO (by simp [zC h39, zC h36, -lenA, oIn, HH1, HH7, hv4, hml]; rfl) ?_)
            simp only [zT, zB]
            refine runs_ret ?_
            simp [zC h39, zC h36, -lenA, oIn, HH1, HH7, hv4, hml, trim]
           ·have hml := of_decide_eq_true hv4
            refine zR (zO (by simp [zC h39, zC h36, -lenA, oIn, HH1, HH7, hv4, hml]; rfl) ?_)
            simp only [zT, zB]
            refine runs_cond (x := false) (by simp) ?_
            refine zK ?_
            simp only [zT, zB]
            refine zS ?_
            refine zR (zO (by simp [zC h39, zC h36, -lenA, oIn, HH1, HH7, hv4, hml]; rfl) ?_)
            simp only [zT, zB]
            refine zL ?_
            refine runs_loop_inv (fun m2 σ => ∃ (z : Nat) (g : Int), g = z ∧ s.mach.toNat - z = m2 ∧ (z : Int) ≤ s.mach ∧ (∀ p (hp : p < js[k].mins.length), p < z → (decide (0 ≤ js[k].mins[p]) && decide (js[k].mins[p] ≤ 2000)) = true) ∧ σ = ⟨[.any, .vl jr tj, .ref 0 0 0, .any, .any, I (s.chg.length : Int), .any, .any, .any, I i, .ref 1 0 0, I g, .any, .any, .any, .any, .any, .any, .any, .any, .any, .any, .any, .any, .any, .any, .any, .any, .any, .any, .any, .any, .any, .any, .any, .any, .any, .any, .any, .any, .any, .any, .any, .any, .any, .any, .any, .any, .any, .any, .any, .any, .any, .any, .any, .any, .any, .any, .any, .any, .any, .any, .any, .any, .any, .any, .any, .any, .any, .any, .any, .any, .any, .any, .any, .any, .any, .any, .any, .any, .any, .any, .any, .any, .any, .any, .any, .any, .any, .any, .any, .any, .any, .any, .any, .any, .any, .any, .any, .any, .any, .any, .any, .any, .any, .any, .any, .any, .any, .any, .any, .any, .any, .any, .any, .any, .any, .any, .any, .any, .any, .any, .any], [some (.row 3 [[I s.mach, c, t]]), some (.row 4 [[I Jk, I Jr, I Jd, wv]])]⟩) ?_ (s.mach.toNat - 0) _ ⟨0, 0, rfl, rfl, by omega, fun p hp h => absurd h (Nat.not_lt_zero _), by simp⟩
            rintro m2 σ ⟨z, g, hgz, rfl, hzm, hZ, rfl⟩
            refine zS ?_
            refine zS ?_
            refine zR (zO (by simp [zC h39, zC h36, -lenA, oIn, HH1, HH7, hv4, hml]; rfl) ?_)
            simp only [zT, zB]
            refine runs_cond_split (x := decide (g < s.mach)) (by simp) (fun hlt2 => ?_) (fun hlt2 => ?_)
            ·have hlt2 := of_decide_eq_true hlt2
             have hz0 : z < js[k].mins.length := by omega
             have hg0 : 0 ≤ g := by omega
             have hgn : g.toNat = z := by omega
             have hgs : g < (js[k].mins.length : Int) := by omega
             have hwg : W .i64 (g + 1) = g + 1 := W_small (by omega)
             obtain ⟨tw, rfl⟩ := dInts_get hwv hz0
             generalize hV : js[k].mins[z] = V at *
             rcases hb : inI 0 V 2000 with _ | _
             ·have hw : wB 0 2000 js[k].mins = false := all_bad hz0 (by rw [hV]; simpa [inI] using hb)
              rw [all_bad hk0 (by rw [hjk, hw]; simp)]
              have HH8 := zA hv4 (zA hml (zA hz0 (zA hg0 (zA hgn (zA hgs (zA hwg (zA hV hb)))))))
              refine zK ?_
              simp only [zT, zB]
              refine zS ?_
              refine zL ?_
              refine zS ?_
              refine zR (zO (by simp [zC h39, zC h36, -lenA, oIn, HH1, HH7, zI, HH8]; rfl) ?_)
              simp only [zT, zB]
              refine runs_cond (x := true) (by simp) ?_
              refine zS ?_
              refine zR (zO (by simp [zC h39, zC h36, -lenA, oIn, HH1, HH7, zI, HH8]; rfl) ?_)
              simp only [zT, zB]
              refine runs_ret ?_
              simp [zC h39, zC h36, -lenA, oIn, HH1, HH7, zI, HH8, trim]
             ·have HH9 := zA hv4 (zA hml (zA hz0 (zA hg0 (zA hgn (zA hgs (zA hwg (zA hV hb)))))))
              refine zK ?_
              simp only [zT, zB]
              refine zS ?_
              refine zL ?_
              refine zS ?_
              refine zR (zO (by simp [zC h39, zC h36, -lenA, oIn, HH1, HH7, zI, HH9]; rfl) ?_)
              simp only [zT, zB]
              refine runs_cond (x := false) (by simp) ?_
              refine zK ?_
              simp only [zT, zB]
              refine zR (zO (by simp [zC h39, zC h36, -lenA, oIn, HH1, HH7, zI, HH9]; rfl) ?_)
              simp only [zT, zB]
              exact ⟨s.mach.toNat - (z + 1), by omega, z + 1, g + 1, by omega, rfl, by omega, (fun p hp hp2 => by
               by_cases e : p = z
               ·subst e; rw [hV]; simpa [inI] using hb
               ·exact hZ p hp (by omega)), by simp [trim, zC h39, zC h36, -lenA, oIn, HH1, HH7, zI, HH9]⟩
            ·have hlt2 := of_decide_eq_false hlt2
             have hok : jobOk s.mach s.chg.length js[k] = true := by
              have hw : wB 0 2000 js[k].mins = true := all_get fun p hp => hZ p hp (by omega)
              rw [hjk, hw]; rfl
             refine runs_exit ?_
             simp only [zT, zB, if_true, if_false, reduceIte, Nat.reduceEqDiff, Nat.succ_ne_zero, Nat.one_ne_zero, Nat.zero_ne_one]
             refine zR (zO (by simp [zC h39, zC h36, -lenA, oIn, HH1, HH7, hv4, hml]; rfl) ?_)
             simp only [zT, zB]
             exact ⟨js.length - (k + 1), by omega, k + 1, i + 1, by omega, rfl, by omega, (fun p hp hp2 => by
              by_cases e : p = k
              ·subst e; exact hok
              ·exact hK p hp (by omega)), by simp [trim, zC h39, zC h36, -lenA, oIn, HH1, HH7, hv4, hml]⟩
       ·have hlt := of_decide_eq_false hlt
        have hkE : k = js.length := by omega
        have hC3 : js.all (jobOk s.mach s.chg.length) = true := all_get fun p hp => hK p hp (by omega)
        rw [hC3]
        refine runs_exit ?_
        simp only [zT, zB, if_true, if_false, reduceIte, Nat.reduceEqDiff, Nat.succ_ne_zero, Nat.one_ne_zero, Nat.zero_ne_one]
        refine zS ?_
        refine zR (zO (by simp [zC h39, zC h36, -lenA, oIn, HH1, hb1, hb2, e10, e6]; rfl) ?_)
        simp only [zT, zB]
        refine runs_ret ?_
        simp [zC h39, zC h36, -lenA, oIn, HH1, hb1, hb2, e10, e6, trim]
noncomputable def FV : Nat → Option CFn := upd FV1 24 true (oCheck)
theorem FV_ok : TabOk Tryz.prog GG FV := tab_add mixed FV1_ok fun args v ho => by
  unfold oCheck at ho; split at ho <;> (try simp only [reduceCtorEq] at ho)
  rename_i m c t j
  split at ho <;> (try simp only [reduceCtorEq] at ho)
  rename_i cs ts js hc ht hj
  split at ho <;> (try simp only [reduceCtorEq] at ho)
  rename_i hz
  simp only [Option.some.injEq] at ho
  subst ho
  exact a24 Tryz.prog FV1 rfl rfl rfl ⟨m, cs, ts⟩ js c t j hc ht hj (size_ok.1 hz)
end
end Go.Proofs.YtjjapdagllclkaaGreat.Tab

namespace Go.Proofs.YtjjapdagllclkaaGreat.Tab
open Go Go.Abs Go.Proofs
set_option linter.unusedSimpArgs false
set_option linter.unusedVariables false
def cntN (os : List Int) (i : Int) : Nat → Int
 | 0 => 0
 | k + 1 => cntN os i k + if os.getD k 0 = i then 1 else 0
theorem cntN_bd (os : List Int) (i : Int) : ∀ k, 0 ≤ cntN os i k ∧ cntN os i k ≤ k
 | 0 => by simp [cntN]
 | k + 1 => by have := cntN_bd os i k; simp only [cntN]; split <;> omega
theorem cntN_count (os : List Int) (i : Int) : ∀ k, k ≤ os.length → cntN os i k = ((os.take k).count i : Int)
 | 0, _ => by simp [cntN]
 | k + 1, hk => by
  have hk0 : k < os.length := by omega
  rw [cntN, cntN_count os i k (by omega), List.take_succ_eq_append_getElem hk0, List.count_append, List.getD_eq_getElem?_getD, List.getElem?_eq_getElem hk0]
  simp only [Option.getD_some, List.count_cons, List.count_nil, beq_iff_eq]
  split <;> simp
theorem ord_cnt {os : List Int} {n : Nat} (h : ordB os n = true) {i : Int} (hi : 0 ≤ i ∧ i < n) : cntN os i n = 1 := by
 have hl := ord_len h
 rw [cntN_count os i n (by omega), List.take_of_length_le (by omega), (ord_nodup h).count, if_pos ((ord_mem h).2 hi)]; rfl
theorem cnt_ord {os : List Int} {n : Nat} (hl : os.length = n) (h : ∀ i : Nat, i < n → cntN os i n = 1) : ordB os n = true := by
 refine ord_iff.2 ⟨hl, fun i hi => ?_⟩
 have := h i hi
 rw [cntN_count os i n (by omega), List.take_of_length_le (by omega)] at this
 exact List.count_pos_iff.1 (by omega)
theorem conf_max {k n t : Int} {x : FStop} (hn : 0 < n) (hx : x.2.1 < x.2.2) : ((x.1 == k) && decide (max t x.2.1 < min (t + n) x.2.2)) = conf k n t x := by
 unfold conf
 rw [Bool.and_assoc]
 congr 1
 rw [Bool.eq_iff_iff]
 simp only [Bool.and_eq_true, decide_eq_true_eq]
 omega
def nextN (st : List FStop) (k t : Int) : Nat → Int
 | 0 => 1073741824
 | p + 1 => if (st.getD p (0, 0, 0)).1 = k ∧ t < (st.getD p (0, 0, 0)).2.2 then min (nextN st k t p) (st.getD p (0, 0, 0)).2.2 else nextN st k t p
def nextF (st : List FStop) (k t : Int) : Int := nextN st k t st.length
theorem nextN_spec (st : List FStop) (k t : Int) : ∀ p, p ≤ st.length → (∀ q (hq : q < st.length), q < p → st[q].1 = k → t < st[q].2.2 → nextN st k t p ≤ st[q].2.2) ∧ (nextN st k t p = 1073741824 ∨ ∃ x ∈ st, x.1 = k ∧ t < x.2.2 ∧ nextN st k t p = x.2.2)
 | 0, _ => ⟨fun q _ hq => by omega, .inl rfl⟩
 | p + 1, hp => by
  have ⟨ih1, ih2⟩ := nextN_spec st k t p (by omega)
  have hp0 : p < st.length := by omega
  have hg : st.getD p (0, 0, 0) = st[p] := by rw [List.getD_eq_getElem?_getD, List.getElem?_eq_getElem hp0]; rfl
  simp only [nextN, hg]
  by_cases hc : st[p].1 = k ∧ t < st[p].2.2
  ·rw [if_pos hc]
   refine ⟨fun q hq hqp h1 h2 => ?_, ?_⟩
   ·by_cases e : q = p
    ·subst e; omega
    ·have := ih1 q hq (by omega) h1 h2; omega
   ·rcases Int.le_total (nextN st k t p) st[p].2.2 with h | h
    ·rw [Int.min_eq_left h]; exact ih2
    ·rw [Int.min_eq_right h]; exact .inr ⟨st[p], List.getElem_mem hp0, hc.1, hc.2, rfl⟩
  ·rw [if_neg hc]
   refine ⟨fun q hq hqp h1 h2 => ?_, ih2⟩
   by_cases e : q = p
   ·subst e; exact absurd ⟨h1, h2⟩ hc
   ·exact ih1 q hq (by omega) h1 h2
theorem next_step {st : List FStop} {k n t : Int} (h : st.any (conf k n t) = true) (hM : ∀ x ∈ st, x.2.2 ≤ 100000) : t < nextF st k t ∧ t < 100000 ∧ nextF st k t ≤ 100000 ∧ ∀ u, FreeAt st k n (nextF st k t) u → FreeAt st k n t u := by
 obtain ⟨x, hx, hc⟩ := List.any_eq_true.1 h
 simp only [conf, Bool.and_eq_true, beq_iff_eq, decide_eq_true_eq] at hc
 obtain ⟨⟨c1, c2⟩, c3⟩ := hc
 have ⟨s1, s2⟩ := nextN_spec st k t st.length (Nat.le_refl _)
 change _ ∧ _ at *
 have hxm := hM x hx
 obtain ⟨q, hq, rfl⟩ := List.mem_iff_getElem.1 hx
 have hle : nextF st k t ≤ st[q].2.2 := s1 q hq hq c1 c2
 have hlt : t < nextF st k t := by
  rcases s2 with h2 | ⟨y, hy, y1, y2, y3⟩
  ·unfold nextF at hle; omega
  ·unfold nextF; omega
 refine ⟨hlt, by omega, by omega, fun u hu => ⟨by have := hu.low; omega, hu.free, fun v hv hf => ?_⟩⟩
 refine hu.least v ?_ hf
 by_cases hvn : nextF st k t ≤ v
 ·exact hvn
 ·have := hf _ hx
  have hcv : conf k n v st[q] = true := by
   simp only [conf, Bool.and_eq_true, beq_iff_eq, decide_eq_true_eq]
   exact ⟨⟨c1, by omega⟩, by omega⟩
  rw [hcv] at this; cases this
theorem free_of {st : List FStop} {k n t : Int} (h : st.any (conf k n t) = false) : FreeAt st k n t t :=
 freeAt_self fun x hx => by
  have := List.any_eq_false.1 h x hx
  simpa using this
end Go.Proofs.YtjjapdagllclkaaGreat.Tab

namespace Go.Proofs.YtjjapdagllclkaaGreat.Tab
open Go Go.Abs Go.Proofs
set_option maxRecDepth 100000
set_option maxHeartbeats 4000000
set_option linter.unusedSimpArgs false
set_option linter.unusedVariables false
section
attribute [local simp] frz_int frz_bool frz_vl frz_pv frz_agg frz_tup frz_fn frz_ref frz_sl frz_nils optAll orcF rb_int rb_bool rb_agg rb_tup rb_int' rb_bool' rb_vl rb_pv rb_yld rb_nilf rb_nilp rb_nils rb_any rb_und rb_ref rb_sl rb_fn slE chunk fillA evParts evParts3 putAt List.range_succ List.range_zero List.range'_succ List.range'_zero runX_nil' unary_not evalS_pure evAll_nil evAll_cons runX_cons stepX wantedA dop CV.ev putK_eq setK_eq appK_eq fA_eq fI_eq fN_eq fRow_eq fRows_eq nth_eq Out.v putT List.replicate_succ zT zB arI pointee Abs.rowAt ldRow allV toV toC ofV ofC Builtin.min_ Builtin.min2 Builtin.max_ Builtin.max2 min_if max_if resA tupA kill trim_self trim_len trim_emp trim_nil lenA
attribute [local simp] runD_nil' runD_cons' stepD actK_eq actD clash disj masks holes maskH unmaskH diffs news eqB allB eqA ldRowN wrote toCs ofCs stA rowsV_vl rowsV_nils rowsOf dI1 dI2 dI3 dI5 elt
attribute [local simp] st_any st_und st_agg st_tup st_bool st_int st_nilp st_ref st_pv st_nils st_sl st_vl st_nilm st_mp st_fn st_nilf st_yld co_any co_und co_agg co_tup co_bool co_int co_nilp co_ref co_pv co_nils co_sl co_vl co_nilm co_mp co_fn co_nilf co_yld
attribute [local simp] callA calleeA lop loud rbB_none rbB_row
theorem take_anyR {f : FStop → Bool} {st : List FStop} {p : Nat} (hp : p < st.length) : (st.take (p + 1)).any f = ((st.take p).any f || f st[p]) := by
  rw [List.take_succ_eq_append_getElem hp, List.any_append]; simp
theorem any_takeR {f : FStop → Bool} {st : List FStop} {p : Nat} (h : (st.take p).any f = true) : st.any f = true := by
  obtain ⟨x, hx, hf⟩ := List.any_eq_true.1 h
  exact List.any_eq_true.2 ⟨x, List.mem_of_mem_take hx, hf⟩
theorem a25 (P : Program) (T : Nat → Option CFn) (hT : T 25 = some c25) (o : AVal) (os : List Int) (ho : dInts o = some os) (n : Nat) (hn : n ≤ 1000) : Answers P T 25 [o, I (n : Int)] [] fun v h => frz true h 5 v = some (.bool (ordB os n)) := by
 have lo := dInts_len ho
 have hln : ((os.length : Int) != (n : Int)) = !(decide (os.length = n)) := by
  by_cases e : os.length = n
  ·simp [e]
  ·have e2 : ¬ (os.length : Int) = (n : Int) := by omega
   simp [e, e2]
 refine answers_of hT (orcF_none rfl) ?_
 simp only [oo, om, op, og, ci, cl, c25]
 refine zS ?_
 refine zR (zO (by simp [lo, -lenA]; rfl) ?_)
 simp only [zT, zB]
 refine zS ?_
 refine zS ?_
 refine zR (zO (by simp [lo, -lenA]; rfl) ?_)
 simp only [zT, zB]
 refine runs_cond_split (x := !decide (os.length = n)) (by simp [hln]) (fun hl => ?_) (fun hl => ?_)
 ·have hne : ¬ os.length = n := by simpa using hl
  have hb : ordB os n = false := by
   cases e : ordB os n with
   | false => rfl
   | true => exact absurd (ord_len e) hne
  rw [hb]
  refine zS ?_
  refine zR (zO (by simp [lo, -lenA]; rfl) ?_)
  simp only [zT, zB]
  refine runs_ret ?_
  simp [lo, -lenA]
 ·have hln2 : os.length = n := by simpa using hl
  refine zK ?_
  simp only [zT, zB]
  refine zS ?_
  refine zS ?_
  refine zR (zO (by simp [lo, -lenA]; rfl) ?_)
  simp only [zT, zB]
  refine zL ?_
  refine runs_loop_inv (fun m σ => ∃ (k : Nat) (i : Int), i = k ∧ n - k = m ∧ k ≤ n ∧ (∀ p : Nat, p < k → cntN os p n = 1) ∧ σ = ⟨[o, I (n : Int), .any, .any, .any, I i, .any, .any, .any, .any, .any, .any, .any, .any, .any, .any, .any, .any, .any, .any, .any, .any, .any, .any, .any, .any, .any, .any, .any, .any, .any, .any], []⟩) ?_ (n - 0) _ ⟨0, 0, rfl, rfl, Nat.zero_le _, fun p h => absurd h (Nat.not_lt_zero _), by simp⟩
  rintro m σ ⟨k, i, hik, rfl, hkl, hK, rfl⟩
  refine zS ?_
  refine zS ?_
  refine zR (zO (by simp [lo, -lenA]; rfl) ?_)
  simp only [zT, zB]
  refine runs_cond_split (x := decide (i < (n : Int))) (by simp) (fun hlt => ?_) (fun hlt => ?_)
  ·have hlt := of_decide_eq_true hlt
   have hi0 : 0 ≤ i := by omega
   have hwi : W .i64 (i + 1) = i + 1 := W_small (by omega)
   refine zK ?_
   simp only [zT, zB]
   refine zS ?_
   refine zL ?_
   refine zS ?_
   refine zR (zO (by simp [lo, -lenA, hi0, hwi]; rfl) ?_)
   simp only [zT, zB]
   refine zS ?_
   refine zS ?_
   refine zR (zO (by simp [lo, -lenA, hi0, hwi]; rfl) ?_)
   simp only [zT, zB]
   refine zL ?_
   refine runs_loop_inv (fun m2 σ => ∃ (z : Nat) (g : Int), g = z ∧ n - z = m2 ∧ z ≤ n ∧ σ = ⟨[o, I (n : Int), .any, .any, .any, I i, I (cntN os i z), I g, .any, .any, .any, .any, .any, .any, .any, .any, .any, .any, .any, .any, .any, .any, .any, .any, .any, .any, .any, .any, .any, .any, .any, .any], []⟩) ?_ (n - 0) _ ⟨0, 0, rfl, rfl, Nat.zero_le _, by simp [cntN]⟩
   rintro m2 σ ⟨z, g, hgz, rfl, hzm, rfl⟩
   refine zS ?_
   refine zS ?_
   refine zR (zO (by simp [lo, -lenA, hi0, hwi]; rfl) ?_)
   simp only [zT, zB]
   refine runs_cond_split (x := decide (g < (n : Int))) (by simp) (fun hlt2 => ?_) (fun hlt2 => ?_)
   ·have hlt2 := of_decide_eq_true hlt2
    have hz0 : z < os.length := by omega
    have hg0 : 0 ≤ g := by omega
    have hgn : g.toNat = z := by omega
    have hwg : W .i64 (g + 1) = g + 1 := W_small (by omega)
    have hcb := cntN_bd os i z
    obtain ⟨to, rfl⟩ := dInts_get ho hz0
    have hcs : cntN os i (z + 1) = cntN os i z + if os[z] = i then 1 else 0 := by rw [cntN, List.getD_eq_getElem?_getD, List.getElem?_eq_getElem hz0]; rfl
    generalize hV : os[z] = V at *
    generalize hC : cntN os i z = C at *
    have hwC : W .i64 (C + 1) = C + 1 := W_small (by omega)
    have HH1 := zA lo (zA hi0 (zA hwi (zA hz0 (zA hg0 (zA hgn (zA hwg (zA hV hwC)))))))
    refine zK ?_
    simp only [zT, zB]
    refine zS ?_
    refine zL ?_
    refine zS ?_
    refine zR (zO (by simp [-lenA, zI, HH1]; rfl) ?_)
    simp only [zT, zB]
    refine runs_cond_split (x := (V == i)) (by simp) (fun he => ?_) (fun he => ?_)
    ·have he2 : V = i := by simpa using he
     refine zR (zO (by simp [-lenA, zI, HH1]; rfl) ?_)
     simp only [zT, zB]
     refine zR (zO (by simp [-lenA, zI, HH1]; rfl) ?_)
     simp only [zT, zB]
     exact ⟨n - (z + 1), by omega, z + 1, g + 1, by omega, rfl, by omega, by rw [hcs, if_pos he2]; simp [-lenA, zI, HH1]⟩
    ·have he2 : ¬ V = i := by simpa using he
     refine zK ?_
     simp only [zT, zB]
     refine zR (zO (by simp [-lenA, zI, HH1]; rfl) ?_)
     simp only [zT, zB]
     exact ⟨n - (z + 1), by omega, z + 1, g + 1, by omega, rfl, by omega, by rw [hcs, if_neg he2]; simp [-lenA, zI, HH1]⟩
   ·have hlt2 := of_decide_eq_false hlt2
    have hzE : z = n := by omega
    subst hzE
    refine runs_exit ?_
    simp only [zT, zB, if_true, if_false, reduceIte, Nat.reduceEqDiff, Nat.succ_ne_zero, Nat.one_ne_zero, Nat.zero_ne_one]
    refine zS ?_
    refine zR (zO (by simp [lo, -lenA, hi0, hwi]; rfl) ?_)
    simp only [zT, zB]
    refine runs_cond_split (x := !(cntN os i z == 1)) (by simp [bne]) (fun hcc => ?_) (fun hcc => ?_)
    ·have hc1 : ¬ cntN os i z = 1 := by simpa using hcc
     have hb : ordB os z = false := by
      cases e : ordB os z with
      | false => rfl
      | true => exact absurd (ord_cnt e ⟨hi0, hlt⟩) hc1
     rw [hb]
     refine zS ?_
     refine zR (zO (by simp [lo, -lenA, hi0, hwi]; rfl) ?_)
     simp only [zT, zB]
     refine runs_ret ?_
     simp [lo, -lenA, hi0, hwi]
    ·have hc1 : cntN os i z = 1 := by simpa using hcc
     refine zK ?_
     simp only [zT, zB]
     refine zR (zO (by simp [lo, -lenA, hi0, hwi]; rfl) ?_)
     simp only [zT, zB]
     exact ⟨z - (k + 1), by omega, k + 1, i + 1, by omega, rfl, by omega, (fun p hp => by
      by_cases e : p = k
      ·subst e; rw [← hik]; exact hc1
      ·exact hK p (by omega)), by simp [lo, -lenA, hi0, hwi]⟩
  ·have hlt := of_decide_eq_false hlt
   have hb : ordB os n = true := cnt_ord hln2 fun p hp => hK p (by omega)
   rw [hb]
   refine runs_exit ?_
   simp only [zT, zB, if_true, if_false, reduceIte, Nat.reduceEqDiff, Nat.succ_ne_zero, Nat.one_ne_zero, Nat.zero_ne_one]
   refine zS ?_
   refine zR (zO (by simp [lo, -lenA]; rfl) ?_)
   simp only [zT, zB]
   refine runs_ret ?_
   simp [lo, -lenA]
def oOrdR : List AVal → Option AVal
  | [o, .int .i64 n] => match dInts o with
    | some os => if 0 ≤ n ∧ n ≤ 1000 then some (.bool (ordB os n.toNat)) else none
    | none => none
  | _ => none
theorem ordR_eq {o : AVal} {os : List Int} (ho : dInts o = some os) {n : Nat} (hn : n ≤ 1000) : oOrdR [o, I (n : Int)] = some (.bool (ordB os n)) := by
  simp only [oOrdR, ho]; rw [if_pos (by omega)]; rfl
theorem a68 (P : Program) (T : Nat → Option CFn) (hT : T 68 = some c68) (ms : Int) (c t : AVal) (cs : List (List Int)) (st : List FStop) (hc : dInts2 c = some cs) (ht : dStops t = some st) (mc at_ nn : Int) (hs : ∀ x ∈ st, x.2.1 < x.2.2) (hl : st.length ≤ 1000) (hb : ∀ x ∈ st, 0 ≤ x.2.1 ∧ x.2.2 ≤ 100000) (hn : 0 < nn) (ha : 0 ≤ at_ ∧ at_ ≤ 1000000 ∧ nn ≤ 1000000) : Answers P T 68 [.agg [I ms, c, t], I mc, I at_, I nn] [] fun v h => frz true h 5 v = some (.bool (st.any (conf mc nn at_))) := by
 have rc := fun n d => dInts2_rb hc n d
 have rt := fun n d => dStops_rb ht n d
 have lt := dStops_len ht
 obtain ⟨cc1, cc2⟩ := dInts2_cells hc
 obtain ⟨ct1, ct2⟩ := dStops_cells ht
 refine answers_of hT (orcF_none rfl) ?_
 simp only [oo, om, op, og, ci, cl, c68]
 have HH1 := zA rc (zA rt (zA lt (zA cc1 (zA cc2 (zA ct1 ct2)))))
 refine zS ?_
 refine zR (zO (by simp [-lenA, HH1]; rfl) ?_)
 simp only [zT, zB]
 refine zS ?_
 refine zS ?_
 refine zR (zO (by simp [-lenA, HH1]; rfl) ?_)
 simp only [zT, zB]
 refine zL ?_
 refine runs_loop_inv (fun m σ => ∃ (k : Nat) (i : Int), i = k ∧ st.length - k = m ∧ k ≤ st.length ∧ (st.take k).any (conf mc nn at_) = false ∧ σ = ⟨[.any, I mc, I at_, I nn, .ref 0 0 0, .any, .any, .any, .any, I i, .any, .any, .any, .any, .any, .any, .any, .any, .any, .any, .any, .any, .any, .any, .any, .any, .any, .any, .any, .any, .any, .any, .any, .any, .any, .any, .any, .any, .any, .any], [some (.row 3 [[I ms, c, t]])]⟩) ?_ (st.length - 0) _ ⟨0, 0, rfl, rfl, Nat.zero_le _, rfl, by simp⟩
 rintro m σ ⟨k, i, hik, rfl, hkl, hno, rfl⟩
 refine zS ?_
 refine zS ?_
 refine zR (zO (by simp [-lenA, HH1]; rfl) ?_)
 simp only [zT, zB]
 refine runs_cond_split (x := decide (i < (st.length : Int))) (by simp) (fun hlt => ?_) (fun hlt => ?_)
 ·have hlt := of_decide_eq_true hlt
  have hk0 : k < st.length := by omega
  have hi0 : 0 ≤ i := by omega
  have htn : i.toNat = k := by omega
  have hwi : W .i64 (i + 1) = i + 1 := W_small (by omega)
  have hx := hs _ (List.getElem_mem hk0)
  obtain ⟨ta, rfl⟩ := dStops_get ht hk0
  have hcm := conf_max (k := mc) (n := nn) (t := at_) hn hx
  have htk := take_anyR (f := conf mc nn at_) hk0
  rw [hno, Bool.false_or] at htk
  generalize hX : st[k] = X at *
  obtain ⟨x1, x2, x3⟩ := X
  simp only at hcm hx
  rw [← hcm] at htk
  have hb1 := hb _ (List.getElem_mem hk0)
  rw [hX] at hb1
  have wan : W .i64 (at_ + nn) = at_ + nn := W_fit (by omega)
  generalize hA2 : decide (max at_ x2 < min (at_ + nn) x3) = A2 at *
  rcases hA : (x1 == mc) with _ | _
  ·have HH2 := zA hi0 (zA htn (zA hk0 (zA hwi (zA hX (zA wan hA)))))
   refine zK ?_
   simp only [zT, zB]
   refine zS ?_
   refine zL ?_
   refine zS ?_
   refine zR (zO (by simp [-lenA, HH1, rS3, HH2]; rfl) ?_)
   simp only [zT, zB]
   refine zS ?_
   refine zR (zO (by simp [-lenA, HH1, rS3, HH2]; rfl) ?_)
   simp only [zT, zB]
   refine runs_cond (x := false) (by simp) ?_
   refine zK ?_
   simp only [zT, zB]
   refine zR (zO (by simp [-lenA, HH1, rS3, HH2]; rfl) ?_)
   simp only [zT, zB]
   exact ⟨st.length - (k + 1), by omega, k + 1, i + 1, by omega, rfl, by omega, by rw [htk, hA]; rfl, by simp [trim, -lenA, HH1, rS3, HH2]⟩
  ·have HH3 := zA hi0 (zA htn (zA hk0 (zA hwi (zA hX (zA wan (zA hA hA2))))))
   refine zK ?_
   simp only [zT, zB]
   refine zS ?_
   refine zL ?_
   refine zS ?_
   refine zR (zO (by simp [-lenA, HH1, rS3, HH3]; rfl) ?_)
   simp only [zT, zB]
   refine zS ?_
   refine zR (zO (by simp [-lenA, HH1, rS3, HH3]; rfl) ?_)
   simp only [zT, zB]
   rcases A2 with _ | _
   ·refine runs_cond (x := false) (by simp) ?_
    refine zK ?_
    simp only [zT, zB]
    refine zR (zO (by simp [-lenA, HH1, rS3, HH3]; rfl) ?_)
    simp only [zT, zB]
    exact ⟨st.length - (k + 1), by omega, k + 1, i + 1, by omega, rfl, by omega, by rw [htk, hA]; rfl, by simp [trim, -lenA, HH1, rS3, HH3]⟩
   ·have hany : st.any (conf mc nn at_) = true := any_takeR (by rw [htk, hA]; rfl)
    rw [hany]
    refine runs_cond (x := true) (by simp) ?_
    refine zS ?_
    refine zR (zO (by simp [-lenA, HH1, rS3, HH3]; rfl) ?_)
    simp only [zT, zB]
    refine runs_ret ?_
    simp [-lenA, HH1, rS3, HH3, trim]
 ·have hlt := of_decide_eq_false hlt
  obtain rfl : k = st.length := by omega
  rw [List.take_length] at hno
  rw [hno]
  refine runs_exit ?_
  simp only [zT, zB, if_true, if_false, reduceIte, Nat.reduceEqDiff, Nat.succ_ne_zero, Nat.one_ne_zero, Nat.zero_ne_one]
  refine zS ?_
  refine zR (zO (by simp [-lenA, HH1]; rfl) ?_)
  simp only [zT, zB]
  refine runs_ret ?_
  simp [-lenA, HH1, trim]
theorem a69 (P : Program) (T : Nat → Option CFn) (hT : T 69 = some c69) (ms : Int) (c t : AVal) (cs : List (List Int)) (st : List FStop) (hc : dInts2 c = some cs) (ht : dStops t = some st) (mc at_ : Int) (hl : st.length ≤ 1000) (hb : ∀ x ∈ st, 0 ≤ x.2.1 ∧ x.2.2 ≤ 100000) : Answers P T 69 [.agg [I ms, c, t], I mc, I at_] [] fun v h => frz true h 5 v = some (I (nextF st mc at_)) := by
 have rc := fun n d => dInts2_rb hc n d
 have rt := fun n d => dStops_rb ht n d
 have lt := dStops_len ht
 obtain ⟨cc1, cc2⟩ := dInts2_cells hc
 obtain ⟨ct1, ct2⟩ := dStops_cells ht
 refine answers_of hT (orcF_none rfl) ?_
 simp only [oo, om, op, og, ci, cl, c69]
 have HH1 := zA rc (zA rt (zA lt (zA cc1 (zA cc2 (zA ct1 ct2)))))
 refine zS ?_
 refine zR (zO (by simp [-lenA, HH1]; rfl) ?_)
 simp only [zT, zB]
 refine zS ?_
 refine zR (zO (by simp [-lenA, HH1]; rfl) ?_)
 simp only [zT, zB]
 refine zS ?_
 refine zS ?_
 refine zR (zO (by simp [-lenA, HH1]; rfl) ?_)
 simp only [zT, zB]
 refine zL ?_
 refine runs_loop_inv (fun m σ => ∃ (k : Nat) (i : Int), i = k ∧ st.length - k = m ∧ k ≤ st.length ∧ σ = ⟨[.any, I mc, I at_, .ref 0 0 0, .any, .any, .any, I (nextN st mc at_ k), I i, .any, .any, .any, .any, .any, .any, .any, .any, .any, .any, .any, .any, .any, .any, .any, .any, .any, .any, .any, .any, .any, .any, .any, .any, .any, .any, .any, .any], [some (.row 3 [[I ms, c, t]])]⟩) ?_ (st.length - 0) _ ⟨0, 0, rfl, rfl, Nat.zero_le _, by simp [nextN]⟩
 rintro m σ ⟨k, i, hik, rfl, hkl, rfl⟩
 refine zS ?_
 refine zS ?_
 refine zR (zO (by simp [-lenA, HH1]; rfl) ?_)
 simp only [zT, zB]
 refine runs_cond_split (x := decide (i < (st.length : Int))) (by simp) (fun hlt => ?_) (fun hlt => ?_)
 ·have hlt := of_decide_eq_true hlt
  have hk0 : k < st.length := by omega
  have hi0 : 0 ≤ i := by omega
  have htn : i.toNat = k := by omega
  have hwi : W .i64 (i + 1) = i + 1 := W_small (by omega)
  have hb1 := hb _ (List.getElem_mem hk0)
  have hsN : nextN st mc at_ (k + 1) = if st[k].1 = mc ∧ at_ < st[k].2.2 then min (nextN st mc at_ k) st[k].2.2 else nextN st mc at_ k := by
   rw [nextN, List.getD_eq_getElem?_getD, List.getElem?_eq_getElem hk0]; rfl
  obtain ⟨ta, rfl⟩ := dStops_get ht hk0
  generalize hX : st[k] = X at *
  obtain ⟨x1, x2, x3⟩ := X
  simp only at hsN
  rcases hA : (x1 == mc) with _ | _
  ·have hA1 : ¬ x1 = mc := by simpa using hA
   rw [if_neg (fun h => hA1 h.1)] at hsN
   have HH2 := zA hi0 (zA htn (zA hk0 (zA hwi (zA hX hA))))
   refine zK ?_
   simp only [zT, zB]
   refine zS ?_
   refine zL ?_
   refine zS ?_
   refine zR (zO (by simp [-lenA, HH1, rS3, HH2]; rfl) ?_)
   simp only [zT, zB]
   refine zS ?_
   refine zR (zO (by simp [-lenA, HH1, rS3, HH2]; rfl) ?_)
   simp only [zT, zB]
   refine runs_cond (x := false) (by simp) ?_
   refine zK ?_
   simp only [zT, zB]
   refine zR (zO (by simp [-lenA, HH1, rS3, HH2]; rfl) ?_)
   simp only [zT, zB]
   exact ⟨st.length - (k + 1), by omega, k + 1, i + 1, by omega, rfl, by omega, by rw [hsN]; simp [trim, -lenA, HH1, rS3, HH2]⟩
  ·have hA1 : x1 = mc := by simpa using hA
   have HH3 := zA hi0 (zA htn (zA hk0 (zA hwi (zA hX hA))))
   refine zK ?_
   simp only [zT, zB]
   refine zS ?_
   refine zL ?_
   refine zS ?_
   refine zR (zO (by simp [-lenA, HH1, rS3, HH3]; rfl) ?_)
   simp only [zT, zB]
   refine zS ?_
   refine zR (zO (by simp [-lenA, HH1, rS3, HH3]; rfl) ?_)
   simp only [zT, zB]
   refine runs_cond_split (x := decide (at_ < x3)) (by simp) (fun hq => ?_) (fun hq => ?_)
   ·have hq2 := of_decide_eq_true hq
    rw [if_pos ⟨hA1, hq2⟩] at hsN
    refine zR (zO (by simp [-lenA, HH1, rS3, HH3]; rfl) ?_)
    simp only [zT, zB]
    refine zR (zO (by simp [-lenA, HH1, rS3, HH3]; rfl) ?_)
    simp only [zT, zB]
    exact ⟨st.length - (k + 1), by omega, k + 1, i + 1, by omega, rfl, by omega, by rw [hsN]; simp [trim, -lenA, HH1, rS3, HH3]⟩
   ·have hq2 := of_decide_eq_false hq
    rw [if_neg (fun h => hq2 h.2)] at hsN
    refine zK ?_
    simp only [zT, zB]
    refine zR (zO (by simp [-lenA, HH1, rS3, HH3]; rfl) ?_)
    simp only [zT, zB]
    exact ⟨st.length - (k + 1), by omega, k + 1, i + 1, by omega, rfl, by omega, by rw [hsN]; simp [trim, -lenA, HH1, rS3, HH3]⟩
 ·have hlt := of_decide_eq_false hlt
  obtain rfl : k = st.length := by omega
  refine runs_exit ?_
  simp only [zT, zB, if_true, if_false, reduceIte, Nat.reduceEqDiff, Nat.succ_ne_zero, Nat.one_ne_zero, Nat.zero_ne_one]
  refine zS ?_
  refine zR (zO (by simp [-lenA, HH1]; rfl) ?_)
  simp only [zT, zB]
  refine runs_ret ?_
  simp [-lenA, HH1, trim, nextF]
def oStands : List AVal → Option AVal
  | [.agg [.int .i64 _, c, t], .int .i64 mc, .int .i64 a, .int .i64 n] => match dInts2 c, dStops t with
    | some _, some st => if (∀ x ∈ st, x.2.1 < x.2.2) ∧ st.length ≤ 1000 ∧ (∀ x ∈ st, 0 ≤ x.2.1 ∧ x.2.2 ≤ 100000) ∧ 0 < n ∧ (0 ≤ a ∧ a ≤ 1000000 ∧ n ≤ 1000000) then some (.bool (st.any (conf mc n a))) else none
    | _, _ => none
  | _ => none
def oNext : List AVal → Option AVal
  | [.agg [.int .i64 _, c, t], .int .i64 mc, .int .i64 a] => match dInts2 c, dStops t with
    | some _, some st => if st.length ≤ 1000 ∧ (∀ x ∈ st, 0 ≤ x.2.1 ∧ x.2.2 ≤ 100000) then some (I (nextF st mc a)) else none
    | _, _ => none
  | _ => none
theorem stands_eq {s : FShop} {js : List FJob} {c t : AVal} (hc : dInts2 c = some s.chg) (ht : dStops t = some s.stops) (h : ShopOk s js) {mc n a : Int} (hn : 0 < n) (ha : 0 ≤ a ∧ a ≤ 1000000 ∧ n ≤ 1000000) : oStands [.agg [I s.mach, c, t], I mc, I a, I n] = some (.bool (s.stops.any (conf mc n a))) := by
  simp only [oStands, hc, ht]
  rw [if_pos ⟨fun x hx => (h.stop x hx).2.2.2, by have := h.nst; omega, fun x hx => by have := h.stop x hx; omega, hn, ha⟩]
theorem next_eq {s : FShop} {js : List FJob} {c t : AVal} (hc : dInts2 c = some s.chg) (ht : dStops t = some s.stops) (h : ShopOk s js) {mc a : Int} : oNext [.agg [I s.mach, c, t], I mc, I a] = some (I (nextF s.stops mc a)) := by
  simp only [oNext, hc, ht]
  rw [if_pos ⟨by have := h.nst; omega, fun x hx => by have := h.stop x hx; omega⟩]
noncomputable def FW_25 : Nat → Option CFn := upd FV 25 true (oOrdR)
theorem FW_25_ok : TabOk Tryz.prog GG FW_25 := tab_add mixed FV_ok fun args v ho => by
  unfold oOrdR at ho; split at ho <;> (try simp only [reduceCtorEq] at ho)
  rename_i o n
  split at ho <;> (try simp only [reduceCtorEq] at ho)
  rename_i os ho2
  split at ho <;> (try simp only [reduceCtorEq] at ho)
  rename_i hg
  simp only [Option.some.injEq] at ho
  subst ho
  obtain ⟨m, rfl⟩ : ∃ m : Nat, n = m := ⟨n.toNat, by omega⟩
  exact a25 Tryz.prog FV rfl o os ho2 m (by omega)
noncomputable def FW_68 : Nat → Option CFn := upd FW_25 68 true (oStands)
theorem FW_68_ok : TabOk Tryz.prog GG FW_68 := tab_add mixed FW_25_ok fun args v ho => by
  unfold oStands at ho; split at ho <;> (try simp only [reduceCtorEq] at ho)
  rename_i m c t mc a n
  split at ho <;> (try simp only [reduceCtorEq] at ho)
  rename_i cs st hc ht
  split at ho <;> (try simp only [reduceCtorEq] at ho)
  rename_i hg
  simp only [Option.some.injEq] at ho
  subst ho
  obtain ⟨g1, g2, g3, g4, g5⟩ := hg
  exact a68 Tryz.prog FW_25 rfl m c t cs st hc ht mc a n g1 g2 g3 g4 g5
noncomputable def FW : Nat → Option CFn := upd FW_68 69 true (oNext)
theorem FW_ok : TabOk Tryz.prog GG FW := tab_add mixed FW_68_ok fun args v ho => by
  unfold oNext at ho; split at ho <;> (try simp only [reduceCtorEq] at ho)
  rename_i m c t mc a
  split at ho <;> (try simp only [reduceCtorEq] at ho)
  rename_i cs st hc ht
  split at ho <;> (try simp only [reduceCtorEq] at ho)
  rename_i hg
  simp only [Option.some.injEq] at ho
  subst ho
  exact a69 Tryz.prog FW_68 rfl m c t cs st hc ht mc a hg.1 hg.2
end
end Go.Proofs.YtjjapdagllclkaaGreat.Tab

namespace Go.Proofs.YtjjapdagllclkaaGreat.Tab
open Go Go.Abs Go.Proofs
set_option maxRecDepth 100000
set_option maxHeartbeats 4000000
set_option linter.unusedSimpArgs false
set_option linter.unusedVariables false
section
attribute [local simp] frz_int frz_bool frz_vl frz_pv frz_agg frz_tup frz_fn frz_ref frz_sl frz_nils optAll orcF rb_int rb_bool rb_agg rb_tup rb_int' rb_bool' rb_vl rb_pv rb_yld rb_nilf rb_nilp rb_nils rb_any rb_und rb_ref rb_sl rb_fn slE chunk fillA evParts evParts3 putAt List.range_succ List.range_zero List.range'_succ List.range'_zero runX_nil' unary_not evalS_pure evAll_nil evAll_cons runX_cons stepX wantedA dop CV.ev putK_eq setK_eq appK_eq fA_eq fI_eq fN_eq fRow_eq fRows_eq nth_eq Out.v putT List.replicate_succ zT zB arI pointee Abs.rowAt ldRow allV toV toC ofV ofC Builtin.min_ Builtin.min2 Builtin.max_ Builtin.max2 min_if max_if resA tupA kill trim_self trim_len trim_emp trim_nil lenA
attribute [local simp] runD_nil' runD_cons' stepD actK_eq actD clash disj masks holes maskH unmaskH diffs news eqB allB eqA ldRowN wrote toCs ofCs stA rowsV_vl rowsV_nils rowsOf dI1 dI2 dI3 dI5 elt
attribute [local simp] st_any st_und st_agg st_tup st_bool st_int st_nilp st_ref st_pv st_nils st_sl st_vl st_nilm st_mp st_fn st_nilf st_yld co_any co_und co_agg co_tup co_bool co_int co_nilp co_ref co_pv co_nils co_sl co_vl co_nilm co_mp co_fn co_nilf co_yld
attribute [local simp] Function.comp_def List.all_append List.all_map above callA calleeA frNB_none frNB_row frN_agg frN_bool frN_int frN_nils frN_ref frN_sl frN_tup frN_vl frzG gather getR idxG lim lop loud lowA lowR norm okG putG putR rbB_none rbB_row resG rowAt takeG
theorem runN_len (s : FShop) (js : List FJob) (os : List Int) (n : Nat) : (runN s js os n).starts.length = js.length ∧ (runN s js os n).ends.length = js.length := by
  have := fold_len s js (os.take n) (run0 js.length)
  unfold runN
  rw [this.1, this.2]
  simp [run0]
theorem oAt_ne {s : FShop} {js : List FJob} {os : List Int} (h : RunCtx s js os) {a b : Nat} (ha : a < os.length) (hb : b < os.length) (hab : a ≠ b) : oAtN os a ≠ oAtN os b := by
  rw [oAtN_eq ha, oAtN_eq hb]
  have h1 := h.mem _ (List.getElem_mem ha)
  have h2 := h.mem _ (List.getElem_mem hb)
  have hn := ord_nodup h.ord
  rw [List.Nodup, List.pairwise_iff_getElem] at hn
  intro e
  rcases Nat.lt_or_gt_of_ne hab with hl | hl
  · exact hn a b ha hb hl (by omega)
  · exact hn b a hb ha hl (by omega)
theorem runN_step {s : FShop} {js : List FJob} {os : List Int} {n : Nat} (hn : n < os.length) : (runN s js os (n + 1)).starts = (runN s js os n).starts.set (oAtN os n) (passF s (lineN s js os n) (jn js os n)).1 ∧ (runN s js os (n + 1)).ends = (runN s js os n).ends.set (oAtN os n) (passF s (lineN s js os n) (jn js os n)).2.1 := by
  rw [runN_succ s js hn, oAtN_eq hn]
  have : js.getD os[n].toNat default = jn js os n := by unfold jn jobAt; rw [oAtN_eq hn]
  simp only [runStep, this]
  exact ⟨rfl, rfl⟩
theorem runN_new {s : FShop} {js : List FJob} {os : List Int} (h : RunCtx s js os) {b : Nat} (hb : b < os.length) : ∀ n, n ≤ b → (runN s js os n).starts[oAtN os b]? = some []
  | 0, _ => by
    have hm := h.mem _ (List.getElem_mem hb)
    have : runN s js os 0 = run0 js.length := rfl
    rw [this, oAtN_eq hb]
    simp only [run0]
    rw [List.getElem?_replicate, if_pos (by omega)]
  | n + 1, hn => by
    rw [(runN_step (s := s) (js := js) (os := os) (n := n) (by omega)).1, List.getElem?_set_ne (oAt_ne h (by omega) hb (by omega))]
    exact runN_new h hb n (by omega)
theorem runN_old {s : FShop} {js : List FJob} {os : List Int} (h : RunCtx s js os) {b : Nat} : ∀ n, b < n → n ≤ os.length → (runN s js os n).starts[oAtN os b]? = (stsF s js os)[oAtN os b]?
  | n + 1, hb, hn => by
    rw [(runN_step (s := s) (js := js) (os := os) (n := n) (by omega)).1]
    by_cases e : b = n
    · subst e
      have hl := (runN_len s js os b).1
      have hm := h.mem _ (List.getElem_mem (show b < os.length by omega))
      rw [List.getElem?_set_self (by rw [hl, oAtN_eq (by omega)]; omega), (row_at h (by omega)).1]
    · rw [List.getElem?_set_ne (oAt_ne h (by omega) (by omega) (by omega))]
      exact runN_old h n (by omega) (by omega)
theorem runN_all (s : FShop) (js : List FJob) (os : List Int) : (runN s js os os.length).starts = stsF s js os ∧ (runN s js os os.length).ends = endF s js os := by
  unfold runN stsF endF runF
  rw [List.take_length]
  exact ⟨rfl, rfl⟩
theorem next_keep {st : List FStop} {k n t T : Int} (h : st.any (conf k n t) = true) (hM : ∀ x ∈ st, x.2.2 ≤ 100000) (hT : FreeAt st k n t T) : FreeAt st k n (nextF st k t) T := by
  have hu := freeT_spec st k n (nextF st k t)
  have := (next_step h hM).2.2.2 _ hu
  rw [hT.unique this]
  exact hu
theorem optAll_set {f : List AVal → Option (List AVal)} {l : List (List AVal)} {i : Nat} {a : List AVal} (hl : optAll f l = some l) : i < l.length → optAll f (l.set i a) = match f a with | some b => some (l.set i b) | none => none := by
  induction l generalizing i with
  | nil => intro h; simp at h
  | cons x l ih =>
    intro hi
    simp only [optAll] at hl
    split at hl <;> (try simp only [reduceCtorEq] at hl)
    rename_i y ys h1 h2
    simp only [Option.some.injEq, List.cons.injEq] at hl
    obtain ⟨rfl, rfl⟩ := hl
    cases i with
    | zero => simp only [List.set_cons_zero, optAll, h2]; cases f a <;> rfl
    | succ i =>
      simp only [List.set_cons_succ, optAll, h1, ih h2 (by simpa using hi)]
      cases f a <;> rfl
theorem frN_encS (n : Nat) (h : Heap) (xs : List (List Int)) : optAll (optAll (frN n h 5)) (xs.map encS) = some (xs.map encS) := optAll_self _ fun r hr => optAll_self _ fun x hx => by
  obtain ⟨a, _, rfl⟩ := List.mem_map.1 hr
  simp only [encS, List.mem_singleton] at hx
  subst hx
  cases a <;> rfl
theorem all_set {f : List AVal → Bool} {l : List (List AVal)} {i : Nat} {a : List AVal} (hl : l.all f = true) (ha : f a = true) : (l.set i a).all f = true := by
  rw [List.all_eq_true] at *
  intro x hx
  rcases List.mem_or_eq_of_mem_set hx with h | rfl
  · exact hl x h
  · exact ha
theorem jn_at {js : List FJob} {os : List Int} {b : Nat} (hb : b < os.length) (hj : os[b].toNat < js.length) : jn js os b = js[os[b].toNat] := by unfold jn; rw [oAtN_eq hb, jobAt_eq hj]
theorem a27 (P : Program) (T : Nat → Option CFn) (hT : T 27 = some { c27 with body := annK [(462, [.cell 7 0]), (4046, [.elem 7 0 2 8])] [] c27.body }) (h68 : T 68 = some { c68 with frsh := true, orc := oStands }) (h69 : T 69 = some { c69 with frsh := true, orc := oNext }) (s : FShop) (js : List FJob) (c t j : AVal) (hc : dInts2 c = some s.chg) (ht : dStops t = some s.stops) (hj : dJobs j = some js) (o : AVal) (os : List Int) (ho : dInts o = some os) (hctx : RunCtx s js os) : Answers P T 27 [.agg [I s.mach, c, t], j, o] [] fun v h => frz false h 5 v = some (.agg [.vl ((stsF s js os).map encS) true, .vl ((endF s js os).map rI) true]) := by
 have fc := fun H d => dInts2_frz hc H d
 have ft := fun H d => dStops_frz ht H d
 have fj := fun H d => dJobs_frz hj H d
 have rc := fun n d => dInts2_rb hc n d
 have rt := fun n d => dStops_rb ht n d
 have rj := fun n d => dJobs_rb hj n d
 have lc := dInts2_len hc
 have lt := dStops_len ht
 have lj := dJobs_len hj
 obtain ⟨cc1, cc2⟩ := dInts2_cells hc
 obtain ⟨ct1, ct2⟩ := dStops_cells ht
 obtain ⟨cj1, cj2⟩ := dJobs_cells hj
 have fo := fun H d => dInts_frz ho H d
 have ro := fun n d => dInts_rb ho n d
 have lo := dInts_len ho
 obtain ⟨co1, co2⟩ := dInts_cells ho
 have hsh := hctx.ok
 have hn6 : js.length ≤ 1048576 := by have := hsh.njob; omega
 have hn7 : (js.length : Int) ≤ 1048576 := by omega
 have hmach := hsh.mach
 have hjob6 := hsh.njob
 have hol := ord_len hctx.ord
 obtain ⟨mn, hmn⟩ : ∃ mn : Nat, s.mach = mn := ⟨s.mach.toNat, by omega⟩
 have hsta := fun (mc n a : Int) (hn : 0 < n) ha => stands_eq (mc := mc) (n := n) (a := a) hc ht hsh hn ha
 have hnxt := fun (mc a : Int) => next_eq (mc := mc) (a := a) hc ht hsh
 have hM100 : ∀ x ∈ s.stops, x.2.2 ≤ 100000 := fun x hx => (hsh.stop x hx).2.2.1.2
 have hst160 : ∀ l ∈ stsF s js os, ∀ x ∈ l, 0 ≤ x ∧ x ≤ 170000 := (runF_ok hctx.ok hctx.len6 hctx.mem).st
 have hSok := sts_ok hctx
 have hrl := runN_len s js os
 have hrep1 : List.replicate js.length [AVal.nils] = (runN s js os 0).starts.map encS := by
  have : runN s js os 0 = run0 js.length := rfl
  rw [this]; simp [run0, encS]
 have hrep2 : List.replicate js.length [I 0] = (runN s js os 0).ends.map rI := by
  have : runN s js os 0 = run0 js.length := rfl
  rw [this]; simp [run0, rI]
 have hmk1 : 0 ≤ (js.length : Int) := by omega
 have erb1 := fun n => encS_rb n 4 (runN s js os 0).starts
 have erb2 := fun n => rI_rb n 4 (runN s js os 0).ends
 have hEll : ∀ n, ((runN s js os n).ends.map rI).length = js.length := fun n => by rw [List.length_map]; exact (hrl n).2
 rw [hmn]
 rw [hmn] at hsta hnxt hmach
 refine answers_of hT (orcF_none rfl) ?_
 simp only [oo, om, op, og, ci, cl, c27, annK, lkG, lkR, reduceIte, Nat.reduceEqDiff, reduceCtorEq, List.cons.injEq, and_true, and_false, false_and, true_and]
 have HH1 := zA h68 (zA h69 (zA fc (zA ft (zA fj (zA rc (zA rt (zA rj (zA lc (zA lt (zA lj (zA cc1 (zA cc2 (zA ct1 (zA ct2 (zA cj1 (zA cj2 (zA hn6 (zA hn7 (zA fo (zA ro (zA lo (zA co1 (zA co2 (zA hrep1 hrep2))))))))))))))))))))))))
 refine zS ?_
 refine zR (zO (by simp [zC h68, zC h69, -lenA, ↓erb1, ↓erb2, HH1]; rfl) ?_)
 simp only [zT, zB]
 refine zS ?_
 refine runs_drw (by simp (maxSteps := 3000000) [zC h68, zC h69, -lenA, ↓erb1, ↓erb2, HH1]; rfl) ?_
 simp only [zT, zB]
 refine zS ?_
 refine zS ?_
 refine zR (zO (by simp [zC h68, zC h69, -lenA, ↓erb1, ↓erb2, HH1]; rfl) ?_)
 simp only [zT, zB]
 refine zL ?_
 refine runs_loopG_inv (fun mm σ => ∃ (n : Nat) (i : Int) (rs : List (List Int)) (re : List Int), i = n ∧ os.length - n = mm ∧ n ≤ os.length ∧ rs = (runN s js os n).starts ∧ re = (runN s js os n).ends ∧ σ = ⟨[.any, j, o, .ref 0 0 0, .any, .any, .ref 1 0 0, .ref 9 0 0, I i, .any, .any, .any, .any, .any, .any, .any, .any, .any, .any, .any, .any, .any, .any, .any, .any, .any, .any, .any, .any, .any, .any, .any, .any, .any, .any, .any, .any, .any, .any, .any, .any, .any, .any, .any, .any, .any, .any, .any, .any, .any, .any, .any, .any, .any, .any, .any, .any, .any, .any, .any, .any, .any, .any, .any, .any, .any, .any, .any, .any, .any, .any, .any, .any, .any, .any, .any, .any, .any, .any, .any, .any, .any, .any, .any, .any, .any, .any, .any, .any, .any, .any, .any, .any, .any, .any, .any, .any, .any, .any, .any, .any, .any, .any, .any, .any, .any, .any, .any, .any, .any, .any, .any, .any, .any, .any, .any, .any, .any, .any, .any, .any, .any, .any, .any, .any, .any, .any, .any, .any, .any, .any, .any, .any, .any, .any, .any, .any, .any, .any, .any, .any, .any, .any, .any], [some (.row 3 [[I (mn : Int), c, t]]), some (.row 2 [[.nils, .nils]]), none, none, none, none, none, some (.row 1 (re.map rI)), none, some (.row 2 [[.sl 11 0 js.length true, .sl 7 0 js.length true]]), none, some (.row 1 (rs.map encS))]⟩) (by simp [zC h68, zC h69, -lenA, ↓erb1, ↓erb2, HH1] <;> first | exact ⟨rfl, rfl⟩ | rfl) (⟨0, 0, _, _, rfl, rfl, Nat.zero_le _, rfl, rfl, rfl⟩) ?_
 rintro mm σ ⟨n, i, rs, re, hin, rfl, hnl, hrs, hre, rfl⟩
 have hrsl : rs.length = js.length := by rw [hrs]; exact (hrl n).1
 have hrel : re.length = js.length := by rw [hre]; exact (hrl n).2
 refine zS ?_
 refine zS ?_
 refine zR (zO (by simp [zC h68, zC h69, -lenA, ↓erb1, ↓erb2, HH1, hrsl, hrel]; rfl) ?_)
 simp only [zT, zB]
 refine runs_cond_split (x := decide (i < (os.length : Int))) (by simp) (fun hlt => ?_) (fun hlt => ?_)
 ·have hlt0 := of_decide_eq_true hlt
  have hn0 : n < os.length := by omega
  have hi0 : 0 ≤ i := by omega
  have htn : i.toNat = n := by omega
  have hwi : W .i64 (i + 1) = i + 1 := W_small (by omega)
  have hwj : W .i64 (i - 1) = i - 1 := W_small (by omega)
  have hmo := hctx.mem _ (List.getElem_mem hn0)
  have hXn : 0 ≤ os[n] := hmo.1
  have hXl : os[n] < (js.length : Int) := hmo.2
  have hxj : os[n].toNat < js.length := by omega
  have hoN := oAtN_eq hn0
  have hJ := jn_at hn0 hxj
  have hjb := hsh.job _ (List.getElem_mem hxj)
  obtain ⟨to, rfl⟩ := dInts_get ho hn0
  generalize hX : os[n] = X at *
  have hrow := (row_at hctx hn0)
  have hnew := runN_new hctx hn0 n (Nat.le_refl n)
  rw [← hrs, hoN] at hnew
  have hstp := runN_step (s := s) (js := js) hn0
  rw [← hrs, ← hre, hoN] at hstp
  rw [hoN] at hrow
  have hlast := fun (k : Nat) (hk : (k : Int) < s.mach) => line_last hctx hk n (by omega)
  have hsteq := fun (k : Nat) (hk : (k : Int) < s.mach) => st_eq' hctx hn0 hk
  have hold := fun (b : Nat) (hb : b < n) => runN_old hctx n hb (by omega)
  rw [← hrs] at hold
  obtain ⟨jr, tj, wv, rfl, hr1, hr2, hwv⟩ := dJobs_get hj hxj
  have hkr : X.toNat < jr.length := by omega
  have hr4 : ∀ h, jr[X.toNat]'h = [I js[X.toNat].kind, I js[X.toNat].ready, I js[X.toNat].due, wv] := fun h => by rw [List.getElem?_eq_getElem h] at hr2; exact Option.some.inj hr2
  have rw5 := fun n d => dInts_rb hwv n d
  have fw5 := fun H d => dInts_frz hwv H d
  have lw5 := dInts_len hwv
  obtain ⟨cw1, cw2⟩ := dInts_cells hwv
  have hstat := fun k => st_at hctx hn0 k
  rw [hJ] at hrow hstp hsteq hstat
  generalize hRN : (passF s (lineN s js os n) js[X.toNat]).1 = RN at *
  generalize hEE : (passF s (lineN s js os n) js[X.toNat]).2.1 = EE at *
  have hRNm : RN ∈ stsF s js os := List.mem_of_getElem? hrow.1
  have hRNl : RN.length = mn := by have := (hSok.row _ hRNm).1; omega
  have hRN0 : RN ≠ [] := by intro e; rw [e] at hRNl; simp at hRNl; omega
  have hRNb := hst160 _ hRNm
  have hml : js[X.toNat].mins.length = mn := by have := hjb.2.2.2.1; omega
  obtain ⟨tw, rfl⟩ := dInts_get hwv (k := 0) (by omega)
  have hEEq : EE = nAt RN (mn - 1) + nAt js[X.toNat].mins (mn - 1) := by
   have := passGo_end s js[X.toNat].kind js[X.toNat].mins 0 js[X.toNat].ready (lineN s js os n) (by intro e; rw [e] at hml; simp at hml; omega)
   rw [← hEE, ← hRN, ← hml]; exact this
  have hrsx : X.toNat < rs.length := by omega
  have hrex : X.toNat < re.length := by omega
  have hRS0 : rs.map encS = (rs.map encS).set X.toNat [.nils] := by
   refine List.ext_getElem? fun p => ?_
   by_cases e : X.toNat = p
   ·subst e
    rw [List.getElem?_set_self (by rw [List.length_map]; exact hrsx), List.getElem?_map, hnew]; rfl
   ·rw [List.getElem?_set_ne e]
  have gx : ∀ v, ((rs.map encS).set X.toNat [v])[X.toNat]? = some [v] := fun v => List.getElem?_set_self (by rw [List.length_map]; exact hrsx)
  have gs2 : ∀ v w, ((rs.map encS).set X.toNat v).set X.toNat w = (rs.map encS).set X.toNat w := fun v w => List.set_set ..
  have gl : ∀ v, ((rs.map encS).set X.toNat v).length = js.length := fun v => by rw [List.length_set, List.length_map, hrsl]
  have gr : ∀ n v, rb n 5 v = true → (((rs.map encS).set X.toNat [v]).all fun r => r.all (rb n 5)) = true := fun n v hv => all_set (encS_rb n 4 rs) (by simp [hv])
  have gr0 : ∀ n, (((rs.map encS).set X.toNat [.nils]).all fun r => r.all (rb n 5)) = true := fun n => gr n _ rfl
  have gr1 : ∀ n, (((rs.map encS).set X.toNat [.any]).all fun r => r.all (rb n 5)) = true := fun n => gr n _ rfl
  have gr2 : ∀ n b k m t, b < n → (((rs.map encS).set X.toNat [.sl b k m t]).all fun r => r.all (rb n 5)) = true := fun n b k m t hb => gr n _ (by simp [hb])
  have gr3 : ∀ k m t, (((rs.map encS).set X.toNat [.sl 13 k m t]).all fun r => r.all (rb 11 5)) = false := fun k m t => List.all_eq_false.2 ⟨[.sl 13 k m t], List.mem_of_getElem? (gx _), by simp⟩
  have gf : ∀ n h v, optAll (optAll (frN n h 5)) ((rs.map encS).set X.toNat [v]) = match optAll (frN n h 5) [v] with | some b => some ((rs.map encS).set X.toNat b) | none => none := fun n h v => optAll_set (frN_encS n h rs) (by rw [List.length_map]; exact hrsx)
  have ge : ∀ v, (re.map rI).set X.toNat [I v] = (re.set X.toNat v).map rI := fun v => by rw [List.map_set]; rfl
  have gv := fun v (h : X.toNat < ((rs.map encS).set X.toNat [v]).length) => Option.some.inj ((List.getElem?_eq_getElem h).symm.trans (gx v))
  have hre3 : (re.map rI)[X.toNat]? = some [I re[X.toNat]] := by rw [List.getElem?_map, List.getElem?_eq_getElem hrex]; rfl
  have hfr0 : fromA js (stsF s js os) os n 0 = js[X.toNat].ready := by unfold fromA; rw [if_pos rfl, hJ]
  have hfrm : fromA js (stsF s js os) os n mn = EE := by
   unfold fromA
   rw [if_neg (by omega), hstat, hJ, hEEq]; rfl
  have hrbx := fun n v => rI_rb n 4 (re.set X.toNat v)
  rw [hRS0]
  clear hwi
  have hwi : W .i64 (i + 1) = i + 1 := W_small (by omega)
  have HH2 := zA hrsl (zA hrel (zA hi0 (zA htn (zA hn0 (zA hwi (zA hwj (zA hX (zA hXn (zA hXl (zA hxj (zA hrsx (zA hrex (zA gx (zA gv (zA gs2 (zA gl (zA gf (zA ge (zA hre3 (zA hml (zA hkr (zA hr2 (zA hr4 (zA rw5 (zA fw5 (zA lw5 (zA cw1 cw2)))))))))))))))))))))))))))
  have HH3 := zA erb1 (zA erb2 (zA gr0 (zA gr1 (zA gr2 (zA gr3 hrbx)))))
  refine zK ?_
  simp only [zT, zB]
  refine zS ?_
  refine zL ?_
  refine zS ?_
  refine zR (zO (by simp [zC h68, zC h69, -lenA, HH1, zI, -List.map_set, -List.getElem?_map, -List.set_set, -List.length_set, HH2, ↓HH3]; rfl) ?_)
  simp only [zT, zB]
  refine zS ?_
  refine zR (zO (by simp [zC h68, zC h69, -lenA, HH1, zI, -List.map_set, -List.getElem?_map, -List.set_set, -List.length_set, HH2, ↓HH3]; rfl) ?_)
  simp only [zT, zB]
  refine zS ?_
  refine zS ?_
  refine zR (zO (by simp [zC h68, zC h69, -lenA, HH1, zI, -List.map_set, -List.getElem?_map, -List.set_set, -List.length_set, HH2, ↓HH3]; rfl) ?_)
  simp only [zT, zB]
  refine zL ?_
  refine runs_loopG_inv (fun mm1 σ => ∃ (k1 : Nat) (i1 : Int), i1 = k1 ∧ mn - k1 = mm1 ∧ k1 ≤ mn ∧ ((k1 = 0 ∧ σ = ⟨[.any, .vl jr tj, .vl (os.map rI) to, .ref 0 0 0, .any, .any, .ref 1 0 0, .ref 9 0 0, I i, .ref 12 0 0, I (fromA js (stsF s js os) os n k1), I i1, .any, .any, .any, .any, .any, .any, .any, .any, .any, .any, .any, .any, .any, .any, .any, .any, .any, .any, .any, .any, .any, .any, .any, .any, .any, .any, .any, .any, .any, .any, .any, .any, .any, .any, .any, .any, .any, .any, .any, .any, .any, .any, .any, .any, .any, .any, .any, .any, .any, .any, .any, .any, .any, .any, .any, .any, .any, .any, .any, .any, .any, .any, .any, .any, .any, .any, .any, .any, .any, .any, .any, .any, .any, .any, .any, .any, .any, .any, .any, .any, .any, .any, .any, .any, .any, .any, .any, .any, .any, .any, .any, .any, .any, .any, .any, .any, .any, .any, .any, .any, .any, .any, .any, .any, .any, .any, .any, .any, .any, .any, .any, .any, .any, .any, .any, .any, .any, .any, .any, .any, .any, .any, .any, .any, .any, .any, .any, .any, .any, .any, .any, .any], [some (.row 3 [[I (mn : Int), c, t]]), some (.row 2 [[.nils, .nils]]), none, none, none, none, none, some (.row 1 (re.map rI)), none, some (.row 2 [[.sl 11 0 js.length true, .sl 7 0 js.length true]]), none, some (.row 1 ((rs.map encS).set X.toNat [.nils])), some (.row 4 [[I js[X.toNat].kind, I js[X.toNat].ready, I js[X.toNat].due, .vl (js[X.toNat].mins.map rI) tw]]), none]⟩) ∨ (∃ (p1 : Nat) (ac1 : List (Int)), k1 = p1 + 1 ∧ ac1 = (RN.take (k1)) ∧ ac1.length = p1 + 1 ∧ σ = ⟨[.any, .vl jr tj, .vl (os.map rI) to, .ref 0 0 0, .any, .any, .ref 1 0 0, .ref 9 0 0, I i, .ref 12 0 0, I (fromA js (stsF s js os) os n k1), I i1, .any, .any, .any, .any, .any, .any, .any, .any, .any, .any, .any, .any, .any, .any, .any, .any, .any, .any, .any, .any, .any, .any, .any, .any, .any, .any, .any, .any, .any, .any, .any, .any, .any, .any, .any, .any, .any, .any, .any, .any, .any, .any, .any, .any, .any, .any, .any, .any, .any, .any, .any, .any, .any, .any, .any, .any, .any, .any, .any, .any, .any, .any, .any, .any, .any, .any, .any, .any, .any, .any, .any, .any, .any, .any, .any, .any, .any, .any, .any, .any, .any, .any, .any, .any, .any, .any, .any, .any, .any, .any, .any, .any, .any, .any, .any, .any, .any, .any, .any, .any, .any, .any, .any, .any, .any, .any, .any, .any, .any, .any, .any, .any, .any, .any, .any, .any, .any, .any, .any, .any, .any, .any, .any, .any, .any, .any, .any, .any, .any, .any, .any, .any], [some (.row 3 [[I (mn : Int), c, t]]), some (.row 2 [[.nils, .nils]]), none, none, none, none, none, some (.row 1 (re.map rI)), none, some (.row 2 [[.sl 11 0 js.length true, .sl 7 0 js.length true]]), none, some (.row 1 ((rs.map encS).set X.toNat [.sl 13 0 (p1 + 1) false])), some (.row 4 [[I js[X.toNat].kind, I js[X.toNat].ready, I js[X.toNat].due, .vl (js[X.toNat].mins.map rI) tw]]), some (.row 1 (ac1.map rI))]⟩))) (by simp [zC h68, zC h69, -lenA, HH1, zI, -List.map_set, -List.getElem?_map, -List.set_set, -List.length_set, HH2, ↓HH3] <;> first | exact ⟨rfl, rfl⟩ | rfl) (⟨0, 0, rfl, rfl, Nat.zero_le _, .inl ⟨rfl, by rw [hfr0]⟩⟩) ?_
  rintro mm1 σ ⟨k1, i1, hik1, rfl, hkl1, ⟨hkz1, rfl⟩ | ⟨p1, ac1, hkp1, hac1, hacl1, rfl⟩⟩
  ·refine zS ?_
   refine zS ?_
   refine zR (zO (by simp [zC h68, zC h69, -lenA, HH1, zI, -List.map_set, -List.getElem?_map, -List.set_set, -List.length_set, HH2, ↓HH3]; rfl) ?_)
   simp only [zT, zB]
   refine runs_cond_split (x := _) rfl (fun hlt1 => ?_) (fun hlt1 => ?_)
   ·have hltt1 := of_decide_eq_true hlt1
    have hk01 : k1 < mn := by omega
    have hi01 : 0 ≤ i1 := by omega
    have htn1 : i1.toNat = k1 := by omega
    have hwi1 : W .i64 (i1 + 1) = i1 + 1 := W_small (by omega)
    have hk1m : (k1 : Int) < s.mach := by omega
    have hk1j : k1 < js[X.toNat].mins.length := by omega
    have hk1r : k1 < RN.length := by omega
    have hi1j : i1 < (js[X.toNat].mins.length : Int) := by omega
    have hlast1 := hlast k1 hk1m
    have hse := hsteq k1 hk1m
    rw [hstat] at hse
    have hTb := hRNb _ (List.getElem_mem hk1r)
    have hnT : nAt RN k1 = RN[k1] := by unfold nAt; rw [List.getD_eq_getElem?_getD, List.getElem?_eq_getElem hk1r]; rfl
    have hF1 : RN.take (k1 + 1) = RN.take k1 ++ [RN[k1]] := List.take_succ_eq_append_getElem hk1r
    have hfn : RN[k1] + js[X.toNat].mins[k1] = fromA js (stsF s js os) os n (k1 + 1) := by
     unfold fromA
     rw [if_neg (Nat.succ_ne_zero _), Nat.add_sub_cancel, hstat, hnT, hJ, minAt_eq hk1j]
    have hfb : 0 ≤ fromA js (stsF s js os) os n k1 ∧ fromA js (stsF s js os) os n k1 ≤ 175000 := by
     unfold fromA
     by_cases hk : k1 = 0
     ·rw [if_pos hk, hJ]; have := hjb.2.1; omega
     ·rw [if_neg hk]
      have hkr : k1 - 1 < RN.length := by omega
      have hkj : k1 - 1 < js[X.toNat].mins.length := by omega
      have h1 := hRNb _ (List.getElem_mem hkr)
      have h2 := hjb.2.2.2.2 _ (List.getElem_mem hkj)
      rw [hstat, hJ, minAt_eq hkj]
      unfold nAt
      rw [List.getD_eq_getElem?_getD, List.getElem?_eq_getElem hkr, Option.getD_some]
      omega
    have hVb := hjb.2.2.2.2 _ (List.getElem_mem hk1j)
    rw [hnT, minAt_eq hk1j] at hse
    generalize hFr : fromA js (stsF s js os) os n k1 = F0 at *
    generalize hTT : RN[k1] = TV at *
    generalize hVV : js[X.toNat].mins[k1] = V at *
    have hwTV : W .i64 (fromA js (stsF s js os) os n (k1 + 1)) = fromA js (stsF s js os) os n (k1 + 1) := by rw [← hfn]; exact W_fit (by omega)
    have HH4 := zA hi01 (zA htn1 (zA hk01 (zA hwi1 (zA hk1j (zA hi1j hVV)))))
    refine zK ?_
    simp only [zT, zB]
    refine zS ?_
    refine zL ?_
    refine zS ?_
    refine zS ?_
    refine zR (zO (by simp [zC h68, zC h69, -lenA, HH1, zI, -List.map_set, -List.getElem?_map, -List.set_set, -List.length_set, HH2, ↓HH3, HH4]; rfl) ?_)
    simp only [zT, zB]
    refine runs_cond_split (x := decide (0 < V)) (by simp) (fun hv => ?_) (fun hv => ?_)
    ·have hV0 := of_decide_eq_true hv
     unfold startF at hse
     rw [if_pos hV0] at hse
     refine zS ?_
     refine zS ?_
     refine zR (zO (by simp [zC h68, zC h69, -lenA, HH1, zI, -List.map_set, -List.getElem?_map, -List.set_set, -List.length_set, HH2, ↓HH3, HH4]; rfl) ?_)
     simp only [zT, zB]
     refine zL ?_
     refine runs_loop_inv (fun m2 σ => ∃ (p0 : Nat) (b : Int), b = p0 - 1 ∧ p0 = m2 ∧ p0 ≤ n ∧ (∀ q, p0 ≤ q → q < n → ¬ 0 < minAt (jn js os q) k1) ∧ σ = ⟨[.any, .vl jr tj, .vl (os.map rI) to, .ref 0 0 0, .any, .any, .ref 1 0 0, .ref 9 0 0, I i, .ref 12 0 0, I F0, I i1, I b, .any, .any, .any, .any, .any, .any, .any, .any, .any, .any, .any, .any, .any, .any, .any, .any, .any, .any, .any, .any, .any, .any, .any, .any, .any, .any, .any, .any, .any, .any, .any, .any, .any, .any, .any, .any, .any, .any, .any, .any, .any, .any, .any, .any, .any, .any, .any, .any, .any, .any, .any, .any, .any, .any, .any, .any, .any, .any, .any, .any, .any, .any, .any, .any, .any, .any, .any, .any, .any, .any, .any, .any, .any, .any, .any, .any, .any, .any, .any, .any, .any, .any, .any, .any, .any, .any, .any, .any, .any, .any, .any, .any, .any, .any, .any, .any, .any, .any, .any, .any, .any, .any, .any, .any, .any, .any, .any, .any, .any, .any, .any, .any, .any, .any, .any, .any, .any, .any, .any, .any, .any, .any, .any, .any, .any, .any, .any, .any, .any, .any, .any], [some (.row 3 [[I (mn : Int), c, t]]), some (.row 2 [[.nils, .nils]]), none, none, none, none, none, some (.row 1 (re.map rI)), none, some (.row 2 [[.sl 11 0 js.length true, .sl 7 0 js.length true]]), none, some (.row 1 ((rs.map encS).set X.toNat [.nils])), some (.row 4 [[I js[X.toNat].kind, I js[X.toNat].ready, I js[X.toNat].due, .vl (js[X.toNat].mins.map rI) tw]]), none]⟩) ?_ n _ ⟨n, i - 1, by omega, rfl, Nat.le_refl _, fun q h1 h2 => by omega, by simp [hwj]⟩
     rintro m2 σ ⟨p0, b, hbp0, rfl, hp0n, hnb, rfl⟩
     refine zS ?_
     refine zS ?_
     refine zR (zO (by simp [zC h68, zC h69, -lenA, HH1, zI, -List.map_set, -List.getElem?_map, -List.set_set, -List.length_set, HH2, ↓HH3, HH4]; rfl) ?_)
     simp only [zT, zB]
     refine runs_cond_split (x := decide (0 ≤ b)) (by simp) (fun hlb => ?_) (fun hlb => ?_)
     ·have hb0 := of_decide_eq_true hlb
      obtain ⟨p, rfl⟩ : ∃ p, p0 = p + 1 := ⟨p0 - 1, by omega⟩
      have hbp : b = p := by omega
      have hpn : p < n := by omega
      have hpo : p < os.length := by omega
      have hbt : b.toNat = p := by omega
      have hblo : b < (os.length : Int) := by omega
      have hwb : W .i64 (b - 1) = b - 1 := W_small (by omega)
      have hmy := hctx.mem _ (List.getElem_mem hpo)
      have hy0 : 0 ≤ os[p] := hmy.1
      have hyj : os[p].toNat < js.length := by omega
      have hyjl : os[p] < (js.length : Int) := hmy.2
      have hoP := oAtN_eq hpo
      have hJy := jn_at hpo hyj
      have hjby := hsh.job _ (List.getElem_mem hyj)
      generalize hY : os[p] = Y at *
      have hky : Y.toNat < jr.length := by omega
      obtain ⟨wy, hwy2, hwy3⟩ := jobs_at hj hyj
      have hkjy : k1 < js[Y.toNat].mins.length := by have := hjby.2.2.2.1; omega
      have hi1y : i1 < (js[Y.toNat].mins.length : Int) := by omega
      obtain ⟨twy, rfl⟩ := dInts_get hwy3 hkjy
      have hwyg : ∀ h, jr[Y.toNat]'h = [I js[Y.toNat].kind, I js[Y.toNat].ready, I js[Y.toNat].due, .vl (js[Y.toNat].mins.map rI) twy] := fun h => by rw [List.getElem?_eq_getElem h] at hwy2; exact Option.some.inj hwy2
      have hwrb := fun n d => dInts_rb hwy3 n d
      have hmy2 := hjby.2.2.2.2 _ (List.getElem_mem hkjy)
      have hne : X.toNat ≠ Y.toNat := by
       have := oAt_ne hctx hn0 hpo (by omega)
       rw [hoN, hoP] at this; exact this
      have hrowy := row_at hctx hpo
      have hol2 := hold p hpn
      rw [hoP] at hrowy hol2
      have hsty := st_at hctx hpo k1
      generalize hRY : (passF s (lineN s js os p) (jn js os p)).1 = RY at *
      have hRYm : RY ∈ stsF s js os := List.mem_of_getElem? hrowy.1
      have hRYl : RY.length = mn := by have := (hSok.row _ hRYm).1; omega
      have hRY0 : RY ≠ [] := by intro e; rw [e] at hRYl; simp at hRYl; omega
      have hk1y : k1 < RY.length := by omega
      have hi1Y : i1 < (RY.length : Int) := by omega
      have hSyb := hst160 _ hRYm _ (List.getElem_mem hk1y)
      have hnY : nAt RY k1 = RY[k1] := by unfold nAt; rw [List.getD_eq_getElem?_getD, List.getElem?_eq_getElem hk1y]; rfl
      rw [hnY] at hsty
      have gy : ∀ v, ((rs.map encS).set X.toNat v)[Y.toNat]? = some [.vl (RY.map rI) false] := fun v => by
       rw [List.getElem?_set_ne hne, List.getElem?_map, hol2, hrowy.1, Option.map_some, encS_ne hRY0]
      have gyv := fun v (h : Y.toNat < ((rs.map encS).set X.toNat v).length) => Option.some.inj ((List.getElem?_eq_getElem h).symm.trans (gy v))
      generalize hSy : RY[k1] = Sy at *
      have hmy3 : minAt (jn js os p) k1 = js[Y.toNat].mins[k1] := by rw [hJy, minAt_eq hkjy]
      generalize hVy : js[Y.toNat].mins[k1] = Vy at *
      have HH5 := zA hb0 (zA hbt (zA hpo (zA hblo (zA hwb (zA hY (zA hy0 (zA hyj (zA hyjl (zA hky (zA hwy2 (zA hwyg (zA hkjy (zA hi1y (zA hVy (zA gy (zA gyv (zA hk1y (zA hi1Y hSy))))))))))))))))))
      refine zK ?_
      simp only [zT, zB]
      refine zS ?_
      refine zL ?_
      refine zS ?_
      refine zR (zO (by simp [zC h68, zC h69, -lenA, HH1, zI, -List.map_set, -List.getElem?_map, -List.set_set, -List.length_set, HH2, ↓HH3, HH4, ↓hwrb, HH5]; rfl) ?_)
      simp only [zT, zB]
      refine zS ?_
      refine zR (zO (by simp [zC h68, zC h69, -lenA, HH1, zI, -List.map_set, -List.getElem?_map, -List.set_set, -List.length_set, HH2, ↓HH3, HH4, ↓hwrb, HH5]; rfl) ?_)
      simp only [zT, zB]
      refine runs_cond_split (x := decide (0 < Vy)) (by simp) (fun hvy => ?_) (fun hvy => ?_)
      ·have hVy0 := of_decide_eq_true hvy
       obtain ⟨hlA, hlB⟩ : (lAt (lineN s js os n) k1).2.2 = true ∧ lAt (lineN s js os n) k1 = (Sy + Vy, js[Y.toNat].kind, true) := by
        rcases hlast1 with ⟨h1, h2⟩ | ⟨b', h1, h2, h3, h4⟩
        ·exact absurd (by rw [hmy3]; exact hVy0) (h1 p hpn)
        ·have hbp' : b' = p := by
          rcases Nat.lt_trichotomy b' p with hlt | rfl | hgt
          ·exact absurd (by rw [hmy3]; exact hVy0) (h3 p hlt hpn)
          ·rfl
          ·exact absurd h2 (hnb b' (by omega) h1)
         subst hbp'
         rw [h4]
         refine ⟨rfl, ?_⟩
         rw [hsty, hmy3, hJy]
       have hlG : (lineN s js os n).getD k1 (0, 0, false) = lAt (lineN s js os n) k1 := rfl
       rw [hlG, hlB] at hse
       simp only [if_true] at hse
       obtain ⟨rsc, tcc, rowc, tcr, hce, gc1, gc2, gc3, gc4⟩ := chgAt_get hsh hc hjby.1 hjb.1
       have hcb := chgAt_bd hsh js[Y.toNat].kind js[X.toNat].kind
       have hkd0 := hjby.1.1
       have hkd1 := hjb.1.1
       generalize hCH : chgAt s js[Y.toNat].kind js[X.toNat].kind = CH at *
       have gc2' := fun (h : js[Y.toNat].kind.toNat < rsc.length) => Option.some.inj ((List.getElem?_eq_getElem h).symm.trans gc2)
       have gc4' := fun (h : js[X.toNat].kind.toNat < rowc.length) => Option.some.inj ((List.getElem?_eq_getElem h).symm.trans gc4)
       have hw1 : W .i64 (Sy + Vy) = Sy + Vy := W_fit (by omega)
       have hw2 : W .i64 (Sy + Vy + CH) = Sy + Vy + CH := W_fit (by omega)
       subst hce
       have hfT := freeT_spec s.stops (k1 : Int) V (max F0 (Sy + Vy + CH))
       rw [← hse] at hfT
       have HH6 := zA gc1 (zA gc2 (zA gc2' (zA gc3 (zA gc4 (zA gc4' (zA hkd0 (zA hkd1 (zA hw1 hw2))))))))
       refine zS ?_
       refine runs_drw (by simp (maxSteps := 3000000) [zC h68, zC h69, -lenA, HH1, zI, -List.map_set, -List.getElem?_map, -List.set_set, -List.length_set, HH2, ↓HH3, HH4, ↓hwrb, HH5, HH6]; rfl) ?_
       simp only [zT, zB]
       refine runs_exit ?_
       simp only [zT, zB, if_true, if_false, reduceIte, Nat.reduceEqDiff, Nat.succ_ne_zero, Nat.one_ne_zero, Nat.zero_ne_one]
       refine zL ?_
       refine runs_loopG_inv (fun m3 σ => ∃ a : Int, (200000 - a).toNat = m3 ∧ (0 ≤ a ∧ a ≤ 180000) ∧ FreeAt s.stops (k1 : Int) V a TV ∧ σ = ⟨[.any, .vl jr tj, .vl (os.map rI) to, .ref 0 0 0, .any, .any, .ref 1 0 0, .ref 9 0 0, I i, .ref 12 0 0, I a, I i1, .any, .any, .any, .any, .any, .any, .any, .any, .any, .any, .any, .any, .any, .any, .any, .any, .any, .any, .any, .any, .any, .any, .any, .any, .any, .any, .any, .any, .any, .any, .any, .any, .any, .any, .any, .any, .any, .any, .any, .any, .any, .any, .any, .any, .any, .any, .any, .any, .any, .any, .any, .any, .any, .any, .any, .any, .any, .any, .any, .any, .any, .any, .any, .any, .any, .any, .any, .any, .any, .any, .any, .any, .any, .any, .any, .any, .any, .any, .any, .any, .any, .any, .any, .any, .any, .any, .any, .any, .any, .any, .any, .any, .any, .any, .any, .any, .any, .any, .any, .any, .any, .any, .any, .any, .any, .any, .any, .any, .any, .any, .any, .any, .any, .any, .any, .any, .any, .any, .any, .any, .any, .any, .any, .any, .any, .any, .any, .any, .any, .any, .any, .any], [some (.row 3 [[I (mn : Int), .vl rsc tcc, t]]), some (.row 2 [[.nils, .nils]]), none, none, none, none, none, some (.row 1 (re.map rI)), none, some (.row 2 [[.sl 11 0 js.length true, .sl 7 0 js.length true]]), none, some (.row 1 ((rs.map encS).set X.toNat [.nils])), some (.row 4 [[I js[X.toNat].kind, I js[X.toNat].ready, I js[X.toNat].due, .vl (js[X.toNat].mins.map rI) tw]]), none, some (.row 4 [[I js[Y.toNat].kind, I js[Y.toNat].ready, I js[Y.toNat].due, .vl (js[Y.toNat].mins.map rI) twy]]), none, none, none, none, none, none, none, none, none, none, none, none, none, none, none, none, none, none, none, none, none, none, none, none, none, none, none, none, none, none, none, none]⟩) (by simp [zC h68, zC h69, -lenA, HH1, zI, -List.map_set, -List.getElem?_map, -List.set_set, -List.length_set, HH2, ↓HH3, HH4, ↓hwrb, HH5, HH6] <;> first | exact ⟨rfl, rfl⟩ | rfl) (⟨max F0 (Sy + Vy + CH), rfl, by omega, hfT, rfl⟩) ?_
       rintro m3 σ ⟨a, rfl, hab, hfa, rfl⟩
       have hs1 := hsta (k1 : Int) V a hV0 ⟨hab.1, by omega, by omega⟩
       have hNx := hnxt (k1 : Int) a
       rw [← hik1] at hs1 hNx
       refine zS ?_
       refine zS ?_
       refine runs_drw (by simp (maxSteps := 3000000) [zC h68, zC h69, -lenA, HH1, zI, -List.map_set, -List.getElem?_map, -List.set_set, -List.length_set, HH2, ↓HH3, HH4, ↓hwrb, HH5, HH6, hs1, hNx]; rfl) ?_
       simp only [zT, zB]
       refine runs_cond_split (x := s.stops.any (conf (k1 : Int) V a)) (by simp [hik1]) (fun hany => ?_) (fun hany => ?_)
       ·have hnk := next_keep hany hM100 hfa
        have hns := next_step hany hM100
        rw [← hik1] at hnk hns
        refine zK ?_
        simp only [zT, zB]
        refine zL ?_
        refine zR (zO (by simp [zC h68, zC h69, -lenA, HH1, zI, -List.map_set, -List.getElem?_map, -List.set_set, -List.length_set, HH2, ↓HH3, HH4, ↓hwrb, HH5, HH6, hs1, hNx]; rfl) ?_)
        simp only [zT, zB]
        exact ⟨(200000 - nextF s.stops i1 a).toNat, _, _, by omega, by simp [zC h68, zC h69, -lenA, HH1, zI, -List.map_set, -List.getElem?_map, -List.set_set, -List.length_set, HH2, ↓HH3, HH4, ↓hwrb, HH5, HH6, hs1, hNx] <;> first | exact ⟨rfl, rfl⟩ | rfl, nextF s.stops i1 a, rfl, by omega, by rw [← hik1]; exact hnk, rfl⟩
       ·have hfe := free_of hany
        have haT : TV = a := (hfe.unique hfa).symm
        subst haT
        have hnx1 : [TV] = (RN.take (k1 + 1)) := by rw [hF1, hkz1]; rfl
        have hap1 : [[I TV]] = [TV].map rI := rfl
        refine runs_exit ?_
        simp only [zT, zB, if_true, if_false, reduceIte, Nat.reduceEqDiff, Nat.succ_ne_zero, Nat.one_ne_zero, Nat.zero_ne_one]
        refine zS ?_
        refine runs_drw (by simp (maxSteps := 3000000) [zC h68, zC h69, -lenA, HH1, zI, -List.map_set, -List.getElem?_map, -List.set_set, -List.length_set, HH2, ↓HH3, HH4, ↓hwrb, HH5, HH6, hs1, hNx, hwTV, hfn]; rfl) ?_
        simp only [zT, zB]
        refine zR (zO (by simp [zC h68, zC h69, -lenA, HH1, zI, -List.map_set, -List.getElem?_map, -List.set_set, -List.length_set, HH2, ↓HH3, HH4, ↓hwrb, HH5, HH6, hs1, hNx, hwTV, hfn]; rfl) ?_)
        simp only [zT, zB]
        refine zR (zO (by simp [zC h68, zC h69, -lenA, HH1, zI, -List.map_set, -List.getElem?_map, -List.set_set, -List.length_set, HH2, ↓HH3, HH4, ↓hwrb, HH5, HH6, hs1, hNx, hwTV, hfn]; rfl) ?_)
        simp only [zT, zB]
        exact ⟨mn - (k1 + 1), _, _, by omega, by simp [zC h68, zC h69, -lenA, HH1, zI, -List.map_set, -List.getElem?_map, -List.set_set, -List.length_set, HH2, ↓HH3, HH4, ↓hwrb, HH5, HH6, hs1, hNx, hwTV, hfn] <;> first | exact ⟨rfl, rfl⟩ | rfl, k1 + 1, i1 + 1, by omega, rfl, by omega, .inr ⟨0, [TV], by omega, hnx1, rfl, rfl⟩⟩
      ·have hVy0 := of_decide_eq_false hvy
       refine zK ?_
       simp only [zT, zB]
       refine zR (zO (by simp [zC h68, zC h69, -lenA, HH1, zI, -List.map_set, -List.getElem?_map, -List.set_set, -List.length_set, HH2, ↓HH3, HH4, ↓hwrb, HH5]; rfl) ?_)
       simp only [zT, zB]
       exact ⟨p, by omega, p, b - 1, by omega, rfl, by omega, (fun c hc1 hc2 => by
        by_cases e : c = p
        ·subst e; rw [hmy3]; exact hVy0
        ·exact hnb c (by omega) hc2), st_eq (by simp [zC h68, zC h69, -lenA, HH1, zI, -List.map_set, -List.getElem?_map, -List.set_set, -List.length_set, HH2, ↓HH3, HH4, ↓hwrb, HH5]) (trim_ok (by simp [zC h68, zC h69, -lenA, HH1, zI, -List.map_set, -List.getElem?_map, -List.set_set, -List.length_set, HH2, ↓HH3, HH4, ↓hwrb, HH5]) (by simp [zC h68, zC h69, -lenA, HH1, zI, -List.map_set, -List.getElem?_map, -List.set_set, -List.length_set, HH2, ↓HH3, HH4, ↓hwrb, HH5]) (by simp))⟩
     ·have hb0 := of_decide_eq_false hlb
      have hp00 : p0 = 0 := by omega
      subst hp00
      have hlG : (lineN s js os n).getD k1 (0, 0, false) = lAt (lineN s js os n) k1 := rfl
      have hlA : (lAt (lineN s js os n) k1).2.2 = false := by
       rcases hlast1 with ⟨h1, h2⟩ | ⟨b', h1, h2, h3, h4⟩
       ·exact h2
       ·exact absurd h2 (hnb b' (Nat.zero_le _) h1)
      rw [hlG, hlA] at hse
      simp only [Bool.false_eq_true, if_false] at hse
      have hfT := freeT_spec s.stops (k1 : Int) V F0
      rw [← hse] at hfT
      refine runs_exit ?_
      simp only [zT, zB, if_true, if_false, reduceIte, Nat.reduceEqDiff, Nat.succ_ne_zero, Nat.one_ne_zero, Nat.zero_ne_one]
      refine zL ?_
      refine runs_loopG_inv (fun m3 σ => ∃ a : Int, (200000 - a).toNat = m3 ∧ (0 ≤ a ∧ a ≤ 180000) ∧ FreeAt s.stops (k1 : Int) V a TV ∧ σ = ⟨[.any, .vl jr tj, .vl (os.map rI) to, .ref 0 0 0, .any, .any, .ref 1 0 0, .ref 9 0 0, I i, .ref 12 0 0, I a, I i1, .any, .any, .any, .any, .any, .any, .any, .any, .any, .any, .any, .any, .any, .any, .any, .any, .any, .any, .any, .any, .any, .any, .any, .any, .any, .any, .any, .any, .any, .any, .any, .any, .any, .any, .any, .any, .any, .any, .any, .any, .any, .any, .any, .any, .any, .any, .any, .any, .any, .any, .any, .any, .any, .any, .any, .any, .any, .any, .any, .any, .any, .any, .any, .any, .any, .any, .any, .any, .any, .any, .any, .any, .any, .any, .any, .any, .any, .any, .any, .any, .any, .any, .any, .any, .any, .any, .any, .any, .any, .any, .any, .any, .any, .any, .any, .any, .any, .any, .any, .any, .any, .any, .any, .any, .any, .any, .any, .any, .any, .any, .any, .any, .any, .any, .any, .any, .any, .any, .any, .any, .any, .any, .any, .any, .any, .any, .any, .any, .any, .any, .any, .any], [some (.row 3 [[I (mn : Int), c, t]]), some (.row 2 [[.nils, .nils]]), none, none, none, none, none, some (.row 1 (re.map rI)), none, some (.row 2 [[.sl 11 0 js.length true, .sl 7 0 js.length true]]), none, some (.row 1 ((rs.map encS).set X.toNat [.nils])), some (.row 4 [[I js[X.toNat].kind, I js[X.toNat].ready, I js[X.toNat].due, .vl (js[X.toNat].mins.map rI) tw]]), none, none]⟩) (by simp [zC h68, zC h69, -lenA, HH1, zI, -List.map_set, -List.getElem?_map, -List.set_set, -List.length_set, HH2, ↓HH3, HH4] <;> first | exact ⟨rfl, rfl⟩ | rfl) (⟨F0, rfl, by omega, hfT, rfl⟩) ?_
      rintro m3 σ ⟨a, rfl, hab, hfa, rfl⟩
      have hs1 := hsta (k1 : Int) V a hV0 ⟨hab.1, by omega, by omega⟩
      have hNx := hnxt (k1 : Int) a
      rw [← hik1] at hs1 hNx
      refine zS ?_
      refine zS ?_
      refine runs_drw (by simp (maxSteps := 3000000) [zC h68, zC h69, -lenA, HH1, zI, -List.map_set, -List.getElem?_map, -List.set_set, -List.length_set, HH2, ↓HH3, HH4, hs1, hNx]; rfl) ?_
      simp only [zT, zB]
      refine runs_cond_split (x := s.stops.any (conf (k1 : Int) V a)) (by simp [hik1]) (fun hany => ?_) (fun hany => ?_)
      ·have hnk := next_keep hany hM100 hfa
       have hns := next_step hany hM100
       rw [← hik1] at hnk hns
       refine zK ?_
       simp only [zT, zB]
       refine zL ?_
       refine zR (zO (by simp [zC h68, zC h69, -lenA, HH1, zI, -List.map_set, -List.getElem?_map, -List.set_set, -List.length_set, HH2, ↓HH3, HH4, hs1, hNx]; rfl) ?_)
       simp only [zT, zB]
       exact ⟨(200000 - nextF s.stops i1 a).toNat, _, _, by omega, by simp [zC h68, zC h69, -lenA, HH1, zI, -List.map_set, -List.getElem?_map, -List.set_set, -List.length_set, HH2, ↓HH3, HH4, hs1, hNx] <;> first | exact ⟨rfl, rfl⟩ | rfl, nextF s.stops i1 a, rfl, by omega, by rw [← hik1]; exact hnk, rfl⟩
      ·have hfe := free_of hany
       have haT : TV = a := (hfe.unique hfa).symm
       subst haT
       have hnx1 : [TV] = (RN.take (k1 + 1)) := by rw [hF1, hkz1]; rfl
       have hap1 : [[I TV]] = [TV].map rI := rfl
       refine runs_exit ?_
       simp only [zT, zB, if_true, if_false, reduceIte, Nat.reduceEqDiff, Nat.succ_ne_zero, Nat.one_ne_zero, Nat.zero_ne_one]
       refine zS ?_
       refine runs_drw (by simp (maxSteps := 3000000) [zC h68, zC h69, -lenA, HH1, zI, -List.map_set, -List.getElem?_map, -List.set_set, -List.length_set, HH2, ↓HH3, HH4, hs1, hNx, hwTV, hfn]; rfl) ?_
       simp only [zT, zB]
       refine zR (zO (by simp [zC h68, zC h69, -lenA, HH1, zI, -List.map_set, -List.getElem?_map, -List.set_set, -List.length_set, HH2, ↓HH3, HH4, hs1, hNx, hwTV, hfn]; rfl) ?_)
       simp only [zT, zB]
       refine zR (zO (by simp [zC h68, zC h69, -lenA, HH1, zI, -List.map_set, -List.getElem?_map, -List.set_set, -List.length_set, HH2, ↓HH3, HH4, hs1, hNx, hwTV, hfn]; rfl) ?_)
       simp only [zT, zB]
       exact ⟨mn - (k1 + 1), _, _, by omega, by simp [zC h68, zC h69, -lenA, HH1, zI, -List.map_set, -List.getElem?_map, -List.set_set, -List.length_set, HH2, ↓HH3, HH4, hs1, hNx, hwTV, hfn] <;> first | exact ⟨rfl, rfl⟩ | rfl, k1 + 1, i1 + 1, by omega, rfl, by omega, .inr ⟨0, [TV], by omega, hnx1, rfl, rfl⟩⟩
    ·have hV0 := of_decide_eq_false hv
     have hTF : TV = F0 := by
      rw [hse]; unfold startF; rw [if_neg hV0]
     subst hTF
     have hnx1 : [TV] = (RN.take (k1 + 1)) := by rw [hF1, hkz1]; rfl
     have hap1 : [[I TV]] = [TV].map rI := rfl
     refine zK ?_
     simp only [zT, zB]
     refine zS ?_
     refine runs_drw (by simp (maxSteps := 3000000) [zC h68, zC h69, -lenA, HH1, zI, -List.map_set, -List.getElem?_map, -List.set_set, -List.length_set, HH2, ↓HH3, HH4, hwTV, hfn]; rfl) ?_
     simp only [zT, zB]
     refine zR (zO (by simp [zC h68, zC h69, -lenA, HH1, zI, -List.map_set, -List.getElem?_map, -List.set_set, -List.length_set, HH2, ↓HH3, HH4, hwTV, hfn]; rfl) ?_)
     simp only [zT, zB]
     refine zR (zO (by simp [zC h68, zC h69, -lenA, HH1, zI, -List.map_set, -List.getElem?_map, -List.set_set, -List.length_set, HH2, ↓HH3, HH4, hwTV, hfn]; rfl) ?_)
     simp only [zT, zB]
     exact ⟨mn - (k1 + 1), _, _, by omega, by simp [zC h68, zC h69, -lenA, HH1, zI, -List.map_set, -List.getElem?_map, -List.set_set, -List.length_set, HH2, ↓HH3, HH4, hwTV, hfn] <;> first | exact ⟨rfl, rfl⟩ | rfl, k1 + 1, i1 + 1, by omega, rfl, by omega, .inr ⟨0, [TV], by omega, hnx1, rfl, rfl⟩⟩
   ·have hx1 := of_decide_eq_false hlt1
    have hkE1 : k1 = mn := by omega
    omega
  ·have tk1 : (ac1.map rI).take (p1 + 1) = ac1.map rI := List.take_of_length_le (by simp [hacl1])
   have hlac1 : p1 + 1 + 1 ≤ 1048576 := by omega
   have hr31 : ∀ e : Int, (rI e).length = 1 := fun _ => rfl
   have hfr1 := fun n h r => optAll_snoc (frN_rI n h ac1) r
   have hrj1 := fun n => rI_rb n 4 ac1
   refine zS ?_
   refine zS ?_
   refine zR (zO (by simp [zC h68, zC h69, -lenA, HH1, zI, -List.map_set, -List.getElem?_map, -List.set_set, -List.length_set, HH2, ↓HH3, tk1, hlac1, hacl1, hr31, ↓hfr1, ↓hrj1]; rfl) ?_)
   simp only [zT, zB]
   refine runs_cond_split (x := _) rfl (fun hlt1 => ?_) (fun hlt1 => ?_)
   ·have hltt1 := of_decide_eq_true hlt1
    have hk01 : k1 < mn := by omega
    have hi01 : 0 ≤ i1 := by omega
    have htn1 : i1.toNat = k1 := by omega
    have hwi1 : W .i64 (i1 + 1) = i1 + 1 := W_small (by omega)
    have hk1m : (k1 : Int) < s.mach := by omega
    have hk1j : k1 < js[X.toNat].mins.length := by omega
    have hk1r : k1 < RN.length := by omega
    have hi1j : i1 < (js[X.toNat].mins.length : Int) := by omega
    have hlast1 := hlast k1 hk1m
    have hse := hsteq k1 hk1m
    rw [hstat] at hse
    have hTb := hRNb _ (List.getElem_mem hk1r)
    have hnT : nAt RN k1 = RN[k1] := by unfold nAt; rw [List.getD_eq_getElem?_getD, List.getElem?_eq_getElem hk1r]; rfl
    have hF1 : RN.take (k1 + 1) = RN.take k1 ++ [RN[k1]] := List.take_succ_eq_append_getElem hk1r
    have hfn : RN[k1] + js[X.toNat].mins[k1] = fromA js (stsF s js os) os n (k1 + 1) := by
     unfold fromA
     rw [if_neg (Nat.succ_ne_zero _), Nat.add_sub_cancel, hstat, hnT, hJ, minAt_eq hk1j]
    have hfb : 0 ≤ fromA js (stsF s js os) os n k1 ∧ fromA js (stsF s js os) os n k1 ≤ 175000 := by
     unfold fromA
     by_cases hk : k1 = 0
     ·rw [if_pos hk, hJ]; have := hjb.2.1; omega
     ·rw [if_neg hk]
      have hkr : k1 - 1 < RN.length := by omega
      have hkj : k1 - 1 < js[X.toNat].mins.length := by omega
      have h1 := hRNb _ (List.getElem_mem hkr)
      have h2 := hjb.2.2.2.2 _ (List.getElem_mem hkj)
      rw [hstat, hJ, minAt_eq hkj]
      unfold nAt
      rw [List.getD_eq_getElem?_getD, List.getElem?_eq_getElem hkr, Option.getD_some]
      omega
    have hVb := hjb.2.2.2.2 _ (List.getElem_mem hk1j)
    rw [hnT, minAt_eq hk1j] at hse
    generalize hFr : fromA js (stsF s js os) os n k1 = F0 at *
    generalize hTT : RN[k1] = TV at *
    generalize hVV : js[X.toNat].mins[k1] = V at *
    have hwTV : W .i64 (fromA js (stsF s js os) os n (k1 + 1)) = fromA js (stsF s js os) os n (k1 + 1) := by rw [← hfn]; exact W_fit (by omega)
    have HH7 := zA tk1 (zA hlac1 (zA hacl1 (zA hr31 (zA hi01 (zA htn1 (zA hk01 (zA hwi1 (zA hk1j (zA hi1j hVV)))))))))
    refine zK ?_
    simp only [zT, zB]
    refine zS ?_
    refine zL ?_
    refine zS ?_
    refine zS ?_
    refine zR (zO (by simp [zC h68, zC h69, -lenA, HH1, zI, -List.map_set, -List.getElem?_map, -List.set_set, -List.length_set, HH2, ↓HH3, ↓hfr1, ↓hrj1, HH7]; rfl) ?_)
    simp only [zT, zB]
    refine runs_cond_split (x := decide (0 < V)) (by simp) (fun hv => ?_) (fun hv => ?_)
    ·have hV0 := of_decide_eq_true hv
     unfold startF at hse
     rw [if_pos hV0] at hse
     refine zS ?_
     refine zS ?_
     refine zR (zO (by simp [zC h68, zC h69, -lenA, HH1, zI, -List.map_set, -List.getElem?_map, -List.set_set, -List.length_set, HH2, ↓HH3, ↓hfr1, ↓hrj1, HH7]; rfl) ?_)
     simp only [zT, zB]
     refine zL ?_
     refine runs_loop_inv (fun m2 σ => ∃ (p0 : Nat) (b : Int), b = p0 - 1 ∧ p0 = m2 ∧ p0 ≤ n ∧ (∀ q, p0 ≤ q → q < n → ¬ 0 < minAt (jn js os q) k1) ∧ σ = ⟨[.any, .vl jr tj, .vl (os.map rI) to, .ref 0 0 0, .any, .any, .ref 1 0 0, .ref 9 0 0, I i, .ref 12 0 0, I F0, I i1, I b, .any, .any, .any, .any, .any, .any, .any, .any, .any, .any, .any, .any, .any, .any, .any, .any, .any, .any, .any, .any, .any, .any, .any, .any, .any, .any, .any, .any, .any, .any, .any, .any, .any, .any, .any, .any, .any, .any, .any, .any, .any, .any, .any, .any, .any, .any, .any, .any, .any, .any, .any, .any, .any, .any, .any, .any, .any, .any, .any, .any, .any, .any, .any, .any, .any, .any, .any, .any, .any, .any, .any, .any, .any, .any, .any, .any, .any, .any, .any, .any, .any, .any, .any, .any, .any, .any, .any, .any, .any, .any, .any, .any, .any, .any, .any, .any, .any, .any, .any, .any, .any, .any, .any, .any, .any, .any, .any, .any, .any, .any, .any, .any, .any, .any, .any, .any, .any, .any, .any, .any, .any, .any, .any, .any, .any, .any, .any, .any, .any, .any, .any], [some (.row 3 [[I (mn : Int), c, t]]), some (.row 2 [[.nils, .nils]]), none, none, none, none, none, some (.row 1 (re.map rI)), none, some (.row 2 [[.sl 11 0 js.length true, .sl 7 0 js.length true]]), none, some (.row 1 ((rs.map encS).set X.toNat [.sl 13 0 (p1 + 1) false])), some (.row 4 [[I js[X.toNat].kind, I js[X.toNat].ready, I js[X.toNat].due, .vl (js[X.toNat].mins.map rI) tw]]), some (.row 1 (ac1.map rI))]⟩) ?_ n _ ⟨n, i - 1, by omega, rfl, Nat.le_refl _, fun q h1 h2 => by omega, by simp [hwj]⟩
     rintro m2 σ ⟨p0, b, hbp0, rfl, hp0n, hnb, rfl⟩
     refine zS ?_
     refine zS ?_
     refine zR (zO (by simp [zC h68, zC h69, -lenA, HH1, zI, -List.map_set, -List.getElem?_map, -List.set_set, -List.length_set, HH2, ↓HH3, ↓hfr1, ↓hrj1, HH7]; rfl) ?_)
     simp only [zT, zB]
     refine runs_cond_split (x := decide (0 ≤ b)) (by simp) (fun hlb => ?_) (fun hlb => ?_)
     ·have hb0 := of_decide_eq_true hlb
      obtain ⟨p, rfl⟩ : ∃ p, p0 = p + 1 := ⟨p0 - 1, by omega⟩
      have hbp : b = p := by omega
      have hpn : p < n := by omega
      have hpo : p < os.length := by omega
      have hbt : b.toNat = p := by omega
      have hblo : b < (os.length : Int) := by omega
      have hwb : W .i64 (b - 1) = b - 1 := W_small (by omega)
      have hmy := hctx.mem _ (List.getElem_mem hpo)
      have hy0 : 0 ≤ os[p] := hmy.1
      have hyj : os[p].toNat < js.length := by omega
      have hyjl : os[p] < (js.length : Int) := hmy.2
      have hoP := oAtN_eq hpo
      have hJy := jn_at hpo hyj
      have hjby := hsh.job _ (List.getElem_mem hyj)
      generalize hY : os[p] = Y at *
      have hky : Y.toNat < jr.length := by omega
      obtain ⟨wy, hwy2, hwy3⟩ := jobs_at hj hyj
      have hkjy : k1 < js[Y.toNat].mins.length := by have := hjby.2.2.2.1; omega
      have hi1y : i1 < (js[Y.toNat].mins.length : Int) := by omega
      obtain ⟨twy, rfl⟩ := dInts_get hwy3 hkjy
      have hwyg : ∀ h, jr[Y.toNat]'h = [I js[Y.toNat].kind, I js[Y.toNat].ready, I js[Y.toNat].due, .vl (js[Y.toNat].mins.map rI) twy] := fun h => by rw [List.getElem?_eq_getElem h] at hwy2; exact Option.some.inj hwy2
      have hwrb := fun n d => dInts_rb hwy3 n d
      have hmy2 := hjby.2.2.2.2 _ (List.getElem_mem hkjy)
      have hne : X.toNat ≠ Y.toNat := by
       have := oAt_ne hctx hn0 hpo (by omega)
       rw [hoN, hoP] at this; exact this
      have hrowy := row_at hctx hpo
      have hol2 := hold p hpn
      rw [hoP] at hrowy hol2
      have hsty := st_at hctx hpo k1
      generalize hRY : (passF s (lineN s js os p) (jn js os p)).1 = RY at *
      have hRYm : RY ∈ stsF s js os := List.mem_of_getElem? hrowy.1
      have hRYl : RY.length = mn := by have := (hSok.row _ hRYm).1; omega
      have hRY0 : RY ≠ [] := by intro e; rw [e] at hRYl; simp at hRYl; omega
      have hk1y : k1 < RY.length := by omega
      have hi1Y : i1 < (RY.length : Int) := by omega
      have hSyb := hst160 _ hRYm _ (List.getElem_mem hk1y)
      have hnY : nAt RY k1 = RY[k1] := by unfold nAt; rw [List.getD_eq_getElem?_getD, List.getElem?_eq_getElem hk1y]; rfl
      rw [hnY] at hsty
      have gy : ∀ v, ((rs.map encS).set X.toNat v)[Y.toNat]? = some [.vl (RY.map rI) false] := fun v => by
       rw [List.getElem?_set_ne hne, List.getElem?_map, hol2, hrowy.1, Option.map_some, encS_ne hRY0]
      have gyv := fun v (h : Y.toNat < ((rs.map encS).set X.toNat v).length) => Option.some.inj ((List.getElem?_eq_getElem h).symm.trans (gy v))
      generalize hSy : RY[k1] = Sy at *
      have hmy3 : minAt (jn js os p) k1 = js[Y.toNat].mins[k1] := by rw [hJy, minAt_eq hkjy]
      generalize hVy : js[Y.toNat].mins[k1] = Vy at *
      have HH8 := zA hb0 (zA hbt (zA hpo (zA hblo (zA hwb (zA hY (zA hy0 (zA hyj (zA hyjl (zA hky (zA hwy2 (zA hwyg (zA hkjy (zA hi1y (zA hVy (zA gy (zA gyv (zA hk1y (zA hi1Y hSy))))))))))))))))))
      refine zK ?_
      simp only [zT, zB]
      refine zS ?_
      refine zL ?_
      refine zS ?_
      refine zR (zO (by simp [zC h68, zC h69, -lenA, HH1, zI, -List.map_set, -List.getElem?_map, -List.set_set, -List.length_set, HH2, ↓HH3, ↓hfr1, ↓hrj1, HH7, ↓hwrb, HH8]; rfl) ?_)
      simp only [zT, zB]
      refine zS ?_
      refine zR (zO (by simp [zC h68, zC h69, -lenA, HH1, zI, -List.map_set, -List.getElem?_map, -List.set_set, -List.length_set, HH2, ↓HH3, ↓hfr1, ↓hrj1, HH7, ↓hwrb, HH8]; rfl) ?_)
      simp only [zT, zB]
      refine runs_cond_split (x := decide (0 < Vy)) (by simp) (fun hvy => ?_) (fun hvy => ?_)
      ·have hVy0 := of_decide_eq_true hvy
       obtain ⟨hlA, hlB⟩ : (lAt (lineN s js os n) k1).2.2 = true ∧ lAt (lineN s js os n) k1 = (Sy + Vy, js[Y.toNat].kind, true) := by
        rcases hlast1 with ⟨h1, h2⟩ | ⟨b', h1, h2, h3, h4⟩
        ·exact absurd (by rw [hmy3]; exact hVy0) (h1 p hpn)
        ·have hbp' : b' = p := by
          rcases Nat.lt_trichotomy b' p with hlt | rfl | hgt
          ·exact absurd (by rw [hmy3]; exact hVy0) (h3 p hlt hpn)
          ·rfl
          ·exact absurd h2 (hnb b' (by omega) h1)
         subst hbp'
         rw [h4]
         refine ⟨rfl, ?_⟩
         rw [hsty, hmy3, hJy]
       have hlG : (lineN s js os n).getD k1 (0, 0, false) = lAt (lineN s js os n) k1 := rfl
       rw [hlG, hlB] at hse
       simp only [if_true] at hse
       obtain ⟨rsc, tcc, rowc, tcr, hce, gc1, gc2, gc3, gc4⟩ := chgAt_get hsh hc hjby.1 hjb.1
       have hcb := chgAt_bd hsh js[Y.toNat].kind js[X.toNat].kind
       have hkd0 := hjby.1.1
       have hkd1 := hjb.1.1
       generalize hCH : chgAt s js[Y.toNat].kind js[X.toNat].kind = CH at *
       have gc2' := fun (h : js[Y.toNat].kind.toNat < rsc.length) => Option.some.inj ((List.getElem?_eq_getElem h).symm.trans gc2)
       have gc4' := fun (h : js[X.toNat].kind.toNat < rowc.length) => Option.some.inj ((List.getElem?_eq_getElem h).symm.trans gc4)
       have hw1 : W .i64 (Sy + Vy) = Sy + Vy := W_fit (by omega)
       have hw2 : W .i64 (Sy + Vy + CH) = Sy + Vy + CH := W_fit (by omega)
       subst hce
       have hfT := freeT_spec s.stops (k1 : Int) V (max F0 (Sy + Vy + CH))
       rw [← hse] at hfT
       have HH9 := zA gc1 (zA gc2 (zA gc2' (zA gc3 (zA gc4 (zA gc4' (zA hkd0 (zA hkd1 (zA hw1 hw2))))))))
       refine zS ?_
       refine runs_drw (by simp (maxSteps := 3000000) [zC h68, zC h69, -lenA, HH1, zI, -List.map_set, -List.getElem?_map, -List.set_set, -List.length_set, HH2, ↓HH3, ↓hfr1, ↓hrj1, HH7, ↓hwrb, HH8, HH9]; rfl) ?_
       simp only [zT, zB]
       refine runs_exit ?_
       simp only [zT, zB, if_true, if_false, reduceIte, Nat.reduceEqDiff, Nat.succ_ne_zero, Nat.one_ne_zero, Nat.zero_ne_one]
       refine zL ?_
       refine runs_loopG_inv (fun m3 σ => ∃ a : Int, (200000 - a).toNat = m3 ∧ (0 ≤ a ∧ a ≤ 180000) ∧ FreeAt s.stops (k1 : Int) V a TV ∧ σ = ⟨[.any, .vl jr tj, .vl (os.map rI) to, .ref 0 0 0, .any, .any, .ref 1 0 0, .ref 9 0 0, I i, .ref 12 0 0, I a, I i1, .any, .any, .any, .any, .any, .any, .any, .any, .any, .any, .any, .any, .any, .any, .any, .any, .any, .any, .any, .any, .any, .any, .any, .any, .any, .any, .any, .any, .any, .any, .any, .any, .any, .any, .any, .any, .any, .any, .any, .any, .any, .any, .any, .any, .any, .any, .any, .any, .any, .any, .any, .any, .any, .any, .any, .any, .any, .any, .any, .any, .any, .any, .any, .any, .any, .any, .any, .any, .any, .any, .any, .any, .any, .any, .any, .any, .any, .any, .any, .any, .any, .any, .any, .any, .any, .any, .any, .any, .any, .any, .any, .any, .any, .any, .any, .any, .any, .any, .any, .any, .any, .any, .any, .any, .any, .any, .any, .any, .any, .any, .any, .any, .any, .any, .any, .any, .any, .any, .any, .any, .any, .any, .any, .any, .any, .any, .any, .any, .any, .any, .any, .any], [some (.row 3 [[I (mn : Int), .vl rsc tcc, t]]), some (.row 2 [[.nils, .nils]]), none, none, none, none, none, some (.row 1 (re.map rI)), none, some (.row 2 [[.sl 11 0 js.length true, .sl 7 0 js.length true]]), none, some (.row 1 ((rs.map encS).set X.toNat [.sl 46 0 (p1 + 1) false])), some (.row 4 [[I js[X.toNat].kind, I js[X.toNat].ready, I js[X.toNat].due, .vl (js[X.toNat].mins.map rI) tw]]), none, some (.row 4 [[I js[Y.toNat].kind, I js[Y.toNat].ready, I js[Y.toNat].due, .vl (js[Y.toNat].mins.map rI) twy]]), none, none, none, none, none, none, none, none, none, none, none, none, none, none, none, none, none, none, none, none, none, none, none, none, none, none, none, none, none, none, none, some (.row 1 (ac1.map rI))]⟩) (by simp [zC h68, zC h69, -lenA, HH1, zI, -List.map_set, -List.getElem?_map, -List.set_set, -List.length_set, HH2, ↓HH3, ↓hfr1, ↓hrj1, HH7, ↓hwrb, HH8, HH9] <;> first | exact ⟨rfl, rfl⟩ | rfl) (⟨max F0 (Sy + Vy + CH), rfl, by omega, hfT, rfl⟩) ?_
       rintro m3 σ ⟨a, rfl, hab, hfa, rfl⟩
       have hs1 := hsta (k1 : Int) V a hV0 ⟨hab.1, by omega, by omega⟩
       have hNx := hnxt (k1 : Int) a
       rw [← hik1] at hs1 hNx
       refine zS ?_
       refine zS ?_
       refine runs_drw (by simp (maxSteps := 3000000) [zC h68, zC h69, -lenA, HH1, zI, -List.map_set, -List.getElem?_map, -List.set_set, -List.length_set, HH2, ↓HH3, ↓hfr1, ↓hrj1, HH7, ↓hwrb, HH8, HH9, hs1, hNx]; rfl) ?_
       simp only [zT, zB]
       refine runs_cond_split (x := s.stops.any (conf (k1 : Int) V a)) (by simp [hik1]) (fun hany => ?_) (fun hany => ?_)
       ·have hnk := next_keep hany hM100 hfa
        have hns := next_step hany hM100
        rw [← hik1] at hnk hns
        refine zK ?_
        simp only [zT, zB]
        refine zL ?_
        refine zR (zO (by simp [zC h68, zC h69, -lenA, HH1, zI, -List.map_set, -List.getElem?_map, -List.set_set, -List.length_set, HH2, ↓HH3, ↓hfr1, ↓hrj1, HH7, ↓hwrb, HH8, HH9, hs1, hNx]; rfl) ?_)
        simp only [zT, zB]
        exact ⟨(200000 - nextF s.stops i1 a).toNat, _, _, by omega, by simp [zC h68, zC h69, -lenA, HH1, zI, -List.map_set, -List.getElem?_map, -List.set_set, -List.length_set, HH2, ↓HH3, ↓hfr1, ↓hrj1, HH7, ↓hwrb, HH8, HH9, hs1, hNx] <;> first | exact ⟨rfl, rfl⟩ | rfl, nextF s.stops i1 a, rfl, by omega, by rw [← hik1]; exact hnk, rfl⟩
       ·have hfe := free_of hany
        have haT : TV = a := (hfe.unique hfa).symm
        subst haT
        have hnx1 : ac1 ++ [TV] = (RN.take (k1 + 1)) := by rw [hF1, ← hac1]
        have hnl1 : (ac1 ++ [TV]).length = p1 + 1 + 1 := by simp [hacl1]
        have hap1 : ac1.map rI ++ [[I TV]] = (ac1 ++ [TV]).map rI := by rw [List.map_append]; rfl
        generalize ac1 ++ [TV] = nx1 at *
        have hrx1 := fun n => rI_rb n 4 nx1
        have HH10 := zA hs1 (zA hNx (zA hap1 (zA hwTV hfn)))
        refine runs_exit ?_
        simp only [zT, zB, if_true, if_false, reduceIte, Nat.reduceEqDiff, Nat.succ_ne_zero, Nat.one_ne_zero, Nat.zero_ne_one]
        refine zS ?_
        refine runs_drw (by simp (maxSteps := 3000000) [zC h68, zC h69, -lenA, HH1, zI, -List.map_set, -List.getElem?_map, -List.set_set, -List.length_set, HH2, ↓HH3, ↓hfr1, ↓hrj1, HH7, ↓hwrb, HH8, HH9, ↓hrx1, HH10]; rfl) ?_
        simp only [zT, zB]
        refine zR (zO (by simp [zC h68, zC h69, -lenA, HH1, zI, -List.map_set, -List.getElem?_map, -List.set_set, -List.length_set, HH2, ↓HH3, ↓hfr1, ↓hrj1, HH7, ↓hwrb, HH8, HH9, ↓hrx1, HH10]; rfl) ?_)
        simp only [zT, zB]
        refine zR (zO (by simp [zC h68, zC h69, -lenA, HH1, zI, -List.map_set, -List.getElem?_map, -List.set_set, -List.length_set, HH2, ↓HH3, ↓hfr1, ↓hrj1, HH7, ↓hwrb, HH8, HH9, ↓hrx1, HH10]; rfl) ?_)
        simp only [zT, zB]
        exact ⟨mn - (k1 + 1), _, _, by omega, by simp [zC h68, zC h69, -lenA, HH1, zI, -List.map_set, -List.getElem?_map, -List.set_set, -List.length_set, HH2, ↓HH3, ↓hfr1, ↓hrj1, HH7, ↓hwrb, HH8, HH9, ↓hrx1, HH10] <;> first | exact ⟨rfl, rfl⟩ | rfl, k1 + 1, i1 + 1, by omega, rfl, by omega, .inr ⟨p1 + 1, nx1, by omega, hnx1, hnl1, rfl⟩⟩
      ·have hVy0 := of_decide_eq_false hvy
       refine zK ?_
       simp only [zT, zB]
       refine zR (zO (by simp [zC h68, zC h69, -lenA, HH1, zI, -List.map_set, -List.getElem?_map, -List.set_set, -List.length_set, HH2, ↓HH3, ↓hfr1, ↓hrj1, HH7, ↓hwrb, HH8]; rfl) ?_)
       simp only [zT, zB]
       exact ⟨p, by omega, p, b - 1, by omega, rfl, by omega, (fun c hc1 hc2 => by
        by_cases e : c = p
        ·subst e; rw [hmy3]; exact hVy0
        ·exact hnb c (by omega) hc2), st_eq (by simp [zC h68, zC h69, -lenA, HH1, zI, -List.map_set, -List.getElem?_map, -List.set_set, -List.length_set, HH2, ↓HH3, ↓hfr1, ↓hrj1, HH7, ↓hwrb, HH8]) (trim_ok (by simp [zC h68, zC h69, -lenA, HH1, zI, -List.map_set, -List.getElem?_map, -List.set_set, -List.length_set, HH2, ↓HH3, ↓hfr1, ↓hrj1, HH7, ↓hwrb, HH8]) (by simp [zC h68, zC h69, -lenA, HH1, zI, -List.map_set, -List.getElem?_map, -List.set_set, -List.length_set, HH2, ↓HH3, ↓hfr1, ↓hrj1, HH7, ↓hwrb, HH8]) (by simp))⟩
     ·have hb0 := of_decide_eq_false hlb
      have hp00 : p0 = 0 := by omega
      subst hp00
      have hlG : (lineN s js os n).getD k1 (0, 0, false) = lAt (lineN s js os n) k1 := rfl
      have hlA : (lAt (lineN s js os n) k1).2.2 = false := by
       rcases hlast1 with ⟨h1, h2⟩ | ⟨b', h1, h2, h3, h4⟩
       ·exact h2
       ·exact absurd h2 (hnb b' (Nat.zero_le _) h1)
      rw [hlG, hlA] at hse
      simp only [Bool.false_eq_true, if_false] at hse
      have hfT := freeT_spec s.stops (k1 : Int) V F0
      rw [← hse] at hfT
      refine runs_exit ?_
      simp only [zT, zB, if_true, if_false, reduceIte, Nat.reduceEqDiff, Nat.succ_ne_zero, Nat.one_ne_zero, Nat.zero_ne_one]
      refine zL ?_
      refine runs_loopG_inv (fun m3 σ => ∃ a : Int, (200000 - a).toNat = m3 ∧ (0 ≤ a ∧ a ≤ 180000) ∧ FreeAt s.stops (k1 : Int) V a TV ∧ σ = ⟨[.any, .vl jr tj, .vl (os.map rI) to, .ref 0 0 0, .any, .any, .ref 1 0 0, .ref 9 0 0, I i, .ref 12 0 0, I a, I i1, .any, .any, .any, .any, .any, .any, .any, .any, .any, .any, .any, .any, .any, .any, .any, .any, .any, .any, .any, .any, .any, .any, .any, .any, .any, .any, .any, .any, .any, .any, .any, .any, .any, .any, .any, .any, .any, .any, .any, .any, .any, .any, .any, .any, .any, .any, .any, .any, .any, .any, .any, .any, .any, .any, .any, .any, .any, .any, .any, .any, .any, .any, .any, .any, .any, .any, .any, .any, .any, .any, .any, .any, .any, .any, .any, .any, .any, .any, .any, .any, .any, .any, .any, .any, .any, .any, .any, .any, .any, .any, .any, .any, .any, .any, .any, .any, .any, .any, .any, .any, .any, .any, .any, .any, .any, .any, .any, .any, .any, .any, .any, .any, .any, .any, .any, .any, .any, .any, .any, .any, .any, .any, .any, .any, .any, .any, .any, .any, .any, .any, .any, .any], [some (.row 3 [[I (mn : Int), c, t]]), some (.row 2 [[.nils, .nils]]), none, none, none, none, none, some (.row 1 (re.map rI)), none, some (.row 2 [[.sl 11 0 js.length true, .sl 7 0 js.length true]]), none, some (.row 1 ((rs.map encS).set X.toNat [.sl 14 0 (p1 + 1) false])), some (.row 4 [[I js[X.toNat].kind, I js[X.toNat].ready, I js[X.toNat].due, .vl (js[X.toNat].mins.map rI) tw]]), none, some (.row 1 (ac1.map rI))]⟩) (by simp [zC h68, zC h69, -lenA, HH1, zI, -List.map_set, -List.getElem?_map, -List.set_set, -List.length_set, HH2, ↓HH3, ↓hfr1, ↓hrj1, HH7] <;> first | exact ⟨rfl, rfl⟩ | rfl) (⟨F0, rfl, by omega, hfT, rfl⟩) ?_
      rintro m3 σ ⟨a, rfl, hab, hfa, rfl⟩
      have hs1 := hsta (k1 : Int) V a hV0 ⟨hab.1, by omega, by omega⟩
      have hNx := hnxt (k1 : Int) a
      rw [← hik1] at hs1 hNx
      refine zS ?_
      refine zS ?_
      refine runs_drw (by simp (maxSteps := 3000000) [zC h68, zC h69, -lenA, HH1, zI, -List.map_set, -List.getElem?_map, -List.set_set, -List.length_set, HH2, ↓HH3, ↓hfr1, ↓hrj1, HH7, hs1, hNx]; rfl) ?_
      simp only [zT, zB]
      refine runs_cond_split (x := s.stops.any (conf (k1 : Int) V a)) (by simp [hik1]) (fun hany => ?_) (fun hany => ?_)
      ·have hnk := next_keep hany hM100 hfa
       have hns := next_step hany hM100
       rw [← hik1] at hnk hns
       refine zK ?_
       simp only [zT, zB]
       refine zL ?_
       refine zR (zO (by simp [zC h68, zC h69, -lenA, HH1, zI, -List.map_set, -List.getElem?_map, -List.set_set, -List.length_set, HH2, ↓HH3, ↓hfr1, ↓hrj1, HH7, hs1, hNx]; rfl) ?_)
       simp only [zT, zB]
       exact ⟨(200000 - nextF s.stops i1 a).toNat, _, _, by omega, by simp [zC h68, zC h69, -lenA, HH1, zI, -List.map_set, -List.getElem?_map, -List.set_set, -List.length_set, HH2, ↓HH3, ↓hfr1, ↓hrj1, HH7, hs1, hNx] <;> first | exact ⟨rfl, rfl⟩ | rfl, nextF s.stops i1 a, rfl, by omega, by rw [← hik1]; exact hnk, rfl⟩
      ·have hfe := free_of hany
       have haT : TV = a := (hfe.unique hfa).symm
       subst haT
       have hnx1 : ac1 ++ [TV] = (RN.take (k1 + 1)) := by rw [hF1, ← hac1]
       have hnl1 : (ac1 ++ [TV]).length = p1 + 1 + 1 := by simp [hacl1]
       have hap1 : ac1.map rI ++ [[I TV]] = (ac1 ++ [TV]).map rI := by rw [List.map_append]; rfl
       generalize ac1 ++ [TV] = nx1 at *
       have hrx1 := fun n => rI_rb n 4 nx1
       have HH11 := zA hs1 (zA hNx (zA hap1 (zA hwTV hfn)))
       refine runs_exit ?_
       simp only [zT, zB, if_true, if_false, reduceIte, Nat.reduceEqDiff, Nat.succ_ne_zero, Nat.one_ne_zero, Nat.zero_ne_one]
       refine zS ?_
       refine runs_drw (by simp (maxSteps := 3000000) [zC h68, zC h69, -lenA, HH1, zI, -List.map_set, -List.getElem?_map, -List.set_set, -List.length_set, HH2, ↓HH3, ↓hfr1, ↓hrj1, HH7, ↓hrx1, HH11]; rfl) ?_
       simp only [zT, zB]
       refine zR (zO (by simp [zC h68, zC h69, -lenA, HH1, zI, -List.map_set, -List.getElem?_map, -List.set_set, -List.length_set, HH2, ↓HH3, ↓hfr1, ↓hrj1, HH7, ↓hrx1, HH11]; rfl) ?_)
       simp only [zT, zB]
       refine zR (zO (by simp [zC h68, zC h69, -lenA, HH1, zI, -List.map_set, -List.getElem?_map, -List.set_set, -List.length_set, HH2, ↓HH3, ↓hfr1, ↓hrj1, HH7, ↓hrx1, HH11]; rfl) ?_)
       simp only [zT, zB]
       exact ⟨mn - (k1 + 1), _, _, by omega, by simp [zC h68, zC h69, -lenA, HH1, zI, -List.map_set, -List.getElem?_map, -List.set_set, -List.length_set, HH2, ↓HH3, ↓hfr1, ↓hrj1, HH7, ↓hrx1, HH11] <;> first | exact ⟨rfl, rfl⟩ | rfl, k1 + 1, i1 + 1, by omega, rfl, by omega, .inr ⟨p1 + 1, nx1, by omega, hnx1, hnl1, rfl⟩⟩
    ·have hV0 := of_decide_eq_false hv
     have hTF : TV = F0 := by
      rw [hse]; unfold startF; rw [if_neg hV0]
     subst hTF
     have hnx1 : ac1 ++ [TV] = (RN.take (k1 + 1)) := by rw [hF1, ← hac1]
     have hnl1 : (ac1 ++ [TV]).length = p1 + 1 + 1 := by simp [hacl1]
     have hap1 : ac1.map rI ++ [[I TV]] = (ac1 ++ [TV]).map rI := by rw [List.map_append]; rfl
     generalize ac1 ++ [TV] = nx1 at *
     have hrx1 := fun n => rI_rb n 4 nx1
     refine zK ?_
     simp only [zT, zB]
     refine zS ?_
     refine runs_drw (by simp (maxSteps := 3000000) [zC h68, zC h69, -lenA, HH1, zI, -List.map_set, -List.getElem?_map, -List.set_set, -List.length_set, HH2, ↓HH3, ↓hfr1, ↓hrj1, HH7, hap1, ↓hrx1, hwTV, hfn]; rfl) ?_
     simp only [zT, zB]
     refine zR (zO (by simp [zC h68, zC h69, -lenA, HH1, zI, -List.map_set, -List.getElem?_map, -List.set_set, -List.length_set, HH2, ↓HH3, ↓hfr1, ↓hrj1, HH7, hap1, ↓hrx1, hwTV, hfn]; rfl) ?_)
     simp only [zT, zB]
     refine zR (zO (by simp [zC h68, zC h69, -lenA, HH1, zI, -List.map_set, -List.getElem?_map, -List.set_set, -List.length_set, HH2, ↓HH3, ↓hfr1, ↓hrj1, HH7, hap1, ↓hrx1, hwTV, hfn]; rfl) ?_)
     simp only [zT, zB]
     exact ⟨mn - (k1 + 1), _, _, by omega, by simp [zC h68, zC h69, -lenA, HH1, zI, -List.map_set, -List.getElem?_map, -List.set_set, -List.length_set, HH2, ↓HH3, ↓hfr1, ↓hrj1, HH7, hap1, ↓hrx1, hwTV, hfn] <;> first | exact ⟨rfl, rfl⟩ | rfl, k1 + 1, i1 + 1, by omega, rfl, by omega, .inr ⟨p1 + 1, nx1, by omega, hnx1, hnl1, rfl⟩⟩
   ·have hx1 := of_decide_eq_false hlt1
    have hkE1 : k1 = mn := by omega
    rw [hkE1] at hac1
    rw [List.take_of_length_le (by omega)] at hac1
    subst hac1
    have hRl1 : p1 + 1 = ac1.length := by omega
    rw [hkE1, hfrm]
    have hvr : ∀ h : Heap, h[13]? = some (some (.row 1 (ac1.map rI))) → True := fun _ _ => trivial
    have hst1 : (rs.map encS).set X.toNat [.vl (ac1.map rI) false] = (rs.set X.toNat ac1).map encS := by rw [List.map_set, encS_ne hRN0]
    have hrst := fun n => encS_rb n 4 (rs.set X.toNat ac1)
    refine runs_exit ?_
    simp only [zT, zB, if_true, if_false, reduceIte, Nat.reduceEqDiff, Nat.succ_ne_zero, Nat.one_ne_zero, Nat.zero_ne_one]
    refine runs_drw (by simp (maxSteps := 3000000) [zC h68, zC h69, -lenA, HH1, zI, -List.map_set, -List.getElem?_map, -List.set_set, -List.length_set, HH2, ↓HH3, tk1, hlac1, hacl1, hr31, ↓hfr1, ↓hrj1, ↓hst1, frz_mapI, ↓hrst]; rfl) ?_
    simp only [zT, zB]
    refine zR (zO (by simp [zC h68, zC h69, -lenA, HH1, zI, -List.map_set, -List.getElem?_map, -List.set_set, -List.length_set, HH2, ↓HH3, tk1, hlac1, hacl1, hr31, ↓hfr1, ↓hrj1, ↓hst1, frz_mapI, ↓hrst]; rfl) ?_)
    simp only [zT, zB]
    exact ⟨os.length - (n + 1), _, _, by omega, by simp [zC h68, zC h69, -lenA, HH1, zI, -List.map_set, -List.getElem?_map, -List.set_set, -List.length_set, HH2, ↓HH3, tk1, hlac1, hacl1, hr31, ↓hfr1, ↓hrj1, ↓hst1, frz_mapI, ↓hrst] <;> first | exact ⟨rfl, rfl⟩ | rfl, n + 1, i + 1, _, _, by omega, rfl, by omega, hstp.1.symm, hstp.2.symm, rfl⟩
 ·have hlt := of_decide_eq_false hlt
  have hnE : n = os.length := by omega
  subst hnE
  rw [(runN_all s js os).1] at hrs
  rw [(runN_all s js os).2] at hre
  subst hrs hre
  have tk1 : ((stsF s js os).map encS).take js.length = (stsF s js os).map encS := List.take_of_length_le (by simp [hrsl])
  have tk2 : ((endF s js os).map rI).take js.length = (endF s js os).map rI := List.take_of_length_le (by simp [hrel])
  have fz1 : ∀ H d, optAll (optAll (frz false H (d + 1))) ((stsF s js os).map encS) = some ((stsF s js os).map encS) := fun H d => frz_encS H d _
  have HH12 := zA hrsl (zA hrel (zA tk1 (zA tk2 fz1)))
  refine runs_exit ?_
  simp only [zT, zB, if_true, if_false, reduceIte, Nat.reduceEqDiff, Nat.succ_ne_zero, Nat.one_ne_zero, Nat.zero_ne_one]
  refine zS ?_
  refine zR (zO (by simp [zC h68, zC h69, -lenA, ↓erb1, ↓erb2, HH1, frz_mapI, HH12]; rfl) ?_)
  simp only [zT, zB]
  refine runs_ret ?_
  simp [zC h68, zC h69, -lenA, ↓erb1, ↓erb2, HH1, frz_mapI, HH12, trim]
end
end Go.Proofs.YtjjapdagllclkaaGreat.Tab

namespace Go.Proofs.YtjjapdagllclkaaGreat.Tab
open Go Go.Abs Go.Proofs
set_option maxRecDepth 100000
set_option maxHeartbeats 4000000
set_option linter.unusedSimpArgs false
set_option linter.unusedVariables false
section
attribute [local simp] frz_int frz_bool frz_vl frz_pv frz_agg frz_tup frz_fn frz_ref frz_sl frz_nils optAll orcF rb_int rb_bool rb_agg rb_tup rb_int' rb_bool' rb_vl rb_pv rb_yld rb_nilf rb_nilp rb_nils rb_any rb_und rb_ref rb_sl rb_fn slE chunk fillA evParts evParts3 putAt List.range_succ List.range_zero List.range'_succ List.range'_zero runX_nil' unary_not evalS_pure evAll_nil evAll_cons runX_cons stepX wantedA dop CV.ev putK_eq setK_eq appK_eq fA_eq fI_eq fN_eq fRow_eq fRows_eq nth_eq Out.v putT List.replicate_succ zT zB arI pointee Abs.rowAt ldRow allV toV toC ofV ofC Builtin.min_ Builtin.min2 Builtin.max_ Builtin.max2 min_if max_if resA tupA kill trim_self trim_len trim_emp trim_nil lenA
attribute [local simp] runD_nil' runD_cons' stepD actK_eq actD clash disj masks holes maskH unmaskH diffs news eqB allB eqA ldRowN wrote toCs ofCs stA rowsV_vl rowsV_nils rowsOf dI1 dI2 dI3 dI5 elt
attribute [local simp] st_any st_und st_agg st_tup st_bool st_int st_nilp st_ref st_pv st_nils st_sl st_vl st_nilm st_mp st_fn st_nilf st_yld co_any co_und co_agg co_tup co_bool co_int co_nilp co_ref co_pv co_nils co_sl co_vl co_nilm co_mp co_fn co_nilf co_yld
attribute [local simp] callA calleeA lop loud
def ixI (n : Int) : List Int → Int → Int
  | [], _ => -1
  | x :: l, i => if n = x then i else ixI n l (i + 1)
theorem ixI_nn (n : Int) : ∀ (l : List Int) (i : Int), 0 ≤ i → (0 ≤ ixI n l i ↔ n ∈ l)
  | [], i, _ => by simp [ixI]
  | x :: l, i, h => by
    simp only [ixI, List.mem_cons]
    split
    · rename_i e; exact ⟨fun _ => .inl e, fun _ => h⟩
    · rename_i e; rw [ixI_nn n l (i + 1) (by omega)]; exact ⟨.inr, fun h => h.resolve_left e⟩
theorem ixI_step {n : Int} {xs : List Int} {k : Nat} (hk : k < xs.length) (i : Int) : ixI n (xs.drop k) i = if n = xs[k] then i else ixI n (xs.drop (k + 1)) (i + 1) := by
  rw [List.drop_eq_getElem_cons hk]; rfl
def oIx : List AVal → Option AVal
  | [x, .int .i64 n] => match dInts x with
    | some xs => if xs.length ≤ 1000 then some (I (ixI n xs 0)) else none
    | none => none
  | _ => none
def oCont : List AVal → Option AVal
  | [x, .int .i64 n] => match dInts x with
    | some xs => if xs.length ≤ 1000 then some (.bool (decide (n ∈ xs))) else none
    | none => none
  | _ => none
theorem a115 (P : Program) (T : Nat → Option CFn) (hT : T 115 = some c115) (x : AVal) (xs : List Int) (hx : dInts x = some xs) (hl : xs.length ≤ 1000) (n : Int) : Answers P T 115 [x, I n] [] fun v h => frz true h 5 v = some (I (ixI n xs 0)) := by
 have lx := dInts_len hx
 refine answers_of hT (orcF_none rfl) ?_
 simp only [oo, om, op, og, ci, cl, c115]
 refine zS ?_
 refine zR (zO (by simp [lx, -lenA]; rfl) ?_)
 simp only [zT, zB]
 refine zS ?_
 refine zS ?_
 refine zR (zO (by simp [lx, -lenA]; rfl) ?_)
 simp only [zT, zB]
 refine zL ?_
 refine runs_loop_inv (fun m σ => ∃ (k : Nat) (i : Int), i = k ∧ xs.length - k = m ∧ k ≤ xs.length ∧ ixI n (xs.drop k) i = ixI n xs 0 ∧ σ = ⟨[x, I n, .any, .any, .any, .any, .any, I xs.length, I i, .any, .any, .any, .any, .any, .any, .any, .any, .any, .any], []⟩) ?_ (xs.length - 0) _ ⟨0, 0, rfl, rfl, Nat.zero_le _, rfl, by simp⟩
 rintro m σ ⟨k, i, hik, rfl, hkl, hR, rfl⟩
 refine zS ?_
 refine zR (zO (by simp [lx, -lenA]; rfl) ?_)
 simp only [zT, zB]
 refine zS ?_
 refine runs_cond_split (x := decide (i < (xs.length : Int))) (by simp) (fun hlt => ?_) (fun hlt => ?_)
 ·have hlt := of_decide_eq_true hlt
  have hk0 : k < xs.length := by omega
  obtain ⟨tt, rfl⟩ := dInts_get hx hk0
  have hi0 : 0 ≤ i := by omega
  have htn : i.toNat = k := by omega
  have hwi : W .i64 (i + 1) = i + 1 := W_small (by omega)
  rw [ixI_step hk0] at hR
  generalize hs : xs[k] = s at *
  have HH1 := zA lx (zA hi0 (zA htn (zA hk0 (zA hs hwi))))
  refine zK ?_
  simp only [zT, zB]
  refine zS ?_
  refine zL ?_
  refine zS ?_
  refine zR (zO (by simp [-lenA, zI, HH1]; rfl) ?_)
  simp only [zT, zB]
  refine zS ?_
  refine zR (zO (by simp [-lenA, zI, HH1]; rfl) ?_)
  simp only [zT, zB]
  refine runs_cond_split (x := (n == s)) (by simp) (fun he => ?_) (fun he => ?_)
  ·have he : n = s := by simpa using he
   rw [if_pos he] at hR
   rw [← hR]
   refine zS ?_
   refine zR (zO (by simp [-lenA, zI, HH1]; rfl) ?_)
   simp only [zT, zB]
   refine runs_ret ?_
   simp [-lenA, zI, HH1]
  ·have he : ¬ n = s := by simpa using he
   rw [if_neg he] at hR
   refine zK ?_
   simp only [zT, zB]
   refine zR (zO (by simp [-lenA, zI, HH1]; rfl) ?_)
   simp only [zT, zB]
   exact ⟨xs.length - (k + 1), by omega, k + 1, i + 1, by omega, rfl, by omega, hR, by simp [-lenA, zI, HH1]⟩
 ·have hlt := of_decide_eq_false hlt
  obtain rfl : k = xs.length := by omega
  rw [List.drop_length] at hR
  rw [← hR]
  refine runs_exit ?_
  simp only [zT, zB, if_true, if_false, reduceIte, Nat.reduceEqDiff, Nat.succ_ne_zero, Nat.one_ne_zero, Nat.zero_ne_one]
  refine zS ?_
  refine zR (zO (by simp [lx, -lenA]; rfl) ?_)
  simp only [zT, zB]
  refine runs_ret ?_
  simp [lx, -lenA, ixI]
noncomputable def FIX1 : Nat → Option CFn := upd T 115 true (oIx)
theorem FIX1_ok : TabOk Tryz.prog GG FIX1 := tab_add mixed T_ok fun args v ho => by
  unfold oIx at ho; split at ho <;> (try simp only [reduceCtorEq] at ho)
  rename_i x n
  split at ho <;> (try simp only [reduceCtorEq] at ho)
  rename_i xs hx
  split at ho <;> (try simp only [reduceCtorEq] at ho)
  rename_i hl
  simp only [Option.some.injEq] at ho
  subst ho
  exact a115 Tryz.prog T rfl  x xs hx hl n
theorem a84 (P : Program) (T : Nat → Option CFn) (hT : T 84 = some c84) (h115 : T 115 = some { c115 with frsh := true, orc := oIx }) (x : AVal) (xs : List Int) (hx : dInts x = some xs) (hl : xs.length ≤ 1000) (n : Int) : Answers P T 84 [x, I n] [] fun v h => frz true h 5 v = some (.bool (decide (n ∈ xs))) := by
 have fx := fun H d => dInts_frz hx H d
 have hix : oIx [x, I n] = some (I (ixI n xs 0)) := by simp only [oIx, hx]; rw [if_pos hl]
 have hnn : (0 ≤ ixI n xs 0) ↔ n ∈ xs := ixI_nn n xs 0 (Int.le_refl _)
 refine answers_of hT (orcF_none rfl) ?_
 simp only [oo, om, op, og, ci, cl, c84]
 refine zS ?_
 refine zR (zO (by simp [zC h115, h115, fx, hix, hnn]; rfl) ?_)
 simp only [zT, zB]
 refine zS ?_
 refine zR (zO (by simp [zC h115, h115, fx, hix, hnn]; rfl) ?_)
 simp only [zT, zB]
 refine runs_ret ?_
 simp [zC h115, h115, fx, hix, hnn]
noncomputable def FIX : Nat → Option CFn := upd FIX1 84 true (oCont)
theorem FIX_ok : TabOk Tryz.prog GG FIX := tab_add mixed FIX1_ok fun args v ho => by
  unfold oCont at ho; split at ho <;> (try simp only [reduceCtorEq] at ho)
  rename_i x n
  split at ho <;> (try simp only [reduceCtorEq] at ho)
  rename_i xs hx
  split at ho <;> (try simp only [reduceCtorEq] at ho)
  rename_i hl
  simp only [Option.some.injEq] at ho
  subst ho
  exact a84 Tryz.prog FIX1 rfl rfl x xs hx hl n
theorem tab_good {P : Program} {G : Nat → Option (List AVal)} {T : Nat → Option CFn} (hT : TabOk P G T) {f : Nat} {c : CFn} (hf : T f = some c) : ∀ args v, c.orc args = some v → OrcGood P G c.frsh f args v := fun args v h => by
  obtain ⟨_, _, _, _, _, _, _, _, h7, _⟩ := hT f c hf
  exact h7 args v h
theorem ix_good : ∀ args v, oIx args = some v → OrcGood Tryz.prog GG true 115 args v := tab_good (f := 115) (c := { c115 with frsh := true, orc := oIx }) FIX_ok rfl
theorem cont_good : ∀ args v, oCont args = some v → OrcGood Tryz.prog GG true 84 args v := tab_good (f := 84) (c := { c84 with frsh := true, orc := oCont }) FIX_ok rfl
end
end Go.Proofs.YtjjapdagllclkaaGreat.Tab

namespace Go.Proofs.YtjjapdagllclkaaGreat.Tab
open Go Go.Abs Go.Proofs
set_option maxRecDepth 100000
set_option maxHeartbeats 4000000
set_option linter.unusedSimpArgs false
set_option linter.unusedVariables false
section
attribute [local simp] frz_int frz_bool frz_vl frz_pv frz_agg frz_tup frz_fn frz_ref frz_sl frz_nils optAll orcF rb_int rb_bool rb_agg rb_tup rb_int' rb_bool' rb_vl rb_pv rb_yld rb_nilf rb_nilp rb_nils rb_any rb_und rb_ref rb_sl rb_fn slE chunk fillA evParts evParts3 putAt List.range_succ List.range_zero List.range'_succ List.range'_zero runX_nil' unary_not evalS_pure evAll_nil evAll_cons runX_cons stepX wantedA dop CV.ev putK_eq setK_eq appK_eq fA_eq fI_eq fN_eq fRow_eq fRows_eq nth_eq Out.v putT List.replicate_succ zT zB arI pointee Abs.rowAt ldRow allV toV toC ofV ofC Builtin.min_ Builtin.min2 Builtin.max_ Builtin.max2 min_if max_if resA tupA kill trim_self trim_len trim_emp trim_nil lenA
attribute [local simp] runD_nil' runD_cons' stepD actK_eq actD clash disj masks holes maskH unmaskH diffs news eqB allB eqA ldRowN wrote toCs ofCs stA rowsV_vl rowsV_nils rowsOf dI1 dI2 dI3 dI5 elt
attribute [local simp] st_any st_und st_agg st_tup st_bool st_int st_nilp st_ref st_pv st_nils st_sl st_vl st_nilm st_mp st_fn st_nilf st_yld co_any co_und co_agg co_tup co_bool co_int co_nilp co_ref co_pv co_nils co_sl co_vl co_nilm co_mp co_fn co_nilf co_yld
attribute [local simp] callA calleeA lim lop loud rbB_none rbB_row
theorem any_take_no {α : Type} {f : α → Bool} {l : List α} {n : Nat} (h : (l.take n).any f = false) (hl : l.length ≤ n) : ∀ x ∈ l, f x = false := by
  rw [List.take_of_length_le hl, List.any_eq_false] at h
  intro x hx
  simpa using h x hx
theorem large_no {s : FShop} {js : List FJob} {most : Int} (h : largeB s js most = false) : SizeOk s js ∧ (s.chg.length ≤ 1000 ∧ (∀ x ∈ s.chg, x.length ≤ 1000) ∧ s.stops.length ≤ 1000) ∧ (js.length ≤ 1000 ∧ ∀ x ∈ js, x.mins.length ≤ 1000) ∧ ¬ (most < js.length ∧ js.length ≤ 6) ∧ s.stops.length ≤ 20 := by
  simp only [largeB, Bool.or_eq_false_iff, decide_eq_false_iff_not, Bool.and_eq_false_iff] at h
  obtain ⟨⟨⟨⟨⟨h1, h2⟩, h3⟩, h4⟩, h5⟩, h6⟩ := h
  have g1 := any_take_no h1 (by omega)
  have g2 := any_take_no h2 (by omega)
  simp only [decide_eq_false_iff_not] at g1 g2
  refine ⟨⟨by omega, fun l hl => by have := g1 l hl; omega, by omega, by omega, fun j hj => by have := g2 j hj; omega⟩, ⟨by omega, fun l hl => by have := g1 l hl; omega, by omega⟩, ⟨by omega, fun l hl => by have := g2 l hl; omega⟩, fun ⟨h7, h8⟩ => ?_, by omega⟩
  rcases h6 with h6 | h6
  · exact h6 h7
  · exact h6 h8
theorem ctx_of {s : FShop} {js : List FJob} {os : List Int} (h0 : shopE s js = 0) (ho : ordB os js.length = true) : RunCtx s js os := ⟨shop_ok h0, ho⟩
open Classical in
noncomputable def oRunR : List AVal → Option AVal
  | [.agg [.int .i64 m, c, t], j, o] => match dInts2 c, dStops t, dJobs j, dInts o with
    | some cs, some ts, some js, some os => if RunCtx ⟨m, cs, ts⟩ js os then some (.agg [.vl ((stsF ⟨m, cs, ts⟩ js os).map encS) true, .vl ((endF ⟨m, cs, ts⟩ js os).map rI) true]) else none
    | _, _, _, _ => none
  | _ => none
theorem runR_eq {s : FShop} {js : List FJob} {c t j o : AVal} {os : List Int} (hc : dInts2 c = some s.chg) (ht : dStops t = some s.stops) (hj : dJobs j = some js) (ho : dInts o = some os) (h : RunCtx s js os) : oRunR [.agg [I s.mach, c, t], j, o] = some (.agg [.vl ((stsF s js os).map encS) true, .vl ((endF s js os).map rI) true]) := by
  simp only [oRunR, hc, ht, hj, ho]
  rw [if_pos h]
noncomputable def FW1 : Nat → Option CFn := updG FW 27 [(462, [.cell 7 0]), (4046, [.elem 7 0 2 8])] []
theorem FW1_ok : TabOk Tryz.prog GG FW1 := tab_updG FW_ok
theorem runR_good : ∀ args v, oRunR args = some v → OrcGood Tryz.prog GG false 27 args v := fun args v ho => by
  unfold oRunR at ho; split at ho <;> (try simp only [reduceCtorEq] at ho)
  rename_i m c t j o
  split at ho <;> (try simp only [reduceCtorEq] at ho)
  rename_i cs ts js os hc ht hj ho2
  split at ho <;> (try simp only [reduceCtorEq] at ho)
  rename_i hg
  simp only [Option.some.injEq] at ho
  subst ho
  exact orc_of mixed FW1_ok (a27 Tryz.prog FW1 rfl rfl rfl ⟨m, cs, ts⟩ js c t j hc ht hj o os ho2 hg)
noncomputable def FR1 : Nat → Option CFn := upd FT 14 true oLarge
theorem FR1_ok : TabOk Tryz.prog GG FR1 := tab_upd FT_ok (tab_good (f := 14) (c := { c14 with frsh := true, orc := oLarge }) FU_ok rfl)
noncomputable def FR2 : Nat → Option CFn := upd FR1 21 true oSame
theorem FR2_ok : TabOk Tryz.prog GG FR2 := tab_upd FR1_ok (tab_good (f := 21) (c := { c21 with frsh := true, orc := oSame }) FU3_ok rfl)
noncomputable def FR3 : Nat → Option CFn := upd FR2 22 true oEqual
theorem FR3_ok : TabOk Tryz.prog GG FR3 := tab_upd FR2_ok (tab_good (f := 22) (c := { c22 with frsh := true, orc := oEqual }) FU3_ok rfl)
noncomputable def FR4 : Nat → Option CFn := upd FR3 23 true oIntsEq
theorem FR4_ok : TabOk Tryz.prog GG FR4 := tab_upd FR3_ok (tab_good (f := 23) (c := { c23 with frsh := true, orc := oIntsEq }) FU2_ok rfl)
noncomputable def FR5 : Nat → Option CFn := upd FR4 24 true oCheck
theorem FR5_ok : TabOk Tryz.prog GG FR5 := tab_upd FR4_ok (tab_good (f := 24) (c := { c24 with frsh := true, orc := oCheck }) FV_ok rfl)
noncomputable def FR6 : Nat → Option CFn := upd FR5 25 true oOrdR
theorem FR6_ok : TabOk Tryz.prog GG FR6 := tab_upd FR5_ok (tab_good (f := 25) (c := { c25 with frsh := true, orc := oOrdR }) FW_ok rfl)
noncomputable def FR7 : Nat → Option CFn := upd FR6 39 true oIn
theorem FR7_ok : TabOk Tryz.prog GG FR7 := tab_upd FR6_ok (tab_good (f := 39) (c := { c39 with frsh := true, orc := oIn }) FU1_ok rfl)
noncomputable def FR8 : Nat → Option CFn := upd FR7 36 true oStopR
theorem FR8_ok : TabOk Tryz.prog GG FR8 := tab_upd FR7_ok (tab_good (f := 36) (c := { c36 with frsh := true, orc := oStopR }) FV1_ok rfl)
noncomputable def FR : Nat → Option CFn := upd FR8 27 false oRunR
theorem FR_ok : TabOk Tryz.prog GG FR := tab_upd FR8_ok runR_good
end
end Go.Proofs.YtjjapdagllclkaaGreat.Tab

namespace Go.Abs
open Go
def plainA : AVal → Bool
 | .int _ _ => true
 | .bool _ => true
 | .nils => true
 | .nilp => true
 | _ => false
def okA (fr : Bool) (v : AVal) : Bool := if fr then plainA v else rb 0 5 v
noncomputable def backB1 (fr : Bool) (J : List Nat) : AVal → Option AVal
 | .ref p k o => match J[p]? with
  | some i => some (.ref i k o)
  | none => none
 | .sl p k n t => match J[p]? with
  | some i => some (.sl i k n t)
  | none => none
 | v => if okA fr v then some v else none
noncomputable def backB (fr : Bool) (J : List Nat) : AVal → Option AVal
 | .tup xs => match optAll (backB1 fr J) xs with
  | some ys => some (.tup ys)
  | none => none
 | .agg xs => match optAll (backB1 fr J) xs with
  | some ys => some (.agg ys)
  | none => none
 | v => backB1 fr J v
def hideK (K : List Nat) (h : Heap) : Heap := K.foldl (fun h i => h.set i none) h
noncomputable def keepA (fr : Bool) (K : List Nat) (h : Heap) : AVal → Option AVal
 | .ref i k o => match posOf K i 0 with
  | some p => some (.ref p k o)
  | none => if fr then none else frz false (hideK K h) 5 (.ref i k o)
 | .sl i k n t => match posOf K i 0 with
  | some p => some (.sl p k n t)
  | none => if fr then none else frz false (hideK K h) 5 (.sl i k n t)
 | v => if okA fr v then some v else none
noncomputable def keepB (fr : Bool) (K : List Nat) (h : Heap) : AVal → Option AVal
 | .tup xs => match optAll (keepA fr K h) xs with
  | some ys => some (.tup ys)
  | none => none
 | .agg xs => match optAll (keepA fr K h) xs with
  | some ys => some (.agg ys)
  | none => none
 | v => keepA fr K h v
theorem hideK_get : ∀ {K : List Nat} {h : Heap} {i : Nat} {b : Blk}, (hideK K h)[i]? = some (some b) → i ∉ K ∧ h[i]? = some (some b)
 | [], h, i, b, hi => ⟨by simp, hi⟩
 | k :: K, h, i, b, hi => by
  obtain ⟨h1, h2⟩ := hideK_get (K := K) (h := h.set k none) hi
  by_cases e : k = i
  ·subst e
   rcases Nat.lt_or_ge k h.length with hl | hl
   ·rw [List.getElem?_set_self hl] at h2; simp at h2
   ·rw [List.getElem?_eq_none (by simp; omega)] at h2; simp at h2
  ·rw [List.getElem?_set_ne e] at h2
   exact ⟨fun hm => by rcases List.mem_cons.1 hm with rfl | hm <;> contradiction, h2⟩
theorem hideK_len : ∀ (K : List Nat) (h : Heap), (hideK K h).length = h.length
 | [], _ => rfl
 | k :: K, h => by show (hideK K (h.set k none)).length = _; rw [hideK_len K, List.length_set]
def okBlk (fr : Bool) : Option Blk → Bool
 | some (.row _ rs) => rs.all (·.all (okA fr))
 | none => true
 | _ => false
noncomputable def freshE (fr : Bool) (sp : List AVal → Option (AVal × Heap)) (args : List AVal) (h : Heap) : Option (AVal × List (Nat × Option Blk)) :=
 match (if fr then optAll (frz false h 5) args else if args.all (rb 0 5) then some args else none) with
 | some ass => match sp ass with
  | some (v, hs) => if hs.all (okBlk fr) = true then (match backB fr (List.range' h.length hs.length) v with
   | some v' => some (v', (List.range' h.length hs.length).zip hs)
   | none => none) else none
  | none => none
 | none => none
theorem setH_new : ∀ (hs h : Heap), setH h ((List.range' h.length hs.length).zip hs) = h ++ hs
 | [], h => by simp [setH]
 | b :: hs, h => by
  show setH (putH h h.length b) ((List.range' (h.length + 1) hs.length).zip hs) = _
  have e : putH h h.length b = h ++ [b] := by unfold putH; rw [if_neg (Nat.lt_irrefl _), if_pos rfl]
  have := setH_new hs (h ++ [b])
  rw [List.length_append] at this
  rw [e]
  simpa using this
section
variable {P : Program} {G : Nat → Option (List AVal)} {T : Nat → Option CFn} {E E' E1 E2 : Env} {h h' h0 h1 hs : Heap} {w w' : World} {n : Nat} {J K : List Nat}
theorem vr_plain {v : AVal} {u : Value} (hv : E.VR w v u) (hp : plainA v = true) : E2.VR w v u := by
 cases hv <;> first | (simp [plainA] at hp; done) | skip
 ·exact .bool _ _
 ·exact .int _ _ _
 ·exact .nilp _
 ·exact .nils _
theorem vr_okA {fr : Bool} (hI : fr = false → ∀ b, E.I b → E2.I b) {v : AVal} {u : Value} (hv : E.VR w v u) (hp : okA fr v = true) : E2.VR w v u := by
 cases fr with
 | true => exact vr_plain hv hp
 | false => exact vr_flat (hI rfl) hv hp
theorem hideK_hr (hr : E.HR P G h w) (K : List Nat) : E.HR P G (hideK K h) w :=
 ⟨fun i b hi => hr.blk i b (hideK_get hi).2, fun i j b c hi hj he => hr.inj i j b c (hideK_get hi).2 (hideK_get hj).2 he, fun i hi => by rw [hideK_len]; exact hr.lt i hi, hr.own, hr.imm, hr.glob⟩
theorem frz_refv {h : Heap} {d i k o : Nat} {x : AVal} (hx : frz false h (d + 1) (.ref i k o) = some x) : ∀ xs, x ≠ .tup xs ∧ x ≠ .agg xs := fun xs => by
 rw [frz_ref] at hx
 (repeat' split at hx) <;> simp at hx <;> subst hx <;> simp
theorem frz_slv {h : Heap} {d i k n : Nat} {t : Bool} {x : AVal} (hx : frz false h (d + 1) (.sl i k n t) = some x) : ∀ xs, x ≠ .tup xs ∧ x ≠ .agg xs := fun xs => by
 rw [frz_sl] at hx
 (repeat' split at hx) <;> simp at hx <;> subst hx <;> simp
theorem fresh_good {fr : Bool} {f : Nat} {args ass : List AVal} {v v1 v' : AVal} (hc : CallGood P G f ass [] v1 h1) (hK : K.Nodup) (hsl : hs.length = K.length)
    (hat : ∀ p (hp : p < K.length) b, hs[p]? = some (some b) → h1[K[p]]? = some (some b)) (hf : hs.all (okBlk fr) = true) (hb1 : keepB fr K h1 v1 = some v) (hb2 : backB fr (List.range' h.length K.length) v = some v')
    (has : (if fr then optAll (frz false h 5) args else if args.all (rb 0 5) then some args else none) = some ass) : CallGood P G f args h v' (h ++ hs) := by
  intro E w cargs k hr hl
  obtain ⟨I0, hI0, hI1, hI2, hl0⟩ : ∃ I0 : Nat → Prop, (∀ b, E.I b → I0 b) ∧ (∀ b, I0 b → b < w.heap.size) ∧ (fr = false → ∀ b, I0 b → E.I b) ∧ Env.LR ⟨E.ρ, fun _ => False, fun _ => False, I0⟩ w ass cargs := by
    cases hfr : fr with
    | true =>
      simp only [hfr, if_true] at has
      obtain ⟨g1, g2⟩ := optAll_get has
      refine ⟨fun b => b < w.heap.size, fun b hb => (hr.imm b hb).1, fun b hb => hb, fun h => by simp at h, ⟨by rw [← g1]; exact hl.1, fun j h1 h2 => ?_⟩⟩
      exact frz_ok hr (fun i b hi => (hr.blk i b hi).2.2.1) (fun _ b hb => (hr.imm b hb).1) 5 (hl.2 j (by omega) h2) (g2 j (by omega) h1)
    | false =>
      simp only [hfr] at has
      simp at has
      obtain ⟨hx, rfl⟩ := has
      refine ⟨E.I, fun b hb => hb, fun b hb => (hr.imm b hb).1, fun _ b hb => hb, ⟨hl.1, fun j h1 h2 => ?_⟩⟩
      have := VR.trim 5 (hl.2 j h1 h2) (hx _ (List.getElem_mem h1))
      exact VR.mono this _ (fun i hi => absurd hi.2 (by omega)) fun b hb => ⟨hb, rfl⟩
  have hr0 : Env.HR P G ⟨E.ρ, fun _ => False, fun _ => False, I0⟩ [] w :=
    ⟨fun i b hi => by simp at hi, fun i j b c hi => by simp at hi, fun i hi => hi.elim, fun b hb => hb.elim, fun b hb => ⟨hI1 b hb, fun h => h⟩, fun g r hg => by
      have := hr.glob g r hg
      generalize hp : Value.pointer (some ⟨g, 0, none⟩) = pv at this ⊢
      cases this with
      | pv _ _ _ b off cv hb hc h => exact .pv _ _ _ b off cv (hI0 b hb) hc fun j hj => VR.mono (h j hj) _ (fun i hi => hi.elim) fun b hb => ⟨hI0 b hb, rfl⟩⟩
  refine CallsIn.mono (hc _ w cargs k hr0 hl0) ?_
  rintro e w' ⟨u, E1, rfl, hle, hr1, hu, _, _⟩
  have hO1 : ∀ b, E1.O b → w.heap.size ≤ b := fun b hb => Nat.le_of_not_lt fun h => (hle.old b h fun h => h).2.1 hb
  have hIo : ∀ b, E1.I b → b < w.heap.size → I0 b := fun b hb hs => (hle.old b hs fun h => h).2.2 hb
  have gd : ∀ p (hp : p < K.length), K.getD p 0 = K[p] := fun p hp => by rw [List.getD_eq_getElem?_getD, List.getElem?_eq_getElem hp]; rfl
  have hat1 : ∀ p (hp : p < K.length) b, hs[p]? = some (some b) → ∃ e rs, h1[K[p]]? = some (some (.row e rs)) ∧ hs[p]? = some (some (.row e rs)) ∧ okBlk fr (some (.row e rs)) = true := fun p hp b hb => by
    simp only [List.all_eq_true] at hf
    have h2 := hat p hp b hb
    have hm := hf _ (List.mem_of_getElem? hb)
    cases b with
    | row e rs => exact ⟨e, rs, h2, hb, hm⟩
    | map es c => simp [okBlk] at hm
    | loop t ps asg bd st pd => simp [okBlk] at hm
  let E2 : Env := ⟨fun i => if i < h.length then E.ρ i else E1.ρ (K.getD (i - h.length) 0), fun i => E.D i ∨ (h.length ≤ i ∧ i < h.length + K.length), fun b => E.O b ∨ ∃ p, (p < K.length ∧ ∃ c, hs[p]? = some (some c)) ∧ b = (E1.ρ (K.getD p 0)).b, fun b => E.I b ∨ (fr = false ∧ (E1.I b ∨ ∃ i c, i ∉ K ∧ h1[i]? = some (some c) ∧ (E1.ρ i).b = b))⟩
  have hnew : ∀ p, (p < K.length ∧ ∃ c, hs[p]? = some (some c)) → E1.O (E1.ρ (K.getD p 0)).b ∧ (E1.ρ (K.getD p 0)).b < w'.heap.size ∧ w.heap.size ≤ (E1.ρ (K.getD p 0)).b := fun p ⟨hp, c, hc⟩ => by
    obtain ⟨e, rs, k1, _⟩ := hat1 p hp c hc
    obtain ⟨_, b2, b3, _⟩ := hr1.blk _ _ k1
    rw [gd p hp]
    exact ⟨b2, b3, hO1 _ b2⟩
  have hρo : ∀ i, i < h.length → E2.ρ i = E.ρ i := fun i hi => if_pos hi
  have hρn : ∀ p, E2.ρ (h.length + p) = E1.ρ (K.getD p 0) := fun p => by
    show (if h.length + p < h.length then _ else _) = _
    rw [if_neg (by omega), Nat.add_sub_cancel_left]
  have hle2 : Le E w E2 w' := ⟨hle.os, hle.tape, hle.output, hle.size, fun i hi => ⟨.inl hi, hρo i (hr.lt i hi)⟩, fun b hb => .inl hb, fun b hb ho =>
    ⟨(hle.old b hb fun h => h).1, fun h => h.elim ho fun ⟨p, hp, e⟩ => by have := (hnew p hp).2.2; omega, fun h => h.elim id fun ⟨hf, h⟩ => h.elim (fun h => hI2 hf b (hIo b h hb)) fun ⟨i, c, _, h2, h3⟩ => by have := hO1 _ (hr1.blk i c h2).2.1; omega⟩⟩
  have hvo : ∀ {x : AVal} {u : Value}, okA fr x = true → E1.VR w' x u → E2.VR w' x u := fun hx hv => vr_okA (E := E1) (E2 := E2) (fun hf b hb => Or.inr ⟨hf, Or.inl hb⟩) hv hx
  have hvb : ∀ {x y z : AVal} {u : Value}, keepA fr K h1 y = some x → E1.VR w' y u → backB1 fr (List.range' h.length K.length) x = some z → E2.VR w' z u := by
    intro x y z u hy hv hz
    have low : ∀ (hnr : ∀ p k o, x ≠ .ref p k o) (hns : ∀ p k n t, x ≠ .sl p k n t), E2.VR w' x u → E2.VR w' z u := fun hnr hns hx => by
      have : backB1 fr (List.range' h.length K.length) x = if okA fr x then some x else none := by
        cases x <;> first | rfl | exact absurd rfl (hnr _ _ _) | exact absurd rfl (hns _ _ _ _)
      rw [this] at hz
      split at hz <;> simp at hz
      subst hz; exact hx
    have flat : (if okA fr y then some y else none) = some x → (∀ p k o, y ≠ .ref p k o) → (∀ p k n t, y ≠ .sl p k n t) → E2.VR w' z u := fun h1 h2 h3 => by
      split at h1 <;> simp at h1
      rename_i hx
      subst h1
      exact low h2 h3 (hvo hx hv)
    have frozen : (if fr = true then none else frz false (hideK K h1) 5 y) = some x → E2.VR w' z u := fun h2 => by
      split at h2 <;> (try simp at h2)
      rename_i hfr
      have hfr : fr = false := by simpa using hfr
      have hx := frz_ok (hideK_hr hr1 K) (I' := E2.I) (ρ' := E2.ρ) (fun i b hi => Or.inr ⟨hfr, Or.inr ⟨i, b, (hideK_get hi).1, (hideK_get hi).2, rfl⟩⟩) (fun _ b hb => Or.inr ⟨hfr, Or.inl hb⟩) 5 hv h2
      exact low (fun p k o e => by subst e; cases hx; contradiction) (fun p k n t e => by subst e; cases hx; contradiction) (VR.mono hx _ (fun i hi => hi.elim) fun b hb => ⟨hb, rfl⟩)
    cases hv with
    | ref _ i k o hD =>
      simp only [keepA] at hy
      split at hy
      · rename_i p hp
        simp at hy; subst hy
        obtain ⟨_, hp2⟩ := posOf_some hp
        obtain ⟨hp3, hp4⟩ := List.getElem?_eq_some_iff.1 hp2
        simp only [Nat.sub_zero] at hp3 hp4
        simp only [backB1] at hz
        split at hz <;> simp at hz
        rename_i j hj
        subst hz
        obtain ⟨hj3, rfl⟩ := List.getElem?_eq_some_iff.1 hj
        rw [List.getElem_range', Nat.one_mul]
        have e : E2.ρ (h.length + p) = E1.ρ i := by rw [hρn, gd p hp3, hp4]
        rw [← e]
        exact .ref _ _ k o (.inr ⟨by omega, by omega⟩)
      · exact frozen hy
    | sl _ i k n t a cap hD hn ht ha hs =>
      simp only [keepA] at hy
      split at hy
      · rename_i p hp
        simp at hy; subst hy
        obtain ⟨_, hp2⟩ := posOf_some hp
        obtain ⟨hp3, hp4⟩ := List.getElem?_eq_some_iff.1 hp2
        simp only [Nat.sub_zero] at hp3 hp4
        simp only [backB1] at hz
        split at hz <;> simp at hz
        rename_i j hj
        subst hz
        obtain ⟨hj3, rfl⟩ := List.getElem?_eq_some_iff.1 hj
        rw [List.getElem_range', Nat.one_mul]
        have e : E2.ρ (h.length + p) = E1.ρ i := by rw [hρn, gd p hp3, hp4]
        rw [← e] at ha hs
        exact .sl _ _ k n t a cap (.inr ⟨by omega, by omega⟩) hn ht ha hs
      · exact frozen hy
    | _ => exact flat hy (by intros; simp) (by intros; simp)
  refine ⟨u, E2, rfl, hle2, ⟨fun i b hi => ?_, fun i j b c hi hj he => ?_, fun i hi => ?_, fun b hb => ?_, fun b hb => ?_, fun g r hg => hle2.vr hr (hr.glob g r hg)⟩, ?_, fun j hj => hj.imp id fun h => h.1, by rw [List.length_append]; omega⟩
  · rcases Nat.lt_or_ge i h.length with hl | hl
    · rw [List.getElem?_append_left hl] at hi
      obtain ⟨b1, b2, b3, b4⟩ := hr.blk i b hi
      rw [hρo i hl]
      exact ⟨.inl b1, .inl b2, Nat.lt_of_lt_of_le b3 hle.size, br_mono b4 (hρo i hl) (hle.old _ b3 fun h => h).1 fun _ _ hv => hle2.vr hr hv⟩
    · rw [List.getElem?_append_right hl] at hi
      obtain ⟨hp, _⟩ := List.getElem?_eq_some_iff.1 hi
      have hpK : i - h.length < K.length := by omega
      obtain ⟨e, rs, k1, k2, k3⟩ := hat1 _ hpK _ hi
      rw [hi] at k2
      simp at k2; subst k2
      obtain ⟨_, c2, c3, c4⟩ := hr1.blk _ _ k1
      have hρ : E2.ρ i = E1.ρ K[i - h.length] := by
        have := hρn (i - h.length)
        rw [Nat.add_sub_cancel' hl] at this
        rw [this, gd _ hpK]
      refine ⟨.inr ⟨hl, by omega⟩, .inr ⟨i - h.length, ⟨hpK, _, hi⟩, by rw [hρ, gd _ hpK]⟩, by rw [hρ]; exact c3, ?_⟩
      obtain ⟨q1, q2, q3, c, el, q4, q5, q6⟩ := c4
      simp only [okBlk, List.all_eq_true] at k3
      refine ⟨by rw [hρ]; exact q1, q2, by rw [hρ]; exact q3, c, el, by rw [hρ]; exact q4, by rw [hρ]; exact q5, fun k r hk j x hj => ?_⟩
      obtain ⟨y, g1, g2⟩ := q6 k r hk j x hj
      exact ⟨y, by rw [hρ]; exact g1, hvo (k3 _ (List.mem_of_getElem? hk) _ (List.mem_of_getElem? hj)) g2⟩
  · have side : ∀ i b, (h ++ hs)[i]? = some (some b) → (i < h.length ∧ h[i]? = some (some b) ∧ E2.ρ i = E.ρ i ∧ (E.ρ i).b < w.heap.size) ∨ (∃ p, ∃ hp : p < K.length, i = h.length + p ∧ E2.ρ i = E1.ρ K[p] ∧ (∃ b', h1[K[p]]? = some (some b')) ∧ w.heap.size ≤ (E1.ρ K[p]).b) := fun i b hi => by
      rcases Nat.lt_or_ge i h.length with hl | hl
      · rw [List.getElem?_append_left hl] at hi
        exact .inl ⟨hl, hi, hρo i hl, (hr.blk i b hi).2.2.1⟩
      · rw [List.getElem?_append_right hl] at hi
        obtain ⟨hp, _⟩ := List.getElem?_eq_some_iff.1 hi
        have hpK : i - h.length < K.length := by omega
        obtain ⟨e, rs, k1, _, _⟩ := hat1 _ hpK _ hi
        have := (hnew _ ⟨hpK, _, hi⟩).2.2
        rw [gd _ hpK] at this
        refine .inr ⟨i - h.length, hpK, by omega, ?_, ⟨_, k1⟩, this⟩
        have := hρn (i - h.length)
        rw [Nat.add_sub_cancel' hl] at this
        rw [this, gd _ hpK]
    rcases side i b hi with ⟨hl, h1i, e1, s1⟩ | ⟨p, hp, rfl, e1, ⟨b1, k1⟩, s1⟩
    · rcases side j c hj with ⟨hl2, h1j, e2, s2⟩ | ⟨q, hq, rfl, e2, ⟨b2, k2⟩, s2⟩
      · rw [e1, e2] at he
        exact hr.inj i j b c h1i h1j he
      · rw [e1, e2] at he; omega
    · rcases side j c hj with ⟨hl2, h1j, e2, s2⟩ | ⟨q, hq, rfl, e2, ⟨b2, k2⟩, s2⟩
      · rw [e1, e2] at he; omega
      · rw [e1, e2] at he
        have := hr1.inj _ _ _ _ k1 k2 he
        rw [(List.getElem_inj hK).1 this]
  · rw [List.length_append]
    rcases hi with hi | hi
    · have := hr.lt i hi; omega
    · omega
  · rcases hb with hb | ⟨p, hp, rfl⟩
    · exact Nat.lt_of_lt_of_le (hr.own b hb) hle.size
    · exact (hnew p hp).2.1
  · rcases hb with hb | ⟨hf, hb | ⟨i, c, hb1, hb2, rfl⟩⟩
    · refine ⟨Nat.lt_of_lt_of_le (hr.imm b hb).1 hle.size, fun ho => ?_⟩
      rcases ho with ho | ⟨p, hp, rfl⟩
      · exact (hr.imm b hb).2 ho
      · have := (hr.imm _ hb).1
        have := (hnew p hp).2.2
        omega
    · refine ⟨(hr1.imm b hb).1, fun ho => ?_⟩
      rcases ho with ho | ⟨p, hp, rfl⟩
      · have hs := hr.own b ho
        exact (hr.imm b (hI2 hf b (hIo b hb hs))).2 ho
      · exact (hr1.imm _ hb).2 (hnew p hp).1
    · refine ⟨(hr1.blk i c hb2).2.2.1, fun ho => ?_⟩
      have hi0 := hO1 _ (hr1.blk i c hb2).2.1
      rcases ho with ho | ⟨p, ⟨hp, c2, hc2⟩, he⟩
      · have hs := hr.own _ ho; omega
      · obtain ⟨e, rs, k1, _⟩ := hat1 p hp c2 hc2
        rw [gd p hp] at he
        have := hr1.inj _ _ _ _ hb2 k1 he
        exact hb1 (this ▸ List.getElem_mem hp)
  · cases v1 with
    | tup xs =>
      simp only [keepB] at hb1
      split at hb1 <;> simp at hb1
      rename_i ys hy
      subst hb1
      simp only [backB] at hb2
      split at hb2 <;> simp at hb2
      rename_i zs hz
      subst hb2
      obtain ⟨q1, q2⟩ := optAll_get hy
      obtain ⟨r1, r2⟩ := optAll_get hz
      cases hu with
      | tup _ _ cs hl hx => exact .tup _ _ cs (by omega) fun j h1 h2 => hvb (q2 j (by omega) (by omega)) (hx j (by omega) h2) (r2 j (by omega) h1)
    | agg xs =>
      simp only [keepB] at hb1
      split at hb1 <;> simp at hb1
      rename_i ys hy
      subst hb1
      simp only [backB] at hb2
      split at hb2 <;> simp at hb2
      rename_i zs hz
      subst hb2
      obtain ⟨q1, q2⟩ := optAll_get hy
      obtain ⟨r1, r2⟩ := optAll_get hz
      cases hu with
      | agg _ _ cs hl hx => exact .agg _ _ cs (by omega) fun j h1 h2 => hvb (q2 j (by omega) (by omega)) (hx j (by omega) h2) (r2 j (by omega) h1)
    | _ =>
      simp only [keepB] at hb1
      refine hvb hb1 hu ?_
      have hv : ∀ x, v ≠ .tup x ∧ v ≠ .agg x := fun x => by
        simp only [keepA] at hb1
        first
          | (split at hb1 <;> simp at hb1 <;> subst hb1 <;> simp; done)
          | (split at hb1
             · simp at hb1; subst hb1; simp
             · split at hb1
               · simp at hb1
               · first | exact frz_refv hb1 x | exact frz_slv hb1 x)
      cases v <;> first | exact hb2 | exact absurd rfl (hv _).1 | exact absurd rfl (hv _).2
theorem tab_fresh (hm : P.follows .mixedOrders = true) (hT : TabOk P G T) {fr : Bool} {f : Nat} {sp : List AVal → Option (AVal × Heap)}
  (ho : ∀ args v hs, sp args = some (v, hs) → Answers P T f args [] fun v1 h1 => ∃ K : List Nat, K.Nodup ∧ K.length = hs.length ∧ (∀ p (hp : p < K.length) b, hs[p]? = some (some b) → h1[K[p]]? = some (some b)) ∧ keepB fr K h1 v1 = some v) : TabOk P G (updE T f (freshE fr sp)) :=
 tab_updE hT fun args h v us he => by
  unfold freshE at he
  split at he <;> (try simp only [reduceCtorEq] at he)
  rename_i ass e1
  split at he <;> (try simp only [reduceCtorEq] at he)
  rename_i v0 hs e2
  split at he <;> (try simp only [reduceCtorEq] at he)
  rename_i hg
  split at he <;> (try simp only [reduceCtorEq] at he)
  rename_i v' hb
  simp at he
  obtain ⟨rfl, rfl⟩ := he
  obtain ⟨v2, h2, ⟨K, k1, k2, k3, k4⟩, hgood⟩ := answers_good hm hT (ho ass v0 hs e2)
  rw [setH_new]
  exact fresh_good hgood k1 k2.symm k3 hg k4 (by rw [k2]; exact hb) e1
end
end Go.Abs

namespace Go.Abs
open Go
def looseA : AVal → AVal
 | .sl i k n _ => .sl i k n false
 | v => v
def looseV : AVal → AVal
 | .tup xs => .tup (xs.map looseA)
 | .agg xs => .agg (xs.map looseA)
 | v => looseA v
section
variable {P : Program} {G : Nat → Option (List AVal)} {T : Nat → Option CFn} {ρ : Nat → Loc} {I : Nat → Prop} {D : Nat → Prop} {w : World} {h h1 : Heap}
theorem vr_looseA {v : AVal} {u : Value} (hv : VR ρ I w D v u) : VR ρ I w D (looseA v) u := by
 cases v with
 | sl i k n t => cases hv with
  | sl _ _ _ _ _ a cap hi hn ht ha hs => exact .sl _ i k n false a cap hi hn (fun h => by simp at h) ha hs
 | _ => exact hv
theorem vr_looseV {v : AVal} {u : Value} (hv : VR ρ I w D v u) : VR ρ I w D (looseV v) u := by
 cases v with
 | tup xs => cases hv with
  | tup _ _ cs hl hx =>
   refine .tup _ _ cs (by simpa using hl) fun j h1 h2 => ?_
   rw [List.getElem_map]
   exact vr_looseA (hx j (by simpa using h1) h2)
 | agg xs => cases hv with
  | agg _ _ cs hl hx =>
   refine .agg _ _ cs (by simpa using hl) fun j h1 h2 => ?_
   rw [List.getElem_map]
   exact vr_looseA (hx j (by simpa using h1) h2)
 | _ => exact vr_looseA hv
theorem good_loose {f : Nat} {args : List AVal} {v : AVal} (hg : CallGood P G f args h v h1) : CallGood P G f args h (looseV v) h1 := fun E w cargs k hr hl =>
 CallsIn.mono (hg E w cargs k hr hl) (by
  rintro e w' ⟨u, E1, h1, h2, h3, h4, h5, h6⟩
  exact ⟨u, E1, h1, h2, h3, vr_looseV h4, h5, h6⟩)
theorem tab_fresh2 (hm : P.follows .mixedOrders = true) (hT : TabOk P G T) {fr : Bool} {f : Nat} {sp : List AVal → Option (AVal × Heap)}
  (ho : ∀ args v hs, sp args = some (v, hs) → Answers P T f args [] fun v1 h1 => ∃ K : List Nat, K.Nodup ∧ K.length = hs.length ∧ (∀ p (hp : p < K.length) b, hs[p]? = some (some b) → h1[K[p]]? = some (some b)) ∧ keepB fr K h1 (looseV v1) = some v) : TabOk P G (updE T f (freshE fr sp)) :=
 tab_updE hT fun args h v us he => by
  unfold freshE at he
  split at he <;> (try simp only [reduceCtorEq] at he)
  rename_i ass e1
  split at he <;> (try simp only [reduceCtorEq] at he)
  rename_i v0 hs e2
  split at he <;> (try simp only [reduceCtorEq] at he)
  rename_i hg
  split at he <;> (try simp only [reduceCtorEq] at he)
  rename_i v' hb
  simp at he
  obtain ⟨rfl, rfl⟩ := he
  obtain ⟨v2, h2, ⟨K, k1, k2, k3, k4⟩, hgood⟩ := answers_good hm hT (ho ass v0 hs e2)
  rw [setH_new]
  exact fresh_good (good_loose hgood) k1 k2.symm k3 hg k4 (by rw [k2]; exact hb) e1
end
end Go.Abs
