/- known(), by the kernel, on. No condition. -/
import Derived.Test.YtpebmjeomlgmdaaDoorBaKn
set_option linter.unusedSimpArgs false
set_option linter.unusedVariables false
namespace Go.Proofs.YtpebmjeomlgmdaaDoor.Tab
open Go Go.Abs Go.Proofs
set_option maxRecDepth 1000000
theorem k30a : isR (.tup [.vl [[kInts [2]]] false, I 0]) (callF TK2 (exec Tryd.prog TK2 3000) 30 [kCauses 7 false, I 5, I 8] []) = true := by kernel_rfl
theorem k30b : isR (.tup [.vl [[kInts [0, 1]], [kInts [1, 3]]] false, I 0]) (callF TK2 (exec Tryd.prog TK2 3000) 30 [kCauses 0 false, I 5, I 0] []) = true := by kernel_rfl
noncomputable def L30 : List (List AVal × AVal) := [([kCauses 7 false, I 5, I 8], .tup [.vl [[kInts [2]]] false, I 0]), ([kCauses 0 false, I 5, I 0], .tup [.vl [[kInts [0, 1]], [kInts [1, 3]]] false, I 0])]
noncomputable def TK3 : Nat → Option CFn := upd TK2 30 true (oAt L30)
theorem TK3_ok : TabOk Tryd.prog GG TK3 := tab_add mixed TK2_ok (oAt_ok fun p hp => by
  simp only [L30, List.mem_cons, List.not_mem_nil, or_false] at hp
  rcases hp with rfl | rfl
  · exact isR_answers k30a
  · exact isR_answers k30b)
theorem k31 : isR (.tup [kInts [1], I 0]) (callF TK3 (exec Tryd.prog TK3 3000) 31 [kCauses 0 false, I 5, I 0] []) = true := by kernel_rfl
noncomputable def TK4 : Nat → Option CFn := upd TK3 31 true (oAt [([kCauses 0 false, I 5, I 0], .tup [kInts [1], I 0])])
theorem TK4_ok : TabOk Tryd.prog GG TK4 := tab_add mixed TK3_ok (oAt_ok fun p hp => by
  simp only [List.mem_cons, List.not_mem_nil, or_false] at hp
  subst hp
  exact isR_answers k31)
theorem k36 : isR (.tup [I 3, I 1, I 0]) (callF TK4 (exec Tryd.prog TK4 3000) 36 [kCauses 0 true, I 5, I 0] []) = true := by kernel_rfl
noncomputable def TK5 : Nat → Option CFn := upd TK4 36 true (oAt [([kCauses 0 true, I 5, I 0], .tup [I 3, I 1, I 0])])
theorem TK5_ok : TabOk Tryd.prog GG TK5 := tab_add mixed TK4_ok (oAt_ok fun p hp => by
  simp only [List.mem_cons, List.not_mem_nil, or_false] at hp
  subst hp
  exact isR_answers k36)
end Go.Proofs.YtpebmjeomlgmdaaDoor.Tab
