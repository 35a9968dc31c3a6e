/- known(), by the kernel. No condition. -/
import Derived.Test.YtpebmjeomlgmdaaDoorBaCt
import Derived.Test.YtpebmjeomlgmdaaDoorBaB
set_option linter.unusedSimpArgs false
set_option linter.unusedVariables false
namespace Go.Proofs.YtpebmjeomlgmdaaDoor.Tab
open Go Go.Abs Go.Proofs
set_option maxRecDepth 1000000
noncomputable def kRule : AVal := .agg [I 10, I 4]
noncomputable def kItem (h : Int) : List AVal := [I 60, I 70, I 50, I 85, I h]
noncomputable def kRooms : AVal := .vl [[I 90, I 100, I 2], [I 50, I 60, I 1]] true
noncomputable def kCauses (m : Int) (t : Bool) : AVal := .vl [[I 1, I 2], [I 4, I 0], [I 0, I m], [I 8, I 1]] t
noncomputable def kInts (l : List Int) : AVal := .vl (l.map fun n => [I n]) false
noncomputable def A44a : List AVal := [kRule, .vl [kItem 1, kItem 2] true, kRooms]
noncomputable def A44b : List AVal := [kRule, .vl [kItem 2, kItem 2] true, kRooms]
theorem k44a : isR (.tup [kInts [0, 1], I 0]) (callF TI (exec Tryd.prog TI 3000) 44 A44a []) = true := by kernel_rfl
theorem k44b : isR (.tup [.nils, I 9]) (callF TI (exec Tryd.prog TI 3000) 44 A44b []) = true := by kernel_rfl
noncomputable def L44 : List (List AVal × AVal) := [(A44a, .tup [kInts [0, 1], I 0]), (A44b, .tup [.nils, I 9])]
noncomputable def TK1 : Nat → Option CFn := upd TI 44 true (oAt L44)
theorem TK1_ok : TabOk Tryd.prog GG TK1 := tab_add mixed TI_ok (oAt_ok fun p hp => by
  simp only [L44, List.mem_cons, List.not_mem_nil, or_false] at hp
  rcases hp with rfl | rfl
  · exact isR_answers k44a
  · exact isR_answers k44b)
theorem k47 : isR (.tup [kInts [0, 1], I 0]) (callF TK1 (exec Tryd.prog TK1 3000) 47 A44b []) = true := by kernel_rfl
noncomputable def L47 : List (List AVal × AVal) := [(A44b, .tup [kInts [0, 1], I 0])]
noncomputable def TK2 : Nat → Option CFn := upd TK1 47 true (oAt L47)
theorem TK2_ok : TabOk Tryd.prog GG TK2 := tab_add mixed TK1_ok (oAt_ok fun p hp => by
  simp only [L47, List.mem_cons, List.not_mem_nil, or_false] at hp
  subst hp
  exact isR_answers k47)
end Go.Proofs.YtpebmjeomlgmdaaDoor.Tab
