/- The seat's table of compiled functions is the program's: shown function by function. No condition. -/
import Derived.Test.YtfnnonoffiljhaaBaC
import Derived.Test.YtfnnonoffiljhaaBaT
import Derived.Test.YtfnnonoffiljhaaChecked
set_option linter.unusedSimpArgs false
set_option linter.unusedVariables false
set_option maxRecDepth 1000000
namespace Go.Proofs.Ytfnnonoffiljhaa.Tab
open Go Go.Abs Go.Proofs
/-- No variable of a package is read. -/
noncomputable def GG : Nat → Option (List AVal) := fun _ => none
theorem mixed : Try.prog.follows .mixedOrders = true := by kernel_rfl
theorem ok3 : FnOk Try.prog GG 3 c3 := fnOk Try.func3 (by kernel_rfl) (by kernel_rfl) (by kernel_rfl) (by kernel_rfl) rfl
theorem ok4 : FnOk Try.prog GG 4 c4 := fnOk Try.func4 (by kernel_rfl) (by kernel_rfl) (by kernel_rfl) (by kernel_rfl) rfl
theorem ok5 : FnOk Try.prog GG 5 c5 := fnOk Try.func5 (by kernel_rfl) (by kernel_rfl) (by kernel_rfl) (by kernel_rfl) rfl
theorem ok6 : FnOk Try.prog GG 6 c6 := fnOk Try.func6 (by kernel_rfl) (by kernel_rfl) (by kernel_rfl) (by kernel_rfl) rfl
theorem ok7 : FnOk Try.prog GG 7 c7 := fnOk Try.func7 (by kernel_rfl) (by kernel_rfl) (by kernel_rfl) (by kernel_rfl) rfl
theorem ok8 : FnOk Try.prog GG 8 c8 := fnOk Try.func8 (by kernel_rfl) (by kernel_rfl) (by kernel_rfl) (by kernel_rfl) rfl
theorem ok9 : FnOk Try.prog GG 9 c9 := fnOk Try.func9 (by kernel_rfl) (by kernel_rfl) (by kernel_rfl) (by kernel_rfl) rfl
theorem ok10 : FnOk Try.prog GG 10 c10 := fnOk Try.func10 (by kernel_rfl) (by kernel_rfl) (by kernel_rfl) (by kernel_rfl) rfl
theorem ok11 : FnOk Try.prog GG 11 c11 := fnOk Try.func11 (by kernel_rfl) (by kernel_rfl) (by kernel_rfl) (by kernel_rfl) rfl
theorem ok12 : FnOk Try.prog GG 12 c12 := fnOk Try.func12 (by kernel_rfl) (by kernel_rfl) (by kernel_rfl) (by kernel_rfl) rfl
theorem ok13 : FnOk Try.prog GG 13 c13 := fnOk Try.func13 (by kernel_rfl) (by kernel_rfl) (by kernel_rfl) (by kernel_rfl) rfl
theorem ok14 : FnOk Try.prog GG 14 c14 := fnOk Try.func14 (by kernel_rfl) (by kernel_rfl) (by kernel_rfl) (by kernel_rfl) rfl
theorem ok15 : FnOk Try.prog GG 15 c15 := fnOk Try.func15 (by kernel_rfl) (by kernel_rfl) (by kernel_rfl) (by kernel_rfl) rfl
theorem ok16 : FnOk Try.prog GG 16 c16 := fnOk Try.func16 (by kernel_rfl) (by kernel_rfl) (by kernel_rfl) (by kernel_rfl) rfl
theorem ok17 : FnOk Try.prog GG 17 c17 := fnOk Try.func17 (by kernel_rfl) (by kernel_rfl) (by kernel_rfl) (by kernel_rfl) rfl
theorem ok18 : FnOk Try.prog GG 18 c18 := fnOk Try.func18 (by kernel_rfl) (by kernel_rfl) (by kernel_rfl) (by kernel_rfl) rfl
theorem ok19 : FnOk Try.prog GG 19 c19 := fnOk Try.func19 (by kernel_rfl) (by kernel_rfl) (by kernel_rfl) (by kernel_rfl) rfl
theorem ok20 : FnOk Try.prog GG 20 c20 := fnOk Try.func20 (by kernel_rfl) (by kernel_rfl) (by kernel_rfl) (by kernel_rfl) rfl
theorem ok21 : FnOk Try.prog GG 21 c21 := fnOk Try.func21 (by kernel_rfl) (by kernel_rfl) (by kernel_rfl) (by kernel_rfl) rfl
theorem ok22 : FnOk Try.prog GG 22 c22 := fnOk Try.func22 (by kernel_rfl) (by kernel_rfl) (by kernel_rfl) (by kernel_rfl) rfl
theorem ok23 : FnOk Try.prog GG 23 c23 := fnOk Try.func23 (by kernel_rfl) (by kernel_rfl) (by kernel_rfl) (by kernel_rfl) rfl
theorem ok24 : FnOk Try.prog GG 24 c24 := fnOk Try.func24 (by kernel_rfl) (by kernel_rfl) (by kernel_rfl) (by kernel_rfl) rfl
theorem ok25 : FnOk Try.prog GG 25 c25 := fnOk Try.func25 (by kernel_rfl) (by kernel_rfl) (by kernel_rfl) (by kernel_rfl) rfl
theorem ok26 : FnOk Try.prog GG 26 c26 := fnOk Try.func26 (by kernel_rfl) (by kernel_rfl) (by kernel_rfl) (by kernel_rfl) rfl
theorem ok27 : FnOk Try.prog GG 27 c27 := fnOk Try.func27 (by kernel_rfl) (by kernel_rfl) (by kernel_rfl) (by kernel_rfl) rfl
theorem ok28 : FnOk Try.prog GG 28 c28 := fnOk Try.func28 (by kernel_rfl) (by kernel_rfl) (by kernel_rfl) (by kernel_rfl) rfl
theorem ok29 : FnOk Try.prog GG 29 c29 := fnOk Try.func29 (by kernel_rfl) (by kernel_rfl) (by kernel_rfl) (by kernel_rfl) rfl
theorem ok30 : FnOk Try.prog GG 30 c30 := fnOk Try.func30 (by kernel_rfl) (by kernel_rfl) (by kernel_rfl) (by kernel_rfl) rfl
theorem ok31 : FnOk Try.prog GG 31 c31 := fnOk Try.func31 (by kernel_rfl) (by kernel_rfl) (by kernel_rfl) (by kernel_rfl) rfl
theorem ok32 : FnOk Try.prog GG 32 c32 := fnOk Try.func32 (by kernel_rfl) (by kernel_rfl) (by kernel_rfl) (by kernel_rfl) rfl
theorem ok33 : FnOk Try.prog GG 33 c33 := fnOk Try.func33 (by kernel_rfl) (by kernel_rfl) (by kernel_rfl) (by kernel_rfl) rfl
theorem ok34 : FnOk Try.prog GG 34 c34 := fnOk Try.func34 (by kernel_rfl) (by kernel_rfl) (by kernel_rfl) (by kernel_rfl) rfl
theorem ok35 : FnOk Try.prog GG 35 c35 := fnOk Try.func35 (by kernel_rfl) (by kernel_rfl) (by kernel_rfl) (by kernel_rfl) rfl
theorem ok36 : FnOk Try.prog GG 36 c36 := fnOk Try.func36 (by kernel_rfl) (by kernel_rfl) (by kernel_rfl) (by kernel_rfl) rfl
theorem ok37 : FnOk Try.prog GG 37 c37 := fnOk Try.func37 (by kernel_rfl) (by kernel_rfl) (by kernel_rfl) (by kernel_rfl) rfl
theorem ok38 : FnOk Try.prog GG 38 c38 := fnOk Try.func38 (by kernel_rfl) (by kernel_rfl) (by kernel_rfl) (by kernel_rfl) rfl
theorem ok39 : FnOk Try.prog GG 39 c39 := fnOk Try.func39 (by kernel_rfl) (by kernel_rfl) (by kernel_rfl) (by kernel_rfl) rfl
theorem ok40 : FnOk Try.prog GG 40 c40 := fnOk Try.func40 (by kernel_rfl) (by kernel_rfl) (by kernel_rfl) (by kernel_rfl) rfl
theorem ok41 : FnOk Try.prog GG 41 c41 := fnOk Try.func41 (by kernel_rfl) (by kernel_rfl) (by kernel_rfl) (by kernel_rfl) rfl
theorem ok42 : FnOk Try.prog GG 42 c42 := fnOk Try.func42 (by kernel_rfl) (by kernel_rfl) (by kernel_rfl) (by kernel_rfl) rfl
theorem ok43 : FnOk Try.prog GG 43 c43 := fnOk Try.func43 (by kernel_rfl) (by kernel_rfl) (by kernel_rfl) (by kernel_rfl) rfl
theorem ok44 : FnOk Try.prog GG 44 c44 := fnOk Try.func44 (by kernel_rfl) (by kernel_rfl) (by kernel_rfl) (by kernel_rfl) rfl
theorem ok45 : FnOk Try.prog GG 45 c45 := fnOk Try.func45 (by kernel_rfl) (by kernel_rfl) (by kernel_rfl) (by kernel_rfl) rfl
theorem ok46 : FnOk Try.prog GG 46 c46 := fnOk Try.func46 (by kernel_rfl) (by kernel_rfl) (by kernel_rfl) (by kernel_rfl) rfl
theorem ok47 : FnOk Try.prog GG 47 c47 := fnOk Try.func47 (by kernel_rfl) (by kernel_rfl) (by kernel_rfl) (by kernel_rfl) rfl
theorem ok48 : FnOk Try.prog GG 48 c48 := fnOk Try.func48 (by kernel_rfl) (by kernel_rfl) (by kernel_rfl) (by kernel_rfl) rfl
theorem ok49 : FnOk Try.prog GG 49 c49 := fnOk Try.func49 (by kernel_rfl) (by kernel_rfl) (by kernel_rfl) (by kernel_rfl) rfl
theorem ok50 : FnOk Try.prog GG 50 c50 := fnOk Try.func50 (by kernel_rfl) (by kernel_rfl) (by kernel_rfl) (by kernel_rfl) rfl
theorem ok51 : FnOk Try.prog GG 51 c51 := fnOk Try.func51 (by kernel_rfl) (by kernel_rfl) (by kernel_rfl) (by kernel_rfl) rfl
theorem ok52 : FnOk Try.prog GG 52 c52 := fnOk Try.func52 (by kernel_rfl) (by kernel_rfl) (by kernel_rfl) (by kernel_rfl) rfl
theorem ok53 : FnOk Try.prog GG 53 c53 := fnOk Try.func53 (by kernel_rfl) (by kernel_rfl) (by kernel_rfl) (by kernel_rfl) rfl
theorem ok54 : FnOk Try.prog GG 54 c54 := fnOk Try.func54 (by kernel_rfl) (by kernel_rfl) (by kernel_rfl) (by kernel_rfl) rfl
theorem ok55 : FnOk Try.prog GG 55 c55 := fnOk Try.func55 (by kernel_rfl) (by kernel_rfl) (by kernel_rfl) (by kernel_rfl) rfl
theorem ok56 : FnOk Try.prog GG 56 c56 := fnOk Try.func56 (by kernel_rfl) (by kernel_rfl) (by kernel_rfl) (by kernel_rfl) rfl
theorem ok57 : FnOk Try.prog GG 57 c57 := fnOk Try.func57 (by kernel_rfl) (by kernel_rfl) (by kernel_rfl) (by kernel_rfl) rfl
theorem ok58 : FnOk Try.prog GG 58 c58 := fnOk Try.func58 (by kernel_rfl) (by kernel_rfl) (by kernel_rfl) (by kernel_rfl) rfl
theorem ok59 : FnOk Try.prog GG 59 c59 := fnOk Try.func59 (by kernel_rfl) (by kernel_rfl) (by kernel_rfl) (by kernel_rfl) rfl
theorem ok60 : FnOk Try.prog GG 60 c60 := fnOk Try.func60 (by kernel_rfl) (by kernel_rfl) (by kernel_rfl) (by kernel_rfl) rfl
theorem ok61 : FnOk Try.prog GG 61 c61 := fnOk Try.func61 (by kernel_rfl) (by kernel_rfl) (by kernel_rfl) (by kernel_rfl) rfl
theorem ok62 : FnOk Try.prog GG 62 c62 := fnOk Try.func62 (by kernel_rfl) (by kernel_rfl) (by kernel_rfl) (by kernel_rfl) rfl
theorem ok63 : FnOk Try.prog GG 63 c63 := fnOk Try.func63 (by kernel_rfl) (by kernel_rfl) (by kernel_rfl) (by kernel_rfl) rfl
theorem ok64 : FnOk Try.prog GG 64 c64 := fnOk Try.func64 (by kernel_rfl) (by kernel_rfl) (by kernel_rfl) (by kernel_rfl) rfl
theorem ok65 : FnOk Try.prog GG 65 c65 := fnOk Try.func65 (by kernel_rfl) (by kernel_rfl) (by kernel_rfl) (by kernel_rfl) rfl
theorem ok66 : FnOk Try.prog GG 66 c66 := fnOk Try.func66 (by kernel_rfl) (by kernel_rfl) (by kernel_rfl) (by kernel_rfl) rfl
theorem ok67 : FnOk Try.prog GG 67 c67 := fnOk Try.func67 (by kernel_rfl) (by kernel_rfl) (by kernel_rfl) (by kernel_rfl) rfl
theorem ok68 : FnOk Try.prog GG 68 c68 := fnOk Try.func68 (by kernel_rfl) (by kernel_rfl) (by kernel_rfl) (by kernel_rfl) rfl
theorem ok69 : FnOk Try.prog GG 69 c69 := fnOk Try.func69 (by kernel_rfl) (by kernel_rfl) (by kernel_rfl) (by kernel_rfl) rfl
theorem ok70 : FnOk Try.prog GG 70 c70 := fnOk Try.func70 (by kernel_rfl) (by kernel_rfl) (by kernel_rfl) (by kernel_rfl) rfl
theorem ok71 : FnOk Try.prog GG 71 c71 := fnOk Try.func71 (by kernel_rfl) (by kernel_rfl) (by kernel_rfl) (by kernel_rfl) rfl
theorem ok72 : FnOk Try.prog GG 72 c72 := fnOk Try.func72 (by kernel_rfl) (by kernel_rfl) (by kernel_rfl) (by kernel_rfl) rfl
theorem ok73 : FnOk Try.prog GG 73 c73 := fnOk Try.func73 (by kernel_rfl) (by kernel_rfl) (by kernel_rfl) (by kernel_rfl) rfl
theorem ok74 : FnOk Try.prog GG 74 c74 := fnOk Try.func74 (by kernel_rfl) (by kernel_rfl) (by kernel_rfl) (by kernel_rfl) rfl
theorem ok75 : FnOk Try.prog GG 75 c75 := fnOk Try.func75 (by kernel_rfl) (by kernel_rfl) (by kernel_rfl) (by kernel_rfl) rfl
theorem ok76 : FnOk Try.prog GG 76 c76 := fnOk Try.func76 (by kernel_rfl) (by kernel_rfl) (by kernel_rfl) (by kernel_rfl) rfl
theorem ok77 : FnOk Try.prog GG 77 c77 := fnOk Try.func77 (by kernel_rfl) (by kernel_rfl) (by kernel_rfl) (by kernel_rfl) rfl
theorem ok78 : FnOk Try.prog GG 78 c78 := fnOk Try.func78 (by kernel_rfl) (by kernel_rfl) (by kernel_rfl) (by kernel_rfl) rfl
theorem ok79 : FnOk Try.prog GG 79 c79 := fnOk Try.func79 (by kernel_rfl) (by kernel_rfl) (by kernel_rfl) (by kernel_rfl) rfl
theorem ok80 : FnOk Try.prog GG 80 c80 := fnOk Try.func80 (by kernel_rfl) (by kernel_rfl) (by kernel_rfl) (by kernel_rfl) rfl
theorem ok81 : FnOk Try.prog GG 81 c81 := fnOk Try.func81 (by kernel_rfl) (by kernel_rfl) (by kernel_rfl) (by kernel_rfl) rfl
theorem ok82 : FnOk Try.prog GG 82 c82 := fnOk Try.func82 (by kernel_rfl) (by kernel_rfl) (by kernel_rfl) (by kernel_rfl) rfl
theorem ok83 : FnOk Try.prog GG 83 c83 := fnOk Try.func83 (by kernel_rfl) (by kernel_rfl) (by kernel_rfl) (by kernel_rfl) rfl
theorem ok84 : FnOk Try.prog GG 84 c84 := fnOk Try.func84 (by kernel_rfl) (by kernel_rfl) (by kernel_rfl) (by kernel_rfl) rfl
theorem ok85 : FnOk Try.prog GG 85 c85 := fnOk Try.func85 (by kernel_rfl) (by kernel_rfl) (by kernel_rfl) (by kernel_rfl) rfl
theorem ok86 : FnOk Try.prog GG 86 c86 := fnOk Try.func86 (by kernel_rfl) (by kernel_rfl) (by kernel_rfl) (by kernel_rfl) rfl
theorem ok87 : FnOk Try.prog GG 87 c87 := fnOk Try.func87 (by kernel_rfl) (by kernel_rfl) (by kernel_rfl) (by kernel_rfl) rfl
theorem ok88 : FnOk Try.prog GG 88 c88 := fnOk Try.func88 (by kernel_rfl) (by kernel_rfl) (by kernel_rfl) (by kernel_rfl) rfl
theorem ok89 : FnOk Try.prog GG 89 c89 := fnOk Try.func89 (by kernel_rfl) (by kernel_rfl) (by kernel_rfl) (by kernel_rfl) rfl
theorem ok90 : FnOk Try.prog GG 90 c90 := fnOk Try.func90 (by kernel_rfl) (by kernel_rfl) (by kernel_rfl) (by kernel_rfl) rfl
theorem ok91 : FnOk Try.prog GG 91 c91 := fnOk Try.func91 (by kernel_rfl) (by kernel_rfl) (by kernel_rfl) (by kernel_rfl) rfl
theorem ok92 : FnOk Try.prog GG 92 c92 := fnOk Try.func92 (by kernel_rfl) (by kernel_rfl) (by kernel_rfl) (by kernel_rfl) rfl
theorem ok93 : FnOk Try.prog GG 93 c93 := fnOk Try.func93 (by kernel_rfl) (by kernel_rfl) (by kernel_rfl) (by kernel_rfl) rfl
theorem ok94 : FnOk Try.prog GG 94 c94 := fnOk Try.func94 (by kernel_rfl) (by kernel_rfl) (by kernel_rfl) (by kernel_rfl) rfl
theorem ok95 : FnOk Try.prog GG 95 c95 := fnOk Try.func95 (by kernel_rfl) (by kernel_rfl) (by kernel_rfl) (by kernel_rfl) rfl
theorem ok96 : FnOk Try.prog GG 96 c96 := fnOk Try.func96 (by kernel_rfl) (by kernel_rfl) (by kernel_rfl) (by kernel_rfl) rfl
theorem ok97 : FnOk Try.prog GG 97 c97 := fnOk Try.func97 (by kernel_rfl) (by kernel_rfl) (by kernel_rfl) (by kernel_rfl) rfl
theorem ok98 : FnOk Try.prog GG 98 c98 := fnOk Try.func98 (by kernel_rfl) (by kernel_rfl) (by kernel_rfl) (by kernel_rfl) rfl
theorem ok99 : FnOk Try.prog GG 99 c99 := fnOk Try.func99 (by kernel_rfl) (by kernel_rfl) (by kernel_rfl) (by kernel_rfl) rfl
theorem ok100 : FnOk Try.prog GG 100 c100 := fnOk Try.func100 (by kernel_rfl) (by kernel_rfl) (by kernel_rfl) (by kernel_rfl) rfl
theorem ok101 : FnOk Try.prog GG 101 c101 := fnOk Try.func101 (by kernel_rfl) (by kernel_rfl) (by kernel_rfl) (by kernel_rfl) rfl
theorem ok102 : FnOk Try.prog GG 102 c102 := fnOk Try.func102 (by kernel_rfl) (by kernel_rfl) (by kernel_rfl) (by kernel_rfl) rfl
theorem ok103 : FnOk Try.prog GG 103 c103 := fnOk Try.func103 (by kernel_rfl) (by kernel_rfl) (by kernel_rfl) (by kernel_rfl) rfl
theorem ok104 : FnOk Try.prog GG 104 c104 := fnOk Try.func104 (by kernel_rfl) (by kernel_rfl) (by kernel_rfl) (by kernel_rfl) rfl
theorem ok105 : FnOk Try.prog GG 105 c105 := fnOk Try.func105 (by kernel_rfl) (by kernel_rfl) (by kernel_rfl) (by kernel_rfl) rfl
theorem ok106 : FnOk Try.prog GG 106 c106 := fnOk Try.func106 (by kernel_rfl) (by kernel_rfl) (by kernel_rfl) (by kernel_rfl) rfl
theorem ok107 : FnOk Try.prog GG 107 c107 := fnOk Try.func107 (by kernel_rfl) (by kernel_rfl) (by kernel_rfl) (by kernel_rfl) rfl
theorem ok108 : FnOk Try.prog GG 108 c108 := fnOk Try.func108 (by kernel_rfl) (by kernel_rfl) (by kernel_rfl) (by kernel_rfl) rfl
theorem ok109 : FnOk Try.prog GG 109 c109 := fnOk Try.func109 (by kernel_rfl) (by kernel_rfl) (by kernel_rfl) (by kernel_rfl) rfl
theorem ok110 : FnOk Try.prog GG 110 c110 := fnOk Try.func110 (by kernel_rfl) (by kernel_rfl) (by kernel_rfl) (by kernel_rfl) rfl
theorem ok111 : FnOk Try.prog GG 111 c111 := fnOk Try.func111 (by kernel_rfl) (by kernel_rfl) (by kernel_rfl) (by kernel_rfl) rfl
theorem ok112 : FnOk Try.prog GG 112 c112 := fnOk Try.func112 (by kernel_rfl) (by kernel_rfl) (by kernel_rfl) (by kernel_rfl) rfl
theorem ok113 : FnOk Try.prog GG 113 c113 := fnOk Try.func113 (by kernel_rfl) (by kernel_rfl) (by kernel_rfl) (by kernel_rfl) rfl
theorem ok114 : FnOk Try.prog GG 114 c114 := fnOk Try.func114 (by kernel_rfl) (by kernel_rfl) (by kernel_rfl) (by kernel_rfl) rfl
theorem ok115 : FnOk Try.prog GG 115 c115 := fnOk Try.func115 (by kernel_rfl) (by kernel_rfl) (by kernel_rfl) (by kernel_rfl) rfl
theorem ok116 : FnOk Try.prog GG 116 c116 := fnOk Try.func116 (by kernel_rfl) (by kernel_rfl) (by kernel_rfl) (by kernel_rfl) rfl
theorem ok117 : FnOk Try.prog GG 117 c117 := fnOk Try.func117 (by kernel_rfl) (by kernel_rfl) (by kernel_rfl) (by kernel_rfl) rfl
theorem ok118 : FnOk Try.prog GG 118 c118 := fnOk Try.func118 (by kernel_rfl) (by kernel_rfl) (by kernel_rfl) (by kernel_rfl) rfl
theorem ok119 : FnOk Try.prog GG 119 c119 := fnOk Try.func119 (by kernel_rfl) (by kernel_rfl) (by kernel_rfl) (by kernel_rfl) rfl
theorem ok120 : FnOk Try.prog GG 120 c120 := fnOk Try.func120 (by kernel_rfl) (by kernel_rfl) (by kernel_rfl) (by kernel_rfl) rfl
theorem ok121 : FnOk Try.prog GG 121 c121 := fnOk Try.func121 (by kernel_rfl) (by kernel_rfl) (by kernel_rfl) (by kernel_rfl) rfl
theorem ok122 : FnOk Try.prog GG 122 c122 := fnOk Try.func122 (by kernel_rfl) (by kernel_rfl) (by kernel_rfl) (by kernel_rfl) rfl
theorem ok123 : FnOk Try.prog GG 123 c123 := fnOk Try.func123 (by kernel_rfl) (by kernel_rfl) (by kernel_rfl) (by kernel_rfl) rfl
theorem ok124 : FnOk Try.prog GG 124 c124 := fnOk Try.func124 (by kernel_rfl) (by kernel_rfl) (by kernel_rfl) (by kernel_rfl) rfl
theorem ok125 : FnOk Try.prog GG 125 c125 := fnOk Try.func125 (by kernel_rfl) (by kernel_rfl) (by kernel_rfl) (by kernel_rfl) rfl
theorem ok126 : FnOk Try.prog GG 126 c126 := fnOk Try.func126 (by kernel_rfl) (by kernel_rfl) (by kernel_rfl) (by kernel_rfl) rfl
theorem ok127 : FnOk Try.prog GG 127 c127 := fnOk Try.func127 (by kernel_rfl) (by kernel_rfl) (by kernel_rfl) (by kernel_rfl) rfl
theorem allOk : AllOk Try.prog GG 0 tbl := ⟨ok3, ok4, ok5, ok6, ok7, ok8, ok9, ok10, ok11, ok12, ok13, ok14, ok15, ok16, ok17, ok18, ok19, ok20, ok21, ok22, ok23, ok24, ok25, ok26, ok27, ok28, ok29, ok30, ok31, ok32, ok33, ok34, ok35, ok36, ok37, ok38, ok39, ok40, ok41, ok42, ok43, ok44, ok45, ok46, ok47, ok48, ok49, ok50, ok51, ok52, ok53, ok54, ok55, ok56, ok57, ok58, ok59, ok60, ok61, ok62, ok63, ok64, ok65, ok66, ok67, ok68, ok69, ok70, ok71, ok72, ok73, ok74, ok75, ok76, ok77, ok78, ok79, ok80, ok81, ok82, ok83, ok84, ok85, ok86, ok87, ok88, ok89, ok90, ok91, ok92, ok93, ok94, ok95, ok96, ok97, ok98, ok99, ok100, ok101, ok102, ok103, ok104, ok105, ok106, ok107, ok108, ok109, ok110, ok111, ok112, ok113, ok114, ok115, ok116, ok117, ok118, ok119, ok120, ok121, ok122, ok123, ok124, ok125, ok126, ok127, trivial⟩
theorem tabOk : TabOk Try.prog GG T := tabOk_all tbl (fun _ => rfl) allOk
/-- What the machine answers, a call answers. -/
theorem sound (n f : Nat) (args : List AVal) (h : Heap) (v : AVal) (h' : Heap) (hc : callF T (exec Try.prog T n) f args h = some (v, h')) : CallGood Try.prog GG f args h v h' := call_sound mixed tabOk n f args h v h' hc
end Go.Proofs.Ytfnnonoffiljhaa.Tab
