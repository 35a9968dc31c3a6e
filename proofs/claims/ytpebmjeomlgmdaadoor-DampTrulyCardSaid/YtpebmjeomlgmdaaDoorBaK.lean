/- The seat's table of compiled functions is the program's: shown function by function. No condition. -/
import Derived.Test.YtpebmjeomlgmdaaDoorBaB
import Derived.Test.YtpebmjeomlgmdaaDoorBaT
import Derived.Test.YtpebmjeomlgmdaaDoorChecked
set_option linter.unusedSimpArgs false
set_option linter.unusedVariables false
set_option maxRecDepth 1000000
namespace Go.Proofs.YtpebmjeomlgmdaaDoor.Tab
open Go Go.Abs Go.Proofs
noncomputable def deBruijn32 : List Int := [0,1,28,2,29,14,24,3,30,22,20,15,25,17,4,8,31,27,13,23,21,19,16,7,26,12,18,6,11,5,10,9]
noncomputable def deBruijn64 : List Int := [0,1,56,2,57,49,28,3,61,58,42,50,38,29,17,4,62,47,59,36,45,43,51,22,53,39,33,30,24,18,12,5,63,55,48,27,60,41,37,16,46,35,44,21,52,32,23,11,54,26,40,15,34,20,31,10,25,14,19,9,13,8,7,6]
/-- The tables of math/bits. -/
noncomputable def GG : Nat → Option (List AVal)
  | 0 => some (deBruijn32.map fun n => .int .u8 n)
  | 1 => some (deBruijn64.map fun n => .int .u8 n)
  | _ => none
theorem mixed : Tryd.prog.follows .mixedOrders = true := by kernel_rfl
theorem ok3 : FnOk Tryd.prog GG 3 c3 := fnOk Tryd.func3 (by kernel_rfl) (by kernel_rfl) (by kernel_rfl) (by kernel_rfl) rfl
theorem ok4 : FnOk Tryd.prog GG 4 c4 := fnOk Tryd.func4 (by kernel_rfl) (by kernel_rfl) (by kernel_rfl) (by kernel_rfl) rfl
theorem ok5 : FnOk Tryd.prog GG 5 c5 := fnOk Tryd.func5 (by kernel_rfl) (by kernel_rfl) (by kernel_rfl) (by kernel_rfl) rfl
theorem ok6 : FnOk Tryd.prog GG 6 c6 := fnOk Tryd.func6 (by kernel_rfl) (by kernel_rfl) (by kernel_rfl) (by kernel_rfl) rfl
theorem ok7 : FnOk Tryd.prog GG 7 c7 := fnOk Tryd.func7 (by kernel_rfl) (by kernel_rfl) (by kernel_rfl) (by kernel_rfl) rfl
theorem ok8 : FnOk Tryd.prog GG 8 c8 := fnOk Tryd.func8 (by kernel_rfl) (by kernel_rfl) (by kernel_rfl) (by kernel_rfl) rfl
theorem ok9 : FnOk Tryd.prog GG 9 c9 := fnOk Tryd.func9 (by kernel_rfl) (by kernel_rfl) (by kernel_rfl) (by kernel_rfl) rfl
theorem ok10 : FnOk Tryd.prog GG 10 c10 := fnOk Tryd.func10 (by kernel_rfl) (by kernel_rfl) (by kernel_rfl) (by kernel_rfl) rfl
theorem ok11 : FnOk Tryd.prog GG 11 c11 := fnOk Tryd.func11 (by kernel_rfl) (by kernel_rfl) (by kernel_rfl) (by kernel_rfl) rfl
theorem ok12 : FnOk Tryd.prog GG 12 c12 := fnOk Tryd.func12 (by kernel_rfl) (by kernel_rfl) (by kernel_rfl) (by kernel_rfl) rfl
theorem ok13 : FnOk Tryd.prog GG 13 c13 := fnOk Tryd.func13 (by kernel_rfl) (by kernel_rfl) (by kernel_rfl) (by kernel_rfl) rfl
theorem ok14 : FnOk Tryd.prog GG 14 c14 := fnOk Tryd.func14 (by kernel_rfl) (by kernel_rfl) (by kernel_rfl) (by kernel_rfl) rfl
theorem ok15 : FnOk Tryd.prog GG 15 c15 := fnOk Tryd.func15 (by kernel_rfl) (by kernel_rfl) (by kernel_rfl) (by kernel_rfl) rfl
theorem ok16 : FnOk Tryd.prog GG 16 c16 := fnOk Tryd.func16 (by kernel_rfl) (by kernel_rfl) (by kernel_rfl) (by kernel_rfl) rfl
theorem ok17 : FnOk Tryd.prog GG 17 c17 := fnOk Tryd.func17 (by kernel_rfl) (by kernel_rfl) (by kernel_rfl) (by kernel_rfl) rfl
theorem ok18 : FnOk Tryd.prog GG 18 c18 := fnOk Tryd.func18 (by kernel_rfl) (by kernel_rfl) (by kernel_rfl) (by kernel_rfl) rfl
theorem ok19 : FnOk Tryd.prog GG 19 c19 := fnOk Tryd.func19 (by kernel_rfl) (by kernel_rfl) (by kernel_rfl) (by kernel_rfl) rfl
theorem ok20 : FnOk Tryd.prog GG 20 c20 := fnOk Tryd.func20 (by kernel_rfl) (by kernel_rfl) (by kernel_rfl) (by kernel_rfl) rfl
theorem ok21 : FnOk Tryd.prog GG 21 c21 := fnOk Tryd.func21 (by kernel_rfl) (by kernel_rfl) (by kernel_rfl) (by kernel_rfl) rfl
theorem ok22 : FnOk Tryd.prog GG 22 c22 := fnOk Tryd.func22 (by kernel_rfl) (by kernel_rfl) (by kernel_rfl) (by kernel_rfl) rfl
theorem ok23 : FnOk Tryd.prog GG 23 c23 := fnOk Tryd.func23 (by kernel_rfl) (by kernel_rfl) (by kernel_rfl) (by kernel_rfl) rfl
theorem ok24 : FnOk Tryd.prog GG 24 c24 := fnOk Tryd.func24 (by kernel_rfl) (by kernel_rfl) (by kernel_rfl) (by kernel_rfl) rfl
theorem ok25 : FnOk Tryd.prog GG 25 c25 := fnOk Tryd.func25 (by kernel_rfl) (by kernel_rfl) (by kernel_rfl) (by kernel_rfl) rfl
theorem ok26 : FnOk Tryd.prog GG 26 c26 := fnOk Tryd.func26 (by kernel_rfl) (by kernel_rfl) (by kernel_rfl) (by kernel_rfl) rfl
theorem ok27 : FnOk Tryd.prog GG 27 c27 := fnOk Tryd.func27 (by kernel_rfl) (by kernel_rfl) (by kernel_rfl) (by kernel_rfl) rfl
theorem ok28 : FnOk Tryd.prog GG 28 c28 := fnOk Tryd.func28 (by kernel_rfl) (by kernel_rfl) (by kernel_rfl) (by kernel_rfl) rfl
theorem ok29 : FnOk Tryd.prog GG 29 c29 := fnOk Tryd.func29 (by kernel_rfl) (by kernel_rfl) (by kernel_rfl) (by kernel_rfl) rfl
theorem ok30 : FnOk Tryd.prog GG 30 c30 := fnOk Tryd.func30 (by kernel_rfl) (by kernel_rfl) (by kernel_rfl) (by kernel_rfl) rfl
theorem ok31 : FnOk Tryd.prog GG 31 c31 := fnOk Tryd.func31 (by kernel_rfl) (by kernel_rfl) (by kernel_rfl) (by kernel_rfl) rfl
theorem ok32 : FnOk Tryd.prog GG 32 c32 := fnOk Tryd.func32 (by kernel_rfl) (by kernel_rfl) (by kernel_rfl) (by kernel_rfl) rfl
theorem ok33 : FnOk Tryd.prog GG 33 c33 := fnOk Tryd.func33 (by kernel_rfl) (by kernel_rfl) (by kernel_rfl) (by kernel_rfl) rfl
theorem ok34 : FnOk Tryd.prog GG 34 c34 := fnOk Tryd.func34 (by kernel_rfl) (by kernel_rfl) (by kernel_rfl) (by kernel_rfl) rfl
theorem ok35 : FnOk Tryd.prog GG 35 c35 := fnOk Tryd.func35 (by kernel_rfl) (by kernel_rfl) (by kernel_rfl) (by kernel_rfl) rfl
theorem ok36 : FnOk Tryd.prog GG 36 c36 := fnOk Tryd.func36 (by kernel_rfl) (by kernel_rfl) (by kernel_rfl) (by kernel_rfl) rfl
theorem ok37 : FnOk Tryd.prog GG 37 c37 := fnOk Tryd.func37 (by kernel_rfl) (by kernel_rfl) (by kernel_rfl) (by kernel_rfl) rfl
theorem ok38 : FnOk Tryd.prog GG 38 c38 := fnOk Tryd.func38 (by kernel_rfl) (by kernel_rfl) (by kernel_rfl) (by kernel_rfl) rfl
theorem ok39 : FnOk Tryd.prog GG 39 c39 := fnOk Tryd.func39 (by kernel_rfl) (by kernel_rfl) (by kernel_rfl) (by kernel_rfl) rfl
theorem ok40 : FnOk Tryd.prog GG 40 c40 := fnOk Tryd.func40 (by kernel_rfl) (by kernel_rfl) (by kernel_rfl) (by kernel_rfl) rfl
theorem ok41 : FnOk Tryd.prog GG 41 c41 := fnOk Tryd.func41 (by kernel_rfl) (by kernel_rfl) (by kernel_rfl) (by kernel_rfl) rfl
theorem ok42 : FnOk Tryd.prog GG 42 c42 := fnOk Tryd.func42 (by kernel_rfl) (by kernel_rfl) (by kernel_rfl) (by kernel_rfl) rfl
theorem ok43 : FnOk Tryd.prog GG 43 c43 := fnOk Tryd.func43 (by kernel_rfl) (by kernel_rfl) (by kernel_rfl) (by kernel_rfl) rfl
theorem ok44 : FnOk Tryd.prog GG 44 c44 := fnOk Tryd.func44 (by kernel_rfl) (by kernel_rfl) (by kernel_rfl) (by kernel_rfl) rfl
theorem ok45 : FnOk Tryd.prog GG 45 c45 := fnOk Tryd.func45 (by kernel_rfl) (by kernel_rfl) (by kernel_rfl) (by kernel_rfl) rfl
theorem ok46 : FnOk Tryd.prog GG 46 c46 := fnOk Tryd.func46 (by kernel_rfl) (by kernel_rfl) (by kernel_rfl) (by kernel_rfl) rfl
theorem ok47 : FnOk Tryd.prog GG 47 c47 := fnOk Tryd.func47 (by kernel_rfl) (by kernel_rfl) (by kernel_rfl) (by kernel_rfl) rfl
theorem ok48 : FnOk Tryd.prog GG 48 c48 := fnOk Tryd.func48 (by kernel_rfl) (by kernel_rfl) (by kernel_rfl) (by kernel_rfl) rfl
theorem ok49 : FnOk Tryd.prog GG 49 c49 := fnOk Tryd.func49 (by kernel_rfl) (by kernel_rfl) (by kernel_rfl) (by kernel_rfl) rfl
theorem ok50 : FnOk Tryd.prog GG 50 c50 := fnOk Tryd.func50 (by kernel_rfl) (by kernel_rfl) (by kernel_rfl) (by kernel_rfl) rfl
theorem ok51 : FnOk Tryd.prog GG 51 c51 := fnOk Tryd.func51 (by kernel_rfl) (by kernel_rfl) (by kernel_rfl) (by kernel_rfl) rfl
theorem ok52 : FnOk Tryd.prog GG 52 c52 := fnOk Tryd.func52 (by kernel_rfl) (by kernel_rfl) (by kernel_rfl) (by kernel_rfl) rfl
theorem ok53 : FnOk Tryd.prog GG 53 c53 := fnOk Tryd.func53 (by kernel_rfl) (by kernel_rfl) (by kernel_rfl) (by kernel_rfl) rfl
theorem ok54 : FnOk Tryd.prog GG 54 c54 := fnOk Tryd.func54 (by kernel_rfl) (by kernel_rfl) (by kernel_rfl) (by kernel_rfl) rfl
theorem ok55 : FnOk Tryd.prog GG 55 c55 := fnOk Tryd.func55 (by kernel_rfl) (by kernel_rfl) (by kernel_rfl) (by kernel_rfl) rfl
theorem ok56 : FnOk Tryd.prog GG 56 c56 := fnOk Tryd.func56 (by kernel_rfl) (by kernel_rfl) (by kernel_rfl) (by kernel_rfl) rfl
theorem ok57 : FnOk Tryd.prog GG 57 c57 := fnOk Tryd.func57 (by kernel_rfl) (by kernel_rfl) (by kernel_rfl) (by kernel_rfl) rfl
theorem ok58 : FnOk Tryd.prog GG 58 c58 := fnOk Tryd.func58 (by kernel_rfl) (by kernel_rfl) (by kernel_rfl) (by kernel_rfl) rfl
theorem ok59 : FnOk Tryd.prog GG 59 c59 := fnOk Tryd.func59 (by kernel_rfl) (by kernel_rfl) (by kernel_rfl) (by kernel_rfl) rfl
theorem ok60 : FnOk Tryd.prog GG 60 c60 := fnOk Tryd.func60 (by kernel_rfl) (by kernel_rfl) (by kernel_rfl) (by kernel_rfl) rfl
theorem ok61 : FnOk Tryd.prog GG 61 c61 := fnOk Tryd.func61 (by kernel_rfl) (by kernel_rfl) (by kernel_rfl) (by kernel_rfl) rfl
theorem ok62 : FnOk Tryd.prog GG 62 c62 := fnOk Tryd.func62 (by kernel_rfl) (by kernel_rfl) (by kernel_rfl) (by kernel_rfl) rfl
theorem ok63 : FnOk Tryd.prog GG 63 c63 := fnOk Tryd.func63 (by kernel_rfl) (by kernel_rfl) (by kernel_rfl) (by kernel_rfl) rfl
theorem ok64 : FnOk Tryd.prog GG 64 c64 := fnOk Tryd.func64 (by kernel_rfl) (by kernel_rfl) (by kernel_rfl) (by kernel_rfl) rfl
theorem ok65 : FnOk Tryd.prog GG 65 c65 := fnOk Tryd.func65 (by kernel_rfl) (by kernel_rfl) (by kernel_rfl) (by kernel_rfl) rfl
theorem ok66 : FnOk Tryd.prog GG 66 c66 := fnOk Tryd.func66 (by kernel_rfl) (by kernel_rfl) (by kernel_rfl) (by kernel_rfl) rfl
theorem ok67 : FnOk Tryd.prog GG 67 c67 := fnOk Tryd.func67 (by kernel_rfl) (by kernel_rfl) (by kernel_rfl) (by kernel_rfl) rfl
theorem ok68 : FnOk Tryd.prog GG 68 c68 := fnOk Tryd.func68 (by kernel_rfl) (by kernel_rfl) (by kernel_rfl) (by kernel_rfl) rfl
theorem ok69 : FnOk Tryd.prog GG 69 c69 := fnOk Tryd.func69 (by kernel_rfl) (by kernel_rfl) (by kernel_rfl) (by kernel_rfl) rfl
theorem ok70 : FnOk Tryd.prog GG 70 c70 := fnOk Tryd.func70 (by kernel_rfl) (by kernel_rfl) (by kernel_rfl) (by kernel_rfl) rfl
theorem ok71 : FnOk Tryd.prog GG 71 c71 := fnOk Tryd.func71 (by kernel_rfl) (by kernel_rfl) (by kernel_rfl) (by kernel_rfl) rfl
theorem ok72 : FnOk Tryd.prog GG 72 c72 := fnOk Tryd.func72 (by kernel_rfl) (by kernel_rfl) (by kernel_rfl) (by kernel_rfl) rfl
theorem ok73 : FnOk Tryd.prog GG 73 c73 := fnOk Tryd.func73 (by kernel_rfl) (by kernel_rfl) (by kernel_rfl) (by kernel_rfl) rfl
theorem ok74 : FnOk Tryd.prog GG 74 c74 := fnOk Tryd.func74 (by kernel_rfl) (by kernel_rfl) (by kernel_rfl) (by kernel_rfl) rfl
theorem ok75 : FnOk Tryd.prog GG 75 c75 := fnOk Tryd.func75 (by kernel_rfl) (by kernel_rfl) (by kernel_rfl) (by kernel_rfl) rfl
theorem ok76 : FnOk Tryd.prog GG 76 c76 := fnOk Tryd.func76 (by kernel_rfl) (by kernel_rfl) (by kernel_rfl) (by kernel_rfl) rfl
theorem ok77 : FnOk Tryd.prog GG 77 c77 := fnOk Tryd.func77 (by kernel_rfl) (by kernel_rfl) (by kernel_rfl) (by kernel_rfl) rfl
theorem ok78 : FnOk Tryd.prog GG 78 c78 := fnOk Tryd.func78 (by kernel_rfl) (by kernel_rfl) (by kernel_rfl) (by kernel_rfl) rfl
theorem ok79 : FnOk Tryd.prog GG 79 c79 := fnOk Tryd.func79 (by kernel_rfl) (by kernel_rfl) (by kernel_rfl) (by kernel_rfl) rfl
theorem ok80 : FnOk Tryd.prog GG 80 c80 := fnOk Tryd.func80 (by kernel_rfl) (by kernel_rfl) (by kernel_rfl) (by kernel_rfl) rfl
theorem ok81 : FnOk Tryd.prog GG 81 c81 := fnOk Tryd.func81 (by kernel_rfl) (by kernel_rfl) (by kernel_rfl) (by kernel_rfl) rfl
theorem ok82 : FnOk Tryd.prog GG 82 c82 := fnOk Tryd.func82 (by kernel_rfl) (by kernel_rfl) (by kernel_rfl) (by kernel_rfl) rfl
theorem ok83 : FnOk Tryd.prog GG 83 c83 := fnOk Tryd.func83 (by kernel_rfl) (by kernel_rfl) (by kernel_rfl) (by kernel_rfl) rfl
theorem ok84 : FnOk Tryd.prog GG 84 c84 := fnOk Tryd.func84 (by kernel_rfl) (by kernel_rfl) (by kernel_rfl) (by kernel_rfl) rfl
theorem ok85 : FnOk Tryd.prog GG 85 c85 := fnOk Tryd.func85 (by kernel_rfl) (by kernel_rfl) (by kernel_rfl) (by kernel_rfl) rfl
theorem ok86 : FnOk Tryd.prog GG 86 c86 := fnOk Tryd.func86 (by kernel_rfl) (by kernel_rfl) (by kernel_rfl) (by kernel_rfl) rfl
theorem ok87 : FnOk Tryd.prog GG 87 c87 := fnOk Tryd.func87 (by kernel_rfl) (by kernel_rfl) (by kernel_rfl) (by kernel_rfl) rfl
theorem ok88 : FnOk Tryd.prog GG 88 c88 := fnOk Tryd.func88 (by kernel_rfl) (by kernel_rfl) (by kernel_rfl) (by kernel_rfl) rfl
theorem ok89 : FnOk Tryd.prog GG 89 c89 := fnOk Tryd.func89 (by kernel_rfl) (by kernel_rfl) (by kernel_rfl) (by kernel_rfl) rfl
theorem ok90 : FnOk Tryd.prog GG 90 c90 := fnOk Tryd.func90 (by kernel_rfl) (by kernel_rfl) (by kernel_rfl) (by kernel_rfl) rfl
theorem ok91 : FnOk Tryd.prog GG 91 c91 := fnOk Tryd.func91 (by kernel_rfl) (by kernel_rfl) (by kernel_rfl) (by kernel_rfl) rfl
theorem ok92 : FnOk Tryd.prog GG 92 c92 := fnOk Tryd.func92 (by kernel_rfl) (by kernel_rfl) (by kernel_rfl) (by kernel_rfl) rfl
theorem ok93 : FnOk Tryd.prog GG 93 c93 := fnOk Tryd.func93 (by kernel_rfl) (by kernel_rfl) (by kernel_rfl) (by kernel_rfl) rfl
theorem ok94 : FnOk Tryd.prog GG 94 c94 := fnOk Tryd.func94 (by kernel_rfl) (by kernel_rfl) (by kernel_rfl) (by kernel_rfl) rfl
theorem ok95 : FnOk Tryd.prog GG 95 c95 := fnOk Tryd.func95 (by kernel_rfl) (by kernel_rfl) (by kernel_rfl) (by kernel_rfl) rfl
theorem ok96 : FnOk Tryd.prog GG 96 c96 := fnOk Tryd.func96 (by kernel_rfl) (by kernel_rfl) (by kernel_rfl) (by kernel_rfl) rfl
theorem ok97 : FnOk Tryd.prog GG 97 c97 := fnOk Tryd.func97 (by kernel_rfl) (by kernel_rfl) (by kernel_rfl) (by kernel_rfl) rfl
theorem ok98 : FnOk Tryd.prog GG 98 c98 := fnOk Tryd.func98 (by kernel_rfl) (by kernel_rfl) (by kernel_rfl) (by kernel_rfl) rfl
theorem ok99 : FnOk Tryd.prog GG 99 c99 := fnOk Tryd.func99 (by kernel_rfl) (by kernel_rfl) (by kernel_rfl) (by kernel_rfl) rfl
theorem ok100 : FnOk Tryd.prog GG 100 c100 := fnOk Tryd.func100 (by kernel_rfl) (by kernel_rfl) (by kernel_rfl) (by kernel_rfl) rfl
theorem ok101 : FnOk Tryd.prog GG 101 c101 := fnOk Tryd.func101 (by kernel_rfl) (by kernel_rfl) (by kernel_rfl) (by kernel_rfl) rfl
theorem ok102 : FnOk Tryd.prog GG 102 c102 := fnOk Tryd.func102 (by kernel_rfl) (by kernel_rfl) (by kernel_rfl) (by kernel_rfl) rfl
theorem ok103 : FnOk Tryd.prog GG 103 c103 := fnOk Tryd.func103 (by kernel_rfl) (by kernel_rfl) (by kernel_rfl) (by kernel_rfl) rfl
theorem ok104 : FnOk Tryd.prog GG 104 c104 := fnOk Tryd.func104 (by kernel_rfl) (by kernel_rfl) (by kernel_rfl) (by kernel_rfl) rfl
theorem ok105 : FnOk Tryd.prog GG 105 c105 := fnOk Tryd.func105 (by kernel_rfl) (by kernel_rfl) (by kernel_rfl) (by kernel_rfl) rfl
theorem ok106 : FnOk Tryd.prog GG 106 c106 := fnOk Tryd.func106 (by kernel_rfl) (by kernel_rfl) (by kernel_rfl) (by kernel_rfl) rfl
theorem ok107 : FnOk Tryd.prog GG 107 c107 := fnOk Tryd.func107 (by kernel_rfl) (by kernel_rfl) (by kernel_rfl) (by kernel_rfl) rfl
theorem ok108 : FnOk Tryd.prog GG 108 c108 := fnOk Tryd.func108 (by kernel_rfl) (by kernel_rfl) (by kernel_rfl) (by kernel_rfl) rfl
theorem ok109 : FnOk Tryd.prog GG 109 c109 := fnOk Tryd.func109 (by kernel_rfl) (by kernel_rfl) (by kernel_rfl) (by kernel_rfl) rfl
theorem ok110 : FnOk Tryd.prog GG 110 c110 := fnOk Tryd.func110 (by kernel_rfl) (by kernel_rfl) (by kernel_rfl) (by kernel_rfl) rfl
theorem ok111 : FnOk Tryd.prog GG 111 c111 := fnOk Tryd.func111 (by kernel_rfl) (by kernel_rfl) (by kernel_rfl) (by kernel_rfl) rfl
theorem ok112 : FnOk Tryd.prog GG 112 c112 := fnOk Tryd.func112 (by kernel_rfl) (by kernel_rfl) (by kernel_rfl) (by kernel_rfl) rfl
theorem ok113 : FnOk Tryd.prog GG 113 c113 := fnOk Tryd.func113 (by kernel_rfl) (by kernel_rfl) (by kernel_rfl) (by kernel_rfl) rfl
theorem ok114 : FnOk Tryd.prog GG 114 c114 := fnOk Tryd.func114 (by kernel_rfl) (by kernel_rfl) (by kernel_rfl) (by kernel_rfl) rfl
theorem ok115 : FnOk Tryd.prog GG 115 c115 := fnOk Tryd.func115 (by kernel_rfl) (by kernel_rfl) (by kernel_rfl) (by kernel_rfl) rfl
theorem ok116 : FnOk Tryd.prog GG 116 c116 := fnOk Tryd.func116 (by kernel_rfl) (by kernel_rfl) (by kernel_rfl) (by kernel_rfl) rfl
theorem ok117 : FnOk Tryd.prog GG 117 c117 := fnOk Tryd.func117 (by kernel_rfl) (by kernel_rfl) (by kernel_rfl) (by kernel_rfl) rfl
theorem ok118 : FnOk Tryd.prog GG 118 c118 := fnOk Tryd.func118 (by kernel_rfl) (by kernel_rfl) (by kernel_rfl) (by kernel_rfl) rfl
theorem ok119 : FnOk Tryd.prog GG 119 c119 := fnOk Tryd.func119 (by kernel_rfl) (by kernel_rfl) (by kernel_rfl) (by kernel_rfl) rfl
theorem ok120 : FnOk Tryd.prog GG 120 c120 := fnOk Tryd.func120 (by kernel_rfl) (by kernel_rfl) (by kernel_rfl) (by kernel_rfl) rfl
theorem ok121 : FnOk Tryd.prog GG 121 c121 := fnOk Tryd.func121 (by kernel_rfl) (by kernel_rfl) (by kernel_rfl) (by kernel_rfl) rfl
theorem ok122 : FnOk Tryd.prog GG 122 c122 := fnOk Tryd.func122 (by kernel_rfl) (by kernel_rfl) (by kernel_rfl) (by kernel_rfl) rfl
theorem ok123 : FnOk Tryd.prog GG 123 c123 := fnOk Tryd.func123 (by kernel_rfl) (by kernel_rfl) (by kernel_rfl) (by kernel_rfl) rfl
theorem ok124 : FnOk Tryd.prog GG 124 c124 := fnOk Tryd.func124 (by kernel_rfl) (by kernel_rfl) (by kernel_rfl) (by kernel_rfl) rfl
theorem ok125 : FnOk Tryd.prog GG 125 c125 := fnOk Tryd.func125 (by kernel_rfl) (by kernel_rfl) (by kernel_rfl) (by kernel_rfl) rfl
theorem ok126 : FnOk Tryd.prog GG 126 c126 := fnOk Tryd.func126 (by kernel_rfl) (by kernel_rfl) (by kernel_rfl) (by kernel_rfl) rfl
theorem ok127 : FnOk Tryd.prog GG 127 c127 := fnOk Tryd.func127 (by kernel_rfl) (by kernel_rfl) (by kernel_rfl) (by kernel_rfl) rfl
theorem ok128 : FnOk Tryd.prog GG 128 c128 := fnOk Tryd.func128 (by kernel_rfl) (by kernel_rfl) (by kernel_rfl) (by kernel_rfl) rfl
theorem ok129 : FnOk Tryd.prog GG 129 c129 := fnOk Tryd.func129 (by kernel_rfl) (by kernel_rfl) (by kernel_rfl) (by kernel_rfl) rfl
theorem ok130 : FnOk Tryd.prog GG 130 c130 := fnOk Tryd.func130 (by kernel_rfl) (by kernel_rfl) (by kernel_rfl) (by kernel_rfl) rfl
theorem ok131 : FnOk Tryd.prog GG 131 c131 := fnOk Tryd.func131 (by kernel_rfl) (by kernel_rfl) (by kernel_rfl) (by kernel_rfl) rfl
theorem ok132 : FnOk Tryd.prog GG 132 c132 := fnOk Tryd.func132 (by kernel_rfl) (by kernel_rfl) (by kernel_rfl) (by kernel_rfl) rfl
theorem ok133 : FnOk Tryd.prog GG 133 c133 := fnOk Tryd.func133 (by kernel_rfl) (by kernel_rfl) (by kernel_rfl) (by kernel_rfl) rfl
theorem ok134 : FnOk Tryd.prog GG 134 c134 := fnOk Tryd.func134 (by kernel_rfl) (by kernel_rfl) (by kernel_rfl) (by kernel_rfl) rfl
theorem ok135 : FnOk Tryd.prog GG 135 c135 := fnOk Tryd.func135 (by kernel_rfl) (by kernel_rfl) (by kernel_rfl) (by kernel_rfl) rfl
theorem ok136 : FnOk Tryd.prog GG 136 c136 := fnOk Tryd.func136 (by kernel_rfl) (by kernel_rfl) (by kernel_rfl) (by kernel_rfl) rfl
theorem allOk : AllOk Tryd.prog GG 0 tbl := ⟨ok3, ok4, ok5, ok6, ok7, ok8, ok9, ok10, ok11, ok12, ok13, ok14, ok15, ok16, ok17, ok18, ok19, ok20, ok21, ok22, ok23, ok24, ok25, ok26, ok27, ok28, ok29, ok30, ok31, ok32, ok33, ok34, ok35, ok36, ok37, ok38, ok39, ok40, ok41, ok42, ok43, ok44, ok45, ok46, ok47, ok48, ok49, ok50, ok51, ok52, ok53, ok54, ok55, ok56, ok57, ok58, ok59, ok60, ok61, ok62, ok63, ok64, ok65, ok66, ok67, ok68, ok69, ok70, ok71, ok72, ok73, ok74, ok75, ok76, ok77, ok78, ok79, ok80, ok81, ok82, ok83, ok84, ok85, ok86, ok87, ok88, ok89, ok90, ok91, ok92, ok93, ok94, ok95, ok96, ok97, ok98, ok99, ok100, ok101, ok102, ok103, ok104, ok105, ok106, ok107, ok108, ok109, ok110, ok111, ok112, ok113, ok114, ok115, ok116, ok117, ok118, ok119, ok120, ok121, ok122, ok123, ok124, ok125, ok126, ok127, ok128, ok129, ok130, ok131, ok132, ok133, ok134, ok135, ok136, trivial⟩
theorem tabOk : TabOk Tryd.prog GG T := tabOk_all tbl (fun _ => rfl) allOk
/-- What the machine answers, a call answers. -/
theorem sound (n f : Nat) (args : List AVal) (h : Heap) (v : AVal) (h' : Heap) (hc : callF T (exec Tryd.prog T n) f args h = some (v, h')) : CallGood Tryd.prog GG f args h v h' := call_sound mixed tabOk n f args h v h' hc
end Go.Proofs.YtpebmjeomlgmdaaDoor.Tab
