/- Contracts of flow: open, Check. No condition. -/
import Derived.Test.YtjjapdagllclkaaGreatChecked
import Derived.Test.YtjjapdagllclkaaGreatPzAFn
import Derived.Test.YtjjapdagllclkaaGreatPzBFn
set_option linter.unusedSimpArgs false
set_option linter.unusedVariables false
set_option maxRecDepth 100000
namespace Go.Proofs.YtjjapdagllclkaaGreat.Tab
open Go Go.Abs
def ci (n : Int) : CV := .c (.int .i64 n)
def cl (f : Nat) (l : List CV) : COp := .call (.c (.fn f [] [])) l
def oo (d : Nat) (c : COp) : CO := ⟨some d, c, none, []⟩
def om (d e : Nat) : CO := ⟨some d, .mv (.t e), none, []⟩
def op (d : Nat) (c : COp) (b : List Nat) : CO := ⟨some d, c, none, b⟩
def og (d : Nat) (c : COp) (g : Nat) (v : Bool) : CO := ⟨some d, c, some (g, v), []⟩
theorem zA {a b : Prop} (x : a) (y : b) : a ∧ b := ⟨x, y⟩
noncomputable def c3 : CFn := ⟨(.seq (.reg [oo 3 (.box (.t 0)), oo 6 (.mv (.c (.bool false)))]) (.seq (.seq (.reg [oo 22 (.ldn 3 (.t 3)), om 23 1, oo 24 (cl 14 [(.t 22), (.t 23), (ci 6)]), om 25 24, og 26 (.mv (.t 2)) 25 false, og 27 (.len (.t 26)) 25 false, og 28 (.ar .gtr (.t 27) (ci 20)) 25 false, oo 29 (.pick (.t 25) (.c (.bool true)) (.t 28))]) (.cond (.t 29) (.seq (.reg [oo 30 (cl 15 []), om 6 30]) .ret) .skip)) (.seq (.reg [oo 31 (.ldn 3 (.t 3)), oo 32 (cl 16 [(.t 31)]), om 33 1, oo 34 (cl 17 [(.t 33)]), om 35 2, oo 36 (cl 18 [(.t 35)]), oo 7 (.new [(.int .i64 (0)), .nils, .nils]), ⟨none, (.st 3 (.t 7) (.t 32)), none, []⟩, om 8 34, om 9 36]) (.seq (.reg [oo 38 (.ldn 3 (.t 7)), om 39 8, om 40 9, oo 41 (cl 19 [(.t 38), (.t 39), (.t 40)]), om 37 41, oo 42 (.ext 0 (.t 37)), oo 43 (.ext 1 (.t 37)), oo 44 (.ext 2 (.t 37)), oo 45 (.ext 3 (.t 37)), om 10 42, om 11 43, om 12 44, om 13 45]) (.seq (.reg [oo 47 (.ldn 3 (.t 7)), om 48 8, om 49 9, oo 50 (cl 20 [(.t 47), (.t 48), (.t 49)]), om 46 50, oo 51 (.ext 0 (.t 46)), oo 52 (.ext 1 (.t 46)), om 14 51, om 15 52]) (.seq (.seq (.reg [oo 53 (.ldn 3 (.t 7)), oo 54 (.ldn 3 (.t 3)), oo 55 (cl 21 [(.t 53), (.t 54)]), oo 56 (.un .not (.t 55)), om 57 56, og 58 (.mv (.t 8)) 57 false, og 59 (.mv (.t 1)) 57 false, og 60 (cl 22 [(.t 58), (.t 59)]) 57 false, og 61 (.un .not (.t 60)) 57 false, oo 62 (.pick (.t 57) (.c (.bool true)) (.t 61)), om 63 62, og 64 (.mv (.t 9)) 63 false, og 65 (.mv (.t 2)) 63 false, og 66 (cl 23 [(.t 64), (.t 65)]) 63 false, og 67 (.un .not (.t 66)) 63 false, oo 68 (.pick (.t 63) (.c (.bool true)) (.t 67))]) (.cond (.t 68) (.seq (.reg [oo 6 (.mv (.c (.bool false)))]) .ret) .skip)) (.seq (.reg [oo 69 (.ldn 3 (.t 3)), om 70 1, oo 71 (cl 24 [(.t 69), (.t 70)]), om 16 71]) (.seq (.seq (.reg [om 72 16, oo 73 (.ar .eql (.t 72) (ci 0)), om 74 73, og 75 (.mv (.t 2)) 74 true, og 76 (.mv (.t 1)) 74 true, og 77 (.len (.t 76)) 74 true, og 78 (cl 25 [(.t 75), (.t 77)]) 74 true, og 79 (.un .not (.t 78)) 74 true, oo 80 (.pick (.t 74) (.t 79) (.c (.bool false)))]) (.cond (.t 80) (.reg [oo 16 (.mv (ci 6))]) .skip)) (.seq (.seq (.reg [om 81 16, oo 82 (.ar .neq (.t 81) (ci 0))]) (.cond (.t 82) (.seq (.reg [om 83 13, om 84 16, oo 85 (.ar .eql (.t 83) (.t 84)), om 86 85, og 87 (.mv (.t 15)) 86 true, og 88 (.mv (.t 16)) 86 true, og 89 (.ar .eql (.t 87) (.t 88)) 86 true, oo 90 (.pick (.t 86) (.t 89) (.c (.bool false))), om 91 90, og 92 (.mv (.t 10)) 91 true, og 93 (.ar .eql (.t 92) (ci 0)) 91 true, oo 94 (.pick (.t 91) (.t 93) (.c (.bool false))), om 95 94, og 96 (.mv (.t 11)) 95 true, og 97 (.ar .eql (.t 96) (ci 0)) 95 true, oo 98 (.pick (.t 95) (.t 97) (.c (.bool false))), om 99 98, og 100 (.mv (.t 12)) 99 true, og 101 (.ar .eql (.t 100) (ci 0)) 99 true, oo 102 (.pick (.t 99) (.t 101) (.c (.bool false))), om 103 102, og 104 (.mv (.t 14)) 103 true, og 105 (.len (.t 104)) 103 true, og 106 (.ar .eql (.t 105) (ci 0)) 103 true, oo 107 (.pick (.t 103) (.t 106) (.c (.bool false))), om 108 107, og 109 (cl 15 []) 108 true, oo 110 (.pick (.t 108) (.t 109) (.c (.bool false))), om 6 110]) .ret) .skip)) (.seq (.reg [oo 112 (.ldn 3 (.t 3)), om 113 1, om 114 2, oo 115 (cl 26 [(.t 112), (.t 113), (.t 114)]), om 111 115, oo 116 (.ext 0 (.t 111)), oo 117 (.ext 1 (.t 111)), oo 118 (.ext 2 (.t 111)), om 17 116, om 18 117, om 19 118]) (.seq (.seq (.reg [om 119 13, oo 120 (.ar .neq (.t 119) (ci 0)), om 121 120, og 122 (.mv (.t 15)) 121 false, og 123 (.ar .neq (.t 122) (ci 0)) 121 false, oo 124 (.pick (.t 121) (.c (.bool true)) (.t 123)), om 125 124, og 126 (.mv (.t 10)) 125 false, og 127 (.mv (.t 17)) 125 false, og 128 (.ar .neq (.t 126) (.t 127)) 125 false, oo 129 (.pick (.t 125) (.c (.bool true)) (.t 128)), om 130 129, og 131 (.mv (.t 11)) 130 false, og 132 (.mv (.t 18)) 130 false, og 133 (.ar .neq (.t 131) (.t 132)) 130 false, oo 134 (.pick (.t 130) (.c (.bool true)) (.t 133)), om 135 134, og 136 (.mv (.t 12)) 135 false, og 137 (.mv (.t 19)) 135 false, og 138 (.ar .neq (.t 136) (.t 137)) 135 false, oo 139 (.pick (.t 135) (.c (.bool true)) (.t 138)), om 140 139, og 141 (.mv (.t 14)) 140 false, og 142 (.len (.t 141)) 140 false, og 143 (.fa 0 (.t 3)) 140 false, og 144 (.ld (.t 143)) 140 false, og 145 (.ar .neq (.t 142) (.t 144)) 140 false, oo 146 (.pick (.t 140) (.c (.bool true)) (.t 145))]) (.cond (.t 146) (.seq (.reg [oo 6 (.mv (.c (.bool false)))]) .ret) .skip)) (.seq (.reg [oo 147 (.ldn 3 (.t 3)), om 148 1, om 149 2, oo 150 (cl 27 [(.t 147), (.t 148), (.t 149)]), oo 20 (.new [.nils, .nils]), ⟨none, (.st 2 (.t 20) (.t 150)), none, []⟩]) (.seq (.seq (.reg [oo 21 (.mv (ci 0))]) (.block 0 (.loop 3162122 (.seq (.seq (.reg [om 151 21, oo 152 (.fa 0 (.t 3)), oo 153 (.ld (.t 152)), oo 154 (.ar .lss (.t 151) (.t 153))]) (.cond (.t 154) .skip (.exit 0))) (.seq (.block 1 (.seq (.drw [om 157 14, op 158 (.mv (.t 21)) [0], oo 159 (.ias 1 (.t 157) (.t 158)), oo 160 (.ld (.t 159)), op 161 (.ldn 3 (.t 3)) [0, 1, 2, 3], op 162 (.mv (.t 1)) [0, 1, 2, 3, 4], op 163 (.ldn 2 (.t 20)) [0, 1, 2, 3, 4, 5], op 164 (.mv (.t 21)) [0, 1, 2, 3, 4, 5, 6], op 165 (cl 28 [(.t 161), (.t 162), (.t 163), (.t 164)]) [0, 1, 2, 3], oo 166 (.ar .neq (.t 160) (.t 165))]) (.cond (.t 166) (.seq (.reg [oo 6 (.mv (.c (.bool false)))]) .ret) .skip))) (.reg [om 155 21, oo 156 (.ar .add (.t 155) (ci 1)), om 21 156])))))) (.seq (.reg [oo 167 (cl 15 []), om 6 167]) .ret)))))))))))))), 168, [(.tmp 6)], false, fun _ => none, fun _ _ => none⟩
noncomputable def c4 : CFn := ⟨(.seq (.reg [oo 2 (.box (.t 0)), oo 4 (.mv (.c (.bool false)))]) (.seq (.seq (.reg [oo 13 (.ldn 3 (.t 2)), om 14 1, oo 15 (cl 14 [(.t 13), (.t 14), (ci 5)])]) (.cond (.t 15) (.seq (.reg [oo 16 (cl 15 []), om 4 16]) .ret) .skip)) (.seq (.reg [oo 17 (.ldn 3 (.t 2)), oo 18 (cl 16 [(.t 17)]), om 19 1, oo 20 (cl 17 [(.t 19)]), oo 5 (.new [(.int .i64 (0)), .nils, .nils]), ⟨none, (.st 3 (.t 5) (.t 18)), none, []⟩, om 6 20]) (.seq (.reg [oo 22 (.ldn 3 (.t 5)), om 23 6, oo 24 (cl 29 [(.t 22), (.t 23)]), om 21 24, oo 25 (.ext 0 (.t 21)), oo 26 (.ext 1 (.t 21)), om 7 25, om 8 26]) (.seq (.reg [oo 28 (.ldn 3 (.t 5)), om 29 6, oo 30 (cl 30 [(.t 28), (.t 29)]), om 27 30, oo 31 (.ext 0 (.t 27)), oo 32 (.ext 1 (.t 27)), om 9 31, om 10 32]) (.seq (.seq (.reg [oo 33 (.ldn 3 (.t 5)), oo 34 (.ldn 3 (.t 2)), oo 35 (cl 21 [(.t 33), (.t 34)]), oo 36 (.un .not (.t 35)), om 37 36, og 38 (.mv (.t 6)) 37 false, og 39 (.mv (.t 1)) 37 false, og 40 (cl 22 [(.t 38), (.t 39)]) 37 false, og 41 (.un .not (.t 40)) 37 false, oo 42 (.pick (.t 37) (.c (.bool true)) (.t 41))]) (.cond (.t 42) (.seq (.reg [oo 4 (.mv (.c (.bool false)))]) .ret) .skip)) (.seq (.seq (.reg [oo 43 (.ldn 3 (.t 2)), om 44 1, oo 45 (cl 24 [(.t 43), (.t 44)]), om 11 45]) (.seq (.reg [om 46 11, oo 47 (.ar .neq (.t 46) (ci 0))]) (.cond (.t 47) (.seq (.reg [om 48 8, om 49 11, oo 50 (.ar .eql (.t 48) (.t 49)), om 51 50, og 52 (.mv (.t 10)) 51 true, og 53 (.mv (.t 11)) 51 true, og 54 (.ar .eql (.t 52) (.t 53)) 51 true, oo 55 (.pick (.t 51) (.t 54) (.c (.bool false))), om 56 55, og 57 (.mv (.t 7)) 56 true, og 58 (.len (.t 57)) 56 true, og 59 (.ar .eql (.t 58) (ci 0)) 56 true, oo 60 (.pick (.t 56) (.t 59) (.c (.bool false))), om 61 60, og 62 (.mv (.t 9)) 61 true, og 63 (.ar .eql (.t 62) (ci 0)) 61 true, oo 64 (.pick (.t 61) (.t 63) (.c (.bool false))), om 65 64, og 66 (cl 15 []) 65 true, oo 67 (.pick (.t 65) (.t 66) (.c (.bool false))), om 4 67]) .ret) .skip))) (.seq (.reg [oo 68 (.ldn 3 (.t 2)), om 69 1, oo 70 (.bld [.nils, (.int .i64 (0)), (.int .i64 (0)), (.bool false)] []), oo 71 (cl 31 [(.t 68), (.t 69), (.c .nils), (.t 70)]), oo 12 (.new [.nils, (.int .i64 (0)), (.int .i64 (0)), (.bool false)]), ⟨none, (.st 4 (.t 12) (.t 71)), none, []⟩]) (.seq (.reg [om 72 8, oo 73 (.ar .eql (.t 72) (ci 0)), om 74 73, og 75 (.mv (.t 10)) 74 true, og 76 (.ar .eql (.t 75) (ci 0)) 74 true, oo 77 (.pick (.t 74) (.t 76) (.c (.bool false))), om 78 77, og 79 (.mv (.t 7)) 78 true, og 80 (.fa 0 (.t 12)) 78 true, og 81 (.ld (.t 80)) 78 true, og 82 (cl 23 [(.t 79), (.t 81)]) 78 true, oo 83 (.pick (.t 78) (.t 82) (.c (.bool false))), om 84 83, og 85 (.mv (.t 9)) 84 true, og 86 (.ldn 3 (.t 2)) 84 true, og 87 (.mv (.t 1)) 84 true, og 88 (cl 32 [(.t 86), (.t 87)]) 84 true, og 89 (.ar .eql (.t 85) (.t 88)) 84 true, oo 90 (.pick (.t 84) (.t 89) (.c (.bool false))), om 91 90, og 92 (cl 15 []) 91 true, oo 93 (.pick (.t 91) (.t 92) (.c (.bool false))), om 4 93]) .ret))))))))), 94, [(.tmp 4)], false, fun _ => none, fun _ _ => none⟩
noncomputable def c5 : CFn := ⟨(.seq (.reg [oo 2 (.box (.t 0)), oo 4 (.mv (.c (.bool false)))]) (.seq (.seq (.reg [oo 12 (.ldn 3 (.t 2)), om 13 1, oo 14 (cl 14 [(.t 12), (.t 13), (ci 5)])]) (.cond (.t 14) (.seq (.reg [oo 15 (cl 15 []), om 4 15]) .ret) .skip)) (.seq (.reg [oo 16 (.ldn 3 (.t 2)), oo 17 (cl 16 [(.t 16)]), om 18 1, oo 19 (cl 17 [(.t 18)]), oo 5 (.new [(.int .i64 (0)), .nils, .nils]), ⟨none, (.st 3 (.t 5) (.t 17)), none, []⟩, om 6 19]) (.seq (.reg [oo 21 (.ldn 3 (.t 5)), om 22 6, oo 23 (cl 33 [(.t 21), (.t 22)]), om 20 23, oo 24 (.ext 0 (.t 20)), oo 25 (.ext 1 (.t 20)), om 7 24, om 8 25]) (.seq (.seq (.reg [oo 26 (.ldn 3 (.t 5)), oo 27 (.ldn 3 (.t 2)), oo 28 (cl 21 [(.t 26), (.t 27)]), oo 29 (.un .not (.t 28)), om 30 29, og 31 (.mv (.t 6)) 30 false, og 32 (.mv (.t 1)) 30 false, og 33 (cl 22 [(.t 31), (.t 32)]) 30 false, og 34 (.un .not (.t 33)) 30 false, oo 35 (.pick (.t 30) (.c (.bool true)) (.t 34))]) (.cond (.t 35) (.seq (.reg [oo 4 (.mv (.c (.bool false)))]) .ret) .skip)) (.seq (.seq (.reg [oo 36 (.ldn 3 (.t 2)), om 37 1, oo 38 (cl 24 [(.t 36), (.t 37)]), om 9 38]) (.seq (.reg [om 39 9, oo 40 (.ar .neq (.t 39) (ci 0))]) (.cond (.t 40) (.seq (.reg [om 41 8, om 42 9, oo 43 (.ar .eql (.t 41) (.t 42)), om 44 43, og 45 (.mv (.t 7)) 44 true, og 46 (.len (.t 45)) 44 true, og 47 (.ar .eql (.t 46) (ci 0)) 44 true, oo 48 (.pick (.t 44) (.t 47) (.c (.bool false))), om 49 48, og 50 (cl 15 []) 49 true, oo 51 (.pick (.t 49) (.t 50) (.c (.bool false))), om 4 51]) .ret) .skip))) (.seq (.reg [oo 53 (.ldn 3 (.t 2)), om 54 1, oo 55 (cl 34 [(.t 53), (.t 54)]), om 52 55, oo 56 (.ext 0 (.t 52)), oo 57 (.ext 1 (.t 52)), om 10 56, om 11 57]) (.seq (.seq (.reg [om 58 11, oo 59 (.un .not (.t 58))]) (.cond (.t 59) (.seq (.reg [om 60 8, oo 61 (.ar .eql (.t 60) (ci 7)), om 62 61, og 63 (.mv (.t 7)) 62 true, og 64 (.len (.t 63)) 62 true, og 65 (.ar .eql (.t 64) (ci 0)) 62 true, oo 66 (.pick (.t 62) (.t 65) (.c (.bool false))), om 67 66, og 68 (cl 15 []) 67 true, oo 69 (.pick (.t 67) (.t 68) (.c (.bool false))), om 4 69]) .ret) .skip)) (.seq (.reg [om 70 8, oo 71 (.ar .eql (.t 70) (ci 0)), om 72 71, og 73 (.mv (.t 7)) 72 true, og 74 (.mv (.t 10)) 72 true, og 75 (cl 23 [(.t 73), (.t 74)]) 72 true, oo 76 (.pick (.t 72) (.t 75) (.c (.bool false))), om 77 76, og 78 (cl 15 []) 77 true, oo 79 (.pick (.t 77) (.t 78) (.c (.bool false))), om 4 79]) .ret))))))))), 80, [(.tmp 4)], false, fun _ => none, fun _ _ => none⟩
noncomputable def c14 : CFn := ⟨(.seq (.reg [oo 3 (.box (.t 0)), oo 6 (.mv (.c (.bool false)))]) (.seq (.seq (.reg [oo 7 (.mv (ci 0))]) (.block 0 (.loop 142 (.seq (.seq (.reg [om 9 7, oo 10 (.fa 1 (.t 3)), oo 11 (.ld (.t 10)), oo 12 (.len (.t 11)), oo 13 (.ar .lss (.t 9) (.t 12)), om 14 13, og 15 (.mv (.t 7)) 14 true, og 16 (.ar .lss (.t 15) (ci 11)) 14 true, oo 17 (.pick (.t 14) (.t 16) (.c (.bool false)))]) (.cond (.t 17) .skip (.exit 0))) (.seq (.block 1 (.seq (.reg [oo 20 (.fa 1 (.t 3)), oo 21 (.ld (.t 20)), om 22 7, oo 23 (.ias 1 (.t 21) (.t 22)), oo 24 (.ld (.t 23)), oo 25 (.len (.t 24)), oo 26 (.ar .gtr (.t 25) (ci 10))]) (.cond (.t 26) (.seq (.reg [oo 6 (.mv (.c (.bool true)))]) .ret) .skip))) (.reg [om 18 7, oo 19 (.ar .add (.t 18) (ci 1)), om 7 19])))))) (.seq (.seq (.reg [oo 8 (.mv (ci 0))]) (.block 2 (.loop 270 (.seq (.seq (.reg [om 27 8, om 28 1, oo 29 (.len (.t 28)), oo 30 (.ar .lss (.t 27) (.t 29)), om 31 30, og 32 (.mv (.t 8)) 31 true, og 33 (.ar .lss (.t 32) (ci 21)) 31 true, oo 34 (.pick (.t 31) (.t 33) (.c (.bool false)))]) (.cond (.t 34) .skip (.exit 2))) (.seq (.block 3 (.seq (.reg [om 37 1, om 38 8, oo 39 (.ias 4 (.t 37) (.t 38)), oo 40 (.fa 3 (.t 39)), oo 41 (.ld (.t 40)), oo 42 (.len (.t 41)), oo 43 (.ar .gtr (.t 42) (ci 10))]) (.cond (.t 43) (.seq (.reg [oo 6 (.mv (.c (.bool true)))]) .ret) .skip))) (.reg [om 35 8, oo 36 (.ar .add (.t 35) (ci 1)), om 8 36])))))) (.seq (.reg [oo 44 (.fa 1 (.t 3)), oo 45 (.ld (.t 44)), oo 46 (.len (.t 45)), oo 47 (.ar .gtr (.t 46) (ci 10)), om 48 47, og 49 (.fa 2 (.t 3)) 48 false, og 50 (.ld (.t 49)) 48 false, og 51 (.len (.t 50)) 48 false, og 52 (.ar .gtr (.t 51) (ci 20)) 48 false, oo 53 (.pick (.t 48) (.c (.bool true)) (.t 52)), om 54 53, og 55 (.mv (.t 1)) 54 false, og 56 (.len (.t 55)) 54 false, og 57 (.ar .gtr (.t 56) (ci 20)) 54 false, oo 58 (.pick (.t 54) (.c (.bool true)) (.t 57)), om 59 58, og 60 (.mv (.t 1)) 59 false, og 61 (.len (.t 60)) 59 false, og 62 (.mv (.t 2)) 59 false, og 63 (.ar .gtr (.t 61) (.t 62)) 59 false, og 64 (.mv (.t 63)) 59 false, og 65 (.mv (.t 1)) 64 true, og 66 (.len (.t 65)) 64 true, og 67 (.ar .leq (.t 66) (ci 6)) 64 true, og 68 (.pick (.t 64) (.t 67) (.c (.bool false))) 59 false, oo 69 (.pick (.t 59) (.c (.bool true)) (.t 68)), om 6 69]) .ret)))), 70, [(.tmp 6)], false, fun _ => none, fun _ _ => none⟩
noncomputable def c15 : CFn := ⟨(.seq (.reg [oo 0 (.mv (.c (.bool false)))]) (.seq (.reg [oo 22 (cl 57 [(.c .nils)]), oo 23 (cl 58 [(ci 90)]), oo 24 (.bsl 1 3 [(.int .i64 (0))] [(0, (ci 1)), (1, (ci 0)), (2, (ci 2))]), oo 25 (cl 43 [(.t 22), (.t 23), (.t 24)]), om 21 25, oo 26 (.ext 0 (.t 21)), oo 27 (.ext 1 (.t 21)), om 1 26, om 2 27]) (.seq (.reg [oo 29 (cl 57 [(.c .nils)]), oo 30 (cl 58 [(ci 90)]), oo 31 (.bsl 1 3 [(.int .i64 (0))] [(0, (ci 1)), (1, (ci 0)), (2, (ci 2))]), oo 32 (cl 19 [(.t 29), (.t 30), (.t 31)]), om 28 32, oo 33 (.ext 0 (.t 28)), oo 34 (.ext 1 (.t 28)), oo 35 (.ext 2 (.t 28)), oo 36 (.ext 3 (.t 28)), om 3 33, om 4 34, om 5 35, om 6 36]) (.seq (.reg [oo 38 (cl 57 [(.c .nils)]), oo 39 (cl 58 [(ci 90)]), oo 40 (cl 29 [(.t 38), (.t 39)]), om 37 40, oo 41 (.ext 0 (.t 37)), oo 42 (.ext 1 (.t 37)), om 7 41, om 8 42]) (.seq (.reg [oo 44 (cl 57 [(.c .nils)]), oo 45 (cl 58 [(ci 90)]), oo 46 (cl 33 [(.t 44), (.t 45)]), om 43 46, oo 47 (.ext 0 (.t 43)), oo 48 (.ext 1 (.t 43)), om 9 47, om 10 48]) (.seq (.reg [oo 50 (cl 57 [(.c .nils)]), oo 51 (cl 58 [(ci 90)]), oo 52 (cl 30 [(.t 50), (.t 51)]), om 49 52, oo 53 (.ext 0 (.t 49)), oo 54 (.ext 1 (.t 49)), om 11 53, om 12 54]) (.seq (.reg [oo 56 (cl 57 [(.c .nils)]), oo 57 (cl 58 [(ci 90)]), oo 58 (.bsl 1 3 [(.int .i64 (0))] [(0, (ci 0)), (1, (ci 1)), (2, (ci 2))]), oo 59 (cl 20 [(.t 56), (.t 57), (.t 58)]), om 55 59, oo 60 (.ext 0 (.t 55)), oo 61 (.ext 1 (.t 55)), om 13 60, om 14 61]) (.seq (.reg [oo 63 (cl 57 [(.c .nils)]), oo 64 (cl 58 [(ci 100)]), oo 65 (.bsl 1 3 [(.int .i64 (0))] [(0, (ci 0)), (1, (ci 1)), (2, (ci 2))]), oo 66 (cl 38 [(.t 63), (.t 64), (.t 65), (ci 0)]), om 62 66, oo 67 (.ext 0 (.t 62)), oo 68 (.ext 1 (.t 62)), om 15 67, om 16 68]) (.seq (.reg [oo 70 (cl 57 [(.c .nils)]), oo 71 (cl 58 [(ci 100)]), oo 72 (.bsl 1 3 [(.int .i64 (0))] [(0, (ci 0)), (1, (ci 1)), (2, (ci 2))]), oo 73 (cl 38 [(.t 70), (.t 71), (.t 72), (ci 1)]), om 69 73, oo 74 (.ext 0 (.t 69)), oo 75 (.ext 1 (.t 69)), om 17 74, om 18 75]) (.seq (.reg [oo 77 (cl 57 [(.c .nils)]), oo 78 (cl 58 [(ci 100)]), oo 79 (.bsl 1 3 [(.int .i64 (0))] [(0, (ci 0)), (1, (ci 1)), (2, (ci 2))]), oo 80 (.bld [(.int .i64 (0)), (.int .i64 (0)), (.int .i64 (0))] [(0, (1, (ci 1))), (1, (1, (ci 60))), (2, (1, (ci 70)))]), oo 81 (cl 35 [(.t 77), (.t 78), (.t 79), (.t 80)]), om 76 81, oo 82 (.ext 0 (.t 76)), oo 83 (.ext 1 (.t 76)), om 19 82, om 20 83]) (.seq (.seq (.reg [om 84 2, oo 85 (.ar .neq (.t 84) (ci 0)), om 86 85, og 87 (.mv (.t 6)) 86 false, og 88 (.ar .neq (.t 87) (ci 0)) 86 false, oo 89 (.pick (.t 86) (.c (.bool true)) (.t 88)), om 90 89, og 91 (.mv (.t 8)) 90 false, og 92 (.ar .neq (.t 91) (ci 0)) 90 false, oo 93 (.pick (.t 90) (.c (.bool true)) (.t 92)), om 94 93, og 95 (.mv (.t 10)) 94 false, og 96 (.ar .neq (.t 95) (ci 0)) 94 false, oo 97 (.pick (.t 94) (.c (.bool true)) (.t 96)), om 98 97, og 99 (.mv (.t 12)) 98 false, og 100 (.ar .neq (.t 99) (ci 0)) 98 false, oo 101 (.pick (.t 98) (.c (.bool true)) (.t 100)), om 102 101, og 103 (.mv (.t 14)) 102 false, og 104 (.ar .neq (.t 103) (ci 0)) 102 false, oo 105 (.pick (.t 102) (.c (.bool true)) (.t 104)), om 106 105, og 107 (.mv (.t 16)) 106 false, og 108 (.ar .neq (.t 107) (ci 0)) 106 false, oo 109 (.pick (.t 106) (.c (.bool true)) (.t 108)), om 110 109, og 111 (.mv (.t 18)) 110 false, og 112 (.ar .neq (.t 111) (ci 0)) 110 false, oo 113 (.pick (.t 110) (.c (.bool true)) (.t 112)), om 114 113, og 115 (.mv (.t 20)) 114 false, og 116 (.ar .neq (.t 115) (ci 0)) 114 false, oo 117 (.pick (.t 114) (.c (.bool true)) (.t 116)), om 118 117, og 119 (.mv (.t 1)) 118 false, og 120 (.len (.t 119)) 118 false, og 121 (.ar .neq (.t 120) (ci 3)) 118 false, oo 122 (.pick (.t 118) (.c (.bool true)) (.t 121))]) (.cond (.t 122) (.seq (.reg [oo 0 (.mv (.c (.bool false)))]) .ret) .skip)) (.seq (.seq (.reg [om 123 1, oo 124 (.ias 1 (.t 123) (ci 0)), oo 125 (.ld (.t 124)), oo 126 (.bsl 1 2 [(.int .i64 (0))] [(0, (ci 40)), (1, (ci 70))]), oo 127 (cl 23 [(.t 125), (.t 126)]), oo 128 (.un .not (.t 127)), om 129 128, og 130 (.mv (.t 1)) 129 false, og 131 (.ias 1 (.t 130) (ci 1)) 129 false, og 132 (.ld (.t 131)) 129 false, og 133 (.bsl 1 2 [(.int .i64 (0))] [(0, (ci 0)), (1, (ci 20))]) 129 false, og 134 (cl 23 [(.t 132), (.t 133)]) 129 false, og 135 (.un .not (.t 134)) 129 false, oo 136 (.pick (.t 129) (.c (.bool true)) (.t 135)), om 137 136, og 138 (.mv (.t 1)) 137 false, og 139 (.ias 1 (.t 138) (ci 2)) 137 false, og 140 (.ld (.t 139)) 137 false, og 141 (.bsl 1 2 [(.int .i64 (0))] [(0, (ci 70)), (1, (ci 80))]) 137 false, og 142 (cl 23 [(.t 140), (.t 141)]) 137 false, og 143 (.un .not (.t 142)) 137 false, oo 144 (.pick (.t 137) (.c (.bool true)) (.t 143)), om 145 144, og 146 (.mv (.t 3)) 145 false, og 147 (.ar .neq (.t 146) (ci 1)) 145 false, oo 148 (.pick (.t 145) (.c (.bool true)) (.t 147)), om 149 148, og 150 (.mv (.t 4)) 149 false, og 151 (.ar .neq (.t 150) (ci 10)) 149 false, oo 152 (.pick (.t 149) (.c (.bool true)) (.t 151)), om 153 152, og 154 (.mv (.t 5)) 153 false, og 155 (.ar .neq (.t 154) (ci 110)) 153 false, oo 156 (.pick (.t 153) (.c (.bool true)) (.t 155)), om 157 156, og 158 (.mv (.t 7)) 157 false, og 159 (.bsl 1 3 [(.int .i64 (0))] [(0, (ci 0)), (1, (ci 1)), (2, (ci 2))]) 157 false, og 160 (cl 23 [(.t 158), (.t 159)]) 157 false, og 161 (.un .not (.t 160)) 157 false, oo 162 (.pick (.t 157) (.c (.bool true)) (.t 161))]) (.cond (.t 162) (.seq (.reg [oo 0 (.mv (.c (.bool false)))]) .ret) .skip)) (.seq (.reg [om 163 9, oo 164 (.bsl 1 2 [(.int .i64 (0))] [(0, (ci 0)), (1, (ci 1))]), oo 165 (cl 23 [(.t 163), (.t 164)]), om 166 165, og 167 (.mv (.t 11)) 166 true, og 168 (.ar .eql (.t 167) (ci 80)) 166 true, oo 169 (.pick (.t 166) (.t 168) (.c (.bool false))), om 170 169, og 171 (.mv (.t 13)) 170 true, og 172 (.bsl 1 2 [(.int .i64 (0))] [(0, (ci 2)), (1, (ci 1))]) 170 true, og 173 (cl 23 [(.t 171), (.t 172)]) 170 true, oo 174 (.pick (.t 170) (.t 173) (.c (.bool false))), om 175 174, og 176 (.mv (.t 15)) 175 true, og 177 (.ar .eql (.t 176) (ci 0)) 175 true, oo 178 (.pick (.t 175) (.t 177) (.c (.bool false))), om 179 178, og 180 (.mv (.t 17)) 179 true, og 181 (.ar .eql (.t 180) (ci 60)) 179 true, oo 182 (.pick (.t 179) (.t 181) (.c (.bool false))), om 183 182, og 184 (.mv (.t 19)) 183 true, og 185 (.bsl 1 2 [(.int .i64 (0))] [(0, (ci 0)), (1, (ci 1))]) 183 true, og 186 (cl 23 [(.t 184), (.t 185)]) 183 true, oo 187 (.pick (.t 183) (.t 186) (.c (.bool false))), om 0 187]) .ret))))))))))))), 188, [(.tmp 0)], false, fun _ => none, fun _ _ => none⟩
noncomputable def c16 : CFn := ⟨(.seq (.reg [oo 1 (.box (.t 0)), oo 2 (.new [(.int .i64 (0)), .nils, .nils])]) (.seq (.reg [oo 3 (.ldn 3 (.t 1)), oo 4 (cl 59 [(.t 3)]), ⟨none, (.st 3 (.t 2) (.t 4)), none, []⟩]) .ret)), 5, [(.ldn 3 2)], false, fun _ => none, fun _ _ => none⟩
noncomputable def c17 : CFn := ⟨(.seq (.reg [oo 2 (.mv (.c .nils))]) (.seq (.reg [om 3 0, oo 4 (cl 60 [(.t 3)]), om 2 4]) .ret)), 5, [(.tmp 2)], false, fun _ => none, fun _ _ => none⟩
noncomputable def c19 : CFn := ⟨(.seq (.reg [oo 3 (.box (.t 0)), oo 6 (.mv (ci 0)), oo 7 (.mv (ci 0)), oo 8 (.mv (ci 0)), oo 9 (.mv (ci 0))]) (.seq (.reg [oo 15 (.ldn 3 (.t 3)), om 16 1, om 17 2, oo 18 (cl 61 [(.t 15), (.t 16), (.t 17)]), om 14 18, oo 19 (.ext 0 (.t 14)), oo 20 (.ext 1 (.t 14)), oo 10 (.new [(.int .i64 (0)), .nils, .nils, .nils]), ⟨none, (.st 4 (.t 10) (.t 19)), none, []⟩, om 9 20]) (.seq (.seq (.reg [om 21 9, oo 22 (.ar .neq (.t 21) (ci 0))]) (.cond (.t 22) (.seq (.reg [om 23 9, oo 6 (.mv (ci 0)), oo 7 (.mv (ci 0)), oo 8 (.mv (ci 0)), om 9 23]) .ret) .skip)) (.seq (.reg [oo 11 (.new [(.int .i64 (0)), (.int .i64 (0))])]) (.seq (.seq (.reg [oo 24 (.ldn 4 (.t 10)), om 25 2, oo 26 (cl 62 [(.t 24), (.t 25)]), oo 27 (.part 1 (.t 26)), oo 28 (.len (.t 27)), oo 29 (.mv (ci 0))]) (.block 0 (.loop 939527174 (.seq (.reg [oo 30 (.ar .lss (.t 29) (.t 28))]) (.seq (.cond (.t 30) .skip (.exit 0)) (.seq (.block 1 (.seq (.reg [om 31 29, oo 32 (.ias 1 (.t 27) (.t 29)), oo 33 (.ld (.t 32)), om 12 31, om 13 33]) (.drw [oo 34 (.ldn 2 (.t 11)), op 35 (.mv (.t 1)) [0], op 36 (.mv (.t 12)) [0, 1], op 37 (.ias 4 (.t 35) (.t 36)) [0], op 38 (.ldn 4 (.t 37)) [0], op 39 (.mv (.t 13)) [0, 1, 2, 3, 4], oo 40 (cl 63 [(.t 34), (.t 38), (.t 39)]), ⟨none, (.st 2 (.t 11) (.t 40)), none, []⟩]))) (.reg [oo 41 (.ar .add (.t 29) (ci 1)), om 29 41]))))))) (.seq (.drw [oo 42 (.ldn 4 (.t 10)), op 43 (.mv (.t 2)) [0], oo 44 (cl 64 [(.t 42), (.t 43)]), oo 45 (.len (.t 44)), op 46 (.fa 0 (.t 11)) [0, 1, 2, 3], op 47 (.ld (.t 46)) [0, 1, 2, 3], op 48 (.fa 1 (.t 11)) [0, 1, 2, 3, 4, 5], op 49 (.ld (.t 48)) [0, 1, 2, 3, 4, 5], op 6 (.mv (.t 45)) [4, 5, 6, 7], op 7 (.mv (.t 47)) [6, 7], om 8 49, oo 9 (.mv (ci 0))]) .ret)))))), 50, [(.tmp 6), (.tmp 7), (.tmp 8), (.tmp 9)], false, fun _ => none, fun _ _ => none⟩
noncomputable def c20 : CFn := ⟨(.seq (.reg [oo 3 (.box (.t 0)), oo 6 (.mv (.c .nils)), oo 7 (.mv (ci 0))]) (.seq (.reg [oo 20 (.ldn 3 (.t 3)), om 21 1, om 22 2, oo 23 (cl 61 [(.t 20), (.t 21), (.t 22)]), om 19 23, oo 24 (.ext 0 (.t 19)), oo 25 (.ext 1 (.t 19)), oo 8 (.new [(.int .i64 (0)), .nils, .nils, .nils]), ⟨none, (.st 4 (.t 8) (.t 24)), none, []⟩, om 7 25]) (.seq (.seq (.reg [om 26 7, oo 27 (.ar .neq (.t 26) (ci 0))]) (.cond (.t 27) (.seq (.reg [om 28 7, oo 6 (.mv (.c .nils)), om 7 28]) .ret) .skip)) (.seq (.reg [oo 29 (.ldn 4 (.t 8)), om 30 2, oo 31 (cl 62 [(.t 29), (.t 30)]), oo 32 (.part 0 (.t 31)), om 9 32]) (.seq (.seq (.reg [oo 33 (.fa 0 (.t 3)), oo 34 (.ld (.t 33)), oo 35 (.mv (ci 0))]) (.block 0 (.loop 51539608130 (.seq (.reg [oo 36 (.ar .lss (.t 35) (.t 34))]) (.seq (.cond (.t 36) .skip (.exit 0)) (.seq (.block 1 (.seq (.reg [om 37 35, om 10 37]) (.seq (.reg [oo 11 (.mv (.c .nils))]) (.seq (.seq (.reg [om 38 1, oo 39 (.len (.t 38)), oo 40 (.mv (ci 0))]) (.block 2 (.loop 1975684959810 (.seq (.reg [oo 41 (.ar .lss (.t 40) (.t 39))]) (.seq (.cond (.t 41) .skip (.exit 2)) (.seq (.block 3 (.seq (.reg [om 42 40, oo 43 (.ias 4 (.t 38) (.t 40)), oo 44 (.ldn 4 (.t 43)), oo 13 (.new [(.int .i64 (0)), (.int .i64 (0)), (.int .i64 (0)), .nils]), om 12 42, ⟨none, (.st 4 (.t 13) (.t 44)), none, []⟩]) (.seq (.reg [oo 45 (.fa 1 (.t 13)), oo 46 (.ld (.t 45)), om 14 46]) (.seq (.seq (.reg [om 47 10, oo 48 (.ar .gtr (.t 47) (ci 0))]) (.cond (.t 48) (.drw [om 49 9, op 50 (.mv (.t 12)) [0], oo 51 (.ias 1 (.t 49) (.t 50)), oo 52 (.ld (.t 51)), op 53 (.mv (.t 10)) [0, 1, 2, 3], op 54 (.ar .sub (.t 53) (ci 1)) [0, 1, 2, 3], oo 55 (.ias 1 (.t 52) (.t 54)), oo 56 (.ld (.t 55)), op 57 (.fa 3 (.t 13)) [0, 1, 2, 3, 4, 5, 6, 7], op 58 (.ld (.t 57)) [0, 1, 2, 3, 4, 5, 6, 7], op 59 (.mv (.t 10)) [0, 1, 2, 3, 4, 5, 6, 7, 8, 9], op 60 (.ar .sub (.t 59) (ci 1)) [0, 1, 2, 3, 4, 5, 6, 7, 8, 9], op 61 (.ias 1 (.t 58) (.t 60)) [0, 1, 2, 3, 4, 5, 6, 7], op 62 (.ld (.t 61)) [0, 1, 2, 3, 4, 5, 6, 7], oo 63 (.ar .add (.t 56) (.t 62)), om 14 63]) .skip)) (.seq (.reg [oo 64 (.fa 3 (.t 13)), oo 65 (.ld (.t 64)), om 66 10, oo 67 (.ias 1 (.t 65) (.t 66)), oo 68 (.ld (.t 67)), oo 69 (.ar .gtr (.t 68) (ci 0)), om 70 69, og 71 (.mv (.t 14)) 70 true, og 72 (.mv (.t 9)) 70 true, og 73 (.mv (.t 12)) 70 true, og 74 (.ias 1 (.t 72) (.t 73)) 70 true, og 75 (.ld (.t 74)) 70 true, og 76 (.mv (.t 10)) 70 true, og 77 (.ias 1 (.t 75) (.t 76)) 70 true, og 78 (.ld (.t 77)) 70 true, og 79 (.ar .lss (.t 71) (.t 78)) 70 true, oo 80 (.pick (.t 70) (.t 79) (.c (.bool false)))]) (.cond (.t 80) (.reg [om 81 11, om 82 14, oo 83 (.bld [(.int .i64 (0)), (.int .i64 (0))] [(0, (1, (.t 82))), (1, (1, (ci 1)))]), om 84 9, om 85 12, oo 86 (.ias 1 (.t 84) (.t 85)), oo 87 (.ld (.t 86)), om 88 10, oo 89 (.ias 1 (.t 87) (.t 88)), oo 90 (.ld (.t 89)), oo 91 (.bld [(.int .i64 (0)), (.int .i64 (0))] [(0, (1, (.t 90))), (1, (1, (ci (-1))))]), oo 92 (.bsl 2 2 [(.int .i64 (0)), (.int .i64 (0))] [(0, (.t 83)), (1, (.t 91))]), oo 93 (.app 2 (.t 81) (.t 92)), om 11 93]) .skip)))))) (.reg [oo 94 (.ar .add (.t 40) (ci 1)), om 40 94]))))))) (.seq (.reg [om 95 11, oo 96 (cl 65 [(.t 95), (.c (.fn 66 [] []))])]) (.seq (.reg [oo 15 (.mv (ci 0)), oo 16 (.mv (ci 0))]) (.seq (.seq (.reg [om 97 11, oo 98 (.len (.t 97)), oo 99 (.mv (ci 0))]) (.block 4 (.loop 1109194275199700726361155011138 (.seq (.reg [oo 100 (.ar .lss (.t 99) (.t 98))]) (.seq (.cond (.t 100) .skip (.exit 4)) (.seq (.block 5 (.seq (.reg [oo 101 (.ias 2 (.t 97) (.t 99)), oo 102 (.ldn 2 (.t 101)), oo 18 (.new [(.int .i64 (0)), (.int .i64 (0))]), ⟨none, (.st 2 (.t 18) (.t 102)), none, []⟩]) (.seq (.reg [om 103 15, oo 104 (.fa 1 (.t 18)), oo 105 (.ld (.t 104)), oo 106 (.ar .add (.t 103) (.t 105)), om 15 106]) (.reg [om 107 16, om 108 15, oo 109 (.mx [(.t 107), (.t 108)]), om 16 109])))) (.reg [oo 110 (.ar .add (.t 99) (ci 1)), om 99 110]))))))) (.reg [om 111 6, om 112 16, oo 113 (.bsl 1 1 [(.int .i64 (0))] [(0, (.t 112))]), oo 114 (.app 1 (.t 111) (.t 113)), om 6 114])))))))) (.reg [oo 115 (.ar .add (.t 35) (ci 1)), om 35 115]))))))) (.seq (.reg [om 116 6, om 6 116, oo 7 (.mv (ci 0))]) .ret)))))), 117, [(.tmp 6), (.tmp 7)], false, fun _ => none, fun _ _ => none⟩
noncomputable def c21 : CFn := ⟨(.seq (.reg [oo 2 (.box (.t 0)), oo 3 (.box (.t 1)), oo 4 (.mv (.c (.bool false)))]) (.seq (.seq (.reg [oo 7 (.fa 0 (.t 2)), oo 8 (.ld (.t 7)), oo 9 (.fa 0 (.t 3)), oo 10 (.ld (.t 9)), oo 11 (.ar .neq (.t 8) (.t 10)), om 12 11, og 13 (.fa 1 (.t 2)) 12 false, og 14 (.ld (.t 13)) 12 false, og 15 (.len (.t 14)) 12 false, og 16 (.fa 1 (.t 3)) 12 false, og 17 (.ld (.t 16)) 12 false, og 18 (.len (.t 17)) 12 false, og 19 (.ar .neq (.t 15) (.t 18)) 12 false, oo 20 (.pick (.t 12) (.c (.bool true)) (.t 19)), om 21 20, og 22 (.fa 2 (.t 2)) 21 false, og 23 (.ld (.t 22)) 21 false, og 24 (.len (.t 23)) 21 false, og 25 (.fa 2 (.t 3)) 21 false, og 26 (.ld (.t 25)) 21 false, og 27 (.len (.t 26)) 21 false, og 28 (.ar .neq (.t 24) (.t 27)) 21 false, oo 29 (.pick (.t 21) (.c (.bool true)) (.t 28))]) (.cond (.t 29) (.seq (.reg [oo 4 (.mv (.c (.bool false)))]) .ret) .skip)) (.seq (.seq (.reg [oo 5 (.mv (ci 0))]) (.block 0 (.loop 44 (.seq (.seq (.reg [om 30 5, oo 31 (.fa 1 (.t 2)), oo 32 (.ld (.t 31)), oo 33 (.len (.t 32)), oo 34 (.ar .lss (.t 30) (.t 33))]) (.cond (.t 34) .skip (.exit 0))) (.seq (.block 1 (.seq (.drw [oo 37 (.fa 1 (.t 2)), oo 38 (.ld (.t 37)), op 39 (.mv (.t 5)) [0, 1], oo 40 (.ias 1 (.t 38) (.t 39)), oo 41 (.ld (.t 40)), op 42 (.fa 1 (.t 3)) [0, 1, 2, 3, 4], op 43 (.ld (.t 42)) [0, 1, 2, 3, 4], op 44 (.mv (.t 5)) [0, 1, 2, 3, 4, 5, 6], op 45 (.ias 1 (.t 43) (.t 44)) [0, 1, 2, 3, 4], op 46 (.ld (.t 45)) [0, 1, 2, 3, 4], oo 47 (cl 23 [(.t 41), (.t 46)]), oo 48 (.un .not (.t 47))]) (.cond (.t 48) (.seq (.reg [oo 4 (.mv (.c (.bool false)))]) .ret) .skip))) (.reg [om 35 5, oo 36 (.ar .add (.t 35) (ci 1)), om 5 36])))))) (.seq (.seq (.reg [oo 6 (.mv (ci 0))]) (.block 2 (.loop 76 (.seq (.seq (.reg [om 49 6, oo 50 (.fa 2 (.t 2)), oo 51 (.ld (.t 50)), oo 52 (.len (.t 51)), oo 53 (.ar .lss (.t 49) (.t 52))]) (.cond (.t 53) .skip (.exit 2))) (.seq (.block 3 (.seq (.drw [oo 56 (.fa 2 (.t 2)), oo 57 (.ld (.t 56)), op 58 (.mv (.t 6)) [0, 1], oo 59 (.ias 3 (.t 57) (.t 58)), oo 60 (.ldn 3 (.t 59)), op 61 (.fa 2 (.t 3)) [0, 1, 2, 3, 4], op 62 (.ld (.t 61)) [0, 1, 2, 3, 4], op 63 (.mv (.t 6)) [0, 1, 2, 3, 4, 5, 6], op 64 (.ias 3 (.t 62) (.t 63)) [0, 1, 2, 3, 4], op 65 (.ldn 3 (.t 64)) [0, 1, 2, 3, 4], oo 66 (.eqv true 61 (.tmp 60) (.tmp 65) (.t 60) (.t 65))]) (.cond (.t 66) (.seq (.reg [oo 4 (.mv (.c (.bool false)))]) .ret) .skip))) (.reg [om 54 6, oo 55 (.ar .add (.t 54) (ci 1)), om 6 55])))))) (.seq (.reg [oo 4 (.mv (.c (.bool true)))]) .ret))))), 67, [(.tmp 4)], false, fun _ => none, fun _ _ => none⟩
noncomputable def c22 : CFn := ⟨(.seq (.reg [oo 4 (.mv (.c (.bool false)))]) (.seq (.seq (.reg [om 6 0, oo 7 (.len (.t 6)), om 8 1, oo 9 (.len (.t 8)), oo 10 (.ar .neq (.t 7) (.t 9))]) (.cond (.t 10) (.seq (.reg [oo 4 (.mv (.c (.bool false)))]) .ret) .skip)) (.seq (.seq (.reg [oo 5 (.mv (ci 0))]) (.block 0 (.loop 35 (.seq (.seq (.reg [om 11 5, om 12 0, oo 13 (.len (.t 12)), oo 14 (.ar .lss (.t 11) (.t 13))]) (.cond (.t 14) .skip (.exit 0))) (.seq (.block 1 (.seq (.drw [om 17 0, op 18 (.mv (.t 5)) [0], oo 19 (.ias 4 (.t 17) (.t 18)), oo 20 (.fa 0 (.t 19)), oo 21 (.ld (.t 20)), op 22 (.mv (.t 1)) [0, 1, 2, 3, 4], op 23 (.mv (.t 5)) [0, 1, 2, 3, 4, 5], op 24 (.ias 4 (.t 22) (.t 23)) [0, 1, 2, 3, 4], op 25 (.fa 0 (.t 24)) [0, 1, 2, 3, 4], op 26 (.ld (.t 25)) [0, 1, 2, 3, 4], oo 27 (.ar .neq (.t 21) (.t 26)), om 28 27, og 29 (.mv (.t 0)) 28 false, ⟨(some 30), (.mv (.t 5)), (some (28, false)), [12]⟩, og 31 (.ias 4 (.t 29) (.t 30)) 28 false, og 32 (.fa 1 (.t 31)) 28 false, og 33 (.ld (.t 32)) 28 false, ⟨(some 34), (.mv (.t 1)), (some (28, false)), [12, 13, 14, 15, 16]⟩, ⟨(some 35), (.mv (.t 5)), (some (28, false)), [12, 13, 14, 15, 16, 17]⟩, ⟨(some 36), (.ias 4 (.t 34) (.t 35)), (some (28, false)), [12, 13, 14, 15, 16]⟩, ⟨(some 37), (.fa 1 (.t 36)), (some (28, false)), [12, 13, 14, 15, 16]⟩, ⟨(some 38), (.ld (.t 37)), (some (28, false)), [12, 13, 14, 15, 16]⟩, og 39 (.ar .neq (.t 33) (.t 38)) 28 false, oo 40 (.pick (.t 28) (.c (.bool true)) (.t 39)), om 41 40, og 42 (.mv (.t 0)) 41 false, ⟨(some 43), (.mv (.t 5)), (some (41, false)), [25]⟩, og 44 (.ias 4 (.t 42) (.t 43)) 41 false, og 45 (.fa 2 (.t 44)) 41 false, og 46 (.ld (.t 45)) 41 false, ⟨(some 47), (.mv (.t 1)), (some (41, false)), [25, 26, 27, 28, 29]⟩, ⟨(some 48), (.mv (.t 5)), (some (41, false)), [25, 26, 27, 28, 29, 30]⟩, ⟨(some 49), (.ias 4 (.t 47) (.t 48)), (some (41, false)), [25, 26, 27, 28, 29]⟩, ⟨(some 50), (.fa 2 (.t 49)), (some (41, false)), [25, 26, 27, 28, 29]⟩, ⟨(some 51), (.ld (.t 50)), (some (41, false)), [25, 26, 27, 28, 29]⟩, og 52 (.ar .neq (.t 46) (.t 51)) 41 false, oo 53 (.pick (.t 41) (.c (.bool true)) (.t 52)), om 54 53, og 55 (.mv (.t 0)) 54 false, ⟨(some 56), (.mv (.t 5)), (some (54, false)), [38]⟩, og 57 (.ias 4 (.t 55) (.t 56)) 54 false, og 58 (.fa 3 (.t 57)) 54 false, og 59 (.ld (.t 58)) 54 false, ⟨(some 60), (.mv (.t 1)), (some (54, false)), [38, 39, 40, 41, 42]⟩, ⟨(some 61), (.mv (.t 5)), (some (54, false)), [38, 39, 40, 41, 42, 43]⟩, ⟨(some 62), (.ias 4 (.t 60) (.t 61)), (some (54, false)), [38, 39, 40, 41, 42]⟩, ⟨(some 63), (.fa 3 (.t 62)), (some (54, false)), [38, 39, 40, 41, 42]⟩, ⟨(some 64), (.ld (.t 63)), (some (54, false)), [38, 39, 40, 41, 42]⟩, og 65 (cl 23 [(.t 59), (.t 64)]) 54 false, og 66 (.un .not (.t 65)) 54 false, oo 67 (.pick (.t 54) (.c (.bool true)) (.t 66))]) (.cond (.t 67) (.seq (.reg [oo 4 (.mv (.c (.bool false)))]) .ret) .skip))) (.reg [om 15 5, oo 16 (.ar .add (.t 15) (ci 1)), om 5 16])))))) (.seq (.reg [oo 4 (.mv (.c (.bool true)))]) .ret)))), 68, [(.tmp 4)], false, fun _ => none, fun _ _ => none⟩
noncomputable def c23 : CFn := ⟨(.seq (.reg [oo 4 (.mv (.c (.bool false)))]) (.seq (.seq (.reg [om 6 0, oo 7 (.len (.t 6)), om 8 1, oo 9 (.len (.t 8)), oo 10 (.ar .neq (.t 7) (.t 9))]) (.cond (.t 10) (.seq (.reg [oo 4 (.mv (.c (.bool false)))]) .ret) .skip)) (.seq (.seq (.reg [oo 5 (.mv (ci 0))]) (.block 0 (.loop 35 (.seq (.seq (.reg [om 11 5, om 12 0, oo 13 (.len (.t 12)), oo 14 (.ar .lss (.t 11) (.t 13))]) (.cond (.t 14) .skip (.exit 0))) (.seq (.block 1 (.seq (.drw [om 17 0, op 18 (.mv (.t 5)) [0], oo 19 (.ias 1 (.t 17) (.t 18)), oo 20 (.ld (.t 19)), op 21 (.mv (.t 1)) [0, 1, 2, 3], op 22 (.mv (.t 5)) [0, 1, 2, 3, 4], op 23 (.ias 1 (.t 21) (.t 22)) [0, 1, 2, 3], op 24 (.ld (.t 23)) [0, 1, 2, 3], oo 25 (.ar .neq (.t 20) (.t 24))]) (.cond (.t 25) (.seq (.reg [oo 4 (.mv (.c (.bool false)))]) .ret) .skip))) (.reg [om 15 5, oo 16 (.ar .add (.t 15) (ci 1)), om 5 16])))))) (.seq (.reg [oo 4 (.mv (.c (.bool true)))]) .ret)))), 26, [(.tmp 4)], false, fun _ => none, fun _ _ => none⟩
noncomputable def c24 : CFn := ⟨(.seq (.reg [oo 2 (.box (.t 0)), oo 4 (.mv (ci 0))]) (.seq (.reg [oo 12 (.fa 1 (.t 2)), oo 13 (.ld (.t 12)), oo 14 (.len (.t 13)), om 5 14]) (.seq (.seq (.reg [oo 15 (.fa 0 (.t 2)), oo 16 (.ld (.t 15)), oo 17 (cl 39 [(.t 16), (ci 1), (ci 4)]), oo 18 (.un .not (.t 17)), om 19 18, og 20 (.mv (.t 5)) 19 false, og 21 (cl 39 [(.t 20), (ci 1), (ci 4)]) 19 false, og 22 (.un .not (.t 21)) 19 false, oo 23 (.pick (.t 19) (.c (.bool true)) (.t 22))]) (.cond (.t 23) (.seq (.reg [oo 4 (.mv (ci 2))]) .ret) .skip)) (.seq (.seq (.reg [oo 6 (.mv (ci 0))]) (.block 0 (.loop 102 (.seq (.seq (.reg [om 24 6, om 25 5, oo 26 (.ar .lss (.t 24) (.t 25))]) (.cond (.t 26) .skip (.exit 0))) (.seq (.block 1 (.seq (.seq (.reg [oo 29 (.fa 1 (.t 2)), oo 30 (.ld (.t 29)), om 31 6, oo 32 (.ias 1 (.t 30) (.t 31)), oo 33 (.ld (.t 32)), oo 34 (.len (.t 33)), om 35 5, oo 36 (.ar .neq (.t 34) (.t 35))]) (.cond (.t 36) (.seq (.reg [oo 4 (.mv (ci 2))]) .ret) .skip)) (.seq (.reg [oo 7 (.mv (ci 0))]) (.block 2 (.loop 230 (.seq (.seq (.reg [om 37 7, om 38 5, oo 39 (.ar .lss (.t 37) (.t 38))]) (.cond (.t 39) .skip (.exit 2))) (.seq (.block 3 (.seq (.reg [oo 42 (.fa 1 (.t 2)), oo 43 (.ld (.t 42)), om 44 6, oo 45 (.ias 1 (.t 43) (.t 44)), oo 46 (.ld (.t 45)), om 47 7, oo 48 (.ias 1 (.t 46) (.t 47)), oo 49 (.ld (.t 48)), oo 50 (cl 39 [(.t 49), (ci 0), (ci 500)]), oo 51 (.un .not (.t 50))]) (.cond (.t 51) (.seq (.reg [oo 4 (.mv (ci 2))]) .ret) .skip))) (.reg [om 40 7, oo 41 (.ar .add (.t 40) (ci 1)), om 7 41])))))))) (.reg [om 27 6, oo 28 (.ar .add (.t 27) (ci 1)), om 6 28])))))) (.seq (.seq (.reg [oo 52 (.fa 2 (.t 2)), oo 53 (.ld (.t 52)), oo 54 (.len (.t 53)), oo 55 (.ar .gtr (.t 54) (ci 10))]) (.cond (.t 55) (.seq (.reg [oo 4 (.mv (ci 5))]) .ret) .skip)) (.seq (.seq (.reg [oo 8 (.mv (ci 0))]) (.block 4 (.loop 294 (.seq (.seq (.reg [om 56 8, oo 57 (.fa 2 (.t 2)), oo 58 (.ld (.t 57)), oo 59 (.len (.t 58)), oo 60 (.ar .lss (.t 56) (.t 59))]) (.cond (.t 60) .skip (.exit 4))) (.seq (.block 5 (.seq (.drw [oo 63 (.ldn 3 (.t 2)), op 64 (.fa 2 (.t 2)) [0], op 65 (.ld (.t 64)) [0], op 66 (.mv (.t 8)) [0, 1, 2], op 67 (.ias 3 (.t 65) (.t 66)) [0], op 68 (.ldn 3 (.t 67)) [0], oo 69 (cl 36 [(.t 63), (.t 68)]), oo 70 (.un .not (.t 69))]) (.cond (.t 70) (.seq (.reg [oo 4 (.mv (ci 3))]) .ret) .skip))) (.reg [om 61 8, oo 62 (.ar .add (.t 61) (ci 1)), om 8 62])))))) (.seq (.seq (.reg [om 71 1, oo 72 (.len (.t 71)), oo 73 (.ar .gtr (.t 72) (ci 6))]) (.cond (.t 73) (.seq (.reg [oo 4 (.mv (ci 8))]) .ret) .skip)) (.seq (.seq (.reg [oo 9 (.mv (ci 0))]) (.block 6 (.loop 550 (.seq (.seq (.reg [om 74 9, om 75 1, oo 76 (.len (.t 75)), oo 77 (.ar .lss (.t 74) (.t 76))]) (.cond (.t 77) .skip (.exit 6))) (.seq (.block 7 (.seq (.reg [om 80 1, om 81 9, oo 82 (.ias 4 (.t 80) (.t 81)), oo 83 (.ldn 4 (.t 82)), oo 10 (.new [(.int .i64 (0)), (.int .i64 (0)), (.int .i64 (0)), .nils]), ⟨none, (.st 4 (.t 10) (.t 83)), none, []⟩]) (.seq (.seq (.reg [oo 84 (.fa 0 (.t 10)), oo 85 (.ld (.t 84)), om 86 5, oo 87 (.ar .sub (.t 86) (ci 1)), oo 88 (cl 39 [(.t 85), (ci 0), (.t 87)]), oo 89 (.un .not (.t 88)), om 90 89, og 91 (.fa 1 (.t 10)) 90 false, og 92 (.ld (.t 91)) 90 false, og 93 (cl 39 [(.t 92), (ci 0), (ci 100000)]) 90 false, og 94 (.un .not (.t 93)) 90 false, oo 95 (.pick (.t 90) (.c (.bool true)) (.t 94)), om 96 95, og 97 (.fa 2 (.t 10)) 96 false, og 98 (.ld (.t 97)) 96 false, og 99 (cl 39 [(.t 98), (ci 0), (ci 100000)]) 96 false, og 100 (.un .not (.t 99)) 96 false, oo 101 (.pick (.t 96) (.c (.bool true)) (.t 100)), om 102 101, og 103 (.fa 3 (.t 10)) 102 false, og 104 (.ld (.t 103)) 102 false, og 105 (.len (.t 104)) 102 false, og 106 (.fa 0 (.t 2)) 102 false, og 107 (.ld (.t 106)) 102 false, og 108 (.ar .neq (.t 105) (.t 107)) 102 false, oo 109 (.pick (.t 102) (.c (.bool true)) (.t 108))]) (.cond (.t 109) (.seq (.reg [oo 4 (.mv (ci 4))]) .ret) .skip)) (.seq (.reg [oo 11 (.mv (ci 0))]) (.block 8 (.loop 3622 (.seq (.seq (.reg [om 110 11, oo 111 (.fa 0 (.t 2)), oo 112 (.ld (.t 111)), oo 113 (.ar .lss (.t 110) (.t 112))]) (.cond (.t 113) .skip (.exit 8))) (.seq (.block 9 (.seq (.reg [oo 116 (.fa 3 (.t 10)), oo 117 (.ld (.t 116)), om 118 11, oo 119 (.ias 1 (.t 117) (.t 118)), oo 120 (.ld (.t 119)), oo 121 (cl 39 [(.t 120), (ci 0), (ci 2000)]), oo 122 (.un .not (.t 121))]) (.cond (.t 122) (.seq (.reg [oo 4 (.mv (ci 4))]) .ret) .skip))) (.reg [om 114 11, oo 115 (.ar .add (.t 114) (ci 1)), om 11 115]))))))))) (.reg [om 78 9, oo 79 (.ar .add (.t 78) (ci 1)), om 9 79])))))) (.seq (.reg [oo 4 (.mv (ci 0))]) .ret))))))))), 123, [(.tmp 4)], false, fun _ => none, fun _ _ => none⟩
noncomputable def c26 : CFn := ⟨(.seq (.reg [oo 3 (.box (.t 0)), oo 6 (.mv (ci 0)), oo 7 (.mv (ci 0)), oo 8 (.mv (ci 0))]) (.seq (.reg [oo 14 (.ldn 3 (.t 3)), om 15 1, om 16 2, oo 17 (cl 27 [(.t 14), (.t 15), (.t 16)]), oo 12 (.new [.nils, .nils]), oo 9 (.mv (ci 0)), oo 10 (.mv (ci 0)), oo 11 (.mv (ci 0)), ⟨none, (.st 2 (.t 12) (.t 17)), none, []⟩]) (.seq (.seq (.reg [oo 13 (.mv (ci 0))]) (.block 0 (.loop 15874 (.seq (.seq (.reg [om 18 13, om 19 1, oo 20 (.len (.t 19)), oo 21 (.ar .lss (.t 18) (.t 20))]) (.cond (.t 21) .skip (.exit 0))) (.seq (.block 1 (.seq (.seq (.drw [oo 24 (.fa 1 (.t 12)), oo 25 (.ld (.t 24)), op 26 (.mv (.t 13)) [0, 1], oo 27 (.ias 1 (.t 25) (.t 26)), oo 28 (.ld (.t 27)), op 29 (.mv (.t 1)) [0, 1, 2, 3, 4], op 30 (.mv (.t 13)) [0, 1, 2, 3, 4, 5], op 31 (.ias 4 (.t 29) (.t 30)) [0, 1, 2, 3, 4], op 32 (.fa 2 (.t 31)) [0, 1, 2, 3, 4], op 33 (.ld (.t 32)) [0, 1, 2, 3, 4], oo 34 (.ar .gtr (.t 28) (.t 33))]) (.cond (.t 34) (.seq (.reg [om 35 9, oo 36 (.ar .add (.t 35) (ci 1)), om 9 36]) (.drw [om 37 10, op 38 (.fa 1 (.t 12)) [0], op 39 (.ld (.t 38)) [0], op 40 (.mv (.t 13)) [0, 1, 2], op 41 (.ias 1 (.t 39) (.t 40)) [0], op 42 (.ld (.t 41)) [0], op 43 (.mv (.t 1)) [0, 1, 2, 3, 4, 5], op 44 (.mv (.t 13)) [0, 1, 2, 3, 4, 5, 6], op 45 (.ias 4 (.t 43) (.t 44)) [0, 1, 2, 3, 4, 5], op 46 (.fa 2 (.t 45)) [0, 1, 2, 3, 4, 5], op 47 (.ld (.t 46)) [0, 1, 2, 3, 4, 5], op 48 (.ar .sub (.t 42) (.t 47)) [0], oo 49 (.ar .add (.t 37) (.t 48)), om 10 49])) .skip)) (.reg [om 50 11, oo 51 (.fa 1 (.t 12)), oo 52 (.ld (.t 51)), om 53 13, oo 54 (.ias 1 (.t 52) (.t 53)), oo 55 (.ld (.t 54)), oo 56 (.mx [(.t 50), (.t 55)]), om 11 56]))) (.reg [om 22 13, oo 23 (.ar .add (.t 22) (ci 1)), om 13 23])))))) (.seq (.reg [om 57 9, om 58 10, om 59 11, om 6 57, om 7 58, om 8 59]) .ret)))), 60, [(.tmp 6), (.tmp 7), (.tmp 8)], false, fun _ => none, fun _ _ => none⟩
noncomputable def c27 : CFn := ⟨(.seq (.reg [oo 3 (.box (.t 0)), oo 6 (.new [.nils, .nils])]) (.seq (.drw [om 14 1, oo 15 (.len (.t 14)), oo 16 (.mks 1 [.nils] (.t 15) (.t 15)), op 17 (.mv (.t 1)) [0, 1, 2], op 18 (.len (.t 17)) [0, 1, 2], op 19 (.mks 1 [(.int .i64 (0))] (.t 18) (.t 18)) [0, 1, 2], oo 20 (.bld [.nils, .nils] [(0, (1, (.t 16))), (1, (1, (.t 19)))]), op 7 (.new [.nils, .nils]) [0, 1, 2, 3, 4, 5, 6], ⟨none, (.st 2 (.t 7) (.t 20)), none, []⟩]) (.seq (.seq (.reg [oo 8 (.mv (ci 0))]) (.block 0 (.loop 462 (.seq (.seq (.reg [om 21 8, om 22 2, oo 23 (.len (.t 22)), oo 24 (.ar .lss (.t 21) (.t 23))]) (.cond (.t 24) .skip (.exit 0))) (.seq (.block 1 (.seq (.reg [om 27 1, om 28 2, om 29 8, oo 30 (.ias 1 (.t 28) (.t 29)), oo 31 (.ld (.t 30)), oo 32 (.ias 4 (.t 27) (.t 31)), oo 33 (.ldn 4 (.t 32)), oo 9 (.new [(.int .i64 (0)), (.int .i64 (0)), (.int .i64 (0)), .nils]), ⟨none, (.st 4 (.t 9) (.t 33)), none, []⟩]) (.seq (.reg [oo 34 (.fa 1 (.t 9)), oo 35 (.ld (.t 34)), om 10 35]) (.seq (.seq (.reg [oo 11 (.mv (ci 0))]) (.block 2 (.loop 4046 (.seq (.seq (.reg [om 36 11, oo 37 (.fa 0 (.t 3)), oo 38 (.ld (.t 37)), oo 39 (.ar .lss (.t 36) (.t 38))]) (.cond (.t 39) .skip (.exit 2))) (.seq (.block 3 (.seq (.seq (.reg [oo 42 (.fa 3 (.t 9)), oo 43 (.ld (.t 42)), om 44 11, oo 45 (.ias 1 (.t 43) (.t 44)), oo 46 (.ld (.t 45)), oo 47 (.ar .gtr (.t 46) (ci 0))]) (.cond (.t 47) (.seq (.seq (.reg [om 48 8, oo 49 (.ar .sub (.t 48) (ci 1)), om 12 49]) (.block 4 (.loop 8142 (.seq (.seq (.reg [om 50 12, oo 51 (.ar .geq (.t 50) (ci 0))]) (.cond (.t 51) .skip (.exit 4))) (.seq (.block 5 (.seq (.reg [om 54 1, om 55 2, om 56 12, oo 57 (.ias 1 (.t 55) (.t 56)), oo 58 (.ld (.t 57)), oo 59 (.ias 4 (.t 54) (.t 58)), oo 60 (.ldn 4 (.t 59)), oo 13 (.new [(.int .i64 (0)), (.int .i64 (0)), (.int .i64 (0)), .nils]), ⟨none, (.st 4 (.t 13) (.t 60)), none, []⟩]) (.seq (.reg [oo 61 (.fa 3 (.t 13)), oo 62 (.ld (.t 61)), om 63 11, oo 64 (.ias 1 (.t 62) (.t 63)), oo 65 (.ld (.t 64)), oo 66 (.ar .gtr (.t 65) (ci 0))]) (.cond (.t 66) (.seq (.drw [om 67 10, op 68 (.fa 0 (.t 7)) [0], op 69 (.ld (.t 68)) [0], op 70 (.mv (.t 2)) [0, 1, 2], op 71 (.mv (.t 12)) [0, 1, 2, 3], op 72 (.ias 1 (.t 70) (.t 71)) [0, 1, 2], op 73 (.ld (.t 72)) [0, 1, 2], op 74 (.ias 1 (.t 69) (.t 73)) [0], op 75 (.ld (.t 74)) [0], op 76 (.mv (.t 11)) [0, 1, 2, 3, 4, 5, 6, 7, 8], op 77 (.ias 1 (.t 75) (.t 76)) [0], op 78 (.ld (.t 77)) [0], op 79 (.fa 3 (.t 13)) [0, 1, 2, 3, 4, 5, 6, 7, 8, 9, 10, 11], op 80 (.ld (.t 79)) [0, 1, 2, 3, 4, 5, 6, 7, 8, 9, 10, 11], op 81 (.mv (.t 11)) [0, 1, 2, 3, 4, 5, 6, 7, 8, 9, 10, 11, 12, 13], op 82 (.ias 1 (.t 80) (.t 81)) [0, 1, 2, 3, 4, 5, 6, 7, 8, 9, 10, 11], op 83 (.ld (.t 82)) [0, 1, 2, 3, 4, 5, 6, 7, 8, 9, 10, 11], op 84 (.ar .add (.t 78) (.t 83)) [0], op 85 (.fa 1 (.t 3)) [0, 1, 2, 3, 4, 5, 6, 7, 8, 9, 10, 11, 12, 13, 14, 15, 16, 17], op 86 (.ld (.t 85)) [0, 1, 2, 3, 4, 5, 6, 7, 8, 9, 10, 11, 12, 13, 14, 15, 16, 17], op 87 (.fa 0 (.t 13)) [0, 1, 2, 3, 4, 5, 6, 7, 8, 9, 10, 11, 12, 13, 14, 15, 16, 17, 18, 19], op 88 (.ld (.t 87)) [0, 1, 2, 3, 4, 5, 6, 7, 8, 9, 10, 11, 12, 13, 14, 15, 16, 17, 18, 19], op 89 (.ias 1 (.t 86) (.t 88)) [0, 1, 2, 3, 4, 5, 6, 7, 8, 9, 10, 11, 12, 13, 14, 15, 16, 17], op 90 (.ld (.t 89)) [0, 1, 2, 3, 4, 5, 6, 7, 8, 9, 10, 11, 12, 13, 14, 15, 16, 17], op 91 (.fa 0 (.t 9)) [0, 1, 2, 3, 4, 5, 6, 7, 8, 9, 10, 11, 12, 13, 14, 15, 16, 17, 18, 19, 20, 21, 22, 23], op 92 (.ld (.t 91)) [0, 1, 2, 3, 4, 5, 6, 7, 8, 9, 10, 11, 12, 13, 14, 15, 16, 17, 18, 19, 20, 21, 22, 23], op 93 (.ias 1 (.t 90) (.t 92)) [0, 1, 2, 3, 4, 5, 6, 7, 8, 9, 10, 11, 12, 13, 14, 15, 16, 17], op 94 (.ld (.t 93)) [0, 1, 2, 3, 4, 5, 6, 7, 8, 9, 10, 11, 12, 13, 14, 15, 16, 17], op 95 (.ar .add (.t 84) (.t 94)) [0], oo 96 (.mx [(.t 67), (.t 95)]), om 10 96]) (.exit 4)) .skip)))) (.reg [om 52 12, oo 53 (.ar .sub (.t 52) (ci 1)), om 12 53])))))) (.block 6 (.loop 4046 (.seq (.seq (.drw [oo 97 (.ldn 3 (.t 3)), op 98 (.mv (.t 11)) [0], op 99 (.mv (.t 10)) [0, 1], op 100 (.fa 3 (.t 9)) [0, 1, 2], op 101 (.ld (.t 100)) [0, 1, 2], op 102 (.mv (.t 11)) [0, 1, 2, 3, 4], op 103 (.ias 1 (.t 101) (.t 102)) [0, 1, 2], op 104 (.ld (.t 103)) [0, 1, 2], oo 105 (cl 68 [(.t 97), (.t 98), (.t 99), (.t 104)])]) (.cond (.t 105) .skip (.exit 6))) (.block 7 (.reg [oo 106 (.ldn 3 (.t 3)), om 107 11, om 108 10, oo 109 (cl 69 [(.t 106), (.t 107), (.t 108)]), om 10 109])))))) .skip)) (.seq (.drw [oo 110 (.fa 0 (.t 7)), oo 111 (.ld (.t 110)), op 112 (.mv (.t 2)) [0, 1], op 113 (.mv (.t 8)) [0, 1, 2], op 114 (.ias 1 (.t 112) (.t 113)) [0, 1], op 115 (.ld (.t 114)) [0, 1], op 116 (.fa 0 (.t 7)) [0, 1, 2, 3, 4, 5], op 117 (.ld (.t 116)) [0, 1, 2, 3, 4, 5], op 118 (.mv (.t 2)) [0, 1, 2, 3, 4, 5, 6, 7], op 119 (.mv (.t 8)) [0, 1, 2, 3, 4, 5, 6, 7, 8], op 120 (.ias 1 (.t 118) (.t 119)) [0, 1, 2, 3, 4, 5, 6, 7], op 121 (.ld (.t 120)) [0, 1, 2, 3, 4, 5, 6, 7], op 122 (.ias 1 (.t 117) (.t 121)) [0, 1, 2, 3, 4, 5], op 123 (.ld (.t 122)) [0, 1, 2, 3, 4, 5], op 124 (.mv (.t 10)) [0, 1, 2, 3, 4, 5, 6, 7, 8, 9, 10, 11, 12, 13], op 125 (.bsl 1 1 [(.int .i64 (0))] [(0, (.t 124))]) [0, 1, 2, 3, 4, 5, 6, 7, 8, 9, 10, 11, 12, 13], op 126 (.app 1 (.t 123) (.t 125)) [0, 1, 2, 3, 4, 5], oo 127 (.ias 1 (.t 111) (.t 115)), ⟨none, (.st 1 (.t 127) (.t 126)), none, []⟩]) (.reg [om 128 10, oo 129 (.fa 3 (.t 9)), oo 130 (.ld (.t 129)), om 131 11, oo 132 (.ias 1 (.t 130) (.t 131)), oo 133 (.ld (.t 132)), oo 134 (.ar .add (.t 128) (.t 133)), om 10 134])))) (.reg [om 40 11, oo 41 (.ar .add (.t 40) (ci 1)), om 11 41])))))) (.drw [oo 135 (.fa 1 (.t 7)), oo 136 (.ld (.t 135)), op 137 (.mv (.t 2)) [0, 1], op 138 (.mv (.t 8)) [0, 1, 2], op 139 (.ias 1 (.t 137) (.t 138)) [0, 1], op 140 (.ld (.t 139)) [0, 1], op 141 (.mv (.t 10)) [0, 1, 2, 3, 4, 5], oo 142 (.ias 1 (.t 136) (.t 140)), ⟨none, (.st 1 (.t 142) (.t 141)), none, []⟩]))))) (.reg [om 25 8, oo 26 (.ar .add (.t 25) (ci 1)), om 8 26])))))) (.seq (.reg [oo 143 (.ldn 2 (.t 7)), ⟨none, (.st 2 (.t 6) (.t 143)), none, []⟩]) .ret)))), 144, [(.ldn 2 6)], false, fun _ => none, fun _ _ => none⟩
noncomputable def c29 : CFn := ⟨(.seq (.reg [oo 2 (.box (.t 0)), oo 4 (.mv (.c .nils)), oo 5 (.mv (ci 0))]) (.seq (.reg [oo 11 (.ldn 3 (.t 2)), om 12 1, oo 13 (cl 70 [(.t 11), (.t 12)]), om 10 13, oo 14 (.ext 0 (.t 10)), oo 15 (.ext 1 (.t 10)), oo 6 (.new [(.int .i64 (0)), .nils, .nils, .nils]), ⟨none, (.st 4 (.t 6) (.t 14)), none, []⟩, om 7 15]) (.seq (.seq (.reg [om 16 7, oo 17 (.ar .neq (.t 16) (ci 0))]) (.cond (.t 17) (.seq (.reg [om 18 7, oo 4 (.mv (.c .nils)), om 5 18]) .ret) .skip)) (.seq (.reg [oo 20 (.ldn 4 (.t 6)), oo 21 (cl 71 [(.t 20)]), om 19 21, oo 22 (.ext 0 (.t 19)), oo 23 (.ext 1 (.t 19)), oo 9 (.new [(.int .i64 (0)), (.int .i64 (0))]), om 8 22, ⟨none, (.st 2 (.t 9) (.t 23)), none, []⟩]) (.seq (.reg [om 24 8, om 4 24, oo 5 (.mv (ci 0))]) .ret))))), 25, [(.tmp 4), (.tmp 5)], false, fun _ => none, fun _ _ => none⟩
noncomputable def c30 : CFn := ⟨(.seq (.reg [oo 2 (.box (.t 0)), oo 4 (.mv (ci 0)), oo 5 (.mv (ci 0))]) (.seq (.seq (.reg [oo 20 (.ldn 3 (.t 2)), om 21 1, oo 22 (cl 70 [(.t 20), (.t 21)]), om 19 22, oo 23 (.ext 0 (.t 19)), oo 24 (.ext 1 (.t 19)), oo 6 (.new [(.int .i64 (0)), .nils, .nils, .nils]), ⟨none, (.st 4 (.t 6) (.t 23)), none, []⟩, om 7 24]) (.seq (.reg [om 25 7, oo 26 (.ar .neq (.t 25) (ci 0))]) (.cond (.t 26) (.seq (.reg [om 27 7, oo 4 (.mv (ci 0)), om 5 27]) .ret) .skip))) (.seq (.seq (.reg [om 28 1, oo 29 (.len (.t 28)), oo 30 (.mv (ci 0))]) (.block 0 (.loop 1879048214 (.seq (.reg [oo 31 (.ar .lss (.t 30) (.t 29))]) (.seq (.cond (.t 31) .skip (.exit 0)) (.seq (.block 1 (.seq (.reg [oo 32 (.ias 4 (.t 28) (.t 30)), oo 33 (.ldn 4 (.t 32)), oo 9 (.new [(.int .i64 (0)), (.int .i64 (0)), (.int .i64 (0)), .nils]), ⟨none, (.st 4 (.t 9) (.t 33)), none, []⟩]) (.drw [om 34 4, op 35 (.fa 1 (.t 9)) [0], op 36 (.ld (.t 35)) [0], op 37 (.fa 3 (.t 9)) [0, 1, 2], op 38 (.ld (.t 37)) [0, 1, 2], op 39 (cl 72 [(.t 38)]) [0, 1, 2], op 40 (.ar .add (.t 36) (.t 39)) [0], oo 41 (.mx [(.t 34), (.t 40)]), om 4 41]))) (.reg [oo 42 (.ar .add (.t 30) (ci 1)), om 30 42]))))))) (.seq (.seq (.reg [oo 43 (.fa 0 (.t 2)), oo 44 (.ld (.t 43)), oo 45 (.mv (ci 0))]) (.block 2 (.loop 52776558133266 (.seq (.reg [oo 46 (.ar .lss (.t 45) (.t 44))]) (.seq (.cond (.t 46) .skip (.exit 2)) (.seq (.block 3 (.seq (.reg [om 47 45, om 10 47]) (.seq (.reg [oo 11 (.mv (ci 0)), oo 12 (.mv (ci 0)), oo 13 (.mv (ci 0)), oo 14 (.mv (.c (.bool false)))]) (.seq (.seq (.reg [om 48 1, oo 49 (.len (.t 48)), oo 50 (.mv (ci 0))]) (.block 4 (.loop 2023101395139602 (.seq (.reg [oo 51 (.ar .lss (.t 50) (.t 49))]) (.seq (.cond (.t 51) .skip (.exit 4)) (.seq (.block 5 (.seq (.reg [oo 52 (.ias 4 (.t 48) (.t 50)), oo 53 (.ldn 4 (.t 52)), oo 16 (.new [(.int .i64 (0)), (.int .i64 (0)), (.int .i64 (0)), .nils]), ⟨none, (.st 4 (.t 16) (.t 53)), none, []⟩]) (.seq (.seq (.reg [oo 54 (.fa 3 (.t 16)), oo 55 (.ld (.t 54)), om 56 10, oo 57 (.ias 1 (.t 55) (.t 56)), oo 58 (.ld (.t 57)), oo 59 (.ar .eql (.t 58) (ci 0))]) (.cond (.t 59) (.exit 5) .skip)) (.seq (.drw [oo 60 (.fa 1 (.t 16)), oo 61 (.ld (.t 60)), op 62 (.fa 3 (.t 16)) [0, 1], op 63 (.ld (.t 62)) [0, 1], op 64 (.mv (.t 10)) [0, 1, 2, 3], op 65 (.slc 1 (.t 63) none (some (.t 64)) none) [0, 1], op 66 (cl 72 [(.t 65)]) [0, 1], oo 67 (.ar .add (.t 61) (.t 66)), op 68 (.fa 3 (.t 16)) [0, 1, 2, 3, 4, 5, 6, 7], op 69 (.ld (.t 68)) [0, 1, 2, 3, 4, 5, 6, 7], op 70 (.mv (.t 10)) [0, 1, 2, 3, 4, 5, 6, 7, 8, 9], op 71 (.ar .add (.t 70) (ci 1)) [0, 1, 2, 3, 4, 5, 6, 7, 8, 9], op 72 (.slc 1 (.t 69) (some (.t 71)) none none) [0, 1, 2, 3, 4, 5, 6, 7], op 73 (cl 72 [(.t 72)]) [0, 1, 7], om 17 67, om 18 73]) (.seq (.seq (.reg [om 74 14]) (.cond (.t 74) (.reg [om 75 17, om 76 11, oo 77 (.mn [(.t 75), (.t 76)]), om 78 18, om 79 12, oo 80 (.mn [(.t 78), (.t 79)]), om 17 77, om 18 80]) .skip)) (.drw [om 81 17, op 82 (.mv (.t 18)) [0], op 83 (.mv (.t 13)) [0, 1], op 84 (.fa 3 (.t 16)) [0, 1, 2], op 85 (.ld (.t 84)) [0, 1, 2], op 86 (.mv (.t 10)) [0, 1, 2, 3, 4], op 87 (.ias 1 (.t 85) (.t 86)) [0, 1, 2], op 88 (.ld (.t 87)) [0, 1, 2], op 89 (.ar .add (.t 83) (.t 88)) [0, 1], op 11 (.mv (.t 81)) [1, 2, 3, 4, 5, 6, 7, 8], op 12 (.mv (.t 82)) [2, 3, 4, 5, 6, 7, 8], om 13 89, oo 14 (.mv (.c (.bool true)))])))))) (.reg [oo 90 (.ar .add (.t 50) (ci 1)), om 50 90]))))))) (.reg [om 91 4, om 92 11, om 93 13, oo 94 (.ar .add (.t 92) (.t 93)), om 95 12, oo 96 (.ar .add (.t 94) (.t 95)), oo 97 (.mx [(.t 91), (.t 96)]), om 4 97]))))) (.reg [oo 98 (.ar .add (.t 45) (ci 1)), om 45 98]))))))) (.seq (.reg [om 99 4, om 4 99, oo 5 (.mv (ci 0))]) .ret))))), 100, [(.tmp 4), (.tmp 5)], false, fun _ => none, fun _ _ => none⟩
noncomputable def c31 : CFn := ⟨(.seq (.reg [oo 4 (.box (.t 0)), oo 7 (.box (.t 3)), oo 8 (.new [.nils, (.int .i64 (0)), (.int .i64 (0)), (.bool false)])]) (.seq (.seq (.reg [om 15 2, oo 16 (.len (.t 15)), om 17 1, oo 18 (.len (.t 17)), oo 19 (.ar .eql (.t 16) (.t 18))]) (.cond (.t 19) (.seq (.reg [oo 21 (.ldn 3 (.t 4)), om 22 1, om 23 2, oo 24 (cl 26 [(.t 21), (.t 22), (.t 23)]), om 20 24, oo 25 (.ext 0 (.t 20)), oo 26 (.ext 1 (.t 20)), oo 27 (.ext 2 (.t 20)), om 9 25, om 10 26, om 11 27]) (.seq (.seq (.reg [oo 28 (.fa 3 (.t 7)), oo 29 (.ld (.t 28)), oo 30 (.un .not (.t 29)), om 31 30, og 32 (.mv (.t 10)) 31 false, og 33 (.fa 1 (.t 7)) 31 false, og 34 (.ld (.t 33)) 31 false, og 35 (.ar .lss (.t 32) (.t 34)) 31 false, oo 36 (.pick (.t 31) (.c (.bool true)) (.t 35)), om 37 36, og 38 (.mv (.t 10)) 37 false, og 39 (.fa 1 (.t 7)) 37 false, og 40 (.ld (.t 39)) 37 false, og 41 (.ar .eql (.t 38) (.t 40)) 37 false, og 42 (.mv (.t 41)) 37 false, og 43 (.mv (.t 11)) 42 true, og 44 (.fa 2 (.t 7)) 42 true, og 45 (.ld (.t 44)) 42 true, og 46 (.ar .lss (.t 43) (.t 45)) 42 true, og 47 (.pick (.t 42) (.t 46) (.c (.bool false))) 37 false, oo 48 (.pick (.t 37) (.c (.bool true)) (.t 47))]) (.cond (.t 48) (.seq (.reg [om 49 2, om 50 10, om 51 11, oo 52 (.bld [.nils, (.int .i64 (0)), (.int .i64 (0)), (.bool false)] [(0, (1, (.t 49))), (1, (1, (.t 50))), (2, (1, (.t 51))), (3, (1, (.c (.bool true))))]), ⟨none, (.st 4 (.t 8) (.t 52)), none, []⟩]) .ret) .skip)) (.seq (.reg [oo 53 (.ldn 4 (.t 7)), ⟨none, (.st 4 (.t 8) (.t 53)), none, []⟩]) .ret))) .skip)) (.seq (.seq (.reg [oo 12 (.mv (ci 0))]) (.block 0 (.loop 4502 (.seq (.seq (.reg [om 54 12, om 55 1, oo 56 (.len (.t 55)), oo 57 (.ar .lss (.t 54) (.t 56))]) (.cond (.t 57) .skip (.exit 0))) (.seq (.block 1 (.seq (.reg [oo 13 (.mv (.c (.bool false)))]) (.seq (.seq (.reg [oo 14 (.mv (ci 0))]) (.block 2 (.loop 29078 (.seq (.seq (.reg [om 60 14, om 61 2, oo 62 (.len (.t 61)), oo 63 (.ar .lss (.t 60) (.t 62))]) (.cond (.t 63) .skip (.exit 2))) (.seq (.block 3 (.reg [om 66 13, om 67 66, og 68 (.mv (.t 2)) 67 false, og 69 (.mv (.t 14)) 67 false, og 70 (.ias 1 (.t 68) (.t 69)) 67 false, og 71 (.ld (.t 70)) 67 false, og 72 (.mv (.t 12)) 67 false, og 73 (.ar .eql (.t 71) (.t 72)) 67 false, oo 74 (.pick (.t 67) (.c (.bool true)) (.t 73)), om 13 74])) (.reg [om 64 14, oo 65 (.ar .add (.t 64) (ci 1)), om 14 65])))))) (.seq (.reg [om 75 13, oo 76 (.un .not (.t 75))]) (.cond (.t 76) (.drw [oo 77 (.ldn 3 (.t 4)), op 78 (.mv (.t 1)) [0], op 79 (.bsl 1 0 [(.int .i64 (0))] []) [0, 1], op 80 (.mv (.t 2)) [0, 1, 2], op 81 (.app 1 (.t 79) (.t 80)) [0, 1], op 82 (.mv (.t 12)) [0, 1, 2, 3, 4], op 83 (.bsl 1 1 [(.int .i64 (0))] [(0, (.t 82))]) [0, 1, 2, 3, 4], op 84 (.app 1 (.t 81) (.t 83)) [0, 1], op 85 (.ldn 4 (.t 7)) [0, 1, 2, 3, 4, 5, 6, 7], oo 86 (cl 31 [(.t 77), (.t 78), (.t 84), (.t 85)]), ⟨none, (.st 4 (.t 7) (.t 86)), none, []⟩]) .skip))))) (.reg [om 58 12, oo 59 (.ar .add (.t 58) (ci 1)), om 12 59])))))) (.seq (.reg [oo 87 (.ldn 4 (.t 7)), ⟨none, (.st 4 (.t 8) (.t 87)), none, []⟩]) .ret)))), 88, [(.ldn 4 8)], false, fun _ => none, fun _ _ => none⟩
noncomputable def c32 : CFn := ⟨(.seq (.reg [oo 2 (.box (.t 0)), oo 4 (.mv (ci 0))]) (.seq (.reg [oo 5 (.mv (ci 0))]) (.seq (.seq (.reg [oo 6 (.mv (ci 0))]) (.block 0 (.loop 102 (.seq (.seq (.reg [om 13 6, om 14 1, oo 15 (.len (.t 14)), oo 16 (.ar .lss (.t 13) (.t 15))]) (.cond (.t 16) .skip (.exit 0))) (.seq (.block 1 (.drw [om 19 5, op 20 (.mv (.t 1)) [0], op 21 (.mv (.t 6)) [0, 1], op 22 (.ias 4 (.t 20) (.t 21)) [0], op 23 (.fa 1 (.t 22)) [0], op 24 (.ld (.t 23)) [0], op 25 (.mv (.t 1)) [0, 1, 2, 3, 4, 5], op 26 (.mv (.t 6)) [0, 1, 2, 3, 4, 5, 6], op 27 (.ias 4 (.t 25) (.t 26)) [0, 1, 2, 3, 4, 5], op 28 (.fa 3 (.t 27)) [0, 1, 2, 3, 4, 5], op 29 (.ld (.t 28)) [0, 1, 2, 3, 4, 5], op 30 (cl 73 [(.t 29)]) [0, 1, 2, 3, 4, 5], op 31 (.ar .add (.t 24) (.t 30)) [0], oo 32 (.mx [(.t 19), (.t 31)]), om 5 32])) (.reg [om 17 6, oo 18 (.ar .add (.t 17) (ci 1)), om 6 18])))))) (.seq (.seq (.reg [oo 7 (.mv (ci 0))]) (.block 2 (.loop 166 (.seq (.seq (.reg [om 33 7, oo 34 (.fa 0 (.t 2)), oo 35 (.ld (.t 34)), oo 36 (.ar .lss (.t 33) (.t 35))]) (.cond (.t 36) .skip (.exit 2))) (.seq (.block 3 (.seq (.reg [oo 8 (.mv (ci 1099511627776)), oo 9 (.mv (ci 1099511627776)), oo 10 (.mv (ci 0))]) (.seq (.seq (.reg [oo 11 (.mv (ci 0))]) (.block 4 (.loop 4006 (.seq (.seq (.reg [om 39 11, om 40 1, oo 41 (.len (.t 40)), oo 42 (.ar .lss (.t 39) (.t 41))]) (.cond (.t 42) .skip (.exit 4))) (.seq (.block 5 (.seq (.reg [om 45 1, om 46 11, oo 47 (.ias 4 (.t 45) (.t 46)), oo 48 (.ldn 4 (.t 47)), oo 12 (.new [(.int .i64 (0)), (.int .i64 (0)), (.int .i64 (0)), .nils]), ⟨none, (.st 4 (.t 12) (.t 48)), none, []⟩]) (.seq (.reg [oo 49 (.fa 3 (.t 12)), oo 50 (.ld (.t 49)), om 51 7, oo 52 (.ias 1 (.t 50) (.t 51)), oo 53 (.ld (.t 52)), oo 54 (.ar .gtr (.t 53) (ci 0))]) (.cond (.t 54) (.seq (.drw [om 55 8, op 56 (.fa 1 (.t 12)) [0], op 57 (.ld (.t 56)) [0], op 58 (.fa 3 (.t 12)) [0, 1, 2], op 59 (.ld (.t 58)) [0, 1, 2], op 60 (.mv (.t 7)) [0, 1, 2, 3, 4], op 61 (.slc 1 (.t 59) none (some (.t 60)) none) [0, 1, 2], op 62 (cl 73 [(.t 61)]) [0, 1, 2], op 63 (.ar .add (.t 57) (.t 62)) [0], oo 64 (.mn [(.t 55), (.t 63)]), om 8 64]) (.seq (.reg [om 65 9, oo 66 (.fa 3 (.t 12)), oo 67 (.ld (.t 66)), om 68 7, oo 69 (.ar .add (.t 68) (ci 1)), oo 70 (.slc 1 (.t 67) (some (.t 69)) none none), oo 71 (cl 73 [(.t 70)]), oo 72 (.mn [(.t 65), (.t 71)]), om 9 72]) (.reg [om 73 10, oo 74 (.fa 3 (.t 12)), oo 75 (.ld (.t 74)), om 76 7, oo 77 (.ias 1 (.t 75) (.t 76)), oo 78 (.ld (.t 77)), oo 79 (.ar .add (.t 73) (.t 78)), om 10 79]))) .skip)))) (.reg [om 43 11, oo 44 (.ar .add (.t 43) (ci 1)), om 11 44])))))) (.seq (.reg [om 80 10, oo 81 (.ar .gtr (.t 80) (ci 0))]) (.cond (.t 81) (.reg [om 82 5, om 83 8, om 84 10, oo 85 (.ar .add (.t 83) (.t 84)), om 86 9, oo 87 (.ar .add (.t 85) (.t 86)), oo 88 (.mx [(.t 82), (.t 87)]), om 5 88]) .skip))))) (.reg [om 37 7, oo 38 (.ar .add (.t 37) (ci 1)), om 7 38])))))) (.seq (.reg [om 89 5, om 4 89]) .ret))))), 90, [(.tmp 4)], false, fun _ => none, fun _ _ => none⟩
noncomputable def c33 : CFn := ⟨(.seq (.reg [oo 2 (.box (.t 0)), oo 4 (.mv (.c .nils)), oo 5 (.mv (ci 0))]) (.seq (.reg [oo 16 (.ldn 3 (.t 2)), om 17 1, oo 18 (cl 70 [(.t 16), (.t 17)]), om 15 18, oo 19 (.ext 0 (.t 15)), oo 20 (.ext 1 (.t 15)), oo 6 (.new [(.int .i64 (0)), .nils, .nils, .nils]), ⟨none, (.st 4 (.t 6) (.t 19)), none, []⟩, om 5 20]) (.seq (.seq (.reg [om 21 5, oo 22 (.ar .neq (.t 21) (ci 0))]) (.cond (.t 22) (.seq (.reg [om 23 5, oo 4 (.mv (.c .nils)), om 5 23]) .ret) .skip)) (.seq (.seq (.reg [oo 25 (.ldn 4 (.t 6)), oo 26 (cl 71 [(.t 25)]), om 24 26, oo 27 (.ext 0 (.t 24)), oo 28 (.ext 1 (.t 24)), oo 8 (.new [(.int .i64 (0)), (.int .i64 (0))]), om 7 27, ⟨none, (.st 2 (.t 8) (.t 28)), none, []⟩]) (.seq (.reg [oo 29 (.fa 0 (.t 8)), oo 30 (.ld (.t 29)), oo 31 (.ar .eql (.t 30) (ci 0))]) (.cond (.t 31) (.seq (.reg [oo 4 (.mv (.c .nils)), oo 5 (.mv (ci 7))]) .ret) .skip))) (.seq (.reg [oo 9 (.mv (.c .nils))]) (.seq (.seq (.reg [om 32 1, oo 33 (.len (.t 32)), oo 34 (.sh .shl (ci 1) (.t 33)), oo 35 (.mv (ci 0))]) (.block 0 (.loop 51539608128 (.seq (.reg [oo 36 (.ar .lss (.t 35) (.t 34))]) (.seq (.cond (.t 36) .skip (.exit 0)) (.seq (.block 1 (.seq (.reg [om 37 35, om 10 37]) (.seq (.reg [oo 39 (.ldn 4 (.t 6)), om 40 10, oo 41 (cl 74 [(.t 39), (.t 40)]), om 38 41, oo 42 (.ext 0 (.t 38)), oo 43 (.ext 1 (.t 38)), oo 11 (.new [(.int .i64 (0)), .nils, .nils, .nils]), ⟨none, (.st 4 (.t 11) (.t 42)), none, []⟩, om 12 43]) (.seq (.reg [oo 45 (.ldn 4 (.t 11)), oo 46 (cl 71 [(.t 45)]), om 44 46, oo 47 (.ext 0 (.t 44)), oo 48 (.ext 1 (.t 44)), oo 14 (.new [(.int .i64 (0)), (.int .i64 (0))]), om 13 47, ⟨none, (.st 2 (.t 14) (.t 48)), none, []⟩]) (.seq (.reg [oo 49 (.fa 0 (.t 14)), oo 50 (.ld (.t 49)), oo 51 (.ar .gtr (.t 50) (ci 0))]) (.cond (.t 51) (.reg [om 52 9, om 53 12, oo 54 (.bsl 1 1 [.nils] [(0, (.t 53))]), oo 55 (.app 1 (.t 52) (.t 54)), om 9 55]) .skip)))))) (.reg [oo 56 (.ar .add (.t 35) (ci 1)), om 35 56]))))))) (.seq (.reg [om 57 9, oo 58 (cl 75 [(.t 57), (.c (.fn 76 [] []))]), om 4 58, oo 5 (.mv (ci 0))]) .ret))))))), 59, [(.tmp 4), (.tmp 5)], false, fun _ => none, fun _ _ => none⟩
noncomputable def c34 : CFn := ⟨(.seq (.reg [oo 2 (.box (.t 0)), oo 4 (.mv (.c .nils)), oo 5 (.mv (.c (.bool false)))]) (.seq (.seq (.reg [oo 13 (.ldn 3 (.t 2)), om 14 1, oo 15 (.bld [.nils, (.int .i64 (0)), (.int .i64 (0)), (.bool false)] []), oo 16 (cl 31 [(.t 13), (.t 14), (.c .nils), (.t 15)]), oo 6 (.new [.nils, (.int .i64 (0)), (.int .i64 (0)), (.bool false)]), ⟨none, (.st 4 (.t 6) (.t 16)), none, []⟩]) (.seq (.reg [oo 17 (.fa 1 (.t 6)), oo 18 (.ld (.t 17)), oo 19 (.ar .eql (.t 18) (ci 0))]) (.cond (.t 19) (.seq (.reg [oo 4 (.mv (.c .nils)), oo 5 (.mv (.c (.bool false)))]) .ret) .skip))) (.seq (.reg [oo 20 (.bsl 1 0 [(.int .i64 (0))] []), om 7 20, oo 8 (.mv (.c (.bool false)))]) (.seq (.seq (.reg [oo 9 (.mv (ci 0))]) (.block 0 (.loop 902 (.seq (.seq (.reg [om 21 9, om 22 1, oo 23 (.len (.t 22)), oo 24 (.conv .u64 (.t 23)), oo 25 (.sh .shl (ci 1) (.t 24)), oo 26 (.ar .lss (.t 21) (.t 25))]) (.cond (.t 26) .skip (.exit 0))) (.seq (.block 1 (.seq (.reg [om 30 1, om 31 9, oo 32 (cl 78 [(.t 30), (.t 31)]), om 29 32, oo 33 (.ext 0 (.t 29)), oo 34 (.ext 1 (.t 29)), om 10 33, om 11 34]) (.seq (.seq (.reg [om 35 8, om 36 35, og 37 (.mv (.t 11)) 36 true, og 38 (.len (.t 37)) 36 true, og 39 (.mv (.t 7)) 36 true, og 40 (.len (.t 39)) 36 true, og 41 (.ar .gtr (.t 38) (.t 40)) 36 true, og 42 (.mv (.t 41)) 36 true, og 43 (.mv (.t 11)) 42 false, og 44 (.len (.t 43)) 42 false, og 45 (.mv (.t 7)) 42 false, og 46 (.len (.t 45)) 42 false, og 47 (.ar .eql (.t 44) (.t 46)) 42 false, og 48 (.mv (.t 47)) 42 false, og 49 (.mv (.t 11)) 48 true, og 50 (.mv (.t 7)) 48 true, og 51 (cl 79 [(.t 49), (.t 50)]) 48 true, og 52 (.un .not (.t 51)) 48 true, og 53 (.pick (.t 48) (.t 52) (.c (.bool false))) 42 false, og 54 (.pick (.t 42) (.c (.bool true)) (.t 53)) 36 true, oo 55 (.pick (.t 36) (.t 54) (.c (.bool false)))]) (.cond (.t 55) (.exit 1) .skip)) (.seq (.reg [oo 56 (.ldn 3 (.t 2)), om 57 10, oo 58 (.bld [.nils, (.int .i64 (0)), (.int .i64 (0)), (.bool false)] []), oo 59 (cl 31 [(.t 56), (.t 57), (.c .nils), (.t 58)]), oo 12 (.new [.nils, (.int .i64 (0)), (.int .i64 (0)), (.bool false)]), ⟨none, (.st 4 (.t 12) (.t 59)), none, []⟩]) (.seq (.reg [oo 60 (.fa 1 (.t 12)), oo 61 (.ld (.t 60)), oo 62 (.ar .gtr (.t 61) (ci 0))]) (.cond (.t 62) (.reg [om 63 11, om 7 63, oo 8 (.mv (.c (.bool true)))]) .skip)))))) (.reg [om 27 9, oo 28 (.ar .add (.t 27) (ci 1)), om 9 28])))))) (.seq (.reg [om 64 7, om 65 8, om 4 64, om 5 65]) .ret))))), 66, [(.tmp 4), (.tmp 5)], false, fun _ => none, fun _ _ => none⟩
noncomputable def c35 : CFn := ⟨(.seq (.reg [oo 4 (.box (.t 0)), oo 7 (.box (.t 3)), oo 8 (.mv (.c .nils)), oo 9 (.mv (ci 0))]) (.seq (.reg [oo 14 (.ldn 3 (.t 4)), om 15 1, om 16 2, oo 17 (cl 61 [(.t 14), (.t 15), (.t 16)]), om 13 17, oo 18 (.ext 0 (.t 13)), oo 19 (.ext 1 (.t 13)), oo 10 (.new [(.int .i64 (0)), .nils, .nils, .nils]), ⟨none, (.st 4 (.t 10) (.t 18)), none, []⟩, om 11 19]) (.seq (.block 0 (.seq (.reg [om 21 11, oo 22 (.ar .neq (.t 21) (ci 0)), om 20 22]) (.cond (.t 20) (.seq (.reg [om 23 11, oo 8 (.mv (.c .nils)), om 9 23]) .ret) (.seq (.reg [oo 25 (.fa 2 (.t 4)), oo 26 (.ld (.t 25)), oo 27 (.len (.t 26)), oo 28 (.ar .eql (.t 27) (ci 10)), om 24 28]) (.cond (.t 24) (.seq (.reg [oo 8 (.mv (.c .nils)), oo 9 (.mv (ci 5))]) .ret) (.seq (.reg [oo 30 (.ldn 3 (.t 4)), oo 31 (.ldn 3 (.t 7)), oo 32 (cl 80 [(.t 30), (.t 31)]), oo 33 (.un .not (.t 32)), om 29 33]) (.cond (.t 29) (.seq (.reg [oo 8 (.mv (.c .nils)), oo 9 (.mv (ci 3))]) .ret) .skip))))))) (.seq (.reg [oo 34 (.ldn 4 (.t 10)), om 35 2, oo 36 (cl 64 [(.t 34), (.t 35)]), oo 12 (.new [.nils]), ⟨none, (.st 1 (.t 12) (.t 36)), none, []⟩]) (.seq (.drw [oo 37 (.fa 2 (.t 4)), oo 38 (.ld (.t 37)), oo 39 (cl 81 [(.t 38)]), op 40 (.ldn 3 (.t 7)) [0, 1, 2], op 41 (.bsl 3 1 [(.int .i64 (0)), (.int .i64 (0)), (.int .i64 (0))] [(0, (.t 40))]) [0, 1, 2], oo 42 (.app 3 (.t 39) (.t 41)), oo 43 (.fa 0 (.t 10)), oo 44 (.fa 2 (.t 43)), ⟨none, (.st 1 (.t 44) (.t 42)), none, []⟩]) (.seq (.reg [oo 45 (.ldn 4 (.t 10)), om 46 2, oo 47 (cl 64 [(.t 45), (.t 46)]), oo 48 (.mkf 83 [] [(.t 12)]), oo 49 (cl 82 [(.t 47), (.t 48)]), om 8 49, oo 9 (.mv (ci 0))]) .ret)))))), 50, [(.tmp 8), (.tmp 9)], false, fun _ => none, fun _ _ => none⟩
noncomputable def c36 : CFn := ⟨(.seq (.reg [oo 2 (.box (.t 0)), oo 3 (.box (.t 1)), oo 4 (.mv (.c (.bool false)))]) (.seq (.reg [oo 5 (.fa 0 (.t 3)), oo 6 (.ld (.t 5)), oo 7 (.fa 0 (.t 2)), oo 8 (.ld (.t 7)), oo 9 (.ar .sub (.t 8) (ci 1)), oo 10 (cl 39 [(.t 6), (ci 0), (.t 9)]), om 11 10, og 12 (.fa 1 (.t 3)) 11 true, og 13 (.ld (.t 12)) 11 true, og 14 (cl 39 [(.t 13), (ci 0), (ci 100000)]) 11 true, oo 15 (.pick (.t 11) (.t 14) (.c (.bool false))), om 16 15, og 17 (.fa 2 (.t 3)) 16 true, og 18 (.ld (.t 17)) 16 true, og 19 (cl 39 [(.t 18), (ci 0), (ci 100000)]) 16 true, oo 20 (.pick (.t 16) (.t 19) (.c (.bool false))), om 21 20, og 22 (.fa 1 (.t 3)) 21 true, og 23 (.ld (.t 22)) 21 true, og 24 (.fa 2 (.t 3)) 21 true, og 25 (.ld (.t 24)) 21 true, og 26 (.ar .lss (.t 23) (.t 25)) 21 true, oo 27 (.pick (.t 21) (.t 26) (.c (.bool false))), om 4 27]) .ret)), 28, [(.tmp 4)], false, fun _ => none, fun _ _ => none⟩
noncomputable def c38 : CFn := ⟨(.seq (.reg [oo 4 (.box (.t 0)), oo 5 (.box (.t 1)), oo 6 (.box (.t 2)), oo 7 (.box (.t 3)), oo 8 (.mv (ci 0)), oo 9 (.mv (ci 0))]) (.seq (.reg [oo 17 (.ldn 3 (.t 4)), oo 18 (.ld (.t 5)), oo 19 (.ld (.t 6)), oo 20 (cl 61 [(.t 17), (.t 18), (.t 19)]), om 16 20, oo 21 (.ext 0 (.t 16)), oo 22 (.ext 1 (.t 16)), oo 10 (.new [(.int .i64 (0)), .nils, .nils, .nils]), ⟨none, (.st 4 (.t 10) (.t 21)), none, []⟩, om 11 22]) (.seq (.block 0 (.seq (.reg [om 24 11, oo 25 (.ar .neq (.t 24) (ci 0)), om 23 25]) (.cond (.t 23) (.seq (.reg [om 26 11, oo 8 (.mv (ci 0)), om 9 26]) .ret) (.seq (.reg [oo 28 (.ld (.t 5)), oo 29 (.len (.t 28)), oo 30 (.ar .sub (.t 29) (ci 1)), oo 31 (.ld (.t 7)), oo 32 (.bsl 1 1 [(.int .i64 (0))] [(0, (.t 31))]), oo 33 (cl 85 [(ci 0), (.t 30), (.t 32)]), oo 34 (.un .not (.t 33)), om 27 34]) (.cond (.t 27) (.seq (.reg [oo 8 (.mv (ci 0)), oo 9 (.mv (ci 7))]) .ret) (.seq (.reg [oo 36 (.ldn 4 (.t 10)), oo 37 (.ld (.t 6)), oo 38 (cl 64 [(.t 36), (.t 37)]), oo 39 (.len (.t 38)), oo 40 (.ar .gtr (.t 39) (ci 0)), om 35 40]) (.cond (.t 35) (.seq (.reg [oo 8 (.mv (ci 0)), oo 9 (.mv (ci 9))]) .ret) .skip))))))) (.seq (.reg [oo 41 (.ld (.t 5)), oo 42 (cl 86 [(.t 41)]), oo 43 (.fa 3 (.t 10)), ⟨none, (.st 1 (.t 43) (.t 42)), none, []⟩]) (.seq (.reg [oo 44 (.mkf 87 [] [(.t 5), (.t 7), (.t 10), (.t 6)]), om 12 44]) (.seq (.reg [oo 13 (.mv (ci 0)), oo 14 (.mv (ci 10000))]) (.seq (.block 1 (.loop 28672 (.seq (.seq (.reg [om 45 13, om 46 14, oo 47 (.ar .lss (.t 45) (.t 46))]) (.cond (.t 47) .skip (.exit 1))) (.block 2 (.seq (.reg [om 48 13, om 49 14, oo 50 (.ar .add (.t 48) (.t 49)), oo 51 (.ar .add (.t 50) (ci 1)), oo 52 (.ar .quo (.t 51) (ci 2)), om 15 52]) (.seq (.reg [om 53 12, om 54 15, oo 55 (.call (.t 53) [(.t 54)])]) (.cond (.t 55) (.reg [om 56 15, oo 57 (.ar .sub (.t 56) (ci 1)), om 14 57]) (.reg [om 58 15, om 13 58])))))))) (.seq (.reg [om 59 13, om 8 59, oo 9 (.mv (ci 0))]) .ret)))))))), 60, [(.tmp 8), (.tmp 9)], false, fun _ => none, fun _ _ => none⟩
noncomputable def c39 : CFn := ⟨(.seq (.reg [oo 6 (.mv (.c (.bool false)))]) (.seq (.reg [om 7 0, om 8 1, oo 9 (.ar .geq (.t 7) (.t 8)), om 10 9, og 11 (.mv (.t 0)) 10 true, og 12 (.mv (.t 2)) 10 true, og 13 (.ar .leq (.t 11) (.t 12)) 10 true, oo 14 (.pick (.t 10) (.t 13) (.c (.bool false))), om 6 14]) .ret)), 15, [(.tmp 6)], false, fun _ => none, fun _ _ => none⟩
noncomputable def c43 : CFn := ⟨(.seq (.reg [oo 3 (.box (.t 0)), oo 6 (.mv (.c .nils)), oo 7 (.mv (ci 0))]) (.seq (.reg [oo 11 (.ldn 3 (.t 3)), om 12 1, om 13 2, oo 14 (cl 61 [(.t 11), (.t 12), (.t 13)]), om 10 14, oo 15 (.ext 0 (.t 10)), oo 16 (.ext 1 (.t 10)), oo 8 (.new [(.int .i64 (0)), .nils, .nils, .nils]), ⟨none, (.st 4 (.t 8) (.t 15)), none, []⟩, om 9 16]) (.seq (.seq (.reg [om 17 9, oo 18 (.ar .neq (.t 17) (ci 0))]) (.cond (.t 18) (.seq (.reg [om 19 9, oo 6 (.mv (.c .nils)), om 7 19]) .ret) .skip)) (.seq (.reg [oo 20 (.ldn 4 (.t 8)), om 21 2, oo 22 (cl 62 [(.t 20), (.t 21)]), oo 23 (.part 0 (.t 22)), om 6 23, oo 7 (.mv (ci 0))]) .ret)))), 24, [(.tmp 6), (.tmp 7)], false, fun _ => none, fun _ _ => none⟩
end Go.Proofs.YtjjapdagllclkaaGreat.Tab
set_option maxRecDepth 100000
namespace Go.Proofs.YtjjapdagllclkaaGreat.Tab
open Go Go.Abs
noncomputable def c57 : CFn := ⟨(.seq (.reg [oo 2 (.new [(.int .i64 (0)), .nils, .nils])]) (.seq (.reg [oo 3 (.bsl 1 2 [(.int .i64 (0))] [(0, (ci 0)), (1, (ci 10))]), oo 4 (.bsl 1 2 [(.int .i64 (0))] [(0, (ci 20)), (1, (ci 0))]), oo 5 (.bsl 1 2 [.nils] [(0, (.t 3)), (1, (.t 4))]), om 6 0, oo 7 (.bld [(.int .i64 (0)), .nils, .nils] [(0, (1, (ci 2))), (1, (1, (.t 5))), (2, (1, (.t 6)))]), ⟨none, (.st 3 (.t 2) (.t 7)), none, []⟩]) .ret)), 8, [(.ldn 3 2)], false, fun _ => none, fun _ _ => none⟩
noncomputable def c58 : CFn := ⟨(.seq (.reg [oo 2 (.mv (.c .nils))]) (.seq (.reg [oo 3 (.bsl 1 2 [(.int .i64 (0))] [(0, (ci 30)), (1, (ci 40))]), oo 4 (.bld [(.int .i64 (0)), (.int .i64 (0)), (.int .i64 (0)), .nils] [(2, (1, (ci 100))), (3, (1, (.t 3)))]), om 5 0, oo 6 (.bsl 1 2 [(.int .i64 (0))] [(0, (ci 20)), (1, (ci 20))]), oo 7 (.bld [(.int .i64 (0)), (.int .i64 (0)), (.int .i64 (0)), .nils] [(0, (1, (ci 1))), (2, (1, (.t 5))), (3, (1, (.t 6)))]), oo 8 (.bsl 1 2 [(.int .i64 (0))] [(0, (ci 10)), (1, (ci 0))]), oo 9 (.bld [(.int .i64 (0)), (.int .i64 (0)), (.int .i64 (0)), .nils] [(1, (1, (ci 15))), (2, (1, (ci 130))), (3, (1, (.t 8)))]), oo 10 (.bsl 4 3 [(.int .i64 (0)), (.int .i64 (0)), (.int .i64 (0)), .nils] [(0, (.t 4)), (1, (.t 7)), (2, (.t 9))]), om 2 10]) .ret)), 11, [(.tmp 2)], false, fun _ => none, fun _ _ => none⟩
noncomputable def c59 : CFn := ⟨(.seq (.reg [oo 1 (.box (.t 0)), oo 2 (.new [(.int .i64 (0)), .nils, .nils])]) (.seq (.drw [oo 5 (.fa 0 (.t 1)), oo 6 (.ld (.t 5)), op 7 (.bsl 3 0 [(.int .i64 (0)), (.int .i64 (0)), (.int .i64 (0))] []) [0, 1], op 8 (.fa 2 (.t 1)) [0, 1, 2], op 9 (.ld (.t 8)) [0, 1, 2], op 10 (.app 3 (.t 7) (.t 9)) [0, 1], oo 11 (.bld [(.int .i64 (0)), .nils, .nils] [(0, (1, (.t 6))), (2, (1, (.t 10)))]), op 3 (.new [(.int .i64 (0)), .nils, .nils]) [0, 1, 2, 3, 4, 5, 6], ⟨none, (.st 3 (.t 3) (.t 11)), none, []⟩]) (.seq (.seq (.reg [oo 4 (.mv (ci 0))]) (.block 0 (.loop 30 (.seq (.seq (.reg [om 12 4, oo 13 (.fa 1 (.t 1)), oo 14 (.ld (.t 13)), oo 15 (.len (.t 14)), oo 16 (.ar .lss (.t 12) (.t 15))]) (.cond (.t 16) .skip (.exit 0))) (.seq (.block 1 (.drw [oo 19 (.fa 1 (.t 3)), oo 20 (.ld (.t 19)), op 21 (.bsl 1 0 [(.int .i64 (0))] []) [0, 1], op 22 (.fa 1 (.t 1)) [0, 1, 2], op 23 (.ld (.t 22)) [0, 1, 2], op 24 (.mv (.t 4)) [0, 1, 2, 3, 4], op 25 (.ias 1 (.t 23) (.t 24)) [0, 1, 2], op 26 (.ld (.t 25)) [0, 1, 2], op 27 (.app 1 (.t 21) (.t 26)) [0, 1], op 28 (.bsl 1 1 [.nils] [(0, (.t 27))]) [0, 1], oo 29 (.app 1 (.t 20) (.t 28)), oo 30 (.fa 1 (.t 3)), ⟨none, (.st 1 (.t 30) (.t 29)), none, []⟩])) (.reg [om 17 4, oo 18 (.ar .add (.t 17) (ci 1)), om 4 18])))))) (.seq (.reg [oo 31 (.ldn 3 (.t 3)), ⟨none, (.st 3 (.t 2) (.t 31)), none, []⟩]) .ret)))), 32, [(.ldn 3 2)], false, fun _ => none, fun _ _ => none⟩
noncomputable def c60 : CFn := ⟨(.seq (.reg [oo 2 (.mv (.c .nils))]) (.seq (.reg [oo 6 (.bsl 4 0 [(.int .i64 (0)), (.int .i64 (0)), (.int .i64 (0)), .nils] []), om 3 6]) (.seq (.seq (.reg [oo 4 (.mv (ci 0))]) (.block 0 (.loop 25 (.seq (.seq (.reg [om 7 4, om 8 0, oo 9 (.len (.t 8)), oo 10 (.ar .lss (.t 7) (.t 9))]) (.cond (.t 10) .skip (.exit 0))) (.seq (.block 1 (.seq (.reg [om 13 0, om 14 4, oo 15 (.ias 4 (.t 13) (.t 14)), oo 16 (.ldn 4 (.t 15)), oo 5 (.new [(.int .i64 (0)), (.int .i64 (0)), (.int .i64 (0)), .nils]), ⟨none, (.st 4 (.t 5) (.t 16)), none, []⟩]) (.seq (.reg [oo 17 (.bsl 1 0 [(.int .i64 (0))] []), oo 18 (.fa 3 (.t 5)), oo 19 (.ld (.t 18)), oo 20 (.app 1 (.t 17) (.t 19)), oo 21 (.fa 3 (.t 5)), ⟨none, (.st 1 (.t 21) (.t 20)), none, []⟩]) (.reg [om 22 3, oo 23 (.ldn 4 (.t 5)), oo 24 (.bsl 4 1 [(.int .i64 (0)), (.int .i64 (0)), (.int .i64 (0)), .nils] [(0, (.t 23))]), oo 25 (.app 4 (.t 22) (.t 24)), om 3 25])))) (.reg [om 11 4, oo 12 (.ar .add (.t 11) (ci 1)), om 4 12])))))) (.seq (.reg [om 26 3, om 2 26]) .ret)))), 27, [(.tmp 2)], false, fun _ => none, fun _ _ => none⟩
noncomputable def c61 : CFn := ⟨(.seq (.reg [oo 3 (.box (.t 0)), oo 6 (.new [(.int .i64 (0)), .nils, .nils, .nils]), oo 7 (.mv (ci 0))]) (.seq (.reg [oo 13 (.ldn 3 (.t 3)), om 14 1, oo 15 (cl 70 [(.t 13), (.t 14)]), om 12 15, oo 16 (.ext 0 (.t 12)), oo 17 (.ext 1 (.t 12)), oo 8 (.new [(.int .i64 (0)), .nils, .nils, .nils]), ⟨none, (.st 4 (.t 8) (.t 16)), none, []⟩, om 9 17]) (.seq (.seq (.reg [om 18 9, oo 19 (.ar .neq (.t 18) (ci 0))]) (.cond (.t 19) (.seq (.reg [oo 20 (.ldn 4 (.t 8)), om 21 9, ⟨none, (.st 4 (.t 6) (.t 20)), none, []⟩, om 7 21]) .ret) .skip)) (.seq (.seq (.reg [om 22 2, oo 23 (cl 101 [(.t 22)]), oo 24 (cl 100 [(.t 23)]), oo 25 (.len (.t 24)), oo 26 (.mv (ci 0))]) (.block 0 (.loop 117440838 (.seq (.reg [oo 27 (.ar .lss (.t 26) (.t 25))]) (.seq (.cond (.t 27) .skip (.exit 0)) (.seq (.block 1 (.seq (.reg [om 28 26, oo 29 (.ias 1 (.t 24) (.t 26)), oo 30 (.ld (.t 29)), om 10 28, om 11 30]) (.seq (.reg [om 31 11, om 32 10, oo 33 (.ar .neq (.t 31) (.t 32))]) (.cond (.t 33) (.seq (.reg [oo 34 (.ldn 4 (.t 8)), ⟨none, (.st 4 (.t 6) (.t 34)), none, []⟩, oo 7 (.mv (ci 6))]) .ret) .skip)))) (.reg [oo 35 (.ar .add (.t 26) (ci 1)), om 26 35]))))))) (.seq (.seq (.reg [om 36 2, oo 37 (.len (.t 36)), om 38 1, oo 39 (.len (.t 38)), oo 40 (.ar .neq (.t 37) (.t 39))]) (.cond (.t 40) (.seq (.reg [oo 41 (.ldn 4 (.t 8)), ⟨none, (.st 4 (.t 6) (.t 41)), none, []⟩, oo 7 (.mv (ci 6))]) .ret) .skip)) (.seq (.reg [oo 42 (.ldn 4 (.t 8)), ⟨none, (.st 4 (.t 6) (.t 42)), none, []⟩, oo 7 (.mv (ci 0))]) .ret)))))), 43, [(.ldn 4 6), (.tmp 7)], false, fun _ => none, fun _ _ => none⟩
noncomputable def c62 : CFn := ⟨(.seq (.reg [oo 2 (.box (.t 0)), oo 4 (.new [.nils, .nils])]) (.seq (.drw [oo 9 (.fa 3 (.t 2)), oo 10 (.ld (.t 9)), oo 11 (.len (.t 10)), oo 12 (.mks 1 [.nils] (.t 11) (.t 11)), op 13 (.fa 3 (.t 2)) [0, 1, 2, 3], op 14 (.ld (.t 13)) [0, 1, 2, 3], op 15 (.len (.t 14)) [0, 1, 2, 3], op 16 (.mks 1 [(.int .i64 (0))] (.t 15) (.t 15)) [0, 1, 2, 3], oo 17 (.bld [.nils, .nils] [(0, (1, (.t 12))), (1, (1, (.t 16)))]), op 5 (.new [.nils, .nils]) [0, 1, 2, 3, 4, 5, 6, 7, 8], ⟨none, (.st 2 (.t 5) (.t 17)), none, []⟩]) (.seq (.reg [oo 6 (.new [(.int .i64 (0)), (.int .i64 (0)), (.bool false), (.int .i64 (0)), (.int .i64 (0)), (.bool false), (.int .i64 (0)), (.int .i64 (0)), (.bool false), (.int .i64 (0)), (.int .i64 (0)), (.bool false)])]) (.seq (.seq (.reg [om 18 1, oo 19 (.len (.t 18)), oo 20 (.mv (ci 0))]) (.block 0 (.loop 1835124 (.seq (.reg [oo 21 (.ar .lss (.t 20) (.t 19))]) (.seq (.cond (.t 21) .skip (.exit 0)) (.seq (.block 1 (.seq (.reg [oo 22 (.ias 1 (.t 18) (.t 20)), oo 23 (.ld (.t 22)), om 8 23]) (.drw [oo 25 (.fa 0 (.t 5)), oo 26 (.ld (.t 25)), op 27 (.mv (.t 8)) [0, 1], op 28 (.fa 1 (.t 5)) [0, 1, 2], op 29 (.ld (.t 28)) [0, 1, 2], op 30 (.mv (.t 8)) [0, 1, 2, 3, 4], op 31 (.ldn 4 (.t 2)) [0, 1, 2, 3, 4, 5], op 32 (.fa 3 (.t 2)) [0, 1, 2, 3, 4, 5, 6], op 33 (.ld (.t 32)) [0, 1, 2, 3, 4, 5, 6], op 34 (.mv (.t 8)) [0, 1, 2, 3, 4, 5, 6, 7, 8], op 35 (.ias 4 (.t 33) (.t 34)) [0, 1, 2, 3, 4, 5, 6], op 36 (.ldn 4 (.t 35)) [0, 1, 2, 3, 4, 5, 6], op 37 (cl 102 [(.t 31), (.t 6), (.t 36)]) [0, 1, 2, 3, 4, 5], op 24 (.mv (.t 37)) [0, 1, 2, 3, 4, 5], op 38 (.ext 0 (.t 24)) [0, 1, 2, 3, 4, 5], op 39 (.ext 1 (.t 24)) [0, 1, 2, 3, 4, 5, 14], op 40 (.ias 1 (.t 26) (.t 27)) [3, 4, 5, 15], ⟨none, (.st 1 (.t 40) (.t 38)), none, [3, 4, 5, 15]⟩, oo 41 (.ias 1 (.t 29) (.t 30)), ⟨none, (.st 1 (.t 41) (.t 39)), none, []⟩]))) (.reg [oo 42 (.ar .add (.t 20) (ci 1)), om 20 42]))))))) (.seq (.reg [oo 43 (.ldn 2 (.t 5)), ⟨none, (.st 2 (.t 4) (.t 43)), none, []⟩]) .ret))))), 44, [(.ldn 2 4)], false, fun _ => none, fun _ _ => none⟩
noncomputable def c63 : CFn := ⟨(.seq (.reg [oo 3 (.box (.t 0)), oo 4 (.box (.t 1)), oo 6 (.new [(.int .i64 (0)), (.int .i64 (0))])]) (.seq (.reg [oo 7 (.fa 0 (.t 3)), oo 8 (.ld (.t 7)), om 9 2, oo 10 (.fa 2 (.t 4)), oo 11 (.ld (.t 10)), oo 12 (.ar .sub (.t 9) (.t 11)), oo 13 (.mx [(ci 0), (.t 12)]), oo 14 (.ar .add (.t 8) (.t 13)), oo 15 (.fa 1 (.t 3)), oo 16 (.ld (.t 15)), om 17 2, oo 18 (.mx [(.t 16), (.t 17)]), oo 19 (.bld [(.int .i64 (0)), (.int .i64 (0))] [(0, (1, (.t 14))), (1, (1, (.t 18)))]), ⟨none, (.st 2 (.t 6) (.t 19)), none, []⟩]) .ret)), 20, [(.ldn 2 6)], false, fun _ => none, fun _ _ => none⟩
noncomputable def c64 : CFn := ⟨(.seq (.reg [oo 2 (.box (.t 0)), oo 4 (.mv (.c .nils))]) (.seq (.seq (.reg [oo 7 (.ldn 4 (.t 2)), om 8 1, oo 9 (cl 62 [(.t 7), (.t 8)]), oo 10 (.part 1 (.t 9)), oo 11 (.len (.t 10)), oo 12 (.mv (ci 0))]) (.block 0 (.loop 7188 (.seq (.reg [oo 13 (.ar .lss (.t 12) (.t 11))]) (.seq (.cond (.t 13) .skip (.exit 0)) (.seq (.block 1 (.seq (.reg [om 14 12, oo 15 (.ias 1 (.t 10) (.t 12)), oo 16 (.ld (.t 15)), om 5 14, om 6 16]) (.seq (.reg [om 17 6, oo 18 (.fa 3 (.t 2)), oo 19 (.ld (.t 18)), om 20 5, oo 21 (.ias 4 (.t 19) (.t 20)), oo 22 (.fa 2 (.t 21)), oo 23 (.ld (.t 22)), oo 24 (.ar .gtr (.t 17) (.t 23))]) (.cond (.t 24) (.reg [om 25 4, om 26 5, oo 27 (.bsl 1 1 [(.int .i64 (0))] [(0, (.t 26))]), oo 28 (.app 1 (.t 25) (.t 27)), om 4 28]) .skip)))) (.reg [oo 29 (.ar .add (.t 12) (ci 1)), om 12 29]))))))) (.seq (.reg [om 30 4, om 4 30]) .ret))), 31, [(.tmp 4)], false, fun _ => none, fun _ _ => none⟩
noncomputable def c65 : CFn := ⟨(.seq (.reg [om 5 0, oo 6 (.len (.t 5)), om 4 6]) (.reg [om 7 0, om 8 4, om 9 4, oo 10 (.conv .u64 (.t 9)), oo 11 (cl 104 [(.t 10)]), om 12 1, oo 13 (cl 103 [(.t 7), (ci 0), (.t 8), (.t 11), (.t 12)])])), 14, [], false, fun _ => none, fun _ _ => none⟩
noncomputable def c66 : CFn := ⟨(.seq (.reg [oo 2 (.box (.t 0)), oo 3 (.box (.t 1)), oo 4 (.mv (ci 0))]) (.seq (.reg [oo 5 (.fa 0 (.t 2)), oo 6 (.ld (.t 5)), oo 7 (.fa 0 (.t 3)), oo 8 (.ld (.t 7)), oo 9 (.ar .sub (.t 6) (.t 8)), oo 10 (.fa 1 (.t 2)), oo 11 (.ld (.t 10)), oo 12 (.fa 1 (.t 3)), oo 13 (.ld (.t 12)), oo 14 (.ar .sub (.t 11) (.t 13)), oo 15 (.bsl 1 2 [(.int .i64 (0))] [(0, (.t 9)), (1, (.t 14))]), oo 16 (cl 67 [(.t 15)]), om 4 16]) .ret)), 17, [(.tmp 4)], false, fun _ => none, fun _ _ => none⟩
noncomputable def c67 : CFn := ⟨(.seq (.reg [oo 2 (.mv (ci 0))]) (.seq (.reg [oo 3 (.mv (ci 0))]) (.seq (.seq (.reg [om 6 0, oo 7 (.len (.t 6)), oo 8 (.mv (ci 0))]) (.block 0 (.loop 456 (.seq (.reg [oo 9 (.ar .lss (.t 8) (.t 7))]) (.seq (.cond (.t 9) .skip (.exit 0)) (.seq (.block 1 (.seq (.reg [oo 10 (.ias 1 (.t 6) (.t 8)), oo 11 (.ld (.t 10)), om 5 11]) (.seq (.reg [om 12 5, om 13 3, oo 14 (.ar .neq (.t 12) (.t 13))]) (.cond (.t 14) (.seq (.reg [om 15 5, om 2 15]) .ret) .skip)))) (.reg [oo 16 (.ar .add (.t 8) (ci 1)), om 8 16]))))))) (.seq (.reg [om 17 3, om 2 17]) .ret)))), 18, [(.tmp 2)], false, fun _ => none, fun _ _ => none⟩
noncomputable def c68 : CFn := ⟨(.seq (.reg [oo 4 (.box (.t 0)), oo 8 (.mv (.c (.bool false)))]) (.seq (.seq (.reg [oo 9 (.mv (ci 0))]) (.block 0 (.loop 542 (.seq (.seq (.reg [om 11 9, oo 12 (.fa 2 (.t 4)), oo 13 (.ld (.t 12)), oo 14 (.len (.t 13)), oo 15 (.ar .lss (.t 11) (.t 14))]) (.cond (.t 15) .skip (.exit 0))) (.seq (.block 1 (.seq (.reg [oo 18 (.fa 2 (.t 4)), oo 19 (.ld (.t 18)), om 20 9, oo 21 (.ias 3 (.t 19) (.t 20)), oo 22 (.ldn 3 (.t 21)), oo 10 (.new [(.int .i64 (0)), (.int .i64 (0)), (.int .i64 (0))]), ⟨none, (.st 3 (.t 10) (.t 22)), none, []⟩]) (.seq (.reg [oo 23 (.fa 0 (.t 10)), oo 24 (.ld (.t 23)), om 25 1, oo 26 (.ar .eql (.t 24) (.t 25)), om 27 26, og 28 (.mv (.t 2)) 27 true, og 29 (.fa 1 (.t 10)) 27 true, og 30 (.ld (.t 29)) 27 true, og 31 (.mx [(.t 28), (.t 30)]) 27 true, og 32 (.mv (.t 2)) 27 true, og 33 (.mv (.t 3)) 27 true, og 34 (.ar .add (.t 32) (.t 33)) 27 true, og 35 (.fa 2 (.t 10)) 27 true, og 36 (.ld (.t 35)) 27 true, og 37 (.mn [(.t 34), (.t 36)]) 27 true, og 38 (.ar .lss (.t 31) (.t 37)) 27 true, oo 39 (.pick (.t 27) (.t 38) (.c (.bool false)))]) (.cond (.t 39) (.seq (.reg [oo 8 (.mv (.c (.bool true)))]) .ret) .skip)))) (.reg [om 16 9, oo 17 (.ar .add (.t 16) (ci 1)), om 9 17])))))) (.seq (.reg [oo 8 (.mv (.c (.bool false)))]) .ret))), 40, [(.tmp 8)], false, fun _ => none, fun _ _ => none⟩
noncomputable def c69 : CFn := ⟨(.seq (.reg [oo 3 (.box (.t 0)), oo 6 (.mv (ci 0))]) (.seq (.reg [oo 7 (.mv (ci 1073741824))]) (.seq (.seq (.reg [oo 8 (.mv (ci 0))]) (.block 0 (.loop 398 (.seq (.seq (.reg [om 10 8, oo 11 (.fa 2 (.t 3)), oo 12 (.ld (.t 11)), oo 13 (.len (.t 12)), oo 14 (.ar .lss (.t 10) (.t 13))]) (.cond (.t 14) .skip (.exit 0))) (.seq (.block 1 (.seq (.reg [oo 17 (.fa 2 (.t 3)), oo 18 (.ld (.t 17)), om 19 8, oo 20 (.ias 3 (.t 18) (.t 19)), oo 21 (.ldn 3 (.t 20)), oo 9 (.new [(.int .i64 (0)), (.int .i64 (0)), (.int .i64 (0))]), ⟨none, (.st 3 (.t 9) (.t 21)), none, []⟩]) (.seq (.reg [oo 22 (.fa 0 (.t 9)), oo 23 (.ld (.t 22)), om 24 1, oo 25 (.ar .eql (.t 23) (.t 24)), om 26 25, og 27 (.fa 2 (.t 9)) 26 true, og 28 (.ld (.t 27)) 26 true, og 29 (.mv (.t 2)) 26 true, og 30 (.ar .gtr (.t 28) (.t 29)) 26 true, oo 31 (.pick (.t 26) (.t 30) (.c (.bool false)))]) (.cond (.t 31) (.reg [om 32 7, oo 33 (.fa 2 (.t 9)), oo 34 (.ld (.t 33)), oo 35 (.mn [(.t 32), (.t 34)]), om 7 35]) .skip)))) (.reg [om 15 8, oo 16 (.ar .add (.t 15) (ci 1)), om 8 16])))))) (.seq (.reg [om 36 7, om 6 36]) .ret)))), 37, [(.tmp 6)], false, fun _ => none, fun _ _ => none⟩
noncomputable def c70 : CFn := ⟨(.seq (.reg [oo 2 (.box (.t 0)), oo 4 (.new [(.int .i64 (0)), .nils, .nils, .nils]), oo 5 (.mv (ci 0))]) (.seq (.reg [oo 7 (.mkf 105 [] [(.t 2)]), om 6 7]) (.seq (.block 0 (.seq (.seq (.reg [oo 9 (.fa 0 (.t 2)), oo 10 (.ld (.t 9)), oo 11 (.bsl 1 1 [(.int .i64 (0))] [(0, (.t 10))]), oo 12 (cl 85 [(ci 1), (ci 4), (.t 11)]), oo 13 (.un .not (.t 12)), om 8 13]) (.cond (.t 8) .skip (.seq (.reg [oo 14 (.fa 1 (.t 2)), oo 15 (.ld (.t 14)), oo 16 (.len (.t 15)), oo 17 (.bsl 1 1 [(.int .i64 (0))] [(0, (.t 16))]), oo 18 (cl 85 [(ci 1), (ci 4), (.t 17)]), oo 19 (.un .not (.t 18)), om 8 19]) (.cond (.t 8) .skip (.reg [oo 20 (.fa 1 (.t 2)), oo 21 (.ld (.t 20)), om 22 6, oo 23 (cl 94 [(.t 21), (.t 22)]), om 8 23]))))) (.cond (.t 8) (.seq (.reg [oo 24 (.ldn 4 (.t 4)), ⟨none, (.st 4 (.t 4) (.t 24)), none, []⟩, oo 5 (.mv (ci 2))]) .ret) (.seq (.reg [oo 26 (.fa 2 (.t 2)), oo 27 (.ld (.t 26)), oo 28 (.len (.t 27)), oo 29 (.ar .gtr (.t 28) (ci 10)), om 25 29]) (.cond (.t 25) (.seq (.reg [oo 30 (.ldn 4 (.t 4)), ⟨none, (.st 4 (.t 4) (.t 30)), none, []⟩, oo 5 (.mv (ci 5))]) .ret) (.seq (.reg [oo 32 (.fa 2 (.t 2)), oo 33 (.ld (.t 32)), oo 34 (.mkf 107 [] [(.t 2)]), oo 35 (cl 106 [(.t 33), (.t 34)]), om 31 35]) (.cond (.t 31) (.seq (.reg [oo 36 (.ldn 4 (.t 4)), ⟨none, (.st 4 (.t 4) (.t 36)), none, []⟩, oo 5 (.mv (ci 3))]) .ret) (.seq (.reg [om 38 1, oo 39 (.len (.t 38)), oo 40 (.ar .gtr (.t 39) (ci 6)), om 37 40]) (.cond (.t 37) (.seq (.reg [oo 41 (.ldn 4 (.t 4)), ⟨none, (.st 4 (.t 4) (.t 41)), none, []⟩, oo 5 (.mv (ci 8))]) .ret) (.seq (.reg [om 43 1, oo 44 (.mkf 109 [] [(.t 2)]), oo 45 (cl 108 [(.t 43), (.t 44)]), om 42 45]) (.cond (.t 42) (.seq (.reg [oo 46 (.ldn 4 (.t 4)), ⟨none, (.st 4 (.t 4) (.t 46)), none, []⟩, oo 5 (.mv (ci 4))]) .ret) .skip))))))))))) (.seq (.reg [oo 47 (.ldn 3 (.t 2)), om 48 1, oo 49 (.bld [(.int .i64 (0)), .nils, .nils, .nils] [(0, (3, (.t 47))), (3, (1, (.t 48)))]), ⟨none, (.st 4 (.t 4) (.t 49)), none, []⟩, oo 5 (.mv (ci 0))]) .ret)))), 50, [(.ldn 4 4), (.tmp 5)], false, fun _ => none, fun _ _ => none⟩
noncomputable def c71 : CFn := ⟨(.seq (.reg [oo 1 (.box (.t 0)), oo 2 (.mv (.c .nils)), oo 3 (.new [(.int .i64 (0)), (.int .i64 (0))])]) (.seq (.reg [oo 5 (.ldn 4 (.t 1)), oo 6 (.bld [(.int .i64 (0)), .nils, .nils, .nils, .nils, (.int .i64 (0)), (.int .i64 (0)), (.bool false)] [(0, (4, (.t 5)))]), oo 7 (.box (.t 6)), om 4 7]) (.seq (.reg [om 8 4, oo 9 (.bld [(.int .i64 (0)), (.int .i64 (0)), (.bool false), (.int .i64 (0)), (.int .i64 (0)), (.bool false), (.int .i64 (0)), (.int .i64 (0)), (.bool false), (.int .i64 (0)), (.int .i64 (0)), (.bool false)] []), oo 10 (.bld [(.int .i64 (0)), (.int .i64 (0))] []), oo 11 (cl 111 [(.t 8), (.c .nils), (.t 9), (.t 10)])]) (.seq (.drw [om 12 4, oo 13 (.chk (.t 12)), oo 14 (.fa 4 (.t 13)), oo 15 (.ld (.t 14)), op 16 (.mv (.t 4)) [0, 1, 2, 3], op 17 (.chk (.t 16)) [0, 1, 2, 3], op 18 (.fa 5 (.t 17)) [0, 1, 2, 3], op 19 (.ldn 2 (.t 18)) [0, 1, 2, 3], op 2 (.mv (.t 15)) [4, 5, 6, 7], ⟨none, (.st 2 (.t 3) (.t 19)), none, []⟩]) .ret)))), 20, [(.tmp 2), (.ldn 2 3)], false, fun _ => none, fun _ _ => none⟩
noncomputable def c72 : CFn := ⟨(.seq (.reg [oo 2 (.mv (ci 0))]) (.seq (.seq (.reg [om 5 0, oo 6 (.len (.t 5)), oo 7 (.mv (ci 0))]) (.block 0 (.loop 228 (.seq (.reg [oo 8 (.ar .lss (.t 7) (.t 6))]) (.seq (.cond (.t 8) .skip (.exit 0)) (.seq (.block 1 (.seq (.reg [oo 9 (.ias 1 (.t 5) (.t 7)), oo 10 (.ld (.t 9)), om 4 10]) (.reg [om 11 2, om 12 4, oo 13 (.ar .add (.t 11) (.t 12)), om 2 13]))) (.reg [oo 14 (.ar .add (.t 7) (ci 1)), om 7 14]))))))) (.seq (.reg [om 15 2, om 2 15]) .ret))), 16, [(.tmp 2)], false, fun _ => none, fun _ _ => none⟩
noncomputable def c73 : CFn := ⟨(.seq (.reg [oo 2 (.mv (ci 0))]) (.seq (.reg [oo 3 (.mv (ci 0))]) (.seq (.seq (.reg [oo 4 (.mv (ci 0))]) (.block 0 (.loop 25 (.seq (.seq (.reg [om 5 4, om 6 0, oo 7 (.len (.t 6)), oo 8 (.ar .lss (.t 5) (.t 7))]) (.cond (.t 8) .skip (.exit 0))) (.seq (.block 1 (.reg [om 11 3, om 12 0, om 13 4, oo 14 (.ias 1 (.t 12) (.t 13)), oo 15 (.ld (.t 14)), oo 16 (.ar .add (.t 11) (.t 15)), om 3 16])) (.reg [om 9 4, oo 10 (.ar .add (.t 9) (ci 1)), om 4 10])))))) (.seq (.reg [om 17 3, om 2 17]) .ret)))), 18, [(.tmp 2)], false, fun _ => none, fun _ _ => none⟩
noncomputable def c74 : CFn := ⟨(.seq (.reg [oo 2 (.box (.t 0)), oo 4 (.new [(.int .i64 (0)), .nils, .nils, .nils]), oo 5 (.mv (.c .nils))]) (.seq (.reg [oo 8 (.fa 0 (.t 2)), oo 9 (.ldn 3 (.t 8)), oo 10 (.bld [(.int .i64 (0)), .nils, .nils, .nils] [(0, (3, (.t 9)))]), ⟨none, (.st 4 (.t 4) (.t 10)), none, []⟩]) (.seq (.seq (.reg [oo 11 (.fa 3 (.t 2)), oo 12 (.ld (.t 11)), oo 13 (.len (.t 12)), oo 14 (.mv (ci 0))]) (.block 0 (.loop 28722 (.seq (.reg [oo 15 (.ar .lss (.t 14) (.t 13))]) (.seq (.cond (.t 15) .skip (.exit 0)) (.seq (.block 1 (.seq (.reg [om 16 14, oo 17 (.ias 4 (.t 12) (.t 14)), oo 18 (.ldn 4 (.t 17)), oo 7 (.new [(.int .i64 (0)), (.int .i64 (0)), (.int .i64 (0)), .nils]), om 6 16, ⟨none, (.st 4 (.t 7) (.t 18)), none, []⟩]) (.seq (.reg [om 19 1, om 20 6, oo 21 (.sh .shr (.t 19) (.t 20)), oo 22 (.ar .and (.t 21) (ci 1)), oo 23 (.ar .eql (.t 22) (ci 1))]) (.cond (.t 23) (.reg [oo 24 (.fa 3 (.t 4)), oo 25 (.ld (.t 24)), oo 26 (.ldn 4 (.t 7)), oo 27 (.bsl 4 1 [(.int .i64 (0)), (.int .i64 (0)), (.int .i64 (0)), .nils] [(0, (.t 26))]), oo 28 (.app 4 (.t 25) (.t 27)), om 29 5, om 30 6, oo 31 (.bsl 1 1 [(.int .i64 (0))] [(0, (.t 30))]), oo 32 (.app 1 (.t 29) (.t 31)), oo 33 (.fa 3 (.t 4)), ⟨none, (.st 1 (.t 33) (.t 28)), none, []⟩, om 5 32]) .skip)))) (.reg [oo 34 (.ar .add (.t 14) (ci 1)), om 14 34]))))))) (.seq (.reg [oo 35 (.ldn 4 (.t 4)), om 36 5, ⟨none, (.st 4 (.t 4) (.t 35)), none, []⟩, om 5 36]) .ret)))), 37, [(.ldn 4 4), (.tmp 5)], false, fun _ => none, fun _ _ => none⟩
noncomputable def c75 : CFn := ⟨(.seq (.reg [oo 4 (.mv (.c .nils))]) (.seq (.seq (.reg [om 7 0, oo 8 (.len (.t 7)), oo 9 (.ar .lss (.t 8) (ci 1))]) (.cond (.t 9) (.reg [oo 10 (.ld (.c (.bool false))), ⟨none, (.ld (.c (.bool false))), none, []⟩]) .skip)) (.seq (.reg [om 11 0, oo 12 (.ias 1 (.t 11) (ci 0)), oo 13 (.ld (.t 12)), om 5 13]) (.seq (.seq (.reg [oo 6 (.mv (ci 1))]) (.block 0 (.loop 99 (.seq (.seq (.reg [om 14 6, om 15 0, oo 16 (.len (.t 15)), oo 17 (.ar .lss (.t 14) (.t 16))]) (.cond (.t 17) .skip (.exit 0))) (.seq (.block 1 (.seq (.reg [om 20 1, om 21 0, om 22 6, oo 23 (.ias 1 (.t 21) (.t 22)), oo 24 (.ld (.t 23)), om 25 5, oo 26 (.call (.t 20) [(.t 24), (.t 25)]), oo 27 (.ar .lss (.t 26) (ci 0))]) (.cond (.t 27) (.reg [om 28 0, om 29 6, oo 30 (.ias 1 (.t 28) (.t 29)), oo 31 (.ld (.t 30)), om 5 31]) .skip))) (.reg [om 18 6, oo 19 (.ar .add (.t 18) (ci 1)), om 6 19])))))) (.seq (.reg [om 32 5, om 4 32]) .ret))))), 33, [(.tmp 4)], false, fun _ => none, fun _ _ => none⟩
noncomputable def c76 : CFn := ⟨(.seq (.reg [oo 4 (.mv (ci 0))]) (.seq (.reg [om 5 0, oo 6 (.len (.t 5)), om 7 1, oo 8 (.len (.t 7)), oo 9 (.ar .sub (.t 6) (.t 8)), om 10 0, om 11 1, oo 12 (cl 77 [(.t 10), (.t 11)]), oo 13 (.bsl 1 2 [(.int .i64 (0))] [(0, (.t 9)), (1, (.t 12))]), oo 14 (cl 67 [(.t 13)]), om 4 14]) .ret)), 15, [(.tmp 4)], false, fun _ => none, fun _ _ => none⟩
noncomputable def c77 : CFn := ⟨(.seq (.reg [oo 4 (.mv (ci 0))]) (.seq (.seq (.reg [om 9 0, oo 10 (.len (.t 9)), oo 11 (.mv (ci 0))]) (.block 0 (.loop 3587 (.seq (.reg [oo 12 (.ar .lss (.t 11) (.t 10))]) (.seq (.cond (.t 12) .skip (.exit 0)) (.seq (.block 1 (.seq (.reg [om 13 11, oo 14 (.ias 1 (.t 9) (.t 11)), oo 15 (.ld (.t 14)), om 5 13, om 6 15]) (.seq (.seq (.reg [om 16 5, om 17 1, oo 18 (.len (.t 17)), oo 19 (.ar .geq (.t 16) (.t 18))]) (.cond (.t 19) (.seq (.reg [oo 4 (.mv (ci 1))]) .ret) .skip)) (.seq (.reg [om 20 1, om 21 5, oo 22 (.ias 1 (.t 20) (.t 21)), oo 23 (.ld (.t 22)), om 7 23]) (.seq (.reg [om 24 6, om 25 7, oo 26 (cl 112 [(.t 24), (.t 25)]), om 8 26]) (.seq (.reg [om 27 8, oo 28 (.ar .neq (.t 27) (ci 0))]) (.cond (.t 28) (.seq (.reg [om 29 8, om 4 29]) .ret) .skip))))))) (.reg [oo 30 (.ar .add (.t 11) (ci 1)), om 11 30]))))))) (.seq (.seq (.reg [om 31 0, oo 32 (.len (.t 31)), om 33 1, oo 34 (.len (.t 33)), oo 35 (.ar .lss (.t 32) (.t 34))]) (.cond (.t 35) (.seq (.reg [oo 4 (.mv (ci (-1)))]) .ret) .skip)) (.seq (.reg [oo 4 (.mv (ci 0))]) .ret)))), 36, [(.tmp 4)], false, fun _ => none, fun _ _ => none⟩
noncomputable def c78 : CFn := ⟨(.seq (.reg [oo 4 (.mv (.c .nils)), oo 5 (.mv (.c .nils))]) (.seq (.reg [oo 9 (.bsl 4 0 [(.int .i64 (0)), (.int .i64 (0)), (.int .i64 (0)), .nils] []), oo 10 (.bsl 1 0 [(.int .i64 (0))] []), om 6 9, om 7 10]) (.seq (.seq (.reg [oo 8 (.mv (ci 0))]) (.block 0 (.loop 451 (.seq (.seq (.reg [om 11 8, om 12 0, oo 13 (.len (.t 12)), oo 14 (.ar .lss (.t 11) (.t 13))]) (.cond (.t 14) .skip (.exit 0))) (.seq (.block 1 (.seq (.reg [om 17 1, om 18 8, oo 19 (.conv .u64 (.t 18)), oo 20 (.sh .shr (.t 17) (.t 19)), oo 21 (.ar .and (.t 20) (ci 1)), oo 22 (.ar .eql (.t 21) (ci 1))]) (.cond (.t 22) (.reg [om 23 6, om 24 0, om 25 8, oo 26 (.ias 4 (.t 24) (.t 25)), oo 27 (.ldn 4 (.t 26)), oo 28 (.bsl 4 1 [(.int .i64 (0)), (.int .i64 (0)), (.int .i64 (0)), .nils] [(0, (.t 27))]), oo 29 (.app 4 (.t 23) (.t 28)), om 30 7, om 31 8, oo 32 (.bsl 1 1 [(.int .i64 (0))] [(0, (.t 31))]), oo 33 (.app 1 (.t 30) (.t 32)), om 6 29, om 7 33]) .skip))) (.reg [om 15 8, oo 16 (.ar .add (.t 15) (ci 1)), om 8 16])))))) (.seq (.reg [om 34 6, om 35 7, om 4 34, om 5 35]) .ret)))), 36, [(.tmp 4), (.tmp 5)], false, fun _ => none, fun _ _ => none⟩
noncomputable def c79 : CFn := ⟨(.seq (.reg [oo 4 (.mv (.c (.bool false)))]) (.seq (.seq (.reg [oo 5 (.mv (ci 0))]) (.block 0 (.loop 35 (.seq (.seq (.reg [om 6 5, om 7 0, oo 8 (.len (.t 7)), oo 9 (.ar .lss (.t 6) (.t 8))]) (.cond (.t 9) .skip (.exit 0))) (.seq (.block 1 (.seq (.drw [om 12 0, op 13 (.mv (.t 5)) [0], oo 14 (.ias 1 (.t 12) (.t 13)), oo 15 (.ld (.t 14)), op 16 (.mv (.t 1)) [0, 1, 2, 3], op 17 (.mv (.t 5)) [0, 1, 2, 3, 4], op 18 (.ias 1 (.t 16) (.t 17)) [0, 1, 2, 3], op 19 (.ld (.t 18)) [0, 1, 2, 3], oo 20 (.ar .neq (.t 15) (.t 19))]) (.cond (.t 20) (.seq (.drw [om 21 0, op 22 (.mv (.t 5)) [0], oo 23 (.ias 1 (.t 21) (.t 22)), oo 24 (.ld (.t 23)), op 25 (.mv (.t 1)) [0, 1, 2, 3], op 26 (.mv (.t 5)) [0, 1, 2, 3, 4], op 27 (.ias 1 (.t 25) (.t 26)) [0, 1, 2, 3], op 28 (.ld (.t 27)) [0, 1, 2, 3], oo 29 (.ar .lss (.t 24) (.t 28)), om 4 29]) .ret) .skip))) (.reg [om 10 5, oo 11 (.ar .add (.t 10) (ci 1)), om 5 11])))))) (.seq (.reg [oo 4 (.mv (.c (.bool false)))]) .ret))), 30, [(.tmp 4)], false, fun _ => none, fun _ _ => none⟩
noncomputable def c80 : CFn := ⟨(.seq (.reg [oo 2 (.box (.t 0)), oo 3 (.box (.t 1)), oo 4 (.mv (.c (.bool false)))]) (.seq (.reg [oo 5 (.fa 0 (.t 2)), oo 6 (.ld (.t 5)), oo 7 (.ar .sub (.t 6) (ci 1)), oo 8 (.fa 0 (.t 3)), oo 9 (.ld (.t 8)), oo 10 (.bsl 1 1 [(.int .i64 (0))] [(0, (.t 9))]), oo 11 (cl 85 [(ci 0), (.t 7), (.t 10)]), om 12 11, og 13 (.fa 1 (.t 3)) 12 true, og 14 (.ld (.t 13)) 12 true, og 15 (.fa 2 (.t 3)) 12 true, og 16 (.ld (.t 15)) 12 true, og 17 (.bsl 1 2 [(.int .i64 (0))] [(0, (.t 14)), (1, (.t 16))]) 12 true, og 18 (cl 113 [(.t 17)]) 12 true, oo 19 (.pick (.t 12) (.t 18) (.c (.bool false))), om 20 19, og 21 (.fa 1 (.t 3)) 20 true, og 22 (.ld (.t 21)) 20 true, og 23 (.fa 2 (.t 3)) 20 true, og 24 (.ld (.t 23)) 20 true, og 25 (.ar .lss (.t 22) (.t 24)) 20 true, oo 26 (.pick (.t 20) (.t 25) (.c (.bool false))), om 4 26]) .ret)), 27, [(.tmp 4)], false, fun _ => none, fun _ _ => none⟩
noncomputable def c81 : CFn := ⟨(.seq (.reg [oo 2 (.mv (.c .nils))]) (.seq (.seq (.reg [om 3 0, oo 4 (.snil false (.t 3) (.c .nils))]) (.cond (.t 4) (.seq (.reg [oo 2 (.mv (.c .nils))]) .ret) .skip)) (.seq (.reg [oo 5 (.bsl 3 0 [(.int .i64 (0)), (.int .i64 (0)), (.int .i64 (0))] []), om 6 0, oo 7 (.app 3 (.t 5) (.t 6)), om 2 7]) .ret))), 8, [(.tmp 2)], false, fun _ => none, fun _ _ => none⟩
noncomputable def c82 : CFn := ⟨(.seq (.reg [oo 4 (.mv (.c .nils))]) (.seq (.reg [om 8 0, om 9 1, oo 10 (cl 114 [(.t 8), (.t 9)]), om 5 10]) (.seq (.seq (.reg [om 11 5, oo 12 (.ar .eql (.t 11) (ci (-1)))]) (.cond (.t 12) (.seq (.reg [om 13 0, om 4 13]) .ret) .skip)) (.seq (.seq (.reg [om 14 5, oo 15 (.ar .add (.t 14) (ci 1)), om 6 15]) (.block 0 (.loop 99 (.seq (.seq (.reg [om 16 6, om 17 0, oo 18 (.len (.t 17)), oo 19 (.ar .lss (.t 16) (.t 18))]) (.cond (.t 19) .skip (.exit 0))) (.seq (.block 1 (.seq (.reg [om 22 0, om 23 6, oo 24 (.ias 1 (.t 22) (.t 23)), oo 25 (.ld (.t 24)), om 7 25]) (.seq (.reg [om 26 1, om 27 7, oo 28 (.call (.t 26) [(.t 27)]), oo 29 (.un .not (.t 28))]) (.cond (.t 29) (.seq (.reg [om 30 0, om 31 5, om 32 7, oo 33 (.ias 1 (.t 30) (.t 31)), ⟨none, (.st 1 (.t 33) (.t 32)), none, []⟩]) (.reg [om 34 5, oo 35 (.ar .add (.t 34) (ci 1)), om 5 35])) .skip)))) (.reg [om 20 6, oo 21 (.ar .add (.t 20) (ci 1)), om 6 21])))))) (.seq (.reg [om 36 0, om 37 5, oo 38 (.slc 1 (.t 36) (some (.t 37)) none none), ⟨none, (.clr 1 [(.int .i64 0)] (.t 38)), none, []⟩]) (.seq (.reg [om 39 0, om 40 5, oo 41 (.slc 1 (.t 39) none (some (.t 40)) none), om 4 41]) .ret)))))), 42, [(.tmp 4)], false, fun _ => none, fun _ _ => none⟩
noncomputable def c83 : CFn := ⟨(.seq (.reg [oo 3 (.mv (.c (.bool false)))]) (.seq (.reg [oo 4 (.ld (.t 1)), om 5 0, oo 6 (cl 84 [(.t 4), (.t 5)]), om 3 6]) .ret)), 7, [(.tmp 3)], false, fun _ => none, fun _ _ => none⟩
noncomputable def c84 : CFn := ⟨(.seq (.reg [oo 4 (.mv (.c (.bool false)))]) (.seq (.reg [om 5 0, om 6 1, oo 7 (cl 115 [(.t 5), (.t 6)]), oo 8 (.ar .geq (.t 7) (ci 0)), om 4 8]) .ret)), 9, [(.tmp 4)], false, fun _ => none, fun _ _ => none⟩
noncomputable def c85 : CFn := ⟨(.seq (.reg [oo 3 (.box (.t 0)), oo 4 (.box (.t 1)), oo 6 (.mv (.c (.bool false)))]) (.seq (.reg [om 7 2, oo 8 (.mkf 116 [] [(.t 3), (.t 4)]), oo 9 (cl 92 [(.t 7), (.t 8)]), oo 10 (.un .not (.t 9)), om 6 10]) .ret)), 11, [(.tmp 6)], false, fun _ => none, fun _ _ => none⟩
noncomputable def c86 : CFn := ⟨(.seq (.reg [oo 2 (.mv (.c .nils))]) (.seq (.seq (.reg [om 3 0, oo 4 (.snil false (.t 3) (.c .nils))]) (.cond (.t 4) (.seq (.reg [oo 2 (.mv (.c .nils))]) .ret) .skip)) (.seq (.reg [oo 5 (.bsl 4 0 [(.int .i64 (0)), (.int .i64 (0)), (.int .i64 (0)), .nils] []), om 6 0, oo 7 (.app 4 (.t 5) (.t 6)), om 2 7]) .ret))), 8, [(.tmp 2)], false, fun _ => none, fun _ _ => none⟩
noncomputable def c87 : CFn := ⟨(.seq (.reg [oo 6 (.mv (.c (.bool false)))]) (.seq (.drw [oo 7 (.fa 3 (.t 3)), oo 8 (.ld (.t 7)), op 9 (.ld (.t 2)) [0, 1], op 10 (.ld (.t 1)) [0, 1, 2], op 11 (.ld (.t 2)) [0, 1, 2, 3], op 12 (.ias 4 (.t 10) (.t 11)) [0, 1, 2], op 13 (.fa 1 (.t 12)) [0, 1, 2], op 14 (.ld (.t 13)) [0, 1, 2], op 15 (.mv (.t 0)) [0, 1, 2, 3, 4, 5, 6, 7], op 16 (.ar .add (.t 14) (.t 15)) [0, 1, 2], oo 17 (.ias 4 (.t 8) (.t 9)), oo 18 (.fa 1 (.t 17)), ⟨none, (.st 1 (.t 18) (.t 16)), none, []⟩]) (.seq (.reg [oo 19 (.ldn 4 (.t 3)), oo 20 (.ld (.t 4)), oo 21 (cl 64 [(.t 19), (.t 20)]), oo 22 (.len (.t 21)), oo 23 (.ar .gtr (.t 22) (ci 0)), om 6 23]) .ret))), 24, [(.tmp 6)], false, fun _ => none, fun _ _ => none⟩
noncomputable def c92 : CFn := ⟨(.seq (.reg [oo 4 (.mv (.c (.bool false)))]) (.seq (.reg [om 5 0, om 6 1, oo 7 (cl 114 [(.t 5), (.t 6)]), oo 8 (.ar .geq (.t 7) (ci 0)), om 4 8]) .ret)), 9, [(.tmp 4)], false, fun _ => none, fun _ _ => none⟩
noncomputable def c94 : CFn := ⟨(.seq (.reg [oo 4 (.mv (.c (.bool false)))]) (.seq (.reg [om 5 0, om 6 1, oo 7 (cl 118 [(.t 5), (.t 6)]), oo 8 (.ar .geq (.t 7) (ci 0)), om 4 8]) .ret)), 9, [(.tmp 4)], false, fun _ => none, fun _ _ => none⟩
noncomputable def c100 : CFn := ⟨(.seq (.reg [oo 2 (.mv (.c .nils))]) (.seq (.reg [om 4 0, oo 5 (cl 131 [(.t 4)]), om 3 5]) (.seq (.reg [om 6 3, oo 7 (cl 132 [(.t 6)])]) (.seq (.reg [om 8 3, om 2 8]) .ret)))), 9, [(.tmp 2)], false, fun _ => none, fun _ _ => none⟩
noncomputable def c101 : CFn := ⟨(.seq (.reg [oo 1 (.box (.t 0)), oo 2 (.mv (.c .nilf))]) (.seq (.reg [oo 3 (.mkf 133 [] [(.t 1)]), om 2 3]) .ret)), 4, [(.tmp 2)], false, fun _ => none, fun _ _ => none⟩
noncomputable def c102 : CFn := ⟨(.seq (.reg [oo 3 (.box (.t 0)), oo 5 (.box (.t 2)), oo 6 (.mv (.c .nils)), oo 7 (.mv (ci 0))]) (.seq (.reg [oo 12 (.fa 1 (.t 5)), oo 13 (.ld (.t 12)), om 8 13]) (.seq (.seq (.reg [oo 14 (.fa 3 (.t 5)), oo 15 (.ld (.t 14)), oo 16 (.len (.t 15)), oo 17 (.mv (ci 0))]) (.block 0 (.loop 229738 (.seq (.reg [oo 18 (.ar .lss (.t 17) (.t 16))]) (.seq (.cond (.t 18) .skip (.exit 0)) (.seq (.block 1 (.seq (.reg [om 19 17, oo 20 (.ias 1 (.t 15) (.t 17)), oo 21 (.ld (.t 20)), om 9 19, om 10 21]) (.seq (.seq (.reg [om 22 10, oo 23 (.ar .gtr (.t 22) (ci 0))]) (.cond (.t 23) (.seq (.seq (.reg [om 24 1, om 25 9, oo 26 (.chk (.t 24)), oo 27 (.iaa 4 3 (.t 26) (.t 25)), om 11 27]) (.seq (.reg [om 28 11, oo 29 (.chk (.t 28)), oo 30 (.fa 2 (.t 29)), oo 31 (.ld (.t 30))]) (.cond (.t 31) (.drw [om 32 8, op 33 (.mv (.t 11)) [0], op 34 (.chk (.t 33)) [0], op 35 (.fa 0 (.t 34)) [0], op 36 (.ld (.t 35)) [0], op 37 (.fa 0 (.t 3)) [0, 1, 2, 3, 4], op 38 (.fa 1 (.t 37)) [0, 1, 2, 3, 4], op 39 (.ld (.t 38)) [0, 1, 2, 3, 4], op 40 (.mv (.t 11)) [0, 1, 2, 3, 4, 5, 6, 7], op 41 (.chk (.t 40)) [0, 1, 2, 3, 4, 5, 6, 7], op 42 (.fa 1 (.t 41)) [0, 1, 2, 3, 4, 5, 6, 7], op 43 (.ld (.t 42)) [0, 1, 2, 3, 4, 5, 6, 7], op 44 (.ias 1 (.t 39) (.t 43)) [0, 1, 2, 3, 4], op 45 (.ld (.t 44)) [0, 1, 2, 3, 4], op 46 (.fa 0 (.t 5)) [0, 1, 2, 3, 4, 5, 6, 7, 8, 9, 10, 11, 12, 13], op 47 (.ld (.t 46)) [0, 1, 2, 3, 4, 5, 6, 7, 8, 9, 10, 11, 12, 13], op 48 (.ias 1 (.t 45) (.t 47)) [0, 1, 2, 3, 4], op 49 (.ld (.t 48)) [0, 1, 2, 3, 4], op 50 (.ar .add (.t 36) (.t 49)) [0], oo 51 (.mx [(.t 32), (.t 50)]), om 8 51]) .skip))) (.seq (.reg [oo 52 (.ldn 4 (.t 3)), om 53 9, om 54 8, om 55 10, oo 56 (cl 134 [(.t 52), (.t 53), (.t 54), (.t 55)]), om 8 56]) (.drw [om 57 1, op 58 (.mv (.t 9)) [0], op 59 (.mv (.t 1)) [0, 1], op 60 (.mv (.t 9)) [0, 1, 2], op 61 (.mv (.t 1)) [0, 1, 2, 3], op 62 (.mv (.t 9)) [0, 1, 2, 3, 4], op 63 (.mv (.t 8)) [0, 1, 2, 3, 4, 5], op 64 (.mv (.t 10)) [0, 1, 2, 3, 4, 5, 6], op 65 (.ar .add (.t 63) (.t 64)) [0, 1, 2, 3, 4, 5], op 66 (.fa 0 (.t 5)) [0, 1, 2, 3, 4, 5, 6, 7, 8], op 67 (.ld (.t 66)) [0, 1, 2, 3, 4, 5, 6, 7, 8], op 68 (.chk (.t 57)) [1, 2, 3, 4, 5, 6, 7, 8, 9, 10], op 69 (.iaa 4 3 (.t 68) (.t 58)) [2, 3, 4, 5, 9, 10], op 70 (.fa 0 (.t 69)) [2, 3, 4, 5, 9, 10], ⟨none, (.st 1 (.t 70) (.t 65)), none, [2, 3, 4, 5, 9, 10]⟩, op 71 (.chk (.t 59)) [0, 1, 3, 4, 5, 6, 7, 8, 9, 10, 11, 12, 13, 14], op 72 (.iaa 4 3 (.t 71) (.t 60)) [4, 5], op 73 (.fa 1 (.t 72)) [4, 5], ⟨none, (.st 1 (.t 73) (.t 67)), none, [4, 5]⟩, op 74 (.chk (.t 61)) [0, 1, 2, 3, 5, 6, 7, 8, 9, 10, 11, 12, 13, 14, 15, 16, 17, 18], oo 75 (.iaa 4 3 (.t 74) (.t 62)), oo 76 (.fa 2 (.t 75)), ⟨none, (.st 1 (.t 76) (.c (.bool true))), none, []⟩]))) .skip)) (.seq (.reg [om 77 6, om 78 8, oo 79 (.bsl 1 1 [(.int .i64 (0))] [(0, (.t 78))]), oo 80 (.app 1 (.t 77) (.t 79)), om 6 80]) (.reg [om 81 8, om 82 10, oo 83 (.ar .add (.t 81) (.t 82)), om 8 83]))))) (.reg [oo 84 (.ar .add (.t 17) (ci 1)), om 17 84]))))))) (.seq (.reg [om 85 6, om 86 8, om 6 85, om 7 86]) .ret)))), 87, [(.tmp 6), (.tmp 7)], false, fun _ => none, fun _ _ => none⟩
noncomputable def c103 : CFn := ⟨(.seq (.reg [oo 10 (.mv (.c (.bool true)))]) (.seq (.reg [oo 11 (.mv (.c (.bool true)))]) (.block 0 (.loop 3103 (.block 1 (.seq (.reg [om 21 2, om 22 1, oo 23 (.ar .sub (.t 21) (.t 22)), om 12 23]) (.seq (.seq (.reg [om 24 12, oo 25 (.ar .leq (.t 24) (ci 12))]) (.cond (.t 25) (.seq (.reg [om 26 0, om 27 1, om 28 2, om 29 4, oo 30 (cl 135 [(.t 26), (.t 27), (.t 28), (.t 29)])]) .ret) .skip)) (.seq (.seq (.reg [om 31 3, oo 32 (.ar .eql (.t 31) (ci 0))]) (.cond (.t 32) (.seq (.reg [om 33 0, om 34 1, om 35 2, om 36 4, oo 37 (cl 136 [(.t 33), (.t 34), (.t 35), (.t 36)])]) .ret) .skip)) (.seq (.seq (.reg [om 38 10, oo 39 (.un .not (.t 38))]) (.cond (.t 39) (.seq (.reg [om 40 0, om 41 1, om 42 2, om 43 4, oo 44 (cl 137 [(.t 40), (.t 41), (.t 42), (.t 43)])]) (.reg [om 45 3, oo 46 (.ar .sub (.t 45) (ci 1)), om 3 46])) .skip)) (.seq (.reg [om 48 0, om 49 1, om 50 2, om 51 4, oo 52 (cl 138 [(.t 48), (.t 49), (.t 50), (.t 51)]), om 47 52, oo 53 (.ext 0 (.t 47)), oo 54 (.ext 1 (.t 47)), om 13 53, om 14 54]) (.seq (.seq (.reg [om 55 14, oo 56 (.ar .eql (.t 55) (ci 2))]) (.cond (.t 56) (.seq (.reg [om 57 0, om 58 1, om 59 2, om 60 4, oo 61 (cl 139 [(.t 57), (.t 58), (.t 59), (.t 60)])]) (.seq (.reg [om 62 2, oo 63 (.ar .sub (.t 62) (ci 1)), om 64 13, om 65 1, oo 66 (.ar .sub (.t 64) (.t 65)), oo 67 (.ar .sub (.t 63) (.t 66)), om 13 67]) (.reg [oo 14 (.mv (ci 1))]))) .skip)) (.seq (.seq (.reg [om 68 10, om 69 68, og 70 (.mv (.t 11)) 69 true, oo 71 (.pick (.t 69) (.t 70) (.c (.bool false))), om 72 71, og 73 (.mv (.t 14)) 72 true, og 74 (.ar .eql (.t 73) (ci 1)) 72 true, oo 75 (.pick (.t 72) (.t 74) (.c (.bool false)))]) (.cond (.t 75) (.seq (.reg [om 76 0, om 77 1, om 78 2, om 79 4, oo 80 (cl 140 [(.t 76), (.t 77), (.t 78), (.t 79)])]) (.cond (.t 80) .ret .skip)) .skip)) (.seq (.seq (.drw [om 81 1, oo 82 (.ar .gtr (.t 81) (ci 0)), om 83 82, og 84 (.mv (.t 4)) 83 true, ⟨(some 85), (.mv (.t 0)), (some (83, true)), [3]⟩, ⟨(some 86), (.mv (.t 1)), (some (83, true)), [3, 4]⟩, ⟨(some 87), (.ar .sub (.t 86) (ci 1)), (some (83, true)), [3, 4]⟩, ⟨(some 88), (.ias 2 (.t 85) (.t 87)), (some (83, true)), [3]⟩, ⟨(some 89), (.ldn 2 (.t 88)), (some (83, true)), [3]⟩, ⟨(some 90), (.mv (.t 0)), (some (83, true)), [3, 4, 5, 6, 7, 8]⟩, ⟨(some 91), (.mv (.t 13)), (some (83, true)), [3, 4, 5, 6, 7, 8, 9]⟩, ⟨(some 92), (.ias 2 (.t 90) (.t 91)), (some (83, true)), [3, 4, 5, 6, 7, 8]⟩, ⟨(some 93), (.ldn 2 (.t 92)), (some (83, true)), [3, 4, 5, 6, 7, 8]⟩, og 94 (.call (.t 84) [(.t 89), (.t 93)]) 83 true, og 95 (.ar .lss (.t 94) (ci 0)) 83 true, og 96 (.un .not (.t 95)) 83 true, oo 97 (.pick (.t 83) (.t 96) (.c (.bool false)))]) (.cond (.t 97) (.seq (.reg [om 98 0, om 99 1, om 100 2, om 101 13, om 102 4, oo 103 (cl 141 [(.t 98), (.t 99), (.t 100), (.t 101), (.t 102)]), om 15 103]) (.seq (.reg [om 104 15, om 1 104]) (.exit 1))) .skip)) (.seq (.reg [om 106 0, om 107 1, om 108 2, om 109 13, om 110 4, oo 111 (cl 142 [(.t 106), (.t 107), (.t 108), (.t 109), (.t 110)]), om 105 111, oo 112 (.ext 0 (.t 105)), oo 113 (.ext 1 (.t 105)), om 16 112, om 17 113]) (.seq (.reg [om 114 17, om 11 114]) (.seq (.reg [om 115 16, om 116 1, oo 117 (.ar .sub (.t 115) (.t 116)), om 118 2, om 119 16, oo 120 (.ar .sub (.t 118) (.t 119)), om 18 117, om 19 120]) (.seq (.reg [om 121 12, oo 122 (.ar .quo (.t 121) (ci 8)), om 20 122]) (.seq (.reg [om 123 18, om 124 19, oo 125 (.ar .lss (.t 123) (.t 124))]) (.cond (.t 125) (.seq (.reg [om 126 18, om 127 20, oo 128 (.ar .geq (.t 126) (.t 127)), om 10 128]) (.seq (.reg [om 129 0, om 130 1, om 131 16, om 132 3, om 133 4, oo 134 (cl 103 [(.t 129), (.t 130), (.t 131), (.t 132), (.t 133)])]) (.reg [om 135 16, oo 136 (.ar .add (.t 135) (ci 1)), om 1 136]))) (.seq (.reg [om 137 19, om 138 20, oo 139 (.ar .geq (.t 137) (.t 138)), om 10 139]) (.seq (.reg [om 140 0, om 141 16, oo 142 (.ar .add (.t 141) (ci 1)), om 143 2, om 144 3, om 145 4, oo 146 (cl 103 [(.t 140), (.t 142), (.t 143), (.t 144), (.t 145)])]) (.reg [om 147 16, om 2 147])))))))))))))))))))))), 148, [], false, fun _ => none, fun _ _ => none⟩
noncomputable def c104 : CFn := ⟨(.seq (.reg [oo 2 (.mv (ci 0))]) (.seq (.cond (.c (.bool false)) (.seq (.reg [om 3 0, oo 4 (.conv .u32 (.t 3)), oo 5 (cl 143 [(.t 4)]), om 2 5]) .ret) .skip) (.seq (.reg [om 6 0, oo 7 (cl 144 [(.t 6)]), om 2 7]) .ret))), 8, [(.tmp 2)], false, fun _ => none, fun _ _ => none⟩
noncomputable def c105 : CFn := ⟨(.seq (.reg [oo 3 (.mv (.c (.bool false)))]) (.seq (.reg [om 4 0, oo 5 (.len (.t 4)), oo 6 (.fa 1 (.t 1)), oo 7 (.ld (.t 6)), oo 8 (.len (.t 7)), oo 9 (.ar .neq (.t 5) (.t 8)), om 10 9, og 11 (.mv (.t 0)) 10 false, og 12 (cl 85 [(ci 0), (ci 500), (.t 11)]) 10 false, og 13 (.un .not (.t 12)) 10 false, oo 14 (.pick (.t 10) (.c (.bool true)) (.t 13)), om 3 14]) .ret)), 15, [(.tmp 3)], false, fun _ => none, fun _ _ => none⟩
noncomputable def c106 : CFn := ⟨(.seq (.reg [oo 4 (.mv (.c (.bool false)))]) (.seq (.reg [om 5 0, om 6 1, oo 7 (cl 145 [(.t 5), (.t 6)]), oo 8 (.ar .geq (.t 7) (ci 0)), om 4 8]) .ret)), 9, [(.tmp 4)], false, fun _ => none, fun _ _ => none⟩
noncomputable def c107 : CFn := ⟨(.seq (.reg [oo 2 (.box (.t 0)), oo 3 (.mv (.c (.bool false)))]) (.seq (.reg [oo 4 (.ldn 3 (.t 1)), oo 5 (.ldn 3 (.t 2)), oo 6 (cl 80 [(.t 4), (.t 5)]), oo 7 (.un .not (.t 6)), om 3 7]) .ret)), 8, [(.tmp 3)], false, fun _ => none, fun _ _ => none⟩
noncomputable def c108 : CFn := ⟨(.seq (.reg [oo 4 (.mv (.c (.bool false)))]) (.seq (.reg [om 5 0, om 6 1, oo 7 (cl 146 [(.t 5), (.t 6)]), oo 8 (.ar .geq (.t 7) (ci 0)), om 4 8]) .ret)), 9, [(.tmp 4)], false, fun _ => none, fun _ _ => none⟩
noncomputable def c109 : CFn := ⟨(.seq (.reg [oo 2 (.box (.t 0)), oo 3 (.mv (.c (.bool false)))]) (.seq (.reg [oo 4 (.ldn 3 (.t 1)), oo 5 (.ldn 4 (.t 2)), oo 6 (cl 110 [(.t 4), (.t 5)]), oo 7 (.un .not (.t 6)), om 3 7]) .ret)), 8, [(.tmp 3)], false, fun _ => none, fun _ _ => none⟩
noncomputable def c110 : CFn := ⟨(.seq (.reg [oo 2 (.box (.t 0)), oo 3 (.box (.t 1)), oo 4 (.mv (.c (.bool false)))]) (.seq (.reg [oo 5 (.fa 1 (.t 2)), oo 6 (.ld (.t 5)), oo 7 (.len (.t 6)), oo 8 (.ar .sub (.t 7) (ci 1)), oo 9 (.fa 0 (.t 3)), oo 10 (.ld (.t 9)), oo 11 (.bsl 1 1 [(.int .i64 (0))] [(0, (.t 10))]), oo 12 (cl 85 [(ci 0), (.t 8), (.t 11)]), om 13 12, og 14 (.fa 1 (.t 3)) 13 true, og 15 (.ld (.t 14)) 13 true, og 16 (.fa 2 (.t 3)) 13 true, og 17 (.ld (.t 16)) 13 true, og 18 (.bsl 1 2 [(.int .i64 (0))] [(0, (.t 15)), (1, (.t 17))]) 13 true, og 19 (cl 113 [(.t 18)]) 13 true, oo 20 (.pick (.t 13) (.t 19) (.c (.bool false))), om 21 20, og 22 (.fa 3 (.t 3)) 21 true, og 23 (.ld (.t 22)) 21 true, og 24 (.len (.t 23)) 21 true, og 25 (.fa 0 (.t 2)) 21 true, og 26 (.ld (.t 25)) 21 true, og 27 (.ar .eql (.t 24) (.t 26)) 21 true, oo 28 (.pick (.t 21) (.t 27) (.c (.bool false))), om 29 28, og 30 (.fa 3 (.t 3)) 29 true, og 31 (.ld (.t 30)) 29 true, og 32 (cl 85 [(ci 0), (ci 2000), (.t 31)]) 29 true, oo 33 (.pick (.t 29) (.t 32) (.c (.bool false))), om 4 33]) .ret)), 34, [(.tmp 4)], false, fun _ => none, fun _ _ => none⟩
noncomputable def c111 : CFn := ⟨(.seq (.reg [oo 6 (.box (.t 2)), oo 7 (.box (.t 3))]) (.seq (.seq (.reg [om 13 0, oo 14 (.ldn 2 (.t 7)), oo 15 (cl 147 [(.t 13), (.t 14)])]) (.cond (.t 15) .ret .skip)) (.seq (.seq (.reg [om 16 1, oo 17 (.len (.t 16)), om 18 0, oo 19 (.chk (.t 18)), oo 20 (.fa 0 (.t 19)), oo 21 (.fa 3 (.t 20)), oo 22 (.ld (.t 21)), oo 23 (.len (.t 22)), oo 24 (.ar .eql (.t 17) (.t 23))]) (.cond (.t 24) (.seq (.drw [om 25 0, op 26 (.mv (.t 0)) [0], op 27 (.mv (.t 0)) [0, 1], op 28 (.mv (.t 1)) [0, 1, 2], op 29 (cl 148 [(.t 28)]) [0, 1, 2], op 30 (.ldn 2 (.t 7)) [0, 1, 2, 3, 4], op 31 (.chk (.t 25)) [1, 2, 5], op 32 (.fa 4 (.t 31)) [1, 2, 5], ⟨none, (.st 1 (.t 32) (.t 29)), none, [1, 2, 5]⟩, op 33 (.chk (.t 26)) [2], op 34 (.fa 5 (.t 33)) [2], ⟨none, (.st 2 (.t 34) (.t 30)), none, [2]⟩, oo 35 (.chk (.t 27)), oo 36 (.fa 7 (.t 35)), ⟨none, (.st 1 (.t 36) (.c (.bool true))), none, []⟩]) .ret) .skip)) (.seq (.reg [om 37 0, oo 38 (.chk (.t 37)), oo 39 (.fa 0 (.t 38)), oo 40 (.fa 3 (.t 39)), oo 41 (.ld (.t 40)), oo 42 (.len (.t 41)), oo 43 (.mv (ci 0))]) (.block 0 (.loop 15393162789059 (.seq (.reg [oo 44 (.ar .lss (.t 43) (.t 42))]) (.seq (.cond (.t 44) .skip (.exit 0)) (.seq (.block 1 (.seq (.reg [om 45 43, oo 46 (.ias 4 (.t 41) (.t 43)), oo 47 (.ldn 4 (.t 46)), oo 9 (.new [(.int .i64 (0)), (.int .i64 (0)), (.int .i64 (0)), .nils]), om 8 45, ⟨none, (.st 4 (.t 9) (.t 47)), none, []⟩]) (.seq (.seq (.reg [om 48 1, om 49 8, oo 50 (cl 84 [(.t 48), (.t 49)])]) (.cond (.t 50) (.exit 1) .skip)) (.seq (.reg [oo 51 (.ldn 12 (.t 6)), oo 10 (.new [(.int .i64 (0)), (.int .i64 (0)), (.bool false), (.int .i64 (0)), (.int .i64 (0)), (.bool false), (.int .i64 (0)), (.int .i64 (0)), (.bool false), (.int .i64 (0)), (.int .i64 (0)), (.bool false)]), ⟨none, (.st 12 (.t 10) (.t 51)), none, []⟩]) (.seq (.drw [om 53 0, oo 54 (.chk (.t 53)), oo 55 (.fa 0 (.t 54)), oo 56 (.ldn 4 (.t 55)), op 57 (.ldn 4 (.t 9)) [0, 1, 2, 3], oo 58 (cl 102 [(.t 56), (.t 10), (.t 57)]), om 52 58, oo 59 (.ext 0 (.t 52)), op 60 (.ext 1 (.t 52)) [7], op 11 (.mv (.t 59)) [8], om 12 60]) (.drw [om 61 0, op 62 (.mv (.t 1)) [0], op 63 (cl 149 [(.t 62)]) [0], op 64 (.mv (.t 8)) [0, 1, 2], op 65 (.bsl 1 1 [(.int .i64 (0))] [(0, (.t 64))]) [0, 1, 2], op 66 (.app 1 (.t 63) (.t 65)) [0], op 67 (.ldn 12 (.t 10)) [0, 1, 2, 3, 4, 5], op 68 (.ldn 2 (.t 7)) [0, 1, 2, 3, 4, 5, 6], op 69 (.ldn 4 (.t 9)) [0, 1, 2, 3, 4, 5, 6, 7], op 70 (.mv (.t 12)) [0, 1, 2, 3, 4, 5, 6, 7, 8], op 71 (cl 63 [(.t 68), (.t 69), (.t 70)]) [0, 6], oo 72 (cl 111 [(.t 61), (.t 66), (.t 67), (.t 71)])])))))) (.reg [oo 73 (.ar .add (.t 43) (ci 1)), om 43 73])))))))))), 74, [], false, fun _ => none, fun _ _ => none⟩
noncomputable def c112 : CFn := ⟨(.seq (.reg [oo 4 (.mv (ci 0))]) (.seq (.reg [om 7 0, oo 8 (cl 150 [(.t 7)]), om 5 8]) (.seq (.reg [om 9 1, oo 10 (cl 150 [(.t 9)]), om 6 10]) (.seq (.seq (.reg [om 11 5]) (.cond (.t 11) (.seq (.seq (.reg [om 12 6]) (.cond (.t 12) (.seq (.reg [oo 4 (.mv (ci 0))]) .ret) .skip)) (.seq (.reg [oo 4 (.mv (ci (-1)))]) .ret)) .skip)) (.seq (.seq (.reg [om 13 6]) (.cond (.t 13) (.seq (.reg [oo 4 (.mv (ci 1))]) .ret) .skip)) (.seq (.seq (.reg [om 14 0, om 15 1, oo 16 (.ar .lss (.t 14) (.t 15))]) (.cond (.t 16) (.seq (.reg [oo 4 (.mv (ci (-1)))]) .ret) .skip)) (.seq (.seq (.reg [om 17 0, om 18 1, oo 19 (.ar .gtr (.t 17) (.t 18))]) (.cond (.t 19) (.seq (.reg [oo 4 (.mv (ci 1))]) .ret) .skip)) (.seq (.reg [oo 4 (.mv (ci 0))]) .ret)))))))), 20, [(.tmp 4)], false, fun _ => none, fun _ _ => none⟩
noncomputable def c113 : CFn := ⟨(.seq (.reg [oo 2 (.mv (.c (.bool false)))]) (.seq (.reg [om 3 0, oo 4 (cl 85 [(ci 0), (ci 100000), (.t 3)]), om 2 4]) .ret)), 5, [(.tmp 2)], false, fun _ => none, fun _ _ => none⟩
noncomputable def c114 : CFn := ⟨(.seq (.reg [oo 4 (.mv (ci 0))]) (.seq (.seq (.reg [om 6 0, oo 7 (.len (.t 6)), oo 8 (.mv (ci 0))]) (.block 0 (.loop 387 (.seq (.reg [oo 9 (.ar .lss (.t 8) (.t 7))]) (.seq (.cond (.t 9) .skip (.exit 0)) (.seq (.block 1 (.seq (.reg [om 10 8, om 5 10]) (.seq (.reg [om 11 1, om 12 0, om 13 5, oo 14 (.ias 1 (.t 12) (.t 13)), oo 15 (.ld (.t 14)), oo 16 (.call (.t 11) [(.t 15)])]) (.cond (.t 16) (.seq (.reg [om 17 5, om 4 17]) .ret) .skip)))) (.reg [oo 18 (.ar .add (.t 8) (ci 1)), om 8 18]))))))) (.seq (.reg [oo 4 (.mv (ci (-1)))]) .ret))), 19, [(.tmp 4)], false, fun _ => none, fun _ _ => none⟩
noncomputable def c115 : CFn := ⟨(.seq (.reg [oo 4 (.mv (ci 0))]) (.seq (.seq (.reg [om 6 0, oo 7 (.len (.t 6)), oo 8 (.mv (ci 0))]) (.block 0 (.loop 387 (.seq (.reg [oo 9 (.ar .lss (.t 8) (.t 7))]) (.seq (.cond (.t 9) .skip (.exit 0)) (.seq (.block 1 (.seq (.reg [om 10 8, om 5 10]) (.seq (.reg [om 11 1, om 12 0, om 13 5, oo 14 (.ias 1 (.t 12) (.t 13)), oo 15 (.ld (.t 14)), oo 16 (.ar .eql (.t 11) (.t 15))]) (.cond (.t 16) (.seq (.reg [om 17 5, om 4 17]) .ret) .skip)))) (.reg [oo 18 (.ar .add (.t 8) (ci 1)), om 8 18]))))))) (.seq (.reg [oo 4 (.mv (ci (-1)))]) .ret))), 19, [(.tmp 4)], false, fun _ => none, fun _ _ => none⟩
noncomputable def c116 : CFn := ⟨(.seq (.reg [oo 4 (.mv (.c (.bool false)))]) (.seq (.reg [om 5 0, oo 6 (.ld (.t 1)), oo 7 (.ar .lss (.t 5) (.t 6)), om 8 7, og 9 (.mv (.t 0)) 8 false, og 10 (.ld (.t 2)) 8 false, og 11 (.ar .gtr (.t 9) (.t 10)) 8 false, oo 12 (.pick (.t 8) (.c (.bool true)) (.t 11)), om 4 12]) .ret)), 13, [(.tmp 4)], false, fun _ => none, fun _ _ => none⟩
noncomputable def c118 : CFn := ⟨(.seq (.reg [oo 4 (.mv (ci 0))]) (.seq (.seq (.reg [om 6 0, oo 7 (.len (.t 6)), oo 8 (.mv (ci 0))]) (.block 0 (.loop 387 (.seq (.reg [oo 9 (.ar .lss (.t 8) (.t 7))]) (.seq (.cond (.t 9) .skip (.exit 0)) (.seq (.block 1 (.seq (.reg [om 10 8, om 5 10]) (.seq (.reg [om 11 1, om 12 0, om 13 5, oo 14 (.ias 1 (.t 12) (.t 13)), oo 15 (.ld (.t 14)), oo 16 (.call (.t 11) [(.t 15)])]) (.cond (.t 16) (.seq (.reg [om 17 5, om 4 17]) .ret) .skip)))) (.reg [oo 18 (.ar .add (.t 8) (ci 1)), om 8 18]))))))) (.seq (.reg [oo 4 (.mv (ci (-1)))]) .ret))), 19, [(.tmp 4)], false, fun _ => none, fun _ _ => none⟩
noncomputable def c131 : CFn := ⟨(.seq (.reg [oo 2 (.mv (.c .nils))]) (.seq (.reg [om 3 0, oo 4 (cl 161 [(.c .nils), (.t 3)]), om 2 4]) .ret)), 5, [(.tmp 2)], false, fun _ => none, fun _ _ => none⟩
noncomputable def c132 : CFn := ⟨(.seq (.reg [om 3 0, oo 4 (.len (.t 3)), om 2 4]) (.reg [om 5 0, om 6 2, om 7 2, oo 8 (.conv .u64 (.t 7)), oo 9 (cl 104 [(.t 8)]), oo 10 (cl 162 [(.t 5), (ci 0), (.t 6), (.t 9)])])), 11, [], false, fun _ => none, fun _ _ => none⟩
noncomputable def c133 : CFn := ⟨(.seq (.reg [oo 5 (.ld (.t 1)), oo 6 (.len (.t 5)), oo 7 (.mv (ci 0))]) (.block 0 (.loop 225 (.seq (.reg [oo 8 (.ar .lss (.t 7) (.t 6))]) (.seq (.cond (.t 8) .skip (.exit 0)) (.seq (.block 1 (.seq (.reg [oo 9 (.ias 1 (.t 5) (.t 7)), oo 10 (.ld (.t 9)), om 4 10]) (.seq (.reg [om 11 0, om 12 4, oo 13 (.call (.t 11) [(.t 12)]), oo 14 (.un .not (.t 13))]) (.cond (.t 14) .ret .skip)))) (.reg [oo 15 (.ar .add (.t 7) (ci 1)), om 7 15]))))))), 16, [], false, fun _ => none, fun _ _ => none⟩
noncomputable def c134 : CFn := ⟨(.seq (.reg [oo 4 (.box (.t 0)), oo 8 (.mv (ci 0))]) (.seq (.seq (.reg [oo 9 (.mv (.c (.bool true)))]) (.block 0 (.loop 542 (.seq (.seq (.reg [om 12 9]) (.cond (.t 12) .skip (.exit 0))) (.block 1 (.seq (.reg [oo 9 (.mv (.c (.bool false)))]) (.seq (.reg [oo 13 (.fa 0 (.t 4)), oo 14 (.fa 2 (.t 13)), oo 15 (.ld (.t 14)), oo 16 (.len (.t 15)), oo 17 (.mv (ci 0))]) (.block 2 (.loop 229918 (.seq (.reg [oo 18 (.ar .lss (.t 17) (.t 16))]) (.seq (.cond (.t 18) .skip (.exit 2)) (.seq (.block 3 (.seq (.reg [oo 19 (.ias 3 (.t 15) (.t 17)), oo 20 (.ldn 3 (.t 19)), oo 11 (.new [(.int .i64 (0)), (.int .i64 (0)), (.int .i64 (0))]), ⟨none, (.st 3 (.t 11) (.t 20)), none, []⟩]) (.seq (.reg [oo 21 (.fa 0 (.t 11)), oo 22 (.ld (.t 21)), om 23 1, oo 24 (.ar .eql (.t 22) (.t 23)), om 25 24, og 26 (.mv (.t 2)) 25 true, og 27 (.fa 2 (.t 11)) 25 true, og 28 (.ld (.t 27)) 25 true, og 29 (.ar .lss (.t 26) (.t 28)) 25 true, oo 30 (.pick (.t 25) (.t 29) (.c (.bool false))), om 31 30, og 32 (.fa 1 (.t 11)) 31 true, og 33 (.ld (.t 32)) 31 true, og 34 (.mv (.t 2)) 31 true, og 35 (.mv (.t 3)) 31 true, og 36 (.ar .add (.t 34) (.t 35)) 31 true, og 37 (.ar .lss (.t 33) (.t 36)) 31 true, oo 38 (.pick (.t 31) (.t 37) (.c (.bool false)))]) (.cond (.t 38) (.reg [oo 39 (.fa 2 (.t 11)), oo 40 (.ld (.t 39)), om 2 40, oo 9 (.mv (.c (.bool true)))]) .skip)))) (.reg [oo 41 (.ar .add (.t 17) (ci 1)), om 17 41]))))))))))))) (.seq (.reg [om 42 2, om 8 42]) .ret))), 43, [(.tmp 8)], false, fun _ => none, fun _ _ => none⟩
noncomputable def c135 : CFn := ⟨(.seq (.reg [om 10 1, oo 11 (.ar .add (.t 10) (ci 1)), om 8 11]) (.block 0 (.loop 271 (.seq (.seq (.reg [om 12 8, om 13 2, oo 14 (.ar .lss (.t 12) (.t 13))]) (.cond (.t 14) .skip (.exit 0))) (.seq (.block 1 (.seq (.reg [om 17 8, om 9 17]) (.block 2 (.loop 783 (.seq (.seq (.drw [om 18 9, op 19 (.mv (.t 1)) [0], oo 20 (.ar .gtr (.t 18) (.t 19)), om 21 20, og 22 (.mv (.t 3)) 21 true, ⟨(some 23), (.mv (.t 0)), (some (21, true)), [4]⟩, ⟨(some 24), (.mv (.t 9)), (some (21, true)), [4, 5]⟩, ⟨(some 25), (.ias 2 (.t 23) (.t 24)), (some (21, true)), [4]⟩, ⟨(some 26), (.ldn 2 (.t 25)), (some (21, true)), [4]⟩, ⟨(some 27), (.mv (.t 0)), (some (21, true)), [4, 5, 6, 7, 8]⟩, ⟨(some 28), (.mv (.t 9)), (some (21, true)), [4, 5, 6, 7, 8, 9]⟩, ⟨(some 29), (.ar .sub (.t 28) (ci 1)), (some (21, true)), [4, 5, 6, 7, 8, 9]⟩, ⟨(some 30), (.ias 2 (.t 27) (.t 29)), (some (21, true)), [4, 5, 6, 7, 8]⟩, ⟨(some 31), (.ldn 2 (.t 30)), (some (21, true)), [4, 5, 6, 7, 8]⟩, og 32 (.call (.t 22) [(.t 26), (.t 31)]) 21 true, og 33 (.ar .lss (.t 32) (ci 0)) 21 true, oo 34 (.pick (.t 21) (.t 33) (.c (.bool false)))]) (.cond (.t 34) .skip (.exit 2))) (.seq (.block 3 (.drw [om 37 0, op 38 (.mv (.t 9)) [0], op 39 (.mv (.t 0)) [0, 1], op 40 (.mv (.t 9)) [0, 1, 2], op 41 (.ar .sub (.t 40) (ci 1)) [0, 1, 2], op 42 (.mv (.t 0)) [0, 1, 2, 3, 4], op 43 (.mv (.t 9)) [0, 1, 2, 3, 4, 5], op 44 (.ar .sub (.t 43) (ci 1)) [0, 1, 2, 3, 4, 5], op 45 (.ias 2 (.t 42) (.t 44)) [0, 1, 2, 3, 4], op 46 (.ldn 2 (.t 45)) [0, 1, 2, 3, 4], op 47 (.mv (.t 0)) [0, 1, 2, 3, 4, 5, 6, 7, 8, 9], op 48 (.mv (.t 9)) [0, 1, 2, 3, 4, 5, 6, 7, 8, 9, 10], op 49 (.ias 2 (.t 47) (.t 48)) [0, 1, 2, 3, 4, 5, 6, 7, 8, 9], op 50 (.ldn 2 (.t 49)) [0, 1, 2, 3, 4, 5, 6, 7, 8, 9], op 51 (.ias 2 (.t 37) (.t 38)) [2, 3, 4], ⟨none, (.st 2 (.t 51) (.t 46)), none, [2, 3, 4]⟩, oo 52 (.ias 2 (.t 39) (.t 41)), ⟨none, (.st 2 (.t 52) (.t 50)), none, []⟩])) (.reg [om 35 9, oo 36 (.ar .sub (.t 35) (ci 1)), om 9 36]))))))) (.reg [om 15 8, oo 16 (.ar .add (.t 15) (ci 1)), om 8 16])))))), 53, [], false, fun _ => none, fun _ _ => none⟩
noncomputable def c136 : CFn := ⟨(.seq (.reg [om 13 1, om 8 13]) (.seq (.reg [oo 9 (.mv (ci 0))]) (.seq (.reg [om 14 2, om 15 1, oo 16 (.ar .sub (.t 14) (.t 15)), om 10 16]) (.seq (.seq (.reg [om 17 10, oo 18 (.ar .sub (.t 17) (ci 1)), oo 19 (.ar .quo (.t 18) (ci 2)), om 11 19]) (.block 0 (.loop 3849 (.seq (.seq (.reg [om 20 11, oo 21 (.ar .geq (.t 20) (ci 0))]) (.cond (.t 21) .skip (.exit 0))) (.seq (.block 1 (.reg [om 24 0, om 25 11, om 26 10, om 27 8, om 28 3, oo 29 (cl 163 [(.t 24), (.t 25), (.t 26), (.t 27), (.t 28)])])) (.reg [om 22 11, oo 23 (.ar .sub (.t 22) (ci 1)), om 11 23])))))) (.seq (.reg [om 30 10, oo 31 (.ar .sub (.t 30) (ci 1)), om 12 31]) (.block 2 (.loop 4873 (.seq (.seq (.reg [om 32 12, oo 33 (.ar .geq (.t 32) (ci 0))]) (.cond (.t 33) .skip (.exit 2))) (.seq (.block 3 (.seq (.drw [om 36 0, op 37 (.mv (.t 8)) [0], op 38 (.mv (.t 0)) [0, 1], op 39 (.mv (.t 8)) [0, 1, 2], op 40 (.mv (.t 12)) [0, 1, 2, 3], op 41 (.ar .add (.t 39) (.t 40)) [0, 1, 2], op 42 (.mv (.t 0)) [0, 1, 2, 3, 4, 5], op 43 (.mv (.t 8)) [0, 1, 2, 3, 4, 5, 6], op 44 (.mv (.t 12)) [0, 1, 2, 3, 4, 5, 6, 7], op 45 (.ar .add (.t 43) (.t 44)) [0, 1, 2, 3, 4, 5, 6], op 46 (.ias 2 (.t 42) (.t 45)) [0, 1, 2, 3, 4, 5], op 47 (.ldn 2 (.t 46)) [0, 1, 2, 3, 4, 5], op 48 (.mv (.t 0)) [0, 1, 2, 3, 4, 5, 6, 7, 8, 9, 10, 11], op 49 (.mv (.t 8)) [0, 1, 2, 3, 4, 5, 6, 7, 8, 9, 10, 11, 12], op 50 (.ias 2 (.t 48) (.t 49)) [0, 1, 2, 3, 4, 5, 6, 7, 8, 9, 10, 11], op 51 (.ldn 2 (.t 50)) [0, 1, 2, 3, 4, 5, 6, 7, 8, 9, 10, 11], op 52 (.ias 2 (.t 36) (.t 37)) [2, 3, 4, 5], ⟨none, (.st 2 (.t 52) (.t 47)), none, [2, 3, 4, 5]⟩, oo 53 (.ias 2 (.t 38) (.t 41)), ⟨none, (.st 2 (.t 53) (.t 51)), none, []⟩]) (.reg [om 54 0, om 55 9, om 56 12, om 57 8, om 58 3, oo 59 (cl 163 [(.t 54), (.t 55), (.t 56), (.t 57), (.t 58)])]))) (.reg [om 34 12, oo 35 (.ar .sub (.t 34) (ci 1)), om 12 35])))))))))), 60, [], false, fun _ => none, fun _ _ => none⟩
noncomputable def c137 : CFn := ⟨(.seq (.reg [om 13 2, om 14 1, oo 15 (.ar .sub (.t 13) (.t 14)), om 8 15]) (.seq (.reg [om 16 8, oo 17 (.ar .geq (.t 16) (ci 8))]) (.cond (.t 17) (.seq (.reg [om 18 8, oo 19 (.conv .u64 (.t 18)), oo 9 (.new [(.int .u64 (0))]), ⟨none, (.st 1 (.t 9) (.t 19)), none, []⟩]) (.seq (.reg [om 20 8, oo 21 (cl 164 [(.t 20)]), om 10 21]) (.seq (.reg [om 22 1, om 23 8, oo 24 (.ar .quo (.t 23) (ci 4)), oo 25 (.ar .mul (.t 24) (ci 2)), oo 26 (.ar .add (.t 22) (.t 25)), oo 27 (.ar .sub (.t 26) (ci 1)), om 11 27]) (.block 0 (.loop 3843 (.seq (.seq (.reg [om 28 11, om 29 1, om 30 8, oo 31 (.ar .quo (.t 30) (ci 4)), oo 32 (.ar .mul (.t 31) (ci 2)), oo 33 (.ar .add (.t 29) (.t 32)), oo 34 (.ar .add (.t 33) (ci 1)), oo 35 (.ar .leq (.t 28) (.t 34))]) (.cond (.t 35) .skip (.exit 0))) (.seq (.block 1 (.seq (.reg [oo 38 (cl 165 [(.t 9)]), om 39 10, oo 40 (.ar .sub (.t 39) (.c (.int .u64 (1)))), oo 41 (.ar .and (.t 38) (.t 40)), oo 42 (.conv .i64 (.t 41)), om 12 42]) (.seq (.seq (.reg [om 43 12, om 44 8, oo 45 (.ar .geq (.t 43) (.t 44))]) (.cond (.t 45) (.reg [om 46 12, om 47 8, oo 48 (.ar .sub (.t 46) (.t 47)), om 12 48]) .skip)) (.drw [om 49 0, op 50 (.mv (.t 11)) [0], op 51 (.mv (.t 0)) [0, 1], op 52 (.mv (.t 1)) [0, 1, 2], op 53 (.mv (.t 12)) [0, 1, 2, 3], op 54 (.ar .add (.t 52) (.t 53)) [0, 1, 2], op 55 (.mv (.t 0)) [0, 1, 2, 3, 4, 5], op 56 (.mv (.t 1)) [0, 1, 2, 3, 4, 5, 6], op 57 (.mv (.t 12)) [0, 1, 2, 3, 4, 5, 6, 7], op 58 (.ar .add (.t 56) (.t 57)) [0, 1, 2, 3, 4, 5, 6], op 59 (.ias 2 (.t 55) (.t 58)) [0, 1, 2, 3, 4, 5], op 60 (.ldn 2 (.t 59)) [0, 1, 2, 3, 4, 5], op 61 (.mv (.t 0)) [0, 1, 2, 3, 4, 5, 6, 7, 8, 9, 10, 11], op 62 (.mv (.t 11)) [0, 1, 2, 3, 4, 5, 6, 7, 8, 9, 10, 11, 12], op 63 (.ias 2 (.t 61) (.t 62)) [0, 1, 2, 3, 4, 5, 6, 7, 8, 9, 10, 11], op 64 (.ldn 2 (.t 63)) [0, 1, 2, 3, 4, 5, 6, 7, 8, 9, 10, 11], op 65 (.ias 2 (.t 49) (.t 50)) [2, 3, 4, 5], ⟨none, (.st 2 (.t 65) (.t 60)), none, [2, 3, 4, 5]⟩, oo 66 (.ias 2 (.t 51) (.t 54)), ⟨none, (.st 2 (.t 66) (.t 64)), none, []⟩])))) (.reg [om 36 11, oo 37 (.ar .add (.t 36) (ci 1)), om 11 37])))))))) .skip))), 67, [], false, fun _ => none, fun _ _ => none⟩
noncomputable def c138 : CFn := ⟨(.seq (.reg [oo 8 (.mv (ci 0)), oo 9 (.mv (ci 0))]) (.seq (.reg [om 15 2, om 16 1, oo 17 (.ar .sub (.t 15) (.t 16)), om 10 17]) (.seq (.reg [oo 11 (.new [(.int .i64 (0))])]) (.seq (.reg [om 18 1, om 19 10, oo 20 (.ar .quo (.t 19) (ci 4)), oo 21 (.ar .mul (.t 20) (ci 1)), oo 22 (.ar .add (.t 18) (.t 21)), om 12 22]) (.seq (.reg [om 23 1, om 24 10, oo 25 (.ar .quo (.t 24) (ci 4)), oo 26 (.ar .mul (.t 25) (ci 2)), oo 27 (.ar .add (.t 23) (.t 26)), om 13 27]) (.seq (.reg [om 28 1, om 29 10, oo 30 (.ar .quo (.t 29) (ci 4)), oo 31 (.ar .mul (.t 30) (ci 3)), oo 32 (.ar .add (.t 28) (.t 31)), om 14 32]) (.seq (.seq (.reg [om 33 10, oo 34 (.ar .geq (.t 33) (ci 8))]) (.cond (.t 34) (.seq (.seq (.reg [om 35 10, oo 36 (.ar .geq (.t 35) (ci 50))]) (.cond (.t 36) (.seq (.reg [om 37 0, om 38 12, om 39 3, oo 40 (cl 166 [(.t 37), (.t 38), (.t 11), (.t 39)]), om 12 40]) (.seq (.reg [om 41 0, om 42 13, om 43 3, oo 44 (cl 166 [(.t 41), (.t 42), (.t 11), (.t 43)]), om 13 44]) (.reg [om 45 0, om 46 14, om 47 3, oo 48 (cl 166 [(.t 45), (.t 46), (.t 11), (.t 47)]), om 14 48]))) .skip)) (.reg [om 49 0, om 50 12, om 51 13, om 52 14, om 53 3, oo 54 (cl 167 [(.t 49), (.t 50), (.t 51), (.t 52), (.t 11), (.t 53)]), om 13 54])) .skip)) (.seq (.reg [oo 55 (.ld (.t 11))]) (.block 0 (.seq (.reg [oo 58 (.ar .eql (.t 55) (ci 0)), om 57 58]) (.cond (.t 57) (.seq (.reg [om 59 13, om 8 59, oo 9 (.mv (ci 1))]) .ret) (.seq (.reg [oo 61 (.ar .eql (.t 55) (ci 12)), om 60 61]) (.cond (.t 60) (.seq (.reg [om 62 13, om 8 62, oo 9 (.mv (ci 2))]) .ret) (.seq (.reg [om 56 13, om 8 56, oo 9 (.mv (ci 0))]) .ret)))))))))))))), 63, [(.tmp 8), (.tmp 9)], false, fun _ => none, fun _ _ => none⟩
noncomputable def c139 : CFn := ⟨(.seq (.reg [om 10 1, om 8 10]) (.seq (.reg [om 11 2, oo 12 (.ar .sub (.t 11) (ci 1)), om 9 12]) (.block 0 (.loop 769 (.seq (.seq (.reg [om 13 8, om 14 9, oo 15 (.ar .lss (.t 13) (.t 14))]) (.cond (.t 15) .skip (.exit 0))) (.block 1 (.seq (.drw [om 16 0, op 17 (.mv (.t 8)) [0], op 18 (.mv (.t 0)) [0, 1], op 19 (.mv (.t 9)) [0, 1, 2], op 20 (.mv (.t 0)) [0, 1, 2, 3], op 21 (.mv (.t 9)) [0, 1, 2, 3, 4], op 22 (.ias 2 (.t 20) (.t 21)) [0, 1, 2, 3], op 23 (.ldn 2 (.t 22)) [0, 1, 2, 3], op 24 (.mv (.t 0)) [0, 1, 2, 3, 4, 5, 6, 7], op 25 (.mv (.t 8)) [0, 1, 2, 3, 4, 5, 6, 7, 8], op 26 (.ias 2 (.t 24) (.t 25)) [0, 1, 2, 3, 4, 5, 6, 7], op 27 (.ldn 2 (.t 26)) [0, 1, 2, 3, 4, 5, 6, 7], op 28 (.ias 2 (.t 16) (.t 17)) [2, 3], ⟨none, (.st 2 (.t 28) (.t 23)), none, [2, 3]⟩, oo 29 (.ias 2 (.t 18) (.t 19)), ⟨none, (.st 2 (.t 29) (.t 27)), none, []⟩]) (.seq (.reg [om 30 8, oo 31 (.ar .add (.t 30) (ci 1)), om 8 31]) (.reg [om 32 9, oo 33 (.ar .sub (.t 32) (ci 1)), om 9 33]))))))))), 34, [], false, fun _ => none, fun _ _ => none⟩
noncomputable def c140 : CFn := ⟨(.seq (.reg [oo 8 (.mv (.c (.bool false)))]) (.seq (.reg [om 13 1, oo 14 (.ar .add (.t 13) (ci 1)), om 9 14]) (.seq (.seq (.reg [oo 10 (.mv (ci 0))]) (.block 0 (.loop 1551 (.seq (.seq (.reg [om 15 10, oo 16 (.ar .lss (.t 15) (ci 5))]) (.cond (.t 16) .skip (.exit 0))) (.seq (.block 1 (.seq (.block 2 (.loop 1551 (.seq (.seq (.drw [om 19 9, op 20 (.mv (.t 2)) [0], oo 21 (.ar .lss (.t 19) (.t 20)), om 22 21, og 23 (.mv (.t 3)) 22 true, ⟨(some 24), (.mv (.t 0)), (some (22, true)), [4]⟩, ⟨(some 25), (.mv (.t 9)), (some (22, true)), [4, 5]⟩, ⟨(some 26), (.ias 2 (.t 24) (.t 25)), (some (22, true)), [4]⟩, ⟨(some 27), (.ldn 2 (.t 26)), (some (22, true)), [4]⟩, ⟨(some 28), (.mv (.t 0)), (some (22, true)), [4, 5, 6, 7, 8]⟩, ⟨(some 29), (.mv (.t 9)), (some (22, true)), [4, 5, 6, 7, 8, 9]⟩, ⟨(some 30), (.ar .sub (.t 29) (ci 1)), (some (22, true)), [4, 5, 6, 7, 8, 9]⟩, ⟨(some 31), (.ias 2 (.t 28) (.t 30)), (some (22, true)), [4, 5, 6, 7, 8]⟩, ⟨(some 32), (.ldn 2 (.t 31)), (some (22, true)), [4, 5, 6, 7, 8]⟩, og 33 (.call (.t 23) [(.t 27), (.t 32)]) 22 true, og 34 (.ar .lss (.t 33) (ci 0)) 22 true, og 35 (.un .not (.t 34)) 22 true, oo 36 (.pick (.t 22) (.t 35) (.c (.bool false)))]) (.cond (.t 36) .skip (.exit 2))) (.block 3 (.reg [om 37 9, oo 38 (.ar .add (.t 37) (ci 1)), om 9 38]))))) (.seq (.seq (.reg [om 39 9, om 40 2, oo 41 (.ar .eql (.t 39) (.t 40))]) (.cond (.t 41) (.seq (.reg [oo 8 (.mv (.c (.bool true)))]) .ret) .skip)) (.seq (.seq (.reg [om 42 2, om 43 1, oo 44 (.ar .sub (.t 42) (.t 43)), oo 45 (.ar .lss (.t 44) (ci 50))]) (.cond (.t 45) (.seq (.reg [oo 8 (.mv (.c (.bool false)))]) .ret) .skip)) (.seq (.drw [om 46 0, op 47 (.mv (.t 9)) [0], op 48 (.mv (.t 0)) [0, 1], op 49 (.mv (.t 9)) [0, 1, 2], op 50 (.ar .sub (.t 49) (ci 1)) [0, 1, 2], op 51 (.mv (.t 0)) [0, 1, 2, 3, 4], op 52 (.mv (.t 9)) [0, 1, 2, 3, 4, 5], op 53 (.ar .sub (.t 52) (ci 1)) [0, 1, 2, 3, 4, 5], op 54 (.ias 2 (.t 51) (.t 53)) [0, 1, 2, 3, 4], op 55 (.ldn 2 (.t 54)) [0, 1, 2, 3, 4], op 56 (.mv (.t 0)) [0, 1, 2, 3, 4, 5, 6, 7, 8, 9], op 57 (.mv (.t 9)) [0, 1, 2, 3, 4, 5, 6, 7, 8, 9, 10], op 58 (.ias 2 (.t 56) (.t 57)) [0, 1, 2, 3, 4, 5, 6, 7, 8, 9], op 59 (.ldn 2 (.t 58)) [0, 1, 2, 3, 4, 5, 6, 7, 8, 9], op 60 (.ias 2 (.t 46) (.t 47)) [2, 3, 4], ⟨none, (.st 2 (.t 60) (.t 55)), none, [2, 3, 4]⟩, oo 61 (.ias 2 (.t 48) (.t 50)), ⟨none, (.st 2 (.t 61) (.t 59)), none, []⟩]) (.seq (.seq (.reg [om 62 9, om 63 1, oo 64 (.ar .sub (.t 62) (.t 63)), oo 65 (.ar .geq (.t 64) (ci 2))]) (.cond (.t 65) (.seq (.reg [om 66 9, oo 67 (.ar .sub (.t 66) (ci 1)), om 11 67]) (.block 4 (.loop 3599 (.seq (.seq (.reg [om 68 11, oo 69 (.ar .geq (.t 68) (ci 1))]) (.cond (.t 69) .skip (.exit 4))) (.seq (.block 5 (.seq (.seq (.drw [om 72 3, op 73 (.mv (.t 0)) [0], op 74 (.mv (.t 11)) [0, 1], op 75 (.ias 2 (.t 73) (.t 74)) [0], op 76 (.ldn 2 (.t 75)) [0], op 77 (.mv (.t 0)) [0, 1, 2, 3, 4], op 78 (.mv (.t 11)) [0, 1, 2, 3, 4, 5], op 79 (.ar .sub (.t 78) (ci 1)) [0, 1, 2, 3, 4, 5], op 80 (.ias 2 (.t 77) (.t 79)) [0, 1, 2, 3, 4], op 81 (.ldn 2 (.t 80)) [0, 1, 2, 3, 4], oo 82 (.call (.t 72) [(.t 76), (.t 81)]), oo 83 (.ar .lss (.t 82) (ci 0)), oo 84 (.un .not (.t 83))]) (.cond (.t 84) (.exit 4) .skip)) (.drw [om 85 0, op 86 (.mv (.t 11)) [0], op 87 (.mv (.t 0)) [0, 1], op 88 (.mv (.t 11)) [0, 1, 2], op 89 (.ar .sub (.t 88) (ci 1)) [0, 1, 2], op 90 (.mv (.t 0)) [0, 1, 2, 3, 4], op 91 (.mv (.t 11)) [0, 1, 2, 3, 4, 5], op 92 (.ar .sub (.t 91) (ci 1)) [0, 1, 2, 3, 4, 5], op 93 (.ias 2 (.t 90) (.t 92)) [0, 1, 2, 3, 4], op 94 (.ldn 2 (.t 93)) [0, 1, 2, 3, 4], op 95 (.mv (.t 0)) [0, 1, 2, 3, 4, 5, 6, 7, 8, 9], op 96 (.mv (.t 11)) [0, 1, 2, 3, 4, 5, 6, 7, 8, 9, 10], op 97 (.ias 2 (.t 95) (.t 96)) [0, 1, 2, 3, 4, 5, 6, 7, 8, 9], op 98 (.ldn 2 (.t 97)) [0, 1, 2, 3, 4, 5, 6, 7, 8, 9], op 99 (.ias 2 (.t 85) (.t 86)) [2, 3, 4], ⟨none, (.st 2 (.t 99) (.t 94)), none, [2, 3, 4]⟩, oo 100 (.ias 2 (.t 87) (.t 89)), ⟨none, (.st 2 (.t 100) (.t 98)), none, []⟩]))) (.reg [om 70 11, oo 71 (.ar .sub (.t 70) (ci 1)), om 11 71])))))) .skip)) (.seq (.reg [om 101 2, om 102 9, oo 103 (.ar .sub (.t 101) (.t 102)), oo 104 (.ar .geq (.t 103) (ci 2))]) (.cond (.t 104) (.seq (.reg [om 105 9, oo 106 (.ar .add (.t 105) (ci 1)), om 12 106]) (.block 6 (.loop 5647 (.seq (.seq (.reg [om 107 12, om 108 2, oo 109 (.ar .lss (.t 107) (.t 108))]) (.cond (.t 109) .skip (.exit 6))) (.seq (.block 7 (.seq (.seq (.drw [om 112 3, op 113 (.mv (.t 0)) [0], op 114 (.mv (.t 12)) [0, 1], op 115 (.ias 2 (.t 113) (.t 114)) [0], op 116 (.ldn 2 (.t 115)) [0], op 117 (.mv (.t 0)) [0, 1, 2, 3, 4], op 118 (.mv (.t 12)) [0, 1, 2, 3, 4, 5], op 119 (.ar .sub (.t 118) (ci 1)) [0, 1, 2, 3, 4, 5], op 120 (.ias 2 (.t 117) (.t 119)) [0, 1, 2, 3, 4], op 121 (.ldn 2 (.t 120)) [0, 1, 2, 3, 4], oo 122 (.call (.t 112) [(.t 116), (.t 121)]), oo 123 (.ar .lss (.t 122) (ci 0)), oo 124 (.un .not (.t 123))]) (.cond (.t 124) (.exit 6) .skip)) (.drw [om 125 0, op 126 (.mv (.t 12)) [0], op 127 (.mv (.t 0)) [0, 1], op 128 (.mv (.t 12)) [0, 1, 2], op 129 (.ar .sub (.t 128) (ci 1)) [0, 1, 2], op 130 (.mv (.t 0)) [0, 1, 2, 3, 4], op 131 (.mv (.t 12)) [0, 1, 2, 3, 4, 5], op 132 (.ar .sub (.t 131) (ci 1)) [0, 1, 2, 3, 4, 5], op 133 (.ias 2 (.t 130) (.t 132)) [0, 1, 2, 3, 4], op 134 (.ldn 2 (.t 133)) [0, 1, 2, 3, 4], op 135 (.mv (.t 0)) [0, 1, 2, 3, 4, 5, 6, 7, 8, 9], op 136 (.mv (.t 12)) [0, 1, 2, 3, 4, 5, 6, 7, 8, 9, 10], op 137 (.ias 2 (.t 135) (.t 136)) [0, 1, 2, 3, 4, 5, 6, 7, 8, 9], op 138 (.ldn 2 (.t 137)) [0, 1, 2, 3, 4, 5, 6, 7, 8, 9], op 139 (.ias 2 (.t 125) (.t 126)) [2, 3, 4], ⟨none, (.st 2 (.t 139) (.t 134)), none, [2, 3, 4]⟩, oo 140 (.ias 2 (.t 127) (.t 129)), ⟨none, (.st 2 (.t 140) (.t 138)), none, []⟩]))) (.reg [om 110 12, oo 111 (.ar .add (.t 110) (ci 1)), om 12 111])))))) .skip)))))))) (.reg [om 17 10, oo 18 (.ar .add (.t 17) (ci 1)), om 10 18])))))) (.seq (.reg [oo 8 (.mv (.c (.bool false)))]) .ret)))), 141, [(.tmp 8)], false, fun _ => none, fun _ _ => none⟩
noncomputable def c141 : CFn := ⟨(.seq (.reg [oo 10 (.mv (ci 0))]) (.seq (.drw [om 13 0, op 14 (.mv (.t 1)) [0], op 15 (.mv (.t 0)) [0, 1], op 16 (.mv (.t 3)) [0, 1, 2], op 17 (.mv (.t 0)) [0, 1, 2, 3], op 18 (.mv (.t 3)) [0, 1, 2, 3, 4], op 19 (.ias 2 (.t 17) (.t 18)) [0, 1, 2, 3], op 20 (.ldn 2 (.t 19)) [0, 1, 2, 3], op 21 (.mv (.t 0)) [0, 1, 2, 3, 4, 5, 6, 7], op 22 (.mv (.t 1)) [0, 1, 2, 3, 4, 5, 6, 7, 8], op 23 (.ias 2 (.t 21) (.t 22)) [0, 1, 2, 3, 4, 5, 6, 7], op 24 (.ldn 2 (.t 23)) [0, 1, 2, 3, 4, 5, 6, 7], op 25 (.ias 2 (.t 13) (.t 14)) [2, 3], ⟨none, (.st 2 (.t 25) (.t 20)), none, [2, 3]⟩, oo 26 (.ias 2 (.t 15) (.t 16)), ⟨none, (.st 2 (.t 26) (.t 24)), none, []⟩]) (.seq (.reg [om 27 1, oo 28 (.ar .add (.t 27) (ci 1)), om 29 2, oo 30 (.ar .sub (.t 29) (ci 1)), om 11 28, om 12 30]) (.seq (.block 0 (.loop 6163 (.block 1 (.seq (.block 2 (.loop 6163 (.seq (.seq (.drw [om 31 11, op 32 (.mv (.t 12)) [0], oo 33 (.ar .leq (.t 31) (.t 32)), om 34 33, og 35 (.mv (.t 4)) 34 true, ⟨(some 36), (.mv (.t 0)), (some (34, true)), [4]⟩, ⟨(some 37), (.mv (.t 1)), (some (34, true)), [4, 5]⟩, ⟨(some 38), (.ias 2 (.t 36) (.t 37)), (some (34, true)), [4]⟩, ⟨(some 39), (.ldn 2 (.t 38)), (some (34, true)), [4]⟩, ⟨(some 40), (.mv (.t 0)), (some (34, true)), [4, 5, 6, 7, 8]⟩, ⟨(some 41), (.mv (.t 11)), (some (34, true)), [4, 5, 6, 7, 8, 9]⟩, ⟨(some 42), (.ias 2 (.t 40) (.t 41)), (some (34, true)), [4, 5, 6, 7, 8]⟩, ⟨(some 43), (.ldn 2 (.t 42)), (some (34, true)), [4, 5, 6, 7, 8]⟩, og 44 (.call (.t 35) [(.t 39), (.t 43)]) 34 true, og 45 (.ar .lss (.t 44) (ci 0)) 34 true, og 46 (.un .not (.t 45)) 34 true, oo 47 (.pick (.t 34) (.t 46) (.c (.bool false)))]) (.cond (.t 47) .skip (.exit 2))) (.block 3 (.reg [om 48 11, oo 49 (.ar .add (.t 48) (ci 1)), om 11 49]))))) (.seq (.block 4 (.loop 6163 (.seq (.seq (.drw [om 50 11, op 51 (.mv (.t 12)) [0], oo 52 (.ar .leq (.t 50) (.t 51)), om 53 52, og 54 (.mv (.t 4)) 53 true, ⟨(some 55), (.mv (.t 0)), (some (53, true)), [4]⟩, ⟨(some 56), (.mv (.t 1)), (some (53, true)), [4, 5]⟩, ⟨(some 57), (.ias 2 (.t 55) (.t 56)), (some (53, true)), [4]⟩, ⟨(some 58), (.ldn 2 (.t 57)), (some (53, true)), [4]⟩, ⟨(some 59), (.mv (.t 0)), (some (53, true)), [4, 5, 6, 7, 8]⟩, ⟨(some 60), (.mv (.t 12)), (some (53, true)), [4, 5, 6, 7, 8, 9]⟩, ⟨(some 61), (.ias 2 (.t 59) (.t 60)), (some (53, true)), [4, 5, 6, 7, 8]⟩, ⟨(some 62), (.ldn 2 (.t 61)), (some (53, true)), [4, 5, 6, 7, 8]⟩, og 63 (.call (.t 54) [(.t 58), (.t 62)]) 53 true, og 64 (.ar .lss (.t 63) (ci 0)) 53 true, oo 65 (.pick (.t 53) (.t 64) (.c (.bool false)))]) (.cond (.t 65) .skip (.exit 4))) (.block 5 (.reg [om 66 12, oo 67 (.ar .sub (.t 66) (ci 1)), om 12 67]))))) (.seq (.seq (.reg [om 68 11, om 69 12, oo 70 (.ar .gtr (.t 68) (.t 69))]) (.cond (.t 70) (.exit 0) .skip)) (.seq (.drw [om 71 0, op 72 (.mv (.t 11)) [0], op 73 (.mv (.t 0)) [0, 1], op 74 (.mv (.t 12)) [0, 1, 2], op 75 (.mv (.t 0)) [0, 1, 2, 3], op 76 (.mv (.t 12)) [0, 1, 2, 3, 4], op 77 (.ias 2 (.t 75) (.t 76)) [0, 1, 2, 3], op 78 (.ldn 2 (.t 77)) [0, 1, 2, 3], op 79 (.mv (.t 0)) [0, 1, 2, 3, 4, 5, 6, 7], op 80 (.mv (.t 11)) [0, 1, 2, 3, 4, 5, 6, 7, 8], op 81 (.ias 2 (.t 79) (.t 80)) [0, 1, 2, 3, 4, 5, 6, 7], op 82 (.ldn 2 (.t 81)) [0, 1, 2, 3, 4, 5, 6, 7], op 83 (.ias 2 (.t 71) (.t 72)) [2, 3], ⟨none, (.st 2 (.t 83) (.t 78)), none, [2, 3]⟩, oo 84 (.ias 2 (.t 73) (.t 74)), ⟨none, (.st 2 (.t 84) (.t 82)), none, []⟩]) (.seq (.reg [om 85 11, oo 86 (.ar .add (.t 85) (ci 1)), om 11 86]) (.reg [om 87 12, oo 88 (.ar .sub (.t 87) (ci 1)), om 12 88]))))))))) (.seq (.reg [om 89 11, om 10 89]) .ret))))), 90, [(.tmp 10)], false, fun _ => none, fun _ _ => none⟩
noncomputable def c142 : CFn := ⟨(.seq (.reg [oo 10 (.mv (ci 0)), oo 11 (.mv (.c (.bool false)))]) (.seq (.drw [om 14 0, op 15 (.mv (.t 1)) [0], op 16 (.mv (.t 0)) [0, 1], op 17 (.mv (.t 3)) [0, 1, 2], op 18 (.mv (.t 0)) [0, 1, 2, 3], op 19 (.mv (.t 3)) [0, 1, 2, 3, 4], op 20 (.ias 2 (.t 18) (.t 19)) [0, 1, 2, 3], op 21 (.ldn 2 (.t 20)) [0, 1, 2, 3], op 22 (.mv (.t 0)) [0, 1, 2, 3, 4, 5, 6, 7], op 23 (.mv (.t 1)) [0, 1, 2, 3, 4, 5, 6, 7, 8], op 24 (.ias 2 (.t 22) (.t 23)) [0, 1, 2, 3, 4, 5, 6, 7], op 25 (.ldn 2 (.t 24)) [0, 1, 2, 3, 4, 5, 6, 7], op 26 (.ias 2 (.t 14) (.t 15)) [2, 3], ⟨none, (.st 2 (.t 26) (.t 21)), none, [2, 3]⟩, oo 27 (.ias 2 (.t 16) (.t 17)), ⟨none, (.st 2 (.t 27) (.t 25)), none, []⟩]) (.seq (.reg [om 28 1, oo 29 (.ar .add (.t 28) (ci 1)), om 30 2, oo 31 (.ar .sub (.t 30) (ci 1)), om 12 29, om 13 31]) (.seq (.block 0 (.loop 12307 (.seq (.seq (.drw [om 32 12, op 33 (.mv (.t 13)) [0], oo 34 (.ar .leq (.t 32) (.t 33)), om 35 34, og 36 (.mv (.t 4)) 35 true, ⟨(some 37), (.mv (.t 0)), (some (35, true)), [4]⟩, ⟨(some 38), (.mv (.t 12)), (some (35, true)), [4, 5]⟩, ⟨(some 39), (.ias 2 (.t 37) (.t 38)), (some (35, true)), [4]⟩, ⟨(some 40), (.ldn 2 (.t 39)), (some (35, true)), [4]⟩, ⟨(some 41), (.mv (.t 0)), (some (35, true)), [4, 5, 6, 7, 8]⟩, ⟨(some 42), (.mv (.t 1)), (some (35, true)), [4, 5, 6, 7, 8, 9]⟩, ⟨(some 43), (.ias 2 (.t 41) (.t 42)), (some (35, true)), [4, 5, 6, 7, 8]⟩, ⟨(some 44), (.ldn 2 (.t 43)), (some (35, true)), [4, 5, 6, 7, 8]⟩, og 45 (.call (.t 36) [(.t 40), (.t 44)]) 35 true, og 46 (.ar .lss (.t 45) (ci 0)) 35 true, oo 47 (.pick (.t 35) (.t 46) (.c (.bool false)))]) (.cond (.t 47) .skip (.exit 0))) (.block 1 (.reg [om 48 12, oo 49 (.ar .add (.t 48) (ci 1)), om 12 49]))))) (.seq (.block 2 (.loop 12307 (.seq (.seq (.drw [om 50 12, op 51 (.mv (.t 13)) [0], oo 52 (.ar .leq (.t 50) (.t 51)), om 53 52, og 54 (.mv (.t 4)) 53 true, ⟨(some 55), (.mv (.t 0)), (some (53, true)), [4]⟩, ⟨(some 56), (.mv (.t 13)), (some (53, true)), [4, 5]⟩, ⟨(some 57), (.ias 2 (.t 55) (.t 56)), (some (53, true)), [4]⟩, ⟨(some 58), (.ldn 2 (.t 57)), (some (53, true)), [4]⟩, ⟨(some 59), (.mv (.t 0)), (some (53, true)), [4, 5, 6, 7, 8]⟩, ⟨(some 60), (.mv (.t 1)), (some (53, true)), [4, 5, 6, 7, 8, 9]⟩, ⟨(some 61), (.ias 2 (.t 59) (.t 60)), (some (53, true)), [4, 5, 6, 7, 8]⟩, ⟨(some 62), (.ldn 2 (.t 61)), (some (53, true)), [4, 5, 6, 7, 8]⟩, og 63 (.call (.t 54) [(.t 58), (.t 62)]) 53 true, og 64 (.ar .lss (.t 63) (ci 0)) 53 true, og 65 (.un .not (.t 64)) 53 true, oo 66 (.pick (.t 53) (.t 65) (.c (.bool false)))]) (.cond (.t 66) .skip (.exit 2))) (.block 3 (.reg [om 67 13, oo 68 (.ar .sub (.t 67) (ci 1)), om 13 68]))))) (.seq (.seq (.reg [om 69 12, om 70 13, oo 71 (.ar .gtr (.t 69) (.t 70))]) (.cond (.t 71) (.seq (.drw [om 72 0, op 73 (.mv (.t 13)) [0], op 74 (.mv (.t 0)) [0, 1], op 75 (.mv (.t 1)) [0, 1, 2], op 76 (.mv (.t 0)) [0, 1, 2, 3], op 77 (.mv (.t 1)) [0, 1, 2, 3, 4], op 78 (.ias 2 (.t 76) (.t 77)) [0, 1, 2, 3], op 79 (.ldn 2 (.t 78)) [0, 1, 2, 3], op 80 (.mv (.t 0)) [0, 1, 2, 3, 4, 5, 6, 7], op 81 (.mv (.t 13)) [0, 1, 2, 3, 4, 5, 6, 7, 8], op 82 (.ias 2 (.t 80) (.t 81)) [0, 1, 2, 3, 4, 5, 6, 7], op 83 (.ldn 2 (.t 82)) [0, 1, 2, 3, 4, 5, 6, 7], op 84 (.ias 2 (.t 72) (.t 73)) [2, 3], ⟨none, (.st 2 (.t 84) (.t 79)), none, [2, 3]⟩, oo 85 (.ias 2 (.t 74) (.t 75)), ⟨none, (.st 2 (.t 85) (.t 83)), none, []⟩]) (.seq (.reg [om 86 13, om 10 86, oo 11 (.mv (.c (.bool true)))]) .ret)) .skip)) (.seq (.drw [om 87 0, op 88 (.mv (.t 12)) [0], op 89 (.mv (.t 0)) [0, 1], op 90 (.mv (.t 13)) [0, 1, 2], op 91 (.mv (.t 0)) [0, 1, 2, 3], op 92 (.mv (.t 13)) [0, 1, 2, 3, 4], op 93 (.ias 2 (.t 91) (.t 92)) [0, 1, 2, 3], op 94 (.ldn 2 (.t 93)) [0, 1, 2, 3], op 95 (.mv (.t 0)) [0, 1, 2, 3, 4, 5, 6, 7], op 96 (.mv (.t 12)) [0, 1, 2, 3, 4, 5, 6, 7, 8], op 97 (.ias 2 (.t 95) (.t 96)) [0, 1, 2, 3, 4, 5, 6, 7], op 98 (.ldn 2 (.t 97)) [0, 1, 2, 3, 4, 5, 6, 7], op 99 (.ias 2 (.t 87) (.t 88)) [2, 3], ⟨none, (.st 2 (.t 99) (.t 94)), none, [2, 3]⟩, oo 100 (.ias 2 (.t 89) (.t 90)), ⟨none, (.st 2 (.t 100) (.t 98)), none, []⟩]) (.seq (.reg [om 101 12, oo 102 (.ar .add (.t 101) (ci 1)), om 12 102]) (.seq (.reg [om 103 13, oo 104 (.ar .sub (.t 103) (ci 1)), om 13 104]) (.seq (.block 4 (.loop 12307 (.block 5 (.seq (.block 6 (.loop 12307 (.seq (.seq (.drw [om 105 12, op 106 (.mv (.t 13)) [0], oo 107 (.ar .leq (.t 105) (.t 106)), om 108 107, og 109 (.mv (.t 4)) 108 true, ⟨(some 110), (.mv (.t 0)), (some (108, true)), [4]⟩, ⟨(some 111), (.mv (.t 12)), (some (108, true)), [4, 5]⟩, ⟨(some 112), (.ias 2 (.t 110) (.t 111)), (some (108, true)), [4]⟩, ⟨(some 113), (.ldn 2 (.t 112)), (some (108, true)), [4]⟩, ⟨(some 114), (.mv (.t 0)), (some (108, true)), [4, 5, 6, 7, 8]⟩, ⟨(some 115), (.mv (.t 1)), (some (108, true)), [4, 5, 6, 7, 8, 9]⟩, ⟨(some 116), (.ias 2 (.t 114) (.t 115)), (some (108, true)), [4, 5, 6, 7, 8]⟩, ⟨(some 117), (.ldn 2 (.t 116)), (some (108, true)), [4, 5, 6, 7, 8]⟩, og 118 (.call (.t 109) [(.t 113), (.t 117)]) 108 true, og 119 (.ar .lss (.t 118) (ci 0)) 108 true, oo 120 (.pick (.t 108) (.t 119) (.c (.bool false)))]) (.cond (.t 120) .skip (.exit 6))) (.block 7 (.reg [om 121 12, oo 122 (.ar .add (.t 121) (ci 1)), om 12 122]))))) (.seq (.block 8 (.loop 12307 (.seq (.seq (.drw [om 123 12, op 124 (.mv (.t 13)) [0], oo 125 (.ar .leq (.t 123) (.t 124)), om 126 125, og 127 (.mv (.t 4)) 126 true, ⟨(some 128), (.mv (.t 0)), (some (126, true)), [4]⟩, ⟨(some 129), (.mv (.t 13)), (some (126, true)), [4, 5]⟩, ⟨(some 130), (.ias 2 (.t 128) (.t 129)), (some (126, true)), [4]⟩, ⟨(some 131), (.ldn 2 (.t 130)), (some (126, true)), [4]⟩, ⟨(some 132), (.mv (.t 0)), (some (126, true)), [4, 5, 6, 7, 8]⟩, ⟨(some 133), (.mv (.t 1)), (some (126, true)), [4, 5, 6, 7, 8, 9]⟩, ⟨(some 134), (.ias 2 (.t 132) (.t 133)), (some (126, true)), [4, 5, 6, 7, 8]⟩, ⟨(some 135), (.ldn 2 (.t 134)), (some (126, true)), [4, 5, 6, 7, 8]⟩, og 136 (.call (.t 127) [(.t 131), (.t 135)]) 126 true, og 137 (.ar .lss (.t 136) (ci 0)) 126 true, og 138 (.un .not (.t 137)) 126 true, oo 139 (.pick (.t 126) (.t 138) (.c (.bool false)))]) (.cond (.t 139) .skip (.exit 8))) (.block 9 (.reg [om 140 13, oo 141 (.ar .sub (.t 140) (ci 1)), om 13 141]))))) (.seq (.seq (.reg [om 142 12, om 143 13, oo 144 (.ar .gtr (.t 142) (.t 143))]) (.cond (.t 144) (.exit 4) .skip)) (.seq (.drw [om 145 0, op 146 (.mv (.t 12)) [0], op 147 (.mv (.t 0)) [0, 1], op 148 (.mv (.t 13)) [0, 1, 2], op 149 (.mv (.t 0)) [0, 1, 2, 3], op 150 (.mv (.t 13)) [0, 1, 2, 3, 4], op 151 (.ias 2 (.t 149) (.t 150)) [0, 1, 2, 3], op 152 (.ldn 2 (.t 151)) [0, 1, 2, 3], op 153 (.mv (.t 0)) [0, 1, 2, 3, 4, 5, 6, 7], op 154 (.mv (.t 12)) [0, 1, 2, 3, 4, 5, 6, 7, 8], op 155 (.ias 2 (.t 153) (.t 154)) [0, 1, 2, 3, 4, 5, 6, 7], op 156 (.ldn 2 (.t 155)) [0, 1, 2, 3, 4, 5, 6, 7], op 157 (.ias 2 (.t 145) (.t 146)) [2, 3], ⟨none, (.st 2 (.t 157) (.t 152)), none, [2, 3]⟩, oo 158 (.ias 2 (.t 147) (.t 148)), ⟨none, (.st 2 (.t 158) (.t 156)), none, []⟩]) (.seq (.reg [om 159 12, oo 160 (.ar .add (.t 159) (ci 1)), om 12 160]) (.reg [om 161 13, oo 162 (.ar .sub (.t 161) (ci 1)), om 13 162]))))))))) (.seq (.drw [om 163 0, op 164 (.mv (.t 13)) [0], op 165 (.mv (.t 0)) [0, 1], op 166 (.mv (.t 1)) [0, 1, 2], op 167 (.mv (.t 0)) [0, 1, 2, 3], op 168 (.mv (.t 1)) [0, 1, 2, 3, 4], op 169 (.ias 2 (.t 167) (.t 168)) [0, 1, 2, 3], op 170 (.ldn 2 (.t 169)) [0, 1, 2, 3], op 171 (.mv (.t 0)) [0, 1, 2, 3, 4, 5, 6, 7], op 172 (.mv (.t 13)) [0, 1, 2, 3, 4, 5, 6, 7, 8], op 173 (.ias 2 (.t 171) (.t 172)) [0, 1, 2, 3, 4, 5, 6, 7], op 174 (.ldn 2 (.t 173)) [0, 1, 2, 3, 4, 5, 6, 7], op 175 (.ias 2 (.t 163) (.t 164)) [2, 3], ⟨none, (.st 2 (.t 175) (.t 170)), none, [2, 3]⟩, oo 176 (.ias 2 (.t 165) (.t 166)), ⟨none, (.st 2 (.t 176) (.t 174)), none, []⟩]) (.seq (.reg [om 177 13, om 10 177, oo 11 (.mv (.c (.bool false)))]) .ret)))))))))))), 178, [(.tmp 10), (.tmp 11)], false, fun _ => none, fun _ _ => none⟩
noncomputable def c143 : CFn := ⟨(.seq (.reg [oo 2 (.mv (ci 0))]) (.seq (.seq (.reg [om 3 0, oo 4 (.ar .geq (.t 3) (.c (.int .u32 (65536))))]) (.cond (.t 4) (.seq (.reg [om 5 0, oo 6 (.sh .shr (.t 5) (.c (.int .u64 (16)))), om 0 6]) (.reg [oo 2 (.mv (ci 16))])) .skip)) (.seq (.seq (.reg [om 7 0, oo 8 (.ar .geq (.t 7) (.c (.int .u32 (256))))]) (.cond (.t 8) (.seq (.reg [om 9 0, oo 10 (.sh .shr (.t 9) (.c (.int .u64 (8)))), om 0 10]) (.reg [om 11 2, oo 12 (.ar .add (.t 11) (ci 8)), om 2 12])) .skip)) (.seq (.reg [om 13 2, om 14 0, oo 15 (.conv .u8 (.t 14)), oo 16 (.ix 256 1 (.c (.agg [(.int .u8 (0)), (.int .u8 (1)), (.int .u8 (2)), (.int .u8 (2)), (.int .u8 (3)), (.int .u8 (3)), (.int .u8 (3)), (.int .u8 (3)), (.int .u8 (4)), (.int .u8 (4)), (.int .u8 (4)), (.int .u8 (4)), (.int .u8 (4)), (.int .u8 (4)), (.int .u8 (4)), (.int .u8 (4)), (.int .u8 (5)), (.int .u8 (5)), (.int .u8 (5)), (.int .u8 (5)), (.int .u8 (5)), (.int .u8 (5)), (.int .u8 (5)), (.int .u8 (5)), (.int .u8 (5)), (.int .u8 (5)), (.int .u8 (5)), (.int .u8 (5)), (.int .u8 (5)), (.int .u8 (5)), (.int .u8 (5)), (.int .u8 (5)), (.int .u8 (6)), (.int .u8 (6)), (.int .u8 (6)), (.int .u8 (6)), (.int .u8 (6)), (.int .u8 (6)), (.int .u8 (6)), (.int .u8 (6)), (.int .u8 (6)), (.int .u8 (6)), (.int .u8 (6)), (.int .u8 (6)), (.int .u8 (6)), (.int .u8 (6)), (.int .u8 (6)), (.int .u8 (6)), (.int .u8 (6)), (.int .u8 (6)), (.int .u8 (6)), (.int .u8 (6)), (.int .u8 (6)), (.int .u8 (6)), (.int .u8 (6)), (.int .u8 (6)), (.int .u8 (6)), (.int .u8 (6)), (.int .u8 (6)), (.int .u8 (6)), (.int .u8 (6)), (.int .u8 (6)), (.int .u8 (6)), (.int .u8 (6)), (.int .u8 (7)), (.int .u8 (7)), (.int .u8 (7)), (.int .u8 (7)), (.int .u8 (7)), (.int .u8 (7)), (.int .u8 (7)), (.int .u8 (7)), (.int .u8 (7)), (.int .u8 (7)), (.int .u8 (7)), (.int .u8 (7)), (.int .u8 (7)), (.int .u8 (7)), (.int .u8 (7)), (.int .u8 (7)), (.int .u8 (7)), (.int .u8 (7)), (.int .u8 (7)), (.int .u8 (7)), (.int .u8 (7)), (.int .u8 (7)), (.int .u8 (7)), (.int .u8 (7)), (.int .u8 (7)), (.int .u8 (7)), (.int .u8 (7)), (.int .u8 (7)), (.int .u8 (7)), (.int .u8 (7)), (.int .u8 (7)), (.int .u8 (7)), (.int .u8 (7)), (.int .u8 (7)), (.int .u8 (7)), (.int .u8 (7)), (.int .u8 (7)), (.int .u8 (7)), (.int .u8 (7)), (.int .u8 (7)), (.int .u8 (7)), (.int .u8 (7)), (.int .u8 (7)), (.int .u8 (7)), (.int .u8 (7)), (.int .u8 (7)), (.int .u8 (7)), (.int .u8 (7)), (.int .u8 (7)), (.int .u8 (7)), (.int .u8 (7)), (.int .u8 (7)), (.int .u8 (7)), (.int .u8 (7)), (.int .u8 (7)), (.int .u8 (7)), (.int .u8 (7)), (.int .u8 (7)), (.int .u8 (7)), (.int .u8 (7)), (.int .u8 (7)), (.int .u8 (7)), (.int .u8 (7)), (.int .u8 (7)), (.int .u8 (8)), (.int .u8 (8)), (.int .u8 (8)), (.int .u8 (8)), (.int .u8 (8)), (.int .u8 (8)), (.int .u8 (8)), (.int .u8 (8)), (.int .u8 (8)), (.int .u8 (8)), (.int .u8 (8)), (.int .u8 (8)), (.int .u8 (8)), (.int .u8 (8)), (.int .u8 (8)), (.int .u8 (8)), (.int .u8 (8)), (.int .u8 (8)), (.int .u8 (8)), (.int .u8 (8)), (.int .u8 (8)), (.int .u8 (8)), (.int .u8 (8)), (.int .u8 (8)), (.int .u8 (8)), (.int .u8 (8)), (.int .u8 (8)), (.int .u8 (8)), (.int .u8 (8)), (.int .u8 (8)), (.int .u8 (8)), (.int .u8 (8)), (.int .u8 (8)), (.int .u8 (8)), (.int .u8 (8)), (.int .u8 (8)), (.int .u8 (8)), (.int .u8 (8)), (.int .u8 (8)), (.int .u8 (8)), (.int .u8 (8)), (.int .u8 (8)), (.int .u8 (8)), (.int .u8 (8)), (.int .u8 (8)), (.int .u8 (8)), (.int .u8 (8)), (.int .u8 (8)), (.int .u8 (8)), (.int .u8 (8)), (.int .u8 (8)), (.int .u8 (8)), (.int .u8 (8)), (.int .u8 (8)), (.int .u8 (8)), (.int .u8 (8)), (.int .u8 (8)), (.int .u8 (8)), (.int .u8 (8)), (.int .u8 (8)), (.int .u8 (8)), (.int .u8 (8)), (.int .u8 (8)), (.int .u8 (8)), (.int .u8 (8)), (.int .u8 (8)), (.int .u8 (8)), (.int .u8 (8)), (.int .u8 (8)), (.int .u8 (8)), (.int .u8 (8)), (.int .u8 (8)), (.int .u8 (8)), (.int .u8 (8)), (.int .u8 (8)), (.int .u8 (8)), (.int .u8 (8)), (.int .u8 (8)), (.int .u8 (8)), (.int .u8 (8)), (.int .u8 (8)), (.int .u8 (8)), (.int .u8 (8)), (.int .u8 (8)), (.int .u8 (8)), (.int .u8 (8)), (.int .u8 (8)), (.int .u8 (8)), (.int .u8 (8)), (.int .u8 (8)), (.int .u8 (8)), (.int .u8 (8)), (.int .u8 (8)), (.int .u8 (8)), (.int .u8 (8)), (.int .u8 (8)), (.int .u8 (8)), (.int .u8 (8)), (.int .u8 (8)), (.int .u8 (8)), (.int .u8 (8)), (.int .u8 (8)), (.int .u8 (8)), (.int .u8 (8)), (.int .u8 (8)), (.int .u8 (8)), (.int .u8 (8)), (.int .u8 (8)), (.int .u8 (8)), (.int .u8 (8)), (.int .u8 (8)), (.int .u8 (8)), (.int .u8 (8)), (.int .u8 (8)), (.int .u8 (8)), (.int .u8 (8)), (.int .u8 (8)), (.int .u8 (8)), (.int .u8 (8)), (.int .u8 (8)), (.int .u8 (8)), (.int .u8 (8)), (.int .u8 (8)), (.int .u8 (8)), (.int .u8 (8)), (.int .u8 (8)), (.int .u8 (8)), (.int .u8 (8))])) (.t 15)), oo 17 (.conv .i64 (.t 16)), oo 18 (.ar .add (.t 13) (.t 17)), om 2 18]) .ret)))), 19, [(.tmp 2)], false, fun _ => none, fun _ _ => none⟩
noncomputable def c144 : CFn := ⟨(.seq (.reg [oo 2 (.mv (ci 0))]) (.seq (.seq (.reg [om 3 0, oo 4 (.ar .geq (.t 3) (.c (.int .u64 (4294967296))))]) (.cond (.t 4) (.seq (.reg [om 5 0, oo 6 (.sh .shr (.t 5) (.c (.int .u64 (32)))), om 0 6]) (.reg [oo 2 (.mv (ci 32))])) .skip)) (.seq (.seq (.reg [om 7 0, oo 8 (.ar .geq (.t 7) (.c (.int .u64 (65536))))]) (.cond (.t 8) (.seq (.reg [om 9 0, oo 10 (.sh .shr (.t 9) (.c (.int .u64 (16)))), om 0 10]) (.reg [om 11 2, oo 12 (.ar .add (.t 11) (ci 16)), om 2 12])) .skip)) (.seq (.seq (.reg [om 13 0, oo 14 (.ar .geq (.t 13) (.c (.int .u64 (256))))]) (.cond (.t 14) (.seq (.reg [om 15 0, oo 16 (.sh .shr (.t 15) (.c (.int .u64 (8)))), om 0 16]) (.reg [om 17 2, oo 18 (.ar .add (.t 17) (ci 8)), om 2 18])) .skip)) (.seq (.reg [om 19 2, om 20 0, oo 21 (.conv .u8 (.t 20)), oo 22 (.ix 256 1 (.c (.agg [(.int .u8 (0)), (.int .u8 (1)), (.int .u8 (2)), (.int .u8 (2)), (.int .u8 (3)), (.int .u8 (3)), (.int .u8 (3)), (.int .u8 (3)), (.int .u8 (4)), (.int .u8 (4)), (.int .u8 (4)), (.int .u8 (4)), (.int .u8 (4)), (.int .u8 (4)), (.int .u8 (4)), (.int .u8 (4)), (.int .u8 (5)), (.int .u8 (5)), (.int .u8 (5)), (.int .u8 (5)), (.int .u8 (5)), (.int .u8 (5)), (.int .u8 (5)), (.int .u8 (5)), (.int .u8 (5)), (.int .u8 (5)), (.int .u8 (5)), (.int .u8 (5)), (.int .u8 (5)), (.int .u8 (5)), (.int .u8 (5)), (.int .u8 (5)), (.int .u8 (6)), (.int .u8 (6)), (.int .u8 (6)), (.int .u8 (6)), (.int .u8 (6)), (.int .u8 (6)), (.int .u8 (6)), (.int .u8 (6)), (.int .u8 (6)), (.int .u8 (6)), (.int .u8 (6)), (.int .u8 (6)), (.int .u8 (6)), (.int .u8 (6)), (.int .u8 (6)), (.int .u8 (6)), (.int .u8 (6)), (.int .u8 (6)), (.int .u8 (6)), (.int .u8 (6)), (.int .u8 (6)), (.int .u8 (6)), (.int .u8 (6)), (.int .u8 (6)), (.int .u8 (6)), (.int .u8 (6)), (.int .u8 (6)), (.int .u8 (6)), (.int .u8 (6)), (.int .u8 (6)), (.int .u8 (6)), (.int .u8 (6)), (.int .u8 (7)), (.int .u8 (7)), (.int .u8 (7)), (.int .u8 (7)), (.int .u8 (7)), (.int .u8 (7)), (.int .u8 (7)), (.int .u8 (7)), (.int .u8 (7)), (.int .u8 (7)), (.int .u8 (7)), (.int .u8 (7)), (.int .u8 (7)), (.int .u8 (7)), (.int .u8 (7)), (.int .u8 (7)), (.int .u8 (7)), (.int .u8 (7)), (.int .u8 (7)), (.int .u8 (7)), (.int .u8 (7)), (.int .u8 (7)), (.int .u8 (7)), (.int .u8 (7)), (.int .u8 (7)), (.int .u8 (7)), (.int .u8 (7)), (.int .u8 (7)), (.int .u8 (7)), (.int .u8 (7)), (.int .u8 (7)), (.int .u8 (7)), (.int .u8 (7)), (.int .u8 (7)), (.int .u8 (7)), (.int .u8 (7)), (.int .u8 (7)), (.int .u8 (7)), (.int .u8 (7)), (.int .u8 (7)), (.int .u8 (7)), (.int .u8 (7)), (.int .u8 (7)), (.int .u8 (7)), (.int .u8 (7)), (.int .u8 (7)), (.int .u8 (7)), (.int .u8 (7)), (.int .u8 (7)), (.int .u8 (7)), (.int .u8 (7)), (.int .u8 (7)), (.int .u8 (7)), (.int .u8 (7)), (.int .u8 (7)), (.int .u8 (7)), (.int .u8 (7)), (.int .u8 (7)), (.int .u8 (7)), (.int .u8 (7)), (.int .u8 (7)), (.int .u8 (7)), (.int .u8 (7)), (.int .u8 (7)), (.int .u8 (8)), (.int .u8 (8)), (.int .u8 (8)), (.int .u8 (8)), (.int .u8 (8)), (.int .u8 (8)), (.int .u8 (8)), (.int .u8 (8)), (.int .u8 (8)), (.int .u8 (8)), (.int .u8 (8)), (.int .u8 (8)), (.int .u8 (8)), (.int .u8 (8)), (.int .u8 (8)), (.int .u8 (8)), (.int .u8 (8)), (.int .u8 (8)), (.int .u8 (8)), (.int .u8 (8)), (.int .u8 (8)), (.int .u8 (8)), (.int .u8 (8)), (.int .u8 (8)), (.int .u8 (8)), (.int .u8 (8)), (.int .u8 (8)), (.int .u8 (8)), (.int .u8 (8)), (.int .u8 (8)), (.int .u8 (8)), (.int .u8 (8)), (.int .u8 (8)), (.int .u8 (8)), (.int .u8 (8)), (.int .u8 (8)), (.int .u8 (8)), (.int .u8 (8)), (.int .u8 (8)), (.int .u8 (8)), (.int .u8 (8)), (.int .u8 (8)), (.int .u8 (8)), (.int .u8 (8)), (.int .u8 (8)), (.int .u8 (8)), (.int .u8 (8)), (.int .u8 (8)), (.int .u8 (8)), (.int .u8 (8)), (.int .u8 (8)), (.int .u8 (8)), (.int .u8 (8)), (.int .u8 (8)), (.int .u8 (8)), (.int .u8 (8)), (.int .u8 (8)), (.int .u8 (8)), (.int .u8 (8)), (.int .u8 (8)), (.int .u8 (8)), (.int .u8 (8)), (.int .u8 (8)), (.int .u8 (8)), (.int .u8 (8)), (.int .u8 (8)), (.int .u8 (8)), (.int .u8 (8)), (.int .u8 (8)), (.int .u8 (8)), (.int .u8 (8)), (.int .u8 (8)), (.int .u8 (8)), (.int .u8 (8)), (.int .u8 (8)), (.int .u8 (8)), (.int .u8 (8)), (.int .u8 (8)), (.int .u8 (8)), (.int .u8 (8)), (.int .u8 (8)), (.int .u8 (8)), (.int .u8 (8)), (.int .u8 (8)), (.int .u8 (8)), (.int .u8 (8)), (.int .u8 (8)), (.int .u8 (8)), (.int .u8 (8)), (.int .u8 (8)), (.int .u8 (8)), (.int .u8 (8)), (.int .u8 (8)), (.int .u8 (8)), (.int .u8 (8)), (.int .u8 (8)), (.int .u8 (8)), (.int .u8 (8)), (.int .u8 (8)), (.int .u8 (8)), (.int .u8 (8)), (.int .u8 (8)), (.int .u8 (8)), (.int .u8 (8)), (.int .u8 (8)), (.int .u8 (8)), (.int .u8 (8)), (.int .u8 (8)), (.int .u8 (8)), (.int .u8 (8)), (.int .u8 (8)), (.int .u8 (8)), (.int .u8 (8)), (.int .u8 (8)), (.int .u8 (8)), (.int .u8 (8)), (.int .u8 (8)), (.int .u8 (8)), (.int .u8 (8)), (.int .u8 (8)), (.int .u8 (8)), (.int .u8 (8)), (.int .u8 (8)), (.int .u8 (8)), (.int .u8 (8)), (.int .u8 (8)), (.int .u8 (8)), (.int .u8 (8))])) (.t 21)), oo 23 (.conv .i64 (.t 22)), oo 24 (.ar .add (.t 19) (.t 23)), om 2 24]) .ret))))), 25, [(.tmp 2)], false, fun _ => none, fun _ _ => none⟩
noncomputable def c145 : CFn := ⟨(.seq (.reg [oo 4 (.mv (ci 0))]) (.seq (.seq (.reg [om 6 0, oo 7 (.len (.t 6)), oo 8 (.mv (ci 0))]) (.block 0 (.loop 387 (.seq (.reg [oo 9 (.ar .lss (.t 8) (.t 7))]) (.seq (.cond (.t 9) .skip (.exit 0)) (.seq (.block 1 (.seq (.reg [om 10 8, om 5 10]) (.seq (.reg [om 11 1, om 12 0, om 13 5, oo 14 (.ias 3 (.t 12) (.t 13)), oo 15 (.ldn 3 (.t 14)), oo 16 (.call (.t 11) [(.t 15)])]) (.cond (.t 16) (.seq (.reg [om 17 5, om 4 17]) .ret) .skip)))) (.reg [oo 18 (.ar .add (.t 8) (ci 1)), om 8 18]))))))) (.seq (.reg [oo 4 (.mv (ci (-1)))]) .ret))), 19, [(.tmp 4)], false, fun _ => none, fun _ _ => none⟩
noncomputable def c146 : CFn := ⟨(.seq (.reg [oo 4 (.mv (ci 0))]) (.seq (.seq (.reg [om 6 0, oo 7 (.len (.t 6)), oo 8 (.mv (ci 0))]) (.block 0 (.loop 387 (.seq (.reg [oo 9 (.ar .lss (.t 8) (.t 7))]) (.seq (.cond (.t 9) .skip (.exit 0)) (.seq (.block 1 (.seq (.reg [om 10 8, om 5 10]) (.seq (.reg [om 11 1, om 12 0, om 13 5, oo 14 (.ias 4 (.t 12) (.t 13)), oo 15 (.ldn 4 (.t 14)), oo 16 (.call (.t 11) [(.t 15)])]) (.cond (.t 16) (.seq (.reg [om 17 5, om 4 17]) .ret) .skip)))) (.reg [oo 18 (.ar .add (.t 8) (ci 1)), om 8 18]))))))) (.seq (.reg [oo 4 (.mv (ci (-1)))]) .ret))), 19, [(.tmp 4)], false, fun _ => none, fun _ _ => none⟩
noncomputable def c147 : CFn := ⟨(.seq (.reg [oo 3 (.box (.t 1)), oo 4 (.mv (.c (.bool false)))]) (.seq (.drw [om 5 0, oo 6 (.chk (.t 5)), oo 7 (.fa 7 (.t 6)), oo 8 (.ld (.t 7)), om 9 8, og 10 (.fa 0 (.t 3)) 9 true, og 11 (.ld (.t 10)) 9 true, ⟨(some 12), (.mv (.t 0)), (some (9, true)), [5, 6]⟩, ⟨(some 13), (.chk (.t 12)), (some (9, true)), [5, 6]⟩, ⟨(some 14), (.fa 5 (.t 13)), (some (9, true)), [5, 6]⟩, ⟨(some 15), (.fa 0 (.t 14)), (some (9, true)), [5, 6]⟩, ⟨(some 16), (.ld (.t 15)), (some (9, true)), [5, 6]⟩, og 17 (.ar .sub (.t 11) (.t 16)) 9 true, ⟨(some 18), (.fa 1 (.t 3)), (some (9, true)), [5, 6, 7, 8, 9, 10, 11, 12]⟩, ⟨(some 19), (.ld (.t 18)), (some (9, true)), [5, 6, 7, 8, 9, 10, 11, 12]⟩, ⟨(some 20), (.mv (.t 0)), (some (9, true)), [5, 6, 7, 8, 9, 10, 11, 12, 13, 14]⟩, ⟨(some 21), (.chk (.t 20)), (some (9, true)), [5, 6, 7, 8, 9, 10, 11, 12, 13, 14]⟩, ⟨(some 22), (.fa 5 (.t 21)), (some (9, true)), [5, 6, 7, 8, 9, 10, 11, 12, 13, 14]⟩, ⟨(some 23), (.fa 1 (.t 22)), (some (9, true)), [5, 6, 7, 8, 9, 10, 11, 12, 13, 14]⟩, ⟨(some 24), (.ld (.t 23)), (some (9, true)), [5, 6, 7, 8, 9, 10, 11, 12, 13, 14]⟩, ⟨(some 25), (.ar .sub (.t 19) (.t 24)), (some (9, true)), [5, 6, 7, 8, 9, 10, 11, 12]⟩, og 26 (.bsl 1 2 [(.int .i64 (0))] [(0, (.t 17)), (1, (.t 25))]) 9 true, og 27 (cl 67 [(.t 26)]) 9 true, og 28 (.ar .geq (.t 27) (ci 0)) 9 true, oo 29 (.pick (.t 9) (.t 28) (.c (.bool false))), om 4 29]) .ret)), 30, [(.tmp 4)], false, fun _ => none, fun _ _ => none⟩
noncomputable def c148 : CFn := ⟨(.seq (.reg [oo 2 (.mv (.c .nils))]) (.seq (.seq (.reg [om 3 0, oo 4 (.snil false (.t 3) (.c .nils))]) (.cond (.t 4) (.seq (.reg [oo 2 (.mv (.c .nils))]) .ret) .skip)) (.seq (.reg [oo 5 (.bsl 1 0 [(.int .i64 (0))] []), om 6 0, oo 7 (.app 1 (.t 5) (.t 6)), om 2 7]) .ret))), 8, [(.tmp 2)], false, fun _ => none, fun _ _ => none⟩
noncomputable def c149 : CFn := ⟨(.seq (.reg [oo 2 (.mv (.c .nils))]) (.seq (.reg [om 3 0, om 4 0, oo 5 (.len (.t 4)), om 6 0, oo 7 (.len (.t 6)), oo 8 (.slc 1 (.t 3) none (some (.t 5)) (some (.t 7))), om 2 8]) .ret)), 9, [(.tmp 2)], false, fun _ => none, fun _ _ => none⟩
noncomputable def c150 : CFn := ⟨(.seq (.reg [oo 2 (.mv (.c (.bool false)))]) (.seq (.reg [om 3 0, om 4 0, oo 5 (.ar .neq (.t 3) (.t 4)), om 2 5]) .ret)), 6, [(.tmp 2)], false, fun _ => none, fun _ _ => none⟩
noncomputable def c161 : CFn := ⟨(.seq (.reg [oo 2 (.box (.t 0)), oo 4 (.mv (.c .nils))]) (.seq (.seq (.reg [om 6 1]) (.block 0 (.rf (.t 6) [7] (.reg [om 5 7]) (.block 1 (.reg [oo 8 (.ld (.t 2)), om 9 5, oo 10 (.bsl 1 1 [(.int .i64 (0))] [(0, (.t 9))]), oo 11 (.app 1 (.t 8) (.t 10)), ⟨none, (.st 1 (.t 2) (.t 11)), none, []⟩]))))) (.seq (.reg [oo 12 (.ld (.t 2)), om 4 12]) .ret))), 13, [(.tmp 4)], false, fun _ => none, fun _ _ => none⟩
noncomputable def c162 : CFn := ⟨(.seq (.reg [oo 8 (.mv (.c (.bool true)))]) (.seq (.reg [oo 9 (.mv (.c (.bool true)))]) (.block 0 (.loop 783 (.block 1 (.seq (.reg [om 19 2, om 20 1, oo 21 (.ar .sub (.t 19) (.t 20)), om 10 21]) (.seq (.seq (.reg [om 22 10, oo 23 (.ar .leq (.t 22) (ci 12))]) (.cond (.t 23) (.seq (.reg [om 24 0, om 25 1, om 26 2, oo 27 (cl 169 [(.t 24), (.t 25), (.t 26)])]) .ret) .skip)) (.seq (.seq (.reg [om 28 3, oo 29 (.ar .eql (.t 28) (ci 0))]) (.cond (.t 29) (.seq (.reg [om 30 0, om 31 1, om 32 2, oo 33 (cl 170 [(.t 30), (.t 31), (.t 32)])]) .ret) .skip)) (.seq (.seq (.reg [om 34 8, oo 35 (.un .not (.t 34))]) (.cond (.t 35) (.seq (.reg [om 36 0, om 37 1, om 38 2, oo 39 (cl 171 [(.t 36), (.t 37), (.t 38)])]) (.reg [om 40 3, oo 41 (.ar .sub (.t 40) (ci 1)), om 3 41])) .skip)) (.seq (.reg [om 43 0, om 44 1, om 45 2, oo 46 (cl 172 [(.t 43), (.t 44), (.t 45)]), om 42 46, oo 47 (.ext 0 (.t 42)), oo 48 (.ext 1 (.t 42)), om 11 47, om 12 48]) (.seq (.seq (.reg [om 49 12, oo 50 (.ar .eql (.t 49) (ci 2))]) (.cond (.t 50) (.seq (.reg [om 51 0, om 52 1, om 53 2, oo 54 (cl 173 [(.t 51), (.t 52), (.t 53)])]) (.seq (.reg [om 55 2, oo 56 (.ar .sub (.t 55) (ci 1)), om 57 11, om 58 1, oo 59 (.ar .sub (.t 57) (.t 58)), oo 60 (.ar .sub (.t 56) (.t 59)), om 11 60]) (.reg [oo 12 (.mv (ci 1))]))) .skip)) (.seq (.seq (.reg [om 61 8, om 62 61, og 63 (.mv (.t 9)) 62 true, oo 64 (.pick (.t 62) (.t 63) (.c (.bool false))), om 65 64, og 66 (.mv (.t 12)) 65 true, og 67 (.ar .eql (.t 66) (ci 1)) 65 true, oo 68 (.pick (.t 65) (.t 67) (.c (.bool false)))]) (.cond (.t 68) (.seq (.reg [om 69 0, om 70 1, om 71 2, oo 72 (cl 174 [(.t 69), (.t 70), (.t 71)])]) (.cond (.t 72) .ret .skip)) .skip)) (.seq (.seq (.drw [om 73 1, oo 74 (.ar .gtr (.t 73) (ci 0)), om 75 74, og 76 (.mv (.t 0)) 75 true, ⟨(some 77), (.mv (.t 1)), (some (75, true)), [3]⟩, ⟨(some 78), (.ar .sub (.t 77) (ci 1)), (some (75, true)), [3]⟩, og 79 (.ias 1 (.t 76) (.t 78)) 75 true, og 80 (.ld (.t 79)) 75 true, ⟨(some 81), (.mv (.t 0)), (some (75, true)), [3, 4, 5, 6, 7]⟩, ⟨(some 82), (.mv (.t 11)), (some (75, true)), [3, 4, 5, 6, 7, 8]⟩, ⟨(some 83), (.ias 1 (.t 81) (.t 82)), (some (75, true)), [3, 4, 5, 6, 7]⟩, ⟨(some 84), (.ld (.t 83)), (some (75, true)), [3, 4, 5, 6, 7]⟩, og 85 (cl 175 [(.t 80), (.t 84)]) 75 true, og 86 (.un .not (.t 85)) 75 true, oo 87 (.pick (.t 75) (.t 86) (.c (.bool false)))]) (.cond (.t 87) (.seq (.reg [om 88 0, om 89 1, om 90 2, om 91 11, oo 92 (cl 176 [(.t 88), (.t 89), (.t 90), (.t 91)]), om 13 92]) (.seq (.reg [om 93 13, om 1 93]) (.exit 1))) .skip)) (.seq (.reg [om 95 0, om 96 1, om 97 2, om 98 11, oo 99 (cl 177 [(.t 95), (.t 96), (.t 97), (.t 98)]), om 94 99, oo 100 (.ext 0 (.t 94)), oo 101 (.ext 1 (.t 94)), om 14 100, om 15 101]) (.seq (.reg [om 102 15, om 9 102]) (.seq (.reg [om 103 14, om 104 1, oo 105 (.ar .sub (.t 103) (.t 104)), om 106 2, om 107 14, oo 108 (.ar .sub (.t 106) (.t 107)), om 16 105, om 17 108]) (.seq (.reg [om 109 10, oo 110 (.ar .quo (.t 109) (ci 8)), om 18 110]) (.seq (.reg [om 111 16, om 112 17, oo 113 (.ar .lss (.t 111) (.t 112))]) (.cond (.t 113) (.seq (.reg [om 114 16, om 115 18, oo 116 (.ar .geq (.t 114) (.t 115)), om 8 116]) (.seq (.reg [om 117 0, om 118 1, om 119 14, om 120 3, oo 121 (cl 162 [(.t 117), (.t 118), (.t 119), (.t 120)])]) (.reg [om 122 14, oo 123 (.ar .add (.t 122) (ci 1)), om 1 123]))) (.seq (.reg [om 124 17, om 125 18, oo 126 (.ar .geq (.t 124) (.t 125)), om 8 126]) (.seq (.reg [om 127 0, om 128 14, oo 129 (.ar .add (.t 128) (ci 1)), om 130 2, om 131 3, oo 132 (cl 162 [(.t 127), (.t 129), (.t 130), (.t 131)])]) (.reg [om 133 14, om 2 133])))))))))))))))))))))), 134, [], false, fun _ => none, fun _ _ => none⟩
noncomputable def c163 : CFn := ⟨(.seq (.reg [om 12 1, om 10 12]) (.block 0 (.loop 1053 (.block 1 (.seq (.reg [om 13 10, oo 14 (.ar .mul (ci 2) (.t 13)), oo 15 (.ar .add (.t 14) (ci 1)), om 11 15]) (.seq (.seq (.reg [om 16 11, om 17 2, oo 18 (.ar .geq (.t 16) (.t 17))]) (.cond (.t 18) (.exit 0) .skip)) (.seq (.seq (.drw [om 19 11, oo 20 (.ar .add (.t 19) (ci 1)), op 21 (.mv (.t 2)) [0, 1], oo 22 (.ar .lss (.t 20) (.t 21)), om 23 22, og 24 (.mv (.t 4)) 23 true, ⟨(some 25), (.mv (.t 0)), (some (23, true)), [5]⟩, ⟨(some 26), (.mv (.t 3)), (some (23, true)), [5, 6]⟩, ⟨(some 27), (.mv (.t 11)), (some (23, true)), [5, 6, 7]⟩, ⟨(some 28), (.ar .add (.t 26) (.t 27)), (some (23, true)), [5, 6]⟩, ⟨(some 29), (.ias 2 (.t 25) (.t 28)), (some (23, true)), [5]⟩, ⟨(some 30), (.ldn 2 (.t 29)), (some (23, true)), [5]⟩, ⟨(some 31), (.mv (.t 0)), (some (23, true)), [5, 6, 7, 8, 9, 10, 11]⟩, ⟨(some 32), (.mv (.t 3)), (some (23, true)), [5, 6, 7, 8, 9, 10, 11, 12]⟩, ⟨(some 33), (.mv (.t 11)), (some (23, true)), [5, 6, 7, 8, 9, 10, 11, 12, 13]⟩, ⟨(some 34), (.ar .add (.t 32) (.t 33)), (some (23, true)), [5, 6, 7, 8, 9, 10, 11, 12]⟩, ⟨(some 35), (.ar .add (.t 34) (ci 1)), (some (23, true)), [5, 6, 7, 8, 9, 10, 11, 12]⟩, ⟨(some 36), (.ias 2 (.t 31) (.t 35)), (some (23, true)), [5, 6, 7, 8, 9, 10, 11]⟩, ⟨(some 37), (.ldn 2 (.t 36)), (some (23, true)), [5, 6, 7, 8, 9, 10, 11]⟩, og 38 (.call (.t 24) [(.t 30), (.t 37)]) 23 true, og 39 (.ar .lss (.t 38) (ci 0)) 23 true, oo 40 (.pick (.t 23) (.t 39) (.c (.bool false)))]) (.cond (.t 40) (.reg [om 41 11, oo 42 (.ar .add (.t 41) (ci 1)), om 11 42]) .skip)) (.seq (.seq (.drw [om 43 4, op 44 (.mv (.t 0)) [0], op 45 (.mv (.t 3)) [0, 1], op 46 (.mv (.t 10)) [0, 1, 2], op 47 (.ar .add (.t 45) (.t 46)) [0, 1], op 48 (.ias 2 (.t 44) (.t 47)) [0], op 49 (.ldn 2 (.t 48)) [0], op 50 (.mv (.t 0)) [0, 1, 2, 3, 4, 5, 6], op 51 (.mv (.t 3)) [0, 1, 2, 3, 4, 5, 6, 7], op 52 (.mv (.t 11)) [0, 1, 2, 3, 4, 5, 6, 7, 8], op 53 (.ar .add (.t 51) (.t 52)) [0, 1, 2, 3, 4, 5, 6, 7], op 54 (.ias 2 (.t 50) (.t 53)) [0, 1, 2, 3, 4, 5, 6], op 55 (.ldn 2 (.t 54)) [0, 1, 2, 3, 4, 5, 6], oo 56 (.call (.t 43) [(.t 49), (.t 55)]), oo 57 (.ar .lss (.t 56) (ci 0)), oo 58 (.un .not (.t 57))]) (.cond (.t 58) .ret .skip)) (.seq (.drw [om 59 0, op 60 (.mv (.t 3)) [0], op 61 (.mv (.t 10)) [0, 1], op 62 (.ar .add (.t 60) (.t 61)) [0], op 63 (.mv (.t 0)) [0, 1, 2, 3], op 64 (.mv (.t 3)) [0, 1, 2, 3, 4], op 65 (.mv (.t 11)) [0, 1, 2, 3, 4, 5], op 66 (.ar .add (.t 64) (.t 65)) [0, 1, 2, 3, 4], op 67 (.mv (.t 0)) [0, 1, 2, 3, 4, 5, 6, 7], op 68 (.mv (.t 3)) [0, 1, 2, 3, 4, 5, 6, 7, 8], op 69 (.mv (.t 11)) [0, 1, 2, 3, 4, 5, 6, 7, 8, 9], op 70 (.ar .add (.t 68) (.t 69)) [0, 1, 2, 3, 4, 5, 6, 7, 8], op 71 (.ias 2 (.t 67) (.t 70)) [0, 1, 2, 3, 4, 5, 6, 7], op 72 (.ldn 2 (.t 71)) [0, 1, 2, 3, 4, 5, 6, 7], op 73 (.mv (.t 0)) [0, 1, 2, 3, 4, 5, 6, 7, 8, 9, 10, 11, 12, 13], op 74 (.mv (.t 3)) [0, 1, 2, 3, 4, 5, 6, 7, 8, 9, 10, 11, 12, 13, 14], op 75 (.mv (.t 10)) [0, 1, 2, 3, 4, 5, 6, 7, 8, 9, 10, 11, 12, 13, 14, 15], op 76 (.ar .add (.t 74) (.t 75)) [0, 1, 2, 3, 4, 5, 6, 7, 8, 9, 10, 11, 12, 13, 14], op 77 (.ias 2 (.t 73) (.t 76)) [0, 1, 2, 3, 4, 5, 6, 7, 8, 9, 10, 11, 12, 13], op 78 (.ldn 2 (.t 77)) [0, 1, 2, 3, 4, 5, 6, 7, 8, 9, 10, 11, 12, 13], op 79 (.ias 2 (.t 59) (.t 62)) [4, 5, 6, 7], ⟨none, (.st 2 (.t 79) (.t 72)), none, [4, 5, 6, 7]⟩, oo 80 (.ias 2 (.t 63) (.t 66)), ⟨none, (.st 2 (.t 80) (.t 78)), none, []⟩]) (.reg [om 81 11, om 10 81])))))))))), 82, [], false, fun _ => none, fun _ _ => none⟩
noncomputable def c164 : CFn := ⟨(.seq (.reg [oo 2 (.mv (.c (.int .u64 (0))))]) (.seq (.reg [om 3 0, oo 4 (.conv .u64 (.t 3)), oo 5 (cl 104 [(.t 4)]), oo 6 (.sh .shl (.c (.int .u64 (1))) (.t 5)), om 2 6]) .ret)), 7, [(.tmp 2)], false, fun _ => none, fun _ _ => none⟩
noncomputable def c165 : CFn := ⟨(.seq (.reg [oo 2 (.mv (.c (.int .u64 (0))))]) (.seq (.drw [om 3 0, oo 4 (.chk (.t 3)), oo 5 (.ld (.t 4)), op 6 (.mv (.t 0)) [0, 1, 2], op 7 (.chk (.t 6)) [0, 1, 2], op 8 (.ld (.t 7)) [0, 1, 2], op 9 (.sh .shl (.t 8) (.c (.int .u64 (13)))) [0, 1, 2], oo 10 (.ar .xor (.t 5) (.t 9)), oo 11 (.chk (.t 3)), ⟨none, (.st 1 (.t 11) (.t 10)), none, []⟩]) (.seq (.drw [om 12 0, oo 13 (.chk (.t 12)), oo 14 (.ld (.t 13)), op 15 (.mv (.t 0)) [0, 1, 2], op 16 (.chk (.t 15)) [0, 1, 2], op 17 (.ld (.t 16)) [0, 1, 2], op 18 (.sh .shr (.t 17) (.c (.int .u64 (7)))) [0, 1, 2], oo 19 (.ar .xor (.t 14) (.t 18)), oo 20 (.chk (.t 12)), ⟨none, (.st 1 (.t 20) (.t 19)), none, []⟩]) (.seq (.drw [om 21 0, oo 22 (.chk (.t 21)), oo 23 (.ld (.t 22)), op 24 (.mv (.t 0)) [0, 1, 2], op 25 (.chk (.t 24)) [0, 1, 2], op 26 (.ld (.t 25)) [0, 1, 2], op 27 (.sh .shl (.t 26) (.c (.int .u64 (17)))) [0, 1, 2], oo 28 (.ar .xor (.t 23) (.t 27)), oo 29 (.chk (.t 21)), ⟨none, (.st 1 (.t 29) (.t 28)), none, []⟩]) (.seq (.reg [om 30 0, oo 31 (.chk (.t 30)), oo 32 (.ld (.t 31)), om 2 32]) .ret))))), 33, [(.tmp 2)], false, fun _ => none, fun _ _ => none⟩
noncomputable def c166 : CFn := ⟨(.seq (.reg [oo 8 (.mv (ci 0))]) (.seq (.reg [om 9 0, om 10 1, oo 11 (.ar .sub (.t 10) (ci 1)), om 12 1, om 13 1, oo 14 (.ar .add (.t 13) (ci 1)), om 15 2, om 16 3, oo 17 (cl 167 [(.t 9), (.t 11), (.t 12), (.t 14), (.t 15), (.t 16)]), om 8 17]) .ret)), 18, [(.tmp 8)], false, fun _ => none, fun _ _ => none⟩
noncomputable def c167 : CFn := ⟨(.seq (.reg [oo 12 (.mv (ci 0))]) (.seq (.reg [om 14 0, om 15 1, om 16 2, om 17 4, om 18 5, oo 19 (cl 178 [(.t 14), (.t 15), (.t 16), (.t 17), (.t 18)]), om 13 19, oo 20 (.ext 0 (.t 13)), oo 21 (.ext 1 (.t 13)), om 1 20, om 2 21]) (.seq (.reg [om 23 0, om 24 2, om 25 3, om 26 4, om 27 5, oo 28 (cl 178 [(.t 23), (.t 24), (.t 25), (.t 26), (.t 27)]), om 22 28, oo 29 (.ext 0 (.t 22)), oo 30 (.ext 1 (.t 22)), om 2 29, om 3 30]) (.seq (.reg [om 32 0, om 33 1, om 34 2, om 35 4, om 36 5, oo 37 (cl 178 [(.t 32), (.t 33), (.t 34), (.t 35), (.t 36)]), om 31 37, oo 38 (.ext 0 (.t 31)), oo 39 (.ext 1 (.t 31)), om 1 38, om 2 39]) (.seq (.reg [om 40 2, om 12 40]) .ret))))), 41, [(.tmp 12)], false, fun _ => none, fun _ _ => none⟩
noncomputable def c169 : CFn := ⟨(.seq (.reg [om 8 1, oo 9 (.ar .add (.t 8) (ci 1)), om 6 9]) (.block 0 (.loop 71 (.seq (.seq (.reg [om 10 6, om 11 2, oo 12 (.ar .lss (.t 10) (.t 11))]) (.cond (.t 12) .skip (.exit 0))) (.seq (.block 1 (.seq (.reg [om 15 6, om 7 15]) (.block 2 (.loop 199 (.seq (.seq (.drw [om 16 7, op 17 (.mv (.t 1)) [0], oo 18 (.ar .gtr (.t 16) (.t 17)), om 19 18, og 20 (.mv (.t 0)) 19 true, ⟨(some 21), (.mv (.t 7)), (some (19, true)), [4]⟩, og 22 (.ias 1 (.t 20) (.t 21)) 19 true, og 23 (.ld (.t 22)) 19 true, ⟨(some 24), (.mv (.t 0)), (some (19, true)), [4, 5, 6, 7]⟩, ⟨(some 25), (.mv (.t 7)), (some (19, true)), [4, 5, 6, 7, 8]⟩, ⟨(some 26), (.ar .sub (.t 25) (ci 1)), (some (19, true)), [4, 5, 6, 7, 8]⟩, ⟨(some 27), (.ias 1 (.t 24) (.t 26)), (some (19, true)), [4, 5, 6, 7]⟩, ⟨(some 28), (.ld (.t 27)), (some (19, true)), [4, 5, 6, 7]⟩, og 29 (cl 175 [(.t 23), (.t 28)]) 19 true, oo 30 (.pick (.t 19) (.t 29) (.c (.bool false)))]) (.cond (.t 30) .skip (.exit 2))) (.seq (.block 3 (.drw [om 33 0, op 34 (.mv (.t 7)) [0], op 35 (.mv (.t 0)) [0, 1], op 36 (.mv (.t 7)) [0, 1, 2], op 37 (.ar .sub (.t 36) (ci 1)) [0, 1, 2], op 38 (.mv (.t 0)) [0, 1, 2, 3, 4], op 39 (.mv (.t 7)) [0, 1, 2, 3, 4, 5], op 40 (.ar .sub (.t 39) (ci 1)) [0, 1, 2, 3, 4, 5], op 41 (.ias 1 (.t 38) (.t 40)) [0, 1, 2, 3, 4], op 42 (.ld (.t 41)) [0, 1, 2, 3, 4], op 43 (.mv (.t 0)) [0, 1, 2, 3, 4, 5, 6, 7, 8, 9], op 44 (.mv (.t 7)) [0, 1, 2, 3, 4, 5, 6, 7, 8, 9, 10], op 45 (.ias 1 (.t 43) (.t 44)) [0, 1, 2, 3, 4, 5, 6, 7, 8, 9], op 46 (.ld (.t 45)) [0, 1, 2, 3, 4, 5, 6, 7, 8, 9], op 47 (.ias 1 (.t 33) (.t 34)) [2, 3, 4], ⟨none, (.st 1 (.t 47) (.t 42)), none, [2, 3, 4]⟩, oo 48 (.ias 1 (.t 35) (.t 37)), ⟨none, (.st 1 (.t 48) (.t 46)), none, []⟩])) (.reg [om 31 7, oo 32 (.ar .sub (.t 31) (ci 1)), om 7 32]))))))) (.reg [om 13 6, oo 14 (.ar .add (.t 13) (ci 1)), om 6 14])))))), 49, [], false, fun _ => none, fun _ _ => none⟩
noncomputable def c170 : CFn := ⟨(.seq (.reg [om 11 1, om 6 11]) (.seq (.reg [oo 7 (.mv (ci 0))]) (.seq (.reg [om 12 2, om 13 1, oo 14 (.ar .sub (.t 12) (.t 13)), om 8 14]) (.seq (.seq (.reg [om 15 8, oo 16 (.ar .sub (.t 15) (ci 1)), oo 17 (.ar .quo (.t 16) (ci 2)), om 9 17]) (.block 0 (.loop 961 (.seq (.seq (.reg [om 18 9, oo 19 (.ar .geq (.t 18) (ci 0))]) (.cond (.t 19) .skip (.exit 0))) (.seq (.block 1 (.reg [om 22 0, om 23 9, om 24 8, om 25 6, oo 26 (cl 179 [(.t 22), (.t 23), (.t 24), (.t 25)])])) (.reg [om 20 9, oo 21 (.ar .sub (.t 20) (ci 1)), om 9 21])))))) (.seq (.reg [om 27 8, oo 28 (.ar .sub (.t 27) (ci 1)), om 10 28]) (.block 2 (.loop 1217 (.seq (.seq (.reg [om 29 10, oo 30 (.ar .geq (.t 29) (ci 0))]) (.cond (.t 30) .skip (.exit 2))) (.seq (.block 3 (.seq (.drw [om 33 0, op 34 (.mv (.t 6)) [0], op 35 (.mv (.t 0)) [0, 1], op 36 (.mv (.t 6)) [0, 1, 2], op 37 (.mv (.t 10)) [0, 1, 2, 3], op 38 (.ar .add (.t 36) (.t 37)) [0, 1, 2], op 39 (.mv (.t 0)) [0, 1, 2, 3, 4, 5], op 40 (.mv (.t 6)) [0, 1, 2, 3, 4, 5, 6], op 41 (.mv (.t 10)) [0, 1, 2, 3, 4, 5, 6, 7], op 42 (.ar .add (.t 40) (.t 41)) [0, 1, 2, 3, 4, 5, 6], op 43 (.ias 1 (.t 39) (.t 42)) [0, 1, 2, 3, 4, 5], op 44 (.ld (.t 43)) [0, 1, 2, 3, 4, 5], op 45 (.mv (.t 0)) [0, 1, 2, 3, 4, 5, 6, 7, 8, 9, 10, 11], op 46 (.mv (.t 6)) [0, 1, 2, 3, 4, 5, 6, 7, 8, 9, 10, 11, 12], op 47 (.ias 1 (.t 45) (.t 46)) [0, 1, 2, 3, 4, 5, 6, 7, 8, 9, 10, 11], op 48 (.ld (.t 47)) [0, 1, 2, 3, 4, 5, 6, 7, 8, 9, 10, 11], op 49 (.ias 1 (.t 33) (.t 34)) [2, 3, 4, 5], ⟨none, (.st 1 (.t 49) (.t 44)), none, [2, 3, 4, 5]⟩, oo 50 (.ias 1 (.t 35) (.t 38)), ⟨none, (.st 1 (.t 50) (.t 48)), none, []⟩]) (.reg [om 51 0, om 52 7, om 53 10, om 54 6, oo 55 (cl 179 [(.t 51), (.t 52), (.t 53), (.t 54)])]))) (.reg [om 31 10, oo 32 (.ar .sub (.t 31) (ci 1)), om 10 32])))))))))), 56, [], false, fun _ => none, fun _ _ => none⟩
noncomputable def c171 : CFn := ⟨(.seq (.reg [om 11 2, om 12 1, oo 13 (.ar .sub (.t 11) (.t 12)), om 6 13]) (.seq (.reg [om 14 6, oo 15 (.ar .geq (.t 14) (ci 8))]) (.cond (.t 15) (.seq (.reg [om 16 6, oo 17 (.conv .u64 (.t 16)), oo 7 (.new [(.int .u64 (0))]), ⟨none, (.st 1 (.t 7) (.t 17)), none, []⟩]) (.seq (.reg [om 18 6, oo 19 (cl 164 [(.t 18)]), om 8 19]) (.seq (.reg [om 20 1, om 21 6, oo 22 (.ar .quo (.t 21) (ci 4)), oo 23 (.ar .mul (.t 22) (ci 2)), oo 24 (.ar .add (.t 20) (.t 23)), oo 25 (.ar .sub (.t 24) (ci 1)), om 9 25]) (.block 0 (.loop 963 (.seq (.seq (.reg [om 26 9, om 27 1, om 28 6, oo 29 (.ar .quo (.t 28) (ci 4)), oo 30 (.ar .mul (.t 29) (ci 2)), oo 31 (.ar .add (.t 27) (.t 30)), oo 32 (.ar .add (.t 31) (ci 1)), oo 33 (.ar .leq (.t 26) (.t 32))]) (.cond (.t 33) .skip (.exit 0))) (.seq (.block 1 (.seq (.reg [oo 36 (cl 165 [(.t 7)]), om 37 8, oo 38 (.ar .sub (.t 37) (.c (.int .u64 (1)))), oo 39 (.ar .and (.t 36) (.t 38)), oo 40 (.conv .i64 (.t 39)), om 10 40]) (.seq (.seq (.reg [om 41 10, om 42 6, oo 43 (.ar .geq (.t 41) (.t 42))]) (.cond (.t 43) (.reg [om 44 10, om 45 6, oo 46 (.ar .sub (.t 44) (.t 45)), om 10 46]) .skip)) (.drw [om 47 0, op 48 (.mv (.t 9)) [0], op 49 (.mv (.t 0)) [0, 1], op 50 (.mv (.t 1)) [0, 1, 2], op 51 (.mv (.t 10)) [0, 1, 2, 3], op 52 (.ar .add (.t 50) (.t 51)) [0, 1, 2], op 53 (.mv (.t 0)) [0, 1, 2, 3, 4, 5], op 54 (.mv (.t 1)) [0, 1, 2, 3, 4, 5, 6], op 55 (.mv (.t 10)) [0, 1, 2, 3, 4, 5, 6, 7], op 56 (.ar .add (.t 54) (.t 55)) [0, 1, 2, 3, 4, 5, 6], op 57 (.ias 1 (.t 53) (.t 56)) [0, 1, 2, 3, 4, 5], op 58 (.ld (.t 57)) [0, 1, 2, 3, 4, 5], op 59 (.mv (.t 0)) [0, 1, 2, 3, 4, 5, 6, 7, 8, 9, 10, 11], op 60 (.mv (.t 9)) [0, 1, 2, 3, 4, 5, 6, 7, 8, 9, 10, 11, 12], op 61 (.ias 1 (.t 59) (.t 60)) [0, 1, 2, 3, 4, 5, 6, 7, 8, 9, 10, 11], op 62 (.ld (.t 61)) [0, 1, 2, 3, 4, 5, 6, 7, 8, 9, 10, 11], op 63 (.ias 1 (.t 47) (.t 48)) [2, 3, 4, 5], ⟨none, (.st 1 (.t 63) (.t 58)), none, [2, 3, 4, 5]⟩, oo 64 (.ias 1 (.t 49) (.t 52)), ⟨none, (.st 1 (.t 64) (.t 62)), none, []⟩])))) (.reg [om 34 9, oo 35 (.ar .add (.t 34) (ci 1)), om 9 35])))))))) .skip))), 65, [], false, fun _ => none, fun _ _ => none⟩
noncomputable def c172 : CFn := ⟨(.seq (.reg [oo 6 (.mv (ci 0)), oo 7 (.mv (ci 0))]) (.seq (.reg [om 13 2, om 14 1, oo 15 (.ar .sub (.t 13) (.t 14)), om 8 15]) (.seq (.reg [oo 9 (.new [(.int .i64 (0))])]) (.seq (.reg [om 16 1, om 17 8, oo 18 (.ar .quo (.t 17) (ci 4)), oo 19 (.ar .mul (.t 18) (ci 1)), oo 20 (.ar .add (.t 16) (.t 19)), om 10 20]) (.seq (.reg [om 21 1, om 22 8, oo 23 (.ar .quo (.t 22) (ci 4)), oo 24 (.ar .mul (.t 23) (ci 2)), oo 25 (.ar .add (.t 21) (.t 24)), om 11 25]) (.seq (.reg [om 26 1, om 27 8, oo 28 (.ar .quo (.t 27) (ci 4)), oo 29 (.ar .mul (.t 28) (ci 3)), oo 30 (.ar .add (.t 26) (.t 29)), om 12 30]) (.seq (.seq (.reg [om 31 8, oo 32 (.ar .geq (.t 31) (ci 8))]) (.cond (.t 32) (.seq (.seq (.reg [om 33 8, oo 34 (.ar .geq (.t 33) (ci 50))]) (.cond (.t 34) (.seq (.reg [om 35 0, om 36 10, oo 37 (cl 180 [(.t 35), (.t 36), (.t 9)]), om 10 37]) (.seq (.reg [om 38 0, om 39 11, oo 40 (cl 180 [(.t 38), (.t 39), (.t 9)]), om 11 40]) (.reg [om 41 0, om 42 12, oo 43 (cl 180 [(.t 41), (.t 42), (.t 9)]), om 12 43]))) .skip)) (.reg [om 44 0, om 45 10, om 46 11, om 47 12, oo 48 (cl 181 [(.t 44), (.t 45), (.t 46), (.t 47), (.t 9)]), om 11 48])) .skip)) (.seq (.reg [oo 49 (.ld (.t 9))]) (.block 0 (.seq (.reg [oo 52 (.ar .eql (.t 49) (ci 0)), om 51 52]) (.cond (.t 51) (.seq (.reg [om 53 11, om 6 53, oo 7 (.mv (ci 1))]) .ret) (.seq (.reg [oo 55 (.ar .eql (.t 49) (ci 12)), om 54 55]) (.cond (.t 54) (.seq (.reg [om 56 11, om 6 56, oo 7 (.mv (ci 2))]) .ret) (.seq (.reg [om 50 11, om 6 50, oo 7 (.mv (ci 0))]) .ret)))))))))))))), 57, [(.tmp 6), (.tmp 7)], false, fun _ => none, fun _ _ => none⟩
noncomputable def c173 : CFn := ⟨(.seq (.reg [om 8 1, om 6 8]) (.seq (.reg [om 9 2, oo 10 (.ar .sub (.t 9) (ci 1)), om 7 10]) (.block 0 (.loop 193 (.seq (.seq (.reg [om 11 6, om 12 7, oo 13 (.ar .lss (.t 11) (.t 12))]) (.cond (.t 13) .skip (.exit 0))) (.block 1 (.seq (.drw [om 14 0, op 15 (.mv (.t 6)) [0], op 16 (.mv (.t 0)) [0, 1], op 17 (.mv (.t 7)) [0, 1, 2], op 18 (.mv (.t 0)) [0, 1, 2, 3], op 19 (.mv (.t 7)) [0, 1, 2, 3, 4], op 20 (.ias 1 (.t 18) (.t 19)) [0, 1, 2, 3], op 21 (.ld (.t 20)) [0, 1, 2, 3], op 22 (.mv (.t 0)) [0, 1, 2, 3, 4, 5, 6, 7], op 23 (.mv (.t 6)) [0, 1, 2, 3, 4, 5, 6, 7, 8], op 24 (.ias 1 (.t 22) (.t 23)) [0, 1, 2, 3, 4, 5, 6, 7], op 25 (.ld (.t 24)) [0, 1, 2, 3, 4, 5, 6, 7], op 26 (.ias 1 (.t 14) (.t 15)) [2, 3], ⟨none, (.st 1 (.t 26) (.t 21)), none, [2, 3]⟩, oo 27 (.ias 1 (.t 16) (.t 17)), ⟨none, (.st 1 (.t 27) (.t 25)), none, []⟩]) (.seq (.reg [om 28 6, oo 29 (.ar .add (.t 28) (ci 1)), om 6 29]) (.reg [om 30 7, oo 31 (.ar .sub (.t 30) (ci 1)), om 7 31]))))))))), 32, [], false, fun _ => none, fun _ _ => none⟩
noncomputable def c174 : CFn := ⟨(.seq (.reg [oo 6 (.mv (.c (.bool false)))]) (.seq (.reg [om 11 1, oo 12 (.ar .add (.t 11) (ci 1)), om 7 12]) (.seq (.seq (.reg [oo 8 (.mv (ci 0))]) (.block 0 (.loop 391 (.seq (.seq (.reg [om 13 8, oo 14 (.ar .lss (.t 13) (ci 5))]) (.cond (.t 14) .skip (.exit 0))) (.seq (.block 1 (.seq (.block 2 (.loop 391 (.seq (.seq (.drw [om 17 7, op 18 (.mv (.t 2)) [0], oo 19 (.ar .lss (.t 17) (.t 18)), om 20 19, og 21 (.mv (.t 0)) 20 true, ⟨(some 22), (.mv (.t 7)), (some (20, true)), [4]⟩, og 23 (.ias 1 (.t 21) (.t 22)) 20 true, og 24 (.ld (.t 23)) 20 true, ⟨(some 25), (.mv (.t 0)), (some (20, true)), [4, 5, 6, 7]⟩, ⟨(some 26), (.mv (.t 7)), (some (20, true)), [4, 5, 6, 7, 8]⟩, ⟨(some 27), (.ar .sub (.t 26) (ci 1)), (some (20, true)), [4, 5, 6, 7, 8]⟩, ⟨(some 28), (.ias 1 (.t 25) (.t 27)), (some (20, true)), [4, 5, 6, 7]⟩, ⟨(some 29), (.ld (.t 28)), (some (20, true)), [4, 5, 6, 7]⟩, og 30 (cl 175 [(.t 24), (.t 29)]) 20 true, og 31 (.un .not (.t 30)) 20 true, oo 32 (.pick (.t 20) (.t 31) (.c (.bool false)))]) (.cond (.t 32) .skip (.exit 2))) (.block 3 (.reg [om 33 7, oo 34 (.ar .add (.t 33) (ci 1)), om 7 34]))))) (.seq (.seq (.reg [om 35 7, om 36 2, oo 37 (.ar .eql (.t 35) (.t 36))]) (.cond (.t 37) (.seq (.reg [oo 6 (.mv (.c (.bool true)))]) .ret) .skip)) (.seq (.seq (.reg [om 38 2, om 39 1, oo 40 (.ar .sub (.t 38) (.t 39)), oo 41 (.ar .lss (.t 40) (ci 50))]) (.cond (.t 41) (.seq (.reg [oo 6 (.mv (.c (.bool false)))]) .ret) .skip)) (.seq (.drw [om 42 0, op 43 (.mv (.t 7)) [0], op 44 (.mv (.t 0)) [0, 1], op 45 (.mv (.t 7)) [0, 1, 2], op 46 (.ar .sub (.t 45) (ci 1)) [0, 1, 2], op 47 (.mv (.t 0)) [0, 1, 2, 3, 4], op 48 (.mv (.t 7)) [0, 1, 2, 3, 4, 5], op 49 (.ar .sub (.t 48) (ci 1)) [0, 1, 2, 3, 4, 5], op 50 (.ias 1 (.t 47) (.t 49)) [0, 1, 2, 3, 4], op 51 (.ld (.t 50)) [0, 1, 2, 3, 4], op 52 (.mv (.t 0)) [0, 1, 2, 3, 4, 5, 6, 7, 8, 9], op 53 (.mv (.t 7)) [0, 1, 2, 3, 4, 5, 6, 7, 8, 9, 10], op 54 (.ias 1 (.t 52) (.t 53)) [0, 1, 2, 3, 4, 5, 6, 7, 8, 9], op 55 (.ld (.t 54)) [0, 1, 2, 3, 4, 5, 6, 7, 8, 9], op 56 (.ias 1 (.t 42) (.t 43)) [2, 3, 4], ⟨none, (.st 1 (.t 56) (.t 51)), none, [2, 3, 4]⟩, oo 57 (.ias 1 (.t 44) (.t 46)), ⟨none, (.st 1 (.t 57) (.t 55)), none, []⟩]) (.seq (.seq (.reg [om 58 7, om 59 1, oo 60 (.ar .sub (.t 58) (.t 59)), oo 61 (.ar .geq (.t 60) (ci 2))]) (.cond (.t 61) (.seq (.reg [om 62 7, oo 63 (.ar .sub (.t 62) (ci 1)), om 9 63]) (.block 4 (.loop 903 (.seq (.seq (.reg [om 64 9, oo 65 (.ar .geq (.t 64) (ci 1))]) (.cond (.t 65) .skip (.exit 4))) (.seq (.block 5 (.seq (.seq (.drw [om 68 0, op 69 (.mv (.t 9)) [0], oo 70 (.ias 1 (.t 68) (.t 69)), oo 71 (.ld (.t 70)), op 72 (.mv (.t 0)) [0, 1, 2, 3], op 73 (.mv (.t 9)) [0, 1, 2, 3, 4], op 74 (.ar .sub (.t 73) (ci 1)) [0, 1, 2, 3, 4], op 75 (.ias 1 (.t 72) (.t 74)) [0, 1, 2, 3], op 76 (.ld (.t 75)) [0, 1, 2, 3], oo 77 (cl 175 [(.t 71), (.t 76)]), oo 78 (.un .not (.t 77))]) (.cond (.t 78) (.exit 4) .skip)) (.drw [om 79 0, op 80 (.mv (.t 9)) [0], op 81 (.mv (.t 0)) [0, 1], op 82 (.mv (.t 9)) [0, 1, 2], op 83 (.ar .sub (.t 82) (ci 1)) [0, 1, 2], op 84 (.mv (.t 0)) [0, 1, 2, 3, 4], op 85 (.mv (.t 9)) [0, 1, 2, 3, 4, 5], op 86 (.ar .sub (.t 85) (ci 1)) [0, 1, 2, 3, 4, 5], op 87 (.ias 1 (.t 84) (.t 86)) [0, 1, 2, 3, 4], op 88 (.ld (.t 87)) [0, 1, 2, 3, 4], op 89 (.mv (.t 0)) [0, 1, 2, 3, 4, 5, 6, 7, 8, 9], op 90 (.mv (.t 9)) [0, 1, 2, 3, 4, 5, 6, 7, 8, 9, 10], op 91 (.ias 1 (.t 89) (.t 90)) [0, 1, 2, 3, 4, 5, 6, 7, 8, 9], op 92 (.ld (.t 91)) [0, 1, 2, 3, 4, 5, 6, 7, 8, 9], op 93 (.ias 1 (.t 79) (.t 80)) [2, 3, 4], ⟨none, (.st 1 (.t 93) (.t 88)), none, [2, 3, 4]⟩, oo 94 (.ias 1 (.t 81) (.t 83)), ⟨none, (.st 1 (.t 94) (.t 92)), none, []⟩]))) (.reg [om 66 9, oo 67 (.ar .sub (.t 66) (ci 1)), om 9 67])))))) .skip)) (.seq (.reg [om 95 2, om 96 7, oo 97 (.ar .sub (.t 95) (.t 96)), oo 98 (.ar .geq (.t 97) (ci 2))]) (.cond (.t 98) (.seq (.reg [om 99 7, oo 100 (.ar .add (.t 99) (ci 1)), om 10 100]) (.block 6 (.loop 1415 (.seq (.seq (.reg [om 101 10, om 102 2, oo 103 (.ar .lss (.t 101) (.t 102))]) (.cond (.t 103) .skip (.exit 6))) (.seq (.block 7 (.seq (.seq (.drw [om 106 0, op 107 (.mv (.t 10)) [0], oo 108 (.ias 1 (.t 106) (.t 107)), oo 109 (.ld (.t 108)), op 110 (.mv (.t 0)) [0, 1, 2, 3], op 111 (.mv (.t 10)) [0, 1, 2, 3, 4], op 112 (.ar .sub (.t 111) (ci 1)) [0, 1, 2, 3, 4], op 113 (.ias 1 (.t 110) (.t 112)) [0, 1, 2, 3], op 114 (.ld (.t 113)) [0, 1, 2, 3], oo 115 (cl 175 [(.t 109), (.t 114)]), oo 116 (.un .not (.t 115))]) (.cond (.t 116) (.exit 6) .skip)) (.drw [om 117 0, op 118 (.mv (.t 10)) [0], op 119 (.mv (.t 0)) [0, 1], op 120 (.mv (.t 10)) [0, 1, 2], op 121 (.ar .sub (.t 120) (ci 1)) [0, 1, 2], op 122 (.mv (.t 0)) [0, 1, 2, 3, 4], op 123 (.mv (.t 10)) [0, 1, 2, 3, 4, 5], op 124 (.ar .sub (.t 123) (ci 1)) [0, 1, 2, 3, 4, 5], op 125 (.ias 1 (.t 122) (.t 124)) [0, 1, 2, 3, 4], op 126 (.ld (.t 125)) [0, 1, 2, 3, 4], op 127 (.mv (.t 0)) [0, 1, 2, 3, 4, 5, 6, 7, 8, 9], op 128 (.mv (.t 10)) [0, 1, 2, 3, 4, 5, 6, 7, 8, 9, 10], op 129 (.ias 1 (.t 127) (.t 128)) [0, 1, 2, 3, 4, 5, 6, 7, 8, 9], op 130 (.ld (.t 129)) [0, 1, 2, 3, 4, 5, 6, 7, 8, 9], op 131 (.ias 1 (.t 117) (.t 118)) [2, 3, 4], ⟨none, (.st 1 (.t 131) (.t 126)), none, [2, 3, 4]⟩, oo 132 (.ias 1 (.t 119) (.t 121)), ⟨none, (.st 1 (.t 132) (.t 130)), none, []⟩]))) (.reg [om 104 10, oo 105 (.ar .add (.t 104) (ci 1)), om 10 105])))))) .skip)))))))) (.reg [om 15 8, oo 16 (.ar .add (.t 15) (ci 1)), om 8 16])))))) (.seq (.reg [oo 6 (.mv (.c (.bool false)))]) .ret)))), 133, [(.tmp 6)], false, fun _ => none, fun _ _ => none⟩
noncomputable def c175 : CFn := ⟨(.seq (.reg [oo 4 (.mv (.c (.bool false)))]) (.seq (.reg [om 5 0, oo 6 (cl 150 [(.t 5)]), om 7 6, og 8 (.mv (.t 1)) 7 true, og 9 (cl 150 [(.t 8)]) 7 true, og 10 (.un .not (.t 9)) 7 true, oo 11 (.pick (.t 7) (.t 10) (.c (.bool false))), om 12 11, og 13 (.mv (.t 0)) 12 false, og 14 (.mv (.t 1)) 12 false, og 15 (.ar .lss (.t 13) (.t 14)) 12 false, oo 16 (.pick (.t 12) (.c (.bool true)) (.t 15)), om 4 16]) .ret)), 17, [(.tmp 4)], false, fun _ => none, fun _ _ => none⟩
noncomputable def c176 : CFn := ⟨(.seq (.reg [oo 8 (.mv (ci 0))]) (.seq (.drw [om 11 0, op 12 (.mv (.t 1)) [0], op 13 (.mv (.t 0)) [0, 1], op 14 (.mv (.t 3)) [0, 1, 2], op 15 (.mv (.t 0)) [0, 1, 2, 3], op 16 (.mv (.t 3)) [0, 1, 2, 3, 4], op 17 (.ias 1 (.t 15) (.t 16)) [0, 1, 2, 3], op 18 (.ld (.t 17)) [0, 1, 2, 3], op 19 (.mv (.t 0)) [0, 1, 2, 3, 4, 5, 6, 7], op 20 (.mv (.t 1)) [0, 1, 2, 3, 4, 5, 6, 7, 8], op 21 (.ias 1 (.t 19) (.t 20)) [0, 1, 2, 3, 4, 5, 6, 7], op 22 (.ld (.t 21)) [0, 1, 2, 3, 4, 5, 6, 7], op 23 (.ias 1 (.t 11) (.t 12)) [2, 3], ⟨none, (.st 1 (.t 23) (.t 18)), none, [2, 3]⟩, oo 24 (.ias 1 (.t 13) (.t 14)), ⟨none, (.st 1 (.t 24) (.t 22)), none, []⟩]) (.seq (.reg [om 25 1, oo 26 (.ar .add (.t 25) (ci 1)), om 27 2, oo 28 (.ar .sub (.t 27) (ci 1)), om 9 26, om 10 28]) (.seq (.block 0 (.loop 1539 (.block 1 (.seq (.block 2 (.loop 1539 (.seq (.seq (.drw [om 29 9, op 30 (.mv (.t 10)) [0], oo 31 (.ar .leq (.t 29) (.t 30)), om 32 31, og 33 (.mv (.t 0)) 32 true, ⟨(some 34), (.mv (.t 1)), (some (32, true)), [4]⟩, og 35 (.ias 1 (.t 33) (.t 34)) 32 true, og 36 (.ld (.t 35)) 32 true, ⟨(some 37), (.mv (.t 0)), (some (32, true)), [4, 5, 6, 7]⟩, ⟨(some 38), (.mv (.t 9)), (some (32, true)), [4, 5, 6, 7, 8]⟩, ⟨(some 39), (.ias 1 (.t 37) (.t 38)), (some (32, true)), [4, 5, 6, 7]⟩, ⟨(some 40), (.ld (.t 39)), (some (32, true)), [4, 5, 6, 7]⟩, og 41 (cl 175 [(.t 36), (.t 40)]) 32 true, og 42 (.un .not (.t 41)) 32 true, oo 43 (.pick (.t 32) (.t 42) (.c (.bool false)))]) (.cond (.t 43) .skip (.exit 2))) (.block 3 (.reg [om 44 9, oo 45 (.ar .add (.t 44) (ci 1)), om 9 45]))))) (.seq (.block 4 (.loop 1539 (.seq (.seq (.drw [om 46 9, op 47 (.mv (.t 10)) [0], oo 48 (.ar .leq (.t 46) (.t 47)), om 49 48, og 50 (.mv (.t 0)) 49 true, ⟨(some 51), (.mv (.t 1)), (some (49, true)), [4]⟩, og 52 (.ias 1 (.t 50) (.t 51)) 49 true, og 53 (.ld (.t 52)) 49 true, ⟨(some 54), (.mv (.t 0)), (some (49, true)), [4, 5, 6, 7]⟩, ⟨(some 55), (.mv (.t 10)), (some (49, true)), [4, 5, 6, 7, 8]⟩, ⟨(some 56), (.ias 1 (.t 54) (.t 55)), (some (49, true)), [4, 5, 6, 7]⟩, ⟨(some 57), (.ld (.t 56)), (some (49, true)), [4, 5, 6, 7]⟩, og 58 (cl 175 [(.t 53), (.t 57)]) 49 true, oo 59 (.pick (.t 49) (.t 58) (.c (.bool false)))]) (.cond (.t 59) .skip (.exit 4))) (.block 5 (.reg [om 60 10, oo 61 (.ar .sub (.t 60) (ci 1)), om 10 61]))))) (.seq (.seq (.reg [om 62 9, om 63 10, oo 64 (.ar .gtr (.t 62) (.t 63))]) (.cond (.t 64) (.exit 0) .skip)) (.seq (.drw [om 65 0, op 66 (.mv (.t 9)) [0], op 67 (.mv (.t 0)) [0, 1], op 68 (.mv (.t 10)) [0, 1, 2], op 69 (.mv (.t 0)) [0, 1, 2, 3], op 70 (.mv (.t 10)) [0, 1, 2, 3, 4], op 71 (.ias 1 (.t 69) (.t 70)) [0, 1, 2, 3], op 72 (.ld (.t 71)) [0, 1, 2, 3], op 73 (.mv (.t 0)) [0, 1, 2, 3, 4, 5, 6, 7], op 74 (.mv (.t 9)) [0, 1, 2, 3, 4, 5, 6, 7, 8], op 75 (.ias 1 (.t 73) (.t 74)) [0, 1, 2, 3, 4, 5, 6, 7], op 76 (.ld (.t 75)) [0, 1, 2, 3, 4, 5, 6, 7], op 77 (.ias 1 (.t 65) (.t 66)) [2, 3], ⟨none, (.st 1 (.t 77) (.t 72)), none, [2, 3]⟩, oo 78 (.ias 1 (.t 67) (.t 68)), ⟨none, (.st 1 (.t 78) (.t 76)), none, []⟩]) (.seq (.reg [om 79 9, oo 80 (.ar .add (.t 79) (ci 1)), om 9 80]) (.reg [om 81 10, oo 82 (.ar .sub (.t 81) (ci 1)), om 10 82]))))))))) (.seq (.reg [om 83 9, om 8 83]) .ret))))), 84, [(.tmp 8)], false, fun _ => none, fun _ _ => none⟩
noncomputable def c177 : CFn := ⟨(.seq (.reg [oo 8 (.mv (ci 0)), oo 9 (.mv (.c (.bool false)))]) (.seq (.drw [om 12 0, op 13 (.mv (.t 1)) [0], op 14 (.mv (.t 0)) [0, 1], op 15 (.mv (.t 3)) [0, 1, 2], op 16 (.mv (.t 0)) [0, 1, 2, 3], op 17 (.mv (.t 3)) [0, 1, 2, 3, 4], op 18 (.ias 1 (.t 16) (.t 17)) [0, 1, 2, 3], op 19 (.ld (.t 18)) [0, 1, 2, 3], op 20 (.mv (.t 0)) [0, 1, 2, 3, 4, 5, 6, 7], op 21 (.mv (.t 1)) [0, 1, 2, 3, 4, 5, 6, 7, 8], op 22 (.ias 1 (.t 20) (.t 21)) [0, 1, 2, 3, 4, 5, 6, 7], op 23 (.ld (.t 22)) [0, 1, 2, 3, 4, 5, 6, 7], op 24 (.ias 1 (.t 12) (.t 13)) [2, 3], ⟨none, (.st 1 (.t 24) (.t 19)), none, [2, 3]⟩, oo 25 (.ias 1 (.t 14) (.t 15)), ⟨none, (.st 1 (.t 25) (.t 23)), none, []⟩]) (.seq (.reg [om 26 1, oo 27 (.ar .add (.t 26) (ci 1)), om 28 2, oo 29 (.ar .sub (.t 28) (ci 1)), om 10 27, om 11 29]) (.seq (.block 0 (.loop 3075 (.seq (.seq (.drw [om 30 10, op 31 (.mv (.t 11)) [0], oo 32 (.ar .leq (.t 30) (.t 31)), om 33 32, og 34 (.mv (.t 0)) 33 true, ⟨(some 35), (.mv (.t 10)), (some (33, true)), [4]⟩, og 36 (.ias 1 (.t 34) (.t 35)) 33 true, og 37 (.ld (.t 36)) 33 true, ⟨(some 38), (.mv (.t 0)), (some (33, true)), [4, 5, 6, 7]⟩, ⟨(some 39), (.mv (.t 1)), (some (33, true)), [4, 5, 6, 7, 8]⟩, ⟨(some 40), (.ias 1 (.t 38) (.t 39)), (some (33, true)), [4, 5, 6, 7]⟩, ⟨(some 41), (.ld (.t 40)), (some (33, true)), [4, 5, 6, 7]⟩, og 42 (cl 175 [(.t 37), (.t 41)]) 33 true, oo 43 (.pick (.t 33) (.t 42) (.c (.bool false)))]) (.cond (.t 43) .skip (.exit 0))) (.block 1 (.reg [om 44 10, oo 45 (.ar .add (.t 44) (ci 1)), om 10 45]))))) (.seq (.block 2 (.loop 3075 (.seq (.seq (.drw [om 46 10, op 47 (.mv (.t 11)) [0], oo 48 (.ar .leq (.t 46) (.t 47)), om 49 48, og 50 (.mv (.t 0)) 49 true, ⟨(some 51), (.mv (.t 11)), (some (49, true)), [4]⟩, og 52 (.ias 1 (.t 50) (.t 51)) 49 true, og 53 (.ld (.t 52)) 49 true, ⟨(some 54), (.mv (.t 0)), (some (49, true)), [4, 5, 6, 7]⟩, ⟨(some 55), (.mv (.t 1)), (some (49, true)), [4, 5, 6, 7, 8]⟩, ⟨(some 56), (.ias 1 (.t 54) (.t 55)), (some (49, true)), [4, 5, 6, 7]⟩, ⟨(some 57), (.ld (.t 56)), (some (49, true)), [4, 5, 6, 7]⟩, og 58 (cl 175 [(.t 53), (.t 57)]) 49 true, og 59 (.un .not (.t 58)) 49 true, oo 60 (.pick (.t 49) (.t 59) (.c (.bool false)))]) (.cond (.t 60) .skip (.exit 2))) (.block 3 (.reg [om 61 11, oo 62 (.ar .sub (.t 61) (ci 1)), om 11 62]))))) (.seq (.seq (.reg [om 63 10, om 64 11, oo 65 (.ar .gtr (.t 63) (.t 64))]) (.cond (.t 65) (.seq (.drw [om 66 0, op 67 (.mv (.t 11)) [0], op 68 (.mv (.t 0)) [0, 1], op 69 (.mv (.t 1)) [0, 1, 2], op 70 (.mv (.t 0)) [0, 1, 2, 3], op 71 (.mv (.t 1)) [0, 1, 2, 3, 4], op 72 (.ias 1 (.t 70) (.t 71)) [0, 1, 2, 3], op 73 (.ld (.t 72)) [0, 1, 2, 3], op 74 (.mv (.t 0)) [0, 1, 2, 3, 4, 5, 6, 7], op 75 (.mv (.t 11)) [0, 1, 2, 3, 4, 5, 6, 7, 8], op 76 (.ias 1 (.t 74) (.t 75)) [0, 1, 2, 3, 4, 5, 6, 7], op 77 (.ld (.t 76)) [0, 1, 2, 3, 4, 5, 6, 7], op 78 (.ias 1 (.t 66) (.t 67)) [2, 3], ⟨none, (.st 1 (.t 78) (.t 73)), none, [2, 3]⟩, oo 79 (.ias 1 (.t 68) (.t 69)), ⟨none, (.st 1 (.t 79) (.t 77)), none, []⟩]) (.seq (.reg [om 80 11, om 8 80, oo 9 (.mv (.c (.bool true)))]) .ret)) .skip)) (.seq (.drw [om 81 0, op 82 (.mv (.t 10)) [0], op 83 (.mv (.t 0)) [0, 1], op 84 (.mv (.t 11)) [0, 1, 2], op 85 (.mv (.t 0)) [0, 1, 2, 3], op 86 (.mv (.t 11)) [0, 1, 2, 3, 4], op 87 (.ias 1 (.t 85) (.t 86)) [0, 1, 2, 3], op 88 (.ld (.t 87)) [0, 1, 2, 3], op 89 (.mv (.t 0)) [0, 1, 2, 3, 4, 5, 6, 7], op 90 (.mv (.t 10)) [0, 1, 2, 3, 4, 5, 6, 7, 8], op 91 (.ias 1 (.t 89) (.t 90)) [0, 1, 2, 3, 4, 5, 6, 7], op 92 (.ld (.t 91)) [0, 1, 2, 3, 4, 5, 6, 7], op 93 (.ias 1 (.t 81) (.t 82)) [2, 3], ⟨none, (.st 1 (.t 93) (.t 88)), none, [2, 3]⟩, oo 94 (.ias 1 (.t 83) (.t 84)), ⟨none, (.st 1 (.t 94) (.t 92)), none, []⟩]) (.seq (.reg [om 95 10, oo 96 (.ar .add (.t 95) (ci 1)), om 10 96]) (.seq (.reg [om 97 11, oo 98 (.ar .sub (.t 97) (ci 1)), om 11 98]) (.seq (.block 4 (.loop 3075 (.block 5 (.seq (.block 6 (.loop 3075 (.seq (.seq (.drw [om 99 10, op 100 (.mv (.t 11)) [0], oo 101 (.ar .leq (.t 99) (.t 100)), om 102 101, og 103 (.mv (.t 0)) 102 true, ⟨(some 104), (.mv (.t 10)), (some (102, true)), [4]⟩, og 105 (.ias 1 (.t 103) (.t 104)) 102 true, og 106 (.ld (.t 105)) 102 true, ⟨(some 107), (.mv (.t 0)), (some (102, true)), [4, 5, 6, 7]⟩, ⟨(some 108), (.mv (.t 1)), (some (102, true)), [4, 5, 6, 7, 8]⟩, ⟨(some 109), (.ias 1 (.t 107) (.t 108)), (some (102, true)), [4, 5, 6, 7]⟩, ⟨(some 110), (.ld (.t 109)), (some (102, true)), [4, 5, 6, 7]⟩, og 111 (cl 175 [(.t 106), (.t 110)]) 102 true, oo 112 (.pick (.t 102) (.t 111) (.c (.bool false)))]) (.cond (.t 112) .skip (.exit 6))) (.block 7 (.reg [om 113 10, oo 114 (.ar .add (.t 113) (ci 1)), om 10 114]))))) (.seq (.block 8 (.loop 3075 (.seq (.seq (.drw [om 115 10, op 116 (.mv (.t 11)) [0], oo 117 (.ar .leq (.t 115) (.t 116)), om 118 117, og 119 (.mv (.t 0)) 118 true, ⟨(some 120), (.mv (.t 11)), (some (118, true)), [4]⟩, og 121 (.ias 1 (.t 119) (.t 120)) 118 true, og 122 (.ld (.t 121)) 118 true, ⟨(some 123), (.mv (.t 0)), (some (118, true)), [4, 5, 6, 7]⟩, ⟨(some 124), (.mv (.t 1)), (some (118, true)), [4, 5, 6, 7, 8]⟩, ⟨(some 125), (.ias 1 (.t 123) (.t 124)), (some (118, true)), [4, 5, 6, 7]⟩, ⟨(some 126), (.ld (.t 125)), (some (118, true)), [4, 5, 6, 7]⟩, og 127 (cl 175 [(.t 122), (.t 126)]) 118 true, og 128 (.un .not (.t 127)) 118 true, oo 129 (.pick (.t 118) (.t 128) (.c (.bool false)))]) (.cond (.t 129) .skip (.exit 8))) (.block 9 (.reg [om 130 11, oo 131 (.ar .sub (.t 130) (ci 1)), om 11 131]))))) (.seq (.seq (.reg [om 132 10, om 133 11, oo 134 (.ar .gtr (.t 132) (.t 133))]) (.cond (.t 134) (.exit 4) .skip)) (.seq (.drw [om 135 0, op 136 (.mv (.t 10)) [0], op 137 (.mv (.t 0)) [0, 1], op 138 (.mv (.t 11)) [0, 1, 2], op 139 (.mv (.t 0)) [0, 1, 2, 3], op 140 (.mv (.t 11)) [0, 1, 2, 3, 4], op 141 (.ias 1 (.t 139) (.t 140)) [0, 1, 2, 3], op 142 (.ld (.t 141)) [0, 1, 2, 3], op 143 (.mv (.t 0)) [0, 1, 2, 3, 4, 5, 6, 7], op 144 (.mv (.t 10)) [0, 1, 2, 3, 4, 5, 6, 7, 8], op 145 (.ias 1 (.t 143) (.t 144)) [0, 1, 2, 3, 4, 5, 6, 7], op 146 (.ld (.t 145)) [0, 1, 2, 3, 4, 5, 6, 7], op 147 (.ias 1 (.t 135) (.t 136)) [2, 3], ⟨none, (.st 1 (.t 147) (.t 142)), none, [2, 3]⟩, oo 148 (.ias 1 (.t 137) (.t 138)), ⟨none, (.st 1 (.t 148) (.t 146)), none, []⟩]) (.seq (.reg [om 149 10, oo 150 (.ar .add (.t 149) (ci 1)), om 10 150]) (.reg [om 151 11, oo 152 (.ar .sub (.t 151) (ci 1)), om 11 152]))))))))) (.seq (.drw [om 153 0, op 154 (.mv (.t 11)) [0], op 155 (.mv (.t 0)) [0, 1], op 156 (.mv (.t 1)) [0, 1, 2], op 157 (.mv (.t 0)) [0, 1, 2, 3], op 158 (.mv (.t 1)) [0, 1, 2, 3, 4], op 159 (.ias 1 (.t 157) (.t 158)) [0, 1, 2, 3], op 160 (.ld (.t 159)) [0, 1, 2, 3], op 161 (.mv (.t 0)) [0, 1, 2, 3, 4, 5, 6, 7], op 162 (.mv (.t 11)) [0, 1, 2, 3, 4, 5, 6, 7, 8], op 163 (.ias 1 (.t 161) (.t 162)) [0, 1, 2, 3, 4, 5, 6, 7], op 164 (.ld (.t 163)) [0, 1, 2, 3, 4, 5, 6, 7], op 165 (.ias 1 (.t 153) (.t 154)) [2, 3], ⟨none, (.st 1 (.t 165) (.t 160)), none, [2, 3]⟩, oo 166 (.ias 1 (.t 155) (.t 156)), ⟨none, (.st 1 (.t 166) (.t 164)), none, []⟩]) (.seq (.reg [om 167 11, om 8 167, oo 9 (.mv (.c (.bool false)))]) .ret)))))))))))), 168, [(.tmp 8), (.tmp 9)], false, fun _ => none, fun _ _ => none⟩
noncomputable def c178 : CFn := ⟨(.seq (.reg [oo 10 (.mv (ci 0)), oo 11 (.mv (ci 0))]) (.seq (.seq (.drw [om 12 4, op 13 (.mv (.t 0)) [0], op 14 (.mv (.t 2)) [0, 1], op 15 (.ias 2 (.t 13) (.t 14)) [0], op 16 (.ldn 2 (.t 15)) [0], op 17 (.mv (.t 0)) [0, 1, 2, 3, 4], op 18 (.mv (.t 1)) [0, 1, 2, 3, 4, 5], op 19 (.ias 2 (.t 17) (.t 18)) [0, 1, 2, 3, 4], op 20 (.ldn 2 (.t 19)) [0, 1, 2, 3, 4], oo 21 (.call (.t 12) [(.t 16), (.t 20)]), oo 22 (.ar .lss (.t 21) (ci 0))]) (.cond (.t 22) (.seq (.reg [om 23 3, oo 24 (.chk (.t 23)), oo 25 (.ld (.t 24)), oo 26 (.ar .add (.t 25) (ci 1)), oo 27 (.chk (.t 23)), ⟨none, (.st 1 (.t 27) (.t 26)), none, []⟩]) (.seq (.reg [om 28 2, om 29 1, om 10 28, om 11 29]) .ret)) .skip)) (.seq (.reg [om 30 1, om 31 2, om 10 30, om 11 31]) .ret))), 32, [(.tmp 10), (.tmp 11)], false, fun _ => none, fun _ _ => none⟩
noncomputable def c179 : CFn := ⟨(.seq (.reg [om 10 1, om 8 10]) (.block 0 (.loop 269 (.block 1 (.seq (.reg [om 11 8, oo 12 (.ar .mul (ci 2) (.t 11)), oo 13 (.ar .add (.t 12) (ci 1)), om 9 13]) (.seq (.seq (.reg [om 14 9, om 15 2, oo 16 (.ar .geq (.t 14) (.t 15))]) (.cond (.t 16) (.exit 0) .skip)) (.seq (.seq (.drw [om 17 9, oo 18 (.ar .add (.t 17) (ci 1)), op 19 (.mv (.t 2)) [0, 1], oo 20 (.ar .lss (.t 18) (.t 19)), om 21 20, og 22 (.mv (.t 0)) 21 true, ⟨(some 23), (.mv (.t 3)), (some (21, true)), [5]⟩, ⟨(some 24), (.mv (.t 9)), (some (21, true)), [5, 6]⟩, ⟨(some 25), (.ar .add (.t 23) (.t 24)), (some (21, true)), [5]⟩, og 26 (.ias 1 (.t 22) (.t 25)) 21 true, og 27 (.ld (.t 26)) 21 true, ⟨(some 28), (.mv (.t 0)), (some (21, true)), [5, 6, 7, 8, 9, 10]⟩, ⟨(some 29), (.mv (.t 3)), (some (21, true)), [5, 6, 7, 8, 9, 10, 11]⟩, ⟨(some 30), (.mv (.t 9)), (some (21, true)), [5, 6, 7, 8, 9, 10, 11, 12]⟩, ⟨(some 31), (.ar .add (.t 29) (.t 30)), (some (21, true)), [5, 6, 7, 8, 9, 10, 11]⟩, ⟨(some 32), (.ar .add (.t 31) (ci 1)), (some (21, true)), [5, 6, 7, 8, 9, 10, 11]⟩, ⟨(some 33), (.ias 1 (.t 28) (.t 32)), (some (21, true)), [5, 6, 7, 8, 9, 10]⟩, ⟨(some 34), (.ld (.t 33)), (some (21, true)), [5, 6, 7, 8, 9, 10]⟩, og 35 (cl 175 [(.t 27), (.t 34)]) 21 true, oo 36 (.pick (.t 21) (.t 35) (.c (.bool false)))]) (.cond (.t 36) (.reg [om 37 9, oo 38 (.ar .add (.t 37) (ci 1)), om 9 38]) .skip)) (.seq (.seq (.drw [om 39 0, op 40 (.mv (.t 3)) [0], op 41 (.mv (.t 8)) [0, 1], op 42 (.ar .add (.t 40) (.t 41)) [0], oo 43 (.ias 1 (.t 39) (.t 42)), oo 44 (.ld (.t 43)), op 45 (.mv (.t 0)) [0, 1, 2, 3, 4, 5], op 46 (.mv (.t 3)) [0, 1, 2, 3, 4, 5, 6], op 47 (.mv (.t 9)) [0, 1, 2, 3, 4, 5, 6, 7], op 48 (.ar .add (.t 46) (.t 47)) [0, 1, 2, 3, 4, 5, 6], op 49 (.ias 1 (.t 45) (.t 48)) [0, 1, 2, 3, 4, 5], op 50 (.ld (.t 49)) [0, 1, 2, 3, 4, 5], oo 51 (cl 175 [(.t 44), (.t 50)]), oo 52 (.un .not (.t 51))]) (.cond (.t 52) .ret .skip)) (.seq (.drw [om 53 0, op 54 (.mv (.t 3)) [0], op 55 (.mv (.t 8)) [0, 1], op 56 (.ar .add (.t 54) (.t 55)) [0], op 57 (.mv (.t 0)) [0, 1, 2, 3], op 58 (.mv (.t 3)) [0, 1, 2, 3, 4], op 59 (.mv (.t 9)) [0, 1, 2, 3, 4, 5], op 60 (.ar .add (.t 58) (.t 59)) [0, 1, 2, 3, 4], op 61 (.mv (.t 0)) [0, 1, 2, 3, 4, 5, 6, 7], op 62 (.mv (.t 3)) [0, 1, 2, 3, 4, 5, 6, 7, 8], op 63 (.mv (.t 9)) [0, 1, 2, 3, 4, 5, 6, 7, 8, 9], op 64 (.ar .add (.t 62) (.t 63)) [0, 1, 2, 3, 4, 5, 6, 7, 8], op 65 (.ias 1 (.t 61) (.t 64)) [0, 1, 2, 3, 4, 5, 6, 7], op 66 (.ld (.t 65)) [0, 1, 2, 3, 4, 5, 6, 7], op 67 (.mv (.t 0)) [0, 1, 2, 3, 4, 5, 6, 7, 8, 9, 10, 11, 12, 13], op 68 (.mv (.t 3)) [0, 1, 2, 3, 4, 5, 6, 7, 8, 9, 10, 11, 12, 13, 14], op 69 (.mv (.t 8)) [0, 1, 2, 3, 4, 5, 6, 7, 8, 9, 10, 11, 12, 13, 14, 15], op 70 (.ar .add (.t 68) (.t 69)) [0, 1, 2, 3, 4, 5, 6, 7, 8, 9, 10, 11, 12, 13, 14], op 71 (.ias 1 (.t 67) (.t 70)) [0, 1, 2, 3, 4, 5, 6, 7, 8, 9, 10, 11, 12, 13], op 72 (.ld (.t 71)) [0, 1, 2, 3, 4, 5, 6, 7, 8, 9, 10, 11, 12, 13], op 73 (.ias 1 (.t 53) (.t 56)) [4, 5, 6, 7], ⟨none, (.st 1 (.t 73) (.t 66)), none, [4, 5, 6, 7]⟩, oo 74 (.ias 1 (.t 57) (.t 60)), ⟨none, (.st 1 (.t 74) (.t 72)), none, []⟩]) (.reg [om 75 9, om 8 75])))))))))), 76, [], false, fun _ => none, fun _ _ => none⟩
noncomputable def c180 : CFn := ⟨(.seq (.reg [oo 6 (.mv (ci 0))]) (.seq (.reg [om 7 0, om 8 1, oo 9 (.ar .sub (.t 8) (ci 1)), om 10 1, om 11 1, oo 12 (.ar .add (.t 11) (ci 1)), om 13 2, oo 14 (cl 181 [(.t 7), (.t 9), (.t 10), (.t 12), (.t 13)]), om 6 14]) .ret)), 15, [(.tmp 6)], false, fun _ => none, fun _ _ => none⟩
noncomputable def c181 : CFn := ⟨(.seq (.reg [oo 10 (.mv (ci 0))]) (.seq (.reg [om 12 0, om 13 1, om 14 2, om 15 4, oo 16 (cl 182 [(.t 12), (.t 13), (.t 14), (.t 15)]), om 11 16, oo 17 (.ext 0 (.t 11)), oo 18 (.ext 1 (.t 11)), om 1 17, om 2 18]) (.seq (.reg [om 20 0, om 21 2, om 22 3, om 23 4, oo 24 (cl 182 [(.t 20), (.t 21), (.t 22), (.t 23)]), om 19 24, oo 25 (.ext 0 (.t 19)), oo 26 (.ext 1 (.t 19)), om 2 25, om 3 26]) (.seq (.reg [om 28 0, om 29 1, om 30 2, om 31 4, oo 32 (cl 182 [(.t 28), (.t 29), (.t 30), (.t 31)]), om 27 32, oo 33 (.ext 0 (.t 27)), oo 34 (.ext 1 (.t 27)), om 1 33, om 2 34]) (.seq (.reg [om 35 2, om 10 35]) .ret))))), 36, [(.tmp 10)], false, fun _ => none, fun _ _ => none⟩
noncomputable def c182 : CFn := ⟨(.seq (.reg [oo 8 (.mv (ci 0)), oo 9 (.mv (ci 0))]) (.seq (.seq (.drw [om 10 0, op 11 (.mv (.t 2)) [0], oo 12 (.ias 1 (.t 10) (.t 11)), oo 13 (.ld (.t 12)), op 14 (.mv (.t 0)) [0, 1, 2, 3], op 15 (.mv (.t 1)) [0, 1, 2, 3, 4], op 16 (.ias 1 (.t 14) (.t 15)) [0, 1, 2, 3], op 17 (.ld (.t 16)) [0, 1, 2, 3], oo 18 (cl 175 [(.t 13), (.t 17)])]) (.cond (.t 18) (.seq (.reg [om 19 3, oo 20 (.chk (.t 19)), oo 21 (.ld (.t 20)), oo 22 (.ar .add (.t 21) (ci 1)), oo 23 (.chk (.t 19)), ⟨none, (.st 1 (.t 23) (.t 22)), none, []⟩]) (.seq (.reg [om 24 2, om 25 1, om 8 24, om 9 25]) .ret)) .skip)) (.seq (.reg [om 26 1, om 27 2, om 8 26, om 9 27]) .ret))), 28, [(.tmp 8), (.tmp 9)], false, fun _ => none, fun _ _ => none⟩
noncomputable def tbl : List (Option CFn) := [none, none, none, none, some c4, some c5, none, none, none, none, none, none, none, none, some c14, some c15, some c16, some c17, none, some c19, some c20, some c21, some c22, some c23, some c24, none, some c26, some c27, none, some c29, some c30, some c31, some c32, some c33, some c34, some c35, some c36, none, some c38, some c39, none, none, none, some c43, none, none, none, none, none, none, none, none, none, none, none, none, none, some c57, some c58, some c59, some c60, some c61, some c62, some c63, some c64, some c65, some c66, some c67, some c68, some c69, some c70, some c71, some c72, some c73, some c74, some c75, some c76, some c77, some c78, some c79, some c80, some c81, some c82, some c83, some c84, some c85, some c86, some c87, none, none, none, none, some c92, none, some c94, none, none, none, none, none, some c100, some c101, some c102, some c103, some c104, some c105, some c106, some c107, some c108, some c109, some c110, some c111, some c112, some c113, some c114, some c115, some c116, none, some c118, none, none, none, none, none, none, none, none, none, none, none, none, some c131, some c132, some c133, some c134, some c135, some c136, some c137, some c138, some c139, some c140, some c141, some c142, some c143, some c144, some c145, some c146, some c147, some c148, some c149, some c150, none, none, none, none, none, none, none, none, none, none, some c161, some c162, some c163, some c164, some c165, some c166, some c167, none, some c169, some c170, some c171, some c172, some c173, some c174, some c175, some c176, some c177, some c178, some c179, some c180, some c181, some c182]
noncomputable def T (f : Nat) : Option CFn := match nth tbl f with
 | some (some c) => some c
 | _ => none
end Go.Proofs.YtjjapdagllclkaaGreat.Tab
set_option maxRecDepth 1000000
namespace Go.Proofs.YtjjapdagllclkaaGreat.Tab
open Go Go.Abs Go.Proofs
noncomputable def GG : Nat → Option (List AVal) := fun _ => none
theorem mixed : Tryz.prog.follows .mixedOrders = true := by kernel_rfl
theorem ok4 : FnOk Tryz.prog GG 4 c4 := fnOk Tryz.func4 (by kernel_rfl) (by kernel_rfl) (by kernel_rfl) (by kernel_rfl) rfl
theorem ok5 : FnOk Tryz.prog GG 5 c5 := fnOk Tryz.func5 (by kernel_rfl) (by kernel_rfl) (by kernel_rfl) (by kernel_rfl) rfl
theorem ok14 : FnOk Tryz.prog GG 14 c14 := fnOk Tryz.func14 (by kernel_rfl) (by kernel_rfl) (by kernel_rfl) (by kernel_rfl) rfl
theorem ok15 : FnOk Tryz.prog GG 15 c15 := fnOk Tryz.func15 (by kernel_rfl) (by kernel_rfl) (by kernel_rfl) (by kernel_rfl) rfl
theorem ok16 : FnOk Tryz.prog GG 16 c16 := fnOk Tryz.func16 (by kernel_rfl) (by kernel_rfl) (by kernel_rfl) (by kernel_rfl) rfl
theorem ok17 : FnOk Tryz.prog GG 17 c17 := fnOk Tryz.func17 (by kernel_rfl) (by kernel_rfl) (by kernel_rfl) (by kernel_rfl) rfl
theorem ok19 : FnOk Tryz.prog GG 19 c19 := fnOk Tryz.func19 (by kernel_rfl) (by kernel_rfl) (by kernel_rfl) (by kernel_rfl) rfl
theorem ok20 : FnOk Tryz.prog GG 20 c20 := fnOk Tryz.func20 (by kernel_rfl) (by kernel_rfl) (by kernel_rfl) (by kernel_rfl) rfl
theorem ok21 : FnOk Tryz.prog GG 21 c21 := fnOk Tryz.func21 (by kernel_rfl) (by kernel_rfl) (by kernel_rfl) (by kernel_rfl) rfl
theorem ok22 : FnOk Tryz.prog GG 22 c22 := fnOk Tryz.func22 (by kernel_rfl) (by kernel_rfl) (by kernel_rfl) (by kernel_rfl) rfl
theorem ok23 : FnOk Tryz.prog GG 23 c23 := fnOk Tryz.func23 (by kernel_rfl) (by kernel_rfl) (by kernel_rfl) (by kernel_rfl) rfl
theorem ok24 : FnOk Tryz.prog GG 24 c24 := fnOk Tryz.func24 (by kernel_rfl) (by kernel_rfl) (by kernel_rfl) (by kernel_rfl) rfl
theorem ok26 : FnOk Tryz.prog GG 26 c26 := fnOk Tryz.func26 (by kernel_rfl) (by kernel_rfl) (by kernel_rfl) (by kernel_rfl) rfl
theorem ok27 : FnOk Tryz.prog GG 27 c27 := fnOk Tryz.func27 (by kernel_rfl) (by kernel_rfl) (by kernel_rfl) (by kernel_rfl) rfl
theorem ok29 : FnOk Tryz.prog GG 29 c29 := fnOk Tryz.func29 (by kernel_rfl) (by kernel_rfl) (by kernel_rfl) (by kernel_rfl) rfl
theorem ok30 : FnOk Tryz.prog GG 30 c30 := fnOk Tryz.func30 (by kernel_rfl) (by kernel_rfl) (by kernel_rfl) (by kernel_rfl) rfl
theorem ok31 : FnOk Tryz.prog GG 31 c31 := fnOk Tryz.func31 (by kernel_rfl) (by kernel_rfl) (by kernel_rfl) (by kernel_rfl) rfl
theorem ok32 : FnOk Tryz.prog GG 32 c32 := fnOk Tryz.func32 (by kernel_rfl) (by kernel_rfl) (by kernel_rfl) (by kernel_rfl) rfl
theorem ok33 : FnOk Tryz.prog GG 33 c33 := fnOk Tryz.func33 (by kernel_rfl) (by kernel_rfl) (by kernel_rfl) (by kernel_rfl) rfl
theorem ok34 : FnOk Tryz.prog GG 34 c34 := fnOk Tryz.func34 (by kernel_rfl) (by kernel_rfl) (by kernel_rfl) (by kernel_rfl) rfl
theorem ok35 : FnOk Tryz.prog GG 35 c35 := fnOk Tryz.func35 (by kernel_rfl) (by kernel_rfl) (by kernel_rfl) (by kernel_rfl) rfl
theorem ok36 : FnOk Tryz.prog GG 36 c36 := fnOk Tryz.func36 (by kernel_rfl) (by kernel_rfl) (by kernel_rfl) (by kernel_rfl) rfl
theorem ok38 : FnOk Tryz.prog GG 38 c38 := fnOk Tryz.func38 (by kernel_rfl) (by kernel_rfl) (by kernel_rfl) (by kernel_rfl) rfl
theorem ok39 : FnOk Tryz.prog GG 39 c39 := fnOk Tryz.func39 (by kernel_rfl) (by kernel_rfl) (by kernel_rfl) (by kernel_rfl) rfl
theorem ok43 : FnOk Tryz.prog GG 43 c43 := fnOk Tryz.func43 (by kernel_rfl) (by kernel_rfl) (by kernel_rfl) (by kernel_rfl) rfl
theorem ok57 : FnOk Tryz.prog GG 57 c57 := fnOk Tryz.func57 (by kernel_rfl) (by kernel_rfl) (by kernel_rfl) (by kernel_rfl) rfl
theorem ok58 : FnOk Tryz.prog GG 58 c58 := fnOk Tryz.func58 (by kernel_rfl) (by kernel_rfl) (by kernel_rfl) (by kernel_rfl) rfl
theorem ok59 : FnOk Tryz.prog GG 59 c59 := fnOk Tryz.func59 (by kernel_rfl) (by kernel_rfl) (by kernel_rfl) (by kernel_rfl) rfl
theorem ok60 : FnOk Tryz.prog GG 60 c60 := fnOk Tryz.func60 (by kernel_rfl) (by kernel_rfl) (by kernel_rfl) (by kernel_rfl) rfl
theorem ok61 : FnOk Tryz.prog GG 61 c61 := fnOk Tryz.func61 (by kernel_rfl) (by kernel_rfl) (by kernel_rfl) (by kernel_rfl) rfl
theorem ok62 : FnOk Tryz.prog GG 62 c62 := fnOk Tryz.func62 (by kernel_rfl) (by kernel_rfl) (by kernel_rfl) (by kernel_rfl) rfl
theorem ok63 : FnOk Tryz.prog GG 63 c63 := fnOk Tryz.func63 (by kernel_rfl) (by kernel_rfl) (by kernel_rfl) (by kernel_rfl) rfl
theorem ok64 : FnOk Tryz.prog GG 64 c64 := fnOk Tryz.func64 (by kernel_rfl) (by kernel_rfl) (by kernel_rfl) (by kernel_rfl) rfl
theorem ok65 : FnOk Tryz.prog GG 65 c65 := fnOk Tryz.func65 (by kernel_rfl) (by kernel_rfl) (by kernel_rfl) (by kernel_rfl) rfl
theorem ok66 : FnOk Tryz.prog GG 66 c66 := fnOk Tryz.func66 (by kernel_rfl) (by kernel_rfl) (by kernel_rfl) (by kernel_rfl) rfl
theorem ok67 : FnOk Tryz.prog GG 67 c67 := fnOk Tryz.func67 (by kernel_rfl) (by kernel_rfl) (by kernel_rfl) (by kernel_rfl) rfl
theorem ok68 : FnOk Tryz.prog GG 68 c68 := fnOk Tryz.func68 (by kernel_rfl) (by kernel_rfl) (by kernel_rfl) (by kernel_rfl) rfl
theorem ok69 : FnOk Tryz.prog GG 69 c69 := fnOk Tryz.func69 (by kernel_rfl) (by kernel_rfl) (by kernel_rfl) (by kernel_rfl) rfl
theorem ok70 : FnOk Tryz.prog GG 70 c70 := fnOk Tryz.func70 (by kernel_rfl) (by kernel_rfl) (by kernel_rfl) (by kernel_rfl) rfl
theorem ok71 : FnOk Tryz.prog GG 71 c71 := fnOk Tryz.func71 (by kernel_rfl) (by kernel_rfl) (by kernel_rfl) (by kernel_rfl) rfl
theorem ok72 : FnOk Tryz.prog GG 72 c72 := fnOk Tryz.func72 (by kernel_rfl) (by kernel_rfl) (by kernel_rfl) (by kernel_rfl) rfl
theorem ok73 : FnOk Tryz.prog GG 73 c73 := fnOk Tryz.func73 (by kernel_rfl) (by kernel_rfl) (by kernel_rfl) (by kernel_rfl) rfl
theorem ok74 : FnOk Tryz.prog GG 74 c74 := fnOk Tryz.func74 (by kernel_rfl) (by kernel_rfl) (by kernel_rfl) (by kernel_rfl) rfl
theorem ok75 : FnOk Tryz.prog GG 75 c75 := fnOk Tryz.func75 (by kernel_rfl) (by kernel_rfl) (by kernel_rfl) (by kernel_rfl) rfl
theorem ok76 : FnOk Tryz.prog GG 76 c76 := fnOk Tryz.func76 (by kernel_rfl) (by kernel_rfl) (by kernel_rfl) (by kernel_rfl) rfl
theorem ok77 : FnOk Tryz.prog GG 77 c77 := fnOk Tryz.func77 (by kernel_rfl) (by kernel_rfl) (by kernel_rfl) (by kernel_rfl) rfl
theorem ok78 : FnOk Tryz.prog GG 78 c78 := fnOk Tryz.func78 (by kernel_rfl) (by kernel_rfl) (by kernel_rfl) (by kernel_rfl) rfl
theorem ok79 : FnOk Tryz.prog GG 79 c79 := fnOk Tryz.func79 (by kernel_rfl) (by kernel_rfl) (by kernel_rfl) (by kernel_rfl) rfl
theorem ok80 : FnOk Tryz.prog GG 80 c80 := fnOk Tryz.func80 (by kernel_rfl) (by kernel_rfl) (by kernel_rfl) (by kernel_rfl) rfl
theorem ok81 : FnOk Tryz.prog GG 81 c81 := fnOk Tryz.func81 (by kernel_rfl) (by kernel_rfl) (by kernel_rfl) (by kernel_rfl) rfl
theorem ok82 : FnOk Tryz.prog GG 82 c82 := fnOk Tryz.func82 (by kernel_rfl) (by kernel_rfl) (by kernel_rfl) (by kernel_rfl) rfl
theorem ok83 : FnOk Tryz.prog GG 83 c83 := fnOk Tryz.func83 (by kernel_rfl) (by kernel_rfl) (by kernel_rfl) (by kernel_rfl) rfl
theorem ok84 : FnOk Tryz.prog GG 84 c84 := fnOk Tryz.func84 (by kernel_rfl) (by kernel_rfl) (by kernel_rfl) (by kernel_rfl) rfl
theorem ok85 : FnOk Tryz.prog GG 85 c85 := fnOk Tryz.func85 (by kernel_rfl) (by kernel_rfl) (by kernel_rfl) (by kernel_rfl) rfl
theorem ok86 : FnOk Tryz.prog GG 86 c86 := fnOk Tryz.func86 (by kernel_rfl) (by kernel_rfl) (by kernel_rfl) (by kernel_rfl) rfl
theorem ok87 : FnOk Tryz.prog GG 87 c87 := fnOk Tryz.func87 (by kernel_rfl) (by kernel_rfl) (by kernel_rfl) (by kernel_rfl) rfl
theorem ok92 : FnOk Tryz.prog GG 92 c92 := fnOk Tryz.func92 (by kernel_rfl) (by kernel_rfl) (by kernel_rfl) (by kernel_rfl) rfl
theorem ok94 : FnOk Tryz.prog GG 94 c94 := fnOk Tryz.func94 (by kernel_rfl) (by kernel_rfl) (by kernel_rfl) (by kernel_rfl) rfl
theorem ok100 : FnOk Tryz.prog GG 100 c100 := fnOk Tryz.func100 (by kernel_rfl) (by kernel_rfl) (by kernel_rfl) (by kernel_rfl) rfl
theorem ok101 : FnOk Tryz.prog GG 101 c101 := fnOk Tryz.func101 (by kernel_rfl) (by kernel_rfl) (by kernel_rfl) (by kernel_rfl) rfl
theorem ok102 : FnOk Tryz.prog GG 102 c102 := fnOk Tryz.func102 (by kernel_rfl) (by kernel_rfl) (by kernel_rfl) (by kernel_rfl) rfl
theorem ok103 : FnOk Tryz.prog GG 103 c103 := fnOk Tryz.func103 (by kernel_rfl) (by kernel_rfl) (by kernel_rfl) (by kernel_rfl) rfl
theorem ok104 : FnOk Tryz.prog GG 104 c104 := fnOk Tryz.func104 (by kernel_rfl) (by kernel_rfl) (by kernel_rfl) (by kernel_rfl) rfl
theorem ok105 : FnOk Tryz.prog GG 105 c105 := fnOk Tryz.func105 (by kernel_rfl) (by kernel_rfl) (by kernel_rfl) (by kernel_rfl) rfl
theorem ok106 : FnOk Tryz.prog GG 106 c106 := fnOk Tryz.func106 (by kernel_rfl) (by kernel_rfl) (by kernel_rfl) (by kernel_rfl) rfl
theorem ok107 : FnOk Tryz.prog GG 107 c107 := fnOk Tryz.func107 (by kernel_rfl) (by kernel_rfl) (by kernel_rfl) (by kernel_rfl) rfl
theorem ok108 : FnOk Tryz.prog GG 108 c108 := fnOk Tryz.func108 (by kernel_rfl) (by kernel_rfl) (by kernel_rfl) (by kernel_rfl) rfl
theorem ok109 : FnOk Tryz.prog GG 109 c109 := fnOk Tryz.func109 (by kernel_rfl) (by kernel_rfl) (by kernel_rfl) (by kernel_rfl) rfl
theorem ok110 : FnOk Tryz.prog GG 110 c110 := fnOk Tryz.func110 (by kernel_rfl) (by kernel_rfl) (by kernel_rfl) (by kernel_rfl) rfl
theorem ok111 : FnOk Tryz.prog GG 111 c111 := fnOk Tryz.func111 (by kernel_rfl) (by kernel_rfl) (by kernel_rfl) (by kernel_rfl) rfl
theorem ok112 : FnOk Tryz.prog GG 112 c112 := fnOk Tryz.func112 (by kernel_rfl) (by kernel_rfl) (by kernel_rfl) (by kernel_rfl) rfl
theorem ok113 : FnOk Tryz.prog GG 113 c113 := fnOk Tryz.func113 (by kernel_rfl) (by kernel_rfl) (by kernel_rfl) (by kernel_rfl) rfl
theorem ok114 : FnOk Tryz.prog GG 114 c114 := fnOk Tryz.func114 (by kernel_rfl) (by kernel_rfl) (by kernel_rfl) (by kernel_rfl) rfl
theorem ok115 : FnOk Tryz.prog GG 115 c115 := fnOk Tryz.func115 (by kernel_rfl) (by kernel_rfl) (by kernel_rfl) (by kernel_rfl) rfl
theorem ok116 : FnOk Tryz.prog GG 116 c116 := fnOk Tryz.func116 (by kernel_rfl) (by kernel_rfl) (by kernel_rfl) (by kernel_rfl) rfl
theorem ok118 : FnOk Tryz.prog GG 118 c118 := fnOk Tryz.func118 (by kernel_rfl) (by kernel_rfl) (by kernel_rfl) (by kernel_rfl) rfl
theorem ok131 : FnOk Tryz.prog GG 131 c131 := fnOk Tryz.func131 (by kernel_rfl) (by kernel_rfl) (by kernel_rfl) (by kernel_rfl) rfl
theorem ok132 : FnOk Tryz.prog GG 132 c132 := fnOk Tryz.func132 (by kernel_rfl) (by kernel_rfl) (by kernel_rfl) (by kernel_rfl) rfl
theorem ok133 : FnOk Tryz.prog GG 133 c133 := fnOk Tryz.func133 (by kernel_rfl) (by kernel_rfl) (by kernel_rfl) (by kernel_rfl) rfl
theorem ok134 : FnOk Tryz.prog GG 134 c134 := fnOk Tryz.func134 (by kernel_rfl) (by kernel_rfl) (by kernel_rfl) (by kernel_rfl) rfl
theorem ok135 : FnOk Tryz.prog GG 135 c135 := fnOk Tryz.func135 (by kernel_rfl) (by kernel_rfl) (by kernel_rfl) (by kernel_rfl) rfl
theorem ok136 : FnOk Tryz.prog GG 136 c136 := fnOk Tryz.func136 (by kernel_rfl) (by kernel_rfl) (by kernel_rfl) (by kernel_rfl) rfl
theorem ok137 : FnOk Tryz.prog GG 137 c137 := fnOk Tryz.func137 (by kernel_rfl) (by kernel_rfl) (by kernel_rfl) (by kernel_rfl) rfl
theorem ok138 : FnOk Tryz.prog GG 138 c138 := fnOk Tryz.func138 (by kernel_rfl) (by kernel_rfl) (by kernel_rfl) (by kernel_rfl) rfl
theorem ok139 : FnOk Tryz.prog GG 139 c139 := fnOk Tryz.func139 (by kernel_rfl) (by kernel_rfl) (by kernel_rfl) (by kernel_rfl) rfl
theorem ok140 : FnOk Tryz.prog GG 140 c140 := fnOk Tryz.func140 (by kernel_rfl) (by kernel_rfl) (by kernel_rfl) (by kernel_rfl) rfl
theorem ok141 : FnOk Tryz.prog GG 141 c141 := fnOk Tryz.func141 (by kernel_rfl) (by kernel_rfl) (by kernel_rfl) (by kernel_rfl) rfl
theorem ok142 : FnOk Tryz.prog GG 142 c142 := fnOk Tryz.func142 (by kernel_rfl) (by kernel_rfl) (by kernel_rfl) (by kernel_rfl) rfl
theorem ok143 : FnOk Tryz.prog GG 143 c143 := fnOk Tryz.func143 (by kernel_rfl) (by kernel_rfl) (by kernel_rfl) (by kernel_rfl) rfl
theorem ok144 : FnOk Tryz.prog GG 144 c144 := fnOk Tryz.func144 (by kernel_rfl) (by kernel_rfl) (by kernel_rfl) (by kernel_rfl) rfl
theorem ok145 : FnOk Tryz.prog GG 145 c145 := fnOk Tryz.func145 (by kernel_rfl) (by kernel_rfl) (by kernel_rfl) (by kernel_rfl) rfl
theorem ok146 : FnOk Tryz.prog GG 146 c146 := fnOk Tryz.func146 (by kernel_rfl) (by kernel_rfl) (by kernel_rfl) (by kernel_rfl) rfl
theorem ok147 : FnOk Tryz.prog GG 147 c147 := fnOk Tryz.func147 (by kernel_rfl) (by kernel_rfl) (by kernel_rfl) (by kernel_rfl) rfl
theorem ok148 : FnOk Tryz.prog GG 148 c148 := fnOk Tryz.func148 (by kernel_rfl) (by kernel_rfl) (by kernel_rfl) (by kernel_rfl) rfl
theorem ok149 : FnOk Tryz.prog GG 149 c149 := fnOk Tryz.func149 (by kernel_rfl) (by kernel_rfl) (by kernel_rfl) (by kernel_rfl) rfl
theorem ok150 : FnOk Tryz.prog GG 150 c150 := fnOk Tryz.func150 (by kernel_rfl) (by kernel_rfl) (by kernel_rfl) (by kernel_rfl) rfl
theorem ok161 : FnOk Tryz.prog GG 161 c161 := fnOk Tryz.func161 (by kernel_rfl) (by kernel_rfl) (by kernel_rfl) (by kernel_rfl) rfl
theorem ok162 : FnOk Tryz.prog GG 162 c162 := fnOk Tryz.func162 (by kernel_rfl) (by kernel_rfl) (by kernel_rfl) (by kernel_rfl) rfl
theorem ok163 : FnOk Tryz.prog GG 163 c163 := fnOk Tryz.func163 (by kernel_rfl) (by kernel_rfl) (by kernel_rfl) (by kernel_rfl) rfl
theorem ok164 : FnOk Tryz.prog GG 164 c164 := fnOk Tryz.func164 (by kernel_rfl) (by kernel_rfl) (by kernel_rfl) (by kernel_rfl) rfl
theorem ok165 : FnOk Tryz.prog GG 165 c165 := fnOk Tryz.func165 (by kernel_rfl) (by kernel_rfl) (by kernel_rfl) (by kernel_rfl) rfl
theorem ok166 : FnOk Tryz.prog GG 166 c166 := fnOk Tryz.func166 (by kernel_rfl) (by kernel_rfl) (by kernel_rfl) (by kernel_rfl) rfl
theorem ok167 : FnOk Tryz.prog GG 167 c167 := fnOk Tryz.func167 (by kernel_rfl) (by kernel_rfl) (by kernel_rfl) (by kernel_rfl) rfl
theorem ok169 : FnOk Tryz.prog GG 169 c169 := fnOk Tryz.func169 (by kernel_rfl) (by kernel_rfl) (by kernel_rfl) (by kernel_rfl) rfl
theorem ok170 : FnOk Tryz.prog GG 170 c170 := fnOk Tryz.func170 (by kernel_rfl) (by kernel_rfl) (by kernel_rfl) (by kernel_rfl) rfl
theorem ok171 : FnOk Tryz.prog GG 171 c171 := fnOk Tryz.func171 (by kernel_rfl) (by kernel_rfl) (by kernel_rfl) (by kernel_rfl) rfl
theorem ok172 : FnOk Tryz.prog GG 172 c172 := fnOk Tryz.func172 (by kernel_rfl) (by kernel_rfl) (by kernel_rfl) (by kernel_rfl) rfl
theorem ok173 : FnOk Tryz.prog GG 173 c173 := fnOk Tryz.func173 (by kernel_rfl) (by kernel_rfl) (by kernel_rfl) (by kernel_rfl) rfl
theorem ok174 : FnOk Tryz.prog GG 174 c174 := fnOk Tryz.func174 (by kernel_rfl) (by kernel_rfl) (by kernel_rfl) (by kernel_rfl) rfl
theorem ok175 : FnOk Tryz.prog GG 175 c175 := fnOk Tryz.func175 (by kernel_rfl) (by kernel_rfl) (by kernel_rfl) (by kernel_rfl) rfl
theorem ok176 : FnOk Tryz.prog GG 176 c176 := fnOk Tryz.func176 (by kernel_rfl) (by kernel_rfl) (by kernel_rfl) (by kernel_rfl) rfl
theorem ok177 : FnOk Tryz.prog GG 177 c177 := fnOk Tryz.func177 (by kernel_rfl) (by kernel_rfl) (by kernel_rfl) (by kernel_rfl) rfl
theorem ok178 : FnOk Tryz.prog GG 178 c178 := fnOk Tryz.func178 (by kernel_rfl) (by kernel_rfl) (by kernel_rfl) (by kernel_rfl) rfl
theorem ok179 : FnOk Tryz.prog GG 179 c179 := fnOk Tryz.func179 (by kernel_rfl) (by kernel_rfl) (by kernel_rfl) (by kernel_rfl) rfl
theorem ok180 : FnOk Tryz.prog GG 180 c180 := fnOk Tryz.func180 (by kernel_rfl) (by kernel_rfl) (by kernel_rfl) (by kernel_rfl) rfl
theorem ok181 : FnOk Tryz.prog GG 181 c181 := fnOk Tryz.func181 (by kernel_rfl) (by kernel_rfl) (by kernel_rfl) (by kernel_rfl) rfl
theorem ok182 : FnOk Tryz.prog GG 182 c182 := fnOk Tryz.func182 (by kernel_rfl) (by kernel_rfl) (by kernel_rfl) (by kernel_rfl) rfl
theorem allOk : AllOk Tryz.prog GG 0 tbl := ⟨ok4, ok5, ok14, ok15, ok16, ok17, ok19, ok20, ok21, ok22, ok23, ok24, ok26, ok27, ok29, ok30, ok31, ok32, ok33, ok34, ok35, ok36, ok38, ok39, ok43, ok57, ok58, ok59, ok60, ok61, ok62, ok63, ok64, ok65, ok66, ok67, ok68, ok69, ok70, ok71, ok72, ok73, ok74, ok75, ok76, ok77, ok78, ok79, ok80, ok81, ok82, ok83, ok84, ok85, ok86, ok87, ok92, ok94, ok100, ok101, ok102, ok103, ok104, ok105, ok106, ok107, ok108, ok109, ok110, ok111, ok112, ok113, ok114, ok115, ok116, ok118, ok131, ok132, ok133, ok134, ok135, ok136, ok137, ok138, ok139, ok140, ok141, ok142, ok143, ok144, ok145, ok146, ok147, ok148, ok149, ok150, ok161, ok162, ok163, ok164, ok165, ok166, ok167, ok169, ok170, ok171, ok172, ok173, ok174, ok175, ok176, ok177, ok178, ok179, ok180, ok181, ok182, trivial⟩
theorem tabOk : TabOk Tryz.prog GG T := tabOk_all tbl (fun _ => rfl) allOk
end Go.Proofs.YtjjapdagllclkaaGreat.Tab
namespace Go.Abs
open Go
noncomputable def oCFg (T : Nat → Option CFn) (s : Nat) : List AVal → Option AVal
 | [x, .fn g a b] => match rowsV x with
  | some rs => if rs.length ≤ 1000 ∧ rs.all (fun r => r.length == s) = true then (match idxA (fun r => known T g (a ++ [elt r] ++ b)) 0 rs with
   | some i => some (.bool (decide (0 ≤ i)))
   | none => none) else none
  | none => none
 | _ => none
theorem oCFg_any {T : Nat → Option CFn} {s : Nat} {x : AVal} {g : Nat} {a b : List AVal} {rs : List (List AVal)} {p : List AVal → Bool} (hx : rowsV x = some rs) (hl : rs.length ≤ 1000) (hr : ∀ r ∈ rs, r.length = s)
  (h : ∀ r ∈ rs, known T g (a ++ [elt r] ++ b) = some (.bool (p r))) : oCFg T s [x, .fn g a b] = some (.bool (rs.any p)) := by
 obtain ⟨i, h1, h2⟩ := idxA_any rs h
 have hr' : rs.all (fun r => r.length == s) = true := by simpa using hr
 simp only [oCFg, hx, h1, h2, hl, hr', and_self, if_true]
theorem len1 {r : List AVal} (hl : r.length = 1) : ∃ a, r = [a] := by
 rcases r with _ | ⟨a, _ | ⟨b, r⟩⟩ <;> simp at hl
 exact ⟨a, rfl⟩
theorem len2 {r : List AVal} (hl : r.length = 2) : ∃ a b, r = [a, b] := by
 rcases r with _ | ⟨a, r⟩ <;> simp at hl
 obtain ⟨b, rfl⟩ := len1 hl
 exact ⟨a, b, rfl⟩
theorem len3 {r : List AVal} (hl : r.length = 3) : ∃ a b c, r = [a, b, c] := by
 rcases r with _ | ⟨a, r⟩ <;> simp at hl
 obtain ⟨b, c, rfl⟩ := len2 hl
 exact ⟨a, b, c, rfl⟩
theorem len4 {r : List AVal} (hl : r.length = 4) : ∃ a b c d, r = [a, b, c, d] := by
 rcases r with _ | ⟨a, r⟩ <;> simp at hl
 obtain ⟨b, c, d, rfl⟩ := len3 hl
 exact ⟨a, b, c, d, rfl⟩
theorem optAll_at {α β : Type} {f : α → Option β} {rs : List α} {xs : List β} (h : optAll f rs = some xs) : rs.length = xs.length ∧ ∀ k (hk : k < rs.length) (hk' : k < xs.length), f rs[k] = some xs[k] := optAll_get h
theorem optAll_any {α β : Type} {f : α → Option β} {p : β → Bool} {q : α → Bool} : ∀ {rs : List α} {xs : List β}, optAll f rs = some xs → (∀ r x, f r = some x → q r = p x) → rs.any q = xs.any p
 | [], xs, h, _ => by simp [optAll] at h; subst h; rfl
 | r :: rs, xs, h, hp => by
  simp only [optAll] at h
  split at h <;> simp at h
  rename_i y ys h1 h2
  subst h
  rw [List.any_cons, List.any_cons, hp r y h1, optAll_any h2 hp]
theorem optAll_mem {α β : Type} {f : α → Option β} : ∀ {rs : List α} {xs : List β}, optAll f rs = some xs → ∀ r ∈ rs, ∃ x ∈ xs, f r = some x
 | [], _, _, r, h => by simp at h
 | a :: rs, xs, h, r, hr => by
  simp only [optAll] at h
  split at h <;> simp at h
  rename_i y ys h1 h2
  subst h
  rcases List.mem_cons.1 hr with rfl | hr
  ·exact ⟨y, by simp, h1⟩
  ·obtain ⟨x, hx, e⟩ := optAll_mem h2 r hr
   exact ⟨x, by simp [hx], e⟩
end Go.Abs
namespace Go.Proofs.YtjjapdagllclkaaGreat.Tab
open Go Go.Abs Go.Proofs
theorem W_fit {n : Int} (h : -9000000000000000000 ≤ n ∧ n ≤ 9000000000000000000) : W .i64 n = n := by
 simp only [W]; rw [if_pos (by omega)]
def rI (v : Int) : List AVal := [I v]
def rS3 (x : FStop) : List AVal := [I x.1, I x.2.1, I x.2.2]
theorem zI (v : Int) : rI v = [I v] := rfl
theorem dI1_self : ∀ (xs : List Int), optAll dI1 (xs.map rI) = some xs := optAll_map (d := dI1) (enc := rI) fun _ => rfl
theorem dI1_self' : ∀ (xs : List Int), optAll dI1 (xs.map fun x => [I x]) = some xs := optAll_map (d := dI1) (enc := fun x => [I x]) fun _ => rfl
def dInts (v : AVal) : Option (List Int) := match rowsV v with
 | some rs => optAll dI1 rs
 | none => none
theorem dInts_rows {v : AVal} {xs : List Int} (h : dInts v = some xs) : rowsV v = some (xs.map rI) := by
 unfold dInts at h
 split at h
 ·rename_i rs hv
  rw [hv, optAll_eq (enc := rI) dI1_eq h]
 ·simp at h
theorem dInts_of {v : AVal} {xs : List Int} (h : rowsV v = some (xs.map rI)) : dInts v = some xs := by
 unfold dInts; rw [h]; exact dI1_self xs
theorem dInts_len {v : AVal} {xs : List Int} (h : dInts v = some xs) : lenA v = some xs.length := by
 have := rowsV_len (dInts_rows h); rwa [List.length_map] at this
theorem dInts_get {v : AVal} {xs : List Int} (h : dInts v = some xs) {k : Nat} (hk : k < xs.length) : ∃ t, v = .vl (xs.map rI) t := rowsV_get (dInts_rows h) (k := k) (by simpa using hk)
theorem dInts_cases {v : AVal} {xs : List Int} (h : dInts v = some xs) : (v = .nils ∧ xs = []) ∨ ∃ t, v = .vl (xs.map rI) t := by
 rcases rowsV_cases (dInts_rows h) with ⟨h1, h2⟩ | h1
 ·exact .inl ⟨h1, List.map_eq_nil_iff.1 h2⟩
 ·exact .inr h1
def dRow1 : List AVal → Option (List Int)
 | [v] => dInts v
 | _ => none
def dInts2 (v : AVal) : Option (List (List Int)) := match rowsV v with
 | some rs => optAll dRow1 rs
 | none => none
def dStops (v : AVal) : Option (List FStop) := match rowsV v with
 | some rs => optAll dI3 rs
 | none => none
def dJob : List AVal → Option FJob
 | [.int .i64 k, .int .i64 r, .int .i64 d, v] => match dInts v with
  | some ms => some ⟨k, r, d, ms⟩
  | none => none
 | _ => none
def dJobs (v : AVal) : Option (List FJob) := match rowsV v with
 | some rs => optAll dJob rs
 | none => none
theorem dRow1_eq {r : List AVal} {xs : List Int} (h : dRow1 r = some xs) : ∃ v, r = [v] ∧ dInts v = some xs := by
 unfold dRow1 at h
 split at h <;> (try simp at h)
 exact ⟨_, rfl, h⟩
theorem dJob_eq {r : List AVal} {j : FJob} (h : dJob r = some j) : ∃ v, r = [I j.kind, I j.ready, I j.due, v] ∧ dInts v = some j.mins := by
 unfold dJob at h
 split at h <;> (try simp at h)
 split at h <;> simp at h
 rename_i hv
 subst h
 exact ⟨_, rfl, hv⟩
theorem dStops_rows {v : AVal} {xs : List FStop} (h : dStops v = some xs) : rowsV v = some (xs.map rS3) := by
 unfold dStops at h
 split at h
 ·rename_i rs hv
  rw [hv, optAll_eq (enc := rS3) dI3_eq h]
 ·simp at h
theorem dStops_of {v : AVal} {xs : List FStop} (h : rowsV v = some (xs.map rS3)) : dStops v = some xs := by
 unfold dStops; rw [h]; exact optAll_map (d := dI3) (enc := rS3) (fun _ => rfl) xs
theorem dInts2_rows {v : AVal} {xs : List (List Int)} (h : dInts2 v = some xs) : ∃ rs, rowsV v = some rs ∧ optAll dRow1 rs = some xs := by
 unfold dInts2 at h
 split at h
 ·rename_i rs hv; exact ⟨rs, hv, h⟩
 ·simp at h
theorem dJobs_rows {v : AVal} {xs : List FJob} (h : dJobs v = some xs) : ∃ rs, rowsV v = some rs ∧ optAll dJob rs = some xs := by
 unfold dJobs at h
 split at h
 ·rename_i rs hv; exact ⟨rs, hv, h⟩
 ·simp at h
theorem dStops_get {v : AVal} {xs : List FStop} (h : dStops v = some xs) {k : Nat} (hk : k < xs.length) : ∃ t, v = .vl (xs.map rS3) t := rowsV_get (dStops_rows h) (k := k) (by simpa using hk)
theorem dInts2_len {v : AVal} {xs : List (List Int)} (h : dInts2 v = some xs) : lenA v = some xs.length := by
 obtain ⟨rs, h1, h2⟩ := dInts2_rows h
 rw [rowsV_len h1, (optAll_at h2).1]
theorem dStops_len {v : AVal} {xs : List FStop} (h : dStops v = some xs) : lenA v = some xs.length := by
 have := rowsV_len (dStops_rows h); rwa [List.length_map] at this
theorem dJobs_len {v : AVal} {xs : List FJob} (h : dJobs v = some xs) : lenA v = some xs.length := by
 obtain ⟨rs, h1, h2⟩ := dJobs_rows h
 rw [rowsV_len h1, (optAll_at h2).1]
theorem dInts2_get {v : AVal} {xs : List (List Int)} (h : dInts2 v = some xs) {k : Nat} (hk : k < xs.length) : ∃ rs t w, v = .vl rs t ∧ rs.length = xs.length ∧ rs[k]? = some [w] ∧ dInts w = some xs[k] := by
 obtain ⟨rs, h1, h2⟩ := dInts2_rows h
 obtain ⟨g1, g2⟩ := optAll_at h2
 obtain ⟨t, rfl⟩ := rowsV_get h1 (k := k) (by omega)
 obtain ⟨w, e, hw⟩ := dRow1_eq (g2 k (by omega) hk)
 exact ⟨rs, t, w, rfl, g1, by rw [List.getElem?_eq_getElem (by omega), e], hw⟩
theorem dJobs_get {v : AVal} {xs : List FJob} (h : dJobs v = some xs) {k : Nat} (hk : k < xs.length) : ∃ rs t w, v = .vl rs t ∧ rs.length = xs.length ∧ rs[k]? = some [I xs[k].kind, I xs[k].ready, I xs[k].due, w] ∧ dInts w = some xs[k].mins := by
 obtain ⟨rs, h1, h2⟩ := dJobs_rows h
 obtain ⟨g1, g2⟩ := optAll_at h2
 obtain ⟨t, rfl⟩ := rowsV_get h1 (k := k) (by omega)
 obtain ⟨w, e, hw⟩ := dJob_eq (g2 k (by omega) hk)
 exact ⟨rs, t, w, rfl, g1, by rw [List.getElem?_eq_getElem (by omega), e], hw⟩
theorem dInts_frz {v : AVal} {xs : List Int} (h : dInts v = some xs) (H : Heap) (d : Nat) : frz false H (d + 1) v = some v := rowsV_frz (dInts_rows h) H d
theorem dInts2_frz {v : AVal} {xs : List (List Int)} (h : dInts2 v = some xs) (H : Heap) (d : Nat) : frz false H (d + 1) v = some v := let ⟨_, h1, _⟩ := dInts2_rows h; rowsV_frz h1 H d
theorem dStops_frz {v : AVal} {xs : List FStop} (h : dStops v = some xs) (H : Heap) (d : Nat) : frz false H (d + 1) v = some v := rowsV_frz (dStops_rows h) H d
theorem dJobs_frz {v : AVal} {xs : List FJob} (h : dJobs v = some xs) (H : Heap) (d : Nat) : frz false H (d + 1) v = some v := let ⟨_, h1, _⟩ := dJobs_rows h; rowsV_frz h1 H d
theorem dInts_rb {v : AVal} {xs : List Int} (h : dInts v = some xs) (n d : Nat) : rb n (d + 1) v = true := rowsV_rb (dInts_rows h) n d
theorem dInts2_rb {v : AVal} {xs : List (List Int)} (h : dInts2 v = some xs) (n d : Nat) : rb n (d + 1) v = true := let ⟨_, h1, _⟩ := dInts2_rows h; rowsV_rb h1 n d
theorem dStops_rb {v : AVal} {xs : List FStop} (h : dStops v = some xs) (n d : Nat) : rb n (d + 1) v = true := rowsV_rb (dStops_rows h) n d
theorem dJobs_rb {v : AVal} {xs : List FJob} (h : dJobs v = some xs) (n d : Nat) : rb n (d + 1) v = true := let ⟨_, h1, _⟩ := dJobs_rows h; rowsV_rb h1 n d
theorem dInts_cells {v : AVal} {xs : List Int} (h : dInts v = some xs) : cellsOf v = some [v] ∧ storable v = true := rowsV_cells (dInts_rows h)
theorem dInts2_cells {v : AVal} {xs : List (List Int)} (h : dInts2 v = some xs) : cellsOf v = some [v] ∧ storable v = true := let ⟨_, h1, _⟩ := dInts2_rows h; rowsV_cells h1
theorem dStops_cells {v : AVal} {xs : List FStop} (h : dStops v = some xs) : cellsOf v = some [v] ∧ storable v = true := rowsV_cells (dStops_rows h)
theorem dJobs_cells {v : AVal} {xs : List FJob} (h : dJobs v = some xs) : cellsOf v = some [v] ∧ storable v = true := let ⟨_, h1, _⟩ := dJobs_rows h; rowsV_cells h1
def sizeOk (s : FShop) (js : List FJob) : Bool := decide (s.chg.length ≤ 100) && s.chg.all (fun l => decide (l.length ≤ 100)) && decide (s.stops.length ≤ 100) && decide (js.length ≤ 100) && js.all (fun j => decide (j.mins.length ≤ 100))
structure SizeOk (s : FShop) (js : List FJob) : Prop where
 chg : s.chg.length ≤ 100
 rows : ∀ l ∈ s.chg, l.length ≤ 100
 stops : s.stops.length ≤ 100
 jobs : js.length ≤ 100
 mins : ∀ j ∈ js, j.mins.length ≤ 100
theorem size_ok {s : FShop} {js : List FJob} : sizeOk s js = true ↔ SizeOk s js := by
 simp only [sizeOk, Bool.and_eq_true, decide_eq_true_eq, List.all_eq_true]
 exact ⟨fun ⟨⟨⟨⟨h1, h2⟩, h3⟩, h4⟩, h5⟩ => ⟨h1, h2, h3, h4, h5⟩, fun h => ⟨⟨⟨⟨h.chg, h.rows⟩, h.stops⟩, h.jobs⟩, h.mins⟩⟩
end Go.Proofs.YtjjapdagllclkaaGreat.Tab
namespace Go.Proofs.YtjjapdagllclkaaGreat.Tab
open Go Go.Abs Go.Proofs
set_option maxRecDepth 100000
set_option maxHeartbeats 4000000
set_option linter.unusedSimpArgs false
set_option linter.unusedVariables false
section
attribute [local simp] frz_int frz_bool frz_vl frz_pv frz_agg frz_tup frz_fn frz_ref frz_sl frz_nils optAll orcF rb_int rb_bool rb_agg rb_tup rb_int' rb_bool' rb_vl rb_pv rb_yld rb_nilf rb_nilp rb_nils rb_any rb_und rb_ref rb_sl rb_fn slE chunk fillA evParts evParts3 putAt List.range_succ List.range_zero List.range'_succ List.range'_zero runX_nil' unary_not evalS_pure evAll_nil evAll_cons runX_cons stepX wantedA dop CV.ev putK_eq setK_eq appK_eq fA_eq fI_eq fN_eq fRow_eq fRows_eq nth_eq Out.v putT List.replicate_succ zT zB arI pointee Abs.rowAt ldRow allV toV toC ofV ofC Builtin.min_ Builtin.min2 Builtin.max_ Builtin.max2 min_if max_if resA tupA kill trim_self trim_len trim_emp trim_nil lenA
attribute [local simp] runD_nil' runD_cons' stepD actK_eq actD clash disj masks holes maskH unmaskH diffs news eqB allB eqA ldRowN wrote toCs ofCs stA rowsV_vl rowsV_nils rowsOf dI1 dI2 dI3 dI5 elt
attribute [local simp] st_any st_und st_agg st_tup st_bool st_int st_nilp st_ref st_pv st_nils st_sl st_vl st_nilm st_mp st_fn st_nilf st_yld co_any co_und co_agg co_tup co_bool co_int co_nilp co_ref co_pv co_nils co_sl co_vl co_nilm co_mp co_fn co_nilf co_yld
section
attribute [local simp] callA calleeA lop loud
def oWc : List AVal → Option AVal
  | [.int .i64 x, .pv [.int .i64 a] 0, .pv [.int .i64 b] 0] => some (.bool (decide (x < a) || decide (b < x)))
  | _ => none
def oWithin : List AVal → Option AVal
  | [.int .i64 a, .int .i64 b, x] => match rowsV x with
    | some rs => match optAll dI1 rs with
      | some xs => if xs.length ≤ 1000 then some (.bool (wB a b xs)) else none
      | none => none
    | none => none
  | _ => none
theorem a116 (P : Program) (T : Nat → Option CFn) (hT : T 116 = some c116) (x a b : Int) : Answers P T 116 [I x, .pv [I a] 0, .pv [I b] 0] [] fun v h => frz true h 5 v = some (.bool (decide (x < a) || decide (b < x))) := by
 refine answers_of hT (orcF_none rfl) ?_
 simp only [oo, om, op, og, ci, cl, c116]
 by_cases hx : x < a
 ·refine zS ?_
  refine zR (zO (by simp [hx]; rfl) ?_)
  simp only [zT, zB]
  refine zS ?_
  refine zR (zO (by simp [hx]; rfl) ?_)
  simp only [zT, zB]
  refine runs_ret ?_
  simp [hx]
 ·refine zS ?_
  refine zR (zO (by simp [hx]; rfl) ?_)
  simp only [zT, zB]
  refine zS ?_
  refine zR (zO (by simp [hx]; rfl) ?_)
  simp only [zT, zB]
  refine runs_ret ?_
  simp [hx]
theorem a114 (P : Program) (T : Nat → Option CFn) (hT : T 114 = some c114) (x : AVal) (rs : List (List AVal)) (hx : rowsV x = some rs) (g : Nat) (a b : List AVal) (r : Int) (hl : rs.length ≤ 1000) (hr : rs.all (fun r => r.length == 1) = true)
  (hq : idxA (fun r => known T g (a ++ [elt r] ++ b)) 0 rs = some r) : Answers P T 114 [x, .fn g a b] [] fun v h => v = .int .i64 r ∧ h = [] := by
 have lx := rowsV_len hx
 refine answers_of hT (orcF_none rfl) ?_
 simp only [oo, om, op, og, ci, cl, c114]
 refine zS (zR (zO (by simp; rfl) ?_))
 simp only [zT, zB]
 refine zS (zS (zR (zO (by simp [lx, -lenA]; rfl) ?_)))
 simp only [zT, zB]
 refine zL ?_
 refine runs_loop_inv (fun m σ => ∃ (k : Nat) (i : Int), i = k ∧ m = rs.length - k ∧ k ≤ rs.length ∧ idxA (fun r => known T g (a ++ [elt r] ++ b)) k (rs.drop k) = some r ∧
  σ = ⟨[x, .fn g a b, .any, .any, .any, .any, .any, I rs.length, I i, .any, .any, .any, .any, .any, .any, .any, .any, .any, .any], []⟩) ?_ (rs.length - 0) _ ⟨0, 0, rfl, rfl, Nat.zero_le _, hq, by simp⟩
 rintro m σ ⟨k, i, hik, rfl, hk, hi, rfl⟩
 have h0 : 0 ≤ i := by omega
 have htn : i.toNat = k := by omega
 refine zS (zR (zO (by simp; rfl) ?_))
 simp only [zT, zB]
 refine zS (runs_cond_split (x := decide (i < rs.length)) (by simp) (fun hlt => ?_) (fun hge => ?_))
 ·refine zK ?_
  simp only [zT, zB]
  have hlt' : k < rs.length := by have := of_decide_eq_true hlt; omega
  obtain ⟨tt, rfl⟩ := rowsV_get hx hlt'
  have hr1 := List.all_eq_true.1 hr _ (List.getElem_mem hlt')
  simp only [beq_iff_eq] at hr1
  obtain ⟨y0, hrk⟩ := len1 hr1
  rw [List.drop_eq_getElem_cons hlt'] at hi
  simp only [idxA] at hi
  refine zS (zL ?_)
  refine zS (zR (zO (by simp; rfl) ?_))
  simp only [zT, zB]
  split at hi
  ·rename_i hb
   simp at hi; rw [← hik] at hi; subst hi
   rw [hrk] at hb; simp only [elt, List.append_assoc, List.cons_append, List.nil_append] at hb
   refine zS (zR (zO (by simp [h0, htn, hlt', hrk, callF_known hb]; rfl) ?_))
   simp only [zT, zB]
   refine runs_cond (x := true) (by simp) ?_
   refine zS (zR (zO (by simp; rfl) ?_))
   simp only [zT, zB]
   refine runs_ret ?_
   simp
  ·rename_i hb
   rw [hrk] at hb; simp only [elt, List.append_assoc, List.cons_append, List.nil_append] at hb
   refine zS (zR (zO (by simp [h0, htn, hlt', hrk, callF_known hb]; rfl) ?_))
   simp only [zT, zB]
   refine runs_cond (x := false) (by simp) ?_
   refine zK ?_
   simp only [zT, zB]
   refine zR (zO (by simp; rfl) ?_)
   simp only [zT, zB]
   refine ⟨rs.length - (k + 1), by omega, k + 1, i + 1, by omega, rfl, by omega, hi, ?_⟩
   simp [W_small (show -1000000 ≤ i + 1 ∧ i + 1 ≤ 1000000 by omega)]
  ·simp at hi
 ·refine runs_exit ?_
  simp only [zT, zB, if_true]
  have hke : k = rs.length := by
   have := of_decide_eq_false hge
   omega
  subst hke
  rw [List.drop_length] at hi
  simp [idxA] at hi
  subst hi
  refine zS (zR (zO (by simp; rfl) ?_))
  simp only [zT, zB]
  refine runs_ret ?_
  simp
theorem a92 (P : Program) (T : Nat → Option CFn) (hT : T 92 = some c92) (hj : T 114 = some c114) (x : AVal) (rs : List (List AVal)) (hx : rowsV x = some rs) (g : Nat) (a b : List AVal) (r : Int) (hl : rs.length ≤ 1000) (hr : rs.all (fun r => r.length == 1) = true)
  (hq : idxA (fun r => known T g (a ++ [elt r] ++ b)) 0 rs = some r) : Answers P T 92 [x, .fn g a b] [] fun v h => v = .bool (decide (0 ≤ r)) ∧ h = [] := by
 refine answers_of hT (orcF_none rfl) ?_
 simp only [oo, om, op, og, ci, cl, c92]
 refine zS (zR (zO (by simp; rfl) ?_))
 simp only [zT, zB]
 refine zS (zR ?_)
 refine ops_cons 0 (by simp; rfl) (ops_cons 0 (by simp; rfl) ?_)
 refine ops_call (f := 114) (args := [x, .fn g a b]) (by simp) (by simp) (by simp) (by simp) ?_
 refine (a114 P T hj x rs hx g a b r hl hr hq).mono ?_
 rintro v h' ⟨rfl, rfl⟩
 refine zO (by simp; rfl) ?_
 simp only [zT, zB]
 refine runs_ret ?_
 simp
theorem a118 (P : Program) (T : Nat → Option CFn) (hT : T 118 = some c118) (x : AVal) (rs : List (List AVal)) (hx : rowsV x = some rs) (g : Nat) (a b : List AVal) (r : Int) (hl : rs.length ≤ 1000) (hr : rs.all (fun r => r.length == 1) = true)
  (hq : idxA (fun r => known T g (a ++ [elt r] ++ b)) 0 rs = some r) : Answers P T 118 [x, .fn g a b] [] fun v h => v = .int .i64 r ∧ h = [] := by
 have lx := rowsV_len hx
 refine answers_of hT (orcF_none rfl) ?_
 simp only [oo, om, op, og, ci, cl, c118]
 refine zS (zR (zO (by simp; rfl) ?_))
 simp only [zT, zB]
 refine zS (zS (zR (zO (by simp [lx, -lenA]; rfl) ?_)))
 simp only [zT, zB]
 refine zL ?_
 refine runs_loop_inv (fun m σ => ∃ (k : Nat) (i : Int), i = k ∧ m = rs.length - k ∧ k ≤ rs.length ∧ idxA (fun r => known T g (a ++ [elt r] ++ b)) k (rs.drop k) = some r ∧
  σ = ⟨[x, .fn g a b, .any, .any, .any, .any, .any, I rs.length, I i, .any, .any, .any, .any, .any, .any, .any, .any, .any, .any], []⟩) ?_ (rs.length - 0) _ ⟨0, 0, rfl, rfl, Nat.zero_le _, hq, by simp⟩
 rintro m σ ⟨k, i, hik, rfl, hk, hi, rfl⟩
 have h0 : 0 ≤ i := by omega
 have htn : i.toNat = k := by omega
 refine zS (zR (zO (by simp; rfl) ?_))
 simp only [zT, zB]
 refine zS (runs_cond_split (x := decide (i < rs.length)) (by simp) (fun hlt => ?_) (fun hge => ?_))
 ·refine zK ?_
  simp only [zT, zB]
  have hlt' : k < rs.length := by have := of_decide_eq_true hlt; omega
  obtain ⟨tt, rfl⟩ := rowsV_get hx hlt'
  have hr1 := List.all_eq_true.1 hr _ (List.getElem_mem hlt')
  simp only [beq_iff_eq] at hr1
  obtain ⟨y0, hrk⟩ := len1 hr1
  rw [List.drop_eq_getElem_cons hlt'] at hi
  simp only [idxA] at hi
  refine zS (zL ?_)
  refine zS (zR (zO (by simp; rfl) ?_))
  simp only [zT, zB]
  split at hi
  ·rename_i hb
   simp at hi; rw [← hik] at hi; subst hi
   rw [hrk] at hb; simp only [elt, List.append_assoc, List.cons_append, List.nil_append] at hb
   refine zS (zR (zO (by simp [h0, htn, hlt', hrk, callF_known hb]; rfl) ?_))
   simp only [zT, zB]
   refine runs_cond (x := true) (by simp) ?_
   refine zS (zR (zO (by simp; rfl) ?_))
   simp only [zT, zB]
   refine runs_ret ?_
   simp
  ·rename_i hb
   rw [hrk] at hb; simp only [elt, List.append_assoc, List.cons_append, List.nil_append] at hb
   refine zS (zR (zO (by simp [h0, htn, hlt', hrk, callF_known hb]; rfl) ?_))
   simp only [zT, zB]
   refine runs_cond (x := false) (by simp) ?_
   refine zK ?_
   simp only [zT, zB]
   refine zR (zO (by simp; rfl) ?_)
   simp only [zT, zB]
   refine ⟨rs.length - (k + 1), by omega, k + 1, i + 1, by omega, rfl, by omega, hi, ?_⟩
   simp [W_small (show -1000000 ≤ i + 1 ∧ i + 1 ≤ 1000000 by omega)]
  ·simp at hi
 ·refine runs_exit ?_
  simp only [zT, zB, if_true]
  have hke : k = rs.length := by
   have := of_decide_eq_false hge
   omega
  subst hke
  rw [List.drop_length] at hi
  simp [idxA] at hi
  subst hi
  refine zS (zR (zO (by simp; rfl) ?_))
  simp only [zT, zB]
  refine runs_ret ?_
  simp
theorem a94 (P : Program) (T : Nat → Option CFn) (hT : T 94 = some c94) (hj : T 118 = some c118) (x : AVal) (rs : List (List AVal)) (hx : rowsV x = some rs) (g : Nat) (a b : List AVal) (r : Int) (hl : rs.length ≤ 1000) (hr : rs.all (fun r => r.length == 1) = true)
  (hq : idxA (fun r => known T g (a ++ [elt r] ++ b)) 0 rs = some r) : Answers P T 94 [x, .fn g a b] [] fun v h => v = .bool (decide (0 ≤ r)) ∧ h = [] := by
 refine answers_of hT (orcF_none rfl) ?_
 simp only [oo, om, op, og, ci, cl, c94]
 refine zS (zR (zO (by simp; rfl) ?_))
 simp only [zT, zB]
 refine zS (zR ?_)
 refine ops_cons 0 (by simp; rfl) (ops_cons 0 (by simp; rfl) ?_)
 refine ops_call (f := 118) (args := [x, .fn g a b]) (by simp) (by simp) (by simp) (by simp) ?_
 refine (a118 P T hj x rs hx g a b r hl hr hq).mono ?_
 rintro v h' ⟨rfl, rfl⟩
 refine zO (by simp; rfl) ?_
 simp only [zT, zB]
 refine runs_ret ?_
 simp
theorem a145 (P : Program) (T : Nat → Option CFn) (hT : T 145 = some c145) (x : AVal) (rs : List (List AVal)) (hx : rowsV x = some rs) (g : Nat) (a b : List AVal) (r : Int) (hl : rs.length ≤ 1000) (hr : rs.all (fun r => r.length == 3) = true)
  (hq : idxA (fun r => known T g (a ++ [elt r] ++ b)) 0 rs = some r) : Answers P T 145 [x, .fn g a b] [] fun v h => v = .int .i64 r ∧ h = [] := by
 have lx := rowsV_len hx
 refine answers_of hT (orcF_none rfl) ?_
 simp only [oo, om, op, og, ci, cl, c145]
 refine zS (zR (zO (by simp; rfl) ?_))
 simp only [zT, zB]
 refine zS (zS (zR (zO (by simp [lx, -lenA]; rfl) ?_)))
 simp only [zT, zB]
 refine zL ?_
 refine runs_loop_inv (fun m σ => ∃ (k : Nat) (i : Int), i = k ∧ m = rs.length - k ∧ k ≤ rs.length ∧ idxA (fun r => known T g (a ++ [elt r] ++ b)) k (rs.drop k) = some r ∧
  σ = ⟨[x, .fn g a b, .any, .any, .any, .any, .any, I rs.length, I i, .any, .any, .any, .any, .any, .any, .any, .any, .any, .any], []⟩) ?_ (rs.length - 0) _ ⟨0, 0, rfl, rfl, Nat.zero_le _, hq, by simp⟩
 rintro m σ ⟨k, i, hik, rfl, hk, hi, rfl⟩
 have h0 : 0 ≤ i := by omega
 have htn : i.toNat = k := by omega
 refine zS (zR (zO (by simp; rfl) ?_))
 simp only [zT, zB]
 refine zS (runs_cond_split (x := decide (i < rs.length)) (by simp) (fun hlt => ?_) (fun hge => ?_))
 ·refine zK ?_
  simp only [zT, zB]
  have hlt' : k < rs.length := by have := of_decide_eq_true hlt; omega
  obtain ⟨tt, rfl⟩ := rowsV_get hx hlt'
  have hr1 := List.all_eq_true.1 hr _ (List.getElem_mem hlt')
  simp only [beq_iff_eq] at hr1
  obtain ⟨y0, y1, y2, hrk⟩ := len3 hr1
  rw [List.drop_eq_getElem_cons hlt'] at hi
  simp only [idxA] at hi
  refine zS (zL ?_)
  refine zS (zR (zO (by simp; rfl) ?_))
  simp only [zT, zB]
  split at hi
  ·rename_i hb
   simp at hi; rw [← hik] at hi; subst hi
   rw [hrk] at hb; simp only [elt, List.append_assoc, List.cons_append, List.nil_append] at hb
   refine zS (zR (zO (by simp [h0, htn, hlt', hrk, callF_known hb]; rfl) ?_))
   simp only [zT, zB]
   refine runs_cond (x := true) (by simp) ?_
   refine zS (zR (zO (by simp; rfl) ?_))
   simp only [zT, zB]
   refine runs_ret ?_
   simp
  ·rename_i hb
   rw [hrk] at hb; simp only [elt, List.append_assoc, List.cons_append, List.nil_append] at hb
   refine zS (zR (zO (by simp [h0, htn, hlt', hrk, callF_known hb]; rfl) ?_))
   simp only [zT, zB]
   refine runs_cond (x := false) (by simp) ?_
   refine zK ?_
   simp only [zT, zB]
   refine zR (zO (by simp; rfl) ?_)
   simp only [zT, zB]
   refine ⟨rs.length - (k + 1), by omega, k + 1, i + 1, by omega, rfl, by omega, hi, ?_⟩
   simp [W_small (show -1000000 ≤ i + 1 ∧ i + 1 ≤ 1000000 by omega)]
  ·simp at hi
 ·refine runs_exit ?_
  simp only [zT, zB, if_true]
  have hke : k = rs.length := by
   have := of_decide_eq_false hge
   omega
  subst hke
  rw [List.drop_length] at hi
  simp [idxA] at hi
  subst hi
  refine zS (zR (zO (by simp; rfl) ?_))
  simp only [zT, zB]
  refine runs_ret ?_
  simp
theorem a106 (P : Program) (T : Nat → Option CFn) (hT : T 106 = some c106) (hj : T 145 = some c145) (x : AVal) (rs : List (List AVal)) (hx : rowsV x = some rs) (g : Nat) (a b : List AVal) (r : Int) (hl : rs.length ≤ 1000) (hr : rs.all (fun r => r.length == 3) = true)
  (hq : idxA (fun r => known T g (a ++ [elt r] ++ b)) 0 rs = some r) : Answers P T 106 [x, .fn g a b] [] fun v h => v = .bool (decide (0 ≤ r)) ∧ h = [] := by
 refine answers_of hT (orcF_none rfl) ?_
 simp only [oo, om, op, og, ci, cl, c106]
 refine zS (zR (zO (by simp; rfl) ?_))
 simp only [zT, zB]
 refine zS (zR ?_)
 refine ops_cons 0 (by simp; rfl) (ops_cons 0 (by simp; rfl) ?_)
 refine ops_call (f := 145) (args := [x, .fn g a b]) (by simp) (by simp) (by simp) (by simp) ?_
 refine (a145 P T hj x rs hx g a b r hl hr hq).mono ?_
 rintro v h' ⟨rfl, rfl⟩
 refine zO (by simp; rfl) ?_
 simp only [zT, zB]
 refine runs_ret ?_
 simp
theorem a146 (P : Program) (T : Nat → Option CFn) (hT : T 146 = some c146) (x : AVal) (rs : List (List AVal)) (hx : rowsV x = some rs) (g : Nat) (a b : List AVal) (r : Int) (hl : rs.length ≤ 1000) (hr : rs.all (fun r => r.length == 4) = true)
  (hq : idxA (fun r => known T g (a ++ [elt r] ++ b)) 0 rs = some r) : Answers P T 146 [x, .fn g a b] [] fun v h => v = .int .i64 r ∧ h = [] := by
 have lx := rowsV_len hx
 refine answers_of hT (orcF_none rfl) ?_
 simp only [oo, om, op, og, ci, cl, c146]
 refine zS (zR (zO (by simp; rfl) ?_))
 simp only [zT, zB]
 refine zS (zS (zR (zO (by simp [lx, -lenA]; rfl) ?_)))
 simp only [zT, zB]
 refine zL ?_
 refine runs_loop_inv (fun m σ => ∃ (k : Nat) (i : Int), i = k ∧ m = rs.length - k ∧ k ≤ rs.length ∧ idxA (fun r => known T g (a ++ [elt r] ++ b)) k (rs.drop k) = some r ∧
  σ = ⟨[x, .fn g a b, .any, .any, .any, .any, .any, I rs.length, I i, .any, .any, .any, .any, .any, .any, .any, .any, .any, .any], []⟩) ?_ (rs.length - 0) _ ⟨0, 0, rfl, rfl, Nat.zero_le _, hq, by simp⟩
 rintro m σ ⟨k, i, hik, rfl, hk, hi, rfl⟩
 have h0 : 0 ≤ i := by omega
 have htn : i.toNat = k := by omega
 refine zS (zR (zO (by simp; rfl) ?_))
 simp only [zT, zB]
 refine zS (runs_cond_split (x := decide (i < rs.length)) (by simp) (fun hlt => ?_) (fun hge => ?_))
 ·refine zK ?_
  simp only [zT, zB]
  have hlt' : k < rs.length := by have := of_decide_eq_true hlt; omega
  obtain ⟨tt, rfl⟩ := rowsV_get hx hlt'
  have hr1 := List.all_eq_true.1 hr _ (List.getElem_mem hlt')
  simp only [beq_iff_eq] at hr1
  obtain ⟨y0, y1, y2, y3, hrk⟩ := len4 hr1
  rw [List.drop_eq_getElem_cons hlt'] at hi
  simp only [idxA] at hi
  refine zS (zL ?_)
  refine zS (zR (zO (by simp; rfl) ?_))
  simp only [zT, zB]
  split at hi
  ·rename_i hb
   simp at hi; rw [← hik] at hi; subst hi
   rw [hrk] at hb; simp only [elt, List.append_assoc, List.cons_append, List.nil_append] at hb
   refine zS (zR (zO (by simp [h0, htn, hlt', hrk, callF_known hb]; rfl) ?_))
   simp only [zT, zB]
   refine runs_cond (x := true) (by simp) ?_
   refine zS (zR (zO (by simp; rfl) ?_))
   simp only [zT, zB]
   refine runs_ret ?_
   simp
  ·rename_i hb
   rw [hrk] at hb; simp only [elt, List.append_assoc, List.cons_append, List.nil_append] at hb
   refine zS (zR (zO (by simp [h0, htn, hlt', hrk, callF_known hb]; rfl) ?_))
   simp only [zT, zB]
   refine runs_cond (x := false) (by simp) ?_
   refine zK ?_
   simp only [zT, zB]
   refine zR (zO (by simp; rfl) ?_)
   simp only [zT, zB]
   refine ⟨rs.length - (k + 1), by omega, k + 1, i + 1, by omega, rfl, by omega, hi, ?_⟩
   simp [W_small (show -1000000 ≤ i + 1 ∧ i + 1 ≤ 1000000 by omega)]
  ·simp at hi
 ·refine runs_exit ?_
  simp only [zT, zB, if_true]
  have hke : k = rs.length := by
   have := of_decide_eq_false hge
   omega
  subst hke
  rw [List.drop_length] at hi
  simp [idxA] at hi
  subst hi
  refine zS (zR (zO (by simp; rfl) ?_))
  simp only [zT, zB]
  refine runs_ret ?_
  simp
theorem a108 (P : Program) (T : Nat → Option CFn) (hT : T 108 = some c108) (hj : T 146 = some c146) (x : AVal) (rs : List (List AVal)) (hx : rowsV x = some rs) (g : Nat) (a b : List AVal) (r : Int) (hl : rs.length ≤ 1000) (hr : rs.all (fun r => r.length == 4) = true)
  (hq : idxA (fun r => known T g (a ++ [elt r] ++ b)) 0 rs = some r) : Answers P T 108 [x, .fn g a b] [] fun v h => v = .bool (decide (0 ≤ r)) ∧ h = [] := by
 refine answers_of hT (orcF_none rfl) ?_
 simp only [oo, om, op, og, ci, cl, c108]
 refine zS (zR (zO (by simp; rfl) ?_))
 simp only [zT, zB]
 refine zS (zR ?_)
 refine ops_cons 0 (by simp; rfl) (ops_cons 0 (by simp; rfl) ?_)
 refine ops_call (f := 146) (args := [x, .fn g a b]) (by simp) (by simp) (by simp) (by simp) ?_
 refine (a146 P T hj x rs hx g a b r hl hr hq).mono ?_
 rintro v h' ⟨rfl, rfl⟩
 refine zO (by simp; rfl) ?_
 simp only [zT, zB]
 refine runs_ret ?_
 simp
theorem T_ok : TabOk Tryz.prog GG T := tabOk
noncomputable def FA1 : Nat → Option CFn := upd T 116 true (oWc)
theorem FA1_ok : TabOk Tryz.prog GG FA1 := tab_add mixed T_ok fun args v ho => by
  unfold oWc at ho; split at ho <;> simp at ho
  rename_i x a b
  subst ho
  exact a116 Tryz.prog T rfl x a b
noncomputable def FA2 : Nat → Option CFn := upd FA1 92 true (oCFg FA1 1)
theorem FA2_ok : TabOk Tryz.prog GG FA2 := tab_add mixed FA1_ok fun args v ho => by
  unfold oCFg at ho; split at ho <;> (try simp at ho)
  rename_i x g a b
  split at ho <;> (try simp at ho)
  rename_i rs hx
  obtain ⟨⟨hl, hr⟩, ho⟩ := ho
  split at ho <;> simp at ho
  rename_i r hq
  subst ho
  refine (a92 Tryz.prog FA1 rfl rfl x rs hx g a b r hl (by simpa using hr) (by simpa using hq)).mono ?_
  rintro v h ⟨rfl, rfl⟩
  rfl
theorem a85 (P : Program) (T : Nat → Option CFn) (hT : T 85 = some c85) (h92 : T 92 = some { c92 with frsh := true, orc := oCFg FA1 1 }) (a b : Int) (x : AVal) (xs : List Int) (hx : rowsV x = some (xs.map fun x => [I x])) (hl : xs.length ≤ 1000) :
  Answers P T 85 [I a, I b, x] [] fun v h => frz true h 5 v = some (.bool (wB a b xs)) := by
 have hcf : oCFg FA1 1 [x, .fn 116 [] [.pv [I a] 0, .pv [I b] 0]] = some (.bool ((xs.map fun x => [I x]).any fun r => match r with | [.int .i64 n] => decide (n < a) || decide (b < n) | _ => false)) := by
  refine oCFg_any hx (by simpa using hl) (by simp) ?_
  intro r hr
  obtain ⟨n, _, rfl⟩ := List.mem_map.1 hr
  rfl
 have hv : (!((xs.map fun x => [I x]).any fun r => match r with | [.int .i64 n] => decide (n < a) || decide (b < n) | _ => false)) = wB a b xs := by
  simp only [wB, List.any_map, List.not_any_eq_all_not]
  congr 1
  funext n
  simp only [Function.comp]
  rw [Bool.eq_iff_iff]
  simp
 rw [← hv]
 generalize hbb : ((xs.map fun x => [I x]).any fun r => match r with | [.int .i64 n] => decide (n < a) || decide (b < n) | _ => false) = bb at hcf
 refine answers_of hT (orcF_none rfl) ?_
 simp only [oo, om, op, og, ci, cl, c85]
 refine zS (zR (zO (by simp; rfl) ?_))
 simp only [zT, zB]
 refine zS (zR (zO (by simp [zC h92, rowsV_frz hx, hcf]; rfl) ?_))
 simp only [zT, zB]
 refine runs_ret ?_
 simp
noncomputable def FA3 : Nat → Option CFn := upd FA2 85 true (oWithin)
theorem FA3_ok : TabOk Tryz.prog GG FA3 := tab_add mixed FA2_ok fun args v ho => by
  unfold oWithin at ho; split at ho <;> (try simp at ho)
  rename_i a b x
  split at ho <;> (try simp at ho)
  rename_i rs hx
  split at ho <;> (try simp at ho)
  rename_i xs hxs
  obtain ⟨hl, rfl⟩ := ho
  have e := optAll_eq dI1_eq hxs
  subst e
  exact a85 Tryz.prog FA2 rfl rfl a b x xs hx hl
theorem oWithin_eq {x : AVal} {xs : List Int} (a b : Int) (hx : rowsV x = some (xs.map fun x => [I x])) (hl : xs.length ≤ 1000) : oWithin [I a, I b, x] = some (.bool (wB a b xs)) := by
  simp only [oWithin, hx, dI1_self', hl, if_true]
theorem oWithin_eq' {x : AVal} {xs : List Int} (a b : Int) (hx : dInts x = some xs) (hl : xs.length ≤ 1000) : oWithin [I a, I b, x] = some (.bool (wB a b xs)) := oWithin_eq a b (dInts_rows hx) hl
theorem wB_one (a b n : Int) : wB a b [n] = inI a n b := by simp [wB, inI]
def oTime : List AVal → Option AVal
  | [x] => match dInts x with
    | some xs => if xs.length ≤ 1000 then some (.bool (wB 0 100000 xs)) else none
    | none => none
  | _ => none
theorem a113 (P : Program) (T : Nat → Option CFn) (hT : T 113 = some c113) (h85 : T 85 = some { c85 with frsh := true, orc := oWithin }) (x : AVal) (xs : List Int) (hx : dInts x = some xs) (hl : xs.length ≤ 1000) : Answers P T 113 [x] [] fun v h => frz true h 5 v = some (.bool (wB 0 100000 xs)) := by
 refine answers_of hT (orcF_none rfl) ?_
 simp only [oo, om, op, og, ci, cl, c113]
 refine zS ?_
 refine zR (zO (by simp [zC h85, h85, dInts_frz hx, oWithin_eq' 0 100000 hx hl]; rfl) ?_)
 simp only [zT, zB]
 refine zS ?_
 refine zR (zO (by simp [zC h85, h85, dInts_frz hx, oWithin_eq' 0 100000 hx hl]; rfl) ?_)
 simp only [zT, zB]
 refine runs_ret ?_
 simp [zC h85, h85, dInts_frz hx, oWithin_eq' 0 100000 hx hl]
noncomputable def FA4 : Nat → Option CFn := upd FA3 113 true (oTime)
theorem FA4_ok : TabOk Tryz.prog GG FA4 := tab_add mixed FA3_ok fun args v ho => by
  unfold oTime at ho; split at ho <;> (try simp at ho)
  rename_i x
  split at ho <;> (try simp at ho)
  rename_i xs hx
  obtain ⟨hl, rfl⟩ := ho
  exact a113 Tryz.prog FA3 rfl rfl x xs hx hl
theorem a80 (P : Program) (T : Nat → Option CFn) (hT : T 80 = some c80) (h85 : T 85 = some { c85 with frsh := true, orc := oWithin }) (h113 : T 113 = some { c113 with frsh := true, orc := oTime }) (m : Int) (c t : AVal) (rsc rst : List (List AVal)) (hc : rowsV c = some rsc) (ht : rowsV t = some rst) (hm : -1000000 ≤ m ∧ m ≤ 1000000) (a f u : Int) : Answers P T 80 [.agg [I m, c, t], .agg [I a, I f, I u]] [] fun v h => frz true h 5 v = some (.bool (stopOk m (a, f, u))) := by
 have fc := fun H d => rowsV_frz hc H d
 have ft := fun H d => rowsV_frz ht H d
 have rc := fun n d => rowsV_rb hc n d
 have rt := fun n d => rowsV_rb ht n d
 have lc := rowsV_len hc
 have lt := rowsV_len ht
 obtain ⟨cc1, cc2⟩ := rowsV_cells hc
 obtain ⟨ct1, ct2⟩ := rowsV_cells ht
 have wm : W .i64 (m - 1) = m - 1 := W_fit (by omega)
 have h1 : oWithin [I 0, I (m - 1), .vl [[I a]] true] = some (.bool (inI 0 a (m - 1))) := by rw [← wB_one]; rfl
 have h2 : oTime [.vl [[I f], [I u]] true] = some (.bool (wB 0 100000 [f, u])) := rfl
 unfold stopOk
 simp only
 generalize inI 0 a (m - 1) = wA at *
 generalize wB 0 100000 [f, u] = wBb at *
 refine answers_of hT (orcF_none rfl) ?_
 simp only [oo, om, op, og, ci, cl, c80]
 cases hA : wA
 ·have HH1 := zA h85 (zA h113 (zA fc (zA ft (zA rc (zA rt (zA cc1 (zA cc2 (zA ct1 (zA ct2 (zA lc (zA wm (zA h1 (zA h2 hA)))))))))))))
  refine zS ?_
  refine zR (zO (by simp [zC h85, zC h113, -lenA, HH1]; rfl) ?_)
  simp only [zT, zB]
  refine zS ?_
  refine zR (zO (by simp [zC h85, zC h113, -lenA, HH1]; rfl) ?_)
  simp only [zT, zB]
  refine runs_ret ?_
  simp [zC h85, zC h113, -lenA, HH1]
 ·cases hB : wBb
  ·have HH2 := zA h85 (zA h113 (zA fc (zA ft (zA rc (zA rt (zA cc1 (zA cc2 (zA ct1 (zA ct2 (zA lc (zA wm (zA h1 (zA h2 (zA hA hB))))))))))))))
   refine zS ?_
   refine zR (zO (by simp [zC h85, zC h113, -lenA, HH2]; rfl) ?_)
   simp only [zT, zB]
   refine zS ?_
   refine zR (zO (by simp [zC h85, zC h113, -lenA, HH2]; rfl) ?_)
   simp only [zT, zB]
   refine runs_ret ?_
   simp [zC h85, zC h113, -lenA, HH2]
  ·have HH3 := zA h85 (zA h113 (zA fc (zA ft (zA rc (zA rt (zA cc1 (zA cc2 (zA ct1 (zA ct2 (zA lc (zA wm (zA h1 (zA h2 (zA hA hB))))))))))))))
   refine zS ?_
   refine zR (zO (by simp [zC h85, zC h113, -lenA, HH3]; rfl) ?_)
   simp only [zT, zB]
   refine zS ?_
   refine zR (zO (by simp [zC h85, zC h113, -lenA, HH3]; rfl) ?_)
   simp only [zT, zB]
   refine runs_ret ?_
   simp [zC h85, zC h113, -lenA, HH3]
def oStop : List AVal → Option AVal
  | [.agg [.int .i64 m, c, t], .agg [.int .i64 a, .int .i64 f, .int .i64 u]] => match rowsV c, rowsV t with
    | some _, some _ => if -1000000 ≤ m ∧ m ≤ 1000000 then some (.bool (stopOk m (a, f, u))) else none
    | _, _ => none
  | _ => none
def oJob : List AVal → Option AVal
  | [.agg [.int .i64 m, c, t], .agg [.int .i64 k, .int .i64 r, .int .i64 d, v]] => match rowsV c, rowsV t, dInts v with
    | some rc, some _, some ms => if rc.length ≤ 1000 ∧ ms.length ≤ 1000 then some (.bool (jobOk m rc.length ⟨k, r, d, ms⟩)) else none
    | _, _, _ => none
  | _ => none
theorem a110 (P : Program) (T : Nat → Option CFn) (hT : T 110 = some c110) (h85 : T 85 = some { c85 with frsh := true, orc := oWithin }) (h113 : T 113 = some { c113 with frsh := true, orc := oTime }) (m : Int) (c t : AVal) (rsc rst : List (List AVal)) (hc : rowsV c = some rsc) (ht : rowsV t = some rst) (k r d : Int) (v : AVal) (ms : List Int) (hv : dInts v = some ms) (hl : rsc.length ≤ 1000 ∧ ms.length ≤ 1000) : Answers P T 110 [.agg [I m, c, t], .agg [I k, I r, I d, v]] [] fun v h => frz true h 5 v = some (.bool (jobOk m rsc.length ⟨k, r, d, ms⟩)) := by
 have fc := fun H d => rowsV_frz hc H d
 have ft := fun H d => rowsV_frz ht H d
 have rc := fun n d => rowsV_rb hc n d
 have rt := fun n d => rowsV_rb ht n d
 have lc := rowsV_len hc
 have lt := rowsV_len ht
 obtain ⟨cc1, cc2⟩ := rowsV_cells hc
 obtain ⟨ct1, ct2⟩ := rowsV_cells ht
 have fv := fun H d => dInts_frz hv H d
 have rv := fun n d => dInts_rb hv n d
 have lv := dInts_len hv
 obtain ⟨cv1, cv2⟩ := dInts_cells hv
 have wm : W .i64 ((rsc.length : Int) - 1) = (rsc.length : Int) - 1 := W_small (by omega)
 have h1 : oWithin [I 0, I ((rsc.length : Int) - 1), .vl [[I k]] true] = some (.bool (inI 0 k ((rsc.length : Int) - 1))) := by rw [← wB_one]; rfl
 have h2 : oTime [.vl [[I r], [I d]] true] = some (.bool (wB 0 100000 [r, d])) := rfl
 have h3 := oWithin_eq' 0 2000 hv hl.2
 unfold jobOk
 simp only
 generalize inI 0 k ((rsc.length : Int) - 1) = wA at *
 generalize wB 0 100000 [r, d] = wBb at *
 generalize hE : ((ms.length : Int) == m) = wC at *
 refine answers_of hT (orcF_none rfl) ?_
 simp only [oo, om, op, og, ci, cl, c110]
 cases hA : wA
 ·have HH1 := zA h85 (zA h113 (zA fc (zA ft (zA rc (zA rt (zA cc1 (zA cc2 (zA ct1 (zA ct2 (zA lc (zA wm (zA h1 (zA h2 (zA h3 (zA fv (zA rv (zA lv (zA cv1 (zA cv2 (zA hE hA))))))))))))))))))))
  refine zS ?_
  refine zR (zO (by simp [zC h85, zC h113, -lenA, HH1]; rfl) ?_)
  simp only [zT, zB]
  refine zS ?_
  refine zR (zO (by simp [zC h85, zC h113, -lenA, HH1]; rfl) ?_)
  simp only [zT, zB]
  refine runs_ret ?_
  simp [zC h85, zC h113, -lenA, HH1]
 ·cases hB : wBb
  ·have HH2 := zA h85 (zA h113 (zA fc (zA ft (zA rc (zA rt (zA cc1 (zA cc2 (zA ct1 (zA ct2 (zA lc (zA wm (zA h1 (zA h2 (zA h3 (zA fv (zA rv (zA lv (zA cv1 (zA cv2 (zA hE (zA hA hB)))))))))))))))))))))
   refine zS ?_
   refine zR (zO (by simp [zC h85, zC h113, -lenA, HH2]; rfl) ?_)
   simp only [zT, zB]
   refine zS ?_
   refine zR (zO (by simp [zC h85, zC h113, -lenA, HH2]; rfl) ?_)
   simp only [zT, zB]
   refine runs_ret ?_
   simp [zC h85, zC h113, -lenA, HH2]
  ·cases hC : wC
   ·have HH3 := zA h85 (zA h113 (zA fc (zA ft (zA rc (zA rt (zA cc1 (zA cc2 (zA ct1 (zA ct2 (zA lc (zA wm (zA h1 (zA h2 (zA h3 (zA fv (zA rv (zA lv (zA cv1 (zA cv2 (zA hE (zA hA (zA hB hC))))))))))))))))))))))
    refine zS ?_
    refine zR (zO (by simp [zC h85, zC h113, -lenA, HH3]; rfl) ?_)
    simp only [zT, zB]
    refine zS ?_
    refine zR (zO (by simp [zC h85, zC h113, -lenA, HH3]; rfl) ?_)
    simp only [zT, zB]
    refine runs_ret ?_
    simp [zC h85, zC h113, -lenA, HH3]
   ·have HH4 := zA h85 (zA h113 (zA fc (zA ft (zA rc (zA rt (zA cc1 (zA cc2 (zA ct1 (zA ct2 (zA lc (zA wm (zA h1 (zA h2 (zA h3 (zA fv (zA rv (zA lv (zA cv1 (zA cv2 (zA hE (zA hA (zA hB hC))))))))))))))))))))))
    refine zS ?_
    refine zR (zO (by simp [zC h85, zC h113, -lenA, HH4]; rfl) ?_)
    simp only [zT, zB]
    refine zS ?_
    refine zR (zO (by simp [zC h85, zC h113, -lenA, HH4]; rfl) ?_)
    simp only [zT, zB]
    refine runs_ret ?_
    simp [zC h85, zC h113, -lenA, HH4]
noncomputable def FA5_80 : Nat → Option CFn := upd FA4 80 true (oStop)
theorem FA5_80_ok : TabOk Tryz.prog GG FA5_80 := tab_add mixed FA4_ok fun args v ho => by
  unfold oStop at ho; split at ho <;> (try simp at ho)
  rename_i m c t a f u
  split at ho <;> (try simp at ho)
  rename_i rsc rst hc ht
  obtain ⟨hm, rfl⟩ := ho
  exact a80 Tryz.prog FA4 rfl rfl rfl m c t rsc rst hc ht hm a f u
noncomputable def FA5 : Nat → Option CFn := upd FA5_80 110 true (oJob)
theorem FA5_ok : TabOk Tryz.prog GG FA5 := tab_add mixed FA5_80_ok fun args v ho => by
  unfold oJob at ho; split at ho <;> (try simp at ho)
  rename_i m c t k r d v
  split at ho <;> (try simp at ho)
  rename_i rsc rst ms hc ht hv
  obtain ⟨hl, rfl⟩ := ho
  exact a110 Tryz.prog FA5_80 rfl rfl rfl m c t rsc rst hc ht k r d v ms hv hl
def oNoRow : List AVal → Option AVal
  | [v, .pv [.int .i64 m, c, t] 0] => match dInts v, rowsV c, rowsV t with
    | some ms, some rc, some _ => if rc.length ≤ 1000 ∧ ms.length ≤ 1000 then some (.bool (!chgOk rc.length ms)) else none
    | _, _, _ => none
  | _ => none
def oNoStop : List AVal → Option AVal
  | [.agg [.int .i64 a, .int .i64 f, .int .i64 u], .pv [.int .i64 m, c, t] 0] => match rowsV c, rowsV t with
    | some _, some _ => if -1000000 ≤ m ∧ m ≤ 1000000 then some (.bool (!stopOk m (a, f, u))) else none
    | _, _ => none
  | _ => none
def oNoJob : List AVal → Option AVal
  | [.agg [.int .i64 k, .int .i64 r, .int .i64 d, v], .pv [.int .i64 m, c, t] 0] => match rowsV c, rowsV t, dInts v with
    | some rc, some _, some ms => if rc.length ≤ 1000 ∧ ms.length ≤ 1000 then some (.bool (!jobOk m rc.length ⟨k, r, d, ms⟩)) else none
    | _, _, _ => none
  | _ => none
theorem a105 (P : Program) (T : Nat → Option CFn) (hT : T 105 = some c105) (h85 : T 85 = some { c85 with frsh := true, orc := oWithin }) (m : Int) (c t : AVal) (rsc rst : List (List AVal)) (hc : rowsV c = some rsc) (ht : rowsV t = some rst) (v : AVal) (ms : List Int) (hv : dInts v = some ms) (hl : rsc.length ≤ 1000 ∧ ms.length ≤ 1000) : Answers P T 105 [v, .pv [I m, c, t] 0] [] fun v h => frz true h 5 v = some (.bool (!chgOk rsc.length ms)) := by
 have fc := fun H d => rowsV_frz hc H d
 have ft := fun H d => rowsV_frz ht H d
 have rc := fun n d => rowsV_rb hc n d
 have rt := fun n d => rowsV_rb ht n d
 have lc := rowsV_len hc
 have lt := rowsV_len ht
 obtain ⟨cc1, cc2⟩ := rowsV_cells hc
 obtain ⟨ct1, ct2⟩ := rowsV_cells ht
 have fv := fun H d => dInts_frz hv H d
 have lv := dInts_len hv
 have h3 := oWithin_eq' 0 500 hv hl.2
 unfold chgOk
 generalize hE : (ms.length == rsc.length) = wA at *
 have hE2 : (((ms.length : Int)) != ((rsc.length : Int))) = !wA := by
  rw [← hE, bne]
  congr 1
  rw [Bool.eq_iff_iff, beq_iff_eq, beq_iff_eq]
  omega
 refine answers_of hT (orcF_none rfl) ?_
 simp only [oo, om, op, og, ci, cl, c105]
 cases hA : wA
 ·have HH1 := zA h85 (zA fc (zA ft (zA rc (zA rt (zA cc1 (zA cc2 (zA ct1 (zA ct2 (zA lc (zA h3 (zA fv (zA lv (zA hE2 hA)))))))))))))
  refine zS ?_
  refine zR (zO (by simp [zC h85, -lenA, HH1]; rfl) ?_)
  simp only [zT, zB]
  refine zS ?_
  refine zR (zO (by simp [zC h85, -lenA, HH1]; rfl) ?_)
  simp only [zT, zB]
  refine runs_ret ?_
  simp [zC h85, -lenA, HH1]
 ·have HH2 := zA h85 (zA fc (zA ft (zA rc (zA rt (zA cc1 (zA cc2 (zA ct1 (zA ct2 (zA lc (zA h3 (zA fv (zA lv (zA hE2 hA)))))))))))))
  refine zS ?_
  refine zR (zO (by simp [zC h85, -lenA, HH2]; rfl) ?_)
  simp only [zT, zB]
  refine zS ?_
  refine zR (zO (by simp [zC h85, -lenA, HH2]; rfl) ?_)
  simp only [zT, zB]
  refine runs_ret ?_
  simp [zC h85, -lenA, HH2]
theorem a107 (P : Program) (T : Nat → Option CFn) (hT : T 107 = some c107) (h80 : T 80 = some { c80 with frsh := true, orc := oStop }) (m : Int) (c t : AVal) (rsc rst : List (List AVal)) (hc : rowsV c = some rsc) (ht : rowsV t = some rst) (hm : -1000000 ≤ m ∧ m ≤ 1000000) (a f u : Int) : Answers P T 107 [.agg [I a, I f, I u], .pv [I m, c, t] 0] [] fun v h => frz true h 5 v = some (.bool (!stopOk m (a, f, u))) := by
 have fc := fun H d => rowsV_frz hc H d
 have ft := fun H d => rowsV_frz ht H d
 have rc := fun n d => rowsV_rb hc n d
 have rt := fun n d => rowsV_rb ht n d
 have lc := rowsV_len hc
 have lt := rowsV_len ht
 obtain ⟨cc1, cc2⟩ := rowsV_cells hc
 obtain ⟨ct1, ct2⟩ := rowsV_cells ht
 refine answers_of hT (orcF_none rfl) ?_
 simp only [oo, om, op, og, ci, cl, c107]
 have HH1 := zA h80 (zA fc (zA ft (zA rc (zA rt (zA cc1 (zA cc2 (zA ct1 (zA ct2 (zA lc (zA hc (zA ht hm)))))))))))
 refine zS ?_
 refine zR (zO (by simp [zC h80, -lenA, oStop, HH1]; rfl) ?_)
 simp only [zT, zB]
 refine zS ?_
 refine zR (zO (by simp [zC h80, -lenA, oStop, HH1]; rfl) ?_)
 simp only [zT, zB]
 refine runs_ret ?_
 simp [zC h80, -lenA, oStop, HH1]
theorem a109 (P : Program) (T : Nat → Option CFn) (hT : T 109 = some c109) (h110 : T 110 = some { c110 with frsh := true, orc := oJob }) (m : Int) (c t : AVal) (rsc rst : List (List AVal)) (hc : rowsV c = some rsc) (ht : rowsV t = some rst) (k r d : Int) (v : AVal) (ms : List Int) (hv : dInts v = some ms) (hl : rsc.length ≤ 1000 ∧ ms.length ≤ 1000) : Answers P T 109 [.agg [I k, I r, I d, v], .pv [I m, c, t] 0] [] fun v h => frz true h 5 v = some (.bool (!jobOk m rsc.length ⟨k, r, d, ms⟩)) := by
 have fc := fun H d => rowsV_frz hc H d
 have ft := fun H d => rowsV_frz ht H d
 have rc := fun n d => rowsV_rb hc n d
 have rt := fun n d => rowsV_rb ht n d
 have lc := rowsV_len hc
 have lt := rowsV_len ht
 obtain ⟨cc1, cc2⟩ := rowsV_cells hc
 obtain ⟨ct1, ct2⟩ := rowsV_cells ht
 have fv := fun H d => dInts_frz hv H d
 have rv := fun n d => dInts_rb hv n d
 obtain ⟨cv1, cv2⟩ := dInts_cells hv
 refine answers_of hT (orcF_none rfl) ?_
 simp only [oo, om, op, og, ci, cl, c109]
 have HH1 := zA h110 (zA fc (zA ft (zA rc (zA rt (zA cc1 (zA cc2 (zA ct1 (zA ct2 (zA lc (zA hc (zA ht (zA hv (zA hl (zA fv (zA rv (zA cv1 cv2))))))))))))))))
 refine zS ?_
 refine zR (zO (by simp [zC h110, -lenA, oJob, HH1]; rfl) ?_)
 simp only [zT, zB]
 refine zS ?_
 refine zR (zO (by simp [zC h110, -lenA, oJob, HH1]; rfl) ?_)
 simp only [zT, zB]
 refine runs_ret ?_
 simp [zC h110, -lenA, oJob, HH1]
noncomputable def FA6_105 : Nat → Option CFn := upd FA5 105 true (oNoRow)
theorem FA6_105_ok : TabOk Tryz.prog GG FA6_105 := tab_add mixed FA5_ok fun args v ho => by
  unfold oNoRow at ho; split at ho <;> (try simp at ho)
  rename_i v m c t
  split at ho <;> (try simp at ho)
  rename_i ms rsc rst hv hc ht
  obtain ⟨hl, rfl⟩ := ho
  exact a105 Tryz.prog FA5 rfl rfl m c t rsc rst hc ht v ms hv hl
noncomputable def FA6_107 : Nat → Option CFn := upd FA6_105 107 true (oNoStop)
theorem FA6_107_ok : TabOk Tryz.prog GG FA6_107 := tab_add mixed FA6_105_ok fun args v ho => by
  unfold oNoStop at ho; split at ho <;> (try simp at ho)
  rename_i a f u m c t
  split at ho <;> (try simp at ho)
  rename_i rsc rst hc ht
  obtain ⟨hm, rfl⟩ := ho
  exact a107 Tryz.prog FA6_105 rfl rfl m c t rsc rst hc ht hm a f u
noncomputable def FA6 : Nat → Option CFn := upd FA6_107 109 true (oNoJob)
theorem FA6_ok : TabOk Tryz.prog GG FA6 := tab_add mixed FA6_107_ok fun args v ho => by
  unfold oNoJob at ho; split at ho <;> (try simp at ho)
  rename_i k r d v m c t
  split at ho <;> (try simp at ho)
  rename_i rsc rst ms hc ht hv
  obtain ⟨hl, rfl⟩ := ho
  exact a109 Tryz.prog FA6_107 rfl rfl m c t rsc rst hc ht k r d v ms hv hl
noncomputable def FA7 : Nat → Option CFn := upd FA6 94 true (oCFg FA6 1)
theorem FA7_ok : TabOk Tryz.prog GG FA7 := tab_add mixed FA6_ok fun args v ho => by
  unfold oCFg at ho; split at ho <;> (try simp at ho)
  rename_i x g a b
  split at ho <;> (try simp at ho)
  rename_i rs hx
  obtain ⟨⟨hl, hr⟩, ho⟩ := ho
  split at ho <;> simp at ho
  rename_i r hq
  subst ho
  refine (a94 Tryz.prog FA6 rfl rfl x rs hx g a b r hl (by simpa using hr) (by simpa using hq)).mono ?_
  rintro v h ⟨rfl, rfl⟩
  rfl
noncomputable def FA8 : Nat → Option CFn := upd FA7 106 true (oCFg FA7 3)
theorem FA8_ok : TabOk Tryz.prog GG FA8 := tab_add mixed FA7_ok fun args v ho => by
  unfold oCFg at ho; split at ho <;> (try simp at ho)
  rename_i x g a b
  split at ho <;> (try simp at ho)
  rename_i rs hx
  obtain ⟨⟨hl, hr⟩, ho⟩ := ho
  split at ho <;> simp at ho
  rename_i r hq
  subst ho
  refine (a106 Tryz.prog FA7 rfl rfl x rs hx g a b r hl (by simpa using hr) (by simpa using hq)).mono ?_
  rintro v h ⟨rfl, rfl⟩
  rfl
noncomputable def FA : Nat → Option CFn := upd FA8 108 true (oCFg FA8 4)
theorem FA_ok : TabOk Tryz.prog GG FA := tab_add mixed FA8_ok fun args v ho => by
  unfold oCFg at ho; split at ho <;> (try simp at ho)
  rename_i x g a b
  split at ho <;> (try simp at ho)
  rename_i rs hx
  obtain ⟨⟨hl, hr⟩, ho⟩ := ho
  split at ho <;> simp at ho
  rename_i r hq
  subst ho
  refine (a108 Tryz.prog FA8 rfl rfl x rs hx g a b r hl (by simpa using hr) (by simpa using hq)).mono ?_
  rintro v h ⟨rfl, rfl⟩
  rfl
end
section
attribute [local simp] callA calleeA lop loud
theorem known_of {T : Nat → Option CFn} {f : Nat} {cf : CFn} {o : List AVal → Option AVal} {args : List AVal} (hT : T f = some { cf with frsh := true, orc := o }) (ha : optAll (frz false [] 5) args = some args) : known T f args = o args := by
  unfold known
  rw [hT]
  simp only [orcF, if_true, ha]
theorem cfRow {m : Int} {c t : AVal} {cs : List (List Int)} {ts : List FStop} (hc : dInts2 c = some cs) (ht : dStops t = some ts) (hl : cs.length ≤ 100 ∧ ∀ l ∈ cs, l.length ≤ 100) : oCFg FA6 1 [c, .fn 105 [] [.pv [I m, c, t] 0]] = some (.bool (!(cs.all (chgOk cs.length)))) := by
  obtain ⟨rsc, h1, h2⟩ := dInts2_rows hc
  have hlen : rsc.length = cs.length := (optAll_at h2).1
  have h := oCFg_any (T := FA6) (s := 1) (g := 105) (a := []) (b := [.pv [I m, c, t] 0]) (p := fun r => match dRow1 r with | some ms => !chgOk cs.length ms | none => false) h1 (by omega)
    (fun r hr => by
      obtain ⟨ms, _, e⟩ := optAll_mem h2 r hr
      obtain ⟨v, rfl, _⟩ := dRow1_eq e
      rfl)
    (fun r hr => by
      obtain ⟨ms, hm, e⟩ := optAll_mem h2 r hr
      obtain ⟨v, rfl, hv⟩ := dRow1_eq e
      have hm2 := hl.2 ms hm
      show known FA6 105 [v, .pv [I m, c, t] 0] = _
      rw [known_of (o := oNoRow) (cf := c105) rfl (by simp [dInts_frz hv])]
      simp only [oNoRow, hv, h1, dStops_rows ht, hlen]
      rw [if_pos (by omega), e])
  rw [h]
  have e := optAll_any (p := fun ms => !chgOk cs.length ms) (q := fun r => match dRow1 r with | some ms => !chgOk cs.length ms | none => false) h2 (fun r x hx => by simp only [hx])
  rw [e, List.not_all_eq_any_not]
theorem cfStop {m : Int} {c t : AVal} {cs : List (List Int)} {ts : List FStop} (hc : dInts2 c = some cs) (ht : dStops t = some ts) (hl : ts.length ≤ 100) (hm : -1000000 ≤ m ∧ m ≤ 1000000) : oCFg FA7 3 [t, .fn 107 [] [.pv [I m, c, t] 0]] = some (.bool (!(ts.all (stopOk m)))) := by
  obtain ⟨rsc, h1, h2⟩ := dInts2_rows hc
  have h3 := dStops_rows ht
  have h := oCFg_any (T := FA7) (s := 3) (g := 107) (a := []) (b := [.pv [I m, c, t] 0]) (p := fun r => match dI3 r with | some x => !stopOk m x | none => false) h3 (by rw [List.length_map]; omega)
    (fun r hr => by
      obtain ⟨x, _, rfl⟩ := List.mem_map.1 hr
      rfl)
    (fun r hr => by
      obtain ⟨x, _, rfl⟩ := List.mem_map.1 hr
      show known FA7 107 [.agg [I x.1, I x.2.1, I x.2.2], .pv [I m, c, t] 0] = _
      rw [known_of (o := oNoStop) (cf := c107) rfl (by simp)]
      simp only [oNoStop, h1, h3]
      rw [if_pos hm]
      rfl)
  rw [h, List.any_map, List.not_all_eq_any_not]
  rfl
theorem cfJob {m : Int} {c t j : AVal} {cs : List (List Int)} {ts : List FStop} {js : List FJob} (hc : dInts2 c = some cs) (ht : dStops t = some ts) (hj : dJobs j = some js) (hl : cs.length ≤ 100 ∧ js.length ≤ 100 ∧ ∀ x ∈ js, x.mins.length ≤ 100) : oCFg FA8 4 [j, .fn 109 [] [.pv [I m, c, t] 0]] = some (.bool (!(js.all (jobOk m cs.length)))) := by
  obtain ⟨rsc, h1, h2⟩ := dInts2_rows hc
  obtain ⟨rsj, h3, h4⟩ := dJobs_rows hj
  have hlen : rsc.length = cs.length := (optAll_at h2).1
  have hlen2 : rsj.length = js.length := (optAll_at h4).1
  have h := oCFg_any (T := FA8) (s := 4) (g := 109) (a := []) (b := [.pv [I m, c, t] 0]) (p := fun r => match dJob r with | some x => !jobOk m cs.length x | none => false) h3 (by omega)
    (fun r hr => by
      obtain ⟨x, _, e⟩ := optAll_mem h4 r hr
      obtain ⟨v, rfl, _⟩ := dJob_eq e
      rfl)
    (fun r hr => by
      obtain ⟨x, hx, e⟩ := optAll_mem h4 r hr
      obtain ⟨v, rfl, hv⟩ := dJob_eq e
      have hm2 := hl.2.2 x hx
      show known FA8 109 [.agg [I x.kind, I x.ready, I x.due, v], .pv [I m, c, t] 0] = _
      rw [known_of (o := oNoJob) (cf := c109) rfl (by simp [dInts_frz hv])]
      simp only [oNoJob, h1, dStops_rows ht, hv, hlen]
      rw [if_pos (by omega), e])
  rw [h]
  have e := optAll_any (p := fun x => !jobOk m cs.length x) (q := fun r => match dJob r with | some x => !jobOk m cs.length x | none => false) h4 (fun r x hx => by simp only [hx])
  rw [e, List.not_all_eq_any_not]
def zWork : AVal := .agg [I 0, .nils, .nils, .nils]
def oOpen : List AVal → Option AVal
  | [.agg [.int .i64 m, c, t], j] => match dInts2 c, dStops t, dJobs j with
    | some cs, some ts, some js => if sizeOk ⟨m, cs, ts⟩ js = true then some (.tup [if shopE ⟨m, cs, ts⟩ js = 0 then .agg [.int .i64 m, c, t, j] else zWork, I (shopE ⟨m, cs, ts⟩ js)]) else none
    | _, _, _ => none
  | _ => none
theorem a70 (P : Program) (T : Nat → Option CFn) (hT : T 70 = some c70) (h85 : T 85 = some { c85 with frsh := true, orc := oWithin }) (h94 : T 94 = some { c94 with frsh := true, orc := oCFg FA6 1 }) (h106 : T 106 = some { c106 with frsh := true, orc := oCFg FA7 3 }) (h108 : T 108 = some { c108 with frsh := true, orc := oCFg FA8 4 }) (s : FShop) (js : List FJob) (c t j : AVal) (hc : dInts2 c = some s.chg) (ht : dStops t = some s.stops) (hj : dJobs j = some js) (hz : SizeOk s js) : Answers P T 70 [.agg [I s.mach, c, t], j] [] fun v h => frz false h 5 v = some (.tup [if shopE s js = 0 then .agg [I s.mach, c, t, j] else zWork, I (shopE s js)]) := by
 have fc := fun H d => dInts2_frz hc H d
 have ft := fun H d => dStops_frz ht H d
 have fj := fun H d => dJobs_frz hj H d
 have rc := fun n d => dInts2_rb hc n d
 have rt := fun n d => dStops_rb ht n d
 have rj := fun n d => dJobs_rb hj n d
 have lc := dInts2_len hc
 have lt := dStops_len ht
 have lj := dJobs_len hj
 obtain ⟨cc1, cc2⟩ := dInts2_cells hc
 obtain ⟨ct1, ct2⟩ := dStops_cells ht
 obtain ⟨cj1, cj2⟩ := dJobs_cells hj
 obtain ⟨z1, z2, z3, z4, z5⟩ := hz
 have k1 : oWithin [I 1, I 4, .vl [[I s.mach]] true] = some (.bool (inI 1 s.mach 4)) := by rw [← wB_one]; rfl
 have k2 : oWithin [I 1, I 4, .vl [[I (s.chg.length : Int)]] true] = some (.bool (inI 1 s.chg.length 4)) := by rw [← wB_one]; rfl
 have k3 := cfRow (m := s.mach) hc ht ⟨z1, z2⟩
 have k5 : inI 1 s.mach 4 = true → oCFg FA7 3 [t, .fn 107 [] [.pv [I s.mach, c, t] 0]] = some (.bool (!(s.stops.all (stopOk s.mach)))) := fun h => cfStop hc ht z3 (by simp only [inI, Bool.and_eq_true, decide_eq_true_eq] at h; omega)
 have k7 := cfJob (m := s.mach) hc ht hj ⟨z1, z4, z5⟩
 unfold shopE zWork
 generalize inI 1 s.mach 4 = b1 at *
 generalize inI 1 (s.chg.length : Int) 4 = b2 at *
 generalize s.chg.all (chgOk s.chg.length) = b3 at *
 generalize s.stops.all (stopOk s.mach) = b5 at *
 generalize js.all (jobOk s.mach s.chg.length) = b7 at *
 refine answers_of hT (orcF_none rfl) ?_
 simp only [oo, om, op, og, ci, cl, c70]
 have HH1 := zA h85 (zA h94 (zA h106 (zA h108 (zA fc (zA ft (zA fj (zA rc (zA rt (zA rj (zA lc (zA lt (zA lj (zA cc1 (zA cc2 (zA ct1 (zA ct2 (zA cj1 (zA cj2 (zA k1 (zA k2 (zA k3 (zA k5 k7))))))))))))))))))))))
 refine zS ?_
 refine zR (zO (by simp [zC h85, zC h94, zC h106, zC h108, -lenA, HH1]; rfl) ?_)
 simp only [zT, zB]
 refine zS ?_
 refine zR (zO (by simp [zC h85, zC h94, zC h106, zC h108, -lenA, HH1]; rfl) ?_)
 simp only [zT, zB]
 refine zS ?_
 refine zL ?_
 refine zS ?_
 refine zS ?_
 refine zR (zO (by simp [zC h85, zC h94, zC h106, zC h108, -lenA, HH1]; rfl) ?_)
 simp only [zT, zB]
 rcases b1 with _ | _
 ·refine runs_cond (x := true) (by simp) ?_
  refine zK ?_
  simp only [zT, zB]
  refine runs_cond (x := true) (by simp) ?_
  refine zS ?_
  refine zR (zO (by simp [zC h85, zC h94, zC h106, zC h108, -lenA, HH1]; rfl) ?_)
  simp only [zT, zB]
  refine runs_ret ?_
  simp [zC h85, zC h94, zC h106, zC h108, -lenA, HH1]
 ·refine runs_cond (x := false) (by simp) ?_
  refine zS ?_
  refine zR (zO (by simp [zC h85, zC h94, zC h106, zC h108, -lenA, HH1]; rfl) ?_)
  simp only [zT, zB]
  rcases b2 with _ | _
  ·refine runs_cond (x := true) (by simp) ?_
   refine zK ?_
   simp only [zT, zB]
   refine runs_cond (x := true) (by simp) ?_
   refine zS ?_
   refine zR (zO (by simp [zC h85, zC h94, zC h106, zC h108, -lenA, HH1]; rfl) ?_)
   simp only [zT, zB]
   refine runs_ret ?_
   simp [zC h85, zC h94, zC h106, zC h108, -lenA, HH1]
  ·refine runs_cond (x := false) (by simp) ?_
   refine zR (zO (by simp [zC h85, zC h94, zC h106, zC h108, -lenA, HH1]; rfl) ?_)
   simp only [zT, zB]
   rcases b3 with _ | _
   ·refine runs_cond (x := true) (by simp) ?_
    refine zS ?_
    refine zR (zO (by simp [zC h85, zC h94, zC h106, zC h108, -lenA, HH1]; rfl) ?_)
    simp only [zT, zB]
    refine runs_ret ?_
    simp [zC h85, zC h94, zC h106, zC h108, -lenA, HH1]
   ·refine runs_cond (x := false) (by simp) ?_
    refine zS ?_
    refine zR (zO (by simp [zC h85, zC h94, zC h106, zC h108, -lenA, HH1]; rfl) ?_)
    simp only [zT, zB]
    by_cases h4 : 10 < s.stops.length
    ·refine runs_cond (x := true) (by simp; omega) ?_
     refine zS ?_
     refine zR (zO (by simp [zC h85, zC h94, zC h106, zC h108, -lenA, HH1, h4]; rfl) ?_)
     simp only [zT, zB]
     refine runs_ret ?_
     simp [zC h85, zC h94, zC h106, zC h108, -lenA, HH1, h4]
    ·refine runs_cond (x := false) (by simp; omega) ?_
     refine zS ?_
     refine zR (zO (by simp [zC h85, zC h94, zC h106, zC h108, -lenA, HH1, h4]; rfl) ?_)
     simp only [zT, zB]
     rcases b5 with _ | _
     ·refine runs_cond (x := true) (by simp) ?_
      refine zS ?_
      refine zR (zO (by simp [zC h85, zC h94, zC h106, zC h108, -lenA, HH1, h4]; rfl) ?_)
      simp only [zT, zB]
      refine runs_ret ?_
      simp [zC h85, zC h94, zC h106, zC h108, -lenA, HH1, h4]
     ·refine runs_cond (x := false) (by simp) ?_
      refine zS ?_
      refine zR (zO (by simp [zC h85, zC h94, zC h106, zC h108, -lenA, HH1, h4]; rfl) ?_)
      simp only [zT, zB]
      by_cases h6 : 6 < js.length
      ·refine runs_cond (x := true) (by simp [h6]; omega) ?_
       refine zS ?_
       refine zR (zO (by simp [zC h85, zC h94, zC h106, zC h108, -lenA, HH1, h4, h6]; rfl) ?_)
       simp only [zT, zB]
       refine runs_ret ?_
       simp [zC h85, zC h94, zC h106, zC h108, -lenA, HH1, h4, h6]
      ·refine runs_cond (x := false) (by simp [h6]; omega) ?_
       refine zS ?_
       refine zR (zO (by simp [zC h85, zC h94, zC h106, zC h108, -lenA, HH1, h4, h6]; rfl) ?_)
       simp only [zT, zB]
       rcases b7 with _ | _
       ·refine runs_cond (x := true) (by simp) ?_
        refine zS ?_
        refine zR (zO (by simp [zC h85, zC h94, zC h106, zC h108, -lenA, HH1, h4, h6]; rfl) ?_)
        simp only [zT, zB]
        refine runs_ret ?_
        simp [zC h85, zC h94, zC h106, zC h108, -lenA, HH1, h4, h6]
       ·refine runs_cond (x := false) (by simp) ?_
        refine zK ?_
        simp only [zT, zB]
        refine zS ?_
        refine zR (zO (by simp [zC h85, zC h94, zC h106, zC h108, -lenA, HH1, h4, h6]; rfl) ?_)
        simp only [zT, zB]
        refine runs_ret ?_
        simp [zC h85, zC h94, zC h106, zC h108, -lenA, HH1, h4, h6]
noncomputable def FB1 : Nat → Option CFn := upd FA 70 false (oOpen)
theorem FB1_ok : TabOk Tryz.prog GG FB1 := tab_add mixed FA_ok fun args v ho => by
  unfold oOpen at ho; split at ho <;> (try simp only [reduceCtorEq] at ho)
  rename_i m c t j
  split at ho <;> (try simp only [reduceCtorEq] at ho)
  rename_i cs ts js hc ht hj
  split at ho <;> (try simp only [reduceCtorEq] at ho)
  rename_i hz
  simp only [Option.some.injEq] at ho
  subst ho
  exact a70 Tryz.prog FA rfl rfl rfl rfl rfl ⟨m, cs, ts⟩ js c t j hc ht hj (size_ok.1 hz)
def oCheck : List AVal → Option AVal
  | [.agg [.int .i64 m, c, t], j] => match dInts2 c, dStops t, dJobs j with
    | some cs, some ts, some js => if sizeOk ⟨m, cs, ts⟩ js = true then some (I (shopE ⟨m, cs, ts⟩ js)) else none
    | _, _, _ => none
  | _ => none
theorem open_eq {s : FShop} {js : List FJob} {c t j : AVal} (hc : dInts2 c = some s.chg) (ht : dStops t = some s.stops) (hj : dJobs j = some js) (hz : SizeOk s js) : oOpen [.agg [I s.mach, c, t], j] = some (.tup [if shopE s js = 0 then .agg [I s.mach, c, t, j] else zWork, I (shopE s js)]) := by
  simp only [oOpen, hc, ht, hj]
  rw [if_pos (size_ok.2 hz)]
theorem check_eq {s : FShop} {js : List FJob} {c t j : AVal} (hc : dInts2 c = some s.chg) (ht : dStops t = some s.stops) (hj : dJobs j = some js) (hz : SizeOk s js) : oCheck [.agg [I s.mach, c, t], j] = some (I (shopE s js)) := by
  simp only [oCheck, hc, ht, hj]
  rw [if_pos (size_ok.2 hz)]
noncomputable def FB : Nat → Option CFn := FB1
theorem FB_ok : TabOk Tryz.prog GG FB := FB1_ok
end
end
end Go.Proofs.YtjjapdagllclkaaGreat.Tab
