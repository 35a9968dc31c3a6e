/- Contracts of flow: sorting integers. No condition. -/
import Derived.Test.YtjjapdagllclkaaGreatChecked
import Derived.Shelf.Sort.Plain
import Derived.Test.YtjjapdagllclkaaGreatProg
import Derived.Test.YtjjapdagllclkaaGreatPzBFl
set_option linter.unusedSimpArgs false
set_option linter.unusedVariables false
set_option maxRecDepth 100000
namespace Go.Proofs.YtjjapdagllclkaaGreat.Tab
open Go Go.Abs
noncomputable section
def c57 : CFn := ⟨(.seq (.reg [oo 2 (.new [(.int .i64 (0)), .nils, .nils])]) (.seq (.reg [oo 3 (.bsl 1 2 [(.int .i64 (0))] [(0, (ci 0)), (1, (ci 10))]), oo 4 (.bsl 1 2 [(.int .i64 (0))] [(0, (ci 20)), (1, (ci 0))]), oo 5 (.bsl 1 2 [.nils] [(0, (.t 3)), (1, (.t 4))]), om 6 0, oo 7 (.bld [(.int .i64 (0)), .nils, .nils] [(0, (1, (ci 2))), (1, (1, (.t 5))), (2, (1, (.t 6)))]), ⟨none, (.st 3 (.t 2) (.t 7)), none, []⟩]) .ret)), 8, [(.ldn 3 2)], false, fun _ => none, fun _ _ => none⟩
def c58 : CFn := ⟨(.seq (.reg [oo 2 (.mv (.c .nils))]) (.seq (.reg [oo 3 (.bsl 1 2 [(.int .i64 (0))] [(0, (ci 30)), (1, (ci 40))]), oo 4 (.bld [(.int .i64 (0)), (.int .i64 (0)), (.int .i64 (0)), .nils] [(2, (1, (ci 100))), (3, (1, (.t 3)))]), om 5 0, oo 6 (.bsl 1 2 [(.int .i64 (0))] [(0, (ci 20)), (1, (ci 20))]), oo 7 (.bld [(.int .i64 (0)), (.int .i64 (0)), (.int .i64 (0)), .nils] [(0, (1, (ci 1))), (2, (1, (.t 5))), (3, (1, (.t 6)))]), oo 8 (.bsl 1 2 [(.int .i64 (0))] [(0, (ci 10)), (1, (ci 0))]), oo 9 (.bld [(.int .i64 (0)), (.int .i64 (0)), (.int .i64 (0)), .nils] [(1, (1, (ci 15))), (2, (1, (ci 130))), (3, (1, (.t 8)))]), oo 10 (.bsl 4 3 [(.int .i64 (0)), (.int .i64 (0)), (.int .i64 (0)), .nils] [(0, (.t 4)), (1, (.t 7)), (2, (.t 9))]), om 2 10]) .ret)), 11, [(.tmp 2)], false, fun _ => none, fun _ _ => none⟩
def c59 : CFn := ⟨(.seq (.reg [oo 1 (.box (.t 0)), oo 2 (.new [(.int .i64 (0)), .nils, .nils])]) (.seq (.drw [oo 5 (.fa 0 (.t 1)), oo 6 (.ld (.t 5)), op 7 (.bsl 3 0 [(.int .i64 (0)), (.int .i64 (0)), (.int .i64 (0))] []) [0, 1], op 8 (.fa 2 (.t 1)) [0, 1, 2], op 9 (.ld (.t 8)) [0, 1, 2], op 10 (.app 3 (.t 7) (.t 9)) [0, 1], oo 11 (.bld [(.int .i64 (0)), .nils, .nils] [(0, (1, (.t 6))), (2, (1, (.t 10)))]), op 3 (.new [(.int .i64 (0)), .nils, .nils]) [0, 1, 2, 3, 4, 5, 6], ⟨none, (.st 3 (.t 3) (.t 11)), none, []⟩]) (.seq (.seq (.reg [oo 4 (.mv (ci 0))]) (.block 0 (.loop 30 (.seq (.seq (.reg [om 12 4, oo 13 (.fa 1 (.t 1)), oo 14 (.ld (.t 13)), oo 15 (.len (.t 14)), oo 16 (.ar .lss (.t 12) (.t 15))]) (.cond (.t 16) .skip (.exit 0))) (.seq (.block 1 (.drw [oo 19 (.fa 1 (.t 3)), oo 20 (.ld (.t 19)), op 21 (.bsl 1 0 [(.int .i64 (0))] []) [0, 1], op 22 (.fa 1 (.t 1)) [0, 1, 2], op 23 (.ld (.t 22)) [0, 1, 2], op 24 (.mv (.t 4)) [0, 1, 2, 3, 4], op 25 (.ias 1 (.t 23) (.t 24)) [0, 1, 2], op 26 (.ld (.t 25)) [0, 1, 2], op 27 (.app 1 (.t 21) (.t 26)) [0, 1], op 28 (.bsl 1 1 [.nils] [(0, (.t 27))]) [0, 1], oo 29 (.app 1 (.t 20) (.t 28)), oo 30 (.fa 1 (.t 3)), ⟨none, (.st 1 (.t 30) (.t 29)), none, []⟩])) (.reg [om 17 4, oo 18 (.ar .add (.t 17) (ci 1)), om 4 18])))))) (.seq (.reg [oo 31 (.ldn 3 (.t 3)), ⟨none, (.st 3 (.t 2) (.t 31)), none, []⟩]) .ret)))), 32, [(.ldn 3 2)], false, fun _ => none, fun _ _ => none⟩
def c60 : CFn := ⟨(.seq (.reg [oo 2 (.mv (.c .nils))]) (.seq (.reg [oo 6 (.bsl 4 0 [(.int .i64 (0)), (.int .i64 (0)), (.int .i64 (0)), .nils] []), om 3 6]) (.seq (.seq (.reg [oo 4 (.mv (ci 0))]) (.block 0 (.loop 25 (.seq (.seq (.reg [om 7 4, om 8 0, oo 9 (.len (.t 8)), oo 10 (.ar .lss (.t 7) (.t 9))]) (.cond (.t 10) .skip (.exit 0))) (.seq (.block 1 (.seq (.reg [om 13 0, om 14 4, oo 15 (.ias 4 (.t 13) (.t 14)), oo 16 (.ldn 4 (.t 15)), oo 5 (.new [(.int .i64 (0)), (.int .i64 (0)), (.int .i64 (0)), .nils]), ⟨none, (.st 4 (.t 5) (.t 16)), none, []⟩]) (.seq (.reg [oo 17 (.bsl 1 0 [(.int .i64 (0))] []), oo 18 (.fa 3 (.t 5)), oo 19 (.ld (.t 18)), oo 20 (.app 1 (.t 17) (.t 19)), oo 21 (.fa 3 (.t 5)), ⟨none, (.st 1 (.t 21) (.t 20)), none, []⟩]) (.reg [om 22 3, oo 23 (.ldn 4 (.t 5)), oo 24 (.bsl 4 1 [(.int .i64 (0)), (.int .i64 (0)), (.int .i64 (0)), .nils] [(0, (.t 23))]), oo 25 (.app 4 (.t 22) (.t 24)), om 3 25])))) (.reg [om 11 4, oo 12 (.ar .add (.t 11) (ci 1)), om 4 12])))))) (.seq (.reg [om 26 3, om 2 26]) .ret)))), 27, [(.tmp 2)], false, fun _ => none, fun _ _ => none⟩
def c61 : CFn := ⟨(.seq (.reg [oo 3 (.box (.t 0)), oo 6 (.new [(.int .i64 (0)), .nils, .nils, .nils]), oo 7 (.mv (ci 0))]) (.seq (.reg [oo 13 (.ldn 3 (.t 3)), om 14 1, oo 15 (cl 70 [(.t 13), (.t 14)]), om 12 15, oo 16 (.ext 0 (.t 12)), oo 17 (.ext 1 (.t 12)), oo 8 (.new [(.int .i64 (0)), .nils, .nils, .nils]), ⟨none, (.st 4 (.t 8) (.t 16)), none, []⟩, om 9 17]) (.seq (.seq (.reg [om 18 9, oo 19 (.ar .neq (.t 18) (ci 0))]) (.cond (.t 19) (.seq (.reg [oo 20 (.ldn 4 (.t 8)), om 21 9, ⟨none, (.st 4 (.t 6) (.t 20)), none, []⟩, om 7 21]) .ret) .skip)) (.seq (.seq (.reg [om 22 2, oo 23 (cl 101 [(.t 22)]), oo 24 (cl 100 [(.t 23)]), oo 25 (.len (.t 24)), oo 26 (.mv (ci 0))]) (.block 0 (.loop 117440838 (.seq (.reg [oo 27 (.ar .lss (.t 26) (.t 25))]) (.seq (.cond (.t 27) .skip (.exit 0)) (.seq (.block 1 (.seq (.reg [om 28 26, oo 29 (.ias 1 (.t 24) (.t 26)), oo 30 (.ld (.t 29)), om 10 28, om 11 30]) (.seq (.reg [om 31 11, om 32 10, oo 33 (.ar .neq (.t 31) (.t 32))]) (.cond (.t 33) (.seq (.reg [oo 34 (.ldn 4 (.t 8)), ⟨none, (.st 4 (.t 6) (.t 34)), none, []⟩, oo 7 (.mv (ci 6))]) .ret) .skip)))) (.reg [oo 35 (.ar .add (.t 26) (ci 1)), om 26 35]))))))) (.seq (.seq (.reg [om 36 2, oo 37 (.len (.t 36)), om 38 1, oo 39 (.len (.t 38)), oo 40 (.ar .neq (.t 37) (.t 39))]) (.cond (.t 40) (.seq (.reg [oo 41 (.ldn 4 (.t 8)), ⟨none, (.st 4 (.t 6) (.t 41)), none, []⟩, oo 7 (.mv (ci 6))]) .ret) .skip)) (.seq (.reg [oo 42 (.ldn 4 (.t 8)), ⟨none, (.st 4 (.t 6) (.t 42)), none, []⟩, oo 7 (.mv (ci 0))]) .ret)))))), 43, [(.ldn 4 6), (.tmp 7)], false, fun _ => none, fun _ _ => none⟩
def c62 : CFn := ⟨(.seq (.reg [oo 2 (.box (.t 0)), oo 4 (.new [.nils, .nils])]) (.seq (.drw [oo 9 (.fa 3 (.t 2)), oo 10 (.ld (.t 9)), oo 11 (.len (.t 10)), oo 12 (.mks 1 [.nils] (.t 11) (.t 11)), op 13 (.fa 3 (.t 2)) [0, 1, 2, 3], op 14 (.ld (.t 13)) [0, 1, 2, 3], op 15 (.len (.t 14)) [0, 1, 2, 3], op 16 (.mks 1 [(.int .i64 (0))] (.t 15) (.t 15)) [0, 1, 2, 3], oo 17 (.bld [.nils, .nils] [(0, (1, (.t 12))), (1, (1, (.t 16)))]), op 5 (.new [.nils, .nils]) [0, 1, 2, 3, 4, 5, 6, 7, 8], ⟨none, (.st 2 (.t 5) (.t 17)), none, []⟩]) (.seq (.reg [oo 6 (.new [(.int .i64 (0)), (.int .i64 (0)), (.bool false), (.int .i64 (0)), (.int .i64 (0)), (.bool false), (.int .i64 (0)), (.int .i64 (0)), (.bool false), (.int .i64 (0)), (.int .i64 (0)), (.bool false)])]) (.seq (.seq (.reg [om 18 1, oo 19 (.len (.t 18)), oo 20 (.mv (ci 0))]) (.block 0 (.loop 1835124 (.seq (.reg [oo 21 (.ar .lss (.t 20) (.t 19))]) (.seq (.cond (.t 21) .skip (.exit 0)) (.seq (.block 1 (.seq (.reg [oo 22 (.ias 1 (.t 18) (.t 20)), oo 23 (.ld (.t 22)), om 8 23]) (.drw [oo 25 (.fa 0 (.t 5)), oo 26 (.ld (.t 25)), op 27 (.mv (.t 8)) [0, 1], op 28 (.fa 1 (.t 5)) [0, 1, 2], op 29 (.ld (.t 28)) [0, 1, 2], op 30 (.mv (.t 8)) [0, 1, 2, 3, 4], op 31 (.ldn 4 (.t 2)) [0, 1, 2, 3, 4, 5], op 32 (.fa 3 (.t 2)) [0, 1, 2, 3, 4, 5, 6], op 33 (.ld (.t 32)) [0, 1, 2, 3, 4, 5, 6], op 34 (.mv (.t 8)) [0, 1, 2, 3, 4, 5, 6, 7, 8], op 35 (.ias 4 (.t 33) (.t 34)) [0, 1, 2, 3, 4, 5, 6], op 36 (.ldn 4 (.t 35)) [0, 1, 2, 3, 4, 5, 6], op 37 (cl 102 [(.t 31), (.t 6), (.t 36)]) [0, 1, 2, 3, 4, 5], op 24 (.mv (.t 37)) [0, 1, 2, 3, 4, 5], op 38 (.ext 0 (.t 24)) [0, 1, 2, 3, 4, 5], op 39 (.ext 1 (.t 24)) [0, 1, 2, 3, 4, 5, 14], op 40 (.ias 1 (.t 26) (.t 27)) [3, 4, 5, 15], ⟨none, (.st 1 (.t 40) (.t 38)), none, [3, 4, 5, 15]⟩, oo 41 (.ias 1 (.t 29) (.t 30)), ⟨none, (.st 1 (.t 41) (.t 39)), none, []⟩]))) (.reg [oo 42 (.ar .add (.t 20) (ci 1)), om 20 42]))))))) (.seq (.reg [oo 43 (.ldn 2 (.t 5)), ⟨none, (.st 2 (.t 4) (.t 43)), none, []⟩]) .ret))))), 44, [(.ldn 2 4)], false, fun _ => none, fun _ _ => none⟩
def c63 : CFn := ⟨(.seq (.reg [oo 3 (.box (.t 0)), oo 4 (.box (.t 1)), oo 6 (.new [(.int .i64 (0)), (.int .i64 (0))])]) (.seq (.reg [oo 7 (.fa 0 (.t 3)), oo 8 (.ld (.t 7)), om 9 2, oo 10 (.fa 2 (.t 4)), oo 11 (.ld (.t 10)), oo 12 (.ar .sub (.t 9) (.t 11)), oo 13 (.mx [(ci 0), (.t 12)]), oo 14 (.ar .add (.t 8) (.t 13)), oo 15 (.fa 1 (.t 3)), oo 16 (.ld (.t 15)), om 17 2, oo 18 (.mx [(.t 16), (.t 17)]), oo 19 (.bld [(.int .i64 (0)), (.int .i64 (0))] [(0, (1, (.t 14))), (1, (1, (.t 18)))]), ⟨none, (.st 2 (.t 6) (.t 19)), none, []⟩]) .ret)), 20, [(.ldn 2 6)], false, fun _ => none, fun _ _ => none⟩
def c64 : CFn := ⟨(.seq (.reg [oo 2 (.box (.t 0)), oo 4 (.mv (.c .nils))]) (.seq (.seq (.reg [oo 7 (.ldn 4 (.t 2)), om 8 1, oo 9 (cl 62 [(.t 7), (.t 8)]), oo 10 (.part 1 (.t 9)), oo 11 (.len (.t 10)), oo 12 (.mv (ci 0))]) (.block 0 (.loop 7188 (.seq (.reg [oo 13 (.ar .lss (.t 12) (.t 11))]) (.seq (.cond (.t 13) .skip (.exit 0)) (.seq (.block 1 (.seq (.reg [om 14 12, oo 15 (.ias 1 (.t 10) (.t 12)), oo 16 (.ld (.t 15)), om 5 14, om 6 16]) (.seq (.reg [om 17 6, oo 18 (.fa 3 (.t 2)), oo 19 (.ld (.t 18)), om 20 5, oo 21 (.ias 4 (.t 19) (.t 20)), oo 22 (.fa 2 (.t 21)), oo 23 (.ld (.t 22)), oo 24 (.ar .gtr (.t 17) (.t 23))]) (.cond (.t 24) (.reg [om 25 4, om 26 5, oo 27 (.bsl 1 1 [(.int .i64 (0))] [(0, (.t 26))]), oo 28 (.app 1 (.t 25) (.t 27)), om 4 28]) .skip)))) (.reg [oo 29 (.ar .add (.t 12) (ci 1)), om 12 29]))))))) (.seq (.reg [om 30 4, om 4 30]) .ret))), 31, [(.tmp 4)], false, fun _ => none, fun _ _ => none⟩
def c65 : CFn := ⟨(.seq (.reg [om 5 0, oo 6 (.len (.t 5)), om 4 6]) (.reg [om 7 0, om 8 4, om 9 4, oo 10 (.conv .u64 (.t 9)), oo 11 (cl 104 [(.t 10)]), om 12 1, oo 13 (cl 103 [(.t 7), (ci 0), (.t 8), (.t 11), (.t 12)])])), 14, [], false, fun _ => none, fun _ _ => none⟩
def c66 : CFn := ⟨(.seq (.reg [oo 2 (.box (.t 0)), oo 3 (.box (.t 1)), oo 4 (.mv (ci 0))]) (.seq (.reg [oo 5 (.fa 0 (.t 2)), oo 6 (.ld (.t 5)), oo 7 (.fa 0 (.t 3)), oo 8 (.ld (.t 7)), oo 9 (.ar .sub (.t 6) (.t 8)), oo 10 (.fa 1 (.t 2)), oo 11 (.ld (.t 10)), oo 12 (.fa 1 (.t 3)), oo 13 (.ld (.t 12)), oo 14 (.ar .sub (.t 11) (.t 13)), oo 15 (.bsl 1 2 [(.int .i64 (0))] [(0, (.t 9)), (1, (.t 14))]), oo 16 (cl 67 [(.t 15)]), om 4 16]) .ret)), 17, [(.tmp 4)], false, fun _ => none, fun _ _ => none⟩
def c67 : CFn := ⟨(.seq (.reg [oo 2 (.mv (ci 0))]) (.seq (.reg [oo 3 (.mv (ci 0))]) (.seq (.seq (.reg [om 6 0, oo 7 (.len (.t 6)), oo 8 (.mv (ci 0))]) (.block 0 (.loop 456 (.seq (.reg [oo 9 (.ar .lss (.t 8) (.t 7))]) (.seq (.cond (.t 9) .skip (.exit 0)) (.seq (.block 1 (.seq (.reg [oo 10 (.ias 1 (.t 6) (.t 8)), oo 11 (.ld (.t 10)), om 5 11]) (.seq (.reg [om 12 5, om 13 3, oo 14 (.ar .neq (.t 12) (.t 13))]) (.cond (.t 14) (.seq (.reg [om 15 5, om 2 15]) .ret) .skip)))) (.reg [oo 16 (.ar .add (.t 8) (ci 1)), om 8 16]))))))) (.seq (.reg [om 17 3, om 2 17]) .ret)))), 18, [(.tmp 2)], false, fun _ => none, fun _ _ => none⟩
def c70 : CFn := ⟨(.seq (.reg [oo 2 (.box (.t 0)), oo 4 (.new [(.int .i64 (0)), .nils, .nils, .nils]), oo 5 (.mv (ci 0))]) (.seq (.reg [oo 7 (.mkf 105 [] [(.t 2)]), om 6 7]) (.seq (.block 0 (.seq (.seq (.reg [oo 9 (.fa 0 (.t 2)), oo 10 (.ld (.t 9)), oo 11 (.bsl 1 1 [(.int .i64 (0))] [(0, (.t 10))]), oo 12 (cl 85 [(ci 1), (ci 4), (.t 11)]), oo 13 (.un .not (.t 12)), om 8 13]) (.cond (.t 8) .skip (.seq (.reg [oo 14 (.fa 1 (.t 2)), oo 15 (.ld (.t 14)), oo 16 (.len (.t 15)), oo 17 (.bsl 1 1 [(.int .i64 (0))] [(0, (.t 16))]), oo 18 (cl 85 [(ci 1), (ci 4), (.t 17)]), oo 19 (.un .not (.t 18)), om 8 19]) (.cond (.t 8) .skip (.reg [oo 20 (.fa 1 (.t 2)), oo 21 (.ld (.t 20)), om 22 6, oo 23 (cl 94 [(.t 21), (.t 22)]), om 8 23]))))) (.cond (.t 8) (.seq (.reg [oo 24 (.ldn 4 (.t 4)), ⟨none, (.st 4 (.t 4) (.t 24)), none, []⟩, oo 5 (.mv (ci 2))]) .ret) (.seq (.reg [oo 26 (.fa 2 (.t 2)), oo 27 (.ld (.t 26)), oo 28 (.len (.t 27)), oo 29 (.ar .gtr (.t 28) (ci 10)), om 25 29]) (.cond (.t 25) (.seq (.reg [oo 30 (.ldn 4 (.t 4)), ⟨none, (.st 4 (.t 4) (.t 30)), none, []⟩, oo 5 (.mv (ci 5))]) .ret) (.seq (.reg [oo 32 (.fa 2 (.t 2)), oo 33 (.ld (.t 32)), oo 34 (.mkf 107 [] [(.t 2)]), oo 35 (cl 106 [(.t 33), (.t 34)]), om 31 35]) (.cond (.t 31) (.seq (.reg [oo 36 (.ldn 4 (.t 4)), ⟨none, (.st 4 (.t 4) (.t 36)), none, []⟩, oo 5 (.mv (ci 3))]) .ret) (.seq (.reg [om 38 1, oo 39 (.len (.t 38)), oo 40 (.ar .gtr (.t 39) (ci 6)), om 37 40]) (.cond (.t 37) (.seq (.reg [oo 41 (.ldn 4 (.t 4)), ⟨none, (.st 4 (.t 4) (.t 41)), none, []⟩, oo 5 (.mv (ci 8))]) .ret) (.seq (.reg [om 43 1, oo 44 (.mkf 109 [] [(.t 2)]), oo 45 (cl 108 [(.t 43), (.t 44)]), om 42 45]) (.cond (.t 42) (.seq (.reg [oo 46 (.ldn 4 (.t 4)), ⟨none, (.st 4 (.t 4) (.t 46)), none, []⟩, oo 5 (.mv (ci 4))]) .ret) .skip))))))))))) (.seq (.reg [oo 47 (.ldn 3 (.t 2)), om 48 1, oo 49 (.bld [(.int .i64 (0)), .nils, .nils, .nils] [(0, (3, (.t 47))), (3, (1, (.t 48)))]), ⟨none, (.st 4 (.t 4) (.t 49)), none, []⟩, oo 5 (.mv (ci 0))]) .ret)))), 50, [(.ldn 4 4), (.tmp 5)], false, fun _ => none, fun _ _ => none⟩
def c71 : CFn := ⟨(.seq (.reg [oo 1 (.box (.t 0)), oo 2 (.mv (.c .nils)), oo 3 (.new [(.int .i64 (0)), (.int .i64 (0))])]) (.seq (.reg [oo 5 (.ldn 4 (.t 1)), oo 6 (.bld [(.int .i64 (0)), .nils, .nils, .nils, .nils, (.int .i64 (0)), (.int .i64 (0)), (.bool false)] [(0, (4, (.t 5)))]), oo 7 (.box (.t 6)), om 4 7]) (.seq (.reg [om 8 4, oo 9 (.bld [(.int .i64 (0)), (.int .i64 (0)), (.bool false), (.int .i64 (0)), (.int .i64 (0)), (.bool false), (.int .i64 (0)), (.int .i64 (0)), (.bool false), (.int .i64 (0)), (.int .i64 (0)), (.bool false)] []), oo 10 (.bld [(.int .i64 (0)), (.int .i64 (0))] []), oo 11 (cl 111 [(.t 8), (.c .nils), (.t 9), (.t 10)])]) (.seq (.drw [om 12 4, oo 13 (.chk (.t 12)), oo 14 (.fa 4 (.t 13)), oo 15 (.ld (.t 14)), op 16 (.mv (.t 4)) [0, 1, 2, 3], op 17 (.chk (.t 16)) [0, 1, 2, 3], op 18 (.fa 5 (.t 17)) [0, 1, 2, 3], op 19 (.ldn 2 (.t 18)) [0, 1, 2, 3], op 2 (.mv (.t 15)) [4, 5, 6, 7], ⟨none, (.st 2 (.t 3) (.t 19)), none, []⟩]) .ret)))), 20, [(.tmp 2), (.ldn 2 3)], false, fun _ => none, fun _ _ => none⟩
def c72 : CFn := ⟨(.seq (.reg [oo 2 (.mv (ci 0))]) (.seq (.seq (.reg [om 5 0, oo 6 (.len (.t 5)), oo 7 (.mv (ci 0))]) (.block 0 (.loop 228 (.seq (.reg [oo 8 (.ar .lss (.t 7) (.t 6))]) (.seq (.cond (.t 8) .skip (.exit 0)) (.seq (.block 1 (.seq (.reg [oo 9 (.ias 1 (.t 5) (.t 7)), oo 10 (.ld (.t 9)), om 4 10]) (.reg [om 11 2, om 12 4, oo 13 (.ar .add (.t 11) (.t 12)), om 2 13]))) (.reg [oo 14 (.ar .add (.t 7) (ci 1)), om 7 14]))))))) (.seq (.reg [om 15 2, om 2 15]) .ret))), 16, [(.tmp 2)], false, fun _ => none, fun _ _ => none⟩
def c74 : CFn := ⟨(.seq (.reg [oo 2 (.box (.t 0)), oo 4 (.new [(.int .i64 (0)), .nils, .nils, .nils]), oo 5 (.mv (.c .nils))]) (.seq (.reg [oo 8 (.fa 0 (.t 2)), oo 9 (.ldn 3 (.t 8)), oo 10 (.bld [(.int .i64 (0)), .nils, .nils, .nils] [(0, (3, (.t 9)))]), ⟨none, (.st 4 (.t 4) (.t 10)), none, []⟩]) (.seq (.seq (.reg [oo 11 (.fa 3 (.t 2)), oo 12 (.ld (.t 11)), oo 13 (.len (.t 12)), oo 14 (.mv (ci 0))]) (.block 0 (.loop 28722 (.seq (.reg [oo 15 (.ar .lss (.t 14) (.t 13))]) (.seq (.cond (.t 15) .skip (.exit 0)) (.seq (.block 1 (.seq (.reg [om 16 14, oo 17 (.ias 4 (.t 12) (.t 14)), oo 18 (.ldn 4 (.t 17)), oo 7 (.new [(.int .i64 (0)), (.int .i64 (0)), (.int .i64 (0)), .nils]), om 6 16, ⟨none, (.st 4 (.t 7) (.t 18)), none, []⟩]) (.seq (.reg [om 19 1, om 20 6, oo 21 (.sh .shr (.t 19) (.t 20)), oo 22 (.ar .and (.t 21) (ci 1)), oo 23 (.ar .eql (.t 22) (ci 1))]) (.cond (.t 23) (.reg [oo 24 (.fa 3 (.t 4)), oo 25 (.ld (.t 24)), oo 26 (.ldn 4 (.t 7)), oo 27 (.bsl 4 1 [(.int .i64 (0)), (.int .i64 (0)), (.int .i64 (0)), .nils] [(0, (.t 26))]), oo 28 (.app 4 (.t 25) (.t 27)), om 29 5, om 30 6, oo 31 (.bsl 1 1 [(.int .i64 (0))] [(0, (.t 30))]), oo 32 (.app 1 (.t 29) (.t 31)), oo 33 (.fa 3 (.t 4)), ⟨none, (.st 1 (.t 33) (.t 28)), none, []⟩, om 5 32]) .skip)))) (.reg [oo 34 (.ar .add (.t 14) (ci 1)), om 14 34]))))))) (.seq (.reg [oo 35 (.ldn 4 (.t 4)), om 36 5, ⟨none, (.st 4 (.t 4) (.t 35)), none, []⟩, om 5 36]) .ret)))), 37, [(.ldn 4 4), (.tmp 5)], false, fun _ => none, fun _ _ => none⟩
def c75 : CFn := ⟨(.seq (.reg [oo 4 (.mv (.c .nils))]) (.seq (.seq (.reg [om 7 0, oo 8 (.len (.t 7)), oo 9 (.ar .lss (.t 8) (ci 1))]) (.cond (.t 9) (.reg [oo 10 (.ld (.c (.bool false))), ⟨none, (.ld (.c (.bool false))), none, []⟩]) .skip)) (.seq (.reg [om 11 0, oo 12 (.ias 1 (.t 11) (ci 0)), oo 13 (.ld (.t 12)), om 5 13]) (.seq (.seq (.reg [oo 6 (.mv (ci 1))]) (.block 0 (.loop 99 (.seq (.seq (.reg [om 14 6, om 15 0, oo 16 (.len (.t 15)), oo 17 (.ar .lss (.t 14) (.t 16))]) (.cond (.t 17) .skip (.exit 0))) (.seq (.block 1 (.seq (.reg [om 20 1, om 21 0, om 22 6, oo 23 (.ias 1 (.t 21) (.t 22)), oo 24 (.ld (.t 23)), om 25 5, oo 26 (.call (.t 20) [(.t 24), (.t 25)]), oo 27 (.ar .lss (.t 26) (ci 0))]) (.cond (.t 27) (.reg [om 28 0, om 29 6, oo 30 (.ias 1 (.t 28) (.t 29)), oo 31 (.ld (.t 30)), om 5 31]) .skip))) (.reg [om 18 6, oo 19 (.ar .add (.t 18) (ci 1)), om 6 19])))))) (.seq (.reg [om 32 5, om 4 32]) .ret))))), 33, [(.tmp 4)], false, fun _ => none, fun _ _ => none⟩
def c76 : CFn := ⟨(.seq (.reg [oo 4 (.mv (ci 0))]) (.seq (.reg [om 5 0, oo 6 (.len (.t 5)), om 7 1, oo 8 (.len (.t 7)), oo 9 (.ar .sub (.t 6) (.t 8)), om 10 0, om 11 1, oo 12 (cl 77 [(.t 10), (.t 11)]), oo 13 (.bsl 1 2 [(.int .i64 (0))] [(0, (.t 9)), (1, (.t 12))]), oo 14 (cl 67 [(.t 13)]), om 4 14]) .ret)), 15, [(.tmp 4)], false, fun _ => none, fun _ _ => none⟩
def c77 : CFn := ⟨(.seq (.reg [oo 4 (.mv (ci 0))]) (.seq (.seq (.reg [om 9 0, oo 10 (.len (.t 9)), oo 11 (.mv (ci 0))]) (.block 0 (.loop 3587 (.seq (.reg [oo 12 (.ar .lss (.t 11) (.t 10))]) (.seq (.cond (.t 12) .skip (.exit 0)) (.seq (.block 1 (.seq (.reg [om 13 11, oo 14 (.ias 1 (.t 9) (.t 11)), oo 15 (.ld (.t 14)), om 5 13, om 6 15]) (.seq (.seq (.reg [om 16 5, om 17 1, oo 18 (.len (.t 17)), oo 19 (.ar .geq (.t 16) (.t 18))]) (.cond (.t 19) (.seq (.reg [oo 4 (.mv (ci 1))]) .ret) .skip)) (.seq (.reg [om 20 1, om 21 5, oo 22 (.ias 1 (.t 20) (.t 21)), oo 23 (.ld (.t 22)), om 7 23]) (.seq (.reg [om 24 6, om 25 7, oo 26 (cl 112 [(.t 24), (.t 25)]), om 8 26]) (.seq (.reg [om 27 8, oo 28 (.ar .neq (.t 27) (ci 0))]) (.cond (.t 28) (.seq (.reg [om 29 8, om 4 29]) .ret) .skip))))))) (.reg [oo 30 (.ar .add (.t 11) (ci 1)), om 11 30]))))))) (.seq (.seq (.reg [om 31 0, oo 32 (.len (.t 31)), om 33 1, oo 34 (.len (.t 33)), oo 35 (.ar .lss (.t 32) (.t 34))]) (.cond (.t 35) (.seq (.reg [oo 4 (.mv (ci (-1)))]) .ret) .skip)) (.seq (.reg [oo 4 (.mv (ci 0))]) .ret)))), 36, [(.tmp 4)], false, fun _ => none, fun _ _ => none⟩
def c80 : CFn := ⟨(.seq (.reg [oo 2 (.box (.t 0)), oo 3 (.box (.t 1)), oo 4 (.mv (.c (.bool false)))]) (.seq (.reg [oo 5 (.fa 0 (.t 2)), oo 6 (.ld (.t 5)), oo 7 (.ar .sub (.t 6) (ci 1)), oo 8 (.fa 0 (.t 3)), oo 9 (.ld (.t 8)), oo 10 (.bsl 1 1 [(.int .i64 (0))] [(0, (.t 9))]), oo 11 (cl 85 [(ci 0), (.t 7), (.t 10)]), om 12 11, og 13 (.fa 1 (.t 3)) 12 true, og 14 (.ld (.t 13)) 12 true, og 15 (.fa 2 (.t 3)) 12 true, og 16 (.ld (.t 15)) 12 true, og 17 (.bsl 1 2 [(.int .i64 (0))] [(0, (.t 14)), (1, (.t 16))]) 12 true, og 18 (cl 113 [(.t 17)]) 12 true, oo 19 (.pick (.t 12) (.t 18) (.c (.bool false))), om 20 19, og 21 (.fa 1 (.t 3)) 20 true, og 22 (.ld (.t 21)) 20 true, og 23 (.fa 2 (.t 3)) 20 true, og 24 (.ld (.t 23)) 20 true, og 25 (.ar .lss (.t 22) (.t 24)) 20 true, oo 26 (.pick (.t 20) (.t 25) (.c (.bool false))), om 4 26]) .ret)), 27, [(.tmp 4)], false, fun _ => none, fun _ _ => none⟩
def c81 : CFn := ⟨(.seq (.reg [oo 2 (.mv (.c .nils))]) (.seq (.seq (.reg [om 3 0, oo 4 (.snil false (.t 3) (.c .nils))]) (.cond (.t 4) (.seq (.reg [oo 2 (.mv (.c .nils))]) .ret) .skip)) (.seq (.reg [oo 5 (.bsl 3 0 [(.int .i64 (0)), (.int .i64 (0)), (.int .i64 (0))] []), om 6 0, oo 7 (.app 3 (.t 5) (.t 6)), om 2 7]) .ret))), 8, [(.tmp 2)], false, fun _ => none, fun _ _ => none⟩
def c82 : CFn := ⟨(.seq (.reg [oo 4 (.mv (.c .nils))]) (.seq (.reg [om 8 0, om 9 1, oo 10 (cl 114 [(.t 8), (.t 9)]), om 5 10]) (.seq (.seq (.reg [om 11 5, oo 12 (.ar .eql (.t 11) (ci (-1)))]) (.cond (.t 12) (.seq (.reg [om 13 0, om 4 13]) .ret) .skip)) (.seq (.seq (.reg [om 14 5, oo 15 (.ar .add (.t 14) (ci 1)), om 6 15]) (.block 0 (.loop 99 (.seq (.seq (.reg [om 16 6, om 17 0, oo 18 (.len (.t 17)), oo 19 (.ar .lss (.t 16) (.t 18))]) (.cond (.t 19) .skip (.exit 0))) (.seq (.block 1 (.seq (.reg [om 22 0, om 23 6, oo 24 (.ias 1 (.t 22) (.t 23)), oo 25 (.ld (.t 24)), om 7 25]) (.seq (.reg [om 26 1, om 27 7, oo 28 (.call (.t 26) [(.t 27)]), oo 29 (.un .not (.t 28))]) (.cond (.t 29) (.seq (.reg [om 30 0, om 31 5, om 32 7, oo 33 (.ias 1 (.t 30) (.t 31)), ⟨none, (.st 1 (.t 33) (.t 32)), none, []⟩]) (.reg [om 34 5, oo 35 (.ar .add (.t 34) (ci 1)), om 5 35])) .skip)))) (.reg [om 20 6, oo 21 (.ar .add (.t 20) (ci 1)), om 6 21])))))) (.seq (.reg [om 36 0, om 37 5, oo 38 (.slc 1 (.t 36) (some (.t 37)) none none), ⟨none, (.clr 1 [(.int .i64 0)] (.t 38)), none, []⟩]) (.seq (.reg [om 39 0, om 40 5, oo 41 (.slc 1 (.t 39) none (some (.t 40)) none), om 4 41]) .ret)))))), 42, [(.tmp 4)], false, fun _ => none, fun _ _ => none⟩
def c83 : CFn := ⟨(.seq (.reg [oo 3 (.mv (.c (.bool false)))]) (.seq (.reg [oo 4 (.ld (.t 1)), om 5 0, oo 6 (cl 84 [(.t 4), (.t 5)]), om 3 6]) .ret)), 7, [(.tmp 3)], false, fun _ => none, fun _ _ => none⟩
def c84 : CFn := ⟨(.seq (.reg [oo 4 (.mv (.c (.bool false)))]) (.seq (.reg [om 5 0, om 6 1, oo 7 (cl 115 [(.t 5), (.t 6)]), oo 8 (.ar .geq (.t 7) (ci 0)), om 4 8]) .ret)), 9, [(.tmp 4)], false, fun _ => none, fun _ _ => none⟩
def c85 : CFn := ⟨(.seq (.reg [oo 3 (.box (.t 0)), oo 4 (.box (.t 1)), oo 6 (.mv (.c (.bool false)))]) (.seq (.reg [om 7 2, oo 8 (.mkf 116 [] [(.t 3), (.t 4)]), oo 9 (cl 92 [(.t 7), (.t 8)]), oo 10 (.un .not (.t 9)), om 6 10]) .ret)), 11, [(.tmp 6)], false, fun _ => none, fun _ _ => none⟩
def c86 : CFn := ⟨(.seq (.reg [oo 2 (.mv (.c .nils))]) (.seq (.seq (.reg [om 3 0, oo 4 (.snil false (.t 3) (.c .nils))]) (.cond (.t 4) (.seq (.reg [oo 2 (.mv (.c .nils))]) .ret) .skip)) (.seq (.reg [oo 5 (.bsl 4 0 [(.int .i64 (0)), (.int .i64 (0)), (.int .i64 (0)), .nils] []), om 6 0, oo 7 (.app 4 (.t 5) (.t 6)), om 2 7]) .ret))), 8, [(.tmp 2)], false, fun _ => none, fun _ _ => none⟩
def c87 : CFn := ⟨(.seq (.reg [oo 6 (.mv (.c (.bool false)))]) (.seq (.drw [oo 7 (.fa 3 (.t 3)), oo 8 (.ld (.t 7)), op 9 (.ld (.t 2)) [0, 1], op 10 (.ld (.t 1)) [0, 1, 2], op 11 (.ld (.t 2)) [0, 1, 2, 3], op 12 (.ias 4 (.t 10) (.t 11)) [0, 1, 2], op 13 (.fa 1 (.t 12)) [0, 1, 2], op 14 (.ld (.t 13)) [0, 1, 2], op 15 (.mv (.t 0)) [0, 1, 2, 3, 4, 5, 6, 7], op 16 (.ar .add (.t 14) (.t 15)) [0, 1, 2], oo 17 (.ias 4 (.t 8) (.t 9)), oo 18 (.fa 1 (.t 17)), ⟨none, (.st 1 (.t 18) (.t 16)), none, []⟩]) (.seq (.reg [oo 19 (.ldn 4 (.t 3)), oo 20 (.ld (.t 4)), oo 21 (cl 64 [(.t 19), (.t 20)]), oo 22 (.len (.t 21)), oo 23 (.ar .gtr (.t 22) (ci 0)), om 6 23]) .ret))), 24, [(.tmp 6)], false, fun _ => none, fun _ _ => none⟩
def c92 : CFn := ⟨(.seq (.reg [oo 4 (.mv (.c (.bool false)))]) (.seq (.reg [om 5 0, om 6 1, oo 7 (cl 114 [(.t 5), (.t 6)]), oo 8 (.ar .geq (.t 7) (ci 0)), om 4 8]) .ret)), 9, [(.tmp 4)], false, fun _ => none, fun _ _ => none⟩
def c94 : CFn := ⟨(.seq (.reg [oo 4 (.mv (.c (.bool false)))]) (.seq (.reg [om 5 0, om 6 1, oo 7 (cl 118 [(.t 5), (.t 6)]), oo 8 (.ar .geq (.t 7) (ci 0)), om 4 8]) .ret)), 9, [(.tmp 4)], false, fun _ => none, fun _ _ => none⟩
def c100 : CFn := ⟨(.seq (.reg [oo 2 (.mv (.c .nils))]) (.seq (.reg [om 4 0, oo 5 (cl 131 [(.t 4)]), om 3 5]) (.seq (.reg [om 6 3, oo 7 (cl 132 [(.t 6)])]) (.seq (.reg [om 8 3, om 2 8]) .ret)))), 9, [(.tmp 2)], false, fun _ => none, fun _ _ => none⟩
def c101 : CFn := ⟨(.seq (.reg [oo 1 (.box (.t 0)), oo 2 (.mv (.c .nilf))]) (.seq (.reg [oo 3 (.mkf 133 [] [(.t 1)]), om 2 3]) .ret)), 4, [(.tmp 2)], false, fun _ => none, fun _ _ => none⟩
def c102 : CFn := ⟨(.seq (.reg [oo 3 (.box (.t 0)), oo 5 (.box (.t 2)), oo 6 (.mv (.c .nils)), oo 7 (.mv (ci 0))]) (.seq (.reg [oo 12 (.fa 1 (.t 5)), oo 13 (.ld (.t 12)), om 8 13]) (.seq (.seq (.reg [oo 14 (.fa 3 (.t 5)), oo 15 (.ld (.t 14)), oo 16 (.len (.t 15)), oo 17 (.mv (ci 0))]) (.block 0 (.loop 229738 (.seq (.reg [oo 18 (.ar .lss (.t 17) (.t 16))]) (.seq (.cond (.t 18) .skip (.exit 0)) (.seq (.block 1 (.seq (.reg [om 19 17, oo 20 (.ias 1 (.t 15) (.t 17)), oo 21 (.ld (.t 20)), om 9 19, om 10 21]) (.seq (.seq (.reg [om 22 10, oo 23 (.ar .gtr (.t 22) (ci 0))]) (.cond (.t 23) (.seq (.seq (.reg [om 24 1, om 25 9, oo 26 (.chk (.t 24)), oo 27 (.iaa 4 3 (.t 26) (.t 25)), om 11 27]) (.seq (.reg [om 28 11, oo 29 (.chk (.t 28)), oo 30 (.fa 2 (.t 29)), oo 31 (.ld (.t 30))]) (.cond (.t 31) (.drw [om 32 8, op 33 (.mv (.t 11)) [0], op 34 (.chk (.t 33)) [0], op 35 (.fa 0 (.t 34)) [0], op 36 (.ld (.t 35)) [0], op 37 (.fa 0 (.t 3)) [0, 1, 2, 3, 4], op 38 (.fa 1 (.t 37)) [0, 1, 2, 3, 4], op 39 (.ld (.t 38)) [0, 1, 2, 3, 4], op 40 (.mv (.t 11)) [0, 1, 2, 3, 4, 5, 6, 7], op 41 (.chk (.t 40)) [0, 1, 2, 3, 4, 5, 6, 7], op 42 (.fa 1 (.t 41)) [0, 1, 2, 3, 4, 5, 6, 7], op 43 (.ld (.t 42)) [0, 1, 2, 3, 4, 5, 6, 7], op 44 (.ias 1 (.t 39) (.t 43)) [0, 1, 2, 3, 4], op 45 (.ld (.t 44)) [0, 1, 2, 3, 4], op 46 (.fa 0 (.t 5)) [0, 1, 2, 3, 4, 5, 6, 7, 8, 9, 10, 11, 12, 13], op 47 (.ld (.t 46)) [0, 1, 2, 3, 4, 5, 6, 7, 8, 9, 10, 11, 12, 13], op 48 (.ias 1 (.t 45) (.t 47)) [0, 1, 2, 3, 4], op 49 (.ld (.t 48)) [0, 1, 2, 3, 4], op 50 (.ar .add (.t 36) (.t 49)) [0], oo 51 (.mx [(.t 32), (.t 50)]), om 8 51]) .skip))) (.seq (.reg [oo 52 (.ldn 4 (.t 3)), om 53 9, om 54 8, om 55 10, oo 56 (cl 134 [(.t 52), (.t 53), (.t 54), (.t 55)]), om 8 56]) (.drw [om 57 1, op 58 (.mv (.t 9)) [0], op 59 (.mv (.t 1)) [0, 1], op 60 (.mv (.t 9)) [0, 1, 2], op 61 (.mv (.t 1)) [0, 1, 2, 3], op 62 (.mv (.t 9)) [0, 1, 2, 3, 4], op 63 (.mv (.t 8)) [0, 1, 2, 3, 4, 5], op 64 (.mv (.t 10)) [0, 1, 2, 3, 4, 5, 6], op 65 (.ar .add (.t 63) (.t 64)) [0, 1, 2, 3, 4, 5], op 66 (.fa 0 (.t 5)) [0, 1, 2, 3, 4, 5, 6, 7, 8], op 67 (.ld (.t 66)) [0, 1, 2, 3, 4, 5, 6, 7, 8], op 68 (.chk (.t 57)) [1, 2, 3, 4, 5, 6, 7, 8, 9, 10], op 69 (.iaa 4 3 (.t 68) (.t 58)) [2, 3, 4, 5, 9, 10], op 70 (.fa 0 (.t 69)) [2, 3, 4, 5, 9, 10], ⟨none, (.st 1 (.t 70) (.t 65)), none, [2, 3, 4, 5, 9, 10]⟩, op 71 (.chk (.t 59)) [0, 1, 3, 4, 5, 6, 7, 8, 9, 10, 11, 12, 13, 14], op 72 (.iaa 4 3 (.t 71) (.t 60)) [4, 5], op 73 (.fa 1 (.t 72)) [4, 5], ⟨none, (.st 1 (.t 73) (.t 67)), none, [4, 5]⟩, op 74 (.chk (.t 61)) [0, 1, 2, 3, 5, 6, 7, 8, 9, 10, 11, 12, 13, 14, 15, 16, 17, 18], oo 75 (.iaa 4 3 (.t 74) (.t 62)), oo 76 (.fa 2 (.t 75)), ⟨none, (.st 1 (.t 76) (.c (.bool true))), none, []⟩]))) .skip)) (.seq (.reg [om 77 6, om 78 8, oo 79 (.bsl 1 1 [(.int .i64 (0))] [(0, (.t 78))]), oo 80 (.app 1 (.t 77) (.t 79)), om 6 80]) (.reg [om 81 8, om 82 10, oo 83 (.ar .add (.t 81) (.t 82)), om 8 83]))))) (.reg [oo 84 (.ar .add (.t 17) (ci 1)), om 17 84]))))))) (.seq (.reg [om 85 6, om 86 8, om 6 85, om 7 86]) .ret)))), 87, [(.tmp 6), (.tmp 7)], false, fun _ => none, fun _ _ => none⟩
def c103 : CFn := ⟨(.seq (.reg [oo 10 (.mv (.c (.bool true)))]) (.seq (.reg [oo 11 (.mv (.c (.bool true)))]) (.block 0 (.loop 3103 (.block 1 (.seq (.reg [om 21 2, om 22 1, oo 23 (.ar .sub (.t 21) (.t 22)), om 12 23]) (.seq (.seq (.reg [om 24 12, oo 25 (.ar .leq (.t 24) (ci 12))]) (.cond (.t 25) (.seq (.reg [om 26 0, om 27 1, om 28 2, om 29 4, oo 30 (cl 135 [(.t 26), (.t 27), (.t 28), (.t 29)])]) .ret) .skip)) (.seq (.seq (.reg [om 31 3, oo 32 (.ar .eql (.t 31) (ci 0))]) (.cond (.t 32) (.seq (.reg [om 33 0, om 34 1, om 35 2, om 36 4, oo 37 (cl 136 [(.t 33), (.t 34), (.t 35), (.t 36)])]) .ret) .skip)) (.seq (.seq (.reg [om 38 10, oo 39 (.un .not (.t 38))]) (.cond (.t 39) (.seq (.reg [om 40 0, om 41 1, om 42 2, om 43 4, oo 44 (cl 137 [(.t 40), (.t 41), (.t 42), (.t 43)])]) (.reg [om 45 3, oo 46 (.ar .sub (.t 45) (ci 1)), om 3 46])) .skip)) (.seq (.reg [om 48 0, om 49 1, om 50 2, om 51 4, oo 52 (cl 138 [(.t 48), (.t 49), (.t 50), (.t 51)]), om 47 52, oo 53 (.ext 0 (.t 47)), oo 54 (.ext 1 (.t 47)), om 13 53, om 14 54]) (.seq (.seq (.reg [om 55 14, oo 56 (.ar .eql (.t 55) (ci 2))]) (.cond (.t 56) (.seq (.reg [om 57 0, om 58 1, om 59 2, om 60 4, oo 61 (cl 139 [(.t 57), (.t 58), (.t 59), (.t 60)])]) (.seq (.reg [om 62 2, oo 63 (.ar .sub (.t 62) (ci 1)), om 64 13, om 65 1, oo 66 (.ar .sub (.t 64) (.t 65)), oo 67 (.ar .sub (.t 63) (.t 66)), om 13 67]) (.reg [oo 14 (.mv (ci 1))]))) .skip)) (.seq (.seq (.reg [om 68 10, om 69 68, og 70 (.mv (.t 11)) 69 true, oo 71 (.pick (.t 69) (.t 70) (.c (.bool false))), om 72 71, og 73 (.mv (.t 14)) 72 true, og 74 (.ar .eql (.t 73) (ci 1)) 72 true, oo 75 (.pick (.t 72) (.t 74) (.c (.bool false)))]) (.cond (.t 75) (.seq (.reg [om 76 0, om 77 1, om 78 2, om 79 4, oo 80 (cl 140 [(.t 76), (.t 77), (.t 78), (.t 79)])]) (.cond (.t 80) .ret .skip)) .skip)) (.seq (.seq (.drw [om 81 1, oo 82 (.ar .gtr (.t 81) (ci 0)), om 83 82, og 84 (.mv (.t 4)) 83 true, ⟨(some 85), (.mv (.t 0)), (some (83, true)), [3]⟩, ⟨(some 86), (.mv (.t 1)), (some (83, true)), [3, 4]⟩, ⟨(some 87), (.ar .sub (.t 86) (ci 1)), (some (83, true)), [3, 4]⟩, ⟨(some 88), (.ias 2 (.t 85) (.t 87)), (some (83, true)), [3]⟩, ⟨(some 89), (.ldn 2 (.t 88)), (some (83, true)), [3]⟩, ⟨(some 90), (.mv (.t 0)), (some (83, true)), [3, 4, 5, 6, 7, 8]⟩, ⟨(some 91), (.mv (.t 13)), (some (83, true)), [3, 4, 5, 6, 7, 8, 9]⟩, ⟨(some 92), (.ias 2 (.t 90) (.t 91)), (some (83, true)), [3, 4, 5, 6, 7, 8]⟩, ⟨(some 93), (.ldn 2 (.t 92)), (some (83, true)), [3, 4, 5, 6, 7, 8]⟩, og 94 (.call (.t 84) [(.t 89), (.t 93)]) 83 true, og 95 (.ar .lss (.t 94) (ci 0)) 83 true, og 96 (.un .not (.t 95)) 83 true, oo 97 (.pick (.t 83) (.t 96) (.c (.bool false)))]) (.cond (.t 97) (.seq (.reg [om 98 0, om 99 1, om 100 2, om 101 13, om 102 4, oo 103 (cl 141 [(.t 98), (.t 99), (.t 100), (.t 101), (.t 102)]), om 15 103]) (.seq (.reg [om 104 15, om 1 104]) (.exit 1))) .skip)) (.seq (.reg [om 106 0, om 107 1, om 108 2, om 109 13, om 110 4, oo 111 (cl 142 [(.t 106), (.t 107), (.t 108), (.t 109), (.t 110)]), om 105 111, oo 112 (.ext 0 (.t 105)), oo 113 (.ext 1 (.t 105)), om 16 112, om 17 113]) (.seq (.reg [om 114 17, om 11 114]) (.seq (.reg [om 115 16, om 116 1, oo 117 (.ar .sub (.t 115) (.t 116)), om 118 2, om 119 16, oo 120 (.ar .sub (.t 118) (.t 119)), om 18 117, om 19 120]) (.seq (.reg [om 121 12, oo 122 (.ar .quo (.t 121) (ci 8)), om 20 122]) (.seq (.reg [om 123 18, om 124 19, oo 125 (.ar .lss (.t 123) (.t 124))]) (.cond (.t 125) (.seq (.reg [om 126 18, om 127 20, oo 128 (.ar .geq (.t 126) (.t 127)), om 10 128]) (.seq (.reg [om 129 0, om 130 1, om 131 16, om 132 3, om 133 4, oo 134 (cl 103 [(.t 129), (.t 130), (.t 131), (.t 132), (.t 133)])]) (.reg [om 135 16, oo 136 (.ar .add (.t 135) (ci 1)), om 1 136]))) (.seq (.reg [om 137 19, om 138 20, oo 139 (.ar .geq (.t 137) (.t 138)), om 10 139]) (.seq (.reg [om 140 0, om 141 16, oo 142 (.ar .add (.t 141) (ci 1)), om 143 2, om 144 3, om 145 4, oo 146 (cl 103 [(.t 140), (.t 142), (.t 143), (.t 144), (.t 145)])]) (.reg [om 147 16, om 2 147])))))))))))))))))))))), 148, [], false, fun _ => none, fun _ _ => none⟩
def c104 : CFn := ⟨(.seq (.reg [oo 2 (.mv (ci 0))]) (.seq (.cond (.c (.bool false)) (.seq (.reg [om 3 0, oo 4 (.conv .u32 (.t 3)), oo 5 (cl 143 [(.t 4)]), om 2 5]) .ret) .skip) (.seq (.reg [om 6 0, oo 7 (cl 144 [(.t 6)]), om 2 7]) .ret))), 8, [(.tmp 2)], false, fun _ => none, fun _ _ => none⟩
def c105 : CFn := ⟨(.seq (.reg [oo 3 (.mv (.c (.bool false)))]) (.seq (.reg [om 4 0, oo 5 (.len (.t 4)), oo 6 (.fa 1 (.t 1)), oo 7 (.ld (.t 6)), oo 8 (.len (.t 7)), oo 9 (.ar .neq (.t 5) (.t 8)), om 10 9, og 11 (.mv (.t 0)) 10 false, og 12 (cl 85 [(ci 0), (ci 500), (.t 11)]) 10 false, og 13 (.un .not (.t 12)) 10 false, oo 14 (.pick (.t 10) (.c (.bool true)) (.t 13)), om 3 14]) .ret)), 15, [(.tmp 3)], false, fun _ => none, fun _ _ => none⟩
def c106 : CFn := ⟨(.seq (.reg [oo 4 (.mv (.c (.bool false)))]) (.seq (.reg [om 5 0, om 6 1, oo 7 (cl 145 [(.t 5), (.t 6)]), oo 8 (.ar .geq (.t 7) (ci 0)), om 4 8]) .ret)), 9, [(.tmp 4)], false, fun _ => none, fun _ _ => none⟩
def c107 : CFn := ⟨(.seq (.reg [oo 2 (.box (.t 0)), oo 3 (.mv (.c (.bool false)))]) (.seq (.reg [oo 4 (.ldn 3 (.t 1)), oo 5 (.ldn 3 (.t 2)), oo 6 (cl 80 [(.t 4), (.t 5)]), oo 7 (.un .not (.t 6)), om 3 7]) .ret)), 8, [(.tmp 3)], false, fun _ => none, fun _ _ => none⟩
def c108 : CFn := ⟨(.seq (.reg [oo 4 (.mv (.c (.bool false)))]) (.seq (.reg [om 5 0, om 6 1, oo 7 (cl 146 [(.t 5), (.t 6)]), oo 8 (.ar .geq (.t 7) (ci 0)), om 4 8]) .ret)), 9, [(.tmp 4)], false, fun _ => none, fun _ _ => none⟩
def c109 : CFn := ⟨(.seq (.reg [oo 2 (.box (.t 0)), oo 3 (.mv (.c (.bool false)))]) (.seq (.reg [oo 4 (.ldn 3 (.t 1)), oo 5 (.ldn 4 (.t 2)), oo 6 (cl 110 [(.t 4), (.t 5)]), oo 7 (.un .not (.t 6)), om 3 7]) .ret)), 8, [(.tmp 3)], false, fun _ => none, fun _ _ => none⟩
def c110 : CFn := ⟨(.seq (.reg [oo 2 (.box (.t 0)), oo 3 (.box (.t 1)), oo 4 (.mv (.c (.bool false)))]) (.seq (.reg [oo 5 (.fa 1 (.t 2)), oo 6 (.ld (.t 5)), oo 7 (.len (.t 6)), oo 8 (.ar .sub (.t 7) (ci 1)), oo 9 (.fa 0 (.t 3)), oo 10 (.ld (.t 9)), oo 11 (.bsl 1 1 [(.int .i64 (0))] [(0, (.t 10))]), oo 12 (cl 85 [(ci 0), (.t 8), (.t 11)]), om 13 12, og 14 (.fa 1 (.t 3)) 13 true, og 15 (.ld (.t 14)) 13 true, og 16 (.fa 2 (.t 3)) 13 true, og 17 (.ld (.t 16)) 13 true, og 18 (.bsl 1 2 [(.int .i64 (0))] [(0, (.t 15)), (1, (.t 17))]) 13 true, og 19 (cl 113 [(.t 18)]) 13 true, oo 20 (.pick (.t 13) (.t 19) (.c (.bool false))), om 21 20, og 22 (.fa 3 (.t 3)) 21 true, og 23 (.ld (.t 22)) 21 true, og 24 (.len (.t 23)) 21 true, og 25 (.fa 0 (.t 2)) 21 true, og 26 (.ld (.t 25)) 21 true, og 27 (.ar .eql (.t 24) (.t 26)) 21 true, oo 28 (.pick (.t 21) (.t 27) (.c (.bool false))), om 29 28, og 30 (.fa 3 (.t 3)) 29 true, og 31 (.ld (.t 30)) 29 true, og 32 (cl 85 [(ci 0), (ci 2000), (.t 31)]) 29 true, oo 33 (.pick (.t 29) (.t 32) (.c (.bool false))), om 4 33]) .ret)), 34, [(.tmp 4)], false, fun _ => none, fun _ _ => none⟩
def c111 : CFn := ⟨(.seq (.reg [oo 6 (.box (.t 2)), oo 7 (.box (.t 3))]) (.seq (.seq (.reg [om 13 0, oo 14 (.ldn 2 (.t 7)), oo 15 (cl 147 [(.t 13), (.t 14)])]) (.cond (.t 15) .ret .skip)) (.seq (.seq (.reg [om 16 1, oo 17 (.len (.t 16)), om 18 0, oo 19 (.chk (.t 18)), oo 20 (.fa 0 (.t 19)), oo 21 (.fa 3 (.t 20)), oo 22 (.ld (.t 21)), oo 23 (.len (.t 22)), oo 24 (.ar .eql (.t 17) (.t 23))]) (.cond (.t 24) (.seq (.drw [om 25 0, op 26 (.mv (.t 0)) [0], op 27 (.mv (.t 0)) [0, 1], op 28 (.mv (.t 1)) [0, 1, 2], op 29 (cl 148 [(.t 28)]) [0, 1, 2], op 30 (.ldn 2 (.t 7)) [0, 1, 2, 3, 4], op 31 (.chk (.t 25)) [1, 2, 5], op 32 (.fa 4 (.t 31)) [1, 2, 5], ⟨none, (.st 1 (.t 32) (.t 29)), none, [1, 2, 5]⟩, op 33 (.chk (.t 26)) [2], op 34 (.fa 5 (.t 33)) [2], ⟨none, (.st 2 (.t 34) (.t 30)), none, [2]⟩, oo 35 (.chk (.t 27)), oo 36 (.fa 7 (.t 35)), ⟨none, (.st 1 (.t 36) (.c (.bool true))), none, []⟩]) .ret) .skip)) (.seq (.reg [om 37 0, oo 38 (.chk (.t 37)), oo 39 (.fa 0 (.t 38)), oo 40 (.fa 3 (.t 39)), oo 41 (.ld (.t 40)), oo 42 (.len (.t 41)), oo 43 (.mv (ci 0))]) (.block 0 (.loop 15393162789059 (.seq (.reg [oo 44 (.ar .lss (.t 43) (.t 42))]) (.seq (.cond (.t 44) .skip (.exit 0)) (.seq (.block 1 (.seq (.reg [om 45 43, oo 46 (.ias 4 (.t 41) (.t 43)), oo 47 (.ldn 4 (.t 46)), oo 9 (.new [(.int .i64 (0)), (.int .i64 (0)), (.int .i64 (0)), .nils]), om 8 45, ⟨none, (.st 4 (.t 9) (.t 47)), none, []⟩]) (.seq (.seq (.reg [om 48 1, om 49 8, oo 50 (cl 84 [(.t 48), (.t 49)])]) (.cond (.t 50) (.exit 1) .skip)) (.seq (.reg [oo 51 (.ldn 12 (.t 6)), oo 10 (.new [(.int .i64 (0)), (.int .i64 (0)), (.bool false), (.int .i64 (0)), (.int .i64 (0)), (.bool false), (.int .i64 (0)), (.int .i64 (0)), (.bool false), (.int .i64 (0)), (.int .i64 (0)), (.bool false)]), ⟨none, (.st 12 (.t 10) (.t 51)), none, []⟩]) (.seq (.drw [om 53 0, oo 54 (.chk (.t 53)), oo 55 (.fa 0 (.t 54)), oo 56 (.ldn 4 (.t 55)), op 57 (.ldn 4 (.t 9)) [0, 1, 2, 3], oo 58 (cl 102 [(.t 56), (.t 10), (.t 57)]), om 52 58, oo 59 (.ext 0 (.t 52)), op 60 (.ext 1 (.t 52)) [7], op 11 (.mv (.t 59)) [8], om 12 60]) (.drw [om 61 0, op 62 (.mv (.t 1)) [0], op 63 (cl 149 [(.t 62)]) [0], op 64 (.mv (.t 8)) [0, 1, 2], op 65 (.bsl 1 1 [(.int .i64 (0))] [(0, (.t 64))]) [0, 1, 2], op 66 (.app 1 (.t 63) (.t 65)) [0], op 67 (.ldn 12 (.t 10)) [0, 1, 2, 3, 4, 5], op 68 (.ldn 2 (.t 7)) [0, 1, 2, 3, 4, 5, 6], op 69 (.ldn 4 (.t 9)) [0, 1, 2, 3, 4, 5, 6, 7], op 70 (.mv (.t 12)) [0, 1, 2, 3, 4, 5, 6, 7, 8], op 71 (cl 63 [(.t 68), (.t 69), (.t 70)]) [0, 6], oo 72 (cl 111 [(.t 61), (.t 66), (.t 67), (.t 71)])])))))) (.reg [oo 73 (.ar .add (.t 43) (ci 1)), om 43 73])))))))))), 74, [], false, fun _ => none, fun _ _ => none⟩
def c112 : CFn := ⟨(.seq (.reg [oo 4 (.mv (ci 0))]) (.seq (.reg [om 7 0, oo 8 (cl 150 [(.t 7)]), om 5 8]) (.seq (.reg [om 9 1, oo 10 (cl 150 [(.t 9)]), om 6 10]) (.seq (.seq (.reg [om 11 5]) (.cond (.t 11) (.seq (.seq (.reg [om 12 6]) (.cond (.t 12) (.seq (.reg [oo 4 (.mv (ci 0))]) .ret) .skip)) (.seq (.reg [oo 4 (.mv (ci (-1)))]) .ret)) .skip)) (.seq (.seq (.reg [om 13 6]) (.cond (.t 13) (.seq (.reg [oo 4 (.mv (ci 1))]) .ret) .skip)) (.seq (.seq (.reg [om 14 0, om 15 1, oo 16 (.ar .lss (.t 14) (.t 15))]) (.cond (.t 16) (.seq (.reg [oo 4 (.mv (ci (-1)))]) .ret) .skip)) (.seq (.seq (.reg [om 17 0, om 18 1, oo 19 (.ar .gtr (.t 17) (.t 18))]) (.cond (.t 19) (.seq (.reg [oo 4 (.mv (ci 1))]) .ret) .skip)) (.seq (.reg [oo 4 (.mv (ci 0))]) .ret)))))))), 20, [(.tmp 4)], false, fun _ => none, fun _ _ => none⟩
def c113 : CFn := ⟨(.seq (.reg [oo 2 (.mv (.c (.bool false)))]) (.seq (.reg [om 3 0, oo 4 (cl 85 [(ci 0), (ci 100000), (.t 3)]), om 2 4]) .ret)), 5, [(.tmp 2)], false, fun _ => none, fun _ _ => none⟩
def c114 : CFn := ⟨(.seq (.reg [oo 4 (.mv (ci 0))]) (.seq (.seq (.reg [om 6 0, oo 7 (.len (.t 6)), oo 8 (.mv (ci 0))]) (.block 0 (.loop 387 (.seq (.reg [oo 9 (.ar .lss (.t 8) (.t 7))]) (.seq (.cond (.t 9) .skip (.exit 0)) (.seq (.block 1 (.seq (.reg [om 10 8, om 5 10]) (.seq (.reg [om 11 1, om 12 0, om 13 5, oo 14 (.ias 1 (.t 12) (.t 13)), oo 15 (.ld (.t 14)), oo 16 (.call (.t 11) [(.t 15)])]) (.cond (.t 16) (.seq (.reg [om 17 5, om 4 17]) .ret) .skip)))) (.reg [oo 18 (.ar .add (.t 8) (ci 1)), om 8 18]))))))) (.seq (.reg [oo 4 (.mv (ci (-1)))]) .ret))), 19, [(.tmp 4)], false, fun _ => none, fun _ _ => none⟩
def c115 : CFn := ⟨(.seq (.reg [oo 4 (.mv (ci 0))]) (.seq (.seq (.reg [om 6 0, oo 7 (.len (.t 6)), oo 8 (.mv (ci 0))]) (.block 0 (.loop 387 (.seq (.reg [oo 9 (.ar .lss (.t 8) (.t 7))]) (.seq (.cond (.t 9) .skip (.exit 0)) (.seq (.block 1 (.seq (.reg [om 10 8, om 5 10]) (.seq (.reg [om 11 1, om 12 0, om 13 5, oo 14 (.ias 1 (.t 12) (.t 13)), oo 15 (.ld (.t 14)), oo 16 (.ar .eql (.t 11) (.t 15))]) (.cond (.t 16) (.seq (.reg [om 17 5, om 4 17]) .ret) .skip)))) (.reg [oo 18 (.ar .add (.t 8) (ci 1)), om 8 18]))))))) (.seq (.reg [oo 4 (.mv (ci (-1)))]) .ret))), 19, [(.tmp 4)], false, fun _ => none, fun _ _ => none⟩
def c116 : CFn := ⟨(.seq (.reg [oo 4 (.mv (.c (.bool false)))]) (.seq (.reg [om 5 0, oo 6 (.ld (.t 1)), oo 7 (.ar .lss (.t 5) (.t 6)), om 8 7, og 9 (.mv (.t 0)) 8 false, og 10 (.ld (.t 2)) 8 false, og 11 (.ar .gtr (.t 9) (.t 10)) 8 false, oo 12 (.pick (.t 8) (.c (.bool true)) (.t 11)), om 4 12]) .ret)), 13, [(.tmp 4)], false, fun _ => none, fun _ _ => none⟩
def c118 : CFn := ⟨(.seq (.reg [oo 4 (.mv (ci 0))]) (.seq (.seq (.reg [om 6 0, oo 7 (.len (.t 6)), oo 8 (.mv (ci 0))]) (.block 0 (.loop 387 (.seq (.reg [oo 9 (.ar .lss (.t 8) (.t 7))]) (.seq (.cond (.t 9) .skip (.exit 0)) (.seq (.block 1 (.seq (.reg [om 10 8, om 5 10]) (.seq (.reg [om 11 1, om 12 0, om 13 5, oo 14 (.ias 1 (.t 12) (.t 13)), oo 15 (.ld (.t 14)), oo 16 (.call (.t 11) [(.t 15)])]) (.cond (.t 16) (.seq (.reg [om 17 5, om 4 17]) .ret) .skip)))) (.reg [oo 18 (.ar .add (.t 8) (ci 1)), om 8 18]))))))) (.seq (.reg [oo 4 (.mv (ci (-1)))]) .ret))), 19, [(.tmp 4)], false, fun _ => none, fun _ _ => none⟩
def c131 : CFn := ⟨(.seq (.reg [oo 2 (.mv (.c .nils))]) (.seq (.reg [om 3 0, oo 4 (cl 161 [(.c .nils), (.t 3)]), om 2 4]) .ret)), 5, [(.tmp 2)], false, fun _ => none, fun _ _ => none⟩
def c132 : CFn := ⟨(.seq (.reg [om 3 0, oo 4 (.len (.t 3)), om 2 4]) (.reg [om 5 0, om 6 2, om 7 2, oo 8 (.conv .u64 (.t 7)), oo 9 (cl 104 [(.t 8)]), oo 10 (cl 162 [(.t 5), (ci 0), (.t 6), (.t 9)])])), 11, [], false, fun _ => none, fun _ _ => none⟩
def c133 : CFn := ⟨(.seq (.reg [oo 5 (.ld (.t 1)), oo 6 (.len (.t 5)), oo 7 (.mv (ci 0))]) (.block 0 (.loop 225 (.seq (.reg [oo 8 (.ar .lss (.t 7) (.t 6))]) (.seq (.cond (.t 8) .skip (.exit 0)) (.seq (.block 1 (.seq (.reg [oo 9 (.ias 1 (.t 5) (.t 7)), oo 10 (.ld (.t 9)), om 4 10]) (.seq (.reg [om 11 0, om 12 4, oo 13 (.call (.t 11) [(.t 12)]), oo 14 (.un .not (.t 13))]) (.cond (.t 14) .ret .skip)))) (.reg [oo 15 (.ar .add (.t 7) (ci 1)), om 7 15]))))))), 16, [], false, fun _ => none, fun _ _ => none⟩
def c134 : CFn := ⟨(.seq (.reg [oo 4 (.box (.t 0)), oo 8 (.mv (ci 0))]) (.seq (.seq (.reg [oo 9 (.mv (.c (.bool true)))]) (.block 0 (.loop 542 (.seq (.seq (.reg [om 12 9]) (.cond (.t 12) .skip (.exit 0))) (.block 1 (.seq (.reg [oo 9 (.mv (.c (.bool false)))]) (.seq (.reg [oo 13 (.fa 0 (.t 4)), oo 14 (.fa 2 (.t 13)), oo 15 (.ld (.t 14)), oo 16 (.len (.t 15)), oo 17 (.mv (ci 0))]) (.block 2 (.loop 229918 (.seq (.reg [oo 18 (.ar .lss (.t 17) (.t 16))]) (.seq (.cond (.t 18) .skip (.exit 2)) (.seq (.block 3 (.seq (.reg [oo 19 (.ias 3 (.t 15) (.t 17)), oo 20 (.ldn 3 (.t 19)), oo 11 (.new [(.int .i64 (0)), (.int .i64 (0)), (.int .i64 (0))]), ⟨none, (.st 3 (.t 11) (.t 20)), none, []⟩]) (.seq (.reg [oo 21 (.fa 0 (.t 11)), oo 22 (.ld (.t 21)), om 23 1, oo 24 (.ar .eql (.t 22) (.t 23)), om 25 24, og 26 (.mv (.t 2)) 25 true, og 27 (.fa 2 (.t 11)) 25 true, og 28 (.ld (.t 27)) 25 true, og 29 (.ar .lss (.t 26) (.t 28)) 25 true, oo 30 (.pick (.t 25) (.t 29) (.c (.bool false))), om 31 30, og 32 (.fa 1 (.t 11)) 31 true, og 33 (.ld (.t 32)) 31 true, og 34 (.mv (.t 2)) 31 true, og 35 (.mv (.t 3)) 31 true, og 36 (.ar .add (.t 34) (.t 35)) 31 true, og 37 (.ar .lss (.t 33) (.t 36)) 31 true, oo 38 (.pick (.t 31) (.t 37) (.c (.bool false)))]) (.cond (.t 38) (.reg [oo 39 (.fa 2 (.t 11)), oo 40 (.ld (.t 39)), om 2 40, oo 9 (.mv (.c (.bool true)))]) .skip)))) (.reg [oo 41 (.ar .add (.t 17) (ci 1)), om 17 41]))))))))))))) (.seq (.reg [om 42 2, om 8 42]) .ret))), 43, [(.tmp 8)], false, fun _ => none, fun _ _ => none⟩
def c135 : CFn := ⟨(.seq (.reg [om 10 1, oo 11 (.ar .add (.t 10) (ci 1)), om 8 11]) (.block 0 (.loop 271 (.seq (.seq (.reg [om 12 8, om 13 2, oo 14 (.ar .lss (.t 12) (.t 13))]) (.cond (.t 14) .skip (.exit 0))) (.seq (.block 1 (.seq (.reg [om 17 8, om 9 17]) (.block 2 (.loop 783 (.seq (.seq (.drw [om 18 9, op 19 (.mv (.t 1)) [0], oo 20 (.ar .gtr (.t 18) (.t 19)), om 21 20, og 22 (.mv (.t 3)) 21 true, ⟨(some 23), (.mv (.t 0)), (some (21, true)), [4]⟩, ⟨(some 24), (.mv (.t 9)), (some (21, true)), [4, 5]⟩, ⟨(some 25), (.ias 2 (.t 23) (.t 24)), (some (21, true)), [4]⟩, ⟨(some 26), (.ldn 2 (.t 25)), (some (21, true)), [4]⟩, ⟨(some 27), (.mv (.t 0)), (some (21, true)), [4, 5, 6, 7, 8]⟩, ⟨(some 28), (.mv (.t 9)), (some (21, true)), [4, 5, 6, 7, 8, 9]⟩, ⟨(some 29), (.ar .sub (.t 28) (ci 1)), (some (21, true)), [4, 5, 6, 7, 8, 9]⟩, ⟨(some 30), (.ias 2 (.t 27) (.t 29)), (some (21, true)), [4, 5, 6, 7, 8]⟩, ⟨(some 31), (.ldn 2 (.t 30)), (some (21, true)), [4, 5, 6, 7, 8]⟩, og 32 (.call (.t 22) [(.t 26), (.t 31)]) 21 true, og 33 (.ar .lss (.t 32) (ci 0)) 21 true, oo 34 (.pick (.t 21) (.t 33) (.c (.bool false)))]) (.cond (.t 34) .skip (.exit 2))) (.seq (.block 3 (.drw [om 37 0, op 38 (.mv (.t 9)) [0], op 39 (.mv (.t 0)) [0, 1], op 40 (.mv (.t 9)) [0, 1, 2], op 41 (.ar .sub (.t 40) (ci 1)) [0, 1, 2], op 42 (.mv (.t 0)) [0, 1, 2, 3, 4], op 43 (.mv (.t 9)) [0, 1, 2, 3, 4, 5], op 44 (.ar .sub (.t 43) (ci 1)) [0, 1, 2, 3, 4, 5], op 45 (.ias 2 (.t 42) (.t 44)) [0, 1, 2, 3, 4], op 46 (.ldn 2 (.t 45)) [0, 1, 2, 3, 4], op 47 (.mv (.t 0)) [0, 1, 2, 3, 4, 5, 6, 7, 8, 9], op 48 (.mv (.t 9)) [0, 1, 2, 3, 4, 5, 6, 7, 8, 9, 10], op 49 (.ias 2 (.t 47) (.t 48)) [0, 1, 2, 3, 4, 5, 6, 7, 8, 9], op 50 (.ldn 2 (.t 49)) [0, 1, 2, 3, 4, 5, 6, 7, 8, 9], op 51 (.ias 2 (.t 37) (.t 38)) [2, 3, 4], ⟨none, (.st 2 (.t 51) (.t 46)), none, [2, 3, 4]⟩, oo 52 (.ias 2 (.t 39) (.t 41)), ⟨none, (.st 2 (.t 52) (.t 50)), none, []⟩])) (.reg [om 35 9, oo 36 (.ar .sub (.t 35) (ci 1)), om 9 36]))))))) (.reg [om 15 8, oo 16 (.ar .add (.t 15) (ci 1)), om 8 16])))))), 53, [], false, fun _ => none, fun _ _ => none⟩
def c143 : CFn := ⟨(.seq (.reg [oo 2 (.mv (ci 0))]) (.seq (.seq (.reg [om 3 0, oo 4 (.ar .geq (.t 3) (.c (.int .u32 (65536))))]) (.cond (.t 4) (.seq (.reg [om 5 0, oo 6 (.sh .shr (.t 5) (.c (.int .u64 (16)))), om 0 6]) (.reg [oo 2 (.mv (ci 16))])) .skip)) (.seq (.seq (.reg [om 7 0, oo 8 (.ar .geq (.t 7) (.c (.int .u32 (256))))]) (.cond (.t 8) (.seq (.reg [om 9 0, oo 10 (.sh .shr (.t 9) (.c (.int .u64 (8)))), om 0 10]) (.reg [om 11 2, oo 12 (.ar .add (.t 11) (ci 8)), om 2 12])) .skip)) (.seq (.reg [om 13 2, om 14 0, oo 15 (.conv .u8 (.t 14)), oo 16 (.ix 256 1 (.c (.agg [(.int .u8 (0)), (.int .u8 (1)), (.int .u8 (2)), (.int .u8 (2)), (.int .u8 (3)), (.int .u8 (3)), (.int .u8 (3)), (.int .u8 (3)), (.int .u8 (4)), (.int .u8 (4)), (.int .u8 (4)), (.int .u8 (4)), (.int .u8 (4)), (.int .u8 (4)), (.int .u8 (4)), (.int .u8 (4)), (.int .u8 (5)), (.int .u8 (5)), (.int .u8 (5)), (.int .u8 (5)), (.int .u8 (5)), (.int .u8 (5)), (.int .u8 (5)), (.int .u8 (5)), (.int .u8 (5)), (.int .u8 (5)), (.int .u8 (5)), (.int .u8 (5)), (.int .u8 (5)), (.int .u8 (5)), (.int .u8 (5)), (.int .u8 (5)), (.int .u8 (6)), (.int .u8 (6)), (.int .u8 (6)), (.int .u8 (6)), (.int .u8 (6)), (.int .u8 (6)), (.int .u8 (6)), (.int .u8 (6)), (.int .u8 (6)), (.int .u8 (6)), (.int .u8 (6)), (.int .u8 (6)), (.int .u8 (6)), (.int .u8 (6)), (.int .u8 (6)), (.int .u8 (6)), (.int .u8 (6)), (.int .u8 (6)), (.int .u8 (6)), (.int .u8 (6)), (.int .u8 (6)), (.int .u8 (6)), (.int .u8 (6)), (.int .u8 (6)), (.int .u8 (6)), (.int .u8 (6)), (.int .u8 (6)), (.int .u8 (6)), (.int .u8 (6)), (.int .u8 (6)), (.int .u8 (6)), (.int .u8 (6)), (.int .u8 (7)), (.int .u8 (7)), (.int .u8 (7)), (.int .u8 (7)), (.int .u8 (7)), (.int .u8 (7)), (.int .u8 (7)), (.int .u8 (7)), (.int .u8 (7)), (.int .u8 (7)), (.int .u8 (7)), (.int .u8 (7)), (.int .u8 (7)), (.int .u8 (7)), (.int .u8 (7)), (.int .u8 (7)), (.int .u8 (7)), (.int .u8 (7)), (.int .u8 (7)), (.int .u8 (7)), (.int .u8 (7)), (.int .u8 (7)), (.int .u8 (7)), (.int .u8 (7)), (.int .u8 (7)), (.int .u8 (7)), (.int .u8 (7)), (.int .u8 (7)), (.int .u8 (7)), (.int .u8 (7)), (.int .u8 (7)), (.int .u8 (7)), (.int .u8 (7)), (.int .u8 (7)), (.int .u8 (7)), (.int .u8 (7)), (.int .u8 (7)), (.int .u8 (7)), (.int .u8 (7)), (.int .u8 (7)), (.int .u8 (7)), (.int .u8 (7)), (.int .u8 (7)), (.int .u8 (7)), (.int .u8 (7)), (.int .u8 (7)), (.int .u8 (7)), (.int .u8 (7)), (.int .u8 (7)), (.int .u8 (7)), (.int .u8 (7)), (.int .u8 (7)), (.int .u8 (7)), (.int .u8 (7)), (.int .u8 (7)), (.int .u8 (7)), (.int .u8 (7)), (.int .u8 (7)), (.int .u8 (7)), (.int .u8 (7)), (.int .u8 (7)), (.int .u8 (7)), (.int .u8 (7)), (.int .u8 (7)), (.int .u8 (8)), (.int .u8 (8)), (.int .u8 (8)), (.int .u8 (8)), (.int .u8 (8)), (.int .u8 (8)), (.int .u8 (8)), (.int .u8 (8)), (.int .u8 (8)), (.int .u8 (8)), (.int .u8 (8)), (.int .u8 (8)), (.int .u8 (8)), (.int .u8 (8)), (.int .u8 (8)), (.int .u8 (8)), (.int .u8 (8)), (.int .u8 (8)), (.int .u8 (8)), (.int .u8 (8)), (.int .u8 (8)), (.int .u8 (8)), (.int .u8 (8)), (.int .u8 (8)), (.int .u8 (8)), (.int .u8 (8)), (.int .u8 (8)), (.int .u8 (8)), (.int .u8 (8)), (.int .u8 (8)), (.int .u8 (8)), (.int .u8 (8)), (.int .u8 (8)), (.int .u8 (8)), (.int .u8 (8)), (.int .u8 (8)), (.int .u8 (8)), (.int .u8 (8)), (.int .u8 (8)), (.int .u8 (8)), (.int .u8 (8)), (.int .u8 (8)), (.int .u8 (8)), (.int .u8 (8)), (.int .u8 (8)), (.int .u8 (8)), (.int .u8 (8)), (.int .u8 (8)), (.int .u8 (8)), (.int .u8 (8)), (.int .u8 (8)), (.int .u8 (8)), (.int .u8 (8)), (.int .u8 (8)), (.int .u8 (8)), (.int .u8 (8)), (.int .u8 (8)), (.int .u8 (8)), (.int .u8 (8)), (.int .u8 (8)), (.int .u8 (8)), (.int .u8 (8)), (.int .u8 (8)), (.int .u8 (8)), (.int .u8 (8)), (.int .u8 (8)), (.int .u8 (8)), (.int .u8 (8)), (.int .u8 (8)), (.int .u8 (8)), (.int .u8 (8)), (.int .u8 (8)), (.int .u8 (8)), (.int .u8 (8)), (.int .u8 (8)), (.int .u8 (8)), (.int .u8 (8)), (.int .u8 (8)), (.int .u8 (8)), (.int .u8 (8)), (.int .u8 (8)), (.int .u8 (8)), (.int .u8 (8)), (.int .u8 (8)), (.int .u8 (8)), (.int .u8 (8)), (.int .u8 (8)), (.int .u8 (8)), (.int .u8 (8)), (.int .u8 (8)), (.int .u8 (8)), (.int .u8 (8)), (.int .u8 (8)), (.int .u8 (8)), (.int .u8 (8)), (.int .u8 (8)), (.int .u8 (8)), (.int .u8 (8)), (.int .u8 (8)), (.int .u8 (8)), (.int .u8 (8)), (.int .u8 (8)), (.int .u8 (8)), (.int .u8 (8)), (.int .u8 (8)), (.int .u8 (8)), (.int .u8 (8)), (.int .u8 (8)), (.int .u8 (8)), (.int .u8 (8)), (.int .u8 (8)), (.int .u8 (8)), (.int .u8 (8)), (.int .u8 (8)), (.int .u8 (8)), (.int .u8 (8)), (.int .u8 (8)), (.int .u8 (8)), (.int .u8 (8)), (.int .u8 (8)), (.int .u8 (8)), (.int .u8 (8)), (.int .u8 (8)), (.int .u8 (8)), (.int .u8 (8)), (.int .u8 (8)), (.int .u8 (8)), (.int .u8 (8))])) (.t 15)), oo 17 (.conv .i64 (.t 16)), oo 18 (.ar .add (.t 13) (.t 17)), om 2 18]) .ret)))), 19, [(.tmp 2)], false, fun _ => none, fun _ _ => none⟩
def c144 : CFn := ⟨(.seq (.reg [oo 2 (.mv (ci 0))]) (.seq (.seq (.reg [om 3 0, oo 4 (.ar .geq (.t 3) (.c (.int .u64 (4294967296))))]) (.cond (.t 4) (.seq (.reg [om 5 0, oo 6 (.sh .shr (.t 5) (.c (.int .u64 (32)))), om 0 6]) (.reg [oo 2 (.mv (ci 32))])) .skip)) (.seq (.seq (.reg [om 7 0, oo 8 (.ar .geq (.t 7) (.c (.int .u64 (65536))))]) (.cond (.t 8) (.seq (.reg [om 9 0, oo 10 (.sh .shr (.t 9) (.c (.int .u64 (16)))), om 0 10]) (.reg [om 11 2, oo 12 (.ar .add (.t 11) (ci 16)), om 2 12])) .skip)) (.seq (.seq (.reg [om 13 0, oo 14 (.ar .geq (.t 13) (.c (.int .u64 (256))))]) (.cond (.t 14) (.seq (.reg [om 15 0, oo 16 (.sh .shr (.t 15) (.c (.int .u64 (8)))), om 0 16]) (.reg [om 17 2, oo 18 (.ar .add (.t 17) (ci 8)), om 2 18])) .skip)) (.seq (.reg [om 19 2, om 20 0, oo 21 (.conv .u8 (.t 20)), oo 22 (.ix 256 1 (.c (.agg [(.int .u8 (0)), (.int .u8 (1)), (.int .u8 (2)), (.int .u8 (2)), (.int .u8 (3)), (.int .u8 (3)), (.int .u8 (3)), (.int .u8 (3)), (.int .u8 (4)), (.int .u8 (4)), (.int .u8 (4)), (.int .u8 (4)), (.int .u8 (4)), (.int .u8 (4)), (.int .u8 (4)), (.int .u8 (4)), (.int .u8 (5)), (.int .u8 (5)), (.int .u8 (5)), (.int .u8 (5)), (.int .u8 (5)), (.int .u8 (5)), (.int .u8 (5)), (.int .u8 (5)), (.int .u8 (5)), (.int .u8 (5)), (.int .u8 (5)), (.int .u8 (5)), (.int .u8 (5)), (.int .u8 (5)), (.int .u8 (5)), (.int .u8 (5)), (.int .u8 (6)), (.int .u8 (6)), (.int .u8 (6)), (.int .u8 (6)), (.int .u8 (6)), (.int .u8 (6)), (.int .u8 (6)), (.int .u8 (6)), (.int .u8 (6)), (.int .u8 (6)), (.int .u8 (6)), (.int .u8 (6)), (.int .u8 (6)), (.int .u8 (6)), (.int .u8 (6)), (.int .u8 (6)), (.int .u8 (6)), (.int .u8 (6)), (.int .u8 (6)), (.int .u8 (6)), (.int .u8 (6)), (.int .u8 (6)), (.int .u8 (6)), (.int .u8 (6)), (.int .u8 (6)), (.int .u8 (6)), (.int .u8 (6)), (.int .u8 (6)), (.int .u8 (6)), (.int .u8 (6)), (.int .u8 (6)), (.int .u8 (6)), (.int .u8 (7)), (.int .u8 (7)), (.int .u8 (7)), (.int .u8 (7)), (.int .u8 (7)), (.int .u8 (7)), (.int .u8 (7)), (.int .u8 (7)), (.int .u8 (7)), (.int .u8 (7)), (.int .u8 (7)), (.int .u8 (7)), (.int .u8 (7)), (.int .u8 (7)), (.int .u8 (7)), (.int .u8 (7)), (.int .u8 (7)), (.int .u8 (7)), (.int .u8 (7)), (.int .u8 (7)), (.int .u8 (7)), (.int .u8 (7)), (.int .u8 (7)), (.int .u8 (7)), (.int .u8 (7)), (.int .u8 (7)), (.int .u8 (7)), (.int .u8 (7)), (.int .u8 (7)), (.int .u8 (7)), (.int .u8 (7)), (.int .u8 (7)), (.int .u8 (7)), (.int .u8 (7)), (.int .u8 (7)), (.int .u8 (7)), (.int .u8 (7)), (.int .u8 (7)), (.int .u8 (7)), (.int .u8 (7)), (.int .u8 (7)), (.int .u8 (7)), (.int .u8 (7)), (.int .u8 (7)), (.int .u8 (7)), (.int .u8 (7)), (.int .u8 (7)), (.int .u8 (7)), (.int .u8 (7)), (.int .u8 (7)), (.int .u8 (7)), (.int .u8 (7)), (.int .u8 (7)), (.int .u8 (7)), (.int .u8 (7)), (.int .u8 (7)), (.int .u8 (7)), (.int .u8 (7)), (.int .u8 (7)), (.int .u8 (7)), (.int .u8 (7)), (.int .u8 (7)), (.int .u8 (7)), (.int .u8 (7)), (.int .u8 (8)), (.int .u8 (8)), (.int .u8 (8)), (.int .u8 (8)), (.int .u8 (8)), (.int .u8 (8)), (.int .u8 (8)), (.int .u8 (8)), (.int .u8 (8)), (.int .u8 (8)), (.int .u8 (8)), (.int .u8 (8)), (.int .u8 (8)), (.int .u8 (8)), (.int .u8 (8)), (.int .u8 (8)), (.int .u8 (8)), (.int .u8 (8)), (.int .u8 (8)), (.int .u8 (8)), (.int .u8 (8)), (.int .u8 (8)), (.int .u8 (8)), (.int .u8 (8)), (.int .u8 (8)), (.int .u8 (8)), (.int .u8 (8)), (.int .u8 (8)), (.int .u8 (8)), (.int .u8 (8)), (.int .u8 (8)), (.int .u8 (8)), (.int .u8 (8)), (.int .u8 (8)), (.int .u8 (8)), (.int .u8 (8)), (.int .u8 (8)), (.int .u8 (8)), (.int .u8 (8)), (.int .u8 (8)), (.int .u8 (8)), (.int .u8 (8)), (.int .u8 (8)), (.int .u8 (8)), (.int .u8 (8)), (.int .u8 (8)), (.int .u8 (8)), (.int .u8 (8)), (.int .u8 (8)), (.int .u8 (8)), (.int .u8 (8)), (.int .u8 (8)), (.int .u8 (8)), (.int .u8 (8)), (.int .u8 (8)), (.int .u8 (8)), (.int .u8 (8)), (.int .u8 (8)), (.int .u8 (8)), (.int .u8 (8)), (.int .u8 (8)), (.int .u8 (8)), (.int .u8 (8)), (.int .u8 (8)), (.int .u8 (8)), (.int .u8 (8)), (.int .u8 (8)), (.int .u8 (8)), (.int .u8 (8)), (.int .u8 (8)), (.int .u8 (8)), (.int .u8 (8)), (.int .u8 (8)), (.int .u8 (8)), (.int .u8 (8)), (.int .u8 (8)), (.int .u8 (8)), (.int .u8 (8)), (.int .u8 (8)), (.int .u8 (8)), (.int .u8 (8)), (.int .u8 (8)), (.int .u8 (8)), (.int .u8 (8)), (.int .u8 (8)), (.int .u8 (8)), (.int .u8 (8)), (.int .u8 (8)), (.int .u8 (8)), (.int .u8 (8)), (.int .u8 (8)), (.int .u8 (8)), (.int .u8 (8)), (.int .u8 (8)), (.int .u8 (8)), (.int .u8 (8)), (.int .u8 (8)), (.int .u8 (8)), (.int .u8 (8)), (.int .u8 (8)), (.int .u8 (8)), (.int .u8 (8)), (.int .u8 (8)), (.int .u8 (8)), (.int .u8 (8)), (.int .u8 (8)), (.int .u8 (8)), (.int .u8 (8)), (.int .u8 (8)), (.int .u8 (8)), (.int .u8 (8)), (.int .u8 (8)), (.int .u8 (8)), (.int .u8 (8)), (.int .u8 (8)), (.int .u8 (8)), (.int .u8 (8)), (.int .u8 (8)), (.int .u8 (8)), (.int .u8 (8)), (.int .u8 (8)), (.int .u8 (8)), (.int .u8 (8)), (.int .u8 (8)), (.int .u8 (8)), (.int .u8 (8)), (.int .u8 (8)), (.int .u8 (8))])) (.t 21)), oo 23 (.conv .i64 (.t 22)), oo 24 (.ar .add (.t 19) (.t 23)), om 2 24]) .ret))))), 25, [(.tmp 2)], false, fun _ => none, fun _ _ => none⟩
def c145 : CFn := ⟨(.seq (.reg [oo 4 (.mv (ci 0))]) (.seq (.seq (.reg [om 6 0, oo 7 (.len (.t 6)), oo 8 (.mv (ci 0))]) (.block 0 (.loop 387 (.seq (.reg [oo 9 (.ar .lss (.t 8) (.t 7))]) (.seq (.cond (.t 9) .skip (.exit 0)) (.seq (.block 1 (.seq (.reg [om 10 8, om 5 10]) (.seq (.reg [om 11 1, om 12 0, om 13 5, oo 14 (.ias 3 (.t 12) (.t 13)), oo 15 (.ldn 3 (.t 14)), oo 16 (.call (.t 11) [(.t 15)])]) (.cond (.t 16) (.seq (.reg [om 17 5, om 4 17]) .ret) .skip)))) (.reg [oo 18 (.ar .add (.t 8) (ci 1)), om 8 18]))))))) (.seq (.reg [oo 4 (.mv (ci (-1)))]) .ret))), 19, [(.tmp 4)], false, fun _ => none, fun _ _ => none⟩
def c146 : CFn := ⟨(.seq (.reg [oo 4 (.mv (ci 0))]) (.seq (.seq (.reg [om 6 0, oo 7 (.len (.t 6)), oo 8 (.mv (ci 0))]) (.block 0 (.loop 387 (.seq (.reg [oo 9 (.ar .lss (.t 8) (.t 7))]) (.seq (.cond (.t 9) .skip (.exit 0)) (.seq (.block 1 (.seq (.reg [om 10 8, om 5 10]) (.seq (.reg [om 11 1, om 12 0, om 13 5, oo 14 (.ias 4 (.t 12) (.t 13)), oo 15 (.ldn 4 (.t 14)), oo 16 (.call (.t 11) [(.t 15)])]) (.cond (.t 16) (.seq (.reg [om 17 5, om 4 17]) .ret) .skip)))) (.reg [oo 18 (.ar .add (.t 8) (ci 1)), om 8 18]))))))) (.seq (.reg [oo 4 (.mv (ci (-1)))]) .ret))), 19, [(.tmp 4)], false, fun _ => none, fun _ _ => none⟩
def c147 : CFn := ⟨(.seq (.reg [oo 3 (.box (.t 1)), oo 4 (.mv (.c (.bool false)))]) (.seq (.drw [om 5 0, oo 6 (.chk (.t 5)), oo 7 (.fa 7 (.t 6)), oo 8 (.ld (.t 7)), om 9 8, og 10 (.fa 0 (.t 3)) 9 true, og 11 (.ld (.t 10)) 9 true, ⟨(some 12), (.mv (.t 0)), (some (9, true)), [5, 6]⟩, ⟨(some 13), (.chk (.t 12)), (some (9, true)), [5, 6]⟩, ⟨(some 14), (.fa 5 (.t 13)), (some (9, true)), [5, 6]⟩, ⟨(some 15), (.fa 0 (.t 14)), (some (9, true)), [5, 6]⟩, ⟨(some 16), (.ld (.t 15)), (some (9, true)), [5, 6]⟩, og 17 (.ar .sub (.t 11) (.t 16)) 9 true, ⟨(some 18), (.fa 1 (.t 3)), (some (9, true)), [5, 6, 7, 8, 9, 10, 11, 12]⟩, ⟨(some 19), (.ld (.t 18)), (some (9, true)), [5, 6, 7, 8, 9, 10, 11, 12]⟩, ⟨(some 20), (.mv (.t 0)), (some (9, true)), [5, 6, 7, 8, 9, 10, 11, 12, 13, 14]⟩, ⟨(some 21), (.chk (.t 20)), (some (9, true)), [5, 6, 7, 8, 9, 10, 11, 12, 13, 14]⟩, ⟨(some 22), (.fa 5 (.t 21)), (some (9, true)), [5, 6, 7, 8, 9, 10, 11, 12, 13, 14]⟩, ⟨(some 23), (.fa 1 (.t 22)), (some (9, true)), [5, 6, 7, 8, 9, 10, 11, 12, 13, 14]⟩, ⟨(some 24), (.ld (.t 23)), (some (9, true)), [5, 6, 7, 8, 9, 10, 11, 12, 13, 14]⟩, ⟨(some 25), (.ar .sub (.t 19) (.t 24)), (some (9, true)), [5, 6, 7, 8, 9, 10, 11, 12]⟩, og 26 (.bsl 1 2 [(.int .i64 (0))] [(0, (.t 17)), (1, (.t 25))]) 9 true, og 27 (cl 67 [(.t 26)]) 9 true, og 28 (.ar .geq (.t 27) (ci 0)) 9 true, oo 29 (.pick (.t 9) (.t 28) (.c (.bool false))), om 4 29]) .ret)), 30, [(.tmp 4)], false, fun _ => none, fun _ _ => none⟩
def c148 : CFn := ⟨(.seq (.reg [oo 2 (.mv (.c .nils))]) (.seq (.seq (.reg [om 3 0, oo 4 (.snil false (.t 3) (.c .nils))]) (.cond (.t 4) (.seq (.reg [oo 2 (.mv (.c .nils))]) .ret) .skip)) (.seq (.reg [oo 5 (.bsl 1 0 [(.int .i64 (0))] []), om 6 0, oo 7 (.app 1 (.t 5) (.t 6)), om 2 7]) .ret))), 8, [(.tmp 2)], false, fun _ => none, fun _ _ => none⟩
def c149 : CFn := ⟨(.seq (.reg [oo 2 (.mv (.c .nils))]) (.seq (.reg [om 3 0, om 4 0, oo 5 (.len (.t 4)), om 6 0, oo 7 (.len (.t 6)), oo 8 (.slc 1 (.t 3) none (some (.t 5)) (some (.t 7))), om 2 8]) .ret)), 9, [(.tmp 2)], false, fun _ => none, fun _ _ => none⟩
def c150 : CFn := ⟨(.seq (.reg [oo 2 (.mv (.c (.bool false)))]) (.seq (.reg [om 3 0, om 4 0, oo 5 (.ar .neq (.t 3) (.t 4)), om 2 5]) .ret)), 6, [(.tmp 2)], false, fun _ => none, fun _ _ => none⟩
def c161 : CFn := ⟨(.seq (.reg [oo 2 (.box (.t 0)), oo 4 (.mv (.c .nils))]) (.seq (.seq (.reg [om 6 1]) (.block 0 (.rf (.t 6) [7] (.reg [om 5 7]) (.block 1 (.reg [oo 8 (.ld (.t 2)), om 9 5, oo 10 (.bsl 1 1 [(.int .i64 (0))] [(0, (.t 9))]), oo 11 (.app 1 (.t 8) (.t 10)), ⟨none, (.st 1 (.t 2) (.t 11)), none, []⟩]))))) (.seq (.reg [oo 12 (.ld (.t 2)), om 4 12]) .ret))), 13, [(.tmp 4)], false, fun _ => none, fun _ _ => none⟩
def c162 : CFn := ⟨(.seq (.reg [oo 8 (.mv (.c (.bool true)))]) (.seq (.reg [oo 9 (.mv (.c (.bool true)))]) (.block 0 (.loop 783 (.block 1 (.seq (.reg [om 19 2, om 20 1, oo 21 (.ar .sub (.t 19) (.t 20)), om 10 21]) (.seq (.seq (.reg [om 22 10, oo 23 (.ar .leq (.t 22) (ci 12))]) (.cond (.t 23) (.seq (.reg [om 24 0, om 25 1, om 26 2, oo 27 (cl 169 [(.t 24), (.t 25), (.t 26)])]) .ret) .skip)) (.seq (.seq (.reg [om 28 3, oo 29 (.ar .eql (.t 28) (ci 0))]) (.cond (.t 29) (.seq (.reg [om 30 0, om 31 1, om 32 2, oo 33 (cl 170 [(.t 30), (.t 31), (.t 32)])]) .ret) .skip)) (.seq (.seq (.reg [om 34 8, oo 35 (.un .not (.t 34))]) (.cond (.t 35) (.seq (.reg [om 36 0, om 37 1, om 38 2, oo 39 (cl 171 [(.t 36), (.t 37), (.t 38)])]) (.reg [om 40 3, oo 41 (.ar .sub (.t 40) (ci 1)), om 3 41])) .skip)) (.seq (.reg [om 43 0, om 44 1, om 45 2, oo 46 (cl 172 [(.t 43), (.t 44), (.t 45)]), om 42 46, oo 47 (.ext 0 (.t 42)), oo 48 (.ext 1 (.t 42)), om 11 47, om 12 48]) (.seq (.seq (.reg [om 49 12, oo 50 (.ar .eql (.t 49) (ci 2))]) (.cond (.t 50) (.seq (.reg [om 51 0, om 52 1, om 53 2, oo 54 (cl 173 [(.t 51), (.t 52), (.t 53)])]) (.seq (.reg [om 55 2, oo 56 (.ar .sub (.t 55) (ci 1)), om 57 11, om 58 1, oo 59 (.ar .sub (.t 57) (.t 58)), oo 60 (.ar .sub (.t 56) (.t 59)), om 11 60]) (.reg [oo 12 (.mv (ci 1))]))) .skip)) (.seq (.seq (.reg [om 61 8, om 62 61, og 63 (.mv (.t 9)) 62 true, oo 64 (.pick (.t 62) (.t 63) (.c (.bool false))), om 65 64, og 66 (.mv (.t 12)) 65 true, og 67 (.ar .eql (.t 66) (ci 1)) 65 true, oo 68 (.pick (.t 65) (.t 67) (.c (.bool false)))]) (.cond (.t 68) (.seq (.reg [om 69 0, om 70 1, om 71 2, oo 72 (cl 174 [(.t 69), (.t 70), (.t 71)])]) (.cond (.t 72) .ret .skip)) .skip)) (.seq (.seq (.drw [om 73 1, oo 74 (.ar .gtr (.t 73) (ci 0)), om 75 74, og 76 (.mv (.t 0)) 75 true, ⟨(some 77), (.mv (.t 1)), (some (75, true)), [3]⟩, ⟨(some 78), (.ar .sub (.t 77) (ci 1)), (some (75, true)), [3]⟩, og 79 (.ias 1 (.t 76) (.t 78)) 75 true, og 80 (.ld (.t 79)) 75 true, ⟨(some 81), (.mv (.t 0)), (some (75, true)), [3, 4, 5, 6, 7]⟩, ⟨(some 82), (.mv (.t 11)), (some (75, true)), [3, 4, 5, 6, 7, 8]⟩, ⟨(some 83), (.ias 1 (.t 81) (.t 82)), (some (75, true)), [3, 4, 5, 6, 7]⟩, ⟨(some 84), (.ld (.t 83)), (some (75, true)), [3, 4, 5, 6, 7]⟩, og 85 (cl 175 [(.t 80), (.t 84)]) 75 true, og 86 (.un .not (.t 85)) 75 true, oo 87 (.pick (.t 75) (.t 86) (.c (.bool false)))]) (.cond (.t 87) (.seq (.reg [om 88 0, om 89 1, om 90 2, om 91 11, oo 92 (cl 176 [(.t 88), (.t 89), (.t 90), (.t 91)]), om 13 92]) (.seq (.reg [om 93 13, om 1 93]) (.exit 1))) .skip)) (.seq (.reg [om 95 0, om 96 1, om 97 2, om 98 11, oo 99 (cl 177 [(.t 95), (.t 96), (.t 97), (.t 98)]), om 94 99, oo 100 (.ext 0 (.t 94)), oo 101 (.ext 1 (.t 94)), om 14 100, om 15 101]) (.seq (.reg [om 102 15, om 9 102]) (.seq (.reg [om 103 14, om 104 1, oo 105 (.ar .sub (.t 103) (.t 104)), om 106 2, om 107 14, oo 108 (.ar .sub (.t 106) (.t 107)), om 16 105, om 17 108]) (.seq (.reg [om 109 10, oo 110 (.ar .quo (.t 109) (ci 8)), om 18 110]) (.seq (.reg [om 111 16, om 112 17, oo 113 (.ar .lss (.t 111) (.t 112))]) (.cond (.t 113) (.seq (.reg [om 114 16, om 115 18, oo 116 (.ar .geq (.t 114) (.t 115)), om 8 116]) (.seq (.reg [om 117 0, om 118 1, om 119 14, om 120 3, oo 121 (cl 162 [(.t 117), (.t 118), (.t 119), (.t 120)])]) (.reg [om 122 14, oo 123 (.ar .add (.t 122) (ci 1)), om 1 123]))) (.seq (.reg [om 124 17, om 125 18, oo 126 (.ar .geq (.t 124) (.t 125)), om 8 126]) (.seq (.reg [om 127 0, om 128 14, oo 129 (.ar .add (.t 128) (ci 1)), om 130 2, om 131 3, oo 132 (cl 162 [(.t 127), (.t 129), (.t 130), (.t 131)])]) (.reg [om 133 14, om 2 133])))))))))))))))))))))), 134, [], false, fun _ => none, fun _ _ => none⟩
def c169 : CFn := ⟨(.seq (.reg [om 8 1, oo 9 (.ar .add (.t 8) (ci 1)), om 6 9]) (.block 0 (.loop 71 (.seq (.seq (.reg [om 10 6, om 11 2, oo 12 (.ar .lss (.t 10) (.t 11))]) (.cond (.t 12) .skip (.exit 0))) (.seq (.block 1 (.seq (.reg [om 15 6, om 7 15]) (.block 2 (.loop 199 (.seq (.seq (.drw [om 16 7, op 17 (.mv (.t 1)) [0], oo 18 (.ar .gtr (.t 16) (.t 17)), om 19 18, og 20 (.mv (.t 0)) 19 true, ⟨(some 21), (.mv (.t 7)), (some (19, true)), [4]⟩, og 22 (.ias 1 (.t 20) (.t 21)) 19 true, og 23 (.ld (.t 22)) 19 true, ⟨(some 24), (.mv (.t 0)), (some (19, true)), [4, 5, 6, 7]⟩, ⟨(some 25), (.mv (.t 7)), (some (19, true)), [4, 5, 6, 7, 8]⟩, ⟨(some 26), (.ar .sub (.t 25) (ci 1)), (some (19, true)), [4, 5, 6, 7, 8]⟩, ⟨(some 27), (.ias 1 (.t 24) (.t 26)), (some (19, true)), [4, 5, 6, 7]⟩, ⟨(some 28), (.ld (.t 27)), (some (19, true)), [4, 5, 6, 7]⟩, og 29 (cl 175 [(.t 23), (.t 28)]) 19 true, oo 30 (.pick (.t 19) (.t 29) (.c (.bool false)))]) (.cond (.t 30) .skip (.exit 2))) (.seq (.block 3 (.drw [om 33 0, op 34 (.mv (.t 7)) [0], op 35 (.mv (.t 0)) [0, 1], op 36 (.mv (.t 7)) [0, 1, 2], op 37 (.ar .sub (.t 36) (ci 1)) [0, 1, 2], op 38 (.mv (.t 0)) [0, 1, 2, 3, 4], op 39 (.mv (.t 7)) [0, 1, 2, 3, 4, 5], op 40 (.ar .sub (.t 39) (ci 1)) [0, 1, 2, 3, 4, 5], op 41 (.ias 1 (.t 38) (.t 40)) [0, 1, 2, 3, 4], op 42 (.ld (.t 41)) [0, 1, 2, 3, 4], op 43 (.mv (.t 0)) [0, 1, 2, 3, 4, 5, 6, 7, 8, 9], op 44 (.mv (.t 7)) [0, 1, 2, 3, 4, 5, 6, 7, 8, 9, 10], op 45 (.ias 1 (.t 43) (.t 44)) [0, 1, 2, 3, 4, 5, 6, 7, 8, 9], op 46 (.ld (.t 45)) [0, 1, 2, 3, 4, 5, 6, 7, 8, 9], op 47 (.ias 1 (.t 33) (.t 34)) [2, 3, 4], ⟨none, (.st 1 (.t 47) (.t 42)), none, [2, 3, 4]⟩, oo 48 (.ias 1 (.t 35) (.t 37)), ⟨none, (.st 1 (.t 48) (.t 46)), none, []⟩])) (.reg [om 31 7, oo 32 (.ar .sub (.t 31) (ci 1)), om 7 32]))))))) (.reg [om 13 6, oo 14 (.ar .add (.t 13) (ci 1)), om 6 14])))))), 49, [], false, fun _ => none, fun _ _ => none⟩
def c175 : CFn := ⟨(.seq (.reg [oo 4 (.mv (.c (.bool false)))]) (.seq (.reg [om 5 0, oo 6 (cl 150 [(.t 5)]), om 7 6, og 8 (.mv (.t 1)) 7 true, og 9 (cl 150 [(.t 8)]) 7 true, og 10 (.un .not (.t 9)) 7 true, oo 11 (.pick (.t 7) (.t 10) (.c (.bool false))), om 12 11, og 13 (.mv (.t 0)) 12 false, og 14 (.mv (.t 1)) 12 false, og 15 (.ar .lss (.t 13) (.t 14)) 12 false, oo 16 (.pick (.t 12) (.c (.bool true)) (.t 15)), om 4 16]) .ret)), 17, [(.tmp 4)], false, fun _ => none, fun _ _ => none⟩
def tbl : List (Option CFn) := [none, none, none, none, none, none, none, none, none, none, some c10, none, none, none, none, some c15, some c16, some c17, some c18, some c19, some c20, none, none, some c23, none, none, none, none, none, some c29, some c30, none, none, some c33, none, some c35, none, none, some c38, none, none, some c41, some c42, some c43, some c44, none, some c46, none, none, none, none, none, none, none, none, none, none, some c57, some c58, some c59, some c60, some c61, some c62, some c63, some c64, some c65, some c66, some c67, none, none, some c70, some c71, some c72, none, some c74, some c75, some c76, some c77, none, none, some c80, some c81, some c82, some c83, some c84, some c85, some c86, some c87, none, none, none, none, some c92, none, some c94, none, none, none, none, none, some c100, some c101, some c102, some c103, some c104, some c105, some c106, some c107, some c108, some c109, some c110, some c111, some c112, some c113, some c114, some c115, some c116, none, some c118, none, none, none, none, none, none, none, none, none, none, none, none, some c131, some c132, some c133, some c134, some c135, none, none, none, none, none, none, none, some c143, some c144, some c145, some c146, some c147, some c148, some c149, some c150, none, none, none, none, none, none, none, none, none, none, some c161, some c162, none, none, none, none, none, none, some c169, none, none, none, none, none, some c175, none, none, none, none, none, none, none]
def T (f : Nat) : Option CFn := match nth tbl f with
 | some (some c) => some c
 | _ => none
end
end Go.Proofs.YtjjapdagllclkaaGreat.Tab
set_option maxRecDepth 1000000
namespace Go.Proofs.YtjjapdagllclkaaGreat.Tab
open Go Go.Abs Go.Proofs
noncomputable section
def GG : Nat → Option (List Za) := fun _ => none
theorem mixed : Tryz.prog.follows .mixedOrders = true := by kernel_rfl
theorem zF {f : Nat} {cf : CFn} {fn : Func} (hf : Tryz.prog.funcs[f]? = some fn) (hb : (match fn.body with | some c => YG Tryz.prog GG c | none => none) = some (strip cf.body) := by kernel_rfl)
  (hn : (fn.name == "runtime.NumGoroutine") = false := by kernel_rfl) (ht : fn.ntmps = cf.ntmps := by kernel_rfl) (hr : compR Tryz.prog fn.results.toList = some cf.res := by kernel_rfl) (ho : cf.orc = fun _ => none := by rfl) (hf' : cf.eff = fun _ _ => none := by rfl) : Xx Tryz.prog GG f cf := fnOk hf hb hn ht hr ho hf'
theorem ok10 : Xx Tryz.prog GG 10 c10 := zF Tryz.func10
theorem ok15 : Xx Tryz.prog GG 15 c15 := zF Tryz.func15
theorem ok16 : Xx Tryz.prog GG 16 c16 := zF Tryz.func16
theorem ok17 : Xx Tryz.prog GG 17 c17 := zF Tryz.func17
theorem ok18 : Xx Tryz.prog GG 18 c18 := zF Tryz.func18
theorem ok19 : Xx Tryz.prog GG 19 c19 := zF Tryz.func19
theorem ok20 : Xx Tryz.prog GG 20 c20 := zF Tryz.func20
theorem ok23 : Xx Tryz.prog GG 23 c23 := zF Tryz.func23
theorem ok29 : Xx Tryz.prog GG 29 c29 := zF Tryz.func29
theorem ok30 : Xx Tryz.prog GG 30 c30 := zF Tryz.func30
theorem ok33 : Xx Tryz.prog GG 33 c33 := zF Tryz.func33
theorem ok35 : Xx Tryz.prog GG 35 c35 := zF Tryz.func35
theorem ok38 : Xx Tryz.prog GG 38 c38 := zF Tryz.func38
theorem ok41 : Xx Tryz.prog GG 41 c41 := zF Tryz.func41
theorem ok42 : Xx Tryz.prog GG 42 c42 := zF Tryz.func42
theorem ok43 : Xx Tryz.prog GG 43 c43 := zF Tryz.func43
theorem ok44 : Xx Tryz.prog GG 44 c44 := zF Tryz.func44
theorem ok46 : Xx Tryz.prog GG 46 c46 := zF Tryz.func46
theorem ok57 : Xx Tryz.prog GG 57 c57 := zF Tryz.func57
theorem ok58 : Xx Tryz.prog GG 58 c58 := zF Tryz.func58
theorem ok59 : Xx Tryz.prog GG 59 c59 := zF Tryz.func59
theorem ok60 : Xx Tryz.prog GG 60 c60 := zF Tryz.func60
theorem ok61 : Xx Tryz.prog GG 61 c61 := zF Tryz.func61
theorem ok62 : Xx Tryz.prog GG 62 c62 := zF Tryz.func62
theorem ok63 : Xx Tryz.prog GG 63 c63 := zF Tryz.func63
theorem ok64 : Xx Tryz.prog GG 64 c64 := zF Tryz.func64
theorem ok65 : Xx Tryz.prog GG 65 c65 := zF Tryz.func65
theorem ok66 : Xx Tryz.prog GG 66 c66 := zF Tryz.func66
theorem ok67 : Xx Tryz.prog GG 67 c67 := zF Tryz.func67
theorem ok70 : Xx Tryz.prog GG 70 c70 := zF Tryz.func70
theorem ok71 : Xx Tryz.prog GG 71 c71 := zF Tryz.func71
theorem ok72 : Xx Tryz.prog GG 72 c72 := zF Tryz.func72
theorem ok74 : Xx Tryz.prog GG 74 c74 := zF Tryz.func74
theorem ok75 : Xx Tryz.prog GG 75 c75 := zF Tryz.func75
theorem ok76 : Xx Tryz.prog GG 76 c76 := zF Tryz.func76
theorem ok77 : Xx Tryz.prog GG 77 c77 := zF Tryz.func77
theorem ok80 : Xx Tryz.prog GG 80 c80 := zF Tryz.func80
theorem ok81 : Xx Tryz.prog GG 81 c81 := zF Tryz.func81
theorem ok82 : Xx Tryz.prog GG 82 c82 := zF Tryz.func82
theorem ok83 : Xx Tryz.prog GG 83 c83 := zF Tryz.func83
theorem ok84 : Xx Tryz.prog GG 84 c84 := zF Tryz.func84
theorem ok85 : Xx Tryz.prog GG 85 c85 := zF Tryz.func85
theorem ok86 : Xx Tryz.prog GG 86 c86 := zF Tryz.func86
theorem ok87 : Xx Tryz.prog GG 87 c87 := zF Tryz.func87
theorem ok92 : Xx Tryz.prog GG 92 c92 := zF Tryz.func92
theorem ok94 : Xx Tryz.prog GG 94 c94 := zF Tryz.func94
theorem ok100 : Xx Tryz.prog GG 100 c100 := zF Tryz.func100
theorem ok101 : Xx Tryz.prog GG 101 c101 := zF Tryz.func101
theorem ok102 : Xx Tryz.prog GG 102 c102 := zF Tryz.func102
theorem ok103 : Xx Tryz.prog GG 103 c103 := zF Tryz.func103
theorem ok104 : Xx Tryz.prog GG 104 c104 := zF Tryz.func104
theorem ok105 : Xx Tryz.prog GG 105 c105 := zF Tryz.func105
theorem ok106 : Xx Tryz.prog GG 106 c106 := zF Tryz.func106
theorem ok107 : Xx Tryz.prog GG 107 c107 := zF Tryz.func107
theorem ok108 : Xx Tryz.prog GG 108 c108 := zF Tryz.func108
theorem ok109 : Xx Tryz.prog GG 109 c109 := zF Tryz.func109
theorem ok110 : Xx Tryz.prog GG 110 c110 := zF Tryz.func110
theorem ok111 : Xx Tryz.prog GG 111 c111 := zF Tryz.func111
theorem ok112 : Xx Tryz.prog GG 112 c112 := zF Tryz.func112
theorem ok113 : Xx Tryz.prog GG 113 c113 := zF Tryz.func113
theorem ok114 : Xx Tryz.prog GG 114 c114 := zF Tryz.func114
theorem ok115 : Xx Tryz.prog GG 115 c115 := zF Tryz.func115
theorem ok116 : Xx Tryz.prog GG 116 c116 := zF Tryz.func116
theorem ok118 : Xx Tryz.prog GG 118 c118 := zF Tryz.func118
theorem ok131 : Xx Tryz.prog GG 131 c131 := zF Tryz.func131
theorem ok132 : Xx Tryz.prog GG 132 c132 := zF Tryz.func132
theorem ok133 : Xx Tryz.prog GG 133 c133 := zF Tryz.func133
theorem ok134 : Xx Tryz.prog GG 134 c134 := zF Tryz.func134
theorem ok135 : Xx Tryz.prog GG 135 c135 := zF Tryz.func135
theorem ok143 : Xx Tryz.prog GG 143 c143 := zF Tryz.func143
theorem ok144 : Xx Tryz.prog GG 144 c144 := zF Tryz.func144
theorem ok145 : Xx Tryz.prog GG 145 c145 := zF Tryz.func145
theorem ok146 : Xx Tryz.prog GG 146 c146 := zF Tryz.func146
theorem ok147 : Xx Tryz.prog GG 147 c147 := zF Tryz.func147
theorem ok148 : Xx Tryz.prog GG 148 c148 := zF Tryz.func148
theorem ok149 : Xx Tryz.prog GG 149 c149 := zF Tryz.func149
theorem ok150 : Xx Tryz.prog GG 150 c150 := zF Tryz.func150
theorem ok161 : Xx Tryz.prog GG 161 c161 := zF Tryz.func161
theorem ok162 : Xx Tryz.prog GG 162 c162 := zF Tryz.func162
theorem ok169 : Xx Tryz.prog GG 169 c169 := zF Tryz.func169
theorem ok175 : Xx Tryz.prog GG 175 c175 := zF Tryz.func175
theorem allOk : AllOk Tryz.prog GG 0 tbl := ⟨ok10, ok15, ok16, ok17, ok18, ok19, ok20, ok23, ok29, ok30, ok33, ok35, ok38, ok41, ok42, ok43, ok44, ok46, ok57, ok58, ok59, ok60, ok61, ok62, ok63, ok64, ok65, ok66, ok67, ok70, ok71, ok72, ok74, ok75, ok76, ok77, ok80, ok81, ok82, ok83, ok84, ok85, ok86, ok87, ok92, ok94, ok100, ok101, ok102, ok103, ok104, ok105, ok106, ok107, ok108, ok109, ok110, ok111, ok112, ok113, ok114, ok115, ok116, ok118, ok131, ok132, ok133, ok134, ok135, ok143, ok144, ok145, ok146, ok147, ok148, ok149, ok150, ok161, ok162, ok169, ok175, trivial⟩
theorem tabOk : Zr Tryz.prog GG T := tabOk_all tbl (fun _ => rfl) allOk
end
end Go.Proofs.YtjjapdagllclkaaGreat.Tab
namespace Go.Abs
open Go
noncomputable section
def oCFg (T : Nat → Option CFn) (s : Nat) : List Za → Option Za
 | [x, .fn g a b] => match Yi x with
  | some rs => if rs.length ≤ 1000 ∧ rs.all (fun r => r.length == s) = true then (match idxA (fun r => known T g (a ++ [elt r] ++ b)) 0 rs with
   | some i => some (.bool (decide (0 ≤ i)))
   | none => none) else none
  | none => none
 | _ => none
theorem oCFg_any {T : Nat → Option CFn} {s : Nat} {x : Za} {g : Nat} {a b : List Za} {rs : List (List Za)} {p : List Za → Bool} (hx : Yi x = some rs) (hl : rs.length ≤ 1000) (hr : ∀ r ∈ rs, r.length = s)
  (h : ∀ r ∈ rs, known T g (a ++ [elt r] ++ b) = some (.bool (p r))) : oCFg T s [x, .fn g a b] = some (.bool (rs.any p)) := by
 obtain ⟨i, h1, h2⟩ := idxA_any rs h
 have hr' : rs.all (fun r => r.length == s) = true := by simpa using hr
 simp only [oCFg, hx, h1, h2, hl, hr', and_self, if_true]
theorem len1 {r : List Za} (hl : r.length = 1) : ∃ a, r = [a] := by
 rcases r with _ | ⟨a, _ | ⟨b, r⟩⟩ <;> simp at hl
 exact ⟨a, rfl⟩
theorem len2 {r : List Za} (hl : r.length = 2) : ∃ a b, r = [a, b] := by
 rcases r with _ | ⟨a, r⟩ <;> simp at hl
 obtain ⟨b, rfl⟩ := len1 hl
 exact ⟨a, b, rfl⟩
theorem len3 {r : List Za} (hl : r.length = 3) : ∃ a b c, r = [a, b, c] := by
 rcases r with _ | ⟨a, r⟩ <;> simp at hl
 obtain ⟨b, c, rfl⟩ := len2 hl
 exact ⟨a, b, c, rfl⟩
theorem len4 {r : List Za} (hl : r.length = 4) : ∃ a b c d, r = [a, b, c, d] := by
 rcases r with _ | ⟨a, r⟩ <;> simp at hl
 obtain ⟨b, c, d, rfl⟩ := len3 hl
 exact ⟨a, b, c, d, rfl⟩
theorem optAll_at {α β : Type} {f : α → Option β} {rs : List α} {xs : List β} (h : Zd f rs = some xs) : rs.length = xs.length ∧ ∀ k (hk : k < rs.length) (hk' : k < xs.length), f rs[k] = some xs[k] := Zx h
theorem optAll_any {α β : Type} {f : α → Option β} {p : β → Bool} {q : α → Bool} : ∀ {rs : List α} {xs : List β}, Zd f rs = some xs → (∀ r x, f r = some x → q r = p x) → rs.any q = xs.any p
 | [], xs, h, _ => by simp [Zd] at h; subst h; rfl
 | r :: rs, xs, h, hp => by
  simp only [Zd] at h
  split at h <;> simp at h
  rename_i y ys h1 h2
  subst h
  rw [List.any_cons, List.any_cons, hp r y h1, optAll_any h2 hp]
theorem optAll_mem {α β : Type} {f : α → Option β} : ∀ {rs : List α} {xs : List β}, Zd f rs = some xs → ∀ r ∈ rs, ∃ x ∈ xs, f r = some x
 | [], _, _, r, h => by simp at h
 | a :: rs, xs, h, r, hr => by
  simp only [Zd] at h
  split at h <;> simp at h
  rename_i y ys h1 h2
  subst h
  rcases List.mem_cons.1 hr with rfl | hr
  ·exact ⟨y, by simp, h1⟩
  ·obtain ⟨x, hx, e⟩ := optAll_mem h2 r hr
   exact ⟨x, by simp [hx], e⟩
end
end Go.Abs
namespace Go.Proofs.YtjjapdagllclkaaGreat.Tab
open Go Go.Abs Go.Proofs
theorem ZX {n : Int} (h : -9000000000000000000 ≤ n ∧ n ≤ 9000000000000000000) : W .i64 n = n := by
 simp only [W]; rw [if_pos (by omega)]
def rI (v : Int) : List Za := [I v]
def rS3 (x : YH) : List Za := [I x.1, I x.2.1, I x.2.2]
theorem zI (v : Int) : rI v = [I v] := rfl
theorem dI1_self : ∀ (xs : List Int), Zd dI1 (xs.map rI) = some xs := optAll_map (d := dI1) (enc := rI) fun _ => rfl
theorem dI1_self' : ∀ (xs : List Int), Zd dI1 (xs.map fun x => [I x]) = some xs := optAll_map (d := dI1) (enc := fun x => [I x]) fun _ => rfl
def Yd (v : Za) : Option (List Int) := match Yi v with
 | some rs => Zd dI1 rs
 | none => none
theorem dInts_rows {v : Za} {xs : List Int} (h : Yd v = some xs) : Yi v = some (xs.map rI) := by
 unfold Yd at h
 split at h
 ·rename_i rs hv
  rw [hv, optAll_eq (enc := rI) dI1_eq h]
 ·simp at h
theorem dInts_of {v : Za} {xs : List Int} (h : Yi v = some (xs.map rI)) : Yd v = some xs := by
 unfold Yd; rw [h]; exact dI1_self xs
theorem Yz {v : Za} {xs : List Int} (h : Yd v = some xs) : Zc v = some xs.length := by
 have := rowsV_len (dInts_rows h); rwa [List.length_map] at this
theorem Xh {v : Za} {xs : List Int} (h : Yd v = some xs) {k : Nat} (hk : k < xs.length) : ∃ t, v = .vl (xs.map rI) t := rowsV_get (dInts_rows h) (k := k) (by simpa using hk)
theorem dInts_cases {v : Za} {xs : List Int} (h : Yd v = some xs) : (v = .nils ∧ xs = []) ∨ ∃ t, v = .vl (xs.map rI) t := by
 rcases rowsV_cases (dInts_rows h) with ⟨h1, h2⟩ | h1
 ·exact .inl ⟨h1, List.map_eq_nil_iff.1 h2⟩
 ·exact .inr h1
def dRow1 : List Za → Option (List Int)
 | [v] => Yd v
 | _ => none
def ZI (v : Za) : Option (List (List Int)) := match Yi v with
 | some rs => Zd dRow1 rs
 | none => none
def Yg (v : Za) : Option (List YH) := match Yi v with
 | some rs => Zd dI3 rs
 | none => none
def dJob : List Za → Option FJob
 | [.int .i64 k, .int .i64 r, .int .i64 d, v] => match Yd v with
  | some ms => some ⟨k, r, d, ms⟩
  | none => none
 | _ => none
def Xj (v : Za) : Option (List FJob) := match Yi v with
 | some rs => Zd dJob rs
 | none => none
theorem dRow1_eq {r : List Za} {xs : List Int} (h : dRow1 r = some xs) : ∃ v, r = [v] ∧ Yd v = some xs := by
 unfold dRow1 at h
 split at h <;> (try simp at h)
 exact ⟨_, rfl, h⟩
theorem dJob_eq {r : List Za} {j : FJob} (h : dJob r = some j) : ∃ v, r = [I j.kind, I j.ready, I j.due, v] ∧ Yd v = some j.mins := by
 unfold dJob at h
 split at h <;> (try simp at h)
 split at h <;> simp at h
 rename_i hv
 subst h
 exact ⟨_, rfl, hv⟩
theorem dStops_rows {v : Za} {xs : List YH} (h : Yg v = some xs) : Yi v = some (xs.map rS3) := by
 unfold Yg at h
 split at h
 ·rename_i rs hv
  rw [hv, optAll_eq (enc := rS3) dI3_eq h]
 ·simp at h
theorem dStops_of {v : Za} {xs : List YH} (h : Yi v = some (xs.map rS3)) : Yg v = some xs := by
 unfold Yg; rw [h]; exact optAll_map (d := dI3) (enc := rS3) (fun _ => rfl) xs
theorem dInts2_rows {v : Za} {xs : List (List Int)} (h : ZI v = some xs) : ∃ rs, Yi v = some rs ∧ Zd dRow1 rs = some xs := by
 unfold ZI at h
 split at h
 ·rename_i rs hv; exact ⟨rs, hv, h⟩
 ·simp at h
theorem dJobs_rows {v : Za} {xs : List FJob} (h : Xj v = some xs) : ∃ rs, Yi v = some rs ∧ Zd dJob rs = some xs := by
 unfold Xj at h
 split at h
 ·rename_i rs hv; exact ⟨rs, hv, h⟩
 ·simp at h
theorem dStops_get {v : Za} {xs : List YH} (h : Yg v = some xs) {k : Nat} (hk : k < xs.length) : ∃ t, v = .vl (xs.map rS3) t := rowsV_get (dStops_rows h) (k := k) (by simpa using hk)
theorem Xn {v : Za} {xs : List (List Int)} (h : ZI v = some xs) : Zc v = some xs.length := by
 obtain ⟨rs, h1, h2⟩ := dInts2_rows h
 rw [rowsV_len h1, (optAll_at h2).1]
theorem dStops_len {v : Za} {xs : List YH} (h : Yg v = some xs) : Zc v = some xs.length := by
 have := rowsV_len (dStops_rows h); rwa [List.length_map] at this
theorem dJobs_len {v : Za} {xs : List FJob} (h : Xj v = some xs) : Zc v = some xs.length := by
 obtain ⟨rs, h1, h2⟩ := dJobs_rows h
 rw [rowsV_len h1, (optAll_at h2).1]
theorem dInts2_get {v : Za} {xs : List (List Int)} (h : ZI v = some xs) {k : Nat} (hk : k < xs.length) : ∃ rs t w, v = .vl rs t ∧ rs.length = xs.length ∧ rs[k]? = some [w] ∧ Yd w = some xs[k] := by
 obtain ⟨rs, h1, h2⟩ := dInts2_rows h
 obtain ⟨g1, g2⟩ := optAll_at h2
 obtain ⟨t, rfl⟩ := rowsV_get h1 (k := k) (by omega)
 obtain ⟨w, e, hw⟩ := dRow1_eq (g2 k (by omega) hk)
 exact ⟨rs, t, w, rfl, g1, by rw [List.getElem?_eq_getElem (by omega), e], hw⟩
theorem dJobs_get {v : Za} {xs : List FJob} (h : Xj v = some xs) {k : Nat} (hk : k < xs.length) : ∃ rs t w, v = .vl rs t ∧ rs.length = xs.length ∧ rs[k]? = some [I xs[k].kind, I xs[k].ready, I xs[k].due, w] ∧ Yd w = some xs[k].mins := by
 obtain ⟨rs, h1, h2⟩ := dJobs_rows h
 obtain ⟨g1, g2⟩ := optAll_at h2
 obtain ⟨t, rfl⟩ := rowsV_get h1 (k := k) (by omega)
 obtain ⟨w, e, hw⟩ := dJob_eq (g2 k (by omega) hk)
 exact ⟨rs, t, w, rfl, g1, by rw [List.getElem?_eq_getElem (by omega), e], hw⟩
theorem ZG {v : Za} {xs : List Int} (h : Yd v = some xs) (H : Zf) (d : Nat) : frz false H (d + 1) v = some v := rowsV_frz (dInts_rows h) H d
theorem Xo {v : Za} {xs : List (List Int)} (h : ZI v = some xs) (H : Zf) (d : Nat) : frz false H (d + 1) v = some v := let ⟨_, h1, _⟩ := dInts2_rows h; rowsV_frz h1 H d
theorem dStops_frz {v : Za} {xs : List YH} (h : Yg v = some xs) (H : Zf) (d : Nat) : frz false H (d + 1) v = some v := rowsV_frz (dStops_rows h) H d
theorem dJobs_frz {v : Za} {xs : List FJob} (h : Xj v = some xs) (H : Zf) (d : Nat) : frz false H (d + 1) v = some v := let ⟨_, h1, _⟩ := dJobs_rows h; rowsV_frz h1 H d
theorem Yc {v : Za} {xs : List Int} (h : Yd v = some xs) (n d : Nat) : rb n (d + 1) v = true := rowsV_rb (dInts_rows h) n d
theorem Xi {v : Za} {xs : List (List Int)} (h : ZI v = some xs) (n d : Nat) : rb n (d + 1) v = true := let ⟨_, h1, _⟩ := dInts2_rows h; rowsV_rb h1 n d
theorem dStops_rb {v : Za} {xs : List YH} (h : Yg v = some xs) (n d : Nat) : rb n (d + 1) v = true := rowsV_rb (dStops_rows h) n d
theorem dJobs_rb {v : Za} {xs : List FJob} (h : Xj v = some xs) (n d : Nat) : rb n (d + 1) v = true := let ⟨_, h1, _⟩ := dJobs_rows h; rowsV_rb h1 n d
theorem Zp {v : Za} {xs : List Int} (h : Yd v = some xs) : cellsOf v = some [v] ∧ Zq v = true := Xl (dInts_rows h)
theorem ZZ {v : Za} {xs : List (List Int)} (h : ZI v = some xs) : cellsOf v = some [v] ∧ Zq v = true := let ⟨_, h1, _⟩ := dInts2_rows h; Xl h1
theorem YK {v : Za} {xs : List YH} (h : Yg v = some xs) : cellsOf v = some [v] ∧ Zq v = true := Xl (dStops_rows h)
theorem dJobs_cells {v : Za} {xs : List FJob} (h : Xj v = some xs) : cellsOf v = some [v] ∧ Zq v = true := let ⟨_, h1, _⟩ := dJobs_rows h; Xl h1
def sizeOk (s : FShop) (js : List FJob) : Bool := decide (s.chg.length ≤ 100) && s.chg.all (fun l => decide (l.length ≤ 100)) && decide (s.stops.length ≤ 100) && decide (js.length ≤ 100) && js.all (fun j => decide (j.mins.length ≤ 100))
structure SizeOk (s : FShop) (js : List FJob) : Prop where
 chg : s.chg.length ≤ 100
 rows : ∀ l ∈ s.chg, l.length ≤ 100
 stops : s.stops.length ≤ 100
 jobs : js.length ≤ 100
 mins : ∀ j ∈ js, j.mins.length ≤ 100
theorem size_ok {s : FShop} {js : List FJob} : sizeOk s js = true ↔ SizeOk s js := by
 simp only [sizeOk, Bool.and_eq_true, decide_eq_true_eq, List.all_eq_true]
 exact ⟨fun ⟨⟨⟨⟨h1, h2⟩, h3⟩, h4⟩, h5⟩ => ⟨h1, h2, h3, h4, h5⟩, fun h => ⟨⟨⟨⟨h.chg, h.rows⟩, h.stops⟩, h.jobs⟩, h.mins⟩⟩
theorem ok_size {s : FShop} {js : List FJob} (h : ShopOk s js) : SizeOk s js :=
 ⟨by have := h.kinds; omega, fun l hl => by have := (h.chg l hl).1; have := h.kinds; omega, by have := h.nst; omega, by have := h.njob; omega, fun j hj => by have := (h.job j hj).2.2.2.1; have := h.mach; omega⟩
end Go.Proofs.YtjjapdagllclkaaGreat.Tab
namespace Go.Proofs.YtjjapdagllclkaaGreat.Tab
open Go Go.Abs Go.Proofs
set_option maxRecDepth 100000
set_option maxHeartbeats 4000000
set_option linter.unusedSimpArgs false
set_option linter.unusedVariables false
noncomputable section
attribute [local simp] YC Yt XV XW YZ YY XX YJ Xw Ys Zd orcF XO YX XQ XM YE Yr rb_vl rb_pv XK YW YV YU XP XL XN rb_sl rb_fn slE chunk fillA Ym ZK putAt List.range_succ List.range_zero List.range'_succ List.range'_zero ZU ZS ZF ZW ZB ZM stepX Yh dop CV.ev Yu Zv ZA Xt fI_eq YA Yy Zy Zw Out.v putT List.replicate_succ zT zB arI ZN Abs.rowAt ldRow allV toV toC ofV ofC Builtin.min_ Builtin.min2 Builtin.max_ Builtin.max2 XT XU resA tupA kill ZT Yo Yp Yn Zc
section
attribute [local simp] ZV ZD Xp YN actD clash disj Xq holes Xr ZY Xu news eqB allB eqA Xf wrote toCs ofCs stA Yq ZE Yl dI1 dI2 dI3 dI5 elt
attribute [local simp] XH XD XI XE YS XG YP XF st_pv YO st_sl st_vl YQ st_mp st_fn YR XC co_any co_und co_agg co_tup Xe co_int Xb co_ref co_pv Xa co_sl co_vl Xc co_mp co_fn Xd XZ
attribute [local simp] callA ZQ lop loud
def oWc : List Za → Option Za
  | [.int .i64 x, .pv [.int .i64 a] 0, .pv [.int .i64 b] 0] => some (.bool (decide (x < a) || decide (b < x)))
  | _ => none
def oWithin : List Za → Option Za
  | [.int .i64 a, .int .i64 b, x] => match Yi x with
    | some rs => match Zd dI1 rs with
      | some xs => if xs.length ≤ 1000 then some (.bool (wB a b xs)) else none
      | none => none
    | none => none
  | _ => none
theorem a116 (P : Program) (T : Nat → Option CFn) (hT : T 116 = some c116) (x a b : Int) : ZH P T 116 [I x, .pv [I a] 0, .pv [I b] 0] [] fun v h => frz true h 5 v = some (.bool (decide (x < a) || decide (b < x))) := by
 refine Zs hT (Zu rfl) ?_
 simp only [oo, om, op, og, ci, cl, c116]
 by_cases hx : x < a
 ·refine zS ?_
  refine zR (zO (by simp [hx]; rfl) ?_)
  simp only [zT, zB]
  refine zS ?_
  refine zR (zO (by simp [hx]; rfl) ?_)
  simp only [zT, zB]
  refine Zj ?_
  simp [hx]
 ·refine zS ?_
  refine zR (zO (by simp [hx]; rfl) ?_)
  simp only [zT, zB]
  refine zS ?_
  refine zR (zO (by simp [hx]; rfl) ?_)
  simp only [zT, zB]
  refine Zj ?_
  simp [hx]
theorem a114 (P : Program) (T : Nat → Option CFn) (hT : T 114 = some c114) (x : Za) (rs : List (List Za)) (hx : Yi x = some rs) (g : Nat) (a b : List Za) (r : Int) (hl : rs.length ≤ 1000) (hr : rs.all (fun r => r.length == 1) = true)
  (hq : idxA (fun r => known T g (a ++ [elt r] ++ b)) 0 rs = some r) : ZH P T 114 [x, .fn g a b] [] fun v h => v = .int .i64 r ∧ h = [] := by
 have lx := rowsV_len hx
 refine Zs hT (Zu rfl) ?_
 simp only [oo, om, op, og, ci, cl, c114]
 refine zS (zR (zO (by simp; rfl) ?_))
 simp only [zT, zB]
 refine zS (zS (zR (zO (by simp [lx, -Zc]; rfl) ?_)))
 simp only [zT, zB]
 refine zL ?_
 refine YI (fun m σ => ∃ (k : Nat) (i : Int), i = k ∧ m = rs.length - k ∧ k ≤ rs.length ∧ idxA (fun r => known T g (a ++ [elt r] ++ b)) k (rs.drop k) = some r ∧
  σ = ⟨[x, .fn g a b, .any, .any, .any, .any, .any, I rs.length, I i, .any, .any, .any, .any, .any, .any, .any, .any, .any, .any], []⟩) ?_ (rs.length - 0) _ ⟨0, 0, rfl, rfl, Nat.zero_le _, hq, by simp⟩
 rintro m σ ⟨k, i, hik, rfl, hk, hi, rfl⟩
 have h0 : 0 ≤ i := by omega
 have htn : i.toNat = k := by omega
 refine zS (zR (zO (by simp; rfl) ?_))
 simp only [zT, zB]
 refine zS (Zg (x := decide (i < rs.length)) (by simp) (fun hlt => ?_) (fun hge => ?_))
 ·refine zK ?_
  simp only [zT, zB]
  have hlt' : k < rs.length := by have := of_decide_eq_true hlt; omega
  obtain ⟨tt, rfl⟩ := rowsV_get hx hlt'
  have hr1 := List.all_eq_true.1 hr _ (List.getElem_mem hlt')
  simp only [beq_iff_eq] at hr1
  obtain ⟨y0, hrk⟩ := len1 hr1
  rw [List.drop_eq_getElem_cons hlt'] at hi
  simp only [idxA] at hi
  refine zS (zL ?_)
  refine zS (zR (zO (by simp; rfl) ?_))
  simp only [zT, zB]
  split at hi
  ·rename_i hb
   simp at hi; rw [← hik] at hi; subst hi
   rw [hrk] at hb; simp only [elt, List.append_assoc, List.cons_append, List.nil_append] at hb
   refine zS (zR (zO (by simp [h0, htn, hlt', hrk, callF_known hb]; rfl) ?_))
   simp only [zT, zB]
   refine Zh (x := true) (by simp) ?_
   refine zS (zR (zO (by simp; rfl) ?_))
   simp only [zT, zB]
   refine Zj ?_
   simp
  ·rename_i hb
   rw [hrk] at hb; simp only [elt, List.append_assoc, List.cons_append, List.nil_append] at hb
   refine zS (zR (zO (by simp [h0, htn, hlt', hrk, callF_known hb]; rfl) ?_))
   simp only [zT, zB]
   refine Zh (x := false) (by simp) ?_
   refine zK ?_
   simp only [zT, zB]
   refine zR (zO (by simp; rfl) ?_)
   simp only [zT, zB]
   refine ⟨rs.length - (k + 1), by omega, k + 1, i + 1, by omega, rfl, by omega, hi, ?_⟩
   simp [ZR (show -1000000 ≤ i + 1 ∧ i + 1 ≤ 1000000 by omega)]
  ·simp at hi
 ·refine ZL ?_
  simp only [zT, zB, if_true]
  have hke : k = rs.length := by
   have := of_decide_eq_false hge
   omega
  subst hke
  rw [List.drop_length] at hi
  simp [idxA] at hi
  subst hi
  refine zS (zR (zO (by simp; rfl) ?_))
  simp only [zT, zB]
  refine Zj ?_
  simp
theorem a92 (P : Program) (T : Nat → Option CFn) (hT : T 92 = some c92) (hj : T 114 = some c114) (x : Za) (rs : List (List Za)) (hx : Yi x = some rs) (g : Nat) (a b : List Za) (r : Int) (hl : rs.length ≤ 1000) (hr : rs.all (fun r => r.length == 1) = true)
  (hq : idxA (fun r => known T g (a ++ [elt r] ++ b)) 0 rs = some r) : ZH P T 92 [x, .fn g a b] [] fun v h => v = .bool (decide (0 ≤ r)) ∧ h = [] := by
 refine Zs hT (Zu rfl) ?_
 simp only [oo, om, op, og, ci, cl, c92]
 refine zS (zR (zO (by simp; rfl) ?_))
 simp only [zT, zB]
 refine zS (zR ?_)
 refine ops_cons 0 (by simp; rfl) (ops_cons 0 (by simp; rfl) ?_)
 refine ops_call (f := 114) (args := [x, .fn g a b]) (by simp) (by simp) (by simp) (by simp) ?_
 refine (a114 P T hj x rs hx g a b r hl hr hq).mono ?_
 rintro v h' ⟨rfl, rfl⟩
 refine zO (by simp; rfl) ?_
 simp only [zT, zB]
 refine Zj ?_
 simp
theorem a118 (P : Program) (T : Nat → Option CFn) (hT : T 118 = some c118) (x : Za) (rs : List (List Za)) (hx : Yi x = some rs) (g : Nat) (a b : List Za) (r : Int) (hl : rs.length ≤ 1000) (hr : rs.all (fun r => r.length == 1) = true)
  (hq : idxA (fun r => known T g (a ++ [elt r] ++ b)) 0 rs = some r) : ZH P T 118 [x, .fn g a b] [] fun v h => v = .int .i64 r ∧ h = [] := by
 have lx := rowsV_len hx
 refine Zs hT (Zu rfl) ?_
 simp only [oo, om, op, og, ci, cl, c118]
 refine zS (zR (zO (by simp; rfl) ?_))
 simp only [zT, zB]
 refine zS (zS (zR (zO (by simp [lx, -Zc]; rfl) ?_)))
 simp only [zT, zB]
 refine zL ?_
 refine YI (fun m σ => ∃ (k : Nat) (i : Int), i = k ∧ m = rs.length - k ∧ k ≤ rs.length ∧ idxA (fun r => known T g (a ++ [elt r] ++ b)) k (rs.drop k) = some r ∧
  σ = ⟨[x, .fn g a b, .any, .any, .any, .any, .any, I rs.length, I i, .any, .any, .any, .any, .any, .any, .any, .any, .any, .any], []⟩) ?_ (rs.length - 0) _ ⟨0, 0, rfl, rfl, Nat.zero_le _, hq, by simp⟩
 rintro m σ ⟨k, i, hik, rfl, hk, hi, rfl⟩
 have h0 : 0 ≤ i := by omega
 have htn : i.toNat = k := by omega
 refine zS (zR (zO (by simp; rfl) ?_))
 simp only [zT, zB]
 refine zS (Zg (x := decide (i < rs.length)) (by simp) (fun hlt => ?_) (fun hge => ?_))
 ·refine zK ?_
  simp only [zT, zB]
  have hlt' : k < rs.length := by have := of_decide_eq_true hlt; omega
  obtain ⟨tt, rfl⟩ := rowsV_get hx hlt'
  have hr1 := List.all_eq_true.1 hr _ (List.getElem_mem hlt')
  simp only [beq_iff_eq] at hr1
  obtain ⟨y0, hrk⟩ := len1 hr1
  rw [List.drop_eq_getElem_cons hlt'] at hi
  simp only [idxA] at hi
  refine zS (zL ?_)
  refine zS (zR (zO (by simp; rfl) ?_))
  simp only [zT, zB]
  split at hi
  ·rename_i hb
   simp at hi; rw [← hik] at hi; subst hi
   rw [hrk] at hb; simp only [elt, List.append_assoc, List.cons_append, List.nil_append] at hb
   refine zS (zR (zO (by simp [h0, htn, hlt', hrk, callF_known hb]; rfl) ?_))
   simp only [zT, zB]
   refine Zh (x := true) (by simp) ?_
   refine zS (zR (zO (by simp; rfl) ?_))
   simp only [zT, zB]
   refine Zj ?_
   simp
  ·rename_i hb
   rw [hrk] at hb; simp only [elt, List.append_assoc, List.cons_append, List.nil_append] at hb
   refine zS (zR (zO (by simp [h0, htn, hlt', hrk, callF_known hb]; rfl) ?_))
   simp only [zT, zB]
   refine Zh (x := false) (by simp) ?_
   refine zK ?_
   simp only [zT, zB]
   refine zR (zO (by simp; rfl) ?_)
   simp only [zT, zB]
   refine ⟨rs.length - (k + 1), by omega, k + 1, i + 1, by omega, rfl, by omega, hi, ?_⟩
   simp [ZR (show -1000000 ≤ i + 1 ∧ i + 1 ≤ 1000000 by omega)]
  ·simp at hi
 ·refine ZL ?_
  simp only [zT, zB, if_true]
  have hke : k = rs.length := by
   have := of_decide_eq_false hge
   omega
  subst hke
  rw [List.drop_length] at hi
  simp [idxA] at hi
  subst hi
  refine zS (zR (zO (by simp; rfl) ?_))
  simp only [zT, zB]
  refine Zj ?_
  simp
theorem a94 (P : Program) (T : Nat → Option CFn) (hT : T 94 = some c94) (hj : T 118 = some c118) (x : Za) (rs : List (List Za)) (hx : Yi x = some rs) (g : Nat) (a b : List Za) (r : Int) (hl : rs.length ≤ 1000) (hr : rs.all (fun r => r.length == 1) = true)
  (hq : idxA (fun r => known T g (a ++ [elt r] ++ b)) 0 rs = some r) : ZH P T 94 [x, .fn g a b] [] fun v h => v = .bool (decide (0 ≤ r)) ∧ h = [] := by
 refine Zs hT (Zu rfl) ?_
 simp only [oo, om, op, og, ci, cl, c94]
 refine zS (zR (zO (by simp; rfl) ?_))
 simp only [zT, zB]
 refine zS (zR ?_)
 refine ops_cons 0 (by simp; rfl) (ops_cons 0 (by simp; rfl) ?_)
 refine ops_call (f := 118) (args := [x, .fn g a b]) (by simp) (by simp) (by simp) (by simp) ?_
 refine (a118 P T hj x rs hx g a b r hl hr hq).mono ?_
 rintro v h' ⟨rfl, rfl⟩
 refine zO (by simp; rfl) ?_
 simp only [zT, zB]
 refine Zj ?_
 simp
theorem a145 (P : Program) (T : Nat → Option CFn) (hT : T 145 = some c145) (x : Za) (rs : List (List Za)) (hx : Yi x = some rs) (g : Nat) (a b : List Za) (r : Int) (hl : rs.length ≤ 1000) (hr : rs.all (fun r => r.length == 3) = true)
  (hq : idxA (fun r => known T g (a ++ [elt r] ++ b)) 0 rs = some r) : ZH P T 145 [x, .fn g a b] [] fun v h => v = .int .i64 r ∧ h = [] := by
 have lx := rowsV_len hx
 refine Zs hT (Zu rfl) ?_
 simp only [oo, om, op, og, ci, cl, c145]
 refine zS (zR (zO (by simp; rfl) ?_))
 simp only [zT, zB]
 refine zS (zS (zR (zO (by simp [lx, -Zc]; rfl) ?_)))
 simp only [zT, zB]
 refine zL ?_
 refine YI (fun m σ => ∃ (k : Nat) (i : Int), i = k ∧ m = rs.length - k ∧ k ≤ rs.length ∧ idxA (fun r => known T g (a ++ [elt r] ++ b)) k (rs.drop k) = some r ∧
  σ = ⟨[x, .fn g a b, .any, .any, .any, .any, .any, I rs.length, I i, .any, .any, .any, .any, .any, .any, .any, .any, .any, .any], []⟩) ?_ (rs.length - 0) _ ⟨0, 0, rfl, rfl, Nat.zero_le _, hq, by simp⟩
 rintro m σ ⟨k, i, hik, rfl, hk, hi, rfl⟩
 have h0 : 0 ≤ i := by omega
 have htn : i.toNat = k := by omega
 refine zS (zR (zO (by simp; rfl) ?_))
 simp only [zT, zB]
 refine zS (Zg (x := decide (i < rs.length)) (by simp) (fun hlt => ?_) (fun hge => ?_))
 ·refine zK ?_
  simp only [zT, zB]
  have hlt' : k < rs.length := by have := of_decide_eq_true hlt; omega
  obtain ⟨tt, rfl⟩ := rowsV_get hx hlt'
  have hr1 := List.all_eq_true.1 hr _ (List.getElem_mem hlt')
  simp only [beq_iff_eq] at hr1
  obtain ⟨y0, y1, y2, hrk⟩ := len3 hr1
  rw [List.drop_eq_getElem_cons hlt'] at hi
  simp only [idxA] at hi
  refine zS (zL ?_)
  refine zS (zR (zO (by simp; rfl) ?_))
  simp only [zT, zB]
  split at hi
  ·rename_i hb
   simp at hi; rw [← hik] at hi; subst hi
   rw [hrk] at hb; simp only [elt, List.append_assoc, List.cons_append, List.nil_append] at hb
   refine zS (zR (zO (by simp [h0, htn, hlt', hrk, callF_known hb]; rfl) ?_))
   simp only [zT, zB]
   refine Zh (x := true) (by simp) ?_
   refine zS (zR (zO (by simp; rfl) ?_))
   simp only [zT, zB]
   refine Zj ?_
   simp
  ·rename_i hb
   rw [hrk] at hb; simp only [elt, List.append_assoc, List.cons_append, List.nil_append] at hb
   refine zS (zR (zO (by simp [h0, htn, hlt', hrk, callF_known hb]; rfl) ?_))
   simp only [zT, zB]
   refine Zh (x := false) (by simp) ?_
   refine zK ?_
   simp only [zT, zB]
   refine zR (zO (by simp; rfl) ?_)
   simp only [zT, zB]
   refine ⟨rs.length - (k + 1), by omega, k + 1, i + 1, by omega, rfl, by omega, hi, ?_⟩
   simp [ZR (show -1000000 ≤ i + 1 ∧ i + 1 ≤ 1000000 by omega)]
  ·simp at hi
 ·refine ZL ?_
  simp only [zT, zB, if_true]
  have hke : k = rs.length := by
   have := of_decide_eq_false hge
   omega
  subst hke
  rw [List.drop_length] at hi
  simp [idxA] at hi
  subst hi
  refine zS (zR (zO (by simp; rfl) ?_))
  simp only [zT, zB]
  refine Zj ?_
  simp
theorem a106 (P : Program) (T : Nat → Option CFn) (hT : T 106 = some c106) (hj : T 145 = some c145) (x : Za) (rs : List (List Za)) (hx : Yi x = some rs) (g : Nat) (a b : List Za) (r : Int) (hl : rs.length ≤ 1000) (hr : rs.all (fun r => r.length == 3) = true)
  (hq : idxA (fun r => known T g (a ++ [elt r] ++ b)) 0 rs = some r) : ZH P T 106 [x, .fn g a b] [] fun v h => v = .bool (decide (0 ≤ r)) ∧ h = [] := by
 refine Zs hT (Zu rfl) ?_
 simp only [oo, om, op, og, ci, cl, c106]
 refine zS (zR (zO (by simp; rfl) ?_))
 simp only [zT, zB]
 refine zS (zR ?_)
 refine ops_cons 0 (by simp; rfl) (ops_cons 0 (by simp; rfl) ?_)
 refine ops_call (f := 145) (args := [x, .fn g a b]) (by simp) (by simp) (by simp) (by simp) ?_
 refine (a145 P T hj x rs hx g a b r hl hr hq).mono ?_
 rintro v h' ⟨rfl, rfl⟩
 refine zO (by simp; rfl) ?_
 simp only [zT, zB]
 refine Zj ?_
 simp
theorem a146 (P : Program) (T : Nat → Option CFn) (hT : T 146 = some c146) (x : Za) (rs : List (List Za)) (hx : Yi x = some rs) (g : Nat) (a b : List Za) (r : Int) (hl : rs.length ≤ 1000) (hr : rs.all (fun r => r.length == 4) = true)
  (hq : idxA (fun r => known T g (a ++ [elt r] ++ b)) 0 rs = some r) : ZH P T 146 [x, .fn g a b] [] fun v h => v = .int .i64 r ∧ h = [] := by
 have lx := rowsV_len hx
 refine Zs hT (Zu rfl) ?_
 simp only [oo, om, op, og, ci, cl, c146]
 refine zS (zR (zO (by simp; rfl) ?_))
 simp only [zT, zB]
 refine zS (zS (zR (zO (by simp [lx, -Zc]; rfl) ?_)))
 simp only [zT, zB]
 refine zL ?_
 refine YI (fun m σ => ∃ (k : Nat) (i : Int), i = k ∧ m = rs.length - k ∧ k ≤ rs.length ∧ idxA (fun r => known T g (a ++ [elt r] ++ b)) k (rs.drop k) = some r ∧
  σ = ⟨[x, .fn g a b, .any, .any, .any, .any, .any, I rs.length, I i, .any, .any, .any, .any, .any, .any, .any, .any, .any, .any], []⟩) ?_ (rs.length - 0) _ ⟨0, 0, rfl, rfl, Nat.zero_le _, hq, by simp⟩
 rintro m σ ⟨k, i, hik, rfl, hk, hi, rfl⟩
 have h0 : 0 ≤ i := by omega
 have htn : i.toNat = k := by omega
 refine zS (zR (zO (by simp; rfl) ?_))
 simp only [zT, zB]
 refine zS (Zg (x := decide (i < rs.length)) (by simp) (fun hlt => ?_) (fun hge => ?_))
 ·refine zK ?_
  simp only [zT, zB]
  have hlt' : k < rs.length := by have := of_decide_eq_true hlt; omega
  obtain ⟨tt, rfl⟩ := rowsV_get hx hlt'
  have hr1 := List.all_eq_true.1 hr _ (List.getElem_mem hlt')
  simp only [beq_iff_eq] at hr1
  obtain ⟨y0, y1, y2, y3, hrk⟩ := len4 hr1
  rw [List.drop_eq_getElem_cons hlt'] at hi
  simp only [idxA] at hi
  refine zS (zL ?_)
  refine zS (zR (zO (by simp; rfl) ?_))
  simp only [zT, zB]
  split at hi
  ·rename_i hb
   simp at hi; rw [← hik] at hi; subst hi
   rw [hrk] at hb; simp only [elt, List.append_assoc, List.cons_append, List.nil_append] at hb
   refine zS (zR (zO (by simp [h0, htn, hlt', hrk, callF_known hb]; rfl) ?_))
   simp only [zT, zB]
   refine Zh (x := true) (by simp) ?_
   refine zS (zR (zO (by simp; rfl) ?_))
   simp only [zT, zB]
   refine Zj ?_
   simp
  ·rename_i hb
   rw [hrk] at hb; simp only [elt, List.append_assoc, List.cons_append, List.nil_append] at hb
   refine zS (zR (zO (by simp [h0, htn, hlt', hrk, callF_known hb]; rfl) ?_))
   simp only [zT, zB]
   refine Zh (x := false) (by simp) ?_
   refine zK ?_
   simp only [zT, zB]
   refine zR (zO (by simp; rfl) ?_)
   simp only [zT, zB]
   refine ⟨rs.length - (k + 1), by omega, k + 1, i + 1, by omega, rfl, by omega, hi, ?_⟩
   simp [ZR (show -1000000 ≤ i + 1 ∧ i + 1 ≤ 1000000 by omega)]
  ·simp at hi
 ·refine ZL ?_
  simp only [zT, zB, if_true]
  have hke : k = rs.length := by
   have := of_decide_eq_false hge
   omega
  subst hke
  rw [List.drop_length] at hi
  simp [idxA] at hi
  subst hi
  refine zS (zR (zO (by simp; rfl) ?_))
  simp only [zT, zB]
  refine Zj ?_
  simp
theorem a108 (P : Program) (T : Nat → Option CFn) (hT : T 108 = some c108) (hj : T 146 = some c146) (x : Za) (rs : List (List Za)) (hx : Yi x = some rs) (g : Nat) (a b : List Za) (r : Int) (hl : rs.length ≤ 1000) (hr : rs.all (fun r => r.length == 4) = true)
  (hq : idxA (fun r => known T g (a ++ [elt r] ++ b)) 0 rs = some r) : ZH P T 108 [x, .fn g a b] [] fun v h => v = .bool (decide (0 ≤ r)) ∧ h = [] := by
 refine Zs hT (Zu rfl) ?_
 simp only [oo, om, op, og, ci, cl, c108]
 refine zS (zR (zO (by simp; rfl) ?_))
 simp only [zT, zB]
 refine zS (zR ?_)
 refine ops_cons 0 (by simp; rfl) (ops_cons 0 (by simp; rfl) ?_)
 refine ops_call (f := 146) (args := [x, .fn g a b]) (by simp) (by simp) (by simp) (by simp) ?_
 refine (a146 P T hj x rs hx g a b r hl hr hq).mono ?_
 rintro v h' ⟨rfl, rfl⟩
 refine zO (by simp; rfl) ?_
 simp only [zT, zB]
 refine Zj ?_
 simp
theorem T_ok : Zr Tryz.prog GG T := tabOk
def FA1 : Nat → Option CFn := upd T 116 true (oWc)
theorem FA1_ok : Zr Tryz.prog GG FA1 := Xm mixed T_ok fun args v ho => by
  unfold oWc at ho; split at ho <;> simp at ho
  rename_i x a b
  subst ho
  exact a116 Tryz.prog T rfl x a b
def FA2 : Nat → Option CFn := upd FA1 92 true (oCFg FA1 1)
theorem FA2_ok : Zr Tryz.prog GG FA2 := Xm mixed FA1_ok fun args v ho => by
  unfold oCFg at ho; split at ho <;> (try simp at ho)
  rename_i x g a b
  split at ho <;> (try simp at ho)
  rename_i rs hx
  obtain ⟨⟨hl, hr⟩, ho⟩ := ho
  split at ho <;> simp at ho
  rename_i r hq
  subst ho
  refine (a92 Tryz.prog FA1 rfl rfl x rs hx g a b r hl (by simpa using hr) (by simpa using hq)).mono ?_
  rintro v h ⟨rfl, rfl⟩
  rfl
theorem a85 (P : Program) (T : Nat → Option CFn) (hT : T 85 = some c85) (h92 : T 92 = some { c92 with frsh := true, orc := oCFg FA1 1 }) (a b : Int) (x : Za) (xs : List Int) (hx : Yi x = some (xs.map fun x => [I x])) (hl : xs.length ≤ 1000) :
  ZH P T 85 [I a, I b, x] [] fun v h => frz true h 5 v = some (.bool (wB a b xs)) := by
 have hcf : oCFg FA1 1 [x, .fn 116 [] [.pv [I a] 0, .pv [I b] 0]] = some (.bool ((xs.map fun x => [I x]).any fun r => match r with | [.int .i64 n] => decide (n < a) || decide (b < n) | _ => false)) := by
  refine oCFg_any hx (by simpa using hl) (by simp) ?_
  intro r hr
  obtain ⟨n, _, rfl⟩ := List.mem_map.1 hr
  rfl
 have hv : (!((xs.map fun x => [I x]).any fun r => match r with | [.int .i64 n] => decide (n < a) || decide (b < n) | _ => false)) = wB a b xs := by
  simp only [wB, List.any_map, List.not_any_eq_all_not]
  congr 1
  funext n
  simp only [Function.comp]
  rw [Bool.eq_iff_iff]
  simp
 rw [← hv]
 generalize hbb : ((xs.map fun x => [I x]).any fun r => match r with | [.int .i64 n] => decide (n < a) || decide (b < n) | _ => false) = bb at hcf
 refine Zs hT (Zu rfl) ?_
 simp only [oo, om, op, og, ci, cl, c85]
 refine zS (zR (zO (by simp; rfl) ?_))
 simp only [zT, zB]
 refine zS (zR (zO (by simp [zC h92, rowsV_frz hx, hcf]; rfl) ?_))
 simp only [zT, zB]
 refine Zj ?_
 simp
def FA3 : Nat → Option CFn := upd FA2 85 true (oWithin)
theorem FA3_ok : Zr Tryz.prog GG FA3 := Xm mixed FA2_ok fun args v ho => by
  unfold oWithin at ho; split at ho <;> (try simp at ho)
  rename_i a b x
  split at ho <;> (try simp at ho)
  rename_i rs hx
  split at ho <;> (try simp at ho)
  rename_i xs hxs
  obtain ⟨hl, rfl⟩ := ho
  have e := optAll_eq dI1_eq hxs
  subst e
  exact a85 Tryz.prog FA2 rfl rfl a b x xs hx hl
theorem oWithin_eq {x : Za} {xs : List Int} (a b : Int) (hx : Yi x = some (xs.map fun x => [I x])) (hl : xs.length ≤ 1000) : oWithin [I a, I b, x] = some (.bool (wB a b xs)) := by
  simp only [oWithin, hx, dI1_self', hl, if_true]
theorem oWithin_eq' {x : Za} {xs : List Int} (a b : Int) (hx : Yd x = some xs) (hl : xs.length ≤ 1000) : oWithin [I a, I b, x] = some (.bool (wB a b xs)) := oWithin_eq a b (dInts_rows hx) hl
theorem wB_one (a b n : Int) : wB a b [n] = inI a n b := by simp [wB, inI]
def oTime : List Za → Option Za
  | [x] => match Yd x with
    | some xs => if xs.length ≤ 1000 then some (.bool (wB 0 100000 xs)) else none
    | none => none
  | _ => none
theorem a113 (P : Program) (T : Nat → Option CFn) (hT : T 113 = some c113) (h85 : T 85 = some { c85 with frsh := true, orc := oWithin }) (x : Za) (xs : List Int) (hx : Yd x = some xs) (hl : xs.length ≤ 1000) : ZH P T 113 [x] [] fun v h => frz true h 5 v = some (.bool (wB 0 100000 xs)) := by
 refine Zs hT (Zu rfl) ?_
 simp only [oo, om, op, og, ci, cl, c113]
 refine zS ?_
 refine zR (zO (by simp [zC h85, h85, ZG hx, oWithin_eq' 0 100000 hx hl]; rfl) ?_)
 simp only [zT, zB]
 refine zS ?_
 refine zR (zO (by simp [zC h85, h85, ZG hx, oWithin_eq' 0 100000 hx hl]; rfl) ?_)
 simp only [zT, zB]
 refine Zj ?_
 simp [zC h85, h85, ZG hx, oWithin_eq' 0 100000 hx hl]
def FA4 : Nat → Option CFn := upd FA3 113 true (oTime)
theorem FA4_ok : Zr Tryz.prog GG FA4 := Xm mixed FA3_ok fun args v ho => by
  unfold oTime at ho; split at ho <;> (try simp at ho)
  rename_i x
  split at ho <;> (try simp at ho)
  rename_i xs hx
  obtain ⟨hl, rfl⟩ := ho
  exact a113 Tryz.prog FA3 rfl rfl x xs hx hl
theorem a80 (P : Program) (T : Nat → Option CFn) (hT : T 80 = some c80) (h85 : T 85 = some { c85 with frsh := true, orc := oWithin }) (h113 : T 113 = some { c113 with frsh := true, orc := oTime }) (m : Int) (c t : Za) (rsc rst : List (List Za)) (hc : Yi c = some rsc) (ht : Yi t = some rst) (hm : -1000000 ≤ m ∧ m ≤ 1000000) (a f u : Int) : ZH P T 80 [.agg [I m, c, t], .agg [I a, I f, I u]] [] fun v h => frz true h 5 v = some (.bool (stopOk m (a, f, u))) := by
 have fc := fun H d => rowsV_frz hc H d
 have ft := fun H d => rowsV_frz ht H d
 have rc := fun n d => rowsV_rb hc n d
 have rt := fun n d => rowsV_rb ht n d
 have lc := rowsV_len hc
 have lt := rowsV_len ht
 obtain ⟨cc1, cc2⟩ := Xl hc
 obtain ⟨ct1, ct2⟩ := Xl ht
 have wm : W .i64 (m - 1) = m - 1 := ZX (by omega)
 have h1 : oWithin [I 0, I (m - 1), .vl [[I a]] true] = some (.bool (inI 0 a (m - 1))) := by rw [← wB_one]; rfl
 have h2 : oTime [.vl [[I f], [I u]] true] = some (.bool (wB 0 100000 [f, u])) := rfl
 unfold stopOk
 simp only
 generalize inI 0 a (m - 1) = wA at *
 generalize wB 0 100000 [f, u] = wBb at *
 refine Zs hT (Zu rfl) ?_
 simp only [oo, om, op, og, ci, cl, c80]
 cases hA : wA
 ·have HH1 := zA h85 (zA h113 (zA fc (zA ft (zA rc (zA rt (zA cc1 (zA cc2 (zA ct1 (zA ct2 (zA lc (zA wm (zA h1 (zA h2 hA)))))))))))))
  refine zS ?_
  refine zR (zO (by simp [zC h85, zC h113, -Zc, HH1]; rfl) ?_)
  simp only [zT, zB]
  refine zS ?_
  refine zR (zO (by simp [zC h85, zC h113, -Zc, HH1]; rfl) ?_)
  simp only [zT, zB]
  refine Zj ?_
  simp [zC h85, zC h113, -Zc, HH1]
 ·cases hB : wBb
  ·have HH2 := zA h85 (zA h113 (zA fc (zA ft (zA rc (zA rt (zA cc1 (zA cc2 (zA ct1 (zA ct2 (zA lc (zA wm (zA h1 (zA h2 (zA hA hB))))))))))))))
   refine zS ?_
   refine zR (zO (by simp [zC h85, zC h113, -Zc, HH2]; rfl) ?_)
   simp only [zT, zB]
   refine zS ?_
   refine zR (zO (by simp [zC h85, zC h113, -Zc, HH2]; rfl) ?_)
   simp only [zT, zB]
   refine Zj ?_
   simp [zC h85, zC h113, -Zc, HH2]
  ·have HH3 := zA h85 (zA h113 (zA fc (zA ft (zA rc (zA rt (zA cc1 (zA cc2 (zA ct1 (zA ct2 (zA lc (zA wm (zA h1 (zA h2 (zA hA hB))))))))))))))
   refine zS ?_
   refine zR (zO (by simp [zC h85, zC h113, -Zc, HH3]; rfl) ?_)
   simp only [zT, zB]
   refine zS ?_
   refine zR (zO (by simp [zC h85, zC h113, -Zc, HH3]; rfl) ?_)
   simp only [zT, zB]
   refine Zj ?_
   simp [zC h85, zC h113, -Zc, HH3]
def oStop : List Za → Option Za
  | [.agg [.int .i64 m, c, t], .agg [.int .i64 a, .int .i64 f, .int .i64 u]] => match Yi c, Yi t with
    | some _, some _ => if -1000000 ≤ m ∧ m ≤ 1000000 then some (.bool (stopOk m (a, f, u))) else none
    | _, _ => none
  | _ => none
def oJob : List Za → Option Za
  | [.agg [.int .i64 m, c, t], .agg [.int .i64 k, .int .i64 r, .int .i64 d, v]] => match Yi c, Yi t, Yd v with
    | some rc, some _, some ms => if rc.length ≤ 1000 ∧ ms.length ≤ 1000 then some (.bool (jobOk m rc.length ⟨k, r, d, ms⟩)) else none
    | _, _, _ => none
  | _ => none
theorem a110 (P : Program) (T : Nat → Option CFn) (hT : T 110 = some c110) (h85 : T 85 = some { c85 with frsh := true, orc := oWithin }) (h113 : T 113 = some { c113 with frsh := true, orc := oTime }) (m : Int) (c t : Za) (rsc rst : List (List Za)) (hc : Yi c = some rsc) (ht : Yi t = some rst) (k r d : Int) (v : Za) (ms : List Int) (hv : Yd v = some ms) (hl : rsc.length ≤ 1000 ∧ ms.length ≤ 1000) : ZH P T 110 [.agg [I m, c, t], .agg [I k, I r, I d, v]] [] fun v h => frz true h 5 v = some (.bool (jobOk m rsc.length ⟨k, r, d, ms⟩)) := by
 have fc := fun H d => rowsV_frz hc H d
 have ft := fun H d => rowsV_frz ht H d
 have rc := fun n d => rowsV_rb hc n d
 have rt := fun n d => rowsV_rb ht n d
 have lc := rowsV_len hc
 have lt := rowsV_len ht
 obtain ⟨cc1, cc2⟩ := Xl hc
 obtain ⟨ct1, ct2⟩ := Xl ht
 have fv := fun H d => ZG hv H d
 have rv := fun n d => Yc hv n d
 have lv := Yz hv
 obtain ⟨cv1, cv2⟩ := Zp hv
 have wm : W .i64 ((rsc.length : Int) - 1) = (rsc.length : Int) - 1 := ZR (by omega)
 have h1 : oWithin [I 0, I ((rsc.length : Int) - 1), .vl [[I k]] true] = some (.bool (inI 0 k ((rsc.length : Int) - 1))) := by rw [← wB_one]; rfl
 have h2 : oTime [.vl [[I r], [I d]] true] = some (.bool (wB 0 100000 [r, d])) := rfl
 have h3 := oWithin_eq' 0 2000 hv hl.2
 unfold jobOk
 simp only
 generalize inI 0 k ((rsc.length : Int) - 1) = wA at *
 generalize wB 0 100000 [r, d] = wBb at *
 generalize hE : ((ms.length : Int) == m) = wC at *
 refine Zs hT (Zu rfl) ?_
 simp only [oo, om, op, og, ci, cl, c110]
 cases hA : wA
 ·have HH1 := zA h85 (zA h113 (zA fc (zA ft (zA rc (zA rt (zA cc1 (zA cc2 (zA ct1 (zA ct2 (zA lc (zA wm (zA h1 (zA h2 (zA h3 (zA fv (zA rv (zA lv (zA cv1 (zA cv2 (zA hE hA))))))))))))))))))))
  refine zS ?_
  refine zR (zO (by simp [zC h85, zC h113, -Zc, HH1]; rfl) ?_)
  simp only [zT, zB]
  refine zS ?_
  refine zR (zO (by simp [zC h85, zC h113, -Zc, HH1]; rfl) ?_)
  simp only [zT, zB]
  refine Zj ?_
  simp [zC h85, zC h113, -Zc, HH1]
 ·cases hB : wBb
  ·have HH2 := zA h85 (zA h113 (zA fc (zA ft (zA rc (zA rt (zA cc1 (zA cc2 (zA ct1 (zA ct2 (zA lc (zA wm (zA h1 (zA h2 (zA h3 (zA fv (zA rv (zA lv (zA cv1 (zA cv2 (zA hE (zA hA hB)))))))))))))))))))))
   refine zS ?_
   refine zR (zO (by simp [zC h85, zC h113, -Zc, HH2]; rfl) ?_)
   simp only [zT, zB]
   refine zS ?_
   refine zR (zO (by simp [zC h85, zC h113, -Zc, HH2]; rfl) ?_)
   simp only [zT, zB]
   refine Zj ?_
   simp [zC h85, zC h113, -Zc, HH2]
  ·cases hC : wC
   ·have HH3 := zA h85 (zA h113 (zA fc (zA ft (zA rc (zA rt (zA cc1 (zA cc2 (zA ct1 (zA ct2 (zA lc (zA wm (zA h1 (zA h2 (zA h3 (zA fv (zA rv (zA lv (zA cv1 (zA cv2 (zA hE (zA hA (zA hB hC))))))))))))))))))))))
    refine zS ?_
    refine zR (zO (by simp [zC h85, zC h113, -Zc, HH3]; rfl) ?_)
    simp only [zT, zB]
    refine zS ?_
    refine zR (zO (by simp [zC h85, zC h113, -Zc, HH3]; rfl) ?_)
    simp only [zT, zB]
    refine Zj ?_
    simp [zC h85, zC h113, -Zc, HH3]
   ·have HH4 := zA h85 (zA h113 (zA fc (zA ft (zA rc (zA rt (zA cc1 (zA cc2 (zA ct1 (zA ct2 (zA lc (zA wm (zA h1 (zA h2 (zA h3 (zA fv (zA rv (zA lv (zA cv1 (zA cv2 (zA hE (zA hA (zA hB hC))))))))))))))))))))))
    refine zS ?_
    refine zR (zO (by simp [zC h85, zC h113, -Zc, HH4]; rfl) ?_)
    simp only [zT, zB]
    refine zS ?_
    refine zR (zO (by simp [zC h85, zC h113, -Zc, HH4]; rfl) ?_)
    simp only [zT, zB]
    refine Zj ?_
    simp [zC h85, zC h113, -Zc, HH4]
def FA5_80 : Nat → Option CFn := upd FA4 80 true (oStop)
theorem FA5_80_ok : Zr Tryz.prog GG FA5_80 := Xm mixed FA4_ok fun args v ho => by
  unfold oStop at ho; split at ho <;> (try simp at ho)
  rename_i m c t a f u
  split at ho <;> (try simp at ho)
  rename_i rsc rst hc ht
  obtain ⟨hm, rfl⟩ := ho
  exact a80 Tryz.prog FA4 rfl rfl rfl m c t rsc rst hc ht hm a f u
def FA5 : Nat → Option CFn := upd FA5_80 110 true (oJob)
theorem FA5_ok : Zr Tryz.prog GG FA5 := Xm mixed FA5_80_ok fun args v ho => by
  unfold oJob at ho; split at ho <;> (try simp at ho)
  rename_i m c t k r d v
  split at ho <;> (try simp at ho)
  rename_i rsc rst ms hc ht hv
  obtain ⟨hl, rfl⟩ := ho
  exact a110 Tryz.prog FA5_80 rfl rfl rfl m c t rsc rst hc ht k r d v ms hv hl
def oNoRow : List Za → Option Za
  | [v, .pv [.int .i64 m, c, t] 0] => match Yd v, Yi c, Yi t with
    | some ms, some rc, some _ => if rc.length ≤ 1000 ∧ ms.length ≤ 1000 then some (.bool (!chgOk rc.length ms)) else none
    | _, _, _ => none
  | _ => none
def oNoStop : List Za → Option Za
  | [.agg [.int .i64 a, .int .i64 f, .int .i64 u], .pv [.int .i64 m, c, t] 0] => match Yi c, Yi t with
    | some _, some _ => if -1000000 ≤ m ∧ m ≤ 1000000 then some (.bool (!stopOk m (a, f, u))) else none
    | _, _ => none
  | _ => none
def oNoJob : List Za → Option Za
  | [.agg [.int .i64 k, .int .i64 r, .int .i64 d, v], .pv [.int .i64 m, c, t] 0] => match Yi c, Yi t, Yd v with
    | some rc, some _, some ms => if rc.length ≤ 1000 ∧ ms.length ≤ 1000 then some (.bool (!jobOk m rc.length ⟨k, r, d, ms⟩)) else none
    | _, _, _ => none
  | _ => none
theorem a105 (P : Program) (T : Nat → Option CFn) (hT : T 105 = some c105) (h85 : T 85 = some { c85 with frsh := true, orc := oWithin }) (m : Int) (c t : Za) (rsc rst : List (List Za)) (hc : Yi c = some rsc) (ht : Yi t = some rst) (v : Za) (ms : List Int) (hv : Yd v = some ms) (hl : rsc.length ≤ 1000 ∧ ms.length ≤ 1000) : ZH P T 105 [v, .pv [I m, c, t] 0] [] fun v h => frz true h 5 v = some (.bool (!chgOk rsc.length ms)) := by
 have fc := fun H d => rowsV_frz hc H d
 have ft := fun H d => rowsV_frz ht H d
 have rc := fun n d => rowsV_rb hc n d
 have rt := fun n d => rowsV_rb ht n d
 have lc := rowsV_len hc
 have lt := rowsV_len ht
 obtain ⟨cc1, cc2⟩ := Xl hc
 obtain ⟨ct1, ct2⟩ := Xl ht
 have fv := fun H d => ZG hv H d
 have lv := Yz hv
 have h3 := oWithin_eq' 0 500 hv hl.2
 unfold chgOk
 generalize hE : (ms.length == rsc.length) = wA at *
 have hE2 : (((ms.length : Int)) != ((rsc.length : Int))) = !wA := by
  rw [← hE, bne]
  congr 1
  rw [Bool.eq_iff_iff, beq_iff_eq, beq_iff_eq]
  omega
 refine Zs hT (Zu rfl) ?_
 simp only [oo, om, op, og, ci, cl, c105]
 cases hA : wA
 ·have HH1 := zA h85 (zA fc (zA ft (zA rc (zA rt (zA cc1 (zA cc2 (zA ct1 (zA ct2 (zA lc (zA h3 (zA fv (zA lv (zA hE2 hA)))))))))))))
  refine zS ?_
  refine zR (zO (by simp [zC h85, -Zc, HH1]; rfl) ?_)
  simp only [zT, zB]
  refine zS ?_
  refine zR (zO (by simp [zC h85, -Zc, HH1]; rfl) ?_)
  simp only [zT, zB]
  refine Zj ?_
  simp [zC h85, -Zc, HH1]
 ·have HH2 := zA h85 (zA fc (zA ft (zA rc (zA rt (zA cc1 (zA cc2 (zA ct1 (zA ct2 (zA lc (zA h3 (zA fv (zA lv (zA hE2 hA)))))))))))))
  refine zS ?_
  refine zR (zO (by simp [zC h85, -Zc, HH2]; rfl) ?_)
  simp only [zT, zB]
  refine zS ?_
  refine zR (zO (by simp [zC h85, -Zc, HH2]; rfl) ?_)
  simp only [zT, zB]
  refine Zj ?_
  simp [zC h85, -Zc, HH2]
theorem a107 (P : Program) (T : Nat → Option CFn) (hT : T 107 = some c107) (h80 : T 80 = some { c80 with frsh := true, orc := oStop }) (m : Int) (c t : Za) (rsc rst : List (List Za)) (hc : Yi c = some rsc) (ht : Yi t = some rst) (hm : -1000000 ≤ m ∧ m ≤ 1000000) (a f u : Int) : ZH P T 107 [.agg [I a, I f, I u], .pv [I m, c, t] 0] [] fun v h => frz true h 5 v = some (.bool (!stopOk m (a, f, u))) := by
 have fc := fun H d => rowsV_frz hc H d
 have ft := fun H d => rowsV_frz ht H d
 have rc := fun n d => rowsV_rb hc n d
 have rt := fun n d => rowsV_rb ht n d
 have lc := rowsV_len hc
 have lt := rowsV_len ht
 obtain ⟨cc1, cc2⟩ := Xl hc
 obtain ⟨ct1, ct2⟩ := Xl ht
 refine Zs hT (Zu rfl) ?_
 simp only [oo, om, op, og, ci, cl, c107]
 have HH1 := zA h80 (zA fc (zA ft (zA rc (zA rt (zA cc1 (zA cc2 (zA ct1 (zA ct2 (zA lc (zA hc (zA ht hm)))))))))))
 refine zS ?_
 refine zR (zO (by simp [zC h80, -Zc, oStop, HH1]; rfl) ?_)
 simp only [zT, zB]
 refine zS ?_
 refine zR (zO (by simp [zC h80, -Zc, oStop, HH1]; rfl) ?_)
 simp only [zT, zB]
 refine Zj ?_
 simp [zC h80, -Zc, oStop, HH1]
theorem a109 (P : Program) (T : Nat → Option CFn) (hT : T 109 = some c109) (h110 : T 110 = some { c110 with frsh := true, orc := oJob }) (m : Int) (c t : Za) (rsc rst : List (List Za)) (hc : Yi c = some rsc) (ht : Yi t = some rst) (k r d : Int) (v : Za) (ms : List Int) (hv : Yd v = some ms) (hl : rsc.length ≤ 1000 ∧ ms.length ≤ 1000) : ZH P T 109 [.agg [I k, I r, I d, v], .pv [I m, c, t] 0] [] fun v h => frz true h 5 v = some (.bool (!jobOk m rsc.length ⟨k, r, d, ms⟩)) := by
 have fc := fun H d => rowsV_frz hc H d
 have ft := fun H d => rowsV_frz ht H d
 have rc := fun n d => rowsV_rb hc n d
 have rt := fun n d => rowsV_rb ht n d
 have lc := rowsV_len hc
 have lt := rowsV_len ht
 obtain ⟨cc1, cc2⟩ := Xl hc
 obtain ⟨ct1, ct2⟩ := Xl ht
 have fv := fun H d => ZG hv H d
 have rv := fun n d => Yc hv n d
 obtain ⟨cv1, cv2⟩ := Zp hv
 refine Zs hT (Zu rfl) ?_
 simp only [oo, om, op, og, ci, cl, c109]
 have HH1 := zA h110 (zA fc (zA ft (zA rc (zA rt (zA cc1 (zA cc2 (zA ct1 (zA ct2 (zA lc (zA hc (zA ht (zA hv (zA hl (zA fv (zA rv (zA cv1 cv2))))))))))))))))
 refine zS ?_
 refine zR (zO (by simp [zC h110, -Zc, oJob, HH1]; rfl) ?_)
 simp only [zT, zB]
 refine zS ?_
 refine zR (zO (by simp [zC h110, -Zc, oJob, HH1]; rfl) ?_)
 simp only [zT, zB]
 refine Zj ?_
 simp [zC h110, -Zc, oJob, HH1]
def FA6_105 : Nat → Option CFn := upd FA5 105 true (oNoRow)
theorem FA6_105_ok : Zr Tryz.prog GG FA6_105 := Xm mixed FA5_ok fun args v ho => by
  unfold oNoRow at ho; split at ho <;> (try simp at ho)
  rename_i v m c t
  split at ho <;> (try simp at ho)
  rename_i ms rsc rst hv hc ht
  obtain ⟨hl, rfl⟩ := ho
  exact a105 Tryz.prog FA5 rfl rfl m c t rsc rst hc ht v ms hv hl
def FA6_107 : Nat → Option CFn := upd FA6_105 107 true (oNoStop)
theorem FA6_107_ok : Zr Tryz.prog GG FA6_107 := Xm mixed FA6_105_ok fun args v ho => by
  unfold oNoStop at ho; split at ho <;> (try simp at ho)
  rename_i a f u m c t
  split at ho <;> (try simp at ho)
  rename_i rsc rst hc ht
  obtain ⟨hm, rfl⟩ := ho
  exact a107 Tryz.prog FA6_105 rfl rfl m c t rsc rst hc ht hm a f u
def FA6 : Nat → Option CFn := upd FA6_107 109 true (oNoJob)
theorem FA6_ok : Zr Tryz.prog GG FA6 := Xm mixed FA6_107_ok fun args v ho => by
  unfold oNoJob at ho; split at ho <;> (try simp at ho)
  rename_i k r d v m c t
  split at ho <;> (try simp at ho)
  rename_i rsc rst ms hc ht hv
  obtain ⟨hl, rfl⟩ := ho
  exact a109 Tryz.prog FA6_107 rfl rfl m c t rsc rst hc ht k r d v ms hv hl
def FA7 : Nat → Option CFn := upd FA6 94 true (oCFg FA6 1)
theorem FA7_ok : Zr Tryz.prog GG FA7 := Xm mixed FA6_ok fun args v ho => by
  unfold oCFg at ho; split at ho <;> (try simp at ho)
  rename_i x g a b
  split at ho <;> (try simp at ho)
  rename_i rs hx
  obtain ⟨⟨hl, hr⟩, ho⟩ := ho
  split at ho <;> simp at ho
  rename_i r hq
  subst ho
  refine (a94 Tryz.prog FA6 rfl rfl x rs hx g a b r hl (by simpa using hr) (by simpa using hq)).mono ?_
  rintro v h ⟨rfl, rfl⟩
  rfl
def FA8 : Nat → Option CFn := upd FA7 106 true (oCFg FA7 3)
theorem FA8_ok : Zr Tryz.prog GG FA8 := Xm mixed FA7_ok fun args v ho => by
  unfold oCFg at ho; split at ho <;> (try simp at ho)
  rename_i x g a b
  split at ho <;> (try simp at ho)
  rename_i rs hx
  obtain ⟨⟨hl, hr⟩, ho⟩ := ho
  split at ho <;> simp at ho
  rename_i r hq
  subst ho
  refine (a106 Tryz.prog FA7 rfl rfl x rs hx g a b r hl (by simpa using hr) (by simpa using hq)).mono ?_
  rintro v h ⟨rfl, rfl⟩
  rfl
def FA : Nat → Option CFn := upd FA8 108 true (oCFg FA8 4)
theorem FA_ok : Zr Tryz.prog GG FA := Xm mixed FA8_ok fun args v ho => by
  unfold oCFg at ho; split at ho <;> (try simp at ho)
  rename_i x g a b
  split at ho <;> (try simp at ho)
  rename_i rs hx
  obtain ⟨⟨hl, hr⟩, ho⟩ := ho
  split at ho <;> simp at ho
  rename_i r hq
  subst ho
  refine (a108 Tryz.prog FA8 rfl rfl x rs hx g a b r hl (by simpa using hr) (by simpa using hq)).mono ?_
  rintro v h ⟨rfl, rfl⟩
  rfl
end
section
attribute [local simp] ZV ZD Xp YN actD clash disj Xq holes Xr ZY Xu news eqB allB eqA Xf wrote toCs ofCs stA Yq ZE Yl dI1 dI2 dI3 dI5 elt
attribute [local simp] XH XD XI XE YS XG YP XF st_pv YO st_sl st_vl YQ st_mp st_fn YR XC co_any co_und co_agg co_tup Xe co_int Xb co_ref co_pv Xa co_sl co_vl Xc co_mp co_fn Xd XZ
attribute [local simp] callA ZQ lop loud
theorem known_of {T : Nat → Option CFn} {f : Nat} {cf : CFn} {o : List Za → Option Za} {args : List Za} (hT : T f = some { cf with frsh := true, orc := o }) (ha : Zd (frz false [] 5) args = some args) : known T f args = o args := by
  unfold known
  rw [hT]
  simp only [orcF, if_true, ha]
theorem cfRow {m : Int} {c t : Za} {cs : List (List Int)} {ts : List YH} (hc : ZI c = some cs) (ht : Yg t = some ts) (hl : cs.length ≤ 100 ∧ ∀ l ∈ cs, l.length ≤ 100) : oCFg FA6 1 [c, .fn 105 [] [.pv [I m, c, t] 0]] = some (.bool (!(cs.all (chgOk cs.length)))) := by
  obtain ⟨rsc, h1, h2⟩ := dInts2_rows hc
  have hlen : rsc.length = cs.length := (optAll_at h2).1
  have h := oCFg_any (T := FA6) (s := 1) (g := 105) (a := []) (b := [.pv [I m, c, t] 0]) (p := fun r => match dRow1 r with | some ms => !chgOk cs.length ms | none => false) h1 (by omega)
    (fun r hr => by
      obtain ⟨ms, _, e⟩ := optAll_mem h2 r hr
      obtain ⟨v, rfl, _⟩ := dRow1_eq e
      rfl)
    (fun r hr => by
      obtain ⟨ms, hm, e⟩ := optAll_mem h2 r hr
      obtain ⟨v, rfl, hv⟩ := dRow1_eq e
      have hm2 := hl.2 ms hm
      show known FA6 105 [v, .pv [I m, c, t] 0] = _
      rw [known_of (o := oNoRow) (cf := c105) rfl (by simp [ZG hv])]
      simp only [oNoRow, hv, h1, dStops_rows ht, hlen]
      rw [if_pos (by omega), e])
  rw [h]
  have e := optAll_any (p := fun ms => !chgOk cs.length ms) (q := fun r => match dRow1 r with | some ms => !chgOk cs.length ms | none => false) h2 (fun r x hx => by simp only [hx])
  rw [e, List.not_all_eq_any_not]
theorem cfStop {m : Int} {c t : Za} {cs : List (List Int)} {ts : List YH} (hc : ZI c = some cs) (ht : Yg t = some ts) (hl : ts.length ≤ 100) (hm : -1000000 ≤ m ∧ m ≤ 1000000) : oCFg FA7 3 [t, .fn 107 [] [.pv [I m, c, t] 0]] = some (.bool (!(ts.all (stopOk m)))) := by
  obtain ⟨rsc, h1, h2⟩ := dInts2_rows hc
  have h3 := dStops_rows ht
  have h := oCFg_any (T := FA7) (s := 3) (g := 107) (a := []) (b := [.pv [I m, c, t] 0]) (p := fun r => match dI3 r with | some x => !stopOk m x | none => false) h3 (by rw [List.length_map]; omega)
    (fun r hr => by
      obtain ⟨x, _, rfl⟩ := List.mem_map.1 hr
      rfl)
    (fun r hr => by
      obtain ⟨x, _, rfl⟩ := List.mem_map.1 hr
      show known FA7 107 [.agg [I x.1, I x.2.1, I x.2.2], .pv [I m, c, t] 0] = _
      rw [known_of (o := oNoStop) (cf := c107) rfl (by simp)]
      simp only [oNoStop, h1, h3]
      rw [if_pos hm]
      rfl)
  rw [h, List.any_map, List.not_all_eq_any_not]
  rfl
theorem cfJob {m : Int} {c t j : Za} {cs : List (List Int)} {ts : List YH} {js : List FJob} (hc : ZI c = some cs) (ht : Yg t = some ts) (hj : Xj j = some js) (hl : cs.length ≤ 100 ∧ js.length ≤ 100 ∧ ∀ x ∈ js, x.mins.length ≤ 100) : oCFg FA8 4 [j, .fn 109 [] [.pv [I m, c, t] 0]] = some (.bool (!(js.all (jobOk m cs.length)))) := by
  obtain ⟨rsc, h1, h2⟩ := dInts2_rows hc
  obtain ⟨rsj, h3, h4⟩ := dJobs_rows hj
  have hlen : rsc.length = cs.length := (optAll_at h2).1
  have hlen2 : rsj.length = js.length := (optAll_at h4).1
  have h := oCFg_any (T := FA8) (s := 4) (g := 109) (a := []) (b := [.pv [I m, c, t] 0]) (p := fun r => match dJob r with | some x => !jobOk m cs.length x | none => false) h3 (by omega)
    (fun r hr => by
      obtain ⟨x, _, e⟩ := optAll_mem h4 r hr
      obtain ⟨v, rfl, _⟩ := dJob_eq e
      rfl)
    (fun r hr => by
      obtain ⟨x, hx, e⟩ := optAll_mem h4 r hr
      obtain ⟨v, rfl, hv⟩ := dJob_eq e
      have hm2 := hl.2.2 x hx
      show known FA8 109 [.agg [I x.kind, I x.ready, I x.due, v], .pv [I m, c, t] 0] = _
      rw [known_of (o := oNoJob) (cf := c109) rfl (by simp [ZG hv])]
      simp only [oNoJob, h1, dStops_rows ht, hv, hlen]
      rw [if_pos (by omega), e])
  rw [h]
  have e := optAll_any (p := fun x => !jobOk m cs.length x) (q := fun r => match dJob r with | some x => !jobOk m cs.length x | none => false) h4 (fun r x hx => by simp only [hx])
  rw [e, List.not_all_eq_any_not]
def zWork : Za := .agg [I 0, .nils, .nils, .nils]
def oOpen : List Za → Option Za
  | [.agg [.int .i64 m, c, t], j] => match ZI c, Yg t, Xj j with
    | some cs, some ts, some js => if sizeOk ⟨m, cs, ts⟩ js = true then some (.tup [if shopE ⟨m, cs, ts⟩ js = 0 then .agg [.int .i64 m, c, t, j] else zWork, I (shopE ⟨m, cs, ts⟩ js)]) else none
    | _, _, _ => none
  | _ => none
theorem a70 (P : Program) (T : Nat → Option CFn) (hT : T 70 = some c70) (h85 : T 85 = some { c85 with frsh := true, orc := oWithin }) (h94 : T 94 = some { c94 with frsh := true, orc := oCFg FA6 1 }) (h106 : T 106 = some { c106 with frsh := true, orc := oCFg FA7 3 }) (h108 : T 108 = some { c108 with frsh := true, orc := oCFg FA8 4 }) (s : FShop) (js : List FJob) (c t j : Za) (hc : ZI c = some s.chg) (ht : Yg t = some s.stops) (hj : Xj j = some js) (hz : SizeOk s js) : ZH P T 70 [.agg [I s.mach, c, t], j] [] fun v h => frz false h 5 v = some (.tup [if shopE s js = 0 then .agg [I s.mach, c, t, j] else zWork, I (shopE s js)]) := by
 have fc := fun H d => Xo hc H d
 have ft := fun H d => dStops_frz ht H d
 have fj := fun H d => dJobs_frz hj H d
 have rc := fun n d => Xi hc n d
 have rt := fun n d => dStops_rb ht n d
 have rj := fun n d => dJobs_rb hj n d
 have lc := Xn hc
 have lt := dStops_len ht
 have lj := dJobs_len hj
 obtain ⟨cc1, cc2⟩ := ZZ hc
 obtain ⟨ct1, ct2⟩ := YK ht
 obtain ⟨cj1, cj2⟩ := dJobs_cells hj
 obtain ⟨z1, z2, z3, z4, z5⟩ := hz
 have k1 : oWithin [I 1, I 4, .vl [[I s.mach]] true] = some (.bool (inI 1 s.mach 4)) := by rw [← wB_one]; rfl
 have k2 : oWithin [I 1, I 4, .vl [[I (s.chg.length : Int)]] true] = some (.bool (inI 1 s.chg.length 4)) := by rw [← wB_one]; rfl
 have k3 := cfRow (m := s.mach) hc ht ⟨z1, z2⟩
 have k5 : inI 1 s.mach 4 = true → oCFg FA7 3 [t, .fn 107 [] [.pv [I s.mach, c, t] 0]] = some (.bool (!(s.stops.all (stopOk s.mach)))) := fun h => cfStop hc ht z3 (by simp only [inI, Bool.and_eq_true, decide_eq_true_eq] at h; omega)
 have k7 := cfJob (m := s.mach) hc ht hj ⟨z1, z4, z5⟩
 unfold shopE zWork
 generalize inI 1 s.mach 4 = b1 at *
 generalize inI 1 (s.chg.length : Int) 4 = b2 at *
 generalize s.chg.all (chgOk s.chg.length) = b3 at *
 generalize s.stops.all (stopOk s.mach) = b5 at *
 generalize js.all (jobOk s.mach s.chg.length) = b7 at *
 refine Zs hT (Zu rfl) ?_
 simp only [oo, om, op, og, ci, cl, c70]
 have HH1 := zA h85 (zA h94 (zA h106 (zA h108 (zA fc (zA ft (zA fj (zA rc (zA rt (zA rj (zA lc (zA lt (zA lj (zA cc1 (zA cc2 (zA ct1 (zA ct2 (zA cj1 (zA cj2 (zA k1 (zA k2 (zA k3 (zA k5 k7))))))))))))))))))))))
 refine zS ?_
 refine zR (zO (by simp [zC h85, zC h94, zC h106, zC h108, -Zc, HH1]; rfl) ?_)
 simp only [zT, zB]
 refine zS ?_
 refine zR (zO (by simp [zC h85, zC h94, zC h106, zC h108, -Zc, HH1]; rfl) ?_)
 simp only [zT, zB]
 refine zS ?_
 refine zL ?_
 refine zS ?_
 refine zS ?_
 refine zR (zO (by simp [zC h85, zC h94, zC h106, zC h108, -Zc, HH1]; rfl) ?_)
 simp only [zT, zB]
 rcases b1 with _ | _
 ·refine Zh (x := true) (by simp) ?_
  refine zK ?_
  simp only [zT, zB]
  refine Zh (x := true) (by simp) ?_
  refine zS ?_
  refine zR (zO (by simp [zC h85, zC h94, zC h106, zC h108, -Zc, HH1]; rfl) ?_)
  simp only [zT, zB]
  refine Zj ?_
  simp [zC h85, zC h94, zC h106, zC h108, -Zc, HH1]
 ·refine Zh (x := false) (by simp) ?_
  refine zS ?_
  refine zR (zO (by simp [zC h85, zC h94, zC h106, zC h108, -Zc, HH1]; rfl) ?_)
  simp only [zT, zB]
  rcases b2 with _ | _
  ·refine Zh (x := true) (by simp) ?_
   refine zK ?_
   simp only [zT, zB]
   refine Zh (x := true) (by simp) ?_
   refine zS ?_
   refine zR (zO (by simp [zC h85, zC h94, zC h106, zC h108, -Zc, HH1]; rfl) ?_)
   simp only [zT, zB]
   refine Zj ?_
   simp [zC h85, zC h94, zC h106, zC h108, -Zc, HH1]
  ·refine Zh (x := false) (by simp) ?_
   refine zR (zO (by simp [zC h85, zC h94, zC h106, zC h108, -Zc, HH1]; rfl) ?_)
   simp only [zT, zB]
   rcases b3 with _ | _
   ·refine Zh (x := true) (by simp) ?_
    refine zS ?_
    refine zR (zO (by simp [zC h85, zC h94, zC h106, zC h108, -Zc, HH1]; rfl) ?_)
    simp only [zT, zB]
    refine Zj ?_
    simp [zC h85, zC h94, zC h106, zC h108, -Zc, HH1]
   ·refine Zh (x := false) (by simp) ?_
    refine zS ?_
    refine zR (zO (by simp [zC h85, zC h94, zC h106, zC h108, -Zc, HH1]; rfl) ?_)
    simp only [zT, zB]
    by_cases h4 : 10 < s.stops.length
    ·refine Zh (x := true) (by simp; omega) ?_
     refine zS ?_
     refine zR (zO (by simp [zC h85, zC h94, zC h106, zC h108, -Zc, HH1, h4]; rfl) ?_)
     simp only [zT, zB]
     refine Zj ?_
     simp [zC h85, zC h94, zC h106, zC h108, -Zc, HH1, h4]
    ·refine Zh (x := false) (by simp; omega) ?_
     refine zS ?_
     refine zR (zO (by simp [zC h85, zC h94, zC h106, zC h108, -Zc, HH1, h4]; rfl) ?_)
     simp only [zT, zB]
     rcases b5 with _ | _
     ·refine Zh (x := true) (by simp) ?_
      refine zS ?_
      refine zR (zO (by simp [zC h85, zC h94, zC h106, zC h108, -Zc, HH1, h4]; rfl) ?_)
      simp only [zT, zB]
      refine Zj ?_
      simp [zC h85, zC h94, zC h106, zC h108, -Zc, HH1, h4]
     ·refine Zh (x := false) (by simp) ?_
      refine zS ?_
      refine zR (zO (by simp [zC h85, zC h94, zC h106, zC h108, -Zc, HH1, h4]; rfl) ?_)
      simp only [zT, zB]
      by_cases h6 : 6 < js.length
      ·refine Zh (x := true) (by simp [h6]; omega) ?_
       refine zS ?_
       refine zR (zO (by simp [zC h85, zC h94, zC h106, zC h108, -Zc, HH1, h4, h6]; rfl) ?_)
       simp only [zT, zB]
       refine Zj ?_
       simp [zC h85, zC h94, zC h106, zC h108, -Zc, HH1, h4, h6]
      ·refine Zh (x := false) (by simp [h6]; omega) ?_
       refine zS ?_
       refine zR (zO (by simp [zC h85, zC h94, zC h106, zC h108, -Zc, HH1, h4, h6]; rfl) ?_)
       simp only [zT, zB]
       rcases b7 with _ | _
       ·refine Zh (x := true) (by simp) ?_
        refine zS ?_
        refine zR (zO (by simp [zC h85, zC h94, zC h106, zC h108, -Zc, HH1, h4, h6]; rfl) ?_)
        simp only [zT, zB]
        refine Zj ?_
        simp [zC h85, zC h94, zC h106, zC h108, -Zc, HH1, h4, h6]
       ·refine Zh (x := false) (by simp) ?_
        refine zK ?_
        simp only [zT, zB]
        refine zS ?_
        refine zR (zO (by simp [zC h85, zC h94, zC h106, zC h108, -Zc, HH1, h4, h6]; rfl) ?_)
        simp only [zT, zB]
        refine Zj ?_
        simp [zC h85, zC h94, zC h106, zC h108, -Zc, HH1, h4, h6]
def FB1 : Nat → Option CFn := upd FA 70 false (oOpen)
theorem FB1_ok : Zr Tryz.prog GG FB1 := Xm mixed FA_ok fun args v ho => by
  unfold oOpen at ho; split at ho <;> (try simp only [reduceCtorEq] at ho)
  rename_i m c t j
  split at ho <;> (try simp only [reduceCtorEq] at ho)
  rename_i cs ts js hc ht hj
  split at ho <;> (try simp only [reduceCtorEq] at ho)
  rename_i hz
  simp only [Option.some.injEq] at ho
  subst ho
  exact a70 Tryz.prog FA rfl rfl rfl rfl rfl ⟨m, cs, ts⟩ js c t j hc ht hj (size_ok.1 hz)
theorem open_eq {s : FShop} {js : List FJob} {c t j : Za} (hc : ZI c = some s.chg) (ht : Yg t = some s.stops) (hj : Xj j = some js) (hz : SizeOk s js) : oOpen [.agg [I s.mach, c, t], j] = some (.tup [if shopE s js = 0 then .agg [I s.mach, c, t, j] else zWork, I (shopE s js)]) := by
  simp only [oOpen, hc, ht, hj]
  rw [if_pos (size_ok.2 hz)]
def FB : Nat → Option CFn := FB1
theorem FB_ok : Zr Tryz.prog GG FB := FB1_ok
end
end
end Go.Proofs.YtjjapdagllclkaaGreat.Tab
namespace Go.Abs
open Go
noncomputable section
def lkG : List (Nat × List GL) → Nat → List GL
 | [], _ => []
 | (m, gs) :: l, k => if m = k then gs else lkG l k
def lkR : List (List Nat × Nat) → List Nat → Option Nat
 | [], _ => none
 | (m, k) :: l, ps => if m = ps then some k else lkR l ps
def annK (m : List (Nat × List GL)) (n : List (List Nat × Nat)) : CC → CC
 | .seq a b => .seq (annK m n a) (annK m n b)
 | .cond c a b => .cond c (annK m n a) (annK m n b)
 | .block id c => .block id (annK m n c)
 | .loop k c => match lkG m k with
  | [] => .loop k (annK m n c)
  | g :: gs => .loopG k (g :: gs) (annK m n c)
 | .rf f ps a b => match lkR n ps with
  | none => .rf f ps (annK m n a) (annK m n b)
  | some k => .rf f ps (annK m n a) (.kil k (annK m n b))
 | c => c
theorem strip_annK (m : List (Nat × List GL)) (n : List (List Nat × Nat)) : ∀ c, strip (annK m n c) = strip c
 | .seq a b => by simp only [annK, strip, strip_annK m n a, strip_annK m n b]
 | .cond c a b => by simp only [annK, strip, strip_annK m n a, strip_annK m n b]
 | .block id c => by simp only [annK, strip, strip_annK m n c]
 | .loop k c => by
  simp only [annK]
  split <;> simp only [strip, strip_annK m n c]
 | .rf f ps a b => by
  simp only [annK]
  split <;> simp only [strip, strip_annK m n a, strip_annK m n b]
 | .skip => rfl
 | .reg _ => rfl
 | .drw _ => rfl
 | .loopG _ _ _ => rfl
 | .loopN _ _ _ _ => rfl
 | .kil _ _ => rfl
 | .frS _ _ => rfl
 | .exit _ => rfl
 | .ret => rfl
def updG (T : Nat → Option CFn) (f : Nat) (m : List (Nat × List GL)) (n : List (List Nat × Nat)) (g : Nat) : Option CFn :=
 if g = f then (match T f with
  | some c => some { c with body := annK m n c.body }
  | none => none)
 else T g
theorem tab_updG {P : Program} {G : Nat → Option (List Za)} {T : Nat → Option CFn} (hT : Zr P G T) {f : Nat} {m : List (Nat × List GL)} {n : List (List Nat × Nat)} : Zr P G (updG T f m n) := by
 intro g cf hg
 unfold updG at hg
 split at hg
 ·rename_i e
  subst e
  split at hg <;> simp at hg
  rename_i c hc
  subst hg
  obtain ⟨fn, b, h1, h2, h3, h4, h5⟩ := hT g c hc
  exact ⟨fn, b, h1, h2, h3, by simp only [strip_annK]; exact h4, h5⟩
 ·exact hT g cf hg
def accV (v0 : Za) (b : Nat) (rows : List (List Za)) : Za := match rows with
 | [] => v0
 | r :: rs => .sl b 0 (rs.length + 1) false
def accB (s : Nat) (blk0 : Option Blk) (rows : List (List Za)) : Option Blk := match rows with
 | [] => blk0
 | r :: rs => some (.row s (r :: rs))
def accX (blk0 : Option Blk) (rows : List (List Za)) : Option Blk := match rows with
 | [] => blk0
 | _ :: _ => none
theorem accV_nil (v0 : Za) (b : Nat) : accV v0 b [] = v0 := rfl
theorem accB_nil (s : Nat) (b : Option Blk) : accB s b [] = b := rfl
theorem accV_cons (v0 : Za) (b : Nat) (r : List Za) (rs : List (List Za)) : accV v0 b (r :: rs) = .sl b 0 (rs.length + 1) false := rfl
theorem accB_cons (s : Nat) (b : Option Blk) (r : List Za) (rs : List (List Za)) : accB s b (r :: rs) = some (.row s (r :: rs)) := rfl
theorem accV_one (v0 : Za) (b : Nat) (rows : List (List Za)) (r : List Za) : accV v0 b (rows ++ [r]) = .sl b 0 (rows.length + 1) false := by cases rows <;> simp [accV]
inductive AccZ (s : Nat) (h : Zf) (b : Nat) : Za → Option Blk → Prop
 | nils (x : Option Blk) : AccZ s h b .nils x
 | vl (x : Option Blk) : AccZ s h b (.vl [] true) x
 | sl (hb : h[b]? = some (some (.row s []))) : AccZ s h b (.sl b 0 0 true) (some (.row s []))
section
variable {P : Program} {T : Nat → Option CFn} {r : Option Nat} {σ : St} {Q : St → Prop}
theorem ops_take (k : Nat) {l : List CO} {σ1 : St} (h : runX P T (fun _ _ _ => none) (l.take k) σ = some σ1) (h2 : Ops P T (l.drop k) σ1 Q) : Ops P T l σ Q := by
 have : Ops P T (l.take k ++ l.drop k) σ Q := by
  obtain ⟨n, σ2, g1, g2⟩ := h2
  generalize l.take k = a at h
  generalize l.drop k = b at g1
  induction a generalizing σ with
  | nil => simp [runX] at h; subst h; exact ⟨n, σ2, g1, g2⟩
  | cons o a ih =>
   rw [ZM] at h
   split at h
   ·rename_i σ3 hs
    exact ops_cons 0 (σ1 := σ3) (stepX_mono (fun _ _ _ _ h => by simp at h) hs) (ih h)
   ·simp at h
 rwa [List.take_append_drop] at this
theorem ops_acc {d s b : Nat} {un : List Nat} {x y : CV} {l : List CO} {v0 yv : Za} {blk0 : Option Blk} {rows new : List (List Za)} (hx : x.ev σ.t = some (accV v0 b rows)) (hy : y.ev σ.t = some yv) (hn : Yl σ.h yv = some new) (hne : new ≠ [])
  (hb : σ.h[b]? = some (accB s blk0 rows)) (h0 : AccZ s σ.h b v0 blk0 ∨ rows ≠ []) (hl : rows.length + new.length ≤ 1048576) (hr : ∀ q ∈ rows, q.length = s) (hnr : ∀ q ∈ new, q.length = s ∧ ∀ z ∈ q, Zq z = true)
  (hq : Ops P T l ⟨σ.t.set d (.sl σ.h.length 0 (rows.length + new.length) false), σ.h.set b (accX blk0 rows) ++ [some (.row s (rows ++ new))]⟩ Q) : Ops P T (⟨some d, .app s x y, none, un⟩ :: l) σ Q := by
 refine ops_cons 0 (σ1 := ⟨σ.t.set d (.sl σ.h.length 0 (rows.length + new.length) false), σ.h.set b (accX blk0 rows) ++ [some (.row s (rows ++ new))]⟩) ?_ hq
 have hnl : ¬ new.length = 0 := by intro h; exact hne (List.eq_nil_of_length_eq_zero h)
 have hlb : b < σ.h.length := (List.getElem?_eq_some_iff.1 hb).1
 have hall : rows.all (·.length == s) = true := by simp only [List.all_eq_true, beq_iff_eq]; exact hr
 have hall2 : new.all (·.length == s) = true := by simp only [List.all_eq_true, beq_iff_eq]; exact fun q hq => (hnr q hq).1
 have hall3 : new.all (·.all Zq) = true := by simp only [List.all_eq_true]; exact fun q hq => (hnr q hq).2
 have key : lop σ.t σ.h (.app s x y) = some (.sl σ.h.length 0 (rows.length + new.length) false, σ.h.set b (accX blk0 rows) ++ [some (.row s (rows ++ new))]) := by
  cases rows with
  | nil =>
   simp only [accB_nil, accV_nil, accX] at *
   have hset : σ.h.set b blk0 = σ.h := by
    have := List.set_getElem_self hlb
    rw [List.getElem?_eq_getElem hlb] at hb
    simp at hb
    rw [← hb]; exact this
   rw [hset]
   simp only [lop, hx, hy]
   have hnl2 : new.length ≤ lim := by have : lim = 1048576 := rfl; rw [this]; simpa using hl
   rcases h0 with h0 | h0
   ·cases h0 with
    | nils =>
     have hra : Yl σ.h .nils = some [] := rfl
     simp only [hra, hn]
     simp [hnl, hne, slE, hnl2, hall2, hall3, Zy, YA, ZA]
    | vl =>
     have hra : Yl σ.h (.vl [] true) = some [] := rfl
     simp only [hra, hn]
     simp [hnl, hne, slE, hnl2, hall2, hall3, Zy, YA, ZA]
    | sl h1 =>
     have hrow : rowAt σ.h b = some (s, []) := by simp [rowAt, Zw, h1]
     have hra : Yl σ.h (.sl b 0 0 true) = some [] := by simp [Yl, hrow]
     simp only [hra, hn]
     simp [hrow, hnl, hne, slE, hnl2, hall2, hall3, Zy, YA, ZA]
   ·exact absurd rfl h0
  | cons q rows =>
   simp only [accB_cons, accV_cons, accX] at *
   have hrow : rowAt σ.h b = some (s, q :: rows) := by simp [rowAt, Zw, hb]
   have hnl2 : rows.length + 1 + new.length ≤ lim := by have : lim = 1048576 := rfl; rw [this]; simpa using hl
   have htk : (q :: rows).take (rows.length + 1) = q :: rows := List.take_of_length_le (by simp)
   have hra : Yl σ.h (.sl b 0 (rows.length + 1) false) = some (q :: rows) := by simp [Yl, hrow]
   simp only [lop, hx, hy, hra, hn]
   rw [if_neg hnl]
   rw [if_pos ⟨by simp [slE, hrow], by simpa using hnl2, hall, hall2, hall3⟩]
   simp [Zy, YA, ZA, Zv]
 simp only [stepX, Yh, dop, loud, key, Yu, putT]
end
end
end Go.Abs
namespace Go.Abs
open Go
section
variable {P : Program} {T : Nat → Option CFn} {r : Option Nat} {σ : St}
def Ylds (P : Program) (T : Nat → Option CFn) (i : Nat) (args : List Za) (h : Zf) (Q : Za → Zf → Prop) : Prop := ∃ n v h', yieldF (exec P T n) i args h = some (v, h') ∧ Q v h'
theorem Ylds.mono {i : Nat} {args : List Za} {h : Zf} {Q Q' : Za → Zf → Prop} (hr : Ylds P T i args h Q) (hq : ∀ v h, Q v h → Q' v h) : Ylds P T i args h Q' := let ⟨n, v, h', h1, h2⟩ := hr; ⟨n, v, h', h1, hq _ _ h2⟩
theorem ops_ylds {o : CO} {l : List CO} {i : Nat} {args : List Za} {Q : St → Prop} (hw : Yh σ.t o.g = some true) (hd : dop P σ.t σ.h o.op = none) (hp : lop σ.t σ.h o.op = none) (hc : ZQ σ.t o.op = some (.yld i args))
  (h : Ylds P T i args σ.h fun v h' => Ops P T l ⟨putT σ.t o.dst v, h'⟩ Q) : Ops P T (o :: l) σ Q := by
 obtain ⟨n, v, h', hy, hq⟩ := h
 refine ops_cons n (σ1 := ⟨putT σ.t o.dst v, h'⟩) ?_ hq
 simp only [stepX, hw, hd, loud, hp, callA, hc, hy, Yu]
theorem ylds_of {i : Nat} {args t : List Za} {h : Zf} {ps : List Nat} {asg bd : CC} {pd : Option CC} {Q : Za → Zf → Prop} (hi : h[i]? = some (some (.loop t ps asg bd .ready pd))) (hn : args.length = ps.length)
  (hb : Runs P T (some i) asg ⟨setAll t (ps.zip args), h⟩ fun e1 σ1 => e1 = .normal ∧ ∃ t1 ps1 as1 bd1 pd1, σ1.h[i]? = some (some (.loop t1 ps1 as1 bd1 .ready pd1)) ∧
   Runs P T (some i) bd ⟨σ1.t, σ1.h.set i (some (.loop t1 ps1 as1 bd1 .busy pd1))⟩ fun e2 σ2 => ∃ t2 ps2 as2 bd2 st2 pd2, σ2.h[i]? = some (some (.loop t2 ps2 as2 bd2 st2 pd2)) ∧
    (match e2 with
    | .normal => Q (.bool true) (trim h.length [] (σ2.h.set i (some (.loop t2 ps2 as2 bd2 .ready none))))
    | .ret => Q (.bool false) (σ2.h.set i (some (.loop t2 ps2 as2 bd2 .done (some .ret))))
    | .exit id => Q (.bool false) (σ2.h.set i (some (.loop t2 ps2 as2 bd2 .done (some (.exit id))))))) : Ylds P T i args h Q := by
 obtain ⟨n1, e1, σ1, h1, rfl, t1, ps1, as1, bd1, pd1, hi1, n2, e2, σ2, h2, t2, ps2, as2, bd2, st2, pd2, hi2, hq⟩ := hb
 have e1 := exec_mono (P := P) (T := T) (Nat.le_max_left n1 n2) _ _ _ _ h1
 have e2' := exec_mono (P := P) (T := T) (Nat.le_max_right n1 n2) _ _ _ _ h2
 cases e2 with
 | normal => exact ⟨max n1 n2, _, _, by unfold yieldF; simp only [Zw, hi, hn, if_true, setAllK_eq, e1, hi1, Zv, e2', hi2, YA, trimK_eq], hq⟩
 | ret => exact ⟨max n1 n2, _, _, by unfold yieldF; simp only [Zw, hi, hn, if_true, setAllK_eq, e1, hi1, Zv, e2', hi2], hq⟩
 | exit id => exact ⟨max n1 n2, _, _, by unfold yieldF; simp only [Zw, hi, hn, if_true, setAllK_eq, e1, hi1, Zv, e2', hi2], hq⟩
theorem trim_same {n : Nat} {vs : List Za} {h : Zf} (hn : h.length ≤ n) : trim n vs h = h := by unfold trim; split <;> simp [List.take_of_length_le hn]
end
theorem XR (n : Nat) : rbB n none = true := rfl
theorem rbB_row (n e : Nat) (rs : List (List Za)) : rbB n (some (.row e rs)) = rs.all (·.all (rb n 5)) := rfl
end Go.Abs
namespace Go.Abs
open Go
noncomputable section
def frNB (n : Nat) (h : Zf) : Option Blk → Option (Option Blk)
 | none => some none
 | some (.row e rs) => match Zd (Zd (frN n h 5)) rs with
  | some rs => some (some (.row e rs))
  | none => none
 | b => if rbB n b then some b else none
def norm (n : Nat) (v : Za) (h : Zf) : Option (Za × Zf) := match frN n h 5 v, Zd (frNB n h) (h.take n) with
 | some v, some h => some (v, h)
 | _, _ => none
section
variable {P : Program} {G : Nat → Option (List Za)} {T : Nat → Option CFn} {E E' E2 : Env} {h h' : Zf} {w w' : World} {n : Nat}
theorem norm_good {f : Nat} {args : List Za} {v v2 : Za} {h2 : Zf} (hc : YD P G f args h v h') (hn : norm h.length v h' = some (v2, h2)) : YD P G f args h v2 h2 := by
 intro E w cargs k hr hl
 refine CallsIn.mono (hc E w cargs k hr hl) ?_
 rintro e w' ⟨u, E', rfl, hle, hr', hu, hfr, hlen⟩
 unfold norm at hn
 split at hn <;> simp at hn
 rename_i v3 h3 e1 e2
 obtain ⟨rfl, rfl⟩ := hn
 obtain ⟨g1, g2⟩ := Zx e2
 have hl3 : h3.length = h.length := by rw [← g1, List.length_take]; omega
 let E2 : Env := ⟨E'.ρ, fun i => E'.D i ∧ i < h.length, fun b => E'.O b ∧ ¬ NewB E' h.length h' b, fun b => E'.I b ∨ NewB E' h.length h' b⟩
 have hD2 : ∀ i, E'.D i → i < h.length → E2.D i := fun i h1 h2 => ⟨h1, h2⟩
 have hI2 : ∀ b, E'.I b → E2.I b := fun b hb => .inl hb
 have hN2 : ∀ b, NewB E' h.length h' b → E2.I b := fun b hb => .inr hb
 have hvr : ∀ (d : Nat) {v v' : Za} {u : Value}, E'.VR w' v u → frN h.length h' d v = some v' → E2.VR w' v' u := fun d _ _ _ => frN_ok (E2 := E2) hr' hlen rfl hD2 hI2 hN2 d
 have hlo : ∀ v u, E'.VR w' v u → rb h.length 5 v = true → E2.VR w' v u := fun v u hv hb =>
  VR.mono (VR.trim 5 hv hb) _ (fun i hi => ⟨⟨hi.1, hi.2⟩, rfl⟩) fun b hb => ⟨.inl hb, rfl⟩
 have hNO : ∀ b, NewB E' h.length h' b → E'.O b := fun b ⟨i, c, _, hi, he⟩ => he ▸ (hr'.blk i c hi).2.1
 have get : ∀ i b2, h3[i]? = some (some b2) → i < h.length ∧ ∃ b, h'[i]? = some (some b) ∧ frNB h.length h' (some b) = some (some b2) := by
  intro i b2 hi
  obtain ⟨hi3, he⟩ := List.getElem?_eq_some_iff.1 hi
  have hin : i < h.length := by omega
  have := g2 i (by rw [List.length_take]; omega) hi3
  rw [he, List.getElem_take] at this
  refine ⟨hin, ?_⟩
  cases hb : h'[i]'(by omega) with
  | none => rw [hb] at this; simp [frNB] at this
  | some b => rw [hb] at this; exact ⟨b, by rw [List.getElem?_eq_getElem (by omega), hb], this⟩
 have hle2 : Le E w E2 w' := ⟨hle.os, hle.tape, hle.output, hle.size, fun i hi => ⟨⟨(hle.D i hi).1, hr.lt i hi⟩, (hle.D i hi).2⟩, fun b hb => .inl (hle.I b hb), fun b hb ho =>
  ⟨(hle.old b hb ho).1, fun h => (hle.old b hb ho).2.1 h.1, fun h => h.elim (hle.old b hb ho).2.2 fun h => absurd (hNO b h) (hle.old b hb ho).2.1⟩⟩
 refine ⟨u, E2, rfl, hle2, ⟨fun i b2 hi => ?_, fun i j b c hi hj he => ?_, fun i hi => by rw [hl3]; exact hi.2, fun b hb => hr'.own b hb.1, fun b hb => ?_, fun g r hg => ?_⟩, hvr 5 hu e1, fun j hj => (hfr j hj.1).elim .inl fun h => absurd hj.2 (by omega), by omega⟩
 ·obtain ⟨hin, b, hb, hf⟩ := get i b2 hi
  obtain ⟨b1, b3, b4, b5⟩ := hr'.blk i b hb
  refine ⟨⟨b1, hin⟩, ⟨b3, fun ⟨j, c, hj1, hj2, hj3⟩ => ?_⟩, b4, ?_⟩
  ·have := hr'.inj j i c b hj2 hb hj3
   omega
  ·cases b with
   | row e rs =>
    simp only [frNB] at hf
    split at hf <;> simp at hf
    rename_i rs2 hrs
    subst hf
    obtain ⟨k1, k2⟩ := Zx hrs
    obtain ⟨c1, c2, c3, c, el, c4, c5, c6⟩ := b5
    refine ⟨c1, fun r hr => ?_, by rw [← k1]; exact c3, c, el, c4, c5, fun k r hk j x hj => ?_⟩
    ·obtain ⟨q, hq, rfl⟩ := List.mem_iff_getElem.1 hr
     rw [← (Zx (k2 q (by omega) hq)).1]
     exact c2 _ (List.getElem_mem _)
    ·obtain ⟨hk1, rfl⟩ := List.getElem?_eq_some_iff.1 hk
     obtain ⟨hj1, rfl⟩ := List.getElem?_eq_some_iff.1 hj
     obtain ⟨q1, q2⟩ := Zx (k2 k (by omega) hk1)
     obtain ⟨v, m1, m2⟩ := c6 k _ (List.getElem?_eq_getElem (by omega)) j _ (List.getElem?_eq_getElem (by omega))
     exact ⟨v, m1, hvr 5 m2 (q2 j (by omega) hj1)⟩
   | map es c =>
    simp only [frNB] at hf
    split at hf <;> simp at hf
    rename_i hrb
    subst hf
    exact rbB_br (E := E') (E2 := E2) rfl hlo b5 hrb
   | loop t ps asg bd st pd =>
    simp only [frNB] at hf
    split at hf <;> simp at hf
    rename_i hrb
    subst hf
    exact rbB_br (E := E') (E2 := E2) rfl hlo b5 hrb
 ·obtain ⟨_, b', hb', _⟩ := get i b hi
  obtain ⟨_, c', hc', _⟩ := get j c hj
  exact hr'.inj i j b' c' hb' hc' he
 ·rcases hb with hb | hb
  ·exact ⟨(hr'.imm b hb).1, fun h => (hr'.imm b hb).2 h.1⟩
  ·obtain ⟨i, c, _, hi, he⟩ := id hb
   exact ⟨he ▸ (hr'.blk i c hi).2.2.1, fun h => h.2 hb⟩
 ·have := hr'.glob g r hg
  generalize hp : Value.pointer (some ⟨g, 0, none⟩) = pv at this ⊢
  cases this with
  | pv _ _ _ b off cv hb hc h => exact .pv _ _ _ b off cv (hI2 b hb) hc fun j hj => VR.mono (h j hj) _ (fun i hi => hi.elim) fun b hb => ⟨hI2 b hb, rfl⟩
def updE (T : Nat → Option CFn) (f : Nat) (eff : List Za → Zf → Option (Za × List (Nat × Option Blk))) (g : Nat) : Option CFn :=
 if g = f then (match T f with
  | some c => some { c with eff := eff }
  | none => none)
 else T g
theorem tab_updE (hT : Zr P G T) {f : Nat} {eff : List Za → Zf → Option (Za × List (Nat × Option Blk))} (ho : ∀ args h v us, eff args h = some (v, us) → YD P G f args h v (setH h us)) : Zr P G (updE T f eff) := by
 intro g cf hg
 unfold updE at hg
 split at hg
 ·rename_i e
  subst e
  split at hg <;> simp at hg
  rename_i c hc
  subst hg
  obtain ⟨fn, b, h1, h2, h3, h4, h5, h6, h7, _⟩ := hT g c hc
  exact ⟨fn, b, h1, h2, h3, h4, h5, h6, h7, ho⟩
 ·exact hT g cf hg
theorem Ze (b : CC) (n : Nat) (r : List CRes) (fr : Bool) (e : List Za → Zf → Option (Za × List (Nat × Option Blk))) (args : List Za) (h : Zf) : orcF ⟨b, n, r, fr, fun _ => none, e⟩ args h = none := by
 unfold orcF; split <;> rfl
theorem Zb {ex : Option Nat → CC → St → Option (AEx × St)} {f : Nat} {cf : CFn} (hT : T f = some cf) (ho : cf.orc = fun _ => none) (args : List Za) (h : Zf) : Yj T ex f args h = match cf.eff args h with
  | some (v, us) => some (v, setH h us)
  | none => callB T ex f args h := by
 cases he : cf.eff args h with
 | none => rfl
 | some r =>
  unfold Yj
  simp only [hT, Zu ho, he]
theorem frN_int (n : Nat) (h : Zf) (d : Nat) (k : IntKind) (m : Int) : frN n h (d + 1) (.int k m) = some (.int k m) := rfl
theorem frN_bool (n : Nat) (h : Zf) (d : Nat) (b : Bool) : frN n h (d + 1) (.bool b) = some (.bool b) := rfl
theorem frN_nils (n : Nat) (h : Zf) (d : Nat) : frN n h (d + 1) .nils = some .nils := rfl
theorem frN_vl (n : Nat) (h : Zf) (d : Nat) (rs : List (List Za)) (t : Bool) : frN n h (d + 1) (.vl rs t) = some (.vl rs t) := rfl
theorem frN_agg (n : Nat) (h : Zf) (d : Nat) (xs : List Za) : frN n h (d + 1) (.agg xs) = match Zd (frN n h d) xs with
 | some ys => some (.agg ys)
 | none => none := rfl
theorem frN_tup (n : Nat) (h : Zf) (d : Nat) (xs : List Za) : frN n h (d + 1) (.tup xs) = match Zd (frN n h d) xs with
 | some ys => some (.tup ys)
 | none => none := rfl
theorem frN_sl (n : Nat) (h : Zf) (d i k m : Nat) (t : Bool) : frN n h (d + 1) (.sl i k m t) = if i < n then some (.sl i k m t) else frz false (above n h) 5 (.sl i k m t) := rfl
theorem frN_ref (n : Nat) (h : Zf) (d i k o : Nat) : frN n h (d + 1) (.ref i k o) = if i < n then some (.ref i k o) else frz false (above n h) 5 (.ref i k o) := rfl
theorem frNB_none (n : Nat) (h : Zf) : frNB n h none = some none := rfl
theorem frNB_row (n : Nat) (h : Zf) (e : Nat) (rs : List (List Za)) : frNB n h (some (.row e rs)) = match Zd (Zd (frN n h 5)) rs with
 | some rs => some (some (.row e rs))
 | none => none := rfl
end
end
end Go.Abs
namespace Go.Abs
open Go
noncomputable section
def posOf : List Nat → Nat → Nat → Option Nat
 | [], _, _ => none
 | j :: J, i, p => if j = i then some p else posOf J i (p + 1)
def renA (J : List Nat) : Za → Option Za
 | .ref i k o => match posOf J i 0 with
  | some p => some (.ref p k o)
  | none => none
 | .sl i k n t => match posOf J i 0 with
  | some p => some (.sl p k n t)
  | none => none
 | v => if rb 0 5 v then some v else none
def backA1 (J : List Nat) : Za → Option Za
 | .ref p k o => match J[p]? with
  | some i => some (.ref i k o)
  | none => none
 | .sl p k n t => match J[p]? with
  | some i => some (.sl i k n t)
  | none => none
 | v => if rb 0 5 v then some v else none
def backA (J : List Nat) : Za → Option Za
 | .tup xs => match Zd (backA1 J) xs with
  | some ys => some (.tup ys)
  | none => none
 | v => backA1 J v
def flatBlk : Option Blk → Bool
 | some (.row _ rs) => rs.all (·.all (rb 0 5))
 | _ => false
def ptrs : List Nat → List Za → List Nat
 | J, [] => J
 | J, .ref i _ _ :: l => if J.contains i then ptrs J l else ptrs (J ++ [i]) l
 | J, .sl i _ _ _ :: l => if J.contains i then ptrs J l else ptrs (J ++ [i]) l
 | J, _ :: l => ptrs J l
def flatAt (h : Zf) (j : Nat) : Option (Option Blk) := match nth h j with
 | some b => if flatBlk b then some b else none
 | none => none
def frameE (sp : List Za → Zf → Option (Za × Zf)) (args : List Za) (h : Zf) : Option (Za × List (Nat × Option Blk)) :=
 match Zd (renA (ptrs [] args)) args, Zd (flatAt h) (ptrs [] args) with
 | some ass, some h0 => match sp ass h0 with
  | some (v, h1) => if h1.length = (ptrs [] args).length ∧ h1.all flatBlk = true then (match backA (ptrs [] args) v with
   | some v' => some (v', (ptrs [] args).zip h1)
   | none => none) else none
  | none => none
 | _, _ => none
theorem ptrs_nodup : ∀ (l : List Za) (J : List Nat), J.Nodup → (ptrs J l).Nodup
 | [], J, h => h
 | v :: l, J, h => by
  have add : ∀ i, J.contains i = false → (J ++ [i]).Nodup := fun i hi => by
   rw [List.nodup_append]
   refine ⟨h, by simp, fun a ha b hb => ?_⟩
   simp at hb; subst hb
   rintro rfl
   simp [ha] at hi
  cases v with
  | ref i k o =>
   simp only [ptrs]
   split
   ·exact ptrs_nodup l J h
   ·rename_i hc; exact ptrs_nodup l _ (add i (by simpa using hc))
  | sl i k n t =>
   simp only [ptrs]
   split
   ·exact ptrs_nodup l J h
   ·rename_i hc; exact ptrs_nodup l _ (add i (by simpa using hc))
  | _ => exact ptrs_nodup l J h
theorem posOf_some : ∀ {J : List Nat} {i p q : Nat}, posOf J i p = some q → p ≤ q ∧ J[q - p]? = some i
 | [], _, _, _, h => by simp [posOf] at h
 | j :: J, i, p, q, h => by
  simp only [posOf] at h
  split at h
  ·rename_i e
   simp at h; subst h; subst e
   exact ⟨Nat.le_refl _, by simp⟩
  ·obtain ⟨h1, h2⟩ := posOf_some h
   refine ⟨by omega, ?_⟩
   rw [show q - p = (q - (p + 1)) + 1 by omega, List.getElem?_cons_succ]
   exact h2
theorem putH_lt {h : Zf} {i : Nat} {b : Option Blk} (hi : i < h.length) : putH h i b = h.set i b := if_pos hi
theorem setH_zip : ∀ {J : List Nat} {l : List (Option Blk)} {h : Zf}, J.Nodup → l.length = J.length → (∀ j ∈ J, j < h.length) → ∀ p (hp : p < J.length), (setH h (J.zip l))[J[p]]? = l[p]?
 | [], _, _, _, _, _, p, hp => by simp at hp
 | j :: J, [], _, _, hl, _, _, _ => by simp at hl
 | j :: J, b :: l, h, hn, hl, hb, p, hp => by
  have hn' := List.nodup_cons.1 hn
  cases p with
  | zero =>
   show (setH (putH h j b) (J.zip l))[j]? = _
   rw [putH_lt (hb j (by simp)), setH_get]
   ·rw [List.getElem?_set_self (hb j (by simp))]; rfl
   ·intro hm
    obtain ⟨u, hu, rfl⟩ := List.mem_map.1 hm
    exact hn'.1 (List.of_mem_zip hu).1
  | succ p =>
   show (setH (putH h j b) (J.zip l))[J[p]'(by simpa using hp)]? = _
   rw [putH_lt (hb j (by simp)), setH_zip hn'.2 (by simpa using hl) (fun k hk => by rw [List.length_set]; exact hb k (by simp [hk])) p (by simpa using hp)]
   simp
theorem setH_len : ∀ (us : List (Nat × Option Blk)) (h : Zf), (∀ u ∈ us, u.1 < h.length) → (setH h us).length = h.length
 | [], _, _ => rfl
 | u :: us, h, hu => by
  show (setH (putH h u.1 u.2) us).length = _
  rw [putH_lt (hu u (by simp)), setH_len us _ fun v hv => by rw [List.length_set]; exact hu v (by simp [hv]), List.length_set]
section
variable {P : Program} {G : Nat → Option (List Za)} {T : Nat → Option CFn} {E E' E2 : Env} {h h' h0 h1 : Zf} {w w' : World} {n : Nat} {J : List Nat}
theorem vr_flat (hI : ∀ b, E.I b → E2.I b) {v : Za} {u : Value} (hv : E.VR w v u) (hb : rb 0 5 v = true) : E2.VR w v u :=
 VR.mono (VR.trim 5 hv hb) _ (fun i hi => absurd hi.2 (by omega)) fun b hb => ⟨hI b hb, rfl⟩
theorem br_flat (hI : ∀ b, E.I b → E2.I b) {i j : Nat} (hρ : E2.ρ j = E.ρ i) {b : Blk} (hb : E.BR P G w i b) (hf : flatBlk (some b) = true) : E2.BR P G w j b := by
 cases b with
 | row e rs =>
  obtain ⟨h1, h2, h3, c, el, h4, h5, h6⟩ := hb
  simp only [flatBlk, List.all_eq_true] at hf
  refine ⟨by rw [hρ]; exact h1, h2, by rw [hρ]; exact h3, c, el, by rw [hρ]; exact h4, by rw [hρ]; exact h5, fun k r hk j x hj => ?_⟩
  obtain ⟨v, g1, g2⟩ := h6 k r hk j x hj
  exact ⟨v, by rw [hρ]; exact g1, vr_flat hI g2 (hf _ (List.mem_of_getElem? hk) _ (List.mem_of_getElem? hj))⟩
 | map es c => simp [flatBlk] at hf
 | loop t ps asg bd st pd => simp [flatBlk] at hf
theorem frame_good {f : Nat} {args ass : List Za} {v v' : Za} (hc : YD P G f ass h0 v h1) (hJ : J.Nodup) (has : Zd (renA J) args = some ass) (hh : Zd (flatAt h) J = some h0)
  (hl1 : h1.length = J.length) (hf1 : h1.all flatBlk = true) (hb : backA J v = some v') : YD P G f args h v' (setH h (J.zip h1)) := by
 intro E w cargs k hr hl
 obtain ⟨g1, g2⟩ := Zx hh
 have hat : ∀ p (hp : p < J.length), ∃ e rs, h[J[p]]? = some (some (.row e rs)) ∧ h0[p]? = some (some (.row e rs)) ∧ flatBlk (some (.row e rs)) = true := fun p hp => by
  have := g2 p hp (by omega)
  simp only [flatAt, Zw] at this
  split at this
  ·rename_i b hb
   split at this <;> simp at this
   rename_i hfb
   cases b with
   | none => simp [flatBlk] at hfb
   | some b =>
    cases b with
    | row e rs => exact ⟨e, rs, hb, by rw [List.getElem?_eq_getElem (by omega), ← this], hfb⟩
    | map es c => simp [flatBlk] at hfb
    | loop t ps asg bd st pd => simp [flatBlk] at hfb
  ·simp at this
 have hat1 : ∀ p (hp : p < J.length), ∃ e rs, h1[p]? = some (some (.row e rs)) ∧ flatBlk (some (.row e rs)) = true := fun p hp => by
  simp only [List.all_eq_true] at hf1
  have hm := hf1 _ (List.getElem_mem (h := (by omega : p < h1.length)))
  cases hb : h1[p]'(by omega) with
  | none => rw [hb] at hm; simp [flatBlk] at hm
  | some b =>
   rw [hb] at hm
   cases b with
   | row e rs => exact ⟨e, rs, by rw [List.getElem?_eq_getElem (by omega), hb], hm⟩
   | map es c => simp [flatBlk] at hm
   | loop t ps asg bd st pd => simp [flatBlk] at hm
 have gd : ∀ p (hp : p < J.length), J.getD p 0 = J[p] := fun p hp => by rw [List.getD_eq_getElem?_getD, List.getElem?_eq_getElem hp]; rfl
 let E0 : Env := ⟨fun p => E.ρ (J.getD p 0), fun p => p < J.length, fun b => ∃ p, p < J.length ∧ b = (E.ρ (J.getD p 0)).b, E.I⟩
 have hO : ∀ b, E0.O b → E.O b := fun b ⟨p, hp, hb⟩ => by
  obtain ⟨e, rs, h1, _⟩ := hat p hp
  rw [hb, gd p hp]
  exact (hr.blk _ _ h1).2.1
 have hr0 : E0.HR P G h0 w := by
  refine ⟨fun i b hi => ?_, fun i j b c hi hj he => ?_, fun i hi => by rw [← g1]; exact hi, fun b hb => hr.own b (hO b hb), fun b hb => ⟨(hr.imm b hb).1, fun ho => (hr.imm b hb).2 (hO b ho)⟩, fun g r hg => ?_⟩
  ·have hil : i < J.length := by have := (List.getElem?_eq_some_iff.1 hi).1; omega
   obtain ⟨e, rs, k1, k2, k3⟩ := hat i hil
   rw [hi] at k2
   simp at k2; subst k2
   obtain ⟨b1, b2, b3, b4⟩ := hr.blk _ _ k1
   refine ⟨hil, ⟨i, hil, rfl⟩, ?_, br_flat (E := E) (E2 := E0) (fun _ h => h) (by show E.ρ (J.getD i 0) = _; rw [gd i hil]) b4 k3⟩
   show (E.ρ (J.getD i 0)).b < _
   rw [gd i hil]; exact b3
  ·have hil : i < J.length := by have := (List.getElem?_eq_some_iff.1 hi).1; omega
   have hjl : j < J.length := by have := (List.getElem?_eq_some_iff.1 hj).1; omega
   obtain ⟨_, _, k1, _⟩ := hat i hil
   obtain ⟨_, _, k2, _⟩ := hat j hjl
   have he' : (E.ρ (J.getD i 0)).b = (E.ρ (J.getD j 0)).b := he
   rw [gd i hil, gd j hjl] at he'
   exact (List.getElem_inj hJ).1 (hr.inj _ _ _ _ k1 k2 he')
  ·have := hr.glob g r hg
   generalize hp : Value.pointer (some ⟨g, 0, none⟩) = pv at this ⊢
   cases this with
   | pv _ _ _ b off cv hb hc h => exact .pv _ _ _ b off cv hb hc fun j hj => VR.mono (h j hj) _ (fun i hi => hi.elim) fun b hb => ⟨hb, rfl⟩
 have hl0 : E0.LR w ass cargs := by
  obtain ⟨a1, a2⟩ := Zx has
  refine ⟨by rw [← a1]; exact hl.1, fun j j1 j2 => ?_⟩
  have hv := hl.2 j (by omega) j2
  have ha := a2 j (by omega) j1
  generalize args[j]'(by omega) = x at hv ha
  generalize ass[j] = y at ha ⊢
  generalize cargs[j] = u at hv ⊢
  have low : (if rb 0 5 x then some x else none) = some y → E0.VR w y u := fun h => by
   split at h <;> simp at h
   rename_i hx
   subst h
   exact vr_flat (E := E) (E2 := E0) (fun _ h => h) hv hx
  cases hv with
  | ref _ i k o hi =>
   simp only [renA] at ha
   split at ha <;> simp at ha
   rename_i p hp
   subst ha
   obtain ⟨_, hp2⟩ := posOf_some hp
   obtain ⟨hp3, hp4⟩ := List.getElem?_eq_some_iff.1 hp2
   have e : E0.ρ p = E.ρ i := by show E.ρ (J.getD p 0) = _; rw [gd p (by simpa using hp3)]; exact congrArg E.ρ (by simpa using hp4)
   rw [← e]
   exact .ref _ p k o (by show p < J.length; simpa using hp3)
  | sl _ i k n t a cap hi hn ht ha' hs =>
   simp only [renA] at ha
   split at ha <;> simp at ha
   rename_i p hp
   subst ha
   obtain ⟨_, hp2⟩ := posOf_some hp
   obtain ⟨hp3, hp4⟩ := List.getElem?_eq_some_iff.1 hp2
   have e : E0.ρ p = E.ρ i := by show E.ρ (J.getD p 0) = _; rw [gd p (by simpa using hp3)]; exact congrArg E.ρ (by simpa using hp4)
   rw [← e] at ha' hs
   exact .sl _ p k n t a cap (by show p < J.length; simpa using hp3) hn ht ha' hs
  | _ => exact low ha
 refine CallsIn.mono (hc E0 w cargs k hr0 hl0) ?_
 rintro e w' ⟨u, E0', rfl, hle0, hr1, hu, hfr, hlen⟩
 have hρ1 : ∀ p (hp : p < J.length), E0'.ρ p = E.ρ J[p] := fun p hp => by
  rw [(hle0.D p hp).2]
  show E.ρ (J.getD p 0) = _
  rw [gd p hp]
 have hI : ∀ b, E0'.I b → b < w.heap.size → E.I b := fun b hb hs => by
  by_cases ho : E0.O b
  ·obtain ⟨p, hp, rfl⟩ := ho
   obtain ⟨e, rs, k1, _⟩ := hat1 p hp
   have := (hr1.blk p _ k1).2.1
   rw [hρ1 p hp, ← gd p hp] at this
   exact absurd this (hr1.imm _ hb).2
  ·exact (hle0.old b hs ho).2.2 hb
 let E2 : Env := ⟨E.ρ, E.D, E.O, fun b => E.I b ∨ E0'.I b⟩
 have hle2 : Le E w E2 w' := ⟨hle0.os, hle0.tape, hle0.output, hle0.size, fun i hi => ⟨hi, rfl⟩, fun b hb => .inl hb, fun b hs ho =>
  ⟨(hle0.old b hs fun h => ho (hO b h)).1, ho, fun h => h.elim id fun h => hI b h hs⟩⟩
 have get1 : ∀ i b, (setH h (J.zip h1))[i]? = some (some b) → (∃ p, ∃ hp : p < J.length, i = J[p] ∧ h1[p]? = some (some b)) ∨ (i ∉ J ∧ h[i]? = some (some b)) := fun i b hi => by
  by_cases hm : i ∈ J
  ·obtain ⟨p, hp, rfl⟩ := List.mem_iff_getElem.1 hm
   rw [setH_zip hJ (by omega) (fun j hj => ?_) p hp] at hi
   ·exact .inl ⟨p, hp, rfl, hi⟩
   ·obtain ⟨q, hq, rfl⟩ := List.mem_iff_getElem.1 hj
    obtain ⟨_, _, k1, _⟩ := hat q hq
    exact (List.getElem?_eq_some_iff.1 k1).1
  ·rw [setH_get] at hi
   ·exact .inr ⟨hm, hi⟩
   ·intro h
    obtain ⟨u, hu, rfl⟩ := List.mem_map.1 h
    exact hm (List.of_mem_zip hu).1
 have was : ∀ i b, (setH h (J.zip h1))[i]? = some (some b) → ∃ c, h[i]? = some (some c) := fun i b hi => by
  rcases get1 i b hi with ⟨p, hp, rfl, _⟩ | ⟨_, h⟩
  ·obtain ⟨e, rs, k1, _⟩ := hat p hp
   exact ⟨_, k1⟩
  ·exact ⟨b, h⟩
 have hvb : ∀ {x y : Za} {u : Value}, E0'.VR w' x u → backA1 J x = some y → E2.VR w' y u := by
  intro x y u hx hy
  have low : (if rb 0 5 x then some x else none) = some y → E2.VR w' y u := fun h => by
   split at h <;> simp at h
   rename_i hb
   subst h
   exact vr_flat (E := E0') (E2 := E2) (fun _ h => .inr h) hx hb
  cases hx with
  | ref _ p k o hp =>
   simp only [backA1] at hy
   split at hy <;> simp at hy
   rename_i i hi
   subst hy
   obtain ⟨hp3, rfl⟩ := List.getElem?_eq_some_iff.1 hi
   rw [hρ1 p hp3]
   obtain ⟨e, rs, k1, _⟩ := hat p hp3
   exact .ref _ _ k o (hr.blk _ _ k1).1
  | sl _ p k n t a cap hp hn ht ha hs =>
   simp only [backA1] at hy
   split at hy <;> simp at hy
   rename_i i hi
   subst hy
   obtain ⟨hp3, rfl⟩ := List.getElem?_eq_some_iff.1 hi
   rw [hρ1 p hp3] at ha hs
   obtain ⟨e, rs, k1, _⟩ := hat p hp3
   exact .sl _ _ k n t a cap (hr.blk _ _ k1).1 hn ht ha hs
  | _ => exact low hy
 have hsl : (setH h (J.zip h1)).length = h.length := setH_len _ _ fun x hx => by
  obtain ⟨q, hq, e⟩ := List.mem_iff_getElem.1 (List.of_mem_zip hx).1
  obtain ⟨_, _, k1, _⟩ := hat q hq
  rw [← e]
  exact (List.getElem?_eq_some_iff.1 k1).1
 refine ⟨u, E2, rfl, hle2, ⟨fun i b hi => ?_, fun i j b c hi hj he => ?_, fun i hi => by rw [hsl]; exact hr.lt i hi, fun b hb => Nat.lt_of_lt_of_le (hr.own b hb) hle0.size, fun b hb => ?_, fun g r hg => hle2.vr hr (hr.glob g r hg)⟩, ?_, fun j hj => .inl hj, by rw [hsl]; exact Nat.le_refl _⟩
 ·rcases get1 i b hi with ⟨p, hp, rfl, hb1⟩ | ⟨hm, hb1⟩
  ·obtain ⟨e, rs, k1, _⟩ := hat p hp
   obtain ⟨b1, b2, b3, _⟩ := hr.blk _ _ k1
   obtain ⟨e', rs', k2, k3⟩ := hat1 p hp
   rw [hb1] at k2
   simp at k2; subst k2
   obtain ⟨_, _, _, b4⟩ := hr1.blk p _ hb1
   exact ⟨b1, b2, Nat.lt_of_lt_of_le b3 hle0.size, br_flat (E := E0') (E2 := E2) (fun _ h => .inr h) (hρ1 p hp).symm b4 k3⟩
  ·obtain ⟨b1, b2, b3, b4⟩ := hr.blk i b hb1
   refine ⟨b1, b2, Nat.lt_of_lt_of_le b3 hle0.size, br_mono b4 rfl (hle0.old _ b3 fun ⟨p, hp, he⟩ => ?_).1 fun _ _ hv => hle2.vr hr hv⟩
   rw [gd p hp] at he
   obtain ⟨e, rs, k1, _⟩ := hat p hp
   exact hm (hr.inj _ _ _ _ hb1 k1 he ▸ List.getElem_mem hp)
 ·obtain ⟨b', hb'⟩ := was i b hi
  obtain ⟨c', hc'⟩ := was j c hj
  exact hr.inj i j b' c' hb' hc' he
 ·rcases hb with hb | hb
  ·exact ⟨Nat.lt_of_lt_of_le (hr.imm b hb).1 hle0.size, (hr.imm b hb).2⟩
  ·refine ⟨(hr1.imm b hb).1, fun ho => ?_⟩
   have hs := hr.own b ho
   exact (hr.imm b (hI b hb hs)).2 ho
 ·unfold backA at hb
  cases hu with
  | tup _ xs cs hl hx =>
   simp only at hb
   split at hb <;> simp at hb
   rename_i ys hy
   subst hb
   obtain ⟨q1, q2⟩ := Zx hy
   exact .tup _ _ cs (by omega) fun j h1 h2 => hvb (hx j (by omega) h2) (q2 j (by omega) h1)
  | any => exact hvb (.any _ _) hb
  | und => exact hvb (.und _) hb
  | bool => exact hvb (.bool _ _) hb
  | int => exact hvb (.int _ _ _) hb
  | agg _ xs cs hl hx => exact hvb (.agg _ xs cs hl hx) hb
  | nilp => exact hvb (.nilp _) hb
  | ref _ i k o hi => exact hvb (.ref _ i k o hi) hb
  | pv _ r o b off cv hb' hc' h => exact hvb (.pv _ r o b off cv hb' hc' h) hb
  | nils => exact hvb (.nils _) hb
  | sl _ i k n t a cap hi hn ht ha hs => exact hvb (.sl _ i k n t a cap hi hn ht ha hs) hb
  | vl _ rs t a cap b off e cv hn ht ha hb' he hc' h => exact hvb (.vl _ rs t a cap b off e cv hn ht ha hb' he hc' h) hb
  | nilm => exact hvb (.nilm _) hb
  | mp _ i hi => exact hvb (.mp _ i hi) hb
  | fn _ f a b ca cb hla hlb ha hb' => exact hvb (.fn _ f a b ca cb hla hlb ha hb') hb
  | nilf => exact hvb (.nilf _) hb
  | yld _ i hi => exact hvb (.yld _ i hi) hb
theorem tab_frame (hm : P.follows .mixedOrders = true) (hT : Zr P G T) {f : Nat} {sp : List Za → Zf → Option (Za × Zf)}
  (ho : ∀ args h v h', sp args h = some (v, h') → ZH P T f args h fun v1 h1 => norm h.length v1 h1 = some (v, h')) : Zr P G (updE T f (frameE sp)) :=
 tab_updE hT fun args h v us he => by
  unfold frameE at he
  split at he <;> (try simp only [reduceCtorEq] at he)
  rename_i ass h0 e1 e2
  split at he <;> (try simp only [reduceCtorEq] at he)
  rename_i v1 h1 e3
  split at he <;> (try simp only [reduceCtorEq] at he)
  rename_i hg
  split at he <;> (try simp only [reduceCtorEq] at he)
  rename_i v' hb
  simp at he
  obtain ⟨rfl, rfl⟩ := he
  obtain ⟨v2, h2, hn, hgood⟩ := answers_good hm hT (ho ass h0 v1 h1 e3)
  exact frame_good (norm_good hgood hn) (ptrs_nodup args [] List.nodup_nil) e1 e2 hg.1 hg.2 hb
end
end
end Go.Abs
namespace Go.Proofs.YtjjapdagllclkaaGreat.Tab
open Go Go.Abs Go.Proofs
set_option maxRecDepth 100000
set_option maxHeartbeats 4000000
set_option linter.unusedSimpArgs false
set_option linter.unusedVariables false
noncomputable section
attribute [local simp] YC Yt XV XW YZ YY XX YJ Xw Ys Zd orcF XO YX XQ XM YE Yr rb_vl rb_pv XK YW YV YU XP XL XN rb_sl rb_fn slE chunk fillA Ym ZK putAt List.range_succ List.range_zero List.range'_succ List.range'_zero ZU ZS ZF ZW ZB ZM stepX Yh dop CV.ev Yu Zv ZA Xt fI_eq YA Yy Zy Zw Out.v putT List.replicate_succ zT zB arI ZN Abs.rowAt ldRow allV toV toC ofV ofC Builtin.min_ Builtin.min2 Builtin.max_ Builtin.max2 XT XU resA tupA kill ZT Yo Yp Yn Zc
section
attribute [local simp] ZV ZD Xp YN actD clash disj Xq holes Xr ZY Xu news eqB allB eqA Xf wrote toCs ofCs stA Yq ZE Yl dI1 dI2 dI3 dI5 elt
attribute [local simp] XH XD XI XE YS XG YP XF st_pv YO st_sl st_vl YQ st_mp st_fn YR XC co_any co_und co_agg co_tup Xe co_int Xb co_ref co_pv Xa co_sl co_vl Xc co_mp co_fn Xd XZ
attribute [local simp] callA ZQ lop loud XR rbB_row
def oFree0 (ts : List YH) (a n : Int) : Prop := (0 ≤ a ∧ a ≤ 1000000) ∧ (0 ≤ n ∧ n ≤ 10000) ∧ ts.length ≤ 100 ∧ ∀ x ∈ ts, x.2.2 ≤ 100000
open Classical in
def oFree : List Za → Option Za
  | [.agg [.int .i64 _, c, t, j], .int .i64 k, .int .i64 a, .int .i64 n] => match ZI c, Yg t, Xj j with
    | some _, some ts, some _ => if oFree0 ts a n then some (I (freeT ts k n a)) else none
    | _, _, _ => none
  | _ => none
theorem isFree_of {st : List YH} {k n a : Int} (h : ∀ p, p < st.length → ∀ x, st[p]? = some x → conf k n a x = false) : isFree st k n a := fun x hx => by
  obtain ⟨p, hp, e⟩ := List.mem_iff_getElem.1 hx
  exact h p hp x (by rw [List.getElem?_eq_getElem hp, e])
theorem a134 (P : Program) (T : Nat → Option CFn) (hT : T 134 = some c134) (s : FShop) (js : List FJob) (c t j : Za) (hc : ZI c = some s.chg) (ht : Yg t = some s.stops) (hj : Xj j = some js) (k a0 n : Int) (hg : oFree0 s.stops a0 n) : ZH P T 134 [.agg [I s.mach, c, t, j], I k, I a0, I n] [] fun v h => frz true h 5 v = some (I (freeT s.stops k n a0)) := by
 have fc := fun H d => Xo hc H d
 have ft := fun H d => dStops_frz ht H d
 have fj := fun H d => dJobs_frz hj H d
 have rc := fun n d => Xi hc n d
 have rt := fun n d => dStops_rb ht n d
 have rj := fun n d => dJobs_rb hj n d
 have lc := Xn hc
 have lt := dStops_len ht
 have lj := dJobs_len hj
 obtain ⟨cc1, cc2⟩ := ZZ hc
 obtain ⟨ct1, ct2⟩ := YK ht
 obtain ⟨cj1, cj2⟩ := dJobs_cells hj
 obtain ⟨ha, hn, hln, hS⟩ := hg
 obtain ⟨M, hM0, hM1, ha0M⟩ : ∃ M : Int, M ≤ 1000000 ∧ 100000 ≤ M ∧ a0 ≤ M := ⟨1000000, by omega, by omega, by omega⟩
 refine Zs hT (Zu rfl) ?_
 simp only [oo, om, op, og, ci, cl, c134]
 have HH1 := zA fc (zA ft (zA fj (zA rc (zA rt (zA rj (zA lc (zA lt (zA lj (zA cc1 (zA cc2 (zA ct1 (zA ct2 (zA cj1 cj2)))))))))))))
 refine zS ?_
 refine zR (zO (by simp [-Zc, HH1]; rfl) ?_)
 simp only [zT, zB]
 refine zS ?_
 refine zS ?_
 refine zR (zO (by simp [-Zc, HH1]; rfl) ?_)
 simp only [zT, zB]
 refine zL ?_
 refine YI (fun m σ => ∃ (a : Int) (mv : Bool), m = 2 * (M - a).toNat + (if mv = true then 1 else 0) ∧ a0 ≤ a ∧ a ≤ M ∧ (∀ u, a0 ≤ u → isFree s.stops k n u → a ≤ u) ∧ (mv = false → isFree s.stops k n a) ∧ σ = ⟨[.any, I k, I a, I n, .ref 0 0 0, .any, .any, .any, .any, .bool mv, .any, .any, .any, .any, .any, .any, .any, .any, .any, .any, .any, .any, .any, .any, .any, .any, .any, .any, .any, .any, .any, .any, .any, .any, .any, .any, .any, .any, .any, .any, .any, .any, .any], [some (.row 4 [[I s.mach, c, t, j]])]⟩) ?_ (2 * (M - a0).toNat + 1) _ ⟨a0, true, rfl, Int.le_refl _, ha0M, fun u h _ => h, by simp, by simp⟩
 rintro m σ ⟨a, mv, rfl, hlo, haM, hlow, hfr, rfl⟩
 refine zS ?_
 refine zS ?_
 refine zR (zO (by simp [-Zc, HH1]; rfl) ?_)
 simp only [zT, zB]
 refine Zg (x := mv) (by simp) (fun hmv => ?_) (fun hmv => ?_)
 ·subst hmv
  refine zK ?_
  simp only [zT, zB]
  refine zL ?_
  refine zS ?_
  refine zR (zO (by simp [-Zc, HH1]; rfl) ?_)
  simp only [zT, zB]
  refine zS ?_
  refine zR (zO (by simp [-Zc, HH1]; rfl) ?_)
  simp only [zT, zB]
  refine zL ?_
  refine YI (fun m σ => ∃ (p : Nat) (i b : Int) (mv : Bool), i = p ∧ s.stops.length - p = m ∧ p ≤ s.stops.length ∧ a ≤ b ∧ b ≤ M ∧ (∀ u, a0 ≤ u → isFree s.stops k n u → b ≤ u) ∧ (mv = true → a < b) ∧ (mv = false → b = a ∧ ∀ q, q < p → ∀ x, s.stops[q]? = some x → conf k n a x = false) ∧ σ = ⟨[.any, I k, I b, I n, .ref 0 0 0, .any, .any, .any, .any, .bool mv, .any, .any, .any, .any, .any, t, I s.stops.length, I i, .any, .any, .any, .any, .any, .any, .any, .any, .any, .any, .any, .any, .any, .any, .any, .any, .any, .any, .any, .any, .any, .any, .any, .any, .any], [some (.row 4 [[I s.mach, c, t, j]])]⟩) ?_ (s.stops.length - 0) _ ⟨0, 0, a, false, rfl, rfl, Nat.zero_le _, Int.le_refl _, haM, hlow, by simp, (fun _ => ⟨rfl, fun q hq => by omega⟩), by simp⟩
  rintro m σ ⟨p, i, b, mv, hip, rfl, hpl, hab, hbM, hbl, hm1, hm2, rfl⟩
  refine zS ?_
  refine zR (zO (by simp [-Zc, HH1]; rfl) ?_)
  simp only [zT, zB]
  refine zS ?_
  refine Zg (x := decide (i < (s.stops.length : Int))) (by simp) (fun hlt => ?_) (fun hlt => ?_)
  ·have hlt := of_decide_eq_true hlt
   have hp0 : p < s.stops.length := by omega
   have hi0 : 0 ≤ i := by omega
   have htn : i.toNat = p := by omega
   have hwi : W .i64 (i + 1) = i + 1 := ZR (by omega)
   have hxM := hS _ (List.getElem_mem hp0)
   have hxm := List.getElem_mem hp0
   have hxg : s.stops[p]? = some s.stops[p] := List.getElem?_eq_getElem hp0
   obtain ⟨tt, rfl⟩ := dStops_get ht hp0
   have hwb : W .i64 (b + n) = b + n := ZX (by omega)
   generalize hX : s.stops[p] = X at *
   obtain ⟨x1, x2, x3⟩ := X
   simp only at hxM
   generalize hA1 : (x1 == k) = A1 at *
   generalize hA2 : decide (b < x3) = A2 at *
   generalize hA3 : decide (x2 < b + n) = A3 at *
   have hcf : conf k n b (x1, x2, x3) = (A1 && A2 && A3) := by unfold conf; simp only; rw [hA1, hA2, hA3]
   rcases A1 with _ | _
   ·have HH2 := zA hi0 (zA htn (zA hp0 (zA hX (zA hwi (zA hwb (zA hA1 (zA hA2 hA3)))))))
    refine zK ?_
    simp only [zT, zB]
    refine zS ?_
    refine zL ?_
    refine zS ?_
    refine zR (zO (by simp [-Zc, HH1, rS3, HH2]; rfl) ?_)
    simp only [zT, zB]
    refine zS ?_
    refine zR (zO (by simp [-Zc, HH1, rS3, HH2]; rfl) ?_)
    simp only [zT, zB]
    refine Zh (x := false) (by simp) ?_
    refine zK ?_
    simp only [zT, zB]
    refine zR (zO (by simp [-Zc, HH1, rS3, HH2]; rfl) ?_)
    simp only [zT, zB]
    refine ⟨s.stops.length - (p + 1), by omega, p + 1, i + 1, b, mv, by omega, rfl, by omega, hab, hbM, hbl, hm1, fun hmv => ⟨(hm2 hmv).1, fun q hq x hx => ?_⟩, by simp [trim, -Zc, HH1, rS3, HH2]⟩
    rcases Nat.lt_or_ge q p with h | h
    ·exact (hm2 hmv).2 q h x hx
    ·obtain rfl : q = p := by omega
     rw [hxg] at hx
     cases hx
     rw [← (hm2 hmv).1]
     exact hcf
   ·rcases A2 with _ | _
    ·have HH3 := zA hi0 (zA htn (zA hp0 (zA hX (zA hwi (zA hwb (zA hA1 (zA hA2 hA3)))))))
     refine zK ?_
     simp only [zT, zB]
     refine zS ?_
     refine zL ?_
     refine zS ?_
     refine zR (zO (by simp [-Zc, HH1, rS3, HH3]; rfl) ?_)
     simp only [zT, zB]
     refine zS ?_
     refine zR (zO (by simp [-Zc, HH1, rS3, HH3]; rfl) ?_)
     simp only [zT, zB]
     refine Zh (x := false) (by simp) ?_
     refine zK ?_
     simp only [zT, zB]
     refine zR (zO (by simp [-Zc, HH1, rS3, HH3]; rfl) ?_)
     simp only [zT, zB]
     refine ⟨s.stops.length - (p + 1), by omega, p + 1, i + 1, b, mv, by omega, rfl, by omega, hab, hbM, hbl, hm1, fun hmv => ⟨(hm2 hmv).1, fun q hq x hx => ?_⟩, by simp [trim, -Zc, HH1, rS3, HH3]⟩
     rcases Nat.lt_or_ge q p with h | h
     ·exact (hm2 hmv).2 q h x hx
     ·obtain rfl : q = p := by omega
      rw [hxg] at hx
      cases hx
      rw [← (hm2 hmv).1]
      exact hcf
    ·rcases A3 with _ | _
     ·have HH4 := zA hi0 (zA htn (zA hp0 (zA hX (zA hwi (zA hwb (zA hA1 (zA hA2 hA3)))))))
      refine zK ?_
      simp only [zT, zB]
      refine zS ?_
      refine zL ?_
      refine zS ?_
      refine zR (zO (by simp [-Zc, HH1, rS3, HH4]; rfl) ?_)
      simp only [zT, zB]
      refine zS ?_
      refine zR (zO (by simp [-Zc, HH1, rS3, HH4]; rfl) ?_)
      simp only [zT, zB]
      refine Zh (x := false) (by simp) ?_
      refine zK ?_
      simp only [zT, zB]
      refine zR (zO (by simp [-Zc, HH1, rS3, HH4]; rfl) ?_)
      simp only [zT, zB]
      refine ⟨s.stops.length - (p + 1), by omega, p + 1, i + 1, b, mv, by omega, rfl, by omega, hab, hbM, hbl, hm1, fun hmv => ⟨(hm2 hmv).1, fun q hq x hx => ?_⟩, by simp [trim, -Zc, HH1, rS3, HH4]⟩
      rcases Nat.lt_or_ge q p with h | h
      ·exact (hm2 hmv).2 q h x hx
      ·obtain rfl : q = p := by omega
       rw [hxg] at hx
       cases hx
       rw [← (hm2 hmv).1]
       exact hcf
     ·have HH5 := zA hi0 (zA htn (zA hp0 (zA hX (zA hwi (zA hwb (zA hA1 (zA hA2 hA3)))))))
      refine zK ?_
      simp only [zT, zB]
      refine zS ?_
      refine zL ?_
      refine zS ?_
      refine zR (zO (by simp [-Zc, HH1, rS3, HH5]; rfl) ?_)
      simp only [zT, zB]
      refine zS ?_
      refine zR (zO (by simp [-Zc, HH1, rS3, HH5]; rfl) ?_)
      simp only [zT, zB]
      refine Zh (x := true) (by simp) ?_
      refine zR (zO (by simp [-Zc, HH1, rS3, HH5]; rfl) ?_)
      simp only [zT, zB]
      refine zR (zO (by simp [-Zc, HH1, rS3, HH5]; rfl) ?_)
      simp only [zT, zB]
      have hcf' : conf k n b (x1, x2, x3) = true := hcf
      have hbx : b < x3 := of_decide_eq_true hA2
      refine ⟨s.stops.length - (p + 1), by omega, p + 1, i + 1, x3, true, by omega, rfl, by omega, by omega, by omega, fun u hu hf => ?_, fun _ => by omega, fun h => by simp at h, by simp [trim, -Zc, HH1, rS3, HH5]⟩
      exact conf_until hcf' (hbl u hu hf) (hf _ hxm)
  ·have hlt := of_decide_eq_false hlt
   obtain rfl : p = s.stops.length := by omega
   refine ZL ?_
   simp only [zT, zB, if_true, if_false, reduceIte, Nat.reduceEqDiff, Nat.succ_ne_zero, Nat.one_ne_zero, Nat.zero_ne_one]
   rcases mv with _ | _
   ·obtain ⟨rfl, hf⟩ := hm2 rfl
    exact ⟨2 * (M - b).toNat, by omega, b, false, by simp, by omega, hbM, hbl, fun _ => isFree_of hf, by simp [trim, -Zc, HH1]⟩
   ·have := hm1 rfl
    exact ⟨2 * (M - b).toNat + 1, by omega, b, true, by simp, by omega, hbM, hbl, fun h => by simp at h, by simp [trim, -Zc, HH1]⟩
 ·subst hmv
  have e := freeT_eq (st := s.stops) (k := k) (n := n) (a := a0) ⟨hlo, hfr rfl, hlow⟩
  refine ZL ?_
  simp only [zT, zB, if_true, if_false, reduceIte, Nat.reduceEqDiff, Nat.succ_ne_zero, Nat.one_ne_zero, Nat.zero_ne_one]
  refine zS ?_
  refine zR (zO (by simp [-Zc, HH1]; rfl) ?_)
  simp only [zT, zB]
  refine Zj ?_
  simp [-Zc, HH1, e]
def FC1 : Nat → Option CFn := upd FB 134 true (oFree)
theorem FC1_ok : Zr Tryz.prog GG FC1 := Xm mixed FB_ok fun args v ho => by
  unfold oFree at ho; split at ho <;> (try simp only [reduceCtorEq] at ho)
  rename_i m c t j k a n
  split at ho <;> (try simp only [reduceCtorEq] at ho)
  rename_i cs ts js hc ht hj
  split at ho <;> (try simp only [reduceCtorEq] at ho)
  rename_i hg
  simp only [Option.some.injEq] at ho
  subst ho
  exact a134 Tryz.prog FB rfl ⟨m, cs, ts⟩ js c t j hc ht hj k a n hg
end
section
attribute [local simp] ZV ZD Xp YN actD clash disj Xq holes Xr ZY Xu news eqB allB eqA Xf wrote toCs ofCs stA Yq ZE Yl dI1 dI2 dI3 dI5 elt
attribute [local simp] XH XD XI XE YS XG YP XF st_pv YO st_sl st_vl YQ st_mp st_fn YR XC co_any co_und co_agg co_tup Xe co_int Xb co_ref co_pv Xa co_sl co_vl Xc co_mp co_fn Xd XZ
attribute [local simp] above callA ZQ frNB_none frNB_row frN_agg frN_bool frN_int frN_nils frN_ref frN_sl frN_tup frN_vl gather getR lop loud lowR norm okG putG putR XR rbB_row resG rowAt takeG
def lineC : FLine → List Za
  | [] => []
  | x :: l => I x.1 :: I x.2.1 :: .bool x.2.2 :: lineC l
def dLine : List Za → Option FLine
  | [.int .i64 d0, .int .i64 k0, .bool h0, .int .i64 d1, .int .i64 k1, .bool h1, .int .i64 d2, .int .i64 k2, .bool h2, .int .i64 d3, .int .i64 k3, .bool h3] => some [(d0, k0, h0), (d1, k1, h1), (d2, k2, h2), (d3, k3, h3)]
  | _ => none
theorem dLine_eq {r : List Za} {l : FLine} (h : dLine r = some l) : r = lineC l ∧ l.length = 4 := by
  unfold dLine at h
  split at h <;> simp at h
  subst h
  exact ⟨rfl, rfl⟩
theorem line4 {l : FLine} (h : l.length = 4) : ∃ d0 k0 h0 d1 k1 h1 d2 k2 h2 d3 k3 h3, l = [(d0, k0, h0), (d1, k1, h1), (d2, k2, h2), (d3, k3, h3)] := by
  rcases l with _ | ⟨⟨a0, a1, a2⟩, _ | ⟨⟨b0, b1, b2⟩, _ | ⟨⟨c0, c1, c2⟩, _ | ⟨⟨e0, e1, e2⟩, _ | ⟨f, l⟩⟩⟩⟩⟩ <;> simp at h
  exact ⟨a0, a1, a2, b0, b1, b2, c0, c1, c2, e0, e1, e2, rfl⟩
structure PassOk (s : FShop) (js : List FJob) (l : FLine) (j : FJob) : Prop where
  shop : ShopOk s js
  line : LineOk s 200000 l
  kind : 0 ≤ j.kind ∧ j.kind < s.chg.length
  ready : 0 ≤ j.ready ∧ j.ready ≤ 200000
  mins : (j.mins.length : Int) = s.mach
  each : ∀ n ∈ j.mins, 0 ≤ n ∧ n ≤ 10000
theorem chgAt_get {s : FShop} {js : List FJob} {c : Za} (h : ShopOk s js) (hc : ZI c = some s.chg) {a b : Int} (ha : 0 ≤ a ∧ a < s.chg.length) (hb : 0 ≤ b ∧ b < s.chg.length) :
    ∃ (rs : List (List Za)) (t : Bool) (row : List Int) (t' : Bool), c = .vl rs t ∧ a.toNat < rs.length ∧ rs[a.toNat]? = some [.vl (row.map rI) t'] ∧ b.toNat < row.length ∧ row[b.toNat]? = some (chgAt s a b) := by
  have hka : a.toNat < s.chg.length := by omega
  obtain ⟨rs, t, w, rfl, hl, hr, hw⟩ := dInts2_get hc hka
  have hlen := (h.chg _ (List.getElem_mem hka)).1
  have hkb : b.toNat < s.chg[a.toNat].length := by omega
  obtain ⟨t', rfl⟩ := Xh hw hkb
  refine ⟨rs, t, s.chg[a.toNat], t', rfl, by omega, hr, hkb, ?_⟩
  unfold chgAt
  rw [List.getD_eq_getElem?_getD, List.getD_eq_getElem?_getD, List.getElem?_eq_getElem hka, Option.getD_some, List.getElem?_eq_getElem hkb]
  rfl
open Classical in
def sPass : List Za → Zf → Option (Za × Zf)
  | [.agg [.int .i64 m, c, t, j], .ref 0 0 0, .agg [.int .i64 kd, .int .i64 rd, .int .i64 du, v]], [some (.row 12 [r])] => match ZI c, Yg t, Xj j, Yd v, dLine r with
    | some cs, some ts, some js, some ms, some l => if PassOk ⟨m, cs, ts⟩ js l ⟨kd, rd, du, ms⟩ then
        some (.tup [.vl ((passF ⟨m, cs, ts⟩ l ⟨kd, rd, du, ms⟩).1.map rI) false, I (passF ⟨m, cs, ts⟩ l ⟨kd, rd, du, ms⟩).2.1], [some (.row 12 [lineC (passF ⟨m, cs, ts⟩ l ⟨kd, rd, du, ms⟩).2.2])]) else none
    | _, _, _, _, _ => none
  | _, _ => none
theorem startF_zero {s : FShop} {kind : Int} {l : FLine} {k : Nat} {n t : Int} (h : ¬ 0 < n) : Xv s kind l k n t = t := by unfold Xv; rw [if_neg h]
theorem startF_had {s : FShop} {kind : Int} {l : FLine} {k : Nat} {n t d kd : Int} (h : 0 < n) (hl : l[k]? = some (d, kd, true)) : Xv s kind l k n t = freeT s.stops k n (max t (d + chgAt s kd kind)) := by
  unfold Xv; rw [if_pos h, List.getD_eq_getElem?_getD, hl]; rfl
theorem startF_new {s : FShop} {kind : Int} {l : FLine} {k : Nat} {n t d kd : Int} (h : 0 < n) (hl : l[k]? = some (d, kd, false)) : Xv s kind l k n t = freeT s.stops k n t := by
  unfold Xv; rw [if_pos h, List.getD_eq_getElem?_getD, hl]; rfl
theorem a102 (P : Program) (T : Nat → Option CFn) (hT : T 102 = some { c102 with body := annK [(229738, [.slot 6])] [] c102.body }) (h134 : T 134 = some { c134 with frsh := true, orc := oFree }) (s : FShop) (js : List FJob) (c t j : Za) (hc : ZI c = some s.chg) (ht : Yg t = some s.stops) (hj : Xj j = some js) (kd rd du : Int) (v : Za) (ms : List Int) (l : FLine) (hv : Yd v = some ms) (hg : PassOk s js l ⟨kd, rd, du, ms⟩) :
  ZH P T 102 [.agg [I s.mach, c, t, j], .ref 0 0 0, .agg [I kd, I rd, I du, v]] [some (.row 12 [lineC l])] fun v1 h1 => norm 1 v1 h1 = some (.tup [.vl ((passF s l ⟨kd, rd, du, ms⟩).1.map rI) false, I (passF s l ⟨kd, rd, du, ms⟩).2.1], [some (.row 12 [lineC (passF s l ⟨kd, rd, du, ms⟩).2.2])]) := by
 have fc := fun H d => Xo hc H d
 have ft := fun H d => dStops_frz ht H d
 have fj := fun H d => dJobs_frz hj H d
 have rc := fun n d => Xi hc n d
 have rt := fun n d => dStops_rb ht n d
 have rj := fun n d => dJobs_rb hj n d
 have lc := Xn hc
 have lt := dStops_len ht
 have lj := dJobs_len hj
 obtain ⟨cc1, cc2⟩ := ZZ hc
 obtain ⟨ct1, ct2⟩ := YK ht
 obtain ⟨cj1, cj2⟩ := dJobs_cells hj
 have fv := fun H d => ZG hv H d
 have rv := fun n d => Yc hv n d
 have lv := Yz hv
 obtain ⟨cv1, cv2⟩ := Zp hv
 obtain ⟨hsh, hln, hkd, hrd, hml, hmn⟩ := hg
 have hm4 : ms.length ≤ 4 := by have := hsh.mach; simp only at hml; omega
 have hm1 : 1 ≤ ms.length := by have := hsh.mach; simp only at hml; omega
 simp only at hkd hrd hmn
 have hS0 : ∀ x ∈ s.stops, x.2.2 ≤ 100000 := fun x hx => (hsh.stop x hx).2.2.1.2
 obtain ⟨S, hSe⟩ : ∃ S, (Xy s kd ms 0 rd l).1 = S := ⟨_, rfl⟩
 obtain ⟨E, hEe⟩ : ∃ E, (Xy s kd ms 0 rd l).2.1 = E := ⟨_, rfl⟩
 obtain ⟨F, hFe⟩ : ∃ F, (Xy s kd ms 0 rd l).2.2 = F := ⟨_, rfl⟩
 obtain ⟨d0, k0, h0, d1, k1, h1, d2, k2, h2, d3, k3, h3, rfl⟩ := line4 hln.len
 have hpF : passF s [(d0, k0, h0), (d1, k1, h1), (d2, k2, h2), (d3, k3, h3)] ⟨kd, rd, du, ms⟩ = (S, E, F) := by unfold passF; simp only; rw [← hSe, ← hEe, ← hFe]
 rw [hpF]
 simp only [lineC]
 refine Zs hT (Zu rfl) ?_
 simp only [oo, om, op, og, ci, cl, c102, annK, lkG, lkR, reduceIte, Nat.reduceEqDiff, reduceCtorEq, List.cons.injEq, and_true, and_false, false_and, true_and]
 have HH1 := zA h134 (zA fc (zA ft (zA fj (zA rc (zA rt (zA rj (zA lc (zA lt (zA lj (zA cc1 (zA cc2 (zA ct1 (zA ct2 (zA cj1 (zA cj2 (zA fv (zA rv (zA lv (zA cv1 cv2)))))))))))))))))))
 refine zS ?_
 refine zR (zO (by simp [zC h134, -Zc, HH1]; rfl) ?_)
 simp only [zT, zB]
 refine zS ?_
 refine zR (zO (by simp [zC h134, -Zc, HH1]; rfl) ?_)
 simp only [zT, zB]
 refine zS ?_
 refine zS ?_
 refine zR (zO (by simp [zC h134, -Zc, HH1]; rfl) ?_)
 simp only [zT, zB]
 refine zL ?_
 refine XJ (fun mm σ => ∃ (p : Nat) (tt : Int) (acc : List Int) (d0 k0 d1 k1 d2 k2 d3 k3 : Int) (h0 h1 h2 h3 : Bool), ms.length - p = mm ∧ p ≤ ms.length ∧ LineOk s (200000 + 10500 * (p : Int)) [(d0, k0, h0), (d1, k1, h1), (d2, k2, h2), (d3, k3, h3)] ∧ (0 ≤ tt ∧ tt ≤ 200000 + 10500 * (p : Int)) ∧ S = acc ++ (Xy s kd (ms.drop p) p tt [(d0, k0, h0), (d1, k1, h1), (d2, k2, h2), (d3, k3, h3)]).1 ∧ (Xy s kd (ms.drop p) p tt [(d0, k0, h0), (d1, k1, h1), (d2, k2, h2), (d3, k3, h3)]).2 = (E, F) ∧ ((p = 0 ∧ acc = [] ∧ σ = ⟨[.any, .ref 0 0 0, .any, .ref 1 0 0, .any, .ref 2 0 0, .nils, .any, I tt, .any, .any, .any, .any, .any, .any, v, I ms.length, I 0, .any, .any, .any, .any, .any, .any, .any, .any, .any, .any, .any, .any, .any, .any, .any, .any, .any, .any, .any, .any, .any, .any, .any, .any, .any, .any, .any, .any, .any, .any, .any, .any, .any, .any, .any, .any, .any, .any, .any, .any, .any, .any, .any, .any, .any, .any, .any, .any, .any, .any, .any, .any, .any, .any, .any, .any, .any, .any, .any, .any, .any, .any, .any, .any, .any, .any, .any, .any, .any], [some (.row 12 [[I d0, I k0, .bool h0, I d1, I k1, .bool h1, I d2, I k2, .bool h2, I d3, I k3, .bool h3]]), some (.row 4 [[I s.mach, c, t, j]]), some (.row 4 [[I kd, I rd, I du, v]]), none]⟩) ∨ (p = 1 ∧ ∃ a0 : Int, acc = [a0] ∧ σ = ⟨[.any, .ref 0 0 0, .any, .ref 1 0 0, .any, .ref 2 0 0, .sl 3 0 1 false, .any, I tt, .any, .any, .any, .any, .any, .any, v, I ms.length, I 1, .any, .any, .any, .any, .any, .any, .any, .any, .any, .any, .any, .any, .any, .any, .any, .any, .any, .any, .any, .any, .any, .any, .any, .any, .any, .any, .any, .any, .any, .any, .any, .any, .any, .any, .any, .any, .any, .any, .any, .any, .any, .any, .any, .any, .any, .any, .any, .any, .any, .any, .any, .any, .any, .any, .any, .any, .any, .any, .any, .any, .any, .any, .any, .any, .any, .any, .any, .any, .any], [some (.row 12 [[I d0, I k0, .bool h0, I d1, I k1, .bool h1, I d2, I k2, .bool h2, I d3, I k3, .bool h3]]), some (.row 4 [[I s.mach, c, t, j]]), some (.row 4 [[I kd, I rd, I du, v]]), some (.row 1 [[I a0]])]⟩) ∨ (p = 2 ∧ ∃ a0 a1 : Int, acc = [a0, a1] ∧ σ = ⟨[.any, .ref 0 0 0, .any, .ref 1 0 0, .any, .ref 2 0 0, .sl 3 0 2 false, .any, I tt, .any, .any, .any, .any, .any, .any, v, I ms.length, I 2, .any, .any, .any, .any, .any, .any, .any, .any, .any, .any, .any, .any, .any, .any, .any, .any, .any, .any, .any, .any, .any, .any, .any, .any, .any, .any, .any, .any, .any, .any, .any, .any, .any, .any, .any, .any, .any, .any, .any, .any, .any, .any, .any, .any, .any, .any, .any, .any, .any, .any, .any, .any, .any, .any, .any, .any, .any, .any, .any, .any, .any, .any, .any, .any, .any, .any, .any, .any, .any], [some (.row 12 [[I d0, I k0, .bool h0, I d1, I k1, .bool h1, I d2, I k2, .bool h2, I d3, I k3, .bool h3]]), some (.row 4 [[I s.mach, c, t, j]]), some (.row 4 [[I kd, I rd, I du, v]]), some (.row 1 [[I a0], [I a1]])]⟩) ∨ (p = 3 ∧ ∃ a0 a1 a2 : Int, acc = [a0, a1, a2] ∧ σ = ⟨[.any, .ref 0 0 0, .any, .ref 1 0 0, .any, .ref 2 0 0, .sl 3 0 3 false, .any, I tt, .any, .any, .any, .any, .any, .any, v, I ms.length, I 3, .any, .any, .any, .any, .any, .any, .any, .any, .any, .any, .any, .any, .any, .any, .any, .any, .any, .any, .any, .any, .any, .any, .any, .any, .any, .any, .any, .any, .any, .any, .any, .any, .any, .any, .any, .any, .any, .any, .any, .any, .any, .any, .any, .any, .any, .any, .any, .any, .any, .any, .any, .any, .any, .any, .any, .any, .any, .any, .any, .any, .any, .any, .any, .any, .any, .any, .any, .any, .any], [some (.row 12 [[I d0, I k0, .bool h0, I d1, I k1, .bool h1, I d2, I k2, .bool h2, I d3, I k3, .bool h3]]), some (.row 4 [[I s.mach, c, t, j]]), some (.row 4 [[I kd, I rd, I du, v]]), some (.row 1 [[I a0], [I a1], [I a2]])]⟩) ∨ (p = 4 ∧ ∃ a0 a1 a2 a3 : Int, acc = [a0, a1, a2, a3] ∧ σ = ⟨[.any, .ref 0 0 0, .any, .ref 1 0 0, .any, .ref 2 0 0, .sl 3 0 4 false, .any, I tt, .any, .any, .any, .any, .any, .any, v, I ms.length, I 4, .any, .any, .any, .any, .any, .any, .any, .any, .any, .any, .any, .any, .any, .any, .any, .any, .any, .any, .any, .any, .any, .any, .any, .any, .any, .any, .any, .any, .any, .any, .any, .any, .any, .any, .any, .any, .any, .any, .any, .any, .any, .any, .any, .any, .any, .any, .any, .any, .any, .any, .any, .any, .any, .any, .any, .any, .any, .any, .any, .any, .any, .any, .any, .any, .any, .any, .any, .any, .any], [some (.row 12 [[I d0, I k0, .bool h0, I d1, I k1, .bool h1, I d2, I k2, .bool h2, I d3, I k3, .bool h3]]), some (.row 4 [[I s.mach, c, t, j]]), some (.row 4 [[I kd, I rd, I du, v]]), some (.row 1 [[I a0], [I a1], [I a2], [I a3]])]⟩))) (by simp [zC h134, -Zc, HH1] <;> first | exact ⟨rfl, rfl⟩ | rfl) (⟨0, rd, [], d0, k0, d1, k1, d2, k2, d3, k3, h0, h1, h2, h3, rfl, Nat.zero_le _, hln.mono (by omega), by omega, by simpa using hSe.symm, by rw [List.drop_zero, ← hEe, ← hFe], .inl ⟨rfl, rfl, rfl⟩⟩) ?_
 intro mm σ hI
 obtain ⟨p, hI⟩ := hI
 obtain ⟨tt, hI⟩ := hI
 obtain ⟨acc, hI⟩ := hI
 obtain ⟨d0, k0, d1, k1, d2, k2, d3, k3, hI⟩ := hI
 obtain ⟨h0, h1, h2, h3, hI⟩ := hI
 obtain ⟨hmm, hpl, hlo, htt, hS, hE, hd⟩ := hI
 rcases hd with hd | hd | hd | hd | hd
 ·obtain ⟨hp, ha, hσ⟩ := hd
  subst hp
  subst ha
  subst hσ
  subst hmm
  refine zS ?_
  refine zR (zO (by simp [zC h134, -Zc, HH1]; rfl) ?_)
  simp only [zT, zB]
  refine zS ?_
  refine Zg (x := decide ((0 : Int) < (ms.length : Int))) (by simp) (fun hlt => ?_) (fun hlt => ?_)
  ·have hlt := of_decide_eq_true hlt
   have hp0 : 0 < ms.length := by omega
   obtain ⟨tv, rfl⟩ := Xh hv hp0
   rw [List.drop_eq_getElem_cons hp0] at hS hE
   have hnn := hmn _ (List.getElem_mem hp0)
   have hN' : (ms.map rI)[0]? = some [I ms[0]] := by rw [List.getElem?_map, List.getElem?_eq_getElem hp0]; rfl
   have hN2 : ∀ h, (ms.map rI)[0]'h = [I ms[0]] := fun h => by rw [List.getElem_map]; rfl
   generalize ms[0] = n at *
   simp only [Xy] at hS hE
   have hsb := startF_bd hsh (by omega) hlo kd 0 n tt htt
   have hgl : ([(d0, k0, h0), (d1, k1, h1), (d2, k2, h2), (d3, k3, h3)] : FLine)[0]? = some (d0, k0, h0) := rfl
   have hxl := hlo.at' (d0, k0, h0) (by simp)
   simp only at hxl
   have hkb : 0 ≤ k0 ∧ k0 < (s.chg.length : Int) := by have := hsh.kinds; omega
   have hst0 : ∀ h : ¬ 0 < n, Xv s kd [(d0, k0, h0), (d1, k1, h1), (d2, k2, h2), (d3, k3, h3)] 0 n tt = tt := fun h => startF_zero h
   have hst1 : ∀ h : 0 < n, h0 = true → Xv s kd [(d0, k0, h0), (d1, k1, h1), (d2, k2, h2), (d3, k3, h3)] 0 n tt = freeT s.stops 0 n (max tt (d0 + chgAt s k0 kd)) := fun h e => startF_had h (by rw [hgl, e])
   have hst2 : ∀ h : 0 < n, h0 = false → Xv s kd [(d0, k0, h0), (d1, k1, h1), (d2, k2, h2), (d3, k3, h3)] 0 n tt = freeT s.stops 0 n tt := fun h e => startF_new h (by rw [hgl, e])
   generalize Xv s kd [(d0, k0, h0), (d1, k1, h1), (d2, k2, h2), (d3, k3, h3)] 0 n tt = st at *
   have wst : W .i64 (st + n) = st + n := ZX (by omega)
   have wi : W .i64 1 = 1 := by decide
   generalize hA0 : decide (0 < n) = A0 at *
   have HH2 := zA hp0 (zA hN' (zA hN2 (zA wi hA0)))
   refine zK ?_
   simp only [zT, zB]
   refine zS ?_
   refine zL ?_
   refine zS ?_
   refine zR (zO (by simp [zC h134, -Zc, HH1, wst, HH2]; rfl) ?_)
   simp only [zT, zB]
   refine zS ?_
   refine zS ?_
   refine zR (zO (by simp [zC h134, -Zc, HH1, wst, HH2]; rfl) ?_)
   simp only [zT, zB]
   rcases A0 with _ | _
   ·have hn : ¬ 0 < n := of_decide_eq_false hA0
    have hst := hst0 hn
    rw [hst] at hS hE hsb wst
    refine Zh (x := false) (by simp) ?_
    refine zK ?_
    simp only [zT, zB]
    refine zS ?_
    refine zR (zO (by simp [zC h134, -Zc, HH1, wst, HH2]; rfl) ?_)
    simp only [zT, zB]
    refine zR (zO (by simp [zC h134, -Zc, HH1, wst, HH2]; rfl) ?_)
    simp only [zT, zB]
    refine zR (zO (by simp [zC h134, -Zc, HH1, wst, HH2]; rfl) ?_)
    simp only [zT, zB]
    refine ⟨ms.length - 1, _, _, by omega, by simp [zC h134, -Zc, HH1, wst, HH2] <;> rfl, 1, tt + n, _, d0, k0, d1, k1, d2, k2, d3, k3, h0, h1, h2, h3, rfl, by omega, ?_, by omega, ?_, ?_, .inr (.inl ⟨rfl, tt, rfl, rfl⟩)⟩
    ·exact ⟨rfl, fun x hx => by
      simp only [List.mem_cons, List.not_mem_nil, or_false] at hx
      rcases hx with rfl | rfl | rfl | rfl
      ·exact (hlo.mono (by omega)).at' (d0, k0, h0) (by simp)
      ·exact (hlo.mono (by omega)).at' (d1, k1, h1) (by simp)
      ·exact (hlo.mono (by omega)).at' (d2, k2, h2) (by simp)
      ·exact (hlo.mono (by omega)).at' (d3, k3, h3) (by simp)⟩
    ·rw [if_neg hn] at hS
     rw [hS]; simp
    ·rw [if_neg hn] at hE
     exact hE
   ·have hn : 0 < n := of_decide_eq_true hA0
    refine Zh (x := true) (by simp) ?_
    refine zS ?_
    refine zS ?_
    refine zR (zO (by simp [zC h134, -Zc, HH1, wst, HH2]; rfl) ?_)
    simp only [zT, zB]
    refine zS ?_
    refine zR (zO (by simp [zC h134, -Zc, HH1, wst, HH2]; rfl) ?_)
    simp only [zT, zB]
    rcases h0 with _ | _
    ·have hst := hst2 hn rfl
     have hof : oFree [.agg [I s.mach, c, t, j], I 0, I tt, I n] = some (I st) := by
      simp only [oFree, hc, ht, hj]
      rw [if_pos ⟨by omega, by omega, by have := hsh.nst; omega, hS0⟩, hst]
     refine Zh (x := false) (by simp) ?_
     refine zK ?_
     simp only [zT, zB]
     refine zS ?_
     refine zR (zO (by simp [zC h134, -Zc, HH1, wst, HH2, hof]; rfl) ?_)
     simp only [zT, zB]
     refine Ye (by simp (maxSteps := 3000000) [zC h134, -Zc, HH1, wst, HH2, hof]; rfl) ?_
     simp only [zT, zB]
     refine zS ?_
     refine zR (zO (by simp [zC h134, -Zc, HH1, wst, HH2, hof]; rfl) ?_)
     simp only [zT, zB]
     refine zR (zO (by simp [zC h134, -Zc, HH1, wst, HH2, hof]; rfl) ?_)
     simp only [zT, zB]
     refine zR (zO (by simp [zC h134, -Zc, HH1, wst, HH2, hof]; rfl) ?_)
     simp only [zT, zB]
     refine ⟨ms.length - 1, _, _, by omega, by simp [zC h134, -Zc, HH1, wst, HH2, hof] <;> rfl, 1, st + n, _, st + n, kd, d1, k1, d2, k2, d3, k3, true, h1, h2, h3, rfl, by omega, ?_, by omega, ?_, ?_, .inr (.inl ⟨rfl, st, rfl, rfl⟩)⟩
     ·exact ⟨rfl, fun x hx => by
       simp only [List.mem_cons, List.not_mem_nil, or_false] at hx
       rcases hx with rfl | rfl | rfl | rfl
       ·simp only; omega
       ·exact (hlo.mono (by omega)).at' (d1, k1, h1) (by simp)
       ·exact (hlo.mono (by omega)).at' (d2, k2, h2) (by simp)
       ·exact (hlo.mono (by omega)).at' (d3, k3, h3) (by simp)⟩
     ·rw [if_pos hn] at hS
      rw [hS]; simp
     ·rw [if_pos hn] at hE
      exact hE
    ·have hst := hst1 hn rfl
     obtain ⟨rs, tr, row, tw, rfl, hr1, hr2, hr3, hr4⟩ := chgAt_get hsh hc hkb hkd
     have hcb := chgAt_bd hsh k0 kd
     generalize chgAt s k0 kd = V at *
     have hr2' : ∀ h, rs[k0.toNat]'h = [.vl (row.map rI) tw] := fun h => by rw [List.getElem?_eq_getElem h] at hr2; exact Option.some.inj hr2
     have hr4' : ∀ h, row[kd.toNat]'h = V := fun h => by rw [List.getElem?_eq_getElem h] at hr4; exact Option.some.inj hr4
     have wd : W .i64 (d0 + V) = d0 + V := ZX (by omega)
     have hof : oFree [.agg [I s.mach, .vl rs tr, t, j], I 0, I (max tt (d0 + V)), I n] = some (I st) := by
      simp only [oFree, hc, ht, hj]
      rw [if_pos ⟨by omega, by omega, by have := hsh.nst; omega, hS0⟩, hst]
     have hkb1 := hkb.1
     have hkd1 := hkd.1
     refine Zh (x := true) (by simp) ?_
     have HH3 := zA hr1 (zA hr2 (zA hr2' (zA hr3 (zA hr4 (zA hr4' (zA wd (zA hof (zA hkb1 hkd1))))))))
     refine Ye (by simp (maxSteps := 3000000) [zC h134, -Zc, HH1, wst, HH2, rI, HH3]; rfl) ?_
     simp only [zT, zB]
     refine zS ?_
     refine zR (zO (by simp [zC h134, -Zc, HH1, wst, HH2, rI, HH3]; rfl) ?_)
     simp only [zT, zB]
     refine Ye (by simp (maxSteps := 3000000) [zC h134, -Zc, HH1, wst, HH2, rI, HH3]; rfl) ?_
     simp only [zT, zB]
     refine zS ?_
     refine zR (zO (by simp [zC h134, -Zc, HH1, wst, HH2, rI, HH3]; rfl) ?_)
     simp only [zT, zB]
     refine zR (zO (by simp [zC h134, -Zc, HH1, wst, HH2, rI, HH3]; rfl) ?_)
     simp only [zT, zB]
     refine zR (zO (by simp [zC h134, -Zc, HH1, wst, HH2, rI, HH3]; rfl) ?_)
     simp only [zT, zB]
     refine ⟨ms.length - 1, _, _, by omega, by simp [zC h134, -Zc, HH1, wst, HH2, rI, HH3] <;> rfl, 1, st + n, _, st + n, kd, d1, k1, d2, k2, d3, k3, true, h1, h2, h3, rfl, by omega, ?_, by omega, ?_, ?_, .inr (.inl ⟨rfl, st, rfl, rfl⟩)⟩
     ·exact ⟨rfl, fun x hx => by
       simp only [List.mem_cons, List.not_mem_nil, or_false] at hx
       rcases hx with rfl | rfl | rfl | rfl
       ·simp only; omega
       ·exact (hlo.mono (by omega)).at' (d1, k1, h1) (by simp)
       ·exact (hlo.mono (by omega)).at' (d2, k2, h2) (by simp)
       ·exact (hlo.mono (by omega)).at' (d3, k3, h3) (by simp)⟩
     ·rw [if_pos hn] at hS
      rw [hS]; simp
     ·rw [if_pos hn] at hE
      exact hE
  ·have hlt := of_decide_eq_false hlt
   omega
 ·obtain ⟨hp, a0, ha, hσ⟩ := hd
  subst hp
  subst ha
  subst hσ
  subst hmm
  refine zS ?_
  refine zR (zO (by simp [zC h134, -Zc, HH1]; rfl) ?_)
  simp only [zT, zB]
  refine zS ?_
  refine Zg (x := decide ((1 : Int) < (ms.length : Int))) (by simp) (fun hlt => ?_) (fun hlt => ?_)
  ·have hlt := of_decide_eq_true hlt
   have hp0 : 1 < ms.length := by omega
   obtain ⟨tv, rfl⟩ := Xh hv hp0
   rw [List.drop_eq_getElem_cons hp0] at hS hE
   have hnn := hmn _ (List.getElem_mem hp0)
   have hN' : (ms.map rI)[1]? = some [I ms[1]] := by rw [List.getElem?_map, List.getElem?_eq_getElem hp0]; rfl
   have hN2 : ∀ h, (ms.map rI)[1]'h = [I ms[1]] := fun h => by rw [List.getElem_map]; rfl
   generalize ms[1] = n at *
   simp only [Xy] at hS hE
   have hsb := startF_bd hsh (by omega) hlo kd 1 n tt htt
   have hgl : ([(d0, k0, h0), (d1, k1, h1), (d2, k2, h2), (d3, k3, h3)] : FLine)[1]? = some (d1, k1, h1) := rfl
   have hxl := hlo.at' (d1, k1, h1) (by simp)
   simp only at hxl
   have hkb : 0 ≤ k1 ∧ k1 < (s.chg.length : Int) := by have := hsh.kinds; omega
   have hst0 : ∀ h : ¬ 0 < n, Xv s kd [(d0, k0, h0), (d1, k1, h1), (d2, k2, h2), (d3, k3, h3)] 1 n tt = tt := fun h => startF_zero h
   have hst1 : ∀ h : 0 < n, h1 = true → Xv s kd [(d0, k0, h0), (d1, k1, h1), (d2, k2, h2), (d3, k3, h3)] 1 n tt = freeT s.stops 1 n (max tt (d1 + chgAt s k1 kd)) := fun h e => startF_had h (by rw [hgl, e])
   have hst2 : ∀ h : 0 < n, h1 = false → Xv s kd [(d0, k0, h0), (d1, k1, h1), (d2, k2, h2), (d3, k3, h3)] 1 n tt = freeT s.stops 1 n tt := fun h e => startF_new h (by rw [hgl, e])
   generalize Xv s kd [(d0, k0, h0), (d1, k1, h1), (d2, k2, h2), (d3, k3, h3)] 1 n tt = st at *
   have wst : W .i64 (st + n) = st + n := ZX (by omega)
   have wi : W .i64 2 = 2 := by decide
   generalize hA0 : decide (0 < n) = A0 at *
   have HH4 := zA hp0 (zA hN' (zA hN2 (zA wi hA0)))
   refine zK ?_
   simp only [zT, zB]
   refine zS ?_
   refine zL ?_
   refine zS ?_
   refine zR (zO (by simp [zC h134, -Zc, HH1, wst, HH4]; rfl) ?_)
   simp only [zT, zB]
   refine zS ?_
   refine zS ?_
   refine zR (zO (by simp [zC h134, -Zc, HH1, wst, HH4]; rfl) ?_)
   simp only [zT, zB]
   rcases A0 with _ | _
   ·have hn : ¬ 0 < n := of_decide_eq_false hA0
    have hst := hst0 hn
    rw [hst] at hS hE hsb wst
    refine Zh (x := false) (by simp) ?_
    refine zK ?_
    simp only [zT, zB]
    refine zS ?_
    refine zR (zO (by simp [zC h134, -Zc, HH1, wst, HH4]; rfl) ?_)
    simp only [zT, zB]
    refine zR (zO (by simp [zC h134, -Zc, HH1, wst, HH4]; rfl) ?_)
    simp only [zT, zB]
    refine zR (zO (by simp [zC h134, -Zc, HH1, wst, HH4]; rfl) ?_)
    simp only [zT, zB]
    refine ⟨ms.length - 2, _, _, by omega, by simp [zC h134, -Zc, HH1, wst, HH4] <;> rfl, 2, tt + n, _, d0, k0, d1, k1, d2, k2, d3, k3, h0, h1, h2, h3, rfl, by omega, ?_, by omega, ?_, ?_, .inr (.inr (.inl ⟨rfl, a0, tt, rfl, rfl⟩))⟩
    ·exact ⟨rfl, fun x hx => by
      simp only [List.mem_cons, List.not_mem_nil, or_false] at hx
      rcases hx with rfl | rfl | rfl | rfl
      ·exact (hlo.mono (by omega)).at' (d0, k0, h0) (by simp)
      ·exact (hlo.mono (by omega)).at' (d1, k1, h1) (by simp)
      ·exact (hlo.mono (by omega)).at' (d2, k2, h2) (by simp)
      ·exact (hlo.mono (by omega)).at' (d3, k3, h3) (by simp)⟩
    ·rw [if_neg hn] at hS
     rw [hS]; simp
    ·rw [if_neg hn] at hE
     exact hE
   ·have hn : 0 < n := of_decide_eq_true hA0
    refine Zh (x := true) (by simp) ?_
    refine zS ?_
    refine zS ?_
    refine zR (zO (by simp [zC h134, -Zc, HH1, wst, HH4]; rfl) ?_)
    simp only [zT, zB]
    refine zS ?_
    refine zR (zO (by simp [zC h134, -Zc, HH1, wst, HH4]; rfl) ?_)
    simp only [zT, zB]
    rcases h1 with _ | _
    ·have hst := hst2 hn rfl
     have hof : oFree [.agg [I s.mach, c, t, j], I 1, I tt, I n] = some (I st) := by
      simp only [oFree, hc, ht, hj]
      rw [if_pos ⟨by omega, by omega, by have := hsh.nst; omega, hS0⟩, hst]
     refine Zh (x := false) (by simp) ?_
     refine zK ?_
     simp only [zT, zB]
     refine zS ?_
     refine zR (zO (by simp [zC h134, -Zc, HH1, wst, HH4, hof]; rfl) ?_)
     simp only [zT, zB]
     refine Ye (by simp (maxSteps := 3000000) [zC h134, -Zc, HH1, wst, HH4, hof]; rfl) ?_
     simp only [zT, zB]
     refine zS ?_
     refine zR (zO (by simp [zC h134, -Zc, HH1, wst, HH4, hof]; rfl) ?_)
     simp only [zT, zB]
     refine zR (zO (by simp [zC h134, -Zc, HH1, wst, HH4, hof]; rfl) ?_)
     simp only [zT, zB]
     refine zR (zO (by simp [zC h134, -Zc, HH1, wst, HH4, hof]; rfl) ?_)
     simp only [zT, zB]
     refine ⟨ms.length - 2, _, _, by omega, by simp [zC h134, -Zc, HH1, wst, HH4, hof] <;> rfl, 2, st + n, _, d0, k0, st + n, kd, d2, k2, d3, k3, h0, true, h2, h3, rfl, by omega, ?_, by omega, ?_, ?_, .inr (.inr (.inl ⟨rfl, a0, st, rfl, rfl⟩))⟩
     ·exact ⟨rfl, fun x hx => by
       simp only [List.mem_cons, List.not_mem_nil, or_false] at hx
       rcases hx with rfl | rfl | rfl | rfl
       ·exact (hlo.mono (by omega)).at' (d0, k0, h0) (by simp)
       ·simp only; omega
       ·exact (hlo.mono (by omega)).at' (d2, k2, h2) (by simp)
       ·exact (hlo.mono (by omega)).at' (d3, k3, h3) (by simp)⟩
     ·rw [if_pos hn] at hS
      rw [hS]; simp
     ·rw [if_pos hn] at hE
      exact hE
    ·have hst := hst1 hn rfl
     obtain ⟨rs, tr, row, tw, rfl, hr1, hr2, hr3, hr4⟩ := chgAt_get hsh hc hkb hkd
     have hcb := chgAt_bd hsh k1 kd
     generalize chgAt s k1 kd = V at *
     have hr2' : ∀ h, rs[k1.toNat]'h = [.vl (row.map rI) tw] := fun h => by rw [List.getElem?_eq_getElem h] at hr2; exact Option.some.inj hr2
     have hr4' : ∀ h, row[kd.toNat]'h = V := fun h => by rw [List.getElem?_eq_getElem h] at hr4; exact Option.some.inj hr4
     have wd : W .i64 (d1 + V) = d1 + V := ZX (by omega)
     have hof : oFree [.agg [I s.mach, .vl rs tr, t, j], I 1, I (max tt (d1 + V)), I n] = some (I st) := by
      simp only [oFree, hc, ht, hj]
      rw [if_pos ⟨by omega, by omega, by have := hsh.nst; omega, hS0⟩, hst]
     have hkb1 := hkb.1
     have hkd1 := hkd.1
     refine Zh (x := true) (by simp) ?_
     have HH5 := zA hr1 (zA hr2 (zA hr2' (zA hr3 (zA hr4 (zA hr4' (zA wd (zA hof (zA hkb1 hkd1))))))))
     refine Ye (by simp (maxSteps := 3000000) [zC h134, -Zc, HH1, wst, HH4, rI, HH5]; rfl) ?_
     simp only [zT, zB]
     refine zS ?_
     refine zR (zO (by simp [zC h134, -Zc, HH1, wst, HH4, rI, HH5]; rfl) ?_)
     simp only [zT, zB]
     refine Ye (by simp (maxSteps := 3000000) [zC h134, -Zc, HH1, wst, HH4, rI, HH5]; rfl) ?_
     simp only [zT, zB]
     refine zS ?_
     refine zR (zO (by simp [zC h134, -Zc, HH1, wst, HH4, rI, HH5]; rfl) ?_)
     simp only [zT, zB]
     refine zR (zO (by simp [zC h134, -Zc, HH1, wst, HH4, rI, HH5]; rfl) ?_)
     simp only [zT, zB]
     refine zR (zO (by simp [zC h134, -Zc, HH1, wst, HH4, rI, HH5]; rfl) ?_)
     simp only [zT, zB]
     refine ⟨ms.length - 2, _, _, by omega, by simp [zC h134, -Zc, HH1, wst, HH4, rI, HH5] <;> rfl, 2, st + n, _, d0, k0, st + n, kd, d2, k2, d3, k3, h0, true, h2, h3, rfl, by omega, ?_, by omega, ?_, ?_, .inr (.inr (.inl ⟨rfl, a0, st, rfl, rfl⟩))⟩
     ·exact ⟨rfl, fun x hx => by
       simp only [List.mem_cons, List.not_mem_nil, or_false] at hx
       rcases hx with rfl | rfl | rfl | rfl
       ·exact (hlo.mono (by omega)).at' (d0, k0, h0) (by simp)
       ·simp only; omega
       ·exact (hlo.mono (by omega)).at' (d2, k2, h2) (by simp)
       ·exact (hlo.mono (by omega)).at' (d3, k3, h3) (by simp)⟩
     ·rw [if_pos hn] at hS
      rw [hS]; simp
     ·rw [if_pos hn] at hE
      exact hE
  ·have hlt := of_decide_eq_false hlt
   have hpe : ms.drop 1 = [] := List.drop_eq_nil_of_le (by omega)
   rw [hpe] at hS hE
   simp only [Xy, List.append_nil, Prod.mk.injEq] at hS hE
   obtain ⟨rfl, rfl⟩ := hE
   subst hS
   refine ZL ?_
   simp only [zT, zB, if_true, if_false, reduceIte, Nat.reduceEqDiff, Nat.succ_ne_zero, Nat.one_ne_zero, Nat.zero_ne_one]
   refine zS ?_
   refine zR (zO (by simp [zC h134, -Zc, HH1]; rfl) ?_)
   simp only [zT, zB]
   refine Zj ?_
   simp [zC h134, -Zc, HH1, trim, rI, lineC]
 ·obtain ⟨hp, a0, a1, ha, hσ⟩ := hd
  subst hp
  subst ha
  subst hσ
  subst hmm
  refine zS ?_
  refine zR (zO (by simp [zC h134, -Zc, HH1]; rfl) ?_)
  simp only [zT, zB]
  refine zS ?_
  refine Zg (x := decide ((2 : Int) < (ms.length : Int))) (by simp) (fun hlt => ?_) (fun hlt => ?_)
  ·have hlt := of_decide_eq_true hlt
   have hp0 : 2 < ms.length := by omega
   obtain ⟨tv, rfl⟩ := Xh hv hp0
   rw [List.drop_eq_getElem_cons hp0] at hS hE
   have hnn := hmn _ (List.getElem_mem hp0)
   have hN' : (ms.map rI)[2]? = some [I ms[2]] := by rw [List.getElem?_map, List.getElem?_eq_getElem hp0]; rfl
   have hN2 : ∀ h, (ms.map rI)[2]'h = [I ms[2]] := fun h => by rw [List.getElem_map]; rfl
   generalize ms[2] = n at *
   simp only [Xy] at hS hE
   have hsb := startF_bd hsh (by omega) hlo kd 2 n tt htt
   have hgl : ([(d0, k0, h0), (d1, k1, h1), (d2, k2, h2), (d3, k3, h3)] : FLine)[2]? = some (d2, k2, h2) := rfl
   have hxl := hlo.at' (d2, k2, h2) (by simp)
   simp only at hxl
   have hkb : 0 ≤ k2 ∧ k2 < (s.chg.length : Int) := by have := hsh.kinds; omega
   have hst0 : ∀ h : ¬ 0 < n, Xv s kd [(d0, k0, h0), (d1, k1, h1), (d2, k2, h2), (d3, k3, h3)] 2 n tt = tt := fun h => startF_zero h
   have hst1 : ∀ h : 0 < n, h2 = true → Xv s kd [(d0, k0, h0), (d1, k1, h1), (d2, k2, h2), (d3, k3, h3)] 2 n tt = freeT s.stops 2 n (max tt (d2 + chgAt s k2 kd)) := fun h e => startF_had h (by rw [hgl, e])
   have hst2 : ∀ h : 0 < n, h2 = false → Xv s kd [(d0, k0, h0), (d1, k1, h1), (d2, k2, h2), (d3, k3, h3)] 2 n tt = freeT s.stops 2 n tt := fun h e => startF_new h (by rw [hgl, e])
   generalize Xv s kd [(d0, k0, h0), (d1, k1, h1), (d2, k2, h2), (d3, k3, h3)] 2 n tt = st at *
   have wst : W .i64 (st + n) = st + n := ZX (by omega)
   have wi : W .i64 3 = 3 := by decide
   generalize hA0 : decide (0 < n) = A0 at *
   have HH6 := zA hp0 (zA hN' (zA hN2 (zA wi hA0)))
   refine zK ?_
   simp only [zT, zB]
   refine zS ?_
   refine zL ?_
   refine zS ?_
   refine zR (zO (by simp [zC h134, -Zc, HH1, wst, HH6]; rfl) ?_)
   simp only [zT, zB]
   refine zS ?_
   refine zS ?_
   refine zR (zO (by simp [zC h134, -Zc, HH1, wst, HH6]; rfl) ?_)
   simp only [zT, zB]
   rcases A0 with _ | _
   ·have hn : ¬ 0 < n := of_decide_eq_false hA0
    have hst := hst0 hn
    rw [hst] at hS hE hsb wst
    refine Zh (x := false) (by simp) ?_
    refine zK ?_
    simp only [zT, zB]
    refine zS ?_
    refine zR (zO (by simp [zC h134, -Zc, HH1, wst, HH6]; rfl) ?_)
    simp only [zT, zB]
    refine zR (zO (by simp [zC h134, -Zc, HH1, wst, HH6]; rfl) ?_)
    simp only [zT, zB]
    refine zR (zO (by simp [zC h134, -Zc, HH1, wst, HH6]; rfl) ?_)
    simp only [zT, zB]
    refine ⟨ms.length - 3, _, _, by omega, by simp [zC h134, -Zc, HH1, wst, HH6] <;> rfl, 3, tt + n, _, d0, k0, d1, k1, d2, k2, d3, k3, h0, h1, h2, h3, rfl, by omega, ?_, by omega, ?_, ?_, .inr (.inr (.inr (.inl ⟨rfl, a0, a1, tt, rfl, rfl⟩)))⟩
    ·exact ⟨rfl, fun x hx => by
      simp only [List.mem_cons, List.not_mem_nil, or_false] at hx
      rcases hx with rfl | rfl | rfl | rfl
      ·exact (hlo.mono (by omega)).at' (d0, k0, h0) (by simp)
      ·exact (hlo.mono (by omega)).at' (d1, k1, h1) (by simp)
      ·exact (hlo.mono (by omega)).at' (d2, k2, h2) (by simp)
      ·exact (hlo.mono (by omega)).at' (d3, k3, h3) (by simp)⟩
    ·rw [if_neg hn] at hS
     rw [hS]; simp
    ·rw [if_neg hn] at hE
     exact hE
   ·have hn : 0 < n := of_decide_eq_true hA0
    refine Zh (x := true) (by simp) ?_
    refine zS ?_
    refine zS ?_
    refine zR (zO (by simp [zC h134, -Zc, HH1, wst, HH6]; rfl) ?_)
    simp only [zT, zB]
    refine zS ?_
    refine zR (zO (by simp [zC h134, -Zc, HH1, wst, HH6]; rfl) ?_)
    simp only [zT, zB]
    rcases h2 with _ | _
    ·have hst := hst2 hn rfl
     have hof : oFree [.agg [I s.mach, c, t, j], I 2, I tt, I n] = some (I st) := by
      simp only [oFree, hc, ht, hj]
      rw [if_pos ⟨by omega, by omega, by have := hsh.nst; omega, hS0⟩, hst]
     refine Zh (x := false) (by simp) ?_
     refine zK ?_
     simp only [zT, zB]
     refine zS ?_
     refine zR (zO (by simp [zC h134, -Zc, HH1, wst, HH6, hof]; rfl) ?_)
     simp only [zT, zB]
     refine Ye (by simp (maxSteps := 3000000) [zC h134, -Zc, HH1, wst, HH6, hof]; rfl) ?_
     simp only [zT, zB]
     refine zS ?_
     refine zR (zO (by simp [zC h134, -Zc, HH1, wst, HH6, hof]; rfl) ?_)
     simp only [zT, zB]
     refine zR (zO (by simp [zC h134, -Zc, HH1, wst, HH6, hof]; rfl) ?_)
     simp only [zT, zB]
     refine zR (zO (by simp [zC h134, -Zc, HH1, wst, HH6, hof]; rfl) ?_)
     simp only [zT, zB]
     refine ⟨ms.length - 3, _, _, by omega, by simp [zC h134, -Zc, HH1, wst, HH6, hof] <;> rfl, 3, st + n, _, d0, k0, d1, k1, st + n, kd, d3, k3, h0, h1, true, h3, rfl, by omega, ?_, by omega, ?_, ?_, .inr (.inr (.inr (.inl ⟨rfl, a0, a1, st, rfl, rfl⟩)))⟩
     ·exact ⟨rfl, fun x hx => by
       simp only [List.mem_cons, List.not_mem_nil, or_false] at hx
       rcases hx with rfl | rfl | rfl | rfl
       ·exact (hlo.mono (by omega)).at' (d0, k0, h0) (by simp)
       ·exact (hlo.mono (by omega)).at' (d1, k1, h1) (by simp)
       ·simp only; omega
       ·exact (hlo.mono (by omega)).at' (d3, k3, h3) (by simp)⟩
     ·rw [if_pos hn] at hS
      rw [hS]; simp
     ·rw [if_pos hn] at hE
      exact hE
    ·have hst := hst1 hn rfl
     obtain ⟨rs, tr, row, tw, rfl, hr1, hr2, hr3, hr4⟩ := chgAt_get hsh hc hkb hkd
     have hcb := chgAt_bd hsh k2 kd
     generalize chgAt s k2 kd = V at *
     have hr2' : ∀ h, rs[k2.toNat]'h = [.vl (row.map rI) tw] := fun h => by rw [List.getElem?_eq_getElem h] at hr2; exact Option.some.inj hr2
     have hr4' : ∀ h, row[kd.toNat]'h = V := fun h => by rw [List.getElem?_eq_getElem h] at hr4; exact Option.some.inj hr4
     have wd : W .i64 (d2 + V) = d2 + V := ZX (by omega)
     have hof : oFree [.agg [I s.mach, .vl rs tr, t, j], I 2, I (max tt (d2 + V)), I n] = some (I st) := by
      simp only [oFree, hc, ht, hj]
      rw [if_pos ⟨by omega, by omega, by have := hsh.nst; omega, hS0⟩, hst]
     have hkb1 := hkb.1
     have hkd1 := hkd.1
     refine Zh (x := true) (by simp) ?_
     have HH7 := zA hr1 (zA hr2 (zA hr2' (zA hr3 (zA hr4 (zA hr4' (zA wd (zA hof (zA hkb1 hkd1))))))))
     refine Ye (by simp (maxSteps := 3000000) [zC h134, -Zc, HH1, wst, HH6, rI, HH7]; rfl) ?_
     simp only [zT, zB]
     refine zS ?_
     refine zR (zO (by simp [zC h134, -Zc, HH1, wst, HH6, rI, HH7]; rfl) ?_)
     simp only [zT, zB]
     refine Ye (by simp (maxSteps := 3000000) [zC h134, -Zc, HH1, wst, HH6, rI, HH7]; rfl) ?_
     simp only [zT, zB]
     refine zS ?_
     refine zR (zO (by simp [zC h134, -Zc, HH1, wst, HH6, rI, HH7]; rfl) ?_)
     simp only [zT, zB]
     refine zR (zO (by simp [zC h134, -Zc, HH1, wst, HH6, rI, HH7]; rfl) ?_)
     simp only [zT, zB]
     refine zR (zO (by simp [zC h134, -Zc, HH1, wst, HH6, rI, HH7]; rfl) ?_)
     simp only [zT, zB]
     refine ⟨ms.length - 3, _, _, by omega, by simp [zC h134, -Zc, HH1, wst, HH6, rI, HH7] <;> rfl, 3, st + n, _, d0, k0, d1, k1, st + n, kd, d3, k3, h0, h1, true, h3, rfl, by omega, ?_, by omega, ?_, ?_, .inr (.inr (.inr (.inl ⟨rfl, a0, a1, st, rfl, rfl⟩)))⟩
     ·exact ⟨rfl, fun x hx => by
       simp only [List.mem_cons, List.not_mem_nil, or_false] at hx
       rcases hx with rfl | rfl | rfl | rfl
       ·exact (hlo.mono (by omega)).at' (d0, k0, h0) (by simp)
       ·exact (hlo.mono (by omega)).at' (d1, k1, h1) (by simp)
       ·simp only; omega
       ·exact (hlo.mono (by omega)).at' (d3, k3, h3) (by simp)⟩
     ·rw [if_pos hn] at hS
      rw [hS]; simp
     ·rw [if_pos hn] at hE
      exact hE
  ·have hlt := of_decide_eq_false hlt
   have hpe : ms.drop 2 = [] := List.drop_eq_nil_of_le (by omega)
   rw [hpe] at hS hE
   simp only [Xy, List.append_nil, Prod.mk.injEq] at hS hE
   obtain ⟨rfl, rfl⟩ := hE
   subst hS
   refine ZL ?_
   simp only [zT, zB, if_true, if_false, reduceIte, Nat.reduceEqDiff, Nat.succ_ne_zero, Nat.one_ne_zero, Nat.zero_ne_one]
   refine zS ?_
   refine zR (zO (by simp [zC h134, -Zc, HH1]; rfl) ?_)
   simp only [zT, zB]
   refine Zj ?_
   simp [zC h134, -Zc, HH1, trim, rI, lineC]
 ·obtain ⟨hp, a0, a1, a2, ha, hσ⟩ := hd
  subst hp
  subst ha
  subst hσ
  subst hmm
  refine zS ?_
  refine zR (zO (by simp [zC h134, -Zc, HH1]; rfl) ?_)
  simp only [zT, zB]
  refine zS ?_
  refine Zg (x := decide ((3 : Int) < (ms.length : Int))) (by simp) (fun hlt => ?_) (fun hlt => ?_)
  ·have hlt := of_decide_eq_true hlt
   have hp0 : 3 < ms.length := by omega
   obtain ⟨tv, rfl⟩ := Xh hv hp0
   rw [List.drop_eq_getElem_cons hp0] at hS hE
   have hnn := hmn _ (List.getElem_mem hp0)
   have hN' : (ms.map rI)[3]? = some [I ms[3]] := by rw [List.getElem?_map, List.getElem?_eq_getElem hp0]; rfl
   have hN2 : ∀ h, (ms.map rI)[3]'h = [I ms[3]] := fun h => by rw [List.getElem_map]; rfl
   generalize ms[3] = n at *
   simp only [Xy] at hS hE
   have hsb := startF_bd hsh (by omega) hlo kd 3 n tt htt
   have hgl : ([(d0, k0, h0), (d1, k1, h1), (d2, k2, h2), (d3, k3, h3)] : FLine)[3]? = some (d3, k3, h3) := rfl
   have hxl := hlo.at' (d3, k3, h3) (by simp)
   simp only at hxl
   have hkb : 0 ≤ k3 ∧ k3 < (s.chg.length : Int) := by have := hsh.kinds; omega
   have hst0 : ∀ h : ¬ 0 < n, Xv s kd [(d0, k0, h0), (d1, k1, h1), (d2, k2, h2), (d3, k3, h3)] 3 n tt = tt := fun h => startF_zero h
   have hst1 : ∀ h : 0 < n, h3 = true → Xv s kd [(d0, k0, h0), (d1, k1, h1), (d2, k2, h2), (d3, k3, h3)] 3 n tt = freeT s.stops 3 n (max tt (d3 + chgAt s k3 kd)) := fun h e => startF_had h (by rw [hgl, e])
   have hst2 : ∀ h : 0 < n, h3 = false → Xv s kd [(d0, k0, h0), (d1, k1, h1), (d2, k2, h2), (d3, k3, h3)] 3 n tt = freeT s.stops 3 n tt := fun h e => startF_new h (by rw [hgl, e])
   generalize Xv s kd [(d0, k0, h0), (d1, k1, h1), (d2, k2, h2), (d3, k3, h3)] 3 n tt = st at *
   have wst : W .i64 (st + n) = st + n := ZX (by omega)
   have wi : W .i64 4 = 4 := by decide
   generalize hA0 : decide (0 < n) = A0 at *
   have HH8 := zA hp0 (zA hN' (zA hN2 (zA wi hA0)))
   refine zK ?_
   simp only [zT, zB]
   refine zS ?_
   refine zL ?_
   refine zS ?_
   refine zR (zO (by simp [zC h134, -Zc, HH1, wst, HH8]; rfl) ?_)
   simp only [zT, zB]
   refine zS ?_
   refine zS ?_
   refine zR (zO (by simp [zC h134, -Zc, HH1, wst, HH8]; rfl) ?_)
   simp only [zT, zB]
   rcases A0 with _ | _
   ·have hn : ¬ 0 < n := of_decide_eq_false hA0
    have hst := hst0 hn
    rw [hst] at hS hE hsb wst
    refine Zh (x := false) (by simp) ?_
    refine zK ?_
    simp only [zT, zB]
    refine zS ?_
    refine zR (zO (by simp [zC h134, -Zc, HH1, wst, HH8]; rfl) ?_)
    simp only [zT, zB]
    refine zR (zO (by simp [zC h134, -Zc, HH1, wst, HH8]; rfl) ?_)
    simp only [zT, zB]
    refine zR (zO (by simp [zC h134, -Zc, HH1, wst, HH8]; rfl) ?_)
    simp only [zT, zB]
    refine ⟨ms.length - 4, _, _, by omega, by simp [zC h134, -Zc, HH1, wst, HH8] <;> rfl, 4, tt + n, _, d0, k0, d1, k1, d2, k2, d3, k3, h0, h1, h2, h3, rfl, by omega, ?_, by omega, ?_, ?_, .inr (.inr (.inr (.inr (⟨rfl, a0, a1, a2, tt, rfl, rfl⟩))))⟩
    ·exact ⟨rfl, fun x hx => by
      simp only [List.mem_cons, List.not_mem_nil, or_false] at hx
      rcases hx with rfl | rfl | rfl | rfl
      ·exact (hlo.mono (by omega)).at' (d0, k0, h0) (by simp)
      ·exact (hlo.mono (by omega)).at' (d1, k1, h1) (by simp)
      ·exact (hlo.mono (by omega)).at' (d2, k2, h2) (by simp)
      ·exact (hlo.mono (by omega)).at' (d3, k3, h3) (by simp)⟩
    ·rw [if_neg hn] at hS
     rw [hS]; simp
    ·rw [if_neg hn] at hE
     exact hE
   ·have hn : 0 < n := of_decide_eq_true hA0
    refine Zh (x := true) (by simp) ?_
    refine zS ?_
    refine zS ?_
    refine zR (zO (by simp [zC h134, -Zc, HH1, wst, HH8]; rfl) ?_)
    simp only [zT, zB]
    refine zS ?_
    refine zR (zO (by simp [zC h134, -Zc, HH1, wst, HH8]; rfl) ?_)
    simp only [zT, zB]
    rcases h3 with _ | _
    ·have hst := hst2 hn rfl
     have hof : oFree [.agg [I s.mach, c, t, j], I 3, I tt, I n] = some (I st) := by
      simp only [oFree, hc, ht, hj]
      rw [if_pos ⟨by omega, by omega, by have := hsh.nst; omega, hS0⟩, hst]
     refine Zh (x := false) (by simp) ?_
     refine zK ?_
     simp only [zT, zB]
     refine zS ?_
     refine zR (zO (by simp [zC h134, -Zc, HH1, wst, HH8, hof]; rfl) ?_)
     simp only [zT, zB]
     refine Ye (by simp (maxSteps := 3000000) [zC h134, -Zc, HH1, wst, HH8, hof]; rfl) ?_
     simp only [zT, zB]
     refine zS ?_
     refine zR (zO (by simp [zC h134, -Zc, HH1, wst, HH8, hof]; rfl) ?_)
     simp only [zT, zB]
     refine zR (zO (by simp [zC h134, -Zc, HH1, wst, HH8, hof]; rfl) ?_)
     simp only [zT, zB]
     refine zR (zO (by simp [zC h134, -Zc, HH1, wst, HH8, hof]; rfl) ?_)
     simp only [zT, zB]
     refine ⟨ms.length - 4, _, _, by omega, by simp [zC h134, -Zc, HH1, wst, HH8, hof] <;> rfl, 4, st + n, _, d0, k0, d1, k1, d2, k2, st + n, kd, h0, h1, h2, true, rfl, by omega, ?_, by omega, ?_, ?_, .inr (.inr (.inr (.inr (⟨rfl, a0, a1, a2, st, rfl, rfl⟩))))⟩
     ·exact ⟨rfl, fun x hx => by
       simp only [List.mem_cons, List.not_mem_nil, or_false] at hx
       rcases hx with rfl | rfl | rfl | rfl
       ·exact (hlo.mono (by omega)).at' (d0, k0, h0) (by simp)
       ·exact (hlo.mono (by omega)).at' (d1, k1, h1) (by simp)
       ·exact (hlo.mono (by omega)).at' (d2, k2, h2) (by simp)
       ·simp only; omega⟩
     ·rw [if_pos hn] at hS
      rw [hS]; simp
     ·rw [if_pos hn] at hE
      exact hE
    ·have hst := hst1 hn rfl
     obtain ⟨rs, tr, row, tw, rfl, hr1, hr2, hr3, hr4⟩ := chgAt_get hsh hc hkb hkd
     have hcb := chgAt_bd hsh k3 kd
     generalize chgAt s k3 kd = V at *
     have hr2' : ∀ h, rs[k3.toNat]'h = [.vl (row.map rI) tw] := fun h => by rw [List.getElem?_eq_getElem h] at hr2; exact Option.some.inj hr2
     have hr4' : ∀ h, row[kd.toNat]'h = V := fun h => by rw [List.getElem?_eq_getElem h] at hr4; exact Option.some.inj hr4
     have wd : W .i64 (d3 + V) = d3 + V := ZX (by omega)
     have hof : oFree [.agg [I s.mach, .vl rs tr, t, j], I 3, I (max tt (d3 + V)), I n] = some (I st) := by
      simp only [oFree, hc, ht, hj]
      rw [if_pos ⟨by omega, by omega, by have := hsh.nst; omega, hS0⟩, hst]
     have hkb1 := hkb.1
     have hkd1 := hkd.1
     refine Zh (x := true) (by simp) ?_
     have HH9 := zA hr1 (zA hr2 (zA hr2' (zA hr3 (zA hr4 (zA hr4' (zA wd (zA hof (zA hkb1 hkd1))))))))
     refine Ye (by simp (maxSteps := 3000000) [zC h134, -Zc, HH1, wst, HH8, rI, HH9]; rfl) ?_
     simp only [zT, zB]
     refine zS ?_
     refine zR (zO (by simp [zC h134, -Zc, HH1, wst, HH8, rI, HH9]; rfl) ?_)
     simp only [zT, zB]
     refine Ye (by simp (maxSteps := 3000000) [zC h134, -Zc, HH1, wst, HH8, rI, HH9]; rfl) ?_
     simp only [zT, zB]
     refine zS ?_
     refine zR (zO (by simp [zC h134, -Zc, HH1, wst, HH8, rI, HH9]; rfl) ?_)
     simp only [zT, zB]
     refine zR (zO (by simp [zC h134, -Zc, HH1, wst, HH8, rI, HH9]; rfl) ?_)
     simp only [zT, zB]
     refine zR (zO (by simp [zC h134, -Zc, HH1, wst, HH8, rI, HH9]; rfl) ?_)
     simp only [zT, zB]
     refine ⟨ms.length - 4, _, _, by omega, by simp [zC h134, -Zc, HH1, wst, HH8, rI, HH9] <;> rfl, 4, st + n, _, d0, k0, d1, k1, d2, k2, st + n, kd, h0, h1, h2, true, rfl, by omega, ?_, by omega, ?_, ?_, .inr (.inr (.inr (.inr (⟨rfl, a0, a1, a2, st, rfl, rfl⟩))))⟩
     ·exact ⟨rfl, fun x hx => by
       simp only [List.mem_cons, List.not_mem_nil, or_false] at hx
       rcases hx with rfl | rfl | rfl | rfl
       ·exact (hlo.mono (by omega)).at' (d0, k0, h0) (by simp)
       ·exact (hlo.mono (by omega)).at' (d1, k1, h1) (by simp)
       ·exact (hlo.mono (by omega)).at' (d2, k2, h2) (by simp)
       ·simp only; omega⟩
     ·rw [if_pos hn] at hS
      rw [hS]; simp
     ·rw [if_pos hn] at hE
      exact hE
  ·have hlt := of_decide_eq_false hlt
   have hpe : ms.drop 3 = [] := List.drop_eq_nil_of_le (by omega)
   rw [hpe] at hS hE
   simp only [Xy, List.append_nil, Prod.mk.injEq] at hS hE
   obtain ⟨rfl, rfl⟩ := hE
   subst hS
   refine ZL ?_
   simp only [zT, zB, if_true, if_false, reduceIte, Nat.reduceEqDiff, Nat.succ_ne_zero, Nat.one_ne_zero, Nat.zero_ne_one]
   refine zS ?_
   refine zR (zO (by simp [zC h134, -Zc, HH1]; rfl) ?_)
   simp only [zT, zB]
   refine Zj ?_
   simp [zC h134, -Zc, HH1, trim, rI, lineC]
 ·obtain ⟨hp, a0, a1, a2, a3, ha, hσ⟩ := hd
  subst hp
  subst ha
  subst hσ
  subst hmm
  have hm4' : ms.length = 4 := by omega
  refine zS ?_
  refine zR (zO (by simp [zC h134, -Zc, HH1, hm4']; rfl) ?_)
  simp only [zT, zB]
  refine zS ?_
  refine Zh (x := false) (by simp) ?_
  have hpe : ms.drop 4 = [] := List.drop_eq_nil_of_le (by omega)
  rw [hpe] at hS hE
  simp only [Xy, List.append_nil, Prod.mk.injEq] at hS hE
  obtain ⟨rfl, rfl⟩ := hE
  subst hS
  refine ZL ?_
  simp only [zT, zB, if_true, if_false, reduceIte, Nat.reduceEqDiff, Nat.succ_ne_zero, Nat.one_ne_zero, Nat.zero_ne_one]
  refine zS ?_
  refine zR (zO (by simp [zC h134, -Zc, HH1, hm4']; rfl) ?_)
  simp only [zT, zB]
  refine Zj ?_
  simp [zC h134, -Zc, HH1, hm4', trim, rI, lineC]
end
section
attribute [local simp] ZV ZD Xp YN actD clash disj Xq holes Xr ZY Xu news eqB allB eqA Xf wrote toCs ofCs stA Yq ZE Yl dI1 dI2 dI3 dI5 elt
attribute [local simp] XH XD XI XE YS XG YP XF st_pv YO st_sl st_vl YQ st_mp st_fn YR XC co_any co_und co_agg co_tup Xe co_int Xb co_ref co_pv Xa co_sl co_vl Xc co_mp co_fn Xd XZ
attribute [local simp] backA backA1 callA ZQ flatAt flatBlk frameE lim lop loud posOf ptrs putH XR rbB_row renA setH
def FD1 : Nat → Option CFn := updG FC1 102 [(229738, [.slot 6])] []
theorem FD1_ok : Zr Tryz.prog GG FD1 := tab_updG FC1_ok
def FD2 : Nat → Option CFn := upd FD1 102 false (fun _ => none)
theorem FD2_ok : Zr Tryz.prog GG FD2 := Xm mixed FD1_ok fun args v ho => by simp at ho
def FD : Nat → Option CFn := updE FD2 102 (frameE sPass)
theorem FD_ok : Zr Tryz.prog GG FD := tab_frame mixed FD2_ok fun args h v h' ho => by
  unfold sPass at ho
  split at ho <;> (try simp only [reduceCtorEq] at ho)
  rename_i m c t j kd rd du vv r
  split at ho <;> (try simp only [reduceCtorEq] at ho)
  rename_i cs ts js ms l hc ht hj hv hl
  split at ho <;> (try simp only [reduceCtorEq] at ho)
  rename_i hg
  simp only [Option.some.injEq, Prod.mk.injEq] at ho
  obtain ⟨rfl, rfl⟩ := ho
  obtain ⟨rfl, _⟩ := dLine_eq hl
  exact a102 Tryz.prog FD2 rfl rfl ⟨m, cs, ts⟩ js c t j hc ht hj kd rd du vv ms l hv hg
def encS (xs : List Int) : List Za := [match xs with | [] => .nils | x :: l => .vl ((x :: l).map rI) false]
theorem encS_ne {xs : List Int} (h : xs ≠ []) : encS xs = [.vl (xs.map rI) false] := by cases xs with | nil => exact absurd rfl h | cons x l => rfl
theorem lineC_rb (n d : Nat) : ∀ l : FLine, (lineC l).all (rb n (d + 1)) = true
  | [] => rfl
  | x :: l => by
    show (rb n (d + 1) (I x.1) && (rb n (d + 1) (I x.2.1) && (rb n (d + 1) (.bool x.2.2) && (lineC l).all (rb n (d + 1))))) = true
    rw [lineC_rb n d l]; rfl
theorem dLine_of {l : FLine} (h : l.length = 4) : dLine (lineC l) = some l := by
  obtain ⟨d0, k0, h0, d1, k1, h1, d2, k2, h2, d3, k3, h3, rfl⟩ := line4 h
  rfl
theorem encS_rb (n d : Nat) (xs : List (List Int)) : ((xs.map encS).all fun r => r.all (rb n (d + 1))) = true := by
  simp only [List.all_eq_true]
  intro r hr z hz
  obtain ⟨x, _, rfl⟩ := List.mem_map.1 hr
  simp only [encS, List.mem_singleton] at hz
  subst hz
  cases x <;> rfl
theorem rI_rb (n d : Nat) (xs : List Int) : ((xs.map rI).all fun r => r.all (rb n (d + 1))) = true := by
  simp only [List.all_eq_true]
  intro r hr z hz
  obtain ⟨x, _, rfl⟩ := List.mem_map.1 hr
  simp only [rI, List.mem_singleton] at hz
  subst hz; rfl
theorem trim_ok {n : Nat} {vs : List Za} {h h0 : Zf} (h1 : vs.all (rb n 5) = true) (h2 : (h.take n).all (rbB n) = true) (h3 : h.take n = h0) : trim n vs h = h0 := by
  unfold trim; rw [h1, h2]; exact h3
theorem st_eq {t t' : List Za} {h h' : Zf} (h1 : t = t') (h2 : h = h') : (⟨t, h⟩ : St) = ⟨t', h'⟩ := by rw [h1, h2]
structure OrdOk (js : List FJob) (o : List Int) : Prop where
  len : o.length ≤ 6
  at' : ∀ i ∈ o, 0 ≤ i ∧ i < js.length
open Classical in
def oRun : List Za → Option Za
  | [.agg [.int .i64 m, c, t, j], o] => match ZI c, Yg t, Xj j, Yd o with
    | some cs, some ts, some js, some os => if ShopOk ⟨m, cs, ts⟩ js ∧ OrdOk js os then some (.agg [.vl ((runF ⟨m, cs, ts⟩ js os).starts.map encS) true, .vl ((runF ⟨m, cs, ts⟩ js os).ends.map rI) true]) else none
    | _, _, _, _ => none
  | _ => none
theorem frz_encS (H : Zf) (d : Nat) (xs : List (List Int)) : Zd (Zd (frz false H (d + 1))) (xs.map encS) = some (xs.map encS) := Zz _ fun r hr => Zz _ fun x hx => by
  obtain ⟨a, _, rfl⟩ := List.mem_map.1 hr
  simp only [encS, List.mem_singleton] at hx
  subst hx
  cases a <;> rfl
theorem Zm (nv : Bool) (h : Zf) (d : Nat) (xs : List Int) : Zd (Zd (frz nv h (d + 1))) (xs.map rI) = some (xs.map rI) := frz_rows nv h d _ fun r hr z hz => by
  obtain ⟨a, _, rfl⟩ := List.mem_map.1 hr
  simp [rI] at hz; subst hz; rfl
theorem a62 (P : Program) (T : Nat → Option CFn) (hT : T 62 = some c62) (h102 : T 102 = some { c102 with body := annK [(229738, [.slot 6])] [] c102.body, frsh := false, orc := fun _ => none, eff := frameE sPass }) (s : FShop) (js : List FJob) (c t j : Za) (hc : ZI c = some s.chg) (ht : Yg t = some s.stops) (hj : Xj j = some js) (o : Za) (os : List Int) (ho : Yd o = some os) (hg : ShopOk s js ∧ OrdOk js os) : ZH P T 62 [.agg [I s.mach, c, t, j], o] [] fun v h => frz false h 5 v = some (.agg [.vl ((runF s js os).starts.map encS) true, .vl ((runF s js os).ends.map rI) true]) := by
 have fc := fun H d => Xo hc H d
 have ft := fun H d => dStops_frz ht H d
 have fj := fun H d => dJobs_frz hj H d
 have rc := fun n d => Xi hc n d
 have rt := fun n d => dStops_rb ht n d
 have rj := fun n d => dJobs_rb hj n d
 have lc := Xn hc
 have lt := dStops_len ht
 have lj := dJobs_len hj
 obtain ⟨cc1, cc2⟩ := ZZ hc
 obtain ⟨ct1, ct2⟩ := YK ht
 obtain ⟨cj1, cj2⟩ := dJobs_cells hj
 have fo := fun H d => ZG ho H d
 have ro := fun n d => Yc ho n d
 have lo := Yz ho
 obtain ⟨co1, co2⟩ := Zp ho
 obtain ⟨hsh, hol, hoa⟩ := hg
 have hn6 : js.length ≤ 1048576 := by have := hsh.njob; omega
 have hn7 : (js.length : Int) ≤ 1048576 := by omega
 obtain ⟨R, hR⟩ : ∃ R, runF s js os = R := ⟨_, rfl⟩
 rw [hR]
 unfold runF at hR
 refine Zs hT (Zu rfl) ?_
 simp only [oo, om, op, og, ci, cl, c62]
 have HH1 := zA h102 (zA fc (zA ft (zA fj (zA rc (zA rt (zA rj (zA lc (zA lt (zA lj (zA cc1 (zA cc2 (zA ct1 (zA ct2 (zA cj1 (zA cj2 (zA fo (zA ro (zA lo (zA co1 (zA co2 (zA hn6 hn7)))))))))))))))))))))
 refine zS ?_
 refine zR (zO (by simp [Zb h102 rfl, ↓Ze, -Zc, HH1]; rfl) ?_)
 simp only [zT, zB]
 refine zS ?_
 refine Ye (by simp (maxSteps := 3000000) [Zb h102 rfl, ↓Ze, -Zc, HH1]; rfl) ?_
 simp only [zT, zB]
 refine zS ?_
 refine zR (zO (by simp [Zb h102 rfl, ↓Ze, -Zc, HH1]; rfl) ?_)
 simp only [zT, zB]
 refine zS ?_
 refine zS ?_
 refine zR (zO (by simp [Zb h102 rfl, ↓Ze, -Zc, HH1]; rfl) ?_)
 simp only [zT, zB]
 refine zL ?_
 refine YI (fun m σ => ∃ (p : Nat) (i : Int) (r : FRun), i = p ∧ os.length - p = m ∧ p ≤ os.length ∧ (os.drop p).foldl (runStep s js) r = R ∧ LineOk s (110000 + 10000 * (p : Int)) r.line ∧ r.starts.length = js.length ∧ r.ends.length = js.length ∧ σ = ⟨[.any, .any, .ref 0 0 0, .any, .ref 1 0 0, .ref 11 0 0, .ref 13 0 0, .any, .any, .any, .any, .any, .any, .any, .any, .any, .any, .any, o, I os.length, I i, .any, .any, .any, .any, .any, .any, .any, .any, .any, .any, .any, .any, .any, .any, .any, .any, .any, .any, .any, .any, .any, .any, .any], [some (.row 4 [[I s.mach, c, t, j]]), some (.row 2 [[.nils, .nils]]), none, none, none, some (.row 1 (r.starts.map encS)), none, none, none, some (.row 1 (r.ends.map rI)), none, some (.row 2 [[.sl 5 0 js.length true, .sl 9 0 js.length true]]), none, some (.row 12 [lineC r.line])]⟩) ?_ (os.length - 0) _ ⟨0, 0, run0 js.length, rfl, rfl, Nat.zero_le _, hR, line0_ok s (by omega), by simp [run0], by simp [run0], by simp [run0, line0, lineC, encS, rI]⟩
 intro m σ hI
 obtain ⟨p, i, r, hI⟩ := hI
 obtain ⟨hip, hm, hpl, hfold, hlo, hrs, hre, hσ⟩ := hI
 subst hm
 subst hσ
 refine zS ?_
 refine zR (zO (by simp [Zb h102 rfl, ↓Ze, -Zc, HH1]; rfl) ?_)
 simp only [zT, zB]
 refine zS ?_
 refine Zg (x := decide (i < (os.length : Int))) (by simp) (fun hlt => ?_) (fun hlt => ?_)
 ·have hlt := of_decide_eq_true hlt
  have hp0 : p < os.length := by omega
  have hi0 : 0 ≤ i := by omega
  have htn : i.toNat = p := by omega
  have hwi : W .i64 (i + 1) = i + 1 := ZR (by omega)
  obtain ⟨to, rfl⟩ := Xh ho hp0
  rw [List.drop_eq_getElem_cons hp0, List.foldl_cons] at hfold
  have hx := hoa _ (List.getElem_mem hp0)
  generalize hX : os[p] = x at *
  have hx0 : 0 ≤ x := hx.1
  have hx1 : x < (js.length : Int) := hx.2
  have hxl : x.toNat < js.length := by omega
  obtain ⟨rs, tj, wv, rfl, hr1, hr2, hwv⟩ := dJobs_get hj hxl
  have hxr : x.toNat < rs.length := by omega
  have rw5 := fun n d => Yc hwv n d
  obtain ⟨cw1, cw2⟩ := Zp hwv
  have hr3 : ∀ h, rs[x.toNat]'h = [I js[x.toNat].kind, I js[x.toNat].ready, I js[x.toNat].due, wv] := fun h => by rw [List.getElem?_eq_getElem h] at hr2; exact Option.some.inj hr2
  have hjb := hsh.job _ (List.getElem_mem hxl)
  have hgd : js.getD x.toNat default = js[x.toNat] := by rw [List.getD_eq_getElem?_getD, List.getElem?_eq_getElem hxl]; rfl
  have hst : runStep s js r x = ⟨(passF s r.line js[x.toNat]).2.2, r.starts.set x.toNat (passF s r.line js[x.toNat]).1, r.ends.set x.toNat (passF s r.line js[x.toNat]).2.1⟩ := by unfold runStep; rw [hgd]
  rw [hst] at hfold
  have hbd := passGo_bd hsh js[x.toNat].kind hjb.1 js[x.toNat].mins 0 js[x.toNat].ready (110000 + 10000 * (p : Int)) r.line hjb.2.2.2.2 (by omega) hlo (by omega)
  have hplen := passGo_len s js[x.toNat].kind js[x.toNat].mins 0 js[x.toNat].ready r.line
  have hp5 : p < 6 := by omega
  have hmach := hsh.mach
  have hpass : sPass [.agg [I s.mach, c, t, .vl rs tj], .ref 0 0 0, .agg [I js[x.toNat].kind, I js[x.toNat].ready, I js[x.toNat].due, wv]] [some (.row 12 [lineC r.line])] = some (.tup [.vl ((passF s r.line js[x.toNat]).1.map rI) false, I (passF s r.line js[x.toNat]).2.1], [some (.row 12 [lineC (passF s r.line js[x.toNat]).2.2])]) := by
   simp only [sPass, hc, ht, hj, hwv, dLine_of hlo.len]
   rw [if_pos ⟨hsh, hlo.mono (by omega), hjb.1, by have := hjb.2.1; simp only; omega, hjb.2.2.2.1, fun n hn => by have := hjb.2.2.2.2 n hn; omega⟩]
  have hlb := lineC_rb 0 4 r.line
  have hpl2 : (passF s r.line js[x.toNat]).1.length = js[x.toNat].mins.length := hplen
  have hbd1 : (passF s r.line js[x.toNat]).1 = (Xy s js[x.toNat].kind js[x.toNat].mins 0 js[x.toNat].ready r.line).1 := rfl
  have hl2 : LineOk s (110000 + 10000 * ((p + 1 : Nat) : Int)) (passF s r.line js[x.toNat]).2.2 := LineOk.mono hbd.2.2 (by have := hjb.2.2.2.1; omega)
  have hS0 : (passF s r.line js[x.toNat]).1 ≠ [] := by intro e; rw [e] at hpl2; have := hjb.2.2.2.1; simp at hpl2; omega
  have hlb2 := lineC_rb 0 4 (passF s r.line js[x.toNat]).2.2
  clear hbd hbd1 hplen hpl2
  generalize (passF s r.line js[x.toNat]).2.2 = L2 at *
  generalize (passF s r.line js[x.toNat]).2.1 = E2 at *
  generalize (passF s r.line js[x.toNat]).1 = S2 at *
  have e1 : (r.starts.map encS).set x.toNat [.vl (S2.map rI) false] = (r.starts.set x.toNat S2).map encS := by rw [List.map_set, encS_ne hS0]
  have e2 : (r.ends.map rI).set x.toNat [I E2] = (r.ends.set x.toNat E2).map rI := by rw [List.map_set]; rfl
  have g1 : (r.starts.map encS)[x.toNat]? = some (encS (r.starts.getD x.toNat [])) := by rw [List.getElem?_map, List.getD_eq_getElem?_getD, List.getElem?_eq_getElem (by omega)]; rfl
  have g2 : (r.ends.map rI)[x.toNat]? = some [I (r.ends.getD x.toNat 0)] := by rw [List.getElem?_map, List.getD_eq_getElem?_getD, List.getElem?_eq_getElem (by omega)]; rfl
  have hv1 : ∀ h, r.starts[x.toNat]'h = r.starts.getD x.toNat [] := fun h => by rw [List.getD_eq_getElem?_getD, List.getElem?_eq_getElem h]; rfl
  have hv2 : ∀ h, r.ends[x.toNat]'h = r.ends.getD x.toNat 0 := fun h => by rw [List.getD_eq_getElem?_getD, List.getElem?_eq_getElem h]; rfl
  generalize r.starts.getD x.toNat [] = V1 at *
  generalize r.ends.getD x.toNat 0 = V2 at *
  obtain ⟨y1, hy1⟩ : ∃ y, encS V1 = [y] := ⟨_, rfl⟩
  rw [hy1] at g1
  have HH2 := zA hi0 (zA htn (zA hp0 (zA hX (zA hwi (zA hx0 (zA hx1 (zA hxl (zA hxr (zA hr2 (zA hr3 (zA hpass (zA rw5 (zA cw1 (zA cw2 (zA g1 (zA g2 (zA hv1 (zA hv2 (zA hy1 (zA hrs hre))))))))))))))))))))
  refine zK ?_
  simp only [zT, zB]
  refine zS ?_
  refine zL ?_
  refine zS ?_
  refine zR (zO (by simp [Zb h102 rfl, ↓Ze, -Zc, HH1, zI, ↓hlb, ↓hlb2, ↓e1, ↓e2, -List.map_set, -List.getElem?_map, ↓encS_rb, ↓rI_rb, HH2]; rfl) ?_)
  simp only [zT, zB]
  refine Ye (by simp (maxSteps := 3000000) [Zb h102 rfl, ↓Ze, -Zc, HH1, zI, ↓hlb, ↓hlb2, ↓e1, ↓e2, -List.map_set, -List.getElem?_map, ↓encS_rb, ↓rI_rb, HH2]; rfl) ?_
  simp only [zT, zB]
  refine zR (zO (by simp [Zb h102 rfl, ↓Ze, -Zc, HH1, zI, ↓hlb, ↓hlb2, ↓e1, ↓e2, -List.map_set, -List.getElem?_map, ↓encS_rb, ↓rI_rb, HH2]; rfl) ?_)
  simp only [zT, zB]
  refine ⟨os.length - (p + 1), by omega, p + 1, i + 1, _, by omega, rfl, by omega, hfold, hl2, by simp [hrs], by simp [hre], st_eq (by simp) (trim_ok (by simp) (by simp [rt, rc, rj, ↓encS_rb, ↓rI_rb, ↓lineC_rb, -List.map_set]) (by simp))⟩
 ·have hlt := of_decide_eq_false hlt
  obtain rfl : p = os.length := by omega
  rw [List.drop_length] at hfold
  simp only [List.foldl_nil] at hfold
  subst hfold
  have tk1 : (r.starts.map encS).take js.length = r.starts.map encS := List.take_of_length_le (by simp [hrs])
  have tk2 : (r.ends.map rI).take js.length = r.ends.map rI := List.take_of_length_le (by simp [hre])
  have fz1 : ∀ H d, Zd (Zd (frz false H (d + 1))) (r.starts.map encS) = some (r.starts.map encS) := fun H d => frz_encS H d r.starts
  have HH3 := zA tk1 (zA tk2 (zA fz1 (zA hrs hre)))
  refine ZL ?_
  simp only [zT, zB, if_true, if_false, reduceIte, Nat.reduceEqDiff, Nat.succ_ne_zero, Nat.one_ne_zero, Nat.zero_ne_one]
  refine zS ?_
  refine zR (zO (by simp [Zb h102 rfl, ↓Ze, -Zc, HH1, Zm, HH3]; rfl) ?_)
  simp only [zT, zB]
  refine Zj ?_
  simp [Zb h102 rfl, ↓Ze, -Zc, HH1, Zm, HH3, trim]
end
end
end Go.Proofs.YtjjapdagllclkaaGreat.Tab
namespace Go.Proofs.YtjjapdagllclkaaGreat.Tab
open Go Go.Abs Go.Proofs
set_option maxRecDepth 100000
set_option maxHeartbeats 4000000
set_option linter.unusedSimpArgs false
set_option linter.unusedVariables false
section
attribute [local simp] YC Yt XV XW YZ YY XX YJ Xw Ys Zd orcF XO YX XQ XM YE Yr rb_vl rb_pv XK YW YV YU XP XL XN rb_sl rb_fn slE chunk fillA Ym ZK putAt List.range_succ List.range_zero List.range'_succ List.range'_zero ZU ZS ZF ZW ZB ZM stepX Yh dop CV.ev Yu Zv ZA Xt fI_eq YA Yy Zy Zw Out.v putT List.replicate_succ zT zB arI ZN Abs.rowAt ldRow allV toV toC ofV ofC Builtin.min_ Builtin.min2 Builtin.max_ Builtin.max2 XT XU resA tupA kill ZT Yo Yp Yn Zc
section
attribute [local simp] ZV ZD Xp YN actD clash disj Xq holes Xr ZY Xu news eqB allB eqA Xf wrote toCs ofCs stA Yq ZE Yl dI1 dI2 dI3 dI5 elt
attribute [local simp] XH XD XI XE YS XG YP XF st_pv YO st_sl st_vl YQ st_mp st_fn YR XC co_any co_und co_agg co_tup Xe co_int Xb co_ref co_pv Xa co_sl co_vl Xc co_mp co_fn Xd XZ
attribute [local simp] Function.comp_def List.all_map callA ZQ gather getR lim lop loud lowR okG putG putR XR rbB_row resG rowAt takeG
noncomputable def FE : Nat → Option CFn := upd FD 62 false (oRun)
theorem FE_ok : Zr Tryz.prog GG FE := Xm mixed FD_ok fun args v ho => by
  unfold oRun at ho; split at ho <;> (try simp only [reduceCtorEq] at ho)
  rename_i m c t j o
  split at ho <;> (try simp only [reduceCtorEq] at ho)
  rename_i cs ts js os hc ht hj ho2
  split at ho <;> (try simp only [reduceCtorEq] at ho)
  rename_i hg
  simp only [Option.some.injEq] at ho
  subst ho
  exact a62 Tryz.prog FD rfl rfl ⟨m, cs, ts⟩ js c t j hc ht hj o os ho2 hg
noncomputable def FE1 : Nat → Option CFn := updG FE 64 [(7188, [.slot 4])] []
theorem FE1_ok : Zr Tryz.prog GG FE1 := tab_updG FE_ok
def encV (xs : List Int) : Za := match xs with | [] => .nils | x :: l => .vl ((x :: l).map rI) false
theorem encV_ne {xs : List Int} (h : xs ≠ []) : encV xs = .vl (xs.map rI) false := by cases xs with | nil => exact absurd rfl h | cons x l => rfl
theorem dInts_encV (xs : List Int) : Yd (encV xs) = some xs := by
  cases xs with
  | nil => rfl
  | cons x l => exact dInts_of rfl
theorem dRow1_encS (xs : List Int) : dRow1 (encS xs) = some xs := dInts_encV xs
theorem dInts_vl (xs : List Int) (t : Bool) : Yd (.vl (xs.map rI) t) = some xs := dInts_of (v := .vl (xs.map rI) t) rfl
theorem dInts2_vl (xs : List (List Int)) (t : Bool) : ZI (.vl (xs.map encS) t) = some xs := by
  simp only [ZI, Yi]
  exact optAll_map (d := dRow1) (enc := encS) dRow1_encS xs
open Classical in
noncomputable def oLate : List Za → Option Za
  | [.agg [.int .i64 m, c, t, j], o] => match ZI c, Yg t, Xj j, Yd o with
    | some cs, some ts, some js, some os => if ShopOk ⟨m, cs, ts⟩ js ∧ OrdOk js os then some (encV (Xs (runF ⟨m, cs, ts⟩ js os).ends js js.length)) else none
    | _, _, _, _ => none
  | _ => none
theorem run_eq {s : FShop} {js : List FJob} {c t j o : Za} {os : List Int} (hc : ZI c = some s.chg) (ht : Yg t = some s.stops) (hj : Xj j = some js) (ho : Yd o = some os) (hg : ShopOk s js ∧ OrdOk js os) : oRun [.agg [I s.mach, c, t, j], o] = some (.agg [.vl ((runF s js os).starts.map encS) true, .vl ((runF s js os).ends.map rI) true]) := by
  simp only [oRun, hc, ht, hj, ho]
  rw [if_pos hg]
theorem late_eq {s : FShop} {js : List FJob} {c t j o : Za} {os : List Int} (hc : ZI c = some s.chg) (ht : Yg t = some s.stops) (hj : Xj j = some js) (ho : Yd o = some os) (hg : ShopOk s js ∧ OrdOk js os) : oLate [.agg [I s.mach, c, t, j], o] = some (encV (Xs (runF s js os).ends js js.length)) := by
  simp only [oLate, hc, ht, hj, ho]
  rw [if_pos hg]
theorem a64 (P : Program) (T : Nat → Option CFn) (hT : T 64 = some { c64 with body := annK [(7188, [.slot 4])] [] c64.body }) (h62 : T 62 = some { c62 with frsh := false, orc := oRun }) (s : FShop) (js : List FJob) (c t j : Za) (hc : ZI c = some s.chg) (ht : Yg t = some s.stops) (hj : Xj j = some js) (o : Za) (os : List Int) (ho : Yd o = some os) (hg : ShopOk s js ∧ OrdOk js os) : ZH P T 64 [.agg [I s.mach, c, t, j], o] [] fun v h => frz true h 5 v = some (encV (Xs (runF s js os).ends js js.length)) := by
 have fc := fun H d => Xo hc H d
 have ft := fun H d => dStops_frz ht H d
 have fj := fun H d => dJobs_frz hj H d
 have rc := fun n d => Xi hc n d
 have rt := fun n d => dStops_rb ht n d
 have rj := fun n d => dJobs_rb hj n d
 have lc := Xn hc
 have lt := dStops_len ht
 have lj := dJobs_len hj
 obtain ⟨cc1, cc2⟩ := ZZ hc
 obtain ⟨ct1, ct2⟩ := YK ht
 obtain ⟨cj1, cj2⟩ := dJobs_cells hj
 have fo := fun H d => ZG ho H d
 have ro := fun n d => Yc ho n d
 have lo := Yz ho
 obtain ⟨co1, co2⟩ := Zp ho
 have hrun := run_eq hc ht hj ho hg
 obtain ⟨hsh, hord⟩ := hg
 have hn6 : js.length ≤ 6 := hsh.njob
 have hro := runF_ok hsh hord.len hord.at'
 generalize runF s js os = R at *
 have hre := hro.elen
 have fz1 : ∀ H d, Zd (Zd (frz false H (d + 1))) (R.starts.map encS) = some (R.starts.map encS) := fun H d => frz_encS H d R.starts
 refine Zs hT (Zu rfl) ?_
 simp only [oo, om, op, og, ci, cl, c64, annK, lkG, lkR, reduceIte, Nat.reduceEqDiff, reduceCtorEq, List.cons.injEq, and_true, and_false, false_and, true_and]
 have HH1 := zA h62 (zA fc (zA ft (zA fj (zA rc (zA rt (zA rj (zA lc (zA lt (zA lj (zA cc1 (zA cc2 (zA ct1 (zA ct2 (zA cj1 (zA cj2 (zA fo (zA ro (zA lo (zA co1 (zA co2 (zA hrun (zA hre fz1))))))))))))))))))))))
 refine zS ?_
 refine zR (zO (by simp [zC h62, -Zc, Zm, HH1]; rfl) ?_)
 simp only [zT, zB]
 refine zS ?_
 refine zS ?_
 refine zR (zO (by simp [zC h62, -Zc, Zm, HH1]; rfl) ?_)
 simp only [zT, zB]
 refine zL ?_
 refine XJ (fun mm σ => ∃ (k : Nat) (i : Int), i = k ∧ js.length - k = mm ∧ k ≤ js.length ∧ ((Xs R.ends js k = [] ∧ σ = ⟨[.any, .any, .ref 0 0 0, .any, .nils, .any, .any, .any, .any, .any, .vl (R.ends.map rI) true, I js.length, I i, .any, .any, .any, .any, .any, .any, .any, .any, .any, .any, .any, .any, .any, .any, .any, .any, .any, .any], [some (.row 4 [[I s.mach, c, t, j]]), none]⟩) ∨ (∃ (p : Nat) (ac : List Int), ac = Xs R.ends js k ∧ ac.length = p + 1 ∧ p + 1 ≤ 6 ∧ σ = ⟨[.any, .any, .ref 0 0 0, .any, .sl 1 0 (p + 1) false, .any, .any, .any, .any, .any, .vl (R.ends.map rI) true, I js.length, I i, .any, .any, .any, .any, .any, .any, .any, .any, .any, .any, .any, .any, .any, .any, .any, .any, .any, .any], [some (.row 4 [[I s.mach, c, t, j]]), some (.row 1 (ac.map rI))]⟩))) (by simp [zC h62, -Zc, Zm, HH1] <;> first | exact ⟨rfl, rfl⟩ | rfl) (⟨0, 0, rfl, rfl, Nat.zero_le _, .inl ⟨rfl, rfl⟩⟩) ?_
 rintro mm σ ⟨k, i, hik, rfl, hkl, ⟨hac0, rfl⟩ | ⟨p, ac, hac, hacl, hp6, rfl⟩⟩
 ·refine zS ?_
  refine zR (zO (by simp [zC h62, -Zc, Zm, HH1]; rfl) ?_)
  simp only [zT, zB]
  refine zS ?_
  refine Zg (x := decide (i < (js.length : Int))) (by simp) (fun hlt => ?_) (fun hlt => ?_)
  ·have hlt2 := of_decide_eq_true hlt
   have hk0 : k < js.length := by omega
   have hkE : k < R.ends.length := by omega
   obtain ⟨rs, tj, wv, rfl, hr1, hr2, hwv⟩ := dJobs_get hj hk0
   have hi0 : 0 ≤ i := by omega
   have htn : i.toNat = k := by omega
   have hkr : k < rs.length := by omega
   have hr4 : ∀ h, rs[k]'h = [I js[k].kind, I js[k].ready, I js[k].due, wv] := fun h => by rw [List.getElem?_eq_getElem h] at hr2; exact Option.some.inj hr2
   have rw5 := fun n d => Yc hwv n d
   obtain ⟨cw1, cw2⟩ := Zp hwv
   have hwi : W .i64 (i + 1) = i + 1 := ZR (by omega)
   have hdu : dueAt js k = js[k].due := by unfold dueAt; rw [List.getD_eq_getElem?_getD, List.getElem?_eq_getElem hk0]; rfl
   have hen : endAt R.ends k = R.ends[k] := by unfold endAt; rw [List.getD_eq_getElem?_getD, List.getElem?_eq_getElem hkE]; rfl
   have hst : Xs R.ends js (k + 1) = Xs R.ends js k ++ if js[k].due < R.ends[k] then [(k : Int)] else [] := by rw [← hdu, ← hen]; rfl
   have hll := lateL_len R.ends js (k + 1)
   rw [← hik] at hst
   have HH2 := zA hi0 (zA htn (zA hk0 (zA hkE (zA hkr (zA hr2 (zA hr4 (zA hwi (zA rw5 (zA cw1 cw2)))))))))
   refine zK ?_
   simp only [zT, zB]
   refine zS ?_
   refine zL ?_
   refine zS ?_
   refine zR (zO (by simp [zC h62, -Zc, Zm, HH1, zI, HH2]; rfl) ?_)
   simp only [zT, zB]
   refine zS ?_
   refine zR (zO (by simp [zC h62, -Zc, Zm, HH1, zI, HH2]; rfl) ?_)
   simp only [zT, zB]
   refine Zg (x := decide (js[k].due < R.ends[k])) (by simp) (fun hd => ?_) (fun hd => ?_)
   ·have hd := of_decide_eq_true hd
    rw [if_pos hd, hac0, List.nil_append] at hst
    refine zR (zO (by simp [zC h62, -Zc, Zm, HH1, zI, HH2]; rfl) ?_)
    simp only [zT, zB]
    refine zR (zO (by simp [zC h62, -Zc, Zm, HH1, zI, HH2]; rfl) ?_)
    simp only [zT, zB]
    exact ⟨js.length - (k + 1), _, _, by omega, by simp [zC h62, -Zc, Zm, HH1, zI, HH2] <;> rfl, k + 1, i + 1, by omega, rfl, by omega, .inr ⟨0, [i], hst.symm, rfl, by omega, rfl⟩⟩
   ·have hd := of_decide_eq_false hd
    rw [if_neg hd, List.append_nil] at hst
    refine zK ?_
    simp only [zT, zB]
    refine zR (zO (by simp [zC h62, -Zc, Zm, HH1, zI, HH2]; rfl) ?_)
    simp only [zT, zB]
    exact ⟨js.length - (k + 1), _, _, by omega, by simp [zC h62, -Zc, Zm, HH1, zI, HH2] <;> rfl, k + 1, i + 1, by omega, rfl, by omega, .inl ⟨by rw [hst, hac0], rfl⟩⟩
  ·have hx1 := of_decide_eq_false hlt
   have hkE : k = js.length := by omega
   subst hkE
   rw [hac0]
   refine ZL ?_
   simp only [zT, zB, if_true, if_false, reduceIte, Nat.reduceEqDiff, Nat.succ_ne_zero, Nat.one_ne_zero, Nat.zero_ne_one]
   refine zS ?_
   refine zR (zO (by simp [zC h62, -Zc, Zm, HH1]; rfl) ?_)
   simp only [zT, zB]
   refine Zj ?_
   simp [zC h62, -Zc, Zm, HH1, trim, encV]
 ·have tk : (ac.map rI).take (p + 1) = ac.map rI := List.take_of_length_le (by simp [hacl])
  have hlac : p + 1 + 1 ≤ 1048576 := by omega
  have hr3 : ∀ e : Int, (rI e).length = 1 := fun _ => rfl
  refine zS ?_
  refine zR (zO (by simp [zC h62, -Zc, Zm, HH1, tk, hlac, hacl, hr3]; rfl) ?_)
  simp only [zT, zB]
  refine zS ?_
  refine Zg (x := decide (i < (js.length : Int))) (by simp) (fun hlt => ?_) (fun hlt => ?_)
  ·have hlt2 := of_decide_eq_true hlt
   have hk0 : k < js.length := by omega
   have hkE : k < R.ends.length := by omega
   obtain ⟨rs, tj, wv, rfl, hr1, hr2, hwv⟩ := dJobs_get hj hk0
   have hi0 : 0 ≤ i := by omega
   have htn : i.toNat = k := by omega
   have hkr : k < rs.length := by omega
   have hr4 : ∀ h, rs[k]'h = [I js[k].kind, I js[k].ready, I js[k].due, wv] := fun h => by rw [List.getElem?_eq_getElem h] at hr2; exact Option.some.inj hr2
   have rw5 := fun n d => Yc hwv n d
   obtain ⟨cw1, cw2⟩ := Zp hwv
   have hwi : W .i64 (i + 1) = i + 1 := ZR (by omega)
   have hdu : dueAt js k = js[k].due := by unfold dueAt; rw [List.getD_eq_getElem?_getD, List.getElem?_eq_getElem hk0]; rfl
   have hen : endAt R.ends k = R.ends[k] := by unfold endAt; rw [List.getD_eq_getElem?_getD, List.getElem?_eq_getElem hkE]; rfl
   have hst : Xs R.ends js (k + 1) = Xs R.ends js k ++ if js[k].due < R.ends[k] then [(k : Int)] else [] := by rw [← hdu, ← hen]; rfl
   have hll := lateL_len R.ends js (k + 1)
   rw [← hik] at hst
   have HH3 := zA tk (zA hlac (zA hacl (zA hr3 (zA hi0 (zA htn (zA hk0 (zA hkE (zA hkr (zA hr2 (zA hr4 (zA hwi (zA rw5 (zA cw1 cw2)))))))))))))
   refine zK ?_
   simp only [zT, zB]
   refine zS ?_
   refine zL ?_
   refine zS ?_
   refine zR (zO (by simp [zC h62, -Zc, Zm, HH1, zI, HH3]; rfl) ?_)
   simp only [zT, zB]
   refine zS ?_
   refine zR (zO (by simp [zC h62, -Zc, Zm, HH1, zI, HH3]; rfl) ?_)
   simp only [zT, zB]
   refine Zg (x := decide (js[k].due < R.ends[k])) (by simp) (fun hd => ?_) (fun hd => ?_)
   ·have hd := of_decide_eq_true hd
    rw [if_pos hd, ← hac] at hst
    have hap : ac.map rI ++ [[I i]] = (ac ++ [i]).map rI := by rw [List.map_append]; rfl
    have hnl : (ac ++ [i]).length = p + 1 + 1 := by simp [hacl]
    rw [hst] at hll
    generalize ac ++ [i] = nx at *
    refine zR (zO (by simp [zC h62, -Zc, Zm, HH1, zI, HH3, hap]; rfl) ?_)
    simp only [zT, zB]
    refine zR (zO (by simp [zC h62, -Zc, Zm, HH1, zI, HH3, hap]; rfl) ?_)
    simp only [zT, zB]
    exact ⟨js.length - (k + 1), _, _, by omega, by simp [zC h62, -Zc, Zm, HH1, zI, HH3, hap] <;> rfl, k + 1, i + 1, by omega, rfl, by omega, .inr ⟨p + 1, nx, hst.symm, hnl, by omega, rfl⟩⟩
   ·have hd := of_decide_eq_false hd
    rw [if_neg hd, List.append_nil] at hst
    refine zK ?_
    simp only [zT, zB]
    refine zR (zO (by simp [zC h62, -Zc, Zm, HH1, zI, HH3]; rfl) ?_)
    simp only [zT, zB]
    exact ⟨js.length - (k + 1), _, _, by omega, by simp [zC h62, -Zc, Zm, HH1, zI, HH3] <;> rfl, k + 1, i + 1, by omega, rfl, by omega, .inr ⟨p, ac, by rw [hst, hac], hacl, hp6, rfl⟩⟩
  ·have hx1 := of_decide_eq_false hlt
   have hkE : k = js.length := by omega
   subst hkE
   rw [← hac, encV_ne (by intro e; rw [e] at hacl; simp at hacl)]
   refine ZL ?_
   simp only [zT, zB, if_true, if_false, reduceIte, Nat.reduceEqDiff, Nat.succ_ne_zero, Nat.one_ne_zero, Nat.zero_ne_one]
   refine zS ?_
   refine zR (zO (by simp [zC h62, -Zc, Zm, HH1, tk, hlac, hacl, hr3]; rfl) ?_)
   simp only [zT, zB]
   refine Zj ?_
   simp [zC h62, -Zc, Zm, HH1, tk, hlac, hacl, hr3, trim]
noncomputable def FE2 : Nat → Option CFn := upd FE1 64 true (oLate)
theorem FE2_ok : Zr Tryz.prog GG FE2 := Xm mixed FE1_ok fun args v ho => by
  unfold oLate at ho; split at ho <;> (try simp only [reduceCtorEq] at ho)
  rename_i m c t j o
  split at ho <;> (try simp only [reduceCtorEq] at ho)
  rename_i cs ts js os hc ht hj ho2
  split at ho <;> (try simp only [reduceCtorEq] at ho)
  rename_i hg
  simp only [Option.some.injEq] at ho
  subst ho
  exact a64 Tryz.prog FE1 rfl rfl ⟨m, cs, ts⟩ js c t j hc ht hj o os ho2 hg
def okI (n : Int) : Prop := -1000000000 ≤ n ∧ n ≤ 1000000000
instance (n : Int) : Decidable (okI n) := by unfold okI; infer_instance
def oPlus : List Za → Option Za
  | [.agg [.int .i64 a, .int .i64 b], .agg [.int .i64 _, .int .i64 _, .int .i64 d, v], .int .i64 e] => match Yd v with
    | some _ => if okI a ∧ okI d ∧ okI e then some (.agg [I (a + max 0 (e - d)), I (max b e)]) else none
    | none => none
  | _ => none
theorem a63 (P : Program) (T : Nat → Option CFn) (hT : T 63 = some c63) (a b k r d e : Int) (v : Za) (ms : List Int) (hv : Yd v = some ms) (hg : okI a ∧ okI d ∧ okI e) : ZH P T 63 [.agg [I a, I b], .agg [I k, I r, I d, v], I e] [] fun v h => frz true h 5 v = some ((.agg [I (a + max 0 (e - d)), I (max b e)])) := by
 have fv := fun H d => ZG hv H d
 have rv := fun n d => Yc hv n d
 obtain ⟨cv1, cv2⟩ := Zp hv
 obtain ⟨⟨a1, a2⟩, ⟨d1, d2⟩, ⟨e1, e2⟩⟩ := hg
 have w1 : W .i64 (e - d) = e - d := ZX (by omega)
 have w2 : W .i64 (a + max 0 (e - d)) = a + max 0 (e - d) := ZX (by omega)
 have hm : (if d < e then e - d else 0) = max 0 (e - d) := by split <;> omega
 refine Zs hT (Zu rfl) ?_
 simp only [oo, om, op, og, ci, cl, c63]
 have HH1 := zA fv (zA rv (zA cv1 (zA cv2 (zA w1 (zA w2 hm)))))
 refine zS ?_
 refine zR (zO (by simp [HH1]; rfl) ?_)
 simp only [zT, zB]
 refine zS ?_
 refine zR (zO (by simp [HH1]; rfl) ?_)
 simp only [zT, zB]
 refine Zj ?_
 simp [HH1]
def sumI : List Int → Int
  | [] => 0
  | x :: l => x + sumI l
theorem sumI_nil : sumI [] = 0 := rfl
attribute [local simp] sumI_nil
noncomputable def FF_63 : Nat → Option CFn := upd FE2 63 true (oPlus)
theorem FF_63_ok : Zr Tryz.prog GG FF_63 := Xm mixed FE2_ok fun args v ho => by
  unfold oPlus at ho; split at ho <;> (try simp only [reduceCtorEq] at ho)
  rename_i a b k r d v e
  split at ho <;> (try simp only [reduceCtorEq] at ho)
  rename_i ms hv
  split at ho <;> (try simp only [reduceCtorEq] at ho)
  rename_i hg
  simp only [Option.some.injEq] at ho
  subst ho
  exact a63 Tryz.prog FE2 rfl a b k r d e v ms hv hg
noncomputable def FF : Nat → Option CFn := FF_63
theorem FF_ok : Zr Tryz.prog GG FF := FF_63_ok
end
end
end Go.Proofs.YtjjapdagllclkaaGreat.Tab
namespace Go.Abs
open Go Go.Proofs
section
variable {P : Program} {G : Nat → Option (List Za)} {E : Env} {h : Zf} {w w' : World}
theorem hr_grow (hr : E.HR P G h w) (hs : w.heap.size ≤ w'.heap.size) (hw : ∀ k, k < w.heap.size → w'.heap[k]? = w.heap[k]?) (ho : w'.os = w.os) (ht : w'.tape = w.tape) (hou : w'.output = w.output) : Le E w E w' ∧ E.HR P G h w' := by
 have hl : Le E w E w' := ⟨ho, ht, hou, hs, fun _ h => ⟨h, rfl⟩, fun _ h => h, fun k hk hno => ⟨hw k hk, hno, fun h => h⟩⟩
 refine ⟨hl, ⟨fun i b hi => ?_, hr.inj, hr.lt, fun k hk => Nat.lt_of_lt_of_le (hr.own k hk) hs, fun k hk => ⟨Nat.lt_of_lt_of_le (hr.imm k hk).1 hs, (hr.imm k hk).2⟩, fun g r hg => hl.vr hr (hr.glob g r hg)⟩⟩
 obtain ⟨h1, h2, h3, h4⟩ := hr.blk i b hi
 exact ⟨h1, h2, Nat.lt_of_lt_of_le h3 hs, br_mono h4 rfl (hw _ h3) fun _ _ hv => hl.vr hr hv⟩
def sortI (xs : List Int) : List Int := xs.mergeSort fun x y => decide (x ≤ y)
theorem sortI_len (xs : List Int) : (sortI xs).length = xs.length := List.length_mergeSort _
theorem sort_good {ρ : Go.Shelf.Ren} (Ly : Go.Proofs.Lays.n189 P ρ) {f : Nat} (hf : ρ.f 189 = f) {i : Nat} {xs : List Int} {tt : Bool} (hb : h[i]? = some (some (.row 1 (xs.map fun x => [Za.int .i64 x])))) (hn0 : xs ≠ []) (hsz : xs.length < 4611686018427387904) :
  YD P G f [.sl i 0 xs.length tt] h (.tup []) (h.set i (some (.row 1 ((sortI xs).map fun x => [Za.int .i64 x])))) := by
 intro E w cargs k hr hl
 rw [lr_iff] at hl
 obtain ⟨hl1, hl2⟩ := hl
 have hsz1 : cargs.size = 1 := hl1.symm
 obtain ⟨cv, rfl⟩ : ∃ cv, cargs = #[cv] := by
  refine ⟨cargs[0]'(by omega), Array.ext (by simpa using hsz1) fun j h1 h2 => ?_⟩
  have : j = 0 := by omega
  subst this; rfl
 have hv := hl2 0 _ cv rfl rfl
 obtain ⟨a, cap, rfl, hD, hcap, htt, haa, hroom⟩ := VR.sl_inv hv
 obtain ⟨_, hO, hlt, he, hall, hsp, c, el, hc, hcs, hcell⟩ := hr.blk i _ hb
 have hx1 : 1 ≤ xs.length := by cases xs with | nil => exact absurd rfl hn0 | cons x l => simp
 have ha : a = ⟨(E.ρ i).b, (E.ρ i).d, none⟩ := by
  rcases haa with h0 | h0
  ·omega
  ·rw [h0]; simp
 subst ha
 have hce : ∀ j, j < xs.length → c[(E.ρ i).d + j]? = some (.int .i64 xs.toArray[j]!) := fun j hj => by
  obtain ⟨u, h1, h2⟩ := hcell j [Za.int .i64 xs[j]] (by rw [List.getElem?_map, List.getElem?_eq_getElem hj]; rfl) 0 _ rfl
  rw [Nat.mul_one, Nat.add_zero] at h1
  rw [h1]
  cases h2
  rw [getElem!_pos xs.toArray j (by simpa using hj)]; rfl
 have hH : Go.Sort.Holds (Value.int .i64) w (E.ρ i).b (E.ρ i).d xs.toArray := fun j hj => by
  have hj' : j < xs.length := by simpa using hj
  have h1 := hce j hj'
  constructor
  ·simp only [World.cell?, hc]; simpa using h1
  ·simp only [World.frozen?, hc]; simp
 show CallsIn Fence.wide k P f _ w _
 rw [callsIn_wide]
 have hcon := Any.slices_Sort_int Ly (E.ρ i).b (E.ρ i).d cap xs w hH hlt hsz
 rw [hf] at hcon
 refine hcon.mono ?_
 rintro e w' ⟨rfl, m, os, rfl⟩
 have hc1 : (Go.Sort.putRow (Value.int .i64) (Go.Sort.ahead w m) (E.ρ i).b (E.ρ i).d (sortI xs).toArray).heap[(E.ρ i).b]? = some (.cells (Go.Sort.putCells (Value.int .i64) (E.ρ i).d (sortI xs).toArray c) el (0, 0)) := by
  show (w.heap.modify (E.ρ i).b _)[(E.ρ i).b]? = _
  rw [Array.getElem?_modify, if_pos rfl, hc]; rfl
 obtain ⟨hle1, hr1⟩ := hr_upd (w' := Go.Sort.putRow (Value.int .i64) (Go.Sort.ahead w m) (E.ρ i).b (E.ρ i).d (sortI xs).toArray) (b := .row 1 ((sortI xs).map fun x => [Za.int .i64 x])) hr hb
  (fun k hk => by
   show (w.heap.modify (E.ρ i).b _)[k]? = _
   rw [Array.getElem?_modify, if_neg fun e => hk e.symm]) (by show (w.heap.modify _ _).size = _; simp) rfl rfl rfl
  fun _ => ⟨he, fun r hr => by obtain ⟨x, _, rfl⟩ := List.mem_map.1 hr; rfl, by simpa [sortI_len] using hsp, _, el, hc1, by simpa [Go.Sort.putCells] using hcs, fun k r hk j x hx => by
   rw [List.getElem?_map] at hk
   obtain ⟨y, hy, rfl⟩ := Option.map_eq_some_iff.1 hk
   obtain ⟨hkl, hyk⟩ := List.getElem?_eq_some_iff.1 hy
   obtain ⟨rfl, rfl⟩ : j = 0 ∧ x = Za.int .i64 y := by
    cases j with
    | zero => exact ⟨rfl, (Option.some.inj hx).symm⟩
    | succ j => simp at hx
   refine ⟨.int .i64 y, ?_, .int _ _ _⟩
   have hk2 : k < xs.length := by simpa [sortI_len] using hkl
   have hb' : (E.ρ i).d + k < c.size := by
    have := hce k hk2
    exact (Array.getElem?_eq_some_iff.1 this).1
   rw [Nat.mul_one, Nat.add_zero]
   simp only [Go.Sort.putCells, Array.getElem?_mapIdx, Array.getElem?_eq_getElem hb', Option.map_some]
   rw [if_pos ⟨by omega, by simpa using hkl⟩, Nat.add_sub_cancel_left, getElem!_pos _ k (by simpa using hkl)]
   simp [hyk]⟩
 obtain ⟨hle2, hr2⟩ := hr_grow (w' := Go.Sort.grow (Go.Sort.putRow (Value.int .i64) (Go.Sort.ahead w m) (E.ρ i).b (E.ρ i).d (sortI xs).toArray) os) hr1 (by simp [Go.Sort.grow]) (fun k hk => Go.Sort.heap_grow_old _ _ hk) rfl rfl rfl
 exact ⟨_, E, rfl, hle1.trans hle2, hr2, .tup _ _ #[] rfl (fun j h1 _ => absurd h1 (by simp)), Fresh.refl _ _, by simp⟩
end
end Go.Abs
namespace Go.Proofs.YtjjapdagllclkaaGreat.Tab
open Go Go.Abs Go.Proofs
set_option maxRecDepth 100000
set_option maxHeartbeats 4000000
set_option linter.unusedSimpArgs false
set_option linter.unusedVariables false
noncomputable section
attribute [local simp] YC Yt XV XW YZ YY XX YJ Xw Ys Zd orcF XO YX XQ XM YE Yr rb_vl rb_pv XK YW YV YU XP XL XN rb_sl rb_fn slE chunk fillA Ym ZK putAt List.range_succ List.range_zero List.range'_succ List.range'_zero ZU ZS ZF ZW ZB ZM stepX Yh dop CV.ev Yu Zv ZA Xt fI_eq YA Yy Zy Zw Out.v putT List.replicate_succ zT zB arI ZN Abs.rowAt ldRow allV toV toC ofV ofC Builtin.min_ Builtin.min2 Builtin.max_ Builtin.max2 XT XU resA tupA kill ZT Yo Yp Yn Zc
section
attribute [local simp] ZV ZD Xp YN actD clash disj Xq holes Xr ZY Xu news eqB allB eqA Xf wrote toCs ofCs stA Yq ZE Yl dI1 dI2 dI3 dI5 elt
attribute [local simp] XH XD XI XE YS XG YP XF st_pv YO st_sl st_vl YQ st_mp st_fn YR XC co_any co_und co_agg co_tup Xe co_int Xb co_ref co_pv Xa co_sl co_vl Xc co_mp co_fn Xd XZ
theorem W_i1 : W .i64 1 = 1 := by decide
attribute [local simp] W_i1
def eSort : List Za → Zf → Option (Za × List (Nat × Option Blk))
  | [.sl i 0 n _], h => match h[i]? with
    | some (some (.row 1 rs)) => match Zd dI1 rs with
      | some xs => if 1 ≤ xs.length ∧ xs.length ≤ 1000000 ∧ n = xs.length then some (.tup [], [(i, some (.row 1 ((srt xs).map rI)))]) else none
      | none => none
    | _ => none
  | _, _ => none
theorem eSort_eq {h : Zf} {b : Nat} {xs : List Int} {tt : Bool} (hb : h[b]? = some (some (.row 1 (xs.map rI)))) (hl : 1 ≤ xs.length ∧ xs.length ≤ 1000000) : eSort [.sl b 0 xs.length tt] h = some (.tup [], [(b, some (.row 1 ((srt xs).map rI)))]) := by
  simp only [eSort, hb, dI1_self]
  rw [if_pos ⟨hl.1, hl.2, by trivial⟩]
theorem eSort_good {P : Program} {G : Nat → Option (List Za)} {ρ : Go.Shelf.Ren} (Ly : Go.Proofs.Lays.n189 P ρ) {f : Nat} (hf : ρ.f 189 = f) : ∀ args h v us, eSort args h = some (v, us) → YD P G f args h v (setH h us) := fun args h v us ho => by
  unfold eSort at ho
  split at ho <;> (try simp only [reduceCtorEq] at ho)
  rename_i i n tt
  split at ho <;> (try simp only [reduceCtorEq] at ho)
  rename_i rs hb
  split at ho <;> (try simp only [reduceCtorEq] at ho)
  rename_i xs hrs
  split at ho <;> (try simp only [reduceCtorEq] at ho)
  rename_i hg
  simp only [Option.some.injEq, Prod.mk.injEq] at ho
  obtain ⟨rfl, rfl⟩ := ho
  obtain rfl : rs = xs.map rI := optAll_eq (enc := rI) dI1_eq hrs
  obtain ⟨h1, h2, rfl⟩ := hg
  have hil : i < h.length := (List.getElem?_eq_some_iff.1 hb).1
  show YD P G f _ h _ (putH h i _)
  unfold putH
  rw [if_pos hil]
  exact sort_good Ly hf hb (by intro e; rw [e] at h1; simp at h1) (by omega)
end
end
end Go.Proofs.YtjjapdagllclkaaGreat.Tab
namespace Go.Proofs.YtjjapdagllclkaaGreat.Tab
open Go Go.Proofs
def lays189_ren : Go.Shelf.Ren := ⟨fun | 125 => 104 | 128 => 143 | 129 => 144 | 189 => 132 | 215 => 150 | 216 => 175 | 257 => 162 | 294 => 169 | 295 => 170 | 296 => 171 | 297 => 172 | 298 => 173 | 299 => 174 | 300 => 176 | 301 => 177 | 328 => 179 | 329 => 164 | 330 => 165 | 331 => 180 | 332 => 181 | 343 => 182 | n => n, fun | 0 => 0 | 3 => 3 | 4 => 4 | 5 => 5 | 9 => 9 | 28 => 27 | 46 => 135 | 51 => 221 | 53 => 223 | 131 => 194 | 182 => 214 | 183 => 215 | 218 => 233 | 222 => 237 | 228 => 244 | 229 => 245 | n => n, fun  | n => n⟩
theorem lays189 : Go.Proofs.Lays.n189 Tryz.prog lays189_ren where
  mixed := by kernel_rfl
  f125 := Tryz.func104.trans (congrArg some (by kernel_rfl))
  f128 := Tryz.func143.trans (congrArg some (by kernel_rfl))
  f129 := Tryz.func144.trans (congrArg some (by kernel_rfl))
  f189 := Tryz.func132.trans (congrArg some (by kernel_rfl))
  f215 := Tryz.func150.trans (congrArg some (by kernel_rfl))
  f216 := Tryz.func175.trans (congrArg some (by kernel_rfl))
  f257 := Tryz.func162.trans (congrArg some (by kernel_rfl))
  f294 := Tryz.func169.trans (congrArg some (by kernel_rfl))
  f295 := Tryz.func170.trans (congrArg some (by kernel_rfl))
  f296 := Tryz.func171.trans (congrArg some (by kernel_rfl))
  f297 := Tryz.func172.trans (congrArg some (by kernel_rfl))
  f298 := Tryz.func173.trans (congrArg some (by kernel_rfl))
  f299 := Tryz.func174.trans (congrArg some (by kernel_rfl))
  f300 := Tryz.func176.trans (congrArg some (by kernel_rfl))
  f301 := Tryz.func177.trans (congrArg some (by kernel_rfl))
  f328 := Tryz.func179.trans (congrArg some (by kernel_rfl))
  f329 := Tryz.func164.trans (congrArg some (by kernel_rfl))
  f330 := Tryz.func165.trans (congrArg some (by kernel_rfl))
  f331 := Tryz.func180.trans (congrArg some (by kernel_rfl))
  f332 := Tryz.func181.trans (congrArg some (by kernel_rfl))
  f343 := Tryz.func182.trans (congrArg some (by kernel_rfl))
  t0 := Tryz.underlying0
  a0 := Tryz.isAgg0
  z0 := Tryz.sizeOf0
  v0 := Tryz.zeroValue0
  t3 := Tryz.underlying3
  a3 := Tryz.isAgg3
  z3 := Tryz.sizeOf3
  v3 := Tryz.zeroValue3
  t4 := Tryz.underlying4
  a4 := Tryz.isAgg4
  z4 := Tryz.sizeOf4
  v4 := Tryz.zeroValue4
  t5 := Tryz.underlying5
  a5 := Tryz.isAgg5
  z5 := Tryz.sizeOf5
  v5 := Tryz.zeroValue5
  t9 := Tryz.underlying9
  a9 := Tryz.isAgg9
  z9 := Tryz.sizeOf9
  v9 := Tryz.zeroValue9
  t28 := Tryz.underlying27
  a28 := Tryz.isAgg27
  z28 := Tryz.sizeOf27
  v28 := Tryz.zeroValue27
  t46 := Tryz.underlying135
  a46 := Tryz.isAgg135
  z46 := Tryz.sizeOf135
  v46 := Tryz.zeroValue135
  t51 := Tryz.underlying221
  a51 := Tryz.isAgg221
  z51 := Tryz.sizeOf221
  v51 := Tryz.zeroValue221
  t53 := Tryz.underlying223
  a53 := Tryz.isAgg223
  z53 := Tryz.sizeOf223
  v53 := Tryz.zeroValue223
  t131 := Tryz.underlying194
  a131 := Tryz.isAgg194
  z131 := Tryz.sizeOf194
  v131 := Tryz.zeroValue194
  t182 := Tryz.underlying214
  a182 := Tryz.isAgg214
  z182 := Tryz.sizeOf214
  v182 := Tryz.zeroValue214
  t183 := Tryz.underlying215
  a183 := Tryz.isAgg215
  z183 := Tryz.sizeOf215
  v183 := Tryz.zeroValue215
  t218 := Tryz.underlying233
  a218 := Tryz.isAgg233
  z218 := Tryz.sizeOf233
  v218 := Tryz.zeroValue233
  t222 := Tryz.underlying237
  a222 := Tryz.isAgg237
  z222 := Tryz.sizeOf237
  v222 := Tryz.zeroValue237
  t228 := Tryz.underlying244
  a228 := Tryz.isAgg244
  z228 := Tryz.sizeOf244
  v228 := Tryz.zeroValue244
  t229 := Tryz.underlying245
  a229 := Tryz.isAgg245
  z229 := Tryz.sizeOf245
  v229 := Tryz.zeroValue245
end Go.Proofs.YtjjapdagllclkaaGreat.Tab
namespace Go.Proofs.YtjjapdagllclkaaGreat.Tab
open Go Go.Abs Go.Proofs
set_option maxRecDepth 100000
set_option maxHeartbeats 4000000
set_option linter.unusedSimpArgs false
set_option linter.unusedVariables false
noncomputable section
attribute [local simp] YC Yt XV XW YZ YY XX YJ Xw Ys Zd orcF XO YX XQ XM YE Yr rb_vl rb_pv XK YW YV YU XP XL XN rb_sl rb_fn slE chunk fillA Ym ZK putAt List.range_succ List.range_zero List.range'_succ List.range'_zero ZU ZS ZF ZW ZB ZM stepX Yh dop CV.ev Yu Zv ZA Xt fI_eq YA Yy Zy Zw Out.v putT List.replicate_succ zT zB arI ZN Abs.rowAt ldRow allV toV toC ofV ofC Builtin.min_ Builtin.min2 Builtin.max_ Builtin.max2 XT XU resA tupA kill ZT Yo Yp Yn Zc
section
attribute [local simp] ZV ZD Xp YN actD clash disj Xq holes Xr ZY Xu news eqB allB eqA Xf wrote toCs ofCs stA Yq ZE Yl dI1 dI2 dI3 dI5 elt
attribute [local simp] XH XD XI XE YS XG YP XF st_pv YO st_sl st_vl YQ st_mp st_fn YR XC co_any co_und co_agg co_tup Xe co_int Xb co_ref co_pv Xa co_sl co_vl Xc co_mp co_fn Xd XZ
def FH3 : Nat → Option CFn := FF
theorem FH3_ok : Zr Tryz.prog GG FH3 := FF_ok
def FH4 : Nat → Option CFn := upd FH3 132 false (fun _ => none)
theorem FH4_ok : Zr Tryz.prog GG FH4 := Xm mixed FH3_ok fun args v ho => by simp at ho
def FH : Nat → Option CFn := updE FH4 132 eSort
theorem FH_ok : Zr Tryz.prog GG FH := tab_updE FH4_ok (eSort_good lays189 rfl)
end
end
end Go.Proofs.YtjjapdagllclkaaGreat.Tab
