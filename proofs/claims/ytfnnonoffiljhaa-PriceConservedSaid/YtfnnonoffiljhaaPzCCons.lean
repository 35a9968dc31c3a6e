/- What the rows of books share. No condition. -/
import Derived.Test.YtfnnonoffiljhaaChecked
import Derived.Test.YtfnnonoffiljhaaRows
import Derived.OpenShut
import Derived.JoinedOf
import Derived.Handed
import Derived.Test.YtfnnonoffiljhaaPzBCons
set_option linter.unusedSimpArgs false
set_option linter.unusedVariables false
set_option maxRecDepth 100000
namespace Go.Proofs.Ytfnnonoffiljhaa.Tab
open Go Go.Abs
noncomputable def c41 : CFn := ⟨(.seq (.reg [⟨(some 2), (.box (.t 0)), none, []⟩, ⟨(some 4), (.new [(.int .i64 (0)), (.int .i64 (0))]), none, []⟩, ⟨(some 5), (.mv (.c (.int .i64 (0)))), none, []⟩]) (.seq (.reg [⟨(some 10), (.ldn 11 (.t 2)), none, []⟩, ⟨(some 11), (.mv (.t 1)), none, []⟩, ⟨(some 12), (.call (.c (.fn 61 [] [])) [(.t 10), (.t 11)]), none, []⟩, ⟨(some 9), (.mv (.t 12)), none, []⟩, ⟨(some 13), (.ext 0 (.t 9)), none, []⟩, ⟨(some 14), (.ext 1 (.t 9)), none, []⟩, ⟨(some 6), (.new [(.int .i64 (0)), (.int .i64 (0)), (.int .i64 (0)), (.int .i64 (0)), (.int .i64 (0)), (.int .i64 (0)), (.int .i64 (0)), (.int .i64 (0)), (.int .i64 (0)), (.int .i64 (0)), .nils]), none, []⟩, ⟨none, (.st 11 (.t 6) (.t 13)), none, []⟩, ⟨(some 5), (.mv (.t 14)), none, []⟩]) (.seq (.seq (.reg [⟨(some 15), (.mv (.t 5)), none, []⟩, ⟨(some 16), (.ar .neq (.t 15) (.c (.int .i64 (0)))), none, []⟩]) (.cond (.t 16) (.seq (.reg [⟨(some 17), (.ldn 2 (.t 4)), none, []⟩, ⟨(some 18), (.mv (.t 5)), none, []⟩, ⟨none, (.st 2 (.t 4) (.t 17)), none, []⟩, ⟨(some 5), (.mv (.t 18)), none, []⟩]) .ret) .skip)) (.seq (.reg [⟨(some 19), (.ldn 11 (.t 6)), none, []⟩, ⟨(some 20), (.mv (.t 1)), none, []⟩, ⟨(some 21), (.call (.c (.fn 59 [] [])) [(.t 19), (.t 20)]), none, []⟩, ⟨(some 7), (.mv (.t 21)), none, []⟩]) (.seq (.reg [⟨(some 22), (.mv (.t 7)), none, []⟩, ⟨(some 23), (.mv (.t 1)), none, []⟩, ⟨(some 24), (.call (.c (.fn 83 [] [])) [(.t 22), (.t 23)]), none, []⟩, ⟨(some 8), (.mv (.t 24)), none, []⟩]) (.seq (.drw [⟨(some 25), (.mv (.t 7)), none, []⟩, ⟨(some 26), (.mv (.t 8)), none, [0]⟩, ⟨(some 27), (.ar .quo (.t 25) (.t 26)), none, []⟩, ⟨(some 28), (.mv (.t 1)), none, [0, 1, 2]⟩, ⟨(some 29), (.mv (.t 8)), none, [0, 1, 2, 3]⟩, ⟨(some 30), (.ar .quo (.t 28) (.t 29)), none, [0, 1, 2]⟩, ⟨(some 31), (.bld [(.int .i64 (0)), (.int .i64 (0))] [(0, (1, (.t 27))), (1, (1, (.t 30)))]), none, []⟩, ⟨none, (.st 2 (.t 4) (.t 31)), none, []⟩, ⟨(some 5), (.mv (.c (.int .i64 (0)))), none, []⟩]) .ret)))))), 32, [(.ldn 2 4), (.tmp 5)], false, fun _ => none⟩
noncomputable def c44 : CFn := ⟨(.seq (.reg [⟨(some 1), (.box (.t 0)), none, []⟩, ⟨(some 2), (.new [.nils, .nils, .nils]), none, []⟩]) (.seq (.reg [⟨(some 9), (.bld [.nils, .nils, .nils] []), none, []⟩, ⟨(some 3), (.new [.nils, .nils, .nils]), none, []⟩, ⟨none, (.st 3 (.t 3) (.t 9)), none, []⟩]) (.seq (.reg [⟨(some 10), (.fa 0 (.t 1)), none, []⟩, ⟨(some 11), (.ld (.t 10)), none, []⟩, ⟨(some 12), (.conv .i64 (.t 11)), none, []⟩, ⟨(some 13), (.ar .rem (.t 12) (.c (.int .i64 (4)))), none, []⟩, ⟨(some 14), (.ar .add (.c (.int .i64 (2))) (.t 13)), none, []⟩, ⟨(some 4), (.mv (.t 14)), none, []⟩]) (.seq (.seq (.reg [⟨(some 5), (.mv (.c (.int .i64 (0)))), none, []⟩]) (.block 0 (.loop 62 (.seq (.seq (.reg [⟨(some 15), (.mv (.t 5)), none, []⟩, ⟨(some 16), (.mv (.t 4)), none, []⟩, ⟨(some 17), (.ar .lss (.t 15) (.t 16)), none, []⟩]) (.cond (.t 17) .skip (.exit 0))) (.seq (.block 1 (.drw [⟨(some 20), (.fa 0 (.t 3)), none, []⟩, ⟨(some 21), (.ld (.t 20)), none, []⟩, ⟨(some 22), (.mv (.t 5)), none, [0, 1]⟩, ⟨(some 23), (.fa 1 (.t 1)), none, [0, 1, 2]⟩, ⟨(some 24), (.iaa 5 1 (.t 23) (.t 22)), none, [0, 1]⟩, ⟨(some 25), (.ld (.t 24)), none, [0, 1]⟩, ⟨(some 26), (.conv .i64 (.t 25)), none, [0, 1]⟩, ⟨(some 27), (.bsl 1 1 [(.int .i64 (0))] [(0, (.t 26))]), none, [0, 1]⟩, ⟨(some 28), (.app 1 (.t 21) (.t 27)), none, []⟩, ⟨(some 29), (.fa 0 (.t 3)), none, []⟩, ⟨none, (.st 1 (.t 29) (.t 28)), none, []⟩])) (.reg [⟨(some 18), (.mv (.t 5)), none, []⟩, ⟨(some 19), (.ar .add (.t 18) (.c (.int .i64 (1)))), none, []⟩, ⟨(some 5), (.mv (.t 19)), none, []⟩])))))) (.seq (.reg [⟨(some 30), (.fa 1 (.t 3)), none, []⟩, ⟨(some 31), (.ld (.t 30)), none, []⟩, ⟨(some 32), (.fa 0 (.t 3)), none, []⟩, ⟨(some 33), (.ld (.t 32)), none, []⟩, ⟨(some 34), (.app 1 (.t 31) (.t 33)), none, []⟩, ⟨(some 35), (.fa 1 (.t 3)), none, []⟩, ⟨none, (.st 1 (.t 35) (.t 34)), none, []⟩]) (.seq (.seq (.reg [⟨(some 6), (.mv (.c (.int .i64 (0)))), none, []⟩]) (.block 2 (.loop 94 (.seq (.seq (.reg [⟨(some 36), (.mv (.t 6)), none, []⟩, ⟨(some 37), (.fa 6 (.t 1)), none, []⟩, ⟨(some 38), (.ld (.t 37)), none, []⟩, ⟨(some 39), (.len (.t 38)), none, []⟩, ⟨(some 40), (.ar .lss (.t 36) (.t 39)), none, []⟩, ⟨(some 41), (.mv (.t 40)), none, []⟩, ⟨(some 42), (.mv (.t 6)), (some (41, true)), []⟩, ⟨(some 43), (.ar .lss (.t 42) (.c (.int .i64 (10)))), (some (41, true)), []⟩, ⟨(some 44), (.pick (.t 41) (.t 43) (.c (.bool false))), none, []⟩]) (.cond (.t 44) .skip (.exit 2))) (.seq (.block 3 (.seq (.reg [⟨(some 47), (.fa 6 (.t 1)), none, []⟩, ⟨(some 48), (.ld (.t 47)), none, []⟩, ⟨(some 49), (.mv (.t 6)), none, []⟩, ⟨(some 50), (.ias 3 (.t 48) (.t 49)), none, []⟩, ⟨(some 51), (.ldn 3 (.t 50)), none, []⟩, ⟨(some 7), (.new [(.int .u8 (0)), (.int .u8 (0)), (.int .u8 (0))]), none, []⟩, ⟨none, (.st 3 (.t 7) (.t 51)), none, []⟩]) (.seq (.reg [⟨(some 52), (.iaa 3 1 (.t 7) (.c (.int .i64 (0)))), none, []⟩, ⟨(some 53), (.ld (.t 52)), none, []⟩, ⟨(some 54), (.conv .i64 (.t 53)), none, []⟩, ⟨(some 55), (.mv (.t 4)), none, []⟩, ⟨(some 56), (.ar .rem (.t 54) (.t 55)), none, []⟩, ⟨(some 57), (.bld [(.int .i64 (0)), (.int .i64 (0)), (.int .i64 (0))] [(0, (1, (.t 56)))]), none, []⟩, ⟨(some 8), (.new [(.int .i64 (0)), (.int .i64 (0)), (.int .i64 (0))]), none, []⟩, ⟨none, (.st 3 (.t 8) (.t 57)), none, []⟩]) (.seq (.drw [⟨(some 58), (.fa 0 (.t 8)), none, []⟩, ⟨(some 59), (.ld (.t 58)), none, []⟩, ⟨(some 60), (.ar .add (.t 59) (.c (.int .i64 (1)))), none, []⟩, ⟨(some 61), (.iaa 3 1 (.t 7) (.c (.int .i64 (1)))), none, [0, 1, 2]⟩, ⟨(some 62), (.ld (.t 61)), none, [0, 1, 2]⟩, ⟨(some 63), (.conv .i64 (.t 62)), none, [0, 1, 2]⟩, ⟨(some 64), (.mv (.t 4)), none, [0, 1, 2, 3, 4, 5]⟩, ⟨(some 65), (.ar .sub (.t 64) (.c (.int .i64 (1)))), none, [0, 1, 2, 3, 4, 5]⟩, ⟨(some 66), (.ar .rem (.t 63) (.t 65)), none, [0, 1, 2]⟩, ⟨(some 67), (.ar .add (.t 60) (.t 66)), none, []⟩, ⟨(some 68), (.mv (.t 4)), none, [0, 1, 2, 3, 4, 5, 6, 7, 8, 9]⟩, ⟨(some 69), (.ar .rem (.t 67) (.t 68)), none, []⟩, ⟨(some 70), (.fa 1 (.t 8)), none, []⟩, ⟨none, (.st 1 (.t 70) (.t 69)), none, []⟩]) (.seq (.reg [⟨(some 71), (.iaa 3 1 (.t 7) (.c (.int .i64 (2)))), none, []⟩, ⟨(some 72), (.ld (.t 71)), none, []⟩, ⟨(some 73), (.conv .i64 (.t 72)), none, []⟩, ⟨(some 74), (.fa 2 (.t 8)), none, []⟩, ⟨none, (.st 1 (.t 74) (.t 73)), none, []⟩]) (.seq (.seq (.reg [⟨(some 75), (.mv (.t 6)), none, []⟩, ⟨(some 76), (.fa 7 (.t 1)), none, []⟩, ⟨(some 77), (.ld (.t 76)), none, []⟩, ⟨(some 78), (.len (.t 77)), none, []⟩, ⟨(some 79), (.ar .lss (.t 75) (.t 78)), none, []⟩]) (.cond (.t 79) (.reg [⟨(some 80), (.fa 7 (.t 1)), none, []⟩, ⟨(some 81), (.ld (.t 80)), none, []⟩, ⟨(some 82), (.mv (.t 6)), none, []⟩, ⟨(some 83), (.ias 1 (.t 81) (.t 82)), none, []⟩, ⟨(some 84), (.ld (.t 83)), none, []⟩, ⟨(some 85), (.conv .i64 (.t 84)), none, []⟩, ⟨(some 86), (.ar .mul (.c (.int .i64 (15))) (.t 85)), none, []⟩, ⟨(some 87), (.fa 2 (.t 8)), none, []⟩, ⟨none, (.st 1 (.t 87) (.t 86)), none, []⟩]) .skip)) (.seq (.drw [⟨(some 88), (.fa 1 (.t 3)), none, []⟩, ⟨(some 89), (.ld (.t 88)), none, []⟩, ⟨(some 90), (.fa 0 (.t 8)), none, [0, 1]⟩, ⟨(some 91), (.ld (.t 90)), none, [0, 1]⟩, ⟨(some 92), (.ias 1 (.t 89) (.t 91)), none, []⟩, ⟨(some 93), (.ld (.t 92)), none, []⟩, ⟨(some 94), (.fa 2 (.t 8)), none, [0, 1, 2, 3, 4, 5]⟩, ⟨(some 95), (.ld (.t 94)), none, [0, 1, 2, 3, 4, 5]⟩, ⟨(some 96), (.ar .sub (.t 93) (.t 95)), none, []⟩, ⟨(some 97), (.ias 1 (.t 89) (.t 91)), none, []⟩, ⟨none, (.st 1 (.t 97) (.t 96)), none, []⟩]) (.seq (.drw [⟨(some 98), (.fa 1 (.t 3)), none, []⟩, ⟨(some 99), (.ld (.t 98)), none, []⟩, ⟨(some 100), (.fa 1 (.t 8)), none, [0, 1]⟩, ⟨(some 101), (.ld (.t 100)), none, [0, 1]⟩, ⟨(some 102), (.ias 1 (.t 99) (.t 101)), none, []⟩, ⟨(some 103), (.ld (.t 102)), none, []⟩, ⟨(some 104), (.fa 2 (.t 8)), none, [0, 1, 2, 3, 4, 5]⟩, ⟨(some 105), (.ld (.t 104)), none, [0, 1, 2, 3, 4, 5]⟩, ⟨(some 106), (.ar .add (.t 103) (.t 105)), none, []⟩, ⟨(some 107), (.ias 1 (.t 99) (.t 101)), none, []⟩, ⟨none, (.st 1 (.t 107) (.t 106)), none, []⟩]) (.reg [⟨(some 108), (.fa 2 (.t 3)), none, []⟩, ⟨(some 109), (.ld (.t 108)), none, []⟩, ⟨(some 110), (.ldn 3 (.t 8)), none, []⟩, ⟨(some 111), (.bsl 3 1 [(.int .i64 (0)), (.int .i64 (0)), (.int .i64 (0))] [(0, (.t 110))]), none, []⟩, ⟨(some 112), (.app 3 (.t 109) (.t 111)), none, []⟩, ⟨(some 113), (.fa 2 (.t 3)), none, []⟩, ⟨none, (.st 1 (.t 113) (.t 112)), none, []⟩]))))))))) (.reg [⟨(some 45), (.mv (.t 6)), none, []⟩, ⟨(some 46), (.ar .add (.t 45) (.c (.int .i64 (1)))), none, []⟩, ⟨(some 6), (.mv (.t 46)), none, []⟩])))))) (.seq (.reg [⟨(some 114), (.ldn 3 (.t 3)), none, []⟩, ⟨none, (.st 3 (.t 2) (.t 114)), none, []⟩]) .ret))))))), 115, [(.ldn 3 2)], false, fun _ => none⟩
noncomputable def c46 : CFn := ⟨(.seq (.reg [⟨(some 1), (.box (.t 0)), none, []⟩, ⟨(some 2), (.new [.nils, .nils, .nils]), none, []⟩]) (.seq (.drw [⟨(some 3), (.bsl 1 0 [(.int .i64 (0))] []), none, []⟩, ⟨(some 4), (.fa 0 (.t 1)), none, [0]⟩, ⟨(some 5), (.ld (.t 4)), none, [0]⟩, ⟨(some 6), (.app 1 (.t 3) (.t 5)), none, []⟩, ⟨(some 7), (.bsl 1 0 [(.int .i64 (0))] []), none, [0, 1, 2, 3]⟩, ⟨(some 8), (.fa 1 (.t 1)), none, [0, 1, 2, 3, 4]⟩, ⟨(some 9), (.ld (.t 8)), none, [0, 1, 2, 3, 4]⟩, ⟨(some 10), (.app 1 (.t 7) (.t 9)), none, []⟩, ⟨(some 11), (.bsl 3 0 [(.int .i64 (0)), (.int .i64 (0)), (.int .i64 (0))] []), none, [0, 1, 2, 3, 4, 5, 6, 7]⟩, ⟨(some 12), (.fa 2 (.t 1)), none, [0, 1, 2, 3, 4, 5, 6, 7, 8]⟩, ⟨(some 13), (.ld (.t 12)), none, [0, 1, 2, 3, 4, 5, 6, 7, 8]⟩, ⟨(some 14), (.app 3 (.t 11) (.t 13)), none, []⟩, ⟨(some 15), (.bld [.nils, .nils, .nils] [(0, (1, (.t 6))), (1, (1, (.t 10))), (2, (1, (.t 14)))]), none, []⟩, ⟨none, (.st 3 (.t 2) (.t 15)), none, []⟩]) .ret)), 16, [(.ldn 3 2)], false, fun _ => none⟩
noncomputable def c47 : CFn := ⟨(.seq (.reg [⟨(some 1), (.box (.t 0)), none, []⟩, ⟨(some 2), (.mv (.c .nils)), none, []⟩, ⟨(some 3), (.mv (.c (.int .i64 (0)))), none, []⟩]) (.seq (.reg [⟨(some 7), (.ldn 3 (.t 1)), none, []⟩, ⟨(some 8), (.call (.c (.fn 74 [] [])) [(.t 7)]), none, []⟩, ⟨(some 6), (.mv (.t 8)), none, []⟩, ⟨(some 9), (.ext 0 (.t 6)), none, []⟩, ⟨(some 10), (.ext 1 (.t 6)), none, []⟩, ⟨(some 4), (.new [.nils, .nils, .nils]), none, []⟩, ⟨none, (.st 3 (.t 4) (.t 9)), none, []⟩, ⟨(some 5), (.mv (.t 10)), none, []⟩]) (.seq (.seq (.reg [⟨(some 11), (.mv (.t 5)), none, []⟩, ⟨(some 12), (.ar .neq (.t 11) (.c (.int .i64 (0)))), none, []⟩]) (.cond (.t 12) (.seq (.reg [⟨(some 13), (.mv (.t 5)), none, []⟩, ⟨(some 2), (.mv (.c .nils)), none, []⟩, ⟨(some 3), (.mv (.t 13)), none, []⟩]) .ret) .skip)) (.seq (.reg [⟨(some 14), (.ldn 3 (.t 4)), none, []⟩, ⟨(some 15), (.call (.c (.fn 84 [] [])) [(.t 14)]), none, []⟩, ⟨(some 2), (.mv (.t 15)), none, []⟩, ⟨(some 3), (.mv (.c (.int .i64 (0)))), none, []⟩]) .ret)))), 16, [(.tmp 2), (.tmp 3)], false, fun _ => none⟩
noncomputable def c54 : CFn := ⟨(.seq (.reg [⟨(some 0), (.new [(.int .i64 (0)), (.int .i64 (0)), (.int .i64 (0)), (.int .i64 (0)), (.int .i64 (0)), (.int .i64 (0)), (.int .i64 (0)), (.int .i64 (0)), (.int .i64 (0)), (.int .i64 (0)), .nils]), none, []⟩]) (.seq (.reg [⟨(some 1), (.bld [(.int .i64 (0)), (.int .i64 (0))] [(0, (1, (.c (.int .i64 (1000))))), (1, (1, (.c (.int .i64 (100)))))]), none, []⟩, ⟨(some 2), (.bsl 2 1 [(.int .i64 (0)), (.int .i64 (0))] [(0, (.t 1))]), none, []⟩, ⟨(some 3), (.bld [(.int .i64 (0)), (.int .i64 (0)), (.int .i64 (0)), (.int .i64 (0)), (.int .i64 (0)), (.int .i64 (0)), (.int .i64 (0)), (.int .i64 (0)), (.int .i64 (0)), (.int .i64 (0)), .nils] [(0, (1, (.c (.int .i64 (10000))))), (1, (1, (.c (.int .i64 (20000))))), (2, (1, (.c (.int .i64 (100))))), (3, (1, (.c (.int .i64 (5000))))), (4, (1, (.c (.int .i64 (300))))), (5, (1, (.c (.int .i64 (1000))))), (6, (1, (.c (.int .i64 (900))))), (7, (1, (.c (.int .i64 (400))))), (8, (1, (.c (.int .i64 (50))))), (9, (1, (.c (.int .i64 (200))))), (10, (1, (.t 2)))]), none, []⟩, ⟨none, (.st 11 (.t 0) (.t 3)), none, []⟩]) .ret)), 4, [(.ldn 11 0)], false, fun _ => none⟩
noncomputable def c55 : CFn := ⟨(.seq (.reg [⟨(some 4), (.new [.nils, .nils, .nils]), none, []⟩]) (.seq (.reg [⟨(some 5), (.bsl 1 3 [(.int .i64 (0))] [(0, (.c (.int .i64 (100)))), (1, (.c (.int .i64 (0)))), (2, (.c (.int .i64 (0))))]), none, []⟩, ⟨(some 6), (.bsl 1 3 [(.int .i64 (0))] [(0, (.c (.int .i64 (40)))), (1, (.c (.int .i64 (35)))), (2, (.c (.int .i64 (25))))]), none, []⟩, ⟨(some 7), (.bld [(.int .i64 (0)), (.int .i64 (0)), (.int .i64 (0))] [(1, (1, (.c (.int .i64 (1))))), (2, (1, (.c (.int .i64 (60)))))]), none, []⟩, ⟨(some 8), (.mv (.t 0)), none, []⟩, ⟨(some 9), (.bld [(.int .i64 (0)), (.int .i64 (0)), (.int .i64 (0))] [(0, (1, (.c (.int .i64 (1))))), (1, (1, (.c (.int .i64 (2))))), (2, (1, (.t 8)))]), none, []⟩, ⟨(some 10), (.bsl 3 2 [(.int .i64 (0)), (.int .i64 (0)), (.int .i64 (0))] [(0, (.t 7)), (1, (.t 9))]), none, []⟩, ⟨(some 11), (.mv (.t 1)), none, []⟩, ⟨(some 12), (.app 3 (.t 10) (.t 11)), none, []⟩, ⟨(some 13), (.bld [.nils, .nils, .nils] [(0, (1, (.t 5))), (1, (1, (.t 6))), (2, (1, (.t 12)))]), none, []⟩, ⟨none, (.st 3 (.t 4) (.t 13)), none, []⟩]) .ret)), 14, [(.ldn 3 4)], false, fun _ => none⟩
noncomputable def c56 : CFn := ⟨(.seq (.reg [⟨(some 4), (.mv (.c (.bool false))), none, []⟩]) (.seq (.seq (.reg [⟨(some 6), (.mv (.t 0)), none, []⟩, ⟨(some 7), (.len (.t 6)), none, []⟩, ⟨(some 8), (.mv (.t 1)), none, []⟩, ⟨(some 9), (.len (.t 8)), none, []⟩, ⟨(some 10), (.ar .neq (.t 7) (.t 9)), none, []⟩]) (.cond (.t 10) (.seq (.reg [⟨(some 4), (.mv (.c (.bool false))), none, []⟩]) .ret) .skip)) (.seq (.seq (.reg [⟨(some 5), (.mv (.c (.int .i64 (0)))), none, []⟩]) (.block 0 (.loop 35 (.seq (.seq (.reg [⟨(some 11), (.mv (.t 5)), none, []⟩, ⟨(some 12), (.mv (.t 0)), none, []⟩, ⟨(some 13), (.len (.t 12)), none, []⟩, ⟨(some 14), (.ar .lss (.t 11) (.t 13)), none, []⟩]) (.cond (.t 14) .skip (.exit 0))) (.seq (.block 1 (.seq (.drw [⟨(some 17), (.mv (.t 0)), none, []⟩, ⟨(some 18), (.mv (.t 5)), none, [0]⟩, ⟨(some 19), (.ias 1 (.t 17) (.t 18)), none, []⟩, ⟨(some 20), (.ld (.t 19)), none, []⟩, ⟨(some 21), (.mv (.t 1)), none, [0, 1, 2, 3]⟩, ⟨(some 22), (.mv (.t 5)), none, [0, 1, 2, 3, 4]⟩, ⟨(some 23), (.ias 1 (.t 21) (.t 22)), none, [0, 1, 2, 3]⟩, ⟨(some 24), (.ld (.t 23)), none, [0, 1, 2, 3]⟩, ⟨(some 25), (.ar .neq (.t 20) (.t 24)), none, []⟩]) (.cond (.t 25) (.seq (.reg [⟨(some 4), (.mv (.c (.bool false))), none, []⟩]) .ret) .skip))) (.reg [⟨(some 15), (.mv (.t 5)), none, []⟩, ⟨(some 16), (.ar .add (.t 15) (.c (.int .i64 (1)))), none, []⟩, ⟨(some 5), (.mv (.t 16)), none, []⟩])))))) (.seq (.reg [⟨(some 4), (.mv (.c (.bool true))), none, []⟩]) .ret)))), 26, [(.tmp 4)], false, fun _ => none⟩
noncomputable def c57 : CFn := ⟨(.seq (.reg [⟨(some 1), (.box (.t 0)), none, []⟩, ⟨(some 2), (.new [(.int .i64 (0)), (.int .i64 (0)), (.int .i64 (0)), (.int .i64 (0)), (.int .i64 (0)), (.int .i64 (0)), (.int .i64 (0)), (.int .i64 (0)), (.int .i64 (0)), (.int .i64 (0)), .nils]), none, []⟩, ⟨(some 3), (.mv (.c (.int .i64 (0)))), none, []⟩]) (.seq (.reg [⟨(some 4), (.mv (.c (.fn 85 [] []))), none, []⟩]) (.seq (.reg [⟨(some 6), (.fa 10 (.t 1)), none, []⟩, ⟨(some 7), (.ld (.t 6)), none, []⟩, ⟨(some 8), (.call (.c (.fn 86 [] [])) [(.t 7), (.c (.fn 87 [] []))]), none, []⟩, ⟨(some 5), (.mv (.t 8)), none, []⟩]) (.seq (.block 0 (.seq (.reg [⟨(some 10), (.fa 10 (.t 1)), none, []⟩, ⟨(some 11), (.ld (.t 10)), none, []⟩, ⟨(some 12), (.len (.t 11)), none, []⟩, ⟨(some 13), (.ar .gtr (.t 12) (.c (.int .i64 (6)))), none, []⟩, ⟨(some 9), (.mv (.t 13)), none, []⟩]) (.cond (.t 9) (.seq (.reg [⟨(some 14), (.ldn 11 (.t 2)), none, []⟩, ⟨none, (.st 11 (.t 2) (.t 14)), none, []⟩, ⟨(some 3), (.mv (.c (.int .i64 (5)))), none, []⟩]) .ret) (.seq (.seq (.reg [⟨(some 16), (.fa 10 (.t 1)), none, []⟩, ⟨(some 17), (.ld (.t 16)), none, []⟩, ⟨(some 18), (.mv (.t 4)), none, []⟩, ⟨(some 19), (.call (.c (.fn 88 [] [])) [(.t 17), (.t 18)]), none, []⟩, ⟨(some 15), (.mv (.t 19)), none, []⟩]) (.cond (.t 15) .skip (.reg [⟨(some 20), (.mv (.t 5)), none, []⟩, ⟨(some 21), (.un .not (.t 20)), none, []⟩, ⟨(some 15), (.mv (.t 21)), none, []⟩]))) (.cond (.t 15) (.seq (.reg [⟨(some 22), (.ldn 11 (.t 2)), none, []⟩, ⟨none, (.st 11 (.t 2) (.t 22)), none, []⟩, ⟨(some 3), (.mv (.c (.int .i64 (4)))), none, []⟩]) .ret) (.seq (.seq (.reg [⟨(some 24), (.fa 0 (.t 1)), none, []⟩, ⟨(some 25), (.ld (.t 24)), none, []⟩, ⟨(some 26), (.bsl 1 1 [(.int .i64 (0))] [(0, (.t 25))]), none, []⟩, ⟨(some 27), (.call (.c (.fn 65 [] [])) [(.c (.int .i64 (1))), (.c (.int .i64 (100000))), (.t 26)]), none, []⟩, ⟨(some 28), (.un .not (.t 27)), none, []⟩, ⟨(some 23), (.mv (.t 28)), none, []⟩]) (.cond (.t 23) .skip (.seq (.reg [⟨(some 29), (.fa 1 (.t 1)), none, []⟩, ⟨(some 30), (.ld (.t 29)), none, []⟩, ⟨(some 31), (.bsl 1 1 [(.int .i64 (0))] [(0, (.t 30))]), none, []⟩, ⟨(some 32), (.call (.c (.fn 65 [] [])) [(.c (.int .i64 (0))), (.c (.int .i64 (100000))), (.t 31)]), none, []⟩, ⟨(some 33), (.un .not (.t 32)), none, []⟩, ⟨(some 23), (.mv (.t 33)), none, []⟩]) (.cond (.t 23) .skip (.reg [⟨(some 34), (.fa 2 (.t 1)), none, []⟩, ⟨(some 35), (.ld (.t 34)), none, []⟩, ⟨(some 36), (.bsl 1 1 [(.int .i64 (0))] [(0, (.t 35))]), none, []⟩, ⟨(some 37), (.call (.c (.fn 65 [] [])) [(.c (.int .i64 (0))), (.c (.int .i64 (500))), (.t 36)]), none, []⟩, ⟨(some 38), (.un .not (.t 37)), none, []⟩, ⟨(some 23), (.mv (.t 38)), none, []⟩]))))) (.cond (.t 23) (.seq (.reg [⟨(some 39), (.ldn 11 (.t 2)), none, []⟩, ⟨none, (.st 11 (.t 2) (.t 39)), none, []⟩, ⟨(some 3), (.mv (.c (.int .i64 (2)))), none, []⟩]) .ret) (.seq (.seq (.reg [⟨(some 41), (.fa 3 (.t 1)), none, []⟩, ⟨(some 42), (.ld (.t 41)), none, []⟩, ⟨(some 43), (.fa 4 (.t 1)), none, []⟩, ⟨(some 44), (.ld (.t 43)), none, []⟩, ⟨(some 45), (.fa 6 (.t 1)), none, []⟩, ⟨(some 46), (.ld (.t 45)), none, []⟩, ⟨(some 47), (.fa 8 (.t 1)), none, []⟩, ⟨(some 48), (.ld (.t 47)), none, []⟩, ⟨(some 49), (.bsl 1 4 [(.int .i64 (0))] [(0, (.t 42)), (1, (.t 44)), (2, (.t 46)), (3, (.t 48))]), none, []⟩, ⟨(some 50), (.call (.c (.fn 65 [] [])) [(.c (.int .i64 (0))), (.c (.int .i64 (1000000))), (.t 49)]), none, []⟩, ⟨(some 51), (.un .not (.t 50)), none, []⟩, ⟨(some 40), (.mv (.t 51)), none, []⟩]) (.cond (.t 40) .skip (.seq (.reg [⟨(some 52), (.fa 5 (.t 1)), none, []⟩, ⟨(some 53), (.ld (.t 52)), none, []⟩, ⟨(some 54), (.fa 7 (.t 1)), none, []⟩, ⟨(some 55), (.ld (.t 54)), none, []⟩, ⟨(some 56), (.bsl 1 2 [(.int .i64 (0))] [(0, (.t 53)), (1, (.t 55))]), none, []⟩, ⟨(some 57), (.call (.c (.fn 58 [] [])) [(.t 56)]), none, []⟩, ⟨(some 58), (.un .not (.t 57)), none, []⟩, ⟨(some 40), (.mv (.t 58)), none, []⟩]) (.cond (.t 40) .skip (.reg [⟨(some 59), (.fa 9 (.t 1)), none, []⟩, ⟨(some 60), (.ld (.t 59)), none, []⟩, ⟨(some 61), (.bsl 1 1 [(.int .i64 (0))] [(0, (.t 60))]), none, []⟩, ⟨(some 62), (.call (.c (.fn 65 [] [])) [(.c (.int .i64 (0))), (.c (.int .i64 (1000))), (.t 61)]), none, []⟩, ⟨(some 63), (.un .not (.t 62)), none, []⟩, ⟨(some 40), (.mv (.t 63)), none, []⟩]))))) (.cond (.t 40) (.seq (.reg [⟨(some 64), (.ldn 11 (.t 2)), none, []⟩, ⟨none, (.st 11 (.t 2) (.t 64)), none, []⟩, ⟨(some 3), (.mv (.c (.int .i64 (2)))), none, []⟩]) .ret) .skip))))))))) (.seq (.reg [⟨(some 65), (.ldn 11 (.t 1)), none, []⟩, ⟨(some 66), (.bld [(.int .i64 (0)), (.int .i64 (0)), (.int .i64 (0)), (.int .i64 (0)), (.int .i64 (0)), (.int .i64 (0)), (.int .i64 (0)), (.int .i64 (0)), (.int .i64 (0)), (.int .i64 (0)), .nils] [(0, (11, (.t 65)))]), none, []⟩, ⟨none, (.st 11 (.t 2) (.t 66)), none, []⟩, ⟨(some 3), (.mv (.c (.int .i64 (0)))), none, []⟩]) .ret))))), 67, [(.ldn 11 2), (.tmp 3)], false, fun _ => none⟩
noncomputable def c58 : CFn := ⟨(.seq (.reg [⟨(some 2), (.mv (.c (.bool false))), none, []⟩]) (.seq (.reg [⟨(some 3), (.mv (.t 0)), none, []⟩, ⟨(some 4), (.call (.c (.fn 65 [] [])) [(.c (.int .i64 (1))), (.c (.int .i64 (100000))), (.t 3)]), none, []⟩, ⟨(some 2), (.mv (.t 4)), none, []⟩]) .ret)), 5, [(.tmp 2)], false, fun _ => none⟩
noncomputable def c59 : CFn := ⟨(.seq (.reg [⟨(some 2), (.box (.t 0)), none, []⟩, ⟨(some 4), (.mv (.c (.int .i64 (0)))), none, []⟩]) (.seq (.drw [⟨(some 5), (.ldn 11 (.t 2)), none, []⟩, ⟨(some 6), (.mv (.t 1)), none, [0]⟩, ⟨(some 7), (.call (.c (.fn 82 [] [])) [(.t 5), (.t 6)]), none, []⟩, ⟨(some 8), (.call (.c (.fn 90 [] [])) [(.t 7)]), none, []⟩, ⟨(some 9), (.fa 0 (.t 2)), none, [0, 1, 2, 3]⟩, ⟨(some 10), (.fa 9 (.t 9)), none, [0, 1, 2, 3]⟩, ⟨(some 11), (.ld (.t 10)), none, [0, 1, 2, 3]⟩, ⟨(some 12), (.ar .add (.c (.int .i64 (1000))) (.t 11)), none, [0, 1, 2, 3]⟩, ⟨(some 13), (.ar .mul (.t 8) (.t 12)), none, []⟩, ⟨(some 14), (.ldn 11 (.t 2)), none, [0, 1, 2, 3, 4, 5, 6, 7, 8]⟩, ⟨(some 15), (.mv (.t 1)), none, [0, 1, 2, 3, 4, 5, 6, 7, 8, 9]⟩, ⟨(some 16), (.call (.c (.fn 91 [] [])) [(.t 14), (.t 15)]), none, [4, 5, 6, 7, 8]⟩, ⟨(some 17), (.ar .sub (.c (.int .i64 (1000))) (.t 16)), none, [4, 5, 6, 7, 8]⟩, ⟨(some 18), (.ar .mul (.t 13) (.t 17)), none, []⟩, ⟨(some 19), (.call (.c (.fn 89 [] [])) [(.t 18), (.c (.int .i64 (1000000)))]), none, []⟩, ⟨(some 4), (.mv (.t 19)), none, []⟩]) .ret)), 20, [(.tmp 4)], false, fun _ => none⟩
noncomputable def c60 : CFn := ⟨(.seq (.reg [⟨(some 2), (.box (.t 0)), none, []⟩, ⟨(some 3), (.box (.t 1)), none, []⟩, ⟨(some 4), (.new [(.int .i64 (0))]), none, []⟩]) (.seq (.seq (.reg [⟨(some 7), (.ldn 11 (.t 2)), none, []⟩, ⟨(some 8), (.mkf 92 [(.t 7)] []), none, []⟩]) (.block 0 (.rf (.t 8) [9] (.reg [⟨(some 5), (.new [(.int .i64 (0)), (.int .i64 (0))]), none, []⟩, ⟨none, (.st 2 (.t 5) (.t 9)), none, []⟩]) (.block 1 (.seq (.seq (.drw [⟨(some 10), (.fa 0 (.t 5)), none, []⟩, ⟨(some 11), (.ld (.t 10)), none, []⟩, ⟨(some 12), (.fa 1 (.t 5)), none, [0, 1]⟩, ⟨(some 13), (.ld (.t 12)), none, [0, 1]⟩, ⟨(some 14), (.ar .gtr (.t 11) (.t 13)), none, []⟩, ⟨(some 15), (.mv (.t 14)), none, []⟩, ⟨(some 16), (.ldn 11 (.t 2)), (some (15, false)), []⟩, ⟨(some 17), (.fa 0 (.t 5)), (some (15, false)), [6]⟩, ⟨(some 18), (.ld (.t 17)), (some (15, false)), [6]⟩, ⟨(some 19), (.call (.c (.fn 59 [] [])) [(.t 16), (.t 18)]), (some (15, false)), []⟩, ⟨(some 20), (.ld (.t 3)), (some (15, false)), [6, 7, 8, 9]⟩, ⟨(some 21), (.ar .gtr (.t 19) (.t 20)), (some (15, false)), []⟩, ⟨(some 22), (.pick (.t 15) (.c (.bool true)) (.t 21)), none, []⟩]) (.cond (.t 22) (.exit 1) .skip)) (.seq (.block 2 (.loop 60 (.seq (.seq (.reg [⟨(some 23), (.fa 0 (.t 5)), none, []⟩, ⟨(some 24), (.ld (.t 23)), none, []⟩, ⟨(some 25), (.fa 1 (.t 5)), none, []⟩, ⟨(some 26), (.ld (.t 25)), none, []⟩, ⟨(some 27), (.ar .lss (.t 24) (.t 26)), none, []⟩]) (.cond (.t 27) .skip (.exit 2))) (.block 3 (.seq (.reg [⟨(some 28), (.fa 0 (.t 5)), none, []⟩, ⟨(some 29), (.ld (.t 28)), none, []⟩, ⟨(some 30), (.fa 1 (.t 5)), none, []⟩, ⟨(some 31), (.ld (.t 30)), none, []⟩, ⟨(some 32), (.ar .add (.t 29) (.t 31)), none, []⟩, ⟨(some 33), (.ar .add (.t 32) (.c (.int .i64 (1)))), none, []⟩, ⟨(some 34), (.ar .quo (.t 33) (.c (.int .i64 (2)))), none, []⟩, ⟨(some 6), (.mv (.t 34)), none, []⟩]) (.seq (.drw [⟨(some 35), (.ldn 11 (.t 2)), none, []⟩, ⟨(some 36), (.mv (.t 6)), none, [0]⟩, ⟨(some 37), (.call (.c (.fn 59 [] [])) [(.t 35), (.t 36)]), none, []⟩, ⟨(some 38), (.ld (.t 3)), none, [0, 1, 2]⟩, ⟨(some 39), (.ar .gtr (.t 37) (.t 38)), none, []⟩]) (.cond (.t 39) (.reg [⟨(some 40), (.mv (.t 6)), none, []⟩, ⟨(some 41), (.ar .sub (.t 40) (.c (.int .i64 (1)))), none, []⟩, ⟨(some 42), (.fa 1 (.t 5)), none, []⟩, ⟨none, (.st 1 (.t 42) (.t 41)), none, []⟩]) (.reg [⟨(some 43), (.mv (.t 6)), none, []⟩, ⟨(some 44), (.fa 0 (.t 5)), none, []⟩, ⟨none, (.st 1 (.t 44) (.t 43)), none, []⟩])))))))) (.seq (.reg [⟨(some 45), (.fa 0 (.t 5)), none, []⟩, ⟨(some 46), (.ld (.t 45)), none, []⟩, ⟨none, (.st 1 (.t 4) (.t 46)), none, []⟩]) .ret))))))) (.seq (.reg [⟨none, (.st 1 (.t 4) (.c (.int .i64 (0)))), none, []⟩]) .ret))), 47, [(.ld 4)], false, fun _ => none⟩
noncomputable def c61 : CFn := ⟨(.seq (.reg [⟨(some 2), (.box (.t 0)), none, []⟩, ⟨(some 4), (.new [(.int .i64 (0)), (.int .i64 (0)), (.int .i64 (0)), (.int .i64 (0)), (.int .i64 (0)), (.int .i64 (0)), (.int .i64 (0)), (.int .i64 (0)), (.int .i64 (0)), (.int .i64 (0)), .nils]), none, []⟩, ⟨(some 5), (.mv (.c (.int .i64 (0)))), none, []⟩]) (.seq (.reg [⟨(some 9), (.ldn 11 (.t 2)), none, []⟩, ⟨(some 10), (.call (.c (.fn 57 [] [])) [(.t 9)]), none, []⟩, ⟨(some 8), (.mv (.t 10)), none, []⟩, ⟨(some 11), (.ext 0 (.t 8)), none, []⟩, ⟨(some 12), (.ext 1 (.t 8)), none, []⟩, ⟨(some 6), (.new [(.int .i64 (0)), (.int .i64 (0)), (.int .i64 (0)), (.int .i64 (0)), (.int .i64 (0)), (.int .i64 (0)), (.int .i64 (0)), (.int .i64 (0)), (.int .i64 (0)), (.int .i64 (0)), .nils]), none, []⟩, ⟨none, (.st 11 (.t 6) (.t 11)), none, []⟩, ⟨(some 7), (.mv (.t 12)), none, []⟩]) (.seq (.seq (.reg [⟨(some 13), (.mv (.t 7)), none, []⟩, ⟨(some 14), (.ar .eql (.t 13) (.c (.int .i64 (0)))), none, []⟩, ⟨(some 15), (.mv (.t 14)), none, []⟩, ⟨(some 16), (.mv (.t 1)), (some (15, true)), []⟩, ⟨(some 17), (.bsl 1 1 [(.int .i64 (0))] [(0, (.t 16))]), (some (15, true)), []⟩, ⟨(some 18), (.call (.c (.fn 58 [] [])) [(.t 17)]), (some (15, true)), []⟩, ⟨(some 19), (.un .not (.t 18)), (some (15, true)), []⟩, ⟨(some 20), (.pick (.t 15) (.t 19) (.c (.bool false))), none, []⟩]) (.cond (.t 20) (.reg [⟨(some 7), (.mv (.c (.int .i64 (3)))), none, []⟩]) .skip)) (.seq (.reg [⟨(some 21), (.ldn 11 (.t 6)), none, []⟩, ⟨(some 22), (.mv (.t 7)), none, []⟩, ⟨none, (.st 11 (.t 4) (.t 21)), none, []⟩, ⟨(some 5), (.mv (.t 22)), none, []⟩]) .ret)))), 23, [(.ldn 11 4), (.tmp 5)], false, fun _ => none⟩
noncomputable def c65 : CFn := ⟨(.seq (.reg [⟨(some 3), (.box (.t 0)), none, []⟩, ⟨(some 4), (.box (.t 1)), none, []⟩, ⟨(some 6), (.mv (.c (.bool false))), none, []⟩]) (.seq (.reg [⟨(some 7), (.mv (.t 2)), none, []⟩, ⟨(some 8), (.mkf 94 [] [(.t 3), (.t 4)]), none, []⟩, ⟨(some 9), (.call (.c (.fn 93 [] [])) [(.t 7), (.t 8)]), none, []⟩, ⟨(some 10), (.un .not (.t 9)), none, []⟩, ⟨(some 6), (.mv (.t 10)), none, []⟩]) .ret)), 11, [(.tmp 6)], false, fun _ => none⟩
noncomputable def c66 : CFn := ⟨(.seq (.reg [⟨(some 1), (.box (.t 0)), none, []⟩, ⟨(some 2), (.new [.nils, .nils, .nils]), none, []⟩, ⟨(some 3), (.mv (.c (.int .i64 (0)))), none, []⟩]) (.seq (.reg [⟨(some 6), (.fa 0 (.t 1)), none, []⟩, ⟨(some 7), (.ld (.t 6)), none, []⟩, ⟨(some 8), (.len (.t 7)), none, []⟩, ⟨(some 4), (.new [(.int .i64 (0))]), none, []⟩, ⟨none, (.st 1 (.t 4) (.t 8)), none, []⟩]) (.seq (.reg [⟨(some 9), (.mkf 95 [] [(.t 4)]), none, []⟩, ⟨(some 5), (.mv (.t 9)), none, []⟩]) (.seq (.block 0 (.seq (.seq (.reg [⟨(some 11), (.ld (.t 4)), none, []⟩, ⟨(some 12), (.ar .gtr (.t 11) (.c (.int .i64 (5)))), none, []⟩, ⟨(some 10), (.mv (.t 12)), none, []⟩]) (.cond (.t 10) .skip (.reg [⟨(some 13), (.fa 2 (.t 1)), none, []⟩, ⟨(some 14), (.ld (.t 13)), none, []⟩, ⟨(some 15), (.len (.t 14)), none, []⟩, ⟨(some 16), (.ar .gtr (.t 15) (.c (.int .i64 (12)))), none, []⟩, ⟨(some 10), (.mv (.t 16)), none, []⟩]))) (.cond (.t 10) (.seq (.reg [⟨(some 17), (.ldn 3 (.t 2)), none, []⟩, ⟨none, (.st 3 (.t 2) (.t 17)), none, []⟩, ⟨(some 3), (.mv (.c (.int .i64 (5)))), none, []⟩]) .ret) (.seq (.seq (.reg [⟨(some 19), (.ld (.t 4)), none, []⟩, ⟨(some 20), (.ar .eql (.t 19) (.c (.int .i64 (0)))), none, []⟩, ⟨(some 18), (.mv (.t 20)), none, []⟩]) (.cond (.t 18) .skip (.seq (.reg [⟨(some 21), (.fa 1 (.t 1)), none, []⟩, ⟨(some 22), (.ld (.t 21)), none, []⟩, ⟨(some 23), (.len (.t 22)), none, []⟩, ⟨(some 24), (.ld (.t 4)), none, []⟩, ⟨(some 25), (.ar .neq (.t 23) (.t 24)), none, []⟩, ⟨(some 18), (.mv (.t 25)), none, []⟩]) (.cond (.t 18) .skip (.reg [⟨(some 26), (.fa 0 (.t 1)), none, []⟩, ⟨(some 27), (.ld (.t 26)), none, []⟩, ⟨(some 28), (.fa 1 (.t 1)), none, []⟩, ⟨(some 29), (.ld (.t 28)), none, []⟩, ⟨(some 30), (.bsl 1 2 [.nils] [(0, (.t 27)), (1, (.t 29))]), none, []⟩, ⟨(some 31), (.call (.c (.fn 96 [] [])) [(.t 30)]), none, []⟩, ⟨(some 32), (.call (.c (.fn 65 [] [])) [(.c (.int .i64 (-1000000000))), (.c (.int .i64 (1000000000))), (.t 31)]), none, []⟩, ⟨(some 33), (.un .not (.t 32)), none, []⟩, ⟨(some 18), (.mv (.t 33)), none, []⟩]))))) (.cond (.t 18) (.seq (.reg [⟨(some 34), (.ldn 3 (.t 2)), none, []⟩, ⟨none, (.st 3 (.t 2) (.t 34)), none, []⟩, ⟨(some 3), (.mv (.c (.int .i64 (4)))), none, []⟩]) .ret) (.seq (.reg [⟨(some 36), (.fa 2 (.t 1)), none, []⟩, ⟨(some 37), (.ld (.t 36)), none, []⟩, ⟨(some 38), (.mv (.t 5)), none, []⟩, ⟨(some 39), (.call (.c (.fn 97 [] [])) [(.t 37), (.t 38)]), none, []⟩, ⟨(some 35), (.mv (.t 39)), none, []⟩]) (.cond (.t 35) (.seq (.reg [⟨(some 40), (.ldn 3 (.t 2)), none, []⟩, ⟨none, (.st 3 (.t 2) (.t 40)), none, []⟩, ⟨(some 3), (.mv (.c (.int .i64 (2)))), none, []⟩]) .ret) .skip))))))) (.seq (.reg [⟨(some 41), (.ldn 3 (.t 1)), none, []⟩, ⟨(some 42), (.bld [.nils, .nils, .nils] [(0, (3, (.t 41)))]), none, []⟩, ⟨none, (.st 3 (.t 2) (.t 42)), none, []⟩, ⟨(some 3), (.mv (.c (.int .i64 (0)))), none, []⟩]) .ret))))), 43, [(.ldn 3 2), (.tmp 3)], false, fun _ => none⟩
noncomputable def c67 : CFn := ⟨(.seq (.reg [⟨(some 1), (.box (.t 0)), none, []⟩, ⟨(some 2), (.mv (.c (.bool false))), none, []⟩]) (.seq (.reg [⟨(some 3), (.fa 2 (.t 1)), none, []⟩, ⟨(some 4), (.ld (.t 3)), none, []⟩, ⟨(some 5), (.ar .eql (.t 4) (.c (.int .i64 (-1)))), none, []⟩, ⟨(some 2), (.mv (.t 5)), none, []⟩]) .ret)), 6, [(.tmp 2)], false, fun _ => none⟩
noncomputable def c68 : CFn := ⟨(.seq (.reg [⟨(some 4), (.mv (.c (.bool false))), none, []⟩]) (.seq (.reg [⟨(some 10), (.mv (.t 1)), none, []⟩, ⟨(some 11), (.call (.c (.fn 98 [] [])) [(.t 10)]), none, []⟩, ⟨(some 5), (.mv (.t 11)), none, []⟩]) (.seq (.seq (.reg [⟨(some 6), (.mv (.c (.int .i64 (1)))), none, []⟩]) (.block 0 (.loop 97 (.seq (.seq (.reg [⟨(some 12), (.mv (.t 6)), none, []⟩, ⟨(some 13), (.ar .gtr (.t 12) (.c (.int .i64 (0)))), none, []⟩]) (.cond (.t 13) .skip (.exit 0))) (.block 1 (.seq (.reg [⟨(some 6), (.mv (.c (.int .i64 (0)))), none, []⟩]) (.seq (.reg [⟨(some 14), (.mv (.t 5)), none, []⟩, ⟨(some 15), (.len (.t 14)), none, []⟩, ⟨(some 16), (.mv (.c (.int .i64 (0)))), none, []⟩]) (.block 2 (.loop 98401 (.seq (.reg [⟨(some 17), (.ar .lss (.t 16) (.t 15)), none, []⟩]) (.seq (.cond (.t 17) .skip (.exit 2)) (.seq (.block 3 (.seq (.reg [⟨(some 18), (.mv (.t 16)), none, []⟩, ⟨(some 7), (.mv (.t 18)), none, []⟩]) (.seq (.reg [⟨(some 19), (.mv (.t 5)), none, []⟩, ⟨(some 20), (.len (.t 19)), none, []⟩, ⟨(some 21), (.mv (.c (.int .i64 (0)))), none, []⟩]) (.block 4 (.loop 3244257 (.seq (.reg [⟨(some 22), (.ar .lss (.t 21) (.t 20)), none, []⟩]) (.seq (.cond (.t 22) .skip (.exit 4)) (.seq (.block 5 (.seq (.reg [⟨(some 23), (.mv (.t 21)), none, []⟩, ⟨(some 8), (.mv (.t 23)), none, []⟩]) (.seq (.reg [⟨(some 24), (.mv (.t 5)), none, []⟩, ⟨(some 25), (.mv (.t 7)), none, []⟩, ⟨(some 26), (.ias 1 (.t 24) (.t 25)), none, []⟩, ⟨(some 27), (.ld (.t 26)), none, []⟩, ⟨(some 28), (.ar .lss (.t 27) (.c (.int .i64 (0)))), none, []⟩, ⟨(some 29), (.mv (.t 28)), none, []⟩, ⟨(some 30), (.mv (.t 5)), (some (29, true)), []⟩, ⟨(some 31), (.mv (.t 8)), (some (29, true)), []⟩, ⟨(some 32), (.ias 1 (.t 30) (.t 31)), (some (29, true)), []⟩, ⟨(some 33), (.ld (.t 32)), (some (29, true)), []⟩, ⟨(some 34), (.ar .gtr (.t 33) (.c (.int .i64 (0)))), (some (29, true)), []⟩, ⟨(some 35), (.pick (.t 29) (.t 34) (.c (.bool false))), none, []⟩]) (.cond (.t 35) (.seq (.drw [⟨(some 36), (.mv (.t 0)), none, []⟩, ⟨(some 37), (.mv (.t 7)), none, [0]⟩, ⟨(some 38), (.mv (.t 8)), none, [0, 1]⟩, ⟨(some 39), (.mv (.t 5)), none, [0, 1, 2]⟩, ⟨(some 40), (.mv (.t 7)), none, [0, 1, 2, 3]⟩, ⟨(some 41), (.ias 1 (.t 39) (.t 40)), none, [0, 1, 2]⟩, ⟨(some 42), (.ld (.t 41)), none, [0, 1, 2]⟩, ⟨(some 43), (.un .neg (.t 42)), none, [0, 1, 2]⟩, ⟨(some 44), (.mv (.t 5)), none, [0, 1, 2, 3, 4, 5, 6, 7]⟩, ⟨(some 45), (.mv (.t 8)), none, [0, 1, 2, 3, 4, 5, 6, 7, 8]⟩, ⟨(some 46), (.ias 1 (.t 44) (.t 45)), none, [0, 1, 2, 3, 4, 5, 6, 7]⟩, ⟨(some 47), (.ld (.t 46)), none, [0, 1, 2, 3, 4, 5, 6, 7]⟩, ⟨(some 48), (.mn [(.t 43), (.t 47)]), none, [0, 1, 2]⟩, ⟨(some 49), (.call (.c (.fn 99 [] [])) [(.t 36), (.t 37), (.t 38), (.t 48), (.c (.int .i64 (-1)))]), none, []⟩, ⟨(some 9), (.mv (.t 49)), none, []⟩]) (.drw [⟨(some 50), (.mv (.t 5)), none, []⟩, ⟨(some 51), (.mv (.t 7)), none, [0]⟩, ⟨(some 52), (.mv (.t 5)), none, [0, 1]⟩, ⟨(some 53), (.mv (.t 8)), none, [0, 1, 2]⟩, ⟨(some 54), (.mv (.t 5)), none, [0, 1, 2, 3]⟩, ⟨(some 55), (.mv (.t 7)), none, [0, 1, 2, 3, 4]⟩, ⟨(some 56), (.ias 1 (.t 54) (.t 55)), none, [0, 1, 2, 3]⟩, ⟨(some 57), (.ld (.t 56)), none, [0, 1, 2, 3]⟩, ⟨(some 58), (.mv (.t 9)), none, [0, 1, 2, 3, 4, 5, 6, 7]⟩, ⟨(some 59), (.ar .add (.t 57) (.t 58)), none, [0, 1, 2, 3]⟩, ⟨(some 60), (.mv (.t 5)), none, [0, 1, 2, 3, 4, 5, 6, 7, 8, 9]⟩, ⟨(some 61), (.mv (.t 8)), none, [0, 1, 2, 3, 4, 5, 6, 7, 8, 9, 10]⟩, ⟨(some 62), (.ias 1 (.t 60) (.t 61)), none, [0, 1, 2, 3, 4, 5, 6, 7, 8, 9]⟩, ⟨(some 63), (.ld (.t 62)), none, [0, 1, 2, 3, 4, 5, 6, 7, 8, 9]⟩, ⟨(some 64), (.mv (.t 9)), none, [0, 1, 2, 3, 4, 5, 6, 7, 8, 9, 10, 11, 12, 13]⟩, ⟨(some 65), (.ar .sub (.t 63) (.t 64)), none, [0, 1, 2, 3, 4, 5, 6, 7, 8, 9]⟩, ⟨(some 66), (.mv (.t 6)), none, [0, 1, 2, 3, 4, 5, 6, 7, 8, 9, 10, 11, 12, 13, 14, 15]⟩, ⟨(some 67), (.mv (.t 9)), none, [0, 1, 2, 3, 4, 5, 6, 7, 8, 9, 10, 11, 12, 13, 14, 15, 16]⟩, ⟨(some 68), (.ar .add (.t 66) (.t 67)), none, [0, 1, 2, 3, 4, 5, 6, 7, 8, 9, 10, 11, 12, 13, 14, 15]⟩, ⟨(some 69), (.ias 1 (.t 50) (.t 51)), none, [2, 3, 14, 15, 16, 17, 18]⟩, ⟨none, (.st 1 (.t 69) (.t 59)), none, [2, 3, 14, 15, 16, 17, 18]⟩, ⟨(some 70), (.ias 1 (.t 52) (.t 53)), none, [16, 17, 18]⟩, ⟨none, (.st 1 (.t 70) (.t 65)), none, [16, 17, 18]⟩, ⟨(some 6), (.mv (.t 68)), none, []⟩])) .skip)))) (.reg [⟨(some 71), (.ar .add (.t 21) (.c (.int .i64 (1)))), none, []⟩, ⟨(some 21), (.mv (.t 71)), none, []⟩]))))))))) (.reg [⟨(some 72), (.ar .add (.t 16) (.c (.int .i64 (1)))), none, []⟩, ⟨(some 16), (.mv (.t 72)), none, []⟩]))))))))))))) (.seq (.reg [⟨(some 73), (.mv (.t 5)), none, []⟩, ⟨(some 74), (.call (.c (.fn 65 [] [])) [(.c (.int .i64 (0))), (.c (.int .i64 (0))), (.t 73)]), none, []⟩, ⟨(some 4), (.mv (.t 74)), none, []⟩]) .ret)))), 75, [(.tmp 4)], false, fun _ => none⟩
noncomputable def c69 : CFn := ⟨(.seq (.reg [⟨(some 1), (.box (.t 0)), none, []⟩, ⟨(some 2), (.mv (.c .nils)), none, []⟩]) (.seq (.reg [⟨(some 6), (.ldn 3 (.t 1)), none, []⟩, ⟨(some 7), (.call (.c (.fn 84 [] [])) [(.t 6)]), none, []⟩, ⟨(some 3), (.mv (.t 7)), none, []⟩]) (.seq (.seq (.reg [⟨(some 8), (.fa 0 (.t 1)), none, []⟩, ⟨(some 9), (.fa 1 (.t 8)), none, []⟩, ⟨(some 10), (.ld (.t 9)), none, []⟩, ⟨(some 11), (.len (.t 10)), none, []⟩, ⟨(some 12), (.mv (.c (.int .i64 (0)))), none, []⟩]) (.block 0 (.loop 7176 (.seq (.reg [⟨(some 13), (.ar .lss (.t 12) (.t 11)), none, []⟩]) (.seq (.cond (.t 13) .skip (.exit 0)) (.seq (.block 1 (.seq (.reg [⟨(some 14), (.mv (.t 12)), none, []⟩, ⟨(some 15), (.ias 1 (.t 10) (.t 12)), none, []⟩, ⟨(some 16), (.ld (.t 15)), none, []⟩, ⟨(some 4), (.mv (.t 14)), none, []⟩, ⟨(some 5), (.mv (.t 16)), none, []⟩]) (.reg [⟨(some 17), (.mv (.t 3)), none, []⟩, ⟨(some 18), (.mv (.t 4)), none, []⟩, ⟨(some 19), (.mv (.t 5)), none, []⟩, ⟨(some 20), (.mv (.t 3)), none, []⟩, ⟨(some 21), (.mv (.t 4)), none, []⟩, ⟨(some 22), (.ias 1 (.t 20) (.t 21)), none, []⟩, ⟨(some 23), (.ld (.t 22)), none, []⟩, ⟨(some 24), (.ar .sub (.t 19) (.t 23)), none, []⟩, ⟨(some 25), (.ias 1 (.t 17) (.t 18)), none, []⟩, ⟨none, (.st 1 (.t 25) (.t 24)), none, []⟩]))) (.reg [⟨(some 26), (.ar .add (.t 12) (.c (.int .i64 (1)))), none, []⟩, ⟨(some 12), (.mv (.t 26)), none, []⟩]))))))) (.seq (.reg [⟨(some 27), (.mv (.t 3)), none, []⟩, ⟨(some 2), (.mv (.t 27)), none, []⟩]) .ret)))), 28, [(.tmp 2)], false, fun _ => none⟩
noncomputable def c70 : CFn := ⟨(.seq (.reg [⟨(some 4), (.new [(.int .i64 (0)), (.int .i64 (0))]), none, []⟩]) (.seq (.reg [⟨(some 8), (.mv (.t 0)), none, []⟩, ⟨(some 9), (.mv (.t 1)), none, []⟩, ⟨(some 10), (.ias 3 (.t 8) (.t 9)), none, []⟩, ⟨(some 11), (.ldn 3 (.t 10)), none, []⟩, ⟨(some 5), (.new [(.int .i64 (0)), (.int .i64 (0)), (.int .i64 (0))]), none, []⟩, ⟨none, (.st 3 (.t 5) (.t 11)), none, []⟩]) (.seq (.drw [⟨(some 12), (.mv (.t 0)), none, []⟩, ⟨(some 13), (.call (.c (.fn 100 [] [])) [(.t 12)]), none, []⟩, ⟨(some 14), (.fa 0 (.t 5)), none, [0, 1]⟩, ⟨(some 15), (.ld (.t 14)), none, [0, 1]⟩, ⟨(some 16), (.fa 1 (.t 5)), none, [0, 1, 2, 3]⟩, ⟨(some 17), (.ld (.t 16)), none, [0, 1, 2, 3]⟩, ⟨(some 18), (.fa 2 (.t 5)), none, [0, 1, 2, 3, 4, 5]⟩, ⟨(some 19), (.ld (.t 18)), none, [0, 1, 2, 3, 4, 5]⟩, ⟨(some 20), (.mv (.t 1)), none, [0, 1, 2, 3, 4, 5, 6, 7]⟩, ⟨(some 21), (.call (.c (.fn 99 [] [])) [(.t 13), (.t 15), (.t 17), (.t 19), (.t 20)]), none, []⟩, ⟨(some 6), (.mv (.t 21)), none, []⟩]) (.seq (.drw [⟨(some 22), (.mv (.t 0)), none, []⟩, ⟨(some 23), (.call (.c (.fn 100 [] [])) [(.t 22)]), none, []⟩, ⟨(some 24), (.fa 1 (.t 5)), none, [0, 1]⟩, ⟨(some 25), (.ld (.t 24)), none, [0, 1]⟩, ⟨(some 26), (.fa 0 (.t 5)), none, [0, 1, 2, 3]⟩, ⟨(some 27), (.ld (.t 26)), none, [0, 1, 2, 3]⟩, ⟨(some 28), (.fa 2 (.t 5)), none, [0, 1, 2, 3, 4, 5]⟩, ⟨(some 29), (.ld (.t 28)), none, [0, 1, 2, 3, 4, 5]⟩, ⟨(some 30), (.ar .sub (.c (.int .i64 (1000000))) (.t 29)), none, [0, 1, 2, 3, 4, 5]⟩, ⟨(some 31), (.mv (.t 1)), none, [0, 1, 2, 3, 4, 5, 6, 7, 8]⟩, ⟨(some 32), (.call (.c (.fn 99 [] [])) [(.t 23), (.t 25), (.t 27), (.t 30), (.t 31)]), none, []⟩, ⟨(some 7), (.mv (.t 32)), none, []⟩]) (.seq (.reg [⟨(some 33), (.fa 2 (.t 5)), none, []⟩, ⟨(some 34), (.ld (.t 33)), none, []⟩, ⟨(some 35), (.mv (.t 6)), none, []⟩, ⟨(some 36), (.ar .sub (.t 34) (.t 35)), none, []⟩, ⟨(some 37), (.fa 2 (.t 5)), none, []⟩, ⟨(some 38), (.ld (.t 37)), none, []⟩, ⟨(some 39), (.mv (.t 7)), none, []⟩, ⟨(some 40), (.ar .add (.t 38) (.t 39)), none, []⟩, ⟨(some 41), (.bld [(.int .i64 (0)), (.int .i64 (0))] [(0, (1, (.t 36))), (1, (1, (.t 40)))]), none, []⟩, ⟨none, (.st 2 (.t 4) (.t 41)), none, []⟩]) .ret))))), 42, [(.ldn 2 4)], false, fun _ => none⟩
noncomputable def c74 : CFn := ⟨(.seq (.reg [⟨(some 1), (.box (.t 0)), none, []⟩, ⟨(some 2), (.new [.nils, .nils, .nils]), none, []⟩, ⟨(some 3), (.mv (.c (.int .i64 (0)))), none, []⟩]) (.seq (.reg [⟨(some 7), (.ldn 3 (.t 1)), none, []⟩, ⟨(some 8), (.call (.c (.fn 66 [] [])) [(.t 7)]), none, []⟩, ⟨(some 6), (.mv (.t 8)), none, []⟩, ⟨(some 9), (.ext 0 (.t 6)), none, []⟩, ⟨(some 10), (.ext 1 (.t 6)), none, []⟩, ⟨(some 4), (.new [.nils, .nils, .nils]), none, []⟩, ⟨none, (.st 3 (.t 4) (.t 9)), none, []⟩, ⟨(some 5), (.mv (.t 10)), none, []⟩]) (.seq (.seq (.reg [⟨(some 11), (.mv (.t 5)), none, []⟩, ⟨(some 12), (.ar .eql (.t 11) (.c (.int .i64 (0)))), none, []⟩, ⟨(some 13), (.mv (.t 12)), none, []⟩, ⟨(some 14), (.fa 2 (.t 1)), (some (13, true)), []⟩, ⟨(some 15), (.ld (.t 14)), (some (13, true)), []⟩, ⟨(some 16), (.call (.c (.fn 97 [] [])) [(.t 15), (.c (.fn 67 [] []))]), (some (13, true)), []⟩, ⟨(some 17), (.pick (.t 13) (.t 16) (.c (.bool false))), none, []⟩]) (.cond (.t 17) (.reg [⟨(some 5), (.mv (.c (.int .i64 (9)))), none, []⟩]) .skip)) (.seq (.reg [⟨(some 18), (.ldn 3 (.t 4)), none, []⟩, ⟨(some 19), (.mv (.t 5)), none, []⟩, ⟨none, (.st 3 (.t 2) (.t 18)), none, []⟩, ⟨(some 3), (.mv (.t 19)), none, []⟩]) .ret)))), 20, [(.ldn 3 2), (.tmp 3)], false, fun _ => none⟩
noncomputable def c75 : CFn := ⟨(.seq (.reg [⟨(some 3), (.box (.t 0)), none, []⟩, ⟨(some 4), (.box (.t 1)), none, []⟩, ⟨(some 5), (.box (.t 2)), none, []⟩, ⟨(some 6), (.mv (.c .nilf)), none, []⟩]) (.seq (.reg [⟨(some 7), (.mkf 101 [] [(.t 4), (.t 5), (.t 3)]), none, []⟩, ⟨(some 6), (.mv (.t 7)), none, []⟩]) .ret)), 8, [(.tmp 6)], false, fun _ => none⟩
noncomputable def c76 : CFn := ⟨(.seq (.reg [⟨(some 2), (.mv (.c .nils)), none, []⟩]) (.seq (.seq (.reg [⟨(some 3), (.mv (.t 0)), none, []⟩, ⟨(some 4), (.snil false (.t 3) (.c .nils)), none, []⟩]) (.cond (.t 4) (.seq (.reg [⟨(some 2), (.mv (.c .nils)), none, []⟩]) .ret) .skip)) (.seq (.reg [⟨(some 5), (.bsl 3 0 [(.int .i64 (0)), (.int .i64 (0)), (.int .i64 (0))] []), none, []⟩, ⟨(some 6), (.mv (.t 0)), none, []⟩, ⟨(some 7), (.app 3 (.t 5) (.t 6)), none, []⟩, ⟨(some 2), (.mv (.t 7)), none, []⟩]) .ret))), 8, [(.tmp 2)], false, fun _ => none⟩
noncomputable def c77 : CFn := ⟨(.seq (.reg [⟨(some 2), (.box (.t 0)), none, []⟩, ⟨(some 4), (.mv (.c (.bool false))), none, []⟩]) (.seq (.reg [⟨(some 5), (.mv (.t 1)), none, []⟩, ⟨(some 6), (.ar .sub (.t 5) (.c (.int .i64 (1)))), none, []⟩, ⟨(some 7), (.fa 0 (.t 2)), none, []⟩, ⟨(some 8), (.ld (.t 7)), none, []⟩, ⟨(some 9), (.fa 1 (.t 2)), none, []⟩, ⟨(some 10), (.ld (.t 9)), none, []⟩, ⟨(some 11), (.bsl 1 2 [(.int .i64 (0))] [(0, (.t 8)), (1, (.t 10))]), none, []⟩, ⟨(some 12), (.call (.c (.fn 65 [] [])) [(.c (.int .i64 (0))), (.t 6), (.t 11)]), none, []⟩, ⟨(some 13), (.mv (.t 12)), none, []⟩, ⟨(some 14), (.fa 0 (.t 2)), (some (13, true)), []⟩, ⟨(some 15), (.ld (.t 14)), (some (13, true)), []⟩, ⟨(some 16), (.fa 1 (.t 2)), (some (13, true)), []⟩, ⟨(some 17), (.ld (.t 16)), (some (13, true)), []⟩, ⟨(some 18), (.ar .neq (.t 15) (.t 17)), (some (13, true)), []⟩, ⟨(some 19), (.pick (.t 13) (.t 18) (.c (.bool false))), none, []⟩, ⟨(some 20), (.mv (.t 19)), none, []⟩, ⟨(some 21), (.fa 2 (.t 2)), (some (20, true)), []⟩, ⟨(some 22), (.ld (.t 21)), (some (20, true)), []⟩, ⟨(some 23), (.bsl 1 1 [(.int .i64 (0))] [(0, (.t 22))]), (some (20, true)), []⟩, ⟨(some 24), (.call (.c (.fn 65 [] [])) [(.c (.int .i64 (-1))), (.c (.int .i64 (1000000))), (.t 23)]), (some (20, true)), []⟩, ⟨(some 25), (.pick (.t 20) (.t 24) (.c (.bool false))), none, []⟩, ⟨(some 4), (.mv (.t 25)), none, []⟩]) .ret)), 26, [(.tmp 4)], false, fun _ => none⟩
noncomputable def c78 : CFn := ⟨(.seq (.reg [⟨(some 5), (.mv (.t 0)), none, []⟩, ⟨(some 6), (.len (.t 5)), none, []⟩, ⟨(some 4), (.mv (.t 6)), none, []⟩]) (.reg [⟨(some 7), (.mv (.t 0)), none, []⟩, ⟨(some 8), (.mv (.t 4)), none, []⟩, ⟨(some 9), (.mv (.t 4)), none, []⟩, ⟨(some 10), (.conv .u64 (.t 9)), none, []⟩, ⟨(some 11), (.call (.c (.fn 103 [] [])) [(.t 10)]), none, []⟩, ⟨(some 12), (.mv (.t 1)), none, []⟩, ⟨(some 13), (.call (.c (.fn 102 [] [])) [(.t 7), (.c (.int .i64 (0))), (.t 8), (.t 11), (.t 12)]), none, []⟩])), 14, [], false, fun _ => none⟩
noncomputable def c79 : CFn := ⟨(.seq (.reg [⟨(some 2), (.box (.t 0)), none, []⟩, ⟨(some 3), (.box (.t 1)), none, []⟩, ⟨(some 4), (.mv (.c (.int .i64 (0)))), none, []⟩]) (.seq (.reg [⟨(some 5), (.fa 0 (.t 2)), none, []⟩, ⟨(some 6), (.ld (.t 5)), none, []⟩, ⟨(some 7), (.fa 0 (.t 3)), none, []⟩, ⟨(some 8), (.ld (.t 7)), none, []⟩, ⟨(some 9), (.ar .sub (.t 6) (.t 8)), none, []⟩, ⟨(some 10), (.fa 1 (.t 2)), none, []⟩, ⟨(some 11), (.ld (.t 10)), none, []⟩, ⟨(some 12), (.fa 1 (.t 3)), none, []⟩, ⟨(some 13), (.ld (.t 12)), none, []⟩, ⟨(some 14), (.ar .sub (.t 11) (.t 13)), none, []⟩, ⟨(some 15), (.fa 2 (.t 2)), none, []⟩, ⟨(some 16), (.ld (.t 15)), none, []⟩, ⟨(some 17), (.fa 2 (.t 3)), none, []⟩, ⟨(some 18), (.ld (.t 17)), none, []⟩, ⟨(some 19), (.ar .sub (.t 16) (.t 18)), none, []⟩, ⟨(some 20), (.fa 3 (.t 2)), none, []⟩, ⟨(some 21), (.ld (.t 20)), none, []⟩, ⟨(some 22), (.fa 3 (.t 3)), none, []⟩, ⟨(some 23), (.ld (.t 22)), none, []⟩, ⟨(some 24), (.ar .sub (.t 21) (.t 23)), none, []⟩, ⟨(some 25), (.bsl 1 4 [(.int .i64 (0))] [(0, (.t 9)), (1, (.t 14)), (2, (.t 19)), (3, (.t 24))]), none, []⟩, ⟨(some 26), (.call (.c (.fn 80 [] [])) [(.t 25)]), none, []⟩, ⟨(some 4), (.mv (.t 26)), none, []⟩]) .ret)), 27, [(.tmp 4)], false, fun _ => none⟩
noncomputable def c80 : CFn := ⟨(.seq (.reg [⟨(some 2), (.mv (.c (.int .i64 (0)))), none, []⟩]) (.seq (.reg [⟨(some 3), (.mv (.c (.int .i64 (0)))), none, []⟩]) (.seq (.seq (.reg [⟨(some 6), (.mv (.t 0)), none, []⟩, ⟨(some 7), (.len (.t 6)), none, []⟩, ⟨(some 8), (.mv (.c (.int .i64 (0)))), none, []⟩]) (.block 0 (.loop 456 (.seq (.reg [⟨(some 9), (.ar .lss (.t 8) (.t 7)), none, []⟩]) (.seq (.cond (.t 9) .skip (.exit 0)) (.seq (.block 1 (.seq (.reg [⟨(some 10), (.ias 1 (.t 6) (.t 8)), none, []⟩, ⟨(some 11), (.ld (.t 10)), none, []⟩, ⟨(some 5), (.mv (.t 11)), none, []⟩]) (.seq (.reg [⟨(some 12), (.mv (.t 5)), none, []⟩, ⟨(some 13), (.mv (.t 3)), none, []⟩, ⟨(some 14), (.ar .neq (.t 12) (.t 13)), none, []⟩]) (.cond (.t 14) (.seq (.reg [⟨(some 15), (.mv (.t 5)), none, []⟩, ⟨(some 2), (.mv (.t 15)), none, []⟩]) .ret) .skip)))) (.reg [⟨(some 16), (.ar .add (.t 8) (.c (.int .i64 (1)))), none, []⟩, ⟨(some 8), (.mv (.t 16)), none, []⟩]))))))) (.seq (.reg [⟨(some 17), (.mv (.t 3)), none, []⟩, ⟨(some 2), (.mv (.t 17)), none, []⟩]) .ret)))), 18, [(.tmp 2)], false, fun _ => none⟩
noncomputable def c81 : CFn := ⟨(.seq (.reg [⟨(some 2), (.mv (.c .nils)), none, []⟩]) (.seq (.seq (.reg [⟨(some 6), (.mv (.t 0)), none, []⟩, ⟨(some 7), (.len (.t 6)), none, []⟩, ⟨(some 8), (.ar .lss (.t 7) (.c (.int .i64 (2)))), none, []⟩]) (.cond (.t 8) (.seq (.reg [⟨(some 9), (.mv (.t 0)), none, []⟩, ⟨(some 2), (.mv (.t 9)), none, []⟩]) .ret) .skip)) (.seq (.seq (.reg [⟨(some 3), (.mv (.c (.int .i64 (1)))), none, []⟩]) (.block 0 (.loop 9 (.seq (.seq (.reg [⟨(some 10), (.mv (.t 3)), none, []⟩, ⟨(some 11), (.mv (.t 0)), none, []⟩, ⟨(some 12), (.len (.t 11)), none, []⟩, ⟨(some 13), (.ar .lss (.t 10) (.t 12)), none, []⟩]) (.cond (.t 13) .skip (.exit 0))) (.seq (.block 1 (.seq (.drw [⟨(some 16), (.mv (.t 0)), none, []⟩, ⟨(some 17), (.mv (.t 3)), none, [0]⟩, ⟨(some 18), (.ias 4 (.t 16) (.t 17)), none, []⟩, ⟨(some 19), (.ldn 4 (.t 18)), none, []⟩, ⟨(some 20), (.mv (.t 0)), none, [0, 1, 2, 3]⟩, ⟨(some 21), (.mv (.t 3)), none, [0, 1, 2, 3, 4]⟩, ⟨(some 22), (.ar .sub (.t 21) (.c (.int .i64 (1)))), none, [0, 1, 2, 3, 4]⟩, ⟨(some 23), (.ias 4 (.t 20) (.t 22)), none, [0, 1, 2, 3]⟩, ⟨(some 24), (.ldn 4 (.t 23)), none, [0, 1, 2, 3]⟩, ⟨(some 25), (.eqv false 62 (.tmp 19) (.tmp 24) (.t 19) (.t 24)), none, []⟩]) (.cond (.t 25) (.seq (.reg [⟨(some 26), (.mv (.t 0)), none, []⟩, ⟨(some 27), (.mv (.t 3)), none, []⟩, ⟨(some 28), (.slc 4 (.t 26) (some (.t 27)) none none), none, []⟩, ⟨(some 4), (.mv (.t 28)), none, []⟩]) (.seq (.seq (.reg [⟨(some 5), (.mv (.c (.int .i64 (1)))), none, []⟩]) (.block 2 (.loop 57 (.seq (.seq (.reg [⟨(some 29), (.mv (.t 5)), none, []⟩, ⟨(some 30), (.mv (.t 4)), none, []⟩, ⟨(some 31), (.len (.t 30)), none, []⟩, ⟨(some 32), (.ar .lss (.t 29) (.t 31)), none, []⟩]) (.cond (.t 32) .skip (.exit 2))) (.seq (.block 3 (.seq (.drw [⟨(some 35), (.mv (.t 4)), none, []⟩, ⟨(some 36), (.mv (.t 5)), none, [0]⟩, ⟨(some 37), (.ias 4 (.t 35) (.t 36)), none, []⟩, ⟨(some 38), (.ldn 4 (.t 37)), none, []⟩, ⟨(some 39), (.mv (.t 4)), none, [0, 1, 2, 3]⟩, ⟨(some 40), (.mv (.t 5)), none, [0, 1, 2, 3, 4]⟩, ⟨(some 41), (.ar .sub (.t 40) (.c (.int .i64 (1)))), none, [0, 1, 2, 3, 4]⟩, ⟨(some 42), (.ias 4 (.t 39) (.t 41)), none, [0, 1, 2, 3]⟩, ⟨(some 43), (.ldn 4 (.t 42)), none, [0, 1, 2, 3]⟩, ⟨(some 44), (.eqv true 62 (.tmp 38) (.tmp 43) (.t 38) (.t 43)), none, []⟩]) (.cond (.t 44) (.seq (.reg [⟨(some 45), (.mv (.t 0)), none, []⟩, ⟨(some 46), (.mv (.t 3)), none, []⟩, ⟨(some 47), (.mv (.t 4)), none, []⟩, ⟨(some 48), (.mv (.t 5)), none, []⟩, ⟨(some 49), (.ias 4 (.t 47) (.t 48)), none, []⟩, ⟨(some 50), (.ldn 4 (.t 49)), none, []⟩, ⟨(some 51), (.ias 4 (.t 45) (.t 46)), none, []⟩, ⟨none, (.st 4 (.t 51) (.t 50)), none, []⟩]) (.reg [⟨(some 52), (.mv (.t 3)), none, []⟩, ⟨(some 53), (.ar .add (.t 52) (.c (.int .i64 (1)))), none, []⟩, ⟨(some 3), (.mv (.t 53)), none, []⟩])) .skip))) (.reg [⟨(some 33), (.mv (.t 5)), none, []⟩, ⟨(some 34), (.ar .add (.t 33) (.c (.int .i64 (1)))), none, []⟩, ⟨(some 5), (.mv (.t 34)), none, []⟩])))))) (.seq (.reg [⟨(some 54), (.mv (.t 0)), none, []⟩, ⟨(some 55), (.mv (.t 3)), none, []⟩, ⟨(some 56), (.slc 4 (.t 54) (some (.t 55)) none none), none, []⟩, ⟨none, (.ld (.c (.bool false))), none, []⟩]) (.seq (.reg [⟨(some 57), (.mv (.t 0)), none, []⟩, ⟨(some 58), (.mv (.t 3)), none, []⟩, ⟨(some 59), (.slc 4 (.t 57) none (some (.t 58)) none), none, []⟩, ⟨(some 2), (.mv (.t 59)), none, []⟩]) .ret)))) .skip))) (.reg [⟨(some 14), (.mv (.t 3)), none, []⟩, ⟨(some 15), (.ar .add (.t 14) (.c (.int .i64 (1)))), none, []⟩, ⟨(some 3), (.mv (.t 15)), none, []⟩])))))) (.seq (.reg [⟨(some 60), (.mv (.t 0)), none, []⟩, ⟨(some 2), (.mv (.t 60)), none, []⟩]) .ret)))), 61, [(.tmp 2)], false, fun _ => none⟩
noncomputable def c82 : CFn := ⟨(.seq (.reg [⟨(some 2), (.box (.t 0)), none, []⟩, ⟨(some 4), (.new [(.int .i64 (0)), (.int .i64 (0)), (.int .i64 (0)), (.int .i64 (0)), (.int .i64 (0))]), none, []⟩]) (.seq (.drw [⟨(some 5), (.mv (.t 1)), none, []⟩, ⟨(some 6), (.fa 0 (.t 2)), none, [0]⟩, ⟨(some 7), (.fa 0 (.t 6)), none, [0]⟩, ⟨(some 8), (.ld (.t 7)), none, [0]⟩, ⟨(some 9), (.ar .mul (.t 5) (.t 8)), none, []⟩, ⟨(some 10), (.fa 0 (.t 2)), none, [0, 1, 2, 3, 4]⟩, ⟨(some 11), (.fa 2 (.t 10)), none, [0, 1, 2, 3, 4]⟩, ⟨(some 12), (.ld (.t 11)), none, [0, 1, 2, 3, 4]⟩, ⟨(some 13), (.ar .add (.c (.int .i64 (1000))) (.t 12)), none, [0, 1, 2, 3, 4]⟩, ⟨(some 14), (.ar .mul (.t 9) (.t 13)), none, []⟩, ⟨(some 15), (.fa 0 (.t 2)), none, [0, 1, 2, 3, 4, 5, 6, 7, 8, 9]⟩, ⟨(some 16), (.fa 1 (.t 15)), none, [0, 1, 2, 3, 4, 5, 6, 7, 8, 9]⟩, ⟨(some 17), (.ld (.t 16)), none, [0, 1, 2, 3, 4, 5, 6, 7, 8, 9]⟩, ⟨(some 18), (.ar .mul (.t 14) (.t 17)), none, []⟩, ⟨(some 19), (.call (.c (.fn 89 [] [])) [(.t 18), (.c (.int .i64 (10000000000)))]), none, []⟩, ⟨(some 20), (.fa 0 (.t 2)), none, [0, 1, 2, 3, 4, 5, 6, 7, 8, 9, 10, 11, 12, 13, 14]⟩, ⟨(some 21), (.fa 3 (.t 20)), none, [0, 1, 2, 3, 4, 5, 6, 7, 8, 9, 10, 11, 12, 13, 14]⟩, ⟨(some 22), (.ld (.t 21)), none, [0, 1, 2, 3, 4, 5, 6, 7, 8, 9, 10, 11, 12, 13, 14]⟩, ⟨(some 23), (.fa 0 (.t 2)), none, [0, 1, 2, 3, 4, 5, 6, 7, 8, 9, 10, 11, 12, 13, 14, 15, 16, 17]⟩, ⟨(some 24), (.fa 4 (.t 23)), none, [0, 1, 2, 3, 4, 5, 6, 7, 8, 9, 10, 11, 12, 13, 14, 15, 16, 17]⟩, ⟨(some 25), (.ld (.t 24)), none, [0, 1, 2, 3, 4, 5, 6, 7, 8, 9, 10, 11, 12, 13, 14, 15, 16, 17]⟩, ⟨(some 26), (.mv (.t 1)), none, [0, 1, 2, 3, 4, 5, 6, 7, 8, 9, 10, 11, 12, 13, 14, 15, 16, 17, 18, 19, 20]⟩, ⟨(some 27), (.fa 0 (.t 2)), none, [0, 1, 2, 3, 4, 5, 6, 7, 8, 9, 10, 11, 12, 13, 14, 15, 16, 17, 18, 19, 20, 21]⟩, ⟨(some 28), (.fa 5 (.t 27)), none, [0, 1, 2, 3, 4, 5, 6, 7, 8, 9, 10, 11, 12, 13, 14, 15, 16, 17, 18, 19, 20, 21]⟩, ⟨(some 29), (.ld (.t 28)), none, [0, 1, 2, 3, 4, 5, 6, 7, 8, 9, 10, 11, 12, 13, 14, 15, 16, 17, 18, 19, 20, 21]⟩, ⟨(some 30), (.call (.c (.fn 89 [] [])) [(.t 26), (.t 29)]), none, [15, 16, 17, 18, 19, 20]⟩, ⟨(some 31), (.ar .mul (.t 25) (.t 30)), none, [15, 16, 17]⟩, ⟨(some 32), (.fa 0 (.t 2)), none, [0, 1, 2, 3, 4, 5, 6, 7, 8, 9, 10, 11, 12, 13, 14, 15, 16, 17, 18, 19, 20, 21, 22, 23, 24, 25, 26]⟩, ⟨(some 33), (.fa 6 (.t 32)), none, [0, 1, 2, 3, 4, 5, 6, 7, 8, 9, 10, 11, 12, 13, 14, 15, 16, 17, 18, 19, 20, 21, 22, 23, 24, 25, 26]⟩, ⟨(some 34), (.ld (.t 33)), none, [0, 1, 2, 3, 4, 5, 6, 7, 8, 9, 10, 11, 12, 13, 14, 15, 16, 17, 18, 19, 20, 21, 22, 23, 24, 25, 26]⟩, ⟨(some 35), (.mv (.t 1)), none, [0, 1, 2, 3, 4, 5, 6, 7, 8, 9, 10, 11, 12, 13, 14, 15, 16, 17, 18, 19, 20, 21, 22, 23, 24, 25, 26, 27, 28, 29]⟩, ⟨(some 36), (.ar .mul (.t 34) (.t 35)), none, [0, 1, 2, 3, 4, 5, 6, 7, 8, 9, 10, 11, 12, 13, 14, 15, 16, 17, 18, 19, 20, 21, 22, 23, 24, 25, 26]⟩, ⟨(some 37), (.call (.c (.fn 89 [] [])) [(.t 36), (.c (.int .i64 (1000)))]), none, [15, 16, 17, 18, 19, 20, 26]⟩, ⟨(some 38), (.fa 0 (.t 2)), none, [0, 1, 2, 3, 4, 5, 6, 7, 8, 9, 10, 11, 12, 13, 14, 15, 16, 17, 18, 19, 20, 21, 22, 23, 24, 25, 26, 27, 28, 29, 30, 31, 32]⟩, ⟨(some 39), (.fa 8 (.t 38)), none, [0, 1, 2, 3, 4, 5, 6, 7, 8, 9, 10, 11, 12, 13, 14, 15, 16, 17, 18, 19, 20, 21, 22, 23, 24, 25, 26, 27, 28, 29, 30, 31, 32]⟩, ⟨(some 40), (.ld (.t 39)), none, [0, 1, 2, 3, 4, 5, 6, 7, 8, 9, 10, 11, 12, 13, 14, 15, 16, 17, 18, 19, 20, 21, 22, 23, 24, 25, 26, 27, 28, 29, 30, 31, 32]⟩, ⟨(some 41), (.mv (.t 1)), none, [0, 1, 2, 3, 4, 5, 6, 7, 8, 9, 10, 11, 12, 13, 14, 15, 16, 17, 18, 19, 20, 21, 22, 23, 24, 25, 26, 27, 28, 29, 30, 31, 32, 33, 34, 35]⟩, ⟨(some 42), (.fa 0 (.t 2)), none, [0, 1, 2, 3, 4, 5, 6, 7, 8, 9, 10, 11, 12, 13, 14, 15, 16, 17, 18, 19, 20, 21, 22, 23, 24, 25, 26, 27, 28, 29, 30, 31, 32, 33, 34, 35, 36]⟩, ⟨(some 43), (.fa 7 (.t 42)), none, [0, 1, 2, 3, 4, 5, 6, 7, 8, 9, 10, 11, 12, 13, 14, 15, 16, 17, 18, 19, 20, 21, 22, 23, 24, 25, 26, 27, 28, 29, 30, 31, 32, 33, 34, 35, 36]⟩, ⟨(some 44), (.ld (.t 43)), none, [0, 1, 2, 3, 4, 5, 6, 7, 8, 9, 10, 11, 12, 13, 14, 15, 16, 17, 18, 19, 20, 21, 22, 23, 24, 25, 26, 27, 28, 29, 30, 31, 32, 33, 34, 35, 36]⟩, ⟨(some 45), (.call (.c (.fn 89 [] [])) [(.t 41), (.t 44)]), none, [15, 16, 17, 18, 19, 20, 26, 33, 34, 35]⟩, ⟨(some 46), (.ar .mul (.t 40) (.t 45)), none, [15, 16, 17, 18, 19, 20, 26]⟩, ⟨(some 47), (.bld [(.int .i64 (0)), (.int .i64 (0)), (.int .i64 (0)), (.int .i64 (0)), (.int .i64 (0))] [(0, (1, (.t 19))), (1, (1, (.t 22))), (2, (1, (.t 31))), (3, (1, (.t 37))), (4, (1, (.t 46)))]), none, []⟩, ⟨none, (.st 5 (.t 4) (.t 47)), none, []⟩]) .ret)), 48, [(.ldn 5 4)], false, fun _ => none⟩
noncomputable def c83 : CFn := ⟨(.seq (.reg [⟨(some 4), (.mv (.c (.int .i64 (0)))), none, []⟩]) (.seq (.block 0 (.loop 3 (.seq (.seq (.reg [⟨(some 5), (.mv (.t 1)), none, []⟩, ⟨(some 6), (.ar .gtr (.t 5) (.c (.int .i64 (0)))), none, []⟩]) (.cond (.t 6) .skip (.exit 0))) (.block 1 (.drw [⟨(some 7), (.mv (.t 1)), none, []⟩, ⟨(some 8), (.mv (.t 0)), none, [0]⟩, ⟨(some 9), (.mv (.t 1)), none, [0, 1]⟩, ⟨(some 10), (.ar .rem (.t 8) (.t 9)), none, [0]⟩, ⟨(some 0), (.mv (.t 7)), none, [2, 3]⟩, ⟨(some 1), (.mv (.t 10)), none, []⟩]))))) (.seq (.reg [⟨(some 11), (.mv (.t 0)), none, []⟩, ⟨(some 4), (.mv (.t 11)), none, []⟩]) .ret))), 12, [(.tmp 4)], false, fun _ => none⟩
noncomputable def c84 : CFn := ⟨(.seq (.reg [⟨(some 1), (.box (.t 0)), none, []⟩, ⟨(some 2), (.mv (.c .nils)), none, []⟩]) (.seq (.reg [⟨(some 6), (.fa 0 (.t 1)), none, []⟩, ⟨(some 7), (.fa 0 (.t 6)), none, []⟩, ⟨(some 8), (.ld (.t 7)), none, []⟩, ⟨(some 9), (.call (.c (.fn 98 [] [])) [(.t 8)]), none, []⟩, ⟨(some 3), (.mv (.t 9)), none, []⟩]) (.seq (.seq (.reg [⟨(some 10), (.fa 0 (.t 1)), none, []⟩, ⟨(some 11), (.fa 2 (.t 10)), none, []⟩, ⟨(some 12), (.ld (.t 11)), none, []⟩, ⟨(some 13), (.len (.t 12)), none, []⟩, ⟨(some 14), (.mv (.c (.int .i64 (0)))), none, []⟩]) (.block 0 (.loop 28680 (.seq (.reg [⟨(some 15), (.ar .lss (.t 14) (.t 13)), none, []⟩]) (.seq (.cond (.t 15) .skip (.exit 0)) (.seq (.block 1 (.seq (.reg [⟨(some 16), (.ias 3 (.t 12) (.t 14)), none, []⟩, ⟨(some 17), (.ldn 3 (.t 16)), none, []⟩, ⟨(some 5), (.new [(.int .i64 (0)), (.int .i64 (0)), (.int .i64 (0))]), none, []⟩, ⟨none, (.st 3 (.t 5) (.t 17)), none, []⟩]) (.seq (.reg [⟨(some 18), (.ldn 3 (.t 5)), none, []⟩, ⟨(some 19), (.call (.c (.fn 67 [] [])) [(.t 18)]), none, []⟩, ⟨(some 20), (.un .not (.t 19)), none, []⟩]) (.cond (.t 20) (.seq (.drw [⟨(some 21), (.mv (.t 3)), none, []⟩, ⟨(some 22), (.fa 0 (.t 5)), none, [0]⟩, ⟨(some 23), (.ld (.t 22)), none, [0]⟩, ⟨(some 24), (.ias 1 (.t 21) (.t 23)), none, []⟩, ⟨(some 25), (.ld (.t 24)), none, []⟩, ⟨(some 26), (.fa 2 (.t 5)), none, [0, 1, 2, 3, 4]⟩, ⟨(some 27), (.ld (.t 26)), none, [0, 1, 2, 3, 4]⟩, ⟨(some 28), (.ar .sub (.t 25) (.t 27)), none, []⟩, ⟨(some 29), (.ias 1 (.t 21) (.t 23)), none, []⟩, ⟨none, (.st 1 (.t 29) (.t 28)), none, []⟩]) (.drw [⟨(some 30), (.mv (.t 3)), none, []⟩, ⟨(some 31), (.fa 1 (.t 5)), none, [0]⟩, ⟨(some 32), (.ld (.t 31)), none, [0]⟩, ⟨(some 33), (.ias 1 (.t 30) (.t 32)), none, []⟩, ⟨(some 34), (.ld (.t 33)), none, []⟩, ⟨(some 35), (.fa 2 (.t 5)), none, [0, 1, 2, 3, 4]⟩, ⟨(some 36), (.ld (.t 35)), none, [0, 1, 2, 3, 4]⟩, ⟨(some 37), (.ar .add (.t 34) (.t 36)), none, []⟩, ⟨(some 38), (.ias 1 (.t 30) (.t 32)), none, []⟩, ⟨none, (.st 1 (.t 38) (.t 37)), none, []⟩])) .skip)))) (.reg [⟨(some 39), (.ar .add (.t 14) (.c (.int .i64 (1)))), none, []⟩, ⟨(some 14), (.mv (.t 39)), none, []⟩]))))))) (.seq (.reg [⟨(some 40), (.mv (.t 3)), none, []⟩, ⟨(some 2), (.mv (.t 40)), none, []⟩]) .ret)))), 41, [(.tmp 2)], false, fun _ => none⟩
noncomputable def c85 : CFn := ⟨(.seq (.reg [⟨(some 1), (.box (.t 0)), none, []⟩, ⟨(some 2), (.mv (.c (.bool false))), none, []⟩]) (.seq (.reg [⟨(some 3), (.fa 0 (.t 1)), none, []⟩, ⟨(some 4), (.ld (.t 3)), none, []⟩, ⟨(some 5), (.bsl 1 1 [(.int .i64 (0))] [(0, (.t 4))]), none, []⟩, ⟨(some 6), (.call (.c (.fn 58 [] [])) [(.t 5)]), none, []⟩, ⟨(some 7), (.un .not (.t 6)), none, []⟩, ⟨(some 8), (.mv (.t 7)), none, []⟩, ⟨(some 9), (.fa 1 (.t 1)), (some (8, false)), []⟩, ⟨(some 10), (.ld (.t 9)), (some (8, false)), []⟩, ⟨(some 11), (.bsl 1 1 [(.int .i64 (0))] [(0, (.t 10))]), (some (8, false)), []⟩, ⟨(some 12), (.call (.c (.fn 65 [] [])) [(.c (.int .i64 (0))), (.c (.int .i64 (900))), (.t 11)]), (some (8, false)), []⟩, ⟨(some 13), (.un .not (.t 12)), (some (8, false)), []⟩, ⟨(some 14), (.pick (.t 8) (.c (.bool true)) (.t 13)), none, []⟩, ⟨(some 2), (.mv (.t 14)), none, []⟩]) .ret)), 15, [(.tmp 2)], false, fun _ => none⟩
noncomputable def c86 : CFn := ⟨(.seq (.reg [⟨(some 4), (.mv (.c (.bool false))), none, []⟩]) (.seq (.seq (.reg [⟨(some 6), (.mv (.t 0)), none, []⟩, ⟨(some 7), (.len (.t 6)), none, []⟩, ⟨(some 8), (.ar .sub (.t 7) (.c (.int .i64 (1)))), none, []⟩, ⟨(some 5), (.mv (.t 8)), none, []⟩]) (.block 0 (.loop 35 (.seq (.seq (.reg [⟨(some 9), (.mv (.t 5)), none, []⟩, ⟨(some 10), (.ar .gtr (.t 9) (.c (.int .i64 (0)))), none, []⟩]) (.cond (.t 10) .skip (.exit 0))) (.seq (.block 1 (.seq (.drw [⟨(some 13), (.mv (.t 1)), none, []⟩, ⟨(some 14), (.mv (.t 0)), none, [0]⟩, ⟨(some 15), (.mv (.t 5)), none, [0, 1]⟩, ⟨(some 16), (.ias 2 (.t 14) (.t 15)), none, [0]⟩, ⟨(some 17), (.ldn 2 (.t 16)), none, [0]⟩, ⟨(some 18), (.mv (.t 0)), none, [0, 1, 2, 3, 4]⟩, ⟨(some 19), (.mv (.t 5)), none, [0, 1, 2, 3, 4, 5]⟩, ⟨(some 20), (.ar .sub (.t 19) (.c (.int .i64 (1)))), none, [0, 1, 2, 3, 4, 5]⟩, ⟨(some 21), (.ias 2 (.t 18) (.t 20)), none, [0, 1, 2, 3, 4]⟩, ⟨(some 22), (.ldn 2 (.t 21)), none, [0, 1, 2, 3, 4]⟩, ⟨(some 23), (.call (.t 13) [(.t 17), (.t 22)]), none, []⟩, ⟨(some 24), (.ar .lss (.t 23) (.c (.int .i64 (0)))), none, []⟩]) (.cond (.t 24) (.seq (.reg [⟨(some 4), (.mv (.c (.bool false))), none, []⟩]) .ret) .skip))) (.reg [⟨(some 11), (.mv (.t 5)), none, []⟩, ⟨(some 12), (.ar .sub (.t 11) (.c (.int .i64 (1)))), none, []⟩, ⟨(some 5), (.mv (.t 12)), none, []⟩])))))) (.seq (.reg [⟨(some 4), (.mv (.c (.bool true))), none, []⟩]) .ret))), 25, [(.tmp 4)], false, fun _ => none⟩
noncomputable def c87 : CFn := ⟨(.seq (.reg [⟨(some 2), (.box (.t 0)), none, []⟩, ⟨(some 3), (.box (.t 1)), none, []⟩, ⟨(some 4), (.mv (.c (.int .i64 (0)))), none, []⟩]) (.seq (.seq (.reg [⟨(some 5), (.fa 0 (.t 2)), none, []⟩, ⟨(some 6), (.ld (.t 5)), none, []⟩, ⟨(some 7), (.fa 0 (.t 3)), none, []⟩, ⟨(some 8), (.ld (.t 7)), none, []⟩, ⟨(some 9), (.ar .leq (.t 6) (.t 8)), none, []⟩]) (.cond (.t 9) (.seq (.reg [⟨(some 4), (.mv (.c (.int .i64 (-1)))), none, []⟩]) .ret) .skip)) (.seq (.reg [⟨(some 4), (.mv (.c (.int .i64 (1)))), none, []⟩]) .ret))), 10, [(.tmp 4)], false, fun _ => none⟩
noncomputable def c88 : CFn := ⟨(.seq (.reg [⟨(some 4), (.mv (.c (.bool false))), none, []⟩]) (.seq (.reg [⟨(some 5), (.mv (.t 0)), none, []⟩, ⟨(some 6), (.mv (.t 1)), none, []⟩, ⟨(some 7), (.call (.c (.fn 104 [] [])) [(.t 5), (.t 6)]), none, []⟩, ⟨(some 8), (.ar .geq (.t 7) (.c (.int .i64 (0)))), none, []⟩, ⟨(some 4), (.mv (.t 8)), none, []⟩]) .ret)), 9, [(.tmp 4)], false, fun _ => none⟩
noncomputable def c89 : CFn := ⟨(.seq (.reg [⟨(some 4), (.mv (.c (.int .i64 (0)))), none, []⟩]) (.seq (.reg [⟨(some 5), (.mv (.t 0)), none, []⟩, ⟨(some 6), (.mv (.t 1)), none, []⟩, ⟨(some 7), (.ar .add (.t 5) (.t 6)), none, []⟩, ⟨(some 8), (.ar .sub (.t 7) (.c (.int .i64 (1)))), none, []⟩, ⟨(some 9), (.mv (.t 1)), none, []⟩, ⟨(some 10), (.ar .quo (.t 8) (.t 9)), none, []⟩, ⟨(some 4), (.mv (.t 10)), none, []⟩]) .ret)), 11, [(.tmp 4)], false, fun _ => none⟩
noncomputable def c90 : CFn := ⟨(.seq (.reg [⟨(some 1), (.box (.t 0)), none, []⟩, ⟨(some 2), (.mv (.c (.int .i64 (0)))), none, []⟩]) (.seq (.reg [⟨(some 3), (.fa 0 (.t 1)), none, []⟩, ⟨(some 4), (.ld (.t 3)), none, []⟩, ⟨(some 5), (.fa 1 (.t 1)), none, []⟩, ⟨(some 6), (.ld (.t 5)), none, []⟩, ⟨(some 7), (.ar .add (.t 4) (.t 6)), none, []⟩, ⟨(some 8), (.fa 2 (.t 1)), none, []⟩, ⟨(some 9), (.ld (.t 8)), none, []⟩, ⟨(some 10), (.ar .add (.t 7) (.t 9)), none, []⟩, ⟨(some 11), (.fa 3 (.t 1)), none, []⟩, ⟨(some 12), (.ld (.t 11)), none, []⟩, ⟨(some 13), (.ar .add (.t 10) (.t 12)), none, []⟩, ⟨(some 14), (.fa 4 (.t 1)), none, []⟩, ⟨(some 15), (.ld (.t 14)), none, []⟩, ⟨(some 16), (.ar .add (.t 13) (.t 15)), none, []⟩, ⟨(some 2), (.mv (.t 16)), none, []⟩]) .ret)), 17, [(.tmp 2)], false, fun _ => none⟩
noncomputable def c91 : CFn := ⟨(.seq (.reg [⟨(some 2), (.box (.t 0)), none, []⟩, ⟨(some 4), (.mv (.c (.int .i64 (0)))), none, []⟩]) (.seq (.seq (.reg [⟨(some 7), (.fa 0 (.t 2)), none, []⟩, ⟨(some 8), (.fa 10 (.t 7)), none, []⟩, ⟨(some 9), (.ld (.t 8)), none, []⟩, ⟨(some 10), (.len (.t 9)), none, []⟩, ⟨(some 11), (.mv (.c (.int .i64 (0)))), none, []⟩]) (.block 0 (.loop 3602 (.seq (.reg [⟨(some 12), (.ar .lss (.t 11) (.t 10)), none, []⟩]) (.seq (.cond (.t 12) .skip (.exit 0)) (.seq (.block 1 (.seq (.reg [⟨(some 13), (.ias 2 (.t 9) (.t 11)), none, []⟩, ⟨(some 14), (.ldn 2 (.t 13)), none, []⟩, ⟨(some 6), (.new [(.int .i64 (0)), (.int .i64 (0))]), none, []⟩, ⟨none, (.st 2 (.t 6) (.t 14)), none, []⟩]) (.seq (.reg [⟨(some 15), (.fa 0 (.t 6)), none, []⟩, ⟨(some 16), (.ld (.t 15)), none, []⟩, ⟨(some 17), (.mv (.t 1)), none, []⟩, ⟨(some 18), (.ar .leq (.t 16) (.t 17)), none, []⟩]) (.cond (.t 18) (.reg [⟨(some 19), (.fa 1 (.t 6)), none, []⟩, ⟨(some 20), (.ld (.t 19)), none, []⟩, ⟨(some 4), (.mv (.t 20)), none, []⟩]) .skip)))) (.reg [⟨(some 21), (.ar .add (.t 11) (.c (.int .i64 (1)))), none, []⟩, ⟨(some 11), (.mv (.t 21)), none, []⟩]))))))) (.seq (.reg [⟨(some 22), (.mv (.t 4)), none, []⟩, ⟨(some 4), (.mv (.t 22)), none, []⟩]) .ret))), 23, [(.tmp 4)], false, fun _ => none⟩
noncomputable def c92 : CFn := ⟨(.seq (.reg [⟨(some 2), (.box (.t 0)), none, []⟩, ⟨(some 3), (.box (.t 1)), none, []⟩]) (.seq (.reg [⟨(some 4), (.new [(.int .i64 (0))]), none, []⟩, ⟨none, (.st 1 (.t 4) (.c (.int .i64 (100000)))), none, []⟩]) (.seq (.seq (.reg [⟨(some 7), (.fa 0 (.t 2)), none, []⟩, ⟨(some 8), (.fa 10 (.t 7)), none, []⟩, ⟨(some 9), (.ld (.t 8)), none, []⟩, ⟨(some 10), (.call (.c (.fn 105 [] [])) [(.t 9)]), none, []⟩]) (.block 0 (.rf (.t 10) [11, 12] (.reg [⟨(some 6), (.new [(.int .i64 (0)), (.int .i64 (0))]), none, []⟩, ⟨none, (.st 2 (.t 6) (.t 12)), none, []⟩]) (.block 1 (.seq (.seq (.reg [⟨(some 13), (.ld (.t 3)), none, []⟩, ⟨(some 14), (.fa 0 (.t 6)), none, []⟩, ⟨(some 15), (.ld (.t 14)), none, []⟩, ⟨(some 16), (.ld (.t 4)), none, []⟩, ⟨(some 17), (.bld [(.int .i64 (0)), (.int .i64 (0))] [(0, (1, (.t 15))), (1, (1, (.t 16)))]), none, []⟩, ⟨(some 18), (.call (.t 13) [(.t 17)]), none, []⟩, ⟨(some 19), (.un .not (.t 18)), none, []⟩]) (.cond (.t 19) .ret .skip)) (.reg [⟨(some 20), (.fa 0 (.t 6)), none, []⟩, ⟨(some 21), (.ld (.t 20)), none, []⟩, ⟨(some 22), (.ar .sub (.t 21) (.c (.int .i64 (1)))), none, []⟩, ⟨none, (.st 1 (.t 4) (.t 22)), none, []⟩])))))) (.seq (.reg [⟨(some 23), (.ld (.t 4)), none, []⟩, ⟨(some 24), (.ar .gtr (.t 23) (.c (.int .i64 (0)))), none, []⟩]) (.cond (.t 24) (.reg [⟨(some 25), (.ld (.t 3)), none, []⟩, ⟨(some 26), (.ld (.t 4)), none, []⟩, ⟨(some 27), (.bld [(.int .i64 (0)), (.int .i64 (0))] [(0, (1, (.c (.int .i64 (1))))), (1, (1, (.t 26)))]), none, []⟩, ⟨(some 28), (.call (.t 25) [(.t 27)]), none, []⟩]) .skip))))), 29, [], false, fun _ => none⟩
noncomputable def c93 : CFn := ⟨(.seq (.reg [⟨(some 4), (.mv (.c (.bool false))), none, []⟩]) (.seq (.reg [⟨(some 5), (.mv (.t 0)), none, []⟩, ⟨(some 6), (.mv (.t 1)), none, []⟩, ⟨(some 7), (.call (.c (.fn 106 [] [])) [(.t 5), (.t 6)]), none, []⟩, ⟨(some 8), (.ar .geq (.t 7) (.c (.int .i64 (0)))), none, []⟩, ⟨(some 4), (.mv (.t 8)), none, []⟩]) .ret)), 9, [(.tmp 4)], false, fun _ => none⟩
noncomputable def c94 : CFn := ⟨(.seq (.reg [⟨(some 4), (.mv (.c (.bool false))), none, []⟩]) (.seq (.reg [⟨(some 5), (.mv (.t 0)), none, []⟩, ⟨(some 6), (.ld (.t 1)), none, []⟩, ⟨(some 7), (.ar .lss (.t 5) (.t 6)), none, []⟩, ⟨(some 8), (.mv (.t 7)), none, []⟩, ⟨(some 9), (.mv (.t 0)), (some (8, false)), []⟩, ⟨(some 10), (.ld (.t 2)), (some (8, false)), []⟩, ⟨(some 11), (.ar .gtr (.t 9) (.t 10)), (some (8, false)), []⟩, ⟨(some 12), (.pick (.t 8) (.c (.bool true)) (.t 11)), none, []⟩, ⟨(some 4), (.mv (.t 12)), none, []⟩]) .ret)), 13, [(.tmp 4)], false, fun _ => none⟩
noncomputable def c95 : CFn := ⟨(.seq (.reg [⟨(some 2), (.box (.t 0)), none, []⟩, ⟨(some 3), (.mv (.c (.bool false))), none, []⟩]) (.seq (.reg [⟨(some 4), (.ldn 3 (.t 2)), none, []⟩, ⟨(some 5), (.ld (.t 1)), none, []⟩, ⟨(some 6), (.call (.c (.fn 77 [] [])) [(.t 4), (.t 5)]), none, []⟩, ⟨(some 7), (.un .not (.t 6)), none, []⟩, ⟨(some 3), (.mv (.t 7)), none, []⟩]) .ret)), 8, [(.tmp 3)], false, fun _ => none⟩
noncomputable def c96 : CFn := ⟨(.seq (.reg [⟨(some 2), (.mv (.c .nils)), none, []⟩]) (.seq (.reg [⟨(some 3), (.mv (.c (.int .i64 (0)))), none, []⟩]) (.seq (.seq (.reg [⟨(some 9), (.mv (.t 0)), none, []⟩, ⟨(some 10), (.len (.t 9)), none, []⟩, ⟨(some 11), (.mv (.c (.int .i64 (0)))), none, []⟩]) (.block 0 (.loop 3593 (.seq (.reg [⟨(some 12), (.ar .lss (.t 11) (.t 10)), none, []⟩]) (.seq (.cond (.t 12) .skip (.exit 0)) (.seq (.block 1 (.seq (.reg [⟨(some 13), (.ias 1 (.t 9) (.t 11)), none, []⟩, ⟨(some 14), (.ld (.t 13)), none, []⟩, ⟨(some 5), (.mv (.t 14)), none, []⟩]) (.seq (.reg [⟨(some 15), (.mv (.t 3)), none, []⟩, ⟨(some 16), (.mv (.t 5)), none, []⟩, ⟨(some 17), (.len (.t 16)), none, []⟩, ⟨(some 18), (.ar .add (.t 15) (.t 17)), none, []⟩, ⟨(some 3), (.mv (.t 18)), none, []⟩]) (.seq (.reg [⟨(some 19), (.mv (.t 3)), none, []⟩, ⟨(some 20), (.ar .lss (.t 19) (.c (.int .i64 (0)))), none, []⟩]) (.cond (.t 20) (.reg [⟨(some 21), (.ld (.c (.bool false))), none, []⟩, ⟨none, (.ld (.c (.bool false))), none, []⟩]) .skip))))) (.reg [⟨(some 22), (.ar .add (.t 11) (.c (.int .i64 (1)))), none, []⟩, ⟨(some 11), (.mv (.t 22)), none, []⟩]))))))) (.seq (.reg [⟨(some 23), (.mv (.t 3)), none, []⟩, ⟨(some 24), (.call (.c (.fn 107 [] [])) [(.c .nils), (.t 23)]), none, []⟩, ⟨(some 6), (.mv (.t 24)), none, []⟩]) (.seq (.seq (.reg [⟨(some 25), (.mv (.t 0)), none, []⟩, ⟨(some 26), (.len (.t 25)), none, []⟩, ⟨(some 27), (.mv (.c (.int .i64 (0)))), none, []⟩]) (.block 2 (.loop 234881088 (.seq (.reg [⟨(some 28), (.ar .lss (.t 27) (.t 26)), none, []⟩]) (.seq (.cond (.t 28) .skip (.exit 2)) (.seq (.block 3 (.seq (.reg [⟨(some 29), (.ias 1 (.t 25) (.t 27)), none, []⟩, ⟨(some 30), (.ld (.t 29)), none, []⟩, ⟨(some 8), (.mv (.t 30)), none, []⟩]) (.reg [⟨(some 31), (.mv (.t 6)), none, []⟩, ⟨(some 32), (.mv (.t 8)), none, []⟩, ⟨(some 33), (.app 1 (.t 31) (.t 32)), none, []⟩, ⟨(some 6), (.mv (.t 33)), none, []⟩]))) (.reg [⟨(some 34), (.ar .add (.t 27) (.c (.int .i64 (1)))), none, []⟩, ⟨(some 27), (.mv (.t 34)), none, []⟩]))))))) (.seq (.reg [⟨(some 35), (.mv (.t 6)), none, []⟩, ⟨(some 2), (.mv (.t 35)), none, []⟩]) .ret)))))), 36, [(.tmp 2)], false, fun _ => none⟩
noncomputable def c97 : CFn := ⟨(.seq (.reg [⟨(some 4), (.mv (.c (.bool false))), none, []⟩]) (.seq (.reg [⟨(some 5), (.mv (.t 0)), none, []⟩, ⟨(some 6), (.mv (.t 1)), none, []⟩, ⟨(some 7), (.call (.c (.fn 108 [] [])) [(.t 5), (.t 6)]), none, []⟩, ⟨(some 8), (.ar .geq (.t 7) (.c (.int .i64 (0)))), none, []⟩, ⟨(some 4), (.mv (.t 8)), none, []⟩]) .ret)), 9, [(.tmp 4)], false, fun _ => none⟩
noncomputable def c98 : CFn := ⟨(.seq (.reg [⟨(some 2), (.mv (.c .nils)), none, []⟩]) (.seq (.seq (.reg [⟨(some 3), (.mv (.t 0)), none, []⟩, ⟨(some 4), (.snil false (.t 3) (.c .nils)), none, []⟩]) (.cond (.t 4) (.seq (.reg [⟨(some 2), (.mv (.c .nils)), none, []⟩]) .ret) .skip)) (.seq (.reg [⟨(some 5), (.bsl 1 0 [(.int .i64 (0))] []), none, []⟩, ⟨(some 6), (.mv (.t 0)), none, []⟩, ⟨(some 7), (.app 1 (.t 5) (.t 6)), none, []⟩, ⟨(some 2), (.mv (.t 7)), none, []⟩]) .ret))), 8, [(.tmp 2)], false, fun _ => none⟩
noncomputable def c99 : CFn := ⟨(.seq (.reg [⟨(some 10), (.mv (.c (.int .i64 (0)))), none, []⟩]) (.seq (.block 0 (.loop 1055 (.seq (.seq (.reg [⟨(some 17), (.mv (.t 10)), none, []⟩, ⟨(some 18), (.mv (.t 3)), none, []⟩, ⟨(some 19), (.ar .lss (.t 17) (.t 18)), none, []⟩]) (.cond (.t 19) .skip (.exit 0))) (.block 1 (.seq (.reg [⟨(some 21), (.mv (.t 0)), none, []⟩, ⟨(some 22), (.mv (.t 1)), none, []⟩, ⟨(some 23), (.mv (.t 2)), none, []⟩, ⟨(some 24), (.mv (.t 4)), none, []⟩, ⟨(some 25), (.call (.c (.fn 109 [] [])) [(.t 21), (.t 22), (.t 23), (.t 24)]), none, []⟩, ⟨(some 20), (.mv (.t 25)), none, []⟩, ⟨(some 26), (.ext 0 (.t 20)), none, []⟩, ⟨(some 27), (.ext 1 (.t 20)), none, []⟩, ⟨(some 11), (.mv (.t 26)), none, []⟩, ⟨(some 12), (.mv (.t 27)), none, []⟩]) (.seq (.seq (.reg [⟨(some 28), (.mv (.t 12)), none, []⟩, ⟨(some 29), (.ar .eql (.t 28) (.c (.int .i64 (0)))), none, []⟩]) (.cond (.t 29) (.exit 0) .skip)) (.seq (.reg [⟨(some 30), (.mv (.t 12)), none, []⟩, ⟨(some 31), (.mv (.t 3)), none, []⟩, ⟨(some 32), (.mv (.t 10)), none, []⟩, ⟨(some 33), (.ar .sub (.t 31) (.t 32)), none, []⟩, ⟨(some 34), (.mn [(.t 30), (.t 33)]), none, []⟩, ⟨(some 12), (.mv (.t 34)), none, []⟩]) (.seq (.reg [⟨(some 35), (.mv (.t 2)), none, []⟩, ⟨(some 13), (.mv (.t 35)), none, []⟩]) (.seq (.seq (.reg [⟨(some 36), (.mv (.t 11)), none, []⟩, ⟨(some 37), (.len (.t 36)), none, []⟩, ⟨(some 38), (.mv (.c (.int .i64 (0)))), none, []⟩]) (.block 2 (.loop 481036350495 (.seq (.reg [⟨(some 39), (.ar .lss (.t 38) (.t 37)), none, []⟩]) (.seq (.cond (.t 39) .skip (.exit 2)) (.seq (.block 3 (.seq (.reg [⟨(some 40), (.ias 1 (.t 36) (.t 38)), none, []⟩, ⟨(some 41), (.ld (.t 40)), none, []⟩, ⟨(some 15), (.mv (.t 41)), none, []⟩]) (.seq (.reg [⟨(some 42), (.mv (.t 0)), none, []⟩, ⟨(some 43), (.mv (.t 15)), none, []⟩, ⟨(some 44), (.ias 3 (.t 42) (.t 43)), none, []⟩, ⟨(some 16), (.mv (.t 44)), none, []⟩]) (.seq (.reg [⟨(some 45), (.mv (.t 16)), none, []⟩, ⟨(some 46), (.chk (.t 45)), none, []⟩, ⟨(some 47), (.fa 1 (.t 46)), none, []⟩, ⟨(some 48), (.ld (.t 47)), none, []⟩, ⟨(some 49), (.mv (.t 13)), none, []⟩, ⟨(some 50), (.ar .eql (.t 48) (.t 49)), none, []⟩]) (.cond (.t 50) (.drw [⟨(some 51), (.mv (.t 16)), none, []⟩, ⟨(some 52), (.mv (.t 16)), none, [0]⟩, ⟨(some 53), (.chk (.t 52)), none, [0]⟩, ⟨(some 54), (.fa 2 (.t 53)), none, [0]⟩, ⟨(some 55), (.ld (.t 54)), none, [0]⟩, ⟨(some 56), (.mv (.t 12)), none, [0, 1, 2, 3, 4]⟩, ⟨(some 57), (.ar .add (.t 55) (.t 56)), none, [0]⟩, ⟨(some 58), (.mv (.t 16)), none, [0, 1, 2, 3, 4, 5, 6]⟩, ⟨(some 59), (.chk (.t 58)), none, [0, 1, 2, 3, 4, 5, 6]⟩, ⟨(some 60), (.fa 0 (.t 59)), none, [0, 1, 2, 3, 4, 5, 6]⟩, ⟨(some 61), (.ld (.t 60)), none, [0, 1, 2, 3, 4, 5, 6]⟩, ⟨(some 62), (.chk (.t 51)), none, []⟩, ⟨(some 63), (.fa 2 (.t 62)), none, []⟩, ⟨none, (.st 1 (.t 63) (.t 57)), none, []⟩, ⟨(some 13), (.mv (.t 61)), none, []⟩]) (.drw [⟨(some 64), (.mv (.t 16)), none, []⟩, ⟨(some 65), (.mv (.t 16)), none, [0]⟩, ⟨(some 66), (.chk (.t 65)), none, [0]⟩, ⟨(some 67), (.fa 2 (.t 66)), none, [0]⟩, ⟨(some 68), (.ld (.t 67)), none, [0]⟩, ⟨(some 69), (.mv (.t 12)), none, [0, 1, 2, 3, 4]⟩, ⟨(some 70), (.ar .sub (.t 68) (.t 69)), none, [0]⟩, ⟨(some 71), (.mv (.t 16)), none, [0, 1, 2, 3, 4, 5, 6]⟩, ⟨(some 72), (.chk (.t 71)), none, [0, 1, 2, 3, 4, 5, 6]⟩, ⟨(some 73), (.fa 1 (.t 72)), none, [0, 1, 2, 3, 4, 5, 6]⟩, ⟨(some 74), (.ld (.t 73)), none, [0, 1, 2, 3, 4, 5, 6]⟩, ⟨(some 75), (.chk (.t 64)), none, []⟩, ⟨(some 76), (.fa 2 (.t 75)), none, []⟩, ⟨none, (.st 1 (.t 76) (.t 70)), none, []⟩, ⟨(some 13), (.mv (.t 74)), none, []⟩])))))) (.reg [⟨(some 77), (.ar .add (.t 38) (.c (.int .i64 (1)))), none, []⟩, ⟨(some 38), (.mv (.t 77)), none, []⟩]))))))) (.reg [⟨(some 78), (.mv (.t 10)), none, []⟩, ⟨(some 79), (.mv (.t 12)), none, []⟩, ⟨(some 80), (.ar .add (.t 78) (.t 79)), none, []⟩, ⟨(some 10), (.mv (.t 80)), none, []⟩])))))))))) (.seq (.reg [⟨(some 81), (.mv (.t 10)), none, []⟩, ⟨(some 10), (.mv (.t 81)), none, []⟩]) .ret))), 82, [(.tmp 10)], false, fun _ => none⟩
noncomputable def c100 : CFn := ⟨(.seq (.reg [⟨(some 2), (.mv (.c .nils)), none, []⟩]) (.seq (.seq (.reg [⟨(some 3), (.mv (.t 0)), none, []⟩, ⟨(some 4), (.snil false (.t 3) (.c .nils)), none, []⟩]) (.cond (.t 4) (.seq (.reg [⟨(some 2), (.mv (.c .nils)), none, []⟩]) .ret) .skip)) (.seq (.reg [⟨(some 5), (.bsl 3 0 [(.int .i64 (0)), (.int .i64 (0)), (.int .i64 (0))] []), none, []⟩, ⟨(some 6), (.mv (.t 0)), none, []⟩, ⟨(some 7), (.app 3 (.t 5) (.t 6)), none, []⟩, ⟨(some 2), (.mv (.t 7)), none, []⟩]) .ret))), 8, [(.tmp 2)], false, fun _ => none⟩
noncomputable def c101 : CFn := ⟨(.seq (.reg [⟨(some 9), (.ldn 3 (.t 1)), none, []⟩, ⟨(some 5), (.new [(.int .i64 (0)), (.int .i64 (0)), (.int .i64 (0))]), none, []⟩, ⟨none, (.st 3 (.t 5) (.t 9)), none, []⟩]) (.seq (.drw [⟨(some 10), (.fa 2 (.t 5)), none, []⟩, ⟨(some 11), (.ld (.t 10)), none, []⟩, ⟨(some 12), (.ld (.t 2)), none, [0, 1]⟩, ⟨(some 13), (.fa 1 (.t 1)), none, [0, 1, 2]⟩, ⟨(some 14), (.ld (.t 13)), none, [0, 1, 2]⟩, ⟨(some 15), (.ias 1 (.t 12) (.t 14)), none, [0, 1]⟩, ⟨(some 16), (.ld (.t 15)), none, [0, 1]⟩, ⟨(some 17), (.ar .add (.t 11) (.t 16)), none, []⟩, ⟨(some 18), (.fa 2 (.t 5)), none, []⟩, ⟨none, (.st 1 (.t 18) (.t 17)), none, []⟩]) (.seq (.seq (.reg [⟨(some 19), (.mv (.t 0)), none, []⟩, ⟨(some 20), (.ldn 3 (.t 5)), none, []⟩, ⟨(some 21), (.call (.t 19) [(.t 20)]), none, []⟩, ⟨(some 22), (.un .not (.t 21)), none, []⟩, ⟨(some 23), (.mv (.t 22)), none, []⟩, ⟨(some 24), (.mv (.t 0)), (some (23, false)), []⟩, ⟨(some 25), (.fa 1 (.t 1)), (some (23, false)), []⟩, ⟨(some 26), (.ld (.t 25)), (some (23, false)), []⟩, ⟨(some 27), (.fa 0 (.t 1)), (some (23, false)), []⟩, ⟨(some 28), (.ld (.t 27)), (some (23, false)), []⟩, ⟨(some 29), (.fa 2 (.t 1)), (some (23, false)), []⟩, ⟨(some 30), (.ld (.t 29)), (some (23, false)), []⟩, ⟨(some 31), (.bld [(.int .i64 (0)), (.int .i64 (0)), (.int .i64 (0))] [(0, (1, (.t 26))), (1, (1, (.t 28))), (2, (1, (.t 30)))]), (some (23, false)), []⟩, ⟨(some 32), (.call (.t 24) [(.t 31)]), (some (23, false)), []⟩, ⟨(some 33), (.un .not (.t 32)), (some (23, false)), []⟩, ⟨(some 34), (.pick (.t 23) (.c (.bool true)) (.t 33)), none, []⟩]) (.cond (.t 34) .ret .skip)) (.seq (.reg [⟨(some 35), (.fa 0 (.t 3)), none, []⟩, ⟨(some 36), (.fa 0 (.t 35)), none, []⟩, ⟨(some 37), (.ld (.t 36)), none, []⟩, ⟨(some 38), (.len (.t 37)), none, []⟩, ⟨(some 39), (.mv (.c (.int .i64 (0)))), none, []⟩]) (.block 0 (.loop 824633720835 (.seq (.reg [⟨(some 40), (.ar .lss (.t 39) (.t 38)), none, []⟩]) (.seq (.cond (.t 40) .skip (.exit 0)) (.seq (.block 1 (.seq (.reg [⟨(some 41), (.mv (.t 39)), none, []⟩, ⟨(some 6), (.mv (.t 41)), none, []⟩]) (.seq (.drw [⟨(some 42), (.ldn 3 (.t 1)), none, []⟩, ⟨(some 43), (.ldn 3 (.t 1)), none, [0]⟩, ⟨(some 7), (.new [(.int .i64 (0)), (.int .i64 (0)), (.int .i64 (0))]), none, [0, 1]⟩, ⟨(some 8), (.new [(.int .i64 (0)), (.int .i64 (0)), (.int .i64 (0))]), none, [0, 1, 2]⟩, ⟨none, (.st 3 (.t 7) (.t 42)), none, [1]⟩, ⟨none, (.st 3 (.t 8) (.t 43)), none, []⟩]) (.seq (.reg [⟨(some 44), (.mv (.t 6)), none, []⟩, ⟨(some 45), (.mv (.t 6)), none, []⟩, ⟨(some 46), (.fa 0 (.t 7)), none, []⟩, ⟨none, (.st 1 (.t 46) (.t 44)), none, []⟩, ⟨(some 47), (.fa 1 (.t 8)), none, []⟩, ⟨none, (.st 1 (.t 47) (.t 45)), none, []⟩]) (.seq (.reg [⟨(some 48), (.mv (.t 0)), none, []⟩, ⟨(some 49), (.ldn 3 (.t 7)), none, []⟩, ⟨(some 50), (.call (.t 48) [(.t 49)]), none, []⟩, ⟨(some 51), (.un .not (.t 50)), none, []⟩, ⟨(some 52), (.mv (.t 51)), none, []⟩, ⟨(some 53), (.mv (.t 0)), (some (52, false)), []⟩, ⟨(some 54), (.ldn 3 (.t 8)), (some (52, false)), []⟩, ⟨(some 55), (.call (.t 53) [(.t 54)]), (some (52, false)), []⟩, ⟨(some 56), (.un .not (.t 55)), (some (52, false)), []⟩, ⟨(some 57), (.pick (.t 52) (.c (.bool true)) (.t 56)), none, []⟩]) (.cond (.t 57) .ret .skip)))))) (.reg [⟨(some 58), (.ar .add (.t 39) (.c (.int .i64 (1)))), none, []⟩, ⟨(some 39), (.mv (.t 58)), none, []⟩])))))))))), 59, [], false, fun _ => none⟩
noncomputable def c102 : CFn := ⟨(.seq (.reg [⟨(some 10), (.mv (.c (.bool true))), none, []⟩]) (.seq (.reg [⟨(some 11), (.mv (.c (.bool true))), none, []⟩]) (.block 0 (.loop 3103 (.block 1 (.seq (.reg [⟨(some 21), (.mv (.t 2)), none, []⟩, ⟨(some 22), (.mv (.t 1)), none, []⟩, ⟨(some 23), (.ar .sub (.t 21) (.t 22)), none, []⟩, ⟨(some 12), (.mv (.t 23)), none, []⟩]) (.seq (.seq (.reg [⟨(some 24), (.mv (.t 12)), none, []⟩, ⟨(some 25), (.ar .leq (.t 24) (.c (.int .i64 (12)))), none, []⟩]) (.cond (.t 25) (.seq (.reg [⟨(some 26), (.mv (.t 0)), none, []⟩, ⟨(some 27), (.mv (.t 1)), none, []⟩, ⟨(some 28), (.mv (.t 2)), none, []⟩, ⟨(some 29), (.mv (.t 4)), none, []⟩, ⟨(some 30), (.call (.c (.fn 110 [] [])) [(.t 26), (.t 27), (.t 28), (.t 29)]), none, []⟩]) .ret) .skip)) (.seq (.seq (.reg [⟨(some 31), (.mv (.t 3)), none, []⟩, ⟨(some 32), (.ar .eql (.t 31) (.c (.int .i64 (0)))), none, []⟩]) (.cond (.t 32) (.seq (.reg [⟨(some 33), (.mv (.t 0)), none, []⟩, ⟨(some 34), (.mv (.t 1)), none, []⟩, ⟨(some 35), (.mv (.t 2)), none, []⟩, ⟨(some 36), (.mv (.t 4)), none, []⟩, ⟨(some 37), (.call (.c (.fn 111 [] [])) [(.t 33), (.t 34), (.t 35), (.t 36)]), none, []⟩]) .ret) .skip)) (.seq (.seq (.reg [⟨(some 38), (.mv (.t 10)), none, []⟩, ⟨(some 39), (.un .not (.t 38)), none, []⟩]) (.cond (.t 39) (.seq (.reg [⟨(some 40), (.mv (.t 0)), none, []⟩, ⟨(some 41), (.mv (.t 1)), none, []⟩, ⟨(some 42), (.mv (.t 2)), none, []⟩, ⟨(some 43), (.mv (.t 4)), none, []⟩, ⟨(some 44), (.call (.c (.fn 112 [] [])) [(.t 40), (.t 41), (.t 42), (.t 43)]), none, []⟩]) (.reg [⟨(some 45), (.mv (.t 3)), none, []⟩, ⟨(some 46), (.ar .sub (.t 45) (.c (.int .i64 (1)))), none, []⟩, ⟨(some 3), (.mv (.t 46)), none, []⟩])) .skip)) (.seq (.reg [⟨(some 48), (.mv (.t 0)), none, []⟩, ⟨(some 49), (.mv (.t 1)), none, []⟩, ⟨(some 50), (.mv (.t 2)), none, []⟩, ⟨(some 51), (.mv (.t 4)), none, []⟩, ⟨(some 52), (.call (.c (.fn 113 [] [])) [(.t 48), (.t 49), (.t 50), (.t 51)]), none, []⟩, ⟨(some 47), (.mv (.t 52)), none, []⟩, ⟨(some 53), (.ext 0 (.t 47)), none, []⟩, ⟨(some 54), (.ext 1 (.t 47)), none, []⟩, ⟨(some 13), (.mv (.t 53)), none, []⟩, ⟨(some 14), (.mv (.t 54)), none, []⟩]) (.seq (.seq (.reg [⟨(some 55), (.mv (.t 14)), none, []⟩, ⟨(some 56), (.ar .eql (.t 55) (.c (.int .i64 (2)))), none, []⟩]) (.cond (.t 56) (.seq (.reg [⟨(some 57), (.mv (.t 0)), none, []⟩, ⟨(some 58), (.mv (.t 1)), none, []⟩, ⟨(some 59), (.mv (.t 2)), none, []⟩, ⟨(some 60), (.mv (.t 4)), none, []⟩, ⟨(some 61), (.call (.c (.fn 114 [] [])) [(.t 57), (.t 58), (.t 59), (.t 60)]), none, []⟩]) (.seq (.reg [⟨(some 62), (.mv (.t 2)), none, []⟩, ⟨(some 63), (.ar .sub (.t 62) (.c (.int .i64 (1)))), none, []⟩, ⟨(some 64), (.mv (.t 13)), none, []⟩, ⟨(some 65), (.mv (.t 1)), none, []⟩, ⟨(some 66), (.ar .sub (.t 64) (.t 65)), none, []⟩, ⟨(some 67), (.ar .sub (.t 63) (.t 66)), none, []⟩, ⟨(some 13), (.mv (.t 67)), none, []⟩]) (.reg [⟨(some 14), (.mv (.c (.int .i64 (1)))), none, []⟩]))) .skip)) (.seq (.seq (.reg [⟨(some 68), (.mv (.t 10)), none, []⟩, ⟨(some 69), (.mv (.t 68)), none, []⟩, ⟨(some 70), (.mv (.t 11)), (some (69, true)), []⟩, ⟨(some 71), (.pick (.t 69) (.t 70) (.c (.bool false))), none, []⟩, ⟨(some 72), (.mv (.t 71)), none, []⟩, ⟨(some 73), (.mv (.t 14)), (some (72, true)), []⟩, ⟨(some 74), (.ar .eql (.t 73) (.c (.int .i64 (1)))), (some (72, true)), []⟩, ⟨(some 75), (.pick (.t 72) (.t 74) (.c (.bool false))), none, []⟩]) (.cond (.t 75) (.seq (.reg [⟨(some 76), (.mv (.t 0)), none, []⟩, ⟨(some 77), (.mv (.t 1)), none, []⟩, ⟨(some 78), (.mv (.t 2)), none, []⟩, ⟨(some 79), (.mv (.t 4)), none, []⟩, ⟨(some 80), (.call (.c (.fn 115 [] [])) [(.t 76), (.t 77), (.t 78), (.t 79)]), none, []⟩]) (.cond (.t 80) .ret .skip)) .skip)) (.seq (.seq (.drw [⟨(some 81), (.mv (.t 1)), none, []⟩, ⟨(some 82), (.ar .gtr (.t 81) (.c (.int .i64 (0)))), none, []⟩, ⟨(some 83), (.mv (.t 82)), none, []⟩, ⟨(some 84), (.mv (.t 4)), (some (83, true)), []⟩, ⟨(some 85), (.mv (.t 0)), (some (83, true)), [3]⟩, ⟨(some 86), (.mv (.t 1)), (some (83, true)), [3, 4]⟩, ⟨(some 87), (.ar .sub (.t 86) (.c (.int .i64 (1)))), (some (83, true)), [3, 4]⟩, ⟨(some 88), (.ias 4 (.t 85) (.t 87)), (some (83, true)), [3]⟩, ⟨(some 89), (.ldn 4 (.t 88)), (some (83, true)), [3]⟩, ⟨(some 90), (.mv (.t 0)), (some (83, true)), [3, 4, 5, 6, 7, 8]⟩, ⟨(some 91), (.mv (.t 13)), (some (83, true)), [3, 4, 5, 6, 7, 8, 9]⟩, ⟨(some 92), (.ias 4 (.t 90) (.t 91)), (some (83, true)), [3, 4, 5, 6, 7, 8]⟩, ⟨(some 93), (.ldn 4 (.t 92)), (some (83, true)), [3, 4, 5, 6, 7, 8]⟩, ⟨(some 94), (.call (.t 84) [(.t 89), (.t 93)]), (some (83, true)), []⟩, ⟨(some 95), (.ar .lss (.t 94) (.c (.int .i64 (0)))), (some (83, true)), []⟩, ⟨(some 96), (.un .not (.t 95)), (some (83, true)), []⟩, ⟨(some 97), (.pick (.t 83) (.t 96) (.c (.bool false))), none, []⟩]) (.cond (.t 97) (.seq (.reg [⟨(some 98), (.mv (.t 0)), none, []⟩, ⟨(some 99), (.mv (.t 1)), none, []⟩, ⟨(some 100), (.mv (.t 2)), none, []⟩, ⟨(some 101), (.mv (.t 13)), none, []⟩, ⟨(some 102), (.mv (.t 4)), none, []⟩, ⟨(some 103), (.call (.c (.fn 116 [] [])) [(.t 98), (.t 99), (.t 100), (.t 101), (.t 102)]), none, []⟩, ⟨(some 15), (.mv (.t 103)), none, []⟩]) (.seq (.reg [⟨(some 104), (.mv (.t 15)), none, []⟩, ⟨(some 1), (.mv (.t 104)), none, []⟩]) (.exit 1))) .skip)) (.seq (.reg [⟨(some 106), (.mv (.t 0)), none, []⟩, ⟨(some 107), (.mv (.t 1)), none, []⟩, ⟨(some 108), (.mv (.t 2)), none, []⟩, ⟨(some 109), (.mv (.t 13)), none, []⟩, ⟨(some 110), (.mv (.t 4)), none, []⟩, ⟨(some 111), (.call (.c (.fn 117 [] [])) [(.t 106), (.t 107), (.t 108), (.t 109), (.t 110)]), none, []⟩, ⟨(some 105), (.mv (.t 111)), none, []⟩, ⟨(some 112), (.ext 0 (.t 105)), none, []⟩, ⟨(some 113), (.ext 1 (.t 105)), none, []⟩, ⟨(some 16), (.mv (.t 112)), none, []⟩, ⟨(some 17), (.mv (.t 113)), none, []⟩]) (.seq (.reg [⟨(some 114), (.mv (.t 17)), none, []⟩, ⟨(some 11), (.mv (.t 114)), none, []⟩]) (.seq (.reg [⟨(some 115), (.mv (.t 16)), none, []⟩, ⟨(some 116), (.mv (.t 1)), none, []⟩, ⟨(some 117), (.ar .sub (.t 115) (.t 116)), none, []⟩, ⟨(some 118), (.mv (.t 2)), none, []⟩, ⟨(some 119), (.mv (.t 16)), none, []⟩, ⟨(some 120), (.ar .sub (.t 118) (.t 119)), none, []⟩, ⟨(some 18), (.mv (.t 117)), none, []⟩, ⟨(some 19), (.mv (.t 120)), none, []⟩]) (.seq (.reg [⟨(some 121), (.mv (.t 12)), none, []⟩, ⟨(some 122), (.ar .quo (.t 121) (.c (.int .i64 (8)))), none, []⟩, ⟨(some 20), (.mv (.t 122)), none, []⟩]) (.seq (.reg [⟨(some 123), (.mv (.t 18)), none, []⟩, ⟨(some 124), (.mv (.t 19)), none, []⟩, ⟨(some 125), (.ar .lss (.t 123) (.t 124)), none, []⟩]) (.cond (.t 125) (.seq (.reg [⟨(some 126), (.mv (.t 18)), none, []⟩, ⟨(some 127), (.mv (.t 20)), none, []⟩, ⟨(some 128), (.ar .geq (.t 126) (.t 127)), none, []⟩, ⟨(some 10), (.mv (.t 128)), none, []⟩]) (.seq (.reg [⟨(some 129), (.mv (.t 0)), none, []⟩, ⟨(some 130), (.mv (.t 1)), none, []⟩, ⟨(some 131), (.mv (.t 16)), none, []⟩, ⟨(some 132), (.mv (.t 3)), none, []⟩, ⟨(some 133), (.mv (.t 4)), none, []⟩, ⟨(some 134), (.call (.c (.fn 102 [] [])) [(.t 129), (.t 130), (.t 131), (.t 132), (.t 133)]), none, []⟩]) (.reg [⟨(some 135), (.mv (.t 16)), none, []⟩, ⟨(some 136), (.ar .add (.t 135) (.c (.int .i64 (1)))), none, []⟩, ⟨(some 1), (.mv (.t 136)), none, []⟩]))) (.seq (.reg [⟨(some 137), (.mv (.t 19)), none, []⟩, ⟨(some 138), (.mv (.t 20)), none, []⟩, ⟨(some 139), (.ar .geq (.t 137) (.t 138)), none, []⟩, ⟨(some 10), (.mv (.t 139)), none, []⟩]) (.seq (.reg [⟨(some 140), (.mv (.t 0)), none, []⟩, ⟨(some 141), (.mv (.t 16)), none, []⟩, ⟨(some 142), (.ar .add (.t 141) (.c (.int .i64 (1)))), none, []⟩, ⟨(some 143), (.mv (.t 2)), none, []⟩, ⟨(some 144), (.mv (.t 3)), none, []⟩, ⟨(some 145), (.mv (.t 4)), none, []⟩, ⟨(some 146), (.call (.c (.fn 102 [] [])) [(.t 140), (.t 142), (.t 143), (.t 144), (.t 145)]), none, []⟩]) (.reg [⟨(some 147), (.mv (.t 16)), none, []⟩, ⟨(some 2), (.mv (.t 147)), none, []⟩])))))))))))))))))))))), 148, [], false, fun _ => none⟩
noncomputable def c103 : CFn := ⟨(.seq (.reg [⟨(some 2), (.mv (.c (.int .i64 (0)))), none, []⟩]) (.seq (.cond (.c (.bool false)) (.seq (.reg [⟨(some 3), (.mv (.t 0)), none, []⟩, ⟨(some 4), (.conv .u32 (.t 3)), none, []⟩, ⟨(some 5), (.call (.c (.fn 118 [] [])) [(.t 4)]), none, []⟩, ⟨(some 2), (.mv (.t 5)), none, []⟩]) .ret) .skip) (.seq (.reg [⟨(some 6), (.mv (.t 0)), none, []⟩, ⟨(some 7), (.call (.c (.fn 119 [] [])) [(.t 6)]), none, []⟩, ⟨(some 2), (.mv (.t 7)), none, []⟩]) .ret))), 8, [(.tmp 2)], false, fun _ => none⟩
noncomputable def c104 : CFn := ⟨(.seq (.reg [⟨(some 4), (.mv (.c (.int .i64 (0)))), none, []⟩]) (.seq (.seq (.reg [⟨(some 6), (.mv (.t 0)), none, []⟩, ⟨(some 7), (.len (.t 6)), none, []⟩, ⟨(some 8), (.mv (.c (.int .i64 (0)))), none, []⟩]) (.block 0 (.loop 387 (.seq (.reg [⟨(some 9), (.ar .lss (.t 8) (.t 7)), none, []⟩]) (.seq (.cond (.t 9) .skip (.exit 0)) (.seq (.block 1 (.seq (.reg [⟨(some 10), (.mv (.t 8)), none, []⟩, ⟨(some 5), (.mv (.t 10)), none, []⟩]) (.seq (.reg [⟨(some 11), (.mv (.t 1)), none, []⟩, ⟨(some 12), (.mv (.t 0)), none, []⟩, ⟨(some 13), (.mv (.t 5)), none, []⟩, ⟨(some 14), (.ias 2 (.t 12) (.t 13)), none, []⟩, ⟨(some 15), (.ldn 2 (.t 14)), none, []⟩, ⟨(some 16), (.call (.t 11) [(.t 15)]), none, []⟩]) (.cond (.t 16) (.seq (.reg [⟨(some 17), (.mv (.t 5)), none, []⟩, ⟨(some 4), (.mv (.t 17)), none, []⟩]) .ret) .skip)))) (.reg [⟨(some 18), (.ar .add (.t 8) (.c (.int .i64 (1)))), none, []⟩, ⟨(some 8), (.mv (.t 18)), none, []⟩]))))))) (.seq (.reg [⟨(some 4), (.mv (.c (.int .i64 (-1)))), none, []⟩]) .ret))), 19, [(.tmp 4)], false, fun _ => none⟩
noncomputable def c105 : CFn := ⟨(.seq (.reg [⟨(some 1), (.box (.t 0)), none, []⟩, ⟨(some 2), (.mv (.c .nilf)), none, []⟩]) (.seq (.reg [⟨(some 3), (.mkf 120 [] [(.t 1)]), none, []⟩, ⟨(some 2), (.mv (.t 3)), none, []⟩]) .ret)), 4, [(.tmp 2)], false, fun _ => none⟩
noncomputable def c106 : CFn := ⟨(.seq (.reg [⟨(some 4), (.mv (.c (.int .i64 (0)))), none, []⟩]) (.seq (.seq (.reg [⟨(some 6), (.mv (.t 0)), none, []⟩, ⟨(some 7), (.len (.t 6)), none, []⟩, ⟨(some 8), (.mv (.c (.int .i64 (0)))), none, []⟩]) (.block 0 (.loop 387 (.seq (.reg [⟨(some 9), (.ar .lss (.t 8) (.t 7)), none, []⟩]) (.seq (.cond (.t 9) .skip (.exit 0)) (.seq (.block 1 (.seq (.reg [⟨(some 10), (.mv (.t 8)), none, []⟩, ⟨(some 5), (.mv (.t 10)), none, []⟩]) (.seq (.reg [⟨(some 11), (.mv (.t 1)), none, []⟩, ⟨(some 12), (.mv (.t 0)), none, []⟩, ⟨(some 13), (.mv (.t 5)), none, []⟩, ⟨(some 14), (.ias 1 (.t 12) (.t 13)), none, []⟩, ⟨(some 15), (.ld (.t 14)), none, []⟩, ⟨(some 16), (.call (.t 11) [(.t 15)]), none, []⟩]) (.cond (.t 16) (.seq (.reg [⟨(some 17), (.mv (.t 5)), none, []⟩, ⟨(some 4), (.mv (.t 17)), none, []⟩]) .ret) .skip)))) (.reg [⟨(some 18), (.ar .add (.t 8) (.c (.int .i64 (1)))), none, []⟩, ⟨(some 8), (.mv (.t 18)), none, []⟩]))))))) (.seq (.reg [⟨(some 4), (.mv (.c (.int .i64 (-1)))), none, []⟩]) .ret))), 19, [(.tmp 4)], false, fun _ => none⟩
noncomputable def c107 : CFn := ⟨(.seq (.reg [⟨(some 4), (.mv (.c .nils)), none, []⟩]) (.seq (.seq (.reg [⟨(some 5), (.mv (.t 1)), none, []⟩, ⟨(some 6), (.ar .lss (.t 5) (.c (.int .i64 (0)))), none, []⟩]) (.cond (.t 6) (.reg [⟨(some 7), (.ld (.c (.bool false))), none, []⟩, ⟨none, (.ld (.c (.bool false))), none, []⟩]) .skip)) (.seq (.seq (.reg [⟨(some 8), (.mv (.t 1)), none, []⟩, ⟨(some 9), (.mv (.t 0)), none, []⟩, ⟨(some 10), (.cap (.t 9)), none, []⟩, ⟨(some 11), (.mv (.t 0)), none, []⟩, ⟨(some 12), (.len (.t 11)), none, []⟩, ⟨(some 13), (.ar .sub (.t 10) (.t 12)), none, []⟩, ⟨(some 14), (.ar .sub (.t 8) (.t 13)), none, []⟩, ⟨(some 1), (.mv (.t 14)), none, []⟩]) (.seq (.reg [⟨(some 15), (.mv (.t 1)), none, []⟩, ⟨(some 16), (.ar .gtr (.t 15) (.c (.int .i64 (0)))), none, []⟩]) (.cond (.t 16) (.reg [⟨(some 17), (.mv (.t 0)), none, []⟩, ⟨(some 18), (.mv (.t 0)), none, []⟩, ⟨(some 19), (.cap (.t 18)), none, []⟩, ⟨(some 20), (.slc 1 (.t 17) none (some (.t 19)) none), none, []⟩, ⟨(some 21), (.mv (.t 1)), none, []⟩, ⟨(some 22), (.apz 1 [(.int .i64 (0))] (.t 20) (.t 21)), none, []⟩, ⟨(some 23), (.mv (.t 0)), none, []⟩, ⟨(some 24), (.len (.t 23)), none, []⟩, ⟨(some 25), (.slc 1 (.t 22) none (some (.t 24)) none), none, []⟩, ⟨(some 0), (.mv (.t 25)), none, []⟩]) .skip))) (.seq (.reg [⟨(some 26), (.mv (.t 0)), none, []⟩, ⟨(some 4), (.mv (.t 26)), none, []⟩]) .ret)))), 27, [(.tmp 4)], false, fun _ => none⟩
noncomputable def c108 : CFn := ⟨(.seq (.reg [⟨(some 4), (.mv (.c (.int .i64 (0)))), none, []⟩]) (.seq (.seq (.reg [⟨(some 6), (.mv (.t 0)), none, []⟩, ⟨(some 7), (.len (.t 6)), none, []⟩, ⟨(some 8), (.mv (.c (.int .i64 (0)))), none, []⟩]) (.block 0 (.loop 387 (.seq (.reg [⟨(some 9), (.ar .lss (.t 8) (.t 7)), none, []⟩]) (.seq (.cond (.t 9) .skip (.exit 0)) (.seq (.block 1 (.seq (.reg [⟨(some 10), (.mv (.t 8)), none, []⟩, ⟨(some 5), (.mv (.t 10)), none, []⟩]) (.seq (.reg [⟨(some 11), (.mv (.t 1)), none, []⟩, ⟨(some 12), (.mv (.t 0)), none, []⟩, ⟨(some 13), (.mv (.t 5)), none, []⟩, ⟨(some 14), (.ias 3 (.t 12) (.t 13)), none, []⟩, ⟨(some 15), (.ldn 3 (.t 14)), none, []⟩, ⟨(some 16), (.call (.t 11) [(.t 15)]), none, []⟩]) (.cond (.t 16) (.seq (.reg [⟨(some 17), (.mv (.t 5)), none, []⟩, ⟨(some 4), (.mv (.t 17)), none, []⟩]) .ret) .skip)))) (.reg [⟨(some 18), (.ar .add (.t 8) (.c (.int .i64 (1)))), none, []⟩, ⟨(some 8), (.mv (.t 18)), none, []⟩]))))))) (.seq (.reg [⟨(some 4), (.mv (.c (.int .i64 (-1)))), none, []⟩]) .ret))), 19, [(.tmp 4)], false, fun _ => none⟩
noncomputable def c109 : CFn := ⟨(.seq (.reg [⟨(some 8), (.mv (.c .nils)), none, []⟩, ⟨(some 9), (.mv (.c (.int .i64 (0)))), none, []⟩]) (.seq (.reg [⟨(some 19), .mkm, none, []⟩, ⟨(some 20), (.mv (.t 1)), none, []⟩, ⟨(some 21), (.bld [(.int .i64 (0)), (.int .i64 (0)), (.int .i64 (0))] [(0, (1, (.c (.int .i64 (-1))))), (1, (1, (.c (.int .i64 (-1))))), (2, (1, (.c (.int .i64 (12000000)))))]), none, []⟩, ⟨none, (.mu (.t 19) (.t 20) (.t 21)), none, []⟩, ⟨(some 22), (.mv (.t 19)), none, []⟩, ⟨(some 10), (.mv (.t 22)), none, []⟩]) (.seq (.seq (.reg [⟨(some 23), (.mv (.t 1)), none, []⟩, ⟨(some 24), (.bsl 1 1 [(.int .i64 (0))] [(0, (.t 23))]), none, []⟩, ⟨(some 11), (.mv (.t 24)), none, []⟩]) (.block 0 (.loop 3341 (.seq (.seq (.reg [⟨(some 25), (.mv (.t 11)), none, []⟩, ⟨(some 26), (.len (.t 25)), none, []⟩, ⟨(some 27), (.ar .gtr (.t 26) (.c (.int .i64 (0)))), none, []⟩]) (.cond (.t 27) .skip (.exit 0))) (.seq (.block 1 (.seq (.reg [⟨(some 30), (.mv (.t 11)), none, []⟩, ⟨(some 31), (.ias 1 (.t 30) (.c (.int .i64 (0)))), none, []⟩, ⟨(some 32), (.ld (.t 31)), none, []⟩, ⟨(some 12), (.mv (.t 32)), none, []⟩]) (.seq (.seq (.reg [⟨(some 33), (.mv (.t 12)), none, []⟩, ⟨(some 34), (.mv (.t 2)), none, []⟩, ⟨(some 35), (.ar .eql (.t 33) (.t 34)), none, []⟩]) (.cond (.t 35) (.seq (.reg [⟨(some 36), (.mv (.t 10)), none, []⟩, ⟨(some 37), (.mv (.t 12)), none, []⟩, ⟨(some 38), (.lk false (.agg [(.int .i64 (0)), (.int .i64 (0)), (.int .i64 (0))]) (.t 36) (.t 37)), none, []⟩, ⟨(some 39), (.part 2 (.t 38)), none, []⟩, ⟨(some 9), (.mv (.t 39)), none, []⟩]) (.seq (.block 2 (.loop 5888 (.seq (.seq (.reg [⟨(some 40), (.mv (.t 10)), none, []⟩, ⟨(some 41), (.mv (.t 12)), none, []⟩, ⟨(some 42), (.lk false (.agg [(.int .i64 (0)), (.int .i64 (0)), (.int .i64 (0))]) (.t 40) (.t 41)), none, []⟩, ⟨(some 43), (.part 0 (.t 42)), none, []⟩, ⟨(some 44), (.ar .geq (.t 43) (.c (.int .i64 (0)))), none, []⟩]) (.cond (.t 44) .skip (.exit 2))) (.seq (.block 3 (.reg [⟨(some 49), (.mv (.t 8)), none, []⟩, ⟨(some 50), (.mv (.t 10)), none, []⟩, ⟨(some 51), (.mv (.t 12)), none, []⟩, ⟨(some 52), (.lk false (.agg [(.int .i64 (0)), (.int .i64 (0)), (.int .i64 (0))]) (.t 50) (.t 51)), none, []⟩, ⟨(some 53), (.part 0 (.t 52)), none, []⟩, ⟨(some 54), (.bsl 1 1 [(.int .i64 (0))] [(0, (.t 53))]), none, []⟩, ⟨(some 55), (.app 1 (.t 49) (.t 54)), none, []⟩, ⟨(some 8), (.mv (.t 55)), none, []⟩])) (.reg [⟨(some 45), (.mv (.t 10)), none, []⟩, ⟨(some 46), (.mv (.t 12)), none, []⟩, ⟨(some 47), (.lk false (.agg [(.int .i64 (0)), (.int .i64 (0)), (.int .i64 (0))]) (.t 45) (.t 46)), none, []⟩, ⟨(some 48), (.part 1 (.t 47)), none, []⟩, ⟨(some 12), (.mv (.t 48)), none, []⟩]))))) (.seq (.reg [⟨(some 56), (.mv (.t 8)), none, []⟩, ⟨(some 57), (.mv (.t 9)), none, []⟩, ⟨(some 8), (.mv (.t 56)), none, []⟩, ⟨(some 9), (.mv (.t 57)), none, []⟩]) .ret))) .skip)) (.seq (.reg [⟨(some 58), (.mv (.t 0)), none, []⟩, ⟨(some 59), (.len (.t 58)), none, []⟩, ⟨(some 60), (.mv (.c (.int .i64 (0)))), none, []⟩]) (.block 4 (.loop 2017612633061989645 (.seq (.reg [⟨(some 61), (.ar .lss (.t 60) (.t 59)), none, []⟩]) (.seq (.cond (.t 61) .skip (.exit 4)) (.seq (.block 5 (.seq (.reg [⟨(some 62), (.mv (.t 60)), none, []⟩, ⟨(some 63), (.ias 3 (.t 58) (.t 60)), none, []⟩, ⟨(some 64), (.ldn 3 (.t 63)), none, []⟩, ⟨(some 14), (.new [(.int .i64 (0)), (.int .i64 (0)), (.int .i64 (0))]), none, []⟩, ⟨(some 13), (.mv (.t 62)), none, []⟩, ⟨none, (.st 3 (.t 14) (.t 64)), none, []⟩]) (.seq (.reg [⟨(some 66), (.ldn 3 (.t 14)), none, []⟩, ⟨(some 67), (.mv (.t 12)), none, []⟩, ⟨(some 68), (.call (.c (.fn 121 [] [])) [(.t 66), (.t 67)]), none, []⟩, ⟨(some 65), (.mv (.t 68)), none, []⟩, ⟨(some 69), (.ext 0 (.t 65)), none, []⟩, ⟨(some 70), (.ext 1 (.t 65)), none, []⟩, ⟨(some 15), (.mv (.t 69)), none, []⟩, ⟨(some 16), (.mv (.t 70)), none, []⟩]) (.seq (.reg [⟨(some 72), (.mv (.t 10)), none, []⟩, ⟨(some 73), (.mv (.t 15)), none, []⟩, ⟨(some 74), (.lk true (.agg [(.int .i64 (0)), (.int .i64 (0)), (.int .i64 (0))]) (.t 72) (.t 73)), none, []⟩, ⟨(some 71), (.mv (.t 74)), none, []⟩, ⟨(some 75), (.ext 0 (.t 71)), none, []⟩, ⟨(some 76), (.ext 1 (.t 71)), none, []⟩, ⟨(some 17), (.new [(.int .i64 (0)), (.int .i64 (0)), (.int .i64 (0))]), none, []⟩, ⟨none, (.st 3 (.t 17) (.t 75)), none, []⟩, ⟨(some 18), (.mv (.t 76)), none, []⟩]) (.seq (.reg [⟨(some 77), (.mv (.t 13)), none, []⟩, ⟨(some 78), (.mv (.t 3)), none, []⟩, ⟨(some 79), (.ar .neq (.t 77) (.t 78)), none, []⟩, ⟨(some 80), (.mv (.t 79)), none, []⟩, ⟨(some 81), (.mv (.t 16)), (some (80, true)), []⟩, ⟨(some 82), (.ar .gtr (.t 81) (.c (.int .i64 (0)))), (some (80, true)), []⟩, ⟨(some 83), (.pick (.t 80) (.t 82) (.c (.bool false))), none, []⟩, ⟨(some 84), (.mv (.t 83)), none, []⟩, ⟨(some 85), (.mv (.t 18)), (some (84, true)), []⟩, ⟨(some 86), (.un .not (.t 85)), (some (84, true)), []⟩, ⟨(some 87), (.pick (.t 84) (.t 86) (.c (.bool false))), none, []⟩]) (.cond (.t 87) (.seq (.reg [⟨(some 88), (.mv (.t 10)), none, []⟩, ⟨(some 89), (.mv (.t 15)), none, []⟩, ⟨(some 90), (.mv (.t 13)), none, []⟩, ⟨(some 91), (.mv (.t 12)), none, []⟩, ⟨(some 92), (.mv (.t 16)), none, []⟩, ⟨(some 93), (.mv (.t 10)), none, []⟩, ⟨(some 94), (.mv (.t 12)), none, []⟩, ⟨(some 95), (.lk false (.agg [(.int .i64 (0)), (.int .i64 (0)), (.int .i64 (0))]) (.t 93) (.t 94)), none, []⟩, ⟨(some 96), (.part 2 (.t 95)), none, []⟩, ⟨(some 97), (.mn [(.t 92), (.t 96)]), none, []⟩, ⟨(some 98), (.bld [(.int .i64 (0)), (.int .i64 (0)), (.int .i64 (0))] [(0, (1, (.t 90))), (1, (1, (.t 91))), (2, (1, (.t 97)))]), none, []⟩, ⟨none, (.mu (.t 88) (.t 89) (.t 98)), none, []⟩]) (.reg [⟨(some 99), (.mv (.t 11)), none, []⟩, ⟨(some 100), (.mv (.t 15)), none, []⟩, ⟨(some 101), (.bsl 1 1 [(.int .i64 (0))] [(0, (.t 100))]), none, []⟩, ⟨(some 102), (.app 1 (.t 99) (.t 101)), none, []⟩, ⟨(some 11), (.mv (.t 102)), none, []⟩])) .skip)))))) (.reg [⟨(some 103), (.ar .add (.t 60) (.c (.int .i64 (1)))), none, []⟩, ⟨(some 60), (.mv (.t 103)), none, []⟩])))))))))) (.reg [⟨(some 28), (.mv (.t 11)), none, []⟩, ⟨(some 29), (.slc 1 (.t 28) (some (.c (.int .i64 (1)))) none none), none, []⟩, ⟨(some 11), (.mv (.t 29)), none, []⟩])))))) (.seq (.reg [⟨(some 8), (.mv (.c .nils)), none, []⟩, ⟨(some 9), (.mv (.c (.int .i64 (0)))), none, []⟩]) .ret)))), 104, [(.tmp 8), (.tmp 9)], false, fun _ => none⟩
noncomputable def c110 : CFn := ⟨(.seq (.reg [⟨(some 10), (.mv (.t 1)), none, []⟩, ⟨(some 11), (.ar .add (.t 10) (.c (.int .i64 (1)))), none, []⟩, ⟨(some 8), (.mv (.t 11)), none, []⟩]) (.block 0 (.loop 271 (.seq (.seq (.reg [⟨(some 12), (.mv (.t 8)), none, []⟩, ⟨(some 13), (.mv (.t 2)), none, []⟩, ⟨(some 14), (.ar .lss (.t 12) (.t 13)), none, []⟩]) (.cond (.t 14) .skip (.exit 0))) (.seq (.block 1 (.seq (.reg [⟨(some 17), (.mv (.t 8)), none, []⟩, ⟨(some 9), (.mv (.t 17)), none, []⟩]) (.block 2 (.loop 783 (.seq (.seq (.drw [⟨(some 18), (.mv (.t 9)), none, []⟩, ⟨(some 19), (.mv (.t 1)), none, [0]⟩, ⟨(some 20), (.ar .gtr (.t 18) (.t 19)), none, []⟩, ⟨(some 21), (.mv (.t 20)), none, []⟩, ⟨(some 22), (.mv (.t 3)), (some (21, true)), []⟩, ⟨(some 23), (.mv (.t 0)), (some (21, true)), [4]⟩, ⟨(some 24), (.mv (.t 9)), (some (21, true)), [4, 5]⟩, ⟨(some 25), (.ias 4 (.t 23) (.t 24)), (some (21, true)), [4]⟩, ⟨(some 26), (.ldn 4 (.t 25)), (some (21, true)), [4]⟩, ⟨(some 27), (.mv (.t 0)), (some (21, true)), [4, 5, 6, 7, 8]⟩, ⟨(some 28), (.mv (.t 9)), (some (21, true)), [4, 5, 6, 7, 8, 9]⟩, ⟨(some 29), (.ar .sub (.t 28) (.c (.int .i64 (1)))), (some (21, true)), [4, 5, 6, 7, 8, 9]⟩, ⟨(some 30), (.ias 4 (.t 27) (.t 29)), (some (21, true)), [4, 5, 6, 7, 8]⟩, ⟨(some 31), (.ldn 4 (.t 30)), (some (21, true)), [4, 5, 6, 7, 8]⟩, ⟨(some 32), (.call (.t 22) [(.t 26), (.t 31)]), (some (21, true)), []⟩, ⟨(some 33), (.ar .lss (.t 32) (.c (.int .i64 (0)))), (some (21, true)), []⟩, ⟨(some 34), (.pick (.t 21) (.t 33) (.c (.bool false))), none, []⟩]) (.cond (.t 34) .skip (.exit 2))) (.seq (.block 3 (.drw [⟨(some 37), (.mv (.t 0)), none, []⟩, ⟨(some 38), (.mv (.t 9)), none, [0]⟩, ⟨(some 39), (.mv (.t 0)), none, [0, 1]⟩, ⟨(some 40), (.mv (.t 9)), none, [0, 1, 2]⟩, ⟨(some 41), (.ar .sub (.t 40) (.c (.int .i64 (1)))), none, [0, 1, 2]⟩, ⟨(some 42), (.mv (.t 0)), none, [0, 1, 2, 3, 4]⟩, ⟨(some 43), (.mv (.t 9)), none, [0, 1, 2, 3, 4, 5]⟩, ⟨(some 44), (.ar .sub (.t 43) (.c (.int .i64 (1)))), none, [0, 1, 2, 3, 4, 5]⟩, ⟨(some 45), (.ias 4 (.t 42) (.t 44)), none, [0, 1, 2, 3, 4]⟩, ⟨(some 46), (.ldn 4 (.t 45)), none, [0, 1, 2, 3, 4]⟩, ⟨(some 47), (.mv (.t 0)), none, [0, 1, 2, 3, 4, 5, 6, 7, 8, 9]⟩, ⟨(some 48), (.mv (.t 9)), none, [0, 1, 2, 3, 4, 5, 6, 7, 8, 9, 10]⟩, ⟨(some 49), (.ias 4 (.t 47) (.t 48)), none, [0, 1, 2, 3, 4, 5, 6, 7, 8, 9]⟩, ⟨(some 50), (.ldn 4 (.t 49)), none, [0, 1, 2, 3, 4, 5, 6, 7, 8, 9]⟩, ⟨(some 51), (.ias 4 (.t 37) (.t 38)), none, [2, 3, 4]⟩, ⟨none, (.st 4 (.t 51) (.t 46)), none, [2, 3, 4]⟩, ⟨(some 52), (.ias 4 (.t 39) (.t 41)), none, []⟩, ⟨none, (.st 4 (.t 52) (.t 50)), none, []⟩])) (.reg [⟨(some 35), (.mv (.t 9)), none, []⟩, ⟨(some 36), (.ar .sub (.t 35) (.c (.int .i64 (1)))), none, []⟩, ⟨(some 9), (.mv (.t 36)), none, []⟩]))))))) (.reg [⟨(some 15), (.mv (.t 8)), none, []⟩, ⟨(some 16), (.ar .add (.t 15) (.c (.int .i64 (1)))), none, []⟩, ⟨(some 8), (.mv (.t 16)), none, []⟩])))))), 53, [], false, fun _ => none⟩
noncomputable def c111 : CFn := ⟨(.seq (.reg [⟨(some 13), (.mv (.t 1)), none, []⟩, ⟨(some 8), (.mv (.t 13)), none, []⟩]) (.seq (.reg [⟨(some 9), (.mv (.c (.int .i64 (0)))), none, []⟩]) (.seq (.reg [⟨(some 14), (.mv (.t 2)), none, []⟩, ⟨(some 15), (.mv (.t 1)), none, []⟩, ⟨(some 16), (.ar .sub (.t 14) (.t 15)), none, []⟩, ⟨(some 10), (.mv (.t 16)), none, []⟩]) (.seq (.seq (.reg [⟨(some 17), (.mv (.t 10)), none, []⟩, ⟨(some 18), (.ar .sub (.t 17) (.c (.int .i64 (1)))), none, []⟩, ⟨(some 19), (.ar .quo (.t 18) (.c (.int .i64 (2)))), none, []⟩, ⟨(some 11), (.mv (.t 19)), none, []⟩]) (.block 0 (.loop 3849 (.seq (.seq (.reg [⟨(some 20), (.mv (.t 11)), none, []⟩, ⟨(some 21), (.ar .geq (.t 20) (.c (.int .i64 (0)))), none, []⟩]) (.cond (.t 21) .skip (.exit 0))) (.seq (.block 1 (.reg [⟨(some 24), (.mv (.t 0)), none, []⟩, ⟨(some 25), (.mv (.t 11)), none, []⟩, ⟨(some 26), (.mv (.t 10)), none, []⟩, ⟨(some 27), (.mv (.t 8)), none, []⟩, ⟨(some 28), (.mv (.t 3)), none, []⟩, ⟨(some 29), (.call (.c (.fn 122 [] [])) [(.t 24), (.t 25), (.t 26), (.t 27), (.t 28)]), none, []⟩])) (.reg [⟨(some 22), (.mv (.t 11)), none, []⟩, ⟨(some 23), (.ar .sub (.t 22) (.c (.int .i64 (1)))), none, []⟩, ⟨(some 11), (.mv (.t 23)), none, []⟩])))))) (.seq (.reg [⟨(some 30), (.mv (.t 10)), none, []⟩, ⟨(some 31), (.ar .sub (.t 30) (.c (.int .i64 (1)))), none, []⟩, ⟨(some 12), (.mv (.t 31)), none, []⟩]) (.block 2 (.loop 4873 (.seq (.seq (.reg [⟨(some 32), (.mv (.t 12)), none, []⟩, ⟨(some 33), (.ar .geq (.t 32) (.c (.int .i64 (0)))), none, []⟩]) (.cond (.t 33) .skip (.exit 2))) (.seq (.block 3 (.seq (.drw [⟨(some 36), (.mv (.t 0)), none, []⟩, ⟨(some 37), (.mv (.t 8)), none, [0]⟩, ⟨(some 38), (.mv (.t 0)), none, [0, 1]⟩, ⟨(some 39), (.mv (.t 8)), none, [0, 1, 2]⟩, ⟨(some 40), (.mv (.t 12)), none, [0, 1, 2, 3]⟩, ⟨(some 41), (.ar .add (.t 39) (.t 40)), none, [0, 1, 2]⟩, ⟨(some 42), (.mv (.t 0)), none, [0, 1, 2, 3, 4, 5]⟩, ⟨(some 43), (.mv (.t 8)), none, [0, 1, 2, 3, 4, 5, 6]⟩, ⟨(some 44), (.mv (.t 12)), none, [0, 1, 2, 3, 4, 5, 6, 7]⟩, ⟨(some 45), (.ar .add (.t 43) (.t 44)), none, [0, 1, 2, 3, 4, 5, 6]⟩, ⟨(some 46), (.ias 4 (.t 42) (.t 45)), none, [0, 1, 2, 3, 4, 5]⟩, ⟨(some 47), (.ldn 4 (.t 46)), none, [0, 1, 2, 3, 4, 5]⟩, ⟨(some 48), (.mv (.t 0)), none, [0, 1, 2, 3, 4, 5, 6, 7, 8, 9, 10, 11]⟩, ⟨(some 49), (.mv (.t 8)), none, [0, 1, 2, 3, 4, 5, 6, 7, 8, 9, 10, 11, 12]⟩, ⟨(some 50), (.ias 4 (.t 48) (.t 49)), none, [0, 1, 2, 3, 4, 5, 6, 7, 8, 9, 10, 11]⟩, ⟨(some 51), (.ldn 4 (.t 50)), none, [0, 1, 2, 3, 4, 5, 6, 7, 8, 9, 10, 11]⟩, ⟨(some 52), (.ias 4 (.t 36) (.t 37)), none, [2, 3, 4, 5]⟩, ⟨none, (.st 4 (.t 52) (.t 47)), none, [2, 3, 4, 5]⟩, ⟨(some 53), (.ias 4 (.t 38) (.t 41)), none, []⟩, ⟨none, (.st 4 (.t 53) (.t 51)), none, []⟩]) (.reg [⟨(some 54), (.mv (.t 0)), none, []⟩, ⟨(some 55), (.mv (.t 9)), none, []⟩, ⟨(some 56), (.mv (.t 12)), none, []⟩, ⟨(some 57), (.mv (.t 8)), none, []⟩, ⟨(some 58), (.mv (.t 3)), none, []⟩, ⟨(some 59), (.call (.c (.fn 122 [] [])) [(.t 54), (.t 55), (.t 56), (.t 57), (.t 58)]), none, []⟩]))) (.reg [⟨(some 34), (.mv (.t 12)), none, []⟩, ⟨(some 35), (.ar .sub (.t 34) (.c (.int .i64 (1)))), none, []⟩, ⟨(some 12), (.mv (.t 35)), none, []⟩])))))))))), 60, [], false, fun _ => none⟩
noncomputable def c112 : CFn := ⟨(.seq (.reg [⟨(some 13), (.mv (.t 2)), none, []⟩, ⟨(some 14), (.mv (.t 1)), none, []⟩, ⟨(some 15), (.ar .sub (.t 13) (.t 14)), none, []⟩, ⟨(some 8), (.mv (.t 15)), none, []⟩]) (.seq (.reg [⟨(some 16), (.mv (.t 8)), none, []⟩, ⟨(some 17), (.ar .geq (.t 16) (.c (.int .i64 (8)))), none, []⟩]) (.cond (.t 17) (.seq (.reg [⟨(some 18), (.mv (.t 8)), none, []⟩, ⟨(some 19), (.conv .u64 (.t 18)), none, []⟩, ⟨(some 9), (.new [(.int .u64 (0))]), none, []⟩, ⟨none, (.st 1 (.t 9) (.t 19)), none, []⟩]) (.seq (.reg [⟨(some 20), (.mv (.t 8)), none, []⟩, ⟨(some 21), (.call (.c (.fn 123 [] [])) [(.t 20)]), none, []⟩, ⟨(some 10), (.mv (.t 21)), none, []⟩]) (.seq (.reg [⟨(some 22), (.mv (.t 1)), none, []⟩, ⟨(some 23), (.mv (.t 8)), none, []⟩, ⟨(some 24), (.ar .quo (.t 23) (.c (.int .i64 (4)))), none, []⟩, ⟨(some 25), (.ar .mul (.t 24) (.c (.int .i64 (2)))), none, []⟩, ⟨(some 26), (.ar .add (.t 22) (.t 25)), none, []⟩, ⟨(some 27), (.ar .sub (.t 26) (.c (.int .i64 (1)))), none, []⟩, ⟨(some 11), (.mv (.t 27)), none, []⟩]) (.block 0 (.loop 3843 (.seq (.seq (.reg [⟨(some 28), (.mv (.t 11)), none, []⟩, ⟨(some 29), (.mv (.t 1)), none, []⟩, ⟨(some 30), (.mv (.t 8)), none, []⟩, ⟨(some 31), (.ar .quo (.t 30) (.c (.int .i64 (4)))), none, []⟩, ⟨(some 32), (.ar .mul (.t 31) (.c (.int .i64 (2)))), none, []⟩, ⟨(some 33), (.ar .add (.t 29) (.t 32)), none, []⟩, ⟨(some 34), (.ar .add (.t 33) (.c (.int .i64 (1)))), none, []⟩, ⟨(some 35), (.ar .leq (.t 28) (.t 34)), none, []⟩]) (.cond (.t 35) .skip (.exit 0))) (.seq (.block 1 (.seq (.reg [⟨(some 38), (.call (.c (.fn 124 [] [])) [(.t 9)]), none, []⟩, ⟨(some 39), (.mv (.t 10)), none, []⟩, ⟨(some 40), (.ar .sub (.t 39) (.c (.int .u64 (1)))), none, []⟩, ⟨(some 41), (.ar .and (.t 38) (.t 40)), none, []⟩, ⟨(some 42), (.conv .i64 (.t 41)), none, []⟩, ⟨(some 12), (.mv (.t 42)), none, []⟩]) (.seq (.seq (.reg [⟨(some 43), (.mv (.t 12)), none, []⟩, ⟨(some 44), (.mv (.t 8)), none, []⟩, ⟨(some 45), (.ar .geq (.t 43) (.t 44)), none, []⟩]) (.cond (.t 45) (.reg [⟨(some 46), (.mv (.t 12)), none, []⟩, ⟨(some 47), (.mv (.t 8)), none, []⟩, ⟨(some 48), (.ar .sub (.t 46) (.t 47)), none, []⟩, ⟨(some 12), (.mv (.t 48)), none, []⟩]) .skip)) (.drw [⟨(some 49), (.mv (.t 0)), none, []⟩, ⟨(some 50), (.mv (.t 11)), none, [0]⟩, ⟨(some 51), (.mv (.t 0)), none, [0, 1]⟩, ⟨(some 52), (.mv (.t 1)), none, [0, 1, 2]⟩, ⟨(some 53), (.mv (.t 12)), none, [0, 1, 2, 3]⟩, ⟨(some 54), (.ar .add (.t 52) (.t 53)), none, [0, 1, 2]⟩, ⟨(some 55), (.mv (.t 0)), none, [0, 1, 2, 3, 4, 5]⟩, ⟨(some 56), (.mv (.t 1)), none, [0, 1, 2, 3, 4, 5, 6]⟩, ⟨(some 57), (.mv (.t 12)), none, [0, 1, 2, 3, 4, 5, 6, 7]⟩, ⟨(some 58), (.ar .add (.t 56) (.t 57)), none, [0, 1, 2, 3, 4, 5, 6]⟩, ⟨(some 59), (.ias 4 (.t 55) (.t 58)), none, [0, 1, 2, 3, 4, 5]⟩, ⟨(some 60), (.ldn 4 (.t 59)), none, [0, 1, 2, 3, 4, 5]⟩, ⟨(some 61), (.mv (.t 0)), none, [0, 1, 2, 3, 4, 5, 6, 7, 8, 9, 10, 11]⟩, ⟨(some 62), (.mv (.t 11)), none, [0, 1, 2, 3, 4, 5, 6, 7, 8, 9, 10, 11, 12]⟩, ⟨(some 63), (.ias 4 (.t 61) (.t 62)), none, [0, 1, 2, 3, 4, 5, 6, 7, 8, 9, 10, 11]⟩, ⟨(some 64), (.ldn 4 (.t 63)), none, [0, 1, 2, 3, 4, 5, 6, 7, 8, 9, 10, 11]⟩, ⟨(some 65), (.ias 4 (.t 49) (.t 50)), none, [2, 3, 4, 5]⟩, ⟨none, (.st 4 (.t 65) (.t 60)), none, [2, 3, 4, 5]⟩, ⟨(some 66), (.ias 4 (.t 51) (.t 54)), none, []⟩, ⟨none, (.st 4 (.t 66) (.t 64)), none, []⟩])))) (.reg [⟨(some 36), (.mv (.t 11)), none, []⟩, ⟨(some 37), (.ar .add (.t 36) (.c (.int .i64 (1)))), none, []⟩, ⟨(some 11), (.mv (.t 37)), none, []⟩])))))))) .skip))), 67, [], false, fun _ => none⟩
noncomputable def c113 : CFn := ⟨(.seq (.reg [⟨(some 8), (.mv (.c (.int .i64 (0)))), none, []⟩, ⟨(some 9), (.mv (.c (.int .i64 (0)))), none, []⟩]) (.seq (.reg [⟨(some 15), (.mv (.t 2)), none, []⟩, ⟨(some 16), (.mv (.t 1)), none, []⟩, ⟨(some 17), (.ar .sub (.t 15) (.t 16)), none, []⟩, ⟨(some 10), (.mv (.t 17)), none, []⟩]) (.seq (.reg [⟨(some 11), (.new [(.int .i64 (0))]), none, []⟩]) (.seq (.reg [⟨(some 18), (.mv (.t 1)), none, []⟩, ⟨(some 19), (.mv (.t 10)), none, []⟩, ⟨(some 20), (.ar .quo (.t 19) (.c (.int .i64 (4)))), none, []⟩, ⟨(some 21), (.ar .mul (.t 20) (.c (.int .i64 (1)))), none, []⟩, ⟨(some 22), (.ar .add (.t 18) (.t 21)), none, []⟩, ⟨(some 12), (.mv (.t 22)), none, []⟩]) (.seq (.reg [⟨(some 23), (.mv (.t 1)), none, []⟩, ⟨(some 24), (.mv (.t 10)), none, []⟩, ⟨(some 25), (.ar .quo (.t 24) (.c (.int .i64 (4)))), none, []⟩, ⟨(some 26), (.ar .mul (.t 25) (.c (.int .i64 (2)))), none, []⟩, ⟨(some 27), (.ar .add (.t 23) (.t 26)), none, []⟩, ⟨(some 13), (.mv (.t 27)), none, []⟩]) (.seq (.reg [⟨(some 28), (.mv (.t 1)), none, []⟩, ⟨(some 29), (.mv (.t 10)), none, []⟩, ⟨(some 30), (.ar .quo (.t 29) (.c (.int .i64 (4)))), none, []⟩, ⟨(some 31), (.ar .mul (.t 30) (.c (.int .i64 (3)))), none, []⟩, ⟨(some 32), (.ar .add (.t 28) (.t 31)), none, []⟩, ⟨(some 14), (.mv (.t 32)), none, []⟩]) (.seq (.seq (.reg [⟨(some 33), (.mv (.t 10)), none, []⟩, ⟨(some 34), (.ar .geq (.t 33) (.c (.int .i64 (8)))), none, []⟩]) (.cond (.t 34) (.seq (.seq (.reg [⟨(some 35), (.mv (.t 10)), none, []⟩, ⟨(some 36), (.ar .geq (.t 35) (.c (.int .i64 (50)))), none, []⟩]) (.cond (.t 36) (.seq (.reg [⟨(some 37), (.mv (.t 0)), none, []⟩, ⟨(some 38), (.mv (.t 12)), none, []⟩, ⟨(some 39), (.mv (.t 3)), none, []⟩, ⟨(some 40), (.call (.c (.fn 125 [] [])) [(.t 37), (.t 38), (.t 11), (.t 39)]), none, []⟩, ⟨(some 12), (.mv (.t 40)), none, []⟩]) (.seq (.reg [⟨(some 41), (.mv (.t 0)), none, []⟩, ⟨(some 42), (.mv (.t 13)), none, []⟩, ⟨(some 43), (.mv (.t 3)), none, []⟩, ⟨(some 44), (.call (.c (.fn 125 [] [])) [(.t 41), (.t 42), (.t 11), (.t 43)]), none, []⟩, ⟨(some 13), (.mv (.t 44)), none, []⟩]) (.reg [⟨(some 45), (.mv (.t 0)), none, []⟩, ⟨(some 46), (.mv (.t 14)), none, []⟩, ⟨(some 47), (.mv (.t 3)), none, []⟩, ⟨(some 48), (.call (.c (.fn 125 [] [])) [(.t 45), (.t 46), (.t 11), (.t 47)]), none, []⟩, ⟨(some 14), (.mv (.t 48)), none, []⟩]))) .skip)) (.reg [⟨(some 49), (.mv (.t 0)), none, []⟩, ⟨(some 50), (.mv (.t 12)), none, []⟩, ⟨(some 51), (.mv (.t 13)), none, []⟩, ⟨(some 52), (.mv (.t 14)), none, []⟩, ⟨(some 53), (.mv (.t 3)), none, []⟩, ⟨(some 54), (.call (.c (.fn 126 [] [])) [(.t 49), (.t 50), (.t 51), (.t 52), (.t 11), (.t 53)]), none, []⟩, ⟨(some 13), (.mv (.t 54)), none, []⟩])) .skip)) (.seq (.reg [⟨(some 55), (.ld (.t 11)), none, []⟩]) (.block 0 (.seq (.reg [⟨(some 58), (.ar .eql (.t 55) (.c (.int .i64 (0)))), none, []⟩, ⟨(some 57), (.mv (.t 58)), none, []⟩]) (.cond (.t 57) (.seq (.reg [⟨(some 59), (.mv (.t 13)), none, []⟩, ⟨(some 8), (.mv (.t 59)), none, []⟩, ⟨(some 9), (.mv (.c (.int .i64 (1)))), none, []⟩]) .ret) (.seq (.reg [⟨(some 61), (.ar .eql (.t 55) (.c (.int .i64 (12)))), none, []⟩, ⟨(some 60), (.mv (.t 61)), none, []⟩]) (.cond (.t 60) (.seq (.reg [⟨(some 62), (.mv (.t 13)), none, []⟩, ⟨(some 8), (.mv (.t 62)), none, []⟩, ⟨(some 9), (.mv (.c (.int .i64 (2)))), none, []⟩]) .ret) (.seq (.reg [⟨(some 56), (.mv (.t 13)), none, []⟩, ⟨(some 8), (.mv (.t 56)), none, []⟩, ⟨(some 9), (.mv (.c (.int .i64 (0)))), none, []⟩]) .ret)))))))))))))), 63, [(.tmp 8), (.tmp 9)], false, fun _ => none⟩
noncomputable def c114 : CFn := ⟨(.seq (.reg [⟨(some 10), (.mv (.t 1)), none, []⟩, ⟨(some 8), (.mv (.t 10)), none, []⟩]) (.seq (.reg [⟨(some 11), (.mv (.t 2)), none, []⟩, ⟨(some 12), (.ar .sub (.t 11) (.c (.int .i64 (1)))), none, []⟩, ⟨(some 9), (.mv (.t 12)), none, []⟩]) (.block 0 (.loop 769 (.seq (.seq (.reg [⟨(some 13), (.mv (.t 8)), none, []⟩, ⟨(some 14), (.mv (.t 9)), none, []⟩, ⟨(some 15), (.ar .lss (.t 13) (.t 14)), none, []⟩]) (.cond (.t 15) .skip (.exit 0))) (.block 1 (.seq (.drw [⟨(some 16), (.mv (.t 0)), none, []⟩, ⟨(some 17), (.mv (.t 8)), none, [0]⟩, ⟨(some 18), (.mv (.t 0)), none, [0, 1]⟩, ⟨(some 19), (.mv (.t 9)), none, [0, 1, 2]⟩, ⟨(some 20), (.mv (.t 0)), none, [0, 1, 2, 3]⟩, ⟨(some 21), (.mv (.t 9)), none, [0, 1, 2, 3, 4]⟩, ⟨(some 22), (.ias 4 (.t 20) (.t 21)), none, [0, 1, 2, 3]⟩, ⟨(some 23), (.ldn 4 (.t 22)), none, [0, 1, 2, 3]⟩, ⟨(some 24), (.mv (.t 0)), none, [0, 1, 2, 3, 4, 5, 6, 7]⟩, ⟨(some 25), (.mv (.t 8)), none, [0, 1, 2, 3, 4, 5, 6, 7, 8]⟩, ⟨(some 26), (.ias 4 (.t 24) (.t 25)), none, [0, 1, 2, 3, 4, 5, 6, 7]⟩, ⟨(some 27), (.ldn 4 (.t 26)), none, [0, 1, 2, 3, 4, 5, 6, 7]⟩, ⟨(some 28), (.ias 4 (.t 16) (.t 17)), none, [2, 3]⟩, ⟨none, (.st 4 (.t 28) (.t 23)), none, [2, 3]⟩, ⟨(some 29), (.ias 4 (.t 18) (.t 19)), none, []⟩, ⟨none, (.st 4 (.t 29) (.t 27)), none, []⟩]) (.seq (.reg [⟨(some 30), (.mv (.t 8)), none, []⟩, ⟨(some 31), (.ar .add (.t 30) (.c (.int .i64 (1)))), none, []⟩, ⟨(some 8), (.mv (.t 31)), none, []⟩]) (.reg [⟨(some 32), (.mv (.t 9)), none, []⟩, ⟨(some 33), (.ar .sub (.t 32) (.c (.int .i64 (1)))), none, []⟩, ⟨(some 9), (.mv (.t 33)), none, []⟩]))))))))), 34, [], false, fun _ => none⟩
noncomputable def c115 : CFn := ⟨(.seq (.reg [⟨(some 8), (.mv (.c (.bool false))), none, []⟩]) (.seq (.reg [⟨(some 13), (.mv (.t 1)), none, []⟩, ⟨(some 14), (.ar .add (.t 13) (.c (.int .i64 (1)))), none, []⟩, ⟨(some 9), (.mv (.t 14)), none, []⟩]) (.seq (.seq (.reg [⟨(some 10), (.mv (.c (.int .i64 (0)))), none, []⟩]) (.block 0 (.loop 1551 (.seq (.seq (.reg [⟨(some 15), (.mv (.t 10)), none, []⟩, ⟨(some 16), (.ar .lss (.t 15) (.c (.int .i64 (5)))), none, []⟩]) (.cond (.t 16) .skip (.exit 0))) (.seq (.block 1 (.seq (.block 2 (.loop 1551 (.seq (.seq (.drw [⟨(some 19), (.mv (.t 9)), none, []⟩, ⟨(some 20), (.mv (.t 2)), none, [0]⟩, ⟨(some 21), (.ar .lss (.t 19) (.t 20)), none, []⟩, ⟨(some 22), (.mv (.t 21)), none, []⟩, ⟨(some 23), (.mv (.t 3)), (some (22, true)), []⟩, ⟨(some 24), (.mv (.t 0)), (some (22, true)), [4]⟩, ⟨(some 25), (.mv (.t 9)), (some (22, true)), [4, 5]⟩, ⟨(some 26), (.ias 4 (.t 24) (.t 25)), (some (22, true)), [4]⟩, ⟨(some 27), (.ldn 4 (.t 26)), (some (22, true)), [4]⟩, ⟨(some 28), (.mv (.t 0)), (some (22, true)), [4, 5, 6, 7, 8]⟩, ⟨(some 29), (.mv (.t 9)), (some (22, true)), [4, 5, 6, 7, 8, 9]⟩, ⟨(some 30), (.ar .sub (.t 29) (.c (.int .i64 (1)))), (some (22, true)), [4, 5, 6, 7, 8, 9]⟩, ⟨(some 31), (.ias 4 (.t 28) (.t 30)), (some (22, true)), [4, 5, 6, 7, 8]⟩, ⟨(some 32), (.ldn 4 (.t 31)), (some (22, true)), [4, 5, 6, 7, 8]⟩, ⟨(some 33), (.call (.t 23) [(.t 27), (.t 32)]), (some (22, true)), []⟩, ⟨(some 34), (.ar .lss (.t 33) (.c (.int .i64 (0)))), (some (22, true)), []⟩, ⟨(some 35), (.un .not (.t 34)), (some (22, true)), []⟩, ⟨(some 36), (.pick (.t 22) (.t 35) (.c (.bool false))), none, []⟩]) (.cond (.t 36) .skip (.exit 2))) (.block 3 (.reg [⟨(some 37), (.mv (.t 9)), none, []⟩, ⟨(some 38), (.ar .add (.t 37) (.c (.int .i64 (1)))), none, []⟩, ⟨(some 9), (.mv (.t 38)), none, []⟩]))))) (.seq (.seq (.reg [⟨(some 39), (.mv (.t 9)), none, []⟩, ⟨(some 40), (.mv (.t 2)), none, []⟩, ⟨(some 41), (.ar .eql (.t 39) (.t 40)), none, []⟩]) (.cond (.t 41) (.seq (.reg [⟨(some 8), (.mv (.c (.bool true))), none, []⟩]) .ret) .skip)) (.seq (.seq (.reg [⟨(some 42), (.mv (.t 2)), none, []⟩, ⟨(some 43), (.mv (.t 1)), none, []⟩, ⟨(some 44), (.ar .sub (.t 42) (.t 43)), none, []⟩, ⟨(some 45), (.ar .lss (.t 44) (.c (.int .i64 (50)))), none, []⟩]) (.cond (.t 45) (.seq (.reg [⟨(some 8), (.mv (.c (.bool false))), none, []⟩]) .ret) .skip)) (.seq (.drw [⟨(some 46), (.mv (.t 0)), none, []⟩, ⟨(some 47), (.mv (.t 9)), none, [0]⟩, ⟨(some 48), (.mv (.t 0)), none, [0, 1]⟩, ⟨(some 49), (.mv (.t 9)), none, [0, 1, 2]⟩, ⟨(some 50), (.ar .sub (.t 49) (.c (.int .i64 (1)))), none, [0, 1, 2]⟩, ⟨(some 51), (.mv (.t 0)), none, [0, 1, 2, 3, 4]⟩, ⟨(some 52), (.mv (.t 9)), none, [0, 1, 2, 3, 4, 5]⟩, ⟨(some 53), (.ar .sub (.t 52) (.c (.int .i64 (1)))), none, [0, 1, 2, 3, 4, 5]⟩, ⟨(some 54), (.ias 4 (.t 51) (.t 53)), none, [0, 1, 2, 3, 4]⟩, ⟨(some 55), (.ldn 4 (.t 54)), none, [0, 1, 2, 3, 4]⟩, ⟨(some 56), (.mv (.t 0)), none, [0, 1, 2, 3, 4, 5, 6, 7, 8, 9]⟩, ⟨(some 57), (.mv (.t 9)), none, [0, 1, 2, 3, 4, 5, 6, 7, 8, 9, 10]⟩, ⟨(some 58), (.ias 4 (.t 56) (.t 57)), none, [0, 1, 2, 3, 4, 5, 6, 7, 8, 9]⟩, ⟨(some 59), (.ldn 4 (.t 58)), none, [0, 1, 2, 3, 4, 5, 6, 7, 8, 9]⟩, ⟨(some 60), (.ias 4 (.t 46) (.t 47)), none, [2, 3, 4]⟩, ⟨none, (.st 4 (.t 60) (.t 55)), none, [2, 3, 4]⟩, ⟨(some 61), (.ias 4 (.t 48) (.t 50)), none, []⟩, ⟨none, (.st 4 (.t 61) (.t 59)), none, []⟩]) (.seq (.seq (.reg [⟨(some 62), (.mv (.t 9)), none, []⟩, ⟨(some 63), (.mv (.t 1)), none, []⟩, ⟨(some 64), (.ar .sub (.t 62) (.t 63)), none, []⟩, ⟨(some 65), (.ar .geq (.t 64) (.c (.int .i64 (2)))), none, []⟩]) (.cond (.t 65) (.seq (.reg [⟨(some 66), (.mv (.t 9)), none, []⟩, ⟨(some 67), (.ar .sub (.t 66) (.c (.int .i64 (1)))), none, []⟩, ⟨(some 11), (.mv (.t 67)), none, []⟩]) (.block 4 (.loop 3599 (.seq (.seq (.reg [⟨(some 68), (.mv (.t 11)), none, []⟩, ⟨(some 69), (.ar .geq (.t 68) (.c (.int .i64 (1)))), none, []⟩]) (.cond (.t 69) .skip (.exit 4))) (.seq (.block 5 (.seq (.seq (.drw [⟨(some 72), (.mv (.t 3)), none, []⟩, ⟨(some 73), (.mv (.t 0)), none, [0]⟩, ⟨(some 74), (.mv (.t 11)), none, [0, 1]⟩, ⟨(some 75), (.ias 4 (.t 73) (.t 74)), none, [0]⟩, ⟨(some 76), (.ldn 4 (.t 75)), none, [0]⟩, ⟨(some 77), (.mv (.t 0)), none, [0, 1, 2, 3, 4]⟩, ⟨(some 78), (.mv (.t 11)), none, [0, 1, 2, 3, 4, 5]⟩, ⟨(some 79), (.ar .sub (.t 78) (.c (.int .i64 (1)))), none, [0, 1, 2, 3, 4, 5]⟩, ⟨(some 80), (.ias 4 (.t 77) (.t 79)), none, [0, 1, 2, 3, 4]⟩, ⟨(some 81), (.ldn 4 (.t 80)), none, [0, 1, 2, 3, 4]⟩, ⟨(some 82), (.call (.t 72) [(.t 76), (.t 81)]), none, []⟩, ⟨(some 83), (.ar .lss (.t 82) (.c (.int .i64 (0)))), none, []⟩, ⟨(some 84), (.un .not (.t 83)), none, []⟩]) (.cond (.t 84) (.exit 4) .skip)) (.drw [⟨(some 85), (.mv (.t 0)), none, []⟩, ⟨(some 86), (.mv (.t 11)), none, [0]⟩, ⟨(some 87), (.mv (.t 0)), none, [0, 1]⟩, ⟨(some 88), (.mv (.t 11)), none, [0, 1, 2]⟩, ⟨(some 89), (.ar .sub (.t 88) (.c (.int .i64 (1)))), none, [0, 1, 2]⟩, ⟨(some 90), (.mv (.t 0)), none, [0, 1, 2, 3, 4]⟩, ⟨(some 91), (.mv (.t 11)), none, [0, 1, 2, 3, 4, 5]⟩, ⟨(some 92), (.ar .sub (.t 91) (.c (.int .i64 (1)))), none, [0, 1, 2, 3, 4, 5]⟩, ⟨(some 93), (.ias 4 (.t 90) (.t 92)), none, [0, 1, 2, 3, 4]⟩, ⟨(some 94), (.ldn 4 (.t 93)), none, [0, 1, 2, 3, 4]⟩, ⟨(some 95), (.mv (.t 0)), none, [0, 1, 2, 3, 4, 5, 6, 7, 8, 9]⟩, ⟨(some 96), (.mv (.t 11)), none, [0, 1, 2, 3, 4, 5, 6, 7, 8, 9, 10]⟩, ⟨(some 97), (.ias 4 (.t 95) (.t 96)), none, [0, 1, 2, 3, 4, 5, 6, 7, 8, 9]⟩, ⟨(some 98), (.ldn 4 (.t 97)), none, [0, 1, 2, 3, 4, 5, 6, 7, 8, 9]⟩, ⟨(some 99), (.ias 4 (.t 85) (.t 86)), none, [2, 3, 4]⟩, ⟨none, (.st 4 (.t 99) (.t 94)), none, [2, 3, 4]⟩, ⟨(some 100), (.ias 4 (.t 87) (.t 89)), none, []⟩, ⟨none, (.st 4 (.t 100) (.t 98)), none, []⟩]))) (.reg [⟨(some 70), (.mv (.t 11)), none, []⟩, ⟨(some 71), (.ar .sub (.t 70) (.c (.int .i64 (1)))), none, []⟩, ⟨(some 11), (.mv (.t 71)), none, []⟩])))))) .skip)) (.seq (.reg [⟨(some 101), (.mv (.t 2)), none, []⟩, ⟨(some 102), (.mv (.t 9)), none, []⟩, ⟨(some 103), (.ar .sub (.t 101) (.t 102)), none, []⟩, ⟨(some 104), (.ar .geq (.t 103) (.c (.int .i64 (2)))), none, []⟩]) (.cond (.t 104) (.seq (.reg [⟨(some 105), (.mv (.t 9)), none, []⟩, ⟨(some 106), (.ar .add (.t 105) (.c (.int .i64 (1)))), none, []⟩, ⟨(some 12), (.mv (.t 106)), none, []⟩]) (.block 6 (.loop 5647 (.seq (.seq (.reg [⟨(some 107), (.mv (.t 12)), none, []⟩, ⟨(some 108), (.mv (.t 2)), none, []⟩, ⟨(some 109), (.ar .lss (.t 107) (.t 108)), none, []⟩]) (.cond (.t 109) .skip (.exit 6))) (.seq (.block 7 (.seq (.seq (.drw [⟨(some 112), (.mv (.t 3)), none, []⟩, ⟨(some 113), (.mv (.t 0)), none, [0]⟩, ⟨(some 114), (.mv (.t 12)), none, [0, 1]⟩, ⟨(some 115), (.ias 4 (.t 113) (.t 114)), none, [0]⟩, ⟨(some 116), (.ldn 4 (.t 115)), none, [0]⟩, ⟨(some 117), (.mv (.t 0)), none, [0, 1, 2, 3, 4]⟩, ⟨(some 118), (.mv (.t 12)), none, [0, 1, 2, 3, 4, 5]⟩, ⟨(some 119), (.ar .sub (.t 118) (.c (.int .i64 (1)))), none, [0, 1, 2, 3, 4, 5]⟩, ⟨(some 120), (.ias 4 (.t 117) (.t 119)), none, [0, 1, 2, 3, 4]⟩, ⟨(some 121), (.ldn 4 (.t 120)), none, [0, 1, 2, 3, 4]⟩, ⟨(some 122), (.call (.t 112) [(.t 116), (.t 121)]), none, []⟩, ⟨(some 123), (.ar .lss (.t 122) (.c (.int .i64 (0)))), none, []⟩, ⟨(some 124), (.un .not (.t 123)), none, []⟩]) (.cond (.t 124) (.exit 6) .skip)) (.drw [⟨(some 125), (.mv (.t 0)), none, []⟩, ⟨(some 126), (.mv (.t 12)), none, [0]⟩, ⟨(some 127), (.mv (.t 0)), none, [0, 1]⟩, ⟨(some 128), (.mv (.t 12)), none, [0, 1, 2]⟩, ⟨(some 129), (.ar .sub (.t 128) (.c (.int .i64 (1)))), none, [0, 1, 2]⟩, ⟨(some 130), (.mv (.t 0)), none, [0, 1, 2, 3, 4]⟩, ⟨(some 131), (.mv (.t 12)), none, [0, 1, 2, 3, 4, 5]⟩, ⟨(some 132), (.ar .sub (.t 131) (.c (.int .i64 (1)))), none, [0, 1, 2, 3, 4, 5]⟩, ⟨(some 133), (.ias 4 (.t 130) (.t 132)), none, [0, 1, 2, 3, 4]⟩, ⟨(some 134), (.ldn 4 (.t 133)), none, [0, 1, 2, 3, 4]⟩, ⟨(some 135), (.mv (.t 0)), none, [0, 1, 2, 3, 4, 5, 6, 7, 8, 9]⟩, ⟨(some 136), (.mv (.t 12)), none, [0, 1, 2, 3, 4, 5, 6, 7, 8, 9, 10]⟩, ⟨(some 137), (.ias 4 (.t 135) (.t 136)), none, [0, 1, 2, 3, 4, 5, 6, 7, 8, 9]⟩, ⟨(some 138), (.ldn 4 (.t 137)), none, [0, 1, 2, 3, 4, 5, 6, 7, 8, 9]⟩, ⟨(some 139), (.ias 4 (.t 125) (.t 126)), none, [2, 3, 4]⟩, ⟨none, (.st 4 (.t 139) (.t 134)), none, [2, 3, 4]⟩, ⟨(some 140), (.ias 4 (.t 127) (.t 129)), none, []⟩, ⟨none, (.st 4 (.t 140) (.t 138)), none, []⟩]))) (.reg [⟨(some 110), (.mv (.t 12)), none, []⟩, ⟨(some 111), (.ar .add (.t 110) (.c (.int .i64 (1)))), none, []⟩, ⟨(some 12), (.mv (.t 111)), none, []⟩])))))) .skip)))))))) (.reg [⟨(some 17), (.mv (.t 10)), none, []⟩, ⟨(some 18), (.ar .add (.t 17) (.c (.int .i64 (1)))), none, []⟩, ⟨(some 10), (.mv (.t 18)), none, []⟩])))))) (.seq (.reg [⟨(some 8), (.mv (.c (.bool false))), none, []⟩]) .ret)))), 141, [(.tmp 8)], false, fun _ => none⟩
noncomputable def c116 : CFn := ⟨(.seq (.reg [⟨(some 10), (.mv (.c (.int .i64 (0)))), none, []⟩]) (.seq (.drw [⟨(some 13), (.mv (.t 0)), none, []⟩, ⟨(some 14), (.mv (.t 1)), none, [0]⟩, ⟨(some 15), (.mv (.t 0)), none, [0, 1]⟩, ⟨(some 16), (.mv (.t 3)), none, [0, 1, 2]⟩, ⟨(some 17), (.mv (.t 0)), none, [0, 1, 2, 3]⟩, ⟨(some 18), (.mv (.t 3)), none, [0, 1, 2, 3, 4]⟩, ⟨(some 19), (.ias 4 (.t 17) (.t 18)), none, [0, 1, 2, 3]⟩, ⟨(some 20), (.ldn 4 (.t 19)), none, [0, 1, 2, 3]⟩, ⟨(some 21), (.mv (.t 0)), none, [0, 1, 2, 3, 4, 5, 6, 7]⟩, ⟨(some 22), (.mv (.t 1)), none, [0, 1, 2, 3, 4, 5, 6, 7, 8]⟩, ⟨(some 23), (.ias 4 (.t 21) (.t 22)), none, [0, 1, 2, 3, 4, 5, 6, 7]⟩, ⟨(some 24), (.ldn 4 (.t 23)), none, [0, 1, 2, 3, 4, 5, 6, 7]⟩, ⟨(some 25), (.ias 4 (.t 13) (.t 14)), none, [2, 3]⟩, ⟨none, (.st 4 (.t 25) (.t 20)), none, [2, 3]⟩, ⟨(some 26), (.ias 4 (.t 15) (.t 16)), none, []⟩, ⟨none, (.st 4 (.t 26) (.t 24)), none, []⟩]) (.seq (.reg [⟨(some 27), (.mv (.t 1)), none, []⟩, ⟨(some 28), (.ar .add (.t 27) (.c (.int .i64 (1)))), none, []⟩, ⟨(some 29), (.mv (.t 2)), none, []⟩, ⟨(some 30), (.ar .sub (.t 29) (.c (.int .i64 (1)))), none, []⟩, ⟨(some 11), (.mv (.t 28)), none, []⟩, ⟨(some 12), (.mv (.t 30)), none, []⟩]) (.seq (.block 0 (.loop 6163 (.block 1 (.seq (.block 2 (.loop 6163 (.seq (.seq (.drw [⟨(some 31), (.mv (.t 11)), none, []⟩, ⟨(some 32), (.mv (.t 12)), none, [0]⟩, ⟨(some 33), (.ar .leq (.t 31) (.t 32)), none, []⟩, ⟨(some 34), (.mv (.t 33)), none, []⟩, ⟨(some 35), (.mv (.t 4)), (some (34, true)), []⟩, ⟨(some 36), (.mv (.t 0)), (some (34, true)), [4]⟩, ⟨(some 37), (.mv (.t 1)), (some (34, true)), [4, 5]⟩, ⟨(some 38), (.ias 4 (.t 36) (.t 37)), (some (34, true)), [4]⟩, ⟨(some 39), (.ldn 4 (.t 38)), (some (34, true)), [4]⟩, ⟨(some 40), (.mv (.t 0)), (some (34, true)), [4, 5, 6, 7, 8]⟩, ⟨(some 41), (.mv (.t 11)), (some (34, true)), [4, 5, 6, 7, 8, 9]⟩, ⟨(some 42), (.ias 4 (.t 40) (.t 41)), (some (34, true)), [4, 5, 6, 7, 8]⟩, ⟨(some 43), (.ldn 4 (.t 42)), (some (34, true)), [4, 5, 6, 7, 8]⟩, ⟨(some 44), (.call (.t 35) [(.t 39), (.t 43)]), (some (34, true)), []⟩, ⟨(some 45), (.ar .lss (.t 44) (.c (.int .i64 (0)))), (some (34, true)), []⟩, ⟨(some 46), (.un .not (.t 45)), (some (34, true)), []⟩, ⟨(some 47), (.pick (.t 34) (.t 46) (.c (.bool false))), none, []⟩]) (.cond (.t 47) .skip (.exit 2))) (.block 3 (.reg [⟨(some 48), (.mv (.t 11)), none, []⟩, ⟨(some 49), (.ar .add (.t 48) (.c (.int .i64 (1)))), none, []⟩, ⟨(some 11), (.mv (.t 49)), none, []⟩]))))) (.seq (.block 4 (.loop 6163 (.seq (.seq (.drw [⟨(some 50), (.mv (.t 11)), none, []⟩, ⟨(some 51), (.mv (.t 12)), none, [0]⟩, ⟨(some 52), (.ar .leq (.t 50) (.t 51)), none, []⟩, ⟨(some 53), (.mv (.t 52)), none, []⟩, ⟨(some 54), (.mv (.t 4)), (some (53, true)), []⟩, ⟨(some 55), (.mv (.t 0)), (some (53, true)), [4]⟩, ⟨(some 56), (.mv (.t 1)), (some (53, true)), [4, 5]⟩, ⟨(some 57), (.ias 4 (.t 55) (.t 56)), (some (53, true)), [4]⟩, ⟨(some 58), (.ldn 4 (.t 57)), (some (53, true)), [4]⟩, ⟨(some 59), (.mv (.t 0)), (some (53, true)), [4, 5, 6, 7, 8]⟩, ⟨(some 60), (.mv (.t 12)), (some (53, true)), [4, 5, 6, 7, 8, 9]⟩, ⟨(some 61), (.ias 4 (.t 59) (.t 60)), (some (53, true)), [4, 5, 6, 7, 8]⟩, ⟨(some 62), (.ldn 4 (.t 61)), (some (53, true)), [4, 5, 6, 7, 8]⟩, ⟨(some 63), (.call (.t 54) [(.t 58), (.t 62)]), (some (53, true)), []⟩, ⟨(some 64), (.ar .lss (.t 63) (.c (.int .i64 (0)))), (some (53, true)), []⟩, ⟨(some 65), (.pick (.t 53) (.t 64) (.c (.bool false))), none, []⟩]) (.cond (.t 65) .skip (.exit 4))) (.block 5 (.reg [⟨(some 66), (.mv (.t 12)), none, []⟩, ⟨(some 67), (.ar .sub (.t 66) (.c (.int .i64 (1)))), none, []⟩, ⟨(some 12), (.mv (.t 67)), none, []⟩]))))) (.seq (.seq (.reg [⟨(some 68), (.mv (.t 11)), none, []⟩, ⟨(some 69), (.mv (.t 12)), none, []⟩, ⟨(some 70), (.ar .gtr (.t 68) (.t 69)), none, []⟩]) (.cond (.t 70) (.exit 0) .skip)) (.seq (.drw [⟨(some 71), (.mv (.t 0)), none, []⟩, ⟨(some 72), (.mv (.t 11)), none, [0]⟩, ⟨(some 73), (.mv (.t 0)), none, [0, 1]⟩, ⟨(some 74), (.mv (.t 12)), none, [0, 1, 2]⟩, ⟨(some 75), (.mv (.t 0)), none, [0, 1, 2, 3]⟩, ⟨(some 76), (.mv (.t 12)), none, [0, 1, 2, 3, 4]⟩, ⟨(some 77), (.ias 4 (.t 75) (.t 76)), none, [0, 1, 2, 3]⟩, ⟨(some 78), (.ldn 4 (.t 77)), none, [0, 1, 2, 3]⟩, ⟨(some 79), (.mv (.t 0)), none, [0, 1, 2, 3, 4, 5, 6, 7]⟩, ⟨(some 80), (.mv (.t 11)), none, [0, 1, 2, 3, 4, 5, 6, 7, 8]⟩, ⟨(some 81), (.ias 4 (.t 79) (.t 80)), none, [0, 1, 2, 3, 4, 5, 6, 7]⟩, ⟨(some 82), (.ldn 4 (.t 81)), none, [0, 1, 2, 3, 4, 5, 6, 7]⟩, ⟨(some 83), (.ias 4 (.t 71) (.t 72)), none, [2, 3]⟩, ⟨none, (.st 4 (.t 83) (.t 78)), none, [2, 3]⟩, ⟨(some 84), (.ias 4 (.t 73) (.t 74)), none, []⟩, ⟨none, (.st 4 (.t 84) (.t 82)), none, []⟩]) (.seq (.reg [⟨(some 85), (.mv (.t 11)), none, []⟩, ⟨(some 86), (.ar .add (.t 85) (.c (.int .i64 (1)))), none, []⟩, ⟨(some 11), (.mv (.t 86)), none, []⟩]) (.reg [⟨(some 87), (.mv (.t 12)), none, []⟩, ⟨(some 88), (.ar .sub (.t 87) (.c (.int .i64 (1)))), none, []⟩, ⟨(some 12), (.mv (.t 88)), none, []⟩]))))))))) (.seq (.reg [⟨(some 89), (.mv (.t 11)), none, []⟩, ⟨(some 10), (.mv (.t 89)), none, []⟩]) .ret))))), 90, [(.tmp 10)], false, fun _ => none⟩
noncomputable def c117 : CFn := ⟨(.seq (.reg [⟨(some 10), (.mv (.c (.int .i64 (0)))), none, []⟩, ⟨(some 11), (.mv (.c (.bool false))), none, []⟩]) (.seq (.drw [⟨(some 14), (.mv (.t 0)), none, []⟩, ⟨(some 15), (.mv (.t 1)), none, [0]⟩, ⟨(some 16), (.mv (.t 0)), none, [0, 1]⟩, ⟨(some 17), (.mv (.t 3)), none, [0, 1, 2]⟩, ⟨(some 18), (.mv (.t 0)), none, [0, 1, 2, 3]⟩, ⟨(some 19), (.mv (.t 3)), none, [0, 1, 2, 3, 4]⟩, ⟨(some 20), (.ias 4 (.t 18) (.t 19)), none, [0, 1, 2, 3]⟩, ⟨(some 21), (.ldn 4 (.t 20)), none, [0, 1, 2, 3]⟩, ⟨(some 22), (.mv (.t 0)), none, [0, 1, 2, 3, 4, 5, 6, 7]⟩, ⟨(some 23), (.mv (.t 1)), none, [0, 1, 2, 3, 4, 5, 6, 7, 8]⟩, ⟨(some 24), (.ias 4 (.t 22) (.t 23)), none, [0, 1, 2, 3, 4, 5, 6, 7]⟩, ⟨(some 25), (.ldn 4 (.t 24)), none, [0, 1, 2, 3, 4, 5, 6, 7]⟩, ⟨(some 26), (.ias 4 (.t 14) (.t 15)), none, [2, 3]⟩, ⟨none, (.st 4 (.t 26) (.t 21)), none, [2, 3]⟩, ⟨(some 27), (.ias 4 (.t 16) (.t 17)), none, []⟩, ⟨none, (.st 4 (.t 27) (.t 25)), none, []⟩]) (.seq (.reg [⟨(some 28), (.mv (.t 1)), none, []⟩, ⟨(some 29), (.ar .add (.t 28) (.c (.int .i64 (1)))), none, []⟩, ⟨(some 30), (.mv (.t 2)), none, []⟩, ⟨(some 31), (.ar .sub (.t 30) (.c (.int .i64 (1)))), none, []⟩, ⟨(some 12), (.mv (.t 29)), none, []⟩, ⟨(some 13), (.mv (.t 31)), none, []⟩]) (.seq (.block 0 (.loop 12307 (.seq (.seq (.drw [⟨(some 32), (.mv (.t 12)), none, []⟩, ⟨(some 33), (.mv (.t 13)), none, [0]⟩, ⟨(some 34), (.ar .leq (.t 32) (.t 33)), none, []⟩, ⟨(some 35), (.mv (.t 34)), none, []⟩, ⟨(some 36), (.mv (.t 4)), (some (35, true)), []⟩, ⟨(some 37), (.mv (.t 0)), (some (35, true)), [4]⟩, ⟨(some 38), (.mv (.t 12)), (some (35, true)), [4, 5]⟩, ⟨(some 39), (.ias 4 (.t 37) (.t 38)), (some (35, true)), [4]⟩, ⟨(some 40), (.ldn 4 (.t 39)), (some (35, true)), [4]⟩, ⟨(some 41), (.mv (.t 0)), (some (35, true)), [4, 5, 6, 7, 8]⟩, ⟨(some 42), (.mv (.t 1)), (some (35, true)), [4, 5, 6, 7, 8, 9]⟩, ⟨(some 43), (.ias 4 (.t 41) (.t 42)), (some (35, true)), [4, 5, 6, 7, 8]⟩, ⟨(some 44), (.ldn 4 (.t 43)), (some (35, true)), [4, 5, 6, 7, 8]⟩, ⟨(some 45), (.call (.t 36) [(.t 40), (.t 44)]), (some (35, true)), []⟩, ⟨(some 46), (.ar .lss (.t 45) (.c (.int .i64 (0)))), (some (35, true)), []⟩, ⟨(some 47), (.pick (.t 35) (.t 46) (.c (.bool false))), none, []⟩]) (.cond (.t 47) .skip (.exit 0))) (.block 1 (.reg [⟨(some 48), (.mv (.t 12)), none, []⟩, ⟨(some 49), (.ar .add (.t 48) (.c (.int .i64 (1)))), none, []⟩, ⟨(some 12), (.mv (.t 49)), none, []⟩]))))) (.seq (.block 2 (.loop 12307 (.seq (.seq (.drw [⟨(some 50), (.mv (.t 12)), none, []⟩, ⟨(some 51), (.mv (.t 13)), none, [0]⟩, ⟨(some 52), (.ar .leq (.t 50) (.t 51)), none, []⟩, ⟨(some 53), (.mv (.t 52)), none, []⟩, ⟨(some 54), (.mv (.t 4)), (some (53, true)), []⟩, ⟨(some 55), (.mv (.t 0)), (some (53, true)), [4]⟩, ⟨(some 56), (.mv (.t 13)), (some (53, true)), [4, 5]⟩, ⟨(some 57), (.ias 4 (.t 55) (.t 56)), (some (53, true)), [4]⟩, ⟨(some 58), (.ldn 4 (.t 57)), (some (53, true)), [4]⟩, ⟨(some 59), (.mv (.t 0)), (some (53, true)), [4, 5, 6, 7, 8]⟩, ⟨(some 60), (.mv (.t 1)), (some (53, true)), [4, 5, 6, 7, 8, 9]⟩, ⟨(some 61), (.ias 4 (.t 59) (.t 60)), (some (53, true)), [4, 5, 6, 7, 8]⟩, ⟨(some 62), (.ldn 4 (.t 61)), (some (53, true)), [4, 5, 6, 7, 8]⟩, ⟨(some 63), (.call (.t 54) [(.t 58), (.t 62)]), (some (53, true)), []⟩, ⟨(some 64), (.ar .lss (.t 63) (.c (.int .i64 (0)))), (some (53, true)), []⟩, ⟨(some 65), (.un .not (.t 64)), (some (53, true)), []⟩, ⟨(some 66), (.pick (.t 53) (.t 65) (.c (.bool false))), none, []⟩]) (.cond (.t 66) .skip (.exit 2))) (.block 3 (.reg [⟨(some 67), (.mv (.t 13)), none, []⟩, ⟨(some 68), (.ar .sub (.t 67) (.c (.int .i64 (1)))), none, []⟩, ⟨(some 13), (.mv (.t 68)), none, []⟩]))))) (.seq (.seq (.reg [⟨(some 69), (.mv (.t 12)), none, []⟩, ⟨(some 70), (.mv (.t 13)), none, []⟩, ⟨(some 71), (.ar .gtr (.t 69) (.t 70)), none, []⟩]) (.cond (.t 71) (.seq (.drw [⟨(some 72), (.mv (.t 0)), none, []⟩, ⟨(some 73), (.mv (.t 13)), none, [0]⟩, ⟨(some 74), (.mv (.t 0)), none, [0, 1]⟩, ⟨(some 75), (.mv (.t 1)), none, [0, 1, 2]⟩, ⟨(some 76), (.mv (.t 0)), none, [0, 1, 2, 3]⟩, ⟨(some 77), (.mv (.t 1)), none, [0, 1, 2, 3, 4]⟩, ⟨(some 78), (.ias 4 (.t 76) (.t 77)), none, [0, 1, 2, 3]⟩, ⟨(some 79), (.ldn 4 (.t 78)), none, [0, 1, 2, 3]⟩, ⟨(some 80), (.mv (.t 0)), none, [0, 1, 2, 3, 4, 5, 6, 7]⟩, ⟨(some 81), (.mv (.t 13)), none, [0, 1, 2, 3, 4, 5, 6, 7, 8]⟩, ⟨(some 82), (.ias 4 (.t 80) (.t 81)), none, [0, 1, 2, 3, 4, 5, 6, 7]⟩, ⟨(some 83), (.ldn 4 (.t 82)), none, [0, 1, 2, 3, 4, 5, 6, 7]⟩, ⟨(some 84), (.ias 4 (.t 72) (.t 73)), none, [2, 3]⟩, ⟨none, (.st 4 (.t 84) (.t 79)), none, [2, 3]⟩, ⟨(some 85), (.ias 4 (.t 74) (.t 75)), none, []⟩, ⟨none, (.st 4 (.t 85) (.t 83)), none, []⟩]) (.seq (.reg [⟨(some 86), (.mv (.t 13)), none, []⟩, ⟨(some 10), (.mv (.t 86)), none, []⟩, ⟨(some 11), (.mv (.c (.bool true))), none, []⟩]) .ret)) .skip)) (.seq (.drw [⟨(some 87), (.mv (.t 0)), none, []⟩, ⟨(some 88), (.mv (.t 12)), none, [0]⟩, ⟨(some 89), (.mv (.t 0)), none, [0, 1]⟩, ⟨(some 90), (.mv (.t 13)), none, [0, 1, 2]⟩, ⟨(some 91), (.mv (.t 0)), none, [0, 1, 2, 3]⟩, ⟨(some 92), (.mv (.t 13)), none, [0, 1, 2, 3, 4]⟩, ⟨(some 93), (.ias 4 (.t 91) (.t 92)), none, [0, 1, 2, 3]⟩, ⟨(some 94), (.ldn 4 (.t 93)), none, [0, 1, 2, 3]⟩, ⟨(some 95), (.mv (.t 0)), none, [0, 1, 2, 3, 4, 5, 6, 7]⟩, ⟨(some 96), (.mv (.t 12)), none, [0, 1, 2, 3, 4, 5, 6, 7, 8]⟩, ⟨(some 97), (.ias 4 (.t 95) (.t 96)), none, [0, 1, 2, 3, 4, 5, 6, 7]⟩, ⟨(some 98), (.ldn 4 (.t 97)), none, [0, 1, 2, 3, 4, 5, 6, 7]⟩, ⟨(some 99), (.ias 4 (.t 87) (.t 88)), none, [2, 3]⟩, ⟨none, (.st 4 (.t 99) (.t 94)), none, [2, 3]⟩, ⟨(some 100), (.ias 4 (.t 89) (.t 90)), none, []⟩, ⟨none, (.st 4 (.t 100) (.t 98)), none, []⟩]) (.seq (.reg [⟨(some 101), (.mv (.t 12)), none, []⟩, ⟨(some 102), (.ar .add (.t 101) (.c (.int .i64 (1)))), none, []⟩, ⟨(some 12), (.mv (.t 102)), none, []⟩]) (.seq (.reg [⟨(some 103), (.mv (.t 13)), none, []⟩, ⟨(some 104), (.ar .sub (.t 103) (.c (.int .i64 (1)))), none, []⟩, ⟨(some 13), (.mv (.t 104)), none, []⟩]) (.seq (.block 4 (.loop 12307 (.block 5 (.seq (.block 6 (.loop 12307 (.seq (.seq (.drw [⟨(some 105), (.mv (.t 12)), none, []⟩, ⟨(some 106), (.mv (.t 13)), none, [0]⟩, ⟨(some 107), (.ar .leq (.t 105) (.t 106)), none, []⟩, ⟨(some 108), (.mv (.t 107)), none, []⟩, ⟨(some 109), (.mv (.t 4)), (some (108, true)), []⟩, ⟨(some 110), (.mv (.t 0)), (some (108, true)), [4]⟩, ⟨(some 111), (.mv (.t 12)), (some (108, true)), [4, 5]⟩, ⟨(some 112), (.ias 4 (.t 110) (.t 111)), (some (108, true)), [4]⟩, ⟨(some 113), (.ldn 4 (.t 112)), (some (108, true)), [4]⟩, ⟨(some 114), (.mv (.t 0)), (some (108, true)), [4, 5, 6, 7, 8]⟩, ⟨(some 115), (.mv (.t 1)), (some (108, true)), [4, 5, 6, 7, 8, 9]⟩, ⟨(some 116), (.ias 4 (.t 114) (.t 115)), (some (108, true)), [4, 5, 6, 7, 8]⟩, ⟨(some 117), (.ldn 4 (.t 116)), (some (108, true)), [4, 5, 6, 7, 8]⟩, ⟨(some 118), (.call (.t 109) [(.t 113), (.t 117)]), (some (108, true)), []⟩, ⟨(some 119), (.ar .lss (.t 118) (.c (.int .i64 (0)))), (some (108, true)), []⟩, ⟨(some 120), (.pick (.t 108) (.t 119) (.c (.bool false))), none, []⟩]) (.cond (.t 120) .skip (.exit 6))) (.block 7 (.reg [⟨(some 121), (.mv (.t 12)), none, []⟩, ⟨(some 122), (.ar .add (.t 121) (.c (.int .i64 (1)))), none, []⟩, ⟨(some 12), (.mv (.t 122)), none, []⟩]))))) (.seq (.block 8 (.loop 12307 (.seq (.seq (.drw [⟨(some 123), (.mv (.t 12)), none, []⟩, ⟨(some 124), (.mv (.t 13)), none, [0]⟩, ⟨(some 125), (.ar .leq (.t 123) (.t 124)), none, []⟩, ⟨(some 126), (.mv (.t 125)), none, []⟩, ⟨(some 127), (.mv (.t 4)), (some (126, true)), []⟩, ⟨(some 128), (.mv (.t 0)), (some (126, true)), [4]⟩, ⟨(some 129), (.mv (.t 13)), (some (126, true)), [4, 5]⟩, ⟨(some 130), (.ias 4 (.t 128) (.t 129)), (some (126, true)), [4]⟩, ⟨(some 131), (.ldn 4 (.t 130)), (some (126, true)), [4]⟩, ⟨(some 132), (.mv (.t 0)), (some (126, true)), [4, 5, 6, 7, 8]⟩, ⟨(some 133), (.mv (.t 1)), (some (126, true)), [4, 5, 6, 7, 8, 9]⟩, ⟨(some 134), (.ias 4 (.t 132) (.t 133)), (some (126, true)), [4, 5, 6, 7, 8]⟩, ⟨(some 135), (.ldn 4 (.t 134)), (some (126, true)), [4, 5, 6, 7, 8]⟩, ⟨(some 136), (.call (.t 127) [(.t 131), (.t 135)]), (some (126, true)), []⟩, ⟨(some 137), (.ar .lss (.t 136) (.c (.int .i64 (0)))), (some (126, true)), []⟩, ⟨(some 138), (.un .not (.t 137)), (some (126, true)), []⟩, ⟨(some 139), (.pick (.t 126) (.t 138) (.c (.bool false))), none, []⟩]) (.cond (.t 139) .skip (.exit 8))) (.block 9 (.reg [⟨(some 140), (.mv (.t 13)), none, []⟩, ⟨(some 141), (.ar .sub (.t 140) (.c (.int .i64 (1)))), none, []⟩, ⟨(some 13), (.mv (.t 141)), none, []⟩]))))) (.seq (.seq (.reg [⟨(some 142), (.mv (.t 12)), none, []⟩, ⟨(some 143), (.mv (.t 13)), none, []⟩, ⟨(some 144), (.ar .gtr (.t 142) (.t 143)), none, []⟩]) (.cond (.t 144) (.exit 4) .skip)) (.seq (.drw [⟨(some 145), (.mv (.t 0)), none, []⟩, ⟨(some 146), (.mv (.t 12)), none, [0]⟩, ⟨(some 147), (.mv (.t 0)), none, [0, 1]⟩, ⟨(some 148), (.mv (.t 13)), none, [0, 1, 2]⟩, ⟨(some 149), (.mv (.t 0)), none, [0, 1, 2, 3]⟩, ⟨(some 150), (.mv (.t 13)), none, [0, 1, 2, 3, 4]⟩, ⟨(some 151), (.ias 4 (.t 149) (.t 150)), none, [0, 1, 2, 3]⟩, ⟨(some 152), (.ldn 4 (.t 151)), none, [0, 1, 2, 3]⟩, ⟨(some 153), (.mv (.t 0)), none, [0, 1, 2, 3, 4, 5, 6, 7]⟩, ⟨(some 154), (.mv (.t 12)), none, [0, 1, 2, 3, 4, 5, 6, 7, 8]⟩, ⟨(some 155), (.ias 4 (.t 153) (.t 154)), none, [0, 1, 2, 3, 4, 5, 6, 7]⟩, ⟨(some 156), (.ldn 4 (.t 155)), none, [0, 1, 2, 3, 4, 5, 6, 7]⟩, ⟨(some 157), (.ias 4 (.t 145) (.t 146)), none, [2, 3]⟩, ⟨none, (.st 4 (.t 157) (.t 152)), none, [2, 3]⟩, ⟨(some 158), (.ias 4 (.t 147) (.t 148)), none, []⟩, ⟨none, (.st 4 (.t 158) (.t 156)), none, []⟩]) (.seq (.reg [⟨(some 159), (.mv (.t 12)), none, []⟩, ⟨(some 160), (.ar .add (.t 159) (.c (.int .i64 (1)))), none, []⟩, ⟨(some 12), (.mv (.t 160)), none, []⟩]) (.reg [⟨(some 161), (.mv (.t 13)), none, []⟩, ⟨(some 162), (.ar .sub (.t 161) (.c (.int .i64 (1)))), none, []⟩, ⟨(some 13), (.mv (.t 162)), none, []⟩]))))))))) (.seq (.drw [⟨(some 163), (.mv (.t 0)), none, []⟩, ⟨(some 164), (.mv (.t 13)), none, [0]⟩, ⟨(some 165), (.mv (.t 0)), none, [0, 1]⟩, ⟨(some 166), (.mv (.t 1)), none, [0, 1, 2]⟩, ⟨(some 167), (.mv (.t 0)), none, [0, 1, 2, 3]⟩, ⟨(some 168), (.mv (.t 1)), none, [0, 1, 2, 3, 4]⟩, ⟨(some 169), (.ias 4 (.t 167) (.t 168)), none, [0, 1, 2, 3]⟩, ⟨(some 170), (.ldn 4 (.t 169)), none, [0, 1, 2, 3]⟩, ⟨(some 171), (.mv (.t 0)), none, [0, 1, 2, 3, 4, 5, 6, 7]⟩, ⟨(some 172), (.mv (.t 13)), none, [0, 1, 2, 3, 4, 5, 6, 7, 8]⟩, ⟨(some 173), (.ias 4 (.t 171) (.t 172)), none, [0, 1, 2, 3, 4, 5, 6, 7]⟩, ⟨(some 174), (.ldn 4 (.t 173)), none, [0, 1, 2, 3, 4, 5, 6, 7]⟩, ⟨(some 175), (.ias 4 (.t 163) (.t 164)), none, [2, 3]⟩, ⟨none, (.st 4 (.t 175) (.t 170)), none, [2, 3]⟩, ⟨(some 176), (.ias 4 (.t 165) (.t 166)), none, []⟩, ⟨none, (.st 4 (.t 176) (.t 174)), none, []⟩]) (.seq (.reg [⟨(some 177), (.mv (.t 13)), none, []⟩, ⟨(some 10), (.mv (.t 177)), none, []⟩, ⟨(some 11), (.mv (.c (.bool false))), none, []⟩]) .ret)))))))))))), 178, [(.tmp 10), (.tmp 11)], false, fun _ => none⟩
noncomputable def c118 : CFn := ⟨(.seq (.reg [⟨(some 2), (.mv (.c (.int .i64 (0)))), none, []⟩]) (.seq (.seq (.reg [⟨(some 3), (.mv (.t 0)), none, []⟩, ⟨(some 4), (.ar .geq (.t 3) (.c (.int .u32 (65536)))), none, []⟩]) (.cond (.t 4) (.seq (.reg [⟨(some 5), (.mv (.t 0)), none, []⟩, ⟨(some 6), (.sh .shr (.t 5) (.c (.int .u64 (16)))), none, []⟩, ⟨(some 0), (.mv (.t 6)), none, []⟩]) (.reg [⟨(some 2), (.mv (.c (.int .i64 (16)))), none, []⟩])) .skip)) (.seq (.seq (.reg [⟨(some 7), (.mv (.t 0)), none, []⟩, ⟨(some 8), (.ar .geq (.t 7) (.c (.int .u32 (256)))), none, []⟩]) (.cond (.t 8) (.seq (.reg [⟨(some 9), (.mv (.t 0)), none, []⟩, ⟨(some 10), (.sh .shr (.t 9) (.c (.int .u64 (8)))), none, []⟩, ⟨(some 0), (.mv (.t 10)), none, []⟩]) (.reg [⟨(some 11), (.mv (.t 2)), none, []⟩, ⟨(some 12), (.ar .add (.t 11) (.c (.int .i64 (8)))), none, []⟩, ⟨(some 2), (.mv (.t 12)), none, []⟩])) .skip)) (.seq (.reg [⟨(some 13), (.mv (.t 2)), none, []⟩, ⟨(some 14), (.mv (.t 0)), none, []⟩, ⟨(some 15), (.conv .u8 (.t 14)), none, []⟩, ⟨(some 16), (.ix 256 1 (.c (.agg [(.int .u8 (0)), (.int .u8 (1)), (.int .u8 (2)), (.int .u8 (2)), (.int .u8 (3)), (.int .u8 (3)), (.int .u8 (3)), (.int .u8 (3)), (.int .u8 (4)), (.int .u8 (4)), (.int .u8 (4)), (.int .u8 (4)), (.int .u8 (4)), (.int .u8 (4)), (.int .u8 (4)), (.int .u8 (4)), (.int .u8 (5)), (.int .u8 (5)), (.int .u8 (5)), (.int .u8 (5)), (.int .u8 (5)), (.int .u8 (5)), (.int .u8 (5)), (.int .u8 (5)), (.int .u8 (5)), (.int .u8 (5)), (.int .u8 (5)), (.int .u8 (5)), (.int .u8 (5)), (.int .u8 (5)), (.int .u8 (5)), (.int .u8 (5)), (.int .u8 (6)), (.int .u8 (6)), (.int .u8 (6)), (.int .u8 (6)), (.int .u8 (6)), (.int .u8 (6)), (.int .u8 (6)), (.int .u8 (6)), (.int .u8 (6)), (.int .u8 (6)), (.int .u8 (6)), (.int .u8 (6)), (.int .u8 (6)), (.int .u8 (6)), (.int .u8 (6)), (.int .u8 (6)), (.int .u8 (6)), (.int .u8 (6)), (.int .u8 (6)), (.int .u8 (6)), (.int .u8 (6)), (.int .u8 (6)), (.int .u8 (6)), (.int .u8 (6)), (.int .u8 (6)), (.int .u8 (6)), (.int .u8 (6)), (.int .u8 (6)), (.int .u8 (6)), (.int .u8 (6)), (.int .u8 (6)), (.int .u8 (6)), (.int .u8 (7)), (.int .u8 (7)), (.int .u8 (7)), (.int .u8 (7)), (.int .u8 (7)), (.int .u8 (7)), (.int .u8 (7)), (.int .u8 (7)), (.int .u8 (7)), (.int .u8 (7)), (.int .u8 (7)), (.int .u8 (7)), (.int .u8 (7)), (.int .u8 (7)), (.int .u8 (7)), (.int .u8 (7)), (.int .u8 (7)), (.int .u8 (7)), (.int .u8 (7)), (.int .u8 (7)), (.int .u8 (7)), (.int .u8 (7)), (.int .u8 (7)), (.int .u8 (7)), (.int .u8 (7)), (.int .u8 (7)), (.int .u8 (7)), (.int .u8 (7)), (.int .u8 (7)), (.int .u8 (7)), (.int .u8 (7)), (.int .u8 (7)), (.int .u8 (7)), (.int .u8 (7)), (.int .u8 (7)), (.int .u8 (7)), (.int .u8 (7)), (.int .u8 (7)), (.int .u8 (7)), (.int .u8 (7)), (.int .u8 (7)), (.int .u8 (7)), (.int .u8 (7)), (.int .u8 (7)), (.int .u8 (7)), (.int .u8 (7)), (.int .u8 (7)), (.int .u8 (7)), (.int .u8 (7)), (.int .u8 (7)), (.int .u8 (7)), (.int .u8 (7)), (.int .u8 (7)), (.int .u8 (7)), (.int .u8 (7)), (.int .u8 (7)), (.int .u8 (7)), (.int .u8 (7)), (.int .u8 (7)), (.int .u8 (7)), (.int .u8 (7)), (.int .u8 (7)), (.int .u8 (7)), (.int .u8 (7)), (.int .u8 (8)), (.int .u8 (8)), (.int .u8 (8)), (.int .u8 (8)), (.int .u8 (8)), (.int .u8 (8)), (.int .u8 (8)), (.int .u8 (8)), (.int .u8 (8)), (.int .u8 (8)), (.int .u8 (8)), (.int .u8 (8)), (.int .u8 (8)), (.int .u8 (8)), (.int .u8 (8)), (.int .u8 (8)), (.int .u8 (8)), (.int .u8 (8)), (.int .u8 (8)), (.int .u8 (8)), (.int .u8 (8)), (.int .u8 (8)), (.int .u8 (8)), (.int .u8 (8)), (.int .u8 (8)), (.int .u8 (8)), (.int .u8 (8)), (.int .u8 (8)), (.int .u8 (8)), (.int .u8 (8)), (.int .u8 (8)), (.int .u8 (8)), (.int .u8 (8)), (.int .u8 (8)), (.int .u8 (8)), (.int .u8 (8)), (.int .u8 (8)), (.int .u8 (8)), (.int .u8 (8)), (.int .u8 (8)), (.int .u8 (8)), (.int .u8 (8)), (.int .u8 (8)), (.int .u8 (8)), (.int .u8 (8)), (.int .u8 (8)), (.int .u8 (8)), (.int .u8 (8)), (.int .u8 (8)), (.int .u8 (8)), (.int .u8 (8)), (.int .u8 (8)), (.int .u8 (8)), (.int .u8 (8)), (.int .u8 (8)), (.int .u8 (8)), (.int .u8 (8)), (.int .u8 (8)), (.int .u8 (8)), (.int .u8 (8)), (.int .u8 (8)), (.int .u8 (8)), (.int .u8 (8)), (.int .u8 (8)), (.int .u8 (8)), (.int .u8 (8)), (.int .u8 (8)), (.int .u8 (8)), (.int .u8 (8)), (.int .u8 (8)), (.int .u8 (8)), (.int .u8 (8)), (.int .u8 (8)), (.int .u8 (8)), (.int .u8 (8)), (.int .u8 (8)), (.int .u8 (8)), (.int .u8 (8)), (.int .u8 (8)), (.int .u8 (8)), (.int .u8 (8)), (.int .u8 (8)), (.int .u8 (8)), (.int .u8 (8)), (.int .u8 (8)), (.int .u8 (8)), (.int .u8 (8)), (.int .u8 (8)), (.int .u8 (8)), (.int .u8 (8)), (.int .u8 (8)), (.int .u8 (8)), (.int .u8 (8)), (.int .u8 (8)), (.int .u8 (8)), (.int .u8 (8)), (.int .u8 (8)), (.int .u8 (8)), (.int .u8 (8)), (.int .u8 (8)), (.int .u8 (8)), (.int .u8 (8)), (.int .u8 (8)), (.int .u8 (8)), (.int .u8 (8)), (.int .u8 (8)), (.int .u8 (8)), (.int .u8 (8)), (.int .u8 (8)), (.int .u8 (8)), (.int .u8 (8)), (.int .u8 (8)), (.int .u8 (8)), (.int .u8 (8)), (.int .u8 (8)), (.int .u8 (8)), (.int .u8 (8)), (.int .u8 (8)), (.int .u8 (8)), (.int .u8 (8)), (.int .u8 (8)), (.int .u8 (8)), (.int .u8 (8)), (.int .u8 (8)), (.int .u8 (8)), (.int .u8 (8)), (.int .u8 (8)), (.int .u8 (8))])) (.t 15)), none, []⟩, ⟨(some 17), (.conv .i64 (.t 16)), none, []⟩, ⟨(some 18), (.ar .add (.t 13) (.t 17)), none, []⟩, ⟨(some 2), (.mv (.t 18)), none, []⟩]) .ret)))), 19, [(.tmp 2)], false, fun _ => none⟩
noncomputable def c119 : CFn := ⟨(.seq (.reg [⟨(some 2), (.mv (.c (.int .i64 (0)))), none, []⟩]) (.seq (.seq (.reg [⟨(some 3), (.mv (.t 0)), none, []⟩, ⟨(some 4), (.ar .geq (.t 3) (.c (.int .u64 (4294967296)))), none, []⟩]) (.cond (.t 4) (.seq (.reg [⟨(some 5), (.mv (.t 0)), none, []⟩, ⟨(some 6), (.sh .shr (.t 5) (.c (.int .u64 (32)))), none, []⟩, ⟨(some 0), (.mv (.t 6)), none, []⟩]) (.reg [⟨(some 2), (.mv (.c (.int .i64 (32)))), none, []⟩])) .skip)) (.seq (.seq (.reg [⟨(some 7), (.mv (.t 0)), none, []⟩, ⟨(some 8), (.ar .geq (.t 7) (.c (.int .u64 (65536)))), none, []⟩]) (.cond (.t 8) (.seq (.reg [⟨(some 9), (.mv (.t 0)), none, []⟩, ⟨(some 10), (.sh .shr (.t 9) (.c (.int .u64 (16)))), none, []⟩, ⟨(some 0), (.mv (.t 10)), none, []⟩]) (.reg [⟨(some 11), (.mv (.t 2)), none, []⟩, ⟨(some 12), (.ar .add (.t 11) (.c (.int .i64 (16)))), none, []⟩, ⟨(some 2), (.mv (.t 12)), none, []⟩])) .skip)) (.seq (.seq (.reg [⟨(some 13), (.mv (.t 0)), none, []⟩, ⟨(some 14), (.ar .geq (.t 13) (.c (.int .u64 (256)))), none, []⟩]) (.cond (.t 14) (.seq (.reg [⟨(some 15), (.mv (.t 0)), none, []⟩, ⟨(some 16), (.sh .shr (.t 15) (.c (.int .u64 (8)))), none, []⟩, ⟨(some 0), (.mv (.t 16)), none, []⟩]) (.reg [⟨(some 17), (.mv (.t 2)), none, []⟩, ⟨(some 18), (.ar .add (.t 17) (.c (.int .i64 (8)))), none, []⟩, ⟨(some 2), (.mv (.t 18)), none, []⟩])) .skip)) (.seq (.reg [⟨(some 19), (.mv (.t 2)), none, []⟩, ⟨(some 20), (.mv (.t 0)), none, []⟩, ⟨(some 21), (.conv .u8 (.t 20)), none, []⟩, ⟨(some 22), (.ix 256 1 (.c (.agg [(.int .u8 (0)), (.int .u8 (1)), (.int .u8 (2)), (.int .u8 (2)), (.int .u8 (3)), (.int .u8 (3)), (.int .u8 (3)), (.int .u8 (3)), (.int .u8 (4)), (.int .u8 (4)), (.int .u8 (4)), (.int .u8 (4)), (.int .u8 (4)), (.int .u8 (4)), (.int .u8 (4)), (.int .u8 (4)), (.int .u8 (5)), (.int .u8 (5)), (.int .u8 (5)), (.int .u8 (5)), (.int .u8 (5)), (.int .u8 (5)), (.int .u8 (5)), (.int .u8 (5)), (.int .u8 (5)), (.int .u8 (5)), (.int .u8 (5)), (.int .u8 (5)), (.int .u8 (5)), (.int .u8 (5)), (.int .u8 (5)), (.int .u8 (5)), (.int .u8 (6)), (.int .u8 (6)), (.int .u8 (6)), (.int .u8 (6)), (.int .u8 (6)), (.int .u8 (6)), (.int .u8 (6)), (.int .u8 (6)), (.int .u8 (6)), (.int .u8 (6)), (.int .u8 (6)), (.int .u8 (6)), (.int .u8 (6)), (.int .u8 (6)), (.int .u8 (6)), (.int .u8 (6)), (.int .u8 (6)), (.int .u8 (6)), (.int .u8 (6)), (.int .u8 (6)), (.int .u8 (6)), (.int .u8 (6)), (.int .u8 (6)), (.int .u8 (6)), (.int .u8 (6)), (.int .u8 (6)), (.int .u8 (6)), (.int .u8 (6)), (.int .u8 (6)), (.int .u8 (6)), (.int .u8 (6)), (.int .u8 (6)), (.int .u8 (7)), (.int .u8 (7)), (.int .u8 (7)), (.int .u8 (7)), (.int .u8 (7)), (.int .u8 (7)), (.int .u8 (7)), (.int .u8 (7)), (.int .u8 (7)), (.int .u8 (7)), (.int .u8 (7)), (.int .u8 (7)), (.int .u8 (7)), (.int .u8 (7)), (.int .u8 (7)), (.int .u8 (7)), (.int .u8 (7)), (.int .u8 (7)), (.int .u8 (7)), (.int .u8 (7)), (.int .u8 (7)), (.int .u8 (7)), (.int .u8 (7)), (.int .u8 (7)), (.int .u8 (7)), (.int .u8 (7)), (.int .u8 (7)), (.int .u8 (7)), (.int .u8 (7)), (.int .u8 (7)), (.int .u8 (7)), (.int .u8 (7)), (.int .u8 (7)), (.int .u8 (7)), (.int .u8 (7)), (.int .u8 (7)), (.int .u8 (7)), (.int .u8 (7)), (.int .u8 (7)), (.int .u8 (7)), (.int .u8 (7)), (.int .u8 (7)), (.int .u8 (7)), (.int .u8 (7)), (.int .u8 (7)), (.int .u8 (7)), (.int .u8 (7)), (.int .u8 (7)), (.int .u8 (7)), (.int .u8 (7)), (.int .u8 (7)), (.int .u8 (7)), (.int .u8 (7)), (.int .u8 (7)), (.int .u8 (7)), (.int .u8 (7)), (.int .u8 (7)), (.int .u8 (7)), (.int .u8 (7)), (.int .u8 (7)), (.int .u8 (7)), (.int .u8 (7)), (.int .u8 (7)), (.int .u8 (7)), (.int .u8 (8)), (.int .u8 (8)), (.int .u8 (8)), (.int .u8 (8)), (.int .u8 (8)), (.int .u8 (8)), (.int .u8 (8)), (.int .u8 (8)), (.int .u8 (8)), (.int .u8 (8)), (.int .u8 (8)), (.int .u8 (8)), (.int .u8 (8)), (.int .u8 (8)), (.int .u8 (8)), (.int .u8 (8)), (.int .u8 (8)), (.int .u8 (8)), (.int .u8 (8)), (.int .u8 (8)), (.int .u8 (8)), (.int .u8 (8)), (.int .u8 (8)), (.int .u8 (8)), (.int .u8 (8)), (.int .u8 (8)), (.int .u8 (8)), (.int .u8 (8)), (.int .u8 (8)), (.int .u8 (8)), (.int .u8 (8)), (.int .u8 (8)), (.int .u8 (8)), (.int .u8 (8)), (.int .u8 (8)), (.int .u8 (8)), (.int .u8 (8)), (.int .u8 (8)), (.int .u8 (8)), (.int .u8 (8)), (.int .u8 (8)), (.int .u8 (8)), (.int .u8 (8)), (.int .u8 (8)), (.int .u8 (8)), (.int .u8 (8)), (.int .u8 (8)), (.int .u8 (8)), (.int .u8 (8)), (.int .u8 (8)), (.int .u8 (8)), (.int .u8 (8)), (.int .u8 (8)), (.int .u8 (8)), (.int .u8 (8)), (.int .u8 (8)), (.int .u8 (8)), (.int .u8 (8)), (.int .u8 (8)), (.int .u8 (8)), (.int .u8 (8)), (.int .u8 (8)), (.int .u8 (8)), (.int .u8 (8)), (.int .u8 (8)), (.int .u8 (8)), (.int .u8 (8)), (.int .u8 (8)), (.int .u8 (8)), (.int .u8 (8)), (.int .u8 (8)), (.int .u8 (8)), (.int .u8 (8)), (.int .u8 (8)), (.int .u8 (8)), (.int .u8 (8)), (.int .u8 (8)), (.int .u8 (8)), (.int .u8 (8)), (.int .u8 (8)), (.int .u8 (8)), (.int .u8 (8)), (.int .u8 (8)), (.int .u8 (8)), (.int .u8 (8)), (.int .u8 (8)), (.int .u8 (8)), (.int .u8 (8)), (.int .u8 (8)), (.int .u8 (8)), (.int .u8 (8)), (.int .u8 (8)), (.int .u8 (8)), (.int .u8 (8)), (.int .u8 (8)), (.int .u8 (8)), (.int .u8 (8)), (.int .u8 (8)), (.int .u8 (8)), (.int .u8 (8)), (.int .u8 (8)), (.int .u8 (8)), (.int .u8 (8)), (.int .u8 (8)), (.int .u8 (8)), (.int .u8 (8)), (.int .u8 (8)), (.int .u8 (8)), (.int .u8 (8)), (.int .u8 (8)), (.int .u8 (8)), (.int .u8 (8)), (.int .u8 (8)), (.int .u8 (8)), (.int .u8 (8)), (.int .u8 (8)), (.int .u8 (8)), (.int .u8 (8)), (.int .u8 (8)), (.int .u8 (8)), (.int .u8 (8)), (.int .u8 (8)), (.int .u8 (8)), (.int .u8 (8)), (.int .u8 (8)), (.int .u8 (8)), (.int .u8 (8)), (.int .u8 (8))])) (.t 21)), none, []⟩, ⟨(some 23), (.conv .i64 (.t 22)), none, []⟩, ⟨(some 24), (.ar .add (.t 19) (.t 23)), none, []⟩, ⟨(some 2), (.mv (.t 24)), none, []⟩]) .ret))))), 25, [(.tmp 2)], false, fun _ => none⟩
noncomputable def c120 : CFn := ⟨(.seq (.reg [⟨(some 4), (.ld (.t 1)), none, []⟩, ⟨(some 5), (.len (.t 4)), none, []⟩, ⟨(some 6), (.ar .sub (.t 5) (.c (.int .i64 (1)))), none, []⟩, ⟨(some 3), (.mv (.t 6)), none, []⟩]) (.block 0 (.loop 11 (.seq (.seq (.reg [⟨(some 7), (.mv (.t 3)), none, []⟩, ⟨(some 8), (.ar .geq (.t 7) (.c (.int .i64 (0)))), none, []⟩]) (.cond (.t 8) .skip (.exit 0))) (.seq (.block 1 (.seq (.reg [⟨(some 11), (.mv (.t 0)), none, []⟩, ⟨(some 12), (.mv (.t 3)), none, []⟩, ⟨(some 13), (.ld (.t 1)), none, []⟩, ⟨(some 14), (.mv (.t 3)), none, []⟩, ⟨(some 15), (.ias 2 (.t 13) (.t 14)), none, []⟩, ⟨(some 16), (.ldn 2 (.t 15)), none, []⟩, ⟨(some 17), (.call (.t 11) [(.t 12), (.t 16)]), none, []⟩, ⟨(some 18), (.un .not (.t 17)), none, []⟩]) (.cond (.t 18) .ret .skip))) (.reg [⟨(some 9), (.mv (.t 3)), none, []⟩, ⟨(some 10), (.ar .sub (.t 9) (.c (.int .i64 (1)))), none, []⟩, ⟨(some 3), (.mv (.t 10)), none, []⟩])))))), 19, [], false, fun _ => none⟩
noncomputable def c121 : CFn := ⟨(.seq (.reg [⟨(some 2), (.box (.t 0)), none, []⟩, ⟨(some 4), (.mv (.c (.int .i64 (0)))), none, []⟩, ⟨(some 5), (.mv (.c (.int .i64 (0)))), none, []⟩]) (.seq (.seq (.reg [⟨(some 6), (.mv (.t 1)), none, []⟩]) (.block 0 (.seq (.reg [⟨(some 8), (.fa 0 (.t 2)), none, []⟩, ⟨(some 9), (.ld (.t 8)), none, []⟩, ⟨(some 10), (.ar .eql (.t 6) (.t 9)), none, []⟩, ⟨(some 7), (.mv (.t 10)), none, []⟩]) (.cond (.t 7) (.seq (.drw [⟨(some 11), (.fa 1 (.t 2)), none, []⟩, ⟨(some 12), (.ld (.t 11)), none, []⟩, ⟨(some 13), (.fa 2 (.t 2)), none, [0, 1]⟩, ⟨(some 14), (.ld (.t 13)), none, [0, 1]⟩, ⟨(some 15), (.ar .sub (.c (.int .i64 (1000000))) (.t 14)), none, [0, 1]⟩, ⟨(some 4), (.mv (.t 12)), none, [2, 3, 4]⟩, ⟨(some 5), (.mv (.t 15)), none, []⟩]) .ret) (.seq (.reg [⟨(some 17), (.fa 1 (.t 2)), none, []⟩, ⟨(some 18), (.ld (.t 17)), none, []⟩, ⟨(some 19), (.ar .eql (.t 6) (.t 18)), none, []⟩, ⟨(some 16), (.mv (.t 19)), none, []⟩]) (.cond (.t 16) (.seq (.drw [⟨(some 20), (.fa 0 (.t 2)), none, []⟩, ⟨(some 21), (.ld (.t 20)), none, []⟩, ⟨(some 22), (.fa 2 (.t 2)), none, [0, 1]⟩, ⟨(some 23), (.ld (.t 22)), none, [0, 1]⟩, ⟨(some 4), (.mv (.t 21)), none, [2, 3]⟩, ⟨(some 5), (.mv (.t 23)), none, []⟩]) .ret) .skip)))))) (.seq (.reg [⟨(some 24), (.mv (.t 1)), none, []⟩, ⟨(some 4), (.mv (.t 24)), none, []⟩, ⟨(some 5), (.mv (.c (.int .i64 (0)))), none, []⟩]) .ret))), 25, [(.tmp 4), (.tmp 5)], false, fun _ => none⟩
noncomputable def c122 : CFn := ⟨(.seq (.reg [⟨(some 12), (.mv (.t 1)), none, []⟩, ⟨(some 10), (.mv (.t 12)), none, []⟩]) (.block 0 (.loop 1053 (.block 1 (.seq (.reg [⟨(some 13), (.mv (.t 10)), none, []⟩, ⟨(some 14), (.ar .mul (.c (.int .i64 (2))) (.t 13)), none, []⟩, ⟨(some 15), (.ar .add (.t 14) (.c (.int .i64 (1)))), none, []⟩, ⟨(some 11), (.mv (.t 15)), none, []⟩]) (.seq (.seq (.reg [⟨(some 16), (.mv (.t 11)), none, []⟩, ⟨(some 17), (.mv (.t 2)), none, []⟩, ⟨(some 18), (.ar .geq (.t 16) (.t 17)), none, []⟩]) (.cond (.t 18) (.exit 0) .skip)) (.seq (.seq (.drw [⟨(some 19), (.mv (.t 11)), none, []⟩, ⟨(some 20), (.ar .add (.t 19) (.c (.int .i64 (1)))), none, []⟩, ⟨(some 21), (.mv (.t 2)), none, [0, 1]⟩, ⟨(some 22), (.ar .lss (.t 20) (.t 21)), none, []⟩, ⟨(some 23), (.mv (.t 22)), none, []⟩, ⟨(some 24), (.mv (.t 4)), (some (23, true)), []⟩, ⟨(some 25), (.mv (.t 0)), (some (23, true)), [5]⟩, ⟨(some 26), (.mv (.t 3)), (some (23, true)), [5, 6]⟩, ⟨(some 27), (.mv (.t 11)), (some (23, true)), [5, 6, 7]⟩, ⟨(some 28), (.ar .add (.t 26) (.t 27)), (some (23, true)), [5, 6]⟩, ⟨(some 29), (.ias 4 (.t 25) (.t 28)), (some (23, true)), [5]⟩, ⟨(some 30), (.ldn 4 (.t 29)), (some (23, true)), [5]⟩, ⟨(some 31), (.mv (.t 0)), (some (23, true)), [5, 6, 7, 8, 9, 10, 11]⟩, ⟨(some 32), (.mv (.t 3)), (some (23, true)), [5, 6, 7, 8, 9, 10, 11, 12]⟩, ⟨(some 33), (.mv (.t 11)), (some (23, true)), [5, 6, 7, 8, 9, 10, 11, 12, 13]⟩, ⟨(some 34), (.ar .add (.t 32) (.t 33)), (some (23, true)), [5, 6, 7, 8, 9, 10, 11, 12]⟩, ⟨(some 35), (.ar .add (.t 34) (.c (.int .i64 (1)))), (some (23, true)), [5, 6, 7, 8, 9, 10, 11, 12]⟩, ⟨(some 36), (.ias 4 (.t 31) (.t 35)), (some (23, true)), [5, 6, 7, 8, 9, 10, 11]⟩, ⟨(some 37), (.ldn 4 (.t 36)), (some (23, true)), [5, 6, 7, 8, 9, 10, 11]⟩, ⟨(some 38), (.call (.t 24) [(.t 30), (.t 37)]), (some (23, true)), []⟩, ⟨(some 39), (.ar .lss (.t 38) (.c (.int .i64 (0)))), (some (23, true)), []⟩, ⟨(some 40), (.pick (.t 23) (.t 39) (.c (.bool false))), none, []⟩]) (.cond (.t 40) (.reg [⟨(some 41), (.mv (.t 11)), none, []⟩, ⟨(some 42), (.ar .add (.t 41) (.c (.int .i64 (1)))), none, []⟩, ⟨(some 11), (.mv (.t 42)), none, []⟩]) .skip)) (.seq (.seq (.drw [⟨(some 43), (.mv (.t 4)), none, []⟩, ⟨(some 44), (.mv (.t 0)), none, [0]⟩, ⟨(some 45), (.mv (.t 3)), none, [0, 1]⟩, ⟨(some 46), (.mv (.t 10)), none, [0, 1, 2]⟩, ⟨(some 47), (.ar .add (.t 45) (.t 46)), none, [0, 1]⟩, ⟨(some 48), (.ias 4 (.t 44) (.t 47)), none, [0]⟩, ⟨(some 49), (.ldn 4 (.t 48)), none, [0]⟩, ⟨(some 50), (.mv (.t 0)), none, [0, 1, 2, 3, 4, 5, 6]⟩, ⟨(some 51), (.mv (.t 3)), none, [0, 1, 2, 3, 4, 5, 6, 7]⟩, ⟨(some 52), (.mv (.t 11)), none, [0, 1, 2, 3, 4, 5, 6, 7, 8]⟩, ⟨(some 53), (.ar .add (.t 51) (.t 52)), none, [0, 1, 2, 3, 4, 5, 6, 7]⟩, ⟨(some 54), (.ias 4 (.t 50) (.t 53)), none, [0, 1, 2, 3, 4, 5, 6]⟩, ⟨(some 55), (.ldn 4 (.t 54)), none, [0, 1, 2, 3, 4, 5, 6]⟩, ⟨(some 56), (.call (.t 43) [(.t 49), (.t 55)]), none, []⟩, ⟨(some 57), (.ar .lss (.t 56) (.c (.int .i64 (0)))), none, []⟩, ⟨(some 58), (.un .not (.t 57)), none, []⟩]) (.cond (.t 58) .ret .skip)) (.seq (.drw [⟨(some 59), (.mv (.t 0)), none, []⟩, ⟨(some 60), (.mv (.t 3)), none, [0]⟩, ⟨(some 61), (.mv (.t 10)), none, [0, 1]⟩, ⟨(some 62), (.ar .add (.t 60) (.t 61)), none, [0]⟩, ⟨(some 63), (.mv (.t 0)), none, [0, 1, 2, 3]⟩, ⟨(some 64), (.mv (.t 3)), none, [0, 1, 2, 3, 4]⟩, ⟨(some 65), (.mv (.t 11)), none, [0, 1, 2, 3, 4, 5]⟩, ⟨(some 66), (.ar .add (.t 64) (.t 65)), none, [0, 1, 2, 3, 4]⟩, ⟨(some 67), (.mv (.t 0)), none, [0, 1, 2, 3, 4, 5, 6, 7]⟩, ⟨(some 68), (.mv (.t 3)), none, [0, 1, 2, 3, 4, 5, 6, 7, 8]⟩, ⟨(some 69), (.mv (.t 11)), none, [0, 1, 2, 3, 4, 5, 6, 7, 8, 9]⟩, ⟨(some 70), (.ar .add (.t 68) (.t 69)), none, [0, 1, 2, 3, 4, 5, 6, 7, 8]⟩, ⟨(some 71), (.ias 4 (.t 67) (.t 70)), none, [0, 1, 2, 3, 4, 5, 6, 7]⟩, ⟨(some 72), (.ldn 4 (.t 71)), none, [0, 1, 2, 3, 4, 5, 6, 7]⟩, ⟨(some 73), (.mv (.t 0)), none, [0, 1, 2, 3, 4, 5, 6, 7, 8, 9, 10, 11, 12, 13]⟩, ⟨(some 74), (.mv (.t 3)), none, [0, 1, 2, 3, 4, 5, 6, 7, 8, 9, 10, 11, 12, 13, 14]⟩, ⟨(some 75), (.mv (.t 10)), none, [0, 1, 2, 3, 4, 5, 6, 7, 8, 9, 10, 11, 12, 13, 14, 15]⟩, ⟨(some 76), (.ar .add (.t 74) (.t 75)), none, [0, 1, 2, 3, 4, 5, 6, 7, 8, 9, 10, 11, 12, 13, 14]⟩, ⟨(some 77), (.ias 4 (.t 73) (.t 76)), none, [0, 1, 2, 3, 4, 5, 6, 7, 8, 9, 10, 11, 12, 13]⟩, ⟨(some 78), (.ldn 4 (.t 77)), none, [0, 1, 2, 3, 4, 5, 6, 7, 8, 9, 10, 11, 12, 13]⟩, ⟨(some 79), (.ias 4 (.t 59) (.t 62)), none, [4, 5, 6, 7]⟩, ⟨none, (.st 4 (.t 79) (.t 72)), none, [4, 5, 6, 7]⟩, ⟨(some 80), (.ias 4 (.t 63) (.t 66)), none, []⟩, ⟨none, (.st 4 (.t 80) (.t 78)), none, []⟩]) (.reg [⟨(some 81), (.mv (.t 11)), none, []⟩, ⟨(some 10), (.mv (.t 81)), none, []⟩])))))))))), 82, [], false, fun _ => none⟩
noncomputable def c123 : CFn := ⟨(.seq (.reg [⟨(some 2), (.mv (.c (.int .u64 (0)))), none, []⟩]) (.seq (.reg [⟨(some 3), (.mv (.t 0)), none, []⟩, ⟨(some 4), (.conv .u64 (.t 3)), none, []⟩, ⟨(some 5), (.call (.c (.fn 103 [] [])) [(.t 4)]), none, []⟩, ⟨(some 6), (.sh .shl (.c (.int .u64 (1))) (.t 5)), none, []⟩, ⟨(some 2), (.mv (.t 6)), none, []⟩]) .ret)), 7, [(.tmp 2)], false, fun _ => none⟩
noncomputable def c124 : CFn := ⟨(.seq (.reg [⟨(some 2), (.mv (.c (.int .u64 (0)))), none, []⟩]) (.seq (.drw [⟨(some 3), (.mv (.t 0)), none, []⟩, ⟨(some 4), (.chk (.t 3)), none, []⟩, ⟨(some 5), (.ld (.t 4)), none, []⟩, ⟨(some 6), (.mv (.t 0)), none, [0, 1, 2]⟩, ⟨(some 7), (.chk (.t 6)), none, [0, 1, 2]⟩, ⟨(some 8), (.ld (.t 7)), none, [0, 1, 2]⟩, ⟨(some 9), (.sh .shl (.t 8) (.c (.int .u64 (13)))), none, [0, 1, 2]⟩, ⟨(some 10), (.ar .xor (.t 5) (.t 9)), none, []⟩, ⟨(some 11), (.chk (.t 3)), none, []⟩, ⟨none, (.st 1 (.t 11) (.t 10)), none, []⟩]) (.seq (.drw [⟨(some 12), (.mv (.t 0)), none, []⟩, ⟨(some 13), (.chk (.t 12)), none, []⟩, ⟨(some 14), (.ld (.t 13)), none, []⟩, ⟨(some 15), (.mv (.t 0)), none, [0, 1, 2]⟩, ⟨(some 16), (.chk (.t 15)), none, [0, 1, 2]⟩, ⟨(some 17), (.ld (.t 16)), none, [0, 1, 2]⟩, ⟨(some 18), (.sh .shr (.t 17) (.c (.int .u64 (7)))), none, [0, 1, 2]⟩, ⟨(some 19), (.ar .xor (.t 14) (.t 18)), none, []⟩, ⟨(some 20), (.chk (.t 12)), none, []⟩, ⟨none, (.st 1 (.t 20) (.t 19)), none, []⟩]) (.seq (.drw [⟨(some 21), (.mv (.t 0)), none, []⟩, ⟨(some 22), (.chk (.t 21)), none, []⟩, ⟨(some 23), (.ld (.t 22)), none, []⟩, ⟨(some 24), (.mv (.t 0)), none, [0, 1, 2]⟩, ⟨(some 25), (.chk (.t 24)), none, [0, 1, 2]⟩, ⟨(some 26), (.ld (.t 25)), none, [0, 1, 2]⟩, ⟨(some 27), (.sh .shl (.t 26) (.c (.int .u64 (17)))), none, [0, 1, 2]⟩, ⟨(some 28), (.ar .xor (.t 23) (.t 27)), none, []⟩, ⟨(some 29), (.chk (.t 21)), none, []⟩, ⟨none, (.st 1 (.t 29) (.t 28)), none, []⟩]) (.seq (.reg [⟨(some 30), (.mv (.t 0)), none, []⟩, ⟨(some 31), (.chk (.t 30)), none, []⟩, ⟨(some 32), (.ld (.t 31)), none, []⟩, ⟨(some 2), (.mv (.t 32)), none, []⟩]) .ret))))), 33, [(.tmp 2)], false, fun _ => none⟩
noncomputable def c125 : CFn := ⟨(.seq (.reg [⟨(some 8), (.mv (.c (.int .i64 (0)))), none, []⟩]) (.seq (.reg [⟨(some 9), (.mv (.t 0)), none, []⟩, ⟨(some 10), (.mv (.t 1)), none, []⟩, ⟨(some 11), (.ar .sub (.t 10) (.c (.int .i64 (1)))), none, []⟩, ⟨(some 12), (.mv (.t 1)), none, []⟩, ⟨(some 13), (.mv (.t 1)), none, []⟩, ⟨(some 14), (.ar .add (.t 13) (.c (.int .i64 (1)))), none, []⟩, ⟨(some 15), (.mv (.t 2)), none, []⟩, ⟨(some 16), (.mv (.t 3)), none, []⟩, ⟨(some 17), (.call (.c (.fn 126 [] [])) [(.t 9), (.t 11), (.t 12), (.t 14), (.t 15), (.t 16)]), none, []⟩, ⟨(some 8), (.mv (.t 17)), none, []⟩]) .ret)), 18, [(.tmp 8)], false, fun _ => none⟩
noncomputable def c126 : CFn := ⟨(.seq (.reg [⟨(some 12), (.mv (.c (.int .i64 (0)))), none, []⟩]) (.seq (.reg [⟨(some 14), (.mv (.t 0)), none, []⟩, ⟨(some 15), (.mv (.t 1)), none, []⟩, ⟨(some 16), (.mv (.t 2)), none, []⟩, ⟨(some 17), (.mv (.t 4)), none, []⟩, ⟨(some 18), (.mv (.t 5)), none, []⟩, ⟨(some 19), (.call (.c (.fn 127 [] [])) [(.t 14), (.t 15), (.t 16), (.t 17), (.t 18)]), none, []⟩, ⟨(some 13), (.mv (.t 19)), none, []⟩, ⟨(some 20), (.ext 0 (.t 13)), none, []⟩, ⟨(some 21), (.ext 1 (.t 13)), none, []⟩, ⟨(some 1), (.mv (.t 20)), none, []⟩, ⟨(some 2), (.mv (.t 21)), none, []⟩]) (.seq (.reg [⟨(some 23), (.mv (.t 0)), none, []⟩, ⟨(some 24), (.mv (.t 2)), none, []⟩, ⟨(some 25), (.mv (.t 3)), none, []⟩, ⟨(some 26), (.mv (.t 4)), none, []⟩, ⟨(some 27), (.mv (.t 5)), none, []⟩, ⟨(some 28), (.call (.c (.fn 127 [] [])) [(.t 23), (.t 24), (.t 25), (.t 26), (.t 27)]), none, []⟩, ⟨(some 22), (.mv (.t 28)), none, []⟩, ⟨(some 29), (.ext 0 (.t 22)), none, []⟩, ⟨(some 30), (.ext 1 (.t 22)), none, []⟩, ⟨(some 2), (.mv (.t 29)), none, []⟩, ⟨(some 3), (.mv (.t 30)), none, []⟩]) (.seq (.reg [⟨(some 32), (.mv (.t 0)), none, []⟩, ⟨(some 33), (.mv (.t 1)), none, []⟩, ⟨(some 34), (.mv (.t 2)), none, []⟩, ⟨(some 35), (.mv (.t 4)), none, []⟩, ⟨(some 36), (.mv (.t 5)), none, []⟩, ⟨(some 37), (.call (.c (.fn 127 [] [])) [(.t 32), (.t 33), (.t 34), (.t 35), (.t 36)]), none, []⟩, ⟨(some 31), (.mv (.t 37)), none, []⟩, ⟨(some 38), (.ext 0 (.t 31)), none, []⟩, ⟨(some 39), (.ext 1 (.t 31)), none, []⟩, ⟨(some 1), (.mv (.t 38)), none, []⟩, ⟨(some 2), (.mv (.t 39)), none, []⟩]) (.seq (.reg [⟨(some 40), (.mv (.t 2)), none, []⟩, ⟨(some 12), (.mv (.t 40)), none, []⟩]) .ret))))), 41, [(.tmp 12)], false, fun _ => none⟩
noncomputable def c127 : CFn := ⟨(.seq (.reg [⟨(some 10), (.mv (.c (.int .i64 (0)))), none, []⟩, ⟨(some 11), (.mv (.c (.int .i64 (0)))), none, []⟩]) (.seq (.seq (.drw [⟨(some 12), (.mv (.t 4)), none, []⟩, ⟨(some 13), (.mv (.t 0)), none, [0]⟩, ⟨(some 14), (.mv (.t 2)), none, [0, 1]⟩, ⟨(some 15), (.ias 4 (.t 13) (.t 14)), none, [0]⟩, ⟨(some 16), (.ldn 4 (.t 15)), none, [0]⟩, ⟨(some 17), (.mv (.t 0)), none, [0, 1, 2, 3, 4]⟩, ⟨(some 18), (.mv (.t 1)), none, [0, 1, 2, 3, 4, 5]⟩, ⟨(some 19), (.ias 4 (.t 17) (.t 18)), none, [0, 1, 2, 3, 4]⟩, ⟨(some 20), (.ldn 4 (.t 19)), none, [0, 1, 2, 3, 4]⟩, ⟨(some 21), (.call (.t 12) [(.t 16), (.t 20)]), none, []⟩, ⟨(some 22), (.ar .lss (.t 21) (.c (.int .i64 (0)))), none, []⟩]) (.cond (.t 22) (.seq (.reg [⟨(some 23), (.mv (.t 3)), none, []⟩, ⟨(some 24), (.chk (.t 23)), none, []⟩, ⟨(some 25), (.ld (.t 24)), none, []⟩, ⟨(some 26), (.ar .add (.t 25) (.c (.int .i64 (1)))), none, []⟩, ⟨(some 27), (.chk (.t 23)), none, []⟩, ⟨none, (.st 1 (.t 27) (.t 26)), none, []⟩]) (.seq (.reg [⟨(some 28), (.mv (.t 2)), none, []⟩, ⟨(some 29), (.mv (.t 1)), none, []⟩, ⟨(some 10), (.mv (.t 28)), none, []⟩, ⟨(some 11), (.mv (.t 29)), none, []⟩]) .ret)) .skip)) (.seq (.reg [⟨(some 30), (.mv (.t 1)), none, []⟩, ⟨(some 31), (.mv (.t 2)), none, []⟩, ⟨(some 10), (.mv (.t 30)), none, []⟩, ⟨(some 11), (.mv (.t 31)), none, []⟩]) .ret))), 32, [(.tmp 10), (.tmp 11)], false, fun _ => none⟩
noncomputable def tbl : List (Option CFn) := [none, none, none, none, none, none, none, none, none, none, none, some c11, none, none, none, none, none, some c17, none, some c19, none, none, some c22, some c23, none, none, some c26, none, none, some c29, none, none, none, none, none, none, some c36, some c37, none, none, some c40, some c41, none, none, some c44, none, some c46, some c47, none, none, none, none, none, none, some c54, some c55, some c56, some c57, some c58, some c59, some c60, some c61, none, none, none, some c65, some c66, some c67, some c68, some c69, some c70, none, none, none, some c74, some c75, some c76, some c77, some c78, some c79, some c80, some c81, some c82, some c83, some c84, some c85, some c86, some c87, some c88, some c89, some c90, some c91, some c92, some c93, some c94, some c95, some c96, some c97, some c98, some c99, some c100, some c101, some c102, some c103, some c104, some c105, some c106, some c107, some c108, some c109, some c110, some c111, some c112, some c113, some c114, some c115, some c116, some c117, some c118, some c119, some c120, some c121, some c122, some c123, some c124, some c125, some c126, some c127]
noncomputable def T (f : Nat) : Option CFn := match nth tbl f with
  | some (some c) => some c
  | _ => none
end Go.Proofs.Ytfnnonoffiljhaa.Tab

set_option maxRecDepth 1000000
namespace Go.Proofs.Ytfnnonoffiljhaa.Tab
open Go Go.Abs Go.Proofs
/-- No variable of a package is read. -/
noncomputable def GG : Nat → Option (List AVal) := fun _ => none
theorem mixed : Try.prog.follows .mixedOrders = true := by kernel_rfl
theorem ok11 : FnOk Try.prog GG 11 c11 := fnOk Try.func11 (by kernel_rfl) (by kernel_rfl) (by kernel_rfl) (by kernel_rfl) rfl
theorem ok17 : FnOk Try.prog GG 17 c17 := fnOk Try.func17 (by kernel_rfl) (by kernel_rfl) (by kernel_rfl) (by kernel_rfl) rfl
theorem ok19 : FnOk Try.prog GG 19 c19 := fnOk Try.func19 (by kernel_rfl) (by kernel_rfl) (by kernel_rfl) (by kernel_rfl) rfl
theorem ok22 : FnOk Try.prog GG 22 c22 := fnOk Try.func22 (by kernel_rfl) (by kernel_rfl) (by kernel_rfl) (by kernel_rfl) rfl
theorem ok23 : FnOk Try.prog GG 23 c23 := fnOk Try.func23 (by kernel_rfl) (by kernel_rfl) (by kernel_rfl) (by kernel_rfl) rfl
theorem ok26 : FnOk Try.prog GG 26 c26 := fnOk Try.func26 (by kernel_rfl) (by kernel_rfl) (by kernel_rfl) (by kernel_rfl) rfl
theorem ok29 : FnOk Try.prog GG 29 c29 := fnOk Try.func29 (by kernel_rfl) (by kernel_rfl) (by kernel_rfl) (by kernel_rfl) rfl
theorem ok36 : FnOk Try.prog GG 36 c36 := fnOk Try.func36 (by kernel_rfl) (by kernel_rfl) (by kernel_rfl) (by kernel_rfl) rfl
theorem ok37 : FnOk Try.prog GG 37 c37 := fnOk Try.func37 (by kernel_rfl) (by kernel_rfl) (by kernel_rfl) (by kernel_rfl) rfl
theorem ok40 : FnOk Try.prog GG 40 c40 := fnOk Try.func40 (by kernel_rfl) (by kernel_rfl) (by kernel_rfl) (by kernel_rfl) rfl
theorem ok41 : FnOk Try.prog GG 41 c41 := fnOk Try.func41 (by kernel_rfl) (by kernel_rfl) (by kernel_rfl) (by kernel_rfl) rfl
theorem ok44 : FnOk Try.prog GG 44 c44 := fnOk Try.func44 (by kernel_rfl) (by kernel_rfl) (by kernel_rfl) (by kernel_rfl) rfl
theorem ok46 : FnOk Try.prog GG 46 c46 := fnOk Try.func46 (by kernel_rfl) (by kernel_rfl) (by kernel_rfl) (by kernel_rfl) rfl
theorem ok47 : FnOk Try.prog GG 47 c47 := fnOk Try.func47 (by kernel_rfl) (by kernel_rfl) (by kernel_rfl) (by kernel_rfl) rfl
theorem ok54 : FnOk Try.prog GG 54 c54 := fnOk Try.func54 (by kernel_rfl) (by kernel_rfl) (by kernel_rfl) (by kernel_rfl) rfl
theorem ok55 : FnOk Try.prog GG 55 c55 := fnOk Try.func55 (by kernel_rfl) (by kernel_rfl) (by kernel_rfl) (by kernel_rfl) rfl
theorem ok56 : FnOk Try.prog GG 56 c56 := fnOk Try.func56 (by kernel_rfl) (by kernel_rfl) (by kernel_rfl) (by kernel_rfl) rfl
theorem ok57 : FnOk Try.prog GG 57 c57 := fnOk Try.func57 (by kernel_rfl) (by kernel_rfl) (by kernel_rfl) (by kernel_rfl) rfl
theorem ok58 : FnOk Try.prog GG 58 c58 := fnOk Try.func58 (by kernel_rfl) (by kernel_rfl) (by kernel_rfl) (by kernel_rfl) rfl
theorem ok59 : FnOk Try.prog GG 59 c59 := fnOk Try.func59 (by kernel_rfl) (by kernel_rfl) (by kernel_rfl) (by kernel_rfl) rfl
theorem ok60 : FnOk Try.prog GG 60 c60 := fnOk Try.func60 (by kernel_rfl) (by kernel_rfl) (by kernel_rfl) (by kernel_rfl) rfl
theorem ok61 : FnOk Try.prog GG 61 c61 := fnOk Try.func61 (by kernel_rfl) (by kernel_rfl) (by kernel_rfl) (by kernel_rfl) rfl
theorem ok65 : FnOk Try.prog GG 65 c65 := fnOk Try.func65 (by kernel_rfl) (by kernel_rfl) (by kernel_rfl) (by kernel_rfl) rfl
theorem ok66 : FnOk Try.prog GG 66 c66 := fnOk Try.func66 (by kernel_rfl) (by kernel_rfl) (by kernel_rfl) (by kernel_rfl) rfl
theorem ok67 : FnOk Try.prog GG 67 c67 := fnOk Try.func67 (by kernel_rfl) (by kernel_rfl) (by kernel_rfl) (by kernel_rfl) rfl
theorem ok68 : FnOk Try.prog GG 68 c68 := fnOk Try.func68 (by kernel_rfl) (by kernel_rfl) (by kernel_rfl) (by kernel_rfl) rfl
theorem ok69 : FnOk Try.prog GG 69 c69 := fnOk Try.func69 (by kernel_rfl) (by kernel_rfl) (by kernel_rfl) (by kernel_rfl) rfl
theorem ok70 : FnOk Try.prog GG 70 c70 := fnOk Try.func70 (by kernel_rfl) (by kernel_rfl) (by kernel_rfl) (by kernel_rfl) rfl
theorem ok74 : FnOk Try.prog GG 74 c74 := fnOk Try.func74 (by kernel_rfl) (by kernel_rfl) (by kernel_rfl) (by kernel_rfl) rfl
theorem ok75 : FnOk Try.prog GG 75 c75 := fnOk Try.func75 (by kernel_rfl) (by kernel_rfl) (by kernel_rfl) (by kernel_rfl) rfl
theorem ok76 : FnOk Try.prog GG 76 c76 := fnOk Try.func76 (by kernel_rfl) (by kernel_rfl) (by kernel_rfl) (by kernel_rfl) rfl
theorem ok77 : FnOk Try.prog GG 77 c77 := fnOk Try.func77 (by kernel_rfl) (by kernel_rfl) (by kernel_rfl) (by kernel_rfl) rfl
theorem ok78 : FnOk Try.prog GG 78 c78 := fnOk Try.func78 (by kernel_rfl) (by kernel_rfl) (by kernel_rfl) (by kernel_rfl) rfl
theorem ok79 : FnOk Try.prog GG 79 c79 := fnOk Try.func79 (by kernel_rfl) (by kernel_rfl) (by kernel_rfl) (by kernel_rfl) rfl
theorem ok80 : FnOk Try.prog GG 80 c80 := fnOk Try.func80 (by kernel_rfl) (by kernel_rfl) (by kernel_rfl) (by kernel_rfl) rfl
theorem ok81 : FnOk Try.prog GG 81 c81 := fnOk Try.func81 (by kernel_rfl) (by kernel_rfl) (by kernel_rfl) (by kernel_rfl) rfl
theorem ok82 : FnOk Try.prog GG 82 c82 := fnOk Try.func82 (by kernel_rfl) (by kernel_rfl) (by kernel_rfl) (by kernel_rfl) rfl
theorem ok83 : FnOk Try.prog GG 83 c83 := fnOk Try.func83 (by kernel_rfl) (by kernel_rfl) (by kernel_rfl) (by kernel_rfl) rfl
theorem ok84 : FnOk Try.prog GG 84 c84 := fnOk Try.func84 (by kernel_rfl) (by kernel_rfl) (by kernel_rfl) (by kernel_rfl) rfl
theorem ok85 : FnOk Try.prog GG 85 c85 := fnOk Try.func85 (by kernel_rfl) (by kernel_rfl) (by kernel_rfl) (by kernel_rfl) rfl
theorem ok86 : FnOk Try.prog GG 86 c86 := fnOk Try.func86 (by kernel_rfl) (by kernel_rfl) (by kernel_rfl) (by kernel_rfl) rfl
theorem ok87 : FnOk Try.prog GG 87 c87 := fnOk Try.func87 (by kernel_rfl) (by kernel_rfl) (by kernel_rfl) (by kernel_rfl) rfl
theorem ok88 : FnOk Try.prog GG 88 c88 := fnOk Try.func88 (by kernel_rfl) (by kernel_rfl) (by kernel_rfl) (by kernel_rfl) rfl
theorem ok89 : FnOk Try.prog GG 89 c89 := fnOk Try.func89 (by kernel_rfl) (by kernel_rfl) (by kernel_rfl) (by kernel_rfl) rfl
theorem ok90 : FnOk Try.prog GG 90 c90 := fnOk Try.func90 (by kernel_rfl) (by kernel_rfl) (by kernel_rfl) (by kernel_rfl) rfl
theorem ok91 : FnOk Try.prog GG 91 c91 := fnOk Try.func91 (by kernel_rfl) (by kernel_rfl) (by kernel_rfl) (by kernel_rfl) rfl
theorem ok92 : FnOk Try.prog GG 92 c92 := fnOk Try.func92 (by kernel_rfl) (by kernel_rfl) (by kernel_rfl) (by kernel_rfl) rfl
theorem ok93 : FnOk Try.prog GG 93 c93 := fnOk Try.func93 (by kernel_rfl) (by kernel_rfl) (by kernel_rfl) (by kernel_rfl) rfl
theorem ok94 : FnOk Try.prog GG 94 c94 := fnOk Try.func94 (by kernel_rfl) (by kernel_rfl) (by kernel_rfl) (by kernel_rfl) rfl
theorem ok95 : FnOk Try.prog GG 95 c95 := fnOk Try.func95 (by kernel_rfl) (by kernel_rfl) (by kernel_rfl) (by kernel_rfl) rfl
theorem ok96 : FnOk Try.prog GG 96 c96 := fnOk Try.func96 (by kernel_rfl) (by kernel_rfl) (by kernel_rfl) (by kernel_rfl) rfl
theorem ok97 : FnOk Try.prog GG 97 c97 := fnOk Try.func97 (by kernel_rfl) (by kernel_rfl) (by kernel_rfl) (by kernel_rfl) rfl
theorem ok98 : FnOk Try.prog GG 98 c98 := fnOk Try.func98 (by kernel_rfl) (by kernel_rfl) (by kernel_rfl) (by kernel_rfl) rfl
theorem ok99 : FnOk Try.prog GG 99 c99 := fnOk Try.func99 (by kernel_rfl) (by kernel_rfl) (by kernel_rfl) (by kernel_rfl) rfl
theorem ok100 : FnOk Try.prog GG 100 c100 := fnOk Try.func100 (by kernel_rfl) (by kernel_rfl) (by kernel_rfl) (by kernel_rfl) rfl
theorem ok101 : FnOk Try.prog GG 101 c101 := fnOk Try.func101 (by kernel_rfl) (by kernel_rfl) (by kernel_rfl) (by kernel_rfl) rfl
theorem ok102 : FnOk Try.prog GG 102 c102 := fnOk Try.func102 (by kernel_rfl) (by kernel_rfl) (by kernel_rfl) (by kernel_rfl) rfl
theorem ok103 : FnOk Try.prog GG 103 c103 := fnOk Try.func103 (by kernel_rfl) (by kernel_rfl) (by kernel_rfl) (by kernel_rfl) rfl
theorem ok104 : FnOk Try.prog GG 104 c104 := fnOk Try.func104 (by kernel_rfl) (by kernel_rfl) (by kernel_rfl) (by kernel_rfl) rfl
theorem ok105 : FnOk Try.prog GG 105 c105 := fnOk Try.func105 (by kernel_rfl) (by kernel_rfl) (by kernel_rfl) (by kernel_rfl) rfl
theorem ok106 : FnOk Try.prog GG 106 c106 := fnOk Try.func106 (by kernel_rfl) (by kernel_rfl) (by kernel_rfl) (by kernel_rfl) rfl
theorem ok107 : FnOk Try.prog GG 107 c107 := fnOk Try.func107 (by kernel_rfl) (by kernel_rfl) (by kernel_rfl) (by kernel_rfl) rfl
theorem ok108 : FnOk Try.prog GG 108 c108 := fnOk Try.func108 (by kernel_rfl) (by kernel_rfl) (by kernel_rfl) (by kernel_rfl) rfl
theorem ok109 : FnOk Try.prog GG 109 c109 := fnOk Try.func109 (by kernel_rfl) (by kernel_rfl) (by kernel_rfl) (by kernel_rfl) rfl
theorem ok110 : FnOk Try.prog GG 110 c110 := fnOk Try.func110 (by kernel_rfl) (by kernel_rfl) (by kernel_rfl) (by kernel_rfl) rfl
theorem ok111 : FnOk Try.prog GG 111 c111 := fnOk Try.func111 (by kernel_rfl) (by kernel_rfl) (by kernel_rfl) (by kernel_rfl) rfl
theorem ok112 : FnOk Try.prog GG 112 c112 := fnOk Try.func112 (by kernel_rfl) (by kernel_rfl) (by kernel_rfl) (by kernel_rfl) rfl
theorem ok113 : FnOk Try.prog GG 113 c113 := fnOk Try.func113 (by kernel_rfl) (by kernel_rfl) (by kernel_rfl) (by kernel_rfl) rfl
theorem ok114 : FnOk Try.prog GG 114 c114 := fnOk Try.func114 (by kernel_rfl) (by kernel_rfl) (by kernel_rfl) (by kernel_rfl) rfl
theorem ok115 : FnOk Try.prog GG 115 c115 := fnOk Try.func115 (by kernel_rfl) (by kernel_rfl) (by kernel_rfl) (by kernel_rfl) rfl
theorem ok116 : FnOk Try.prog GG 116 c116 := fnOk Try.func116 (by kernel_rfl) (by kernel_rfl) (by kernel_rfl) (by kernel_rfl) rfl
theorem ok117 : FnOk Try.prog GG 117 c117 := fnOk Try.func117 (by kernel_rfl) (by kernel_rfl) (by kernel_rfl) (by kernel_rfl) rfl
theorem ok118 : FnOk Try.prog GG 118 c118 := fnOk Try.func118 (by kernel_rfl) (by kernel_rfl) (by kernel_rfl) (by kernel_rfl) rfl
theorem ok119 : FnOk Try.prog GG 119 c119 := fnOk Try.func119 (by kernel_rfl) (by kernel_rfl) (by kernel_rfl) (by kernel_rfl) rfl
theorem ok120 : FnOk Try.prog GG 120 c120 := fnOk Try.func120 (by kernel_rfl) (by kernel_rfl) (by kernel_rfl) (by kernel_rfl) rfl
theorem ok121 : FnOk Try.prog GG 121 c121 := fnOk Try.func121 (by kernel_rfl) (by kernel_rfl) (by kernel_rfl) (by kernel_rfl) rfl
theorem ok122 : FnOk Try.prog GG 122 c122 := fnOk Try.func122 (by kernel_rfl) (by kernel_rfl) (by kernel_rfl) (by kernel_rfl) rfl
theorem ok123 : FnOk Try.prog GG 123 c123 := fnOk Try.func123 (by kernel_rfl) (by kernel_rfl) (by kernel_rfl) (by kernel_rfl) rfl
theorem ok124 : FnOk Try.prog GG 124 c124 := fnOk Try.func124 (by kernel_rfl) (by kernel_rfl) (by kernel_rfl) (by kernel_rfl) rfl
theorem ok125 : FnOk Try.prog GG 125 c125 := fnOk Try.func125 (by kernel_rfl) (by kernel_rfl) (by kernel_rfl) (by kernel_rfl) rfl
theorem ok126 : FnOk Try.prog GG 126 c126 := fnOk Try.func126 (by kernel_rfl) (by kernel_rfl) (by kernel_rfl) (by kernel_rfl) rfl
theorem ok127 : FnOk Try.prog GG 127 c127 := fnOk Try.func127 (by kernel_rfl) (by kernel_rfl) (by kernel_rfl) (by kernel_rfl) rfl
theorem allOk : AllOk Try.prog GG 0 tbl := ⟨ok11, ok17, ok19, ok22, ok23, ok26, ok29, ok36, ok37, ok40, ok41, ok44, ok46, ok47, ok54, ok55, ok56, ok57, ok58, ok59, ok60, ok61, ok65, ok66, ok67, ok68, ok69, ok70, ok74, ok75, ok76, ok77, ok78, ok79, ok80, ok81, ok82, ok83, ok84, ok85, ok86, ok87, ok88, ok89, ok90, ok91, ok92, ok93, ok94, ok95, ok96, ok97, ok98, ok99, ok100, ok101, ok102, ok103, ok104, ok105, ok106, ok107, ok108, ok109, ok110, ok111, ok112, ok113, ok114, ok115, ok116, ok117, ok118, ok119, ok120, ok121, ok122, ok123, ok124, ok125, ok126, ok127, trivial⟩
theorem tabOk : TabOk Try.prog GG T := tabOk_all tbl (fun _ => rfl) allOk
end Go.Proofs.Ytfnnonoffiljhaa.Tab

namespace Go.Proofs.Ytfnnonoffiljhaa.Tab
open Go Go.Abs Go.Proofs
/-- A quote. -/
structure PQ where
  area : Int
  board : Int
  waste : Int
  tool : Int
  setup : Int
  run : Int
  work : Int
  pallet : Int
  freight : Int
  margin : Int
  steps : List (Int × Int)
/-- A quotient, rounded up. -/
def upI (n b : Int) : Int := (n + b - 1) / b
theorem up_nonneg {n b : Int} (hb : 0 < b) (h : 0 ≤ n) : 0 ≤ upI n b := Int.ediv_nonneg (by omega) (by omega)
theorem up_le {n b B : Int} (hb : 0 < b) (h : n ≤ B * b) : upI n b ≤ B := by
  unfold upI
  have : n + b - 1 < (B + 1) * b := by rw [Int.add_mul]; omega
  have := Int.ediv_lt_of_lt_mul hb this
  omega
theorem mul_bd {a b A B : Int} (ha : 0 ≤ a) (hA : a ≤ A) (hb : 0 ≤ b) (hB : b ≤ B) : 0 ≤ a * b ∧ a * b ≤ A * B :=
  ⟨Int.mul_nonneg ha hb, Int.mul_le_mul hA hB hb (Int.le_trans ha hA)⟩
def inI (lo n hi : Int) : Bool := decide (lo ≤ n) && decide (n ≤ hi)
def ascI : List (Int × Int) → Bool
  | a :: b :: t => decide (a.1 < b.1) && ascI (b :: t)
  | _ => true
def stepOkI (s : Int × Int) : Bool := inI 1 s.1 100000 && inI 0 s.2 900
def argsI (q : PQ) : Bool := inI 1 q.area 100000 && inI 0 q.board 100000 && inI 0 q.waste 500 && inI 0 q.tool 1000000 && inI 0 q.setup 1000000 && inI 0 q.work 1000000 && inI 0 q.freight 1000000 && inI 1 q.run 100000 && inI 1 q.pallet 100000 && inI 0 q.margin 1000
/-- The error of a quote. -/
def checkQ (q : PQ) : Int := if 6 < q.steps.length then 5 else if !(q.steps.all stepOkI && ascI q.steps) then 4 else if !argsI q then 2 else 0
/-- What is taken off. -/
def offI (steps : List (Int × Int)) (n : Int) : Int := steps.foldl (fun o s => if s.1 ≤ n then s.2 else o) 0
structure PP where
  board : Int
  tool : Int
  setup : Int
  work : Int
  freight : Int
def partsI (q : PQ) (n : Int) : PP := ⟨upI (n * q.area * (1000 + q.waste) * q.board) 10000000000, q.tool, q.setup * upI n q.run, upI (q.work * n) 1000, q.freight * upI n q.pallet⟩
def costI (p : PP) : Int := p.board + p.tool + p.setup + p.work + p.freight
def priceI (q : PQ) (n : Int) : Int := upI (costI (partsI q n) * (1000 + q.margin) * (1000 - offI q.steps n)) 1000000
def countI (n : Int) : Prop := 1 ≤ n ∧ n ≤ 100000
structure ArgsOk (q : PQ) : Prop where
  area : 1 ≤ q.area ∧ q.area ≤ 100000
  board : 0 ≤ q.board ∧ q.board ≤ 100000
  waste : 0 ≤ q.waste ∧ q.waste ≤ 500
  tool : 0 ≤ q.tool ∧ q.tool ≤ 1000000
  setup : 0 ≤ q.setup ∧ q.setup ≤ 1000000
  work : 0 ≤ q.work ∧ q.work ≤ 1000000
  freight : 0 ≤ q.freight ∧ q.freight ≤ 1000000
  run : 1 ≤ q.run ∧ q.run ≤ 100000
  pallet : 1 ≤ q.pallet ∧ q.pallet ≤ 100000
  margin : 0 ≤ q.margin ∧ q.margin ≤ 1000
theorem args_ok {q : PQ} (h : argsI q = true) : ArgsOk q := by
  simp only [argsI, inI, Bool.and_eq_true, decide_eq_true_eq] at h
  obtain ⟨⟨⟨⟨⟨⟨⟨⟨⟨h1, h2⟩, h3⟩, h4⟩, h5⟩, h6⟩, h7⟩, h8⟩, h9⟩, h10⟩ := h
  exact ⟨h1, h2, h3, h4, h5, h6, h7, h8, h9, h10⟩
theorem check_ok {q : PQ} (h : checkQ q = 0) : ArgsOk q ∧ q.steps.length ≤ 6 ∧ (∀ s ∈ q.steps, (1 ≤ s.1 ∧ s.1 ≤ 100000) ∧ 0 ≤ s.2 ∧ s.2 ≤ 900) ∧ ascI q.steps = true := by
  unfold checkQ at h
  split at h
  · simp at h
  rename_i hl
  split at h
  · simp at h
  rename_i hs
  split at h
  · simp at h
  rename_i ha
  simp only [Bool.not_eq_true', Bool.not_eq_false, Bool.and_eq_true, List.all_eq_true, stepOkI, inI, decide_eq_true_eq] at hs ha
  exact ⟨args_ok ha, by omega, fun s h => hs.1 s h, hs.2⟩
theorem off_bd {l : List (Int × Int)} (h : ∀ s ∈ l, (1 ≤ s.1 ∧ s.1 ≤ 100000) ∧ 0 ≤ s.2 ∧ s.2 ≤ 900) (n : Int) : 0 ≤ offI l n ∧ offI l n ≤ 900 := by
  unfold offI
  have : ∀ (l : List (Int × Int)) (o : Int), (∀ s ∈ l, (1 ≤ s.1 ∧ s.1 ≤ 100000) ∧ 0 ≤ s.2 ∧ s.2 ≤ 900) → 0 ≤ o ∧ o ≤ 900 → 0 ≤ l.foldl (fun o s => if s.1 ≤ n then s.2 else o) o ∧ l.foldl (fun o s => if s.1 ≤ n then s.2 else o) o ≤ 900 := by
    intro l
    induction l with
    | nil => intro o _ ho; exact ho
    | cons s l ih =>
      intro o h ho
      simp only [List.foldl_cons]
      refine ih _ (fun t ht => h t (by simp [ht])) ?_
      split
      · exact (h s (by simp)).2
      · exact ho
  exact this l 0 h (by omega)
/-- The bounds of what is computed on the way. -/
structure PartsBd (q : PQ) (n : Int) : Prop where
  a1 : 0 ≤ n * q.area ∧ n * q.area ≤ 10000000000
  a2 : 0 ≤ n * q.area * (1000 + q.waste) ∧ n * q.area * (1000 + q.waste) ≤ 15000000000000
  a3 : 0 ≤ n * q.area * (1000 + q.waste) * q.board ∧ n * q.area * (1000 + q.waste) * q.board ≤ 1500000000000000000
  runs : 0 ≤ upI n q.run ∧ upI n q.run ≤ 100000
  pals : 0 ≤ upI n q.pallet ∧ upI n q.pallet ≤ 100000
  wn : 0 ≤ q.work * n ∧ q.work * n ≤ 100000000000
  board : 0 ≤ (partsI q n).board ∧ (partsI q n).board ≤ 150000000
  tool : 0 ≤ (partsI q n).tool ∧ (partsI q n).tool ≤ 1000000
  setup : 0 ≤ (partsI q n).setup ∧ (partsI q n).setup ≤ 100000000000
  work : 0 ≤ (partsI q n).work ∧ (partsI q n).work ≤ 100000000
  freight : 0 ≤ (partsI q n).freight ∧ (partsI q n).freight ≤ 100000000000
  cost : 0 ≤ costI (partsI q n) ∧ costI (partsI q n) ≤ 200251000000
theorem up_n {n b : Int} (hn : countI n) (hb : 1 ≤ b) : 0 ≤ upI n b ∧ upI n b ≤ 100000 := by
  unfold countI at hn
  refine ⟨up_nonneg (by omega) (by omega), up_le (by omega) ?_⟩
  have := Int.mul_le_mul (show (100000 : Int) ≤ 100000 by decide) hb (by decide) (by decide)
  omega
theorem parts_bd {q : PQ} {n : Int} (h : ArgsOk q) (hn : countI n) : PartsBd q n := by
  have hn' := hn
  unfold countI at hn'
  have a1 := mul_bd (a := n) (b := q.area) (A := 100000) (B := 100000) (by omega) hn'.2 (by have := h.area; omega) h.area.2
  have a2 := mul_bd (b := 1000 + q.waste) (B := 1500) a1.1 a1.2 (by have := h.waste; omega) (by have := h.waste; omega)
  have a3 := mul_bd (b := q.board) (B := 100000) a2.1 a2.2 h.board.1 h.board.2
  have r := up_n hn h.run.1
  have p := up_n hn h.pallet.1
  have wn := mul_bd (a := q.work) (b := n) h.work.1 h.work.2 (by omega) hn'.2
  have s := mul_bd h.setup.1 h.setup.2 r.1 r.2
  have f := mul_bd h.freight.1 h.freight.2 p.1 p.2
  have b : 0 ≤ (partsI q n).board ∧ (partsI q n).board ≤ 150000000 := ⟨up_nonneg (by decide) a3.1, up_le (by decide) (by omega)⟩
  have w : 0 ≤ (partsI q n).work ∧ (partsI q n).work ≤ 100000000 := ⟨up_nonneg (by decide) wn.1, up_le (by decide) (by omega)⟩
  have t : 0 ≤ (partsI q n).tool ∧ (partsI q n).tool ≤ 1000000 := h.tool
  have s' : 0 ≤ (partsI q n).setup ∧ (partsI q n).setup ≤ 100000000000 := ⟨s.1, by have := s.2; show q.setup * upI n q.run ≤ _; omega⟩
  have f' : 0 ≤ (partsI q n).freight ∧ (partsI q n).freight ≤ 100000000000 := ⟨f.1, by have := f.2; show q.freight * upI n q.pallet ≤ _; omega⟩
  exact ⟨⟨a1.1, by omega⟩, ⟨a2.1, by omega⟩, ⟨a3.1, by omega⟩, r, p, ⟨wn.1, by omega⟩, b, t, s', w, f', by unfold costI; omega⟩
theorem price_bd {q : PQ} {n : Int} (h : checkQ q = 0) (hn : countI n) :
    (0 ≤ costI (partsI q n) * (1000 + q.margin) ∧ costI (partsI q n) * (1000 + q.margin) ≤ 400502000000000) ∧
    (0 ≤ costI (partsI q n) * (1000 + q.margin) * (1000 - offI q.steps n) ∧ costI (partsI q n) * (1000 + q.margin) * (1000 - offI q.steps n) ≤ 400502000000000000) ∧ 0 ≤ priceI q n ∧ priceI q n ≤ 400502000000 := by
  obtain ⟨ha, _, hs, _⟩ := check_ok h
  have b := parts_bd ha hn
  have o := off_bd hs n
  have c1 := mul_bd (b := 1000 + q.margin) (B := 2000) b.cost.1 b.cost.2 (by have := ha.margin; omega) (by have := ha.margin; omega)
  have c2 := mul_bd (b := 1000 - offI q.steps n) (B := 1000) c1.1 c1.2 (by omega) (by omega)
  exact ⟨⟨c1.1, by omega⟩, ⟨c2.1, by omega⟩, up_nonneg (by decide) c2.1, up_le (by decide) (by omega)⟩
/-- The greatest number up to one that costs no more than some money. -/
def mostI (f : Int → Int) (money : Int) : Nat → Int
  | 0 => 0
  | n + 1 => if money < f (n + 1 : Nat) then mostI f money n else (n + 1 : Nat)
end Go.Proofs.Ytfnnonoffiljhaa.Tab

namespace Go.Proofs.Ytfnnonoffiljhaa.Tab
open Go Go.Abs Go.Proofs
theorem W_fit {n : Int} (h : -9000000000000000000 ≤ n ∧ n ≤ 9000000000000000000) : W .i64 n = n := by
  simp only [W]; rw [if_pos (by omega)]
theorem W_fit0 {n m : Int} (h : 0 ≤ n ∧ n ≤ m) (hm : m ≤ 9000000000000000000) : W .i64 n = n := W_fit (by omega)
def rP (s : Int × Int) : List AVal := [I s.1, I s.2]
def vQ (q : PQ) (x : AVal) : AVal := .agg [I q.area, I q.board, I q.waste, I q.tool, I q.setup, I q.run, I q.work, I q.pallet, I q.freight, I q.margin, x]
def zQ : AVal := .agg [I 0, I 0, I 0, I 0, I 0, I 0, I 0, I 0, I 0, I 0, .nils]
def vP (p : PP) : AVal := .agg [I p.board, I p.tool, I p.setup, I p.work, I p.freight]
def dQu : AVal → Option PQ
  | .agg [.int .i64 a, .int .i64 b, .int .i64 w, .int .i64 t, .int .i64 s, .int .i64 r, .int .i64 k, .int .i64 p, .int .i64 f, .int .i64 m, x] => match rowsV x with
    | some rs => match optAll dI2 rs with
      | some st => some ⟨a, b, w, t, s, r, k, p, f, m, st⟩
      | none => none
    | none => none
  | _ => none
theorem dQu_eq {v : AVal} {q : PQ} (h : dQu v = some q) : ∃ x, v = vQ q x ∧ rowsV x = some (q.steps.map rP) := by
  unfold dQu at h
  split at h <;> (try simp at h)
  rename_i x
  split at h <;> (try simp at h)
  rename_i rs hx
  split at h <;> (try simp at h)
  rename_i st hs
  subst h
  have e := optAll_eq dI2_eq hs
  subst e
  exact ⟨x, rfl, hx⟩
theorem dQu_vQ {q : PQ} {x : AVal} (hx : rowsV x = some (q.steps.map rP)) : dQu (vQ q x) = some q := by
  unfold dQu vQ
  simp only [hx]
  rw [optAll_map (d := dI2) (enc := rP) (fun _ => rfl)]
def dQ (v : AVal) : Option PQ := match dQu v with
  | some q => if q.steps.length ≤ 1000 then some q else none
  | none => none
theorem dQ_eq {v : AVal} {q : PQ} (h : dQ v = some q) : ∃ x, v = vQ q x ∧ rowsV x = some (q.steps.map rP) ∧ q.steps.length ≤ 1000 := by
  unfold dQ at h
  split at h <;> simp at h
  rename_i q' hq
  obtain ⟨hl, rfl⟩ := h
  obtain ⟨x, e, hx⟩ := dQu_eq hq
  exact ⟨x, e, hx, hl⟩
theorem dQ_vQ {q : PQ} {x : AVal} (hx : rowsV x = some (q.steps.map rP)) (hl : q.steps.length ≤ 1000) : dQ (vQ q x) = some q := by
  unfold dQ
  rw [dQu_vQ hx]
  simp [hl]
def oUp : List AVal → Option AVal
  | [.int .i64 n, .int .i64 b] => if (0 ≤ n ∧ n ≤ 4000000000000000000) ∧ 1 ≤ b ∧ b ≤ 10000000000 then some (I (upI n b)) else none
  | _ => none
def oParts : List AVal → Option AVal
  | [v, .int .i64 n] => match dQ v with
    | some q => if checkQ q = 0 ∧ 1 ≤ n ∧ n ≤ 100000 then some (vP (partsI q n)) else none
    | none => none
  | _ => none
def oOff : List AVal → Option AVal
  | [v, .int .i64 n] => match dQ v with
    | some q => if checkQ q = 0 then some (I (offI q.steps n)) else none
    | none => none
  | _ => none
def oCost : List AVal → Option AVal
  | [.agg [.int .i64 a, .int .i64 b, .int .i64 c, .int .i64 d, .int .i64 e]] => if (0 ≤ a ∧ a ≤ 1000000000000) ∧ (0 ≤ b ∧ b ≤ 1000000000000) ∧ (0 ≤ c ∧ c ≤ 1000000000000) ∧ (0 ≤ d ∧ d ≤ 1000000000000) ∧ (0 ≤ e ∧ e ≤ 1000000000000) then some (I (a + b + c + d + e)) else none
  | _ => none
def oPrice : List AVal → Option AVal
  | [v, .int .i64 n] => match dQ v with
    | some q => if checkQ q = 0 ∧ 1 ≤ n ∧ n ≤ 100000 then some (I (priceI q n)) else none
    | none => none
  | _ => none
def mostQ (q : PQ) (money : Int) : Int := mostI (priceI q) money 100000
attribute [irreducible] mostQ
end Go.Proofs.Ytfnnonoffiljhaa.Tab

namespace Go.Proofs.Ytfnnonoffiljhaa.Tab
open Go Go.Abs Go.Proofs
set_option maxRecDepth 100000
set_option maxHeartbeats 4000000
set_option linter.unusedSimpArgs false
set_option linter.unusedVariables false
section
attribute [local simp] frz_int frz_bool frz_vl frz_pv frz_agg frz_tup frz_fn frz_ref frz_sl frz_nils optAll orcF rb_int rb_bool rb_agg rb_tup rb_int' rb_bool' rb_vl rb_pv rb_yld rb_nilf rb_nilp rb_nils rb_any rb_und rb_ref rb_sl rb_fn slE chunk fillA evParts evParts3 putAt List.range_succ List.range_zero List.range'_succ List.range'_zero runX_nil' unary_not evalS_pure evAll_nil evAll_cons runX_cons stepX wantedA dop CV.ev putK_eq setK_eq appK_eq fA_eq fI_eq fN_eq fRow_eq fRows_eq nth_eq Out.v putT List.replicate_succ AEx.thn AEx.blk arI pointee Abs.rowAt ldRow allV toV toC ofV ofC Builtin.min_ Builtin.min2 Builtin.max_ Builtin.max2 min_if max_if resA tupA kill trim_self trim_len trim_emp trim_nil lenA
attribute [local simp] runD_nil' runD_cons' stepD actK_eq actD clash disj masks holes maskH unmaskH diffs news eqB allB eqA ldRowN wrote toCs ofCs stA rowsV_vl rowsV_nils rowsOf dI1 dI2 dI3 dI5 elt
attribute [local simp] st_any st_und st_agg st_tup st_bool st_int st_nilp st_ref st_pv st_nils st_sl st_vl st_nilm st_mp st_fn st_nilf st_yld co_any co_und co_agg co_tup co_bool co_int co_nilp co_ref co_pv co_nils co_sl co_vl co_nilm co_mp co_fn co_nilf co_yld
/-- Integers lie between two others. -/
def wB (a b : Int) (xs : List Int) : Bool := xs.all fun x => decide (a ≤ x) && decide (x ≤ b)
def oWc : List AVal → Option AVal
  | [.int .i64 x, .pv [.int .i64 a] 0, .pv [.int .i64 b] 0] => some (.bool (decide (x < a) || decide (b < x)))
  | _ => none
def oWithin : List AVal → Option AVal
  | [.int .i64 a, .int .i64 b, x] => match rowsV x with
    | some rs => match optAll dI1 rs with
      | some xs => if xs.length ≤ 1000 then some (.bool (wB a b xs)) else none
      | none => none
    | none => none
  | _ => none
theorem a94 (P : Program) (T : Nat → Option CFn) (hT : T 94 = some c94) (x a b : Int) : Answers P T 94 [I x, .pv [I a] 0, .pv [I b] 0] [] fun v h => frz true h 5 v = some (.bool (decide (x < a) || decide (b < x))) := by
  refine answers_of hT (orcF_none rfl) ?_
  simp only [c94]
  by_cases hx : x < a
  · refine runs_seq ?_
    refine runs_reg (ops_run (by simp [lop, loud, callA, calleeA, hx]; rfl) ?_)
    simp only [AEx.thn, AEx.blk]
    refine runs_seq ?_
    refine runs_reg (ops_run (by simp [lop, loud, callA, calleeA, hx]; rfl) ?_)
    simp only [AEx.thn, AEx.blk]
    refine runs_ret ?_
    simp [lop, loud, callA, calleeA, hx]
  · refine runs_seq ?_
    refine runs_reg (ops_run (by simp [lop, loud, callA, calleeA, hx]; rfl) ?_)
    simp only [AEx.thn, AEx.blk]
    refine runs_seq ?_
    refine runs_reg (ops_run (by simp [lop, loud, callA, calleeA, hx]; rfl) ?_)
    simp only [AEx.thn, AEx.blk]
    refine runs_ret ?_
    simp [lop, loud, callA, calleeA, hx]
theorem a106 (P : Program) (T : Nat → Option CFn) (hT : T 106 = some c106) (x : AVal) (rs : List (List AVal)) (hx : rowsV x = some rs) (g : Nat) (a b : List AVal) (r : Int) (hl : rs.length ≤ 1000) (hr : rs.all (fun r => r.length == 1 && r.all isI) = true)
    (hq : idxA (fun r => known T g (a ++ [elt r] ++ b)) 0 rs = some r) : Answers P T 106 [x, .fn g a b] [] fun v h => v = .int .i64 r ∧ h = [] := by
  have lx := rowsV_len hx
  refine answers_of hT (orcF_none rfl) ?_
  simp only [c106]
  refine runs_seq (runs_reg (ops_run (by simp; rfl) ?_))
  simp only [AEx.thn, AEx.blk]
  refine runs_seq (runs_seq (runs_reg (ops_run (by simp [lx, -lenA]; rfl) ?_)))
  simp only [AEx.thn, AEx.blk]
  refine runs_block ?_
  refine runs_loop_inv (fun m σ => ∃ (k : Nat) (i : Int), i = k ∧ m = rs.length - k ∧ k ≤ rs.length ∧ idxA (fun r => known T g (a ++ [elt r] ++ b)) k (rs.drop k) = some r ∧
    σ = ⟨[x, .fn g a b, .any, .any, .any, .any, .any, I rs.length, I i, .any, .any, .any, .any, .any, .any, .any, .any, .any, .any], []⟩) ?_ (rs.length - 0) _ ⟨0, 0, rfl, rfl, Nat.zero_le _, hq, by simp⟩
  rintro m σ ⟨k, i, hik, rfl, hk, hi, rfl⟩
  have h0 : 0 ≤ i := by omega
  have htn : i.toNat = k := by omega
  refine runs_seq (runs_reg (ops_run (by simp; rfl) ?_))
  simp only [AEx.thn, AEx.blk]
  refine runs_seq (runs_cond_split (x := decide (i < rs.length)) (by simp) (fun hlt => ?_) (fun hge => ?_))
  · refine runs_skip ?_
    simp only [AEx.thn, AEx.blk]
    have hlt' : k < rs.length := by have := of_decide_eq_true hlt; omega
    obtain ⟨tt, rfl⟩ := rowsV_get hx hlt'
    have hr1 := List.all_eq_true.1 hr _ (List.getElem_mem hlt')
    simp only [Bool.and_eq_true, beq_iff_eq, List.all_eq_true] at hr1
    obtain ⟨y0, hrk⟩ := ints1 hr1.1 hr1.2
    rw [List.drop_eq_getElem_cons hlt'] at hi
    simp only [idxA] at hi
    refine runs_seq (runs_block ?_)
    refine runs_seq (runs_reg (ops_run (by simp; rfl) ?_))
    simp only [AEx.thn, AEx.blk]
    split at hi
    · rename_i hb
      simp at hi; rw [← hik] at hi; subst hi
      rw [hrk] at hb; simp only [elt, List.append_assoc, List.cons_append, List.nil_append] at hb
      refine runs_seq (runs_reg (ops_run (by simp [h0, htn, hlt', hrk, lop, loud, callA, calleeA, callF_known hb]; rfl) ?_))
      simp only [AEx.thn, AEx.blk]
      refine runs_cond (x := true) (by simp) ?_
      refine runs_seq (runs_reg (ops_run (by simp; rfl) ?_))
      simp only [AEx.thn, AEx.blk]
      refine runs_ret ?_
      simp
    · rename_i hb
      rw [hrk] at hb; simp only [elt, List.append_assoc, List.cons_append, List.nil_append] at hb
      refine runs_seq (runs_reg (ops_run (by simp [h0, htn, hlt', hrk, lop, loud, callA, calleeA, callF_known hb]; rfl) ?_))
      simp only [AEx.thn, AEx.blk]
      refine runs_cond (x := false) (by simp) ?_
      refine runs_skip ?_
      simp only [AEx.thn, AEx.blk]
      refine runs_reg (ops_run (by simp; rfl) ?_)
      simp only [AEx.thn, AEx.blk]
      refine ⟨rs.length - (k + 1), by omega, k + 1, i + 1, by omega, rfl, by omega, hi, ?_⟩
      simp [W_small (show -1000000 ≤ i + 1 ∧ i + 1 ≤ 1000000 by omega)]
    · simp at hi
  · refine runs_exit ?_
    simp only [AEx.thn, AEx.blk, if_true]
    have hke : k = rs.length := by
      have := of_decide_eq_false hge
      omega
    subst hke
    rw [List.drop_length] at hi
    simp [idxA] at hi
    subst hi
    refine runs_seq (runs_reg (ops_run (by simp; rfl) ?_))
    simp only [AEx.thn, AEx.blk]
    refine runs_ret ?_
    simp
theorem a93 (P : Program) (T : Nat → Option CFn) (hT : T 93 = some c93) (hj : T 106 = some c106) (x : AVal) (rs : List (List AVal)) (hx : rowsV x = some rs) (g : Nat) (a b : List AVal) (r : Int) (hl : rs.length ≤ 1000) (hr : rs.all (fun r => r.length == 1 && r.all isI) = true)
    (hq : idxA (fun r => known T g (a ++ [elt r] ++ b)) 0 rs = some r) : Answers P T 93 [x, .fn g a b] [] fun v h => v = .bool (decide (0 ≤ r)) ∧ h = [] := by
  refine answers_of hT (orcF_none rfl) ?_
  simp only [c93]
  refine runs_seq (runs_reg (ops_run (by simp; rfl) ?_))
  simp only [AEx.thn, AEx.blk]
  refine runs_seq (runs_reg ?_)
  refine ops_cons 0 (by simp; rfl) (ops_cons 0 (by simp; rfl) ?_)
  refine ops_call (f := 106) (args := [x, .fn g a b]) (by simp) (by simp) (by simp [lop]) (by simp [calleeA]) ?_
  refine (a106 P T hj x rs hx g a b r hl hr hq).mono ?_
  rintro v h' ⟨rfl, rfl⟩
  refine ops_run (by simp; rfl) ?_
  simp only [AEx.thn, AEx.blk]
  refine runs_ret ?_
  simp
theorem T_ok : TabOk Try.prog GG T := tabOk
noncomputable def PA1 : Nat → Option CFn := upd T 94 true (oWc)
theorem PA1_ok : TabOk Try.prog GG PA1 := tab_add mixed T_ok fun args v ho => by
  unfold oWc at ho; split at ho <;> simp at ho
  rename_i x a b
  subst ho
  exact a94 Try.prog T rfl x a b
noncomputable def PA2 : Nat → Option CFn := upd PA1 93 true (oCF PA1 1)
theorem PA2_ok : TabOk Try.prog GG PA2 := tab_add mixed PA1_ok fun args v ho => by
  unfold oCF at ho; split at ho <;> (try simp at ho)
  rename_i x g a b
  split at ho <;> (try simp at ho)
  rename_i rs hx
  obtain ⟨⟨hl, hr⟩, ho⟩ := ho
  split at ho <;> simp at ho
  rename_i r hq
  subst ho
  refine (a93 Try.prog PA1 rfl rfl x rs hx g a b r hl (by simpa using hr) (by simpa using hq)).mono ?_
  rintro v h ⟨rfl, rfl⟩
  rfl
theorem a65 (P : Program) (T : Nat → Option CFn) (hT : T 65 = some c65) (h93 : T 93 = some { c93 with frsh := true, orc := oCF PA1 1 }) (a b : Int) (x : AVal) (xs : List Int) (hx : rowsV x = some (xs.map fun x => [I x])) (hl : xs.length ≤ 1000) :
    Answers P T 65 [I a, I b, x] [] fun v h => frz true h 5 v = some (.bool (wB a b xs)) := by
  have hcf : oCF PA1 1 [x, .fn 94 [] [.pv [I a] 0, .pv [I b] 0]] = some (.bool ((xs.map fun x => [I x]).any fun r => match r with | [.int .i64 n] => decide (n < a) || decide (b < n) | _ => false)) := by
    refine oCF_any hx (by simpa using hl) (by simp [isI]) ?_
    intro r hr
    obtain ⟨n, _, rfl⟩ := List.mem_map.1 hr
    rfl
  have hv : (!((xs.map fun x => [I x]).any fun r => match r with | [.int .i64 n] => decide (n < a) || decide (b < n) | _ => false)) = wB a b xs := by
    simp only [wB, List.any_map, List.not_any_eq_all_not]
    congr 1
    funext n
    simp only [Function.comp]
    rw [Bool.eq_iff_iff]
    simp
  rw [← hv]
  generalize hbb : ((xs.map fun x => [I x]).any fun r => match r with | [.int .i64 n] => decide (n < a) || decide (b < n) | _ => false) = bb at hcf
  refine answers_of hT (orcF_none rfl) ?_
  simp only [c65]
  refine runs_seq (runs_reg (ops_run (by simp; rfl) ?_))
  simp only [AEx.thn, AEx.blk]
  refine runs_seq (runs_reg (ops_run (by simp [lop, loud, callA, calleeA, callF_step h93, rowsV_frz hx, hcf]; rfl) ?_))
  simp only [AEx.thn, AEx.blk]
  refine runs_ret ?_
  simp
noncomputable def PA3 : Nat → Option CFn := upd PA2 65 true (oWithin)
theorem PA3_ok : TabOk Try.prog GG PA3 := tab_add mixed PA2_ok fun args v ho => by
  unfold oWithin at ho; split at ho <;> (try simp at ho)
  rename_i a b x
  split at ho <;> (try simp at ho)
  rename_i rs hx
  split at ho <;> (try simp at ho)
  rename_i xs hxs
  obtain ⟨hl, rfl⟩ := ho
  have e := optAll_eq dI1_eq hxs
  subst e
  exact a65 Try.prog PA2 rfl rfl a b x xs hx hl
theorem dI1_self : ∀ (xs : List Int), optAll dI1 (xs.map fun x => [I x]) = some xs := optAll_map (d := dI1) (enc := fun x => [I x]) fun _ => rfl
theorem oWithin_eq {x : AVal} {xs : List Int} (a b : Int) (hx : rowsV x = some (xs.map fun x => [I x])) (hl : xs.length ≤ 1000) : oWithin [I a, I b, x] = some (.bool (wB a b xs)) := by
  simp only [oWithin, hx, dI1_self, hl, if_true]
noncomputable def PA4 : Nat → Option CFn := PA3
theorem PA4_ok : TabOk Try.prog GG PA4 := PA3_ok
theorem wB_one (a b n : Int) : wB a b [n] = inI a n b := by simp [wB, inI]
noncomputable def PA5_85 : Nat → Option CFn := PA4
theorem PA5_85_ok : TabOk Try.prog GG PA5_85 := PA4_ok
noncomputable def PA5 : Nat → Option CFn := PA5_85
theorem PA5_ok : TabOk Try.prog GG PA5 := PA5_85_ok
noncomputable def PA6 : Nat → Option CFn := PA5
theorem PA6_ok : TabOk Try.prog GG PA6 := PA5_ok
noncomputable def PA : Nat → Option CFn := PA6
theorem PA_ok : TabOk Try.prog GG PA := PA6_ok
end
end Go.Proofs.Ytfnnonoffiljhaa.Tab

namespace Go.Proofs.Ytfnnonoffiljhaa.Tab
open Go Go.Abs Go.Proofs
set_option maxRecDepth 100000
set_option maxHeartbeats 4000000
set_option linter.unusedSimpArgs false
set_option linter.unusedVariables false
section
attribute [local simp] frz_int frz_bool frz_vl frz_pv frz_agg frz_tup frz_fn frz_ref frz_sl frz_nils optAll orcF rb_int rb_bool rb_agg rb_tup rb_int' rb_bool' rb_vl rb_pv rb_yld rb_nilf rb_nilp rb_nils rb_any rb_und rb_ref rb_sl rb_fn slE chunk fillA evParts evParts3 putAt List.range_succ List.range_zero List.range'_succ List.range'_zero runX_nil' unary_not evalS_pure evAll_nil evAll_cons runX_cons stepX wantedA dop CV.ev putK_eq setK_eq appK_eq fA_eq fI_eq fN_eq fRow_eq fRows_eq nth_eq Out.v putT List.replicate_succ AEx.thn AEx.blk arI pointee Abs.rowAt ldRow allV toV toC ofV ofC Builtin.min_ Builtin.min2 Builtin.max_ Builtin.max2 min_if max_if resA tupA kill trim_self trim_len trim_emp trim_nil lenA
attribute [local simp] runD_nil' runD_cons' stepD actK_eq actD clash disj masks holes maskH unmaskH diffs news eqB allB eqA ldRowN wrote toCs ofCs stA rowsV_vl rowsV_nils rowsOf dI1 dI2 dI3 dI5 elt
attribute [local simp] st_any st_und st_agg st_tup st_bool st_int st_nilp st_ref st_pv st_nils st_sl st_vl st_nilm st_mp st_fn st_nilf st_yld co_any co_und co_agg co_tup co_bool co_int co_nilp co_ref co_pv co_nils co_sl co_vl co_nilm co_mp co_fn co_nilf co_yld
noncomputable def PB1 : Nat → Option CFn := PA
theorem PB1_ok : TabOk Try.prog GG PB1 := PA_ok
end
end Go.Proofs.Ytfnnonoffiljhaa.Tab

namespace Go.Proofs.Ytfnnonoffiljhaa.Tab
open Go Go.Abs Go.Proofs
set_option maxRecDepth 100000
set_option maxHeartbeats 4000000
set_option linter.unusedSimpArgs false
set_option linter.unusedVariables false
section
attribute [local simp] frz_int frz_bool frz_vl frz_pv frz_agg frz_tup frz_fn frz_ref frz_sl frz_nils optAll orcF rb_int rb_bool rb_agg rb_tup rb_int' rb_bool' rb_vl rb_pv rb_yld rb_nilf rb_nilp rb_nils rb_any rb_und rb_ref rb_sl rb_fn slE chunk fillA evParts evParts3 putAt List.range_succ List.range_zero List.range'_succ List.range'_zero runX_nil' unary_not evalS_pure evAll_nil evAll_cons runX_cons stepX wantedA dop CV.ev putK_eq setK_eq appK_eq fA_eq fI_eq fN_eq fRow_eq fRows_eq nth_eq Out.v putT List.replicate_succ AEx.thn AEx.blk arI pointee Abs.rowAt ldRow allV toV toC ofV ofC Builtin.min_ Builtin.min2 Builtin.max_ Builtin.max2 min_if max_if resA tupA kill trim_self trim_len trim_emp trim_nil lenA
attribute [local simp] runD_nil' runD_cons' stepD actK_eq actD clash disj masks holes maskH unmaskH diffs news eqB allB eqA ldRowN wrote toCs ofCs stA rowsV_vl rowsV_nils rowsOf dI1 dI2 dI3 dI5 elt
attribute [local simp] st_any st_und st_agg st_tup st_bool st_int st_nilp st_ref st_pv st_nils st_sl st_vl st_nilm st_mp st_fn st_nilf st_yld co_any co_und co_agg co_tup co_bool co_int co_nilp co_ref co_pv co_nils co_sl co_vl co_nilm co_mp co_fn co_nilf co_yld
noncomputable def PC1_49 : Nat → Option CFn := PB1
theorem PC1_49_ok : TabOk Try.prog GG PC1_49 := PB1_ok
noncomputable def PC1 : Nat → Option CFn := PC1_49
theorem PC1_ok : TabOk Try.prog GG PC1 := PC1_49_ok
theorem tdiv_pos {a b : Int} (h : 0 ≤ a) : a.tdiv b = a / b := Int.tdiv_eq_ediv_of_nonneg h
theorem a89 (P : Program) (T : Nat → Option CFn) (hT : T 89 = some c89) (n b : Int) (hg : (0 ≤ n ∧ n ≤ 4000000000000000000) ∧ 1 ≤ b ∧ b ≤ 10000000000) : Answers P T 89 [I n, I b] [] fun v h => frz true h 5 v = some (I (upI n b)) := by
  have w1 : W .i64 (n + b) = n + b := W_fit (by omega)
  have w2 : W .i64 (n + b - 1) = n + b - 1 := W_fit (by omega)
  have hb : b ≠ 0 := by omega
  have hd : (n + b - 1).tdiv b = (n + b - 1) / b := tdiv_pos (by omega)
  have hq : 0 ≤ (n + b - 1) / b ∧ (n + b - 1) / b ≤ n + b - 1 := ⟨Int.ediv_nonneg (by omega) (by omega), Int.ediv_le_self _ (by omega)⟩
  have w3 : W .i64 ((n + b - 1) / b) = (n + b - 1) / b := W_fit (by omega)
  refine answers_of hT (orcF_none rfl) ?_
  simp only [c89]
  refine runs_seq ?_
  refine runs_reg (ops_run (by simp [lop, loud, callA, calleeA, w1, w2, w3, hb, hd]; rfl) ?_)
  simp only [AEx.thn, AEx.blk]
  refine runs_seq ?_
  refine runs_reg (ops_run (by simp [lop, loud, callA, calleeA, w1, w2, w3, hb, hd]; rfl) ?_)
  simp only [AEx.thn, AEx.blk]
  refine runs_ret ?_
  simp [lop, loud, callA, calleeA, w1, w2, w3, hb, hd, upI]
theorem a90 (P : Program) (T : Nat → Option CFn) (hT : T 90 = some c90) (a b c d e : Int) (hg : (0 ≤ a ∧ a ≤ 1000000000000) ∧ (0 ≤ b ∧ b ≤ 1000000000000) ∧ (0 ≤ c ∧ c ≤ 1000000000000) ∧ (0 ≤ d ∧ d ≤ 1000000000000) ∧ (0 ≤ e ∧ e ≤ 1000000000000)) : Answers P T 90 [.agg [I a, I b, I c, I d, I e]] [] fun v h => frz true h 5 v = some (I (a + b + c + d + e)) := by
  have w1 : W .i64 (a + b) = a + b := W_fit (by omega)
  have w2 : W .i64 (a + b + c) = a + b + c := W_fit (by omega)
  have w3 : W .i64 (a + b + c + d) = a + b + c + d := W_fit (by omega)
  have w4 : W .i64 (a + b + c + d + e) = a + b + c + d + e := W_fit (by omega)
  refine answers_of hT (orcF_none rfl) ?_
  simp only [c90]
  refine runs_seq ?_
  refine runs_reg (ops_run (by simp [lop, loud, callA, calleeA, w1, w2, w3, w4]; rfl) ?_)
  simp only [AEx.thn, AEx.blk]
  refine runs_seq ?_
  refine runs_reg (ops_run (by simp [lop, loud, callA, calleeA, w1, w2, w3, w4]; rfl) ?_)
  simp only [AEx.thn, AEx.blk]
  refine runs_ret ?_
  simp [lop, loud, callA, calleeA, w1, w2, w3, w4]
theorem a91 (P : Program) (T : Nat → Option CFn) (hT : T 91 = some c91) (q : PQ) (x : AVal) (hx : rowsV x = some (q.steps.map rP)) (hl : q.steps.length ≤ 1000) (n : Int) (hg : checkQ q = 0) : Answers P T 91 [vQ q x, I n] [] fun v h => frz true h 5 v = some (I (offI q.steps n)) := by
  have lx := rowsV_len hx
  rw [List.length_map] at lx
  have fx := fun H d => rowsV_frz hx H d
  have rx := fun n d => rowsV_rb hx n d
  have hd := dQ_vQ hx hl
  have cx := rowsV_cells hx
  obtain ⟨cx1, cx2⟩ := cx
  simp only [vQ] at hd ⊢
  refine answers_of hT (orcF_none rfl) ?_
  simp only [c91]
  refine runs_seq ?_
  refine runs_reg (ops_run (by simp [lop, loud, callA, calleeA, lx, -lenA, fx, hd, cx1, cx2, rx, W_fit0, zQ, vP]; rfl) ?_)
  simp only [AEx.thn, AEx.blk]
  refine runs_seq ?_
  refine runs_seq ?_
  refine runs_reg (ops_run (by simp [lop, loud, callA, calleeA, lx, -lenA, fx, hd, cx1, cx2, rx, W_fit0, zQ, vP]; rfl) ?_)
  simp only [AEx.thn, AEx.blk]
  refine runs_block ?_
  refine runs_loop_inv (fun m σ => ∃ (k : Nat) (i o : Int), i = k ∧ q.steps.length - k = m ∧ k ≤ q.steps.length ∧ (q.steps.drop k).foldl (fun o s => if s.1 ≤ n then s.2 else o) o = offI q.steps n ∧ σ = ⟨[.any, I n, .any, .any, I o, .any, .any, .any, .any, x, I q.steps.length, I i, .any, .any, .any, .any, .any, .any, .any, .any, .any, .any, .any], [some (.row 11 [[I q.area, I q.board, I q.waste, I q.tool, I q.setup, I q.run, I q.work, I q.pallet, I q.freight, I q.margin, x]])]⟩) ?_ (q.steps.length - 0) _ ⟨0, 0, 0, rfl, rfl, Nat.zero_le _, rfl, by simp⟩
  rintro m σ ⟨k, i, o, hik, rfl, hkl, hinv, rfl⟩
  refine runs_seq ?_
  refine runs_reg (ops_run (by simp [lop, loud, callA, calleeA, lx, -lenA, fx, hd, cx1, cx2, rx, W_fit0, zQ, vP]; rfl) ?_)
  simp only [AEx.thn, AEx.blk]
  refine runs_seq ?_
  refine runs_cond_split (x := decide (i < (q.steps.length : Int))) (by simp) (fun hlt => ?_) (fun hlt => ?_)
  · have hlt := of_decide_eq_true hlt
    have hk0 : k < q.steps.length := by omega
    obtain ⟨tt, rfl⟩ := rowsV_get hx (k := k) (by rw [List.length_map]; omega)
    have h0 : 0 ≤ i := by omega
    have htn : i.toNat = k := by omega
    rw [List.drop_eq_getElem_cons hk0, List.foldl_cons] at hinv
    generalize hs : q.steps[k] = s at *
    obtain ⟨s1, s2⟩ := s
    have hwi : W .i64 (i + 1) = i + 1 := W_small (by omega)
    refine runs_skip ?_
    simp only [AEx.thn, AEx.blk]
    refine runs_seq ?_
    refine runs_block ?_
    refine runs_seq ?_
    refine runs_reg (ops_run (by simp [lop, loud, callA, calleeA, lx, -lenA, fx, hd, cx1, cx2, rx, W_fit0, zQ, vP, h0, htn, hk0, hs, rP, hwi]; rfl) ?_)
    simp only [AEx.thn, AEx.blk]
    refine runs_seq ?_
    refine runs_reg (ops_run (by simp [lop, loud, callA, calleeA, lx, -lenA, fx, hd, cx1, cx2, rx, W_fit0, zQ, vP, h0, htn, hk0, hs, rP, hwi]; rfl) ?_)
    simp only [AEx.thn, AEx.blk]
    refine runs_cond_split (x := decide (s1 ≤ n)) (by simp) (fun hc => ?_) (fun hc => ?_)
    · have hc := of_decide_eq_true hc
      refine runs_reg (ops_run (by simp [lop, loud, callA, calleeA, lx, -lenA, fx, hd, cx1, cx2, rx, W_fit0, zQ, vP, h0, htn, hk0, hs, rP, hwi]; rfl) ?_)
      simp only [AEx.thn, AEx.blk]
      refine runs_reg (ops_run (by simp [lop, loud, callA, calleeA, lx, -lenA, fx, hd, cx1, cx2, rx, W_fit0, zQ, vP, h0, htn, hk0, hs, rP, hwi]; rfl) ?_)
      simp only [AEx.thn, AEx.blk]
      exact ⟨q.steps.length - (k + 1), by omega, k + 1, i + 1, _, by omega, rfl, by omega, by simpa [hc] using hinv, by simp [trim, rbB, lop, loud, callA, calleeA, lx, -lenA, fx, hd, cx1, cx2, rx, W_fit0, zQ, vP, h0, htn, hk0, hs, rP, hwi]⟩
    · have hc := of_decide_eq_false hc
      refine runs_skip ?_
      simp only [AEx.thn, AEx.blk]
      refine runs_reg (ops_run (by simp [lop, loud, callA, calleeA, lx, -lenA, fx, hd, cx1, cx2, rx, W_fit0, zQ, vP, h0, htn, hk0, hs, rP, hwi]; rfl) ?_)
      simp only [AEx.thn, AEx.blk]
      exact ⟨q.steps.length - (k + 1), by omega, k + 1, i + 1, _, by omega, rfl, by omega, by simpa [hc] using hinv, by simp [trim, rbB, lop, loud, callA, calleeA, lx, -lenA, fx, hd, cx1, cx2, rx, W_fit0, zQ, vP, h0, htn, hk0, hs, rP, hwi]⟩
  · have hlt := of_decide_eq_false hlt
    obtain rfl : k = q.steps.length := by omega
    rw [List.drop_length] at hinv
    simp only [List.foldl_nil] at hinv
    subst hinv
    refine runs_exit ?_
    simp only [AEx.thn, AEx.blk, if_true, if_false, reduceIte, Nat.reduceEqDiff, Nat.succ_ne_zero, Nat.one_ne_zero, Nat.zero_ne_one]
    refine runs_seq ?_
    refine runs_reg (ops_run (by simp [lop, loud, callA, calleeA, lx, -lenA, fx, hd, cx1, cx2, rx, W_fit0, zQ, vP]; rfl) ?_)
    simp only [AEx.thn, AEx.blk]
    refine runs_ret ?_
    simp [lop, loud, callA, calleeA, lx, -lenA, fx, hd, cx1, cx2, rx, W_fit0, zQ, vP, offI]
noncomputable def PC2_89 : Nat → Option CFn := upd PC1 89 true (oUp)
theorem PC2_89_ok : TabOk Try.prog GG PC2_89 := tab_add mixed PC1_ok fun args v ho => by
  unfold oUp at ho; split at ho <;> (try simp at ho)
  rename_i n b
  obtain ⟨hg, rfl⟩ := ho
  exact a89 Try.prog PC1 rfl  n b hg
noncomputable def PC2_90 : Nat → Option CFn := upd PC2_89 90 true (oCost)
theorem PC2_90_ok : TabOk Try.prog GG PC2_90 := tab_add mixed PC2_89_ok fun args v ho => by
  unfold oCost at ho; split at ho <;> (try simp at ho)
  rename_i a b c d e
  obtain ⟨hg, rfl⟩ := ho
  exact a90 Try.prog PC2_89 rfl  a b c d e hg
noncomputable def PC2 : Nat → Option CFn := upd PC2_90 91 true (oOff)
theorem PC2_ok : TabOk Try.prog GG PC2 := tab_add mixed PC2_90_ok fun args v ho => by
  unfold oOff at ho; split at ho <;> (try simp at ho)
  rename_i v n
  split at ho <;> (try simp at ho)
  rename_i q hq
  obtain ⟨x, rfl, hx, hl⟩ := dQ_eq hq
  try simp at ho
  obtain ⟨hg, rfl⟩ := ho
  exact a91 Try.prog PC2_90 rfl q x hx hl n hg
theorem a82 (P : Program) (T : Nat → Option CFn) (hT : T 82 = some c82) (h89 : T 89 = some { c89 with frsh := true, orc := oUp }) (q : PQ) (x : AVal) (hx : rowsV x = some (q.steps.map rP)) (hl : q.steps.length ≤ 1000) (n : Int) (hg : checkQ q = 0 ∧ 1 ≤ n ∧ n ≤ 100000) : Answers P T 82 [vQ q x, I n] [] fun v h => frz true h 5 v = some (vP (partsI q n)) := by
  have ha := (check_ok hg.1).1
  have b := parts_bd ha hg.2
  have w1 : W .i64 (n * q.area) = n * q.area := W_fit0 b.a1 (by decide)
  have w2 : W .i64 (1000 + q.waste) = 1000 + q.waste := W_fit (by have := ha.waste; omega)
  have w3 : W .i64 (n * q.area * (1000 + q.waste)) = n * q.area * (1000 + q.waste) := W_fit0 b.a2 (by decide)
  have w4 : W .i64 (n * q.area * (1000 + q.waste) * q.board) = n * q.area * (1000 + q.waste) * q.board := W_fit0 b.a3 (by decide)
  have w5 : W .i64 (q.setup * upI n q.run) = q.setup * upI n q.run := W_fit0 b.setup (by decide)
  have w6 : W .i64 (q.work * n) = q.work * n := W_fit0 b.wn (by decide)
  have w7 : W .i64 (q.freight * upI n q.pallet) = q.freight * upI n q.pallet := W_fit0 b.freight (by decide)
  have u1 : oUp [I (n * q.area * (1000 + q.waste) * q.board), I 10000000000] = some (I (upI (n * q.area * (1000 + q.waste) * q.board) 10000000000)) := by
    simp only [oUp]; rw [if_pos ⟨⟨b.a3.1, by have := b.a3.2; omega⟩, by decide, by decide⟩]
  have u2 : oUp [I n, I q.run] = some (I (upI n q.run)) := by simp only [oUp]; rw [if_pos ⟨by omega, ha.run.1, by have := ha.run; omega⟩]
  have u3 : oUp [I n, I q.pallet] = some (I (upI n q.pallet)) := by simp only [oUp]; rw [if_pos ⟨by omega, ha.pallet.1, by have := ha.pallet; omega⟩]
  have u4 : oUp [I (q.work * n), I 1000] = some (I (upI (q.work * n) 1000)) := by simp only [oUp]; rw [if_pos ⟨⟨b.wn.1, by have := b.wn.2; omega⟩, by decide, by decide⟩]
  have fx := fun H d => rowsV_frz hx H d
  have rx := fun n d => rowsV_rb hx n d
  have hd := dQ_vQ hx hl
  have cx := rowsV_cells hx
  obtain ⟨cx1, cx2⟩ := cx
  simp only [vQ] at hd ⊢
  refine answers_of hT (orcF_none rfl) ?_
  simp only [c82]
  refine runs_seq ?_
  refine runs_reg (ops_run (by simp [lop, loud, callA, calleeA, callF_step h89, h89, w1, w2, w3, w4, w5, w6, w7, u1, u2, u3, u4, fx, hd, cx1, cx2, rx, W_fit0, zQ, vP]; rfl) ?_)
  simp only [AEx.thn, AEx.blk]
  refine runs_seq ?_
  refine runs_drw (by simp (maxSteps := 3000000) [lop, loud, callA, calleeA, callF_step h89, h89, w1, w2, w3, w4, w5, w6, w7, u1, u2, u3, u4, fx, hd, cx1, cx2, rx, W_fit0, zQ, vP]; rfl) ?_
  simp only [AEx.thn, AEx.blk]
  refine runs_ret ?_
  simp [lop, loud, callA, calleeA, callF_step h89, h89, w1, w2, w3, w4, w5, w6, w7, u1, u2, u3, u4, fx, hd, cx1, cx2, rx, W_fit0, zQ, vP, vP, partsI]
noncomputable def PC3 : Nat → Option CFn := upd PC2 82 true (oParts)
theorem PC3_ok : TabOk Try.prog GG PC3 := tab_add mixed PC2_ok fun args v ho => by
  unfold oParts at ho; split at ho <;> (try simp at ho)
  rename_i v n
  split at ho <;> (try simp at ho)
  rename_i q hq
  obtain ⟨x, rfl, hx, hl⟩ := dQ_eq hq
  try simp at ho
  obtain ⟨hg, rfl⟩ := ho
  exact a82 Try.prog PC2 rfl rfl q x hx hl n hg
theorem a59 (P : Program) (T : Nat → Option CFn) (hT : T 59 = some c59) (h82 : T 82 = some { c82 with frsh := true, orc := oParts }) (h89 : T 89 = some { c89 with frsh := true, orc := oUp }) (h90 : T 90 = some { c90 with frsh := true, orc := oCost }) (h91 : T 91 = some { c91 with frsh := true, orc := oOff }) (q : PQ) (x : AVal) (hx : rowsV x = some (q.steps.map rP)) (hl : q.steps.length ≤ 1000) (n : Int) (hg : checkQ q = 0 ∧ 1 ≤ n ∧ n ≤ 100000) : Answers P T 59 [vQ q x, I n] [] fun v h => frz true h 5 v = some (I (priceI q n)) := by
  obtain ⟨hc, hn⟩ := hg
  have ha := (check_ok hc).1
  have b := parts_bd ha hn
  have pb := price_bd hc hn
  have ob := off_bd (check_ok hc).2.2.1 n
  have w1 : W .i64 (1000 + q.margin) = 1000 + q.margin := W_fit (by have := ha.margin; omega)
  have w2 : W .i64 (costI (partsI q n) * (1000 + q.margin)) = costI (partsI q n) * (1000 + q.margin) := W_fit0 pb.1 (by decide)
  have w3 : W .i64 (1000 - offI q.steps n) = 1000 - offI q.steps n := W_fit (by omega)
  have w4 : W .i64 (costI (partsI q n) * (1000 + q.margin) * (1000 - offI q.steps n)) = costI (partsI q n) * (1000 + q.margin) * (1000 - offI q.steps n) := W_fit0 pb.2.1 (by decide)
  have u1 : oUp [I (costI (partsI q n) * (1000 + q.margin) * (1000 - offI q.steps n)), I 1000000] = some (I (upI (costI (partsI q n) * (1000 + q.margin) * (1000 - offI q.steps n)) 1000000)) := by
    simp only [oUp]; rw [if_pos ⟨⟨pb.2.1.1, by have := pb.2.1.2; omega⟩, by decide, by decide⟩]
  have u2 : oCost [.agg [I (partsI q n).board, I (partsI q n).tool, I (partsI q n).setup, I (partsI q n).work, I (partsI q n).freight]] = some (I (costI (partsI q n))) := by
    simp only [oCost]; rw [if_pos ⟨⟨b.board.1, by have := b.board.2; omega⟩, ⟨b.tool.1, by have := b.tool.2; omega⟩, ⟨b.setup.1, by have := b.setup.2; omega⟩, ⟨b.work.1, by have := b.work.2; omega⟩, ⟨b.freight.1, by have := b.freight.2; omega⟩⟩]; rfl
  have hnn : 1 ≤ n ∧ n ≤ 100000 := hn
  have fx := fun H d => rowsV_frz hx H d
  have rx := fun n d => rowsV_rb hx n d
  have hd := dQ_vQ hx hl
  have cx := rowsV_cells hx
  obtain ⟨cx1, cx2⟩ := cx
  simp only [vQ] at hd ⊢
  refine answers_of hT (orcF_none rfl) ?_
  simp only [c59]
  refine runs_seq ?_
  refine runs_reg (ops_run (by simp [lop, loud, callA, calleeA, callF_step h82, h82, callF_step h89, h89, callF_step h90, h90, callF_step h91, h91, oParts, oOff, w1, w2, w3, w4, u1, u2, hc, hnn, fx, hd, cx1, cx2, rx, W_fit0, zQ, vP]; rfl) ?_)
  simp only [AEx.thn, AEx.blk]
  refine runs_seq ?_
  refine runs_drw (by simp (maxSteps := 3000000) [lop, loud, callA, calleeA, callF_step h82, h82, callF_step h89, h89, callF_step h90, h90, callF_step h91, h91, oParts, oOff, w1, w2, w3, w4, u1, u2, hc, hnn, fx, hd, cx1, cx2, rx, W_fit0, zQ, vP]; rfl) ?_
  simp only [AEx.thn, AEx.blk]
  refine runs_ret ?_
  simp [lop, loud, callA, calleeA, callF_step h82, h82, callF_step h89, h89, callF_step h90, h90, callF_step h91, h91, oParts, oOff, w1, w2, w3, w4, u1, u2, hc, hnn, fx, hd, cx1, cx2, rx, W_fit0, zQ, vP, priceI]
noncomputable def PC : Nat → Option CFn := upd PC3 59 true (oPrice)
theorem PC_ok : TabOk Try.prog GG PC := tab_add mixed PC3_ok fun args v ho => by
  unfold oPrice at ho; split at ho <;> (try simp at ho)
  rename_i v n
  split at ho <;> (try simp at ho)
  rename_i q hq
  obtain ⟨x, rfl, hx, hl⟩ := dQ_eq hq
  try simp at ho
  obtain ⟨hg, rfl⟩ := ho
  exact a59 Try.prog PC3 rfl rfl rfl rfl rfl q x hx hl n hg
end
end Go.Proofs.Ytfnnonoffiljhaa.Tab

namespace Go.Proofs.Ytfnnonoffiljhaa.Tab
open Go Go.Abs Go.Proofs
set_option maxRecDepth 100000
set_option maxHeartbeats 4000000
set_option linter.unusedSimpArgs false
set_option linter.unusedVariables false
section
attribute [local simp] frz_int frz_bool frz_vl frz_pv frz_agg frz_tup frz_fn frz_ref frz_sl frz_nils optAll orcF rb_int rb_bool rb_agg rb_tup rb_int' rb_bool' rb_vl rb_pv rb_yld rb_nilf rb_nilp rb_nils rb_any rb_und rb_ref rb_sl rb_fn slE chunk fillA evParts evParts3 putAt List.range_succ List.range_zero List.range'_succ List.range'_zero runX_nil' unary_not evalS_pure evAll_nil evAll_cons runX_cons stepX wantedA dop CV.ev putK_eq setK_eq appK_eq fA_eq fI_eq fN_eq fRow_eq fRows_eq nth_eq Out.v putT List.replicate_succ AEx.thn AEx.blk arI pointee Abs.rowAt ldRow allV toV toC ofV ofC Builtin.min_ Builtin.min2 Builtin.max_ Builtin.max2 min_if max_if resA tupA kill trim_self trim_len trim_emp trim_nil lenA
attribute [local simp] runD_nil' runD_cons' stepD actK_eq actD clash disj masks holes maskH unmaskH diffs news eqB allB eqA ldRowN wrote toCs ofCs stA rowsV_vl rowsV_nils rowsOf dI1 dI2 dI3 dI5 elt
attribute [local simp] st_any st_und st_agg st_tup st_bool st_int st_nilp st_ref st_pv st_nils st_sl st_vl st_nilm st_mp st_fn st_nilf st_yld co_any co_und co_agg co_tup co_bool co_int co_nilp co_ref co_pv co_nils co_sl co_vl co_nilm co_mp co_fn co_nilf co_yld
noncomputable def PD1_40 : Nat → Option CFn := PC
theorem PD1_40_ok : TabOk Try.prog GG PD1_40 := PC_ok
noncomputable def PD1 : Nat → Option CFn := PD1_40
theorem PD1_ok : TabOk Try.prog GG PD1 := PD1_40_ok
noncomputable def PD_41 : Nat → Option CFn := PD1
theorem PD_41_ok : TabOk Try.prog GG PD_41 := PD1_ok
noncomputable def PD_19 : Nat → Option CFn := PD_41
theorem PD_19_ok : TabOk Try.prog GG PD_19 := PD_41_ok
noncomputable def PD : Nat → Option CFn := PD_19
theorem PD_ok : TabOk Try.prog GG PD := PD_19_ok
end
end Go.Proofs.Ytfnnonoffiljhaa.Tab

namespace Go.Proofs.Ytfnnonoffiljhaa.Tab
open Go Go.Abs Go.Proofs
set_option maxRecDepth 100000
set_option maxHeartbeats 4000000
set_option linter.unusedSimpArgs false
set_option linter.unusedVariables false
section
attribute [local simp] frz_int frz_bool frz_vl frz_pv frz_agg frz_tup frz_fn frz_ref frz_sl frz_nils optAll orcF rb_int rb_bool rb_agg rb_tup rb_int' rb_bool' rb_vl rb_pv rb_yld rb_nilf rb_nilp rb_nils rb_any rb_und rb_ref rb_sl rb_fn slE chunk fillA evParts evParts3 putAt List.range_succ List.range_zero List.range'_succ List.range'_zero runX_nil' unary_not evalS_pure evAll_nil evAll_cons runX_cons stepX wantedA dop CV.ev putK_eq setK_eq appK_eq fA_eq fI_eq fN_eq fRow_eq fRows_eq nth_eq Out.v putT List.replicate_succ AEx.thn AEx.blk arI pointee Abs.rowAt ldRow allV toV toC ofV ofC Builtin.min_ Builtin.min2 Builtin.max_ Builtin.max2 min_if max_if resA tupA kill trim_self trim_len trim_emp trim_nil lenA
attribute [local simp] runD_nil' runD_cons' stepD actK_eq actD clash disj masks holes maskH unmaskH diffs news eqB allB eqA ldRowN wrote toCs ofCs stA rowsV_vl rowsV_nils rowsOf dI1 dI2 dI3 dI5 elt
attribute [local simp] st_any st_und st_agg st_tup st_bool st_int st_nilp st_ref st_pv st_nils st_sl st_vl st_nilm st_mp st_fn st_nilf st_yld co_any co_und co_agg co_tup co_bool co_int co_nilp co_ref co_pv co_nils co_sl co_vl co_nilm co_mp co_fn co_nilf co_yld
noncomputable def PE1 : Nat → Option CFn := PD
theorem PE1_ok : TabOk Try.prog GG PE1 := PD_ok
noncomputable def PE2 : Nat → Option CFn := PE1
theorem PE2_ok : TabOk Try.prog GG PE2 := PE1_ok
end
end Go.Proofs.Ytfnnonoffiljhaa.Tab

namespace Go.Proofs.Ytfnnonoffiljhaa.Tab
open Go Go.Abs Go.Proofs
set_option maxRecDepth 100000
set_option maxHeartbeats 4000000
set_option linter.unusedSimpArgs false
set_option linter.unusedVariables false
section
attribute [local simp] frz_int frz_bool frz_vl frz_pv frz_agg frz_tup frz_fn frz_ref frz_sl frz_nils optAll orcF rb_int rb_bool rb_agg rb_tup rb_int' rb_bool' rb_vl rb_pv rb_yld rb_nilf rb_nilp rb_nils rb_any rb_und rb_ref rb_sl rb_fn slE chunk fillA evParts evParts3 putAt List.range_succ List.range_zero List.range'_succ List.range'_zero runX_nil' unary_not evalS_pure evAll_nil evAll_cons runX_cons stepX wantedA dop CV.ev putK_eq setK_eq appK_eq fA_eq fI_eq fN_eq fRow_eq fRows_eq nth_eq Out.v putT List.replicate_succ AEx.thn AEx.blk arI pointee Abs.rowAt ldRow allV toV toC ofV ofC Builtin.min_ Builtin.min2 Builtin.max_ Builtin.max2 min_if max_if resA tupA kill trim_self trim_len trim_emp trim_nil lenA
attribute [local simp] runD_nil' runD_cons' stepD actK_eq actD clash disj masks holes maskH unmaskH diffs news eqB allB eqA ldRowN wrote toCs ofCs stA rowsV_vl rowsV_nils rowsOf dI1 dI2 dI3 dI5 elt
attribute [local simp] st_any st_und st_agg st_tup st_bool st_int st_nilp st_ref st_pv st_nils st_sl st_vl st_nilm st_mp st_fn st_nilf st_yld co_any co_und co_agg co_tup co_bool co_int co_nilp co_ref co_pv co_nils co_sl co_vl co_nilm co_mp co_fn co_nilf co_yld
noncomputable def PF1_62 : Nat → Option CFn := PE2
theorem PF1_62_ok : TabOk Try.prog GG PF1_62 := PE2_ok
noncomputable def PF1_63 : Nat → Option CFn := PF1_62
theorem PF1_63_ok : TabOk Try.prog GG PF1_63 := PF1_62_ok
noncomputable def PF1 : Nat → Option CFn := PF1_63
theorem PF1_ok : TabOk Try.prog GG PF1 := PF1_63_ok
noncomputable def PF2 : Nat → Option CFn := PF1
theorem PF2_ok : TabOk Try.prog GG PF2 := PF1_ok
noncomputable def PF3 : Nat → Option CFn := PF2
theorem PF3_ok : TabOk Try.prog GG PF3 := PF2_ok
noncomputable def PF_51 : Nat → Option CFn := PF3
theorem PF_51_ok : TabOk Try.prog GG PF_51 := PF3_ok
noncomputable def PF_21 : Nat → Option CFn := PF_51
theorem PF_21_ok : TabOk Try.prog GG PF_21 := PF_51_ok
noncomputable def PF : Nat → Option CFn := PF_21
theorem PF_ok : TabOk Try.prog GG PF := PF_21_ok
end
end Go.Proofs.Ytfnnonoffiljhaa.Tab

namespace Go.Proofs.Ytfnnonoffiljhaa.Tab
open Go Go.Abs Go.Proofs
set_option maxRecDepth 100000
set_option maxHeartbeats 4000000
set_option linter.unusedSimpArgs false
set_option linter.unusedVariables false
section
attribute [local simp] frz_int frz_bool frz_vl frz_pv frz_agg frz_tup frz_fn frz_ref frz_sl frz_nils optAll orcF rb_int rb_bool rb_agg rb_tup rb_int' rb_bool' rb_vl rb_pv rb_yld rb_nilf rb_nilp rb_nils rb_any rb_und rb_ref rb_sl rb_fn slE chunk fillA evParts evParts3 putAt List.range_succ List.range_zero List.range'_succ List.range'_zero runX_nil' unary_not evalS_pure evAll_nil evAll_cons runX_cons stepX wantedA dop CV.ev putK_eq setK_eq appK_eq fA_eq fI_eq fN_eq fRow_eq fRows_eq nth_eq Out.v putT List.replicate_succ AEx.thn AEx.blk arI pointee Abs.rowAt ldRow allV toV toC ofV ofC Builtin.min_ Builtin.min2 Builtin.max_ Builtin.max2 min_if max_if resA tupA kill trim_self trim_len trim_emp trim_nil lenA
attribute [local simp] runD_nil' runD_cons' stepD actK_eq actD clash disj masks holes maskH unmaskH diffs news eqB allB eqA ldRowN wrote toCs ofCs stA rowsV_vl rowsV_nils rowsOf dI1 dI2 dI3 dI5 elt
attribute [local simp] st_any st_und st_agg st_tup st_bool st_int st_nilp st_ref st_pv st_nils st_sl st_vl st_nilm st_mp st_fn st_nilf st_yld co_any co_und co_agg co_tup co_bool co_int co_nilp co_ref co_pv co_nils co_sl co_vl co_nilm co_mp co_fn co_nilf co_yld
noncomputable def PG1_18 : Nat → Option CFn := PF
theorem PG1_18_ok : TabOk Try.prog GG PG1_18 := PF_ok
noncomputable def PG1 : Nat → Option CFn := PG1_18
theorem PG1_ok : TabOk Try.prog GG PG1 := PG1_18_ok
end
end Go.Proofs.Ytfnnonoffiljhaa.Tab

namespace Go.Proofs.Ytfnnonoffiljhaa.Tab
open Go Go.Abs Go.Proofs
set_option maxRecDepth 1000000
noncomputable def kBook (es : List (List AVal)) (t : Bool) : AVal := .agg [.vl [[I 100], [I 0], [I 0]] true, .vl [[I 40], [I 35], [I 25]] true, .vl es t]
noncomputable def kB1 : AVal := kBook [[I 0, I 1, I 60], [I 1, I 2, I (-1)]] true
noncomputable def kB2 : AVal := kBook [[I 0, I 1, I 60], [I 1, I 2, I (-1)], [I 2, I 1, I (-1)]] false
noncomputable def kB3 : AVal := kBook [[I 0, I 1, I 60], [I 1, I 2, I 20]] true
theorem k29a : isR (.tup [.vl [[I 60, I 60], [I 25, I 25]] false, I 0]) (callF PG1 (exec Try.prog PG1 3000) 29 [kB1] []) = true := by kernel_rfl
theorem k29b : isR (.tup [.vl [[I 60, I 60], [I 25, I 1000000], [I 0, I 999975]] false, I 0]) (callF PG1 (exec Try.prog PG1 3000) 29 [kB2] []) = true := by kernel_rfl
noncomputable def L29 : List (List AVal × AVal) := [([kB1], .tup [.vl [[I 60, I 60], [I 25, I 25]] false, I 0]), ([kB2], .tup [.vl [[I 60, I 60], [I 25, I 1000000], [I 0, I 999975]] false, I 0])]
noncomputable def PK1 : Nat → Option CFn := upd PG1 29 true (oAt L29)
theorem PK1_ok : TabOk Try.prog GG PK1 := tab_add mixed PG1_ok (oAt_ok fun p hp => by
  simp only [L29, List.mem_cons, List.not_mem_nil, or_false] at hp
  rcases hp with rfl | rfl
  · exact isR_answers k29a
  · exact isR_answers k29b)
theorem k37 : isR (.tup [.vl [[I 1, I 1, I 2, I 25]] false, I 0]) (callF PK1 (exec Try.prog PK1 3000) 37 [kB3] []) = true := by kernel_rfl
noncomputable def L37 : List (List AVal × AVal) := [([kB3], .tup [.vl [[I 1, I 1, I 2, I 25]] false, I 0])]
noncomputable def PK2 : Nat → Option CFn := upd PK1 37 true (oAt L37)
theorem PK2_ok : TabOk Try.prog GG PK2 := tab_add mixed PK1_ok (oAt_ok fun p hp => by
  simp only [L37, List.mem_cons, List.not_mem_nil, or_false] at hp
  subst hp
  exact isR_answers k37)
theorem kn : isR (.bool true) (callF PK2 (exec Try.prog PK2 3000) 17 [] []) = true := by kernel_rfl
def oKn : List AVal → Option AVal
  | [] => some (.bool true)
  | _ => none
noncomputable def PK : Nat → Option CFn := upd PK2 17 true oKn
theorem PK_ok : TabOk Try.prog GG PK := tab_add mixed PK2_ok fun args v ho => by
  unfold oKn at ho; split at ho <;> simp at ho
  subst ho
  exact isR_answers kn
end Go.Proofs.Ytfnnonoffiljhaa.Tab

namespace Go.Proofs.Ytfnnonoffiljhaa
open Go Go.Abs Go.Proofs Go.ChangeShapes Go.WideShapes Go.ChangeAt Go.RowKit
theorem own : ownKnob Try.prog.godebug = none := by kernel_rfl
theorem laidOut : laidOutB Try.prog = true := by kernel_rfl
end Go.Proofs.Ytfnnonoffiljhaa

namespace Go.Proofs.Ytfnnonoffiljhaa
open Go Go.Abs Go.Proofs
theorem u8_wf {n : Int} (h : (Lit.int .u8 n).wf = true) : 0 ≤ n ∧ n ≤ 255 := by
  have e1 : IntKind.u8.min = 0 := rfl
  have e2 : IntKind.u8.max = 255 := rfl
  simp only [Lit.wf, e1, e2, Bool.and_eq_true, decide_eq_true_eq] at h
  exact h
theorem u16_wf {n : Int} (h : (Lit.int .u16 n).wf = true) : 0 ≤ n ∧ n ≤ 65535 := by
  have e1 : IntKind.u16.min = 0 := rfl
  have e2 : IntKind.u16.max = 65535 := rfl
  simp only [Lit.wf, e1, e2, Bool.and_eq_true, decide_eq_true_eq] at h
  exact h
theorem fits_u {Ls : List Ly} {xs : List AVal} (h : FitsR (.int .u8 :: Ls) xs) : ∃ (a : Int) (ys : List AVal), xs = .int .u8 a :: ys ∧ (0 ≤ a ∧ a ≤ 255) ∧ FitsR Ls ys := by
  obtain ⟨x, ys, rfl, hx, h1⟩ := fitsR_cons h
  obtain ⟨a, rfl, ha⟩ := fits_int hx
  exact ⟨a, ys, rfl, u8_wf ha, h1⟩
theorem fits_w {Ls : List Ly} {xs : List AVal} (h : FitsR (.int .u16 :: Ls) xs) : ∃ (a : Int) (ys : List AVal), xs = .int .u16 a :: ys ∧ (0 ≤ a ∧ a ≤ 65535) ∧ FitsR Ls ys := by
  obtain ⟨x, ys, rfl, hx, h1⟩ := fitsR_cons h
  obtain ⟨a, rfl, ha⟩ := fits_int hx
  exact ⟨a, ys, rfl, u16_wf ha, h1⟩
end Go.Proofs.Ytfnnonoffiljhaa

namespace Go.Abs
open Go
def lkG : List (Nat × List GL) → Nat → List GL
  | [], _ => []
  | (m, gs) :: l, k => if m = k then gs else lkG l k
def lkR : List (List Nat × Nat) → List Nat → Option Nat
  | [], _ => none
  | (m, k) :: l, ps => if m = ps then some k else lkR l ps
/-- The loops that keep so are gathered so; of a range over a function with these parameters, what a round keeps. -/
def annK (m : List (Nat × List GL)) (n : List (List Nat × Nat)) : CC → CC
  | .seq a b => .seq (annK m n a) (annK m n b)
  | .cond c a b => .cond c (annK m n a) (annK m n b)
  | .block id c => .block id (annK m n c)
  | .loop k c => match lkG m k with
    | [] => .loop k (annK m n c)
    | g :: gs => .loopG k (g :: gs) (annK m n c)
  | .rf f ps a b => match lkR n ps with
    | none => .rf f ps (annK m n a) (annK m n b)
    | some k => .rf f ps (annK m n a) (.kil k (annK m n b))
  | c => c
theorem strip_annK (m : List (Nat × List GL)) (n : List (List Nat × Nat)) : ∀ c, strip (annK m n c) = strip c
  | .seq a b => by simp only [annK, strip, strip_annK m n a, strip_annK m n b]
  | .cond c a b => by simp only [annK, strip, strip_annK m n a, strip_annK m n b]
  | .block id c => by simp only [annK, strip, strip_annK m n c]
  | .loop k c => by
    simp only [annK]
    split <;> simp only [strip, strip_annK m n c]
  | .rf f ps a b => by
    simp only [annK]
    split <;> simp only [strip, strip_annK m n a, strip_annK m n b]
  | .skip => rfl
  | .reg _ => rfl
  | .drw _ => rfl
  | .loopG _ _ _ => rfl
  | .loopN _ _ _ _ => rfl
  | .kil _ _ => rfl
  | .exit _ => rfl
  | .ret => rfl
noncomputable def updG (T : Nat → Option CFn) (f : Nat) (m : List (Nat × List GL)) (n : List (List Nat × Nat)) (g : Nat) : Option CFn :=
  if g = f then (match T f with
    | some c => some { c with body := annK m n c.body }
    | none => none)
  else T g
theorem tab_updG {P : Program} {G : Nat → Option (List AVal)} {T : Nat → Option CFn} (hT : TabOk P G T) {f : Nat} {m : List (Nat × List GL)} {n : List (List Nat × Nat)} : TabOk P G (updG T f m n) := by
  intro g cf hg
  unfold updG at hg
  split at hg
  · rename_i e
    subst e
    split at hg <;> simp at hg
    rename_i c hc
    subst hg
    obtain ⟨fn, b, h1, h2, h3, h4, h5⟩ := hT g c hc
    exact ⟨fn, b, h1, h2, h3, by simp only [strip_annK]; exact h4, h5⟩
  · exact hT g cf hg
section
variable {P : Program} {T : Nat → Option CFn} {r : Option Nat} {σ : St} {Q : St → Prop}
/-- The first k operations, by computing. -/
theorem ops_take (k : Nat) {l : List CO} {σ1 : St} (h : runX P T (fun _ _ _ => none) (l.take k) σ = some σ1) (h2 : Ops P T (l.drop k) σ1 Q) : Ops P T l σ Q := by
  have : Ops P T (l.take k ++ l.drop k) σ Q := by
    obtain ⟨n, σ2, g1, g2⟩ := h2
    generalize l.take k = a at h
    generalize l.drop k = b at g1
    induction a generalizing σ with
    | nil => simp [runX] at h; subst h; exact ⟨n, σ2, g1, g2⟩
    | cons o a ih =>
      rw [runX_cons] at h
      split at h
      · rename_i σ3 hs
        exact ops_cons 0 (σ1 := σ3) (stepX_mono (fun _ _ _ _ h => by simp at h) hs) (ih h)
      · simp at h
  rwa [List.take_append_drop] at this
end
end Go.Abs

namespace Go.Abs
open Go
section
variable {P : Program} {T : Nat → Option CFn} {r : Option Nat} {σ : St}
/-- A yield answers what Q takes. -/
def Ylds (P : Program) (T : Nat → Option CFn) (i : Nat) (args : List AVal) (h : Heap) (Q : AVal → Heap → Prop) : Prop := ∃ n v h', yieldF (exec P T n) i args h = some (v, h') ∧ Q v h'
theorem Ylds.mono {i : Nat} {args : List AVal} {h : Heap} {Q Q' : AVal → Heap → Prop} (hr : Ylds P T i args h Q) (hq : ∀ v h, Q v h → Q' v h) : Ylds P T i args h Q' := let ⟨n, v, h', h1, h2⟩ := hr; ⟨n, v, h', h1, hq _ _ h2⟩
/-- A yield, as an operation. -/
theorem ops_ylds {o : CO} {l : List CO} {i : Nat} {args : List AVal} {Q : St → Prop} (hw : wantedA σ.t o.g = some true) (hd : dop P σ.t σ.h o.op = none) (hp : lop σ.t σ.h o.op = none) (hc : calleeA σ.t o.op = some (.yld i args))
    (h : Ylds P T i args σ.h fun v h' => Ops P T l ⟨putT σ.t o.dst v, h'⟩ Q) : Ops P T (o :: l) σ Q := by
  obtain ⟨n, v, h', hy, hq⟩ := h
  refine ops_cons n (σ1 := ⟨putT σ.t o.dst v, h'⟩) ?_ hq
  simp only [stepX, hw, hd, loud, hp, callA, hc, hy, putK_eq]
/-- A yield runs the loop's body. -/
theorem ylds_of {i : Nat} {args t : List AVal} {h : Heap} {ps : List Nat} {asg bd : CC} {pd : Option CC} {Q : AVal → Heap → Prop} (hi : h[i]? = some (some (.loop t ps asg bd .ready pd))) (hn : args.length = ps.length)
    (hb : Runs P T (some i) asg ⟨setAll t (ps.zip args), h⟩ fun e1 σ1 => e1 = .normal ∧ ∃ t1 ps1 as1 bd1 pd1, σ1.h[i]? = some (some (.loop t1 ps1 as1 bd1 .ready pd1)) ∧
      Runs P T (some i) bd ⟨σ1.t, σ1.h.set i (some (.loop t1 ps1 as1 bd1 .busy pd1))⟩ fun e2 σ2 => ∃ t2 ps2 as2 bd2 st2 pd2, σ2.h[i]? = some (some (.loop t2 ps2 as2 bd2 st2 pd2)) ∧
        (match e2 with
        | .normal => Q (.bool true) (trim h.length [] (σ2.h.set i (some (.loop t2 ps2 as2 bd2 .ready none))))
        | .ret => Q (.bool false) (σ2.h.set i (some (.loop t2 ps2 as2 bd2 .done (some .ret))))
        | .exit id => Q (.bool false) (σ2.h.set i (some (.loop t2 ps2 as2 bd2 .done (some (.exit id))))))) : Ylds P T i args h Q := by
  obtain ⟨n1, e1, σ1, h1, rfl, t1, ps1, as1, bd1, pd1, hi1, n2, e2, σ2, h2, t2, ps2, as2, bd2, st2, pd2, hi2, hq⟩ := hb
  have e1 := exec_mono (P := P) (T := T) (Nat.le_max_left n1 n2) _ _ _ _ h1
  have e2' := exec_mono (P := P) (T := T) (Nat.le_max_right n1 n2) _ _ _ _ h2
  cases e2 with
  | normal => exact ⟨max n1 n2, _, _, by unfold yieldF; simp only [nth_eq, hi, hn, if_true, setAllK_eq, e1, hi1, setK_eq, e2', hi2, fN_eq, trimK_eq], hq⟩
  | ret => exact ⟨max n1 n2, _, _, by unfold yieldF; simp only [nth_eq, hi, hn, if_true, setAllK_eq, e1, hi1, setK_eq, e2', hi2], hq⟩
  | exit id => exact ⟨max n1 n2, _, _, by unfold yieldF; simp only [nth_eq, hi, hn, if_true, setAllK_eq, e1, hi1, setK_eq, e2', hi2], hq⟩
end
theorem rbB_none (n : Nat) : rbB n none = true := rfl
theorem rbB_row (n e : Nat) (rs : List (List AVal)) : rbB n (some (.row e rs)) = rs.all (·.all (rb n 5)) := rfl
theorem rbB_loop (n : Nat) (t : List AVal) (ps : List Nat) (asg bd : CC) (st : LoopState) (pd : Option CC) : rbB n (some (.loop t ps asg bd st pd)) = t.all (rb n 5) := rfl
end Go.Abs

namespace Go.Proofs.Ytfnnonoffiljhaa.Tab
open Go Go.Abs Go.Proofs
set_option maxRecDepth 100000
set_option maxHeartbeats 4000000
set_option linter.unusedSimpArgs false
set_option linter.unusedVariables false
section
attribute [local simp] frz_int frz_bool frz_vl frz_pv frz_agg frz_tup frz_fn frz_ref frz_sl frz_nils optAll orcF rb_int rb_bool rb_agg rb_tup rb_int' rb_bool' rb_vl rb_pv rb_yld rb_nilf rb_nilp rb_nils rb_any rb_und rb_ref rb_sl rb_fn slE chunk fillA evParts evParts3 putAt List.range_succ List.range_zero List.range'_succ List.range'_zero runX_nil' unary_not evalS_pure evAll_nil evAll_cons runX_cons stepX wantedA dop CV.ev putK_eq setK_eq appK_eq fA_eq fI_eq fN_eq fRow_eq fRows_eq nth_eq Out.v putT List.replicate_succ AEx.thn AEx.blk arI pointee Abs.rowAt ldRow allV toV toC ofV ofC Builtin.min_ Builtin.min2 Builtin.max_ Builtin.max2 min_if max_if resA tupA kill trim_self trim_len trim_emp trim_nil lenA
attribute [local simp] runD_nil' runD_cons' stepD actK_eq actD clash disj masks holes maskH unmaskH diffs news eqB allB eqA ldRowN wrote toCs ofCs stA rowsV_vl rowsV_nils rowsOf dI1 dI2 dI3 dI5 elt
attribute [local simp] st_any st_und st_agg st_tup st_bool st_int st_nilp st_ref st_pv st_nils st_sl st_vl st_nilm st_mp st_fn st_nilf st_yld co_any co_und co_agg co_tup co_bool co_int co_nilp co_ref co_pv co_nils co_sl co_vl co_nilm co_mp co_fn co_nilf co_yld
noncomputable def PL1 : Nat → Option CFn := PK
theorem PL1_ok : TabOk Try.prog GG PL1 := PK_ok
noncomputable def PL2 : Nat → Option CFn := PL1
theorem PL2_ok : TabOk Try.prog GG PL2 := PL1_ok
noncomputable def PL3 : Nat → Option CFn := PL2
theorem PL3_ok : TabOk Try.prog GG PL3 := PL2_ok
noncomputable def PL_22 : Nat → Option CFn := PL3
theorem PL_22_ok : TabOk Try.prog GG PL_22 := PL3_ok
noncomputable def PL : Nat → Option CFn := PL_22
theorem PL_ok : TabOk Try.prog GG PL := PL_22_ok
end
end Go.Proofs.Ytfnnonoffiljhaa.Tab

namespace Go.Proofs.Ytfnnonoffiljhaa.Tab
open Go Go.Abs Go.Proofs
set_option maxRecDepth 100000
set_option maxHeartbeats 4000000
set_option linter.unusedSimpArgs false
set_option linter.unusedVariables false
section
attribute [local simp] frz_int frz_bool frz_vl frz_pv frz_agg frz_tup frz_fn frz_ref frz_sl frz_nils optAll orcF rb_int rb_bool rb_agg rb_tup rb_int' rb_bool' rb_vl rb_pv rb_yld rb_nilf rb_nilp rb_nils rb_any rb_und rb_ref rb_sl rb_fn slE chunk fillA evParts evParts3 putAt List.range_succ List.range_zero List.range'_succ List.range'_zero runX_nil' unary_not evalS_pure evAll_nil evAll_cons runX_cons stepX wantedA dop CV.ev putK_eq setK_eq appK_eq fA_eq fI_eq fN_eq fRow_eq fRows_eq nth_eq Out.v putT List.replicate_succ AEx.thn AEx.blk arI pointee Abs.rowAt ldRow allV toV toC ofV ofC Builtin.min_ Builtin.min2 Builtin.max_ Builtin.max2 min_if max_if resA tupA kill trim_self trim_len trim_emp trim_nil lenA
attribute [local simp] runD_nil' runD_cons' stepD actK_eq actD clash disj masks holes maskH unmaskH diffs news eqB allB eqA ldRowN wrote toCs ofCs stA rowsV_vl rowsV_nils rowsOf dI1 dI2 dI3 dI5 elt
attribute [local simp] st_any st_und st_agg st_tup st_bool st_int st_nilp st_ref st_pv st_nils st_sl st_vl st_nilm st_mp st_fn st_nilf st_yld co_any co_und co_agg co_tup co_bool co_int co_nilp co_ref co_pv co_nils co_sl co_vl co_nilm co_mp co_fn co_nilf co_yld
noncomputable def PM1 : Nat → Option CFn := PL
theorem PM1_ok : TabOk Try.prog GG PM1 := PL_ok
noncomputable def PM_39 : Nat → Option CFn := PM1
theorem PM_39_ok : TabOk Try.prog GG PM_39 := PM1_ok
noncomputable def PM_42 : Nat → Option CFn := PM_39
theorem PM_42_ok : TabOk Try.prog GG PM_42 := PM_39_ok
noncomputable def PM : Nat → Option CFn := PM_42
theorem PM_ok : TabOk Try.prog GG PM := PM_42_ok
end
end Go.Proofs.Ytfnnonoffiljhaa.Tab

namespace Go.Proofs.Ytfnnonoffiljhaa.Tab
open Go Go.Abs Go.Proofs
/-- An entry: from, to, the amount. -/
abbrev Ent := Int × Int × Int
structure PB where
  opening : List Int
  closing : List Int
  entries : List Ent
def rI (n : Int) : List AVal := [I n]
def rE (e : Ent) : List AVal := [I e.1, I e.2.1, I e.2.2]
def entryOk (n : Int) (e : Ent) : Bool := inI 0 e.1 (n - 1) && inI 0 e.2.1 (n - 1) && (e.1 != e.2.1) && inI (-1) e.2.2 1000000
def sumOk (n : Int) : Bool := inI (-1000000000) n 1000000000
/-- The error of a book. -/
def bookE (b : PB) : Int :=
  if 5 < b.opening.length ∨ 12 < b.entries.length then 5
  else if b.opening.length = 0 ∨ b.closing.length ≠ b.opening.length ∨ ¬ (b.opening.all sumOk && b.closing.all sumOk) = true then 4
  else if b.entries.all (entryOk b.opening.length) then 0 else 2
structure BookOk (b : PB) : Prop where
  n5 : b.opening.length ≤ 5
  e12 : b.entries.length ≤ 12
  n0 : b.opening.length ≠ 0
  cl : b.closing.length = b.opening.length
  op : ∀ n ∈ b.opening, -1000000000 ≤ n ∧ n ≤ 1000000000
  co : ∀ n ∈ b.closing, -1000000000 ≤ n ∧ n ≤ 1000000000
  en : ∀ e ∈ b.entries, (0 ≤ e.1 ∧ e.1 < b.opening.length) ∧ (0 ≤ e.2.1 ∧ e.2.1 < b.opening.length) ∧ e.1 ≠ e.2.1 ∧ -1 ≤ e.2.2 ∧ e.2.2 ≤ 1000000
theorem book_ok {b : PB} (h : bookE b = 0) : BookOk b := by
  unfold bookE at h
  split at h
  · simp at h
  rename_i h1
  split at h
  · simp at h
  rename_i h2
  split at h
  · rename_i h3
    simp only [not_or, Decidable.not_not, Bool.and_eq_true, List.all_eq_true, sumOk, inI, decide_eq_true_eq] at h1 h2
    simp only [List.all_eq_true, entryOk, inI, Bool.and_eq_true, decide_eq_true_eq, bne_iff_ne, ne_eq] at h3
    refine ⟨by omega, by omega, h2.1, h2.2.1, h2.2.2.1, h2.2.2.2, fun e he => ?_⟩
    obtain ⟨⟨⟨h4, h5⟩, h6⟩, h7⟩ := h3 e he
    exact ⟨by omega, by omega, h6, h7⟩
  · simp at h
/-- An entry's work on all accounts. -/
def balStep (out : List Int) (e : Ent) : List Int :=
  if e.2.2 = -1 then out else
    let o1 := out.set e.1.toNat (out.getD e.1.toNat 0 - e.2.2)
    o1.set e.2.1.toNat (o1.getD e.2.1.toNat 0 + e.2.2)
def balI (b : PB) : List Int := b.entries.foldl balStep b.opening
/-- An entry's work on one account. -/
def accStep (a : Int) (x : Int) (e : Ent) : Int :=
  let y := if 0 ≤ e.2.2 ∧ e.2.1 = a then x + e.2.2 else x
  if 0 ≤ e.2.2 ∧ e.1 = a then y - e.2.2 else y
def accI (b : PB) (a : Int) : Int := b.entries.foldl (accStep a) (b.opening.getD a.toNat 0)
theorem balStep_len (out : List Int) (e : Ent) : (balStep out e).length = out.length := by unfold balStep; split <;> simp
theorem bal_len : ∀ (es : List Ent) (out : List Int), (es.foldl balStep out).length = out.length
  | [], _ => rfl
  | e :: es, out => by rw [List.foldl_cons, bal_len es, balStep_len]
theorem balStep_at {out : List Int} {e : Ent} (h1 : 0 ≤ e.1 ∧ e.1 < out.length) (h2 : 0 ≤ e.2.1 ∧ e.2.1 < out.length) (h3 : e.1 ≠ e.2.1) (h4 : -1 ≤ e.2.2) {a : Nat} (ha : a < out.length) : (balStep out e).getD a 0 = accStep a (out.getD a 0) e := by
  obtain ⟨f, t, n⟩ := e
  simp only at h1 h2 h3 h4
  unfold balStep accStep
  simp only
  by_cases hn : n = -1
  · subst hn; simp
  · have h0 : 0 ≤ n := by omega
    simp only [hn, if_false, h0, true_and]
    simp only [List.getD_eq_getElem?_getD, List.getElem?_set, List.length_set]
    have e1 : t.toNat < out.length := by omega
    have e2 : f.toNat < out.length := by omega
    have e3 : f.toNat ≠ t.toNat := by omega
    by_cases c1 : t.toNat = a
    · subst c1
      have c2 : t = (t.toNat : Int) := by omega
      have c3 : ¬ f = (t.toNat : Int) := by omega
      simp only [if_true, e1, e3, if_false, ← c2, c3, Option.getD_some]
      simp only [h3, if_false]
    · have c2 : ¬ t = (a : Int) := by omega
      simp only [c1, if_false, c2]
      by_cases c3 : f.toNat = a
      · subst c3
        have c4 : f = (f.toNat : Int) := by omega
        simp only [if_true, e2, Option.getD_some]
        rw [if_pos c4]
      · have c4 : ¬ f = (a : Int) := by omega
        simp [c3, c4]
theorem bal_at : ∀ (es : List Ent) (out : List Int), (∀ e ∈ es, (0 ≤ e.1 ∧ e.1 < out.length) ∧ (0 ≤ e.2.1 ∧ e.2.1 < out.length) ∧ e.1 ≠ e.2.1 ∧ -1 ≤ e.2.2 ∧ e.2.2 ≤ 1000000) → ∀ a : Nat, a < out.length → (es.foldl balStep out).getD a 0 = es.foldl (accStep a) (out.getD a 0)
  | [], _, _, _, _ => rfl
  | e :: es, out, h, a, ha => by
    obtain ⟨h1, h2, h3, h4, h5⟩ := h e (by simp)
    rw [List.foldl_cons, List.foldl_cons, bal_at es (balStep out e) (fun e' he' => by rw [balStep_len]; exact h e' (by simp [he'])) a (by rw [balStep_len]; exact ha), balStep_at h1 h2 h3 h4 ha]
theorem balI_at {b : PB} (h : BookOk b) {a : Nat} (ha : a < b.opening.length) : (balI b).getD a 0 = accI b a := by
  have := bal_at b.entries b.opening h.en a ha
  unfold balI accI
  rw [this]
  simp
/-- No account leaves the range. -/
theorem acc_bd (a : Int) : ∀ (es : List Ent) (x M : Int), (∀ e ∈ es, -1 ≤ e.2.2 ∧ e.2.2 ≤ 1000000) → -M ≤ x ∧ x ≤ M → -(M + 1000000 * es.length) ≤ es.foldl (accStep a) x ∧ es.foldl (accStep a) x ≤ M + 1000000 * es.length
  | [], x, M, _, h => by simpa using h
  | e :: es, x, M, he, h => by
    have h1 := he e (by simp)
    have h2 : -(M + 1000000) ≤ accStep a x e ∧ accStep a x e ≤ M + 1000000 := by
      unfold accStep
      simp only
      split <;> split <;> omega
    have := acc_bd a es (accStep a x e) (M + 1000000) (fun e he' => he e (by simp [he'])) h2
    rw [List.foldl_cons]
    simp only [List.length_cons]
    omega
end Go.Proofs.Ytfnnonoffiljhaa.Tab

namespace Go.Proofs.Ytfnnonoffiljhaa.Tab
open Go Go.Abs Go.Proofs
set_option maxRecDepth 100000
set_option maxHeartbeats 4000000
set_option linter.unusedSimpArgs false
set_option linter.unusedVariables false
section
attribute [local simp] frz_int frz_bool frz_vl frz_pv frz_agg frz_tup frz_fn frz_ref frz_sl frz_nils optAll orcF rb_int rb_bool rb_agg rb_tup rb_int' rb_bool' rb_vl rb_pv rb_yld rb_nilf rb_nilp rb_nils rb_any rb_und rb_ref rb_sl rb_fn slE chunk fillA evParts evParts3 putAt List.range_succ List.range_zero List.range'_succ List.range'_zero runX_nil' unary_not evalS_pure evAll_nil evAll_cons runX_cons stepX wantedA dop CV.ev putK_eq setK_eq appK_eq fA_eq fI_eq fN_eq fRow_eq fRows_eq nth_eq Out.v putT List.replicate_succ AEx.thn AEx.blk arI pointee Abs.rowAt ldRow allV toV toC ofV ofC Builtin.min_ Builtin.min2 Builtin.max_ Builtin.max2 min_if max_if resA tupA kill trim_self trim_len trim_emp trim_nil lenA
attribute [local simp] runD_nil' runD_cons' stepD actK_eq actD clash disj masks holes maskH unmaskH diffs news eqB allB eqA ldRowN wrote toCs ofCs stA rowsV_vl rowsV_nils rowsOf dI1 dI2 dI3 dI5 elt
attribute [local simp] st_any st_und st_agg st_tup st_bool st_int st_nilp st_ref st_pv st_nils st_sl st_vl st_nilm st_mp st_fn st_nilf st_yld co_any co_und co_agg co_tup co_bool co_int co_nilp co_ref co_pv co_nils co_sl co_vl co_nilm co_mp co_fn co_nilf co_yld
def vB (x y z : AVal) : AVal := .agg [x, y, z]
def zB : AVal := .agg [.nils, .nils, .nils]
def dBu : AVal → Option PB
  | .agg [x, y, z] => match rowsV x, rowsV y, rowsV z with
    | some rx, some ry, some rz => match optAll dI1 rx, optAll dI1 ry, optAll dI3 rz with
      | some o, some c, some e => some ⟨o, c, e⟩
      | _, _, _ => none
    | _, _, _ => none
  | _ => none
theorem dBu_eq {v : AVal} {b : PB} (h : dBu v = some b) : ∃ x y z, v = vB x y z ∧ rowsV x = some (b.opening.map rI) ∧ rowsV y = some (b.closing.map rI) ∧ rowsV z = some (b.entries.map rE) := by
  unfold dBu at h
  split at h <;> (try simp at h)
  rename_i x y z
  split at h <;> (try simp at h)
  rename_i r1 r2 r3 hx hy hz
  split at h <;> (try simp at h)
  rename_i o c e h1 h2 h3
  subst h
  have e1 := optAll_eq dI1_eq h1
  have e2 := optAll_eq dI1_eq h2
  have e3 := optAll_eq dI3_eq h3
  subst e1 e2 e3
  exact ⟨x, y, z, rfl, hx, hy, hz⟩
theorem dBu_vB {b : PB} {x y z : AVal} (hx : rowsV x = some (b.opening.map rI)) (hy : rowsV y = some (b.closing.map rI)) (hz : rowsV z = some (b.entries.map rE)) : dBu (vB x y z) = some b := by
  unfold dBu vB
  simp only [hx, hy, hz]
  rw [optAll_map (d := dI1) (enc := rI) (fun _ => rfl), optAll_map (d := dI1) (enc := rI) (fun _ => rfl), optAll_map (d := dI3) (enc := rE) (fun _ => rfl)]
def dB (v : AVal) : Option PB := match dBu v with
  | some b => if b.opening.length ≤ 1000 ∧ b.closing.length ≤ 1000 ∧ b.entries.length ≤ 1000 then some b else none
  | none => none
theorem dB_eq {v : AVal} {b : PB} (h : dB v = some b) : ∃ x y z, v = vB x y z ∧ rowsV x = some (b.opening.map rI) ∧ rowsV y = some (b.closing.map rI) ∧ rowsV z = some (b.entries.map rE) ∧ (b.opening.length ≤ 1000 ∧ b.closing.length ≤ 1000 ∧ b.entries.length ≤ 1000) := by
  unfold dB at h
  split at h <;> simp at h
  rename_i b' hb
  obtain ⟨hl, rfl⟩ := h
  obtain ⟨x, y, z, e, hx, hy, hz⟩ := dBu_eq hb
  exact ⟨x, y, z, e, hx, hy, hz, hl⟩
theorem dB_vB {b : PB} {x y z : AVal} (hx : rowsV x = some (b.opening.map rI)) (hy : rowsV y = some (b.closing.map rI)) (hz : rowsV z = some (b.entries.map rE)) (hl : b.opening.length ≤ 1000 ∧ b.closing.length ≤ 1000 ∧ b.entries.length ≤ 1000) : dB (vB x y z) = some b := by
  unfold dB
  rw [dBu_vB hx hy hz]
  simp [hl]
def oEntry : List AVal → Option AVal
  | [.agg [.int .i64 f, .int .i64 t, .int .i64 a], .int .i64 n] => if 0 ≤ n ∧ n ≤ 1000 then some (.bool (entryOk n (f, t, a))) else none
  | _ => none
def oNone : List AVal → Option AVal
  | [.agg [.int .i64 f, .int .i64 t, .int .i64 a], .pv [.int .i64 n] 0] => if 0 ≤ n ∧ n ≤ 1000 then some (.bool (!entryOk n (f, t, a))) else none
  | _ => none
def oBlot : List AVal → Option AVal
  | [.agg [.int .i64 _, .int .i64 _, .int .i64 a]] => some (.bool (a == -1))
  | _ => none
theorem wB_two' (a b n m : Int) : wB a b [n, m] = (inI a n b && inI a m b) := by simp [wB, inI]
theorem a77 (P : Program) (T : Nat → Option CFn) (hT : T 77 = some c77) (h65 : T 65 = some { c65 with frsh := true, orc := oWithin }) (f t a n : Int) (hg : 0 ≤ n ∧ n ≤ 1000) : Answers P T 77 [.agg [I f, I t, I a], I n] [] fun v h => frz true h 5 v = some (.bool (entryOk n (f, t, a))) := by
  have w1 : W .i64 (n - 1) = n - 1 := W_small (by omega)
  generalize hb1 : inI 0 f (n - 1) = b1
  generalize hb2 : inI 0 t (n - 1) = b2
  refine answers_of hT (orcF_none rfl) ?_
  simp only [c77]
  refine runs_seq ?_
  cases b1
  · refine runs_reg (ops_run (by simp [lop, loud, callA, calleeA, callF_step h65, h65, w1, oWithin, optAll, dI1, wB_two', wB_one, hb1, hb2]; rfl) ?_)
    simp only [AEx.thn, AEx.blk]
    refine runs_seq ?_
    refine runs_reg (ops_run (by simp [lop, loud, callA, calleeA, callF_step h65, h65, w1, oWithin, optAll, dI1, wB_two', wB_one, hb1, hb2]; rfl) ?_)
    simp only [AEx.thn, AEx.blk]
    refine runs_ret ?_
    simp [lop, loud, callA, calleeA, callF_step h65, h65, w1, oWithin, optAll, dI1, wB_two', wB_one, hb1, hb2, entryOk]
  · cases b2
    · refine runs_reg (ops_run (by simp [lop, loud, callA, calleeA, callF_step h65, h65, w1, oWithin, optAll, dI1, wB_two', wB_one, hb1, hb2]; rfl) ?_)
      simp only [AEx.thn, AEx.blk]
      refine runs_seq ?_
      refine runs_reg (ops_run (by simp [lop, loud, callA, calleeA, callF_step h65, h65, w1, oWithin, optAll, dI1, wB_two', wB_one, hb1, hb2]; rfl) ?_)
      simp only [AEx.thn, AEx.blk]
      refine runs_ret ?_
      simp [lop, loud, callA, calleeA, callF_step h65, h65, w1, oWithin, optAll, dI1, wB_two', wB_one, hb1, hb2, entryOk]
    · cases hb3 : f != t
      · refine runs_reg (ops_run (by simp [lop, loud, callA, calleeA, callF_step h65, h65, w1, oWithin, optAll, dI1, wB_two', wB_one, hb1, hb2, hb3]; rfl) ?_)
        simp only [AEx.thn, AEx.blk]
        refine runs_seq ?_
        refine runs_reg (ops_run (by simp [lop, loud, callA, calleeA, callF_step h65, h65, w1, oWithin, optAll, dI1, wB_two', wB_one, hb1, hb2, hb3]; rfl) ?_)
        simp only [AEx.thn, AEx.blk]
        refine runs_ret ?_
        simp [lop, loud, callA, calleeA, callF_step h65, h65, w1, oWithin, optAll, dI1, wB_two', wB_one, hb1, hb2, hb3, entryOk]
      · refine runs_reg (ops_run (by simp [lop, loud, callA, calleeA, callF_step h65, h65, w1, oWithin, optAll, dI1, wB_two', wB_one, hb1, hb2, hb3]; rfl) ?_)
        simp only [AEx.thn, AEx.blk]
        refine runs_seq ?_
        refine runs_reg (ops_run (by simp [lop, loud, callA, calleeA, callF_step h65, h65, w1, oWithin, optAll, dI1, wB_two', wB_one, hb1, hb2, hb3]; rfl) ?_)
        simp only [AEx.thn, AEx.blk]
        refine runs_ret ?_
        simp [lop, loud, callA, calleeA, callF_step h65, h65, w1, oWithin, optAll, dI1, wB_two', wB_one, hb1, hb2, hb3, entryOk]
noncomputable def PP1 : Nat → Option CFn := upd PM 77 true (oEntry)
theorem PP1_ok : TabOk Try.prog GG PP1 := tab_add mixed PM_ok fun args v ho => by
  unfold oEntry at ho; split at ho <;> (try simp at ho)
  rename_i f t a n
  obtain ⟨hg, rfl⟩ := ho
  exact a77 Try.prog PM rfl rfl f t a n hg
theorem a95 (P : Program) (T : Nat → Option CFn) (hT : T 95 = some c95) (h77 : T 77 = some { c77 with frsh := true, orc := oEntry }) (f t a n : Int) (hg : 0 ≤ n ∧ n ≤ 1000) : Answers P T 95 [.agg [I f, I t, I a], .pv [I n] 0] [] fun v h => frz true h 5 v = some (.bool (!entryOk n (f, t, a))) := by
  refine answers_of hT (orcF_none rfl) ?_
  simp only [c95]
  refine runs_seq ?_
  refine runs_reg (ops_run (by simp [lop, loud, callA, calleeA, callF_step h77, h77, oEntry, hg.1, hg.2]; rfl) ?_)
  simp only [AEx.thn, AEx.blk]
  refine runs_seq ?_
  refine runs_reg (ops_run (by simp [lop, loud, callA, calleeA, callF_step h77, h77, oEntry, hg.1, hg.2]; rfl) ?_)
  simp only [AEx.thn, AEx.blk]
  refine runs_ret ?_
  simp [lop, loud, callA, calleeA, callF_step h77, h77, oEntry, hg.1, hg.2]
theorem a67 (P : Program) (T : Nat → Option CFn) (hT : T 67 = some c67) (f t a : Int) : Answers P T 67 [.agg [I f, I t, I a]] [] fun v h => frz true h 5 v = some (.bool (a == -1)) := by
  refine answers_of hT (orcF_none rfl) ?_
  simp only [c67]
  refine runs_seq ?_
  refine runs_reg (ops_run (by simp [lop, loud, callA, calleeA]; rfl) ?_)
  simp only [AEx.thn, AEx.blk]
  refine runs_seq ?_
  refine runs_reg (ops_run (by simp [lop, loud, callA, calleeA]; rfl) ?_)
  simp only [AEx.thn, AEx.blk]
  refine runs_ret ?_
  simp [lop, loud, callA, calleeA]
theorem a108 (P : Program) (T : Nat → Option CFn) (hT : T 108 = some c108) (x : AVal) (rs : List (List AVal)) (hx : rowsV x = some rs) (g : Nat) (a b : List AVal) (r : Int) (hl : rs.length ≤ 1000) (hr : rs.all (fun r => r.length == 3 && r.all isI) = true)
    (hq : idxA (fun r => known T g (a ++ [elt r] ++ b)) 0 rs = some r) : Answers P T 108 [x, .fn g a b] [] fun v h => v = .int .i64 r ∧ h = [] := by
  have lx := rowsV_len hx
  refine answers_of hT (orcF_none rfl) ?_
  simp only [c108]
  refine runs_seq (runs_reg (ops_run (by simp; rfl) ?_))
  simp only [AEx.thn, AEx.blk]
  refine runs_seq (runs_seq (runs_reg (ops_run (by simp [lx, -lenA]; rfl) ?_)))
  simp only [AEx.thn, AEx.blk]
  refine runs_block ?_
  refine runs_loop_inv (fun m σ => ∃ (k : Nat) (i : Int), i = k ∧ m = rs.length - k ∧ k ≤ rs.length ∧ idxA (fun r => known T g (a ++ [elt r] ++ b)) k (rs.drop k) = some r ∧
    σ = ⟨[x, .fn g a b, .any, .any, .any, .any, .any, I rs.length, I i, .any, .any, .any, .any, .any, .any, .any, .any, .any, .any], []⟩) ?_ (rs.length - 0) _ ⟨0, 0, rfl, rfl, Nat.zero_le _, hq, by simp⟩
  rintro m σ ⟨k, i, hik, rfl, hk, hi, rfl⟩
  have h0 : 0 ≤ i := by omega
  have htn : i.toNat = k := by omega
  refine runs_seq (runs_reg (ops_run (by simp; rfl) ?_))
  simp only [AEx.thn, AEx.blk]
  refine runs_seq (runs_cond_split (x := decide (i < rs.length)) (by simp) (fun hlt => ?_) (fun hge => ?_))
  · refine runs_skip ?_
    simp only [AEx.thn, AEx.blk]
    have hlt' : k < rs.length := by have := of_decide_eq_true hlt; omega
    obtain ⟨tt, rfl⟩ := rowsV_get hx hlt'
    have hr1 := List.all_eq_true.1 hr _ (List.getElem_mem hlt')
    simp only [Bool.and_eq_true, beq_iff_eq, List.all_eq_true] at hr1
    obtain ⟨y0, y1, y2, hrk⟩ := ints3 hr1.1 hr1.2
    rw [List.drop_eq_getElem_cons hlt'] at hi
    simp only [idxA] at hi
    refine runs_seq (runs_block ?_)
    refine runs_seq (runs_reg (ops_run (by simp; rfl) ?_))
    simp only [AEx.thn, AEx.blk]
    split at hi
    · rename_i hb
      simp at hi; rw [← hik] at hi; subst hi
      rw [hrk] at hb; simp only [elt, List.append_assoc, List.cons_append, List.nil_append] at hb
      refine runs_seq (runs_reg (ops_run (by simp [h0, htn, hlt', hrk, lop, loud, callA, calleeA, callF_known hb]; rfl) ?_))
      simp only [AEx.thn, AEx.blk]
      refine runs_cond (x := true) (by simp) ?_
      refine runs_seq (runs_reg (ops_run (by simp; rfl) ?_))
      simp only [AEx.thn, AEx.blk]
      refine runs_ret ?_
      simp
    · rename_i hb
      rw [hrk] at hb; simp only [elt, List.append_assoc, List.cons_append, List.nil_append] at hb
      refine runs_seq (runs_reg (ops_run (by simp [h0, htn, hlt', hrk, lop, loud, callA, calleeA, callF_known hb]; rfl) ?_))
      simp only [AEx.thn, AEx.blk]
      refine runs_cond (x := false) (by simp) ?_
      refine runs_skip ?_
      simp only [AEx.thn, AEx.blk]
      refine runs_reg (ops_run (by simp; rfl) ?_)
      simp only [AEx.thn, AEx.blk]
      refine ⟨rs.length - (k + 1), by omega, k + 1, i + 1, by omega, rfl, by omega, hi, ?_⟩
      simp [W_small (show -1000000 ≤ i + 1 ∧ i + 1 ≤ 1000000 by omega)]
    · simp at hi
  · refine runs_exit ?_
    simp only [AEx.thn, AEx.blk, if_true]
    have hke : k = rs.length := by
      have := of_decide_eq_false hge
      omega
    subst hke
    rw [List.drop_length] at hi
    simp [idxA] at hi
    subst hi
    refine runs_seq (runs_reg (ops_run (by simp; rfl) ?_))
    simp only [AEx.thn, AEx.blk]
    refine runs_ret ?_
    simp
theorem a97 (P : Program) (T : Nat → Option CFn) (hT : T 97 = some c97) (hj : T 108 = some c108) (x : AVal) (rs : List (List AVal)) (hx : rowsV x = some rs) (g : Nat) (a b : List AVal) (r : Int) (hl : rs.length ≤ 1000) (hr : rs.all (fun r => r.length == 3 && r.all isI) = true)
    (hq : idxA (fun r => known T g (a ++ [elt r] ++ b)) 0 rs = some r) : Answers P T 97 [x, .fn g a b] [] fun v h => v = .bool (decide (0 ≤ r)) ∧ h = [] := by
  refine answers_of hT (orcF_none rfl) ?_
  simp only [c97]
  refine runs_seq (runs_reg (ops_run (by simp; rfl) ?_))
  simp only [AEx.thn, AEx.blk]
  refine runs_seq (runs_reg ?_)
  refine ops_cons 0 (by simp; rfl) (ops_cons 0 (by simp; rfl) ?_)
  refine ops_call (f := 108) (args := [x, .fn g a b]) (by simp) (by simp) (by simp [lop]) (by simp [calleeA]) ?_
  refine (a108 P T hj x rs hx g a b r hl hr hq).mono ?_
  rintro v h' ⟨rfl, rfl⟩
  refine ops_run (by simp; rfl) ?_
  simp only [AEx.thn, AEx.blk]
  refine runs_ret ?_
  simp
noncomputable def PP2_95 : Nat → Option CFn := upd PP1 95 true (oNone)
theorem PP2_95_ok : TabOk Try.prog GG PP2_95 := tab_add mixed PP1_ok fun args v ho => by
  unfold oNone at ho; split at ho <;> (try simp at ho)
  rename_i f t a n
  obtain ⟨hg, rfl⟩ := ho
  exact a95 Try.prog PP1 rfl rfl f t a n hg
noncomputable def PP2 : Nat → Option CFn := upd PP2_95 67 true (oBlot)
theorem PP2_ok : TabOk Try.prog GG PP2 := tab_add mixed PP2_95_ok fun args v ho => by
  unfold oBlot at ho; split at ho <;> simp at ho
  rename_i f t a
  subst ho
  exact a67 Try.prog PP2_95 rfl f t a
noncomputable def PP3 : Nat → Option CFn := upd PP2 97 true (oCF PP2 3)
theorem PP3_ok : TabOk Try.prog GG PP3 := tab_add mixed PP2_ok fun args v ho => by
  unfold oCF at ho; split at ho <;> (try simp at ho)
  rename_i x g a b
  split at ho <;> (try simp at ho)
  rename_i rs hx
  obtain ⟨⟨hl, hr⟩, ho⟩ := ho
  split at ho <;> simp at ho
  rename_i r hq
  subst ho
  refine (a97 Try.prog PP2 rfl rfl x rs hx g a b r hl (by simpa using hr) (by simpa using hq)).mono ?_
  rintro v h ⟨rfl, rfl⟩
  rfl
theorem a107 (P : Program) (T : Nat → Option CFn) (hT : T 107 = some c107) (n : Nat) (hn : 1 ≤ n ∧ n ≤ 2000) : Answers P T 107 [.nils, I n] [] fun v h => v = .sl 0 0 0 false ∧ h = [some (.row 1 (List.replicate n [I 0]))] := by
  have hw0 : W .i64 (n : Int) = n := W_small (by omega)
  have hw00 : W .i64 0 = 0 := by decide
  have hn0 : ¬ (n : Int) < 0 := by omega
  have hn1 : 0 < n := by omega
  have hw1 : W .i64 ((n : Int) - 0) = n := W_small (by omega)
  have hlim : (n : Int) ≤ 1048576 := by omega
  have hl1 : 1 ≤ (n : Int) := by omega
  refine answers_of hT (orcF_none rfl) ?_
  simp only [c107]
  refine runs_seq ?_
  refine runs_reg (ops_run (by simp [lop, loud, callA, calleeA, hw0, hw00, hn0, hn1, hw1, lim, slE, List.drop_zero, hlim, hl1, evOpt, sliceA, bounds, hiB, bound]; rfl) ?_)
  simp only [AEx.thn, AEx.blk]
  refine runs_seq ?_
  refine runs_seq ?_
  refine runs_reg (ops_run (by simp [lop, loud, callA, calleeA, hw0, hw00, hn0, hn1, hw1, lim, slE, List.drop_zero, hlim, hl1, evOpt, sliceA, bounds, hiB, bound]; rfl) ?_)
  simp only [AEx.thn, AEx.blk]
  refine runs_cond (x := false) (by simp [hn0]) ?_
  refine runs_skip ?_
  simp only [AEx.thn, AEx.blk]
  refine runs_seq ?_
  refine runs_seq ?_
  refine runs_reg (ops_run (by simp [lop, loud, callA, calleeA, hw0, hw00, hn0, hn1, hw1, lim, slE, List.drop_zero, hlim, hl1, evOpt, sliceA, bounds, hiB, bound]; rfl) ?_)
  simp only [AEx.thn, AEx.blk]
  refine runs_seq ?_
  refine runs_reg (ops_run (by simp [lop, loud, callA, calleeA, hw0, hw00, hn0, hn1, hw1, lim, slE, List.drop_zero, hlim, hl1, evOpt, sliceA, bounds, hiB, bound]; rfl) ?_)
  simp only [AEx.thn, AEx.blk]
  refine runs_cond (x := true) (by simp [hw0, hw00, hn1]) ?_
  refine runs_reg (ops_run (by simp [lop, loud, callA, calleeA, hw0, hw00, hn0, hn1, hw1, lim, slE, List.drop_zero, hlim, hl1, evOpt, sliceA, bounds, hiB, bound]; rfl) ?_)
  simp only [AEx.thn, AEx.blk]
  refine runs_seq ?_
  refine runs_reg (ops_run (by simp [lop, loud, callA, calleeA, hw0, hw00, hn0, hn1, hw1, lim, slE, List.drop_zero, hlim, hl1, evOpt, sliceA, bounds, hiB, bound]; rfl) ?_)
  simp only [AEx.thn, AEx.blk]
  refine runs_ret ?_
  simp [lop, loud, callA, calleeA, hw0, hw00, hn0, hn1, hw1, lim, slE, List.drop_zero, hlim, hl1, evOpt, sliceA, bounds, hiB, bound, trim]
end
end Go.Proofs.Ytfnnonoffiljhaa.Tab

namespace Go.Proofs.Ytfnnonoffiljhaa
open Go Go.Abs Go.Proofs
theorem rows_of {x : AVal} {rs : List (List AVal)} (hx : x = .nils ∧ rs = [] ∨ ∃ t, x = .vl rs t) : rowsV x = some rs := by
  rcases hx with ⟨rfl, rfl⟩ | ⟨t, rfl⟩ <;> rfl
end Go.Proofs.Ytfnnonoffiljhaa
