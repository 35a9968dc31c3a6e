/- Complaints, the plain law: which sets of causes explain signs, bit by bit. No condition. -/
import Derived.Test.YtpebmjeomlgmdaaGreatDoorChecked
import Derived.ProofKit
import Derived.Below
import Derived.LaidMore
import Derived.Test.YtpebmjeomlgmdaaGreatDoorCards
import Derived.Test.YtpebmjeomlgmdaaGreatDoorTie
import Derived.SevenTiedAt
import Derived.Stop.Joined
import Derived.Shelf.SlSortCmp.Whole1
import Derived.Shelf.SlSortCmp.WholeK
import Derived.Shelf.Sort.Plain
import Derived.Test.YtpebmjeomlgmdaaGreatDoorPzBZs
set_option linter.unusedSimpArgs false
set_option linter.unusedVariables false
set_option maxRecDepth 100000
namespace Go.Proofs.YtpebmjeomlgmdaaGreatDoor.Tab
open Go Go.Abs
noncomputable section
def c66 : CFn := ⟨(.seq (.reg [oo 4 (.mv (.c (.bool false)))]) (.seq (.reg [om 5 0, om 6 1, oo 7 (cl 80 [(.t 5), (.t 6)]), oo 8 (.ar .geq (.t 7) (ci 0)), om 4 8]) .ret)), 9, [(.tmp 4)], false, fun _ => none, fun _ _ => none⟩
def c67 : CFn := ⟨(.seq (.reg [oo 4 (.mv (.c (.bool false)))]) (.seq (.reg [om 5 0, oo 6 (.ld (.t 1)), oo 7 (.ar .lss (.t 5) (.t 6)), om 8 7, og 9 (.mv (.t 0)) 8 false, og 10 (.ld (.t 2)) 8 false, og 11 (.ar .gtr (.t 9) (.t 10)) 8 false, oo 12 (.pick (.t 8) (.c (.bool true)) (.t 11)), om 4 12]) .ret)), 13, [(.tmp 4)], false, fun _ => none, fun _ _ => none⟩
def c68 : CFn := ⟨(.seq (.reg [oo 6 (.new [(.int .u64 (0)), (.int .u64 (0)), .nils]), oo 7 (.mv (ci 0))]) (.seq (.block 0 (.seq (.reg [om 9 0, oo 10 (.len (.t 9)), oo 11 (.ar .gtr (.t 10) (ci 10)), om 8 11]) (.cond (.t 8) (.seq (.reg [oo 12 (.ldn 3 (.t 6)), ⟨none, (.st 3 (.t 6) (.t 12)), none, []⟩, oo 7 (.mv (ci 5))]) .ret) (.seq (.reg [om 14 0, oo 15 (cl 81 [(.t 14), (.c (.fn 82 [] []))]), om 13 15]) (.cond (.t 13) (.seq (.reg [oo 16 (.ldn 3 (.t 6)), ⟨none, (.st 3 (.t 6) (.t 16)), none, []⟩, oo 7 (.mv (ci 4))]) .ret) (.seq (.reg [om 18 1, om 19 2, oo 20 (.bsl 1 2 [(.int .i64 (0))] [(0, (.t 18)), (1, (.t 19))]), oo 21 (cl 45 [(ci 0), (ci 4095), (.t 20)]), oo 22 (.un .not (.t 21)), om 17 22]) (.cond (.t 17) (.seq (.reg [oo 23 (.ldn 3 (.t 6)), ⟨none, (.st 3 (.t 6) (.t 23)), none, []⟩, oo 7 (.mv (ci 3))]) .ret) (.seq (.reg [om 25 1, om 26 2, oo 27 (.ar .and (.t 25) (.t 26)), oo 28 (.ar .neq (.t 27) (ci 0)), om 24 28]) (.cond (.t 24) (.seq (.reg [oo 29 (.ldn 3 (.t 6)), ⟨none, (.st 3 (.t 6) (.t 29)), none, []⟩, oo 7 (.mv (ci 6))]) .ret) .skip))))))))) (.seq (.reg [om 30 1, oo 31 (.conv .u64 (.t 30)), om 32 2, oo 33 (.conv .u64 (.t 32)), oo 34 (.bld [(.int .u64 (0)), (.int .u64 (0))] [(0, (1, (.t 31))), (1, (1, (.t 33)))]), om 35 0, oo 36 (.bld [(.int .u64 (0)), (.int .u64 (0)), .nils] [(0, (2, (.t 34))), (2, (1, (.t 35)))]), ⟨none, (.st 3 (.t 6) (.t 36)), none, []⟩, oo 7 (.mv (ci 0))]) .ret))), 37, [(.ldn 3 6), (.tmp 7)], false, fun _ => none, fun _ _ => none⟩
def c69 : CFn := ⟨(.seq (.reg [oo 1 (.box (.t 0)), oo 2 (.mv (.c .nils)), oo 3 (.mv (ci 0))]) (.seq (.reg [oo 9 .mkm, om 4 9]) (.seq (.seq (.reg [oo 10 (.fa 2 (.t 1)), oo 11 (.ld (.t 10)), oo 12 (.len (.t 11)), oo 13 (.sh .shl (.c (.int .u64 (1))) (.t 12)), oo 14 (.mv (.c (.int .u64 (0))))]) (.block 0 (.loop 24594 (.seq (.reg [oo 15 (.ar .lss (.t 14) (.t 13))]) (.seq (.cond (.t 15) .skip (.exit 0)) (.seq (.block 1 (.seq (.reg [om 16 14, om 5 16]) (.seq (.reg [oo 17 (.ldn 3 (.t 1)), om 18 5, oo 19 (.fa 0 (.t 1)), oo 20 (.ldn 2 (.t 19)), oo 21 (cl 70 [(.t 17), (.t 18), (.t 20)])]) (.cond (.t 21) (.reg [om 22 4, om 23 5, oo 24 (cl 83 [(.t 23)]), om 25 4, om 26 5, oo 27 (cl 83 [(.t 26)]), oo 28 (.lk false .nils (.t 25) (.t 27)), om 29 5, oo 30 (.bsl 1 1 [(.int .u64 (0))] [(0, (.t 29))]), oo 31 (.app 1 (.t 28) (.t 30)), ⟨none, (.mu (.t 22) (.t 24) (.t 31)), none, []⟩]) .skip)))) (.reg [oo 32 (.ar .add (.t 14) (.c (.int .u64 (1)))), om 14 32]))))))) (.seq (.seq (.reg [oo 33 (.fa 2 (.t 1)), oo 34 (.ld (.t 33)), oo 35 (.len (.t 34)), oo 36 (.ar .add (.t 35) (ci 1)), oo 37 (.mv (ci 0))]) (.block 2 (.loop 206158430224 (.seq (.reg [oo 38 (.ar .lss (.t 37) (.t 36))]) (.seq (.cond (.t 38) .skip (.exit 2)) (.seq (.block 3 (.seq (.reg [om 39 37, om 6 39]) (.seq (.reg [om 41 4, om 42 6, oo 43 (.lk true .nils (.t 41) (.t 42)), om 40 43, oo 44 (.ext 0 (.t 40)), oo 45 (.ext 1 (.t 40)), om 7 44, om 8 45]) (.seq (.reg [om 46 8]) (.cond (.t 46) (.seq (.seq (.reg [om 47 7, oo 48 (.len (.t 47)), oo 49 (.ar .gtr (.t 48) (ci 30))]) (.cond (.t 49) (.seq (.reg [oo 2 (.mv (.c .nils)), oo 3 (.mv (ci 8))]) .ret) .skip)) (.seq (.reg [om 50 7, oo 51 (cl 84 [(.t 50), (.c (.fn 85 [] []))])]) (.seq (.reg [om 52 7, om 2 52, oo 3 (.mv (ci 0))]) .ret))) .skip))))) (.reg [oo 53 (.ar .add (.t 37) (ci 1)), om 37 53]))))))) (.seq (.reg [oo 2 (.mv (.c .nils)), oo 3 (.mv (ci 9))]) .ret))))), 54, [(.tmp 2), (.tmp 3)], false, fun _ => none, fun _ _ => none⟩
def c70 : CFn := ⟨(.seq (.reg [oo 3 (.box (.t 0)), oo 5 (.box (.t 2)), oo 6 (.mv (.c (.bool false)))]) (.seq (.reg [oo 10 (.ldn 3 (.t 3)), om 11 1, oo 12 (cl 86 [(.t 10), (.t 11)]), om 9 12, oo 13 (.ext 0 (.t 9)), oo 14 (.ext 1 (.t 9)), om 7 13, om 8 14]) (.seq (.reg [oo 15 (.fa 0 (.t 5)), oo 16 (.ld (.t 15)), om 17 8, oo 18 (.ar .andNot (.t 16) (.t 17)), oo 19 (.ar .eql (.t 18) (.c (.int .u64 (0)))), om 20 19, og 21 (.fa 1 (.t 5)) 20 true, og 22 (.ld (.t 21)) 20 true, og 23 (.mv (.t 7)) 20 true, og 24 (.ar .and (.t 22) (.t 23)) 20 true, og 25 (.ar .eql (.t 24) (.c (.int .u64 (0)))) 20 true, oo 26 (.pick (.t 20) (.t 25) (.c (.bool false))), om 6 26]) .ret))), 27, [(.tmp 6)], false, fun _ => none, fun _ _ => none⟩
def c71 : CFn := ⟨(.seq (.reg [oo 4 (.mv (ci 0))]) (.seq (.seq (.reg [om 6 0, oo 7 (.len (.t 6)), oo 8 (.mv (ci 0))]) (.block 0 (.loop 387 (.seq (.reg [oo 9 (.ar .lss (.t 8) (.t 7))]) (.seq (.cond (.t 9) .skip (.exit 0)) (.seq (.block 1 (.seq (.reg [om 10 8, om 5 10]) (.seq (.reg [om 11 1, om 12 0, om 13 5, oo 14 (.ias 5 (.t 12) (.t 13)), oo 15 (.ldn 5 (.t 14)), oo 16 (.call (.t 11) [(.t 15)])]) (.cond (.t 16) (.seq (.reg [om 17 5, om 4 17]) .ret) .skip)))) (.reg [oo 18 (.ar .add (.t 8) (ci 1)), om 8 18]))))))) (.seq (.reg [oo 4 (.mv (ci (-1)))]) .ret))), 19, [(.tmp 4)], false, fun _ => none, fun _ _ => none⟩
def c72 : CFn := ⟨(.seq (.reg [oo 4 (.mv (ci 0))]) (.seq (.seq (.reg [om 6 0, oo 7 (.len (.t 6)), oo 8 (.mv (ci 0))]) (.block 0 (.loop 387 (.seq (.reg [oo 9 (.ar .lss (.t 8) (.t 7))]) (.seq (.cond (.t 9) .skip (.exit 0)) (.seq (.block 1 (.seq (.reg [om 10 8, om 5 10]) (.seq (.reg [om 11 1, om 12 0, om 13 5, oo 14 (.ias 3 (.t 12) (.t 13)), oo 15 (.ldn 3 (.t 14)), oo 16 (.call (.t 11) [(.t 15)])]) (.cond (.t 16) (.seq (.reg [om 17 5, om 4 17]) .ret) .skip)))) (.reg [oo 18 (.ar .add (.t 8) (ci 1)), om 8 18]))))))) (.seq (.reg [oo 4 (.mv (ci (-1)))]) .ret))), 19, [(.tmp 4)], false, fun _ => none, fun _ _ => none⟩
def c73 : CFn := ⟨(.seq (.reg [oo 2 (.mv (ci 0))]) (.seq (.seq (.reg [om 3 0, oo 4 (.ar .eql (.t 3) (.c (.int .u32 (0))))]) (.cond (.t 4) (.seq (.reg [oo 2 (.mv (ci 32))]) .ret) .skip)) (.seq (.reg [om 5 0, om 6 0, oo 7 (.un .neg (.t 6)), oo 8 (.ar .and (.t 5) (.t 7)), oo 9 (.ar .mul (.t 8) (.c (.int .u32 (125613361)))), oo 10 (.sh .shr (.t 9) (.c (.int .u64 (27)))), oo 11 (.iaa 32 1 (.c (.pv [(.int .u8 (0)), (.int .u8 (1)), (.int .u8 (28)), (.int .u8 (2)), (.int .u8 (29)), (.int .u8 (14)), (.int .u8 (24)), (.int .u8 (3)), (.int .u8 (30)), (.int .u8 (22)), (.int .u8 (20)), (.int .u8 (15)), (.int .u8 (25)), (.int .u8 (17)), (.int .u8 (4)), (.int .u8 (8)), (.int .u8 (31)), (.int .u8 (27)), (.int .u8 (13)), (.int .u8 (23)), (.int .u8 (21)), (.int .u8 (19)), (.int .u8 (16)), (.int .u8 (7)), (.int .u8 (26)), (.int .u8 (12)), (.int .u8 (18)), (.int .u8 (6)), (.int .u8 (11)), (.int .u8 (5)), (.int .u8 (10)), (.int .u8 (9))] 0)) (.t 10)), oo 12 (.ld (.t 11)), oo 13 (.conv .i64 (.t 12)), om 2 13]) .ret))), 14, [(.tmp 2)], false, fun _ => none, fun _ _ => none⟩
def c74 : CFn := ⟨(.seq (.reg [oo 2 (.mv (ci 0))]) (.seq (.seq (.reg [om 3 0, oo 4 (.ar .eql (.t 3) (.c (.int .u64 (0))))]) (.cond (.t 4) (.seq (.reg [oo 2 (.mv (ci 64))]) .ret) .skip)) (.seq (.reg [om 5 0, om 6 0, oo 7 (.un .neg (.t 6)), oo 8 (.ar .and (.t 5) (.t 7)), oo 9 (.ar .mul (.t 8) (.c (.int .u64 (285870213051353865)))), oo 10 (.sh .shr (.t 9) (.c (.int .u64 (58)))), oo 11 (.iaa 64 1 (.c (.pv [(.int .u8 (0)), (.int .u8 (1)), (.int .u8 (56)), (.int .u8 (2)), (.int .u8 (57)), (.int .u8 (49)), (.int .u8 (28)), (.int .u8 (3)), (.int .u8 (61)), (.int .u8 (58)), (.int .u8 (42)), (.int .u8 (50)), (.int .u8 (38)), (.int .u8 (29)), (.int .u8 (17)), (.int .u8 (4)), (.int .u8 (62)), (.int .u8 (47)), (.int .u8 (59)), (.int .u8 (36)), (.int .u8 (45)), (.int .u8 (43)), (.int .u8 (51)), (.int .u8 (22)), (.int .u8 (53)), (.int .u8 (39)), (.int .u8 (33)), (.int .u8 (30)), (.int .u8 (24)), (.int .u8 (18)), (.int .u8 (12)), (.int .u8 (5)), (.int .u8 (63)), (.int .u8 (55)), (.int .u8 (48)), (.int .u8 (27)), (.int .u8 (60)), (.int .u8 (41)), (.int .u8 (37)), (.int .u8 (16)), (.int .u8 (46)), (.int .u8 (35)), (.int .u8 (44)), (.int .u8 (21)), (.int .u8 (52)), (.int .u8 (32)), (.int .u8 (23)), (.int .u8 (11)), (.int .u8 (54)), (.int .u8 (26)), (.int .u8 (40)), (.int .u8 (15)), (.int .u8 (34)), (.int .u8 (20)), (.int .u8 (31)), (.int .u8 (10)), (.int .u8 (25)), (.int .u8 (14)), (.int .u8 (19)), (.int .u8 (9)), (.int .u8 (13)), (.int .u8 (8)), (.int .u8 (7)), (.int .u8 (6))] 0)) (.t 10)), oo 12 (.ld (.t 11)), oo 13 (.conv .i64 (.t 12)), om 2 13]) .ret))), 14, [(.tmp 2)], false, fun _ => none, fun _ _ => none⟩
def c75 : CFn := ⟨(.seq (.reg [oo 2 (.box (.t 0)), oo 3 (.box (.t 1)), oo 4 (.mv (.c (.bool false)))]) (.seq (.reg [oo 5 (.fa 0 (.t 2)), oo 6 (.ld (.t 5)), oo 7 (.fa 0 (.t 3)), oo 8 (.ld (.t 7)), oo 9 (.ar .geq (.t 6) (.t 8)), om 10 9, og 11 (.fa 1 (.t 2)) 10 true, og 12 (.ld (.t 11)) 10 true, og 13 (.fa 1 (.t 3)) 10 true, og 14 (.ld (.t 13)) 10 true, og 15 (.ar .leq (.t 12) (.t 14)) 10 true, oo 16 (.pick (.t 10) (.t 15) (.c (.bool false))), om 4 16]) .ret)), 17, [(.tmp 4)], false, fun _ => none, fun _ _ => none⟩
def c76 : CFn := ⟨(.seq (.reg [oo 3 (.box (.t 0)), oo 4 (.box (.t 1)), oo 5 (.box (.t 2)), oo 6 (.new [(.int .i64 (0)), (.int .i64 (0))])]) (.seq (.drw [oo 7 (.ldn 2 (.t 3)), op 8 (.fa 0 (.t 4)) [0], op 9 (.ld (.t 8)) [0], op 10 (.fa 0 (.t 5)) [0, 1, 2], op 11 (.ld (.t 10)) [0, 1, 2], oo 12 (cl 87 [(.t 7), (.t 9), (.t 11)]), op 13 (.ldn 2 (.t 3)) [0, 1, 2, 3, 4, 5], op 14 (.fa 1 (.t 4)) [0, 1, 2, 3, 4, 5, 6], op 15 (.ld (.t 14)) [0, 1, 2, 3, 4, 5, 6], op 16 (.fa 1 (.t 5)) [0, 1, 2, 3, 4, 5, 6, 7, 8], op 17 (.ld (.t 16)) [0, 1, 2, 3, 4, 5, 6, 7, 8], oo 18 (cl 87 [(.t 13), (.t 15), (.t 17)]), oo 19 (.bld [(.int .i64 (0)), (.int .i64 (0))] [(0, (1, (.t 12))), (1, (1, (.t 18)))]), ⟨none, (.st 2 (.t 6) (.t 19)), none, []⟩]) .ret)), 20, [(.ldn 2 6)], false, fun _ => none, fun _ _ => none⟩
def c77 : CFn := ⟨(.seq (.reg [oo 2 (.mv (.c (.bool false)))]) (.seq (.reg [om 3 0, om 4 0, oo 5 (.ar .neq (.t 3) (.t 4)), om 2 5]) .ret)), 6, [(.tmp 2)], false, fun _ => none, fun _ _ => none⟩
def c78 : CFn := ⟨(.seq (.reg [oo 4 (.mv (ci 0))]) (.seq (.seq (.reg [om 6 0, oo 7 (.len (.t 6)), oo 8 (.mv (ci 0))]) (.block 0 (.loop 387 (.seq (.reg [oo 9 (.ar .lss (.t 8) (.t 7))]) (.seq (.cond (.t 9) .skip (.exit 0)) (.seq (.block 1 (.seq (.reg [om 10 8, om 5 10]) (.seq (.reg [om 11 1, om 12 0, om 13 5, oo 14 (.ias 3 (.t 12) (.t 13)), oo 15 (.ldn 3 (.t 14)), oo 16 (.call (.t 11) [(.t 15)])]) (.cond (.t 16) (.seq (.reg [om 17 5, om 4 17]) .ret) .skip)))) (.reg [oo 18 (.ar .add (.t 8) (ci 1)), om 8 18]))))))) (.seq (.reg [oo 4 (.mv (ci (-1)))]) .ret))), 19, [(.tmp 4)], false, fun _ => none, fun _ _ => none⟩
def c79 : CFn := ⟨(.seq (.reg [oo 4 (.mv (ci 0))]) (.seq (.seq (.reg [om 6 0, oo 7 (.len (.t 6)), oo 8 (.mv (ci 0))]) (.block 0 (.loop 387 (.seq (.reg [oo 9 (.ar .lss (.t 8) (.t 7))]) (.seq (.cond (.t 9) .skip (.exit 0)) (.seq (.block 1 (.seq (.reg [om 10 8, om 5 10]) (.seq (.reg [om 11 1, om 12 0, om 13 5, oo 14 (.ias 2 (.t 12) (.t 13)), oo 15 (.ldn 2 (.t 14)), oo 16 (.call (.t 11) [(.t 15)])]) (.cond (.t 16) (.seq (.reg [om 17 5, om 4 17]) .ret) .skip)))) (.reg [oo 18 (.ar .add (.t 8) (ci 1)), om 8 18]))))))) (.seq (.reg [oo 4 (.mv (ci (-1)))]) .ret))), 19, [(.tmp 4)], false, fun _ => none, fun _ _ => none⟩
def c80 : CFn := ⟨(.seq (.reg [oo 4 (.mv (ci 0))]) (.seq (.seq (.reg [om 6 0, oo 7 (.len (.t 6)), oo 8 (.mv (ci 0))]) (.block 0 (.loop 387 (.seq (.reg [oo 9 (.ar .lss (.t 8) (.t 7))]) (.seq (.cond (.t 9) .skip (.exit 0)) (.seq (.block 1 (.seq (.reg [om 10 8, om 5 10]) (.seq (.reg [om 11 1, om 12 0, om 13 5, oo 14 (.ias 1 (.t 12) (.t 13)), oo 15 (.ld (.t 14)), oo 16 (.call (.t 11) [(.t 15)])]) (.cond (.t 16) (.seq (.reg [om 17 5, om 4 17]) .ret) .skip)))) (.reg [oo 18 (.ar .add (.t 8) (ci 1)), om 8 18]))))))) (.seq (.reg [oo 4 (.mv (ci (-1)))]) .ret))), 19, [(.tmp 4)], false, fun _ => none, fun _ _ => none⟩
def c81 : CFn := ⟨(.seq (.reg [oo 4 (.mv (.c (.bool false)))]) (.seq (.reg [om 5 0, om 6 1, oo 7 (cl 88 [(.t 5), (.t 6)]), oo 8 (.ar .geq (.t 7) (ci 0)), om 4 8]) .ret)), 9, [(.tmp 4)], false, fun _ => none, fun _ _ => none⟩
def c82 : CFn := ⟨(.seq (.reg [oo 1 (.box (.t 0)), oo 2 (.mv (.c (.bool false)))]) (.seq (.reg [oo 3 (.fa 0 (.t 1)), oo 4 (.ld (.t 3)), oo 5 (.fa 1 (.t 1)), oo 6 (.ld (.t 5)), oo 7 (.bsl 1 2 [(.int .i64 (0))] [(0, (.t 4)), (1, (.t 6))]), oo 8 (cl 45 [(ci 0), (ci 4095), (.t 7)]), oo 9 (.un .not (.t 8)), om 2 9]) .ret)), 10, [(.tmp 2)], false, fun _ => none, fun _ _ => none⟩
def c83 : CFn := ⟨(.seq (.reg [oo 2 (.mv (ci 0))]) (.seq (.reg [om 3 0, oo 4 (cl 89 [(.t 3)]), om 2 4]) .ret)), 5, [(.tmp 2)], false, fun _ => none, fun _ _ => none⟩
def c84 : CFn := ⟨(.seq (.reg [om 5 0, oo 6 (.len (.t 5)), om 4 6]) (.reg [om 7 0, om 8 4, om 9 4, oo 10 (.conv .u64 (.t 9)), oo 11 (cl 91 [(.t 10)]), om 12 1, oo 13 (cl 90 [(.t 7), (ci 0), (.t 8), (.t 11), (.t 12)])])), 14, [], false, fun _ => none, fun _ _ => none⟩
def c85 : CFn := ⟨(.seq (.reg [oo 4 (.mv (ci 0))]) (.seq (.reg [om 5 0, oo 6 (.mkf 31 [(.t 5)] []), oo 7 (cl 36 [(.t 6)]), om 8 1, oo 9 (.mkf 31 [(.t 8)] []), oo 10 (cl 36 [(.t 9)]), oo 11 (cl 37 [(.t 7), (.t 10)]), om 4 11]) .ret)), 12, [(.tmp 4)], false, fun _ => none, fun _ _ => none⟩
def c86 : CFn := ⟨(.seq (.reg [oo 2 (.box (.t 0)), oo 4 (.new [(.int .u64 (0))]), oo 5 (.new [(.int .u64 (0))])]) (.seq (.seq (.reg [om 7 1, oo 8 (.mkf 31 [(.t 7)] [])]) (.block 0 (.rf (.t 8) [9] (.reg [om 6 9]) (.block 1 (.seq (.drw [oo 10 (.ld (.t 4)), op 11 (.fa 2 (.t 2)) [0], op 12 (.ld (.t 11)) [0], op 13 (.mv (.t 6)) [0, 1, 2], op 14 (.ias 2 (.t 12) (.t 13)) [0], op 15 (.fa 0 (.t 14)) [0], op 16 (.ld (.t 15)) [0], op 17 (.conv .u64 (.t 16)) [0], oo 18 (.ar .or (.t 10) (.t 17)), ⟨none, (.st 1 (.t 4) (.t 18)), none, []⟩]) (.drw [oo 19 (.ld (.t 5)), op 20 (.fa 2 (.t 2)) [0], op 21 (.ld (.t 20)) [0], op 22 (.mv (.t 6)) [0, 1, 2], op 23 (.ias 2 (.t 21) (.t 22)) [0], op 24 (.fa 0 (.t 23)) [0], op 25 (.ld (.t 24)) [0], op 26 (.fa 2 (.t 2)) [0, 1, 2, 3, 4, 5, 6], op 27 (.ld (.t 26)) [0, 1, 2, 3, 4, 5, 6], op 28 (.mv (.t 6)) [0, 1, 2, 3, 4, 5, 6, 7, 8], op 29 (.ias 2 (.t 27) (.t 28)) [0, 1, 2, 3, 4, 5, 6], op 30 (.fa 1 (.t 29)) [0, 1, 2, 3, 4, 5, 6], op 31 (.ld (.t 30)) [0, 1, 2, 3, 4, 5, 6], op 32 (.ar .or (.t 25) (.t 31)) [0], op 33 (.conv .u64 (.t 32)) [0], oo 34 (.ar .or (.t 19) (.t 33)), ⟨none, (.st 1 (.t 5) (.t 34)), none, []⟩])))))) (.seq (.drw [oo 35 (.ld (.t 4)), op 36 (.ld (.t 5)) [0], ⟨none, (.st 1 (.t 4) (.t 35)), none, [1]⟩, ⟨none, (.st 1 (.t 5) (.t 36)), none, []⟩]) .ret))), 37, [(.ld 4), (.ld 5)], false, fun _ => none, fun _ _ => none⟩
def c87 : CFn := ⟨(.seq (.reg [oo 3 (.box (.t 0)), oo 6 (.mv (ci 0))]) (.seq (.seq (.reg [om 7 2, om 8 1, oo 9 (.ar .gtr (.t 7) (.t 8))]) (.cond (.t 9) (.seq (.reg [om 10 2, om 11 1, oo 12 (.fa 0 (.t 3)), oo 13 (.ld (.t 12)), oo 14 (.ar .add (.t 11) (.t 13)), oo 15 (.mn [(.t 10), (.t 14)]), om 6 15]) .ret) .skip)) (.seq (.reg [om 16 2, om 17 1, oo 18 (.fa 1 (.t 3)), oo 19 (.ld (.t 18)), oo 20 (.ar .sub (.t 17) (.t 19)), oo 21 (.mx [(.t 16), (.t 20)]), om 6 21]) .ret))), 22, [(.tmp 6)], false, fun _ => none, fun _ _ => none⟩
def c88 : CFn := ⟨(.seq (.reg [oo 4 (.mv (ci 0))]) (.seq (.seq (.reg [om 6 0, oo 7 (.len (.t 6)), oo 8 (.mv (ci 0))]) (.block 0 (.loop 387 (.seq (.reg [oo 9 (.ar .lss (.t 8) (.t 7))]) (.seq (.cond (.t 9) .skip (.exit 0)) (.seq (.block 1 (.seq (.reg [om 10 8, om 5 10]) (.seq (.reg [om 11 1, om 12 0, om 13 5, oo 14 (.ias 2 (.t 12) (.t 13)), oo 15 (.ldn 2 (.t 14)), oo 16 (.call (.t 11) [(.t 15)])]) (.cond (.t 16) (.seq (.reg [om 17 5, om 4 17]) .ret) .skip)))) (.reg [oo 18 (.ar .add (.t 8) (ci 1)), om 8 18]))))))) (.seq (.reg [oo 4 (.mv (ci (-1)))]) .ret))), 19, [(.tmp 4)], false, fun _ => none, fun _ _ => none⟩
def c89 : CFn := ⟨(.seq (.reg [oo 2 (.mv (ci 0))]) (.seq (.cond (.c (.bool false)) (.seq (.reg [om 3 0, oo 4 (.conv .u32 (.t 3)), oo 5 (cl 92 [(.t 4)]), om 2 5]) .ret) .skip) (.seq (.reg [om 6 0, oo 7 (cl 93 [(.t 6)]), om 2 7]) .ret))), 8, [(.tmp 2)], false, fun _ => none, fun _ _ => none⟩
def c90 : CFn := ⟨(.seq (.reg [oo 10 (.mv (.c (.bool true)))]) (.seq (.reg [oo 11 (.mv (.c (.bool true)))]) (.block 0 (.loop 3103 (.block 1 (.seq (.reg [om 21 2, om 22 1, oo 23 (.ar .sub (.t 21) (.t 22)), om 12 23]) (.seq (.seq (.reg [om 24 12, oo 25 (.ar .leq (.t 24) (ci 12))]) (.cond (.t 25) (.seq (.reg [om 26 0, om 27 1, om 28 2, om 29 4, oo 30 (cl 94 [(.t 26), (.t 27), (.t 28), (.t 29)])]) .ret) .skip)) (.seq (.seq (.reg [om 31 3, oo 32 (.ar .eql (.t 31) (ci 0))]) (.cond (.t 32) (.seq (.reg [om 33 0, om 34 1, om 35 2, om 36 4, oo 37 (cl 95 [(.t 33), (.t 34), (.t 35), (.t 36)])]) .ret) .skip)) (.seq (.seq (.reg [om 38 10, oo 39 (.un .not (.t 38))]) (.cond (.t 39) (.seq (.reg [om 40 0, om 41 1, om 42 2, om 43 4, oo 44 (cl 96 [(.t 40), (.t 41), (.t 42), (.t 43)])]) (.reg [om 45 3, oo 46 (.ar .sub (.t 45) (ci 1)), om 3 46])) .skip)) (.seq (.reg [om 48 0, om 49 1, om 50 2, om 51 4, oo 52 (cl 97 [(.t 48), (.t 49), (.t 50), (.t 51)]), om 47 52, oo 53 (.ext 0 (.t 47)), oo 54 (.ext 1 (.t 47)), om 13 53, om 14 54]) (.seq (.seq (.reg [om 55 14, oo 56 (.ar .eql (.t 55) (ci 2))]) (.cond (.t 56) (.seq (.reg [om 57 0, om 58 1, om 59 2, om 60 4, oo 61 (cl 98 [(.t 57), (.t 58), (.t 59), (.t 60)])]) (.seq (.reg [om 62 2, oo 63 (.ar .sub (.t 62) (ci 1)), om 64 13, om 65 1, oo 66 (.ar .sub (.t 64) (.t 65)), oo 67 (.ar .sub (.t 63) (.t 66)), om 13 67]) (.reg [oo 14 (.mv (ci 1))]))) .skip)) (.seq (.seq (.reg [om 68 10, om 69 68, og 70 (.mv (.t 11)) 69 true, oo 71 (.pick (.t 69) (.t 70) (.c (.bool false))), om 72 71, og 73 (.mv (.t 14)) 72 true, og 74 (.ar .eql (.t 73) (ci 1)) 72 true, oo 75 (.pick (.t 72) (.t 74) (.c (.bool false)))]) (.cond (.t 75) (.seq (.reg [om 76 0, om 77 1, om 78 2, om 79 4, oo 80 (cl 99 [(.t 76), (.t 77), (.t 78), (.t 79)])]) (.cond (.t 80) .ret .skip)) .skip)) (.seq (.seq (.drw [om 81 1, oo 82 (.ar .gtr (.t 81) (ci 0)), om 83 82, og 84 (.mv (.t 4)) 83 true, ⟨(some 85), (.mv (.t 0)), (some (83, true)), [3]⟩, ⟨(some 86), (.mv (.t 1)), (some (83, true)), [3, 4]⟩, ⟨(some 87), (.ar .sub (.t 86) (ci 1)), (some (83, true)), [3, 4]⟩, ⟨(some 88), (.ias 1 (.t 85) (.t 87)), (some (83, true)), [3]⟩, ⟨(some 89), (.ld (.t 88)), (some (83, true)), [3]⟩, ⟨(some 90), (.mv (.t 0)), (some (83, true)), [3, 4, 5, 6, 7, 8]⟩, ⟨(some 91), (.mv (.t 13)), (some (83, true)), [3, 4, 5, 6, 7, 8, 9]⟩, ⟨(some 92), (.ias 1 (.t 90) (.t 91)), (some (83, true)), [3, 4, 5, 6, 7, 8]⟩, ⟨(some 93), (.ld (.t 92)), (some (83, true)), [3, 4, 5, 6, 7, 8]⟩, og 94 (.call (.t 84) [(.t 89), (.t 93)]) 83 true, og 95 (.ar .lss (.t 94) (ci 0)) 83 true, og 96 (.un .not (.t 95)) 83 true, oo 97 (.pick (.t 83) (.t 96) (.c (.bool false)))]) (.cond (.t 97) (.seq (.reg [om 98 0, om 99 1, om 100 2, om 101 13, om 102 4, oo 103 (cl 100 [(.t 98), (.t 99), (.t 100), (.t 101), (.t 102)]), om 15 103]) (.seq (.reg [om 104 15, om 1 104]) (.exit 1))) .skip)) (.seq (.reg [om 106 0, om 107 1, om 108 2, om 109 13, om 110 4, oo 111 (cl 101 [(.t 106), (.t 107), (.t 108), (.t 109), (.t 110)]), om 105 111, oo 112 (.ext 0 (.t 105)), oo 113 (.ext 1 (.t 105)), om 16 112, om 17 113]) (.seq (.reg [om 114 17, om 11 114]) (.seq (.reg [om 115 16, om 116 1, oo 117 (.ar .sub (.t 115) (.t 116)), om 118 2, om 119 16, oo 120 (.ar .sub (.t 118) (.t 119)), om 18 117, om 19 120]) (.seq (.reg [om 121 12, oo 122 (.ar .quo (.t 121) (ci 8)), om 20 122]) (.seq (.reg [om 123 18, om 124 19, oo 125 (.ar .lss (.t 123) (.t 124))]) (.cond (.t 125) (.seq (.reg [om 126 18, om 127 20, oo 128 (.ar .geq (.t 126) (.t 127)), om 10 128]) (.seq (.reg [om 129 0, om 130 1, om 131 16, om 132 3, om 133 4, oo 134 (cl 90 [(.t 129), (.t 130), (.t 131), (.t 132), (.t 133)])]) (.reg [om 135 16, oo 136 (.ar .add (.t 135) (ci 1)), om 1 136]))) (.seq (.reg [om 137 19, om 138 20, oo 139 (.ar .geq (.t 137) (.t 138)), om 10 139]) (.seq (.reg [om 140 0, om 141 16, oo 142 (.ar .add (.t 141) (ci 1)), om 143 2, om 144 3, om 145 4, oo 146 (cl 90 [(.t 140), (.t 142), (.t 143), (.t 144), (.t 145)])]) (.reg [om 147 16, om 2 147])))))))))))))))))))))), 148, [], false, fun _ => none, fun _ _ => none⟩
def c91 : CFn := ⟨(.seq (.reg [oo 2 (.mv (ci 0))]) (.seq (.cond (.c (.bool false)) (.seq (.reg [om 3 0, oo 4 (.conv .u32 (.t 3)), oo 5 (cl 102 [(.t 4)]), om 2 5]) .ret) .skip) (.seq (.reg [om 6 0, oo 7 (cl 103 [(.t 6)]), om 2 7]) .ret))), 8, [(.tmp 2)], false, fun _ => none, fun _ _ => none⟩
def c92 : CFn := ⟨(.seq (.reg [oo 2 (.mv (ci 0))]) (.seq (.drw [om 3 0, oo 4 (.sh .shr (.t 3) (.c (.int .u64 (24)))), oo 5 (.ix 256 1 (.c (.agg [(.int .u8 (0)), (.int .u8 (1)), (.int .u8 (1)), (.int .u8 (2)), (.int .u8 (1)), (.int .u8 (2)), (.int .u8 (2)), (.int .u8 (3)), (.int .u8 (1)), (.int .u8 (2)), (.int .u8 (2)), (.int .u8 (3)), (.int .u8 (2)), (.int .u8 (3)), (.int .u8 (3)), (.int .u8 (4)), (.int .u8 (1)), (.int .u8 (2)), (.int .u8 (2)), (.int .u8 (3)), (.int .u8 (2)), (.int .u8 (3)), (.int .u8 (3)), (.int .u8 (4)), (.int .u8 (2)), (.int .u8 (3)), (.int .u8 (3)), (.int .u8 (4)), (.int .u8 (3)), (.int .u8 (4)), (.int .u8 (4)), (.int .u8 (5)), (.int .u8 (1)), (.int .u8 (2)), (.int .u8 (2)), (.int .u8 (3)), (.int .u8 (2)), (.int .u8 (3)), (.int .u8 (3)), (.int .u8 (4)), (.int .u8 (2)), (.int .u8 (3)), (.int .u8 (3)), (.int .u8 (4)), (.int .u8 (3)), (.int .u8 (4)), (.int .u8 (4)), (.int .u8 (5)), (.int .u8 (2)), (.int .u8 (3)), (.int .u8 (3)), (.int .u8 (4)), (.int .u8 (3)), (.int .u8 (4)), (.int .u8 (4)), (.int .u8 (5)), (.int .u8 (3)), (.int .u8 (4)), (.int .u8 (4)), (.int .u8 (5)), (.int .u8 (4)), (.int .u8 (5)), (.int .u8 (5)), (.int .u8 (6)), (.int .u8 (1)), (.int .u8 (2)), (.int .u8 (2)), (.int .u8 (3)), (.int .u8 (2)), (.int .u8 (3)), (.int .u8 (3)), (.int .u8 (4)), (.int .u8 (2)), (.int .u8 (3)), (.int .u8 (3)), (.int .u8 (4)), (.int .u8 (3)), (.int .u8 (4)), (.int .u8 (4)), (.int .u8 (5)), (.int .u8 (2)), (.int .u8 (3)), (.int .u8 (3)), (.int .u8 (4)), (.int .u8 (3)), (.int .u8 (4)), (.int .u8 (4)), (.int .u8 (5)), (.int .u8 (3)), (.int .u8 (4)), (.int .u8 (4)), (.int .u8 (5)), (.int .u8 (4)), (.int .u8 (5)), (.int .u8 (5)), (.int .u8 (6)), (.int .u8 (2)), (.int .u8 (3)), (.int .u8 (3)), (.int .u8 (4)), (.int .u8 (3)), (.int .u8 (4)), (.int .u8 (4)), (.int .u8 (5)), (.int .u8 (3)), (.int .u8 (4)), (.int .u8 (4)), (.int .u8 (5)), (.int .u8 (4)), (.int .u8 (5)), (.int .u8 (5)), (.int .u8 (6)), (.int .u8 (3)), (.int .u8 (4)), (.int .u8 (4)), (.int .u8 (5)), (.int .u8 (4)), (.int .u8 (5)), (.int .u8 (5)), (.int .u8 (6)), (.int .u8 (4)), (.int .u8 (5)), (.int .u8 (5)), (.int .u8 (6)), (.int .u8 (5)), (.int .u8 (6)), (.int .u8 (6)), (.int .u8 (7)), (.int .u8 (1)), (.int .u8 (2)), (.int .u8 (2)), (.int .u8 (3)), (.int .u8 (2)), (.int .u8 (3)), (.int .u8 (3)), (.int .u8 (4)), (.int .u8 (2)), (.int .u8 (3)), (.int .u8 (3)), (.int .u8 (4)), (.int .u8 (3)), (.int .u8 (4)), (.int .u8 (4)), (.int .u8 (5)), (.int .u8 (2)), (.int .u8 (3)), (.int .u8 (3)), (.int .u8 (4)), (.int .u8 (3)), (.int .u8 (4)), (.int .u8 (4)), (.int .u8 (5)), (.int .u8 (3)), (.int .u8 (4)), (.int .u8 (4)), (.int .u8 (5)), (.int .u8 (4)), (.int .u8 (5)), (.int .u8 (5)), (.int .u8 (6)), (.int .u8 (2)), (.int .u8 (3)), (.int .u8 (3)), (.int .u8 (4)), (.int .u8 (3)), (.int .u8 (4)), (.int .u8 (4)), (.int .u8 (5)), (.int .u8 (3)), (.int .u8 (4)), (.int .u8 (4)), (.int .u8 (5)), (.int .u8 (4)), (.int .u8 (5)), (.int .u8 (5)), (.int .u8 (6)), (.int .u8 (3)), (.int .u8 (4)), (.int .u8 (4)), (.int .u8 (5)), (.int .u8 (4)), (.int .u8 (5)), (.int .u8 (5)), (.int .u8 (6)), (.int .u8 (4)), (.int .u8 (5)), (.int .u8 (5)), (.int .u8 (6)), (.int .u8 (5)), (.int .u8 (6)), (.int .u8 (6)), (.int .u8 (7)), (.int .u8 (2)), (.int .u8 (3)), (.int .u8 (3)), (.int .u8 (4)), (.int .u8 (3)), (.int .u8 (4)), (.int .u8 (4)), (.int .u8 (5)), (.int .u8 (3)), (.int .u8 (4)), (.int .u8 (4)), (.int .u8 (5)), (.int .u8 (4)), (.int .u8 (5)), (.int .u8 (5)), (.int .u8 (6)), (.int .u8 (3)), (.int .u8 (4)), (.int .u8 (4)), (.int .u8 (5)), (.int .u8 (4)), (.int .u8 (5)), (.int .u8 (5)), (.int .u8 (6)), (.int .u8 (4)), (.int .u8 (5)), (.int .u8 (5)), (.int .u8 (6)), (.int .u8 (5)), (.int .u8 (6)), (.int .u8 (6)), (.int .u8 (7)), (.int .u8 (3)), (.int .u8 (4)), (.int .u8 (4)), (.int .u8 (5)), (.int .u8 (4)), (.int .u8 (5)), (.int .u8 (5)), (.int .u8 (6)), (.int .u8 (4)), (.int .u8 (5)), (.int .u8 (5)), (.int .u8 (6)), (.int .u8 (5)), (.int .u8 (6)), (.int .u8 (6)), (.int .u8 (7)), (.int .u8 (4)), (.int .u8 (5)), (.int .u8 (5)), (.int .u8 (6)), (.int .u8 (5)), (.int .u8 (6)), (.int .u8 (6)), (.int .u8 (7)), (.int .u8 (5)), (.int .u8 (6)), (.int .u8 (6)), (.int .u8 (7)), (.int .u8 (6)), (.int .u8 (7)), (.int .u8 (7)), (.int .u8 (8))])) (.t 4)), op 6 (.mv (.t 0)) [0, 1, 2], op 7 (.sh .shr (.t 6) (.c (.int .u64 (16)))) [0, 1, 2], op 8 (.ar .and (.t 7) (.c (.int .u32 (255)))) [0, 1, 2], op 9 (.ix 256 1 (.c (.agg [(.int .u8 (0)), (.int .u8 (1)), (.int .u8 (1)), (.int .u8 (2)), (.int .u8 (1)), (.int .u8 (2)), (.int .u8 (2)), (.int .u8 (3)), (.int .u8 (1)), (.int .u8 (2)), (.int .u8 (2)), (.int .u8 (3)), (.int .u8 (2)), (.int .u8 (3)), (.int .u8 (3)), (.int .u8 (4)), (.int .u8 (1)), (.int .u8 (2)), (.int .u8 (2)), (.int .u8 (3)), (.int .u8 (2)), (.int .u8 (3)), (.int .u8 (3)), (.int .u8 (4)), (.int .u8 (2)), (.int .u8 (3)), (.int .u8 (3)), (.int .u8 (4)), (.int .u8 (3)), (.int .u8 (4)), (.int .u8 (4)), (.int .u8 (5)), (.int .u8 (1)), (.int .u8 (2)), (.int .u8 (2)), (.int .u8 (3)), (.int .u8 (2)), (.int .u8 (3)), (.int .u8 (3)), (.int .u8 (4)), (.int .u8 (2)), (.int .u8 (3)), (.int .u8 (3)), (.int .u8 (4)), (.int .u8 (3)), (.int .u8 (4)), (.int .u8 (4)), (.int .u8 (5)), (.int .u8 (2)), (.int .u8 (3)), (.int .u8 (3)), (.int .u8 (4)), (.int .u8 (3)), (.int .u8 (4)), (.int .u8 (4)), (.int .u8 (5)), (.int .u8 (3)), (.int .u8 (4)), (.int .u8 (4)), (.int .u8 (5)), (.int .u8 (4)), (.int .u8 (5)), (.int .u8 (5)), (.int .u8 (6)), (.int .u8 (1)), (.int .u8 (2)), (.int .u8 (2)), (.int .u8 (3)), (.int .u8 (2)), (.int .u8 (3)), (.int .u8 (3)), (.int .u8 (4)), (.int .u8 (2)), (.int .u8 (3)), (.int .u8 (3)), (.int .u8 (4)), (.int .u8 (3)), (.int .u8 (4)), (.int .u8 (4)), (.int .u8 (5)), (.int .u8 (2)), (.int .u8 (3)), (.int .u8 (3)), (.int .u8 (4)), (.int .u8 (3)), (.int .u8 (4)), (.int .u8 (4)), (.int .u8 (5)), (.int .u8 (3)), (.int .u8 (4)), (.int .u8 (4)), (.int .u8 (5)), (.int .u8 (4)), (.int .u8 (5)), (.int .u8 (5)), (.int .u8 (6)), (.int .u8 (2)), (.int .u8 (3)), (.int .u8 (3)), (.int .u8 (4)), (.int .u8 (3)), (.int .u8 (4)), (.int .u8 (4)), (.int .u8 (5)), (.int .u8 (3)), (.int .u8 (4)), (.int .u8 (4)), (.int .u8 (5)), (.int .u8 (4)), (.int .u8 (5)), (.int .u8 (5)), (.int .u8 (6)), (.int .u8 (3)), (.int .u8 (4)), (.int .u8 (4)), (.int .u8 (5)), (.int .u8 (4)), (.int .u8 (5)), (.int .u8 (5)), (.int .u8 (6)), (.int .u8 (4)), (.int .u8 (5)), (.int .u8 (5)), (.int .u8 (6)), (.int .u8 (5)), (.int .u8 (6)), (.int .u8 (6)), (.int .u8 (7)), (.int .u8 (1)), (.int .u8 (2)), (.int .u8 (2)), (.int .u8 (3)), (.int .u8 (2)), (.int .u8 (3)), (.int .u8 (3)), (.int .u8 (4)), (.int .u8 (2)), (.int .u8 (3)), (.int .u8 (3)), (.int .u8 (4)), (.int .u8 (3)), (.int .u8 (4)), (.int .u8 (4)), (.int .u8 (5)), (.int .u8 (2)), (.int .u8 (3)), (.int .u8 (3)), (.int .u8 (4)), (.int .u8 (3)), (.int .u8 (4)), (.int .u8 (4)), (.int .u8 (5)), (.int .u8 (3)), (.int .u8 (4)), (.int .u8 (4)), (.int .u8 (5)), (.int .u8 (4)), (.int .u8 (5)), (.int .u8 (5)), (.int .u8 (6)), (.int .u8 (2)), (.int .u8 (3)), (.int .u8 (3)), (.int .u8 (4)), (.int .u8 (3)), (.int .u8 (4)), (.int .u8 (4)), (.int .u8 (5)), (.int .u8 (3)), (.int .u8 (4)), (.int .u8 (4)), (.int .u8 (5)), (.int .u8 (4)), (.int .u8 (5)), (.int .u8 (5)), (.int .u8 (6)), (.int .u8 (3)), (.int .u8 (4)), (.int .u8 (4)), (.int .u8 (5)), (.int .u8 (4)), (.int .u8 (5)), (.int .u8 (5)), (.int .u8 (6)), (.int .u8 (4)), (.int .u8 (5)), (.int .u8 (5)), (.int .u8 (6)), (.int .u8 (5)), (.int .u8 (6)), (.int .u8 (6)), (.int .u8 (7)), (.int .u8 (2)), (.int .u8 (3)), (.int .u8 (3)), (.int .u8 (4)), (.int .u8 (3)), (.int .u8 (4)), (.int .u8 (4)), (.int .u8 (5)), (.int .u8 (3)), (.int .u8 (4)), (.int .u8 (4)), (.int .u8 (5)), (.int .u8 (4)), (.int .u8 (5)), (.int .u8 (5)), (.int .u8 (6)), (.int .u8 (3)), (.int .u8 (4)), (.int .u8 (4)), (.int .u8 (5)), (.int .u8 (4)), (.int .u8 (5)), (.int .u8 (5)), (.int .u8 (6)), (.int .u8 (4)), (.int .u8 (5)), (.int .u8 (5)), (.int .u8 (6)), (.int .u8 (5)), (.int .u8 (6)), (.int .u8 (6)), (.int .u8 (7)), (.int .u8 (3)), (.int .u8 (4)), (.int .u8 (4)), (.int .u8 (5)), (.int .u8 (4)), (.int .u8 (5)), (.int .u8 (5)), (.int .u8 (6)), (.int .u8 (4)), (.int .u8 (5)), (.int .u8 (5)), (.int .u8 (6)), (.int .u8 (5)), (.int .u8 (6)), (.int .u8 (6)), (.int .u8 (7)), (.int .u8 (4)), (.int .u8 (5)), (.int .u8 (5)), (.int .u8 (6)), (.int .u8 (5)), (.int .u8 (6)), (.int .u8 (6)), (.int .u8 (7)), (.int .u8 (5)), (.int .u8 (6)), (.int .u8 (6)), (.int .u8 (7)), (.int .u8 (6)), (.int .u8 (7)), (.int .u8 (7)), (.int .u8 (8))])) (.t 8)) [0, 1, 2], oo 10 (.ar .add (.t 5) (.t 9)), op 11 (.mv (.t 0)) [0, 1, 2, 3, 4, 5, 6, 7], op 12 (.sh .shr (.t 11) (.c (.int .u64 (8)))) [0, 1, 2, 3, 4, 5, 6, 7], op 13 (.ar .and (.t 12) (.c (.int .u32 (255)))) [0, 1, 2, 3, 4, 5, 6, 7], op 14 (.ix 256 1 (.c (.agg [(.int .u8 (0)), (.int .u8 (1)), (.int .u8 (1)), (.int .u8 (2)), (.int .u8 (1)), (.int .u8 (2)), (.int .u8 (2)), (.int .u8 (3)), (.int .u8 (1)), (.int .u8 (2)), (.int .u8 (2)), (.int .u8 (3)), (.int .u8 (2)), (.int .u8 (3)), (.int .u8 (3)), (.int .u8 (4)), (.int .u8 (1)), (.int .u8 (2)), (.int .u8 (2)), (.int .u8 (3)), (.int .u8 (2)), (.int .u8 (3)), (.int .u8 (3)), (.int .u8 (4)), (.int .u8 (2)), (.int .u8 (3)), (.int .u8 (3)), (.int .u8 (4)), (.int .u8 (3)), (.int .u8 (4)), (.int .u8 (4)), (.int .u8 (5)), (.int .u8 (1)), (.int .u8 (2)), (.int .u8 (2)), (.int .u8 (3)), (.int .u8 (2)), (.int .u8 (3)), (.int .u8 (3)), (.int .u8 (4)), (.int .u8 (2)), (.int .u8 (3)), (.int .u8 (3)), (.int .u8 (4)), (.int .u8 (3)), (.int .u8 (4)), (.int .u8 (4)), (.int .u8 (5)), (.int .u8 (2)), (.int .u8 (3)), (.int .u8 (3)), (.int .u8 (4)), (.int .u8 (3)), (.int .u8 (4)), (.int .u8 (4)), (.int .u8 (5)), (.int .u8 (3)), (.int .u8 (4)), (.int .u8 (4)), (.int .u8 (5)), (.int .u8 (4)), (.int .u8 (5)), (.int .u8 (5)), (.int .u8 (6)), (.int .u8 (1)), (.int .u8 (2)), (.int .u8 (2)), (.int .u8 (3)), (.int .u8 (2)), (.int .u8 (3)), (.int .u8 (3)), (.int .u8 (4)), (.int .u8 (2)), (.int .u8 (3)), (.int .u8 (3)), (.int .u8 (4)), (.int .u8 (3)), (.int .u8 (4)), (.int .u8 (4)), (.int .u8 (5)), (.int .u8 (2)), (.int .u8 (3)), (.int .u8 (3)), (.int .u8 (4)), (.int .u8 (3)), (.int .u8 (4)), (.int .u8 (4)), (.int .u8 (5)), (.int .u8 (3)), (.int .u8 (4)), (.int .u8 (4)), (.int .u8 (5)), (.int .u8 (4)), (.int .u8 (5)), (.int .u8 (5)), (.int .u8 (6)), (.int .u8 (2)), (.int .u8 (3)), (.int .u8 (3)), (.int .u8 (4)), (.int .u8 (3)), (.int .u8 (4)), (.int .u8 (4)), (.int .u8 (5)), (.int .u8 (3)), (.int .u8 (4)), (.int .u8 (4)), (.int .u8 (5)), (.int .u8 (4)), (.int .u8 (5)), (.int .u8 (5)), (.int .u8 (6)), (.int .u8 (3)), (.int .u8 (4)), (.int .u8 (4)), (.int .u8 (5)), (.int .u8 (4)), (.int .u8 (5)), (.int .u8 (5)), (.int .u8 (6)), (.int .u8 (4)), (.int .u8 (5)), (.int .u8 (5)), (.int .u8 (6)), (.int .u8 (5)), (.int .u8 (6)), (.int .u8 (6)), (.int .u8 (7)), (.int .u8 (1)), (.int .u8 (2)), (.int .u8 (2)), (.int .u8 (3)), (.int .u8 (2)), (.int .u8 (3)), (.int .u8 (3)), (.int .u8 (4)), (.int .u8 (2)), (.int .u8 (3)), (.int .u8 (3)), (.int .u8 (4)), (.int .u8 (3)), (.int .u8 (4)), (.int .u8 (4)), (.int .u8 (5)), (.int .u8 (2)), (.int .u8 (3)), (.int .u8 (3)), (.int .u8 (4)), (.int .u8 (3)), (.int .u8 (4)), (.int .u8 (4)), (.int .u8 (5)), (.int .u8 (3)), (.int .u8 (4)), (.int .u8 (4)), (.int .u8 (5)), (.int .u8 (4)), (.int .u8 (5)), (.int .u8 (5)), (.int .u8 (6)), (.int .u8 (2)), (.int .u8 (3)), (.int .u8 (3)), (.int .u8 (4)), (.int .u8 (3)), (.int .u8 (4)), (.int .u8 (4)), (.int .u8 (5)), (.int .u8 (3)), (.int .u8 (4)), (.int .u8 (4)), (.int .u8 (5)), (.int .u8 (4)), (.int .u8 (5)), (.int .u8 (5)), (.int .u8 (6)), (.int .u8 (3)), (.int .u8 (4)), (.int .u8 (4)), (.int .u8 (5)), (.int .u8 (4)), (.int .u8 (5)), (.int .u8 (5)), (.int .u8 (6)), (.int .u8 (4)), (.int .u8 (5)), (.int .u8 (5)), (.int .u8 (6)), (.int .u8 (5)), (.int .u8 (6)), (.int .u8 (6)), (.int .u8 (7)), (.int .u8 (2)), (.int .u8 (3)), (.int .u8 (3)), (.int .u8 (4)), (.int .u8 (3)), (.int .u8 (4)), (.int .u8 (4)), (.int .u8 (5)), (.int .u8 (3)), (.int .u8 (4)), (.int .u8 (4)), (.int .u8 (5)), (.int .u8 (4)), (.int .u8 (5)), (.int .u8 (5)), (.int .u8 (6)), (.int .u8 (3)), (.int .u8 (4)), (.int .u8 (4)), (.int .u8 (5)), (.int .u8 (4)), (.int .u8 (5)), (.int .u8 (5)), (.int .u8 (6)), (.int .u8 (4)), (.int .u8 (5)), (.int .u8 (5)), (.int .u8 (6)), (.int .u8 (5)), (.int .u8 (6)), (.int .u8 (6)), (.int .u8 (7)), (.int .u8 (3)), (.int .u8 (4)), (.int .u8 (4)), (.int .u8 (5)), (.int .u8 (4)), (.int .u8 (5)), (.int .u8 (5)), (.int .u8 (6)), (.int .u8 (4)), (.int .u8 (5)), (.int .u8 (5)), (.int .u8 (6)), (.int .u8 (5)), (.int .u8 (6)), (.int .u8 (6)), (.int .u8 (7)), (.int .u8 (4)), (.int .u8 (5)), (.int .u8 (5)), (.int .u8 (6)), (.int .u8 (5)), (.int .u8 (6)), (.int .u8 (6)), (.int .u8 (7)), (.int .u8 (5)), (.int .u8 (6)), (.int .u8 (6)), (.int .u8 (7)), (.int .u8 (6)), (.int .u8 (7)), (.int .u8 (7)), (.int .u8 (8))])) (.t 13)) [0, 1, 2, 3, 4, 5, 6, 7], oo 15 (.ar .add (.t 10) (.t 14)), op 16 (.mv (.t 0)) [0, 1, 2, 3, 4, 5, 6, 7, 8, 9, 10, 11, 12], op 17 (.ar .and (.t 16) (.c (.int .u32 (255)))) [0, 1, 2, 3, 4, 5, 6, 7, 8, 9, 10, 11, 12], op 18 (.ix 256 1 (.c (.agg [(.int .u8 (0)), (.int .u8 (1)), (.int .u8 (1)), (.int .u8 (2)), (.int .u8 (1)), (.int .u8 (2)), (.int .u8 (2)), (.int .u8 (3)), (.int .u8 (1)), (.int .u8 (2)), (.int .u8 (2)), (.int .u8 (3)), (.int .u8 (2)), (.int .u8 (3)), (.int .u8 (3)), (.int .u8 (4)), (.int .u8 (1)), (.int .u8 (2)), (.int .u8 (2)), (.int .u8 (3)), (.int .u8 (2)), (.int .u8 (3)), (.int .u8 (3)), (.int .u8 (4)), (.int .u8 (2)), (.int .u8 (3)), (.int .u8 (3)), (.int .u8 (4)), (.int .u8 (3)), (.int .u8 (4)), (.int .u8 (4)), (.int .u8 (5)), (.int .u8 (1)), (.int .u8 (2)), (.int .u8 (2)), (.int .u8 (3)), (.int .u8 (2)), (.int .u8 (3)), (.int .u8 (3)), (.int .u8 (4)), (.int .u8 (2)), (.int .u8 (3)), (.int .u8 (3)), (.int .u8 (4)), (.int .u8 (3)), (.int .u8 (4)), (.int .u8 (4)), (.int .u8 (5)), (.int .u8 (2)), (.int .u8 (3)), (.int .u8 (3)), (.int .u8 (4)), (.int .u8 (3)), (.int .u8 (4)), (.int .u8 (4)), (.int .u8 (5)), (.int .u8 (3)), (.int .u8 (4)), (.int .u8 (4)), (.int .u8 (5)), (.int .u8 (4)), (.int .u8 (5)), (.int .u8 (5)), (.int .u8 (6)), (.int .u8 (1)), (.int .u8 (2)), (.int .u8 (2)), (.int .u8 (3)), (.int .u8 (2)), (.int .u8 (3)), (.int .u8 (3)), (.int .u8 (4)), (.int .u8 (2)), (.int .u8 (3)), (.int .u8 (3)), (.int .u8 (4)), (.int .u8 (3)), (.int .u8 (4)), (.int .u8 (4)), (.int .u8 (5)), (.int .u8 (2)), (.int .u8 (3)), (.int .u8 (3)), (.int .u8 (4)), (.int .u8 (3)), (.int .u8 (4)), (.int .u8 (4)), (.int .u8 (5)), (.int .u8 (3)), (.int .u8 (4)), (.int .u8 (4)), (.int .u8 (5)), (.int .u8 (4)), (.int .u8 (5)), (.int .u8 (5)), (.int .u8 (6)), (.int .u8 (2)), (.int .u8 (3)), (.int .u8 (3)), (.int .u8 (4)), (.int .u8 (3)), (.int .u8 (4)), (.int .u8 (4)), (.int .u8 (5)), (.int .u8 (3)), (.int .u8 (4)), (.int .u8 (4)), (.int .u8 (5)), (.int .u8 (4)), (.int .u8 (5)), (.int .u8 (5)), (.int .u8 (6)), (.int .u8 (3)), (.int .u8 (4)), (.int .u8 (4)), (.int .u8 (5)), (.int .u8 (4)), (.int .u8 (5)), (.int .u8 (5)), (.int .u8 (6)), (.int .u8 (4)), (.int .u8 (5)), (.int .u8 (5)), (.int .u8 (6)), (.int .u8 (5)), (.int .u8 (6)), (.int .u8 (6)), (.int .u8 (7)), (.int .u8 (1)), (.int .u8 (2)), (.int .u8 (2)), (.int .u8 (3)), (.int .u8 (2)), (.int .u8 (3)), (.int .u8 (3)), (.int .u8 (4)), (.int .u8 (2)), (.int .u8 (3)), (.int .u8 (3)), (.int .u8 (4)), (.int .u8 (3)), (.int .u8 (4)), (.int .u8 (4)), (.int .u8 (5)), (.int .u8 (2)), (.int .u8 (3)), (.int .u8 (3)), (.int .u8 (4)), (.int .u8 (3)), (.int .u8 (4)), (.int .u8 (4)), (.int .u8 (5)), (.int .u8 (3)), (.int .u8 (4)), (.int .u8 (4)), (.int .u8 (5)), (.int .u8 (4)), (.int .u8 (5)), (.int .u8 (5)), (.int .u8 (6)), (.int .u8 (2)), (.int .u8 (3)), (.int .u8 (3)), (.int .u8 (4)), (.int .u8 (3)), (.int .u8 (4)), (.int .u8 (4)), (.int .u8 (5)), (.int .u8 (3)), (.int .u8 (4)), (.int .u8 (4)), (.int .u8 (5)), (.int .u8 (4)), (.int .u8 (5)), (.int .u8 (5)), (.int .u8 (6)), (.int .u8 (3)), (.int .u8 (4)), (.int .u8 (4)), (.int .u8 (5)), (.int .u8 (4)), (.int .u8 (5)), (.int .u8 (5)), (.int .u8 (6)), (.int .u8 (4)), (.int .u8 (5)), (.int .u8 (5)), (.int .u8 (6)), (.int .u8 (5)), (.int .u8 (6)), (.int .u8 (6)), (.int .u8 (7)), (.int .u8 (2)), (.int .u8 (3)), (.int .u8 (3)), (.int .u8 (4)), (.int .u8 (3)), (.int .u8 (4)), (.int .u8 (4)), (.int .u8 (5)), (.int .u8 (3)), (.int .u8 (4)), (.int .u8 (4)), (.int .u8 (5)), (.int .u8 (4)), (.int .u8 (5)), (.int .u8 (5)), (.int .u8 (6)), (.int .u8 (3)), (.int .u8 (4)), (.int .u8 (4)), (.int .u8 (5)), (.int .u8 (4)), (.int .u8 (5)), (.int .u8 (5)), (.int .u8 (6)), (.int .u8 (4)), (.int .u8 (5)), (.int .u8 (5)), (.int .u8 (6)), (.int .u8 (5)), (.int .u8 (6)), (.int .u8 (6)), (.int .u8 (7)), (.int .u8 (3)), (.int .u8 (4)), (.int .u8 (4)), (.int .u8 (5)), (.int .u8 (4)), (.int .u8 (5)), (.int .u8 (5)), (.int .u8 (6)), (.int .u8 (4)), (.int .u8 (5)), (.int .u8 (5)), (.int .u8 (6)), (.int .u8 (5)), (.int .u8 (6)), (.int .u8 (6)), (.int .u8 (7)), (.int .u8 (4)), (.int .u8 (5)), (.int .u8 (5)), (.int .u8 (6)), (.int .u8 (5)), (.int .u8 (6)), (.int .u8 (6)), (.int .u8 (7)), (.int .u8 (5)), (.int .u8 (6)), (.int .u8 (6)), (.int .u8 (7)), (.int .u8 (6)), (.int .u8 (7)), (.int .u8 (7)), (.int .u8 (8))])) (.t 17)) [0, 1, 2, 3, 4, 5, 6, 7, 8, 9, 10, 11, 12], oo 19 (.ar .add (.t 15) (.t 18)), oo 20 (.conv .i64 (.t 19)), om 2 20]) .ret)), 21, [(.tmp 2)], false, fun _ => none, fun _ _ => none⟩
def c93 : CFn := ⟨(.seq (.reg [oo 2 (.mv (ci 0))]) (.seq (.reg [om 3 0, oo 4 (.sh .shr (.t 3) (.c (.int .u64 (1)))), oo 5 (.ar .and (.t 4) (.c (.int .u64 (6148914691236517205)))), om 6 0, oo 7 (.ar .and (.t 6) (.c (.int .u64 (6148914691236517205)))), oo 8 (.ar .add (.t 5) (.t 7)), om 0 8]) (.seq (.reg [om 9 0, oo 10 (.sh .shr (.t 9) (.c (.int .u64 (2)))), oo 11 (.ar .and (.t 10) (.c (.int .u64 (3689348814741910323)))), om 12 0, oo 13 (.ar .and (.t 12) (.c (.int .u64 (3689348814741910323)))), oo 14 (.ar .add (.t 11) (.t 13)), om 0 14]) (.seq (.reg [om 15 0, oo 16 (.sh .shr (.t 15) (.c (.int .u64 (4)))), om 17 0, oo 18 (.ar .add (.t 16) (.t 17)), oo 19 (.ar .and (.t 18) (.c (.int .u64 (1085102592571150095)))), om 0 19]) (.seq (.reg [om 20 0, om 21 0, oo 22 (.sh .shr (.t 21) (.c (.int .u64 (8)))), oo 23 (.ar .add (.t 20) (.t 22)), om 0 23]) (.seq (.reg [om 24 0, om 25 0, oo 26 (.sh .shr (.t 25) (.c (.int .u64 (16)))), oo 27 (.ar .add (.t 24) (.t 26)), om 0 27]) (.seq (.reg [om 28 0, om 29 0, oo 30 (.sh .shr (.t 29) (.c (.int .u64 (32)))), oo 31 (.ar .add (.t 28) (.t 30)), om 0 31]) (.seq (.reg [om 32 0, oo 33 (.conv .i64 (.t 32)), oo 34 (.ar .and (.t 33) (ci 127)), om 2 34]) .ret)))))))), 35, [(.tmp 2)], false, fun _ => none, fun _ _ => none⟩
def c94 : CFn := ⟨(.seq (.reg [om 10 1, oo 11 (.ar .add (.t 10) (ci 1)), om 8 11]) (.block 0 (.loop 271 (.seq (.seq (.reg [om 12 8, om 13 2, oo 14 (.ar .lss (.t 12) (.t 13))]) (.cond (.t 14) .skip (.exit 0))) (.seq (.block 1 (.seq (.reg [om 17 8, om 9 17]) (.block 2 (.loop 783 (.seq (.seq (.drw [om 18 9, op 19 (.mv (.t 1)) [0], oo 20 (.ar .gtr (.t 18) (.t 19)), om 21 20, og 22 (.mv (.t 3)) 21 true, ⟨(some 23), (.mv (.t 0)), (some (21, true)), [4]⟩, ⟨(some 24), (.mv (.t 9)), (some (21, true)), [4, 5]⟩, ⟨(some 25), (.ias 1 (.t 23) (.t 24)), (some (21, true)), [4]⟩, ⟨(some 26), (.ld (.t 25)), (some (21, true)), [4]⟩, ⟨(some 27), (.mv (.t 0)), (some (21, true)), [4, 5, 6, 7, 8]⟩, ⟨(some 28), (.mv (.t 9)), (some (21, true)), [4, 5, 6, 7, 8, 9]⟩, ⟨(some 29), (.ar .sub (.t 28) (ci 1)), (some (21, true)), [4, 5, 6, 7, 8, 9]⟩, ⟨(some 30), (.ias 1 (.t 27) (.t 29)), (some (21, true)), [4, 5, 6, 7, 8]⟩, ⟨(some 31), (.ld (.t 30)), (some (21, true)), [4, 5, 6, 7, 8]⟩, og 32 (.call (.t 22) [(.t 26), (.t 31)]) 21 true, og 33 (.ar .lss (.t 32) (ci 0)) 21 true, oo 34 (.pick (.t 21) (.t 33) (.c (.bool false)))]) (.cond (.t 34) .skip (.exit 2))) (.seq (.block 3 (.drw [om 37 0, op 38 (.mv (.t 9)) [0], op 39 (.mv (.t 0)) [0, 1], op 40 (.mv (.t 9)) [0, 1, 2], op 41 (.ar .sub (.t 40) (ci 1)) [0, 1, 2], op 42 (.mv (.t 0)) [0, 1, 2, 3, 4], op 43 (.mv (.t 9)) [0, 1, 2, 3, 4, 5], op 44 (.ar .sub (.t 43) (ci 1)) [0, 1, 2, 3, 4, 5], op 45 (.ias 1 (.t 42) (.t 44)) [0, 1, 2, 3, 4], op 46 (.ld (.t 45)) [0, 1, 2, 3, 4], op 47 (.mv (.t 0)) [0, 1, 2, 3, 4, 5, 6, 7, 8, 9], op 48 (.mv (.t 9)) [0, 1, 2, 3, 4, 5, 6, 7, 8, 9, 10], op 49 (.ias 1 (.t 47) (.t 48)) [0, 1, 2, 3, 4, 5, 6, 7, 8, 9], op 50 (.ld (.t 49)) [0, 1, 2, 3, 4, 5, 6, 7, 8, 9], op 51 (.ias 1 (.t 37) (.t 38)) [2, 3, 4], ⟨none, (.st 1 (.t 51) (.t 46)), none, [2, 3, 4]⟩, oo 52 (.ias 1 (.t 39) (.t 41)), ⟨none, (.st 1 (.t 52) (.t 50)), none, []⟩])) (.reg [om 35 9, oo 36 (.ar .sub (.t 35) (ci 1)), om 9 36]))))))) (.reg [om 15 8, oo 16 (.ar .add (.t 15) (ci 1)), om 8 16])))))), 53, [], false, fun _ => none, fun _ _ => none⟩
def c95 : CFn := ⟨(.seq (.reg [om 13 1, om 8 13]) (.seq (.reg [oo 9 (.mv (ci 0))]) (.seq (.reg [om 14 2, om 15 1, oo 16 (.ar .sub (.t 14) (.t 15)), om 10 16]) (.seq (.seq (.reg [om 17 10, oo 18 (.ar .sub (.t 17) (ci 1)), oo 19 (.ar .quo (.t 18) (ci 2)), om 11 19]) (.block 0 (.loop 3849 (.seq (.seq (.reg [om 20 11, oo 21 (.ar .geq (.t 20) (ci 0))]) (.cond (.t 21) .skip (.exit 0))) (.seq (.block 1 (.reg [om 24 0, om 25 11, om 26 10, om 27 8, om 28 3, oo 29 (cl 104 [(.t 24), (.t 25), (.t 26), (.t 27), (.t 28)])])) (.reg [om 22 11, oo 23 (.ar .sub (.t 22) (ci 1)), om 11 23])))))) (.seq (.reg [om 30 10, oo 31 (.ar .sub (.t 30) (ci 1)), om 12 31]) (.block 2 (.loop 4873 (.seq (.seq (.reg [om 32 12, oo 33 (.ar .geq (.t 32) (ci 0))]) (.cond (.t 33) .skip (.exit 2))) (.seq (.block 3 (.seq (.drw [om 36 0, op 37 (.mv (.t 8)) [0], op 38 (.mv (.t 0)) [0, 1], op 39 (.mv (.t 8)) [0, 1, 2], op 40 (.mv (.t 12)) [0, 1, 2, 3], op 41 (.ar .add (.t 39) (.t 40)) [0, 1, 2], op 42 (.mv (.t 0)) [0, 1, 2, 3, 4, 5], op 43 (.mv (.t 8)) [0, 1, 2, 3, 4, 5, 6], op 44 (.mv (.t 12)) [0, 1, 2, 3, 4, 5, 6, 7], op 45 (.ar .add (.t 43) (.t 44)) [0, 1, 2, 3, 4, 5, 6], op 46 (.ias 1 (.t 42) (.t 45)) [0, 1, 2, 3, 4, 5], op 47 (.ld (.t 46)) [0, 1, 2, 3, 4, 5], op 48 (.mv (.t 0)) [0, 1, 2, 3, 4, 5, 6, 7, 8, 9, 10, 11], op 49 (.mv (.t 8)) [0, 1, 2, 3, 4, 5, 6, 7, 8, 9, 10, 11, 12], op 50 (.ias 1 (.t 48) (.t 49)) [0, 1, 2, 3, 4, 5, 6, 7, 8, 9, 10, 11], op 51 (.ld (.t 50)) [0, 1, 2, 3, 4, 5, 6, 7, 8, 9, 10, 11], op 52 (.ias 1 (.t 36) (.t 37)) [2, 3, 4, 5], ⟨none, (.st 1 (.t 52) (.t 47)), none, [2, 3, 4, 5]⟩, oo 53 (.ias 1 (.t 38) (.t 41)), ⟨none, (.st 1 (.t 53) (.t 51)), none, []⟩]) (.reg [om 54 0, om 55 9, om 56 12, om 57 8, om 58 3, oo 59 (cl 104 [(.t 54), (.t 55), (.t 56), (.t 57), (.t 58)])]))) (.reg [om 34 12, oo 35 (.ar .sub (.t 34) (ci 1)), om 12 35])))))))))), 60, [], false, fun _ => none, fun _ _ => none⟩
def c96 : CFn := ⟨(.seq (.reg [om 13 2, om 14 1, oo 15 (.ar .sub (.t 13) (.t 14)), om 8 15]) (.seq (.reg [om 16 8, oo 17 (.ar .geq (.t 16) (ci 8))]) (.cond (.t 17) (.seq (.reg [om 18 8, oo 19 (.conv .u64 (.t 18)), oo 9 (.new [(.int .u64 (0))]), ⟨none, (.st 1 (.t 9) (.t 19)), none, []⟩]) (.seq (.reg [om 20 8, oo 21 (cl 105 [(.t 20)]), om 10 21]) (.seq (.reg [om 22 1, om 23 8, oo 24 (.ar .quo (.t 23) (ci 4)), oo 25 (.ar .mul (.t 24) (ci 2)), oo 26 (.ar .add (.t 22) (.t 25)), oo 27 (.ar .sub (.t 26) (ci 1)), om 11 27]) (.block 0 (.loop 3843 (.seq (.seq (.reg [om 28 11, om 29 1, om 30 8, oo 31 (.ar .quo (.t 30) (ci 4)), oo 32 (.ar .mul (.t 31) (ci 2)), oo 33 (.ar .add (.t 29) (.t 32)), oo 34 (.ar .add (.t 33) (ci 1)), oo 35 (.ar .leq (.t 28) (.t 34))]) (.cond (.t 35) .skip (.exit 0))) (.seq (.block 1 (.seq (.reg [oo 38 (cl 106 [(.t 9)]), om 39 10, oo 40 (.ar .sub (.t 39) (.c (.int .u64 (1)))), oo 41 (.ar .and (.t 38) (.t 40)), oo 42 (.conv .i64 (.t 41)), om 12 42]) (.seq (.seq (.reg [om 43 12, om 44 8, oo 45 (.ar .geq (.t 43) (.t 44))]) (.cond (.t 45) (.reg [om 46 12, om 47 8, oo 48 (.ar .sub (.t 46) (.t 47)), om 12 48]) .skip)) (.drw [om 49 0, op 50 (.mv (.t 11)) [0], op 51 (.mv (.t 0)) [0, 1], op 52 (.mv (.t 1)) [0, 1, 2], op 53 (.mv (.t 12)) [0, 1, 2, 3], op 54 (.ar .add (.t 52) (.t 53)) [0, 1, 2], op 55 (.mv (.t 0)) [0, 1, 2, 3, 4, 5], op 56 (.mv (.t 1)) [0, 1, 2, 3, 4, 5, 6], op 57 (.mv (.t 12)) [0, 1, 2, 3, 4, 5, 6, 7], op 58 (.ar .add (.t 56) (.t 57)) [0, 1, 2, 3, 4, 5, 6], op 59 (.ias 1 (.t 55) (.t 58)) [0, 1, 2, 3, 4, 5], op 60 (.ld (.t 59)) [0, 1, 2, 3, 4, 5], op 61 (.mv (.t 0)) [0, 1, 2, 3, 4, 5, 6, 7, 8, 9, 10, 11], op 62 (.mv (.t 11)) [0, 1, 2, 3, 4, 5, 6, 7, 8, 9, 10, 11, 12], op 63 (.ias 1 (.t 61) (.t 62)) [0, 1, 2, 3, 4, 5, 6, 7, 8, 9, 10, 11], op 64 (.ld (.t 63)) [0, 1, 2, 3, 4, 5, 6, 7, 8, 9, 10, 11], op 65 (.ias 1 (.t 49) (.t 50)) [2, 3, 4, 5], ⟨none, (.st 1 (.t 65) (.t 60)), none, [2, 3, 4, 5]⟩, oo 66 (.ias 1 (.t 51) (.t 54)), ⟨none, (.st 1 (.t 66) (.t 64)), none, []⟩])))) (.reg [om 36 11, oo 37 (.ar .add (.t 36) (ci 1)), om 11 37])))))))) .skip))), 67, [], false, fun _ => none, fun _ _ => none⟩
def c97 : CFn := ⟨(.seq (.reg [oo 8 (.mv (ci 0)), oo 9 (.mv (ci 0))]) (.seq (.reg [om 15 2, om 16 1, oo 17 (.ar .sub (.t 15) (.t 16)), om 10 17]) (.seq (.reg [oo 11 (.new [(.int .i64 (0))])]) (.seq (.reg [om 18 1, om 19 10, oo 20 (.ar .quo (.t 19) (ci 4)), oo 21 (.ar .mul (.t 20) (ci 1)), oo 22 (.ar .add (.t 18) (.t 21)), om 12 22]) (.seq (.reg [om 23 1, om 24 10, oo 25 (.ar .quo (.t 24) (ci 4)), oo 26 (.ar .mul (.t 25) (ci 2)), oo 27 (.ar .add (.t 23) (.t 26)), om 13 27]) (.seq (.reg [om 28 1, om 29 10, oo 30 (.ar .quo (.t 29) (ci 4)), oo 31 (.ar .mul (.t 30) (ci 3)), oo 32 (.ar .add (.t 28) (.t 31)), om 14 32]) (.seq (.seq (.reg [om 33 10, oo 34 (.ar .geq (.t 33) (ci 8))]) (.cond (.t 34) (.seq (.seq (.reg [om 35 10, oo 36 (.ar .geq (.t 35) (ci 50))]) (.cond (.t 36) (.seq (.reg [om 37 0, om 38 12, om 39 3, oo 40 (cl 107 [(.t 37), (.t 38), (.t 11), (.t 39)]), om 12 40]) (.seq (.reg [om 41 0, om 42 13, om 43 3, oo 44 (cl 107 [(.t 41), (.t 42), (.t 11), (.t 43)]), om 13 44]) (.reg [om 45 0, om 46 14, om 47 3, oo 48 (cl 107 [(.t 45), (.t 46), (.t 11), (.t 47)]), om 14 48]))) .skip)) (.reg [om 49 0, om 50 12, om 51 13, om 52 14, om 53 3, oo 54 (cl 108 [(.t 49), (.t 50), (.t 51), (.t 52), (.t 11), (.t 53)]), om 13 54])) .skip)) (.seq (.reg [oo 55 (.ld (.t 11))]) (.block 0 (.seq (.reg [oo 58 (.ar .eql (.t 55) (ci 0)), om 57 58]) (.cond (.t 57) (.seq (.reg [om 59 13, om 8 59, oo 9 (.mv (ci 1))]) .ret) (.seq (.reg [oo 61 (.ar .eql (.t 55) (ci 12)), om 60 61]) (.cond (.t 60) (.seq (.reg [om 62 13, om 8 62, oo 9 (.mv (ci 2))]) .ret) (.seq (.reg [om 56 13, om 8 56, oo 9 (.mv (ci 0))]) .ret)))))))))))))), 63, [(.tmp 8), (.tmp 9)], false, fun _ => none, fun _ _ => none⟩
def c98 : CFn := ⟨(.seq (.reg [om 10 1, om 8 10]) (.seq (.reg [om 11 2, oo 12 (.ar .sub (.t 11) (ci 1)), om 9 12]) (.block 0 (.loop 769 (.seq (.seq (.reg [om 13 8, om 14 9, oo 15 (.ar .lss (.t 13) (.t 14))]) (.cond (.t 15) .skip (.exit 0))) (.block 1 (.seq (.drw [om 16 0, op 17 (.mv (.t 8)) [0], op 18 (.mv (.t 0)) [0, 1], op 19 (.mv (.t 9)) [0, 1, 2], op 20 (.mv (.t 0)) [0, 1, 2, 3], op 21 (.mv (.t 9)) [0, 1, 2, 3, 4], op 22 (.ias 1 (.t 20) (.t 21)) [0, 1, 2, 3], op 23 (.ld (.t 22)) [0, 1, 2, 3], op 24 (.mv (.t 0)) [0, 1, 2, 3, 4, 5, 6, 7], op 25 (.mv (.t 8)) [0, 1, 2, 3, 4, 5, 6, 7, 8], op 26 (.ias 1 (.t 24) (.t 25)) [0, 1, 2, 3, 4, 5, 6, 7], op 27 (.ld (.t 26)) [0, 1, 2, 3, 4, 5, 6, 7], op 28 (.ias 1 (.t 16) (.t 17)) [2, 3], ⟨none, (.st 1 (.t 28) (.t 23)), none, [2, 3]⟩, oo 29 (.ias 1 (.t 18) (.t 19)), ⟨none, (.st 1 (.t 29) (.t 27)), none, []⟩]) (.seq (.reg [om 30 8, oo 31 (.ar .add (.t 30) (ci 1)), om 8 31]) (.reg [om 32 9, oo 33 (.ar .sub (.t 32) (ci 1)), om 9 33]))))))))), 34, [], false, fun _ => none, fun _ _ => none⟩
def c99 : CFn := ⟨(.seq (.reg [oo 8 (.mv (.c (.bool false)))]) (.seq (.reg [om 13 1, oo 14 (.ar .add (.t 13) (ci 1)), om 9 14]) (.seq (.seq (.reg [oo 10 (.mv (ci 0))]) (.block 0 (.loop 1551 (.seq (.seq (.reg [om 15 10, oo 16 (.ar .lss (.t 15) (ci 5))]) (.cond (.t 16) .skip (.exit 0))) (.seq (.block 1 (.seq (.block 2 (.loop 1551 (.seq (.seq (.drw [om 19 9, op 20 (.mv (.t 2)) [0], oo 21 (.ar .lss (.t 19) (.t 20)), om 22 21, og 23 (.mv (.t 3)) 22 true, ⟨(some 24), (.mv (.t 0)), (some (22, true)), [4]⟩, ⟨(some 25), (.mv (.t 9)), (some (22, true)), [4, 5]⟩, ⟨(some 26), (.ias 1 (.t 24) (.t 25)), (some (22, true)), [4]⟩, ⟨(some 27), (.ld (.t 26)), (some (22, true)), [4]⟩, ⟨(some 28), (.mv (.t 0)), (some (22, true)), [4, 5, 6, 7, 8]⟩, ⟨(some 29), (.mv (.t 9)), (some (22, true)), [4, 5, 6, 7, 8, 9]⟩, ⟨(some 30), (.ar .sub (.t 29) (ci 1)), (some (22, true)), [4, 5, 6, 7, 8, 9]⟩, ⟨(some 31), (.ias 1 (.t 28) (.t 30)), (some (22, true)), [4, 5, 6, 7, 8]⟩, ⟨(some 32), (.ld (.t 31)), (some (22, true)), [4, 5, 6, 7, 8]⟩, og 33 (.call (.t 23) [(.t 27), (.t 32)]) 22 true, og 34 (.ar .lss (.t 33) (ci 0)) 22 true, og 35 (.un .not (.t 34)) 22 true, oo 36 (.pick (.t 22) (.t 35) (.c (.bool false)))]) (.cond (.t 36) .skip (.exit 2))) (.block 3 (.reg [om 37 9, oo 38 (.ar .add (.t 37) (ci 1)), om 9 38]))))) (.seq (.seq (.reg [om 39 9, om 40 2, oo 41 (.ar .eql (.t 39) (.t 40))]) (.cond (.t 41) (.seq (.reg [oo 8 (.mv (.c (.bool true)))]) .ret) .skip)) (.seq (.seq (.reg [om 42 2, om 43 1, oo 44 (.ar .sub (.t 42) (.t 43)), oo 45 (.ar .lss (.t 44) (ci 50))]) (.cond (.t 45) (.seq (.reg [oo 8 (.mv (.c (.bool false)))]) .ret) .skip)) (.seq (.drw [om 46 0, op 47 (.mv (.t 9)) [0], op 48 (.mv (.t 0)) [0, 1], op 49 (.mv (.t 9)) [0, 1, 2], op 50 (.ar .sub (.t 49) (ci 1)) [0, 1, 2], op 51 (.mv (.t 0)) [0, 1, 2, 3, 4], op 52 (.mv (.t 9)) [0, 1, 2, 3, 4, 5], op 53 (.ar .sub (.t 52) (ci 1)) [0, 1, 2, 3, 4, 5], op 54 (.ias 1 (.t 51) (.t 53)) [0, 1, 2, 3, 4], op 55 (.ld (.t 54)) [0, 1, 2, 3, 4], op 56 (.mv (.t 0)) [0, 1, 2, 3, 4, 5, 6, 7, 8, 9], op 57 (.mv (.t 9)) [0, 1, 2, 3, 4, 5, 6, 7, 8, 9, 10], op 58 (.ias 1 (.t 56) (.t 57)) [0, 1, 2, 3, 4, 5, 6, 7, 8, 9], op 59 (.ld (.t 58)) [0, 1, 2, 3, 4, 5, 6, 7, 8, 9], op 60 (.ias 1 (.t 46) (.t 47)) [2, 3, 4], ⟨none, (.st 1 (.t 60) (.t 55)), none, [2, 3, 4]⟩, oo 61 (.ias 1 (.t 48) (.t 50)), ⟨none, (.st 1 (.t 61) (.t 59)), none, []⟩]) (.seq (.seq (.reg [om 62 9, om 63 1, oo 64 (.ar .sub (.t 62) (.t 63)), oo 65 (.ar .geq (.t 64) (ci 2))]) (.cond (.t 65) (.seq (.reg [om 66 9, oo 67 (.ar .sub (.t 66) (ci 1)), om 11 67]) (.block 4 (.loop 3599 (.seq (.seq (.reg [om 68 11, oo 69 (.ar .geq (.t 68) (ci 1))]) (.cond (.t 69) .skip (.exit 4))) (.seq (.block 5 (.seq (.seq (.drw [om 72 3, op 73 (.mv (.t 0)) [0], op 74 (.mv (.t 11)) [0, 1], op 75 (.ias 1 (.t 73) (.t 74)) [0], op 76 (.ld (.t 75)) [0], op 77 (.mv (.t 0)) [0, 1, 2, 3, 4], op 78 (.mv (.t 11)) [0, 1, 2, 3, 4, 5], op 79 (.ar .sub (.t 78) (ci 1)) [0, 1, 2, 3, 4, 5], op 80 (.ias 1 (.t 77) (.t 79)) [0, 1, 2, 3, 4], op 81 (.ld (.t 80)) [0, 1, 2, 3, 4], oo 82 (.call (.t 72) [(.t 76), (.t 81)]), oo 83 (.ar .lss (.t 82) (ci 0)), oo 84 (.un .not (.t 83))]) (.cond (.t 84) (.exit 4) .skip)) (.drw [om 85 0, op 86 (.mv (.t 11)) [0], op 87 (.mv (.t 0)) [0, 1], op 88 (.mv (.t 11)) [0, 1, 2], op 89 (.ar .sub (.t 88) (ci 1)) [0, 1, 2], op 90 (.mv (.t 0)) [0, 1, 2, 3, 4], op 91 (.mv (.t 11)) [0, 1, 2, 3, 4, 5], op 92 (.ar .sub (.t 91) (ci 1)) [0, 1, 2, 3, 4, 5], op 93 (.ias 1 (.t 90) (.t 92)) [0, 1, 2, 3, 4], op 94 (.ld (.t 93)) [0, 1, 2, 3, 4], op 95 (.mv (.t 0)) [0, 1, 2, 3, 4, 5, 6, 7, 8, 9], op 96 (.mv (.t 11)) [0, 1, 2, 3, 4, 5, 6, 7, 8, 9, 10], op 97 (.ias 1 (.t 95) (.t 96)) [0, 1, 2, 3, 4, 5, 6, 7, 8, 9], op 98 (.ld (.t 97)) [0, 1, 2, 3, 4, 5, 6, 7, 8, 9], op 99 (.ias 1 (.t 85) (.t 86)) [2, 3, 4], ⟨none, (.st 1 (.t 99) (.t 94)), none, [2, 3, 4]⟩, oo 100 (.ias 1 (.t 87) (.t 89)), ⟨none, (.st 1 (.t 100) (.t 98)), none, []⟩]))) (.reg [om 70 11, oo 71 (.ar .sub (.t 70) (ci 1)), om 11 71])))))) .skip)) (.seq (.reg [om 101 2, om 102 9, oo 103 (.ar .sub (.t 101) (.t 102)), oo 104 (.ar .geq (.t 103) (ci 2))]) (.cond (.t 104) (.seq (.reg [om 105 9, oo 106 (.ar .add (.t 105) (ci 1)), om 12 106]) (.block 6 (.loop 5647 (.seq (.seq (.reg [om 107 12, om 108 2, oo 109 (.ar .lss (.t 107) (.t 108))]) (.cond (.t 109) .skip (.exit 6))) (.seq (.block 7 (.seq (.seq (.drw [om 112 3, op 113 (.mv (.t 0)) [0], op 114 (.mv (.t 12)) [0, 1], op 115 (.ias 1 (.t 113) (.t 114)) [0], op 116 (.ld (.t 115)) [0], op 117 (.mv (.t 0)) [0, 1, 2, 3, 4], op 118 (.mv (.t 12)) [0, 1, 2, 3, 4, 5], op 119 (.ar .sub (.t 118) (ci 1)) [0, 1, 2, 3, 4, 5], op 120 (.ias 1 (.t 117) (.t 119)) [0, 1, 2, 3, 4], op 121 (.ld (.t 120)) [0, 1, 2, 3, 4], oo 122 (.call (.t 112) [(.t 116), (.t 121)]), oo 123 (.ar .lss (.t 122) (ci 0)), oo 124 (.un .not (.t 123))]) (.cond (.t 124) (.exit 6) .skip)) (.drw [om 125 0, op 126 (.mv (.t 12)) [0], op 127 (.mv (.t 0)) [0, 1], op 128 (.mv (.t 12)) [0, 1, 2], op 129 (.ar .sub (.t 128) (ci 1)) [0, 1, 2], op 130 (.mv (.t 0)) [0, 1, 2, 3, 4], op 131 (.mv (.t 12)) [0, 1, 2, 3, 4, 5], op 132 (.ar .sub (.t 131) (ci 1)) [0, 1, 2, 3, 4, 5], op 133 (.ias 1 (.t 130) (.t 132)) [0, 1, 2, 3, 4], op 134 (.ld (.t 133)) [0, 1, 2, 3, 4], op 135 (.mv (.t 0)) [0, 1, 2, 3, 4, 5, 6, 7, 8, 9], op 136 (.mv (.t 12)) [0, 1, 2, 3, 4, 5, 6, 7, 8, 9, 10], op 137 (.ias 1 (.t 135) (.t 136)) [0, 1, 2, 3, 4, 5, 6, 7, 8, 9], op 138 (.ld (.t 137)) [0, 1, 2, 3, 4, 5, 6, 7, 8, 9], op 139 (.ias 1 (.t 125) (.t 126)) [2, 3, 4], ⟨none, (.st 1 (.t 139) (.t 134)), none, [2, 3, 4]⟩, oo 140 (.ias 1 (.t 127) (.t 129)), ⟨none, (.st 1 (.t 140) (.t 138)), none, []⟩]))) (.reg [om 110 12, oo 111 (.ar .add (.t 110) (ci 1)), om 12 111])))))) .skip)))))))) (.reg [om 17 10, oo 18 (.ar .add (.t 17) (ci 1)), om 10 18])))))) (.seq (.reg [oo 8 (.mv (.c (.bool false)))]) .ret)))), 141, [(.tmp 8)], false, fun _ => none, fun _ _ => none⟩
def c100 : CFn := ⟨(.seq (.reg [oo 10 (.mv (ci 0))]) (.seq (.drw [om 13 0, op 14 (.mv (.t 1)) [0], op 15 (.mv (.t 0)) [0, 1], op 16 (.mv (.t 3)) [0, 1, 2], op 17 (.mv (.t 0)) [0, 1, 2, 3], op 18 (.mv (.t 3)) [0, 1, 2, 3, 4], op 19 (.ias 1 (.t 17) (.t 18)) [0, 1, 2, 3], op 20 (.ld (.t 19)) [0, 1, 2, 3], op 21 (.mv (.t 0)) [0, 1, 2, 3, 4, 5, 6, 7], op 22 (.mv (.t 1)) [0, 1, 2, 3, 4, 5, 6, 7, 8], op 23 (.ias 1 (.t 21) (.t 22)) [0, 1, 2, 3, 4, 5, 6, 7], op 24 (.ld (.t 23)) [0, 1, 2, 3, 4, 5, 6, 7], op 25 (.ias 1 (.t 13) (.t 14)) [2, 3], ⟨none, (.st 1 (.t 25) (.t 20)), none, [2, 3]⟩, oo 26 (.ias 1 (.t 15) (.t 16)), ⟨none, (.st 1 (.t 26) (.t 24)), none, []⟩]) (.seq (.reg [om 27 1, oo 28 (.ar .add (.t 27) (ci 1)), om 29 2, oo 30 (.ar .sub (.t 29) (ci 1)), om 11 28, om 12 30]) (.seq (.block 0 (.loop 6163 (.block 1 (.seq (.block 2 (.loop 6163 (.seq (.seq (.drw [om 31 11, op 32 (.mv (.t 12)) [0], oo 33 (.ar .leq (.t 31) (.t 32)), om 34 33, og 35 (.mv (.t 4)) 34 true, ⟨(some 36), (.mv (.t 0)), (some (34, true)), [4]⟩, ⟨(some 37), (.mv (.t 1)), (some (34, true)), [4, 5]⟩, ⟨(some 38), (.ias 1 (.t 36) (.t 37)), (some (34, true)), [4]⟩, ⟨(some 39), (.ld (.t 38)), (some (34, true)), [4]⟩, ⟨(some 40), (.mv (.t 0)), (some (34, true)), [4, 5, 6, 7, 8]⟩, ⟨(some 41), (.mv (.t 11)), (some (34, true)), [4, 5, 6, 7, 8, 9]⟩, ⟨(some 42), (.ias 1 (.t 40) (.t 41)), (some (34, true)), [4, 5, 6, 7, 8]⟩, ⟨(some 43), (.ld (.t 42)), (some (34, true)), [4, 5, 6, 7, 8]⟩, og 44 (.call (.t 35) [(.t 39), (.t 43)]) 34 true, og 45 (.ar .lss (.t 44) (ci 0)) 34 true, og 46 (.un .not (.t 45)) 34 true, oo 47 (.pick (.t 34) (.t 46) (.c (.bool false)))]) (.cond (.t 47) .skip (.exit 2))) (.block 3 (.reg [om 48 11, oo 49 (.ar .add (.t 48) (ci 1)), om 11 49]))))) (.seq (.block 4 (.loop 6163 (.seq (.seq (.drw [om 50 11, op 51 (.mv (.t 12)) [0], oo 52 (.ar .leq (.t 50) (.t 51)), om 53 52, og 54 (.mv (.t 4)) 53 true, ⟨(some 55), (.mv (.t 0)), (some (53, true)), [4]⟩, ⟨(some 56), (.mv (.t 1)), (some (53, true)), [4, 5]⟩, ⟨(some 57), (.ias 1 (.t 55) (.t 56)), (some (53, true)), [4]⟩, ⟨(some 58), (.ld (.t 57)), (some (53, true)), [4]⟩, ⟨(some 59), (.mv (.t 0)), (some (53, true)), [4, 5, 6, 7, 8]⟩, ⟨(some 60), (.mv (.t 12)), (some (53, true)), [4, 5, 6, 7, 8, 9]⟩, ⟨(some 61), (.ias 1 (.t 59) (.t 60)), (some (53, true)), [4, 5, 6, 7, 8]⟩, ⟨(some 62), (.ld (.t 61)), (some (53, true)), [4, 5, 6, 7, 8]⟩, og 63 (.call (.t 54) [(.t 58), (.t 62)]) 53 true, og 64 (.ar .lss (.t 63) (ci 0)) 53 true, oo 65 (.pick (.t 53) (.t 64) (.c (.bool false)))]) (.cond (.t 65) .skip (.exit 4))) (.block 5 (.reg [om 66 12, oo 67 (.ar .sub (.t 66) (ci 1)), om 12 67]))))) (.seq (.seq (.reg [om 68 11, om 69 12, oo 70 (.ar .gtr (.t 68) (.t 69))]) (.cond (.t 70) (.exit 0) .skip)) (.seq (.drw [om 71 0, op 72 (.mv (.t 11)) [0], op 73 (.mv (.t 0)) [0, 1], op 74 (.mv (.t 12)) [0, 1, 2], op 75 (.mv (.t 0)) [0, 1, 2, 3], op 76 (.mv (.t 12)) [0, 1, 2, 3, 4], op 77 (.ias 1 (.t 75) (.t 76)) [0, 1, 2, 3], op 78 (.ld (.t 77)) [0, 1, 2, 3], op 79 (.mv (.t 0)) [0, 1, 2, 3, 4, 5, 6, 7], op 80 (.mv (.t 11)) [0, 1, 2, 3, 4, 5, 6, 7, 8], op 81 (.ias 1 (.t 79) (.t 80)) [0, 1, 2, 3, 4, 5, 6, 7], op 82 (.ld (.t 81)) [0, 1, 2, 3, 4, 5, 6, 7], op 83 (.ias 1 (.t 71) (.t 72)) [2, 3], ⟨none, (.st 1 (.t 83) (.t 78)), none, [2, 3]⟩, oo 84 (.ias 1 (.t 73) (.t 74)), ⟨none, (.st 1 (.t 84) (.t 82)), none, []⟩]) (.seq (.reg [om 85 11, oo 86 (.ar .add (.t 85) (ci 1)), om 11 86]) (.reg [om 87 12, oo 88 (.ar .sub (.t 87) (ci 1)), om 12 88]))))))))) (.seq (.reg [om 89 11, om 10 89]) .ret))))), 90, [(.tmp 10)], false, fun _ => none, fun _ _ => none⟩
def c101 : CFn := ⟨(.seq (.reg [oo 10 (.mv (ci 0)), oo 11 (.mv (.c (.bool false)))]) (.seq (.drw [om 14 0, op 15 (.mv (.t 1)) [0], op 16 (.mv (.t 0)) [0, 1], op 17 (.mv (.t 3)) [0, 1, 2], op 18 (.mv (.t 0)) [0, 1, 2, 3], op 19 (.mv (.t 3)) [0, 1, 2, 3, 4], op 20 (.ias 1 (.t 18) (.t 19)) [0, 1, 2, 3], op 21 (.ld (.t 20)) [0, 1, 2, 3], op 22 (.mv (.t 0)) [0, 1, 2, 3, 4, 5, 6, 7], op 23 (.mv (.t 1)) [0, 1, 2, 3, 4, 5, 6, 7, 8], op 24 (.ias 1 (.t 22) (.t 23)) [0, 1, 2, 3, 4, 5, 6, 7], op 25 (.ld (.t 24)) [0, 1, 2, 3, 4, 5, 6, 7], op 26 (.ias 1 (.t 14) (.t 15)) [2, 3], ⟨none, (.st 1 (.t 26) (.t 21)), none, [2, 3]⟩, oo 27 (.ias 1 (.t 16) (.t 17)), ⟨none, (.st 1 (.t 27) (.t 25)), none, []⟩]) (.seq (.reg [om 28 1, oo 29 (.ar .add (.t 28) (ci 1)), om 30 2, oo 31 (.ar .sub (.t 30) (ci 1)), om 12 29, om 13 31]) (.seq (.block 0 (.loop 12307 (.seq (.seq (.drw [om 32 12, op 33 (.mv (.t 13)) [0], oo 34 (.ar .leq (.t 32) (.t 33)), om 35 34, og 36 (.mv (.t 4)) 35 true, ⟨(some 37), (.mv (.t 0)), (some (35, true)), [4]⟩, ⟨(some 38), (.mv (.t 12)), (some (35, true)), [4, 5]⟩, ⟨(some 39), (.ias 1 (.t 37) (.t 38)), (some (35, true)), [4]⟩, ⟨(some 40), (.ld (.t 39)), (some (35, true)), [4]⟩, ⟨(some 41), (.mv (.t 0)), (some (35, true)), [4, 5, 6, 7, 8]⟩, ⟨(some 42), (.mv (.t 1)), (some (35, true)), [4, 5, 6, 7, 8, 9]⟩, ⟨(some 43), (.ias 1 (.t 41) (.t 42)), (some (35, true)), [4, 5, 6, 7, 8]⟩, ⟨(some 44), (.ld (.t 43)), (some (35, true)), [4, 5, 6, 7, 8]⟩, og 45 (.call (.t 36) [(.t 40), (.t 44)]) 35 true, og 46 (.ar .lss (.t 45) (ci 0)) 35 true, oo 47 (.pick (.t 35) (.t 46) (.c (.bool false)))]) (.cond (.t 47) .skip (.exit 0))) (.block 1 (.reg [om 48 12, oo 49 (.ar .add (.t 48) (ci 1)), om 12 49]))))) (.seq (.block 2 (.loop 12307 (.seq (.seq (.drw [om 50 12, op 51 (.mv (.t 13)) [0], oo 52 (.ar .leq (.t 50) (.t 51)), om 53 52, og 54 (.mv (.t 4)) 53 true, ⟨(some 55), (.mv (.t 0)), (some (53, true)), [4]⟩, ⟨(some 56), (.mv (.t 13)), (some (53, true)), [4, 5]⟩, ⟨(some 57), (.ias 1 (.t 55) (.t 56)), (some (53, true)), [4]⟩, ⟨(some 58), (.ld (.t 57)), (some (53, true)), [4]⟩, ⟨(some 59), (.mv (.t 0)), (some (53, true)), [4, 5, 6, 7, 8]⟩, ⟨(some 60), (.mv (.t 1)), (some (53, true)), [4, 5, 6, 7, 8, 9]⟩, ⟨(some 61), (.ias 1 (.t 59) (.t 60)), (some (53, true)), [4, 5, 6, 7, 8]⟩, ⟨(some 62), (.ld (.t 61)), (some (53, true)), [4, 5, 6, 7, 8]⟩, og 63 (.call (.t 54) [(.t 58), (.t 62)]) 53 true, og 64 (.ar .lss (.t 63) (ci 0)) 53 true, og 65 (.un .not (.t 64)) 53 true, oo 66 (.pick (.t 53) (.t 65) (.c (.bool false)))]) (.cond (.t 66) .skip (.exit 2))) (.block 3 (.reg [om 67 13, oo 68 (.ar .sub (.t 67) (ci 1)), om 13 68]))))) (.seq (.seq (.reg [om 69 12, om 70 13, oo 71 (.ar .gtr (.t 69) (.t 70))]) (.cond (.t 71) (.seq (.drw [om 72 0, op 73 (.mv (.t 13)) [0], op 74 (.mv (.t 0)) [0, 1], op 75 (.mv (.t 1)) [0, 1, 2], op 76 (.mv (.t 0)) [0, 1, 2, 3], op 77 (.mv (.t 1)) [0, 1, 2, 3, 4], op 78 (.ias 1 (.t 76) (.t 77)) [0, 1, 2, 3], op 79 (.ld (.t 78)) [0, 1, 2, 3], op 80 (.mv (.t 0)) [0, 1, 2, 3, 4, 5, 6, 7], op 81 (.mv (.t 13)) [0, 1, 2, 3, 4, 5, 6, 7, 8], op 82 (.ias 1 (.t 80) (.t 81)) [0, 1, 2, 3, 4, 5, 6, 7], op 83 (.ld (.t 82)) [0, 1, 2, 3, 4, 5, 6, 7], op 84 (.ias 1 (.t 72) (.t 73)) [2, 3], ⟨none, (.st 1 (.t 84) (.t 79)), none, [2, 3]⟩, oo 85 (.ias 1 (.t 74) (.t 75)), ⟨none, (.st 1 (.t 85) (.t 83)), none, []⟩]) (.seq (.reg [om 86 13, om 10 86, oo 11 (.mv (.c (.bool true)))]) .ret)) .skip)) (.seq (.drw [om 87 0, op 88 (.mv (.t 12)) [0], op 89 (.mv (.t 0)) [0, 1], op 90 (.mv (.t 13)) [0, 1, 2], op 91 (.mv (.t 0)) [0, 1, 2, 3], op 92 (.mv (.t 13)) [0, 1, 2, 3, 4], op 93 (.ias 1 (.t 91) (.t 92)) [0, 1, 2, 3], op 94 (.ld (.t 93)) [0, 1, 2, 3], op 95 (.mv (.t 0)) [0, 1, 2, 3, 4, 5, 6, 7], op 96 (.mv (.t 12)) [0, 1, 2, 3, 4, 5, 6, 7, 8], op 97 (.ias 1 (.t 95) (.t 96)) [0, 1, 2, 3, 4, 5, 6, 7], op 98 (.ld (.t 97)) [0, 1, 2, 3, 4, 5, 6, 7], op 99 (.ias 1 (.t 87) (.t 88)) [2, 3], ⟨none, (.st 1 (.t 99) (.t 94)), none, [2, 3]⟩, oo 100 (.ias 1 (.t 89) (.t 90)), ⟨none, (.st 1 (.t 100) (.t 98)), none, []⟩]) (.seq (.reg [om 101 12, oo 102 (.ar .add (.t 101) (ci 1)), om 12 102]) (.seq (.reg [om 103 13, oo 104 (.ar .sub (.t 103) (ci 1)), om 13 104]) (.seq (.block 4 (.loop 12307 (.block 5 (.seq (.block 6 (.loop 12307 (.seq (.seq (.drw [om 105 12, op 106 (.mv (.t 13)) [0], oo 107 (.ar .leq (.t 105) (.t 106)), om 108 107, og 109 (.mv (.t 4)) 108 true, ⟨(some 110), (.mv (.t 0)), (some (108, true)), [4]⟩, ⟨(some 111), (.mv (.t 12)), (some (108, true)), [4, 5]⟩, ⟨(some 112), (.ias 1 (.t 110) (.t 111)), (some (108, true)), [4]⟩, ⟨(some 113), (.ld (.t 112)), (some (108, true)), [4]⟩, ⟨(some 114), (.mv (.t 0)), (some (108, true)), [4, 5, 6, 7, 8]⟩, ⟨(some 115), (.mv (.t 1)), (some (108, true)), [4, 5, 6, 7, 8, 9]⟩, ⟨(some 116), (.ias 1 (.t 114) (.t 115)), (some (108, true)), [4, 5, 6, 7, 8]⟩, ⟨(some 117), (.ld (.t 116)), (some (108, true)), [4, 5, 6, 7, 8]⟩, og 118 (.call (.t 109) [(.t 113), (.t 117)]) 108 true, og 119 (.ar .lss (.t 118) (ci 0)) 108 true, oo 120 (.pick (.t 108) (.t 119) (.c (.bool false)))]) (.cond (.t 120) .skip (.exit 6))) (.block 7 (.reg [om 121 12, oo 122 (.ar .add (.t 121) (ci 1)), om 12 122]))))) (.seq (.block 8 (.loop 12307 (.seq (.seq (.drw [om 123 12, op 124 (.mv (.t 13)) [0], oo 125 (.ar .leq (.t 123) (.t 124)), om 126 125, og 127 (.mv (.t 4)) 126 true, ⟨(some 128), (.mv (.t 0)), (some (126, true)), [4]⟩, ⟨(some 129), (.mv (.t 13)), (some (126, true)), [4, 5]⟩, ⟨(some 130), (.ias 1 (.t 128) (.t 129)), (some (126, true)), [4]⟩, ⟨(some 131), (.ld (.t 130)), (some (126, true)), [4]⟩, ⟨(some 132), (.mv (.t 0)), (some (126, true)), [4, 5, 6, 7, 8]⟩, ⟨(some 133), (.mv (.t 1)), (some (126, true)), [4, 5, 6, 7, 8, 9]⟩, ⟨(some 134), (.ias 1 (.t 132) (.t 133)), (some (126, true)), [4, 5, 6, 7, 8]⟩, ⟨(some 135), (.ld (.t 134)), (some (126, true)), [4, 5, 6, 7, 8]⟩, og 136 (.call (.t 127) [(.t 131), (.t 135)]) 126 true, og 137 (.ar .lss (.t 136) (ci 0)) 126 true, og 138 (.un .not (.t 137)) 126 true, oo 139 (.pick (.t 126) (.t 138) (.c (.bool false)))]) (.cond (.t 139) .skip (.exit 8))) (.block 9 (.reg [om 140 13, oo 141 (.ar .sub (.t 140) (ci 1)), om 13 141]))))) (.seq (.seq (.reg [om 142 12, om 143 13, oo 144 (.ar .gtr (.t 142) (.t 143))]) (.cond (.t 144) (.exit 4) .skip)) (.seq (.drw [om 145 0, op 146 (.mv (.t 12)) [0], op 147 (.mv (.t 0)) [0, 1], op 148 (.mv (.t 13)) [0, 1, 2], op 149 (.mv (.t 0)) [0, 1, 2, 3], op 150 (.mv (.t 13)) [0, 1, 2, 3, 4], op 151 (.ias 1 (.t 149) (.t 150)) [0, 1, 2, 3], op 152 (.ld (.t 151)) [0, 1, 2, 3], op 153 (.mv (.t 0)) [0, 1, 2, 3, 4, 5, 6, 7], op 154 (.mv (.t 12)) [0, 1, 2, 3, 4, 5, 6, 7, 8], op 155 (.ias 1 (.t 153) (.t 154)) [0, 1, 2, 3, 4, 5, 6, 7], op 156 (.ld (.t 155)) [0, 1, 2, 3, 4, 5, 6, 7], op 157 (.ias 1 (.t 145) (.t 146)) [2, 3], ⟨none, (.st 1 (.t 157) (.t 152)), none, [2, 3]⟩, oo 158 (.ias 1 (.t 147) (.t 148)), ⟨none, (.st 1 (.t 158) (.t 156)), none, []⟩]) (.seq (.reg [om 159 12, oo 160 (.ar .add (.t 159) (ci 1)), om 12 160]) (.reg [om 161 13, oo 162 (.ar .sub (.t 161) (ci 1)), om 13 162]))))))))) (.seq (.drw [om 163 0, op 164 (.mv (.t 13)) [0], op 165 (.mv (.t 0)) [0, 1], op 166 (.mv (.t 1)) [0, 1, 2], op 167 (.mv (.t 0)) [0, 1, 2, 3], op 168 (.mv (.t 1)) [0, 1, 2, 3, 4], op 169 (.ias 1 (.t 167) (.t 168)) [0, 1, 2, 3], op 170 (.ld (.t 169)) [0, 1, 2, 3], op 171 (.mv (.t 0)) [0, 1, 2, 3, 4, 5, 6, 7], op 172 (.mv (.t 13)) [0, 1, 2, 3, 4, 5, 6, 7, 8], op 173 (.ias 1 (.t 171) (.t 172)) [0, 1, 2, 3, 4, 5, 6, 7], op 174 (.ld (.t 173)) [0, 1, 2, 3, 4, 5, 6, 7], op 175 (.ias 1 (.t 163) (.t 164)) [2, 3], ⟨none, (.st 1 (.t 175) (.t 170)), none, [2, 3]⟩, oo 176 (.ias 1 (.t 165) (.t 166)), ⟨none, (.st 1 (.t 176) (.t 174)), none, []⟩]) (.seq (.reg [om 177 13, om 10 177, oo 11 (.mv (.c (.bool false)))]) .ret)))))))))))), 178, [(.tmp 10), (.tmp 11)], false, fun _ => none, fun _ _ => none⟩
def c102 : CFn := ⟨(.seq (.reg [oo 2 (.mv (ci 0))]) (.seq (.seq (.reg [om 3 0, oo 4 (.ar .geq (.t 3) (.c (.int .u32 (65536))))]) (.cond (.t 4) (.seq (.reg [om 5 0, oo 6 (.sh .shr (.t 5) (.c (.int .u64 (16)))), om 0 6]) (.reg [oo 2 (.mv (ci 16))])) .skip)) (.seq (.seq (.reg [om 7 0, oo 8 (.ar .geq (.t 7) (.c (.int .u32 (256))))]) (.cond (.t 8) (.seq (.reg [om 9 0, oo 10 (.sh .shr (.t 9) (.c (.int .u64 (8)))), om 0 10]) (.reg [om 11 2, oo 12 (.ar .add (.t 11) (ci 8)), om 2 12])) .skip)) (.seq (.reg [om 13 2, om 14 0, oo 15 (.conv .u8 (.t 14)), oo 16 (.ix 256 1 (.c (.agg [(.int .u8 (0)), (.int .u8 (1)), (.int .u8 (2)), (.int .u8 (2)), (.int .u8 (3)), (.int .u8 (3)), (.int .u8 (3)), (.int .u8 (3)), (.int .u8 (4)), (.int .u8 (4)), (.int .u8 (4)), (.int .u8 (4)), (.int .u8 (4)), (.int .u8 (4)), (.int .u8 (4)), (.int .u8 (4)), (.int .u8 (5)), (.int .u8 (5)), (.int .u8 (5)), (.int .u8 (5)), (.int .u8 (5)), (.int .u8 (5)), (.int .u8 (5)), (.int .u8 (5)), (.int .u8 (5)), (.int .u8 (5)), (.int .u8 (5)), (.int .u8 (5)), (.int .u8 (5)), (.int .u8 (5)), (.int .u8 (5)), (.int .u8 (5)), (.int .u8 (6)), (.int .u8 (6)), (.int .u8 (6)), (.int .u8 (6)), (.int .u8 (6)), (.int .u8 (6)), (.int .u8 (6)), (.int .u8 (6)), (.int .u8 (6)), (.int .u8 (6)), (.int .u8 (6)), (.int .u8 (6)), (.int .u8 (6)), (.int .u8 (6)), (.int .u8 (6)), (.int .u8 (6)), (.int .u8 (6)), (.int .u8 (6)), (.int .u8 (6)), (.int .u8 (6)), (.int .u8 (6)), (.int .u8 (6)), (.int .u8 (6)), (.int .u8 (6)), (.int .u8 (6)), (.int .u8 (6)), (.int .u8 (6)), (.int .u8 (6)), (.int .u8 (6)), (.int .u8 (6)), (.int .u8 (6)), (.int .u8 (6)), (.int .u8 (7)), (.int .u8 (7)), (.int .u8 (7)), (.int .u8 (7)), (.int .u8 (7)), (.int .u8 (7)), (.int .u8 (7)), (.int .u8 (7)), (.int .u8 (7)), (.int .u8 (7)), (.int .u8 (7)), (.int .u8 (7)), (.int .u8 (7)), (.int .u8 (7)), (.int .u8 (7)), (.int .u8 (7)), (.int .u8 (7)), (.int .u8 (7)), (.int .u8 (7)), (.int .u8 (7)), (.int .u8 (7)), (.int .u8 (7)), (.int .u8 (7)), (.int .u8 (7)), (.int .u8 (7)), (.int .u8 (7)), (.int .u8 (7)), (.int .u8 (7)), (.int .u8 (7)), (.int .u8 (7)), (.int .u8 (7)), (.int .u8 (7)), (.int .u8 (7)), (.int .u8 (7)), (.int .u8 (7)), (.int .u8 (7)), (.int .u8 (7)), (.int .u8 (7)), (.int .u8 (7)), (.int .u8 (7)), (.int .u8 (7)), (.int .u8 (7)), (.int .u8 (7)), (.int .u8 (7)), (.int .u8 (7)), (.int .u8 (7)), (.int .u8 (7)), (.int .u8 (7)), (.int .u8 (7)), (.int .u8 (7)), (.int .u8 (7)), (.int .u8 (7)), (.int .u8 (7)), (.int .u8 (7)), (.int .u8 (7)), (.int .u8 (7)), (.int .u8 (7)), (.int .u8 (7)), (.int .u8 (7)), (.int .u8 (7)), (.int .u8 (7)), (.int .u8 (7)), (.int .u8 (7)), (.int .u8 (7)), (.int .u8 (8)), (.int .u8 (8)), (.int .u8 (8)), (.int .u8 (8)), (.int .u8 (8)), (.int .u8 (8)), (.int .u8 (8)), (.int .u8 (8)), (.int .u8 (8)), (.int .u8 (8)), (.int .u8 (8)), (.int .u8 (8)), (.int .u8 (8)), (.int .u8 (8)), (.int .u8 (8)), (.int .u8 (8)), (.int .u8 (8)), (.int .u8 (8)), (.int .u8 (8)), (.int .u8 (8)), (.int .u8 (8)), (.int .u8 (8)), (.int .u8 (8)), (.int .u8 (8)), (.int .u8 (8)), (.int .u8 (8)), (.int .u8 (8)), (.int .u8 (8)), (.int .u8 (8)), (.int .u8 (8)), (.int .u8 (8)), (.int .u8 (8)), (.int .u8 (8)), (.int .u8 (8)), (.int .u8 (8)), (.int .u8 (8)), (.int .u8 (8)), (.int .u8 (8)), (.int .u8 (8)), (.int .u8 (8)), (.int .u8 (8)), (.int .u8 (8)), (.int .u8 (8)), (.int .u8 (8)), (.int .u8 (8)), (.int .u8 (8)), (.int .u8 (8)), (.int .u8 (8)), (.int .u8 (8)), (.int .u8 (8)), (.int .u8 (8)), (.int .u8 (8)), (.int .u8 (8)), (.int .u8 (8)), (.int .u8 (8)), (.int .u8 (8)), (.int .u8 (8)), (.int .u8 (8)), (.int .u8 (8)), (.int .u8 (8)), (.int .u8 (8)), (.int .u8 (8)), (.int .u8 (8)), (.int .u8 (8)), (.int .u8 (8)), (.int .u8 (8)), (.int .u8 (8)), (.int .u8 (8)), (.int .u8 (8)), (.int .u8 (8)), (.int .u8 (8)), (.int .u8 (8)), (.int .u8 (8)), (.int .u8 (8)), (.int .u8 (8)), (.int .u8 (8)), (.int .u8 (8)), (.int .u8 (8)), (.int .u8 (8)), (.int .u8 (8)), (.int .u8 (8)), (.int .u8 (8)), (.int .u8 (8)), (.int .u8 (8)), (.int .u8 (8)), (.int .u8 (8)), (.int .u8 (8)), (.int .u8 (8)), (.int .u8 (8)), (.int .u8 (8)), (.int .u8 (8)), (.int .u8 (8)), (.int .u8 (8)), (.int .u8 (8)), (.int .u8 (8)), (.int .u8 (8)), (.int .u8 (8)), (.int .u8 (8)), (.int .u8 (8)), (.int .u8 (8)), (.int .u8 (8)), (.int .u8 (8)), (.int .u8 (8)), (.int .u8 (8)), (.int .u8 (8)), (.int .u8 (8)), (.int .u8 (8)), (.int .u8 (8)), (.int .u8 (8)), (.int .u8 (8)), (.int .u8 (8)), (.int .u8 (8)), (.int .u8 (8)), (.int .u8 (8)), (.int .u8 (8)), (.int .u8 (8)), (.int .u8 (8)), (.int .u8 (8)), (.int .u8 (8)), (.int .u8 (8)), (.int .u8 (8)), (.int .u8 (8)), (.int .u8 (8)), (.int .u8 (8)), (.int .u8 (8)), (.int .u8 (8)), (.int .u8 (8)), (.int .u8 (8))])) (.t 15)), oo 17 (.conv .i64 (.t 16)), oo 18 (.ar .add (.t 13) (.t 17)), om 2 18]) .ret)))), 19, [(.tmp 2)], false, fun _ => none, fun _ _ => none⟩
def c103 : CFn := ⟨(.seq (.reg [oo 2 (.mv (ci 0))]) (.seq (.seq (.reg [om 3 0, oo 4 (.ar .geq (.t 3) (.c (.int .u64 (4294967296))))]) (.cond (.t 4) (.seq (.reg [om 5 0, oo 6 (.sh .shr (.t 5) (.c (.int .u64 (32)))), om 0 6]) (.reg [oo 2 (.mv (ci 32))])) .skip)) (.seq (.seq (.reg [om 7 0, oo 8 (.ar .geq (.t 7) (.c (.int .u64 (65536))))]) (.cond (.t 8) (.seq (.reg [om 9 0, oo 10 (.sh .shr (.t 9) (.c (.int .u64 (16)))), om 0 10]) (.reg [om 11 2, oo 12 (.ar .add (.t 11) (ci 16)), om 2 12])) .skip)) (.seq (.seq (.reg [om 13 0, oo 14 (.ar .geq (.t 13) (.c (.int .u64 (256))))]) (.cond (.t 14) (.seq (.reg [om 15 0, oo 16 (.sh .shr (.t 15) (.c (.int .u64 (8)))), om 0 16]) (.reg [om 17 2, oo 18 (.ar .add (.t 17) (ci 8)), om 2 18])) .skip)) (.seq (.reg [om 19 2, om 20 0, oo 21 (.conv .u8 (.t 20)), oo 22 (.ix 256 1 (.c (.agg [(.int .u8 (0)), (.int .u8 (1)), (.int .u8 (2)), (.int .u8 (2)), (.int .u8 (3)), (.int .u8 (3)), (.int .u8 (3)), (.int .u8 (3)), (.int .u8 (4)), (.int .u8 (4)), (.int .u8 (4)), (.int .u8 (4)), (.int .u8 (4)), (.int .u8 (4)), (.int .u8 (4)), (.int .u8 (4)), (.int .u8 (5)), (.int .u8 (5)), (.int .u8 (5)), (.int .u8 (5)), (.int .u8 (5)), (.int .u8 (5)), (.int .u8 (5)), (.int .u8 (5)), (.int .u8 (5)), (.int .u8 (5)), (.int .u8 (5)), (.int .u8 (5)), (.int .u8 (5)), (.int .u8 (5)), (.int .u8 (5)), (.int .u8 (5)), (.int .u8 (6)), (.int .u8 (6)), (.int .u8 (6)), (.int .u8 (6)), (.int .u8 (6)), (.int .u8 (6)), (.int .u8 (6)), (.int .u8 (6)), (.int .u8 (6)), (.int .u8 (6)), (.int .u8 (6)), (.int .u8 (6)), (.int .u8 (6)), (.int .u8 (6)), (.int .u8 (6)), (.int .u8 (6)), (.int .u8 (6)), (.int .u8 (6)), (.int .u8 (6)), (.int .u8 (6)), (.int .u8 (6)), (.int .u8 (6)), (.int .u8 (6)), (.int .u8 (6)), (.int .u8 (6)), (.int .u8 (6)), (.int .u8 (6)), (.int .u8 (6)), (.int .u8 (6)), (.int .u8 (6)), (.int .u8 (6)), (.int .u8 (6)), (.int .u8 (7)), (.int .u8 (7)), (.int .u8 (7)), (.int .u8 (7)), (.int .u8 (7)), (.int .u8 (7)), (.int .u8 (7)), (.int .u8 (7)), (.int .u8 (7)), (.int .u8 (7)), (.int .u8 (7)), (.int .u8 (7)), (.int .u8 (7)), (.int .u8 (7)), (.int .u8 (7)), (.int .u8 (7)), (.int .u8 (7)), (.int .u8 (7)), (.int .u8 (7)), (.int .u8 (7)), (.int .u8 (7)), (.int .u8 (7)), (.int .u8 (7)), (.int .u8 (7)), (.int .u8 (7)), (.int .u8 (7)), (.int .u8 (7)), (.int .u8 (7)), (.int .u8 (7)), (.int .u8 (7)), (.int .u8 (7)), (.int .u8 (7)), (.int .u8 (7)), (.int .u8 (7)), (.int .u8 (7)), (.int .u8 (7)), (.int .u8 (7)), (.int .u8 (7)), (.int .u8 (7)), (.int .u8 (7)), (.int .u8 (7)), (.int .u8 (7)), (.int .u8 (7)), (.int .u8 (7)), (.int .u8 (7)), (.int .u8 (7)), (.int .u8 (7)), (.int .u8 (7)), (.int .u8 (7)), (.int .u8 (7)), (.int .u8 (7)), (.int .u8 (7)), (.int .u8 (7)), (.int .u8 (7)), (.int .u8 (7)), (.int .u8 (7)), (.int .u8 (7)), (.int .u8 (7)), (.int .u8 (7)), (.int .u8 (7)), (.int .u8 (7)), (.int .u8 (7)), (.int .u8 (7)), (.int .u8 (7)), (.int .u8 (8)), (.int .u8 (8)), (.int .u8 (8)), (.int .u8 (8)), (.int .u8 (8)), (.int .u8 (8)), (.int .u8 (8)), (.int .u8 (8)), (.int .u8 (8)), (.int .u8 (8)), (.int .u8 (8)), (.int .u8 (8)), (.int .u8 (8)), (.int .u8 (8)), (.int .u8 (8)), (.int .u8 (8)), (.int .u8 (8)), (.int .u8 (8)), (.int .u8 (8)), (.int .u8 (8)), (.int .u8 (8)), (.int .u8 (8)), (.int .u8 (8)), (.int .u8 (8)), (.int .u8 (8)), (.int .u8 (8)), (.int .u8 (8)), (.int .u8 (8)), (.int .u8 (8)), (.int .u8 (8)), (.int .u8 (8)), (.int .u8 (8)), (.int .u8 (8)), (.int .u8 (8)), (.int .u8 (8)), (.int .u8 (8)), (.int .u8 (8)), (.int .u8 (8)), (.int .u8 (8)), (.int .u8 (8)), (.int .u8 (8)), (.int .u8 (8)), (.int .u8 (8)), (.int .u8 (8)), (.int .u8 (8)), (.int .u8 (8)), (.int .u8 (8)), (.int .u8 (8)), (.int .u8 (8)), (.int .u8 (8)), (.int .u8 (8)), (.int .u8 (8)), (.int .u8 (8)), (.int .u8 (8)), (.int .u8 (8)), (.int .u8 (8)), (.int .u8 (8)), (.int .u8 (8)), (.int .u8 (8)), (.int .u8 (8)), (.int .u8 (8)), (.int .u8 (8)), (.int .u8 (8)), (.int .u8 (8)), (.int .u8 (8)), (.int .u8 (8)), (.int .u8 (8)), (.int .u8 (8)), (.int .u8 (8)), (.int .u8 (8)), (.int .u8 (8)), (.int .u8 (8)), (.int .u8 (8)), (.int .u8 (8)), (.int .u8 (8)), (.int .u8 (8)), (.int .u8 (8)), (.int .u8 (8)), (.int .u8 (8)), (.int .u8 (8)), (.int .u8 (8)), (.int .u8 (8)), (.int .u8 (8)), (.int .u8 (8)), (.int .u8 (8)), (.int .u8 (8)), (.int .u8 (8)), (.int .u8 (8)), (.int .u8 (8)), (.int .u8 (8)), (.int .u8 (8)), (.int .u8 (8)), (.int .u8 (8)), (.int .u8 (8)), (.int .u8 (8)), (.int .u8 (8)), (.int .u8 (8)), (.int .u8 (8)), (.int .u8 (8)), (.int .u8 (8)), (.int .u8 (8)), (.int .u8 (8)), (.int .u8 (8)), (.int .u8 (8)), (.int .u8 (8)), (.int .u8 (8)), (.int .u8 (8)), (.int .u8 (8)), (.int .u8 (8)), (.int .u8 (8)), (.int .u8 (8)), (.int .u8 (8)), (.int .u8 (8)), (.int .u8 (8)), (.int .u8 (8)), (.int .u8 (8)), (.int .u8 (8)), (.int .u8 (8)), (.int .u8 (8)), (.int .u8 (8)), (.int .u8 (8)), (.int .u8 (8)), (.int .u8 (8)), (.int .u8 (8)), (.int .u8 (8)), (.int .u8 (8)), (.int .u8 (8)), (.int .u8 (8))])) (.t 21)), oo 23 (.conv .i64 (.t 22)), oo 24 (.ar .add (.t 19) (.t 23)), om 2 24]) .ret))))), 25, [(.tmp 2)], false, fun _ => none, fun _ _ => none⟩
def c104 : CFn := ⟨(.seq (.reg [om 12 1, om 10 12]) (.block 0 (.loop 1053 (.block 1 (.seq (.reg [om 13 10, oo 14 (.ar .mul (ci 2) (.t 13)), oo 15 (.ar .add (.t 14) (ci 1)), om 11 15]) (.seq (.seq (.reg [om 16 11, om 17 2, oo 18 (.ar .geq (.t 16) (.t 17))]) (.cond (.t 18) (.exit 0) .skip)) (.seq (.seq (.drw [om 19 11, oo 20 (.ar .add (.t 19) (ci 1)), op 21 (.mv (.t 2)) [0, 1], oo 22 (.ar .lss (.t 20) (.t 21)), om 23 22, og 24 (.mv (.t 4)) 23 true, ⟨(some 25), (.mv (.t 0)), (some (23, true)), [5]⟩, ⟨(some 26), (.mv (.t 3)), (some (23, true)), [5, 6]⟩, ⟨(some 27), (.mv (.t 11)), (some (23, true)), [5, 6, 7]⟩, ⟨(some 28), (.ar .add (.t 26) (.t 27)), (some (23, true)), [5, 6]⟩, ⟨(some 29), (.ias 1 (.t 25) (.t 28)), (some (23, true)), [5]⟩, ⟨(some 30), (.ld (.t 29)), (some (23, true)), [5]⟩, ⟨(some 31), (.mv (.t 0)), (some (23, true)), [5, 6, 7, 8, 9, 10, 11]⟩, ⟨(some 32), (.mv (.t 3)), (some (23, true)), [5, 6, 7, 8, 9, 10, 11, 12]⟩, ⟨(some 33), (.mv (.t 11)), (some (23, true)), [5, 6, 7, 8, 9, 10, 11, 12, 13]⟩, ⟨(some 34), (.ar .add (.t 32) (.t 33)), (some (23, true)), [5, 6, 7, 8, 9, 10, 11, 12]⟩, ⟨(some 35), (.ar .add (.t 34) (ci 1)), (some (23, true)), [5, 6, 7, 8, 9, 10, 11, 12]⟩, ⟨(some 36), (.ias 1 (.t 31) (.t 35)), (some (23, true)), [5, 6, 7, 8, 9, 10, 11]⟩, ⟨(some 37), (.ld (.t 36)), (some (23, true)), [5, 6, 7, 8, 9, 10, 11]⟩, og 38 (.call (.t 24) [(.t 30), (.t 37)]) 23 true, og 39 (.ar .lss (.t 38) (ci 0)) 23 true, oo 40 (.pick (.t 23) (.t 39) (.c (.bool false)))]) (.cond (.t 40) (.reg [om 41 11, oo 42 (.ar .add (.t 41) (ci 1)), om 11 42]) .skip)) (.seq (.seq (.drw [om 43 4, op 44 (.mv (.t 0)) [0], op 45 (.mv (.t 3)) [0, 1], op 46 (.mv (.t 10)) [0, 1, 2], op 47 (.ar .add (.t 45) (.t 46)) [0, 1], op 48 (.ias 1 (.t 44) (.t 47)) [0], op 49 (.ld (.t 48)) [0], op 50 (.mv (.t 0)) [0, 1, 2, 3, 4, 5, 6], op 51 (.mv (.t 3)) [0, 1, 2, 3, 4, 5, 6, 7], op 52 (.mv (.t 11)) [0, 1, 2, 3, 4, 5, 6, 7, 8], op 53 (.ar .add (.t 51) (.t 52)) [0, 1, 2, 3, 4, 5, 6, 7], op 54 (.ias 1 (.t 50) (.t 53)) [0, 1, 2, 3, 4, 5, 6], op 55 (.ld (.t 54)) [0, 1, 2, 3, 4, 5, 6], oo 56 (.call (.t 43) [(.t 49), (.t 55)]), oo 57 (.ar .lss (.t 56) (ci 0)), oo 58 (.un .not (.t 57))]) (.cond (.t 58) .ret .skip)) (.seq (.drw [om 59 0, op 60 (.mv (.t 3)) [0], op 61 (.mv (.t 10)) [0, 1], op 62 (.ar .add (.t 60) (.t 61)) [0], op 63 (.mv (.t 0)) [0, 1, 2, 3], op 64 (.mv (.t 3)) [0, 1, 2, 3, 4], op 65 (.mv (.t 11)) [0, 1, 2, 3, 4, 5], op 66 (.ar .add (.t 64) (.t 65)) [0, 1, 2, 3, 4], op 67 (.mv (.t 0)) [0, 1, 2, 3, 4, 5, 6, 7], op 68 (.mv (.t 3)) [0, 1, 2, 3, 4, 5, 6, 7, 8], op 69 (.mv (.t 11)) [0, 1, 2, 3, 4, 5, 6, 7, 8, 9], op 70 (.ar .add (.t 68) (.t 69)) [0, 1, 2, 3, 4, 5, 6, 7, 8], op 71 (.ias 1 (.t 67) (.t 70)) [0, 1, 2, 3, 4, 5, 6, 7], op 72 (.ld (.t 71)) [0, 1, 2, 3, 4, 5, 6, 7], op 73 (.mv (.t 0)) [0, 1, 2, 3, 4, 5, 6, 7, 8, 9, 10, 11, 12, 13], op 74 (.mv (.t 3)) [0, 1, 2, 3, 4, 5, 6, 7, 8, 9, 10, 11, 12, 13, 14], op 75 (.mv (.t 10)) [0, 1, 2, 3, 4, 5, 6, 7, 8, 9, 10, 11, 12, 13, 14, 15], op 76 (.ar .add (.t 74) (.t 75)) [0, 1, 2, 3, 4, 5, 6, 7, 8, 9, 10, 11, 12, 13, 14], op 77 (.ias 1 (.t 73) (.t 76)) [0, 1, 2, 3, 4, 5, 6, 7, 8, 9, 10, 11, 12, 13], op 78 (.ld (.t 77)) [0, 1, 2, 3, 4, 5, 6, 7, 8, 9, 10, 11, 12, 13], op 79 (.ias 1 (.t 59) (.t 62)) [4, 5, 6, 7], ⟨none, (.st 1 (.t 79) (.t 72)), none, [4, 5, 6, 7]⟩, oo 80 (.ias 1 (.t 63) (.t 66)), ⟨none, (.st 1 (.t 80) (.t 78)), none, []⟩]) (.reg [om 81 11, om 10 81])))))))))), 82, [], false, fun _ => none, fun _ _ => none⟩
def c105 : CFn := ⟨(.seq (.reg [oo 2 (.mv (.c (.int .u64 (0))))]) (.seq (.reg [om 3 0, oo 4 (.conv .u64 (.t 3)), oo 5 (cl 91 [(.t 4)]), oo 6 (.sh .shl (.c (.int .u64 (1))) (.t 5)), om 2 6]) .ret)), 7, [(.tmp 2)], false, fun _ => none, fun _ _ => none⟩
def c106 : CFn := ⟨(.seq (.reg [oo 2 (.mv (.c (.int .u64 (0))))]) (.seq (.drw [om 3 0, oo 4 (.chk (.t 3)), oo 5 (.ld (.t 4)), op 6 (.mv (.t 0)) [0, 1, 2], op 7 (.chk (.t 6)) [0, 1, 2], op 8 (.ld (.t 7)) [0, 1, 2], op 9 (.sh .shl (.t 8) (.c (.int .u64 (13)))) [0, 1, 2], oo 10 (.ar .xor (.t 5) (.t 9)), oo 11 (.chk (.t 3)), ⟨none, (.st 1 (.t 11) (.t 10)), none, []⟩]) (.seq (.drw [om 12 0, oo 13 (.chk (.t 12)), oo 14 (.ld (.t 13)), op 15 (.mv (.t 0)) [0, 1, 2], op 16 (.chk (.t 15)) [0, 1, 2], op 17 (.ld (.t 16)) [0, 1, 2], op 18 (.sh .shr (.t 17) (.c (.int .u64 (7)))) [0, 1, 2], oo 19 (.ar .xor (.t 14) (.t 18)), oo 20 (.chk (.t 12)), ⟨none, (.st 1 (.t 20) (.t 19)), none, []⟩]) (.seq (.drw [om 21 0, oo 22 (.chk (.t 21)), oo 23 (.ld (.t 22)), op 24 (.mv (.t 0)) [0, 1, 2], op 25 (.chk (.t 24)) [0, 1, 2], op 26 (.ld (.t 25)) [0, 1, 2], op 27 (.sh .shl (.t 26) (.c (.int .u64 (17)))) [0, 1, 2], oo 28 (.ar .xor (.t 23) (.t 27)), oo 29 (.chk (.t 21)), ⟨none, (.st 1 (.t 29) (.t 28)), none, []⟩]) (.seq (.reg [om 30 0, oo 31 (.chk (.t 30)), oo 32 (.ld (.t 31)), om 2 32]) .ret))))), 33, [(.tmp 2)], false, fun _ => none, fun _ _ => none⟩
def c107 : CFn := ⟨(.seq (.reg [oo 8 (.mv (ci 0))]) (.seq (.reg [om 9 0, om 10 1, oo 11 (.ar .sub (.t 10) (ci 1)), om 12 1, om 13 1, oo 14 (.ar .add (.t 13) (ci 1)), om 15 2, om 16 3, oo 17 (cl 108 [(.t 9), (.t 11), (.t 12), (.t 14), (.t 15), (.t 16)]), om 8 17]) .ret)), 18, [(.tmp 8)], false, fun _ => none, fun _ _ => none⟩
def c108 : CFn := ⟨(.seq (.reg [oo 12 (.mv (ci 0))]) (.seq (.reg [om 14 0, om 15 1, om 16 2, om 17 4, om 18 5, oo 19 (cl 109 [(.t 14), (.t 15), (.t 16), (.t 17), (.t 18)]), om 13 19, oo 20 (.ext 0 (.t 13)), oo 21 (.ext 1 (.t 13)), om 1 20, om 2 21]) (.seq (.reg [om 23 0, om 24 2, om 25 3, om 26 4, om 27 5, oo 28 (cl 109 [(.t 23), (.t 24), (.t 25), (.t 26), (.t 27)]), om 22 28, oo 29 (.ext 0 (.t 22)), oo 30 (.ext 1 (.t 22)), om 2 29, om 3 30]) (.seq (.reg [om 32 0, om 33 1, om 34 2, om 35 4, om 36 5, oo 37 (cl 109 [(.t 32), (.t 33), (.t 34), (.t 35), (.t 36)]), om 31 37, oo 38 (.ext 0 (.t 31)), oo 39 (.ext 1 (.t 31)), om 1 38, om 2 39]) (.seq (.reg [om 40 2, om 12 40]) .ret))))), 41, [(.tmp 12)], false, fun _ => none, fun _ _ => none⟩
def c109 : CFn := ⟨(.seq (.reg [oo 10 (.mv (ci 0)), oo 11 (.mv (ci 0))]) (.seq (.seq (.drw [om 12 4, op 13 (.mv (.t 0)) [0], op 14 (.mv (.t 2)) [0, 1], op 15 (.ias 1 (.t 13) (.t 14)) [0], op 16 (.ld (.t 15)) [0], op 17 (.mv (.t 0)) [0, 1, 2, 3, 4], op 18 (.mv (.t 1)) [0, 1, 2, 3, 4, 5], op 19 (.ias 1 (.t 17) (.t 18)) [0, 1, 2, 3, 4], op 20 (.ld (.t 19)) [0, 1, 2, 3, 4], oo 21 (.call (.t 12) [(.t 16), (.t 20)]), oo 22 (.ar .lss (.t 21) (ci 0))]) (.cond (.t 22) (.seq (.reg [om 23 3, oo 24 (.chk (.t 23)), oo 25 (.ld (.t 24)), oo 26 (.ar .add (.t 25) (ci 1)), oo 27 (.chk (.t 23)), ⟨none, (.st 1 (.t 27) (.t 26)), none, []⟩]) (.seq (.reg [om 28 2, om 29 1, om 10 28, om 11 29]) .ret)) .skip)) (.seq (.reg [om 30 1, om 31 2, om 10 30, om 11 31]) .ret))), 32, [(.tmp 10), (.tmp 11)], false, fun _ => none, fun _ _ => none⟩
def tbl : List (Option CFn) := [none, none, none, some c3, some c4, some c5, some c6, some c7, some c8, some c9, some c10, some c11, some c12, some c13, some c14, some c15, some c16, some c17, some c18, some c19, some c20, some c21, some c22, some c23, some c24, some c25, some c26, some c27, some c28, some c29, some c30, some c31, some c32, some c33, some c34, some c35, some c36, some c37, some c38, some c39, some c40, some c41, some c42, some c43, some c44, some c45, some c46, some c47, some c48, some c49, some c50, some c51, some c52, some c53, some c54, some c55, some c56, some c57, some c58, some c59, some c60, some c61, some c62, some c63, some c64, some c65, some c66, some c67, some c68, some c69, some c70, some c71, some c72, some c73, some c74, some c75, some c76, some c77, some c78, some c79, some c80, some c81, some c82, some c83, some c84, some c85, some c86, some c87, some c88, some c89, some c90, some c91, some c92, some c93, some c94, some c95, some c96, some c97, some c98, some c99, some c100, some c101, some c102, some c103, some c104, some c105, some c106, some c107, some c108, some c109]
def T (f : Nat) : Option CFn := match nth tbl f with
 | some (some c) => some c
 | _ => none
end
end Go.Proofs.YtpebmjeomlgmdaaGreatDoor.Tab
set_option maxRecDepth 1000000
namespace Go.Proofs.YtpebmjeomlgmdaaGreatDoor.Tab
open Go Go.Abs Go.Proofs
noncomputable section
def deBruijn32 : List Int := [0,1,28,2,29,14,24,3,30,22,20,15,25,17,4,8,31,27,13,23,21,19,16,7,26,12,18,6,11,5,10,9]
def deBruijn64 : List Int := [0,1,56,2,57,49,28,3,61,58,42,50,38,29,17,4,62,47,59,36,45,43,51,22,53,39,33,30,24,18,12,5,63,55,48,27,60,41,37,16,46,35,44,21,52,32,23,11,54,26,40,15,34,20,31,10,25,14,19,9,13,8,7,6]
def GG : Nat → Option (List Za)
 | 0 => some (deBruijn32.map fun n => .int .u8 n)
 | 1 => some (deBruijn64.map fun n => .int .u8 n)
 | _ => none
theorem Zh : Tryz.prog.follows .mixedOrders = true := by kernel_rfl
theorem zF {f : Nat} {cf : CFn} {fn : Func} (hf : Tryz.prog.funcs[f]? = some fn) (hb : (match fn.body with | some c => ZW Tryz.prog GG c | none => none) = some (XI cf.body) := by kernel_rfl)
  (hn : (fn.name == "runtime.NumGoroutine") = false := by kernel_rfl) (ht : fn.ntmps = cf.ntmps := by kernel_rfl) (hr : compR Tryz.prog fn.results.toList = some cf.res := by kernel_rfl) (ho : cf.orc = fun _ => none := by rfl) (hf' : cf.eff = fun _ _ => none := by rfl) : ZS Tryz.prog GG f cf := fnOk hf hb hn ht hr ho hf'
theorem ok3 : ZS Tryz.prog GG 3 c3 := zF Tryz.func3
theorem ok4 : ZS Tryz.prog GG 4 c4 := zF Tryz.func4
theorem ok5 : ZS Tryz.prog GG 5 c5 := zF Tryz.func5
theorem ok6 : ZS Tryz.prog GG 6 c6 := zF Tryz.func6
theorem ok7 : ZS Tryz.prog GG 7 c7 := zF Tryz.func7
theorem ok8 : ZS Tryz.prog GG 8 c8 := zF Tryz.func8
theorem ok9 : ZS Tryz.prog GG 9 c9 := zF Tryz.func9
theorem ok10 : ZS Tryz.prog GG 10 c10 := zF Tryz.func10
theorem ok11 : ZS Tryz.prog GG 11 c11 := zF Tryz.func11
theorem ok12 : ZS Tryz.prog GG 12 c12 := zF Tryz.func12
theorem ok13 : ZS Tryz.prog GG 13 c13 := zF Tryz.func13
theorem ok14 : ZS Tryz.prog GG 14 c14 := zF Tryz.func14
theorem ok15 : ZS Tryz.prog GG 15 c15 := zF Tryz.func15
theorem ok16 : ZS Tryz.prog GG 16 c16 := zF Tryz.func16
theorem ok17 : ZS Tryz.prog GG 17 c17 := zF Tryz.func17
theorem ok18 : ZS Tryz.prog GG 18 c18 := zF Tryz.func18
theorem ok19 : ZS Tryz.prog GG 19 c19 := zF Tryz.func19
theorem ok20 : ZS Tryz.prog GG 20 c20 := zF Tryz.func20
theorem ok21 : ZS Tryz.prog GG 21 c21 := zF Tryz.func21
theorem ok22 : ZS Tryz.prog GG 22 c22 := zF Tryz.func22
theorem ok23 : ZS Tryz.prog GG 23 c23 := zF Tryz.func23
theorem ok24 : ZS Tryz.prog GG 24 c24 := zF Tryz.func24
theorem ok25 : ZS Tryz.prog GG 25 c25 := zF Tryz.func25
theorem ok26 : ZS Tryz.prog GG 26 c26 := zF Tryz.func26
theorem ok27 : ZS Tryz.prog GG 27 c27 := zF Tryz.func27
theorem ok28 : ZS Tryz.prog GG 28 c28 := zF Tryz.func28
theorem ok29 : ZS Tryz.prog GG 29 c29 := zF Tryz.func29
theorem ok30 : ZS Tryz.prog GG 30 c30 := zF Tryz.func30
theorem ok31 : ZS Tryz.prog GG 31 c31 := zF Tryz.func31
theorem ok32 : ZS Tryz.prog GG 32 c32 := zF Tryz.func32
theorem ok33 : ZS Tryz.prog GG 33 c33 := zF Tryz.func33
theorem ok34 : ZS Tryz.prog GG 34 c34 := zF Tryz.func34
theorem ok35 : ZS Tryz.prog GG 35 c35 := zF Tryz.func35
theorem ok36 : ZS Tryz.prog GG 36 c36 := zF Tryz.func36
theorem ok37 : ZS Tryz.prog GG 37 c37 := zF Tryz.func37
theorem ok38 : ZS Tryz.prog GG 38 c38 := zF Tryz.func38
theorem ok39 : ZS Tryz.prog GG 39 c39 := zF Tryz.func39
theorem ok40 : ZS Tryz.prog GG 40 c40 := zF Tryz.func40
theorem ok41 : ZS Tryz.prog GG 41 c41 := zF Tryz.func41
theorem ok42 : ZS Tryz.prog GG 42 c42 := zF Tryz.func42
theorem ok43 : ZS Tryz.prog GG 43 c43 := zF Tryz.func43
theorem ok44 : ZS Tryz.prog GG 44 c44 := zF Tryz.func44
theorem ok45 : ZS Tryz.prog GG 45 c45 := zF Tryz.func45
theorem ok46 : ZS Tryz.prog GG 46 c46 := zF Tryz.func46
theorem ok47 : ZS Tryz.prog GG 47 c47 := zF Tryz.func47
theorem ok48 : ZS Tryz.prog GG 48 c48 := zF Tryz.func48
theorem ok49 : ZS Tryz.prog GG 49 c49 := zF Tryz.func49
theorem ok50 : ZS Tryz.prog GG 50 c50 := zF Tryz.func50
theorem ok51 : ZS Tryz.prog GG 51 c51 := zF Tryz.func51
theorem ok52 : ZS Tryz.prog GG 52 c52 := zF Tryz.func52
theorem ok53 : ZS Tryz.prog GG 53 c53 := zF Tryz.func53
theorem ok54 : ZS Tryz.prog GG 54 c54 := zF Tryz.func54
theorem ok55 : ZS Tryz.prog GG 55 c55 := zF Tryz.func55
theorem ok56 : ZS Tryz.prog GG 56 c56 := zF Tryz.func56
theorem ok57 : ZS Tryz.prog GG 57 c57 := zF Tryz.func57
theorem ok58 : ZS Tryz.prog GG 58 c58 := zF Tryz.func58
theorem ok59 : ZS Tryz.prog GG 59 c59 := zF Tryz.func59
theorem ok60 : ZS Tryz.prog GG 60 c60 := zF Tryz.func60
theorem ok61 : ZS Tryz.prog GG 61 c61 := zF Tryz.func61
theorem ok62 : ZS Tryz.prog GG 62 c62 := zF Tryz.func62
theorem ok63 : ZS Tryz.prog GG 63 c63 := zF Tryz.func63
theorem ok64 : ZS Tryz.prog GG 64 c64 := zF Tryz.func64
theorem ok65 : ZS Tryz.prog GG 65 c65 := zF Tryz.func65
theorem ok66 : ZS Tryz.prog GG 66 c66 := zF Tryz.func66
theorem ok67 : ZS Tryz.prog GG 67 c67 := zF Tryz.func67
theorem ok68 : ZS Tryz.prog GG 68 c68 := zF Tryz.func68
theorem ok69 : ZS Tryz.prog GG 69 c69 := zF Tryz.func69
theorem ok70 : ZS Tryz.prog GG 70 c70 := zF Tryz.func70
theorem ok71 : ZS Tryz.prog GG 71 c71 := zF Tryz.func71
theorem ok72 : ZS Tryz.prog GG 72 c72 := zF Tryz.func72
theorem ok73 : ZS Tryz.prog GG 73 c73 := zF Tryz.func73
theorem ok74 : ZS Tryz.prog GG 74 c74 := zF Tryz.func74
theorem ok75 : ZS Tryz.prog GG 75 c75 := zF Tryz.func75
theorem ok76 : ZS Tryz.prog GG 76 c76 := zF Tryz.func76
theorem ok77 : ZS Tryz.prog GG 77 c77 := zF Tryz.func77
theorem ok78 : ZS Tryz.prog GG 78 c78 := zF Tryz.func78
theorem ok79 : ZS Tryz.prog GG 79 c79 := zF Tryz.func79
theorem ok80 : ZS Tryz.prog GG 80 c80 := zF Tryz.func80
theorem ok81 : ZS Tryz.prog GG 81 c81 := zF Tryz.func81
theorem ok82 : ZS Tryz.prog GG 82 c82 := zF Tryz.func82
theorem ok83 : ZS Tryz.prog GG 83 c83 := zF Tryz.func83
theorem ok84 : ZS Tryz.prog GG 84 c84 := zF Tryz.func84
theorem ok85 : ZS Tryz.prog GG 85 c85 := zF Tryz.func85
theorem ok86 : ZS Tryz.prog GG 86 c86 := zF Tryz.func86
theorem ok87 : ZS Tryz.prog GG 87 c87 := zF Tryz.func87
theorem ok88 : ZS Tryz.prog GG 88 c88 := zF Tryz.func88
theorem ok89 : ZS Tryz.prog GG 89 c89 := zF Tryz.func89
theorem ok90 : ZS Tryz.prog GG 90 c90 := zF Tryz.func90
theorem ok91 : ZS Tryz.prog GG 91 c91 := zF Tryz.func91
theorem ok92 : ZS Tryz.prog GG 92 c92 := zF Tryz.func92
theorem ok93 : ZS Tryz.prog GG 93 c93 := zF Tryz.func93
theorem ok94 : ZS Tryz.prog GG 94 c94 := zF Tryz.func94
theorem ok95 : ZS Tryz.prog GG 95 c95 := zF Tryz.func95
theorem ok96 : ZS Tryz.prog GG 96 c96 := zF Tryz.func96
theorem ok97 : ZS Tryz.prog GG 97 c97 := zF Tryz.func97
theorem ok98 : ZS Tryz.prog GG 98 c98 := zF Tryz.func98
theorem ok99 : ZS Tryz.prog GG 99 c99 := zF Tryz.func99
theorem ok100 : ZS Tryz.prog GG 100 c100 := zF Tryz.func100
theorem ok101 : ZS Tryz.prog GG 101 c101 := zF Tryz.func101
theorem ok102 : ZS Tryz.prog GG 102 c102 := zF Tryz.func102
theorem ok103 : ZS Tryz.prog GG 103 c103 := zF Tryz.func103
theorem ok104 : ZS Tryz.prog GG 104 c104 := zF Tryz.func104
theorem ok105 : ZS Tryz.prog GG 105 c105 := zF Tryz.func105
theorem ok106 : ZS Tryz.prog GG 106 c106 := zF Tryz.func106
theorem ok107 : ZS Tryz.prog GG 107 c107 := zF Tryz.func107
theorem ok108 : ZS Tryz.prog GG 108 c108 := zF Tryz.func108
theorem ok109 : ZS Tryz.prog GG 109 c109 := zF Tryz.func109
theorem allOk : AllOk Tryz.prog GG 0 tbl := ⟨ok3, ok4, ok5, ok6, ok7, ok8, ok9, ok10, ok11, ok12, ok13, ok14, ok15, ok16, ok17, ok18, ok19, ok20, ok21, ok22, ok23, ok24, ok25, ok26, ok27, ok28, ok29, ok30, ok31, ok32, ok33, ok34, ok35, ok36, ok37, ok38, ok39, ok40, ok41, ok42, ok43, ok44, ok45, ok46, ok47, ok48, ok49, ok50, ok51, ok52, ok53, ok54, ok55, ok56, ok57, ok58, ok59, ok60, ok61, ok62, ok63, ok64, ok65, ok66, ok67, ok68, ok69, ok70, ok71, ok72, ok73, ok74, ok75, ok76, ok77, ok78, ok79, ok80, ok81, ok82, ok83, ok84, ok85, ok86, ok87, ok88, ok89, ok90, ok91, ok92, ok93, ok94, ok95, ok96, ok97, ok98, ok99, ok100, ok101, ok102, ok103, ok104, ok105, ok106, ok107, ok108, ok109, trivial⟩
theorem tabOk : ZB Tryz.prog GG T := tabOk_all tbl (fun _ => rfl) allOk
end
end Go.Proofs.YtpebmjeomlgmdaaGreatDoor.Tab
namespace Go.Abs
open Go
section
variable {P : Program} {T : Nat → Option CFn} {ex ex' : Option Nat → CC → St → Option (AEx × St)}
abbrev Ext (ex ex' : Option Nat → CC → St → Option (AEx × St)) : Prop := ∀ r c σ x, ex r c σ = some x → ex' r c σ = some x
theorem callF_mono (hx : Ext ex ex') {f : Nat} {args : List Za} {h : Zj} {x : Za × Zj} (hc : YH T ex f args h = some x) : YH T ex' f args h = some x := by
 unfold YH at *
 cases hT : T f with
 | none => simp [hT] at hc
 | some fn =>
 simp only [hT, ZM] at hc ⊢
 cases ho : orcF fn args h with
 | some v1 => simp only [ho] at hc ⊢; exact hc
 | none =>
 simp only [ho] at hc ⊢
 cases he : fn.eff args h with
 | some r => simp only [he] at hc ⊢; exact hc
 | none =>
 simp only [he] at hc ⊢
 rw [fL_eq _ (fun _ _ => rfl)] at hc ⊢
 cases h1 : ex none fn.body ⟨args ++ List.replicate (fn.ntmps - args.length) .und, h⟩ with
 | none => simp [h1] at hc
 | some p => rw [h1] at hc; rw [hx _ _ _ _ h1]; exact hc
theorem yieldF_mono (hx : Ext ex ex') {i : Nat} {args : List Za} {h : Zj} {x : Za × Zj} (hc : yieldF ex i args h = some x) : yieldF ex' i args h = some x := by
 unfold yieldF at *
 split at hc
 ·split at hc
  ·rename_i t ps asg bd pd hi hl
   rw [if_pos hl]
   rw [setAllK_eq] at hc ⊢
   cases h1 : ex (some i) asg ⟨setAll t (ps.zip args), h⟩ with
   | none => simp [h1] at hc
   | some p =>
   rw [h1] at hc; rw [hx _ _ _ _ h1]
   obtain ⟨e, σ⟩ := p
   cases e with
   | exit j => exact hc
   | ret => exact hc
   | normal =>
    simp only at hc ⊢
    split at hc
    ·rename_i t1 ps1 as1 bd1 pd1 hi1
     rw [ZA] at hc ⊢
     cases h2 : ex (some i) bd ⟨σ.t, σ.h.set i (some (.loop t1 ps1 as1 bd1 .busy pd1))⟩ with
     | none => simp [h2] at hc
     | some q => rw [h2] at hc; rw [hx _ _ _ _ h2]; exact hc
    ·simp at hc
  ·simp at hc
 ·simp at hc
theorem loud_mono (hx : Ext ex ex') {t : List Za} {h : Zj} {o : COp} {x : Za × Zj} (hc : Yk T ex t h o = some x) : Yk T ex' t h o = some x := by
 unfold Yk Ya at *
 cases h1 : lop t h o with
 | some r => rw [h1] at hc; exact hc
 | none =>
  rw [h1] at hc
  simp only at hc ⊢
  cases h2 : Zq t o with
  | none => rw [h2] at hc; simp at hc
  | some c =>
   rw [h2] at hc
   cases c with
   | fn f args => exact callF_mono hx hc
   | yld i args => exact yieldF_mono hx hc
theorem stepX_mono (hx : Ext ex ex') {o : CO} {σ : St} {x : St} (hc : Xm P T ex o σ = some x) : Xm P T ex' o σ = some x := by
 unfold Xm at *
 split at hc
 ·simp at hc
 ·exact hc
 ·split at hc
  ·exact hc
  ·exact hc
  ·split at hc
   ·rename_i v h' hl; rw [loud_mono hx hl]; exact hc
   ·simp at hc
theorem runX_mono (hx : Ext ex ex') : ∀ (l : List CO) (σ : St) {x : St}, runX P T ex l σ = some x → runX P T ex' l σ = some x
 | [], _, _, h => h
 | o :: l, σ, x, h => by
  rw [ZT] at h ⊢
  split at h
  ·rename_i σ1 h1; rw [stepX_mono hx h1]; exact runX_mono hx l σ1 h
  ·simp at h
theorem actD_mono (hx : Ext ex ex') {base n j : Nat} {o : CO} {t : List Za} {h : Zj} {x : Za × List Nat × List Nat × Zj} (hc : XR P T ex base n j o t h = some x) : XR P T ex' base n j o t h = some x := by
 unfold XR at *
 split at hc
 ·simp at hc
 ·exact hc
 ·split at hc
  ·exact hc
  ·exact hc
  ·split at hc
   ·rename_i v h' hl; rw [loud_mono hx hl]; exact hc
   ·simp at hc
theorem stepD_mono (hx : Ext ex ex') {base n j : Nat} {o : CO} {D : DSt} {x : DSt} (hc : YP P T ex base n j o D = some x) : YP P T ex' base n j o D = some x := by
 rw [stepD_eq] at *
 split at hc
 ·rename_i v rd wr h ha; rw [actD_mono hx ha]; exact hc
 ·simp at hc
theorem runD_mono (hx : Ext ex ex') {base n : Nat} : ∀ (l : List CO) (j : Nat) (D : DSt) {x : DSt}, runD P T ex base n l j D = some x → runD P T ex' base n l j D = some x
 | [], _, _, _, h => h
 | o :: l, j, D, x, h => by
  have e : ∀ ex, runD P T ex base n (o :: l) j D = match YP P T ex base n j o D with | some D' => runD P T ex base n l (j + 1) D' | none => none := fun _ => rfl
  rw [e] at h ⊢
  split at h
  ·rename_i D1 h1; rw [stepD_mono hx h1]; exact runD_mono hx l (j + 1) D1 h
  ·simp at h
theorem exec1_mono (hx : Ext ex ex') {r : Option Nat} {c : CC} {σ : St} {x : AEx × St} (h : YE P T ex r c σ = some x) : YE P T ex' r c σ = some x := by
 cases c with
 | skip => exact h
 | ret => exact h
 | exit id => exact h
 | reg l =>
  simp only [YE] at h ⊢
  cases h1 : runX P T ex l σ with
  | none => simp [h1] at h
  | some s => rw [h1] at h; rw [runX_mono hx l σ h1]; exact h
 | drw l =>
  simp only [YE, ZM, Yt] at h ⊢
  cases h1 : runD P T ex σ.h.length l.length l 0 ⟨σ.t, σ.h ++ List.replicate l.length none, List.replicate l.length none⟩ with
  | none => simp [h1] at h
  | some s => rw [h1] at h; rw [runD_mono hx l 0 _ h1]; exact h
 | seq a b =>
  simp only [YE] at h ⊢
  cases h1 : ex r a σ with
  | none => simp [h1] at h
  | some p =>
   rw [h1] at h; rw [hx _ _ _ _ h1]
   obtain ⟨e, s⟩ := p
   cases e with
   | normal => exact hx _ _ _ _ h
   | _ => exact h
 | cond c a b =>
  simp only [YE] at h ⊢
  split at h
  ·exact hx _ _ _ _ h
  ·exact hx _ _ _ _ h
  ·simp at h
 | block id a =>
  simp only [YE] at h ⊢
  cases h1 : ex r a σ with
  | none => simp [h1] at h
  | some p => rw [h1] at h; rw [hx _ _ _ _ h1]; exact h
 | loop keep a =>
  simp only [YE, XN] at h ⊢
  cases h1 : ex r a ⟨Xj σ.t keep, σ.h⟩ with
  | none => simp [h1] at h
  | some p =>
   rw [h1] at h; rw [hx _ _ _ _ h1]
   obtain ⟨e, s⟩ := p
   cases e with
   | normal =>
    simp only [XN, Yt, trimK_eq] at h ⊢
    exact hx _ _ _ _ h
   | _ => exact h
 | loopG keep gs a =>
  simp only [YE, XN] at h ⊢
  split at h
  ·exact hx _ _ _ _ h
  ·simp at h
 | loopN base keep gs a =>
  simp only [YE] at h ⊢
  cases h1 : ex r a σ with
  | none => simp [h1] at h
  | some p =>
   rw [h1] at h; rw [hx _ _ _ _ h1]
   obtain ⟨e, s⟩ := p
   cases e with
   | normal =>
    simp only [XN] at h ⊢
    split at h
    ·exact hx _ _ _ _ h
    ·simp at h
   | _ => exact h
 | kil keep a =>
  simp only [YE] at h ⊢
  cases h1 : ex r a σ with
  | none => simp [h1] at h
  | some p => rw [h1] at h; rw [hx _ _ _ _ h1]; exact h
 | frS ss a =>
  simp only [YE] at h ⊢
  cases h1 : ex r a σ with
  | none => simp [h1] at h
  | some p => rw [h1] at h; rw [hx _ _ _ _ h1]; exact h
 | rf g ps asg bd =>
  simp only [YE] at h ⊢
  split at h
  ·simp only [Yt, ZM] at h ⊢
   split at h
   ·rename_i h2 hc
    rw [callF_mono hx hc]
    simp only
    split at h
    ·split at h
     ·simp at h
     ·rename_i hst
      rw [if_neg hst]
      split at h
      ·exact h
      ·rw [ZA] at h ⊢; exact hx _ _ _ _ h
    ·simp at h
   ·simp at h
  ·simp at h
theorem exec_mono1 : ∀ n, Ext (exec P T n) (exec P T (n + 1))
 | 0 => fun _ _ _ _ h => by simp [exec] at h
 | n + 1 => fun _ _ _ _ h => exec1_mono (exec_mono1 n) h
theorem XK {n m : Nat} (h : n ≤ m) : Ext (exec P T n) (exec P T m) := by
  induction m with
  | zero => have : n = 0 := by omega
            subst this; exact fun _ _ _ _ h => h
  | succ m ih =>
    by_cases e : n = m + 1
    · subst e; exact fun _ _ _ _ h => h
    · exact fun r c σ x hx => exec_mono1 m r c σ x (ih (by omega) r c σ x hx)
end
end Go.Abs
namespace Go.Abs
open Go
section
variable (P : Program) (T : Nat → Option CFn)
def Runs (r : Option Nat) (c : CC) (σ : St) (Q : AEx → St → Prop) : Prop := ∃ n e σ', exec P T n r c σ = some (e, σ') ∧ Q e σ'
def Zr (f : Nat) (args : List Za) (h : Zj) (Q : Za → Zj → Prop) : Prop := ∃ n v h', YH T (exec P T n) f args h = some (v, h') ∧ Q v h'
def Ops (l : List CO) (σ : St) (Q : St → Prop) : Prop := ∃ n σ', runX P T (exec P T n) l σ = some σ' ∧ Q σ'
end
def zT (Q : AEx → St → Prop) (K : St → Prop) : AEx → St → Prop
 | .normal, σ => K σ
 | e, σ => Q e σ
def zB (id : Nat) (Q : AEx → St → Prop) : AEx → St → Prop
 | .exit j, σ => if j = id then Q .normal σ else Q (.exit j) σ
 | e, σ => Q e σ
section
variable {P : Program} {G : Nat → Option (List Za)} {T : Nat → Option CFn} {r : Option Nat} {a b : CC} {σ : St} {Q Q' : AEx → St → Prop} {h : Zj} {t : List Za}
theorem Xd (n : Nat) : exec P T (n + 1) = YE P T (exec P T n) := rfl
theorem Runs.mono {c : CC} (hr : Runs P T r c σ Q) (hq : ∀ e σ, Q e σ → Q' e σ) : Runs P T r c σ Q' := let ⟨n, e, σ', h1, h2⟩ := hr; ⟨n, e, σ', h1, hq _ _ h2⟩
theorem Zr.mono {f : Nat} {args : List Za} {Q Q' : Za → Zj → Prop} (hr : Zr P T f args h Q) (hq : ∀ v h, Q v h → Q' v h) : Zr P T f args h Q' := let ⟨n, e, σ', h1, h2⟩ := hr; ⟨n, e, σ', h1, hq _ _ h2⟩
theorem zK (hq : Q .normal σ) : Runs P T r .skip σ Q := ⟨1, _, _, rfl, hq⟩
theorem Zg (hq : Q .ret σ) : Runs P T r .ret σ Q := ⟨1, _, _, rfl, hq⟩
theorem ZI {id : Nat} (hq : Q (.exit id) σ) : Runs P T r (.exit id) σ Q := ⟨1, _, _, rfl, hq⟩
theorem zS (h : Runs P T r a σ (zT Q fun σ' => Runs P T r b σ' Q)) : Runs P T r (.seq a b) σ Q := by
 obtain ⟨n, e, σ1, h1, h2⟩ := h
 cases e with
 | normal =>
  obtain ⟨m, e, σ2, h3, h4⟩ := h2
  refine ⟨max n m + 1, e, σ2, ?_, h4⟩
  rw [Xd]
  simp only [YE]
  rw [XK (Nat.le_max_left n m) _ _ _ _ h1]
  exact XK (Nat.le_max_right n m) _ _ _ _ h3
 | exit id =>
  refine ⟨n + 1, _, σ1, ?_, h2⟩
  rw [Xd]; simp only [YE]; rw [h1]
 | ret =>
  refine ⟨n + 1, _, σ1, ?_, h2⟩
  rw [Xd]; simp only [YE]; rw [h1]
theorem Zi {c : CV} {x : Bool} (hc : c.ev σ.t = some (.bool x)) (h : Runs P T r (if x then a else b) σ Q) : Runs P T r (.cond c a b) σ Q := by
 obtain ⟨n, e, σ1, h1, h2⟩ := h
 refine ⟨n + 1, e, σ1, ?_, h2⟩
 rw [Xd]; simp only [YE, hc]
 cases x <;> exact h1
theorem Zk {c : CV} {x : Bool} (hc : c.ev σ.t = some (.bool x)) (ht : x = true → Runs P T r a σ Q) (hf : x = false → Runs P T r b σ Q) : Runs P T r (.cond c a b) σ Q :=
 Zi hc (by cases x <;> simp_all)
theorem zL {id : Nat} (h : Runs P T r a σ (zB id Q)) : Runs P T r (.block id a) σ Q := by
 obtain ⟨n, e, σ1, h1, h2⟩ := h
 cases e with
 | normal => exact ⟨n + 1, _, σ1, by rw [Xd]; simp only [YE]; rw [h1], h2⟩
 | ret => exact ⟨n + 1, _, σ1, by rw [Xd]; simp only [YE]; rw [h1], h2⟩
 | exit j =>
  simp only [zB] at h2
  by_cases e : j = id
  ·rw [if_pos e] at h2
   exact ⟨n + 1, .normal, σ1, by rw [Xd]; simp only [YE]; rw [h1]; simp [e], h2⟩
  ·rw [if_neg e] at h2
   exact ⟨n + 1, .exit j, σ1, by rw [Xd]; simp only [YE]; rw [h1]; simp [e], h2⟩
theorem kill_kill : ∀ (t : List Za) (m : Nat), Xj (Xj t m) m = Xj t m
 | [], _ => rfl
 | x :: xs, m => by simp only [Xj, kill_kill xs]; split <;> rfl
theorem runs_loop {keep : Nat} (h : Runs P T r a ⟨Xj σ.t keep, σ.h⟩ (zT Q fun σ' => Runs P T r (.loop keep a) ⟨Xj σ'.t keep, trim σ.h.length (Xj σ'.t keep) σ'.h⟩ Q)) : Runs P T r (.loop keep a) σ Q := by
 obtain ⟨n, e, σ1, h1, h2⟩ := h
 cases e with
 | normal =>
  obtain ⟨m, e, σ2, h3, h4⟩ := h2
  refine ⟨max n m + 1, e, σ2, ?_, h4⟩
  rw [Xd]
  simp only [YE, XN, Yt, trimK_eq]
  rw [XK (Nat.le_max_left n m) _ _ _ _ h1]
  exact XK (Nat.le_max_right n m) _ _ _ _ h3
 | exit id => exact ⟨n + 1, _, σ1, by rw [Xd]; simp only [YE, XN]; rw [h1], h2⟩
 | ret => exact ⟨n + 1, _, σ1, by rw [Xd]; simp only [YE, XN]; rw [h1], h2⟩
theorem ZL {keep : Nat} (I : Nat → St → Prop) (step : ∀ k σ, I k σ → Runs P T r a σ (zT Q fun σ' => ∃ k', k' < k ∧ I k' ⟨Xj σ'.t keep, trim σ.h.length (Xj σ'.t keep) σ'.h⟩)) :
  ∀ k σ, I k ⟨Xj σ.t keep, σ.h⟩ → Runs P T r (.loop keep a) σ Q := by
 intro k
 induction k using Nat.strongRecOn with
 | _ k ih =>
  intro σ hI
  refine runs_loop ((step k _ hI).mono fun e σ' hq => ?_)
  cases e with
  | normal => obtain ⟨k', hk, hI'⟩ := hq; refine ih k' hk _ ?_; rw [kill_kill]; exact hI'
  | _ => exact hq
theorem runs_loopN_inv {base keep : Nat} {gs : List GL} (I : Nat → St → Prop) (step : ∀ k σ, I k σ → Runs P T r a σ (zT Q fun σ' => ∃ k' t h, k' < k ∧ gather base gs (Xj σ'.t keep) σ'.h = some (t, h) ∧ I k' ⟨t, h⟩)) :
  ∀ k σ, I k σ → Runs P T r (.loopN base keep gs a) σ Q := by
 intro k
 induction k using Nat.strongRecOn with
 | _ k ih =>
  intro σ hI
  obtain ⟨n, e, σ1, h1, h2⟩ := step k σ hI
  cases e with
  | normal =>
   obtain ⟨k', t, h, hk, hg, hI'⟩ := h2
   obtain ⟨m, e, σ2, h3, h4⟩ := ih k' hk _ hI'
   refine ⟨max n m + 1, e, σ2, ?_, h4⟩
   rw [Xd]
   simp only [YE]
   rw [XK (Nat.le_max_left n m) _ _ _ _ h1]
   simp only [XN, hg]
   exact XK (Nat.le_max_right n m) _ _ _ _ h3
  | exit id => exact ⟨n + 1, _, σ1, by rw [Xd]; simp only [YE]; rw [h1], h2⟩
  | ret => exact ⟨n + 1, _, σ1, by rw [Xd]; simp only [YE]; rw [h1], h2⟩
theorem runs_loopG_inv {keep : Nat} {gs : List GL} (I : Nat → St → Prop) {k : Nat} {t : List Za} {h : Zj} (hg : gather σ.h.length gs (Xj σ.t keep) σ.h = some (t, h)) (h0 : I k ⟨t, h⟩)
  (step : ∀ k σ', I k σ' → Runs P T r a σ' (zT Q fun σ'' => ∃ k' t h, k' < k ∧ gather σ.h.length gs (Xj σ''.t keep) σ''.h = some (t, h) ∧ I k' ⟨t, h⟩)) : Runs P T r (.loopG keep gs a) σ Q := by
 obtain ⟨n, e, σ1, h1, h2⟩ := runs_loopN_inv (base := σ.h.length) (keep := keep) (gs := gs) I step k _ h0
 exact ⟨n + 1, e, σ1, by rw [Xd]; simp only [YE, XN, hg]; exact h1, h2⟩
theorem zR {l : List CO} (h : Ops P T l σ (Q .normal)) : Runs P T r (.reg l) σ Q := by
 obtain ⟨n, σ1, h1, h2⟩ := h
 exact ⟨n + 1, _, σ1, by rw [Xd]; simp only [YE]; rw [h1], h2⟩
theorem ops_nil {Q : St → Prop} (hq : Q σ) : Ops P T [] σ Q := ⟨0, _, rfl, hq⟩
theorem Yo {o : CO} {l : List CO} {Q : St → Prop} (n : Nat) {σ1 : St} (h : Xm P T (exec P T n) o σ = some σ1) (hl : Ops P T l σ1 Q) : Ops P T (o :: l) σ Q := by
 obtain ⟨m, σ2, h1, h2⟩ := hl
 refine ⟨max n m, σ2, ?_, h2⟩
 rw [ZT, stepX_mono (XK (Nat.le_max_left n m)) h]
 exact runX_mono (XK (Nat.le_max_right n m)) l σ1 h1
theorem ops_call {o : CO} {l : List CO} {f : Nat} {args : List Za} {Q : St → Prop} (hw : Yf σ.t o.g = some true) (hd : dop P σ.t σ.h o.op = none) (hp : lop σ.t σ.h o.op = none) (hc : Zq σ.t o.op = some (.fn f args))
  (h : Zr P T f args σ.h fun v h' => Ops P T l ⟨Xy σ.t o.dst v, h'⟩ Q) : Ops P T (o :: l) σ Q := by
 obtain ⟨n, v, h', h1, h2⟩ := h
 refine Yo n (σ1 := ⟨Xy σ.t o.dst v, h'⟩) ?_ h2
 simp only [Xm, hw, hd, Yk, hp, Ya, hc, h1, Ys]
theorem zO {l : List CO} {Q : St → Prop} {σ1 : St} (h : runX P T (fun _ _ _ => none) l σ = some σ1) (hq : Q σ1) : Ops P T l σ Q :=
 ⟨0, σ1, h, hq⟩
theorem Zl {f : Nat} {cf : CFn} {args : List Za} {Q : Za → Zj → Prop} (hT : T f = some cf) (ho : orcF cf args h = none)
  (hb : Runs P T none cf.body ⟨args ++ List.replicate (cf.ntmps - args.length) .und, h⟩ fun e σ => (∀ id, e ≠ .exit id) ∧ ∃ vs, resA σ.t σ.h cf.res = some vs ∧ Q (XS vs) (trim h.length [XS vs] σ.h)) (he : cf.eff args h = none := by rfl) : Zr P T f args h Q := by
 obtain ⟨n, e, σ1, h1, h2, vs, h3, h4⟩ := hb
 refine ⟨n, _, _, ?_, h4⟩
 unfold YH
 simp only [hT, ho, he, ZM]
 rw [fL_eq _ (fun _ _ => rfl), h1]
 cases e with
 | exit id => exact absurd rfl (h2 id)
 | normal => simp only [h3, Xa, Yt, trimK_eq]
 | ret => simp only [h3, Xa, Yt, trimK_eq]
theorem answers_good (hm : P.follows .mixedOrders = true) (hT : ZB P G T) {f : Nat} {args : List Za} {Q : Za → Zj → Prop} (ha : Zr P T f args h Q) : ∃ v h', Q v h' ∧ Xl P G f args h v h' := by
 obtain ⟨n, v, h', h1, h2⟩ := ha
 exact ⟨v, h', h2, call_sound hm hT n f args h v h' h1⟩
end
end Go.Abs
namespace Go.Abs
open Go
section
variable {P : Program} {G : Nat → Option (List Za)} {T : Nat → Option CFn} {E E' : Env} {h h' : Zj} {w w' : World}
theorem orc_of (hm : P.follows .mixedOrders = true) (hT : ZB P G T) {f : Nat} {args : List Za} {fr : Bool} {v : Za} (ha : Zr P T f args [] fun v' h' => frz fr h' 5 v' = some v) : OrcGood P G fr f args v := by
 obtain ⟨v', h', hv, hg⟩ := answers_good hm hT ha
 intro E w cargs k hD hO hr hl
 refine CallsIn.mono (hg E w cargs k hr hl) ?_
 rintro e w' ⟨u, E', rfl, hle, hr', hu, _, _⟩
 have hO' : ∀ b, E'.O b → w.heap.size ≤ b := fun b hb => Nat.le_of_not_lt fun h => (hle.old b h (hO b)).2.1 hb
 refine ⟨u, fun b => b < w'.heap.size ∧ (w.heap.size ≤ b ∨ (fr = false ∧ E.I b)), rfl, hle.os, hle.tape, hle.output, hle.size, fun b hb => (hle.old b hb (hO b)).1, fun b hb => hb, ?_⟩
 refine frz_ok hr' (fun i b hi => ?_) (fun hf b hb => ?_) 5 hu hv
 ·obtain ⟨_, h2, h3, _⟩ := hr'.blk i b hi
  exact ⟨h3, .inl (hO' _ h2)⟩
 ·refine ⟨(hr'.imm b hb).1, ?_⟩
  by_cases h : b < w.heap.size
  ·exact .inr ⟨hf, (hle.old b h (hO b)).2.2 hb⟩
  ·exact .inl (by omega)
end
end Go.Abs
namespace Go.Abs
open Go
inductive Ly where
 | int (k : IntKind)
 | bool
 | sl (e : List Ly)
def layFs (P : Program) (lay : TypeId → Option (List Ly)) : Nat → List Field → Option (List Ly)
 | _, [] => some []
 | o, f :: fs => if f.offset = o then match lay f.type with
  | some l => if l.length = P.cellsOf f.type then match layFs P lay (o + l.length) fs with
    | some r => some (l ++ r)
    | none => none
   else none
  | none => none
 else none
def layOf (P : Program) : Nat → TypeId → Option (List Ly)
 | 0, _ => none
 | d + 1, t => match P.underlying t with
  | some .bool => some [.bool]
  | some (.int k) => some [.int k]
  | some (.struct fs) => match layFs P (layOf P d) 0 fs.toList with
   | some l => if l.length = P.cellsOf t then some l else none
   | none => none
  | some (.slice e) => match layOf P d e with
   | some l => if l.length = P.cellsOf e ∧ l ≠ [] then some [.sl l] else none
   | none => none
  | some (.array n e) => match layOf P d e with
   | some l => if l.length = P.cellsOf e ∧ n * l.length = P.cellsOf t then some (List.replicate n l).flatten else none
   | none => none
  | _ => none
inductive Fits : Ly → Za → Prop
 | int (k : IntKind) (n : Int) (h : (Lit.int k n).wf = true) : Fits (.int k) (.int k n)
 | bool (b : Bool) : Fits .bool (.bool b)
 | nils (e : List Ly) : Fits (.sl e) .nils
 | vl (e : List Ly) (rs : List (List Za)) (t : Bool) (hl : ∀ r ∈ rs, r.length = e.length) (h : ∀ (i : Nat) (r : List Za), rs[i]? = some r → ∀ (j : Nat) (x : Za) (l : Ly), r[j]? = some x → e[j]? = some l → Fits l x) : Fits (.sl e) (.vl rs t)
def FitsR (L : List Ly) (xs : List Za) : Prop := xs.length = L.length ∧ ∀ (j : Nat) (x : Za) (l : Ly), xs[j]? = some x → L[j]? = some l → Fits l x
def RowR (ρ : Nat → Loc) (w : World) (xs : List Za) (cs : List Value) : Prop := xs.length = cs.length ∧ ∀ (j : Nat) (x : Za) (c : Value), xs[j]? = some x → cs[j]? = some c → Abs.VR ρ (fun b => b < w.heap.size) w (fun _ => False) x c
theorem rowR_app {ρ : Nat → Loc} {w : World} {xs ys : List Za} {cs ds : List Value} (h1 : RowR ρ w xs cs) (h2 : RowR ρ w ys ds) : RowR ρ w (xs ++ ys) (cs ++ ds) := by
 refine ⟨by simp [h1.1, h2.1], fun j x c hx hc => ?_⟩
 by_cases hj : j < xs.length
 ·rw [List.getElem?_append_left hj] at hx
  rw [List.getElem?_append_left (h1.1 ▸ hj)] at hc
  exact h1.2 j x c hx hc
 ·rw [List.getElem?_append_right (by omega)] at hx
  rw [List.getElem?_append_right (by rw [← h1.1]; omega), ← h1.1] at hc
  exact h2.2 _ x c hx hc
theorem fitsR_app {L M : List Ly} {xs ys : List Za} (h1 : FitsR L xs) (h2 : FitsR M ys) : FitsR (L ++ M) (xs ++ ys) := by
 refine ⟨by simp [h1.1, h2.1], fun j x c hx hc => ?_⟩
 by_cases hj : j < xs.length
 ·rw [List.getElem?_append_left hj] at hx
  rw [List.getElem?_append_left (h1.1 ▸ hj)] at hc
  exact h1.2 j x c hx hc
 ·rw [List.getElem?_append_right (by omega)] at hx
  rw [List.getElem?_append_right (by rw [← h1.1]; omega), ← h1.1] at hc
  exact h2.2 _ x c hx hc
theorem mapM_some {α β : Type} {f : α → Option β} : ∀ {l : List α} {ys : List β}, l.mapM f = some ys → ys.length = l.length ∧ ∀ (j : Nat) (a : α), l[j]? = some a → ∃ y, ys[j]? = some y ∧ f a = some y
 | [], ys, h => by simp at h; subst h; exact ⟨rfl, fun j a h => by simp at h⟩
 | x :: l, ys, h => by
  rw [List.mapM_cons] at h
  cases hx : f x with
  | none => simp [hx] at h
  | some y =>
  cases hl : l.mapM f with
  | none => simp [hx, hl] at h
  | some zs =>
   simp [hx, hl] at h
   subst h
   obtain ⟨g1, g2⟩ := mapM_some hl
   refine ⟨by simp [g1], fun j a hj => ?_⟩
   cases j with
   | zero => simp at hj; subst hj; exact ⟨y, rfl, hx⟩
   | succ j => exact g2 j a (by simpa using hj)
section
variable {H : Type} {enc : TypeId × Value → H} {P : Program} {w : World} {held : Bool} {ρ : Nat → Loc}
theorem fields_ok {lay : TypeId → Option (List Ly)} {fuel : Nat} (ih : ∀ t L cs x, lay t = some L → DataW.trod enc P w 0 (fun _ => true) held fuel t cs = some x → ∃ xs, RowR ρ w xs cs ∧ FitsR L xs) :
  ∀ (fs : List Field) (o : Nat) (L : List Ly) (cs : List Value) (ys : List (DataW H × List MemPlace)), layFs P lay o fs = some L →
   (fs.mapM fun f => DataW.trod enc P w 0 (fun _ => true) held fuel f.type ((cs.drop f.offset).take (P.cellsOf f.type))) = some ys → cs.length = o + L.length → ∃ xs, RowR ρ w xs (cs.drop o) ∧ FitsR L xs
 | [], o, L, cs, ys, hL, hm, hc => by
  simp [layFs] at hL; subst hL
  refine ⟨[], ⟨by simp at hc ⊢; omega, fun j x c h => by simp at h⟩, rfl, fun j x l h => by simp at h⟩
 | f :: fs, o, L, cs, ys, hL, hm, hc => by
  simp only [layFs] at hL
  split at hL
  ·rename_i ho
   split at hL
   ·rename_i l hl
    split at hL
    ·rename_i hlen
     split at hL <;> simp at hL
     rename_i r hr
     subst hL
     rw [List.mapM_cons] at hm
     cases hx : DataW.trod enc P w 0 (fun _ => true) held fuel f.type ((cs.drop f.offset).take (P.cellsOf f.type)) with
     | none => simp [hx] at hm
     | some y =>
     cases hrest : (fs.mapM fun f => DataW.trod enc P w 0 (fun _ => true) held fuel f.type ((cs.drop f.offset).take (P.cellsOf f.type))) with
     | none => simp [hx, hrest] at hm
     | some zs =>
     obtain ⟨xs, h1, h2⟩ := ih _ _ _ _ hl hx
     obtain ⟨xs2, h3, h4⟩ := fields_ok ih fs (o + l.length) r cs zs hr hrest (by simp at hc; omega)
     refine ⟨xs ++ xs2, ?_, fitsR_app h2 h4⟩
     have e : cs.drop o = (cs.drop f.offset).take (P.cellsOf f.type) ++ cs.drop (o + l.length) := by
      rw [ho, ← hlen, ← List.drop_drop, List.take_append_drop]
     rw [e]
     exact rowR_app h1 h3
    ·simp at hL
   ·simp at hL
  ·simp at hL
theorem elems_ok {lay : TypeId → Option (List Ly)} {fuel : Nat} (ih : ∀ t L cs x, lay t = some L → DataW.trod enc P w 0 (fun _ => true) held fuel t cs = some x → ∃ xs, RowR ρ w xs cs ∧ FitsR L xs) {e : TypeId} {l : List Ly} (hl : lay e = some l) :
  ∀ (m o : Nat) (cs : List Value) (ys : List (DataW H × List MemPlace)),
   ((List.range' o m).mapM fun i => DataW.trod enc P w 0 (fun _ => true) held fuel e ((cs.drop (i * P.cellsOf e)).take (P.cellsOf e))) = some ys → cs.length = (o + m) * P.cellsOf e → ∃ xs, RowR ρ w xs (cs.drop (o * P.cellsOf e)) ∧ FitsR (List.replicate m l).flatten xs
 | 0, o, cs, ys, hm, hc => by
  refine ⟨[], ⟨by simp at hc ⊢; omega, fun j x c h => by simp at h⟩, rfl, fun j x l h => by simp at h⟩
 | m + 1, o, cs, ys, hm, hc => by
  rw [List.range'_succ, List.mapM_cons] at hm
  cases hx : DataW.trod enc P w 0 (fun _ => true) held fuel e ((cs.drop (o * P.cellsOf e)).take (P.cellsOf e)) with
  | none => simp [hx] at hm
  | some y =>
  cases hrest : ((List.range' (o + 1) m).mapM fun i => DataW.trod enc P w 0 (fun _ => true) held fuel e ((cs.drop (i * P.cellsOf e)).take (P.cellsOf e))) with
  | none => simp [hx, hrest] at hm
  | some zs =>
  obtain ⟨xs, h1, h2⟩ := ih _ _ _ _ hl hx
  obtain ⟨xs2, h3, h4⟩ := elems_ok ih hl m (o + 1) cs zs hrest (by rw [hc]; congr 1; omega)
  refine ⟨xs ++ xs2, ?_, by rw [List.replicate_succ, List.flatten_cons]; exact fitsR_app h2 h4⟩
  have e1 : cs.drop (o * P.cellsOf e) = (cs.drop (o * P.cellsOf e)).take (P.cellsOf e) ++ cs.drop ((o + 1) * P.cellsOf e) := by
   rw [Nat.add_mul, Nat.one_mul, ← List.drop_drop, List.take_append_drop]
  rw [e1]
  exact rowR_app h1 h3
theorem cells_len {base n : Nat} {a : Addr} {c : List Value} (h : w.cells? base a n = some c) : c.length = n := by
 unfold World.cells? at h
 split at h
 ·have := (mapM_some h).1; simpa using this
 ·simp at h
theorem cells_get {base n : Nat} {a : Addr} {c : List Value} (h : w.cells? base a n = some c) (j : Nat) (hj : j < n) : ∃ y, c[j]? = some y ∧ w.cell? (a.add j) = some y := by
 unfold World.cells? at h
 split at h
 ·obtain ⟨y, h1, h2⟩ := (mapM_some h).2 j j (by simp [hj])
  exact ⟨y, h1, h2⟩
 ·simp at h
theorem trod_fits : ∀ (d fuel : Nat) (t : TypeId) (L : List Ly) (cs : List Value) (x : DataW H × List MemPlace), layOf P d t = some L → DataW.trod enc P w 0 (fun _ => true) held fuel t cs = some x → ∃ xs, RowR ρ w xs cs ∧ FitsR L xs
 | 0, _, _, _, _, _, h, _ => by simp [layOf] at h
 | d + 1, 0, _, _, _, _, _, h => by simp [DataW.trod] at h
 | d + 1, fuel + 1, t, L, cs, x, hL, hx => by
  simp only [layOf] at hL
  have one : ∀ (c : Value) (v : Za) (l : Ly), Abs.VR ρ (fun b => b < w.heap.size) w (fun _ => False) v c → Fits l v → ∃ xs, RowR ρ w xs [c] ∧ FitsR [l] xs := fun c v l h1 h2 =>
   ⟨[v], ⟨rfl, fun j x c' hx hc => by
    cases j with
    | zero => simp at hx hc; subst hx; subst hc; exact h1
    | succ j => simp at hx⟩, rfl, fun j x l' hx hl => by
    cases j with
    | zero => simp at hx hl; subst hx; subst hl; exact h2
    | succ j => simp at hx⟩
  split at hL
  ·rename_i hu
   simp at hL; subst hL
   simp only [DataW.trod, hu] at hx
   split at hx <;> simp_all
   exact one _ _ _ (.bool _ _) (.bool _)
  ·rename_i k hu
   simp at hL; subst hL
   simp only [DataW.trod, hu] at hx
   split at hx <;> simp_all
   obtain ⟨⟨rfl, hwf⟩, _⟩ := hx
   exact one _ _ _ (.int _ _ _) (.int _ _ hwf)
  ·rename_i fs hu
   split at hL
   ·rename_i l hl
    split at hL <;> simp at hL
    rename_i hlen
    subst hL
    simp only [DataW.trod, hu] at hx
    split at hx
    ·rename_i hlc
     cases hm : (fs.toList.mapM fun f => DataW.trod enc P w 0 (fun _ => true) held fuel f.type ((cs.drop f.offset).take (P.cellsOf f.type))) with
     | none => simp [hm] at hx
     | some ys =>
      have := fields_ok (ρ := ρ) (fun t L cs x => trod_fits d fuel t L cs x) fs.toList 0 l cs ys hl hm (by omega)
      simpa using this
    ·simp at hx
   ·simp at hL
  ·rename_i e hu
   split at hL
   ·rename_i l hl
    split at hL <;> simp at hL
    rename_i hlen
    subst hL
    simp only [DataW.trod, hu] at hx
    split at hx <;> (try (simp_all; done))
    ·exact one _ _ _ (.nils _) (.nils _)
    ·rename_i e' a len cap he'
     simp only [Option.some.injEq, TypeDesc.slice.injEq] at he'
     subst he'
     split at hx
     ·rename_i hb
      cases hm : ((List.range len).mapM fun i => (w.cells? 0 (a.add (i * P.cellsOf e)) (P.cellsOf e)).bind (DataW.trod enc P w 0 (fun _ => true) held fuel e)) with
      | none => simp [hm] at hx
      | some elems =>
      rw [hm] at hx
      simp only [Option.bind_some, if_true] at hx
      cases hm2 : ((List.range (cap - len)).mapM fun j => (w.cells? 0 (a.add ((len + j) * P.cellsOf e)) (P.cellsOf e)).bind (DataW.trod enc P w 0 (fun _ => true) held fuel e)) with
      | none => simp [hm2] at hx
      | some rest =>
      clear hx
      generalize hn : P.cellsOf e = n at *
      have hn0 : 0 < n := by
       rw [← hlen.1]; exact List.length_pos_iff.2 hlen.2
      -- each element's cells
      have hel : ∀ i, i < len → ∃ ci xi, w.cells? 0 (a.add (i * n)) n = some ci ∧ DataW.trod enc P w 0 (fun _ => true) held fuel e ci = some xi := fun i hi => by
       obtain ⟨y, _, hy⟩ := (mapM_some hm).2 i i (by simp [hi])
       cases hc : w.cells? 0 (a.add (i * n)) n with
       | none => simp [hc] at hy
       | some ci => exact ⟨ci, y, rfl, by simpa [hc] using hy⟩
      have hspot : 0 < cap → a.spot = none := fun hcap => by
       have : ∃ c, w.cells? 0 (a.add (0 * n)) n = some c := by
        by_cases h0 : 0 < len
        ·obtain ⟨ci, _, h, _⟩ := hel 0 h0
         exact ⟨ci, h⟩
        ·have h1 : len = 0 := by omega
         subst h1
         obtain ⟨y, _, hy⟩ := (mapM_some hm2).2 0 0 (by rw [List.getElem?_range (by omega)])
         cases hc : w.cells? 0 (a.add (0 * n)) n with
         | none => simp at hy hc; simp [hc] at hy
         | some ci => exact ⟨ci, rfl⟩
       obtain ⟨c, hc⟩ := this
       obtain ⟨y, _, hy⟩ := cells_get hc 0 hn0
       simp only [Nat.zero_mul, Addr.add, if_true] at hy
       unfold World.cell? at hy
       split at hy
       ·split at hy
        ·simp at hy
        ·rename_i h; simpa using h
       ·simp at hy
      have hcell : ∀ i, i < len → ∀ ci, w.cells? 0 (a.add (i * n)) n = some ci → ci.length = n ∧ ∀ j (hj : j < n), ∃ y, ci[j]? = some y ∧ w.cell? ⟨a.block, a.off + (i * n + j), none⟩ = some y := fun i hi ci hci => by
       refine ⟨(cells_len hci), fun j hj => ?_⟩
       obtain ⟨y, h1, h2⟩ := cells_get hci j hj
       refine ⟨y, h1, ?_⟩
       rw [← h2]
       congr 1
       have hs := hspot (by omega)
       obtain ⟨ab, ao, aZ⟩ := a
       simp only at hs
       subst hs
       simp only [Addr.add]
       split <;> split <;> simp <;> omega
      have hrow : ∀ i, ∃ r : List Za, i < len → ∃ ci, w.cells? 0 (a.add (i * n)) n = some ci ∧ RowR ρ w r ci ∧ FitsR l r := fun i => by
       by_cases hi : i < len
       ·obtain ⟨ci, xi, h1, h2⟩ := hel i hi
        obtain ⟨r, h3, h4⟩ := trod_fits d fuel e l ci xi hl h2
        exact ⟨r, fun _ => ⟨ci, h1, h3, h4⟩⟩
       ·exact ⟨[], fun h => absurd h hi⟩
      have hR := Classical.axiomOfChoice hrow
      obtain ⟨R, hR⟩ := hR
      have hlr : ((List.range len).map R).length = len := by simp
      have hrl : ∀ i, i < len → (R i).length = n := fun i hi => by
       obtain ⟨ci, _, _, h⟩ := hR i hi
       rw [h.1, hlen.1]
      have hv : Abs.VR ρ (fun b => b < w.heap.size) w (fun _ => False) (.vl ((List.range len).map R) false) (.slice (some a) ((List.range len).map R).length cap) := by
       refine .vl _ _ false a cap a.block a.off n (fun j => (w.cell? ⟨a.block, a.off + j, none⟩).getD undef) (by rw [hlr]; exact hb.2.1) (fun h => by simp at h) ?_ (fun hne => ?_) (fun k hk => ?_) (fun j hj => ?_) (fun k hk j hj => ?_)
       ·by_cases hc : cap = 0
        ·exact .inl hc
        ·right
         have hs := hspot (by omega)
         obtain ⟨ab, ao, aZ⟩ := a
         simp only at hs
         subst hs; rfl
       ·have h0 : 0 < len := by
         rcases Nat.eq_zero_or_pos len with h | h
         ·subst h; simp at hne
         ·exact h
        obtain ⟨ci, _, hci, _⟩ := hel 0 h0
        obtain ⟨y, _, hy⟩ := (hcell 0 h0 ci hci).2 0 hn0
        unfold World.cell? at hy
        split at hy
        ·rename_i hh
         exact (Array.getElem?_eq_some_iff.1 hh).1
        ·simp at hy
       ·simp at hk
        simp [hrl k hk]
       ·rw [hlr] at hj
        have hq : j / n < len := Nat.div_lt_of_lt_mul (by rw [Nat.mul_comm]; exact hj)
        obtain ⟨ci, _, hci, _⟩ := hel _ hq
        obtain ⟨y, _, hy⟩ := (hcell _ hq ci hci).2 (j % n) (Nat.mod_lt _ hn0)
        rw [Nat.div_add_mod' j n] at hy
        simp [hy]
       ·simp at hk
        simp at hj
        obtain ⟨ci, hci, hrr, _⟩ := hR k hk
        have hjn : j < n := by rw [← hrl k hk]; exact hj
        obtain ⟨y, hy1, hy2⟩ := (hcell k hk ci hci).2 j hjn
        have := hrr.2 j (R k)[j] y (List.getElem?_eq_getElem hj) hy1
        simpa [hy2] using this
      rw [hlr] at hv
      refine one _ _ _ hv (.vl _ _ _ (fun r hr => ?_) fun i r hi j x ll hj hll => ?_)
      ·obtain ⟨i, hi, rfl⟩ := List.mem_map.1 hr
       simp at hi
       rw [hrl i hi, hlen.1]
      ·have hi' : i < len := by have := (List.getElem?_eq_some_iff.1 hi).1; simpa using this
       simp [hi'] at hi
       subst hi
       obtain ⟨ci, _, _, h⟩ := hR i hi'
       exact h.2 j x ll hj hll
     ·simp at hx
   ·simp at hL
  ·rename_i n e hu
   split at hL
   ·rename_i l hl
    split at hL <;> simp at hL
    rename_i hlen
    subst hL
    simp only [DataW.trod, hu] at hx
    split at hx
    ·rename_i hlc
     cases hm : ((List.range n).mapM fun i => DataW.trod enc P w 0 (fun _ => true) held fuel e ((cs.drop (i * P.cellsOf e)).take (P.cellsOf e))) with
     | none => simp [hm] at hx
     | some ys =>
      rw [List.range_eq_range'] at hm
      have := elems_ok (ρ := ρ) (fun t L cs x => trod_fits d fuel t L cs x) hl n 0 cs ys hm (by rw [hlc, ← hlen.2, hlen.1, Nat.zero_add])
      simpa using this
    ·simp at hx
   ·simp at hL
  ·simp at hL
end
end Go.Abs
namespace Go.Abs
open Go Go.RowKit
section
variable {P : Program} {G : Nat → Option (List Za)} {T : Nat → Option CFn}
abbrev ρ0 : Nat → Loc := fun _ => ⟨0, 0, 0, 0⟩
theorem trod_ints {H : Type} {enc : TypeId × Value → H} {w : World} {base : Nat} {sp : Nat → Bool} {held : Bool} {t e : TypeId} {n : Nat} {k : IntKind} (ht : P.underlying t = some (.array n e)) (he : P.underlying e = some (.int k)) (hc : P.cellsOf e = 1) (hct : P.cellsOf t = n) :
  ∀ (fuel : Nat) {cs : List Value} {ns : List Int} {p : List MemPlace}, DataW.trod enc P w base sp held fuel t cs = some (.agg (ns.map fun m => .lit (.int k m)), p) → cs = ns.map fun m => .int k m
 | 0, cs, ns, p, h => by simp [DataW.trod] at h
 | fuel + 1, cs, ns, p, h => by
  simp only [DataW.trod, ht] at h
  split at h
  ·rename_i hl
   rw [hct] at hl
   have hin : ∀ (c : Value) (y : DataW H × List MemPlace), DataW.trod enc P w base sp held fuel e [c] = some y → ∃ m, y.1 = .lit (.int k m) ∧ c = .int k m := by
    intro c y hf
    cases fuel with
    | zero => simp [DataW.trod] at hf
    | succ fuel =>
     simp only [DataW.trod, he] at hf
     split at hf <;> simp_all
     obtain ⟨_, rfl⟩ := hf
     rfl
   generalize hF : (fun i => DataW.trod enc P w base sp held fuel e ((cs.drop (i * P.cellsOf e)).take (P.cellsOf e))) = F at h
   cases hm : (List.range n).mapM F with
   | none => simp [hm] at h
   | some ys =>
    simp only [hm, Option.map_some, Option.some.injEq, Prod.mk.injEq, DataW.agg.injEq] at h
    obtain ⟨h1, -⟩ := h
    obtain ⟨g1, g2⟩ := mapM_some hm
    simp at g1
    have hns : ns.length = n := by have := congrArg List.length h1; simp at this; omega
    refine List.ext_getElem? fun i => ?_
    by_cases hi : i < n
    ·obtain ⟨y, hy, hf⟩ := g2 i i (by simp [hi])
     have hc1 : (cs.drop (i * P.cellsOf e)).take (P.cellsOf e) = [cs[i]] := by
      rw [hc, Nat.mul_one, List.drop_eq_getElem_cons (by omega)]; rfl
     rw [← hF] at hf
     simp only [hc1] at hf
     obtain ⟨m, e1, e2⟩ := hin _ _ hf
     have h2 := congrArg (fun l => l[i]?) h1
     simp only [List.getElem?_map, hy, Option.map_some] at h2
     cases hn : ns[i]? with
     | none => rw [hn] at h2; simp at h2
     | some m' =>
      rw [hn] at h2
      simp [e1] at h2
      rw [List.getElem?_eq_getElem (by omega), List.getElem?_map, hn, e2, h2]
      rfl
    ·rw [List.getElem?_eq_none (by omega), List.getElem?_eq_none (by simp; omega)]
  ·simp at h
theorem table_vr {w : World} {g : Nat} {k : IntKind} {ns : List Int} (hc : ∀ j, j < ns.length → w.cell? ⟨g, j, none⟩ = some (.int k (ns.getD j 0))) (hg : g < w.heap.size) :
  Abs.VR ρ0 (fun b => b < w.heap.size) w (fun _ => False) (.pv (ns.map fun n => .int k n) 0) (.pointer (some ⟨g, 0, none⟩)) := by
 refine .pv _ _ 0 g 0 (fun j => .int k (ns.getD j 0)) hg (fun j hj => ?_) fun j hj => ?_
 ·simp at hj
  rw [Nat.zero_add]; exact hc j hj
 ·simp at hj
  simp [hj]
  exact .int _ _ _
theorem fits_int {k : IntKind} {x : Za} (h : Fits (.int k) x) : ∃ n, x = .int k n ∧ (Lit.int k n).wf = true := by cases h with | int _ n h => exact ⟨n, rfl, h⟩
theorem fitsR_one {l : Ly} {xs : List Za} (h : FitsR [l] xs) : ∃ x, xs = [x] ∧ Fits l x := by
 obtain ⟨h1, h2⟩ := h
 match xs, h1 with
 | [x], _ => exact ⟨x, rfl, h2 0 x l rfl rfl⟩
theorem fitsR_cons {l : Ly} {L : List Ly} {xs : List Za} (h : FitsR (l :: L) xs) : ∃ x ys, xs = x :: ys ∧ Fits l x ∧ FitsR L ys := by
 obtain ⟨h1, h2⟩ := h
 match xs, h1 with
 | x :: ys, h1 => exact ⟨x, ys, rfl, h2 0 x l rfl rfl, by simpa using h1, fun j y m hy hm => h2 (j + 1) y m (by simpa using hy) (by simpa using hm)⟩
theorem fits_rows {e : List Ly} {x : Za} (h : Fits (.sl e) x) : ∃ rs : List (List Za), (x = .nils ∧ rs = [] ∨ ∃ t, x = .vl rs t) ∧ ∀ r ∈ rs, FitsR e r := by
 cases h with
 | nils => exact ⟨[], .inl ⟨rfl, rfl⟩, by simp⟩
 | vl _ rs t hl h =>
  refine ⟨rs, .inr ⟨t, rfl⟩, fun r hr => ⟨hl r hr, fun j y l hy hl' => ?_⟩⟩
  obtain ⟨i, hi⟩ := List.getElem?_of_mem hr
  exact h i r hi j y l hy hl'
theorem rowR_cons {w : World} {x : Za} {c : Value} {xs : List Za} {cs : List Value} (h : Abs.VR ρ0 (fun b => b < w.heap.size) w (fun _ => False) x c) (h' : RowR ρ0 w xs cs) : RowR ρ0 w (x :: xs) (c :: cs) := by
 refine ⟨by simp [h'.1], fun j y d hy hd => ?_⟩
 cases j with
 | zero => simp at hy hd; subst hy; subst hd; exact h
 | succ j => exact h'.2 j y d (by simpa using hy) (by simpa using hd)
theorem rowR_nil {w : World} : RowR ρ0 w [] [] := ⟨rfl, fun j y d hy => by simp at hy⟩
theorem open_struct {H : Type} {enc : TypeId × Value → H} {w : World} {base : Nat} {t : TypeId} {fs : Array Field} {v : Value} {d : DataW H} {p : List MemPlace} {L : List Ly} (hu : P.underlying t = some (.struct fs)) (hL : layOf P 5 t = some L)
  (hv : Value.okWide P w .any base t v) (h : DataW.Trod enc P w 0 (fun _ => true) true t v d p) : ∃ xs, Abs.VR ρ0 (fun b => b < w.heap.size) w (fun _ => False) (.agg xs) v ∧ FitsR L xs := by
 unfold Value.okWide at hv
 rw [hu] at hv
 obtain ⟨cs, rfl, _, _⟩ := hv
 obtain ⟨fuel, hf⟩ := h
 obtain ⟨xs, h1, h2⟩ := trod_fits (ρ := ρ0) 5 fuel t L _ _ hL hf
 refine ⟨xs, .agg _ xs cs (by simpa [Value.cells] using h1.1) fun j j1 j2 => ?_, h2⟩
 exact h1.2 j _ _ (List.getElem?_eq_getElem j1) (by simp [Value.cells, j2])
theorem open_cell {H : Type} {enc : TypeId × Value → H} {w : World} {t : TypeId} {v : Value} {d : DataW H} {p : List MemPlace} {l : Ly} (hL : layOf P 5 t = some [l]) (hc : v.cells = #[v])
  (h : DataW.Trod enc P w 0 (fun _ => true) true t v d p) : ∃ x, Abs.VR ρ0 (fun b => b < w.heap.size) w (fun _ => False) x v ∧ Fits l x := by
 obtain ⟨fuel, hf⟩ := h
 obtain ⟨xs, h1, h2⟩ := trod_fits (ρ := ρ0) 5 fuel t [l] _ _ hL hf
 obtain ⟨x, rfl, hx⟩ := fitsR_one h2
 rw [hc] at h1
 exact ⟨x, h1.2 0 x v rfl rfl, hx⟩
end
end Go.Abs
namespace Go.Proofs.YtpebmjeomlgmdaaGreatDoor
open Go Go.Abs Go.Proofs Go.ChangeShapes Go.WideShapes Go.ChangeAt Go.RowKit
theorem own : ownKnob Tryz.prog.godebug = none := by kernel_rfl
theorem laidOut : laidOutB Tryz.prog = true := by kernel_rfl
theorem gA : Tryz.prog.globalNamed "math/bits.deBruijn32tab" = some 0 := by kernel_rfl
theorem gB : Tryz.prog.globalNamed "math/bits.deBruijn64tab" = some 1 := by kernel_rfl
abbrev laid : List (String × DataW Unit) := [("math/bits.deBruijn32tab", Rows.laid_math_bits_deBruijn32tab), ("math/bits.deBruijn64tab", Rows.laid_math_bits_deBruijn64tab)]
theorem door_met (os : Os) (args : Array Value) : laidMetH Tryz.prog laid ((World.doorLaid Tryz.prog 400 os).forCall (fun _ _ => 0) ⟨#[], args, []⟩).memory :=
  laidMetH_of_parts3 (fuel := 8) (laidMet_of_run' 8 (by kernel_rfl) (by kernel_rfl)) (by kernel_rfl) (by kernel_rfl)
theorem tA : (Tryz.prog.globals[0]?).map (·.type) = some 151 := by kernel_rfl
theorem tB : (Tryz.prog.globals[1]?).map (·.type) = some 152 := by kernel_rfl
theorem u151 : Tryz.prog.underlying 151 = some (.array 32 5) := by kernel_rfl
theorem u152 : Tryz.prog.underlying 152 = some (.array 64 5) := by kernel_rfl
theorem u5 : Tryz.prog.underlying 5 = some (.int .u8) := by kernel_rfl
theorem hglob {W : World} (h : laidMetH Tryz.prog laid W) (g : Nat) (r : List Za) (hg : Tab.GG g = some r) : Abs.VR ρ0 (fun b => b < W.heap.size) W (fun _ => False) (.pv r 0) (.pointer (some ⟨g, 0, Option.none⟩)) := by
  rw [MakeChecks.laidMetH_plain _ _ _ (by kernel_rfl)] at h
  obtain ⟨ps, ⟨g0, t0, cs0, f0, p0, q0, hg0, ht0, hv0, hd0, ⟨g1, t1, cs1, f1, p1, q1, hg1, ht1, hv1, hd1, _, _⟩, _⟩, _, _⟩ := h
  obtain rfl := Option.some.inj (gA.symm.trans hg0)
  obtain rfl := Option.some.inj (gB.symm.trans hg1)
  obtain rfl := Option.some.inj (tA.symm.trans ht0)
  obtain rfl := Option.some.inj (tB.symm.trans ht1)
  have key : ∀ (g : Nat) (n : String) (cs : Array Value) (ns : List Int), Tryz.prog.globalNamed n = some g → W.var? Tryz.prog n = some cs → cs.toList = ns.map (fun m => Value.int .u8 m) → 0 < ns.length →
      Abs.VR ρ0 (fun b => b < W.heap.size) W (fun _ => False) (.pv (ns.map fun n => .int .u8 n) 0) (.pointer (some ⟨g, 0, Option.none⟩)) := by
    intro g n cs ns hn hv hcs hlen
    have hcell : ∀ j, j < ns.length → W.cell? ⟨g, j, Option.none⟩ = some (.int .u8 (ns.getD j 0)) := fun j hj => by
      rw [World.var?_cell hn hv j]
      have : cs.toList[j]? = some (.int .u8 (ns.getD j 0)) := by
        rw [hcs, List.getElem?_map, List.getElem?_eq_getElem hj]
        simp [hj]
      simpa using this
    refine table_vr hcell ?_
    have := hcell 0 hlen
    unfold World.cell? at this
    split at this
    · rename_i hh; exact (Array.getElem?_eq_some_iff.1 hh).1
    · simp at this
  match g, hg with
  | 0, hg =>
    have e : r = Tab.deBruijn32.map fun n => Za.int .u8 n := (Option.some.inj hg).symm
    rw [e]
    exact key 0 _ cs0 Tab.deBruijn32 gA hv0 (trod_ints (ns := Tab.deBruijn32) u151 u5 (by kernel_rfl) (by kernel_rfl) f0 hd0) (by decide)
  | 1, hg =>
    have e : r = Tab.deBruijn64.map fun n => Za.int .u8 n := (Option.some.inj hg).symm
    rw [e]
    exact key 1 _ cs1 Tab.deBruijn64 gB hv1 (trod_ints (ns := Tab.deBruijn64) u152 u5 (by kernel_rfl) (by kernel_rfl) f1 hd1) (by decide)
  | n + 2, hg => simp [Tab.GG] at hg
end Go.Proofs.YtpebmjeomlgmdaaGreatDoor
namespace Go.Abs
open Go
noncomputable section
abbrev I (n : Int) : Za := .int .i64 n
abbrev B (b : Bool) : Za := .bool b
theorem ZH {n : Int} (h : -1000000 ≤ n ∧ n ≤ 1000000) : W .i64 n = n := by
 simp only [W]; rw [if_pos (by omega)]
theorem Yi (P : Program) (T : Nat → Option CFn) (ex : Option Nat → CC → St → Option (AEx × St)) (σ : St) : runX P T ex [] σ = some σ := rfl
theorem Yj (P : Program) (T : Nat → Option CFn) (ex : Option Nat → CC → St → Option (AEx × St)) (base n j : Nat) (D : DSt) : runD P T ex base n [] j D = some D := rfl
theorem ZU (P : Program) (T : Nat → Option CFn) (ex : Option Nat → CC → St → Option (AEx × St)) (base n j : Nat) (o : CO) (l : List CO) (D : DSt) : runD P T ex base n (o :: l) j D = match YP P T ex base n j o D with
  | some D' => runD P T ex base n l (j + 1) D'
  | none => none := rfl
theorem Yd {P : Program} {T : Nat → Option CFn} {r : Option Nat} {l : List CO} {σ : St} {Q : AEx → St → Prop} {D : DSt}
  (h : runD P T (fun _ _ _ => none) σ.h.length l.length l 0 ⟨σ.t, σ.h ++ List.replicate l.length none, List.replicate l.length none⟩ = some D) (hq : Q .normal ⟨D.t, D.h⟩) : Runs P T r (.drw l) σ Q := by
 refine ⟨1, .normal, ⟨D.t, D.h⟩, ?_, hq⟩
 show YE P T (fun _ _ _ => none) r (.drw l) σ = _
 simp only [YE, ZM, Yt, h]
theorem Yg (P : Program) (b : Bool) : Xf P (Op.unary .not (.bool b)) = some (.bool !b) := rfl
theorem ZK {α : Type} (P : Program) (a : α) : Xf P (pure a) = some a := rfl
theorem Yl (t : List Za) : evAll t [] = some [] := rfl
theorem Xv (n : Nat) (k : IntKind) (m : Int) : rb n 5 (.int k m) = true := rfl
theorem YV (n : Nat) (b : Bool) : rb n 5 (.bool b) = true := rfl
theorem Xz (m n : Int) : (if n < m then n else m) = min m n := by rw [Int.min_def]; split <;> split <;> omega
theorem XA (m n : Int) : (if m < n then n else m) = max m n := by rw [Int.max_def]; split <;> split <;> omega
theorem Xx (n d : Nat) (xs : List Za) : rb n (d + 1) (.agg xs) = xs.all (rb n d) := rfl
theorem Xt (n d : Nat) (xs : List Za) : rb n (d + 1) (.tup xs) = xs.all (rb n d) := rfl
theorem YU (n d : Nat) (k : IntKind) (m : Int) : rb n (d + 1) (.int k m) = true := rfl
theorem YA (n d : Nat) (b : Bool) : rb n (d + 1) (.bool b) = true := rfl
theorem rb_vl (n d : Nat) (rs : List (List Za)) (t : Bool) : rb n (d + 1) (.vl rs t) = true := rfl
theorem rb_pv (n d : Nat) (r : List Za) (o : Nat) : rb n (d + 1) (.pv r o) = true := rfl
theorem Xr (n d i : Nat) : rb n (d + 1) (.yld i) = decide (i < n) := rfl
theorem YT (n d : Nat) : rb n (d + 1) .nilf = true := rfl
theorem YS (n d : Nat) : rb n (d + 1) .nilp = true := rfl
theorem YR (n d : Nat) : rb n (d + 1) .nils = true := rfl
theorem Xw (n d : Nat) : rb n (d + 1) .any = true := rfl
theorem Xs (n d : Nat) : rb n (d + 1) .und = true := rfl
theorem Xu (n d i k o : Nat) : rb n (d + 1) (.ref i k o) = decide (i < n) := rfl
theorem XZ (n d i k m : Nat) (t : Bool) : rb n (d + 1) (.sl i k m t) = decide (i < n) := rfl
theorem rb_fn (n d f : Nat) (a b : List Za) : rb n (d + 1) (.fn f a b) = (a.all (rb n d) && b.all (rb n d)) := rfl
theorem Yv (nv : Bool) (h : Zj) (d : Nat) (k : IntKind) (n : Int) : frz nv h (d + 1) (.int k n) = some (.int k n) := rfl
theorem Ye (nv : Bool) (h : Zj) (d : Nat) (b : Bool) : frz nv h (d + 1) (.bool b) = some (.bool b) := rfl
theorem YC (nv : Bool) (h : Zj) (d : Nat) : frz nv h (d + 1) .nils = some .nils := rfl
theorem frz_nilp (nv : Bool) (h : Zj) (d : Nat) : frz nv h (d + 1) .nilp = some .nilp := rfl
theorem XB (h : Zj) (d : Nat) (rs : List (List Za)) (t : Bool) : frz false h (d + 1) (.vl rs t) = some (.vl rs t) := rfl
theorem XC (h : Zj) (d : Nat) (r : List Za) (o : Nat) : frz false h (d + 1) (.pv r o) = some (.pv r o) := rfl
theorem YD (nv : Bool) (h : Zj) (d : Nat) (xs : List Za) : frz nv h (d + 1) (.agg xs) = match Zf (frz nv h d) xs with
  | some ys => some (.agg ys)
  | none => none := rfl
theorem YJ (nv : Bool) (h : Zj) (d : Nat) (xs : List Za) : frz nv h (d + 1) (.tup xs) = match Zf (frz nv h d) xs with
  | some ys => some (.tup ys)
  | none => none := rfl
theorem XD (nv : Bool) (h : Zj) (d f : Nat) (a b : List Za) : frz nv h (d + 1) (.fn f a b) = match Zf (frz nv h d) a, Zf (frz nv h d) b with
  | some a, some b => some (.fn f a b)
  | _, _ => none := rfl
theorem YL (nv : Bool) (h : Zj) (d i k o : Nat) : frz nv h (d + 1) (.ref i k o) = match rowAt h i with
  | some (_, rs) => match nth rs k with
   | some r => match Zf (frz nv h d) r with
    | some r => some (.pv r o)
    | none => none
   | none => none
  | none => none := rfl
theorem Xh (nv : Bool) (h : Zj) (d i k n : Nat) (t : Bool) : frz nv h (d + 1) (.sl i k n t) = match rowAt h i with
  | some (_, rs) => if k + n ≤ rs.length then match Zf (Zf (frz nv h d)) ((rs.drop k).take n) with
    | some rs => some (.vl rs t)
    | none => none
   else none
  | none => none := rfl
theorem Zu {α : Type} {f : α → Option α} : ∀ (xs : List α), (∀ x ∈ xs, f x = some x) → Zf f xs = some xs
 | [], _ => rfl
 | x :: xs, h => by simp [Zf, h x, Zu xs fun y hy => h y (by simp [hy])]
theorem frz_row (nv : Bool) (h : Zj) (d i n e : Nat) (t : Bool) (rs : List (List Za)) (hi : h[i]? = some (some (.row e rs))) (hn : n = rs.length) (hr : Zf (Zf (frz nv h d)) rs = some rs) : frz nv h (d + 1) (.sl i 0 n t) = some (.vl rs t) := by
 subst hn
 rw [Xh]
 simp [rowAt, Zz, hi, hr]
def flat : Za → Bool
 | .int _ _ => true
 | .bool _ => true
 | _ => false
theorem frz_flat (nv : Bool) (h : Zj) (d : Nat) {v : Za} (hv : flat v = true) : frz nv h (d + 1) v = some v := by
 cases v <;> simp [flat] at hv <;> rfl
theorem frz_rows (nv : Bool) (h : Zj) (d : Nat) (rs : List (List Za)) (hr : ∀ r ∈ rs, ∀ x ∈ r, flat x = true) : Zf (Zf (frz nv h (d + 1))) rs = some rs :=
 Zu rs fun r h1 => Zu r fun x h2 => frz_flat nv h d (hr r h1 x h2)
def Zm : Za → Option (List (List Za))
 | .nils => some []
 | .vl rs _ => some rs
 | _ => none
theorem Yz (rs : List (List Za)) (t : Bool) : Zm (.vl rs t) = some rs := rfl
theorem ZV : Zm .nils = some [] := rfl
theorem Zv {x : Za} {rs : List (List Za)} (h : Zm x = some rs) : Zd x = some rs.length := by
 cases x <;> simp [Zm] at h <;> subst h <;> rfl
theorem ZG {x : Za} {rs : List (List Za)} (h : Zm x = some rs) {k : Nat} (hk : k < rs.length) : ∃ t, x = .vl rs t := by
 cases x <;> simp [Zm] at h
 ·subst h; simp at hk
 ·subst h; exact ⟨_, rfl⟩
theorem YB {α β : Type} {d : α → Option β} {enc : β → α} (h : ∀ x, d (enc x) = some x) (xs : List β) : Zf d (xs.map enc) = some xs := by
 induction xs with
 | nil => rfl
 | cons x xs ih => simp [Zf, ih, h]
theorem ZY {α β : Type} {d : α → Option β} {enc : β → α} (h : ∀ r x, d r = some x → r = enc x) : ∀ {rs : List α} {xs : List β}, Zf d rs = some xs → rs = xs.map enc
 | [], xs, e => by simp [Zf] at e; subst e; rfl
 | r :: rs, xs, e => by
  simp only [Zf] at e
  split at e <;> simp at e
  rename_i y ys h1 h2
  subst e
  rw [h r y h1, ZY h h2]
  rfl
def dI1 : List Za → Option Int
 | [.int .i64 n] => some n
 | _ => none
theorem dI1_eq (r : List Za) (n : Int) (h : dI1 r = some n) : r = [I n] := by
 unfold dI1 at h; split at h <;> simp at h; subst h; rfl
def dI2 : List Za → Option (Int × Int)
 | [.int .i64 a, .int .i64 b] => some (a, b)
 | _ => none
theorem dI2_eq (r : List Za) (n : Int × Int) (h : dI2 r = some n) : r = [I n.1, I n.2] := by
 unfold dI2 at h; split at h <;> simp at h; subst h; rfl
def dI3 : List Za → Option (Int × Int × Int)
 | [.int .i64 a, .int .i64 b, .int .i64 c] => some (a, b, c)
 | _ => none
theorem dI3_eq (r : List Za) (n : Int × Int × Int) (h : dI3 r = some n) : r = [I n.1, I n.2.1, I n.2.2] := by
 unfold dI3 at h; split at h <;> simp at h; subst h; rfl
def dI5 : List Za → Option (Int × Int × Int × Int × Int)
 | [.int .i64 a, .int .i64 b, .int .i64 c, .int .i64 d, .int .i64 e] => some (a, b, c, d, e)
 | _ => none
def isI : Za → Bool
 | .int .i64 _ => true
 | _ => false
theorem ints1 {r : List Za} (hl : r.length = 1) (h : ∀ x ∈ r, isI x = true) : ∃ a : Int, r = [I a] := by
 match r, hl, h with
 | [x], _, h =>
  have hx := h x (by simp)
  unfold isI at hx; split at hx <;> simp at hx
  exact ⟨_, rfl⟩
theorem isI_eq {x : Za} (h : isI x = true) : ∃ a : Int, x = I a := by
 unfold isI at h; split at h <;> simp at h; exact ⟨_, rfl⟩
theorem ints2 {r : List Za} (hl : r.length = 2) (h : ∀ x ∈ r, isI x = true) : ∃ a b : Int, r = [I a, I b] := by
 match r, hl, h with
 | [x, y], _, h =>
  obtain ⟨a, rfl⟩ := isI_eq (h x (by simp))
  obtain ⟨b, rfl⟩ := isI_eq (h y (by simp))
  exact ⟨a, b, rfl⟩
theorem ints3 {r : List Za} (hl : r.length = 3) (h : ∀ x ∈ r, isI x = true) : ∃ a b c : Int, r = [I a, I b, I c] := by
 match r, hl, h with
 | [x, y, z], _, h =>
  obtain ⟨a, rfl⟩ := isI_eq (h x (by simp))
  obtain ⟨b, rfl⟩ := isI_eq (h y (by simp))
  obtain ⟨c, rfl⟩ := isI_eq (h z (by simp))
  exact ⟨a, b, c, rfl⟩
theorem ints5 {r : List Za} (hl : r.length = 5) (h : ∀ x ∈ r, isI x = true) : ∃ a b c d e : Int, r = [I a, I b, I c, I d, I e] := by
 match r, hl, h with
 | [x, y, z, u, v], _, h =>
  obtain ⟨a, rfl⟩ := isI_eq (h x (by simp))
  obtain ⟨b, rfl⟩ := isI_eq (h y (by simp))
  obtain ⟨c, rfl⟩ := isI_eq (h z (by simp))
  obtain ⟨d, rfl⟩ := isI_eq (h u (by simp))
  obtain ⟨e, rfl⟩ := isI_eq (h v (by simp))
  exact ⟨a, b, c, d, e, rfl⟩
theorem allB_row : ∀ (r r' : List Za), Xc (eqA 3) r r' = true → (∀ x ∈ r, isI x = true) → r' = r
 | [], [], _, _ => rfl
 | x :: r, y :: r', h, hr => by
  simp only [Xc, Bool.and_eq_true] at h
  obtain ⟨a, rfl⟩ := isI_eq (hr x (by simp))
  have h1 := h.1
  cases y <;> simp [eqA] at h1
  obtain ⟨rfl, rfl⟩ := h1
  rw [allB_row r r' h.2 fun x hx => hr x (by simp [hx])]
 | [], _ :: _, h, _ => by simp [Xc] at h
 | _ :: _, [], h, _ => by simp [Xc] at h
theorem allB_rows : ∀ (rs rs' : List (List Za)), Xc (Xc (eqA 3)) rs rs' = true → (∀ r ∈ rs, ∀ x ∈ r, isI x = true) → rs' = rs
 | [], [], _, _ => rfl
 | x :: r, y :: r', h, hr => by
  simp only [Xc, Bool.and_eq_true] at h
  rw [allB_row x y h.1 (hr x (by simp)), allB_rows r r' h.2 fun x hx => hr x (by simp [hx])]
 | [], _ :: _, h, _ => by simp [Xc] at h
 | _ :: _, [], h, _ => by simp [Xc] at h
theorem allB_self_row : ∀ (r : List Za), (∀ x ∈ r, isI x = true) → Xc (eqA 3) r r = true
 | [], _ => rfl
 | x :: r, h => by
  obtain ⟨a, rfl⟩ := isI_eq (h x (by simp))
  have h1 : eqA 3 (I a) (I a) = true := by simp [eqA]
  simp only [Xc, h1, allB_self_row r fun x hx => h x (by simp [hx]), Bool.and_self]
theorem allB_self : ∀ (rs : List (List Za)), (∀ r ∈ rs, ∀ x ∈ r, isI x = true) → Xc (Xc (eqA 3)) rs rs = true
 | [], _ => rfl
 | r :: rs, h => by simp only [Xc, allB_self_row r (h r (by simp)), allB_self rs fun r hr => h r (by simp [hr]), Bool.and_self]
theorem Zy {x : Za} {rs : List (List Za)} (hx : Zm x = some rs) : cellsOf x = some [x] ∧ ZE x = true := by
 cases x <;> simp [Zm] at hx <;> exact ⟨rfl, rfl⟩
theorem ZF {x : Za} {rs : List (List Za)} (hx : Zm x = some rs) (n d : Nat) : rb n (d + 1) x = true := by
 cases x <;> simp [Zm] at hx <;> rfl
theorem rowsV_cases {x : Za} {rs : List (List Za)} (hx : Zm x = some rs) : (x = .nils ∧ rs = []) ∨ ∃ t, x = .vl rs t := by
 cases x <;> simp [Zm] at hx
 ·exact .inl ⟨rfl, hx⟩
 ·exact .inr ⟨_, by rw [hx]⟩
theorem Zw {x : Za} {rs : List (List Za)} (hx : Zm x = some rs) (h : Zj) (d : Nat) : frz false h (d + 1) x = some x := by
 cases x <;> simp [Zm] at hx <;> rfl
def upd (T : Nat → Option CFn) (f : Nat) (fr : Bool) (orc : List Za → Option Za) (g : Nat) : Option CFn :=
 if g = f then (match T f with
  | some c => some { c with frsh := fr, orc := orc }
  | none => none)
 else T g
theorem tab_upd {P : Program} {G : Nat → Option (List Za)} {T : Nat → Option CFn} (hT : ZB P G T) {f : Nat} {fr : Bool} {orc : List Za → Option Za} (ho : ∀ args v, orc args = some v → OrcGood P G fr f args v) : ZB P G (upd T f fr orc) := by
 intro g cf hg
 unfold upd at hg
 split at hg
 ·rename_i e
  subst e
  split at hg <;> simp at hg
  rename_i c hc
  subst hg
  obtain ⟨fn, b, h1, h2, h3, h4, h5, h6, _, h8⟩ := hT g c hc
  exact ⟨fn, b, h1, h2, h3, h4, h5, h6, ho, h8⟩
 ·exact hT g cf hg
theorem ZD {P : Program} {G : Nat → Option (List Za)} {T : Nat → Option CFn} (hm : P.follows .mixedOrders = true) (hT : ZB P G T) {f : Nat} {fr : Bool} {orc : List Za → Option Za}
  (ho : ∀ args v, orc args = some v → Zr P T f args [] fun v' h' => frz fr h' 5 v' = some v) : ZB P G (upd T f fr orc) :=
 tab_upd hT fun args v h => orc_of hm hT (ho args v h)
def known (T : Nat → Option CFn) (f : Nat) (args : List Za) : Option Za :=
 match T f with
 | some c => orcF c args []
 | none => none
theorem Zo {cf : CFn} {args : List Za} {h : Zj} (ho : cf.orc = fun _ => none) : orcF cf args h = none := by
 unfold orcF; rw [ho]; split <;> rfl
theorem callF_orc {T : Nat → Option CFn} {ex : Option Nat → CC → St → Option (AEx × St)} {f : Nat} {cf : CFn} {args : List Za} {h : Zj} {v : Za} (hT : T f = some cf) (ho : orcF cf args h = some v) : YH T ex f args h = some (v, h) := by
 unfold YH
 simp only [hT, ho, Xa]
def callB (T : Nat → Option CFn) (ex : Option Nat → CC → St → Option (AEx × St)) (f : Nat) (args : List Za) (h : Zj) : Option (Za × Zj) := YH T ex f args h
theorem zC {T : Nat → Option CFn} {ex : Option Nat → CC → St → Option (AEx × St)} {f : Nat} {cf : CFn} (hT : T f = some cf) (args : List Za) (h : Zj) : YH T ex f args h = match orcF cf args h with
  | some v => some (v, h)
  | none => callB T ex f args h := by
 cases ho : orcF cf args h with
 | none => rfl
 | some v => exact callF_orc hT ho
theorem XQ {T : Nat → Option CFn} {ex : Option Nat → CC → St → Option (AEx × St)} {f : Nat} {args : List Za} {v : Za} (hk : known T f args = some v) : YH T ex f args [] = some (v, []) := by
 unfold known at hk
 split at hk
 ·rename_i c hc; exact callF_orc hc hk
 ·simp at hk
def elt : List Za → Za
 | [x] => x
 | r => .agg r
def idxA (q : List Za → Option Za) : Nat → List (List Za) → Option Int
 | _, [] => some (-1)
 | k, r :: rs => match q r with
  | some (.bool true) => some k
  | some (.bool false) => idxA q (k + 1) rs
  | _ => none
theorem idxA_some {q : List Za → Option Za} {p : List Za → Bool} : ∀ (rs : List (List Za)) (k : Nat), (∀ r ∈ rs, q r = some (.bool (p r))) → idxA q k rs = some (match rs.findIdx? p with | some i => ((k + i : Nat) : Int) | none => -1)
 | [], k, _ => rfl
 | r :: rs, k, h => by
  simp only [idxA, h r (by simp), List.findIdx?_cons]
  cases hp : p r with
  | true => simp
  | false =>
   rw [idxA_some rs (k + 1) fun r hr => h r (by simp [hr])]
   cases hf : rs.findIdx? p with
   | none => simp
   | some i => simp only [Option.map_some, Bool.false_eq_true, if_false]; rw [show k + 1 + i = k + (i + 1) by omega]
theorem idxA_any {q : List Za → Option Za} {p : List Za → Bool} (rs : List (List Za)) (h : ∀ r ∈ rs, q r = some (.bool (p r))) : ∃ i, idxA q 0 rs = some i ∧ decide (0 ≤ i) = rs.any p := by
 refine ⟨_, idxA_some rs 0 h, ?_⟩
 cases hf : rs.findIdx? p with
 | none =>
  rw [List.findIdx?_eq_none_iff] at hf
  have : rs.any p = false := by rw [List.any_eq_false]; exact fun x hx => by simp [hf x hx]
  rw [this]; rfl
 | some i =>
  have h1 : (rs.findIdx? p).isSome = true := by simp [hf]
  rw [List.findIdx?_isSome] at h1
  rw [h1]
  simp only [Nat.zero_add, decide_eq_true_eq]
  omega
def oCF (T : Nat → Option CFn) (s : Nat) : List Za → Option Za
 | [x, .fn g a b] => match Zm x with
  | some rs => if rs.length ≤ 1000 ∧ rs.all (fun r => r.length == s && r.all isI) = true then (match idxA (fun r => known T g (a ++ [elt r] ++ b)) 0 rs with
   | some i => some (.bool (decide (0 ≤ i)))
   | none => none) else none
  | none => none
 | _ => none
theorem oCF_any {T : Nat → Option CFn} {s : Nat} {x : Za} {g : Nat} {a b : List Za} {rs : List (List Za)} {p : List Za → Bool} (hx : Zm x = some rs) (hl : rs.length ≤ 1000) (hr : rs.all (fun r => r.length == s && r.all isI) = true)
  (h : ∀ r ∈ rs, known T g (a ++ [elt r] ++ b) = some (.bool (p r))) : oCF T s [x, .fn g a b] = some (.bool (rs.any p)) := by
 obtain ⟨i, h1, h2⟩ := idxA_any rs h
 simp only [oCF, hx, h1, h2, hl, hr, and_self, if_true]
theorem Yw (vs : List Za) (h : Zj) (hv : vs.all (rb 0 5) = true) : trim 0 vs h = [] := by simp [trim, hv]
theorem Yy (n : Nat) (vs : List Za) : trim n vs [] = [] := by simp [trim]
theorem Yx {n : Nat} (vs : List Za) {h : Zj} (hn : h.length = n) : trim n vs h = h := by subst hn; simp [trim]
theorem Yh (vs : List Za) (h : Zj) : trim h.length vs h = h := by simp [trim]
theorem get_app (h g : Zj) (k : Nat) : (h ++ g)[h.length + k]? = g[k]? := by
 rw [List.getElem?_append_right (by omega)]; congr 1; omega
end
end Go.Abs
namespace Go.Abs
open Go
def eqFs (P : Program) (ih : TypeId → Value → Value → Option Bool) (xs ys : Array Value) : List Field → Option Bool
 | [] => some true
 | f :: fs => if f.name = "_" then eqFs P ih xs ys fs else match Xf P (part f.type xs f.offset), Xf P (part f.type ys f.offset) with
  | some a, some b => match ih f.type a b, eqFs P ih xs ys fs with
   | some r, some q => some (r && q)
   | _, _ => none
  | _, _ => none
def eqF (P : Program) : Nat → TypeId → Value → Value → Option Bool
 | 0, _, _, _ => none
 | d + 1, t, x, y => match P.underlying t, x, y with
  | some (.int _), .int k a, .int k' b => if k = k' then some (a == b) else none
  | some .bool, .bool a, .bool b => some (a == b)
  | some (.struct fs), .agg xs, .agg ys => if P.stoodInHeld t = true then none else eqFs P (eqF P d) xs ys fs.toList
  | _, _, _ => none
theorem eqF_ok (P : Program) : ∀ (n : Nat) (t : TypeId) (x y : Value) (b : Bool), eqF P n t x y = some b → ∀ d, n ≤ d → Xf P (Op.equalIn d t x y) = some b
 | 0, _, _, _, _, h => by simp [eqF] at h
 | n + 1, t, x, y, b, h => by
  intro d hd
  obtain ⟨d, rfl⟩ : ∃ d', d = d' + 1 := ⟨d - 1, by omega⟩
  simp only [eqF] at h
  split at h
  ·rename_i hu
   split at h <;> simp at h
   rename_i hk
   simp only [Op.equalIn]
   rw [Yb P _ _ (Yq hu)]
   simp only [hk, if_true]
   subst h; rfl
  ·rename_i hu
   simp at h
   simp only [Op.equalIn]
   rw [Yb P _ _ (Yq hu)]
   subst h; rfl
  ·rename_i fs xs ys hu
   split at h
   ·simp at h
   ·rename_i hst
    simp only [Op.equalIn]
    rw [Yb P _ _ (Yq hu)]
    simp only
    rw [Yb P _ _ (evalS_program P)]
    simp only [hst, if_false, Bool.false_eq_true]
    rw [← Array.forIn_toList]
    clear hu
    have hd' : n ≤ d := by omega
    generalize fs.toList = l at h
    induction l generalizing b with
    | nil => simp [eqFs] at h; subst h; rfl
    | cons f l ih =>
     simp only [eqFs] at h
     simp only [List.forIn_cons]
     split at h
     ·rename_i hn
      simp only [hn, ne_eq, not_true, if_false, Bool.false_eq_true]
      exact ih b h
     ·rename_i hn
      split at h
      ·rename_i a1 b1 hp1 hp2
       split at h
       ·rename_i r q hr hq
        simp at h
        have h3 := eqF_ok P n f.type a1 b1 r hr d hd'
        simp only [hn, ne_eq, not_false_eq_true, if_true]
        cases r with
        | false =>
         simp at h; subst h
         simp [YN, hp1, hp2, h3, ZK]
        | true =>
         simp at h; subst h
         have := ih q hq
         simp only [ne_eq] at this
         rw [YN] at this ⊢
         simp only [YN, hp1, hp2, h3, ZK, Option.bind_some, Bool.not_true, Bool.false_eq_true, if_false]
         exact this
       ·simp at h
      ·simp at h
  ·simp at h
theorem evalS_eqv {P : Program} {ne : Bool} {t : TypeId} {x y : Operand} {xs ys : Array Value} {b : Bool} (hg : P.eqGuardType P.depth t = false) (he : eqF P 5 t (.agg xs) (.agg ys) = some b) :
  Xf P (do eqGuard (if ne then .neq else .eql) t x y (.agg xs) (.agg ys); binOp (if ne then .neq else .eql) t (.agg xs) (.agg ys)) = some (.bool (b != ne)) := by
 have h1 := eqF_ok P 5 t _ _ b he Op.maxDepth (by decide)
 cases ne
 ·have hq : Xf P (eqGuard .eql t x y (.agg xs) (.agg ys)) = some () := by
   simp [eqGuard, YN, evalS_program, hg, ZK]
  simp only [Bool.false_eq_true, if_false]
  rw [Yb P _ _ hq]
  simp only [binOp, Op.equal]
  rw [Yb P _ _ h1]
  simp [ZK]
 ·have hq : Xf P (eqGuard .neq t x y (.agg xs) (.agg ys)) = some () := by
   simp [eqGuard, YN, evalS_program, hg, ZK]
  simp only [if_true]
  rw [Yb P _ _ hq]
  simp only [binOp, Op.equal]
  rw [Yb P _ _ h1]
  simp [ZK]
end Go.Abs
namespace Go.Proofs.YtpebmjeomlgmdaaGreatDoor.Tab
open Go Go.Abs Go.Proofs
set_option maxRecDepth 100000
set_option maxHeartbeats 4000000
section
variable (P : Program)
attribute [local simp] Yv Ye XB XC YD YJ XD YL Xh YC Zf orcF Xv YV Xx Xt YU YA rb_vl rb_pv Xr YT YS YR Xw Xs Xu XZ rb_fn slE XP Xk Yp ZQ XG List.range_succ List.range_zero List.range'_succ List.range'_zero Yi Yg ZK Yl ZR ZT Xm Yf dop CV.ev cellsOf Ys ZA ZM Xa fI_eq Yt Yc ZN Zz Out.v Xy List.replicate_succ zT zB arI ZO Abs.rowAt Xq allV toV toC ofV ofC Builtin.min_ Builtin.min2 Builtin.max_ Builtin.max2 Xz XA resA XS Xj Yh Yx Yy Yw Zd
attribute [local simp] Yj ZU YP YM XR Xo disj YY holes YZ ZX Xb news eqB Xc eqA YK Xi toCs ofCs stA ZE Yz ZV Yr dI1 dI2 dI3 dI5 elt
def o84 : List Za → Option Za
  | [.int .i64 x, .pv [.int .i64 a] 0, .pv [.int .i64 b] 0] => some (.bool (decide (x < a) || decide (b < x)))
  | _ => none
theorem a84 (T : Nat → Option CFn) (hT : T 67 = some c67) (x a b : Int) : Zr P T 67 [I x, .pv [I a] 0, .pv [I b] 0] [] fun v h => v = .bool (decide (x < a) || decide (b < x)) ∧ h = [] := by
 refine Zl hT (Zo rfl) ?_
 simp only [oo, om, op, og, ci, cl, c67]
 refine zS (zR (zO (by simp; rfl) ?_))
 simp only [zT, zB]
 by_cases hx : x < a
 ·refine zS (zR (zO (by simp [hx]; rfl) ?_))
  simp only [zT, zB]
  refine Zg ?_
  simp [hx]
 ·refine zS (zR (zO (by simp [hx]; rfl) ?_))
  simp only [zT, zB]
  refine Zg ?_
  simp [hx]
def tw (up down frm room hours : Int) : Int := if frm < room then min room (W .i64 (frm + W .i64 (up * hours))) else max room (W .i64 (frm - W .i64 (down * hours)))
def o88 : List Za → Option Za
  | [.agg [.int .i64 up, .int .i64 down], .int .i64 frm, .int .i64 room, .int .i64 hours] => some (.int .i64 (tw up down frm room hours))
  | _ => none
def hr (up down frm room : Int) : Int := if frm < room then min room (W .i64 (frm + up)) else max room (W .i64 (frm - down))
def o87 : List Za → Option Za
  | [.agg [.int .i64 up, .int .i64 down], .int .i64 frm, .int .i64 room] => some (.int .i64 (hr up down frm room))
  | _ => none
theorem a88 (T : Nat → Option CFn) (hT : T 65 = some c65) (up down frm room hours : Int) : Zr P T 65 [.agg [I up, I down], I frm, I room, I hours] [] fun v h => v = I (tw up down frm room hours) ∧ h = [] := by
 refine Zl hT (Zo rfl) ?_
 simp only [oo, om, op, og, ci, cl, c65]
 refine zS (zR (zO (by simp; rfl) ?_))
 simp only [zT, zB]
 refine zS (zS (zR (zO (by simp; rfl) ?_)))
 simp only [zT, zB]
 refine Zk (x := decide (frm < room)) (by simp) (fun hc => ?_) (fun hc => ?_)
 ·refine zS (zR (zO (by simp; rfl) ?_))
  simp only [zT, zB]
  have hc : frm < room := by simpa using hc
  refine Zg ?_
  simp [tw, hc]
 ·refine zK ?_
  simp only [zT, zB]
  refine zS (zR (zO (by simp; rfl) ?_))
  simp only [zT, zB]
  have hc : ¬ frm < room := by simpa using hc
  refine Zg ?_
  simp [tw, hc]
theorem a87 (T : Nat → Option CFn) (hT : T 87 = some c87) (up down frm room : Int) : Zr P T 87 [.agg [I up, I down], I frm, I room] [] fun v h => v = I (hr up down frm room) ∧ h = [] := by
 refine Zl hT (Zo rfl) ?_
 simp only [oo, om, op, og, ci, cl, c87]
 refine zS (zR (zO (by simp; rfl) ?_))
 simp only [zT, zB]
 refine zS (zS (zR (zO (by simp; rfl) ?_)))
 simp only [zT, zB]
 refine Zk (x := decide (frm < room)) (by simp) (fun hc => ?_) (fun hc => ?_)
 ·refine zS (zR (zO (by simp; rfl) ?_))
  simp only [zT, zB]
  have hc : frm < room := by simpa using hc
  refine Zg ?_
  simp [hr, hc]
 ·refine zK ?_
  simp only [zT, zB]
  refine zS (zR (zO (by simp; rfl) ?_))
  simp only [zT, zB]
  have hc : ¬ frm < room := by simpa using hc
  refine Zg ?_
  simp [hr, hc]
def o60 : List Za → Option Za
  | [.int .i64 n, .int .i64 a, .int .i64 b] => some (.bool (decide (a ≤ n) && decide (n ≤ b)))
  | _ => none
theorem a60 (T : Nat → Option CFn) (hT : T 34 = some c34) (n a b : Int) : Zr P T 34 [I n, I a, I b] [] fun v h => v = .bool (decide (a ≤ n) && decide (n ≤ b)) ∧ h = [] := by
 refine Zl hT (Zo rfl) ?_
 simp only [oo, om, op, og, ci, cl, c34]
 refine zS (zR (zO (by simp; rfl) ?_))
 simp only [zT, zB]
 by_cases hx : a ≤ n
 ·refine zS (zR (zO (by simp [hx]; rfl) ?_))
  simp only [zT, zB]
  refine Zg ?_
  simp [hx]
 ·refine zS (zR (zO (by simp [hx]; rfl) ?_))
  simp only [zT, zB]
  refine Zg ?_
  simp [hx]
theorem eq25n (x y : Operand) (a0 a1 b0 b1 : Int) : Xf Tryz.prog (do eqGuard .neq 45 x y (.agg #[.int .i64 a0, .int .i64 a1]) (.agg #[.int .i64 b0, .int .i64 b1]); binOp .neq 45 (.agg #[.int .i64 a0, .int .i64 a1]) (.agg #[.int .i64 b0, .int .i64 b1])) = some (.bool (!((a0 == b0) && ((a1 == b1) && true)))) := by
  have h := evalS_eqv (P := Tryz.prog) (ne := true) (t := 45) (x := x) (y := y) (xs := #[.int .i64 a0, .int .i64 a1]) (ys := #[.int .i64 b0, .int .i64 b1]) (b := ((a0 == b0) && ((a1 == b1) && true))) (by kernel_rfl) (by kernel_rfl)
  simpa only [if_true, if_false, Bool.false_eq_true, Bool.bne_true, Bool.bne_false] using h
theorem a20 (T : Nat → Option CFn) (hT : T 27 = some c27) (x y : Za) (rs : List (List Za)) (hx : Zm x = some rs) (hy : Zm y = some rs) (hl : rs.length ≤ 1000) (hr : ∀ r ∈ rs, ∃ y0 y1 : Int, r = [I y0, I y1]) : Zr Tryz.prog T 27 [x, y] [] fun v h => v = .bool true ∧ h = [] := by
  refine Zl hT (Zo rfl) ?_
  simp only [oo, om, op, og, ci, cl, c27]
  have lx := Zv hx
  have ly := Zv hy
  refine zS (zR (zO (by simp; rfl) ?_))
  simp only [zT, zB]
  refine zS (zS (zR (zO (by simp [lx, ly, -Zd]; rfl) ?_)))
  simp only [zT, zB]
  refine Zi (x := false) (by simp) ?_
  refine zK ?_
  simp only [zT, zB]
  refine zS (zS (zR (zO (by simp; rfl) ?_)))
  simp only [zT, zB]
  refine zL ?_
  refine ZL (fun m σ => ∃ (k : Nat) (i : Int), i = k ∧ m = rs.length - k ∧ k ≤ rs.length ∧
     σ = ⟨[x, y, .any, .any, .any, I i, .any, .any, .any, .any, .any, .any, .any, .any, .any, .any, .any, .any, .any, .any, .any, .any, .any, .any, .any, .any], []⟩) ?_ (rs.length - 0) _ ⟨0, 0, rfl, rfl, Nat.zero_le _, by simp⟩
  rintro m σ ⟨k, i, hik, rfl, hk, rfl⟩
  have h0 : 0 ≤ i := by omega
  have htn : i.toNat = k := by omega
  refine zS (zS (zR (zO (by simp [lx, -Zd]; rfl) ?_)))
  simp only [zT, zB]
  refine Zk (x := decide (i < rs.length)) (by simp) (fun hlt => ?_) (fun hge => ?_)
  · refine zK ?_
    simp only [zT, zB]
    have hlt' : k < rs.length := by have := of_decide_eq_true hlt; omega
    obtain ⟨t1, rfl⟩ := ZG hx hlt'
    obtain ⟨t2, rfl⟩ := ZG hy hlt'
    obtain ⟨y0, y1, hrk⟩ := hr _ (List.getElem_mem hlt')
    refine zS (zL ?_)
    refine zS (Yd (by simp [h0, htn, hlt', hrk, eq25n]; rfl) ?_)
    simp only [zT, zB]
    refine Zi (x := false) (by simp) ?_
    refine zK ?_
    simp only [zT, zB]
    refine zR (zO (by simp; rfl) ?_)
    simp only [zT, zB]
    refine ⟨rs.length - (k + 1), by omega, k + 1, i + 1, by omega, rfl, by omega, ?_⟩
    simp [ZH (show -1000000 ≤ i + 1 ∧ i + 1 ≤ 1000000 by omega)]
  · refine ZI ?_
    simp only [zT, zB, if_true]
    refine zS (zR (zO (by simp; rfl) ?_))
    simp only [zT, zB]
    refine Zg ?_
    simp
end
end Go.Proofs.YtpebmjeomlgmdaaGreatDoor.Tab
namespace Go.Proofs.YtpebmjeomlgmdaaGreatDoor.Tab
open Go Go.Abs Go.Proofs
set_option maxRecDepth 100000
set_option maxHeartbeats 4000000
noncomputable section
attribute [local simp] Yv Ye XB XC YD YJ XD YL Xh YC Zf orcF Xv YV Xx Xt YU YA rb_vl rb_pv Xr YT YS YR Xw Xs Xu XZ rb_fn slE XP Xk Yp ZQ XG List.range_succ List.range_zero List.range'_succ List.range'_zero Yi Yg ZK Yl ZR ZT Xm Yf dop CV.ev cellsOf Ys ZA ZM Xa fI_eq Yt Yc ZN Zz Out.v Xy List.replicate_succ zT zB arI ZO Abs.rowAt Xq allV toV toC ofV ofC Builtin.min_ Builtin.min2 Builtin.max_ Builtin.max2 Xz XA resA XS Xj Yh Yx Yy Yw Zd
section
attribute [local simp] Yj ZU YP YM XR Xo disj YY holes YZ ZX Xb news eqB Xc eqA YK Xi toCs ofCs stA ZE Yz ZV Yr dI1 dI2 dI3 dI5 elt
theorem T_ok : ZB Tryz.prog GG T := tabOk
def oSame (s : Nat) : List Za → Option Za
  | [x, y] => match Zm x, Zm y with
    | some rs, some rs' => if rs.length ≤ 1000 ∧ rs.all (fun r => r.length == s && r.all isI) = true ∧ Xc (Xc (eqA 3)) rs rs' = true then some (.bool true) else none
    | _, _ => none
  | _ => none
def TA_84 : Nat → Option CFn := upd T 67 true (o84)
theorem TA_84_ok : ZB Tryz.prog GG TA_84 := ZD Zh T_ok fun args v ho => by
  unfold o84 at ho; split at ho <;> simp at ho
  rename_i x a b
  subst ho
  refine (a84 Tryz.prog T rfl x a b).mono ?_
  rintro v h ⟨rfl, rfl⟩
  rfl
def TA_88 : Nat → Option CFn := upd TA_84 65 true (o88)
theorem TA_88_ok : ZB Tryz.prog GG TA_88 := ZD Zh TA_84_ok fun args v ho => by
  unfold o88 at ho; split at ho <;> simp at ho
  rename_i a b c d e
  subst ho
  refine (a88 Tryz.prog TA_84 rfl a b c d e).mono ?_
  rintro v h ⟨rfl, rfl⟩
  rfl
def TA_87 : Nat → Option CFn := upd TA_88 87 true (o87)
theorem TA_87_ok : ZB Tryz.prog GG TA_87 := ZD Zh TA_88_ok fun args v ho => by
  unfold o87 at ho; split at ho <;> simp at ho
  rename_i a b c d
  subst ho
  refine (a87 Tryz.prog TA_88 rfl a b c d).mono ?_
  rintro v h ⟨rfl, rfl⟩
  rfl
def TA_60 : Nat → Option CFn := upd TA_87 34 true (o60)
theorem TA_60_ok : ZB Tryz.prog GG TA_60 := ZD Zh TA_87_ok fun args v ho => by
  unfold o60 at ho; split at ho <;> simp at ho
  rename_i a b c
  subst ho
  refine (a60 Tryz.prog TA_87 rfl a b c).mono ?_
  rintro v h ⟨rfl, rfl⟩
  rfl
def TA : Nat → Option CFn := upd TA_60 27 true (oSame 2)
theorem TA_ok : ZB Tryz.prog GG TA := ZD Zh TA_60_ok fun args v ho => by
  unfold oSame at ho; split at ho <;> (try simp at ho)
  rename_i x y
  split at ho <;> simp at ho
  rename_i rs rs' hx hy
  obtain ⟨⟨hl, hr, he⟩, rfl⟩ := ho
  have e : rs' = rs := allB_rows rs rs' he fun r h => (hr r h).2
  subst e
  refine (a20 TA_60 rfl x y rs' hx hy hl fun r h => ints2 (hr r h).1 (hr r h).2).mono ?_
  rintro v h ⟨rfl, rfl⟩
  rfl
end
end
end Go.Proofs.YtpebmjeomlgmdaaGreatDoor.Tab
namespace Go.Proofs.YtpebmjeomlgmdaaGreatDoor.Tab
open Go Go.Abs Go.Proofs
set_option maxRecDepth 100000
noncomputable section
attribute [local simp] Yv Ye XB XC YD YJ XD YL Xh YC Zf orcF Xv YV Xx Xt YU YA rb_vl rb_pv Xr YT YS YR Xw Xs Xu XZ rb_fn slE XP Xk Yp ZQ XG List.range_succ List.range_zero List.range'_succ List.range'_zero Yi Yg ZK Yl ZR ZT Xm Yf dop CV.ev cellsOf Ys ZA ZM Xa fI_eq Yt Yc ZN Zz Out.v Xy List.replicate_succ zT zB arI ZO Abs.rowAt Xq allV toV toC ofV ofC Builtin.min_ Builtin.min2 Builtin.max_ Builtin.max2 Xz XA resA XS Xj Yh Yx Yy Yw Zd
section
attribute [local simp] Yj ZU YP YM XR Xo disj YY holes YZ ZX Xb news eqB Xc eqA YK Xi toCs ofCs stA ZE Yz ZV Yr dI1 dI2 dI3 dI5 elt
theorem a103 (P : Program) (T : Nat → Option CFn) (hT : T 80 = some c80) (x : Za) (rs : List (List Za)) (hx : Zm x = some rs) (g : Nat) (a b : List Za) (r : Int) (hl : rs.length ≤ 1000) (hr : rs.all (fun r => r.length == 1 && r.all isI) = true)
  (hq : idxA (fun r => known T g (a ++ [elt r] ++ b)) 0 rs = some r) : Zr P T 80 [x, .fn g a b] [] fun v h => v = .int .i64 r ∧ h = [] := by
 have lx := Zv hx
 refine Zl hT (Zo rfl) ?_
 simp only [oo, om, op, og, ci, cl, c80]
 refine zS (zR (zO (by simp; rfl) ?_))
 simp only [zT, zB]
 refine zS (zS (zR (zO (by simp [lx, -Zd]; rfl) ?_)))
 simp only [zT, zB]
 refine zL ?_
 refine ZL (fun m σ => ∃ (k : Nat) (i : Int), i = k ∧ m = rs.length - k ∧ k ≤ rs.length ∧ idxA (fun r => known T g (a ++ [elt r] ++ b)) k (rs.drop k) = some r ∧
  σ = ⟨[x, .fn g a b, .any, .any, .any, .any, .any, I rs.length, I i, .any, .any, .any, .any, .any, .any, .any, .any, .any, .any], []⟩) ?_ (rs.length - 0) _ ⟨0, 0, rfl, rfl, Nat.zero_le _, hq, by simp⟩
 rintro m σ ⟨k, i, hik, rfl, hk, hi, rfl⟩
 have h0 : 0 ≤ i := by omega
 have htn : i.toNat = k := by omega
 refine zS (zR (zO (by simp; rfl) ?_))
 simp only [zT, zB]
 refine zS (Zk (x := decide (i < rs.length)) (by simp) (fun hlt => ?_) (fun hge => ?_))
 ·refine zK ?_
  simp only [zT, zB]
  have hlt' : k < rs.length := by have := of_decide_eq_true hlt; omega
  obtain ⟨tt, rfl⟩ := ZG hx hlt'
  have hr1 := List.all_eq_true.1 hr _ (List.getElem_mem hlt')
  simp only [Bool.and_eq_true, beq_iff_eq, List.all_eq_true] at hr1
  obtain ⟨y0, hrk⟩ := ints1 hr1.1 hr1.2
  rw [List.drop_eq_getElem_cons hlt'] at hi
  simp only [idxA] at hi
  refine zS (zL ?_)
  refine zS (zR (zO (by simp; rfl) ?_))
  simp only [zT, zB]
  split at hi
  ·rename_i hb
   simp at hi; rw [← hik] at hi; subst hi
   rw [hrk] at hb; simp only [elt, List.append_assoc, List.cons_append, List.nil_append] at hb
   refine zS (zR (zO (by simp [h0, htn, hlt', hrk, lop, Yk, Ya, Zq, XQ hb]; rfl) ?_))
   simp only [zT, zB]
   refine Zi (x := true) (by simp) ?_
   refine zS (zR (zO (by simp; rfl) ?_))
   simp only [zT, zB]
   refine Zg ?_
   simp
  ·rename_i hb
   rw [hrk] at hb; simp only [elt, List.append_assoc, List.cons_append, List.nil_append] at hb
   refine zS (zR (zO (by simp [h0, htn, hlt', hrk, lop, Yk, Ya, Zq, XQ hb]; rfl) ?_))
   simp only [zT, zB]
   refine Zi (x := false) (by simp) ?_
   refine zK ?_
   simp only [zT, zB]
   refine zR (zO (by simp; rfl) ?_)
   simp only [zT, zB]
   refine ⟨rs.length - (k + 1), by omega, k + 1, i + 1, by omega, rfl, by omega, hi, ?_⟩
   simp [ZH (show -1000000 ≤ i + 1 ∧ i + 1 ≤ 1000000 by omega)]
  ·simp at hi
 ·refine ZI ?_
  simp only [zT, zB, if_true]
  have hke : k = rs.length := by
   have := of_decide_eq_false hge
   omega
  subst hke
  rw [List.drop_length] at hi
  simp [idxA] at hi
  subst hi
  refine zS (zR (zO (by simp; rfl) ?_))
  simp only [zT, zB]
  refine Zg ?_
  simp
theorem a102 (P : Program) (T : Nat → Option CFn) (hT : T 79 = some c79) (x : Za) (rs : List (List Za)) (hx : Zm x = some rs) (g : Nat) (a b : List Za) (r : Int) (hl : rs.length ≤ 1000) (hr : rs.all (fun r => r.length == 2 && r.all isI) = true)
  (hq : idxA (fun r => known T g (a ++ [elt r] ++ b)) 0 rs = some r) : Zr P T 79 [x, .fn g a b] [] fun v h => v = .int .i64 r ∧ h = [] := by
 have lx := Zv hx
 refine Zl hT (Zo rfl) ?_
 simp only [oo, om, op, og, ci, cl, c79]
 refine zS (zR (zO (by simp; rfl) ?_))
 simp only [zT, zB]
 refine zS (zS (zR (zO (by simp [lx, -Zd]; rfl) ?_)))
 simp only [zT, zB]
 refine zL ?_
 refine ZL (fun m σ => ∃ (k : Nat) (i : Int), i = k ∧ m = rs.length - k ∧ k ≤ rs.length ∧ idxA (fun r => known T g (a ++ [elt r] ++ b)) k (rs.drop k) = some r ∧
  σ = ⟨[x, .fn g a b, .any, .any, .any, .any, .any, I rs.length, I i, .any, .any, .any, .any, .any, .any, .any, .any, .any, .any], []⟩) ?_ (rs.length - 0) _ ⟨0, 0, rfl, rfl, Nat.zero_le _, hq, by simp⟩
 rintro m σ ⟨k, i, hik, rfl, hk, hi, rfl⟩
 have h0 : 0 ≤ i := by omega
 have htn : i.toNat = k := by omega
 refine zS (zR (zO (by simp; rfl) ?_))
 simp only [zT, zB]
 refine zS (Zk (x := decide (i < rs.length)) (by simp) (fun hlt => ?_) (fun hge => ?_))
 ·refine zK ?_
  simp only [zT, zB]
  have hlt' : k < rs.length := by have := of_decide_eq_true hlt; omega
  obtain ⟨tt, rfl⟩ := ZG hx hlt'
  have hr1 := List.all_eq_true.1 hr _ (List.getElem_mem hlt')
  simp only [Bool.and_eq_true, beq_iff_eq, List.all_eq_true] at hr1
  obtain ⟨y0, y1, hrk⟩ := ints2 hr1.1 hr1.2
  rw [List.drop_eq_getElem_cons hlt'] at hi
  simp only [idxA] at hi
  refine zS (zL ?_)
  refine zS (zR (zO (by simp; rfl) ?_))
  simp only [zT, zB]
  split at hi
  ·rename_i hb
   simp at hi; rw [← hik] at hi; subst hi
   rw [hrk] at hb; simp only [elt, List.append_assoc, List.cons_append, List.nil_append] at hb
   refine zS (zR (zO (by simp [h0, htn, hlt', hrk, lop, Yk, Ya, Zq, XQ hb]; rfl) ?_))
   simp only [zT, zB]
   refine Zi (x := true) (by simp) ?_
   refine zS (zR (zO (by simp; rfl) ?_))
   simp only [zT, zB]
   refine Zg ?_
   simp
  ·rename_i hb
   rw [hrk] at hb; simp only [elt, List.append_assoc, List.cons_append, List.nil_append] at hb
   refine zS (zR (zO (by simp [h0, htn, hlt', hrk, lop, Yk, Ya, Zq, XQ hb]; rfl) ?_))
   simp only [zT, zB]
   refine Zi (x := false) (by simp) ?_
   refine zK ?_
   simp only [zT, zB]
   refine zR (zO (by simp; rfl) ?_)
   simp only [zT, zB]
   refine ⟨rs.length - (k + 1), by omega, k + 1, i + 1, by omega, rfl, by omega, hi, ?_⟩
   simp [ZH (show -1000000 ≤ i + 1 ∧ i + 1 ≤ 1000000 by omega)]
  ·simp at hi
 ·refine ZI ?_
  simp only [zT, zB, if_true]
  have hke : k = rs.length := by
   have := of_decide_eq_false hge
   omega
  subst hke
  rw [List.drop_length] at hi
  simp [idxA] at hi
  subst hi
  refine zS (zR (zO (by simp; rfl) ?_))
  simp only [zT, zB]
  refine Zg ?_
  simp
theorem a85 (P : Program) (T : Nat → Option CFn) (hT : T 78 = some c78) (x : Za) (rs : List (List Za)) (hx : Zm x = some rs) (g : Nat) (a b : List Za) (r : Int) (hl : rs.length ≤ 1000) (hr : rs.all (fun r => r.length == 3 && r.all isI) = true)
  (hq : idxA (fun r => known T g (a ++ [elt r] ++ b)) 0 rs = some r) : Zr P T 78 [x, .fn g a b] [] fun v h => v = .int .i64 r ∧ h = [] := by
 have lx := Zv hx
 refine Zl hT (Zo rfl) ?_
 simp only [oo, om, op, og, ci, cl, c78]
 refine zS (zR (zO (by simp; rfl) ?_))
 simp only [zT, zB]
 refine zS (zS (zR (zO (by simp [lx, -Zd]; rfl) ?_)))
 simp only [zT, zB]
 refine zL ?_
 refine ZL (fun m σ => ∃ (k : Nat) (i : Int), i = k ∧ m = rs.length - k ∧ k ≤ rs.length ∧ idxA (fun r => known T g (a ++ [elt r] ++ b)) k (rs.drop k) = some r ∧
  σ = ⟨[x, .fn g a b, .any, .any, .any, .any, .any, I rs.length, I i, .any, .any, .any, .any, .any, .any, .any, .any, .any, .any], []⟩) ?_ (rs.length - 0) _ ⟨0, 0, rfl, rfl, Nat.zero_le _, hq, by simp⟩
 rintro m σ ⟨k, i, hik, rfl, hk, hi, rfl⟩
 have h0 : 0 ≤ i := by omega
 have htn : i.toNat = k := by omega
 refine zS (zR (zO (by simp; rfl) ?_))
 simp only [zT, zB]
 refine zS (Zk (x := decide (i < rs.length)) (by simp) (fun hlt => ?_) (fun hge => ?_))
 ·refine zK ?_
  simp only [zT, zB]
  have hlt' : k < rs.length := by have := of_decide_eq_true hlt; omega
  obtain ⟨tt, rfl⟩ := ZG hx hlt'
  have hr1 := List.all_eq_true.1 hr _ (List.getElem_mem hlt')
  simp only [Bool.and_eq_true, beq_iff_eq, List.all_eq_true] at hr1
  obtain ⟨y0, y1, y2, hrk⟩ := ints3 hr1.1 hr1.2
  rw [List.drop_eq_getElem_cons hlt'] at hi
  simp only [idxA] at hi
  refine zS (zL ?_)
  refine zS (zR (zO (by simp; rfl) ?_))
  simp only [zT, zB]
  split at hi
  ·rename_i hb
   simp at hi; rw [← hik] at hi; subst hi
   rw [hrk] at hb; simp only [elt, List.append_assoc, List.cons_append, List.nil_append] at hb
   refine zS (zR (zO (by simp [h0, htn, hlt', hrk, lop, Yk, Ya, Zq, XQ hb]; rfl) ?_))
   simp only [zT, zB]
   refine Zi (x := true) (by simp) ?_
   refine zS (zR (zO (by simp; rfl) ?_))
   simp only [zT, zB]
   refine Zg ?_
   simp
  ·rename_i hb
   rw [hrk] at hb; simp only [elt, List.append_assoc, List.cons_append, List.nil_append] at hb
   refine zS (zR (zO (by simp [h0, htn, hlt', hrk, lop, Yk, Ya, Zq, XQ hb]; rfl) ?_))
   simp only [zT, zB]
   refine Zi (x := false) (by simp) ?_
   refine zK ?_
   simp only [zT, zB]
   refine zR (zO (by simp; rfl) ?_)
   simp only [zT, zB]
   refine ⟨rs.length - (k + 1), by omega, k + 1, i + 1, by omega, rfl, by omega, hi, ?_⟩
   simp [ZH (show -1000000 ≤ i + 1 ∧ i + 1 ≤ 1000000 by omega)]
  ·simp at hi
 ·refine ZI ?_
  simp only [zT, zB, if_true]
  have hke : k = rs.length := by
   have := of_decide_eq_false hge
   omega
  subst hke
  rw [List.drop_length] at hi
  simp [idxA] at hi
  subst hi
  refine zS (zR (zO (by simp; rfl) ?_))
  simp only [zT, zB]
  refine Zg ?_
  simp
theorem a83 (P : Program) (T : Nat → Option CFn) (hT : T 66 = some c66) (hj : T 80 = some c80) (x : Za) (rs : List (List Za)) (hx : Zm x = some rs) (g : Nat) (a b : List Za) (r : Int) (hl : rs.length ≤ 1000) (hr : rs.all (fun r => r.length == 1 && r.all isI) = true)
  (hq : idxA (fun r => known T g (a ++ [elt r] ++ b)) 0 rs = some r) : Zr P T 66 [x, .fn g a b] [] fun v h => v = .bool (decide (0 ≤ r)) ∧ h = [] := by
 refine Zl hT (Zo rfl) ?_
 simp only [oo, om, op, og, ci, cl, c66]
 refine zS (zR (zO (by simp; rfl) ?_))
 simp only [zT, zB]
 refine zS (zR ?_)
 refine Yo 0 (by simp; rfl) (Yo 0 (by simp; rfl) ?_)
 refine ops_call (f := 80) (args := [x, .fn g a b]) (by simp) (by simp) (by simp [lop]) (by simp [Zq]) ?_
 refine (a103 P T hj x rs hx g a b r hl hr hq).mono ?_
 rintro v h' ⟨rfl, rfl⟩
 refine zO (by simp; rfl) ?_
 simp only [zT, zB]
 refine Zg ?_
 simp
theorem a80 (P : Program) (T : Nat → Option CFn) (hT : T 62 = some c62) (hj : T 79 = some c79) (x : Za) (rs : List (List Za)) (hx : Zm x = some rs) (g : Nat) (a b : List Za) (r : Int) (hl : rs.length ≤ 1000) (hr : rs.all (fun r => r.length == 2 && r.all isI) = true)
  (hq : idxA (fun r => known T g (a ++ [elt r] ++ b)) 0 rs = some r) : Zr P T 62 [x, .fn g a b] [] fun v h => v = .bool (decide (0 ≤ r)) ∧ h = [] := by
 refine Zl hT (Zo rfl) ?_
 simp only [oo, om, op, og, ci, cl, c62]
 refine zS (zR (zO (by simp; rfl) ?_))
 simp only [zT, zB]
 refine zS (zR ?_)
 refine Yo 0 (by simp; rfl) (Yo 0 (by simp; rfl) ?_)
 refine ops_call (f := 79) (args := [x, .fn g a b]) (by simp) (by simp) (by simp [lop]) (by simp [Zq]) ?_
 refine (a102 P T hj x rs hx g a b r hl hr hq).mono ?_
 rintro v h' ⟨rfl, rfl⟩
 refine zO (by simp; rfl) ?_
 simp only [zT, zB]
 refine Zg ?_
 simp
theorem a58 (P : Program) (T : Nat → Option CFn) (hT : T 60 = some c60) (hj : T 78 = some c78) (x : Za) (rs : List (List Za)) (hx : Zm x = some rs) (g : Nat) (a b : List Za) (r : Int) (hl : rs.length ≤ 1000) (hr : rs.all (fun r => r.length == 3 && r.all isI) = true)
  (hq : idxA (fun r => known T g (a ++ [elt r] ++ b)) 0 rs = some r) : Zr P T 60 [x, .fn g a b] [] fun v h => v = .bool (decide (0 ≤ r)) ∧ h = [] := by
 refine Zl hT (Zo rfl) ?_
 simp only [oo, om, op, og, ci, cl, c60]
 refine zS (zR (zO (by simp; rfl) ?_))
 simp only [zT, zB]
 refine zS (zR ?_)
 refine Yo 0 (by simp; rfl) (Yo 0 (by simp; rfl) ?_)
 refine ops_call (f := 78) (args := [x, .fn g a b]) (by simp) (by simp) (by simp [lop]) (by simp [Zq]) ?_
 refine (a85 P T hj x rs hx g a b r hl hr hq).mono ?_
 rintro v h' ⟨rfl, rfl⟩
 refine zO (by simp; rfl) ?_
 simp only [zT, zB]
 refine Zg ?_
 simp
def TB : Nat → Option CFn := upd TA 66 true (oCF TA 1)
theorem TB_ok : ZB Tryz.prog GG TB := ZD Zh TA_ok fun args v ho => by
  unfold oCF at ho; split at ho <;> (try simp at ho)
  rename_i x g a b
  split at ho <;> (try simp at ho)
  rename_i rs hx
  obtain ⟨⟨hl, hr⟩, ho⟩ := ho
  split at ho <;> simp at ho
  rename_i r hq
  subst ho
  refine (a83 Tryz.prog TA rfl rfl x rs hx g a b r hl (by simpa using hr) (by simpa using hq)).mono ?_
  rintro v h ⟨rfl, rfl⟩
  rfl
def wB (a b : Int) (xs : List Int) : Bool := xs.all fun x => decide (a ≤ x) && decide (x ≤ b)
def o56 : List Za → Option Za
  | [.int .i64 a, .int .i64 b, x] => match Zm x with
    | some rs => match Zf dI1 rs with
      | some xs => if xs.length ≤ 1000 then some (.bool (wB a b xs)) else none
      | none => none
    | none => none
  | _ => none
theorem a56 (P : Program) (T : Nat → Option CFn) (hT : T 45 = some c45) (h83 : T 66 = some { c66 with frsh := true, orc := oCF TA 1 }) (a b : Int) (x : Za) (xs : List Int) (hx : Zm x = some (xs.map fun x => [I x])) (hl : xs.length ≤ 1000) :
  Zr P T 45 [I a, I b, x] [] fun v h => v = .bool (wB a b xs) ∧ h = [] := by
 have hcf : oCF TA 1 [x, .fn 67 [] [.pv [I a] 0, .pv [I b] 0]] = some (.bool ((xs.map fun x => [I x]).any fun r => match r with | [.int .i64 n] => decide (n < a) || decide (b < n) | _ => false)) := by
  refine oCF_any hx (by simpa using hl) (by simp [isI]) ?_
  intro r hr
  obtain ⟨n, _, rfl⟩ := List.mem_map.1 hr
  rfl
 have hv : (!((xs.map fun x => [I x]).any fun r => match r with | [.int .i64 n] => decide (n < a) || decide (b < n) | _ => false)) = wB a b xs := by
  simp only [wB, List.any_map, List.not_any_eq_all_not]
  congr 1
  funext n
  simp only [Function.comp]
  rw [Bool.eq_iff_iff]
  simp
 rw [← hv]
 generalize hbb : ((xs.map fun x => [I x]).any fun r => match r with | [.int .i64 n] => decide (n < a) || decide (b < n) | _ => false) = bb at hcf
 refine Zl hT (Zo rfl) ?_
 simp only [oo, om, op, og, ci, cl, c45]
 refine zS (zR (zO (by simp; rfl) ?_))
 simp only [zT, zB]
 refine zS (zR (zO (by simp [lop, Yk, Ya, Zq, zC h83, Zw hx, hcf]; rfl) ?_))
 simp only [zT, zB]
 refine Zg ?_
 simp
def TC : Nat → Option CFn := upd TB 45 true (o56)
theorem TC_ok : ZB Tryz.prog GG TC := ZD Zh TB_ok fun args v ho => by
  unfold o56 at ho; split at ho <;> (try simp at ho)
  rename_i a b x
  split at ho <;> (try simp at ho)
  rename_i rs hx
  split at ho <;> (try simp at ho)
  rename_i xs hxs
  obtain ⟨hl, rfl⟩ := ho
  have e := ZY dI1_eq hxs
  subst e
  refine (a56 Tryz.prog TB rfl rfl a b x xs hx hl).mono ?_
  rintro v h ⟨rfl, rfl⟩
  rfl
end
section
attribute [local simp] Yj ZU YP YM XR Xo disj YY holes YZ ZX Xb news eqB Xc eqA YK Xi toCs ofCs stA ZE Yz ZV Yr dI1 dI2 dI3 dI5 elt
def ruleB (u d : Int) : Bool := wB 0 50 [u, d]
def YW (l h : Int) : Bool := wB 0 300 [l, h] && decide (l ≤ h)
def o57 : List Za → Option Za
  | [.agg [.int .i64 u, .int .i64 d]] => some (.bool (ruleB u d))
  | _ => none
def o82 : List Za → Option Za
  | [.agg [.int .i64 l, .int .i64 h]] => some (.bool (YW l h))
  | _ => none
def o81 : List Za → Option Za
  | [.agg [.int .i64 l, .int .i64 h]] => some (.bool (!YW l h))
  | _ => none
def o55 : List Za → Option Za
  | [x] => match Zm x with
    | some rs => match Zf dI2 rs with
      | some xs => if xs.length ≤ 1000 then some (.bool (xs.all fun s => YW s.1 s.2)) else none
      | none => none
    | none => none
  | _ => none
theorem a57 (P : Program) (T : Nat → Option CFn) (hT : T 41 = some c41) (h56 : T 45 = some { c45 with frsh := true, orc := o56 }) (u d : Int) : Zr P T 41 [.agg [I u, I d]] [] fun v h => v = .bool (ruleB u d) ∧ h = [] := by
 refine Zl hT (Zo rfl) ?_
 simp only [oo, om, op, og, ci, cl, c41]
 refine zS (zR (zO (by simp; rfl) ?_))
 simp only [zT, zB]
 refine zS (zR (zO (by simp [lop, Yk, Ya, Zq, zC h56, h56, o56, Zf]; rfl) ?_))
 simp only [zT, zB]
 refine Zg ?_
 simp [ruleB]
theorem a82 (P : Program) (T : Nat → Option CFn) (hT : T 64 = some c64) (h56 : T 45 = some { c45 with frsh := true, orc := o56 }) (l r : Int) : Zr P T 64 [.agg [I l, I r]] [] fun v h => v = .bool (YW l r) ∧ h = [] := by
 refine Zl hT (Zo rfl) ?_
 simp only [oo, om, op, og, ci, cl, c64]
 refine zS (zR (zO (by simp; rfl) ?_))
 simp only [zT, zB]
 unfold YW
 cases hb : wB 0 300 [l, r]
 ·refine zS (zR (zO (by simp [lop, Yk, Ya, Zq, zC h56, h56, o56, Zf, hb]; rfl) ?_))
  simp only [zT, zB]
  refine Zg ?_
  simp [hb]
 ·refine zS (zR (zO (by simp [lop, Yk, Ya, Zq, zC h56, h56, o56, Zf, hb]; rfl) ?_))
  simp only [zT, zB]
  refine Zg ?_
  simp [hb]
theorem a81 (P : Program) (T : Nat → Option CFn) (hT : T 63 = some c63) (h82 : T 64 = some { c64 with frsh := true, orc := o82 }) (l r : Int) : Zr P T 63 [.agg [I l, I r]] [] fun v h => v = .bool (!YW l r) ∧ h = [] := by
 refine Zl hT (Zo rfl) ?_
 simp only [oo, om, op, og, ci, cl, c63]
 refine zS (zR (zO (by simp; rfl) ?_))
 simp only [zT, zB]
 refine zS (zR (zO (by simp [lop, Yk, Ya, Zq, zC h82, h82, o82]; rfl) ?_))
 simp only [zT, zB]
 refine Zg ?_
 simp
def TD0_57 : Nat → Option CFn := upd TC 41 true (o57)
theorem TD0_57_ok : ZB Tryz.prog GG TD0_57 := ZD Zh TC_ok fun args v ho => by
  unfold o57 at ho; split at ho <;> simp at ho
  rename_i a b
  subst ho
  refine (a57 Tryz.prog TC rfl rfl a b).mono ?_
  rintro v h ⟨rfl, rfl⟩
  rfl
def TD0_82 : Nat → Option CFn := upd TD0_57 64 true (o82)
theorem TD0_82_ok : ZB Tryz.prog GG TD0_82 := ZD Zh TD0_57_ok fun args v ho => by
  unfold o82 at ho; split at ho <;> simp at ho
  rename_i a b
  subst ho
  refine (a82 Tryz.prog TD0_57 rfl rfl a b).mono ?_
  rintro v h ⟨rfl, rfl⟩
  rfl
def TD0 : Nat → Option CFn := upd TD0_82 63 true (o81)
theorem TD0_ok : ZB Tryz.prog GG TD0 := ZD Zh TD0_82_ok fun args v ho => by
  unfold o81 at ho; split at ho <;> simp at ho
  rename_i a b
  subst ho
  refine (a81 Tryz.prog TD0_82 rfl rfl a b).mono ?_
  rintro v h ⟨rfl, rfl⟩
  rfl
def TD1 : Nat → Option CFn := upd TD0 62 true (oCF TD0 2)
theorem TD1_ok : ZB Tryz.prog GG TD1 := ZD Zh TD0_ok fun args v ho => by
  unfold oCF at ho; split at ho <;> (try simp at ho)
  rename_i x g a b
  split at ho <;> (try simp at ho)
  rename_i rs hx
  obtain ⟨⟨hl, hr⟩, ho⟩ := ho
  split at ho <;> simp at ho
  rename_i r hq
  subst ho
  refine (a80 Tryz.prog TD0 rfl rfl x rs hx g a b r hl (by simpa using hr) (by simpa using hq)).mono ?_
  rintro v h ⟨rfl, rfl⟩
  rfl
theorem a55 (P : Program) (T : Nat → Option CFn) (hT : T 42 = some c42) (h80 : T 62 = some { c62 with frsh := true, orc := oCF TD0 2 }) (x : Za) (xs : List (Int × Int)) (hx : Zm x = some (xs.map fun s => [I s.1, I s.2])) (hl : xs.length ≤ 1000) :
  Zr P T 42 [x] [] fun v h => v = .bool (xs.all fun s => YW s.1 s.2) ∧ h = [] := by
 have hcf : oCF TD0 2 [x, .fn 63 [] []] = some (.bool ((xs.map fun s => [I s.1, I s.2]).any fun r => match r with | [.int .i64 l, .int .i64 h] => !YW l h | _ => false)) := by
  refine oCF_any hx (by simpa using hl) (by simp [isI]) ?_
  intro r hr
  obtain ⟨n, _, rfl⟩ := List.mem_map.1 hr
  rfl
 have hv : (!((xs.map fun s => [I s.1, I s.2]).any fun r => match r with | [.int .i64 l, .int .i64 h] => !YW l h | _ => false)) = xs.all fun s => YW s.1 s.2 := by
  simp [List.any_map, List.not_any_eq_all_not, Function.comp_def]
 rw [← hv]
 generalize hbb : ((xs.map fun s => [I s.1, I s.2]).any fun r => match r with | [.int .i64 l, .int .i64 h] => !YW l h | _ => false) = bb at hcf
 refine Zl hT (Zo rfl) ?_
 simp only [oo, om, op, og, ci, cl, c42]
 refine zS (zR (zO (by simp; rfl) ?_))
 simp only [zT, zB]
 refine zS (zR (zO (by simp [lop, Yk, Ya, Zq, zC h80, h80, Zw hx, hcf]; rfl) ?_))
 simp only [zT, zB]
 refine Zg ?_
 simp
def isNoneB (l h n : Int) : Bool := !YW l h || !wB 0 500 [n]
def o54 : List Za → Option Za
  | [.agg [.int .i64 l, .int .i64 h, .int .i64 n]] => some (.bool (isNoneB l h n))
  | _ => none
def TD2 : Nat → Option CFn := upd TD1 42 true (o55)
theorem TD2_ok : ZB Tryz.prog GG TD2 := ZD Zh TD1_ok fun args v ho => by
  unfold o55 at ho; split at ho <;> (try simp at ho)
  rename_i x
  split at ho <;> (try simp at ho)
  rename_i rs hx
  split at ho <;> (try simp at ho)
  rename_i xs hxs
  obtain ⟨hl, rfl⟩ := ho
  have e := ZY dI2_eq hxs
  subst e
  refine (a55 Tryz.prog TD1 rfl rfl x xs hx hl).mono ?_
  rintro v h ⟨rfl, rfl⟩
  simp [Ye]
theorem a54 (P : Program) (T : Nat → Option CFn) (hT : T 59 = some c59) (h55 : T 42 = some { c42 with frsh := true, orc := o55 }) (h56 : T 45 = some { c45 with frsh := true, orc := o56 }) (l r n : Int) : Zr P T 59 [.agg [I l, I r, I n]] [] fun v h => v = .bool (isNoneB l r n) ∧ h = [] := by
 refine Zl hT (Zo rfl) ?_
 simp only [oo, om, op, og, ci, cl, c59]
 refine zS (zR (zO (by simp; rfl) ?_))
 simp only [zT, zB]
 unfold isNoneB
 cases hb : YW l r
 ·refine zS (zR (zO (by simp [lop, Yk, Ya, Zq, zC h55, h55, zC h56, h56, o55, o56, hb]; rfl) ?_))
  simp only [zT, zB]
  refine Zg ?_
  simp [hb]
 ·refine zS (zR (zO (by simp [lop, Yk, Ya, Zq, zC h55, h55, zC h56, h56, o55, o56, hb]; rfl) ?_))
  simp only [zT, zB]
  refine Zg ?_
  simp [hb]
def TD3 : Nat → Option CFn := upd TD2 59 true (o54)
theorem TD3_ok : ZB Tryz.prog GG TD3 := ZD Zh TD2_ok fun args v ho => by
  unfold o54 at ho; split at ho <;> simp at ho
  rename_i a b c
  subst ho
  refine (a54 Tryz.prog TD2 rfl rfl rfl a b c).mono ?_
  rintro v h ⟨rfl, rfl⟩
  rfl
def TD4 : Nat → Option CFn := upd TD3 60 true (oCF TD3 3)
theorem TD4_ok : ZB Tryz.prog GG TD4 := ZD Zh TD3_ok fun args v ho => by
  unfold oCF at ho; split at ho <;> (try simp at ho)
  rename_i x g a b
  split at ho <;> (try simp at ho)
  rename_i rs hx
  obtain ⟨⟨hl, hr⟩, ho⟩ := ho
  split at ho <;> simp at ho
  rename_i r hq
  subst ho
  refine (a58 Tryz.prog TD3 rfl rfl x rs hx g a b r hl (by simpa using hr) (by simpa using hq)).mono ?_
  rintro v h ⟨rfl, rfl⟩
  rfl
abbrev Stay := Int × Int × Int
def rStay (s : Stay) : List Za := [I s.1, I s.2.1, I s.2.2]
def checkI (u d l h : Int) (ss : List Stay) : Int :=
  if !ruleB u d then 2 else if !YW l h then 3 else if 10 < ss.length then 5 else if ss.any fun s => isNoneB s.1 s.2.1 s.2.2 then 4 else 0
def o14 : List Za → Option Za
  | [.agg [.int .i64 u, .int .i64 d], .agg [.int .i64 l, .int .i64 h], x] => match Zm x with
    | some rs => match Zf dI3 rs with
      | some ss => if ss.length ≤ 1000 then some (.int .i64 (checkI u d l h ss)) else none
      | none => none
    | none => none
  | _ => none
theorem a14 (P : Program) (T : Nat → Option CFn) (hT : T 39 = some c39) (h57 : T 41 = some { c41 with frsh := true, orc := o57 }) (h55 : T 42 = some { c42 with frsh := true, orc := o55 }) (h58 : T 60 = some { c60 with frsh := true, orc := oCF TD3 3 })
  (u d l r : Int) (x : Za) (ss : List Stay) (hx : Zm x = some (ss.map rStay)) (hl : ss.length ≤ 1000) : Zr P T 39 [.agg [I u, I d], .agg [I l, I r], x] [] fun v h => v = I (checkI u d l r ss) ∧ h = [] := by
 have lx := Zv hx
 rw [List.length_map] at lx
 have hcf : oCF TD3 3 [x, .fn 59 [] []] = some (.bool ((ss.map rStay).any fun r => match r with | [.int .i64 l, .int .i64 h, .int .i64 n] => isNoneB l h n | _ => false)) := by
  refine oCF_any hx (by simpa using hl) (by simp [isI, rStay]) ?_
  intro r hr
  obtain ⟨n, _, rfl⟩ := List.mem_map.1 hr
  rfl
 have hv : ((ss.map rStay).any fun r => match r with | [.int .i64 l, .int .i64 h, .int .i64 n] => isNoneB l h n | _ => false) = ss.any fun s => isNoneB s.1 s.2.1 s.2.2 := by
  simp [List.any_map, Function.comp_def, rStay]
 rw [hv] at hcf
 unfold checkI
 generalize hbb : (ss.any fun s => isNoneB s.1 s.2.1 s.2.2) = bb at hcf
 refine Zl hT (Zo rfl) ?_
 simp only [oo, om, op, og, ci, cl, c39]
 refine zS (zR (zO (by simp; rfl) ?_))
 simp only [zT, zB]
 refine zS (zR (zO (by simp; rfl) ?_))
 simp only [zT, zB]
 refine zS (zL ?_)
 refine zS (zR (zO (by simp [lop, Yk, Ya, Zq, zC h57, h57, o57]; rfl) ?_))
 simp only [zT, zB]
 refine Zk (x := !ruleB u d) (by simp) (fun h1 => ?_) (fun h1 => ?_)
 ·refine zS (zR (zO (by simp; rfl) ?_))
  simp only [zT, zB]
  refine Zg ?_
  simp [h1]
 refine zS (zR (zO (by simp [lop, Yk, Ya, Zq, zC h55, h55, o55]; rfl) ?_))
 simp only [zT, zB]
 refine Zk (x := !YW l r) (by simp) (fun h2 => ?_) (fun h2 => ?_)
 ·refine zS (zR (zO (by simp; rfl) ?_))
  simp only [zT, zB]
  refine Zg ?_
  simp [h1, h2]
 refine zS (zR (zO (by simp [lx, -Zd]; rfl) ?_))
 simp only [zT, zB]
 refine Zk (x := decide ((10:Int) < (ss.length:Int))) (by simp) (fun h3 => ?_) (fun h3 => ?_)
 ·refine zS (zR (zO (by simp; rfl) ?_))
  simp only [zT, zB]
  have h3 : 10 < ss.length := by have := of_decide_eq_true h3; omega
  refine Zg ?_
  simp [h1, h2, h3]
 have h3 : ¬ 10 < ss.length := by have := of_decide_eq_false h3; omega
 refine zS (zR (zO (by simp [lop, Yk, Ya, Zq, zC h58, h58, Zw hx, hcf]; rfl) ?_))
 simp only [zT, zB]
 refine Zk (x := bb) (by simp) (fun h4 => ?_) (fun h4 => ?_)
 ·refine zS (zR (zO (by simp; rfl) ?_))
  simp only [zT, zB]
  refine Zg ?_
  simp [h1, h2, h3, h4]
 refine zK ?_
 simp only [zT, zB]
 refine zS (zR (zO (by simp; rfl) ?_))
 simp only [zT, zB]
 refine Zg ?_
 simp [h1, h2, h3, h4]
def TD : Nat → Option CFn := upd TD4 39 true (o14)
theorem TD_ok : ZB Tryz.prog GG TD := ZD Zh TD4_ok fun args v ho => by
  unfold o14 at ho; split at ho <;> (try simp at ho)
  rename_i u d l r x
  split at ho <;> (try simp at ho)
  rename_i rs hx
  split at ho <;> (try simp at ho)
  rename_i xs hxs
  obtain ⟨hl, rfl⟩ := ho
  have e := ZY dI3_eq hxs
  subst e
  refine (a14 Tryz.prog TD4 rfl rfl rfl rfl u d l r x xs hx hl).mono ?_
  rintro v h ⟨rfl, rfl⟩
  rfl
end
section
attribute [local simp] Yj ZU YP YM XR Xo disj YY holes YZ ZX Xb news eqB Xc eqA YK Xi toCs ofCs stA ZE Yz ZV Yr dI1 dI2 dI3 dI5 elt
def o63 : List Za → Option Za
  | [.agg [.int .i64 l, .int .i64 h], .agg [.int .i64 u, .int .i64 d], .agg [.int .i64 rl, .int .i64 rh], .int .i64 n] => some (.agg [.int .i64 (tw u d l rl n), .int .i64 (tw u d h rh n)])
  | _ => none
def o61 : List Za → Option Za
  | [.agg [.int .i64 u, .int .i64 d], .agg [.int .i64 l, .int .i64 h], .agg [.int .i64 rl, .int .i64 rh]] => some (.agg [.int .i64 (hr u d l rl), .int .i64 (hr u d h rh)])
  | _ => none
def inB (n a b : Int) : Bool := decide (a ≤ n) && decide (n ≤ b)
def spanB (l h a b : Int) : Bool := inB l a h && decide (h ≤ b)
def o64 : List Za → Option Za
  | [.agg [.int .i64 l, .int .i64 h], .int .i64 a, .int .i64 b] => some (.bool (spanB l h a b))
  | _ => none
def o25 : List Za → Option Za
  | [.agg [.int .i64 l, .int .i64 h]] => some (.bool (spanB l h 0 300))
  | _ => none
def rB (u d : Int) : Bool := inB u 0 50 && inB d 0 50
def o27 : List Za → Option Za
  | [.agg [.int .i64 u, .int .i64 d]] => some (.bool (rB u d))
  | _ => none
theorem a63 (P : Program) (T : Nat → Option CFn) (hT : T 44 = some c44) (h88 : T 65 = some { c65 with frsh := true, orc := o88 }) (l r u d rl rh n : Int) : Zr P T 44 [.agg [I l, I r], .agg [I u, I d], .agg [I rl, I rh], I n] [] fun v h => v = .agg [I (tw u d l rl n), I (tw u d r rh n)] ∧ h = [] := by
 refine Zl hT (Zo rfl) ?_
 simp only [oo, om, op, og, ci, cl, c44]
 refine zS (zR (zO (by simp; rfl) ?_))
 simp only [zT, zB]
 refine zS (Yd (by simp [lop, Yk, Ya, Zq, zC h88, h88, o88]; rfl) ?_)
 simp only [zT, zB]
 refine Zg ?_
 simp
theorem a61 (P : Program) (T : Nat → Option CFn) (hT : T 76 = some c76) (h87 : T 87 = some { c87 with frsh := true, orc := o87 }) (l r u d rl rh : Int) : Zr P T 76 [.agg [I u, I d], .agg [I l, I r], .agg [I rl, I rh]] [] fun v h => v = .agg [I (hr u d l rl), I (hr u d r rh)] ∧ h = [] := by
 refine Zl hT (Zo rfl) ?_
 simp only [oo, om, op, og, ci, cl, c76]
 refine zS (zR (zO (by simp; rfl) ?_))
 simp only [zT, zB]
 refine zS (Yd (by simp [lop, Yk, Ya, Zq, zC h87, h87, o87]; rfl) ?_)
 simp only [zT, zB]
 refine Zg ?_
 simp
theorem inB_eq (n a b : Int) : (decide (a ≤ n) && decide (n ≤ b)) = inB n a b := rfl
theorem a64 (P : Program) (T : Nat → Option CFn) (hT : T 55 = some c55) (h60 : T 34 = some { c34 with frsh := true, orc := o60 }) (l r a b : Int) : Zr P T 55 [.agg [I l, I r], I a, I b] [] fun v h => v = .bool (spanB l r a b) ∧ h = [] := by
 refine Zl hT (Zo rfl) ?_
 simp only [oo, om, op, og, ci, cl, c55]
 refine zS (zR (zO (by simp; rfl) ?_))
 simp only [zT, zB]
 unfold spanB
 cases hb : inB l a r
 ·refine zS (zR (zO (by simp [lop, Yk, Ya, Zq, zC h60, h60, o60, inB_eq, hb]; rfl) ?_))
  simp only [zT, zB]
  refine Zg ?_
  simp [hb]
 ·refine zS (zR (zO (by simp [lop, Yk, Ya, Zq, zC h60, h60, o60, inB_eq, hb]; rfl) ?_))
  simp only [zT, zB]
  refine Zg ?_
  simp [hb]
def TE1_63 : Nat → Option CFn := upd TD 44 true (o63)
theorem TE1_63_ok : ZB Tryz.prog GG TE1_63 := ZD Zh TD_ok fun args v ho => by
  unfold o63 at ho; split at ho <;> simp at ho
  rename_i l h u d rl rh n
  subst ho
  refine (a63 Tryz.prog TD rfl rfl l h u d rl rh n).mono ?_
  rintro v h ⟨rfl, rfl⟩
  simp [YD, Yv, Ye, Zf]
def TE1_61 : Nat → Option CFn := upd TE1_63 76 true (o61)
theorem TE1_61_ok : ZB Tryz.prog GG TE1_61 := ZD Zh TE1_63_ok fun args v ho => by
  unfold o61 at ho; split at ho <;> simp at ho
  rename_i u d l h rl rh
  subst ho
  refine (a61 Tryz.prog TE1_63 rfl rfl l h u d rl rh).mono ?_
  rintro v h ⟨rfl, rfl⟩
  simp [YD, Yv, Ye, Zf]
def TE1 : Nat → Option CFn := upd TE1_61 55 true (o64)
theorem TE1_ok : ZB Tryz.prog GG TE1 := ZD Zh TE1_61_ok fun args v ho => by
  unfold o64 at ho; split at ho <;> simp at ho
  rename_i l h a b
  subst ho
  refine (a64 Tryz.prog TE1_61 rfl rfl l h a b).mono ?_
  rintro v h ⟨rfl, rfl⟩
  simp [YD, Yv, Ye, Zf]
theorem a25 (P : Program) (T : Nat → Option CFn) (hT : T 33 = some c33) (h64 : T 55 = some { c55 with frsh := true, orc := o64 }) (l r : Int) : Zr P T 33 [.agg [I l, I r]] [] fun v h => v = .bool (spanB l r 0 300) ∧ h = [] := by
 refine Zl hT (Zo rfl) ?_
 simp only [oo, om, op, og, ci, cl, c33]
 refine zS (zR (zO (by simp; rfl) ?_))
 simp only [zT, zB]
 refine zS (zR (zO (by simp [lop, Yk, Ya, Zq, zC h64, h64, o64]; rfl) ?_))
 simp only [zT, zB]
 refine Zg ?_
 simp
theorem a27 (P : Program) (T : Nat → Option CFn) (hT : T 32 = some c32) (h60 : T 34 = some { c34 with frsh := true, orc := o60 }) (u d : Int) : Zr P T 32 [.agg [I u, I d]] [] fun v h => v = .bool (rB u d) ∧ h = [] := by
 refine Zl hT (Zo rfl) ?_
 simp only [oo, om, op, og, ci, cl, c32]
 refine zS (zR (zO (by simp; rfl) ?_))
 simp only [zT, zB]
 unfold rB
 cases hb : inB u 0 50
 ·refine zS (zR (zO (by simp [lop, Yk, Ya, Zq, zC h60, h60, o60, inB_eq, hb]; rfl) ?_))
  simp only [zT, zB]
  refine Zg ?_
  simp [hb]
 ·refine zS (zR (zO (by simp [lop, Yk, Ya, Zq, zC h60, h60, o60, inB_eq, hb]; rfl) ?_))
  simp only [zT, zB]
  refine Zg ?_
  simp [hb]
def TE2_25 : Nat → Option CFn := upd TE1 33 true (o25)
theorem TE2_25_ok : ZB Tryz.prog GG TE2_25 := ZD Zh TE1_ok fun args v ho => by
  unfold o25 at ho; split at ho <;> simp at ho
  rename_i l h
  subst ho
  refine (a25 Tryz.prog TE1 rfl rfl l h).mono ?_
  rintro v h ⟨rfl, rfl⟩
  simp [YD, Yv, Ye, Zf]
def TE2 : Nat → Option CFn := upd TE2_25 32 true (o27)
theorem TE2_ok : ZB Tryz.prog GG TE2 := ZD Zh TE2_25_ok fun args v ho => by
  unfold o27 at ho; split at ho <;> simp at ho
  rename_i u d
  subst ho
  refine (a27 Tryz.prog TE2_25 rfl rfl u d).mono ?_
  rintro v h ⟨rfl, rfl⟩
  simp [YD, Yv, Ye, Zf]
end
end
end Go.Proofs.YtpebmjeomlgmdaaGreatDoor.Tab
namespace Go.Abs
open Go
theorem set_app {A l : Zj} {n k : Nat} {x : Option Blk} (hn : A.length = n) : (A ++ l).set (n + k) x = A ++ l.set k x := by
 subst hn
 rw [List.set_append_right _ _ (by omega)]
 congr 1
 congr 1
 omega
theorem set_app0 {A l : Zj} {n : Nat} {x : Option Blk} (hn : A.length = n) : (A ++ l).set n x = A ++ l.set 0 x := set_app (k := 0) hn
theorem get_appK {A l : Zj} {n k : Nat} (hn : A.length = n) : (A ++ l)[n + k]? = l[k]? := by subst hn; exact get_app A l k
theorem get_appK0 {A l : Zj} {n : Nat} (hn : A.length = n) : (A ++ l)[n]? = l[0]? := get_appK (k := 0) hn
theorem get_of {H : Zj} {i : Nat} {b : Option Blk} (h : H[i]? = some b) (hl : i < H.length) : H[i] = b := by
 rw [List.getElem?_eq_getElem hl] at h; simpa using h
def FlatB : Option Blk → Prop
 | none => True
 | some (.row _ rs) => ∀ r ∈ rs, ∀ x ∈ r, isI x = true
 | _ => False
def FlatH (h : Zj) : Prop := ∀ b ∈ h, FlatB b
theorem FlatB.rb {b : Option Blk} (h : FlatB b) (n : Nat) : rbB n b = true := by
 unfold FlatB at h
 split at h
 ·rfl
 ·simp only [rbB, List.all_eq_true]
  intro r hr x hx
  obtain ⟨a, rfl⟩ := isI_eq (h r hr x hx)
  rfl
 ·exact h.elim
theorem FlatH.app {h g : Zj} (hh : FlatH h) (hg : FlatH g) : FlatH (h ++ g) := fun b hb => (List.mem_append.1 hb).elim (hh b) (hg b)
theorem FlatH.set {h : Zj} (hh : FlatH h) {i : Nat} {b : Option Blk} (hb : FlatB b) : FlatH (h.set i b) := fun c hc => by
 rcases List.mem_or_eq_of_mem_set hc with h1 | rfl
 ·exact hh c h1
 ·exact hb
theorem trim_or (vs : List Za) (pre g : Zj) : ∃ g', trim pre.length vs (pre ++ g) = pre ++ g' := by
 unfold trim
 split
 ·exact ⟨[], by simp⟩
 ·exact ⟨g, rfl⟩
theorem trim_keep {n : Nat} {vs : List Za} {h : Zj} (hv : vs.all (rb n 5) = false) : trim n vs h = h := by simp [trim, hv]
end Go.Abs
namespace Go.Proofs.YtpebmjeomlgmdaaGreatDoor.Tab
open Go Go.Abs Go.Proofs
set_option maxRecDepth 100000
section
attribute [local simp] Yv Ye XB XC YD YJ XD YL Xh YC Zf orcF Xv YV Xx Xt YU YA rb_vl rb_pv Xr YT YS YR Xw Xs Xu XZ rb_fn slE XP Xk Yp ZQ XG List.range_succ List.range_zero List.range'_succ List.range'_zero Yi Yg ZK Yl ZR ZT Xm Yf dop CV.ev cellsOf Ys ZA ZM Xa fI_eq Yt Yc ZN Zz Out.v Xy List.replicate_succ zT zB arI ZO Abs.rowAt Xq allV toV toC ofV ofC Builtin.min_ Builtin.min2 Builtin.max_ Builtin.max2 Xz XA resA XS Xj Yh Yx Yy Yw Zd
section
attribute [local simp] Yj ZU YP YM XR Xo disj YY holes YZ ZX Xb news eqB Xc eqA YK Xi toCs ofCs stA ZE Yz ZV Yr dI1 dI2 dI3 dI5 elt
structure RS where
  lo : Int
  hi : Int
  peak : Int
  first : Int
  hour : Int
def step1 (u d frm room : Int) : Int := if frm < room then min room (frm + u) else max room (frm - d)
def In300 (n : Int) : Prop := 0 ≤ n ∧ n ≤ 300
def Rate (u : Int) : Prop := 0 ≤ u ∧ u ≤ 50
theorem hr_step1 {u d frm room : Int} (hu : Rate u) (hd : Rate d) (hf : In300 frm) : hr u d frm room = step1 u d frm room := by
  unfold In300 Rate at *; unfold hr step1
  rw [ZH (by omega), ZH (by omega)]
end
end
end Go.Proofs.YtpebmjeomlgmdaaGreatDoor.Tab
namespace Go.Abs
open Go
section
variable {P : Program} {T : Nat → Option CFn} {r : Option Nat} {σ : St}
theorem callF_ext {f : Nat} {args : List Za} {h : Zj} {x : Za × Zj} {n m : Nat} (hn : n ≤ m) (hc : YH T (exec P T n) f args h = some x) : YH T (exec P T m) f args h = some x :=
 callF_mono (XK hn) hc
theorem runs_rf {g : CV} {ps : List Nat} {asg bd : CC} {f : Nat} {a b : List Za} {Q : AEx → St → Prop} (hin : inLoop r σ.h = true) (hev : g.ev σ.t = some (.fn f a b))
  (h : Zr P T f (a ++ [.yld σ.h.length] ++ b) (σ.h ++ [some (.loop σ.t ps asg bd .ready none)]) fun _ h2 => ∃ t' ps' asg' bd' st pd, h2[σ.h.length]? = some (some (.loop t' ps' asg' bd' st pd)) ∧ st ≠ .busy ∧
   (match pd with
   | none => Q .normal ⟨σ.t, h2.set σ.h.length none⟩
   | some c => Runs P T r c ⟨σ.t, h2.set σ.h.length none⟩ Q)) : Runs P T r (.rf g ps asg bd) σ Q := by
 obtain ⟨n, v, h2, hc, t', ps', asg', bd', st, pd, hl, hst, hq⟩ := h
 cases pd with
 | none =>
  refine ⟨n + 1, .normal, ⟨σ.t, h2.set σ.h.length none⟩, ?_, hq⟩
  rw [Xd]
  simp only [YE, hin, hev, Yt, ZM, hc, Zz, hl, hst, if_false, ZA]
 | some c =>
  obtain ⟨m, e, σ', hm, hq⟩ := hq
  refine ⟨max n m + 1, e, σ', ?_, hq⟩
  rw [Xd]
  simp only [YE, hin, hev, Yt, ZM, callF_ext (Nat.le_max_left n m) hc, Zz, hl, hst, if_false, ZA]
  exact XK (Nat.le_max_right n m) _ _ _ _ hm
theorem ops_yield {o : CO} {l : List CO} {i : Nat} {args t : List Za} {ps : List Nat} {asg bd : CC} {pd : Option CC} {Q : St → Prop} (hw : Yf σ.t o.g = some true) (hd : dop P σ.t σ.h o.op = none) (hp : lop σ.t σ.h o.op = none)
  (hc : Zq σ.t o.op = some (.yld i args)) (hi : σ.h[i]? = some (some (.loop t ps asg bd .ready pd))) (hn : args.length = ps.length)
  (h : Runs P T (some i) asg ⟨setAll t (ps.zip args), σ.h⟩ fun e1 σ1 => e1 = .normal ∧ ∃ t1 ps1 as1 bd1 pd1, σ1.h[i]? = some (some (.loop t1 ps1 as1 bd1 .ready pd1)) ∧
   Runs P T (some i) bd ⟨σ1.t, σ1.h.set i (some (.loop t1 ps1 as1 bd1 .busy pd1))⟩ fun e2 σ2 => ∃ t2 ps2 as2 bd2 st2 pd2, σ2.h[i]? = some (some (.loop t2 ps2 as2 bd2 st2 pd2)) ∧
    (match e2 with
    | .normal => Ops P T l ⟨Xy σ.t o.dst (.bool true), trim σ.h.length [] (σ2.h.set i (some (.loop t2 ps2 as2 bd2 .ready none)))⟩ Q
    | .ret => Ops P T l ⟨Xy σ.t o.dst (.bool false), σ2.h.set i (some (.loop t2 ps2 as2 bd2 .done (some .ret)))⟩ Q
    | .exit id => Ops P T l ⟨Xy σ.t o.dst (.bool false), σ2.h.set i (some (.loop t2 ps2 as2 bd2 .done (some (.exit id))))⟩ Q)) : Ops P T (o :: l) σ Q := by
 obtain ⟨n1, e1, σ1, h1, rfl, t1, ps1, as1, bd1, pd1, hi1, n2, e2, σ2, h2, t2, ps2, as2, bd2, st2, pd2, hi2, hq⟩ := h
 have key : ∀ v h', yieldF (exec P T (max n1 n2)) i args σ.h = some (v, h') → Ops P T l ⟨Xy σ.t o.dst v, h'⟩ Q → Ops P T (o :: l) σ Q := by
  intro v h' hy hq
  refine Yo (max n1 n2) (σ1 := ⟨Xy σ.t o.dst v, h'⟩) ?_ hq
  simp only [Xm, hw, hd, Yk, hp, Ya, hc, hy, Ys]
 have e1 := XK (P := P) (T := T) (Nat.le_max_left n1 n2) _ _ _ _ h1
 have e2' := XK (P := P) (T := T) (Nat.le_max_right n1 n2) _ _ _ _ h2
 cases e2 with
 | normal => exact key _ _ (by unfold yieldF; simp only [Zz, hi, hn, if_true, setAllK_eq, e1, hi1, ZA, e2', hi2, Yt, trimK_eq]) hq
 | ret => exact key _ _ (by unfold yieldF; simp only [Zz, hi, hn, if_true, setAllK_eq, e1, hi1, ZA, e2', hi2]) hq
 | exit id => exact key _ _ (by unfold yieldF; simp only [Zz, hi, hn, if_true, setAllK_eq, e1, hi1, ZA, e2', hi2]) hq
end
end Go.Abs
namespace Go.Proofs.YtpebmjeomlgmdaaGreatDoor.Tab
open Go Go.Abs Go.Proofs
set_option maxRecDepth 100000
section
attribute [local simp] Yv Ye XB XC YD YJ XD YL Xh YC Zf orcF Xv YV Xx Xt YU YA rb_vl rb_pv Xr YT YS YR Xw Xs Xu XZ rb_fn slE XP Xk Yp ZQ XG List.range_succ List.range_zero List.range'_succ List.range'_zero Yi Yg ZK Yl ZR ZT Xm Yf dop CV.ev cellsOf Ys ZA ZM Xa fI_eq Yt Yc ZN Zz Out.v Xy List.replicate_succ zT zB arI ZO Abs.rowAt Xq allV toV toC ofV ofC Builtin.min_ Builtin.min2 Builtin.max_ Builtin.max2 Xz XA resA XS Xj Yh Yx Yy Yw Zd
section
attribute [local simp] Yj ZU YP YM XR Xo disj YY holes YZ ZX Xb news eqB Xc eqA YK Xi toCs ofCs stA ZE Yz ZV Yr dI1 dI2 dI3 dI5 elt
def outV (rows : List (Int × Int)) : Za := if rows.isEmpty then .nils else .vl (rows.map fun p => [I p.1, I p.2]) false
def pRun (u d : Int) : List Stay → Int × Int → List (Int × Int)
  | [], _ => []
  | t :: ts, s => (tw u d s.1 t.1 t.2.2, tw u d s.2 t.2.1 t.2.2) :: pRun u d ts (tw u d s.1 t.1 t.2.2, tw u d s.2 t.2.1 t.2.2)
theorem a59 (P : Program) (T : Nat → Option CFn) (hT : T 40 = some c40) (l r u d : Int) (x : Za) (rs : List (List Za)) (hx : Zm x = some rs) (h : Zj) :
  Zr P T 40 [.agg [I l, I r], .agg [I u, I d], x] h fun v h' => v = .fn 61 [] [.ref (h.length + 2) 0 0, .ref h.length 0 0, .ref (h.length + 1) 0 0] ∧ h' = h ++ [some (.row 2 [[I l, I r]]), some (.row 2 [[I u, I d]]), some (.row 1 [[x]])] := by
 rcases rowsV_cases hx with ⟨rfl, _⟩ | ⟨t, rfl⟩
 ·refine Zl hT (Zo rfl) ?_
  simp only [oo, om, op, og, ci, cl, c40]
  refine zS (zR (zO (by simp; rfl) ?_))
  simp only [zT, zB]
  refine zS (zR (zO (by simp; rfl) ?_))
  simp only [zT, zB]
  refine Zg ?_
  simp [trim_keep]
 ·refine Zl hT (Zo rfl) ?_
  simp only [oo, om, op, og, ci, cl, c40]
  refine zS (zR (zO (by simp; rfl) ?_))
  simp only [zT, zB]
  refine zS (zR (zO (by simp; rfl) ?_))
  simp only [zT, zB]
  refine Zg ?_
  simp [trim_keep]
def OutG (g : Zj) (v : Za) (rows : List (List Za)) : Prop := (v = .nils ∧ rows = []) ∨ ∃ q, (rows ≠ [] ∧ v = .sl (q + 7) 0 rows.length false) ∧ g[q]? = some (some (.row 2 rows))
theorem a86_15 (P : Program) (T : Nat → Option CFn) (hT : T 61 = some c61) (h63 : T 44 = some { c44 with frsh := true, orc := o63 }) (u d l r : Int) (x : Za) (ss : List Stay) (hx : Zm x = some (ss.map rStay)) (hl : ss.length ≤ 10) :
  Zr P T 61 [.yld 6, .ref 5 0 0, .ref 3 0 0, .ref 4 0 0] (some (.row 2 [[I u, I d]]) :: some (.row 2 [[I l, I r]]) :: some (.row 1 [[.nils]]) :: some (.row 2 [[I l, I r]]) :: some (.row 2 [[I u, I d]]) :: some (.row 1 [[x]]) :: some (.loop [.agg [I u, I d], .agg [I l, I r], x, .ref 0 0 0, .ref 1 0 0, .und, .ref 2 0 0, I 0, I 0, .und, .und, .agg [I u, I d], .agg [I l, I r], x, I 0, I 0, B false, .und, .agg [I l, I r], .agg [I l, I r], .agg [I u, I d], x, .fn 61 [] [.ref 5 0 0, .ref 3 0 0, .ref 4 0 0], .und, .und, .und, .und, .und, .und, .und, .und] [23, 24] (.reg [⟨(some 10), (.new [(.int .i64 (0)), (.int .i64 (0))]), none, []⟩, ⟨none, (.st 2 (.t 10) (.t 24)), none, []⟩]) (.block 1 (.reg [⟨(some 25), (.ld (.t 6)), none, []⟩, ⟨(some 26), (.fa 0 (.t 10)), none, []⟩, ⟨(some 27), (.ldn 2 (.t 26)), none, []⟩, ⟨(some 28), (.bsl 2 1 [(.int .i64 (0)), (.int .i64 (0))] [(0, (.t 27))]), none, []⟩, ⟨(some 29), (.app 2 (.t 25) (.t 28)), none, []⟩, ⟨none, (.st 1 (.t 6) (.t 29)), none, []⟩])) .ready none) :: []) fun _ h => ∃ lv k1 k2 g, h = some (.row 2 [[I u, I d]]) :: some (.row 2 [[I l, I r]]) :: some (.row 1 [[lv]]) :: some (.row 2 [[I k1, I k2]]) :: some (.row 2 [[I u, I d]]) :: some (.row 1 [[x]]) :: some (.loop [.agg [I u, I d], .agg [I l, I r], x, .ref 0 0 0, .ref 1 0 0, .und, .ref 2 0 0, I 0, I 0, .und, .und, .agg [I u, I d], .agg [I l, I r], x, I 0, I 0, B false, .und, .agg [I l, I r], .agg [I l, I r], .agg [I u, I d], x, .fn 61 [] [.ref 5 0 0, .ref 3 0 0, .ref 4 0 0], .und, .und, .und, .und, .und, .und, .und, .und] [23, 24] (.reg [⟨(some 10), (.new [(.int .i64 (0)), (.int .i64 (0))]), none, []⟩, ⟨none, (.st 2 (.t 10) (.t 24)), none, []⟩]) (.block 1 (.reg [⟨(some 25), (.ld (.t 6)), none, []⟩, ⟨(some 26), (.fa 0 (.t 10)), none, []⟩, ⟨(some 27), (.ldn 2 (.t 26)), none, []⟩, ⟨(some 28), (.bsl 2 1 [(.int .i64 (0)), (.int .i64 (0))] [(0, (.t 27))]), none, []⟩, ⟨(some 29), (.app 2 (.t 25) (.t 28)), none, []⟩, ⟨none, (.st 1 (.t 6) (.t 29)), none, []⟩])) .ready none) :: g ∧ OutG g lv ((pRun u d ss (l, r)).map fun p => [I p.1, I p.2]) := by
 have lx := Zv hx
 rw [List.length_map] at lx
 have hrbx := ZF hx
 refine Zl hT (Zo rfl) ?_
 simp only [oo, om, op, og, ci, cl, c61]
 refine zS (zR (zO (by simp [lx, -Zd]; rfl) ?_))
 simp only [zT, zB]
 refine zL ?_
 refine ZL (fun m σ => ∃ (k : Nat) (i : Int) (rows : List (Int × Int)) (lv : Za) (k1 k2 : Int) (g : Zj), i = k ∧ m = ss.length - k ∧ k ≤ ss.length ∧ rows ++ pRun u d (ss.drop k) (k1, k2) = pRun u d ss (l, r) ∧ rows.length = k ∧
  OutG g lv (rows.map fun p => [I p.1, I p.2]) ∧ σ = ⟨[.yld 6, .any, .ref 3 0 0, .ref 4 0 0, .any, .any, .any, x, I ss.length, I i, .any, .any, .any, .any, .any, .any, .any, .any, .any, .any, .any, .any, .any, .any, .any, .any], some (.row 2 [[I u, I d]]) :: some (.row 2 [[I l, I r]]) :: some (.row 1 [[lv]]) :: some (.row 2 [[I k1, I k2]]) :: some (.row 2 [[I u, I d]]) :: some (.row 1 [[x]]) :: some (.loop [.agg [I u, I d], .agg [I l, I r], x, .ref 0 0 0, .ref 1 0 0, .und, .ref 2 0 0, I 0, I 0, .und, .und, .agg [I u, I d], .agg [I l, I r], x, I 0, I 0, B false, .und, .agg [I l, I r], .agg [I l, I r], .agg [I u, I d], x, .fn 61 [] [.ref 5 0 0, .ref 3 0 0, .ref 4 0 0], .und, .und, .und, .und, .und, .und, .und, .und] [23, 24] (.reg [⟨(some 10), (.new [(.int .i64 (0)), (.int .i64 (0))]), none, []⟩, ⟨none, (.st 2 (.t 10) (.t 24)), none, []⟩]) (.block 1 (.reg [⟨(some 25), (.ld (.t 6)), none, []⟩, ⟨(some 26), (.fa 0 (.t 10)), none, []⟩, ⟨(some 27), (.ldn 2 (.t 26)), none, []⟩, ⟨(some 28), (.bsl 2 1 [(.int .i64 (0)), (.int .i64 (0))] [(0, (.t 27))]), none, []⟩, ⟨(some 29), (.app 2 (.t 25) (.t 28)), none, []⟩, ⟨none, (.st 1 (.t 6) (.t 29)), none, []⟩])) .ready none) :: g⟩) ?_ (ss.length - 0) _ ⟨0, 0, [], .nils, l, r, [], rfl, rfl, Nat.zero_le _, rfl, rfl, .inl ⟨rfl, rfl⟩, by simp⟩
 rintro m σ ⟨k, i, rows, lv, k1, k2, g, hik, rfl, hk, hrun, hrl, hout, rfl⟩
 have hi0 : 0 ≤ i := by omega
 have htn : i.toNat = k := by omega
 refine zS (zR (zO (by simp; rfl) ?_))
 simp only [zT, zB]
 refine zS (Zk (x := decide (i < (ss.length : Int))) (by simp) (fun hlt => ?_) (fun hge => ?_))
 ·refine zK ?_
  simp only [zT, zB]
  have hlt' : k < ss.length := by have := of_decide_eq_true hlt; omega
  obtain ⟨tt, rfl⟩ := ZG hx (k := k) (by simpa using hlt')
  rw [List.drop_eq_getElem_cons hlt'] at hrun
  generalize hs : ss[k] = t at hrun
  obtain ⟨tl, th, tn⟩ := t
  simp only [pRun] at hrun
  refine zS (zL ?_)
  refine zS (zR (zO (by simp [hi0, htn, hlt', hs, rStay, lop, Yk]; rfl) ?_))
  simp only [zT, zB]
  have hwi : W .i64 (i + 1) = i + 1 := ZH (by omega)
  rcases hout with ⟨rfl, hrw⟩ | ⟨q, ⟨hne, rfl⟩, hq⟩
  ·have hrows : rows = [] := by simpa using hrw
   subst hrows
   refine zS (zR (zO (by simp [lop, Yk, Ya, Zq, zC h63, h63, o63, get_appK0, get_appK]; rfl) ?_))
   simp only [zT, zB]
   refine zS (zR ?_)
   refine Yo 0 (by simp; rfl) (Yo 0 (by simp [get_appK0, get_appK]; rfl) (Yo 0 (by simp; rfl) ?_))
   refine ops_yield (i := 6) (by simp) (by simp) (by simp [lop]) (by simp [Zq]; rfl) rfl rfl ?_
   refine zR (zO (by simp [setAll, lop, Yk, get_appK0, get_appK, set_app, set_app0]; rfl) ?_)
   refine ⟨rfl, _, _, _, _, _, rfl, ?_⟩
   refine zL (zR (zO (by simp [lop, Yk, lim, get_appK0, get_appK, set_app, set_app0]; rfl) ?_))
   refine ⟨_, _, _, _, _, _, rfl, ?_⟩
   simp only
   refine zO (by simp; rfl) ?_
   simp only [zT, zB]
   refine Zi (x := false) (by simp) ?_
   refine zK ?_
   simp only [zT, zB]
   refine zR (zO (by simp [hwi]; rfl) ?_)
   simp only [zT, zB]
   refine ⟨ss.length - (k + 1), by omega, k + 1, i + 1, [(tw u d k1 tl tn, tw u d k2 th tn)], .sl (g.length + 3 + 7) 0 1 false, tw u d k1 tl tn, tw u d k2 th tn, g ++ [some (.row 3 [[I tl, I th, I tn]]), some (.row 2 [[I (tw u d k1 tl tn), I (tw u d k2 th tn)]]), some (.row 2 [[I (tw u d k1 tl tn), I (tw u d k2 th tn)]]), some (.row 2 [[I (tw u d k1 tl tn), I (tw u d k2 th tn)]])], by omega, rfl, by omega, by simpa using hrun, by simp at hrl ⊢; try omega, .inr ⟨g.length + 3, ⟨by simp, by simp⟩, ?_⟩, ?_⟩
   ·rw [get_appK rfl]; rfl
   ·have hA : ¬ (g.length + 3 + 1 + 1 + 1 + 1 + 1 + 1 + 1 < g.length + 1 + 1 + 1 + 1 + 1 + 1 + 1) := by omega
    have hB : ¬ (g.length + 3 + 1 + 1 + 1 + 1 + 1 + 1 + 1 < g.length + 1 + 1 + 1 + 1 + 1 + 1 + 1 + 1) := by omega
    simp [trim, rbB, hA, hB]
  ·have lq : q < g.length := (List.getElem?_eq_some_iff.1 hq).1
   have gq := get_of hq lq
   have hlim1 : rows.length + 1 ≤ 1048576 := by omega
   have hlim2 : rows.length ≤ 1048575 := by omega
   refine zS (zR (zO (by simp [lop, Yk, Ya, Zq, zC h63, h63, o63, get_appK0, get_appK]; rfl) ?_))
   simp only [zT, zB]
   refine zS (zR ?_)
   refine Yo 0 (by simp; rfl) (Yo 0 (by simp [get_appK0, get_appK]; rfl) (Yo 0 (by simp; rfl) ?_))
   refine ops_yield (i := 6) (by simp) (by simp) (by simp [lop]) (by simp [Zq]; rfl) rfl rfl ?_
   refine zR (zO (by simp [setAll, lop, Yk, get_appK0, get_appK, set_app, set_app0]; rfl) ?_)
   refine ⟨rfl, _, _, _, _, _, rfl, ?_⟩
   refine zL (zR (zO (by simp [lop, Yk, lim, hlim1, hlim2, List.take_of_length_le, get_appK0, get_appK, set_app, set_app0, List.getElem?_append_left, List.set_append_left, gq, lq]; rfl) ?_))
   refine ⟨_, _, _, _, _, _, rfl, ?_⟩
   simp only
   refine zO (by simp; rfl) ?_
   simp only [zT, zB]
   refine Zi (x := false) (by simp) ?_
   refine zK ?_
   simp only [zT, zB]
   refine zR (zO (by simp [hwi]; rfl) ?_)
   simp only [zT, zB]
   refine ⟨ss.length - (k + 1), by omega, k + 1, i + 1, rows ++ [(tw u d k1 tl tn, tw u d k2 th tn)], .sl (g.length + 3 + 7) 0 (rows.length + 1) false, tw u d k1 tl tn, tw u d k2 th tn, (g.set q none) ++ [some (Blk.row 3 [[I tl, I th, I tn]]), some (Blk.row 2 [[I (tw u d k1 tl tn), I (tw u d k2 th tn)]]), some (Blk.row 2 [[I (tw u d k1 tl tn), I (tw u d k2 th tn)]]), some (Blk.row 2 ((rows.map fun p => [I p.1, I p.2]) ++ [[I (tw u d k1 tl tn), I (tw u d k2 th tn)]]))], by omega, rfl, by omega, by simpa using hrun, by simp at hrl ⊢; try omega, .inr ⟨g.length + 3, ⟨by simp, by simp⟩, ?_⟩, ?_⟩
   ·rw [get_appK (by simp)]; simp
   ·have hA : ¬ (g.length + 3 + 1 + 1 + 1 + 1 + 1 + 1 + 1 < g.length + 1 + 1 + 1 + 1 + 1 + 1 + 1) := by omega
    have hB : ¬ (g.length + 3 + 1 + 1 + 1 + 1 + 1 + 1 + 1 < g.length + 1 + 1 + 1 + 1 + 1 + 1 + 1 + 1) := by omega
    simp [trim, rbB, hA, hB]
 ·refine ZI ?_
  simp only [zT, zB, if_true]
  have hke : k = ss.length := by
   have := of_decide_eq_false hge
   omega
  subst hke
  rw [List.drop_length] at hrun
  simp only [pRun, List.append_nil] at hrun
  refine ⟨by simp, [], by simp, ?_⟩
  rw [← hrun]
  rcases hout with ⟨rfl, hrw⟩ | ⟨q, ⟨hne, rfl⟩, hq⟩
  ·obtain ⟨g', e⟩ := trim_or [XS []] (some (.row 2 [[I u, I d]]) :: some (.row 2 [[I l, I r]]) :: some (.row 1 [[.nils]]) :: some (.row 2 [[I k1, I k2]]) :: some (.row 2 [[I u, I d]]) :: some (.row 1 [[x]]) :: some (.loop [.agg [I u, I d], .agg [I l, I r], x, .ref 0 0 0, .ref 1 0 0, .und, .ref 2 0 0, I 0, I 0, .und, .und, .agg [I u, I d], .agg [I l, I r], x, I 0, I 0, B false, .und, .agg [I l, I r], .agg [I l, I r], .agg [I u, I d], x, .fn 61 [] [.ref 5 0 0, .ref 3 0 0, .ref 4 0 0], .und, .und, .und, .und, .und, .und, .und, .und] [23, 24] (.reg [⟨(some 10), (.new [(.int .i64 (0)), (.int .i64 (0))]), none, []⟩, ⟨none, (.st 2 (.t 10) (.t 24)), none, []⟩]) (.block 1 (.reg [⟨(some 25), (.ld (.t 6)), none, []⟩, ⟨(some 26), (.fa 0 (.t 10)), none, []⟩, ⟨(some 27), (.ldn 2 (.t 26)), none, []⟩, ⟨(some 28), (.bsl 2 1 [(.int .i64 (0)), (.int .i64 (0))] [(0, (.t 27))]), none, []⟩, ⟨(some 29), (.app 2 (.t 25) (.t 28)), none, []⟩, ⟨none, (.st 1 (.t 6) (.t 29)), none, []⟩])) .ready none) :: []) g
   exact ⟨.nils, k1, k2, g', e, .inl ⟨rfl, hrw⟩⟩
  ·refine ⟨_, k1, k2, g, ?_, .inr ⟨q, ⟨hne, rfl⟩, hq⟩⟩
   simp [trim, rbB]
   intro h; omega
theorem o14_eq (u d l r : Int) (x : Za) (ss : List Stay) (hx : Zm x = some (ss.map rStay)) (hl : ss.length ≤ 1000) : o14 [.agg [I u, I d], .agg [I l, I r], x] = some (I (checkI u d l r ss)) := by
  simp only [o14, hx]
  rw [YB (d := dI3) (enc := rStay) (fun _ => rfl)]
  simp [hl]
theorem checkI_len {u d l r : Int} {ss : List Stay} (h : checkI u d l r ss = 0) : ss.length ≤ 10 := by
  unfold checkI at h
  (repeat' split at h) <;> simp at h <;> omega
theorem a15 (P : Program) (T : Nat → Option CFn) (hT : T 18 = some c18) (h14 : T 39 = some { c39 with frsh := true, orc := o14 }) (h59 : T 40 = some c40) (h86 : T 61 = some c61) (h63 : T 44 = some { c44 with frsh := true, orc := o63 })
  (u d l r : Int) (x : Za) (ss : List Stay) (hx : Zm x = some (ss.map rStay)) (hl : ss.length ≤ 1000) :
  Zr P T 18 [.agg [I u, I d], .agg [I l, I r], x] [] fun v h => frz true h 5 v = some (.tup [outV (if checkI u d l r ss = 0 then pRun u d ss (l, r) else []), I (checkI u d l r ss)]) := by
 have ho := o14_eq u d l r x ss hx hl
 have hlen := checkI_len (u := u) (d := d) (l := l) (r := r) (ss := ss)
 generalize checkI u d l r ss = e at ho hlen
 refine Zl hT (Zo rfl) ?_
 simp only [oo, om, op, og, ci, cl, c18]
 refine zS (zR (zO (by simp; rfl) ?_))
 simp only [zT, zB]
 refine zS (zS (zR (zO (by simp [lop, Yk, Ya, Zq, zC h14, h14, ho, Zw hx]; rfl) ?_)))
 simp only [zT, zB]
 refine zS (zR (zO (by simp; rfl) ?_))
 simp only [zT, zB]
 refine Zk (x := e != 0) (by simp) (fun h1 => ?_) (fun h1 => ?_)
 ·have h1 : ¬ e = 0 := by simpa using h1
  refine zS (zR (zO (by simp [lop, Yk]; rfl) ?_))
  simp only [zT, zB]
  refine Zg ?_
  simp [trim, outV, h1]
 ·have h1 : e = 0 := by simpa using h1
  subst h1
  refine zK ?_
  simp only [zT, zB]
  refine zS (zS (zR ?_))
  refine Yo 0 (by simp; rfl) (Yo 0 (by simp; rfl) (Yo 0 (by simp; rfl) (Yo 0 (by simp; rfl) ?_)))
  refine ops_call (f := 40) (args := [.agg [I l, I r], .agg [I u, I d], x]) (by simp) (by simp) (by simp [lop]) (by simp [Zq]) ?_
  refine (a59 P T h59 l r u d x _ hx _).mono ?_
  rintro v h' ⟨rfl, rfl⟩
  refine ops_nil ?_
  simp only [zT, zB]
  refine zL ?_
  refine runs_rf (f := 61) (a := []) (b := [.ref 5 0 0, .ref 3 0 0, .ref 4 0 0]) (by simp [inLoop]) (by simp) ?_
  refine Zr.mono (Q := fun _ h => ∃ lv k1 k2 g, h = some (.row 2 [[I u, I d]]) :: some (.row 2 [[I l, I r]]) :: some (.row 1 [[lv]]) :: some (.row 2 [[I k1, I k2]]) :: some (.row 2 [[I u, I d]]) :: some (.row 1 [[x]]) :: some (.loop [.agg [I u, I d], .agg [I l, I r], x, .ref 0 0 0, .ref 1 0 0, .und, .ref 2 0 0, I 0, I 0, .und, .und, .agg [I u, I d], .agg [I l, I r], x, I 0, I 0, B false, .und, .agg [I l, I r], .agg [I l, I r], .agg [I u, I d], x, .fn 61 [] [.ref 5 0 0, .ref 3 0 0, .ref 4 0 0], .und, .und, .und, .und, .und, .und, .und, .und] [23, 24] (.reg [⟨(some 10), (.new [(.int .i64 (0)), (.int .i64 (0))]), none, []⟩, ⟨none, (.st 2 (.t 10) (.t 24)), none, []⟩]) (.block 1 (.reg [⟨(some 25), (.ld (.t 6)), none, []⟩, ⟨(some 26), (.fa 0 (.t 10)), none, []⟩, ⟨(some 27), (.ldn 2 (.t 26)), none, []⟩, ⟨(some 28), (.bsl 2 1 [(.int .i64 (0)), (.int .i64 (0))] [(0, (.t 27))]), none, []⟩, ⟨(some 29), (.app 2 (.t 25) (.t 28)), none, []⟩, ⟨none, (.st 1 (.t 6) (.t 29)), none, []⟩])) .ready none) :: g ∧ OutG g lv ((pRun u d ss (l, r)).map fun p => [I p.1, I p.2])) ?_ ?_
  ·have := a86_15 P T h86 h63 u d l r x ss hx (hlen rfl)
   simpa using this
  ·rintro v h ⟨lv, k1, k2, g, rfl, hout⟩
   refine ⟨_, _, _, _, _, _, rfl, by simp, ?_⟩
   simp only [zT, zB]
   generalize pRun u d ss (l, r) = rows at hout
   rcases hout with ⟨rfl, hrw⟩ | ⟨q, ⟨hne, rfl⟩, hq⟩
   ·have hrows : rows = [] := by simpa using hrw
    subst hrows
    refine zS (zR (zO (by simp [lop, Yk]; rfl) ?_))
    simp only [zT, zB]
    refine Zg ?_
    simp [trim, outV]
   ·refine zS (zR (zO (by simp [lop, Yk]; rfl) ?_))
    simp only [zT, zB]
    refine Zg ?_
    refine ⟨by simp, _, by simp; rfl, ?_⟩
    have hie : rows.isEmpty = false := by cases rows <;> simp at hne ⊢
    have e : frz true (some (.row 2 [[I u, I d]]) :: some (.row 2 [[I l, I r]]) :: some (.row 1 [[.sl (q + 7) 0 rows.length false]]) :: some (.row 2 [[I k1, I k2]]) :: some (.row 2 [[I u, I d]]) :: some (.row 1 [[x]]) :: none :: g) 4 (.sl (q + 7) 0 rows.length false) = some (.vl (rows.map fun p => [I p.1, I p.2]) false) :=
     frz_row true _ 3 (q + 7) _ 2 false _ (by simpa using hq) (by simp) (frz_rows true _ 2 _ fun r hr x hx => by simp at hr; obtain ⟨a, b, _, rfl⟩ := hr; simp at hx; rcases hx with rfl | rfl <;> rfl)
    simp [trim, outV, hie, -Xh, e]
end
section
attribute [local simp] Yj ZU YP YM XR Xo disj YY holes YZ ZX Xb news eqB Xc eqA YK Xi toCs ofCs stA ZE Yz ZV Yr dI1 dI2 dI3 dI5 elt
structure KS where
  lo : Int
  hi : Int
  most : Int
  hour : Int
  begun : Int
def twI (u d frm room n : Int) : Int := if frm < room then min room (frm + u * n) else max room (frm - d * n)
def kStay (u d : Int) (t : Stay) (s : KS) : KS :=
  if s.most < twI u d s.hi t.2.1 t.2.2 then ⟨twI u d s.lo t.1 t.2.2, twI u d s.hi t.2.1 t.2.2, twI u d s.hi t.2.1 t.2.2, s.begun + (twI u d s.hi t.2.1 t.2.2 - s.hi + u - 1).tdiv u, s.begun + t.2.2⟩
  else ⟨twI u d s.lo t.1 t.2.2, twI u d s.hi t.2.1 t.2.2, s.most, s.hour, s.begun + t.2.2⟩
def kRun (u d : Int) (ss : List Stay) (s : KS) : KS := ss.foldl (fun s t => kStay u d t s) s
def OkStay (t : Stay) : Prop := In300 t.1 ∧ In300 t.2.1 ∧ 0 ≤ t.2.2 ∧ t.2.2 ≤ 500
theorem mul_le500 {u n : Int} (hu : Rate u) (h0 : 0 ≤ n) (h1 : n ≤ 500) : 0 ≤ u * n ∧ u * n ≤ 25000 := by
  unfold Rate at hu
  refine ⟨Int.mul_nonneg hu.1 h0, ?_⟩
  calc u * n ≤ 50 * n := Int.mul_le_mul_of_nonneg_right hu.2 h0
    _ ≤ 50 * 500 := Int.mul_le_mul_of_nonneg_left h1 (by omega)
    _ = 25000 := by omega
theorem tw_twI {u d frm room n : Int} (hu : Rate u) (hd : Rate d) (hf : In300 frm) (h0 : 0 ≤ n) (h1 : n ≤ 500) : tw u d frm room n = twI u d frm room n := by
  have a := mul_le500 hu h0 h1
  have b := mul_le500 hd h0 h1
  unfold In300 at hf
  unfold tw twI
  rw [ZH (n := u * n) (by omega), ZH (n := d * n) (by omega), ZH (by omega), ZH (by omega)]
theorem twI_in {u d frm room n : Int} (hu : Rate u) (hd : Rate d) (hf : In300 frm) (hr : In300 room) (h0 : 0 ≤ n) (h1 : n ≤ 500) : In300 (twI u d frm room n) := by
  have a := mul_le500 hu h0 h1
  have b := mul_le500 hd h0 h1
  unfold In300 at *
  unfold twI; split <;> omega
theorem twI_zero {d frm room n : Int} (hd : Rate d) (h0 : 0 ≤ n) (h1 : n ≤ 500) : twI 0 d frm room n ≤ frm := by
  have b := mul_le500 hd h0 h1
  unfold twI; rw [Int.zero_mul]; split <;> omega
theorem a86_16 (P : Program) (T : Nat → Option CFn) (hT : T 61 = some c61) (h63 : T 44 = some { c44 with frsh := true, orc := o63 }) (u d l r : Int) (x : Za) (ss : List Stay) (hx : Zm x = some (ss.map rStay)) (hl : ss.length ≤ 10)
  (hu : Rate u) (hd : Rate d) (hss : ∀ t ∈ ss, OkStay t) (s0 : KS) (hs1 : In300 s0.lo) (hs2 : In300 s0.hi) (hs3 : s0.hi ≤ s0.most) (hs4 : s0.begun = 0) (rec : Blk) (hrec : rec = .loop [.agg [I u, I d], .agg [I l, I r], x, .ref 0 0 0, .ref 1 0 0, .und, .ref 2 0 0, .ref 3 0 0, I 0, I 0, .ref 4 0 0, .ref 5 0 0, .und, .und, .agg [I u, I d], .agg [I l, I r], x, I 0, I 0, B false, .und, .agg [I l, I r], .agg [I l, I r], .ref 1 0 1, I r, .agg [I l, I r], .agg [I u, I d], x, .fn 61 [] [.ref 8 0 0, .ref 6 0 0, .ref 7 0 0], .und, .und, .und, .und, .und, .und, .und, .und, .und, .und, .und, .und, .und, .und, .und, .und, .und, .und, .und, .und, .und, .und, .und, .und, .und, .und, .und, .und, .und, .und, .und, .und, .und] [29, 30] (.seq (.reg [⟨(some 12), (.new [(.int .i64 (0)), (.int .i64 (0)), (.int .i64 (0))]), none, []⟩, ⟨none, (.st 3 (.t 12) (.t 29)), none, []⟩]) (.reg [⟨(some 13), (.new [(.int .i64 (0)), (.int .i64 (0))]), none, []⟩, ⟨none, (.st 2 (.t 13) (.t 30)), none, []⟩])) (.block 1 (.seq (.seq (.reg [⟨(some 31), (.fa 0 (.t 13)), none, []⟩, ⟨(some 32), (.fa 1 (.t 31)), none, []⟩, ⟨(some 33), (.ld (.t 32)), none, []⟩, ⟨(some 34), (.ld (.t 6)), none, []⟩, ⟨(some 35), (.ar .gtr (.t 33) (.t 34)), none, []⟩]) (.cond (.t 35) (.drw [⟨(some 36), (.fa 0 (.t 13)), none, []⟩, ⟨(some 37), (.fa 1 (.t 36)), none, []⟩, ⟨(some 38), (.ld (.t 37)), none, []⟩, ⟨(some 39), (.ld (.t 11)), none, [0, 1, 2]⟩, ⟨(some 40), (.fa 0 (.t 13)), none, [0, 1, 2, 3]⟩, ⟨(some 41), (.fa 1 (.t 40)), none, [0, 1, 2, 3]⟩, ⟨(some 42), (.ld (.t 41)), none, [0, 1, 2, 3]⟩, ⟨(some 43), (.fa 0 (.t 10)), none, [0, 1, 2, 3, 4, 5, 6]⟩, ⟨(some 44), (.fa 1 (.t 43)), none, [0, 1, 2, 3, 4, 5, 6]⟩, ⟨(some 45), (.ld (.t 44)), none, [0, 1, 2, 3, 4, 5, 6]⟩, ⟨(some 46), (.ar .sub (.t 42) (.t 45)), none, [0, 1, 2, 3]⟩, ⟨(some 47), (.fa 0 (.t 3)), none, [0, 1, 2, 3, 4, 5, 6, 7, 8, 9, 10]⟩, ⟨(some 48), (.ld (.t 47)), none, [0, 1, 2, 3, 4, 5, 6, 7, 8, 9, 10]⟩, ⟨(some 49), (.ar .add (.t 46) (.t 48)), none, [0, 1, 2, 3]⟩, ⟨(some 50), (.ar .sub (.t 49) (.c (.int .i64 (1)))), none, [0, 1, 2, 3]⟩, ⟨(some 51), (.fa 0 (.t 3)), none, [0, 1, 2, 3, 4, 5, 6, 7, 8, 9, 10, 11, 12, 13, 14]⟩, ⟨(some 52), (.ld (.t 51)), none, [0, 1, 2, 3, 4, 5, 6, 7, 8, 9, 10, 11, 12, 13, 14]⟩, ⟨(some 53), (.ar .quo (.t 50) (.t 52)), none, [0, 1, 2, 3]⟩, ⟨(some 54), (.ar .add (.t 39) (.t 53)), none, [0, 1, 2]⟩, ⟨none, (.st 1 (.t 6) (.t 38)), none, [3, 4, 5, 6, 7, 8, 9, 10, 11, 12, 13, 14, 15, 16, 17, 18]⟩, ⟨none, (.st 1 (.t 7) (.t 54)), none, []⟩]) .skip)) (.drw [⟨(some 55), (.ldn 2 (.t 13)), none, []⟩, ⟨(some 56), (.ld (.t 11)), none, [0]⟩, ⟨(some 57), (.fa 2 (.t 12)), none, [0, 1]⟩, ⟨(some 58), (.ld (.t 57)), none, [0, 1]⟩, ⟨(some 59), (.ar .add (.t 56) (.t 58)), none, [0]⟩, ⟨none, (.st 2 (.t 10) (.t 55)), none, [1, 2, 3, 4]⟩, ⟨none, (.st 1 (.t 11) (.t 59)), none, []⟩]))) .ready none) :
  Zr P T 61 [.yld 9, .ref 8 0 0, .ref 6 0 0, .ref 7 0 0] [some (.row 2 [[I u, I d]]), some (.row 2 [[I l, I r]]), some (.row 1 [[I s0.most]]), some (.row 1 [[I s0.hour]]), some (.row 2 [[I s0.lo, I s0.hi]]), some (.row 1 [[I s0.begun]]), some (.row 2 [[I s0.lo, I s0.hi]]), some (.row 2 [[I u, I d]]), some (.row 1 [[x]]), some rec] fun _ h => ∃ s, s = kRun u d ss s0 ∧ h = [some (.row 2 [[I u, I d]]), some (.row 2 [[I l, I r]]), some (.row 1 [[I s.most]]), some (.row 1 [[I s.hour]]), some (.row 2 [[I s.lo, I s.hi]]), some (.row 1 [[I s.begun]]), some (.row 2 [[I s.lo, I s.hi]]), some (.row 2 [[I u, I d]]), some (.row 1 [[x]]), some rec] := by
 have lx := Zv hx
 rw [List.length_map] at lx
 have hrbx := ZF hx
 have hrecB : rbB 11 (some rec) = true := by subst hrec; simp [rbB, hrbx]
 have hrecC : rbB 10 (some rec) = true := by subst hrec; simp [rbB, hrbx]
 refine Zl hT (Zo rfl) ?_
 simp only [oo, om, op, og, ci, cl, c61]
 refine zS (zR (zO (by simp [lx, -Zd]; rfl) ?_))
 simp only [zT, zB]
 refine zL ?_
 refine ZL (fun m σ => ∃ (k : Nat) (i : Int) (s : KS), i = k ∧ m = ss.length - k ∧ k ≤ ss.length ∧ kRun u d (ss.drop k) s = kRun u d ss s0 ∧ In300 s.lo ∧ In300 s.hi ∧ s.hi ≤ s.most ∧ 0 ≤ s.begun ∧ s.begun ≤ 500 * k ∧
  σ = ⟨[.yld 9, .any, .ref 6 0 0, .ref 7 0 0, .any, .any, .any, x, I ss.length, I i, .any, .any, .any, .any, .any, .any, .any, .any, .any, .any, .any, .any, .any, .any, .any, .any], [some (.row 2 [[I u, I d]]), some (.row 2 [[I l, I r]]), some (.row 1 [[I s.most]]), some (.row 1 [[I s.hour]]), some (.row 2 [[I s.lo, I s.hi]]), some (.row 1 [[I s.begun]]), some (.row 2 [[I s.lo, I s.hi]]), some (.row 2 [[I u, I d]]), some (.row 1 [[x]]), some rec]⟩) ?_ (ss.length - 0) _ ⟨0, 0, s0, rfl, rfl, Nat.zero_le _, rfl, hs1, hs2, hs3, by omega, by omega, by simp⟩
 rintro m σ ⟨k, i, s, hik, rfl, hk, hrun, hslo, hshi, hsm, hb0, hb1, rfl⟩
 have hi0 : 0 ≤ i := by omega
 have htn : i.toNat = k := by omega
 refine zS (zR (zO (by simp; rfl) ?_))
 simp only [zT, zB]
 refine zS (Zk (x := decide (i < (ss.length : Int))) (by simp) (fun hlt => ?_) (fun hge => ?_))
 ·refine zK ?_
  simp only [zT, zB]
  have hlt' : k < ss.length := by have := of_decide_eq_true hlt; omega
  obtain ⟨tt, rfl⟩ := ZG hx (k := k) (by simpa using hlt')
  rw [List.drop_eq_getElem_cons hlt'] at hrun
  have hsk := hss _ (List.getElem_mem hlt')
  generalize hs : ss[k] = t at hrun hsk
  have hstep : kRun u d (ss.drop (k + 1)) (kStay u d t s) = kRun u d ss s0 := hrun
  have hwi : W .i64 (i + 1) = i + 1 := ZH (by omega)
  obtain ⟨tl, th, tn⟩ := t
  obtain ⟨ht1, ht2, ht3, ht4⟩ := hsk
  simp only at ht1 ht2 ht3 ht4
  have e1 := tw_twI (room := tl) hu hd hslo ht3 ht4
  have e2 := tw_twI (room := th) hu hd hshi ht3 ht4
  have i1 := twI_in hu hd hslo ht1 ht3 ht4
  have i2 := twI_in hu hd hshi ht2 ht3 ht4
  refine zS (zL ?_)
  refine zS (zR (zO (by simp [hi0, htn, hlt', hs, rStay, lop, Yk]; rfl) ?_))
  simp only [zT, zB]
  refine zS (zR (zO (by simp [lop, Yk, Ya, Zq, zC h63, h63, o63]; rfl) ?_))
  simp only [zT, zB]
  rw [e1, e2]
  have hz : s.most < twI u d s.hi th tn → u ≠ 0 := fun h hu0 => by
   subst hu0
   have := twI_zero (frm := s.hi) (room := th) hd ht3 ht4
   omega
  have hk1 : (kStay u d (tl, th, tn) s).lo = twI u d s.lo tl tn ∧ (kStay u d (tl, th, tn) s).hi = twI u d s.hi th tn ∧ (kStay u d (tl, th, tn) s).begun = s.begun + tn := by unfold kStay; split <;> exact ⟨rfl, rfl, rfl⟩
  have hwb : W .i64 (s.begun + tn) = s.begun + tn := ZH (by omega)
  generalize hlo : twI u d s.lo tl tn = lo' at *
  generalize hhi : twI u d s.hi th tn = hi' at *
  refine zS (zR ?_)
  refine Yo 0 (by simp; rfl) (Yo 0 (by simp; rfl) (Yo 0 (by simp; rfl) ?_))
  refine ops_yield (i := 9) (by simp) (by simp) (by simp [lop]) (by simp [Zq]; rfl) (by rw [hrec]; rfl) rfl ?_
  refine zS (zR (zO (by simp [setAll, lop, Yk]; rfl) ?_))
  simp only [zT, zB]
  refine zR (zO (by simp [setAll, lop, Yk]; rfl) ?_)
  refine ⟨rfl, _, _, _, _, _, by rw [hrec]; rfl, ?_⟩
  refine zL (zS (zS (zR (zO (by simp; rfl) ?_))))
  simp only [zT, zB]
  refine Zk (x := decide (s.most < hi')) (by simp) (fun hm => ?_) (fun hm => ?_)
  ·have hm := of_decide_eq_true hm
   have hu0 := hz hm
   have hk2 : (kStay u d (tl, th, tn) s).most = hi' ∧ (kStay u d (tl, th, tn) s).hour = s.begun + (hi' - s.hi + u - 1).tdiv u := by unfold kStay; simp only [hlo, hhi, hm, if_true, and_self]
   have w1 : W .i64 (hi' - s.hi) = hi' - s.hi := ZH (by unfold In300 at *; omega)
   have w2 : W .i64 (hi' - s.hi + u) = hi' - s.hi + u := ZH (by unfold In300 Rate at *; omega)
   have w3 : W .i64 (hi' - s.hi + u - 1) = hi' - s.hi + u - 1 := ZH (by unfold In300 Rate at *; omega)
   have hq : 0 ≤ (hi' - s.hi + u - 1).tdiv u ∧ (hi' - s.hi + u - 1).tdiv u ≤ 400 := by
    unfold In300 Rate at *
    have h1 : 0 ≤ hi' - s.hi + u - 1 := by omega
    refine ⟨Int.tdiv_nonneg h1 hu.1, ?_⟩
    rw [Int.tdiv_eq_ediv_of_nonneg h1]
    exact Int.le_trans (Int.ediv_le_self _ h1) (by omega)
   have w4 : W .i64 ((hi' - s.hi + u - 1).tdiv u) = (hi' - s.hi + u - 1).tdiv u := ZH (by omega)
   have w5 : W .i64 (s.begun + (hi' - s.hi + u - 1).tdiv u) = s.begun + (hi' - s.hi + u - 1).tdiv u := ZH (by omega)
   refine Yd (by simp [lop, Yk, w1, w2, w3, w4, w5, hu0]; rfl) ?_
   simp only [zT, zB]
   refine Yd (by simp [lop, Yk, hwb]; rfl) ?_
   refine ⟨_, _, _, _, _, _, rfl, ?_⟩
   simp only
   refine zO (by simp [trim, rbB, hrbx]; rfl) ?_
   simp only [zT, zB]
   refine Zi (x := false) (by simp) ?_
   refine zK ?_
   simp only [zT, zB]
   refine zR (zO (by simp [hwi]; rfl) ?_)
   simp only [zT, zB]
   refine ⟨ss.length - (k + 1), by omega, k + 1, i + 1, kStay u d (tl, th, tn) s, by omega, rfl, by omega, hstep, by rw [hk1.1]; exact i1, by rw [hk1.2.1]; exact i2, by rw [hk1.2.1, hk2.1]; omega, by rw [hk1.2.2]; omega, by rw [hk1.2.2]; omega, ?_⟩
   rw [hk1.1, hk1.2.1, hk1.2.2, hk2.1, hk2.2]
   simp only [hrec]
   simp [trim, rbB, hrbx]
  ·have hm := of_decide_eq_false hm
   have hk2 : (kStay u d (tl, th, tn) s).most = s.most ∧ (kStay u d (tl, th, tn) s).hour = s.hour := by unfold kStay; simp only [hlo, hhi, hm, if_false, and_self]
   refine zK ?_
   simp only [zT, zB]
   refine Yd (by simp [lop, Yk, hwb]; rfl) ?_
   refine ⟨_, _, _, _, _, _, by first | rfl | (rw [hrec]; rfl), ?_⟩
   simp only
   refine zO (by simp [trim, rbB, hrbx]; rfl) ?_
   simp only [zT, zB]
   refine Zi (x := false) (by simp) ?_
   refine zK ?_
   simp only [zT, zB]
   refine zR (zO (by simp [hwi]; rfl) ?_)
   simp only [zT, zB]
   refine ⟨ss.length - (k + 1), by omega, k + 1, i + 1, kStay u d (tl, th, tn) s, by omega, rfl, by omega, hstep, by rw [hk1.1]; exact i1, by rw [hk1.2.1]; exact i2, by rw [hk1.2.1, hk2.1]; omega, by rw [hk1.2.2]; omega, by rw [hk1.2.2]; omega, ?_⟩
   rw [hk1.1, hk1.2.1, hk1.2.2, hk2.1, hk2.2]
   simp only [hrec]
   simp [trim, rbB, hrbx]
 ·refine ZI ?_
  simp only [zT, zB, if_true]
  have hke : k = ss.length := by
   have := of_decide_eq_false hge
   omega
  subst hke
  rw [List.drop_length] at hrun
  refine ⟨by simp, [], by simp, s, hrun, ?_⟩
  simp [trim]
theorem checkI_ok {u d l r : Int} {ss : List Stay} (h : checkI u d l r ss = 0) : Rate u ∧ Rate d ∧ In300 l ∧ In300 r ∧ l ≤ r ∧ ss.length ≤ 10 ∧ ∀ t ∈ ss, OkStay t ∧ t.1 ≤ t.2.1 := by
  have hw : ∀ a b xs, wB a b xs = true → ∀ x ∈ xs, a ≤ x ∧ x ≤ b := fun a b xs h x hx => by
    simp only [wB, List.all_eq_true, Bool.and_eq_true, decide_eq_true_eq] at h
    exact h x hx
  have hm : ∀ a b, YW a b = true → In300 a ∧ In300 b ∧ a ≤ b := fun a b h => by
    simp only [YW, Bool.and_eq_true, decide_eq_true_eq] at h
    exact ⟨hw _ _ _ h.1 a (by simp), hw _ _ _ h.1 b (by simp), h.2⟩
  unfold checkI at h
  split at h
  · simp at h
  · rename_i h1
    split at h
    · simp at h
    · rename_i h2
      split at h
      · simp at h
      · rename_i h3
        split at h
        · simp at h
        · rename_i h4
          have h1 : wB 0 50 [u, d] = true := by simpa [ruleB] using h1
          have h2 := hm l r (by simpa using h2)
          refine ⟨hw _ _ _ h1 u (by simp), hw _ _ _ h1 d (by simp), h2.1, h2.2.1, h2.2.2, by omega, fun t ht => ?_⟩
          have h5 : isNoneB t.1 t.2.1 t.2.2 = false := by
            cases hb : isNoneB t.1 t.2.1 t.2.2 with
            | false => rfl
            | true => exact absurd (List.any_eq_true.2 ⟨t, ht, hb⟩) h4
          simp only [isNoneB, Bool.or_eq_false_iff, Bool.not_eq_false'] at h5
          have h6 := hm _ _ h5.1
          have h7 := hw _ _ _ h5.2 t.2.2 (by simp)
          exact ⟨⟨h6.1, h6.2.1, h7.1, h7.2⟩, h6.2.2⟩
theorem a16 (P : Program) (T : Nat → Option CFn) (hT : T 20 = some c20) (h14 : T 39 = some { c39 with frsh := true, orc := o14 }) (h59 : T 40 = some c40) (h86 : T 61 = some c61) (h63 : T 44 = some { c44 with frsh := true, orc := o63 })
  (u d l r : Int) (x : Za) (ss : List Stay) (hx : Zm x = some (ss.map rStay)) (hl : ss.length ≤ 1000) :
  Zr P T 20 [.agg [I u, I d], .agg [I l, I r], x] [] fun v h => v = (if checkI u d l r ss = 0 then .tup [I (kRun u d ss ⟨l, r, r, 0, 0⟩).most, I (kRun u d ss ⟨l, r, r, 0, 0⟩).hour, I 0] else .tup [I 0, I 0, I (checkI u d l r ss)]) ∧ h = [] := by
 have ho := o14_eq u d l r x ss hx hl
 have hok := checkI_ok (u := u) (d := d) (l := l) (r := r) (ss := ss)
 generalize checkI u d l r ss = e at ho hok
 refine Zl hT (Zo rfl) ?_
 simp only [oo, om, op, og, ci, cl, c20]
 refine zS (zR (zO (by simp; rfl) ?_))
 simp only [zT, zB]
 refine zS (zS (zR (zO (by simp [lop, Yk, Ya, Zq, zC h14, h14, ho, Zw hx]; rfl) ?_)))
 simp only [zT, zB]
 refine zS (zR (zO (by simp; rfl) ?_))
 simp only [zT, zB]
 refine Zk (x := e != 0) (by simp) (fun h1 => ?_) (fun h1 => ?_)
 ·have h1 : ¬ e = 0 := by simpa using h1
  refine zS (zR (zO (by simp [lop, Yk]; rfl) ?_))
  simp only [zT, zB]
  refine Zg ?_
  simp [h1]
 ·have h1 : e = 0 := by simpa using h1
  subst h1
  obtain ⟨hu, hd, hl1, hr1, hlr, hlen, hss⟩ := hok rfl
  refine zK ?_
  simp only [zT, zB]
  refine zS (zR (zO (by simp [lop, Yk]; rfl) ?_))
  simp only [zT, zB]
  refine zS (zR (zO (by simp [lop, Yk]; rfl) ?_))
  simp only [zT, zB]
  refine zS (zS (zR ?_))
  refine Yo 0 (by simp; rfl) (Yo 0 (by simp; rfl) (Yo 0 (by simp; rfl) ?_))
  refine ops_call (f := 40) (args := [.agg [I l, I r], .agg [I u, I d], x]) (by simp) (by simp) (by simp [lop]) (by simp [Zq]) ?_
  refine (a59 P T h59 l r u d x _ hx _).mono ?_
  rintro v h' ⟨rfl, rfl⟩
  refine ops_nil ?_
  simp only [zT, zB]
  refine zL ?_
  refine runs_rf (f := 61) (a := []) (b := [.ref 8 0 0, .ref 6 0 0, .ref 7 0 0]) (by simp [inLoop]) (by simp) ?_
  refine Zr.mono (a86_16 P T h86 h63 u d l r x ss hx hlen hu hd (fun t ht => (hss t ht).1) ⟨l, r, r, 0, 0⟩ hl1 hr1 (Int.le_refl _) rfl _ rfl) ?_
  rintro v h ⟨s, rfl, rfl⟩
  refine ⟨_, _, _, _, _, _, rfl, by simp, ?_⟩
  simp only [zT, zB]
  refine zS (Yd (by simp [lop, Yk]; rfl) ?_)
  simp only [zT, zB]
  refine Zg ?_
  simp
end
end
end Go.Proofs.YtpebmjeomlgmdaaGreatDoor.Tab
namespace Go.Proofs.YtpebmjeomlgmdaaGreatDoor.Tab
open Go Go.Abs Go.Proofs
theorem tw0 (u d frm room : Int) : twI u d frm room 0 = frm := by
  unfold twI; rw [Int.mul_zero, Int.mul_zero]; split <;> omega
def after (u d rl rh : Int) (n : Nat) (s : RS) : RS :=
  if s.peak < twI u d s.hi rh n then ⟨twI u d s.lo rl n, twI u d s.hi rh n, twI u d s.hi rh n, s.hour + (twI u d s.hi rh n - s.hi + u - 1).tdiv u, s.hour + n⟩
  else ⟨twI u d s.lo rl n, twI u d s.hi rh n, s.peak, s.first, s.hour + n⟩
end Go.Proofs.YtpebmjeomlgmdaaGreatDoor.Tab
namespace Go.Proofs.YtpebmjeomlgmdaaGreatDoor.Tab
open Go Go.Abs Go.Proofs
set_option maxRecDepth 100000
noncomputable section
attribute [local simp] Yv Ye XB XC YD YJ XD YL Xh YC Zf orcF Xv YV Xx Xt YU YA rb_vl rb_pv Xr YT YS YR Xw Xs Xu XZ rb_fn slE XP Xk Yp ZQ XG List.range_succ List.range_zero List.range'_succ List.range'_zero Yi Yg ZK Yl ZR ZT Xm Yf dop CV.ev cellsOf Ys ZA ZM Xa fI_eq Yt Yc ZN Zz Out.v Xy List.replicate_succ zT zB arI ZO Abs.rowAt Xq allV toV toC ofV ofC Builtin.min_ Builtin.min2 Builtin.max_ Builtin.max2 Xz XA resA XS Xj Yh Yx Yy Yw Zd
section
attribute [local simp] Yj ZU YP YM XR Xo disj YY holes YZ ZX Xb news eqB Xc eqA YK Xi toCs ofCs stA ZE Yz ZV Yr dI1 dI2 dI3 dI5 elt
def o15 : List Za → Option Za
  | [.agg [.int .i64 u, .int .i64 d], .agg [.int .i64 l, .int .i64 h], x] => match Zm x with
    | some rs => match Zf dI3 rs with
      | some ss => if ss.length ≤ 1000 then some (.tup [outV (if checkI u d l h ss = 0 then pRun u d ss (l, h) else []), I (checkI u d l h ss)]) else none
      | none => none
    | none => none
  | _ => none
def o16 : List Za → Option Za
  | [.agg [.int .i64 u, .int .i64 d], .agg [.int .i64 l, .int .i64 h], x] => match Zm x with
    | some rs => match Zf dI3 rs with
      | some ss => if ss.length ≤ 1000 then some (if checkI u d l h ss = 0 then .tup [I (kRun u d ss ⟨l, h, h, 0, 0⟩).most, I (kRun u d ss ⟨l, h, h, 0, 0⟩).hour, I 0] else .tup [I 0, I 0, I (checkI u d l h ss)]) else none
      | none => none
    | none => none
  | _ => none
def liesB (l h a b : Int) : Bool := decide (a ≤ l) && decide (h ≤ b)
def o62 : List Za → Option Za
  | [.agg [.int .i64 l, .int .i64 h], .agg [.int .i64 a, .int .i64 b]] => some (.bool (liesB l h a b))
  | _ => none
theorem a62 (P : Program) (T : Nat → Option CFn) (hT : T 43 = some c43) (l r a b : Int) : Zr P T 43 [.agg [I l, I r], .agg [I a, I b]] [] fun v h => v = .bool (liesB l r a b) ∧ h = [] := by
 refine Zl hT (Zo rfl) ?_
 simp only [oo, om, op, og, ci, cl, c43]
 refine zS (zR (zO (by simp; rfl) ?_))
 simp only [zT, zB]
 unfold liesB
 by_cases hx : a ≤ l
 ·refine zS (zR (zO (by simp [hx]; rfl) ?_))
  simp only [zT, zB]
  refine Zg ?_
  simp [hx]
 ·refine zS (zR (zO (by simp [hx]; rfl) ?_))
  simp only [zT, zB]
  refine Zg ?_
  simp [hx]
def TI1_15 : Nat → Option CFn := upd TE2 18 true (o15)
theorem TI1_15_ok : ZB Tryz.prog GG TI1_15 := ZD Zh TE2_ok fun args v ho => by
  unfold o15 at ho; split at ho <;> (try simp at ho)
  rename_i u d l r x
  split at ho <;> (try simp at ho)
  rename_i rs hx
  split at ho <;> (try simp at ho)
  rename_i xs hxs
  obtain ⟨hl, rfl⟩ := ho
  have e := ZY dI3_eq hxs
  subst e
  exact a15 Tryz.prog TE2 rfl rfl rfl rfl rfl u d l r x xs hx hl
def TI1_16 : Nat → Option CFn := upd TI1_15 20 true (o16)
theorem TI1_16_ok : ZB Tryz.prog GG TI1_16 := ZD Zh TI1_15_ok fun args v ho => by
  unfold o16 at ho; split at ho <;> (try simp at ho)
  rename_i u d l r x
  split at ho <;> (try simp at ho)
  rename_i rs hx
  split at ho <;> (try simp at ho)
  rename_i xs hxs
  obtain ⟨hl, rfl⟩ := ho
  have e := ZY dI3_eq hxs
  subst e
  refine (a16 Tryz.prog TI1_15 rfl rfl rfl rfl rfl u d l r x xs hx hl).mono ?_
  rintro v h ⟨rfl, rfl⟩
  split <;> simp [YJ, Yv, Zf]
def TI1 : Nat → Option CFn := upd TI1_16 43 true (o62)
theorem TI1_ok : ZB Tryz.prog GG TI1 := ZD Zh TI1_16_ok fun args v ho => by
  unfold o62 at ho; split at ho <;> simp at ho
  rename_i a b c e
  subst ho
  refine (a62 Tryz.prog TI1_16 rfl a b c e).mono ?_
  rintro v h ⟨rfl, rfl⟩
  rfl
def hRun (u d sl sh rl rh ll lh : Int) : Nat → Int → Int
  | 0, n => n
  | f + 1, n => if liesB (tw u d sl rl (n + 1)) (tw u d sh rh (n + 1)) ll lh then hRun u d sl sh rl rh ll lh f (n + 1) else n
def hoursE (u d sl sh rl rh ll lh : Int) : Int := if !ruleB u d then 2 else if !(YW sl sh && (YW rl rh && YW ll lh)) then 3 else if !liesB sl sh ll lh then 9 else 0
def o21 : List Za → Option Za
  | [.agg [.int .i64 u, .int .i64 d], .agg [.int .i64 sl, .int .i64 sh], .agg [.int .i64 rl, .int .i64 rh], .agg [.int .i64 ll, .int .i64 lh]] =>
    some (.tup [I (if hoursE u d sl sh rl rh ll lh = 0 then hRun u d sl sh rl rh ll lh 500 0 else 0), I (hoursE u d sl sh rl rh ll lh)])
  | _ => none
theorem a21 (P : Program) (T : Nat → Option CFn) (hT : T 21 = some c21) (h57 : T 41 = some { c41 with frsh := true, orc := o57 }) (h55 : T 42 = some { c42 with frsh := true, orc := o55 }) (h62 : T 43 = some { c43 with frsh := true, orc := o62 }) (h63 : T 44 = some { c44 with frsh := true, orc := o63 }) (u d sl sh rl rh ll lh : Int) :
  Zr P T 21 [.agg [I u, I d], .agg [I sl, I sh], .agg [I rl, I rh], .agg [I ll, I lh]] [] fun v h => v = .tup [I (if hoursE u d sl sh rl rh ll lh = 0 then hRun u d sl sh rl rh ll lh 500 0 else 0), I (hoursE u d sl sh rl rh ll lh)] ∧ h = [] := by
 unfold hoursE
 refine Zl hT (Zo rfl) ?_
 simp only [oo, om, op, og, ci, cl, c21]
 refine zS (zR (zO (by simp; rfl) ?_))
 simp only [zT, zB]
 refine zS (zL ?_)
 refine zS (zR (zO (by simp [lop, Yk, Ya, Zq, zC h57, h57, o57]; rfl) ?_))
 simp only [zT, zB]
 refine Zk (x := !ruleB u d) (by simp) (fun h1 => ?_) (fun h1 => ?_)
 ·refine zS (zR (zO (by simp; rfl) ?_))
  simp only [zT, zB]
  refine Zg ?_
  simp [h1]
 refine zS (zR (zO (by simp [lop, Yk, Ya, Zq, zC h55, h55, o55]; rfl) ?_))
 simp only [zT, zB]
 refine Zk (x := !(YW sl sh && (YW rl rh && YW ll lh))) (by simp) (fun h2 => ?_) (fun h2 => ?_)
 ·refine zS (zR (zO (by simp; rfl) ?_))
  simp only [zT, zB]
  refine Zg ?_
  rw [h1, h2]
  simp
 refine zS (zR (zO (by simp [lop, Yk, Ya, Zq, zC h62, h62, o62]; rfl) ?_))
 simp only [zT, zB]
 refine Zk (x := !liesB sl sh ll lh) (by simp) (fun h3 => ?_) (fun h3 => ?_)
 ·refine zS (zR (zO (by simp; rfl) ?_))
  simp only [zT, zB]
  refine Zg ?_
  rw [h1, h2, h3]
  simp
 refine zK ?_
 simp only [zT, zB]
 rw [h1, h2, h3]
 simp only [Bool.false_eq_true, if_false, if_true]
 refine zS (zR (zO (by simp; rfl) ?_))
 simp only [zT, zB]
 generalize hR : hRun u d sl sh rl rh ll lh 500 0 = R
 refine zS (zL ?_)
 refine ZL (fun m σ => ∃ (k : Nat) (n : Int), n = k ∧ m = 500 - k ∧ k ≤ 500 ∧ hRun u d sl sh rl rh ll lh (500 - k) n = R ∧
  σ = ⟨[.any, .any, .any, .any, .ref 0 0 0, .ref 1 0 0, .ref 2 0 0, .ref 3 0 0, .any, .any, I n, .any, .any, .any, .any, .any, .any, .any, .any, .any, .any, .any, .any, .any, .any, .any, .any, .any, .any, .any, .any, .any, .any, .any, .any, .any, .any, .any, .any, .any, .any, .any, .any, .any], [some (.row 2 [[I u, I d]]), some (.row 2 [[I sl, I sh]]), some (.row 2 [[I rl, I rh]]), some (.row 2 [[I ll, I lh]]), some (.row 2 [[I sl, I sh], [I rl, I rh], [I ll, I lh]])]⟩) ?_ (500 - 0) _ ⟨0, 0, rfl, rfl, Nat.zero_le _, hR, by simp⟩
 clear hR
 rintro m σ ⟨k, n, hnk, rfl, hk, hrun, rfl⟩
 have hw : W .i64 (n + 1) = n + 1 := ZH (by omega)
 by_cases hn : n < 500
 ·refine zS (zS (Yd (by simp [hn, hw, lop, Yk, Ya, Zq, zC h62, h62, zC h63, h63, o62, o63]; rfl) ?_))
  simp only [zT, zB]
  rw [show 500 - k = (500 - (k + 1)) + 1 by omega] at hrun
  refine Zk (x := liesB (tw u d sl rl (n + 1)) (tw u d sh rh (n + 1)) ll lh) (by simp) (fun h4 => ?_) (fun h4 => ?_)
  ·refine zK ?_
   simp only [zT, zB]
   refine zL (zR (zO (by simp [hw]; rfl) ?_))
   simp only [zT, zB]
   rw [hRun, if_pos h4] at hrun
   refine ⟨500 - (k + 1), by omega, k + 1, n + 1, by omega, rfl, by omega, hrun, ?_⟩
   simp [trim, rbB]
  ·refine ZI ?_
   simp only [zT, zB, if_true]
   rw [hRun, h4] at hrun
   simp only [Bool.false_eq_true, if_false] at hrun
   rw [← hrun]
   refine zS (zR (zO (by simp; rfl) ?_))
   simp only [zT, zB]
   refine Zg ?_
   simp
 ·have hk5 : k = 500 := by omega
  subst hk5
  refine zS (zS (Yd (by simp [hn]; rfl) ?_))
  simp only [zT, zB]
  refine Zi (x := false) (by simp) ?_
  refine ZI ?_
  simp only [zT, zB, if_true]
  simp only [Nat.sub_self, hRun] at hrun
  rw [← hrun]
  refine zS (zR (zO (by simp; rfl) ?_))
  simp only [zT, zB]
  refine Zg ?_
  simp
def TI : Nat → Option CFn := upd TI1 21 true (o21)
theorem TI_ok : ZB Tryz.prog GG TI := ZD Zh TI1_ok fun args v ho => by
  unfold o21 at ho; split at ho <;> simp at ho
  rename_i a b c e f g h i
  subst ho
  refine (a21 Tryz.prog TI1 rfl rfl rfl rfl rfl a b c e f g h i).mono ?_
  rintro v h ⟨rfl, rfl⟩
  simp [YJ, Yv, Zf]
end
end
end Go.Proofs.YtpebmjeomlgmdaaGreatDoor.Tab
namespace Go.Abs
open Go
noncomputable section
def isR (R : Za) (x : Option (Za × Zj)) : Bool := match x with
 | some (v, h) => match frz true h 5 v with
  | some r => eqA 12 r R
  | none => false
 | none => false
theorem YF {P : Program} {T : Nat → Option CFn} {f n : Nat} {A : List Za} {R : Za} (h : isR R (YH T (exec P T n) f A []) = true) : Zr P T f A [] fun v' h' => frz true h' 5 v' = some R := by
 cases hc : YH T (exec P T n) f A [] with
 | none => rw [hc] at h; simp [isR] at h
 | some p =>
  obtain ⟨v, g⟩ := p
  rw [hc] at h
  unfold isR at h
  simp only at h
  split at h
  ·rename_i r hr
   exact ⟨n, v, g, hc, by show frz true g 5 v = some R; rw [hr, eqA_eq 12 r R h]⟩
  ·simp at h
def oAt : List (List Za × Za) → List Za → Option Za
 | [], _ => none
 | (A, R) :: L, args => if Xc (eqA 12) args A then some R else oAt L args
theorem allB_eqA : ∀ {xs ys : List Za} {n : Nat}, Xc (eqA n) xs ys = true → xs = ys
 | [], [], _, _ => rfl
 | x :: xs, y :: ys, n, h => by
  simp only [Xc, Bool.and_eq_true] at h
  rw [eqA_eq n x y h.1, allB_eqA h.2]
 | [], _ :: _, _, h => by simp [Xc] at h
 | _ :: _, [], _, h => by simp [Xc] at h
theorem oAt_ok {P : Program} {T : Nat → Option CFn} {f : Nat} : ∀ {L : List (List Za × Za)}, (∀ p ∈ L, Zr P T f p.1 [] fun v' h' => frz true h' 5 v' = some p.2) → ∀ args v, oAt L args = some v → Zr P T f args [] fun v' h' => frz true h' 5 v' = some v
 | [], _, args, v, h => by simp [oAt] at h
 | (A, R) :: L, hL, args, v, h => by
  simp only [oAt] at h
  split at h
  ·rename_i he
   simp at h
   subst h
   rw [allB_eqA he]
   exact hL (A, R) (by simp)
  ·exact oAt_ok (fun p hp => hL p (by simp [hp])) args v h
end
end Go.Abs
namespace Go.Proofs.YtpebmjeomlgmdaaGreatDoor.Tab
open Go Go.Abs Go.Proofs
noncomputable section
set_option maxRecDepth 1000000
def kRule : Za := .agg [I 10, I 4]
def kItem (h : Int) : List Za := [I 60, I 70, I 50, I 85, I h]
def kRooms : Za := .vl [[I 90, I 100, I 2], [I 50, I 60, I 1]] true
def kCauses (m : Int) (t : Bool) : Za := .vl [[I 1, I 2], [I 4, I 0], [I 0, I m], [I 8, I 1]] t
def kInts (l : List Int) : Za := .vl (l.map fun n => [I n]) false
def A44a : List Za := [kRule, .vl [kItem 1, kItem 2] true, kRooms]
def A44b : List Za := [kRule, .vl [kItem 2, kItem 2] true, kRooms]
theorem k44a : isR (.tup [kInts [0, 1], I 0]) (YH TI (exec Tryz.prog TI 3000) 8 A44a []) = true := by kernel_rfl
theorem k44b : isR (.tup [.nils, I 9]) (YH TI (exec Tryz.prog TI 3000) 8 A44b []) = true := by kernel_rfl
def L44 : List (List Za × Za) := [(A44a, .tup [kInts [0, 1], I 0]), (A44b, .tup [.nils, I 9])]
def TK1 : Nat → Option CFn := upd TI 8 true (oAt L44)
theorem TK1_ok : ZB Tryz.prog GG TK1 := ZD Zh TI_ok (oAt_ok fun p hp => by
  simp only [L44, List.mem_cons, List.not_mem_nil, or_false] at hp
  rcases hp with rfl | rfl
  · exact YF k44a
  · exact YF k44b)
theorem k47 : isR (.tup [kInts [0, 1], I 0]) (YH TK1 (exec Tryz.prog TK1 3000) 15 A44b []) = true := by kernel_rfl
def L47 : List (List Za × Za) := [(A44b, .tup [kInts [0, 1], I 0])]
def TK2 : Nat → Option CFn := upd TK1 15 true (oAt L47)
theorem TK2_ok : ZB Tryz.prog GG TK2 := ZD Zh TK1_ok (oAt_ok fun p hp => by
  simp only [L47, List.mem_cons, List.not_mem_nil, or_false] at hp
  subst hp
  exact YF k47)
end
end Go.Proofs.YtpebmjeomlgmdaaGreatDoor.Tab
namespace Go.Proofs.YtpebmjeomlgmdaaGreatDoor.Tab
open Go Go.Abs Go.Proofs
noncomputable section
set_option maxRecDepth 1000000
theorem k30a : isR (.tup [.vl [[kInts [2]]] false, I 0]) (YH TK2 (exec Tryz.prog TK2 3000) 24 [kCauses 7 false, I 5, I 8] []) = true := by kernel_rfl
theorem k30b : isR (.tup [.vl [[kInts [0, 1]], [kInts [1, 3]]] false, I 0]) (YH TK2 (exec Tryz.prog TK2 3000) 24 [kCauses 0 false, I 5, I 0] []) = true := by kernel_rfl
def L30 : List (List Za × Za) := [([kCauses 7 false, I 5, I 8], .tup [.vl [[kInts [2]]] false, I 0]), ([kCauses 0 false, I 5, I 0], .tup [.vl [[kInts [0, 1]], [kInts [1, 3]]] false, I 0])]
def TK3 : Nat → Option CFn := upd TK2 24 true (oAt L30)
theorem TK3_ok : ZB Tryz.prog GG TK3 := ZD Zh TK2_ok (oAt_ok fun p hp => by
  simp only [L30, List.mem_cons, List.not_mem_nil, or_false] at hp
  rcases hp with rfl | rfl
  · exact YF k30a
  · exact YF k30b)
theorem k31 : isR (.tup [kInts [1], I 0]) (YH TK3 (exec Tryz.prog TK3 3000) 25 [kCauses 0 false, I 5, I 0] []) = true := by kernel_rfl
def TK4 : Nat → Option CFn := upd TK3 25 true (oAt [([kCauses 0 false, I 5, I 0], .tup [kInts [1], I 0])])
theorem TK4_ok : ZB Tryz.prog GG TK4 := ZD Zh TK3_ok (oAt_ok fun p hp => by
  simp only [List.mem_cons, List.not_mem_nil, or_false] at hp
  subst hp
  exact YF k31)
theorem k36 : isR (.tup [I 3, I 1, I 0]) (YH TK4 (exec Tryz.prog TK4 3000) 26 [kCauses 0 true, I 5, I 0] []) = true := by kernel_rfl
def TK5 : Nat → Option CFn := upd TK4 26 true (oAt [([kCauses 0 true, I 5, I 0], .tup [I 3, I 1, I 0])])
theorem TK5_ok : ZB Tryz.prog GG TK5 := ZD Zh TK4_ok (oAt_ok fun p hp => by
  simp only [List.mem_cons, List.not_mem_nil, or_false] at hp
  subst hp
  exact YF k36)
end
end Go.Proofs.YtpebmjeomlgmdaaGreatDoor.Tab
namespace Go.Proofs.YtpebmjeomlgmdaaGreatDoor.Tab
open Go Go.Abs Go.Proofs
noncomputable section
set_option maxRecDepth 1000000
theorem kn : isR (.bool true) (YH TK5 (exec Tryz.prog TK5 3000) 5 [] []) = true := by kernel_rfl
def o12 : List Za → Option Za
  | [] => some (.bool true)
  | _ => none
def TK : Nat → Option CFn := upd TK5 5 true o12
theorem TK_ok : ZB Tryz.prog GG TK := ZD Zh TK5_ok fun args v ho => by
  unfold o12 at ho; split at ho <;> simp at ho
  subst ho
  exact YF kn
end
end Go.Proofs.YtpebmjeomlgmdaaGreatDoor.Tab
namespace Go.Abs
open Go
theorem st_any : ZE .any = false := rfl
theorem st_und : ZE .und = false := rfl
theorem st_agg (a : List Za) : ZE (.agg a) = false := rfl
theorem st_tup (a : List Za) : ZE (.tup a) = false := rfl
theorem XX (b : Bool) : ZE (.bool b) = true := rfl
theorem st_int (k : IntKind) (n : Int) : ZE (.int k n) = true := rfl
theorem XU : ZE .nilp = true := rfl
theorem st_ref (i k o : Nat) : ZE (.ref i k o) = true := rfl
theorem st_pv (r : List Za) (o : Nat) : ZE (.pv r o) = true := rfl
theorem XT : ZE .nils = true := rfl
theorem st_sl (i k n : Nat) (t : Bool) : ZE (.sl i k n t) = true := rfl
theorem st_vl (rs : List (List Za)) (t : Bool) : ZE (.vl rs t) = true := rfl
theorem XV : ZE .nilm = true := rfl
theorem st_mp (i : Nat) : ZE (.mp i) = true := rfl
theorem st_fn (f : Nat) (a b : List Za) : ZE (.fn f a b) = true := rfl
theorem XW : ZE .nilf = true := rfl
theorem st_yld (i : Nat) : ZE (.yld i) = true := rfl
theorem co_any : cellsOf .any = none := rfl
theorem co_und : cellsOf .und = none := rfl
theorem co_tup (a : List Za) : cellsOf (.tup a) = none := rfl
theorem co_agg (a : List Za) : cellsOf (.agg a) = some a := rfl
theorem co_bool (b : Bool) : cellsOf (.bool b) = some [.bool b] := rfl
theorem co_int (k : IntKind) (n : Int) : cellsOf (.int k n) = some [.int k n] := rfl
theorem co_nilp : cellsOf .nilp = some [.nilp] := rfl
theorem co_ref (i k o : Nat) : cellsOf (.ref i k o) = some [.ref i k o] := rfl
theorem co_pv (r : List Za) (o : Nat) : cellsOf (.pv r o) = some [.pv r o] := rfl
theorem co_nils : cellsOf .nils = some [.nils] := rfl
theorem co_sl (i k n : Nat) (t : Bool) : cellsOf (.sl i k n t) = some [.sl i k n t] := rfl
theorem co_vl (rs : List (List Za)) (t : Bool) : cellsOf (.vl rs t) = some [.vl rs t] := rfl
theorem co_nilm : cellsOf .nilm = some [.nilm] := rfl
theorem co_mp (i : Nat) : cellsOf (.mp i) = some [.mp i] := rfl
theorem co_fn (f : Nat) (a b : List Za) : cellsOf (.fn f a b) = some [.fn f a b] := rfl
theorem co_nilf : cellsOf .nilf = some [.nilf] := rfl
theorem co_yld (i : Nat) : cellsOf (.yld i) = some [.yld i] := rfl
end Go.Abs
namespace Go.Abs
open Go
noncomputable section
def lkG : List (Nat × List GL) → Nat → List GL
 | [], _ => []
 | (m, gs) :: l, k => if m = k then gs else lkG l k
def lkR : List (List Nat × Nat) → List Nat → Option Nat
 | [], _ => none
 | (m, k) :: l, ps => if m = ps then some k else lkR l ps
def annK (m : List (Nat × List GL)) (n : List (List Nat × Nat)) : CC → CC
 | .seq a b => .seq (annK m n a) (annK m n b)
 | .cond c a b => .cond c (annK m n a) (annK m n b)
 | .block id c => .block id (annK m n c)
 | .loop k c => match lkG m k with
  | [] => .loop k (annK m n c)
  | g :: gs => .loopG k (g :: gs) (annK m n c)
 | .rf f ps a b => match lkR n ps with
  | none => .rf f ps (annK m n a) (annK m n b)
  | some k => .rf f ps (annK m n a) (.kil k (annK m n b))
 | c => c
theorem strip_annK (m : List (Nat × List GL)) (n : List (List Nat × Nat)) : ∀ c, XI (annK m n c) = XI c
 | .seq a b => by simp only [annK, XI, strip_annK m n a, strip_annK m n b]
 | .cond c a b => by simp only [annK, XI, strip_annK m n a, strip_annK m n b]
 | .block id c => by simp only [annK, XI, strip_annK m n c]
 | .loop k c => by
  simp only [annK]
  split <;> simp only [XI, strip_annK m n c]
 | .rf f ps a b => by
  simp only [annK]
  split <;> simp only [XI, strip_annK m n a, strip_annK m n b]
 | .skip => rfl
 | .reg _ => rfl
 | .drw _ => rfl
 | .loopG _ _ _ => rfl
 | .loopN _ _ _ _ => rfl
 | .kil _ _ => rfl
 | .frS _ _ => rfl
 | .exit _ => rfl
 | .ret => rfl
def updG (T : Nat → Option CFn) (f : Nat) (m : List (Nat × List GL)) (n : List (List Nat × Nat)) (g : Nat) : Option CFn :=
 if g = f then (match T f with
  | some c => some { c with body := annK m n c.body }
  | none => none)
 else T g
theorem tab_updG {P : Program} {G : Nat → Option (List Za)} {T : Nat → Option CFn} (hT : ZB P G T) {f : Nat} {m : List (Nat × List GL)} {n : List (List Nat × Nat)} : ZB P G (updG T f m n) := by
 intro g cf hg
 unfold updG at hg
 split at hg
 ·rename_i e
  subst e
  split at hg <;> simp at hg
  rename_i c hc
  subst hg
  obtain ⟨fn, b, h1, h2, h3, h4, h5⟩ := hT g c hc
  exact ⟨fn, b, h1, h2, h3, by simp only [strip_annK]; exact h4, h5⟩
 ·exact hT g cf hg
section
variable {P : Program} {T : Nat → Option CFn} {r : Option Nat} {σ : St} {Q : St → Prop}
theorem ops_take (k : Nat) {l : List CO} {σ1 : St} (h : runX P T (fun _ _ _ => none) (l.take k) σ = some σ1) (h2 : Ops P T (l.drop k) σ1 Q) : Ops P T l σ Q := by
 have : Ops P T (l.take k ++ l.drop k) σ Q := by
  obtain ⟨n, σ2, g1, g2⟩ := h2
  generalize l.take k = a at h
  generalize l.drop k = b at g1
  induction a generalizing σ with
  | nil => simp [runX] at h; subst h; exact ⟨n, σ2, g1, g2⟩
  | cons o a ih =>
   rw [ZT] at h
   split at h
   ·rename_i σ3 hs
    exact Yo 0 (σ1 := σ3) (stepX_mono (fun _ _ _ _ h => by simp at h) hs) (ih h)
   ·simp at h
 rwa [List.take_append_drop] at this
end
end
end Go.Abs
namespace Go.Abs
open Go
section
variable {P : Program} {T : Nat → Option CFn} {r : Option Nat} {σ : St}
def Ylds (P : Program) (T : Nat → Option CFn) (i : Nat) (args : List Za) (h : Zj) (Q : Za → Zj → Prop) : Prop := ∃ n v h', yieldF (exec P T n) i args h = some (v, h') ∧ Q v h'
theorem Ylds.mono {i : Nat} {args : List Za} {h : Zj} {Q Q' : Za → Zj → Prop} (hr : Ylds P T i args h Q) (hq : ∀ v h, Q v h → Q' v h) : Ylds P T i args h Q' := let ⟨n, v, h', h1, h2⟩ := hr; ⟨n, v, h', h1, hq _ _ h2⟩
theorem ops_ylds {o : CO} {l : List CO} {i : Nat} {args : List Za} {Q : St → Prop} (hw : Yf σ.t o.g = some true) (hd : dop P σ.t σ.h o.op = none) (hp : lop σ.t σ.h o.op = none) (hc : Zq σ.t o.op = some (.yld i args))
  (h : Ylds P T i args σ.h fun v h' => Ops P T l ⟨Xy σ.t o.dst v, h'⟩ Q) : Ops P T (o :: l) σ Q := by
 obtain ⟨n, v, h', hy, hq⟩ := h
 refine Yo n (σ1 := ⟨Xy σ.t o.dst v, h'⟩) ?_ hq
 simp only [Xm, hw, hd, Yk, hp, Ya, hc, hy, Ys]
theorem ylds_of {i : Nat} {args t : List Za} {h : Zj} {ps : List Nat} {asg bd : CC} {pd : Option CC} {Q : Za → Zj → Prop} (hi : h[i]? = some (some (.loop t ps asg bd .ready pd))) (hn : args.length = ps.length)
  (hb : Runs P T (some i) asg ⟨setAll t (ps.zip args), h⟩ fun e1 σ1 => e1 = .normal ∧ ∃ t1 ps1 as1 bd1 pd1, σ1.h[i]? = some (some (.loop t1 ps1 as1 bd1 .ready pd1)) ∧
   Runs P T (some i) bd ⟨σ1.t, σ1.h.set i (some (.loop t1 ps1 as1 bd1 .busy pd1))⟩ fun e2 σ2 => ∃ t2 ps2 as2 bd2 st2 pd2, σ2.h[i]? = some (some (.loop t2 ps2 as2 bd2 st2 pd2)) ∧
    (match e2 with
    | .normal => Q (.bool true) (trim h.length [] (σ2.h.set i (some (.loop t2 ps2 as2 bd2 .ready none))))
    | .ret => Q (.bool false) (σ2.h.set i (some (.loop t2 ps2 as2 bd2 .done (some .ret))))
    | .exit id => Q (.bool false) (σ2.h.set i (some (.loop t2 ps2 as2 bd2 .done (some (.exit id))))))) : Ylds P T i args h Q := by
 obtain ⟨n1, e1, σ1, h1, rfl, t1, ps1, as1, bd1, pd1, hi1, n2, e2, σ2, h2, t2, ps2, as2, bd2, st2, pd2, hi2, hq⟩ := hb
 have e1 := XK (P := P) (T := T) (Nat.le_max_left n1 n2) _ _ _ _ h1
 have e2' := XK (P := P) (T := T) (Nat.le_max_right n1 n2) _ _ _ _ h2
 cases e2 with
 | normal => exact ⟨max n1 n2, _, _, by unfold yieldF; simp only [Zz, hi, hn, if_true, setAllK_eq, e1, hi1, ZA, e2', hi2, Yt, trimK_eq], hq⟩
 | ret => exact ⟨max n1 n2, _, _, by unfold yieldF; simp only [Zz, hi, hn, if_true, setAllK_eq, e1, hi1, ZA, e2', hi2], hq⟩
 | exit id => exact ⟨max n1 n2, _, _, by unfold yieldF; simp only [Zz, hi, hn, if_true, setAllK_eq, e1, hi1, ZA, e2', hi2], hq⟩
theorem trim_same {n : Nat} {vs : List Za} {h : Zj} (hn : h.length ≤ n) : trim n vs h = h := by unfold trim; split <;> simp [List.take_of_length_le hn]
end
theorem rbB_none (n : Nat) : rbB n none = true := rfl
theorem rbB_row (n e : Nat) (rs : List (List Za)) : rbB n (some (.row e rs)) = rs.all (·.all (rb n 5)) := rfl
theorem YG (n : Nat) (t : List Za) (ps : List Nat) (asg bd : CC) (st : LoopState) (pd : Option CC) : rbB n (some (.loop t ps asg bd st pd)) = t.all (rb n 5) := rfl
end Go.Abs
namespace Go.Abs
open Go
noncomputable section
variable {P : Program} {G : Nat → Option (List Za)} {T : Nat → Option CFn} {E E' E2 : Env} {h h' : Zj} {w w' : World} {n : Nat}
def updE (T : Nat → Option CFn) (f : Nat) (eff : List Za → Zj → Option (Za × List (Nat × Option Blk))) (g : Nat) : Option CFn :=
 if g = f then (match T f with
  | some c => some { c with eff := eff }
  | none => none)
 else T g
theorem tab_updE (hT : ZB P G T) {f : Nat} {eff : List Za → Zj → Option (Za × List (Nat × Option Blk))} (ho : ∀ args h v us, eff args h = some (v, us) → Xl P G f args h v (setH h us)) : ZB P G (updE T f eff) := by
 intro g cf hg
 unfold updE at hg
 split at hg
 ·rename_i e
  subst e
  split at hg <;> simp at hg
  rename_i c hc
  subst hg
  obtain ⟨fn, b, h1, h2, h3, h4, h5, h6, h7, _⟩ := hT g c hc
  exact ⟨fn, b, h1, h2, h3, h4, h5, h6, h7, ho⟩
 ·exact hT g cf hg
theorem Zt (b : CC) (n : Nat) (r : List CRes) (fr : Bool) (e : List Za → Zj → Option (Za × List (Nat × Option Blk))) (args : List Za) (h : Zj) : orcF ⟨b, n, r, fr, fun _ => none, e⟩ args h = none := by
 unfold orcF; split <;> rfl
theorem Zb {ex : Option Nat → CC → St → Option (AEx × St)} {f : Nat} {cf : CFn} (hT : T f = some cf) (ho : cf.orc = fun _ => none) (args : List Za) (h : Zj) : YH T ex f args h = match cf.eff args h with
  | some (v, us) => some (v, setH h us)
  | none => callB T ex f args h := by
 cases he : cf.eff args h with
 | none => rfl
 | some r =>
  unfold YH
  simp only [hT, Zo ho, he]
end
end Go.Abs
namespace Go.Proofs.YtpebmjeomlgmdaaGreatDoor.Tab
open Go Go.Abs Go.Proofs
set_option linter.unusedSimpArgs false
set_option linter.unusedVariables false
def allN (n : Nat) (p : Nat → Bool) : Bool := Nat.rec (motive := fun _ => Bool) true (fun m ih => match p m with
  | true => ih
  | false => false) n
theorem allN_get : ∀ {n : Nat} {p : Nat → Bool}, allN n p = true → ∀ s, s < n → p s = true
  | 0, _, _, s, h => absurd h (by omega)
  | n + 1, p, h, s, hs => by
    have h' : (match p n with | true => allN n p | false => false) = true := h
    cases hp : p n with
    | false => rw [hp] at h'; simp at h'
    | true =>
      rw [hp] at h'
      by_cases e : s = n
      · rw [e]; exact hp
      · exact allN_get h' s (by omega)
def Zp (s : Nat) : List Nat := (List.range 10).filter fun i => s.testBit i
def tz (s : Nat) : Nat := (Zp s).headD 0
theorem mem_bits {s i : Nat} : i ∈ Zp s ↔ i < 10 ∧ s.testBit i = true := by simp [Zp]
theorem bits_asc (s : Nat) : (Zp s).Pairwise (· < ·) := List.Pairwise.filter _ List.pairwise_lt_range
theorem bits_all : allN 1024 (fun s => s == 0 || (Zp s == tz s :: Zp (s &&& (s - 1)) && decide (tz s < 10) && decide (s &&& (s - 1) < s))) = true := by decide +kernel
theorem bits_step {s : Nat} (hs : s < 1024) (h0 : s ≠ 0) : Zp s = tz s :: Zp (s &&& (s - 1)) ∧ tz s < 10 ∧ s &&& (s - 1) < s := by
  have := allN_get bits_all s hs
  simp [h0] at this
  exact ⟨this.1.1, this.1.2, this.2⟩
theorem bits_zero : Zp 0 = [] := by decide
theorem bits_below {n s i : Nat} (hs : s < 2 ^ n) (hi : i ∈ Zp s) : i < n := by
  obtain ⟨_, h2⟩ := mem_bits.1 hi
  rcases Nat.lt_or_ge i n with h | h
  · exact h
  · rw [Nat.testBit_lt_two_pow (Nat.lt_of_lt_of_le hs (Nat.pow_le_pow_right (by decide) h))] at h2; simp at h2
def mask (l : List Nat) : Nat := l.foldr (fun i a => 2 ^ i ||| a) 0
theorem mask_bit : ∀ (l : List Nat) (j : Nat), (mask l).testBit j = decide (j ∈ l)
  | [], j => by simp [mask]
  | i :: l, j => by
    have := mask_bit l j
    simp only [mask, List.foldr_cons] at this ⊢
    rw [Nat.testBit_or, this, Nat.testBit_two_pow]
    simp only [List.mem_cons, Bool.decide_or]
    congr 1
    simp [eq_comm]
theorem mask_lt {n : Nat} : ∀ {l : List Nat}, (∀ i ∈ l, i < n) → mask l < 2 ^ n
  | [], _ => Nat.two_pow_pos n
  | i :: l, h => by
    simp only [mask, List.foldr_cons]
    exact Nat.or_lt_two_pow (Nat.pow_lt_pow_right (by decide) (h i (by simp))) (mask_lt fun j hj => h j (by simp [hj]))
theorem sorted_ext {α : Type} {lt : α → α → Prop} (irr : ∀ x, ¬ lt x x) (tr : ∀ x y z, lt x y → lt y z → lt x z) : ∀ {l m : List α}, l.Pairwise lt → m.Pairwise lt → (∀ x, x ∈ l ↔ x ∈ m) → l = m
  | [], [], _, _, _ => rfl
  | [], y :: m, _, _, h => by have := (h y).2 (by simp); simp at this
  | x :: l, [], _, _, h => by have := (h x).1 (by simp); simp at this
  | x :: l, y :: m, hl, hm, h => by
    rw [List.pairwise_cons] at hl hm
    have e : x = y := by
      have h1 := (h x).1 (by simp)
      have h2 := (h y).2 (by simp)
      rcases List.mem_cons.1 h1 with e | h1
      · exact e
      rcases List.mem_cons.1 h2 with e | h2
      · exact e.symm
      exact absurd (tr _ _ _ (hl.1 y h2) (hm.1 x h1)) (irr x)
    subst e
    have : l = m := sorted_ext irr tr hl.2 hm.2 fun z => by
      have hz := h z
      simp only [List.mem_cons] at hz
      constructor
      · intro h1
        rcases hz.1 (.inr h1) with e | h2
        · rw [e] at h1; exact absurd (hl.1 _ h1) (irr _)
        · exact h2
      · intro h1
        rcases hz.2 (.inr h1) with e | h2
        · rw [e] at h1; exact absurd (hm.1 _ h1) (irr _)
        · exact h2
    rw [this]
def lexC : List Nat → List Nat → Int
  | [], [] => 0
  | [], _ :: _ => -1
  | _ :: _, [] => 1
  | a :: l, b :: m => if a < b then -1 else if b < a then 1 else lexC l m
theorem two_le {n : Nat} (hn : n ≤ 10) : 2 ^ n ≤ 1024 := Nat.pow_le_pow_right (n := 2) (by decide) hn
end Go.Proofs.YtpebmjeomlgmdaaGreatDoor.Tab
namespace Go.Abs
open Go
theorem ofInt_nat (n : Nat) : BitVec.ofInt 64 (n : Int) = BitVec.ofNat 64 n := by
 apply BitVec.eq_of_toNat_eq
 simp only [BitVec.toNat_ofInt, BitVec.toNat_ofNat]
 omega
theorem W_u {n : Nat} (h : n < 18446744073709551616) : W .u64 (n : Int) = n := by
 simp only [W]; rw [if_pos (by omega)]
theorem W_i {n : Nat} (h : n < 9223372036854775808) : W .i64 (n : Int) = n := by
 simp only [W]; rw [if_pos (by omega)]
theorem and_nat {a b : Nat} (ha : a < 9223372036854775808) (hb : b < 9223372036854775808) : (BitVec.ofInt 64 (a : Int) &&& BitVec.ofInt 64 (b : Int)).toNat = a &&& b := by
 rw [ofInt_nat, ofInt_nat, BitVec.toNat_and, BitVec.toNat_ofNat, BitVec.toNat_ofNat, Nat.mod_eq_of_lt (by omega), Nat.mod_eq_of_lt (by omega)]
theorem or_nat {a b : Nat} (ha : a < 9223372036854775808) (hb : b < 9223372036854775808) : (BitVec.ofInt 64 (a : Int) ||| BitVec.ofInt 64 (b : Int)).toNat = a ||| b := by
 rw [ofInt_nat, ofInt_nat, BitVec.toNat_or, BitVec.toNat_ofNat, BitVec.toNat_ofNat, Nat.mod_eq_of_lt (by omega), Nat.mod_eq_of_lt (by omega)]
theorem and_lt63 {a b : Nat} (ha : a < 9223372036854775808) : a &&& b < 9223372036854775808 := Nat.lt_of_le_of_lt Nat.and_le_left ha
theorem or_lt63 {a b : Nat} (ha : a < 9223372036854775808) (hb : b < 9223372036854775808) : a ||| b < 9223372036854775808 := Nat.or_lt_two_pow (n := 63) ha hb
theorem and_u {a b : Nat} (ha : a < 9223372036854775808) (hb : b < 9223372036854775808) : arI .and .u64 (a : Int) (b : Int) = some (.int .u64 ((a &&& b : Nat) : Int)) := by
 have h := and_lt63 (b := b) ha
 show some (Za.int .u64 (W .u64 ((BitVec.ofInt 64 (a : Int) &&& BitVec.ofInt 64 (b : Int)).toNat : Int))) = _
 rw [and_nat ha hb, W_u (show a &&& b < 18446744073709551616 by omega)]
theorem and_i {a b : Nat} (ha : a < 9223372036854775808) (hb : b < 9223372036854775808) : arI .and .i64 (a : Int) (b : Int) = some (.int .i64 ((a &&& b : Nat) : Int)) := by
 have h := and_lt63 (b := b) ha
 show some (Za.int .i64 (W .i64 ((BitVec.ofInt 64 (a : Int) &&& BitVec.ofInt 64 (b : Int)).toNat : Int))) = _
 rw [and_nat ha hb, W_i h]
theorem or_u {a b : Nat} (ha : a < 9223372036854775808) (hb : b < 9223372036854775808) : arI .or .u64 (a : Int) (b : Int) = some (.int .u64 ((a ||| b : Nat) : Int)) := by
 have h := or_lt63 ha hb
 show some (Za.int .u64 (W .u64 ((BitVec.ofInt 64 (a : Int) ||| BitVec.ofInt 64 (b : Int)).toNat : Int))) = _
 rw [or_nat ha hb, W_u (show a ||| b < 18446744073709551616 by omega)]
theorem or_i {a b : Nat} (ha : a < 9223372036854775808) (hb : b < 9223372036854775808) : arI .or .i64 (a : Int) (b : Int) = some (.int .i64 ((a ||| b : Nat) : Int)) := by
 have h := or_lt63 ha hb
 show some (Za.int .i64 (W .i64 ((BitVec.ofInt 64 (a : Int) ||| BitVec.ofInt 64 (b : Int)).toNat : Int))) = _
 rw [or_nat ha hb, W_i h]
def ldN (a b : Nat) : Nat := (BitVec.ofNat 64 a &&& ~~~ BitVec.ofNat 64 b).toNat
theorem ldN_bit {a b i : Nat} (ha : a < 9223372036854775808) (hb : b < 9223372036854775808) : (ldN a b).testBit i = (a.testBit i && !b.testBit i) := by
 unfold ldN
 rw [BitVec.testBit_toNat, BitVec.getLsbD_and, BitVec.getLsbD_not, BitVec.getLsbD_ofNat, BitVec.getLsbD_ofNat]
 by_cases hi : i < 64
 ·simp [hi]
 ·have : a.testBit i = false := Nat.testBit_lt_two_pow (Nat.lt_of_lt_of_le ha (by have := Nat.pow_le_pow_right (n := 2) (by decide) (show 63 ≤ i by omega); omega))
  simp [hi, this]
theorem ldN_lt {a b : Nat} : ldN a b < 18446744073709551616 := (BitVec.ofNat 64 a &&& ~~~ BitVec.ofNat 64 b).isLt
theorem not_u {a b : Nat} : arI .andNot .u64 (a : Int) (b : Int) = some (.int .u64 ((ldN a b : Nat) : Int)) := by
 show some (Za.int .u64 (W .u64 ((BitVec.ofInt 64 (a : Int) &&& ~~~ BitVec.ofInt 64 (b : Int)).toNat : Int))) = _
 rw [ofInt_nat, ofInt_nat]
 have := ldN_lt (a := a) (b := b)
 unfold ldN at this ⊢
 rw [W_u this]
def subN (a b : Nat) : Bool := a &&& b == a
theorem subN_iff {a b : Nat} : subN a b = true ↔ ∀ i, a.testBit i = true → b.testBit i = true := by
 simp only [subN, beq_iff_eq]
 constructor
 ·intro h i hi
  rw [← h, Nat.testBit_and] at hi
  simp at hi; exact hi.2
 ·intro h
  refine Nat.eq_of_testBit_eq fun i => ?_
  rw [Nat.testBit_and]
  cases e : a.testBit i with
  | false => rfl
  | true => simp [h i e]
theorem ldN_zero {a b : Nat} (ha : a < 9223372036854775808) (hb : b < 9223372036854775808) : (ldN a b == 0) = subN a b := by
 rw [Bool.eq_iff_iff, subN_iff, beq_iff_eq]
 constructor
 ·intro h i hi
  have := ldN_bit (i := i) ha hb
  rw [h, hi] at this
  simpa using this
 ·intro h
  refine Nat.eq_of_testBit_eq fun i => ?_
  rw [ldN_bit ha hb, Nat.zero_testBit]
  cases e : a.testBit i with
  | false => rfl
  | true => simp [h i e]
theorem shr_u {a k : Nat} (hk : k ≤ 63) (kd : IntKind) (hb : kd.bits = 64) : shI .shr kd (a : Int) (k : Int) = some (.int kd ((a >>> k : Nat) : Int)) := by
 have : min k 64 = k := by omega
 simp only [shI, hb, Int.toNat_natCast, this]
 rw [if_neg (by omega)]
 congr 2
 rw [Nat.shiftRight_eq_div_pow]
 have e : (2 : Int) ^ k = ((2 ^ k : Nat) : Int) := by norm_cast
 rw [e, Int.fdiv_eq_ediv_of_nonneg _ (Int.natCast_nonneg _)]
 norm_cast
theorem shl_one {k : Nat} (hk : k ≤ 62) (kd : IntKind) (hkd : kd = .i64 ∨ kd = .u64) : shI .shl kd 1 (k : Int) = some (.int kd ((2 ^ k : Nat) : Int)) := by
 have hp : 2 ^ k < 9223372036854775808 := by have := Nat.pow_le_pow_right (n := 2) (by decide) hk; omega
 have hb : kd.bits = 64 := by rcases hkd with rfl | rfl <;> rfl
 have hm : min k 64 = k := by omega
 simp only [shI, hb, Int.toNat_natCast, hm, Int.one_mul]
 rw [if_neg (by omega)]
 have : ((2 : Int) ^ k) = ((2 ^ k : Nat) : Int) := by norm_cast
 rw [this]
 rcases hkd with rfl | rfl
 ·rw [W_i hp]
 ·rw [W_u (by omega)]
theorem bit_one (a k : Nat) : ((a >>> k &&& 1 : Nat) == 1) = a.testBit k := by
 simp only [Nat.testBit, Nat.and_one_is_mod, Nat.one_and_eq_mod_two]
 have := Nat.mod_two_eq_zero_or_one (a >>> k)
 rcases this with h | h <;> rw [h] <;> rfl
theorem bit_oneI (a k : Nat) : (((a >>> k &&& 1 : Nat) : Int) == 1) = a.testBit k := by
 rw [← bit_one]
 rw [Bool.eq_iff_iff]
 simp only [beq_iff_eq]
 omega
end Go.Abs
namespace Go.Proofs.YtpebmjeomlgmdaaGreatDoor.Tab
open Go Go.Abs Go.Proofs
set_option linter.unusedSimpArgs false
set_option linter.unusedVariables false
abbrev Cs := List (Nat × Nat)
def CsOk (cs : Cs) : Prop := cs.length ≤ 10 ∧ ∀ x ∈ cs, x.1 < 4096 ∧ x.2 < 4096
def cM (cs : Cs) (i : Nat) : Nat := (cs.getD i (0, 0)).1
def cA (cs : Cs) (i : Nat) : Nat := (cs.getD i (0, 0)).1 ||| (cs.getD i (0, 0)).2
def mustL (cs : Cs) (l : List Nat) : Nat := l.foldl (fun a i => a ||| cM cs i) 0
def allL (cs : Cs) (l : List Nat) : Nat := l.foldl (fun a i => a ||| cA cs i) 0
theorem getD_ok {cs : Cs} (h : CsOk cs) (i : Nat) : (cs.getD i (0, 0)).1 < 4096 ∧ (cs.getD i (0, 0)).2 < 4096 := by
  by_cases hi : i < cs.length
  · have e : cs.getD i (0, 0) = cs[i] := by simp [List.getD, hi]
    rw [e]; exact h.2 _ (List.getElem_mem hi)
  · have e : cs.getD i (0, 0) = (0, 0) := by simp [List.getD, List.getElem?_eq_none (show cs.length ≤ i by omega)]
    rw [e]; decide
theorem cM_lt {cs : Cs} (h : CsOk cs) (i : Nat) : cM cs i < 4096 := (getD_ok h i).1
theorem cA_lt {cs : Cs} (h : CsOk cs) (i : Nat) : cA cs i < 4096 := Nat.or_lt_two_pow (n := 12) (getD_ok h i).1 (getD_ok h i).2
theorem fold_lt {f : Nat → Nat} (hf : ∀ i, f i < 4096) : ∀ (l : List Nat) (a : Nat), a < 4096 → l.foldl (fun a i => a ||| f i) a < 4096
  | [], a, h => h
  | i :: l, a, h => by simp only [List.foldl_cons]; exact fold_lt hf l _ (Nat.or_lt_two_pow (n := 12) h (hf i))
theorem mustL_lt {cs : Cs} (h : CsOk cs) (l : List Nat) : mustL cs l < 4096 := fold_lt (cM_lt h) l 0 (by decide)
theorem allL_lt {cs : Cs} (h : CsOk cs) (l : List Nat) : allL cs l < 4096 := fold_lt (cA_lt h) l 0 (by decide)
def explN (cs : Cs) (l : List Nat) (se mi : Nat) : Bool := subN se (allL cs l) && (mi &&& mustL cs l == 0)
def toCs (l : List (Int × Int)) : Cs := l.map fun x => (x.1.toNat, x.2.toNat)
end Go.Proofs.YtpebmjeomlgmdaaGreatDoor.Tab
