import Derived.Test.YtjhdkimkijhloaaGreatDoorBk3
set_option linter.all false
open Nat (reduceAdd reduceMul reduceLeDiff reduceEqDiff)
namespace Go.Abs
def fn3 : AFunc := ⟨93, 3, [(6, none)],
 (.seq (.ops [.o 3 (.box (.t 0)),
 .o 6 (.mov (.c (.bool false)))])
 (.seq (.seq (.ops [.o 15 (.call (.f 15) []),
 .o 16 (.un .not (.t 15)),
 .o 17 (.mov (.t 16)),
 ⟨(some 18), .load (some 3) (.t 3), (some (17, false)), false⟩,
 ⟨(some 19), .call (.f 16) [(.t 18)], (some (17, false)), false⟩,
 ⟨(some 20), .un .not (.t 19), (some (17, false)), false⟩,
 .o 21 (.pick (.t 17) (.c (.bool true)) (.t 20)),
 .o 22 (.mov (.t 21)),
 ⟨(some 23), .mov (.t 1), (some (22, false)), false⟩,
 ⟨(some 24), .call (.f 17) [(.t 23)], (some (22, false)), false⟩,
 ⟨(some 25), .un .not (.t 24), (some (22, false)), false⟩,
 .o 26 (.pick (.t 22) (.c (.bool true)) (.t 25))])
 (.cond (.t 26)
 (.seq (.ops [.o 27 (.call (.f 15) []),
 .o 6 (.mov (.t 27))])
 .ret)
 .skip))
 (.seq (.ops [.o 29 (.load (some 3) (.t 3)),
 .o 30 (.call (.f 19) [(.t 29)]),
 .o 31 (.mov (.t 2)),
 .o 32 (.call (.f 18) [(.t 30), (.t 31)]),
 .o 28 (.mov (.t 32)),
 .o 33 (.ext (.t 28) 0),
 .o 34 (.ext (.t 28) 1),
 .o 7 (.box (.c (.agg [.int .i64 0, .int .i64 0]))),
 .x (.store 2 (.t 7) (.t 33)),
 .o 8 (.mov (.t 34))])
 (.seq (.ops [.o 36 (.load (some 3) (.t 3)),
 .o 37 (.call (.f 19) [(.t 36)]),
 .o 38 (.mov (.t 2)),
 .o 39 (.call (.f 20) [(.t 37), (.t 38)]),
 .o 35 (.mov (.t 39)),
 .o 40 (.ext (.t 35) 0),
 .o 41 (.ext (.t 35) 1),
 .o 9 (.box (.c (.agg [.int .i64 0, .int .i64 0]))),
 .x (.store 2 (.t 9) (.t 40)),
 .o 10 (.mov (.t 41))])
 (.seq (.ops [.o 42 (.load (some 3) (.t 3)),
 .o 43 (.call (.f 21) [(.t 42)]),
 .o 11 (.mov (.t 43))])
 (.seq (.ops [.o 44 (.mov (.t 11)),
 .o 12 (.mov (.t 44))])
 (.seq (.ops [.o 13 (.box (.c (.agg [.int .i64 0, .int .i64 0])))])
 (.seq (.ops [.o 14 (.box (.c (.agg [.int .i64 0, .int .i64 0])))])
 (.seq (.seq (.ops [.o 45 (.mov (.t 11)),
 .o 46 (.bin .eql (.t 45) .z)])
 (.cond (.t 46)
 (.ops [.o 47 (.load (some 3) (.t 3)),
 .o 48 (.mov (.t 2)),
 .o 49 (.call (.f 23) [(.t 47), (.t 48)]),
 .o 50 (.un .not (.t 49)),
 .o 51 (.call (.f 22) [(.t 50), (.c (.int .i64 14))]),
 .o 12 (.mov (.t 51))])
 .skip))
 (.seq (.seq (.ops [.o 52 (.mov (.t 12)),
 .o 53 (.bin .eql (.t 52) .z)])
 (.cond (.t 53)
 (.ops [⟨(some 54), .load (some 3) (.t 3), none, true⟩,
 ⟨(some 55), .mov (.t 2), none, true⟩,
 ⟨(some 56), .call (.f 24) [(.t 54), (.t 55)], none, true⟩,
 ⟨(some 57), .load (some 3) (.t 3), none, true⟩,
 ⟨(some 58), .mov (.t 2), none, true⟩,
 .o 59 (.call (.f 25) [(.t 57), (.t 58)]),
 .x (.store 2 (.t 13) (.t 56)),
 .x (.store 2 (.t 14) (.t 59))])
 .skip))
 (.seq (.ops [.o 60 (.load (some 3) (.t 3)),
 .o 61 (.call (.f 19) [(.t 60)]),
 .o 62 (.call (.f 26) [(.t 61)]),
 .o 63 (.mov (.t 11)),
 .o 64 (.bin .eql (.t 62) (.t 63)),
 .o 65 (.mov (.t 64)),
 ⟨(some 66), .mov (.t 1), (some (65, true)), false⟩,
 ⟨(some 67), .call (.f 28) [(.t 66)], (some (65, true)), false⟩,
 ⟨(some 68), .call (.f 27) [(.t 67)], (some (65, true)), false⟩,
 ⟨(some 69), .mov (.t 1), (some (65, true)), false⟩,
 ⟨(some 70), .call (.f 29) [(.t 69)], (some (65, true)), false⟩,
 ⟨(some 71), .bin .eql (.t 68) (.t 70), (some (65, true)), false⟩,
 .o 72 (.pick (.t 65) (.t 71) (.c (.bool false))),
 .o 73 (.mov (.t 72)),
 ⟨(some 74), .load (some 2) (.t 7), (some (73, true)), false⟩,
 ⟨(some 75), .load (some 2) (.t 13), (some (73, true)), false⟩,
 ⟨(some 76), .eqv false (.agg [.i, .i]) (.t 74) (.t 75), (some (73, true)), false⟩,
 .o 77 (.pick (.t 73) (.t 76) (.c (.bool false))),
 .o 78 (.mov (.t 77)),
 ⟨(some 79), .mov (.t 8), (some (78, true)), false⟩,
 ⟨(some 80), .mov (.t 12), (some (78, true)), false⟩,
 ⟨(some 81), .bin .eql (.t 79) (.t 80), (some (78, true)), false⟩,
 .o 82 (.pick (.t 78) (.t 81) (.c (.bool false))),
 .o 83 (.mov (.t 82)),
 ⟨(some 84), .load (some 2) (.t 9), (some (83, true)), false⟩,
 ⟨(some 85), .load (some 2) (.t 14), (some (83, true)), false⟩,
 ⟨(some 86), .eqv false (.agg [.i, .i]) (.t 84) (.t 85), (some (83, true)), false⟩,
 .o 87 (.pick (.t 83) (.t 86) (.c (.bool false))),
 .o 88 (.mov (.t 87)),
 ⟨(some 89), .mov (.t 10), (some (88, true)), false⟩,
 ⟨(some 90), .mov (.t 12), (some (88, true)), false⟩,
 ⟨(some 91), .bin .eql (.t 89) (.t 90), (some (88, true)), false⟩,
 .o 92 (.pick (.t 88) (.t 91) (.c (.bool false))),
 .o 6 (.mov (.t 92))])
 .ret)))))))))))⟩
def fn4 : AFunc := ⟨98, 3, [(6, none)],
 (.seq (.ops [.o 3 (.box (.t 0)),
 .o 4 (.box (.t 1)),
 .o 6 (.mov (.c (.bool false)))])
 (.seq (.seq (.ops [.o 19 (.call (.f 15) []),
 .o 20 (.un .not (.t 19)),
 .o 21 (.mov (.t 20)),
 ⟨(some 22), .load (some 3) (.t 3), (some (21, false)), false⟩,
 ⟨(some 23), .call (.f 16) [(.t 22)], (some (21, false)), false⟩,
 ⟨(some 24), .un .not (.t 23), (some (21, false)), false⟩,
 .o 25 (.pick (.t 21) (.c (.bool true)) (.t 24))])
 (.cond (.t 25)
 (.seq (.ops [.o 26 (.call (.f 15) []),
 .o 6 (.mov (.t 26))])
 .ret)
 .skip))
 (.seq (.ops [⟨(some 28), .load (some 3) (.t 3), none, true⟩,
 ⟨(some 29), .call (.f 19) [(.t 28)], none, true⟩,
 ⟨(some 30), .load (some 2) (.t 4), none, true⟩,
 ⟨(some 31), .call (.f 30) [(.t 29), (.t 30)], none, true⟩,
 ⟨(some 27), .mov (.t 31), none, true⟩,
 ⟨(some 32), .ext (.t 27) 0, none, true⟩,
 ⟨(some 33), .ext (.t 27) 1, none, true⟩,
 ⟨none, .mov (.c (.bool false)), none, true⟩,
 ⟨(some 7), .boxn 3 (.t 32), none, true⟩,
 .o 8 (.mov (.t 33))])
 (.seq (.ops [.o 35 (.load (some 3) (.t 3)),
 .o 36 (.call (.f 19) [(.t 35)]),
 .o 37 (.mov (.t 2)),
 .o 38 (.call (.f 31) [(.t 36), (.t 37)]),
 .o 34 (.mov (.t 38)),
 .o 39 (.ext (.t 34) 0),
 .o 40 (.ext (.t 34) 1),
 .o 9 (.mov (.t 39)),
 .o 10 (.mov (.t 40))])
 (.seq (.ops [.o 42 (.load (some 3) (.t 3)),
 .o 43 (.call (.f 19) [(.t 42)]),
 .o 44 (.call (.f 32) [(.t 43)]),
 .o 41 (.mov (.t 44)),
 .o 45 (.ext (.t 41) 0),
 .o 46 (.ext (.t 41) 1),
 .o 11 (.box (.c (.agg [.str [], .int .i64 0, .nilSlice]))),
 .x (.store 3 (.t 11) (.t 45)),
 .o 12 (.mov (.t 46))])
 (.seq (.ops [.o 47 (.load (some 3) (.t 3)),
 .o 48 (.call (.f 21) [(.t 47)]),
 .o 13 (.mov (.t 48))])
 (.seq (.ops [.o 49 (.mov (.t 13)),
 .o 50 (.load (some 2) (.t 4)),
 .o 51 (.call (.f 34) [(.t 50)]),
 .o 52 (.bslice 1 2 [.int .i64 0] [(0, (.t 49)), (1, (.t 51))]),
 .o 53 (.call (.f 33) [(.t 52)]),
 .o 54 (.mov (.t 13)),
 .o 55 (.mov (.t 2)),
 .o 56 (.call (.f 35) [(.t 55), .z, (.c (.int .i64 100000))]),
 .o 57 (.bslice 1 2 [.int .i64 0] [(0, (.t 54)), (1, (.t 56))]),
 .o 58 (.call (.f 33) [(.t 57)]),
 .o 14 (.mov (.t 53)),
 .o 15 (.mov (.t 58))])
 (.seq (.ops [.o 16 (.box (.c (.agg [.str [], .int .i64 0, .nilSlice]))),
 .o 17 (.box (.c (.agg [.str [], .int .i64 0, .nilSlice])))])
 (.seq (.ops [.o 18 (.mov (.c (.nilSlice)))])
 (.seq (.seq (.ops [.o 59 (.mov (.t 14)),
 .o 60 (.bin .eql (.t 59) .z)])
 (.cond (.t 60)
 (.ops [.o 62 (.load (some 3) (.t 3)),
 .o 63 (.load (some 2) (.t 4)),
 .o 64 (.call (.f 36) [(.t 62), (.t 63)]),
 .o 61 (.mov (.t 64)),
 .o 65 (.ext (.t 61) 0),
 .o 66 (.ext (.t 61) 1),
 .x (.store 3 (.t 16) (.t 65)),
 .o 14 (.mov (.t 66))])
 .skip))
 (.seq (.seq (.ops [.o 67 (.mov (.t 15)),
 .o 68 (.bin .eql (.t 67) .z)])
 (.cond (.t 68)
 (.ops [.o 69 (.load (some 3) (.t 3)),
 .o 70 (.mov (.t 2)),
 .o 71 (.call (.f 37) [(.t 69), (.t 70)]),
 .o 18 (.mov (.t 71))])
 .skip))
 (.seq (.seq (.ops [.o 72 (.mov (.t 13)),
 .o 73 (.bin .eql (.t 72) .z)])
 (.cond (.t 73)
 (.ops [.o 74 (.load (some 3) (.t 3)),
 .o 75 (.call (.f 38) [(.t 74)]),
 .x (.store 3 (.t 17) (.t 75))])
 .skip))
 (.seq (.ops [.o 76 (.load (some 3) (.t 7)),
 .o 77 (.mov (.t 8)),
 .o 78 (.mov (.t 14)),
 .o 79 (.load (some 3) (.t 16)),
 .o 80 (.call (.f 39) [(.t 76), (.t 77), (.t 78), (.t 79)]),
 .o 81 (.mov (.t 80)),
 ⟨(some 82), .mov (.t 9), (some (81, true)), false⟩,
 ⟨(some 83), .mov (.t 18), (some (81, true)), false⟩,
 ⟨(some 84), .call (.f 40) [(.t 82), (.t 83)], (some (81, true)), false⟩,
 .o 85 (.pick (.t 81) (.t 84) (.c (.bool false))),
 .o 86 (.mov (.t 85)),
 ⟨(some 87), .mov (.t 10), (some (86, true)), false⟩,
 ⟨(some 88), .mov (.t 15), (some (86, true)), false⟩,
 ⟨(some 89), .bin .eql (.t 87) (.t 88), (some (86, true)), false⟩,
 .o 90 (.pick (.t 86) (.t 89) (.c (.bool false))),
 .o 91 (.mov (.t 90)),
 ⟨(some 92), .load (some 3) (.t 11), (some (91, true)), false⟩,
 ⟨(some 93), .mov (.t 12), (some (91, true)), false⟩,
 ⟨(some 94), .mov (.t 13), (some (91, true)), false⟩,
 ⟨(some 95), .load (some 3) (.t 17), (some (91, true)), false⟩,
 ⟨(some 96), .call (.f 39) [(.t 92), (.t 93), (.t 94), (.t 95)], (some (91, true)), false⟩,
 .o 97 (.pick (.t 91) (.t 96) (.c (.bool false))),
 .o 6 (.mov (.t 97))])
 .ret)))))))))))))⟩
def fn13 : AFunc := ⟨76, 2, [(4, none)],
 (.seq (.ops [.o 4 (.mov (.c (.bool false)))])
 (.seq (.seq (.ops [.o 15 (.call (.f 15) []),
 .o 16 (.un .not (.t 15)),
 .o 17 (.mov (.t 16)),
 ⟨(some 18), .mov (.t 0), (some (17, false)), false⟩,
 ⟨(some 19), .call (.f 17) [(.t 18)], (some (17, false)), false⟩,
 ⟨(some 20), .un .not (.t 19), (some (17, false)), false⟩,
 .o 21 (.pick (.t 17) (.c (.bool true)) (.t 20)),
 .o 22 (.mov (.t 21)),
 ⟨(some 23), .mov (.t 1), (some (22, false)), false⟩,
 ⟨(some 24), .len .st (.t 23), (some (22, false)), false⟩,
 ⟨(some 25), .bin .gtr (.t 24) (.c (.int .i64 300)), (some (22, false)), false⟩,
 .o 26 (.pick (.t 22) (.c (.bool true)) (.t 25))])
 (.cond (.t 26)
 (.seq (.ops [.o 27 (.call (.f 15) []),
 .o 4 (.mov (.t 27))])
 .ret)
 .skip))
 (.seq (.ops [.o 29 (.mov (.t 0)),
 .o 30 (.call (.f 28) [(.t 29)]),
 .o 31 (.call (.f 84) [(.t 30)]),
 .o 28 (.mov (.t 31)),
 .o 32 (.ext (.t 28) 0),
 .o 33 (.ext (.t 28) 1),
 .o 5 (.mov (.t 32)),
 .o 6 (.mov (.t 33))])
 (.seq (.ops [.o 35 (.mov (.t 1)),
 .o 36 (.call (.f 85) [(.t 35)]),
 .o 34 (.mov (.t 36)),
 .o 37 (.ext (.t 34) 0),
 .o 38 (.ext (.t 34) 1),
 .o 39 (.ext (.t 34) 2),
 .o 7 (.mov (.t 37)),
 .o 8 (.mov (.t 38)),
 .o 9 (.mov (.t 39))])
 (.seq (.ops [.o 40 (.mov (.t 0)),
 .o 41 (.call (.f 29) [(.t 40)]),
 .o 10 (.mov (.t 41))])
 (.seq (.ops [.o 11 (.mov (.c (.str [])))])
 (.seq (.seq (.ops [.o 42 (.mov (.t 10)),
 .o 43 (.bin .eql (.t 42) .z)])
 (.cond (.t 43)
 (.ops [.o 44 (.mov (.t 0)),
 .o 45 (.call (.f 86) [(.t 44)]),
 .o 11 (.mov (.t 45))])
 .skip))
 (.seq (.ops [.o 47 (.mov (.t 1)),
 .o 48 (.call (.f 87) [(.t 47)]),
 .o 46 (.mov (.t 48)),
 .o 49 (.ext (.t 46) 0),
 .o 50 (.ext (.t 46) 1),
 .o 51 (.ext (.t 46) 2),
 .o 12 (.mov (.t 49)),
 .o 13 (.mov (.t 50)),
 .o 14 (.mov (.t 51))])
 (.seq (.ops [.o 52 (.mov (.t 5)),
 .o 53 (.mov (.t 11)),
 .o 54 (.bin .eql (.t 52) (.t 53)),
 .o 55 (.mov (.t 54)),
 ⟨(some 56), .mov (.t 6), (some (55, true)), false⟩,
 ⟨(some 57), .mov (.t 10), (some (55, true)), false⟩,
 ⟨(some 58), .bin .eql (.t 56) (.t 57), (some (55, true)), false⟩,
 .o 59 (.pick (.t 55) (.t 58) (.c (.bool false))),
 .o 60 (.mov (.t 59)),
 ⟨(some 61), .mov (.t 7), (some (60, true)), false⟩,
 ⟨(some 62), .call (.f 89) [(.t 61)], (some (60, true)), false⟩,
 ⟨(some 63), .mov (.t 12), (some (60, true)), false⟩,
 ⟨(some 64), .call (.f 88) [(.t 62), (.t 63)], (some (60, true)), false⟩,
 .o 65 (.pick (.t 60) (.t 64) (.c (.bool false))),
 .o 66 (.mov (.t 65)),
 ⟨(some 67), .mov (.t 8), (some (66, true)), false⟩,
 ⟨(some 68), .mov (.t 13), (some (66, true)), false⟩,
 ⟨(some 69), .bin .eql (.t 67) (.t 68), (some (66, true)), false⟩,
 .o 70 (.pick (.t 66) (.t 69) (.c (.bool false))),
 .o 71 (.mov (.t 70)),
 ⟨(some 72), .mov (.t 9), (some (71, true)), false⟩,
 ⟨(some 73), .mov (.t 14), (some (71, true)), false⟩,
 ⟨(some 74), .bin .eql (.t 72) (.t 73), (some (71, true)), false⟩,
 .o 75 (.pick (.t 71) (.t 74) (.c (.bool false))),
 .o 4 (.mov (.t 75))])
 .ret)))))))))⟩
def fn14 : AFunc := ⟨133, 2, [(4, none)],
 (.seq (.ops [.o 4 (.mov (.c (.bool false)))])
 (.seq (.seq (.ops [.o 21 (.call (.f 15) []),
 .o 22 (.un .not (.t 21)),
 .o 23 (.mov (.t 22)),
 ⟨(some 24), .mov (.t 0), (some (23, false)), false⟩,
 ⟨(some 25), .call (.f 17) [(.t 24)], (some (23, false)), false⟩,
 ⟨(some 26), .un .not (.t 25), (some (23, false)), false⟩,
 .o 27 (.pick (.t 23) (.c (.bool true)) (.t 26)),
 .o 28 (.mov (.t 27)),
 ⟨(some 29), .mov (.t 0), (some (28, false)), false⟩,
 ⟨(some 30), .call (.f 29) [(.t 29)], (some (28, false)), false⟩,
 ⟨(some 31), .bin .neq (.t 30) .z, (some (28, false)), false⟩,
 .o 32 (.pick (.t 28) (.c (.bool true)) (.t 31)),
 .o 33 (.mov (.t 32)),
 ⟨(some 34), .mov (.t 1), (some (33, false)), false⟩,
 ⟨(some 35), .len .st (.t 34), (some (33, false)), false⟩,
 ⟨(some 36), .bin .gtr (.t 35) (.c (.int .i64 300)), (some (33, false)), false⟩,
 .o 37 (.pick (.t 33) (.c (.bool true)) (.t 36))])
 (.cond (.t 37)
 (.seq (.ops [.o 38 (.call (.f 15) []),
 .o 4 (.mov (.t 38))])
 .ret)
 .skip))
 (.seq (.ops [.o 40 (.mov (.t 0)),
 .o 41 (.call (.f 28) [(.t 40)]),
 .o 42 (.call (.f 84) [(.t 41)]),
 .o 39 (.mov (.t 42)),
 .o 43 (.ext (.t 39) 0),
 .o 44 (.ext (.t 39) 1),
 .o 5 (.mov (.t 43)),
 .o 6 (.mov (.t 44))])
 (.seq (.ops [.o 46 (.mov (.t 5)),
 .o 47 (.call (.f 85) [(.t 46)]),
 .o 45 (.mov (.t 47)),
 .o 48 (.ext (.t 45) 0),
 .o 49 (.ext (.t 45) 1),
 .o 50 (.ext (.t 45) 2),
 .o 7 (.mov (.t 48)),
 .o 8 (.mov (.t 49)),
 .o 9 (.mov (.t 50))])
 (.seq (.ops [.o 51 (.mov (.t 0)),
 .o 52 (.len .sl (.t 51)),
 .o 10 (.mov (.t 52))])
 (.seq (.seq (.ops [.o 53 (.mov (.t 0)),
 .o 54 (.len .sl (.t 53)),
 .o 55 (.mov .z)])
 (.block 0 (.loop (.seq (.ops [.o 56 (.bin .lss (.t 55) (.t 54))])
 (.seq (.cond (.t 56)
 .skip
 (.exit 0))
 (.seq (.block 1 (.seq (.ops [.o 57 (.iadr 3 (.t 53) (.t 55)),
 .o 58 (.load (some 3) (.t 57)),
 .o 12 (.box (.c (.agg [.str [], .int .i64 0, .nilSlice]))),
 .x (.store 3 (.t 12) (.t 58))])
 (.ops [.o 59 (.mov (.t 10)),
 .o 60 (.fadr 2 (.t 12)),
 .o 61 (.load none (.t 60)),
 .o 62 (.len .sl (.t 61)),
 .o 63 (.bin .add (.t 59) (.t 62)),
 .o 10 (.mov (.t 63))])))
 (.ops [.o 64 (.bin .add (.t 55) .w),
 .o 55 (.mov (.t 64))])))))))
 (.seq (.seq (.ops [.o 65 (.mov (.t 6)),
 .o 66 (.bin .neq (.t 65) .z),
 .o 67 (.mov (.t 66)),
 ⟨(some 68), .mov (.t 9), (some (67, false)), false⟩,
 ⟨(some 69), .bin .neq (.t 68) .z, (some (67, false)), false⟩,
 .o 70 (.pick (.t 67) (.c (.bool true)) (.t 69)),
 .o 71 (.mov (.t 70)),
 ⟨(some 72), .mov (.t 8), (some (71, false)), false⟩,
 ⟨(some 73), .bin .neq (.t 72) .z, (some (71, false)), false⟩,
 .o 74 (.pick (.t 71) (.c (.bool true)) (.t 73)),
 .o 75 (.mov (.t 74)),
 ⟨(some 76), .mov (.t 7), (some (75, false)), false⟩,
 ⟨(some 77), .call (.f 89) [(.t 76)], (some (75, false)), false⟩,
 ⟨(some 78), .mov (.t 0), (some (75, false)), false⟩,
 ⟨(some 79), .call (.f 88) [(.t 77), (.t 78)], (some (75, false)), false⟩,
 ⟨(some 80), .un .not (.t 79), (some (75, false)), false⟩,
 .o 81 (.pick (.t 75) (.c (.bool true)) (.t 80)),
 .o 82 (.mov (.t 81)),
 ⟨(some 83), .mov (.t 5), (some (82, false)), false⟩,
 ⟨(some 84), .call (.f 90) [(.t 83), (.c (.int .u8 10))], (some (82, false)), false⟩,
 ⟨(some 85), .len .sl (.t 84), (some (82, false)), false⟩,
 ⟨(some 86), .mov (.t 10), (some (82, false)), false⟩,
 ⟨(some 87), .bin .add (.t 86) .w, (some (82, false)), false⟩,
 ⟨(some 88), .bin .neq (.t 85) (.t 87), (some (82, false)), false⟩,
 .o 89 (.pick (.t 82) (.c (.bool true)) (.t 88))])
 (.cond (.t 89)
 (.seq (.ops [.o 4 (.mov (.c (.bool false)))])
 .ret)
 .skip))
 (.seq (.seq (.ops [.o 91 (.mov (.t 1)),
 .o 92 (.call (.f 85) [(.t 91)]),
 .o 90 (.mov (.t 92)),
 .o 93 (.ext (.t 90) 0),
 .o 94 (.ext (.t 90) 1),
 .o 95 (.ext (.t 90) 2),
 .o 13 (.mov (.t 93)),
 .o 14 (.mov (.t 94)),
 .o 15 (.mov (.t 95))])
 (.seq (.ops [.o 96 (.mov (.t 15)),
 .o 97 (.bin .eql (.t 96) .z)])
 (.cond (.t 97)
 (.seq (.ops [.o 99 (.mov (.t 13)),
 .o 100 (.call (.f 84) [(.t 99)]),
 .o 98 (.mov (.t 100)),
 .o 101 (.ext (.t 98) 0),
 .o 102 (.ext (.t 98) 1),
 .o 16 (.mov (.t 101)),
 .o 17 (.mov (.t 102))])
 (.seq (.ops [.o 103 (.mov (.t 17)),
 .o 104 (.bin .neq (.t 103) .z),
 .o 105 (.mov (.t 104)),
 ⟨(some 106), .mov (.t 16), (some (105, false)), false⟩,
 ⟨(some 107), .mov (.t 1), (some (105, false)), false⟩,
 ⟨(some 108), .bin .neq (.t 106) (.t 107), (some (105, false)), false⟩,
 .o 109 (.pick (.t 105) (.c (.bool true)) (.t 108))])
 (.cond (.t 109)
 (.seq (.ops [.o 4 (.mov (.c (.bool false)))])
 .ret)
 .skip)))
 .skip)))
 (.seq (.seq (.ops [.o 110 (.mov (.t 0)),
 .o 111 (.len .sl (.t 110)),
 .o 112 (.bin .eql (.t 111) .z)])
 (.cond (.t 112)
 (.seq (.ops [.o 113 (.mov (.t 5)),
 .o 114 (.bin .eql (.t 113) (.c (.str []))),
 .o 4 (.mov (.t 114))])
 .ret)
 .skip))
 (.seq (.ops [.o 116 (.mov (.t 5)),
 .o 117 (.mov (.t 5)),
 .o 118 (.len .st (.t 117)),
 .o 119 (.bin .sub (.t 118) .w),
 .o 120 (.sls (.t 116) none (some (.t 119))),
 .o 121 (.call (.f 85) [(.t 120)]),
 .o 115 (.mov (.t 121)),
 .o 122 (.ext (.t 115) 0),
 .o 123 (.ext (.t 115) 1),
 .o 124 (.ext (.t 115) 2),
 .o 18 (.mov (.t 122)),
 .o 19 (.mov (.t 123)),
 .o 20 (.mov (.t 124))])
 (.seq (.ops [.o 125 (.mov (.t 20)),
 .o 126 (.bin .eql (.t 125) (.c (.int .i64 25))),
 .o 127 (.mov (.t 126)),
 ⟨(some 128), .mov (.t 19), (some (127, true)), false⟩,
 ⟨(some 129), .mov (.t 10), (some (127, true)), false⟩,
 ⟨(some 130), .bin .sub (.t 129) .w, (some (127, true)), false⟩,
 ⟨(some 131), .bin .eql (.t 128) (.t 130), (some (127, true)), false⟩,
 .o 132 (.pick (.t 127) (.t 131) (.c (.bool false))),
 .o 4 (.mov (.t 132))])
 .ret)))))))))))⟩
def fn15 : AFunc := ⟨326, 0, [(0, none)],
 (.seq (.ops [.o 0 (.mov (.c (.bool false)))])
 (.seq (.ops [.o 46 (.bslice 1 6 [.int .i64 0] [(0, .z), (1, (.c (.int .i64 100))), (2, (.c (.int .i64 3))), (3, (.c (.int .i64 110))), (4, (.c (.int .i64 6))), (5, (.c (.int .i64 90)))]),
 .o 47 (.call (.f 91) [(.c (.str [116, 111, 112])), (.c (.int .i64 2)), (.t 46)]),
 .o 48 (.bslice 1 4 [.int .i64 0] [(0, .w), (1, (.c (.int .i64 104))), (2, (.c (.int .i64 6))), (3, (.c (.int .i64 104)))]),
 .o 49 (.call (.f 91) [(.c (.str [98, 97, 115, 101])), .z, (.t 48)]),
 .o 1 (.box (.c (.agg [.str [], .int .i64 0, .nilSlice]))),
 .o 2 (.box (.c (.agg [.str [], .int .i64 0, .nilSlice]))),
 .x (.store 3 (.t 1) (.t 47)),
 .x (.store 3 (.t 2) (.t 49))])
 (.seq (.ops [.o 51 (.load (some 3) (.t 1)),
 .o 52 (.call (.f 18) [(.t 51), .w]),
 .o 50 (.mov (.t 52)),
 .o 53 (.ext (.t 50) 0),
 .o 54 (.ext (.t 50) 1),
 .o 3 (.box (.c (.agg [.int .i64 0, .int .i64 0]))),
 .x (.store 2 (.t 3) (.t 53)),
 .o 4 (.mov (.t 54))])
 (.seq (.ops [.o 56 (.load (some 3) (.t 1)),
 .o 57 (.call (.f 20) [(.t 56), .w]),
 .o 55 (.mov (.t 57)),
 .o 58 (.ext (.t 55) 0),
 .o 59 (.ext (.t 55) 1),
 .o 5 (.box (.c (.agg [.int .i64 0, .int .i64 0]))),
 .x (.store 2 (.t 5) (.t 58)),
 .o 6 (.mov (.t 59))])
 (.seq (.ops [.o 61 (.load (some 3) (.t 1)),
 .o 62 (.call (.f 20) [(.t 61), (.c (.int .i64 5))]),
 .o 60 (.mov (.t 62)),
 .o 63 (.ext (.t 60) 0),
 .o 64 (.ext (.t 60) 1),
 .o 7 (.box (.c (.agg [.int .i64 0, .int .i64 0]))),
 .x (.store 2 (.t 7) (.t 63)),
 .o 8 (.mov (.t 64))])
 (.seq (.ops [.o 66 (.load (some 3) (.t 1)),
 .o 67 (.load (some 3) (.t 2)),
 .o 68 (.call (.f 80) [(.t 66), (.t 67)]),
 .o 65 (.mov (.t 68)),
 .o 69 (.ext (.t 65) 0),
 .o 70 (.ext (.t 65) 1),
 .o 71 (.ext (.t 65) 2),
 .o 9 (.mov (.t 69)),
 .o 10 (.mov (.t 70)),
 .o 11 (.mov (.t 71))])
 (.seq (.ops [.o 73 (.load (some 3) (.t 2)),
 .o 74 (.load (some 3) (.t 1)),
 .o 75 (.call (.f 80) [(.t 73), (.t 74)]),
 .o 72 (.mov (.t 75)),
 .o 76 (.ext (.t 72) 0),
 .o 77 (.ext (.t 72) 1),
 .o 78 (.ext (.t 72) 2),
 .o 12 (.mov (.t 76)),
 .o 13 (.mov (.t 77)),
 .o 14 (.mov (.t 78))])
 (.seq (.ops [.o 80 (.load (some 3) (.t 1)),
 .o 81 (.call (.f 31) [(.t 80), (.c (.int .i64 5))]),
 .o 79 (.mov (.t 81)),
 .o 82 (.ext (.t 79) 0),
 .o 83 (.ext (.t 79) 1),
 .o 15 (.mov (.t 82)),
 .o 16 (.mov (.t 83))])
 (.seq (.ops [.o 85 (.load (some 3) (.t 1)),
 .o 86 (.build [.int .i64 0, .int .i64 0] [(0, 1, (.c (.int .i64 3))), (1, 1, (.c (.int .i64 7)))]),
 .o 87 (.call (.f 30) [(.t 85), (.t 86)]),
 .o 84 (.mov (.t 87)),
 .o 88 (.ext (.t 84) 0),
 .o 89 (.ext (.t 84) 1),
 .o 17 (.box (.c (.agg [.str [], .int .i64 0, .nilSlice]))),
 .x (.store 3 (.t 17) (.t 88)),
 .o 18 (.mov (.t 89))])
 (.seq (.ops [.o 91 (.load (some 3) (.t 1)),
 .o 92 (.call (.f 32) [(.t 91)]),
 .o 90 (.mov (.t 92)),
 .o 93 (.ext (.t 90) 0),
 .o 94 (.ext (.t 90) 1),
 .o 19 (.box (.c (.agg [.str [], .int .i64 0, .nilSlice]))),
 .x (.store 3 (.t 19) (.t 93)),
 .o 20 (.mov (.t 94))])
 (.seq (.seq (.ops [⟨(some 95), .mov (.t 4), none, true⟩,
 ⟨(some 96), .mov (.t 6), none, true⟩,
 ⟨(some 97), .bin .add (.t 95) (.t 96), none, true⟩,
 ⟨(some 98), .mov (.t 8), none, true⟩,
 ⟨(some 99), .bin .add (.t 97) (.t 98), none, true⟩,
 ⟨(some 100), .mov (.t 11), none, true⟩,
 ⟨(some 101), .bin .add (.t 99) (.t 100), none, true⟩,
 ⟨(some 102), .mov (.t 14), none, true⟩,
 ⟨(some 103), .bin .add (.t 101) (.t 102), none, true⟩,
 ⟨(some 104), .mov (.t 16), none, true⟩,
 ⟨(some 105), .bin .add (.t 103) (.t 104), none, true⟩,
 ⟨(some 106), .mov (.t 18), none, true⟩,
 ⟨(some 107), .bin .add (.t 105) (.t 106), none, true⟩,
 ⟨(some 108), .mov (.t 20), none, true⟩,
 .o 109 (.bin .add (.t 107) (.t 108)),
 .o 110 (.bin .neq (.t 109) .z),
 .o 111 (.mov (.t 110)),
 ⟨(some 112), .load (some 2) (.t 3), (some (111, false)), true⟩,
 ⟨(some 113), .build [.int .i64 0, .int .i64 0] [(0, 1, (.c (.int .i64 310))), (1, 1, (.c (.int .i64 3)))], (some (111, false)), true⟩,
 ⟨(some 114), .eqv true (.agg [.i, .i]) (.t 112) (.t 113), (some (111, false)), false⟩,
 .o 115 (.pick (.t 111) (.c (.bool true)) (.t 114)),
 .o 116 (.mov (.t 115)),
 ⟨(some 117), .load (some 2) (.t 5), (some (116, false)), true⟩,
 ⟨(some 118), .call (.f 67) [(.c (.int .i64 101)), (.c (.int .i64 106))], (some (116, false)), true⟩,
 ⟨(some 119), .eqv true (.agg [.i, .i]) (.t 117) (.t 118), (some (116, false)), false⟩,
 .o 120 (.pick (.t 116) (.c (.bool true)) (.t 119)),
 .o 121 (.mov (.t 120)),
 ⟨(some 122), .load (some 2) (.t 7), (some (121, false)), true⟩,
 ⟨(some 123), .call (.f 67) [(.c (.int .i64 94)), (.c (.int .i64 99))], (some (121, false)), true⟩,
 ⟨(some 124), .eqv true (.agg [.i, .i]) (.t 122) (.t 123), (some (121, false)), false⟩,
 .o 125 (.pick (.t 121) (.c (.bool true)) (.t 124)),
 .o 126 (.mov (.t 125)),
 ⟨(some 127), .mov (.t 9), (some (126, false)), false⟩,
 ⟨(some 128), .bin .neq (.t 127) (.c (.int .i64 2)), (some (126, false)), false⟩,
 .o 129 (.pick (.t 126) (.c (.bool true)) (.t 128)),
 .o 130 (.mov (.t 129)),
 ⟨(some 131), .mov (.t 10), (some (130, false)), false⟩,
 ⟨(some 132), .un .not (.t 131), (some (130, false)), false⟩,
 .o 133 (.pick (.t 130) (.c (.bool true)) (.t 132)),
 .o 134 (.mov (.t 133)),
 ⟨(some 135), .mov (.t 12), (some (134, false)), false⟩,
 ⟨(some 136), .bin .neq (.t 135) .w, (some (134, false)), false⟩,
 .o 137 (.pick (.t 134) (.c (.bool true)) (.t 136)),
 .o 138 (.mov (.t 137)),
 ⟨(some 139), .mov (.t 13), (some (138, false)), false⟩,
 ⟨(some 140), .un .not (.t 139), (some (138, false)), false⟩,
 .o 141 (.pick (.t 138) (.c (.bool true)) (.t 140)),
 .o 142 (.mov (.t 141)),
 ⟨(some 143), .mov (.t 15), (some (142, false)), true⟩,
 ⟨(some 144), .bslice 1 1 [.int .i64 0] [(0, (.c (.int .i64 6)))], (some (142, false)), true⟩,
 ⟨(some 145), .call (.f 40) [(.t 143), (.t 144)], (some (142, false)), false⟩,
 ⟨(some 146), .un .not (.t 145), (some (142, false)), false⟩,
 .o 147 (.pick (.t 142) (.c (.bool true)) (.t 146)),
 .o 148 (.mov (.t 147)),
 ⟨(some 149), .load (some 3) (.t 17), (some (148, false)), true⟩,
 ⟨(some 150), .call (.f 68) [(.t 149)], (some (148, false)), true⟩,
 ⟨(some 151), .bslice 1 6 [.int .i64 0] [(0, .z), (1, (.c (.int .i64 100))), (2, (.c (.int .i64 3))), (3, (.c (.int .i64 117))), (4, (.c (.int .i64 6))), (5, (.c (.int .i64 97)))], (some (148, false)), true⟩,
 ⟨(some 152), .call (.f 91) [(.c (.str [116, 111, 112])), (.c (.int .i64 2)), (.t 151)], (some (148, false)), false⟩,
 ⟨(some 153), .call (.f 68) [(.t 152)], (some (148, false)), false⟩,
 ⟨(some 154), .call (.f 69) [(.t 150), (.t 153)], (some (148, false)), false⟩,
 ⟨(some 155), .un .not (.t 154), (some (148, false)), false⟩,
 .o 156 (.pick (.t 148) (.c (.bool true)) (.t 155)),
 .o 157 (.mov (.t 156)),
 ⟨(some 158), .load (some 3) (.t 19), (some (157, false)), true⟩,
 ⟨(some 159), .call (.f 68) [(.t 158)], (some (157, false)), true⟩,
 ⟨(some 160), .bslice 1 14 [.int .i64 0] [(0, .z), (1, (.c (.int .i64 100))), (2, .w), (3, (.c (.int .i64 103))), (4, (.c (.int .i64 2))), (5, (.c (.int .i64 107))), (6, (.c (.int .i64 3))), (7, (.c (.int .i64 110))), (8, (.c (.int .i64 4))), (9, (.c (.int .i64 103))), (10, (.c (.int .i64 5))), (11, (.c (.int .i64 97))), (12, (.c (.int .i64 6))), (13, (.c (.int .i64 90)))], (some (157, false)), true⟩,
 ⟨(some 161), .call (.f 91) [(.c (.str [116, 111, 112])), (.c (.int .i64 2)), (.t 160)], (some (157, false)), false⟩,
 ⟨(some 162), .call (.f 68) [(.t 161)], (some (157, false)), false⟩,
 ⟨(some 163), .call (.f 69) [(.t 159), (.t 162)], (some (157, false)), false⟩,
 ⟨(some 164), .un .not (.t 163), (some (157, false)), false⟩,
 .o 165 (.pick (.t 157) (.c (.bool true)) (.t 164))])
 (.cond (.t 165)
 (.seq (.ops [.o 0 (.mov (.c (.bool false)))])
 .ret)
 .skip))
 (.seq (.ops [.o 167 (.call (.f 92) []),
 .o 168 (.call (.f 93) []),
 .o 169 (.call (.f 41) [(.t 167), (.t 168), (.c (.int .i64 2))]),
 .o 166 (.mov (.t 169)),
 .o 170 (.ext (.t 166) 0),
 .o 171 (.ext (.t 166) 1),
 .o 21 (.mov (.t 170)),
 .o 22 (.mov (.t 171))])
 (.seq (.ops [.o 172 (.build [.int .i64 0, .int .i64 0, .int .i64 0, .int .i64 0] [(0, 1, (.c (.int .i64 2))), (1, 1, .w), (2, 1, (.c (.int .i64 50))), (3, 1, (.c (.int .i64 5)))]),
 .o 173 (.build [.int .i64 0, .int .i64 0, .int .i64 0, .int .i64 0] [(0, 1, (.c (.int .i64 2))), (1, 1, .z), (2, 1, (.c (.int .i64 30))), (3, 1, (.c (.int .i64 3)))]),
 .o 174 (.bslice 4 2 [.int .i64 0, .int .i64 0, .int .i64 0, .int .i64 0] [(0, (.t 172)), (4, (.t 173))]),
 .o 23 (.mov (.t 174))])
 (.seq (.ops [.o 176 (.call (.f 92) []),
 .o 177 (.call (.f 93) []),
 .o 178 (.mov (.t 23)),
 .o 179 (.call (.f 43) [(.t 176), (.t 177), (.t 178)]),
 .o 175 (.mov (.t 179)),
 .o 180 (.ext (.t 175) 0),
 .o 181 (.ext (.t 175) 1),
 .o 24 (.mov (.t 180)),
 .o 25 (.mov (.t 181))])
 (.seq (.ops [.o 183 (.call (.f 92) []),
 .o 184 (.call (.f 93) []),
 .o 185 (.mov (.t 23)),
 .o 186 (.call (.f 45) [(.t 183), (.t 184), (.t 185)]),
 .o 182 (.mov (.t 186)),
 .o 187 (.ext (.t 182) 0),
 .o 188 (.ext (.t 182) 1),
 .o 26 (.box (.c (.agg [.int .i64 0, .int .i64 0]))),
 .x (.store 2 (.t 26) (.t 187)),
 .o 27 (.mov (.t 188))])
 (.seq (.ops [.o 190 (.call (.f 94) []),
 .o 191 (.call (.f 54) [(.t 190), (.c (.int .i64 4))]),
 .o 189 (.mov (.t 191)),
 .o 192 (.ext (.t 189) 0),
 .o 193 (.ext (.t 189) 1),
 .o 28 (.box (.c (.agg [.int .i64 0, .int .i64 0]))),
 .x (.store 2 (.t 28) (.t 192)),
 .o 29 (.mov (.t 193))])
 (.seq (.ops [.o 195 (.call (.f 94) []),
 .o 196 (.call (.f 56) [(.t 195), (.c (.int .i64 4)), (.c (.int .i64 8))]),
 .o 194 (.mov (.t 196)),
 .o 197 (.ext (.t 194) 0),
 .o 198 (.ext (.t 194) 1),
 .o 199 (.ext (.t 194) 2),
 .o 30 (.mov (.t 197)),
 .o 31 (.mov (.t 198)),
 .o 32 (.mov (.t 199))])
 (.seq (.ops [.o 201 (.call (.f 94) []),
 .o 202 (.call (.f 57) [(.t 201), (.c (.int .i64 4)), (.c (.int .i64 8))]),
 .o 200 (.mov (.t 202)),
 .o 203 (.ext (.t 200) 0),
 .o 204 (.ext (.t 200) 1),
 .o 33 (.box (.c (.agg [.int .i64 0, .int .i64 0]))),
 .x (.store 2 (.t 33) (.t 203)),
 .o 34 (.mov (.t 204))])
 (.seq (.ops [.o 206 (.call (.f 94) []),
 .o 207 (.call (.f 57) [(.t 206), (.c (.int .i64 4)), (.c (.int .i64 9))]),
 .o 205 (.mov (.t 207)),
 .o 208 (.ext (.t 205) 0),
 .o 209 (.ext (.t 205) 1),
 .o 35 (.box (.c (.agg [.int .i64 0, .int .i64 0]))),
 .x (.store 2 (.t 35) (.t 208)),
 .o 36 (.mov (.t 209))])
 (.seq (.seq (.ops [⟨(some 210), .mov (.t 22), none, true⟩,
 ⟨(some 211), .mov (.t 25), none, true⟩,
 ⟨(some 212), .bin .add (.t 210) (.t 211), none, true⟩,
 ⟨(some 213), .mov (.t 27), none, true⟩,
 ⟨(some 214), .bin .add (.t 212) (.t 213), none, true⟩,
 ⟨(some 215), .mov (.t 29), none, true⟩,
 ⟨(some 216), .bin .add (.t 214) (.t 215), none, true⟩,
 ⟨(some 217), .mov (.t 32), none, true⟩,
 ⟨(some 218), .bin .add (.t 216) (.t 217), none, true⟩,
 ⟨(some 219), .mov (.t 34), none, true⟩,
 ⟨(some 220), .bin .add (.t 218) (.t 219), none, true⟩,
 ⟨(some 221), .mov (.t 36), none, true⟩,
 .o 222 (.bin .add (.t 220) (.t 221)),
 .o 223 (.bin .neq (.t 222) .z),
 .o 224 (.mov (.t 223)),
 ⟨(some 225), .mov (.t 21), (some (224, false)), true⟩,
 ⟨(some 226), .call (.f 67) [(.c (.int .i64 18)), (.c (.int .i64 33))], (some (224, false)), true⟩,
 ⟨(some 227), .call (.f 67) [(.c (.int .i64 62)), (.c (.int .i64 101))], (some (224, false)), true⟩,
 ⟨(some 228), .bslice 2 2 [.int .i64 0, .int .i64 0] [(0, (.t 226)), (2, (.t 227))], (some (224, false)), true⟩,
 ⟨(some 229), .call (.f 52) [(.t 225), (.t 228)], (some (224, false)), false⟩,
 ⟨(some 230), .un .not (.t 229), (some (224, false)), false⟩,
 .o 231 (.pick (.t 224) (.c (.bool true)) (.t 230)),
 .o 232 (.mov (.t 231)),
 ⟨(some 233), .mov (.t 24), (some (232, false)), true⟩,
 ⟨(some 234), .bslice 1 1 [.int .i64 0] [(0, .z)], (some (232, false)), true⟩,
 ⟨(some 235), .call (.f 40) [(.t 233), (.t 234)], (some (232, false)), false⟩,
 ⟨(some 236), .un .not (.t 235), (some (232, false)), false⟩,
 .o 237 (.pick (.t 232) (.c (.bool true)) (.t 236)),
 .o 238 (.mov (.t 237)),
 ⟨(some 239), .load (some 2) (.t 26), (some (238, false)), true⟩,
 ⟨(some 240), .call (.f 67) [(.c (.int .i64 838)), (.c (.int .i64 908))], (some (238, false)), true⟩,
 ⟨(some 241), .eqv true (.agg [.i, .i]) (.t 239) (.t 240), (some (238, false)), false⟩,
 .o 242 (.pick (.t 238) (.c (.bool true)) (.t 241)),
 .o 243 (.mov (.t 242)),
 ⟨(some 244), .load (some 2) (.t 28), (some (243, false)), true⟩,
 ⟨(some 245), .call (.f 67) [(.c (.int .i64 8)), (.c (.int .i64 8))], (some (243, false)), true⟩,
 ⟨(some 246), .eqv true (.agg [.i, .i]) (.t 244) (.t 245), (some (243, false)), false⟩,
 .o 247 (.pick (.t 243) (.c (.bool true)) (.t 246)),
 .o 248 (.mov (.t 247)),
 ⟨(some 249), .mov (.t 30), (some (248, false)), true⟩,
 ⟨(some 250), .bslice 1 1 [.int .i64 0] [(0, (.c (.int .i64 4)))], (some (248, false)), true⟩,
 ⟨(some 251), .call (.f 40) [(.t 249), (.t 250)], (some (248, false)), false⟩,
 ⟨(some 252), .un .not (.t 251), (some (248, false)), false⟩,
 .o 253 (.pick (.t 248) (.c (.bool true)) (.t 252)),
 .o 254 (.mov (.t 253)),
 ⟨(some 255), .mov (.t 31), (some (254, false)), true⟩,
 ⟨(some 256), .bslice 1 1 [.int .i64 0] [(0, (.c (.int .i64 4)))], (some (254, false)), true⟩,
 ⟨(some 257), .call (.f 40) [(.t 255), (.t 256)], (some (254, false)), false⟩,
 ⟨(some 258), .un .not (.t 257), (some (254, false)), false⟩,
 .o 259 (.pick (.t 254) (.c (.bool true)) (.t 258)),
 .o 260 (.mov (.t 259)),
 ⟨(some 261), .load (some 2) (.t 33), (some (260, false)), true⟩,
 ⟨(some 262), .call (.f 67) [(.c (.int .i64 2)), (.c (.int .i64 3))], (some (260, false)), true⟩,
 ⟨(some 263), .eqv true (.agg [.i, .i]) (.t 261) (.t 262), (some (260, false)), false⟩,
 .o 264 (.pick (.t 260) (.c (.bool true)) (.t 263)),
 .o 265 (.mov (.t 264)),
 ⟨(some 266), .load (some 2) (.t 35), (some (265, false)), true⟩,
 ⟨(some 267), .call (.f 67) [(.c (.int .i64 4)), (.c (.int .i64 5))], (some (265, false)), true⟩,
 ⟨(some 268), .eqv true (.agg [.i, .i]) (.t 266) (.t 267), (some (265, false)), false⟩,
 .o 269 (.pick (.t 265) (.c (.bool true)) (.t 268))])
 (.cond (.t 269)
 (.seq (.ops [.o 0 (.mov (.c (.bool false)))])
 .ret)
 .skip))
 (.seq (.ops [.o 271 (.load (some 3) (.t 1)),
 .o 272 (.load (some 3) (.t 2)),
 .o 273 (.call (.f 72) [(.t 271), (.t 272), .z]),
 .o 270 (.mov (.t 273)),
 .o 274 (.ext (.t 270) 0),
 .o 275 (.ext (.t 270) 1),
 .o 37 (.mov (.t 274)),
 .o 38 (.mov (.t 275))])
 (.seq (.ops [.o 277 (.load (some 3) (.t 1)),
 .o 278 (.load (some 3) (.t 2)),
 .o 279 (.call (.f 73) [(.t 277), (.t 278), (.c (.int .i64 10))]),
 .o 276 (.mov (.t 279)),
 .o 280 (.ext (.t 276) 0),
 .o 281 (.ext (.t 276) 1),
 .o 282 (.ext (.t 276) 2),
 .o 39 (.mov (.t 280)),
 .o 40 (.mov (.t 281)),
 .o 41 (.mov (.t 282))])
 (.seq (.ops [.o 284 (.load (some 3) (.t 1)),
 .o 285 (.load (some 3) (.t 2)),
 .o 286 (.call (.f 72) [(.t 284), (.t 285), (.c (.int .i64 (-1)))]),
 .o 283 (.mov (.t 286)),
 .o 287 (.ext (.t 283) 0),
 .o 288 (.ext (.t 283) 1),
 .o 42 (.mov (.t 287)),
 .o 43 (.mov (.t 288))])
 (.seq (.ops [.o 290 (.load (some 3) (.t 2)),
 .o 291 (.bslice 3 1 [.str [], .int .i64 0, .nilSlice] [(0, (.t 290))]),
 .o 292 (.call (.f 84) [(.t 291)]),
 .o 289 (.mov (.t 292)),
 .o 293 (.ext (.t 289) 0),
 .o 294 (.ext (.t 289) 1),
 .o 44 (.mov (.t 293)),
 .o 45 (.mov (.t 294))])
 (.seq (.ops [.o 295 (.mov (.t 38)),
 .o 296 (.mov (.t 41)),
 .o 297 (.bin .add (.t 295) (.t 296)),
 .o 298 (.mov (.t 43)),
 .o 299 (.bin .add (.t 297) (.t 298)),
 .o 300 (.mov (.t 45)),
 .o 301 (.bin .add (.t 299) (.t 300)),
 .o 302 (.bin .eql (.t 301) .z),
 .o 303 (.mov (.t 302)),
 ⟨(some 304), .mov (.t 37), (some (303, true)), false⟩,
 ⟨(some 305), .bslice 1 3 [.int .i64 0] [(0, (.c (.int .i64 3))), (1, (.c (.int .i64 5))), (2, (.c (.int .i64 6)))], (some (303, true)), false⟩,
 ⟨(some 306), .call (.f 40) [(.t 304), (.t 305)], (some (303, true)), false⟩,
 .o 307 (.pick (.t 303) (.t 306) (.c (.bool false))),
 .o 308 (.mov (.t 307)),
 ⟨(some 309), .mov (.t 39), (some (308, true)), false⟩,
 ⟨(some 310), .bin .eql (.t 309) .z, (some (308, true)), false⟩,
 .o 311 (.pick (.t 308) (.t 310) (.c (.bool false))),
 .o 312 (.mov (.t 311)),
 ⟨(some 313), .mov (.t 40), (some (312, true)), false⟩,
 ⟨(some 314), .bslice 1 3 [.int .i64 0] [(0, (.c (.int .i64 3))), (1, (.c (.int .i64 5))), (2, (.c (.int .i64 6)))], (some (312, true)), false⟩,
 ⟨(some 315), .call (.f 40) [(.t 313), (.t 314)], (some (312, true)), false⟩,
 .o 316 (.pick (.t 312) (.t 315) (.c (.bool false))),
 .o 317 (.mov (.t 316)),
 ⟨(some 318), .mov (.t 42), (some (317, true)), false⟩,
 ⟨(some 319), .bslice 1 4 [.int .i64 0] [(0, (.c (.int .i64 2))), (1, (.c (.int .i64 3))), (2, (.c (.int .i64 5))), (3, (.c (.int .i64 6)))], (some (317, true)), false⟩,
 ⟨(some 320), .call (.f 40) [(.t 318), (.t 319)], (some (317, true)), false⟩,
 .o 321 (.pick (.t 317) (.t 320) (.c (.bool false))),
 .o 322 (.mov (.t 321)),
 ⟨(some 323), .mov (.t 44), (some (322, true)), false⟩,
 ⟨(some 324), .bin .eql (.t 323) (.c (.str [104, 111, 114, 105, 122, 111, 110, 32, 98, 97, 115, 101, 32, 48, 10, 112, 105, 99, 107, 32, 49, 32, 49, 48, 52, 10, 112, 105, 99, 107, 32, 54, 32, 49, 48, 52, 10])), (some (322, true)), false⟩,
 .o 325 (.pick (.t 322) (.t 324) (.c (.bool false))),
 .o 0 (.mov (.t 325))])
 .ret)))))))))))))))))))))))))⟩
def fn16 : AFunc := ⟨19, 1, [(2, none)],
 (.seq (.ops [.o 1 (.box (.t 0)),
 .o 2 (.mov (.c (.bool false)))])
 (.seq (.ops [.o 3 (.fadr 0 (.t 1)),
 .o 4 (.load none (.t 3)),
 .o 5 (.len .st (.t 4)),
 .o 6 (.bin .leq (.t 5) (.c (.int .i64 60))),
 .o 7 (.mov (.t 6)),
 ⟨(some 8), .fadr 2 (.t 1), (some (7, true)), false⟩,
 ⟨(some 9), .load none (.t 8), (some (7, true)), false⟩,
 ⟨(some 10), .len .sl (.t 9), (some (7, true)), false⟩,
 ⟨(some 11), .bin .leq (.t 10) (.c (.int .i64 8)), (some (7, true)), false⟩,
 ⟨(some 12), .mov (.t 11), (some (7, true)), false⟩,
 ⟨(some 13), .fadr 2 (.t 1), (some (12, false)), false⟩,
 ⟨(some 14), .load none (.t 13), (some (12, false)), false⟩,
 ⟨(some 15), .len .sl (.t 14), (some (12, false)), false⟩,
 ⟨(some 16), .bin .eql (.t 15) (.c (.int .i64 257)), (some (12, false)), false⟩,
 ⟨(some 17), .pick (.t 12) (.c (.bool true)) (.t 16), (some (7, true)), false⟩,
 .o 18 (.pick (.t 7) (.t 17) (.c (.bool false))),
 .o 2 (.mov (.t 18))])
 .ret))⟩
def fn17 : AFunc := ⟨24, 1, [(2, none)],
 (.seq (.ops [.o 2 (.mov (.c (.bool false)))])
 (.seq (.seq (.ops [.o 3 (.mov .z)])
 (.block 0 (.loop (.seq (.seq (.ops [.o 4 (.mov (.t 3)),
 .o 5 (.mov (.t 0)),
 .o 6 (.len .sl (.t 5)),
 .o 7 (.bin .lss (.t 4) (.t 6))])
 (.cond (.t 7)
 .skip
 (.exit 0)))
 (.seq (.block 1 (.seq (.ops [.o 10 (.mov (.t 0)),
 .o 11 (.mov (.t 3)),
 .o 12 (.iadr 3 (.t 10) (.t 11)),
 .o 13 (.load (some 3) (.t 12)),
 .o 14 (.call (.f 16) [(.t 13)]),
 .o 15 (.un .not (.t 14))])
 (.cond (.t 15)
 (.seq (.ops [.o 2 (.mov (.c (.bool false)))])
 .ret)
 .skip)))
 (.ops [.o 8 (.mov (.t 3)),
 .o 9 (.bin .add (.t 8) .w),
 .o 3 (.mov (.t 9))]))))))
 (.seq (.ops [.o 16 (.mov (.t 0)),
 .o 17 (.len .sl (.t 16)),
 .o 18 (.bin .leq (.t 17) (.c (.int .i64 4))),
 .o 19 (.mov (.t 18)),
 ⟨(some 20), .mov (.t 0), (some (19, false)), false⟩,
 ⟨(some 21), .len .sl (.t 20), (some (19, false)), false⟩,
 ⟨(some 22), .bin .eql (.t 21) (.c (.int .i64 9)), (some (19, false)), false⟩,
 .o 23 (.pick (.t 19) (.c (.bool true)) (.t 22)),
 .o 2 (.mov (.t 23))])
 .ret)))⟩
def fn18 : AFunc := ⟨17, 2, [(4, some (some 2)), (5, none)],
 (.seq (.ops [.o 2 (.box (.t 0)),
 .o 4 (.box (.c (.agg [.int .i64 0, .int .i64 0]))),
 .o 5 (.mov .z)])
 (.seq (.seq (.ops [.o 7 (.load (some 3) (.t 2)),
 .o 8 (.mov (.t 1)),
 .o 9 (.call (.f 95) [(.t 7), (.t 8)]),
 .o 6 (.mov (.t 9))])
 (.seq (.ops [.o 10 (.mov (.t 6)),
 .o 11 (.bin .neq (.t 10) .z)])
 (.cond (.t 11)
 (.seq (.ops [.o 12 (.build [.int .i64 0, .int .i64 0] []),
 .o 13 (.mov (.t 6)),
 .x (.store 2 (.t 4) (.t 12)),
 .o 5 (.mov (.t 13))])
 .ret)
 .skip)))
 (.seq (.ops [.o 14 (.load (some 3) (.t 2)),
 .o 15 (.mov (.t 1)),
 .o 16 (.call (.f 96) [(.t 14), (.t 15)]),
 .x (.store 2 (.t 4) (.t 16)),
 .o 5 (.mov .z)])
 .ret)))⟩
def fn19 : AFunc := ⟨26, 1, [(2, some (some 3))],
 (.seq (.ops [.o 1 (.box (.t 0)),
 .o 2 (.box (.c (.agg [.str [], .int .i64 0, .nilSlice])))])
 (.seq (.ops [.o 6 (.fadr 0 (.t 1)),
 .o 7 (.load none (.t 6)),
 .o 8 (.fadr 1 (.t 1)),
 .o 9 (.load none (.t 8)),
 .o 10 (.build [.str [], .int .i64 0, .nilSlice] [(0, 1, (.t 7)), (1, 1, (.t 9))]),
 .o 3 (.box (.c (.agg [.str [], .int .i64 0, .nilSlice]))),
 .x (.store 3 (.t 3) (.t 10))])
 (.seq (.seq (.ops [.o 11 (.fadr 2 (.t 1)),
 .o 12 (.load none (.t 11)),
 .o 13 (.len .sl (.t 12)),
 .o 14 (.mov .z)])
 (.block 0 (.loop (.seq (.ops [.o 15 (.bin .lss (.t 14) (.t 13))])
 (.seq (.cond (.t 15)
 .skip
 (.exit 0))
 (.seq (.block 1 (.seq (.ops [.o 16 (.iadr 2 (.t 12) (.t 14)),
 .o 17 (.load (some 2) (.t 16)),
 .o 5 (.box (.c (.agg [.int .i64 0, .int .i64 0]))),
 .x (.store 2 (.t 5) (.t 17))])
 (.ops [.o 18 (.fadr 2 (.t 3)),
 .o 19 (.load none (.t 18)),
 .o 20 (.load (some 2) (.t 5)),
 .o 21 (.bslice 2 1 [.int .i64 0, .int .i64 0] [(0, (.t 20))]),
 .o 22 (.app 2 16 (.t 19) (.t 21)),
 .o 23 (.fadr 2 (.t 3)),
 .x (.store 1 (.t 23) (.t 22))])))
 (.ops [.o 24 (.bin .add (.t 14) .w),
 .o 14 (.mov (.t 24))])))))))
 (.seq (.ops [.o 25 (.load (some 3) (.t 3)),
 .x (.store 3 (.t 2) (.t 25))])
 .ret))))⟩
def fn20 : AFunc := ⟨17, 2, [(4, some (some 2)), (5, none)],
 (.seq (.ops [.o 2 (.box (.t 0)),
 .o 4 (.box (.c (.agg [.int .i64 0, .int .i64 0]))),
 .o 5 (.mov .z)])
 (.seq (.seq (.ops [.o 7 (.load (some 3) (.t 2)),
 .o 8 (.mov (.t 1)),
 .o 9 (.call (.f 95) [(.t 7), (.t 8)]),
 .o 6 (.mov (.t 9))])
 (.seq (.ops [.o 10 (.mov (.t 6)),
 .o 11 (.bin .neq (.t 10) .z)])
 (.cond (.t 11)
 (.seq (.ops [.o 12 (.build [.int .i64 0, .int .i64 0] []),
 .o 13 (.mov (.t 6)),
 .x (.store 2 (.t 4) (.t 12)),
 .o 5 (.mov (.t 13))])
 .ret)
 .skip)))
 (.seq (.ops [.o 14 (.load (some 3) (.t 2)),
 .o 15 (.mov (.t 1)),
 .o 16 (.call (.f 97) [(.t 14), (.t 15)]),
 .x (.store 2 (.t 4) (.t 16)),
 .o 5 (.mov .z)])
 .ret)))⟩
def fn21 : AFunc := ⟨73, 1, [(2, none)],
 (.seq (.ops [.o 1 (.box (.t 0)),
 .o 2 (.mov .z)])
 (.seq (.seq (.ops [⟨(some 6), .fadr 0 (.t 1), none, true⟩,
 ⟨(some 7), .load none (.t 6), none, true⟩,
 ⟨(some 8), .call (.f 99) [(.t 7)], none, true⟩,
 ⟨(some 9), .fadr 1 (.t 1), none, true⟩,
 ⟨(some 10), .load none (.t 9), none, true⟩,
 ⟨(some 11), .call (.f 35) [(.t 10), .z, (.c (.int .i64 1000))], none, true⟩,
 ⟨(some 12), .fadr 2 (.t 1), none, true⟩,
 ⟨(some 13), .load none (.t 12), none, true⟩,
 ⟨(some 14), .len .sl (.t 13), none, true⟩,
 ⟨(some 15), .bin .eql (.t 14) .z, none, true⟩,
 ⟨(some 16), .call (.f 22) [(.t 15), (.c (.int .i64 12))], none, true⟩,
 ⟨(some 17), .fadr 2 (.t 1), none, true⟩,
 ⟨(some 18), .load none (.t 17), none, true⟩,
 ⟨(some 19), .len .sl (.t 18), none, true⟩,
 ⟨(some 20), .bin .gtr (.t 19) (.c (.int .i64 256)), none, true⟩,
 .o 21 (.call (.f 22) [(.t 20), (.c (.int .i64 5))]),
 .o 22 (.bslice 1 4 [.int .i64 0] [(0, (.t 8)), (1, (.t 11)), (2, (.t 16)), (3, (.t 21))]),
 .o 23 (.call (.f 98) [(.t 22)]),
 .o 3 (.mov (.t 23))])
 (.seq (.ops [.o 24 (.mov (.t 3)),
 .o 25 (.bin .neq (.t 24) .z)])
 (.cond (.t 25)
 (.seq (.ops [.o 26 (.mov (.t 3)),
 .o 2 (.mov (.t 26))])
 .ret)
 .skip)))
 (.seq (.seq (.ops [.o 4 (.mov .z)])
 (.block 0 (.loop (.seq (.seq (.ops [.o 27 (.mov (.t 4)),
 .o 28 (.fadr 2 (.t 1)),
 .o 29 (.load none (.t 28)),
 .o 30 (.len .sl (.t 29)),
 .o 31 (.bin .lss (.t 27) (.t 30))])
 (.cond (.t 31)
 .skip
 (.exit 0)))
 (.seq (.block 1 (.seq (.ops [⟨(some 34), .fadr 2 (.t 1), none, true⟩,
 ⟨(some 35), .load none (.t 34), none, true⟩,
 ⟨(some 36), .mov (.t 4), none, true⟩,
 ⟨(some 37), .iadr 2 (.t 35) (.t 36), none, true⟩,
 ⟨(some 38), .fadr 0 (.t 37), none, true⟩,
 ⟨(some 39), .load none (.t 38), none, true⟩,
 ⟨(some 40), .call (.f 66) [(.t 39)], none, true⟩,
 ⟨(some 41), .fadr 2 (.t 1), none, true⟩,
 ⟨(some 42), .load none (.t 41), none, true⟩,
 ⟨(some 43), .mov (.t 4), none, true⟩,
 ⟨(some 44), .iadr 2 (.t 42) (.t 43), none, true⟩,
 ⟨(some 45), .fadr 1 (.t 44), none, true⟩,
 ⟨(some 46), .load none (.t 45), none, true⟩,
 ⟨(some 47), .call (.f 35) [(.t 46), .z, (.c (.int .i64 100000))], none, true⟩,
 ⟨(some 48), .mov (.t 4), none, true⟩,
 ⟨(some 49), .bin .gtr (.t 48) .z, none, true⟩,
 .o 50 (.mov (.t 49)),
 ⟨(some 51), .fadr 2 (.t 1), (some (50, true)), true⟩,
 ⟨(some 52), .load none (.t 51), (some (50, true)), true⟩,
 ⟨(some 53), .mov (.t 4), (some (50, true)), true⟩,
 ⟨(some 54), .bin .sub (.t 53) .w, (some (50, true)), true⟩,
 ⟨(some 55), .mx .z [(.t 54)], (some (50, true)), true⟩,
 ⟨(some 56), .iadr 2 (.t 52) (.t 55), (some (50, true)), true⟩,
 ⟨(some 57), .fadr 0 (.t 56), (some (50, true)), true⟩,
 ⟨(some 58), .load none (.t 57), (some (50, true)), true⟩,
 ⟨(some 59), .fadr 2 (.t 1), (some (50, true)), true⟩,
 ⟨(some 60), .load none (.t 59), (some (50, true)), true⟩,
 ⟨(some 61), .mov (.t 4), (some (50, true)), true⟩,
 ⟨(some 62), .iadr 2 (.t 60) (.t 61), (some (50, true)), true⟩,
 ⟨(some 63), .fadr 0 (.t 62), (some (50, true)), true⟩,
 ⟨(some 64), .load none (.t 63), (some (50, true)), true⟩,
 ⟨(some 65), .bin .geq (.t 58) (.t 64), (some (50, true)), false⟩,
 .o 66 (.pick (.t 50) (.t 65) (.c (.bool false))),
 .o 67 (.call (.f 22) [(.t 66), (.c (.int .i64 11))]),
 .o 68 (.bslice 1 3 [.int .i64 0] [(0, (.t 40)), (1, (.t 47)), (2, (.t 67))]),
 .o 69 (.call (.f 98) [(.t 68)]),
 .o 5 (.mov (.t 69))])
 (.seq (.ops [.o 70 (.mov (.t 5)),
 .o 71 (.bin .neq (.t 70) .z)])
 (.cond (.t 71)
 (.seq (.ops [.o 72 (.mov (.t 5)),
 .o 2 (.mov (.t 72))])
 .ret)
 .skip))))
 (.ops [.o 32 (.mov (.t 4)),
 .o 33 (.bin .add (.t 32) .w),
 .o 4 (.mov (.t 33))]))))))
 (.seq (.ops [.o 2 (.mov .z)])
 .ret))))⟩
def fn22 : AFunc := ⟨7, 2, [(4, none)],
 (.seq (.ops [.o 4 (.mov .z)])
 (.seq (.seq (.ops [.o 5 (.mov (.t 0))])
 (.cond (.t 5)
 (.seq (.ops [.o 6 (.mov (.t 1)),
 .o 4 (.mov (.t 6))])
 .ret)
 .skip))
 (.seq (.ops [.o 4 (.mov .z)])
 .ret)))⟩
def fn23 : AFunc := ⟨15, 2, [(4, none)],
 (.seq (.ops [.o 2 (.box (.t 0)),
 .o 4 (.mov (.c (.bool false)))])
 (.seq (.ops [.o 5 (.mov (.t 1)),
 .o 6 (.load (some 3) (.t 2)),
 .o 7 (.call (.f 100) [(.t 6)]),
 .o 8 (.bin .geq (.t 5) (.t 7)),
 .o 9 (.mov (.t 8)),
 ⟨(some 10), .mov (.t 1), (some (9, true)), false⟩,
 ⟨(some 11), .load (some 3) (.t 2), (some (9, true)), false⟩,
 ⟨(some 12), .call (.f 101) [(.t 11)], (some (9, true)), false⟩,
 ⟨(some 13), .bin .leq (.t 10) (.t 12), (some (9, true)), false⟩,
 .o 14 (.pick (.t 9) (.t 13) (.c (.bool false))),
 .o 4 (.mov (.t 14))])
 .ret))⟩
def fn24 : AFunc := ⟨63, 2, [(4, some (some 2))],
 (.seq (.ops [.o 2 (.box (.t 0)),
 .o 4 (.box (.c (.agg [.int .i64 0, .int .i64 0])))])
 (.seq (.seq (.ops [.o 5 (.mov .z)])
 (.block 0 (.loop (.seq (.seq (.ops [.o 8 (.mov (.t 5)),
 .o 9 (.fadr 2 (.t 2)),
 .o 10 (.load none (.t 9)),
 .o 11 (.len .sl (.t 10)),
 .o 12 (.bin .lss (.t 8) (.t 11))])
 (.cond (.t 12)
 .skip
 (.exit 0)))
 (.seq (.block 1 (.seq (.ops [.o 15 (.fadr 2 (.t 2)),
 .o 16 (.load none (.t 15)),
 .o 17 (.mov (.t 5)),
 .o 18 (.iadr 2 (.t 16) (.t 17)),
 .o 19 (.load (some 2) (.t 18)),
 .o 6 (.box (.c (.agg [.int .i64 0, .int .i64 0]))),
 .x (.store 2 (.t 6) (.t 19))])
 (.seq (.seq (.ops [.o 20 (.fadr 0 (.t 6)),
 .o 21 (.load none (.t 20)),
 .o 22 (.mov (.t 1)),
 .o 23 (.bin .eql (.t 21) (.t 22))])
 (.cond (.t 23)
 (.seq (.ops [.o 24 (.fadr 1 (.t 6)),
 .o 25 (.load none (.t 24)),
 .o 26 (.build [.int .i64 0, .int .i64 0] [(0, 1, (.t 25)), (1, 1, .w)]),
 .x (.store 2 (.t 4) (.t 26))])
 .ret)
 .skip))
 (.seq (.ops [.o 27 (.fadr 0 (.t 6)),
 .o 28 (.load none (.t 27)),
 .o 29 (.mov (.t 1)),
 .o 30 (.bin .gtr (.t 28) (.t 29))])
 (.cond (.t 30)
 (.seq (.ops [.o 31 (.fadr 2 (.t 2)),
 .o 32 (.load none (.t 31)),
 .o 33 (.mov (.t 5)),
 .o 34 (.bin .sub (.t 33) .w),
 .o 35 (.iadr 2 (.t 32) (.t 34)),
 .o 36 (.load (some 2) (.t 35)),
 .o 7 (.box (.c (.agg [.int .i64 0, .int .i64 0]))),
 .x (.store 2 (.t 7) (.t 36))])
 (.seq (.ops [.o 37 (.fadr 1 (.t 7)),
 .o 38 (.load none (.t 37)),
 .o 39 (.fadr 0 (.t 6)),
 .o 40 (.load none (.t 39)),
 .o 41 (.fadr 0 (.t 7)),
 .o 42 (.load none (.t 41)),
 .o 43 (.bin .sub (.t 40) (.t 42)),
 .o 44 (.bin .mul (.t 38) (.t 43)),
 .o 45 (.fadr 1 (.t 6)),
 .o 46 (.load none (.t 45)),
 .o 47 (.fadr 1 (.t 7)),
 .o 48 (.load none (.t 47)),
 .o 49 (.bin .sub (.t 46) (.t 48)),
 .o 50 (.mov (.t 1)),
 .o 51 (.fadr 0 (.t 7)),
 .o 52 (.load none (.t 51)),
 .o 53 (.bin .sub (.t 50) (.t 52)),
 .o 54 (.bin .mul (.t 49) (.t 53)),
 .o 55 (.bin .add (.t 44) (.t 54)),
 .o 56 (.fadr 0 (.t 6)),
 .o 57 (.load none (.t 56)),
 .o 58 (.fadr 0 (.t 7)),
 .o 59 (.load none (.t 58)),
 .o 60 (.bin .sub (.t 57) (.t 59)),
 .o 61 (.call (.f 102) [(.t 55), (.t 60)]),
 .x (.store 2 (.t 4) (.t 61))])
 .ret))
 .skip)))))
 (.ops [.o 13 (.mov (.t 5)),
 .o 14 (.bin .add (.t 13) .w),
 .o 5 (.mov (.t 14))]))))))
 (.seq (.ops [.o 62 (.build [.int .i64 0, .int .i64 0] []),
 .x (.store 2 (.t 4) (.t 62))])
 .ret)))⟩
def fn25 : AFunc := ⟨26, 2, [(4, some (some 2))],
 (.seq (.ops [.o 2 (.box (.t 0)),
 .o 4 (.box (.c (.agg [.int .i64 0, .int .i64 0])))])
 (.seq (.ops [.o 6 (.load (some 3) (.t 2)),
 .o 7 (.mov (.t 1)),
 .o 8 (.call (.f 24) [(.t 6), (.t 7)]),
 .o 5 (.box (.c (.agg [.int .i64 0, .int .i64 0]))),
 .x (.store 2 (.t 5) (.t 8))])
 (.seq (.ops [⟨(some 9), .fadr 0 (.t 5), none, true⟩,
 ⟨(some 10), .load none (.t 9), none, true⟩,
 ⟨(some 11), .fadr 1 (.t 5), none, true⟩,
 ⟨(some 12), .load none (.t 11), none, true⟩,
 ⟨(some 13), .call (.f 103) [(.t 10), (.t 12)], none, true⟩,
 ⟨(some 14), .fadr 1 (.t 2), none, true⟩,
 ⟨(some 15), .load none (.t 14), none, true⟩,
 ⟨(some 16), .bin .sub (.t 13) (.t 15), none, true⟩,
 ⟨(some 17), .fadr 0 (.t 5), none, true⟩,
 ⟨(some 18), .load none (.t 17), none, true⟩,
 ⟨(some 19), .fadr 1 (.t 5), none, true⟩,
 ⟨(some 20), .load none (.t 19), none, true⟩,
 ⟨(some 21), .call (.f 104) [(.t 18), (.t 20)], none, true⟩,
 ⟨(some 22), .fadr 1 (.t 2), none, true⟩,
 ⟨(some 23), .load none (.t 22), none, true⟩,
 ⟨(some 24), .bin .add (.t 21) (.t 23), none, true⟩,
 .o 25 (.build [.int .i64 0, .int .i64 0] [(0, 1, (.t 16)), (1, 1, (.t 24))]),
 .x (.store 2 (.t 4) (.t 25))])
 .ret)))⟩
def fn26 : AFunc := ⟨57, 1, [(2, none)],
 (.seq (.ops [.o 1 (.box (.t 0)),
 .o 2 (.mov .z)])
 (.seq (.seq (.ops [⟨(some 8), .fadr 0 (.t 1), none, true⟩,
 ⟨(some 9), .load none (.t 8), none, true⟩,
 ⟨(some 10), .call (.f 107) [(.t 9)], none, true⟩,
 ⟨(some 11), .un .not (.t 10), none, true⟩,
 ⟨(some 12), .call (.f 106) [(.t 11), (.c (.int .i64 8))], none, true⟩,
 ⟨(some 13), .fadr 1 (.t 1), none, true⟩,
 ⟨(some 14), .load none (.t 13), none, true⟩,
 ⟨(some 15), .call (.f 108) [(.t 14), .z, (.c (.int .i64 1000))], none, true⟩,
 ⟨(some 16), .fadr 2 (.t 1), none, true⟩,
 ⟨(some 17), .load none (.t 16), none, true⟩,
 ⟨(some 18), .len .sl (.t 17), none, true⟩,
 ⟨(some 19), .bin .eql (.t 18) .z, none, true⟩,
 ⟨(some 20), .call (.f 106) [(.t 19), (.c (.int .i64 12))], none, true⟩,
 ⟨(some 21), .fadr 2 (.t 1), none, true⟩,
 ⟨(some 22), .load none (.t 21), none, true⟩,
 ⟨(some 23), .len .sl (.t 22), none, true⟩,
 ⟨(some 24), .bin .gtr (.t 23) (.c (.int .i64 256)), none, true⟩,
 .o 25 (.call (.f 106) [(.t 24), (.c (.int .i64 5))]),
 .o 26 (.bslice 1 4 [.int .i64 0] [(0, (.t 12)), (1, (.t 15)), (2, (.t 20)), (3, (.t 25))]),
 .o 27 (.call (.f 105) [(.t 26)]),
 .o 3 (.mov (.t 27))])
 (.seq (.ops [.o 28 (.mov (.t 3)),
 .o 29 (.bin .neq (.t 28) .z)])
 (.cond (.t 29)
 (.seq (.ops [.o 30 (.mov (.t 3)),
 .o 2 (.mov (.t 30))])
 .ret)
 .skip)))
 (.seq (.ops [.o 4 (.mov (.c (.int .i64 (-1))))])
 (.seq (.seq (.ops [.o 31 (.fadr 2 (.t 1)),
 .o 32 (.load none (.t 31)),
 .o 33 (.len .sl (.t 32)),
 .o 34 (.mov .z)])
 (.block 0 (.loop (.seq (.ops [.o 35 (.bin .lss (.t 34) (.t 33))])
 (.seq (.cond (.t 35)
 .skip
 (.exit 0))
 (.seq (.block 1 (.seq (.ops [.o 36 (.iadr 2 (.t 32) (.t 34)),
 .o 37 (.load (some 2) (.t 36)),
 .o 6 (.box (.c (.agg [.int .i64 0, .int .i64 0]))),
 .x (.store 2 (.t 6) (.t 37))])
 (.seq (.seq (.ops [⟨(some 38), .fadr 0 (.t 6), none, true⟩,
 ⟨(some 39), .load none (.t 38), none, true⟩,
 ⟨(some 40), .call (.f 108) [(.t 39), .z, (.c (.int .i64 255))], none, true⟩,
 ⟨(some 41), .fadr 1 (.t 6), none, true⟩,
 ⟨(some 42), .load none (.t 41), none, true⟩,
 ⟨(some 43), .call (.f 108) [(.t 42), .z, (.c (.int .i64 100000))], none, true⟩,
 ⟨(some 44), .fadr 0 (.t 6), none, true⟩,
 ⟨(some 45), .load none (.t 44), none, true⟩,
 ⟨(some 46), .mov (.t 4), none, true⟩,
 ⟨(some 47), .bin .leq (.t 45) (.t 46), none, true⟩,
 .o 48 (.call (.f 106) [(.t 47), (.c (.int .i64 11))]),
 .o 49 (.bslice 1 3 [.int .i64 0] [(0, (.t 40)), (1, (.t 43)), (2, (.t 48))]),
 .o 50 (.call (.f 105) [(.t 49)]),
 .o 7 (.mov (.t 50))])
 (.seq (.ops [.o 51 (.mov (.t 7)),
 .o 52 (.bin .neq (.t 51) .z)])
 (.cond (.t 52)
 (.seq (.ops [.o 53 (.mov (.t 7)),
 .o 2 (.mov (.t 53))])
 .ret)
 .skip)))
 (.ops [.o 54 (.fadr 0 (.t 6)),
 .o 55 (.load none (.t 54)),
 .o 4 (.mov (.t 55))]))))
 (.ops [.o 56 (.bin .add (.t 34) .w),
 .o 34 (.mov (.t 56))])))))))
 (.seq (.ops [.o 2 (.mov .z)])
 .ret)))))⟩
def fn27 : AFunc := ⟨32, 1, [(2, none)],
 (.seq (.ops [.o 2 (.mov .z)])
 (.seq (.seq (.ops [.o 7 (.mov (.t 0)),
 .o 8 (.len .sl (.t 7)),
 .o 9 (.bin .gtr (.t 8) (.c (.int .i64 8)))])
 (.cond (.t 9)
 (.seq (.ops [.o 2 (.mov (.c (.int .i64 5)))])
 .ret)
 .skip))
 (.seq (.seq (.ops [.o 10 (.mov (.t 0)),
 .o 11 (.len .sl (.t 10)),
 .o 12 (.mov .z)])
 (.block 0 (.loop (.seq (.ops [.o 13 (.bin .lss (.t 12) (.t 11))])
 (.seq (.cond (.t 13)
 .skip
 (.exit 0))
 (.seq (.block 1 (.seq (.ops [.o 14 (.mov (.t 12)),
 .o 15 (.iadr 3 (.t 10) (.t 12)),
 .o 16 (.load (some 3) (.t 15)),
 .o 4 (.box (.c (.agg [.str [], .int .i64 0, .nilSlice]))),
 .o 3 (.mov (.t 14)),
 .x (.store 3 (.t 4) (.t 16))])
 (.seq (.ops [.o 17 (.mov (.t 0)),
 .o 18 (.mov (.t 3)),
 .o 19 (.sl 3 (.t 17) none (some (.t 18))),
 .o 20 (.mkfn (.func 110) [] [(.t 4)]),
 .o 21 (.call (.f 109) [(.t 19), (.t 20)]),
 .o 5 (.mov (.t 21))])
 (.seq (.ops [.o 22 (.load (some 3) (.t 4)),
 .o 23 (.call (.f 26) [(.t 22)]),
 .o 24 (.mov (.t 5)),
 .o 25 (.call (.f 106) [(.t 24), (.c (.int .i64 9))]),
 .o 26 (.bslice 1 2 [.int .i64 0] [(0, (.t 23)), (1, (.t 25))]),
 .o 27 (.call (.f 105) [(.t 26)]),
 .o 6 (.mov (.t 27))])
 (.seq (.ops [.o 28 (.mov (.t 6)),
 .o 29 (.bin .neq (.t 28) .z)])
 (.cond (.t 29)
 (.seq (.ops [.o 30 (.mov (.t 6)),
 .o 2 (.mov (.t 30))])
 .ret)
 .skip))))))
 (.ops [.o 31 (.bin .add (.t 12) .w),
 .o 12 (.mov (.t 31))])))))))
 (.seq (.ops [.o 2 (.mov .z)])
 .ret))))⟩
def fn28 : AFunc := ⟨19, 1, [(2, none)],
 (.seq (.ops [.o 2 (.mov (.c (.nilSlice)))])
 (.seq (.ops [.o 3 (.mov (.c (.nilSlice)))])
 (.seq (.seq (.ops [.o 6 (.mov (.t 0)),
 .o 7 (.len .sl (.t 6)),
 .o 8 (.mov .z)])
 (.block 0 (.loop (.seq (.ops [.o 9 (.bin .lss (.t 8) (.t 7))])
 (.seq (.cond (.t 9)
 .skip
 (.exit 0))
 (.seq (.block 1 (.seq (.ops [.o 10 (.iadr 3 (.t 6) (.t 8)),
 .o 11 (.load (some 3) (.t 10)),
 .o 5 (.box (.c (.agg [.str [], .int .i64 0, .nilSlice]))),
 .x (.store 3 (.t 5) (.t 11))])
 (.ops [.o 12 (.mov (.t 3)),
 .o 13 (.load (some 3) (.t 5)),
 .o 14 (.call (.f 19) [(.t 13)]),
 .o 15 (.bslice 3 1 [.str [], .int .i64 0, .nilSlice] [(0, (.t 14))]),
 .o 16 (.app 3 48 (.t 12) (.t 15)),
 .o 3 (.mov (.t 16))])))
 (.ops [.o 17 (.bin .add (.t 8) .w),
 .o 8 (.mov (.t 17))])))))))
 (.seq (.ops [.o 18 (.mov (.t 3)),
 .o 2 (.mov (.t 18))])
 .ret))))⟩
def fn29 : AFunc := ⟨39, 1, [(2, none)],
 (.seq (.ops [.o 2 (.mov .z)])
 (.seq (.seq (.ops [.o 6 (.mov (.t 0)),
 .o 7 (.len .sl (.t 6)),
 .o 8 (.bin .gtr (.t 7) (.c (.int .i64 8)))])
 (.cond (.t 8)
 (.seq (.ops [.o 2 (.mov (.c (.int .i64 5)))])
 .ret)
 .skip))
 (.seq (.seq (.ops [.o 3 (.mov .z)])
 (.block 0 (.loop (.seq (.seq (.ops [.o 9 (.mov (.t 3)),
 .o 10 (.mov (.t 0)),
 .o 11 (.len .sl (.t 10)),
 .o 12 (.bin .lss (.t 9) (.t 11))])
 (.cond (.t 12)
 .skip
 (.exit 0)))
 (.seq (.block 1 (.seq (.seq (.ops [.o 15 (.mov (.t 0)),
 .o 16 (.mov (.t 3)),
 .o 17 (.iadr 3 (.t 15) (.t 16)),
 .o 18 (.load (some 3) (.t 17)),
 .o 19 (.call (.f 21) [(.t 18)]),
 .o 4 (.mov (.t 19))])
 (.seq (.ops [.o 20 (.mov (.t 4)),
 .o 21 (.bin .neq (.t 20) .z)])
 (.cond (.t 21)
 (.seq (.ops [.o 22 (.mov (.t 4)),
 .o 2 (.mov (.t 22))])
 .ret)
 .skip)))
 (.seq (.ops [.o 5 (.mov .z)])
 (.block 2 (.loop (.seq (.seq (.ops [.o 23 (.mov (.t 5)),
 .o 24 (.mov (.t 3)),
 .o 25 (.bin .lss (.t 23) (.t 24))])
 (.cond (.t 25)
 .skip
 (.exit 2)))
 (.seq (.block 3 (.seq (.ops [⟨(some 28), .mov (.t 0), none, true⟩,
 ⟨(some 29), .mov (.t 5), none, true⟩,
 ⟨(some 30), .iadr 3 (.t 28) (.t 29), none, true⟩,
 ⟨(some 31), .fadr 0 (.t 30), none, true⟩,
 ⟨(some 32), .load none (.t 31), none, true⟩,
 ⟨(some 33), .mov (.t 0), none, true⟩,
 ⟨(some 34), .mov (.t 3), none, true⟩,
 ⟨(some 35), .iadr 3 (.t 33) (.t 34), none, true⟩,
 ⟨(some 36), .fadr 0 (.t 35), none, true⟩,
 ⟨(some 37), .load none (.t 36), none, true⟩,
 .o 38 (.bin .eql (.t 32) (.t 37))])
 (.cond (.t 38)
 (.seq (.ops [.o 2 (.mov (.c (.int .i64 9)))])
 .ret)
 .skip)))
 (.ops [.o 26 (.mov (.t 5)),
 .o 27 (.bin .add (.t 26) .w),
 .o 5 (.mov (.t 27))]))))))))
 (.ops [.o 13 (.mov (.t 3)),
 .o 14 (.bin .add (.t 13) .w),
 .o 3 (.mov (.t 14))]))))))
 (.seq (.ops [.o 2 (.mov .z)])
 .ret))))⟩
def fn30 : AFunc := ⟨61, 2, [(4, some (some 3)), (5, none)],
 (.seq (.ops [.o 2 (.box (.t 0)),
 .o 3 (.box (.t 1)),
 .o 4 (.box (.c (.agg [.str [], .int .i64 0, .nilSlice]))),
 .o 5 (.mov .z)])
 (.seq (.seq (.ops [⟨(some 9), .load (some 3) (.t 2), none, true⟩,
 ⟨(some 10), .call (.f 26) [(.t 9)], none, true⟩,
 ⟨(some 11), .fadr 0 (.t 3), none, true⟩,
 ⟨(some 12), .load none (.t 11), none, true⟩,
 ⟨(some 13), .call (.f 108) [(.t 12), .z, (.c (.int .i64 255))], none, true⟩,
 ⟨(some 14), .fadr 1 (.t 3), none, true⟩,
 ⟨(some 15), .load none (.t 14), none, true⟩,
 .o 16 (.call (.f 108) [(.t 15), (.c (.int .i64 (-10000))), (.c (.int .i64 10000))]),
 .o 17 (.bslice 1 3 [.int .i64 0] [(0, (.t 10)), (1, (.t 13)), (2, (.t 16))]),
 .o 18 (.call (.f 105) [(.t 17)]),
 .o 6 (.mov (.t 18))])
 (.seq (.ops [.o 19 (.mov (.t 6)),
 .o 20 (.bin .neq (.t 19) .z)])
 (.cond (.t 20)
 (.seq (.ops [.o 21 (.build [.str [], .int .i64 0, .nilSlice] []),
 .o 22 (.mov (.t 6)),
 .x (.store 3 (.t 4) (.t 21)),
 .o 5 (.mov (.t 22))])
 .ret)
 .skip)))
 (.seq (.ops [.o 23 (.fadr 2 (.t 2)),
 .o 24 (.load none (.t 23)),
 .o 25 (.len .sl (.t 24)),
 .o 26 (.mksl 2 16 [.int .i64 0, .int .i64 0] (.t 25) (.t 25)),
 .o 7 (.mov (.t 26))])
 (.seq (.ops [.o 27 (.mov (.t 7)),
 .o 28 (.fadr 2 (.t 2)),
 .o 29 (.load none (.t 28)),
 .o 30 (.cpy 2 (.t 27) (.t 29))])
 (.seq (.seq (.ops [.o 31 (.mov (.t 7)),
 .o 32 (.len .sl (.t 31)),
 .o 33 (.mov .z)])
 (.block 0 (.loop (.seq (.ops [.o 34 (.bin .lss (.t 33) (.t 32))])
 (.seq (.cond (.t 34)
 .skip
 (.exit 0))
 (.seq (.block 1 (.seq (.ops [.o 35 (.mov (.t 33)),
 .o 8 (.mov (.t 35))])
 (.seq (.ops [⟨(some 36), .mov (.t 7), none, true⟩,
 ⟨(some 37), .mov (.t 8), none, true⟩,
 ⟨(some 38), .iadr 2 (.t 36) (.t 37), none, true⟩,
 ⟨(some 39), .fadr 0 (.t 38), none, true⟩,
 ⟨(some 40), .load none (.t 39), none, true⟩,
 ⟨(some 41), .fadr 0 (.t 3), none, true⟩,
 ⟨(some 42), .load none (.t 41), none, true⟩,
 .o 43 (.bin .geq (.t 40) (.t 42))])
 (.cond (.t 43)
 (.ops [⟨(some 44), .mov (.t 7), none, true⟩,
 ⟨(some 45), .mov (.t 8), none, true⟩,
 ⟨(some 46), .iadr 2 (.t 44) (.t 45), none, true⟩,
 ⟨(some 47), .fadr 1 (.t 46), none, true⟩,
 ⟨(some 48), .load none (.t 47), none, true⟩,
 ⟨(some 49), .fadr 1 (.t 3), none, true⟩,
 ⟨(some 50), .load none (.t 49), none, true⟩,
 .o 51 (.bin .add (.t 48) (.t 50)),
 .o 52 (.iadr 2 (.t 44) (.t 45)),
 .o 53 (.fadr 1 (.t 52)),
 .x (.store 1 (.t 53) (.t 51))])
 .skip))))
 (.ops [.o 54 (.bin .add (.t 33) .w),
 .o 33 (.mov (.t 54))])))))))
 (.seq (.seq (.ops [.o 55 (.mov (.t 7)),
 .o 56 (.call (.f 111) [(.t 55), (.f 112)])])
 (.cond (.t 56)
 (.seq (.ops [.o 57 (.build [.str [], .int .i64 0, .nilSlice] []),
 .x (.store 3 (.t 4) (.t 57)),
 .o 5 (.mov (.c (.int .i64 4)))])
 .ret)
 .skip))
 (.seq (.ops [.o 58 (.load (some 3) (.t 2)),
 .o 59 (.mov (.t 7)),
 .o 60 (.call (.f 113) [(.t 58), (.t 59)]),
 .x (.store 3 (.t 4) (.t 60)),
 .o 5 (.mov .z)])
 .ret)))))))⟩
def fn31 : AFunc := ⟨59, 2, [(4, none), (5, none)],
 (.seq (.ops [.o 2 (.box (.t 0)),
 .o 4 (.mov (.c (.nilSlice))),
 .o 5 (.mov .z)])
 (.seq (.seq (.ops [.o 12 (.load (some 3) (.t 2)),
 .o 13 (.call (.f 26) [(.t 12)]),
 .o 14 (.mov (.t 1)),
 .o 15 (.call (.f 108) [(.t 14), .z, (.c (.int .i64 100000))]),
 .o 16 (.bslice 1 2 [.int .i64 0] [(0, (.t 13)), (1, (.t 15))]),
 .o 17 (.call (.f 105) [(.t 16)]),
 .o 6 (.mov (.t 17))])
 (.seq (.ops [.o 18 (.mov (.t 6)),
 .o 19 (.bin .neq (.t 18) .z)])
 (.cond (.t 19)
 (.seq (.ops [.o 20 (.mov (.t 6)),
 .o 4 (.mov (.c (.nilSlice))),
 .o 5 (.mov (.t 20))])
 .ret)
 .skip)))
 (.seq (.ops [.o 7 (.mov (.c (.nilSlice)))])
 (.seq (.seq (.ops [.o 21 (.fadr 2 (.t 2)),
 .o 22 (.load none (.t 21)),
 .o 23 (.sl 2 (.t 22) (some .w) none),
 .o 24 (.len .sl (.t 23)),
 .o 25 (.mov .z)])
 (.block 0 (.loop (.seq (.ops [.o 26 (.bin .lss (.t 25) (.t 24))])
 (.seq (.cond (.t 26)
 .skip
 (.exit 0))
 (.seq (.block 1 (.seq (.ops [.o 27 (.mov (.t 25)),
 .o 28 (.iadr 2 (.t 23) (.t 25)),
 .o 29 (.load (some 2) (.t 28)),
 .o 9 (.box (.c (.agg [.int .i64 0, .int .i64 0]))),
 .o 8 (.mov (.t 27)),
 .x (.store 2 (.t 9) (.t 29))])
 (.seq (.ops [.o 30 (.fadr 2 (.t 2)),
 .o 31 (.load none (.t 30)),
 .o 32 (.mov (.t 8)),
 .o 33 (.iadr 2 (.t 31) (.t 32)),
 .o 34 (.load (some 2) (.t 33)),
 .o 10 (.box (.c (.agg [.int .i64 0, .int .i64 0]))),
 .x (.store 2 (.t 10) (.t 34))])
 (.seq (.ops [.o 35 (.fadr 1 (.t 9)),
 .o 36 (.load none (.t 35)),
 .o 37 (.fadr 1 (.t 10)),
 .o 38 (.load none (.t 37)),
 .o 39 (.bin .sub (.t 36) (.t 38)),
 .o 11 (.mov (.t 39))])
 (.seq (.ops [.o 40 (.mov (.t 11)),
 .o 41 (.mov (.t 11)),
 .o 42 (.un .neg (.t 41)),
 .o 43 (.mx (.t 40) [(.t 42)]),
 .o 44 (.mov (.t 1)),
 .o 45 (.fadr 0 (.t 9)),
 .o 46 (.load none (.t 45)),
 .o 47 (.fadr 0 (.t 10)),
 .o 48 (.load none (.t 47)),
 .o 49 (.bin .sub (.t 46) (.t 48)),
 .o 50 (.bin .mul (.t 44) (.t 49)),
 .o 51 (.bin .gtr (.t 43) (.t 50))])
 (.cond (.t 51)
 (.ops [.o 52 (.mov (.t 7)),
 .o 53 (.fadr 0 (.t 9)),
 .o 54 (.load none (.t 53)),
 .o 55 (.bslice 1 1 [.int .i64 0] [(0, (.t 54))]),
 .o 56 (.app 1 8 (.t 52) (.t 55)),
 .o 7 (.mov (.t 56))])
 .skip))))))
 (.ops [.o 57 (.bin .add (.t 25) .w),
 .o 25 (.mov (.t 57))])))))))
 (.seq (.ops [.o 58 (.mov (.t 7)),
 .o 4 (.mov (.t 58)),
 .o 5 (.mov .z)])
 .ret)))))⟩
def fn32 : AFunc := ⟨29, 1, [(2, some (some 3)), (3, none)],
 (.seq (.ops [.o 1 (.box (.t 0)),
 .o 2 (.box (.c (.agg [.str [], .int .i64 0, .nilSlice]))),
 .o 3 (.mov .z)])
 (.seq (.seq (.ops [.o 7 (.load (some 3) (.t 1)),
 .o 8 (.call (.f 26) [(.t 7)]),
 .o 4 (.mov (.t 8))])
 (.seq (.ops [.o 9 (.mov (.t 4)),
 .o 10 (.bin .neq (.t 9) .z)])
 (.cond (.t 10)
 (.seq (.ops [.o 11 (.build [.str [], .int .i64 0, .nilSlice] []),
 .o 12 (.mov (.t 4)),
 .x (.store 3 (.t 2) (.t 11)),
 .o 3 (.mov (.t 12))])
 .ret)
 .skip)))
 (.seq (.ops [.o 5 (.box (.c (.nilSlice)))])
 (.seq (.seq (.ops [.o 13 (.load (some 3) (.t 1)),
 .o 14 (.load (some 3) (.t 1)),
 .o 15 (.call (.f 114) [(.t 13), (.t 14)])])
 (.block 0 (.rangeF (.t 15) [16] (.ops [.o 6 (.mov (.t 16))])
 (.block 1 (.ops [⟨(some 17), .load none (.t 5), none, true⟩,
 ⟨(some 18), .mov (.t 6), none, true⟩,
 ⟨(some 19), .load (some 3) (.t 1), none, true⟩,
 ⟨(some 20), .mov (.t 6), none, true⟩,
 ⟨(some 21), .call (.f 96) [(.t 19), (.t 20)], none, true⟩,
 ⟨(some 22), .call (.f 115) [(.t 21)], none, true⟩,
 ⟨(some 23), .build [.int .i64 0, .int .i64 0] [(0, 1, (.t 18)), (1, 1, (.t 22))], none, true⟩,
 ⟨(some 24), .bslice 2 1 [.int .i64 0, .int .i64 0] [(0, (.t 23))], none, true⟩,
 .o 25 (.app 2 16 (.t 17) (.t 24)),
 .x (.store 1 (.t 5) (.t 25))])))))
 (.seq (.ops [.o 26 (.load (some 3) (.t 1)),
 .o 27 (.load none (.t 5)),
 .o 28 (.call (.f 113) [(.t 26), (.t 27)]),
 .x (.store 3 (.t 2) (.t 28)),
 .o 3 (.mov .z)])
 .ret)))))⟩
def fn33 : AFunc := ⟨5, 1, [(2, none)],
 (.seq (.ops [.o 2 (.mov .z)])
 (.seq (.ops [.o 3 (.mov (.t 0)),
 .o 4 (.call (.f 98) [(.t 3)]),
 .o 2 (.mov (.t 4))])
 .ret))⟩
def fn34 : AFunc := ⟨11, 1, [(2, none)],
 (.seq (.ops [.o 1 (.box (.t 0)),
 .o 2 (.mov .z)])
 (.seq (.ops [⟨(some 3), .fadr 0 (.t 1), none, true⟩,
 ⟨(some 4), .load none (.t 3), none, true⟩,
 ⟨(some 5), .call (.f 66) [(.t 4)], none, true⟩,
 ⟨(some 6), .fadr 1 (.t 1), none, true⟩,
 ⟨(some 7), .load none (.t 6), none, true⟩,
 .o 8 (.call (.f 35) [(.t 7), (.c (.int .i64 (-10000))), (.c (.int .i64 10000))]),
 .o 9 (.bslice 1 2 [.int .i64 0] [(0, (.t 5)), (1, (.t 8))]),
 .o 10 (.call (.f 98) [(.t 9)]),
 .o 2 (.mov (.t 10))])
 .ret))⟩
def fn35 : AFunc := ⟨16, 3, [(6, none)],
 (.seq (.ops [.o 6 (.mov .z)])
 (.seq (.ops [.o 7 (.mov (.t 0)),
 .o 8 (.mov (.t 1)),
 .o 9 (.bin .lss (.t 7) (.t 8)),
 .o 10 (.mov (.t 9)),
 ⟨(some 11), .mov (.t 0), (some (10, false)), false⟩,
 ⟨(some 12), .mov (.t 2), (some (10, false)), false⟩,
 ⟨(some 13), .bin .gtr (.t 11) (.t 12), (some (10, false)), false⟩,
 .o 14 (.pick (.t 10) (.c (.bool true)) (.t 13)),
 .o 15 (.call (.f 22) [(.t 14), (.c (.int .i64 3))]),
 .o 6 (.mov (.t 15))])
 .ret))⟩
def fn36 : AFunc := ⟨45, 2, [(4, some (some 3)), (5, none)],
 (.seq (.ops [.o 2 (.box (.t 0)),
 .o 3 (.box (.t 1)),
 .o 4 (.box (.c (.agg [.str [], .int .i64 0, .nilSlice]))),
 .o 5 (.mov .z)])
 (.seq (.ops [.o 8 (.load (some 3) (.t 2)),
 .o 9 (.call (.f 79) [(.t 8)]),
 .o 6 (.box (.c (.agg [.str [], .int .i64 0, .nilSlice]))),
 .x (.store 3 (.t 6) (.t 9))])
 (.seq (.seq (.ops [.o 7 (.mov .z)])
 (.block 0 (.loop (.seq (.seq (.ops [.o 10 (.mov (.t 7)),
 .o 11 (.fadr 2 (.t 6)),
 .o 12 (.load none (.t 11)),
 .o 13 (.len .sl (.t 12)),
 .o 14 (.bin .lss (.t 10) (.t 13))])
 (.cond (.t 14)
 .skip
 (.exit 0)))
 (.seq (.block 1 (.seq (.ops [⟨(some 17), .fadr 2 (.t 6), none, true⟩,
 ⟨(some 18), .load none (.t 17), none, true⟩,
 ⟨(some 19), .mov (.t 7), none, true⟩,
 ⟨(some 20), .iadr 2 (.t 18) (.t 19), none, true⟩,
 ⟨(some 21), .fadr 0 (.t 20), none, true⟩,
 ⟨(some 22), .load none (.t 21), none, true⟩,
 ⟨(some 23), .fadr 0 (.t 3), none, true⟩,
 ⟨(some 24), .load none (.t 23), none, true⟩,
 .o 25 (.bin .geq (.t 22) (.t 24))])
 (.cond (.t 25)
 (.ops [⟨(some 26), .fadr 2 (.t 6), none, true⟩,
 ⟨(some 27), .load none (.t 26), none, true⟩,
 ⟨(some 28), .mov (.t 7), none, true⟩,
 ⟨(some 29), .fadr 2 (.t 6), none, true⟩,
 ⟨(some 30), .load none (.t 29), none, true⟩,
 ⟨(some 31), .mov (.t 7), none, true⟩,
 ⟨(some 32), .iadr 2 (.t 30) (.t 31), none, true⟩,
 ⟨(some 33), .fadr 1 (.t 32), none, true⟩,
 ⟨(some 34), .load none (.t 33), none, true⟩,
 ⟨(some 35), .fadr 1 (.t 3), none, true⟩,
 ⟨(some 36), .load none (.t 35), none, true⟩,
 ⟨(some 37), .bin .add (.t 34) (.t 36), none, true⟩,
 .o 38 (.iadr 2 (.t 27) (.t 28)),
 .o 39 (.fadr 1 (.t 38)),
 .x (.store 1 (.t 39) (.t 37))])
 .skip)))
 (.ops [.o 15 (.mov (.t 7)),
 .o 16 (.bin .add (.t 15) .w),
 .o 7 (.mov (.t 16))]))))))
 (.seq (.seq (.ops [.o 40 (.load (some 3) (.t 6)),
 .o 41 (.call (.f 21) [(.t 40)]),
 .o 42 (.bin .neq (.t 41) .z)])
 (.cond (.t 42)
 (.seq (.ops [.o 43 (.build [.str [], .int .i64 0, .nilSlice] []),
 .x (.store 3 (.t 4) (.t 43)),
 .o 5 (.mov (.c (.int .i64 4)))])
 .ret)
 .skip))
 (.seq (.ops [.o 44 (.load (some 3) (.t 6)),
 .x (.store 3 (.t 4) (.t 44)),
 .o 5 (.mov .z)])
 .ret)))))⟩
def fn37 : AFunc := ⟨52, 2, [(4, none)],
 (.seq (.ops [.o 2 (.box (.t 0)),
 .o 4 (.mov (.c (.nilSlice)))])
 (.seq (.ops [.o 5 (.mov (.c (.nilSlice)))])
 (.seq (.seq (.ops [.o 6 (.mov .w)])
 (.block 0 (.loop (.seq (.seq (.ops [.o 9 (.mov (.t 6)),
 .o 10 (.fadr 2 (.t 2)),
 .o 11 (.load none (.t 10)),
 .o 12 (.len .sl (.t 11)),
 .o 13 (.bin .lss (.t 9) (.t 12))])
 (.cond (.t 13)
 .skip
 (.exit 0)))
 (.seq (.block 1 (.seq (.ops [⟨(some 16), .fadr 2 (.t 2), none, true⟩,
 ⟨(some 17), .load none (.t 16), none, true⟩,
 ⟨(some 18), .mov (.t 6), none, true⟩,
 ⟨(some 19), .bin .sub (.t 18) .w, none, true⟩,
 ⟨(some 20), .iadr 2 (.t 17) (.t 19), none, true⟩,
 ⟨(some 21), .load (some 2) (.t 20), none, true⟩,
 ⟨(some 22), .fadr 2 (.t 2), none, true⟩,
 ⟨(some 23), .load none (.t 22), none, true⟩,
 ⟨(some 24), .mov (.t 6), none, true⟩,
 ⟨(some 25), .iadr 2 (.t 23) (.t 24), none, true⟩,
 ⟨(some 26), .load (some 2) (.t 25), none, true⟩,
 ⟨none, .mov (.c (.bool false)), none, true⟩,
 ⟨(some 8), .box (.c (.agg [.int .i64 0, .int .i64 0])), none, true⟩,
 ⟨(some 7), .boxn 2 (.t 21), none, true⟩,
 .x (.store 2 (.t 8) (.t 26))])
 (.seq (.ops [.o 27 (.fadr 1 (.t 8)),
 .o 28 (.load none (.t 27)),
 .o 29 (.fadr 1 (.t 7)),
 .o 30 (.load none (.t 29)),
 .o 31 (.bin .sub (.t 28) (.t 30)),
 .o 32 (.fadr 1 (.t 7)),
 .o 33 (.load none (.t 32)),
 .o 34 (.fadr 1 (.t 8)),
 .o 35 (.load none (.t 34)),
 .o 36 (.bin .sub (.t 33) (.t 35)),
 .o 37 (.mx (.t 31) [(.t 36)]),
 .o 38 (.mov (.t 1)),
 .o 39 (.fadr 0 (.t 8)),
 .o 40 (.load none (.t 39)),
 .o 41 (.fadr 0 (.t 7)),
 .o 42 (.load none (.t 41)),
 .o 43 (.bin .sub (.t 40) (.t 42)),
 .o 44 (.bin .mul (.t 38) (.t 43)),
 .o 45 (.bin .gtr (.t 37) (.t 44))])
 (.cond (.t 45)
 (.ops [.o 46 (.mov (.t 5)),
 .o 47 (.fadr 0 (.t 8)),
 .o 48 (.load none (.t 47)),
 .o 49 (.bslice 1 1 [.int .i64 0] [(0, (.t 48))]),
 .o 50 (.app 1 8 (.t 46) (.t 49)),
 .o 5 (.mov (.t 50))])
 .skip))))
 (.ops [.o 14 (.mov (.t 6)),
 .o 15 (.bin .add (.t 14) .w),
 .o 6 (.mov (.t 15))]))))))
 (.seq (.ops [.o 51 (.mov (.t 5)),
 .o 4 (.mov (.t 51))])
 .ret))))⟩
def fn39 : AFunc := ⟨28, 4, [(8, none)],
 (.seq (.ops [.o 4 (.box (.t 0)),
 .o 7 (.box (.t 3)),
 .o 8 (.mov (.c (.bool false)))])
 (.seq (.seq (.ops [.o 9 (.mov (.t 2)),
 .o 10 (.bin .neq (.t 9) .z)])
 (.cond (.t 10)
 (.seq (.ops [.o 11 (.load (some 3) (.t 4)),
 .o 12 (.call (.f 68) [(.t 11)]),
 .o 13 (.build [.str [], .int .i64 0, .nilSlice] []),
 .o 14 (.call (.f 69) [(.t 12), (.t 13)]),
 .o 15 (.mov (.t 14)),
 ⟨(some 16), .mov (.t 1), (some (15, true)), false⟩,
 ⟨(some 17), .mov (.t 2), (some (15, true)), false⟩,
 ⟨(some 18), .bin .eql (.t 16) (.t 17), (some (15, true)), false⟩,
 .o 19 (.pick (.t 15) (.t 18) (.c (.bool false))),
 .o 8 (.mov (.t 19))])
 .ret)
 .skip))
 (.seq (.ops [.o 20 (.mov (.t 1)),
 .o 21 (.bin .eql (.t 20) .z),
 .o 22 (.mov (.t 21)),
 ⟨(some 23), .load (some 3) (.t 4), (some (22, true)), true⟩,
 ⟨(some 24), .call (.f 68) [(.t 23)], (some (22, true)), true⟩,
 ⟨(some 25), .load (some 3) (.t 7), (some (22, true)), true⟩,
 ⟨(some 26), .call (.f 69) [(.t 24), (.t 25)], (some (22, true)), false⟩,
 .o 27 (.pick (.t 22) (.t 26) (.c (.bool false))),
 .o 8 (.mov (.t 27))])
 .ret)))⟩
def fn40 : AFunc := ⟨26, 2, [(4, none)],
 (.seq (.ops [.o 4 (.mov (.c (.bool false)))])
 (.seq (.seq (.ops [.o 6 (.mov (.t 0)),
 .o 7 (.len .sl (.t 6)),
 .o 8 (.mov (.t 1)),
 .o 9 (.len .sl (.t 8)),
 .o 10 (.bin .neq (.t 7) (.t 9))])
 (.cond (.t 10)
 (.seq (.ops [.o 4 (.mov (.c (.bool false)))])
 .ret)
 .skip))
 (.seq (.seq (.ops [.o 5 (.mov .z)])
 (.block 0 (.loop (.seq (.seq (.ops [.o 11 (.mov (.t 5)),
 .o 12 (.mov (.t 0)),
 .o 13 (.len .sl (.t 12)),
 .o 14 (.bin .lss (.t 11) (.t 13))])
 (.cond (.t 14)
 .skip
 (.exit 0)))
 (.seq (.block 1 (.seq (.ops [⟨(some 17), .mov (.t 0), none, true⟩,
 ⟨(some 18), .mov (.t 5), none, true⟩,
 ⟨(some 19), .iadr 1 (.t 17) (.t 18), none, true⟩,
 ⟨(some 20), .load none (.t 19), none, true⟩,
 ⟨(some 21), .mov (.t 1), none, true⟩,
 ⟨(some 22), .mov (.t 5), none, true⟩,
 ⟨(some 23), .iadr 1 (.t 21) (.t 22), none, true⟩,
 ⟨(some 24), .load none (.t 23), none, true⟩,
 .o 25 (.bin .neq (.t 20) (.t 24))])
 (.cond (.t 25)
 (.seq (.ops [.o 4 (.mov (.c (.bool false)))])
 .ret)
 .skip)))
 (.ops [.o 15 (.mov (.t 5)),
 .o 16 (.bin .add (.t 15) .w),
 .o 5 (.mov (.t 16))]))))))
 (.seq (.ops [.o 4 (.mov (.c (.bool true)))])
 .ret))))⟩
def fn41 : AFunc := ⟨23, 3, [(6, none), (7, none)],
 (.seq (.ops [.o 6 (.mov (.c (.nilSlice))),
 .o 7 (.mov .z)])
 (.seq (.seq (.ops [.o 9 (.mov (.t 0)),
 .o 10 (.mov (.t 1)),
 .o 11 (.call (.f 117) [(.t 9), (.t 10)]),
 .o 8 (.mov (.t 11))])
 (.seq (.ops [.o 12 (.mov (.t 8)),
 .o 13 (.bin .neq (.t 12) .z)])
 (.cond (.t 13)
 (.seq (.ops [.o 14 (.mov (.t 8)),
 .o 6 (.mov (.c (.nilSlice))),
 .o 7 (.mov (.t 14))])
 .ret)
 .skip)))
 (.seq (.seq (.ops [.o 15 (.mov (.t 0)),
 .o 16 (.mov (.t 2)),
 .o 17 (.call (.f 118) [(.t 15), (.t 16)]),
 .o 18 (.un .not (.t 17))])
 (.cond (.t 18)
 (.seq (.ops [.o 6 (.mov (.c (.nilSlice))),
 .o 7 (.mov (.c (.int .i64 14)))])
 .ret)
 .skip))
 (.seq (.ops [.o 19 (.mov (.t 0)),
 .o 20 (.mov (.t 1)),
 .o 21 (.mov (.t 2)),
 .o 22 (.call (.f 119) [(.t 19), (.t 20), (.t 21)]),
 .o 6 (.mov (.t 22)),
 .o 7 (.mov .z)])
 .ret))))⟩
def fn42 : AFunc := ⟨6, 1, [(2, none)],
 (.seq (.ops [.o 2 (.mov (.c (.nilSlice)))])
 (.seq (.ops [.o 3 (.bslice 2 0 [.int .i64 0, .int .i64 0] []),
 .o 4 (.mov (.t 0)),
 .o 5 (.app 2 16 (.t 3) (.t 4)),
 .o 2 (.mov (.t 5))])
 .ret))⟩
def fn43 : AFunc := ⟨48, 3, [(6, none), (7, none)],
 (.seq (.ops [.o 6 (.mov (.c (.nilSlice))),
 .o 7 (.mov .z)])
 (.seq (.seq (.ops [.o 13 (.mov (.t 0)),
 .o 14 (.mov (.t 1)),
 .o 15 (.mov (.t 2)),
 .o 16 (.call (.f 120) [(.t 13), (.t 14), (.t 15)]),
 .o 8 (.mov (.t 16))])
 (.seq (.ops [.o 17 (.mov (.t 8)),
 .o 18 (.bin .neq (.t 17) .z)])
 (.cond (.t 18)
 (.seq (.ops [.o 19 (.mov (.t 8)),
 .o 6 (.mov (.c (.nilSlice))),
 .o 7 (.mov (.t 19))])
 .ret)
 .skip)))
 (.seq (.ops [.o 9 (.mov (.c (.nilSlice)))])
 (.seq (.seq (.ops [.o 20 (.mov (.t 2)),
 .o 21 (.len .sl (.t 20)),
 .o 22 (.mov .z)])
 (.block 0 (.loop (.seq (.ops [.o 23 (.bin .lss (.t 22) (.t 21))])
 (.seq (.cond (.t 23)
 .skip
 (.exit 0))
 (.seq (.block 1 (.seq (.ops [.o 24 (.mov (.t 22)),
 .o 25 (.iadr 4 (.t 20) (.t 22)),
 .o 26 (.load (some 4) (.t 25)),
 .o 11 (.box (.c (.agg [.int .i64 0, .int .i64 0, .int .i64 0, .int .i64 0]))),
 .o 10 (.mov (.t 24)),
 .x (.store 4 (.t 11) (.t 26))])
 (.seq (.ops [.o 27 (.load (some 4) (.t 11)),
 .o 28 (.mov (.t 0)),
 .o 29 (.mov (.t 1)),
 .o 30 (.call (.f 121) [(.t 27), (.t 28), (.t 29)]),
 .o 12 (.box (.c (.agg [.int .i64 0, .int .i64 0, .int .i64 0, .int .i64 0]))),
 .x (.store 4 (.t 12) (.t 30))])
 (.seq (.ops [.o 31 (.load (some 4) (.t 12)),
 .o 32 (.iada 2 2 (.t 12) .z),
 .o 33 (.load (some 2) (.t 32)),
 .o 34 (.iada 2 2 (.t 12) .z),
 .o 35 (.load (some 2) (.t 34)),
 .o 36 (.build [.int .i64 0, .int .i64 0, .int .i64 0, .int .i64 0] [(0, 2, (.t 33)), (2, 2, (.t 35))]),
 .o 37 (.eqv true (.agg [.i, .i, .i, .i]) (.t 31) (.t 36)),
 .o 38 (.mov (.t 37)),
 ⟨(some 39), .load (some 4) (.t 12), (some (38, true)), false⟩,
 ⟨(some 40), .call (.f 122) [(.t 39)], (some (38, true)), false⟩,
 .o 41 (.pick (.t 38) (.t 40) (.c (.bool false)))])
 (.cond (.t 41)
 (.ops [.o 42 (.mov (.t 9)),
 .o 43 (.mov (.t 10)),
 .o 44 (.bslice 1 1 [.int .i64 0] [(0, (.t 43))]),
 .o 45 (.app 1 8 (.t 42) (.t 44)),
 .o 9 (.mov (.t 45))])
 .skip)))))
 (.ops [.o 46 (.bin .add (.t 22) .w),
 .o 22 (.mov (.t 46))])))))))
 (.seq (.ops [.o 47 (.mov (.t 9)),
 .o 6 (.mov (.t 47)),
 .o 7 (.mov .z)])
 .ret)))))⟩
def fn45 : AFunc := ⟨45, 3, [(6, some (some 2)), (7, none)],
 (.seq (.ops [.o 3 (.box (.t 0)),
 .o 4 (.box (.t 1)),
 .o 5 (.box (.t 2)),
 .o 6 (.box (.c (.agg [.int .i64 0, .int .i64 0]))),
 .o 7 (.mov .z)])
 (.seq (.seq (.ops [.o 12 (.load none (.t 3)),
 .o 13 (.load none (.t 4)),
 .o 14 (.load none (.t 5)),
 .o 15 (.call (.f 120) [(.t 12), (.t 13), (.t 14)]),
 .o 8 (.mov (.t 15))])
 (.seq (.ops [.o 16 (.mov (.t 8)),
 .o 17 (.bin .neq (.t 16) .z)])
 (.cond (.t 17)
 (.seq (.ops [.o 18 (.build [.int .i64 0, .int .i64 0] []),
 .o 19 (.mov (.t 8)),
 .x (.store 2 (.t 6) (.t 18)),
 .o 7 (.mov (.t 19))])
 .ret)
 .skip)))
 (.seq (.ops [.o 20 (.build [.int .i64 0, .int .i64 0] [(0, 1, (.c (.int .i64 2049))), (1, 1, (.c (.int .i64 511)))]),
 .o 9 (.box (.c (.agg [.int .i64 0, .int .i64 0]))),
 .x (.store 2 (.t 9) (.t 20))])
 (.seq (.ops [.o 21 (.mkfn (.func 123) [] [(.t 5), (.t 3), (.t 4)]),
 .o 10 (.mov (.t 21))])
 (.seq (.seq (.ops [.o 11 (.mov (.c (.int .i64 512)))])
 (.block 0 (.loop (.seq (.seq (.ops [.o 22 (.mov (.t 11)),
 .o 23 (.bin .leq (.t 22) (.c (.int .i64 2048)))])
 (.cond (.t 23)
 .skip
 (.exit 0)))
 (.seq (.block 1 (.seq (.ops [.o 26 (.mov (.t 10)),
 .o 27 (.mov (.t 11)),
 .o 28 (.call (.t 26) [(.t 27)])])
 (.cond (.t 28)
 (.ops [.o 29 (.fadr 0 (.t 9)),
 .o 30 (.load none (.t 29)),
 .o 31 (.mov (.t 11)),
 .o 32 (.mn (.t 30) [(.t 31)]),
 .o 33 (.fadr 1 (.t 9)),
 .o 34 (.load none (.t 33)),
 .o 35 (.mov (.t 11)),
 .o 36 (.mx (.t 34) [(.t 35)]),
 .o 37 (.build [.int .i64 0, .int .i64 0] [(0, 1, (.t 32)), (1, 1, (.t 36))]),
 .x (.store 2 (.t 9) (.t 37))])
 .skip)))
 (.ops [.o 24 (.mov (.t 11)),
 .o 25 (.bin .add (.t 24) .w),
 .o 11 (.mov (.t 25))]))))))
 (.seq (.seq (.ops [.o 38 (.fadr 0 (.t 9)),
 .o 39 (.load none (.t 38)),
 .o 40 (.fadr 1 (.t 9)),
 .o 41 (.load none (.t 40)),
 .o 42 (.bin .gtr (.t 39) (.t 41))])
 (.cond (.t 42)
 (.seq (.ops [.o 43 (.build [.int .i64 0, .int .i64 0] []),
 .x (.store 2 (.t 6) (.t 43)),
 .o 7 (.mov (.c (.int .i64 18)))])
 .ret)
 .skip))
 (.seq (.ops [.o 44 (.load (some 2) (.t 9)),
 .x (.store 2 (.t 6) (.t 44)),
 .o 7 (.mov .z)])
 .ret)))))))⟩
def fn52 : AFunc := ⟨26, 2, [(4, none)],
 (.seq (.ops [.o 4 (.mov (.c (.bool false)))])
 (.seq (.seq (.ops [.o 6 (.mov (.t 0)),
 .o 7 (.len .sl (.t 6)),
 .o 8 (.mov (.t 1)),
 .o 9 (.len .sl (.t 8)),
 .o 10 (.bin .neq (.t 7) (.t 9))])
 (.cond (.t 10)
 (.seq (.ops [.o 4 (.mov (.c (.bool false)))])
 .ret)
 .skip))
 (.seq (.seq (.ops [.o 5 (.mov .z)])
 (.block 0 (.loop (.seq (.seq (.ops [.o 11 (.mov (.t 5)),
 .o 12 (.mov (.t 0)),
 .o 13 (.len .sl (.t 12)),
 .o 14 (.bin .lss (.t 11) (.t 13))])
 (.cond (.t 14)
 .skip
 (.exit 0)))
 (.seq (.block 1 (.seq (.ops [⟨(some 17), .mov (.t 0), none, true⟩,
 ⟨(some 18), .mov (.t 5), none, true⟩,
 ⟨(some 19), .iadr 2 (.t 17) (.t 18), none, true⟩,
 ⟨(some 20), .load (some 2) (.t 19), none, true⟩,
 ⟨(some 21), .mov (.t 1), none, true⟩,
 ⟨(some 22), .mov (.t 5), none, true⟩,
 ⟨(some 23), .iadr 2 (.t 21) (.t 22), none, true⟩,
 ⟨(some 24), .load (some 2) (.t 23), none, true⟩,
 .o 25 (.eqv true (.agg [.i, .i]) (.t 20) (.t 24))])
 (.cond (.t 25)
 (.seq (.ops [.o 4 (.mov (.c (.bool false)))])
 .ret)
 .skip)))
 (.ops [.o 15 (.mov (.t 5)),
 .o 16 (.bin .add (.t 15) .w),
 .o 5 (.mov (.t 16))]))))))
 (.seq (.ops [.o 4 (.mov (.c (.bool true)))])
 .ret))))⟩
def fn54 : AFunc := ⟨25, 2, [(4, some (some 2)), (5, none)],
 (.seq (.ops [.o 2 (.box (.t 0)),
 .o 4 (.box (.c (.agg [.int .i64 0, .int .i64 0]))),
 .o 5 (.mov .z)])
 (.seq (.seq (.ops [.o 7 (.load (some 3) (.t 2)),
 .o 8 (.mov (.t 1)),
 .o 9 (.call (.f 127) [(.t 7), (.t 8)]),
 .o 6 (.mov (.t 9))])
 (.seq (.ops [.o 10 (.mov (.t 6)),
 .o 11 (.bin .neq (.t 10) .z)])
 (.cond (.t 11)
 (.seq (.ops [.o 12 (.build [.int .i64 0, .int .i64 0] []),
 .o 13 (.mov (.t 6)),
 .x (.store 2 (.t 4) (.t 12)),
 .o 5 (.mov (.t 13))])
 .ret)
 .skip)))
 (.seq (.ops [⟨(some 14), .load (some 3) (.t 2), none, true⟩,
 ⟨(some 15), .load (some 3) (.t 2), none, true⟩,
 ⟨(some 16), .call (.f 129) [(.t 15)], none, true⟩,
 ⟨(some 17), .mov (.t 1), none, true⟩,
 ⟨(some 18), .call (.f 128) [(.t 14), (.t 16), (.t 17)], none, true⟩,
 ⟨(some 19), .load (some 3) (.t 2), none, true⟩,
 ⟨(some 20), .load (some 3) (.t 2), none, true⟩,
 ⟨(some 21), .call (.f 130) [(.t 20)], none, true⟩,
 ⟨(some 22), .mov (.t 1), none, true⟩,
 .o 23 (.call (.f 128) [(.t 19), (.t 21), (.t 22)]),
 .o 24 (.build [.int .i64 0, .int .i64 0] [(0, 1, (.t 18)), (1, 1, (.t 23))]),
 .x (.store 2 (.t 4) (.t 24)),
 .o 5 (.mov .z)])
 .ret)))⟩
def fn56 : AFunc := ⟨31, 3, [(6, none), (7, none), (8, none)],
 (.seq (.ops [.o 3 (.box (.t 0)),
 .o 6 (.mov (.c (.nilSlice))),
 .o 7 (.mov (.c (.nilSlice))),
 .o 8 (.mov .z)])
 (.seq (.seq (.ops [.o 10 (.load (some 3) (.t 3)),
 .o 11 (.mov (.t 1)),
 .o 12 (.mov (.t 2)),
 .o 13 (.call (.f 131) [(.t 10), (.t 11), (.t 12)]),
 .o 9 (.mov (.t 13))])
 (.seq (.ops [.o 14 (.mov (.t 9)),
 .o 15 (.bin .neq (.t 14) .z)])
 (.cond (.t 15)
 (.seq (.ops [.o 16 (.mov (.t 9)),
 .o 6 (.mov (.c (.nilSlice))),
 .o 7 (.mov (.c (.nilSlice))),
 .o 8 (.mov (.t 16))])
 .ret)
 .skip)))
 (.seq (.ops [⟨(some 17), .load (some 3) (.t 3), none, true⟩,
 ⟨(some 18), .load (some 3) (.t 3), none, true⟩,
 ⟨(some 19), .call (.f 130) [(.t 18)], none, true⟩,
 ⟨(some 20), .mov (.t 1), none, true⟩,
 ⟨(some 21), .mov (.t 2), none, true⟩,
 ⟨(some 22), .bin .sub (.t 21) .w, none, true⟩,
 ⟨(some 23), .call (.f 132) [(.t 17), (.t 19), (.t 20), (.t 22)], none, true⟩,
 ⟨(some 24), .load (some 3) (.t 3), none, true⟩,
 ⟨(some 25), .load (some 3) (.t 3), none, true⟩,
 ⟨(some 26), .call (.f 129) [(.t 25)], none, true⟩,
 ⟨(some 27), .mov (.t 1), none, true⟩,
 ⟨(some 28), .mov (.t 2), none, true⟩,
 ⟨(some 29), .bin .sub (.t 28) .w, none, true⟩,
 .o 30 (.call (.f 132) [(.t 24), (.t 26), (.t 27), (.t 29)]),
 .o 6 (.mov (.t 23)),
 .o 7 (.mov (.t 30)),
 .o 8 (.mov .z)])
 .ret)))⟩
def fn57 : AFunc := ⟨30, 3, [(6, some (some 2)), (7, none)],
 (.seq (.ops [.o 3 (.box (.t 0)),
 .o 6 (.box (.c (.agg [.int .i64 0, .int .i64 0]))),
 .o 7 (.mov .z)])
 (.seq (.seq (.ops [.o 9 (.load (some 3) (.t 3)),
 .o 10 (.mov (.t 1)),
 .o 11 (.mov (.t 2)),
 .o 12 (.call (.f 131) [(.t 9), (.t 10), (.t 11)]),
 .o 8 (.mov (.t 12))])
 (.seq (.ops [.o 13 (.mov (.t 8)),
 .o 14 (.bin .neq (.t 13) .z)])
 (.cond (.t 14)
 (.seq (.ops [.o 15 (.build [.int .i64 0, .int .i64 0] []),
 .o 16 (.mov (.t 8)),
 .x (.store 2 (.t 6) (.t 15)),
 .o 7 (.mov (.t 16))])
 .ret)
 .skip)))
 (.seq (.ops [⟨(some 17), .load (some 3) (.t 3), none, true⟩,
 ⟨(some 18), .load (some 3) (.t 3), none, true⟩,
 ⟨(some 19), .call (.f 130) [(.t 18)], none, true⟩,
 ⟨(some 20), .mov (.t 1), none, true⟩,
 ⟨(some 21), .mov (.t 2), none, true⟩,
 ⟨(some 22), .call (.f 133) [(.t 17), (.t 19), (.t 20), (.t 21)], none, true⟩,
 ⟨(some 23), .load (some 3) (.t 3), none, true⟩,
 ⟨(some 24), .load (some 3) (.t 3), none, true⟩,
 ⟨(some 25), .call (.f 129) [(.t 24)], none, true⟩,
 ⟨(some 26), .mov (.t 1), none, true⟩,
 ⟨(some 27), .mov (.t 2), none, true⟩,
 .o 28 (.call (.f 133) [(.t 23), (.t 25), (.t 26), (.t 27)]),
 .o 29 (.build [.int .i64 0, .int .i64 0] [(0, 1, (.t 22)), (1, 1, (.t 28))]),
 .x (.store 2 (.t 6) (.t 29)),
 .o 7 (.mov .z)])
 .ret)))⟩
def fn65 : AFunc := ⟨29, 1, [(2, none)],
 (.seq (.ops [.o 1 (.box (.t 0)),
 .o 2 (.mov .z)])
 (.seq (.seq (.ops [⟨(some 4), .fadr 0 (.t 1), none, true⟩,
 ⟨(some 5), .load none (.t 4), none, true⟩,
 ⟨(some 6), .call (.f 108) [(.t 5), .w, (.c (.int .i64 16))], none, true⟩,
 ⟨(some 7), .fadr 1 (.t 1), none, true⟩,
 ⟨(some 8), .load none (.t 7), none, true⟩,
 ⟨(some 9), .call (.f 108) [(.t 8), .w, (.c (.int .i64 16))], none, true⟩,
 ⟨(some 10), .fadr 2 (.t 1), none, true⟩,
 ⟨(some 11), .load none (.t 10), none, true⟩,
 ⟨(some 12), .len .sl (.t 11), none, true⟩,
 ⟨(some 13), .fadr 0 (.t 1), none, true⟩,
 ⟨(some 14), .load none (.t 13), none, true⟩,
 ⟨(some 15), .fadr 1 (.t 1), none, true⟩,
 ⟨(some 16), .load none (.t 15), none, true⟩,
 ⟨(some 17), .bin .mul (.t 14) (.t 16), none, true⟩,
 ⟨(some 18), .bin .neq (.t 12) (.t 17), none, true⟩,
 .o 19 (.call (.f 106) [(.t 18), (.c (.int .i64 2))]),
 .o 20 (.bslice 1 3 [.int .i64 0] [(0, (.t 6)), (1, (.t 9)), (2, (.t 19))]),
 .o 21 (.call (.f 105) [(.t 20)]),
 .o 3 (.mov (.t 21))])
 (.seq (.ops [.o 22 (.mov (.t 3)),
 .o 23 (.bin .neq (.t 22) .z)])
 (.cond (.t 23)
 (.seq (.ops [.o 24 (.mov (.t 3)),
 .o 2 (.mov (.t 24))])
 .ret)
 .skip)))
 (.seq (.ops [.o 25 (.fadr 2 (.t 1)),
 .o 26 (.load none (.t 25)),
 .o 27 (.call (.f 136) [(.t 26), (.f 137)]),
 .o 28 (.call (.f 105) [(.t 27)]),
 .o 2 (.mov (.t 28))])
 .ret)))⟩
def fn66 : AFunc := ⟨5, 1, [(2, none)],
 (.seq (.ops [.o 2 (.mov .z)])
 (.seq (.ops [.o 3 (.mov (.t 0)),
 .o 4 (.call (.f 35) [(.t 3), .z, (.c (.int .i64 255))]),
 .o 2 (.mov (.t 4))])
 .ret))⟩
def fn67 : AFunc := ⟨8, 2, [(4, some (some 2))],
 (.seq (.ops [.o 4 (.box (.c (.agg [.int .i64 0, .int .i64 0])))])
 (.seq (.ops [.o 5 (.mov (.t 0)),
 .o 6 (.mov (.t 1)),
 .o 7 (.build [.int .i64 0, .int .i64 0] [(0, 1, (.t 5)), (1, 1, (.t 6))]),
 .x (.store 2 (.t 4) (.t 7))])
 .ret))⟩
def fn68 : AFunc := ⟨26, 1, [(2, some (some 3))],
 (.seq (.ops [.o 1 (.box (.t 0)),
 .o 2 (.box (.c (.agg [.str [], .int .i64 0, .nilSlice])))])
 (.seq (.ops [.o 6 (.fadr 0 (.t 1)),
 .o 7 (.load none (.t 6)),
 .o 8 (.fadr 1 (.t 1)),
 .o 9 (.load none (.t 8)),
 .o 10 (.build [.str [], .int .i64 0, .nilSlice] [(0, 1, (.t 7)), (1, 1, (.t 9))]),
 .o 3 (.box (.c (.agg [.str [], .int .i64 0, .nilSlice]))),
 .x (.store 3 (.t 3) (.t 10))])
 (.seq (.seq (.ops [.o 11 (.fadr 2 (.t 1)),
 .o 12 (.load none (.t 11)),
 .o 13 (.len .sl (.t 12)),
 .o 14 (.mov .z)])
 (.block 0 (.loop (.seq (.ops [.o 15 (.bin .lss (.t 14) (.t 13))])
 (.seq (.cond (.t 15)
 .skip
 (.exit 0))
 (.seq (.block 1 (.seq (.ops [.o 16 (.iadr 2 (.t 12) (.t 14)),
 .o 17 (.load (some 2) (.t 16)),
 .o 5 (.box (.c (.agg [.int .i64 0, .int .i64 0]))),
 .x (.store 2 (.t 5) (.t 17))])
 (.ops [.o 18 (.fadr 2 (.t 3)),
 .o 19 (.load none (.t 18)),
 .o 20 (.load (some 2) (.t 5)),
 .o 21 (.bslice 2 1 [.int .i64 0, .int .i64 0] [(0, (.t 20))]),
 .o 22 (.app 2 16 (.t 19) (.t 21)),
 .o 23 (.fadr 2 (.t 3)),
 .x (.store 1 (.t 23) (.t 22))])))
 (.ops [.o 24 (.bin .add (.t 14) .w),
 .o 14 (.mov (.t 24))])))))))
 (.seq (.ops [.o 25 (.load (some 3) (.t 3)),
 .x (.store 3 (.t 2) (.t 25))])
 .ret))))⟩
def fn69 : AFunc := ⟨45, 2, [(4, none)],
 (.seq (.ops [.o 2 (.box (.t 0)),
 .o 3 (.box (.t 1)),
 .o 4 (.mov (.c (.bool false)))])
 (.seq (.seq (.ops [.o 6 (.fadr 0 (.t 2)),
 .o 7 (.load none (.t 6)),
 .o 8 (.fadr 0 (.t 3)),
 .o 9 (.load none (.t 8)),
 .o 10 (.bin .neq (.t 7) (.t 9)),
 .o 11 (.mov (.t 10)),
 ⟨(some 12), .fadr 1 (.t 2), (some (11, false)), false⟩,
 ⟨(some 13), .load none (.t 12), (some (11, false)), false⟩,
 ⟨(some 14), .fadr 1 (.t 3), (some (11, false)), false⟩,
 ⟨(some 15), .load none (.t 14), (some (11, false)), false⟩,
 ⟨(some 16), .bin .neq (.t 13) (.t 15), (some (11, false)), false⟩,
 .o 17 (.pick (.t 11) (.c (.bool true)) (.t 16)),
 .o 18 (.mov (.t 17)),
 ⟨(some 19), .fadr 2 (.t 2), (some (18, false)), false⟩,
 ⟨(some 20), .load none (.t 19), (some (18, false)), false⟩,
 ⟨(some 21), .len .sl (.t 20), (some (18, false)), false⟩,
 ⟨(some 22), .fadr 2 (.t 3), (some (18, false)), false⟩,
 ⟨(some 23), .load none (.t 22), (some (18, false)), false⟩,
 ⟨(some 24), .len .sl (.t 23), (some (18, false)), false⟩,
 ⟨(some 25), .bin .neq (.t 21) (.t 24), (some (18, false)), false⟩,
 .o 26 (.pick (.t 18) (.c (.bool true)) (.t 25))])
 (.cond (.t 26)
 (.seq (.ops [.o 4 (.mov (.c (.bool false)))])
 .ret)
 .skip))
 (.seq (.seq (.ops [.o 5 (.mov .z)])
 (.block 0 (.loop (.seq (.seq (.ops [.o 27 (.mov (.t 5)),
 .o 28 (.fadr 2 (.t 2)),
 .o 29 (.load none (.t 28)),
 .o 30 (.len .sl (.t 29)),
 .o 31 (.bin .lss (.t 27) (.t 30))])
 (.cond (.t 31)
 .skip
 (.exit 0)))
 (.seq (.block 1 (.seq (.ops [⟨(some 34), .fadr 2 (.t 2), none, true⟩,
 ⟨(some 35), .load none (.t 34), none, true⟩,
 ⟨(some 36), .mov (.t 5), none, true⟩,
 ⟨(some 37), .iadr 2 (.t 35) (.t 36), none, true⟩,
 ⟨(some 38), .load (some 2) (.t 37), none, true⟩,
 ⟨(some 39), .fadr 2 (.t 3), none, true⟩,
 ⟨(some 40), .load none (.t 39), none, true⟩,
 ⟨(some 41), .mov (.t 5), none, true⟩,
 ⟨(some 42), .iadr 2 (.t 40) (.t 41), none, true⟩,
 ⟨(some 43), .load (some 2) (.t 42), none, true⟩,
 .o 44 (.eqv true (.agg [.i, .i]) (.t 38) (.t 43))])
 (.cond (.t 44)
 (.seq (.ops [.o 4 (.mov (.c (.bool false)))])
 .ret)
 .skip)))
 (.ops [.o 32 (.mov (.t 5)),
 .o 33 (.bin .add (.t 32) .w),
 .o 5 (.mov (.t 33))]))))))
 (.seq (.ops [.o 4 (.mov (.c (.bool true)))])
 .ret))))⟩
def fn72 : AFunc := ⟨20, 3, [(6, none), (7, none)],
 (.seq (.ops [.o 3 (.box (.t 0)),
 .o 4 (.box (.t 1)),
 .o 6 (.mov (.c (.nilSlice))),
 .o 7 (.mov .z)])
 (.seq (.seq (.ops [.o 9 (.load (some 3) (.t 3)),
 .o 10 (.load (some 3) (.t 4)),
 .o 11 (.mov (.t 2)),
 .o 12 (.call (.f 139) [(.t 9), (.t 10), (.t 11), (.c (.int .i64 (-1000)))]),
 .o 8 (.mov (.t 12))])
 (.seq (.ops [.o 13 (.mov (.t 8)),
 .o 14 (.bin .neq (.t 13) .z)])
 (.cond (.t 14)
 (.seq (.ops [.o 15 (.mov (.t 8)),
 .o 6 (.mov (.c (.nilSlice))),
 .o 7 (.mov (.t 15))])
 .ret)
 .skip)))
 (.seq (.ops [.o 16 (.load (some 3) (.t 3)),
 .o 17 (.load (some 3) (.t 4)),
 .o 18 (.mov (.t 2)),
 .o 19 (.call (.f 140) [(.t 16), (.t 17), (.t 18)]),
 .o 6 (.mov (.t 19)),
 .o 7 (.mov .z)])
 .ret)))⟩
def fn73 : AFunc := ⟨46, 3, [(6, none), (7, none), (8, none)],
 (.seq (.ops [.o 3 (.box (.t 0)),
 .o 4 (.box (.t 1)),
 .o 6 (.mov .z),
 .o 7 (.mov (.c (.nilSlice))),
 .o 8 (.mov .z)])
 (.seq (.seq (.ops [.o 13 (.load (some 3) (.t 3)),
 .o 14 (.load (some 3) (.t 4)),
 .o 15 (.mov (.t 2)),
 .o 16 (.call (.f 139) [(.t 13), (.t 14), (.t 15), .z]),
 .o 9 (.mov (.t 16))])
 (.seq (.ops [.o 17 (.mov (.t 9)),
 .o 18 (.bin .neq (.t 17) .z)])
 (.cond (.t 18)
 (.seq (.ops [.o 19 (.mov (.t 9)),
 .o 6 (.mov .z),
 .o 7 (.mov (.c (.nilSlice))),
 .o 8 (.mov (.t 19))])
 .ret)
 .skip)))
 (.seq (.ops [.o 10 (.mov (.c (.nilSlice)))])
 (.seq (.seq (.ops [.o 20 (.mov (.t 2)),
 .o 21 (.bin .mul (.c (.int .i64 2)) (.t 20)),
 .o 22 (.bin .add (.t 21) .w),
 .o 23 (.mov .z)])
 (.block 0 (.loop (.seq (.ops [.o 24 (.bin .lss (.t 23) (.t 22))])
 (.seq (.cond (.t 24)
 .skip
 (.exit 0))
 (.seq (.block 1 (.seq (.ops [.o 25 (.mov (.t 23)),
 .o 11 (.mov (.t 25))])
 (.ops [.o 26 (.mov (.t 10)),
 .o 27 (.mov (.t 11)),
 .o 28 (.mov (.t 2)),
 .o 29 (.bin .sub (.t 27) (.t 28)),
 .o 30 (.load (some 3) (.t 3)),
 .o 31 (.load (some 3) (.t 4)),
 .o 32 (.mov (.t 11)),
 .o 33 (.mov (.t 2)),
 .o 34 (.bin .sub (.t 32) (.t 33)),
 .o 35 (.call (.f 140) [(.t 30), (.t 31), (.t 34)]),
 .o 36 (.build [.int .i64 0, .nilSlice] [(0, 1, (.t 29)), (1, 1, (.t 35))]),
 .o 37 (.bslice 2 1 [.int .i64 0, .nilSlice] [(0, (.t 36))]),
 .o 38 (.app 2 32 (.t 26) (.t 37)),
 .o 10 (.mov (.t 38))])))
 (.ops [.o 39 (.bin .add (.t 23) .w),
 .o 23 (.mov (.t 39))])))))))
 (.seq (.ops [.o 40 (.mov (.t 10)),
 .o 41 (.call (.f 141) [(.t 40), (.f 142)]),
 .o 12 (.box (.c (.agg [.int .i64 0, .nilSlice]))),
 .x (.store 2 (.t 12) (.t 41))])
 (.seq (.ops [⟨(some 42), .fadr 0 (.t 12), none, true⟩,
 ⟨(some 43), .load none (.t 42), none, true⟩,
 ⟨(some 44), .fadr 1 (.t 12), none, true⟩,
 ⟨(some 45), .load none (.t 44), none, true⟩,
 ⟨(some 6), .mov (.t 43), none, true⟩,
 .o 7 (.mov (.t 45)),
 .o 8 (.mov .z)])
 .ret))))))⟩
def fn79 : AFunc := ⟨12, 1, [(2, some (some 3))],
 (.seq (.ops [.o 1 (.box (.t 0)),
 .o 2 (.box (.c (.agg [.str [], .int .i64 0, .nilSlice])))])
 (.seq (.ops [⟨(some 3), .fadr 0 (.t 1), none, true⟩,
 ⟨(some 4), .load none (.t 3), none, true⟩,
 ⟨(some 5), .fadr 1 (.t 1), none, true⟩,
 ⟨(some 6), .load none (.t 5), none, true⟩,
 ⟨(some 7), .bslice 2 0 [.int .i64 0, .int .i64 0] [], none, true⟩,
 ⟨(some 8), .fadr 2 (.t 1), none, true⟩,
 ⟨(some 9), .load none (.t 8), none, true⟩,
 ⟨(some 10), .app 2 16 (.t 7) (.t 9), none, true⟩,
 .o 11 (.build [.str [], .int .i64 0, .nilSlice] [(0, 1, (.t 4)), (1, 1, (.t 6)), (2, 1, (.t 10))]),
 .x (.store 3 (.t 2) (.t 11))])
 .ret))⟩
def fn80 : AFunc := ⟨28, 2, [(4, none), (5, none), (6, none)],
 (.seq (.ops [.o 2 (.box (.t 0)),
 .o 3 (.box (.t 1)),
 .o 4 (.mov .z),
 .o 5 (.mov (.c (.bool false))),
 .o 6 (.mov .z)])
 (.seq (.seq (.ops [.o 10 (.load (some 3) (.t 2)),
 .o 11 (.load (some 3) (.t 3)),
 .o 12 (.call (.f 145) [(.t 10), (.t 11)]),
 .o 7 (.mov (.t 12))])
 (.seq (.ops [.o 13 (.mov (.t 7)),
 .o 14 (.bin .neq (.t 13) .z)])
 (.cond (.t 14)
 (.seq (.ops [.o 15 (.mov (.t 7)),
 .o 4 (.mov .z),
 .o 5 (.mov (.c (.bool false))),
 .o 6 (.mov (.t 15))])
 .ret)
 .skip)))
 (.seq (.seq (.ops [.o 16 (.load (some 3) (.t 2)),
 .o 17 (.load (some 3) (.t 3)),
 .o 18 (.call (.f 146) [(.t 16), (.t 17)]),
 .o 19 (.un .not (.t 18))])
 (.cond (.t 19)
 (.seq (.ops [.o 4 (.mov .z),
 .o 5 (.mov (.c (.bool false))),
 .o 6 (.mov (.c (.int .i64 7)))])
 .ret)
 .skip))
 (.seq (.ops [.o 21 (.load (some 3) (.t 2)),
 .o 22 (.load (some 3) (.t 3)),
 .o 23 (.call (.f 147) [(.t 21), (.t 22)]),
 .o 20 (.mov (.t 23)),
 .o 24 (.ext (.t 20) 0),
 .o 25 (.ext (.t 20) 1),
 .o 8 (.mov (.t 24)),
 .o 9 (.mov (.t 25))])
 (.seq (.ops [.o 26 (.mov (.t 8)),
 .o 27 (.mov (.t 9)),
 .o 4 (.mov (.t 26)),
 .o 5 (.mov (.t 27)),
 .o 6 (.mov .z)])
 .ret)))))⟩
def fn84 : AFunc := ⟨13, 1, [(2, none), (3, none)],
 (.seq (.ops [.o 2 (.mov (.c (.str []))),
 .o 3 (.mov .z)])
 (.seq (.seq (.ops [.o 5 (.mov (.t 0)),
 .o 6 (.call (.f 27) [(.t 5)]),
 .o 4 (.mov (.t 6))])
 (.seq (.ops [.o 7 (.mov (.t 4)),
 .o 8 (.bin .neq (.t 7) .z)])
 (.cond (.t 8)
 (.seq (.ops [.o 9 (.mov (.t 4)),
 .o 2 (.mov (.c (.str []))),
 .o 3 (.mov (.t 9))])
 .ret)
 .skip)))
 (.seq (.ops [.o 10 (.mov (.t 0)),
 .o 11 (.call (.f 150) [(.t 10), (.f 151)]),
 .o 12 (.call (.f 149) [(.t 11), (.c (.str []))]),
 .o 2 (.mov (.t 12)),
 .o 3 (.mov .z)])
 .ret)))⟩
def fn85 : AFunc := ⟨47, 1, [(2, some none), (3, some none), (4, some none)],
 (.seq (.ops [.o 2 (.box (.c (.nilSlice))),
 .o 3 (.box .z),
 .o 4 (.box .z)])
 (.seq (.seq (.ops [.o 13 (.mov (.t 0)),
 .o 14 (.len .st (.t 13)),
 .o 15 (.bin .gtr (.t 14) (.c (.int .i64 1000000)))])
 (.cond (.t 15)
 (.seq (.ops [.x (.store 1 (.t 2) (.c (.nilSlice))),
 .x (.store 1 (.t 3) .z),
 .x (.store 1 (.t 4) (.c (.int .i64 26)))])
 .ret)
 .skip))
 (.seq (.ops [.o 5 (.box (.c (.nilSlice)))])
 (.seq (.ops [.o 6 (.box .z),
 .x (.store 1 (.t 6) .z)])
 (.seq (.seq (.ops [.o 16 (.mov (.t 0)),
 .o 17 (.call (.f 152) [(.t 16)])])
 (.block 0 (.rangeF (.t 17) [18] (.ops [.o 7 (.mov (.t 18))])
 (.block 1 (.seq (.ops [.o 20 (.mov (.t 7)),
 .o 21 (.call (.f 153) [(.t 20), (.c (.str [10]))]),
 .o 19 (.mov (.t 21)),
 .o 22 (.ext (.t 19) 0),
 .o 23 (.ext (.t 19) 1),
 .o 8 (.mov (.t 22)),
 .o 9 (.mov (.t 23))])
 (.seq (.ops [.o 25 (.load none (.t 5)),
 .o 26 (.mov (.t 8)),
 .o 27 (.call (.f 154) [(.t 25), (.t 26)]),
 .o 24 (.mov (.t 27)),
 .o 28 (.ext (.t 24) 0),
 .o 29 (.ext (.t 24) 1),
 .o 10 (.mov (.t 28)),
 .o 11 (.mov (.t 29))])
 (.seq (.seq (.ops [.o 30 (.mov (.t 9)),
 .o 31 (.un .not (.t 30)),
 .o 32 (.mov (.t 31)),
 ⟨(some 33), .mov (.t 11), (some (32, false)), false⟩,
 ⟨(some 34), .un .not (.t 33), (some (32, false)), false⟩,
 .o 35 (.pick (.t 32) (.c (.bool true)) (.t 34))])
 (.cond (.t 35)
 (.seq (.opsS [.o 36 (.load none (.t 6)),
 .x (.store 1 (.t 2) (.c (.nilSlice))),
 .x (.store 1 (.t 3) (.t 36)),
 .x (.store 1 (.t 4) (.c (.int .i64 25)))])
 .ret)
 .skip))
 (.seq (.ops [.o 37 (.mov (.t 10)),
 .x (.store 1 (.t 5) (.t 37))])
 (.ops [.o 38 (.load none (.t 6)),
 .o 39 (.bin .add (.t 38) .w),
 .x (.store 1 (.t 6) (.t 39))])))))))))
 (.seq (.seq (.ops [.o 40 (.load none (.t 5)),
 .o 41 (.call (.f 27) [(.t 40)]),
 .o 12 (.mov (.t 41))])
 (.seq (.ops [.o 42 (.mov (.t 12)),
 .o 43 (.bin .neq (.t 42) .z)])
 (.cond (.t 43)
 (.seq (.opsS [.o 44 (.load none (.t 6)),
 .o 45 (.mov (.t 12)),
 .x (.store 1 (.t 2) (.c (.nilSlice))),
 .x (.store 1 (.t 3) (.t 44)),
 .x (.store 1 (.t 4) (.t 45))])
 .ret)
 .skip)))
 (.seq (.ops [.o 46 (.load none (.t 5)),
 .x (.store 1 (.t 2) (.t 46)),
 .x (.store 1 (.t 3) .z),
 .x (.store 1 (.t 4) .z)])
 .ret)))))))⟩
def fn86 : AFunc := ⟨66, 1, [(2, none)],
 (.seq (.ops [.o 2 (.mov (.c (.str [])))])
 (.seq (.ops [.o 3 (.mov (.c (.str [])))])
 (.seq (.seq (.ops [.o 4 (.mov .z)])
 (.block 0 (.loop (.seq (.seq (.ops [.o 6 (.mov (.t 4)),
 .o 7 (.mov (.t 0)),
 .o 8 (.len .sl (.t 7)),
 .o 9 (.bin .lss (.t 6) (.t 8))])
 (.cond (.t 9)
 .skip
 (.exit 0)))
 (.seq (.block 1 (.seq (.ops [⟨(some 12), .mov (.t 3), none, true⟩,
 ⟨(some 13), .bin .add (.t 12) (.c (.str [104, 111, 114, 105, 122, 111, 110, 32])), none, true⟩,
 ⟨(some 14), .mov (.t 0), none, true⟩,
 ⟨(some 15), .mov (.t 4), none, true⟩,
 ⟨(some 16), .iadr 3 (.t 14) (.t 15), none, true⟩,
 ⟨(some 17), .fadr 0 (.t 16), none, true⟩,
 ⟨(some 18), .load none (.t 17), none, true⟩,
 ⟨(some 19), .bin .add (.t 13) (.t 18), none, true⟩,
 ⟨(some 20), .bin .add (.t 19) (.c (.str [32])), none, true⟩,
 ⟨(some 21), .mov (.t 0), none, true⟩,
 ⟨(some 22), .mov (.t 4), none, true⟩,
 ⟨(some 23), .iadr 3 (.t 21) (.t 22), none, true⟩,
 ⟨(some 24), .fadr 1 (.t 23), none, true⟩,
 ⟨(some 25), .load none (.t 24), none, true⟩,
 ⟨(some 26), .call (.f 155) [(.t 25)], none, true⟩,
 .o 27 (.bin .add (.t 20) (.t 26)),
 .o 28 (.bin .add (.t 27) (.c (.str [10]))),
 .o 3 (.mov (.t 28))])
 (.seq (.ops [.o 5 (.mov .z)])
 (.block 2 (.loop (.seq (.seq (.ops [.o 29 (.mov (.t 5)),
 .o 30 (.mov (.t 0)),
 .o 31 (.mov (.t 4)),
 .o 32 (.iadr 3 (.t 30) (.t 31)),
 .o 33 (.fadr 2 (.t 32)),
 .o 34 (.load none (.t 33)),
 .o 35 (.len .sl (.t 34)),
 .o 36 (.bin .lss (.t 29) (.t 35))])
 (.cond (.t 36)
 .skip
 (.exit 2)))
 (.seq (.block 3 (.ops [⟨(some 39), .mov (.t 3), none, true⟩,
 ⟨(some 40), .bin .add (.t 39) (.c (.str [112, 105, 99, 107, 32])), none, true⟩,
 ⟨(some 41), .mov (.t 0), none, true⟩,
 ⟨(some 42), .mov (.t 4), none, true⟩,
 ⟨(some 43), .iadr 3 (.t 41) (.t 42), none, true⟩,
 ⟨(some 44), .fadr 2 (.t 43), none, true⟩,
 ⟨(some 45), .load none (.t 44), none, true⟩,
 ⟨(some 46), .mov (.t 5), none, true⟩,
 ⟨(some 47), .iadr 2 (.t 45) (.t 46), none, true⟩,
 ⟨(some 48), .fadr 0 (.t 47), none, true⟩,
 ⟨(some 49), .load none (.t 48), none, true⟩,
 ⟨(some 50), .call (.f 155) [(.t 49)], none, true⟩,
 ⟨(some 51), .bin .add (.t 40) (.t 50), none, true⟩,
 ⟨(some 52), .bin .add (.t 51) (.c (.str [32])), none, true⟩,
 ⟨(some 53), .mov (.t 0), none, true⟩,
 ⟨(some 54), .mov (.t 4), none, true⟩,
 ⟨(some 55), .iadr 3 (.t 53) (.t 54), none, true⟩,
 ⟨(some 56), .fadr 2 (.t 55), none, true⟩,
 ⟨(some 57), .load none (.t 56), none, true⟩,
 ⟨(some 58), .mov (.t 5), none, true⟩,
 ⟨(some 59), .iadr 2 (.t 57) (.t 58), none, true⟩,
 ⟨(some 60), .fadr 1 (.t 59), none, true⟩,
 ⟨(some 61), .load none (.t 60), none, true⟩,
 ⟨(some 62), .call (.f 155) [(.t 61)], none, true⟩,
 .o 63 (.bin .add (.t 52) (.t 62)),
 .o 64 (.bin .add (.t 63) (.c (.str [10]))),
 .o 3 (.mov (.t 64))]))
 (.ops [.o 37 (.mov (.t 5)),
 .o 38 (.bin .add (.t 37) .w),
 .o 5 (.mov (.t 38))]))))))))
 (.ops [.o 10 (.mov (.t 4)),
 .o 11 (.bin .add (.t 10) .w),
 .o 4 (.mov (.t 11))]))))))
 (.seq (.ops [.o 65 (.mov (.t 3)),
 .o 2 (.mov (.t 65))])
 .ret))))⟩
def fn87 : AFunc := ⟨55, 1, [(2, none), (3, none), (4, none)],
 (.seq (.ops [.o 2 (.mov (.c (.nilSlice))),
 .o 3 (.mov .z),
 .o 4 (.mov .z)])
 (.seq (.seq (.ops [.o 11 (.mov (.t 0)),
 .o 12 (.len .st (.t 11)),
 .o 13 (.bin .gtr (.t 12) (.c (.int .i64 1000000)))])
 (.cond (.t 13)
 (.seq (.ops [.o 2 (.mov (.c (.nilSlice))),
 .o 3 (.mov .z),
 .o 4 (.mov (.c (.int .i64 26)))])
 .ret)
 .skip))
 (.seq (.ops [.o 5 (.mov (.c (.nilSlice)))])
 (.seq (.ops [.o 14 (.mov (.t 0)),
 .o 15 (.call (.f 90) [(.t 14), (.c (.int .u8 10))]),
 .o 6 (.mov (.t 15))])
 (.seq (.seq (.ops [.o 7 (.mov .z)])
 (.block 0 (.loop (.seq (.seq (.ops [.o 16 (.mov (.t 7)),
 .o 17 (.mov (.t 6)),
 .o 18 (.len .sl (.t 17)),
 .o 19 (.bin .lss (.t 16) (.t 18))])
 (.cond (.t 19)
 .skip
 (.exit 0)))
 (.seq (.block 1 (.seq (.seq (.ops [.o 22 (.mov (.t 7)),
 .o 23 (.mov (.t 6)),
 .o 24 (.len .sl (.t 23)),
 .o 25 (.bin .sub (.t 24) .w),
 .o 26 (.bin .eql (.t 22) (.t 25))])
 (.cond (.t 26)
 (.seq (.seq (.ops [.o 27 (.mov (.t 6)),
 .o 28 (.mov (.t 7)),
 .o 29 (.iadr 1 (.t 27) (.t 28)),
 .o 30 (.load none (.t 29)),
 .o 31 (.bin .neq (.t 30) (.c (.str [])))])
 (.cond (.t 31)
 (.seq (.ops [.o 32 (.mov (.t 7)),
 .o 2 (.mov (.c (.nilSlice))),
 .o 3 (.mov (.t 32)),
 .o 4 (.mov (.c (.int .i64 25)))])
 .ret)
 .skip))
 (.exit 1))
 .skip))
 (.seq (.ops [.o 34 (.mov (.t 5)),
 .o 35 (.mov (.t 6)),
 .o 36 (.mov (.t 7)),
 .o 37 (.iadr 1 (.t 35) (.t 36)),
 .o 38 (.load none (.t 37)),
 .o 39 (.call (.f 156) [(.t 34), (.t 38)]),
 .o 33 (.mov (.t 39)),
 .o 40 (.ext (.t 33) 0),
 .o 41 (.ext (.t 33) 1),
 .o 8 (.mov (.t 40)),
 .o 9 (.mov (.t 41))])
 (.seq (.seq (.ops [.o 42 (.mov (.t 9)),
 .o 43 (.un .not (.t 42))])
 (.cond (.t 43)
 (.seq (.ops [.o 44 (.mov (.t 7)),
 .o 2 (.mov (.c (.nilSlice))),
 .o 3 (.mov (.t 44)),
 .o 4 (.mov (.c (.int .i64 25)))])
 .ret)
 .skip))
 (.ops [.o 45 (.mov (.t 8)),
 .o 5 (.mov (.t 45))])))))
 (.ops [.o 20 (.mov (.t 7)),
 .o 21 (.bin .add (.t 20) .w),
 .o 7 (.mov (.t 21))]))))))
 (.seq (.seq (.ops [.o 46 (.mov (.t 5)),
 .o 47 (.call (.f 29) [(.t 46)]),
 .o 10 (.mov (.t 47))])
 (.seq (.ops [.o 48 (.mov (.t 10)),
 .o 49 (.bin .neq (.t 48) .z)])
 (.cond (.t 49)
 (.seq (.ops [.o 50 (.mov (.t 6)),
 .o 51 (.len .sl (.t 50)),
 .o 52 (.bin .sub (.t 51) .w),
 .o 53 (.mov (.t 10)),
 .o 2 (.mov (.c (.nilSlice))),
 .o 3 (.mov (.t 52)),
 .o 4 (.mov (.t 53))])
 .ret)
 .skip)))
 (.seq (.ops [.o 54 (.mov (.t 5)),
 .o 2 (.mov (.t 54)),
 .o 3 (.mov .z),
 .o 4 (.mov .z)])
 .ret)))))))⟩
def fn88 : AFunc := ⟨27, 2, [(4, none)],
 (.seq (.ops [.o 4 (.mov (.c (.bool false)))])
 (.seq (.seq (.ops [.o 6 (.mov (.t 0)),
 .o 7 (.len .sl (.t 6)),
 .o 8 (.mov (.t 1)),
 .o 9 (.len .sl (.t 8)),
 .o 10 (.bin .neq (.t 7) (.t 9))])
 (.cond (.t 10)
 (.seq (.ops [.o 4 (.mov (.c (.bool false)))])
 .ret)
 .skip))
 (.seq (.seq (.ops [.o 5 (.mov .z)])
 (.block 0 (.loop (.seq (.seq (.ops [.o 11 (.mov (.t 5)),
 .o 12 (.mov (.t 0)),
 .o 13 (.len .sl (.t 12)),
 .o 14 (.bin .lss (.t 11) (.t 13))])
 (.cond (.t 14)
 .skip
 (.exit 0)))
 (.seq (.block 1 (.seq (.ops [⟨(some 17), .mov (.t 0), none, true⟩,
 ⟨(some 18), .mov (.t 5), none, true⟩,
 ⟨(some 19), .iadr 3 (.t 17) (.t 18), none, true⟩,
 ⟨(some 20), .load (some 3) (.t 19), none, true⟩,
 ⟨(some 21), .mov (.t 1), none, true⟩,
 ⟨(some 22), .mov (.t 5), none, true⟩,
 ⟨(some 23), .iadr 3 (.t 21) (.t 22), none, true⟩,
 ⟨(some 24), .load (some 3) (.t 23), none, true⟩,
 .o 25 (.call (.f 69) [(.t 20), (.t 24)]),
 .o 26 (.un .not (.t 25))])
 (.cond (.t 26)
 (.seq (.ops [.o 4 (.mov (.c (.bool false)))])
 .ret)
 .skip)))
 (.ops [.o 15 (.mov (.t 5)),
 .o 16 (.bin .add (.t 15) .w),
 .o 5 (.mov (.t 16))]))))))
 (.seq (.ops [.o 4 (.mov (.c (.bool true)))])
 .ret))))⟩
def fn89 : AFunc := ⟨19, 1, [(2, none)],
 (.seq (.ops [.o 2 (.mov (.c (.nilSlice)))])
 (.seq (.ops [.o 3 (.mov (.c (.nilSlice)))])
 (.seq (.seq (.ops [.o 6 (.mov (.t 0)),
 .o 7 (.len .sl (.t 6)),
 .o 8 (.mov .z)])
 (.block 0 (.loop (.seq (.ops [.o 9 (.bin .lss (.t 8) (.t 7))])
 (.seq (.cond (.t 9)
 .skip
 (.exit 0))
 (.seq (.block 1 (.seq (.ops [.o 10 (.iadr 3 (.t 6) (.t 8)),
 .o 11 (.load (some 3) (.t 10)),
 .o 5 (.box (.c (.agg [.str [], .int .i64 0, .nilSlice]))),
 .x (.store 3 (.t 5) (.t 11))])
 (.ops [.o 12 (.mov (.t 3)),
 .o 13 (.load (some 3) (.t 5)),
 .o 14 (.call (.f 68) [(.t 13)]),
 .o 15 (.bslice 3 1 [.str [], .int .i64 0, .nilSlice] [(0, (.t 14))]),
 .o 16 (.app 3 48 (.t 12) (.t 15)),
 .o 3 (.mov (.t 16))])))
 (.ops [.o 17 (.bin .add (.t 8) .w),
 .o 8 (.mov (.t 17))])))))))
 (.seq (.ops [.o 18 (.mov (.t 3)),
 .o 2 (.mov (.t 18))])
 .ret))))⟩
def fn90 : AFunc := ⟨40, 2, [(4, none)],
 (.seq (.ops [.o 4 (.mov (.c (.nilSlice)))])
 (.seq (.ops [.o 7 (.bslice 1 1 [.str []] [(0, (.c (.str [])))]),
 .o 5 (.mov (.t 7))])
 (.seq (.seq (.ops [.o 6 (.mov .z)])
 (.block 0 (.loop (.seq (.seq (.ops [.o 8 (.mov (.t 6)),
 .o 9 (.mov (.t 0)),
 .o 10 (.len .st (.t 9)),
 .o 11 (.bin .lss (.t 8) (.t 10))])
 (.cond (.t 11)
 .skip
 (.exit 0)))
 (.seq (.block 1 (.seq (.seq (.ops [.o 14 (.mov (.t 0)),
 .o 15 (.mov (.t 6)),
 .o 16 (.ixs (.t 14) (.t 15)),
 .o 17 (.mov (.t 1)),
 .o 18 (.bin .eql (.t 16) (.t 17))])
 (.cond (.t 18)
 (.seq (.ops [.o 19 (.mov (.t 5)),
 .o 20 (.bslice 1 1 [.str []] [(0, (.c (.str [])))]),
 .o 21 (.app 1 16 (.t 19) (.t 20)),
 .o 5 (.mov (.t 21))])
 (.exit 1))
 .skip))
 (.ops [⟨(some 22), .mov (.t 5), none, true⟩,
 ⟨(some 23), .mov (.t 5), none, true⟩,
 ⟨(some 24), .len .sl (.t 23), none, true⟩,
 ⟨(some 25), .bin .sub (.t 24) .w, none, true⟩,
 ⟨(some 26), .mov (.t 5), none, true⟩,
 ⟨(some 27), .mov (.t 5), none, true⟩,
 ⟨(some 28), .len .sl (.t 27), none, true⟩,
 ⟨(some 29), .bin .sub (.t 28) .w, none, true⟩,
 ⟨(some 30), .iadr 1 (.t 26) (.t 29), none, true⟩,
 ⟨(some 31), .load none (.t 30), none, true⟩,
 ⟨(some 32), .mov (.t 0), none, true⟩,
 ⟨(some 33), .mov (.t 6), none, true⟩,
 ⟨(some 34), .mov (.t 6), none, true⟩,
 ⟨(some 35), .bin .add (.t 34) .w, none, true⟩,
 ⟨(some 36), .sls (.t 32) (some (.t 33)) (some (.t 35)), none, true⟩,
 ⟨(some 37), .bin .add (.t 31) (.t 36), none, true⟩,
 .o 38 (.iadr 1 (.t 22) (.t 25)),
 .x (.store 1 (.t 38) (.t 37))])))
 (.ops [.o 12 (.mov (.t 6)),
 .o 13 (.bin .add (.t 12) .w),
 .o 6 (.mov (.t 13))]))))))
 (.seq (.ops [.o 39 (.mov (.t 5)),
 .o 4 (.mov (.t 39))])
 .ret))))⟩
def fn91 : AFunc := ⟨35, 3, [(6, some (some 3))],
 (.seq (.ops [.o 6 (.box (.c (.agg [.str [], .int .i64 0, .nilSlice])))])
 (.seq (.ops [.o 9 (.mov (.t 0)),
 .o 10 (.mov (.t 1)),
 .o 11 (.build [.str [], .int .i64 0, .nilSlice] [(0, 1, (.t 9)), (1, 1, (.t 10))]),
 .o 7 (.box (.c (.agg [.str [], .int .i64 0, .nilSlice]))),
 .x (.store 3 (.t 7) (.t 11))])
 (.seq (.seq (.ops [.o 8 (.mov .z)])
 (.block 0 (.loop (.seq (.seq (.ops [.o 12 (.mov (.t 8)),
 .o 13 (.bin .add (.t 12) .w),
 .o 14 (.mov (.t 2)),
 .o 15 (.len .sl (.t 14)),
 .o 16 (.bin .lss (.t 13) (.t 15))])
 (.cond (.t 16)
 .skip
 (.exit 0)))
 (.seq (.block 1 (.ops [⟨(some 19), .fadr 2 (.t 7), none, true⟩,
 ⟨(some 20), .load none (.t 19), none, true⟩,
 ⟨(some 21), .mov (.t 2), none, true⟩,
 ⟨(some 22), .mov (.t 8), none, true⟩,
 ⟨(some 23), .iadr 1 (.t 21) (.t 22), none, true⟩,
 ⟨(some 24), .load none (.t 23), none, true⟩,
 ⟨(some 25), .mov (.t 2), none, true⟩,
 ⟨(some 26), .mov (.t 8), none, true⟩,
 ⟨(some 27), .bin .add (.t 26) .w, none, true⟩,
 ⟨(some 28), .iadr 1 (.t 25) (.t 27), none, true⟩,
 ⟨(some 29), .load none (.t 28), none, true⟩,
 ⟨(some 30), .build [.int .i64 0, .int .i64 0] [(0, 1, (.t 24)), (1, 1, (.t 29))], none, true⟩,
 ⟨(some 31), .bslice 2 1 [.int .i64 0, .int .i64 0] [(0, (.t 30))], none, true⟩,
 .o 32 (.app 2 16 (.t 20) (.t 31)),
 .o 33 (.fadr 2 (.t 7)),
 .x (.store 1 (.t 33) (.t 32))]))
 (.ops [.o 17 (.mov (.t 8)),
 .o 18 (.bin .add (.t 17) (.c (.int .i64 2))),
 .o 8 (.mov (.t 18))]))))))
 (.seq (.ops [.o 34 (.load (some 3) (.t 7)),
 .x (.store 3 (.t 6) (.t 34))])
 .ret))))⟩
def fn92 : AFunc := ⟨6, 0, [(0, none)],
 (.seq (.ops [.o 0 (.mov (.c (.nilSlice)))])
 (.seq (.ops [.o 1 (.bslice 1 4 [.int .i64 0] [(0, .z), (1, (.c (.int .i64 10))), (2, (.c (.int .i64 4))), (3, (.c (.int .i64 10)))]),
 .o 2 (.call (.f 91) [(.c (.str [117])), .w, (.t 1)]),
 .o 3 (.bslice 1 4 [.int .i64 0] [(0, .z), (1, (.c (.int .i64 20))), (2, (.c (.int .i64 4))), (3, (.c (.int .i64 28)))]),
 .o 4 (.call (.f 91) [(.c (.str [119])), (.c (.int .i64 2)), (.t 3)]),
 .o 5 (.bslice 3 2 [.str [], .int .i64 0, .nilSlice] [(0, (.t 2)), (3, (.t 4))]),
 .o 0 (.mov (.t 5))])
 .ret))⟩
def fn93 : AFunc := ⟨4, 0, [(0, none)],
 (.seq (.ops [.o 0 (.mov (.c (.nilSlice)))])
 (.seq (.ops [.o 1 (.call (.f 67) [(.c (.int .i64 2)), (.c (.int .i64 3))]),
 .o 2 (.call (.f 67) [(.c (.int .i64 4)), (.c (.int .i64 4))]),
 .o 3 (.bslice 2 2 [.int .i64 0, .int .i64 0] [(0, (.t 1)), (2, (.t 2))]),
 .o 0 (.mov (.t 3))])
 .ret))⟩
def fn94 : AFunc := ⟨12, 0, [(0, some (some 3))],
 (.seq (.ops [.o 0 (.box (.c (.agg [.int .i64 0, .int .i64 0, .nilSlice])))])
 (.seq (.ops [.o 1 (.call (.f 67) [(.c (.int .i64 9)), (.c (.int .i64 9))]),
 .o 2 (.call (.f 67) [(.c (.int .i64 9)), (.c (.int .i64 9))]),
 .o 3 (.call (.f 67) [(.c (.int .i64 9)), (.c (.int .i64 9))]),
 .o 4 (.call (.f 67) [(.c (.int .i64 9)), (.c (.int .i64 9))]),
 .o 5 (.call (.f 67) [(.c (.int .i64 5)), (.c (.int .i64 6))]),
 .o 6 (.call (.f 67) [(.c (.int .i64 8)), (.c (.int .i64 8))]),
 .o 7 (.call (.f 67) [(.c (.int .i64 9)), (.c (.int .i64 9))]),
 .o 8 (.call (.f 67) [(.c (.int .i64 9)), (.c (.int .i64 9))]),
 .o 9 (.call (.f 67) [(.c (.int .i64 9)), (.c (.int .i64 9))]),
 .o 10 (.bslice 2 9 [.int .i64 0, .int .i64 0] [(0, (.t 1)), (2, (.t 2)), (4, (.t 3)), (6, (.t 4)), (8, (.t 5)), (10, (.t 6)), (12, (.t 7)), (14, (.t 8)), (16, (.t 9))]),
 .o 11 (.build [.int .i64 0, .int .i64 0, .nilSlice] [(0, 1, (.c (.int .i64 3))), (1, 1, (.c (.int .i64 3))), (2, 1, (.t 10))]),
 .x (.store 3 (.t 0) (.t 11))])
 .ret))⟩
def fn95 : AFunc := ⟨16, 2, [(4, none)],
 (.seq (.ops [.o 2 (.box (.t 0)),
 .o 4 (.mov .z)])
 (.seq (.seq (.ops [.o 6 (.load (some 3) (.t 2)),
 .o 7 (.call (.f 26) [(.t 6)]),
 .o 5 (.mov (.t 7))])
 (.seq (.ops [.o 8 (.mov (.t 5)),
 .o 9 (.bin .neq (.t 8) .z)])
 (.cond (.t 9)
 (.seq (.ops [.o 10 (.mov (.t 5)),
 .o 4 (.mov (.t 10))])
 .ret)
 .skip)))
 (.seq (.ops [.o 11 (.load (some 3) (.t 2)),
 .o 12 (.mov (.t 1)),
 .o 13 (.call (.f 157) [(.t 11), (.t 12)]),
 .o 14 (.un .not (.t 13)),
 .o 15 (.call (.f 106) [(.t 14), (.c (.int .i64 14))]),
 .o 4 (.mov (.t 15))])
 .ret)))⟩
def fn96 : AFunc := ⟨55, 2, [(4, some (some 2))],
 (.seq (.ops [.o 2 (.box (.t 0)),
 .o 3 (.box (.t 1)),
 .o 4 (.box (.c (.agg [.int .i64 0, .int .i64 0])))])
 (.seq (.ops [.o 9 (.fadr 2 (.t 2)),
 .o 10 (.load none (.t 9)),
 .o 11 (.mkfn (.func 159) [] [(.t 3)]),
 .o 12 (.call (.f 158) [(.t 10), (.t 11)]),
 .o 5 (.mov (.t 12))])
 (.seq (.ops [.o 13 (.fadr 2 (.t 2)),
 .o 14 (.load none (.t 13)),
 .o 15 (.mov (.t 5)),
 .o 16 (.iadr 2 (.t 14) (.t 15)),
 .o 17 (.load (some 2) (.t 16)),
 .o 6 (.box (.c (.agg [.int .i64 0, .int .i64 0]))),
 .x (.store 2 (.t 6) (.t 17))])
 (.seq (.seq (.ops [.o 18 (.load (some 2) (.t 6)),
 .o 19 (.load none (.t 3)),
 .o 20 (.fadr 1 (.t 6)),
 .o 21 (.load none (.t 20)),
 .o 22 (.build [.int .i64 0, .int .i64 0] [(0, 1, (.t 19)), (1, 1, (.t 21))]),
 .o 23 (.eqv false (.agg [.i, .i]) (.t 18) (.t 22))])
 (.cond (.t 23)
 (.seq (.ops [.o 24 (.fadr 1 (.t 6)),
 .o 25 (.load none (.t 24)),
 .o 26 (.build [.int .i64 0, .int .i64 0] [(0, 1, (.t 25)), (1, 1, .w)]),
 .x (.store 2 (.t 4) (.t 26))])
 .ret)
 .skip))
 (.seq (.ops [.o 27 (.fadr 2 (.t 2)),
 .o 28 (.load none (.t 27)),
 .o 29 (.mov (.t 5)),
 .o 30 (.bin .sub (.t 29) .w),
 .o 31 (.iadr 2 (.t 28) (.t 30)),
 .o 32 (.load (some 2) (.t 31)),
 .o 7 (.box (.c (.agg [.int .i64 0, .int .i64 0]))),
 .x (.store 2 (.t 7) (.t 32))])
 (.seq (.ops [.o 33 (.fadr 0 (.t 6)),
 .o 34 (.load none (.t 33)),
 .o 35 (.fadr 0 (.t 7)),
 .o 36 (.load none (.t 35)),
 .o 37 (.bin .sub (.t 34) (.t 36)),
 .o 8 (.mov (.t 37))])
 (.seq (.ops [.o 38 (.fadr 1 (.t 7)),
 .o 39 (.load none (.t 38)),
 .o 40 (.mov (.t 8)),
 .o 41 (.bin .mul (.t 39) (.t 40)),
 .o 42 (.fadr 1 (.t 6)),
 .o 43 (.load none (.t 42)),
 .o 44 (.fadr 1 (.t 7)),
 .o 45 (.load none (.t 44)),
 .o 46 (.bin .sub (.t 43) (.t 45)),
 .o 47 (.load none (.t 3)),
 .o 48 (.fadr 0 (.t 7)),
 .o 49 (.load none (.t 48)),
 .o 50 (.bin .sub (.t 47) (.t 49)),
 .o 51 (.bin .mul (.t 46) (.t 50)),
 .o 52 (.bin .add (.t 41) (.t 51)),
 .o 53 (.mov (.t 8)),
 .o 54 (.call (.f 160) [(.t 52), (.t 53)]),
 .x (.store 2 (.t 4) (.t 54))])
 .ret)))))))⟩
def fn97 : AFunc := ⟨20, 2, [(4, some (some 2))],
 (.seq (.ops [.o 2 (.box (.t 0)),
 .o 4 (.box (.c (.agg [.int .i64 0, .int .i64 0])))])
 (.seq (.ops [.o 6 (.load (some 3) (.t 2)),
 .o 7 (.mov (.t 1)),
 .o 8 (.call (.f 96) [(.t 6), (.t 7)]),
 .o 5 (.box (.c (.agg [.int .i64 0, .int .i64 0]))),
 .x (.store 2 (.t 5) (.t 8))])
 (.seq (.ops [⟨(some 9), .load (some 2) (.t 5), none, true⟩,
 ⟨(some 10), .call (.f 161) [(.t 9)], none, true⟩,
 ⟨(some 11), .fadr 1 (.t 2), none, true⟩,
 ⟨(some 12), .load none (.t 11), none, true⟩,
 ⟨(some 13), .bin .sub (.t 10) (.t 12), none, true⟩,
 ⟨(some 14), .load (some 2) (.t 5), none, true⟩,
 ⟨(some 15), .call (.f 162) [(.t 14)], none, true⟩,
 ⟨(some 16), .fadr 1 (.t 2), none, true⟩,
 ⟨(some 17), .load none (.t 16), none, true⟩,
 ⟨(some 18), .bin .add (.t 15) (.t 17), none, true⟩,
 .o 19 (.build [.int .i64 0, .int .i64 0] [(0, 1, (.t 13)), (1, 1, (.t 18))]),
 .x (.store 2 (.t 4) (.t 19))])
 .ret)))⟩
def fn98 : AFunc := ⟨19, 1, [(2, none)],
 (.seq (.ops [.o 2 (.mov .z)])
 (.seq (.seq (.ops [.o 3 (.mov .z)])
 (.block 0 (.loop (.seq (.seq (.ops [.o 4 (.mov (.t 3)),
 .o 5 (.mov (.t 0)),
 .o 6 (.len .sl (.t 5)),
 .o 7 (.bin .lss (.t 4) (.t 6))])
 (.cond (.t 7)
 .skip
 (.exit 0)))
 (.seq (.block 1 (.seq (.ops [.o 10 (.mov (.t 0)),
 .o 11 (.mov (.t 3)),
 .o 12 (.iadr 1 (.t 10) (.t 11)),
 .o 13 (.load none (.t 12)),
 .o 14 (.bin .neq (.t 13) .z)])
 (.cond (.t 14)
 (.seq (.ops [.o 15 (.mov (.t 0)),
 .o 16 (.mov (.t 3)),
 .o 17 (.iadr 1 (.t 15) (.t 16)),
 .o 18 (.load none (.t 17)),
 .o 2 (.mov (.t 18))])
 .ret)
 .skip)))
 (.ops [.o 8 (.mov (.t 3)),
 .o 9 (.bin .add (.t 8) .w),
 .o 3 (.mov (.t 9))]))))))
 (.seq (.ops [.o 2 (.mov .z)])
 .ret)))⟩
def fn99 : AFunc := ⟨7, 1, [(2, none)],
 (.seq (.ops [.o 2 (.mov .z)])
 (.seq (.ops [.o 3 (.mov (.t 0)),
 .o 4 (.call (.f 163) [(.t 3)]),
 .o 5 (.un .not (.t 4)),
 .o 6 (.call (.f 22) [(.t 5), (.c (.int .i64 8))]),
 .o 2 (.mov (.t 6))])
 .ret))⟩
def fn100 : AFunc := ⟨8, 1, [(2, none)],
 (.seq (.ops [.o 1 (.box (.t 0)),
 .o 2 (.mov .z)])
 (.seq (.ops [.o 3 (.fadr 2 (.t 1)),
 .o 4 (.load none (.t 3)),
 .o 5 (.iadr 2 (.t 4) .z),
 .o 6 (.fadr 0 (.t 5)),
 .o 7 (.load none (.t 6)),
 .o 2 (.mov (.t 7))])
 .ret))⟩
def fn101 : AFunc := ⟨12, 1, [(2, none)],
 (.seq (.ops [.o 1 (.box (.t 0)),
 .o 2 (.mov .z)])
 (.seq (.ops [.o 3 (.fadr 2 (.t 1)),
 .o 4 (.load none (.t 3)),
 .o 5 (.fadr 2 (.t 1)),
 .o 6 (.load none (.t 5)),
 .o 7 (.len .sl (.t 6)),
 .o 8 (.bin .sub (.t 7) .w),
 .o 9 (.iadr 2 (.t 4) (.t 8)),
 .o 10 (.fadr 0 (.t 9)),
 .o 11 (.load none (.t 10)),
 .o 2 (.mov (.t 11))])
 .ret))⟩
def fn102 : AFunc := ⟨22, 2, [(4, some (some 2))],
 (.seq (.ops [.o 4 (.box (.c (.agg [.int .i64 0, .int .i64 0])))])
 (.seq (.seq (.ops [.o 6 (.mov (.t 1)),
 .o 7 (.bin .lss (.t 6) .z)])
 (.cond (.t 7)
 (.ops [.o 8 (.mov (.t 0)),
 .o 9 (.bin .sub .z (.t 8)),
 .o 10 (.mov (.t 1)),
 .o 11 (.bin .sub .z (.t 10)),
 .o 0 (.mov (.t 9)),
 .o 1 (.mov (.t 11))])
 .skip))
 (.seq (.ops [.o 12 (.mov (.t 0)),
 .o 13 (.mov (.t 1)),
 .o 14 (.call (.f 164) [(.t 12), (.t 13)]),
 .o 5 (.mov (.t 14))])
 (.seq (.ops [⟨(some 15), .mov (.t 0), none, true⟩,
 ⟨(some 16), .mov (.t 5), none, true⟩,
 ⟨(some 17), .bin .quo (.t 15) (.t 16), none, true⟩,
 ⟨(some 18), .mov (.t 1), none, true⟩,
 ⟨(some 19), .mov (.t 5), none, true⟩,
 ⟨(some 20), .bin .quo (.t 18) (.t 19), none, true⟩,
 .o 21 (.build [.int .i64 0, .int .i64 0] [(0, 1, (.t 17)), (1, 1, (.t 20))]),
 .x (.store 2 (.t 4) (.t 21))])
 .ret))))⟩
def fn103 : AFunc := ⟨17, 2, [(4, none)],
 (.seq (.ops [.o 4 (.mov .z)])
 (.seq (.ops [.o 6 (.mov (.t 0)),
 .o 7 (.mov (.t 1)),
 .o 8 (.bin .quo (.t 6) (.t 7)),
 .o 5 (.mov (.t 8))])
 (.seq (.seq (.ops [.o 9 (.mov (.t 5)),
 .o 10 (.mov (.t 1)),
 .o 11 (.bin .mul (.t 9) (.t 10)),
 .o 12 (.mov (.t 0)),
 .o 13 (.bin .gtr (.t 11) (.t 12))])
 (.cond (.t 13)
 (.ops [.o 14 (.mov (.t 5)),
 .o 15 (.bin .sub (.t 14) .w),
 .o 5 (.mov (.t 15))])
 .skip))
 (.seq (.ops [.o 16 (.mov (.t 5)),
 .o 4 (.mov (.t 16))])
 .ret))))⟩
def fn104 : AFunc := ⟨10, 2, [(4, none)],
 (.seq (.ops [.o 4 (.mov .z)])
 (.seq (.ops [.o 5 (.mov (.t 0)),
 .o 6 (.bin .sub .z (.t 5)),
 .o 7 (.mov (.t 1)),
 .o 8 (.call (.f 103) [(.t 6), (.t 7)]),
 .o 9 (.bin .sub .z (.t 8)),
 .o 4 (.mov (.t 9))])
 .ret))⟩
def fn105 : AFunc := ⟨15, 1, [(2, none)],
 (.seq (.ops [.o 2 (.mov .z)])
 (.seq (.seq (.ops [.o 5 (.mov (.t 0)),
 .o 6 (.len .sl (.t 5)),
 .o 7 (.mov .z)])
 (.block 0 (.loop (.seq (.ops [.o 8 (.bin .lss (.t 7) (.t 6))])
 (.seq (.cond (.t 8)
 .skip
 (.exit 0))
 (.seq (.block 1 (.seq (.ops [.o 9 (.iadr 1 (.t 5) (.t 7)),
 .o 10 (.load none (.t 9)),
 .o 4 (.mov (.t 10))])
 (.seq (.ops [.o 11 (.mov (.t 4)),
 .o 12 (.bin .neq (.t 11) .z)])
 (.cond (.t 12)
 (.seq (.ops [.o 13 (.mov (.t 4)),
 .o 2 (.mov (.t 13))])
 .ret)
 .skip))))
 (.ops [.o 14 (.bin .add (.t 7) .w),
 .o 7 (.mov (.t 14))])))))))
 (.seq (.ops [.o 2 (.mov .z)])
 .ret)))⟩
def fn106 : AFunc := ⟨7, 2, [(4, none)],
 (.seq (.ops [.o 4 (.mov .z)])
 (.seq (.seq (.ops [.o 5 (.mov (.t 0))])
 (.cond (.t 5)
 (.seq (.ops [.o 6 (.mov (.t 1)),
 .o 4 (.mov (.t 6))])
 .ret)
 .skip))
 (.seq (.ops [.o 4 (.mov .z)])
 .ret)))⟩
def fn107 : AFunc := ⟨54, 1, [(2, none)],
 (.seq (.ops [.o 2 (.mov (.c (.bool false)))])
 (.seq (.seq (.ops [.o 7 (.mov (.t 0)),
 .o 8 (.rstr (.t 7))])
 (.block 0 (.loop (.seq (.ops [.o 9 (.nexts (.t 8)),
 .o 10 (.ext (.t 9) 0)])
 (.seq (.cond (.t 10)
 .skip
 (.exit 0))
 (.block 1 (.seq (.ops [.o 11 (.ext (.t 9) 1),
 .o 12 (.ext (.t 9) 2),
 .o 3 (.mov (.t 11)),
 .o 4 (.mov (.t 12))])
 (.seq (.ops [.o 13 (.mov (.t 4)),
 .o 14 (.bin .leq (.c (.int .i32 65)) (.t 13)),
 .o 15 (.mov (.t 14)),
 ⟨(some 16), .mov (.t 4), (some (15, true)), false⟩,
 ⟨(some 17), .bin .leq (.t 16) (.c (.int .i32 90)), (some (15, true)), false⟩,
 .o 18 (.pick (.t 15) (.t 17) (.c (.bool false))),
 .o 19 (.mov (.t 18)),
 ⟨(some 20), .mov (.t 4), (some (19, false)), false⟩,
 ⟨(some 21), .bin .leq (.c (.int .i32 97)) (.t 20), (some (19, false)), false⟩,
 ⟨(some 22), .mov (.t 21), (some (19, false)), false⟩,
 ⟨(some 23), .mov (.t 4), (some (22, true)), false⟩,
 ⟨(some 24), .bin .leq (.t 23) (.c (.int .i32 122)), (some (22, true)), false⟩,
 ⟨(some 25), .pick (.t 22) (.t 24) (.c (.bool false)), (some (19, false)), false⟩,
 .o 26 (.pick (.t 19) (.c (.bool true)) (.t 25)),
 .o 5 (.mov (.t 26))])
 (.seq (.ops [.o 27 (.mov (.t 4)),
 .o 28 (.bin .leq (.c (.int .i32 48)) (.t 27)),
 .o 29 (.mov (.t 28)),
 ⟨(some 30), .mov (.t 4), (some (29, true)), false⟩,
 ⟨(some 31), .bin .leq (.t 30) (.c (.int .i32 57)), (some (29, true)), false⟩,
 .o 32 (.pick (.t 29) (.t 31) (.c (.bool false))),
 .o 33 (.mov (.t 32)),
 ⟨(some 34), .mov (.t 4), (some (33, false)), false⟩,
 ⟨(some 35), .bin .eql (.t 34) (.c (.int .i32 95)), (some (33, false)), false⟩,
 .o 36 (.pick (.t 33) (.c (.bool true)) (.t 35)),
 .o 6 (.mov (.t 36))])
 (.seq (.ops [.o 37 (.mov (.t 5)),
 .o 38 (.un .not (.t 37)),
 .o 39 (.mov (.t 38)),
 ⟨(some 40), .mov (.t 3), (some (39, true)), false⟩,
 ⟨(some 41), .bin .eql (.t 40) .z, (some (39, true)), false⟩,
 ⟨(some 42), .mov (.t 41), (some (39, true)), false⟩,
 ⟨(some 43), .mov (.t 6), (some (42, false)), false⟩,
 ⟨(some 44), .un .not (.t 43), (some (42, false)), false⟩,
 ⟨(some 45), .pick (.t 42) (.c (.bool true)) (.t 44), (some (39, true)), false⟩,
 .o 46 (.pick (.t 39) (.t 45) (.c (.bool false)))])
 (.cond (.t 46)
 (.seq (.ops [.o 2 (.mov (.c (.bool false)))])
 .ret)
 .skip)))))))))))
 (.seq (.ops [.o 47 (.mov (.t 0)),
 .o 48 (.bin .neq (.t 47) (.c (.str []))),
 .o 49 (.mov (.t 48)),
 ⟨(some 50), .mov (.t 0), (some (49, true)), false⟩,
 ⟨(some 51), .len .st (.t 50), (some (49, true)), false⟩,
 ⟨(some 52), .bin .leq (.t 51) (.c (.int .i64 24)), (some (49, true)), false⟩,
 .o 53 (.pick (.t 49) (.t 52) (.c (.bool false))),
 .o 2 (.mov (.t 53))])
 .ret)))⟩
def fn108 : AFunc := ⟨16, 3, [(6, none)],
 (.seq (.ops [.o 6 (.mov .z)])
 (.seq (.ops [.o 7 (.mov (.t 0)),
 .o 8 (.mov (.t 1)),
 .o 9 (.bin .lss (.t 7) (.t 8)),
 .o 10 (.mov (.t 9)),
 ⟨(some 11), .mov (.t 0), (some (10, false)), false⟩,
 ⟨(some 12), .mov (.t 2), (some (10, false)), false⟩,
 ⟨(some 13), .bin .gtr (.t 11) (.t 12), (some (10, false)), false⟩,
 .o 14 (.pick (.t 10) (.c (.bool true)) (.t 13)),
 .o 15 (.call (.f 106) [(.t 14), (.c (.int .i64 3))]),
 .o 6 (.mov (.t 15))])
 .ret))⟩
def fn109 : AFunc := ⟨9, 2, [(4, none)],
 (.seq (.ops [.o 4 (.mov (.c (.bool false)))])
 (.seq (.ops [.o 5 (.mov (.t 0)),
 .o 6 (.mov (.t 1)),
 .o 7 (.call (.f 165) [(.t 5), (.t 6)]),
 .o 8 (.bin .geq (.t 7) .z),
 .o 4 (.mov (.t 8))])
 .ret))⟩
def fn110 : AFunc := ⟨9, 1, [(3, none)],
 (.seq (.ops [.o 2 (.box (.t 0)),
 .o 3 (.mov (.c (.bool false)))])
 (.seq (.ops [.o 4 (.fadr 0 (.t 2)),
 .o 5 (.load none (.t 4)),
 .o 6 (.fadr 0 (.t 1)),
 .o 7 (.load none (.t 6)),
 .o 8 (.bin .eql (.t 5) (.t 7)),
 .o 3 (.mov (.t 8))])
 .ret))⟩
def fn111 : AFunc := ⟨9, 2, [(4, none)],
 (.seq (.ops [.o 4 (.mov (.c (.bool false)))])
 (.seq (.ops [.o 5 (.mov (.t 0)),
 .o 6 (.mov (.t 1)),
 .o 7 (.call (.f 158) [(.t 5), (.t 6)]),
 .o 8 (.bin .geq (.t 7) .z),
 .o 4 (.mov (.t 8))])
 .ret))⟩
def fn112 : AFunc := ⟨7, 1, [(2, none)],
 (.seq (.ops [.o 1 (.box (.t 0)),
 .o 2 (.mov (.c (.bool false)))])
 (.seq (.ops [.o 3 (.fadr 1 (.t 1)),
 .o 4 (.load none (.t 3)),
 .o 5 (.call (.f 108) [(.t 4), .z, (.c (.int .i64 100000))]),
 .o 6 (.bin .neq (.t 5) .z),
 .o 2 (.mov (.t 6))])
 .ret))⟩
def fn113 : AFunc := ⟨11, 2, [(4, some (some 3))],
 (.seq (.ops [.o 2 (.box (.t 0)),
 .o 4 (.box (.c (.agg [.str [], .int .i64 0, .nilSlice])))])
 (.seq (.ops [.o 5 (.fadr 0 (.t 2)),
 .o 6 (.load none (.t 5)),
 .o 7 (.fadr 1 (.t 2)),
 .o 8 (.load none (.t 7)),
 .o 9 (.mov (.t 1)),
 .o 10 (.build [.str [], .int .i64 0, .nilSlice] [(0, 1, (.t 6)), (1, 1, (.t 8)), (2, 1, (.t 9))]),
 .x (.store 3 (.t 4) (.t 10))])
 .ret))⟩
def fn114 : AFunc := ⟨6, 2, [(4, none)],
 (.seq (.ops [.o 2 (.box (.t 0)),
 .o 3 (.box (.t 1)),
 .o 4 (.mov (.c (.nilFunc)))])
 (.seq (.ops [.o 5 (.mkfn (.func 166) [] [(.t 2), (.t 3)]),
 .o 4 (.mov (.t 5))])
 .ret))⟩
def fn115 : AFunc := ⟨14, 1, [(2, none)],
 (.seq (.ops [.o 1 (.box (.t 0)),
 .o 2 (.mov .z)])
 (.seq (.ops [.o 3 (.fadr 0 (.t 1)),
 .o 4 (.load none (.t 3)),
 .o 5 (.bin .mul (.c (.int .i64 2)) (.t 4)),
 .o 6 (.fadr 1 (.t 1)),
 .o 7 (.load none (.t 6)),
 .o 8 (.bin .add (.t 5) (.t 7)),
 .o 9 (.fadr 1 (.t 1)),
 .o 10 (.load none (.t 9)),
 .o 11 (.bin .mul (.c (.int .i64 2)) (.t 10)),
 .o 12 (.build [.int .i64 0, .int .i64 0] [(0, 1, (.t 8)), (1, 1, (.t 11))]),
 .o 13 (.call (.f 161) [(.t 12)]),
 .o 2 (.mov (.t 13))])
 .ret))⟩
def fn116 : AFunc := ⟨12, 2, [(4, none)],
 (.seq (.ops [.o 4 (.mov .z)])
 (.seq (.ops [.o 5 (.mov (.t 0)),
 .o 6 (.bin .mul (.c (.int .i64 2)) (.t 5)),
 .o 7 (.mov (.t 1)),
 .o 8 (.bin .add (.t 6) (.t 7)),
 .o 9 (.mov (.t 1)),
 .o 10 (.bin .mul (.c (.int .i64 2)) (.t 9)),
 .o 11 (.call (.f 103) [(.t 8), (.t 10)]),
 .o 4 (.mov (.t 11))])
 .ret))⟩
def fn117 : AFunc := ⟨22, 2, [(4, none)],
 (.seq (.ops [.o 4 (.mov .z)])
 (.seq (.seq (.ops [.o 6 (.mov (.t 0)),
 .o 7 (.call (.f 27) [(.t 6)]),
 .o 8 (.mov (.t 1)),
 .o 9 (.len .sl (.t 8)),
 .o 10 (.mov (.t 0)),
 .o 11 (.len .sl (.t 10)),
 .o 12 (.bin .neq (.t 9) (.t 11)),
 .o 13 (.call (.f 106) [(.t 12), (.c (.int .i64 2))]),
 .o 14 (.bslice 1 2 [.int .i64 0] [(0, (.t 7)), (1, (.t 13))]),
 .o 15 (.call (.f 105) [(.t 14)]),
 .o 5 (.mov (.t 15))])
 (.seq (.ops [.o 16 (.mov (.t 5)),
 .o 17 (.bin .neq (.t 16) .z)])
 (.cond (.t 17)
 (.seq (.ops [.o 18 (.mov (.t 5)),
 .o 4 (.mov (.t 18))])
 .ret)
 .skip)))
 (.seq (.ops [.o 19 (.mov (.t 1)),
 .o 20 (.call (.f 136) [(.t 19), (.f 168)]),
 .o 21 (.call (.f 105) [(.t 20)]),
 .o 4 (.mov (.t 21))])
 .ret)))⟩
def fn118 : AFunc := ⟨9, 2, [(4, none)],
 (.seq (.ops [.o 3 (.box (.t 1)),
 .o 4 (.mov (.c (.bool false)))])
 (.seq (.ops [.o 5 (.mov (.t 0)),
 .o 6 (.mkfn (.func 169) [] [(.t 3)]),
 .o 7 (.call (.f 109) [(.t 5), (.t 6)]),
 .o 8 (.un .not (.t 7)),
 .o 4 (.mov (.t 8))])
 .ret))⟩
def fn119 : AFunc := ⟨65, 3, [(6, none)],
 (.seq (.ops [.o 6 (.mov (.c (.nilSlice)))])
 (.seq (.ops [.o 7 (.mov (.c (.nilSlice)))])
 (.seq (.ops [.o 8 (.box (.c (.agg [.int .i64 0, .int .i64 0]))),
 .o 9 (.box (.c (.agg [.int .i64 0, .int .i64 0])))])
 (.seq (.seq (.ops [.o 15 (.mov (.t 0)),
 .o 16 (.len .sl (.t 15)),
 .o 17 (.mov .z)])
 (.block 0 (.loop (.seq (.ops [.o 18 (.bin .lss (.t 17) (.t 16))])
 (.seq (.cond (.t 18)
 .skip
 (.exit 0))
 (.seq (.block 1 (.seq (.ops [.o 19 (.mov (.t 17)),
 .o 20 (.iadr 3 (.t 15) (.t 17)),
 .o 21 (.load (some 3) (.t 20)),
 .o 11 (.box (.c (.agg [.str [], .int .i64 0, .nilSlice]))),
 .o 10 (.mov (.t 19)),
 .x (.store 3 (.t 11) (.t 21))])
 (.seq (.ops [.o 22 (.load (some 3) (.t 11)),
 .o 23 (.mov (.t 2)),
 .o 24 (.call (.f 97) [(.t 22), (.t 23)]),
 .o 12 (.box (.c (.agg [.int .i64 0, .int .i64 0]))),
 .x (.store 2 (.t 12) (.t 24))])
 (.seq (.ops [⟨(some 25), .fadr 0 (.t 12), none, true⟩,
 ⟨(some 26), .load none (.t 25), none, true⟩,
 ⟨(some 27), .fadr 1 (.t 8), none, true⟩,
 ⟨(some 28), .load none (.t 27), none, true⟩,
 ⟨(some 29), .bin .sub (.t 26) (.t 28), none, true⟩,
 ⟨(some 30), .mx .z [(.t 29)], none, true⟩,
 ⟨(some 31), .fadr 1 (.t 12), none, true⟩,
 ⟨(some 32), .load none (.t 31), none, true⟩,
 ⟨(some 33), .fadr 0 (.t 8), none, true⟩,
 ⟨(some 34), .load none (.t 33), none, true⟩,
 ⟨(some 35), .bin .sub (.t 32) (.t 34), none, true⟩,
 ⟨(some 36), .mx .z [(.t 35)], none, true⟩,
 ⟨(some 13), .mov (.t 30), none, true⟩,
 .o 14 (.mov (.t 36))])
 (.seq (.ops [⟨(some 37), .fadr 0 (.t 9), none, true⟩,
 ⟨(some 38), .load none (.t 37), none, true⟩,
 ⟨(some 39), .mov (.t 13), none, true⟩,
 ⟨(some 40), .mov (.t 1), none, true⟩,
 ⟨(some 41), .mov (.t 10), none, true⟩,
 ⟨(some 42), .iadr 2 (.t 40) (.t 41), none, true⟩,
 ⟨(some 43), .fadr 0 (.t 42), none, true⟩,
 ⟨(some 44), .load none (.t 43), none, true⟩,
 ⟨(some 45), .bin .mul (.t 39) (.t 44), none, true⟩,
 ⟨(some 46), .bin .add (.t 38) (.t 45), none, true⟩,
 ⟨(some 47), .fadr 1 (.t 9), none, true⟩,
 ⟨(some 48), .load none (.t 47), none, true⟩,
 ⟨(some 49), .mov (.t 14), none, true⟩,
 ⟨(some 50), .mov (.t 1), none, true⟩,
 ⟨(some 51), .mov (.t 10), none, true⟩,
 ⟨(some 52), .iadr 2 (.t 50) (.t 51), none, true⟩,
 ⟨(some 53), .fadr 1 (.t 52), none, true⟩,
 ⟨(some 54), .load none (.t 53), none, true⟩,
 ⟨(some 55), .bin .mul (.t 49) (.t 54), none, true⟩,
 ⟨(some 56), .bin .add (.t 48) (.t 55), none, true⟩,
 .o 57 (.build [.int .i64 0, .int .i64 0] [(0, 1, (.t 46)), (1, 1, (.t 56))]),
 .x (.store 2 (.t 9) (.t 57))])
 (.seq (.ops [.o 58 (.mov (.t 7)),
 .o 59 (.load (some 2) (.t 9)),
 .o 60 (.bslice 2 1 [.int .i64 0, .int .i64 0] [(0, (.t 59))]),
 .o 61 (.app 2 16 (.t 58) (.t 60)),
 .o 7 (.mov (.t 61))])
 (.ops [.o 62 (.load (some 2) (.t 12)),
 .x (.store 2 (.t 8) (.t 62))])))))))
 (.ops [.o 63 (.bin .add (.t 17) .w),
 .o 17 (.mov (.t 63))])))))))
 (.seq (.ops [.o 64 (.mov (.t 7)),
 .o 6 (.mov (.t 64))])
 .ret)))))⟩
def fn120 : AFunc := ⟨71, 3, [(6, none)],
 (.seq (.ops [.o 6 (.mov .z)])
 (.seq (.seq (.ops [.o 12 (.mov (.t 0)),
 .o 13 (.mov (.t 1)),
 .o 14 (.call (.f 117) [(.t 12), (.t 13)]),
 .o 15 (.mov (.t 2)),
 .o 16 (.len .sl (.t 15)),
 .o 17 (.bin .gtr (.t 16) (.c (.int .i64 16))),
 .o 18 (.call (.f 106) [(.t 17), (.c (.int .i64 5))]),
 .o 19 (.bslice 1 2 [.int .i64 0] [(0, (.t 14)), (1, (.t 18))]),
 .o 20 (.call (.f 105) [(.t 19)]),
 .o 7 (.mov (.t 20))])
 (.seq (.ops [.o 21 (.mov (.t 7)),
 .o 22 (.bin .neq (.t 21) .z)])
 (.cond (.t 22)
 (.seq (.ops [.o 23 (.mov (.t 7)),
 .o 6 (.mov (.t 23))])
 .ret)
 .skip)))
 (.seq (.seq (.ops [.o 24 (.mov (.t 2)),
 .o 25 (.len .sl (.t 24)),
 .o 26 (.mov .z)])
 (.block 0 (.loop (.seq (.ops [.o 27 (.bin .lss (.t 26) (.t 25))])
 (.seq (.cond (.t 27)
 .skip
 (.exit 0))
 (.seq (.block 1 (.seq (.ops [.o 28 (.iadr 4 (.t 24) (.t 26)),
 .o 29 (.load (some 4) (.t 28)),
 .o 9 (.box (.c (.agg [.int .i64 0, .int .i64 0, .int .i64 0, .int .i64 0]))),
 .x (.store 4 (.t 9) (.t 29))])
 (.seq (.seq (.ops [⟨(some 30), .fadr 0 (.t 9), none, true⟩,
 ⟨(some 31), .load none (.t 30), none, true⟩,
 ⟨(some 32), .call (.f 108) [(.t 31), .z, (.c (.int .i64 255))], none, true⟩,
 ⟨(some 33), .fadr 1 (.t 9), none, true⟩,
 ⟨(some 34), .load none (.t 33), none, true⟩,
 ⟨(some 35), .bin .lss (.t 34) .z, none, true⟩,
 .o 36 (.mov (.t 35)),
 ⟨(some 37), .fadr 1 (.t 9), (some (36, false)), true⟩,
 ⟨(some 38), .load none (.t 37), (some (36, false)), true⟩,
 ⟨(some 39), .mov (.t 0), (some (36, false)), true⟩,
 ⟨(some 40), .len .sl (.t 39), (some (36, false)), true⟩,
 ⟨(some 41), .bin .geq (.t 38) (.t 40), (some (36, false)), false⟩,
 .o 42 (.pick (.t 36) (.c (.bool true)) (.t 41)),
 .o 43 (.call (.f 106) [(.t 42), (.c (.int .i64 10))]),
 .o 44 (.bslice 1 2 [.int .i64 0] [(0, (.t 32)), (1, (.t 43))]),
 .o 45 (.call (.f 105) [(.t 44)]),
 .o 10 (.mov (.t 45))])
 (.seq (.ops [.o 46 (.mov (.t 10)),
 .o 47 (.bin .neq (.t 46) .z)])
 (.cond (.t 47)
 (.seq (.ops [.o 48 (.mov (.t 10)),
 .o 6 (.mov (.t 48))])
 .ret)
 .skip)))
 (.seq (.ops [⟨(some 49), .fadr 2 (.t 9), none, true⟩,
 ⟨(some 50), .load none (.t 49), none, true⟩,
 ⟨(some 51), .call (.f 108) [(.t 50), .z, (.c (.int .i64 100000000))], none, true⟩,
 ⟨(some 52), .fadr 3 (.t 9), none, true⟩,
 ⟨(some 53), .load none (.t 52), none, true⟩,
 ⟨(some 54), .call (.f 108) [(.t 53), .z, (.c (.int .i64 100000000))], none, true⟩,
 ⟨(some 55), .mov (.t 0), none, true⟩,
 ⟨(some 56), .fadr 1 (.t 9), none, true⟩,
 ⟨(some 57), .load none (.t 56), none, true⟩,
 ⟨(some 58), .bin .add (.t 57) .w, none, true⟩,
 ⟨(some 59), .sl 3 (.t 55) none (some (.t 58)), none, true⟩,
 ⟨(some 60), .fadr 0 (.t 9), none, true⟩,
 ⟨(some 61), .load none (.t 60), none, true⟩,
 .o 62 (.call (.f 118) [(.t 59), (.t 61)]),
 .o 63 (.un .not (.t 62)),
 .o 64 (.call (.f 106) [(.t 63), (.c (.int .i64 14))]),
 .o 65 (.bslice 1 3 [.int .i64 0] [(0, (.t 51)), (1, (.t 54)), (2, (.t 64))]),
 .o 66 (.call (.f 105) [(.t 65)]),
 .o 11 (.mov (.t 66))])
 (.seq (.ops [.o 67 (.mov (.t 11)),
 .o 68 (.bin .neq (.t 67) .z)])
 (.cond (.t 68)
 (.seq (.ops [.o 69 (.mov (.t 11)),
 .o 6 (.mov (.t 69))])
 .ret)
 .skip))))))
 (.ops [.o 70 (.bin .add (.t 26) .w),
 .o 26 (.mov (.t 70))])))))))
 (.seq (.ops [.o 6 (.mov .z)])
 .ret))))⟩
def fn121 : AFunc := ⟨36, 3, [(6, some (some 4))],
 (.seq (.ops [.o 3 (.box (.t 0)),
 .o 6 (.box (.c (.agg [.int .i64 0, .int .i64 0, .int .i64 0, .int .i64 0])))])
 (.seq (.ops [.o 8 (.fadr 1 (.t 3)),
 .o 9 (.load none (.t 8)),
 .o 10 (.bin .add (.t 9) .w),
 .o 7 (.mov (.t 10))])
 (.seq (.ops [⟨(some 11), .fadr 2 (.t 3), none, true⟩,
 ⟨(some 12), .load none (.t 11), none, true⟩,
 ⟨(some 13), .fadr 3 (.t 3), none, true⟩,
 ⟨(some 14), .load none (.t 13), none, true⟩,
 ⟨(some 15), .bin .sub (.t 12) (.t 14), none, true⟩,
 ⟨(some 16), .fadr 2 (.t 3), none, true⟩,
 ⟨(some 17), .load none (.t 16), none, true⟩,
 ⟨(some 18), .fadr 3 (.t 3), none, true⟩,
 ⟨(some 19), .load none (.t 18), none, true⟩,
 ⟨(some 20), .bin .add (.t 17) (.t 19), none, true⟩,
 ⟨(some 21), .build [.int .i64 0, .int .i64 0] [(0, 1, (.t 15)), (1, 1, (.t 20))], none, true⟩,
 ⟨(some 22), .mov (.t 1), none, true⟩,
 ⟨(some 23), .mov (.t 7), none, true⟩,
 ⟨(some 24), .sl 3 (.t 22) none (some (.t 23)), none, true⟩,
 ⟨(some 25), .mov (.t 2), none, true⟩,
 ⟨(some 26), .mov (.t 7), none, true⟩,
 ⟨(some 27), .sl 2 (.t 25) none (some (.t 26)), none, true⟩,
 ⟨(some 28), .fadr 0 (.t 3), none, true⟩,
 ⟨(some 29), .load none (.t 28), none, true⟩,
 ⟨(some 30), .call (.f 119) [(.t 24), (.t 27), (.t 29)], none, true⟩,
 ⟨(some 31), .fadr 1 (.t 3), none, true⟩,
 ⟨(some 32), .load none (.t 31), none, true⟩,
 ⟨(some 33), .iadr 2 (.t 30) (.t 32), none, true⟩,
 ⟨(some 34), .load (some 2) (.t 33), none, true⟩,
 .o 35 (.build [.int .i64 0, .int .i64 0, .int .i64 0, .int .i64 0] [(0, 2, (.t 21)), (2, 2, (.t 34))]),
 .x (.store 4 (.t 6) (.t 35))])
 .ret)))⟩
def fn122 : AFunc := ⟨19, 1, [(2, none)],
 (.seq (.ops [.o 1 (.box (.t 0)),
 .o 2 (.mov (.c (.bool false)))])
 (.seq (.ops [.o 3 (.iada 2 2 (.t 1) .z),
 .o 4 (.fadr 1 (.t 3)),
 .o 5 (.load none (.t 4)),
 .o 6 (.iada 2 2 (.t 1) .w),
 .o 7 (.fadr 0 (.t 6)),
 .o 8 (.load none (.t 7)),
 .o 9 (.bin .lss (.t 5) (.t 8)),
 .o 10 (.mov (.t 9)),
 ⟨(some 11), .iada 2 2 (.t 1) .w, (some (10, false)), false⟩,
 ⟨(some 12), .fadr 1 (.t 11), (some (10, false)), false⟩,
 ⟨(some 13), .load none (.t 12), (some (10, false)), false⟩,
 ⟨(some 14), .iada 2 2 (.t 1) .z, (some (10, false)), false⟩,
 ⟨(some 15), .fadr 0 (.t 14), (some (10, false)), false⟩,
 ⟨(some 16), .load none (.t 15), (some (10, false)), false⟩,
 ⟨(some 17), .bin .lss (.t 13) (.t 16), (some (10, false)), false⟩,
 .o 18 (.pick (.t 10) (.c (.bool true)) (.t 17)),
 .o 2 (.mov (.t 18))])
 .ret))⟩
def fn123 : AFunc := ⟨10, 1, [(5, none)],
 (.seq (.ops [.o 4 (.box (.t 0)),
 .o 5 (.mov (.c (.bool false)))])
 (.seq (.ops [.o 6 (.load none (.t 1)),
 .o 7 (.mkfn (.func 125) [] [(.t 2), (.t 3), (.t 4)]),
 .o 8 (.call (.f 124) [(.t 6), (.t 7)]),
 .o 9 (.un .not (.t 8)),
 .o 5 (.mov (.t 9))])
 .ret))⟩
def fn124 : AFunc := ⟨9, 2, [(4, none)],
 (.seq (.ops [.o 4 (.mov (.c (.bool false)))])
 (.seq (.ops [.o 5 (.mov (.t 0)),
 .o 6 (.mov (.t 1)),
 .o 7 (.call (.f 170) [(.t 5), (.t 6)]),
 .o 8 (.bin .geq (.t 7) .z),
 .o 4 (.mov (.t 8))])
 .ret))⟩
def fn125 : AFunc := ⟨33, 1, [(5, none)],
 (.seq (.ops [.o 4 (.box (.t 0)),
 .o 5 (.mov (.c (.bool false)))])
 (.seq (.ops [.o 7 (.load (some 4) (.t 4)),
 .o 8 (.load none (.t 1)),
 .o 9 (.load none (.t 2)),
 .o 10 (.call (.f 121) [(.t 7), (.t 8), (.t 9)]),
 .o 6 (.box (.c (.agg [.int .i64 0, .int .i64 0, .int .i64 0, .int .i64 0]))),
 .x (.store 4 (.t 6) (.t 10))])
 (.seq (.ops [.o 11 (.load none (.t 3)),
 .o 12 (.iada 2 2 (.t 6) .w),
 .o 13 (.fadr 1 (.t 12)),
 .o 14 (.load none (.t 13)),
 .o 15 (.bin .mul (.t 11) (.t 14)),
 .o 16 (.iada 2 2 (.t 6) .z),
 .o 17 (.fadr 0 (.t 16)),
 .o 18 (.load none (.t 17)),
 .o 19 (.bin .mul (.c (.int .i64 1024)) (.t 18)),
 .o 20 (.bin .lss (.t 15) (.t 19)),
 .o 21 (.mov (.t 20)),
 ⟨(some 22), .load none (.t 3), (some (21, false)), false⟩,
 ⟨(some 23), .iada 2 2 (.t 6) .w, (some (21, false)), false⟩,
 ⟨(some 24), .fadr 0 (.t 23), (some (21, false)), false⟩,
 ⟨(some 25), .load none (.t 24), (some (21, false)), false⟩,
 ⟨(some 26), .bin .mul (.t 22) (.t 25), (some (21, false)), false⟩,
 ⟨(some 27), .iada 2 2 (.t 6) .z, (some (21, false)), false⟩,
 ⟨(some 28), .fadr 1 (.t 27), (some (21, false)), false⟩,
 ⟨(some 29), .load none (.t 28), (some (21, false)), false⟩,
 ⟨(some 30), .bin .mul (.c (.int .i64 1024)) (.t 29), (some (21, false)), false⟩,
 ⟨(some 31), .bin .gtr (.t 26) (.t 30), (some (21, false)), false⟩,
 .o 32 (.pick (.t 21) (.c (.bool true)) (.t 31)),
 .o 5 (.mov (.t 32))])
 .ret)))⟩
def fn127 : AFunc := ⟨21, 2, [(4, none)],
 (.seq (.ops [.o 2 (.box (.t 0)),
 .o 4 (.mov .z)])
 (.seq (.seq (.ops [.o 6 (.load (some 3) (.t 2)),
 .o 7 (.call (.f 65) [(.t 6)]),
 .o 5 (.mov (.t 7))])
 (.seq (.ops [.o 8 (.mov (.t 5)),
 .o 9 (.bin .neq (.t 8) .z)])
 (.cond (.t 9)
 (.seq (.ops [.o 10 (.mov (.t 5)),
 .o 4 (.mov (.t 10))])
 .ret)
 .skip)))
 (.seq (.ops [.o 11 (.mov (.t 1)),
 .o 12 (.bin .lss (.t 11) .z),
 .o 13 (.mov (.t 12)),
 ⟨(some 14), .mov (.t 1), (some (13, false)), false⟩,
 ⟨(some 15), .fadr 2 (.t 2), (some (13, false)), false⟩,
 ⟨(some 16), .load none (.t 15), (some (13, false)), false⟩,
 ⟨(some 17), .len .sl (.t 16), (some (13, false)), false⟩,
 ⟨(some 18), .bin .geq (.t 14) (.t 17), (some (13, false)), false⟩,
 .o 19 (.pick (.t 13) (.c (.bool true)) (.t 18)),
 .o 20 (.call (.f 106) [(.t 19), (.c (.int .i64 10))]),
 .o 4 (.mov (.t 20))])
 .ret)))⟩
def fn128 : AFunc := ⟨19, 3, [(6, none)],
 (.seq (.ops [.o 3 (.box (.t 0)),
 .o 4 (.box (.t 1)),
 .o 5 (.box (.t 2)),
 .o 6 (.mov .z)])
 (.seq (.ops [.o 9 (.load none (.t 4)),
 .o 10 (.call (.f 172) [(.t 9)]),
 .o 11 (.call (.f 171) [(.t 10)]),
 .o 7 (.mov (.t 11))])
 (.seq (.ops [.o 12 (.mov (.t 7)),
 .o 13 (.mkfn (.func 174) [] [(.t 3), (.t 4), (.t 5)]),
 .o 14 (.call (.f 173) [(.t 12), (.t 13)]),
 .o 8 (.mov (.t 14))])
 (.seq (.ops [.o 15 (.mov (.t 7)),
 .o 16 (.mov (.t 8)),
 .o 17 (.iadr 1 (.t 15) (.t 16)),
 .o 18 (.load none (.t 17)),
 .o 6 (.mov (.t 18))])
 .ret))))⟩
def fn129 : AFunc := ⟨6, 1, [(2, none)],
 (.seq (.ops [.o 1 (.box (.t 0)),
 .o 2 (.mov (.c (.nilSlice)))])
 (.seq (.ops [.o 3 (.fadr 2 (.t 1)),
 .o 4 (.load none (.t 3)),
 .o 5 (.call (.f 177) [(.t 4), (.f 178)]),
 .o 2 (.mov (.t 5))])
 .ret))⟩
def fn130 : AFunc := ⟨6, 1, [(2, none)],
 (.seq (.ops [.o 1 (.box (.t 0)),
 .o 2 (.mov (.c (.nilSlice)))])
 (.seq (.ops [.o 3 (.fadr 2 (.t 1)),
 .o 4 (.load none (.t 3)),
 .o 5 (.call (.f 177) [(.t 4), (.f 179)]),
 .o 2 (.mov (.t 5))])
 .ret))⟩
def fn131 : AFunc := ⟨14, 3, [(6, none)],
 (.seq (.ops [.o 3 (.box (.t 0)),
 .o 6 (.mov .z)])
 (.seq (.ops [.o 7 (.load (some 3) (.t 3)),
 .o 8 (.mov (.t 1)),
 .o 9 (.call (.f 127) [(.t 7), (.t 8)]),
 .o 10 (.mov (.t 2)),
 .o 11 (.call (.f 108) [(.t 10), .z, (.c (.int .i64 100000000))]),
 .o 12 (.bslice 1 2 [.int .i64 0] [(0, (.t 9)), (1, (.t 11))]),
 .o 13 (.call (.f 105) [(.t 12)]),
 .o 6 (.mov (.t 13))])
 .ret))⟩
def fn132 : AFunc := ⟨60, 4, [(8, none)],
 (.seq (.ops [.o 4 (.box (.t 0)),
 .o 8 (.mov (.c (.nilSlice)))])
 (.seq (.ops [.o 9 (.mov (.c (.nilSlice)))])
 (.seq (.seq (.ops [.o 13 (.mov (.t 1)),
 .o 14 (.mov (.t 2)),
 .o 15 (.iadr 1 (.t 13) (.t 14)),
 .o 16 (.load none (.t 15)),
 .o 17 (.mov (.t 3)),
 .o 18 (.bin .leq (.t 16) (.t 17))])
 (.cond (.t 18)
 (.ops [.o 19 (.mov (.t 9)),
 .o 20 (.mov (.t 2)),
 .o 21 (.bslice 1 1 [.int .i64 0] [(0, (.t 20))]),
 .o 22 (.app 1 8 (.t 19) (.t 21)),
 .o 9 (.mov (.t 22))])
 .skip))
 (.seq (.seq (.ops [.o 10 (.mov .z)])
 (.block 0 (.loop (.seq (.seq (.ops [.o 23 (.mov (.t 10)),
 .o 24 (.mov (.t 9)),
 .o 25 (.len .sl (.t 24)),
 .o 26 (.bin .lss (.t 23) (.t 25))])
 (.cond (.t 26)
 .skip
 (.exit 0)))
 (.seq (.block 1 (.seq (.ops [⟨(some 29), .load (some 3) (.t 4), none, true⟩,
 ⟨(some 30), .mov (.t 9), none, true⟩,
 ⟨(some 31), .mov (.t 10), none, true⟩,
 ⟨(some 32), .iadr 1 (.t 30) (.t 31), none, true⟩,
 ⟨(some 33), .load none (.t 32), none, true⟩,
 ⟨(some 34), .call (.f 180) [(.t 29), (.t 33)], none, true⟩,
 ⟨(some 35), .len .sl (.t 34), none, true⟩,
 ⟨(some 36), .mov .z, none, true⟩])
 (.block 2 (.loop (.seq (.ops [.o 37 (.bin .lss (.t 36) (.t 35))])
 (.seq (.cond (.t 37)
 .skip
 (.exit 2))
 (.seq (.block 3 (.seq (.ops [.o 38 (.iadr 1 (.t 34) (.t 36)),
 .o 39 (.load none (.t 38)),
 .o 12 (.mov (.t 39))])
 (.seq (.ops [.o 40 (.mov (.t 1)),
 .o 41 (.mov (.t 12)),
 .o 42 (.iadr 1 (.t 40) (.t 41)),
 .o 43 (.load none (.t 42)),
 .o 44 (.mov (.t 3)),
 .o 45 (.bin .leq (.t 43) (.t 44)),
 .o 46 (.mov (.t 45)),
 ⟨(some 47), .mov (.t 9), (some (46, true)), false⟩,
 ⟨(some 48), .mov (.t 12), (some (46, true)), false⟩,
 ⟨(some 49), .call (.f 181) [(.t 47), (.t 48)], (some (46, true)), false⟩,
 ⟨(some 50), .un .not (.t 49), (some (46, true)), false⟩,
 .o 51 (.pick (.t 46) (.t 50) (.c (.bool false)))])
 (.cond (.t 51)
 (.ops [.o 52 (.mov (.t 9)),
 .o 53 (.mov (.t 12)),
 .o 54 (.bslice 1 1 [.int .i64 0] [(0, (.t 53))]),
 .o 55 (.app 1 8 (.t 52) (.t 54)),
 .o 9 (.mov (.t 55))])
 .skip))))
 (.ops [.o 56 (.bin .add (.t 36) .w),
 .o 36 (.mov (.t 56))]))))))))
 (.ops [.o 27 (.mov (.t 10)),
 .o 28 (.bin .add (.t 27) .w),
 .o 10 (.mov (.t 28))]))))))
 (.seq (.ops [.o 57 (.mov (.t 9)),
 .o 58 (.call (.f 182) [(.t 57)])])
 (.seq (.ops [.o 59 (.mov (.t 9)),
 .o 8 (.mov (.t 59))])
 .ret))))))⟩
def fn133 : AFunc := ⟨33, 4, [(8, none)],
 (.seq (.ops [.o 4 (.box (.t 0)),
 .o 8 (.mov .z)])
 (.seq (.ops [.o 9 (.mov .z)])
 (.seq (.seq (.ops [.o 12 (.load (some 3) (.t 4)),
 .o 13 (.mov (.t 1)),
 .o 14 (.mov (.t 2)),
 .o 15 (.mov (.t 3)),
 .o 16 (.bin .sub (.t 15) .w),
 .o 17 (.call (.f 132) [(.t 12), (.t 13), (.t 14), (.t 16)]),
 .o 18 (.len .sl (.t 17)),
 .o 19 (.mov .z)])
 (.block 0 (.loop (.seq (.ops [.o 20 (.bin .lss (.t 19) (.t 18))])
 (.seq (.cond (.t 20)
 .skip
 (.exit 0))
 (.seq (.block 1 (.seq (.ops [.o 21 (.iadr 1 (.t 17) (.t 19)),
 .o 22 (.load none (.t 21)),
 .o 11 (.mov (.t 22))])
 (.ops [.o 23 (.mov (.t 9)),
 .o 24 (.mov (.t 3)),
 .o 25 (.mov (.t 1)),
 .o 26 (.mov (.t 11)),
 .o 27 (.iadr 1 (.t 25) (.t 26)),
 .o 28 (.load none (.t 27)),
 .o 29 (.bin .sub (.t 24) (.t 28)),
 .o 30 (.bin .add (.t 23) (.t 29)),
 .o 9 (.mov (.t 30))])))
 (.ops [.o 31 (.bin .add (.t 19) .w),
 .o 19 (.mov (.t 31))])))))))
 (.seq (.ops [.o 32 (.mov (.t 9)),
 .o 8 (.mov (.t 32))])
 .ret))))⟩
def fn136 : AFunc := ⟨22, 2, [(4, none)],
 (.seq (.ops [.o 4 (.mov (.c (.nilSlice)))])
 (.seq (.ops [.o 5 (.mov (.c (.nilSlice)))])
 (.seq (.seq (.ops [.o 8 (.mov (.t 0)),
 .o 9 (.len .sl (.t 8)),
 .o 10 (.mov .z)])
 (.block 0 (.loop (.seq (.ops [.o 11 (.bin .lss (.t 10) (.t 9))])
 (.seq (.cond (.t 11)
 .skip
 (.exit 0))
 (.seq (.block 1 (.seq (.ops [.o 12 (.iadr 2 (.t 8) (.t 10)),
 .o 13 (.load (some 2) (.t 12)),
 .o 7 (.box (.c (.agg [.int .i64 0, .int .i64 0]))),
 .x (.store 2 (.t 7) (.t 13))])
 (.ops [.o 14 (.mov (.t 5)),
 .o 15 (.mov (.t 1)),
 .o 16 (.load (some 2) (.t 7)),
 .o 17 (.call (.t 15) [(.t 16)]),
 .o 18 (.bslice 1 1 [.int .i64 0] [(0, (.t 17))]),
 .o 19 (.app 1 8 (.t 14) (.t 18)),
 .o 5 (.mov (.t 19))])))
 (.ops [.o 20 (.bin .add (.t 10) .w),
 .o 10 (.mov (.t 20))])))))))
 (.seq (.ops [.o 21 (.mov (.t 5)),
 .o 4 (.mov (.t 21))])
 .ret))))⟩
def fn137 : AFunc := ⟨5, 1, [(2, none)],
 (.seq (.ops [.o 1 (.box (.t 0)),
 .o 2 (.mov .z)])
 (.seq (.ops [.o 3 (.load (some 2) (.t 1)),
 .o 4 (.call (.f 138) [(.t 3), .z, (.c (.int .i64 100000000))]),
 .o 2 (.mov (.t 4))])
 .ret))⟩
def fn138 : AFunc := ⟨25, 3, [(6, none)],
 (.seq (.ops [.o 3 (.box (.t 0)),
 .o 6 (.mov .z)])
 (.seq (.ops [⟨(some 7), .fadr 0 (.t 3), none, true⟩,
 ⟨(some 8), .load none (.t 7), none, true⟩,
 ⟨(some 9), .mov (.t 1), none, true⟩,
 ⟨(some 10), .mov (.t 2), none, true⟩,
 ⟨(some 11), .call (.f 108) [(.t 8), (.t 9), (.t 10)], none, true⟩,
 ⟨(some 12), .fadr 1 (.t 3), none, true⟩,
 ⟨(some 13), .load none (.t 12), none, true⟩,
 ⟨(some 14), .mov (.t 1), none, true⟩,
 ⟨(some 15), .mov (.t 2), none, true⟩,
 ⟨(some 16), .call (.f 108) [(.t 13), (.t 14), (.t 15)], none, true⟩,
 ⟨(some 17), .fadr 0 (.t 3), none, true⟩,
 ⟨(some 18), .load none (.t 17), none, true⟩,
 ⟨(some 19), .fadr 1 (.t 3), none, true⟩,
 ⟨(some 20), .load none (.t 19), none, true⟩,
 ⟨(some 21), .bin .gtr (.t 18) (.t 20), none, true⟩,
 .o 22 (.call (.f 106) [(.t 21), (.c (.int .i64 11))]),
 .o 23 (.bslice 1 3 [.int .i64 0] [(0, (.t 11)), (1, (.t 16)), (2, (.t 22))]),
 .o 24 (.call (.f 105) [(.t 23)]),
 .o 6 (.mov (.t 24))])
 .ret))⟩
def fn139 : AFunc := ⟨26, 4, [(8, none)],
 (.seq (.ops [.o 4 (.box (.t 0)),
 .o 5 (.box (.t 1)),
 .o 8 (.mov .z)])
 (.seq (.seq (.ops [.o 10 (.load (some 3) (.t 4)),
 .o 11 (.load (some 3) (.t 5)),
 .o 12 (.call (.f 145) [(.t 10), (.t 11)]),
 .o 13 (.mov (.t 2)),
 .o 14 (.mov (.t 3)),
 .o 15 (.call (.f 108) [(.t 13), (.t 14), (.c (.int .i64 1000))]),
 .o 16 (.bslice 1 2 [.int .i64 0] [(0, (.t 12)), (1, (.t 15))]),
 .o 17 (.call (.f 105) [(.t 16)]),
 .o 9 (.mov (.t 17))])
 (.seq (.ops [.o 18 (.mov (.t 9)),
 .o 19 (.bin .neq (.t 18) .z)])
 (.cond (.t 19)
 (.seq (.ops [.o 20 (.mov (.t 9)),
 .o 8 (.mov (.t 20))])
 .ret)
 .skip)))
 (.seq (.ops [.o 21 (.load (some 3) (.t 4)),
 .o 22 (.load (some 3) (.t 5)),
 .o 23 (.call (.f 146) [(.t 21), (.t 22)]),
 .o 24 (.un .not (.t 23)),
 .o 25 (.call (.f 106) [(.t 24), (.c (.int .i64 7))]),
 .o 8 (.mov (.t 25))])
 .ret)))⟩
def fn140 : AFunc := ⟨28, 3, [(6, none)],
 (.seq (.ops [.o 3 (.box (.t 0)),
 .o 4 (.box (.t 1)),
 .o 5 (.box (.t 2)),
 .o 6 (.mov (.c (.nilSlice)))])
 (.seq (.ops [.o 7 (.box (.c (.nilSlice)))])
 (.seq (.seq (.ops [.o 9 (.load (some 3) (.t 3)),
 .o 10 (.load (some 3) (.t 4)),
 .o 11 (.call (.f 114) [(.t 9), (.t 10)])])
 (.block 0 (.rangeF (.t 11) [12] (.ops [.o 8 (.mov (.t 12))])
 (.block 1 (.seq (.ops [⟨(some 13), .load (some 3) (.t 3), none, true⟩,
 ⟨(some 14), .mov (.t 8), none, true⟩,
 ⟨(some 15), .call (.f 97) [(.t 13), (.t 14)], none, true⟩,
 ⟨(some 16), .load (some 3) (.t 4), none, true⟩,
 ⟨(some 17), .mov (.t 8), none, true⟩,
 ⟨(some 18), .call (.f 97) [(.t 16), (.t 17)], none, true⟩,
 ⟨(some 19), .load none (.t 5), none, true⟩,
 .o 20 (.call (.f 143) [(.t 18), (.t 19)]),
 .o 21 (.build [.int .i64 0, .int .i64 0, .int .i64 0, .int .i64 0] [(0, 2, (.t 15)), (2, 2, (.t 20))]),
 .o 22 (.call (.f 122) [(.t 21)])])
 (.cond (.t 22)
 (.ops [.o 23 (.load none (.t 7)),
 .o 24 (.mov (.t 8)),
 .o 25 (.bslice 1 1 [.int .i64 0] [(0, (.t 24))]),
 .o 26 (.app 1 8 (.t 23) (.t 25)),
 .x (.store 1 (.t 7) (.t 26))])
 .skip))))))
 (.seq (.ops [.o 27 (.load none (.t 7)),
 .o 6 (.mov (.t 27))])
 .ret))))⟩
def fn141 : AFunc := ⟨33, 2, [(4, some (some 2))],
 (.seq (.ops [.o 4 (.box (.c (.agg [.int .i64 0, .nilSlice])))])
 (.seq (.seq (.ops [.o 7 (.mov (.t 0)),
 .o 8 (.len .sl (.t 7)),
 .o 9 (.bin .lss (.t 8) .w)])
 (.cond (.t 9)
 (.ops [.o 10 (.bad),
 .x (.bad)])
 .skip))
 (.seq (.ops [.o 11 (.mov (.t 0)),
 .o 12 (.iadr 2 (.t 11) .z),
 .o 13 (.load (some 2) (.t 12)),
 .o 5 (.box (.c (.agg [.int .i64 0, .nilSlice]))),
 .x (.store 2 (.t 5) (.t 13))])
 (.seq (.seq (.ops [.o 6 (.mov .w)])
 (.block 0 (.loop (.seq (.seq (.ops [.o 14 (.mov (.t 6)),
 .o 15 (.mov (.t 0)),
 .o 16 (.len .sl (.t 15)),
 .o 17 (.bin .lss (.t 14) (.t 16))])
 (.cond (.t 17)
 .skip
 (.exit 0)))
 (.seq (.block 1 (.seq (.ops [⟨(some 20), .mov (.t 1), none, true⟩,
 ⟨(some 21), .mov (.t 0), none, true⟩,
 ⟨(some 22), .mov (.t 6), none, true⟩,
 ⟨(some 23), .iadr 2 (.t 21) (.t 22), none, true⟩,
 ⟨(some 24), .load (some 2) (.t 23), none, true⟩,
 ⟨(some 25), .load (some 2) (.t 5), none, true⟩,
 .o 26 (.call (.t 20) [(.t 24), (.t 25)]),
 .o 27 (.bin .lss (.t 26) .z)])
 (.cond (.t 27)
 (.ops [.o 28 (.mov (.t 0)),
 .o 29 (.mov (.t 6)),
 .o 30 (.iadr 2 (.t 28) (.t 29)),
 .o 31 (.load (some 2) (.t 30)),
 .x (.store 2 (.t 5) (.t 31))])
 .skip)))
 (.ops [.o 18 (.mov (.t 6)),
 .o 19 (.bin .add (.t 18) .w),
 .o 6 (.mov (.t 19))]))))))
 (.seq (.ops [.o 32 (.load (some 2) (.t 5)),
 .x (.store 2 (.t 4) (.t 32))])
 .ret)))))⟩
def fn142 : AFunc := ⟨32, 2, [(4, none)],
 (.seq (.ops [.o 2 (.box (.t 0)),
 .o 3 (.box (.t 1)),
 .o 4 (.mov .z)])
 (.seq (.ops [⟨(some 5), .fadr 1 (.t 2), none, true⟩,
 ⟨(some 6), .load none (.t 5), none, true⟩,
 ⟨(some 7), .len .sl (.t 6), none, true⟩,
 ⟨(some 8), .fadr 1 (.t 3), none, true⟩,
 ⟨(some 9), .load none (.t 8), none, true⟩,
 ⟨(some 10), .len .sl (.t 9), none, true⟩,
 ⟨(some 11), .call (.f 184) [(.t 7), (.t 10)], none, true⟩,
 ⟨(some 12), .fadr 0 (.t 2), none, true⟩,
 ⟨(some 13), .load none (.t 12), none, true⟩,
 ⟨(some 14), .fadr 0 (.t 2), none, true⟩,
 ⟨(some 15), .load none (.t 14), none, true⟩,
 ⟨(some 16), .un .neg (.t 15), none, true⟩,
 ⟨(some 17), .mx (.t 13) [(.t 16)], none, true⟩,
 ⟨(some 18), .fadr 0 (.t 3), none, true⟩,
 ⟨(some 19), .load none (.t 18), none, true⟩,
 ⟨(some 20), .fadr 0 (.t 3), none, true⟩,
 ⟨(some 21), .load none (.t 20), none, true⟩,
 ⟨(some 22), .un .neg (.t 21), none, true⟩,
 ⟨(some 23), .mx (.t 19) [(.t 22)], none, true⟩,
 ⟨(some 24), .call (.f 184) [(.t 17), (.t 23)], none, true⟩,
 ⟨(some 25), .fadr 0 (.t 2), none, true⟩,
 ⟨(some 26), .load none (.t 25), none, true⟩,
 ⟨(some 27), .fadr 0 (.t 3), none, true⟩,
 ⟨(some 28), .load none (.t 27), none, true⟩,
 .o 29 (.call (.f 184) [(.t 26), (.t 28)]),
 .o 30 (.bslice 1 3 [.int .i64 0] [(0, (.t 11)), (1, (.t 24)), (2, (.t 29))]),
 .o 31 (.call (.f 183) [(.t 30)]),
 .o 4 (.mov (.t 31))])
 .ret))⟩
def fn143 : AFunc := ⟨14, 2, [(4, some (some 2))],
 (.seq (.ops [.o 2 (.box (.t 0)),
 .o 4 (.box (.c (.agg [.int .i64 0, .int .i64 0])))])
 (.seq (.ops [.o 5 (.fadr 0 (.t 2)),
 .o 6 (.load none (.t 5)),
 .o 7 (.mov (.t 1)),
 .o 8 (.bin .add (.t 6) (.t 7)),
 .o 9 (.fadr 1 (.t 2)),
 .o 10 (.load none (.t 9)),
 .o 11 (.mov (.t 1)),
 .o 12 (.bin .add (.t 10) (.t 11)),
 .o 13 (.build [.int .i64 0, .int .i64 0] [(0, 1, (.t 8)), (1, 1, (.t 12))]),
 .x (.store 2 (.t 4) (.t 13))])
 .ret))⟩
def fn145 : AFunc := ⟨11, 2, [(4, none)],
 (.seq (.ops [.o 2 (.box (.t 0)),
 .o 3 (.box (.t 1)),
 .o 4 (.mov .z)])
 (.seq (.ops [⟨(some 5), .load (some 3) (.t 2), none, true⟩,
 ⟨(some 6), .call (.f 26) [(.t 5)], none, true⟩,
 ⟨(some 7), .load (some 3) (.t 3), none, true⟩,
 .o 8 (.call (.f 26) [(.t 7)]),
 .o 9 (.bslice 1 2 [.int .i64 0] [(0, (.t 6)), (1, (.t 8))]),
 .o 10 (.call (.f 105) [(.t 9)]),
 .o 4 (.mov (.t 10))])
 .ret))⟩
def fn146 : AFunc := ⟨9, 2, [(4, some none)],
 (.seq (.ops [.o 2 (.box (.t 0)),
 .o 3 (.box (.t 1)),
 .o 4 (.box (.c (.bool false)))])
 (.seq (.seq (.ops [.o 5 (.load (some 3) (.t 2)),
 .o 6 (.load (some 3) (.t 3)),
 .o 7 (.call (.f 114) [(.t 5), (.t 6)])])
 (.block 0 (.rangeF (.t 7) [8] .skip
 (.block 1 (.seq (.ops [.x (.store 1 (.t 4) (.c (.bool true)))])
 .ret)))))
 (.seq (.ops [.x (.store 1 (.t 4) (.c (.bool false)))])
 .ret)))⟩
def fn147 : AFunc := ⟨31, 2, [(4, some none), (5, some none)],
 (.seq (.ops [.o 2 (.box (.t 0)),
 .o 3 (.box (.t 1)),
 .o 4 (.box .z),
 .o 5 (.box (.c (.bool false)))])
 (.seq (.seq (.ops [.o 9 (.load (some 3) (.t 2)),
 .o 10 (.load (some 3) (.t 3)),
 .o 11 (.call (.f 114) [(.t 9), (.t 10)])])
 (.block 0 (.rangeF (.t 11) [12] (.ops [.o 6 (.mov (.t 12))])
 (.block 1 (.seq (.ops [⟨(some 13), .load (some 3) (.t 2), none, true⟩,
 ⟨(some 14), .mov (.t 6), none, true⟩,
 ⟨(some 15), .call (.f 96) [(.t 13), (.t 14)], none, true⟩,
 ⟨(some 16), .load (some 3) (.t 3), none, true⟩,
 ⟨(some 17), .mov (.t 6), none, true⟩,
 ⟨(some 18), .call (.f 96) [(.t 16), (.t 17)], none, true⟩,
 ⟨(some 7), .box (.c (.agg [.int .i64 0, .int .i64 0])), none, true⟩,
 ⟨(some 8), .box (.c (.agg [.int .i64 0, .int .i64 0])), none, true⟩,
 .x (.store 2 (.t 7) (.t 15)),
 .x (.store 2 (.t 8) (.t 18))])
 (.seq (.ops [.o 19 (.fadr 0 (.t 7)),
 .o 20 (.load none (.t 19)),
 .o 21 (.fadr 1 (.t 8)),
 .o 22 (.load none (.t 21)),
 .o 23 (.bin .mul (.t 20) (.t 22)),
 .o 24 (.fadr 0 (.t 8)),
 .o 25 (.load none (.t 24)),
 .o 26 (.fadr 1 (.t 7)),
 .o 27 (.load none (.t 26)),
 .o 28 (.bin .mul (.t 25) (.t 27)),
 .o 29 (.bin .gtr (.t 23) (.t 28))])
 (.cond (.t 29)
 (.seq (.ops [.o 30 (.mov (.t 6)),
 .x (.store 1 (.t 4) (.t 30)),
 .x (.store 1 (.t 5) (.c (.bool true)))])
 .ret)
 .skip)))))))
 (.seq (.ops [.x (.store 1 (.t 4) .z),
 .x (.store 1 (.t 5) (.c (.bool false)))])
 .ret)))⟩
def fn149 : AFunc := ⟨75, 2, [(4, none)],
 (.seq (.ops [.o 4 (.mov (.c (.str [])))])
 (.seq (.seq (.ops [.o 11 (.mov (.t 0)),
 .o 12 (.len .sl (.t 11))])
 (.block 0 (.seq (.ops [.o 14 (.bin .eql (.t 12) .z),
 .o 13 (.mov (.t 14))])
 (.cond (.t 13)
 (.seq (.ops [.o 4 (.mov (.c (.str [])))])
 .ret)
 (.seq (.ops [.o 16 (.bin .eql (.t 12) .w),
 .o 15 (.mov (.t 16))])
 (.cond (.t 15)
 (.seq (.ops [.o 17 (.mov (.t 0)),
 .o 18 (.iadr 1 (.t 17) .z),
 .o 19 (.load none (.t 18)),
 .o 4 (.mov (.t 19))])
 .ret)
 .skip))))))
 (.seq (.ops [.o 5 (.mov .z)])
 (.seq (.seq (.ops [.o 20 (.mov (.t 1)),
 .o 21 (.len .st (.t 20)),
 .o 22 (.bin .gtr (.t 21) .z)])
 (.cond (.t 22)
 (.seq (.seq (.ops [.o 23 (.mov (.t 1)),
 .o 24 (.len .st (.t 23)),
 .o 25 (.mov (.t 0)),
 .o 26 (.len .sl (.t 25)),
 .o 27 (.bin .sub (.t 26) .w),
 .o 28 (.bin .quo (.c (.int .i64 9223372036854775807)) (.t 27)),
 .o 29 (.bin .geq (.t 24) (.t 28))])
 (.cond (.t 29)
 (.ops [.o 30 (.bad),
 .x (.bad)])
 .skip))
 (.ops [.o 31 (.mov (.t 5)),
 .o 32 (.mov (.t 1)),
 .o 33 (.len .st (.t 32)),
 .o 34 (.mov (.t 0)),
 .o 35 (.len .sl (.t 34)),
 .o 36 (.bin .sub (.t 35) .w),
 .o 37 (.bin .mul (.t 33) (.t 36)),
 .o 38 (.bin .add (.t 31) (.t 37)),
 .o 5 (.mov (.t 38))]))
 .skip))
 (.seq (.seq (.ops [.o 39 (.mov (.t 0)),
 .o 40 (.len .sl (.t 39)),
 .o 41 (.mov .z)])
 (.block 1 (.loop (.seq (.ops [.o 42 (.bin .lss (.t 41) (.t 40))])
 (.seq (.cond (.t 42)
 .skip
 (.exit 1))
 (.seq (.block 2 (.seq (.ops [.o 43 (.iadr 1 (.t 39) (.t 41)),
 .o 44 (.load none (.t 43)),
 .o 7 (.mov (.t 44))])
 (.seq (.seq (.ops [.o 45 (.mov (.t 7)),
 .o 46 (.len .st (.t 45)),
 .o 47 (.mov (.t 5)),
 .o 48 (.bin .sub (.c (.int .i64 9223372036854775807)) (.t 47)),
 .o 49 (.bin .gtr (.t 46) (.t 48))])
 (.cond (.t 49)
 (.ops [.o 50 (.bad),
 .x (.bad)])
 .skip))
 (.ops [.o 51 (.mov (.t 5)),
 .o 52 (.mov (.t 7)),
 .o 53 (.len .st (.t 52)),
 .o 54 (.bin .add (.t 51) (.t 53)),
 .o 5 (.mov (.t 54))]))))
 (.ops [.o 55 (.bin .add (.t 41) .w),
 .o 41 (.mov (.t 55))])))))))
 (.seq (.ops [.o 8 (.box (.c (.agg [.nilPtr, .nilSlice])))])
 (.seq (.ops [.o 56 (.mov (.t 5)),
 .o 57 (.call (.f 185) [(.t 8), (.t 56)])])
 (.seq (.ops [.o 58 (.mov (.t 0)),
 .o 59 (.iadr 1 (.t 58) .z),
 .o 60 (.load none (.t 59)),
 .o 61 (.call (.f 186) [(.t 8), (.t 60)])])
 (.seq (.seq (.ops [.o 62 (.mov (.t 0)),
 .o 63 (.sl 1 (.t 62) (some .w) none),
 .o 64 (.len .sl (.t 63)),
 .o 65 (.mov .z)])
 (.block 3 (.loop (.seq (.ops [.o 66 (.bin .lss (.t 65) (.t 64))])
 (.seq (.cond (.t 66)
 .skip
 (.exit 3))
 (.seq (.block 4 (.seq (.ops [.o 67 (.iadr 1 (.t 63) (.t 65)),
 .o 68 (.load none (.t 67)),
 .o 10 (.mov (.t 68))])
 (.seq (.ops [.o 69 (.mov (.t 1)),
 .o 70 (.call (.f 186) [(.t 8), (.t 69)])])
 (.ops [.o 71 (.mov (.t 10)),
 .o 72 (.call (.f 186) [(.t 8), (.t 71)])]))))
 (.ops [.o 73 (.bin .add (.t 65) .w),
 .o 65 (.mov (.t 73))])))))))
 (.seq (.ops [.o 74 (.call (.f 187) [(.t 8)]),
 .o 4 (.mov (.t 74))])
 .ret))))))))))⟩
def fn150 : AFunc := ⟨22, 2, [(4, none)],
 (.seq (.ops [.o 4 (.mov (.c (.nilSlice)))])
 (.seq (.ops [.o 5 (.mov (.c (.nilSlice)))])
 (.seq (.seq (.ops [.o 8 (.mov (.t 0)),
 .o 9 (.len .sl (.t 8)),
 .o 10 (.mov .z)])
 (.block 0 (.loop (.seq (.ops [.o 11 (.bin .lss (.t 10) (.t 9))])
 (.seq (.cond (.t 11)
 .skip
 (.exit 0))
 (.seq (.block 1 (.seq (.ops [.o 12 (.iadr 3 (.t 8) (.t 10)),
 .o 13 (.load (some 3) (.t 12)),
 .o 7 (.box (.c (.agg [.str [], .int .i64 0, .nilSlice]))),
 .x (.store 3 (.t 7) (.t 13))])
 (.ops [.o 14 (.mov (.t 5)),
 .o 15 (.mov (.t 1)),
 .o 16 (.load (some 3) (.t 7)),
 .o 17 (.call (.t 15) [(.t 16)]),
 .o 18 (.bslice 1 1 [.str []] [(0, (.t 17))]),
 .o 19 (.app 1 16 (.t 14) (.t 18)),
 .o 5 (.mov (.t 19))])))
 (.ops [.o 20 (.bin .add (.t 10) .w),
 .o 10 (.mov (.t 20))])))))))
 (.seq (.ops [.o 21 (.mov (.t 5)),
 .o 4 (.mov (.t 21))])
 .ret))))⟩
def fn151 : AFunc := ⟨17, 1, [(2, none)],
 (.seq (.ops [.o 1 (.box (.t 0)),
 .o 2 (.mov (.c (.str [])))])
 (.seq (.ops [⟨(some 3), .fadr 0 (.t 1), none, true⟩,
 ⟨(some 4), .load none (.t 3), none, true⟩,
 ⟨(some 5), .bin .add (.c (.str [104, 111, 114, 105, 122, 111, 110, 32])) (.t 4), none, true⟩,
 ⟨(some 6), .bin .add (.t 5) (.c (.str [32])), none, true⟩,
 ⟨(some 7), .fadr 1 (.t 1), none, true⟩,
 ⟨(some 8), .load none (.t 7), none, true⟩,
 ⟨(some 9), .call (.f 188) [(.t 8)], none, true⟩,
 ⟨(some 10), .bin .add (.t 6) (.t 9), none, true⟩,
 ⟨(some 11), .bin .add (.t 10) (.c (.str [10])), none, true⟩,
 ⟨(some 12), .fadr 2 (.t 1), none, true⟩,
 ⟨(some 13), .load none (.t 12), none, true⟩,
 ⟨(some 14), .call (.f 189) [(.t 13), (.f 190)], none, true⟩,
 ⟨(some 15), .call (.f 149) [(.t 14), (.c (.str []))], none, true⟩,
 .o 16 (.bin .add (.t 11) (.t 15)),
 .o 2 (.mov (.t 16))])
 .ret))⟩
def fn152 : AFunc := ⟨4, 1, [(2, none)],
 (.seq (.ops [.o 1 (.box (.t 0)),
 .o 2 (.mov (.c (.nilFunc)))])
 (.seq (.ops [.o 3 (.mkfn (.func 191) [] [(.t 1)]),
 .o 2 (.mov (.t 3))])
 .ret))⟩
def fn153 : AFunc := ⟨11, 2, [(4, none), (5, none)],
 (.seq (.ops [.o 4 (.mov (.c (.str []))),
 .o 5 (.mov (.c (.bool false)))])
 (.seq (.ops [.o 6 (.mov (.t 0)),
 .o 7 (.mov (.t 1)),
 .o 8 (.call (.f 193) [(.t 6), (.t 7)]),
 .o 9 (.ext (.t 8) 0),
 .o 10 (.ext (.t 8) 1),
 .o 4 (.mov (.t 9)),
 .o 5 (.mov (.t 10))])
 .ret))⟩
def fn154 : AFunc := ⟨69, 2, [(4, none), (5, none)],
 (.seq (.ops [.o 4 (.mov (.c (.nilSlice))),
 .o 5 (.mov (.c (.bool false)))])
 (.seq (.ops [.o 14 (.mov (.t 1)),
 .o 15 (.call (.f 194) [(.t 14), (.c (.str [32]))]),
 .o 16 (.build [.nilSlice, .bool false] [(0, 1, (.t 15))]),
 .o 17 (.box (.t 16)),
 .o 6 (.mov (.t 17))])
 (.seq (.ops [.o 18 (.mov (.t 6)),
 .o 19 (.mkfn (.func 195) [(.t 18)] []),
 .o 20 (.mov (.t 6)),
 .o 21 (.mkfn (.func 196) [(.t 20)] []),
 .o 7 (.mov (.t 19)),
 .o 8 (.mov (.t 21))])
 (.seq (.ops [.o 23 (.call (.f 197) []),
 .o 24 (.mov (.t 7)),
 .o 25 (.call (.t 24) []),
 .o 26 (.look .s (.agg [.int .i64 0, .int .i64 0, .nilFunc]) true (.t 23) (.t 25)),
 .o 22 (.mov (.t 26)),
 .o 27 (.ext (.t 22) 0),
 .o 28 (.ext (.t 22) 1),
 .o 9 (.box (.c (.agg [.int .i64 0, .int .i64 0, .nilFunc]))),
 .x (.store 3 (.t 9) (.t 27)),
 .o 10 (.mov (.t 28))])
 (.seq (.seq (.ops [.o 29 (.mov (.t 10)),
 .o 30 (.un .not (.t 29))])
 (.cond (.t 30)
 (.seq (.ops [.o 4 (.mov (.c (.nilSlice))),
 .o 5 (.mov (.c (.bool false)))])
 .ret)
 .skip))
 (.seq (.ops [.o 11 (.mov (.c (.str [])))])
 (.seq (.seq (.ops [.o 31 (.fadr 0 (.t 9)),
 .o 32 (.load none (.t 31)),
 .o 33 (.mov .z)])
 (.block 0 (.loop (.seq (.ops [.o 34 (.bin .lss (.t 33) (.t 32))])
 (.seq (.cond (.t 34)
 .skip
 (.exit 0))
 (.seq (.block 1 (.ops [.o 35 (.mov (.t 7)),
 .o 36 (.call (.t 35) []),
 .o 11 (.mov (.t 36))]))
 (.ops [.o 37 (.bin .add (.t 33) .w),
 .o 33 (.mov (.t 37))])))))))
 (.seq (.ops [.o 12 (.mov (.c (.nilSlice)))])
 (.seq (.seq (.ops [.o 38 (.fadr 1 (.t 9)),
 .o 39 (.load none (.t 38)),
 .o 40 (.mov .z)])
 (.block 2 (.loop (.seq (.ops [.o 41 (.bin .lss (.t 40) (.t 39))])
 (.seq (.cond (.t 41)
 .skip
 (.exit 2))
 (.seq (.block 3 (.seq (.ops [.o 42 (.mov (.t 8)),
 .o 43 (.call (.t 42) []),
 .o 13 (.mov (.t 43))])
 (.ops [.o 44 (.mov (.t 12)),
 .o 45 (.mov (.t 13)),
 .o 46 (.bslice 1 1 [.int .i64 0] [(0, (.t 45))]),
 .o 47 (.app 1 8 (.t 44) (.t 46)),
 .o 12 (.mov (.t 47))])))
 (.ops [.o 48 (.bin .add (.t 40) .w),
 .o 40 (.mov (.t 48))])))))))
 (.seq (.seq (.ops [.o 49 (.mov (.t 6)),
 .o 50 (.nilchk (.t 49)),
 .o 51 (.fadr 1 (.t 50)),
 .o 52 (.load none (.t 51)),
 .o 53 (.mov (.t 52)),
 ⟨(some 54), .mov (.t 6), (some (53, false)), false⟩,
 ⟨(some 55), .nilchk (.t 54), (some (53, false)), false⟩,
 ⟨(some 56), .fadr 0 (.t 55), (some (53, false)), false⟩,
 ⟨(some 57), .load none (.t 56), (some (53, false)), false⟩,
 ⟨(some 58), .len .sl (.t 57), (some (53, false)), false⟩,
 ⟨(some 59), .bin .gtr (.t 58) .z, (some (53, false)), false⟩,
 .o 60 (.pick (.t 53) (.c (.bool true)) (.t 59))])
 (.cond (.t 60)
 (.seq (.ops [.o 4 (.mov (.c (.nilSlice))),
 .o 5 (.mov (.c (.bool false)))])
 .ret)
 .skip))
 (.seq (.ops [.o 61 (.fadr 2 (.t 9)),
 .o 62 (.load none (.t 61)),
 .o 63 (.mov (.t 0)),
 .o 64 (.mov (.t 11)),
 .o 65 (.mov (.t 12)),
 .o 66 (.call (.t 62) [(.t 63), (.t 64), (.t 65)]),
 .o 67 (.ext (.t 66) 0),
 .o 68 (.ext (.t 66) 1),
 .o 4 (.mov (.t 67)),
 .o 5 (.mov (.t 68))])
 .ret)))))))))))⟩
def fn155 : AFunc := ⟨36, 1, [(2, none)],
 (.seq (.ops [.o 2 (.mov (.c (.str [])))])
 (.seq (.seq (.ops [.o 3 (.mov (.t 0)),
 .o 4 (.bin .lss (.t 3) .z)])
 (.cond (.t 4)
 (.seq (.seq (.ops [.o 5 (.mov (.t 0)),
 .o 6 (.bin .gtr (.t 5) (.c (.int .i64 (-10))))])
 (.cond (.t 6)
 (.seq (.ops [.o 7 (.mov (.t 0)),
 .o 8 (.bin .sub .z (.t 7)),
 .o 9 (.call (.f 155) [(.t 8)]),
 .o 10 (.bin .add (.c (.str [45])) (.t 9)),
 .o 2 (.mov (.t 10))])
 .ret)
 .skip))
 (.seq (.ops [.o 11 (.mov (.t 0)),
 .o 12 (.bin .quo (.t 11) (.c (.int .i64 10))),
 .o 13 (.call (.f 155) [(.t 12)]),
 .o 14 (.mov (.t 0)),
 .o 15 (.bin .rem (.t 14) (.c (.int .i64 10))),
 .o 16 (.bin .sub .z (.t 15)),
 .o 17 (.call (.f 155) [(.t 16)]),
 .o 18 (.bin .add (.t 13) (.t 17)),
 .o 2 (.mov (.t 18))])
 .ret))
 .skip))
 (.seq (.seq (.ops [.o 19 (.mov (.t 0)),
 .o 20 (.bin .lss (.t 19) (.c (.int .i64 10)))])
 (.cond (.t 20)
 (.seq (.ops [.o 21 (.mov (.t 0)),
 .o 22 (.bin .add (.c (.int .i64 48)) (.t 21)),
 .o 23 (.conv (.i2i .u8) (.t 22)),
 .o 24 (.bslice 1 1 [.int .u8 0] [(0, (.t 23))]),
 .o 25 (.conv .b2s (.t 24)),
 .o 2 (.mov (.t 25))])
 .ret)
 .skip))
 (.seq (.ops [⟨(some 26), .mov (.t 0), none, true⟩,
 ⟨(some 27), .bin .quo (.t 26) (.c (.int .i64 10)), none, true⟩,
 ⟨(some 28), .call (.f 155) [(.t 27)], none, true⟩,
 ⟨(some 29), .mov (.t 0), none, true⟩,
 ⟨(some 30), .bin .rem (.t 29) (.c (.int .i64 10)), none, true⟩,
 ⟨(some 31), .bin .add (.c (.int .i64 48)) (.t 30), none, true⟩,
 ⟨(some 32), .conv (.i2i .u8) (.t 31), none, true⟩,
 ⟨(some 33), .bslice 1 1 [.int .u8 0] [(0, (.t 32))], none, true⟩,
 ⟨(some 34), .conv .b2s (.t 33), none, true⟩,
 .o 35 (.bin .add (.t 28) (.t 34)),
 .o 2 (.mov (.t 35))])
 .ret))))⟩
def fn156 : AFunc := ⟨94, 2, [(4, none), (5, none)],
 (.seq (.ops [.o 4 (.mov (.c (.nilSlice))),
 .o 5 (.mov (.c (.bool false)))])
 (.seq (.ops [.o 12 (.mov (.t 1)),
 .o 13 (.call (.f 90) [(.t 12), (.c (.int .u8 32))]),
 .o 6 (.mov (.t 13))])
 (.seq (.seq (.ops [.o 14 (.mov (.t 6)),
 .o 15 (.len .sl (.t 14)),
 .o 16 (.bin .neq (.t 15) (.c (.int .i64 3)))])
 (.cond (.t 16)
 (.seq (.ops [.o 4 (.mov (.c (.nilSlice))),
 .o 5 (.mov (.c (.bool false)))])
 .ret)
 .skip))
 (.seq (.ops [.o 18 (.mov (.t 6)),
 .o 19 (.iadr 1 (.t 18) (.c (.int .i64 2))),
 .o 20 (.load none (.t 19)),
 .o 21 (.call (.f 198) [(.t 20)]),
 .o 17 (.mov (.t 21)),
 .o 22 (.ext (.t 17) 0),
 .o 23 (.ext (.t 17) 1),
 .o 7 (.mov (.t 22)),
 .o 8 (.mov (.t 23))])
 (.seq (.seq (.ops [.o 24 (.mov (.t 6)),
 .o 25 (.iadr 1 (.t 24) .z),
 .o 26 (.load none (.t 25)),
 .o 27 (.bin .eql (.t 26) (.c (.str [104, 111, 114, 105, 122, 111, 110]))),
 .o 28 (.mov (.t 27)),
 ⟨(some 29), .mov (.t 6), (some (28, true)), false⟩,
 ⟨(some 30), .iadr 1 (.t 29) .w, (some (28, true)), false⟩,
 ⟨(some 31), .load none (.t 30), (some (28, true)), false⟩,
 ⟨(some 32), .bin .neq (.t 31) (.c (.str [])), (some (28, true)), false⟩,
 .o 33 (.pick (.t 28) (.t 32) (.c (.bool false))),
 .o 34 (.mov (.t 33)),
 ⟨(some 35), .mov (.t 8), (some (34, true)), false⟩,
 .o 36 (.pick (.t 34) (.t 35) (.c (.bool false)))])
 (.cond (.t 36)
 (.seq (.ops [.o 37 (.mov (.t 0)),
 .o 38 (.mov (.t 6)),
 .o 39 (.iadr 1 (.t 38) .w),
 .o 40 (.load none (.t 39)),
 .o 41 (.mov (.t 7)),
 .o 42 (.build [.str [], .int .i64 0, .nilSlice] [(0, 1, (.t 40)), (1, 1, (.t 41))]),
 .o 43 (.bslice 3 1 [.str [], .int .i64 0, .nilSlice] [(0, (.t 42))]),
 .o 44 (.app 3 48 (.t 37) (.t 43)),
 .o 4 (.mov (.t 44)),
 .o 5 (.mov (.c (.bool true)))])
 .ret)
 .skip))
 (.seq (.ops [.o 46 (.mov (.t 6)),
 .o 47 (.iadr 1 (.t 46) .w),
 .o 48 (.load none (.t 47)),
 .o 49 (.call (.f 198) [(.t 48)]),
 .o 45 (.mov (.t 49)),
 .o 50 (.ext (.t 45) 0),
 .o 51 (.ext (.t 45) 1),
 .o 9 (.mov (.t 50)),
 .o 10 (.mov (.t 51))])
 (.seq (.seq (.ops [.o 52 (.mov (.t 6)),
 .o 53 (.iadr 1 (.t 52) .z),
 .o 54 (.load none (.t 53)),
 .o 55 (.bin .neq (.t 54) (.c (.str [112, 105, 99, 107]))),
 .o 56 (.mov (.t 55)),
 ⟨(some 57), .mov (.t 10), (some (56, false)), false⟩,
 ⟨(some 58), .un .not (.t 57), (some (56, false)), false⟩,
 .o 59 (.pick (.t 56) (.c (.bool true)) (.t 58)),
 .o 60 (.mov (.t 59)),
 ⟨(some 61), .mov (.t 8), (some (60, false)), false⟩,
 ⟨(some 62), .un .not (.t 61), (some (60, false)), false⟩,
 .o 63 (.pick (.t 60) (.c (.bool true)) (.t 62)),
 .o 64 (.mov (.t 63)),
 ⟨(some 65), .mov (.t 0), (some (64, false)), false⟩,
 ⟨(some 66), .len .sl (.t 65), (some (64, false)), false⟩,
 ⟨(some 67), .bin .eql (.t 66) .z, (some (64, false)), false⟩,
 .o 68 (.pick (.t 64) (.c (.bool true)) (.t 67))])
 (.cond (.t 68)
 (.seq (.ops [.o 4 (.mov (.c (.nilSlice))),
 .o 5 (.mov (.c (.bool false)))])
 .ret)
 .skip))
 (.seq (.ops [.o 69 (.mov (.t 0)),
 .o 70 (.mov (.t 0)),
 .o 71 (.len .sl (.t 70)),
 .o 72 (.bin .sub (.t 71) .w),
 .o 73 (.iadr 3 (.t 69) (.t 72)),
 .o 74 (.load (some 3) (.t 73)),
 .o 75 (.call (.f 79) [(.t 74)]),
 .o 11 (.box (.c (.agg [.str [], .int .i64 0, .nilSlice]))),
 .x (.store 3 (.t 11) (.t 75))])
 (.seq (.ops [.o 76 (.fadr 2 (.t 11)),
 .o 77 (.load none (.t 76)),
 .o 78 (.mov (.t 9)),
 .o 79 (.mov (.t 7)),
 .o 80 (.build [.int .i64 0, .int .i64 0] [(0, 1, (.t 78)), (1, 1, (.t 79))]),
 .o 81 (.bslice 2 1 [.int .i64 0, .int .i64 0] [(0, (.t 80))]),
 .o 82 (.app 2 16 (.t 77) (.t 81)),
 .o 83 (.fadr 2 (.t 11)),
 .x (.store 1 (.t 83) (.t 82))])
 (.seq (.ops [⟨(some 84), .bslice 3 0 [.str [], .int .i64 0, .nilSlice] [], none, true⟩,
 ⟨(some 85), .mov (.t 0), none, true⟩,
 ⟨(some 86), .mov (.t 0), none, true⟩,
 ⟨(some 87), .len .sl (.t 86), none, true⟩,
 ⟨(some 88), .bin .sub (.t 87) .w, none, true⟩,
 ⟨(some 89), .sl 3 (.t 85) none (some (.t 88)), none, true⟩,
 ⟨(some 90), .app 3 48 (.t 84) (.t 89), none, true⟩,
 ⟨(some 91), .load (some 3) (.t 11), none, true⟩,
 ⟨(some 92), .bslice 3 1 [.str [], .int .i64 0, .nilSlice] [(0, (.t 91))], none, true⟩,
 .o 93 (.app 3 48 (.t 90) (.t 92)),
 .o 4 (.mov (.t 93)),
 .o 5 (.mov (.c (.bool true)))])
 .ret))))))))))⟩
def fn157 : AFunc := ⟨20, 2, [(4, none)],
 (.seq (.ops [.o 2 (.box (.t 0)),
 .o 4 (.mov (.c (.bool false)))])
 (.seq (.ops [.o 8 (.load (some 3) (.t 2)),
 .o 9 (.call (.f 167) [(.t 8)]),
 .o 7 (.mov (.t 9)),
 .o 10 (.ext (.t 7) 0),
 .o 11 (.ext (.t 7) 1),
 .o 5 (.mov (.t 10)),
 .o 6 (.mov (.t 11))])
 (.seq (.ops [.o 12 (.mov (.t 5)),
 .o 13 (.mov (.t 1)),
 .o 14 (.bin .leq (.t 12) (.t 13)),
 .o 15 (.mov (.t 14)),
 ⟨(some 16), .mov (.t 1), (some (15, true)), false⟩,
 ⟨(some 17), .mov (.t 6), (some (15, true)), false⟩,
 ⟨(some 18), .bin .leq (.t 16) (.t 17), (some (15, true)), false⟩,
 .o 19 (.pick (.t 15) (.t 18) (.c (.bool false))),
 .o 4 (.mov (.t 19))])
 .ret)))⟩
def fn158 : AFunc := ⟨19, 2, [(4, none)],
 (.seq (.ops [.o 4 (.mov .z)])
 (.seq (.seq (.ops [.o 6 (.mov (.t 0)),
 .o 7 (.len .sl (.t 6)),
 .o 8 (.mov .z)])
 (.block 0 (.loop (.seq (.ops [.o 9 (.bin .lss (.t 8) (.t 7))])
 (.seq (.cond (.t 9)
 .skip
 (.exit 0))
 (.seq (.block 1 (.seq (.ops [.o 10 (.mov (.t 8)),
 .o 5 (.mov (.t 10))])
 (.seq (.ops [.o 11 (.mov (.t 1)),
 .o 12 (.mov (.t 0)),
 .o 13 (.mov (.t 5)),
 .o 14 (.iadr 2 (.t 12) (.t 13)),
 .o 15 (.load (some 2) (.t 14)),
 .o 16 (.call (.t 11) [(.t 15)])])
 (.cond (.t 16)
 (.seq (.ops [.o 17 (.mov (.t 5)),
 .o 4 (.mov (.t 17))])
 .ret)
 .skip))))
 (.ops [.o 18 (.bin .add (.t 8) .w),
 .o 8 (.mov (.t 18))])))))))
 (.seq (.ops [.o 4 (.mov (.c (.int .i64 (-1))))])
 .ret)))⟩
def fn159 : AFunc := ⟨8, 1, [(3, none)],
 (.seq (.ops [.o 2 (.box (.t 0)),
 .o 3 (.mov (.c (.bool false)))])
 (.seq (.ops [.o 4 (.fadr 0 (.t 2)),
 .o 5 (.load none (.t 4)),
 .o 6 (.load none (.t 1)),
 .o 7 (.bin .geq (.t 5) (.t 6)),
 .o 3 (.mov (.t 7))])
 .ret))⟩
def fn160 : AFunc := ⟨25, 2, [(4, some (some 2))],
 (.seq (.ops [.o 4 (.box (.c (.agg [.int .i64 0, .int .i64 0])))])
 (.seq (.ops [.o 7 (.mov (.t 0)),
 .o 8 (.mov (.t 0)),
 .o 9 (.un .neg (.t 8)),
 .o 10 (.mx (.t 7) [(.t 9)]),
 .o 11 (.mov (.t 1)),
 .o 5 (.mov (.t 10)),
 .o 6 (.mov (.t 11))])
 (.seq (.block 0 (.loop (.seq (.seq (.ops [.o 12 (.mov (.t 6)),
 .o 13 (.bin .neq (.t 12) .z)])
 (.cond (.t 13)
 .skip
 (.exit 0)))
 (.block 1 (.ops [⟨(some 14), .mov (.t 6), none, true⟩,
 ⟨(some 15), .mov (.t 5), none, true⟩,
 ⟨(some 16), .mov (.t 6), none, true⟩,
 ⟨(some 17), .bin .rem (.t 15) (.t 16), none, true⟩,
 ⟨(some 5), .mov (.t 14), none, true⟩,
 .o 6 (.mov (.t 17))])))))
 (.seq (.ops [⟨(some 18), .mov (.t 0), none, true⟩,
 ⟨(some 19), .mov (.t 5), none, true⟩,
 ⟨(some 20), .bin .quo (.t 18) (.t 19), none, true⟩,
 ⟨(some 21), .mov (.t 1), none, true⟩,
 ⟨(some 22), .mov (.t 5), none, true⟩,
 ⟨(some 23), .bin .quo (.t 21) (.t 22), none, true⟩,
 .o 24 (.build [.int .i64 0, .int .i64 0] [(0, 1, (.t 20)), (1, 1, (.t 23))]),
 .x (.store 2 (.t 4) (.t 24))])
 .ret))))⟩
def fn161 : AFunc := ⟨19, 1, [(2, none)],
 (.seq (.ops [.o 1 (.box (.t 0)),
 .o 2 (.mov .z)])
 (.seq (.ops [.o 4 (.fadr 0 (.t 1)),
 .o 5 (.load none (.t 4)),
 .o 6 (.fadr 1 (.t 1)),
 .o 7 (.load none (.t 6)),
 .o 8 (.bin .quo (.t 5) (.t 7)),
 .o 3 (.mov (.t 8))])
 (.seq (.seq (.ops [.o 9 (.mov (.t 3)),
 .o 10 (.fadr 1 (.t 1)),
 .o 11 (.load none (.t 10)),
 .o 12 (.bin .mul (.t 9) (.t 11)),
 .o 13 (.fadr 0 (.t 1)),
 .o 14 (.load none (.t 13)),
 .o 15 (.bin .gtr (.t 12) (.t 14))])
 (.cond (.t 15)
 (.ops [.o 16 (.mov (.t 3)),
 .o 17 (.bin .sub (.t 16) .w),
 .o 3 (.mov (.t 17))])
 .skip))
 (.seq (.ops [.o 18 (.mov (.t 3)),
 .o 2 (.mov (.t 18))])
 .ret))))⟩
def fn162 : AFunc := ⟨11, 1, [(2, none)],
 (.seq (.ops [.o 1 (.box (.t 0)),
 .o 2 (.mov .z)])
 (.seq (.ops [.o 3 (.fadr 0 (.t 1)),
 .o 4 (.load none (.t 3)),
 .o 5 (.un .neg (.t 4)),
 .o 6 (.fadr 1 (.t 1)),
 .o 7 (.load none (.t 6)),
 .o 8 (.build [.int .i64 0, .int .i64 0] [(0, 1, (.t 5)), (1, 1, (.t 7))]),
 .o 9 (.call (.f 161) [(.t 8)]),
 .o 10 (.un .neg (.t 9)),
 .o 2 (.mov (.t 10))])
 .ret))⟩
def fn163 : AFunc := ⟨42, 1, [(2, none)],
 (.seq (.ops [.o 2 (.mov (.c (.bool false)))])
 (.seq (.seq (.ops [.o 4 (.mov (.t 0)),
 .o 5 (.len .st (.t 4)),
 .o 6 (.bin .eql (.t 5) .z),
 .o 7 (.mov (.t 6)),
 ⟨(some 8), .mov (.t 0), (some (7, false)), false⟩,
 ⟨(some 9), .len .st (.t 8), (some (7, false)), false⟩,
 ⟨(some 10), .bin .gtr (.t 9) (.c (.int .i64 24)), (some (7, false)), false⟩,
 .o 11 (.pick (.t 7) (.c (.bool true)) (.t 10)),
 .o 12 (.mov (.t 11)),
 ⟨(some 13), .mov (.t 0), (some (12, false)), false⟩,
 ⟨(some 14), .ixs (.t 13) .z, (some (12, false)), false⟩,
 ⟨(some 15), .call (.f 199) [(.t 14)], (some (12, false)), false⟩,
 ⟨(some 16), .un .not (.t 15), (some (12, false)), false⟩,
 .o 17 (.pick (.t 12) (.c (.bool true)) (.t 16))])
 (.cond (.t 17)
 (.seq (.ops [.o 2 (.mov (.c (.bool false)))])
 .ret)
 .skip))
 (.seq (.seq (.ops [.o 3 (.mov .w)])
 (.block 0 (.loop (.seq (.seq (.ops [.o 18 (.mov (.t 3)),
 .o 19 (.mov (.t 0)),
 .o 20 (.len .st (.t 19)),
 .o 21 (.bin .lss (.t 18) (.t 20))])
 (.cond (.t 21)
 .skip
 (.exit 0)))
 (.seq (.block 1 (.seq (.ops [.o 24 (.mov (.t 0)),
 .o 25 (.mov (.t 3)),
 .o 26 (.ixs (.t 24) (.t 25)),
 .o 27 (.call (.f 199) [(.t 26)]),
 .o 28 (.un .not (.t 27)),
 .o 29 (.mov (.t 28)),
 ⟨(some 30), .mov (.t 0), (some (29, true)), false⟩,
 ⟨(some 31), .mov (.t 3), (some (29, true)), false⟩,
 ⟨(some 32), .ixs (.t 30) (.t 31), (some (29, true)), false⟩,
 ⟨(some 33), .call (.f 200) [(.t 32)], (some (29, true)), false⟩,
 ⟨(some 34), .un .not (.t 33), (some (29, true)), false⟩,
 .o 35 (.pick (.t 29) (.t 34) (.c (.bool false))),
 .o 36 (.mov (.t 35)),
 ⟨(some 37), .mov (.t 0), (some (36, true)), false⟩,
 ⟨(some 38), .mov (.t 3), (some (36, true)), false⟩,
 ⟨(some 39), .ixs (.t 37) (.t 38), (some (36, true)), false⟩,
 ⟨(some 40), .bin .neq (.t 39) (.c (.int .u8 95)), (some (36, true)), false⟩,
 .o 41 (.pick (.t 36) (.t 40) (.c (.bool false)))])
 (.cond (.t 41)
 (.seq (.ops [.o 2 (.mov (.c (.bool false)))])
 .ret)
 .skip)))
 (.ops [.o 22 (.mov (.t 3)),
 .o 23 (.bin .add (.t 22) .w),
 .o 3 (.mov (.t 23))]))))))
 (.seq (.ops [.o 2 (.mov (.c (.bool true)))])
 .ret))))⟩
def fn164 : AFunc := ⟨16, 2, [(4, none)],
 (.seq (.ops [.o 4 (.mov .z)])
 (.seq (.block 0 (.loop (.seq (.seq (.ops [.o 5 (.mov (.t 1)),
 .o 6 (.bin .neq (.t 5) .z)])
 (.cond (.t 6)
 .skip
 (.exit 0)))
 (.block 1 (.ops [⟨(some 7), .mov (.t 1), none, true⟩,
 ⟨(some 8), .mov (.t 0), none, true⟩,
 ⟨(some 9), .mov (.t 1), none, true⟩,
 ⟨(some 10), .bin .rem (.t 8) (.t 9), none, true⟩,
 ⟨(some 0), .mov (.t 7), none, true⟩,
 .o 1 (.mov (.t 10))])))))
 (.seq (.seq (.ops [.o 11 (.mov (.t 0)),
 .o 12 (.bin .lss (.t 11) .z)])
 (.cond (.t 12)
 (.seq (.ops [.o 13 (.mov (.t 0)),
 .o 14 (.bin .sub .z (.t 13)),
 .o 4 (.mov (.t 14))])
 .ret)
 .skip))
 (.seq (.ops [.o 15 (.mov (.t 0)),
 .o 4 (.mov (.t 15))])
 .ret))))⟩
def fn165 : AFunc := ⟨19, 2, [(4, none)],
 (.seq (.ops [.o 4 (.mov .z)])
 (.seq (.seq (.ops [.o 6 (.mov (.t 0)),
 .o 7 (.len .sl (.t 6)),
 .o 8 (.mov .z)])
 (.block 0 (.loop (.seq (.ops [.o 9 (.bin .lss (.t 8) (.t 7))])
 (.seq (.cond (.t 9)
 .skip
 (.exit 0))
 (.seq (.block 1 (.seq (.ops [.o 10 (.mov (.t 8)),
 .o 5 (.mov (.t 10))])
 (.seq (.ops [.o 11 (.mov (.t 1)),
 .o 12 (.mov (.t 0)),
 .o 13 (.mov (.t 5)),
 .o 14 (.iadr 3 (.t 12) (.t 13)),
 .o 15 (.load (some 3) (.t 14)),
 .o 16 (.call (.t 11) [(.t 15)])])
 (.cond (.t 16)
 (.seq (.ops [.o 17 (.mov (.t 5)),
 .o 4 (.mov (.t 17))])
 .ret)
 .skip))))
 (.ops [.o 18 (.bin .add (.t 8) .w),
 .o 8 (.mov (.t 18))])))))))
 (.seq (.ops [.o 4 (.mov (.c (.int .i64 (-1))))])
 .ret)))⟩
def fn166 : AFunc := ⟨33, 1, [],
 (.seq (.ops [.o 10 (.load (some 3) (.t 1)),
 .o 11 (.call (.f 167) [(.t 10)]),
 .o 9 (.mov (.t 11)),
 .o 12 (.ext (.t 9) 0),
 .o 13 (.ext (.t 9) 1),
 .o 4 (.mov (.t 12)),
 .o 5 (.mov (.t 13))])
 (.seq (.ops [.o 15 (.load (some 3) (.t 2)),
 .o 16 (.call (.f 167) [(.t 15)]),
 .o 14 (.mov (.t 16)),
 .o 17 (.ext (.t 14) 0),
 .o 18 (.ext (.t 14) 1),
 .o 6 (.mov (.t 17)),
 .o 7 (.mov (.t 18))])
 (.seq (.ops [.o 19 (.mov (.t 4)),
 .o 20 (.mov (.t 6)),
 .o 21 (.mx (.t 19) [(.t 20)]),
 .o 8 (.mov (.t 21))])
 (.block 0 (.loop (.seq (.seq (.ops [.o 22 (.mov (.t 8)),
 .o 23 (.mov (.t 5)),
 .o 24 (.mov (.t 7)),
 .o 25 (.mn (.t 23) [(.t 24)]),
 .o 26 (.bin .leq (.t 22) (.t 25))])
 (.cond (.t 26)
 .skip
 (.exit 0)))
 (.seq (.block 1 (.seq (.ops [.o 29 (.mov (.t 0)),
 .o 30 (.mov (.t 8)),
 .o 31 (.call (.t 29) [(.t 30)]),
 .o 32 (.un .not (.t 31))])
 (.cond (.t 32)
 .ret
 .skip)))
 (.ops [.o 27 (.mov (.t 8)),
 .o 28 (.bin .add (.t 27) .w),
 .o 8 (.mov (.t 28))]))))))))⟩
def fn167 : AFunc := ⟨18, 1, [(2, none), (3, none)],
 (.seq (.ops [.o 1 (.box (.t 0)),
 .o 2 (.mov .z),
 .o 3 (.mov .z)])
 (.seq (.ops [⟨(some 4), .fadr 2 (.t 1), none, true⟩,
 ⟨(some 5), .load none (.t 4), none, true⟩,
 ⟨(some 6), .iadr 2 (.t 5) .z, none, true⟩,
 ⟨(some 7), .fadr 0 (.t 6), none, true⟩,
 ⟨(some 8), .load none (.t 7), none, true⟩,
 ⟨(some 9), .fadr 2 (.t 1), none, true⟩,
 ⟨(some 10), .load none (.t 9), none, true⟩,
 ⟨(some 11), .fadr 2 (.t 1), none, true⟩,
 ⟨(some 12), .load none (.t 11), none, true⟩,
 ⟨(some 13), .len .sl (.t 12), none, true⟩,
 ⟨(some 14), .bin .sub (.t 13) .w, none, true⟩,
 ⟨(some 15), .iadr 2 (.t 10) (.t 14), none, true⟩,
 ⟨(some 16), .fadr 0 (.t 15), none, true⟩,
 ⟨(some 17), .load none (.t 16), none, true⟩,
 ⟨(some 2), .mov (.t 8), none, true⟩,
 .o 3 (.mov (.t 17))])
 .ret))⟩
def fn168 : AFunc := ⟨5, 1, [(2, none)],
 (.seq (.ops [.o 1 (.box (.t 0)),
 .o 2 (.mov .z)])
 (.seq (.ops [.o 3 (.load (some 2) (.t 1)),
 .o 4 (.call (.f 138) [(.t 3), .w, (.c (.int .i64 1000))]),
 .o 2 (.mov (.t 4))])
 .ret))⟩
def fn169 : AFunc := ⟨8, 1, [(3, none)],
 (.seq (.ops [.o 2 (.box (.t 0)),
 .o 3 (.mov (.c (.bool false)))])
 (.seq (.ops [.o 4 (.load (some 3) (.t 2)),
 .o 5 (.load none (.t 1)),
 .o 6 (.call (.f 157) [(.t 4), (.t 5)]),
 .o 7 (.un .not (.t 6)),
 .o 3 (.mov (.t 7))])
 .ret))⟩
def fn170 : AFunc := ⟨19, 2, [(4, none)],
 (.seq (.ops [.o 4 (.mov .z)])
 (.seq (.seq (.ops [.o 6 (.mov (.t 0)),
 .o 7 (.len .sl (.t 6)),
 .o 8 (.mov .z)])
 (.block 0 (.loop (.seq (.ops [.o 9 (.bin .lss (.t 8) (.t 7))])
 (.seq (.cond (.t 9)
 .skip
 (.exit 0))
 (.seq (.block 1 (.seq (.ops [.o 10 (.mov (.t 8)),
 .o 5 (.mov (.t 10))])
 (.seq (.ops [.o 11 (.mov (.t 1)),
 .o 12 (.mov (.t 0)),
 .o 13 (.mov (.t 5)),
 .o 14 (.iadr 4 (.t 12) (.t 13)),
 .o 15 (.load (some 4) (.t 14)),
 .o 16 (.call (.t 11) [(.t 15)])])
 (.cond (.t 16)
 (.seq (.ops [.o 17 (.mov (.t 5)),
 .o 4 (.mov (.t 17))])
 .ret)
 .skip))))
 (.ops [.o 18 (.bin .add (.t 8) .w),
 .o 8 (.mov (.t 18))])))))))
 (.seq (.ops [.o 4 (.mov (.c (.int .i64 (-1))))])
 .ret)))⟩
def fn171 : AFunc := ⟨9, 1, [(2, none)],
 (.seq (.ops [.o 2 (.mov (.c (.nilSlice)))])
 (.seq (.ops [.o 4 (.mov (.t 0)),
 .o 5 (.call (.f 201) [(.t 4)]),
 .o 3 (.mov (.t 5))])
 (.seq (.ops [.o 6 (.mov (.t 3)),
 .o 7 (.call (.f 182) [(.t 6)])])
 (.seq (.ops [.o 8 (.mov (.t 3)),
 .o 2 (.mov (.t 8))])
 .ret))))⟩
def fn172 : AFunc := ⟨4, 1, [(2, none)],
 (.seq (.ops [.o 1 (.box (.t 0)),
 .o 2 (.mov (.c (.nilFunc)))])
 (.seq (.ops [.o 3 (.mkfn (.func 202) [] [(.t 1)]),
 .o 2 (.mov (.t 3))])
 .ret))⟩
def fn173 : AFunc := ⟨19, 2, [(4, none)],
 (.seq (.ops [.o 4 (.mov .z)])
 (.seq (.seq (.ops [.o 6 (.mov (.t 0)),
 .o 7 (.len .sl (.t 6)),
 .o 8 (.mov .z)])
 (.block 0 (.loop (.seq (.ops [.o 9 (.bin .lss (.t 8) (.t 7))])
 (.seq (.cond (.t 9)
 .skip
 (.exit 0))
 (.seq (.block 1 (.seq (.ops [.o 10 (.mov (.t 8)),
 .o 5 (.mov (.t 10))])
 (.seq (.ops [.o 11 (.mov (.t 1)),
 .o 12 (.mov (.t 0)),
 .o 13 (.mov (.t 5)),
 .o 14 (.iadr 1 (.t 12) (.t 13)),
 .o 15 (.load none (.t 14)),
 .o 16 (.call (.t 11) [(.t 15)])])
 (.cond (.t 16)
 (.seq (.ops [.o 17 (.mov (.t 5)),
 .o 4 (.mov (.t 17))])
 .ret)
 .skip))))
 (.ops [.o 18 (.bin .add (.t 8) .w),
 .o 8 (.mov (.t 18))])))))))
 (.seq (.ops [.o 4 (.mov (.c (.int .i64 (-1))))])
 .ret)))⟩
def fn174 : AFunc := ⟨14, 1, [(5, none)],
 (.seq (.ops [.o 5 (.mov (.c (.bool false)))])
 (.seq (.ops [⟨(some 6), .load (some 3) (.t 1), none, true⟩,
 ⟨(some 7), .load none (.t 2), none, true⟩,
 ⟨(some 8), .load none (.t 3), none, true⟩,
 ⟨(some 9), .mov (.t 0), none, true⟩,
 ⟨(some 10), .call (.f 132) [(.t 6), (.t 7), (.t 8), (.t 9)], none, true⟩,
 ⟨(some 11), .load (some 3) (.t 1), none, true⟩,
 ⟨(some 12), .mkfn (.func 176) [(.t 11)] [], none, true⟩,
 .o 13 (.call (.f 175) [(.t 10), (.t 12)]),
 .o 5 (.mov (.t 13))])
 .ret))⟩
def fn175 : AFunc := ⟨9, 2, [(4, none)],
 (.seq (.ops [.o 4 (.mov (.c (.bool false)))])
 (.seq (.ops [.o 5 (.mov (.t 0)),
 .o 6 (.mov (.t 1)),
 .o 7 (.call (.f 173) [(.t 5), (.t 6)]),
 .o 8 (.bin .geq (.t 7) .z),
 .o 4 (.mov (.t 8))])
 .ret))⟩
def fn176 : AFunc := ⟨10, 2, [(4, none)],
 (.seq (.ops [.o 2 (.box (.t 0)),
 .o 4 (.mov (.c (.bool false)))])
 (.seq (.ops [.o 5 (.load (some 3) (.t 2)),
 .o 6 (.mov (.t 1)),
 .o 7 (.call (.f 180) [(.t 5), (.t 6)]),
 .o 8 (.len .sl (.t 7)),
 .o 9 (.bin .lss (.t 8) (.c (.int .i64 4))),
 .o 4 (.mov (.t 9))])
 .ret))⟩
def fn177 : AFunc := ⟨22, 2, [(4, none)],
 (.seq (.ops [.o 4 (.mov (.c (.nilSlice)))])
 (.seq (.ops [.o 5 (.mov (.c (.nilSlice)))])
 (.seq (.seq (.ops [.o 8 (.mov (.t 0)),
 .o 9 (.len .sl (.t 8)),
 .o 10 (.mov .z)])
 (.block 0 (.loop (.seq (.ops [.o 11 (.bin .lss (.t 10) (.t 9))])
 (.seq (.cond (.t 11)
 .skip
 (.exit 0))
 (.seq (.block 1 (.seq (.ops [.o 12 (.iadr 2 (.t 8) (.t 10)),
 .o 13 (.load (some 2) (.t 12)),
 .o 7 (.box (.c (.agg [.int .i64 0, .int .i64 0]))),
 .x (.store 2 (.t 7) (.t 13))])
 (.ops [.o 14 (.mov (.t 5)),
 .o 15 (.mov (.t 1)),
 .o 16 (.load (some 2) (.t 7)),
 .o 17 (.call (.t 15) [(.t 16)]),
 .o 18 (.bslice 1 1 [.int .i64 0] [(0, (.t 17))]),
 .o 19 (.app 1 8 (.t 14) (.t 18)),
 .o 5 (.mov (.t 19))])))
 (.ops [.o 20 (.bin .add (.t 10) .w),
 .o 10 (.mov (.t 20))])))))))
 (.seq (.ops [.o 21 (.mov (.t 5)),
 .o 4 (.mov (.t 21))])
 .ret))))⟩
def fn178 : AFunc := ⟨5, 1, [(2, none)],
 (.seq (.ops [.o 1 (.box (.t 0)),
 .o 2 (.mov .z)])
 (.seq (.ops [.o 3 (.fadr 0 (.t 1)),
 .o 4 (.load none (.t 3)),
 .o 2 (.mov (.t 4))])
 .ret))⟩
def fn179 : AFunc := ⟨5, 1, [(2, none)],
 (.seq (.ops [.o 1 (.box (.t 0)),
 .o 2 (.mov .z)])
 (.seq (.ops [.o 3 (.fadr 1 (.t 1)),
 .o 4 (.load none (.t 3)),
 .o 2 (.mov (.t 4))])
 .ret))⟩
def fn180 : AFunc := ⟨57, 2, [(4, none)],
 (.seq (.ops [.o 2 (.box (.t 0)),
 .o 4 (.mov (.c (.nilSlice)))])
 (.seq (.ops [.o 5 (.mov (.c (.nilSlice)))])
 (.seq (.seq (.ops [.o 10 (.load (some 8) (.g 0)),
 .o 11 (.mov .z)])
 (.block 0 (.loop (.seq (.ops [.o 12 (.bin .lss (.t 11) (.c (.int .i64 4)))])
 (.seq (.cond (.t 12)
 .skip
 (.exit 0))
 (.seq (.block 1 (.seq (.ops [.o 13 (.ixa 4 2 (some 2) (.t 10) (.t 11)),
 .o 7 (.box (.c (.agg [.int .i64 0, .int .i64 0]))),
 .x (.store 2 (.t 7) (.t 13))])
 (.seq (.ops [⟨(some 14), .mov (.t 1), none, true⟩,
 ⟨(some 15), .fadr 0 (.t 2), none, true⟩,
 ⟨(some 16), .load none (.t 15), none, true⟩,
 ⟨(some 17), .bin .rem (.t 14) (.t 16), none, true⟩,
 ⟨(some 18), .iada 2 1 (.t 7) .z, none, true⟩,
 ⟨(some 19), .load none (.t 18), none, true⟩,
 ⟨(some 20), .bin .add (.t 17) (.t 19), none, true⟩,
 ⟨(some 21), .mov (.t 1), none, true⟩,
 ⟨(some 22), .fadr 0 (.t 2), none, true⟩,
 ⟨(some 23), .load none (.t 22), none, true⟩,
 ⟨(some 24), .bin .quo (.t 21) (.t 23), none, true⟩,
 ⟨(some 25), .iada 2 1 (.t 7) .w, none, true⟩,
 ⟨(some 26), .load none (.t 25), none, true⟩,
 ⟨(some 27), .bin .add (.t 24) (.t 26), none, true⟩,
 ⟨(some 8), .mov (.t 20), none, true⟩,
 .o 9 (.mov (.t 27))])
 (.seq (.ops [.o 28 (.mov (.t 8)),
 .o 29 (.bin .geq (.t 28) .z),
 .o 30 (.mov (.t 29)),
 ⟨(some 31), .mov (.t 8), (some (30, true)), false⟩,
 ⟨(some 32), .fadr 0 (.t 2), (some (30, true)), false⟩,
 ⟨(some 33), .load none (.t 32), (some (30, true)), false⟩,
 ⟨(some 34), .bin .lss (.t 31) (.t 33), (some (30, true)), false⟩,
 .o 35 (.pick (.t 30) (.t 34) (.c (.bool false))),
 .o 36 (.mov (.t 35)),
 ⟨(some 37), .mov (.t 9), (some (36, true)), false⟩,
 ⟨(some 38), .bin .geq (.t 37) .z, (some (36, true)), false⟩,
 .o 39 (.pick (.t 36) (.t 38) (.c (.bool false))),
 .o 40 (.mov (.t 39)),
 ⟨(some 41), .mov (.t 9), (some (40, true)), false⟩,
 ⟨(some 42), .fadr 1 (.t 2), (some (40, true)), false⟩,
 ⟨(some 43), .load none (.t 42), (some (40, true)), false⟩,
 ⟨(some 44), .bin .lss (.t 41) (.t 43), (some (40, true)), false⟩,
 .o 45 (.pick (.t 40) (.t 44) (.c (.bool false)))])
 (.cond (.t 45)
 (.ops [.o 46 (.mov (.t 5)),
 .o 47 (.mov (.t 9)),
 .o 48 (.fadr 0 (.t 2)),
 .o 49 (.load none (.t 48)),
 .o 50 (.bin .mul (.t 47) (.t 49)),
 .o 51 (.mov (.t 8)),
 .o 52 (.bin .add (.t 50) (.t 51)),
 .o 53 (.bslice 1 1 [.int .i64 0] [(0, (.t 52))]),
 .o 54 (.app 1 8 (.t 46) (.t 53)),
 .o 5 (.mov (.t 54))])
 .skip)))))
 (.ops [.o 55 (.bin .add (.t 11) .w),
 .o 11 (.mov (.t 55))])))))))
 (.seq (.ops [.o 56 (.mov (.t 5)),
 .o 4 (.mov (.t 56))])
 .ret))))⟩
def fn181 : AFunc := ⟨9, 2, [(4, none)],
 (.seq (.ops [.o 4 (.mov (.c (.bool false)))])
 (.seq (.ops [.o 5 (.mov (.t 0)),
 .o 6 (.mov (.t 1)),
 .o 7 (.call (.f 203) [(.t 5), (.t 6)]),
 .o 8 (.bin .geq (.t 7) .z),
 .o 4 (.mov (.t 8))])
 .ret))⟩
def fn182 : AFunc := ⟨11, 1, [],
 (.seq (.ops [.o 3 (.mov (.t 0)),
 .o 4 (.len .sl (.t 3)),
 .o 2 (.mov (.t 4))])
 (.ops [.o 5 (.mov (.t 0)),
 .o 6 (.mov (.t 2)),
 .o 7 (.mov (.t 2)),
 .o 8 (.conv (.i2i .u64) (.t 7)),
 .o 9 (.call (.f 205) [(.t 8)]),
 .o 10 (.call (.f 204) [(.t 5), .z, (.t 6), (.t 9)])]))⟩
def fn183 : AFunc := ⟨18, 1, [(2, none)],
 (.seq (.ops [.o 2 (.mov .z)])
 (.seq (.ops [.o 3 (.mov .z)])
 (.seq (.seq (.ops [.o 6 (.mov (.t 0)),
 .o 7 (.len .sl (.t 6)),
 .o 8 (.mov .z)])
 (.block 0 (.loop (.seq (.ops [.o 9 (.bin .lss (.t 8) (.t 7))])
 (.seq (.cond (.t 9)
 .skip
 (.exit 0))
 (.seq (.block 1 (.seq (.ops [.o 10 (.iadr 1 (.t 6) (.t 8)),
 .o 11 (.load none (.t 10)),
 .o 5 (.mov (.t 11))])
 (.seq (.ops [.o 12 (.mov (.t 5)),
 .o 13 (.mov (.t 3)),
 .o 14 (.bin .neq (.t 12) (.t 13))])
 (.cond (.t 14)
 (.seq (.ops [.o 15 (.mov (.t 5)),
 .o 2 (.mov (.t 15))])
 .ret)
 .skip))))
 (.ops [.o 16 (.bin .add (.t 8) .w),
 .o 8 (.mov (.t 16))])))))))
 (.seq (.ops [.o 17 (.mov (.t 3)),
 .o 2 (.mov (.t 17))])
 .ret))))⟩
def fn184 : AFunc := ⟨20, 2, [(4, none)],
 (.seq (.ops [.o 4 (.mov .z)])
 (.seq (.ops [.o 7 (.mov (.t 0)),
 .o 8 (.call (.f 206) [(.t 7)]),
 .o 5 (.mov (.t 8))])
 (.seq (.ops [.o 9 (.mov (.t 1)),
 .o 10 (.call (.f 206) [(.t 9)]),
 .o 6 (.mov (.t 10))])
 (.seq (.seq (.ops [.o 11 (.mov (.t 5))])
 (.cond (.t 11)
 (.seq (.seq (.ops [.o 12 (.mov (.t 6))])
 (.cond (.t 12)
 (.seq (.ops [.o 4 (.mov .z)])
 .ret)
 .skip))
 (.seq (.ops [.o 4 (.mov (.c (.int .i64 (-1))))])
 .ret))
 .skip))
 (.seq (.seq (.ops [.o 13 (.mov (.t 6))])
 (.cond (.t 13)
 (.seq (.ops [.o 4 (.mov .w)])
 .ret)
 .skip))
 (.seq (.seq (.ops [.o 14 (.mov (.t 0)),
 .o 15 (.mov (.t 1)),
 .o 16 (.bin .lss (.t 14) (.t 15))])
 (.cond (.t 16)
 (.seq (.ops [.o 4 (.mov (.c (.int .i64 (-1))))])
 .ret)
 .skip))
 (.seq (.seq (.ops [.o 17 (.mov (.t 0)),
 .o 18 (.mov (.t 1)),
 .o 19 (.bin .gtr (.t 17) (.t 18))])
 (.cond (.t 19)
 (.seq (.ops [.o 4 (.mov .w)])
 .ret)
 .skip))
 (.seq (.ops [.o 4 (.mov .z)])
 .ret))))))))⟩
def fn188 : AFunc := ⟨5, 1, [(2, none)],
 (.seq (.ops [.o 2 (.mov (.c (.str [])))])
 (.seq (.ops [.o 3 (.mov (.t 0)),
 .o 4 (.call (.f 209) [(.t 3)]),
 .o 2 (.mov (.t 4))])
 .ret))⟩
def fn189 : AFunc := ⟨22, 2, [(4, none)],
 (.seq (.ops [.o 4 (.mov (.c (.nilSlice)))])
 (.seq (.ops [.o 5 (.mov (.c (.nilSlice)))])
 (.seq (.seq (.ops [.o 8 (.mov (.t 0)),
 .o 9 (.len .sl (.t 8)),
 .o 10 (.mov .z)])
 (.block 0 (.loop (.seq (.ops [.o 11 (.bin .lss (.t 10) (.t 9))])
 (.seq (.cond (.t 11)
 .skip
 (.exit 0))
 (.seq (.block 1 (.seq (.ops [.o 12 (.iadr 2 (.t 8) (.t 10)),
 .o 13 (.load (some 2) (.t 12)),
 .o 7 (.box (.c (.agg [.int .i64 0, .int .i64 0]))),
 .x (.store 2 (.t 7) (.t 13))])
 (.ops [.o 14 (.mov (.t 5)),
 .o 15 (.mov (.t 1)),
 .o 16 (.load (some 2) (.t 7)),
 .o 17 (.call (.t 15) [(.t 16)]),
 .o 18 (.bslice 1 1 [.str []] [(0, (.t 17))]),
 .o 19 (.app 1 16 (.t 14) (.t 18)),
 .o 5 (.mov (.t 19))])))
 (.ops [.o 20 (.bin .add (.t 10) .w),
 .o 10 (.mov (.t 20))])))))))
 (.seq (.ops [.o 21 (.mov (.t 5)),
 .o 4 (.mov (.t 21))])
 .ret))))⟩
def fn190 : AFunc := ⟨13, 1, [(2, none)],
 (.seq (.ops [.o 1 (.box (.t 0)),
 .o 2 (.mov (.c (.str [])))])
 (.seq (.ops [⟨(some 3), .fadr 0 (.t 1), none, true⟩,
 ⟨(some 4), .load none (.t 3), none, true⟩,
 ⟨(some 5), .call (.f 188) [(.t 4)], none, true⟩,
 ⟨(some 6), .bin .add (.c (.str [112, 105, 99, 107, 32])) (.t 5), none, true⟩,
 ⟨(some 7), .bin .add (.t 6) (.c (.str [32])), none, true⟩,
 ⟨(some 8), .fadr 1 (.t 1), none, true⟩,
 ⟨(some 9), .load none (.t 8), none, true⟩,
 ⟨(some 10), .call (.f 188) [(.t 9)], none, true⟩,
 .o 11 (.bin .add (.t 7) (.t 10)),
 .o 12 (.bin .add (.t 11) (.c (.str [10]))),
 .o 2 (.mov (.t 12))])
 .ret))⟩
def fn191 : AFunc := ⟨25, 1, [],
 (.block 0 (.loop (.seq (.seq (.ops [.o 5 (.load none (.t 1)),
 .o 6 (.len .st (.t 5)),
 .o 7 (.bin .gtr (.t 6) .z)])
 (.cond (.t 7)
 .skip
 (.exit 0)))
 (.block 1 (.seq (.ops [.o 3 (.mov (.c (.str [])))])
 (.seq (.seq (.ops [.o 8 (.load none (.t 1)),
 .o 9 (.call (.f 192) [(.t 8), (.c (.int .u8 10))]),
 .o 4 (.mov (.t 9))])
 (.seq (.ops [.o 10 (.mov (.t 4)),
 .o 11 (.bin .geq (.t 10) .z)])
 (.cond (.t 11)
 (.ops [⟨(some 12), .load none (.t 1), none, true⟩,
 ⟨(some 13), .mov (.t 4), none, true⟩,
 ⟨(some 14), .bin .add (.t 13) .w, none, true⟩,
 ⟨(some 15), .sls (.t 12) none (some (.t 14)), none, true⟩,
 ⟨(some 16), .load none (.t 1), none, true⟩,
 ⟨(some 17), .mov (.t 4), none, true⟩,
 ⟨(some 18), .bin .add (.t 17) .w, none, true⟩,
 ⟨(some 19), .sls (.t 16) (some (.t 18)) none, none, true⟩,
 ⟨(some 3), .mov (.t 15), none, true⟩,
 .x (.store 1 (.t 1) (.t 19))])
 (.ops [.o 20 (.load none (.t 1)),
 .o 3 (.mov (.t 20)),
 .x (.store 1 (.t 1) (.c (.str [])))]))))
 (.seq (.ops [.o 21 (.mov (.t 0)),
 .o 22 (.mov (.t 3)),
 .o 23 (.call (.t 21) [(.t 22)]),
 .o 24 (.un .not (.t 23))])
 (.cond (.t 24)
 .ret
 .skip))))))))⟩
def fn192 : AFunc := ⟨8, 2, [(4, none)],
 (.seq (.ops [.o 4 (.mov .z)])
 (.seq (.ops [.o 5 (.mov (.t 0)),
 .o 6 (.mov (.t 1)),
 .o 7 (.call (.f 210) [(.t 5), (.t 6)]),
 .o 4 (.mov (.t 7))])
 .ret))⟩
def fn193 : AFunc := ⟨18, 2, [(4, none), (5, none)],
 (.seq (.ops [.o 4 (.mov (.c (.str []))),
 .o 5 (.mov (.c (.bool false)))])
 (.seq (.seq (.ops [.o 6 (.mov (.t 0)),
 .o 7 (.mov (.t 1)),
 .o 8 (.call (.f 211) [(.t 6), (.t 7)]),
 .o 9 (.un .not (.t 8))])
 (.cond (.t 9)
 (.seq (.ops [.o 10 (.mov (.t 0)),
 .o 4 (.mov (.t 10)),
 .o 5 (.mov (.c (.bool false)))])
 .ret)
 .skip))
 (.seq (.ops [.o 11 (.mov (.t 0)),
 .o 12 (.mov (.t 0)),
 .o 13 (.len .st (.t 12)),
 .o 14 (.mov (.t 1)),
 .o 15 (.len .st (.t 14)),
 .o 16 (.bin .sub (.t 13) (.t 15)),
 .o 17 (.sls (.t 11) none (some (.t 16))),
 .o 4 (.mov (.t 17)),
 .o 5 (.mov (.c (.bool true)))])
 .ret)))⟩
def fn194 : AFunc := ⟨8, 2, [(4, none)],
 (.seq (.ops [.o 4 (.mov (.c (.nilSlice)))])
 (.seq (.ops [.o 5 (.mov (.t 0)),
 .o 6 (.mov (.t 1)),
 .o 7 (.call (.f 212) [(.t 5), (.t 6), .z, (.c (.int .i64 (-1)))]),
 .o 4 (.mov (.t 7))])
 .ret))⟩
def fn195 : AFunc := ⟨40, 1, [(2, none)],
 (.seq (.ops [.o 2 (.mov (.c (.str [])))])
 (.seq (.seq (.ops [.o 4 (.mov (.t 0)),
 .o 5 (.nilchk (.t 4)),
 .o 6 (.fadr 0 (.t 5)),
 .o 7 (.load none (.t 6)),
 .o 8 (.len .sl (.t 7)),
 .o 9 (.bin .eql (.t 8) .z),
 .o 10 (.mov (.t 9)),
 ⟨(some 11), .mov (.t 0), (some (10, false)), false⟩,
 ⟨(some 12), .nilchk (.t 11), (some (10, false)), false⟩,
 ⟨(some 13), .fadr 0 (.t 12), (some (10, false)), false⟩,
 ⟨(some 14), .load none (.t 13), (some (10, false)), false⟩,
 ⟨(some 15), .iadr 1 (.t 14) .z, (some (10, false)), false⟩,
 ⟨(some 16), .load none (.t 15), (some (10, false)), false⟩,
 ⟨(some 17), .bin .eql (.t 16) (.c (.str [])), (some (10, false)), false⟩,
 .o 18 (.pick (.t 10) (.c (.bool true)) (.t 17))])
 (.cond (.t 18)
 (.seq (.ops [.o 19 (.mov (.t 0)),
 .o 20 (.mov (.t 0)),
 .o 21 (.nilchk (.t 19)),
 .o 22 (.fadr 0 (.t 21)),
 .x (.store 1 (.t 22) (.c (.nilSlice))),
 .o 23 (.nilchk (.t 20)),
 .o 24 (.fadr 1 (.t 23)),
 .x (.store 1 (.t 24) (.c (.bool true)))])
 (.seq (.ops [.o 2 (.mov (.c (.str [])))])
 .ret))
 .skip))
 (.seq (.ops [.o 25 (.mov (.t 0)),
 .o 26 (.nilchk (.t 25)),
 .o 27 (.fadr 0 (.t 26)),
 .o 28 (.load none (.t 27)),
 .o 29 (.iadr 1 (.t 28) .z),
 .o 30 (.load none (.t 29)),
 .o 3 (.mov (.t 30))])
 (.seq (.ops [.o 31 (.mov (.t 0)),
 .o 32 (.mov (.t 0)),
 .o 33 (.nilchk (.t 32)),
 .o 34 (.fadr 0 (.t 33)),
 .o 35 (.load none (.t 34)),
 .o 36 (.sl 1 (.t 35) (some .w) none),
 .o 37 (.nilchk (.t 31)),
 .o 38 (.fadr 0 (.t 37)),
 .x (.store 1 (.t 38) (.t 36))])
 (.seq (.ops [.o 39 (.mov (.t 3)),
 .o 2 (.mov (.t 39))])
 .ret)))))⟩
def fn196 : AFunc := ⟨23, 1, [(2, none)],
 (.seq (.ops [.o 2 (.mov .z)])
 (.seq (.ops [.o 6 (.mov (.t 0)),
 .o 7 (.call (.f 195) [(.t 6)]),
 .o 8 (.call (.f 213) [(.t 7)]),
 .o 5 (.mov (.t 8)),
 .o 9 (.ext (.t 5) 0),
 .o 10 (.ext (.t 5) 1),
 .o 3 (.mov (.t 9)),
 .o 4 (.mov (.t 10))])
 (.seq (.ops [.o 11 (.mov (.t 0)),
 .o 12 (.mov (.t 0)),
 .o 13 (.nilchk (.t 12)),
 .o 14 (.fadr 1 (.t 13)),
 .o 15 (.load none (.t 14)),
 .o 16 (.mov (.t 15)),
 ⟨(some 17), .mov (.t 4), (some (16, false)), false⟩,
 ⟨(some 18), .un .not (.t 17), (some (16, false)), false⟩,
 .o 19 (.pick (.t 16) (.c (.bool true)) (.t 18)),
 .o 20 (.nilchk (.t 11)),
 .o 21 (.fadr 1 (.t 20)),
 .x (.store 1 (.t 21) (.t 19))])
 (.seq (.ops [.o 22 (.mov (.t 3)),
 .o 2 (.mov (.t 22))])
 .ret))))⟩
def fn197 : AFunc := ⟨5, 0, [(0, none)],
 (.seq (.ops [.o 0 (.mov (.c (.nilMap)))])
 (.seq (.ops [.o 1 (.mkmap),
 .o 2 (.build [.int .i64 0, .int .i64 0, .nilFunc] [(0, 1, .w), (1, 1, .w), (2, 1, (.f 214))]),
 .x (.mupd .s (.t 1) (.c (.str [104, 111, 114, 105, 122, 111, 110])) (.t 2)),
 .o 3 (.build [.int .i64 0, .int .i64 0, .nilFunc] [(0, 1, .z), (1, 1, (.c (.int .i64 2))), (2, 1, (.f 215))]),
 .x (.mupd .s (.t 1) (.c (.str [112, 105, 99, 107])) (.t 3)),
 .o 4 (.mov (.t 1)),
 .o 0 (.mov (.t 4))])
 .ret))⟩
def fn198 : AFunc := ⟨44, 1, [(2, none), (3, none)],
 (.seq (.ops [.o 2 (.mov .z),
 .o 3 (.mov (.c (.bool false)))])
 (.seq (.seq (.ops [.o 6 (.mov (.t 0)),
 .o 7 (.len .st (.t 6)),
 .o 8 (.bin .eql (.t 7) .z),
 .o 9 (.mov (.t 8)),
 ⟨(some 10), .mov (.t 0), (some (9, false)), false⟩,
 ⟨(some 11), .len .st (.t 10), (some (9, false)), false⟩,
 ⟨(some 12), .bin .gtr (.t 11) (.c (.int .i64 9)), (some (9, false)), false⟩,
 .o 13 (.pick (.t 9) (.c (.bool true)) (.t 12)),
 .o 14 (.mov (.t 13)),
 ⟨(some 15), .mov (.t 0), (some (14, false)), false⟩,
 ⟨(some 16), .len .st (.t 15), (some (14, false)), false⟩,
 ⟨(some 17), .bin .gtr (.t 16) .w, (some (14, false)), false⟩,
 ⟨(some 18), .mov (.t 17), (some (14, false)), false⟩,
 ⟨(some 19), .mov (.t 0), (some (18, true)), false⟩,
 ⟨(some 20), .ixs (.t 19) .z, (some (18, true)), false⟩,
 ⟨(some 21), .bin .eql (.t 20) (.c (.int .u8 48)), (some (18, true)), false⟩,
 ⟨(some 22), .pick (.t 18) (.t 21) (.c (.bool false)), (some (14, false)), false⟩,
 .o 23 (.pick (.t 14) (.c (.bool true)) (.t 22))])
 (.cond (.t 23)
 (.seq (.ops [.o 2 (.mov .z),
 .o 3 (.mov (.c (.bool false)))])
 .ret)
 .skip))
 (.seq (.ops [.o 4 (.mov .z)])
 (.seq (.seq (.ops [.o 5 (.mov .z)])
 (.block 0 (.loop (.seq (.seq (.ops [.o 24 (.mov (.t 5)),
 .o 25 (.mov (.t 0)),
 .o 26 (.len .st (.t 25)),
 .o 27 (.bin .lss (.t 24) (.t 26))])
 (.cond (.t 27)
 .skip
 (.exit 0)))
 (.seq (.block 1 (.seq (.seq (.ops [.o 30 (.mov (.t 0)),
 .o 31 (.mov (.t 5)),
 .o 32 (.ixs (.t 30) (.t 31)),
 .o 33 (.call (.f 200) [(.t 32)]),
 .o 34 (.un .not (.t 33))])
 (.cond (.t 34)
 (.seq (.ops [.o 2 (.mov .z),
 .o 3 (.mov (.c (.bool false)))])
 .ret)
 .skip))
 (.ops [.o 35 (.mov (.t 4)),
 .o 36 (.bin .mul (.c (.int .i64 10)) (.t 35)),
 .o 37 (.mov (.t 0)),
 .o 38 (.mov (.t 5)),
 .o 39 (.ixs (.t 37) (.t 38)),
 .o 40 (.bin .sub (.t 39) (.c (.int .u8 48))),
 .o 41 (.conv (.i2i .i64) (.t 40)),
 .o 42 (.bin .add (.t 36) (.t 41)),
 .o 4 (.mov (.t 42))])))
 (.ops [.o 28 (.mov (.t 5)),
 .o 29 (.bin .add (.t 28) .w),
 .o 5 (.mov (.t 29))]))))))
 (.seq (.ops [.o 43 (.mov (.t 4)),
 .o 2 (.mov (.t 43)),
 .o 3 (.mov (.c (.bool true)))])
 .ret)))))⟩
def fn199 : AFunc := ⟨17, 1, [(2, none)],
 (.seq (.ops [.o 2 (.mov (.c (.bool false)))])
 (.seq (.ops [.o 3 (.mov (.t 0)),
 .o 4 (.bin .leq (.c (.int .u8 65)) (.t 3)),
 .o 5 (.mov (.t 4)),
 ⟨(some 6), .mov (.t 0), (some (5, true)), false⟩,
 ⟨(some 7), .bin .leq (.t 6) (.c (.int .u8 90)), (some (5, true)), false⟩,
 .o 8 (.pick (.t 5) (.t 7) (.c (.bool false))),
 .o 9 (.mov (.t 8)),
 ⟨(some 10), .mov (.t 0), (some (9, false)), false⟩,
 ⟨(some 11), .bin .leq (.c (.int .u8 97)) (.t 10), (some (9, false)), false⟩,
 ⟨(some 12), .mov (.t 11), (some (9, false)), false⟩,
 ⟨(some 13), .mov (.t 0), (some (12, true)), false⟩,
 ⟨(some 14), .bin .leq (.t 13) (.c (.int .u8 122)), (some (12, true)), false⟩,
 ⟨(some 15), .pick (.t 12) (.t 14) (.c (.bool false)), (some (9, false)), false⟩,
 .o 16 (.pick (.t 9) (.c (.bool true)) (.t 15)),
 .o 2 (.mov (.t 16))])
 .ret))⟩
def fn200 : AFunc := ⟨9, 1, [(2, none)],
 (.seq (.ops [.o 2 (.mov (.c (.bool false)))])
 (.seq (.ops [.o 3 (.mov (.t 0)),
 .o 4 (.bin .leq (.c (.int .u8 48)) (.t 3)),
 .o 5 (.mov (.t 4)),
 ⟨(some 6), .mov (.t 0), (some (5, true)), false⟩,
 ⟨(some 7), .bin .leq (.t 6) (.c (.int .u8 57)), (some (5, true)), false⟩,
 .o 8 (.pick (.t 5) (.t 7) (.c (.bool false))),
 .o 2 (.mov (.t 8))])
 .ret))⟩
def fn201 : AFunc := ⟨5, 1, [(2, none)],
 (.seq (.ops [.o 2 (.mov (.c (.nilSlice)))])
 (.seq (.ops [.o 3 (.mov (.t 0)),
 .o 4 (.call (.f 216) [(.c (.nilSlice)), (.t 3)]),
 .o 2 (.mov (.t 4))])
 .ret))⟩
def fn202 : AFunc := ⟨16, 1, [],
 (.seq (.ops [.o 5 (.load none (.t 1)),
 .o 6 (.len .sl (.t 5)),
 .o 7 (.mov .z)])
 (.block 0 (.loop (.seq (.ops [.o 8 (.bin .lss (.t 7) (.t 6))])
 (.seq (.cond (.t 8)
 .skip
 (.exit 0))
 (.seq (.block 1 (.seq (.ops [.o 9 (.iadr 1 (.t 5) (.t 7)),
 .o 10 (.load none (.t 9)),
 .o 4 (.mov (.t 10))])
 (.seq (.ops [.o 11 (.mov (.t 0)),
 .o 12 (.mov (.t 4)),
 .o 13 (.call (.t 11) [(.t 12)]),
 .o 14 (.un .not (.t 13))])
 (.cond (.t 14)
 .ret
 .skip))))
 (.ops [.o 15 (.bin .add (.t 7) .w),
 .o 7 (.mov (.t 15))])))))))⟩
def fn203 : AFunc := ⟨19, 2, [(4, none)],
 (.seq (.ops [.o 4 (.mov .z)])
 (.seq (.seq (.ops [.o 6 (.mov (.t 0)),
 .o 7 (.len .sl (.t 6)),
 .o 8 (.mov .z)])
 (.block 0 (.loop (.seq (.ops [.o 9 (.bin .lss (.t 8) (.t 7))])
 (.seq (.cond (.t 9)
 .skip
 (.exit 0))
 (.seq (.block 1 (.seq (.ops [.o 10 (.mov (.t 8)),
 .o 5 (.mov (.t 10))])
 (.seq (.ops [.o 11 (.mov (.t 1)),
 .o 12 (.mov (.t 0)),
 .o 13 (.mov (.t 5)),
 .o 14 (.iadr 1 (.t 12) (.t 13)),
 .o 15 (.load none (.t 14)),
 .o 16 (.bin .eql (.t 11) (.t 15))])
 (.cond (.t 16)
 (.seq (.ops [.o 17 (.mov (.t 5)),
 .o 4 (.mov (.t 17))])
 .ret)
 .skip))))
 (.ops [.o 18 (.bin .add (.t 8) .w),
 .o 8 (.mov (.t 18))])))))))
 (.seq (.ops [.o 4 (.mov (.c (.int .i64 (-1))))])
 .ret)))⟩
def fn204 : AFunc := ⟨134, 4, [],
 (.seq (.ops [.o 8 (.mov (.c (.bool true)))])
 (.seq (.ops [.o 9 (.mov (.c (.bool true)))])
 (.block 0 (.loop (.block 1 (.seq (.ops [.o 19 (.mov (.t 2)),
 .o 20 (.mov (.t 1)),
 .o 21 (.bin .sub (.t 19) (.t 20)),
 .o 10 (.mov (.t 21))])
 (.seq (.seq (.ops [.o 22 (.mov (.t 10)),
 .o 23 (.bin .leq (.t 22) (.c (.int .i64 12)))])
 (.cond (.t 23)
 (.seq (.ops [.o 24 (.mov (.t 0)),
 .o 25 (.mov (.t 1)),
 .o 26 (.mov (.t 2)),
 .o 27 (.call (.f 217) [(.t 24), (.t 25), (.t 26)])])
 .ret)
 .skip))
 (.seq (.seq (.ops [.o 28 (.mov (.t 3)),
 .o 29 (.bin .eql (.t 28) .z)])
 (.cond (.t 29)
 (.seq (.ops [.o 30 (.mov (.t 0)),
 .o 31 (.mov (.t 1)),
 .o 32 (.mov (.t 2)),
 .o 33 (.call (.f 218) [(.t 30), (.t 31), (.t 32)])])
 .ret)
 .skip))
 (.seq (.seq (.ops [.o 34 (.mov (.t 8)),
 .o 35 (.un .not (.t 34))])
 (.cond (.t 35)
 (.seq (.ops [.o 36 (.mov (.t 0)),
 .o 37 (.mov (.t 1)),
 .o 38 (.mov (.t 2)),
 .o 39 (.call (.f 219) [(.t 36), (.t 37), (.t 38)])])
 (.ops [.o 40 (.mov (.t 3)),
 .o 41 (.bin .sub (.t 40) .w),
 .o 3 (.mov (.t 41))]))
 .skip))
 (.seq (.ops [.o 43 (.mov (.t 0)),
 .o 44 (.mov (.t 1)),
 .o 45 (.mov (.t 2)),
 .o 46 (.call (.f 220) [(.t 43), (.t 44), (.t 45)]),
 .o 42 (.mov (.t 46)),
 .o 47 (.ext (.t 42) 0),
 .o 48 (.ext (.t 42) 1),
 .o 11 (.mov (.t 47)),
 .o 12 (.mov (.t 48))])
 (.seq (.seq (.ops [.o 49 (.mov (.t 12)),
 .o 50 (.bin .eql (.t 49) (.c (.int .i64 2)))])
 (.cond (.t 50)
 (.seq (.ops [.o 51 (.mov (.t 0)),
 .o 52 (.mov (.t 1)),
 .o 53 (.mov (.t 2)),
 .o 54 (.call (.f 221) [(.t 51), (.t 52), (.t 53)])])
 (.seq (.ops [.o 55 (.mov (.t 2)),
 .o 56 (.bin .sub (.t 55) .w),
 .o 57 (.mov (.t 11)),
 .o 58 (.mov (.t 1)),
 .o 59 (.bin .sub (.t 57) (.t 58)),
 .o 60 (.bin .sub (.t 56) (.t 59)),
 .o 11 (.mov (.t 60))])
 (.ops [.o 12 (.mov .w)])))
 .skip))
 (.seq (.seq (.ops [.o 61 (.mov (.t 8)),
 .o 62 (.mov (.t 61)),
 ⟨(some 63), .mov (.t 9), (some (62, true)), false⟩,
 .o 64 (.pick (.t 62) (.t 63) (.c (.bool false))),
 .o 65 (.mov (.t 64)),
 ⟨(some 66), .mov (.t 12), (some (65, true)), false⟩,
 ⟨(some 67), .bin .eql (.t 66) .w, (some (65, true)), false⟩,
 .o 68 (.pick (.t 65) (.t 67) (.c (.bool false)))])
 (.cond (.t 68)
 (.seq (.ops [.o 69 (.mov (.t 0)),
 .o 70 (.mov (.t 1)),
 .o 71 (.mov (.t 2)),
 .o 72 (.call (.f 222) [(.t 69), (.t 70), (.t 71)])])
 (.cond (.t 72)
 .ret
 .skip))
 .skip))
 (.seq (.seq (.ops [.o 73 (.mov (.t 1)),
 .o 74 (.bin .gtr (.t 73) .z),
 .o 75 (.mov (.t 74)),
 ⟨(some 76), .mov (.t 0), (some (75, true)), true⟩,
 ⟨(some 77), .mov (.t 1), (some (75, true)), true⟩,
 ⟨(some 78), .bin .sub (.t 77) .w, (some (75, true)), true⟩,
 ⟨(some 79), .iadr 1 (.t 76) (.t 78), (some (75, true)), true⟩,
 ⟨(some 80), .load none (.t 79), (some (75, true)), true⟩,
 ⟨(some 81), .mov (.t 0), (some (75, true)), true⟩,
 ⟨(some 82), .mov (.t 11), (some (75, true)), true⟩,
 ⟨(some 83), .iadr 1 (.t 81) (.t 82), (some (75, true)), true⟩,
 ⟨(some 84), .load none (.t 83), (some (75, true)), true⟩,
 ⟨(some 85), .call (.f 223) [(.t 80), (.t 84)], (some (75, true)), false⟩,
 ⟨(some 86), .un .not (.t 85), (some (75, true)), false⟩,
 .o 87 (.pick (.t 75) (.t 86) (.c (.bool false)))])
 (.cond (.t 87)
 (.seq (.ops [.o 88 (.mov (.t 0)),
 .o 89 (.mov (.t 1)),
 .o 90 (.mov (.t 2)),
 .o 91 (.mov (.t 11)),
 .o 92 (.call (.f 224) [(.t 88), (.t 89), (.t 90), (.t 91)]),
 .o 13 (.mov (.t 92))])
 (.seq (.ops [.o 93 (.mov (.t 13)),
 .o 1 (.mov (.t 93))])
 (.exit 1)))
 .skip))
 (.seq (.ops [.o 95 (.mov (.t 0)),
 .o 96 (.mov (.t 1)),
 .o 97 (.mov (.t 2)),
 .o 98 (.mov (.t 11)),
 .o 99 (.call (.f 225) [(.t 95), (.t 96), (.t 97), (.t 98)]),
 .o 94 (.mov (.t 99)),
 .o 100 (.ext (.t 94) 0),
 .o 101 (.ext (.t 94) 1),
 .o 14 (.mov (.t 100)),
 .o 15 (.mov (.t 101))])
 (.seq (.ops [.o 102 (.mov (.t 15)),
 .o 9 (.mov (.t 102))])
 (.seq (.ops [.o 103 (.mov (.t 14)),
 .o 104 (.mov (.t 1)),
 .o 105 (.bin .sub (.t 103) (.t 104)),
 .o 106 (.mov (.t 2)),
 .o 107 (.mov (.t 14)),
 .o 108 (.bin .sub (.t 106) (.t 107)),
 .o 16 (.mov (.t 105)),
 .o 17 (.mov (.t 108))])
 (.seq (.ops [.o 109 (.mov (.t 10)),
 .o 110 (.bin .quo (.t 109) (.c (.int .i64 8))),
 .o 18 (.mov (.t 110))])
 (.seq (.ops [.o 111 (.mov (.t 16)),
 .o 112 (.mov (.t 17)),
 .o 113 (.bin .lss (.t 111) (.t 112))])
 (.cond (.t 113)
 (.seq (.ops [.o 114 (.mov (.t 16)),
 .o 115 (.mov (.t 18)),
 .o 116 (.bin .geq (.t 114) (.t 115)),
 .o 8 (.mov (.t 116))])
 (.seq (.ops [.o 117 (.mov (.t 0)),
 .o 118 (.mov (.t 1)),
 .o 119 (.mov (.t 14)),
 .o 120 (.mov (.t 3)),
 .o 121 (.call (.f 204) [(.t 117), (.t 118), (.t 119), (.t 120)])])
 (.ops [.o 122 (.mov (.t 14)),
 .o 123 (.bin .add (.t 122) .w),
 .o 1 (.mov (.t 123))])))
 (.seq (.ops [.o 124 (.mov (.t 17)),
 .o 125 (.mov (.t 18)),
 .o 126 (.bin .geq (.t 124) (.t 125)),
 .o 8 (.mov (.t 126))])
 (.seq (.ops [.o 127 (.mov (.t 0)),
 .o 128 (.mov (.t 14)),
 .o 129 (.bin .add (.t 128) .w),
 .o 130 (.mov (.t 2)),
 .o 131 (.mov (.t 3)),
 .o 132 (.call (.f 204) [(.t 127), (.t 129), (.t 130), (.t 131)])])
 (.ops [.o 133 (.mov (.t 14)),
 .o 2 (.mov (.t 133))]))))))))))))))))))))))⟩
def fn205 : AFunc := ⟨8, 1, [(2, none)],
 (.seq (.ops [.o 2 (.mov .z)])
 (.seq (.cond (.c (.bool false))
 (.seq (.ops [.o 3 (.mov (.t 0)),
 .o 4 (.conv (.i2i .u32) (.t 3)),
 .o 5 (.call (.f 226) [(.t 4)]),
 .o 2 (.mov (.t 5))])
 .ret)
 .skip)
 (.seq (.ops [.o 6 (.mov (.t 0)),
 .o 7 (.call (.f 227) [(.t 6)]),
 .o 2 (.mov (.t 7))])
 .ret)))⟩
def fn206 : AFunc := ⟨6, 1, [(2, none)],
 (.seq (.ops [.o 2 (.mov (.c (.bool false)))])
 (.seq (.ops [.o 3 (.mov (.t 0)),
 .o 4 (.mov (.t 0)),
 .o 5 (.bin .neq (.t 3) (.t 4)),
 .o 2 (.mov (.t 5))])
 .ret))⟩
def fn209 : AFunc := ⟨5, 1, [(2, none)],
 (.seq (.ops [.o 2 (.mov (.c (.str [])))])
 (.seq (.ops [.o 3 (.mov (.t 0)),
 .o 4 (.call (.f 230) [(.t 3), (.c (.int .i64 10))]),
 .o 2 (.mov (.t 4))])
 .ret))⟩
def fn210 : AFunc := ⟨8, 2, [(4, none)],
 (.seq (.ops [.o 4 (.mov .z)])
 (.seq (.ops [.o 5 (.mov (.t 0)),
 .o 6 (.mov (.t 1)),
 .o 7 (.call (.f 231) [(.t 5), (.t 6)]),
 .o 4 (.mov (.t 7))])
 .ret))⟩
def fn211 : AFunc := ⟨21, 2, [(4, none)],
 (.seq (.ops [.o 4 (.mov (.c (.bool false)))])
 (.seq (.ops [.o 5 (.mov (.t 0)),
 .o 6 (.len .st (.t 5)),
 .o 7 (.mov (.t 1)),
 .o 8 (.len .st (.t 7)),
 .o 9 (.bin .geq (.t 6) (.t 8)),
 .o 10 (.mov (.t 9)),
 ⟨(some 11), .mov (.t 0), (some (10, true)), false⟩,
 ⟨(some 12), .mov (.t 0), (some (10, true)), false⟩,
 ⟨(some 13), .len .st (.t 12), (some (10, true)), false⟩,
 ⟨(some 14), .mov (.t 1), (some (10, true)), false⟩,
 ⟨(some 15), .len .st (.t 14), (some (10, true)), false⟩,
 ⟨(some 16), .bin .sub (.t 13) (.t 15), (some (10, true)), false⟩,
 ⟨(some 17), .sls (.t 11) (some (.t 16)) none, (some (10, true)), false⟩,
 ⟨(some 18), .mov (.t 1), (some (10, true)), false⟩,
 ⟨(some 19), .bin .eql (.t 17) (.t 18), (some (10, true)), false⟩,
 .o 20 (.pick (.t 10) (.t 19) (.c (.bool false))),
 .o 4 (.mov (.t 20))])
 .ret))⟩
def fn212 : AFunc := ⟨66, 4, [(8, none)],
 (.seq (.ops [.o 8 (.mov (.c (.nilSlice)))])
 (.seq (.seq (.ops [.o 12 (.mov (.t 3)),
 .o 13 (.bin .eql (.t 12) .z)])
 (.cond (.t 13)
 (.seq (.ops [.o 8 (.mov (.c (.nilSlice)))])
 .ret)
 .skip))
 (.seq (.seq (.ops [.o 14 (.mov (.t 1)),
 .o 15 (.bin .eql (.t 14) (.c (.str [])))])
 (.cond (.t 15)
 (.seq (.ops [.o 16 (.mov (.t 0)),
 .o 17 (.mov (.t 3)),
 .o 18 (.call (.f 232) [(.t 16), (.t 17)]),
 .o 8 (.mov (.t 18))])
 .ret)
 .skip))
 (.seq (.seq (.ops [.o 19 (.mov (.t 3)),
 .o 20 (.bin .lss (.t 19) .z)])
 (.cond (.t 20)
 (.ops [.o 21 (.mov (.t 0)),
 .o 22 (.mov (.t 1)),
 .o 23 (.call (.f 233) [(.t 21), (.t 22)]),
 .o 24 (.bin .add (.t 23) .w),
 .o 3 (.mov (.t 24))])
 .skip))
 (.seq (.ops [.o 25 (.mov (.t 3)),
 .o 26 (.mov (.t 0)),
 .o 27 (.len .st (.t 26)),
 .o 28 (.bin .add (.t 27) .w),
 .o 29 (.mn (.t 25) [(.t 28)]),
 .o 3 (.mov (.t 29))])
 (.seq (.ops [.o 30 (.mov (.t 3)),
 .o 31 (.mksl 1 16 [.str []] (.t 30) (.t 30)),
 .o 9 (.mov (.t 31))])
 (.seq (.ops [.o 32 (.mov (.t 3)),
 .o 33 (.bin .sub (.t 32) .w),
 .o 3 (.mov (.t 33))])
 (.seq (.ops [.o 10 (.mov .z)])
 (.seq (.block 0 (.loop (.seq (.seq (.ops [.o 34 (.mov (.t 10)),
 .o 35 (.mov (.t 3)),
 .o 36 (.bin .lss (.t 34) (.t 35))])
 (.cond (.t 36)
 .skip
 (.exit 0)))
 (.block 1 (.seq (.ops [.o 37 (.mov (.t 0)),
 .o 38 (.mov (.t 1)),
 .o 39 (.call (.f 234) [(.t 37), (.t 38)]),
 .o 11 (.mov (.t 39))])
 (.seq (.seq (.ops [.o 40 (.mov (.t 11)),
 .o 41 (.bin .lss (.t 40) .z)])
 (.cond (.t 41)
 (.exit 0)
 .skip))
 (.seq (.ops [.o 42 (.mov (.t 9)),
 .o 43 (.mov (.t 10)),
 .o 44 (.mov (.t 0)),
 .o 45 (.mov (.t 11)),
 .o 46 (.mov (.t 2)),
 .o 47 (.bin .add (.t 45) (.t 46)),
 .o 48 (.sls (.t 44) none (some (.t 47))),
 .o 49 (.iadr 1 (.t 42) (.t 43)),
 .x (.store 1 (.t 49) (.t 48))])
 (.seq (.ops [.o 50 (.mov (.t 0)),
 .o 51 (.mov (.t 11)),
 .o 52 (.mov (.t 1)),
 .o 53 (.len .st (.t 52)),
 .o 54 (.bin .add (.t 51) (.t 53)),
 .o 55 (.sls (.t 50) (some (.t 54)) none),
 .o 0 (.mov (.t 55))])
 (.ops [.o 56 (.mov (.t 10)),
 .o 57 (.bin .add (.t 56) .w),
 .o 10 (.mov (.t 57))])))))))))
 (.seq (.ops [.o 58 (.mov (.t 9)),
 .o 59 (.mov (.t 10)),
 .o 60 (.mov (.t 0)),
 .o 61 (.iadr 1 (.t 58) (.t 59)),
 .x (.store 1 (.t 61) (.t 60))])
 (.seq (.ops [.o 62 (.mov (.t 9)),
 .o 63 (.mov (.t 10)),
 .o 64 (.bin .add (.t 63) .w),
 .o 65 (.sl 1 (.t 62) none (some (.t 64))),
 .o 8 (.mov (.t 65))])
 .ret)))))))))))⟩
def fn213 : AFunc := ⟨42, 1, [(2, none), (3, none)],
 (.seq (.ops [.o 2 (.mov .z),
 .o 3 (.mov (.c (.bool false)))])
 (.seq (.ops [.o 4 (.mov .z)])
 (.seq (.seq (.ops [.o 7 (.mov (.t 0)),
 .o 8 (.rstr (.t 7))])
 (.block 0 (.loop (.seq (.ops [.o 9 (.nexts (.t 8)),
 .o 10 (.ext (.t 9) 0)])
 (.seq (.cond (.t 10)
 .skip
 (.exit 0))
 (.block 1 (.seq (.ops [.o 11 (.ext (.t 9) 2),
 .o 6 (.mov (.t 11))])
 (.seq (.seq (.ops [.o 12 (.mov (.t 6)),
 .o 13 (.bin .lss (.t 12) (.c (.int .i32 48))),
 .o 14 (.mov (.t 13)),
 ⟨(some 15), .mov (.t 6), (some (14, false)), false⟩,
 ⟨(some 16), .bin .gtr (.t 15) (.c (.int .i32 57)), (some (14, false)), false⟩,
 .o 17 (.pick (.t 14) (.c (.bool true)) (.t 16)),
 .o 18 (.mov (.t 17)),
 ⟨(some 19), .mov (.t 0), (some (18, false)), false⟩,
 ⟨(some 20), .len .st (.t 19), (some (18, false)), false⟩,
 ⟨(some 21), .bin .gtr (.t 20) (.c (.int .i64 9)), (some (18, false)), false⟩,
 .o 22 (.pick (.t 18) (.c (.bool true)) (.t 21))])
 (.cond (.t 22)
 (.seq (.ops [.o 2 (.mov .z),
 .o 3 (.mov (.c (.bool false)))])
 .ret)
 .skip))
 (.ops [.o 23 (.mov (.t 4)),
 .o 24 (.bin .mul (.c (.int .i64 10)) (.t 23)),
 .o 25 (.mov (.t 6)),
 .o 26 (.bin .sub (.t 25) (.c (.int .i32 48))),
 .o 27 (.conv (.i2i .i64) (.t 26)),
 .o 28 (.bin .add (.t 24) (.t 27)),
 .o 4 (.mov (.t 28))])))))))))
 (.seq (.ops [⟨(some 29), .mov (.t 4), none, true⟩,
 ⟨(some 30), .mov (.t 0), none, true⟩,
 ⟨(some 31), .bin .neq (.t 30) (.c (.str [])), none, true⟩,
 ⟨(some 32), .mov (.t 31), none, true⟩,
 ⟨(some 33), .mov (.t 0), (some (32, true)), true⟩,
 ⟨(some 34), .len .st (.t 33), (some (32, true)), true⟩,
 ⟨(some 35), .bin .eql (.t 34) .w, (some (32, true)), true⟩,
 ⟨(some 36), .mov (.t 35), (some (32, true)), true⟩,
 ⟨(some 37), .mov (.t 0), (some (36, false)), true⟩,
 ⟨(some 38), .ixs (.t 37) .z, (some (36, false)), true⟩,
 ⟨(some 39), .bin .neq (.t 38) (.c (.int .u8 48)), (some (36, false)), true⟩,
 ⟨(some 40), .pick (.t 36) (.c (.bool true)) (.t 39), (some (32, true)), true⟩,
 ⟨(some 41), .pick (.t 32) (.t 40) (.c (.bool false)), none, true⟩,
 ⟨(some 2), .mov (.t 29), none, true⟩,
 .o 3 (.mov (.t 41))])
 .ret))))⟩
def fn214 : AFunc := ⟨16, 3, [(6, none), (7, none)],
 (.seq (.ops [.o 6 (.mov (.c (.nilSlice))),
 .o 7 (.mov (.c (.bool false)))])
 (.seq (.ops [.o 8 (.mov (.t 0)),
 .o 9 (.mov (.t 1)),
 .o 10 (.mov (.t 2)),
 .o 11 (.iadr 1 (.t 10) .z),
 .o 12 (.load none (.t 11)),
 .o 13 (.build [.str [], .int .i64 0, .nilSlice] [(0, 1, (.t 9)), (1, 1, (.t 12))]),
 .o 14 (.bslice 3 1 [.str [], .int .i64 0, .nilSlice] [(0, (.t 13))]),
 .o 15 (.app 3 48 (.t 8) (.t 14)),
 .o 6 (.mov (.t 15)),
 .o 7 (.mov (.c (.bool true)))])
 .ret))⟩
def fn215 : AFunc := ⟨34, 3, [(6, none), (7, none)],
 (.seq (.ops [.o 6 (.mov (.c (.nilSlice))),
 .o 7 (.mov (.c (.bool false)))])
 (.seq (.seq (.ops [.o 9 (.mov (.t 0)),
 .o 10 (.len .sl (.t 9)),
 .o 11 (.bin .eql (.t 10) .z)])
 (.cond (.t 11)
 (.seq (.ops [.o 6 (.mov (.c (.nilSlice))),
 .o 7 (.mov (.c (.bool false)))])
 .ret)
 .skip))
 (.seq (.ops [.o 12 (.mov (.t 0)),
 .o 13 (.mov (.t 0)),
 .o 14 (.len .sl (.t 13)),
 .o 15 (.bin .sub (.t 14) .w),
 .o 16 (.iadr 3 (.t 12) (.t 15)),
 .o 8 (.mov (.t 16))])
 (.seq (.ops [.o 17 (.mov (.t 8)),
 .o 18 (.mov (.t 8)),
 .o 19 (.nilchk (.t 18)),
 .o 20 (.fadr 2 (.t 19)),
 .o 21 (.load none (.t 20)),
 .o 22 (.mov (.t 2)),
 .o 23 (.iadr 1 (.t 22) .z),
 .o 24 (.load none (.t 23)),
 .o 25 (.mov (.t 2)),
 .o 26 (.iadr 1 (.t 25) .w),
 .o 27 (.load none (.t 26)),
 .o 28 (.build [.int .i64 0, .int .i64 0] [(0, 1, (.t 24)), (1, 1, (.t 27))]),
 .o 29 (.bslice 2 1 [.int .i64 0, .int .i64 0] [(0, (.t 28))]),
 .o 30 (.app 2 16 (.t 21) (.t 29)),
 .o 31 (.nilchk (.t 17)),
 .o 32 (.fadr 2 (.t 31)),
 .x (.store 1 (.t 32) (.t 30))])
 (.seq (.ops [.o 33 (.mov (.t 0)),
 .o 6 (.mov (.t 33)),
 .o 7 (.mov (.c (.bool true)))])
 .ret)))))⟩
def fn216 : AFunc := ⟨13, 2, [(4, none)],
 (.seq (.ops [.o 2 (.box (.t 0)),
 .o 4 (.mov (.c (.nilSlice)))])
 (.seq (.seq (.ops [.o 6 (.mov (.t 1))])
 (.block 0 (.rangeF (.t 6) [7] (.ops [.o 5 (.mov (.t 7))])
 (.block 1 (.ops [.o 8 (.load none (.t 2)),
 .o 9 (.mov (.t 5)),
 .o 10 (.bslice 1 1 [.int .i64 0] [(0, (.t 9))]),
 .o 11 (.app 1 8 (.t 8) (.t 10)),
 .x (.store 1 (.t 2) (.t 11))])))))
 (.seq (.ops [.o 12 (.load none (.t 2)),
 .o 4 (.mov (.t 12))])
 .ret)))⟩
def fn217 : AFunc := ⟨49, 3, [],
 (.seq (.ops [.o 8 (.mov (.t 1)),
 .o 9 (.bin .add (.t 8) .w),
 .o 6 (.mov (.t 9))])
 (.block 0 (.loop (.seq (.seq (.ops [.o 10 (.mov (.t 6)),
 .o 11 (.mov (.t 2)),
 .o 12 (.bin .lss (.t 10) (.t 11))])
 (.cond (.t 12)
 .skip
 (.exit 0)))
 (.seq (.block 1 (.seq (.ops [.o 15 (.mov (.t 6)),
 .o 7 (.mov (.t 15))])
 (.block 2 (.loop (.seq (.seq (.ops [⟨(some 16), .mov (.t 7), none, true⟩,
 ⟨(some 17), .mov (.t 1), none, true⟩,
 .o 18 (.bin .gtr (.t 16) (.t 17)),
 .o 19 (.mov (.t 18)),
 ⟨(some 20), .mov (.t 0), (some (19, true)), true⟩,
 ⟨(some 21), .mov (.t 7), (some (19, true)), true⟩,
 ⟨(some 22), .iadr 1 (.t 20) (.t 21), (some (19, true)), true⟩,
 ⟨(some 23), .load none (.t 22), (some (19, true)), true⟩,
 ⟨(some 24), .mov (.t 0), (some (19, true)), true⟩,
 ⟨(some 25), .mov (.t 7), (some (19, true)), true⟩,
 ⟨(some 26), .bin .sub (.t 25) .w, (some (19, true)), true⟩,
 ⟨(some 27), .iadr 1 (.t 24) (.t 26), (some (19, true)), true⟩,
 ⟨(some 28), .load none (.t 27), (some (19, true)), true⟩,
 ⟨(some 29), .call (.f 223) [(.t 23), (.t 28)], (some (19, true)), false⟩,
 .o 30 (.pick (.t 19) (.t 29) (.c (.bool false)))])
 (.cond (.t 30)
 .skip
 (.exit 2)))
 (.seq (.block 3 (.ops [.o 33 (.mov (.t 0)),
 .o 34 (.mov (.t 7)),
 .o 35 (.mov (.t 0)),
 .o 36 (.mov (.t 7)),
 .o 37 (.bin .sub (.t 36) .w),
 .o 38 (.mov (.t 0)),
 .o 39 (.mov (.t 7)),
 .o 40 (.bin .sub (.t 39) .w),
 .o 41 (.iadr 1 (.t 38) (.t 40)),
 .o 42 (.load none (.t 41)),
 .o 43 (.mov (.t 0)),
 .o 44 (.mov (.t 7)),
 .o 45 (.iadr 1 (.t 43) (.t 44)),
 .o 46 (.load none (.t 45)),
 .o 47 (.iadr 1 (.t 33) (.t 34)),
 .x (.store 1 (.t 47) (.t 42)),
 .o 48 (.iadr 1 (.t 35) (.t 37)),
 .x (.store 1 (.t 48) (.t 46))]))
 (.ops [.o 31 (.mov (.t 7)),
 .o 32 (.bin .sub (.t 31) .w),
 .o 7 (.mov (.t 32))])))))))
 (.ops [.o 13 (.mov (.t 6)),
 .o 14 (.bin .add (.t 13) .w),
 .o 6 (.mov (.t 14))]))))))⟩
def fn223 : AFunc := ⟨17, 2, [(4, none)],
 (.seq (.ops [.o 4 (.mov (.c (.bool false)))])
 (.seq (.ops [.o 5 (.mov (.t 0)),
 .o 6 (.call (.f 206) [(.t 5)]),
 .o 7 (.mov (.t 6)),
 ⟨(some 8), .mov (.t 1), (some (7, true)), false⟩,
 ⟨(some 9), .call (.f 206) [(.t 8)], (some (7, true)), false⟩,
 ⟨(some 10), .un .not (.t 9), (some (7, true)), false⟩,
 .o 11 (.pick (.t 7) (.t 10) (.c (.bool false))),
 .o 12 (.mov (.t 11)),
 ⟨(some 13), .mov (.t 0), (some (12, false)), false⟩,
 ⟨(some 14), .mov (.t 1), (some (12, false)), false⟩,
 ⟨(some 15), .bin .lss (.t 13) (.t 14), (some (12, false)), false⟩,
 .o 16 (.pick (.t 12) (.c (.bool true)) (.t 15)),
 .o 4 (.mov (.t 16))])
 .ret))⟩
def fn227 : AFunc := ⟨25, 1, [(2, none)],
 (.seq (.ops [.o 2 (.mov .z)])
 (.seq (.seq (.ops [.o 3 (.mov (.t 0)),
 .o 4 (.bin .geq (.t 3) (.c (.int .u64 4294967296)))])
 (.cond (.t 4)
 (.seq (.ops [.o 5 (.mov (.t 0)),
 .o 6 (.bin .shr (.t 5) (.c (.int .u64 32))),
 .o 0 (.mov (.t 6))])
 (.ops [.o 2 (.mov (.c (.int .i64 32)))]))
 .skip))
 (.seq (.seq (.ops [.o 7 (.mov (.t 0)),
 .o 8 (.bin .geq (.t 7) (.c (.int .u64 65536)))])
 (.cond (.t 8)
 (.seq (.ops [.o 9 (.mov (.t 0)),
 .o 10 (.bin .shr (.t 9) (.c (.int .u64 16))),
 .o 0 (.mov (.t 10))])
 (.ops [.o 11 (.mov (.t 2)),
 .o 12 (.bin .add (.t 11) (.c (.int .i64 16))),
 .o 2 (.mov (.t 12))]))
 .skip))
 (.seq (.seq (.ops [.o 13 (.mov (.t 0)),
 .o 14 (.bin .geq (.t 13) (.c (.int .u64 256)))])
 (.cond (.t 14)
 (.seq (.ops [.o 15 (.mov (.t 0)),
 .o 16 (.bin .shr (.t 15) (.c (.int .u64 8))),
 .o 0 (.mov (.t 16))])
 (.ops [.o 17 (.mov (.t 2)),
 .o 18 (.bin .add (.t 17) (.c (.int .i64 8))),
 .o 2 (.mov (.t 18))]))
 .skip))
 (.seq (.ops [.o 19 (.mov (.t 2)),
 .o 20 (.mov (.t 0)),
 .o 21 (.conv (.i2i .u8) (.t 20)),
 .o 22 (.ixs (.c (.str [0, 1, 2, 2, 3, 3, 3, 3, 4, 4, 4, 4, 4, 4, 4, 4, 5, 5, 5, 5, 5, 5, 5, 5, 5, 5, 5, 5, 5, 5, 5, 5, 6, 6, 6, 6, 6, 6, 6, 6, 6, 6, 6, 6, 6, 6, 6, 6, 6, 6, 6, 6, 6, 6, 6, 6, 6, 6, 6, 6, 6, 6, 6, 6, 7, 7, 7, 7, 7, 7, 7, 7, 7, 7, 7, 7, 7, 7, 7, 7, 7, 7, 7, 7, 7, 7, 7, 7, 7, 7, 7, 7, 7, 7, 7, 7, 7, 7, 7, 7, 7, 7, 7, 7, 7, 7, 7, 7, 7, 7, 7, 7, 7, 7, 7, 7, 7, 7, 7, 7, 7, 7, 7, 7, 7, 7, 7, 7, 8, 8, 8, 8, 8, 8, 8, 8, 8, 8, 8, 8, 8, 8, 8, 8, 8, 8, 8, 8, 8, 8, 8, 8, 8, 8, 8, 8, 8, 8, 8, 8, 8, 8, 8, 8, 8, 8, 8, 8, 8, 8, 8, 8, 8, 8, 8, 8, 8, 8, 8, 8, 8, 8, 8, 8, 8, 8, 8, 8, 8, 8, 8, 8, 8, 8, 8, 8, 8, 8, 8, 8, 8, 8, 8, 8, 8, 8, 8, 8, 8, 8, 8, 8, 8, 8, 8, 8, 8, 8, 8, 8, 8, 8, 8, 8, 8, 8, 8, 8, 8, 8, 8, 8, 8, 8, 8, 8, 8, 8, 8, 8, 8, 8, 8, 8, 8, 8, 8, 8, 8, 8, 8, 8, 8, 8, 8, 8])) (.t 21)),
 .o 23 (.conv (.i2i .i64) (.t 22)),
 .o 24 (.bin .add (.t 19) (.t 23)),
 .o 2 (.mov (.t 24))])
 .ret)))))⟩
def fn230 : AFunc := ⟨54, 2, [(4, none)],
 (.seq (.ops [.o 4 (.mov (.c (.str [])))])
 (.seq (.seq (.ops [.o 10 (.mov (.t 1)),
 .o 11 (.bin .eql (.t 10) (.c (.int .i64 10)))])
 (.cond (.t 11)
 (.seq (.seq (.ops [.o 12 (.mov (.t 0)),
 .o 13 (.bin .leq .z (.t 12)),
 .o 14 (.mov (.t 13)),
 ⟨(some 15), .mov (.t 0), (some (14, true)), false⟩,
 ⟨(some 16), .bin .lss (.t 15) (.c (.int .i64 100)), (some (14, true)), false⟩,
 .o 17 (.pick (.t 14) (.t 16) (.c (.bool false)))])
 (.cond (.t 17)
 (.seq (.ops [.o 18 (.mov (.t 0)),
 .o 19 (.call (.f 240) [(.t 18)]),
 .o 4 (.mov (.t 19))])
 .ret)
 .skip))
 (.seq (.ops [.o 5 (.box (.c (.agg [.int .u8 0, .int .u8 0, .int .u8 0, .int .u8 0, .int .u8 0, .int .u8 0, .int .u8 0, .int .u8 0, .int .u8 0, .int .u8 0, .int .u8 0, .int .u8 0, .int .u8 0, .int .u8 0, .int .u8 0, .int .u8 0, .int .u8 0, .int .u8 0, .int .u8 0, .int .u8 0, .int .u8 0, .int .u8 0, .int .u8 0, .int .u8 0])))])
 (.seq (.ops [.o 20 (.mov (.t 0)),
 .o 21 (.conv (.i2i .u64) (.t 20)),
 .o 6 (.mov (.t 21))])
 (.seq (.seq (.ops [.o 22 (.mov (.t 0)),
 .o 23 (.bin .lss (.t 22) .z)])
 (.cond (.t 23)
 (.ops [.o 24 (.mov (.t 6)),
 .o 25 (.un .neg (.t 24)),
 .o 6 (.mov (.t 25))])
 .skip))
 (.seq (.ops [.o 26 (.mov (.t 6)),
 .o 27 (.call (.f 241) [(.t 26)]),
 .o 7 (.mov (.t 27))])
 (.seq (.ops [.o 28 (.mov (.t 7)),
 .o 29 (.bin .add .w (.t 28)),
 .o 30 (.sla 24 1 (.t 5) (some .w) (some (.t 29))),
 .o 31 (.mov (.t 6)),
 .o 32 (.call (.f 242) [(.t 30), (.t 31)])])
 (.seq (.seq (.ops [.o 33 (.mov (.t 0)),
 .o 34 (.bin .lss (.t 33) .z)])
 (.cond (.t 34)
 (.seq (.ops [.o 35 (.iada 24 1 (.t 5) .z),
 .x (.store 1 (.t 35) (.c (.int .u8 45)))])
 (.seq (.ops [.o 36 (.mov (.t 7)),
 .o 37 (.bin .add .w (.t 36)),
 .o 38 (.sla 24 1 (.t 5) none (some (.t 37))),
 .o 39 (.conv .b2s (.t 38)),
 .o 4 (.mov (.t 39))])
 .ret))
 .skip))
 (.seq (.ops [.o 40 (.mov (.t 7)),
 .o 41 (.bin .add .w (.t 40)),
 .o 42 (.sla 24 1 (.t 5) (some .w) (some (.t 41))),
 .o 43 (.conv .b2s (.t 42)),
 .o 4 (.mov (.t 43))])
 .ret))))))))
 .skip))
 (.seq (.ops [.o 45 (.mov (.t 0)),
 .o 46 (.conv (.i2i .u64) (.t 45)),
 .o 47 (.mov (.t 1)),
 .o 48 (.mov (.t 0)),
 .o 49 (.bin .lss (.t 48) .z),
 .o 50 (.call (.f 243) [(.c (.nilSlice)), (.t 46), (.t 47), (.t 49), (.c (.bool false))]),
 .o 44 (.mov (.t 50)),
 .o 51 (.ext (.t 44) 0),
 .o 52 (.ext (.t 44) 1),
 .o 8 (.mov (.t 51)),
 .o 9 (.mov (.t 52))])
 (.seq (.ops [.o 53 (.mov (.t 9)),
 .o 4 (.mov (.t 53))])
 .ret))))⟩
def fn233 : AFunc := ⟨34, 2, [(4, none)],
 (.seq (.ops [.o 4 (.mov .z)])
 (.seq (.seq (.ops [.o 7 (.mov (.t 1)),
 .o 8 (.len .st (.t 7)),
 .o 9 (.bin .eql (.t 8) .z)])
 (.cond (.t 9)
 (.seq (.ops [.o 10 (.mov (.t 0)),
 .o 11 (.call (.f 244) [(.t 10)]),
 .o 12 (.bin .add (.t 11) .w),
 .o 4 (.mov (.t 12))])
 .ret)
 .skip))
 (.seq (.seq (.ops [.o 13 (.mov (.t 1)),
 .o 14 (.len .st (.t 13)),
 .o 15 (.bin .eql (.t 14) .w)])
 (.cond (.t 15)
 (.seq (.ops [.o 16 (.mov (.t 0)),
 .o 17 (.mov (.t 1)),
 .o 18 (.ixs (.t 17) .z),
 .o 19 (.call (.f 246) [(.t 16), (.t 18)]),
 .o 4 (.mov (.t 19))])
 .ret)
 .skip))
 (.seq (.ops [.o 5 (.mov .z)])
 (.block 0 (.loop (.block 1 (.seq (.ops [.o 20 (.mov (.t 0)),
 .o 21 (.mov (.t 1)),
 .o 22 (.call (.f 234) [(.t 20), (.t 21)]),
 .o 6 (.mov (.t 22))])
 (.seq (.seq (.ops [.o 23 (.mov (.t 6)),
 .o 24 (.bin .eql (.t 23) (.c (.int .i64 (-1))))])
 (.cond (.t 24)
 (.seq (.ops [.o 25 (.mov (.t 5)),
 .o 4 (.mov (.t 25))])
 .ret)
 .skip))
 (.seq (.ops [.o 26 (.mov (.t 5)),
 .o 27 (.bin .add (.t 26) .w),
 .o 5 (.mov (.t 27))])
 (.ops [.o 28 (.mov (.t 0)),
 .o 29 (.mov (.t 6)),
 .o 30 (.mov (.t 1)),
 .o 31 (.len .st (.t 30)),
 .o 32 (.bin .add (.t 29) (.t 31)),
 .o 33 (.sls (.t 28) (some (.t 32)) none),
 .o 0 (.mov (.t 33))])))))))))))⟩
def fn234 : AFunc := ⟨8, 2, [(4, none)],
 (.seq (.ops [.o 4 (.mov .z)])
 (.seq (.ops [.o 5 (.mov (.t 0)),
 .o 6 (.mov (.t 1)),
 .o 7 (.call (.f 247) [(.t 5), (.t 6)]),
 .o 4 (.mov (.t 7))])
 .ret))⟩
def fn240 : AFunc := ⟨15, 1, [(2, none)],
 (.seq (.ops [.o 2 (.mov (.c (.str [])))])
 (.seq (.seq (.ops [.o 3 (.mov (.t 0)),
 .o 4 (.bin .lss (.t 3) (.c (.int .i64 10)))])
 (.cond (.t 4)
 (.seq (.ops [.o 5 (.mov (.t 0)),
 .o 6 (.mov (.t 0)),
 .o 7 (.bin .add (.t 6) .w),
 .o 8 (.sls (.c (.str [48, 49, 50, 51, 52, 53, 54, 55, 56, 57, 97, 98, 99, 100, 101, 102, 103, 104, 105, 106, 107, 108, 109, 110, 111, 112, 113, 114, 115, 116, 117, 118, 119, 120, 121, 122])) (some (.t 5)) (some (.t 7))),
 .o 2 (.mov (.t 8))])
 .ret)
 .skip))
 (.seq (.ops [.o 9 (.mov (.t 0)),
 .o 10 (.bin .mul (.t 9) (.c (.int .i64 2))),
 .o 11 (.mov (.t 0)),
 .o 12 (.bin .mul (.t 11) (.c (.int .i64 2))),
 .o 13 (.bin .add (.t 12) (.c (.int .i64 2))),
 .o 14 (.sls (.c (.str [48, 48, 48, 49, 48, 50, 48, 51, 48, 52, 48, 53, 48, 54, 48, 55, 48, 56, 48, 57, 49, 48, 49, 49, 49, 50, 49, 51, 49, 52, 49, 53, 49, 54, 49, 55, 49, 56, 49, 57, 50, 48, 50, 49, 50, 50, 50, 51, 50, 52, 50, 53, 50, 54, 50, 55, 50, 56, 50, 57, 51, 48, 51, 49, 51, 50, 51, 51, 51, 52, 51, 53, 51, 54, 51, 55, 51, 56, 51, 57, 52, 48, 52, 49, 52, 50, 52, 51, 52, 52, 52, 53, 52, 54, 52, 55, 52, 56, 52, 57, 53, 48, 53, 49, 53, 50, 53, 51, 53, 52, 53, 53, 53, 54, 53, 55, 53, 56, 53, 57, 54, 48, 54, 49, 54, 50, 54, 51, 54, 52, 54, 53, 54, 54, 54, 55, 54, 56, 54, 57, 55, 48, 55, 49, 55, 50, 55, 51, 55, 52, 55, 53, 55, 54, 55, 55, 55, 56, 55, 57, 56, 48, 56, 49, 56, 50, 56, 51, 56, 52, 56, 53, 56, 54, 56, 55, 56, 56, 56, 57, 57, 48, 57, 49, 57, 50, 57, 51, 57, 52, 57, 53, 57, 54, 57, 55, 57, 56, 57, 57])) (some (.t 10)) (some (.t 13))),
 .o 2 (.mov (.t 14))])
 .ret)))⟩
def fn241 : AFunc := ⟨15, 1, [(2, none)],
 (.seq (.ops [.o 2 (.mov .z)])
 (.seq (.ops [.o 4 (.mov (.t 0)),
 .o 5 (.call (.f 227) [(.t 4)]),
 .o 6 (.call (.f 249) [(.t 5)]),
 .o 3 (.mov (.t 6))])
 (.seq (.ops [.o 7 (.mov (.t 3)),
 .o 8 (.mov (.t 0)),
 .o 9 (.mov (.t 3)),
 .o 10 (.iada 20 1 (.g 2) (.t 9)),
 .o 11 (.load none (.t 10)),
 .o 12 (.bin .geq (.t 8) (.t 11)),
 .o 13 (.call (.f 250) [(.t 12)]),
 .o 14 (.bin .add (.t 7) (.t 13)),
 .o 2 (.mov (.t 14))])
 .ret)))⟩
def fn242 : AFunc := ⟨167, 2, [],
 (.seq (.ops [.o 17 (.mov (.t 0)),
 .o 18 (.len .sl (.t 17)),
 .o 4 (.mov (.t 18))])
 (.seq (.block 0 (.loop (.seq (.seq (.ops [.o 19 (.mov (.t 4)),
 .o 20 (.bin .geq (.t 19) (.c (.int .i64 8)))])
 (.cond (.t 20)
 .skip
 (.exit 0)))
 (.block 1 (.seq (.ops [.o 21 (.mov (.t 1)),
 .o 22 (.bin .rem (.t 21) (.c (.int .u64 100000000))),
 .o 23 (.conv (.i2i .u32) (.t 22)),
 .o 5 (.mov (.t 23))])
 (.seq (.ops [.o 24 (.mov (.t 1)),
 .o 25 (.bin .quo (.t 24) (.c (.int .u64 100000000))),
 .o 1 (.mov (.t 25))])
 (.seq (.ops [.o 26 (.mov (.t 5)),
 .o 27 (.bin .quo (.t 26) (.c (.int .u32 10000))),
 .o 28 (.mov (.t 5)),
 .o 29 (.bin .rem (.t 28) (.c (.int .u32 10000))),
 .o 6 (.mov (.t 27)),
 .o 7 (.mov (.t 29))])
 (.seq (.ops [.o 30 (.mov (.t 7)),
 .o 31 (.bin .quo (.t 30) (.c (.int .u32 100))),
 .o 32 (.bin .mul (.t 31) (.c (.int .u32 2))),
 .o 33 (.mov (.t 7)),
 .o 34 (.bin .rem (.t 33) (.c (.int .u32 100))),
 .o 35 (.bin .mul (.t 34) (.c (.int .u32 2))),
 .o 8 (.mov (.t 32)),
 .o 9 (.mov (.t 35))])
 (.seq (.ops [.o 36 (.mov (.t 6)),
 .o 37 (.bin .quo (.t 36) (.c (.int .u32 100))),
 .o 38 (.bin .mul (.t 37) (.c (.int .u32 2))),
 .o 39 (.mov (.t 6)),
 .o 40 (.bin .rem (.t 39) (.c (.int .u32 100))),
 .o 41 (.bin .mul (.t 40) (.c (.int .u32 2))),
 .o 10 (.mov (.t 38)),
 .o 11 (.mov (.t 41))])
 (.seq (.ops [.o 42 (.mov (.t 0)),
 .o 43 (.mov (.t 4)),
 .o 44 (.bin .sub (.t 43) .w),
 .o 45 (.mov (.t 0)),
 .o 46 (.mov (.t 4)),
 .o 47 (.bin .sub (.t 46) (.c (.int .i64 2))),
 .o 48 (.mov (.t 9)),
 .o 49 (.bin .add (.t 48) (.c (.int .u32 1))),
 .o 50 (.ixs (.c (.str [48, 48, 48, 49, 48, 50, 48, 51, 48, 52, 48, 53, 48, 54, 48, 55, 48, 56, 48, 57, 49, 48, 49, 49, 49, 50, 49, 51, 49, 52, 49, 53, 49, 54, 49, 55, 49, 56, 49, 57, 50, 48, 50, 49, 50, 50, 50, 51, 50, 52, 50, 53, 50, 54, 50, 55, 50, 56, 50, 57, 51, 48, 51, 49, 51, 50, 51, 51, 51, 52, 51, 53, 51, 54, 51, 55, 51, 56, 51, 57, 52, 48, 52, 49, 52, 50, 52, 51, 52, 52, 52, 53, 52, 54, 52, 55, 52, 56, 52, 57, 53, 48, 53, 49, 53, 50, 53, 51, 53, 52, 53, 53, 53, 54, 53, 55, 53, 56, 53, 57, 54, 48, 54, 49, 54, 50, 54, 51, 54, 52, 54, 53, 54, 54, 54, 55, 54, 56, 54, 57, 55, 48, 55, 49, 55, 50, 55, 51, 55, 52, 55, 53, 55, 54, 55, 55, 55, 56, 55, 57, 56, 48, 56, 49, 56, 50, 56, 51, 56, 52, 56, 53, 56, 54, 56, 55, 56, 56, 56, 57, 57, 48, 57, 49, 57, 50, 57, 51, 57, 52, 57, 53, 57, 54, 57, 55, 57, 56, 57, 57])) (.t 49)),
 .o 51 (.mov (.t 9)),
 .o 52 (.ixs (.c (.str [48, 48, 48, 49, 48, 50, 48, 51, 48, 52, 48, 53, 48, 54, 48, 55, 48, 56, 48, 57, 49, 48, 49, 49, 49, 50, 49, 51, 49, 52, 49, 53, 49, 54, 49, 55, 49, 56, 49, 57, 50, 48, 50, 49, 50, 50, 50, 51, 50, 52, 50, 53, 50, 54, 50, 55, 50, 56, 50, 57, 51, 48, 51, 49, 51, 50, 51, 51, 51, 52, 51, 53, 51, 54, 51, 55, 51, 56, 51, 57, 52, 48, 52, 49, 52, 50, 52, 51, 52, 52, 52, 53, 52, 54, 52, 55, 52, 56, 52, 57, 53, 48, 53, 49, 53, 50, 53, 51, 53, 52, 53, 53, 53, 54, 53, 55, 53, 56, 53, 57, 54, 48, 54, 49, 54, 50, 54, 51, 54, 52, 54, 53, 54, 54, 54, 55, 54, 56, 54, 57, 55, 48, 55, 49, 55, 50, 55, 51, 55, 52, 55, 53, 55, 54, 55, 55, 55, 56, 55, 57, 56, 48, 56, 49, 56, 50, 56, 51, 56, 52, 56, 53, 56, 54, 56, 55, 56, 56, 56, 57, 57, 48, 57, 49, 57, 50, 57, 51, 57, 52, 57, 53, 57, 54, 57, 55, 57, 56, 57, 57])) (.t 51)),
 .o 53 (.iadr 1 (.t 42) (.t 44)),
 .x (.store 1 (.t 53) (.t 50)),
 .o 54 (.iadr 1 (.t 45) (.t 47)),
 .x (.store 1 (.t 54) (.t 52))])
 (.seq (.ops [.o 55 (.mov (.t 0)),
 .o 56 (.mov (.t 4)),
 .o 57 (.bin .sub (.t 56) (.c (.int .i64 3))),
 .o 58 (.mov (.t 0)),
 .o 59 (.mov (.t 4)),
 .o 60 (.bin .sub (.t 59) (.c (.int .i64 4))),
 .o 61 (.mov (.t 8)),
 .o 62 (.bin .add (.t 61) (.c (.int .u32 1))),
 .o 63 (.ixs (.c (.str [48, 48, 48, 49, 48, 50, 48, 51, 48, 52, 48, 53, 48, 54, 48, 55, 48, 56, 48, 57, 49, 48, 49, 49, 49, 50, 49, 51, 49, 52, 49, 53, 49, 54, 49, 55, 49, 56, 49, 57, 50, 48, 50, 49, 50, 50, 50, 51, 50, 52, 50, 53, 50, 54, 50, 55, 50, 56, 50, 57, 51, 48, 51, 49, 51, 50, 51, 51, 51, 52, 51, 53, 51, 54, 51, 55, 51, 56, 51, 57, 52, 48, 52, 49, 52, 50, 52, 51, 52, 52, 52, 53, 52, 54, 52, 55, 52, 56, 52, 57, 53, 48, 53, 49, 53, 50, 53, 51, 53, 52, 53, 53, 53, 54, 53, 55, 53, 56, 53, 57, 54, 48, 54, 49, 54, 50, 54, 51, 54, 52, 54, 53, 54, 54, 54, 55, 54, 56, 54, 57, 55, 48, 55, 49, 55, 50, 55, 51, 55, 52, 55, 53, 55, 54, 55, 55, 55, 56, 55, 57, 56, 48, 56, 49, 56, 50, 56, 51, 56, 52, 56, 53, 56, 54, 56, 55, 56, 56, 56, 57, 57, 48, 57, 49, 57, 50, 57, 51, 57, 52, 57, 53, 57, 54, 57, 55, 57, 56, 57, 57])) (.t 62)),
 .o 64 (.mov (.t 8)),
 .o 65 (.ixs (.c (.str [48, 48, 48, 49, 48, 50, 48, 51, 48, 52, 48, 53, 48, 54, 48, 55, 48, 56, 48, 57, 49, 48, 49, 49, 49, 50, 49, 51, 49, 52, 49, 53, 49, 54, 49, 55, 49, 56, 49, 57, 50, 48, 50, 49, 50, 50, 50, 51, 50, 52, 50, 53, 50, 54, 50, 55, 50, 56, 50, 57, 51, 48, 51, 49, 51, 50, 51, 51, 51, 52, 51, 53, 51, 54, 51, 55, 51, 56, 51, 57, 52, 48, 52, 49, 52, 50, 52, 51, 52, 52, 52, 53, 52, 54, 52, 55, 52, 56, 52, 57, 53, 48, 53, 49, 53, 50, 53, 51, 53, 52, 53, 53, 53, 54, 53, 55, 53, 56, 53, 57, 54, 48, 54, 49, 54, 50, 54, 51, 54, 52, 54, 53, 54, 54, 54, 55, 54, 56, 54, 57, 55, 48, 55, 49, 55, 50, 55, 51, 55, 52, 55, 53, 55, 54, 55, 55, 55, 56, 55, 57, 56, 48, 56, 49, 56, 50, 56, 51, 56, 52, 56, 53, 56, 54, 56, 55, 56, 56, 56, 57, 57, 48, 57, 49, 57, 50, 57, 51, 57, 52, 57, 53, 57, 54, 57, 55, 57, 56, 57, 57])) (.t 64)),
 .o 66 (.iadr 1 (.t 55) (.t 57)),
 .x (.store 1 (.t 66) (.t 63)),
 .o 67 (.iadr 1 (.t 58) (.t 60)),
 .x (.store 1 (.t 67) (.t 65))])
 (.seq (.ops [.o 68 (.mov (.t 0)),
 .o 69 (.mov (.t 4)),
 .o 70 (.bin .sub (.t 69) (.c (.int .i64 5))),
 .o 71 (.mov (.t 0)),
 .o 72 (.mov (.t 4)),
 .o 73 (.bin .sub (.t 72) (.c (.int .i64 6))),
 .o 74 (.mov (.t 11)),
 .o 75 (.bin .add (.t 74) (.c (.int .u32 1))),
 .o 76 (.ixs (.c (.str [48, 48, 48, 49, 48, 50, 48, 51, 48, 52, 48, 53, 48, 54, 48, 55, 48, 56, 48, 57, 49, 48, 49, 49, 49, 50, 49, 51, 49, 52, 49, 53, 49, 54, 49, 55, 49, 56, 49, 57, 50, 48, 50, 49, 50, 50, 50, 51, 50, 52, 50, 53, 50, 54, 50, 55, 50, 56, 50, 57, 51, 48, 51, 49, 51, 50, 51, 51, 51, 52, 51, 53, 51, 54, 51, 55, 51, 56, 51, 57, 52, 48, 52, 49, 52, 50, 52, 51, 52, 52, 52, 53, 52, 54, 52, 55, 52, 56, 52, 57, 53, 48, 53, 49, 53, 50, 53, 51, 53, 52, 53, 53, 53, 54, 53, 55, 53, 56, 53, 57, 54, 48, 54, 49, 54, 50, 54, 51, 54, 52, 54, 53, 54, 54, 54, 55, 54, 56, 54, 57, 55, 48, 55, 49, 55, 50, 55, 51, 55, 52, 55, 53, 55, 54, 55, 55, 55, 56, 55, 57, 56, 48, 56, 49, 56, 50, 56, 51, 56, 52, 56, 53, 56, 54, 56, 55, 56, 56, 56, 57, 57, 48, 57, 49, 57, 50, 57, 51, 57, 52, 57, 53, 57, 54, 57, 55, 57, 56, 57, 57])) (.t 75)),
 .o 77 (.mov (.t 11)),
 .o 78 (.ixs (.c (.str [48, 48, 48, 49, 48, 50, 48, 51, 48, 52, 48, 53, 48, 54, 48, 55, 48, 56, 48, 57, 49, 48, 49, 49, 49, 50, 49, 51, 49, 52, 49, 53, 49, 54, 49, 55, 49, 56, 49, 57, 50, 48, 50, 49, 50, 50, 50, 51, 50, 52, 50, 53, 50, 54, 50, 55, 50, 56, 50, 57, 51, 48, 51, 49, 51, 50, 51, 51, 51, 52, 51, 53, 51, 54, 51, 55, 51, 56, 51, 57, 52, 48, 52, 49, 52, 50, 52, 51, 52, 52, 52, 53, 52, 54, 52, 55, 52, 56, 52, 57, 53, 48, 53, 49, 53, 50, 53, 51, 53, 52, 53, 53, 53, 54, 53, 55, 53, 56, 53, 57, 54, 48, 54, 49, 54, 50, 54, 51, 54, 52, 54, 53, 54, 54, 54, 55, 54, 56, 54, 57, 55, 48, 55, 49, 55, 50, 55, 51, 55, 52, 55, 53, 55, 54, 55, 55, 55, 56, 55, 57, 56, 48, 56, 49, 56, 50, 56, 51, 56, 52, 56, 53, 56, 54, 56, 55, 56, 56, 56, 57, 57, 48, 57, 49, 57, 50, 57, 51, 57, 52, 57, 53, 57, 54, 57, 55, 57, 56, 57, 57])) (.t 77)),
 .o 79 (.iadr 1 (.t 68) (.t 70)),
 .x (.store 1 (.t 79) (.t 76)),
 .o 80 (.iadr 1 (.t 71) (.t 73)),
 .x (.store 1 (.t 80) (.t 78))])
 (.seq (.ops [.o 81 (.mov (.t 0)),
 .o 82 (.mov (.t 4)),
 .o 83 (.bin .sub (.t 82) (.c (.int .i64 7))),
 .o 84 (.mov (.t 0)),
 .o 85 (.mov (.t 4)),
 .o 86 (.bin .sub (.t 85) (.c (.int .i64 8))),
 .o 87 (.mov (.t 10)),
 .o 88 (.bin .add (.t 87) (.c (.int .u32 1))),
 .o 89 (.ixs (.c (.str [48, 48, 48, 49, 48, 50, 48, 51, 48, 52, 48, 53, 48, 54, 48, 55, 48, 56, 48, 57, 49, 48, 49, 49, 49, 50, 49, 51, 49, 52, 49, 53, 49, 54, 49, 55, 49, 56, 49, 57, 50, 48, 50, 49, 50, 50, 50, 51, 50, 52, 50, 53, 50, 54, 50, 55, 50, 56, 50, 57, 51, 48, 51, 49, 51, 50, 51, 51, 51, 52, 51, 53, 51, 54, 51, 55, 51, 56, 51, 57, 52, 48, 52, 49, 52, 50, 52, 51, 52, 52, 52, 53, 52, 54, 52, 55, 52, 56, 52, 57, 53, 48, 53, 49, 53, 50, 53, 51, 53, 52, 53, 53, 53, 54, 53, 55, 53, 56, 53, 57, 54, 48, 54, 49, 54, 50, 54, 51, 54, 52, 54, 53, 54, 54, 54, 55, 54, 56, 54, 57, 55, 48, 55, 49, 55, 50, 55, 51, 55, 52, 55, 53, 55, 54, 55, 55, 55, 56, 55, 57, 56, 48, 56, 49, 56, 50, 56, 51, 56, 52, 56, 53, 56, 54, 56, 55, 56, 56, 56, 57, 57, 48, 57, 49, 57, 50, 57, 51, 57, 52, 57, 53, 57, 54, 57, 55, 57, 56, 57, 57])) (.t 88)),
 .o 90 (.mov (.t 10)),
 .o 91 (.ixs (.c (.str [48, 48, 48, 49, 48, 50, 48, 51, 48, 52, 48, 53, 48, 54, 48, 55, 48, 56, 48, 57, 49, 48, 49, 49, 49, 50, 49, 51, 49, 52, 49, 53, 49, 54, 49, 55, 49, 56, 49, 57, 50, 48, 50, 49, 50, 50, 50, 51, 50, 52, 50, 53, 50, 54, 50, 55, 50, 56, 50, 57, 51, 48, 51, 49, 51, 50, 51, 51, 51, 52, 51, 53, 51, 54, 51, 55, 51, 56, 51, 57, 52, 48, 52, 49, 52, 50, 52, 51, 52, 52, 52, 53, 52, 54, 52, 55, 52, 56, 52, 57, 53, 48, 53, 49, 53, 50, 53, 51, 53, 52, 53, 53, 53, 54, 53, 55, 53, 56, 53, 57, 54, 48, 54, 49, 54, 50, 54, 51, 54, 52, 54, 53, 54, 54, 54, 55, 54, 56, 54, 57, 55, 48, 55, 49, 55, 50, 55, 51, 55, 52, 55, 53, 55, 54, 55, 55, 55, 56, 55, 57, 56, 48, 56, 49, 56, 50, 56, 51, 56, 52, 56, 53, 56, 54, 56, 55, 56, 56, 56, 57, 57, 48, 57, 49, 57, 50, 57, 51, 57, 52, 57, 53, 57, 54, 57, 55, 57, 56, 57, 57])) (.t 90)),
 .o 92 (.iadr 1 (.t 81) (.t 83)),
 .x (.store 1 (.t 92) (.t 89)),
 .o 93 (.iadr 1 (.t 84) (.t 86)),
 .x (.store 1 (.t 93) (.t 91))])
 (.ops [.o 94 (.mov (.t 4)),
 .o 95 (.bin .sub (.t 94) (.c (.int .i64 8))),
 .o 4 (.mov (.t 95))]))))))))))))))
 (.seq (.ops [.o 96 (.mov (.t 1)),
 .o 97 (.conv (.i2i .u32) (.t 96)),
 .o 12 (.mov (.t 97))])
 (.seq (.seq (.ops [.o 98 (.mov (.t 4)),
 .o 99 (.bin .geq (.t 98) (.c (.int .i64 4)))])
 (.cond (.t 99)
 (.seq (.ops [.o 100 (.mov (.t 12)),
 .o 101 (.bin .rem (.t 100) (.c (.int .u32 10000))),
 .o 13 (.mov (.t 101))])
 (.seq (.ops [.o 102 (.mov (.t 12)),
 .o 103 (.bin .quo (.t 102) (.c (.int .u32 10000))),
 .o 12 (.mov (.t 103))])
 (.seq (.ops [.o 104 (.mov (.t 13)),
 .o 105 (.bin .quo (.t 104) (.c (.int .u32 100))),
 .o 106 (.bin .mul (.t 105) (.c (.int .u32 2))),
 .o 107 (.mov (.t 13)),
 .o 108 (.bin .rem (.t 107) (.c (.int .u32 100))),
 .o 109 (.bin .mul (.t 108) (.c (.int .u32 2))),
 .o 14 (.mov (.t 106)),
 .o 15 (.mov (.t 109))])
 (.seq (.ops [.o 110 (.mov (.t 0)),
 .o 111 (.mov (.t 4)),
 .o 112 (.bin .sub (.t 111) .w),
 .o 113 (.mov (.t 0)),
 .o 114 (.mov (.t 4)),
 .o 115 (.bin .sub (.t 114) (.c (.int .i64 2))),
 .o 116 (.mov (.t 15)),
 .o 117 (.bin .add (.t 116) (.c (.int .u32 1))),
 .o 118 (.ixs (.c (.str [48, 48, 48, 49, 48, 50, 48, 51, 48, 52, 48, 53, 48, 54, 48, 55, 48, 56, 48, 57, 49, 48, 49, 49, 49, 50, 49, 51, 49, 52, 49, 53, 49, 54, 49, 55, 49, 56, 49, 57, 50, 48, 50, 49, 50, 50, 50, 51, 50, 52, 50, 53, 50, 54, 50, 55, 50, 56, 50, 57, 51, 48, 51, 49, 51, 50, 51, 51, 51, 52, 51, 53, 51, 54, 51, 55, 51, 56, 51, 57, 52, 48, 52, 49, 52, 50, 52, 51, 52, 52, 52, 53, 52, 54, 52, 55, 52, 56, 52, 57, 53, 48, 53, 49, 53, 50, 53, 51, 53, 52, 53, 53, 53, 54, 53, 55, 53, 56, 53, 57, 54, 48, 54, 49, 54, 50, 54, 51, 54, 52, 54, 53, 54, 54, 54, 55, 54, 56, 54, 57, 55, 48, 55, 49, 55, 50, 55, 51, 55, 52, 55, 53, 55, 54, 55, 55, 55, 56, 55, 57, 56, 48, 56, 49, 56, 50, 56, 51, 56, 52, 56, 53, 56, 54, 56, 55, 56, 56, 56, 57, 57, 48, 57, 49, 57, 50, 57, 51, 57, 52, 57, 53, 57, 54, 57, 55, 57, 56, 57, 57])) (.t 117)),
 .o 119 (.mov (.t 15)),
 .o 120 (.ixs (.c (.str [48, 48, 48, 49, 48, 50, 48, 51, 48, 52, 48, 53, 48, 54, 48, 55, 48, 56, 48, 57, 49, 48, 49, 49, 49, 50, 49, 51, 49, 52, 49, 53, 49, 54, 49, 55, 49, 56, 49, 57, 50, 48, 50, 49, 50, 50, 50, 51, 50, 52, 50, 53, 50, 54, 50, 55, 50, 56, 50, 57, 51, 48, 51, 49, 51, 50, 51, 51, 51, 52, 51, 53, 51, 54, 51, 55, 51, 56, 51, 57, 52, 48, 52, 49, 52, 50, 52, 51, 52, 52, 52, 53, 52, 54, 52, 55, 52, 56, 52, 57, 53, 48, 53, 49, 53, 50, 53, 51, 53, 52, 53, 53, 53, 54, 53, 55, 53, 56, 53, 57, 54, 48, 54, 49, 54, 50, 54, 51, 54, 52, 54, 53, 54, 54, 54, 55, 54, 56, 54, 57, 55, 48, 55, 49, 55, 50, 55, 51, 55, 52, 55, 53, 55, 54, 55, 55, 55, 56, 55, 57, 56, 48, 56, 49, 56, 50, 56, 51, 56, 52, 56, 53, 56, 54, 56, 55, 56, 56, 56, 57, 57, 48, 57, 49, 57, 50, 57, 51, 57, 52, 57, 53, 57, 54, 57, 55, 57, 56, 57, 57])) (.t 119)),
 .o 121 (.iadr 1 (.t 110) (.t 112)),
 .x (.store 1 (.t 121) (.t 118)),
 .o 122 (.iadr 1 (.t 113) (.t 115)),
 .x (.store 1 (.t 122) (.t 120))])
 (.seq (.ops [.o 123 (.mov (.t 0)),
 .o 124 (.mov (.t 4)),
 .o 125 (.bin .sub (.t 124) (.c (.int .i64 3))),
 .o 126 (.mov (.t 0)),
 .o 127 (.mov (.t 4)),
 .o 128 (.bin .sub (.t 127) (.c (.int .i64 4))),
 .o 129 (.mov (.t 14)),
 .o 130 (.bin .add (.t 129) (.c (.int .u32 1))),
 .o 131 (.ixs (.c (.str [48, 48, 48, 49, 48, 50, 48, 51, 48, 52, 48, 53, 48, 54, 48, 55, 48, 56, 48, 57, 49, 48, 49, 49, 49, 50, 49, 51, 49, 52, 49, 53, 49, 54, 49, 55, 49, 56, 49, 57, 50, 48, 50, 49, 50, 50, 50, 51, 50, 52, 50, 53, 50, 54, 50, 55, 50, 56, 50, 57, 51, 48, 51, 49, 51, 50, 51, 51, 51, 52, 51, 53, 51, 54, 51, 55, 51, 56, 51, 57, 52, 48, 52, 49, 52, 50, 52, 51, 52, 52, 52, 53, 52, 54, 52, 55, 52, 56, 52, 57, 53, 48, 53, 49, 53, 50, 53, 51, 53, 52, 53, 53, 53, 54, 53, 55, 53, 56, 53, 57, 54, 48, 54, 49, 54, 50, 54, 51, 54, 52, 54, 53, 54, 54, 54, 55, 54, 56, 54, 57, 55, 48, 55, 49, 55, 50, 55, 51, 55, 52, 55, 53, 55, 54, 55, 55, 55, 56, 55, 57, 56, 48, 56, 49, 56, 50, 56, 51, 56, 52, 56, 53, 56, 54, 56, 55, 56, 56, 56, 57, 57, 48, 57, 49, 57, 50, 57, 51, 57, 52, 57, 53, 57, 54, 57, 55, 57, 56, 57, 57])) (.t 130)),
 .o 132 (.mov (.t 14)),
 .o 133 (.ixs (.c (.str [48, 48, 48, 49, 48, 50, 48, 51, 48, 52, 48, 53, 48, 54, 48, 55, 48, 56, 48, 57, 49, 48, 49, 49, 49, 50, 49, 51, 49, 52, 49, 53, 49, 54, 49, 55, 49, 56, 49, 57, 50, 48, 50, 49, 50, 50, 50, 51, 50, 52, 50, 53, 50, 54, 50, 55, 50, 56, 50, 57, 51, 48, 51, 49, 51, 50, 51, 51, 51, 52, 51, 53, 51, 54, 51, 55, 51, 56, 51, 57, 52, 48, 52, 49, 52, 50, 52, 51, 52, 52, 52, 53, 52, 54, 52, 55, 52, 56, 52, 57, 53, 48, 53, 49, 53, 50, 53, 51, 53, 52, 53, 53, 53, 54, 53, 55, 53, 56, 53, 57, 54, 48, 54, 49, 54, 50, 54, 51, 54, 52, 54, 53, 54, 54, 54, 55, 54, 56, 54, 57, 55, 48, 55, 49, 55, 50, 55, 51, 55, 52, 55, 53, 55, 54, 55, 55, 55, 56, 55, 57, 56, 48, 56, 49, 56, 50, 56, 51, 56, 52, 56, 53, 56, 54, 56, 55, 56, 56, 56, 57, 57, 48, 57, 49, 57, 50, 57, 51, 57, 52, 57, 53, 57, 54, 57, 55, 57, 56, 57, 57])) (.t 132)),
 .o 134 (.iadr 1 (.t 123) (.t 125)),
 .x (.store 1 (.t 134) (.t 131)),
 .o 135 (.iadr 1 (.t 126) (.t 128)),
 .x (.store 1 (.t 135) (.t 133))])
 (.ops [.o 136 (.mov (.t 4)),
 .o 137 (.bin .sub (.t 136) (.c (.int .i64 4))),
 .o 4 (.mov (.t 137))]))))))
 .skip))
 (.seq (.seq (.ops [.o 138 (.mov (.t 4)),
 .o 139 (.bin .geq (.t 138) (.c (.int .i64 2)))])
 (.cond (.t 139)
 (.seq (.ops [.o 140 (.mov (.t 12)),
 .o 141 (.bin .rem (.t 140) (.c (.int .u32 100))),
 .o 142 (.bin .mul (.t 141) (.c (.int .u32 2))),
 .o 16 (.mov (.t 142))])
 (.seq (.ops [.o 143 (.mov (.t 12)),
 .o 144 (.bin .quo (.t 143) (.c (.int .u32 100))),
 .o 12 (.mov (.t 144))])
 (.seq (.ops [.o 145 (.mov (.t 0)),
 .o 146 (.mov (.t 4)),
 .o 147 (.bin .sub (.t 146) .w),
 .o 148 (.mov (.t 0)),
 .o 149 (.mov (.t 4)),
 .o 150 (.bin .sub (.t 149) (.c (.int .i64 2))),
 .o 151 (.mov (.t 16)),
 .o 152 (.bin .add (.t 151) (.c (.int .u32 1))),
 .o 153 (.ixs (.c (.str [48, 48, 48, 49, 48, 50, 48, 51, 48, 52, 48, 53, 48, 54, 48, 55, 48, 56, 48, 57, 49, 48, 49, 49, 49, 50, 49, 51, 49, 52, 49, 53, 49, 54, 49, 55, 49, 56, 49, 57, 50, 48, 50, 49, 50, 50, 50, 51, 50, 52, 50, 53, 50, 54, 50, 55, 50, 56, 50, 57, 51, 48, 51, 49, 51, 50, 51, 51, 51, 52, 51, 53, 51, 54, 51, 55, 51, 56, 51, 57, 52, 48, 52, 49, 52, 50, 52, 51, 52, 52, 52, 53, 52, 54, 52, 55, 52, 56, 52, 57, 53, 48, 53, 49, 53, 50, 53, 51, 53, 52, 53, 53, 53, 54, 53, 55, 53, 56, 53, 57, 54, 48, 54, 49, 54, 50, 54, 51, 54, 52, 54, 53, 54, 54, 54, 55, 54, 56, 54, 57, 55, 48, 55, 49, 55, 50, 55, 51, 55, 52, 55, 53, 55, 54, 55, 55, 55, 56, 55, 57, 56, 48, 56, 49, 56, 50, 56, 51, 56, 52, 56, 53, 56, 54, 56, 55, 56, 56, 56, 57, 57, 48, 57, 49, 57, 50, 57, 51, 57, 52, 57, 53, 57, 54, 57, 55, 57, 56, 57, 57])) (.t 152)),
 .o 154 (.mov (.t 16)),
 .o 155 (.ixs (.c (.str [48, 48, 48, 49, 48, 50, 48, 51, 48, 52, 48, 53, 48, 54, 48, 55, 48, 56, 48, 57, 49, 48, 49, 49, 49, 50, 49, 51, 49, 52, 49, 53, 49, 54, 49, 55, 49, 56, 49, 57, 50, 48, 50, 49, 50, 50, 50, 51, 50, 52, 50, 53, 50, 54, 50, 55, 50, 56, 50, 57, 51, 48, 51, 49, 51, 50, 51, 51, 51, 52, 51, 53, 51, 54, 51, 55, 51, 56, 51, 57, 52, 48, 52, 49, 52, 50, 52, 51, 52, 52, 52, 53, 52, 54, 52, 55, 52, 56, 52, 57, 53, 48, 53, 49, 53, 50, 53, 51, 53, 52, 53, 53, 53, 54, 53, 55, 53, 56, 53, 57, 54, 48, 54, 49, 54, 50, 54, 51, 54, 52, 54, 53, 54, 54, 54, 55, 54, 56, 54, 57, 55, 48, 55, 49, 55, 50, 55, 51, 55, 52, 55, 53, 55, 54, 55, 55, 55, 56, 55, 57, 56, 48, 56, 49, 56, 50, 56, 51, 56, 52, 56, 53, 56, 54, 56, 55, 56, 56, 56, 57, 57, 48, 57, 49, 57, 50, 57, 51, 57, 52, 57, 53, 57, 54, 57, 55, 57, 56, 57, 57])) (.t 154)),
 .o 156 (.iadr 1 (.t 145) (.t 147)),
 .x (.store 1 (.t 156) (.t 153)),
 .o 157 (.iadr 1 (.t 148) (.t 150)),
 .x (.store 1 (.t 157) (.t 155))])
 (.ops [.o 158 (.mov (.t 4)),
 .o 159 (.bin .sub (.t 158) (.c (.int .i64 2))),
 .o 4 (.mov (.t 159))]))))
 .skip))
 (.seq (.ops [.o 160 (.mov (.t 4)),
 .o 161 (.bin .gtr (.t 160) .z)])
 (.cond (.t 161)
 (.ops [.o 162 (.mov (.t 0)),
 .o 163 (.mov (.t 12)),
 .o 164 (.bin .add (.c (.int .u32 48)) (.t 163)),
 .o 165 (.conv (.i2i .u8) (.t 164)),
 .o 166 (.iadr 1 (.t 162) .z),
 .x (.store 1 (.t 166) (.t 165))])
 .skip)))))))⟩
def fn247 : AFunc := ⟨143, 2, [(4, none)],
 (.seq (.ops [.o 4 (.mov .z)])
 (.seq (.ops [.o 14 (.mov (.t 1)),
 .o 15 (.len .st (.t 14)),
 .o 5 (.mov (.t 15))])
 (.seq (.block 0 (.seq (.ops [.o 17 (.mov (.t 5)),
 .o 18 (.bin .eql (.t 17) .z),
 .o 19 (.mov (.t 18)),
 ⟨(some 20), .mov (.t 1), (some (19, false)), false⟩,
 ⟨(some 21), .mov (.t 0), (some (19, false)), false⟩,
 ⟨(some 22), .bin .eql (.t 20) (.t 21), (some (19, false)), false⟩,
 .o 23 (.pick (.t 19) (.c (.bool true)) (.t 22)),
 .o 16 (.mov (.t 23))])
 (.cond (.t 16)
 (.seq (.ops [.o 4 (.mov .z)])
 .ret)
 (.seq (.ops [.o 25 (.mov (.t 5)),
 .o 26 (.bin .eql (.t 25) .w),
 .o 24 (.mov (.t 26))])
 (.cond (.t 24)
 (.seq (.ops [.o 27 (.mov (.t 0)),
 .o 28 (.mov (.t 1)),
 .o 29 (.ixs (.t 28) .z),
 .o 30 (.call (.f 210) [(.t 27), (.t 29)]),
 .o 4 (.mov (.t 30))])
 .ret)
 (.seq (.ops [.o 32 (.mov (.t 5)),
 .o 33 (.mov (.t 0)),
 .o 34 (.len .st (.t 33)),
 .o 35 (.bin .geq (.t 32) (.t 34)),
 .o 31 (.mov (.t 35))])
 (.cond (.t 31)
 (.seq (.ops [.o 4 (.mov (.c (.int .i64 (-1))))])
 .ret)
 (.seq (.ops [.o 37 (.mov (.t 5)),
 .o 38 (.load none (.g 1)),
 .o 39 (.bin .leq (.t 37) (.t 38)),
 .o 40 (.mov (.t 39)),
 ⟨(some 41), .mov (.t 0), (some (40, true)), false⟩,
 ⟨(some 42), .len .st (.t 41), (some (40, true)), false⟩,
 ⟨(some 43), .bin .leq (.t 42) (.c (.int .i64 64)), (some (40, true)), false⟩,
 .o 44 (.pick (.t 40) (.t 43) (.c (.bool false))),
 .o 36 (.mov (.t 44))])
 (.cond (.t 36)
 (.seq (.ops [.o 45 (.mov (.t 0)),
 .o 46 (.mov (.t 1)),
 .o 47 (.call (.f 254) [(.t 45), (.t 46)]),
 .o 4 (.mov (.t 47))])
 .ret)
 .skip)))))))))
 (.seq (.ops [.o 48 (.mov (.t 1)),
 .o 49 (.ixs (.t 48) .z),
 .o 6 (.mov (.t 49))])
 (.seq (.ops [.o 50 (.mov (.t 1)),
 .o 51 (.ixs (.t 50) .w),
 .o 7 (.mov (.t 51))])
 (.seq (.ops [.o 8 (.mov .z)])
 (.seq (.ops [.o 52 (.mov (.t 0)),
 .o 53 (.len .st (.t 52)),
 .o 54 (.mov (.t 5)),
 .o 55 (.bin .sub (.t 53) (.t 54)),
 .o 56 (.bin .add (.t 55) .w),
 .o 9 (.mov (.t 56))])
 (.seq (.ops [.o 10 (.mov .z)])
 (.seq (.block 1 (.loop (.seq (.seq (.ops [.o 57 (.mov (.t 8)),
 .o 58 (.mov (.t 9)),
 .o 59 (.bin .lss (.t 57) (.t 58))])
 (.cond (.t 59)
 .skip
 (.exit 1)))
 (.block 2 (.seq (.seq (.ops [.o 60 (.mov (.t 0)),
 .o 61 (.mov (.t 8)),
 .o 62 (.ixs (.t 60) (.t 61)),
 .o 63 (.mov (.t 6)),
 .o 64 (.bin .neq (.t 62) (.t 63))])
 (.cond (.t 64)
 (.seq (.ops [.o 65 (.mov (.t 0)),
 .o 66 (.mov (.t 8)),
 .o 67 (.bin .add (.t 66) .w),
 .o 68 (.mov (.t 9)),
 .o 69 (.sls (.t 65) (some (.t 67)) (some (.t 68))),
 .o 70 (.mov (.t 6)),
 .o 71 (.call (.f 210) [(.t 69), (.t 70)]),
 .o 11 (.mov (.t 71))])
 (.seq (.seq (.ops [.o 72 (.mov (.t 11)),
 .o 73 (.bin .lss (.t 72) .z)])
 (.cond (.t 73)
 (.seq (.ops [.o 4 (.mov (.c (.int .i64 (-1))))])
 .ret)
 .skip))
 (.ops [.o 74 (.mov (.t 8)),
 .o 75 (.mov (.t 11)),
 .o 76 (.bin .add (.t 75) .w),
 .o 77 (.bin .add (.t 74) (.t 76)),
 .o 8 (.mov (.t 77))])))
 .skip))
 (.seq (.seq (.ops [.o 78 (.mov (.t 0)),
 .o 79 (.mov (.t 8)),
 .o 80 (.bin .add (.t 79) .w),
 .o 81 (.ixs (.t 78) (.t 80)),
 .o 82 (.mov (.t 7)),
 .o 83 (.bin .eql (.t 81) (.t 82)),
 .o 84 (.mov (.t 83)),
 ⟨(some 85), .mov (.t 0), (some (84, true)), false⟩,
 ⟨(some 86), .mov (.t 8), (some (84, true)), false⟩,
 ⟨(some 87), .mov (.t 8), (some (84, true)), false⟩,
 ⟨(some 88), .mov (.t 5), (some (84, true)), false⟩,
 ⟨(some 89), .bin .add (.t 87) (.t 88), (some (84, true)), false⟩,
 ⟨(some 90), .sls (.t 85) (some (.t 86)) (some (.t 89)), (some (84, true)), false⟩,
 ⟨(some 91), .mov (.t 1), (some (84, true)), false⟩,
 ⟨(some 92), .bin .eql (.t 90) (.t 91), (some (84, true)), false⟩,
 .o 93 (.pick (.t 84) (.t 92) (.c (.bool false)))])
 (.cond (.t 93)
 (.seq (.ops [.o 94 (.mov (.t 8)),
 .o 4 (.mov (.t 94))])
 .ret)
 .skip))
 (.seq (.ops [.o 95 (.mov (.t 8)),
 .o 96 (.bin .add (.t 95) .w),
 .o 8 (.mov (.t 96))])
 (.seq (.ops [.o 97 (.mov (.t 10)),
 .o 98 (.bin .add (.t 97) .w),
 .o 10 (.mov (.t 98))])
 (.seq (.ops [.o 99 (.mov (.t 5)),
 .o 100 (.load none (.g 1)),
 .o 101 (.bin .leq (.t 99) (.t 100)),
 .o 102 (.mov (.t 101)),
 ⟨(some 103), .mov (.t 10), (some (102, true)), false⟩,
 ⟨(some 104), .mov (.t 8), (some (102, true)), false⟩,
 ⟨(some 105), .call (.f 255) [(.t 104)], (some (102, true)), false⟩,
 ⟨(some 106), .bin .gtr (.t 103) (.t 105), (some (102, true)), false⟩,
 .o 107 (.pick (.t 102) (.t 106) (.c (.bool false)))])
 (.cond (.t 107)
 (.seq (.ops [.o 108 (.mov (.t 0)),
 .o 109 (.mov (.t 8)),
 .o 110 (.sls (.t 108) (some (.t 109)) none),
 .o 111 (.mov (.t 1)),
 .o 112 (.call (.f 254) [(.t 110), (.t 111)]),
 .o 12 (.mov (.t 112))])
 (.seq (.seq (.ops [.o 113 (.mov (.t 12)),
 .o 114 (.bin .geq (.t 113) .z)])
 (.cond (.t 114)
 (.seq (.ops [.o 115 (.mov (.t 12)),
 .o 116 (.mov (.t 8)),
 .o 117 (.bin .add (.t 115) (.t 116)),
 .o 4 (.mov (.t 117))])
 .ret)
 .skip))
 (.seq (.ops [.o 4 (.mov (.c (.int .i64 (-1))))])
 .ret)))
 (.seq (.ops [.o 118 (.mov (.t 5)),
 .o 119 (.load none (.g 1)),
 .o 120 (.bin .gtr (.t 118) (.t 119)),
 .o 121 (.mov (.t 120)),
 ⟨(some 122), .mov (.t 10), (some (121, true)), false⟩,
 ⟨(some 123), .mov (.t 8), (some (121, true)), false⟩,
 ⟨(some 124), .bin .shr (.t 123) (.c (.int .u64 4)), (some (121, true)), false⟩,
 ⟨(some 125), .bin .add (.c (.int .i64 4)) (.t 124), (some (121, true)), false⟩,
 ⟨(some 126), .bin .geq (.t 122) (.t 125), (some (121, true)), false⟩,
 .o 127 (.pick (.t 121) (.t 126) (.c (.bool false))),
 .o 128 (.mov (.t 127)),
 ⟨(some 129), .mov (.t 8), (some (128, true)), false⟩,
 ⟨(some 130), .mov (.t 9), (some (128, true)), false⟩,
 ⟨(some 131), .bin .lss (.t 129) (.t 130), (some (128, true)), false⟩,
 .o 132 (.pick (.t 128) (.t 131) (.c (.bool false)))])
 (.cond (.t 132)
 (.seq (.ops [.o 133 (.mov (.t 0)),
 .o 134 (.mov (.t 8)),
 .o 135 (.sls (.t 133) (some (.t 134)) none),
 .o 136 (.mov (.t 1)),
 .o 137 (.call (.f 256) [(.t 135), (.t 136)]),
 .o 13 (.mov (.t 137))])
 (.seq (.seq (.ops [.o 138 (.mov (.t 13)),
 .o 139 (.bin .lss (.t 138) .z)])
 (.cond (.t 139)
 (.seq (.ops [.o 4 (.mov (.c (.int .i64 (-1))))])
 .ret)
 .skip))
 (.seq (.ops [.o 140 (.mov (.t 8)),
 .o 141 (.mov (.t 13)),
 .o 142 (.bin .add (.t 140) (.t 141)),
 .o 4 (.mov (.t 142))])
 .ret)))
 .skip))))))))))))
 (.seq (.ops [.o 4 (.mov (.c (.int .i64 (-1))))])
 .ret))))))))))⟩
def fn249 : AFunc := ⟨6, 1, [(2, none)],
 (.seq (.ops [.o 2 (.mov .z)])
 (.seq (.ops [.o 3 (.mov (.t 0)),
 .o 4 (.bin .mul (.t 3) (.c (.int .i64 78913))),
 .o 5 (.bin .shr (.t 4) (.c (.int .u64 18))),
 .o 2 (.mov (.t 5))])
 .ret))⟩
def fn250 : AFunc := ⟨4, 1, [(2, none)],
 (.seq (.ops [.o 2 (.mov .z)])
 (.seq (.seq (.ops [.o 3 (.mov (.t 0))])
 (.cond (.t 3)
 (.seq (.ops [.o 2 (.mov .w)])
 .ret)
 .skip))
 (.seq (.ops [.o 2 (.mov .z)])
 .ret)))⟩
structure Tbl (P : Program) : Prop where
  mix : P.follows .mixedOrders = true
  c3 : compileFn P 3 = some fn3
  c4 : compileFn P 4 = some fn4
  c13 : compileFn P 13 = some fn13
  c14 : compileFn P 14 = some fn14
  c15 : compileFn P 15 = some fn15
  c16 : compileFn P 16 = some fn16
  c17 : compileFn P 17 = some fn17
  c18 : compileFn P 18 = some fn18
  c19 : compileFn P 19 = some fn19
  c20 : compileFn P 20 = some fn20
  c21 : compileFn P 21 = some fn21
  c22 : compileFn P 22 = some fn22
  c23 : compileFn P 23 = some fn23
  c24 : compileFn P 24 = some fn24
  c25 : compileFn P 25 = some fn25
  c26 : compileFn P 26 = some fn26
  c27 : compileFn P 27 = some fn27
  c28 : compileFn P 28 = some fn28
  c29 : compileFn P 29 = some fn29
  c30 : compileFn P 30 = some fn30
  c31 : compileFn P 31 = some fn31
  c32 : compileFn P 32 = some fn32
  c33 : compileFn P 33 = some fn33
  c34 : compileFn P 34 = some fn34
  c35 : compileFn P 35 = some fn35
  c36 : compileFn P 36 = some fn36
  c37 : compileFn P 37 = some fn37
  c39 : compileFn P 39 = some fn39
  c40 : compileFn P 40 = some fn40
  c41 : compileFn P 41 = some fn41
  c42 : compileFn P 42 = some fn42
  c43 : compileFn P 43 = some fn43
  c45 : compileFn P 45 = some fn45
  c52 : compileFn P 52 = some fn52
  c54 : compileFn P 54 = some fn54
  c56 : compileFn P 56 = some fn56
  c57 : compileFn P 57 = some fn57
  c65 : compileFn P 65 = some fn65
  c66 : compileFn P 66 = some fn66
  c67 : compileFn P 67 = some fn67
  c68 : compileFn P 68 = some fn68
  c69 : compileFn P 69 = some fn69
  c72 : compileFn P 72 = some fn72
  c73 : compileFn P 73 = some fn73
  c79 : compileFn P 79 = some fn79
  c80 : compileFn P 80 = some fn80
  c84 : compileFn P 84 = some fn84
  c85 : compileFn P 85 = some fn85
  c86 : compileFn P 86 = some fn86
  c87 : compileFn P 87 = some fn87
  c88 : compileFn P 88 = some fn88
  c89 : compileFn P 89 = some fn89
  c90 : compileFn P 90 = some fn90
  c91 : compileFn P 91 = some fn91
  c92 : compileFn P 92 = some fn92
  c93 : compileFn P 93 = some fn93
  c94 : compileFn P 94 = some fn94
  c95 : compileFn P 95 = some fn95
  c96 : compileFn P 96 = some fn96
  c97 : compileFn P 97 = some fn97
  c98 : compileFn P 98 = some fn98
  c99 : compileFn P 99 = some fn99
  c100 : compileFn P 100 = some fn100
  c101 : compileFn P 101 = some fn101
  c102 : compileFn P 102 = some fn102
  c103 : compileFn P 103 = some fn103
  c104 : compileFn P 104 = some fn104
  c105 : compileFn P 105 = some fn105
  c106 : compileFn P 106 = some fn106
  c107 : compileFn P 107 = some fn107
  c108 : compileFn P 108 = some fn108
  c109 : compileFn P 109 = some fn109
  c110 : compileFn P 110 = some fn110
  c111 : compileFn P 111 = some fn111
  c112 : compileFn P 112 = some fn112
  c113 : compileFn P 113 = some fn113
  c114 : compileFn P 114 = some fn114
  c115 : compileFn P 115 = some fn115
  c116 : compileFn P 116 = some fn116
  c117 : compileFn P 117 = some fn117
  c118 : compileFn P 118 = some fn118
  c119 : compileFn P 119 = some fn119
  c120 : compileFn P 120 = some fn120
  c121 : compileFn P 121 = some fn121
  c122 : compileFn P 122 = some fn122
  c123 : compileFn P 123 = some fn123
  c124 : compileFn P 124 = some fn124
  c125 : compileFn P 125 = some fn125
  c127 : compileFn P 127 = some fn127
  c128 : compileFn P 128 = some fn128
  c129 : compileFn P 129 = some fn129
  c130 : compileFn P 130 = some fn130
  c131 : compileFn P 131 = some fn131
  c132 : compileFn P 132 = some fn132
  c133 : compileFn P 133 = some fn133
  c136 : compileFn P 136 = some fn136
  c137 : compileFn P 137 = some fn137
  c138 : compileFn P 138 = some fn138
  c139 : compileFn P 139 = some fn139
  c140 : compileFn P 140 = some fn140
  c141 : compileFn P 141 = some fn141
  c142 : compileFn P 142 = some fn142
  c143 : compileFn P 143 = some fn143
  c145 : compileFn P 145 = some fn145
  c146 : compileFn P 146 = some fn146
  c147 : compileFn P 147 = some fn147
  c149 : compileFn P 149 = some fn149
  c150 : compileFn P 150 = some fn150
  c151 : compileFn P 151 = some fn151
  c152 : compileFn P 152 = some fn152
  c153 : compileFn P 153 = some fn153
  c154 : compileFn P 154 = some fn154
  c155 : compileFn P 155 = some fn155
  c156 : compileFn P 156 = some fn156
  c157 : compileFn P 157 = some fn157
  c158 : compileFn P 158 = some fn158
  c159 : compileFn P 159 = some fn159
  c160 : compileFn P 160 = some fn160
  c161 : compileFn P 161 = some fn161
  c162 : compileFn P 162 = some fn162
  c163 : compileFn P 163 = some fn163
  c164 : compileFn P 164 = some fn164
  c165 : compileFn P 165 = some fn165
  c166 : compileFn P 166 = some fn166
  c167 : compileFn P 167 = some fn167
  c168 : compileFn P 168 = some fn168
  c169 : compileFn P 169 = some fn169
  c170 : compileFn P 170 = some fn170
  c171 : compileFn P 171 = some fn171
  c172 : compileFn P 172 = some fn172
  c173 : compileFn P 173 = some fn173
  c174 : compileFn P 174 = some fn174
  c175 : compileFn P 175 = some fn175
  c176 : compileFn P 176 = some fn176
  c177 : compileFn P 177 = some fn177
  c178 : compileFn P 178 = some fn178
  c179 : compileFn P 179 = some fn179
  c180 : compileFn P 180 = some fn180
  c181 : compileFn P 181 = some fn181
  c182 : compileFn P 182 = some fn182
  c183 : compileFn P 183 = some fn183
  c184 : compileFn P 184 = some fn184
  c188 : compileFn P 188 = some fn188
  c189 : compileFn P 189 = some fn189
  c190 : compileFn P 190 = some fn190
  c191 : compileFn P 191 = some fn191
  c192 : compileFn P 192 = some fn192
  c193 : compileFn P 193 = some fn193
  c194 : compileFn P 194 = some fn194
  c195 : compileFn P 195 = some fn195
  c196 : compileFn P 196 = some fn196
  c197 : compileFn P 197 = some fn197
  c198 : compileFn P 198 = some fn198
  c199 : compileFn P 199 = some fn199
  c200 : compileFn P 200 = some fn200
  c201 : compileFn P 201 = some fn201
  c202 : compileFn P 202 = some fn202
  c203 : compileFn P 203 = some fn203
  c204 : compileFn P 204 = some fn204
  c205 : compileFn P 205 = some fn205
  c206 : compileFn P 206 = some fn206
  c209 : compileFn P 209 = some fn209
  c210 : compileFn P 210 = some fn210
  c211 : compileFn P 211 = some fn211
  c212 : compileFn P 212 = some fn212
  c213 : compileFn P 213 = some fn213
  c214 : compileFn P 214 = some fn214
  c215 : compileFn P 215 = some fn215
  c216 : compileFn P 216 = some fn216
  c217 : compileFn P 217 = some fn217
  c223 : compileFn P 223 = some fn223
  c227 : compileFn P 227 = some fn227
  c230 : compileFn P 230 = some fn230
  c233 : compileFn P 233 = some fn233
  c234 : compileFn P 234 = some fn234
  c240 : compileFn P 240 = some fn240
  c241 : compileFn P 241 = some fn241
  c242 : compileFn P 242 = some fn242
  c247 : compileFn P 247 = some fn247
  c249 : compileFn P 249 = some fn249
  c250 : compileFn P 250 = some fn250
end Go.Abs
namespace Go.Abs
def whenS (c : Bool) (e : Int) : Int := if c then e else 0
def rangeS (n lo hi : Int) : Int := if n < lo ∨ hi < n then 3 else 0
def firstS : List Int → Int
  | [] => 0
  | x :: xs => if x = 0 then firstS xs else x
def letterS (c : UInt8) : Bool := (65 ≤ c.toNat && c.toNat ≤ 90) || (97 ≤ c.toNat && c.toNat ≤ 122)
def digitS (c : UInt8) : Bool := 48 ≤ c.toNat && c.toNat ≤ 57
def restS (c : UInt8) : Bool := letterS c || digitS c || c.toNat == 95
def nameS : List UInt8 → Bool
  | [] => false
  | c :: r => decide (r.length < 24) && letterS c && r.all restS
section
variable {P : Program} (T : Tbl P) {h : AHeap}
include T
theorem r106 (c : Bool) (e : Int) : RCall P 106 [.bool c, .int .i64 e] h (fun v _ => v = .int .i64 (whenS c e)) := by
  refine .of T.mix T.c106 ?_
  unfold fn106
  simp only [IOp.o, IOp.x, Opd.z, Opd.w]
  cases c <;> simp only [wset] <;> rfl
theorem r22 (c : Bool) (e : Int) : RCall P 22 [.bool c, .int .i64 e] h (fun v _ => v = .int .i64 (whenS c e)) := by
  refine .of T.mix T.c22 ?_
  unfold fn22
  simp only [IOp.o, IOp.x, Opd.z, Opd.w]
  cases c <;> simp only [wset] <;> rfl
theorem r108 (n lo hi : Int) : RCall P 108 [.int .i64 n, .int .i64 lo, .int .i64 hi] h (fun v _ => v = .int .i64 (rangeS n lo hi)) := by
  refine .of T.mix T.c108 ?_
  unfold fn108
  simp only [IOp.o, IOp.x, Opd.z, Opd.w]
  simp +contextual only [wset, wsplit, decide_true, decide_false]
  refine ⟨fun h1 => ?_, fun h1 => ?_⟩ <;>
  · refine WF.res T.c106 (r106 T _ _) ?_
    rintro _ g rfl
    simp only [wset]
    simp [whenS, rangeS, h1]
theorem r35 (n lo hi : Int) : RCall P 35 [.int .i64 n, .int .i64 lo, .int .i64 hi] h (fun v _ => v = .int .i64 (rangeS n lo hi)) := by
  refine .of T.mix T.c35 ?_
  unfold fn35
  simp only [IOp.o, IOp.x, Opd.z, Opd.w]
  simp +contextual only [wset, wsplit, decide_true, decide_false]
  refine ⟨fun h1 => ?_, fun h1 => ?_⟩ <;>
  · refine WF.res T.c22 (r22 T _ _) ?_
    rintro _ g rfl
    simp only [wset]
    simp [whenS, rangeS, h1]
theorem r66 (n : Int) : RCall P 66 [.int .i64 n] h (fun v _ => v = .int .i64 (rangeS n 0 255)) := by
  refine .of T.mix T.c66 ?_
  unfold fn66
  simp only [IOp.o, IOp.x, Opd.z, Opd.w]
  simp only [wset]
  refine WF.res T.c35 (r35 T _ _ _) ?_
  rintro _ g rfl
  simp only [wset]
theorem r105 {s : AV} {l : List Int} (hs : IsSl h s 1 (l.map intRow)) (hl : l.length < 2 ^ 63) : RCall P 105 [s] h (fun v _ => v = .int .i64 (firstS l)) := by
  refine .of T.mix T.c105 ?_
  unfold fn105
  simp only [IOp.o, IOp.x, Opd.z, Opd.w]
  have e1 : (l.map intRow).length = l.length := by simp
  simp only [wset, hs.lenG, e1]
  refine WL.inv T.mix (fun n ts h' => ∃ k : Nat, k ≤ l.length ∧ n = l.length - k ∧ h' = h ∧ firstS l = firstS (l.drop k) ∧ ts.length = 15 ∧ slot ts 5 = s ∧ slot ts 6 = .int .i64 l.length ∧ slot ts 7 = .int .i64 k) l.length
    ⟨0, by omega, rfl, rfl, rfl, rfl, rfl, rfl, rfl⟩ ?_
  rintro _ ts _ ⟨k, hk, rfl, rfl, hf, hlen, h5, h6, h7⟩
  rw [expl ts 15 hlen]
  by_cases hlt : k < l.length
  · have hd : l.drop k = l[k] :: l.drop (k + 1) := by simp
    have e2 : (l.map intRow)[k]'(by omega) = [AV.int .i64 l[k]] := by simp
    have e3 : (k : Int) < l.length := by omega
    simp +contextual (disch := omega) only [wset, wsplit, h5, h6, h7, e3, decide_true, hs.iadr, Int.toNat_natCast, hs.load1 _ e2, wrap_in]
    refine ⟨fun h1 => ?_, fun h1 => ⟨l.length - (k + 1), by omega, k + 1, by omega, rfl, ?_, rfl⟩⟩
    · rw [hf, hd, firstS, if_neg h1]
    · rw [hf, hd, firstS, if_pos (by omega)]
  · have e3 : ¬ (k : Int) < l.length := by omega
    have e4 : k = l.length := by omega
    simp +contextual (disch := omega) only [wset, h5, h6, h7, e3, decide_false, if_true]
    rw [hf, e4, List.drop_length]; rfl
theorem r98 {s : AV} {l : List Int} (hs : IsSl h s 1 (l.map intRow)) (hl : l.length < 2 ^ 63) : RCall P 98 [s] h (fun v _ => v = .int .i64 (firstS l)) := by
  refine .of T.mix T.c98 ?_
  unfold fn98
  simp only [IOp.o, IOp.x, Opd.z, Opd.w]
  have e1 : (l.map intRow).length = l.length := by simp
  simp only [wset, hs.lenG, e1]
  refine WL.inv T.mix (fun n ts h' => ∃ k : Nat, k ≤ l.length ∧ n = l.length - k ∧ h' = h ∧ firstS l = firstS (l.drop k) ∧ ts.length = 19 ∧ slot ts 0 = s ∧ slot ts 3 = .int .i64 k) l.length
    ⟨0, by omega, rfl, rfl, rfl, rfl, rfl, rfl⟩ ?_
  rintro _ ts _ ⟨k, hk, rfl, rfl, hf, hlen, h0, h3⟩
  rw [expl ts 19 hlen]
  by_cases hlt : k < l.length
  · have hd : l.drop k = l[k] :: l.drop (k + 1) := by simp
    have e2 : (l.map intRow)[k]'(by omega) = [AV.int .i64 l[k]] := by simp
    have e3 : (k : Int) < l.length := by omega
    simp +contextual (disch := omega) only [wset, wsplit, h0, h3, e3, e1, decide_true, hs.lenG, hs.iadr, Int.toNat_natCast, hs.load1 _ e2, wrap_in]
    refine ⟨fun h1 => ?_, fun h1 => ⟨l.length - (k + 1), by omega, k + 1, by omega, rfl, ?_, rfl⟩⟩
    · rw [hf, hd, firstS, if_neg h1]
    · rw [hf, hd, firstS, if_pos (by omega)]
  · have e3 : ¬ (k : Int) < l.length := by omega
    have e4 : k = l.length := by omega
    simp +contextual (disch := omega) only [wset, h0, h3, e1, e3, decide_false, hs.lenG, if_true]
    rw [hf, e4, List.drop_length]; rfl
theorem r199 (c : UInt8) : RCall P 199 [.int .u8 c.toNat] h (fun v _ => v = .bool (letterS c)) := by
  refine .of T.mix T.c199 ?_
  unfold fn199
  simp only [IOp.o, IOp.x, Opd.z, Opd.w]
  simp +contextual only [wset, wsplit, decide_true, decide_false]
  grind [letterS]
theorem r200 (c : UInt8) : RCall P 200 [.int .u8 c.toNat] h (fun v _ => v = .bool (digitS c)) := by
  refine .of T.mix T.c200 ?_
  unfold fn200
  simp only [IOp.o, IOp.x, Opd.z, Opd.w]
  simp +contextual only [wset, wsplit, decide_true, decide_false]
  grind [digitS]
theorem r163 (s : List UInt8) (hl : s.length < 2 ^ 63) : RCall P 163 [.str s] h (fun v _ => v = .bool (nameS s)) := by
  refine .of T.mix T.c163 ?_
  unfold fn163
  simp only [IOp.o, IOp.x, Opd.z, Opd.w]
  cases s with
  | nil =>
    simp only [wset, List.length_nil]
    simp only [show ((0 : Nat) : Int) = 0 from rfl, decide_true, wset]
    rfl
  | cons c r =>
    have e1 : ¬ (((c :: r).length : Nat) : Int) = 0 := by simp; omega
    simp +contextual only [wset, wsplit, e1, decide_true, decide_false]
    refine ⟨fun h1 => ?_, fun h1 => ?_⟩
    · have : ¬ r.length < 24 := by simp at h1; omega
      simp [nameS, this]
    · rw [ixs_0]
      simp only [wset]
      refine WF.res T.c199 (r199 T _) ?_
      rintro _ g rfl
      have hlt : r.length < 24 := by simp at h1; omega
      cases hc : letterS c with
      | false =>
        simp only [wset, Bool.not_false]
        simp [nameS, hc]
      | true =>
        simp only [wset, Bool.not_true]
        have key : nameS (c :: r) = r.all restS := by simp [nameS, hc, hlt]
        refine WL.inv T.mix (fun n ts h' => ∃ k : Nat, k ≤ r.length ∧ n = r.length - k ∧ Ext h h' ∧ r.all restS = (r.drop k).all restS ∧ ts.length = 42 ∧ slot ts 0 = .str (c :: r) ∧ slot ts 3 = .int .i64 (k + 1)) r.length
          ⟨0, by omega, rfl, ⟨_, rfl⟩, rfl, rfl, rfl, rfl⟩ ?_
        rintro _ ts _ ⟨k, hk, rfl, ⟨g', rfl⟩, hf, hlen, h0, h3⟩
        rw [expl ts 42 hlen]
        have hlc : (c :: r).length = r.length + 1 := rfl
        by_cases hlt : k < r.length
        · have hd : r.drop k = r[k] :: r.drop (k + 1) := by simp
          have e3 : (k : Int) + 1 < ((c :: r).length : Nat) := by omega
          have e4 : ixsF (.str (c :: r)) (.int .i64 (k + 1)) = some (.int .u8 r[k].toNat) := ixs_in (s := c :: r) (i := k + 1) (by omega)
          simp only [wset, h0, h3, e3, decide_true, e4]
          refine WF.res T.c199 (r199 T _) ?_
          rintro _ g1 rfl
          cases hx : letterS r[k] with
          | true =>
            simp (disch := omega) only [wset, Bool.not_true, wrap_in]
            exact ⟨_, by omega, k + 1, by omega, rfl, by rw [hf, hd, List.all_cons, restS, hx, Bool.true_or, Bool.true_or, Bool.true_and], rfl⟩
          | false =>
            simp only [wset, Bool.not_false, h0, h3, e4]
            refine WF.res T.c200 (r200 T _) ?_
            rintro _ g2 rfl
            cases hy : digitS r[k] with
            | true =>
              simp (disch := omega) only [wset, Bool.not_true, wrap_in]
              exact ⟨_, by omega, k + 1, by omega, rfl, by rw [hf, hd, List.all_cons, restS, hx, hy, Bool.or_true, Bool.true_or, Bool.true_and], rfl⟩
            | false =>
              simp +contextual (disch := omega) only [wset, wsplit, Bool.not_false, h0, h3, e4, wrap_in]
              refine ⟨fun h9 => ?_, fun h9 => ⟨_, by omega, k + 1, by omega, rfl, ?_, rfl⟩⟩
              · rw [key, hf, hd, List.all_cons, restS, hx, hy]; simp; omega
              · rw [hf, hd, List.all_cons, restS, hx, hy]; simp; omega
        · have e3 : ¬ (k : Int) + 1 < ((c :: r).length : Nat) := by omega
          have e4 : k = r.length := by omega
          simp only [wset, h0, h3, e3, decide_false, if_true]
          rw [key, hf, e4, List.drop_length]; rfl
theorem r99 (s : List UInt8) (hl : s.length < 2 ^ 63) : RCall P 99 [.str s] h (fun v _ => v = .int .i64 (whenS (!nameS s) 8)) := by
  refine .of T.mix T.c99 ?_
  unfold fn99
  simp only [IOp.o, IOp.x, Opd.z, Opd.w]
  simp only [wset]
  refine WF.res T.c163 (r163 T s hl) ?_
  rintro _ g rfl
  simp only [wset]
  refine WF.res T.c22 (r22 T _ _) ?_
  rintro _ g1 rfl
  simp only [wset]
end
end Go.Abs
namespace Go.Abs
def goodS : List UInt8 → Bool
  | [] => true
  | c :: r => letterS c && r.all restS
theorem name_good (s : List UInt8) : nameS s = (decide (s ≠ []) && decide (s.length ≤ 24) && goodS s) := by
  cases s with
  | nil => rfl
  | cons c r =>
    have : (r.length < 24) = ((c :: r).length ≤ 24) := by simp; omega
    simp only [nameS, goodS, this]
    simp [Bool.and_assoc]
theorem good_step {s : List UInt8} {k : Nat} (hk : k < s.length) : goodS (s.take (k + 1)) = (goodS (s.take k) && (if k = 0 then letterS s[k] else restS s[k])) := by
  cases s with
  | nil => simp at hk
  | cons c r =>
    cases k with
    | zero => simp [goodS]
    | succ k =>
      have hk' : k < r.length := by simpa using hk
      simp only [List.take_succ_cons, goodS, List.getElem_cons_succ]
      rw [List.take_add_one, List.getElem?_eq_getElem hk', Option.toList_some]
      rw [List.all_append, List.all_cons, List.all_nil, Bool.and_true, Bool.and_assoc, if_neg (by omega)]
theorem good_take {s : List UInt8} {k : Nat} (h : goodS (s.take k) = false) : goodS s = false := by
  cases s with
  | nil => simp [goodS] at h
  | cons c r =>
    cases k with
    | zero => simp [goodS] at h
    | succ k =>
      simp only [List.take_succ_cons, goodS, Bool.and_eq_false_iff] at h ⊢
      rcases h with h | h
      · exact .inl h
      · right
        rw [List.all_eq_false] at h ⊢
        obtain ⟨x, hx, hr⟩ := h
        exact ⟨x, List.mem_of_mem_take hx, hr⟩
theorem dec_lt {s : List UInt8} {i : Nat} (hi : i < s.length) (h : s[i].toNat < 128) : Utf8.decode ⟨⟨s⟩⟩ i = (s[i].toNat, 1) := by
  have hg : (ByteArray.get! ⟨⟨s⟩⟩ i).toNat = s[i].toNat := by
    simp [ByteArray.get!, hi]
  simp only [Utf8.decode, Nat.add_zero, hg, if_pos h]
theorem dec_ge {s : List UInt8} {i : Nat} (hi : i < s.length) (h : 128 ≤ s[i].toNat) : 128 ≤ (Utf8.decode ⟨⟨s⟩⟩ i).1 := by
  have hg : (ByteArray.get! ⟨⟨s⟩⟩ i).toNat = s[i].toNat := by
    simp [ByteArray.get!, hi]
  simp only [Utf8.decode, Nat.add_zero, hg]
  rw [if_neg (by omega)]
  simp only [Utf8.runeError]
  repeat' split
  all_goals first
    | (simp only; omega)
    | (simp only [Bool.and_eq_true, decide_eq_true_eq] at *; omega)
section
variable {P : Program} (T : Tbl P) {h : AHeap}
include T
theorem r107 (s : List UInt8) : RCall P 107 [.str s] h (fun v _ => v = .bool (nameS s)) := by
  refine .of T.mix T.c107 ?_
  unfold fn107
  simp only [IOp.o, IOp.x, Opd.z, Opd.w]
  simp only [wset, hset]
  refine WL.inv T.mix (fun n ts h' => ∃ k : Nat, k ≤ s.length ∧ n = s.length - k ∧ h' = h ++ [.iter s k] ∧ goodS (s.take k) = true ∧ ts.length = 54 ∧ slot ts 0 = .str s ∧ slot ts 8 = .ptr h.length 0) s.length
    ⟨0, by omega, rfl, rfl, rfl, rfl, rfl, rfl⟩ ?_
  rintro _ ts _ ⟨k, hk, rfl, rfl, hf, hlen, h0, h8⟩
  rw [expl ts 54 hlen]
  by_cases hlt : k < s.length
  · have hstep := good_step hlt
    rw [hf, Bool.true_and] at hstep
    obtain ⟨c, w, hdec, hcw⟩ : ∃ c w, Utf8.decode ⟨⟨s⟩⟩ k = (c, w) ∧ (c = s[k].toNat ∧ w = 1 ∨ 128 ≤ c ∧ 128 ≤ s[k].toNat) := by
      by_cases hc : s[k].toNat < 128
      · exact ⟨_, _, dec_lt hlt hc, .inl ⟨rfl, rfl⟩⟩
      · exact ⟨_, _, rfl, .inr ⟨dec_ge hlt (by omega), by omega⟩⟩
    have hbad : (if k = 0 then letterS s[k] else restS s[k]) = false → AV.bool false = AV.bool (nameS s) := fun hb => by
      rw [hb] at hstep
      rw [name_good, good_take hstep, Bool.and_false]
    have hgood : ∀ w', c = s[k].toNat ∧ w' = 1 → (if k = 0 then letterS s[k] else restS s[k]) = true → ∃ m, m < s.length - k ∧ ∃ k_1, k_1 ≤ s.length ∧ m = s.length - k_1 ∧ h ++ [ABlk.iter s (k + w')] = h ++ [ABlk.iter s k_1] ∧ goodS (List.take k_1 s) = true ∧ True := fun w' hw hb => by
      rw [hb] at hstep
      exact ⟨_, by omega, k + 1, by omega, rfl, by rw [hw.2], hstep, trivial⟩
    have hl : letterS s[k] = (decide (65 ≤ s[k].toNat) && decide (s[k].toNat ≤ 90) || decide (97 ≤ s[k].toNat) && decide (s[k].toNat ≤ 122)) := rfl
    have hr : restS s[k] = (letterS s[k] || (decide (48 ≤ s[k].toNat) && decide (s[k].toNat ≤ 57)) || s[k].toNat == 95) := rfl
    have h0' : ((k : Int) = 0) = (k = 0) := by simp
    by_cases a1 : (65 : Int) ≤ c <;> by_cases a2 : (c : Int) ≤ 90 <;> by_cases a3 : (97 : Int) ≤ c <;> by_cases a4 : (c : Int) ≤ 122 <;> first | (exfalso; omega) | skip
    all_goals by_cases a5 : (48 : Int) ≤ c <;> by_cases a6 : (c : Int) ≤ 57 <;> by_cases a7 : (c : Int) = 95 <;> first | (exfalso; omega) | skip
    all_goals first | have b7 := eq_false a7 | have b7 := eq_true a7
    all_goals simp only [wset, hset, h0, h8, nextB, hlt, if_true, hdec, a1, a2, a3, a4, a5, a6, b7, decide_true, decide_false, Bool.not_true, Bool.not_false]
    all_goals first
      | exact hgood _ (by omega) (by grind)
      | (by_cases hk0 : (k : Int) = 0 <;> simp only [wset, hset, hk0, decide_true, decide_false, Bool.not_true, Bool.not_false] <;> first
          | exact hbad (by grind)
          | exact hgood _ (by omega) (by grind))
      | exact hbad (by grind)
  · simp only [wset, hset, h0, h8, nextB, hlt, if_false, if_true]
    have e4 : k = s.length := by omega
    rw [e4, List.take_length] at hf
    by_cases he : s = [] <;> simp only [wset, he, decide_true, decide_false, ne_eq, not_true_eq_false, not_false_eq_true]
    · rfl
    · rw [name_good, hf]; simp [he]; omega
end
end Go.Abs
namespace Go.Abs
abbrev Pk := Int × Int
structure Hor where
  name : List UInt8
  err : Int
  picks : List Pk
abbrev pkRow (p : Pk) : List AV := [.int .i64 p.1, .int .i64 p.2]
abbrev horA (H : Hor) (s : AV) : AV := .agg [.str H.name, .int .i64 H.err, s]
def chkPicksS : Int → List Pk → Int
  | _, [] => 0
  | last, p :: ps =>
    if firstS [rangeS p.1 0 255, rangeS p.2 0 100000, whenS (decide (p.1 ≤ last)) 11] = 0 then chkPicksS p.1 ps
    else firstS [rangeS p.1 0 255, rangeS p.2 0 100000, whenS (decide (p.1 ≤ last)) 11]
def headS (H : Hor) : Int := firstS [whenS (!nameS H.name) 8, rangeS H.err 0 1000, whenS (decide ((H.picks.length : Int) = 0)) 12, whenS (decide (256 < (H.picks.length : Int))) 5]
def chkHorS (H : Hor) : Int := if headS H = 0 then chkPicksS (-1) H.picks else headS H
theorem first_neg (x r : Int) : firstS [rangeS x 0 255, r, whenS false 11] = firstS [rangeS x 0 255, r, whenS (decide (x ≤ -1)) 11] := by
  by_cases hx : x ≤ -1
  · have : rangeS x 0 255 = 3 := by unfold rangeS; rw [if_pos (by omega)]
    simp [firstS, this]
  · simp [hx]
section
variable {P : Program} (T : Tbl P) {h : AHeap}
include T
theorem r26 {H : Hor} {s : AV} (hs : IsSl h s 2 (H.picks.map pkRow)) (hl : H.picks.length < 2 ^ 63) : RCall P 26 [horA H s] h (fun v _ => v = .int .i64 (chkHorS H)) := by
  refine .of T.mix T.c26 ?_
  unfold fn26
  simp only [wset, hset, dset, bset, reduceAdd, reduceMul, reduceLeDiff, reduceEqDiff, hs.one]
  refine WF.res T.c107 (r107 T _) ?_
  rintro _ g1 rfl
  simp only [wset, hset, dset, bset, reduceAdd, reduceMul, reduceLeDiff, reduceEqDiff]
  refine WF.res T.c106 (r106 T _ _) ?_
  rintro _ g2 rfl
  simp only [wset, hset, dset, bset, reduceAdd, reduceMul, reduceLeDiff, reduceEqDiff]
  refine WF.res T.c108 (r108 T _ _ _) ?_
  rintro _ g3 rfl
  simp only [wset, hset, dset, bset, reduceAdd, reduceMul, reduceLeDiff, reduceEqDiff, hs.lenm]
  refine WF.res T.c106 (r106 T _ _) ?_
  rintro _ g4 rfl
  simp only [wset, hset, dset, bset, reduceAdd, reduceMul, reduceLeDiff, reduceEqDiff, hs.lenm]
  refine WF.res T.c106 (r106 T _ _) ?_
  rintro _ g5 rfl
  simp only [wset, hset, dset, bset, reduceAdd, reduceMul, reduceLeDiff, reduceEqDiff]
  refine WF.res T.c105 (r105 T (isSl_ints [_, _, _, _]) (by simp)) ?_
  rintro _ g6 rfl
  simp only [wset, hset, dset, bset, reduceAdd, reduceMul, reduceLeDiff, reduceEqDiff, wsplit, hs.lenm]
  refine ⟨fun h1 => congrArg (AV.int .i64) (if_neg (show ¬ headS H = 0 from h1)).symm, fun h1 => ?_⟩
  have key : chkHorS H = chkPicksS (-1) H.picks := if_pos (show headS H = 0 from Decidable.of_not_not h1)
  refine WL.inv T.mix (fun n ts h' => ∃ (k : Nat) (last : Int) (g : AHeap), k ≤ H.picks.length ∧ n = H.picks.length - k ∧ h' = h ++ [.cells [.str H.name, .int .i64 H.err, s] true false] ++ g ∧ chkHorS H = chkPicksS last (H.picks.drop k) ∧ ts.length = 57 ∧ slot ts 1 = .ptr h.length 0 ∧ slot ts 32 = s ∧ slot ts 33 = .int .i64 H.picks.length ∧ slot ts 34 = .int .i64 k ∧ slot ts 4 = .int .i64 last) H.picks.length
    ⟨0, -1, g1 ++ g2 ++ g3 ++ g4 ++ g5 ++ _ ++ g6, by omega, rfl, by simp only [List.append_assoc]; rfl, key, rfl, rfl, rfl, rfl, rfl, rfl⟩ ?_
  rintro _ ts _ ⟨k, last, g, hk, rfl, rfl, hf, hlen, t1, t32, t33, t34, t4⟩
  rw [expl ts 57 hlen]
  by_cases hlt : k < H.picks.length
  · have hd : H.picks.drop k = H.picks[k] :: H.picks.drop (k + 1) := by simp
    have e3 : (k : Int) < H.picks.length := by omega
    simp only [wset, hset, dset, bset, reduceAdd, reduceMul, reduceLeDiff, reduceEqDiff, t1, t32, t33, t34, t4, e3, decide_true, hs.ixm hlt, hs.ldm hlt]
    refine WF.res T.c108 (r108 T _ _ _) ?_
    rintro _ g1 rfl
    simp only [wset, hset, dset, bset, reduceAdd, reduceMul, reduceLeDiff, reduceEqDiff]
    refine WF.res T.c108 (r108 T _ _ _) ?_
    rintro _ g2 rfl
    simp only [wset, hset, dset, bset, reduceAdd, reduceMul, reduceLeDiff, reduceEqDiff]
    refine WF.res T.c106 (r106 T _ _) ?_
    rintro _ g3 rfl
    simp only [wset, hset, dset, bset, reduceAdd, reduceMul, reduceLeDiff, reduceEqDiff]
    refine WF.res T.c105 (r105 T (isSl_ints [_, _, _]) (by simp)) ?_
    rintro _ g4 rfl
    simp only [wset, hset, dset, bset, reduceAdd, reduceMul, reduceLeDiff, reduceEqDiff, wsplit, wrapN (show k + 1 < 2 ^ 63 by omega)]
    refine ⟨fun h1 => ?_, fun h1 => ⟨_, ?_, k + 1, H.picks[k].1, _, by omega, rfl, by simp only [List.append_assoc]; rfl, ?_, rfl, rfl⟩⟩
    · rw [hf, hd, chkPicksS, if_neg h1]
    · omega
    · rw [hf, hd, chkPicksS, if_pos (Decidable.of_not_not h1)]
  · have e3 : ¬ (k : Int) < H.picks.length := by omega
    have e4 : k = H.picks.length := by omega
    simp only [wset, hset, dset, bset, reduceAdd, reduceMul, reduceLeDiff, reduceEqDiff, t1, t32, t33, t34, t4, e3, decide_false, if_true]
    rw [hf, e4, List.drop_length]; rfl
theorem r21 {H : Hor} {s : AV} (hs : IsSl h s 2 (H.picks.map pkRow)) (hl : H.picks.length < 2 ^ 63) (hn : H.name.length < 2 ^ 63) : RCall P 21 [horA H s] h (fun v _ => v = .int .i64 (chkHorS H)) := by
  refine .of T.mix T.c21 ?_
  unfold fn21
  simp only [wset, hset, dset, bset, reduceAdd, reduceMul, reduceLeDiff, reduceEqDiff, hs.one]
  refine WF.res T.c99 (r99 T _ hn) ?_
  rintro _ g1 rfl
  simp only [wset, hset, dset, bset, reduceAdd, reduceMul, reduceLeDiff, reduceEqDiff]
  refine WF.res T.c35 (r35 T _ _ _) ?_
  rintro _ g3 rfl
  simp only [wset, hset, dset, bset, reduceAdd, reduceMul, reduceLeDiff, reduceEqDiff, hs.lenm]
  refine WF.res T.c22 (r22 T _ _) ?_
  rintro _ g4 rfl
  simp only [wset, hset, dset, bset, reduceAdd, reduceMul, reduceLeDiff, reduceEqDiff, hs.lenm]
  refine WF.res T.c22 (r22 T _ _) ?_
  rintro _ g5 rfl
  simp only [wset, hset, dset, bset, reduceAdd, reduceMul, reduceLeDiff, reduceEqDiff]
  refine WF.res T.c98 (r98 T (isSl_ints [_, _, _, _]) (by simp)) ?_
  rintro _ g6 rfl
  simp only [wset, hset, dset, bset, reduceAdd, reduceMul, reduceLeDiff, reduceEqDiff, wsplit, hs.lenm]
  refine ⟨fun h1 => congrArg (AV.int .i64) (if_neg (show ¬ headS H = 0 from h1)).symm, fun h1 => ?_⟩
  have key : chkHorS H = chkPicksS (-1) H.picks := if_pos (show headS H = 0 from Decidable.of_not_not h1)
  refine WL.inv T.mix (fun n ts h' => ∃ (k : Nat) (last : Int) (g : AHeap), k ≤ H.picks.length ∧ n = H.picks.length - k ∧ h' = h ++ [.cells [.str H.name, .int .i64 H.err, s] true false] ++ g ∧ chkHorS H = chkPicksS last (H.picks.drop k) ∧ (k = 0 → last = -1) ∧ (∀ p, 0 < k → H.picks[k - 1]? = some p → last = p.1) ∧ ts.length = 73 ∧ slot ts 1 = .ptr h.length 0 ∧ slot ts 4 = .int .i64 k) H.picks.length
    ⟨0, -1, g1 ++ g3 ++ g4 ++ g5 ++ _ ++ g6, by omega, rfl, by simp only [List.append_assoc]; rfl, key, fun _ => rfl, fun _ hk => absurd hk (by omega), rfl, rfl, rfl⟩ ?_
  rintro _ ts _ ⟨k, last, g, hk, rfl, rfl, hf, hz, hp, hlen, t1, t4⟩
  rw [expl ts 73 hlen]
  by_cases hlt : k < H.picks.length
  · have hd : H.picks.drop k = H.picks[k] :: H.picks.drop (k + 1) := by simp
    have e3 : (k : Int) < H.picks.length := by omega
    simp only [wset, hset, dset, bset, reduceAdd, reduceMul, reduceLeDiff, reduceEqDiff, t1, t4, e3, decide_true, hs.lenm, hs.ixm hlt, hs.lfm (off := 0) hlt rfl]
    refine WF.res T.c66 (r66 T _) ?_
    rintro _ g1 rfl
    simp only [wset, hset, dset, bset, reduceAdd, reduceMul, reduceLeDiff, reduceEqDiff, t1, t4, hs.ixm hlt, hs.lfm (off := 1) hlt rfl]
    refine WF.res T.c35 (r35 T _ _ _) ?_
    rintro _ g2 rfl
    by_cases hk0 : k = 0
    · have e5 : ¬ (0 : Int) < k := by omega
      simp only [wset, hset, dset, bset, reduceAdd, reduceMul, reduceLeDiff, reduceEqDiff, t1, t4, e5, decide_false]
      refine WF.res T.c22 (r22 T _ _) ?_
      rintro _ g3 rfl
      simp only [wset, hset, dset, bset, reduceAdd, reduceMul, reduceLeDiff, reduceEqDiff]
      refine WF.res T.c98 (r98 T (isSl_ints [_, _, _]) (by simp)) ?_
      rintro _ g4 rfl
      simp only [wset, hset, dset, bset, reduceAdd, reduceMul, reduceLeDiff, reduceEqDiff, wsplit, wrapN (show k + 1 < 2 ^ 63 by omega), t4, first_neg]
      rw [hz hk0] at hf
      refine ⟨fun h1 => ?_, fun h1 => ⟨_, ?_, k + 1, H.picks[k].1, _, by omega, rfl, by simp only [List.append_assoc]; rfl, ?_, fun h => by omega, fun p _ hp => ?_, rfl⟩⟩
      · rw [hf, hd, chkPicksS, if_neg h1]
      · omega
      · rw [hf, hd, chkPicksS, if_pos (Decidable.of_not_not h1)]
      · rw [Nat.add_sub_cancel, List.getElem?_eq_getElem hlt] at hp; cases hp; rfl
    · have e5 : (0 : Int) < k := by omega
      have e6 : max (0 : Int) (IntKind.i64.wrap ((k : Int) - 1)) = ((k - 1 : Nat) : Int) := by rw [wrap_in (by omega) (by omega)]; omega
      have hlt' : k - 1 < H.picks.length := by omega
      simp only [wset, hset, dset, bset, reduceAdd, reduceMul, reduceLeDiff, reduceEqDiff, t1, t4, e5, decide_true, e6, hs.ixm hlt', hs.ixm hlt, hs.lfm (off := 0) hlt rfl, hs.lfm (off := 0) hlt' rfl]
      refine WF.res T.c22 (r22 T _ _) ?_
      rintro _ g3 rfl
      simp only [wset, hset, dset, bset, reduceAdd, reduceMul, reduceLeDiff, reduceEqDiff]
      refine WF.res T.c98 (r98 T (isSl_ints [_, _, _]) (by simp)) ?_
      rintro _ g4 rfl
      simp only [wset, hset, dset, bset, reduceAdd, reduceMul, reduceLeDiff, reduceEqDiff, wsplit, wrapN (show k + 1 < 2 ^ 63 by omega), t4]
      rw [hp H.picks[k - 1] (by omega) (by simp [hlt'])] at hf
      refine ⟨fun h1 => ?_, fun h1 => ⟨_, ?_, k + 1, H.picks[k].1, _, by omega, rfl, by simp only [List.append_assoc]; rfl, ?_, fun h => by omega, fun p _ hp => ?_, rfl⟩⟩
      · rw [hf, hd, chkPicksS, if_neg h1]
      · omega
      · rw [hf, hd, chkPicksS, if_pos (Decidable.of_not_not h1)]
      · rw [Nat.add_sub_cancel, List.getElem?_eq_getElem hlt] at hp; cases hp; rfl
  · have e3 : ¬ (k : Int) < H.picks.length := by omega
    have e4 : k = H.picks.length := by omega
    simp only [wset, hset, dset, bset, reduceAdd, reduceMul, reduceLeDiff, reduceEqDiff, t1, t4, e3, decide_false, if_true, hs.lenm]
    rw [hf, e4, List.drop_length]; rfl
end
end Go.Abs
namespace Go.Abs
def idxS {α : Type} (p : α → Bool) (L : List α) : Int :=
  match L.findIdx? p with
  | some i => (i : Int)
  | none => -1
abbrev horRow (x : Hor × AV) : List AV := [.str x.1.name, .int .i64 x.1.err, x.2]
structure HorOk (h : AHeap) (H : Hor) (s : AV) : Prop where
  sl : IsSl h s 2 (H.picks.map pkRow)
  len : H.picks.length < 2 ^ 63
  nm : H.name.length < 2 ^ 63
theorem HorOk.ext {h k : AHeap} {H : Hor} {s : AV} (o : HorOk h H s) (e : Ext h k) : HorOk k H s := ⟨o.sl.ext e, o.len, o.nm⟩
structure HorsOk (h : AHeap) (L : List (Hor × AV)) (s : AV) : Prop where
  sl : IsSl h s 3 (L.map horRow)
  len : L.length < 2 ^ 63
  all : ∀ x ∈ L, HorOk h x.1 x.2
theorem HorsOk.ext {h k : AHeap} {L : List (Hor × AV)} {s : AV} (o : HorsOk h L s) (e : Ext h k) : HorsOk k L s := ⟨o.sl.ext e, o.len, fun x hx => (o.all x hx).ext e⟩
theorem idx_any {α : Type} (p : α → Bool) (L : List α) : decide (0 ≤ idxS p L) = L.any p := by
  unfold idxS
  cases hx : L.findIdx? p with
  | none =>
    simp only [List.findIdx?_eq_none_iff] at hx
    have : L.any p = false := by rw [List.any_eq_false]; intro x hx'; simp [hx x hx']
    rw [this]; rfl
  | some i =>
    have h1 := List.findIdx?_isSome (xs := L) (p := p)
    rw [hx] at h1
    rw [← h1]; simp
section
variable {P : Program} (T : Tbl P) {h : AHeap}
include T
theorem r165 {α : Type} {row : α → List AV} {L : List α} {s f : AV} (hs : IsSl h s 3 (L.map row)) (hl : L.length < 2 ^ 63) (p : α → Bool)
    (hf : ∀ x, x ∈ L → ∀ k, Ext h k → VCall P f [.agg (row x)] k (fun v _ => v = .bool (p x))) : RCall P 165 [s, f] h (fun v _ => v = .int .i64 (idxS p L)) := by
  refine .of T.mix T.c165 ?_
  unfold fn165
  simp only [wset, hset, dset, bset, reduceAdd, reduceMul, reduceLeDiff, reduceEqDiff, hs.lenm]
  refine WL.inv T.mix (fun n ts h' => ∃ k : Nat, k ≤ L.length ∧ n = L.length - k ∧ Ext h h' ∧ L.findIdx? p = ((L.drop k).findIdx? p).map (· + k) ∧ ts.length = 19 ∧ slot ts 0 = s ∧ slot ts 1 = f ∧ slot ts 7 = .int .i64 L.length ∧ slot ts 8 = .int .i64 k) L.length
    ⟨0, by omega, rfl, Ext.refl h, by simp, rfl, rfl, rfl, rfl, rfl⟩ ?_
  rintro _ ts _ ⟨k, hk, rfl, ⟨g, rfl⟩, hi, hlen, t0, t1, t7, t8⟩
  rw [expl ts 19 hlen]
  by_cases hlt : k < L.length
  · have hd : L.drop k = L[k] :: L.drop (k + 1) := by simp
    have e3 : (k : Int) < L.length := by omega
    simp only [wset, hset, dset, bset, reduceAdd, reduceMul, reduceLeDiff, reduceEqDiff, t0, t1, t7, t8, e3, decide_true, hs.ixm hlt, hs.ldm hlt]
    refine WF.val (hf L[k] (by simp) _ ⟨g, rfl⟩) ?_
    rintro _ g1 rfl
    cases hp : p L[k] with
    | true =>
      simp only [wset, hset, dset, bset, reduceAdd, reduceMul, reduceLeDiff, reduceEqDiff, t8]
      rw [idxS, hi, hd, List.findIdx?_cons, hp]; simp
    | false =>
      simp only [wset, hset, dset, bset, reduceAdd, reduceMul, reduceLeDiff, reduceEqDiff, t8, wrapN (show k + 1 < 2 ^ 63 by omega)]
      refine ⟨_, ?_, k + 1, by omega, rfl, ?_, rfl⟩
      · omega
      · rw [hi, hd, List.findIdx?_cons, hp]
        simp only [Bool.false_eq_true, if_false, Option.map_map]
        congr 1; funext i; simp only [Function.comp]; omega
  · have e3 : ¬ (k : Int) < L.length := by omega
    have e4 : k = L.length := by omega
    simp only [wset, hset, dset, bset, reduceAdd, reduceMul, reduceLeDiff, reduceEqDiff, t0, t1, t7, t8, e3, decide_false, if_true]
    rw [idxS, hi, e4, List.drop_length]; rfl
theorem r158 {α : Type} {row : α → List AV} {L : List α} {s f : AV} (hs : IsSl h s 2 (L.map row)) (hl : L.length < 2 ^ 63) (p : α → Bool)
    (hf : ∀ x, x ∈ L → ∀ k, Ext h k → VCall P f [.agg (row x)] k (fun v _ => v = .bool (p x))) : RCall P 158 [s, f] h (fun v _ => v = .int .i64 (idxS p L)) := by
  refine .of T.mix T.c158 ?_
  unfold fn158
  simp only [wset, hset, dset, bset, reduceAdd, reduceMul, reduceLeDiff, reduceEqDiff, hs.lenm]
  refine WL.inv T.mix (fun n ts h' => ∃ k : Nat, k ≤ L.length ∧ n = L.length - k ∧ Ext h h' ∧ L.findIdx? p = ((L.drop k).findIdx? p).map (· + k) ∧ ts.length = 19 ∧ slot ts 0 = s ∧ slot ts 1 = f ∧ slot ts 7 = .int .i64 L.length ∧ slot ts 8 = .int .i64 k) L.length
    ⟨0, by omega, rfl, Ext.refl h, by simp, rfl, rfl, rfl, rfl, rfl⟩ ?_
  rintro _ ts _ ⟨k, hk, rfl, ⟨g, rfl⟩, hi, hlen, t0, t1, t7, t8⟩
  rw [expl ts 19 hlen]
  by_cases hlt : k < L.length
  · have hd : L.drop k = L[k] :: L.drop (k + 1) := by simp
    have e3 : (k : Int) < L.length := by omega
    simp only [wset, hset, dset, bset, reduceAdd, reduceMul, reduceLeDiff, reduceEqDiff, t0, t1, t7, t8, e3, decide_true, hs.ixm hlt, hs.ldm hlt]
    refine WF.val (hf L[k] (by simp) _ ⟨g, rfl⟩) ?_
    rintro _ g1 rfl
    cases hp : p L[k] with
    | true =>
      simp only [wset, hset, dset, bset, reduceAdd, reduceMul, reduceLeDiff, reduceEqDiff, t8]
      rw [idxS, hi, hd, List.findIdx?_cons, hp]; simp
    | false =>
      simp only [wset, hset, dset, bset, reduceAdd, reduceMul, reduceLeDiff, reduceEqDiff, t8, wrapN (show k + 1 < 2 ^ 63 by omega)]
      refine ⟨_, ?_, k + 1, by omega, rfl, ?_, rfl⟩
      · omega
      · rw [hi, hd, List.findIdx?_cons, hp]
        simp only [Bool.false_eq_true, if_false, Option.map_map]
        congr 1; funext i; simp only [Function.comp]; omega
  · have e3 : ¬ (k : Int) < L.length := by omega
    have e4 : k = L.length := by omega
    simp only [wset, hset, dset, bset, reduceAdd, reduceMul, reduceLeDiff, reduceEqDiff, t0, t1, t7, t8, e3, decide_false, if_true]
    rw [idxS, hi, e4, List.drop_length]; rfl
theorem r109 {α : Type} {row : α → List AV} {L : List α} {s f : AV} (hs : IsSl h s 3 (L.map row)) (hl : L.length < 2 ^ 63) (p : α → Bool)
    (hf : ∀ x, x ∈ L → ∀ k, Ext h k → VCall P f [.agg (row x)] k (fun v _ => v = .bool (p x))) : RCall P 109 [s, f] h (fun v _ => v = .bool (L.any p)) := by
  refine .of T.mix T.c109 ?_
  unfold fn109
  simp only [wset, hset, dset, bset, reduceAdd, reduceMul, reduceLeDiff, reduceEqDiff]
  refine WF.res T.c165 (r165 T hs hl p hf) ?_
  rintro _ g rfl
  simp only [wset, hset, dset, bset, reduceAdd, reduceMul, reduceLeDiff, reduceEqDiff, idx_any]
theorem r110 {H : Hor} {s : AV} {n : List UInt8} {e : Int} {s2 : AV} {b : Nat} (h1 : s.one = true) (hb : h[b]? = some (.cells [.str n, .int .i64 e, s2] true false)) : RCall P 110 [horA H s, .ptr b 0] h (fun v _ => v = .bool (decide (H.name = n))) := by
  refine .of T.mix T.c110 ?_
  unfold fn110
  have hlt := (List.getElem?_eq_some_iff.1 hb).1
  have hld : ∀ g : AHeap, loadF none (.ptr b 0) (fun z => (h ++ g)[z]?) = ldB none 0 (.cells [.str n, .int .i64 e, s2] true false) := fun g => loadF_at (by rw [at_app _ hlt]; exact hb)
  simp only [wset, hset, dset, bset, reduceAdd, reduceMul, reduceLeDiff, reduceEqDiff, h1, hld]
end
end Go.Abs
